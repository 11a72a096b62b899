/- Walks of functions of the program: each does what its Lean function says. Written by a program of this session (wip/xprint), which runs the printer of the kit with changes. -/
import Derived.Test.YthnmmiofhjbkeaaPAx0
import Derived.Test.YthnmmiofhjbkeaaPAx12
namespace Go.Proofs.Ythnmmiofhjbkeaa.PA
open Go.RowKit Go.Proofs.YthnmmiofhjbkeaaW.PrintWords Go.Proofs.YthnmmiofhjbkeaaW.PrintLast Go.Proofs.YthnmmiofhjbkeaaW.PrintMore
attribute [local go_sem] max2_int min2_int max_two min_two max_three min_three max_four min_four   -- for this text's walks alone
set_option linter.unusedVariables false
set_option linter.unusedSimpArgs false

/-! ### soundserviceref13_Valid: function 18 -/
def soundserviceref13_Valid.l0:Nat→List (S61)→Int→Int→List (S61)→Option (Bool)
 | 0,_,_,_,_=>none
 | k+1,x6,x7,x8,x196000=>if x8 < x7 then (if 0≤x8 then (if x8 < (x6.length:Int) then ((soundserviceref13_rate.f k ((rd_T61 x6 x8).f1.f0) ((rd_T61 x6 x8).f1.f1)).bind fun t198=>(if t198=true then (if x8=0 then (if ((rd_T61 x6 x8).f0)=0 then (if x8 > 0 then (if 0≤(wrap64 (x8 - 1)) then (if (wrap64 (x8 - 1)) < (x196000.length:Int) then (if ((rd_T61 x6 x8).f0)≤((rd_T61 x196000 (wrap64 (x8 - 1))).f0) then (some false) else (if ((rd_T61 x6 x8).f0) > 1099511627776 then (some false) else (soundserviceref13_Valid.l0 k x6 x7 (wrap64 (x8+1)) x196000))) else (none)) else (none)) else (if ((rd_T61 x6 x8).f0) > 1099511627776 then (some false) else (soundserviceref13_Valid.l0 k x6 x7 (wrap64 (x8+1)) x196000))) else (some false)) else (if x8 > 0 then (if 0≤(wrap64 (x8 - 1)) then (if (wrap64 (x8 - 1)) < (x196000.length:Int) then (if ((rd_T61 x6 x8).f0)≤((rd_T61 x196000 (wrap64 (x8 - 1))).f0) then (some false) else (if ((rd_T61 x6 x8).f0) > 1099511627776 then (some false) else (soundserviceref13_Valid.l0 k x6 x7 (wrap64 (x8+1)) x196000))) else (none)) else (none)) else (if ((rd_T61 x6 x8).f0) > 1099511627776 then (some false) else (soundserviceref13_Valid.l0 k x6 x7 (wrap64 (x8+1)) x196000)))) else (some false))) else (none)) else (none)) else (if (x196000.length:Int) ≥ 1 then (some (decide ((x196000.length:Int)≤64))) else (some false))
def soundserviceref13_Valid.f (k:Nat) (l0_0:List (S61)):Option (Bool):=soundserviceref13_Valid.l0 k l0_0 (l0_0.length:Int) 0 l0_0
theorem soundserviceref13_Valid.mono_l:∀ k,(∀ y0 y1 y2 y3,LeO (soundserviceref13_Valid.l0 k y0 y1 y2 y3) (soundserviceref13_Valid.l0 (k+1) y0 y1 y2 y3))
 | 0=>fun _ _ _ _ r h=>by simp [soundserviceref13_Valid.l0] at h
 | k+1=>by
  have ih0:=soundserviceref13_Valid.mono_l k
  ·intro y0 y1 y2 y3
   unfold soundserviceref13_Valid.l0
   repeat' first
   | (with_reducible exact ih0 _ _ _ _)
   | (with_reducible exact soundserviceref13_rate.mono _ _ _)
   | (with_reducible exact LeO.refl _)
   | (with_reducible exact LeO.none _)
   | (with_reducible refine LeO.ite ?_ ?_)
   | (with_reducible refine LeO.bind ?_ (fun _=>?_))
   | exact ih0 _ _ _ _
   | exact soundserviceref13_rate.mono _ _ _
   | exact LeO.none _
   | refine LeO.ite ?_ ?_
   | refine LeO.bind ?_ (fun _=>?_)
theorem soundserviceref13_Valid.mono:∀ a0 k,LeO (soundserviceref13_Valid.f k a0) (soundserviceref13_Valid.f (k+1) a0):=by
 intro a0 k
 have ih0:=soundserviceref13_Valid.mono_l k
 unfold soundserviceref13_Valid.f
 repeat' first
   | (with_reducible exact ih0 _ _ _ _)
   | (with_reducible exact soundserviceref13_rate.mono _ _ _)
   | (with_reducible exact LeO.refl _)
   | (with_reducible exact LeO.none _)
   | (with_reducible refine LeO.ite ?_ ?_)
   | (with_reducible refine LeO.bind ?_ (fun _=>?_))
   | exact ih0 _ _ _ _
   | exact soundserviceref13_rate.mono _ _ _
   | exact LeO.none _
   | refine LeO.ite ?_ ?_
   | refine LeO.bind ?_ (fun _=>?_)
def soundserviceref13_Valid.T4:Bool × List (List Nat × List Nat):=(true, [([], []),([0], [0]),([1], [1]),([2], [2]),([3,2], [3]),([4], [4]),([5,4], [4,5]),([6,4,4], [4,6]),([7], [7]),([8,7], [7,8]),([9,7], [7,9]),([7,10,4], [4,7,10]),([4,11], [4,11]),([12,7], [12]),([13], [13]),([14,13], [13,14]),([15,13,13], [13,15]),([16], [16]),([17,16], [16,17]),([16], [16]),([19,16], [16,19]),([16], [16]),([21,16], [16,21]),([20,22,16], [16,20,22]),([23,16], [16,23]),([24,16], [16,24]),([18,25,16], [16,18,25]),([16,26,13], [13,16,26]),([13,27], [13,27]),([28,16], [28]),([29], [29]),([30,29], [29,30]),([31,29], [29,31]),([29,32], [29,32])])
def soundserviceref13_Valid.B4:List Nat:=[0,1,3,7,15,31,63,127,255,511,1023,2047,4095,8191,16383,32767,65535,131071,262143,131071,655359,131071,2228223,7995391,16383999,33161215,67108863,134217727,268435455,536870911,1073741823,2147483647,4294967295,8589934591]
theorem soundserviceref13_Valid.tab4:rtab .any (opsOf Try.f18 4)=soundserviceref13_Valid.T4:=by kernel_rfl
theorem soundserviceref13_Valid.bits4:waitsOk soundserviceref13_Valid.T4.2 soundserviceref13_Valid.B4=true:=by kernel_rfl
abbrev soundserviceref13_Valid.q0:Array Bool:=#[false,false,false,false,false,false,false,false,false,false,false,false,false,false,false,false,false,false,false,false,false,false,false,false,false,false,false,false,false,false,false,false,false,false]
abbrev soundserviceref13_Valid.q1:Array Bool:=#[true,false,false,false,false,false,false,false,false,false,false,false,false,false,false,false,false,false,false,false,false,false,false,false,false,false,false,false,false,false,false,false,false,false]
abbrev soundserviceref13_Valid.q2:Array Bool:=#[true,true,false,false,false,false,false,false,false,false,false,false,false,false,false,false,false,false,false,false,false,false,false,false,false,false,false,false,false,false,false,false,false,false]
abbrev soundserviceref13_Valid.q3:Array Bool:=#[true,true,true,false,false,false,false,false,false,false,false,false,false,false,false,false,false,false,false,false,false,false,false,false,false,false,false,false,false,false,false,false,false,false]
abbrev soundserviceref13_Valid.q4:Array Bool:=#[true,true,true,true,false,false,false,false,false,false,false,false,false,false,false,false,false,false,false,false,false,false,false,false,false,false,false,false,false,false,false,false,false,false]
abbrev soundserviceref13_Valid.q5:Array Bool:=#[true,true,true,true,true,false,false,false,false,false,false,false,false,false,false,false,false,false,false,false,false,false,false,false,false,false,false,false,false,false,false,false,false,false]
abbrev soundserviceref13_Valid.q6:Array Bool:=#[true,true,true,true,true,true,false,false,false,false,false,false,false,false,false,false,false,false,false,false,false,false,false,false,false,false,false,false,false,false,false,false,false,false]
abbrev soundserviceref13_Valid.q7:Array Bool:=#[true,true,true,true,true,true,true,false,false,false,false,false,false,false,false,false,false,false,false,false,false,false,false,false,false,false,false,false,false,false,false,false,false,false]
abbrev soundserviceref13_Valid.q8:Array Bool:=#[true,true,true,true,true,true,true,true,false,false,false,false,false,false,false,false,false,false,false,false,false,false,false,false,false,false,false,false,false,false,false,false,false,false]
abbrev soundserviceref13_Valid.q9:Array Bool:=#[true,true,true,true,true,true,true,true,true,false,false,false,false,false,false,false,false,false,false,false,false,false,false,false,false,false,false,false,false,false,false,false,false,false]
abbrev soundserviceref13_Valid.q10:Array Bool:=#[true,true,true,true,true,true,true,true,true,true,false,false,false,false,false,false,false,false,false,false,false,false,false,false,false,false,false,false,false,false,false,false,false,false]
abbrev soundserviceref13_Valid.q11:Array Bool:=#[true,true,true,true,true,true,true,true,true,true,true,false,false,false,false,false,false,false,false,false,false,false,false,false,false,false,false,false,false,false,false,false,false,false]
abbrev soundserviceref13_Valid.q12:Array Bool:=#[true,true,true,true,true,true,true,true,true,true,true,true,false,false,false,false,false,false,false,false,false,false,false,false,false,false,false,false,false,false,false,false,false,false]
abbrev soundserviceref13_Valid.q13:Array Bool:=#[true,true,true,true,true,true,true,true,true,true,true,true,true,false,false,false,false,false,false,false,false,false,false,false,false,false,false,false,false,false,false,false,false,false]
abbrev soundserviceref13_Valid.q14:Array Bool:=#[true,true,true,true,true,true,true,true,true,true,true,true,true,true,false,false,false,false,false,false,false,false,false,false,false,false,false,false,false,false,false,false,false,false]
abbrev soundserviceref13_Valid.q15:Array Bool:=#[true,true,true,true,true,true,true,true,true,true,true,true,true,true,true,false,false,false,false,false,false,false,false,false,false,false,false,false,false,false,false,false,false,false]
abbrev soundserviceref13_Valid.q16:Array Bool:=#[true,true,true,true,true,true,true,true,true,true,true,true,true,true,true,true,false,false,false,false,false,false,false,false,false,false,false,false,false,false,false,false,false,false]
abbrev soundserviceref13_Valid.q17:Array Bool:=#[true,true,true,true,true,true,true,true,true,true,true,true,true,true,true,true,true,false,false,false,false,false,false,false,false,false,false,false,false,false,false,false,false,false]
abbrev soundserviceref13_Valid.q18:Array Bool:=#[true,true,true,true,true,true,true,true,true,true,true,true,true,true,true,true,true,true,false,false,false,false,false,false,false,false,false,false,false,false,false,false,false,false]
abbrev soundserviceref13_Valid.q19:Array Bool:=#[true,true,true,true,true,true,true,true,true,true,true,true,true,true,true,true,true,true,true,false,false,false,false,false,false,false,false,false,false,false,false,false,false,false]
abbrev soundserviceref13_Valid.q20:Array Bool:=#[true,true,true,true,true,true,true,true,true,true,true,true,true,true,true,true,true,true,true,true,false,false,false,false,false,false,false,false,false,false,false,false,false,false]
abbrev soundserviceref13_Valid.q21:Array Bool:=#[true,true,true,true,true,true,true,true,true,true,true,true,true,true,true,true,true,true,true,true,true,false,false,false,false,false,false,false,false,false,false,false,false,false]
abbrev soundserviceref13_Valid.q22:Array Bool:=#[true,true,true,true,true,true,true,true,true,true,true,true,true,true,true,true,true,true,true,true,true,true,false,false,false,false,false,false,false,false,false,false,false,false]
abbrev soundserviceref13_Valid.q23:Array Bool:=#[true,true,true,true,true,true,true,true,true,true,true,true,true,true,true,true,true,true,true,true,true,true,true,false,false,false,false,false,false,false,false,false,false,false]
abbrev soundserviceref13_Valid.q24:Array Bool:=#[true,true,true,true,true,true,true,true,true,true,true,true,true,true,true,true,true,true,true,true,true,true,true,true,false,false,false,false,false,false,false,false,false,false]
abbrev soundserviceref13_Valid.q25:Array Bool:=#[true,true,true,true,true,true,true,true,true,true,true,true,true,true,true,true,true,true,true,true,true,true,true,true,true,false,false,false,false,false,false,false,false,false]
abbrev soundserviceref13_Valid.q26:Array Bool:=#[true,true,true,true,true,true,true,true,true,true,true,true,true,true,true,true,true,true,true,true,true,true,true,true,true,true,false,false,false,false,false,false,false,false]
abbrev soundserviceref13_Valid.q27:Array Bool:=#[true,true,true,true,true,true,true,true,true,true,true,true,true,true,true,true,true,true,true,true,true,true,true,true,true,true,true,false,false,false,false,false,false,false]
abbrev soundserviceref13_Valid.q28:Array Bool:=#[true,true,true,true,true,true,true,true,true,true,true,true,true,true,true,true,true,true,true,true,true,true,true,true,true,true,true,true,false,false,false,false,false,false]
abbrev soundserviceref13_Valid.q29:Array Bool:=#[true,true,true,true,true,true,true,true,true,true,true,true,true,true,true,true,true,true,true,true,true,true,true,true,true,true,true,true,true,false,false,false,false,false]
abbrev soundserviceref13_Valid.q30:Array Bool:=#[true,true,true,true,true,true,true,true,true,true,true,true,true,true,true,true,true,true,true,true,true,true,true,true,true,true,true,true,true,true,false,false,false,false]
abbrev soundserviceref13_Valid.q31:Array Bool:=#[true,true,true,true,true,true,true,true,true,true,true,true,true,true,true,true,true,true,true,true,true,true,true,true,true,true,true,true,true,true,true,false,false,false]
abbrev soundserviceref13_Valid.q32:Array Bool:=#[true,true,true,true,true,true,true,true,true,true,true,true,true,true,true,true,true,true,true,true,true,true,true,true,true,true,true,true,true,true,true,true,false,false]
abbrev soundserviceref13_Valid.q33:Array Bool:=#[true,true,true,true,true,true,true,true,true,true,true,true,true,true,true,true,true,true,true,true,true,true,true,true,true,true,true,true,true,true,true,true,true,false]
abbrev soundserviceref13_Valid.q34:Array Bool:=#[true,true,true,true,true,true,true,true,true,true,true,true,true,true,true,true,true,true,true,true,true,true,true,true,true,true,true,true,true,true,true,true,true,true]
abbrev soundserviceref13_Valid.q35:Array Bool:=#[true,true,true,true,true,true,true,true,true,true,true,true,true,true,true,true,true,true,false,true,false,false,false,false,false,false,false,false,false,false,false,false,false,false]
abbrev soundserviceref13_Valid.q36:Array Bool:=#[true,true,true,true,true,true,true,true,true,true,true,true,true,true,true,true,true,true,false,true,false,true,false,false,false,false,false,false,false,false,false,false,false,false]
abbrev soundserviceref13_Valid.q37:Array Bool:=#[true,true,true,true,true,true,true,true,true,true,true,true,true,true,true,true,true,true,false,true,false,true,true,false,false,false,false,false,false,false,false,false,false,false]
abbrev soundserviceref13_Valid.q38:Array Bool:=#[true,true,true,true,true,true,true,true,true,true,true,true,true,true,true,true,true,true,true,true,false,true,true,false,false,false,false,false,false,false,false,false,false,false]
set_option maxHeartbeats 8000000 in
set_option maxRecDepth 100000 in
theorem soundserviceref13_Valid.calls (k:Nat) (A0_0:Option Addr) (c0_0:Nat) (l0_0:List (S61)) (r:Bool) (w:World) (hr0_0:Kd.C k61 w A0_0 l0_0.length l0_0) (hc0_0:l0_0.length≤c0_0) (h:soundserviceref13_Valid.f k l0_0=some r) :
  Calls Try.prog 18 #[.agg #[.slice A0_0 l0_0.length c0_0]] w fun e w'=>e=.returned (.bool r)∧Below w.heap.size w w':=by
 have hu24:=Try.underlying24
 have hu61:=Try.underlying61
 have hu27:=Try.underlying27
 have HR0_0:=Am hr0_0
 have HC0_0:=Am hc0_0
 clear hr0_0 hc0_0
 have HB:=Am (Below.refl w.heap.size w)
 have H:(soundserviceref13_Valid.l0 k l0_0 (l0_0.length:Int) 0 l0_0)=some r:=h
 clear h
 have H':=Am H
 clear H
 go_enter Try.func18,Try.ntmps18
 go_wp2_with (first|((with_reducible refine gate_dst (N:=1) rfl ?_);refine box_event ?hg (N:=1) ?hd (cs:=#[.slice A0_0 l0_0.length c0_0]) (t:=24) ?hr ?_;(case hd=>rfl);(case hg=>rfl);(case hr=>first|(go_simp;done)|(go_simp;rfl));intro gb195 hg w2 hbox hb;have n0_:=Am (below_step (by repeat (first|(with_reducible first|exact HB.out|apply bA|apply bN|apply bD)|exact HB.out)) hb);have n1_:=Am (hbox);have n2_:=Am ((by rw [hg];exact (below_size (by repeat (first|(with_reducible first|exact HB.out|apply bA|apply bN|apply bD)|exact HB.out))):w.heap.size≤gb195));have n3_:=Am ((by rw [hg];exact (below_size (by repeat (first|(with_reducible first|exact HB.out|apply bA|apply bN|apply bD)|exact HB.out))):w.heap.size≤gb195));clear HB;have HB:=n0_;have BK195:=n1_;have GW195:=n2_;have GE195:=n3_;clear n0_ n1_ n2_ n3_ hb hbox hg;have hcz3_0:w2.cell? ⟨gb195,0,none⟩=some (.slice A0_0 l0_0.length c0_0):=(blk_cell BK195.out 0).trans rfl;have hfz3_0:=blk_frozen BK195.out 0))
 go_loopg [8] k (fun kq v8 w'=>∃ (x8_1:Int),v8=.int .i64 x8_1∧Aside0 (soundserviceref13_Valid.l0 kq l0_0 (l0_0.length:Int) x8_1 l0_0=some r)∧Aside0 (kq≤k)∧Aside0 (w'.heap[gb195]?=some (.cells #[(.slice A0_0 l0_0.length c0_0)] 24 (0,0)))∧Aside0 (Below w.heap.size w w'))
 case atStart=>exact ⟨(0),(by first|rfl|(simp;done)|(simp [*];done)),H',⟨Nat.le_refl _⟩,⟨by (with_reducible repeat first|apply kN|apply kD|apply kA);exact BK195.out⟩,⟨by repeat (first|(with_reducible first|exact HB.out|apply bA|apply bN|apply bD|refine bS ?_ GE195.out)|exact HB.out)⟩⟩
 case round =>
  clear H'
  (try clear c1);(try clear p2);(try clear hcz3_0);(try clear hfz3_0)
  obtain ⟨x8_1,rfl,HA,HK1,BK195,HB⟩:=hrel
  cases gk with
  | zero=>exact absurd HA.out (by simp [soundserviceref13_Valid.l0])
  | succ k1 =>
   have H:=HA.out
   clear HA
   simp only [soundserviceref13_Valid.l0] at H
   by_cases c4:x8_1 < (l0_0.length:Int)
   ·rw [if_pos c4] at H
    have c4b0:decide (x8_1 < (l0_0.length:Int))=true:=decide_eq_true c4
    clear c4
    by_cases c5:0≤x8_1
    ·rw [if_pos c5] at H
     have c5b0:decide (0≤x8_1)=true:=decide_eq_true c5
     clear c5
     by_cases c6:x8_1 < (l0_0.length:Int)
     ·rw [if_pos c6] at H
      have c6b0:decide (x8_1 < (l0_0.length:Int))=true:=decide_eq_true c6
      clear c6
      replace H:=Option.bind_eq_some_iff.mp H
      obtain ⟨t198,A70,H⟩:=H
      replace H:(if t198=true then (if x8_1=0 then (if ((rd_T61 l0_0 x8_1).f0)=0 then (if x8_1 > 0 then (if 0≤(wrap64 (x8_1 - 1)) then (if (wrap64 (x8_1 - 1)) < (l0_0.length:Int) then (if ((rd_T61 l0_0 x8_1).f0)≤((rd_T61 l0_0 (wrap64 (x8_1 - 1))).f0) then (some false) else (if ((rd_T61 l0_0 x8_1).f0) > 1099511627776 then (some false) else (soundserviceref13_Valid.l0 k1 l0_0 (l0_0.length:Int) (wrap64 (x8_1+1)) l0_0))) else (none)) else (none)) else (if ((rd_T61 l0_0 x8_1).f0) > 1099511627776 then (some false) else (soundserviceref13_Valid.l0 k1 l0_0 (l0_0.length:Int) (wrap64 (x8_1+1)) l0_0))) else (some false)) else (if x8_1 > 0 then (if 0≤(wrap64 (x8_1 - 1)) then (if (wrap64 (x8_1 - 1)) < (l0_0.length:Int) then (if ((rd_T61 l0_0 x8_1).f0)≤((rd_T61 l0_0 (wrap64 (x8_1 - 1))).f0) then (some false) else (if ((rd_T61 l0_0 x8_1).f0) > 1099511627776 then (some false) else (soundserviceref13_Valid.l0 k1 l0_0 (l0_0.length:Int) (wrap64 (x8_1+1)) l0_0))) else (none)) else (none)) else (if ((rd_T61 l0_0 x8_1).f0) > 1099511627776 then (some false) else (soundserviceref13_Valid.l0 k1 l0_0 (l0_0.length:Int) (wrap64 (x8_1+1)) l0_0)))) else (some false))=some r:=H
      have A7:=Am A70
      clear A70
      by_cases c8:t198=true
      ·subst c8
       have H1:(if x8_1=0 then (if ((rd_T61 l0_0 x8_1).f0)=0 then (if x8_1 > 0 then (if 0≤(wrap64 (x8_1 - 1)) then (if (wrap64 (x8_1 - 1)) < (l0_0.length:Int) then (if ((rd_T61 l0_0 x8_1).f0)≤((rd_T61 l0_0 (wrap64 (x8_1 - 1))).f0) then (some false) else (if ((rd_T61 l0_0 x8_1).f0) > 1099511627776 then (some false) else (soundserviceref13_Valid.l0 k1 l0_0 (l0_0.length:Int) (wrap64 (x8_1+1)) l0_0))) else (none)) else (none)) else (if ((rd_T61 l0_0 x8_1).f0) > 1099511627776 then (some false) else (soundserviceref13_Valid.l0 k1 l0_0 (l0_0.length:Int) (wrap64 (x8_1+1)) l0_0))) else (some false)) else (if x8_1 > 0 then (if 0≤(wrap64 (x8_1 - 1)) then (if (wrap64 (x8_1 - 1)) < (l0_0.length:Int) then (if ((rd_T61 l0_0 x8_1).f0)≤((rd_T61 l0_0 (wrap64 (x8_1 - 1))).f0) then (some false) else (if ((rd_T61 l0_0 x8_1).f0) > 1099511627776 then (some false) else (soundserviceref13_Valid.l0 k1 l0_0 (l0_0.length:Int) (wrap64 (x8_1+1)) l0_0))) else (none)) else (none)) else (if ((rd_T61 l0_0 x8_1).f0) > 1099511627776 then (some false) else (soundserviceref13_Valid.l0 k1 l0_0 (l0_0.length:Int) (wrap64 (x8_1+1)) l0_0))))=some r:=by rw [if_pos rfl] at H;exact H
       clear H;have H:=H1;clear H1
       by_cases c9:x8_1=0
       ·rw [if_pos c9] at H
        have c9b0:(x8_1 == 0)=true:=beq_iff_eq.mpr c9
        have c9b1:(x8_1 != 0)=false:=bne_eq_false_iff_eq.mpr c9
        clear c9
        by_cases c10:((rd_T61 l0_0 x8_1).f0)=0
        ·rw [if_pos c10] at H
         have c10b0:(((rd_T61 l0_0 x8_1).f0) == 0)=true:=beq_iff_eq.mpr c10
         have c10b1:(((rd_T61 l0_0 x8_1).f0) != 0)=false:=bne_eq_false_iff_eq.mpr c10
         clear c10
         by_cases c11:x8_1 > 0
         ·rw [if_pos c11] at H
          exact absurd (beq_iff_eq.mp c9b0) (by omega)
         ·rw [if_neg c11] at H
          have c11b0:decide (0 < x8_1)=false:=decide_eq_false c11
          clear c11
          by_cases c12:((rd_T61 l0_0 x8_1).f0) > 1099511627776
          ·rw [if_pos c12] at H
           have c12b0:decide (1099511627776 < ((rd_T61 l0_0 x8_1).f0))=true:=decide_eq_true c12
           clear c12
           obtain rfl:=Option.some.inj H
           have p196:0≤(x8_1:Int):=of_decide_eq_true (by first|(with_reducible assumption)|assumption)
           have q196:x8_1 < (l0_0.length:Int):=of_decide_eq_true (by first|(with_reducible assumption)|assumption)
           obtain ⟨ad196,e196,hx196_0,hx196_1,hx196_2⟩:=at_T61 HR0_0.out x8_1 p196 q196
           cases e196
           replace hx196_0:=(HB.out.cell (World.block_lt_of_cell? w _ hx196_0)).trans hx196_0
           replace hx196_1:=(HB.out.cell (World.block_lt_of_cell? w _ hx196_1)).trans hx196_1
           replace hx196_2:=(HB.out.cell (World.block_lt_of_cell? w _ hx196_2)).trans hx196_2
           replace p196:=eq_true p196
           replace q196:=eq_true q196
           try go_wp2_with (first|((with_reducible refine gate_dst (N:=4) rfl ?_);refine box_event ?hg (N:=4) ?hd (cs:=#[.int .i64 0, .int .i64 0, .int .i64 0]) (t:=61) ?hr ?_;(case hd=>rfl);(case hg=>rfl);(case hr=>first|(go_simp;done)|(go_simp;rfl));intro gb197 hg w13 hbox hb;have n0_:=Am (blk_below (g:=gb195) (o:=.cells #[.slice (some ad196) l0_0.length c0_0] 24 (0,0)) (by (with_reducible repeat first|apply kN|apply kD|apply kA);exact BK195.out) hb);have n1_:=Am (below_step (by repeat (first|(with_reducible first|exact HB.out|apply bA|apply bN|apply bD|refine bS ?_ GE195.out)|exact HB.out)) hb);have n2_:=Am (hbox);have n3_:=Am ((by rw [hg];exact (below_size (by repeat (first|(with_reducible first|exact HB.out|apply bA|apply bN|apply bD|refine bS ?_ GE195.out)|exact HB.out))):w.heap.size≤gb197));have n4_:=Am ((by rw [hg];exact (below_size (by repeat (first|(with_reducible first|exact HB.out|apply bA|apply bN|apply bD|refine bS ?_ GE195.out)|exact HB.out))):w.heap.size≤gb197));have n5_:=Am ((by rw [hg];exact Nat.ne_of_lt (blk_lt (g:=gb195) (o:=.cells #[.slice (some ad196) l0_0.length c0_0] 24 (0,0)) (by (with_reducible repeat first|apply kN|apply kD|apply kA);exact BK195.out)):gb195≠gb197));have n6_:=Am (n5_.out.symm);clear BK195 HB;have BK195:=n0_;have HB:=n1_;have BK197:=n2_;have GW197:=n3_;have GE197:=n4_;have NB195_197:=n5_;have NB197_195:=n6_;clear n0_ n1_ n2_ n3_ n4_ n5_ n6_ hb hbox hg;have hnb14:=NB197_195.out;have hnc14:=NB195_197.out;have hcz15_0:w13.cell? ⟨gb197,0,none⟩=some (.int .i64 0):=(blk_cell BK197.out 0).trans rfl;have hcz15_1:w13.cell? ⟨gb197,1,none⟩=some (.int .i64 0):=(blk_cell BK197.out 1).trans rfl;have hcz15_2:w13.cell? ⟨gb197,2,none⟩=some (.int .i64 0):=(blk_cell BK197.out 2).trans rfl;have hfz15_0:=blk_frozen BK197.out 0;have hfz15_1:=blk_frozen BK197.out 1;have hfz15_2:=blk_frozen BK197.out 2))
           have n0_:Aside0 ((((w13.setCell ⟨gb197,0,none⟩ (.int .i64 ((rd_T61 l0_0 x8_1).f0))).setCell ⟨gb197,1,none⟩ (.int .i64 ((rd_T61 l0_0 x8_1).f1.f0))).setCell ⟨gb197,2,none⟩ (.int .i64 ((rd_T61 l0_0 x8_1).f1.f1))).heap[gb195]?=some (.cells #[.slice (some ad196) l0_0.length c0_0] 24 (0,0))):=⟨by (with_reducible repeat first|apply kN|apply kD|apply kA);refine blk_far ?_ NB195_197.out _;(with_reducible repeat first|apply kN|apply kD|apply kA);refine blk_far ?_ NB195_197.out _;(with_reducible repeat first|apply kN|apply kD|apply kA);refine blk_far ?_ NB195_197.out _;(with_reducible repeat first|apply kN|apply kD|apply kA);exact BK195.out⟩
           have n1_:Aside0 ((((w13.setCell ⟨gb197,0,none⟩ (.int .i64 ((rd_T61 l0_0 x8_1).f0))).setCell ⟨gb197,1,none⟩ (.int .i64 ((rd_T61 l0_0 x8_1).f1.f0))).setCell ⟨gb197,2,none⟩ (.int .i64 ((rd_T61 l0_0 x8_1).f1.f1))).heap[gb197]?=some (.cells #[.int .i64 ((rd_T61 l0_0 x8_1).f0), .int .i64 ((rd_T61 l0_0 x8_1).f1.f0), .int .i64 ((rd_T61 l0_0 x8_1).f1.f1)] 61 (0,0))):=⟨by (with_reducible repeat first|apply kN|apply kD|apply kA);refine blk_put (cs:=#[.int .i64 ((rd_T61 l0_0 x8_1).f0), .int .i64 ((rd_T61 l0_0 x8_1).f1.f0), .int .i64 0]) ?_ 2 _ rfl;(with_reducible repeat first|apply kN|apply kD|apply kA);refine blk_put (cs:=#[.int .i64 ((rd_T61 l0_0 x8_1).f0), .int .i64 0, .int .i64 0]) ?_ 1 _ rfl;(with_reducible repeat first|apply kN|apply kD|apply kA);refine blk_put (cs:=#[.int .i64 0, .int .i64 0, .int .i64 0]) ?_ 0 _ rfl;(with_reducible repeat first|apply kN|apply kD|apply kA);exact BK197.out⟩
           have n2_:Aside0 (Below w.heap.size w (((w13.setCell ⟨gb197,0,none⟩ (.int .i64 ((rd_T61 l0_0 x8_1).f0))).setCell ⟨gb197,1,none⟩ (.int .i64 ((rd_T61 l0_0 x8_1).f1.f0))).setCell ⟨gb197,2,none⟩ (.int .i64 ((rd_T61 l0_0 x8_1).f1.f1)))):=⟨by repeat (first|(with_reducible first|exact HB.out|apply bA|apply bN|apply bD|refine bS ?_ GE195.out|refine bS ?_ GE197.out)|exact HB.out)⟩
           (try clear BK195);(try clear BK197);(try clear HB)
           generalize (((w13.setCell ⟨gb197,0,none⟩ (.int .i64 ((rd_T61 l0_0 x8_1).f0))).setCell ⟨gb197,1,none⟩ (.int .i64 ((rd_T61 l0_0 x8_1).f1.f0))).setCell ⟨gb197,2,none⟩ (.int .i64 ((rd_T61 l0_0 x8_1).f1.f1)))=w16 at n0_ n1_ n2_ ⊢
           have BK195:=n0_;have BK197:=n1_;have HB:=n2_;clear n0_ n1_ n2_
           have n0_:=Am (kD BK195.out)
           have n1_:=Am (kD BK197.out)
           have n2_:=Am (bD HB.out)
           clear BK195 BK197 HB;have BK195:=n0_;have BK197:=n1_;have HB:=n2_;clear n0_ n1_ n2_
           refine start_ (n:=34) (S:=fun w'=>w'.cell? ⟨gb197,0,none⟩=some (.int .i64 ((rd_T61 l0_0 x8_1).f0))∧w'.cell? ⟨gb197,1,none⟩=some (.int .i64 ((rd_T61 l0_0 x8_1).f1.f0))∧w'.cell? ⟨gb197,2,none⟩=some (.int .i64 ((rd_T61 l0_0 x8_1).f1.f1))) (ds:=[]) soundserviceref13_Valid.q0 (by kernel_rfl) rfl rfl ⟨(blk_cell BK197.out 0).trans rfl,(blk_cell BK197.out 1).trans rfl,(blk_cell BK197.out 2).trans rfl⟩ (fun hHeld=>?_);refine with_tabW soundserviceref13_Valid.tab4 soundserviceref13_Valid.bits4 (fun HT_ HW_=>?_)
           generalize w16.drew=w17 at BK195 BK197 HB hHeld ⊢
           refine pure_ (i:=0) (N:=some 13) (v:=?_) (a':=?_) soundserviceref13_Valid.q1 rfl rfl (any_of HT_.out (by kernel_rfl)) (fun _ _ _ h=>h) (Or.inl ⟨by rfl,?_⟩) ?_ ?_
           rotate_left;(· intro w';go_simp;with_reducible rfl);rotate_left;(· simp only [pL,i64_w,i32_w];rfl)
           refine take_ (i:=1) (N:=some 14) (v:=?_) (a':=?_) soundserviceref13_Valid.q2 rfl rfl (take_ofW HT_.out HW_.out (by kernel_rfl)) (fun _ _ _ h=>h) (Or.inl ⟨by rfl,?_⟩) hHeld ?_ ?_
           rotate_left;(· rintro w' ⟨s0,s1,s2⟩;go_simp;with_reducible rfl);rotate_left;(· simp only [pL,i64_w,i32_w];rfl)
           refine one_ (i:=2) (N:=some 15) soundserviceref13_Valid.q3 rfl rfl (one_of HT_.out (by kernel_rfl)) (by decide) (fun K hK=>?_)
           refine goes_ Try.func31 (by kernel_rfl) rfl #[.agg #[.int .i64 ((rd_T61 l0_0 x8_1).f1.f0), .int .i64 ((rd_T61 l0_0 x8_1).f1.f1)]] (by rfl) rfl rfl (by (try simp only [List.map_toArray,List.map_cons,List.map_nil]);first|done|rfl|(simp only [List.length_drop,List.length_take];rfl)) ?_
           with_reducible refine (soundserviceref13_rate.calls k1 ((rd_T61 l0_0 x8_1).f1.f0) ((rd_T61 l0_0 x8_1).f1.f1) true _ A7.out).mono ?_
           rintro e w18 ⟨rfl,hb⟩
           refine ⟨_,rfl,?_⟩
           have n0_:=Am (blk_below (g:=gb195) (o:=.cells #[.slice (some ad196) l0_0.length c0_0] 24 (0,0)) (by (with_reducible repeat first|apply kN|apply kD|apply kA);exact BK195.out) hb)
           have n1_:=Am (blk_below (g:=gb197) (o:=.cells #[.int .i64 ((rd_T61 l0_0 x8_1).f0), .int .i64 ((rd_T61 l0_0 x8_1).f1.f0), .int .i64 ((rd_T61 l0_0 x8_1).f1.f1)] 61 (0,0)) (by (with_reducible repeat first|apply kN|apply kD|apply kA);exact BK197.out) hb)
           have n2_:=Am (below_step (by repeat (first|(with_reducible first|exact HB.out|apply bA|apply bN|apply bD|refine bS ?_ GE195.out|refine bS ?_ GE197.out)|exact HB.out)) hb)
           clear BK195 BK197 HB;have BK195:=n0_;have BK197:=n1_;have HB:=n2_;clear n0_ n1_ n2_;(try clear hb)
           refine hK.out _ _ ⟨(blk_cell BK197.out 0).trans rfl,(blk_cell BK197.out 1).trans rfl,(blk_cell BK197.out 2).trans rfl⟩ (fun hHeld=>?_)
           clear hK K
           refine norm_ (a':=?_) ?_ ?_
           rotate_left
           ·show Act.put _ (some 15) _=_
            simp only [pL,i64_w,i32_w]
            rfl
           refine pure_ (i:=3) (N:=some 16) (v:=?_) (a':=?_) soundserviceref13_Valid.q4 rfl rfl (any_of HT_.out (by kernel_rfl)) (fun _ _ _ h=>h) (Or.inl ⟨by rfl,?_⟩) ?_ ?_
           rotate_left;(· intro w';go_simp;with_reducible rfl);rotate_left;(· simp only [pL,i64_w,i32_w];rfl)
           refine pure_ (i:=4) (N:=some 17) (v:=?_) (a':=?_) soundserviceref13_Valid.q5 rfl rfl (any_of HT_.out (by kernel_rfl)) (fun _ _ _ h=>h) (Or.inl ⟨by rfl,?_⟩) ?_ ?_
           rotate_left;(· intro w';go_simp;with_reducible rfl);rotate_left;(· simp only [pL,i64_w,i32_w];rfl)
           refine pure_ (i:=5) (N:=some 18) (v:=?_) (a':=?_) soundserviceref13_Valid.q6 rfl rfl (any_of HT_.out (by kernel_rfl)) (fun _ _ _ h=>h) (Or.inl ⟨by rfl,?_⟩) ?_ ?_
           rotate_left;(· intro w';go_simp;with_reducible rfl);rotate_left;(· simp only [pL,i64_w,i32_w];rfl)
           refine pure_ (i:=6) (N:=some 19) (v:=?_) (a':=?_) soundserviceref13_Valid.q7 rfl rfl (any_of HT_.out (by kernel_rfl)) (fun _ _ _ h=>h) (Or.inl ⟨by rfl,?_⟩) ?_ ?_
           rotate_left;(· intro w';go_simp;with_reducible rfl);rotate_left;(· simp only [pL,i64_w,i32_w];rfl)
           refine pure_ (i:=7) (N:=some 20) (v:=?_) (a':=?_) soundserviceref13_Valid.q8 rfl rfl (any_of HT_.out (by kernel_rfl)) (fun _ _ _ h=>h) (Or.inl ⟨by rfl,?_⟩) ?_ ?_
           rotate_left;(· intro w';go_simp;with_reducible rfl);rotate_left;(· simp only [pL,i64_w,i32_w];rfl)
           refine pure_ (i:=8) (N:=some 21) (v:=?_) (a':=?_) soundserviceref13_Valid.q9 rfl rfl (any_of HT_.out (by kernel_rfl)) (fun _ _ _ h=>h) (Or.inl ⟨by rfl,?_⟩) ?_ ?_
           rotate_left;(· intro w';go_simp;with_reducible rfl);rotate_left;(· simp only [pL,i64_w,i32_w];rfl)
           refine take_ (i:=9) (N:=some 22) (v:=?_) (a':=?_) soundserviceref13_Valid.q10 rfl rfl (take_ofW HT_.out HW_.out (by kernel_rfl)) (fun _ _ _ h=>h) (Or.inl ⟨by rfl,?_⟩) hHeld ?_ ?_
           rotate_left;(· rintro w' ⟨s0,s1,s2⟩;go_simp;with_reducible rfl);rotate_left;(· simp only [pL,i64_w,i32_w];rfl)
           refine pure_ (i:=10) (N:=some 23) (v:=?_) (a':=?_) soundserviceref13_Valid.q11 rfl rfl (any_of HT_.out (by kernel_rfl)) (fun _ _ _ h=>h) (Or.inl ⟨by rfl,?_⟩) ?_ ?_
           rotate_left;(· intro w';go_simp;with_reducible rfl);rotate_left;(· simp only [pL,i64_w,i32_w];rfl)
           refine pure_ (i:=11) (N:=some 24) (v:=?_) (a':=?_) soundserviceref13_Valid.q12 rfl rfl (any_of HT_.out (by kernel_rfl)) (fun _ _ _ h=>h) (Or.inl ⟨by rfl,?_⟩) ?_ ?_
           rotate_left;(· intro w';go_simp;with_reducible rfl);rotate_left;(· simp only [pL,i64_w,i32_w];rfl)
           refine pure_ (i:=12) (N:=some 25) (v:=?_) (a':=?_) soundserviceref13_Valid.q13 rfl rfl (any_of HT_.out (by kernel_rfl)) (fun _ _ _ h=>h) (Or.inl ⟨by rfl,?_⟩) ?_ ?_
           rotate_left;(· intro w';go_simp;with_reducible rfl);rotate_left;(· simp only [pL,i64_w,i32_w];rfl)
           refine pure_ (i:=13) (N:=some 26) (v:=?_) (a':=?_) soundserviceref13_Valid.q14 rfl rfl (any_of HT_.out (by kernel_rfl)) (fun _ _ _ h=>h) (Or.inl ⟨by rfl,?_⟩) ?_ ?_
           rotate_left;(· intro w';go_simp;with_reducible rfl);rotate_left;(· simp only [pL,i64_w,i32_w];rfl)
           refine pure_ (i:=14) (N:=some 27) (v:=?_) (a':=?_) soundserviceref13_Valid.q15 rfl rfl (any_of HT_.out (by kernel_rfl)) (fun _ _ _ h=>h) (Or.inl ⟨by rfl,?_⟩) ?_ ?_
           rotate_left;(· intro w';go_simp;with_reducible rfl);rotate_left;(· simp only [pL,i64_w,i32_w];rfl)
           refine pure_ (i:=15) (N:=some 28) (v:=?_) (a':=?_) soundserviceref13_Valid.q16 rfl rfl (any_of HT_.out (by kernel_rfl)) (fun _ _ _ h=>h) (Or.inl ⟨by rfl,?_⟩) ?_ ?_
           rotate_left;(· intro w';go_simp;with_reducible rfl);rotate_left;(· simp only [pL,i64_w,i32_w];rfl)
           refine pure_ (i:=16) (N:=some 29) (v:=?_) (a':=?_) soundserviceref13_Valid.q17 rfl rfl (any_of HT_.out (by kernel_rfl)) (fun _ _ _ h=>h) (Or.inl ⟨by rfl,?_⟩) ?_ ?_
           rotate_left;(· intro w';go_simp;with_reducible rfl);rotate_left;(· simp only [pL,i64_w,i32_w];rfl)
           refine pure_ (i:=17) (N:=some 30) (v:=undef) (a':=?_) soundserviceref13_Valid.q18 rfl rfl (any_of HT_.out (by kernel_rfl)) (fun _ _ _ h=>h) (Or.inr ⟨by rfl,rfl⟩) ?_ ?_
           rotate_left
           ·simp only [pL,i64_w,i32_w]
            rfl
           refine pure_ (i:=18) (N:=some 31) (v:=undef) (a':=?_) soundserviceref13_Valid.q19 rfl rfl (any_of HT_.out (by kernel_rfl)) (fun _ _ _ h=>h) (Or.inr ⟨by rfl,rfl⟩) ?_ ?_
           rotate_left
           ·simp only [pL,i64_w,i32_w]
            rfl
           refine pure_ (i:=19) (N:=some 32) (v:=undef) (a':=?_) soundserviceref13_Valid.q20 rfl rfl (any_of HT_.out (by kernel_rfl)) (fun _ _ _ h=>h) (Or.inr ⟨by rfl,rfl⟩) ?_ ?_
           rotate_left
           ·simp only [pL,i64_w,i32_w]
            rfl
           refine pure_ (i:=20) (N:=some 33) (v:=undef) (a':=?_) soundserviceref13_Valid.q21 rfl rfl (any_of HT_.out (by kernel_rfl)) (fun _ _ _ h=>h) (Or.inr ⟨by rfl,rfl⟩) ?_ ?_
           rotate_left
           ·simp only [pL,i64_w,i32_w]
            rfl
           refine pure_ (i:=21) (N:=some 34) (v:=undef) (a':=?_) soundserviceref13_Valid.q22 rfl rfl (any_of HT_.out (by kernel_rfl)) (fun _ _ _ h=>h) (Or.inr ⟨by rfl,rfl⟩) ?_ ?_
           rotate_left
           ·simp only [pL,i64_w,i32_w]
            rfl
           refine pure_ (i:=22) (N:=some 35) (v:=undef) (a':=?_) soundserviceref13_Valid.q23 rfl rfl (any_of HT_.out (by kernel_rfl)) (fun _ _ _ h=>h) (Or.inr ⟨by rfl,rfl⟩) ?_ ?_
           rotate_left
           ·simp only [pL,i64_w,i32_w]
            rfl
           refine pure_ (i:=23) (N:=some 36) (v:=undef) (a':=?_) soundserviceref13_Valid.q24 rfl rfl (any_of HT_.out (by kernel_rfl)) (fun _ _ _ h=>h) (Or.inr ⟨by rfl,rfl⟩) ?_ ?_
           rotate_left
           ·simp only [pL,i64_w,i32_w]
            rfl
           refine pure_ (i:=24) (N:=some 37) (v:=undef) (a':=?_) soundserviceref13_Valid.q25 rfl rfl (any_of HT_.out (by kernel_rfl)) (fun _ _ _ h=>h) (Or.inr ⟨by rfl,rfl⟩) ?_ ?_
           rotate_left
           ·simp only [pL,i64_w,i32_w]
            rfl
           refine pure_ (i:=25) (N:=some 38) (v:=undef) (a':=?_) soundserviceref13_Valid.q26 rfl rfl (any_of HT_.out (by kernel_rfl)) (fun _ _ _ h=>h) (Or.inr ⟨by rfl,rfl⟩) ?_ ?_
           rotate_left
           ·simp only [pL,i64_w,i32_w]
            rfl
           refine pure_ (i:=26) (N:=some 39) (v:=undef) (a':=?_) soundserviceref13_Valid.q27 rfl rfl (any_of HT_.out (by kernel_rfl)) (fun _ _ _ h=>h) (Or.inr ⟨by rfl,rfl⟩) ?_ ?_
           rotate_left
           ·simp only [pL,i64_w,i32_w]
            rfl
           refine pure_ (i:=27) (N:=some 40) (v:=?_) (a':=?_) soundserviceref13_Valid.q28 rfl rfl (any_of HT_.out (by kernel_rfl)) (fun _ _ _ h=>h) (Or.inl ⟨by rfl,?_⟩) ?_ ?_
           rotate_left;(· intro w';go_simp;with_reducible rfl);rotate_left;(· simp only [pL,i64_w,i32_w];rfl)
           refine pure_ (i:=28) (N:=some 41) (v:=?_) (a':=?_) soundserviceref13_Valid.q29 rfl rfl (any_of HT_.out (by kernel_rfl)) (fun _ _ _ h=>h) (Or.inl ⟨by rfl,?_⟩) ?_ ?_
           rotate_left;(· intro w';go_simp;with_reducible rfl);rotate_left;(· simp only [pL,i64_w,i32_w];rfl)
           refine pure_ (i:=29) (N:=some 42) (v:=?_) (a':=?_) soundserviceref13_Valid.q30 rfl rfl (any_of HT_.out (by kernel_rfl)) (fun _ _ _ h=>h) (Or.inl ⟨by rfl,?_⟩) ?_ ?_
           rotate_left;(· intro w';go_simp;with_reducible rfl);rotate_left;(· simp only [pL,i64_w,i32_w];rfl)
           refine pure_ (i:=30) (N:=some 43) (v:=?_) (a':=?_) soundserviceref13_Valid.q31 rfl rfl (any_of HT_.out (by kernel_rfl)) (fun _ _ _ h=>h) (Or.inl ⟨by rfl,?_⟩) ?_ ?_
           rotate_left;(· intro w';go_simp;with_reducible rfl);rotate_left;(· simp only [pL,i64_w,i32_w];rfl)
           refine take_ (i:=31) (N:=some 44) (v:=?_) (a':=?_) soundserviceref13_Valid.q32 rfl rfl (take_ofW HT_.out HW_.out (by kernel_rfl)) (fun _ _ _ h=>h) (Or.inl ⟨by rfl,?_⟩) hHeld ?_ ?_
           rotate_left;(· rintro w' ⟨s0,s1,s2⟩;go_simp;with_reducible rfl);rotate_left;(· simp only [pL,i64_w,i32_w];rfl)
           refine pure_ (i:=32) (N:=some 45) (v:=?_) (a':=?_) soundserviceref13_Valid.q33 rfl rfl (any_of HT_.out (by kernel_rfl)) (fun _ _ _ h=>h) (Or.inl ⟨by rfl,?_⟩) ?_ ?_
           rotate_left;(· intro w';go_simp;with_reducible rfl);rotate_left;(· simp only [pL,i64_w,i32_w];rfl)
           refine pure_ (i:=33) (N:=some 46) (v:=?_) (a':=?_) soundserviceref13_Valid.q34 rfl rfl (any_of HT_.out (by kernel_rfl)) (fun _ _ _ h=>h) (Or.inl ⟨by rfl,?_⟩) ?_ ?_
           rotate_left;(· intro w';go_simp;with_reducible rfl);rotate_left;(· simp only [pL,i64_w,i32_w];rfl)
           refine done_ (done_of HT_.out (by kernel_rfl)) ?_
           try go_wp2
           go_ret
           exact ⟨by first|rfl|(simp [errW_none,errW_some] <;> rfl)|(simp [*,errW_none,errW_some] <;> rfl),by repeat (first|(with_reducible first|exact HB.out|apply bA|apply bN|apply bD|refine bS ?_ GE195.out|refine bS ?_ GE197.out)|exact HB.out)⟩
          ·rw [if_neg c12] at H
           have c12b0:decide (1099511627776 < ((rd_T61 l0_0 x8_1).f0))=false:=decide_eq_false c12
           clear c12
           have H':=Am H
           clear H
           have p196:0≤(x8_1:Int):=of_decide_eq_true (by first|(with_reducible assumption)|assumption)
           have q196:x8_1 < (l0_0.length:Int):=of_decide_eq_true (by first|(with_reducible assumption)|assumption)
           obtain ⟨ad196,e196,hx196_0,hx196_1,hx196_2⟩:=at_T61 HR0_0.out x8_1 p196 q196
           cases e196
           replace hx196_0:=(HB.out.cell (World.block_lt_of_cell? w _ hx196_0)).trans hx196_0
           replace hx196_1:=(HB.out.cell (World.block_lt_of_cell? w _ hx196_1)).trans hx196_1
           replace hx196_2:=(HB.out.cell (World.block_lt_of_cell? w _ hx196_2)).trans hx196_2
           replace p196:=eq_true p196
           replace q196:=eq_true q196
           try go_wp2_with (first|((with_reducible refine gate_dst (N:=4) rfl ?_);refine box_event ?hg (N:=4) ?hd (cs:=#[.int .i64 0, .int .i64 0, .int .i64 0]) (t:=61) ?hr ?_;(case hd=>rfl);(case hg=>rfl);(case hr=>first|(go_simp;done)|(go_simp;rfl));intro gb197 hg w19 hbox hb;have n0_:=Am (blk_below (g:=gb195) (o:=.cells #[.slice (some ad196) l0_0.length c0_0] 24 (0,0)) (by (with_reducible repeat first|apply kN|apply kD|apply kA);exact BK195.out) hb);have n1_:=Am (below_step (by repeat (first|(with_reducible first|exact HB.out|apply bA|apply bN|apply bD|refine bS ?_ GE195.out)|exact HB.out)) hb);have n2_:=Am (hbox);have n3_:=Am ((by rw [hg];exact (below_size (by repeat (first|(with_reducible first|exact HB.out|apply bA|apply bN|apply bD|refine bS ?_ GE195.out)|exact HB.out))):w.heap.size≤gb197));have n4_:=Am ((by rw [hg];exact (below_size (by repeat (first|(with_reducible first|exact HB.out|apply bA|apply bN|apply bD|refine bS ?_ GE195.out)|exact HB.out))):w.heap.size≤gb197));have n5_:=Am ((by rw [hg];exact Nat.ne_of_lt (blk_lt (g:=gb195) (o:=.cells #[.slice (some ad196) l0_0.length c0_0] 24 (0,0)) (by (with_reducible repeat first|apply kN|apply kD|apply kA);exact BK195.out)):gb195≠gb197));have n6_:=Am (n5_.out.symm);clear BK195 HB;have BK195:=n0_;have HB:=n1_;have BK197:=n2_;have GW197:=n3_;have GE197:=n4_;have NB195_197:=n5_;have NB197_195:=n6_;clear n0_ n1_ n2_ n3_ n4_ n5_ n6_ hb hbox hg;have hnb20:=NB197_195.out;have hnc20:=NB195_197.out;have hcz21_0:w19.cell? ⟨gb197,0,none⟩=some (.int .i64 0):=(blk_cell BK197.out 0).trans rfl;have hcz21_1:w19.cell? ⟨gb197,1,none⟩=some (.int .i64 0):=(blk_cell BK197.out 1).trans rfl;have hcz21_2:w19.cell? ⟨gb197,2,none⟩=some (.int .i64 0):=(blk_cell BK197.out 2).trans rfl;have hfz21_0:=blk_frozen BK197.out 0;have hfz21_1:=blk_frozen BK197.out 1;have hfz21_2:=blk_frozen BK197.out 2))
           have n0_:Aside0 ((((w19.setCell ⟨gb197,0,none⟩ (.int .i64 ((rd_T61 l0_0 x8_1).f0))).setCell ⟨gb197,1,none⟩ (.int .i64 ((rd_T61 l0_0 x8_1).f1.f0))).setCell ⟨gb197,2,none⟩ (.int .i64 ((rd_T61 l0_0 x8_1).f1.f1))).heap[gb195]?=some (.cells #[.slice (some ad196) l0_0.length c0_0] 24 (0,0))):=⟨by (with_reducible repeat first|apply kN|apply kD|apply kA);refine blk_far ?_ NB195_197.out _;(with_reducible repeat first|apply kN|apply kD|apply kA);refine blk_far ?_ NB195_197.out _;(with_reducible repeat first|apply kN|apply kD|apply kA);refine blk_far ?_ NB195_197.out _;(with_reducible repeat first|apply kN|apply kD|apply kA);exact BK195.out⟩
           have n1_:Aside0 ((((w19.setCell ⟨gb197,0,none⟩ (.int .i64 ((rd_T61 l0_0 x8_1).f0))).setCell ⟨gb197,1,none⟩ (.int .i64 ((rd_T61 l0_0 x8_1).f1.f0))).setCell ⟨gb197,2,none⟩ (.int .i64 ((rd_T61 l0_0 x8_1).f1.f1))).heap[gb197]?=some (.cells #[.int .i64 ((rd_T61 l0_0 x8_1).f0), .int .i64 ((rd_T61 l0_0 x8_1).f1.f0), .int .i64 ((rd_T61 l0_0 x8_1).f1.f1)] 61 (0,0))):=⟨by (with_reducible repeat first|apply kN|apply kD|apply kA);refine blk_put (cs:=#[.int .i64 ((rd_T61 l0_0 x8_1).f0), .int .i64 ((rd_T61 l0_0 x8_1).f1.f0), .int .i64 0]) ?_ 2 _ rfl;(with_reducible repeat first|apply kN|apply kD|apply kA);refine blk_put (cs:=#[.int .i64 ((rd_T61 l0_0 x8_1).f0), .int .i64 0, .int .i64 0]) ?_ 1 _ rfl;(with_reducible repeat first|apply kN|apply kD|apply kA);refine blk_put (cs:=#[.int .i64 0, .int .i64 0, .int .i64 0]) ?_ 0 _ rfl;(with_reducible repeat first|apply kN|apply kD|apply kA);exact BK197.out⟩
           have n2_:Aside0 (Below w.heap.size w (((w19.setCell ⟨gb197,0,none⟩ (.int .i64 ((rd_T61 l0_0 x8_1).f0))).setCell ⟨gb197,1,none⟩ (.int .i64 ((rd_T61 l0_0 x8_1).f1.f0))).setCell ⟨gb197,2,none⟩ (.int .i64 ((rd_T61 l0_0 x8_1).f1.f1)))):=⟨by repeat (first|(with_reducible first|exact HB.out|apply bA|apply bN|apply bD|refine bS ?_ GE195.out|refine bS ?_ GE197.out)|exact HB.out)⟩
           (try clear BK195);(try clear BK197);(try clear HB)
           generalize (((w19.setCell ⟨gb197,0,none⟩ (.int .i64 ((rd_T61 l0_0 x8_1).f0))).setCell ⟨gb197,1,none⟩ (.int .i64 ((rd_T61 l0_0 x8_1).f1.f0))).setCell ⟨gb197,2,none⟩ (.int .i64 ((rd_T61 l0_0 x8_1).f1.f1)))=w22 at n0_ n1_ n2_ ⊢
           have BK195:=n0_;have BK197:=n1_;have HB:=n2_;clear n0_ n1_ n2_
           have n0_:=Am (kD BK195.out)
           have n1_:=Am (kD BK197.out)
           have n2_:=Am (bD HB.out)
           clear BK195 BK197 HB;have BK195:=n0_;have BK197:=n1_;have HB:=n2_;clear n0_ n1_ n2_
           refine start_ (n:=34) (S:=fun w'=>w'.cell? ⟨gb197,0,none⟩=some (.int .i64 ((rd_T61 l0_0 x8_1).f0))∧w'.cell? ⟨gb197,1,none⟩=some (.int .i64 ((rd_T61 l0_0 x8_1).f1.f0))∧w'.cell? ⟨gb197,2,none⟩=some (.int .i64 ((rd_T61 l0_0 x8_1).f1.f1))) (ds:=[]) soundserviceref13_Valid.q0 (by kernel_rfl) rfl rfl ⟨(blk_cell BK197.out 0).trans rfl,(blk_cell BK197.out 1).trans rfl,(blk_cell BK197.out 2).trans rfl⟩ (fun hHeld=>?_);refine with_tabW soundserviceref13_Valid.tab4 soundserviceref13_Valid.bits4 (fun HT_ HW_=>?_)
           generalize w22.drew=w23 at BK195 BK197 HB hHeld ⊢
           refine pure_ (i:=0) (N:=some 13) (v:=?_) (a':=?_) soundserviceref13_Valid.q1 rfl rfl (any_of HT_.out (by kernel_rfl)) (fun _ _ _ h=>h) (Or.inl ⟨by rfl,?_⟩) ?_ ?_
           rotate_left;(· intro w';go_simp;with_reducible rfl);rotate_left;(· simp only [pL,i64_w,i32_w];rfl)
           refine take_ (i:=1) (N:=some 14) (v:=?_) (a':=?_) soundserviceref13_Valid.q2 rfl rfl (take_ofW HT_.out HW_.out (by kernel_rfl)) (fun _ _ _ h=>h) (Or.inl ⟨by rfl,?_⟩) hHeld ?_ ?_
           rotate_left;(· rintro w' ⟨s0,s1,s2⟩;go_simp;with_reducible rfl);rotate_left;(· simp only [pL,i64_w,i32_w];rfl)
           refine one_ (i:=2) (N:=some 15) soundserviceref13_Valid.q3 rfl rfl (one_of HT_.out (by kernel_rfl)) (by decide) (fun K hK=>?_)
           refine goes_ Try.func31 (by kernel_rfl) rfl #[.agg #[.int .i64 ((rd_T61 l0_0 x8_1).f1.f0), .int .i64 ((rd_T61 l0_0 x8_1).f1.f1)]] (by rfl) rfl rfl (by (try simp only [List.map_toArray,List.map_cons,List.map_nil]);first|done|rfl|(simp only [List.length_drop,List.length_take];rfl)) ?_
           with_reducible refine (soundserviceref13_rate.calls k1 ((rd_T61 l0_0 x8_1).f1.f0) ((rd_T61 l0_0 x8_1).f1.f1) true _ A7.out).mono ?_
           rintro e w24 ⟨rfl,hb⟩
           refine ⟨_,rfl,?_⟩
           have n0_:=Am (blk_below (g:=gb195) (o:=.cells #[.slice (some ad196) l0_0.length c0_0] 24 (0,0)) (by (with_reducible repeat first|apply kN|apply kD|apply kA);exact BK195.out) hb)
           have n1_:=Am (blk_below (g:=gb197) (o:=.cells #[.int .i64 ((rd_T61 l0_0 x8_1).f0), .int .i64 ((rd_T61 l0_0 x8_1).f1.f0), .int .i64 ((rd_T61 l0_0 x8_1).f1.f1)] 61 (0,0)) (by (with_reducible repeat first|apply kN|apply kD|apply kA);exact BK197.out) hb)
           have n2_:=Am (below_step (by repeat (first|(with_reducible first|exact HB.out|apply bA|apply bN|apply bD|refine bS ?_ GE195.out|refine bS ?_ GE197.out)|exact HB.out)) hb)
           clear BK195 BK197 HB;have BK195:=n0_;have BK197:=n1_;have HB:=n2_;clear n0_ n1_ n2_;(try clear hb)
           refine hK.out _ _ ⟨(blk_cell BK197.out 0).trans rfl,(blk_cell BK197.out 1).trans rfl,(blk_cell BK197.out 2).trans rfl⟩ (fun hHeld=>?_)
           clear hK K
           refine norm_ (a':=?_) ?_ ?_
           rotate_left
           ·show Act.put _ (some 15) _=_
            simp only [pL,i64_w,i32_w]
            rfl
           refine pure_ (i:=3) (N:=some 16) (v:=?_) (a':=?_) soundserviceref13_Valid.q4 rfl rfl (any_of HT_.out (by kernel_rfl)) (fun _ _ _ h=>h) (Or.inl ⟨by rfl,?_⟩) ?_ ?_
           rotate_left;(· intro w';go_simp;with_reducible rfl);rotate_left;(· simp only [pL,i64_w,i32_w];rfl)
           refine pure_ (i:=4) (N:=some 17) (v:=?_) (a':=?_) soundserviceref13_Valid.q5 rfl rfl (any_of HT_.out (by kernel_rfl)) (fun _ _ _ h=>h) (Or.inl ⟨by rfl,?_⟩) ?_ ?_
           rotate_left;(· intro w';go_simp;with_reducible rfl);rotate_left;(· simp only [pL,i64_w,i32_w];rfl)
           refine pure_ (i:=5) (N:=some 18) (v:=?_) (a':=?_) soundserviceref13_Valid.q6 rfl rfl (any_of HT_.out (by kernel_rfl)) (fun _ _ _ h=>h) (Or.inl ⟨by rfl,?_⟩) ?_ ?_
           rotate_left;(· intro w';go_simp;with_reducible rfl);rotate_left;(· simp only [pL,i64_w,i32_w];rfl)
           refine pure_ (i:=6) (N:=some 19) (v:=?_) (a':=?_) soundserviceref13_Valid.q7 rfl rfl (any_of HT_.out (by kernel_rfl)) (fun _ _ _ h=>h) (Or.inl ⟨by rfl,?_⟩) ?_ ?_
           rotate_left;(· intro w';go_simp;with_reducible rfl);rotate_left;(· simp only [pL,i64_w,i32_w];rfl)
           refine pure_ (i:=7) (N:=some 20) (v:=?_) (a':=?_) soundserviceref13_Valid.q8 rfl rfl (any_of HT_.out (by kernel_rfl)) (fun _ _ _ h=>h) (Or.inl ⟨by rfl,?_⟩) ?_ ?_
           rotate_left;(· intro w';go_simp;with_reducible rfl);rotate_left;(· simp only [pL,i64_w,i32_w];rfl)
           refine pure_ (i:=8) (N:=some 21) (v:=?_) (a':=?_) soundserviceref13_Valid.q9 rfl rfl (any_of HT_.out (by kernel_rfl)) (fun _ _ _ h=>h) (Or.inl ⟨by rfl,?_⟩) ?_ ?_
           rotate_left;(· intro w';go_simp;with_reducible rfl);rotate_left;(· simp only [pL,i64_w,i32_w];rfl)
           refine take_ (i:=9) (N:=some 22) (v:=?_) (a':=?_) soundserviceref13_Valid.q10 rfl rfl (take_ofW HT_.out HW_.out (by kernel_rfl)) (fun _ _ _ h=>h) (Or.inl ⟨by rfl,?_⟩) hHeld ?_ ?_
           rotate_left;(· rintro w' ⟨s0,s1,s2⟩;go_simp;with_reducible rfl);rotate_left;(· simp only [pL,i64_w,i32_w];rfl)
           refine pure_ (i:=10) (N:=some 23) (v:=?_) (a':=?_) soundserviceref13_Valid.q11 rfl rfl (any_of HT_.out (by kernel_rfl)) (fun _ _ _ h=>h) (Or.inl ⟨by rfl,?_⟩) ?_ ?_
           rotate_left;(· intro w';go_simp;with_reducible rfl);rotate_left;(· simp only [pL,i64_w,i32_w];rfl)
           refine pure_ (i:=11) (N:=some 24) (v:=?_) (a':=?_) soundserviceref13_Valid.q12 rfl rfl (any_of HT_.out (by kernel_rfl)) (fun _ _ _ h=>h) (Or.inl ⟨by rfl,?_⟩) ?_ ?_
           rotate_left;(· intro w';go_simp;with_reducible rfl);rotate_left;(· simp only [pL,i64_w,i32_w];rfl)
           refine pure_ (i:=12) (N:=some 25) (v:=?_) (a':=?_) soundserviceref13_Valid.q13 rfl rfl (any_of HT_.out (by kernel_rfl)) (fun _ _ _ h=>h) (Or.inl ⟨by rfl,?_⟩) ?_ ?_
           rotate_left;(· intro w';go_simp;with_reducible rfl);rotate_left;(· simp only [pL,i64_w,i32_w];rfl)
           refine pure_ (i:=13) (N:=some 26) (v:=?_) (a':=?_) soundserviceref13_Valid.q14 rfl rfl (any_of HT_.out (by kernel_rfl)) (fun _ _ _ h=>h) (Or.inl ⟨by rfl,?_⟩) ?_ ?_
           rotate_left;(· intro w';go_simp;with_reducible rfl);rotate_left;(· simp only [pL,i64_w,i32_w];rfl)
           refine pure_ (i:=14) (N:=some 27) (v:=?_) (a':=?_) soundserviceref13_Valid.q15 rfl rfl (any_of HT_.out (by kernel_rfl)) (fun _ _ _ h=>h) (Or.inl ⟨by rfl,?_⟩) ?_ ?_
           rotate_left;(· intro w';go_simp;with_reducible rfl);rotate_left;(· simp only [pL,i64_w,i32_w];rfl)
           refine pure_ (i:=15) (N:=some 28) (v:=?_) (a':=?_) soundserviceref13_Valid.q16 rfl rfl (any_of HT_.out (by kernel_rfl)) (fun _ _ _ h=>h) (Or.inl ⟨by rfl,?_⟩) ?_ ?_
           rotate_left;(· intro w';go_simp;with_reducible rfl);rotate_left;(· simp only [pL,i64_w,i32_w];rfl)
           refine pure_ (i:=16) (N:=some 29) (v:=?_) (a':=?_) soundserviceref13_Valid.q17 rfl rfl (any_of HT_.out (by kernel_rfl)) (fun _ _ _ h=>h) (Or.inl ⟨by rfl,?_⟩) ?_ ?_
           rotate_left;(· intro w';go_simp;with_reducible rfl);rotate_left;(· simp only [pL,i64_w,i32_w];rfl)
           refine pure_ (i:=17) (N:=some 30) (v:=undef) (a':=?_) soundserviceref13_Valid.q18 rfl rfl (any_of HT_.out (by kernel_rfl)) (fun _ _ _ h=>h) (Or.inr ⟨by rfl,rfl⟩) ?_ ?_
           rotate_left
           ·simp only [pL,i64_w,i32_w]
            rfl
           refine pure_ (i:=18) (N:=some 31) (v:=undef) (a':=?_) soundserviceref13_Valid.q19 rfl rfl (any_of HT_.out (by kernel_rfl)) (fun _ _ _ h=>h) (Or.inr ⟨by rfl,rfl⟩) ?_ ?_
           rotate_left
           ·simp only [pL,i64_w,i32_w]
            rfl
           refine pure_ (i:=19) (N:=some 32) (v:=undef) (a':=?_) soundserviceref13_Valid.q20 rfl rfl (any_of HT_.out (by kernel_rfl)) (fun _ _ _ h=>h) (Or.inr ⟨by rfl,rfl⟩) ?_ ?_
           rotate_left
           ·simp only [pL,i64_w,i32_w]
            rfl
           refine pure_ (i:=20) (N:=some 33) (v:=undef) (a':=?_) soundserviceref13_Valid.q21 rfl rfl (any_of HT_.out (by kernel_rfl)) (fun _ _ _ h=>h) (Or.inr ⟨by rfl,rfl⟩) ?_ ?_
           rotate_left
           ·simp only [pL,i64_w,i32_w]
            rfl
           refine pure_ (i:=21) (N:=some 34) (v:=undef) (a':=?_) soundserviceref13_Valid.q22 rfl rfl (any_of HT_.out (by kernel_rfl)) (fun _ _ _ h=>h) (Or.inr ⟨by rfl,rfl⟩) ?_ ?_
           rotate_left
           ·simp only [pL,i64_w,i32_w]
            rfl
           refine pure_ (i:=22) (N:=some 35) (v:=undef) (a':=?_) soundserviceref13_Valid.q23 rfl rfl (any_of HT_.out (by kernel_rfl)) (fun _ _ _ h=>h) (Or.inr ⟨by rfl,rfl⟩) ?_ ?_
           rotate_left
           ·simp only [pL,i64_w,i32_w]
            rfl
           refine pure_ (i:=23) (N:=some 36) (v:=undef) (a':=?_) soundserviceref13_Valid.q24 rfl rfl (any_of HT_.out (by kernel_rfl)) (fun _ _ _ h=>h) (Or.inr ⟨by rfl,rfl⟩) ?_ ?_
           rotate_left
           ·simp only [pL,i64_w,i32_w]
            rfl
           refine pure_ (i:=24) (N:=some 37) (v:=undef) (a':=?_) soundserviceref13_Valid.q25 rfl rfl (any_of HT_.out (by kernel_rfl)) (fun _ _ _ h=>h) (Or.inr ⟨by rfl,rfl⟩) ?_ ?_
           rotate_left
           ·simp only [pL,i64_w,i32_w]
            rfl
           refine pure_ (i:=25) (N:=some 38) (v:=undef) (a':=?_) soundserviceref13_Valid.q26 rfl rfl (any_of HT_.out (by kernel_rfl)) (fun _ _ _ h=>h) (Or.inr ⟨by rfl,rfl⟩) ?_ ?_
           rotate_left
           ·simp only [pL,i64_w,i32_w]
            rfl
           refine pure_ (i:=26) (N:=some 39) (v:=undef) (a':=?_) soundserviceref13_Valid.q27 rfl rfl (any_of HT_.out (by kernel_rfl)) (fun _ _ _ h=>h) (Or.inr ⟨by rfl,rfl⟩) ?_ ?_
           rotate_left
           ·simp only [pL,i64_w,i32_w]
            rfl
           refine pure_ (i:=27) (N:=some 40) (v:=?_) (a':=?_) soundserviceref13_Valid.q28 rfl rfl (any_of HT_.out (by kernel_rfl)) (fun _ _ _ h=>h) (Or.inl ⟨by rfl,?_⟩) ?_ ?_
           rotate_left;(· intro w';go_simp;with_reducible rfl);rotate_left;(· simp only [pL,i64_w,i32_w];rfl)
           refine pure_ (i:=28) (N:=some 41) (v:=?_) (a':=?_) soundserviceref13_Valid.q29 rfl rfl (any_of HT_.out (by kernel_rfl)) (fun _ _ _ h=>h) (Or.inl ⟨by rfl,?_⟩) ?_ ?_
           rotate_left;(· intro w';go_simp;with_reducible rfl);rotate_left;(· simp only [pL,i64_w,i32_w];rfl)
           refine pure_ (i:=29) (N:=some 42) (v:=?_) (a':=?_) soundserviceref13_Valid.q30 rfl rfl (any_of HT_.out (by kernel_rfl)) (fun _ _ _ h=>h) (Or.inl ⟨by rfl,?_⟩) ?_ ?_
           rotate_left;(· intro w';go_simp;with_reducible rfl);rotate_left;(· simp only [pL,i64_w,i32_w];rfl)
           refine pure_ (i:=30) (N:=some 43) (v:=?_) (a':=?_) soundserviceref13_Valid.q31 rfl rfl (any_of HT_.out (by kernel_rfl)) (fun _ _ _ h=>h) (Or.inl ⟨by rfl,?_⟩) ?_ ?_
           rotate_left;(· intro w';go_simp;with_reducible rfl);rotate_left;(· simp only [pL,i64_w,i32_w];rfl)
           refine take_ (i:=31) (N:=some 44) (v:=?_) (a':=?_) soundserviceref13_Valid.q32 rfl rfl (take_ofW HT_.out HW_.out (by kernel_rfl)) (fun _ _ _ h=>h) (Or.inl ⟨by rfl,?_⟩) hHeld ?_ ?_
           rotate_left;(· rintro w' ⟨s0,s1,s2⟩;go_simp;with_reducible rfl);rotate_left;(· simp only [pL,i64_w,i32_w];rfl)
           refine pure_ (i:=32) (N:=some 45) (v:=?_) (a':=?_) soundserviceref13_Valid.q33 rfl rfl (any_of HT_.out (by kernel_rfl)) (fun _ _ _ h=>h) (Or.inl ⟨by rfl,?_⟩) ?_ ?_
           rotate_left;(· intro w';go_simp;with_reducible rfl);rotate_left;(· simp only [pL,i64_w,i32_w];rfl)
           refine pure_ (i:=33) (N:=some 46) (v:=?_) (a':=?_) soundserviceref13_Valid.q34 rfl rfl (any_of HT_.out (by kernel_rfl)) (fun _ _ _ h=>h) (Or.inl ⟨by rfl,?_⟩) ?_ ?_
           rotate_left;(· intro w';go_simp;with_reducible rfl);rotate_left;(· simp only [pL,i64_w,i32_w];rfl)
           refine done_ (done_of HT_.out (by kernel_rfl)) ?_
           try go_wp2
           go_roundg k1
           case measure=>have:=HK1.out;omega
           case rel=>exact ⟨(wrap64 (x8_1+1)),(by first|rfl|(simp;done)|(simp [*];done)),H',⟨by have:=HK1.out;omega⟩,⟨by (with_reducible repeat first|apply kN|apply kD|apply kA);exact BK195.out⟩,⟨by repeat (first|(with_reducible first|exact HB.out|apply bA|apply bN|apply bD|refine bS ?_ GE195.out|refine bS ?_ GE197.out)|exact HB.out)⟩⟩
        ·rw [if_neg c10] at H
         have c10b0:(((rd_T61 l0_0 x8_1).f0) == 0)=false:=beq_eq_false_iff_ne.mpr c10
         have c10b1:(((rd_T61 l0_0 x8_1).f0) != 0)=true:=bne_iff_ne.mpr c10
         obtain rfl:=Option.some.inj H
         have p196:0≤(x8_1:Int):=of_decide_eq_true (by first|(with_reducible assumption)|assumption)
         have q196:x8_1 < (l0_0.length:Int):=of_decide_eq_true (by first|(with_reducible assumption)|assumption)
         obtain ⟨ad196,e196,hx196_0,hx196_1,hx196_2⟩:=at_T61 HR0_0.out x8_1 p196 q196
         cases e196
         replace hx196_0:=(HB.out.cell (World.block_lt_of_cell? w _ hx196_0)).trans hx196_0
         replace hx196_1:=(HB.out.cell (World.block_lt_of_cell? w _ hx196_1)).trans hx196_1
         replace hx196_2:=(HB.out.cell (World.block_lt_of_cell? w _ hx196_2)).trans hx196_2
         replace p196:=eq_true p196
         replace q196:=eq_true q196
         try go_wp2_with (first|((with_reducible refine gate_dst (N:=4) rfl ?_);refine box_event ?hg (N:=4) ?hd (cs:=#[.int .i64 0, .int .i64 0, .int .i64 0]) (t:=61) ?hr ?_;(case hd=>rfl);(case hg=>rfl);(case hr=>first|(go_simp;done)|(go_simp;rfl));intro gb197 hg w25 hbox hb;have n0_:=Am (blk_below (g:=gb195) (o:=.cells #[.slice (some ad196) l0_0.length c0_0] 24 (0,0)) (by (with_reducible repeat first|apply kN|apply kD|apply kA);exact BK195.out) hb);have n1_:=Am (below_step (by repeat (first|(with_reducible first|exact HB.out|apply bA|apply bN|apply bD|refine bS ?_ GE195.out)|exact HB.out)) hb);have n2_:=Am (hbox);have n3_:=Am ((by rw [hg];exact (below_size (by repeat (first|(with_reducible first|exact HB.out|apply bA|apply bN|apply bD|refine bS ?_ GE195.out)|exact HB.out))):w.heap.size≤gb197));have n4_:=Am ((by rw [hg];exact (below_size (by repeat (first|(with_reducible first|exact HB.out|apply bA|apply bN|apply bD|refine bS ?_ GE195.out)|exact HB.out))):w.heap.size≤gb197));have n5_:=Am ((by rw [hg];exact Nat.ne_of_lt (blk_lt (g:=gb195) (o:=.cells #[.slice (some ad196) l0_0.length c0_0] 24 (0,0)) (by (with_reducible repeat first|apply kN|apply kD|apply kA);exact BK195.out)):gb195≠gb197));have n6_:=Am (n5_.out.symm);clear BK195 HB;have BK195:=n0_;have HB:=n1_;have BK197:=n2_;have GW197:=n3_;have GE197:=n4_;have NB195_197:=n5_;have NB197_195:=n6_;clear n0_ n1_ n2_ n3_ n4_ n5_ n6_ hb hbox hg;have hnb26:=NB197_195.out;have hnc26:=NB195_197.out;have hcz27_0:w25.cell? ⟨gb197,0,none⟩=some (.int .i64 0):=(blk_cell BK197.out 0).trans rfl;have hcz27_1:w25.cell? ⟨gb197,1,none⟩=some (.int .i64 0):=(blk_cell BK197.out 1).trans rfl;have hcz27_2:w25.cell? ⟨gb197,2,none⟩=some (.int .i64 0):=(blk_cell BK197.out 2).trans rfl;have hfz27_0:=blk_frozen BK197.out 0;have hfz27_1:=blk_frozen BK197.out 1;have hfz27_2:=blk_frozen BK197.out 2))
         have n0_:Aside0 ((((w25.setCell ⟨gb197,0,none⟩ (.int .i64 ((rd_T61 l0_0 x8_1).f0))).setCell ⟨gb197,1,none⟩ (.int .i64 ((rd_T61 l0_0 x8_1).f1.f0))).setCell ⟨gb197,2,none⟩ (.int .i64 ((rd_T61 l0_0 x8_1).f1.f1))).heap[gb195]?=some (.cells #[.slice (some ad196) l0_0.length c0_0] 24 (0,0))):=⟨by (with_reducible repeat first|apply kN|apply kD|apply kA);refine blk_far ?_ NB195_197.out _;(with_reducible repeat first|apply kN|apply kD|apply kA);refine blk_far ?_ NB195_197.out _;(with_reducible repeat first|apply kN|apply kD|apply kA);refine blk_far ?_ NB195_197.out _;(with_reducible repeat first|apply kN|apply kD|apply kA);exact BK195.out⟩
         have n1_:Aside0 ((((w25.setCell ⟨gb197,0,none⟩ (.int .i64 ((rd_T61 l0_0 x8_1).f0))).setCell ⟨gb197,1,none⟩ (.int .i64 ((rd_T61 l0_0 x8_1).f1.f0))).setCell ⟨gb197,2,none⟩ (.int .i64 ((rd_T61 l0_0 x8_1).f1.f1))).heap[gb197]?=some (.cells #[.int .i64 ((rd_T61 l0_0 x8_1).f0), .int .i64 ((rd_T61 l0_0 x8_1).f1.f0), .int .i64 ((rd_T61 l0_0 x8_1).f1.f1)] 61 (0,0))):=⟨by (with_reducible repeat first|apply kN|apply kD|apply kA);refine blk_put (cs:=#[.int .i64 ((rd_T61 l0_0 x8_1).f0), .int .i64 ((rd_T61 l0_0 x8_1).f1.f0), .int .i64 0]) ?_ 2 _ rfl;(with_reducible repeat first|apply kN|apply kD|apply kA);refine blk_put (cs:=#[.int .i64 ((rd_T61 l0_0 x8_1).f0), .int .i64 0, .int .i64 0]) ?_ 1 _ rfl;(with_reducible repeat first|apply kN|apply kD|apply kA);refine blk_put (cs:=#[.int .i64 0, .int .i64 0, .int .i64 0]) ?_ 0 _ rfl;(with_reducible repeat first|apply kN|apply kD|apply kA);exact BK197.out⟩
         have n2_:Aside0 (Below w.heap.size w (((w25.setCell ⟨gb197,0,none⟩ (.int .i64 ((rd_T61 l0_0 x8_1).f0))).setCell ⟨gb197,1,none⟩ (.int .i64 ((rd_T61 l0_0 x8_1).f1.f0))).setCell ⟨gb197,2,none⟩ (.int .i64 ((rd_T61 l0_0 x8_1).f1.f1)))):=⟨by repeat (first|(with_reducible first|exact HB.out|apply bA|apply bN|apply bD|refine bS ?_ GE195.out|refine bS ?_ GE197.out)|exact HB.out)⟩
         (try clear BK195);(try clear BK197);(try clear HB)
         generalize (((w25.setCell ⟨gb197,0,none⟩ (.int .i64 ((rd_T61 l0_0 x8_1).f0))).setCell ⟨gb197,1,none⟩ (.int .i64 ((rd_T61 l0_0 x8_1).f1.f0))).setCell ⟨gb197,2,none⟩ (.int .i64 ((rd_T61 l0_0 x8_1).f1.f1)))=w28 at n0_ n1_ n2_ ⊢
         have BK195:=n0_;have BK197:=n1_;have HB:=n2_;clear n0_ n1_ n2_
         have n0_:=Am (kD BK195.out)
         have n1_:=Am (kD BK197.out)
         have n2_:=Am (bD HB.out)
         clear BK195 BK197 HB;have BK195:=n0_;have BK197:=n1_;have HB:=n2_;clear n0_ n1_ n2_
         refine start_ (n:=34) (S:=fun w'=>w'.cell? ⟨gb197,0,none⟩=some (.int .i64 ((rd_T61 l0_0 x8_1).f0))∧w'.cell? ⟨gb197,1,none⟩=some (.int .i64 ((rd_T61 l0_0 x8_1).f1.f0))∧w'.cell? ⟨gb197,2,none⟩=some (.int .i64 ((rd_T61 l0_0 x8_1).f1.f1))) (ds:=[]) soundserviceref13_Valid.q0 (by kernel_rfl) rfl rfl ⟨(blk_cell BK197.out 0).trans rfl,(blk_cell BK197.out 1).trans rfl,(blk_cell BK197.out 2).trans rfl⟩ (fun hHeld=>?_);refine with_tabW soundserviceref13_Valid.tab4 soundserviceref13_Valid.bits4 (fun HT_ HW_=>?_)
         generalize w28.drew=w29 at BK195 BK197 HB hHeld ⊢
         refine pure_ (i:=0) (N:=some 13) (v:=?_) (a':=?_) soundserviceref13_Valid.q1 rfl rfl (any_of HT_.out (by kernel_rfl)) (fun _ _ _ h=>h) (Or.inl ⟨by rfl,?_⟩) ?_ ?_
         rotate_left;(· intro w';go_simp;with_reducible rfl);rotate_left;(· simp only [pL,i64_w,i32_w];rfl)
         refine take_ (i:=1) (N:=some 14) (v:=?_) (a':=?_) soundserviceref13_Valid.q2 rfl rfl (take_ofW HT_.out HW_.out (by kernel_rfl)) (fun _ _ _ h=>h) (Or.inl ⟨by rfl,?_⟩) hHeld ?_ ?_
         rotate_left;(· rintro w' ⟨s0,s1,s2⟩;go_simp;with_reducible rfl);rotate_left;(· simp only [pL,i64_w,i32_w];rfl)
         refine one_ (i:=2) (N:=some 15) soundserviceref13_Valid.q3 rfl rfl (one_of HT_.out (by kernel_rfl)) (by decide) (fun K hK=>?_)
         refine goes_ Try.func31 (by kernel_rfl) rfl #[.agg #[.int .i64 ((rd_T61 l0_0 x8_1).f1.f0), .int .i64 ((rd_T61 l0_0 x8_1).f1.f1)]] (by rfl) rfl rfl (by (try simp only [List.map_toArray,List.map_cons,List.map_nil]);first|done|rfl|(simp only [List.length_drop,List.length_take];rfl)) ?_
         with_reducible refine (soundserviceref13_rate.calls k1 ((rd_T61 l0_0 x8_1).f1.f0) ((rd_T61 l0_0 x8_1).f1.f1) true _ A7.out).mono ?_
         rintro e w30 ⟨rfl,hb⟩
         refine ⟨_,rfl,?_⟩
         have n0_:=Am (blk_below (g:=gb195) (o:=.cells #[.slice (some ad196) l0_0.length c0_0] 24 (0,0)) (by (with_reducible repeat first|apply kN|apply kD|apply kA);exact BK195.out) hb)
         have n1_:=Am (blk_below (g:=gb197) (o:=.cells #[.int .i64 ((rd_T61 l0_0 x8_1).f0), .int .i64 ((rd_T61 l0_0 x8_1).f1.f0), .int .i64 ((rd_T61 l0_0 x8_1).f1.f1)] 61 (0,0)) (by (with_reducible repeat first|apply kN|apply kD|apply kA);exact BK197.out) hb)
         have n2_:=Am (below_step (by repeat (first|(with_reducible first|exact HB.out|apply bA|apply bN|apply bD|refine bS ?_ GE195.out|refine bS ?_ GE197.out)|exact HB.out)) hb)
         clear BK195 BK197 HB;have BK195:=n0_;have BK197:=n1_;have HB:=n2_;clear n0_ n1_ n2_;(try clear hb)
         refine hK.out _ _ ⟨(blk_cell BK197.out 0).trans rfl,(blk_cell BK197.out 1).trans rfl,(blk_cell BK197.out 2).trans rfl⟩ (fun hHeld=>?_)
         clear hK K
         refine norm_ (a':=?_) ?_ ?_
         rotate_left
         ·show Act.put _ (some 15) _=_
          simp only [pL,i64_w,i32_w]
          rfl
         refine pure_ (i:=3) (N:=some 16) (v:=?_) (a':=?_) soundserviceref13_Valid.q4 rfl rfl (any_of HT_.out (by kernel_rfl)) (fun _ _ _ h=>h) (Or.inl ⟨by rfl,?_⟩) ?_ ?_
         rotate_left;(· intro w';go_simp;with_reducible rfl);rotate_left;(· simp only [pL,i64_w,i32_w];rfl)
         refine pure_ (i:=4) (N:=some 17) (v:=?_) (a':=?_) soundserviceref13_Valid.q5 rfl rfl (any_of HT_.out (by kernel_rfl)) (fun _ _ _ h=>h) (Or.inl ⟨by rfl,?_⟩) ?_ ?_
         rotate_left;(· intro w';go_simp;with_reducible rfl);rotate_left;(· simp only [pL,i64_w,i32_w];rfl)
         refine pure_ (i:=5) (N:=some 18) (v:=?_) (a':=?_) soundserviceref13_Valid.q6 rfl rfl (any_of HT_.out (by kernel_rfl)) (fun _ _ _ h=>h) (Or.inl ⟨by rfl,?_⟩) ?_ ?_
         rotate_left;(· intro w';go_simp;with_reducible rfl);rotate_left;(· simp only [pL,i64_w,i32_w];rfl)
         refine pure_ (i:=6) (N:=some 19) (v:=?_) (a':=?_) soundserviceref13_Valid.q7 rfl rfl (any_of HT_.out (by kernel_rfl)) (fun _ _ _ h=>h) (Or.inl ⟨by rfl,?_⟩) ?_ ?_
         rotate_left;(· intro w';go_simp;with_reducible rfl);rotate_left;(· simp only [pL,i64_w,i32_w];rfl)
         refine pure_ (i:=7) (N:=some 20) (v:=?_) (a':=?_) soundserviceref13_Valid.q8 rfl rfl (any_of HT_.out (by kernel_rfl)) (fun _ _ _ h=>h) (Or.inl ⟨by rfl,?_⟩) ?_ ?_
         rotate_left;(· intro w';go_simp;with_reducible rfl);rotate_left;(· simp only [pL,i64_w,i32_w];rfl)
         refine pure_ (i:=8) (N:=some 21) (v:=?_) (a':=?_) soundserviceref13_Valid.q9 rfl rfl (any_of HT_.out (by kernel_rfl)) (fun _ _ _ h=>h) (Or.inl ⟨by rfl,?_⟩) ?_ ?_
         rotate_left;(· intro w';go_simp;with_reducible rfl);rotate_left;(· simp only [pL,i64_w,i32_w];rfl)
         refine take_ (i:=9) (N:=some 22) (v:=?_) (a':=?_) soundserviceref13_Valid.q10 rfl rfl (take_ofW HT_.out HW_.out (by kernel_rfl)) (fun _ _ _ h=>h) (Or.inl ⟨by rfl,?_⟩) hHeld ?_ ?_
         rotate_left;(· rintro w' ⟨s0,s1,s2⟩;go_simp;with_reducible rfl);rotate_left;(· simp only [pL,i64_w,i32_w];rfl)
         refine pure_ (i:=10) (N:=some 23) (v:=?_) (a':=?_) soundserviceref13_Valid.q11 rfl rfl (any_of HT_.out (by kernel_rfl)) (fun _ _ _ h=>h) (Or.inl ⟨by rfl,?_⟩) ?_ ?_
         rotate_left;(· intro w';go_simp;with_reducible rfl);rotate_left;(· simp only [pL,i64_w,i32_w];rfl)
         refine pure_ (i:=11) (N:=some 24) (v:=?_) (a':=?_) soundserviceref13_Valid.q12 rfl rfl (any_of HT_.out (by kernel_rfl)) (fun _ _ _ h=>h) (Or.inl ⟨by rfl,?_⟩) ?_ ?_
         rotate_left;(· intro w';go_simp;with_reducible rfl);rotate_left;(· simp only [pL,i64_w,i32_w];rfl)
         refine pure_ (i:=12) (N:=some 25) (v:=?_) (a':=?_) soundserviceref13_Valid.q13 rfl rfl (any_of HT_.out (by kernel_rfl)) (fun _ _ _ h=>h) (Or.inl ⟨by rfl,?_⟩) ?_ ?_
         rotate_left;(· intro w';go_simp;with_reducible rfl);rotate_left;(· simp only [pL,i64_w,i32_w];rfl)
         refine pure_ (i:=13) (N:=some 26) (v:=?_) (a':=?_) soundserviceref13_Valid.q14 rfl rfl (any_of HT_.out (by kernel_rfl)) (fun _ _ _ h=>h) (Or.inl ⟨by rfl,?_⟩) ?_ ?_
         rotate_left;(· intro w';go_simp;with_reducible rfl);rotate_left;(· simp only [pL,i64_w,i32_w];rfl)
         refine pure_ (i:=14) (N:=some 27) (v:=undef) (a':=?_) soundserviceref13_Valid.q15 rfl rfl (any_of HT_.out (by kernel_rfl)) (fun _ _ _ h=>h) (Or.inr ⟨by rfl,rfl⟩) ?_ ?_
         rotate_left
         ·simp only [pL,i64_w,i32_w]
          rfl
         refine pure_ (i:=15) (N:=some 28) (v:=undef) (a':=?_) soundserviceref13_Valid.q16 rfl rfl (any_of HT_.out (by kernel_rfl)) (fun _ _ _ h=>h) (Or.inr ⟨by rfl,rfl⟩) ?_ ?_
         rotate_left
         ·simp only [pL,i64_w,i32_w]
          rfl
         refine pure_ (i:=16) (N:=some 29) (v:=undef) (a':=?_) soundserviceref13_Valid.q17 rfl rfl (any_of HT_.out (by kernel_rfl)) (fun _ _ _ h=>h) (Or.inr ⟨by rfl,rfl⟩) ?_ ?_
         rotate_left
         ·simp only [pL,i64_w,i32_w]
          rfl
         refine pure_ (i:=17) (N:=some 30) (v:=undef) (a':=?_) soundserviceref13_Valid.q18 rfl rfl (any_of HT_.out (by kernel_rfl)) (fun _ _ _ h=>h) (Or.inr ⟨by rfl,rfl⟩) ?_ ?_
         rotate_left
         ·simp only [pL,i64_w,i32_w]
          rfl
         refine pure_ (i:=18) (N:=some 31) (v:=undef) (a':=?_) soundserviceref13_Valid.q19 rfl rfl (any_of HT_.out (by kernel_rfl)) (fun _ _ _ h=>h) (Or.inr ⟨by rfl,rfl⟩) ?_ ?_
         rotate_left
         ·simp only [pL,i64_w,i32_w]
          rfl
         refine pure_ (i:=19) (N:=some 32) (v:=undef) (a':=?_) soundserviceref13_Valid.q20 rfl rfl (any_of HT_.out (by kernel_rfl)) (fun _ _ _ h=>h) (Or.inr ⟨by rfl,rfl⟩) ?_ ?_
         rotate_left
         ·simp only [pL,i64_w,i32_w]
          rfl
         refine pure_ (i:=20) (N:=some 33) (v:=undef) (a':=?_) soundserviceref13_Valid.q21 rfl rfl (any_of HT_.out (by kernel_rfl)) (fun _ _ _ h=>h) (Or.inr ⟨by rfl,rfl⟩) ?_ ?_
         rotate_left
         ·simp only [pL,i64_w,i32_w]
          rfl
         refine pure_ (i:=21) (N:=some 34) (v:=undef) (a':=?_) soundserviceref13_Valid.q22 rfl rfl (any_of HT_.out (by kernel_rfl)) (fun _ _ _ h=>h) (Or.inr ⟨by rfl,rfl⟩) ?_ ?_
         rotate_left
         ·simp only [pL,i64_w,i32_w]
          rfl
         refine pure_ (i:=22) (N:=some 35) (v:=undef) (a':=?_) soundserviceref13_Valid.q23 rfl rfl (any_of HT_.out (by kernel_rfl)) (fun _ _ _ h=>h) (Or.inr ⟨by rfl,rfl⟩) ?_ ?_
         rotate_left
         ·simp only [pL,i64_w,i32_w]
          rfl
         refine pure_ (i:=23) (N:=some 36) (v:=undef) (a':=?_) soundserviceref13_Valid.q24 rfl rfl (any_of HT_.out (by kernel_rfl)) (fun _ _ _ h=>h) (Or.inr ⟨by rfl,rfl⟩) ?_ ?_
         rotate_left
         ·simp only [pL,i64_w,i32_w]
          rfl
         refine pure_ (i:=24) (N:=some 37) (v:=undef) (a':=?_) soundserviceref13_Valid.q25 rfl rfl (any_of HT_.out (by kernel_rfl)) (fun _ _ _ h=>h) (Or.inr ⟨by rfl,rfl⟩) ?_ ?_
         rotate_left
         ·simp only [pL,i64_w,i32_w]
          rfl
         refine pure_ (i:=25) (N:=some 38) (v:=undef) (a':=?_) soundserviceref13_Valid.q26 rfl rfl (any_of HT_.out (by kernel_rfl)) (fun _ _ _ h=>h) (Or.inr ⟨by rfl,rfl⟩) ?_ ?_
         rotate_left
         ·simp only [pL,i64_w,i32_w]
          rfl
         refine pure_ (i:=26) (N:=some 39) (v:=undef) (a':=?_) soundserviceref13_Valid.q27 rfl rfl (any_of HT_.out (by kernel_rfl)) (fun _ _ _ h=>h) (Or.inr ⟨by rfl,rfl⟩) ?_ ?_
         rotate_left
         ·simp only [pL,i64_w,i32_w]
          rfl
         refine pure_ (i:=27) (N:=some 40) (v:=undef) (a':=?_) soundserviceref13_Valid.q28 rfl rfl (any_of HT_.out (by kernel_rfl)) (fun _ _ _ h=>h) (Or.inr ⟨by rfl,rfl⟩) ?_ ?_
         rotate_left
         ·simp only [pL,i64_w,i32_w]
          rfl
         refine pure_ (i:=28) (N:=some 41) (v:=?_) (a':=?_) soundserviceref13_Valid.q29 rfl rfl (any_of HT_.out (by kernel_rfl)) (fun _ _ _ h=>h) (Or.inl ⟨by rfl,?_⟩) ?_ ?_
         rotate_left;(· intro w';go_simp;with_reducible rfl);rotate_left;(· simp only [pL,i64_w,i32_w];rfl)
         refine pure_ (i:=29) (N:=some 42) (v:=?_) (a':=?_) soundserviceref13_Valid.q30 rfl rfl (any_of HT_.out (by kernel_rfl)) (fun _ _ _ h=>h) (Or.inl ⟨by rfl,?_⟩) ?_ ?_
         rotate_left;(· intro w';go_simp;with_reducible rfl);rotate_left;(· simp only [pL,i64_w,i32_w];rfl)
         refine pure_ (i:=30) (N:=some 43) (v:=undef) (a':=?_) soundserviceref13_Valid.q31 rfl rfl (any_of HT_.out (by kernel_rfl)) (fun _ _ _ h=>h) (Or.inr ⟨by rfl,rfl⟩) ?_ ?_
         rotate_left
         ·simp only [pL,i64_w,i32_w]
          rfl
         refine pure_ (i:=31) (N:=some 44) (v:=undef) (a':=?_) soundserviceref13_Valid.q32 rfl rfl (any_of HT_.out (by kernel_rfl)) (fun _ _ _ h=>h) (Or.inr ⟨by rfl,rfl⟩) ?_ ?_
         rotate_left
         ·simp only [pL,i64_w,i32_w]
          rfl
         refine pure_ (i:=32) (N:=some 45) (v:=undef) (a':=?_) soundserviceref13_Valid.q33 rfl rfl (any_of HT_.out (by kernel_rfl)) (fun _ _ _ h=>h) (Or.inr ⟨by rfl,rfl⟩) ?_ ?_
         rotate_left
         ·simp only [pL,i64_w,i32_w]
          rfl
         refine pure_ (i:=33) (N:=some 46) (v:=?_) (a':=?_) soundserviceref13_Valid.q34 rfl rfl (any_of HT_.out (by kernel_rfl)) (fun _ _ _ h=>h) (Or.inl ⟨by rfl,?_⟩) ?_ ?_
         rotate_left;(· intro w';go_simp;with_reducible rfl);rotate_left;(· simp only [pL,i64_w,i32_w];rfl)
         refine done_ (done_of HT_.out (by kernel_rfl)) ?_
         try go_wp2
         go_ret
         exact ⟨by first|rfl|(simp [errW_none,errW_some] <;> rfl)|(simp [*,errW_none,errW_some] <;> rfl),by repeat (first|(with_reducible first|exact HB.out|apply bA|apply bN|apply bD|refine bS ?_ GE195.out|refine bS ?_ GE197.out)|exact HB.out)⟩
       ·rw [if_neg c9] at H
        have c9b0:(x8_1 == 0)=false:=beq_eq_false_iff_ne.mpr c9
        have c9b1:(x8_1 != 0)=true:=bne_iff_ne.mpr c9
        by_cases c31:x8_1 > 0
        ·rw [if_pos c31] at H
         have c31b0:decide (0 < x8_1)=true:=decide_eq_true c31
         clear c31
         obtain ⟨ji32,hji32⟩:∃ j_:Int,(wrap64 (x8_1 - 1))=j_:=⟨_,rfl⟩
         replace H:(if 0≤(ji32) then (if (ji32) < (l0_0.length:Int) then (if ((rd_T61 l0_0 x8_1).f0)≤((rd_T61 l0_0 (ji32)).f0) then (some false) else (if ((rd_T61 l0_0 x8_1).f0) > 1099511627776 then (some false) else (soundserviceref13_Valid.l0 k1 l0_0 (l0_0.length:Int) (wrap64 (x8_1+1)) l0_0))) else (none)) else (none))=some r:=by first|(rw [hji32] at H;exact H)|(simp only [hji32] at H ⊢;exact H)
         (try rw [hji32] at A7)
         have hji32w:(IntKind.i64.wrap (x8_1 - 1))=ji32:=(i64_w _).trans hji32
         by_cases c33:0≤(ji32)
         ·rw [if_pos c33] at H
          have c33b0:decide (0≤(ji32))=true:=decide_eq_true c33
          clear c33
          by_cases c34:(ji32) < (l0_0.length:Int)
          ·rw [if_pos c34] at H
           have c34b0:decide ((ji32) < (l0_0.length:Int))=true:=decide_eq_true c34
           clear c34
           by_cases c35:((rd_T61 l0_0 x8_1).f0)≤((rd_T61 l0_0 (ji32)).f0)
           ·rw [if_pos c35] at H
            have c35b0:decide (((rd_T61 l0_0 x8_1).f0)≤((rd_T61 l0_0 (ji32)).f0))=true:=decide_eq_true c35
            clear c35
            obtain rfl:=Option.some.inj H
            have p196:0≤(x8_1:Int):=of_decide_eq_true (by first|(with_reducible assumption)|assumption)
            have q196:x8_1 < (l0_0.length:Int):=of_decide_eq_true (by first|(with_reducible assumption)|assumption)
            obtain ⟨ad196,e196,hx196_0,hx196_1,hx196_2⟩:=at_T61 HR0_0.out x8_1 p196 q196
            cases e196
            replace hx196_0:=(HB.out.cell (World.block_lt_of_cell? w _ hx196_0)).trans hx196_0
            replace hx196_1:=(HB.out.cell (World.block_lt_of_cell? w _ hx196_1)).trans hx196_1
            replace hx196_2:=(HB.out.cell (World.block_lt_of_cell? w _ hx196_2)).trans hx196_2
            replace p196:=eq_true p196
            replace q196:=eq_true q196
            try go_wp2_with (first|((with_reducible refine gate_dst (N:=4) rfl ?_);refine box_event ?hg (N:=4) ?hd (cs:=#[.int .i64 0, .int .i64 0, .int .i64 0]) (t:=61) ?hr ?_;(case hd=>rfl);(case hg=>rfl);(case hr=>first|(go_simp;done)|(go_simp;rfl));intro gb197 hg w36 hbox hb;have n0_:=Am (blk_below (g:=gb195) (o:=.cells #[.slice (some ad196) l0_0.length c0_0] 24 (0,0)) (by (with_reducible repeat first|apply kN|apply kD|apply kA);exact BK195.out) hb);have n1_:=Am (below_step (by repeat (first|(with_reducible first|exact HB.out|apply bA|apply bN|apply bD|refine bS ?_ GE195.out)|exact HB.out)) hb);have n2_:=Am (hbox);have n3_:=Am ((by rw [hg];exact (below_size (by repeat (first|(with_reducible first|exact HB.out|apply bA|apply bN|apply bD|refine bS ?_ GE195.out)|exact HB.out))):w.heap.size≤gb197));have n4_:=Am ((by rw [hg];exact (below_size (by repeat (first|(with_reducible first|exact HB.out|apply bA|apply bN|apply bD|refine bS ?_ GE195.out)|exact HB.out))):w.heap.size≤gb197));have n5_:=Am ((by rw [hg];exact Nat.ne_of_lt (blk_lt (g:=gb195) (o:=.cells #[.slice (some ad196) l0_0.length c0_0] 24 (0,0)) (by (with_reducible repeat first|apply kN|apply kD|apply kA);exact BK195.out)):gb195≠gb197));have n6_:=Am (n5_.out.symm);clear BK195 HB;have BK195:=n0_;have HB:=n1_;have BK197:=n2_;have GW197:=n3_;have GE197:=n4_;have NB195_197:=n5_;have NB197_195:=n6_;clear n0_ n1_ n2_ n3_ n4_ n5_ n6_ hb hbox hg;have hnb37:=NB197_195.out;have hnc37:=NB195_197.out;have hcz38_0:w36.cell? ⟨gb197,0,none⟩=some (.int .i64 0):=(blk_cell BK197.out 0).trans rfl;have hcz38_1:w36.cell? ⟨gb197,1,none⟩=some (.int .i64 0):=(blk_cell BK197.out 1).trans rfl;have hcz38_2:w36.cell? ⟨gb197,2,none⟩=some (.int .i64 0):=(blk_cell BK197.out 2).trans rfl;have hfz38_0:=blk_frozen BK197.out 0;have hfz38_1:=blk_frozen BK197.out 1;have hfz38_2:=blk_frozen BK197.out 2))
            have n0_:Aside0 ((((w36.setCell ⟨gb197,0,none⟩ (.int .i64 ((rd_T61 l0_0 x8_1).f0))).setCell ⟨gb197,1,none⟩ (.int .i64 ((rd_T61 l0_0 x8_1).f1.f0))).setCell ⟨gb197,2,none⟩ (.int .i64 ((rd_T61 l0_0 x8_1).f1.f1))).heap[gb195]?=some (.cells #[.slice (some ad196) l0_0.length c0_0] 24 (0,0))):=⟨by (with_reducible repeat first|apply kN|apply kD|apply kA);refine blk_far ?_ NB195_197.out _;(with_reducible repeat first|apply kN|apply kD|apply kA);refine blk_far ?_ NB195_197.out _;(with_reducible repeat first|apply kN|apply kD|apply kA);refine blk_far ?_ NB195_197.out _;(with_reducible repeat first|apply kN|apply kD|apply kA);exact BK195.out⟩
            have n1_:Aside0 ((((w36.setCell ⟨gb197,0,none⟩ (.int .i64 ((rd_T61 l0_0 x8_1).f0))).setCell ⟨gb197,1,none⟩ (.int .i64 ((rd_T61 l0_0 x8_1).f1.f0))).setCell ⟨gb197,2,none⟩ (.int .i64 ((rd_T61 l0_0 x8_1).f1.f1))).heap[gb197]?=some (.cells #[.int .i64 ((rd_T61 l0_0 x8_1).f0), .int .i64 ((rd_T61 l0_0 x8_1).f1.f0), .int .i64 ((rd_T61 l0_0 x8_1).f1.f1)] 61 (0,0))):=⟨by (with_reducible repeat first|apply kN|apply kD|apply kA);refine blk_put (cs:=#[.int .i64 ((rd_T61 l0_0 x8_1).f0), .int .i64 ((rd_T61 l0_0 x8_1).f1.f0), .int .i64 0]) ?_ 2 _ rfl;(with_reducible repeat first|apply kN|apply kD|apply kA);refine blk_put (cs:=#[.int .i64 ((rd_T61 l0_0 x8_1).f0), .int .i64 0, .int .i64 0]) ?_ 1 _ rfl;(with_reducible repeat first|apply kN|apply kD|apply kA);refine blk_put (cs:=#[.int .i64 0, .int .i64 0, .int .i64 0]) ?_ 0 _ rfl;(with_reducible repeat first|apply kN|apply kD|apply kA);exact BK197.out⟩
            have n2_:Aside0 (Below w.heap.size w (((w36.setCell ⟨gb197,0,none⟩ (.int .i64 ((rd_T61 l0_0 x8_1).f0))).setCell ⟨gb197,1,none⟩ (.int .i64 ((rd_T61 l0_0 x8_1).f1.f0))).setCell ⟨gb197,2,none⟩ (.int .i64 ((rd_T61 l0_0 x8_1).f1.f1)))):=⟨by repeat (first|(with_reducible first|exact HB.out|apply bA|apply bN|apply bD|refine bS ?_ GE195.out|refine bS ?_ GE197.out)|exact HB.out)⟩
            (try clear BK195);(try clear BK197);(try clear HB)
            generalize (((w36.setCell ⟨gb197,0,none⟩ (.int .i64 ((rd_T61 l0_0 x8_1).f0))).setCell ⟨gb197,1,none⟩ (.int .i64 ((rd_T61 l0_0 x8_1).f1.f0))).setCell ⟨gb197,2,none⟩ (.int .i64 ((rd_T61 l0_0 x8_1).f1.f1)))=w39 at n0_ n1_ n2_ ⊢
            have BK195:=n0_;have BK197:=n1_;have HB:=n2_;clear n0_ n1_ n2_
            have n0_:=Am (kD BK195.out)
            have n1_:=Am (kD BK197.out)
            have n2_:=Am (bD HB.out)
            clear BK195 BK197 HB;have BK195:=n0_;have BK197:=n1_;have HB:=n2_;clear n0_ n1_ n2_
            have p200:0≤((ji32):Int):=of_decide_eq_true (by first|(with_reducible assumption)|assumption)
            have q200:(ji32) < (l0_0.length:Int):=of_decide_eq_true (by first|(with_reducible assumption)|assumption)
            obtain ⟨ad200,e200,hx200_0,hx200_1,hx200_2⟩:=at_T61 HR0_0.out (ji32) p200 q200
            have hw200_2:=hx200_2;have hw200_1:=hx200_1;have hw200_0:=hx200_0
            obtain rfl:ad196=ad200:=(by injection e200)
            replace hx200_0:=(HB.out.cell (World.block_lt_of_cell? w _ hx200_0)).trans hx200_0
            replace hx200_1:=(HB.out.cell (World.block_lt_of_cell? w _ hx200_1)).trans hx200_1
            replace hx200_2:=(HB.out.cell (World.block_lt_of_cell? w _ hx200_2)).trans hx200_2
            replace p200:=eq_true p200
            replace q200:=eq_true q200
            refine start_ (n:=34) (S:=fun w'=>w'.cell? ⟨gb197,0,none⟩=some (.int .i64 ((rd_T61 l0_0 x8_1).f0))∧w'.cell? ⟨gb197,1,none⟩=some (.int .i64 ((rd_T61 l0_0 x8_1).f1.f0))∧w'.cell? ⟨gb197,2,none⟩=some (.int .i64 ((rd_T61 l0_0 x8_1).f1.f1))∧w'.cell? ⟨gb195,0,none⟩=some (.slice (some ad196) l0_0.length c0_0)∧w'.cell? (ad196.add (((ji32)).toNat * 3))=some (.int .i64 ((rd_T61 l0_0 (ji32)).f0))∧w'.cell? ⟨(ad196.add (((ji32)).toNat * 3)).block,(ad196.add (((ji32)).toNat * 3)).off+1,none⟩=some (.int .i64 ((rd_T61 l0_0 (ji32)).f1.f0))∧w'.cell? ⟨(ad196.add (((ji32)).toNat * 3)).block,(ad196.add (((ji32)).toNat * 3)).off+2,none⟩=some (.int .i64 ((rd_T61 l0_0 (ji32)).f1.f1))) (ds:=[]) soundserviceref13_Valid.q0 (by kernel_rfl) rfl rfl ⟨(blk_cell BK197.out 0).trans rfl,(blk_cell BK197.out 1).trans rfl,(blk_cell BK197.out 2).trans rfl,(blk_cell BK195.out 0).trans rfl,((HB.out.cell (World.block_lt_of_cell? w _ hw200_0)).trans hw200_0),((HB.out.cell (World.block_lt_of_cell? w _ hw200_1)).trans hw200_1),((HB.out.cell (World.block_lt_of_cell? w _ hw200_2)).trans hw200_2)⟩ (fun hHeld=>?_);refine with_tabW soundserviceref13_Valid.tab4 soundserviceref13_Valid.bits4 (fun HT_ HW_=>?_)
            generalize w39.drew=w40 at BK195 BK197 HB hx200_0 hx200_1 hx200_2 hHeld ⊢
            refine pure_ (i:=0) (N:=some 13) (v:=?_) (a':=?_) soundserviceref13_Valid.q1 rfl rfl (any_of HT_.out (by kernel_rfl)) (fun _ _ _ h=>h) (Or.inl ⟨by rfl,?_⟩) ?_ ?_
            rotate_left;(· intro w';go_simp;with_reducible rfl);rotate_left;(· simp only [pL,i64_w,i32_w];rfl)
            refine take_ (i:=1) (N:=some 14) (v:=?_) (a':=?_) soundserviceref13_Valid.q2 rfl rfl (take_ofW HT_.out HW_.out (by kernel_rfl)) (fun _ _ _ h=>h) (Or.inl ⟨by rfl,?_⟩) hHeld ?_ ?_
            rotate_left;(· rintro w' ⟨s0,s1,s2,s3,s4,s5,s6⟩;go_simp;with_reducible rfl);rotate_left;(· simp only [pL,i64_w,i32_w];rfl)
            refine one_ (i:=2) (N:=some 15) soundserviceref13_Valid.q3 rfl rfl (one_of HT_.out (by kernel_rfl)) (by decide) (fun K hK=>?_)
            refine goes_ Try.func31 (by kernel_rfl) rfl #[.agg #[.int .i64 ((rd_T61 l0_0 x8_1).f1.f0), .int .i64 ((rd_T61 l0_0 x8_1).f1.f1)]] (by rfl) rfl rfl (by (try simp only [List.map_toArray,List.map_cons,List.map_nil]);first|done|rfl|(simp only [List.length_drop,List.length_take];rfl)) ?_
            with_reducible refine (soundserviceref13_rate.calls k1 ((rd_T61 l0_0 x8_1).f1.f0) ((rd_T61 l0_0 x8_1).f1.f1) true _ A7.out).mono ?_
            rintro e w41 ⟨rfl,hb⟩
            refine ⟨_,rfl,?_⟩
            have n0_:=Am (blk_below (g:=gb195) (o:=.cells #[.slice (some ad196) l0_0.length c0_0] 24 (0,0)) (by (with_reducible repeat first|apply kN|apply kD|apply kA);exact BK195.out) hb)
            have n1_:=Am (blk_below (g:=gb197) (o:=.cells #[.int .i64 ((rd_T61 l0_0 x8_1).f0), .int .i64 ((rd_T61 l0_0 x8_1).f1.f0), .int .i64 ((rd_T61 l0_0 x8_1).f1.f1)] 61 (0,0)) (by (with_reducible repeat first|apply kN|apply kD|apply kA);exact BK197.out) hb)
            have n2_:=Am (below_step (by repeat (first|(with_reducible first|exact HB.out|apply bA|apply bN|apply bD|refine bS ?_ GE195.out|refine bS ?_ GE197.out)|exact HB.out)) hb)
            clear BK195 BK197 HB;have BK195:=n0_;have BK197:=n1_;have HB:=n2_;clear n0_ n1_ n2_;(try clear hb)
            refine hK.out _ _ ⟨(blk_cell BK197.out 0).trans rfl,(blk_cell BK197.out 1).trans rfl,(blk_cell BK197.out 2).trans rfl,(blk_cell BK195.out 0).trans rfl,((HB.out.cell (World.block_lt_of_cell? w _ hw200_0)).trans hw200_0),((HB.out.cell (World.block_lt_of_cell? w _ hw200_1)).trans hw200_1),((HB.out.cell (World.block_lt_of_cell? w _ hw200_2)).trans hw200_2)⟩ (fun hHeld=>?_)
            clear hK K
            refine norm_ (a':=?_) ?_ ?_
            rotate_left
            ·show Act.put _ (some 15) _=_
             simp only [pL,i64_w,i32_w]
             rfl
            refine pure_ (i:=3) (N:=some 16) (v:=?_) (a':=?_) soundserviceref13_Valid.q4 rfl rfl (any_of HT_.out (by kernel_rfl)) (fun _ _ _ h=>h) (Or.inl ⟨by rfl,?_⟩) ?_ ?_
            rotate_left;(· intro w';go_simp;with_reducible rfl);rotate_left;(· simp only [pL,i64_w,i32_w];rfl)
            refine pure_ (i:=4) (N:=some 17) (v:=?_) (a':=?_) soundserviceref13_Valid.q5 rfl rfl (any_of HT_.out (by kernel_rfl)) (fun _ _ _ h=>h) (Or.inl ⟨by rfl,?_⟩) ?_ ?_
            rotate_left;(· intro w';go_simp;with_reducible rfl);rotate_left;(· simp only [pL,i64_w,i32_w];rfl)
            refine pure_ (i:=5) (N:=some 18) (v:=?_) (a':=?_) soundserviceref13_Valid.q6 rfl rfl (any_of HT_.out (by kernel_rfl)) (fun _ _ _ h=>h) (Or.inl ⟨by rfl,?_⟩) ?_ ?_
            rotate_left;(· intro w';go_simp;with_reducible rfl);rotate_left;(· simp only [pL,i64_w,i32_w];rfl)
            refine pure_ (i:=6) (N:=some 19) (v:=?_) (a':=?_) soundserviceref13_Valid.q7 rfl rfl (any_of HT_.out (by kernel_rfl)) (fun _ _ _ h=>h) (Or.inl ⟨by rfl,?_⟩) ?_ ?_
            rotate_left;(· intro w';go_simp;with_reducible rfl);rotate_left;(· simp only [pL,i64_w,i32_w];rfl)
            refine pure_ (i:=7) (N:=some 20) (v:=?_) (a':=?_) soundserviceref13_Valid.q8 rfl rfl (any_of HT_.out (by kernel_rfl)) (fun _ _ _ h=>h) (Or.inl ⟨by rfl,?_⟩) ?_ ?_
            rotate_left;(· intro w';go_simp;with_reducible rfl);rotate_left;(· simp only [pL,i64_w,i32_w];rfl)
            refine pure_ (i:=8) (N:=some 21) (v:=undef) (a':=?_) soundserviceref13_Valid.q9 rfl rfl (any_of HT_.out (by kernel_rfl)) (fun _ _ _ h=>h) (Or.inr ⟨by rfl,rfl⟩) ?_ ?_
            rotate_left
            ·simp only [pL,i64_w,i32_w]
             rfl
            refine pure_ (i:=9) (N:=some 22) (v:=undef) (a':=?_) soundserviceref13_Valid.q10 rfl rfl (any_of HT_.out (by kernel_rfl)) (fun _ _ _ h=>h) (Or.inr ⟨by rfl,rfl⟩) ?_ ?_
            rotate_left
            ·simp only [pL,i64_w,i32_w]
             rfl
            refine pure_ (i:=10) (N:=some 23) (v:=undef) (a':=?_) soundserviceref13_Valid.q11 rfl rfl (any_of HT_.out (by kernel_rfl)) (fun _ _ _ h=>h) (Or.inr ⟨by rfl,rfl⟩) ?_ ?_
            rotate_left
            ·simp only [pL,i64_w,i32_w]
             rfl
            refine pure_ (i:=11) (N:=some 24) (v:=?_) (a':=?_) soundserviceref13_Valid.q12 rfl rfl (any_of HT_.out (by kernel_rfl)) (fun _ _ _ h=>h) (Or.inl ⟨by rfl,?_⟩) ?_ ?_
            rotate_left;(· intro w';go_simp;with_reducible rfl);rotate_left;(· simp only [pL,i64_w,i32_w];rfl)
            refine pure_ (i:=12) (N:=some 25) (v:=?_) (a':=?_) soundserviceref13_Valid.q13 rfl rfl (any_of HT_.out (by kernel_rfl)) (fun _ _ _ h=>h) (Or.inl ⟨by rfl,?_⟩) ?_ ?_
            rotate_left;(· intro w';go_simp;with_reducible rfl);rotate_left;(· simp only [pL,i64_w,i32_w];rfl)
            refine pure_ (i:=13) (N:=some 26) (v:=?_) (a':=?_) soundserviceref13_Valid.q14 rfl rfl (any_of HT_.out (by kernel_rfl)) (fun _ _ _ h=>h) (Or.inl ⟨by rfl,?_⟩) ?_ ?_
            rotate_left;(· intro w';go_simp;with_reducible rfl);rotate_left;(· simp only [pL,i64_w,i32_w];rfl)
            refine pure_ (i:=14) (N:=some 27) (v:=?_) (a':=?_) soundserviceref13_Valid.q15 rfl rfl (any_of HT_.out (by kernel_rfl)) (fun _ _ _ h=>h) (Or.inl ⟨by rfl,?_⟩) ?_ ?_
            rotate_left;(· intro w';go_simp;with_reducible rfl);rotate_left;(· simp only [pL,i64_w,i32_w];rfl)
            refine pure_ (i:=15) (N:=some 28) (v:=?_) (a':=?_) soundserviceref13_Valid.q16 rfl rfl (any_of HT_.out (by kernel_rfl)) (fun _ _ _ h=>h) (Or.inl ⟨by rfl,?_⟩) ?_ ?_
            rotate_left;(· intro w';go_simp;with_reducible rfl);rotate_left;(· simp only [pL,i64_w,i32_w];rfl)
            refine pure_ (i:=16) (N:=some 29) (v:=?_) (a':=?_) soundserviceref13_Valid.q17 rfl rfl (any_of HT_.out (by kernel_rfl)) (fun _ _ _ h=>h) (Or.inl ⟨by rfl,?_⟩) ?_ ?_
            rotate_left;(· intro w';go_simp;with_reducible rfl);rotate_left;(· simp only [pL,i64_w,i32_w];rfl)
            refine pure_ (i:=17) (N:=some 30) (v:=?_) (a':=?_) soundserviceref13_Valid.q18 rfl rfl (any_of HT_.out (by kernel_rfl)) (fun _ _ _ h=>h) (Or.inl ⟨by rfl,?_⟩) ?_ ?_
            rotate_left;(· intro w';go_simp;with_reducible rfl);rotate_left;(· simp only [pL,i64_w,i32_w];rfl)
            refine pure_ (i:=19) (N:=some 32) (v:=?_) (a':=?_) soundserviceref13_Valid.q35 rfl rfl (any_of HT_.out (by kernel_rfl)) (fun _ _ _ h=>h) (Or.inl ⟨by rfl,?_⟩) ?_ ?_
            rotate_left;(· intro w';go_simp;with_reducible rfl);rotate_left;(· simp only [pL,i64_w,i32_w];rfl)
            refine pure_ (i:=21) (N:=some 34) (v:=?_) (a':=?_) soundserviceref13_Valid.q36 rfl rfl (any_of HT_.out (by kernel_rfl)) (fun _ _ _ h=>h) (Or.inl ⟨by rfl,?_⟩) ?_ ?_
            rotate_left;(· intro w';go_simp;with_reducible rfl);rotate_left;(· simp only [pL,i64_w,i32_w];rfl)
            refine pure_ (i:=22) (N:=some 35) (v:=?_) (a':=?_) soundserviceref13_Valid.q37 rfl rfl (any_of HT_.out (by kernel_rfl)) (fun _ _ _ h=>h) (Or.inl ⟨by rfl,?_⟩) ?_ ?_
            rotate_left;(· intro w';go_simp;with_reducible rfl);rotate_left;(· simp only [pL,i64_w,i32_w];rfl)
            refine take_ (i:=18) (N:=some 31) (v:=?_) (a':=?_) soundserviceref13_Valid.q38 rfl rfl (take_ofW HT_.out HW_.out (by kernel_rfl)) (fun _ _ _ h=>h) (Or.inl ⟨by rfl,?_⟩) hHeld ?_ ?_
            rotate_left;(· rintro w' ⟨s0,s1,s2,s3,s4,s5,s6⟩;go_simp;with_reducible rfl);rotate_left;(· simp only [pL,i64_w,i32_w];rfl)
            refine take_ (i:=20) (N:=some 33) (v:=?_) (a':=?_) soundserviceref13_Valid.q23 rfl rfl (take_ofW HT_.out HW_.out (by kernel_rfl)) (fun _ _ _ h=>h) (Or.inl ⟨by rfl,?_⟩) hHeld ?_ ?_
            rotate_left;(· rintro w' ⟨s0,s1,s2,s3,s4,s5,s6⟩;go_simp;with_reducible rfl);rotate_left;(· simp only [pL,i64_w,i32_w];rfl)
            refine pure_ (i:=23) (N:=some 36) (v:=?_) (a':=?_) soundserviceref13_Valid.q24 rfl rfl (any_of HT_.out (by kernel_rfl)) (fun _ _ _ h=>h) (Or.inl ⟨by rfl,?_⟩) ?_ ?_
            rotate_left;(· intro w';go_simp;with_reducible rfl);rotate_left;(· simp only [pL,i64_w,i32_w];rfl)
            refine pure_ (i:=24) (N:=some 37) (v:=?_) (a':=?_) soundserviceref13_Valid.q25 rfl rfl (any_of HT_.out (by kernel_rfl)) (fun _ _ _ h=>h) (Or.inl ⟨by rfl,?_⟩) ?_ ?_
            rotate_left;(· intro w';go_simp;with_reducible rfl);rotate_left;(· simp only [pL,i64_w,i32_w];rfl)
            refine take_ (i:=25) (N:=some 38) (v:=?_) (a':=?_) soundserviceref13_Valid.q26 rfl rfl (take_ofW HT_.out HW_.out (by kernel_rfl)) (fun _ _ _ h=>h) (Or.inl ⟨by rfl,?_⟩) hHeld ?_ ?_
            rotate_left;(· rintro w' ⟨s0,s1,s2,s3,s4,s5,s6⟩;go_simp;with_reducible rfl);rotate_left;(· simp only [pL,i64_w,i32_w];rfl)
            refine pure_ (i:=26) (N:=some 39) (v:=?_) (a':=?_) soundserviceref13_Valid.q27 rfl rfl (any_of HT_.out (by kernel_rfl)) (fun _ _ _ h=>h) (Or.inl ⟨by rfl,?_⟩) ?_ ?_
            rotate_left;(· intro w';go_simp;with_reducible rfl);rotate_left;(· simp only [pL,i64_w,i32_w];rfl)
            refine pure_ (i:=27) (N:=some 40) (v:=?_) (a':=?_) soundserviceref13_Valid.q28 rfl rfl (any_of HT_.out (by kernel_rfl)) (fun _ _ _ h=>h) (Or.inl ⟨by rfl,?_⟩) ?_ ?_
            rotate_left;(· intro w';go_simp;with_reducible rfl);rotate_left;(· simp only [pL,i64_w,i32_w];rfl)
            refine pure_ (i:=28) (N:=some 41) (v:=?_) (a':=?_) soundserviceref13_Valid.q29 rfl rfl (any_of HT_.out (by kernel_rfl)) (fun _ _ _ h=>h) (Or.inl ⟨by rfl,?_⟩) ?_ ?_
            rotate_left;(· intro w';go_simp;with_reducible rfl);rotate_left;(· simp only [pL,i64_w,i32_w];rfl)
            refine pure_ (i:=29) (N:=some 42) (v:=?_) (a':=?_) soundserviceref13_Valid.q30 rfl rfl (any_of HT_.out (by kernel_rfl)) (fun _ _ _ h=>h) (Or.inl ⟨by rfl,?_⟩) ?_ ?_
            rotate_left;(· intro w';go_simp;with_reducible rfl);rotate_left;(· simp only [pL,i64_w,i32_w];rfl)
            refine pure_ (i:=30) (N:=some 43) (v:=undef) (a':=?_) soundserviceref13_Valid.q31 rfl rfl (any_of HT_.out (by kernel_rfl)) (fun _ _ _ h=>h) (Or.inr ⟨by rfl,rfl⟩) ?_ ?_
            rotate_left
            ·simp only [pL,i64_w,i32_w]
             rfl
            refine pure_ (i:=31) (N:=some 44) (v:=undef) (a':=?_) soundserviceref13_Valid.q32 rfl rfl (any_of HT_.out (by kernel_rfl)) (fun _ _ _ h=>h) (Or.inr ⟨by rfl,rfl⟩) ?_ ?_
            rotate_left
            ·simp only [pL,i64_w,i32_w]
             rfl
            refine pure_ (i:=32) (N:=some 45) (v:=undef) (a':=?_) soundserviceref13_Valid.q33 rfl rfl (any_of HT_.out (by kernel_rfl)) (fun _ _ _ h=>h) (Or.inr ⟨by rfl,rfl⟩) ?_ ?_
            rotate_left
            ·simp only [pL,i64_w,i32_w]
             rfl
            refine pure_ (i:=33) (N:=some 46) (v:=?_) (a':=?_) soundserviceref13_Valid.q34 rfl rfl (any_of HT_.out (by kernel_rfl)) (fun _ _ _ h=>h) (Or.inl ⟨by rfl,?_⟩) ?_ ?_
            rotate_left;(· intro w';go_simp;with_reducible rfl);rotate_left;(· simp only [pL,i64_w,i32_w];rfl)
            refine done_ (done_of HT_.out (by kernel_rfl)) ?_
            try go_wp2
            go_ret
            exact ⟨by first|rfl|(simp [errW_none,errW_some] <;> rfl)|(simp only [← hji32];first|rfl|(simp [errW_none,errW_some] <;> rfl))|(simp [*,errW_none,errW_some] <;> rfl),by repeat (first|(with_reducible first|exact HB.out|apply bA|apply bN|apply bD|refine bS ?_ GE195.out|refine bS ?_ GE197.out)|exact HB.out)⟩
           ·rw [if_neg c35] at H
            have c35b0:decide (((rd_T61 l0_0 x8_1).f0)≤((rd_T61 l0_0 (ji32)).f0))=false:=decide_eq_false c35
            clear c35
            by_cases c42:((rd_T61 l0_0 x8_1).f0) > 1099511627776
            ·rw [if_pos c42] at H
             have c42b0:decide (1099511627776 < ((rd_T61 l0_0 x8_1).f0))=true:=decide_eq_true c42
             clear c42
             obtain rfl:=Option.some.inj H
             have p196:0≤(x8_1:Int):=of_decide_eq_true (by first|(with_reducible assumption)|assumption)
             have q196:x8_1 < (l0_0.length:Int):=of_decide_eq_true (by first|(with_reducible assumption)|assumption)
             obtain ⟨ad196,e196,hx196_0,hx196_1,hx196_2⟩:=at_T61 HR0_0.out x8_1 p196 q196
             cases e196
             replace hx196_0:=(HB.out.cell (World.block_lt_of_cell? w _ hx196_0)).trans hx196_0
             replace hx196_1:=(HB.out.cell (World.block_lt_of_cell? w _ hx196_1)).trans hx196_1
             replace hx196_2:=(HB.out.cell (World.block_lt_of_cell? w _ hx196_2)).trans hx196_2
             replace p196:=eq_true p196
             replace q196:=eq_true q196
             try go_wp2_with (first|((with_reducible refine gate_dst (N:=4) rfl ?_);refine box_event ?hg (N:=4) ?hd (cs:=#[.int .i64 0, .int .i64 0, .int .i64 0]) (t:=61) ?hr ?_;(case hd=>rfl);(case hg=>rfl);(case hr=>first|(go_simp;done)|(go_simp;rfl));intro gb197 hg w43 hbox hb;have n0_:=Am (blk_below (g:=gb195) (o:=.cells #[.slice (some ad196) l0_0.length c0_0] 24 (0,0)) (by (with_reducible repeat first|apply kN|apply kD|apply kA);exact BK195.out) hb);have n1_:=Am (below_step (by repeat (first|(with_reducible first|exact HB.out|apply bA|apply bN|apply bD|refine bS ?_ GE195.out)|exact HB.out)) hb);have n2_:=Am (hbox);have n3_:=Am ((by rw [hg];exact (below_size (by repeat (first|(with_reducible first|exact HB.out|apply bA|apply bN|apply bD|refine bS ?_ GE195.out)|exact HB.out))):w.heap.size≤gb197));have n4_:=Am ((by rw [hg];exact (below_size (by repeat (first|(with_reducible first|exact HB.out|apply bA|apply bN|apply bD|refine bS ?_ GE195.out)|exact HB.out))):w.heap.size≤gb197));have n5_:=Am ((by rw [hg];exact Nat.ne_of_lt (blk_lt (g:=gb195) (o:=.cells #[.slice (some ad196) l0_0.length c0_0] 24 (0,0)) (by (with_reducible repeat first|apply kN|apply kD|apply kA);exact BK195.out)):gb195≠gb197));have n6_:=Am (n5_.out.symm);clear BK195 HB;have BK195:=n0_;have HB:=n1_;have BK197:=n2_;have GW197:=n3_;have GE197:=n4_;have NB195_197:=n5_;have NB197_195:=n6_;clear n0_ n1_ n2_ n3_ n4_ n5_ n6_ hb hbox hg;have hnb44:=NB197_195.out;have hnc44:=NB195_197.out;have hcz45_0:w43.cell? ⟨gb197,0,none⟩=some (.int .i64 0):=(blk_cell BK197.out 0).trans rfl;have hcz45_1:w43.cell? ⟨gb197,1,none⟩=some (.int .i64 0):=(blk_cell BK197.out 1).trans rfl;have hcz45_2:w43.cell? ⟨gb197,2,none⟩=some (.int .i64 0):=(blk_cell BK197.out 2).trans rfl;have hfz45_0:=blk_frozen BK197.out 0;have hfz45_1:=blk_frozen BK197.out 1;have hfz45_2:=blk_frozen BK197.out 2))
             have n0_:Aside0 ((((w43.setCell ⟨gb197,0,none⟩ (.int .i64 ((rd_T61 l0_0 x8_1).f0))).setCell ⟨gb197,1,none⟩ (.int .i64 ((rd_T61 l0_0 x8_1).f1.f0))).setCell ⟨gb197,2,none⟩ (.int .i64 ((rd_T61 l0_0 x8_1).f1.f1))).heap[gb195]?=some (.cells #[.slice (some ad196) l0_0.length c0_0] 24 (0,0))):=⟨by (with_reducible repeat first|apply kN|apply kD|apply kA);refine blk_far ?_ NB195_197.out _;(with_reducible repeat first|apply kN|apply kD|apply kA);refine blk_far ?_ NB195_197.out _;(with_reducible repeat first|apply kN|apply kD|apply kA);refine blk_far ?_ NB195_197.out _;(with_reducible repeat first|apply kN|apply kD|apply kA);exact BK195.out⟩
             have n1_:Aside0 ((((w43.setCell ⟨gb197,0,none⟩ (.int .i64 ((rd_T61 l0_0 x8_1).f0))).setCell ⟨gb197,1,none⟩ (.int .i64 ((rd_T61 l0_0 x8_1).f1.f0))).setCell ⟨gb197,2,none⟩ (.int .i64 ((rd_T61 l0_0 x8_1).f1.f1))).heap[gb197]?=some (.cells #[.int .i64 ((rd_T61 l0_0 x8_1).f0), .int .i64 ((rd_T61 l0_0 x8_1).f1.f0), .int .i64 ((rd_T61 l0_0 x8_1).f1.f1)] 61 (0,0))):=⟨by (with_reducible repeat first|apply kN|apply kD|apply kA);refine blk_put (cs:=#[.int .i64 ((rd_T61 l0_0 x8_1).f0), .int .i64 ((rd_T61 l0_0 x8_1).f1.f0), .int .i64 0]) ?_ 2 _ rfl;(with_reducible repeat first|apply kN|apply kD|apply kA);refine blk_put (cs:=#[.int .i64 ((rd_T61 l0_0 x8_1).f0), .int .i64 0, .int .i64 0]) ?_ 1 _ rfl;(with_reducible repeat first|apply kN|apply kD|apply kA);refine blk_put (cs:=#[.int .i64 0, .int .i64 0, .int .i64 0]) ?_ 0 _ rfl;(with_reducible repeat first|apply kN|apply kD|apply kA);exact BK197.out⟩
             have n2_:Aside0 (Below w.heap.size w (((w43.setCell ⟨gb197,0,none⟩ (.int .i64 ((rd_T61 l0_0 x8_1).f0))).setCell ⟨gb197,1,none⟩ (.int .i64 ((rd_T61 l0_0 x8_1).f1.f0))).setCell ⟨gb197,2,none⟩ (.int .i64 ((rd_T61 l0_0 x8_1).f1.f1)))):=⟨by repeat (first|(with_reducible first|exact HB.out|apply bA|apply bN|apply bD|refine bS ?_ GE195.out|refine bS ?_ GE197.out)|exact HB.out)⟩
             (try clear BK195);(try clear BK197);(try clear HB)
             generalize (((w43.setCell ⟨gb197,0,none⟩ (.int .i64 ((rd_T61 l0_0 x8_1).f0))).setCell ⟨gb197,1,none⟩ (.int .i64 ((rd_T61 l0_0 x8_1).f1.f0))).setCell ⟨gb197,2,none⟩ (.int .i64 ((rd_T61 l0_0 x8_1).f1.f1)))=w46 at n0_ n1_ n2_ ⊢
             have BK195:=n0_;have BK197:=n1_;have HB:=n2_;clear n0_ n1_ n2_
             have n0_:=Am (kD BK195.out)
             have n1_:=Am (kD BK197.out)
             have n2_:=Am (bD HB.out)
             clear BK195 BK197 HB;have BK195:=n0_;have BK197:=n1_;have HB:=n2_;clear n0_ n1_ n2_
             have p200:0≤((ji32):Int):=of_decide_eq_true (by first|(with_reducible assumption)|assumption)
             have q200:(ji32) < (l0_0.length:Int):=of_decide_eq_true (by first|(with_reducible assumption)|assumption)
             obtain ⟨ad200,e200,hx200_0,hx200_1,hx200_2⟩:=at_T61 HR0_0.out (ji32) p200 q200
             have hw200_2:=hx200_2;have hw200_1:=hx200_1;have hw200_0:=hx200_0
             obtain rfl:ad196=ad200:=(by injection e200)
             replace hx200_0:=(HB.out.cell (World.block_lt_of_cell? w _ hx200_0)).trans hx200_0
             replace hx200_1:=(HB.out.cell (World.block_lt_of_cell? w _ hx200_1)).trans hx200_1
             replace hx200_2:=(HB.out.cell (World.block_lt_of_cell? w _ hx200_2)).trans hx200_2
             replace p200:=eq_true p200
             replace q200:=eq_true q200
             refine start_ (n:=34) (S:=fun w'=>w'.cell? ⟨gb197,0,none⟩=some (.int .i64 ((rd_T61 l0_0 x8_1).f0))∧w'.cell? ⟨gb197,1,none⟩=some (.int .i64 ((rd_T61 l0_0 x8_1).f1.f0))∧w'.cell? ⟨gb197,2,none⟩=some (.int .i64 ((rd_T61 l0_0 x8_1).f1.f1))∧w'.cell? ⟨gb195,0,none⟩=some (.slice (some ad196) l0_0.length c0_0)∧w'.cell? (ad196.add (((ji32)).toNat * 3))=some (.int .i64 ((rd_T61 l0_0 (ji32)).f0))∧w'.cell? ⟨(ad196.add (((ji32)).toNat * 3)).block,(ad196.add (((ji32)).toNat * 3)).off+1,none⟩=some (.int .i64 ((rd_T61 l0_0 (ji32)).f1.f0))∧w'.cell? ⟨(ad196.add (((ji32)).toNat * 3)).block,(ad196.add (((ji32)).toNat * 3)).off+2,none⟩=some (.int .i64 ((rd_T61 l0_0 (ji32)).f1.f1))) (ds:=[]) soundserviceref13_Valid.q0 (by kernel_rfl) rfl rfl ⟨(blk_cell BK197.out 0).trans rfl,(blk_cell BK197.out 1).trans rfl,(blk_cell BK197.out 2).trans rfl,(blk_cell BK195.out 0).trans rfl,((HB.out.cell (World.block_lt_of_cell? w _ hw200_0)).trans hw200_0),((HB.out.cell (World.block_lt_of_cell? w _ hw200_1)).trans hw200_1),((HB.out.cell (World.block_lt_of_cell? w _ hw200_2)).trans hw200_2)⟩ (fun hHeld=>?_);refine with_tabW soundserviceref13_Valid.tab4 soundserviceref13_Valid.bits4 (fun HT_ HW_=>?_)
             generalize w46.drew=w47 at BK195 BK197 HB hx200_0 hx200_1 hx200_2 hHeld ⊢
             refine pure_ (i:=0) (N:=some 13) (v:=?_) (a':=?_) soundserviceref13_Valid.q1 rfl rfl (any_of HT_.out (by kernel_rfl)) (fun _ _ _ h=>h) (Or.inl ⟨by rfl,?_⟩) ?_ ?_
             rotate_left;(· intro w';go_simp;with_reducible rfl);rotate_left;(· simp only [pL,i64_w,i32_w];rfl)
             refine take_ (i:=1) (N:=some 14) (v:=?_) (a':=?_) soundserviceref13_Valid.q2 rfl rfl (take_ofW HT_.out HW_.out (by kernel_rfl)) (fun _ _ _ h=>h) (Or.inl ⟨by rfl,?_⟩) hHeld ?_ ?_
             rotate_left;(· rintro w' ⟨s0,s1,s2,s3,s4,s5,s6⟩;go_simp;with_reducible rfl);rotate_left;(· simp only [pL,i64_w,i32_w];rfl)
             refine one_ (i:=2) (N:=some 15) soundserviceref13_Valid.q3 rfl rfl (one_of HT_.out (by kernel_rfl)) (by decide) (fun K hK=>?_)
             refine goes_ Try.func31 (by kernel_rfl) rfl #[.agg #[.int .i64 ((rd_T61 l0_0 x8_1).f1.f0), .int .i64 ((rd_T61 l0_0 x8_1).f1.f1)]] (by rfl) rfl rfl (by (try simp only [List.map_toArray,List.map_cons,List.map_nil]);first|done|rfl|(simp only [List.length_drop,List.length_take];rfl)) ?_
             with_reducible refine (soundserviceref13_rate.calls k1 ((rd_T61 l0_0 x8_1).f1.f0) ((rd_T61 l0_0 x8_1).f1.f1) true _ A7.out).mono ?_
             rintro e w48 ⟨rfl,hb⟩
             refine ⟨_,rfl,?_⟩
             have n0_:=Am (blk_below (g:=gb195) (o:=.cells #[.slice (some ad196) l0_0.length c0_0] 24 (0,0)) (by (with_reducible repeat first|apply kN|apply kD|apply kA);exact BK195.out) hb)
             have n1_:=Am (blk_below (g:=gb197) (o:=.cells #[.int .i64 ((rd_T61 l0_0 x8_1).f0), .int .i64 ((rd_T61 l0_0 x8_1).f1.f0), .int .i64 ((rd_T61 l0_0 x8_1).f1.f1)] 61 (0,0)) (by (with_reducible repeat first|apply kN|apply kD|apply kA);exact BK197.out) hb)
             have n2_:=Am (below_step (by repeat (first|(with_reducible first|exact HB.out|apply bA|apply bN|apply bD|refine bS ?_ GE195.out|refine bS ?_ GE197.out)|exact HB.out)) hb)
             clear BK195 BK197 HB;have BK195:=n0_;have BK197:=n1_;have HB:=n2_;clear n0_ n1_ n2_;(try clear hb)
             refine hK.out _ _ ⟨(blk_cell BK197.out 0).trans rfl,(blk_cell BK197.out 1).trans rfl,(blk_cell BK197.out 2).trans rfl,(blk_cell BK195.out 0).trans rfl,((HB.out.cell (World.block_lt_of_cell? w _ hw200_0)).trans hw200_0),((HB.out.cell (World.block_lt_of_cell? w _ hw200_1)).trans hw200_1),((HB.out.cell (World.block_lt_of_cell? w _ hw200_2)).trans hw200_2)⟩ (fun hHeld=>?_)
             clear hK K
             refine norm_ (a':=?_) ?_ ?_
             rotate_left
             ·show Act.put _ (some 15) _=_
              simp only [pL,i64_w,i32_w]
              rfl
             refine pure_ (i:=3) (N:=some 16) (v:=?_) (a':=?_) soundserviceref13_Valid.q4 rfl rfl (any_of HT_.out (by kernel_rfl)) (fun _ _ _ h=>h) (Or.inl ⟨by rfl,?_⟩) ?_ ?_
             rotate_left;(· intro w';go_simp;with_reducible rfl);rotate_left;(· simp only [pL,i64_w,i32_w];rfl)
             refine pure_ (i:=4) (N:=some 17) (v:=?_) (a':=?_) soundserviceref13_Valid.q5 rfl rfl (any_of HT_.out (by kernel_rfl)) (fun _ _ _ h=>h) (Or.inl ⟨by rfl,?_⟩) ?_ ?_
             rotate_left;(· intro w';go_simp;with_reducible rfl);rotate_left;(· simp only [pL,i64_w,i32_w];rfl)
             refine pure_ (i:=5) (N:=some 18) (v:=?_) (a':=?_) soundserviceref13_Valid.q6 rfl rfl (any_of HT_.out (by kernel_rfl)) (fun _ _ _ h=>h) (Or.inl ⟨by rfl,?_⟩) ?_ ?_
             rotate_left;(· intro w';go_simp;with_reducible rfl);rotate_left;(· simp only [pL,i64_w,i32_w];rfl)
             refine pure_ (i:=6) (N:=some 19) (v:=?_) (a':=?_) soundserviceref13_Valid.q7 rfl rfl (any_of HT_.out (by kernel_rfl)) (fun _ _ _ h=>h) (Or.inl ⟨by rfl,?_⟩) ?_ ?_
             rotate_left;(· intro w';go_simp;with_reducible rfl);rotate_left;(· simp only [pL,i64_w,i32_w];rfl)
             refine pure_ (i:=7) (N:=some 20) (v:=?_) (a':=?_) soundserviceref13_Valid.q8 rfl rfl (any_of HT_.out (by kernel_rfl)) (fun _ _ _ h=>h) (Or.inl ⟨by rfl,?_⟩) ?_ ?_
             rotate_left;(· intro w';go_simp;with_reducible rfl);rotate_left;(· simp only [pL,i64_w,i32_w];rfl)
             refine pure_ (i:=8) (N:=some 21) (v:=undef) (a':=?_) soundserviceref13_Valid.q9 rfl rfl (any_of HT_.out (by kernel_rfl)) (fun _ _ _ h=>h) (Or.inr ⟨by rfl,rfl⟩) ?_ ?_
             rotate_left
             ·simp only [pL,i64_w,i32_w]
              rfl
             refine pure_ (i:=9) (N:=some 22) (v:=undef) (a':=?_) soundserviceref13_Valid.q10 rfl rfl (any_of HT_.out (by kernel_rfl)) (fun _ _ _ h=>h) (Or.inr ⟨by rfl,rfl⟩) ?_ ?_
             rotate_left
             ·simp only [pL,i64_w,i32_w]
              rfl
             refine pure_ (i:=10) (N:=some 23) (v:=undef) (a':=?_) soundserviceref13_Valid.q11 rfl rfl (any_of HT_.out (by kernel_rfl)) (fun _ _ _ h=>h) (Or.inr ⟨by rfl,rfl⟩) ?_ ?_
             rotate_left
             ·simp only [pL,i64_w,i32_w]
              rfl
             refine pure_ (i:=11) (N:=some 24) (v:=?_) (a':=?_) soundserviceref13_Valid.q12 rfl rfl (any_of HT_.out (by kernel_rfl)) (fun _ _ _ h=>h) (Or.inl ⟨by rfl,?_⟩) ?_ ?_
             rotate_left;(· intro w';go_simp;with_reducible rfl);rotate_left;(· simp only [pL,i64_w,i32_w];rfl)
             refine pure_ (i:=12) (N:=some 25) (v:=?_) (a':=?_) soundserviceref13_Valid.q13 rfl rfl (any_of HT_.out (by kernel_rfl)) (fun _ _ _ h=>h) (Or.inl ⟨by rfl,?_⟩) ?_ ?_
             rotate_left;(· intro w';go_simp;with_reducible rfl);rotate_left;(· simp only [pL,i64_w,i32_w];rfl)
             refine pure_ (i:=13) (N:=some 26) (v:=?_) (a':=?_) soundserviceref13_Valid.q14 rfl rfl (any_of HT_.out (by kernel_rfl)) (fun _ _ _ h=>h) (Or.inl ⟨by rfl,?_⟩) ?_ ?_
             rotate_left;(· intro w';go_simp;with_reducible rfl);rotate_left;(· simp only [pL,i64_w,i32_w];rfl)
             refine pure_ (i:=14) (N:=some 27) (v:=?_) (a':=?_) soundserviceref13_Valid.q15 rfl rfl (any_of HT_.out (by kernel_rfl)) (fun _ _ _ h=>h) (Or.inl ⟨by rfl,?_⟩) ?_ ?_
             rotate_left;(· intro w';go_simp;with_reducible rfl);rotate_left;(· simp only [pL,i64_w,i32_w];rfl)
             refine pure_ (i:=15) (N:=some 28) (v:=?_) (a':=?_) soundserviceref13_Valid.q16 rfl rfl (any_of HT_.out (by kernel_rfl)) (fun _ _ _ h=>h) (Or.inl ⟨by rfl,?_⟩) ?_ ?_
             rotate_left;(· intro w';go_simp;with_reducible rfl);rotate_left;(· simp only [pL,i64_w,i32_w];rfl)
             refine pure_ (i:=16) (N:=some 29) (v:=?_) (a':=?_) soundserviceref13_Valid.q17 rfl rfl (any_of HT_.out (by kernel_rfl)) (fun _ _ _ h=>h) (Or.inl ⟨by rfl,?_⟩) ?_ ?_
             rotate_left;(· intro w';go_simp;with_reducible rfl);rotate_left;(· simp only [pL,i64_w,i32_w];rfl)
             refine pure_ (i:=17) (N:=some 30) (v:=?_) (a':=?_) soundserviceref13_Valid.q18 rfl rfl (any_of HT_.out (by kernel_rfl)) (fun _ _ _ h=>h) (Or.inl ⟨by rfl,?_⟩) ?_ ?_
             rotate_left;(· intro w';go_simp;with_reducible rfl);rotate_left;(· simp only [pL,i64_w,i32_w];rfl)
             refine pure_ (i:=19) (N:=some 32) (v:=?_) (a':=?_) soundserviceref13_Valid.q35 rfl rfl (any_of HT_.out (by kernel_rfl)) (fun _ _ _ h=>h) (Or.inl ⟨by rfl,?_⟩) ?_ ?_
             rotate_left;(· intro w';go_simp;with_reducible rfl);rotate_left;(· simp only [pL,i64_w,i32_w];rfl)
             refine pure_ (i:=21) (N:=some 34) (v:=?_) (a':=?_) soundserviceref13_Valid.q36 rfl rfl (any_of HT_.out (by kernel_rfl)) (fun _ _ _ h=>h) (Or.inl ⟨by rfl,?_⟩) ?_ ?_
             rotate_left;(· intro w';go_simp;with_reducible rfl);rotate_left;(· simp only [pL,i64_w,i32_w];rfl)
             refine pure_ (i:=22) (N:=some 35) (v:=?_) (a':=?_) soundserviceref13_Valid.q37 rfl rfl (any_of HT_.out (by kernel_rfl)) (fun _ _ _ h=>h) (Or.inl ⟨by rfl,?_⟩) ?_ ?_
             rotate_left;(· intro w';go_simp;with_reducible rfl);rotate_left;(· simp only [pL,i64_w,i32_w];rfl)
             refine take_ (i:=18) (N:=some 31) (v:=?_) (a':=?_) soundserviceref13_Valid.q38 rfl rfl (take_ofW HT_.out HW_.out (by kernel_rfl)) (fun _ _ _ h=>h) (Or.inl ⟨by rfl,?_⟩) hHeld ?_ ?_
             rotate_left;(· rintro w' ⟨s0,s1,s2,s3,s4,s5,s6⟩;go_simp;with_reducible rfl);rotate_left;(· simp only [pL,i64_w,i32_w];rfl)
             refine take_ (i:=20) (N:=some 33) (v:=?_) (a':=?_) soundserviceref13_Valid.q23 rfl rfl (take_ofW HT_.out HW_.out (by kernel_rfl)) (fun _ _ _ h=>h) (Or.inl ⟨by rfl,?_⟩) hHeld ?_ ?_
             rotate_left;(· rintro w' ⟨s0,s1,s2,s3,s4,s5,s6⟩;go_simp;with_reducible rfl);rotate_left;(· simp only [pL,i64_w,i32_w];rfl)
             refine pure_ (i:=23) (N:=some 36) (v:=?_) (a':=?_) soundserviceref13_Valid.q24 rfl rfl (any_of HT_.out (by kernel_rfl)) (fun _ _ _ h=>h) (Or.inl ⟨by rfl,?_⟩) ?_ ?_
             rotate_left;(· intro w';go_simp;with_reducible rfl);rotate_left;(· simp only [pL,i64_w,i32_w];rfl)
             refine pure_ (i:=24) (N:=some 37) (v:=?_) (a':=?_) soundserviceref13_Valid.q25 rfl rfl (any_of HT_.out (by kernel_rfl)) (fun _ _ _ h=>h) (Or.inl ⟨by rfl,?_⟩) ?_ ?_
             rotate_left;(· intro w';go_simp;with_reducible rfl);rotate_left;(· simp only [pL,i64_w,i32_w];rfl)
             refine take_ (i:=25) (N:=some 38) (v:=?_) (a':=?_) soundserviceref13_Valid.q26 rfl rfl (take_ofW HT_.out HW_.out (by kernel_rfl)) (fun _ _ _ h=>h) (Or.inl ⟨by rfl,?_⟩) hHeld ?_ ?_
             rotate_left;(· rintro w' ⟨s0,s1,s2,s3,s4,s5,s6⟩;go_simp;with_reducible rfl);rotate_left;(· simp only [pL,i64_w,i32_w];rfl)
             refine pure_ (i:=26) (N:=some 39) (v:=?_) (a':=?_) soundserviceref13_Valid.q27 rfl rfl (any_of HT_.out (by kernel_rfl)) (fun _ _ _ h=>h) (Or.inl ⟨by rfl,?_⟩) ?_ ?_
             rotate_left;(· intro w';go_simp;with_reducible rfl);rotate_left;(· simp only [pL,i64_w,i32_w];rfl)
             refine pure_ (i:=27) (N:=some 40) (v:=?_) (a':=?_) soundserviceref13_Valid.q28 rfl rfl (any_of HT_.out (by kernel_rfl)) (fun _ _ _ h=>h) (Or.inl ⟨by rfl,?_⟩) ?_ ?_
             rotate_left;(· intro w';go_simp;with_reducible rfl);rotate_left;(· simp only [pL,i64_w,i32_w];rfl)
             refine pure_ (i:=28) (N:=some 41) (v:=?_) (a':=?_) soundserviceref13_Valid.q29 rfl rfl (any_of HT_.out (by kernel_rfl)) (fun _ _ _ h=>h) (Or.inl ⟨by rfl,?_⟩) ?_ ?_
             rotate_left;(· intro w';go_simp;with_reducible rfl);rotate_left;(· simp only [pL,i64_w,i32_w];rfl)
             refine pure_ (i:=29) (N:=some 42) (v:=?_) (a':=?_) soundserviceref13_Valid.q30 rfl rfl (any_of HT_.out (by kernel_rfl)) (fun _ _ _ h=>h) (Or.inl ⟨by rfl,?_⟩) ?_ ?_
             rotate_left;(· intro w';go_simp;with_reducible rfl);rotate_left;(· simp only [pL,i64_w,i32_w];rfl)
             refine pure_ (i:=30) (N:=some 43) (v:=?_) (a':=?_) soundserviceref13_Valid.q31 rfl rfl (any_of HT_.out (by kernel_rfl)) (fun _ _ _ h=>h) (Or.inl ⟨by rfl,?_⟩) ?_ ?_
             rotate_left;(· intro w';go_simp;with_reducible rfl);rotate_left;(· simp only [pL,i64_w,i32_w];rfl)
             refine take_ (i:=31) (N:=some 44) (v:=?_) (a':=?_) soundserviceref13_Valid.q32 rfl rfl (take_ofW HT_.out HW_.out (by kernel_rfl)) (fun _ _ _ h=>h) (Or.inl ⟨by rfl,?_⟩) hHeld ?_ ?_
             rotate_left;(· rintro w' ⟨s0,s1,s2,s3,s4,s5,s6⟩;go_simp;with_reducible rfl);rotate_left;(· simp only [pL,i64_w,i32_w];rfl)
             refine pure_ (i:=32) (N:=some 45) (v:=?_) (a':=?_) soundserviceref13_Valid.q33 rfl rfl (any_of HT_.out (by kernel_rfl)) (fun _ _ _ h=>h) (Or.inl ⟨by rfl,?_⟩) ?_ ?_
             rotate_left;(· intro w';go_simp;with_reducible rfl);rotate_left;(· simp only [pL,i64_w,i32_w];rfl)
             refine pure_ (i:=33) (N:=some 46) (v:=?_) (a':=?_) soundserviceref13_Valid.q34 rfl rfl (any_of HT_.out (by kernel_rfl)) (fun _ _ _ h=>h) (Or.inl ⟨by rfl,?_⟩) ?_ ?_
             rotate_left;(· intro w';go_simp;with_reducible rfl);rotate_left;(· simp only [pL,i64_w,i32_w];rfl)
             refine done_ (done_of HT_.out (by kernel_rfl)) ?_
             try go_wp2
             go_ret
             exact ⟨by first|rfl|(simp [errW_none,errW_some] <;> rfl)|(simp only [← hji32];first|rfl|(simp [errW_none,errW_some] <;> rfl))|(simp [*,errW_none,errW_some] <;> rfl),by repeat (first|(with_reducible first|exact HB.out|apply bA|apply bN|apply bD|refine bS ?_ GE195.out|refine bS ?_ GE197.out)|exact HB.out)⟩
            ·rw [if_neg c42] at H
             have c42b0:decide (1099511627776 < ((rd_T61 l0_0 x8_1).f0))=false:=decide_eq_false c42
             clear c42
             have H':=Am H
             clear H
             have p196:0≤(x8_1:Int):=of_decide_eq_true (by first|(with_reducible assumption)|assumption)
             have q196:x8_1 < (l0_0.length:Int):=of_decide_eq_true (by first|(with_reducible assumption)|assumption)
             obtain ⟨ad196,e196,hx196_0,hx196_1,hx196_2⟩:=at_T61 HR0_0.out x8_1 p196 q196
             cases e196
             replace hx196_0:=(HB.out.cell (World.block_lt_of_cell? w _ hx196_0)).trans hx196_0
             replace hx196_1:=(HB.out.cell (World.block_lt_of_cell? w _ hx196_1)).trans hx196_1
             replace hx196_2:=(HB.out.cell (World.block_lt_of_cell? w _ hx196_2)).trans hx196_2
             replace p196:=eq_true p196
             replace q196:=eq_true q196
             try go_wp2_with (first|((with_reducible refine gate_dst (N:=4) rfl ?_);refine box_event ?hg (N:=4) ?hd (cs:=#[.int .i64 0, .int .i64 0, .int .i64 0]) (t:=61) ?hr ?_;(case hd=>rfl);(case hg=>rfl);(case hr=>first|(go_simp;done)|(go_simp;rfl));intro gb197 hg w49 hbox hb;have n0_:=Am (blk_below (g:=gb195) (o:=.cells #[.slice (some ad196) l0_0.length c0_0] 24 (0,0)) (by (with_reducible repeat first|apply kN|apply kD|apply kA);exact BK195.out) hb);have n1_:=Am (below_step (by repeat (first|(with_reducible first|exact HB.out|apply bA|apply bN|apply bD|refine bS ?_ GE195.out)|exact HB.out)) hb);have n2_:=Am (hbox);have n3_:=Am ((by rw [hg];exact (below_size (by repeat (first|(with_reducible first|exact HB.out|apply bA|apply bN|apply bD|refine bS ?_ GE195.out)|exact HB.out))):w.heap.size≤gb197));have n4_:=Am ((by rw [hg];exact (below_size (by repeat (first|(with_reducible first|exact HB.out|apply bA|apply bN|apply bD|refine bS ?_ GE195.out)|exact HB.out))):w.heap.size≤gb197));have n5_:=Am ((by rw [hg];exact Nat.ne_of_lt (blk_lt (g:=gb195) (o:=.cells #[.slice (some ad196) l0_0.length c0_0] 24 (0,0)) (by (with_reducible repeat first|apply kN|apply kD|apply kA);exact BK195.out)):gb195≠gb197));have n6_:=Am (n5_.out.symm);clear BK195 HB;have BK195:=n0_;have HB:=n1_;have BK197:=n2_;have GW197:=n3_;have GE197:=n4_;have NB195_197:=n5_;have NB197_195:=n6_;clear n0_ n1_ n2_ n3_ n4_ n5_ n6_ hb hbox hg;have hnb50:=NB197_195.out;have hnc50:=NB195_197.out;have hcz51_0:w49.cell? ⟨gb197,0,none⟩=some (.int .i64 0):=(blk_cell BK197.out 0).trans rfl;have hcz51_1:w49.cell? ⟨gb197,1,none⟩=some (.int .i64 0):=(blk_cell BK197.out 1).trans rfl;have hcz51_2:w49.cell? ⟨gb197,2,none⟩=some (.int .i64 0):=(blk_cell BK197.out 2).trans rfl;have hfz51_0:=blk_frozen BK197.out 0;have hfz51_1:=blk_frozen BK197.out 1;have hfz51_2:=blk_frozen BK197.out 2))
             have n0_:Aside0 ((((w49.setCell ⟨gb197,0,none⟩ (.int .i64 ((rd_T61 l0_0 x8_1).f0))).setCell ⟨gb197,1,none⟩ (.int .i64 ((rd_T61 l0_0 x8_1).f1.f0))).setCell ⟨gb197,2,none⟩ (.int .i64 ((rd_T61 l0_0 x8_1).f1.f1))).heap[gb195]?=some (.cells #[.slice (some ad196) l0_0.length c0_0] 24 (0,0))):=⟨by (with_reducible repeat first|apply kN|apply kD|apply kA);refine blk_far ?_ NB195_197.out _;(with_reducible repeat first|apply kN|apply kD|apply kA);refine blk_far ?_ NB195_197.out _;(with_reducible repeat first|apply kN|apply kD|apply kA);refine blk_far ?_ NB195_197.out _;(with_reducible repeat first|apply kN|apply kD|apply kA);exact BK195.out⟩
             have n1_:Aside0 ((((w49.setCell ⟨gb197,0,none⟩ (.int .i64 ((rd_T61 l0_0 x8_1).f0))).setCell ⟨gb197,1,none⟩ (.int .i64 ((rd_T61 l0_0 x8_1).f1.f0))).setCell ⟨gb197,2,none⟩ (.int .i64 ((rd_T61 l0_0 x8_1).f1.f1))).heap[gb197]?=some (.cells #[.int .i64 ((rd_T61 l0_0 x8_1).f0), .int .i64 ((rd_T61 l0_0 x8_1).f1.f0), .int .i64 ((rd_T61 l0_0 x8_1).f1.f1)] 61 (0,0))):=⟨by (with_reducible repeat first|apply kN|apply kD|apply kA);refine blk_put (cs:=#[.int .i64 ((rd_T61 l0_0 x8_1).f0), .int .i64 ((rd_T61 l0_0 x8_1).f1.f0), .int .i64 0]) ?_ 2 _ rfl;(with_reducible repeat first|apply kN|apply kD|apply kA);refine blk_put (cs:=#[.int .i64 ((rd_T61 l0_0 x8_1).f0), .int .i64 0, .int .i64 0]) ?_ 1 _ rfl;(with_reducible repeat first|apply kN|apply kD|apply kA);refine blk_put (cs:=#[.int .i64 0, .int .i64 0, .int .i64 0]) ?_ 0 _ rfl;(with_reducible repeat first|apply kN|apply kD|apply kA);exact BK197.out⟩
             have n2_:Aside0 (Below w.heap.size w (((w49.setCell ⟨gb197,0,none⟩ (.int .i64 ((rd_T61 l0_0 x8_1).f0))).setCell ⟨gb197,1,none⟩ (.int .i64 ((rd_T61 l0_0 x8_1).f1.f0))).setCell ⟨gb197,2,none⟩ (.int .i64 ((rd_T61 l0_0 x8_1).f1.f1)))):=⟨by repeat (first|(with_reducible first|exact HB.out|apply bA|apply bN|apply bD|refine bS ?_ GE195.out|refine bS ?_ GE197.out)|exact HB.out)⟩
             (try clear BK195);(try clear BK197);(try clear HB)
             generalize (((w49.setCell ⟨gb197,0,none⟩ (.int .i64 ((rd_T61 l0_0 x8_1).f0))).setCell ⟨gb197,1,none⟩ (.int .i64 ((rd_T61 l0_0 x8_1).f1.f0))).setCell ⟨gb197,2,none⟩ (.int .i64 ((rd_T61 l0_0 x8_1).f1.f1)))=w52 at n0_ n1_ n2_ ⊢
             have BK195:=n0_;have BK197:=n1_;have HB:=n2_;clear n0_ n1_ n2_
             have n0_:=Am (kD BK195.out)
             have n1_:=Am (kD BK197.out)
             have n2_:=Am (bD HB.out)
             clear BK195 BK197 HB;have BK195:=n0_;have BK197:=n1_;have HB:=n2_;clear n0_ n1_ n2_
             have p200:0≤((ji32):Int):=of_decide_eq_true (by first|(with_reducible assumption)|assumption)
             have q200:(ji32) < (l0_0.length:Int):=of_decide_eq_true (by first|(with_reducible assumption)|assumption)
             obtain ⟨ad200,e200,hx200_0,hx200_1,hx200_2⟩:=at_T61 HR0_0.out (ji32) p200 q200
             have hw200_2:=hx200_2;have hw200_1:=hx200_1;have hw200_0:=hx200_0
             obtain rfl:ad196=ad200:=(by injection e200)
             replace hx200_0:=(HB.out.cell (World.block_lt_of_cell? w _ hx200_0)).trans hx200_0
             replace hx200_1:=(HB.out.cell (World.block_lt_of_cell? w _ hx200_1)).trans hx200_1
             replace hx200_2:=(HB.out.cell (World.block_lt_of_cell? w _ hx200_2)).trans hx200_2
             replace p200:=eq_true p200
             replace q200:=eq_true q200
             refine start_ (n:=34) (S:=fun w'=>w'.cell? ⟨gb197,0,none⟩=some (.int .i64 ((rd_T61 l0_0 x8_1).f0))∧w'.cell? ⟨gb197,1,none⟩=some (.int .i64 ((rd_T61 l0_0 x8_1).f1.f0))∧w'.cell? ⟨gb197,2,none⟩=some (.int .i64 ((rd_T61 l0_0 x8_1).f1.f1))∧w'.cell? ⟨gb195,0,none⟩=some (.slice (some ad196) l0_0.length c0_0)∧w'.cell? (ad196.add (((ji32)).toNat * 3))=some (.int .i64 ((rd_T61 l0_0 (ji32)).f0))∧w'.cell? ⟨(ad196.add (((ji32)).toNat * 3)).block,(ad196.add (((ji32)).toNat * 3)).off+1,none⟩=some (.int .i64 ((rd_T61 l0_0 (ji32)).f1.f0))∧w'.cell? ⟨(ad196.add (((ji32)).toNat * 3)).block,(ad196.add (((ji32)).toNat * 3)).off+2,none⟩=some (.int .i64 ((rd_T61 l0_0 (ji32)).f1.f1))) (ds:=[]) soundserviceref13_Valid.q0 (by kernel_rfl) rfl rfl ⟨(blk_cell BK197.out 0).trans rfl,(blk_cell BK197.out 1).trans rfl,(blk_cell BK197.out 2).trans rfl,(blk_cell BK195.out 0).trans rfl,((HB.out.cell (World.block_lt_of_cell? w _ hw200_0)).trans hw200_0),((HB.out.cell (World.block_lt_of_cell? w _ hw200_1)).trans hw200_1),((HB.out.cell (World.block_lt_of_cell? w _ hw200_2)).trans hw200_2)⟩ (fun hHeld=>?_);refine with_tabW soundserviceref13_Valid.tab4 soundserviceref13_Valid.bits4 (fun HT_ HW_=>?_)
             generalize w52.drew=w53 at BK195 BK197 HB hx200_0 hx200_1 hx200_2 hHeld ⊢
             refine pure_ (i:=0) (N:=some 13) (v:=?_) (a':=?_) soundserviceref13_Valid.q1 rfl rfl (any_of HT_.out (by kernel_rfl)) (fun _ _ _ h=>h) (Or.inl ⟨by rfl,?_⟩) ?_ ?_
             rotate_left;(· intro w';go_simp;with_reducible rfl);rotate_left;(· simp only [pL,i64_w,i32_w];rfl)
             refine take_ (i:=1) (N:=some 14) (v:=?_) (a':=?_) soundserviceref13_Valid.q2 rfl rfl (take_ofW HT_.out HW_.out (by kernel_rfl)) (fun _ _ _ h=>h) (Or.inl ⟨by rfl,?_⟩) hHeld ?_ ?_
             rotate_left;(· rintro w' ⟨s0,s1,s2,s3,s4,s5,s6⟩;go_simp;with_reducible rfl);rotate_left;(· simp only [pL,i64_w,i32_w];rfl)
             refine one_ (i:=2) (N:=some 15) soundserviceref13_Valid.q3 rfl rfl (one_of HT_.out (by kernel_rfl)) (by decide) (fun K hK=>?_)
             refine goes_ Try.func31 (by kernel_rfl) rfl #[.agg #[.int .i64 ((rd_T61 l0_0 x8_1).f1.f0), .int .i64 ((rd_T61 l0_0 x8_1).f1.f1)]] (by rfl) rfl rfl (by (try simp only [List.map_toArray,List.map_cons,List.map_nil]);first|done|rfl|(simp only [List.length_drop,List.length_take];rfl)) ?_
             with_reducible refine (soundserviceref13_rate.calls k1 ((rd_T61 l0_0 x8_1).f1.f0) ((rd_T61 l0_0 x8_1).f1.f1) true _ A7.out).mono ?_
             rintro e w54 ⟨rfl,hb⟩
             refine ⟨_,rfl,?_⟩
             have n0_:=Am (blk_below (g:=gb195) (o:=.cells #[.slice (some ad196) l0_0.length c0_0] 24 (0,0)) (by (with_reducible repeat first|apply kN|apply kD|apply kA);exact BK195.out) hb)
             have n1_:=Am (blk_below (g:=gb197) (o:=.cells #[.int .i64 ((rd_T61 l0_0 x8_1).f0), .int .i64 ((rd_T61 l0_0 x8_1).f1.f0), .int .i64 ((rd_T61 l0_0 x8_1).f1.f1)] 61 (0,0)) (by (with_reducible repeat first|apply kN|apply kD|apply kA);exact BK197.out) hb)
             have n2_:=Am (below_step (by repeat (first|(with_reducible first|exact HB.out|apply bA|apply bN|apply bD|refine bS ?_ GE195.out|refine bS ?_ GE197.out)|exact HB.out)) hb)
             clear BK195 BK197 HB;have BK195:=n0_;have BK197:=n1_;have HB:=n2_;clear n0_ n1_ n2_;(try clear hb)
             refine hK.out _ _ ⟨(blk_cell BK197.out 0).trans rfl,(blk_cell BK197.out 1).trans rfl,(blk_cell BK197.out 2).trans rfl,(blk_cell BK195.out 0).trans rfl,((HB.out.cell (World.block_lt_of_cell? w _ hw200_0)).trans hw200_0),((HB.out.cell (World.block_lt_of_cell? w _ hw200_1)).trans hw200_1),((HB.out.cell (World.block_lt_of_cell? w _ hw200_2)).trans hw200_2)⟩ (fun hHeld=>?_)
             clear hK K
             refine norm_ (a':=?_) ?_ ?_
             rotate_left
             ·show Act.put _ (some 15) _=_
              simp only [pL,i64_w,i32_w]
              rfl
             refine pure_ (i:=3) (N:=some 16) (v:=?_) (a':=?_) soundserviceref13_Valid.q4 rfl rfl (any_of HT_.out (by kernel_rfl)) (fun _ _ _ h=>h) (Or.inl ⟨by rfl,?_⟩) ?_ ?_
             rotate_left;(· intro w';go_simp;with_reducible rfl);rotate_left;(· simp only [pL,i64_w,i32_w];rfl)
             refine pure_ (i:=4) (N:=some 17) (v:=?_) (a':=?_) soundserviceref13_Valid.q5 rfl rfl (any_of HT_.out (by kernel_rfl)) (fun _ _ _ h=>h) (Or.inl ⟨by rfl,?_⟩) ?_ ?_
             rotate_left;(· intro w';go_simp;with_reducible rfl);rotate_left;(· simp only [pL,i64_w,i32_w];rfl)
             refine pure_ (i:=5) (N:=some 18) (v:=?_) (a':=?_) soundserviceref13_Valid.q6 rfl rfl (any_of HT_.out (by kernel_rfl)) (fun _ _ _ h=>h) (Or.inl ⟨by rfl,?_⟩) ?_ ?_
             rotate_left;(· intro w';go_simp;with_reducible rfl);rotate_left;(· simp only [pL,i64_w,i32_w];rfl)
             refine pure_ (i:=6) (N:=some 19) (v:=?_) (a':=?_) soundserviceref13_Valid.q7 rfl rfl (any_of HT_.out (by kernel_rfl)) (fun _ _ _ h=>h) (Or.inl ⟨by rfl,?_⟩) ?_ ?_
             rotate_left;(· intro w';go_simp;with_reducible rfl);rotate_left;(· simp only [pL,i64_w,i32_w];rfl)
             refine pure_ (i:=7) (N:=some 20) (v:=?_) (a':=?_) soundserviceref13_Valid.q8 rfl rfl (any_of HT_.out (by kernel_rfl)) (fun _ _ _ h=>h) (Or.inl ⟨by rfl,?_⟩) ?_ ?_
             rotate_left;(· intro w';go_simp;with_reducible rfl);rotate_left;(· simp only [pL,i64_w,i32_w];rfl)
             refine pure_ (i:=8) (N:=some 21) (v:=undef) (a':=?_) soundserviceref13_Valid.q9 rfl rfl (any_of HT_.out (by kernel_rfl)) (fun _ _ _ h=>h) (Or.inr ⟨by rfl,rfl⟩) ?_ ?_
             rotate_left
             ·simp only [pL,i64_w,i32_w]
              rfl
             refine pure_ (i:=9) (N:=some 22) (v:=undef) (a':=?_) soundserviceref13_Valid.q10 rfl rfl (any_of HT_.out (by kernel_rfl)) (fun _ _ _ h=>h) (Or.inr ⟨by rfl,rfl⟩) ?_ ?_
             rotate_left
             ·simp only [pL,i64_w,i32_w]
              rfl
             refine pure_ (i:=10) (N:=some 23) (v:=undef) (a':=?_) soundserviceref13_Valid.q11 rfl rfl (any_of HT_.out (by kernel_rfl)) (fun _ _ _ h=>h) (Or.inr ⟨by rfl,rfl⟩) ?_ ?_
             rotate_left
             ·simp only [pL,i64_w,i32_w]
              rfl
             refine pure_ (i:=11) (N:=some 24) (v:=?_) (a':=?_) soundserviceref13_Valid.q12 rfl rfl (any_of HT_.out (by kernel_rfl)) (fun _ _ _ h=>h) (Or.inl ⟨by rfl,?_⟩) ?_ ?_
             rotate_left;(· intro w';go_simp;with_reducible rfl);rotate_left;(· simp only [pL,i64_w,i32_w];rfl)
             refine pure_ (i:=12) (N:=some 25) (v:=?_) (a':=?_) soundserviceref13_Valid.q13 rfl rfl (any_of HT_.out (by kernel_rfl)) (fun _ _ _ h=>h) (Or.inl ⟨by rfl,?_⟩) ?_ ?_
             rotate_left;(· intro w';go_simp;with_reducible rfl);rotate_left;(· simp only [pL,i64_w,i32_w];rfl)
             refine pure_ (i:=13) (N:=some 26) (v:=?_) (a':=?_) soundserviceref13_Valid.q14 rfl rfl (any_of HT_.out (by kernel_rfl)) (fun _ _ _ h=>h) (Or.inl ⟨by rfl,?_⟩) ?_ ?_
             rotate_left;(· intro w';go_simp;with_reducible rfl);rotate_left;(· simp only [pL,i64_w,i32_w];rfl)
             refine pure_ (i:=14) (N:=some 27) (v:=?_) (a':=?_) soundserviceref13_Valid.q15 rfl rfl (any_of HT_.out (by kernel_rfl)) (fun _ _ _ h=>h) (Or.inl ⟨by rfl,?_⟩) ?_ ?_
             rotate_left;(· intro w';go_simp;with_reducible rfl);rotate_left;(· simp only [pL,i64_w,i32_w];rfl)
             refine pure_ (i:=15) (N:=some 28) (v:=?_) (a':=?_) soundserviceref13_Valid.q16 rfl rfl (any_of HT_.out (by kernel_rfl)) (fun _ _ _ h=>h) (Or.inl ⟨by rfl,?_⟩) ?_ ?_
             rotate_left;(· intro w';go_simp;with_reducible rfl);rotate_left;(· simp only [pL,i64_w,i32_w];rfl)
             refine pure_ (i:=16) (N:=some 29) (v:=?_) (a':=?_) soundserviceref13_Valid.q17 rfl rfl (any_of HT_.out (by kernel_rfl)) (fun _ _ _ h=>h) (Or.inl ⟨by rfl,?_⟩) ?_ ?_
             rotate_left;(· intro w';go_simp;with_reducible rfl);rotate_left;(· simp only [pL,i64_w,i32_w];rfl)
             refine pure_ (i:=17) (N:=some 30) (v:=?_) (a':=?_) soundserviceref13_Valid.q18 rfl rfl (any_of HT_.out (by kernel_rfl)) (fun _ _ _ h=>h) (Or.inl ⟨by rfl,?_⟩) ?_ ?_
             rotate_left;(· intro w';go_simp;with_reducible rfl);rotate_left;(· simp only [pL,i64_w,i32_w];rfl)
             refine pure_ (i:=19) (N:=some 32) (v:=?_) (a':=?_) soundserviceref13_Valid.q35 rfl rfl (any_of HT_.out (by kernel_rfl)) (fun _ _ _ h=>h) (Or.inl ⟨by rfl,?_⟩) ?_ ?_
             rotate_left;(· intro w';go_simp;with_reducible rfl);rotate_left;(· simp only [pL,i64_w,i32_w];rfl)
             refine pure_ (i:=21) (N:=some 34) (v:=?_) (a':=?_) soundserviceref13_Valid.q36 rfl rfl (any_of HT_.out (by kernel_rfl)) (fun _ _ _ h=>h) (Or.inl ⟨by rfl,?_⟩) ?_ ?_
             rotate_left;(· intro w';go_simp;with_reducible rfl);rotate_left;(· simp only [pL,i64_w,i32_w];rfl)
             refine pure_ (i:=22) (N:=some 35) (v:=?_) (a':=?_) soundserviceref13_Valid.q37 rfl rfl (any_of HT_.out (by kernel_rfl)) (fun _ _ _ h=>h) (Or.inl ⟨by rfl,?_⟩) ?_ ?_
             rotate_left;(· intro w';go_simp;with_reducible rfl);rotate_left;(· simp only [pL,i64_w,i32_w];rfl)
             refine take_ (i:=18) (N:=some 31) (v:=?_) (a':=?_) soundserviceref13_Valid.q38 rfl rfl (take_ofW HT_.out HW_.out (by kernel_rfl)) (fun _ _ _ h=>h) (Or.inl ⟨by rfl,?_⟩) hHeld ?_ ?_
             rotate_left;(· rintro w' ⟨s0,s1,s2,s3,s4,s5,s6⟩;go_simp;with_reducible rfl);rotate_left;(· simp only [pL,i64_w,i32_w];rfl)
             refine take_ (i:=20) (N:=some 33) (v:=?_) (a':=?_) soundserviceref13_Valid.q23 rfl rfl (take_ofW HT_.out HW_.out (by kernel_rfl)) (fun _ _ _ h=>h) (Or.inl ⟨by rfl,?_⟩) hHeld ?_ ?_
             rotate_left;(· rintro w' ⟨s0,s1,s2,s3,s4,s5,s6⟩;go_simp;with_reducible rfl);rotate_left;(· simp only [pL,i64_w,i32_w];rfl)
             refine pure_ (i:=23) (N:=some 36) (v:=?_) (a':=?_) soundserviceref13_Valid.q24 rfl rfl (any_of HT_.out (by kernel_rfl)) (fun _ _ _ h=>h) (Or.inl ⟨by rfl,?_⟩) ?_ ?_
             rotate_left;(· intro w';go_simp;with_reducible rfl);rotate_left;(· simp only [pL,i64_w,i32_w];rfl)
             refine pure_ (i:=24) (N:=some 37) (v:=?_) (a':=?_) soundserviceref13_Valid.q25 rfl rfl (any_of HT_.out (by kernel_rfl)) (fun _ _ _ h=>h) (Or.inl ⟨by rfl,?_⟩) ?_ ?_
             rotate_left;(· intro w';go_simp;with_reducible rfl);rotate_left;(· simp only [pL,i64_w,i32_w];rfl)
             refine take_ (i:=25) (N:=some 38) (v:=?_) (a':=?_) soundserviceref13_Valid.q26 rfl rfl (take_ofW HT_.out HW_.out (by kernel_rfl)) (fun _ _ _ h=>h) (Or.inl ⟨by rfl,?_⟩) hHeld ?_ ?_
             rotate_left;(· rintro w' ⟨s0,s1,s2,s3,s4,s5,s6⟩;go_simp;with_reducible rfl);rotate_left;(· simp only [pL,i64_w,i32_w];rfl)
             refine pure_ (i:=26) (N:=some 39) (v:=?_) (a':=?_) soundserviceref13_Valid.q27 rfl rfl (any_of HT_.out (by kernel_rfl)) (fun _ _ _ h=>h) (Or.inl ⟨by rfl,?_⟩) ?_ ?_
             rotate_left;(· intro w';go_simp;with_reducible rfl);rotate_left;(· simp only [pL,i64_w,i32_w];rfl)
             refine pure_ (i:=27) (N:=some 40) (v:=?_) (a':=?_) soundserviceref13_Valid.q28 rfl rfl (any_of HT_.out (by kernel_rfl)) (fun _ _ _ h=>h) (Or.inl ⟨by rfl,?_⟩) ?_ ?_
             rotate_left;(· intro w';go_simp;with_reducible rfl);rotate_left;(· simp only [pL,i64_w,i32_w];rfl)
             refine pure_ (i:=28) (N:=some 41) (v:=?_) (a':=?_) soundserviceref13_Valid.q29 rfl rfl (any_of HT_.out (by kernel_rfl)) (fun _ _ _ h=>h) (Or.inl ⟨by rfl,?_⟩) ?_ ?_
             rotate_left;(· intro w';go_simp;with_reducible rfl);rotate_left;(· simp only [pL,i64_w,i32_w];rfl)
             refine pure_ (i:=29) (N:=some 42) (v:=?_) (a':=?_) soundserviceref13_Valid.q30 rfl rfl (any_of HT_.out (by kernel_rfl)) (fun _ _ _ h=>h) (Or.inl ⟨by rfl,?_⟩) ?_ ?_
             rotate_left;(· intro w';go_simp;with_reducible rfl);rotate_left;(· simp only [pL,i64_w,i32_w];rfl)
             refine pure_ (i:=30) (N:=some 43) (v:=?_) (a':=?_) soundserviceref13_Valid.q31 rfl rfl (any_of HT_.out (by kernel_rfl)) (fun _ _ _ h=>h) (Or.inl ⟨by rfl,?_⟩) ?_ ?_
             rotate_left;(· intro w';go_simp;with_reducible rfl);rotate_left;(· simp only [pL,i64_w,i32_w];rfl)
             refine take_ (i:=31) (N:=some 44) (v:=?_) (a':=?_) soundserviceref13_Valid.q32 rfl rfl (take_ofW HT_.out HW_.out (by kernel_rfl)) (fun _ _ _ h=>h) (Or.inl ⟨by rfl,?_⟩) hHeld ?_ ?_
             rotate_left;(· rintro w' ⟨s0,s1,s2,s3,s4,s5,s6⟩;go_simp;with_reducible rfl);rotate_left;(· simp only [pL,i64_w,i32_w];rfl)
             refine pure_ (i:=32) (N:=some 45) (v:=?_) (a':=?_) soundserviceref13_Valid.q33 rfl rfl (any_of HT_.out (by kernel_rfl)) (fun _ _ _ h=>h) (Or.inl ⟨by rfl,?_⟩) ?_ ?_
             rotate_left;(· intro w';go_simp;with_reducible rfl);rotate_left;(· simp only [pL,i64_w,i32_w];rfl)
             refine pure_ (i:=33) (N:=some 46) (v:=?_) (a':=?_) soundserviceref13_Valid.q34 rfl rfl (any_of HT_.out (by kernel_rfl)) (fun _ _ _ h=>h) (Or.inl ⟨by rfl,?_⟩) ?_ ?_
             rotate_left;(· intro w';go_simp;with_reducible rfl);rotate_left;(· simp only [pL,i64_w,i32_w];rfl)
             refine done_ (done_of HT_.out (by kernel_rfl)) ?_
             try go_wp2
             go_roundg k1
             case measure=>have:=HK1.out;omega
             case rel=>exact ⟨(wrap64 (x8_1+1)),(by first|rfl|(simp;done)|(simp [*];done)),H',⟨by have:=HK1.out;omega⟩,⟨by (with_reducible repeat first|apply kN|apply kD|apply kA);exact BK195.out⟩,⟨by repeat (first|(with_reducible first|exact HB.out|apply bA|apply bN|apply bD|refine bS ?_ GE195.out|refine bS ?_ GE197.out)|exact HB.out)⟩⟩
          ·rw [if_neg c34] at H
           exact absurd H (by simp)
         ·rw [if_neg c33] at H
          exact absurd H (by simp)
        ·rw [if_neg c31] at H
         exact absurd (of_decide_eq_true c5b0) (by omega)
      ·replace c8:=Bool.eq_false_iff.mpr c8
       subst c8
       have H1:(some false)=some r:=by rw [if_neg (show ¬ (false=true) by decide)] at H;exact H
       clear H;have H:=H1;clear H1
       obtain rfl:=Option.some.inj H
       have p196:0≤(x8_1:Int):=of_decide_eq_true (by first|(with_reducible assumption)|assumption)
       have q196:x8_1 < (l0_0.length:Int):=of_decide_eq_true (by first|(with_reducible assumption)|assumption)
       obtain ⟨ad196,e196,hx196_0,hx196_1,hx196_2⟩:=at_T61 HR0_0.out x8_1 p196 q196
       cases e196
       replace hx196_0:=(HB.out.cell (World.block_lt_of_cell? w _ hx196_0)).trans hx196_0
       replace hx196_1:=(HB.out.cell (World.block_lt_of_cell? w _ hx196_1)).trans hx196_1
       replace hx196_2:=(HB.out.cell (World.block_lt_of_cell? w _ hx196_2)).trans hx196_2
       replace p196:=eq_true p196
       replace q196:=eq_true q196
       try go_wp2_with (first|((with_reducible refine gate_dst (N:=4) rfl ?_);refine box_event ?hg (N:=4) ?hd (cs:=#[.int .i64 0, .int .i64 0, .int .i64 0]) (t:=61) ?hr ?_;(case hd=>rfl);(case hg=>rfl);(case hr=>first|(go_simp;done)|(go_simp;rfl));intro gb197 hg w55 hbox hb;have n0_:=Am (blk_below (g:=gb195) (o:=.cells #[.slice (some ad196) l0_0.length c0_0] 24 (0,0)) (by (with_reducible repeat first|apply kN|apply kD|apply kA);exact BK195.out) hb);have n1_:=Am (below_step (by repeat (first|(with_reducible first|exact HB.out|apply bA|apply bN|apply bD|refine bS ?_ GE195.out)|exact HB.out)) hb);have n2_:=Am (hbox);have n3_:=Am ((by rw [hg];exact (below_size (by repeat (first|(with_reducible first|exact HB.out|apply bA|apply bN|apply bD|refine bS ?_ GE195.out)|exact HB.out))):w.heap.size≤gb197));have n4_:=Am ((by rw [hg];exact (below_size (by repeat (first|(with_reducible first|exact HB.out|apply bA|apply bN|apply bD|refine bS ?_ GE195.out)|exact HB.out))):w.heap.size≤gb197));have n5_:=Am ((by rw [hg];exact Nat.ne_of_lt (blk_lt (g:=gb195) (o:=.cells #[.slice (some ad196) l0_0.length c0_0] 24 (0,0)) (by (with_reducible repeat first|apply kN|apply kD|apply kA);exact BK195.out)):gb195≠gb197));have n6_:=Am (n5_.out.symm);clear BK195 HB;have BK195:=n0_;have HB:=n1_;have BK197:=n2_;have GW197:=n3_;have GE197:=n4_;have NB195_197:=n5_;have NB197_195:=n6_;clear n0_ n1_ n2_ n3_ n4_ n5_ n6_ hb hbox hg;have hnb56:=NB197_195.out;have hnc56:=NB195_197.out;have hcz57_0:w55.cell? ⟨gb197,0,none⟩=some (.int .i64 0):=(blk_cell BK197.out 0).trans rfl;have hcz57_1:w55.cell? ⟨gb197,1,none⟩=some (.int .i64 0):=(blk_cell BK197.out 1).trans rfl;have hcz57_2:w55.cell? ⟨gb197,2,none⟩=some (.int .i64 0):=(blk_cell BK197.out 2).trans rfl;have hfz57_0:=blk_frozen BK197.out 0;have hfz57_1:=blk_frozen BK197.out 1;have hfz57_2:=blk_frozen BK197.out 2))
       have n0_:Aside0 ((((w55.setCell ⟨gb197,0,none⟩ (.int .i64 ((rd_T61 l0_0 x8_1).f0))).setCell ⟨gb197,1,none⟩ (.int .i64 ((rd_T61 l0_0 x8_1).f1.f0))).setCell ⟨gb197,2,none⟩ (.int .i64 ((rd_T61 l0_0 x8_1).f1.f1))).heap[gb195]?=some (.cells #[.slice (some ad196) l0_0.length c0_0] 24 (0,0))):=⟨by (with_reducible repeat first|apply kN|apply kD|apply kA);refine blk_far ?_ NB195_197.out _;(with_reducible repeat first|apply kN|apply kD|apply kA);refine blk_far ?_ NB195_197.out _;(with_reducible repeat first|apply kN|apply kD|apply kA);refine blk_far ?_ NB195_197.out _;(with_reducible repeat first|apply kN|apply kD|apply kA);exact BK195.out⟩
       have n1_:Aside0 ((((w55.setCell ⟨gb197,0,none⟩ (.int .i64 ((rd_T61 l0_0 x8_1).f0))).setCell ⟨gb197,1,none⟩ (.int .i64 ((rd_T61 l0_0 x8_1).f1.f0))).setCell ⟨gb197,2,none⟩ (.int .i64 ((rd_T61 l0_0 x8_1).f1.f1))).heap[gb197]?=some (.cells #[.int .i64 ((rd_T61 l0_0 x8_1).f0), .int .i64 ((rd_T61 l0_0 x8_1).f1.f0), .int .i64 ((rd_T61 l0_0 x8_1).f1.f1)] 61 (0,0))):=⟨by (with_reducible repeat first|apply kN|apply kD|apply kA);refine blk_put (cs:=#[.int .i64 ((rd_T61 l0_0 x8_1).f0), .int .i64 ((rd_T61 l0_0 x8_1).f1.f0), .int .i64 0]) ?_ 2 _ rfl;(with_reducible repeat first|apply kN|apply kD|apply kA);refine blk_put (cs:=#[.int .i64 ((rd_T61 l0_0 x8_1).f0), .int .i64 0, .int .i64 0]) ?_ 1 _ rfl;(with_reducible repeat first|apply kN|apply kD|apply kA);refine blk_put (cs:=#[.int .i64 0, .int .i64 0, .int .i64 0]) ?_ 0 _ rfl;(with_reducible repeat first|apply kN|apply kD|apply kA);exact BK197.out⟩
       have n2_:Aside0 (Below w.heap.size w (((w55.setCell ⟨gb197,0,none⟩ (.int .i64 ((rd_T61 l0_0 x8_1).f0))).setCell ⟨gb197,1,none⟩ (.int .i64 ((rd_T61 l0_0 x8_1).f1.f0))).setCell ⟨gb197,2,none⟩ (.int .i64 ((rd_T61 l0_0 x8_1).f1.f1)))):=⟨by repeat (first|(with_reducible first|exact HB.out|apply bA|apply bN|apply bD|refine bS ?_ GE195.out|refine bS ?_ GE197.out)|exact HB.out)⟩
       (try clear BK195);(try clear BK197);(try clear HB)
       generalize (((w55.setCell ⟨gb197,0,none⟩ (.int .i64 ((rd_T61 l0_0 x8_1).f0))).setCell ⟨gb197,1,none⟩ (.int .i64 ((rd_T61 l0_0 x8_1).f1.f0))).setCell ⟨gb197,2,none⟩ (.int .i64 ((rd_T61 l0_0 x8_1).f1.f1)))=w58 at n0_ n1_ n2_ ⊢
       have BK195:=n0_;have BK197:=n1_;have HB:=n2_;clear n0_ n1_ n2_
       have n0_:=Am (kD BK195.out)
       have n1_:=Am (kD BK197.out)
       have n2_:=Am (bD HB.out)
       clear BK195 BK197 HB;have BK195:=n0_;have BK197:=n1_;have HB:=n2_;clear n0_ n1_ n2_
       refine start_ (n:=34) (S:=fun w'=>w'.cell? ⟨gb197,0,none⟩=some (.int .i64 ((rd_T61 l0_0 x8_1).f0))∧w'.cell? ⟨gb197,1,none⟩=some (.int .i64 ((rd_T61 l0_0 x8_1).f1.f0))∧w'.cell? ⟨gb197,2,none⟩=some (.int .i64 ((rd_T61 l0_0 x8_1).f1.f1))) (ds:=[]) soundserviceref13_Valid.q0 (by kernel_rfl) rfl rfl ⟨(blk_cell BK197.out 0).trans rfl,(blk_cell BK197.out 1).trans rfl,(blk_cell BK197.out 2).trans rfl⟩ (fun hHeld=>?_);refine with_tabW soundserviceref13_Valid.tab4 soundserviceref13_Valid.bits4 (fun HT_ HW_=>?_)
       generalize w58.drew=w59 at BK195 BK197 HB hHeld ⊢
       refine pure_ (i:=0) (N:=some 13) (v:=?_) (a':=?_) soundserviceref13_Valid.q1 rfl rfl (any_of HT_.out (by kernel_rfl)) (fun _ _ _ h=>h) (Or.inl ⟨by rfl,?_⟩) ?_ ?_
       rotate_left;(· intro w';go_simp;with_reducible rfl);rotate_left;(· simp only [pL,i64_w,i32_w];rfl)
       refine take_ (i:=1) (N:=some 14) (v:=?_) (a':=?_) soundserviceref13_Valid.q2 rfl rfl (take_ofW HT_.out HW_.out (by kernel_rfl)) (fun _ _ _ h=>h) (Or.inl ⟨by rfl,?_⟩) hHeld ?_ ?_
       rotate_left;(· rintro w' ⟨s0,s1,s2⟩;go_simp;with_reducible rfl);rotate_left;(· simp only [pL,i64_w,i32_w];rfl)
       refine one_ (i:=2) (N:=some 15) soundserviceref13_Valid.q3 rfl rfl (one_of HT_.out (by kernel_rfl)) (by decide) (fun K hK=>?_)
       refine goes_ Try.func31 (by kernel_rfl) rfl #[.agg #[.int .i64 ((rd_T61 l0_0 x8_1).f1.f0), .int .i64 ((rd_T61 l0_0 x8_1).f1.f1)]] (by rfl) rfl rfl (by (try simp only [List.map_toArray,List.map_cons,List.map_nil]);first|done|rfl|(simp only [List.length_drop,List.length_take];rfl)) ?_
       with_reducible refine (soundserviceref13_rate.calls k1 ((rd_T61 l0_0 x8_1).f1.f0) ((rd_T61 l0_0 x8_1).f1.f1) false _ A7.out).mono ?_
       rintro e w60 ⟨rfl,hb⟩
       refine ⟨_,rfl,?_⟩
       have n0_:=Am (blk_below (g:=gb195) (o:=.cells #[.slice (some ad196) l0_0.length c0_0] 24 (0,0)) (by (with_reducible repeat first|apply kN|apply kD|apply kA);exact BK195.out) hb)
       have n1_:=Am (blk_below (g:=gb197) (o:=.cells #[.int .i64 ((rd_T61 l0_0 x8_1).f0), .int .i64 ((rd_T61 l0_0 x8_1).f1.f0), .int .i64 ((rd_T61 l0_0 x8_1).f1.f1)] 61 (0,0)) (by (with_reducible repeat first|apply kN|apply kD|apply kA);exact BK197.out) hb)
       have n2_:=Am (below_step (by repeat (first|(with_reducible first|exact HB.out|apply bA|apply bN|apply bD|refine bS ?_ GE195.out|refine bS ?_ GE197.out)|exact HB.out)) hb)
       clear BK195 BK197 HB;have BK195:=n0_;have BK197:=n1_;have HB:=n2_;clear n0_ n1_ n2_;(try clear hb)
       refine hK.out _ _ ⟨(blk_cell BK197.out 0).trans rfl,(blk_cell BK197.out 1).trans rfl,(blk_cell BK197.out 2).trans rfl⟩ (fun hHeld=>?_)
       clear hK K
       refine norm_ (a':=?_) ?_ ?_
       rotate_left
       ·show Act.put _ (some 15) _=_
        simp only [pL,i64_w,i32_w]
        rfl
       refine pure_ (i:=3) (N:=some 16) (v:=?_) (a':=?_) soundserviceref13_Valid.q4 rfl rfl (any_of HT_.out (by kernel_rfl)) (fun _ _ _ h=>h) (Or.inl ⟨by rfl,?_⟩) ?_ ?_
       rotate_left;(· intro w';go_simp;with_reducible rfl);rotate_left;(· simp only [pL,i64_w,i32_w];rfl)
       refine pure_ (i:=4) (N:=some 17) (v:=?_) (a':=?_) soundserviceref13_Valid.q5 rfl rfl (any_of HT_.out (by kernel_rfl)) (fun _ _ _ h=>h) (Or.inl ⟨by rfl,?_⟩) ?_ ?_
       rotate_left;(· intro w';go_simp;with_reducible rfl);rotate_left;(· simp only [pL,i64_w,i32_w];rfl)
       refine pure_ (i:=5) (N:=some 18) (v:=undef) (a':=?_) soundserviceref13_Valid.q6 rfl rfl (any_of HT_.out (by kernel_rfl)) (fun _ _ _ h=>h) (Or.inr ⟨by rfl,rfl⟩) ?_ ?_
       rotate_left
       ·simp only [pL,i64_w,i32_w]
        rfl
       refine pure_ (i:=6) (N:=some 19) (v:=undef) (a':=?_) soundserviceref13_Valid.q7 rfl rfl (any_of HT_.out (by kernel_rfl)) (fun _ _ _ h=>h) (Or.inr ⟨by rfl,rfl⟩) ?_ ?_
       rotate_left
       ·simp only [pL,i64_w,i32_w]
        rfl
       refine pure_ (i:=7) (N:=some 20) (v:=undef) (a':=?_) soundserviceref13_Valid.q8 rfl rfl (any_of HT_.out (by kernel_rfl)) (fun _ _ _ h=>h) (Or.inr ⟨by rfl,rfl⟩) ?_ ?_
       rotate_left
       ·simp only [pL,i64_w,i32_w]
        rfl
       refine pure_ (i:=8) (N:=some 21) (v:=undef) (a':=?_) soundserviceref13_Valid.q9 rfl rfl (any_of HT_.out (by kernel_rfl)) (fun _ _ _ h=>h) (Or.inr ⟨by rfl,rfl⟩) ?_ ?_
       rotate_left
       ·simp only [pL,i64_w,i32_w]
        rfl
       refine pure_ (i:=9) (N:=some 22) (v:=undef) (a':=?_) soundserviceref13_Valid.q10 rfl rfl (any_of HT_.out (by kernel_rfl)) (fun _ _ _ h=>h) (Or.inr ⟨by rfl,rfl⟩) ?_ ?_
       rotate_left
       ·simp only [pL,i64_w,i32_w]
        rfl
       refine pure_ (i:=10) (N:=some 23) (v:=undef) (a':=?_) soundserviceref13_Valid.q11 rfl rfl (any_of HT_.out (by kernel_rfl)) (fun _ _ _ h=>h) (Or.inr ⟨by rfl,rfl⟩) ?_ ?_
       rotate_left
       ·simp only [pL,i64_w,i32_w]
        rfl
       refine pure_ (i:=11) (N:=some 24) (v:=undef) (a':=?_) soundserviceref13_Valid.q12 rfl rfl (any_of HT_.out (by kernel_rfl)) (fun _ _ _ h=>h) (Or.inr ⟨by rfl,rfl⟩) ?_ ?_
       rotate_left
       ·simp only [pL,i64_w,i32_w]
        rfl
       refine pure_ (i:=12) (N:=some 25) (v:=?_) (a':=?_) soundserviceref13_Valid.q13 rfl rfl (any_of HT_.out (by kernel_rfl)) (fun _ _ _ h=>h) (Or.inl ⟨by rfl,?_⟩) ?_ ?_
       rotate_left;(· intro w';go_simp;with_reducible rfl);rotate_left;(· simp only [pL,i64_w,i32_w];rfl)
       refine pure_ (i:=13) (N:=some 26) (v:=?_) (a':=?_) soundserviceref13_Valid.q14 rfl rfl (any_of HT_.out (by kernel_rfl)) (fun _ _ _ h=>h) (Or.inl ⟨by rfl,?_⟩) ?_ ?_
       rotate_left;(· intro w';go_simp;with_reducible rfl);rotate_left;(· simp only [pL,i64_w,i32_w];rfl)
       refine pure_ (i:=14) (N:=some 27) (v:=undef) (a':=?_) soundserviceref13_Valid.q15 rfl rfl (any_of HT_.out (by kernel_rfl)) (fun _ _ _ h=>h) (Or.inr ⟨by rfl,rfl⟩) ?_ ?_
       rotate_left
       ·simp only [pL,i64_w,i32_w]
        rfl
       refine pure_ (i:=15) (N:=some 28) (v:=undef) (a':=?_) soundserviceref13_Valid.q16 rfl rfl (any_of HT_.out (by kernel_rfl)) (fun _ _ _ h=>h) (Or.inr ⟨by rfl,rfl⟩) ?_ ?_
       rotate_left
       ·simp only [pL,i64_w,i32_w]
        rfl
       refine pure_ (i:=16) (N:=some 29) (v:=undef) (a':=?_) soundserviceref13_Valid.q17 rfl rfl (any_of HT_.out (by kernel_rfl)) (fun _ _ _ h=>h) (Or.inr ⟨by rfl,rfl⟩) ?_ ?_
       rotate_left
       ·simp only [pL,i64_w,i32_w]
        rfl
       refine pure_ (i:=17) (N:=some 30) (v:=undef) (a':=?_) soundserviceref13_Valid.q18 rfl rfl (any_of HT_.out (by kernel_rfl)) (fun _ _ _ h=>h) (Or.inr ⟨by rfl,rfl⟩) ?_ ?_
       rotate_left
       ·simp only [pL,i64_w,i32_w]
        rfl
       refine pure_ (i:=18) (N:=some 31) (v:=undef) (a':=?_) soundserviceref13_Valid.q19 rfl rfl (any_of HT_.out (by kernel_rfl)) (fun _ _ _ h=>h) (Or.inr ⟨by rfl,rfl⟩) ?_ ?_
       rotate_left
       ·simp only [pL,i64_w,i32_w]
        rfl
       refine pure_ (i:=19) (N:=some 32) (v:=undef) (a':=?_) soundserviceref13_Valid.q20 rfl rfl (any_of HT_.out (by kernel_rfl)) (fun _ _ _ h=>h) (Or.inr ⟨by rfl,rfl⟩) ?_ ?_
       rotate_left
       ·simp only [pL,i64_w,i32_w]
        rfl
       refine pure_ (i:=20) (N:=some 33) (v:=undef) (a':=?_) soundserviceref13_Valid.q21 rfl rfl (any_of HT_.out (by kernel_rfl)) (fun _ _ _ h=>h) (Or.inr ⟨by rfl,rfl⟩) ?_ ?_
       rotate_left
       ·simp only [pL,i64_w,i32_w]
        rfl
       refine pure_ (i:=21) (N:=some 34) (v:=undef) (a':=?_) soundserviceref13_Valid.q22 rfl rfl (any_of HT_.out (by kernel_rfl)) (fun _ _ _ h=>h) (Or.inr ⟨by rfl,rfl⟩) ?_ ?_
       rotate_left
       ·simp only [pL,i64_w,i32_w]
        rfl
       refine pure_ (i:=22) (N:=some 35) (v:=undef) (a':=?_) soundserviceref13_Valid.q23 rfl rfl (any_of HT_.out (by kernel_rfl)) (fun _ _ _ h=>h) (Or.inr ⟨by rfl,rfl⟩) ?_ ?_
       rotate_left
       ·simp only [pL,i64_w,i32_w]
        rfl
       refine pure_ (i:=23) (N:=some 36) (v:=undef) (a':=?_) soundserviceref13_Valid.q24 rfl rfl (any_of HT_.out (by kernel_rfl)) (fun _ _ _ h=>h) (Or.inr ⟨by rfl,rfl⟩) ?_ ?_
       rotate_left
       ·simp only [pL,i64_w,i32_w]
        rfl
       refine pure_ (i:=24) (N:=some 37) (v:=undef) (a':=?_) soundserviceref13_Valid.q25 rfl rfl (any_of HT_.out (by kernel_rfl)) (fun _ _ _ h=>h) (Or.inr ⟨by rfl,rfl⟩) ?_ ?_
       rotate_left
       ·simp only [pL,i64_w,i32_w]
        rfl
       refine pure_ (i:=25) (N:=some 38) (v:=undef) (a':=?_) soundserviceref13_Valid.q26 rfl rfl (any_of HT_.out (by kernel_rfl)) (fun _ _ _ h=>h) (Or.inr ⟨by rfl,rfl⟩) ?_ ?_
       rotate_left
       ·simp only [pL,i64_w,i32_w]
        rfl
       refine pure_ (i:=26) (N:=some 39) (v:=undef) (a':=?_) soundserviceref13_Valid.q27 rfl rfl (any_of HT_.out (by kernel_rfl)) (fun _ _ _ h=>h) (Or.inr ⟨by rfl,rfl⟩) ?_ ?_
       rotate_left
       ·simp only [pL,i64_w,i32_w]
        rfl
       refine pure_ (i:=27) (N:=some 40) (v:=undef) (a':=?_) soundserviceref13_Valid.q28 rfl rfl (any_of HT_.out (by kernel_rfl)) (fun _ _ _ h=>h) (Or.inr ⟨by rfl,rfl⟩) ?_ ?_
       rotate_left
       ·simp only [pL,i64_w,i32_w]
        rfl
       refine pure_ (i:=28) (N:=some 41) (v:=?_) (a':=?_) soundserviceref13_Valid.q29 rfl rfl (any_of HT_.out (by kernel_rfl)) (fun _ _ _ h=>h) (Or.inl ⟨by rfl,?_⟩) ?_ ?_
       rotate_left;(· intro w';go_simp;with_reducible rfl);rotate_left;(· simp only [pL,i64_w,i32_w];rfl)
       refine pure_ (i:=29) (N:=some 42) (v:=?_) (a':=?_) soundserviceref13_Valid.q30 rfl rfl (any_of HT_.out (by kernel_rfl)) (fun _ _ _ h=>h) (Or.inl ⟨by rfl,?_⟩) ?_ ?_
       rotate_left;(· intro w';go_simp;with_reducible rfl);rotate_left;(· simp only [pL,i64_w,i32_w];rfl)
       refine pure_ (i:=30) (N:=some 43) (v:=undef) (a':=?_) soundserviceref13_Valid.q31 rfl rfl (any_of HT_.out (by kernel_rfl)) (fun _ _ _ h=>h) (Or.inr ⟨by rfl,rfl⟩) ?_ ?_
       rotate_left
       ·simp only [pL,i64_w,i32_w]
        rfl
       refine pure_ (i:=31) (N:=some 44) (v:=undef) (a':=?_) soundserviceref13_Valid.q32 rfl rfl (any_of HT_.out (by kernel_rfl)) (fun _ _ _ h=>h) (Or.inr ⟨by rfl,rfl⟩) ?_ ?_
       rotate_left
       ·simp only [pL,i64_w,i32_w]
        rfl
       refine pure_ (i:=32) (N:=some 45) (v:=undef) (a':=?_) soundserviceref13_Valid.q33 rfl rfl (any_of HT_.out (by kernel_rfl)) (fun _ _ _ h=>h) (Or.inr ⟨by rfl,rfl⟩) ?_ ?_
       rotate_left
       ·simp only [pL,i64_w,i32_w]
        rfl
       refine pure_ (i:=33) (N:=some 46) (v:=?_) (a':=?_) soundserviceref13_Valid.q34 rfl rfl (any_of HT_.out (by kernel_rfl)) (fun _ _ _ h=>h) (Or.inl ⟨by rfl,?_⟩) ?_ ?_
       rotate_left;(· intro w';go_simp;with_reducible rfl);rotate_left;(· simp only [pL,i64_w,i32_w];rfl)
       refine done_ (done_of HT_.out (by kernel_rfl)) ?_
       try go_wp2
       go_ret
       exact ⟨by first|rfl|(simp [errW_none,errW_some] <;> rfl)|(simp [*,errW_none,errW_some] <;> rfl),by repeat (first|(with_reducible first|exact HB.out|apply bA|apply bN|apply bD|refine bS ?_ GE195.out|refine bS ?_ GE197.out)|exact HB.out)⟩
     ·rw [if_neg c6] at H
      exact absurd H (by simp)
    ·rw [if_neg c5] at H
     exact absurd H (by simp)
   ·rw [if_neg c4] at H
    have c4b0:decide (x8_1 < (l0_0.length:Int))=false:=decide_eq_false c4
    clear c4
    by_cases c61:(l0_0.length:Int) ≥ 1
    ·rw [if_pos c61] at H
     have c61b0:decide (1≤(l0_0.length:Int))=true:=decide_eq_true c61
     have c61b1:decide (1≤l0_0.length)=true:=decide_eq_true (by omega)
     clear c61
     obtain rfl:=Option.some.inj H
     have hcz62_0:wr.cell? ⟨gb195,0,none⟩=some (.slice A0_0 l0_0.length c0_0):=(blk_cell BK195.out 0).trans rfl
     have hfz62_0:=blk_frozen BK195.out 0
     go_wp2
     go_ret
     exact ⟨by first|rfl|(simp [errW_none,errW_some] <;> rfl)|(simp [*,errW_none,errW_some] <;> rfl),by repeat (first|(with_reducible first|exact HB.out|apply bA|apply bN|apply bD|refine bS ?_ GE195.out)|exact HB.out)⟩
    ·rw [if_neg c61] at H
     have c61b0:decide (1≤(l0_0.length:Int))=false:=decide_eq_false c61
     have c61b1:decide (1≤l0_0.length)=false:=decide_eq_false (by omega)
     clear c61
     obtain rfl:=Option.some.inj H
     have hcz63_0:wr.cell? ⟨gb195,0,none⟩=some (.slice A0_0 l0_0.length c0_0):=(blk_cell BK195.out 0).trans rfl
     have hfz63_0:=blk_frozen BK195.out 0
     go_wp2
     go_ret
     exact ⟨by first|rfl|(simp [errW_none,errW_some] <;> rfl)|(simp [*,errW_none,errW_some] <;> rfl),by repeat (first|(with_reducible first|exact HB.out|apply bA|apply bN|apply bD|refine bS ?_ GE195.out)|exact HB.out)⟩

end Go.Proofs.Ythnmmiofhjbkeaa.PA
