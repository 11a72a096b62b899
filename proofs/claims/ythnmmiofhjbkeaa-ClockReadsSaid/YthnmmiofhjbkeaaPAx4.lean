/- Walks of functions of the program: each does what its Lean function says. Written by a program of this session (wip/xprint), which runs the printer of the kit with changes. -/
import Derived.Test.YthnmmiofhjbkeaaPAx0
import Derived.Test.YthnmmiofhjbkeaaPAx2
import Derived.Test.YthnmmiofhjbkeaaPAx3
namespace Go.Proofs.Ythnmmiofhjbkeaa.PA
open Go.RowKit Go.Proofs.YthnmmiofhjbkeaaW.PrintWords Go.Proofs.YthnmmiofhjbkeaaW.PrintLast Go.Proofs.YthnmmiofhjbkeaaW.PrintMore
attribute [local go_sem] max2_int min2_int max_two min_two max_three min_three max_four min_four   -- for this text's walks alone
set_option linter.unusedVariables false
set_option linter.unusedSimpArgs false

/-! ### clock_Change: function 15 -/
def clock_Change.j0:Nat→Int→Int→Bool→List (S61)→Int→Int→Option ((List (S61)) × Int)
 | 0,_,_,_,_,_,_=>none
 | k+1,x1,x8,x18,x118000,x119000,x119001=>if x18=true then (some (([]:List (S61)),2)) else ((clock_usual.f k x119000 x119001).bind fun t122=>(if t122=true then (if x8=64 then (some (([]:List (S61)),3)) else (if 0≤(wrap64 (x8+1)) then (if (wrap64 (x8+1)).toNat≤11728124029610 then ((some (([]:List (S61)):List (S61))).bind fun y123=>(if y123.length+x118000.length < 5864062014805 then ((some (y123 ++ x118000:List (S61))).bind fun y126=>(if y126.length < 5864062014805 then (some ((y126 ++ [(⟨x1,(⟨x119000,x119001⟩:S27)⟩:S61)]),0)) else (none))) else (none))) else (none)) else (none))) else (some (([]:List (S61)),1))))
def clock_Change.f (k:Nat) (l0_0:List (S61)) (a1:Int) (a2_0:Int) (a2_1:Int):Option ((List (S61)) × Int):=(clock_Valid.f k l0_0).bind fun t120=>(if t120=true then (if 0≤(wrap64 ((l0_0.length:Int) - 1)) then (if (wrap64 ((l0_0.length:Int) - 1)) < (l0_0.length:Int) then (if a1≤((rd_T61 l0_0 (wrap64 ((l0_0.length:Int) - 1))).f0) then (clock_Change.j0 k a1 (l0_0.length:Int) true l0_0 a2_0 a2_1) else (clock_Change.j0 k a1 (l0_0.length:Int) (decide (a1 > 1099511627776)) l0_0 a2_0 a2_1)) else (none)) else (none)) else (some (([]:List (S61)),1)))
theorem clock_Change.mono_l:∀ k,(∀ y0 y1 y2 y3 y4 y5,LeO (clock_Change.j0 k y0 y1 y2 y3 y4 y5) (clock_Change.j0 (k+1) y0 y1 y2 y3 y4 y5))
 | 0=>fun _ _ _ _ _ _ r h=>by simp [clock_Change.j0] at h
 | k+1=>by
  have ih0:=clock_Change.mono_l k
  ·intro y0 y1 y2 y3 y4 y5
   unfold clock_Change.j0
   repeat' first
   | (with_reducible exact ih0 _ _ _ _ _ _)
   | (with_reducible exact clock_Valid.mono _ _)
   | (with_reducible exact clock_usual.mono _ _ _)
   | (with_reducible exact LeO.refl _)
   | (with_reducible exact LeO.none _)
   | (with_reducible refine LeO.ite ?_ ?_)
   | (with_reducible refine LeO.bind ?_ (fun _=>?_))
   | exact ih0 _ _ _ _ _ _
   | exact clock_Valid.mono _ _
   | exact clock_usual.mono _ _ _
   | exact LeO.none _
   | refine LeO.ite ?_ ?_
   | refine LeO.bind ?_ (fun _=>?_)
theorem clock_Change.mono:∀ a0 a1 a2 a3 k,LeO (clock_Change.f k a0 a1 a2 a3) (clock_Change.f (k+1) a0 a1 a2 a3):=by
 intro a0 a1 a2 a3 k
 have ih0:=clock_Change.mono_l k
 unfold clock_Change.f
 repeat' first
   | (with_reducible exact ih0 _ _ _ _ _ _)
   | (with_reducible exact clock_Valid.mono _ _)
   | (with_reducible exact clock_usual.mono _ _ _)
   | (with_reducible exact LeO.refl _)
   | (with_reducible exact LeO.none _)
   | (with_reducible refine LeO.ite ?_ ?_)
   | (with_reducible refine LeO.bind ?_ (fun _=>?_))
   | exact ih0 _ _ _ _ _ _
   | exact clock_Valid.mono _ _
   | exact clock_usual.mono _ _ _
   | exact LeO.none _
   | refine LeO.ite ?_ ?_
   | refine LeO.bind ?_ (fun _=>?_)
set_option maxHeartbeats 8000000 in
set_option maxRecDepth 100000 in
theorem clock_Change.calls (k:Nat) (A0_0:Option Addr) (c0_0:Nat) (l0_0:List (S61)) (a1:Int) (a2_0:Int) (a2_1:Int) (r1:List (S61)) (r2:Int) (w:World) (hr0_0:Kd.C k61 w A0_0 l0_0.length l0_0) (hc0_0:l0_0.length≤c0_0) (h:clock_Change.f k l0_0 a1 a2_0 a2_1=some (r1,r2)) :
  Calls Try.prog 15 #[.agg #[.slice A0_0 l0_0.length c0_0], .int .i64 a1, .agg #[.int .i64 a2_0, .int .i64 a2_1]] w fun e w'=>∃ v0_:Value,e=.returned (.tuple #[.agg #[v0_], .int .i64 r2])∧Kd.R k61 61 w' w.heap.size (fun _=>True) v0_ r1∧Below w.heap.size w w':=by
 have hu24:=Try.underlying24
 have hu27:=Try.underlying27
 have hu61:=Try.underlying61
 have HR0_0:=Am hr0_0
 have HC0_0:=Am hc0_0
 clear hr0_0 hc0_0
 have HB:=Am (Below.refl w.heap.size w)
 have H:((clock_Valid.f k l0_0).bind fun t120=>(if t120=true then (if 0≤(wrap64 ((l0_0.length:Int) - 1)) then (if (wrap64 ((l0_0.length:Int) - 1)) < (l0_0.length:Int) then (if a1≤((rd_T61 l0_0 (wrap64 ((l0_0.length:Int) - 1))).f0) then (clock_Change.j0 k a1 (l0_0.length:Int) true l0_0 a2_0 a2_1) else (clock_Change.j0 k a1 (l0_0.length:Int) (decide (a1 > 1099511627776)) l0_0 a2_0 a2_1)) else (none)) else (none)) else (some (([]:List (S61)),1))))=some (r1,r2):=h
 clear h
 replace H:=Option.bind_eq_some_iff.mp H
 obtain ⟨t120,A40,H⟩:=H
 replace H:(if t120=true then (if 0≤(wrap64 ((l0_0.length:Int) - 1)) then (if (wrap64 ((l0_0.length:Int) - 1)) < (l0_0.length:Int) then (if a1≤((rd_T61 l0_0 (wrap64 ((l0_0.length:Int) - 1))).f0) then (clock_Change.j0 k a1 (l0_0.length:Int) true l0_0 a2_0 a2_1) else (clock_Change.j0 k a1 (l0_0.length:Int) (decide (a1 > 1099511627776)) l0_0 a2_0 a2_1)) else (none)) else (none)) else (some (([]:List (S61)),1)))=some (r1,r2):=H
 have A4:=Am A40
 clear A40
 by_cases c5:t120=true
 ·subst c5
  have H1:(if 0≤(wrap64 ((l0_0.length:Int) - 1)) then (if (wrap64 ((l0_0.length:Int) - 1)) < (l0_0.length:Int) then (if a1≤((rd_T61 l0_0 (wrap64 ((l0_0.length:Int) - 1))).f0) then (clock_Change.j0 k a1 (l0_0.length:Int) true l0_0 a2_0 a2_1) else (clock_Change.j0 k a1 (l0_0.length:Int) (decide (a1 > 1099511627776)) l0_0 a2_0 a2_1)) else (none)) else (none))=some (r1,r2):=by rw [if_pos rfl] at H;exact H
  clear H;have H:=H1;clear H1
  have HC6:=Am H
  clear H
  go_enter Try.func15,Try.ntmps15
  go_upto_region 4 with (first|((with_reducible refine gate_dst (N:=3) rfl ?_);refine box_event ?hg (N:=3) ?hd (cs:=#[.slice A0_0 l0_0.length c0_0]) (t:=24) ?hr ?_;(case hd=>rfl);(case hg=>rfl);(case hr=>first|(go_simp;done)|(go_simp;rfl));intro gb117 hg w7 hbox hb;have n0_:=Am (below_step (by repeat (first|(with_reducible first|exact HB.out|apply bA|apply bN|apply bD)|exact HB.out)) hb);have n1_:=Am (hbox);have n2_:=Am ((by rw [hg];exact (below_size (by repeat (first|(with_reducible first|exact HB.out|apply bA|apply bN|apply bD)|exact HB.out))):w.heap.size≤gb117));have n3_:=Am ((by rw [hg];exact (below_size (by repeat (first|(with_reducible first|exact HB.out|apply bA|apply bN|apply bD)|exact HB.out))):w.heap.size≤gb117));clear HB;have HB:=n0_;have BK117:=n1_;have GW117:=n2_;have GE117:=n3_;clear n0_ n1_ n2_ n3_ hb hbox hg)|((with_reducible refine gate_dst (N:=5) rfl ?_);refine box_event ?hg (N:=5) ?hd (cs:=#[.int .i64 a2_0, .int .i64 a2_1]) (t:=27) ?hr ?_;(case hd=>rfl);(case hg=>rfl);(case hr=>first|(go_simp;done)|(go_simp;rfl));intro gb118 hg w8 hbox hb;have n0_:=Am (blk_below (g:=gb117) (o:=.cells #[.slice A0_0 l0_0.length c0_0] 24 (0,0)) (by (with_reducible repeat first|apply kN|apply kD|apply kA);exact BK117.out) hb);have n1_:=Am (below_step (by repeat (first|(with_reducible first|exact HB.out|apply bA|apply bN|apply bD|refine bS ?_ GE117.out)|exact HB.out)) hb);have n2_:=Am (hbox);have n3_:=Am ((by rw [hg];exact (below_size (by repeat (first|(with_reducible first|exact HB.out|apply bA|apply bN|apply bD|refine bS ?_ GE117.out)|exact HB.out))):w.heap.size≤gb118));have n4_:=Am ((by rw [hg];exact (below_size (by repeat (first|(with_reducible first|exact HB.out|apply bA|apply bN|apply bD|refine bS ?_ GE117.out)|exact HB.out))):w.heap.size≤gb118));have n5_:=Am ((by rw [hg];exact Nat.ne_of_lt (blk_lt (g:=gb117) (o:=.cells #[.slice A0_0 l0_0.length c0_0] 24 (0,0)) (by (with_reducible repeat first|apply kN|apply kD|apply kA);exact BK117.out)):gb117≠gb118));have n6_:=Am (n5_.out.symm);clear BK117 HB;have BK117:=n0_;have HB:=n1_;have BK118:=n2_;have GW118:=n3_;have GE118:=n4_;have NB117_118:=n5_;have NB118_117:=n6_;clear n0_ n1_ n2_ n3_ n4_ n5_ n6_ hb hbox hg)|((with_reducible refine gate_dst (N:=6) rfl ?_);refine box_event ?hg (N:=6) ?hd (cs:=#[.slice none 0 0]) (t:=24) ?hr ?_;(case hd=>rfl);(case hg=>rfl);(case hr=>first|(go_simp;done)|(go_simp;rfl));intro gb119 hg w9 hbox hb;have n0_:=Am (blk_below (g:=gb117) (o:=.cells #[.slice A0_0 l0_0.length c0_0] 24 (0,0)) (by (with_reducible repeat first|apply kN|apply kD|apply kA);exact BK117.out) hb);have n1_:=Am (blk_below (g:=gb118) (o:=.cells #[.int .i64 a2_0, .int .i64 a2_1] 27 (0,0)) (by (with_reducible repeat first|apply kN|apply kD|apply kA);exact BK118.out) hb);have n2_:=Am (below_step (by repeat (first|(with_reducible first|exact HB.out|apply bA|apply bN|apply bD|refine bS ?_ GE117.out|refine bS ?_ GE118.out)|exact HB.out)) hb);have n3_:=Am (hbox);have n4_:=Am ((by rw [hg];exact (below_size (by repeat (first|(with_reducible first|exact HB.out|apply bA|apply bN|apply bD|refine bS ?_ GE117.out|refine bS ?_ GE118.out)|exact HB.out))):w.heap.size≤gb119));have n5_:=Am ((by rw [hg];exact (below_size (by repeat (first|(with_reducible first|exact HB.out|apply bA|apply bN|apply bD|refine bS ?_ GE117.out|refine bS ?_ GE118.out)|exact HB.out))):w.heap.size≤gb119));have n6_:=Am ((by rw [hg];exact Nat.ne_of_lt (blk_lt (g:=gb117) (o:=.cells #[.slice A0_0 l0_0.length c0_0] 24 (0,0)) (by (with_reducible repeat first|apply kN|apply kD|apply kA);exact BK117.out)):gb117≠gb119));have n7_:=Am (n6_.out.symm);have n8_:=Am ((by rw [hg];exact Nat.ne_of_lt (blk_lt (g:=gb118) (o:=.cells #[.int .i64 a2_0, .int .i64 a2_1] 27 (0,0)) (by (with_reducible repeat first|apply kN|apply kD|apply kA);exact BK118.out)):gb118≠gb119));have n9_:=Am (n8_.out.symm);clear BK117 BK118 HB;have BK117:=n0_;have BK118:=n1_;have HB:=n2_;have BK119:=n3_;have GW119:=n4_;have GE119:=n5_;have NB117_119:=n6_;have NB119_117:=n7_;have NB118_119:=n8_;have NB119_118:=n9_;clear n0_ n1_ n2_ n3_ n4_ n5_ n6_ n7_ n8_ n9_ hb hbox hg;have hnb10:=NB117_118.out;have hnc10:=NB118_117.out;have hnb11:=NB117_119.out;have hnc11:=NB119_117.out;have hcz12_0:w9.cell? ⟨gb117,0,none⟩=some (.slice A0_0 l0_0.length c0_0):=(blk_cell BK117.out 0).trans rfl;have hfz12_0:=blk_frozen BK117.out 0)|((with_reducible refine gate_callee (f:=17) rfl ?_);refine goesL_ (some 15) rfl rfl Try.func17 (by kernel_rfl) rfl #[.agg #[.slice A0_0 l0_0.length c0_0]] rfl (by (try simp only [List.map_toArray,List.map_cons,List.map_nil]);first|done|rfl|(simp only [List.length_drop,List.length_take];rfl)) ?_;(with_reducible refine (clock_Valid.calls k _ _ l0_0 true _ ?side1 ?side2 A4.out).mono ?_);(case side1=>repeat (first|exact (Kd.C_below HR0_0.out HB.out)|(with_reducible refine Kd.C_alloc ?_ _)|(with_reducible refine Kd.C_drewN ?_ _)|(with_reducible refine Kd.C_drew ?_)));(case side2=>exact HC0_0.out);rintro e w13 ⟨rfl,hb⟩;refine ⟨_,rfl,?_⟩;have n0_:=Am (blk_below (g:=gb117) (o:=.cells #[.slice A0_0 l0_0.length c0_0] 24 (0,0)) (by (with_reducible repeat first|apply kN|apply kD|apply kA);exact BK117.out) hb);have n1_:=Am (blk_below (g:=gb118) (o:=.cells #[.int .i64 a2_0, .int .i64 a2_1] 27 (0,0)) (by (with_reducible repeat first|apply kN|apply kD|apply kA);exact BK118.out) hb);have n2_:=Am (blk_below (g:=gb119) (o:=.cells #[.slice none 0 0] 24 (0,0)) (by (with_reducible repeat first|apply kN|apply kD|apply kA);exact BK119.out) hb);have n3_:=Am (below_step (by repeat (first|(with_reducible first|exact HB.out|apply bA|apply bN|apply bD|refine bS ?_ GE117.out|refine bS ?_ GE118.out|refine bS ?_ GE119.out)|exact HB.out)) hb);clear BK117 BK118 BK119 HB;have BK117:=n0_;have BK118:=n1_;have BK119:=n2_;have HB:=n3_;clear n0_ n1_ n2_ n3_;(try clear hb);(try clear hk)))
  (try simp only [pL])
  go_cut [18] (fun v18 wc=>∃ (kq:Nat) (x18_5:Bool),v18=.bool x18_5∧Aside0 (clock_Change.j0 kq a1 (l0_0.length:Int) x18_5 l0_0 a2_0 a2_1=some (r1,r2))∧Aside0 (kq≤k)∧Aside0 (wc.heap[gb117]?=some (.cells #[(.slice A0_0 l0_0.length c0_0)] 24 (0,0)))∧Aside0 (wc.heap[gb118]?=some (.cells #[.int .i64 a2_0, .int .i64 a2_1] 27 (0,0)))∧Aside0 (wc.heap[gb119]?=some (.cells #[(.slice none 0 0)] 24 (0,0)))∧Aside0 (Below w.heap.size w wc))
  case first =>
   have H:=HC6.out
   clear HC6
   obtain ⟨ji14,hji14⟩:∃ j_:Int,(wrap64 ((l0_0.length:Int) - 1))=j_:=⟨_,rfl⟩
   replace H:(if 0≤(ji14) then (if (ji14) < (l0_0.length:Int) then (if a1≤((rd_T61 l0_0 (ji14)).f0) then (clock_Change.j0 k a1 (l0_0.length:Int) true l0_0 a2_0 a2_1) else (clock_Change.j0 k a1 (l0_0.length:Int) (decide (a1 > 1099511627776)) l0_0 a2_0 a2_1)) else (none)) else (none))=some (r1,r2):=by first|(rw [hji14] at H;exact H)|(simp only [hji14] at H ⊢;exact H)
   have hji14w:(IntKind.i64.wrap ((l0_0.length:Int) - 1))=ji14:=(i64_w _).trans hji14
   by_cases c15:0≤(ji14)
   ·rw [if_pos c15] at H
    have c15b0:decide (0≤(ji14))=true:=decide_eq_true c15
    clear c15
    (first|rw [c15b0]|(simp only [i64_w,i32_w];rw [c15b0])|skip)
    by_cases c16:(ji14) < (l0_0.length:Int)
    ·rw [if_pos c16] at H
     have c16b0:decide ((ji14) < (l0_0.length:Int))=true:=decide_eq_true c16
     clear c16
     by_cases c17:a1≤((rd_T61 l0_0 (ji14)).f0)
     ·rw [if_pos c17] at H
      have c17b0:decide (a1≤((rd_T61 l0_0 (ji14)).f0))=true:=decide_eq_true c17
      clear c17
      have H':=Am H
      clear H
      have hnb18:=NB117_118.out
      have hnc18:=NB118_117.out
      have hnb19:=NB117_119.out
      have hnc19:=NB119_117.out
      have hcz20_0:w13.cell? ⟨gb117,0,none⟩=some (.slice A0_0 l0_0.length c0_0):=(blk_cell BK117.out 0).trans rfl
      have hfz20_0:=blk_frozen BK117.out 0
      have p121:0≤((ji14):Int):=of_decide_eq_true (by first|(with_reducible assumption)|assumption)
      have q121:(ji14) < (l0_0.length:Int):=of_decide_eq_true (by first|(with_reducible assumption)|assumption)
      obtain ⟨ad121,e121,hx121_0,hx121_1,hx121_2⟩:=at_T61 HR0_0.out (ji14) p121 q121
      cases e121
      replace hx121_0:=(HB.out.cell (World.block_lt_of_cell? w _ hx121_0)).trans hx121_0
      replace hx121_1:=(HB.out.cell (World.block_lt_of_cell? w _ hx121_1)).trans hx121_1
      replace hx121_2:=(HB.out.cell (World.block_lt_of_cell? w _ hx121_2)).trans hx121_2
      replace p121:=eq_true p121
      replace q121:=eq_true q121
      go_wp2
      go_meet
      case rel=>exact ⟨_,(true),(by first|rfl|(simp;done)|(simp [*];done)),H',⟨by first|omega|exact Nat.le_refl _⟩,⟨by (with_reducible repeat first|apply kN|apply kD|apply kA);exact BK117.out⟩,⟨by (with_reducible repeat first|apply kN|apply kD|apply kA);exact BK118.out⟩,⟨by (with_reducible repeat first|apply kN|apply kD|apply kA);exact BK119.out⟩,⟨by repeat (first|(with_reducible first|exact HB.out|apply bA|apply bN|apply bD|refine bS ?_ GE117.out|refine bS ?_ GE118.out|refine bS ?_ GE119.out)|exact HB.out)⟩⟩
     ·rw [if_neg c17] at H
      have c17b0:decide (a1≤((rd_T61 l0_0 (ji14)).f0))=false:=decide_eq_false c17
      clear c17
      have H':=Am H
      clear H
      have hnb21:=NB117_118.out
      have hnc21:=NB118_117.out
      have hnb22:=NB117_119.out
      have hnc22:=NB119_117.out
      have hcz23_0:w13.cell? ⟨gb117,0,none⟩=some (.slice A0_0 l0_0.length c0_0):=(blk_cell BK117.out 0).trans rfl
      have hfz23_0:=blk_frozen BK117.out 0
      have p121:0≤((ji14):Int):=of_decide_eq_true (by first|(with_reducible assumption)|assumption)
      have q121:(ji14) < (l0_0.length:Int):=of_decide_eq_true (by first|(with_reducible assumption)|assumption)
      obtain ⟨ad121,e121,hx121_0,hx121_1,hx121_2⟩:=at_T61 HR0_0.out (ji14) p121 q121
      cases e121
      replace hx121_0:=(HB.out.cell (World.block_lt_of_cell? w _ hx121_0)).trans hx121_0
      replace hx121_1:=(HB.out.cell (World.block_lt_of_cell? w _ hx121_1)).trans hx121_1
      replace hx121_2:=(HB.out.cell (World.block_lt_of_cell? w _ hx121_2)).trans hx121_2
      replace p121:=eq_true p121
      replace q121:=eq_true q121
      go_wp2
      go_meet
      case rel=>exact ⟨_,(decide (a1 > 1099511627776)),(by first|rfl|(simp;done)|(simp [*];done)),H',⟨by first|omega|exact Nat.le_refl _⟩,⟨by (with_reducible repeat first|apply kN|apply kD|apply kA);exact BK117.out⟩,⟨by (with_reducible repeat first|apply kN|apply kD|apply kA);exact BK118.out⟩,⟨by (with_reducible repeat first|apply kN|apply kD|apply kA);exact BK119.out⟩,⟨by repeat (first|(with_reducible first|exact HB.out|apply bA|apply bN|apply bD|refine bS ?_ GE117.out|refine bS ?_ GE118.out|refine bS ?_ GE119.out)|exact HB.out)⟩⟩
    ·rw [if_neg c16] at H
     exact absurd H (by simp)
   ·rw [if_neg c15] at H
    exact absurd H (by simp)
  case rest =>
   clear HC6;(try clear c1);(try clear p1);(try clear q1);(try clear hx1);(try clear c2);(try clear p2);(try clear c5);(try clear p6);(try clear c10);(try clear c11);(try clear p12);(try clear q12);(try clear hx12);(try clear c15);(try clear c15b0);(try clear c16);(try clear c16b0);(try clear c17);(try clear c17b0);(try clear c18);(try clear c19);(try clear c21);(try clear c22);(try clear hcz12_0);(try clear hcz20_0);(try clear hcz23_0);(try clear hfz12_0);(try clear hfz20_0);(try clear hfz23_0);(try clear hx121_0);(try clear hx121_1);(try clear hx121_2);(try clear p121);(try clear q121)
   obtain ⟨kq,x18_5,rfl,HA,HJ5,BK117,BK118,BK119,HB⟩:=hcut
   cases kq with
   | zero=>exact absurd HA.out (by simp [clock_Change.j0])
   | succ kj5 =>
    have H:=HA.out
    clear HA
    simp only [clock_Change.j0] at H
    by_cases c24:x18_5=true
    ·subst c24
     have H1:(some (([]:List (S61)),2))=some (r1,r2):=by rw [if_pos rfl] at H;exact H
     clear H;have H:=H1;clear H1
     simp only [Option.some.injEq,Prod.mk.injEq] at H
     obtain ⟨rfl,rfl⟩:=H
     have hnb25:=NB119_117.out
     have hnc25:=NB117_119.out
     have hnb26:=NB119_118.out
     have hnc26:=NB118_119.out
     have hcz27_0:wc.cell? ⟨gb119,0,none⟩=some (.slice none 0 0):=(blk_cell BK119.out 0).trans rfl
     have hfz27_0:=blk_frozen BK119.out 0
     go_wp2
     refine bodyPost_ret (results_ct rfl _ _ gb119 24 #[.slice none 0 0] (0,0) _ rfl (by (with_reducible repeat first|apply kN|apply kD|apply kA);refine blk_put (cs:=#[.slice none 0 0]) ?_ 0 _ rfl;(with_reducible repeat first|apply kN|apply kD|apply kA);exact BK119.out) Try.underlying24 rfl (by kernel_rfl)) rfl ?_
     exact ⟨_,by first|rfl|(simp [errW_none,errW_some] <;> rfl)|(simp [*,errW_none,errW_some] <;> rfl),by first|exact Kd.R_nil _ _ _ _ _|exact Kd.N_nil _ _ _ _ _|exact Kd.V_nil _ _ _ _ _|exact Kd.Q_nil _ _ _ _ _|exact Kd.S_nil _ _ _ _ _,by repeat (first|(with_reducible first|exact HB.out|apply bA|apply bN|apply bD|refine bS ?_ GE117.out|refine bS ?_ GE118.out|refine bS ?_ GE119.out)|exact HB.out)⟩
    ·replace c24:=Bool.eq_false_iff.mpr c24
     subst c24
     have H1:((clock_usual.f kj5 a2_0 a2_1).bind fun t122=>(if t122=true then (if (l0_0.length:Int)=64 then (some (([]:List (S61)),3)) else (if 0≤(wrap64 ((l0_0.length:Int)+1)) then (if (wrap64 ((l0_0.length:Int)+1)).toNat≤11728124029610 then ((some (([]:List (S61)):List (S61))).bind fun y123=>(if y123.length+l0_0.length < 5864062014805 then ((some (y123 ++ l0_0:List (S61))).bind fun y126=>(if y126.length < 5864062014805 then (some ((y126 ++ [(⟨a1,(⟨a2_0,a2_1⟩:S27)⟩:S61)]),0)) else (none))) else (none))) else (none)) else (none))) else (some (([]:List (S61)),1))))=some (r1,r2):=by rw [if_neg (show ¬ (false=true) by decide)] at H;exact H
     clear H;have H:=H1;clear H1
     replace H:=Option.bind_eq_some_iff.mp H
     obtain ⟨t122,A280,H⟩:=H
     replace H:(if t122=true then (if (l0_0.length:Int)=64 then (some (([]:List (S61)),3)) else (if 0≤(wrap64 ((l0_0.length:Int)+1)) then (if (wrap64 ((l0_0.length:Int)+1)).toNat≤11728124029610 then ((some (([]:List (S61)):List (S61))).bind fun y123=>(if y123.length+l0_0.length < 5864062014805 then ((some (y123 ++ l0_0:List (S61))).bind fun y126=>(if y126.length < 5864062014805 then (some ((y126 ++ [(⟨a1,(⟨a2_0,a2_1⟩:S27)⟩:S61)]),0)) else (none))) else (none))) else (none)) else (none))) else (some (([]:List (S61)),1)))=some (r1,r2):=H
     have A28:=Am A280
     clear A280
     by_cases c29:t122=true
     ·subst c29
      have H1:(if (l0_0.length:Int)=64 then (some (([]:List (S61)),3)) else (if 0≤(wrap64 ((l0_0.length:Int)+1)) then (if (wrap64 ((l0_0.length:Int)+1)).toNat≤11728124029610 then ((some (([]:List (S61)):List (S61))).bind fun y123=>(if y123.length+l0_0.length < 5864062014805 then ((some (y123 ++ l0_0:List (S61))).bind fun y126=>(if y126.length < 5864062014805 then (some ((y126 ++ [(⟨a1,(⟨a2_0,a2_1⟩:S27)⟩:S61)]),0)) else (none))) else (none))) else (none)) else (none)))=some (r1,r2):=by rw [if_pos rfl] at H;exact H
      clear H;have H:=H1;clear H1
      by_cases c30:(l0_0.length:Int)=64
      ·rw [if_pos c30] at H
       have c30b0:((l0_0.length:Int) == 64)=true:=beq_iff_eq.mpr c30
       have c30b1:((l0_0.length:Int) != 64)=false:=bne_eq_false_iff_eq.mpr c30
       clear c30
       simp only [Option.some.injEq,Prod.mk.injEq] at H
       obtain ⟨rfl,rfl⟩:=H
       have hnb31:=NB118_117.out
       have hnc31:=NB117_118.out
       have hnb32:=NB118_119.out
       have hnc32:=NB119_118.out
       have hcz33_0:wc.cell? ⟨gb118,0,none⟩=some (.int .i64 a2_0):=(blk_cell BK118.out 0).trans rfl
       have hcz33_1:wc.cell? ⟨gb118,1,none⟩=some (.int .i64 a2_1):=(blk_cell BK118.out 1).trans rfl
       have hfz33_0:=blk_frozen BK118.out 0
       have hfz33_1:=blk_frozen BK118.out 1
       go_wp2_with (first|((with_reducible refine gate_callee (f:=30) rfl ?_);refine goesL_ (some 35) rfl rfl Try.func30 (by kernel_rfl) rfl #[.agg #[.int .i64 a2_0, .int .i64 a2_1]] rfl (by (try simp only [List.map_toArray,List.map_cons,List.map_nil]);first|done|rfl|(simp only [List.length_drop,List.length_take];rfl)) ?_;(with_reducible refine (clock_usual.calls kj5 a2_0 a2_1 true _ A28.out).mono ?_);rintro e w34 ⟨rfl,hb⟩;refine ⟨_,rfl,?_⟩;have n0_:=Am (blk_below (g:=gb117) (o:=.cells #[.slice A0_0 l0_0.length c0_0] 24 (0,0)) (by (with_reducible repeat first|apply kN|apply kD|apply kA);exact BK117.out) hb);have n1_:=Am (blk_below (g:=gb118) (o:=.cells #[.int .i64 a2_0, .int .i64 a2_1] 27 (0,0)) (by (with_reducible repeat first|apply kN|apply kD|apply kA);exact BK118.out) hb);have n2_:=Am (blk_below (g:=gb119) (o:=.cells #[.slice none 0 0] 24 (0,0)) (by (with_reducible repeat first|apply kN|apply kD|apply kA);exact BK119.out) hb);have n3_:=Am (below_step (by repeat (first|(with_reducible first|exact HB.out|apply bA|apply bN|apply bD|refine bS ?_ GE117.out|refine bS ?_ GE118.out|refine bS ?_ GE119.out)|exact HB.out)) hb);clear BK117 BK118 BK119 HB;have BK117:=n0_;have BK118:=n1_;have BK119:=n2_;have HB:=n3_;clear n0_ n1_ n2_ n3_;(try clear hb);(try clear hk);have hnb35:=NB119_117.out;have hnc35:=NB117_119.out;have hcz36_0:w34.cell? ⟨gb119,0,none⟩=some (.slice none 0 0):=(blk_cell BK119.out 0).trans rfl;have hfz36_0:=blk_frozen BK119.out 0))
       refine bodyPost_ret (results_ct rfl _ _ gb119 24 #[.slice none 0 0] (0,0) _ rfl (by (with_reducible repeat first|apply kN|apply kD|apply kA);refine blk_put (cs:=#[.slice none 0 0]) ?_ 0 _ rfl;(with_reducible repeat first|apply kN|apply kD|apply kA);exact BK119.out) Try.underlying24 rfl (by kernel_rfl)) rfl ?_
       exact ⟨_,by first|rfl|(simp [errW_none,errW_some] <;> rfl)|(simp [*,errW_none,errW_some] <;> rfl),by first|exact Kd.R_nil _ _ _ _ _|exact Kd.N_nil _ _ _ _ _|exact Kd.V_nil _ _ _ _ _|exact Kd.Q_nil _ _ _ _ _|exact Kd.S_nil _ _ _ _ _,by repeat (first|(with_reducible first|exact HB.out|apply bA|apply bN|apply bD|refine bS ?_ GE117.out|refine bS ?_ GE118.out|refine bS ?_ GE119.out)|exact HB.out)⟩
      ·rw [if_neg c30] at H
       have c30b0:((l0_0.length:Int) == 64)=false:=beq_eq_false_iff_ne.mpr c30
       have c30b1:((l0_0.length:Int) != 64)=true:=bne_iff_ne.mpr c30
       obtain ⟨ji37,hji37⟩:∃ j_:Int,(wrap64 ((l0_0.length:Int)+1))=j_:=⟨_,rfl⟩
       replace H:(if 0≤(ji37) then (if (ji37).toNat≤11728124029610 then ((some (([]:List (S61)):List (S61))).bind fun y123=>(if y123.length+l0_0.length < 5864062014805 then ((some (y123 ++ l0_0:List (S61))).bind fun y126=>(if y126.length < 5864062014805 then (some ((y126 ++ [(⟨a1,(⟨a2_0,a2_1⟩:S27)⟩:S61)]),0)) else (none))) else (none))) else (none)) else (none))=some (r1,r2):=by first|(rw [hji37] at H;exact H)|(simp only [hji37] at H ⊢;exact H)
       (try rw [hji37] at A28)
       have hji37w:(IntKind.i64.wrap ((l0_0.length:Int)+1))=ji37:=(i64_w _).trans hji37
       by_cases c38:0≤(ji37)
       ·rw [if_pos c38] at H
        have c38b0:=eq_true c38
        have c38b1:decide (0≤(ji37))=true:=decide_eq_true c38
        clear c38
        by_cases c39:(ji37).toNat≤11728124029610
        ·rw [if_pos c39] at H
         have c39b0:=eq_true c39
         have c39b1:decide ((ji37).toNat≤11728124029610)=true:=decide_eq_true c39
         clear c39
         obtain ⟨y123,hy123⟩:∃ y_:List (S61),y_=(([]:List (S61))):=⟨_,rfl⟩
         replace H:(if y123.length+l0_0.length < 5864062014805 then ((some (y123 ++ l0_0:List (S61))).bind fun y126=>(if y126.length < 5864062014805 then (some ((y126 ++ [(⟨a1,(⟨a2_0,a2_1⟩:S27)⟩:S61)]),0)) else (none))) else (none))=some (r1,r2):=by first|(rw [hy123];with_reducible exact H)|(have H2_:=(Option.bind_some _ _).symm.trans H;rw [hy123];with_reducible exact H2_)|(have H2_:=(Option.bind_some _ _).symm.trans H;with_reducible exact H2_)|with_reducible exact H|(rw [hy123];exact H)|exact H
         have Ny123:=Am hy123
         clear hy123
         by_cases c40:y123.length+l0_0.length < 5864062014805
         ·rw [if_pos c40] at H
          have LMc40:=Am c40
          clear c40
          obtain ⟨y126,hy126⟩:∃ y_:List (S61),y_=(y123 ++ l0_0):=⟨_,rfl⟩
          replace H:(if y126.length < 5864062014805 then (some ((y126 ++ [(⟨a1,(⟨a2_0,a2_1⟩:S27)⟩:S61)]),0)) else (none))=some (r1,r2):=by first|(rw [hy126];with_reducible exact H)|(have H2_:=(Option.bind_some _ _).symm.trans H;rw [hy126];with_reducible exact H2_)|(have H2_:=(Option.bind_some _ _).symm.trans H;with_reducible exact H2_)|with_reducible exact H|(rw [hy126];exact H)|exact H
          have Ny126:=Am hy126
          clear hy126
          by_cases c41:y126.length < 5864062014805
          ·rw [if_pos c41] at H
           have LMc41:=Am c41
           clear c41
           obtain ⟨y129,hy129⟩:∃ y_:List (S61),y_=(y126 ++ [(⟨a1,(⟨a2_0,a2_1⟩:S27)⟩:S61)]):=⟨_,rfl⟩
           replace H:(some (y129,0))=some (r1,r2):=by first|(rw [hy129];with_reducible exact H)|(have H2_:=(Option.bind_some _ _).symm.trans H;rw [hy129];with_reducible exact H2_)|(have H2_:=(Option.bind_some _ _).symm.trans H;with_reducible exact H2_)|with_reducible exact H|(rw [hy129];exact H)|exact H
           have Ny129:=Am hy129
           clear hy129
           simp only [Option.some.injEq,Prod.mk.injEq] at H
           obtain ⟨rfl,rfl⟩:=H
           have hnb42:=NB118_117.out
           have hnc42:=NB117_118.out
           have hnb43:=NB118_119.out
           have hnc43:=NB119_118.out
           have hcz44_0:wc.cell? ⟨gb118,0,none⟩=some (.int .i64 a2_0):=(blk_cell BK118.out 0).trans rfl
           have hcz44_1:wc.cell? ⟨gb118,1,none⟩=some (.int .i64 a2_1):=(blk_cell BK118.out 1).trans rfl
           have hfz44_0:=blk_frozen BK118.out 0
           have hfz44_1:=blk_frozen BK118.out 1
           try go_wp2_with (first|((with_reducible refine gate_callee (f:=30) rfl ?_);refine goesL_ (some 35) rfl rfl Try.func30 (by kernel_rfl) rfl #[.agg #[.int .i64 a2_0, .int .i64 a2_1]] rfl (by (try simp only [List.map_toArray,List.map_cons,List.map_nil]);first|done|rfl|(simp only [List.length_drop,List.length_take];rfl)) ?_;(with_reducible refine (clock_usual.calls kj5 a2_0 a2_1 true _ A28.out).mono ?_);rintro e w45 ⟨rfl,hb⟩;refine ⟨_,rfl,?_⟩;have n0_:=Am (blk_below (g:=gb117) (o:=.cells #[.slice A0_0 l0_0.length c0_0] 24 (0,0)) (by (with_reducible repeat first|apply kN|apply kD|apply kA);exact BK117.out) hb);have n1_:=Am (blk_below (g:=gb118) (o:=.cells #[.int .i64 a2_0, .int .i64 a2_1] 27 (0,0)) (by (with_reducible repeat first|apply kN|apply kD|apply kA);exact BK118.out) hb);have n2_:=Am (blk_below (g:=gb119) (o:=.cells #[.slice none 0 0] 24 (0,0)) (by (with_reducible repeat first|apply kN|apply kD|apply kA);exact BK119.out) hb);have n3_:=Am (below_step (by repeat (first|(with_reducible first|exact HB.out|apply bA|apply bN|apply bD|refine bS ?_ GE117.out|refine bS ?_ GE118.out|refine bS ?_ GE119.out)|exact HB.out)) hb);clear BK117 BK118 BK119 HB;have BK117:=n0_;have BK118:=n1_;have BK119:=n2_;have HB:=n3_;clear n0_ n1_ n2_ n3_;(try clear hb);(try clear hk)))
           have n0_:=Am (kD BK117.out)
           have n1_:=Am (kD BK118.out)
           have n2_:=Am (kD BK119.out)
           have n3_:=Am (bD HB.out)
           clear BK117 BK118 BK119 HB;have BK117:=n0_;have BK118:=n1_;have BK119:=n2_;have HB:=n3_;clear n0_ n1_ n2_ n3_
           refine start_ (n:=7) (S:=fun w'=>w'.cell? ⟨gb117,0,none⟩=some (.slice A0_0 l0_0.length c0_0)) (ds:=[]) #[false,false,false,false,false,false,false] (by kernel_rfl) rfl rfl ((blk_cell BK117.out 0).trans rfl) (fun hHeld=>?_)
           generalize w45.drew=w46 at BK117 BK118 BK119 HB hHeld ⊢
           refine pure_ (i:=0) (N:=some 42) (v:=?_) (a':=?_) #[true,false,false,false,false,false,false] rfl rfl (by kernel_rfl) (fun _ _ _ h=>h) (Or.inl ⟨by rfl,?_⟩) ?_ ?_
           rotate_left;(· intro w';go_simp;with_reducible rfl);rotate_left;(· simp only [pL,i64_w,i32_w];rfl)
           refine pure_ (i:=1) (N:=some 43) (v:=?_) (a':=?_) #[true,true,false,false,false,false,false] rfl rfl (by kernel_rfl) (fun _ _ _ h=>h) (Or.inl ⟨by rfl,?_⟩) ?_ ?_
           rotate_left;(· intro w';go_simp;with_reducible rfl);rotate_left;(· simp only [pL,i64_w,i32_w];rfl)
           refine pure_ (i:=3) (N:=some 45) (v:=?_) (a':=?_) #[true,true,false,true,false,false,false] rfl rfl (by kernel_rfl) (fun _ _ _ h=>h) (Or.inl ⟨by rfl,?_⟩) ?_ ?_
           rotate_left;(· intro w';go_simp;with_reducible rfl);rotate_left;(· simp only [pL,i64_w,i32_w];rfl)
           refine take_ (i:=4) (N:=some 46) (v:=?_) (a':=?_) #[true,true,false,true,true,false,false] rfl rfl (by kernel_rfl) (fun _ _ _ h=>h) (Or.inl ⟨by rfl,?_⟩) hHeld ?_ ?_
           rotate_left
           ·intro w' s0
            go_simp
            with_reducible rfl
           rotate_left
           ·simp only [pL,i64_w,i32_w]
            rfl
           refine one_ (i:=2) (N:=some 44) #[true,true,true,true,true,false,false] rfl rfl (by kernel_rfl) (by decide) (fun K hK=>?_)
           refine Go.Proofs.YthnmmiofhjbkeaaX.Kd.R_make0_step k61 _ 61 (by rfl) (N:=44) rfl 22 _ _ rfl ji37 rfl rfl Try.underlying22 (.agg #[(.int .i64 0),(.int .i64 0),(.int .i64 0)]) 24 info61 (by decide) (ok:=fun _=>True) trivial (of_decide_eq_true (by first|(with_reducible assumption)|assumption)) (Nat.le_trans (Nat.mul_le_mul_right _ (of_decide_eq_true (by first|(with_reducible assumption)|assumption):ji37.toNat≤11728124029610)) (by omega)) (Below.refl _ _) (Nat.le_refl _) ?_
           intro v124 w47 ho48 hb hg_ hnew_
           clear hg_ hnew_
           (first|rw [← Ny123.out] at ho48|(simp only [Int.reduceToNat] at ho48;rw [← Ny123.out] at ho48))
           have n0_:=Am (Kd.R_lower ho48 (below_size (by repeat (first|(with_reducible first|exact HB.out|apply bA|apply bN|apply bD|refine bS ?_ GE117.out|refine bS ?_ GE118.out|refine bS ?_ GE119.out)|exact HB.out))))
           have n1_:=Am (blk_below (g:=gb117) (o:=.cells #[.slice A0_0 l0_0.length c0_0] 24 (0,0)) (by (with_reducible repeat first|apply kN|apply kD|apply kA);exact BK117.out) hb)
           have n2_:=Am (blk_below (g:=gb118) (o:=.cells #[.int .i64 a2_0, .int .i64 a2_1] 27 (0,0)) (by (with_reducible repeat first|apply kN|apply kD|apply kA);exact BK118.out) hb)
           have n3_:=Am (blk_below (g:=gb119) (o:=.cells #[.slice none 0 0] 24 (0,0)) (by (with_reducible repeat first|apply kN|apply kD|apply kA);exact BK119.out) hb)
           have n4_:=Am (below_step (by repeat (first|(with_reducible first|exact HB.out|apply bA|apply bN|apply bD|refine bS ?_ GE117.out|refine bS ?_ GE118.out|refine bS ?_ GE119.out)|exact HB.out)) hb)
           clear BK117 BK118 BK119 HB;have HO125:=n0_;have BK117:=n1_;have BK118:=n2_;have BK119:=n3_;have HB:=n4_;clear n0_ n1_ n2_ n3_ n4_ hb ho48
           refine hK.out _ _ ((blk_cell BK117.out 0).trans rfl) (fun hHeld=>?_)
           clear hK K
           refine norm_ (a':=?_) ?_ ?_
           rotate_left
           ·show Act.put _ (some 44) _=_
            simp only [pL,i64_w,i32_w]
            rfl
           refine one_ (i:=5) (N:=some 47) #[true,true,true,true,true,true,false] rfl rfl (by kernel_rfl) (by decide) (fun K hK=>?_)
           refine Kd.R_append_rows_step k61 (w0:=w) w.heap.size (by rfl) (.tmp 44) (.tmp 46) 22 61 (.agg #[(.int .i64 0),(.int .i64 0),(.int .i64 0)]) 24 rfl Try.underlying22 info61 rfl (by decide) (by omega) v124 y123 l0_0 _ _ _ (fun _=>True) (fun _=>False) rfl rfl ?aO ?aR (fun _ _ h=>h) (fun _ h=>h.elim) ?aF ?aB ?aS ?aL ?_
           (case aR=>repeat (first|exact (Kd.C_below HR0_0.out HB.out)|(with_reducible refine Kd.C_alloc ?_ _)|(with_reducible refine Kd.C_drewN ?_ _)|(with_reducible refine Kd.C_drew ?_)))
           (case aB=>exact (by repeat (first|(with_reducible first|exact HB.out|apply bA|apply bN|apply bD|refine bS ?_ GE117.out|refine bS ?_ GE118.out|refine bS ?_ GE119.out)|exact HB.out)))
           (case aF=>exact (fun _ _=>trivial))
           (case aO=>exact (by (with_reducible repeat first|apply Kd.R_alloc|apply Kd.R_drewN|apply Kd.R_drew);exact HO125.out))
           (case aS=>exact (below_size (by repeat (first|(with_reducible first|exact HB.out|apply bA|apply bN|apply bD|refine bS ?_ GE117.out|refine bS ?_ GE118.out|refine bS ?_ GE119.out)|exact HB.out))))
           (case aL=>have:=LMc40.out;omega)
           intro v127 w49 ho hb hg hat
           rw [← Ny126.out] at ho
           have n0_:=Am (blk_grown (g:=gb117) (o:=.cells #[.slice A0_0 l0_0.length c0_0] 24 (0,0)) (by (with_reducible repeat first|apply kN|apply kD|apply kA);exact BK117.out) hg (Kd.R_ne HO125.out BK117.out (by decide)))
           have n1_:=Am (blk_grown (g:=gb118) (o:=.cells #[.int .i64 a2_0, .int .i64 a2_1] 27 (0,0)) (by (with_reducible repeat first|apply kN|apply kD|apply kA);exact BK118.out) hg (Kd.R_ne HO125.out BK118.out (by decide)))
           have n2_:=Am (blk_grown (g:=gb119) (o:=.cells #[.slice none 0 0] 24 (0,0)) (by (with_reducible repeat first|apply kN|apply kD|apply kA);exact BK119.out) hg (Kd.R_ne HO125.out BK119.out (by decide)))
           have n3_:=Am (hb)
           have n4_:=Am (ho)
           clear BK117 BK118 BK119 HB HO125;have BK117:=n0_;have BK118:=n1_;have BK119:=n2_;have HB:=n3_;have HO128:=n4_;clear n0_ n1_ n2_ n3_ n4_ ho hb hg hat
           refine hK.out _ _ ((blk_cell BK117.out 0).trans rfl) (fun hHeld=>?_)
           clear hK K
           refine norm_ (a':=?_) ?_ ?_
           rotate_left
           ·show Act.put _ (some 47) _=_
            simp only [pL,i64_w,i32_w]
            rfl
           refine pure_ (i:=6) (N:=some 9) (v:=?_) (a':=?_) #[true,true,true,true,true,true,true] rfl rfl (by kernel_rfl) (fun _ _ _ h=>h) (Or.inl ⟨by rfl,?_⟩) ?_ ?_
           rotate_left;(· intro w';go_simp;with_reducible rfl);rotate_left;(· simp only [pL,i64_w,i32_w];rfl)
           refine done_ (by kernel_rfl) ?_
           have hcz50_0:w49.cell? ⟨gb118,0,none⟩=some (.int .i64 a2_0):=(blk_cell BK118.out 0).trans rfl
           have hcz50_1:w49.cell? ⟨gb118,1,none⟩=some (.int .i64 a2_1):=(blk_cell BK118.out 1).trans rfl
           have hfz50_0:=blk_frozen BK118.out 0
           have hfz50_1:=blk_frozen BK118.out 1
           try go_wp2_with (first|((with_reducible refine gate_builtin (b:=.append) (xs:=#[.tmp 48, .tmp 52]) rfl ?_);at_builtin;refine Kd.R_append k61 (w0:=w) w.heap.size rfl (.tmp 48) (.tmp 52) 22 61 (.agg #[(.int .i64 0),(.int .i64 0),(.int .i64 0)]) 24 rfl Try.underlying22 info61 rfl (by decide) (by omega) v127 y126 (⟨a1,(⟨a2_0,a2_1⟩:S27)⟩:S61) [.int .i64 a1, .int .i64 a2_0, .int .i64 a2_1] (fun _=>True) (fun _=>False) rfl rfl ?aP (fun _ hk=>hk.elim) ?aF ?aO ?aB ?aS ?aL ?_;(case aP=>exact k61_mkM _ _ _ (⟨a1,(⟨a2_0,a2_1⟩:S27)⟩:S61));(case aB=>exact (by repeat (first|(with_reducible first|exact HB.out|apply bA|apply bN|apply bD|refine bS ?_ GE117.out|refine bS ?_ GE118.out|refine bS ?_ GE119.out)|exact HB.out)));(case aF=>exact (fun _ _=>trivial));(case aO=>exact (by (with_reducible repeat first|apply Kd.R_alloc|apply Kd.R_drewN|apply Kd.R_drew);exact HO128.out));(case aS=>exact (below_size (by repeat (first|(with_reducible first|exact HB.out|apply bA|apply bN|apply bD|refine bS ?_ GE117.out|refine bS ?_ GE118.out|refine bS ?_ GE119.out)|exact HB.out))));(case aL=>have:=LMc41.out;omega);intro v130 w51 ho hb hg hat;rw [← Ny129.out] at ho;have n0_:=Am (blk_grown (g:=gb117) (o:=.cells #[.slice A0_0 l0_0.length c0_0] 24 (0,0)) (by (with_reducible repeat first|apply kN|apply kD|apply kA);exact BK117.out) hg (Kd.R_ne HO128.out BK117.out (by decide)));have n1_:=Am (blk_grown (g:=gb118) (o:=.cells #[.int .i64 a2_0, .int .i64 a2_1] 27 (0,0)) (by (with_reducible repeat first|apply kN|apply kD|apply kA);exact BK118.out) hg (Kd.R_ne HO128.out BK118.out (by decide)));have n2_:=Am (blk_grown (g:=gb119) (o:=.cells #[.slice none 0 0] 24 (0,0)) (by (with_reducible repeat first|apply kN|apply kD|apply kA);exact BK119.out) hg (Kd.R_ne HO128.out BK119.out (by decide)));have n3_:=Am (hb);have n4_:=Am (ho);clear BK117 BK118 BK119 HB HO128;have BK117:=n0_;have BK118:=n1_;have BK119:=n2_;have HB:=n3_;have HO131:=n4_;clear n0_ n1_ n2_ n3_ n4_ ho hb hg hat;obtain ⟨Ao52,co52,eo52⟩:=Kd.R_slice HO131.out;subst eo52;have hnb53:=NB119_117.out;have hnc53:=NB117_119.out;have hcz54_0:w51.cell? ⟨gb119,0,none⟩=some (.slice none 0 0):=(blk_cell BK119.out 0).trans rfl;have hfz54_0:=blk_frozen BK119.out 0))
           refine bodyPost_ret (results_ct rfl _ _ gb119 24 #[.slice Ao52 y129.length co52] (0,0) _ rfl (by (with_reducible repeat first|apply kN|apply kD|apply kA);refine blk_put (cs:=#[.slice none 0 0]) ?_ 0 _ rfl;(with_reducible repeat first|apply kN|apply kD|apply kA);exact BK119.out) Try.underlying24 rfl (by kernel_rfl)) rfl ?_
           exact ⟨_,by first|rfl|(simp [errW_none,errW_some] <;> rfl)|(simp only [← hji37];first|rfl|(simp [errW_none,errW_some] <;> rfl))|(simp [*,errW_none,errW_some] <;> rfl),by (with_reducible repeat first|apply Kd.R_alloc|apply Kd.R_drewN|apply Kd.R_drew);exact Kd.R_mono (Kd.R_far (p:=⟨gb119,0,none⟩) (Kd.R_types HO131.out BK119.out (by decide)) (fun _ hk=>hk.2) (.slice Ao52 y129.length co52)) (fun _ hk=>trivial),by repeat (first|(with_reducible first|exact HB.out|apply bA|apply bN|apply bD|refine bS ?_ GE117.out|refine bS ?_ GE118.out|refine bS ?_ GE119.out)|exact HB.out)⟩
          ·rw [if_neg c41] at H
           exact absurd H (by simp)
         ·rw [if_neg c40] at H
          exact absurd H (by simp)
        ·rw [if_neg c39] at H
         exact absurd H (by simp)
       ·rw [if_neg c38] at H
        exact absurd H (by simp)
     ·replace c29:=Bool.eq_false_iff.mpr c29
      subst c29
      have H1:(some (([]:List (S61)),1))=some (r1,r2):=by rw [if_neg (show ¬ (false=true) by decide)] at H;exact H
      clear H;have H:=H1;clear H1
      simp only [Option.some.injEq,Prod.mk.injEq] at H
      obtain ⟨rfl,rfl⟩:=H
      have hnb55:=NB118_117.out
      have hnc55:=NB117_118.out
      have hnb56:=NB118_119.out
      have hnc56:=NB119_118.out
      have hcz57_0:wc.cell? ⟨gb118,0,none⟩=some (.int .i64 a2_0):=(blk_cell BK118.out 0).trans rfl
      have hcz57_1:wc.cell? ⟨gb118,1,none⟩=some (.int .i64 a2_1):=(blk_cell BK118.out 1).trans rfl
      have hfz57_0:=blk_frozen BK118.out 0
      have hfz57_1:=blk_frozen BK118.out 1
      go_wp2_with (first|((with_reducible refine gate_callee (f:=30) rfl ?_);refine goesL_ (some 35) rfl rfl Try.func30 (by kernel_rfl) rfl #[.agg #[.int .i64 a2_0, .int .i64 a2_1]] rfl (by (try simp only [List.map_toArray,List.map_cons,List.map_nil]);first|done|rfl|(simp only [List.length_drop,List.length_take];rfl)) ?_;(with_reducible refine (clock_usual.calls kj5 a2_0 a2_1 false _ A28.out).mono ?_);rintro e w58 ⟨rfl,hb⟩;refine ⟨_,rfl,?_⟩;have n0_:=Am (blk_below (g:=gb117) (o:=.cells #[.slice A0_0 l0_0.length c0_0] 24 (0,0)) (by (with_reducible repeat first|apply kN|apply kD|apply kA);exact BK117.out) hb);have n1_:=Am (blk_below (g:=gb118) (o:=.cells #[.int .i64 a2_0, .int .i64 a2_1] 27 (0,0)) (by (with_reducible repeat first|apply kN|apply kD|apply kA);exact BK118.out) hb);have n2_:=Am (blk_below (g:=gb119) (o:=.cells #[.slice none 0 0] 24 (0,0)) (by (with_reducible repeat first|apply kN|apply kD|apply kA);exact BK119.out) hb);have n3_:=Am (below_step (by repeat (first|(with_reducible first|exact HB.out|apply bA|apply bN|apply bD|refine bS ?_ GE117.out|refine bS ?_ GE118.out|refine bS ?_ GE119.out)|exact HB.out)) hb);clear BK117 BK118 BK119 HB;have BK117:=n0_;have BK118:=n1_;have BK119:=n2_;have HB:=n3_;clear n0_ n1_ n2_ n3_;(try clear hb);(try clear hk);have hnb59:=NB119_117.out;have hnc59:=NB117_119.out;have hcz60_0:w58.cell? ⟨gb119,0,none⟩=some (.slice none 0 0):=(blk_cell BK119.out 0).trans rfl;have hfz60_0:=blk_frozen BK119.out 0))
      refine bodyPost_ret (results_ct rfl _ _ gb119 24 #[.slice none 0 0] (0,0) _ rfl (by (with_reducible repeat first|apply kN|apply kD|apply kA);refine blk_put (cs:=#[.slice none 0 0]) ?_ 0 _ rfl;(with_reducible repeat first|apply kN|apply kD|apply kA);exact BK119.out) Try.underlying24 rfl (by kernel_rfl)) rfl ?_
      exact ⟨_,by first|rfl|(simp [errW_none,errW_some] <;> rfl)|(simp [*,errW_none,errW_some] <;> rfl),by first|exact Kd.R_nil _ _ _ _ _|exact Kd.N_nil _ _ _ _ _|exact Kd.V_nil _ _ _ _ _|exact Kd.Q_nil _ _ _ _ _|exact Kd.S_nil _ _ _ _ _,by repeat (first|(with_reducible first|exact HB.out|apply bA|apply bN|apply bD|refine bS ?_ GE117.out|refine bS ?_ GE118.out|refine bS ?_ GE119.out)|exact HB.out)⟩
 ·replace c5:=Bool.eq_false_iff.mpr c5
  subst c5
  have H1:(some (([]:List (S61)),1))=some (r1,r2):=by rw [if_neg (show ¬ (false=true) by decide)] at H;exact H
  clear H;have H:=H1;clear H1
  simp only [Option.some.injEq,Prod.mk.injEq] at H
  obtain ⟨rfl,rfl⟩:=H
  go_enter Try.func15,Try.ntmps15
  go_wp2_with (first|((with_reducible refine gate_dst (N:=3) rfl ?_);refine box_event ?hg (N:=3) ?hd (cs:=#[.slice A0_0 l0_0.length c0_0]) (t:=24) ?hr ?_;(case hd=>rfl);(case hg=>rfl);(case hr=>first|(go_simp;done)|(go_simp;rfl));intro gb117 hg w61 hbox hb;have n0_:=Am (below_step (by repeat (first|(with_reducible first|exact HB.out|apply bA|apply bN|apply bD)|exact HB.out)) hb);have n1_:=Am (hbox);have n2_:=Am ((by rw [hg];exact (below_size (by repeat (first|(with_reducible first|exact HB.out|apply bA|apply bN|apply bD)|exact HB.out))):w.heap.size≤gb117));have n3_:=Am ((by rw [hg];exact (below_size (by repeat (first|(with_reducible first|exact HB.out|apply bA|apply bN|apply bD)|exact HB.out))):w.heap.size≤gb117));clear HB;have HB:=n0_;have BK117:=n1_;have GW117:=n2_;have GE117:=n3_;clear n0_ n1_ n2_ n3_ hb hbox hg)|((with_reducible refine gate_dst (N:=5) rfl ?_);refine box_event ?hg (N:=5) ?hd (cs:=#[.int .i64 a2_0, .int .i64 a2_1]) (t:=27) ?hr ?_;(case hd=>rfl);(case hg=>rfl);(case hr=>first|(go_simp;done)|(go_simp;rfl));intro gb118 hg w62 hbox hb;have n0_:=Am (blk_below (g:=gb117) (o:=.cells #[.slice A0_0 l0_0.length c0_0] 24 (0,0)) (by (with_reducible repeat first|apply kN|apply kD|apply kA);exact BK117.out) hb);have n1_:=Am (below_step (by repeat (first|(with_reducible first|exact HB.out|apply bA|apply bN|apply bD|refine bS ?_ GE117.out)|exact HB.out)) hb);have n2_:=Am (hbox);have n3_:=Am ((by rw [hg];exact (below_size (by repeat (first|(with_reducible first|exact HB.out|apply bA|apply bN|apply bD|refine bS ?_ GE117.out)|exact HB.out))):w.heap.size≤gb118));have n4_:=Am ((by rw [hg];exact (below_size (by repeat (first|(with_reducible first|exact HB.out|apply bA|apply bN|apply bD|refine bS ?_ GE117.out)|exact HB.out))):w.heap.size≤gb118));have n5_:=Am ((by rw [hg];exact Nat.ne_of_lt (blk_lt (g:=gb117) (o:=.cells #[.slice A0_0 l0_0.length c0_0] 24 (0,0)) (by (with_reducible repeat first|apply kN|apply kD|apply kA);exact BK117.out)):gb117≠gb118));have n6_:=Am (n5_.out.symm);clear BK117 HB;have BK117:=n0_;have HB:=n1_;have BK118:=n2_;have GW118:=n3_;have GE118:=n4_;have NB117_118:=n5_;have NB118_117:=n6_;clear n0_ n1_ n2_ n3_ n4_ n5_ n6_ hb hbox hg)|((with_reducible refine gate_dst (N:=6) rfl ?_);refine box_event ?hg (N:=6) ?hd (cs:=#[.slice none 0 0]) (t:=24) ?hr ?_;(case hd=>rfl);(case hg=>rfl);(case hr=>first|(go_simp;done)|(go_simp;rfl));intro gb119 hg w63 hbox hb;have n0_:=Am (blk_below (g:=gb117) (o:=.cells #[.slice A0_0 l0_0.length c0_0] 24 (0,0)) (by (with_reducible repeat first|apply kN|apply kD|apply kA);exact BK117.out) hb);have n1_:=Am (blk_below (g:=gb118) (o:=.cells #[.int .i64 a2_0, .int .i64 a2_1] 27 (0,0)) (by (with_reducible repeat first|apply kN|apply kD|apply kA);exact BK118.out) hb);have n2_:=Am (below_step (by repeat (first|(with_reducible first|exact HB.out|apply bA|apply bN|apply bD|refine bS ?_ GE117.out|refine bS ?_ GE118.out)|exact HB.out)) hb);have n3_:=Am (hbox);have n4_:=Am ((by rw [hg];exact (below_size (by repeat (first|(with_reducible first|exact HB.out|apply bA|apply bN|apply bD|refine bS ?_ GE117.out|refine bS ?_ GE118.out)|exact HB.out))):w.heap.size≤gb119));have n5_:=Am ((by rw [hg];exact (below_size (by repeat (first|(with_reducible first|exact HB.out|apply bA|apply bN|apply bD|refine bS ?_ GE117.out|refine bS ?_ GE118.out)|exact HB.out))):w.heap.size≤gb119));have n6_:=Am ((by rw [hg];exact Nat.ne_of_lt (blk_lt (g:=gb117) (o:=.cells #[.slice A0_0 l0_0.length c0_0] 24 (0,0)) (by (with_reducible repeat first|apply kN|apply kD|apply kA);exact BK117.out)):gb117≠gb119));have n7_:=Am (n6_.out.symm);have n8_:=Am ((by rw [hg];exact Nat.ne_of_lt (blk_lt (g:=gb118) (o:=.cells #[.int .i64 a2_0, .int .i64 a2_1] 27 (0,0)) (by (with_reducible repeat first|apply kN|apply kD|apply kA);exact BK118.out)):gb118≠gb119));have n9_:=Am (n8_.out.symm);clear BK117 BK118 HB;have BK117:=n0_;have BK118:=n1_;have HB:=n2_;have BK119:=n3_;have GW119:=n4_;have GE119:=n5_;have NB117_119:=n6_;have NB119_117:=n7_;have NB118_119:=n8_;have NB119_118:=n9_;clear n0_ n1_ n2_ n3_ n4_ n5_ n6_ n7_ n8_ n9_ hb hbox hg;have hnb64:=NB117_118.out;have hnc64:=NB118_117.out;have hnb65:=NB117_119.out;have hnc65:=NB119_117.out;have hcz66_0:w63.cell? ⟨gb117,0,none⟩=some (.slice A0_0 l0_0.length c0_0):=(blk_cell BK117.out 0).trans rfl;have hfz66_0:=blk_frozen BK117.out 0)|((with_reducible refine gate_callee (f:=17) rfl ?_);refine goesL_ (some 15) rfl rfl Try.func17 (by kernel_rfl) rfl #[.agg #[.slice A0_0 l0_0.length c0_0]] rfl (by (try simp only [List.map_toArray,List.map_cons,List.map_nil]);first|done|rfl|(simp only [List.length_drop,List.length_take];rfl)) ?_;(with_reducible refine (clock_Valid.calls k _ _ l0_0 false _ ?side1 ?side2 A4.out).mono ?_);(case side1=>repeat (first|exact (Kd.C_below HR0_0.out HB.out)|(with_reducible refine Kd.C_alloc ?_ _)|(with_reducible refine Kd.C_drewN ?_ _)|(with_reducible refine Kd.C_drew ?_)));(case side2=>exact HC0_0.out);rintro e w67 ⟨rfl,hb⟩;refine ⟨_,rfl,?_⟩;have n0_:=Am (blk_below (g:=gb117) (o:=.cells #[.slice A0_0 l0_0.length c0_0] 24 (0,0)) (by (with_reducible repeat first|apply kN|apply kD|apply kA);exact BK117.out) hb);have n1_:=Am (blk_below (g:=gb118) (o:=.cells #[.int .i64 a2_0, .int .i64 a2_1] 27 (0,0)) (by (with_reducible repeat first|apply kN|apply kD|apply kA);exact BK118.out) hb);have n2_:=Am (blk_below (g:=gb119) (o:=.cells #[.slice none 0 0] 24 (0,0)) (by (with_reducible repeat first|apply kN|apply kD|apply kA);exact BK119.out) hb);have n3_:=Am (below_step (by repeat (first|(with_reducible first|exact HB.out|apply bA|apply bN|apply bD|refine bS ?_ GE117.out|refine bS ?_ GE118.out|refine bS ?_ GE119.out)|exact HB.out)) hb);clear BK117 BK118 BK119 HB;have BK117:=n0_;have BK118:=n1_;have BK119:=n2_;have HB:=n3_;clear n0_ n1_ n2_ n3_;(try clear hb);(try clear hk);have hnb68:=NB119_118.out;have hnc68:=NB118_119.out;have hcz69_0:w67.cell? ⟨gb119,0,none⟩=some (.slice none 0 0):=(blk_cell BK119.out 0).trans rfl;have hfz69_0:=blk_frozen BK119.out 0))
  refine bodyPost_ret (results_ct rfl _ _ gb119 24 #[.slice none 0 0] (0,0) _ rfl (by (with_reducible repeat first|apply kN|apply kD|apply kA);refine blk_put (cs:=#[.slice none 0 0]) ?_ 0 _ rfl;(with_reducible repeat first|apply kN|apply kD|apply kA);exact BK119.out) Try.underlying24 rfl (by kernel_rfl)) rfl ?_
  exact ⟨_,by first|rfl|(simp [errW_none,errW_some] <;> rfl)|(simp [*,errW_none,errW_some] <;> rfl),by first|exact Kd.R_nil _ _ _ _ _|exact Kd.N_nil _ _ _ _ _|exact Kd.V_nil _ _ _ _ _|exact Kd.Q_nil _ _ _ _ _|exact Kd.S_nil _ _ _ _ _,by repeat (first|(with_reducible first|exact HB.out|apply bA|apply bN|apply bD|refine bS ?_ GE117.out|refine bS ?_ GE118.out|refine bS ?_ GE119.out)|exact HB.out)⟩

-- NOT PRINTED: function 36 (clock_pieces)

/-! ### ratio_check: function 49 -/
def ratio_check.f (k:Nat) (a0:Int) (a1_0:Int) (a1_1:Int):Option (Int):=(ratio_Valid.f k a1_0 a1_1).bind fun t133=>(if t133=true then (if a0 < (-1125899906842624) then (some 2) else (if a0 > 1125899906842624 then (some 2) else (some 0))) else (some 1))
theorem ratio_check.mono:∀ a0 a1 a2 k,LeO (ratio_check.f k a0 a1 a2) (ratio_check.f (k+1) a0 a1 a2):=by
 intro a0 a1 a2 k
 unfold ratio_check.f
 repeat' first
   | (with_reducible exact ratio_Valid.mono _ _ _)
   | (with_reducible exact LeO.refl _)
   | (with_reducible exact LeO.none _)
   | (with_reducible refine LeO.ite ?_ ?_)
   | (with_reducible refine LeO.bind ?_ (fun _=>?_))
   | exact ratio_Valid.mono _ _ _
   | exact LeO.none _
   | refine LeO.ite ?_ ?_
   | refine LeO.bind ?_ (fun _=>?_)
set_option maxHeartbeats 8000000 in
set_option maxRecDepth 100000 in
theorem ratio_check.calls (k:Nat) (a0:Int) (a1_0:Int) (a1_1:Int) (r:Int) (w:World) (h:ratio_check.f k a0 a1_0 a1_1=some r) :
  Calls Try.prog 49 #[.int .i64 a0, .agg #[.int .i64 a1_0, .int .i64 a1_1]] w fun e w'=>e=.returned (.int .i64 r)∧Below w.heap.size w w':=by
 have hu27:=Try.underlying27
 have HB:=Am (Below.refl w.heap.size w)
 have H:((ratio_Valid.f k a1_0 a1_1).bind fun t133=>(if t133=true then (if a0 < (-1125899906842624) then (some 2) else (if a0 > 1125899906842624 then (some 2) else (some 0))) else (some 1)))=some r:=h
 clear h
 replace H:=Option.bind_eq_some_iff.mp H
 obtain ⟨t133,A30,H⟩:=H
 replace H:(if t133=true then (if a0 < (-1125899906842624) then (some 2) else (if a0 > 1125899906842624 then (some 2) else (some 0))) else (some 1))=some r:=H
 have A3:=Am A30
 clear A30
 by_cases c4:t133=true
 ·subst c4
  have H1:(if a0 < (-1125899906842624) then (some 2) else (if a0 > 1125899906842624 then (some 2) else (some 0)))=some r:=by rw [if_pos rfl] at H;exact H
  clear H;have H:=H1;clear H1
  by_cases c5:a0 < (-1125899906842624)
  ·rw [if_pos c5] at H
   have c5b0:decide (a0 < (-1125899906842624))=true:=decide_eq_true c5
   clear c5
   obtain rfl:=Option.some.inj H
   go_enter Try.func49,Try.ntmps49
   go_wp2_with (first|((with_reducible refine gate_dst (N:=3) rfl ?_);refine box_event ?hg (N:=3) ?hd (cs:=#[.int .i64 a1_0, .int .i64 a1_1]) (t:=27) ?hr ?_;(case hd=>rfl);(case hg=>rfl);(case hr=>first|(go_simp;done)|(go_simp;rfl));intro gb132 hg w6 hbox hb;have n0_:=Am (below_step (by repeat (first|(with_reducible first|exact HB.out|apply bA|apply bN|apply bD)|exact HB.out)) hb);have n1_:=Am (hbox);have n2_:=Am ((by rw [hg];exact (below_size (by repeat (first|(with_reducible first|exact HB.out|apply bA|apply bN|apply bD)|exact HB.out))):w.heap.size≤gb132));have n3_:=Am ((by rw [hg];exact (below_size (by repeat (first|(with_reducible first|exact HB.out|apply bA|apply bN|apply bD)|exact HB.out))):w.heap.size≤gb132));clear HB;have HB:=n0_;have BK132:=n1_;have GW132:=n2_;have GE132:=n3_;clear n0_ n1_ n2_ n3_ hb hbox hg;have hcz7_0:w6.cell? ⟨gb132,0,none⟩=some (.int .i64 a1_0):=(blk_cell BK132.out 0).trans rfl;have hcz7_1:w6.cell? ⟨gb132,1,none⟩=some (.int .i64 a1_1):=(blk_cell BK132.out 1).trans rfl;have hfz7_0:=blk_frozen BK132.out 0;have hfz7_1:=blk_frozen BK132.out 1)|((with_reducible refine gate_callee (f:=40) rfl ?_);refine goesL_ (some 7) rfl rfl Try.func40 (by kernel_rfl) rfl #[.agg #[.int .i64 a1_0, .int .i64 a1_1]] rfl (by (try simp only [List.map_toArray,List.map_cons,List.map_nil]);first|done|rfl|(simp only [List.length_drop,List.length_take];rfl)) ?_;(with_reducible refine (ratio_Valid.calls k a1_0 a1_1 true _ A3.out).mono ?_);rintro e w8 ⟨rfl,hb⟩;refine ⟨_,rfl,?_⟩;have n0_:=Am (blk_below (g:=gb132) (o:=.cells #[.int .i64 a1_0, .int .i64 a1_1] 27 (0,0)) (by (with_reducible repeat first|apply kN|apply kD|apply kA);exact BK132.out) hb);have n1_:=Am (below_step (by repeat (first|(with_reducible first|exact HB.out|apply bA|apply bN|apply bD|refine bS ?_ GE132.out)|exact HB.out)) hb);clear BK132 HB;have BK132:=n0_;have HB:=n1_;clear n0_ n1_;(try clear hb)))
   go_ret
   exact ⟨by first|rfl|(simp [errW_none,errW_some] <;> rfl)|(simp [*,errW_none,errW_some] <;> rfl),by repeat (first|(with_reducible first|exact HB.out|apply bA|apply bN|apply bD|refine bS ?_ GE132.out)|exact HB.out)⟩
  ·rw [if_neg c5] at H
   have c5b0:decide (a0 < (-1125899906842624))=false:=decide_eq_false c5
   clear c5
   by_cases c9:a0 > 1125899906842624
   ·rw [if_pos c9] at H
    have c9b0:decide (1125899906842624 < a0)=true:=decide_eq_true c9
    clear c9
    obtain rfl:=Option.some.inj H
    go_enter Try.func49,Try.ntmps49
    go_wp2_with (first|((with_reducible refine gate_dst (N:=3) rfl ?_);refine box_event ?hg (N:=3) ?hd (cs:=#[.int .i64 a1_0, .int .i64 a1_1]) (t:=27) ?hr ?_;(case hd=>rfl);(case hg=>rfl);(case hr=>first|(go_simp;done)|(go_simp;rfl));intro gb132 hg w10 hbox hb;have n0_:=Am (below_step (by repeat (first|(with_reducible first|exact HB.out|apply bA|apply bN|apply bD)|exact HB.out)) hb);have n1_:=Am (hbox);have n2_:=Am ((by rw [hg];exact (below_size (by repeat (first|(with_reducible first|exact HB.out|apply bA|apply bN|apply bD)|exact HB.out))):w.heap.size≤gb132));have n3_:=Am ((by rw [hg];exact (below_size (by repeat (first|(with_reducible first|exact HB.out|apply bA|apply bN|apply bD)|exact HB.out))):w.heap.size≤gb132));clear HB;have HB:=n0_;have BK132:=n1_;have GW132:=n2_;have GE132:=n3_;clear n0_ n1_ n2_ n3_ hb hbox hg;have hcz11_0:w10.cell? ⟨gb132,0,none⟩=some (.int .i64 a1_0):=(blk_cell BK132.out 0).trans rfl;have hcz11_1:w10.cell? ⟨gb132,1,none⟩=some (.int .i64 a1_1):=(blk_cell BK132.out 1).trans rfl;have hfz11_0:=blk_frozen BK132.out 0;have hfz11_1:=blk_frozen BK132.out 1)|((with_reducible refine gate_callee (f:=40) rfl ?_);refine goesL_ (some 7) rfl rfl Try.func40 (by kernel_rfl) rfl #[.agg #[.int .i64 a1_0, .int .i64 a1_1]] rfl (by (try simp only [List.map_toArray,List.map_cons,List.map_nil]);first|done|rfl|(simp only [List.length_drop,List.length_take];rfl)) ?_;(with_reducible refine (ratio_Valid.calls k a1_0 a1_1 true _ A3.out).mono ?_);rintro e w12 ⟨rfl,hb⟩;refine ⟨_,rfl,?_⟩;have n0_:=Am (blk_below (g:=gb132) (o:=.cells #[.int .i64 a1_0, .int .i64 a1_1] 27 (0,0)) (by (with_reducible repeat first|apply kN|apply kD|apply kA);exact BK132.out) hb);have n1_:=Am (below_step (by repeat (first|(with_reducible first|exact HB.out|apply bA|apply bN|apply bD|refine bS ?_ GE132.out)|exact HB.out)) hb);clear BK132 HB;have BK132:=n0_;have HB:=n1_;clear n0_ n1_;(try clear hb)))
    go_ret
    exact ⟨by first|rfl|(simp [errW_none,errW_some] <;> rfl)|(simp [*,errW_none,errW_some] <;> rfl),by repeat (first|(with_reducible first|exact HB.out|apply bA|apply bN|apply bD|refine bS ?_ GE132.out)|exact HB.out)⟩
   ·rw [if_neg c9] at H
    have c9b0:decide (1125899906842624 < a0)=false:=decide_eq_false c9
    clear c9
    obtain rfl:=Option.some.inj H
    go_enter Try.func49,Try.ntmps49
    go_wp2_with (first|((with_reducible refine gate_dst (N:=3) rfl ?_);refine box_event ?hg (N:=3) ?hd (cs:=#[.int .i64 a1_0, .int .i64 a1_1]) (t:=27) ?hr ?_;(case hd=>rfl);(case hg=>rfl);(case hr=>first|(go_simp;done)|(go_simp;rfl));intro gb132 hg w13 hbox hb;have n0_:=Am (below_step (by repeat (first|(with_reducible first|exact HB.out|apply bA|apply bN|apply bD)|exact HB.out)) hb);have n1_:=Am (hbox);have n2_:=Am ((by rw [hg];exact (below_size (by repeat (first|(with_reducible first|exact HB.out|apply bA|apply bN|apply bD)|exact HB.out))):w.heap.size≤gb132));have n3_:=Am ((by rw [hg];exact (below_size (by repeat (first|(with_reducible first|exact HB.out|apply bA|apply bN|apply bD)|exact HB.out))):w.heap.size≤gb132));clear HB;have HB:=n0_;have BK132:=n1_;have GW132:=n2_;have GE132:=n3_;clear n0_ n1_ n2_ n3_ hb hbox hg;have hcz14_0:w13.cell? ⟨gb132,0,none⟩=some (.int .i64 a1_0):=(blk_cell BK132.out 0).trans rfl;have hcz14_1:w13.cell? ⟨gb132,1,none⟩=some (.int .i64 a1_1):=(blk_cell BK132.out 1).trans rfl;have hfz14_0:=blk_frozen BK132.out 0;have hfz14_1:=blk_frozen BK132.out 1)|((with_reducible refine gate_callee (f:=40) rfl ?_);refine goesL_ (some 7) rfl rfl Try.func40 (by kernel_rfl) rfl #[.agg #[.int .i64 a1_0, .int .i64 a1_1]] rfl (by (try simp only [List.map_toArray,List.map_cons,List.map_nil]);first|done|rfl|(simp only [List.length_drop,List.length_take];rfl)) ?_;(with_reducible refine (ratio_Valid.calls k a1_0 a1_1 true _ A3.out).mono ?_);rintro e w15 ⟨rfl,hb⟩;refine ⟨_,rfl,?_⟩;have n0_:=Am (blk_below (g:=gb132) (o:=.cells #[.int .i64 a1_0, .int .i64 a1_1] 27 (0,0)) (by (with_reducible repeat first|apply kN|apply kD|apply kA);exact BK132.out) hb);have n1_:=Am (below_step (by repeat (first|(with_reducible first|exact HB.out|apply bA|apply bN|apply bD|refine bS ?_ GE132.out)|exact HB.out)) hb);clear BK132 HB;have BK132:=n0_;have HB:=n1_;clear n0_ n1_;(try clear hb)))
    go_ret
    exact ⟨by first|rfl|(simp [errW_none,errW_some] <;> rfl)|(simp [*,errW_none,errW_some] <;> rfl),by repeat (first|(with_reducible first|exact HB.out|apply bA|apply bN|apply bD|refine bS ?_ GE132.out)|exact HB.out)⟩
 ·replace c4:=Bool.eq_false_iff.mpr c4
  subst c4
  have H1:(some 1)=some r:=by rw [if_neg (show ¬ (false=true) by decide)] at H;exact H
  clear H;have H:=H1;clear H1
  obtain rfl:=Option.some.inj H
  go_enter Try.func49,Try.ntmps49
  go_wp2_with (first|((with_reducible refine gate_dst (N:=3) rfl ?_);refine box_event ?hg (N:=3) ?hd (cs:=#[.int .i64 a1_0, .int .i64 a1_1]) (t:=27) ?hr ?_;(case hd=>rfl);(case hg=>rfl);(case hr=>first|(go_simp;done)|(go_simp;rfl));intro gb132 hg w16 hbox hb;have n0_:=Am (below_step (by repeat (first|(with_reducible first|exact HB.out|apply bA|apply bN|apply bD)|exact HB.out)) hb);have n1_:=Am (hbox);have n2_:=Am ((by rw [hg];exact (below_size (by repeat (first|(with_reducible first|exact HB.out|apply bA|apply bN|apply bD)|exact HB.out))):w.heap.size≤gb132));have n3_:=Am ((by rw [hg];exact (below_size (by repeat (first|(with_reducible first|exact HB.out|apply bA|apply bN|apply bD)|exact HB.out))):w.heap.size≤gb132));clear HB;have HB:=n0_;have BK132:=n1_;have GW132:=n2_;have GE132:=n3_;clear n0_ n1_ n2_ n3_ hb hbox hg;have hcz17_0:w16.cell? ⟨gb132,0,none⟩=some (.int .i64 a1_0):=(blk_cell BK132.out 0).trans rfl;have hcz17_1:w16.cell? ⟨gb132,1,none⟩=some (.int .i64 a1_1):=(blk_cell BK132.out 1).trans rfl;have hfz17_0:=blk_frozen BK132.out 0;have hfz17_1:=blk_frozen BK132.out 1)|((with_reducible refine gate_callee (f:=40) rfl ?_);refine goesL_ (some 7) rfl rfl Try.func40 (by kernel_rfl) rfl #[.agg #[.int .i64 a1_0, .int .i64 a1_1]] rfl (by (try simp only [List.map_toArray,List.map_cons,List.map_nil]);first|done|rfl|(simp only [List.length_drop,List.length_take];rfl)) ?_;(with_reducible refine (ratio_Valid.calls k a1_0 a1_1 false _ A3.out).mono ?_);rintro e w18 ⟨rfl,hb⟩;refine ⟨_,rfl,?_⟩;have n0_:=Am (blk_below (g:=gb132) (o:=.cells #[.int .i64 a1_0, .int .i64 a1_1] 27 (0,0)) (by (with_reducible repeat first|apply kN|apply kD|apply kA);exact BK132.out) hb);have n1_:=Am (below_step (by repeat (first|(with_reducible first|exact HB.out|apply bA|apply bN|apply bD|refine bS ?_ GE132.out)|exact HB.out)) hb);clear BK132 HB;have BK132:=n0_;have HB:=n1_;clear n0_ n1_;(try clear hb)))
  go_ret
  exact ⟨by first|rfl|(simp [errW_none,errW_some] <;> rfl)|(simp [*,errW_none,errW_some] <;> rfl),by repeat (first|(with_reducible first|exact HB.out|apply bA|apply bN|apply bD|refine bS ?_ GE132.out)|exact HB.out)⟩

/-! ### bits_Mul64: function 52 -/
def bits_Mul64.f (a0:Int) (a1:Int):Option (Int × Int):=some (IntKind.u64.wrap ((IntKind.u64.wrap ((IntKind.u64.wrap ((a0 / 4294967296) * (a1 / 4294967296)))+((IntKind.u64.wrap ((IntKind.u64.wrap ((a0 / 4294967296) * (Go.bits .and .u64 a1 4294967295)))+((IntKind.u64.wrap ((Go.bits .and .u64 a0 4294967295) * (Go.bits .and .u64 a1 4294967295))) / 4294967296))) / 4294967296)))+((IntKind.u64.wrap ((Go.bits .and .u64 (IntKind.u64.wrap ((IntKind.u64.wrap ((a0 / 4294967296) * (Go.bits .and .u64 a1 4294967295)))+((IntKind.u64.wrap ((Go.bits .and .u64 a0 4294967295) * (Go.bits .and .u64 a1 4294967295))) / 4294967296))) 4294967295)+(IntKind.u64.wrap ((Go.bits .and .u64 a0 4294967295) * (a1 / 4294967296))))) / 4294967296)),IntKind.u64.wrap (a0 * a1))
set_option maxHeartbeats 8000000 in
set_option maxRecDepth 100000 in
theorem bits_Mul64.calls (a0:Int) (a1:Int) (r1:Int) (r2:Int) (w:World) (h:bits_Mul64.f a0 a1=some (r1,r2)) :
  Calls Try.prog 52 #[.int .u64 a0, .int .u64 a1] w fun e w'=>e=.returned (.tuple #[.int .u64 r1, .int .u64 r2])∧Drawn0 w w':=by
 have H:(some (IntKind.u64.wrap ((IntKind.u64.wrap ((IntKind.u64.wrap ((a0 / 4294967296) * (a1 / 4294967296)))+((IntKind.u64.wrap ((IntKind.u64.wrap ((a0 / 4294967296) * (Go.bits .and .u64 a1 4294967295)))+((IntKind.u64.wrap ((Go.bits .and .u64 a0 4294967295) * (Go.bits .and .u64 a1 4294967295))) / 4294967296))) / 4294967296)))+((IntKind.u64.wrap ((Go.bits .and .u64 (IntKind.u64.wrap ((IntKind.u64.wrap ((a0 / 4294967296) * (Go.bits .and .u64 a1 4294967295)))+((IntKind.u64.wrap ((Go.bits .and .u64 a0 4294967295) * (Go.bits .and .u64 a1 4294967295))) / 4294967296))) 4294967295)+(IntKind.u64.wrap ((Go.bits .and .u64 a0 4294967295) * (a1 / 4294967296))))) / 4294967296)),IntKind.u64.wrap (a0 * a1)))=some (r1,r2):=h
 clear h
 simp only [Option.some.injEq,Prod.mk.injEq] at H
 obtain ⟨rfl,rfl⟩:=H
 go_enter Try.func52,Try.ntmps52
 go_wp2
 go_ret2
 exact ⟨by first|rfl|(simp;done)|(simp [*];done),by repeat (first|exact Drawn0.refl _|apply Drawn0.step)⟩

end Go.Proofs.Ythnmmiofhjbkeaa.PA
