/- Walks of functions of the program: each does what its Lean function says. Written by a program of this session (wip/xprint), which runs the printer of the kit with changes. -/
import Derived.Test.YthnmmiofhjbkeaaPAx0
import Derived.Test.YthnmmiofhjbkeaaPAx3
import Derived.Test.YthnmmiofhjbkeaaPAx8
import Derived.Test.YthnmmiofhjbkeaaPAx13
import Derived.Test.YthnmmiofhjbkeaaPAx23
namespace Go.Proofs.Ythnmmiofhjbkeaa.PA
open Go.RowKit Go.Proofs.YthnmmiofhjbkeaaW.PrintWords Go.Proofs.YthnmmiofhjbkeaaW.PrintLast Go.Proofs.YthnmmiofhjbkeaaW.PrintMore
attribute [local go_sem] max2_int min2_int max_two min_two max_three min_three max_four min_four   -- for this text's walks alone
set_option linter.unusedVariables false
set_option linter.unusedSimpArgs false

/-! ### soundserviceref13_position: function 35 -/
def soundserviceref13_position.l0:Nat→Int→Int→List (S61)→Int→Int→List (S61)→Option (Int)
 | 0,_,_,_,_,_,_=>none
 | k+1,x1,x5,x12,x13,x14,x334000=>if x14 < x13 then (if 0≤x14 then (if x14 < (x12.length:Int) then (if ((rd_T61 x12 x14).f0) > x1 then (some x5) else (if (wrap64 (x14+1)) < (x334000.length:Int) then (if 0≤(wrap64 (x14+1)) then ((soundserviceref03_Floor.f k (wrap64 ((mn x1 ((rd_T61 x334000 (wrap64 (x14+1))).f0)) - ((rd_T61 x12 x14).f0))) ((rd_T61 x12 x14).f1.f0) ((rd_T61 x12 x14).f1.f1)).bind fun bt337=>(soundserviceref13_position.l0 k x1 (wrap64 (x5+bt337.1)) x12 x13 (wrap64 (x14+1)) x334000)) else (none)) else ((soundserviceref03_Floor.f k (wrap64 (x1 - ((rd_T61 x12 x14).f0))) ((rd_T61 x12 x14).f1.f0) ((rd_T61 x12 x14).f1.f1)).bind fun bt339=>(soundserviceref13_position.l0 k x1 (wrap64 (x5+bt339.1)) x12 x13 (wrap64 (x14+1)) x334000)))) else (none)) else (none)) else (some x5)
def soundserviceref13_position.f (k:Nat) (l0_0:List (S61)) (a1:Int):Option (Int):=soundserviceref13_position.l0 k a1 0 l0_0 (l0_0.length:Int) 0 l0_0
theorem soundserviceref13_position.mono_l:∀ k,(∀ y0 y1 y2 y3 y4 y5,LeO (soundserviceref13_position.l0 k y0 y1 y2 y3 y4 y5) (soundserviceref13_position.l0 (k+1) y0 y1 y2 y3 y4 y5))
 | 0=>fun _ _ _ _ _ _ r h=>by simp [soundserviceref13_position.l0] at h
 | k+1=>by
  have ih0:=soundserviceref13_position.mono_l k
  ·intro y0 y1 y2 y3 y4 y5
   unfold soundserviceref13_position.l0
   repeat' first
   | (with_reducible exact ih0 _ _ _ _ _ _)
   | (with_reducible exact soundserviceref03_Floor.mono _ _ _ _)
   | (with_reducible exact LeO.refl _)
   | (with_reducible exact LeO.none _)
   | (with_reducible refine LeO.ite ?_ ?_)
   | (with_reducible refine LeO.bind ?_ (fun _=>?_))
   | exact ih0 _ _ _ _ _ _
   | exact soundserviceref03_Floor.mono _ _ _ _
   | exact LeO.none _
   | refine LeO.ite ?_ ?_
   | refine LeO.bind ?_ (fun _=>?_)
theorem soundserviceref13_position.mono:∀ a0 a1 k,LeO (soundserviceref13_position.f k a0 a1) (soundserviceref13_position.f (k+1) a0 a1):=by
 intro a0 a1 k
 have ih0:=soundserviceref13_position.mono_l k
 unfold soundserviceref13_position.f
 repeat' first
   | (with_reducible exact ih0 _ _ _ _ _ _)
   | (with_reducible exact soundserviceref03_Floor.mono _ _ _ _)
   | (with_reducible exact LeO.refl _)
   | (with_reducible exact LeO.none _)
   | (with_reducible refine LeO.ite ?_ ?_)
   | (with_reducible refine LeO.bind ?_ (fun _=>?_))
   | exact ih0 _ _ _ _ _ _
   | exact soundserviceref03_Floor.mono _ _ _ _
   | exact LeO.none _
   | refine LeO.ite ?_ ?_
   | refine LeO.bind ?_ (fun _=>?_)
set_option maxHeartbeats 8000000 in
set_option maxRecDepth 100000 in
theorem soundserviceref13_position.calls (k:Nat) (A0_0:Option Addr) (c0_0:Nat) (l0_0:List (S61)) (a1:Int) (r:Int) (w:World) (hr0_0:Kd.C k61 w A0_0 l0_0.length l0_0) (hc0_0:l0_0.length≤c0_0) (h:soundserviceref13_position.f k l0_0 a1=some r) :
  Calls Try.prog 35 #[.agg #[.slice A0_0 l0_0.length c0_0], .int .i64 a1] w fun e w'=>e=.returned (.int .i64 r)∧Below w.heap.size w w':=by
 have hu24:=Try.underlying24
 have hu61:=Try.underlying61
 have hu27:=Try.underlying27
 have HR0_0:=Am hr0_0
 have HC0_0:=Am hc0_0
 clear hr0_0 hc0_0
 have HB:=Am (Below.refl w.heap.size w)
 have H:(soundserviceref13_position.l0 k a1 0 l0_0 (l0_0.length:Int) 0 l0_0)=some r:=h
 clear h
 have H':=Am H
 clear H
 go_enter Try.func35,Try.ntmps35
 go_wp2_with (first|((with_reducible refine gate_dst (N:=2) rfl ?_);refine box_event ?hg (N:=2) ?hd (cs:=#[.slice A0_0 l0_0.length c0_0]) (t:=24) ?hr ?_;(case hd=>rfl);(case hg=>rfl);(case hr=>first|(go_simp;done)|(go_simp;rfl));intro gb333 hg w3 hbox hb;have n0_:=Am (below_step (by repeat (first|(with_reducible first|exact HB.out|apply bA|apply bN|apply bD)|exact HB.out)) hb);have n1_:=Am (hbox);have n2_:=Am ((by rw [hg];exact (below_size (by repeat (first|(with_reducible first|exact HB.out|apply bA|apply bN|apply bD)|exact HB.out))):w.heap.size≤gb333));have n3_:=Am ((by rw [hg];exact (below_size (by repeat (first|(with_reducible first|exact HB.out|apply bA|apply bN|apply bD)|exact HB.out))):w.heap.size≤gb333));clear HB;have HB:=n0_;have BK333:=n1_;have GW333:=n2_;have GE333:=n3_;clear n0_ n1_ n2_ n3_ hb hbox hg;have hcz4_0:w3.cell? ⟨gb333,0,none⟩=some (.slice A0_0 l0_0.length c0_0):=(blk_cell BK333.out 0).trans rfl;have hfz4_0:=blk_frozen BK333.out 0))
 go_loopg [5,14] k (fun kq v5 v14 w'=>∃ (x5_1:Int) (x14_1:Int),v5=.int .i64 x5_1∧v14=.int .i64 x14_1∧Aside0 (soundserviceref13_position.l0 kq a1 x5_1 l0_0 (l0_0.length:Int) x14_1 l0_0=some r)∧Aside0 (kq≤k)∧Aside0 (w'.heap[gb333]?=some (.cells #[(.slice A0_0 l0_0.length c0_0)] 24 (0,0)))∧Aside0 (Below w.heap.size w w'))
 case atStart=>exact ⟨(0),(0),(by first|rfl|(simp;done)|(simp [*];done)),(by first|rfl|(simp;done)|(simp [*];done)),H',⟨Nat.le_refl _⟩,⟨by (with_reducible repeat first|apply kN|apply kD|apply kA);exact BK333.out⟩,⟨by repeat (first|(with_reducible first|exact HB.out|apply bA|apply bN|apply bD|refine bS ?_ GE333.out)|exact HB.out)⟩⟩
 case round =>
  clear H'
  (try clear p2);(try clear c3);(try clear hcz4_0);(try clear hfz4_0)
  obtain ⟨x5_1,x14_1,rfl,rfl,HA,HK1,BK333,HB⟩:=hrel
  cases gk with
  | zero=>exact absurd HA.out (by simp [soundserviceref13_position.l0])
  | succ k1 =>
   have H:=HA.out
   clear HA
   simp only [soundserviceref13_position.l0] at H
   by_cases c5:x14_1 < (l0_0.length:Int)
   ·rw [if_pos c5] at H
    have c5b0:decide (x14_1 < (l0_0.length:Int))=true:=decide_eq_true c5
    clear c5
    by_cases c6:0≤x14_1
    ·rw [if_pos c6] at H
     have c6b0:decide (0≤x14_1)=true:=decide_eq_true c6
     clear c6
     by_cases c7:x14_1 < (l0_0.length:Int)
     ·rw [if_pos c7] at H
      have c7b0:decide (x14_1 < (l0_0.length:Int))=true:=decide_eq_true c7
      clear c7
      by_cases c8:((rd_T61 l0_0 x14_1).f0) > a1
      ·rw [if_pos c8] at H
       have c8b0:decide (a1 < ((rd_T61 l0_0 x14_1).f0))=true:=decide_eq_true c8
       clear c8
       obtain rfl:=Option.some.inj H
       have p334:0≤(x14_1:Int):=of_decide_eq_true (by first|(with_reducible assumption)|assumption)
       have q334:x14_1 < (l0_0.length:Int):=of_decide_eq_true (by first|(with_reducible assumption)|assumption)
       obtain ⟨ad334,e334,hx334_0,hx334_1,hx334_2⟩:=at_T61 HR0_0.out x14_1 p334 q334
       cases e334
       replace hx334_0:=(HB.out.cell (World.block_lt_of_cell? w _ hx334_0)).trans hx334_0
       replace hx334_1:=(HB.out.cell (World.block_lt_of_cell? w _ hx334_1)).trans hx334_1
       replace hx334_2:=(HB.out.cell (World.block_lt_of_cell? w _ hx334_2)).trans hx334_2
       replace p334:=eq_true p334
       replace q334:=eq_true q334
       go_wp2_with (first|((with_reducible refine gate_dst (N:=7) rfl ?_);refine box_event ?hg (N:=7) ?hd (cs:=#[.int .i64 0, .int .i64 0, .int .i64 0]) (t:=61) ?hr ?_;(case hd=>rfl);(case hg=>rfl);(case hr=>first|(go_simp;done)|(go_simp;rfl));intro gb335 hg w9 hbox hb;have n0_:=Am (blk_below (g:=gb333) (o:=.cells #[.slice (some ad334) l0_0.length c0_0] 24 (0,0)) (by (with_reducible repeat first|apply kN|apply kD|apply kA);exact BK333.out) hb);have n1_:=Am (below_step (by repeat (first|(with_reducible first|exact HB.out|apply bA|apply bN|apply bD|refine bS ?_ GE333.out)|exact HB.out)) hb);have n2_:=Am (hbox);have n3_:=Am ((by rw [hg];exact (below_size (by repeat (first|(with_reducible first|exact HB.out|apply bA|apply bN|apply bD|refine bS ?_ GE333.out)|exact HB.out))):w.heap.size≤gb335));have n4_:=Am ((by rw [hg];exact (below_size (by repeat (first|(with_reducible first|exact HB.out|apply bA|apply bN|apply bD|refine bS ?_ GE333.out)|exact HB.out))):w.heap.size≤gb335));have n5_:=Am ((by rw [hg];exact Nat.ne_of_lt (blk_lt (g:=gb333) (o:=.cells #[.slice (some ad334) l0_0.length c0_0] 24 (0,0)) (by (with_reducible repeat first|apply kN|apply kD|apply kA);exact BK333.out)):gb333≠gb335));have n6_:=Am (n5_.out.symm);clear BK333 HB;have BK333:=n0_;have HB:=n1_;have BK335:=n2_;have GW335:=n3_;have GE335:=n4_;have NB333_335:=n5_;have NB335_333:=n6_;clear n0_ n1_ n2_ n3_ n4_ n5_ n6_ hb hbox hg;have hnb10:=NB335_333.out;have hnc10:=NB333_335.out;have hcz11_0:w9.cell? ⟨gb335,0,none⟩=some (.int .i64 0):=(blk_cell BK335.out 0).trans rfl;have hcz11_1:w9.cell? ⟨gb335,1,none⟩=some (.int .i64 0):=(blk_cell BK335.out 1).trans rfl;have hcz11_2:w9.cell? ⟨gb335,2,none⟩=some (.int .i64 0):=(blk_cell BK335.out 2).trans rfl;have hfz11_0:=blk_frozen BK335.out 0;have hfz11_1:=blk_frozen BK335.out 1;have hfz11_2:=blk_frozen BK335.out 2))
       go_ret
       exact ⟨by first|rfl|(simp [errW_none,errW_some] <;> rfl)|(simp [*,errW_none,errW_some] <;> rfl),by repeat (first|(with_reducible first|exact HB.out|apply bA|apply bN|apply bD|refine bS ?_ GE333.out|refine bS ?_ GE335.out)|exact HB.out)⟩
      ·rw [if_neg c8] at H
       have c8b0:decide (a1 < ((rd_T61 l0_0 x14_1).f0))=false:=decide_eq_false c8
       clear c8
       by_cases c12:(wrap64 (x14_1+1)) < (l0_0.length:Int)
       ·rw [if_pos c12] at H
        have c12b0:decide ((wrap64 (x14_1+1)) < (l0_0.length:Int))=true:=decide_eq_true c12
        clear c12
        obtain ⟨ji13,hji13⟩:∃ j_:Int,(wrap64 (x14_1+1))=j_:=⟨_,rfl⟩
        replace H:(if 0≤(ji13) then ((soundserviceref03_Floor.f k1 (wrap64 ((mn a1 ((rd_T61 l0_0 (ji13)).f0)) - ((rd_T61 l0_0 x14_1).f0))) ((rd_T61 l0_0 x14_1).f1.f0) ((rd_T61 l0_0 x14_1).f1.f1)).bind fun bt337=>(soundserviceref13_position.l0 k1 a1 (wrap64 (x5_1+bt337.1)) l0_0 (l0_0.length:Int) ji13 l0_0)) else (none))=some r:=by first|(rw [hji13] at H;exact H)|(simp only [hji13] at H ⊢;exact H)
        (try rw [hji13] at c12b0)
        have hji13w:(IntKind.i64.wrap (x14_1+1))=ji13:=(i64_w _).trans hji13
        by_cases c14:0≤(ji13)
        ·rw [if_pos c14] at H
         have c14b0:decide (0≤(ji13))=true:=decide_eq_true c14
         clear c14
         obtain ⟨ji15,hji15⟩:∃ j_:Int,(mn a1 ((rd_T61 l0_0 (ji13)).f0))=j_:=⟨_,rfl⟩
         replace H:((soundserviceref03_Floor.f k1 (wrap64 ((ji15) - ((rd_T61 l0_0 x14_1).f0))) ((rd_T61 l0_0 x14_1).f1.f0) ((rd_T61 l0_0 x14_1).f1.f1)).bind fun bt337=>(soundserviceref13_position.l0 k1 a1 (wrap64 (x5_1+bt337.1)) l0_0 (l0_0.length:Int) ji13 l0_0))=some r:=by first|(rw [hji15] at H;exact H)|(simp only [hji15] at H ⊢;exact H)
         have hji15_:(if ((rd_T61 l0_0 (ji13)).f0) < a1 then ((rd_T61 l0_0 (ji13)).f0) else a1)=ji15:=hji15
         replace H:=Option.bind_eq_some_iff.mp H
         obtain ⟨⟨t337,t338⟩,A160,H⟩:=H
         replace H:(soundserviceref13_position.l0 k1 a1 (wrap64 (x5_1+t337)) l0_0 (l0_0.length:Int) ji13 l0_0)=some r:=H
         have A16:=Am A160
         clear A160
         have H':=Am H
         clear H
         have p334:0≤(x14_1:Int):=of_decide_eq_true (by first|(with_reducible assumption)|assumption)
         have q334:x14_1 < (l0_0.length:Int):=of_decide_eq_true (by first|(with_reducible assumption)|assumption)
         obtain ⟨ad334,e334,hx334_0,hx334_1,hx334_2⟩:=at_T61 HR0_0.out x14_1 p334 q334
         cases e334
         replace hx334_0:=(HB.out.cell (World.block_lt_of_cell? w _ hx334_0)).trans hx334_0
         replace hx334_1:=(HB.out.cell (World.block_lt_of_cell? w _ hx334_1)).trans hx334_1
         replace hx334_2:=(HB.out.cell (World.block_lt_of_cell? w _ hx334_2)).trans hx334_2
         replace p334:=eq_true p334
         replace q334:=eq_true q334
         go_wp2_with (first|((with_reducible refine gate_dst (N:=7) rfl ?_);refine box_event ?hg (N:=7) ?hd (cs:=#[.int .i64 0, .int .i64 0, .int .i64 0]) (t:=61) ?hr ?_;(case hd=>rfl);(case hg=>rfl);(case hr=>first|(go_simp;done)|(go_simp;rfl));intro gb335 hg w17 hbox hb;have n0_:=Am (blk_below (g:=gb333) (o:=.cells #[.slice (some ad334) l0_0.length c0_0] 24 (0,0)) (by (with_reducible repeat first|apply kN|apply kD|apply kA);exact BK333.out) hb);have n1_:=Am (below_step (by repeat (first|(with_reducible first|exact HB.out|apply bA|apply bN|apply bD|refine bS ?_ GE333.out)|exact HB.out)) hb);have n2_:=Am (hbox);have n3_:=Am ((by rw [hg];exact (below_size (by repeat (first|(with_reducible first|exact HB.out|apply bA|apply bN|apply bD|refine bS ?_ GE333.out)|exact HB.out))):w.heap.size≤gb335));have n4_:=Am ((by rw [hg];exact (below_size (by repeat (first|(with_reducible first|exact HB.out|apply bA|apply bN|apply bD|refine bS ?_ GE333.out)|exact HB.out))):w.heap.size≤gb335));have n5_:=Am ((by rw [hg];exact Nat.ne_of_lt (blk_lt (g:=gb333) (o:=.cells #[.slice (some ad334) l0_0.length c0_0] 24 (0,0)) (by (with_reducible repeat first|apply kN|apply kD|apply kA);exact BK333.out)):gb333≠gb335));have n6_:=Am (n5_.out.symm);clear BK333 HB;have BK333:=n0_;have HB:=n1_;have BK335:=n2_;have GW335:=n3_;have GE335:=n4_;have NB333_335:=n5_;have NB335_333:=n6_;clear n0_ n1_ n2_ n3_ n4_ n5_ n6_ hb hbox hg;have hnb18:=NB335_333.out;have hnc18:=NB333_335.out;have hcz19_0:w17.cell? ⟨gb335,0,none⟩=some (.int .i64 0):=(blk_cell BK335.out 0).trans rfl;have hcz19_1:w17.cell? ⟨gb335,1,none⟩=some (.int .i64 0):=(blk_cell BK335.out 1).trans rfl;have hcz19_2:w17.cell? ⟨gb335,2,none⟩=some (.int .i64 0):=(blk_cell BK335.out 2).trans rfl;have hfz19_0:=blk_frozen BK335.out 0;have hfz19_1:=blk_frozen BK335.out 1;have hfz19_2:=blk_frozen BK335.out 2;have hcz20_0:w17.cell? ⟨gb333,0,none⟩=some (.slice (some ad334) l0_0.length c0_0):=(blk_cell BK333.out 0).trans rfl;have hfz20_0:=blk_frozen BK333.out 0;have p336:0≤((ji13):Int):=of_decide_eq_true (by first|(with_reducible assumption)|assumption);have q336:(ji13) < (l0_0.length:Int):=of_decide_eq_true (by first|(with_reducible assumption)|assumption);obtain ⟨ad336,e336,hx336_0,hx336_1,hx336_2⟩:=at_T61 HR0_0.out (ji13) p336 q336;obtain rfl:ad334=ad336:=(by injection e336);have hn336_0:ad334.block≠gb335:=Nat.ne_of_lt (Nat.lt_of_lt_of_le (by have:=World.block_lt_of_cell? _ _ hx336_0;first|rwa [add_block] at this|exact this) GW335.out);have hn336_1:ad334.block≠gb335:=Nat.ne_of_lt (Nat.lt_of_lt_of_le (by have:=World.block_lt_of_cell? _ _ hx336_0;first|rwa [add_block] at this|exact this) GW335.out);have hn336_2:ad334.block≠gb335:=Nat.ne_of_lt (Nat.lt_of_lt_of_le (by have:=World.block_lt_of_cell? _ _ hx336_0;first|rwa [add_block] at this|exact this) GW335.out);replace hx336_0:=(HB.out.cell (World.block_lt_of_cell? w _ hx336_0)).trans hx336_0;replace hx336_1:=(HB.out.cell (World.block_lt_of_cell? w _ hx336_1)).trans hx336_1;replace hx336_2:=(HB.out.cell (World.block_lt_of_cell? w _ hx336_2)).trans hx336_2;replace hx336_0:=(cell_far (p:=⟨gb335,0,none⟩) (by first|(rw [add_block];exact hn336_0)|(show (Addr.add _ _).block≠_;rw [add_block];exact hn336_0)|exact hn336_0) (.int .i64 ((rd_T61 l0_0 x14_1).f0))).trans hx336_0;replace hx336_1:=(cell_far (p:=⟨gb335,0,none⟩) (by first|(rw [add_block];exact hn336_0)|(show (Addr.add _ _).block≠_;rw [add_block];exact hn336_0)|exact hn336_0) (.int .i64 ((rd_T61 l0_0 x14_1).f0))).trans hx336_1;replace hx336_2:=(cell_far (p:=⟨gb335,0,none⟩) (by first|(rw [add_block];exact hn336_0)|(show (Addr.add _ _).block≠_;rw [add_block];exact hn336_0)|exact hn336_0) (.int .i64 ((rd_T61 l0_0 x14_1).f0))).trans hx336_2;replace hx336_0:=(cell_far (p:=⟨gb335,1,none⟩) (by first|(rw [add_block];exact hn336_1)|(show (Addr.add _ _).block≠_;rw [add_block];exact hn336_1)|exact hn336_1) (.int .i64 ((rd_T61 l0_0 x14_1).f1.f0))).trans hx336_0;replace hx336_1:=(cell_far (p:=⟨gb335,1,none⟩) (by first|(rw [add_block];exact hn336_1)|(show (Addr.add _ _).block≠_;rw [add_block];exact hn336_1)|exact hn336_1) (.int .i64 ((rd_T61 l0_0 x14_1).f1.f0))).trans hx336_1;replace hx336_2:=(cell_far (p:=⟨gb335,1,none⟩) (by first|(rw [add_block];exact hn336_1)|(show (Addr.add _ _).block≠_;rw [add_block];exact hn336_1)|exact hn336_1) (.int .i64 ((rd_T61 l0_0 x14_1).f1.f0))).trans hx336_2;replace hx336_0:=(cell_far (p:=⟨gb335,2,none⟩) (by first|(rw [add_block];exact hn336_2)|(show (Addr.add _ _).block≠_;rw [add_block];exact hn336_2)|exact hn336_2) (.int .i64 ((rd_T61 l0_0 x14_1).f1.f1))).trans hx336_0;replace hx336_1:=(cell_far (p:=⟨gb335,2,none⟩) (by first|(rw [add_block];exact hn336_2)|(show (Addr.add _ _).block≠_;rw [add_block];exact hn336_2)|exact hn336_2) (.int .i64 ((rd_T61 l0_0 x14_1).f1.f1))).trans hx336_1;replace hx336_2:=(cell_far (p:=⟨gb335,2,none⟩) (by first|(rw [add_block];exact hn336_2)|(show (Addr.add _ _).block≠_;rw [add_block];exact hn336_2)|exact hn336_2) (.int .i64 ((rd_T61 l0_0 x14_1).f1.f1))).trans hx336_2;clear hn336_0 hn336_1 hn336_2;replace p336:=eq_true p336;replace q336:=eq_true q336)|((with_reducible refine gate_callee (f:=46) rfl ?_);refine goesL_ (some 46) rfl rfl Try.func46 (by kernel_rfl) rfl #[.int .i64 (wrap64 ((ji15) - ((rd_T61 l0_0 x14_1).f0))), .agg #[.int .i64 ((rd_T61 l0_0 x14_1).f1.f0), .int .i64 ((rd_T61 l0_0 x14_1).f1.f1)]] rfl (by (try simp only [List.map_toArray,List.map_cons,List.map_nil]);first|done|(simp only [hji15];rfl)|rfl|(simp only [List.length_drop,List.length_take];rfl)) ?_;(with_reducible refine (soundserviceref03_Floor.calls k1 (wrap64 ((ji15) - ((rd_T61 l0_0 x14_1).f0))) ((rd_T61 l0_0 x14_1).f1.f0) ((rd_T61 l0_0 x14_1).f1.f1) t337 t338 _ A16.out).mono ?_);rintro e w21 ⟨rfl,hb⟩;refine ⟨_,rfl,?_⟩;have n0_:=Am (blk_below (g:=gb333) (o:=.cells #[.slice (some ad334) l0_0.length c0_0] 24 (0,0)) (by (with_reducible repeat first|apply kN|apply kD|apply kA);refine blk_far ?_ NB333_335.out _;(with_reducible repeat first|apply kN|apply kD|apply kA);refine blk_far ?_ NB333_335.out _;(with_reducible repeat first|apply kN|apply kD|apply kA);refine blk_far ?_ NB333_335.out _;(with_reducible repeat first|apply kN|apply kD|apply kA);exact BK333.out) hb);have n1_:=Am (blk_below (g:=gb335) (o:=.cells #[.int .i64 ((rd_T61 l0_0 x14_1).f0), .int .i64 ((rd_T61 l0_0 x14_1).f1.f0), .int .i64 ((rd_T61 l0_0 x14_1).f1.f1)] 61 (0,0)) (by (with_reducible repeat first|apply kN|apply kD|apply kA);refine blk_put (cs:=#[.int .i64 ((rd_T61 l0_0 x14_1).f0), .int .i64 ((rd_T61 l0_0 x14_1).f1.f0), .int .i64 0]) ?_ 2 _ rfl;(with_reducible repeat first|apply kN|apply kD|apply kA);refine blk_put (cs:=#[.int .i64 ((rd_T61 l0_0 x14_1).f0), .int .i64 0, .int .i64 0]) ?_ 1 _ rfl;(with_reducible repeat first|apply kN|apply kD|apply kA);refine blk_put (cs:=#[.int .i64 0, .int .i64 0, .int .i64 0]) ?_ 0 _ rfl;(with_reducible repeat first|apply kN|apply kD|apply kA);exact BK335.out) hb);have n2_:=Am (below_step (by repeat (first|(with_reducible first|exact HB.out|apply bA|apply bN|apply bD|refine bS ?_ GE333.out|refine bS ?_ GE335.out)|exact HB.out)) hb);clear BK333 BK335 HB;have BK333:=n0_;have BK335:=n1_;have HB:=n2_;clear n0_ n1_ n2_;(try clear hb)))
         go_roundg k1
         case measure=>have:=HK1.out;omega
         case rel=>exact ⟨(wrap64 (x5_1+t337)),(ji13),(by first|rfl|(simp;done)|(simp [*];done)),(by first|rfl|(simp;done)|(simp only [← hji13] <;> (first|rfl|simp))|(simp [*];done)),H',⟨by have:=HK1.out;omega⟩,⟨by (with_reducible repeat first|apply kN|apply kD|apply kA);exact BK333.out⟩,⟨by repeat (first|(with_reducible first|exact HB.out|apply bA|apply bN|apply bD|refine bS ?_ GE333.out|refine bS ?_ GE335.out)|exact HB.out)⟩⟩
        ·rw [if_neg c14] at H
         exact absurd H (by simp)
       ·rw [if_neg c12] at H
        have c12b0:decide ((wrap64 (x14_1+1)) < (l0_0.length:Int))=false:=decide_eq_false c12
        clear c12
        replace H:=Option.bind_eq_some_iff.mp H
        obtain ⟨⟨t339,t340⟩,A220,H⟩:=H
        replace H:(soundserviceref13_position.l0 k1 a1 (wrap64 (x5_1+t339)) l0_0 (l0_0.length:Int) (wrap64 (x14_1+1)) l0_0)=some r:=H
        have A22:=Am A220
        clear A220
        have H':=Am H
        clear H
        have p334:0≤(x14_1:Int):=of_decide_eq_true (by first|(with_reducible assumption)|assumption)
        have q334:x14_1 < (l0_0.length:Int):=of_decide_eq_true (by first|(with_reducible assumption)|assumption)
        obtain ⟨ad334,e334,hx334_0,hx334_1,hx334_2⟩:=at_T61 HR0_0.out x14_1 p334 q334
        cases e334
        replace hx334_0:=(HB.out.cell (World.block_lt_of_cell? w _ hx334_0)).trans hx334_0
        replace hx334_1:=(HB.out.cell (World.block_lt_of_cell? w _ hx334_1)).trans hx334_1
        replace hx334_2:=(HB.out.cell (World.block_lt_of_cell? w _ hx334_2)).trans hx334_2
        replace p334:=eq_true p334
        replace q334:=eq_true q334
        go_wp2_with (first|((with_reducible refine gate_dst (N:=7) rfl ?_);refine box_event ?hg (N:=7) ?hd (cs:=#[.int .i64 0, .int .i64 0, .int .i64 0]) (t:=61) ?hr ?_;(case hd=>rfl);(case hg=>rfl);(case hr=>first|(go_simp;done)|(go_simp;rfl));intro gb335 hg w23 hbox hb;have n0_:=Am (blk_below (g:=gb333) (o:=.cells #[.slice (some ad334) l0_0.length c0_0] 24 (0,0)) (by (with_reducible repeat first|apply kN|apply kD|apply kA);exact BK333.out) hb);have n1_:=Am (below_step (by repeat (first|(with_reducible first|exact HB.out|apply bA|apply bN|apply bD|refine bS ?_ GE333.out)|exact HB.out)) hb);have n2_:=Am (hbox);have n3_:=Am ((by rw [hg];exact (below_size (by repeat (first|(with_reducible first|exact HB.out|apply bA|apply bN|apply bD|refine bS ?_ GE333.out)|exact HB.out))):w.heap.size≤gb335));have n4_:=Am ((by rw [hg];exact (below_size (by repeat (first|(with_reducible first|exact HB.out|apply bA|apply bN|apply bD|refine bS ?_ GE333.out)|exact HB.out))):w.heap.size≤gb335));have n5_:=Am ((by rw [hg];exact Nat.ne_of_lt (blk_lt (g:=gb333) (o:=.cells #[.slice (some ad334) l0_0.length c0_0] 24 (0,0)) (by (with_reducible repeat first|apply kN|apply kD|apply kA);exact BK333.out)):gb333≠gb335));have n6_:=Am (n5_.out.symm);clear BK333 HB;have BK333:=n0_;have HB:=n1_;have BK335:=n2_;have GW335:=n3_;have GE335:=n4_;have NB333_335:=n5_;have NB335_333:=n6_;clear n0_ n1_ n2_ n3_ n4_ n5_ n6_ hb hbox hg;have hnb24:=NB335_333.out;have hnc24:=NB333_335.out;have hcz25_0:w23.cell? ⟨gb335,0,none⟩=some (.int .i64 0):=(blk_cell BK335.out 0).trans rfl;have hcz25_1:w23.cell? ⟨gb335,1,none⟩=some (.int .i64 0):=(blk_cell BK335.out 1).trans rfl;have hcz25_2:w23.cell? ⟨gb335,2,none⟩=some (.int .i64 0):=(blk_cell BK335.out 2).trans rfl;have hfz25_0:=blk_frozen BK335.out 0;have hfz25_1:=blk_frozen BK335.out 1;have hfz25_2:=blk_frozen BK335.out 2;have hcz26_0:w23.cell? ⟨gb333,0,none⟩=some (.slice (some ad334) l0_0.length c0_0):=(blk_cell BK333.out 0).trans rfl;have hfz26_0:=blk_frozen BK333.out 0)|((with_reducible refine gate_callee (f:=46) rfl ?_);refine goesL_ (some 46) rfl rfl Try.func46 (by kernel_rfl) rfl #[.int .i64 (wrap64 (a1 - ((rd_T61 l0_0 x14_1).f0))), .agg #[.int .i64 ((rd_T61 l0_0 x14_1).f1.f0), .int .i64 ((rd_T61 l0_0 x14_1).f1.f1)]] rfl (by (try simp only [List.map_toArray,List.map_cons,List.map_nil]);first|done|rfl|(simp only [List.length_drop,List.length_take];rfl)) ?_;(with_reducible refine (soundserviceref03_Floor.calls k1 (wrap64 (a1 - ((rd_T61 l0_0 x14_1).f0))) ((rd_T61 l0_0 x14_1).f1.f0) ((rd_T61 l0_0 x14_1).f1.f1) t339 t340 _ A22.out).mono ?_);rintro e w27 ⟨rfl,hb⟩;refine ⟨_,rfl,?_⟩;have n0_:=Am (blk_below (g:=gb333) (o:=.cells #[.slice (some ad334) l0_0.length c0_0] 24 (0,0)) (by (with_reducible repeat first|apply kN|apply kD|apply kA);refine blk_far ?_ NB333_335.out _;(with_reducible repeat first|apply kN|apply kD|apply kA);refine blk_far ?_ NB333_335.out _;(with_reducible repeat first|apply kN|apply kD|apply kA);refine blk_far ?_ NB333_335.out _;(with_reducible repeat first|apply kN|apply kD|apply kA);exact BK333.out) hb);have n1_:=Am (blk_below (g:=gb335) (o:=.cells #[.int .i64 ((rd_T61 l0_0 x14_1).f0), .int .i64 ((rd_T61 l0_0 x14_1).f1.f0), .int .i64 ((rd_T61 l0_0 x14_1).f1.f1)] 61 (0,0)) (by (with_reducible repeat first|apply kN|apply kD|apply kA);refine blk_put (cs:=#[.int .i64 ((rd_T61 l0_0 x14_1).f0), .int .i64 ((rd_T61 l0_0 x14_1).f1.f0), .int .i64 0]) ?_ 2 _ rfl;(with_reducible repeat first|apply kN|apply kD|apply kA);refine blk_put (cs:=#[.int .i64 ((rd_T61 l0_0 x14_1).f0), .int .i64 0, .int .i64 0]) ?_ 1 _ rfl;(with_reducible repeat first|apply kN|apply kD|apply kA);refine blk_put (cs:=#[.int .i64 0, .int .i64 0, .int .i64 0]) ?_ 0 _ rfl;(with_reducible repeat first|apply kN|apply kD|apply kA);exact BK335.out) hb);have n2_:=Am (below_step (by repeat (first|(with_reducible first|exact HB.out|apply bA|apply bN|apply bD|refine bS ?_ GE333.out|refine bS ?_ GE335.out)|exact HB.out)) hb);clear BK333 BK335 HB;have BK333:=n0_;have BK335:=n1_;have HB:=n2_;clear n0_ n1_ n2_;(try clear hb)))
        go_roundg k1
        case measure=>have:=HK1.out;omega
        case rel=>exact ⟨(wrap64 (x5_1+t339)),(wrap64 (x14_1+1)),(by first|rfl|(simp;done)|(simp [*];done)),(by first|rfl|(simp;done)|(simp [*];done)),H',⟨by have:=HK1.out;omega⟩,⟨by (with_reducible repeat first|apply kN|apply kD|apply kA);exact BK333.out⟩,⟨by repeat (first|(with_reducible first|exact HB.out|apply bA|apply bN|apply bD|refine bS ?_ GE333.out|refine bS ?_ GE335.out)|exact HB.out)⟩⟩
     ·rw [if_neg c7] at H
      exact absurd H (by simp)
    ·rw [if_neg c6] at H
     exact absurd H (by simp)
   ·rw [if_neg c5] at H
    have c5b0:decide (x14_1 < (l0_0.length:Int))=false:=decide_eq_false c5
    clear c5
    obtain rfl:=Option.some.inj H
    go_wp2
    go_ret
    exact ⟨by first|rfl|(simp [errW_none,errW_some] <;> rfl)|(simp [*,errW_none,errW_some] <;> rfl),by repeat (first|(with_reducible first|exact HB.out|apply bA|apply bN|apply bD|refine bS ?_ GE333.out)|exact HB.out)⟩

/-! ### soundserviceref13_Position: function 23 -/
def soundserviceref13_Position.f (k:Nat) (l0_0:List (S61)) (a1:Int):Option (Int × Int):=(soundserviceref13_Valid.f k l0_0).bind fun t342=>(if t342=true then (if a1 < 0 then (some (0,2)) else (if a1 > 1099511627776 then (some (0,2)) else ((soundserviceref13_position.f k l0_0 a1).bind fun t343=>(some (t343,0))))) else (some (0,1)))
theorem soundserviceref13_Position.mono:∀ a0 a1 k,LeO (soundserviceref13_Position.f k a0 a1) (soundserviceref13_Position.f (k+1) a0 a1):=by
 intro a0 a1 k
 unfold soundserviceref13_Position.f
 repeat' first
   | (with_reducible exact soundserviceref13_Valid.mono _ _)
   | (with_reducible exact soundserviceref13_position.mono _ _ _)
   | (with_reducible exact LeO.refl _)
   | (with_reducible exact LeO.none _)
   | (with_reducible refine LeO.ite ?_ ?_)
   | (with_reducible refine LeO.bind ?_ (fun _=>?_))
   | exact soundserviceref13_Valid.mono _ _
   | exact soundserviceref13_position.mono _ _ _
   | exact LeO.none _
   | refine LeO.ite ?_ ?_
   | refine LeO.bind ?_ (fun _=>?_)
set_option maxHeartbeats 8000000 in
set_option maxRecDepth 100000 in
theorem soundserviceref13_Position.calls (k:Nat) (A0_0:Option Addr) (c0_0:Nat) (l0_0:List (S61)) (a1:Int) (r1:Int) (r2:Int) (w:World) (hr0_0:Kd.C k61 w A0_0 l0_0.length l0_0) (hc0_0:l0_0.length≤c0_0) (h:soundserviceref13_Position.f k l0_0 a1=some (r1,r2)) :
  Calls Try.prog 23 #[.agg #[.slice A0_0 l0_0.length c0_0], .int .i64 a1] w fun e w'=>e=.returned (.tuple #[.int .i64 r1, .int .i64 r2])∧Below w.heap.size w w':=by
 have hu24:=Try.underlying24
 have HR0_0:=Am hr0_0
 have HC0_0:=Am hc0_0
 clear hr0_0 hc0_0
 have HB:=Am (Below.refl w.heap.size w)
 have H:((soundserviceref13_Valid.f k l0_0).bind fun t342=>(if t342=true then (if a1 < 0 then (some (0,2)) else (if a1 > 1099511627776 then (some (0,2)) else ((soundserviceref13_position.f k l0_0 a1).bind fun t343=>(some (t343,0))))) else (some (0,1))))=some (r1,r2):=h
 clear h
 replace H:=Option.bind_eq_some_iff.mp H
 obtain ⟨t342,A30,H⟩:=H
 replace H:(if t342=true then (if a1 < 0 then (some (0,2)) else (if a1 > 1099511627776 then (some (0,2)) else ((soundserviceref13_position.f k l0_0 a1).bind fun t343=>(some (t343,0))))) else (some (0,1)))=some (r1,r2):=H
 have A3:=Am A30
 clear A30
 by_cases c4:t342=true
 ·subst c4
  have H1:(if a1 < 0 then (some (0,2)) else (if a1 > 1099511627776 then (some (0,2)) else ((soundserviceref13_position.f k l0_0 a1).bind fun t343=>(some (t343,0)))))=some (r1,r2):=by rw [if_pos rfl] at H;exact H
  clear H;have H:=H1;clear H1
  by_cases c5:a1 < 0
  ·rw [if_pos c5] at H
   have c5b0:decide (a1 < 0)=true:=decide_eq_true c5
   clear c5
   simp only [Option.some.injEq,Prod.mk.injEq] at H
   obtain ⟨rfl,rfl⟩:=H
   go_enter Try.func23,Try.ntmps23
   go_wp2_with (first|((with_reducible refine gate_dst (N:=2) rfl ?_);refine box_event ?hg (N:=2) ?hd (cs:=#[.slice A0_0 l0_0.length c0_0]) (t:=24) ?hr ?_;(case hd=>rfl);(case hg=>rfl);(case hr=>first|(go_simp;done)|(go_simp;rfl));intro gb341 hg w6 hbox hb;have n0_:=Am (below_step (by repeat (first|(with_reducible first|exact HB.out|apply bA|apply bN|apply bD)|exact HB.out)) hb);have n1_:=Am (hbox);have n2_:=Am ((by rw [hg];exact (below_size (by repeat (first|(with_reducible first|exact HB.out|apply bA|apply bN|apply bD)|exact HB.out))):w.heap.size≤gb341));have n3_:=Am ((by rw [hg];exact (below_size (by repeat (first|(with_reducible first|exact HB.out|apply bA|apply bN|apply bD)|exact HB.out))):w.heap.size≤gb341));clear HB;have HB:=n0_;have BK341:=n1_;have GW341:=n2_;have GE341:=n3_;clear n0_ n1_ n2_ n3_ hb hbox hg;have hcz7_0:w6.cell? ⟨gb341,0,none⟩=some (.slice A0_0 l0_0.length c0_0):=(blk_cell BK341.out 0).trans rfl;have hfz7_0:=blk_frozen BK341.out 0)|((with_reducible refine gate_callee (f:=18) rfl ?_);refine goesL_ (some 7) rfl rfl Try.func18 (by kernel_rfl) rfl #[.agg #[.slice A0_0 l0_0.length c0_0]] rfl (by (try simp only [List.map_toArray,List.map_cons,List.map_nil]);first|done|rfl|(simp only [List.length_drop,List.length_take];rfl)) ?_;(with_reducible refine (soundserviceref13_Valid.calls k _ _ l0_0 true _ ?side1 ?side2 A3.out).mono ?_);(case side1=>repeat (first|exact (Kd.C_below HR0_0.out HB.out)|(with_reducible refine Kd.C_alloc ?_ _)|(with_reducible refine Kd.C_drewN ?_ _)|(with_reducible refine Kd.C_drew ?_)));(case side2=>exact HC0_0.out);rintro e w8 ⟨rfl,hb⟩;refine ⟨_,rfl,?_⟩;have n0_:=Am (blk_below (g:=gb341) (o:=.cells #[.slice A0_0 l0_0.length c0_0] 24 (0,0)) (by (with_reducible repeat first|apply kN|apply kD|apply kA);exact BK341.out) hb);have n1_:=Am (below_step (by repeat (first|(with_reducible first|exact HB.out|apply bA|apply bN|apply bD|refine bS ?_ GE341.out)|exact HB.out)) hb);clear BK341 HB;have BK341:=n0_;have HB:=n1_;clear n0_ n1_;(try clear hb)))
   go_ret2
   exact ⟨by first|rfl|(simp [errW_none,errW_some] <;> rfl)|(simp [*,errW_none,errW_some] <;> rfl),by repeat (first|(with_reducible first|exact HB.out|apply bA|apply bN|apply bD|refine bS ?_ GE341.out)|exact HB.out)⟩
  ·rw [if_neg c5] at H
   have c5b0:decide (a1 < 0)=false:=decide_eq_false c5
   clear c5
   by_cases c9:a1 > 1099511627776
   ·rw [if_pos c9] at H
    have c9b0:decide (1099511627776 < a1)=true:=decide_eq_true c9
    clear c9
    simp only [Option.some.injEq,Prod.mk.injEq] at H
    obtain ⟨rfl,rfl⟩:=H
    go_enter Try.func23,Try.ntmps23
    go_wp2_with (first|((with_reducible refine gate_dst (N:=2) rfl ?_);refine box_event ?hg (N:=2) ?hd (cs:=#[.slice A0_0 l0_0.length c0_0]) (t:=24) ?hr ?_;(case hd=>rfl);(case hg=>rfl);(case hr=>first|(go_simp;done)|(go_simp;rfl));intro gb341 hg w10 hbox hb;have n0_:=Am (below_step (by repeat (first|(with_reducible first|exact HB.out|apply bA|apply bN|apply bD)|exact HB.out)) hb);have n1_:=Am (hbox);have n2_:=Am ((by rw [hg];exact (below_size (by repeat (first|(with_reducible first|exact HB.out|apply bA|apply bN|apply bD)|exact HB.out))):w.heap.size≤gb341));have n3_:=Am ((by rw [hg];exact (below_size (by repeat (first|(with_reducible first|exact HB.out|apply bA|apply bN|apply bD)|exact HB.out))):w.heap.size≤gb341));clear HB;have HB:=n0_;have BK341:=n1_;have GW341:=n2_;have GE341:=n3_;clear n0_ n1_ n2_ n3_ hb hbox hg;have hcz11_0:w10.cell? ⟨gb341,0,none⟩=some (.slice A0_0 l0_0.length c0_0):=(blk_cell BK341.out 0).trans rfl;have hfz11_0:=blk_frozen BK341.out 0)|((with_reducible refine gate_callee (f:=18) rfl ?_);refine goesL_ (some 7) rfl rfl Try.func18 (by kernel_rfl) rfl #[.agg #[.slice A0_0 l0_0.length c0_0]] rfl (by (try simp only [List.map_toArray,List.map_cons,List.map_nil]);first|done|rfl|(simp only [List.length_drop,List.length_take];rfl)) ?_;(with_reducible refine (soundserviceref13_Valid.calls k _ _ l0_0 true _ ?side1 ?side2 A3.out).mono ?_);(case side1=>repeat (first|exact (Kd.C_below HR0_0.out HB.out)|(with_reducible refine Kd.C_alloc ?_ _)|(with_reducible refine Kd.C_drewN ?_ _)|(with_reducible refine Kd.C_drew ?_)));(case side2=>exact HC0_0.out);rintro e w12 ⟨rfl,hb⟩;refine ⟨_,rfl,?_⟩;have n0_:=Am (blk_below (g:=gb341) (o:=.cells #[.slice A0_0 l0_0.length c0_0] 24 (0,0)) (by (with_reducible repeat first|apply kN|apply kD|apply kA);exact BK341.out) hb);have n1_:=Am (below_step (by repeat (first|(with_reducible first|exact HB.out|apply bA|apply bN|apply bD|refine bS ?_ GE341.out)|exact HB.out)) hb);clear BK341 HB;have BK341:=n0_;have HB:=n1_;clear n0_ n1_;(try clear hb)))
    go_ret2
    exact ⟨by first|rfl|(simp [errW_none,errW_some] <;> rfl)|(simp [*,errW_none,errW_some] <;> rfl),by repeat (first|(with_reducible first|exact HB.out|apply bA|apply bN|apply bD|refine bS ?_ GE341.out)|exact HB.out)⟩
   ·rw [if_neg c9] at H
    have c9b0:decide (1099511627776 < a1)=false:=decide_eq_false c9
    clear c9
    replace H:=Option.bind_eq_some_iff.mp H
    obtain ⟨t343,A130,H⟩:=H
    replace H:(some (t343,0))=some (r1,r2):=H
    have A13:=Am A130
    clear A130
    simp only [Option.some.injEq,Prod.mk.injEq] at H
    obtain ⟨rfl,rfl⟩:=H
    go_enter Try.func23,Try.ntmps23
    go_wp2_with (first|((with_reducible refine gate_dst (N:=2) rfl ?_);refine box_event ?hg (N:=2) ?hd (cs:=#[.slice A0_0 l0_0.length c0_0]) (t:=24) ?hr ?_;(case hd=>rfl);(case hg=>rfl);(case hr=>first|(go_simp;done)|(go_simp;rfl));intro gb341 hg w14 hbox hb;have n0_:=Am (below_step (by repeat (first|(with_reducible first|exact HB.out|apply bA|apply bN|apply bD)|exact HB.out)) hb);have n1_:=Am (hbox);have n2_:=Am ((by rw [hg];exact (below_size (by repeat (first|(with_reducible first|exact HB.out|apply bA|apply bN|apply bD)|exact HB.out))):w.heap.size≤gb341));have n3_:=Am ((by rw [hg];exact (below_size (by repeat (first|(with_reducible first|exact HB.out|apply bA|apply bN|apply bD)|exact HB.out))):w.heap.size≤gb341));clear HB;have HB:=n0_;have BK341:=n1_;have GW341:=n2_;have GE341:=n3_;clear n0_ n1_ n2_ n3_ hb hbox hg;have hcz15_0:w14.cell? ⟨gb341,0,none⟩=some (.slice A0_0 l0_0.length c0_0):=(blk_cell BK341.out 0).trans rfl;have hfz15_0:=blk_frozen BK341.out 0)|((with_reducible refine gate_callee (f:=18) rfl ?_);refine goesL_ (some 7) rfl rfl Try.func18 (by kernel_rfl) rfl #[.agg #[.slice A0_0 l0_0.length c0_0]] rfl (by (try simp only [List.map_toArray,List.map_cons,List.map_nil]);first|done|rfl|(simp only [List.length_drop,List.length_take];rfl)) ?_;(with_reducible refine (soundserviceref13_Valid.calls k _ _ l0_0 true _ ?side1 ?side2 A3.out).mono ?_);(case side1=>repeat (first|exact (Kd.C_below HR0_0.out HB.out)|(with_reducible refine Kd.C_alloc ?_ _)|(with_reducible refine Kd.C_drewN ?_ _)|(with_reducible refine Kd.C_drew ?_)));(case side2=>exact HC0_0.out);rintro e w16 ⟨rfl,hb⟩;refine ⟨_,rfl,?_⟩;have n0_:=Am (blk_below (g:=gb341) (o:=.cells #[.slice A0_0 l0_0.length c0_0] 24 (0,0)) (by (with_reducible repeat first|apply kN|apply kD|apply kA);exact BK341.out) hb);have n1_:=Am (below_step (by repeat (first|(with_reducible first|exact HB.out|apply bA|apply bN|apply bD|refine bS ?_ GE341.out)|exact HB.out)) hb);clear BK341 HB;have BK341:=n0_;have HB:=n1_;clear n0_ n1_;(try clear hb);have hcz17_0:w16.cell? ⟨gb341,0,none⟩=some (.slice A0_0 l0_0.length c0_0):=(blk_cell BK341.out 0).trans rfl;have hfz17_0:=blk_frozen BK341.out 0)|((with_reducible refine gate_callee (f:=35) rfl ?_);refine goesL_ (some 17) rfl rfl Try.func35 (by kernel_rfl) rfl #[.agg #[.slice A0_0 l0_0.length c0_0], .int .i64 a1] rfl (by (try simp only [List.map_toArray,List.map_cons,List.map_nil]);first|done|rfl|(simp only [List.length_drop,List.length_take];rfl)) ?_;(with_reducible refine (soundserviceref13_position.calls k _ _ l0_0 a1 t343 _ ?side1 ?side2 A13.out).mono ?_);(case side1=>repeat (first|exact (Kd.C_below HR0_0.out HB.out)|(with_reducible refine Kd.C_alloc ?_ _)|(with_reducible refine Kd.C_drewN ?_ _)|(with_reducible refine Kd.C_drew ?_)));(case side2=>exact HC0_0.out);rintro e w18 ⟨rfl,hb⟩;refine ⟨_,rfl,?_⟩;have n0_:=Am (blk_below (g:=gb341) (o:=.cells #[.slice A0_0 l0_0.length c0_0] 24 (0,0)) (by (with_reducible repeat first|apply kN|apply kD|apply kA);exact BK341.out) hb);have n1_:=Am (below_step (by repeat (first|(with_reducible first|exact HB.out|apply bA|apply bN|apply bD|refine bS ?_ GE341.out)|exact HB.out)) hb);clear BK341 HB;have BK341:=n0_;have HB:=n1_;clear n0_ n1_;(try clear hb)))
    go_ret2
    exact ⟨by first|rfl|(simp [errW_none,errW_some] <;> rfl)|(simp [*,errW_none,errW_some] <;> rfl),by repeat (first|(with_reducible first|exact HB.out|apply bA|apply bN|apply bD|refine bS ?_ GE341.out)|exact HB.out)⟩
 ·replace c4:=Bool.eq_false_iff.mpr c4
  subst c4
  have H1:(some (0,1))=some (r1,r2):=by rw [if_neg (show ¬ (false=true) by decide)] at H;exact H
  clear H;have H:=H1;clear H1
  simp only [Option.some.injEq,Prod.mk.injEq] at H
  obtain ⟨rfl,rfl⟩:=H
  go_enter Try.func23,Try.ntmps23
  go_wp2_with (first|((with_reducible refine gate_dst (N:=2) rfl ?_);refine box_event ?hg (N:=2) ?hd (cs:=#[.slice A0_0 l0_0.length c0_0]) (t:=24) ?hr ?_;(case hd=>rfl);(case hg=>rfl);(case hr=>first|(go_simp;done)|(go_simp;rfl));intro gb341 hg w19 hbox hb;have n0_:=Am (below_step (by repeat (first|(with_reducible first|exact HB.out|apply bA|apply bN|apply bD)|exact HB.out)) hb);have n1_:=Am (hbox);have n2_:=Am ((by rw [hg];exact (below_size (by repeat (first|(with_reducible first|exact HB.out|apply bA|apply bN|apply bD)|exact HB.out))):w.heap.size≤gb341));have n3_:=Am ((by rw [hg];exact (below_size (by repeat (first|(with_reducible first|exact HB.out|apply bA|apply bN|apply bD)|exact HB.out))):w.heap.size≤gb341));clear HB;have HB:=n0_;have BK341:=n1_;have GW341:=n2_;have GE341:=n3_;clear n0_ n1_ n2_ n3_ hb hbox hg;have hcz20_0:w19.cell? ⟨gb341,0,none⟩=some (.slice A0_0 l0_0.length c0_0):=(blk_cell BK341.out 0).trans rfl;have hfz20_0:=blk_frozen BK341.out 0)|((with_reducible refine gate_callee (f:=18) rfl ?_);refine goesL_ (some 7) rfl rfl Try.func18 (by kernel_rfl) rfl #[.agg #[.slice A0_0 l0_0.length c0_0]] rfl (by (try simp only [List.map_toArray,List.map_cons,List.map_nil]);first|done|rfl|(simp only [List.length_drop,List.length_take];rfl)) ?_;(with_reducible refine (soundserviceref13_Valid.calls k _ _ l0_0 false _ ?side1 ?side2 A3.out).mono ?_);(case side1=>repeat (first|exact (Kd.C_below HR0_0.out HB.out)|(with_reducible refine Kd.C_alloc ?_ _)|(with_reducible refine Kd.C_drewN ?_ _)|(with_reducible refine Kd.C_drew ?_)));(case side2=>exact HC0_0.out);rintro e w21 ⟨rfl,hb⟩;refine ⟨_,rfl,?_⟩;have n0_:=Am (blk_below (g:=gb341) (o:=.cells #[.slice A0_0 l0_0.length c0_0] 24 (0,0)) (by (with_reducible repeat first|apply kN|apply kD|apply kA);exact BK341.out) hb);have n1_:=Am (below_step (by repeat (first|(with_reducible first|exact HB.out|apply bA|apply bN|apply bD|refine bS ?_ GE341.out)|exact HB.out)) hb);clear BK341 HB;have BK341:=n0_;have HB:=n1_;clear n0_ n1_;(try clear hb)))
  go_ret2
  exact ⟨by first|rfl|(simp [errW_none,errW_some] <;> rfl)|(simp [*,errW_none,errW_some] <;> rfl),by repeat (first|(with_reducible first|exact HB.out|apply bA|apply bN|apply bD|refine bS ?_ GE341.out)|exact HB.out)⟩

/-! ### clock_Between: function 24 -/
def clock_Between.j0:Nat→Int→Int→Bool→List (S61)→Option (Int × Int)
 | 0,_,_,_,_=>none
 | k+1,x1,x2,x12,x345000=>if x12=true then (some (0,2)) else ((clock_position.f k x345000 x2).bind fun t346=>((clock_position.f k x345000 x1).bind fun t347=>(some (wrap64 (t346 - t347),0))))
def clock_Between.f (k:Nat) (l0_0:List (S61)) (a1:Int) (a2:Int):Option (Int × Int):=(clock_Valid.f k l0_0).bind fun t345=>(if t345=true then (if a1 < 0 then (clock_Between.j0 k a1 a2 true l0_0) else (if a2 > 1099511627776 then (clock_Between.j0 k a1 a2 true l0_0) else (clock_Between.j0 k a1 a2 (decide (a2 < a1)) l0_0))) else (some (0,1)))
theorem clock_Between.mono_l:∀ k,(∀ y0 y1 y2 y3,LeO (clock_Between.j0 k y0 y1 y2 y3) (clock_Between.j0 (k+1) y0 y1 y2 y3))
 | 0=>fun _ _ _ _ r h=>by simp [clock_Between.j0] at h
 | k+1=>by
  have ih0:=clock_Between.mono_l k
  ·intro y0 y1 y2 y3
   unfold clock_Between.j0
   repeat' first
   | (with_reducible exact ih0 _ _ _ _)
   | (with_reducible exact clock_Valid.mono _ _)
   | (with_reducible exact clock_position.mono _ _ _)
   | (with_reducible exact LeO.refl _)
   | (with_reducible exact LeO.none _)
   | (with_reducible refine LeO.ite ?_ ?_)
   | (with_reducible refine LeO.bind ?_ (fun _=>?_))
   | exact ih0 _ _ _ _
   | exact clock_Valid.mono _ _
   | exact clock_position.mono _ _ _
   | exact LeO.none _
   | refine LeO.ite ?_ ?_
   | refine LeO.bind ?_ (fun _=>?_)
theorem clock_Between.mono:∀ a0 a1 a2 k,LeO (clock_Between.f k a0 a1 a2) (clock_Between.f (k+1) a0 a1 a2):=by
 intro a0 a1 a2 k
 have ih0:=clock_Between.mono_l k
 unfold clock_Between.f
 repeat' first
   | (with_reducible exact ih0 _ _ _ _)
   | (with_reducible exact clock_Valid.mono _ _)
   | (with_reducible exact clock_position.mono _ _ _)
   | (with_reducible exact LeO.refl _)
   | (with_reducible exact LeO.none _)
   | (with_reducible refine LeO.ite ?_ ?_)
   | (with_reducible refine LeO.bind ?_ (fun _=>?_))
   | exact ih0 _ _ _ _
   | exact clock_Valid.mono _ _
   | exact clock_position.mono _ _ _
   | exact LeO.none _
   | refine LeO.ite ?_ ?_
   | refine LeO.bind ?_ (fun _=>?_)
def clock_Between.T5:Bool × List (List Nat × List Nat):=(true, [([], []),([], []),([0,1], [0,1]),([], []),([], []),([3,4,2], [3,4]),([2,5], [2,5]),([6,5,0,1,2,3,4,5,6], [6]),([7,0,1,2,3,4,5,6,7], [])])
def clock_Between.B5:List Nat:=[0,0,3,0,0,31,63,127,255]
theorem clock_Between.tab5:rtab .any (opsOf Try.f24 5)=clock_Between.T5:=by kernel_rfl
theorem clock_Between.bits5:waitsOk clock_Between.T5.2 clock_Between.B5=true:=by kernel_rfl
abbrev clock_Between.q0:Array Bool:=#[false,false,false,false,false,false,false,false,false]
abbrev clock_Between.q1:Array Bool:=#[false,true,false,false,false,false,false,false,false]
abbrev clock_Between.q2:Array Bool:=#[false,true,false,false,true,false,false,false,false]
abbrev clock_Between.q3:Array Bool:=#[true,true,false,false,true,false,false,false,false]
abbrev clock_Between.q4:Array Bool:=#[true,true,false,true,true,false,false,false,false]
set_option maxHeartbeats 8000000 in
set_option maxRecDepth 100000 in
theorem clock_Between.calls (k:Nat) (A0_0:Option Addr) (c0_0:Nat) (l0_0:List (S61)) (a1:Int) (a2:Int) (r1:Int) (r2:Int) (w:World) (hr0_0:Kd.C k61 w A0_0 l0_0.length l0_0) (hc0_0:l0_0.length≤c0_0) (h:clock_Between.f k l0_0 a1 a2=some (r1,r2)) :
  Calls Try.prog 24 #[.agg #[.slice A0_0 l0_0.length c0_0], .int .i64 a1, .int .i64 a2] w fun e w'=>e=.returned (.tuple #[.int .i64 r1, .int .i64 r2])∧Below w.heap.size w w':=by
 have hu24:=Try.underlying24
 have HR0_0:=Am hr0_0
 have HC0_0:=Am hc0_0
 clear hr0_0 hc0_0
 have HB:=Am (Below.refl w.heap.size w)
 have H:((clock_Valid.f k l0_0).bind fun t345=>(if t345=true then (if a1 < 0 then (clock_Between.j0 k a1 a2 true l0_0) else (if a2 > 1099511627776 then (clock_Between.j0 k a1 a2 true l0_0) else (clock_Between.j0 k a1 a2 (decide (a2 < a1)) l0_0))) else (some (0,1))))=some (r1,r2):=h
 clear h
 replace H:=Option.bind_eq_some_iff.mp H
 obtain ⟨t345,A40,H⟩:=H
 replace H:(if t345=true then (if a1 < 0 then (clock_Between.j0 k a1 a2 true l0_0) else (if a2 > 1099511627776 then (clock_Between.j0 k a1 a2 true l0_0) else (clock_Between.j0 k a1 a2 (decide (a2 < a1)) l0_0))) else (some (0,1)))=some (r1,r2):=H
 have A4:=Am A40
 clear A40
 by_cases c5:t345=true
 ·subst c5
  have H1:(if a1 < 0 then (clock_Between.j0 k a1 a2 true l0_0) else (if a2 > 1099511627776 then (clock_Between.j0 k a1 a2 true l0_0) else (clock_Between.j0 k a1 a2 (decide (a2 < a1)) l0_0)))=some (r1,r2):=by rw [if_pos rfl] at H;exact H
  clear H;have H:=H1;clear H1
  have HC6:=Am H
  clear H
  go_enter Try.func24,Try.ntmps24
  go_upto_region 3 with (first|((with_reducible refine gate_dst (N:=3) rfl ?_);refine box_event ?hg (N:=3) ?hd (cs:=#[.slice A0_0 l0_0.length c0_0]) (t:=24) ?hr ?_;(case hd=>rfl);(case hg=>rfl);(case hr=>first|(go_simp;done)|(go_simp;rfl));intro gb344 hg w7 hbox hb;have n0_:=Am (below_step (by repeat (first|(with_reducible first|exact HB.out|apply bA|apply bN|apply bD)|exact HB.out)) hb);have n1_:=Am (hbox);have n2_:=Am ((by rw [hg];exact (below_size (by repeat (first|(with_reducible first|exact HB.out|apply bA|apply bN|apply bD)|exact HB.out))):w.heap.size≤gb344));have n3_:=Am ((by rw [hg];exact (below_size (by repeat (first|(with_reducible first|exact HB.out|apply bA|apply bN|apply bD)|exact HB.out))):w.heap.size≤gb344));clear HB;have HB:=n0_;have BK344:=n1_;have GW344:=n2_;have GE344:=n3_;clear n0_ n1_ n2_ n3_ hb hbox hg;have hcz8_0:w7.cell? ⟨gb344,0,none⟩=some (.slice A0_0 l0_0.length c0_0):=(blk_cell BK344.out 0).trans rfl;have hfz8_0:=blk_frozen BK344.out 0)|((with_reducible refine gate_callee (f:=17) rfl ?_);refine goesL_ (some 10) rfl rfl Try.func17 (by kernel_rfl) rfl #[.agg #[.slice A0_0 l0_0.length c0_0]] rfl (by (try simp only [List.map_toArray,List.map_cons,List.map_nil]);first|done|rfl|(simp only [List.length_drop,List.length_take];rfl)) ?_;(with_reducible refine (clock_Valid.calls k _ _ l0_0 true _ ?side1 ?side2 A4.out).mono ?_);(case side1=>repeat (first|exact (Kd.C_below HR0_0.out HB.out)|(with_reducible refine Kd.C_alloc ?_ _)|(with_reducible refine Kd.C_drewN ?_ _)|(with_reducible refine Kd.C_drew ?_)));(case side2=>exact HC0_0.out);rintro e w9 ⟨rfl,hb⟩;refine ⟨_,rfl,?_⟩;have n0_:=Am (blk_below (g:=gb344) (o:=.cells #[.slice A0_0 l0_0.length c0_0] 24 (0,0)) (by (with_reducible repeat first|apply kN|apply kD|apply kA);exact BK344.out) hb);have n1_:=Am (below_step (by repeat (first|(with_reducible first|exact HB.out|apply bA|apply bN|apply bD|refine bS ?_ GE344.out)|exact HB.out)) hb);clear BK344 HB;have BK344:=n0_;have HB:=n1_;clear n0_ n1_;(try clear hb)))
  (try simp only [pL])
  go_cut [12] (fun v12 wc=>∃ (kq:Nat) (x12_5:Bool),v12=.bool x12_5∧Aside0 (clock_Between.j0 kq a1 a2 x12_5 l0_0=some (r1,r2))∧Aside0 (kq≤k)∧Aside0 (wc.heap[gb344]?=some (.cells #[(.slice A0_0 l0_0.length c0_0)] 24 (0,0)))∧Aside0 (Below w.heap.size w wc))
  case first =>
   have H:=HC6.out
   clear HC6
   by_cases c10:a1 < 0
   ·rw [if_pos c10] at H
    have c10b0:decide (a1 < 0)=true:=decide_eq_true c10
    clear c10
    (first|rw [c10b0]|(simp only [i64_w,i32_w];rw [c10b0])|skip)
    have H':=Am H
    clear H
    go_wp2
    go_meet
    case rel=>exact ⟨_,(true),(by first|rfl|(simp;done)|(simp [*];done)),H',⟨by first|omega|exact Nat.le_refl _⟩,⟨by (with_reducible repeat first|apply kN|apply kD|apply kA);exact BK344.out⟩,⟨by repeat (first|(with_reducible first|exact HB.out|apply bA|apply bN|apply bD|refine bS ?_ GE344.out)|exact HB.out)⟩⟩
   ·rw [if_neg c10] at H
    have c10b0:decide (a1 < 0)=false:=decide_eq_false c10
    clear c10
    (first|rw [c10b0]|(simp only [i64_w,i32_w];rw [c10b0])|skip)
    by_cases c11:a2 > 1099511627776
    ·rw [if_pos c11] at H
     have c11b0:decide (1099511627776 < a2)=true:=decide_eq_true c11
     clear c11
     have H':=Am H
     clear H
     go_wp2
     go_meet
     case rel=>exact ⟨_,(true),(by first|rfl|(simp;done)|(simp [*];done)),H',⟨by first|omega|exact Nat.le_refl _⟩,⟨by (with_reducible repeat first|apply kN|apply kD|apply kA);exact BK344.out⟩,⟨by repeat (first|(with_reducible first|exact HB.out|apply bA|apply bN|apply bD|refine bS ?_ GE344.out)|exact HB.out)⟩⟩
    ·rw [if_neg c11] at H
     have c11b0:decide (1099511627776 < a2)=false:=decide_eq_false c11
     clear c11
     have H':=Am H
     clear H
     go_wp2
     go_meet
     case rel=>exact ⟨_,(decide (a2 < a1)),(by first|rfl|(simp;done)|(simp [*];done)),H',⟨by first|omega|exact Nat.le_refl _⟩,⟨by (with_reducible repeat first|apply kN|apply kD|apply kA);exact BK344.out⟩,⟨by repeat (first|(with_reducible first|exact HB.out|apply bA|apply bN|apply bD|refine bS ?_ GE344.out)|exact HB.out)⟩⟩
  case rest =>
   clear HC6;(try clear c1);(try clear c2);(try clear p2);(try clear c5);(try clear c10);(try clear c10b0);(try clear c11);(try clear c11b0);(try clear hcz8_0);(try clear hfz8_0)
   obtain ⟨kq,x12_5,rfl,HA,HJ5,BK344,HB⟩:=hcut
   cases kq with
   | zero=>exact absurd HA.out (by simp [clock_Between.j0])
   | succ kj5 =>
    have H:=HA.out
    clear HA
    simp only [clock_Between.j0] at H
    by_cases c12:x12_5=true
    ·subst c12
     have H1:(some (0,2))=some (r1,r2):=by rw [if_pos rfl] at H;exact H
     clear H;have H:=H1;clear H1
     simp only [Option.some.injEq,Prod.mk.injEq] at H
     obtain ⟨rfl,rfl⟩:=H
     go_wp2
     go_ret2
     exact ⟨by first|rfl|(simp [errW_none,errW_some] <;> rfl)|(simp [*,errW_none,errW_some] <;> rfl),by repeat (first|(with_reducible first|exact HB.out|apply bA|apply bN|apply bD|refine bS ?_ GE344.out)|exact HB.out)⟩
    ·replace c12:=Bool.eq_false_iff.mpr c12
     subst c12
     have H1:((clock_position.f kj5 l0_0 a2).bind fun t346=>((clock_position.f kj5 l0_0 a1).bind fun t347=>(some (wrap64 (t346 - t347),0))))=some (r1,r2):=by rw [if_neg (show ¬ (false=true) by decide)] at H;exact H
     clear H;have H:=H1;clear H1
     replace H:=Option.bind_eq_some_iff.mp H
     obtain ⟨t346,A130,H⟩:=H
     replace H:((clock_position.f kj5 l0_0 a1).bind fun t347=>(some (wrap64 (t346 - t347),0)))=some (r1,r2):=H
     have A13:=Am A130
     clear A130
     replace H:=Option.bind_eq_some_iff.mp H
     obtain ⟨t347,A140,H⟩:=H
     replace H:(some (wrap64 (t346 - t347),0))=some (r1,r2):=H
     have A14:=Am A140
     clear A140
     simp only [Option.some.injEq,Prod.mk.injEq] at H
     obtain ⟨rfl,rfl⟩:=H
     try go_wp2
     have n0_:=Am (kD BK344.out)
     have n1_:=Am (bD HB.out)
     clear BK344 HB;have BK344:=n0_;have HB:=n1_;clear n0_ n1_
     refine start_ (n:=9) (S:=fun w'=>w'.cell? ⟨gb344,0,none⟩=some (.slice A0_0 l0_0.length c0_0)) (ds:=[]) clock_Between.q0 (by kernel_rfl) rfl rfl ((blk_cell BK344.out 0).trans rfl) (fun hHeld=>?_);refine with_tabW clock_Between.tab5 clock_Between.bits5 (fun HT_ HW_=>?_)
     generalize wc.drew=w15 at BK344 HB hHeld ⊢
     refine pure_ (i:=1) (N:=some 25) (v:=?_) (a':=?_) clock_Between.q1 rfl rfl (any_of HT_.out (by kernel_rfl)) (fun _ _ _ h=>h) (Or.inl ⟨by rfl,?_⟩) ?_ ?_
     rotate_left;(· intro w';go_simp;with_reducible rfl);rotate_left;(· simp only [pL,i64_w,i32_w];rfl)
     refine pure_ (i:=4) (N:=some 28) (v:=?_) (a':=?_) clock_Between.q2 rfl rfl (any_of HT_.out (by kernel_rfl)) (fun _ _ _ h=>h) (Or.inl ⟨by rfl,?_⟩) ?_ ?_
     rotate_left;(· intro w';go_simp;with_reducible rfl);rotate_left;(· simp only [pL,i64_w,i32_w];rfl)
     refine take_ (i:=0) (N:=some 24) (v:=?_) (a':=?_) clock_Between.q3 rfl rfl (take_ofW HT_.out HW_.out (by kernel_rfl)) (fun _ _ _ h=>h) (Or.inl ⟨by rfl,?_⟩) hHeld ?_ ?_
     rotate_left
     ·intro w' s0
      go_simp
      with_reducible rfl
     rotate_left
     ·simp only [pL,i64_w,i32_w]
      rfl
     refine take_ (i:=3) (N:=some 27) (v:=?_) (a':=?_) clock_Between.q4 rfl rfl (take_ofW HT_.out HW_.out (by kernel_rfl)) (fun _ _ _ h=>h) (Or.inl ⟨by rfl,?_⟩) hHeld ?_ ?_
     rotate_left
     ·intro w' s0
      go_simp
      with_reducible rfl
     rotate_left
     ·simp only [pL,i64_w,i32_w]
      rfl
     refine one_ (i:=2) (N:=some 26) #[true,true,true,true,true,false,false,false,false] rfl rfl (one_of HT_.out (by kernel_rfl)) (by decide) (fun K hK=>?_)
     refine goes_ Try.func33 (by kernel_rfl) rfl #[.agg #[.slice A0_0 l0_0.length c0_0], .int .i64 a2] (by rfl) rfl rfl (by (try simp only [List.map_toArray,List.map_cons,List.map_nil]);first|done|rfl|(simp only [List.length_drop,List.length_take];rfl)) ?_
     with_reducible refine (clock_position.calls kj5 _ _ l0_0 a2 t346 _ ?side1 ?side2 A13.out).mono ?_
     (case side1=>repeat (first|exact (Kd.C_below HR0_0.out HB.out)|(with_reducible refine Kd.C_alloc ?_ _)|(with_reducible refine Kd.C_drewN ?_ _)|(with_reducible refine Kd.C_drew ?_)))
     (case side2=>exact HC0_0.out)
     rintro e w16 ⟨rfl,hb⟩
     refine ⟨_,rfl,?_⟩
     have n0_:=Am (blk_below (g:=gb344) (o:=.cells #[.slice A0_0 l0_0.length c0_0] 24 (0,0)) (by (with_reducible repeat first|apply kN|apply kD|apply kA);exact BK344.out) hb)
     have n1_:=Am (below_step (by repeat (first|(with_reducible first|exact HB.out|apply bA|apply bN|apply bD|refine bS ?_ GE344.out)|exact HB.out)) hb)
     clear BK344 HB;have BK344:=n0_;have HB:=n1_;clear n0_ n1_;(try clear hb)
     refine hK.out _ _ ((blk_cell BK344.out 0).trans rfl) (fun hHeld=>?_)
     clear hK K
     refine norm_ (a':=?_) ?_ ?_
     rotate_left
     ·show Act.put _ (some 26) _=_
      simp only [pL,i64_w,i32_w]
      rfl
     refine one_ (i:=5) (N:=some 29) #[true,true,true,true,true,true,false,false,false] rfl rfl (one_of HT_.out (by kernel_rfl)) (by decide) (fun K hK=>?_)
     refine goes_ Try.func33 (by kernel_rfl) rfl #[.agg #[.slice A0_0 l0_0.length c0_0], .int .i64 a1] (by rfl) rfl rfl (by (try simp only [List.map_toArray,List.map_cons,List.map_nil]);first|done|rfl|(simp only [List.length_drop,List.length_take];rfl)) ?_
     with_reducible refine (clock_position.calls kj5 _ _ l0_0 a1 t347 _ ?side1 ?side2 A14.out).mono ?_
     (case side1=>repeat (first|exact (Kd.C_below HR0_0.out HB.out)|(with_reducible refine Kd.C_alloc ?_ _)|(with_reducible refine Kd.C_drewN ?_ _)|(with_reducible refine Kd.C_drew ?_)))
     (case side2=>exact HC0_0.out)
     rintro e w17 ⟨rfl,hb⟩
     refine ⟨_,rfl,?_⟩
     have n0_:=Am (blk_below (g:=gb344) (o:=.cells #[.slice A0_0 l0_0.length c0_0] 24 (0,0)) (by (with_reducible repeat first|apply kN|apply kD|apply kA);exact BK344.out) hb)
     have n1_:=Am (below_step (by repeat (first|(with_reducible first|exact HB.out|apply bA|apply bN|apply bD|refine bS ?_ GE344.out)|exact HB.out)) hb)
     clear BK344 HB;have BK344:=n0_;have HB:=n1_;clear n0_ n1_;(try clear hb)
     refine hK.out _ _ ((blk_cell BK344.out 0).trans rfl) (fun hHeld=>?_)
     clear hK K
     refine norm_ (a':=?_) ?_ ?_
     rotate_left
     ·show Act.put _ (some 29) _=_
      simp only [pL,i64_w,i32_w]
      rfl
     refine pure_ (i:=6) (N:=some 30) (v:=?_) (a':=?_) #[true,true,true,true,true,true,true,false,false] rfl rfl (any_of HT_.out (by kernel_rfl)) (fun _ _ _ h=>h) (Or.inl ⟨by rfl,?_⟩) ?_ ?_
     rotate_left;(· intro w';go_simp;with_reducible rfl);rotate_left;(· simp only [pL,i64_w,i32_w];rfl)
     refine pure_ (i:=7) (N:=some 6) (v:=?_) (a':=?_) #[true,true,true,true,true,true,true,true,false] rfl rfl (any_of HT_.out (by kernel_rfl)) (fun _ _ _ h=>h) (Or.inl ⟨by rfl,?_⟩) ?_ ?_
     rotate_left;(· intro w';go_simp;with_reducible rfl);rotate_left;(· simp only [pL,i64_w,i32_w];rfl)
     refine pure_ (i:=8) (N:=some 7) (v:=?_) (a':=?_) #[true,true,true,true,true,true,true,true,true] rfl rfl (any_of HT_.out (by kernel_rfl)) (fun _ _ _ h=>h) (Or.inl ⟨by rfl,?_⟩) ?_ ?_
     rotate_left;(· intro w';go_simp;with_reducible rfl);rotate_left;(· simp only [pL,i64_w,i32_w];rfl)
     refine done_ (done_of HT_.out (by kernel_rfl)) ?_
     try go_wp2
     go_ret2
     exact ⟨by first|rfl|(simp [errW_none,errW_some] <;> rfl)|(simp [*,errW_none,errW_some] <;> rfl),by repeat (first|(with_reducible first|exact HB.out|apply bA|apply bN|apply bD|refine bS ?_ GE344.out)|exact HB.out)⟩
 ·replace c5:=Bool.eq_false_iff.mpr c5
  subst c5
  have H1:(some (0,1))=some (r1,r2):=by rw [if_neg (show ¬ (false=true) by decide)] at H;exact H
  clear H;have H:=H1;clear H1
  simp only [Option.some.injEq,Prod.mk.injEq] at H
  obtain ⟨rfl,rfl⟩:=H
  go_enter Try.func24,Try.ntmps24
  go_wp2_with (first|((with_reducible refine gate_dst (N:=3) rfl ?_);refine box_event ?hg (N:=3) ?hd (cs:=#[.slice A0_0 l0_0.length c0_0]) (t:=24) ?hr ?_;(case hd=>rfl);(case hg=>rfl);(case hr=>first|(go_simp;done)|(go_simp;rfl));intro gb344 hg w18 hbox hb;have n0_:=Am (below_step (by repeat (first|(with_reducible first|exact HB.out|apply bA|apply bN|apply bD)|exact HB.out)) hb);have n1_:=Am (hbox);have n2_:=Am ((by rw [hg];exact (below_size (by repeat (first|(with_reducible first|exact HB.out|apply bA|apply bN|apply bD)|exact HB.out))):w.heap.size≤gb344));have n3_:=Am ((by rw [hg];exact (below_size (by repeat (first|(with_reducible first|exact HB.out|apply bA|apply bN|apply bD)|exact HB.out))):w.heap.size≤gb344));clear HB;have HB:=n0_;have BK344:=n1_;have GW344:=n2_;have GE344:=n3_;clear n0_ n1_ n2_ n3_ hb hbox hg;have hcz19_0:w18.cell? ⟨gb344,0,none⟩=some (.slice A0_0 l0_0.length c0_0):=(blk_cell BK344.out 0).trans rfl;have hfz19_0:=blk_frozen BK344.out 0)|((with_reducible refine gate_callee (f:=17) rfl ?_);refine goesL_ (some 10) rfl rfl Try.func17 (by kernel_rfl) rfl #[.agg #[.slice A0_0 l0_0.length c0_0]] rfl (by (try simp only [List.map_toArray,List.map_cons,List.map_nil]);first|done|rfl|(simp only [List.length_drop,List.length_take];rfl)) ?_;(with_reducible refine (clock_Valid.calls k _ _ l0_0 false _ ?side1 ?side2 A4.out).mono ?_);(case side1=>repeat (first|exact (Kd.C_below HR0_0.out HB.out)|(with_reducible refine Kd.C_alloc ?_ _)|(with_reducible refine Kd.C_drewN ?_ _)|(with_reducible refine Kd.C_drew ?_)));(case side2=>exact HC0_0.out);rintro e w20 ⟨rfl,hb⟩;refine ⟨_,rfl,?_⟩;have n0_:=Am (blk_below (g:=gb344) (o:=.cells #[.slice A0_0 l0_0.length c0_0] 24 (0,0)) (by (with_reducible repeat first|apply kN|apply kD|apply kA);exact BK344.out) hb);have n1_:=Am (below_step (by repeat (first|(with_reducible first|exact HB.out|apply bA|apply bN|apply bD|refine bS ?_ GE344.out)|exact HB.out)) hb);clear BK344 HB;have BK344:=n0_;have HB:=n1_;clear n0_ n1_;(try clear hb)))
  go_ret2
  exact ⟨by first|rfl|(simp [errW_none,errW_some] <;> rfl)|(simp [*,errW_none,errW_some] <;> rfl),by repeat (first|(with_reducible first|exact HB.out|apply bA|apply bN|apply bD|refine bS ?_ GE344.out)|exact HB.out)⟩

end Go.Proofs.Ythnmmiofhjbkeaa.PA
