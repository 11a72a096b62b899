/- Walks of functions of the program: each does what its Lean function says. Written by a program of this session (wip/xprint), which runs the printer of the kit with changes. -/
import Derived.Test.YthnmmiofhjbkeaaPAx0
import Derived.Test.YthnmmiofhjbkeaaPAx1
import Derived.Test.YthnmmiofhjbkeaaPAx13
namespace Go.Proofs.Ythnmmiofhjbkeaa.PA
open Go.RowKit Go.Proofs.YthnmmiofhjbkeaaW.PrintWords Go.Proofs.YthnmmiofhjbkeaaW.PrintLast Go.Proofs.YthnmmiofhjbkeaaW.PrintMore
attribute [local go_sem] max2_int min2_int max_two min_two max_three min_three max_four min_four   -- for this text's walks alone
set_option linter.unusedVariables false
set_option linter.unusedSimpArgs false

attribute [local go_sem high] eqA61
/-! ### soundserviceref13_New: function 12 -/
def soundserviceref13_New.f (k:Nat) (a0_0:Int) (a0_1:Int):Option ((List (S61)) × Int):=(some (([(⟨0,(⟨a0_0,a0_1⟩:S27)⟩:S61)]:List (S61)):List (S61))).bind fun y203=>((soundserviceref13_Valid.f k y203).bind fun t207=>(if t207=true then (some (y203,0)) else (some (([]:List (S61)),1))))
theorem soundserviceref13_New.mono:∀ a0 a1 k,LeO (soundserviceref13_New.f k a0 a1) (soundserviceref13_New.f (k+1) a0 a1):=by
 intro a0 a1 k
 unfold soundserviceref13_New.f
 repeat' first
   | (with_reducible exact soundserviceref13_Valid.mono _ _)
   | (with_reducible exact LeO.refl _)
   | (with_reducible exact LeO.none _)
   | (with_reducible refine LeO.ite ?_ ?_)
   | (with_reducible refine LeO.bind ?_ (fun _=>?_))
   | exact soundserviceref13_Valid.mono _ _
   | exact LeO.none _
   | refine LeO.ite ?_ ?_
   | refine LeO.bind ?_ (fun _=>?_)
set_option maxHeartbeats 8000000 in
set_option maxRecDepth 100000 in
theorem soundserviceref13_New.calls (k:Nat) (a0_0:Int) (a0_1:Int) (r1:List (S61)) (r2:Int) (w:World) (h:soundserviceref13_New.f k a0_0 a0_1=some (r1,r2)) :
  Calls Try.prog 12 #[.agg #[.int .i64 a0_0, .int .i64 a0_1]] w fun e w'=>∃ v0_:Value,e=.returned (.tuple #[.agg #[v0_], .int .i64 r2])∧Kd.R k61 61 w' w.heap.size (fun _=>True) v0_ r1∧Below w.heap.size w w':=by
 have hu27:=Try.underlying27
 have hu24:=Try.underlying24
 have hu61:=Try.underlying61
 have HB:=Am (Below.refl w.heap.size w)
 have H:((some (([(⟨0,(⟨a0_0,a0_1⟩:S27)⟩:S61)]:List (S61)):List (S61))).bind fun y203=>((soundserviceref13_Valid.f k y203).bind fun t207=>(if t207=true then (some (y203,0)) else (some (([]:List (S61)),1)))))=some (r1,r2):=h
 clear h
 obtain ⟨y203,hy203⟩:∃ y_:List (S61),y_=(([(⟨0,(⟨a0_0,a0_1⟩:S27)⟩:S61)]:List (S61))):=⟨_,rfl⟩
 replace H:((soundserviceref13_Valid.f k y203).bind fun t207=>(if t207=true then (some (y203,0)) else (some (([]:List (S61)),1))))=some (r1,r2):=by first|(rw [hy203];with_reducible exact H)|(have H2_:=(Option.bind_some _ _).symm.trans H;rw [hy203];with_reducible exact H2_)|(have H2_:=(Option.bind_some _ _).symm.trans H;with_reducible exact H2_)|with_reducible exact H|(rw [hy203];exact H)|exact H
 have Ny203:=Am hy203
 clear hy203
 replace H:=Option.bind_eq_some_iff.mp H
 obtain ⟨t207,A20,H⟩:=H
 replace H:(if t207=true then (some (y203,0)) else (some (([]:List (S61)),1)))=some (r1,r2):=H
 have A2:=Am A20
 clear A20
 by_cases c3:t207=true
 ·subst c3
  have H1:(some (y203,0))=some (r1,r2):=by rw [if_pos rfl] at H;exact H
  clear H;have H:=H1;clear H1
  simp only [Option.some.injEq,Prod.mk.injEq] at H
  obtain ⟨rfl,rfl⟩:=H
  go_enter Try.func12,Try.ntmps12
  go_wp2_with (first|((with_reducible refine gate_dst (N:=1) rfl ?_);refine box_event ?hg (N:=1) ?hd (cs:=#[.int .i64 a0_0, .int .i64 a0_1]) (t:=27) ?hr ?_;(case hd=>rfl);(case hg=>rfl);(case hr=>first|(go_simp;done)|(go_simp;rfl));intro gb201 hg w4 hbox hb;have n0_:=Am (below_step (by repeat (first|(with_reducible first|exact HB.out|apply bA|apply bN|apply bD)|exact HB.out)) hb);have n1_:=Am (hbox);have n2_:=Am ((by rw [hg];exact (below_size (by repeat (first|(with_reducible first|exact HB.out|apply bA|apply bN|apply bD)|exact HB.out))):w.heap.size≤gb201));have n3_:=Am ((by rw [hg];exact (below_size (by repeat (first|(with_reducible first|exact HB.out|apply bA|apply bN|apply bD)|exact HB.out))):w.heap.size≤gb201));clear HB;have HB:=n0_;have BK201:=n1_;have GW201:=n2_;have GE201:=n3_;clear n0_ n1_ n2_ n3_ hb hbox hg)|((with_reducible refine gate_dst (N:=2) rfl ?_);refine box_event ?hg (N:=2) ?hd (cs:=#[.slice none 0 0]) (t:=24) ?hr ?_;(case hd=>rfl);(case hg=>rfl);(case hr=>first|(go_simp;done)|(go_simp;rfl));intro gb202 hg w5 hbox hb;have n0_:=Am (blk_below (g:=gb201) (o:=.cells #[.int .i64 a0_0, .int .i64 a0_1] 27 (0,0)) (by (with_reducible repeat first|apply kN|apply kD|apply kA);exact BK201.out) hb);have n1_:=Am (below_step (by repeat (first|(with_reducible first|exact HB.out|apply bA|apply bN|apply bD|refine bS ?_ GE201.out)|exact HB.out)) hb);have n2_:=Am (hbox);have n3_:=Am ((by rw [hg];exact (below_size (by repeat (first|(with_reducible first|exact HB.out|apply bA|apply bN|apply bD|refine bS ?_ GE201.out)|exact HB.out))):w.heap.size≤gb202));have n4_:=Am ((by rw [hg];exact (below_size (by repeat (first|(with_reducible first|exact HB.out|apply bA|apply bN|apply bD|refine bS ?_ GE201.out)|exact HB.out))):w.heap.size≤gb202));have n5_:=Am ((by rw [hg];exact Nat.ne_of_lt (blk_lt (g:=gb201) (o:=.cells #[.int .i64 a0_0, .int .i64 a0_1] 27 (0,0)) (by (with_reducible repeat first|apply kN|apply kD|apply kA);exact BK201.out)):gb201≠gb202));have n6_:=Am (n5_.out.symm);clear BK201 HB;have BK201:=n0_;have HB:=n1_;have BK202:=n2_;have GW202:=n3_;have GE202:=n4_;have NB201_202:=n5_;have NB202_201:=n6_;clear n0_ n1_ n2_ n3_ n4_ n5_ n6_ hb hbox hg;have hnb6:=NB201_202.out;have hnc6:=NB202_201.out;have hcz7_0:w5.cell? ⟨gb201,0,none⟩=some (.int .i64 a0_0):=(blk_cell BK201.out 0).trans rfl;have hcz7_1:w5.cell? ⟨gb201,1,none⟩=some (.int .i64 a0_1):=(blk_cell BK201.out 1).trans rfl;have hfz7_0:=blk_frozen BK201.out 0;have hfz7_1:=blk_frozen BK201.out 1)|((with_reducible refine gate_dst (N:=7) rfl ?_);refine Kd.R_lit k61 _ 61 ?hg (N:=7) ?hd (xs:=([(⟨0,(⟨a0_0,a0_1⟩:S27)⟩:S61)]:List (S61))) (inner:=[.int .i64 0, .int .i64 a0_0, .int .i64 a0_1]) (ok:=fun _=>True) (okp:=fun _=>True) ?hr ?hp (fun _ hk=>hk) trivial (Below.refl _ _) (Nat.le_refl _) (by simp) ?_;(case hd=>rfl);(case hg=>rfl);(case hr=>first|(go_simp;done)|(go_simp;rfl));(case hp=>exact (Reps.c3 (show Kd.M k61 _ _ _ (⟨0,(⟨a0_0,a0_1⟩:S27)⟩:S61) [.int .i64 0, .int .i64 a0_0, .int .i64 a0_1] from (k61_mkM _ _ _ (⟨0,(⟨a0_0,a0_1⟩:S27)⟩:S61) )) (Reps.none _ _)));intro v204 w8 ho9 hb hg_ hnew_;clear hg_ hnew_;(first|rw [← Ny203.out] at ho9|(simp only [Int.reduceToNat] at ho9;rw [← Ny203.out] at ho9));have n0_:=Am (Kd.R_lower ho9 (below_size (by repeat (first|(with_reducible first|exact HB.out|apply bA|apply bN|apply bD|refine bS ?_ GE201.out|refine bS ?_ GE202.out)|exact HB.out))));have n1_:=Am (blk_below (g:=gb201) (o:=.cells #[.int .i64 a0_0, .int .i64 a0_1] 27 (0,0)) (by (with_reducible repeat first|apply kN|apply kD|apply kA);exact BK201.out) hb);have n2_:=Am (blk_below (g:=gb202) (o:=.cells #[.slice none 0 0] 24 (0,0)) (by (with_reducible repeat first|apply kN|apply kD|apply kA);exact BK202.out) hb);have n3_:=Am (below_step (by repeat (first|(with_reducible first|exact HB.out|apply bA|apply bN|apply bD|refine bS ?_ GE201.out|refine bS ?_ GE202.out)|exact HB.out)) hb);clear BK201 BK202 HB;have HO205:=n0_;have BK201:=n1_;have BK202:=n2_;have HB:=n3_;clear n0_ n1_ n2_ n3_ hb ho9;obtain ⟨Ao10,co10,eo10⟩:=Kd.R_slice HO205.out;subst eo10)|((with_reducible refine gate_dst (N:=4) rfl ?_);refine box_event ?hg (N:=4) ?hd (cs:=#[.slice none 0 0]) (t:=24) ?hr ?_;(case hd=>rfl);(case hg=>rfl);(case hr=>first|(go_simp;done)|(go_simp;rfl));intro gb206 hg w11 hbox hb;have n0_:=Am (Kd.R_below (by (with_reducible repeat first|apply Kd.R_alloc|apply Kd.R_drewN|apply Kd.R_drew);exact HO205.out) hb);have n1_:=Am (blk_below (g:=gb201) (o:=.cells #[.int .i64 a0_0, .int .i64 a0_1] 27 (0,0)) (by (with_reducible repeat first|apply kN|apply kD|apply kA);exact BK201.out) hb);have n2_:=Am (blk_below (g:=gb202) (o:=.cells #[.slice none 0 0] 24 (0,0)) (by (with_reducible repeat first|apply kN|apply kD|apply kA);exact BK202.out) hb);have n3_:=Am (below_step (by repeat (first|(with_reducible first|exact HB.out|apply bA|apply bN|apply bD|refine bS ?_ GE201.out|refine bS ?_ GE202.out)|exact HB.out)) hb);have n4_:=Am (hbox);have n5_:=Am ((by rw [hg];exact (below_size (by repeat (first|(with_reducible first|exact HB.out|apply bA|apply bN|apply bD|refine bS ?_ GE201.out|refine bS ?_ GE202.out)|exact HB.out))):w.heap.size≤gb206));have n6_:=Am ((by rw [hg];exact (below_size (by repeat (first|(with_reducible first|exact HB.out|apply bA|apply bN|apply bD|refine bS ?_ GE201.out|refine bS ?_ GE202.out)|exact HB.out))):w.heap.size≤gb206));have n7_:=Am ((by rw [hg];exact Nat.ne_of_lt (blk_lt (g:=gb201) (o:=.cells #[.int .i64 a0_0, .int .i64 a0_1] 27 (0,0)) (by (with_reducible repeat first|apply kN|apply kD|apply kA);exact BK201.out)):gb201≠gb206));have n8_:=Am (n7_.out.symm);have n9_:=Am ((by rw [hg];exact Nat.ne_of_lt (blk_lt (g:=gb202) (o:=.cells #[.slice none 0 0] 24 (0,0)) (by (with_reducible repeat first|apply kN|apply kD|apply kA);exact BK202.out)):gb202≠gb206));have n10_:=Am (n9_.out.symm);clear HO205 BK201 BK202 HB;have HO205:=n0_;have BK201:=n1_;have BK202:=n2_;have HB:=n3_;have BK206:=n4_;have GW206:=n5_;have GE206:=n6_;have NB201_206:=n7_;have NB206_201:=n8_;have NB202_206:=n9_;have NB206_202:=n10_;clear n0_ n1_ n2_ n3_ n4_ n5_ n6_ n7_ n8_ n9_ n10_ hb hbox hg;have hnb12:=NB206_201.out;have hnc12:=NB201_206.out;have hnb13:=NB206_202.out;have hnc13:=NB202_206.out;have hcz14_0:w11.cell? ⟨gb206,0,none⟩=some (.slice none 0 0):=(blk_cell BK206.out 0).trans rfl;have hfz14_0:=blk_frozen BK206.out 0)|((with_reducible refine gate_callee (f:=18) rfl ?_);refine goesL_ (some 10) rfl rfl Try.func18 (by kernel_rfl) rfl #[.agg #[.slice Ao10 y203.length co10]] rfl (by (try simp only [List.map_toArray,List.map_cons,List.map_nil]);first|done|rfl|(simp only [List.length_drop,List.length_take];rfl)) ?_;(with_reducible refine (soundserviceref13_Valid.calls k _ _ y203 true _ ?side1 ?side2 A2.out).mono ?_);(case side1=>refine (Kd.R_reads' (e:=61) (base:=w.heap.size) (ok:=fun k_=>True) (n:=y203.length) (c:=co10) ?_).2.2;exact (by (with_reducible repeat first|apply Kd.R_alloc|apply Kd.R_drewN|apply Kd.R_drew);exact (Kd.R_mono (Kd.R_far (p:=⟨gb206,0,none⟩) (Kd.R_types HO205.out BK206.out (by decide)) (fun _ hk=>hk.2) (.slice Ao10 y203.length co10)) (fun _ h_=>h_.1))));(case side2=>exact (Kd.R_reads' HO205.out).2.1);rintro e w15 ⟨rfl,hb⟩;refine ⟨_,rfl,?_⟩;have n0_:=Am (Kd.R_below (by (with_reducible repeat first|apply Kd.R_alloc|apply Kd.R_drewN|apply Kd.R_drew);exact (Kd.R_mono (Kd.R_far (p:=⟨gb206,0,none⟩) (Kd.R_types HO205.out BK206.out (by decide)) (fun _ hk=>hk.2) (.slice Ao10 y203.length co10)) (fun _ h_=>h_.1))) hb);have n1_:=Am (blk_below (g:=gb201) (o:=.cells #[.int .i64 a0_0, .int .i64 a0_1] 27 (0,0)) (by (with_reducible repeat first|apply kN|apply kD|apply kA);refine blk_far ?_ NB201_206.out _;(with_reducible repeat first|apply kN|apply kD|apply kA);exact BK201.out) hb);have n2_:=Am (blk_below (g:=gb202) (o:=.cells #[.slice none 0 0] 24 (0,0)) (by (with_reducible repeat first|apply kN|apply kD|apply kA);refine blk_far ?_ NB202_206.out _;(with_reducible repeat first|apply kN|apply kD|apply kA);exact BK202.out) hb);have n3_:=Am (blk_below (g:=gb206) (o:=.cells #[.slice Ao10 y203.length co10] 24 (0,0)) (by (with_reducible repeat first|apply kN|apply kD|apply kA);refine blk_put (cs:=#[.slice none 0 0]) ?_ 0 _ rfl;(with_reducible repeat first|apply kN|apply kD|apply kA);exact BK206.out) hb);have n4_:=Am (below_step (by repeat (first|(with_reducible first|exact HB.out|apply bA|apply bN|apply bD|refine bS ?_ GE201.out|refine bS ?_ GE202.out|refine bS ?_ GE206.out)|exact HB.out)) hb);clear HO205 BK201 BK202 BK206 HB;have HO205:=n0_;have BK201:=n1_;have BK202:=n2_;have BK206:=n3_;have HB:=n4_;clear n0_ n1_ n2_ n3_ n4_;(try clear hb);(try clear hb2);(try clear hk);have hcz16_0:w15.cell? ⟨gb206,0,none⟩=some (.slice Ao10 y203.length co10):=(blk_cell BK206.out 0).trans rfl;have hfz16_0:=blk_frozen BK206.out 0;have hcz17_0:w15.cell? ⟨gb202,0,none⟩=some (.slice none 0 0):=(blk_cell BK202.out 0).trans rfl;have hfz17_0:=blk_frozen BK202.out 0))
  refine bodyPost_ret (results_ct rfl _ _ gb202 24 #[.slice Ao10 y203.length co10] (0,0) _ rfl (by (with_reducible repeat first|apply kN|apply kD|apply kA);refine blk_put (cs:=#[.slice none 0 0]) ?_ 0 _ rfl;(with_reducible repeat first|apply kN|apply kD|apply kA);exact BK202.out) Try.underlying24 rfl (by kernel_rfl)) rfl ?_
  exact ⟨_,by first|rfl|(simp [errW_none,errW_some] <;> rfl)|(simp [*,errW_none,errW_some] <;> rfl),by (with_reducible repeat first|apply Kd.R_alloc|apply Kd.R_drewN|apply Kd.R_drew);exact Kd.R_mono (Kd.R_far (p:=⟨gb202,0,none⟩) (Kd.R_types HO205.out BK202.out (by decide)) (fun _ hk=>hk.2) (.slice Ao10 y203.length co10)) (fun _ hk=>trivial),by repeat (first|(with_reducible first|exact HB.out|apply bA|apply bN|apply bD|refine bS ?_ GE201.out|refine bS ?_ GE202.out|refine bS ?_ GE206.out)|exact HB.out)⟩
 ·replace c3:=Bool.eq_false_iff.mpr c3
  subst c3
  have H1:(some (([]:List (S61)),1))=some (r1,r2):=by rw [if_neg (show ¬ (false=true) by decide)] at H;exact H
  clear H;have H:=H1;clear H1
  simp only [Option.some.injEq,Prod.mk.injEq] at H
  obtain ⟨rfl,rfl⟩:=H
  go_enter Try.func12,Try.ntmps12
  go_wp2_with (first|((with_reducible refine gate_dst (N:=1) rfl ?_);refine box_event ?hg (N:=1) ?hd (cs:=#[.int .i64 a0_0, .int .i64 a0_1]) (t:=27) ?hr ?_;(case hd=>rfl);(case hg=>rfl);(case hr=>first|(go_simp;done)|(go_simp;rfl));intro gb201 hg w18 hbox hb;have n0_:=Am (below_step (by repeat (first|(with_reducible first|exact HB.out|apply bA|apply bN|apply bD)|exact HB.out)) hb);have n1_:=Am (hbox);have n2_:=Am ((by rw [hg];exact (below_size (by repeat (first|(with_reducible first|exact HB.out|apply bA|apply bN|apply bD)|exact HB.out))):w.heap.size≤gb201));have n3_:=Am ((by rw [hg];exact (below_size (by repeat (first|(with_reducible first|exact HB.out|apply bA|apply bN|apply bD)|exact HB.out))):w.heap.size≤gb201));clear HB;have HB:=n0_;have BK201:=n1_;have GW201:=n2_;have GE201:=n3_;clear n0_ n1_ n2_ n3_ hb hbox hg)|((with_reducible refine gate_dst (N:=2) rfl ?_);refine box_event ?hg (N:=2) ?hd (cs:=#[.slice none 0 0]) (t:=24) ?hr ?_;(case hd=>rfl);(case hg=>rfl);(case hr=>first|(go_simp;done)|(go_simp;rfl));intro gb202 hg w19 hbox hb;have n0_:=Am (blk_below (g:=gb201) (o:=.cells #[.int .i64 a0_0, .int .i64 a0_1] 27 (0,0)) (by (with_reducible repeat first|apply kN|apply kD|apply kA);exact BK201.out) hb);have n1_:=Am (below_step (by repeat (first|(with_reducible first|exact HB.out|apply bA|apply bN|apply bD|refine bS ?_ GE201.out)|exact HB.out)) hb);have n2_:=Am (hbox);have n3_:=Am ((by rw [hg];exact (below_size (by repeat (first|(with_reducible first|exact HB.out|apply bA|apply bN|apply bD|refine bS ?_ GE201.out)|exact HB.out))):w.heap.size≤gb202));have n4_:=Am ((by rw [hg];exact (below_size (by repeat (first|(with_reducible first|exact HB.out|apply bA|apply bN|apply bD|refine bS ?_ GE201.out)|exact HB.out))):w.heap.size≤gb202));have n5_:=Am ((by rw [hg];exact Nat.ne_of_lt (blk_lt (g:=gb201) (o:=.cells #[.int .i64 a0_0, .int .i64 a0_1] 27 (0,0)) (by (with_reducible repeat first|apply kN|apply kD|apply kA);exact BK201.out)):gb201≠gb202));have n6_:=Am (n5_.out.symm);clear BK201 HB;have BK201:=n0_;have HB:=n1_;have BK202:=n2_;have GW202:=n3_;have GE202:=n4_;have NB201_202:=n5_;have NB202_201:=n6_;clear n0_ n1_ n2_ n3_ n4_ n5_ n6_ hb hbox hg;have hnb20:=NB201_202.out;have hnc20:=NB202_201.out;have hcz21_0:w19.cell? ⟨gb201,0,none⟩=some (.int .i64 a0_0):=(blk_cell BK201.out 0).trans rfl;have hcz21_1:w19.cell? ⟨gb201,1,none⟩=some (.int .i64 a0_1):=(blk_cell BK201.out 1).trans rfl;have hfz21_0:=blk_frozen BK201.out 0;have hfz21_1:=blk_frozen BK201.out 1)|((with_reducible refine gate_dst (N:=7) rfl ?_);refine Kd.R_lit k61 _ 61 ?hg (N:=7) ?hd (xs:=([(⟨0,(⟨a0_0,a0_1⟩:S27)⟩:S61)]:List (S61))) (inner:=[.int .i64 0, .int .i64 a0_0, .int .i64 a0_1]) (ok:=fun _=>True) (okp:=fun _=>True) ?hr ?hp (fun _ hk=>hk) trivial (Below.refl _ _) (Nat.le_refl _) (by simp) ?_;(case hd=>rfl);(case hg=>rfl);(case hr=>first|(go_simp;done)|(go_simp;rfl));(case hp=>exact (Reps.c3 (show Kd.M k61 _ _ _ (⟨0,(⟨a0_0,a0_1⟩:S27)⟩:S61) [.int .i64 0, .int .i64 a0_0, .int .i64 a0_1] from (k61_mkM _ _ _ (⟨0,(⟨a0_0,a0_1⟩:S27)⟩:S61) )) (Reps.none _ _)));intro v204 w22 ho23 hb hg_ hnew_;clear hg_ hnew_;(first|rw [← Ny203.out] at ho23|(simp only [Int.reduceToNat] at ho23;rw [← Ny203.out] at ho23));have n0_:=Am (Kd.R_lower ho23 (below_size (by repeat (first|(with_reducible first|exact HB.out|apply bA|apply bN|apply bD|refine bS ?_ GE201.out|refine bS ?_ GE202.out)|exact HB.out))));have n1_:=Am (blk_below (g:=gb201) (o:=.cells #[.int .i64 a0_0, .int .i64 a0_1] 27 (0,0)) (by (with_reducible repeat first|apply kN|apply kD|apply kA);exact BK201.out) hb);have n2_:=Am (blk_below (g:=gb202) (o:=.cells #[.slice none 0 0] 24 (0,0)) (by (with_reducible repeat first|apply kN|apply kD|apply kA);exact BK202.out) hb);have n3_:=Am (below_step (by repeat (first|(with_reducible first|exact HB.out|apply bA|apply bN|apply bD|refine bS ?_ GE201.out|refine bS ?_ GE202.out)|exact HB.out)) hb);clear BK201 BK202 HB;have HO205:=n0_;have BK201:=n1_;have BK202:=n2_;have HB:=n3_;clear n0_ n1_ n2_ n3_ hb ho23;obtain ⟨Ao24,co24,eo24⟩:=Kd.R_slice HO205.out;subst eo24)|((with_reducible refine gate_dst (N:=4) rfl ?_);refine box_event ?hg (N:=4) ?hd (cs:=#[.slice none 0 0]) (t:=24) ?hr ?_;(case hd=>rfl);(case hg=>rfl);(case hr=>first|(go_simp;done)|(go_simp;rfl));intro gb206 hg w25 hbox hb;have n0_:=Am (Kd.R_below (by (with_reducible repeat first|apply Kd.R_alloc|apply Kd.R_drewN|apply Kd.R_drew);exact HO205.out) hb);have n1_:=Am (blk_below (g:=gb201) (o:=.cells #[.int .i64 a0_0, .int .i64 a0_1] 27 (0,0)) (by (with_reducible repeat first|apply kN|apply kD|apply kA);exact BK201.out) hb);have n2_:=Am (blk_below (g:=gb202) (o:=.cells #[.slice none 0 0] 24 (0,0)) (by (with_reducible repeat first|apply kN|apply kD|apply kA);exact BK202.out) hb);have n3_:=Am (below_step (by repeat (first|(with_reducible first|exact HB.out|apply bA|apply bN|apply bD|refine bS ?_ GE201.out|refine bS ?_ GE202.out)|exact HB.out)) hb);have n4_:=Am (hbox);have n5_:=Am ((by rw [hg];exact (below_size (by repeat (first|(with_reducible first|exact HB.out|apply bA|apply bN|apply bD|refine bS ?_ GE201.out|refine bS ?_ GE202.out)|exact HB.out))):w.heap.size≤gb206));have n6_:=Am ((by rw [hg];exact (below_size (by repeat (first|(with_reducible first|exact HB.out|apply bA|apply bN|apply bD|refine bS ?_ GE201.out|refine bS ?_ GE202.out)|exact HB.out))):w.heap.size≤gb206));have n7_:=Am ((by rw [hg];exact Nat.ne_of_lt (blk_lt (g:=gb201) (o:=.cells #[.int .i64 a0_0, .int .i64 a0_1] 27 (0,0)) (by (with_reducible repeat first|apply kN|apply kD|apply kA);exact BK201.out)):gb201≠gb206));have n8_:=Am (n7_.out.symm);have n9_:=Am ((by rw [hg];exact Nat.ne_of_lt (blk_lt (g:=gb202) (o:=.cells #[.slice none 0 0] 24 (0,0)) (by (with_reducible repeat first|apply kN|apply kD|apply kA);exact BK202.out)):gb202≠gb206));have n10_:=Am (n9_.out.symm);clear HO205 BK201 BK202 HB;have HO205:=n0_;have BK201:=n1_;have BK202:=n2_;have HB:=n3_;have BK206:=n4_;have GW206:=n5_;have GE206:=n6_;have NB201_206:=n7_;have NB206_201:=n8_;have NB202_206:=n9_;have NB206_202:=n10_;clear n0_ n1_ n2_ n3_ n4_ n5_ n6_ n7_ n8_ n9_ n10_ hb hbox hg;have hnb26:=NB206_201.out;have hnc26:=NB201_206.out;have hnb27:=NB206_202.out;have hnc27:=NB202_206.out;have hcz28_0:w25.cell? ⟨gb206,0,none⟩=some (.slice none 0 0):=(blk_cell BK206.out 0).trans rfl;have hfz28_0:=blk_frozen BK206.out 0)|((with_reducible refine gate_callee (f:=18) rfl ?_);refine goesL_ (some 10) rfl rfl Try.func18 (by kernel_rfl) rfl #[.agg #[.slice Ao24 y203.length co24]] rfl (by (try simp only [List.map_toArray,List.map_cons,List.map_nil]);first|done|rfl|(simp only [List.length_drop,List.length_take];rfl)) ?_;(with_reducible refine (soundserviceref13_Valid.calls k _ _ y203 false _ ?side1 ?side2 A2.out).mono ?_);(case side1=>refine (Kd.R_reads' (e:=61) (base:=w.heap.size) (ok:=fun k_=>True) (n:=y203.length) (c:=co24) ?_).2.2;exact (by (with_reducible repeat first|apply Kd.R_alloc|apply Kd.R_drewN|apply Kd.R_drew);exact (Kd.R_mono (Kd.R_far (p:=⟨gb206,0,none⟩) (Kd.R_types HO205.out BK206.out (by decide)) (fun _ hk=>hk.2) (.slice Ao24 y203.length co24)) (fun _ h_=>h_.1))));(case side2=>exact (Kd.R_reads' HO205.out).2.1);rintro e w29 ⟨rfl,hb⟩;refine ⟨_,rfl,?_⟩;have n0_:=Am (Kd.R_below (by (with_reducible repeat first|apply Kd.R_alloc|apply Kd.R_drewN|apply Kd.R_drew);exact (Kd.R_mono (Kd.R_far (p:=⟨gb206,0,none⟩) (Kd.R_types HO205.out BK206.out (by decide)) (fun _ hk=>hk.2) (.slice Ao24 y203.length co24)) (fun _ h_=>h_.1))) hb);have n1_:=Am (blk_below (g:=gb201) (o:=.cells #[.int .i64 a0_0, .int .i64 a0_1] 27 (0,0)) (by (with_reducible repeat first|apply kN|apply kD|apply kA);refine blk_far ?_ NB201_206.out _;(with_reducible repeat first|apply kN|apply kD|apply kA);exact BK201.out) hb);have n2_:=Am (blk_below (g:=gb202) (o:=.cells #[.slice none 0 0] 24 (0,0)) (by (with_reducible repeat first|apply kN|apply kD|apply kA);refine blk_far ?_ NB202_206.out _;(with_reducible repeat first|apply kN|apply kD|apply kA);exact BK202.out) hb);have n3_:=Am (blk_below (g:=gb206) (o:=.cells #[.slice Ao24 y203.length co24] 24 (0,0)) (by (with_reducible repeat first|apply kN|apply kD|apply kA);refine blk_put (cs:=#[.slice none 0 0]) ?_ 0 _ rfl;(with_reducible repeat first|apply kN|apply kD|apply kA);exact BK206.out) hb);have n4_:=Am (below_step (by repeat (first|(with_reducible first|exact HB.out|apply bA|apply bN|apply bD|refine bS ?_ GE201.out|refine bS ?_ GE202.out|refine bS ?_ GE206.out)|exact HB.out)) hb);clear HO205 BK201 BK202 BK206 HB;have HO205:=n0_;have BK201:=n1_;have BK202:=n2_;have BK206:=n3_;have HB:=n4_;clear n0_ n1_ n2_ n3_ n4_;(try clear hb);(try clear hb2);(try clear hk);have hcz30_0:w29.cell? ⟨gb202,0,none⟩=some (.slice none 0 0):=(blk_cell BK202.out 0).trans rfl;have hfz30_0:=blk_frozen BK202.out 0))
  refine bodyPost_ret (results_ct rfl _ _ gb202 24 #[.slice none 0 0] (0,0) _ rfl (by (with_reducible repeat first|apply kN|apply kD|apply kA);refine blk_put (cs:=#[.slice none 0 0]) ?_ 0 _ rfl;(with_reducible repeat first|apply kN|apply kD|apply kA);exact BK202.out) Try.underlying24 rfl (by kernel_rfl)) rfl ?_
  exact ⟨_,by first|rfl|(simp [errW_none,errW_some] <;> rfl)|(simp [*,errW_none,errW_some] <;> rfl),by first|exact Kd.R_nil _ _ _ _ _|exact Kd.N_nil _ _ _ _ _|exact Kd.V_nil _ _ _ _ _|exact Kd.Q_nil _ _ _ _ _|exact Kd.S_nil _ _ _ _ _,by repeat (first|(with_reducible first|exact HB.out|apply bA|apply bN|apply bD|refine bS ?_ GE201.out|refine bS ?_ GE202.out|refine bS ?_ GE206.out)|exact HB.out)⟩

def IsS63 (w0 W:World) (g:Nat) (f0:List Int):Prop:=∃ A0 c0,W.heap[g]?=some (.cells #[.slice A0 f0.length c0] 63 (0,0))∧w0.heap.size≤g∧(Kd.C (Kd.int .u8) w0 A0 f0.length f0∧f0.length≤c0)
theorem IsS63.grown {w0 W:World} {g:Nat} {f0:List Int} {W1:World} {row:Option Nat} (h:IsS63 w0 W g f0) (hw:W.grownBy W1 row) (hne:some g≠row):IsS63 w0 W1 g f0:=by
 obtain ⟨A0,c0,hb,hg,hr0⟩:=h
 exact ⟨A0,c0,blk_grown hb hw hne,hg,hr0⟩
theorem IsS63.own_neN {w0 W:World} {g:Nat} {f0:List Int} {α:Type} {d:Kd α} {e:Nat} {base:Nat} {ok:Nat→Prop} {v:Value} {xs:List α} (h:IsS63 w0 W g f0) (ho:Kd.N d e W base ok v xs) (ht:e≠63):some g≠v.ownBlock:=by
 obtain ⟨A0,c0,hb,hg,hr0⟩:=h
 exact Kd.N_ne ho hb ht
theorem IsS63.fresh {w0 W:World} {g:Nat} {f0:List Int} (h:IsS63 w0 W g f0):∀ k,W.heap.size≤k→k≠g:=by
 obtain ⟨A0,c0,hb,hg,hr0⟩:=h
 exact Kd.freshB hb
theorem IsS63.kept {w0 W:World} {g:Nat} {f0:List Int} {W1:World} {S:Nat→Prop} (h:IsS63 w0 W g f0) (hk:Kept W W1 S) (hne:¬ S g):IsS63 w0 W1 g f0:=by
 obtain ⟨A0,c0,hb,hg,hr0⟩:=h
 exact ⟨A0,c0,blk_kept hb hk hne,hg,hr0⟩
theorem IsS63.below {w0 W:World} {g:Nat} {f0:List Int} {W1:World} (h:IsS63 w0 W g f0) (hw:Below W.heap.size W W1):IsS63 w0 W1 g f0:=h.grown (grown_of_below hw none) (by simp)
theorem IsS63.alloc {w0 W:World} {g:Nat} {f0:List Int} (h:IsS63 w0 W g f0) (o:Obj):IsS63 w0 (W.alloc o) g f0:=h.below (below_alloc (Below.refl _ _) o)
theorem IsS63.drewN {w0 W:World} {g:Nat} {f0:List Int} (h:IsS63 w0 W g f0) (m:Nat):IsS63 w0 (W.drewN m) g f0:=h
theorem IsS63.drew {w0 W:World} {g:Nat} {f0:List Int} (h:IsS63 w0 W g f0):IsS63 w0 W.drew g f0:=h
theorem IsS63.at_ {w0 W:World} {g:Nat} {f0:List Int} {w':World} {m:Nat} (hq:W.drewN m=w') (h:IsS63 w0 W g f0):IsS63 w0 w' g f0:=by subst hq;exact IsS63.drewN h m
theorem IsS63.apart {w0 W:World} {g:Nat} {f0:List Int} {α:Type} {d:Kd α} {e:Nat} {base:Nat} {ok:Nat→Prop} {v:Value} {xs:List α} (h:IsS63 w0 W g f0) (ho:d.R e W base ok v xs) (ht:∀ q,q ∈ e :: d.E→q≠63):d.R e W base (fun k=>ok k∧k≠g) v xs:=by
 obtain ⟨A0,c0,hb,hg,hr0⟩:=h
 exact Kd.R_types ho hb ht
theorem IsS63.own_ne {w0 W:World} {g:Nat} {f0:List Int} {α:Type} {d:Kd α} {e:Nat} {base:Nat} {ok:Nat→Prop} {v:Value} {xs:List α} (h:IsS63 w0 W g f0) (ho:d.R e W base ok v xs) (ht:e≠63):some g≠v.ownBlock:=by
 obtain ⟨A0,c0,hb,hg,hr0⟩:=h
 exact Kd.R_ne ho hb ht
theorem IsS63.apartQ {w0 W:World} {g:Nat} {f0:List Int} {α:Type} {d:Kd α} {e:Nat} {base:Nat} {ok:Nat→Prop} {v:Value} {xs:List α} (h:IsS63 w0 W g f0) (ho:d.Q e W base ok v xs) (ht:∀ q,q ∈ e :: d.E→q≠63):d.Q e W base (fun k=>ok k∧k≠g) v xs:=by
 obtain ⟨A0,c0,hb,hg,hr0⟩:=h
 exact Kd.Q_types ho hb ht
theorem IsS63.own_neQ {w0 W:World} {g:Nat} {f0:List Int} {α:Type} {d:Kd α} {e:Nat} {base:Nat} {ok:Nat→Prop} {v:Value} {xs:List α} (h:IsS63 w0 W g f0) (ho:d.Q e W base ok v xs) (ht:e≠63):some g≠v.ownBlock:=by
 obtain ⟨A0,c0,hb,hg,hr0⟩:=h
 exact Kd.Q_ne ho hb ht
theorem IsS63.apartS {w0 W:World} {g:Nat} {f0:List Int} {α:Type} {d:Kd α} {e:Nat} {base:Nat} {ok:Nat→Prop} {v:Value} {xs:List α} (h:IsS63 w0 W g f0) (ho:d.S e W base ok v xs) (ht:∀ q,q ∈ e :: d.E→q≠63):d.S e W base (fun k=>ok k∧k≠g) v xs:=by
 obtain ⟨A0,c0,hb,hg,hr0⟩:=h
 exact Kd.S_types ho hb ht
theorem IsS63.own_neS {w0 W:World} {g:Nat} {f0:List Int} {α:Type} {d:Kd α} {e:Nat} {base:Nat} {ok:Nat→Prop} {v:Value} {xs:List α} (h:IsS63 w0 W g f0) (ho:d.S e W base ok v xs) (ht:e≠63):some g≠v.ownBlock:=by
 obtain ⟨A0,c0,hb,hg,hr0⟩:=h
 exact Kd.S_ne ho hb ht
theorem IsS63.lt {w0 W:World} {g:Nat} {f0:List Int} (h:IsS63 w0 W g f0):g < W.heap.size:=by
 obtain ⟨A0,c0,hb,hg,hr0⟩:=h
 exact blk_lt hb
theorem IsS63.ge {w0 W:World} {g:Nat} {f0:List Int} (h:IsS63 w0 W g f0):w0.heap.size≤g:=by
 obtain ⟨A0,c0,hb,hg,hr0⟩:=h
 exact hg
theorem IsS63.ne_blk {w0 W:World} {g:Nat} {f0:List Int} {a:Nat} {cs:Array Value} {t:TypeId} {fr:Nat × Nat} (h:IsS63 w0 W g f0) (hb2:W.heap[a]?=some (.cells cs t fr)) (ht:t≠63):g≠a:=by
 obtain ⟨A0,c0,hb,hg,hr0⟩:=h
 rintro rfl
 rw [hb] at hb2
 injection hb2 with hb2
 injection hb2 with _ ht2
 exact ht ht2.symm
theorem IsS63.far {w0 W:World} {g:Nat} {f0:List Int} {p:Addr} (h:IsS63 w0 W g f0) (hne:g≠p.block) (u:Value):IsS63 w0 (W.setCell p u) g f0:=by
 obtain ⟨A0,c0,hb,hg,hr0⟩:=h
 exact ⟨A0,c0,blk_far hb hne u,hg,hr0⟩
theorem cellS63_0 {W:World} {g:Nat} {A0:Option Addr} {c0:Nat} {f0:List Int} (h:W.heap[g]?=some (.cells #[.slice A0 f0.length c0] 63 (0,0))):W.cell? ⟨g,0,none⟩=some (.slice A0 f0.length c0):=(blk_cell h 0).trans rfl
theorem IsS63.new (w0 W:World) (A0:Option Addr) (c0:Nat) (f0:List Int) (hB:Below w0.heap.size w0 W) (hr0:(Kd.C (Kd.int .u8) w0 A0 f0.length f0∧f0.length≤c0)):IsS63 w0 (W.alloc (.cells #[.slice A0 f0.length c0] 63)) W.heap.size f0:=⟨A0,c0,by simpa using heap_alloc_new W _,hB.size,hr0⟩

/-! ### soundservicemade_New: function 19 -/
def soundservicemade_New.f (l0:List Int):Option (List Int):=if 0≤(mn (l0.length:Int) 300) then (if (mn (l0.length:Int) 300)≤(l0.length:Int) then (some (l0.take ((mn (l0.length:Int) 300):Int).toNat)) else (none)) else (none)
set_option maxHeartbeats 8000000 in
set_option maxRecDepth 100000 in
theorem soundservicemade_New.calls (A0:Option Addr) (c0:Nat) (l0:List Int) (r:List Int) (w0 w:World) (hB:Below w0.heap.size w0 w) (hr0:Kd.C (Kd.int .u8) w0 A0 l0.length l0) (hc0:l0.length≤c0) (h:soundservicemade_New.f l0=some r) :
  Calls Try.prog 19 #[.slice A0 l0.length c0] w fun e w'=>∃ g_:Nat,e=.returned (.pointer (some ⟨g_,0,none⟩))∧IsS63 w0 w' g_ r∧Below w0.heap.size w0 w'∧Below w.heap.size w w':=by
 have hu63:=Try.underlying63
 have HR0:=Am hr0
 have HC0:=Am hc0
 clear hr0 hc0
 have HBW:=Am (Below.refl w.heap.size w)
 have HW0:=Am hB.size
 have HB:=Am hB
 clear hB
 have H:(if 0≤(mn (l0.length:Int) 300) then (if (mn (l0.length:Int) 300)≤(l0.length:Int) then (some (l0.take ((mn (l0.length:Int) 300):Int).toNat)) else (none)) else (none))=some r:=h
 clear h
 obtain ⟨ji2,hji2⟩:∃ j_:Int,(mn (l0.length:Int) 300)=j_:=⟨_,rfl⟩
 replace H:(if 0≤(ji2) then (if (ji2)≤(l0.length:Int) then (some (l0.take ((ji2):Int).toNat)) else (none)) else (none))=some r:=by first|(rw [hji2] at H;exact H)|(simp only [hji2] at H ⊢;exact H)
 (try (have hji2h:ji2≤300:=by (rw [← hji2];unfold mn;(repeat' split) <;> omega)))
 (try (have hji2g:ji2≤64:=by omega))
 (try (have hji2l:0≤ji2:=by (rw [← hji2];unfold mn;(repeat' split) <;> omega)))
 (try (have hji2m:0≤ji2:=by omega))
 have hji2_:(if 300 < (l0.length:Int) then 300 else (l0.length:Int))=ji2:=hji2
 by_cases c3:0≤(ji2)
 ·rw [if_pos c3] at H
  have c3b0:=eq_true c3
  have c3b1:decide (0≤(ji2))=true:=decide_eq_true c3
  clear c3
  by_cases c4:(ji2)≤(l0.length:Int)
  ·rw [if_pos c4] at H
   have c4b0:=eq_true c4
   have c4b1:decide ((ji2)≤(l0.length:Int))=true:=decide_eq_true c4
   clear c4
   obtain rfl:=Option.some.inj H
   obtain ⟨i05,hi05,_,hsz5,_⟩:=info_parts info5
   obtain ⟨hcut5,hA5,hC5⟩:=print_take_of (P:=Try.prog) (Value.int .u8) 0 25 5 .i64 Try.underlying25 hi05 hsz5 A0 c0 l0 (ji2) (of_decide_eq_true (by first|(with_reducible assumption)|assumption)) (of_decide_eq_true (by first|(with_reducible assumption)|assumption)) HC0.out
   have HR212:=Am (Kd.C_of_reads (h1:=fun _=>rfl) (hA5 _ (Kd.reads_of_C HR0.out)))
   have HC212:=Am hC5
   clear hA5 hC5 hi05 hsz5
   go_enter Try.func19,Try.ntmps19
   go_wp2_with (first|((with_reducible refine gate_dst (N:=9) rfl ?_);refine box_event ?hg (N:=9) ?hd (cs:=#[.slice A0 (l0.take ((ji2):Int).toNat).length c0]) (t:=63) ?hr ?_;(case hd=>rfl);(case hg=>rfl);(case hr=>first|(go_simp;done)|(go_simp;rfl));intro gb213 hg w6 hbox hb;have n0_:=Am (below_step HBW.out hb);have n1_:=Am (below_step (by repeat (first|(with_reducible first|exact HB.out|apply bA|apply bN|apply bD)|exact HB.out)) hb);have n2_:=Am (hbox);have n3_:=Am ((by rw [hg];exact (below_size (by repeat (first|(with_reducible first|exact HBW.out|apply bA|apply bN|apply bD)|exact HBW.out))):w.heap.size≤gb213));have n4_:=Am ((Nat.le_trans HW0.out (by rw [hg];exact (below_size (by repeat (first|(with_reducible first|exact HBW.out|apply bA|apply bN|apply bD)|exact HBW.out))):w.heap.size≤gb213):w0.heap.size≤gb213));clear HBW HB;have HBW:=n0_;have HB:=n1_;have BK213:=n2_;have GW213:=n3_;have GE213:=n4_;clear n0_ n1_ n2_ n3_ n4_ hb hbox hg))
   go_ret
   exact ⟨_,rfl,(show IsS63 w0 _ gb213 (l0.take ((ji2):Int).toNat) from ⟨_,_,by (with_reducible repeat first|apply kN|apply kD|apply kA);exact BK213.out,GE213.out,⟨HR212.out,HC212.out⟩⟩),by repeat (first|(with_reducible first|exact HB.out|apply bA|apply bN|apply bD|refine bS ?_ GE213.out)|exact HB.out),by repeat (first|(with_reducible first|exact HBW.out|apply bA|apply bN|apply bD|refine bS ?_ GW213.out)|exact HBW.out)⟩
  ·rw [if_neg c4] at H
   exact absurd H (by simp)
 ·rw [if_neg c3] at H
  exact absurd H (by simp)

end Go.Proofs.Ythnmmiofhjbkeaa.PA
