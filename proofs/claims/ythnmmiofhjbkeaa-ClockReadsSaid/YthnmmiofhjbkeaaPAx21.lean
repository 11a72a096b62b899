/- Walks of functions of the program: each does what its Lean function says. Written by a program of this session (wip/xprint), which runs the printer of the kit with changes. -/
import Derived.Test.YthnmmiofhjbkeaaPAx0
import Derived.Test.YthnmmiofhjbkeaaPAx11
namespace Go.Proofs.Ythnmmiofhjbkeaa.PA
open Go.RowKit Go.Proofs.YthnmmiofhjbkeaaW.PrintWords Go.Proofs.YthnmmiofhjbkeaaW.PrintLast Go.Proofs.YthnmmiofhjbkeaaW.PrintMore
attribute [local go_sem] max2_int min2_int max_two min_two max_three min_three max_four min_four   -- for this text's walks alone
set_option linter.unusedVariables false
set_option linter.unusedSimpArgs false

/-! ### soundserviceref03_Make: function 22 -/
def soundserviceref03_Make.j0:Nat→Int→Int→Bool→Option (Int × Int × Int)
 | 0,_,_,_=>none
 | k+1,x0,x1,x13=>if x13=true then (some (0,0,1)) else ((soundserviceref03_gcd.f k x0 x1).bind fun t298=>(if t298=0 then (none) else (if (wrap64 (Int.tdiv x0 t298)) > 68719476736 then (some (0,0,2)) else (if (wrap64 (Int.tdiv x1 t298)) > 68719476736 then (some (0,0,2)) else (some (wrap64 (Int.tdiv x0 t298),wrap64 (Int.tdiv x1 t298),0))))))
def soundserviceref03_Make.f (k:Nat) (a0:Int) (a1:Int):Option (Int × Int × Int):=if a0 < 1 then (soundserviceref03_Make.j0 k a0 a1 true) else (soundserviceref03_Make.j0 k a0 a1 (decide (a1 < 1)))
theorem soundserviceref03_Make.mono_l:∀ k,(∀ y0 y1 y2,LeO (soundserviceref03_Make.j0 k y0 y1 y2) (soundserviceref03_Make.j0 (k+1) y0 y1 y2))
 | 0=>fun _ _ _ r h=>by simp [soundserviceref03_Make.j0] at h
 | k+1=>by
  have ih0:=soundserviceref03_Make.mono_l k
  ·intro y0 y1 y2
   unfold soundserviceref03_Make.j0
   repeat' first
   | (with_reducible exact ih0 _ _ _)
   | (with_reducible exact soundserviceref03_gcd.mono _ _ _)
   | (with_reducible exact LeO.refl _)
   | (with_reducible exact LeO.none _)
   | (with_reducible refine LeO.ite ?_ ?_)
   | (with_reducible refine LeO.bind ?_ (fun _=>?_))
   | exact ih0 _ _ _
   | exact soundserviceref03_gcd.mono _ _ _
   | exact LeO.none _
   | refine LeO.ite ?_ ?_
   | refine LeO.bind ?_ (fun _=>?_)
theorem soundserviceref03_Make.mono:∀ a0 a1 k,LeO (soundserviceref03_Make.f k a0 a1) (soundserviceref03_Make.f (k+1) a0 a1):=by
 intro a0 a1 k
 have ih0:=soundserviceref03_Make.mono_l k
 unfold soundserviceref03_Make.f
 repeat' first
   | (with_reducible exact ih0 _ _ _)
   | (with_reducible exact soundserviceref03_gcd.mono _ _ _)
   | (with_reducible exact LeO.refl _)
   | (with_reducible exact LeO.none _)
   | (with_reducible refine LeO.ite ?_ ?_)
   | (with_reducible refine LeO.bind ?_ (fun _=>?_))
   | exact ih0 _ _ _
   | exact soundserviceref03_gcd.mono _ _ _
   | exact LeO.none _
   | refine LeO.ite ?_ ?_
   | refine LeO.bind ?_ (fun _=>?_)
def soundserviceref03_Make.T4:Bool × List (List Nat × List Nat):=(true, [([], []),([], []),([0,1], [0,1]),([], []),([], []),([3,4], [3,4]),([2,5], [2,5]),([], []),([7,6,0,1,2,3,4,5,6,7], [6,7])])
def soundserviceref03_Make.B4:List Nat:=[0,0,3,0,0,24,63,0,255]
theorem soundserviceref03_Make.tab4:rtab .any (opsOf Try.f22 4)=soundserviceref03_Make.T4:=by kernel_rfl
theorem soundserviceref03_Make.bits4:waitsOk soundserviceref03_Make.T4.2 soundserviceref03_Make.B4=true:=by kernel_rfl
abbrev soundserviceref03_Make.q0:Array Bool:=#[false,false,false,false,false,false,false,false,false]
abbrev soundserviceref03_Make.q1:Array Bool:=#[true,false,false,false,false,false,false,false,false]
abbrev soundserviceref03_Make.q2:Array Bool:=#[true,true,false,false,false,false,false,false,false]
abbrev soundserviceref03_Make.q3:Array Bool:=#[true,true,true,false,false,false,false,false,false]
abbrev soundserviceref03_Make.q4:Array Bool:=#[true,true,true,true,false,false,false,false,false]
set_option maxHeartbeats 8000000 in
set_option maxRecDepth 100000 in
theorem soundserviceref03_Make.calls (k:Nat) (a0:Int) (a1:Int) (r1:Int) (r2:Int) (r3:Int) (w:World) (h:soundserviceref03_Make.f k a0 a1=some (r1,r2,r3)) :
  Calls Try.prog 22 #[.int .i64 a0, .int .i64 a1] w fun e w'=>e=.returned (.tuple #[.agg #[.int .i64 r1, .int .i64 r2], .int .i64 r3])∧Below w.heap.size w w':=by
 have hu27:=Try.underlying27
 have HB:=Am (Below.refl w.heap.size w)
 have H:(if a0 < 1 then (soundserviceref03_Make.j0 k a0 a1 true) else (soundserviceref03_Make.j0 k a0 a1 (decide (a1 < 1))))=some (r1,r2,r3):=h
 clear h
 have HC3:=Am H
 clear H
 go_enter Try.func22,Try.ntmps22
 go_upto_region 1 with (first|((with_reducible refine gate_dst (N:=4) rfl ?_);refine box_event ?hg (N:=4) ?hd (cs:=#[.int .i64 0, .int .i64 0]) (t:=27) ?hr ?_;(case hd=>rfl);(case hg=>rfl);(case hr=>first|(go_simp;done)|(go_simp;rfl));intro gb297 hg w4 hbox hb;have n0_:=Am (below_step (by repeat (first|(with_reducible first|exact HB.out|apply bA|apply bN|apply bD)|exact HB.out)) hb);have n1_:=Am (hbox);have n2_:=Am ((by rw [hg];exact (below_size (by repeat (first|(with_reducible first|exact HB.out|apply bA|apply bN|apply bD)|exact HB.out))):w.heap.size≤gb297));have n3_:=Am ((by rw [hg];exact (below_size (by repeat (first|(with_reducible first|exact HB.out|apply bA|apply bN|apply bD)|exact HB.out))):w.heap.size≤gb297));clear HB;have HB:=n0_;have BK297:=n1_;have GW297:=n2_;have GE297:=n3_;clear n0_ n1_ n2_ n3_ hb hbox hg))
 (try simp only [pL])
 go_cut [13] (fun v13 wc=>∃ (kq:Nat) (x13_2:Bool),v13=.bool x13_2∧Aside0 (soundserviceref03_Make.j0 kq a0 a1 x13_2=some (r1,r2,r3))∧Aside0 (kq≤k)∧Aside0 (wc.heap[gb297]?=some (.cells #[.int .i64 0, .int .i64 0] 27 (0,0)))∧Aside0 (Below w.heap.size w wc))
 case first =>
  have H:=HC3.out
  clear HC3
  by_cases c5:a0 < 1
  ·rw [if_pos c5] at H
   have c5b0:decide (a0 < 1)=true:=decide_eq_true c5
   clear c5
   (first|rw [c5b0]|(simp only [i64_w,i32_w];rw [c5b0])|skip)
   have H':=Am H
   clear H
   go_wp2
   go_meet
   case rel=>exact ⟨_,(true),(by first|rfl|(simp;done)|(simp [*];done)),H',⟨by first|omega|exact Nat.le_refl _⟩,⟨by (with_reducible repeat first|apply kN|apply kD|apply kA);exact BK297.out⟩,⟨by repeat (first|(with_reducible first|exact HB.out|apply bA|apply bN|apply bD|refine bS ?_ GE297.out)|exact HB.out)⟩⟩
  ·rw [if_neg c5] at H
   have c5b0:decide (a0 < 1)=false:=decide_eq_false c5
   clear c5
   (first|rw [c5b0]|(simp only [i64_w,i32_w];rw [c5b0])|skip)
   have H':=Am H
   clear H
   go_wp2
   go_meet
   case rel=>exact ⟨_,(decide (a1 < 1)),(by first|rfl|(simp;done)|(simp [*];done)),H',⟨by first|omega|exact Nat.le_refl _⟩,⟨by (with_reducible repeat first|apply kN|apply kD|apply kA);exact BK297.out⟩,⟨by repeat (first|(with_reducible first|exact HB.out|apply bA|apply bN|apply bD|refine bS ?_ GE297.out)|exact HB.out)⟩⟩
 case rest =>
  clear HC3;(try clear c2);(try clear p2);(try clear c5);(try clear c5b0)
  obtain ⟨kq,x13_2,rfl,HA,HJ2,BK297,HB⟩:=hcut
  cases kq with
  | zero=>exact absurd HA.out (by simp [soundserviceref03_Make.j0])
  | succ kj2 =>
   have H:=HA.out
   clear HA
   simp only [soundserviceref03_Make.j0] at H
   by_cases c6:x13_2=true
   ·subst c6
    have H1:(some (0,0,1))=some (r1,r2,r3):=by rw [if_pos rfl] at H;exact H
    clear H;have H:=H1;clear H1
    simp only [Option.some.injEq,Prod.mk.injEq] at H
    obtain ⟨rfl,rfl,rfl⟩:=H
    have hcz7_0:wc.cell? ⟨gb297,0,none⟩=some (.int .i64 0):=(blk_cell BK297.out 0).trans rfl
    have hcz7_1:wc.cell? ⟨gb297,1,none⟩=some (.int .i64 0):=(blk_cell BK297.out 1).trans rfl
    have hfz7_0:=blk_frozen BK297.out 0
    have hfz7_1:=blk_frozen BK297.out 1
    go_wp2
    refine bodyPost_ret (results_ct rfl _ _ gb297 27 #[.int .i64 0, .int .i64 0] (0,0) _ rfl (by (with_reducible repeat first|apply kN|apply kD|apply kA);refine blk_put (cs:=#[.int .i64 0, .int .i64 0]) ?_ 1 _ rfl;(with_reducible repeat first|apply kN|apply kD|apply kA);refine blk_put (cs:=#[.int .i64 0, .int .i64 0]) ?_ 0 _ rfl;(with_reducible repeat first|apply kN|apply kD|apply kA);exact BK297.out) Try.underlying27 rfl (by kernel_rfl)) rfl ?_
    exact ⟨by first|rfl|(simp [errW_none,errW_some] <;> rfl)|(simp [*,errW_none,errW_some] <;> rfl),by repeat (first|(with_reducible first|exact HB.out|apply bA|apply bN|apply bD|refine bS ?_ GE297.out)|exact HB.out)⟩
   ·replace c6:=Bool.eq_false_iff.mpr c6
    subst c6
    have H1:((soundserviceref03_gcd.f kj2 a0 a1).bind fun t298=>(if t298=0 then (none) else (if (wrap64 (Int.tdiv a0 t298)) > 68719476736 then (some (0,0,2)) else (if (wrap64 (Int.tdiv a1 t298)) > 68719476736 then (some (0,0,2)) else (some (wrap64 (Int.tdiv a0 t298),wrap64 (Int.tdiv a1 t298),0))))))=some (r1,r2,r3):=by rw [if_neg (show ¬ (false=true) by decide)] at H;exact H
    clear H;have H:=H1;clear H1
    replace H:=Option.bind_eq_some_iff.mp H
    obtain ⟨t298,A80,H⟩:=H
    replace H:(if t298=0 then (none) else (if (wrap64 (Int.tdiv a0 t298)) > 68719476736 then (some (0,0,2)) else (if (wrap64 (Int.tdiv a1 t298)) > 68719476736 then (some (0,0,2)) else (some (wrap64 (Int.tdiv a0 t298),wrap64 (Int.tdiv a1 t298),0)))))=some (r1,r2,r3):=H
    have A8:=Am A80
    clear A80
    by_cases c9:t298=0
    ·rw [if_pos c9] at H
     exact absurd H (by simp)
    ·rw [if_neg c9] at H
     have c9b0:(t298 == 0)=false:=beq_eq_false_iff_ne.mpr c9
     have c9b1:(t298 != 0)=true:=bne_iff_ne.mpr c9
     by_cases c10:(wrap64 (Int.tdiv a0 t298)) > 68719476736
     ·rw [if_pos c10] at H
      have c10b0:decide (68719476736 < (wrap64 (Int.tdiv a0 t298)))=true:=decide_eq_true c10
      clear c10
      simp only [Option.some.injEq,Prod.mk.injEq] at H
      obtain ⟨rfl,rfl,rfl⟩:=H
      try go_wp2_with (first|((with_reducible refine gate_callee (f:=34) rfl ?_);refine goesL_ (some 17) rfl rfl Try.func34 (by kernel_rfl) rfl #[.int .i64 a0, .int .i64 a1] rfl (by (try simp only [List.map_toArray,List.map_cons,List.map_nil]);first|done|rfl|(simp only [List.length_drop,List.length_take];rfl)) ?_;(with_reducible refine (soundserviceref03_gcd.calls kj2 a0 a1 t298 _ A8.out).mono ?_);rintro e w' ⟨rfl,⟨nd,rfl⟩⟩;refine ⟨_,rfl,?_⟩;(try (rw [drewN_self wc];generalize hq_:World.drewN wc _=wc;have n0_:Aside0 (wc.heap[gb297]?=some (.cells #[.int .i64 0, .int .i64 0] 27 (0,0))):=⟨by rw [← hq_];exact (by (with_reducible repeat first|apply kN|apply kD|apply kA);exact BK297.out)⟩;have n1_:Aside0 (Below w.heap.size w wc):=⟨by rw [← hq_];exact (by repeat (first|(with_reducible first|exact HB.out|apply bA|apply bN|apply bD|refine bS ?_ GE297.out)|exact HB.out))⟩;clear BK297 HB hq_;have BK297:=n0_;have HB:=n1_;clear n0_ n1_))))
      have n0_:=Am (kD BK297.out)
      have n1_:=Am (bD HB.out)
      clear BK297 HB;have BK297:=n0_;have HB:=n1_;clear n0_ n1_
      refine start_ (n:=9) (S:=fun w'=>True) (ds:=[]) soundserviceref03_Make.q0 (by kernel_rfl) rfl rfl trivial (fun hHeld=>?_);refine with_tabW soundserviceref03_Make.tab4 soundserviceref03_Make.bits4 (fun HT_ HW_=>?_)
      generalize wc.drew=w11 at BK297 HB hHeld ⊢
      refine pure_ (i:=0) (N:=some 18) (v:=?_) (a':=?_) soundserviceref03_Make.q1 rfl rfl (any_of HT_.out (by kernel_rfl)) (fun _ _ _ h=>h) (Or.inl ⟨by rfl,?_⟩) ?_ ?_
      rotate_left;(· intro w';go_simp;with_reducible rfl);rotate_left;(· simp only [pL,i64_w,i32_w];rfl)
      refine pure_ (i:=1) (N:=some 19) (v:=?_) (a':=?_) soundserviceref03_Make.q2 rfl rfl (any_of HT_.out (by kernel_rfl)) (fun _ _ _ h=>h) (Or.inl ⟨by rfl,?_⟩) ?_ ?_
      rotate_left;(· intro w';go_simp;with_reducible rfl);rotate_left;(· simp only [pL,i64_w,i32_w];rfl)
      refine pure_ (i:=2) (N:=some 20) (v:=?_) (a':=?_) soundserviceref03_Make.q3 rfl rfl (any_of HT_.out (by kernel_rfl)) (fun _ _ _ h=>h) (Or.inl ⟨by rfl,?_⟩) ?_ ?_
      rotate_left;(· intro w';go_simp;with_reducible rfl);rotate_left;(· simp only [pL,i64_w,i32_w];rfl)
      refine pure_ (i:=3) (N:=some 21) (v:=?_) (a':=?_) soundserviceref03_Make.q4 rfl rfl (any_of HT_.out (by kernel_rfl)) (fun _ _ _ h=>h) (Or.inl ⟨by rfl,?_⟩) ?_ ?_
      rotate_left;(· intro w';go_simp;with_reducible rfl);rotate_left;(· simp only [pL,i64_w,i32_w];rfl)
      refine pure_ (i:=4) (N:=some 22) (v:=?_) (a':=?_) #[true,true,true,true,true,false,false,false,false] rfl rfl (any_of HT_.out (by kernel_rfl)) (fun _ _ _ h=>h) (Or.inl ⟨by rfl,?_⟩) ?_ ?_
      rotate_left;(· intro w';go_simp;with_reducible rfl);rotate_left;(· simp only [pL,i64_w,i32_w];rfl)
      refine pure_ (i:=5) (N:=some 23) (v:=?_) (a':=?_) #[true,true,true,true,true,true,false,false,false] rfl rfl (any_of HT_.out (by kernel_rfl)) (fun _ _ _ h=>h) (Or.inl ⟨by rfl,?_⟩) ?_ ?_
      rotate_left;(· intro w';go_simp;with_reducible rfl);rotate_left;(· simp only [pL,i64_w,i32_w];rfl)
      refine pure_ (i:=6) (N:=some 24) (v:=?_) (a':=?_) #[true,true,true,true,true,true,true,false,false] rfl rfl (any_of HT_.out (by kernel_rfl)) (fun _ _ _ h=>h) (Or.inl ⟨by rfl,?_⟩) ?_ ?_
      rotate_left;(· intro w';go_simp;with_reducible rfl);rotate_left;(· simp only [pL,i64_w,i32_w];rfl)
      refine one_ (i:=7) (N:=some 7) #[true,true,true,true,true,true,true,true,false] rfl rfl (one_of HT_.out (by kernel_rfl)) (by decide) (fun K hK=>?_)
      refine box_step ?hg (N:=7) ?hd (cs:=#[.int .i64 0, .int .i64 0]) (t:=27) ?hr ?_;(case hd=>rfl);(case hg=>rfl);(case hr=>first|(go_simp;done)|(go_simp;rfl))
      intro gb299 hg w12 hbox hb
      have n0_:=Am (blk_below (g:=gb297) (o:=.cells #[.int .i64 0, .int .i64 0] 27 (0,0)) (by (with_reducible repeat first|apply kN|apply kD|apply kA);exact BK297.out) hb)
      have n1_:=Am (below_step (by repeat (first|(with_reducible first|exact HB.out|apply bA|apply bN|apply bD|refine bS ?_ GE297.out)|exact HB.out)) hb)
      have n2_:=Am (hbox)
      have n3_:=Am ((by rw [hg];exact (below_size (by repeat (first|(with_reducible first|exact HB.out|apply bA|apply bN|apply bD|refine bS ?_ GE297.out)|exact HB.out))):w.heap.size≤gb299))
      have n4_:=Am ((by rw [hg];exact (below_size (by repeat (first|(with_reducible first|exact HB.out|apply bA|apply bN|apply bD|refine bS ?_ GE297.out)|exact HB.out))):w.heap.size≤gb299))
      have n5_:=Am ((by rw [hg];exact Nat.ne_of_lt (blk_lt (g:=gb297) (o:=.cells #[.int .i64 0, .int .i64 0] 27 (0,0)) (by (with_reducible repeat first|apply kN|apply kD|apply kA);exact BK297.out)):gb297≠gb299))
      have n6_:=Am ((by rw [hg];exact Nat.ne_of_gt (blk_lt (g:=gb297) (o:=.cells #[.int .i64 0, .int .i64 0] 27 (0,0)) (by (with_reducible repeat first|apply kN|apply kD|apply kA);exact BK297.out)):gb299≠gb297))
      clear BK297 HB;have BK297:=n0_;have HB:=n1_;have BK299:=n2_;have GW299:=n3_;have GE299:=n4_;have NB297_299:=n5_;have NB299_297:=n6_;clear n0_ n1_ n2_ n3_ n4_ n5_ n6_ hb hbox hg
      refine hK.out _ _ trivial (fun hHeld=>?_)
      clear hK K
      refine norm_ (a':=?_) ?_ ?_
      rotate_left
      ·show Act.put _ (some 7) _=_
       simp only [pL,i64_w,i32_w]
       rfl
      refine one_ (i:=8) (N:=none) #[true,true,true,true,true,true,true,true,true] rfl rfl (one_of HT_.out (by kernel_rfl)) (by decide) (fun K hK=>?_)
      have hs13:w12.cell? ⟨gb299,0,none⟩=some (.int .i64 0):=(blk_cell BK299.out 0).trans rfl
      have hfs13:=blk_frozen BK299.out 0
      have hns13_0:=NB297_299.out
      have hms13_0:=NB299_297.out
      have hs14:w12.cell? ⟨gb299,1,none⟩=some (.int .i64 0):=(blk_cell BK299.out 1).trans rfl
      have hfs14:=blk_frozen BK299.out 1
      have hns14_0:=NB297_299.out
      have hms14_0:=NB299_297.out
      refine skip_ (w1:=?_) (by rfl) rfl ?_ ?_
      rotate_left
      ·go_simp
       rfl
      refine hK.out _ _ trivial (fun hHeld=>?_)
      clear hK K
      refine done_ (done_of HT_.out (by kernel_rfl)) ?_
      have hnb15:=NB299_297.out
      have hnc15:=NB297_299.out
      have hcz16_0:w12.cell? ⟨gb299,0,none⟩=some (.int .i64 0):=(blk_cell BK299.out 0).trans rfl
      have hcz16_1:w12.cell? ⟨gb299,1,none⟩=some (.int .i64 0):=(blk_cell BK299.out 1).trans rfl
      have hfz16_0:=blk_frozen BK299.out 0
      have hfz16_1:=blk_frozen BK299.out 1
      have hcz17_0:w12.cell? ⟨gb297,0,none⟩=some (.int .i64 0):=(blk_cell BK297.out 0).trans rfl
      have hcz17_1:w12.cell? ⟨gb297,1,none⟩=some (.int .i64 0):=(blk_cell BK297.out 1).trans rfl
      have hfz17_0:=blk_frozen BK297.out 0
      have hfz17_1:=blk_frozen BK297.out 1
      try go_wp2
      refine bodyPost_ret (results_ct rfl _ _ gb297 27 #[.int .i64 0, .int .i64 0] (0,0) _ rfl (by (with_reducible repeat first|apply kN|apply kD|apply kA);refine blk_put (cs:=#[.int .i64 0, .int .i64 0]) ?_ 1 _ rfl;(with_reducible repeat first|apply kN|apply kD|apply kA);refine blk_put (cs:=#[.int .i64 0, .int .i64 0]) ?_ 0 _ rfl;(with_reducible repeat first|apply kN|apply kD|apply kA);refine blk_far ?_ NB297_299.out _;(with_reducible repeat first|apply kN|apply kD|apply kA);refine blk_far ?_ NB297_299.out _;(with_reducible repeat first|apply kN|apply kD|apply kA);exact BK297.out) Try.underlying27 rfl (by kernel_rfl)) rfl ?_
      exact ⟨by first|rfl|(simp [errW_none,errW_some] <;> rfl)|(simp [*,errW_none,errW_some] <;> rfl),by repeat (first|(with_reducible first|exact HB.out|apply bA|apply bN|apply bD|refine bS ?_ GE297.out|refine bS ?_ GE299.out)|exact HB.out)⟩
     ·rw [if_neg c10] at H
      have c10b0:decide (68719476736 < (wrap64 (Int.tdiv a0 t298)))=false:=decide_eq_false c10
      clear c10
      by_cases c18:(wrap64 (Int.tdiv a1 t298)) > 68719476736
      ·rw [if_pos c18] at H
       have c18b0:decide (68719476736 < (wrap64 (Int.tdiv a1 t298)))=true:=decide_eq_true c18
       clear c18
       simp only [Option.some.injEq,Prod.mk.injEq] at H
       obtain ⟨rfl,rfl,rfl⟩:=H
       try go_wp2_with (first|((with_reducible refine gate_callee (f:=34) rfl ?_);refine goesL_ (some 17) rfl rfl Try.func34 (by kernel_rfl) rfl #[.int .i64 a0, .int .i64 a1] rfl (by (try simp only [List.map_toArray,List.map_cons,List.map_nil]);first|done|rfl|(simp only [List.length_drop,List.length_take];rfl)) ?_;(with_reducible refine (soundserviceref03_gcd.calls kj2 a0 a1 t298 _ A8.out).mono ?_);rintro e w' ⟨rfl,⟨nd,rfl⟩⟩;refine ⟨_,rfl,?_⟩;(try (rw [drewN_self wc];generalize hq_:World.drewN wc _=wc;have n0_:Aside0 (wc.heap[gb297]?=some (.cells #[.int .i64 0, .int .i64 0] 27 (0,0))):=⟨by rw [← hq_];exact (by (with_reducible repeat first|apply kN|apply kD|apply kA);exact BK297.out)⟩;have n1_:Aside0 (Below w.heap.size w wc):=⟨by rw [← hq_];exact (by repeat (first|(with_reducible first|exact HB.out|apply bA|apply bN|apply bD|refine bS ?_ GE297.out)|exact HB.out))⟩;clear BK297 HB hq_;have BK297:=n0_;have HB:=n1_;clear n0_ n1_))))
       have n0_:=Am (kD BK297.out)
       have n1_:=Am (bD HB.out)
       clear BK297 HB;have BK297:=n0_;have HB:=n1_;clear n0_ n1_
       refine start_ (n:=9) (S:=fun w'=>True) (ds:=[]) soundserviceref03_Make.q0 (by kernel_rfl) rfl rfl trivial (fun hHeld=>?_);refine with_tabW soundserviceref03_Make.tab4 soundserviceref03_Make.bits4 (fun HT_ HW_=>?_)
       generalize wc.drew=w19 at BK297 HB hHeld ⊢
       refine pure_ (i:=0) (N:=some 18) (v:=?_) (a':=?_) soundserviceref03_Make.q1 rfl rfl (any_of HT_.out (by kernel_rfl)) (fun _ _ _ h=>h) (Or.inl ⟨by rfl,?_⟩) ?_ ?_
       rotate_left;(· intro w';go_simp;with_reducible rfl);rotate_left;(· simp only [pL,i64_w,i32_w];rfl)
       refine pure_ (i:=1) (N:=some 19) (v:=?_) (a':=?_) soundserviceref03_Make.q2 rfl rfl (any_of HT_.out (by kernel_rfl)) (fun _ _ _ h=>h) (Or.inl ⟨by rfl,?_⟩) ?_ ?_
       rotate_left;(· intro w';go_simp;with_reducible rfl);rotate_left;(· simp only [pL,i64_w,i32_w];rfl)
       refine pure_ (i:=2) (N:=some 20) (v:=?_) (a':=?_) soundserviceref03_Make.q3 rfl rfl (any_of HT_.out (by kernel_rfl)) (fun _ _ _ h=>h) (Or.inl ⟨by rfl,?_⟩) ?_ ?_
       rotate_left;(· intro w';go_simp;with_reducible rfl);rotate_left;(· simp only [pL,i64_w,i32_w];rfl)
       refine pure_ (i:=3) (N:=some 21) (v:=?_) (a':=?_) soundserviceref03_Make.q4 rfl rfl (any_of HT_.out (by kernel_rfl)) (fun _ _ _ h=>h) (Or.inl ⟨by rfl,?_⟩) ?_ ?_
       rotate_left;(· intro w';go_simp;with_reducible rfl);rotate_left;(· simp only [pL,i64_w,i32_w];rfl)
       refine pure_ (i:=4) (N:=some 22) (v:=?_) (a':=?_) #[true,true,true,true,true,false,false,false,false] rfl rfl (any_of HT_.out (by kernel_rfl)) (fun _ _ _ h=>h) (Or.inl ⟨by rfl,?_⟩) ?_ ?_
       rotate_left;(· intro w';go_simp;with_reducible rfl);rotate_left;(· simp only [pL,i64_w,i32_w];rfl)
       refine pure_ (i:=5) (N:=some 23) (v:=?_) (a':=?_) #[true,true,true,true,true,true,false,false,false] rfl rfl (any_of HT_.out (by kernel_rfl)) (fun _ _ _ h=>h) (Or.inl ⟨by rfl,?_⟩) ?_ ?_
       rotate_left;(· intro w';go_simp;with_reducible rfl);rotate_left;(· simp only [pL,i64_w,i32_w];rfl)
       refine pure_ (i:=6) (N:=some 24) (v:=?_) (a':=?_) #[true,true,true,true,true,true,true,false,false] rfl rfl (any_of HT_.out (by kernel_rfl)) (fun _ _ _ h=>h) (Or.inl ⟨by rfl,?_⟩) ?_ ?_
       rotate_left;(· intro w';go_simp;with_reducible rfl);rotate_left;(· simp only [pL,i64_w,i32_w];rfl)
       refine one_ (i:=7) (N:=some 7) #[true,true,true,true,true,true,true,true,false] rfl rfl (one_of HT_.out (by kernel_rfl)) (by decide) (fun K hK=>?_)
       refine box_step ?hg (N:=7) ?hd (cs:=#[.int .i64 0, .int .i64 0]) (t:=27) ?hr ?_;(case hd=>rfl);(case hg=>rfl);(case hr=>first|(go_simp;done)|(go_simp;rfl))
       intro gb299 hg w20 hbox hb
       have n0_:=Am (blk_below (g:=gb297) (o:=.cells #[.int .i64 0, .int .i64 0] 27 (0,0)) (by (with_reducible repeat first|apply kN|apply kD|apply kA);exact BK297.out) hb)
       have n1_:=Am (below_step (by repeat (first|(with_reducible first|exact HB.out|apply bA|apply bN|apply bD|refine bS ?_ GE297.out)|exact HB.out)) hb)
       have n2_:=Am (hbox)
       have n3_:=Am ((by rw [hg];exact (below_size (by repeat (first|(with_reducible first|exact HB.out|apply bA|apply bN|apply bD|refine bS ?_ GE297.out)|exact HB.out))):w.heap.size≤gb299))
       have n4_:=Am ((by rw [hg];exact (below_size (by repeat (first|(with_reducible first|exact HB.out|apply bA|apply bN|apply bD|refine bS ?_ GE297.out)|exact HB.out))):w.heap.size≤gb299))
       have n5_:=Am ((by rw [hg];exact Nat.ne_of_lt (blk_lt (g:=gb297) (o:=.cells #[.int .i64 0, .int .i64 0] 27 (0,0)) (by (with_reducible repeat first|apply kN|apply kD|apply kA);exact BK297.out)):gb297≠gb299))
       have n6_:=Am ((by rw [hg];exact Nat.ne_of_gt (blk_lt (g:=gb297) (o:=.cells #[.int .i64 0, .int .i64 0] 27 (0,0)) (by (with_reducible repeat first|apply kN|apply kD|apply kA);exact BK297.out)):gb299≠gb297))
       clear BK297 HB;have BK297:=n0_;have HB:=n1_;have BK299:=n2_;have GW299:=n3_;have GE299:=n4_;have NB297_299:=n5_;have NB299_297:=n6_;clear n0_ n1_ n2_ n3_ n4_ n5_ n6_ hb hbox hg
       refine hK.out _ _ trivial (fun hHeld=>?_)
       clear hK K
       refine norm_ (a':=?_) ?_ ?_
       rotate_left
       ·show Act.put _ (some 7) _=_
        simp only [pL,i64_w,i32_w]
        rfl
       refine one_ (i:=8) (N:=none) #[true,true,true,true,true,true,true,true,true] rfl rfl (one_of HT_.out (by kernel_rfl)) (by decide) (fun K hK=>?_)
       have hs21:w20.cell? ⟨gb299,0,none⟩=some (.int .i64 0):=(blk_cell BK299.out 0).trans rfl
       have hfs21:=blk_frozen BK299.out 0
       have hns21_0:=NB297_299.out
       have hms21_0:=NB299_297.out
       have hs22:w20.cell? ⟨gb299,1,none⟩=some (.int .i64 0):=(blk_cell BK299.out 1).trans rfl
       have hfs22:=blk_frozen BK299.out 1
       have hns22_0:=NB297_299.out
       have hms22_0:=NB299_297.out
       refine skip_ (w1:=?_) (by rfl) rfl ?_ ?_
       rotate_left
       ·go_simp
        rfl
       refine hK.out _ _ trivial (fun hHeld=>?_)
       clear hK K
       refine done_ (done_of HT_.out (by kernel_rfl)) ?_
       have hnb23:=NB299_297.out
       have hnc23:=NB297_299.out
       have hcz24_0:w20.cell? ⟨gb299,0,none⟩=some (.int .i64 0):=(blk_cell BK299.out 0).trans rfl
       have hcz24_1:w20.cell? ⟨gb299,1,none⟩=some (.int .i64 0):=(blk_cell BK299.out 1).trans rfl
       have hfz24_0:=blk_frozen BK299.out 0
       have hfz24_1:=blk_frozen BK299.out 1
       have hcz25_0:w20.cell? ⟨gb297,0,none⟩=some (.int .i64 0):=(blk_cell BK297.out 0).trans rfl
       have hcz25_1:w20.cell? ⟨gb297,1,none⟩=some (.int .i64 0):=(blk_cell BK297.out 1).trans rfl
       have hfz25_0:=blk_frozen BK297.out 0
       have hfz25_1:=blk_frozen BK297.out 1
       try go_wp2
       refine bodyPost_ret (results_ct rfl _ _ gb297 27 #[.int .i64 0, .int .i64 0] (0,0) _ rfl (by (with_reducible repeat first|apply kN|apply kD|apply kA);refine blk_put (cs:=#[.int .i64 0, .int .i64 0]) ?_ 1 _ rfl;(with_reducible repeat first|apply kN|apply kD|apply kA);refine blk_put (cs:=#[.int .i64 0, .int .i64 0]) ?_ 0 _ rfl;(with_reducible repeat first|apply kN|apply kD|apply kA);refine blk_far ?_ NB297_299.out _;(with_reducible repeat first|apply kN|apply kD|apply kA);refine blk_far ?_ NB297_299.out _;(with_reducible repeat first|apply kN|apply kD|apply kA);exact BK297.out) Try.underlying27 rfl (by kernel_rfl)) rfl ?_
       exact ⟨by first|rfl|(simp [errW_none,errW_some] <;> rfl)|(simp [*,errW_none,errW_some] <;> rfl),by repeat (first|(with_reducible first|exact HB.out|apply bA|apply bN|apply bD|refine bS ?_ GE297.out|refine bS ?_ GE299.out)|exact HB.out)⟩
      ·rw [if_neg c18] at H
       have c18b0:decide (68719476736 < (wrap64 (Int.tdiv a1 t298)))=false:=decide_eq_false c18
       clear c18
       simp only [Option.some.injEq,Prod.mk.injEq] at H
       obtain ⟨rfl,rfl,rfl⟩:=H
       try go_wp2_with (first|((with_reducible refine gate_callee (f:=34) rfl ?_);refine goesL_ (some 17) rfl rfl Try.func34 (by kernel_rfl) rfl #[.int .i64 a0, .int .i64 a1] rfl (by (try simp only [List.map_toArray,List.map_cons,List.map_nil]);first|done|rfl|(simp only [List.length_drop,List.length_take];rfl)) ?_;(with_reducible refine (soundserviceref03_gcd.calls kj2 a0 a1 t298 _ A8.out).mono ?_);rintro e w' ⟨rfl,⟨nd,rfl⟩⟩;refine ⟨_,rfl,?_⟩;(try (rw [drewN_self wc];generalize hq_:World.drewN wc _=wc;have n0_:Aside0 (wc.heap[gb297]?=some (.cells #[.int .i64 0, .int .i64 0] 27 (0,0))):=⟨by rw [← hq_];exact (by (with_reducible repeat first|apply kN|apply kD|apply kA);exact BK297.out)⟩;have n1_:Aside0 (Below w.heap.size w wc):=⟨by rw [← hq_];exact (by repeat (first|(with_reducible first|exact HB.out|apply bA|apply bN|apply bD|refine bS ?_ GE297.out)|exact HB.out))⟩;clear BK297 HB hq_;have BK297:=n0_;have HB:=n1_;clear n0_ n1_))))
       have n0_:=Am (kD BK297.out)
       have n1_:=Am (bD HB.out)
       clear BK297 HB;have BK297:=n0_;have HB:=n1_;clear n0_ n1_
       refine start_ (n:=9) (S:=fun w'=>True) (ds:=[]) soundserviceref03_Make.q0 (by kernel_rfl) rfl rfl trivial (fun hHeld=>?_);refine with_tabW soundserviceref03_Make.tab4 soundserviceref03_Make.bits4 (fun HT_ HW_=>?_)
       generalize wc.drew=w26 at BK297 HB hHeld ⊢
       refine pure_ (i:=0) (N:=some 18) (v:=?_) (a':=?_) soundserviceref03_Make.q1 rfl rfl (any_of HT_.out (by kernel_rfl)) (fun _ _ _ h=>h) (Or.inl ⟨by rfl,?_⟩) ?_ ?_
       rotate_left;(· intro w';go_simp;with_reducible rfl);rotate_left;(· simp only [pL,i64_w,i32_w];rfl)
       refine pure_ (i:=1) (N:=some 19) (v:=?_) (a':=?_) soundserviceref03_Make.q2 rfl rfl (any_of HT_.out (by kernel_rfl)) (fun _ _ _ h=>h) (Or.inl ⟨by rfl,?_⟩) ?_ ?_
       rotate_left;(· intro w';go_simp;with_reducible rfl);rotate_left;(· simp only [pL,i64_w,i32_w];rfl)
       refine pure_ (i:=2) (N:=some 20) (v:=?_) (a':=?_) soundserviceref03_Make.q3 rfl rfl (any_of HT_.out (by kernel_rfl)) (fun _ _ _ h=>h) (Or.inl ⟨by rfl,?_⟩) ?_ ?_
       rotate_left;(· intro w';go_simp;with_reducible rfl);rotate_left;(· simp only [pL,i64_w,i32_w];rfl)
       refine pure_ (i:=3) (N:=some 21) (v:=?_) (a':=?_) soundserviceref03_Make.q4 rfl rfl (any_of HT_.out (by kernel_rfl)) (fun _ _ _ h=>h) (Or.inl ⟨by rfl,?_⟩) ?_ ?_
       rotate_left;(· intro w';go_simp;with_reducible rfl);rotate_left;(· simp only [pL,i64_w,i32_w];rfl)
       refine pure_ (i:=4) (N:=some 22) (v:=?_) (a':=?_) #[true,true,true,true,true,false,false,false,false] rfl rfl (any_of HT_.out (by kernel_rfl)) (fun _ _ _ h=>h) (Or.inl ⟨by rfl,?_⟩) ?_ ?_
       rotate_left;(· intro w';go_simp;with_reducible rfl);rotate_left;(· simp only [pL,i64_w,i32_w];rfl)
       refine pure_ (i:=5) (N:=some 23) (v:=?_) (a':=?_) #[true,true,true,true,true,true,false,false,false] rfl rfl (any_of HT_.out (by kernel_rfl)) (fun _ _ _ h=>h) (Or.inl ⟨by rfl,?_⟩) ?_ ?_
       rotate_left;(· intro w';go_simp;with_reducible rfl);rotate_left;(· simp only [pL,i64_w,i32_w];rfl)
       refine pure_ (i:=6) (N:=some 24) (v:=?_) (a':=?_) #[true,true,true,true,true,true,true,false,false] rfl rfl (any_of HT_.out (by kernel_rfl)) (fun _ _ _ h=>h) (Or.inl ⟨by rfl,?_⟩) ?_ ?_
       rotate_left;(· intro w';go_simp;with_reducible rfl);rotate_left;(· simp only [pL,i64_w,i32_w];rfl)
       refine one_ (i:=7) (N:=some 7) #[true,true,true,true,true,true,true,true,false] rfl rfl (one_of HT_.out (by kernel_rfl)) (by decide) (fun K hK=>?_)
       refine box_step ?hg (N:=7) ?hd (cs:=#[.int .i64 0, .int .i64 0]) (t:=27) ?hr ?_;(case hd=>rfl);(case hg=>rfl);(case hr=>first|(go_simp;done)|(go_simp;rfl))
       intro gb299 hg w27 hbox hb
       have n0_:=Am (blk_below (g:=gb297) (o:=.cells #[.int .i64 0, .int .i64 0] 27 (0,0)) (by (with_reducible repeat first|apply kN|apply kD|apply kA);exact BK297.out) hb)
       have n1_:=Am (below_step (by repeat (first|(with_reducible first|exact HB.out|apply bA|apply bN|apply bD|refine bS ?_ GE297.out)|exact HB.out)) hb)
       have n2_:=Am (hbox)
       have n3_:=Am ((by rw [hg];exact (below_size (by repeat (first|(with_reducible first|exact HB.out|apply bA|apply bN|apply bD|refine bS ?_ GE297.out)|exact HB.out))):w.heap.size≤gb299))
       have n4_:=Am ((by rw [hg];exact (below_size (by repeat (first|(with_reducible first|exact HB.out|apply bA|apply bN|apply bD|refine bS ?_ GE297.out)|exact HB.out))):w.heap.size≤gb299))
       have n5_:=Am ((by rw [hg];exact Nat.ne_of_lt (blk_lt (g:=gb297) (o:=.cells #[.int .i64 0, .int .i64 0] 27 (0,0)) (by (with_reducible repeat first|apply kN|apply kD|apply kA);exact BK297.out)):gb297≠gb299))
       have n6_:=Am ((by rw [hg];exact Nat.ne_of_gt (blk_lt (g:=gb297) (o:=.cells #[.int .i64 0, .int .i64 0] 27 (0,0)) (by (with_reducible repeat first|apply kN|apply kD|apply kA);exact BK297.out)):gb299≠gb297))
       clear BK297 HB;have BK297:=n0_;have HB:=n1_;have BK299:=n2_;have GW299:=n3_;have GE299:=n4_;have NB297_299:=n5_;have NB299_297:=n6_;clear n0_ n1_ n2_ n3_ n4_ n5_ n6_ hb hbox hg
       refine hK.out _ _ trivial (fun hHeld=>?_)
       clear hK K
       refine norm_ (a':=?_) ?_ ?_
       rotate_left
       ·show Act.put _ (some 7) _=_
        simp only [pL,i64_w,i32_w]
        rfl
       refine one_ (i:=8) (N:=none) #[true,true,true,true,true,true,true,true,true] rfl rfl (one_of HT_.out (by kernel_rfl)) (by decide) (fun K hK=>?_)
       have hs28:w27.cell? ⟨gb299,0,none⟩=some (.int .i64 0):=(blk_cell BK299.out 0).trans rfl
       have hfs28:=blk_frozen BK299.out 0
       have hns28_0:=NB297_299.out
       have hms28_0:=NB299_297.out
       have hs29:w27.cell? ⟨gb299,1,none⟩=some (.int .i64 0):=(blk_cell BK299.out 1).trans rfl
       have hfs29:=blk_frozen BK299.out 1
       have hns29_0:=NB297_299.out
       have hms29_0:=NB299_297.out
       refine skip_ (w1:=?_) (by rfl) rfl ?_ ?_
       rotate_left
       ·go_simp
        rfl
       refine hK.out _ _ trivial (fun hHeld=>?_)
       clear hK K
       refine done_ (done_of HT_.out (by kernel_rfl)) ?_
       have hnb30:=NB299_297.out
       have hnc30:=NB297_299.out
       have hcz31_0:w27.cell? ⟨gb299,0,none⟩=some (.int .i64 0):=(blk_cell BK299.out 0).trans rfl
       have hcz31_1:w27.cell? ⟨gb299,1,none⟩=some (.int .i64 0):=(blk_cell BK299.out 1).trans rfl
       have hfz31_0:=blk_frozen BK299.out 0
       have hfz31_1:=blk_frozen BK299.out 1
       have hcz32_0:w27.cell? ⟨gb297,0,none⟩=some (.int .i64 0):=(blk_cell BK297.out 0).trans rfl
       have hcz32_1:w27.cell? ⟨gb297,1,none⟩=some (.int .i64 0):=(blk_cell BK297.out 1).trans rfl
       have hfz32_0:=blk_frozen BK297.out 0
       have hfz32_1:=blk_frozen BK297.out 1
       try go_wp2
       refine bodyPost_ret (results_ct rfl _ _ gb297 27 #[.int .i64 (wrap64 (Int.tdiv a0 t298)), .int .i64 (wrap64 (Int.tdiv a1 t298))] (0,0) _ rfl (by (with_reducible repeat first|apply kN|apply kD|apply kA);refine blk_put (cs:=#[.int .i64 (wrap64 (Int.tdiv a0 t298)), .int .i64 0]) ?_ 1 _ rfl;(with_reducible repeat first|apply kN|apply kD|apply kA);refine blk_put (cs:=#[.int .i64 0, .int .i64 0]) ?_ 0 _ rfl;(with_reducible repeat first|apply kN|apply kD|apply kA);refine blk_far ?_ NB297_299.out _;(with_reducible repeat first|apply kN|apply kD|apply kA);refine blk_far ?_ NB297_299.out _;(with_reducible repeat first|apply kN|apply kD|apply kA);exact BK297.out) Try.underlying27 rfl (by kernel_rfl)) rfl ?_
       exact ⟨by first|rfl|(simp [errW_none,errW_some] <;> rfl)|(simp [*,errW_none,errW_some] <;> rfl),by repeat (first|(with_reducible first|exact HB.out|apply bA|apply bN|apply bD|refine bS ?_ GE297.out|refine bS ?_ GE299.out)|exact HB.out)⟩

end Go.Proofs.Ythnmmiofhjbkeaa.PA
