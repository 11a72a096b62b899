/- Walks of functions of the program: each does what its Lean function says. Written by a program of this session (wip/xprint), which runs the printer of the kit with changes. -/
import Derived.Test.YthnmmiofhjbkeaaPAx0
import Derived.Test.YthnmmiofhjbkeaaPAx13
import Derived.Test.YthnmmiofhjbkeaaPAx24
namespace Go.Proofs.Ythnmmiofhjbkeaa.PA
open Go.RowKit Go.Proofs.YthnmmiofhjbkeaaW.PrintWords Go.Proofs.YthnmmiofhjbkeaaW.PrintLast Go.Proofs.YthnmmiofhjbkeaaW.PrintMore
attribute [local go_sem] max2_int min2_int max_two min_two max_three min_three max_four min_four   -- for this text's walks alone
set_option linter.unusedVariables false
set_option linter.unusedSimpArgs false

/-! ### soundserviceref13_Between: function 25 -/
def soundserviceref13_Between.j0:Nat→Int→Int→Bool→List (S61)→Option (Int × Int)
 | 0,_,_,_,_=>none
 | k+1,x1,x2,x21,x349000=>if x21=true then (some (0,2)) else ((soundserviceref13_position.f k x349000 x2).bind fun t350=>((soundserviceref13_position.f k x349000 x1).bind fun t351=>(some (wrap64 (t350 - t351),0))))
def soundserviceref13_Between.f (k:Nat) (l0_0:List (S61)) (a1:Int) (a2:Int):Option (Int × Int):=(soundserviceref13_Valid.f k l0_0).bind fun t349=>(if t349=true then (if a1 < 0 then (soundserviceref13_Between.j0 k a1 a2 true l0_0) else (if a2 > 1099511627776 then (soundserviceref13_Between.j0 k a1 a2 true l0_0) else (soundserviceref13_Between.j0 k a1 a2 (decide (a2 < a1)) l0_0))) else (some (0,1)))
theorem soundserviceref13_Between.mono_l:∀ k,(∀ y0 y1 y2 y3,LeO (soundserviceref13_Between.j0 k y0 y1 y2 y3) (soundserviceref13_Between.j0 (k+1) y0 y1 y2 y3))
 | 0=>fun _ _ _ _ r h=>by simp [soundserviceref13_Between.j0] at h
 | k+1=>by
  have ih0:=soundserviceref13_Between.mono_l k
  ·intro y0 y1 y2 y3
   unfold soundserviceref13_Between.j0
   repeat' first
   | (with_reducible exact ih0 _ _ _ _)
   | (with_reducible exact soundserviceref13_Valid.mono _ _)
   | (with_reducible exact soundserviceref13_position.mono _ _ _)
   | (with_reducible exact LeO.refl _)
   | (with_reducible exact LeO.none _)
   | (with_reducible refine LeO.ite ?_ ?_)
   | (with_reducible refine LeO.bind ?_ (fun _=>?_))
   | exact ih0 _ _ _ _
   | exact soundserviceref13_Valid.mono _ _
   | exact soundserviceref13_position.mono _ _ _
   | exact LeO.none _
   | refine LeO.ite ?_ ?_
   | refine LeO.bind ?_ (fun _=>?_)
theorem soundserviceref13_Between.mono:∀ a0 a1 a2 k,LeO (soundserviceref13_Between.f k a0 a1 a2) (soundserviceref13_Between.f (k+1) a0 a1 a2):=by
 intro a0 a1 a2 k
 have ih0:=soundserviceref13_Between.mono_l k
 unfold soundserviceref13_Between.f
 repeat' first
   | (with_reducible exact ih0 _ _ _ _)
   | (with_reducible exact soundserviceref13_Valid.mono _ _)
   | (with_reducible exact soundserviceref13_position.mono _ _ _)
   | (with_reducible exact LeO.refl _)
   | (with_reducible exact LeO.none _)
   | (with_reducible refine LeO.ite ?_ ?_)
   | (with_reducible refine LeO.bind ?_ (fun _=>?_))
   | exact ih0 _ _ _ _
   | exact soundserviceref13_Valid.mono _ _
   | exact soundserviceref13_position.mono _ _ _
   | exact LeO.none _
   | refine LeO.ite ?_ ?_
   | refine LeO.bind ?_ (fun _=>?_)
def soundserviceref13_Between.T5:Bool × List (List Nat × List Nat):=(true, [([], []),([], []),([0,1], [0,1]),([], []),([], []),([3,4,2], [3,4]),([2,5], [2,5]),([6,5,0,1,2,3,4,5,6], [6]),([7,0,1,2,3,4,5,6,7], [])])
def soundserviceref13_Between.B5:List Nat:=[0,0,3,0,0,31,63,127,255]
theorem soundserviceref13_Between.tab5:rtab .any (opsOf Try.f25 5)=soundserviceref13_Between.T5:=by kernel_rfl
theorem soundserviceref13_Between.bits5:waitsOk soundserviceref13_Between.T5.2 soundserviceref13_Between.B5=true:=by kernel_rfl
abbrev soundserviceref13_Between.q0:Array Bool:=#[false,false,false,false,false,false,false,false,false]
abbrev soundserviceref13_Between.q1:Array Bool:=#[false,true,false,false,false,false,false,false,false]
abbrev soundserviceref13_Between.q2:Array Bool:=#[false,true,false,false,true,false,false,false,false]
abbrev soundserviceref13_Between.q3:Array Bool:=#[true,true,false,false,true,false,false,false,false]
abbrev soundserviceref13_Between.q4:Array Bool:=#[true,true,false,true,true,false,false,false,false]
set_option maxHeartbeats 8000000 in
set_option maxRecDepth 100000 in
theorem soundserviceref13_Between.calls (k:Nat) (A0_0:Option Addr) (c0_0:Nat) (l0_0:List (S61)) (a1:Int) (a2:Int) (r1:Int) (r2:Int) (w:World) (hr0_0:Kd.C k61 w A0_0 l0_0.length l0_0) (hc0_0:l0_0.length≤c0_0) (h:soundserviceref13_Between.f k l0_0 a1 a2=some (r1,r2)) :
  Calls Try.prog 25 #[.agg #[.slice A0_0 l0_0.length c0_0], .int .i64 a1, .int .i64 a2] w fun e w'=>e=.returned (.tuple #[.int .i64 r1, .int .i64 r2])∧Below w.heap.size w w':=by
 have hu24:=Try.underlying24
 have HR0_0:=Am hr0_0
 have HC0_0:=Am hc0_0
 clear hr0_0 hc0_0
 have HB:=Am (Below.refl w.heap.size w)
 have H:((soundserviceref13_Valid.f k l0_0).bind fun t349=>(if t349=true then (if a1 < 0 then (soundserviceref13_Between.j0 k a1 a2 true l0_0) else (if a2 > 1099511627776 then (soundserviceref13_Between.j0 k a1 a2 true l0_0) else (soundserviceref13_Between.j0 k a1 a2 (decide (a2 < a1)) l0_0))) else (some (0,1))))=some (r1,r2):=h
 clear h
 replace H:=Option.bind_eq_some_iff.mp H
 obtain ⟨t349,A40,H⟩:=H
 replace H:(if t349=true then (if a1 < 0 then (soundserviceref13_Between.j0 k a1 a2 true l0_0) else (if a2 > 1099511627776 then (soundserviceref13_Between.j0 k a1 a2 true l0_0) else (soundserviceref13_Between.j0 k a1 a2 (decide (a2 < a1)) l0_0))) else (some (0,1)))=some (r1,r2):=H
 have A4:=Am A40
 clear A40
 by_cases c5:t349=true
 ·subst c5
  have H1:(if a1 < 0 then (soundserviceref13_Between.j0 k a1 a2 true l0_0) else (if a2 > 1099511627776 then (soundserviceref13_Between.j0 k a1 a2 true l0_0) else (soundserviceref13_Between.j0 k a1 a2 (decide (a2 < a1)) l0_0)))=some (r1,r2):=by rw [if_pos rfl] at H;exact H
  clear H;have H:=H1;clear H1
  have HC6:=Am H
  clear H
  go_enter Try.func25,Try.ntmps25
  go_upto_region 3 with (first|((with_reducible refine gate_dst (N:=3) rfl ?_);refine box_event ?hg (N:=3) ?hd (cs:=#[.slice A0_0 l0_0.length c0_0]) (t:=24) ?hr ?_;(case hd=>rfl);(case hg=>rfl);(case hr=>first|(go_simp;done)|(go_simp;rfl));intro gb348 hg w7 hbox hb;have n0_:=Am (below_step (by repeat (first|(with_reducible first|exact HB.out|apply bA|apply bN|apply bD)|exact HB.out)) hb);have n1_:=Am (hbox);have n2_:=Am ((by rw [hg];exact (below_size (by repeat (first|(with_reducible first|exact HB.out|apply bA|apply bN|apply bD)|exact HB.out))):w.heap.size≤gb348));have n3_:=Am ((by rw [hg];exact (below_size (by repeat (first|(with_reducible first|exact HB.out|apply bA|apply bN|apply bD)|exact HB.out))):w.heap.size≤gb348));clear HB;have HB:=n0_;have BK348:=n1_;have GW348:=n2_;have GE348:=n3_;clear n0_ n1_ n2_ n3_ hb hbox hg;have hcz8_0:w7.cell? ⟨gb348,0,none⟩=some (.slice A0_0 l0_0.length c0_0):=(blk_cell BK348.out 0).trans rfl;have hfz8_0:=blk_frozen BK348.out 0)|((with_reducible refine gate_callee (f:=18) rfl ?_);refine goesL_ (some 9) rfl rfl Try.func18 (by kernel_rfl) rfl #[.agg #[.slice A0_0 l0_0.length c0_0]] rfl (by (try simp only [List.map_toArray,List.map_cons,List.map_nil]);first|done|rfl|(simp only [List.length_drop,List.length_take];rfl)) ?_;(with_reducible refine (soundserviceref13_Valid.calls k _ _ l0_0 true _ ?side1 ?side2 A4.out).mono ?_);(case side1=>repeat (first|exact (Kd.C_below HR0_0.out HB.out)|(with_reducible refine Kd.C_alloc ?_ _)|(with_reducible refine Kd.C_drewN ?_ _)|(with_reducible refine Kd.C_drew ?_)));(case side2=>exact HC0_0.out);rintro e w9 ⟨rfl,hb⟩;refine ⟨_,rfl,?_⟩;have n0_:=Am (blk_below (g:=gb348) (o:=.cells #[.slice A0_0 l0_0.length c0_0] 24 (0,0)) (by (with_reducible repeat first|apply kN|apply kD|apply kA);exact BK348.out) hb);have n1_:=Am (below_step (by repeat (first|(with_reducible first|exact HB.out|apply bA|apply bN|apply bD|refine bS ?_ GE348.out)|exact HB.out)) hb);clear BK348 HB;have BK348:=n0_;have HB:=n1_;clear n0_ n1_;(try clear hb)))
  (try simp only [pL])
  go_cut [21] (fun v21 wc=>∃ (kq:Nat) (x21_5:Bool),v21=.bool x21_5∧Aside0 (soundserviceref13_Between.j0 kq a1 a2 x21_5 l0_0=some (r1,r2))∧Aside0 (kq≤k)∧Aside0 (wc.heap[gb348]?=some (.cells #[(.slice A0_0 l0_0.length c0_0)] 24 (0,0)))∧Aside0 (Below w.heap.size w wc))
  case first =>
   have H:=HC6.out
   clear HC6
   by_cases c10:a1 < 0
   ·rw [if_pos c10] at H
    have c10b0:decide (a1 < 0)=true:=decide_eq_true c10
    clear c10
    (first|rw [c10b0]|(simp only [i64_w,i32_w];rw [c10b0])|skip)
    have H':=Am H
    clear H
    go_wp2
    go_meet
    case rel=>exact ⟨_,(true),(by first|rfl|(simp;done)|(simp [*];done)),H',⟨by first|omega|exact Nat.le_refl _⟩,⟨by (with_reducible repeat first|apply kN|apply kD|apply kA);exact BK348.out⟩,⟨by repeat (first|(with_reducible first|exact HB.out|apply bA|apply bN|apply bD|refine bS ?_ GE348.out)|exact HB.out)⟩⟩
   ·rw [if_neg c10] at H
    have c10b0:decide (a1 < 0)=false:=decide_eq_false c10
    clear c10
    (first|rw [c10b0]|(simp only [i64_w,i32_w];rw [c10b0])|skip)
    by_cases c11:a2 > 1099511627776
    ·rw [if_pos c11] at H
     have c11b0:decide (1099511627776 < a2)=true:=decide_eq_true c11
     clear c11
     have H':=Am H
     clear H
     go_wp2
     go_meet
     case rel=>exact ⟨_,(true),(by first|rfl|(simp;done)|(simp [*];done)),H',⟨by first|omega|exact Nat.le_refl _⟩,⟨by (with_reducible repeat first|apply kN|apply kD|apply kA);exact BK348.out⟩,⟨by repeat (first|(with_reducible first|exact HB.out|apply bA|apply bN|apply bD|refine bS ?_ GE348.out)|exact HB.out)⟩⟩
    ·rw [if_neg c11] at H
     have c11b0:decide (1099511627776 < a2)=false:=decide_eq_false c11
     clear c11
     have H':=Am H
     clear H
     go_wp2
     go_meet
     case rel=>exact ⟨_,(decide (a2 < a1)),(by first|rfl|(simp;done)|(simp [*];done)),H',⟨by first|omega|exact Nat.le_refl _⟩,⟨by (with_reducible repeat first|apply kN|apply kD|apply kA);exact BK348.out⟩,⟨by repeat (first|(with_reducible first|exact HB.out|apply bA|apply bN|apply bD|refine bS ?_ GE348.out)|exact HB.out)⟩⟩
  case rest =>
   clear HC6;(try clear c1);(try clear c2);(try clear p2);(try clear c5);(try clear c10);(try clear c10b0);(try clear c11);(try clear c11b0);(try clear hcz8_0);(try clear hfz8_0)
   obtain ⟨kq,x21_5,rfl,HA,HJ5,BK348,HB⟩:=hcut
   cases kq with
   | zero=>exact absurd HA.out (by simp [soundserviceref13_Between.j0])
   | succ kj5 =>
    have H:=HA.out
    clear HA
    simp only [soundserviceref13_Between.j0] at H
    by_cases c12:x21_5=true
    ·subst c12
     have H1:(some (0,2))=some (r1,r2):=by rw [if_pos rfl] at H;exact H
     clear H;have H:=H1;clear H1
     simp only [Option.some.injEq,Prod.mk.injEq] at H
     obtain ⟨rfl,rfl⟩:=H
     go_wp2
     go_ret2
     exact ⟨by first|rfl|(simp [errW_none,errW_some] <;> rfl)|(simp [*,errW_none,errW_some] <;> rfl),by repeat (first|(with_reducible first|exact HB.out|apply bA|apply bN|apply bD|refine bS ?_ GE348.out)|exact HB.out)⟩
    ·replace c12:=Bool.eq_false_iff.mpr c12
     subst c12
     have H1:((soundserviceref13_position.f kj5 l0_0 a2).bind fun t350=>((soundserviceref13_position.f kj5 l0_0 a1).bind fun t351=>(some (wrap64 (t350 - t351),0))))=some (r1,r2):=by rw [if_neg (show ¬ (false=true) by decide)] at H;exact H
     clear H;have H:=H1;clear H1
     replace H:=Option.bind_eq_some_iff.mp H
     obtain ⟨t350,A130,H⟩:=H
     replace H:((soundserviceref13_position.f kj5 l0_0 a1).bind fun t351=>(some (wrap64 (t350 - t351),0)))=some (r1,r2):=H
     have A13:=Am A130
     clear A130
     replace H:=Option.bind_eq_some_iff.mp H
     obtain ⟨t351,A140,H⟩:=H
     replace H:(some (wrap64 (t350 - t351),0))=some (r1,r2):=H
     have A14:=Am A140
     clear A140
     simp only [Option.some.injEq,Prod.mk.injEq] at H
     obtain ⟨rfl,rfl⟩:=H
     try go_wp2
     have n0_:=Am (kD BK348.out)
     have n1_:=Am (bD HB.out)
     clear BK348 HB;have BK348:=n0_;have HB:=n1_;clear n0_ n1_
     refine start_ (n:=9) (S:=fun w'=>w'.cell? ⟨gb348,0,none⟩=some (.slice A0_0 l0_0.length c0_0)) (ds:=[]) soundserviceref13_Between.q0 (by kernel_rfl) rfl rfl ((blk_cell BK348.out 0).trans rfl) (fun hHeld=>?_);refine with_tabW soundserviceref13_Between.tab5 soundserviceref13_Between.bits5 (fun HT_ HW_=>?_)
     generalize wc.drew=w15 at BK348 HB hHeld ⊢
     refine pure_ (i:=1) (N:=some 23) (v:=?_) (a':=?_) soundserviceref13_Between.q1 rfl rfl (any_of HT_.out (by kernel_rfl)) (fun _ _ _ h=>h) (Or.inl ⟨by rfl,?_⟩) ?_ ?_
     rotate_left;(· intro w';go_simp;with_reducible rfl);rotate_left;(· simp only [pL,i64_w,i32_w];rfl)
     refine pure_ (i:=4) (N:=some 26) (v:=?_) (a':=?_) soundserviceref13_Between.q2 rfl rfl (any_of HT_.out (by kernel_rfl)) (fun _ _ _ h=>h) (Or.inl ⟨by rfl,?_⟩) ?_ ?_
     rotate_left;(· intro w';go_simp;with_reducible rfl);rotate_left;(· simp only [pL,i64_w,i32_w];rfl)
     refine take_ (i:=0) (N:=some 22) (v:=?_) (a':=?_) soundserviceref13_Between.q3 rfl rfl (take_ofW HT_.out HW_.out (by kernel_rfl)) (fun _ _ _ h=>h) (Or.inl ⟨by rfl,?_⟩) hHeld ?_ ?_
     rotate_left
     ·intro w' s0
      go_simp
      with_reducible rfl
     rotate_left
     ·simp only [pL,i64_w,i32_w]
      rfl
     refine take_ (i:=3) (N:=some 25) (v:=?_) (a':=?_) soundserviceref13_Between.q4 rfl rfl (take_ofW HT_.out HW_.out (by kernel_rfl)) (fun _ _ _ h=>h) (Or.inl ⟨by rfl,?_⟩) hHeld ?_ ?_
     rotate_left
     ·intro w' s0
      go_simp
      with_reducible rfl
     rotate_left
     ·simp only [pL,i64_w,i32_w]
      rfl
     refine one_ (i:=2) (N:=some 24) #[true,true,true,true,true,false,false,false,false] rfl rfl (one_of HT_.out (by kernel_rfl)) (by decide) (fun K hK=>?_)
     refine goes_ Try.func35 (by kernel_rfl) rfl #[.agg #[.slice A0_0 l0_0.length c0_0], .int .i64 a2] (by rfl) rfl rfl (by (try simp only [List.map_toArray,List.map_cons,List.map_nil]);first|done|rfl|(simp only [List.length_drop,List.length_take];rfl)) ?_
     with_reducible refine (soundserviceref13_position.calls kj5 _ _ l0_0 a2 t350 _ ?side1 ?side2 A13.out).mono ?_
     (case side1=>repeat (first|exact (Kd.C_below HR0_0.out HB.out)|(with_reducible refine Kd.C_alloc ?_ _)|(with_reducible refine Kd.C_drewN ?_ _)|(with_reducible refine Kd.C_drew ?_)))
     (case side2=>exact HC0_0.out)
     rintro e w16 ⟨rfl,hb⟩
     refine ⟨_,rfl,?_⟩
     have n0_:=Am (blk_below (g:=gb348) (o:=.cells #[.slice A0_0 l0_0.length c0_0] 24 (0,0)) (by (with_reducible repeat first|apply kN|apply kD|apply kA);exact BK348.out) hb)
     have n1_:=Am (below_step (by repeat (first|(with_reducible first|exact HB.out|apply bA|apply bN|apply bD|refine bS ?_ GE348.out)|exact HB.out)) hb)
     clear BK348 HB;have BK348:=n0_;have HB:=n1_;clear n0_ n1_;(try clear hb)
     refine hK.out _ _ ((blk_cell BK348.out 0).trans rfl) (fun hHeld=>?_)
     clear hK K
     refine norm_ (a':=?_) ?_ ?_
     rotate_left
     ·show Act.put _ (some 24) _=_
      simp only [pL,i64_w,i32_w]
      rfl
     refine one_ (i:=5) (N:=some 27) #[true,true,true,true,true,true,false,false,false] rfl rfl (one_of HT_.out (by kernel_rfl)) (by decide) (fun K hK=>?_)
     refine goes_ Try.func35 (by kernel_rfl) rfl #[.agg #[.slice A0_0 l0_0.length c0_0], .int .i64 a1] (by rfl) rfl rfl (by (try simp only [List.map_toArray,List.map_cons,List.map_nil]);first|done|rfl|(simp only [List.length_drop,List.length_take];rfl)) ?_
     with_reducible refine (soundserviceref13_position.calls kj5 _ _ l0_0 a1 t351 _ ?side1 ?side2 A14.out).mono ?_
     (case side1=>repeat (first|exact (Kd.C_below HR0_0.out HB.out)|(with_reducible refine Kd.C_alloc ?_ _)|(with_reducible refine Kd.C_drewN ?_ _)|(with_reducible refine Kd.C_drew ?_)))
     (case side2=>exact HC0_0.out)
     rintro e w17 ⟨rfl,hb⟩
     refine ⟨_,rfl,?_⟩
     have n0_:=Am (blk_below (g:=gb348) (o:=.cells #[.slice A0_0 l0_0.length c0_0] 24 (0,0)) (by (with_reducible repeat first|apply kN|apply kD|apply kA);exact BK348.out) hb)
     have n1_:=Am (below_step (by repeat (first|(with_reducible first|exact HB.out|apply bA|apply bN|apply bD|refine bS ?_ GE348.out)|exact HB.out)) hb)
     clear BK348 HB;have BK348:=n0_;have HB:=n1_;clear n0_ n1_;(try clear hb)
     refine hK.out _ _ ((blk_cell BK348.out 0).trans rfl) (fun hHeld=>?_)
     clear hK K
     refine norm_ (a':=?_) ?_ ?_
     rotate_left
     ·show Act.put _ (some 27) _=_
      simp only [pL,i64_w,i32_w]
      rfl
     refine pure_ (i:=6) (N:=some 28) (v:=?_) (a':=?_) #[true,true,true,true,true,true,true,false,false] rfl rfl (any_of HT_.out (by kernel_rfl)) (fun _ _ _ h=>h) (Or.inl ⟨by rfl,?_⟩) ?_ ?_
     rotate_left;(· intro w';go_simp;with_reducible rfl);rotate_left;(· simp only [pL,i64_w,i32_w];rfl)
     refine pure_ (i:=7) (N:=some 6) (v:=?_) (a':=?_) #[true,true,true,true,true,true,true,true,false] rfl rfl (any_of HT_.out (by kernel_rfl)) (fun _ _ _ h=>h) (Or.inl ⟨by rfl,?_⟩) ?_ ?_
     rotate_left;(· intro w';go_simp;with_reducible rfl);rotate_left;(· simp only [pL,i64_w,i32_w];rfl)
     refine pure_ (i:=8) (N:=some 7) (v:=?_) (a':=?_) #[true,true,true,true,true,true,true,true,true] rfl rfl (any_of HT_.out (by kernel_rfl)) (fun _ _ _ h=>h) (Or.inl ⟨by rfl,?_⟩) ?_ ?_
     rotate_left;(· intro w';go_simp;with_reducible rfl);rotate_left;(· simp only [pL,i64_w,i32_w];rfl)
     refine done_ (done_of HT_.out (by kernel_rfl)) ?_
     try go_wp2
     go_ret2
     exact ⟨by first|rfl|(simp [errW_none,errW_some] <;> rfl)|(simp [*,errW_none,errW_some] <;> rfl),by repeat (first|(with_reducible first|exact HB.out|apply bA|apply bN|apply bD|refine bS ?_ GE348.out)|exact HB.out)⟩
 ·replace c5:=Bool.eq_false_iff.mpr c5
  subst c5
  have H1:(some (0,1))=some (r1,r2):=by rw [if_neg (show ¬ (false=true) by decide)] at H;exact H
  clear H;have H:=H1;clear H1
  simp only [Option.some.injEq,Prod.mk.injEq] at H
  obtain ⟨rfl,rfl⟩:=H
  go_enter Try.func25,Try.ntmps25
  go_wp2_with (first|((with_reducible refine gate_dst (N:=3) rfl ?_);refine box_event ?hg (N:=3) ?hd (cs:=#[.slice A0_0 l0_0.length c0_0]) (t:=24) ?hr ?_;(case hd=>rfl);(case hg=>rfl);(case hr=>first|(go_simp;done)|(go_simp;rfl));intro gb348 hg w18 hbox hb;have n0_:=Am (below_step (by repeat (first|(with_reducible first|exact HB.out|apply bA|apply bN|apply bD)|exact HB.out)) hb);have n1_:=Am (hbox);have n2_:=Am ((by rw [hg];exact (below_size (by repeat (first|(with_reducible first|exact HB.out|apply bA|apply bN|apply bD)|exact HB.out))):w.heap.size≤gb348));have n3_:=Am ((by rw [hg];exact (below_size (by repeat (first|(with_reducible first|exact HB.out|apply bA|apply bN|apply bD)|exact HB.out))):w.heap.size≤gb348));clear HB;have HB:=n0_;have BK348:=n1_;have GW348:=n2_;have GE348:=n3_;clear n0_ n1_ n2_ n3_ hb hbox hg;have hcz19_0:w18.cell? ⟨gb348,0,none⟩=some (.slice A0_0 l0_0.length c0_0):=(blk_cell BK348.out 0).trans rfl;have hfz19_0:=blk_frozen BK348.out 0)|((with_reducible refine gate_callee (f:=18) rfl ?_);refine goesL_ (some 9) rfl rfl Try.func18 (by kernel_rfl) rfl #[.agg #[.slice A0_0 l0_0.length c0_0]] rfl (by (try simp only [List.map_toArray,List.map_cons,List.map_nil]);first|done|rfl|(simp only [List.length_drop,List.length_take];rfl)) ?_;(with_reducible refine (soundserviceref13_Valid.calls k _ _ l0_0 false _ ?side1 ?side2 A4.out).mono ?_);(case side1=>repeat (first|exact (Kd.C_below HR0_0.out HB.out)|(with_reducible refine Kd.C_alloc ?_ _)|(with_reducible refine Kd.C_drewN ?_ _)|(with_reducible refine Kd.C_drew ?_)));(case side2=>exact HC0_0.out);rintro e w20 ⟨rfl,hb⟩;refine ⟨_,rfl,?_⟩;have n0_:=Am (blk_below (g:=gb348) (o:=.cells #[.slice A0_0 l0_0.length c0_0] 24 (0,0)) (by (with_reducible repeat first|apply kN|apply kD|apply kA);exact BK348.out) hb);have n1_:=Am (below_step (by repeat (first|(with_reducible first|exact HB.out|apply bA|apply bN|apply bD|refine bS ?_ GE348.out)|exact HB.out)) hb);clear BK348 HB;have BK348:=n0_;have HB:=n1_;clear n0_ n1_;(try clear hb)))
  go_ret2
  exact ⟨by first|rfl|(simp [errW_none,errW_some] <;> rfl)|(simp [*,errW_none,errW_some] <;> rfl),by repeat (first|(with_reducible first|exact HB.out|apply bA|apply bN|apply bD|refine bS ?_ GE348.out)|exact HB.out)⟩

/-! ### soundserviceref13_TimeOf: function 27 -/
def soundserviceref13_TimeOf.l0:Nat→Int→Int→Int→List (S61)→Option (Int × Int)
 | 0,_,_,_,_=>none
 | k+1,x1,x6,x7,x353000=>if x6 < x7 then ((soundserviceref13_position.f k x353000 (wrap64 (Int.tdiv (wrap64 (x6+x7)) 2))).bind fun t355=>(if t355 ≥ x1 then (soundserviceref13_TimeOf.l0 k x1 x6 (wrap64 (Int.tdiv (wrap64 (x6+x7)) 2)) x353000) else (soundserviceref13_TimeOf.l0 k x1 (wrap64 ((wrap64 (Int.tdiv (wrap64 (x6+x7)) 2))+1)) x7 x353000))) else (some (x6,0))
def soundserviceref13_TimeOf.f (k:Nat) (l0_0:List (S61)) (a1:Int):Option (Int × Int):=(soundserviceref13_Valid.f k l0_0).bind fun t353=>(if t353=true then (if a1 < 0 then (some (0,2)) else ((soundserviceref13_position.f k l0_0 1099511627776).bind fun t354=>(if t354 < a1 then (some (0,13)) else (soundserviceref13_TimeOf.l0 k a1 0 1099511627776 l0_0)))) else (some (0,1)))
theorem soundserviceref13_TimeOf.mono_l:∀ k,(∀ y0 y1 y2 y3,LeO (soundserviceref13_TimeOf.l0 k y0 y1 y2 y3) (soundserviceref13_TimeOf.l0 (k+1) y0 y1 y2 y3))
 | 0=>fun _ _ _ _ r h=>by simp [soundserviceref13_TimeOf.l0] at h
 | k+1=>by
  have ih0:=soundserviceref13_TimeOf.mono_l k
  ·intro y0 y1 y2 y3
   unfold soundserviceref13_TimeOf.l0
   repeat' first
   | (with_reducible exact ih0 _ _ _ _)
   | (with_reducible exact soundserviceref13_Valid.mono _ _)
   | (with_reducible exact soundserviceref13_position.mono _ _ _)
   | (with_reducible exact LeO.refl _)
   | (with_reducible exact LeO.none _)
   | (with_reducible refine LeO.ite ?_ ?_)
   | (with_reducible refine LeO.bind ?_ (fun _=>?_))
   | exact ih0 _ _ _ _
   | exact soundserviceref13_Valid.mono _ _
   | exact soundserviceref13_position.mono _ _ _
   | exact LeO.none _
   | refine LeO.ite ?_ ?_
   | refine LeO.bind ?_ (fun _=>?_)
theorem soundserviceref13_TimeOf.mono:∀ a0 a1 k,LeO (soundserviceref13_TimeOf.f k a0 a1) (soundserviceref13_TimeOf.f (k+1) a0 a1):=by
 intro a0 a1 k
 have ih0:=soundserviceref13_TimeOf.mono_l k
 unfold soundserviceref13_TimeOf.f
 repeat' first
   | (with_reducible exact ih0 _ _ _ _)
   | (with_reducible exact soundserviceref13_Valid.mono _ _)
   | (with_reducible exact soundserviceref13_position.mono _ _ _)
   | (with_reducible exact LeO.refl _)
   | (with_reducible exact LeO.none _)
   | (with_reducible refine LeO.ite ?_ ?_)
   | (with_reducible refine LeO.bind ?_ (fun _=>?_))
   | exact ih0 _ _ _ _
   | exact soundserviceref13_Valid.mono _ _
   | exact soundserviceref13_position.mono _ _ _
   | exact LeO.none _
   | refine LeO.ite ?_ ?_
   | refine LeO.bind ?_ (fun _=>?_)
set_option maxHeartbeats 8000000 in
set_option maxRecDepth 100000 in
theorem soundserviceref13_TimeOf.calls (k:Nat) (A0_0:Option Addr) (c0_0:Nat) (l0_0:List (S61)) (a1:Int) (r1:Int) (r2:Int) (w:World) (hr0_0:Kd.C k61 w A0_0 l0_0.length l0_0) (hc0_0:l0_0.length≤c0_0) (h:soundserviceref13_TimeOf.f k l0_0 a1=some (r1,r2)) :
  Calls Try.prog 27 #[.agg #[.slice A0_0 l0_0.length c0_0], .int .i64 a1] w fun e w'=>e=.returned (.tuple #[.int .i64 r1, .int .i64 r2])∧Below w.heap.size w w':=by
 have hu24:=Try.underlying24
 have HR0_0:=Am hr0_0
 have HC0_0:=Am hc0_0
 clear hr0_0 hc0_0
 have HB:=Am (Below.refl w.heap.size w)
 have H:((soundserviceref13_Valid.f k l0_0).bind fun t353=>(if t353=true then (if a1 < 0 then (some (0,2)) else ((soundserviceref13_position.f k l0_0 1099511627776).bind fun t354=>(if t354 < a1 then (some (0,13)) else (soundserviceref13_TimeOf.l0 k a1 0 1099511627776 l0_0)))) else (some (0,1))))=some (r1,r2):=h
 clear h
 replace H:=Option.bind_eq_some_iff.mp H
 obtain ⟨t353,A30,H⟩:=H
 replace H:(if t353=true then (if a1 < 0 then (some (0,2)) else ((soundserviceref13_position.f k l0_0 1099511627776).bind fun t354=>(if t354 < a1 then (some (0,13)) else (soundserviceref13_TimeOf.l0 k a1 0 1099511627776 l0_0)))) else (some (0,1)))=some (r1,r2):=H
 have A3:=Am A30
 clear A30
 by_cases c4:t353=true
 ·subst c4
  have H1:(if a1 < 0 then (some (0,2)) else ((soundserviceref13_position.f k l0_0 1099511627776).bind fun t354=>(if t354 < a1 then (some (0,13)) else (soundserviceref13_TimeOf.l0 k a1 0 1099511627776 l0_0))))=some (r1,r2):=by rw [if_pos rfl] at H;exact H
  clear H;have H:=H1;clear H1
  by_cases c5:a1 < 0
  ·rw [if_pos c5] at H
   have c5b0:decide (a1 < 0)=true:=decide_eq_true c5
   clear c5
   simp only [Option.some.injEq,Prod.mk.injEq] at H
   obtain ⟨rfl,rfl⟩:=H
   go_enter Try.func27,Try.ntmps27
   go_wp2_with (first|((with_reducible refine gate_dst (N:=2) rfl ?_);refine box_event ?hg (N:=2) ?hd (cs:=#[.slice A0_0 l0_0.length c0_0]) (t:=24) ?hr ?_;(case hd=>rfl);(case hg=>rfl);(case hr=>first|(go_simp;done)|(go_simp;rfl));intro gb352 hg w6 hbox hb;have n0_:=Am (below_step (by repeat (first|(with_reducible first|exact HB.out|apply bA|apply bN|apply bD)|exact HB.out)) hb);have n1_:=Am (hbox);have n2_:=Am ((by rw [hg];exact (below_size (by repeat (first|(with_reducible first|exact HB.out|apply bA|apply bN|apply bD)|exact HB.out))):w.heap.size≤gb352));have n3_:=Am ((by rw [hg];exact (below_size (by repeat (first|(with_reducible first|exact HB.out|apply bA|apply bN|apply bD)|exact HB.out))):w.heap.size≤gb352));clear HB;have HB:=n0_;have BK352:=n1_;have GW352:=n2_;have GE352:=n3_;clear n0_ n1_ n2_ n3_ hb hbox hg;have hcz7_0:w6.cell? ⟨gb352,0,none⟩=some (.slice A0_0 l0_0.length c0_0):=(blk_cell BK352.out 0).trans rfl;have hfz7_0:=blk_frozen BK352.out 0)|((with_reducible refine gate_callee (f:=18) rfl ?_);refine goesL_ (some 11) rfl rfl Try.func18 (by kernel_rfl) rfl #[.agg #[.slice A0_0 l0_0.length c0_0]] rfl (by (try simp only [List.map_toArray,List.map_cons,List.map_nil]);first|done|rfl|(simp only [List.length_drop,List.length_take];rfl)) ?_;(with_reducible refine (soundserviceref13_Valid.calls k _ _ l0_0 true _ ?side1 ?side2 A3.out).mono ?_);(case side1=>repeat (first|exact (Kd.C_below HR0_0.out HB.out)|(with_reducible refine Kd.C_alloc ?_ _)|(with_reducible refine Kd.C_drewN ?_ _)|(with_reducible refine Kd.C_drew ?_)));(case side2=>exact HC0_0.out);rintro e w8 ⟨rfl,hb⟩;refine ⟨_,rfl,?_⟩;have n0_:=Am (blk_below (g:=gb352) (o:=.cells #[.slice A0_0 l0_0.length c0_0] 24 (0,0)) (by (with_reducible repeat first|apply kN|apply kD|apply kA);exact BK352.out) hb);have n1_:=Am (below_step (by repeat (first|(with_reducible first|exact HB.out|apply bA|apply bN|apply bD|refine bS ?_ GE352.out)|exact HB.out)) hb);clear BK352 HB;have BK352:=n0_;have HB:=n1_;clear n0_ n1_;(try clear hb)))
   go_ret2
   exact ⟨by first|rfl|(simp [errW_none,errW_some] <;> rfl)|(simp [*,errW_none,errW_some] <;> rfl),by repeat (first|(with_reducible first|exact HB.out|apply bA|apply bN|apply bD|refine bS ?_ GE352.out)|exact HB.out)⟩
  ·rw [if_neg c5] at H
   have c5b0:decide (a1 < 0)=false:=decide_eq_false c5
   clear c5
   replace H:=Option.bind_eq_some_iff.mp H
   obtain ⟨t354,A90,H⟩:=H
   replace H:(if t354 < a1 then (some (0,13)) else (soundserviceref13_TimeOf.l0 k a1 0 1099511627776 l0_0))=some (r1,r2):=H
   have A9:=Am A90
   clear A90
   by_cases c10:t354 < a1
   ·rw [if_pos c10] at H
    have c10b0:decide (t354 < a1)=true:=decide_eq_true c10
    clear c10
    simp only [Option.some.injEq,Prod.mk.injEq] at H
    obtain ⟨rfl,rfl⟩:=H
    go_enter Try.func27,Try.ntmps27
    go_wp2_with (first|((with_reducible refine gate_dst (N:=2) rfl ?_);refine box_event ?hg (N:=2) ?hd (cs:=#[.slice A0_0 l0_0.length c0_0]) (t:=24) ?hr ?_;(case hd=>rfl);(case hg=>rfl);(case hr=>first|(go_simp;done)|(go_simp;rfl));intro gb352 hg w11 hbox hb;have n0_:=Am (below_step (by repeat (first|(with_reducible first|exact HB.out|apply bA|apply bN|apply bD)|exact HB.out)) hb);have n1_:=Am (hbox);have n2_:=Am ((by rw [hg];exact (below_size (by repeat (first|(with_reducible first|exact HB.out|apply bA|apply bN|apply bD)|exact HB.out))):w.heap.size≤gb352));have n3_:=Am ((by rw [hg];exact (below_size (by repeat (first|(with_reducible first|exact HB.out|apply bA|apply bN|apply bD)|exact HB.out))):w.heap.size≤gb352));clear HB;have HB:=n0_;have BK352:=n1_;have GW352:=n2_;have GE352:=n3_;clear n0_ n1_ n2_ n3_ hb hbox hg;have hcz12_0:w11.cell? ⟨gb352,0,none⟩=some (.slice A0_0 l0_0.length c0_0):=(blk_cell BK352.out 0).trans rfl;have hfz12_0:=blk_frozen BK352.out 0)|((with_reducible refine gate_callee (f:=18) rfl ?_);refine goesL_ (some 11) rfl rfl Try.func18 (by kernel_rfl) rfl #[.agg #[.slice A0_0 l0_0.length c0_0]] rfl (by (try simp only [List.map_toArray,List.map_cons,List.map_nil]);first|done|rfl|(simp only [List.length_drop,List.length_take];rfl)) ?_;(with_reducible refine (soundserviceref13_Valid.calls k _ _ l0_0 true _ ?side1 ?side2 A3.out).mono ?_);(case side1=>repeat (first|exact (Kd.C_below HR0_0.out HB.out)|(with_reducible refine Kd.C_alloc ?_ _)|(with_reducible refine Kd.C_drewN ?_ _)|(with_reducible refine Kd.C_drew ?_)));(case side2=>exact HC0_0.out);rintro e w13 ⟨rfl,hb⟩;refine ⟨_,rfl,?_⟩;have n0_:=Am (blk_below (g:=gb352) (o:=.cells #[.slice A0_0 l0_0.length c0_0] 24 (0,0)) (by (with_reducible repeat first|apply kN|apply kD|apply kA);exact BK352.out) hb);have n1_:=Am (below_step (by repeat (first|(with_reducible first|exact HB.out|apply bA|apply bN|apply bD|refine bS ?_ GE352.out)|exact HB.out)) hb);clear BK352 HB;have BK352:=n0_;have HB:=n1_;clear n0_ n1_;(try clear hb);have hcz14_0:w13.cell? ⟨gb352,0,none⟩=some (.slice A0_0 l0_0.length c0_0):=(blk_cell BK352.out 0).trans rfl;have hfz14_0:=blk_frozen BK352.out 0)|((with_reducible refine gate_callee (f:=35) rfl ?_);refine goesL_ (some 18) rfl rfl Try.func35 (by kernel_rfl) rfl #[.agg #[.slice A0_0 l0_0.length c0_0], .int .i64 1099511627776] rfl (by (try simp only [List.map_toArray,List.map_cons,List.map_nil]);first|done|rfl|(simp only [List.length_drop,List.length_take];rfl)) ?_;(with_reducible refine (soundserviceref13_position.calls k _ _ l0_0 1099511627776 t354 _ ?side1 ?side2 A9.out).mono ?_);(case side1=>repeat (first|exact (Kd.C_below HR0_0.out HB.out)|(with_reducible refine Kd.C_alloc ?_ _)|(with_reducible refine Kd.C_drewN ?_ _)|(with_reducible refine Kd.C_drew ?_)));(case side2=>exact HC0_0.out);rintro e w15 ⟨rfl,hb⟩;refine ⟨_,rfl,?_⟩;have n0_:=Am (blk_below (g:=gb352) (o:=.cells #[.slice A0_0 l0_0.length c0_0] 24 (0,0)) (by (with_reducible repeat first|apply kN|apply kD|apply kA);exact BK352.out) hb);have n1_:=Am (below_step (by repeat (first|(with_reducible first|exact HB.out|apply bA|apply bN|apply bD|refine bS ?_ GE352.out)|exact HB.out)) hb);clear BK352 HB;have BK352:=n0_;have HB:=n1_;clear n0_ n1_;(try clear hb)))
    go_ret2
    exact ⟨by first|rfl|(simp [errW_none,errW_some] <;> rfl)|(simp [*,errW_none,errW_some] <;> rfl),by repeat (first|(with_reducible first|exact HB.out|apply bA|apply bN|apply bD|refine bS ?_ GE352.out)|exact HB.out)⟩
   ·rw [if_neg c10] at H
    have c10b0:decide (t354 < a1)=false:=decide_eq_false c10
    clear c10
    have H':=Am H
    clear H
    go_enter Try.func27,Try.ntmps27
    go_wp2_with (first|((with_reducible refine gate_dst (N:=2) rfl ?_);refine box_event ?hg (N:=2) ?hd (cs:=#[.slice A0_0 l0_0.length c0_0]) (t:=24) ?hr ?_;(case hd=>rfl);(case hg=>rfl);(case hr=>first|(go_simp;done)|(go_simp;rfl));intro gb352 hg w16 hbox hb;have n0_:=Am (below_step (by repeat (first|(with_reducible first|exact HB.out|apply bA|apply bN|apply bD)|exact HB.out)) hb);have n1_:=Am (hbox);have n2_:=Am ((by rw [hg];exact (below_size (by repeat (first|(with_reducible first|exact HB.out|apply bA|apply bN|apply bD)|exact HB.out))):w.heap.size≤gb352));have n3_:=Am ((by rw [hg];exact (below_size (by repeat (first|(with_reducible first|exact HB.out|apply bA|apply bN|apply bD)|exact HB.out))):w.heap.size≤gb352));clear HB;have HB:=n0_;have BK352:=n1_;have GW352:=n2_;have GE352:=n3_;clear n0_ n1_ n2_ n3_ hb hbox hg;have hcz17_0:w16.cell? ⟨gb352,0,none⟩=some (.slice A0_0 l0_0.length c0_0):=(blk_cell BK352.out 0).trans rfl;have hfz17_0:=blk_frozen BK352.out 0)|((with_reducible refine gate_callee (f:=18) rfl ?_);refine goesL_ (some 11) rfl rfl Try.func18 (by kernel_rfl) rfl #[.agg #[.slice A0_0 l0_0.length c0_0]] rfl (by (try simp only [List.map_toArray,List.map_cons,List.map_nil]);first|done|rfl|(simp only [List.length_drop,List.length_take];rfl)) ?_;(with_reducible refine (soundserviceref13_Valid.calls k _ _ l0_0 true _ ?side1 ?side2 A3.out).mono ?_);(case side1=>repeat (first|exact (Kd.C_below HR0_0.out HB.out)|(with_reducible refine Kd.C_alloc ?_ _)|(with_reducible refine Kd.C_drewN ?_ _)|(with_reducible refine Kd.C_drew ?_)));(case side2=>exact HC0_0.out);rintro e w18 ⟨rfl,hb⟩;refine ⟨_,rfl,?_⟩;have n0_:=Am (blk_below (g:=gb352) (o:=.cells #[.slice A0_0 l0_0.length c0_0] 24 (0,0)) (by (with_reducible repeat first|apply kN|apply kD|apply kA);exact BK352.out) hb);have n1_:=Am (below_step (by repeat (first|(with_reducible first|exact HB.out|apply bA|apply bN|apply bD|refine bS ?_ GE352.out)|exact HB.out)) hb);clear BK352 HB;have BK352:=n0_;have HB:=n1_;clear n0_ n1_;(try clear hb);have hcz19_0:w18.cell? ⟨gb352,0,none⟩=some (.slice A0_0 l0_0.length c0_0):=(blk_cell BK352.out 0).trans rfl;have hfz19_0:=blk_frozen BK352.out 0)|((with_reducible refine gate_callee (f:=35) rfl ?_);refine goesL_ (some 18) rfl rfl Try.func35 (by kernel_rfl) rfl #[.agg #[.slice A0_0 l0_0.length c0_0], .int .i64 1099511627776] rfl (by (try simp only [List.map_toArray,List.map_cons,List.map_nil]);first|done|rfl|(simp only [List.length_drop,List.length_take];rfl)) ?_;(with_reducible refine (soundserviceref13_position.calls k _ _ l0_0 1099511627776 t354 _ ?side1 ?side2 A9.out).mono ?_);(case side1=>repeat (first|exact (Kd.C_below HR0_0.out HB.out)|(with_reducible refine Kd.C_alloc ?_ _)|(with_reducible refine Kd.C_drewN ?_ _)|(with_reducible refine Kd.C_drew ?_)));(case side2=>exact HC0_0.out);rintro e w20 ⟨rfl,hb⟩;refine ⟨_,rfl,?_⟩;have n0_:=Am (blk_below (g:=gb352) (o:=.cells #[.slice A0_0 l0_0.length c0_0] 24 (0,0)) (by (with_reducible repeat first|apply kN|apply kD|apply kA);exact BK352.out) hb);have n1_:=Am (below_step (by repeat (first|(with_reducible first|exact HB.out|apply bA|apply bN|apply bD|refine bS ?_ GE352.out)|exact HB.out)) hb);clear BK352 HB;have BK352:=n0_;have HB:=n1_;clear n0_ n1_;(try clear hb)))
    go_loopg [6,7] k (fun kq v6 v7 w'=>∃ (x6_1:Int) (x7_1:Int),v6=.int .i64 x6_1∧v7=.int .i64 x7_1∧Aside0 (soundserviceref13_TimeOf.l0 kq a1 x6_1 x7_1 l0_0=some (r1,r2))∧Aside0 (kq≤k)∧Aside0 (w'.heap[gb352]?=some (.cells #[(.slice A0_0 l0_0.length c0_0)] 24 (0,0)))∧Aside0 (Below w.heap.size w w'))
    case atStart=>exact ⟨(0),(1099511627776),(by first|rfl|(simp;done)|(simp [*];done)),(by first|rfl|(simp;done)|(simp [*];done)),H',⟨Nat.le_refl _⟩,⟨by (with_reducible repeat first|apply kN|apply kD|apply kA);exact BK352.out⟩,⟨by repeat (first|(with_reducible first|exact HB.out|apply bA|apply bN|apply bD|refine bS ?_ GE352.out)|exact HB.out)⟩⟩
    case round =>
     clear H'
     (try clear c1);(try clear c2);(try clear p2);(try clear c3);(try clear c4);(try clear c5);(try clear c5b0);(try clear c10);(try clear c10b0);(try clear c18);(try clear hcz12_0);(try clear hcz14_0);(try clear hcz17_0);(try clear hcz19_0);(try clear hcz7_0);(try clear hfz12_0);(try clear hfz14_0);(try clear hfz17_0);(try clear hfz19_0);(try clear hfz7_0)
     obtain ⟨x6_1,x7_1,rfl,rfl,HA,HK1,BK352,HB⟩:=hrel
     cases gk with
     | zero=>exact absurd HA.out (by simp [soundserviceref13_TimeOf.l0])
     | succ k1 =>
      have H:=HA.out
      clear HA
      simp only [soundserviceref13_TimeOf.l0] at H
      by_cases c21:x6_1 < x7_1
      ·rw [if_pos c21] at H
       have c21b0:decide (x6_1 < x7_1)=true:=decide_eq_true c21
       clear c21
       replace H:=Option.bind_eq_some_iff.mp H
       obtain ⟨t355,A220,H⟩:=H
       replace H:(if t355 ≥ a1 then (soundserviceref13_TimeOf.l0 k1 a1 x6_1 (wrap64 (Int.tdiv (wrap64 (x6_1+x7_1)) 2)) l0_0) else (soundserviceref13_TimeOf.l0 k1 a1 (wrap64 ((wrap64 (Int.tdiv (wrap64 (x6_1+x7_1)) 2))+1)) x7_1 l0_0))=some (r1,r2):=H
       have A22:=Am A220
       clear A220
       by_cases c23:t355 ≥ a1
       ·rw [if_pos c23] at H
        have c23b0:decide (a1≤t355)=true:=decide_eq_true c23
        clear c23
        have H':=Am H
        clear H
        have hcz24_0:wr.cell? ⟨gb352,0,none⟩=some (.slice A0_0 l0_0.length c0_0):=(blk_cell BK352.out 0).trans rfl
        have hfz24_0:=blk_frozen BK352.out 0
        go_wp2_with (first|((with_reducible refine gate_callee (f:=35) rfl ?_);refine goesL_ (some 30) rfl rfl Try.func35 (by kernel_rfl) rfl #[.agg #[.slice A0_0 l0_0.length c0_0], .int .i64 (wrap64 (Int.tdiv (wrap64 (x6_1+x7_1)) 2))] rfl (by (try simp only [List.map_toArray,List.map_cons,List.map_nil]);first|done|rfl|(simp only [List.length_drop,List.length_take];rfl)) ?_;(with_reducible refine (soundserviceref13_position.calls k1 _ _ l0_0 (wrap64 (Int.tdiv (wrap64 (x6_1+x7_1)) 2)) t355 _ ?side1 ?side2 A22.out).mono ?_);(case side1=>repeat (first|exact (Kd.C_below HR0_0.out HB.out)|(with_reducible refine Kd.C_alloc ?_ _)|(with_reducible refine Kd.C_drewN ?_ _)|(with_reducible refine Kd.C_drew ?_)));(case side2=>exact HC0_0.out);rintro e w25 ⟨rfl,hb⟩;refine ⟨_,rfl,?_⟩;have n0_:=Am (blk_below (g:=gb352) (o:=.cells #[.slice A0_0 l0_0.length c0_0] 24 (0,0)) (by (with_reducible repeat first|apply kN|apply kD|apply kA);exact BK352.out) hb);have n1_:=Am (below_step (by repeat (first|(with_reducible first|exact HB.out|apply bA|apply bN|apply bD|refine bS ?_ GE352.out)|exact HB.out)) hb);clear BK352 HB;have BK352:=n0_;have HB:=n1_;clear n0_ n1_;(try clear hb)))
        go_roundg k1
        case measure=>have:=HK1.out;omega
        case rel=>exact ⟨(x6_1),(wrap64 (Int.tdiv (wrap64 (x6_1+x7_1)) 2)),(by first|rfl|(simp;done)|(simp [*];done)),(by first|rfl|(simp;done)|(simp [*];done)),H',⟨by have:=HK1.out;omega⟩,⟨by (with_reducible repeat first|apply kN|apply kD|apply kA);exact BK352.out⟩,⟨by repeat (first|(with_reducible first|exact HB.out|apply bA|apply bN|apply bD|refine bS ?_ GE352.out)|exact HB.out)⟩⟩
       ·rw [if_neg c23] at H
        have c23b0:decide (a1≤t355)=false:=decide_eq_false c23
        clear c23
        have H':=Am H
        clear H
        have hcz26_0:wr.cell? ⟨gb352,0,none⟩=some (.slice A0_0 l0_0.length c0_0):=(blk_cell BK352.out 0).trans rfl
        have hfz26_0:=blk_frozen BK352.out 0
        go_wp2_with (first|((with_reducible refine gate_callee (f:=35) rfl ?_);refine goesL_ (some 30) rfl rfl Try.func35 (by kernel_rfl) rfl #[.agg #[.slice A0_0 l0_0.length c0_0], .int .i64 (wrap64 (Int.tdiv (wrap64 (x6_1+x7_1)) 2))] rfl (by (try simp only [List.map_toArray,List.map_cons,List.map_nil]);first|done|rfl|(simp only [List.length_drop,List.length_take];rfl)) ?_;(with_reducible refine (soundserviceref13_position.calls k1 _ _ l0_0 (wrap64 (Int.tdiv (wrap64 (x6_1+x7_1)) 2)) t355 _ ?side1 ?side2 A22.out).mono ?_);(case side1=>repeat (first|exact (Kd.C_below HR0_0.out HB.out)|(with_reducible refine Kd.C_alloc ?_ _)|(with_reducible refine Kd.C_drewN ?_ _)|(with_reducible refine Kd.C_drew ?_)));(case side2=>exact HC0_0.out);rintro e w27 ⟨rfl,hb⟩;refine ⟨_,rfl,?_⟩;have n0_:=Am (blk_below (g:=gb352) (o:=.cells #[.slice A0_0 l0_0.length c0_0] 24 (0,0)) (by (with_reducible repeat first|apply kN|apply kD|apply kA);exact BK352.out) hb);have n1_:=Am (below_step (by repeat (first|(with_reducible first|exact HB.out|apply bA|apply bN|apply bD|refine bS ?_ GE352.out)|exact HB.out)) hb);clear BK352 HB;have BK352:=n0_;have HB:=n1_;clear n0_ n1_;(try clear hb)))
        go_roundg k1
        case measure=>have:=HK1.out;omega
        case rel=>exact ⟨(wrap64 ((wrap64 (Int.tdiv (wrap64 (x6_1+x7_1)) 2))+1)),(x7_1),(by first|rfl|(simp;done)|(simp [*];done)),(by first|rfl|(simp;done)|(simp [*];done)),H',⟨by have:=HK1.out;omega⟩,⟨by (with_reducible repeat first|apply kN|apply kD|apply kA);exact BK352.out⟩,⟨by repeat (first|(with_reducible first|exact HB.out|apply bA|apply bN|apply bD|refine bS ?_ GE352.out)|exact HB.out)⟩⟩
      ·rw [if_neg c21] at H
       have c21b0:decide (x6_1 < x7_1)=false:=decide_eq_false c21
       clear c21
       simp only [Option.some.injEq,Prod.mk.injEq] at H
       obtain ⟨rfl,rfl⟩:=H
       go_wp2
       go_ret2
       exact ⟨by first|rfl|(simp [errW_none,errW_some] <;> rfl)|(simp [*,errW_none,errW_some] <;> rfl),by repeat (first|(with_reducible first|exact HB.out|apply bA|apply bN|apply bD|refine bS ?_ GE352.out)|exact HB.out)⟩
 ·replace c4:=Bool.eq_false_iff.mpr c4
  subst c4
  have H1:(some (0,1))=some (r1,r2):=by rw [if_neg (show ¬ (false=true) by decide)] at H;exact H
  clear H;have H:=H1;clear H1
  simp only [Option.some.injEq,Prod.mk.injEq] at H
  obtain ⟨rfl,rfl⟩:=H
  go_enter Try.func27,Try.ntmps27
  go_wp2_with (first|((with_reducible refine gate_dst (N:=2) rfl ?_);refine box_event ?hg (N:=2) ?hd (cs:=#[.slice A0_0 l0_0.length c0_0]) (t:=24) ?hr ?_;(case hd=>rfl);(case hg=>rfl);(case hr=>first|(go_simp;done)|(go_simp;rfl));intro gb352 hg w28 hbox hb;have n0_:=Am (below_step (by repeat (first|(with_reducible first|exact HB.out|apply bA|apply bN|apply bD)|exact HB.out)) hb);have n1_:=Am (hbox);have n2_:=Am ((by rw [hg];exact (below_size (by repeat (first|(with_reducible first|exact HB.out|apply bA|apply bN|apply bD)|exact HB.out))):w.heap.size≤gb352));have n3_:=Am ((by rw [hg];exact (below_size (by repeat (first|(with_reducible first|exact HB.out|apply bA|apply bN|apply bD)|exact HB.out))):w.heap.size≤gb352));clear HB;have HB:=n0_;have BK352:=n1_;have GW352:=n2_;have GE352:=n3_;clear n0_ n1_ n2_ n3_ hb hbox hg;have hcz29_0:w28.cell? ⟨gb352,0,none⟩=some (.slice A0_0 l0_0.length c0_0):=(blk_cell BK352.out 0).trans rfl;have hfz29_0:=blk_frozen BK352.out 0)|((with_reducible refine gate_callee (f:=18) rfl ?_);refine goesL_ (some 11) rfl rfl Try.func18 (by kernel_rfl) rfl #[.agg #[.slice A0_0 l0_0.length c0_0]] rfl (by (try simp only [List.map_toArray,List.map_cons,List.map_nil]);first|done|rfl|(simp only [List.length_drop,List.length_take];rfl)) ?_;(with_reducible refine (soundserviceref13_Valid.calls k _ _ l0_0 false _ ?side1 ?side2 A3.out).mono ?_);(case side1=>repeat (first|exact (Kd.C_below HR0_0.out HB.out)|(with_reducible refine Kd.C_alloc ?_ _)|(with_reducible refine Kd.C_drewN ?_ _)|(with_reducible refine Kd.C_drew ?_)));(case side2=>exact HC0_0.out);rintro e w30 ⟨rfl,hb⟩;refine ⟨_,rfl,?_⟩;have n0_:=Am (blk_below (g:=gb352) (o:=.cells #[.slice A0_0 l0_0.length c0_0] 24 (0,0)) (by (with_reducible repeat first|apply kN|apply kD|apply kA);exact BK352.out) hb);have n1_:=Am (below_step (by repeat (first|(with_reducible first|exact HB.out|apply bA|apply bN|apply bD|refine bS ?_ GE352.out)|exact HB.out)) hb);clear BK352 HB;have BK352:=n0_;have HB:=n1_;clear n0_ n1_;(try clear hb)))
  go_ret2
  exact ⟨by first|rfl|(simp [errW_none,errW_some] <;> rfl)|(simp [*,errW_none,errW_some] <;> rfl),by repeat (first|(with_reducible first|exact HB.out|apply bA|apply bN|apply bD|refine bS ?_ GE352.out)|exact HB.out)⟩

end Go.Proofs.Ythnmmiofhjbkeaa.PA
