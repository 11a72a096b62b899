/- Walks of functions of the program: each does what its Lean function says. Written by a program of this session (wip/xprint), which runs the printer of the kit with changes. -/
import Derived.Test.YthnmmiofhjbkeaaPAx0
import Derived.Test.YthnmmiofhjbkeaaPAx4
import Derived.Test.YthnmmiofhjbkeaaPAx11
namespace Go.Proofs.Ythnmmiofhjbkeaa.PA
open Go.RowKit Go.Proofs.YthnmmiofhjbkeaaW.PrintWords Go.Proofs.YthnmmiofhjbkeaaW.PrintLast Go.Proofs.YthnmmiofhjbkeaaW.PrintMore
attribute [local go_sem] max2_int min2_int max_two min_two max_three min_three max_four min_four   -- for this text's walks alone
set_option linter.unusedVariables false
set_option linter.unusedSimpArgs false

/-! ### soundserviceref03_Cmp: function 45 -/
mutual
def soundserviceref03_Cmp.j0:Nat→Bool→Int→Int→Int→Int→Option (Int)
 | 0,_,_,_,_,_=>none
 | k+1,x16,x184000,x184001,x185000,x185001=>if x16=true then (some 0) else ((bits_Mul64.f (IntKind.u64.wrap (x184000)) (IntKind.u64.wrap (x185001))).bind fun bt187=>((bits_Mul64.f (IntKind.u64.wrap (x185000)) (IntKind.u64.wrap (x184001))).bind fun bt189=>(if bt187.1 < bt189.1 then (soundserviceref03_Cmp.j1 k bt187.1 bt187.2 bt189.1 bt189.2 true) else (if bt187.1=bt189.1 then (soundserviceref03_Cmp.j1 k bt187.1 bt187.2 bt189.1 bt189.2 (decide (bt187.2 < bt189.2))) else (soundserviceref03_Cmp.j1 k bt187.1 bt187.2 bt189.1 bt189.2 false)))))
def soundserviceref03_Cmp.j1:Nat→Int→Int→Int→Int→Bool→Option (Int)
 | 0,_,_,_,_,_=>none
 | k+1,x5,x6,x7,x8,x37=>if x37=true then (some (-1)) else (if x5 > x7 then (some 1) else (if x5=x7 then (if x6 > x8 then (some 1) else (some 0)) else (some 0)))
end
def soundserviceref03_Cmp.f (k:Nat) (a0_0:Int) (a0_1:Int) (a1_0:Int) (a1_1:Int):Option (Int):=(soundserviceref03_Valid.f k a0_0 a0_1).bind fun t185=>(if t185=true then ((soundserviceref03_Valid.f k a1_0 a1_1).bind fun t186=>(soundserviceref03_Cmp.j0 k (!t186) a0_0 a0_1 a1_0 a1_1)) else (soundserviceref03_Cmp.j0 k true a0_0 a0_1 a1_0 a1_1))
theorem soundserviceref03_Cmp.mono_l:∀ k,(∀ y0 y1 y2 y3 y4,LeO (soundserviceref03_Cmp.j0 k y0 y1 y2 y3 y4) (soundserviceref03_Cmp.j0 (k+1) y0 y1 y2 y3 y4))∧(∀ y0 y1 y2 y3 y4,LeO (soundserviceref03_Cmp.j1 k y0 y1 y2 y3 y4) (soundserviceref03_Cmp.j1 (k+1) y0 y1 y2 y3 y4))
 | 0=>⟨fun _ _ _ _ _ r h=>by simp [soundserviceref03_Cmp.j0] at h,fun _ _ _ _ _ r h=>by simp [soundserviceref03_Cmp.j1] at h⟩
 | k+1=>by
  obtain ⟨ih0,ih1⟩:=soundserviceref03_Cmp.mono_l k
  refine ⟨?_,?_⟩
  ·intro y0 y1 y2 y3 y4
   unfold soundserviceref03_Cmp.j0
   repeat' first
   | (with_reducible exact ih0 _ _ _ _ _)
   | (with_reducible exact ih1 _ _ _ _ _)
   | (with_reducible exact soundserviceref03_Valid.mono _ _ _)
   | (with_reducible exact LeO.refl _)
   | (with_reducible exact LeO.none _)
   | (with_reducible refine LeO.ite ?_ ?_)
   | (with_reducible refine LeO.bind ?_ (fun _=>?_))
   | exact ih0 _ _ _ _ _
   | exact ih1 _ _ _ _ _
   | exact soundserviceref03_Valid.mono _ _ _
   | exact LeO.none _
   | refine LeO.ite ?_ ?_
   | refine LeO.bind ?_ (fun _=>?_)
  ·intro y0 y1 y2 y3 y4
   unfold soundserviceref03_Cmp.j1
   repeat' first
   | (with_reducible exact ih0 _ _ _ _ _)
   | (with_reducible exact ih1 _ _ _ _ _)
   | (with_reducible exact soundserviceref03_Valid.mono _ _ _)
   | (with_reducible exact LeO.refl _)
   | (with_reducible exact LeO.none _)
   | (with_reducible refine LeO.ite ?_ ?_)
   | (with_reducible refine LeO.bind ?_ (fun _=>?_))
   | exact ih0 _ _ _ _ _
   | exact ih1 _ _ _ _ _
   | exact soundserviceref03_Valid.mono _ _ _
   | exact LeO.none _
   | refine LeO.ite ?_ ?_
   | refine LeO.bind ?_ (fun _=>?_)
theorem soundserviceref03_Cmp.mono:∀ a0 a1 a2 a3 k,LeO (soundserviceref03_Cmp.f k a0 a1 a2 a3) (soundserviceref03_Cmp.f (k+1) a0 a1 a2 a3):=by
 intro a0 a1 a2 a3 k
 obtain ⟨ih0,ih1⟩:=soundserviceref03_Cmp.mono_l k
 unfold soundserviceref03_Cmp.f
 repeat' first
   | (with_reducible exact ih0 _ _ _ _ _)
   | (with_reducible exact ih1 _ _ _ _ _)
   | (with_reducible exact soundserviceref03_Valid.mono _ _ _)
   | (with_reducible exact LeO.refl _)
   | (with_reducible exact LeO.none _)
   | (with_reducible refine LeO.ite ?_ ?_)
   | (with_reducible refine LeO.bind ?_ (fun _=>?_))
   | exact ih0 _ _ _ _ _
   | exact ih1 _ _ _ _ _
   | exact soundserviceref03_Valid.mono _ _ _
   | exact LeO.none _
   | refine LeO.ite ?_ ?_
   | refine LeO.bind ?_ (fun _=>?_)
set_option maxHeartbeats 8000000 in
set_option maxRecDepth 100000 in
theorem soundserviceref03_Cmp.calls (k:Nat) (a0_0:Int) (a0_1:Int) (a1_0:Int) (a1_1:Int) (r:Int) (w:World) (h:soundserviceref03_Cmp.f k a0_0 a0_1 a1_0 a1_1=some r) :
  Calls Try.prog 45 #[.agg #[.int .i64 a0_0, .int .i64 a0_1], .agg #[.int .i64 a1_0, .int .i64 a1_1]] w fun e w'=>e=.returned (.int .i64 r)∧Below w.heap.size w w':=by
 have hu27:=Try.underlying27
 have HB:=Am (Below.refl w.heap.size w)
 have H:((soundserviceref03_Valid.f k a0_0 a0_1).bind fun t185=>(if t185=true then ((soundserviceref03_Valid.f k a1_0 a1_1).bind fun t186=>(soundserviceref03_Cmp.j0 k (!t186) a0_0 a0_1 a1_0 a1_1)) else (soundserviceref03_Cmp.j0 k true a0_0 a0_1 a1_0 a1_1)))=some r:=h
 clear h
 have HC3:=Am H
 clear H
 go_enter Try.func45,Try.ntmps45
 go_upto_region 1 with (first|((with_reducible refine gate_dst (N:=2) rfl ?_);refine box_event ?hg (N:=2) ?hd (cs:=#[.int .i64 a0_0, .int .i64 a0_1]) (t:=27) ?hr ?_;(case hd=>rfl);(case hg=>rfl);(case hr=>first|(go_simp;done)|(go_simp;rfl));intro gb183 hg w4 hbox hb;have n0_:=Am (below_step (by repeat (first|(with_reducible first|exact HB.out|apply bA|apply bN|apply bD)|exact HB.out)) hb);have n1_:=Am (hbox);have n2_:=Am ((by rw [hg];exact (below_size (by repeat (first|(with_reducible first|exact HB.out|apply bA|apply bN|apply bD)|exact HB.out))):w.heap.size≤gb183));have n3_:=Am ((by rw [hg];exact (below_size (by repeat (first|(with_reducible first|exact HB.out|apply bA|apply bN|apply bD)|exact HB.out))):w.heap.size≤gb183));clear HB;have HB:=n0_;have BK183:=n1_;have GW183:=n2_;have GE183:=n3_;clear n0_ n1_ n2_ n3_ hb hbox hg)|((with_reducible refine gate_dst (N:=3) rfl ?_);refine box_event ?hg (N:=3) ?hd (cs:=#[.int .i64 a1_0, .int .i64 a1_1]) (t:=27) ?hr ?_;(case hd=>rfl);(case hg=>rfl);(case hr=>first|(go_simp;done)|(go_simp;rfl));intro gb184 hg w5 hbox hb;have n0_:=Am (blk_below (g:=gb183) (o:=.cells #[.int .i64 a0_0, .int .i64 a0_1] 27 (0,0)) (by (with_reducible repeat first|apply kN|apply kD|apply kA);exact BK183.out) hb);have n1_:=Am (below_step (by repeat (first|(with_reducible first|exact HB.out|apply bA|apply bN|apply bD|refine bS ?_ GE183.out)|exact HB.out)) hb);have n2_:=Am (hbox);have n3_:=Am ((by rw [hg];exact (below_size (by repeat (first|(with_reducible first|exact HB.out|apply bA|apply bN|apply bD|refine bS ?_ GE183.out)|exact HB.out))):w.heap.size≤gb184));have n4_:=Am ((by rw [hg];exact (below_size (by repeat (first|(with_reducible first|exact HB.out|apply bA|apply bN|apply bD|refine bS ?_ GE183.out)|exact HB.out))):w.heap.size≤gb184));have n5_:=Am ((by rw [hg];exact Nat.ne_of_lt (blk_lt (g:=gb183) (o:=.cells #[.int .i64 a0_0, .int .i64 a0_1] 27 (0,0)) (by (with_reducible repeat first|apply kN|apply kD|apply kA);exact BK183.out)):gb183≠gb184));have n6_:=Am (n5_.out.symm);clear BK183 HB;have BK183:=n0_;have HB:=n1_;have BK184:=n2_;have GW184:=n3_;have GE184:=n4_;have NB183_184:=n5_;have NB184_183:=n6_;clear n0_ n1_ n2_ n3_ n4_ n5_ n6_ hb hbox hg))
 (try simp only [pL])
 go_cut [16] (fun v16 wc=>∃ (kq:Nat) (x16_2:Bool),v16=.bool x16_2∧Aside0 (soundserviceref03_Cmp.j0 kq x16_2 a0_0 a0_1 a1_0 a1_1=some r)∧Aside0 (kq≤k)∧Aside0 (wc.heap[gb183]?=some (.cells #[.int .i64 a0_0, .int .i64 a0_1] 27 (0,0)))∧Aside0 (wc.heap[gb184]?=some (.cells #[.int .i64 a1_0, .int .i64 a1_1] 27 (0,0)))∧Aside0 (Below w.heap.size w wc))
 case first =>
  have H:=HC3.out
  clear HC3
  replace H:=Option.bind_eq_some_iff.mp H
  obtain ⟨t185,A60,H⟩:=H
  replace H:(if t185=true then ((soundserviceref03_Valid.f k a1_0 a1_1).bind fun t186=>(soundserviceref03_Cmp.j0 k (!t186) a0_0 a0_1 a1_0 a1_1)) else (soundserviceref03_Cmp.j0 k true a0_0 a0_1 a1_0 a1_1))=some r:=H
  have A6:=Am A60
  clear A60
  by_cases c7:t185=true
  ·subst c7
   have H1:((soundserviceref03_Valid.f k a1_0 a1_1).bind fun t186=>(soundserviceref03_Cmp.j0 k (!t186) a0_0 a0_1 a1_0 a1_1))=some r:=by rw [if_pos rfl] at H;exact H
   clear H;have H:=H1;clear H1
   replace H:=Option.bind_eq_some_iff.mp H
   obtain ⟨t186,A80,H⟩:=H
   replace H:(soundserviceref03_Cmp.j0 k (!t186) a0_0 a0_1 a1_0 a1_1)=some r:=H
   have A8:=Am A80
   clear A80
   have H':=Am H
   clear H
   have hnb9:=NB183_184.out
   have hnc9:=NB184_183.out
   have hcz10_0:w5.cell? ⟨gb183,0,none⟩=some (.int .i64 a0_0):=(blk_cell BK183.out 0).trans rfl
   have hcz10_1:w5.cell? ⟨gb183,1,none⟩=some (.int .i64 a0_1):=(blk_cell BK183.out 1).trans rfl
   have hfz10_0:=blk_frozen BK183.out 0
   have hfz10_1:=blk_frozen BK183.out 1
   go_wp2_with (first|((with_reducible refine gate_callee (f:=44) rfl ?_);refine goesL_ (some 10) rfl rfl Try.func44 (by kernel_rfl) rfl #[.agg #[.int .i64 a0_0, .int .i64 a0_1]] rfl (by (try simp only [List.map_toArray,List.map_cons,List.map_nil]);first|done|rfl|(simp only [List.length_drop,List.length_take];rfl)) ?_;(with_reducible refine (soundserviceref03_Valid.calls k a0_0 a0_1 true _ A6.out).mono ?_);rintro e w11 ⟨rfl,hb⟩;refine ⟨_,rfl,?_⟩;have n0_:=Am (blk_below (g:=gb183) (o:=.cells #[.int .i64 a0_0, .int .i64 a0_1] 27 (0,0)) (by (with_reducible repeat first|apply kN|apply kD|apply kA);exact BK183.out) hb);have n1_:=Am (blk_below (g:=gb184) (o:=.cells #[.int .i64 a1_0, .int .i64 a1_1] 27 (0,0)) (by (with_reducible repeat first|apply kN|apply kD|apply kA);exact BK184.out) hb);have n2_:=Am (below_step (by repeat (first|(with_reducible first|exact HB.out|apply bA|apply bN|apply bD|refine bS ?_ GE183.out|refine bS ?_ GE184.out)|exact HB.out)) hb);clear BK183 BK184 HB;have BK183:=n0_;have BK184:=n1_;have HB:=n2_;clear n0_ n1_ n2_;(try clear hb);have hcz12_0:w11.cell? ⟨gb184,0,none⟩=some (.int .i64 a1_0):=(blk_cell BK184.out 0).trans rfl;have hcz12_1:w11.cell? ⟨gb184,1,none⟩=some (.int .i64 a1_1):=(blk_cell BK184.out 1).trans rfl;have hfz12_0:=blk_frozen BK184.out 0;have hfz12_1:=blk_frozen BK184.out 1)|(go_at_call 44;(with_reducible refine (soundserviceref03_Valid.calls k a1_0 a1_1 t186 _ A8.out).mono ?_);rintro e w13 ⟨rfl,hb⟩;have n0_:=Am (blk_below (g:=gb183) (o:=.cells #[.int .i64 a0_0, .int .i64 a0_1] 27 (0,0)) (by (with_reducible repeat first|apply kN|apply kD|apply kA);exact BK183.out) hb);have n1_:=Am (blk_below (g:=gb184) (o:=.cells #[.int .i64 a1_0, .int .i64 a1_1] 27 (0,0)) (by (with_reducible repeat first|apply kN|apply kD|apply kA);exact BK184.out) hb);have n2_:=Am (below_step (by repeat (first|(with_reducible first|exact HB.out|apply bA|apply bN|apply bD|refine bS ?_ GE183.out|refine bS ?_ GE184.out)|exact HB.out)) hb);clear BK183 BK184 HB;have BK183:=n0_;have BK184:=n1_;have HB:=n2_;clear n0_ n1_ n2_;(try clear hb)))
   go_meet
   case rel=>exact ⟨_,(!t186),(by first|rfl|(simp;done)|(simp [*];done)),H',⟨by first|omega|exact Nat.le_refl _⟩,⟨by (with_reducible repeat first|apply kN|apply kD|apply kA);exact BK183.out⟩,⟨by (with_reducible repeat first|apply kN|apply kD|apply kA);exact BK184.out⟩,⟨by repeat (first|(with_reducible first|exact HB.out|apply bA|apply bN|apply bD|refine bS ?_ GE183.out|refine bS ?_ GE184.out)|exact HB.out)⟩⟩
  ·replace c7:=Bool.eq_false_iff.mpr c7
   subst c7
   have H1:(soundserviceref03_Cmp.j0 k true a0_0 a0_1 a1_0 a1_1)=some r:=by rw [if_neg (show ¬ (false=true) by decide)] at H;exact H
   clear H;have H:=H1;clear H1
   have H':=Am H
   clear H
   have hnb14:=NB183_184.out
   have hnc14:=NB184_183.out
   have hcz15_0:w5.cell? ⟨gb183,0,none⟩=some (.int .i64 a0_0):=(blk_cell BK183.out 0).trans rfl
   have hcz15_1:w5.cell? ⟨gb183,1,none⟩=some (.int .i64 a0_1):=(blk_cell BK183.out 1).trans rfl
   have hfz15_0:=blk_frozen BK183.out 0
   have hfz15_1:=blk_frozen BK183.out 1
   go_wp2_with (first|((with_reducible refine gate_callee (f:=44) rfl ?_);refine goesL_ (some 10) rfl rfl Try.func44 (by kernel_rfl) rfl #[.agg #[.int .i64 a0_0, .int .i64 a0_1]] rfl (by (try simp only [List.map_toArray,List.map_cons,List.map_nil]);first|done|rfl|(simp only [List.length_drop,List.length_take];rfl)) ?_;(with_reducible refine (soundserviceref03_Valid.calls k a0_0 a0_1 false _ A6.out).mono ?_);rintro e w16 ⟨rfl,hb⟩;refine ⟨_,rfl,?_⟩;have n0_:=Am (blk_below (g:=gb183) (o:=.cells #[.int .i64 a0_0, .int .i64 a0_1] 27 (0,0)) (by (with_reducible repeat first|apply kN|apply kD|apply kA);exact BK183.out) hb);have n1_:=Am (blk_below (g:=gb184) (o:=.cells #[.int .i64 a1_0, .int .i64 a1_1] 27 (0,0)) (by (with_reducible repeat first|apply kN|apply kD|apply kA);exact BK184.out) hb);have n2_:=Am (below_step (by repeat (first|(with_reducible first|exact HB.out|apply bA|apply bN|apply bD|refine bS ?_ GE183.out|refine bS ?_ GE184.out)|exact HB.out)) hb);clear BK183 BK184 HB;have BK183:=n0_;have BK184:=n1_;have HB:=n2_;clear n0_ n1_ n2_;(try clear hb)))
   go_meet
   case rel=>exact ⟨_,(true),(by first|rfl|(simp;done)|(simp [*];done)),H',⟨by first|omega|exact Nat.le_refl _⟩,⟨by (with_reducible repeat first|apply kN|apply kD|apply kA);exact BK183.out⟩,⟨by (with_reducible repeat first|apply kN|apply kD|apply kA);exact BK184.out⟩,⟨by repeat (first|(with_reducible first|exact HB.out|apply bA|apply bN|apply bD|refine bS ?_ GE183.out|refine bS ?_ GE184.out)|exact HB.out)⟩⟩
 case rest =>
  clear HC3;(try clear c1);(try clear p2);(try clear c4);(try clear c7);(try clear c9);(try clear c14);(try clear hcz10_0);(try clear hcz10_1);(try clear hcz12_0);(try clear hcz12_1);(try clear hcz15_0);(try clear hcz15_1);(try clear hfz10_0);(try clear hfz10_1);(try clear hfz12_0);(try clear hfz12_1);(try clear hfz15_0);(try clear hfz15_1)
  obtain ⟨kq,x16_2,rfl,HA,HJ2,BK183,BK184,HB⟩:=hcut
  cases kq with
  | zero=>exact absurd HA.out (by simp [soundserviceref03_Cmp.j0])
  | succ kj2 =>
   have H:=HA.out
   clear HA
   simp only [soundserviceref03_Cmp.j0] at H
   by_cases c17:x16_2=true
   ·subst c17
    have H1:(some 0)=some r:=by rw [if_pos rfl] at H;exact H
    clear H;have H:=H1;clear H1
    obtain rfl:=Option.some.inj H
    go_wp2
    go_ret
    exact ⟨by first|rfl|(simp [errW_none,errW_some] <;> rfl)|(simp [*,errW_none,errW_some] <;> rfl),by repeat (first|(with_reducible first|exact HB.out|apply bA|apply bN|apply bD|refine bS ?_ GE183.out|refine bS ?_ GE184.out)|exact HB.out)⟩
   ·replace c17:=Bool.eq_false_iff.mpr c17
    subst c17
    have H1:((bits_Mul64.f (IntKind.u64.wrap (a0_0)) (IntKind.u64.wrap (a1_1))).bind fun bt187=>((bits_Mul64.f (IntKind.u64.wrap (a1_0)) (IntKind.u64.wrap (a0_1))).bind fun bt189=>(if bt187.1 < bt189.1 then (soundserviceref03_Cmp.j1 kj2 bt187.1 bt187.2 bt189.1 bt189.2 true) else (if bt187.1=bt189.1 then (soundserviceref03_Cmp.j1 kj2 bt187.1 bt187.2 bt189.1 bt189.2 (decide (bt187.2 < bt189.2))) else (soundserviceref03_Cmp.j1 kj2 bt187.1 bt187.2 bt189.1 bt189.2 false)))))=some r:=by rw [if_neg (show ¬ (false=true) by decide)] at H;exact H
    clear H;have H:=H1;clear H1
    replace H:=Option.bind_eq_some_iff.mp H
    obtain ⟨⟨t187,t188⟩,A180,H⟩:=H
    replace H:((bits_Mul64.f (IntKind.u64.wrap (a1_0)) (IntKind.u64.wrap (a0_1))).bind fun bt189=>(if t187 < bt189.1 then (soundserviceref03_Cmp.j1 kj2 t187 t188 bt189.1 bt189.2 true) else (if t187=bt189.1 then (soundserviceref03_Cmp.j1 kj2 t187 t188 bt189.1 bt189.2 (decide (t188 < bt189.2))) else (soundserviceref03_Cmp.j1 kj2 t187 t188 bt189.1 bt189.2 false))))=some r:=H
    have A18:=Am A180
    clear A180
    replace H:=Option.bind_eq_some_iff.mp H
    obtain ⟨⟨t189,t190⟩,A190,H⟩:=H
    replace H:(if t187 < t189 then (soundserviceref03_Cmp.j1 kj2 t187 t188 t189 t190 true) else (if t187=t189 then (soundserviceref03_Cmp.j1 kj2 t187 t188 t189 t190 (decide (t188 < t190))) else (soundserviceref03_Cmp.j1 kj2 t187 t188 t189 t190 false)))=some r:=H
    have A19:=Am A190
    clear A190
    have HC20:=Am H
    clear H
    have hnb21:=NB183_184.out
    have hnc21:=NB184_183.out
    have hcz22_0:wc.cell? ⟨gb183,0,none⟩=some (.int .i64 a0_0):=(blk_cell BK183.out 0).trans rfl
    have hcz22_1:wc.cell? ⟨gb183,1,none⟩=some (.int .i64 a0_1):=(blk_cell BK183.out 1).trans rfl
    have hfz22_0:=blk_frozen BK183.out 0
    have hfz22_1:=blk_frozen BK183.out 1
    have hcz23_0:wc.cell? ⟨gb184,0,none⟩=some (.int .i64 a1_0):=(blk_cell BK184.out 0).trans rfl
    have hcz23_1:wc.cell? ⟨gb184,1,none⟩=some (.int .i64 a1_1):=(blk_cell BK184.out 1).trans rfl
    have hfz23_0:=blk_frozen BK184.out 0
    have hfz23_1:=blk_frozen BK184.out 1
    go_upto_region 5 with (first|((with_reducible refine gate_callee (f:=52) rfl ?_);refine goesL_ (some 24) rfl rfl Try.func52 (by kernel_rfl) rfl #[.int .u64 (IntKind.u64.wrap (a0_0)), .int .u64 (IntKind.u64.wrap (a1_1))] rfl (by (try simp only [List.map_toArray,List.map_cons,List.map_nil]);first|done|rfl|(simp only [List.length_drop,List.length_take];rfl)) ?_;(with_reducible refine (bits_Mul64.calls (IntKind.u64.wrap (a0_0)) (IntKind.u64.wrap (a1_1)) t187 t188 _ A18.out).mono ?_);rintro e w' ⟨rfl,⟨nd,rfl⟩⟩;refine ⟨_,rfl,?_⟩)|((with_reducible refine gate_callee (f:=52) rfl ?_);refine goesL_ (some 34) rfl rfl Try.func52 (by kernel_rfl) rfl #[.int .u64 (IntKind.u64.wrap (a1_0)), .int .u64 (IntKind.u64.wrap (a0_1))] rfl (by (try simp only [List.map_toArray,List.map_cons,List.map_nil]);first|done|rfl|(simp only [List.length_drop,List.length_take];rfl)) ?_;(with_reducible refine (bits_Mul64.calls (IntKind.u64.wrap (a1_0)) (IntKind.u64.wrap (a0_1)) t189 t190 _ A19.out).mono ?_);rintro e w' ⟨rfl,⟨nd,rfl⟩⟩;refine ⟨_,rfl,?_⟩))
    (try simp only [pL])
    go_cut [37] (fun v37 wc=>∃ (kq:Nat) (x37_19:Bool),v37=.bool x37_19∧Aside0 (soundserviceref03_Cmp.j1 kq t187 t188 t189 t190 x37_19=some r)∧Aside0 (kq≤kj2)∧Aside0 (wc.heap[gb183]?=some (.cells #[.int .i64 a0_0, .int .i64 a0_1] 27 (0,0)))∧Aside0 (wc.heap[gb184]?=some (.cells #[.int .i64 a1_0, .int .i64 a1_1] 27 (0,0)))∧Aside0 (Below w.heap.size w wc))
    case first =>
     have H:=HC20.out
     clear HC20
     by_cases c24:t187 < t189
     ·rw [if_pos c24] at H
      have c24b0:decide (t187 < t189)=true:=decide_eq_true c24
      clear c24
      (first|rw [c24b0]|(simp only [i64_w,i32_w];rw [c24b0])|skip)
      have H':=Am H
      clear H
      go_wp2
      go_meet
      case rel=>exact ⟨_,(true),(by first|rfl|(simp;done)|(simp [*];done)),H',⟨by have:=HJ2.out;first|omega|exact Nat.le_refl _⟩,⟨by (with_reducible repeat first|apply kN|apply kD|apply kA);exact BK183.out⟩,⟨by (with_reducible repeat first|apply kN|apply kD|apply kA);exact BK184.out⟩,⟨by repeat (first|(with_reducible first|exact HB.out|apply bA|apply bN|apply bD|refine bS ?_ GE183.out|refine bS ?_ GE184.out)|exact HB.out)⟩⟩
     ·rw [if_neg c24] at H
      have c24b0:decide (t187 < t189)=false:=decide_eq_false c24
      clear c24
      (first|rw [c24b0]|(simp only [i64_w,i32_w];rw [c24b0])|skip)
      by_cases c25:t187=t189
      ·rw [if_pos c25] at H
       have c25b0:(t187 == t189)=true:=beq_iff_eq.mpr c25
       have c25b1:(t187 != t189)=false:=bne_eq_false_iff_eq.mpr c25
       clear c25
       have H':=Am H
       clear H
       go_wp2
       go_meet
       case rel=>exact ⟨_,(decide (t188 < t190)),(by first|rfl|(simp;done)|(simp [*];done)),H',⟨by have:=HJ2.out;first|omega|exact Nat.le_refl _⟩,⟨by (with_reducible repeat first|apply kN|apply kD|apply kA);exact BK183.out⟩,⟨by (with_reducible repeat first|apply kN|apply kD|apply kA);exact BK184.out⟩,⟨by repeat (first|(with_reducible first|exact HB.out|apply bA|apply bN|apply bD|refine bS ?_ GE183.out|refine bS ?_ GE184.out)|exact HB.out)⟩⟩
      ·rw [if_neg c25] at H
       have c25b0:(t187 == t189)=false:=beq_eq_false_iff_ne.mpr c25
       have c25b1:(t187 != t189)=true:=bne_iff_ne.mpr c25
       have H':=Am H
       clear H
       go_wp2
       go_meet
       case rel=>exact ⟨_,(false),(by first|rfl|(simp;done)|(simp [*];done)),H',⟨by have:=HJ2.out;first|omega|exact Nat.le_refl _⟩,⟨by (with_reducible repeat first|apply kN|apply kD|apply kA);exact BK183.out⟩,⟨by (with_reducible repeat first|apply kN|apply kD|apply kA);exact BK184.out⟩,⟨by repeat (first|(with_reducible first|exact HB.out|apply bA|apply bN|apply bD|refine bS ?_ GE183.out|refine bS ?_ GE184.out)|exact HB.out)⟩⟩
    case rest =>
     clear HC20;(try clear c1);(try clear c2);(try clear p2);(try clear c4);(try clear c5);(try clear c7);(try clear c9);(try clear c14);(try clear c17);(try clear c21);(try clear c24);(try clear c24b0);(try clear c25);(try clear c25b0);(try clear c25b1);(try clear hcz10_0);(try clear hcz10_1);(try clear hcz12_0);(try clear hcz12_1);(try clear hcz15_0);(try clear hcz15_1);(try clear hcz22_0);(try clear hcz22_1);(try clear hcz23_0);(try clear hcz23_1);(try clear hfz10_0);(try clear hfz10_1);(try clear hfz12_0);(try clear hfz12_1);(try clear hfz15_0);(try clear hfz15_1);(try clear hfz22_0);(try clear hfz22_1);(try clear hfz23_0);(try clear hfz23_1);(try clear p2)
     obtain ⟨kq,x37_19,rfl,HA,HJ19,BK183,BK184,HB⟩:=hcut
     cases kq with
     | zero=>exact absurd HA.out (by simp [soundserviceref03_Cmp.j1])
     | succ kj19 =>
      have H:=HA.out
      clear HA
      simp only [soundserviceref03_Cmp.j1] at H
      by_cases c26:x37_19=true
      ·subst c26
       have H1:(some (-1))=some r:=by rw [if_pos rfl] at H;exact H
       clear H;have H:=H1;clear H1
       obtain rfl:=Option.some.inj H
       go_wp2
       go_ret
       exact ⟨by first|rfl|(simp [errW_none,errW_some] <;> rfl)|(simp [*,errW_none,errW_some] <;> rfl),by repeat (first|(with_reducible first|exact HB.out|apply bA|apply bN|apply bD|refine bS ?_ GE183.out|refine bS ?_ GE184.out)|exact HB.out)⟩
      ·replace c26:=Bool.eq_false_iff.mpr c26
       subst c26
       have H1:(if t187 > t189 then (some 1) else (if t187=t189 then (if t188 > t190 then (some 1) else (some 0)) else (some 0)))=some r:=by rw [if_neg (show ¬ (false=true) by decide)] at H;exact H
       clear H;have H:=H1;clear H1
       by_cases c27:t187 > t189
       ·rw [if_pos c27] at H
        have c27b0:decide (t189 < t187)=true:=decide_eq_true c27
        clear c27
        obtain rfl:=Option.some.inj H
        go_wp2
        go_ret
        exact ⟨by first|rfl|(simp [errW_none,errW_some] <;> rfl)|(simp [*,errW_none,errW_some] <;> rfl),by repeat (first|(with_reducible first|exact HB.out|apply bA|apply bN|apply bD|refine bS ?_ GE183.out|refine bS ?_ GE184.out)|exact HB.out)⟩
       ·rw [if_neg c27] at H
        have c27b0:decide (t189 < t187)=false:=decide_eq_false c27
        clear c27
        by_cases c28:t187=t189
        ·rw [if_pos c28] at H
         have c28b0:(t187 == t189)=true:=beq_iff_eq.mpr c28
         have c28b1:(t187 != t189)=false:=bne_eq_false_iff_eq.mpr c28
         clear c28
         by_cases c29:t188 > t190
         ·rw [if_pos c29] at H
          have c29b0:decide (t190 < t188)=true:=decide_eq_true c29
          clear c29
          obtain rfl:=Option.some.inj H
          go_wp2
          go_ret
          exact ⟨by first|rfl|(simp [errW_none,errW_some] <;> rfl)|(simp [*,errW_none,errW_some] <;> rfl),by repeat (first|(with_reducible first|exact HB.out|apply bA|apply bN|apply bD|refine bS ?_ GE183.out|refine bS ?_ GE184.out)|exact HB.out)⟩
         ·rw [if_neg c29] at H
          have c29b0:decide (t190 < t188)=false:=decide_eq_false c29
          clear c29
          obtain rfl:=Option.some.inj H
          go_wp2
          go_ret
          exact ⟨by first|rfl|(simp [errW_none,errW_some] <;> rfl)|(simp [*,errW_none,errW_some] <;> rfl),by repeat (first|(with_reducible first|exact HB.out|apply bA|apply bN|apply bD|refine bS ?_ GE183.out|refine bS ?_ GE184.out)|exact HB.out)⟩
        ·rw [if_neg c28] at H
         have c28b0:(t187 == t189)=false:=beq_eq_false_iff_ne.mpr c28
         have c28b1:(t187 != t189)=true:=bne_iff_ne.mpr c28
         obtain rfl:=Option.some.inj H
         go_wp2
         go_ret
         exact ⟨by first|rfl|(simp [errW_none,errW_some] <;> rfl)|(simp [*,errW_none,errW_some] <;> rfl),by repeat (first|(with_reducible first|exact HB.out|apply bA|apply bN|apply bD|refine bS ?_ GE183.out|refine bS ?_ GE184.out)|exact HB.out)⟩

/-! ### soundserviceref13_rate: function 31 -/
def soundserviceref13_rate.f (k:Nat) (a0_0:Int) (a0_1:Int):Option (Bool):=(soundserviceref03_Valid.f k a0_0 a0_1).bind fun t192=>(if t192=true then ((soundserviceref03_Cmp.f k a0_0 a0_1 1 1024).bind fun t193=>(if t193 ≥ 0 then ((soundserviceref03_Cmp.f k a0_0 a0_1 1024 1).bind fun t194=>(some (decide (t194≤0)))) else (some false))) else (some false))
theorem soundserviceref13_rate.mono:∀ a0 a1 k,LeO (soundserviceref13_rate.f k a0 a1) (soundserviceref13_rate.f (k+1) a0 a1):=by
 intro a0 a1 k
 unfold soundserviceref13_rate.f
 repeat' first
   | (with_reducible exact soundserviceref03_Cmp.mono _ _ _ _ _)
   | (with_reducible exact soundserviceref03_Valid.mono _ _ _)
   | (with_reducible exact LeO.refl _)
   | (with_reducible exact LeO.none _)
   | (with_reducible refine LeO.ite ?_ ?_)
   | (with_reducible refine LeO.bind ?_ (fun _=>?_))
   | exact soundserviceref03_Cmp.mono _ _ _ _ _
   | exact soundserviceref03_Valid.mono _ _ _
   | exact LeO.none _
   | refine LeO.ite ?_ ?_
   | refine LeO.bind ?_ (fun _=>?_)
set_option maxHeartbeats 8000000 in
set_option maxRecDepth 100000 in
theorem soundserviceref13_rate.calls (k:Nat) (a0_0:Int) (a0_1:Int) (r:Bool) (w:World) (h:soundserviceref13_rate.f k a0_0 a0_1=some r) :
  Calls Try.prog 31 #[.agg #[.int .i64 a0_0, .int .i64 a0_1]] w fun e w'=>e=.returned (.bool r)∧Below w.heap.size w w':=by
 have hu27:=Try.underlying27
 have HB:=Am (Below.refl w.heap.size w)
 have H:((soundserviceref03_Valid.f k a0_0 a0_1).bind fun t192=>(if t192=true then ((soundserviceref03_Cmp.f k a0_0 a0_1 1 1024).bind fun t193=>(if t193 ≥ 0 then ((soundserviceref03_Cmp.f k a0_0 a0_1 1024 1).bind fun t194=>(some (decide (t194≤0)))) else (some false))) else (some false)))=some r:=h
 clear h
 replace H:=Option.bind_eq_some_iff.mp H
 obtain ⟨t192,A20,H⟩:=H
 replace H:(if t192=true then ((soundserviceref03_Cmp.f k a0_0 a0_1 1 1024).bind fun t193=>(if t193 ≥ 0 then ((soundserviceref03_Cmp.f k a0_0 a0_1 1024 1).bind fun t194=>(some (decide (t194≤0)))) else (some false))) else (some false))=some r:=H
 have A2:=Am A20
 clear A20
 by_cases c3:t192=true
 ·subst c3
  have H1:((soundserviceref03_Cmp.f k a0_0 a0_1 1 1024).bind fun t193=>(if t193 ≥ 0 then ((soundserviceref03_Cmp.f k a0_0 a0_1 1024 1).bind fun t194=>(some (decide (t194≤0)))) else (some false)))=some r:=by rw [if_pos rfl] at H;exact H
  clear H;have H:=H1;clear H1
  replace H:=Option.bind_eq_some_iff.mp H
  obtain ⟨t193,A40,H⟩:=H
  replace H:(if t193 ≥ 0 then ((soundserviceref03_Cmp.f k a0_0 a0_1 1024 1).bind fun t194=>(some (decide (t194≤0)))) else (some false))=some r:=H
  have A4:=Am A40
  clear A40
  by_cases c5:t193 ≥ 0
  ·rw [if_pos c5] at H
   have c5b0:decide (0≤t193)=true:=decide_eq_true c5
   clear c5
   replace H:=Option.bind_eq_some_iff.mp H
   obtain ⟨t194,A60,H⟩:=H
   replace H:(some (decide (t194≤0)))=some r:=H
   have A6:=Am A60
   clear A60
   obtain rfl:=Option.some.inj H
   go_enter Try.func31,Try.ntmps31
   go_wp2_with (first|((with_reducible refine gate_dst (N:=1) rfl ?_);refine box_event ?hg (N:=1) ?hd (cs:=#[.int .i64 a0_0, .int .i64 a0_1]) (t:=27) ?hr ?_;(case hd=>rfl);(case hg=>rfl);(case hr=>first|(go_simp;done)|(go_simp;rfl));intro gb191 hg w7 hbox hb;have n0_:=Am (below_step (by repeat (first|(with_reducible first|exact HB.out|apply bA|apply bN|apply bD)|exact HB.out)) hb);have n1_:=Am (hbox);have n2_:=Am ((by rw [hg];exact (below_size (by repeat (first|(with_reducible first|exact HB.out|apply bA|apply bN|apply bD)|exact HB.out))):w.heap.size≤gb191));have n3_:=Am ((by rw [hg];exact (below_size (by repeat (first|(with_reducible first|exact HB.out|apply bA|apply bN|apply bD)|exact HB.out))):w.heap.size≤gb191));clear HB;have HB:=n0_;have BK191:=n1_;have GW191:=n2_;have GE191:=n3_;clear n0_ n1_ n2_ n3_ hb hbox hg;have hcz8_0:w7.cell? ⟨gb191,0,none⟩=some (.int .i64 a0_0):=(blk_cell BK191.out 0).trans rfl;have hcz8_1:w7.cell? ⟨gb191,1,none⟩=some (.int .i64 a0_1):=(blk_cell BK191.out 1).trans rfl;have hfz8_0:=blk_frozen BK191.out 0;have hfz8_1:=blk_frozen BK191.out 1)|((with_reducible refine gate_callee (f:=44) rfl ?_);refine goesL_ (some 4) rfl rfl Try.func44 (by kernel_rfl) rfl #[.agg #[.int .i64 a0_0, .int .i64 a0_1]] rfl (by (try simp only [List.map_toArray,List.map_cons,List.map_nil]);first|done|rfl|(simp only [List.length_drop,List.length_take];rfl)) ?_;(with_reducible refine (soundserviceref03_Valid.calls k a0_0 a0_1 true _ A2.out).mono ?_);rintro e w9 ⟨rfl,hb⟩;refine ⟨_,rfl,?_⟩;have n0_:=Am (blk_below (g:=gb191) (o:=.cells #[.int .i64 a0_0, .int .i64 a0_1] 27 (0,0)) (by (with_reducible repeat first|apply kN|apply kD|apply kA);exact BK191.out) hb);have n1_:=Am (below_step (by repeat (first|(with_reducible first|exact HB.out|apply bA|apply bN|apply bD|refine bS ?_ GE191.out)|exact HB.out)) hb);clear BK191 HB;have BK191:=n0_;have HB:=n1_;clear n0_ n1_;(try clear hb);have hcz10_0:w9.cell? ⟨gb191,0,none⟩=some (.int .i64 a0_0):=(blk_cell BK191.out 0).trans rfl;have hcz10_1:w9.cell? ⟨gb191,1,none⟩=some (.int .i64 a0_1):=(blk_cell BK191.out 1).trans rfl;have hfz10_0:=blk_frozen BK191.out 0;have hfz10_1:=blk_frozen BK191.out 1)|(go_at_call 45;(with_reducible refine (soundserviceref03_Cmp.calls k a0_0 a0_1 1 1024 t193 _ A4.out).mono ?_);rintro e w11 ⟨rfl,hb⟩;have n0_:=Am (blk_below (g:=gb191) (o:=.cells #[.int .i64 a0_0, .int .i64 a0_1] 27 (0,0)) (by (with_reducible repeat first|apply kN|apply kD|apply kA);exact BK191.out) hb);have n1_:=Am (below_step (by repeat (first|(with_reducible first|exact HB.out|apply bA|apply bN|apply bD|refine bS ?_ GE191.out)|exact HB.out)) hb);clear BK191 HB;have BK191:=n0_;have HB:=n1_;clear n0_ n1_;(try clear hb);have hcz12_0:w11.cell? ⟨gb191,0,none⟩=some (.int .i64 a0_0):=(blk_cell BK191.out 0).trans rfl;have hcz12_1:w11.cell? ⟨gb191,1,none⟩=some (.int .i64 a0_1):=(blk_cell BK191.out 1).trans rfl;have hfz12_0:=blk_frozen BK191.out 0;have hfz12_1:=blk_frozen BK191.out 1)|(go_at_call 45;(with_reducible refine (soundserviceref03_Cmp.calls k a0_0 a0_1 1024 1 t194 _ A6.out).mono ?_);rintro e w13 ⟨rfl,hb⟩;have n0_:=Am (blk_below (g:=gb191) (o:=.cells #[.int .i64 a0_0, .int .i64 a0_1] 27 (0,0)) (by (with_reducible repeat first|apply kN|apply kD|apply kA);exact BK191.out) hb);have n1_:=Am (below_step (by repeat (first|(with_reducible first|exact HB.out|apply bA|apply bN|apply bD|refine bS ?_ GE191.out)|exact HB.out)) hb);clear BK191 HB;have BK191:=n0_;have HB:=n1_;clear n0_ n1_;(try clear hb)))
   go_ret
   exact ⟨by first|rfl|(simp [errW_none,errW_some] <;> rfl)|(simp [*,errW_none,errW_some] <;> rfl),by repeat (first|(with_reducible first|exact HB.out|apply bA|apply bN|apply bD|refine bS ?_ GE191.out)|exact HB.out)⟩
  ·rw [if_neg c5] at H
   have c5b0:decide (0≤t193)=false:=decide_eq_false c5
   clear c5
   obtain rfl:=Option.some.inj H
   go_enter Try.func31,Try.ntmps31
   go_wp2_with (first|((with_reducible refine gate_dst (N:=1) rfl ?_);refine box_event ?hg (N:=1) ?hd (cs:=#[.int .i64 a0_0, .int .i64 a0_1]) (t:=27) ?hr ?_;(case hd=>rfl);(case hg=>rfl);(case hr=>first|(go_simp;done)|(go_simp;rfl));intro gb191 hg w14 hbox hb;have n0_:=Am (below_step (by repeat (first|(with_reducible first|exact HB.out|apply bA|apply bN|apply bD)|exact HB.out)) hb);have n1_:=Am (hbox);have n2_:=Am ((by rw [hg];exact (below_size (by repeat (first|(with_reducible first|exact HB.out|apply bA|apply bN|apply bD)|exact HB.out))):w.heap.size≤gb191));have n3_:=Am ((by rw [hg];exact (below_size (by repeat (first|(with_reducible first|exact HB.out|apply bA|apply bN|apply bD)|exact HB.out))):w.heap.size≤gb191));clear HB;have HB:=n0_;have BK191:=n1_;have GW191:=n2_;have GE191:=n3_;clear n0_ n1_ n2_ n3_ hb hbox hg;have hcz15_0:w14.cell? ⟨gb191,0,none⟩=some (.int .i64 a0_0):=(blk_cell BK191.out 0).trans rfl;have hcz15_1:w14.cell? ⟨gb191,1,none⟩=some (.int .i64 a0_1):=(blk_cell BK191.out 1).trans rfl;have hfz15_0:=blk_frozen BK191.out 0;have hfz15_1:=blk_frozen BK191.out 1)|((with_reducible refine gate_callee (f:=44) rfl ?_);refine goesL_ (some 4) rfl rfl Try.func44 (by kernel_rfl) rfl #[.agg #[.int .i64 a0_0, .int .i64 a0_1]] rfl (by (try simp only [List.map_toArray,List.map_cons,List.map_nil]);first|done|rfl|(simp only [List.length_drop,List.length_take];rfl)) ?_;(with_reducible refine (soundserviceref03_Valid.calls k a0_0 a0_1 true _ A2.out).mono ?_);rintro e w16 ⟨rfl,hb⟩;refine ⟨_,rfl,?_⟩;have n0_:=Am (blk_below (g:=gb191) (o:=.cells #[.int .i64 a0_0, .int .i64 a0_1] 27 (0,0)) (by (with_reducible repeat first|apply kN|apply kD|apply kA);exact BK191.out) hb);have n1_:=Am (below_step (by repeat (first|(with_reducible first|exact HB.out|apply bA|apply bN|apply bD|refine bS ?_ GE191.out)|exact HB.out)) hb);clear BK191 HB;have BK191:=n0_;have HB:=n1_;clear n0_ n1_;(try clear hb);have hcz17_0:w16.cell? ⟨gb191,0,none⟩=some (.int .i64 a0_0):=(blk_cell BK191.out 0).trans rfl;have hcz17_1:w16.cell? ⟨gb191,1,none⟩=some (.int .i64 a0_1):=(blk_cell BK191.out 1).trans rfl;have hfz17_0:=blk_frozen BK191.out 0;have hfz17_1:=blk_frozen BK191.out 1)|(go_at_call 45;(with_reducible refine (soundserviceref03_Cmp.calls k a0_0 a0_1 1 1024 t193 _ A4.out).mono ?_);rintro e w18 ⟨rfl,hb⟩;have n0_:=Am (blk_below (g:=gb191) (o:=.cells #[.int .i64 a0_0, .int .i64 a0_1] 27 (0,0)) (by (with_reducible repeat first|apply kN|apply kD|apply kA);exact BK191.out) hb);have n1_:=Am (below_step (by repeat (first|(with_reducible first|exact HB.out|apply bA|apply bN|apply bD|refine bS ?_ GE191.out)|exact HB.out)) hb);clear BK191 HB;have BK191:=n0_;have HB:=n1_;clear n0_ n1_;(try clear hb)))
   go_ret
   exact ⟨by first|rfl|(simp [errW_none,errW_some] <;> rfl)|(simp [*,errW_none,errW_some] <;> rfl),by repeat (first|(with_reducible first|exact HB.out|apply bA|apply bN|apply bD|refine bS ?_ GE191.out)|exact HB.out)⟩
 ·replace c3:=Bool.eq_false_iff.mpr c3
  subst c3
  have H1:(some false)=some r:=by rw [if_neg (show ¬ (false=true) by decide)] at H;exact H
  clear H;have H:=H1;clear H1
  obtain rfl:=Option.some.inj H
  go_enter Try.func31,Try.ntmps31
  go_wp2_with (first|((with_reducible refine gate_dst (N:=1) rfl ?_);refine box_event ?hg (N:=1) ?hd (cs:=#[.int .i64 a0_0, .int .i64 a0_1]) (t:=27) ?hr ?_;(case hd=>rfl);(case hg=>rfl);(case hr=>first|(go_simp;done)|(go_simp;rfl));intro gb191 hg w19 hbox hb;have n0_:=Am (below_step (by repeat (first|(with_reducible first|exact HB.out|apply bA|apply bN|apply bD)|exact HB.out)) hb);have n1_:=Am (hbox);have n2_:=Am ((by rw [hg];exact (below_size (by repeat (first|(with_reducible first|exact HB.out|apply bA|apply bN|apply bD)|exact HB.out))):w.heap.size≤gb191));have n3_:=Am ((by rw [hg];exact (below_size (by repeat (first|(with_reducible first|exact HB.out|apply bA|apply bN|apply bD)|exact HB.out))):w.heap.size≤gb191));clear HB;have HB:=n0_;have BK191:=n1_;have GW191:=n2_;have GE191:=n3_;clear n0_ n1_ n2_ n3_ hb hbox hg;have hcz20_0:w19.cell? ⟨gb191,0,none⟩=some (.int .i64 a0_0):=(blk_cell BK191.out 0).trans rfl;have hcz20_1:w19.cell? ⟨gb191,1,none⟩=some (.int .i64 a0_1):=(blk_cell BK191.out 1).trans rfl;have hfz20_0:=blk_frozen BK191.out 0;have hfz20_1:=blk_frozen BK191.out 1)|((with_reducible refine gate_callee (f:=44) rfl ?_);refine goesL_ (some 4) rfl rfl Try.func44 (by kernel_rfl) rfl #[.agg #[.int .i64 a0_0, .int .i64 a0_1]] rfl (by (try simp only [List.map_toArray,List.map_cons,List.map_nil]);first|done|rfl|(simp only [List.length_drop,List.length_take];rfl)) ?_;(with_reducible refine (soundserviceref03_Valid.calls k a0_0 a0_1 false _ A2.out).mono ?_);rintro e w21 ⟨rfl,hb⟩;refine ⟨_,rfl,?_⟩;have n0_:=Am (blk_below (g:=gb191) (o:=.cells #[.int .i64 a0_0, .int .i64 a0_1] 27 (0,0)) (by (with_reducible repeat first|apply kN|apply kD|apply kA);exact BK191.out) hb);have n1_:=Am (below_step (by repeat (first|(with_reducible first|exact HB.out|apply bA|apply bN|apply bD|refine bS ?_ GE191.out)|exact HB.out)) hb);clear BK191 HB;have BK191:=n0_;have HB:=n1_;clear n0_ n1_;(try clear hb)))
  go_ret
  exact ⟨by first|rfl|(simp [errW_none,errW_some] <;> rfl)|(simp [*,errW_none,errW_some] <;> rfl),by repeat (first|(with_reducible first|exact HB.out|apply bA|apply bN|apply bD|refine bS ?_ GE191.out)|exact HB.out)⟩

end Go.Proofs.Ythnmmiofhjbkeaa.PA
