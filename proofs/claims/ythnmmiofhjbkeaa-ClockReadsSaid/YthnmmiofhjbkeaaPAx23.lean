/- Walks of functions of the program: each does what its Lean function says. Written by a program of this session (wip/xprint), which runs the printer of the kit with changes. -/
import Derived.Test.YthnmmiofhjbkeaaPAx0
import Derived.Test.YthnmmiofhjbkeaaPAx4
import Derived.Test.YthnmmiofhjbkeaaPAx6
import Derived.Test.YthnmmiofhjbkeaaPAx11
namespace Go.Proofs.Ythnmmiofhjbkeaa.PA
open Go.RowKit Go.Proofs.YthnmmiofhjbkeaaW.PrintWords Go.Proofs.YthnmmiofhjbkeaaW.PrintLast Go.Proofs.YthnmmiofhjbkeaaW.PrintMore
attribute [local go_sem] max2_int min2_int max_two min_two max_three min_three max_four min_four   -- for this text's walks alone
set_option linter.unusedVariables false
set_option linter.unusedSimpArgs false

/-! ### soundserviceref03_divide: function 55 -/
def soundserviceref03_divide.j0:Nat→Int→Bool→Int→Int→Option (Int × Int × Bool)
 | 0,_,_,_,_=>none
 | k+1,x7,x8,x324000,x324001=>(bits_Mul64.f x7 (IntKind.u64.wrap (x324000))).bind fun bt324=>(if bt324.1 ≥ (IntKind.u64.wrap (x324001)) then (some (0,0,false)) else ((bits_Div64.f k bt324.1 bt324.2 (IntKind.u64.wrap (x324001))).bind fun bt326=>(if bt326.1 > 4611686018427387904 then (some (0,0,false)) else (if x8=true then (if bt326.2=0 then (some (wrap64 (-(wrap64 (bt326.1))),0,true)) else (if bt326.1=4611686018427387904 then (some (0,0,false)) else (some (wrap64 ((wrap64 (-(wrap64 (bt326.1)))) - 1),wrap64 (x324001 - (wrap64 (bt326.2))),true)))) else (some (wrap64 (bt326.1),wrap64 (bt326.2),true))))))
def soundserviceref03_divide.f (k:Nat) (a0:Int) (a1_0:Int) (a1_1:Int):Option (Int × Int × Bool):=if a0 < 0 then (soundserviceref03_divide.j0 k (IntKind.u64.wrap (-(IntKind.u64.wrap (a0)))) (decide (a0 < 0)) a1_0 a1_1) else (soundserviceref03_divide.j0 k (IntKind.u64.wrap (a0)) (decide (a0 < 0)) a1_0 a1_1)
theorem soundserviceref03_divide.mono_l:∀ k,(∀ y0 y1 y2 y3,LeO (soundserviceref03_divide.j0 k y0 y1 y2 y3) (soundserviceref03_divide.j0 (k+1) y0 y1 y2 y3))
 | 0=>fun _ _ _ _ r h=>by simp [soundserviceref03_divide.j0] at h
 | k+1=>by
  have ih0:=soundserviceref03_divide.mono_l k
  ·intro y0 y1 y2 y3
   unfold soundserviceref03_divide.j0
   repeat' first
   | (with_reducible exact ih0 _ _ _ _)
   | (with_reducible exact bits_Div64.mono _ _ _ _)
   | (with_reducible exact LeO.refl _)
   | (with_reducible exact LeO.none _)
   | (with_reducible refine LeO.ite ?_ ?_)
   | (with_reducible refine LeO.bind ?_ (fun _=>?_))
   | exact ih0 _ _ _ _
   | exact bits_Div64.mono _ _ _ _
   | exact LeO.none _
   | refine LeO.ite ?_ ?_
   | refine LeO.bind ?_ (fun _=>?_)
theorem soundserviceref03_divide.mono:∀ a0 a1 a2 k,LeO (soundserviceref03_divide.f k a0 a1 a2) (soundserviceref03_divide.f (k+1) a0 a1 a2):=by
 intro a0 a1 a2 k
 have ih0:=soundserviceref03_divide.mono_l k
 unfold soundserviceref03_divide.f
 repeat' first
   | (with_reducible exact ih0 _ _ _ _)
   | (with_reducible exact bits_Div64.mono _ _ _ _)
   | (with_reducible exact LeO.refl _)
   | (with_reducible exact LeO.none _)
   | (with_reducible refine LeO.ite ?_ ?_)
   | (with_reducible refine LeO.bind ?_ (fun _=>?_))
   | exact ih0 _ _ _ _
   | exact bits_Div64.mono _ _ _ _
   | exact LeO.none _
   | refine LeO.ite ?_ ?_
   | refine LeO.bind ?_ (fun _=>?_)
set_option maxHeartbeats 8000000 in
set_option maxRecDepth 100000 in
theorem soundserviceref03_divide.calls (k:Nat) (a0:Int) (a1_0:Int) (a1_1:Int) (r1:Int) (r2:Int) (r3:Bool) (w:World) (h:soundserviceref03_divide.f k a0 a1_0 a1_1=some (r1,r2,r3)) :
  Calls Try.prog 55 #[.int .i64 a0, .agg #[.int .i64 a1_0, .int .i64 a1_1]] w fun e w'=>e=.returned (.tuple #[.int .i64 r1, .int .i64 r2, .bool r3])∧Below w.heap.size w w':=by
 have hu27:=Try.underlying27
 have HB:=Am (Below.refl w.heap.size w)
 have H:(if a0 < 0 then (soundserviceref03_divide.j0 k (IntKind.u64.wrap (-(IntKind.u64.wrap (a0)))) (decide (a0 < 0)) a1_0 a1_1) else (soundserviceref03_divide.j0 k (IntKind.u64.wrap (a0)) (decide (a0 < 0)) a1_0 a1_1))=some (r1,r2,r3):=h
 clear h
 have HC3:=Am H
 clear H
 go_enter Try.func55,Try.ntmps55
 go_upto_if 17 with (first|((with_reducible refine gate_dst (N:=3) rfl ?_);refine box_event ?hg (N:=3) ?hd (cs:=#[.int .i64 a1_0, .int .i64 a1_1]) (t:=27) ?hr ?_;(case hd=>rfl);(case hg=>rfl);(case hr=>first|(go_simp;done)|(go_simp;rfl));intro gb323 hg w4 hbox hb;have n0_:=Am (below_step (by repeat (first|(with_reducible first|exact HB.out|apply bA|apply bN|apply bD)|exact HB.out)) hb);have n1_:=Am (hbox);have n2_:=Am ((by rw [hg];exact (below_size (by repeat (first|(with_reducible first|exact HB.out|apply bA|apply bN|apply bD)|exact HB.out))):w.heap.size≤gb323));have n3_:=Am ((by rw [hg];exact (below_size (by repeat (first|(with_reducible first|exact HB.out|apply bA|apply bN|apply bD)|exact HB.out))):w.heap.size≤gb323));clear HB;have HB:=n0_;have BK323:=n1_;have GW323:=n2_;have GE323:=n3_;clear n0_ n1_ n2_ n3_ hb hbox hg))
 repeat (go_quiet (first|((with_reducible refine gate_dst (N:=3) rfl ?_);refine box_event ?hg (N:=3) ?hd (cs:=#[.int .i64 a1_0, .int .i64 a1_1]) (t:=27) ?hr ?_;(case hd=>rfl);(case hg=>rfl);(case hr=>first|(go_simp;done)|(go_simp;rfl));intro gb323 hg w4 hbox hb;have n0_:=Am (below_step (by repeat (first|(with_reducible first|exact HB.out|apply bA|apply bN|apply bD)|exact HB.out)) hb);have n1_:=Am (hbox);have n2_:=Am ((by rw [hg];exact (below_size (by repeat (first|(with_reducible first|exact HB.out|apply bA|apply bN|apply bD)|exact HB.out))):w.heap.size≤gb323));have n3_:=Am ((by rw [hg];exact (below_size (by repeat (first|(with_reducible first|exact HB.out|apply bA|apply bN|apply bD)|exact HB.out))):w.heap.size≤gb323));clear HB;have HB:=n0_;have BK323:=n1_;have GW323:=n2_;have GE323:=n3_;clear n0_ n1_ n2_ n3_ hb hbox hg));go_upto_if 17 with (first|((with_reducible refine gate_dst (N:=3) rfl ?_);refine box_event ?hg (N:=3) ?hd (cs:=#[.int .i64 a1_0, .int .i64 a1_1]) (t:=27) ?hr ?_;(case hd=>rfl);(case hg=>rfl);(case hr=>first|(go_simp;done)|(go_simp;rfl));intro gb323 hg w4 hbox hb;have n0_:=Am (below_step (by repeat (first|(with_reducible first|exact HB.out|apply bA|apply bN|apply bD)|exact HB.out)) hb);have n1_:=Am (hbox);have n2_:=Am ((by rw [hg];exact (below_size (by repeat (first|(with_reducible first|exact HB.out|apply bA|apply bN|apply bD)|exact HB.out))):w.heap.size≤gb323));have n3_:=Am ((by rw [hg];exact (below_size (by repeat (first|(with_reducible first|exact HB.out|apply bA|apply bN|apply bD)|exact HB.out))):w.heap.size≤gb323));clear HB;have HB:=n0_;have BK323:=n1_;have GW323:=n2_;have GE323:=n3_;clear n0_ n1_ n2_ n3_ hb hbox hg)))
 (try simp only [pL])
 go_cut [7,8] (fun v7 v8 wc=>∃ (kq:Nat) (x7_2:Int) (x8_2:Bool),v7=.int .u64 x7_2∧v8=.bool x8_2∧Aside0 (soundserviceref03_divide.j0 kq x7_2 x8_2 a1_0 a1_1=some (r1,r2,r3))∧Aside0 (kq≤k)∧Aside0 (wc.heap[gb323]?=some (.cells #[.int .i64 a1_0, .int .i64 a1_1] 27 (0,0)))∧Aside0 (Below w.heap.size w wc))
 case first =>
  have H:=HC3.out
  clear HC3
  by_cases c5:a0 < 0
  ·rw [if_pos c5] at H
   have c5b0:decide (a0 < 0)=true:=decide_eq_true c5
   clear c5
   (first|rw [c5b0]|(simp only [i64_w,i32_w];rw [c5b0])|skip)
   have H':=Am H
   clear H
   go_wp2
   repeat (go_quiet (fail);try go_wp2)
   go_meet
   case rel=>exact ⟨_,(IntKind.u64.wrap (-(IntKind.u64.wrap (a0)))),(decide (a0 < 0)),(by first|rfl|(simp;done)|(simp [*];done)),(by first|rfl|(simp;done)|(simp [*];done)),H',⟨by first|omega|exact Nat.le_refl _⟩,⟨by (with_reducible repeat first|apply kN|apply kD|apply kA);exact BK323.out⟩,⟨by repeat (first|(with_reducible first|exact HB.out|apply bA|apply bN|apply bD|refine bS ?_ GE323.out)|exact HB.out)⟩⟩
  ·rw [if_neg c5] at H
   have c5b0:decide (a0 < 0)=false:=decide_eq_false c5
   clear c5
   (first|rw [c5b0]|(simp only [i64_w,i32_w];rw [c5b0])|skip)
   have H':=Am H
   clear H
   go_wp2
   repeat (go_quiet (fail);try go_wp2)
   go_meet
   case rel=>exact ⟨_,(IntKind.u64.wrap (a0)),(decide (a0 < 0)),(by first|rfl|(simp;done)|(simp [*];done)),(by first|rfl|(simp;done)|(simp [*];done)),H',⟨by first|omega|exact Nat.le_refl _⟩,⟨by (with_reducible repeat first|apply kN|apply kD|apply kA);exact BK323.out⟩,⟨by repeat (first|(with_reducible first|exact HB.out|apply bA|apply bN|apply bD|refine bS ?_ GE323.out)|exact HB.out)⟩⟩
 case rest =>
  clear HC3;(try clear p2);(try clear c5);(try clear c5b0)
  obtain ⟨kq,x7_2,x8_2,rfl,rfl,HA,HJ2,BK323,HB⟩:=hcut
  cases kq with
  | zero=>exact absurd HA.out (by simp [soundserviceref03_divide.j0])
  | succ kj2 =>
   have H:=HA.out
   clear HA
   simp only [soundserviceref03_divide.j0] at H
   replace H:=Option.bind_eq_some_iff.mp H
   obtain ⟨⟨t324,t325⟩,A60,H⟩:=H
   replace H:(if t324 ≥ (IntKind.u64.wrap (a1_1)) then (some (0,0,false)) else ((bits_Div64.f kj2 t324 t325 (IntKind.u64.wrap (a1_1))).bind fun bt326=>(if bt326.1 > 4611686018427387904 then (some (0,0,false)) else (if x8_2=true then (if bt326.2=0 then (some (wrap64 (-(wrap64 (bt326.1))),0,true)) else (if bt326.1=4611686018427387904 then (some (0,0,false)) else (some (wrap64 ((wrap64 (-(wrap64 (bt326.1)))) - 1),wrap64 (a1_1 - (wrap64 (bt326.2))),true)))) else (some (wrap64 (bt326.1),wrap64 (bt326.2),true))))))=some (r1,r2,r3):=H
   have A6:=Am A60
   clear A60
   by_cases c7:t324 ≥ (IntKind.u64.wrap (a1_1))
   ·rw [if_pos c7] at H
    have c7b0:decide ((IntKind.u64.wrap (a1_1))≤t324)=true:=decide_eq_true c7
    clear c7
    simp only [Option.some.injEq,Prod.mk.injEq] at H
    obtain ⟨rfl,rfl,rfl⟩:=H
    have hcz8_0:wc.cell? ⟨gb323,0,none⟩=some (.int .i64 a1_0):=(blk_cell BK323.out 0).trans rfl
    have hcz8_1:wc.cell? ⟨gb323,1,none⟩=some (.int .i64 a1_1):=(blk_cell BK323.out 1).trans rfl
    have hfz8_0:=blk_frozen BK323.out 0
    have hfz8_1:=blk_frozen BK323.out 1
    go_wp2_with (first|(go_at_call 52;(with_reducible refine (bits_Mul64.calls x7_2 (IntKind.u64.wrap (a1_0)) t324 t325 _ A6.out).mono ?_);rintro e w' ⟨rfl,⟨nd,rfl⟩⟩;(try first|exact ⟨rfl,_,World.drewN_drewN _ _ _⟩|exact ⟨rfl,_,Eq.trans (World.drewN_drewN _ _ _) (congrArg (World.drewN _) (Nat.add_assoc _ _ _))⟩)))
    repeat (go_quiet (first|(go_at_call 52;(with_reducible refine (bits_Mul64.calls x7_2 (IntKind.u64.wrap (a1_0)) t324 t325 _ A6.out).mono ?_);rintro e w' ⟨rfl,⟨nd,rfl⟩⟩;(try first|exact ⟨rfl,_,World.drewN_drewN _ _ _⟩|exact ⟨rfl,_,Eq.trans (World.drewN_drewN _ _ _) (congrArg (World.drewN _) (Nat.add_assoc _ _ _))⟩)));try go_wp2_with (first|(go_at_call 52;(with_reducible refine (bits_Mul64.calls x7_2 (IntKind.u64.wrap (a1_0)) t324 t325 _ A6.out).mono ?_);rintro e w' ⟨rfl,⟨nd,rfl⟩⟩;(try first|exact ⟨rfl,_,World.drewN_drewN _ _ _⟩|exact ⟨rfl,_,Eq.trans (World.drewN_drewN _ _ _) (congrArg (World.drewN _) (Nat.add_assoc _ _ _))⟩))))
    go_ret3
    exact ⟨by first|rfl|(simp [errW_none,errW_some] <;> rfl)|(simp [*,errW_none,errW_some] <;> rfl),by repeat (first|(with_reducible first|exact HB.out|apply bA|apply bN|apply bD|refine bS ?_ GE323.out)|exact HB.out)⟩
   ·rw [if_neg c7] at H
    have c7b0:decide ((IntKind.u64.wrap (a1_1))≤t324)=false:=decide_eq_false c7
    clear c7
    replace H:=Option.bind_eq_some_iff.mp H
    obtain ⟨⟨t326,t327⟩,A90,H⟩:=H
    replace H:(if t326 > 4611686018427387904 then (some (0,0,false)) else (if x8_2=true then (if t327=0 then (some (wrap64 (-(wrap64 (t326))),0,true)) else (if t326=4611686018427387904 then (some (0,0,false)) else (some (wrap64 ((wrap64 (-(wrap64 (t326)))) - 1),wrap64 (a1_1 - (wrap64 (t327))),true)))) else (some (wrap64 (t326),wrap64 (t327),true))))=some (r1,r2,r3):=H
    have A9:=Am A90
    clear A90
    by_cases c10:t326 > 4611686018427387904
    ·rw [if_pos c10] at H
     have c10b0:decide (4611686018427387904 < t326)=true:=decide_eq_true c10
     clear c10
     simp only [Option.some.injEq,Prod.mk.injEq] at H
     obtain ⟨rfl,rfl,rfl⟩:=H
     have hcz11_0:wc.cell? ⟨gb323,0,none⟩=some (.int .i64 a1_0):=(blk_cell BK323.out 0).trans rfl
     have hcz11_1:wc.cell? ⟨gb323,1,none⟩=some (.int .i64 a1_1):=(blk_cell BK323.out 1).trans rfl
     have hfz11_0:=blk_frozen BK323.out 0
     have hfz11_1:=blk_frozen BK323.out 1
     go_wp2_with (first|(go_at_call 52;(with_reducible refine (bits_Mul64.calls x7_2 (IntKind.u64.wrap (a1_0)) t324 t325 _ A6.out).mono ?_);rintro e w' ⟨rfl,⟨nd,rfl⟩⟩;(try first|exact ⟨rfl,_,World.drewN_drewN _ _ _⟩|exact ⟨rfl,_,Eq.trans (World.drewN_drewN _ _ _) (congrArg (World.drewN _) (Nat.add_assoc _ _ _))⟩))|(go_at_call 57;(with_reducible refine (bits_Div64.calls kj2 t324 t325 (IntKind.u64.wrap (a1_1)) t326 t327 _ A9.out).mono ?_);rintro e w' ⟨rfl,⟨nd,rfl⟩⟩;(try first|exact ⟨rfl,_,World.drewN_drewN _ _ _⟩|exact ⟨rfl,_,Eq.trans (World.drewN_drewN _ _ _) (congrArg (World.drewN _) (Nat.add_assoc _ _ _))⟩)))
     repeat (go_quiet (first|(go_at_call 52;(with_reducible refine (bits_Mul64.calls x7_2 (IntKind.u64.wrap (a1_0)) t324 t325 _ A6.out).mono ?_);rintro e w' ⟨rfl,⟨nd,rfl⟩⟩;(try first|exact ⟨rfl,_,World.drewN_drewN _ _ _⟩|exact ⟨rfl,_,Eq.trans (World.drewN_drewN _ _ _) (congrArg (World.drewN _) (Nat.add_assoc _ _ _))⟩))|(go_at_call 57;(with_reducible refine (bits_Div64.calls kj2 t324 t325 (IntKind.u64.wrap (a1_1)) t326 t327 _ A9.out).mono ?_);rintro e w' ⟨rfl,⟨nd,rfl⟩⟩;(try first|exact ⟨rfl,_,World.drewN_drewN _ _ _⟩|exact ⟨rfl,_,Eq.trans (World.drewN_drewN _ _ _) (congrArg (World.drewN _) (Nat.add_assoc _ _ _))⟩)));try go_wp2_with (first|(go_at_call 52;(with_reducible refine (bits_Mul64.calls x7_2 (IntKind.u64.wrap (a1_0)) t324 t325 _ A6.out).mono ?_);rintro e w' ⟨rfl,⟨nd,rfl⟩⟩;(try first|exact ⟨rfl,_,World.drewN_drewN _ _ _⟩|exact ⟨rfl,_,Eq.trans (World.drewN_drewN _ _ _) (congrArg (World.drewN _) (Nat.add_assoc _ _ _))⟩))|(go_at_call 57;(with_reducible refine (bits_Div64.calls kj2 t324 t325 (IntKind.u64.wrap (a1_1)) t326 t327 _ A9.out).mono ?_);rintro e w' ⟨rfl,⟨nd,rfl⟩⟩;(try first|exact ⟨rfl,_,World.drewN_drewN _ _ _⟩|exact ⟨rfl,_,Eq.trans (World.drewN_drewN _ _ _) (congrArg (World.drewN _) (Nat.add_assoc _ _ _))⟩))))
     go_ret3
     exact ⟨by first|rfl|(simp [errW_none,errW_some] <;> rfl)|(simp [*,errW_none,errW_some] <;> rfl),by repeat (first|(with_reducible first|exact HB.out|apply bA|apply bN|apply bD|refine bS ?_ GE323.out)|exact HB.out)⟩
    ·rw [if_neg c10] at H
     have c10b0:decide (4611686018427387904 < t326)=false:=decide_eq_false c10
     clear c10
     by_cases c12:x8_2=true
     ·subst c12
      have H1:(if t327=0 then (some (wrap64 (-(wrap64 (t326))),0,true)) else (if t326=4611686018427387904 then (some (0,0,false)) else (some (wrap64 ((wrap64 (-(wrap64 (t326)))) - 1),wrap64 (a1_1 - (wrap64 (t327))),true))))=some (r1,r2,r3):=by rw [if_pos rfl] at H;exact H
      clear H;have H:=H1;clear H1
      by_cases c13:t327=0
      ·rw [if_pos c13] at H
       have c13b0:(t327 == 0)=true:=beq_iff_eq.mpr c13
       have c13b1:(t327 != 0)=false:=bne_eq_false_iff_eq.mpr c13
       clear c13
       simp only [Option.some.injEq,Prod.mk.injEq] at H
       obtain ⟨rfl,rfl,rfl⟩:=H
       have hcz14_0:wc.cell? ⟨gb323,0,none⟩=some (.int .i64 a1_0):=(blk_cell BK323.out 0).trans rfl
       have hcz14_1:wc.cell? ⟨gb323,1,none⟩=some (.int .i64 a1_1):=(blk_cell BK323.out 1).trans rfl
       have hfz14_0:=blk_frozen BK323.out 0
       have hfz14_1:=blk_frozen BK323.out 1
       go_wp2_with (first|(go_at_call 52;(with_reducible refine (bits_Mul64.calls x7_2 (IntKind.u64.wrap (a1_0)) t324 t325 _ A6.out).mono ?_);rintro e w' ⟨rfl,⟨nd,rfl⟩⟩;(try first|exact ⟨rfl,_,World.drewN_drewN _ _ _⟩|exact ⟨rfl,_,Eq.trans (World.drewN_drewN _ _ _) (congrArg (World.drewN _) (Nat.add_assoc _ _ _))⟩))|(go_at_call 57;(with_reducible refine (bits_Div64.calls kj2 t324 t325 (IntKind.u64.wrap (a1_1)) t326 t327 _ A9.out).mono ?_);rintro e w' ⟨rfl,⟨nd,rfl⟩⟩;(try first|exact ⟨rfl,_,World.drewN_drewN _ _ _⟩|exact ⟨rfl,_,Eq.trans (World.drewN_drewN _ _ _) (congrArg (World.drewN _) (Nat.add_assoc _ _ _))⟩)))
       repeat (go_quiet (first|(go_at_call 52;(with_reducible refine (bits_Mul64.calls x7_2 (IntKind.u64.wrap (a1_0)) t324 t325 _ A6.out).mono ?_);rintro e w' ⟨rfl,⟨nd,rfl⟩⟩;(try first|exact ⟨rfl,_,World.drewN_drewN _ _ _⟩|exact ⟨rfl,_,Eq.trans (World.drewN_drewN _ _ _) (congrArg (World.drewN _) (Nat.add_assoc _ _ _))⟩))|(go_at_call 57;(with_reducible refine (bits_Div64.calls kj2 t324 t325 (IntKind.u64.wrap (a1_1)) t326 t327 _ A9.out).mono ?_);rintro e w' ⟨rfl,⟨nd,rfl⟩⟩;(try first|exact ⟨rfl,_,World.drewN_drewN _ _ _⟩|exact ⟨rfl,_,Eq.trans (World.drewN_drewN _ _ _) (congrArg (World.drewN _) (Nat.add_assoc _ _ _))⟩)));try go_wp2_with (first|(go_at_call 52;(with_reducible refine (bits_Mul64.calls x7_2 (IntKind.u64.wrap (a1_0)) t324 t325 _ A6.out).mono ?_);rintro e w' ⟨rfl,⟨nd,rfl⟩⟩;(try first|exact ⟨rfl,_,World.drewN_drewN _ _ _⟩|exact ⟨rfl,_,Eq.trans (World.drewN_drewN _ _ _) (congrArg (World.drewN _) (Nat.add_assoc _ _ _))⟩))|(go_at_call 57;(with_reducible refine (bits_Div64.calls kj2 t324 t325 (IntKind.u64.wrap (a1_1)) t326 t327 _ A9.out).mono ?_);rintro e w' ⟨rfl,⟨nd,rfl⟩⟩;(try first|exact ⟨rfl,_,World.drewN_drewN _ _ _⟩|exact ⟨rfl,_,Eq.trans (World.drewN_drewN _ _ _) (congrArg (World.drewN _) (Nat.add_assoc _ _ _))⟩))))
       go_ret3
       exact ⟨by first|rfl|(simp [errW_none,errW_some] <;> rfl)|(simp [*,errW_none,errW_some] <;> rfl),by repeat (first|(with_reducible first|exact HB.out|apply bA|apply bN|apply bD|refine bS ?_ GE323.out)|exact HB.out)⟩
      ·rw [if_neg c13] at H
       have c13b0:(t327 == 0)=false:=beq_eq_false_iff_ne.mpr c13
       have c13b1:(t327 != 0)=true:=bne_iff_ne.mpr c13
       by_cases c15:t326=4611686018427387904
       ·rw [if_pos c15] at H
        have c15b0:(t326 == 4611686018427387904)=true:=beq_iff_eq.mpr c15
        have c15b1:(t326 != 4611686018427387904)=false:=bne_eq_false_iff_eq.mpr c15
        clear c15
        simp only [Option.some.injEq,Prod.mk.injEq] at H
        obtain ⟨rfl,rfl,rfl⟩:=H
        have hcz16_0:wc.cell? ⟨gb323,0,none⟩=some (.int .i64 a1_0):=(blk_cell BK323.out 0).trans rfl
        have hcz16_1:wc.cell? ⟨gb323,1,none⟩=some (.int .i64 a1_1):=(blk_cell BK323.out 1).trans rfl
        have hfz16_0:=blk_frozen BK323.out 0
        have hfz16_1:=blk_frozen BK323.out 1
        go_wp2_with (first|(go_at_call 52;(with_reducible refine (bits_Mul64.calls x7_2 (IntKind.u64.wrap (a1_0)) t324 t325 _ A6.out).mono ?_);rintro e w' ⟨rfl,⟨nd,rfl⟩⟩;(try first|exact ⟨rfl,_,World.drewN_drewN _ _ _⟩|exact ⟨rfl,_,Eq.trans (World.drewN_drewN _ _ _) (congrArg (World.drewN _) (Nat.add_assoc _ _ _))⟩))|(go_at_call 57;(with_reducible refine (bits_Div64.calls kj2 t324 t325 (IntKind.u64.wrap (a1_1)) t326 t327 _ A9.out).mono ?_);rintro e w' ⟨rfl,⟨nd,rfl⟩⟩;(try first|exact ⟨rfl,_,World.drewN_drewN _ _ _⟩|exact ⟨rfl,_,Eq.trans (World.drewN_drewN _ _ _) (congrArg (World.drewN _) (Nat.add_assoc _ _ _))⟩)))
        repeat (go_quiet (first|(go_at_call 52;(with_reducible refine (bits_Mul64.calls x7_2 (IntKind.u64.wrap (a1_0)) t324 t325 _ A6.out).mono ?_);rintro e w' ⟨rfl,⟨nd,rfl⟩⟩;(try first|exact ⟨rfl,_,World.drewN_drewN _ _ _⟩|exact ⟨rfl,_,Eq.trans (World.drewN_drewN _ _ _) (congrArg (World.drewN _) (Nat.add_assoc _ _ _))⟩))|(go_at_call 57;(with_reducible refine (bits_Div64.calls kj2 t324 t325 (IntKind.u64.wrap (a1_1)) t326 t327 _ A9.out).mono ?_);rintro e w' ⟨rfl,⟨nd,rfl⟩⟩;(try first|exact ⟨rfl,_,World.drewN_drewN _ _ _⟩|exact ⟨rfl,_,Eq.trans (World.drewN_drewN _ _ _) (congrArg (World.drewN _) (Nat.add_assoc _ _ _))⟩)));try go_wp2_with (first|(go_at_call 52;(with_reducible refine (bits_Mul64.calls x7_2 (IntKind.u64.wrap (a1_0)) t324 t325 _ A6.out).mono ?_);rintro e w' ⟨rfl,⟨nd,rfl⟩⟩;(try first|exact ⟨rfl,_,World.drewN_drewN _ _ _⟩|exact ⟨rfl,_,Eq.trans (World.drewN_drewN _ _ _) (congrArg (World.drewN _) (Nat.add_assoc _ _ _))⟩))|(go_at_call 57;(with_reducible refine (bits_Div64.calls kj2 t324 t325 (IntKind.u64.wrap (a1_1)) t326 t327 _ A9.out).mono ?_);rintro e w' ⟨rfl,⟨nd,rfl⟩⟩;(try first|exact ⟨rfl,_,World.drewN_drewN _ _ _⟩|exact ⟨rfl,_,Eq.trans (World.drewN_drewN _ _ _) (congrArg (World.drewN _) (Nat.add_assoc _ _ _))⟩))))
        go_ret3
        exact ⟨by first|rfl|(simp [errW_none,errW_some] <;> rfl)|(simp [*,errW_none,errW_some] <;> rfl),by repeat (first|(with_reducible first|exact HB.out|apply bA|apply bN|apply bD|refine bS ?_ GE323.out)|exact HB.out)⟩
       ·rw [if_neg c15] at H
        have c15b0:(t326 == 4611686018427387904)=false:=beq_eq_false_iff_ne.mpr c15
        have c15b1:(t326 != 4611686018427387904)=true:=bne_iff_ne.mpr c15
        simp only [Option.some.injEq,Prod.mk.injEq] at H
        obtain ⟨rfl,rfl,rfl⟩:=H
        have hcz17_0:wc.cell? ⟨gb323,0,none⟩=some (.int .i64 a1_0):=(blk_cell BK323.out 0).trans rfl
        have hcz17_1:wc.cell? ⟨gb323,1,none⟩=some (.int .i64 a1_1):=(blk_cell BK323.out 1).trans rfl
        have hfz17_0:=blk_frozen BK323.out 0
        have hfz17_1:=blk_frozen BK323.out 1
        go_wp2_with (first|(go_at_call 52;(with_reducible refine (bits_Mul64.calls x7_2 (IntKind.u64.wrap (a1_0)) t324 t325 _ A6.out).mono ?_);rintro e w' ⟨rfl,⟨nd,rfl⟩⟩;(try first|exact ⟨rfl,_,World.drewN_drewN _ _ _⟩|exact ⟨rfl,_,Eq.trans (World.drewN_drewN _ _ _) (congrArg (World.drewN _) (Nat.add_assoc _ _ _))⟩))|(go_at_call 57;(with_reducible refine (bits_Div64.calls kj2 t324 t325 (IntKind.u64.wrap (a1_1)) t326 t327 _ A9.out).mono ?_);rintro e w' ⟨rfl,⟨nd,rfl⟩⟩;(try first|exact ⟨rfl,_,World.drewN_drewN _ _ _⟩|exact ⟨rfl,_,Eq.trans (World.drewN_drewN _ _ _) (congrArg (World.drewN _) (Nat.add_assoc _ _ _))⟩)))
        repeat (go_quiet (first|(go_at_call 52;(with_reducible refine (bits_Mul64.calls x7_2 (IntKind.u64.wrap (a1_0)) t324 t325 _ A6.out).mono ?_);rintro e w' ⟨rfl,⟨nd,rfl⟩⟩;(try first|exact ⟨rfl,_,World.drewN_drewN _ _ _⟩|exact ⟨rfl,_,Eq.trans (World.drewN_drewN _ _ _) (congrArg (World.drewN _) (Nat.add_assoc _ _ _))⟩))|(go_at_call 57;(with_reducible refine (bits_Div64.calls kj2 t324 t325 (IntKind.u64.wrap (a1_1)) t326 t327 _ A9.out).mono ?_);rintro e w' ⟨rfl,⟨nd,rfl⟩⟩;(try first|exact ⟨rfl,_,World.drewN_drewN _ _ _⟩|exact ⟨rfl,_,Eq.trans (World.drewN_drewN _ _ _) (congrArg (World.drewN _) (Nat.add_assoc _ _ _))⟩)));try go_wp2_with (first|(go_at_call 52;(with_reducible refine (bits_Mul64.calls x7_2 (IntKind.u64.wrap (a1_0)) t324 t325 _ A6.out).mono ?_);rintro e w' ⟨rfl,⟨nd,rfl⟩⟩;(try first|exact ⟨rfl,_,World.drewN_drewN _ _ _⟩|exact ⟨rfl,_,Eq.trans (World.drewN_drewN _ _ _) (congrArg (World.drewN _) (Nat.add_assoc _ _ _))⟩))|(go_at_call 57;(with_reducible refine (bits_Div64.calls kj2 t324 t325 (IntKind.u64.wrap (a1_1)) t326 t327 _ A9.out).mono ?_);rintro e w' ⟨rfl,⟨nd,rfl⟩⟩;(try first|exact ⟨rfl,_,World.drewN_drewN _ _ _⟩|exact ⟨rfl,_,Eq.trans (World.drewN_drewN _ _ _) (congrArg (World.drewN _) (Nat.add_assoc _ _ _))⟩))))
        go_ret3
        exact ⟨by first|rfl|(simp [errW_none,errW_some] <;> rfl)|(simp [*,errW_none,errW_some] <;> rfl),by repeat (first|(with_reducible first|exact HB.out|apply bA|apply bN|apply bD|refine bS ?_ GE323.out)|exact HB.out)⟩
     ·replace c12:=Bool.eq_false_iff.mpr c12
      subst c12
      have H1:(some (wrap64 (t326),wrap64 (t327),true))=some (r1,r2,r3):=by rw [if_neg (show ¬ (false=true) by decide)] at H;exact H
      clear H;have H:=H1;clear H1
      simp only [Option.some.injEq,Prod.mk.injEq] at H
      obtain ⟨rfl,rfl,rfl⟩:=H
      have hcz18_0:wc.cell? ⟨gb323,0,none⟩=some (.int .i64 a1_0):=(blk_cell BK323.out 0).trans rfl
      have hcz18_1:wc.cell? ⟨gb323,1,none⟩=some (.int .i64 a1_1):=(blk_cell BK323.out 1).trans rfl
      have hfz18_0:=blk_frozen BK323.out 0
      have hfz18_1:=blk_frozen BK323.out 1
      go_wp2_with (first|(go_at_call 52;(with_reducible refine (bits_Mul64.calls x7_2 (IntKind.u64.wrap (a1_0)) t324 t325 _ A6.out).mono ?_);rintro e w' ⟨rfl,⟨nd,rfl⟩⟩;(try first|exact ⟨rfl,_,World.drewN_drewN _ _ _⟩|exact ⟨rfl,_,Eq.trans (World.drewN_drewN _ _ _) (congrArg (World.drewN _) (Nat.add_assoc _ _ _))⟩))|(go_at_call 57;(with_reducible refine (bits_Div64.calls kj2 t324 t325 (IntKind.u64.wrap (a1_1)) t326 t327 _ A9.out).mono ?_);rintro e w' ⟨rfl,⟨nd,rfl⟩⟩;(try first|exact ⟨rfl,_,World.drewN_drewN _ _ _⟩|exact ⟨rfl,_,Eq.trans (World.drewN_drewN _ _ _) (congrArg (World.drewN _) (Nat.add_assoc _ _ _))⟩)))
      repeat (go_quiet (first|(go_at_call 52;(with_reducible refine (bits_Mul64.calls x7_2 (IntKind.u64.wrap (a1_0)) t324 t325 _ A6.out).mono ?_);rintro e w' ⟨rfl,⟨nd,rfl⟩⟩;(try first|exact ⟨rfl,_,World.drewN_drewN _ _ _⟩|exact ⟨rfl,_,Eq.trans (World.drewN_drewN _ _ _) (congrArg (World.drewN _) (Nat.add_assoc _ _ _))⟩))|(go_at_call 57;(with_reducible refine (bits_Div64.calls kj2 t324 t325 (IntKind.u64.wrap (a1_1)) t326 t327 _ A9.out).mono ?_);rintro e w' ⟨rfl,⟨nd,rfl⟩⟩;(try first|exact ⟨rfl,_,World.drewN_drewN _ _ _⟩|exact ⟨rfl,_,Eq.trans (World.drewN_drewN _ _ _) (congrArg (World.drewN _) (Nat.add_assoc _ _ _))⟩)));try go_wp2_with (first|(go_at_call 52;(with_reducible refine (bits_Mul64.calls x7_2 (IntKind.u64.wrap (a1_0)) t324 t325 _ A6.out).mono ?_);rintro e w' ⟨rfl,⟨nd,rfl⟩⟩;(try first|exact ⟨rfl,_,World.drewN_drewN _ _ _⟩|exact ⟨rfl,_,Eq.trans (World.drewN_drewN _ _ _) (congrArg (World.drewN _) (Nat.add_assoc _ _ _))⟩))|(go_at_call 57;(with_reducible refine (bits_Div64.calls kj2 t324 t325 (IntKind.u64.wrap (a1_1)) t326 t327 _ A9.out).mono ?_);rintro e w' ⟨rfl,⟨nd,rfl⟩⟩;(try first|exact ⟨rfl,_,World.drewN_drewN _ _ _⟩|exact ⟨rfl,_,Eq.trans (World.drewN_drewN _ _ _) (congrArg (World.drewN _) (Nat.add_assoc _ _ _))⟩))))
      go_ret3
      exact ⟨by first|rfl|(simp [errW_none,errW_some] <;> rfl)|(simp [*,errW_none,errW_some] <;> rfl),by repeat (first|(with_reducible first|exact HB.out|apply bA|apply bN|apply bD|refine bS ?_ GE323.out)|exact HB.out)⟩

/-! ### soundserviceref03_Floor: function 46 -/
def soundserviceref03_Floor.j0:Nat→Int→Bool→Int→Int→Option (Int × Int)
 | 0,_,_,_,_=>none
 | k+1,x0,x17,x329000,x329001=>if x17=true then (some (0,2)) else ((soundserviceref03_divide.f k x0 x329000 x329001).bind fun bt330=>(if bt330.2.2=true then (some (bt330.1,0)) else (some (0,2))))
def soundserviceref03_Floor.f (k:Nat) (a0:Int) (a1_0:Int) (a1_1:Int):Option (Int × Int):=(soundserviceref03_Valid.f k a1_0 a1_1).bind fun t329=>(if t329=true then (if a0 < (-1125899906842624) then (soundserviceref03_Floor.j0 k a0 true a1_0 a1_1) else (soundserviceref03_Floor.j0 k a0 (decide (a0 > 1125899906842624)) a1_0 a1_1)) else (some (0,1)))
theorem soundserviceref03_Floor.mono_l:∀ k,(∀ y0 y1 y2 y3,LeO (soundserviceref03_Floor.j0 k y0 y1 y2 y3) (soundserviceref03_Floor.j0 (k+1) y0 y1 y2 y3))
 | 0=>fun _ _ _ _ r h=>by simp [soundserviceref03_Floor.j0] at h
 | k+1=>by
  have ih0:=soundserviceref03_Floor.mono_l k
  ·intro y0 y1 y2 y3
   unfold soundserviceref03_Floor.j0
   repeat' first
   | (with_reducible exact ih0 _ _ _ _)
   | (with_reducible exact soundserviceref03_Valid.mono _ _ _)
   | (with_reducible exact soundserviceref03_divide.mono _ _ _ _)
   | (with_reducible exact LeO.refl _)
   | (with_reducible exact LeO.none _)
   | (with_reducible refine LeO.ite ?_ ?_)
   | (with_reducible refine LeO.bind ?_ (fun _=>?_))
   | exact ih0 _ _ _ _
   | exact soundserviceref03_Valid.mono _ _ _
   | exact soundserviceref03_divide.mono _ _ _ _
   | exact LeO.none _
   | refine LeO.ite ?_ ?_
   | refine LeO.bind ?_ (fun _=>?_)
theorem soundserviceref03_Floor.mono:∀ a0 a1 a2 k,LeO (soundserviceref03_Floor.f k a0 a1 a2) (soundserviceref03_Floor.f (k+1) a0 a1 a2):=by
 intro a0 a1 a2 k
 have ih0:=soundserviceref03_Floor.mono_l k
 unfold soundserviceref03_Floor.f
 repeat' first
   | (with_reducible exact ih0 _ _ _ _)
   | (with_reducible exact soundserviceref03_Valid.mono _ _ _)
   | (with_reducible exact soundserviceref03_divide.mono _ _ _ _)
   | (with_reducible exact LeO.refl _)
   | (with_reducible exact LeO.none _)
   | (with_reducible refine LeO.ite ?_ ?_)
   | (with_reducible refine LeO.bind ?_ (fun _=>?_))
   | exact ih0 _ _ _ _
   | exact soundserviceref03_Valid.mono _ _ _
   | exact soundserviceref03_divide.mono _ _ _ _
   | exact LeO.none _
   | refine LeO.ite ?_ ?_
   | refine LeO.bind ?_ (fun _=>?_)
set_option maxHeartbeats 8000000 in
set_option maxRecDepth 100000 in
theorem soundserviceref03_Floor.calls (k:Nat) (a0:Int) (a1_0:Int) (a1_1:Int) (r1:Int) (r2:Int) (w:World) (h:soundserviceref03_Floor.f k a0 a1_0 a1_1=some (r1,r2)) :
  Calls Try.prog 46 #[.int .i64 a0, .agg #[.int .i64 a1_0, .int .i64 a1_1]] w fun e w'=>e=.returned (.tuple #[.int .i64 r1, .int .i64 r2])∧Below w.heap.size w w':=by
 have hu27:=Try.underlying27
 have HB:=Am (Below.refl w.heap.size w)
 have H:((soundserviceref03_Valid.f k a1_0 a1_1).bind fun t329=>(if t329=true then (if a0 < (-1125899906842624) then (soundserviceref03_Floor.j0 k a0 true a1_0 a1_1) else (soundserviceref03_Floor.j0 k a0 (decide (a0 > 1125899906842624)) a1_0 a1_1)) else (some (0,1))))=some (r1,r2):=h
 clear h
 replace H:=Option.bind_eq_some_iff.mp H
 obtain ⟨t329,A30,H⟩:=H
 replace H:(if t329=true then (if a0 < (-1125899906842624) then (soundserviceref03_Floor.j0 k a0 true a1_0 a1_1) else (soundserviceref03_Floor.j0 k a0 (decide (a0 > 1125899906842624)) a1_0 a1_1)) else (some (0,1)))=some (r1,r2):=H
 have A3:=Am A30
 clear A30
 by_cases c4:t329=true
 ·subst c4
  have H1:(if a0 < (-1125899906842624) then (soundserviceref03_Floor.j0 k a0 true a1_0 a1_1) else (soundserviceref03_Floor.j0 k a0 (decide (a0 > 1125899906842624)) a1_0 a1_1))=some (r1,r2):=by rw [if_pos rfl] at H;exact H
  clear H;have H:=H1;clear H1
  have HC5:=Am H
  clear H
  go_enter Try.func46,Try.ntmps46
  go_upto_region 3 with (first|((with_reducible refine gate_dst (N:=3) rfl ?_);refine box_event ?hg (N:=3) ?hd (cs:=#[.int .i64 a1_0, .int .i64 a1_1]) (t:=27) ?hr ?_;(case hd=>rfl);(case hg=>rfl);(case hr=>first|(go_simp;done)|(go_simp;rfl));intro gb328 hg w6 hbox hb;have n0_:=Am (below_step (by repeat (first|(with_reducible first|exact HB.out|apply bA|apply bN|apply bD)|exact HB.out)) hb);have n1_:=Am (hbox);have n2_:=Am ((by rw [hg];exact (below_size (by repeat (first|(with_reducible first|exact HB.out|apply bA|apply bN|apply bD)|exact HB.out))):w.heap.size≤gb328));have n3_:=Am ((by rw [hg];exact (below_size (by repeat (first|(with_reducible first|exact HB.out|apply bA|apply bN|apply bD)|exact HB.out))):w.heap.size≤gb328));clear HB;have HB:=n0_;have BK328:=n1_;have GW328:=n2_;have GE328:=n3_;clear n0_ n1_ n2_ n3_ hb hbox hg;have hcz7_0:w6.cell? ⟨gb328,0,none⟩=some (.int .i64 a1_0):=(blk_cell BK328.out 0).trans rfl;have hcz7_1:w6.cell? ⟨gb328,1,none⟩=some (.int .i64 a1_1):=(blk_cell BK328.out 1).trans rfl;have hfz7_0:=blk_frozen BK328.out 0;have hfz7_1:=blk_frozen BK328.out 1)|((with_reducible refine gate_callee (f:=44) rfl ?_);refine goesL_ (some 10) rfl rfl Try.func44 (by kernel_rfl) rfl #[.agg #[.int .i64 a1_0, .int .i64 a1_1]] rfl (by (try simp only [List.map_toArray,List.map_cons,List.map_nil]);first|done|rfl|(simp only [List.length_drop,List.length_take];rfl)) ?_;(with_reducible refine (soundserviceref03_Valid.calls k a1_0 a1_1 true _ A3.out).mono ?_);rintro e w8 ⟨rfl,hb⟩;refine ⟨_,rfl,?_⟩;have n0_:=Am (blk_below (g:=gb328) (o:=.cells #[.int .i64 a1_0, .int .i64 a1_1] 27 (0,0)) (by (with_reducible repeat first|apply kN|apply kD|apply kA);exact BK328.out) hb);have n1_:=Am (below_step (by repeat (first|(with_reducible first|exact HB.out|apply bA|apply bN|apply bD|refine bS ?_ GE328.out)|exact HB.out)) hb);clear BK328 HB;have BK328:=n0_;have HB:=n1_;clear n0_ n1_;(try clear hb)))
  (try simp only [pL])
  go_cut [17] (fun v17 wc=>∃ (kq:Nat) (x17_4:Bool),v17=.bool x17_4∧Aside0 (soundserviceref03_Floor.j0 kq a0 x17_4 a1_0 a1_1=some (r1,r2))∧Aside0 (kq≤k)∧Aside0 (wc.heap[gb328]?=some (.cells #[.int .i64 a1_0, .int .i64 a1_1] 27 (0,0)))∧Aside0 (Below w.heap.size w wc))
  case first =>
   have H:=HC5.out
   clear HC5
   by_cases c9:a0 < (-1125899906842624)
   ·rw [if_pos c9] at H
    have c9b0:decide (a0 < (-1125899906842624))=true:=decide_eq_true c9
    clear c9
    (first|rw [c9b0]|(simp only [i64_w,i32_w];rw [c9b0])|skip)
    have H':=Am H
    clear H
    go_wp2
    go_meet
    case rel=>exact ⟨_,(true),(by first|rfl|(simp;done)|(simp [*];done)),H',⟨by first|omega|exact Nat.le_refl _⟩,⟨by (with_reducible repeat first|apply kN|apply kD|apply kA);exact BK328.out⟩,⟨by repeat (first|(with_reducible first|exact HB.out|apply bA|apply bN|apply bD|refine bS ?_ GE328.out)|exact HB.out)⟩⟩
   ·rw [if_neg c9] at H
    have c9b0:decide (a0 < (-1125899906842624))=false:=decide_eq_false c9
    clear c9
    (first|rw [c9b0]|(simp only [i64_w,i32_w];rw [c9b0])|skip)
    have H':=Am H
    clear H
    go_wp2
    go_meet
    case rel=>exact ⟨_,(decide (a0 > 1125899906842624)),(by first|rfl|(simp;done)|(simp [*];done)),H',⟨by first|omega|exact Nat.le_refl _⟩,⟨by (with_reducible repeat first|apply kN|apply kD|apply kA);exact BK328.out⟩,⟨by repeat (first|(with_reducible first|exact HB.out|apply bA|apply bN|apply bD|refine bS ?_ GE328.out)|exact HB.out)⟩⟩
  case rest =>
   clear HC5;(try clear p2);(try clear c4);(try clear c9);(try clear c9b0);(try clear hcz7_0);(try clear hcz7_1);(try clear hfz7_0);(try clear hfz7_1)
   obtain ⟨kq,x17_4,rfl,HA,HJ4,BK328,HB⟩:=hcut
   cases kq with
   | zero=>exact absurd HA.out (by simp [soundserviceref03_Floor.j0])
   | succ kj4 =>
    have H:=HA.out
    clear HA
    simp only [soundserviceref03_Floor.j0] at H
    by_cases c10:x17_4=true
    ·subst c10
     have H1:(some (0,2))=some (r1,r2):=by rw [if_pos rfl] at H;exact H
     clear H;have H:=H1;clear H1
     simp only [Option.some.injEq,Prod.mk.injEq] at H
     obtain ⟨rfl,rfl⟩:=H
     go_wp2
     go_ret2
     exact ⟨by first|rfl|(simp [errW_none,errW_some] <;> rfl)|(simp [*,errW_none,errW_some] <;> rfl),by repeat (first|(with_reducible first|exact HB.out|apply bA|apply bN|apply bD|refine bS ?_ GE328.out)|exact HB.out)⟩
    ·replace c10:=Bool.eq_false_iff.mpr c10
     subst c10
     have H1:((soundserviceref03_divide.f kj4 a0 a1_0 a1_1).bind fun bt330=>(if bt330.2.2=true then (some (bt330.1,0)) else (some (0,2))))=some (r1,r2):=by rw [if_neg (show ¬ (false=true) by decide)] at H;exact H
     clear H;have H:=H1;clear H1
     replace H:=Option.bind_eq_some_iff.mp H
     obtain ⟨⟨t330,t331,t332⟩,A110,H⟩:=H
     replace H:(if t332=true then (some (t330,0)) else (some (0,2)))=some (r1,r2):=H
     have A11:=Am A110
     clear A110
     by_cases c12:t332=true
     ·subst c12
      have H1:(some (t330,0))=some (r1,r2):=by rw [if_pos rfl] at H;exact H
      clear H;have H:=H1;clear H1
      simp only [Option.some.injEq,Prod.mk.injEq] at H
      obtain ⟨rfl,rfl⟩:=H
      have hcz13_0:wc.cell? ⟨gb328,0,none⟩=some (.int .i64 a1_0):=(blk_cell BK328.out 0).trans rfl
      have hcz13_1:wc.cell? ⟨gb328,1,none⟩=some (.int .i64 a1_1):=(blk_cell BK328.out 1).trans rfl
      have hfz13_0:=blk_frozen BK328.out 0
      have hfz13_1:=blk_frozen BK328.out 1
      go_wp2_with (first|((with_reducible refine gate_callee (f:=55) rfl ?_);refine goesL_ (some 21) rfl rfl Try.func55 (by kernel_rfl) rfl #[.int .i64 a0, .agg #[.int .i64 a1_0, .int .i64 a1_1]] rfl (by (try simp only [List.map_toArray,List.map_cons,List.map_nil]);first|done|rfl|(simp only [List.length_drop,List.length_take];rfl)) ?_;(with_reducible refine (soundserviceref03_divide.calls kj4 a0 a1_0 a1_1 t330 t331 true _ A11.out).mono ?_);rintro e w14 ⟨rfl,hb⟩;refine ⟨_,rfl,?_⟩;have n0_:=Am (blk_below (g:=gb328) (o:=.cells #[.int .i64 a1_0, .int .i64 a1_1] 27 (0,0)) (by (with_reducible repeat first|apply kN|apply kD|apply kA);exact BK328.out) hb);have n1_:=Am (below_step (by repeat (first|(with_reducible first|exact HB.out|apply bA|apply bN|apply bD|refine bS ?_ GE328.out)|exact HB.out)) hb);clear BK328 HB;have BK328:=n0_;have HB:=n1_;clear n0_ n1_;(try clear hb)))
      go_ret2
      exact ⟨by first|rfl|(simp [errW_none,errW_some] <;> rfl)|(simp [*,errW_none,errW_some] <;> rfl),by repeat (first|(with_reducible first|exact HB.out|apply bA|apply bN|apply bD|refine bS ?_ GE328.out)|exact HB.out)⟩
     ·replace c12:=Bool.eq_false_iff.mpr c12
      subst c12
      have H1:(some (0,2))=some (r1,r2):=by rw [if_neg (show ¬ (false=true) by decide)] at H;exact H
      clear H;have H:=H1;clear H1
      simp only [Option.some.injEq,Prod.mk.injEq] at H
      obtain ⟨rfl,rfl⟩:=H
      have hcz15_0:wc.cell? ⟨gb328,0,none⟩=some (.int .i64 a1_0):=(blk_cell BK328.out 0).trans rfl
      have hcz15_1:wc.cell? ⟨gb328,1,none⟩=some (.int .i64 a1_1):=(blk_cell BK328.out 1).trans rfl
      have hfz15_0:=blk_frozen BK328.out 0
      have hfz15_1:=blk_frozen BK328.out 1
      go_wp2_with (first|((with_reducible refine gate_callee (f:=55) rfl ?_);refine goesL_ (some 21) rfl rfl Try.func55 (by kernel_rfl) rfl #[.int .i64 a0, .agg #[.int .i64 a1_0, .int .i64 a1_1]] rfl (by (try simp only [List.map_toArray,List.map_cons,List.map_nil]);first|done|rfl|(simp only [List.length_drop,List.length_take];rfl)) ?_;(with_reducible refine (soundserviceref03_divide.calls kj4 a0 a1_0 a1_1 t330 t331 false _ A11.out).mono ?_);rintro e w16 ⟨rfl,hb⟩;refine ⟨_,rfl,?_⟩;have n0_:=Am (blk_below (g:=gb328) (o:=.cells #[.int .i64 a1_0, .int .i64 a1_1] 27 (0,0)) (by (with_reducible repeat first|apply kN|apply kD|apply kA);exact BK328.out) hb);have n1_:=Am (below_step (by repeat (first|(with_reducible first|exact HB.out|apply bA|apply bN|apply bD|refine bS ?_ GE328.out)|exact HB.out)) hb);clear BK328 HB;have BK328:=n0_;have HB:=n1_;clear n0_ n1_;(try clear hb)))
      go_ret2
      exact ⟨by first|rfl|(simp [errW_none,errW_some] <;> rfl)|(simp [*,errW_none,errW_some] <;> rfl),by repeat (first|(with_reducible first|exact HB.out|apply bA|apply bN|apply bD|refine bS ?_ GE328.out)|exact HB.out)⟩
 ·replace c4:=Bool.eq_false_iff.mpr c4
  subst c4
  have H1:(some (0,1))=some (r1,r2):=by rw [if_neg (show ¬ (false=true) by decide)] at H;exact H
  clear H;have H:=H1;clear H1
  simp only [Option.some.injEq,Prod.mk.injEq] at H
  obtain ⟨rfl,rfl⟩:=H
  go_enter Try.func46,Try.ntmps46
  go_wp2_with (first|((with_reducible refine gate_dst (N:=3) rfl ?_);refine box_event ?hg (N:=3) ?hd (cs:=#[.int .i64 a1_0, .int .i64 a1_1]) (t:=27) ?hr ?_;(case hd=>rfl);(case hg=>rfl);(case hr=>first|(go_simp;done)|(go_simp;rfl));intro gb328 hg w17 hbox hb;have n0_:=Am (below_step (by repeat (first|(with_reducible first|exact HB.out|apply bA|apply bN|apply bD)|exact HB.out)) hb);have n1_:=Am (hbox);have n2_:=Am ((by rw [hg];exact (below_size (by repeat (first|(with_reducible first|exact HB.out|apply bA|apply bN|apply bD)|exact HB.out))):w.heap.size≤gb328));have n3_:=Am ((by rw [hg];exact (below_size (by repeat (first|(with_reducible first|exact HB.out|apply bA|apply bN|apply bD)|exact HB.out))):w.heap.size≤gb328));clear HB;have HB:=n0_;have BK328:=n1_;have GW328:=n2_;have GE328:=n3_;clear n0_ n1_ n2_ n3_ hb hbox hg;have hcz18_0:w17.cell? ⟨gb328,0,none⟩=some (.int .i64 a1_0):=(blk_cell BK328.out 0).trans rfl;have hcz18_1:w17.cell? ⟨gb328,1,none⟩=some (.int .i64 a1_1):=(blk_cell BK328.out 1).trans rfl;have hfz18_0:=blk_frozen BK328.out 0;have hfz18_1:=blk_frozen BK328.out 1)|((with_reducible refine gate_callee (f:=44) rfl ?_);refine goesL_ (some 10) rfl rfl Try.func44 (by kernel_rfl) rfl #[.agg #[.int .i64 a1_0, .int .i64 a1_1]] rfl (by (try simp only [List.map_toArray,List.map_cons,List.map_nil]);first|done|rfl|(simp only [List.length_drop,List.length_take];rfl)) ?_;(with_reducible refine (soundserviceref03_Valid.calls k a1_0 a1_1 false _ A3.out).mono ?_);rintro e w19 ⟨rfl,hb⟩;refine ⟨_,rfl,?_⟩;have n0_:=Am (blk_below (g:=gb328) (o:=.cells #[.int .i64 a1_0, .int .i64 a1_1] 27 (0,0)) (by (with_reducible repeat first|apply kN|apply kD|apply kA);exact BK328.out) hb);have n1_:=Am (below_step (by repeat (first|(with_reducible first|exact HB.out|apply bA|apply bN|apply bD|refine bS ?_ GE328.out)|exact HB.out)) hb);clear BK328 HB;have BK328:=n0_;have HB:=n1_;clear n0_ n1_;(try clear hb)))
  go_ret2
  exact ⟨by first|rfl|(simp [errW_none,errW_some] <;> rfl)|(simp [*,errW_none,errW_some] <;> rfl),by repeat (first|(with_reducible first|exact HB.out|apply bA|apply bN|apply bD|refine bS ?_ GE328.out)|exact HB.out)⟩

end Go.Proofs.Ythnmmiofhjbkeaa.PA
