/- Walks of functions of the program: each does what its Lean function says. Written by a program of this session (wip/xprint), which runs the printer of the kit with changes. -/
import Derived.Test.YthnmmiofhjbkeaaPAx0
import Derived.Test.YthnmmiofhjbkeaaPAx4
import Derived.Test.YthnmmiofhjbkeaaPAx6
namespace Go.Proofs.Ythnmmiofhjbkeaa.PA
open Go.RowKit Go.Proofs.YthnmmiofhjbkeaaW.PrintWords Go.Proofs.YthnmmiofhjbkeaaW.PrintLast Go.Proofs.YthnmmiofhjbkeaaW.PrintMore
attribute [local go_sem] max2_int min2_int max_two min_two max_three min_three max_four min_four   -- for this text's walks alone
set_option linter.unusedVariables false
set_option linter.unusedSimpArgs false

/-! ### ratio_divide: function 50 -/
def ratio_divide.j0:Nat→Int→Int→Int→Int→Option (Int × Int × Bool)
 | 0,_,_,_,_=>none
 | k+1,x0,x7,x137000,x137001=>(bits_Mul64.f x7 (IntKind.u64.wrap (x137000))).bind fun bt137=>(if bt137.1 ≥ (IntKind.u64.wrap (x137001)) then (some (0,0,false)) else ((bits_Div64.f k bt137.1 bt137.2 (IntKind.u64.wrap (x137001))).bind fun bt139=>(if bt139.1 > 4611686018427387904 then (some (0,0,false)) else (if x0 < 0 then (if (wrap64 (bt139.2)) > 0 then (some (wrap64 ((wrap64 (-(wrap64 (bt139.1)))) - 1),wrap64 (x137001 - (wrap64 (bt139.2))),true)) else (some (wrap64 (-(wrap64 (bt139.1))),wrap64 (bt139.2),true))) else (some (wrap64 (bt139.1),wrap64 (bt139.2),true))))))
def ratio_divide.f (k:Nat) (a0:Int) (a1_0:Int) (a1_1:Int):Option (Int × Int × Bool):=if a0 < 0 then (ratio_divide.j0 k a0 (IntKind.u64.wrap (-(IntKind.u64.wrap (a0)))) a1_0 a1_1) else (ratio_divide.j0 k a0 (IntKind.u64.wrap (a0)) a1_0 a1_1)
theorem ratio_divide.mono_l:∀ k,(∀ y0 y1 y2 y3,LeO (ratio_divide.j0 k y0 y1 y2 y3) (ratio_divide.j0 (k+1) y0 y1 y2 y3))
 | 0=>fun _ _ _ _ r h=>by simp [ratio_divide.j0] at h
 | k+1=>by
  have ih0:=ratio_divide.mono_l k
  ·intro y0 y1 y2 y3
   unfold ratio_divide.j0
   repeat' first
   | (with_reducible exact ih0 _ _ _ _)
   | (with_reducible exact bits_Div64.mono _ _ _ _)
   | (with_reducible exact LeO.refl _)
   | (with_reducible exact LeO.none _)
   | (with_reducible refine LeO.ite ?_ ?_)
   | (with_reducible refine LeO.bind ?_ (fun _=>?_))
   | exact ih0 _ _ _ _
   | exact bits_Div64.mono _ _ _ _
   | exact LeO.none _
   | refine LeO.ite ?_ ?_
   | refine LeO.bind ?_ (fun _=>?_)
theorem ratio_divide.mono:∀ a0 a1 a2 k,LeO (ratio_divide.f k a0 a1 a2) (ratio_divide.f (k+1) a0 a1 a2):=by
 intro a0 a1 a2 k
 have ih0:=ratio_divide.mono_l k
 unfold ratio_divide.f
 repeat' first
   | (with_reducible exact ih0 _ _ _ _)
   | (with_reducible exact bits_Div64.mono _ _ _ _)
   | (with_reducible exact LeO.refl _)
   | (with_reducible exact LeO.none _)
   | (with_reducible refine LeO.ite ?_ ?_)
   | (with_reducible refine LeO.bind ?_ (fun _=>?_))
   | exact ih0 _ _ _ _
   | exact bits_Div64.mono _ _ _ _
   | exact LeO.none _
   | refine LeO.ite ?_ ?_
   | refine LeO.bind ?_ (fun _=>?_)
set_option maxHeartbeats 8000000 in
set_option maxRecDepth 100000 in
theorem ratio_divide.calls (k:Nat) (a0:Int) (a1_0:Int) (a1_1:Int) (r1:Int) (r2:Int) (r3:Bool) (w:World) (h:ratio_divide.f k a0 a1_0 a1_1=some (r1,r2,r3)) :
  Calls Try.prog 50 #[.int .i64 a0, .agg #[.int .i64 a1_0, .int .i64 a1_1]] w fun e w'=>e=.returned (.tuple #[.int .i64 r1, .int .i64 r2, .bool r3])∧Below w.heap.size w w':=by
 have hu27:=Try.underlying27
 have HB:=Am (Below.refl w.heap.size w)
 have H:(if a0 < 0 then (ratio_divide.j0 k a0 (IntKind.u64.wrap (-(IntKind.u64.wrap (a0)))) a1_0 a1_1) else (ratio_divide.j0 k a0 (IntKind.u64.wrap (a0)) a1_0 a1_1))=some (r1,r2,r3):=h
 clear h
 have HC3:=Am H
 clear H
 go_enter Try.func50,Try.ntmps50
 go_upto_if 15 with (first|((with_reducible refine gate_dst (N:=3) rfl ?_);refine box_event ?hg (N:=3) ?hd (cs:=#[.int .i64 a1_0, .int .i64 a1_1]) (t:=27) ?hr ?_;(case hd=>rfl);(case hg=>rfl);(case hr=>first|(go_simp;done)|(go_simp;rfl));intro gb136 hg w4 hbox hb;have n0_:=Am (below_step (by repeat (first|(with_reducible first|exact HB.out|apply bA|apply bN|apply bD)|exact HB.out)) hb);have n1_:=Am (hbox);have n2_:=Am ((by rw [hg];exact (below_size (by repeat (first|(with_reducible first|exact HB.out|apply bA|apply bN|apply bD)|exact HB.out))):w.heap.size≤gb136));have n3_:=Am ((by rw [hg];exact (below_size (by repeat (first|(with_reducible first|exact HB.out|apply bA|apply bN|apply bD)|exact HB.out))):w.heap.size≤gb136));clear HB;have HB:=n0_;have BK136:=n1_;have GW136:=n2_;have GE136:=n3_;clear n0_ n1_ n2_ n3_ hb hbox hg))
 repeat (go_quiet (first|((with_reducible refine gate_dst (N:=3) rfl ?_);refine box_event ?hg (N:=3) ?hd (cs:=#[.int .i64 a1_0, .int .i64 a1_1]) (t:=27) ?hr ?_;(case hd=>rfl);(case hg=>rfl);(case hr=>first|(go_simp;done)|(go_simp;rfl));intro gb136 hg w4 hbox hb;have n0_:=Am (below_step (by repeat (first|(with_reducible first|exact HB.out|apply bA|apply bN|apply bD)|exact HB.out)) hb);have n1_:=Am (hbox);have n2_:=Am ((by rw [hg];exact (below_size (by repeat (first|(with_reducible first|exact HB.out|apply bA|apply bN|apply bD)|exact HB.out))):w.heap.size≤gb136));have n3_:=Am ((by rw [hg];exact (below_size (by repeat (first|(with_reducible first|exact HB.out|apply bA|apply bN|apply bD)|exact HB.out))):w.heap.size≤gb136));clear HB;have HB:=n0_;have BK136:=n1_;have GW136:=n2_;have GE136:=n3_;clear n0_ n1_ n2_ n3_ hb hbox hg));go_upto_if 15 with (first|((with_reducible refine gate_dst (N:=3) rfl ?_);refine box_event ?hg (N:=3) ?hd (cs:=#[.int .i64 a1_0, .int .i64 a1_1]) (t:=27) ?hr ?_;(case hd=>rfl);(case hg=>rfl);(case hr=>first|(go_simp;done)|(go_simp;rfl));intro gb136 hg w4 hbox hb;have n0_:=Am (below_step (by repeat (first|(with_reducible first|exact HB.out|apply bA|apply bN|apply bD)|exact HB.out)) hb);have n1_:=Am (hbox);have n2_:=Am ((by rw [hg];exact (below_size (by repeat (first|(with_reducible first|exact HB.out|apply bA|apply bN|apply bD)|exact HB.out))):w.heap.size≤gb136));have n3_:=Am ((by rw [hg];exact (below_size (by repeat (first|(with_reducible first|exact HB.out|apply bA|apply bN|apply bD)|exact HB.out))):w.heap.size≤gb136));clear HB;have HB:=n0_;have BK136:=n1_;have GW136:=n2_;have GE136:=n3_;clear n0_ n1_ n2_ n3_ hb hbox hg)))
 (try simp only [pL])
 go_cut [7] (fun v7 wc=>∃ (kq:Nat) (x7_2:Int),v7=.int .u64 x7_2∧Aside0 (ratio_divide.j0 kq a0 x7_2 a1_0 a1_1=some (r1,r2,r3))∧Aside0 (kq≤k)∧Aside0 (wc.heap[gb136]?=some (.cells #[.int .i64 a1_0, .int .i64 a1_1] 27 (0,0)))∧Aside0 (Below w.heap.size w wc))
 case first =>
  have H:=HC3.out
  clear HC3
  by_cases c5:a0 < 0
  ·rw [if_pos c5] at H
   have c5b0:decide (a0 < 0)=true:=decide_eq_true c5
   clear c5
   (first|rw [c5b0]|(simp only [i64_w,i32_w];rw [c5b0])|skip)
   have H':=Am H
   clear H
   go_wp2
   repeat (go_quiet (fail);try go_wp2)
   go_meet
   case rel=>exact ⟨_,(IntKind.u64.wrap (-(IntKind.u64.wrap (a0)))),(by first|rfl|(simp;done)|(simp [*];done)),H',⟨by first|omega|exact Nat.le_refl _⟩,⟨by (with_reducible repeat first|apply kN|apply kD|apply kA);exact BK136.out⟩,⟨by repeat (first|(with_reducible first|exact HB.out|apply bA|apply bN|apply bD|refine bS ?_ GE136.out)|exact HB.out)⟩⟩
  ·rw [if_neg c5] at H
   have c5b0:decide (a0 < 0)=false:=decide_eq_false c5
   clear c5
   (first|rw [c5b0]|(simp only [i64_w,i32_w];rw [c5b0])|skip)
   have H':=Am H
   clear H
   go_wp2
   repeat (go_quiet (fail);try go_wp2)
   go_meet
   case rel=>exact ⟨_,(IntKind.u64.wrap (a0)),(by first|rfl|(simp;done)|(simp [*];done)),H',⟨by first|omega|exact Nat.le_refl _⟩,⟨by (with_reducible repeat first|apply kN|apply kD|apply kA);exact BK136.out⟩,⟨by repeat (first|(with_reducible first|exact HB.out|apply bA|apply bN|apply bD|refine bS ?_ GE136.out)|exact HB.out)⟩⟩
 case rest =>
  clear HC3;(try clear p2);(try clear c5);(try clear c5b0)
  obtain ⟨kq,x7_2,rfl,HA,HJ2,BK136,HB⟩:=hcut
  cases kq with
  | zero=>exact absurd HA.out (by simp [ratio_divide.j0])
  | succ kj2 =>
   have H:=HA.out
   clear HA
   simp only [ratio_divide.j0] at H
   replace H:=Option.bind_eq_some_iff.mp H
   obtain ⟨⟨t137,t138⟩,A60,H⟩:=H
   replace H:(if t137 ≥ (IntKind.u64.wrap (a1_1)) then (some (0,0,false)) else ((bits_Div64.f kj2 t137 t138 (IntKind.u64.wrap (a1_1))).bind fun bt139=>(if bt139.1 > 4611686018427387904 then (some (0,0,false)) else (if a0 < 0 then (if (wrap64 (bt139.2)) > 0 then (some (wrap64 ((wrap64 (-(wrap64 (bt139.1)))) - 1),wrap64 (a1_1 - (wrap64 (bt139.2))),true)) else (some (wrap64 (-(wrap64 (bt139.1))),wrap64 (bt139.2),true))) else (some (wrap64 (bt139.1),wrap64 (bt139.2),true))))))=some (r1,r2,r3):=H
   have A6:=Am A60
   clear A60
   by_cases c7:t137 ≥ (IntKind.u64.wrap (a1_1))
   ·rw [if_pos c7] at H
    have c7b0:decide ((IntKind.u64.wrap (a1_1))≤t137)=true:=decide_eq_true c7
    clear c7
    simp only [Option.some.injEq,Prod.mk.injEq] at H
    obtain ⟨rfl,rfl,rfl⟩:=H
    have hcz8_0:wc.cell? ⟨gb136,0,none⟩=some (.int .i64 a1_0):=(blk_cell BK136.out 0).trans rfl
    have hcz8_1:wc.cell? ⟨gb136,1,none⟩=some (.int .i64 a1_1):=(blk_cell BK136.out 1).trans rfl
    have hfz8_0:=blk_frozen BK136.out 0
    have hfz8_1:=blk_frozen BK136.out 1
    go_wp2_with (first|(go_at_call 52;(with_reducible refine (bits_Mul64.calls x7_2 (IntKind.u64.wrap (a1_0)) t137 t138 _ A6.out).mono ?_);rintro e w' ⟨rfl,⟨nd,rfl⟩⟩;(try first|exact ⟨rfl,_,World.drewN_drewN _ _ _⟩|exact ⟨rfl,_,Eq.trans (World.drewN_drewN _ _ _) (congrArg (World.drewN _) (Nat.add_assoc _ _ _))⟩)))
    repeat (go_quiet (first|(go_at_call 52;(with_reducible refine (bits_Mul64.calls x7_2 (IntKind.u64.wrap (a1_0)) t137 t138 _ A6.out).mono ?_);rintro e w' ⟨rfl,⟨nd,rfl⟩⟩;(try first|exact ⟨rfl,_,World.drewN_drewN _ _ _⟩|exact ⟨rfl,_,Eq.trans (World.drewN_drewN _ _ _) (congrArg (World.drewN _) (Nat.add_assoc _ _ _))⟩)));try go_wp2_with (first|(go_at_call 52;(with_reducible refine (bits_Mul64.calls x7_2 (IntKind.u64.wrap (a1_0)) t137 t138 _ A6.out).mono ?_);rintro e w' ⟨rfl,⟨nd,rfl⟩⟩;(try first|exact ⟨rfl,_,World.drewN_drewN _ _ _⟩|exact ⟨rfl,_,Eq.trans (World.drewN_drewN _ _ _) (congrArg (World.drewN _) (Nat.add_assoc _ _ _))⟩))))
    go_ret3
    exact ⟨by first|rfl|(simp [errW_none,errW_some] <;> rfl)|(simp [*,errW_none,errW_some] <;> rfl),by repeat (first|(with_reducible first|exact HB.out|apply bA|apply bN|apply bD|refine bS ?_ GE136.out)|exact HB.out)⟩
   ·rw [if_neg c7] at H
    have c7b0:decide ((IntKind.u64.wrap (a1_1))≤t137)=false:=decide_eq_false c7
    clear c7
    replace H:=Option.bind_eq_some_iff.mp H
    obtain ⟨⟨t139,t140⟩,A90,H⟩:=H
    replace H:(if t139 > 4611686018427387904 then (some (0,0,false)) else (if a0 < 0 then (if (wrap64 (t140)) > 0 then (some (wrap64 ((wrap64 (-(wrap64 (t139)))) - 1),wrap64 (a1_1 - (wrap64 (t140))),true)) else (some (wrap64 (-(wrap64 (t139))),wrap64 (t140),true))) else (some (wrap64 (t139),wrap64 (t140),true))))=some (r1,r2,r3):=H
    have A9:=Am A90
    clear A90
    by_cases c10:t139 > 4611686018427387904
    ·rw [if_pos c10] at H
     have c10b0:decide (4611686018427387904 < t139)=true:=decide_eq_true c10
     clear c10
     simp only [Option.some.injEq,Prod.mk.injEq] at H
     obtain ⟨rfl,rfl,rfl⟩:=H
     have hcz11_0:wc.cell? ⟨gb136,0,none⟩=some (.int .i64 a1_0):=(blk_cell BK136.out 0).trans rfl
     have hcz11_1:wc.cell? ⟨gb136,1,none⟩=some (.int .i64 a1_1):=(blk_cell BK136.out 1).trans rfl
     have hfz11_0:=blk_frozen BK136.out 0
     have hfz11_1:=blk_frozen BK136.out 1
     go_wp2_with (first|(go_at_call 52;(with_reducible refine (bits_Mul64.calls x7_2 (IntKind.u64.wrap (a1_0)) t137 t138 _ A6.out).mono ?_);rintro e w' ⟨rfl,⟨nd,rfl⟩⟩;(try first|exact ⟨rfl,_,World.drewN_drewN _ _ _⟩|exact ⟨rfl,_,Eq.trans (World.drewN_drewN _ _ _) (congrArg (World.drewN _) (Nat.add_assoc _ _ _))⟩))|(go_at_call 57;(with_reducible refine (bits_Div64.calls kj2 t137 t138 (IntKind.u64.wrap (a1_1)) t139 t140 _ A9.out).mono ?_);rintro e w' ⟨rfl,⟨nd,rfl⟩⟩;(try first|exact ⟨rfl,_,World.drewN_drewN _ _ _⟩|exact ⟨rfl,_,Eq.trans (World.drewN_drewN _ _ _) (congrArg (World.drewN _) (Nat.add_assoc _ _ _))⟩)))
     repeat (go_quiet (first|(go_at_call 52;(with_reducible refine (bits_Mul64.calls x7_2 (IntKind.u64.wrap (a1_0)) t137 t138 _ A6.out).mono ?_);rintro e w' ⟨rfl,⟨nd,rfl⟩⟩;(try first|exact ⟨rfl,_,World.drewN_drewN _ _ _⟩|exact ⟨rfl,_,Eq.trans (World.drewN_drewN _ _ _) (congrArg (World.drewN _) (Nat.add_assoc _ _ _))⟩))|(go_at_call 57;(with_reducible refine (bits_Div64.calls kj2 t137 t138 (IntKind.u64.wrap (a1_1)) t139 t140 _ A9.out).mono ?_);rintro e w' ⟨rfl,⟨nd,rfl⟩⟩;(try first|exact ⟨rfl,_,World.drewN_drewN _ _ _⟩|exact ⟨rfl,_,Eq.trans (World.drewN_drewN _ _ _) (congrArg (World.drewN _) (Nat.add_assoc _ _ _))⟩)));try go_wp2_with (first|(go_at_call 52;(with_reducible refine (bits_Mul64.calls x7_2 (IntKind.u64.wrap (a1_0)) t137 t138 _ A6.out).mono ?_);rintro e w' ⟨rfl,⟨nd,rfl⟩⟩;(try first|exact ⟨rfl,_,World.drewN_drewN _ _ _⟩|exact ⟨rfl,_,Eq.trans (World.drewN_drewN _ _ _) (congrArg (World.drewN _) (Nat.add_assoc _ _ _))⟩))|(go_at_call 57;(with_reducible refine (bits_Div64.calls kj2 t137 t138 (IntKind.u64.wrap (a1_1)) t139 t140 _ A9.out).mono ?_);rintro e w' ⟨rfl,⟨nd,rfl⟩⟩;(try first|exact ⟨rfl,_,World.drewN_drewN _ _ _⟩|exact ⟨rfl,_,Eq.trans (World.drewN_drewN _ _ _) (congrArg (World.drewN _) (Nat.add_assoc _ _ _))⟩))))
     go_ret3
     exact ⟨by first|rfl|(simp [errW_none,errW_some] <;> rfl)|(simp [*,errW_none,errW_some] <;> rfl),by repeat (first|(with_reducible first|exact HB.out|apply bA|apply bN|apply bD|refine bS ?_ GE136.out)|exact HB.out)⟩
    ·rw [if_neg c10] at H
     have c10b0:decide (4611686018427387904 < t139)=false:=decide_eq_false c10
     clear c10
     by_cases c12:a0 < 0
     ·rw [if_pos c12] at H
      have c12b0:decide (a0 < 0)=true:=decide_eq_true c12
      clear c12
      by_cases c13:(wrap64 (t140)) > 0
      ·rw [if_pos c13] at H
       have c13b0:decide (0 < (wrap64 (t140)))=true:=decide_eq_true c13
       clear c13
       simp only [Option.some.injEq,Prod.mk.injEq] at H
       obtain ⟨rfl,rfl,rfl⟩:=H
       have hcz14_0:wc.cell? ⟨gb136,0,none⟩=some (.int .i64 a1_0):=(blk_cell BK136.out 0).trans rfl
       have hcz14_1:wc.cell? ⟨gb136,1,none⟩=some (.int .i64 a1_1):=(blk_cell BK136.out 1).trans rfl
       have hfz14_0:=blk_frozen BK136.out 0
       have hfz14_1:=blk_frozen BK136.out 1
       go_wp2_with (first|(go_at_call 52;(with_reducible refine (bits_Mul64.calls x7_2 (IntKind.u64.wrap (a1_0)) t137 t138 _ A6.out).mono ?_);rintro e w' ⟨rfl,⟨nd,rfl⟩⟩;(try first|exact ⟨rfl,_,World.drewN_drewN _ _ _⟩|exact ⟨rfl,_,Eq.trans (World.drewN_drewN _ _ _) (congrArg (World.drewN _) (Nat.add_assoc _ _ _))⟩))|(go_at_call 57;(with_reducible refine (bits_Div64.calls kj2 t137 t138 (IntKind.u64.wrap (a1_1)) t139 t140 _ A9.out).mono ?_);rintro e w' ⟨rfl,⟨nd,rfl⟩⟩;(try first|exact ⟨rfl,_,World.drewN_drewN _ _ _⟩|exact ⟨rfl,_,Eq.trans (World.drewN_drewN _ _ _) (congrArg (World.drewN _) (Nat.add_assoc _ _ _))⟩)))
       repeat (go_quiet (first|(go_at_call 52;(with_reducible refine (bits_Mul64.calls x7_2 (IntKind.u64.wrap (a1_0)) t137 t138 _ A6.out).mono ?_);rintro e w' ⟨rfl,⟨nd,rfl⟩⟩;(try first|exact ⟨rfl,_,World.drewN_drewN _ _ _⟩|exact ⟨rfl,_,Eq.trans (World.drewN_drewN _ _ _) (congrArg (World.drewN _) (Nat.add_assoc _ _ _))⟩))|(go_at_call 57;(with_reducible refine (bits_Div64.calls kj2 t137 t138 (IntKind.u64.wrap (a1_1)) t139 t140 _ A9.out).mono ?_);rintro e w' ⟨rfl,⟨nd,rfl⟩⟩;(try first|exact ⟨rfl,_,World.drewN_drewN _ _ _⟩|exact ⟨rfl,_,Eq.trans (World.drewN_drewN _ _ _) (congrArg (World.drewN _) (Nat.add_assoc _ _ _))⟩)));try go_wp2_with (first|(go_at_call 52;(with_reducible refine (bits_Mul64.calls x7_2 (IntKind.u64.wrap (a1_0)) t137 t138 _ A6.out).mono ?_);rintro e w' ⟨rfl,⟨nd,rfl⟩⟩;(try first|exact ⟨rfl,_,World.drewN_drewN _ _ _⟩|exact ⟨rfl,_,Eq.trans (World.drewN_drewN _ _ _) (congrArg (World.drewN _) (Nat.add_assoc _ _ _))⟩))|(go_at_call 57;(with_reducible refine (bits_Div64.calls kj2 t137 t138 (IntKind.u64.wrap (a1_1)) t139 t140 _ A9.out).mono ?_);rintro e w' ⟨rfl,⟨nd,rfl⟩⟩;(try first|exact ⟨rfl,_,World.drewN_drewN _ _ _⟩|exact ⟨rfl,_,Eq.trans (World.drewN_drewN _ _ _) (congrArg (World.drewN _) (Nat.add_assoc _ _ _))⟩))))
       go_ret3
       exact ⟨by first|rfl|(simp [errW_none,errW_some] <;> rfl)|(simp [*,errW_none,errW_some] <;> rfl),by repeat (first|(with_reducible first|exact HB.out|apply bA|apply bN|apply bD|refine bS ?_ GE136.out)|exact HB.out)⟩
      ·rw [if_neg c13] at H
       have c13b0:decide (0 < (wrap64 (t140)))=false:=decide_eq_false c13
       clear c13
       simp only [Option.some.injEq,Prod.mk.injEq] at H
       obtain ⟨rfl,rfl,rfl⟩:=H
       have hcz15_0:wc.cell? ⟨gb136,0,none⟩=some (.int .i64 a1_0):=(blk_cell BK136.out 0).trans rfl
       have hcz15_1:wc.cell? ⟨gb136,1,none⟩=some (.int .i64 a1_1):=(blk_cell BK136.out 1).trans rfl
       have hfz15_0:=blk_frozen BK136.out 0
       have hfz15_1:=blk_frozen BK136.out 1
       go_wp2_with (first|(go_at_call 52;(with_reducible refine (bits_Mul64.calls x7_2 (IntKind.u64.wrap (a1_0)) t137 t138 _ A6.out).mono ?_);rintro e w' ⟨rfl,⟨nd,rfl⟩⟩;(try first|exact ⟨rfl,_,World.drewN_drewN _ _ _⟩|exact ⟨rfl,_,Eq.trans (World.drewN_drewN _ _ _) (congrArg (World.drewN _) (Nat.add_assoc _ _ _))⟩))|(go_at_call 57;(with_reducible refine (bits_Div64.calls kj2 t137 t138 (IntKind.u64.wrap (a1_1)) t139 t140 _ A9.out).mono ?_);rintro e w' ⟨rfl,⟨nd,rfl⟩⟩;(try first|exact ⟨rfl,_,World.drewN_drewN _ _ _⟩|exact ⟨rfl,_,Eq.trans (World.drewN_drewN _ _ _) (congrArg (World.drewN _) (Nat.add_assoc _ _ _))⟩)))
       repeat (go_quiet (first|(go_at_call 52;(with_reducible refine (bits_Mul64.calls x7_2 (IntKind.u64.wrap (a1_0)) t137 t138 _ A6.out).mono ?_);rintro e w' ⟨rfl,⟨nd,rfl⟩⟩;(try first|exact ⟨rfl,_,World.drewN_drewN _ _ _⟩|exact ⟨rfl,_,Eq.trans (World.drewN_drewN _ _ _) (congrArg (World.drewN _) (Nat.add_assoc _ _ _))⟩))|(go_at_call 57;(with_reducible refine (bits_Div64.calls kj2 t137 t138 (IntKind.u64.wrap (a1_1)) t139 t140 _ A9.out).mono ?_);rintro e w' ⟨rfl,⟨nd,rfl⟩⟩;(try first|exact ⟨rfl,_,World.drewN_drewN _ _ _⟩|exact ⟨rfl,_,Eq.trans (World.drewN_drewN _ _ _) (congrArg (World.drewN _) (Nat.add_assoc _ _ _))⟩)));try go_wp2_with (first|(go_at_call 52;(with_reducible refine (bits_Mul64.calls x7_2 (IntKind.u64.wrap (a1_0)) t137 t138 _ A6.out).mono ?_);rintro e w' ⟨rfl,⟨nd,rfl⟩⟩;(try first|exact ⟨rfl,_,World.drewN_drewN _ _ _⟩|exact ⟨rfl,_,Eq.trans (World.drewN_drewN _ _ _) (congrArg (World.drewN _) (Nat.add_assoc _ _ _))⟩))|(go_at_call 57;(with_reducible refine (bits_Div64.calls kj2 t137 t138 (IntKind.u64.wrap (a1_1)) t139 t140 _ A9.out).mono ?_);rintro e w' ⟨rfl,⟨nd,rfl⟩⟩;(try first|exact ⟨rfl,_,World.drewN_drewN _ _ _⟩|exact ⟨rfl,_,Eq.trans (World.drewN_drewN _ _ _) (congrArg (World.drewN _) (Nat.add_assoc _ _ _))⟩))))
       go_ret3
       exact ⟨by first|rfl|(simp [errW_none,errW_some] <;> rfl)|(simp [*,errW_none,errW_some] <;> rfl),by repeat (first|(with_reducible first|exact HB.out|apply bA|apply bN|apply bD|refine bS ?_ GE136.out)|exact HB.out)⟩
     ·rw [if_neg c12] at H
      have c12b0:decide (a0 < 0)=false:=decide_eq_false c12
      clear c12
      simp only [Option.some.injEq,Prod.mk.injEq] at H
      obtain ⟨rfl,rfl,rfl⟩:=H
      have hcz16_0:wc.cell? ⟨gb136,0,none⟩=some (.int .i64 a1_0):=(blk_cell BK136.out 0).trans rfl
      have hcz16_1:wc.cell? ⟨gb136,1,none⟩=some (.int .i64 a1_1):=(blk_cell BK136.out 1).trans rfl
      have hfz16_0:=blk_frozen BK136.out 0
      have hfz16_1:=blk_frozen BK136.out 1
      go_wp2_with (first|(go_at_call 52;(with_reducible refine (bits_Mul64.calls x7_2 (IntKind.u64.wrap (a1_0)) t137 t138 _ A6.out).mono ?_);rintro e w' ⟨rfl,⟨nd,rfl⟩⟩;(try first|exact ⟨rfl,_,World.drewN_drewN _ _ _⟩|exact ⟨rfl,_,Eq.trans (World.drewN_drewN _ _ _) (congrArg (World.drewN _) (Nat.add_assoc _ _ _))⟩))|(go_at_call 57;(with_reducible refine (bits_Div64.calls kj2 t137 t138 (IntKind.u64.wrap (a1_1)) t139 t140 _ A9.out).mono ?_);rintro e w' ⟨rfl,⟨nd,rfl⟩⟩;(try first|exact ⟨rfl,_,World.drewN_drewN _ _ _⟩|exact ⟨rfl,_,Eq.trans (World.drewN_drewN _ _ _) (congrArg (World.drewN _) (Nat.add_assoc _ _ _))⟩)))
      repeat (go_quiet (first|(go_at_call 52;(with_reducible refine (bits_Mul64.calls x7_2 (IntKind.u64.wrap (a1_0)) t137 t138 _ A6.out).mono ?_);rintro e w' ⟨rfl,⟨nd,rfl⟩⟩;(try first|exact ⟨rfl,_,World.drewN_drewN _ _ _⟩|exact ⟨rfl,_,Eq.trans (World.drewN_drewN _ _ _) (congrArg (World.drewN _) (Nat.add_assoc _ _ _))⟩))|(go_at_call 57;(with_reducible refine (bits_Div64.calls kj2 t137 t138 (IntKind.u64.wrap (a1_1)) t139 t140 _ A9.out).mono ?_);rintro e w' ⟨rfl,⟨nd,rfl⟩⟩;(try first|exact ⟨rfl,_,World.drewN_drewN _ _ _⟩|exact ⟨rfl,_,Eq.trans (World.drewN_drewN _ _ _) (congrArg (World.drewN _) (Nat.add_assoc _ _ _))⟩)));try go_wp2_with (first|(go_at_call 52;(with_reducible refine (bits_Mul64.calls x7_2 (IntKind.u64.wrap (a1_0)) t137 t138 _ A6.out).mono ?_);rintro e w' ⟨rfl,⟨nd,rfl⟩⟩;(try first|exact ⟨rfl,_,World.drewN_drewN _ _ _⟩|exact ⟨rfl,_,Eq.trans (World.drewN_drewN _ _ _) (congrArg (World.drewN _) (Nat.add_assoc _ _ _))⟩))|(go_at_call 57;(with_reducible refine (bits_Div64.calls kj2 t137 t138 (IntKind.u64.wrap (a1_1)) t139 t140 _ A9.out).mono ?_);rintro e w' ⟨rfl,⟨nd,rfl⟩⟩;(try first|exact ⟨rfl,_,World.drewN_drewN _ _ _⟩|exact ⟨rfl,_,Eq.trans (World.drewN_drewN _ _ _) (congrArg (World.drewN _) (Nat.add_assoc _ _ _))⟩))))
      go_ret3
      exact ⟨by first|rfl|(simp [errW_none,errW_some] <;> rfl)|(simp [*,errW_none,errW_some] <;> rfl),by repeat (first|(with_reducible first|exact HB.out|apply bA|apply bN|apply bD|refine bS ?_ GE136.out)|exact HB.out)⟩

/-! ### ratio_both: function 56 -/
def ratio_both.f (k:Nat) (a0:Int) (a1_0:Int) (a1_1:Int):Option (Int × Int × Int):=(ratio_check.f k a0 a1_0 a1_1).bind fun t142=>(if t142=0 then ((ratio_divide.f k a0 a1_0 a1_1).bind fun bt143=>(if bt143.2.2=true then (if bt143.1 < (-4611686018427387904) then (some (0,0,2)) else (some (bt143.1,bt143.2.1,0))) else (some (0,0,2)))) else (some (0,0,t142)))
theorem ratio_both.mono:∀ a0 a1 a2 k,LeO (ratio_both.f k a0 a1 a2) (ratio_both.f (k+1) a0 a1 a2):=by
 intro a0 a1 a2 k
 unfold ratio_both.f
 repeat' first
   | (with_reducible exact ratio_check.mono _ _ _ _)
   | (with_reducible exact ratio_divide.mono _ _ _ _)
   | (with_reducible exact LeO.refl _)
   | (with_reducible exact LeO.none _)
   | (with_reducible refine LeO.ite ?_ ?_)
   | (with_reducible refine LeO.bind ?_ (fun _=>?_))
   | exact ratio_check.mono _ _ _ _
   | exact ratio_divide.mono _ _ _ _
   | exact LeO.none _
   | refine LeO.ite ?_ ?_
   | refine LeO.bind ?_ (fun _=>?_)
set_option maxHeartbeats 8000000 in
set_option maxRecDepth 100000 in
theorem ratio_both.calls (k:Nat) (a0:Int) (a1_0:Int) (a1_1:Int) (r1:Int) (r2:Int) (r3:Int) (w:World) (h:ratio_both.f k a0 a1_0 a1_1=some (r1,r2,r3)) :
  Calls Try.prog 56 #[.int .i64 a0, .agg #[.int .i64 a1_0, .int .i64 a1_1]] w fun e w'=>e=.returned (.tuple #[.int .i64 r1, .int .i64 r2, .int .i64 r3])∧Below w.heap.size w w':=by
 have hu27:=Try.underlying27
 have HB:=Am (Below.refl w.heap.size w)
 have H:((ratio_check.f k a0 a1_0 a1_1).bind fun t142=>(if t142=0 then ((ratio_divide.f k a0 a1_0 a1_1).bind fun bt143=>(if bt143.2.2=true then (if bt143.1 < (-4611686018427387904) then (some (0,0,2)) else (some (bt143.1,bt143.2.1,0))) else (some (0,0,2)))) else (some (0,0,t142))))=some (r1,r2,r3):=h
 clear h
 replace H:=Option.bind_eq_some_iff.mp H
 obtain ⟨t142,A30,H⟩:=H
 replace H:(if t142=0 then ((ratio_divide.f k a0 a1_0 a1_1).bind fun bt143=>(if bt143.2.2=true then (if bt143.1 < (-4611686018427387904) then (some (0,0,2)) else (some (bt143.1,bt143.2.1,0))) else (some (0,0,2)))) else (some (0,0,t142)))=some (r1,r2,r3):=H
 have A3:=Am A30
 clear A30
 by_cases c4:t142=0
 ·rw [if_pos c4] at H
  have c4b0:(t142 == 0)=true:=beq_iff_eq.mpr c4
  have c4b1:(t142 != 0)=false:=bne_eq_false_iff_eq.mpr c4
  clear c4
  replace H:=Option.bind_eq_some_iff.mp H
  obtain ⟨⟨t143,t144,t145⟩,A50,H⟩:=H
  replace H:(if t145=true then (if t143 < (-4611686018427387904) then (some (0,0,2)) else (some (t143,t144,0))) else (some (0,0,2)))=some (r1,r2,r3):=H
  have A5:=Am A50
  clear A50
  by_cases c6:t145=true
  ·subst c6
   have H1:(if t143 < (-4611686018427387904) then (some (0,0,2)) else (some (t143,t144,0)))=some (r1,r2,r3):=by rw [if_pos rfl] at H;exact H
   clear H;have H:=H1;clear H1
   by_cases c7:t143 < (-4611686018427387904)
   ·rw [if_pos c7] at H
    have c7b0:decide (t143 < (-4611686018427387904))=true:=decide_eq_true c7
    clear c7
    simp only [Option.some.injEq,Prod.mk.injEq] at H
    obtain ⟨rfl,rfl,rfl⟩:=H
    go_enter Try.func56,Try.ntmps56
    go_wp2_with (first|((with_reducible refine gate_dst (N:=3) rfl ?_);refine box_event ?hg (N:=3) ?hd (cs:=#[.int .i64 a1_0, .int .i64 a1_1]) (t:=27) ?hr ?_;(case hd=>rfl);(case hg=>rfl);(case hr=>first|(go_simp;done)|(go_simp;rfl));intro gb141 hg w8 hbox hb;have n0_:=Am (below_step (by repeat (first|(with_reducible first|exact HB.out|apply bA|apply bN|apply bD)|exact HB.out)) hb);have n1_:=Am (hbox);have n2_:=Am ((by rw [hg];exact (below_size (by repeat (first|(with_reducible first|exact HB.out|apply bA|apply bN|apply bD)|exact HB.out))):w.heap.size≤gb141));have n3_:=Am ((by rw [hg];exact (below_size (by repeat (first|(with_reducible first|exact HB.out|apply bA|apply bN|apply bD)|exact HB.out))):w.heap.size≤gb141));clear HB;have HB:=n0_;have BK141:=n1_;have GW141:=n2_;have GE141:=n3_;clear n0_ n1_ n2_ n3_ hb hbox hg;have hcz9_0:w8.cell? ⟨gb141,0,none⟩=some (.int .i64 a1_0):=(blk_cell BK141.out 0).trans rfl;have hcz9_1:w8.cell? ⟨gb141,1,none⟩=some (.int .i64 a1_1):=(blk_cell BK141.out 1).trans rfl;have hfz9_0:=blk_frozen BK141.out 0;have hfz9_1:=blk_frozen BK141.out 1)|((with_reducible refine gate_callee (f:=49) rfl ?_);refine goesL_ (some 10) rfl rfl Try.func49 (by kernel_rfl) rfl #[.int .i64 a0, .agg #[.int .i64 a1_0, .int .i64 a1_1]] rfl (by (try simp only [List.map_toArray,List.map_cons,List.map_nil]);first|done|rfl|(simp only [List.length_drop,List.length_take];rfl)) ?_;(with_reducible refine (ratio_check.calls k a0 a1_0 a1_1 t142 _ A3.out).mono ?_);rintro e w10 ⟨rfl,hb⟩;refine ⟨_,rfl,?_⟩;have n0_:=Am (blk_below (g:=gb141) (o:=.cells #[.int .i64 a1_0, .int .i64 a1_1] 27 (0,0)) (by (with_reducible repeat first|apply kN|apply kD|apply kA);exact BK141.out) hb);have n1_:=Am (below_step (by repeat (first|(with_reducible first|exact HB.out|apply bA|apply bN|apply bD|refine bS ?_ GE141.out)|exact HB.out)) hb);clear BK141 HB;have BK141:=n0_;have HB:=n1_;clear n0_ n1_;(try clear hb);have hcz11_0:w10.cell? ⟨gb141,0,none⟩=some (.int .i64 a1_0):=(blk_cell BK141.out 0).trans rfl;have hcz11_1:w10.cell? ⟨gb141,1,none⟩=some (.int .i64 a1_1):=(blk_cell BK141.out 1).trans rfl;have hfz11_0:=blk_frozen BK141.out 0;have hfz11_1:=blk_frozen BK141.out 1)|((with_reducible refine gate_callee (f:=50) rfl ?_);refine goesL_ (some 17) rfl rfl Try.func50 (by kernel_rfl) rfl #[.int .i64 a0, .agg #[.int .i64 a1_0, .int .i64 a1_1]] rfl (by (try simp only [List.map_toArray,List.map_cons,List.map_nil]);first|done|rfl|(simp only [List.length_drop,List.length_take];rfl)) ?_;(with_reducible refine (ratio_divide.calls k a0 a1_0 a1_1 t143 t144 true _ A5.out).mono ?_);rintro e w12 ⟨rfl,hb⟩;refine ⟨_,rfl,?_⟩;have n0_:=Am (blk_below (g:=gb141) (o:=.cells #[.int .i64 a1_0, .int .i64 a1_1] 27 (0,0)) (by (with_reducible repeat first|apply kN|apply kD|apply kA);exact BK141.out) hb);have n1_:=Am (below_step (by repeat (first|(with_reducible first|exact HB.out|apply bA|apply bN|apply bD|refine bS ?_ GE141.out)|exact HB.out)) hb);clear BK141 HB;have BK141:=n0_;have HB:=n1_;clear n0_ n1_;(try clear hb)))
    go_ret3
    exact ⟨by first|rfl|(simp [errW_none,errW_some] <;> rfl)|(simp [*,errW_none,errW_some] <;> rfl),by repeat (first|(with_reducible first|exact HB.out|apply bA|apply bN|apply bD|refine bS ?_ GE141.out)|exact HB.out)⟩
   ·rw [if_neg c7] at H
    have c7b0:decide (t143 < (-4611686018427387904))=false:=decide_eq_false c7
    clear c7
    simp only [Option.some.injEq,Prod.mk.injEq] at H
    obtain ⟨rfl,rfl,rfl⟩:=H
    go_enter Try.func56,Try.ntmps56
    go_wp2_with (first|((with_reducible refine gate_dst (N:=3) rfl ?_);refine box_event ?hg (N:=3) ?hd (cs:=#[.int .i64 a1_0, .int .i64 a1_1]) (t:=27) ?hr ?_;(case hd=>rfl);(case hg=>rfl);(case hr=>first|(go_simp;done)|(go_simp;rfl));intro gb141 hg w13 hbox hb;have n0_:=Am (below_step (by repeat (first|(with_reducible first|exact HB.out|apply bA|apply bN|apply bD)|exact HB.out)) hb);have n1_:=Am (hbox);have n2_:=Am ((by rw [hg];exact (below_size (by repeat (first|(with_reducible first|exact HB.out|apply bA|apply bN|apply bD)|exact HB.out))):w.heap.size≤gb141));have n3_:=Am ((by rw [hg];exact (below_size (by repeat (first|(with_reducible first|exact HB.out|apply bA|apply bN|apply bD)|exact HB.out))):w.heap.size≤gb141));clear HB;have HB:=n0_;have BK141:=n1_;have GW141:=n2_;have GE141:=n3_;clear n0_ n1_ n2_ n3_ hb hbox hg;have hcz14_0:w13.cell? ⟨gb141,0,none⟩=some (.int .i64 a1_0):=(blk_cell BK141.out 0).trans rfl;have hcz14_1:w13.cell? ⟨gb141,1,none⟩=some (.int .i64 a1_1):=(blk_cell BK141.out 1).trans rfl;have hfz14_0:=blk_frozen BK141.out 0;have hfz14_1:=blk_frozen BK141.out 1)|((with_reducible refine gate_callee (f:=49) rfl ?_);refine goesL_ (some 10) rfl rfl Try.func49 (by kernel_rfl) rfl #[.int .i64 a0, .agg #[.int .i64 a1_0, .int .i64 a1_1]] rfl (by (try simp only [List.map_toArray,List.map_cons,List.map_nil]);first|done|rfl|(simp only [List.length_drop,List.length_take];rfl)) ?_;(with_reducible refine (ratio_check.calls k a0 a1_0 a1_1 t142 _ A3.out).mono ?_);rintro e w15 ⟨rfl,hb⟩;refine ⟨_,rfl,?_⟩;have n0_:=Am (blk_below (g:=gb141) (o:=.cells #[.int .i64 a1_0, .int .i64 a1_1] 27 (0,0)) (by (with_reducible repeat first|apply kN|apply kD|apply kA);exact BK141.out) hb);have n1_:=Am (below_step (by repeat (first|(with_reducible first|exact HB.out|apply bA|apply bN|apply bD|refine bS ?_ GE141.out)|exact HB.out)) hb);clear BK141 HB;have BK141:=n0_;have HB:=n1_;clear n0_ n1_;(try clear hb);have hcz16_0:w15.cell? ⟨gb141,0,none⟩=some (.int .i64 a1_0):=(blk_cell BK141.out 0).trans rfl;have hcz16_1:w15.cell? ⟨gb141,1,none⟩=some (.int .i64 a1_1):=(blk_cell BK141.out 1).trans rfl;have hfz16_0:=blk_frozen BK141.out 0;have hfz16_1:=blk_frozen BK141.out 1)|((with_reducible refine gate_callee (f:=50) rfl ?_);refine goesL_ (some 17) rfl rfl Try.func50 (by kernel_rfl) rfl #[.int .i64 a0, .agg #[.int .i64 a1_0, .int .i64 a1_1]] rfl (by (try simp only [List.map_toArray,List.map_cons,List.map_nil]);first|done|rfl|(simp only [List.length_drop,List.length_take];rfl)) ?_;(with_reducible refine (ratio_divide.calls k a0 a1_0 a1_1 t143 t144 true _ A5.out).mono ?_);rintro e w17 ⟨rfl,hb⟩;refine ⟨_,rfl,?_⟩;have n0_:=Am (blk_below (g:=gb141) (o:=.cells #[.int .i64 a1_0, .int .i64 a1_1] 27 (0,0)) (by (with_reducible repeat first|apply kN|apply kD|apply kA);exact BK141.out) hb);have n1_:=Am (below_step (by repeat (first|(with_reducible first|exact HB.out|apply bA|apply bN|apply bD|refine bS ?_ GE141.out)|exact HB.out)) hb);clear BK141 HB;have BK141:=n0_;have HB:=n1_;clear n0_ n1_;(try clear hb)))
    go_ret3
    exact ⟨by first|rfl|(simp [errW_none,errW_some] <;> rfl)|(simp [*,errW_none,errW_some] <;> rfl),by repeat (first|(with_reducible first|exact HB.out|apply bA|apply bN|apply bD|refine bS ?_ GE141.out)|exact HB.out)⟩
  ·replace c6:=Bool.eq_false_iff.mpr c6
   subst c6
   have H1:(some (0,0,2))=some (r1,r2,r3):=by rw [if_neg (show ¬ (false=true) by decide)] at H;exact H
   clear H;have H:=H1;clear H1
   simp only [Option.some.injEq,Prod.mk.injEq] at H
   obtain ⟨rfl,rfl,rfl⟩:=H
   go_enter Try.func56,Try.ntmps56
   go_wp2_with (first|((with_reducible refine gate_dst (N:=3) rfl ?_);refine box_event ?hg (N:=3) ?hd (cs:=#[.int .i64 a1_0, .int .i64 a1_1]) (t:=27) ?hr ?_;(case hd=>rfl);(case hg=>rfl);(case hr=>first|(go_simp;done)|(go_simp;rfl));intro gb141 hg w18 hbox hb;have n0_:=Am (below_step (by repeat (first|(with_reducible first|exact HB.out|apply bA|apply bN|apply bD)|exact HB.out)) hb);have n1_:=Am (hbox);have n2_:=Am ((by rw [hg];exact (below_size (by repeat (first|(with_reducible first|exact HB.out|apply bA|apply bN|apply bD)|exact HB.out))):w.heap.size≤gb141));have n3_:=Am ((by rw [hg];exact (below_size (by repeat (first|(with_reducible first|exact HB.out|apply bA|apply bN|apply bD)|exact HB.out))):w.heap.size≤gb141));clear HB;have HB:=n0_;have BK141:=n1_;have GW141:=n2_;have GE141:=n3_;clear n0_ n1_ n2_ n3_ hb hbox hg;have hcz19_0:w18.cell? ⟨gb141,0,none⟩=some (.int .i64 a1_0):=(blk_cell BK141.out 0).trans rfl;have hcz19_1:w18.cell? ⟨gb141,1,none⟩=some (.int .i64 a1_1):=(blk_cell BK141.out 1).trans rfl;have hfz19_0:=blk_frozen BK141.out 0;have hfz19_1:=blk_frozen BK141.out 1)|((with_reducible refine gate_callee (f:=49) rfl ?_);refine goesL_ (some 10) rfl rfl Try.func49 (by kernel_rfl) rfl #[.int .i64 a0, .agg #[.int .i64 a1_0, .int .i64 a1_1]] rfl (by (try simp only [List.map_toArray,List.map_cons,List.map_nil]);first|done|rfl|(simp only [List.length_drop,List.length_take];rfl)) ?_;(with_reducible refine (ratio_check.calls k a0 a1_0 a1_1 t142 _ A3.out).mono ?_);rintro e w20 ⟨rfl,hb⟩;refine ⟨_,rfl,?_⟩;have n0_:=Am (blk_below (g:=gb141) (o:=.cells #[.int .i64 a1_0, .int .i64 a1_1] 27 (0,0)) (by (with_reducible repeat first|apply kN|apply kD|apply kA);exact BK141.out) hb);have n1_:=Am (below_step (by repeat (first|(with_reducible first|exact HB.out|apply bA|apply bN|apply bD|refine bS ?_ GE141.out)|exact HB.out)) hb);clear BK141 HB;have BK141:=n0_;have HB:=n1_;clear n0_ n1_;(try clear hb);have hcz21_0:w20.cell? ⟨gb141,0,none⟩=some (.int .i64 a1_0):=(blk_cell BK141.out 0).trans rfl;have hcz21_1:w20.cell? ⟨gb141,1,none⟩=some (.int .i64 a1_1):=(blk_cell BK141.out 1).trans rfl;have hfz21_0:=blk_frozen BK141.out 0;have hfz21_1:=blk_frozen BK141.out 1)|((with_reducible refine gate_callee (f:=50) rfl ?_);refine goesL_ (some 17) rfl rfl Try.func50 (by kernel_rfl) rfl #[.int .i64 a0, .agg #[.int .i64 a1_0, .int .i64 a1_1]] rfl (by (try simp only [List.map_toArray,List.map_cons,List.map_nil]);first|done|rfl|(simp only [List.length_drop,List.length_take];rfl)) ?_;(with_reducible refine (ratio_divide.calls k a0 a1_0 a1_1 t143 t144 false _ A5.out).mono ?_);rintro e w22 ⟨rfl,hb⟩;refine ⟨_,rfl,?_⟩;have n0_:=Am (blk_below (g:=gb141) (o:=.cells #[.int .i64 a1_0, .int .i64 a1_1] 27 (0,0)) (by (with_reducible repeat first|apply kN|apply kD|apply kA);exact BK141.out) hb);have n1_:=Am (below_step (by repeat (first|(with_reducible first|exact HB.out|apply bA|apply bN|apply bD|refine bS ?_ GE141.out)|exact HB.out)) hb);clear BK141 HB;have BK141:=n0_;have HB:=n1_;clear n0_ n1_;(try clear hb)))
   go_ret3
   exact ⟨by first|rfl|(simp [errW_none,errW_some] <;> rfl)|(simp [*,errW_none,errW_some] <;> rfl),by repeat (first|(with_reducible first|exact HB.out|apply bA|apply bN|apply bD|refine bS ?_ GE141.out)|exact HB.out)⟩
 ·rw [if_neg c4] at H
  have c4b0:(t142 == 0)=false:=beq_eq_false_iff_ne.mpr c4
  have c4b1:(t142 != 0)=true:=bne_iff_ne.mpr c4
  simp only [Option.some.injEq,Prod.mk.injEq] at H
  obtain ⟨rfl,rfl,rfl⟩:=H
  go_enter Try.func56,Try.ntmps56
  go_wp2_with (first|((with_reducible refine gate_dst (N:=3) rfl ?_);refine box_event ?hg (N:=3) ?hd (cs:=#[.int .i64 a1_0, .int .i64 a1_1]) (t:=27) ?hr ?_;(case hd=>rfl);(case hg=>rfl);(case hr=>first|(go_simp;done)|(go_simp;rfl));intro gb141 hg w23 hbox hb;have n0_:=Am (below_step (by repeat (first|(with_reducible first|exact HB.out|apply bA|apply bN|apply bD)|exact HB.out)) hb);have n1_:=Am (hbox);have n2_:=Am ((by rw [hg];exact (below_size (by repeat (first|(with_reducible first|exact HB.out|apply bA|apply bN|apply bD)|exact HB.out))):w.heap.size≤gb141));have n3_:=Am ((by rw [hg];exact (below_size (by repeat (first|(with_reducible first|exact HB.out|apply bA|apply bN|apply bD)|exact HB.out))):w.heap.size≤gb141));clear HB;have HB:=n0_;have BK141:=n1_;have GW141:=n2_;have GE141:=n3_;clear n0_ n1_ n2_ n3_ hb hbox hg;have hcz24_0:w23.cell? ⟨gb141,0,none⟩=some (.int .i64 a1_0):=(blk_cell BK141.out 0).trans rfl;have hcz24_1:w23.cell? ⟨gb141,1,none⟩=some (.int .i64 a1_1):=(blk_cell BK141.out 1).trans rfl;have hfz24_0:=blk_frozen BK141.out 0;have hfz24_1:=blk_frozen BK141.out 1)|((with_reducible refine gate_callee (f:=49) rfl ?_);refine goesL_ (some 10) rfl rfl Try.func49 (by kernel_rfl) rfl #[.int .i64 a0, .agg #[.int .i64 a1_0, .int .i64 a1_1]] rfl (by (try simp only [List.map_toArray,List.map_cons,List.map_nil]);first|done|rfl|(simp only [List.length_drop,List.length_take];rfl)) ?_;(with_reducible refine (ratio_check.calls k a0 a1_0 a1_1 t142 _ A3.out).mono ?_);rintro e w25 ⟨rfl,hb⟩;refine ⟨_,rfl,?_⟩;have n0_:=Am (blk_below (g:=gb141) (o:=.cells #[.int .i64 a1_0, .int .i64 a1_1] 27 (0,0)) (by (with_reducible repeat first|apply kN|apply kD|apply kA);exact BK141.out) hb);have n1_:=Am (below_step (by repeat (first|(with_reducible first|exact HB.out|apply bA|apply bN|apply bD|refine bS ?_ GE141.out)|exact HB.out)) hb);clear BK141 HB;have BK141:=n0_;have HB:=n1_;clear n0_ n1_;(try clear hb)))
  go_ret3
  exact ⟨by first|rfl|(simp [errW_none,errW_some] <;> rfl)|(simp [*,errW_none,errW_some] <;> rfl),by repeat (first|(with_reducible first|exact HB.out|apply bA|apply bN|apply bD|refine bS ?_ GE141.out)|exact HB.out)⟩

/-! ### ratio_Floor: function 48 -/
def ratio_Floor.f (k:Nat) (a0:Int) (a1_0:Int) (a1_1:Int):Option (Int × Int):=(ratio_both.f k a0 a1_0 a1_1).bind fun bt147=>(some (bt147.1,bt147.2.2))
theorem ratio_Floor.mono:∀ a0 a1 a2 k,LeO (ratio_Floor.f k a0 a1 a2) (ratio_Floor.f (k+1) a0 a1 a2):=by
 intro a0 a1 a2 k
 unfold ratio_Floor.f
 repeat' first
   | (with_reducible exact ratio_both.mono _ _ _ _)
   | (with_reducible exact LeO.refl _)
   | (with_reducible exact LeO.none _)
   | (with_reducible refine LeO.ite ?_ ?_)
   | (with_reducible refine LeO.bind ?_ (fun _=>?_))
   | exact ratio_both.mono _ _ _ _
   | exact LeO.none _
   | refine LeO.ite ?_ ?_
   | refine LeO.bind ?_ (fun _=>?_)
set_option maxHeartbeats 8000000 in
set_option maxRecDepth 100000 in
theorem ratio_Floor.calls (k:Nat) (a0:Int) (a1_0:Int) (a1_1:Int) (r1:Int) (r2:Int) (w:World) (h:ratio_Floor.f k a0 a1_0 a1_1=some (r1,r2)) :
  Calls Try.prog 48 #[.int .i64 a0, .agg #[.int .i64 a1_0, .int .i64 a1_1]] w fun e w'=>e=.returned (.tuple #[.int .i64 r1, .int .i64 r2])∧Below w.heap.size w w':=by
 have hu27:=Try.underlying27
 have HB:=Am (Below.refl w.heap.size w)
 have H:((ratio_both.f k a0 a1_0 a1_1).bind fun bt147=>(some (bt147.1,bt147.2.2)))=some (r1,r2):=h
 clear h
 replace H:=Option.bind_eq_some_iff.mp H
 obtain ⟨⟨t147,t148,t149⟩,A30,H⟩:=H
 replace H:(some (t147,t149))=some (r1,r2):=H
 have A3:=Am A30
 clear A30
 simp only [Option.some.injEq,Prod.mk.injEq] at H
 obtain ⟨rfl,rfl⟩:=H
 go_enter Try.func48,Try.ntmps48
 go_wp2_with (first|((with_reducible refine gate_dst (N:=3) rfl ?_);refine box_event ?hg (N:=3) ?hd (cs:=#[.int .i64 a1_0, .int .i64 a1_1]) (t:=27) ?hr ?_;(case hd=>rfl);(case hg=>rfl);(case hr=>first|(go_simp;done)|(go_simp;rfl));intro gb146 hg w4 hbox hb;have n0_:=Am (below_step (by repeat (first|(with_reducible first|exact HB.out|apply bA|apply bN|apply bD)|exact HB.out)) hb);have n1_:=Am (hbox);have n2_:=Am ((by rw [hg];exact (below_size (by repeat (first|(with_reducible first|exact HB.out|apply bA|apply bN|apply bD)|exact HB.out))):w.heap.size≤gb146));have n3_:=Am ((by rw [hg];exact (below_size (by repeat (first|(with_reducible first|exact HB.out|apply bA|apply bN|apply bD)|exact HB.out))):w.heap.size≤gb146));clear HB;have HB:=n0_;have BK146:=n1_;have GW146:=n2_;have GE146:=n3_;clear n0_ n1_ n2_ n3_ hb hbox hg;have hcz5_0:w4.cell? ⟨gb146,0,none⟩=some (.int .i64 a1_0):=(blk_cell BK146.out 0).trans rfl;have hcz5_1:w4.cell? ⟨gb146,1,none⟩=some (.int .i64 a1_1):=(blk_cell BK146.out 1).trans rfl;have hfz5_0:=blk_frozen BK146.out 0;have hfz5_1:=blk_frozen BK146.out 1)|((with_reducible refine gate_callee (f:=56) rfl ?_);refine goesL_ (some 12) rfl rfl Try.func56 (by kernel_rfl) rfl #[.int .i64 a0, .agg #[.int .i64 a1_0, .int .i64 a1_1]] rfl (by (try simp only [List.map_toArray,List.map_cons,List.map_nil]);first|done|rfl|(simp only [List.length_drop,List.length_take];rfl)) ?_;(with_reducible refine (ratio_both.calls k a0 a1_0 a1_1 t147 t148 t149 _ A3.out).mono ?_);rintro e w6 ⟨rfl,hb⟩;refine ⟨_,rfl,?_⟩;have n0_:=Am (blk_below (g:=gb146) (o:=.cells #[.int .i64 a1_0, .int .i64 a1_1] 27 (0,0)) (by (with_reducible repeat first|apply kN|apply kD|apply kA);exact BK146.out) hb);have n1_:=Am (below_step (by repeat (first|(with_reducible first|exact HB.out|apply bA|apply bN|apply bD|refine bS ?_ GE146.out)|exact HB.out)) hb);clear BK146 HB;have BK146:=n0_;have HB:=n1_;clear n0_ n1_;(try clear hb)))
 go_ret2
 exact ⟨by first|rfl|(simp [errW_none,errW_some] <;> rfl)|(simp [*,errW_none,errW_some] <;> rfl),by repeat (first|(with_reducible first|exact HB.out|apply bA|apply bN|apply bD|refine bS ?_ GE146.out)|exact HB.out)⟩

/-! ### clock_piece_at: function 37 -/
def clock_piece_at.f (k:Nat) (a0_0:Int) (a0_1:Int) (a0_2:Int) (a0_3:Int) (a0_4:Int) (a1:Int):Option (Int):=(ratio_Floor.f k (wrap64 (a1 - a0_0)) a0_1 a0_2).bind fun bt151=>(some (wrap64 (a0_4+bt151.1)))
theorem clock_piece_at.mono:∀ a0 a1 a2 a3 a4 a5 k,LeO (clock_piece_at.f k a0 a1 a2 a3 a4 a5) (clock_piece_at.f (k+1) a0 a1 a2 a3 a4 a5):=by
 intro a0 a1 a2 a3 a4 a5 k
 unfold clock_piece_at.f
 repeat' first
   | (with_reducible exact ratio_Floor.mono _ _ _ _)
   | (with_reducible exact LeO.refl _)
   | (with_reducible exact LeO.none _)
   | (with_reducible refine LeO.ite ?_ ?_)
   | (with_reducible refine LeO.bind ?_ (fun _=>?_))
   | exact ratio_Floor.mono _ _ _ _
   | exact LeO.none _
   | refine LeO.ite ?_ ?_
   | refine LeO.bind ?_ (fun _=>?_)
set_option maxHeartbeats 8000000 in
set_option maxRecDepth 100000 in
theorem clock_piece_at.calls (k:Nat) (a0_0:Int) (a0_1:Int) (a0_2:Int) (a0_3:Int) (a0_4:Int) (a1:Int) (r:Int) (w:World) (h:clock_piece_at.f k a0_0 a0_1 a0_2 a0_3 a0_4 a1=some r) :
  Calls Try.prog 37 #[.agg #[.int .i64 a0_0, .int .i64 a0_1, .int .i64 a0_2, .int .i64 a0_3, .int .i64 a0_4], .int .i64 a1] w fun e w'=>e=.returned (.int .i64 r)∧Below w.heap.size w w':=by
 have hu71:=Try.underlying71
 have hu27:=Try.underlying27
 have HB:=Am (Below.refl w.heap.size w)
 have H:((ratio_Floor.f k (wrap64 (a1 - a0_0)) a0_1 a0_2).bind fun bt151=>(some (wrap64 (a0_4+bt151.1))))=some r:=h
 clear h
 replace H:=Option.bind_eq_some_iff.mp H
 obtain ⟨⟨t151,t152⟩,A30,H⟩:=H
 replace H:(some (wrap64 (a0_4+t151)))=some r:=H
 have A3:=Am A30
 clear A30
 obtain rfl:=Option.some.inj H
 go_enter Try.func37,Try.ntmps37
 go_wp2_with (first|((with_reducible refine gate_dst (N:=2) rfl ?_);refine box_event ?hg (N:=2) ?hd (cs:=#[.int .i64 a0_0, .int .i64 a0_1, .int .i64 a0_2, .int .i64 a0_3, .int .i64 a0_4]) (t:=71) ?hr ?_;(case hd=>rfl);(case hg=>rfl);(case hr=>first|(go_simp;done)|(go_simp;rfl));intro gb150 hg w4 hbox hb;have n0_:=Am (below_step (by repeat (first|(with_reducible first|exact HB.out|apply bA|apply bN|apply bD)|exact HB.out)) hb);have n1_:=Am (hbox);have n2_:=Am ((by rw [hg];exact (below_size (by repeat (first|(with_reducible first|exact HB.out|apply bA|apply bN|apply bD)|exact HB.out))):w.heap.size≤gb150));have n3_:=Am ((by rw [hg];exact (below_size (by repeat (first|(with_reducible first|exact HB.out|apply bA|apply bN|apply bD)|exact HB.out))):w.heap.size≤gb150));clear HB;have HB:=n0_;have BK150:=n1_;have GW150:=n2_;have GE150:=n3_;clear n0_ n1_ n2_ n3_ hb hbox hg;have hcz5_0:w4.cell? ⟨gb150,0,none⟩=some (.int .i64 a0_0):=(blk_cell BK150.out 0).trans rfl;have hcz5_1:w4.cell? ⟨gb150,1,none⟩=some (.int .i64 a0_1):=(blk_cell BK150.out 1).trans rfl;have hcz5_2:w4.cell? ⟨gb150,2,none⟩=some (.int .i64 a0_2):=(blk_cell BK150.out 2).trans rfl;have hcz5_3:w4.cell? ⟨gb150,3,none⟩=some (.int .i64 a0_3):=(blk_cell BK150.out 3).trans rfl;have hcz5_4:w4.cell? ⟨gb150,4,none⟩=some (.int .i64 a0_4):=(blk_cell BK150.out 4).trans rfl;have hfz5_0:=blk_frozen BK150.out 0;have hfz5_1:=blk_frozen BK150.out 1;have hfz5_2:=blk_frozen BK150.out 2;have hfz5_3:=blk_frozen BK150.out 3;have hfz5_4:=blk_frozen BK150.out 4)|((with_reducible refine gate_callee (f:=48) rfl ?_);refine goesL_ (some 16) rfl rfl Try.func48 (by kernel_rfl) rfl #[.int .i64 (wrap64 (a1 - a0_0)), .agg #[.int .i64 a0_1, .int .i64 a0_2]] rfl (by (try simp only [List.map_toArray,List.map_cons,List.map_nil]);first|done|rfl|(simp only [List.length_drop,List.length_take];rfl)) ?_;(with_reducible refine (ratio_Floor.calls k (wrap64 (a1 - a0_0)) a0_1 a0_2 t151 t152 _ A3.out).mono ?_);rintro e w6 ⟨rfl,hb⟩;refine ⟨_,rfl,?_⟩;have n0_:=Am (blk_below (g:=gb150) (o:=.cells #[.int .i64 a0_0, .int .i64 a0_1, .int .i64 a0_2, .int .i64 a0_3, .int .i64 a0_4] 71 (0,0)) (by (with_reducible repeat first|apply kN|apply kD|apply kA);exact BK150.out) hb);have n1_:=Am (below_step (by repeat (first|(with_reducible first|exact HB.out|apply bA|apply bN|apply bD|refine bS ?_ GE150.out)|exact HB.out)) hb);clear BK150 HB;have BK150:=n0_;have HB:=n1_;clear n0_ n1_;(try clear hb);have hcz7_0:w6.cell? ⟨gb150,0,none⟩=some (.int .i64 a0_0):=(blk_cell BK150.out 0).trans rfl;have hcz7_1:w6.cell? ⟨gb150,1,none⟩=some (.int .i64 a0_1):=(blk_cell BK150.out 1).trans rfl;have hcz7_2:w6.cell? ⟨gb150,2,none⟩=some (.int .i64 a0_2):=(blk_cell BK150.out 2).trans rfl;have hcz7_3:w6.cell? ⟨gb150,3,none⟩=some (.int .i64 a0_3):=(blk_cell BK150.out 3).trans rfl;have hcz7_4:w6.cell? ⟨gb150,4,none⟩=some (.int .i64 a0_4):=(blk_cell BK150.out 4).trans rfl;have hfz7_0:=blk_frozen BK150.out 0;have hfz7_1:=blk_frozen BK150.out 1;have hfz7_2:=blk_frozen BK150.out 2;have hfz7_3:=blk_frozen BK150.out 3;have hfz7_4:=blk_frozen BK150.out 4))
 go_ret
 exact ⟨by first|rfl|(simp [errW_none,errW_some] <;> rfl)|(simp [*,errW_none,errW_some] <;> rfl),by repeat (first|(with_reducible first|exact HB.out|apply bA|apply bN|apply bD|refine bS ?_ GE150.out)|exact HB.out)⟩

end Go.Proofs.Ythnmmiofhjbkeaa.PA
