/- Walks of functions of the program: each does what its Lean function says. Written by a program of this session (wip/xprint), which runs the printer of the kit with changes. -/
import Derived.Test.YthnmmiofhjbkeaaPAx0
import Derived.Test.YthnmmiofhjbkeaaPAx14
namespace Go.Proofs.Ythnmmiofhjbkeaa.PA
open Go.RowKit Go.Proofs.YthnmmiofhjbkeaaW.PrintWords Go.Proofs.YthnmmiofhjbkeaaW.PrintLast Go.Proofs.YthnmmiofhjbkeaaW.PrintMore
attribute [local go_sem] max2_int min2_int max_two min_two max_three min_three max_four min_four   -- for this text's walks alone
set_option linter.unusedVariables false
set_option linter.unusedSimpArgs false


/-! ### soundservicemade_Dice_Next: function 32 -/
def soundservicemade_Dice_Next.f (s0_0:List Int) (a1:Int):Option (Int × List Int):=if (s0_0.length:Int)=0 then some (0,s0_0) else if a1≤1 then some (0,s0_0) else some (Int.tmod (wrap64 (rd s0_0 0)) a1,s0_0.drop 1)
set_option maxHeartbeats 1600000 in
set_option maxRecDepth 100000 in
theorem soundservicemade_Dice_Next.calls (g:Nat) (s0_0:List Int) (a1:Int) (r1:Int) (r2:List Int) (w0 w:World) (hI:IsS63 w0 w g s0_0) (hB:Below w0.heap.size w0 w) (h:soundservicemade_Dice_Next.f s0_0 a1=some (r1,r2)) :
    Calls Try.prog 32 #[.pointer (some ⟨g,0,none⟩), .int .i64 a1] w fun e w'=>e=.returned (.int .i64 r1)∧IsS63 w0 w' g r2∧Below w0.heap.size w0 w'∧KeepBut w w' g none:=by
  have hu:=Try.underlying63
  obtain ⟨A0,c0,hb,hg,hr,hc⟩:=hI
  have hcell:w.cell? ⟨g,0,none⟩=some (.slice A0 s0_0.length c0):=(blk_cell hb 0).trans rfl
  have hfr:=blk_frozen hb 0
  unfold soundservicemade_Dice_Next.f at h
  by_cases c1:(s0_0.length:Int)=0
  · rw [if_pos c1] at h
    simp only [Option.some.injEq,Prod.mk.injEq] at h
    obtain ⟨rfl,rfl⟩:=h
    have d1:((s0_0.length:Int) == 0)=true:=by simpa using c1
    have HH:=Aside0.mk (And.intro hb hr)
    clear c1 hb hr
    go_enter Try.func32,Try.ntmps32
    go_wp2
    go_ret
    exact ⟨rfl,⟨_,_,HH.out.1,hg,HH.out.2,hc⟩,hB,KeepBut.refl w g none⟩
  · rw [if_neg c1] at h
    have d1:((s0_0.length:Int) == 0)=false:=by simpa using c1
    by_cases c2:a1≤1
    · rw [if_pos c2] at h
      simp only [Option.some.injEq,Prod.mk.injEq] at h
      obtain ⟨rfl,rfl⟩:=h
      have d2:decide (a1≤1)=true:=decide_eq_true c2
      have HH:=Aside0.mk (And.intro hb hr)
      clear c1 c2 hb hr
      go_enter Try.func32,Try.ntmps32
      go_wp2
      go_ret
      exact ⟨rfl,⟨_,_,HH.out.1,hg,HH.out.2,hc⟩,hB,KeepBut.refl w g none⟩
    · rw [if_neg c2] at h
      simp only [Option.some.injEq,Prod.mk.injEq] at h
      obtain ⟨rfl,rfl⟩:=h
      have d2:decide (a1≤1)=false:=decide_eq_false c2
      have d3:(a1 == 0)=false:=by simpa using (show ¬ a1=0 by omega)
      have d4:¬ a1=0:=by omega
      have hlen:(0:Int) < s0_0.length:=by omega
      obtain ⟨ad,rfl,hx⟩:=Kd.at_int hr 0 (by omega) hlen
      have hx:=pw_cell_below hB hx
      rw [show ((0:Int)).toNat=0 from rfl,Addr.add_zero'] at hx
      obtain ⟨i0,hi0,_,hsz0,_⟩:=info_parts info5
      obtain ⟨A1,hcut,hA,hC⟩:=print_drop_of (P:=Try.prog) (Value.int .u8) 0 25 5 .i64 Try.underlying25 hi0 hsz0 (some ad) c0 s0_0 1 (by omega) (by omega) hc
      have hR:Kd.C (Kd.int .u8) w0 A1 (s0_0.drop ((1:Int)).toNat).length (s0_0.drop ((1:Int)).toNat):=Kd.C_of_reads (h1:=fun _=>rfl) (hA _ (Kd.reads_of_C hr))
      rw [show ((1:Int)).toNat=1 from rfl] at hcut hR hC
      have hl1:decide ((0:Int) < s0_0.length)=true:=decide_eq_true hlen
      have hl2:decide (0 < s0_0.length)=true:=decide_eq_true (by omega)
      have HH:=Aside0.mk (And.intro hb (And.intro hR hC))
      clear c1 c2 hb hr hA hR hC
      go_enter Try.func32,Try.ntmps32
      go_wp2
      go_ret
      refine ⟨rfl,⟨A1,c0 - 1,?_,hg,?_,?_⟩,hB.setCell hg _,(KeepBut.refl w g none).set_ 0 _⟩
      · have z:=blk_set HH.out.1 0 (.slice A1 (s0_0.length - 1) (c0 - 1))
        simpa using z
      · simpa using HH.out.2.1
      · simpa using HH.out.2.2

/-! ### soundservicemade_Rate: function 20 -/
def soundservicemade_Rate.f (s0_0:List Int):Option (Int × Int × List Int):=(some (([(⟨1,1⟩:S27),(⟨147,160⟩:S27),(⟨2,1⟩:S27),(⟨65537,65536⟩:S27),(⟨1,3⟩:S27),(⟨1024,1⟩:S27),(⟨1,1024⟩:S27),(⟨999,1000⟩:S27)]:List (S27)):List (S27))).bind fun y230=>((soundservicemade_Dice_Next.f s0_0 8).bind fun bt233=>(if 0≤bt233.1 then (if bt233.1 < (y230.length:Int) then (some ((rd_T27 y230 bt233.1).f0,(rd_T27 y230 bt233.1).f1,bt233.2)) else (none)) else (none)))
set_option maxHeartbeats 8000000 in
set_option maxRecDepth 100000 in
theorem soundservicemade_Rate.calls (g:Nat) (s0_0:List Int) (r1:Int) (r2:Int) (r3:List Int) (w0 w:World) (hI:IsS63 w0 w g s0_0) (hB:Below w0.heap.size w0 w) (h:soundservicemade_Rate.f s0_0=some (r1,r2,r3)) :
  Calls Try.prog 20 #[.pointer (some ⟨g,0,none⟩)] w fun e w'=>e=.returned (.agg #[.int .i64 r1, .int .i64 r2])∧IsS63 w0 w' g r3∧Below w0.heap.size w0 w'∧KeepBut w w' g none:=by
 have hu27:=Try.underlying27
 have HI0:=Am hI
 have HK:=Am (KeepBut.refl w g none)
 have HL:=Am hB.size
 clear hI
 have HW0:=Am hB.size
 have HB:=Am hB
 clear hB
 have H:((some (([(⟨1,1⟩:S27),(⟨147,160⟩:S27),(⟨2,1⟩:S27),(⟨65537,65536⟩:S27),(⟨1,3⟩:S27),(⟨1024,1⟩:S27),(⟨1,1024⟩:S27),(⟨999,1000⟩:S27)]:List (S27)):List (S27))).bind fun y230=>((soundservicemade_Dice_Next.f s0_0 8).bind fun bt233=>(if 0≤bt233.1 then (if bt233.1 < (y230.length:Int) then (some ((rd_T27 y230 bt233.1).f0,(rd_T27 y230 bt233.1).f1,bt233.2)) else (none)) else (none))))=some (r1,r2,r3):=h
 clear h
 obtain ⟨y230,hy230⟩:∃ y_:List (S27),y_=(([(⟨1,1⟩:S27),(⟨147,160⟩:S27),(⟨2,1⟩:S27),(⟨65537,65536⟩:S27),(⟨1,3⟩:S27),(⟨1024,1⟩:S27),(⟨1,1024⟩:S27),(⟨999,1000⟩:S27)]:List (S27))):=⟨_,rfl⟩
 replace H:((soundservicemade_Dice_Next.f s0_0 8).bind fun bt233=>(if 0≤bt233.1 then (if bt233.1 < (y230.length:Int) then (some ((rd_T27 y230 bt233.1).f0,(rd_T27 y230 bt233.1).f1,bt233.2)) else (none)) else (none)))=some (r1,r2,r3):=by first|(rw [hy230];with_reducible exact H)|(have H2_:=(Option.bind_some _ _).symm.trans H;rw [hy230];with_reducible exact H2_)|(have H2_:=(Option.bind_some _ _).symm.trans H;with_reducible exact H2_)|with_reducible exact H|(rw [hy230];exact H)|exact H
 have Ny230:=Am hy230
 clear hy230
 replace H:=Option.bind_eq_some_iff.mp H
 obtain ⟨⟨t233,t234⟩,A20,H⟩:=H
 replace H:(if 0≤t233 then (if t233 < (y230.length:Int) then (some ((rd_T27 y230 t233).f0,(rd_T27 y230 t233).f1,t234)) else (none)) else (none))=some (r1,r2,r3):=H
 have A2:=Am A20
 clear A20
 by_cases c3:0≤t233
 ·rw [if_pos c3] at H
  have c3b0:decide (0≤t233)=true:=decide_eq_true c3
  clear c3
  by_cases c4:t233 < (y230.length:Int)
  ·rw [if_pos c4] at H
   have c4b0:decide (t233 < (y230.length:Int))=true:=decide_eq_true c4
   clear c4
   simp only [Option.some.injEq,Prod.mk.injEq] at H
   obtain ⟨rfl,rfl,rfl⟩:=H
   go_enter Try.func20,Try.ntmps20
   go_wp2_with (first|((with_reducible refine gate_dst (N:=2) rfl ?_);refine box_event ?hg (N:=2) ?hd (cs:=#[.int .i64 0, .int .i64 0]) (t:=27) ?hr ?_;(case hd=>rfl);(case hg=>rfl);(case hr=>first|(go_simp;done)|(go_simp;rfl));intro gb229 hg w5 hbox hb;have n0_:=Am (IsS63.below (by repeat (first|(with_reducible first|exact HI0.out|apply IsS63.alloc|apply IsS63.drewN|apply IsS63.drew)|exact HI0.out)) hb);have n1_:=Am (KeepBut.trans (by repeat (first|(with_reducible first|exact HK.out|apply KeepBut.set_|apply keep_drewN|apply keep_drew|apply keep_alloc)|exact HK.out)) (KeepBut.of_below hb g none) (.inl rfl));have n2_:=Am (below_step (by repeat (first|(with_reducible first|exact HB.out|apply bA|apply bN|apply bD|refine bS ?_ (IsS63.ge HI0.out))|exact HB.out)) hb);have n3_:=Am (hbox);have n4_:=Am ((by rw [hg];exact (keep_size (w:=w) (g:=g) (row:=none) (by repeat (first|(with_reducible first|exact HK.out|apply KeepBut.set_|apply keep_drewN|apply keep_drew|apply keep_alloc)|exact HK.out))):w.heap.size≤gb229));have n5_:=Am ((Nat.le_trans HW0.out (by rw [hg];exact (keep_size (w:=w) (g:=g) (row:=none) (by repeat (first|(with_reducible first|exact HK.out|apply KeepBut.set_|apply keep_drewN|apply keep_drew|apply keep_alloc)|exact HK.out))):w.heap.size≤gb229):w0.heap.size≤gb229));have n6_:=Am ((by rw [hg];exact Nat.ne_of_lt (IsS63.lt (show IsS63 w0 _ g s0_0 from by repeat (first|(with_reducible first|exact HI0.out|apply IsS63.alloc|apply IsS63.drewN|apply IsS63.drew)|exact HI0.out))):g≠gb229));have n7_:=Am (n6_.out.symm);clear HI0 HK HB;have HI0:=n0_;have HK:=n1_;have HB:=n2_;have BK229:=n3_;have GW229:=n4_;have GE229:=n5_;have NB0_229:=n6_;have NB229_0:=n7_;clear n0_ n1_ n2_ n3_ n4_ n5_ n6_ n7_ hb hbox hg)|((with_reducible refine gate_dst (N:=11) rfl ?_);refine Kd.R_lit k27 _ 27 ?hg (N:=11) ?hd (xs:=([(⟨1,1⟩:S27),(⟨147,160⟩:S27),(⟨2,1⟩:S27),(⟨65537,65536⟩:S27),(⟨1,3⟩:S27),(⟨1024,1⟩:S27),(⟨1,1024⟩:S27),(⟨999,1000⟩:S27)]:List (S27))) (inner:=[.int .i64 1, .int .i64 1, .int .i64 147, .int .i64 160, .int .i64 2, .int .i64 1, .int .i64 65537, .int .i64 65536, .int .i64 1, .int .i64 3, .int .i64 1024, .int .i64 1, .int .i64 1, .int .i64 1024, .int .i64 999, .int .i64 1000]) (ok:=fun _=>True) (okp:=fun _=>True) ?hr ?hp (fun _ hk=>hk) trivial (Below.refl _ _) (Nat.le_refl _) (by simp) ?_;(case hd=>rfl);(case hg=>rfl);(case hr=>first|(go_simp;done)|(go_simp;rfl));(case hp=>exact (Reps.c2 (show Kd.M k27 _ _ _ (⟨1,1⟩:S27) [.int .i64 1, .int .i64 1] from (k27_mkM _ _ _ (⟨1,1⟩:S27) )) (Reps.c2 (show Kd.M k27 _ _ _ (⟨147,160⟩:S27) [.int .i64 147, .int .i64 160] from (k27_mkM _ _ _ (⟨147,160⟩:S27) )) (Reps.c2 (show Kd.M k27 _ _ _ (⟨2,1⟩:S27) [.int .i64 2, .int .i64 1] from (k27_mkM _ _ _ (⟨2,1⟩:S27) )) (Reps.c2 (show Kd.M k27 _ _ _ (⟨65537,65536⟩:S27) [.int .i64 65537, .int .i64 65536] from (k27_mkM _ _ _ (⟨65537,65536⟩:S27) )) (Reps.c2 (show Kd.M k27 _ _ _ (⟨1,3⟩:S27) [.int .i64 1, .int .i64 3] from (k27_mkM _ _ _ (⟨1,3⟩:S27) )) (Reps.c2 (show Kd.M k27 _ _ _ (⟨1024,1⟩:S27) [.int .i64 1024, .int .i64 1] from (k27_mkM _ _ _ (⟨1024,1⟩:S27) )) (Reps.c2 (show Kd.M k27 _ _ _ (⟨1,1024⟩:S27) [.int .i64 1, .int .i64 1024] from (k27_mkM _ _ _ (⟨1,1024⟩:S27) )) (Reps.c2 (show Kd.M k27 _ _ _ (⟨999,1000⟩:S27) [.int .i64 999, .int .i64 1000] from (k27_mkM _ _ _ (⟨999,1000⟩:S27) )) (Reps.none _ _))))))))));intro v231 w6 ho7 hb hg_ hnew_;clear hg_ hnew_;(first|rw [← Ny230.out] at ho7|(simp only [Int.reduceToNat] at ho7;rw [← Ny230.out] at ho7));have n0_:=Am (Kd.R_lower (Kd.R_newB ho7 (g:=gb229) (o:=.cells #[.int .i64 0, .int .i64 0] 27 (0,0)) (by (with_reducible repeat first|apply kN|apply kD|apply kA);exact BK229.out)) (keep_size (w:=w) (g:=g) (row:=none) (by repeat (first|(with_reducible first|exact HK.out|apply KeepBut.set_|apply keep_drewN|apply keep_drew|apply keep_alloc|refine keep_far ?_ GW229.out _)|exact HK.out))));have n1_:=Am (IsS63.below (by repeat (first|(with_reducible first|exact HI0.out|apply IsS63.alloc|apply IsS63.drewN|apply IsS63.drew|refine IsS63.far ?_ NB0_229.out _)|exact HI0.out)) hb);have n2_:=Am (blk_below (g:=gb229) (o:=.cells #[.int .i64 0, .int .i64 0] 27 (0,0)) (by (with_reducible repeat first|apply kN|apply kD|apply kA);exact BK229.out) hb);have n3_:=Am (KeepBut.trans (by repeat (first|(with_reducible first|exact HK.out|apply KeepBut.set_|apply keep_drewN|apply keep_drew|apply keep_alloc|refine keep_far ?_ GW229.out _)|exact HK.out)) (KeepBut.of_below hb g none) (.inl rfl));have n4_:=Am (below_step (by repeat (first|(with_reducible first|exact HB.out|apply bA|apply bN|apply bD|refine bS ?_ (IsS63.ge HI0.out)|refine bS ?_ GE229.out)|exact HB.out)) hb);clear HI0 BK229 HK HB;have HO232:=n0_;have HI0:=n1_;have BK229:=n2_;have HK:=n3_;have HB:=n4_;clear n0_ n1_ n2_ n3_ n4_ hb ho7)|((with_reducible refine gate_callee (f:=32) rfl ?_);refine goesL_ (some 13) rfl rfl Try.func32 (by kernel_rfl) rfl #[.pointer (some ⟨g,0,none⟩), .int .i64 8] rfl (by (try simp only [List.map_toArray,List.map_cons,List.map_nil]);first|done|rfl|(simp only [List.length_drop,List.length_take];rfl)) ?_;(with_reducible refine (soundservicemade_Dice_Next.calls g s0_0 8 t233 t234 w0 _ ?side1 ?side2 A2.out).mono ?_);(case side1=>repeat (first|(with_reducible first|exact HI0.out|apply IsS63.alloc|apply IsS63.drewN|apply IsS63.drew|refine IsS63.far ?_ NB0_229.out _)|exact HI0.out));(case side2=>repeat (first|(with_reducible first|exact HB.out|apply bA|apply bN|apply bD|refine bS ?_ (IsS63.ge HI0.out)|refine bS ?_ GE229.out)|exact HB.out));rintro e w8 ⟨rfl,hi,hb,hk⟩;refine ⟨_,rfl,?_⟩;have n0_:=Am (KeepBut.blk hk (g':=gb229) (o:=.cells #[.int .i64 0, .int .i64 0] 27 (0,0)) (by (with_reducible repeat first|apply kN|apply kD|apply kA);exact BK229.out) NB229_0.out (by simp));have n1_:=Am (Kd.R_mono (Kd.R_keep (IsS63.apart (show IsS63 w0 _ g s0_0 from by repeat (first|(with_reducible first|exact HI0.out|apply IsS63.alloc|apply IsS63.drewN|apply IsS63.drew|refine IsS63.far ?_ NB0_229.out _)|exact HI0.out)) (by (with_reducible repeat first|apply Kd.R_alloc|apply Kd.R_drewN|apply Kd.R_drew);exact HO232.out) (by decide)) hk (fun _ h=>h.2)) (fun _ h=>h.1));have n2_:=Am (KeepBut.trans (by repeat (first|(with_reducible first|exact HK.out|apply KeepBut.set_|apply keep_drewN|apply keep_drew|apply keep_alloc|refine keep_far ?_ GW229.out _)|exact HK.out)) hk (.inl rfl));have n3_:=Am (hb);have n4_:=Am (hi);clear BK229 HO232 HK HB HI0;have BK229:=n0_;have HO232:=n1_;have HK:=n2_;have HB:=n3_;have HI0:=n4_;clear n0_ n1_ n2_ n3_ n4_;(try clear hb);(try clear hk);(try clear hi);obtain ⟨Ao9,co9,eo9⟩:=Kd.R_slice HO232.out;subst eo9;have p235:0≤(t233:Int):=of_decide_eq_true (by first|(with_reducible assumption)|assumption);have q235:t233 < (y230.length:Int):=of_decide_eq_true (by first|(with_reducible assumption)|assumption);obtain ⟨ad235,e235,hx235_0,hx235_1⟩:=at_T27 (Kd.R_reads' HO232.out).2.2 t233 p235 q235;cases e235;replace p235:=eq_true p235;replace q235:=eq_true q235;have hnb10:=NB229_0.out;have hnc10:=NB0_229.out;have hcz11_0:w8.cell? ⟨gb229,0,none⟩=some (.int .i64 0):=(blk_cell BK229.out 0).trans rfl;have hcz11_1:w8.cell? ⟨gb229,1,none⟩=some (.int .i64 0):=(blk_cell BK229.out 1).trans rfl;have hfz11_0:=blk_frozen BK229.out 0;have hfz11_1:=blk_frozen BK229.out 1))
   refine bodyPost_ret (results_cell_row rfl _ _ gb229 27 #[.int .i64 ((rd_T27 y230 t233).f0), .int .i64 ((rd_T27 y230 t233).f1)] (0,0) _ rfl (by (with_reducible repeat first|apply kN|apply kD|apply kA);refine blk_put (cs:=#[.int .i64 ((rd_T27 y230 t233).f0), .int .i64 0]) ?_ 1 _ rfl;(with_reducible repeat first|apply kN|apply kD|apply kA);refine blk_put (cs:=#[.int .i64 0, .int .i64 0]) ?_ 0 _ rfl;(with_reducible repeat first|apply kN|apply kD|apply kA);exact BK229.out) Try.underlying27 rfl (by kernel_rfl)) rfl ?_
   exact ⟨by first|rfl|(simp [errW_none,errW_some] <;> rfl)|(simp [*,errW_none,errW_some] <;> rfl),by repeat (first|(with_reducible first|exact HI0.out|apply IsS63.alloc|apply IsS63.drewN|apply IsS63.drew|refine IsS63.far ?_ NB0_229.out _)|exact HI0.out),by repeat (first|(with_reducible first|exact HB.out|apply bA|apply bN|apply bD|refine bS ?_ (IsS63.ge HI0.out)|refine bS ?_ GE229.out)|exact HB.out),by repeat (first|(with_reducible first|exact HK.out|apply KeepBut.set_|apply keep_drewN|apply keep_drew|apply keep_alloc|refine keep_far ?_ GW229.out _)|exact HK.out)⟩
  ·rw [if_neg c4] at H
   exact absurd H (by simp)
 ·rw [if_neg c3] at H
  exact absurd H (by simp)

end Go.Proofs.Ythnmmiofhjbkeaa.PA
