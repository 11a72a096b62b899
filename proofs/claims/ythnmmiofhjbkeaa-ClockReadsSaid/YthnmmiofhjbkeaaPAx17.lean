/- Walks of functions of the program: each does what its Lean function says. Written by a program of this session (wip/xprint), which runs the printer of the kit with changes. -/
import Derived.Test.YthnmmiofhjbkeaaPAx0
import Derived.Test.YthnmmiofhjbkeaaPAx14
import Derived.Test.YthnmmiofhjbkeaaPAx15
import Derived.Test.YthnmmiofhjbkeaaPAx16
namespace Go.Proofs.Ythnmmiofhjbkeaa.PA
open Go.RowKit Go.Proofs.YthnmmiofhjbkeaaW.PrintWords Go.Proofs.YthnmmiofhjbkeaaW.PrintLast Go.Proofs.YthnmmiofhjbkeaaW.PrintMore
attribute [local go_sem] max2_int min2_int max_two min_two max_three min_three max_four min_four   -- for this text's walks alone
set_option linter.unusedVariables false
set_option linter.unusedSimpArgs false

/-! ### soundservicemade_Clock: function 29 -/
mutual
def soundservicemade_Clock.l0:Nat→Int→Int→List Int→List (S61)→Option ((List (S61)) × List Int)
 | 0,_,_,_,_=>none
 | k+1,x5,x6,x1000,x245000=>if x6 > 0 then ((soundservicemade_Dice_Next.f x1000 90).bind fun bt247=>((soundservicemade_Rate.f bt247.2).bind fun bt249=>((soundserviceref13_Change.f k x245000 (wrap64 (x5+(wrap64 (1+bt247.1)))) bt249.1 bt249.2.1).bind fun bt252=>(soundservicemade_Clock.j1 k (wrap64 (x5+(wrap64 (1+bt247.1)))) x6 (bt252.2 == 0) bt249.2.2 x245000 bt252.1)))) else (some (x245000,x1000))
def soundservicemade_Clock.j1:Nat→Int→Int→Bool→List Int→List (S61)→List (S61)→Option ((List (S61)) × List Int)
 | 0,_,_,_,_,_,_=>none
 | k+1,x5,x6,x35,x1000,x245000,x257000=>if x35=true then (soundservicemade_Clock.l0 k x5 (wrap64 (x6 - 1)) x1000 x257000) else (soundservicemade_Clock.l0 k x5 (wrap64 (x6 - 1)) x1000 x245000)
end
def soundservicemade_Clock.f (k:Nat) (s0_0:List Int):Option ((List (S61)) × List Int):=(soundservicemade_Rate.f s0_0).bind fun bt237=>((soundserviceref13_New.f k bt237.1 bt237.2.1).bind fun bt240=>((soundservicemade_Dice_Next.f bt237.2.2 5).bind fun bt245=>(soundservicemade_Clock.l0 k 0 bt245.1 bt245.2 bt240.1)))
theorem soundservicemade_Clock.mono_l:∀ k,(∀ y0 y1 y2 y3,LeO (soundservicemade_Clock.l0 k y0 y1 y2 y3) (soundservicemade_Clock.l0 (k+1) y0 y1 y2 y3))∧(∀ y0 y1 y2 y3 y4 y5,LeO (soundservicemade_Clock.j1 k y0 y1 y2 y3 y4 y5) (soundservicemade_Clock.j1 (k+1) y0 y1 y2 y3 y4 y5))
 | 0=>⟨fun _ _ _ _ r h=>by simp [soundservicemade_Clock.l0] at h,fun _ _ _ _ _ _ r h=>by simp [soundservicemade_Clock.j1] at h⟩
 | k+1=>by
  obtain ⟨ih0,ih1⟩:=soundservicemade_Clock.mono_l k
  refine ⟨?_,?_⟩
  ·intro y0 y1 y2 y3
   unfold soundservicemade_Clock.l0
   repeat' first
   | (with_reducible exact ih0 _ _ _ _)
   | (with_reducible exact ih1 _ _ _ _ _ _)
   | (with_reducible exact soundserviceref13_Change.mono _ _ _ _ _)
   | (with_reducible exact soundserviceref13_New.mono _ _ _)
   | (with_reducible exact LeO.refl _)
   | (with_reducible exact LeO.none _)
   | (with_reducible refine LeO.ite ?_ ?_)
   | (with_reducible refine LeO.bind ?_ (fun _=>?_))
   | exact ih0 _ _ _ _
   | exact ih1 _ _ _ _ _ _
   | exact soundserviceref13_Change.mono _ _ _ _ _
   | exact soundserviceref13_New.mono _ _ _
   | exact LeO.none _
   | refine LeO.ite ?_ ?_
   | refine LeO.bind ?_ (fun _=>?_)
  ·intro y0 y1 y2 y3 y4 y5
   unfold soundservicemade_Clock.j1
   repeat' first
   | (with_reducible exact ih0 _ _ _ _)
   | (with_reducible exact ih1 _ _ _ _ _ _)
   | (with_reducible exact soundserviceref13_Change.mono _ _ _ _ _)
   | (with_reducible exact soundserviceref13_New.mono _ _ _)
   | (with_reducible exact LeO.refl _)
   | (with_reducible exact LeO.none _)
   | (with_reducible refine LeO.ite ?_ ?_)
   | (with_reducible refine LeO.bind ?_ (fun _=>?_))
   | exact ih0 _ _ _ _
   | exact ih1 _ _ _ _ _ _
   | exact soundserviceref13_Change.mono _ _ _ _ _
   | exact soundserviceref13_New.mono _ _ _
   | exact LeO.none _
   | refine LeO.ite ?_ ?_
   | refine LeO.bind ?_ (fun _=>?_)
theorem soundservicemade_Clock.mono:∀ a0 k,LeO (soundservicemade_Clock.f k a0) (soundservicemade_Clock.f (k+1) a0):=by
 intro a0 k
 obtain ⟨ih0,ih1⟩:=soundservicemade_Clock.mono_l k
 unfold soundservicemade_Clock.f
 repeat' first
   | (with_reducible exact ih0 _ _ _ _)
   | (with_reducible exact ih1 _ _ _ _ _ _)
   | (with_reducible exact soundserviceref13_Change.mono _ _ _ _ _)
   | (with_reducible exact soundserviceref13_New.mono _ _ _)
   | (with_reducible exact LeO.refl _)
   | (with_reducible exact LeO.none _)
   | (with_reducible refine LeO.ite ?_ ?_)
   | (with_reducible refine LeO.bind ?_ (fun _=>?_))
   | exact ih0 _ _ _ _
   | exact ih1 _ _ _ _ _ _
   | exact soundserviceref13_Change.mono _ _ _ _ _
   | exact soundserviceref13_New.mono _ _ _
   | exact LeO.none _
   | refine LeO.ite ?_ ?_
   | refine LeO.bind ?_ (fun _=>?_)
def soundservicemade_Clock.T7:Bool × List (List Nat × List Nat):=(true, [([], []),([], []),([], []),([2], [2]),([0,1,3,3], [0,1,3]),([4], [4]),([5], [5]),([5], [5]),([], []),([8,6,4,0,1,2,3,4,5,6,8], [6,8]),([7,9,0,1,2,3,4,5,6,7,8,9], [7])])
def soundservicemade_Clock.B7:List Nat:=[0,0,0,4,15,31,63,63,0,383,1023]
theorem soundservicemade_Clock.tab7:rtab .any (opsOf Try.f29 7)=soundservicemade_Clock.T7:=by kernel_rfl
theorem soundservicemade_Clock.bits7:waitsOk soundservicemade_Clock.T7.2 soundservicemade_Clock.B7=true:=by kernel_rfl
abbrev soundservicemade_Clock.q0:Array Bool:=#[false,false,false,false,false,false,false,false,false,false,false]
abbrev soundservicemade_Clock.q1:Array Bool:=#[false,true,false,false,false,false,false,false,false,false,false]
abbrev soundservicemade_Clock.q2:Array Bool:=#[false,true,true,false,false,false,false,false,false,false,false]
abbrev soundservicemade_Clock.q3:Array Bool:=#[true,true,true,false,false,false,false,false,false,false,false]
abbrev soundservicemade_Clock.q4:Array Bool:=#[true,true,true,true,true,true,true,true,true,false,false]
abbrev soundservicemade_Clock.q5:Array Bool:=#[true,true,true,true,false,false,false,false,false,false,false]
abbrev soundservicemade_Clock.q6:Array Bool:=#[true,true,true,false,false,false,false,false,true,false,false]
abbrev soundservicemade_Clock.q7:Array Bool:=#[true,true,true,true,true,false,false,false,false,false,false]
abbrev soundservicemade_Clock.q8:Array Bool:=#[true,true,true,true,false,false,false,false,true,false,false]
abbrev soundservicemade_Clock.q9:Array Bool:=#[true,true,true,true,true,true,false,false,false,false,false]
abbrev soundservicemade_Clock.q10:Array Bool:=#[true,true,true,true,true,true,true,false,false,false,false]
abbrev soundservicemade_Clock.q11:Array Bool:=#[true,true,true,true,true,true,true,true,false,false,false]
abbrev soundservicemade_Clock.q12:Array Bool:=#[true,true,true,true,true,false,false,false,true,false,false]
abbrev soundservicemade_Clock.q13:Array Bool:=#[true,true,true,true,true,true,false,false,true,false,false]
abbrev soundservicemade_Clock.q14:Array Bool:=#[true,true,true,true,true,true,true,false,true,false,false]
abbrev soundservicemade_Clock.q15:Array Bool:=#[true,true,true,true,true,true,true,true,true,true,false]
abbrev soundservicemade_Clock.q16:Array Bool:=#[true,true,true,true,true,true,true,true,true,true,true]
set_option maxHeartbeats 8000000 in
set_option maxRecDepth 100000 in
theorem soundservicemade_Clock.calls (k:Nat) (g:Nat) (s0_0:List Int) (r1:List (S61)) (r2:List Int) (w0 w:World) (hI:IsS63 w0 w g s0_0) (hB:Below w0.heap.size w0 w) (h:soundservicemade_Clock.f k s0_0=some (r1,r2)) :
  Calls Try.prog 29 #[.pointer (some ⟨g,0,none⟩)] w fun e w'=>∃ v0_:Value,e=.returned (.agg #[v0_])∧Kd.R k61 61 w' w.heap.size (fun _=>True) v0_ r1∧IsS63 w0 w' g r2∧Below w0.heap.size w0 w'∧KeepBut w w' g none:=by
 have hu24:=Try.underlying24
 have HI0:=Am hI
 have HK:=Am (KeepBut.refl w g none)
 have HL:=Am hB.size
 clear hI
 have HW0:=Am hB.size
 have HB:=Am hB
 clear hB
 have H:((soundservicemade_Rate.f s0_0).bind fun bt237=>((soundserviceref13_New.f k bt237.1 bt237.2.1).bind fun bt240=>((soundservicemade_Dice_Next.f bt237.2.2 5).bind fun bt245=>(soundservicemade_Clock.l0 k 0 bt245.1 bt245.2 bt240.1))))=some (r1,r2):=h
 clear h
 replace H:=Option.bind_eq_some_iff.mp H
 obtain ⟨⟨t237,t238,t239⟩,A20,H⟩:=H
 replace H:((soundserviceref13_New.f k t237 t238).bind fun bt240=>((soundservicemade_Dice_Next.f t239 5).bind fun bt245=>(soundservicemade_Clock.l0 k 0 bt245.1 bt245.2 bt240.1)))=some (r1,r2):=H
 have A2:=Am A20
 clear A20
 replace H:=Option.bind_eq_some_iff.mp H
 obtain ⟨⟨t240,t243⟩,A30,H⟩:=H
 replace H:((soundservicemade_Dice_Next.f t239 5).bind fun bt245=>(soundservicemade_Clock.l0 k 0 bt245.1 bt245.2 t240))=some (r1,r2):=H
 have A3:=Am A30
 clear A30
 replace H:=Option.bind_eq_some_iff.mp H
 obtain ⟨⟨t245,t246⟩,A40,H⟩:=H
 replace H:(soundservicemade_Clock.l0 k 0 t245 t246 t240)=some (r1,r2):=H
 have A4:=Am A40
 clear A40
 have H':=Am H
 clear H
 go_enter Try.func29,Try.ntmps29
 go_wp2_with (first|((with_reducible refine gate_dst (N:=2) rfl ?_);refine box_event ?hg (N:=2) ?hd (cs:=#[.slice none 0 0]) (t:=24) ?hr ?_;(case hd=>rfl);(case hg=>rfl);(case hr=>first|(go_simp;done)|(go_simp;rfl));intro gb236 hg w5 hbox hb;have n0_:=Am (IsS63.below (by repeat (first|(with_reducible first|exact HI0.out|apply IsS63.alloc|apply IsS63.drewN|apply IsS63.drew)|exact HI0.out)) hb);have n1_:=Am (KeepBut.trans (by repeat (first|(with_reducible first|exact HK.out|apply KeepBut.set_|apply keep_drewN|apply keep_drew|apply keep_alloc)|exact HK.out)) (KeepBut.of_below hb g none) (.inl rfl));have n2_:=Am (below_step (by repeat (first|(with_reducible first|exact HB.out|apply bA|apply bN|apply bD|refine bS ?_ (IsS63.ge HI0.out))|exact HB.out)) hb);have n3_:=Am (hbox);have n4_:=Am ((by rw [hg];exact (keep_size (w:=w) (g:=g) (row:=none) (by repeat (first|(with_reducible first|exact HK.out|apply KeepBut.set_|apply keep_drewN|apply keep_drew|apply keep_alloc)|exact HK.out))):w.heap.size≤gb236));have n5_:=Am ((Nat.le_trans HW0.out (by rw [hg];exact (keep_size (w:=w) (g:=g) (row:=none) (by repeat (first|(with_reducible first|exact HK.out|apply KeepBut.set_|apply keep_drewN|apply keep_drew|apply keep_alloc)|exact HK.out))):w.heap.size≤gb236):w0.heap.size≤gb236));have n6_:=Am ((by rw [hg];exact Nat.ne_of_lt (IsS63.lt (show IsS63 w0 _ g s0_0 from by repeat (first|(with_reducible first|exact HI0.out|apply IsS63.alloc|apply IsS63.drewN|apply IsS63.drew)|exact HI0.out))):g≠gb236));have n7_:=Am (n6_.out.symm);clear HI0 HK HB;have HI0:=n0_;have HK:=n1_;have HB:=n2_;have BK236:=n3_;have GW236:=n4_;have GE236:=n5_;have NB0_236:=n6_;have NB236_0:=n7_;clear n0_ n1_ n2_ n3_ n4_ n5_ n6_ n7_ hb hbox hg)|((with_reducible refine gate_callee (f:=20) rfl ?_);refine goesL_ (some 11) rfl rfl Try.func20 (by kernel_rfl) rfl #[.pointer (some ⟨g,0,none⟩)] rfl (by (try simp only [List.map_toArray,List.map_cons,List.map_nil]);first|done|rfl|(simp only [List.length_drop,List.length_take];rfl)) ?_;(with_reducible refine (soundservicemade_Rate.calls g s0_0 t237 t238 t239 w0 _ ?side1 ?side2 A2.out).mono ?_);(case side1=>repeat (first|(with_reducible first|exact HI0.out|apply IsS63.alloc|apply IsS63.drewN|apply IsS63.drew|refine IsS63.far ?_ NB0_236.out _)|exact HI0.out));(case side2=>repeat (first|(with_reducible first|exact HB.out|apply bA|apply bN|apply bD|refine bS ?_ (IsS63.ge HI0.out)|refine bS ?_ GE236.out)|exact HB.out));rintro e w6 ⟨rfl,hi,hb,hk⟩;refine ⟨_,rfl,?_⟩;have n0_:=Am (KeepBut.blk hk (g':=gb236) (o:=.cells #[.slice none 0 0] 24 (0,0)) (by (with_reducible repeat first|apply kN|apply kD|apply kA);exact BK236.out) NB236_0.out (by simp));have n1_:=Am (KeepBut.trans (by repeat (first|(with_reducible first|exact HK.out|apply KeepBut.set_|apply keep_drewN|apply keep_drew|apply keep_alloc|refine keep_far ?_ GW236.out _)|exact HK.out)) hk (.inl rfl));have n2_:=Am (hb);have n3_:=Am (hi);clear BK236 HK HB HI0;have BK236:=n0_;have HK:=n1_;have HB:=n2_;have HI0:=n3_;clear n0_ n1_ n2_ n3_;(try clear hb);(try clear hk);(try clear hi))|((with_reducible refine gate_callee (f:=12) rfl ?_);refine goesL_ (some 12) rfl rfl Try.func12 (by kernel_rfl) rfl #[.agg #[.int .i64 t237, .int .i64 t238]] rfl (by (try simp only [List.map_toArray,List.map_cons,List.map_nil]);first|done|rfl|(simp only [List.length_drop,List.length_take];rfl)) ?_;(with_reducible refine (soundserviceref13_New.calls k t237 t238 t240 t243 _ A3.out).mono ?_);rintro e w7 ⟨v241,rfl,ho0,hb⟩;refine ⟨_,rfl,?_⟩;have n0_:=Am (Kd.R_lower ho0 (keep_size (w:=w) (g:=g) (row:=none) (by repeat (first|(with_reducible first|exact HK.out|apply KeepBut.set_|apply keep_drewN|apply keep_drew|apply keep_alloc|refine keep_far ?_ GW236.out _)|exact HK.out))));have n1_:=Am (IsS63.below (by repeat (first|(with_reducible first|exact HI0.out|apply IsS63.alloc|apply IsS63.drewN|apply IsS63.drew|refine IsS63.far ?_ NB0_236.out _)|exact HI0.out)) hb);have n2_:=Am (blk_below (g:=gb236) (o:=.cells #[.slice none 0 0] 24 (0,0)) (by (with_reducible repeat first|apply kN|apply kD|apply kA);exact BK236.out) hb);have n3_:=Am (KeepBut.trans (by repeat (first|(with_reducible first|exact HK.out|apply KeepBut.set_|apply keep_drewN|apply keep_drew|apply keep_alloc|refine keep_far ?_ GW236.out _)|exact HK.out)) (KeepBut.of_below hb g none) (.inl rfl));have n4_:=Am (below_step (by repeat (first|(with_reducible first|exact HB.out|apply bA|apply bN|apply bD|refine bS ?_ (IsS63.ge HI0.out)|refine bS ?_ GE236.out)|exact HB.out)) hb);clear HI0 BK236 HK HB;have HO242:=n0_;have HI0:=n1_;have BK236:=n2_;have HK:=n3_;have HB:=n4_;clear n0_ n1_ n2_ n3_ n4_;(try clear hb);(try clear hk);(try clear hi);(try clear ho0))|((with_reducible refine gate_dst (N:=3) rfl ?_);refine box_event ?hg (N:=3) ?hd (cs:=#[.slice none 0 0]) (t:=24) ?hr ?_;(case hd=>rfl);(case hg=>rfl);(case hr=>first|(go_simp;done)|(go_simp;rfl));intro gb244 hg w8 hbox hb;have n0_:=Am (Kd.R_below (by (with_reducible repeat first|apply Kd.R_alloc|apply Kd.R_drewN|apply Kd.R_drew);exact HO242.out) hb);have n1_:=Am (IsS63.below (by repeat (first|(with_reducible first|exact HI0.out|apply IsS63.alloc|apply IsS63.drewN|apply IsS63.drew|refine IsS63.far ?_ NB0_236.out _)|exact HI0.out)) hb);have n2_:=Am (blk_below (g:=gb236) (o:=.cells #[.slice none 0 0] 24 (0,0)) (by (with_reducible repeat first|apply kN|apply kD|apply kA);exact BK236.out) hb);have n3_:=Am (KeepBut.trans (by repeat (first|(with_reducible first|exact HK.out|apply KeepBut.set_|apply keep_drewN|apply keep_drew|apply keep_alloc|refine keep_far ?_ GW236.out _)|exact HK.out)) (KeepBut.of_below hb g none) (.inl rfl));have n4_:=Am (below_step (by repeat (first|(with_reducible first|exact HB.out|apply bA|apply bN|apply bD|refine bS ?_ (IsS63.ge HI0.out)|refine bS ?_ GE236.out)|exact HB.out)) hb);have n5_:=Am (hbox);have n6_:=Am ((by rw [hg];exact (keep_size (w:=w) (g:=g) (row:=none) (by repeat (first|(with_reducible first|exact HK.out|apply KeepBut.set_|apply keep_drewN|apply keep_drew|apply keep_alloc|refine keep_far ?_ GW236.out _)|exact HK.out))):w.heap.size≤gb244));have n7_:=Am ((Nat.le_trans HW0.out (by rw [hg];exact (keep_size (w:=w) (g:=g) (row:=none) (by repeat (first|(with_reducible first|exact HK.out|apply KeepBut.set_|apply keep_drewN|apply keep_drew|apply keep_alloc|refine keep_far ?_ GW236.out _)|exact HK.out))):w.heap.size≤gb244):w0.heap.size≤gb244));have n8_:=Am ((by rw [hg];exact Nat.ne_of_lt (blk_lt (g:=gb236) (o:=.cells #[.slice none 0 0] 24 (0,0)) (by (with_reducible repeat first|apply kN|apply kD|apply kA);exact BK236.out)):gb236≠gb244));have n9_:=Am (n8_.out.symm);have n10_:=Am ((by rw [hg];exact Nat.ne_of_lt (IsS63.lt (show IsS63 w0 _ g t239 from by repeat (first|(with_reducible first|exact HI0.out|apply IsS63.alloc|apply IsS63.drewN|apply IsS63.drew|refine IsS63.far ?_ NB0_236.out _)|exact HI0.out))):g≠gb244));have n11_:=Am (n10_.out.symm);clear HO242 HI0 BK236 HK HB;have HO242:=n0_;have HI0:=n1_;have BK236:=n2_;have HK:=n3_;have HB:=n4_;have BK244:=n5_;have GW244:=n6_;have GE244:=n7_;have NB236_244:=n8_;have NB244_236:=n9_;have NB0_244:=n10_;have NB244_0:=n11_;clear n0_ n1_ n2_ n3_ n4_ n5_ n6_ n7_ n8_ n9_ n10_ n11_ hb hbox hg;obtain ⟨Ao9,co9,eo9⟩:=Kd.R_slice HO242.out;subst eo9;have hnb10:=NB244_236.out;have hnc10:=NB236_244.out;have hnb11:=NB244_0.out;have hnc11:=NB0_244.out;have hcz12_0:w8.cell? ⟨gb244,0,none⟩=some (.slice none 0 0):=(blk_cell BK244.out 0).trans rfl;have hfz12_0:=blk_frozen BK244.out 0)|((with_reducible refine gate_callee (f:=32) rfl ?_);refine goesL_ (some 16) rfl rfl Try.func32 (by kernel_rfl) rfl #[.pointer (some ⟨g,0,none⟩), .int .i64 5] rfl (by (try simp only [List.map_toArray,List.map_cons,List.map_nil]);first|done|rfl|(simp only [List.length_drop,List.length_take];rfl)) ?_;(with_reducible refine (soundservicemade_Dice_Next.calls g t239 5 t245 t246 w0 _ ?side1 ?side2 A4.out).mono ?_);(case side1=>repeat (first|(with_reducible first|exact HI0.out|apply IsS63.alloc|apply IsS63.drewN|apply IsS63.drew|refine IsS63.far ?_ NB0_236.out _|refine IsS63.far ?_ NB0_244.out _)|exact HI0.out));(case side2=>repeat (first|(with_reducible first|exact HB.out|apply bA|apply bN|apply bD|refine bS ?_ (IsS63.ge HI0.out)|refine bS ?_ GE236.out|refine bS ?_ GE244.out)|exact HB.out));rintro e w13 ⟨rfl,hi,hb,hk⟩;refine ⟨_,rfl,?_⟩;have n0_:=Am (KeepBut.blk hk (g':=gb236) (o:=.cells #[.slice none 0 0] 24 (0,0)) (by (with_reducible repeat first|apply kN|apply kD|apply kA);refine blk_far ?_ NB236_244.out _;(with_reducible repeat first|apply kN|apply kD|apply kA);exact BK236.out) NB236_0.out (by simp));have n1_:=Am (Kd.R_mono (Kd.R_keep (IsS63.apart (show IsS63 w0 _ g t239 from by repeat (first|(with_reducible first|exact HI0.out|apply IsS63.alloc|apply IsS63.drewN|apply IsS63.drew|refine IsS63.far ?_ NB0_236.out _|refine IsS63.far ?_ NB0_244.out _)|exact HI0.out)) (by (with_reducible repeat first|apply Kd.R_alloc|apply Kd.R_drewN|apply Kd.R_drew);exact (Kd.R_mono (Kd.R_far (p:=⟨gb244,0,none⟩) (Kd.R_types HO242.out BK244.out (by decide)) (fun _ hk=>hk.2) (.slice Ao9 t240.length co9)) (fun _ h_=>h_.1))) (by decide)) hk (fun _ h=>h.2)) (fun _ h=>h.1));have n2_:=Am (KeepBut.blk hk (g':=gb244) (o:=.cells #[.slice Ao9 t240.length co9] 24 (0,0)) (by (with_reducible repeat first|apply kN|apply kD|apply kA);refine blk_put (cs:=#[.slice none 0 0]) ?_ 0 _ rfl;(with_reducible repeat first|apply kN|apply kD|apply kA);exact BK244.out) NB244_0.out (by simp));have n3_:=Am (KeepBut.trans (by repeat (first|(with_reducible first|exact HK.out|apply KeepBut.set_|apply keep_drewN|apply keep_drew|apply keep_alloc|refine keep_far ?_ GW236.out _|refine keep_far ?_ GW244.out _)|exact HK.out)) hk (.inl rfl));have n4_:=Am (hb);have n5_:=Am (hi);clear BK236 HO242 BK244 HK HB HI0;have BK236:=n0_;have HO242:=n1_;have BK244:=n2_;have HK:=n3_;have HB:=n4_;have HI0:=n5_;clear n0_ n1_ n2_ n3_ n4_ n5_;(try clear hb);(try clear hk);(try clear hi)))
 go_loopg [5,6] k (fun kq v5 v6 w'=>∃ (x5_1:Int) (x6_1:Int) (x1000_1:List Int) (x245000_1:List (S61)) (u1000:Value) (u245000:Value),v5=.int .i64 x5_1∧v6=.int .i64 x6_1∧Aside0 (soundservicemade_Clock.l0 kq x5_1 x6_1 x1000_1 x245000_1=some (r1,r2))∧Aside0 (kq≤k)∧Aside0 (Kd.R k61 61 w' w.heap.size (fun _=>True) u245000 x245000_1)∧Aside0 (w'.heap[gb236]?=some (.cells #[(.slice none 0 0)] 24 (0,0)))∧Aside0 (w'.heap[gb244]?=some (.cells #[u245000] 24 (0,0)))∧Aside0 (IsS63 w0 w' g x1000_1)∧Aside0 (KeepBut w w' g none)∧Aside0 (Below w0.heap.size w0 w'))
 case atStart=>exact ⟨(0),(t245),(t246),(t240),(undef),(.slice Ao9 t240.length co9),(by first|rfl|(simp;done)|(simp [*];done)),(by first|rfl|(simp;done)|(simp [*];done)),H',⟨Nat.le_refl _⟩,⟨by (with_reducible repeat first|apply Kd.R_alloc|apply Kd.R_drewN|apply Kd.R_drew);exact HO242.out⟩,⟨by (with_reducible repeat first|apply kN|apply kD|apply kA);exact BK236.out⟩,⟨by (with_reducible repeat first|apply kN|apply kD|apply kA);exact BK244.out⟩,⟨by repeat (first|(with_reducible first|exact HI0.out|apply IsS63.alloc|apply IsS63.drewN|apply IsS63.drew|refine IsS63.far ?_ NB0_236.out _|refine IsS63.far ?_ NB0_244.out _)|exact HI0.out)⟩,⟨by repeat (first|(with_reducible first|exact HK.out|apply KeepBut.set_|apply keep_drewN|apply keep_drew|apply keep_alloc|refine keep_far ?_ GW236.out _|refine keep_far ?_ GW244.out _)|exact HK.out)⟩,⟨by repeat (first|(with_reducible first|exact HB.out|apply bA|apply bN|apply bD|refine bS ?_ (IsS63.ge HI0.out)|refine bS ?_ GE236.out|refine bS ?_ GE244.out)|exact HB.out)⟩⟩
 case round =>
  clear H'
  (try clear c1);(try clear c2);(try clear p2);(try clear c3);(try clear c10);(try clear c11);(try clear c12);(try clear hcz12_0);(try clear hfz12_0)
  obtain ⟨x5_1,x6_1,x1000_1,x245000_1,u1000,u245000,rfl,rfl,HA,HK1,HO_245000,BK236,BK244,HI0,HK,HB⟩:=hrel
  cases gk with
  | zero=>exact absurd HA.out (by simp [soundservicemade_Clock.l0])
  | succ k1 =>
   have H:=HA.out
   clear HA
   simp only [soundservicemade_Clock.l0] at H
   by_cases c14:x6_1 > 0
   ·rw [if_pos c14] at H
    have c14b0:decide (0 < x6_1)=true:=decide_eq_true c14
    clear c14
    replace H:=Option.bind_eq_some_iff.mp H
    obtain ⟨⟨t247,t248⟩,A150,H⟩:=H
    replace H:((soundservicemade_Rate.f t248).bind fun bt249=>((soundserviceref13_Change.f k1 x245000_1 (wrap64 (x5_1+(wrap64 (1+t247)))) bt249.1 bt249.2.1).bind fun bt252=>(soundservicemade_Clock.j1 k1 (wrap64 (x5_1+(wrap64 (1+t247)))) x6_1 (bt252.2 == 0) bt249.2.2 x245000_1 bt252.1)))=some (r1,r2):=H
    have A15:=Am A150
    clear A150
    replace H:=Option.bind_eq_some_iff.mp H
    obtain ⟨⟨t249,t250,t251⟩,A160,H⟩:=H
    replace H:((soundserviceref13_Change.f k1 x245000_1 (wrap64 (x5_1+(wrap64 (1+t247)))) t249 t250).bind fun bt252=>(soundservicemade_Clock.j1 k1 (wrap64 (x5_1+(wrap64 (1+t247)))) x6_1 (bt252.2 == 0) t251 x245000_1 bt252.1))=some (r1,r2):=H
    have A16:=Am A160
    clear A160
    replace H:=Option.bind_eq_some_iff.mp H
    obtain ⟨⟨t252,t255⟩,A170,H⟩:=H
    replace H:(soundservicemade_Clock.j1 k1 (wrap64 (x5_1+(wrap64 (1+t247)))) x6_1 (t255 == 0) t251 x245000_1 t252)=some (r1,r2):=H
    have A17:=Am A170
    clear A170
    have HC18:=Am H
    clear H
    try go_wp2_with (first|((with_reducible refine gate_callee (f:=32) rfl ?_);refine goesL_ (some 23) rfl rfl Try.func32 (by kernel_rfl) rfl #[.pointer (some ⟨g,0,none⟩), .int .i64 90] rfl (by (try simp only [List.map_toArray,List.map_cons,List.map_nil]);first|done|rfl|(simp only [List.length_drop,List.length_take];rfl)) ?_;(with_reducible refine (soundservicemade_Dice_Next.calls g x1000_1 90 t247 t248 w0 _ ?side1 ?side2 A15.out).mono ?_);(case side1=>repeat (first|(with_reducible first|exact HI0.out|apply IsS63.alloc|apply IsS63.drewN|apply IsS63.drew|refine IsS63.far ?_ NB0_236.out _|refine IsS63.far ?_ NB0_244.out _)|exact HI0.out));(case side2=>repeat (first|(with_reducible first|exact HB.out|apply bA|apply bN|apply bD|refine bS ?_ (IsS63.ge HI0.out)|refine bS ?_ GE236.out|refine bS ?_ GE244.out)|exact HB.out));rintro e w19 ⟨rfl,hi,hb,hk⟩;refine ⟨_,rfl,?_⟩;have n0_:=Am (Kd.R_mono (Kd.R_keep (IsS63.apart (show IsS63 w0 _ g x1000_1 from by repeat (first|(with_reducible first|exact HI0.out|apply IsS63.alloc|apply IsS63.drewN|apply IsS63.drew|refine IsS63.far ?_ NB0_236.out _|refine IsS63.far ?_ NB0_244.out _)|exact HI0.out)) (by (with_reducible repeat first|apply Kd.R_alloc|apply Kd.R_drewN|apply Kd.R_drew);exact HO_245000.out) (by decide)) hk (fun _ h=>h.2)) (fun _ h=>h.1));have n1_:=Am (KeepBut.blk hk (g':=gb236) (o:=.cells #[.slice none 0 0] 24 (0,0)) (by (with_reducible repeat first|apply kN|apply kD|apply kA);exact BK236.out) NB236_0.out (by simp));have n2_:=Am (KeepBut.blk hk (g':=gb244) (o:=.cells #[u245000] 24 (0,0)) (by (with_reducible repeat first|apply kN|apply kD|apply kA);exact BK244.out) NB244_0.out (by simp));have n3_:=Am (KeepBut.trans (by repeat (first|(with_reducible first|exact HK.out|apply KeepBut.set_|apply keep_drewN|apply keep_drew|apply keep_alloc|refine keep_far ?_ GW236.out _|refine keep_far ?_ GW244.out _)|exact HK.out)) hk (.inl rfl));have n4_:=Am (hb);have n5_:=Am (hi);clear HO_245000 BK236 BK244 HK HB HI0;have HO_245000:=n0_;have BK236:=n1_;have BK244:=n2_;have HK:=n3_;have HB:=n4_;have HI0:=n5_;clear n0_ n1_ n2_ n3_ n4_ n5_;(try clear hb);(try clear hk);(try clear hi);obtain ⟨Ao20,co20,eo20⟩:=Kd.R_slice HO_245000.out;subst eo20))
    have n0_:=Am (Kd.R_drew HO_245000.out)
    have n1_:=Am (kD BK236.out)
    have n2_:=Am (kD BK244.out)
    have n3_:=Am (IsS63.drew HI0.out)
    have n4_:=Am (keep_drew HK.out)
    have n5_:=Am (bD HB.out)
    clear HO_245000 BK236 BK244 HI0 HK HB;have HO_245000:=n0_;have BK236:=n1_;have BK244:=n2_;have HI0:=n3_;have HK:=n4_;have HB:=n5_;clear n0_ n1_ n2_ n3_ n4_ n5_
    refine start_ (n:=11) (S:=fun w'=>w'.cell? ⟨gb244,0,none⟩=some (.slice Ao20 x245000_1.length co20)) (ds:=[]) soundservicemade_Clock.q0 (by kernel_rfl) rfl rfl ((blk_cell BK244.out 0).trans rfl) (fun hHeld=>?_);refine with_tabW soundservicemade_Clock.tab7 soundservicemade_Clock.bits7 (fun HT_ HW_=>?_)
    generalize w19.drew=w21 at HO_245000 BK236 BK244 HI0 HK HB hHeld ⊢
    refine pure_ (i:=1) (N:=some 28) (v:=?_) (a':=?_) soundservicemade_Clock.q1 rfl rfl (any_of HT_.out (by kernel_rfl)) (fun _ _ _ h=>h) (Or.inl ⟨by rfl,?_⟩) ?_ ?_
    rotate_left;(· intro w';go_simp;with_reducible rfl);rotate_left;(· simp only [pL,i64_w,i32_w];rfl)
    refine pure_ (i:=2) (N:=some 29) (v:=?_) (a':=?_) soundservicemade_Clock.q2 rfl rfl (any_of HT_.out (by kernel_rfl)) (fun _ _ _ h=>h) (Or.inl ⟨by rfl,?_⟩) ?_ ?_
    rotate_left;(· intro w';go_simp;with_reducible rfl);rotate_left;(· simp only [pL,i64_w,i32_w];rfl)
    refine take_ (i:=0) (N:=some 27) (v:=?_) (a':=?_) soundservicemade_Clock.q3 rfl rfl (take_ofW HT_.out HW_.out (by kernel_rfl)) (fun _ _ _ h=>h) (Or.inl ⟨by rfl,?_⟩) hHeld ?_ ?_
    rotate_left
    ·intro w' s0
     go_simp
     with_reducible rfl
    rotate_left
    ·simp only [pL,i64_w,i32_w]
     rfl
    refine join_ (σ:=Value × Nat) 2 soundservicemade_Clock.q4 (fun s_=>[(30, .agg #[.int .i64 t249, .int .i64 t250]),(31, .tuple #[.agg #[s_.1], .int .i64 t255]),(7, .pointer (some ⟨s_.2,0,none⟩)),(26, .tuple #[.agg #[s_.1], .int .i64 t255]),(32, .agg #[s_.1]),(33, .int .i64 t255)]) (fun s_ w'=>(w'.cell? ⟨gb244,0,none⟩=some (.slice Ao20 x245000_1.length co20))∧(Kd.R k61 61 w' w.heap.size (fun k_=>some k_≠(.slice Ao20 x245000_1.length co20:Value).ownBlock) s_.1 t252)∧(Kd.R k61 61 w' w.heap.size (fun k_=>some k_≠(s_.1:Value).ownBlock) (.slice Ao20 x245000_1.length co20) x245000_1)∧(w'.heap[gb236]?=some (.cells #[.slice none 0 0] 24 (0,0)))∧(w'.heap[gb244]?=some (.cells #[.slice Ao20 x245000_1.length co20] 24 (0,0)))∧(w'.heap[s_.2]?=some (.cells #[.slice none 0 0] 24 (0,0)))∧(w.heap.size≤s_.2)∧(w0.heap.size≤s_.2)∧(g≠s_.2)∧(s_.2≠g)∧(gb236≠s_.2)∧(s_.2≠gb236)∧(gb244≠s_.2)∧(s_.2≠gb244)∧(IsS63 w0 w' g t251)∧(KeepBut w w' g none)∧(Below w0.heap.size w0 w')) ?_ ?_
    rotate_left
    ·intro hCont
     refine two_ (i:=3) (j:=8) (Ni:=some 30) (Nj:=some 7) soundservicemade_Clock.q5 soundservicemade_Clock.q6 rfl rfl rfl rfl (two_of HT_.out (by kernel_rfl)) (by decide) (by decide) (fun K hK=>?_) (fun K hK=>?_)
     ·skip
      refine goes_ Try.func20 (by kernel_rfl) rfl #[.pointer (some ⟨g,0,none⟩)] (by rfl) rfl rfl (by (try simp only [List.map_toArray,List.map_cons,List.map_nil]);first|done|rfl|(simp only [List.length_drop,List.length_take];rfl)) ?_
      with_reducible refine (soundservicemade_Rate.calls g t248 t249 t250 t251 w0 _ ?side1 ?side2 A16.out).mono ?_
      (case side1=>repeat (first|(with_reducible first|exact HI0.out|apply IsS63.alloc|apply IsS63.drewN|apply IsS63.drew|refine IsS63.far ?_ NB0_236.out _|refine IsS63.far ?_ NB0_244.out _)|exact HI0.out))
      (case side2=>repeat (first|(with_reducible first|exact HB.out|apply bA|apply bN|apply bD|refine bS ?_ (IsS63.ge HI0.out)|refine bS ?_ GE236.out|refine bS ?_ GE244.out)|exact HB.out))
      rintro e w22 ⟨rfl,hi,hb,hk⟩
      refine ⟨_,rfl,?_⟩
      have n0_:=Am (Kd.R_mono (Kd.R_keep (IsS63.apart (show IsS63 w0 _ g t248 from by repeat (first|(with_reducible first|exact HI0.out|apply IsS63.alloc|apply IsS63.drewN|apply IsS63.drew|refine IsS63.far ?_ NB0_236.out _|refine IsS63.far ?_ NB0_244.out _)|exact HI0.out)) (by (with_reducible repeat first|apply Kd.R_alloc|apply Kd.R_drewN|apply Kd.R_drew);exact HO_245000.out) (by decide)) hk (fun _ h=>h.2)) (fun _ h=>h.1))
      have n1_:=Am (KeepBut.blk hk (g':=gb236) (o:=.cells #[.slice none 0 0] 24 (0,0)) (by (with_reducible repeat first|apply kN|apply kD|apply kA);exact BK236.out) NB236_0.out (by simp))
      have n2_:=Am (KeepBut.blk hk (g':=gb244) (o:=.cells #[.slice Ao20 x245000_1.length co20] 24 (0,0)) (by (with_reducible repeat first|apply kN|apply kD|apply kA);exact BK244.out) NB244_0.out (by simp))
      have n3_:=Am (KeepBut.trans (by repeat (first|(with_reducible first|exact HK.out|apply KeepBut.set_|apply keep_drewN|apply keep_drew|apply keep_alloc|refine keep_far ?_ GW236.out _|refine keep_far ?_ GW244.out _)|exact HK.out)) hk (.inl rfl))
      have n4_:=Am (hb)
      have n5_:=Am (hi)
      clear HO_245000 BK236 BK244 HK HB HI0;have HO_245000:=n0_;have BK236:=n1_;have BK244:=n2_;have HK:=n3_;have HB:=n4_;have HI0:=n5_;clear n0_ n1_ n2_ n3_ n4_ n5_;(try clear hb);(try clear hk);(try clear hi)
      refine hK.out _ _ ((blk_cell BK244.out 0).trans rfl) (fun hHeld=>?_)
      clear hK K
      refine norm_ (a':=?_) ?_ ?_
      rotate_left
      ·show Act.put _ (some 30) _=_
       simp only [pL,i64_w,i32_w]
       rfl
      refine two_ (i:=4) (j:=8) (Ni:=some 31) (Nj:=some 7) soundservicemade_Clock.q7 soundservicemade_Clock.q8 rfl rfl rfl rfl (two_of HT_.out (by kernel_rfl)) (by decide) (by decide) (fun K hK=>?_) (fun K hK=>?_)
      ·skip
       refine goes_ Try.func16 (by kernel_rfl) rfl #[.agg #[.slice Ao20 x245000_1.length co20], .int .i64 (wrap64 (x5_1+(wrap64 (1+t247)))), .agg #[.int .i64 t249, .int .i64 t250]] (by rfl) rfl rfl (by (try simp only [List.map_toArray,List.map_cons,List.map_nil]);first|done|rfl|(simp only [List.length_drop,List.length_take];rfl)) ?_
       with_reducible refine (soundserviceref13_Change.calls k1 _ _ x245000_1 (wrap64 (x5_1+(wrap64 (1+t247)))) t249 t250 t252 t255 _ ?side1 ?side2 A17.out).mono ?_
       (case side1=>repeat (first|exact (Kd.R_reads' HO_245000.out).2.2|(with_reducible refine Kd.C_alloc ?_ _)|(with_reducible refine Kd.C_drewN ?_ _)|(with_reducible refine Kd.C_drew ?_)))
       (case side2=>exact (Kd.R_reads' HO_245000.out).2.1)
       rintro e w23 ⟨v253,rfl,ho0,hb⟩
       refine ⟨_,rfl,?_⟩
       have n0_:=Am (Kd.R_elder' (by (with_reducible repeat first|apply Kd.R_alloc|apply Kd.R_drewN|apply Kd.R_drew);exact HO_245000.out) (Kd.R_base ho0) hb)
       have n1_:=Am (Kd.R_lower (Kd.R_new' ho0 (Kd.R_lt (by (with_reducible repeat first|apply Kd.R_alloc|apply Kd.R_drewN|apply Kd.R_drew);exact HO_245000.out))) (keep_size (w:=w) (g:=g) (row:=none) (by repeat (first|(with_reducible first|exact HK.out|apply KeepBut.set_|apply keep_drewN|apply keep_drew|apply keep_alloc|refine keep_far ?_ GW236.out _|refine keep_far ?_ GW244.out _)|exact HK.out))))
       have n2_:=Am (blk_below (g:=gb236) (o:=.cells #[.slice none 0 0] 24 (0,0)) (by (with_reducible repeat first|apply kN|apply kD|apply kA);exact BK236.out) hb)
       have n3_:=Am (blk_below (g:=gb244) (o:=.cells #[.slice Ao20 x245000_1.length co20] 24 (0,0)) (by (with_reducible repeat first|apply kN|apply kD|apply kA);exact BK244.out) hb)
       have n4_:=Am (IsS63.below (by repeat (first|(with_reducible first|exact HI0.out|apply IsS63.alloc|apply IsS63.drewN|apply IsS63.drew|refine IsS63.far ?_ NB0_236.out _|refine IsS63.far ?_ NB0_244.out _)|exact HI0.out)) hb)
       have n5_:=Am (KeepBut.trans (by repeat (first|(with_reducible first|exact HK.out|apply KeepBut.set_|apply keep_drewN|apply keep_drew|apply keep_alloc|refine keep_far ?_ GW236.out _|refine keep_far ?_ GW244.out _)|exact HK.out)) (KeepBut.of_below hb g none) (.inl rfl))
       have n6_:=Am (below_step (by repeat (first|(with_reducible first|exact HB.out|apply bA|apply bN|apply bD|refine bS ?_ (IsS63.ge HI0.out)|refine bS ?_ GE236.out|refine bS ?_ GE244.out)|exact HB.out)) hb)
       clear HO_245000 BK236 BK244 HI0 HK HB;have HO_245000:=n0_;have HO254:=n1_;have BK236:=n2_;have BK244:=n3_;have HI0:=n4_;have HK:=n5_;have HB:=n6_;clear n0_ n1_ n2_ n3_ n4_ n5_ n6_;(try clear hb);(try clear hk);(try clear hi);(try clear ho0)
       refine hK.out _ _ ((blk_cell BK244.out 0).trans rfl) (fun hHeld=>?_)
       clear hK K
       refine norm_ (a':=?_) ?_ ?_
       rotate_left
       ·show Act.put _ (some 31) _=_
        simp only [pL,i64_w,i32_w]
        rfl
       refine pure_ (i:=5) (N:=some 26) (v:=?_) (a':=?_) soundservicemade_Clock.q9 rfl rfl (any_of HT_.out (by kernel_rfl)) (fun _ _ _ h=>h) (Or.inl ⟨by rfl,?_⟩) ?_ ?_
       rotate_left;(· intro w';go_simp;with_reducible rfl);rotate_left;(· simp only [pL,i64_w,i32_w];rfl)
       refine pure_ (i:=6) (N:=some 32) (v:=?_) (a':=?_) soundservicemade_Clock.q10 rfl rfl (any_of HT_.out (by kernel_rfl)) (fun _ _ _ h=>h) (Or.inl ⟨by rfl,?_⟩) ?_ ?_
       rotate_left;(· intro w';go_simp;with_reducible rfl);rotate_left;(· simp only [pL,i64_w,i32_w];rfl)
       refine pure_ (i:=7) (N:=some 33) (v:=?_) (a':=?_) soundservicemade_Clock.q11 rfl rfl (any_of HT_.out (by kernel_rfl)) (fun _ _ _ h=>h) (Or.inl ⟨by rfl,?_⟩) ?_ ?_
       rotate_left;(· intro w';go_simp;with_reducible rfl);rotate_left;(· simp only [pL,i64_w,i32_w];rfl)
       refine one_ (i:=8) (N:=some 7) soundservicemade_Clock.q4 rfl rfl (one_of HT_.out (by kernel_rfl)) (by decide) (fun K hK=>?_)
       refine box_step ?hg (N:=7) ?hd (cs:=#[.slice none 0 0]) (t:=24) ?hr ?_;(case hd=>rfl);(case hg=>rfl);(case hr=>first|(go_simp;done)|(go_simp;rfl))
       intro gb256 hg w24 hbox hb
       have n0_:=Am (Kd.R_below (by (with_reducible repeat first|apply Kd.R_alloc|apply Kd.R_drewN|apply Kd.R_drew);exact HO_245000.out) hb)
       have n1_:=Am (Kd.R_below (by (with_reducible repeat first|apply Kd.R_alloc|apply Kd.R_drewN|apply Kd.R_drew);exact HO254.out) hb)
       have n2_:=Am (blk_below (g:=gb236) (o:=.cells #[.slice none 0 0] 24 (0,0)) (by (with_reducible repeat first|apply kN|apply kD|apply kA);exact BK236.out) hb)
       have n3_:=Am (blk_below (g:=gb244) (o:=.cells #[.slice Ao20 x245000_1.length co20] 24 (0,0)) (by (with_reducible repeat first|apply kN|apply kD|apply kA);exact BK244.out) hb)
       have n4_:=Am (IsS63.below (by repeat (first|(with_reducible first|exact HI0.out|apply IsS63.alloc|apply IsS63.drewN|apply IsS63.drew|refine IsS63.far ?_ NB0_236.out _|refine IsS63.far ?_ NB0_244.out _)|exact HI0.out)) hb)
       have n5_:=Am (KeepBut.trans (by repeat (first|(with_reducible first|exact HK.out|apply KeepBut.set_|apply keep_drewN|apply keep_drew|apply keep_alloc|refine keep_far ?_ GW236.out _|refine keep_far ?_ GW244.out _)|exact HK.out)) (KeepBut.of_below hb g none) (.inl rfl))
       have n6_:=Am (below_step (by repeat (first|(with_reducible first|exact HB.out|apply bA|apply bN|apply bD|refine bS ?_ (IsS63.ge HI0.out)|refine bS ?_ GE236.out|refine bS ?_ GE244.out)|exact HB.out)) hb)
       have n7_:=Am (hbox)
       have n8_:=Am ((by rw [hg];exact (keep_size (w:=w) (g:=g) (row:=none) (by repeat (first|(with_reducible first|exact HK.out|apply KeepBut.set_|apply keep_drewN|apply keep_drew|apply keep_alloc|refine keep_far ?_ GW236.out _|refine keep_far ?_ GW244.out _)|exact HK.out))):w.heap.size≤gb256))
       have n9_:=Am ((Nat.le_trans HW0.out (by rw [hg];exact (keep_size (w:=w) (g:=g) (row:=none) (by repeat (first|(with_reducible first|exact HK.out|apply KeepBut.set_|apply keep_drewN|apply keep_drew|apply keep_alloc|refine keep_far ?_ GW236.out _|refine keep_far ?_ GW244.out _)|exact HK.out))):w.heap.size≤gb256):w0.heap.size≤gb256))
       have n10_:=Am ((by rw [hg];exact Nat.ne_of_lt (blk_lt (g:=gb236) (o:=.cells #[.slice none 0 0] 24 (0,0)) (by (with_reducible repeat first|apply kN|apply kD|apply kA);exact BK236.out)):gb236≠gb256))
       have n11_:=Am ((by rw [hg];exact Nat.ne_of_gt (blk_lt (g:=gb236) (o:=.cells #[.slice none 0 0] 24 (0,0)) (by (with_reducible repeat first|apply kN|apply kD|apply kA);exact BK236.out)):gb256≠gb236))
       have n12_:=Am ((by rw [hg];exact Nat.ne_of_lt (blk_lt (g:=gb244) (o:=.cells #[.slice Ao20 x245000_1.length co20] 24 (0,0)) (by (with_reducible repeat first|apply kN|apply kD|apply kA);exact BK244.out)):gb244≠gb256))
       have n13_:=Am ((by rw [hg];exact Nat.ne_of_gt (blk_lt (g:=gb244) (o:=.cells #[.slice Ao20 x245000_1.length co20] 24 (0,0)) (by (with_reducible repeat first|apply kN|apply kD|apply kA);exact BK244.out)):gb256≠gb244))
       have n14_:=Am ((by rw [hg];exact Nat.ne_of_lt (IsS63.lt (show IsS63 w0 _ g t251 from by repeat (first|(with_reducible first|exact HI0.out|apply IsS63.alloc|apply IsS63.drewN|apply IsS63.drew|refine IsS63.far ?_ NB0_236.out _|refine IsS63.far ?_ NB0_244.out _)|exact HI0.out))):g≠gb256))
       have n15_:=Am ((by rw [hg];exact Nat.ne_of_gt (IsS63.lt (show IsS63 w0 _ g t251 from by repeat (first|(with_reducible first|exact HI0.out|apply IsS63.alloc|apply IsS63.drewN|apply IsS63.drew|refine IsS63.far ?_ NB0_236.out _|refine IsS63.far ?_ NB0_244.out _)|exact HI0.out))):gb256≠g))
       clear HO_245000 HO254 BK236 BK244 HI0 HK HB;have HO_245000:=n0_;have HO254:=n1_;have BK236:=n2_;have BK244:=n3_;have HI0:=n4_;have HK:=n5_;have HB:=n6_;have BK256:=n7_;have GW256:=n8_;have GE256:=n9_;have NB236_256:=n10_;have NB256_236:=n11_;have NB244_256:=n12_;have NB256_244:=n13_;have NB0_256:=n14_;have NB256_0:=n15_;clear n0_ n1_ n2_ n3_ n4_ n5_ n6_ n7_ n8_ n9_ n10_ n11_ n12_ n13_ n14_ n15_ hb hbox hg
       refine hK.out _ _ ((blk_cell BK244.out 0).trans rfl) (fun hHeld=>?_)
       clear hK K
       refine norm_ (a':=?_) ?_ ?_
       rotate_left
       ·show Act.put _ (some 7) _=_
        simp only [pL,i64_w,i32_w]
        rfl
       exact norm_ (by simp only [putAll,pL]) (hCont (v253,gb256) _ ⟨hHeld,(by (with_reducible repeat first|apply Kd.R_alloc|apply Kd.R_drewN|apply Kd.R_drew);exact Kd.R_mono HO254.out (fun _ hk=>by first|exact hk.2|trivial)),(by (with_reducible repeat first|apply Kd.R_alloc|apply Kd.R_drewN|apply Kd.R_drew);exact Kd.R_mono HO_245000.out (fun _ hk=>by first|exact hk.2|trivial)),(by (with_reducible repeat first|apply kN|apply kD|apply kA);exact BK236.out),(by (with_reducible repeat first|apply kN|apply kD|apply kA);exact BK244.out),(by (with_reducible repeat first|apply kN|apply kD|apply kA);exact BK256.out),GW256.out,GE256.out,NB0_256.out,NB256_0.out,NB236_256.out,NB256_236.out,NB244_256.out,NB256_244.out,(by repeat (first|(with_reducible first|exact HI0.out|apply IsS63.alloc|apply IsS63.drewN|apply IsS63.drew|refine IsS63.far ?_ NB0_236.out _|refine IsS63.far ?_ NB0_244.out _|refine IsS63.far ?_ NB0_256.out _)|exact HI0.out)),(by repeat (first|(with_reducible first|exact HK.out|apply KeepBut.set_|apply keep_drewN|apply keep_drew|apply keep_alloc|refine keep_far ?_ GW236.out _|refine keep_far ?_ GW244.out _|refine keep_far ?_ GW256.out _)|exact HK.out)),(by repeat (first|(with_reducible first|exact HB.out|apply bA|apply bN|apply bD|refine bS ?_ (IsS63.ge HI0.out)|refine bS ?_ GE236.out|refine bS ?_ GE244.out|refine bS ?_ GE256.out)|exact HB.out))⟩)
      ·skip
       refine box_step ?hg (N:=7) ?hd (cs:=#[.slice none 0 0]) (t:=24) ?hr ?_;(case hd=>rfl);(case hg=>rfl);(case hr=>first|(go_simp;done)|(go_simp;rfl))
       intro gb256 hg w23 hbox hb
       have n0_:=Am (Kd.R_below (by (with_reducible repeat first|apply Kd.R_alloc|apply Kd.R_drewN|apply Kd.R_drew);exact HO_245000.out) hb)
       have n1_:=Am (blk_below (g:=gb236) (o:=.cells #[.slice none 0 0] 24 (0,0)) (by (with_reducible repeat first|apply kN|apply kD|apply kA);exact BK236.out) hb)
       have n2_:=Am (blk_below (g:=gb244) (o:=.cells #[.slice Ao20 x245000_1.length co20] 24 (0,0)) (by (with_reducible repeat first|apply kN|apply kD|apply kA);exact BK244.out) hb)
       have n3_:=Am (IsS63.below (by repeat (first|(with_reducible first|exact HI0.out|apply IsS63.alloc|apply IsS63.drewN|apply IsS63.drew|refine IsS63.far ?_ NB0_236.out _|refine IsS63.far ?_ NB0_244.out _)|exact HI0.out)) hb)
       have n4_:=Am (KeepBut.trans (by repeat (first|(with_reducible first|exact HK.out|apply KeepBut.set_|apply keep_drewN|apply keep_drew|apply keep_alloc|refine keep_far ?_ GW236.out _|refine keep_far ?_ GW244.out _)|exact HK.out)) (KeepBut.of_below hb g none) (.inl rfl))
       have n5_:=Am (below_step (by repeat (first|(with_reducible first|exact HB.out|apply bA|apply bN|apply bD|refine bS ?_ (IsS63.ge HI0.out)|refine bS ?_ GE236.out|refine bS ?_ GE244.out)|exact HB.out)) hb)
       have n6_:=Am (hbox)
       have n7_:=Am ((by rw [hg];exact (keep_size (w:=w) (g:=g) (row:=none) (by repeat (first|(with_reducible first|exact HK.out|apply KeepBut.set_|apply keep_drewN|apply keep_drew|apply keep_alloc|refine keep_far ?_ GW236.out _|refine keep_far ?_ GW244.out _)|exact HK.out))):w.heap.size≤gb256))
       have n8_:=Am ((Nat.le_trans HW0.out (by rw [hg];exact (keep_size (w:=w) (g:=g) (row:=none) (by repeat (first|(with_reducible first|exact HK.out|apply KeepBut.set_|apply keep_drewN|apply keep_drew|apply keep_alloc|refine keep_far ?_ GW236.out _|refine keep_far ?_ GW244.out _)|exact HK.out))):w.heap.size≤gb256):w0.heap.size≤gb256))
       have n9_:=Am ((by rw [hg];exact Nat.ne_of_lt (blk_lt (g:=gb236) (o:=.cells #[.slice none 0 0] 24 (0,0)) (by (with_reducible repeat first|apply kN|apply kD|apply kA);exact BK236.out)):gb236≠gb256))
       have n10_:=Am ((by rw [hg];exact Nat.ne_of_gt (blk_lt (g:=gb236) (o:=.cells #[.slice none 0 0] 24 (0,0)) (by (with_reducible repeat first|apply kN|apply kD|apply kA);exact BK236.out)):gb256≠gb236))
       have n11_:=Am ((by rw [hg];exact Nat.ne_of_lt (blk_lt (g:=gb244) (o:=.cells #[.slice Ao20 x245000_1.length co20] 24 (0,0)) (by (with_reducible repeat first|apply kN|apply kD|apply kA);exact BK244.out)):gb244≠gb256))
       have n12_:=Am ((by rw [hg];exact Nat.ne_of_gt (blk_lt (g:=gb244) (o:=.cells #[.slice Ao20 x245000_1.length co20] 24 (0,0)) (by (with_reducible repeat first|apply kN|apply kD|apply kA);exact BK244.out)):gb256≠gb244))
       have n13_:=Am ((by rw [hg];exact Nat.ne_of_lt (IsS63.lt (show IsS63 w0 _ g t251 from by repeat (first|(with_reducible first|exact HI0.out|apply IsS63.alloc|apply IsS63.drewN|apply IsS63.drew|refine IsS63.far ?_ NB0_236.out _|refine IsS63.far ?_ NB0_244.out _)|exact HI0.out))):g≠gb256))
       have n14_:=Am ((by rw [hg];exact Nat.ne_of_gt (IsS63.lt (show IsS63 w0 _ g t251 from by repeat (first|(with_reducible first|exact HI0.out|apply IsS63.alloc|apply IsS63.drewN|apply IsS63.drew|refine IsS63.far ?_ NB0_236.out _|refine IsS63.far ?_ NB0_244.out _)|exact HI0.out))):gb256≠g))
       clear HO_245000 BK236 BK244 HI0 HK HB;have HO_245000:=n0_;have BK236:=n1_;have BK244:=n2_;have HI0:=n3_;have HK:=n4_;have HB:=n5_;have BK256:=n6_;have GW256:=n7_;have GE256:=n8_;have NB236_256:=n9_;have NB256_236:=n10_;have NB244_256:=n11_;have NB256_244:=n12_;have NB0_256:=n13_;have NB256_0:=n14_;clear n0_ n1_ n2_ n3_ n4_ n5_ n6_ n7_ n8_ n9_ n10_ n11_ n12_ n13_ n14_ hb hbox hg
       refine hK.out _ _ ((blk_cell BK244.out 0).trans rfl) (fun hHeld=>?_)
       clear hK K
       refine norm_ (a':=?_) ?_ ?_
       rotate_left
       ·show Act.put _ (some 7) _=_
        simp only [pL,i64_w,i32_w]
        rfl
       refine one_ (i:=4) (N:=some 31) soundservicemade_Clock.q12 rfl rfl (one_of HT_.out (by kernel_rfl)) (by decide) (fun K hK=>?_)
       refine goes_ Try.func16 (by kernel_rfl) rfl #[.agg #[.slice Ao20 x245000_1.length co20], .int .i64 (wrap64 (x5_1+(wrap64 (1+t247)))), .agg #[.int .i64 t249, .int .i64 t250]] (by rfl) rfl rfl (by (try simp only [List.map_toArray,List.map_cons,List.map_nil]);first|done|rfl|(simp only [List.length_drop,List.length_take];rfl)) ?_
       with_reducible refine (soundserviceref13_Change.calls k1 _ _ x245000_1 (wrap64 (x5_1+(wrap64 (1+t247)))) t249 t250 t252 t255 _ ?side1 ?side2 A17.out).mono ?_
       (case side1=>repeat (first|exact (Kd.R_reads' HO_245000.out).2.2|(with_reducible refine Kd.C_alloc ?_ _)|(with_reducible refine Kd.C_drewN ?_ _)|(with_reducible refine Kd.C_drew ?_)))
       (case side2=>exact (Kd.R_reads' HO_245000.out).2.1)
       rintro e w24 ⟨v253,rfl,ho0,hb⟩
       refine ⟨_,rfl,?_⟩
       have n0_:=Am (Kd.R_elder' (by (with_reducible repeat first|apply Kd.R_alloc|apply Kd.R_drewN|apply Kd.R_drew);exact HO_245000.out) (Kd.R_base ho0) hb)
       have n1_:=Am (Kd.R_lower (Kd.R_new' ho0 (Kd.R_lt (by (with_reducible repeat first|apply Kd.R_alloc|apply Kd.R_drewN|apply Kd.R_drew);exact HO_245000.out))) (keep_size (w:=w) (g:=g) (row:=none) (by repeat (first|(with_reducible first|exact HK.out|apply KeepBut.set_|apply keep_drewN|apply keep_drew|apply keep_alloc|refine keep_far ?_ GW236.out _|refine keep_far ?_ GW244.out _|refine keep_far ?_ GW256.out _)|exact HK.out))))
       have n2_:=Am (blk_below (g:=gb236) (o:=.cells #[.slice none 0 0] 24 (0,0)) (by (with_reducible repeat first|apply kN|apply kD|apply kA);exact BK236.out) hb)
       have n3_:=Am (blk_below (g:=gb244) (o:=.cells #[.slice Ao20 x245000_1.length co20] 24 (0,0)) (by (with_reducible repeat first|apply kN|apply kD|apply kA);exact BK244.out) hb)
       have n4_:=Am (IsS63.below (by repeat (first|(with_reducible first|exact HI0.out|apply IsS63.alloc|apply IsS63.drewN|apply IsS63.drew|refine IsS63.far ?_ NB0_236.out _|refine IsS63.far ?_ NB0_244.out _|refine IsS63.far ?_ NB0_256.out _)|exact HI0.out)) hb)
       have n5_:=Am (blk_below (g:=gb256) (o:=.cells #[.slice none 0 0] 24 (0,0)) (by (with_reducible repeat first|apply kN|apply kD|apply kA);exact BK256.out) hb)
       have n6_:=Am (KeepBut.trans (by repeat (first|(with_reducible first|exact HK.out|apply KeepBut.set_|apply keep_drewN|apply keep_drew|apply keep_alloc|refine keep_far ?_ GW236.out _|refine keep_far ?_ GW244.out _|refine keep_far ?_ GW256.out _)|exact HK.out)) (KeepBut.of_below hb g none) (.inl rfl))
       have n7_:=Am (below_step (by repeat (first|(with_reducible first|exact HB.out|apply bA|apply bN|apply bD|refine bS ?_ (IsS63.ge HI0.out)|refine bS ?_ GE236.out|refine bS ?_ GE244.out|refine bS ?_ GE256.out)|exact HB.out)) hb)
       clear HO_245000 BK236 BK244 HI0 BK256 HK HB;have HO_245000:=n0_;have HO254:=n1_;have BK236:=n2_;have BK244:=n3_;have HI0:=n4_;have BK256:=n5_;have HK:=n6_;have HB:=n7_;clear n0_ n1_ n2_ n3_ n4_ n5_ n6_ n7_;(try clear hb);(try clear hk);(try clear hi);(try clear ho0)
       refine hK.out _ _ ((blk_cell BK244.out 0).trans rfl) (fun hHeld=>?_)
       clear hK K
       refine norm_ (a':=?_) ?_ ?_
       rotate_left
       ·show Act.put _ (some 31) _=_
        simp only [pL,i64_w,i32_w]
        rfl
       refine pure_ (i:=5) (N:=some 26) (v:=?_) (a':=?_) soundservicemade_Clock.q13 rfl rfl (any_of HT_.out (by kernel_rfl)) (fun _ _ _ h=>h) (Or.inl ⟨by rfl,?_⟩) ?_ ?_
       rotate_left;(· intro w';go_simp;with_reducible rfl);rotate_left;(· simp only [pL,i64_w,i32_w];rfl)
       refine pure_ (i:=6) (N:=some 32) (v:=?_) (a':=?_) soundservicemade_Clock.q14 rfl rfl (any_of HT_.out (by kernel_rfl)) (fun _ _ _ h=>h) (Or.inl ⟨by rfl,?_⟩) ?_ ?_
       rotate_left;(· intro w';go_simp;with_reducible rfl);rotate_left;(· simp only [pL,i64_w,i32_w];rfl)
       refine pure_ (i:=7) (N:=some 33) (v:=?_) (a':=?_) soundservicemade_Clock.q4 rfl rfl (any_of HT_.out (by kernel_rfl)) (fun _ _ _ h=>h) (Or.inl ⟨by rfl,?_⟩) ?_ ?_
       rotate_left;(· intro w';go_simp;with_reducible rfl);rotate_left;(· simp only [pL,i64_w,i32_w];rfl)
       exact norm_ (by simp only [putAll,pL]) (hCont (v253,gb256) _ ⟨hHeld,(by (with_reducible repeat first|apply Kd.R_alloc|apply Kd.R_drewN|apply Kd.R_drew);exact Kd.R_mono HO254.out (fun _ hk=>by first|exact hk.2|trivial)),(by (with_reducible repeat first|apply Kd.R_alloc|apply Kd.R_drewN|apply Kd.R_drew);exact Kd.R_mono HO_245000.out (fun _ hk=>by first|exact hk.2|trivial)),(by (with_reducible repeat first|apply kN|apply kD|apply kA);exact BK236.out),(by (with_reducible repeat first|apply kN|apply kD|apply kA);exact BK244.out),(by (with_reducible repeat first|apply kN|apply kD|apply kA);exact BK256.out),GW256.out,GE256.out,NB0_256.out,NB256_0.out,NB236_256.out,NB256_236.out,NB244_256.out,NB256_244.out,(by repeat (first|(with_reducible first|exact HI0.out|apply IsS63.alloc|apply IsS63.drewN|apply IsS63.drew|refine IsS63.far ?_ NB0_236.out _|refine IsS63.far ?_ NB0_244.out _|refine IsS63.far ?_ NB0_256.out _)|exact HI0.out)),(by repeat (first|(with_reducible first|exact HK.out|apply KeepBut.set_|apply keep_drewN|apply keep_drew|apply keep_alloc|refine keep_far ?_ GW236.out _|refine keep_far ?_ GW244.out _|refine keep_far ?_ GW256.out _)|exact HK.out)),(by repeat (first|(with_reducible first|exact HB.out|apply bA|apply bN|apply bD|refine bS ?_ (IsS63.ge HI0.out)|refine bS ?_ GE236.out|refine bS ?_ GE244.out|refine bS ?_ GE256.out)|exact HB.out))⟩)
     ·skip
      refine box_step ?hg (N:=7) ?hd (cs:=#[.slice none 0 0]) (t:=24) ?hr ?_;(case hd=>rfl);(case hg=>rfl);(case hr=>first|(go_simp;done)|(go_simp;rfl))
      intro gb256 hg w22 hbox hb
      have n0_:=Am (Kd.R_below (by (with_reducible repeat first|apply Kd.R_alloc|apply Kd.R_drewN|apply Kd.R_drew);exact HO_245000.out) hb)
      have n1_:=Am (blk_below (g:=gb236) (o:=.cells #[.slice none 0 0] 24 (0,0)) (by (with_reducible repeat first|apply kN|apply kD|apply kA);exact BK236.out) hb)
      have n2_:=Am (blk_below (g:=gb244) (o:=.cells #[.slice Ao20 x245000_1.length co20] 24 (0,0)) (by (with_reducible repeat first|apply kN|apply kD|apply kA);exact BK244.out) hb)
      have n3_:=Am (IsS63.below (by repeat (first|(with_reducible first|exact HI0.out|apply IsS63.alloc|apply IsS63.drewN|apply IsS63.drew|refine IsS63.far ?_ NB0_236.out _|refine IsS63.far ?_ NB0_244.out _)|exact HI0.out)) hb)
      have n4_:=Am (KeepBut.trans (by repeat (first|(with_reducible first|exact HK.out|apply KeepBut.set_|apply keep_drewN|apply keep_drew|apply keep_alloc|refine keep_far ?_ GW236.out _|refine keep_far ?_ GW244.out _)|exact HK.out)) (KeepBut.of_below hb g none) (.inl rfl))
      have n5_:=Am (below_step (by repeat (first|(with_reducible first|exact HB.out|apply bA|apply bN|apply bD|refine bS ?_ (IsS63.ge HI0.out)|refine bS ?_ GE236.out|refine bS ?_ GE244.out)|exact HB.out)) hb)
      have n6_:=Am (hbox)
      have n7_:=Am ((by rw [hg];exact (keep_size (w:=w) (g:=g) (row:=none) (by repeat (first|(with_reducible first|exact HK.out|apply KeepBut.set_|apply keep_drewN|apply keep_drew|apply keep_alloc|refine keep_far ?_ GW236.out _|refine keep_far ?_ GW244.out _)|exact HK.out))):w.heap.size≤gb256))
      have n8_:=Am ((Nat.le_trans HW0.out (by rw [hg];exact (keep_size (w:=w) (g:=g) (row:=none) (by repeat (first|(with_reducible first|exact HK.out|apply KeepBut.set_|apply keep_drewN|apply keep_drew|apply keep_alloc|refine keep_far ?_ GW236.out _|refine keep_far ?_ GW244.out _)|exact HK.out))):w.heap.size≤gb256):w0.heap.size≤gb256))
      have n9_:=Am ((by rw [hg];exact Nat.ne_of_lt (blk_lt (g:=gb236) (o:=.cells #[.slice none 0 0] 24 (0,0)) (by (with_reducible repeat first|apply kN|apply kD|apply kA);exact BK236.out)):gb236≠gb256))
      have n10_:=Am ((by rw [hg];exact Nat.ne_of_gt (blk_lt (g:=gb236) (o:=.cells #[.slice none 0 0] 24 (0,0)) (by (with_reducible repeat first|apply kN|apply kD|apply kA);exact BK236.out)):gb256≠gb236))
      have n11_:=Am ((by rw [hg];exact Nat.ne_of_lt (blk_lt (g:=gb244) (o:=.cells #[.slice Ao20 x245000_1.length co20] 24 (0,0)) (by (with_reducible repeat first|apply kN|apply kD|apply kA);exact BK244.out)):gb244≠gb256))
      have n12_:=Am ((by rw [hg];exact Nat.ne_of_gt (blk_lt (g:=gb244) (o:=.cells #[.slice Ao20 x245000_1.length co20] 24 (0,0)) (by (with_reducible repeat first|apply kN|apply kD|apply kA);exact BK244.out)):gb256≠gb244))
      have n13_:=Am ((by rw [hg];exact Nat.ne_of_lt (IsS63.lt (show IsS63 w0 _ g t248 from by repeat (first|(with_reducible first|exact HI0.out|apply IsS63.alloc|apply IsS63.drewN|apply IsS63.drew|refine IsS63.far ?_ NB0_236.out _|refine IsS63.far ?_ NB0_244.out _)|exact HI0.out))):g≠gb256))
      have n14_:=Am ((by rw [hg];exact Nat.ne_of_gt (IsS63.lt (show IsS63 w0 _ g t248 from by repeat (first|(with_reducible first|exact HI0.out|apply IsS63.alloc|apply IsS63.drewN|apply IsS63.drew|refine IsS63.far ?_ NB0_236.out _|refine IsS63.far ?_ NB0_244.out _)|exact HI0.out))):gb256≠g))
      clear HO_245000 BK236 BK244 HI0 HK HB;have HO_245000:=n0_;have BK236:=n1_;have BK244:=n2_;have HI0:=n3_;have HK:=n4_;have HB:=n5_;have BK256:=n6_;have GW256:=n7_;have GE256:=n8_;have NB236_256:=n9_;have NB256_236:=n10_;have NB244_256:=n11_;have NB256_244:=n12_;have NB0_256:=n13_;have NB256_0:=n14_;clear n0_ n1_ n2_ n3_ n4_ n5_ n6_ n7_ n8_ n9_ n10_ n11_ n12_ n13_ n14_ hb hbox hg
      refine hK.out _ _ ((blk_cell BK244.out 0).trans rfl) (fun hHeld=>?_)
      clear hK K
      refine norm_ (a':=?_) ?_ ?_
      rotate_left
      ·show Act.put _ (some 7) _=_
       simp only [pL,i64_w,i32_w]
       rfl
      refine one_ (i:=3) (N:=some 30) soundservicemade_Clock.q8 rfl rfl (one_of HT_.out (by kernel_rfl)) (by decide) (fun K hK=>?_)
      refine goes_ Try.func20 (by kernel_rfl) rfl #[.pointer (some ⟨g,0,none⟩)] (by rfl) rfl rfl (by (try simp only [List.map_toArray,List.map_cons,List.map_nil]);first|done|rfl|(simp only [List.length_drop,List.length_take];rfl)) ?_
      with_reducible refine (soundservicemade_Rate.calls g t248 t249 t250 t251 w0 _ ?side1 ?side2 A16.out).mono ?_
      (case side1=>repeat (first|(with_reducible first|exact HI0.out|apply IsS63.alloc|apply IsS63.drewN|apply IsS63.drew|refine IsS63.far ?_ NB0_236.out _|refine IsS63.far ?_ NB0_244.out _|refine IsS63.far ?_ NB0_256.out _)|exact HI0.out))
      (case side2=>repeat (first|(with_reducible first|exact HB.out|apply bA|apply bN|apply bD|refine bS ?_ (IsS63.ge HI0.out)|refine bS ?_ GE236.out|refine bS ?_ GE244.out|refine bS ?_ GE256.out)|exact HB.out))
      rintro e w23 ⟨rfl,hi,hb,hk⟩
      refine ⟨_,rfl,?_⟩
      have n0_:=Am (Kd.R_mono (Kd.R_keep (IsS63.apart (show IsS63 w0 _ g t248 from by repeat (first|(with_reducible first|exact HI0.out|apply IsS63.alloc|apply IsS63.drewN|apply IsS63.drew|refine IsS63.far ?_ NB0_236.out _|refine IsS63.far ?_ NB0_244.out _|refine IsS63.far ?_ NB0_256.out _)|exact HI0.out)) (by (with_reducible repeat first|apply Kd.R_alloc|apply Kd.R_drewN|apply Kd.R_drew);exact HO_245000.out) (by decide)) hk (fun _ h=>h.2)) (fun _ h=>h.1))
      have n1_:=Am (KeepBut.blk hk (g':=gb236) (o:=.cells #[.slice none 0 0] 24 (0,0)) (by (with_reducible repeat first|apply kN|apply kD|apply kA);exact BK236.out) NB236_0.out (by simp))
      have n2_:=Am (KeepBut.blk hk (g':=gb244) (o:=.cells #[.slice Ao20 x245000_1.length co20] 24 (0,0)) (by (with_reducible repeat first|apply kN|apply kD|apply kA);exact BK244.out) NB244_0.out (by simp))
      have n3_:=Am (KeepBut.blk hk (g':=gb256) (o:=.cells #[.slice none 0 0] 24 (0,0)) (by (with_reducible repeat first|apply kN|apply kD|apply kA);exact BK256.out) NB256_0.out (by simp))
      have n4_:=Am (KeepBut.trans (by repeat (first|(with_reducible first|exact HK.out|apply KeepBut.set_|apply keep_drewN|apply keep_drew|apply keep_alloc|refine keep_far ?_ GW236.out _|refine keep_far ?_ GW244.out _|refine keep_far ?_ GW256.out _)|exact HK.out)) hk (.inl rfl))
      have n5_:=Am (hb)
      have n6_:=Am (hi)
      clear HO_245000 BK236 BK244 BK256 HK HB HI0;have HO_245000:=n0_;have BK236:=n1_;have BK244:=n2_;have BK256:=n3_;have HK:=n4_;have HB:=n5_;have HI0:=n6_;clear n0_ n1_ n2_ n3_ n4_ n5_ n6_;(try clear hb);(try clear hk);(try clear hi)
      refine hK.out _ _ ((blk_cell BK244.out 0).trans rfl) (fun hHeld=>?_)
      clear hK K
      refine norm_ (a':=?_) ?_ ?_
      rotate_left
      ·show Act.put _ (some 30) _=_
       simp only [pL,i64_w,i32_w]
       rfl
      refine one_ (i:=4) (N:=some 31) soundservicemade_Clock.q12 rfl rfl (one_of HT_.out (by kernel_rfl)) (by decide) (fun K hK=>?_)
      refine goes_ Try.func16 (by kernel_rfl) rfl #[.agg #[.slice Ao20 x245000_1.length co20], .int .i64 (wrap64 (x5_1+(wrap64 (1+t247)))), .agg #[.int .i64 t249, .int .i64 t250]] (by rfl) rfl rfl (by (try simp only [List.map_toArray,List.map_cons,List.map_nil]);first|done|rfl|(simp only [List.length_drop,List.length_take];rfl)) ?_
      with_reducible refine (soundserviceref13_Change.calls k1 _ _ x245000_1 (wrap64 (x5_1+(wrap64 (1+t247)))) t249 t250 t252 t255 _ ?side1 ?side2 A17.out).mono ?_
      (case side1=>repeat (first|exact (Kd.R_reads' HO_245000.out).2.2|(with_reducible refine Kd.C_alloc ?_ _)|(with_reducible refine Kd.C_drewN ?_ _)|(with_reducible refine Kd.C_drew ?_)))
      (case side2=>exact (Kd.R_reads' HO_245000.out).2.1)
      rintro e w24 ⟨v253,rfl,ho0,hb⟩
      refine ⟨_,rfl,?_⟩
      have n0_:=Am (Kd.R_elder' (by (with_reducible repeat first|apply Kd.R_alloc|apply Kd.R_drewN|apply Kd.R_drew);exact HO_245000.out) (Kd.R_base ho0) hb)
      have n1_:=Am (Kd.R_lower (Kd.R_new' ho0 (Kd.R_lt (by (with_reducible repeat first|apply Kd.R_alloc|apply Kd.R_drewN|apply Kd.R_drew);exact HO_245000.out))) (keep_size (w:=w) (g:=g) (row:=none) (by repeat (first|(with_reducible first|exact HK.out|apply KeepBut.set_|apply keep_drewN|apply keep_drew|apply keep_alloc|refine keep_far ?_ GW236.out _|refine keep_far ?_ GW244.out _|refine keep_far ?_ GW256.out _)|exact HK.out))))
      have n2_:=Am (blk_below (g:=gb236) (o:=.cells #[.slice none 0 0] 24 (0,0)) (by (with_reducible repeat first|apply kN|apply kD|apply kA);exact BK236.out) hb)
      have n3_:=Am (blk_below (g:=gb244) (o:=.cells #[.slice Ao20 x245000_1.length co20] 24 (0,0)) (by (with_reducible repeat first|apply kN|apply kD|apply kA);exact BK244.out) hb)
      have n4_:=Am (IsS63.below (by repeat (first|(with_reducible first|exact HI0.out|apply IsS63.alloc|apply IsS63.drewN|apply IsS63.drew|refine IsS63.far ?_ NB0_236.out _|refine IsS63.far ?_ NB0_244.out _|refine IsS63.far ?_ NB0_256.out _)|exact HI0.out)) hb)
      have n5_:=Am (blk_below (g:=gb256) (o:=.cells #[.slice none 0 0] 24 (0,0)) (by (with_reducible repeat first|apply kN|apply kD|apply kA);exact BK256.out) hb)
      have n6_:=Am (KeepBut.trans (by repeat (first|(with_reducible first|exact HK.out|apply KeepBut.set_|apply keep_drewN|apply keep_drew|apply keep_alloc|refine keep_far ?_ GW236.out _|refine keep_far ?_ GW244.out _|refine keep_far ?_ GW256.out _)|exact HK.out)) (KeepBut.of_below hb g none) (.inl rfl))
      have n7_:=Am (below_step (by repeat (first|(with_reducible first|exact HB.out|apply bA|apply bN|apply bD|refine bS ?_ (IsS63.ge HI0.out)|refine bS ?_ GE236.out|refine bS ?_ GE244.out|refine bS ?_ GE256.out)|exact HB.out)) hb)
      clear HO_245000 BK236 BK244 HI0 BK256 HK HB;have HO_245000:=n0_;have HO254:=n1_;have BK236:=n2_;have BK244:=n3_;have HI0:=n4_;have BK256:=n5_;have HK:=n6_;have HB:=n7_;clear n0_ n1_ n2_ n3_ n4_ n5_ n6_ n7_;(try clear hb);(try clear hk);(try clear hi);(try clear ho0)
      refine hK.out _ _ ((blk_cell BK244.out 0).trans rfl) (fun hHeld=>?_)
      clear hK K
      refine norm_ (a':=?_) ?_ ?_
      rotate_left
      ·show Act.put _ (some 31) _=_
       simp only [pL,i64_w,i32_w]
       rfl
      refine pure_ (i:=5) (N:=some 26) (v:=?_) (a':=?_) soundservicemade_Clock.q13 rfl rfl (any_of HT_.out (by kernel_rfl)) (fun _ _ _ h=>h) (Or.inl ⟨by rfl,?_⟩) ?_ ?_
      rotate_left;(· intro w';go_simp;with_reducible rfl);rotate_left;(· simp only [pL,i64_w,i32_w];rfl)
      refine pure_ (i:=6) (N:=some 32) (v:=?_) (a':=?_) soundservicemade_Clock.q14 rfl rfl (any_of HT_.out (by kernel_rfl)) (fun _ _ _ h=>h) (Or.inl ⟨by rfl,?_⟩) ?_ ?_
      rotate_left;(· intro w';go_simp;with_reducible rfl);rotate_left;(· simp only [pL,i64_w,i32_w];rfl)
      refine pure_ (i:=7) (N:=some 33) (v:=?_) (a':=?_) soundservicemade_Clock.q4 rfl rfl (any_of HT_.out (by kernel_rfl)) (fun _ _ _ h=>h) (Or.inl ⟨by rfl,?_⟩) ?_ ?_
      rotate_left;(· intro w';go_simp;with_reducible rfl);rotate_left;(· simp only [pL,i64_w,i32_w];rfl)
      exact norm_ (by simp only [putAll,pL]) (hCont (v253,gb256) _ ⟨hHeld,(by (with_reducible repeat first|apply Kd.R_alloc|apply Kd.R_drewN|apply Kd.R_drew);exact Kd.R_mono HO254.out (fun _ hk=>by first|exact hk.2|trivial)),(by (with_reducible repeat first|apply Kd.R_alloc|apply Kd.R_drewN|apply Kd.R_drew);exact Kd.R_mono HO_245000.out (fun _ hk=>by first|exact hk.2|trivial)),(by (with_reducible repeat first|apply kN|apply kD|apply kA);exact BK236.out),(by (with_reducible repeat first|apply kN|apply kD|apply kA);exact BK244.out),(by (with_reducible repeat first|apply kN|apply kD|apply kA);exact BK256.out),GW256.out,GE256.out,NB0_256.out,NB256_0.out,NB236_256.out,NB256_236.out,NB244_256.out,NB256_244.out,(by repeat (first|(with_reducible first|exact HI0.out|apply IsS63.alloc|apply IsS63.drewN|apply IsS63.drew|refine IsS63.far ?_ NB0_236.out _|refine IsS63.far ?_ NB0_244.out _|refine IsS63.far ?_ NB0_256.out _)|exact HI0.out)),(by repeat (first|(with_reducible first|exact HK.out|apply KeepBut.set_|apply keep_drewN|apply keep_drew|apply keep_alloc|refine keep_far ?_ GW236.out _|refine keep_far ?_ GW244.out _|refine keep_far ?_ GW256.out _)|exact HK.out)),(by repeat (first|(with_reducible first|exact HB.out|apply bA|apply bN|apply bD|refine bS ?_ (IsS63.ge HI0.out)|refine bS ?_ GE236.out|refine bS ?_ GE244.out|refine bS ?_ GE256.out)|exact HB.out))⟩)
    rintro ⟨v253,gb256⟩ w25 ⟨hS_,h0_,h1_,h2_,h3_,h4_,h5_,h6_,h7_,h8_,h9_,h10_,h11_,h12_,h13_,h14_,h15_⟩
    have n0_:Aside0 (Kd.R k61 61 w25 w.heap.size (fun k_=>some k_≠(.slice Ao20 x245000_1.length co20:Value).ownBlock) v253 t252):=⟨h0_⟩
    have n1_:Aside0 (Kd.R k61 61 w25 w.heap.size (fun k_=>some k_≠(v253:Value).ownBlock) (.slice Ao20 x245000_1.length co20) x245000_1):=⟨h1_⟩
    have n2_:Aside0 (w25.heap[gb236]?=some (.cells #[.slice none 0 0] 24 (0,0))):=⟨h2_⟩
    have n3_:Aside0 (w25.heap[gb244]?=some (.cells #[.slice Ao20 x245000_1.length co20] 24 (0,0))):=⟨h3_⟩
    have n4_:Aside0 (w25.heap[gb256]?=some (.cells #[.slice none 0 0] 24 (0,0))):=⟨h4_⟩
    have n5_:Aside0 (w.heap.size≤gb256):=⟨h5_⟩
    have n6_:Aside0 (w0.heap.size≤gb256):=⟨h6_⟩
    have n7_:Aside0 (g≠gb256):=⟨h7_⟩
    have n8_:Aside0 (gb256≠g):=⟨h8_⟩
    have n9_:Aside0 (gb236≠gb256):=⟨h9_⟩
    have n10_:Aside0 (gb256≠gb236):=⟨h10_⟩
    have n11_:Aside0 (gb244≠gb256):=⟨h11_⟩
    have n12_:Aside0 (gb256≠gb244):=⟨h12_⟩
    have n13_:Aside0 (IsS63 w0 w25 g t251):=⟨h13_⟩
    have n14_:Aside0 (KeepBut w w25 g none):=⟨h14_⟩
    have n15_:Aside0 (Below w0.heap.size w0 w25):=⟨h15_⟩
    clear HO_245000 BK236 BK244 HI0 HK HB h0_ h1_ h2_ h3_ h4_ h5_ h6_ h7_ h8_ h9_ h10_ h11_ h12_ h13_ h14_ h15_;have HO254:=n0_;have HO_245000:=n1_;have BK236:=n2_;have BK244:=n3_;have BK256:=n4_;have GW256:=n5_;have GE256:=n6_;have NB0_256:=n7_;have NB256_0:=n8_;have NB236_256:=n9_;have NB256_236:=n10_;have NB244_256:=n11_;have NB256_244:=n12_;have HI0:=n13_;have HK:=n14_;have HB:=n15_;clear n0_ n1_ n2_ n3_ n4_ n5_ n6_ n7_ n8_ n9_ n10_ n11_ n12_ n13_ n14_ n15_
    have hHeld:w25.cell? ⟨gb244,0,none⟩=some (.slice Ao20 x245000_1.length co20):=hS_
    obtain ⟨Ao26,co26,eo26⟩:=Kd.R_slice HO254.out
    (first|subst eo26|(injection eo26 with f1_ f2_ f3_;have f4_:=f1_.symm;have f5_:=f3_.symm;clear f1_ f2_ f3_;subst f4_;subst f5_))
    refine norm_ (a':=?_) ?_ ?_
    rotate_left
    ·simp only [putAll,pL]
     rfl
    refine one_ (i:=9) (N:=none) soundservicemade_Clock.q15 rfl rfl (one_of HT_.out (by kernel_rfl)) (by decide) (fun K hK=>?_)
    have hs27:w25.cell? ⟨gb256,0,none⟩=some (.slice none 0 0):=(blk_cell BK256.out 0).trans rfl
    have hfs27:=blk_frozen BK256.out 0
    have hns27_0:=NB236_256.out
    have hns27_1:=NB244_256.out
    have hms27_0:=NB256_236.out
    have hms27_1:=NB256_244.out
    refine skip_ (w1:=?_) (by rfl) rfl ?_ ?_
    rotate_left
    ·go_simp
     rfl
    refine hK.out _ _ (((cell_far (p:=⟨gb256,_,none⟩) NB244_256.out _).trans (hHeld))) (fun hHeld=>?_)
    clear hK K
    refine pure_ (i:=10) (N:=some 8) (v:=?_) (a':=?_) soundservicemade_Clock.q16 rfl rfl (any_of HT_.out (by kernel_rfl)) (fun _ _ _ h=>h) (Or.inl ⟨by rfl,?_⟩) ?_ ?_
    rotate_left;(· intro w';go_simp;with_reducible rfl);rotate_left;(· simp only [pL,i64_w,i32_w];rfl)
    refine done_ (done_of HT_.out (by kernel_rfl)) ?_
    go_upto_region 8 with (fail)
    go_cut [35] (fun v35 wc=>∃ (kq:Nat) (x35_17:Bool),v35=.bool x35_17∧Aside0 (soundservicemade_Clock.j1 kq (wrap64 (x5_1+(wrap64 (1+t247)))) x6_1 x35_17 t251 x245000_1 t252=some (r1,r2))∧Aside0 (kq≤k1)∧Aside0 (Kd.R k61 61 wc w.heap.size (fun k_=>some k_≠((.slice Ao26 t252.length co26):Value).ownBlock) (.slice Ao20 x245000_1.length co20) x245000_1)∧Aside0 (Kd.R k61 61 wc w.heap.size (fun k_=>some k_≠((.slice Ao20 x245000_1.length co20):Value).ownBlock) (.slice Ao26 t252.length co26) t252)∧Aside0 (wc.heap[gb236]?=some (.cells #[(.slice none 0 0)] 24 (0,0)))∧Aside0 (wc.heap[gb244]?=some (.cells #[(.slice Ao20 x245000_1.length co20)] 24 (0,0)))∧Aside0 (wc.heap[gb256]?=some (.cells #[(.slice Ao26 t252.length co26)] 24 (0,0)))∧Aside0 (IsS63 w0 wc g t251)∧Aside0 (KeepBut w wc g none)∧Aside0 (Below w0.heap.size w0 wc))
    case first =>
     have H:=HC18.out
     clear HC18
     have H':=Am H
     clear H
     go_wp2
     go_meet
     case rel=>exact ⟨_,((t255 == 0)),(by first|rfl|(simp;done)|(simp [*];done)),H',⟨by have:=HK1.out;first|omega|exact Nat.le_refl _⟩,⟨by (with_reducible repeat first|apply Kd.R_alloc|apply Kd.R_drewN|apply Kd.R_drew);exact Kd.R_mono (Kd.R_far (p:=⟨gb256,0,none⟩) (Kd.R_types HO_245000.out BK256.out (by decide)) (fun _ hk=>hk.2) (.slice Ao26 t252.length co26)) (fun _ hk=>hk.1)⟩,⟨by (with_reducible repeat first|apply Kd.R_alloc|apply Kd.R_drewN|apply Kd.R_drew);exact Kd.R_mono (Kd.R_far (p:=⟨gb256,0,none⟩) (Kd.R_types HO254.out BK256.out (by decide)) (fun _ hk=>hk.2) (.slice Ao26 t252.length co26)) (fun _ hk=>hk.1)⟩,⟨by (with_reducible repeat first|apply kN|apply kD|apply kA);refine blk_far ?_ NB236_256.out _;(with_reducible repeat first|apply kN|apply kD|apply kA);exact BK236.out⟩,⟨by (with_reducible repeat first|apply kN|apply kD|apply kA);refine blk_far ?_ NB244_256.out _;(with_reducible repeat first|apply kN|apply kD|apply kA);exact BK244.out⟩,⟨by (with_reducible repeat first|apply kN|apply kD|apply kA);refine blk_put (cs:=#[.slice none 0 0]) ?_ 0 _ rfl;(with_reducible repeat first|apply kN|apply kD|apply kA);exact BK256.out⟩,⟨by repeat (first|(with_reducible first|exact HI0.out|apply IsS63.alloc|apply IsS63.drewN|apply IsS63.drew|refine IsS63.far ?_ NB0_236.out _|refine IsS63.far ?_ NB0_244.out _|refine IsS63.far ?_ NB0_256.out _)|exact HI0.out)⟩,⟨by repeat (first|(with_reducible first|exact HK.out|apply KeepBut.set_|apply keep_drewN|apply keep_drew|apply keep_alloc|refine keep_far ?_ GW236.out _|refine keep_far ?_ GW244.out _|refine keep_far ?_ GW256.out _)|exact HK.out)⟩,⟨by repeat (first|(with_reducible first|exact HB.out|apply bA|apply bN|apply bD|refine bS ?_ (IsS63.ge HI0.out)|refine bS ?_ GE236.out|refine bS ?_ GE244.out|refine bS ?_ GE256.out)|exact HB.out)⟩⟩
    case rest =>
     clear HC18;(try clear c1);(try clear c2);(try clear p2);(try clear c3);(try clear p6);(try clear c10);(try clear c11);(try clear c12);(try clear c14);(try clear c14b0);(try clear c16);(try clear c20);(try clear hcz12_0);(try clear hfz12_0);(try clear p2)
     obtain ⟨kq,x35_17,rfl,HA,HJ17,HO_245000,HO_257000,BK236,BK244,BK256,HI0,HK,HB⟩:=hcut
     cases kq with
     | zero=>exact absurd HA.out (by simp [soundservicemade_Clock.j1])
     | succ kj17 =>
      have H:=HA.out
      clear HA
      simp only [soundservicemade_Clock.j1] at H
      by_cases c28:x35_17=true
      ·subst c28
       have H1:(soundservicemade_Clock.l0 kj17 (wrap64 (x5_1+(wrap64 (1+t247)))) (wrap64 (x6_1 - 1)) t251 t252)=some (r1,r2):=by rw [if_pos rfl] at H;exact H
       clear H;have H:=H1;clear H1
       have H':=Am H
       clear H
       have hnb29:=NB256_236.out
       have hnc29:=NB236_256.out
       have hnb30:=NB256_244.out
       have hnc30:=NB244_256.out
       have hnb31:=NB256_0.out
       have hnc31:=NB0_256.out
       have hcz32_0:wc.cell? ⟨gb256,0,none⟩=some (.slice Ao26 t252.length co26):=(blk_cell BK256.out 0).trans rfl
       have hfz32_0:=blk_frozen BK256.out 0
       have hnb33:=NB244_236.out
       have hnc33:=NB236_244.out
       have hnb34:=NB244_0.out
       have hnc34:=NB0_244.out
       have hcz35_0:wc.cell? ⟨gb244,0,none⟩=some (.slice Ao20 x245000_1.length co20):=(blk_cell BK244.out 0).trans rfl
       have hfz35_0:=blk_frozen BK244.out 0
       go_wp2
       go_roundg kj17
       case measure=>have:=HK1.out;have:=HJ17.out;omega
       case rel=>exact ⟨((wrap64 (x5_1+(wrap64 (1+t247))))),(wrap64 (x6_1 - 1)),(t251),(t252),(undef),(.slice Ao26 t252.length co26),(by first|rfl|(simp;done)|(simp [*];done)),(by first|rfl|(simp;done)|(simp [*];done)),H',⟨by have:=HK1.out;have:=HJ17.out;omega⟩,⟨by (with_reducible repeat first|apply Kd.R_alloc|apply Kd.R_drewN|apply Kd.R_drew);exact Kd.R_mono (Kd.R_far (p:=⟨gb244,0,none⟩) (Kd.R_types HO_257000.out BK244.out (by decide)) (fun _ hk=>hk.2) (.slice Ao26 t252.length co26)) (fun _ hk=>trivial)⟩,⟨by (with_reducible repeat first|apply kN|apply kD|apply kA);refine blk_far ?_ NB236_244.out _;(with_reducible repeat first|apply kN|apply kD|apply kA);exact BK236.out⟩,⟨by (with_reducible repeat first|apply kN|apply kD|apply kA);refine blk_put (cs:=#[.slice Ao20 x245000_1.length co20]) ?_ 0 _ rfl;(with_reducible repeat first|apply kN|apply kD|apply kA);exact BK244.out⟩,⟨by repeat (first|(with_reducible first|exact HI0.out|apply IsS63.alloc|apply IsS63.drewN|apply IsS63.drew|refine IsS63.far ?_ NB0_236.out _|refine IsS63.far ?_ NB0_244.out _|refine IsS63.far ?_ NB0_256.out _)|exact HI0.out)⟩,⟨by repeat (first|(with_reducible first|exact HK.out|apply KeepBut.set_|apply keep_drewN|apply keep_drew|apply keep_alloc|refine keep_far ?_ GW236.out _|refine keep_far ?_ GW244.out _|refine keep_far ?_ GW256.out _)|exact HK.out)⟩,⟨by repeat (first|(with_reducible first|exact HB.out|apply bA|apply bN|apply bD|refine bS ?_ (IsS63.ge HI0.out)|refine bS ?_ GE236.out|refine bS ?_ GE244.out|refine bS ?_ GE256.out)|exact HB.out)⟩⟩
      ·replace c28:=Bool.eq_false_iff.mpr c28
       subst c28
       have H1:(soundservicemade_Clock.l0 kj17 (wrap64 (x5_1+(wrap64 (1+t247)))) (wrap64 (x6_1 - 1)) t251 x245000_1)=some (r1,r2):=by rw [if_neg (show ¬ (false=true) by decide)] at H;exact H
       clear H;have H:=H1;clear H1
       have H':=Am H
       clear H
       go_wp2
       go_roundg kj17
       case measure=>have:=HK1.out;have:=HJ17.out;omega
       case rel=>exact ⟨((wrap64 (x5_1+(wrap64 (1+t247))))),(wrap64 (x6_1 - 1)),(t251),(x245000_1),(undef),(.slice Ao20 x245000_1.length co20),(by first|rfl|(simp;done)|(simp [*];done)),(by first|rfl|(simp;done)|(simp [*];done)),H',⟨by have:=HK1.out;have:=HJ17.out;omega⟩,⟨by (with_reducible repeat first|apply Kd.R_alloc|apply Kd.R_drewN|apply Kd.R_drew);exact Kd.R_mono HO_245000.out (fun _ hk=>trivial)⟩,⟨by (with_reducible repeat first|apply kN|apply kD|apply kA);exact BK236.out⟩,⟨by (with_reducible repeat first|apply kN|apply kD|apply kA);exact BK244.out⟩,⟨by repeat (first|(with_reducible first|exact HI0.out|apply IsS63.alloc|apply IsS63.drewN|apply IsS63.drew|refine IsS63.far ?_ NB0_236.out _|refine IsS63.far ?_ NB0_244.out _|refine IsS63.far ?_ NB0_256.out _)|exact HI0.out)⟩,⟨by repeat (first|(with_reducible first|exact HK.out|apply KeepBut.set_|apply keep_drewN|apply keep_drew|apply keep_alloc|refine keep_far ?_ GW236.out _|refine keep_far ?_ GW244.out _|refine keep_far ?_ GW256.out _)|exact HK.out)⟩,⟨by repeat (first|(with_reducible first|exact HB.out|apply bA|apply bN|apply bD|refine bS ?_ (IsS63.ge HI0.out)|refine bS ?_ GE236.out|refine bS ?_ GE244.out|refine bS ?_ GE256.out)|exact HB.out)⟩⟩
   ·rw [if_neg c14] at H
    have c14b0:decide (0 < x6_1)=false:=decide_eq_false c14
    clear c14
    simp only [Option.some.injEq,Prod.mk.injEq] at H
    obtain ⟨rfl,rfl⟩:=H
    have hnb36:=NB244_236.out
    have hnc36:=NB236_244.out
    have hnb37:=NB244_0.out
    have hnc37:=NB0_244.out
    have hcz38_0:wr.cell? ⟨gb244,0,none⟩=some (u245000):=(blk_cell BK244.out 0).trans rfl
    have hfz38_0:=blk_frozen BK244.out 0
    obtain ⟨Ao39,co39,eo39⟩:=Kd.R_slice HO_245000.out
    subst eo39
    have hnb40:=NB236_0.out
    have hnc40:=NB0_236.out
    have hcz41_0:wr.cell? ⟨gb236,0,none⟩=some (.slice none 0 0):=(blk_cell BK236.out 0).trans rfl
    have hfz41_0:=blk_frozen BK236.out 0
    go_wp2
    refine bodyPost_ret (results_cell_row rfl _ _ gb236 24 #[.slice Ao39 x245000_1.length co39] (0,0) _ rfl (by (with_reducible repeat first|apply kN|apply kD|apply kA);refine blk_put (cs:=#[.slice none 0 0]) ?_ 0 _ rfl;(with_reducible repeat first|apply kN|apply kD|apply kA);exact BK236.out) Try.underlying24 rfl (by kernel_rfl)) rfl ?_
    exact ⟨_,by first|rfl|(simp [errW_none,errW_some] <;> rfl)|(simp [*,errW_none,errW_some] <;> rfl),by (with_reducible repeat first|apply Kd.R_alloc|apply Kd.R_drewN|apply Kd.R_drew);exact Kd.R_mono (Kd.R_far (p:=⟨gb236,0,none⟩) (Kd.R_types HO_245000.out BK236.out (by decide)) (fun _ hk=>hk.2) (.slice Ao39 x245000_1.length co39)) (fun _ hk=>trivial),by repeat (first|(with_reducible first|exact HI0.out|apply IsS63.alloc|apply IsS63.drewN|apply IsS63.drew|refine IsS63.far ?_ NB0_236.out _|refine IsS63.far ?_ NB0_244.out _)|exact HI0.out),by repeat (first|(with_reducible first|exact HB.out|apply bA|apply bN|apply bD|refine bS ?_ (IsS63.ge HI0.out)|refine bS ?_ GE236.out|refine bS ?_ GE244.out)|exact HB.out),by repeat (first|(with_reducible first|exact HK.out|apply KeepBut.set_|apply keep_drewN|apply keep_drew|apply keep_alloc|refine keep_far ?_ GW236.out _|refine keep_far ?_ GW244.out _)|exact HK.out)⟩

end Go.Proofs.Ythnmmiofhjbkeaa.PA
