/- Walks of functions of the program: each does what its Lean function says. Written by a program of this session (wip/xprint), which runs the printer of the kit with changes. -/
import Derived.Test.YthnmmiofhjbkeaaPAx0
import Derived.Test.YthnmmiofhjbkeaaPAx2
import Derived.Test.YthnmmiofhjbkeaaPAx3
import Derived.Test.YthnmmiofhjbkeaaPAx4
import Derived.Test.YthnmmiofhjbkeaaPAx9
import Derived.Test.YthnmmiofhjbkeaaPAx10
namespace Go.Proofs.Ythnmmiofhjbkeaa.PA
open Go.RowKit Go.Proofs.YthnmmiofhjbkeaaW.PrintWords Go.Proofs.YthnmmiofhjbkeaaW.PrintLast Go.Proofs.YthnmmiofhjbkeaaW.PrintMore
attribute [local go_sem] max2_int min2_int max_two min_two max_three min_three max_four min_four   -- for this text's walks alone
set_option linter.unusedVariables false
set_option linter.unusedSimpArgs false

/-! ### soundservicelaw13_sane: function 9 -/
mutual
def soundservicelaw13_sane.j1:Nat→Bool→Option (Bool)
 | 0,_=>none
 | k+1,x0=>some x0
def soundservicelaw13_sane.j0:Nat→Bool→Option (Bool)
 | 0,_=>none
 | k+1,x0=>soundservicelaw13_sane.j1 k x0
end
def soundservicelaw13_sane.f (k:Nat)  : Option (Bool):=(clock_New.f k 1 2).bind fun bt164=>((clock_Change.f k bt164.1 3 1 1).bind fun bt169=>((clock_Position.f k bt169.1 5).bind fun bt173=>((clock_Position.f k bt169.1 3).bind fun bt175=>((clock_TimeOf.f k bt169.1 2).bind fun bt177=>(if bt164.2=0 then (if bt169.2=0 then (if bt173.2=0 then (if bt175.2=0 then (if bt177.2=0 then (if bt173.1=3 then (if bt175.1=1 then (if bt177.1=4 then ((clock_Valid.f k bt169.1).bind fun t179=>(soundservicelaw13_sane.j0 k t179)) else (soundservicelaw13_sane.j0 k false)) else (soundservicelaw13_sane.j0 k false)) else (soundservicelaw13_sane.j0 k false)) else (soundservicelaw13_sane.j0 k false)) else (soundservicelaw13_sane.j0 k false)) else (soundservicelaw13_sane.j0 k false)) else (soundservicelaw13_sane.j0 k false)) else (soundservicelaw13_sane.j0 k false))))))
theorem soundservicelaw13_sane.mono_l:∀ k,(∀ y0,LeO (soundservicelaw13_sane.j1 k y0) (soundservicelaw13_sane.j1 (k+1) y0))∧(∀ y0,LeO (soundservicelaw13_sane.j0 k y0) (soundservicelaw13_sane.j0 (k+1) y0))
 | 0=>⟨fun _ r h=>by simp [soundservicelaw13_sane.j1] at h,fun _ r h=>by simp [soundservicelaw13_sane.j0] at h⟩
 | k+1=>by
  obtain ⟨ih0,ih1⟩:=soundservicelaw13_sane.mono_l k
  refine ⟨?_,?_⟩
  ·intro y0
   unfold soundservicelaw13_sane.j1
   repeat' first
   | (with_reducible exact ih0 _)
   | (with_reducible exact ih1 _)
   | (with_reducible exact clock_Change.mono _ _ _ _ _)
   | (with_reducible exact clock_New.mono _ _ _)
   | (with_reducible exact clock_Position.mono _ _ _)
   | (with_reducible exact clock_TimeOf.mono _ _ _)
   | (with_reducible exact clock_Valid.mono _ _)
   | (with_reducible exact LeO.refl _)
   | (with_reducible exact LeO.none _)
   | (with_reducible refine LeO.ite ?_ ?_)
   | (with_reducible refine LeO.bind ?_ (fun _=>?_))
   | exact ih0 _
   | exact ih1 _
   | exact clock_Change.mono _ _ _ _ _
   | exact clock_New.mono _ _ _
   | exact clock_Position.mono _ _ _
   | exact clock_TimeOf.mono _ _ _
   | exact clock_Valid.mono _ _
   | exact LeO.none _
   | refine LeO.ite ?_ ?_
   | refine LeO.bind ?_ (fun _=>?_)
  ·intro y0
   unfold soundservicelaw13_sane.j0
   repeat' first
   | (with_reducible exact ih0 _)
   | (with_reducible exact ih1 _)
   | (with_reducible exact clock_Change.mono _ _ _ _ _)
   | (with_reducible exact clock_New.mono _ _ _)
   | (with_reducible exact clock_Position.mono _ _ _)
   | (with_reducible exact clock_TimeOf.mono _ _ _)
   | (with_reducible exact clock_Valid.mono _ _)
   | (with_reducible exact LeO.refl _)
   | (with_reducible exact LeO.none _)
   | (with_reducible refine LeO.ite ?_ ?_)
   | (with_reducible refine LeO.bind ?_ (fun _=>?_))
   | exact ih0 _
   | exact ih1 _
   | exact clock_Change.mono _ _ _ _ _
   | exact clock_New.mono _ _ _
   | exact clock_Position.mono _ _ _
   | exact clock_TimeOf.mono _ _ _
   | exact clock_Valid.mono _ _
   | exact LeO.none _
   | refine LeO.ite ?_ ?_
   | refine LeO.bind ?_ (fun _=>?_)
theorem soundservicelaw13_sane.mono:∀ k,LeO (soundservicelaw13_sane.f k ) (soundservicelaw13_sane.f (k+1) ):=by
 intro  k
 obtain ⟨ih0,ih1⟩:=soundservicelaw13_sane.mono_l k
 unfold soundservicelaw13_sane.f
 repeat' first
   | (with_reducible exact ih0 _)
   | (with_reducible exact ih1 _)
   | (with_reducible exact clock_Change.mono _ _ _ _ _)
   | (with_reducible exact clock_New.mono _ _ _)
   | (with_reducible exact clock_Position.mono _ _ _)
   | (with_reducible exact clock_TimeOf.mono _ _ _)
   | (with_reducible exact clock_Valid.mono _ _)
   | (with_reducible exact LeO.refl _)
   | (with_reducible exact LeO.none _)
   | (with_reducible refine LeO.ite ?_ ?_)
   | (with_reducible refine LeO.bind ?_ (fun _=>?_))
   | exact ih0 _
   | exact ih1 _
   | exact clock_Change.mono _ _ _ _ _
   | exact clock_New.mono _ _ _
   | exact clock_Position.mono _ _ _
   | exact clock_TimeOf.mono _ _ _
   | exact clock_Valid.mono _ _
   | exact LeO.none _
   | refine LeO.ite ?_ ?_
   | refine LeO.bind ?_ (fun _=>?_)
set_option maxHeartbeats 8000000 in
set_option maxRecDepth 100000 in
theorem soundservicelaw13_sane.calls (k:Nat)  (r:Bool) (w:World) (h:soundservicelaw13_sane.f k  = some r) :
  Calls Try.prog 9 #[] w fun e w'=>e=.returned (.bool r)∧Below w.heap.size w w':=by
 have hu27:=Try.underlying27
 have hu24:=Try.underlying24
 have HB:=Am (Below.refl w.heap.size w)
 have H:((clock_New.f k 1 2).bind fun bt164=>((clock_Change.f k bt164.1 3 1 1).bind fun bt169=>((clock_Position.f k bt169.1 5).bind fun bt173=>((clock_Position.f k bt169.1 3).bind fun bt175=>((clock_TimeOf.f k bt169.1 2).bind fun bt177=>(if bt164.2=0 then (if bt169.2=0 then (if bt173.2=0 then (if bt175.2=0 then (if bt177.2=0 then (if bt173.1=3 then (if bt175.1=1 then (if bt177.1=4 then ((clock_Valid.f k bt169.1).bind fun t179=>(soundservicelaw13_sane.j0 k t179)) else (soundservicelaw13_sane.j0 k false)) else (soundservicelaw13_sane.j0 k false)) else (soundservicelaw13_sane.j0 k false)) else (soundservicelaw13_sane.j0 k false)) else (soundservicelaw13_sane.j0 k false)) else (soundservicelaw13_sane.j0 k false)) else (soundservicelaw13_sane.j0 k false)) else (soundservicelaw13_sane.j0 k false)))))))=some r:=h
 clear h
 replace H:=Option.bind_eq_some_iff.mp H
 obtain ⟨⟨t164,t167⟩,A10,H⟩:=H
 replace H:((clock_Change.f k t164 3 1 1).bind fun bt169=>((clock_Position.f k bt169.1 5).bind fun bt173=>((clock_Position.f k bt169.1 3).bind fun bt175=>((clock_TimeOf.f k bt169.1 2).bind fun bt177=>(if t167=0 then (if bt169.2=0 then (if bt173.2=0 then (if bt175.2=0 then (if bt177.2=0 then (if bt173.1=3 then (if bt175.1=1 then (if bt177.1=4 then ((clock_Valid.f k bt169.1).bind fun t179=>(soundservicelaw13_sane.j0 k t179)) else (soundservicelaw13_sane.j0 k false)) else (soundservicelaw13_sane.j0 k false)) else (soundservicelaw13_sane.j0 k false)) else (soundservicelaw13_sane.j0 k false)) else (soundservicelaw13_sane.j0 k false)) else (soundservicelaw13_sane.j0 k false)) else (soundservicelaw13_sane.j0 k false)) else (soundservicelaw13_sane.j0 k false))))))=some r:=H
 have A1:=Am A10
 clear A10
 replace H:=Option.bind_eq_some_iff.mp H
 obtain ⟨⟨t169,t172⟩,A20,H⟩:=H
 replace H:((clock_Position.f k t169 5).bind fun bt173=>((clock_Position.f k t169 3).bind fun bt175=>((clock_TimeOf.f k t169 2).bind fun bt177=>(if t167=0 then (if t172=0 then (if bt173.2=0 then (if bt175.2=0 then (if bt177.2=0 then (if bt173.1=3 then (if bt175.1=1 then (if bt177.1=4 then ((clock_Valid.f k t169).bind fun t179=>(soundservicelaw13_sane.j0 k t179)) else (soundservicelaw13_sane.j0 k false)) else (soundservicelaw13_sane.j0 k false)) else (soundservicelaw13_sane.j0 k false)) else (soundservicelaw13_sane.j0 k false)) else (soundservicelaw13_sane.j0 k false)) else (soundservicelaw13_sane.j0 k false)) else (soundservicelaw13_sane.j0 k false)) else (soundservicelaw13_sane.j0 k false)))))=some r:=H
 have A2:=Am A20
 clear A20
 replace H:=Option.bind_eq_some_iff.mp H
 obtain ⟨⟨t173,t174⟩,A30,H⟩:=H
 replace H:((clock_Position.f k t169 3).bind fun bt175=>((clock_TimeOf.f k t169 2).bind fun bt177=>(if t167=0 then (if t172=0 then (if t174=0 then (if bt175.2=0 then (if bt177.2=0 then (if t173=3 then (if bt175.1=1 then (if bt177.1=4 then ((clock_Valid.f k t169).bind fun t179=>(soundservicelaw13_sane.j0 k t179)) else (soundservicelaw13_sane.j0 k false)) else (soundservicelaw13_sane.j0 k false)) else (soundservicelaw13_sane.j0 k false)) else (soundservicelaw13_sane.j0 k false)) else (soundservicelaw13_sane.j0 k false)) else (soundservicelaw13_sane.j0 k false)) else (soundservicelaw13_sane.j0 k false)) else (soundservicelaw13_sane.j0 k false))))=some r:=H
 have A3:=Am A30
 clear A30
 replace H:=Option.bind_eq_some_iff.mp H
 obtain ⟨⟨t175,t176⟩,A40,H⟩:=H
 replace H:((clock_TimeOf.f k t169 2).bind fun bt177=>(if t167=0 then (if t172=0 then (if t174=0 then (if t176=0 then (if bt177.2=0 then (if t173=3 then (if t175=1 then (if bt177.1=4 then ((clock_Valid.f k t169).bind fun t179=>(soundservicelaw13_sane.j0 k t179)) else (soundservicelaw13_sane.j0 k false)) else (soundservicelaw13_sane.j0 k false)) else (soundservicelaw13_sane.j0 k false)) else (soundservicelaw13_sane.j0 k false)) else (soundservicelaw13_sane.j0 k false)) else (soundservicelaw13_sane.j0 k false)) else (soundservicelaw13_sane.j0 k false)) else (soundservicelaw13_sane.j0 k false)))=some r:=H
 have A4:=Am A40
 clear A40
 replace H:=Option.bind_eq_some_iff.mp H
 obtain ⟨⟨t177,t178⟩,A50,H⟩:=H
 replace H:(if t167=0 then (if t172=0 then (if t174=0 then (if t176=0 then (if t178=0 then (if t173=3 then (if t175=1 then (if t177=4 then ((clock_Valid.f k t169).bind fun t179=>(soundservicelaw13_sane.j0 k t179)) else (soundservicelaw13_sane.j0 k false)) else (soundservicelaw13_sane.j0 k false)) else (soundservicelaw13_sane.j0 k false)) else (soundservicelaw13_sane.j0 k false)) else (soundservicelaw13_sane.j0 k false)) else (soundservicelaw13_sane.j0 k false)) else (soundservicelaw13_sane.j0 k false)) else (soundservicelaw13_sane.j0 k false))=some r:=H
 have A5:=Am A50
 clear A50
 have HC6:=Am H
 clear H
 go_enter Try.func9,Try.ntmps9
 go_upto_region 6 with (first|((with_reducible refine gate_callee (f:=11) rfl ?_);refine goesL_ (some 12) rfl rfl Try.func11 (by kernel_rfl) rfl #[.agg #[.int .i64 1, .int .i64 2]] rfl (by (try simp only [List.map_toArray,List.map_cons,List.map_nil]);first|done|rfl|(simp only [List.length_drop,List.length_take];rfl)) ?_;(with_reducible refine (clock_New.calls k 1 2 t164 t167 _ A1.out).mono ?_);rintro e w7 ⟨v165,rfl,ho0,hb⟩;refine ⟨_,rfl,?_⟩;have n0_:=Am (Kd.R_lower ho0 (below_size (by repeat (first|(with_reducible first|exact HB.out|apply bA|apply bN|apply bD)|exact HB.out))));have n1_:=Am (below_step (by repeat (first|(with_reducible first|exact HB.out|apply bA|apply bN|apply bD)|exact HB.out)) hb);clear HB;have HO166:=n0_;have HB:=n1_;clear n0_ n1_;(try clear hb);(try clear hk);(try clear ho0))|((with_reducible refine gate_dst (N:=1) rfl ?_);refine box_event ?hg (N:=1) ?hd (cs:=#[.slice none 0 0]) (t:=24) ?hr ?_;(case hd=>rfl);(case hg=>rfl);(case hr=>first|(go_simp;done)|(go_simp;rfl));intro gb168 hg w8 hbox hb;have n0_:=Am (Kd.R_below (by (with_reducible repeat first|apply Kd.R_alloc|apply Kd.R_drewN|apply Kd.R_drew);exact HO166.out) hb);have n1_:=Am (below_step (by repeat (first|(with_reducible first|exact HB.out|apply bA|apply bN|apply bD)|exact HB.out)) hb);have n2_:=Am (hbox);have n3_:=Am ((by rw [hg];exact (below_size (by repeat (first|(with_reducible first|exact HB.out|apply bA|apply bN|apply bD)|exact HB.out))):w.heap.size≤gb168));have n4_:=Am ((by rw [hg];exact (below_size (by repeat (first|(with_reducible first|exact HB.out|apply bA|apply bN|apply bD)|exact HB.out))):w.heap.size≤gb168));clear HO166 HB;have HO166:=n0_;have HB:=n1_;have BK168:=n2_;have GW168:=n3_;have GE168:=n4_;clear n0_ n1_ n2_ n3_ n4_ hb hbox hg;obtain ⟨Ao9,co9,eo9⟩:=Kd.R_slice HO166.out;subst eo9;have hcz10_0:w8.cell? ⟨gb168,0,none⟩=some (.slice none 0 0):=(blk_cell BK168.out 0).trans rfl;have hfz10_0:=blk_frozen BK168.out 0)|((with_reducible refine gate_callee (f:=15) rfl ?_);refine goesL_ (some 18) rfl rfl Try.func15 (by kernel_rfl) rfl #[.agg #[.slice Ao9 t164.length co9], .int .i64 3, .agg #[.int .i64 1, .int .i64 1]] rfl (by (try simp only [List.map_toArray,List.map_cons,List.map_nil]);first|done|rfl|(simp only [List.length_drop,List.length_take];rfl)) ?_;(with_reducible refine (clock_Change.calls k _ _ t164 3 1 1 t169 t172 _ ?side1 ?side2 A2.out).mono ?_);(case side1=>refine (Kd.R_reads' (e:=61) (base:=w.heap.size) (ok:=fun k_=>True) (n:=t164.length) (c:=co9) ?_).2.2;exact (by (with_reducible repeat first|apply Kd.R_alloc|apply Kd.R_drewN|apply Kd.R_drew);exact (Kd.R_mono (Kd.R_far (p:=⟨gb168,0,none⟩) (Kd.R_types HO166.out BK168.out (by decide)) (fun _ hk=>hk.2) (.slice Ao9 t164.length co9)) (fun _ h_=>h_.1))));(case side2=>exact (Kd.R_reads' HO166.out).2.1);rintro e w11 ⟨v170,rfl,ho0,hb⟩;refine ⟨_,rfl,?_⟩;have n0_:=Am (Kd.R_elder' (by (with_reducible repeat first|apply Kd.R_alloc|apply Kd.R_drewN|apply Kd.R_drew);exact (Kd.R_mono (Kd.R_far (p:=⟨gb168,0,none⟩) (Kd.R_types HO166.out BK168.out (by decide)) (fun _ hk=>hk.2) (.slice Ao9 t164.length co9)) (fun _ h_=>h_.1))) (Kd.R_base ho0) hb);have n1_:=Am (Kd.R_lower (Kd.R_new' ho0 (Kd.R_lt (by (with_reducible repeat first|apply Kd.R_alloc|apply Kd.R_drewN|apply Kd.R_drew);exact (Kd.R_mono (Kd.R_far (p:=⟨gb168,0,none⟩) (Kd.R_types HO166.out BK168.out (by decide)) (fun _ hk=>hk.2) (.slice Ao9 t164.length co9)) (fun _ h_=>h_.1))))) (below_size (by repeat (first|(with_reducible first|exact HB.out|apply bA|apply bN|apply bD|refine bS ?_ GE168.out)|exact HB.out))));have n2_:=Am (blk_below (g:=gb168) (o:=.cells #[.slice Ao9 t164.length co9] 24 (0,0)) (by (with_reducible repeat first|apply kN|apply kD|apply kA);refine blk_put (cs:=#[.slice none 0 0]) ?_ 0 _ rfl;(with_reducible repeat first|apply kN|apply kD|apply kA);exact BK168.out) hb);have n3_:=Am (below_step (by repeat (first|(with_reducible first|exact HB.out|apply bA|apply bN|apply bD|refine bS ?_ GE168.out)|exact HB.out)) hb);clear HO166 BK168 HB;have HO166:=n0_;have HO171:=n1_;have BK168:=n2_;have HB:=n3_;clear n0_ n1_ n2_ n3_;(try clear hb);(try clear hk);(try clear ho0);obtain ⟨Ao12,co12,eo12⟩:=Kd.R_slice HO171.out;subst eo12;have hcz13_0:w11.cell? ⟨gb168,0,none⟩=some (.slice Ao9 t164.length co9):=(blk_cell BK168.out 0).trans rfl;have hfz13_0:=blk_frozen BK168.out 0)|((with_reducible refine gate_callee (f:=21) rfl ?_);refine goesL_ (some 23) rfl rfl Try.func21 (by kernel_rfl) rfl #[.agg #[.slice Ao12 t169.length co12], .int .i64 5] rfl (by (try simp only [List.map_toArray,List.map_cons,List.map_nil]);first|done|rfl|(simp only [List.length_drop,List.length_take];rfl)) ?_;(with_reducible refine (clock_Position.calls k _ _ t169 5 t173 t174 _ ?side1 ?side2 A3.out).mono ?_);(case side1=>refine (Kd.R_reads' (e:=61) (base:=w.heap.size) (ok:=fun k_=>(True∧some k_≠(.slice Ao9 t164.length co9:Value).ownBlock)) (n:=t169.length) (c:=co12) ?_).2.2;exact (by (with_reducible repeat first|apply Kd.R_alloc|apply Kd.R_drewN|apply Kd.R_drew);exact (Kd.R_mono (Kd.R_far (p:=⟨gb168,0,none⟩) (Kd.R_types HO171.out BK168.out (by decide)) (fun _ hk=>hk.2) (.slice Ao12 t169.length co12)) (fun _ h_=>h_.1))));(case side2=>exact (Kd.R_reads' HO171.out).2.1);rintro e w14 ⟨rfl,hb⟩;refine ⟨_,rfl,?_⟩;have n0_:=Am (Kd.R_below (by (with_reducible repeat first|apply Kd.R_alloc|apply Kd.R_drewN|apply Kd.R_drew);exact (Kd.R_mono (Kd.R_far (p:=⟨gb168,0,none⟩) (Kd.R_types HO166.out BK168.out (by decide)) (fun _ hk=>hk.2) (.slice Ao12 t169.length co12)) (fun _ h_=>h_.1))) hb);have n1_:=Am (Kd.R_below (by (with_reducible repeat first|apply Kd.R_alloc|apply Kd.R_drewN|apply Kd.R_drew);exact (Kd.R_mono (Kd.R_far (p:=⟨gb168,0,none⟩) (Kd.R_types HO171.out BK168.out (by decide)) (fun _ hk=>hk.2) (.slice Ao12 t169.length co12)) (fun _ h_=>h_.1))) hb);have n2_:=Am (blk_below (g:=gb168) (o:=.cells #[.slice Ao12 t169.length co12] 24 (0,0)) (by (with_reducible repeat first|apply kN|apply kD|apply kA);refine blk_put (cs:=#[.slice Ao9 t164.length co9]) ?_ 0 _ rfl;(with_reducible repeat first|apply kN|apply kD|apply kA);exact BK168.out) hb);have n3_:=Am (below_step (by repeat (first|(with_reducible first|exact HB.out|apply bA|apply bN|apply bD|refine bS ?_ GE168.out)|exact HB.out)) hb);clear HO166 HO171 BK168 HB;have HO166:=n0_;have HO171:=n1_;have BK168:=n2_;have HB:=n3_;clear n0_ n1_ n2_ n3_;(try clear hb);(try clear hk);have hcz15_0:w14.cell? ⟨gb168,0,none⟩=some (.slice Ao12 t169.length co12):=(blk_cell BK168.out 0).trans rfl;have hfz15_0:=blk_frozen BK168.out 0)|((with_reducible refine gate_callee (f:=21) rfl ?_);refine goesL_ (some 28) rfl rfl Try.func21 (by kernel_rfl) rfl #[.agg #[.slice Ao12 t169.length co12], .int .i64 3] rfl (by (try simp only [List.map_toArray,List.map_cons,List.map_nil]);first|done|rfl|(simp only [List.length_drop,List.length_take];rfl)) ?_;(with_reducible refine (clock_Position.calls k _ _ t169 3 t175 t176 _ ?side1 ?side2 A4.out).mono ?_);(case side1=>repeat (first|exact (Kd.R_reads' HO171.out).2.2|(with_reducible refine Kd.C_alloc ?_ _)|(with_reducible refine Kd.C_drewN ?_ _)|(with_reducible refine Kd.C_drew ?_)));(case side2=>exact (Kd.R_reads' HO171.out).2.1);rintro e w16 ⟨rfl,hb⟩;refine ⟨_,rfl,?_⟩;have n0_:=Am (Kd.R_below (by (with_reducible repeat first|apply Kd.R_alloc|apply Kd.R_drewN|apply Kd.R_drew);exact HO166.out) hb);have n1_:=Am (Kd.R_below (by (with_reducible repeat first|apply Kd.R_alloc|apply Kd.R_drewN|apply Kd.R_drew);exact HO171.out) hb);have n2_:=Am (blk_below (g:=gb168) (o:=.cells #[.slice Ao12 t169.length co12] 24 (0,0)) (by (with_reducible repeat first|apply kN|apply kD|apply kA);exact BK168.out) hb);have n3_:=Am (below_step (by repeat (first|(with_reducible first|exact HB.out|apply bA|apply bN|apply bD|refine bS ?_ GE168.out)|exact HB.out)) hb);clear HO166 HO171 BK168 HB;have HO166:=n0_;have HO171:=n1_;have BK168:=n2_;have HB:=n3_;clear n0_ n1_ n2_ n3_;(try clear hb);(try clear hk);have hcz17_0:w16.cell? ⟨gb168,0,none⟩=some (.slice Ao12 t169.length co12):=(blk_cell BK168.out 0).trans rfl;have hfz17_0:=blk_frozen BK168.out 0)|((with_reducible refine gate_callee (f:=26) rfl ?_);refine goesL_ (some 33) rfl rfl Try.func26 (by kernel_rfl) rfl #[.agg #[.slice Ao12 t169.length co12], .int .i64 2] rfl (by (try simp only [List.map_toArray,List.map_cons,List.map_nil]);first|done|rfl|(simp only [List.length_drop,List.length_take];rfl)) ?_;(with_reducible refine (clock_TimeOf.calls k _ _ t169 2 t177 t178 _ ?side1 ?side2 A5.out).mono ?_);(case side1=>repeat (first|exact (Kd.R_reads' HO171.out).2.2|(with_reducible refine Kd.C_alloc ?_ _)|(with_reducible refine Kd.C_drewN ?_ _)|(with_reducible refine Kd.C_drew ?_)));(case side2=>exact (Kd.R_reads' HO171.out).2.1);rintro e w18 ⟨rfl,hb⟩;refine ⟨_,rfl,?_⟩;have n0_:=Am (Kd.R_below (by (with_reducible repeat first|apply Kd.R_alloc|apply Kd.R_drewN|apply Kd.R_drew);exact HO166.out) hb);have n1_:=Am (Kd.R_below (by (with_reducible repeat first|apply Kd.R_alloc|apply Kd.R_drewN|apply Kd.R_drew);exact HO171.out) hb);have n2_:=Am (blk_below (g:=gb168) (o:=.cells #[.slice Ao12 t169.length co12] 24 (0,0)) (by (with_reducible repeat first|apply kN|apply kD|apply kA);exact BK168.out) hb);have n3_:=Am (below_step (by repeat (first|(with_reducible first|exact HB.out|apply bA|apply bN|apply bD|refine bS ?_ GE168.out)|exact HB.out)) hb);clear HO166 HO171 BK168 HB;have HO166:=n0_;have HO171:=n1_;have BK168:=n2_;have HB:=n3_;clear n0_ n1_ n2_ n3_;(try clear hb);(try clear hk)))
 (try simp only [pL])
 go_cut [0] (fun v0 wc=>∃ (kq:Nat) (x0_5:Bool),v0=.bool x0_5∧Aside0 (soundservicelaw13_sane.j1 kq x0_5=some r)∧Aside0 (kq≤k)∧Aside0 (Kd.R k61 61 wc w.heap.size (fun _=>True) (.slice Ao12 t169.length co12) t169)∧Aside0 (wc.heap[gb168]?=some (.cells #[(.slice Ao12 t169.length co12)] 24 (0,0)))∧Aside0 (Below w.heap.size w wc))
 case first =>
  have H:=HC6.out
  clear HC6
  have HC19:=Am H
  clear H
  go_upto_region 6 with (fail)
  go_cut [0] (fun v0 wc=>∃ (kq:Nat) (x0_18:Bool),v0=.bool x0_18∧Aside0 (soundservicelaw13_sane.j0 kq x0_18=some r)∧Aside0 (kq≤k)∧Aside0 (Kd.R k61 61 wc w.heap.size (fun _=>True) (.slice Ao12 t169.length co12) t169)∧Aside0 (wc.heap[gb168]?=some (.cells #[(.slice Ao12 t169.length co12)] 24 (0,0)))∧Aside0 (Below w.heap.size w wc))
  case first =>
   have H:=HC19.out
   clear HC19
   by_cases c20:t167=0
   ·rw [if_pos c20] at H
    have c20b0:(t167 == 0)=true:=beq_iff_eq.mpr c20
    have c20b1:(t167 != 0)=false:=bne_eq_false_iff_eq.mpr c20
    clear c20
    (first|rw [c20b0]|(simp only [i64_w,i32_w];rw [c20b0])|skip)
    by_cases c21:t172=0
    ·rw [if_pos c21] at H
     have c21b0:(t172 == 0)=true:=beq_iff_eq.mpr c21
     have c21b1:(t172 != 0)=false:=bne_eq_false_iff_eq.mpr c21
     clear c21
     by_cases c22:t174=0
     ·rw [if_pos c22] at H
      have c22b0:(t174 == 0)=true:=beq_iff_eq.mpr c22
      have c22b1:(t174 != 0)=false:=bne_eq_false_iff_eq.mpr c22
      clear c22
      by_cases c23:t176=0
      ·rw [if_pos c23] at H
       have c23b0:(t176 == 0)=true:=beq_iff_eq.mpr c23
       have c23b1:(t176 != 0)=false:=bne_eq_false_iff_eq.mpr c23
       clear c23
       by_cases c24:t178=0
       ·rw [if_pos c24] at H
        have c24b0:(t178 == 0)=true:=beq_iff_eq.mpr c24
        have c24b1:(t178 != 0)=false:=bne_eq_false_iff_eq.mpr c24
        clear c24
        by_cases c25:t173=3
        ·rw [if_pos c25] at H
         have c25b0:(t173 == 3)=true:=beq_iff_eq.mpr c25
         have c25b1:(t173 != 3)=false:=bne_eq_false_iff_eq.mpr c25
         clear c25
         by_cases c26:t175=1
         ·rw [if_pos c26] at H
          have c26b0:(t175 == 1)=true:=beq_iff_eq.mpr c26
          have c26b1:(t175 != 1)=false:=bne_eq_false_iff_eq.mpr c26
          clear c26
          by_cases c27:t177=4
          ·rw [if_pos c27] at H
           have c27b0:(t177 == 4)=true:=beq_iff_eq.mpr c27
           have c27b1:(t177 != 4)=false:=bne_eq_false_iff_eq.mpr c27
           clear c27
           replace H:=Option.bind_eq_some_iff.mp H
           obtain ⟨t179,A280,H⟩:=H
           replace H:(soundservicelaw13_sane.j0 k t179)=some r:=H
           have A28:=Am A280
           clear A280
           have H':=Am H
           clear H
           have hcz29_0:w18.cell? ⟨gb168,0,none⟩=some (.slice Ao12 t169.length co12):=(blk_cell BK168.out 0).trans rfl
           have hfz29_0:=blk_frozen BK168.out 0
           go_wp2_with (first|(go_at_call 17;(with_reducible refine (clock_Valid.calls k _ _ t169 t179 _ ?side1 ?side2 A28.out).mono ?_);(case side1=>repeat (first|exact (Kd.R_reads' HO171.out).2.2|(with_reducible refine Kd.C_alloc ?_ _)|(with_reducible refine Kd.C_drewN ?_ _)|(with_reducible refine Kd.C_drew ?_)));(case side2=>exact (Kd.R_reads' HO171.out).2.1);rintro e w30 ⟨rfl,hb⟩;have n0_:=Am (Kd.R_below (by (with_reducible repeat first|apply Kd.R_alloc|apply Kd.R_drewN|apply Kd.R_drew);exact HO166.out) hb);have n1_:=Am (Kd.R_below (by (with_reducible repeat first|apply Kd.R_alloc|apply Kd.R_drewN|apply Kd.R_drew);exact HO171.out) hb);have n2_:=Am (blk_below (g:=gb168) (o:=.cells #[.slice Ao12 t169.length co12] 24 (0,0)) (by (with_reducible repeat first|apply kN|apply kD|apply kA);exact BK168.out) hb);have n3_:=Am (below_step (by repeat (first|(with_reducible first|exact HB.out|apply bA|apply bN|apply bD|refine bS ?_ GE168.out)|exact HB.out)) hb);clear HO166 HO171 BK168 HB;have HO166:=n0_;have HO171:=n1_;have BK168:=n2_;have HB:=n3_;clear n0_ n1_ n2_ n3_;(try clear hb);(try clear hk)))
           go_meet
           case rel=>exact ⟨_,(t179),(by first|rfl|(simp;done)|(simp [*];done)),H',⟨by first|omega|exact Nat.le_refl _⟩,⟨by (with_reducible repeat first|apply Kd.R_alloc|apply Kd.R_drewN|apply Kd.R_drew);exact Kd.R_mono HO171.out (fun _ hk=>trivial)⟩,⟨by (with_reducible repeat first|apply kN|apply kD|apply kA);exact BK168.out⟩,⟨by repeat (first|(with_reducible first|exact HB.out|apply bA|apply bN|apply bD|refine bS ?_ GE168.out)|exact HB.out)⟩⟩
          ·rw [if_neg c27] at H
           have c27b0:(t177 == 4)=false:=beq_eq_false_iff_ne.mpr c27
           have c27b1:(t177 != 4)=true:=bne_iff_ne.mpr c27
           have H':=Am H
           clear H
           go_wp2
           go_meet
           case rel=>exact ⟨_,(false),(by first|rfl|(simp;done)|(simp [*];done)),H',⟨by first|omega|exact Nat.le_refl _⟩,⟨by (with_reducible repeat first|apply Kd.R_alloc|apply Kd.R_drewN|apply Kd.R_drew);exact Kd.R_mono HO171.out (fun _ hk=>trivial)⟩,⟨by (with_reducible repeat first|apply kN|apply kD|apply kA);exact BK168.out⟩,⟨by repeat (first|(with_reducible first|exact HB.out|apply bA|apply bN|apply bD|refine bS ?_ GE168.out)|exact HB.out)⟩⟩
         ·rw [if_neg c26] at H
          have c26b0:(t175 == 1)=false:=beq_eq_false_iff_ne.mpr c26
          have c26b1:(t175 != 1)=true:=bne_iff_ne.mpr c26
          have H':=Am H
          clear H
          go_wp2
          go_meet
          case rel=>exact ⟨_,(false),(by first|rfl|(simp;done)|(simp [*];done)),H',⟨by first|omega|exact Nat.le_refl _⟩,⟨by (with_reducible repeat first|apply Kd.R_alloc|apply Kd.R_drewN|apply Kd.R_drew);exact Kd.R_mono HO171.out (fun _ hk=>trivial)⟩,⟨by (with_reducible repeat first|apply kN|apply kD|apply kA);exact BK168.out⟩,⟨by repeat (first|(with_reducible first|exact HB.out|apply bA|apply bN|apply bD|refine bS ?_ GE168.out)|exact HB.out)⟩⟩
        ·rw [if_neg c25] at H
         have c25b0:(t173 == 3)=false:=beq_eq_false_iff_ne.mpr c25
         have c25b1:(t173 != 3)=true:=bne_iff_ne.mpr c25
         have H':=Am H
         clear H
         go_wp2
         go_meet
         case rel=>exact ⟨_,(false),(by first|rfl|(simp;done)|(simp [*];done)),H',⟨by first|omega|exact Nat.le_refl _⟩,⟨by (with_reducible repeat first|apply Kd.R_alloc|apply Kd.R_drewN|apply Kd.R_drew);exact Kd.R_mono HO171.out (fun _ hk=>trivial)⟩,⟨by (with_reducible repeat first|apply kN|apply kD|apply kA);exact BK168.out⟩,⟨by repeat (first|(with_reducible first|exact HB.out|apply bA|apply bN|apply bD|refine bS ?_ GE168.out)|exact HB.out)⟩⟩
       ·rw [if_neg c24] at H
        have c24b0:(t178 == 0)=false:=beq_eq_false_iff_ne.mpr c24
        have c24b1:(t178 != 0)=true:=bne_iff_ne.mpr c24
        have H':=Am H
        clear H
        go_wp2
        go_meet
        case rel=>exact ⟨_,(false),(by first|rfl|(simp;done)|(simp [*];done)),H',⟨by first|omega|exact Nat.le_refl _⟩,⟨by (with_reducible repeat first|apply Kd.R_alloc|apply Kd.R_drewN|apply Kd.R_drew);exact Kd.R_mono HO171.out (fun _ hk=>trivial)⟩,⟨by (with_reducible repeat first|apply kN|apply kD|apply kA);exact BK168.out⟩,⟨by repeat (first|(with_reducible first|exact HB.out|apply bA|apply bN|apply bD|refine bS ?_ GE168.out)|exact HB.out)⟩⟩
      ·rw [if_neg c23] at H
       have c23b0:(t176 == 0)=false:=beq_eq_false_iff_ne.mpr c23
       have c23b1:(t176 != 0)=true:=bne_iff_ne.mpr c23
       have H':=Am H
       clear H
       go_wp2
       go_meet
       case rel=>exact ⟨_,(false),(by first|rfl|(simp;done)|(simp [*];done)),H',⟨by first|omega|exact Nat.le_refl _⟩,⟨by (with_reducible repeat first|apply Kd.R_alloc|apply Kd.R_drewN|apply Kd.R_drew);exact Kd.R_mono HO171.out (fun _ hk=>trivial)⟩,⟨by (with_reducible repeat first|apply kN|apply kD|apply kA);exact BK168.out⟩,⟨by repeat (first|(with_reducible first|exact HB.out|apply bA|apply bN|apply bD|refine bS ?_ GE168.out)|exact HB.out)⟩⟩
     ·rw [if_neg c22] at H
      have c22b0:(t174 == 0)=false:=beq_eq_false_iff_ne.mpr c22
      have c22b1:(t174 != 0)=true:=bne_iff_ne.mpr c22
      have H':=Am H
      clear H
      go_wp2
      go_meet
      case rel=>exact ⟨_,(false),(by first|rfl|(simp;done)|(simp [*];done)),H',⟨by first|omega|exact Nat.le_refl _⟩,⟨by (with_reducible repeat first|apply Kd.R_alloc|apply Kd.R_drewN|apply Kd.R_drew);exact Kd.R_mono HO171.out (fun _ hk=>trivial)⟩,⟨by (with_reducible repeat first|apply kN|apply kD|apply kA);exact BK168.out⟩,⟨by repeat (first|(with_reducible first|exact HB.out|apply bA|apply bN|apply bD|refine bS ?_ GE168.out)|exact HB.out)⟩⟩
    ·rw [if_neg c21] at H
     have c21b0:(t172 == 0)=false:=beq_eq_false_iff_ne.mpr c21
     have c21b1:(t172 != 0)=true:=bne_iff_ne.mpr c21
     have H':=Am H
     clear H
     go_wp2
     go_meet
     case rel=>exact ⟨_,(false),(by first|rfl|(simp;done)|(simp [*];done)),H',⟨by first|omega|exact Nat.le_refl _⟩,⟨by (with_reducible repeat first|apply Kd.R_alloc|apply Kd.R_drewN|apply Kd.R_drew);exact Kd.R_mono HO171.out (fun _ hk=>trivial)⟩,⟨by (with_reducible repeat first|apply kN|apply kD|apply kA);exact BK168.out⟩,⟨by repeat (first|(with_reducible first|exact HB.out|apply bA|apply bN|apply bD|refine bS ?_ GE168.out)|exact HB.out)⟩⟩
   ·rw [if_neg c20] at H
    have c20b0:(t167 == 0)=false:=beq_eq_false_iff_ne.mpr c20
    have c20b1:(t167 != 0)=true:=bne_iff_ne.mpr c20
    (first|rw [c20b0]|(simp only [i64_w,i32_w];rw [c20b0])|skip)
    have H':=Am H
    clear H
    go_wp2
    go_meet
    case rel=>exact ⟨_,(false),(by first|rfl|(simp;done)|(simp [*];done)),H',⟨by first|omega|exact Nat.le_refl _⟩,⟨by (with_reducible repeat first|apply Kd.R_alloc|apply Kd.R_drewN|apply Kd.R_drew);exact Kd.R_mono HO171.out (fun _ hk=>trivial)⟩,⟨by (with_reducible repeat first|apply kN|apply kD|apply kA);exact BK168.out⟩,⟨by repeat (first|(with_reducible first|exact HB.out|apply bA|apply bN|apply bD|refine bS ?_ GE168.out)|exact HB.out)⟩⟩
  case rest =>
   clear HC19;(try clear c1);(try clear c2);(try clear p2);(try clear c9);(try clear c11);(try clear c15);(try clear c20);(try clear c20b0);(try clear c20b1);(try clear c21);(try clear c21b0);(try clear c21b1);(try clear c22);(try clear c22b0);(try clear c22b1);(try clear c23);(try clear c23b0);(try clear c23b1);(try clear c24);(try clear c24b0);(try clear c24b1);(try clear c25);(try clear c25b0);(try clear c25b1);(try clear c26);(try clear c26b0);(try clear c26b1);(try clear c27);(try clear c27b0);(try clear c27b1);(try clear hcz10_0);(try clear hcz13_0);(try clear hcz15_0);(try clear hcz17_0);(try clear hcz29_0);(try clear hfz10_0);(try clear hfz13_0);(try clear hfz15_0);(try clear hfz17_0);(try clear hfz29_0)
   obtain ⟨kq,x0_18,rfl,HA,HJ18,HO_169000,BK168,HB⟩:=hcut
   cases kq with
   | zero=>exact absurd HA.out (by simp [soundservicelaw13_sane.j0])
   | succ kj18 =>
    have H:=HA.out
    clear HA
    simp only [soundservicelaw13_sane.j0] at H
    have H':=Am H
    clear H
    go_wp2
    go_meet
    case rel=>exact ⟨_,(x0_18),(by first|rfl|(simp;done)|(simp [*];done)),H',⟨by have:=HJ18.out;first|omega|exact Nat.le_refl _⟩,⟨by (with_reducible repeat first|apply Kd.R_alloc|apply Kd.R_drewN|apply Kd.R_drew);exact HO_169000.out⟩,⟨by (with_reducible repeat first|apply kN|apply kD|apply kA);exact BK168.out⟩,⟨by repeat (first|(with_reducible first|exact HB.out|apply bA|apply bN|apply bD|refine bS ?_ GE168.out)|exact HB.out)⟩⟩
 case rest =>
  clear HC6;(try clear c1);(try clear c2);(try clear p2);(try clear c9);(try clear c11);(try clear c15);(try clear c20);(try clear c20b0);(try clear c20b1);(try clear c21);(try clear c21b0);(try clear c21b1);(try clear c22);(try clear c22b0);(try clear c22b1);(try clear c23);(try clear c23b0);(try clear c23b1);(try clear c24);(try clear c24b0);(try clear c24b1);(try clear c25);(try clear c25b0);(try clear c25b1);(try clear c26);(try clear c26b0);(try clear c26b1);(try clear c27);(try clear c27b0);(try clear c27b1);(try clear hcz10_0);(try clear hcz13_0);(try clear hcz15_0);(try clear hcz17_0);(try clear hcz29_0);(try clear hfz10_0);(try clear hfz13_0);(try clear hfz15_0);(try clear hfz17_0);(try clear hfz29_0);(try clear p2)
  obtain ⟨kq,x0_5,rfl,HA,HJ5,HO_169000,BK168,HB⟩:=hcut
  cases kq with
  | zero=>exact absurd HA.out (by simp [soundservicelaw13_sane.j1])
  | succ kj5 =>
   have H:=HA.out
   clear HA
   simp only [soundservicelaw13_sane.j1] at H
   obtain rfl:=Option.some.inj H
   go_wp2
   go_ret
   exact ⟨by first|rfl|(simp [errW_none,errW_some] <;> rfl)|(simp [*,errW_none,errW_some] <;> rfl),by repeat (first|(with_reducible first|exact HB.out|apply bA|apply bN|apply bD|refine bS ?_ GE168.out)|exact HB.out)⟩

/-! ### soundservicekeep_Clock: function 10 -/
def soundservicekeep_Clock.f (l0_0:List (S61)):Option (Bool):=some (decide ((l0_0.length:Int)≤66))
set_option maxHeartbeats 8000000 in
set_option maxRecDepth 100000 in
theorem soundservicekeep_Clock.calls (A0_0:Option Addr) (c0_0:Nat) (l0_0:List (S61)) (r:Bool) (w:World) (hr0_0:Kd.C k61 w A0_0 l0_0.length l0_0) (hc0_0:l0_0.length≤c0_0) (h:soundservicekeep_Clock.f l0_0=some r) :
  Calls Try.prog 10 #[.agg #[.slice A0_0 l0_0.length c0_0]] w fun e w'=>e=.returned (.bool r)∧Below w.heap.size w w':=by
 have hu24:=Try.underlying24
 have HR0_0:=Am hr0_0
 have HC0_0:=Am hc0_0
 clear hr0_0 hc0_0
 have HB:=Am (Below.refl w.heap.size w)
 have H:(some (decide ((l0_0.length:Int)≤66)))=some r:=h
 clear h
 obtain rfl:=Option.some.inj H
 go_enter Try.func10,Try.ntmps10
 go_wp2_with (first|((with_reducible refine gate_dst (N:=1) rfl ?_);refine box_event ?hg (N:=1) ?hd (cs:=#[.slice A0_0 l0_0.length c0_0]) (t:=24) ?hr ?_;(case hd=>rfl);(case hg=>rfl);(case hr=>first|(go_simp;done)|(go_simp;rfl));intro gb180 hg w2 hbox hb;have n0_:=Am (below_step (by repeat (first|(with_reducible first|exact HB.out|apply bA|apply bN|apply bD)|exact HB.out)) hb);have n1_:=Am (hbox);have n2_:=Am ((by rw [hg];exact (below_size (by repeat (first|(with_reducible first|exact HB.out|apply bA|apply bN|apply bD)|exact HB.out))):w.heap.size≤gb180));have n3_:=Am ((by rw [hg];exact (below_size (by repeat (first|(with_reducible first|exact HB.out|apply bA|apply bN|apply bD)|exact HB.out))):w.heap.size≤gb180));clear HB;have HB:=n0_;have BK180:=n1_;have GW180:=n2_;have GE180:=n3_;clear n0_ n1_ n2_ n3_ hb hbox hg;have hcz3_0:w2.cell? ⟨gb180,0,none⟩=some (.slice A0_0 l0_0.length c0_0):=(blk_cell BK180.out 0).trans rfl;have hfz3_0:=blk_frozen BK180.out 0))
 go_ret
 exact ⟨by first|rfl|(simp [errW_none,errW_some] <;> rfl)|(simp [*,errW_none,errW_some] <;> rfl),by repeat (first|(with_reducible first|exact HB.out|apply bA|apply bN|apply bD|refine bS ?_ GE180.out)|exact HB.out)⟩

/-! ### soundserviceref03_gcd: function 34 -/
def soundserviceref03_gcd.l0:Nat→Int→Int→Option (Int)
 | 0,_,_=>none
 | k+1,x0,x1=>if x1=0 then (some x0) else (soundserviceref03_gcd.l0 k x1 (Int.tmod x0 x1))
def soundserviceref03_gcd.f (k:Nat) (a0:Int) (a1:Int):Option (Int):=soundserviceref03_gcd.l0 k a0 a1
theorem soundserviceref03_gcd.mono_l:∀ k,(∀ y0 y1,LeO (soundserviceref03_gcd.l0 k y0 y1) (soundserviceref03_gcd.l0 (k+1) y0 y1))
 | 0=>fun _ _ r h=>by simp [soundserviceref03_gcd.l0] at h
 | k+1=>by
  have ih0:=soundserviceref03_gcd.mono_l k
  ·intro y0 y1
   unfold soundserviceref03_gcd.l0
   repeat' first
   | (with_reducible exact ih0 _ _)
   | (with_reducible exact LeO.refl _)
   | (with_reducible exact LeO.none _)
   | (with_reducible refine LeO.ite ?_ ?_)
   | (with_reducible refine LeO.bind ?_ (fun _=>?_))
   | exact ih0 _ _
   | exact LeO.none _
   | refine LeO.ite ?_ ?_
   | refine LeO.bind ?_ (fun _=>?_)
theorem soundserviceref03_gcd.mono:∀ a0 a1 k,LeO (soundserviceref03_gcd.f k a0 a1) (soundserviceref03_gcd.f (k+1) a0 a1):=by
 intro a0 a1 k
 have ih0:=soundserviceref03_gcd.mono_l k
 unfold soundserviceref03_gcd.f
 repeat' first
   | (with_reducible exact ih0 _ _)
   | (with_reducible exact LeO.refl _)
   | (with_reducible exact LeO.none _)
   | (with_reducible refine LeO.ite ?_ ?_)
   | (with_reducible refine LeO.bind ?_ (fun _=>?_))
   | exact ih0 _ _
   | exact LeO.none _
   | refine LeO.ite ?_ ?_
   | refine LeO.bind ?_ (fun _=>?_)
set_option maxHeartbeats 8000000 in
set_option maxRecDepth 100000 in
theorem soundserviceref03_gcd.calls (k:Nat) (a0:Int) (a1:Int) (r:Int) (w:World) (h:soundserviceref03_gcd.f k a0 a1=some r) :
  Calls Try.prog 34 #[.int .i64 a0, .int .i64 a1] w fun e w'=>e=.returned (.int .i64 r)∧Drawn0 w w':=by
 have H:(soundserviceref03_gcd.l0 k a0 a1)=some r:=h
 clear h
 have H':=Am H
 clear H
 go_enter Try.func34,Try.ntmps34
 go_wp2
 repeat (go_quiet (fail);try go_wp2)
 go_loopg [0,1] k (fun kq v0 v1 w'=>∃ (x0_1:Int) (x1_1:Int),v0=.int .i64 x0_1∧v1=.int .i64 x1_1∧Aside0 (soundserviceref03_gcd.l0 kq x0_1 x1_1=some r)∧Aside0 (kq≤k)∧Drawn0 w w')
 case atStart=>exact ⟨(a0),(a1),(by first|rfl|(simp;done)|(simp [*];done)),(by first|rfl|(simp;done)|(simp [*];done)),H',⟨Nat.le_refl _⟩,by repeat (first|exact Drawn0.refl _|apply Drawn0.step)⟩
 case round =>
  clear H'
  (try clear p2)
  obtain ⟨x0_1,x1_1,rfl,rfl,HA,HK1,⟨m1,rfl⟩⟩:=hrel
  cases gk with
  | zero=>exact absurd HA.out (by simp [soundserviceref03_gcd.l0])
  | succ k1 =>
   have H:=HA.out
   clear HA
   simp only [soundserviceref03_gcd.l0] at H
   by_cases c3:x1_1=0
   ·rw [if_pos c3] at H
    have c3b0:(x1_1 == 0)=true:=beq_iff_eq.mpr c3
    have c3b1:(x1_1 != 0)=false:=bne_eq_false_iff_eq.mpr c3
    clear c3
    obtain rfl:=Option.some.inj H
    go_wp2
    repeat (go_quiet (fail);try go_wp2)
    go_ret
    exact ⟨by first|rfl|(simp;done)|(simp [*];done),by repeat (first|exact Drawn0.refl _|apply Drawn0.step)⟩
   ·rw [if_neg c3] at H
    have c3b0:(x1_1 == 0)=false:=beq_eq_false_iff_ne.mpr c3
    have c3b1:(x1_1 != 0)=true:=bne_iff_ne.mpr c3
    have H':=Am H
    clear H
    go_wp2
    repeat (go_quiet (fail);try go_wp2)
    go_roundg k1
    case measure=>have:=HK1.out;omega
    case rel=>exact ⟨(x1_1),(Int.tmod x0_1 x1_1),(by first|rfl|(simp;done)|(simp [*];done)),(by first|rfl|(simp;done)|(simp [*];done)),H',⟨by have:=HK1.out;omega⟩,by repeat (first|exact Drawn0.refl _|apply Drawn0.step)⟩

/-! ### soundserviceref03_Valid: function 44 -/
def soundserviceref03_Valid.f (k:Nat) (a0_0:Int) (a0_1:Int):Option (Bool):=if a0_0 ≥ 1 then (if a0_1 ≥ 1 then (if a0_0≤68719476736 then (if a0_1≤68719476736 then ((soundserviceref03_gcd.f k a0_0 a0_1).bind fun t182=>(some (t182 == 1))) else (some false)) else (some false)) else (some false)) else (some false)
theorem soundserviceref03_Valid.mono:∀ a0 a1 k,LeO (soundserviceref03_Valid.f k a0 a1) (soundserviceref03_Valid.f (k+1) a0 a1):=by
 intro a0 a1 k
 unfold soundserviceref03_Valid.f
 repeat' first
   | (with_reducible exact soundserviceref03_gcd.mono _ _ _)
   | (with_reducible exact LeO.refl _)
   | (with_reducible exact LeO.none _)
   | (with_reducible refine LeO.ite ?_ ?_)
   | (with_reducible refine LeO.bind ?_ (fun _=>?_))
   | exact soundserviceref03_gcd.mono _ _ _
   | exact LeO.none _
   | refine LeO.ite ?_ ?_
   | refine LeO.bind ?_ (fun _=>?_)
set_option maxHeartbeats 8000000 in
set_option maxRecDepth 100000 in
theorem soundserviceref03_Valid.calls (k:Nat) (a0_0:Int) (a0_1:Int) (r:Bool) (w:World) (h:soundserviceref03_Valid.f k a0_0 a0_1=some r) :
  Calls Try.prog 44 #[.agg #[.int .i64 a0_0, .int .i64 a0_1]] w fun e w'=>e=.returned (.bool r)∧Below w.heap.size w w':=by
 have hu27:=Try.underlying27
 have HB:=Am (Below.refl w.heap.size w)
 have H:(if a0_0 ≥ 1 then (if a0_1 ≥ 1 then (if a0_0≤68719476736 then (if a0_1≤68719476736 then ((soundserviceref03_gcd.f k a0_0 a0_1).bind fun t182=>(some (t182 == 1))) else (some false)) else (some false)) else (some false)) else (some false))=some r:=h
 clear h
 by_cases c2:a0_0 ≥ 1
 ·rw [if_pos c2] at H
  have c2b0:decide (1≤a0_0)=true:=decide_eq_true c2
  clear c2
  by_cases c3:a0_1 ≥ 1
  ·rw [if_pos c3] at H
   have c3b0:decide (1≤a0_1)=true:=decide_eq_true c3
   clear c3
   by_cases c4:a0_0≤68719476736
   ·rw [if_pos c4] at H
    have c4b0:decide (a0_0≤68719476736)=true:=decide_eq_true c4
    clear c4
    by_cases c5:a0_1≤68719476736
    ·rw [if_pos c5] at H
     have c5b0:decide (a0_1≤68719476736)=true:=decide_eq_true c5
     clear c5
     replace H:=Option.bind_eq_some_iff.mp H
     obtain ⟨t182,A60,H⟩:=H
     replace H:(some (t182 == 1))=some r:=H
     have A6:=Am A60
     clear A60
     obtain rfl:=Option.some.inj H
     go_enter Try.func44,Try.ntmps44
     go_wp2_with (first|((with_reducible refine gate_dst (N:=1) rfl ?_);refine box_event ?hg (N:=1) ?hd (cs:=#[.int .i64 a0_0, .int .i64 a0_1]) (t:=27) ?hr ?_;(case hd=>rfl);(case hg=>rfl);(case hr=>first|(go_simp;done)|(go_simp;rfl));intro gb181 hg w7 hbox hb;have n0_:=Am (below_step (by repeat (first|(with_reducible first|exact HB.out|apply bA|apply bN|apply bD)|exact HB.out)) hb);have n1_:=Am (hbox);have n2_:=Am ((by rw [hg];exact (below_size (by repeat (first|(with_reducible first|exact HB.out|apply bA|apply bN|apply bD)|exact HB.out))):w.heap.size≤gb181));have n3_:=Am ((by rw [hg];exact (below_size (by repeat (first|(with_reducible first|exact HB.out|apply bA|apply bN|apply bD)|exact HB.out))):w.heap.size≤gb181));clear HB;have HB:=n0_;have BK181:=n1_;have GW181:=n2_;have GE181:=n3_;clear n0_ n1_ n2_ n3_ hb hbox hg;have hcz8_0:w7.cell? ⟨gb181,0,none⟩=some (.int .i64 a0_0):=(blk_cell BK181.out 0).trans rfl;have hcz8_1:w7.cell? ⟨gb181,1,none⟩=some (.int .i64 a0_1):=(blk_cell BK181.out 1).trans rfl;have hfz8_0:=blk_frozen BK181.out 0;have hfz8_1:=blk_frozen BK181.out 1)|(go_at_call 34;(with_reducible refine (soundserviceref03_gcd.calls k a0_0 a0_1 t182 _ A6.out).mono ?_);rintro e w' ⟨rfl,⟨nd,rfl⟩⟩))
     go_ret
     exact ⟨by first|rfl|(simp [errW_none,errW_some] <;> rfl)|(simp [*,errW_none,errW_some] <;> rfl),by repeat (first|(with_reducible first|exact HB.out|apply bA|apply bN|apply bD|refine bS ?_ GE181.out)|exact HB.out)⟩
    ·rw [if_neg c5] at H
     have c5b0:decide (a0_1≤68719476736)=false:=decide_eq_false c5
     clear c5
     obtain rfl:=Option.some.inj H
     go_enter Try.func44,Try.ntmps44
     go_wp2_with (first|((with_reducible refine gate_dst (N:=1) rfl ?_);refine box_event ?hg (N:=1) ?hd (cs:=#[.int .i64 a0_0, .int .i64 a0_1]) (t:=27) ?hr ?_;(case hd=>rfl);(case hg=>rfl);(case hr=>first|(go_simp;done)|(go_simp;rfl));intro gb181 hg w9 hbox hb;have n0_:=Am (below_step (by repeat (first|(with_reducible first|exact HB.out|apply bA|apply bN|apply bD)|exact HB.out)) hb);have n1_:=Am (hbox);have n2_:=Am ((by rw [hg];exact (below_size (by repeat (first|(with_reducible first|exact HB.out|apply bA|apply bN|apply bD)|exact HB.out))):w.heap.size≤gb181));have n3_:=Am ((by rw [hg];exact (below_size (by repeat (first|(with_reducible first|exact HB.out|apply bA|apply bN|apply bD)|exact HB.out))):w.heap.size≤gb181));clear HB;have HB:=n0_;have BK181:=n1_;have GW181:=n2_;have GE181:=n3_;clear n0_ n1_ n2_ n3_ hb hbox hg;have hcz10_0:w9.cell? ⟨gb181,0,none⟩=some (.int .i64 a0_0):=(blk_cell BK181.out 0).trans rfl;have hcz10_1:w9.cell? ⟨gb181,1,none⟩=some (.int .i64 a0_1):=(blk_cell BK181.out 1).trans rfl;have hfz10_0:=blk_frozen BK181.out 0;have hfz10_1:=blk_frozen BK181.out 1))
     go_ret
     exact ⟨by first|rfl|(simp [errW_none,errW_some] <;> rfl)|(simp [*,errW_none,errW_some] <;> rfl),by repeat (first|(with_reducible first|exact HB.out|apply bA|apply bN|apply bD|refine bS ?_ GE181.out)|exact HB.out)⟩
   ·rw [if_neg c4] at H
    have c4b0:decide (a0_0≤68719476736)=false:=decide_eq_false c4
    clear c4
    obtain rfl:=Option.some.inj H
    go_enter Try.func44,Try.ntmps44
    go_wp2_with (first|((with_reducible refine gate_dst (N:=1) rfl ?_);refine box_event ?hg (N:=1) ?hd (cs:=#[.int .i64 a0_0, .int .i64 a0_1]) (t:=27) ?hr ?_;(case hd=>rfl);(case hg=>rfl);(case hr=>first|(go_simp;done)|(go_simp;rfl));intro gb181 hg w11 hbox hb;have n0_:=Am (below_step (by repeat (first|(with_reducible first|exact HB.out|apply bA|apply bN|apply bD)|exact HB.out)) hb);have n1_:=Am (hbox);have n2_:=Am ((by rw [hg];exact (below_size (by repeat (first|(with_reducible first|exact HB.out|apply bA|apply bN|apply bD)|exact HB.out))):w.heap.size≤gb181));have n3_:=Am ((by rw [hg];exact (below_size (by repeat (first|(with_reducible first|exact HB.out|apply bA|apply bN|apply bD)|exact HB.out))):w.heap.size≤gb181));clear HB;have HB:=n0_;have BK181:=n1_;have GW181:=n2_;have GE181:=n3_;clear n0_ n1_ n2_ n3_ hb hbox hg;have hcz12_0:w11.cell? ⟨gb181,0,none⟩=some (.int .i64 a0_0):=(blk_cell BK181.out 0).trans rfl;have hcz12_1:w11.cell? ⟨gb181,1,none⟩=some (.int .i64 a0_1):=(blk_cell BK181.out 1).trans rfl;have hfz12_0:=blk_frozen BK181.out 0;have hfz12_1:=blk_frozen BK181.out 1))
    go_ret
    exact ⟨by first|rfl|(simp [errW_none,errW_some] <;> rfl)|(simp [*,errW_none,errW_some] <;> rfl),by repeat (first|(with_reducible first|exact HB.out|apply bA|apply bN|apply bD|refine bS ?_ GE181.out)|exact HB.out)⟩
  ·rw [if_neg c3] at H
   have c3b0:decide (1≤a0_1)=false:=decide_eq_false c3
   clear c3
   obtain rfl:=Option.some.inj H
   go_enter Try.func44,Try.ntmps44
   go_wp2_with (first|((with_reducible refine gate_dst (N:=1) rfl ?_);refine box_event ?hg (N:=1) ?hd (cs:=#[.int .i64 a0_0, .int .i64 a0_1]) (t:=27) ?hr ?_;(case hd=>rfl);(case hg=>rfl);(case hr=>first|(go_simp;done)|(go_simp;rfl));intro gb181 hg w13 hbox hb;have n0_:=Am (below_step (by repeat (first|(with_reducible first|exact HB.out|apply bA|apply bN|apply bD)|exact HB.out)) hb);have n1_:=Am (hbox);have n2_:=Am ((by rw [hg];exact (below_size (by repeat (first|(with_reducible first|exact HB.out|apply bA|apply bN|apply bD)|exact HB.out))):w.heap.size≤gb181));have n3_:=Am ((by rw [hg];exact (below_size (by repeat (first|(with_reducible first|exact HB.out|apply bA|apply bN|apply bD)|exact HB.out))):w.heap.size≤gb181));clear HB;have HB:=n0_;have BK181:=n1_;have GW181:=n2_;have GE181:=n3_;clear n0_ n1_ n2_ n3_ hb hbox hg;have hcz14_0:w13.cell? ⟨gb181,0,none⟩=some (.int .i64 a0_0):=(blk_cell BK181.out 0).trans rfl;have hcz14_1:w13.cell? ⟨gb181,1,none⟩=some (.int .i64 a0_1):=(blk_cell BK181.out 1).trans rfl;have hfz14_0:=blk_frozen BK181.out 0;have hfz14_1:=blk_frozen BK181.out 1))
   go_ret
   exact ⟨by first|rfl|(simp [errW_none,errW_some] <;> rfl)|(simp [*,errW_none,errW_some] <;> rfl),by repeat (first|(with_reducible first|exact HB.out|apply bA|apply bN|apply bD|refine bS ?_ GE181.out)|exact HB.out)⟩
 ·rw [if_neg c2] at H
  have c2b0:decide (1≤a0_0)=false:=decide_eq_false c2
  clear c2
  obtain rfl:=Option.some.inj H
  go_enter Try.func44,Try.ntmps44
  go_wp2_with (first|((with_reducible refine gate_dst (N:=1) rfl ?_);refine box_event ?hg (N:=1) ?hd (cs:=#[.int .i64 a0_0, .int .i64 a0_1]) (t:=27) ?hr ?_;(case hd=>rfl);(case hg=>rfl);(case hr=>first|(go_simp;done)|(go_simp;rfl));intro gb181 hg w15 hbox hb;have n0_:=Am (below_step (by repeat (first|(with_reducible first|exact HB.out|apply bA|apply bN|apply bD)|exact HB.out)) hb);have n1_:=Am (hbox);have n2_:=Am ((by rw [hg];exact (below_size (by repeat (first|(with_reducible first|exact HB.out|apply bA|apply bN|apply bD)|exact HB.out))):w.heap.size≤gb181));have n3_:=Am ((by rw [hg];exact (below_size (by repeat (first|(with_reducible first|exact HB.out|apply bA|apply bN|apply bD)|exact HB.out))):w.heap.size≤gb181));clear HB;have HB:=n0_;have BK181:=n1_;have GW181:=n2_;have GE181:=n3_;clear n0_ n1_ n2_ n3_ hb hbox hg;have hcz16_0:w15.cell? ⟨gb181,0,none⟩=some (.int .i64 a0_0):=(blk_cell BK181.out 0).trans rfl;have hcz16_1:w15.cell? ⟨gb181,1,none⟩=some (.int .i64 a0_1):=(blk_cell BK181.out 1).trans rfl;have hfz16_0:=blk_frozen BK181.out 0;have hfz16_1:=blk_frozen BK181.out 1))
  go_ret
  exact ⟨by first|rfl|(simp [errW_none,errW_some] <;> rfl)|(simp [*,errW_none,errW_some] <;> rfl),by repeat (first|(with_reducible first|exact HB.out|apply bA|apply bN|apply bD|refine bS ?_ GE181.out)|exact HB.out)⟩

end Go.Proofs.Ythnmmiofhjbkeaa.PA
