/- Walks of functions of the program: each does what its Lean function says. Written by a program of this session (wip/xprint), which runs the printer of the kit with changes. -/
import Derived.Test.YthnmmiofhjbkeaaPAx0
import Derived.Test.YthnmmiofhjbkeaaPAx3
import Derived.Test.YthnmmiofhjbkeaaPAx7
import Derived.Test.YthnmmiofhjbkeaaPAx8
import Derived.Test.YthnmmiofhjbkeaaPAx9
namespace Go.Proofs.Ythnmmiofhjbkeaa.PA
open Go.RowKit Go.Proofs.YthnmmiofhjbkeaaW.PrintWords Go.Proofs.YthnmmiofhjbkeaaW.PrintLast Go.Proofs.YthnmmiofhjbkeaaW.PrintMore
attribute [local go_sem] max2_int min2_int max_two min_two max_three min_three max_four min_four   -- for this text's walks alone
set_option linter.unusedVariables false
set_option linter.unusedSimpArgs false


/-! ### clock_TimeOf: function 26 -/
section
open Go.Shelf
attribute [local go_sem] Oper.semAt_some
/-- What a piece tells: the walk goes on; or the time that was looked for. -/
def clock_TimeOf.one (k:Nat) (t:Int) (p:clock_position.Pc):Option (Option Int):=(p.at k p.un).bind fun m=>if m < t then some none else (ratio_Inverse.f k p.nu p.de).bind fun b=>(ratio_Ceil.f k (wrap64 (t - p.be)) b.1 b.2.1).bind fun c=>some (some (wrap64 (p.fr+mx 0 c.1)))
def clock_TimeOf.first:List (Option Int)→Int × Int
 | []=>(0,13)
 | none :: os=>clock_TimeOf.first os
 | some v :: _=>(v,0)
def clock_TimeOf.f (k:Nat) (l0_0:List S61) (a1:Int):Option (Int × Int):=(clock_Valid.f k l0_0).bind fun v=>if v=true then (if a1 < 0 then some (0,2) else if l0_0.length≤9223372036854775806 then (clock_position.cut k l0_0 0).bind fun ps=>(clock_position.evs (clock_TimeOf.one k a1) ps).bind fun os=>some (clock_TimeOf.first os) else none) else some (0,1)
theorem clock_TimeOf.one_mono (k:Nat) (t:Int) (p:clock_position.Pc):LeO (clock_TimeOf.one k t p) (clock_TimeOf.one (k+1) t p):=LeO.bind (clock_piece_at.mono _ _ _ _ _ _ k) (fun _=>LeO.ite (LeO.refl _) (LeO.bind (ratio_Inverse.mono _ _ k) (fun _=>LeO.bind (ratio_Ceil.mono _ _ _ k) (fun _=>LeO.refl _))))
theorem clock_TimeOf.mono:∀ a0 a1 k,LeO (clock_TimeOf.f k a0 a1) (clock_TimeOf.f (k+1) a0 a1):=fun _ _ k =>
  LeO.bind (clock_Valid.mono _ k) (fun _=>LeO.ite (LeO.ite (LeO.refl _) (LeO.ite (LeO.bind (clock_position.cut_mono k _ _) (fun _=>LeO.bind (clock_position.evs_mono (clock_TimeOf.one_mono k _) _) (fun _=>LeO.refl _))) (LeO.refl _))) (LeO.refl _))
theorem clock_TimeOf.first_none (k:Nat) (t:Int):∀ (q:List clock_position.Pc) (os:List (Option Int)),clock_position.evs (clock_TimeOf.one k t) q=some os→(∀ p ∈ q,clock_TimeOf.one k t p=some none)→clock_TimeOf.first os=(0,13)
 | [],os,h,_=>by
  simp only [clock_position.evs,Option.some.injEq] at h
  subst h
  rfl
 | p :: q,os,h,hq=>by
  simp only [clock_position.evs,hq p List.mem_cons_self,Option.bind_some,Option.bind_eq_some_iff,Option.some.injEq] at h
  obtain ⟨os',hos,rfl⟩:=h
  exact clock_TimeOf.first_none k t q os' hos (fun x hx=>hq x (List.mem_cons_of_mem _ hx))
theorem clock_TimeOf.first_some (k:Nat) (t:Int) (x:clock_position.Pc) (v:Int) (hx:clock_TimeOf.one k t x=some (some v)) (r:List clock_position.Pc):∀ (q:List clock_position.Pc) (os:List (Option Int)),clock_position.evs (clock_TimeOf.one k t) (q ++ x :: r)=some os→(∀ p ∈ q,clock_TimeOf.one k t p=some none)→clock_TimeOf.first os=(v,0)
 | [],os,h,_=>by
  simp only [clock_position.evs,List.nil_append,hx,Option.bind_some,Option.bind_eq_some_iff,Option.some.injEq] at h
  obtain ⟨os',_,rfl⟩:=h
  rfl
 | p :: q,os,h,hq=>by
  simp only [clock_position.evs,List.cons_append,hq p List.mem_cons_self,Option.bind_some,Option.bind_eq_some_iff,Option.some.injEq] at h
  obtain ⟨os',hos,rfl⟩:=h
  exact clock_TimeOf.first_some k t x v hx r q os' hos (fun x hx=>hq x (List.mem_cons_of_mem _ hx))

/-- Between two rounds: the pieces so far have gone on; the two results are as they were laid. -/
def clock_TimeOf.Inv (k b:Nat) (t:Int) (w:World) (ok:clock_position.Pc→Prop) (pre:List { p:clock_position.Pc // ok p }) (W:World):Prop :=
  ((∀ p ∈ pre,clock_TimeOf.one k t p.1=some none)∧(Boxed W b 2 (.int .i64 t)∧(Boxed W (b+1) 2 (.int .i64 0)∧Boxed W (b+1+1) 30 (.int .i64 0))))∧(b+3 < W.heap.size∧Below w.heap.size w W)
/-- A round has returned. -/
def clock_TimeOf.Left (k b:Nat) (t:Int) (w:World) (ok:clock_position.Pc→Prop) (c:Code) (pre:List { p:clock_position.Pc // ok p }) (W:World):Prop :=
  (∃ q x v,pre=q ++ [x]∧clock_TimeOf.one k t x.1=some (some v)∧(∀ p ∈ q,clock_TimeOf.one k t p.1=some none)∧c=.ret∧(Boxed W (b+1) 2 (.int .i64 v)∧Boxed W (b+1+1) 30 (.int .i64 0)))∧Below w.heap.size w W
theorem clock_TimeOf.inv_own (k b:Nat) (t:Int) (w:World) (ok:clock_position.Pc→Prop) (B:Nat) (hB:w.heap.size≤B):OwnFrom B (clock_TimeOf.Inv k b t w ok) :=
  OwnFrom.and (OwnFrom.and (ownFrom_pure _ _) (OwnFrom.and (Own.from (boxed_own _ _ _) _) (OwnFrom.and (Own.from (boxed_own _ _ _) _) (Own.from (boxed_own _ _ _) _)))) (OwnFrom.and (fun _ _ _ _ hs hg _=>Nat.lt_of_lt_of_le hs hg.size) (ownFrom_below (Nat.le_refl _) hB))
theorem clock_TimeOf.left_own (k b:Nat) (t:Int) (w:World) (ok:clock_position.Pc→Prop) (c:Code) (B:Nat) (hB:w.heap.size≤B):OwnFrom B (clock_TimeOf.Left k b t w ok c):=by
  refine OwnFrom.and ?_ (ownFrom_below (Nat.le_refl _) hB)
  rintro s X Y row ⟨q,x,v,h1,h2,h3,h4,h5,h6⟩ hg hr
  have hr':∀ r,row=some r→∃ o:Obj,X.heap[r]?=some o∧o.isCells=false:=fun r e=>(hr r e).2
  exact ⟨q,x,v,h1,h2,h3,h4,boxed_own (b+1) 2 (fun (_:Unit)=>Value.int .i64 v) () X Y row h5 hg hr',boxed_own (b+1+1) 30 (fun (_:Unit)=>Value.int .i64 0) () X Y row h6 hg hr'⟩

theorem clock_TimeOf.out (tmps:Array Value) (b:Nat) (v1 v2:Int) (W:World) (h4:tmps.getD 4 undef=.pointer (some ⟨b,0,none⟩)) (h5:tmps.getD 5 undef=.pointer (some ⟨b+1,0,none⟩)) (h1:Boxed W b 2 (.int .i64 v1)) (h2:Boxed W (b+1) 30 (.int .i64 v2)) :
    (results Try.f26 tmps).run Try.prog W=.ok (.tuple #[.int .i64 v1, .int .i64 v2]) W:=by
  have c1:=h1.cell
  have c2:=h2.cell
  have g4:tmps[4]?.getD undef=.pointer (some ⟨b,0,none⟩):=by simpa using h4
  have g5:tmps[5]?.getD undef=.pointer (some ⟨b+1,0,none⟩):=by simpa using h5
  simp [results,Try.results26,go_sem,g4,g5,c1,c2]

set_option maxRecDepth 100000 in
set_option maxHeartbeats 4000000 in
theorem clock_TimeOf.calls (k:Nat) (A0_0:Option Addr) (c0_0:Nat) (l0_0:List S61) (a1:Int) (r1:Int) (r2:Int) (w:World) (hr0_0:Kd.C k61 w A0_0 l0_0.length l0_0) (hc0_0:l0_0.length≤c0_0) (h:clock_TimeOf.f k l0_0 a1=some (r1,r2)) :
    Calls Try.prog 26 #[.agg #[.slice A0_0 l0_0.length c0_0], .int .i64 a1] w fun e w'=>e=.returned (.tuple #[.int .i64 r1, .int .i64 r2])∧Below w.heap.size w w':=by
  simp only [clock_TimeOf.f,Option.bind_eq_some_iff] at h
  obtain ⟨t,hv,h⟩:=h
  have hu24:=Try.underlying24
  have hu71:=Try.underlying71
  have hu61:=Try.underlying61
  have hvc:∀ W:World,Below w.heap.size w W→CallsIn Fence.wide (8 - 1) Try.prog 17 #[.agg #[.slice A0_0 l0_0.length c0_0]] W fun e w'=>e=.returned (.bool t)∧Below W.heap.size W w':=fun W hW=>callsIn_wide.2 (clock_Valid.calls k A0_0 c0_0 l0_0 t W (Kd.C_below hr0_0 hW) hc0_0 hv)
  clear hv
  refine (callsIn_wide (n:=8)).1 ?_
  refine callsIn_of_wp_marks Try.func26 rfl trivial ?_ rfl
  simp only [Try.ntmps26,List.size_toArray,List.length_cons,List.length_nil,Nat.reduceAdd,Nat.reduceSub,Array.replicate_succ,Array.replicate_zero,List.push_toArray,List.append_toArray,List.nil_append,List.cons_append]
  have H0:=Aside0.mk (And.intro hr0_0 (And.intro hc0_0 h))
  clear hr0_0 hc0_0 h
  gi_upto_region 1 with (fail)
  obtain ⟨S,hS⟩:∃ S,S=w.heap.size:=⟨_,rfl⟩
  obtain ⟨W0,hW0⟩:∃ W0,W0=(((w.alloc (Obj.cells #[.slice A0_0 l0_0.length c0_0] 24 (0,0))).alloc (Obj.cells #[.int .i64 a1] 2 (0,0))).alloc (Obj.cells #[.int .i64 0] 2 (0,0))).alloc (Obj.cells #[.int .i64 0] 30 (0,0)):=⟨_,rfl⟩
  have bC:=(((Boxed.new w 24 (.slice A0_0 l0_0.length c0_0)).alloc (Obj.cells #[.int .i64 a1] 2 (0,0))).alloc (Obj.cells #[.int .i64 0] 2 (0,0))).alloc (Obj.cells #[.int .i64 0] 30 (0,0))
  have bT:=((Boxed.new (w.alloc (Obj.cells #[.slice A0_0 l0_0.length c0_0] 24 (0,0))) 2 (.int .i64 a1)).alloc (Obj.cells #[.int .i64 0] 2 (0,0))).alloc (Obj.cells #[.int .i64 0] 30 (0,0))
  have bN:=(Boxed.new ((w.alloc (Obj.cells #[.slice A0_0 l0_0.length c0_0] 24 (0,0))).alloc (Obj.cells #[.int .i64 a1] 2 (0,0))) 2 (.int .i64 0)).alloc (Obj.cells #[.int .i64 0] 30 (0,0))
  have bE:=Boxed.new (((w.alloc (Obj.cells #[.slice A0_0 l0_0.length c0_0] 24 (0,0))).alloc (Obj.cells #[.int .i64 a1] 2 (0,0))).alloc (Obj.cells #[.int .i64 0] 2 (0,0))) 30 (.int .i64 0)
  have hB0:Below w.heap.size w W0:=by rw [hW0];exact below_alloc (below_alloc (below_alloc (below_alloc (Below.refl _ w) _) _) _) _
  have hsz:W0.heap.size=S+4:=by rw [hW0,hS];simp
  simp only [World.size_alloc] at bC bT bN bE
  rw [← hW0, ← hS] at bC bT bN bE
  rw [← hW0, ← hS]
  have hCB:∀ W1:World,Below W0.heap.size W0 W1→(Boxed W1 S 24 (.slice A0_0 l0_0.length c0_0)∧Boxed W1 (S+1) 2 (.int .i64 a1)∧Boxed W1 (S+1+1) 2 (.int .i64 0)∧Boxed W1 (S+1+1+1) 30 (.int .i64 0))∧S+4≤W1.heap.size∧Below w.heap.size w W1:=fun W1 h =>
    ⟨⟨(h.block _ bC.lt).trans bC,(h.block _ bT.lt).trans bT,(h.block _ bN.lt).trans bN,(h.block _ bE.lt).trans bE⟩,by have:=h.size;omega,hB0.trans (h.mono hB0.size)⟩
  have hvc0:=hvc W0 hB0
  have cC:=bC.cell
  have HS:=Aside0.mk hS
  clear hW0 hsz hS hB0 hvc bC bT bN bE
  cases t with
  | false =>
    gi_wp2_with (refine ⟨trivial,?_⟩;gi_at_call 17;refine hvc0.mono ?_;clear hvc0 cC;rintro e W1 ⟨rfl,hB⟩;obtain ⟨⟨bC,bT,bN,bE⟩,hz,hB1⟩:=hCB W1 hB;clear hCB hB;have cN:=bN.cell;have fN:=bN.frozen;have cE:=bE.cell;have fE:=bE.frozen)
    refine ⟨_,clock_TimeOf.out _ (S+1+1) _ _ _ rfl rfl ((bN.set _).other (by omega) _) ((bE.other (by omega) _).set _),?_⟩
    obtain ⟨_,_,h⟩:=H0.out
    simp only [Bool.false_eq_true,if_false,Option.some.injEq,Prod.mk.injEq] at h
    obtain ⟨rfl,rfl⟩:=h
    exact ⟨rfl,(hB1.setCell (p:=⟨S+1+1,0,none⟩) (by rw [← HS.out];show S≤S+1+1;omega) _).setCell (p:=⟨S+1+1+1,0,none⟩) (by rw [← HS.out];show S≤S+1+1+1;omega) _⟩
  | true =>
    by_cases hneg:a1 < 0
    · have d1:decide (a1 < 0)=true:=decide_eq_true hneg
      have HN:=Aside0.mk hneg
      clear hneg
      gi_wp2_with (refine ⟨trivial,?_⟩;gi_at_call 17;refine hvc0.mono ?_;clear hvc0 cC;rintro e W1 ⟨rfl,hB⟩;obtain ⟨⟨bC,bT,bN,bE⟩,hz,hB1⟩:=hCB W1 hB;clear hCB hB;have cT:=bT.cell;have cN:=bN.cell;have fN:=bN.frozen;have cE:=bE.cell;have fE:=bE.frozen)
      refine ⟨_,clock_TimeOf.out _ (S+1+1) _ _ _ rfl rfl ((bN.set _).other (by omega) _) ((bE.other (by omega) _).set _),?_⟩
      obtain ⟨_,_,h⟩:=H0.out
      rw [if_pos trivial,if_pos HN.out] at h
      simp only [Option.some.injEq,Prod.mk.injEq] at h
      obtain ⟨rfl,rfl⟩:=h
      exact ⟨rfl,(hB1.setCell (p:=⟨S+1+1,0,none⟩) (by rw [← HS.out];show S≤S+1+1;omega) _).setCell (p:=⟨S+1+1+1,0,none⟩) (by rw [← HS.out];show S≤S+1+1+1;omega) _⟩
    · have d1:decide (a1 < 0)=false:=decide_eq_false hneg
      obtain ⟨hin,hc,h⟩:=H0.out
      rw [if_pos rfl,if_neg hneg] at h
      by_cases hm:l0_0.length≤9223372036854775806
      rotate_left
      · rw [if_neg hm] at h
        cases h
      rw [if_pos hm] at h
      simp only [Option.bind_eq_some_iff,Option.some.injEq] at h
      obtain ⟨ps,hps,os,hos,hr⟩:=h
      have hgood:∀ p ∈ ps, ∃ o,clock_TimeOf.one k a1 p=some o:=clock_position.evs_some hos
      obtain ⟨all,rfl⟩:∃ all:List { p:clock_position.Pc // ∃ o,clock_TimeOf.one k a1 p=some o },ps=all.map Subtype.val :=
        ⟨ps.attach.map fun p=>⟨p.1,hgood p.1 p.2⟩,by simp⟩
      have H1:=Aside0.mk (And.intro hps (And.intro hos (And.intro hr (And.intro hin hm))))
      clear hgood hps hos hr hin hm H0 hneg hc
      have hpc:∀ W:World,CallsIn Fence.wide (8 - 1) Try.prog 36 #[.agg #[.slice A0_0 l0_0.length c0_0]] W fun e w'=>e=.returned (.func (.func 47) #[] #[.pointer (some ⟨W.heap.size,0,none⟩)])∧w'=W.alloc (.cells #[.slice A0_0 l0_0.length c0_0] 24):=fun W=>clock_position.pieces _ A0_0 l0_0.length c0_0 W
      gi_wp2_with (first|(refine ⟨trivial,?_⟩;gi_at_call 17;refine hvc0.mono ?_;clear hvc0 cC;rintro e W1 ⟨rfl,hB⟩;obtain ⟨⟨bC,bT,bN,bE⟩,hz,hB1⟩:=hCB W1 hB;clear hCB hB;have cT:=bT.cell;have cC:=bC.cell)|(refine ⟨trivial,?_⟩;gi_at_call 36;refine (hpc _).mono ?_;clear hpc;rintro e W2 ⟨rfl,rfl⟩))
      have bS:=Boxed.new W1 24 (.slice A0_0 l0_0.length c0_0)
      have bT2:=bT.alloc (Obj.cells #[.slice A0_0 l0_0.length c0_0] 24 (0,0))
      have bN2:=bN.alloc (Obj.cells #[.slice A0_0 l0_0.length c0_0] 24 (0,0))
      have bE2:=bE.alloc (Obj.cells #[.slice A0_0 l0_0.length c0_0] 24 (0,0))
      have hB2:Below w.heap.size w (W1.alloc (Obj.cells #[.slice A0_0 l0_0.length c0_0] 24 (0,0))):=below_alloc hB1 _
      have hz2:W1.heap.size+1≤(W1.alloc (Obj.cells #[.slice A0_0 l0_0.length c0_0] 24 (0,0))).heap.size:=by simp
      generalize W1.alloc (Obj.cells #[.slice A0_0 l0_0.length c0_0] 24 (0,0))=W2 at bS bT2 bN2 bE2 hB2 hz2 ⊢
      obtain ⟨L,hL⟩:∃ L,L=W1.heap.size:=⟨_,rfl⟩
      rw [← hL] at bS hz hz2 ⊢
      obtain ⟨hps,hos,hr,hin,hm⟩:=H1.out
      have hSw:w.heap.size≤S:=Nat.le_of_eq HS.out.symm
      clear bC bT bN bE cT cC hB1 hL
      refine wpIn_rangeFunc_ownH (n:=8) (α:={ p:clock_position.Pc // ∃ o,clock_TimeOf.one k a1 p=some o }) rfl (by decide) (gf:=47) (lb:=#[.pointer (some ⟨L,0,none⟩)]) rfl trivial (enters_of Try.func47 (by kernel_rfl) rfl)
        (clock_position.stops (8 - 1) k L A0_0 c0_0 l0_0 _ all hps (fun _=>False) S w HS.out hin W2 hB2 (by decide) hm bS (fun b hb he=>he))
        clock_position.Keeps.trans (clock_position.Keeps.book (by omega)) (Below.refl _ _) (fun _=>rfl)
        (clock_TimeOf.Inv k (S+1) a1 w _) (clock_TimeOf.Left k (S+1) a1 w _)
        (clock_TimeOf.inv_own _ _ _ _ _ _ (by omega)) (fun c=>clock_TimeOf.left_own _ _ _ _ _ c _ (by omega))
        ⟨⟨(fun p hp=>by cases hp),bT2,bN2,bE2⟩,by omega,hB2⟩
        (fun x a' W=>∃ Bx,S+3 < Bx∧W.heap[Bx]?=some (.cells #[.int .i64 x.1.fr, .int .i64 x.1.nu, .int .i64 x.1.de, .int .i64 x.1.un, .int .i64 x.1.be] 71 (0,0)) ∧
          a'={ tmps:=#[.agg #[.slice A0_0 l0_0.length c0_0], .int .i64 a1, .pointer (some ⟨S,0,none⟩), .pointer (some ⟨S+1,0,none⟩), .pointer (some ⟨S+1+1,0,none⟩), .pointer (some ⟨S+1+1+1,0,none⟩), .pointer (some ⟨Bx,0,none⟩),undef,undef,undef,undef,
            .bool false, .agg #[.slice A0_0 l0_0.length c0_0], .bool true, .bool false, .bool false, .int .i64 a1, .bool false, .agg #[.slice A0_0 l0_0.length c0_0], .func (.func 47) #[] #[.pointer (some ⟨L,0,none⟩)],x.1.enc,
            undef,undef,undef,undef,undef,undef,undef,undef,undef,undef,undef,undef,undef,undef,undef,undef,undef,undef,undef,undef,undef,undef,undef,undef,undef,undef,undef,undef],defers:=[] })
        (fun x a' _ X Y row hs hg hr=>by
          obtain ⟨Bx,h1,h2,h3⟩:=hs
          exact ⟨Bx,h1,clock_position.block_own Bx (fun (_:Unit)=>Obj.cells #[.int .i64 x.1.fr, .int .i64 x.1.nu, .int .i64 x.1.de, .int .i64 x.1.un, .int .i64 x.1.be] 71 (0,0)) (fun _=>rfl) () X Y row h2 hg (fun r e=>(hr r e).2),h3⟩)
        ?assign ?body ?done ?stop
      case assign =>
        rintro l pre x W K ⟨⟨hp1,bT1,bN1,bE1⟩,hz1,hB1⟩ hK
        have hrest:S+3 < W.heap.size:=by omega
        dsimp only [clock_position.Pc.enc]
        have HB:=Aside0.mk hrest
        clear hps hos hr hrest
        gi_wp2
        exact hK _ _ ((KeepsOthers.alloc _ _).from _) (clock_position.Keeps.of (below_alloc (Below.refl _ W) _) (HS.out ▸ hB1.size)) ⟨⟨hp1,bT1.alloc _,bN1.alloc _,bE1.alloc _⟩,by simp;omega,hB1.alloc hB1.size _⟩ ⟨W.heap.size,HB.out,heap_alloc_new _ _,rfl⟩
      case body =>
        rintro l pre x a' W hl ⟨rr,hrr⟩ ⟨⟨hp1,bT1,bN1,bE1⟩,hz1,hB1⟩ ⟨Bx,hBx,bX,rfl⟩ hlt
        have HP:=Aside0.mk (And.intro hp1 (And.intro hz1 hB1))
        have hS1:S≤W.heap.size:=by omega
        clear hps hos hr hp1 hB1 H1 hz1
        have cT:=bT1.cell
        have q0:W.cell? ⟨Bx,0,none⟩=some (.int .i64 x.1.fr):=(blk_cell bX 0).trans rfl
        have q1:W.cell? ⟨Bx,1,none⟩=some (.int .i64 x.1.nu):=(blk_cell bX 1).trans rfl
        have q2:W.cell? ⟨Bx,2,none⟩=some (.int .i64 x.1.de):=(blk_cell bX 2).trans rfl
        have q3:W.cell? ⟨Bx,3,none⟩=some (.int .i64 x.1.un):=(blk_cell bX 3).trans rfl
        have q4:W.cell? ⟨Bx,4,none⟩=some (.int .i64 x.1.be):=(blk_cell bX 4).trans rfl
        obtain ⟨o,ho⟩:=x.2
        have HO:=Aside0.mk ho
        unfold clock_TimeOf.one at ho
        simp only [Option.bind_eq_some_iff,clock_position.Pc.at] at ho
        obtain ⟨m,hat,ho⟩:=ho
        have hcall:∀ W:World,CallsIn Fence.wide (8 - 1 - 1 - 1) Try.prog 37 #[.agg #[.int .i64 x.1.fr, .int .i64 x.1.nu, .int .i64 x.1.de, .int .i64 x.1.un, .int .i64 x.1.be], .int .i64 x.1.un] W fun e w'=>e=.returned (.int .i64 m)∧Below W.heap.size W w':=fun W=>callsIn_wide.2 (clock_piece_at.calls k _ _ _ _ _ _ m W hat)
        have hmx:Try.prog.follows .mixedOrders=true:=by kernel_rfl
        clear hat
        by_cases hlt2:m < a1
        · have d2:decide (m < a1)=true:=decide_eq_true hlt2
          have HL:=Aside0.mk (And.intro hlt2 ho)
          have HX:=Aside0.mk (And.intro bT1 (And.intro bN1 bE1))
          have hT4:∀ W4,Below W.drew.heap.size W.drew W4→W4.cell? ⟨S+1,0,none⟩=some (.int .i64 a1):=fun W4 h=>(show Boxed W4 (S+1) 2 (.int .i64 a1) from (h.block _ HX.out.1.lt).trans HX.out.1).cell
          clear hlt2 ho hlt bT1 bN1 bE1
          gi_wp2
          gi_region_with_o (refine ⟨trivial,?_⟩;gi_at_call 37;refine (CallsIn.inRound l (hcall _)).mono ?_;clear hcall q0 q1 q2 q3 q4;rintro e W4 ⟨rfl,hB4⟩;have cT4:=hT4 W4 hB4)
          all_goals
            gi_wp2
            have hB5:Below W.heap.size W W4:=((Below.refl W.heap.size W).drew).trans hB4
            obtain ⟨hp1,hz1,hB1⟩:=HP.out
            obtain ⟨hlt2,ho⟩:=HL.out
            obtain ⟨bT1,bN1,bE1⟩:=HX.out
            rw [if_pos hlt2] at ho
            refine ⟨(clock_position.others hB5).from _,clock_position.Keeps.of hB5 hS1,⟨?_,(hB5.block _ bT1.lt).trans bT1,(hB5.block _ bN1.lt).trans bN1,(hB5.block _ bE1.lt).trans bE1⟩,Nat.lt_of_lt_of_le hz1 hB5.size,hB1.trans (hB5.mono (HS.out ▸ hS1))⟩
            intro p hp
            rcases List.mem_append.1 hp with hp|hp
            · exact hp1 p hp
            · obtain rfl:=List.mem_singleton.1 hp
              rw [HO.out, ← ho]
        · have d2:decide (m < a1)=false:=decide_eq_false hlt2
          rw [if_neg hlt2] at ho
          simp only [Option.bind_eq_some_iff,Option.some.injEq] at ho
          obtain ⟨⟨i1,i2,i3⟩,hi,⟨c1,c2⟩,hce,ho⟩:=ho
          simp only at hce ho
          have hcall2:∀ W:World,CallsIn Fence.wide (8 - 1 - 1 - 1) Try.prog 38 #[.agg #[.int .i64 x.1.nu, .int .i64 x.1.de]] W fun e w'=>e=.returned (.tuple #[.agg #[.int .i64 i1, .int .i64 i2], .int .i64 i3])∧Below W.heap.size W w':=fun W=>callsIn_wide.2 (ratio_Inverse.calls k _ _ _ _ _ W hi)
          have hcall3:∀ W:World,CallsIn Fence.wide (8 - 1 - 1 - 1) Try.prog 39 #[.int .i64 (wrap64 (a1 - x.1.be)), .agg #[.int .i64 i1, .int .i64 i2]] W fun e w'=>e=.returned (.tuple #[.int .i64 c1, .int .i64 c2])∧Below W.heap.size W w':=fun W=>callsIn_wide.2 (ratio_Ceil.calls k _ _ _ _ _ W hce)
          have HL:=Aside0.mk (And.intro ho hB2)
          have HX:=Aside0.mk (And.intro bT1 (And.intro bN1 (And.intro bE1 bX)))
          have hT4:∀ W4,Below W.heap.size W W4→W4.cell? ⟨S+1,0,none⟩=some (.int .i64 a1)∧W4.cell? ⟨Bx,0,none⟩=some (.int .i64 x.1.fr)∧W4.cell? ⟨Bx,1,none⟩=some (.int .i64 x.1.nu)∧W4.cell? ⟨Bx,2,none⟩=some (.int .i64 x.1.de)∧W4.cell? ⟨Bx,4,none⟩=some (.int .i64 x.1.be):=fun W4 h=>by
            have hb:=(h.block _ (blk_lt HX.out.2.2.2)).trans HX.out.2.2.2
            exact ⟨(show Boxed W4 (S+1) 2 (.int .i64 a1) from (h.block _ HX.out.1.lt).trans HX.out.1).cell,(blk_cell hb 0).trans rfl,(blk_cell hb 1).trans rfl,(blk_cell hb 2).trans rfl,(blk_cell hb 4).trans rfl⟩
          clear hlt2 ho hlt bT1 bN1 bE1 hi hce hB2
          gi_wp2
          gi_region_with_o (refine ⟨trivial,?_⟩;gi_at_call 37;refine (CallsIn.inRound l (hcall _)).mono ?_;clear hcall q0 q1 q2 q3 q4;rintro e W4 ⟨rfl,hB4⟩;have hB5:Below W.heap.size W W4:=((Below.refl W.heap.size W).drew).trans hB4;have cT4:=(hT4 W4 hB5).1)
          all_goals
            obtain ⟨cT4,q0,q1,q2,q4⟩:=hT4 W4 hB5
            gi_upto_region 9 with (refine ⟨trivial,?_⟩;gi_at_call 38;refine (CallsIn.inRound l (hcall2 _)).mono ?_;clear hcall2 q0 q1 q2 q4;rintro e W6 ⟨rfl,hB6⟩)
            have bK:=heap_alloc_new W6 (Obj.cells #[.int .i64 i1, .int .i64 i2] 27 (0,0))
            have hB8:Below W.heap.size W (W6.alloc (Obj.cells #[.int .i64 i1, .int .i64 i2] 27 (0,0))):=below_alloc (hB5.trans (hB6.mono hB5.size)) _
            generalize W6.alloc (Obj.cells #[.int .i64 i1, .int .i64 i2] 27 (0,0))=W8 at bK hB8 ⊢
            clear cT4
            obtain ⟨cT4,q0,q1,q2,q4⟩:=hT4 W8 hB8
            have z0:W8.cell? ⟨W6.heap.size,0,none⟩=some (.int .i64 i1):=(blk_cell bK 0).trans rfl
            have z1:W8.cell? ⟨W6.heap.size,1,none⟩=some (.int .i64 i2):=(blk_cell bK 1).trans rfl
            clear bK hB5 hB6 hB4
            generalize W6.heap.size=M at z0 z1 ⊢
            gi_upto_region 10 with (refine ⟨trivial,?_⟩;gi_at_call 39;refine (CallsIn.inRound l (hcall3 _)).mono ?_;clear hcall3 z0 z1 q0 q1 q2 q4 cT4;rintro e W7 ⟨rfl,hB7⟩)
            have hB9:=hB8.trans (hB7.mono hB8.size)
            have q0:=(hT4 W7 hB9).2.1
            have bN7:=(hB9.block _ HX.out.2.1.lt).trans HX.out.2.1
            have bE7:=(hB9.block _ HX.out.2.2.1.lt).trans HX.out.2.2.1
            have cN7:=Boxed.cell bN7
            have cE7:=Boxed.cell bE7
            have fN7:=Boxed.frozen bN7
            have fE7:=Boxed.frozen bE7
            have H7:=Aside0.mk (And.intro bN7 (And.intro bE7 hB9))
            clear hT4 hB7 hB8 bN7 bE7 hB9
            by_cases hmx2:0 < c1
            all_goals
              have HM:=Aside0.mk hmx2
              gi_wp2
              obtain ⟨bN7,bE7,hB9⟩:=H7.out
              obtain ⟨hp1,hz1,hB1⟩:=HP.out
              have ho:=HL.out.1
              unfold mx at ho
              first|rw [if_pos HM.out] at ho|rw [if_neg (by have:=HM.out;omega)] at ho
              refine ⟨((clock_position.others hB9).from _).trans (((KeepsOthers.setCell _ _ _).from _).trans ((KeepsOthers.setCell _ _ _).from _)),⟨pre,x,_,rfl,HO.out.trans (by rw [← ho];try simp),hp1,rfl,((show Boxed W7 (S+1+1) 2 _ from bN7).set _).other (by omega) _,((show Boxed W7 (S+1+1+1) 30 _ from bE7).other (by omega) _).set _⟩,?_⟩
              have hws:w.heap.size≤S:=Nat.le_of_eq HS.out.symm
              exact ((hB1.trans (hB9.mono (HS.out ▸ hS1))).setCell (p:=⟨S+1+1,0,none⟩) (by show w.heap.size≤S+1+1;omega) _).setCell (p:=⟨S+1+1+1,0,none⟩) (by show w.heap.size≤S+1+1+1;omega) _
      case done =>
        rintro D ys W hD rfl ⟨⟨hp1,bT1,bN1,bE1⟩,hz1,hB1⟩ hK
        have cN:=bN1.cell
        have fN:=bN1.frozen
        have cE:=bE1.cell
        have fE:=bE1.frozen
        have hDS:S+1+1+1 < D:=by omega
        have HP:=Aside0.mk (And.intro hp1 (And.intro hB1 (And.intro bN1 (And.intro bE1 hDS))))
        clear hps hos hr hp1 hB1 hz1 bN1 bE1 hDS
        gi_wp2
        obtain ⟨hp1,hB1,bN1,bE1,hDS⟩:=HP.out
        have hK2:((W.setCell ⟨S+1+1,0,none⟩ (.int .i64 0)).setCell ⟨S+1+1+1,0,none⟩ (.int .i64 13)).heap[D]?=some (.deferred (some [])) :=
          (Below.heap_setCell _ ⟨S+1+1+1,0,none⟩ _ D (by show D≠S+1+1+1;omega)).trans ((Below.heap_setCell _ ⟨S+1+1,0,none⟩ _ D (by show D≠S+1+1;omega)).trans hK)
        have hws:w.heap.size≤S:=Nat.le_of_eq HS.out.symm
        have b1:=((show Boxed W (S+1+1) 2 _ from bN1).set (.int .i64 0)).other (B':=S+1+1+1) (by omega) (.int .i64 13)
        have b2:=((show Boxed W (S+1+1+1) 30 _ from bE1).other (B':=S+1+1) (by omega) (.int .i64 0)).set (.int .i64 13)
        refine ⟨by simp, .inl ⟨_,_,rfl,run_takeDeferred hK2,?_⟩⟩
        obtain ⟨hps,hos,hr,hin,hm⟩:=H1.out
        refine ⟨_,clock_TimeOf.out _ (S+1+1) _ _ _ rfl rfl ((World.putObj_heap_other (by omega)).trans b1) ((World.putObj_heap_other (by omega)).trans b2),?_,?_⟩
        · rw [clock_TimeOf.first_none k a1 _ os hos (fun p hp=>by obtain ⟨y,hy,rfl⟩:=List.mem_map.1 hp;exact hp1 y hy)] at hr
          simp only [Prod.mk.injEq] at hr
          obtain ⟨rfl,rfl⟩:=hr
          rfl
        · exact ((hB1.setCell (p:=⟨S+1+1,0,none⟩) (by show w.heap.size≤S+1+1;omega) _).setCell (p:=⟨S+1+1+1,0,none⟩) (by show w.heap.size≤S+1+1+1;omega) _).trans (belowK_b (w:=w) (Nat.le_refl _) _ D _ _ (by omega) hK2 rfl rfl)
      case stop =>
        rintro D c pre W hD hpre ⟨⟨q,x,v,rfl,hx,hq,rfl,bN1,bE1⟩,hB1⟩ hK
        have hDS:S+1+1+1 < D:=by omega
        have HP:=Aside0.mk (And.intro hx (And.intro hq (And.intro hpre (And.intro hB1 (And.intro bN1 (And.intro bE1 hDS))))))
        clear hps hos hr hx hq hpre hB1 bN1 bE1 hDS
        gi_wp2
        obtain ⟨hx,hq,⟨rest,hrest⟩,hB1,bN1,bE1,hDS⟩:=HP.out
        have hws:w.heap.size≤S:=Nat.le_of_eq HS.out.symm
        refine ⟨by simp, .inl ⟨_,_,rfl,run_takeDeferred hK,?_⟩⟩
        obtain ⟨hps,hos,hr,hin,hm⟩:=H1.out
        refine ⟨_,clock_TimeOf.out _ (S+1+1) _ _ _ rfl rfl ((World.putObj_heap_other (by omega)).trans bN1) ((World.putObj_heap_other (by omega)).trans bE1),?_,hB1.trans (belowK_b (w:=w) (Nat.le_refl _) _ D _ _ (by omega) hK rfl rfl)⟩
        rw [clock_TimeOf.first_some k a1 x.1 v hx (rest.map Subtype.val) (q.map Subtype.val) os (by rw [← hos, ← hrest];simp) (fun p hp=>by obtain ⟨y,hy,rfl⟩:=List.mem_map.1 hp;exact hq y hy)] at hr
        simp only [Prod.mk.injEq] at hr
        obtain ⟨rfl,rfl⟩:=hr
        rfl
end

end Go.Proofs.Ythnmmiofhjbkeaa.PA
