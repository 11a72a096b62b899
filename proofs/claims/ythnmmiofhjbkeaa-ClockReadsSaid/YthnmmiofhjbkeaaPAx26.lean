/- Walks of functions of the program: each does what its Lean function says. Written by a program of this session (wip/xprint), which runs the printer of the kit with changes. -/
import Derived.Test.YthnmmiofhjbkeaaPAx0
import Derived.Test.YthnmmiofhjbkeaaPAx9
import Derived.Test.YthnmmiofhjbkeaaPAx10
import Derived.Test.YthnmmiofhjbkeaaPAx11
import Derived.Test.YthnmmiofhjbkeaaPAx18
import Derived.Test.YthnmmiofhjbkeaaPAx24
import Derived.Test.YthnmmiofhjbkeaaPAx25
namespace Go.Proofs.Ythnmmiofhjbkeaa.PA
open Go.RowKit Go.Proofs.YthnmmiofhjbkeaaW.PrintWords Go.Proofs.YthnmmiofhjbkeaaW.PrintLast Go.Proofs.YthnmmiofhjbkeaaW.PrintMore
attribute [local go_sem] max2_int min2_int max_two min_two max_three min_three max_four min_four   -- for this text's walks alone
set_option linter.unusedVariables false
set_option linter.unusedSimpArgs false


/-! ### soundservicelaw13_ClockReads: function 6 -/
/-- One pair of times, by the clock and by its reference. -/
def soundservicelaw13_ClockReads.one (k:Nat) (c:List S61) (t u:Int):Option Bool :=
  (clock_Position.f k c t).bind fun a=>(soundserviceref13_Position.f k c t).bind fun b=>(clock_Between.f k c t u).bind fun i=>(soundserviceref13_Between.f k c t u).bind fun j =>
    if a.1=b.1 then if a.2=b.2 then if i.1=j.1 then if i.2=j.2 then (clock_TimeOf.f k c u).bind fun p=>(soundserviceref13_TimeOf.f k c u).bind fun q=>if p.1=q.1 then if p.2=q.2 then some true else some false else some false else some false else some false else some false else some false
def soundservicelaw13_ClockReads.times (k:Nat) (c:List S61):List (Int × Int)→Option Bool
 | []=>some true
 | q :: qs=>(soundservicelaw13_ClockReads.one k c q.1 q.2).bind fun b=>if b=true then soundservicelaw13_ClockReads.times k c qs else some false
def soundservicelaw13_ClockReads.clocks (k:Nat) (qs:List (Int × Int)):List (List S61)→Option Bool
 | []=>some true
 | c :: cs=>(soundservicelaw13_ClockReads.times k c qs).bind fun b=>if b=true then soundservicelaw13_ClockReads.clocks k qs cs else some false
def soundservicelaw13_ClockReads.f (k:Nat) (l0:List S61) (l1:List Int) (a2 a3:Int):Option Bool :=
  (soundservicelaw13_sane.f k).bind fun s=>if s=true then (soundservicekeep_Clock.f l0).bind fun kp=>if kp=true then
    (soundservicelaw13_made.f k l1).bind fun m=>soundservicelaw13_ClockReads.clocks k [(a2,a3),(Int.tmod a2 600,Int.tmod a3 600),(Int.tmod a2 1099511627778,1099511627776)] [l0,m] else some true else some false
/-- What lies in memory: the raw clock's block. -/
structure soundservicelaw13_ClockReads.Env (w W:World) (S:Nat) (A:Option Addr) (c:Nat) (l:List S61):Prop where
  clock:W.heap[S]?=some (.cells #[.slice A l.length c] 24 (0,0))
  below:Below w.heap.size w W
theorem soundservicelaw13_ClockReads.Env.grow {w W W':World} {S:Nat} {A:Option Addr} {c:Nat} {l:List S61} (h:soundservicelaw13_ClockReads.Env w W S A c l) (hb:Below W.heap.size W W'):soundservicelaw13_ClockReads.Env w W' S A c l :=
  ⟨blk_below h.clock hb,h.below.trans (hb.mono h.below.size)⟩
/-- Blocks and clocks that stay as they are. -/
structure soundservicelaw13_ClockReads.Keeps (W:World) (bs:List (Nat × Obj)) (cs:List (Option Addr × List S61)):Prop where
  blk:∀ x ∈ bs,W.heap[x.1]?=some x.2
  clk:∀ x ∈ cs,Kd.C k61 W x.1 x.2.length x.2
theorem soundservicelaw13_ClockReads.Keeps.grow {W W':World} {bs:List (Nat × Obj)} {cs:List (Option Addr × List S61)} (h:soundservicelaw13_ClockReads.Keeps W bs cs) (hb:Below W.heap.size W W'):soundservicelaw13_ClockReads.Keeps W' bs cs :=
  ⟨fun x hx=>blk_below (h.blk x hx) hb,fun x hx=>Kd.C_below (h.clk x hx) hb⟩
theorem soundservicelaw13_ClockReads.Keeps.add {W:World} {bs:List (Nat × Obj)} {cs:List (Option Addr × List S61)} (h:soundservicelaw13_ClockReads.Keeps W bs cs) {g:Nat} {o:Obj} (hg:W.heap[g]?=some o):soundservicelaw13_ClockReads.Keeps W ((g,o) :: bs) cs :=
  ⟨fun x hx=>(List.mem_cons.1 hx).elim (fun e=>by subst e;exact hg) (h.blk x),h.clk⟩
theorem soundservicelaw13_ClockReads.Keeps.addC {W:World} {bs:List (Nat × Obj)} {cs:List (Option Addr × List S61)} (h:soundservicelaw13_ClockReads.Keeps W bs cs) {A:Option Addr} {l:List S61} (hg:Kd.C k61 W A l.length l):soundservicelaw13_ClockReads.Keeps W bs ((A,l) :: cs) :=
  ⟨h.blk,fun x hx=>(List.mem_cons.1 hx).elim (fun e=>by subst e;exact hg) (h.clk x)⟩
theorem soundservicelaw13_ClockReads.Keeps.tail {W:World} {b:Nat × Obj} {bs:List (Nat × Obj)} {cs:List (Option Addr × List S61)} (h:soundservicelaw13_ClockReads.Keeps W (b :: bs) cs):soundservicelaw13_ClockReads.Keeps W bs cs:=⟨fun x hx=>h.blk x (List.mem_cons_of_mem _ hx),h.clk⟩
theorem soundservicelaw13_ClockReads.Keeps.tailC {W:World} {c:Option Addr × List S61} {bs:List (Nat × Obj)} {cs:List (Option Addr × List S61)} (h:soundservicelaw13_ClockReads.Keeps W bs (c :: cs)):soundservicelaw13_ClockReads.Keeps W bs cs:=⟨h.blk,fun x hx=>h.clk x (List.mem_cons_of_mem _ hx)⟩
set_option maxHeartbeats 8000000 in
set_option maxRecDepth 100000 in
theorem soundservicelaw13_ClockReads.calls (k:Nat) (A0:Option Addr) (c0:Nat) (l0:List S61) (A1:Option Addr) (c1:Nat) (l1:List Int) (a2 a3:Int) (r:Bool) (w:World) (hr0:Kd.C k61 w A0 l0.length l0) (hc0:l0.length≤c0) (hr1:Kd.C (Kd.int .u8) w A1 l1.length l1) (hc1:l1.length≤c1) (h:soundservicelaw13_ClockReads.f k l0 l1 a2 a3=some r) :
    Calls Try.prog 6 #[.agg #[.slice A0 l0.length c0], .slice A1 l1.length c1, .int .i64 a2, .int .i64 a3] w fun e w'=>e=.returned (.bool r)∧Below w.heap.size w w':=by
  have hu24:=Try.underlying24
  simp only [soundservicelaw13_ClockReads.f,Option.bind_eq_some_iff] at h
  obtain ⟨s,hs,h⟩:=h
  have HR:=Aside0.mk (And.intro hr0 (And.intro hc0 (And.intro hr1 hc1)))
  clear hr0 hc0 hr1 hc1
  go_enter Try.func6,Try.ntmps6
  go_upto_region 1 with (fail)
  obtain ⟨S,hS⟩:∃ S,S=w.heap.size:=⟨_,rfl⟩
  have hB0:Below w.heap.size w (w.alloc (Obj.cells #[.slice A0 l0.length c0] 24 (0,0))):=below_alloc (Below.refl _ w) _
  have bS:(w.alloc (Obj.cells #[.slice A0 l0.length c0] 24 (0,0))).heap[S]?=some (Obj.cells #[.slice A0 l0.length c0] 24 (0,0)):=by rw [hS];exact heap_alloc_new w _
  rw [← hS]
  have hE:soundservicelaw13_ClockReads.Env w _ S A0 c0 l0:=⟨bS,hB0⟩
  clear hS bS hB0
  generalize w.alloc (Obj.cells #[.slice A0 l0.length c0] 24 (0,0))=W1 at hE ⊢
  have hp:∀ W:World,Calls Try.prog 9 #[] W fun e w'=>e=.returned (.bool s)∧Below W.heap.size W w':=fun W=>soundservicelaw13_sane.calls k s W hs
  clear hs
  cases s with
  | false =>
    have H:=Aside0.mk h
    clear h
    go_wp2_with (go_at_call 9;refine (hp _).mono ?_;clear hp;rintro e Wp ⟨rfl,hb⟩;have hb5:=hb)
    go_ret
    obtain ⟨rfl⟩:false=r:=by simpa using H.out
    exact ⟨rfl,(hE.grow hb5).below⟩
  | true =>
    rw [if_pos rfl] at h
    obtain ⟨kp,hk,h⟩:=Option.bind_eq_some_iff.1 h
    go_upto_region 3 with (go_at_call 9;refine (hp _).mono ?_;clear hp;rintro e Wp ⟨rfl,hb⟩;have hb5:=hb)
    replace hE:=hE.grow hb5
    clear hb hb5
    generalize Wp=W2 at hE ⊢
    have s0:W2.cell? ⟨S,0,none⟩=some (.slice A0 l0.length c0):=(blk_cell hE.clock 0).trans rfl
    have hp:∀ W:World,Below w.heap.size w W→Calls Try.prog 10 #[.agg #[.slice A0 l0.length c0]] W fun e w'=>e=.returned (.bool kp)∧Below W.heap.size W w':=fun W hW=>soundservicekeep_Clock.calls A0 c0 l0 kp W (Kd.C_below HR.out.1 hW) HR.out.2.1 hk
    clear hk
    cases kp with
    | false =>
      have H:=Aside0.mk h
      clear h
      go_wp2_with (go_at_call 10;refine (hp _ hE.below).mono ?_;clear hp s0;rintro e Wp ⟨rfl,hb⟩;have hb5:=hb)
      go_ret
      obtain ⟨rfl⟩:true=r:=by simpa using H.out
      exact ⟨rfl,(hE.grow hb5).below⟩
    | true =>
      rw [if_pos rfl] at h
      obtain ⟨m,hm,h⟩:=Option.bind_eq_some_iff.1 h
      go_upto_region 5 with (go_at_call 10;refine (hp _ hE.below).mono ?_;clear hp s0;rintro e Wp ⟨rfl,hb⟩;have hb5:=hb)
      replace hE:=hE.grow hb5
      clear hb hb5
      generalize Wp=W6 at hE ⊢
      have s0:W6.cell? ⟨S,0,none⟩=some (.slice A0 l0.length c0):=(blk_cell hE.clock 0).trans rfl
      have HE:=Aside0.mk hE
      have HL:=Aside0.mk h
      have hBc:Below W6.heap.size W6 W6.drew:=(Below.refl _ W6).drew
      have hp:∀ W:World,Below w.heap.size w W→Calls Try.prog 14 #[.slice A1 l1.length c1] W fun e w'=>∃ v0_:Value,e=.returned (.agg #[v0_])∧Kd.R k61 61 w' W.heap.size (fun _=>True) v0_ m∧Below W.heap.size W w':=fun W hW=>soundservicelaw13_made.calls k A1 c1 l1 m W (Kd.C_below HR.out.2.2.1 hW) HR.out.2.2.2 hm
      clear hE hm h
      refine start_ (n:=6) (S:=fun w'=>w'.cell? ⟨S,0,none⟩=some (.slice A0 l0.length c0)) (ds:=[3]) #[false,false,false,false,false,false] (by kernel_rfl) rfl rfl s0 (fun hHeld=>?_)
      generalize W6.drew=Wd at hBc hHeld ⊢
      refine take_ (i:=0) (N:=some 30) (v:=?_) (a':=?_) #[true,false,false,false,false,false] rfl rfl (by kernel_rfl) (fun _ _ _ h=>h) (Or.inl ⟨by rfl,?_⟩) hHeld ?_ ?_
      rotate_left
      · rintro w' s0
        go_simp
        with_reducible rfl
      rotate_left
      · simp only [pL,i64_w,i32_w]
        rfl
      refine pure_ (i:=1) (N:=some 31) (v:=?_) (a':=?_) #[true,true,false,false,false,false] rfl rfl (by kernel_rfl) (fun _ _ _ h=>h) (Or.inl ⟨by rfl,?_⟩) ?_ ?_
      rotate_left
      · intro w'
        go_simp
        with_reducible rfl
      rotate_left
      · simp only [pL,i64_w,i32_w]
        rfl
      refine pure_ (i:=5) (N:=some 35) (v:=?_) (a':=?_) #[true,true,false,false,false,true] rfl rfl (by kernel_rfl) (fun _ _ _ h=>h) (Or.inl ⟨by rfl,?_⟩) ?_ ?_
      rotate_left
      · intro w'
        go_simp
        with_reducible rfl
      rotate_left
      · simp only [pL,i64_w,i32_w]
        rfl
      refine one_ (i:=2) (N:=some 32) #[true,true,true,false,false,true] rfl rfl (by kernel_rfl) (by decide) (fun K hK=>?_)
      refine goes_ Try.func14 (by kernel_rfl) rfl #[.slice A1 l1.length c1] (by rfl) rfl rfl (by (try simp only [List.map_toArray,List.map_cons,List.map_nil]);first|done|rfl) ?_
      with_reducible refine (hp _ (HE.out.grow hBc).below).mono ?_
      rintro e Wn ⟨vm,rfl,hR,hb⟩
      obtain ⟨Am,cm,rfl⟩:=Kd.R_slice hR
      have hRm:=Kd.R_reads' hR
      clear hR hp
      refine ⟨_,rfl,?_⟩
      have s0:Wd.cell? ⟨S,0,none⟩=some (.slice A0 l0.length c0):=(blk_cell (HE.out.grow hBc).clock 0).trans rfl
      replace s0:=(hb.cell (World.block_lt_of_cell? _ _ s0)).trans s0
      replace hBc:=Below.trans hBc (Below.mono hb hBc.size)
      clear hb
      refine hK.out _ _ s0 (fun hHeld=>?_)
      clear hK K s0
      refine norm_ (a':=?_) ?_ ?_
      rotate_left
      · show Act.put _ (some 32) _=_
        simp only [pL,i64_w,i32_w]
        rfl
      refine last_ (i:=3) (N:=some 33) #[true,true,true,true,false,true] rfl rfl (by kernel_rfl) (by decide) (fun K hK=>?_)
      obtain s0:=hHeld
      refine event_step (v:=?_) (w1:=?_) (by rfl) ?_ ?_
      rotate_left 2
      · go_simp
        constructor
        · rfl
        · rfl
      refine hK.out _ _ ?_
      clear hK K s0
      refine norm_ (a':=?_) ?_ ?_
      rotate_left
      · show Act.put _ (some 33) _=_
        simp only [pL,i64_w,i32_w]
        rfl
      refine pure_ (i:=4) (N:=some 34) (v:=?_) (a':=?_) #[true,true,true,true,true,true] rfl rfl (by kernel_rfl) (fun _ _ _ h=>h) (Or.inl ⟨by rfl,?_⟩) ?_ ?_
      rotate_left
      · intro w'
        go_simp
        with_reducible rfl
      rotate_left
      · simp only [pL,i64_w,i32_w]
        rfl
      refine done_ (by kernel_rfl) ?_
      have bB:=heap_alloc_new Wn (Obj.cells #[.slice A0 l0.length c0, .slice Am m.length cm] 24 (0,0))
      have hA:=below_alloc hBc (Obj.cells #[.slice A0 l0.length c0, .slice Am m.length cm] 24 (0,0))
      have hE:=HE.out.grow hA
      have hK1:soundservicelaw13_ClockReads.Keeps (Wn.alloc (Obj.cells #[.slice A0 l0.length c0, .slice Am m.length cm] 24 (0,0))) [] []:=⟨fun x hx=>absurd hx (by simp),fun x hx=>absurd hx (by simp)⟩
      have hK2:=(hK1.add bB).addC (Kd.C_below hRm.2.2 (below_alloc (Below.refl _ Wn) (Obj.cells #[.slice A0 l0.length c0, .slice Am m.length cm] 24 (0,0))))
      have hcm:=hRm.2.1
      clear hK1 hA bB hBc HE hRm
      generalize Wn.alloc (Obj.cells #[.slice A0 l0.length c0, .slice Am m.length cm] 24 (0,0))=W7 at hE hK2 ⊢
      generalize Wn.heap.size=B at hK2 ⊢
      have HE:=Aside0.mk (And.intro hE hK2)
      clear hE hK2
      go_upto_region 6 with (fail)
      go_wp2
      go_loopw [35] (fun i wr=>∃ n:Nat,i=.int .i64 n∧n≤2∧Aside0 (soundservicelaw13_ClockReads.clocks k [(a2,a3),(Int.tmod a2 600,Int.tmod a3 600),(Int.tmod a2 1099511627778,1099511627776)] ([l0,m].drop n)=some r)∧Aside0 (soundservicelaw13_ClockReads.Env w wr S A0 c0 l0∧soundservicelaw13_ClockReads.Keeps wr [(B,(Obj.cells #[.slice A0 l0.length c0, .slice Am m.length cm] 24 (0,0)))] [(Am,m)])) (fun i _=>2 - (intOf i).toNat)
      case atStart=>exact ⟨0,rfl,by omega,HL,HE⟩
      case round =>
        clear HL HE
        obtain ⟨n,rfl,hn,HL,HE⟩:=hrel
        by_cases hlt:n < 2
        rotate_left
        · obtain rfl:n=2:=by omega
          go_wp2
          go_ret
          have h:=HL.out
          obtain rfl:=Option.some.inj h
          exact ⟨rfl,HE.out.1.below⟩
        · have dn:decide ((n:Int) < 2)=true:=decide_eq_true (by omega)
          obtain ⟨A,c,l,e0,hC,hcl,hdrop⟩:∃ (A:Option Addr) (c:Nat) (l:List S61),wr.cell? ⟨B,n,none⟩=some (.slice A l.length c)∧Kd.C k61 wr A l.length l∧l.length≤c∧[l0,m].drop n=l :: [l0,m].drop (n+1):=by
            have hB:=HE.out.2.blk _ (List.mem_cons_self ..)
            have:n=0 ∨ n=1:=by omega
            rcases this with rfl|rfl
            · exact ⟨A0,c0,l0,(blk_cell hB 0).trans rfl,Kd.C_below HR.out.1 HE.out.1.below,HR.out.2.1,rfl⟩
            · exact ⟨Am,cm,m,(blk_cell hB 1).trans rfl,HE.out.2.clk _ (List.mem_cons_self ..),hcm,rfl⟩
          have h:=HL.out
          rw [hdrop] at h
          simp only [soundservicelaw13_ClockReads.clocks] at h
          obtain ⟨b1,hb1,h⟩:=Option.bind_eq_some_iff.1 h
          have HN:=Aside0.mk h
          clear h hdrop HL
          go_upto_region 8 with (fail)
          have bC:=heap_alloc_new wr (Obj.cells #[.slice A l.length c] 24 (0,0))
          have hA:Below wr.heap.size wr (wr.alloc (Obj.cells #[.slice A l.length c] 24 (0,0))):=below_alloc (Below.refl _ _) _
          have HE2:=Aside0.mk (And.intro (HE.out.1.grow hA) (((HE.out.2.addC hC).grow hA).add bC))
          clear hA bC hC e0 HE
          generalize wr.alloc (Obj.cells #[.slice A l.length c] 24 (0,0))=Wa at HE2 ⊢
          generalize wr.heap.size=C at HE2 ⊢
          go_upto_region 9 with (fail)
          have bT:=heap_alloc_new Wa (Obj.cells #[.int .i64 a2, .int .i64 a3, .int .i64 (Int.tmod a2 600), .int .i64 (Int.tmod a3 600), .int .i64 (Int.tmod a2 1099511627778), .int .i64 1099511627776] 51 (0,0))
          have hA:Below Wa.heap.size Wa (Wa.alloc (Obj.cells #[.int .i64 a2, .int .i64 a3, .int .i64 (Int.tmod a2 600), .int .i64 (Int.tmod a3 600), .int .i64 (Int.tmod a2 1099511627778), .int .i64 1099511627776] 51 (0,0))):=below_alloc (Below.refl _ _) _
          have HE:=Aside0.mk (And.intro (HE2.out.1.grow hA) ((HE2.out.2.grow hA).add bT))
          clear hA bT HE2
          generalize Wa.alloc (Obj.cells #[.int .i64 a2, .int .i64 a3, .int .i64 (Int.tmod a2 600), .int .i64 (Int.tmod a3 600), .int .i64 (Int.tmod a2 1099511627778), .int .i64 1099511627776] 51 (0,0))=Wb at HE ⊢
          generalize Wa.heap.size=T at HE ⊢
          have HI:=Aside0.mk hb1
          clear hb1
          go_wp2
          go_loopw [52] (fun i wr=>∃ n2:Nat,i=.int .i64 n2∧n2≤3∧Aside0 (soundservicelaw13_ClockReads.times k l ([(a2,a3),(Int.tmod a2 600,Int.tmod a3 600),(Int.tmod a2 1099511627778,1099511627776)].drop n2)=some b1)∧Aside0 (soundservicelaw13_ClockReads.Env w wr S A0 c0 l0∧soundservicelaw13_ClockReads.Keeps wr [(T,(Obj.cells #[.int .i64 a2, .int .i64 a3, .int .i64 (Int.tmod a2 600), .int .i64 (Int.tmod a3 600), .int .i64 (Int.tmod a2 1099511627778), .int .i64 1099511627776] 51 (0,0))),(C,(Obj.cells #[.slice A l.length c] 24 (0,0))),(B,(Obj.cells #[.slice A0 l0.length c0, .slice Am m.length cm] 24 (0,0)))] [(A,l),(Am,m)])) (fun i _=>3 - (intOf i).toNat)
          case atStart=>exact ⟨0,rfl,by omega,HI,HE⟩
          case round =>
            clear HI HE
            obtain ⟨n2,rfl,hn2,HI,HE⟩:=hrel
            by_cases hlt2:n2 < 3
            rotate_left
            · obtain rfl:n2=3:=by omega
              obtain rfl:true=b1:=Option.some.inj HI.out
              have h:=HN.out
              rw [if_pos rfl] at h
              have HL:=Aside0.mk h
              have HE2:=Aside0.mk (And.intro HE.out.1 HE.out.2.tail.tail.tailC)
              clear h HI HN HE
              go_wp2
              go_roundw
              case rel=>exact ⟨n+1,by go_num,by omega,HL,HE2⟩
              case measure =>
                simp only [intOf]
                omega
            have dn2:decide ((n2:Int) < 3)=true:=decide_eq_true (by omega)
            obtain ⟨qa,qb,e0,e1,hdrop⟩:∃ qa qb:Int,wr.cell? ⟨T,n2 * 2,none⟩=some (.int .i64 qa)∧wr.cell? ⟨T,n2 * 2+1,none⟩=some (.int .i64 qb)∧[(a2,a3),(Int.tmod a2 600,Int.tmod a3 600),(Int.tmod a2 1099511627778,1099511627776)].drop n2=(qa,qb) :: [(a2,a3),(Int.tmod a2 600,Int.tmod a3 600),(Int.tmod a2 1099511627778,1099511627776)].drop (n2+1):=by
              have hB:=HE.out.2.blk _ (List.mem_cons_self ..)
              have:n2=0 ∨ n2=1 ∨ n2=2:=by omega
              rcases this with rfl|rfl|rfl
              · exact ⟨_,_,(blk_cell hB 0).trans rfl,(blk_cell hB 1).trans rfl,rfl⟩
              · exact ⟨_,_,(blk_cell hB 2).trans rfl,(blk_cell hB 3).trans rfl,rfl⟩
              · exact ⟨_,_,(blk_cell hB 4).trans rfl,(blk_cell hB 5).trans rfl,rfl⟩
            have h:=HI.out
            rw [hdrop] at h
            simp only [soundservicelaw13_ClockReads.times] at h
            obtain ⟨b2,hb2,h⟩:=Option.bind_eq_some_iff.1 h
            have HN2:=Aside0.mk h
            simp only [soundservicelaw13_ClockReads.one,Option.bind_eq_some_iff] at hb2
            obtain ⟨⟨a,ae⟩,ha,⟨b,be⟩,hb,⟨i,ie⟩,hi,⟨j,je⟩,hj,hb2⟩:=hb2
            clear h hdrop HI
            go_upto_region 11 with (fail)
            have bD:=heap_alloc_new wr (Obj.cells #[.int .i64 qa, .int .i64 qb] 51 (0,0))
            have hA:Below wr.heap.size wr (wr.alloc (Obj.cells #[.int .i64 qa, .int .i64 qb] 51 (0,0))):=below_alloc (Below.refl _ _) _
            have HE2:=Aside0.mk (And.intro (HE.out.1.grow hA) ((HE.out.2.grow hA).add bD))
            clear hA bD HE e0 e1
            generalize wr.alloc (Obj.cells #[.int .i64 qa, .int .i64 qb] 51 (0,0))=V0 at HE2 ⊢
            generalize wr.heap.size=D at HE2 ⊢
            have s0:V0.cell? ⟨C,0,none⟩=some (.slice A l.length c):=(blk_cell (HE2.out.2.blk (C,(Obj.cells #[.slice A l.length c] 24 (0,0))) (by simp)) 0).trans rfl
            have s1:V0.cell? ⟨D,0,none⟩=some (.int .i64 qa):=(blk_cell (HE2.out.2.blk _ (List.mem_cons_self ..)) 0).trans rfl
            have hp:∀ W:World,Kd.C k61 W A l.length l→Calls Try.prog 21 #[.agg #[.slice A l.length c], .int .i64 qa] W fun e w'=>e=.returned (.tuple #[.int .i64 a, .int .i64 ae])∧Below W.heap.size W w':=fun W hW=>clock_Position.calls k A c l qa a ae W hW hcl ha
            clear ha
            go_upto_region 12 with (go_at_call 21;refine (hp _ (HE2.out.2.clk (A,l) (by simp))).mono ?_;clear hp s0 s1;rintro e Wp ⟨rfl,hb⟩;have hb5:=hb;clear hb)
            replace HE2:=Aside0.mk (And.intro (HE2.out.1.grow hb5) (HE2.out.2.grow hb5))
            clear hb5
            generalize Wp=V1 at HE2 ⊢
            have s0:V1.cell? ⟨C,0,none⟩=some (.slice A l.length c):=(blk_cell (HE2.out.2.blk (C,(Obj.cells #[.slice A l.length c] 24 (0,0))) (by simp)) 0).trans rfl
            have s1:V1.cell? ⟨D,0,none⟩=some (.int .i64 qa):=(blk_cell (HE2.out.2.blk _ (List.mem_cons_self ..)) 0).trans rfl
            have hp:∀ W:World,Kd.C k61 W A l.length l→Calls Try.prog 23 #[.agg #[.slice A l.length c], .int .i64 qa] W fun e w'=>e=.returned (.tuple #[.int .i64 b, .int .i64 be])∧Below W.heap.size W w':=fun W hW=>soundserviceref13_Position.calls k A c l qa b be W hW hcl hb
            clear hb
            go_upto_region 13 with (go_at_call 23;refine (hp _ (HE2.out.2.clk (A,l) (by simp))).mono ?_;clear hp s0 s1;rintro e Wp ⟨rfl,hb⟩;have hb5:=hb;clear hb)
            replace HE2:=Aside0.mk (And.intro (HE2.out.1.grow hb5) (HE2.out.2.grow hb5))
            clear hb5
            generalize Wp=V2 at HE2 ⊢
            have s0:V2.cell? ⟨C,0,none⟩=some (.slice A l.length c):=(blk_cell (HE2.out.2.blk (C,(Obj.cells #[.slice A l.length c] 24 (0,0))) (by simp)) 0).trans rfl
            have s1:V2.cell? ⟨D,0,none⟩=some (.int .i64 qa):=(blk_cell (HE2.out.2.blk _ (List.mem_cons_self ..)) 0).trans rfl
            have s2:V2.cell? ⟨D,1,none⟩=some (.int .i64 qb):=(blk_cell (HE2.out.2.blk _ (List.mem_cons_self ..)) 1).trans rfl
            have hp:∀ W:World,Kd.C k61 W A l.length l→Calls Try.prog 24 #[.agg #[.slice A l.length c], .int .i64 qa, .int .i64 qb] W fun e w'=>e=.returned (.tuple #[.int .i64 i, .int .i64 ie])∧Below W.heap.size W w':=fun W hW=>clock_Between.calls k A c l qa qb i ie W hW hcl hi
            clear hi
            go_upto_region 14 with (go_at_call 24;refine (hp _ (HE2.out.2.clk (A,l) (by simp))).mono ?_;clear hp s0 s1 s2;rintro e Wp ⟨rfl,hb⟩;have hb5:=hb;clear hb)
            replace HE2:=Aside0.mk (And.intro (HE2.out.1.grow hb5) (HE2.out.2.grow hb5))
            clear hb5
            generalize Wp=V3 at HE2 ⊢
            have s0:V3.cell? ⟨C,0,none⟩=some (.slice A l.length c):=(blk_cell (HE2.out.2.blk (C,(Obj.cells #[.slice A l.length c] 24 (0,0))) (by simp)) 0).trans rfl
            have s1:V3.cell? ⟨D,0,none⟩=some (.int .i64 qa):=(blk_cell (HE2.out.2.blk _ (List.mem_cons_self ..)) 0).trans rfl
            have s2:V3.cell? ⟨D,1,none⟩=some (.int .i64 qb):=(blk_cell (HE2.out.2.blk _ (List.mem_cons_self ..)) 1).trans rfl
            have hp:∀ W:World,Kd.C k61 W A l.length l→Calls Try.prog 25 #[.agg #[.slice A l.length c], .int .i64 qa, .int .i64 qb] W fun e w'=>e=.returned (.tuple #[.int .i64 j, .int .i64 je])∧Below W.heap.size W w':=fun W hW=>soundserviceref13_Between.calls k A c l qa qb j je W hW hcl hj
            clear hj
            go_upto_region 15 with (go_at_call 25;refine (hp _ (HE2.out.2.clk (A,l) (by simp))).mono ?_;clear hp s0 s1 s2;rintro e Wp ⟨rfl,hb⟩;have hb5:=hb;clear hb)
            replace HE2:=Aside0.mk (And.intro (HE2.out.1.grow hb5) (HE2.out.2.grow hb5))
            clear hb5
            generalize Wp=V4 at HE2 ⊢
            have no:b2=false→r=false:=fun e=>by
              have h2:=HN2.out
              rw [e,if_neg (by decide)] at h2
              have h1:=HN.out
              rw [← Option.some.inj h2,if_neg (by decide)] at h1
              exact (Option.some.inj h1).symm
            by_cases he:a=b
            rotate_left
            · rw [if_neg he] at hb2
              have hr:=Aside0.mk (no (Option.some.inj hb2).symm)
              have HE3:=Aside0.mk HE2.out.1.below
              have d1:(a == b)=false:=by simpa using he
              have d2:decide (a=b)=false:=decide_eq_false he
              clear hb2 no HN HN2 he HE2
              go_wp2 <;> (go_ret;rw [hr.out];exact ⟨rfl,HE3.out⟩)
            rw [if_pos he] at hb2
            subst he
            by_cases he:ae=be
            rotate_left
            · rw [if_neg he] at hb2
              have hr:=Aside0.mk (no (Option.some.inj hb2).symm)
              have HE3:=Aside0.mk HE2.out.1.below
              have d1:(ae == be)=false:=by simpa using he
              have d2:decide (ae=be)=false:=decide_eq_false he
              clear hb2 no HN HN2 he HE2
              go_wp2 <;> (go_ret;rw [hr.out];exact ⟨rfl,HE3.out⟩)
            rw [if_pos he] at hb2
            subst he
            by_cases he:i=j
            rotate_left
            · rw [if_neg he] at hb2
              have hr:=Aside0.mk (no (Option.some.inj hb2).symm)
              have HE3:=Aside0.mk HE2.out.1.below
              have d1:(i == j)=false:=by simpa using he
              have d2:decide (i=j)=false:=decide_eq_false he
              clear hb2 no HN HN2 he HE2
              go_wp2 <;> (go_ret;rw [hr.out];exact ⟨rfl,HE3.out⟩)
            rw [if_pos he] at hb2
            subst he
            by_cases he:ie=je
            rotate_left
            · rw [if_neg he] at hb2
              have hr:=Aside0.mk (no (Option.some.inj hb2).symm)
              have HE3:=Aside0.mk HE2.out.1.below
              have d1:(ie == je)=false:=by simpa using he
              have d2:decide (ie=je)=false:=decide_eq_false he
              clear hb2 no HN HN2 he HE2
              go_wp2 <;> (go_ret;rw [hr.out];exact ⟨rfl,HE3.out⟩)
            rw [if_pos he] at hb2
            subst he
            simp only [Option.bind_eq_some_iff] at hb2
            obtain ⟨⟨p,pe⟩,hp_,⟨q,qe⟩,hq_,hb2⟩:=hb2
            go_upto_region 17 with (fail)
            have s0:V4.cell? ⟨C,0,none⟩=some (.slice A l.length c):=(blk_cell (HE2.out.2.blk (C,(Obj.cells #[.slice A l.length c] 24 (0,0))) (by simp)) 0).trans rfl
            have s2:V4.cell? ⟨D,1,none⟩=some (.int .i64 qb):=(blk_cell (HE2.out.2.blk _ (List.mem_cons_self ..)) 1).trans rfl
            have hp:∀ W:World,Kd.C k61 W A l.length l→Calls Try.prog 26 #[.agg #[.slice A l.length c], .int .i64 qb] W fun e w'=>e=.returned (.tuple #[.int .i64 p, .int .i64 pe])∧Below W.heap.size W w':=fun W hW=>clock_TimeOf.calls k A c l qb p pe W hW hcl hp_
            clear hp_
            go_upto_region 18 with (go_at_call 26;refine (hp _ (HE2.out.2.clk (A,l) (by simp))).mono ?_;clear hp s0 s2;rintro e Wp ⟨rfl,hb⟩;have hb5:=hb;clear hb)
            replace HE2:=Aside0.mk (And.intro (HE2.out.1.grow hb5) (HE2.out.2.grow hb5))
            clear hb5
            generalize Wp=V5 at HE2 ⊢
            have s0:V5.cell? ⟨C,0,none⟩=some (.slice A l.length c):=(blk_cell (HE2.out.2.blk (C,(Obj.cells #[.slice A l.length c] 24 (0,0))) (by simp)) 0).trans rfl
            have s2:V5.cell? ⟨D,1,none⟩=some (.int .i64 qb):=(blk_cell (HE2.out.2.blk _ (List.mem_cons_self ..)) 1).trans rfl
            have hp:∀ W:World,Kd.C k61 W A l.length l→Calls Try.prog 27 #[.agg #[.slice A l.length c], .int .i64 qb] W fun e w'=>e=.returned (.tuple #[.int .i64 q, .int .i64 qe])∧Below W.heap.size W w':=fun W hW=>soundserviceref13_TimeOf.calls k A c l qb q qe W hW hcl hq_
            clear hq_
            go_upto_region 19 with (go_at_call 27;refine (hp _ (HE2.out.2.clk (A,l) (by simp))).mono ?_;clear hp s0 s2;rintro e Wp ⟨rfl,hb⟩;have hb5:=hb;clear hb)
            replace HE2:=Aside0.mk (And.intro (HE2.out.1.grow hb5) (HE2.out.2.grow hb5))
            clear hb5
            generalize Wp=V6 at HE2 ⊢
            by_cases he:p=q
            rotate_left
            · rw [if_neg he] at hb2
              have hr:=Aside0.mk (no (Option.some.inj hb2).symm)
              have HE3:=Aside0.mk HE2.out.1.below
              have d1:(p == q)=false:=by simpa using he
              have d2:decide (p=q)=false:=decide_eq_false he
              clear hb2 no HN HN2 he HE2
              go_wp2 <;> (go_ret;rw [hr.out];exact ⟨rfl,HE3.out⟩)
            rw [if_pos he] at hb2
            subst he
            by_cases he:pe=qe
            rotate_left
            · rw [if_neg he] at hb2
              have hr:=Aside0.mk (no (Option.some.inj hb2).symm)
              have HE3:=Aside0.mk HE2.out.1.below
              have d1:(pe == qe)=false:=by simpa using he
              have d2:decide (pe=qe)=false:=decide_eq_false he
              clear hb2 no HN HN2 he HE2
              go_wp2 <;> (go_ret;rw [hr.out];exact ⟨rfl,HE3.out⟩)
            rw [if_pos he] at hb2
            subst he
            obtain rfl:true=b2:=Option.some.inj hb2
            have h:=HN2.out
            rw [if_pos rfl] at h
            have HI:=Aside0.mk h
            have HE3:=Aside0.mk (And.intro HE2.out.1 HE2.out.2.tail)
            clear h no HN2 hb2 HE2
            go_wp2
            go_roundw
            case rel=>exact ⟨n2+1,by go_num,by omega,HI,HE3⟩
            case measure =>
              first
                | (simp only [intOf];omega)
                | (simp [intOf];omega)


end Go.Proofs.Ythnmmiofhjbkeaa.PA
