/- Walks of functions of the program: each does what its Lean function says. Written by a program of this session (wip/xprint), which runs the printer of the kit with changes. -/
import Derived.Test.YthnmmiofhjbkeaaPAx0
import Derived.Test.YthnmmiofhjbkeaaPAx2
import Derived.Test.YthnmmiofhjbkeaaPAx3
import Derived.Test.YthnmmiofhjbkeaaPAx4
import Derived.Test.YthnmmiofhjbkeaaPAx11
import Derived.Test.YthnmmiofhjbkeaaPAx13
import Derived.Test.YthnmmiofhjbkeaaPAx14
import Derived.Test.YthnmmiofhjbkeaaPAx15
import Derived.Test.YthnmmiofhjbkeaaPAx18
namespace Go.Proofs.Ythnmmiofhjbkeaa.PA
open Go.RowKit Go.Proofs.YthnmmiofhjbkeaaW.PrintWords Go.Proofs.YthnmmiofhjbkeaaW.PrintLast Go.Proofs.YthnmmiofhjbkeaaW.PrintMore
attribute [local go_sem] max2_int min2_int max_two min_two max_three min_three max_four min_four   -- for this text's walks alone
set_option linter.unusedVariables false
set_option linter.unusedSimpArgs false


/-! ### soundservicelaw13_ClockMakes: function 3 -/
/-- One change, by the clock and by its reference. -/
def soundservicelaw13_ClockMakes.chg (k:Nat) (c:List S61) (t n d:Int):Option Bool :=
  (clock_Change.f k c t n d).bind fun a=>(soundserviceref13_Change.f k c t n d).bind fun b=>if a.2=b.2 then soundserviceref13_Same.f k a.1 b.1 else some false
def soundservicelaw13_ClockMakes.rates (k:Nat) (c:List S61) (t:Int):List (Int × Int)→Option Bool
 | []=>some true
 | q :: qs=>(soundservicelaw13_ClockMakes.chg k c t q.1 q.2).bind fun b=>if b=true then soundservicelaw13_ClockMakes.rates k c t qs else some false
def soundservicelaw13_ClockMakes.times (k:Nat) (c:List S61) (rs:List (Int × Int)):List Int→Option Bool
 | []=>some true
 | t :: ts=>(soundservicelaw13_ClockMakes.rates k c t rs).bind fun b=>if b=true then soundservicelaw13_ClockMakes.times k c rs ts else some false
def soundservicelaw13_ClockMakes.clocks (k:Nat) (ts:List Int) (rs:List (Int × Int)):List (List S61)→Option Bool
 | []=>some true
 | c :: cs=>(soundservicelaw13_ClockMakes.times k c rs ts).bind fun b=>if b=true then (clock_Valid.f k c).bind fun v=>(soundserviceref13_Valid.f k c).bind fun u=>if v=u then soundservicelaw13_ClockMakes.clocks k ts rs cs else some false else some false
def soundservicelaw13_ClockMakes.f (k:Nat) (l0:List S61) (l1:List Int) (a2 a3_0 a3_1:Int):Option Bool :=
  (soundservicelaw13_sane.f k).bind fun s=>if s=true then (soundservicekeep_Clock.f l0).bind fun kp=>if kp=true then
    (clock_New.f k a3_0 a3_1).bind fun x=>(soundserviceref13_New.f k a3_0 a3_1).bind fun y=>(soundserviceref13_Same.f k x.1 y.1).bind fun b=>if b=true then (if x.2=y.2 then
      (soundservicelaw13_made.f k l1).bind fun m=>soundservicelaw13_ClockMakes.clocks k [a2,Int.tmod a2 600] [(a3_0,a3_1),(3,2)] [l0,m] else some false) else some false else some true else some false
/-- What lies in memory: the raw clock's block and the rate's. -/
structure soundservicelaw13_ClockMakes.Env (w W:World) (S:Nat) (A:Option Addr) (c:Nat) (l:List S61) (n d:Int):Prop where
  clock:W.heap[S]?=some (.cells #[.slice A l.length c] 24 (0,0))
  rate:W.heap[S+1]?=some (.cells #[.int .i64 n, .int .i64 d] 27 (0,0))
  below:Below w.heap.size w W
theorem soundservicelaw13_ClockMakes.Env.grow {w W W':World} {S:Nat} {A:Option Addr} {c:Nat} {l:List S61} {n d:Int} (h:soundservicelaw13_ClockMakes.Env w W S A c l n d) (hb:Below W.heap.size W W'):soundservicelaw13_ClockMakes.Env w W' S A c l n d :=
  ⟨blk_below h.clock hb,blk_below h.rate hb,h.below.trans (hb.mono h.below.size)⟩
/-- Blocks and clocks that stay as they are. -/
structure soundservicelaw13_ClockMakes.Keeps (W:World) (bs:List (Nat × Obj)) (cs:List (Option Addr × List S61)):Prop where
  blk:∀ x ∈ bs,W.heap[x.1]?=some x.2
  clk:∀ x ∈ cs,Kd.C k61 W x.1 x.2.length x.2
theorem soundservicelaw13_ClockMakes.Keeps.grow {W W':World} {bs:List (Nat × Obj)} {cs:List (Option Addr × List S61)} (h:soundservicelaw13_ClockMakes.Keeps W bs cs) (hb:Below W.heap.size W W'):soundservicelaw13_ClockMakes.Keeps W' bs cs :=
  ⟨fun x hx=>blk_below (h.blk x hx) hb,fun x hx=>Kd.C_below (h.clk x hx) hb⟩
theorem soundservicelaw13_ClockMakes.Keeps.add {W:World} {bs:List (Nat × Obj)} {cs:List (Option Addr × List S61)} (h:soundservicelaw13_ClockMakes.Keeps W bs cs) {g:Nat} {o:Obj} (hg:W.heap[g]?=some o):soundservicelaw13_ClockMakes.Keeps W ((g,o) :: bs) cs :=
  ⟨fun x hx=>(List.mem_cons.1 hx).elim (fun e=>by subst e;exact hg) (h.blk x),h.clk⟩
theorem soundservicelaw13_ClockMakes.Keeps.addC {W:World} {bs:List (Nat × Obj)} {cs:List (Option Addr × List S61)} (h:soundservicelaw13_ClockMakes.Keeps W bs cs) {A:Option Addr} {l:List S61} (hg:Kd.C k61 W A l.length l):soundservicelaw13_ClockMakes.Keeps W bs ((A,l) :: cs) :=
  ⟨h.blk,fun x hx=>(List.mem_cons.1 hx).elim (fun e=>by subst e;exact hg) (h.clk x)⟩
theorem soundservicelaw13_ClockMakes.Keeps.tail {W:World} {b:Nat × Obj} {bs:List (Nat × Obj)} {cs:List (Option Addr × List S61)} (h:soundservicelaw13_ClockMakes.Keeps W (b :: bs) cs):soundservicelaw13_ClockMakes.Keeps W bs cs:=⟨fun x hx=>h.blk x (List.mem_cons_of_mem _ hx),h.clk⟩
theorem soundservicelaw13_ClockMakes.Keeps.tailC {W:World} {c:Option Addr × List S61} {bs:List (Nat × Obj)} {cs:List (Option Addr × List S61)} (h:soundservicelaw13_ClockMakes.Keeps W bs (c :: cs)):soundservicelaw13_ClockMakes.Keeps W bs cs:=⟨h.blk,fun x hx=>h.clk x (List.mem_cons_of_mem _ hx)⟩
set_option maxHeartbeats 8000000 in
set_option maxRecDepth 100000 in
theorem soundservicelaw13_ClockMakes.calls (k:Nat) (A0:Option Addr) (c0:Nat) (l0:List S61) (A1:Option Addr) (c1:Nat) (l1:List Int) (a2 a3_0 a3_1:Int) (r:Bool) (w:World) (hr0:Kd.C k61 w A0 l0.length l0) (hc0:l0.length≤c0) (hr1:Kd.C (Kd.int .u8) w A1 l1.length l1) (hc1:l1.length≤c1) (h:soundservicelaw13_ClockMakes.f k l0 l1 a2 a3_0 a3_1=some r) :
    Calls Try.prog 3 #[.agg #[.slice A0 l0.length c0], .slice A1 l1.length c1, .int .i64 a2, .agg #[.int .i64 a3_0, .int .i64 a3_1]] w fun e w'=>e=.returned (.bool r)∧Below w.heap.size w w':=by
  have hu24:=Try.underlying24
  have hu27:=Try.underlying27
  simp only [soundservicelaw13_ClockMakes.f,Option.bind_eq_some_iff] at h
  obtain ⟨s,hs,h⟩:=h
  have HR:=Aside0.mk (And.intro hr0 (And.intro hc0 (And.intro hr1 hc1)))
  clear hr0 hc0 hr1 hc1
  go_enter Try.func3,Try.ntmps3
  go_upto_region 1 with (fail)
  obtain ⟨S,hS⟩:∃ S,S=w.heap.size:=⟨_,rfl⟩
  have hB0:Below w.heap.size w ((w.alloc (Obj.cells #[.slice A0 l0.length c0] 24 (0,0))).alloc (Obj.cells #[.int .i64 a3_0, .int .i64 a3_1] 27 (0,0))):=below_alloc (below_alloc (Below.refl _ w) _) _
  have bS:((w.alloc (Obj.cells #[.slice A0 l0.length c0] 24 (0,0))).alloc (Obj.cells #[.int .i64 a3_0, .int .i64 a3_1] 27 (0,0))).heap[S]?=some (Obj.cells #[.slice A0 l0.length c0] 24 (0,0)):=by rw [hS];exact blk_alloc (heap_alloc_new w _) _
  have bT:((w.alloc (Obj.cells #[.slice A0 l0.length c0] 24 (0,0))).alloc (Obj.cells #[.int .i64 a3_0, .int .i64 a3_1] 27 (0,0))).heap[S+1]?=some (Obj.cells #[.int .i64 a3_0, .int .i64 a3_1] 27 (0,0)):=by
    rw [hS]
    have:=heap_alloc_new (w.alloc (Obj.cells #[.slice A0 l0.length c0] 24 (0,0))) (Obj.cells #[.int .i64 a3_0, .int .i64 a3_1] 27 (0,0))
    rwa [World.size_alloc] at this
  rw [← hS]
  have hE:soundservicelaw13_ClockMakes.Env w _ S A0 c0 l0 a3_0 a3_1:=⟨bS,bT,hB0⟩
  clear hS bS bT hB0
  generalize (w.alloc (Obj.cells #[.slice A0 l0.length c0] 24 (0,0))).alloc (Obj.cells #[.int .i64 a3_0, .int .i64 a3_1] 27 (0,0))=W1 at hE ⊢
  have hp:∀ W:World,Calls Try.prog 9 #[] W fun e w'=>e=.returned (.bool s)∧Below W.heap.size W w':=fun W=>soundservicelaw13_sane.calls k s W hs
  clear hs
  cases s with
  | false =>
    have H:=Aside0.mk h
    clear h
    go_wp2_with (go_at_call 9;refine (hp _).mono ?_;clear hp;rintro e Wp ⟨rfl,hb⟩;have hb5:=hb)
    go_ret
    obtain ⟨rfl⟩:false=r:=by simpa using H.out
    exact ⟨rfl,(hE.grow hb5).below⟩
  | true =>
    rw [if_pos rfl] at h
    obtain ⟨kp,hk,h⟩:=Option.bind_eq_some_iff.1 h
    go_upto_region 3 with (go_at_call 9;refine (hp _).mono ?_;clear hp;rintro e Wp ⟨rfl,hb⟩;have hb5:=hb)
    replace hE:=hE.grow hb5
    clear hb hb5
    generalize Wp=W2 at hE ⊢
    have s0:W2.cell? ⟨S,0,none⟩=some (.slice A0 l0.length c0):=(blk_cell hE.clock 0).trans rfl
    have hp:∀ W:World,Below w.heap.size w W→Calls Try.prog 10 #[.agg #[.slice A0 l0.length c0]] W fun e w'=>e=.returned (.bool kp)∧Below W.heap.size W w':=fun W hW=>soundservicekeep_Clock.calls A0 c0 l0 kp W (Kd.C_below HR.out.1 hW) HR.out.2.1 hk
    clear hk
    cases kp with
    | false =>
      have H:=Aside0.mk h
      clear h
      go_wp2_with (go_at_call 10;refine (hp _ hE.below).mono ?_;clear hp s0;rintro e Wp ⟨rfl,hb⟩;have hb5:=hb)
      go_ret
      obtain ⟨rfl⟩:true=r:=by simpa using H.out
      exact ⟨rfl,(hE.grow hb5).below⟩
    | true =>
      rw [if_pos rfl] at h
      simp only [Option.bind_eq_some_iff] at h
      obtain ⟨x,hx,y,hy,b,hsame,h⟩:=h
      go_upto_region 5 with (go_at_call 10;refine (hp _ hE.below).mono ?_;clear hp s0;rintro e Wp ⟨rfl,hb⟩;have hb5:=hb)
      replace hE:=hE.grow hb5
      clear hb hb5
      generalize Wp=W3 at hE ⊢
      have s0:W3.cell? ⟨S+1,0,none⟩=some (.int .i64 a3_0):=(blk_cell hE.rate 0).trans rfl
      have s1:W3.cell? ⟨S+1,1,none⟩=some (.int .i64 a3_1):=(blk_cell hE.rate 1).trans rfl
      have hp:∀ W:World,Calls Try.prog 11 #[.agg #[.int .i64 a3_0, .int .i64 a3_1]] W fun e w'=>∃ v0_:Value,e=.returned (.tuple #[.agg #[v0_], .int .i64 x.2])∧Kd.R k61 61 w' W.heap.size (fun _=>True) v0_ x.1∧Below W.heap.size W w':=fun W=>clock_New.calls k _ _ x.1 x.2 W hx
      clear hx
      go_upto_region 6 with (go_at_call 11;refine (hp _).mono ?_;clear hp s0 s1;rintro e Wp ⟨vx,rfl,hR,hb⟩;obtain ⟨Ax,cx,rfl⟩:=Kd.R_slice hR;have hRx:=Kd.R_reads' hR;clear hR;have hb5:=hb)
      have hA:=below_alloc hb5 (Obj.cells #[.slice Ax x.1.length cx] 24 (0,0))
      have bX:=heap_alloc_new Wp (Obj.cells #[.slice Ax x.1.length cx] 24 (0,0))
      have hCx:=Kd.C_below hRx.2.2 (below_alloc (Below.refl _ Wp) (Obj.cells #[.slice Ax x.1.length cx] 24 (0,0)))
      have hcx:=hRx.2.1
      replace hE:=hE.grow hA
      clear hA hb hb5 hRx
      generalize Wp.alloc (Obj.cells #[.slice Ax x.1.length cx] 24 (0,0))=W4 at hE bX hCx ⊢
      generalize Wp.heap.size=X at bX ⊢
      have s0:W4.cell? ⟨S+1,0,none⟩=some (.int .i64 a3_0):=(blk_cell hE.rate 0).trans rfl
      have s1:W4.cell? ⟨S+1,1,none⟩=some (.int .i64 a3_1):=(blk_cell hE.rate 1).trans rfl
      have hp:∀ W:World,Calls Try.prog 12 #[.agg #[.int .i64 a3_0, .int .i64 a3_1]] W fun e w'=>∃ v0_:Value,e=.returned (.tuple #[.agg #[v0_], .int .i64 y.2])∧Kd.R k61 61 w' W.heap.size (fun _=>True) v0_ y.1∧Below W.heap.size W w':=fun W=>soundserviceref13_New.calls k _ _ y.1 y.2 W hy
      clear hy
      go_upto_region 7 with (go_at_call 12;refine (hp _).mono ?_;clear hp s0 s1;rintro e Wp ⟨vy,rfl,hR,hb⟩;obtain ⟨Ay,cy,rfl⟩:=Kd.R_slice hR;have hRy:=Kd.R_reads' hR;clear hR;have hb5:=hb)
      have hA:=below_alloc hb5 (Obj.cells #[.slice Ay y.1.length cy] 24 (0,0))
      have bY:=heap_alloc_new Wp (Obj.cells #[.slice Ay y.1.length cy] 24 (0,0))
      have hCy:=Kd.C_below hRy.2.2 (below_alloc (Below.refl _ Wp) (Obj.cells #[.slice Ay y.1.length cy] 24 (0,0)))
      have hcy:=hRy.2.1
      replace hE:=hE.grow hA
      replace bX:=blk_below bX hA
      replace hCx:=Kd.C_below hCx hA
      clear hA hb hb5 hRy
      generalize Wp.alloc (Obj.cells #[.slice Ay y.1.length cy] 24 (0,0))=W5 at hE bX bY hCx hCy ⊢
      generalize Wp.heap.size=Y at bY ⊢
      have s0:W5.cell? ⟨X,0,none⟩=some (.slice Ax x.1.length cx):=(blk_cell bX 0).trans rfl
      have s1:W5.cell? ⟨Y,0,none⟩=some (.slice Ay y.1.length cy):=(blk_cell bY 0).trans rfl
      have hp:=soundserviceref13_Same.calls k Ax cx x.1 Ay cy y.1 b W5 hCx hcx hCy hcy hsame
      clear hsame hCx hcx hCy hcy bX bY
      cases b with
      | false =>
        have H:=Aside0.mk h
        clear h
        go_wp2_with (go_at_call 13;refine hp.mono ?_;clear hp s0 s1;rintro e Wp ⟨rfl,hb⟩;have hb5:=hb)
        go_ret
        obtain ⟨rfl⟩:false=r:=by simpa using H.out
        exact ⟨rfl,(hE.grow hb5).below⟩
      | true =>
        rw [if_pos rfl] at h
        by_cases he:x.2=y.2
        rotate_left
        · rw [if_neg he] at h
          have H:=Aside0.mk h
          have d1:(x.2 == y.2)=false:=by simpa using he
          have d2:decide (x.2=y.2)=false:=decide_eq_false he
          clear h he
          go_wp2_with (go_at_call 13;refine hp.mono ?_;clear hp s0 s1;rintro e Wp ⟨rfl,hb⟩;have hb5:=hb)
          go_ret
          obtain ⟨rfl⟩:false=r:=by simpa using H.out
          exact ⟨rfl,(hE.grow hb5).below⟩
        · rw [if_pos he] at h
          obtain ⟨m,hm,h⟩:=Option.bind_eq_some_iff.1 h
          go_upto_region 9 with (go_at_call 13;refine hp.mono ?_;clear hp s0 s1;rintro e Wp ⟨rfl,hb⟩;have hb5:=hb)
          replace hE:=hE.grow hb5
          clear hb hb5
          generalize Wp=W6 at hE ⊢
          have s0:W6.cell? ⟨S,0,none⟩=some (.slice A0 l0.length c0):=(blk_cell hE.clock 0).trans rfl
          have HE:=Aside0.mk hE
          have HL:=Aside0.mk h
          have hBc:Below W6.heap.size W6 W6.drew:=(Below.refl _ W6).drew
          have hp:∀ W:World,Below w.heap.size w W→Calls Try.prog 14 #[.slice A1 l1.length c1] W fun e w'=>∃ v0_:Value,e=.returned (.agg #[v0_])∧Kd.R k61 61 w' W.heap.size (fun _=>True) v0_ m∧Below W.heap.size W w':=fun W hW=>soundservicelaw13_made.calls k A1 c1 l1 m W (Kd.C_below HR.out.2.2.1 hW) HR.out.2.2.2 hm
          clear hE hm h he
          refine start_ (n:=6) (S:=fun w'=>w'.cell? ⟨S,0,none⟩=some (.slice A0 l0.length c0)) (ds:=[3]) #[false,false,false,false,false,false] (by kernel_rfl) rfl rfl s0 (fun hHeld=>?_)
          generalize W6.drew=Wd at hBc hHeld ⊢
          refine take_ (i:=0) (N:=some 47) (v:=?_) (a':=?_) #[true,false,false,false,false,false] rfl rfl (by kernel_rfl) (fun _ _ _ h=>h) (Or.inl ⟨by rfl,?_⟩) hHeld ?_ ?_
          rotate_left
          · rintro w' s0
            go_simp
            with_reducible rfl
          rotate_left
          · simp only [pL,i64_w,i32_w]
            rfl
          refine pure_ (i:=1) (N:=some 48) (v:=?_) (a':=?_) #[true,true,false,false,false,false] rfl rfl (by kernel_rfl) (fun _ _ _ h=>h) (Or.inl ⟨by rfl,?_⟩) ?_ ?_
          rotate_left
          · intro w'
            go_simp
            with_reducible rfl
          rotate_left
          · simp only [pL,i64_w,i32_w]
            rfl
          refine pure_ (i:=5) (N:=some 52) (v:=?_) (a':=?_) #[true,true,false,false,false,true] rfl rfl (by kernel_rfl) (fun _ _ _ h=>h) (Or.inl ⟨by rfl,?_⟩) ?_ ?_
          rotate_left
          · intro w'
            go_simp
            with_reducible rfl
          rotate_left
          · simp only [pL,i64_w,i32_w]
            rfl
          refine one_ (i:=2) (N:=some 49) #[true,true,true,false,false,true] rfl rfl (by kernel_rfl) (by decide) (fun K hK=>?_)
          refine goes_ Try.func14 (by kernel_rfl) rfl #[.slice A1 l1.length c1] (by rfl) rfl rfl (by (try simp only [List.map_toArray,List.map_cons,List.map_nil]);first|done|rfl) ?_
          with_reducible refine (hp _ (HE.out.grow hBc).below).mono ?_
          rintro e Wn ⟨vm,rfl,hR,hb⟩
          obtain ⟨Am,cm,rfl⟩:=Kd.R_slice hR
          have hRm:=Kd.R_reads' hR
          clear hR hp
          refine ⟨_,rfl,?_⟩
          have s0:Wd.cell? ⟨S,0,none⟩=some (.slice A0 l0.length c0):=(blk_cell (HE.out.grow hBc).clock 0).trans rfl
          replace s0:=(hb.cell (World.block_lt_of_cell? _ _ s0)).trans s0
          replace hBc:=Below.trans hBc (Below.mono hb hBc.size)
          clear hb
          refine hK.out _ _ s0 (fun hHeld=>?_)
          clear hK K s0
          refine norm_ (a':=?_) ?_ ?_
          rotate_left
          · show Act.put _ (some 49) _=_
            simp only [pL,i64_w,i32_w]
            rfl
          refine last_ (i:=3) (N:=some 50) #[true,true,true,true,false,true] rfl rfl (by kernel_rfl) (by decide) (fun K hK=>?_)
          obtain s0:=hHeld
          refine event_step (v:=?_) (w1:=?_) (by rfl) ?_ ?_
          rotate_left 2
          · go_simp
            constructor
            · rfl
            · rfl
          refine hK.out _ _ ?_
          clear hK K s0
          refine norm_ (a':=?_) ?_ ?_
          rotate_left
          · show Act.put _ (some 50) _=_
            simp only [pL,i64_w,i32_w]
            rfl
          refine pure_ (i:=4) (N:=some 51) (v:=?_) (a':=?_) #[true,true,true,true,true,true] rfl rfl (by kernel_rfl) (fun _ _ _ h=>h) (Or.inl ⟨by rfl,?_⟩) ?_ ?_
          rotate_left
          · intro w'
            go_simp
            with_reducible rfl
          rotate_left
          · simp only [pL,i64_w,i32_w]
            rfl
          refine done_ (by kernel_rfl) ?_
          have bB:=heap_alloc_new Wn (Obj.cells #[.slice A0 l0.length c0, .slice Am m.length cm] 24 (0,0))
          have hA:=below_alloc hBc (Obj.cells #[.slice A0 l0.length c0, .slice Am m.length cm] 24 (0,0))
          have hE:=HE.out.grow hA
          have hK1:soundservicelaw13_ClockMakes.Keeps (Wn.alloc (Obj.cells #[.slice A0 l0.length c0, .slice Am m.length cm] 24 (0,0))) [] []:=⟨fun x hx=>absurd hx (by simp),fun x hx=>absurd hx (by simp)⟩
          have hK2:=(hK1.add bB).addC (Kd.C_below hRm.2.2 (below_alloc (Below.refl _ Wn) (Obj.cells #[.slice A0 l0.length c0, .slice Am m.length cm] 24 (0,0))))
          have hcm:=hRm.2.1
          clear hK1 hA bB hBc HE hRm
          generalize Wn.alloc (Obj.cells #[.slice A0 l0.length c0, .slice Am m.length cm] 24 (0,0))=W7 at hE hK2 ⊢
          generalize Wn.heap.size=B at hK2 ⊢
          have HE:=Aside0.mk (And.intro hE hK2)
          clear hE hK2
          go_upto_region 10 with (fail)
          go_wp2
          go_loopw [52] (fun i wr=>∃ n:Nat,i=.int .i64 n∧n≤2∧Aside0 (soundservicelaw13_ClockMakes.clocks k [a2,Int.tmod a2 600] [(a3_0,a3_1),(3,2)] ([l0,m].drop n)=some r)∧Aside0 (soundservicelaw13_ClockMakes.Env w wr S A0 c0 l0 a3_0 a3_1∧soundservicelaw13_ClockMakes.Keeps wr [(B,(Obj.cells #[.slice A0 l0.length c0, .slice Am m.length cm] 24 (0,0)))] [(Am,m)])) (fun i _=>2 - (intOf i).toNat)
          case atStart=>exact ⟨0,rfl,by omega,HL,HE⟩
          case round =>
            clear HL HE
            obtain ⟨n,rfl,hn,HL,HE⟩:=hrel
            by_cases hlt:n < 2
            rotate_left
            · obtain rfl:n=2:=by omega
              go_wp2
              go_ret
              have h:=HL.out
              obtain rfl:=Option.some.inj h
              exact ⟨rfl,HE.out.1.below⟩
            · have dn:decide ((n:Int) < 2)=true:=decide_eq_true (by omega)
              obtain ⟨A,c,l,e0,hC,hcl,hdrop⟩:∃ (A:Option Addr) (c:Nat) (l:List S61),wr.cell? ⟨B,n,none⟩=some (.slice A l.length c)∧Kd.C k61 wr A l.length l∧l.length≤c∧[l0,m].drop n=l :: [l0,m].drop (n+1):=by
                have hB:=HE.out.2.blk _ (List.mem_cons_self ..)
                have:n=0 ∨ n=1:=by omega
                rcases this with rfl|rfl
                · exact ⟨A0,c0,l0,(blk_cell hB 0).trans rfl,Kd.C_below HR.out.1 HE.out.1.below,HR.out.2.1,rfl⟩
                · exact ⟨Am,cm,m,(blk_cell hB 1).trans rfl,HE.out.2.clk _ (List.mem_cons_self ..),hcm,rfl⟩
              have h:=HL.out
              rw [hdrop] at h
              simp only [soundservicelaw13_ClockMakes.clocks] at h
              obtain ⟨b1,hb1,h⟩:=Option.bind_eq_some_iff.1 h
              have HN:=Aside0.mk h
              clear h hdrop HL
              go_upto_region 12 with (fail)
              have bC:=heap_alloc_new wr (Obj.cells #[.slice A l.length c] 24 (0,0))
              have hA:Below wr.heap.size wr (wr.alloc (Obj.cells #[.slice A l.length c] 24 (0,0))):=below_alloc (Below.refl _ _) _
              have HE2:=Aside0.mk (And.intro (HE.out.1.grow hA) (((HE.out.2.addC hC).grow hA).add bC))
              clear hA bC hC e0 HE
              generalize wr.alloc (Obj.cells #[.slice A l.length c] 24 (0,0))=Wa at HE2 ⊢
              generalize wr.heap.size=C at HE2 ⊢
              go_upto_region 13 with (fail)
              have bT:=heap_alloc_new Wa (Obj.cells #[.int .i64 a2, .int .i64 (Int.tmod a2 600)] 2 (0,0))
              have hA:Below Wa.heap.size Wa (Wa.alloc (Obj.cells #[.int .i64 a2, .int .i64 (Int.tmod a2 600)] 2 (0,0))):=below_alloc (Below.refl _ _) _
              have HE:=Aside0.mk (And.intro (HE2.out.1.grow hA) ((HE2.out.2.grow hA).add bT))
              clear hA bT HE2
              generalize Wa.alloc (Obj.cells #[.int .i64 a2, .int .i64 (Int.tmod a2 600)] 2 (0,0))=Wb at HE ⊢
              generalize Wa.heap.size=T at HE ⊢
              have HI:=Aside0.mk hb1
              clear hb1
              go_wp2
              go_loopw [61] (fun i wr=>∃ n2:Nat,i=.int .i64 n2∧n2≤2∧Aside0 (soundservicelaw13_ClockMakes.times k l [(a3_0,a3_1),(3,2)] ([a2,Int.tmod a2 600].drop n2)=some b1)∧Aside0 (soundservicelaw13_ClockMakes.Env w wr S A0 c0 l0 a3_0 a3_1∧soundservicelaw13_ClockMakes.Keeps wr [(T,(Obj.cells #[.int .i64 a2, .int .i64 (Int.tmod a2 600)] 2 (0,0))),(C,(Obj.cells #[.slice A l.length c] 24 (0,0))),(B,(Obj.cells #[.slice A0 l0.length c0, .slice Am m.length cm] 24 (0,0)))] [(A,l),(Am,m)])) (fun i _=>2 - (intOf i).toNat)
              case atStart=>exact ⟨0,rfl,by omega,HI,HE⟩
              case round =>
                clear HI HE
                obtain ⟨n2,rfl,hn2,HI,HE⟩:=hrel
                by_cases hlt2:n2 < 2
                rotate_left
                · obtain rfl:n2=2:=by omega
                  obtain rfl:true=b1:=Option.some.inj HI.out
                  have h:=HN.out
                  rw [if_pos rfl] at h
                  obtain ⟨v,hv,h⟩:=Option.bind_eq_some_iff.1 h
                  obtain ⟨u,hu,h⟩:=Option.bind_eq_some_iff.1 h
                  clear HN HI
                  go_upto_region 24 with (fail)
                  have s0:wr.cell? ⟨C,0,none⟩=some (.slice A l.length c):=(blk_cell (HE.out.2.blk (C,(Obj.cells #[.slice A l.length c] 24 (0,0))) (by simp)) 0).trans rfl
                  have hp1:∀ W:World,Kd.C k61 W A l.length l→Calls Try.prog 17 #[.agg #[.slice A l.length c]] W fun e w'=>e=.returned (.bool v)∧Below W.heap.size W w':=fun W hW=>clock_Valid.calls k A c l v W hW hcl hv
                  have hp2:∀ W:World,Kd.C k61 W A l.length l→Calls Try.prog 18 #[.agg #[.slice A l.length c]] W fun e w'=>e=.returned (.bool u)∧Below W.heap.size W w':=fun W hW=>soundserviceref13_Valid.calls k A c l u W hW hcl hu
                  clear hv hu
                  have HL:=Aside0.mk h
                  clear h
                  have hBc:Below wr.heap.size wr wr.drew:=(Below.refl _ wr).drew
                  refine start_ (n:=5) (S:=fun w'=>w'.cell? ⟨C,0,none⟩=some (.slice A l.length c)) (ds:=[]) #[false,false,false,false,false] (by kernel_rfl) rfl rfl s0 (fun hHeld=>?_)
                  clear s0
                  generalize wr.drew=Wz at hBc hHeld ⊢
                  refine take_ (i:=0) (N:=some 98) (v:=?_) (a':=?_) #[true,false,false,false,false] rfl rfl (by kernel_rfl) (fun _ _ _ h=>h) (Or.inl ⟨by rfl,?_⟩) hHeld ?_ ?_
                  rotate_left
                  · rintro w' s0
                    go_simp
                    with_reducible rfl
                  rotate_left
                  · simp only [pL,i64_w,i32_w]
                    rfl
                  refine take_ (i:=2) (N:=some 100) (v:=?_) (a':=?_) #[true,false,true,false,false] rfl rfl (by kernel_rfl) (fun _ _ _ h=>h) (Or.inl ⟨by rfl,?_⟩) hHeld ?_ ?_
                  rotate_left
                  · rintro w' s0
                    go_simp
                    with_reducible rfl
                  rotate_left
                  · simp only [pL,i64_w,i32_w]
                    rfl
                  refine one_ (i:=1) (N:=some 99) #[true,true,true,false,false] rfl rfl (by kernel_rfl) (by decide) (fun K hK=>?_)
                  refine goes_ Try.func17 (by kernel_rfl) rfl #[.agg #[.slice A l.length c]] (by rfl) rfl rfl (by (try simp only [List.map_toArray,List.map_cons,List.map_nil]);first|done|rfl) ?_
                  with_reducible refine (hp1 _ ((HE.out.2.grow hBc).clk (A,l) (by simp))).mono ?_
                  rintro e Wn ⟨rfl,hb⟩
                  refine ⟨_,rfl,?_⟩
                  have s0:=hHeld
                  clear hHeld
                  replace s0:=(hb.cell (World.block_lt_of_cell? _ _ s0)).trans s0
                  replace hBc:=Below.trans hBc (Below.mono hb hBc.size)
                  clear hb
                  refine hK.out _ _ s0 (fun hHeld=>?_)
                  clear hK K s0
                  refine norm_ (a':=?_) ?_ ?_
                  rotate_left
                  · show Act.put _ (some 99) _=_
                    simp only [pL,i64_w,i32_w]
                    rfl
                  refine one_ (i:=3) (N:=some 101) #[true,true,true,true,false] rfl rfl (by kernel_rfl) (by decide) (fun K hK=>?_)
                  refine goes_ Try.func18 (by kernel_rfl) rfl #[.agg #[.slice A l.length c]] (by rfl) rfl rfl (by (try simp only [List.map_toArray,List.map_cons,List.map_nil]);first|done|rfl) ?_
                  with_reducible refine (hp2 _ ((HE.out.2.grow hBc).clk (A,l) (by simp))).mono ?_
                  rintro e Wn ⟨rfl,hb⟩
                  refine ⟨_,rfl,?_⟩
                  have s0:=hHeld
                  clear hHeld
                  replace s0:=(hb.cell (World.block_lt_of_cell? _ _ s0)).trans s0
                  replace hBc:=Below.trans hBc (Below.mono hb hBc.size)
                  clear hb
                  refine hK.out _ _ s0 (fun hHeld=>?_)
                  clear hK K s0
                  refine norm_ (a':=?_) ?_ ?_
                  rotate_left
                  · show Act.put _ (some 101) _=_
                    simp only [pL,i64_w,i32_w]
                    rfl
                  refine pure_ (i:=4) (N:=some 102) (v:=?_) (a':=?_) #[true,true,true,true,true] rfl rfl (by kernel_rfl) (fun _ _ _ h=>h) (Or.inl ⟨by rfl,?_⟩) ?_ ?_
                  rotate_left
                  · intro w'
                    go_simp
                    with_reducible rfl
                  rotate_left
                  · simp only [pL,i64_w,i32_w]
                    rfl
                  refine done_ (by kernel_rfl) ?_
                  have HE3:=Aside0.mk (And.intro (HE.out.1.grow hBc) ((HE.out.2.grow hBc).tail.tail.tailC))
                  clear hBc HE hp1 hp2
                  have h:=HL.out
                  cases v <;> cases u
                  · rw [if_pos rfl] at h
                    have HL:=Aside0.mk h
                    clear h
                    go_wp2
                    go_roundw
                    case rel=>exact ⟨n+1,by go_num,by omega,HL,HE3⟩
                    case measure =>
                      simp only [intOf]
                      omega
                  · rw [if_neg (by decide)] at h
                    have HL:=Aside0.mk h
                    clear h
                    go_wp2
                    go_ret
                    obtain rfl:=Option.some.inj HL.out
                    exact ⟨rfl,HE3.out.1.below⟩
                  · rw [if_neg (by decide)] at h
                    have HL:=Aside0.mk h
                    clear h
                    go_wp2
                    go_ret
                    obtain rfl:=Option.some.inj HL.out
                    exact ⟨rfl,HE3.out.1.below⟩
                  · rw [if_pos rfl] at h
                    have HL:=Aside0.mk h
                    clear h
                    go_wp2
                    go_roundw
                    case rel=>exact ⟨n+1,by go_num,by omega,HL,HE3⟩
                    case measure =>
                      simp only [intOf]
                      omega
                · have dn2:decide ((n2:Int) < 2)=true:=decide_eq_true (by omega)
                  obtain ⟨t,e0,hdrop⟩:∃ t:Int,wr.cell? ⟨T,n2,none⟩=some (.int .i64 t)∧[a2,Int.tmod a2 600].drop n2=t :: [a2,Int.tmod a2 600].drop (n2+1):=by
                    have hB:=HE.out.2.blk _ (List.mem_cons_self ..)
                    have:n2=0 ∨ n2=1:=by omega
                    rcases this with rfl|rfl
                    · exact ⟨_,(blk_cell hB 0).trans rfl,rfl⟩
                    · exact ⟨_,(blk_cell hB 1).trans rfl,rfl⟩
                  have h:=HI.out
                  rw [hdrop] at h
                  simp only [soundservicelaw13_ClockMakes.times] at h
                  obtain ⟨b2,hb2,h⟩:=Option.bind_eq_some_iff.1 h
                  have HN2:=Aside0.mk h
                  clear h hdrop HI
                  go_upto_region 15 with (fail)
                  clear e0
                  have s0:wr.cell? ⟨S+1,0,none⟩=some (.int .i64 a3_0):=(blk_cell HE.out.1.rate 0).trans rfl
                  have s1:wr.cell? ⟨S+1,1,none⟩=some (.int .i64 a3_1):=(blk_cell HE.out.1.rate 1).trans rfl
                  go_upto_region 16 with (fail)
                  have bQ:=heap_alloc_new wr (Obj.cells #[.int .i64 a3_0, .int .i64 a3_1, .int .i64 3, .int .i64 2] 27 (0,0))
                  have hA:Below wr.heap.size wr (wr.alloc (Obj.cells #[.int .i64 a3_0, .int .i64 a3_1, .int .i64 3, .int .i64 2] 27 (0,0))):=below_alloc (Below.refl _ _) _
                  have HE2:=Aside0.mk (And.intro (HE.out.1.grow hA) ((HE.out.2.grow hA).add bQ))
                  clear hA bQ HE s0 s1
                  generalize wr.alloc (Obj.cells #[.int .i64 a3_0, .int .i64 a3_1, .int .i64 3, .int .i64 2] 27 (0,0))=Wc at HE2 ⊢
                  generalize wr.heap.size=Q at HE2 ⊢
                  have HI:=Aside0.mk hb2
                  clear hb2
                  go_wp2
                  go_loopw [69] (fun i wr=>∃ n3:Nat,i=.int .i64 n3∧n3≤2∧Aside0 (soundservicelaw13_ClockMakes.rates k l t ([(a3_0,a3_1),(3,2)].drop n3)=some b2)∧Aside0 (soundservicelaw13_ClockMakes.Env w wr S A0 c0 l0 a3_0 a3_1∧soundservicelaw13_ClockMakes.Keeps wr [(Q,(Obj.cells #[.int .i64 a3_0, .int .i64 a3_1, .int .i64 3, .int .i64 2] 27 (0,0))),(T,(Obj.cells #[.int .i64 a2, .int .i64 (Int.tmod a2 600)] 2 (0,0))),(C,(Obj.cells #[.slice A l.length c] 24 (0,0))),(B,(Obj.cells #[.slice A0 l0.length c0, .slice Am m.length cm] 24 (0,0)))] [(A,l),(Am,m)])) (fun i _=>2 - (intOf i).toNat)
                  case atStart=>exact ⟨0,rfl,by omega,HI,HE2⟩
                  case round =>
                    clear HI HE2
                    obtain ⟨n3,rfl,hn3,HI,HE⟩:=hrel
                    by_cases hlt3:n3 < 2
                    rotate_left
                    · obtain rfl:n3=2:=by omega
                      obtain rfl:true=b2:=Option.some.inj HI.out
                      have h:=HN2.out
                      rw [if_pos rfl] at h
                      have HI2:=Aside0.mk h
                      have HE2:=Aside0.mk (And.intro HE.out.1 HE.out.2.tail)
                      clear h HI HN2 HE
                      go_wp2
                      go_roundw
                      case rel=>exact ⟨n2+1,by go_num,by omega,HI2,HE2⟩
                      case measure =>
                        simp only [intOf]
                        omega
                    obtain ⟨qn,qd,e0,e1,hdrop⟩:∃ qn qd:Int,wr.cell? ⟨Q,n3 * 2,none⟩=some (.int .i64 qn)∧wr.cell? ⟨Q,n3 * 2+1,none⟩=some (.int .i64 qd)∧[(a3_0,a3_1),(3,2)].drop n3=(qn,qd) :: [(a3_0,a3_1),(3,2)].drop (n3+1):=by
                      have hB:=HE.out.2.blk _ (List.mem_cons_self ..)
                      have:n3=0 ∨ n3=1:=by omega
                      rcases this with rfl|rfl
                      · exact ⟨_,_,(blk_cell hB 0).trans rfl,(blk_cell hB 1).trans rfl,rfl⟩
                      · exact ⟨_,_,(blk_cell hB 2).trans rfl,(blk_cell hB 3).trans rfl,rfl⟩
                    have h:=HI.out
                    rw [hdrop] at h
                    simp only [soundservicelaw13_ClockMakes.rates] at h
                    obtain ⟨b3,hb3,h⟩:=Option.bind_eq_some_iff.1 h
                    have HN3:=Aside0.mk h
                    simp only [soundservicelaw13_ClockMakes.chg,Option.bind_eq_some_iff] at hb3
                    obtain ⟨x,hx,y,hy,hb3⟩:=hb3
                    clear h hdrop HI
                    go_upto_region 18 with (fail)
                    have bD:=heap_alloc_new wr (Obj.cells #[.int .i64 qn, .int .i64 qd] 27 (0,0))
                    have hA:Below wr.heap.size wr (wr.alloc (Obj.cells #[.int .i64 qn, .int .i64 qd] 27 (0,0))):=below_alloc (Below.refl _ _) _
                    have HE2:=Aside0.mk (And.intro (HE.out.1.grow hA) ((HE.out.2.grow hA).add bD))
                    clear hA bD HE e0 e1
                    generalize wr.alloc (Obj.cells #[.int .i64 qn, .int .i64 qd] 27 (0,0))=Wd at HE2 ⊢
                    generalize wr.heap.size=D at HE2 ⊢
                    have s0:Wd.cell? ⟨C,0,none⟩=some (.slice A l.length c):=(blk_cell (HE2.out.2.blk (C,(Obj.cells #[.slice A l.length c] 24 (0,0))) (by simp)) 0).trans rfl
                    have s1:Wd.cell? ⟨D,0,none⟩=some (.int .i64 qn):=(blk_cell (HE2.out.2.blk _ (List.mem_cons_self ..)) 0).trans rfl
                    have s2:Wd.cell? ⟨D,1,none⟩=some (.int .i64 qd):=(blk_cell (HE2.out.2.blk _ (List.mem_cons_self ..)) 1).trans rfl
                    have hp:∀ W:World,Kd.C k61 W A l.length l→Calls Try.prog 15 #[.agg #[.slice A l.length c], .int .i64 t, .agg #[.int .i64 qn, .int .i64 qd]] W fun e w'=>∃ v0_:Value,e=.returned (.tuple #[.agg #[v0_], .int .i64 x.2])∧Kd.R k61 61 w' W.heap.size (fun _=>True) v0_ x.1∧Below W.heap.size W w':=fun W hW=>clock_Change.calls k A c l t qn qd x.1 x.2 W hW hcl hx
                    clear hx
                    go_upto_region 19 with (go_at_call 15;refine (hp _ (HE2.out.2.clk (A,l) (by simp))).mono ?_;clear hp s0 s1 s2;rintro e Wp ⟨vx,rfl,hR,hb⟩;obtain ⟨Ax,cx,rfl⟩:=Kd.R_slice hR;have hRx:=Kd.R_reads' hR;clear hR;have hb5:=hb;clear hb)
                    have hA:=below_alloc hb5 (Obj.cells #[.slice Ax x.1.length cx] 24 (0,0))
                    have bX:=heap_alloc_new Wp (Obj.cells #[.slice Ax x.1.length cx] 24 (0,0))
                    have hcx:=hRx.2.1
                    have HE3:=Aside0.mk (And.intro (HE2.out.1.grow hA) (((HE2.out.2.grow hA).addC (Kd.C_below hRx.2.2 (below_alloc (Below.refl _ Wp) (Obj.cells #[.slice Ax x.1.length cx] 24 (0,0))))).add bX))
                    clear hA hb5 hRx HE2 bX
                    generalize Wp.alloc (Obj.cells #[.slice Ax x.1.length cx] 24 (0,0))=We at HE3 ⊢
                    generalize Wp.heap.size=X at HE3 ⊢
                    have s0:We.cell? ⟨C,0,none⟩=some (.slice A l.length c):=(blk_cell (HE3.out.2.blk (C,(Obj.cells #[.slice A l.length c] 24 (0,0))) (by simp)) 0).trans rfl
                    have s1:We.cell? ⟨D,0,none⟩=some (.int .i64 qn):=(blk_cell (HE3.out.2.tail.blk _ (List.mem_cons_self ..)) 0).trans rfl
                    have s2:We.cell? ⟨D,1,none⟩=some (.int .i64 qd):=(blk_cell (HE3.out.2.tail.blk _ (List.mem_cons_self ..)) 1).trans rfl
                    have hp:∀ W:World,Kd.C k61 W A l.length l→Calls Try.prog 16 #[.agg #[.slice A l.length c], .int .i64 t, .agg #[.int .i64 qn, .int .i64 qd]] W fun e w'=>∃ v0_:Value,e=.returned (.tuple #[.agg #[v0_], .int .i64 y.2])∧Kd.R k61 61 w' W.heap.size (fun _=>True) v0_ y.1∧Below W.heap.size W w':=fun W hW=>soundserviceref13_Change.calls k A c l t qn qd y.1 y.2 W hW hcl hy
                    clear hy
                    go_upto_region 20 with (go_at_call 16;refine (hp _ (HE3.out.2.clk (A,l) (by simp))).mono ?_;clear hp s0 s1 s2;rintro e Wp ⟨vy,rfl,hR,hb⟩;obtain ⟨Ay,cy,rfl⟩:=Kd.R_slice hR;have hRy:=Kd.R_reads' hR;clear hR;have hb5:=hb;clear hb)
                    have hA:=below_alloc hb5 (Obj.cells #[.slice Ay y.1.length cy] 24 (0,0))
                    have bY:=heap_alloc_new Wp (Obj.cells #[.slice Ay y.1.length cy] 24 (0,0))
                    have hcy:=hRy.2.1
                    have hCy:=Kd.C_below hRy.2.2 (below_alloc (Below.refl _ Wp) (Obj.cells #[.slice Ay y.1.length cy] 24 (0,0)))
                    have HE4:=Aside0.mk (And.intro (HE3.out.1.grow hA) (HE3.out.2.grow hA))
                    clear hA hb5 hRy HE3
                    generalize Wp.alloc (Obj.cells #[.slice Ay y.1.length cy] 24 (0,0))=Wf at HE4 bY hCy ⊢
                    generalize Wp.heap.size=Y at bY ⊢
                    have s0:Wf.cell? ⟨X,0,none⟩=some (.slice Ax x.1.length cx):=(blk_cell (HE4.out.2.blk _ (List.mem_cons_self ..)) 0).trans rfl
                    have s1:Wf.cell? ⟨Y,0,none⟩=some (.slice Ay y.1.length cy):=(blk_cell bY 0).trans rfl
                    have hCx:Kd.C k61 Wf Ax x.1.length x.1:=HE4.out.2.clk _ (List.mem_cons_self ..)
                    have HE5:=Aside0.mk (And.intro HE4.out.1 HE4.out.2.tail.tail.tailC)
                    clear HE4 bY
                    have no:b3=false→r=false:=fun e=>by
                      have h3:=HN3.out
                      rw [e,if_neg (by decide)] at h3
                      have h2:=HN2.out
                      rw [← Option.some.inj h3,if_neg (by decide)] at h2
                      have h1:=HN.out
                      rw [← Option.some.inj h2,if_neg (by decide)] at h1
                      exact (Option.some.inj h1).symm
                    by_cases he:x.2=y.2
                    rotate_left
                    · rw [if_neg he] at hb3
                      have hr:=Aside0.mk (no (Option.some.inj hb3).symm)
                      have d1:(x.2 == y.2)=false:=by simpa using he
                      have d2:decide (x.2=y.2)=false:=decide_eq_false he
                      clear hb3 no HN HN2 HN3 he hCx hCy
                      go_wp2
                      go_ret
                      rw [hr.out]
                      exact ⟨rfl,HE5.out.1.below⟩
                    · rw [if_pos he] at hb3
                      have hp:=soundserviceref13_Same.calls k Ax cx x.1 Ay cy y.1 b3 Wf hCx hcx hCy hcy hb3
                      clear hb3 hCx hCy
                      cases b3 with
                      | false =>
                        have hr:=Aside0.mk (no rfl)
                        clear no HN HN2 HN3
                        go_wp2_with (go_at_call 13;refine hp.mono ?_;clear hp s0 s1;rintro e Wp ⟨rfl,hb⟩;have hb5:=hb)
                        go_ret
                        rw [hr.out]
                        exact ⟨rfl,(HE5.out.1.grow hb5).below⟩
                      | true =>
                        have h:=HN3.out
                        rw [if_pos rfl] at h
                        have HI:=Aside0.mk h
                        clear h no HN3
                        go_wp2_with (go_at_call 13;refine hp.mono ?_;clear hp s0 s1;rintro e Wp ⟨rfl,hb⟩;have hb5:=hb)
                        have HE6:=Aside0.mk (And.intro (HE5.out.1.grow hb5) (HE5.out.2.grow hb5))
                        go_roundw
                        case rel=>exact ⟨n3+1,by go_num,by omega,HI,HE6⟩
                        case measure =>
                          first
                            | (simp only [intOf];omega)
                            | (simp [intOf];omega)


end Go.Proofs.Ythnmmiofhjbkeaa.PA
