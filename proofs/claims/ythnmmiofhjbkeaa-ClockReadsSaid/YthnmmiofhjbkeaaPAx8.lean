/- Walks of functions of the program: each does what its Lean function says. Written by a program of this session (wip/xprint), which runs the printer of the kit with changes. -/
import Derived.Test.YthnmmiofhjbkeaaPAx0
import Derived.Test.YthnmmiofhjbkeaaPAx7
namespace Go.Proofs.Ythnmmiofhjbkeaa.PA
open Go.RowKit Go.Proofs.YthnmmiofhjbkeaaW.PrintWords Go.Proofs.YthnmmiofhjbkeaaW.PrintLast Go.Proofs.YthnmmiofhjbkeaaW.PrintMore
attribute [local go_sem] max2_int min2_int max_two min_two max_three min_three max_four min_four   -- for this text's walks alone
set_option linter.unusedVariables false
set_option linter.unusedSimpArgs false


/-! ### clock_position: function 33 -/
section
open Go.Shelf
attribute [local go_sem] Oper.semAt_some
/-- A piece: a segment with its end and the position at which it begins. -/
structure clock_position.Pc where
  fr:Int
  nu:Int
  de:Int
  un:Int
  be:Int
def clock_position.Pc.enc (p:clock_position.Pc):Value:=.agg #[.int .i64 p.fr, .int .i64 p.nu, .int .i64 p.de, .int .i64 p.un, .int .i64 p.be]
def clock_position.Pc.at (k:Nat) (p:clock_position.Pc) (t:Int):Option Int:=clock_piece_at.f k p.fr p.nu p.de p.un p.be t
def clock_position.till:List S61→Int
 | []=>1099511627776
 | s :: _=>s.f0
def clock_position.cut (k:Nat):List S61→Int→Option (List clock_position.Pc)
 | [],_=>some []
 | s :: rest,b=>((⟨s.f0,s.f1.f0,s.f1.f1,clock_position.till rest,b⟩:clock_position.Pc).at k (clock_position.till rest)).bind fun b'=>(clock_position.cut k rest b').bind fun ps=>some (⟨s.f0,s.f1.f0,s.f1.f1,clock_position.till rest,b⟩ :: ps)
theorem clock_position.cut_mono (k:Nat):∀ l b,LeO (clock_position.cut k l b) (clock_position.cut (k+1) l b)
 | [],_=>LeO.refl _
 | s :: rest,b=>LeO.bind (clock_piece_at.mono _ _ _ _ _ _ k) (fun _=>LeO.bind (clock_position.cut_mono k rest _) (fun _=>LeO.refl _))
/-- One value for each piece. -/
def clock_position.evs {β:Type} (g:clock_position.Pc→Option β):List clock_position.Pc→Option (List β)
 | []=>some []
 | p :: ps=>(g p).bind fun o=>(clock_position.evs g ps).bind fun os=>some (o :: os)
theorem clock_position.evs_mono {β:Type} {g g':clock_position.Pc→Option β} (h:∀ p,LeO (g p) (g' p)):∀ ps,LeO (clock_position.evs g ps) (clock_position.evs g' ps)
 | []=>LeO.refl _
 | p :: ps=>LeO.bind (h p) (fun _=>LeO.bind (clock_position.evs_mono h ps) (fun _=>LeO.refl _))
/-- What a piece adds: nothing (the walk ends), or the position that the clock has reached in it. -/
def clock_position.one (k:Nat) (t:Int) (p:clock_position.Pc):Option (Option Int):=if p.fr > t then some none else (p.at k (mn t p.un)).bind fun m=>some (some m)
def clock_position.upto:List (Option Int)→Int→Int
 | [],n=>n
 | none :: _,n=>n
 | some m :: os,_=>clock_position.upto os m
def clock_position.f (k:Nat) (l0_0:List S61) (a1:Int):Option Int:=if l0_0.length≤9223372036854775806 then (clock_position.cut k l0_0 0).bind fun ps=>(clock_position.evs (clock_position.one k a1) ps).bind fun os=>some (clock_position.upto os 0) else none
theorem clock_position.one_mono (k:Nat) (t:Int) (p:clock_position.Pc):LeO (clock_position.one k t p) (clock_position.one (k+1) t p):=LeO.ite (LeO.refl _) (LeO.bind (clock_piece_at.mono _ _ _ _ _ _ k) (fun _=>LeO.refl _))
theorem clock_position.mono:∀ a0 a1 k,LeO (clock_position.f k a0 a1) (clock_position.f (k+1) a0 a1):=fun _ _ k=>LeO.ite (LeO.bind (clock_position.cut_mono k _ _) (fun _=>LeO.bind (clock_position.evs_mono (clock_position.one_mono k _) _) (fun _=>LeO.refl _))) (LeO.refl _)

theorem clock_position.grown {W W':World} (h:Below W.heap.size W W'):W.grownBy W' none:=⟨h.os,h.tape,h.output,h.size,fun k hk _=>h.block k hk⟩
theorem clock_position.others {W W':World} (h:Below W.heap.size W W'):KeepsOthers W W' :=
  ⟨h.size,fun k o hk _=>(h.block k (blk_lt hk)).trans hk⟩

set_option maxRecDepth 100000 in
set_option maxHeartbeats 2000000 in
theorem clock_position.pieces (n:Nat) (A:Option Addr) (len cap:Nat) (w:World) :
    CallsIn Fence.wide n Try.prog 36 #[.agg #[.slice A len cap]] w fun e w'=>e=.returned (.func (.func 47) #[] #[.pointer (some ⟨w.heap.size,0,none⟩)])∧w'=w.alloc (.cells #[.slice A len cap] 24):=by
  refine callsIn_of_wp Try.func36 rfl trivial ?_ rfl
  have hu24:=Try.underlying24
  simp only [Try.ntmps36,List.size_toArray,List.length_cons,List.length_nil,Nat.reduceAdd,Nat.reduceSub,Array.replicate_succ,Array.replicate_zero,List.push_toArray,List.append_toArray,List.nil_append,List.cons_append]
  gi_wp2
  go_ret
  exact ⟨rfl,rfl⟩

/-- What a round of the caller's keeps: what lay below n₀; and every variable but those that it writes. -/
def clock_position.Keeps (ex:Nat→Prop) (n₀:Nat) (W W':World):Prop:=Below n₀ W W'∧∀ b o, ¬ ex b→W.heap[b]?=some o→o.isCells=true→W'.heap[b]?=some o
theorem clock_position.Keeps.refl {ex:Nat→Prop} {n₀:Nat} (W:World):clock_position.Keeps ex n₀ W W:=⟨Below.refl _ _,fun _ _ _ h _=>h⟩
theorem clock_position.Keeps.trans {ex:Nat→Prop} {n₀:Nat} {A B C:World} (h:clock_position.Keeps ex n₀ A B) (k:clock_position.Keeps ex n₀ B C):clock_position.Keeps ex n₀ A C :=
  ⟨h.1.trans k.1,fun b o hb ho hc=>k.2 b o hb (h.2 b o hb ho hc) hc⟩
theorem clock_position.Keeps.of {ex:Nat→Prop} {n₀:Nat} {W W':World} (h:Below W.heap.size W W') (hn:n₀≤W.heap.size):clock_position.Keeps ex n₀ W W' :=
  ⟨h.mono hn,fun b o _ ho _=>(h.block b (blk_lt ho)).trans ho⟩
theorem clock_position.Keeps.book {ex:Nat→Prop} {n₀:Nat} {w:World} (hn:n₀≤w.heap.size) (W:World) (l:Nat) (o o':Obj) (hl:w.heap.size≤l) (h:W.heap[l]?=some o) (hc:o.isCells=false) (hw:o.isWalk=false):clock_position.Keeps ex n₀ W (W.putObj l o'):=by
  refine ⟨belowK_b hn W l o o' hl h hc hw,fun b q _ hq hqc=>?_⟩
  refine ((grownBy_putObj' W l o').block b (blk_lt hq) ?_).trans hq
  intro e
  cases e
  rw [h] at hq
  cases hq
  rw [hc] at hqc
  cases hqc
theorem clock_position.cut_length (k:Nat):∀ l b ps,clock_position.cut k l b=some ps→ps.length=l.length
 | [],_,ps,h=>by simp only [clock_position.cut,Option.some.injEq] at h;subst h;rfl
 | s :: rest,b,ps,h=>by
  simp only [clock_position.cut,Option.bind_eq_some_iff] at h
  obtain ⟨b',_,qs,hq,h⟩:=h
  simp only [Option.some.injEq] at h
  subst h
  simp only [List.length_cons]
  rw [clock_position.cut_length k rest b' qs hq]

set_option maxRecDepth 100000 in
set_option maxHeartbeats 4000000 in
theorem clock_position.pieces1 (n k l Bs:Nat) (A:Option Addr) (cap:Nat) (xs:List S61) (all:List clock_position.Pc) (hall:clock_position.cut k xs 0=some all) (ex:Nat→Prop) (w0:World) (hC:Kd.C k61 w0 A xs.length xs)
    (J Jx:List clock_position.Pc→World→Prop) (W:World) (hJ:AbidesFrom W.heap.size J) (hn:1≤n) (hm:xs.length≤9223372036854775806) (h0n:w0.heap.size≤W.heap.size) (hB:Below w0.heap.size w0 W)
    (hBs:W.heap[Bs]?=some (.cells #[.slice A xs.length cap] 24 (0,0))) (hex:∀ b,Bs≤b→¬ ex b) (hBW:Bs < W.heap.size)
    (hY:∀ pre x W1,x ∈ all→J pre W1→pre.length < all.length→YieldAt Fence.wide (n - 1) Try.prog l #[x.enc] W1 fun e W' =>
      (e=.returned (.bool true)∧J (pre ++ [x]) W'∧clock_position.Keeps ex w0.heap.size W1 W') ∨ (e=.returned (.bool false)∧Jx (pre ++ [x]) W'))
    (h0:J [] W) :
    CallsIn Fence.wide n Try.prog 47 #[.func (.yield l) #[] #[], .pointer (some ⟨Bs,0,none⟩)] W fun e W'=>(∃ v,e=.returned v) ∧
      ((∃ ys,ys=all∧J ys W') ∨ (∃ pre,pre <+: all∧Jx pre W')):=by
  refine callsIn_of_wp Try.func47 rfl trivial ?_ rfl
  have hu24:=Try.underlying24
  have hu61:=Try.underlying61
  have hu27:=Try.underlying27
  have hu71:=Try.underlying71
  have hc0:W.cell? ⟨Bs,0,none⟩=some (.slice A xs.length cap):=(blk_cell hBs 0).trans rfl
  simp only [Try.ntmps47,List.size_toArray,List.length_cons,List.length_nil,Nat.reduceAdd,Nat.reduceSub,Array.replicate_succ,Array.replicate_zero,List.push_toArray,List.append_toArray,List.nil_append,List.cons_append]
  gi_wp2
  gi_loopw [3,10] (fun b i wr=>∃ (j:Nat) (bv:Int) (pre rest:List clock_position.Pc),i=.int .i64 j∧b=.int .i64 bv∧j≤xs.length∧clock_position.cut k (xs.drop j) bv=some rest∧all=pre ++ rest∧J pre wr∧Below w0.heap.size w0 wr∧wr.heap[Bs]?=some (.cells #[.slice A xs.length cap] 24 (0,0)))
    (fun b i _=>xs.length - (intOf i).toNat)
  case atStart=>exact ⟨0,0, [],all,rfl,rfl,Nat.zero_le _,hall,rfl,h0,hB,hBs⟩
  case round =>
    obtain ⟨j,bv,pre,rest,rfl,rfl,hj,hcut,hpr,hJs,hBr,hbs⟩:=hrel
    have hCr:=Kd.C_below hC hBr
    have hcb:wr.cell? ⟨Bs,0,none⟩=some (.slice A xs.length cap):=(blk_cell hbs 0).trans rfl
    by_cases hlt:j < xs.length
    · obtain ⟨ad,hA,e0,e1,e2⟩:=at_T61 hCr (j:Int) (by omega) (by omega)
      subst hA
      simp only [Int.toNat_natCast] at e0 e1 e2
      generalize hs0:(rd_T61 xs j).f0=s0 at e0
      generalize hs1:(rd_T61 xs j).f1.f0=s1 at e1
      generalize hs2:(rd_T61 xs j).f1.f1=s2 at e2
      have hdrop:xs.drop j=rd_T61 xs j :: xs.drop (j+1):=by
        rw [List.drop_eq_getElem_cons hlt]
        unfold rd_T61
        rw [List.getD_eq_getElem?_getD,Int.toNat_natCast,List.getElem?_eq_getElem hlt]
        rfl
      rw [hdrop] at hcut
      simp only [clock_position.cut,Option.bind_eq_some_iff,clock_position.Pc.at,hs0,hs1,hs2] at hcut
      obtain ⟨b',hat,qs,hq,hcut⟩:=hcut
      simp only [Option.some.injEq] at hcut
      subst hcut
      gi_upto_region 5 with (fail)
      obtain ⟨S,hS⟩:∃ S,S=wr.heap.size:=⟨_,rfl⟩
      obtain ⟨W5,hW5⟩:∃ W5,W5=(wr.alloc (Obj.cells #[.int .i64 s0, .int .i64 s1, .int .i64 s2] 61 (0,0))).alloc (Obj.cells #[.int .i64 s0, .int .i64 s1, .int .i64 s2, .int .i64 1099511627776, .int .i64 bv] 71 (0,0)):=⟨_,rfl⟩
      have hB5:Below wr.heap.size wr W5:=by rw [hW5];exact below_alloc (below_alloc (Below.refl _ wr) _) _
      have hp5:W5.heap[S+1]?=some (Obj.cells #[.int .i64 s0, .int .i64 s1, .int .i64 s2, .int .i64 1099511627776, .int .i64 bv] 71 (0,0)):=by
        rw [hW5,hS]
        have:=blk_new (wr.alloc (Obj.cells #[.int .i64 s0, .int .i64 s1, .int .i64 s2] 61 (0,0))) (Obj.cells #[.int .i64 s0, .int .i64 s1, .int .i64 s2, .int .i64 1099511627776, .int .i64 bv] 71 (0,0))
        rwa [World.size_alloc] at this
      rw [← hW5, ← hS]
      rw [← hS] at hB5
      have hBS:Bs < S:=by rw [hS];exact blk_lt hbs
      have hc5:W5.cell? ⟨Bs,0,none⟩=some (.slice (some ad) xs.length cap):=(hB5.cell (p:=⟨Bs,0,none⟩) hBS).trans hcb
      have hw:wrap64 ((j:Int)+1)=(j:Int)+1:=by unfold wrap64;omega
      have hC5:=Kd.C_below hCr (hS ▸ hB5)
      have hSx:=Aside0.mk hS
      have hqx:=Aside0.mk hq
      clear hW5 hS hs0 hs1 hs2 hdrop hq
      by_cases hlast:j+1 < xs.length
      · obtain ⟨ad',hA',f0,f1,f2⟩:=at_T61 hC5 (j+1:Int) (by omega) (by omega)
        cases hA'
        have ht:((j:Int)+1).toNat=j+1:=by omega
        rw [ht] at f0
        clear f1 f2
        have ht0:clock_position.till (xs.drop (j+1))=(rd_T61 xs ((j:Int)+1)).f0:=by
          rw [List.drop_eq_getElem_cons hlast]
          unfold rd_T61 clock_position.till
          rw [List.getD_eq_getElem?_getD,ht,List.getElem?_eq_getElem hlast]
          rfl
        generalize hs3:(rd_T61 xs ((j:Int)+1)).f0=s3 at f0 ht0
        have hl1:((j:Int)+1 < xs.length):=by omega
        have hl2:decide ((j:Int)+1 < xs.length)=true:=decide_eq_true hl1
        have hl3:(0:Int)≤(j:Int)+1:=by omega
        rw [ht0] at hat
        have p3:W5.cell? ⟨S+1,3,none⟩=some (.int .i64 1099511627776):=(blk_cell hp5 3).trans rfl
        have p3f:W5.frozen? ⟨S+1,3,none⟩=false:=blk_frozen hp5 3
        have H5:=Aside0.mk (And.intro hp5 (And.intro ht0 hB5))
        have HK:=Aside0.mk (And.intro hJ (And.intro hex (And.intro hB (And.intro hBr (And.intro hbs (And.intro hat (And.intro hC5 hY)))))))
        clear hs3 ht ht0 hp5 hB5 hJ hex hB hBr hbs hat hC5 hY hC hCr hBs hc0 h0 hall hcb e0 e1 e2
        gi_upto_region 7 with (fail)
        obtain ⟨hp5,ht0,hB5⟩:=H5.out
        have hp7:=blk_put hp5 3 (.int .i64 s3) rfl
        have hB7:Below S wr (W5.setCell ⟨S+1,3,none⟩ (.int .i64 s3)):=hB5.setCell (p:=⟨S+1,3,none⟩) (Nat.le_succ S) _
        clear hp5 hB5 hc5 f0 p3 p3f H5
        generalize W5.setCell ⟨S+1,3,none⟩ (.int .i64 s3)=W7 at hp7 hB7 ⊢
        have hp7x:=Aside0.mk hp7
        obtain ⟨hJ,hex,hB,hBr,hbs,hat,hC5,hY⟩:=HK.out
        clear HK
        have hS:=hSx.out
        have hJ7:J pre W7:=hJ pre wr _ none hJs (clock_position.grown (hS ▸ hB7)) (fun r e=>by cases e)
        obtain ⟨fn,tmps,assign,body,hy,hR⟩:=hY pre ⟨s0,s1,s2,s3,bv⟩ W7 (by rw [hpr,ht0];simp) hJ7 (by rw [hpr];simp)
        dsimp only [clock_position.Pc.enc] at hy
        have q0:W7.cell? ⟨S+1,0,none⟩=some (.int .i64 s0):=(blk_cell hp7 0).trans rfl
        have q1:W7.cell? ⟨S+1,1,none⟩=some (.int .i64 s1):=(blk_cell hp7 1).trans rfl
        have q2:W7.cell? ⟨S+1,2,none⟩=some (.int .i64 s2):=(blk_cell hp7 2).trans rfl
        have q3:W7.cell? ⟨S+1,3,none⟩=some (.int .i64 s3):=(blk_cell hp7 3).trans rfl
        have q4:W7.cell? ⟨S+1,4,none⟩=some (.int .i64 bv):=(blk_cell hp7 4).trans rfl
        have HK:=Aside0.mk (And.intro hS (And.intro hJ (And.intro hex (And.intro hB (And.intro hBr (And.intro hbs (And.intro hat (And.intro ht0 hB7))))))))
        clear hp7 hS hJ hex hB hBr hbs hat hC5 hY hJ7 ht0 hB7
        gi_wp2
        refine hR.mono ?_
        clear hR hy q0 q1 q2 q3 q4
        rintro e W3 (⟨rfl,hJ3,hk3⟩ | ⟨rfl,hJx3⟩)
        · obtain ⟨hS,hJ,hex,hB,hBr,hbs,hat,ht0',hB7⟩:=HK.out
          have hp3:=hk3.2 (S+1) _ (hex (S+1) (by omega)) hp7x.out rfl
          have hbs7:W7.heap[Bs]?=some (.cells #[.slice (some ad) xs.length cap] 24 (0,0)):=(hB7.block Bs hBS).trans hbs
          have hbs3:=hk3.2 Bs _ (hex Bs (Nat.le_refl _)) hbs7 rfl
          have q0:W3.cell? ⟨S+1,0,none⟩=some (.int .i64 s0):=(blk_cell hp3 0).trans rfl
          have q1:W3.cell? ⟨S+1,1,none⟩=some (.int .i64 s1):=(blk_cell hp3 1).trans rfl
          have q2:W3.cell? ⟨S+1,2,none⟩=some (.int .i64 s2):=(blk_cell hp3 2).trans rfl
          have q3:W3.cell? ⟨S+1,3,none⟩=some (.int .i64 s3):=(blk_cell hp3 3).trans rfl
          have q4:W3.cell? ⟨S+1,4,none⟩=some (.int .i64 bv):=(blk_cell hp3 4).trans rfl
          have hn0:w0.heap.size≤S:=hS ▸ hBr.size
          have hB03:Below w0.heap.size w0 W3:=(hBr.trans (hB7.mono hn0)).trans hk3.1
          have H3:=Aside0.mk (And.intro hB03 (And.intro hJ3 (And.intro hJ (And.intro hbs3 (And.intro hqx.out ht0')))))
          have hcall:∀ W:World,CallsIn Fence.wide (n - 1) Try.prog 37 #[.agg #[.int .i64 s0, .int .i64 s1, .int .i64 s2, .int .i64 s3, .int .i64 bv], .int .i64 s3] W fun e w'=>e=.returned (.int .i64 b')∧Below W.heap.size W w':=fun W=>callsIn_wide.2 (clock_piece_at.calls k _ _ _ _ _ _ b' W hat)
          clear ht0' hS hJ hex hB hBr hbs hat hB7 hp3 hbs7 hbs3 hB03 hJ3 hk3 HK hp7x hn0 hJs
          gi_wp2_with (refine ⟨trivial,?_⟩;gi_at_call 37;refine (hcall _).mono ?_;clear hcall q0 q1 q2 q3 q4;rintro e W4 ⟨rfl,hB4⟩)
          obtain ⟨hB03,hJ3,hJ,hbs3,hq,ht0'⟩:=H3.out
          have hJ4:=hJ _ W3 W4 none hJ3 (clock_position.grown hB4) (fun r e=>by cases e)
          have hB04:=hB03.trans (hB4.mono hB03.size)
          have hbs4:=(hB4.block Bs (blk_lt hbs3)).trans hbs3
          clear H3 hJ hB4 hJ3 hB03 hbs3
          go_roundw
          case rel=>exact ⟨j+1,b',pre ++ [⟨s0,s1,s2,s3,bv⟩],qs,by go_num,rfl,by omega,hq,by rw [hpr,ht0'];simp,hJ4,hB04,hbs4⟩
          case measure => 
            simp only [intOf];omega
        · gi_wp2
          refine bodyPost_ret (results_none rfl _ _ _) rfl ?_
          exact ⟨⟨_,rfl⟩, .inr ⟨pre ++ [⟨s0,s1,s2,s3,bv⟩],⟨qs,by rw [hpr,HK.out.2.2.2.2.2.2.2.1];simp⟩,hJx3⟩⟩
      · have hl1:¬ ((j:Int)+1 < xs.length):=by omega
        have hl2:decide ((j:Int)+1 < xs.length)=false:=decide_eq_false hl1
        have ht0:clock_position.till (xs.drop (j+1))=1099511627776:=by
          rw [List.drop_eq_nil_of_le (by omega)]
          rfl
        rw [ht0] at hat
        have H5:=Aside0.mk (And.intro hp5 (And.intro ht0 hB5))
        have HK:=Aside0.mk (And.intro hJ (And.intro hex (And.intro hB (And.intro hBr (And.intro hbs (And.intro hat (And.intro hC5 hY)))))))
        clear ht0 hp5 hB5 hJ hex hB hBr hbs hat hC5 hY hC hCr hBs hc0 h0 hall hcb e0 e1 e2
        gi_upto_region 7 with (fail)
        obtain ⟨hp7,ht0,hB7⟩:=H5.out
        clear hc5 H5
        generalize W5=W7 at hp7 hB7 ⊢
        obtain ⟨s3,hs3⟩:∃ s3:Int,s3=1099511627776:=⟨_,rfl⟩
        rw [← hs3] at hp7 ht0 HK
        clear hs3
        have hp7x:=Aside0.mk hp7
        obtain ⟨hJ,hex,hB,hBr,hbs,hat,hC5,hY⟩:=HK.out
        clear HK
        have hS:=hSx.out
        have hJ7:J pre W7:=hJ pre wr _ none hJs (clock_position.grown (hS ▸ hB7)) (fun r e=>by cases e)
        obtain ⟨fn,tmps,assign,body,hy,hR⟩:=hY pre ⟨s0,s1,s2,s3,bv⟩ W7 (by rw [hpr,ht0];simp) hJ7 (by rw [hpr];simp)
        dsimp only [clock_position.Pc.enc] at hy
        have q0:W7.cell? ⟨S+1,0,none⟩=some (.int .i64 s0):=(blk_cell hp7 0).trans rfl
        have q1:W7.cell? ⟨S+1,1,none⟩=some (.int .i64 s1):=(blk_cell hp7 1).trans rfl
        have q2:W7.cell? ⟨S+1,2,none⟩=some (.int .i64 s2):=(blk_cell hp7 2).trans rfl
        have q3:W7.cell? ⟨S+1,3,none⟩=some (.int .i64 s3):=(blk_cell hp7 3).trans rfl
        have q4:W7.cell? ⟨S+1,4,none⟩=some (.int .i64 bv):=(blk_cell hp7 4).trans rfl
        have HK:=Aside0.mk (And.intro hS (And.intro hJ (And.intro hex (And.intro hB (And.intro hBr (And.intro hbs (And.intro hat (And.intro ht0 hB7))))))))
        clear hp7 hS hJ hex hB hBr hbs hat hC5 hY hJ7 ht0 hB7
        gi_wp2
        refine hR.mono ?_
        clear hR hy q0 q1 q2 q3 q4
        rintro e W3 (⟨rfl,hJ3,hk3⟩ | ⟨rfl,hJx3⟩)
        · obtain ⟨hS,hJ,hex,hB,hBr,hbs,hat,ht0',hB7⟩:=HK.out
          have hp3:=hk3.2 (S+1) _ (hex (S+1) (by omega)) hp7x.out rfl
          have hbs7:W7.heap[Bs]?=some (.cells #[.slice (some ad) xs.length cap] 24 (0,0)):=(hB7.block Bs hBS).trans hbs
          have hbs3:=hk3.2 Bs _ (hex Bs (Nat.le_refl _)) hbs7 rfl
          have q0:W3.cell? ⟨S+1,0,none⟩=some (.int .i64 s0):=(blk_cell hp3 0).trans rfl
          have q1:W3.cell? ⟨S+1,1,none⟩=some (.int .i64 s1):=(blk_cell hp3 1).trans rfl
          have q2:W3.cell? ⟨S+1,2,none⟩=some (.int .i64 s2):=(blk_cell hp3 2).trans rfl
          have q3:W3.cell? ⟨S+1,3,none⟩=some (.int .i64 s3):=(blk_cell hp3 3).trans rfl
          have q4:W3.cell? ⟨S+1,4,none⟩=some (.int .i64 bv):=(blk_cell hp3 4).trans rfl
          have hn0:w0.heap.size≤S:=hS ▸ hBr.size
          have hB03:Below w0.heap.size w0 W3:=(hBr.trans (hB7.mono hn0)).trans hk3.1
          have H3:=Aside0.mk (And.intro hB03 (And.intro hJ3 (And.intro hJ (And.intro hbs3 (And.intro hqx.out ht0')))))
          have hcall:∀ W:World,CallsIn Fence.wide (n - 1) Try.prog 37 #[.agg #[.int .i64 s0, .int .i64 s1, .int .i64 s2, .int .i64 s3, .int .i64 bv], .int .i64 s3] W fun e w'=>e=.returned (.int .i64 b')∧Below W.heap.size W w':=fun W=>callsIn_wide.2 (clock_piece_at.calls k _ _ _ _ _ _ b' W hat)
          clear ht0' hS hJ hex hB hBr hbs hat hB7 hp3 hbs7 hbs3 hB03 hJ3 hk3 HK hp7x hn0 hJs
          gi_wp2_with (refine ⟨trivial,?_⟩;gi_at_call 37;refine (hcall _).mono ?_;clear hcall q0 q1 q2 q3 q4;rintro e W4 ⟨rfl,hB4⟩)
          obtain ⟨hB03,hJ3,hJ,hbs3,hq,ht0'⟩:=H3.out
          have hJ4:=hJ _ W3 W4 none hJ3 (clock_position.grown hB4) (fun r e=>by cases e)
          have hB04:=hB03.trans (hB4.mono hB03.size)
          have hbs4:=(hB4.block Bs (blk_lt hbs3)).trans hbs3
          clear H3 hJ hB4 hJ3 hB03 hbs3
          go_roundw
          case rel=>exact ⟨j+1,b',pre ++ [⟨s0,s1,s2,s3,bv⟩],qs,by go_num,rfl,by omega,hq,by rw [hpr,ht0'];simp,hJ4,hB04,hbs4⟩
          case measure => 
            simp only [intOf];omega
        · gi_wp2
          refine bodyPost_ret (results_none rfl _ _ _) rfl ?_
          exact ⟨⟨_,rfl⟩, .inr ⟨pre ++ [⟨s0,s1,s2,s3,bv⟩],⟨qs,by rw [hpr,HK.out.2.2.2.2.2.2.2.1];simp⟩,hJx3⟩⟩
    · obtain rfl:j=xs.length:=by omega
      gi_wp2
      go_end0
      rw [List.drop_length] at hcut
      simp only [clock_position.cut,Option.some.injEq] at hcut
      subst hcut
      exact ⟨⟨_,rfl⟩, .inl ⟨pre,by simp [hpr],hJs⟩⟩

theorem clock_position.abides {α:Type} {v:α→clock_position.Pc} {B:Nat} {J:List α→World→Prop} (h:AbidesFrom B J):AbidesFrom B (fun pre W=>∃ pre',pre=pre'.map v∧J pre' W) :=
  fun _ A B row ⟨q,hq,hj⟩ hg hr=>⟨q,hq,h q A B row hj hg hr⟩

/-- The iterator's contract, for values that bear a proof of their own. -/
theorem clock_position.stops (n k Bs:Nat) (A:Option Addr) (cap:Nat) (xs:List S61) (ok:clock_position.Pc→Prop) (all:List { p:clock_position.Pc // ok p }) (hall:clock_position.cut k xs 0=some (all.map Subtype.val)) (ex:Nat→Prop) (n₀:Nat) (w0:World) (hn0:n₀=w0.heap.size) (hC:Kd.C k61 w0 A xs.length xs)
    (w:World) (hB:Below w0.heap.size w0 w) (hn:1≤n) (hm:xs.length≤9223372036854775806) (hBs:w.heap[Bs]?=some (.cells #[.slice A xs.length cap] 24 (0,0))) (hex:∀ b,Bs≤b→¬ ex b) :
    SeqStopsK Fence.wide n Try.prog 47 #[.pointer (some ⟨Bs,0,none⟩)] (fun x:{ p:clock_position.Pc // ok p }=>#[x.1.enc]) (clock_position.Keeps ex n₀) (fun ys=>ys=all) (fun pre=>pre <+: all) all.length w:=by
  subst hn0
  intro l J Jx W hW hJ hJx hY h0
  have hlt:=blk_lt hBs
  refine (clock_position.pieces1 n k l Bs A cap xs _ hall ex w0 hC (fun pre W=>∃ pre',pre=pre'.map Subtype.val∧J pre' W) (fun pre W=>∃ pre',pre=pre'.map Subtype.val∧Jx pre' W) W (clock_position.abides hJ) hn hm (Nat.le_trans hB.size hW.size) (hB.trans (hW.mono hB.size)) ((hW.block Bs hlt).trans hBs) hex (Nat.lt_of_lt_of_le hlt hW.size) ?_ ⟨[],rfl,h0⟩).mono ?_
  · rintro pre x W1 hx ⟨q,rfl,hq⟩ hlen
    obtain ⟨y,_,rfl⟩:=List.mem_map.1 hx
    refine YieldAt.mono (hY q y W1 hq (by simpa using hlen)) ?_
    rintro e W' (⟨h1,h2,h3⟩ | ⟨h1,h2⟩)
    · exact .inl ⟨h1,⟨q ++ [y],by simp,h2⟩,h3⟩
    · exact .inr ⟨h1,⟨q ++ [y],by simp,h2⟩⟩
  · have hinj:∀ a b:List { p:clock_position.Pc // ok p },a.map Subtype.val=b.map Subtype.val→a=b:=fun a b h=>List.map_inj_right (fun _ _=>Subtype.ext) |>.1 h
    rintro e W' ⟨he,⟨ys,rfl,q,hq,hj⟩ | ⟨pre,hpre,q,rfl,hj⟩⟩
    · obtain rfl:=hinj _ _ hq.symm
      exact ⟨he, .inl ⟨_,rfl,hj⟩⟩
    · refine ⟨he, .inr ⟨q,?_,hj⟩⟩
      show q <+: all
      rw [List.prefix_iff_eq_take] at hpre ⊢
      rw [List.length_map, ← List.map_take] at hpre
      exact hinj _ _ hpre

/-- A block of cells lies as it lay. -/
theorem clock_position.block_own {β:Type} (b:Nat) (f:β→Obj) (hc:∀ s,(f s).isCells=true):Own (fun s W=>W.heap[b]?=some (f s)):=fun s X Y row hs hg hrow =>
  (hg.block b (blk_lt hs) (fun e=>by
    obtain ⟨o,ho,hk⟩:=hrow b e.symm
    rw [show X.heap[b]?=_ from hs] at ho
    cases ho
    rw [hc s] at hk
    cases hk)).trans hs
theorem clock_position.Keeps.set {ex:Nat→Prop} {n₀:Nat} (W:World) {b:Nat} (hb:ex b) (hn:n₀≤b) (u:Value):clock_position.Keeps ex n₀ W (W.setCell ⟨b,0,none⟩ u) :=
  ⟨(Below.refl _ W).setCell (p:=⟨b,0,none⟩) hn _,fun c o hc ho _=>(Below.heap_setCell W ⟨b,0,none⟩ u c (fun e=>hc (by rw [show c=b from e];exact hb))).trans ho⟩

/-- The value behind a piece at which the walk goes on. -/
def clock_position.val (k:Nat) (t:Int) (p:clock_position.Pc):Int:=((clock_position.one k t p).getD none).getD 0
def clock_position.acc (k:Nat) (t:Int) (ps:List clock_position.Pc):Int:=ps.foldl (fun _ p=>clock_position.val k t p) 0
theorem clock_position.acc_snoc (k:Nat) (t:Int) (ps:List clock_position.Pc) (p:clock_position.Pc):clock_position.acc k t (ps ++ [p])=clock_position.val k t p:=by simp [clock_position.acc]
theorem clock_position.evs_some {β:Type} {g:clock_position.Pc→Option β}:∀ {ps:List clock_position.Pc} {os:List β},clock_position.evs g ps=some os→∀ p ∈ ps, ∃ o,g p=some o
 | [],_,_=>fun p hp=>by cases hp
 | p :: ps,os,h=>fun q hq=>by
  simp only [clock_position.evs,Option.bind_eq_some_iff] at h
  obtain ⟨o,ho,os',hos,_⟩:=h
  rcases List.mem_cons.1 hq with rfl|hq
  · exact ⟨o,ho⟩
  · exact clock_position.evs_some hos q hq
/-- What comes of the pieces if q went on, and the next one (if there is one) ends the walk. -/
theorem clock_position.upto_eq (k:Nat) (t:Int):∀ (q r:List clock_position.Pc) (os:List (Option Int)) (n:Int),clock_position.evs (clock_position.one k t) (q ++ r)=some os→(∀ p ∈ q, ∃ m,clock_position.one k t p=some (some m)) →
    (r=[] ∨ ∃ x r',r=x :: r'∧clock_position.one k t x=some none)→clock_position.upto os n=q.foldl (fun _ p=>clock_position.val k t p) n
 | [], [],os,n,h,_,_=>by
  simp only [clock_position.evs,List.append_nil,Option.some.injEq] at h
  subst h
  rfl
 | [],x :: r,os,n,h,_,hr=>by
  rcases hr with hr | ⟨x',r',hr,hx⟩
  · cases hr
  · cases hr
    simp only [clock_position.evs,List.nil_append,hx,Option.bind_some,Option.bind_eq_some_iff,Option.some.injEq] at h
    obtain ⟨os',_,rfl⟩:=h
    rfl
 | p :: q,r,os,n,h,hq,hr=>by
  obtain ⟨m,hm⟩:=hq p List.mem_cons_self
  simp only [clock_position.evs,List.cons_append,hm,Option.bind_some,Option.bind_eq_some_iff,Option.some.injEq] at h
  obtain ⟨os',hos,rfl⟩:=h
  have e:clock_position.val k t p=m:=by simp [clock_position.val,hm]
  simp only [clock_position.upto,List.foldl_cons,e]
  exact clock_position.upto_eq k t q r os' m hos (fun x hx=>hq x (List.mem_cons_of_mem _ hx)) hr

/-- Between two rounds: the pieces so far have gone on; the variable holds the last one's value. -/
def clock_position.Inv (k b:Nat) (t:Int) (w:World) (ok:clock_position.Pc→Prop) (pre:List { p:clock_position.Pc // ok p }) (W:World):Prop :=
  ((∀ p ∈ pre, ∃ m,clock_position.one k t p.1=some (some m))∧(Boxed W b 2 (.int .i64 t)∧Boxed W (b+1) 2 (.int .i64 (clock_position.acc k t (pre.map Subtype.val)))))∧(b+2 < W.heap.size∧Below w.heap.size w W)
/-- A round has left. -/
def clock_position.Left (k b:Nat) (t:Int) (w:World) (ok:clock_position.Pc→Prop) (c:Code) (pre:List { p:clock_position.Pc // ok p }) (W:World):Prop :=
  ((c=.exit 0∧∃ q x,pre=q ++ [x]∧clock_position.one k t x.1=some none∧∀ p ∈ q, ∃ m,clock_position.one k t p.1=some (some m))∧Boxed W (b+1) 2 (.int .i64 (clock_position.acc k t (pre.dropLast.map Subtype.val))))∧Below w.heap.size w W
theorem clock_position.inv_own (k b:Nat) (t:Int) (w:World) (ok:clock_position.Pc→Prop) (B:Nat) (hB:w.heap.size≤B):OwnFrom B (clock_position.Inv k b t w ok) :=
  OwnFrom.and (OwnFrom.and (ownFrom_pure _ _) (OwnFrom.and (Own.from (boxed_own _ _ _) _) (Own.from (boxed_own _ _ _) _))) (OwnFrom.and (fun _ _ _ _ hs hg _=>Nat.lt_of_lt_of_le hs hg.size) (ownFrom_below (Nat.le_refl _) hB))
theorem clock_position.left_own (k b:Nat) (t:Int) (w:World) (ok:clock_position.Pc→Prop) (c:Code) (B:Nat) (hB:w.heap.size≤B):OwnFrom B (clock_position.Left k b t w ok c) :=
  OwnFrom.and (OwnFrom.and (ownFrom_pure _ _) (Own.from (boxed_own _ _ _) _)) (ownFrom_below (Nat.le_refl _) hB)

set_option maxRecDepth 100000 in
set_option maxHeartbeats 4000000 in
theorem clock_position.calls (k:Nat) (A0:Option Addr) (c0:Nat) (l0:List S61) (a1:Int) (r:Int) (w:World) (hin:Kd.C k61 w A0 l0.length l0) (hcap:l0.length≤c0) (h:clock_position.f k l0 a1=some r) :
    Calls Try.prog 33 #[.agg #[.slice A0 l0.length c0], .int .i64 a1] w fun e w'=>e=.returned (.int .i64 r)∧Below w.heap.size w w':=by
  unfold clock_position.f at h
  by_cases hm:l0.length≤9223372036854775806
  rotate_left
  · rw [if_neg hm] at h
    cases h
  rw [if_pos hm] at h
  clear hcap
  simp only [Option.bind_eq_some_iff,Option.some.injEq] at h
  obtain ⟨ps,hps,os,hos,hr⟩:=h
  have hgood:∀ p ∈ ps, ∃ o,clock_position.one k a1 p=some o:=clock_position.evs_some hos
  obtain ⟨all,rfl⟩:∃ all:List { p:clock_position.Pc // ∃ o,clock_position.one k a1 p=some o },ps=all.map Subtype.val :=
    ⟨ps.attach.map fun p=>⟨p.1,hgood p.1 p.2⟩,by simp⟩
  clear hgood
  refine (callsIn_wide (n:=6)).1 ?_
  have hu24:=Try.underlying24
  have hu71:=Try.underlying71
  refine callsIn_of_wp_marks Try.func33 rfl trivial ?_ rfl
  simp only [Try.ntmps33,List.size_toArray,List.length_cons,List.length_nil,Nat.reduceAdd,Nat.reduceSub,Array.replicate_succ,Array.replicate_zero,List.push_toArray,List.append_toArray,List.nil_append,List.cons_append]
  have H0:=Aside0.mk (And.intro hps (And.intro hos (And.intro hr (And.intro hin hm))))
  clear hps hos hr hin hm
  have hpc:∀ W:World,CallsIn Fence.wide (6 - 1) Try.prog 36 #[.agg #[.slice A0 l0.length c0]] W fun e w'=>e=.returned (.func (.func 47) #[] #[.pointer (some ⟨W.heap.size,0,none⟩)])∧w'=W.alloc (.cells #[.slice A0 l0.length c0] 24):=fun W=>clock_position.pieces _ A0 l0.length c0 W
  gi_wp2_with (refine ⟨trivial,?_⟩;gi_at_call 36;refine (hpc _).mono ?_;rintro e w' ⟨rfl,rfl⟩)
  clear hpc
  obtain ⟨S,hS⟩:∃ S,S=w.heap.size:=⟨_,rfl⟩
  obtain ⟨W0,hW0⟩:∃ W0,W0=(((w.alloc (Obj.cells #[.slice A0 l0.length c0] 24 (0,0))).alloc (Obj.cells #[.int .i64 a1] 2 (0,0))).alloc (Obj.cells #[.int .i64 0] 2 (0,0))).alloc (Obj.cells #[.slice A0 l0.length c0] 24 (0,0)):=⟨_,rfl⟩
  have bT:=((Boxed.new (w.alloc (Obj.cells #[.slice A0 l0.length c0] 24 (0,0))) 2 (.int .i64 a1)).alloc (Obj.cells #[.int .i64 0] 2 (0,0))).alloc (Obj.cells #[.slice A0 l0.length c0] 24 (0,0))
  have bN:=(Boxed.new ((w.alloc (Obj.cells #[.slice A0 l0.length c0] 24 (0,0))).alloc (Obj.cells #[.int .i64 a1] 2 (0,0))) 2 (.int .i64 0)).alloc (Obj.cells #[.slice A0 l0.length c0] 24 (0,0))
  have bS:=Boxed.new (((w.alloc (Obj.cells #[.slice A0 l0.length c0] 24 (0,0))).alloc (Obj.cells #[.int .i64 a1] 2 (0,0))).alloc (Obj.cells #[.int .i64 0] 2 (0,0))) 24 (.slice A0 l0.length c0)
  have hB0:Below w.heap.size w W0:=by rw [hW0];exact below_alloc (below_alloc (below_alloc (below_alloc (Below.refl _ w) _) _) _) _
  have hsz:W0.heap.size=S+4:=by rw [hW0,hS];simp
  simp only [World.size_alloc] at bT bN bS
  rw [← hW0, ← hS] at bT bN bS
  rw [← hW0, ← hS]
  clear hW0
  obtain ⟨hps,hos,hr,hin,hm⟩:=H0.out
  have HS:=Aside0.mk hS
  have HZ:=Aside0.mk hsz
  have hSw:w.heap.size≤S:=Nat.le_of_eq hS.symm
  have hS0:S+4≤W0.heap.size:=Nat.le_of_eq hsz.symm
  refine wpIn_rangeFunc_ownH (n:=6) (α:={ p:clock_position.Pc // ∃ o,clock_position.one k a1 p=some o }) rfl (by decide) (gf:=47) (lb:=#[.pointer (some ⟨S+1+1+1,0,none⟩)]) rfl trivial (enters_of Try.func47 (by kernel_rfl) rfl)
    (clock_position.stops (6 - 1) k (S+1+1+1) A0 c0 l0 _ all hps (fun b=>b=S+1+1) S w hS hin W0 hB0 (by decide) hm bS (fun b hb he=>by omega))
    clock_position.Keeps.trans (clock_position.Keeps.book (by omega)) (Below.refl _ _) (fun _=>rfl)
    (clock_position.Inv k (S+1) a1 w _) (clock_position.Left k (S+1) a1 w _)
    (clock_position.inv_own _ _ _ _ _ _ (by omega)) (fun c=>clock_position.left_own _ _ _ _ _ c _ (by omega))
    ⟨⟨(fun p hp=>by cases hp),bT,bN⟩,by omega,hB0⟩
    (fun x a' W=>∃ Bx,S+3 < Bx∧W.heap[Bx]?=some (.cells #[.int .i64 x.1.fr, .int .i64 x.1.nu, .int .i64 x.1.de, .int .i64 x.1.un, .int .i64 x.1.be] 71 (0,0)) ∧
      a'={ tmps:=#[.agg #[.slice A0 l0.length c0], .int .i64 a1, .pointer (some ⟨S,0,none⟩), .pointer (some ⟨S+1,0,none⟩), .int .i64 0, .pointer (some ⟨S+1+1,0,none⟩), .pointer (some ⟨Bx,0,none⟩), .agg #[.slice A0 l0.length c0], .func (.func 47) #[] #[.pointer (some ⟨S+1+1+1,0,none⟩)],x.1.enc,undef,undef,undef,undef,undef,undef,undef,undef,undef,undef,undef,undef],defers:=[] })
    (fun x a' _ X Y row hs hg hr=>by
      obtain ⟨Bx,h1,h2,h3⟩:=hs
      exact ⟨Bx,h1,clock_position.block_own Bx (fun (_:Unit)=>Obj.cells #[.int .i64 x.1.fr, .int .i64 x.1.nu, .int .i64 x.1.de, .int .i64 x.1.un, .int .i64 x.1.be] 71 (0,0)) (fun _=>rfl) () X Y row h2 hg (fun r e=>(hr r e).2),h3⟩)
    ?assign ?body ?done ?stop
  case assign =>
    rintro l pre x W K ⟨⟨hp1,bT1,bN1⟩,hz1,hB1⟩ hK
    have hrest:S+3 < W.heap.size:=hz1
    dsimp only [clock_position.Pc.enc]
    have HB:=Aside0.mk hrest
    clear hS hsz hps hos hr hrest
    gi_wp2
    exact hK _ _ ((KeepsOthers.alloc _ _).from _) (clock_position.Keeps.of (below_alloc (Below.refl _ W) _) (HS.out ▸ hB1.size)) ⟨⟨hp1,bT1.alloc _,bN1.alloc _⟩,by simp;omega,hB1.alloc hB1.size _⟩ ⟨W.heap.size,HB.out,heap_alloc_new _ _,rfl⟩
  case body =>
    rintro l pre x a' W hl ⟨rr,hrr⟩ ⟨⟨hp1,bT1,bN1⟩,hz1,hB1⟩ ⟨Bx,hBx,bX,rfl⟩ hlt
    have HP:=Aside0.mk (And.intro hp1 (And.intro hz1 hB1))
    clear hS hsz hps hos hr hp1 hB1
    have cT:=bT1.cell
    have q0:W.cell? ⟨Bx,0,none⟩=some (.int .i64 x.1.fr):=(blk_cell bX 0).trans rfl
    have q1:W.cell? ⟨Bx,1,none⟩=some (.int .i64 x.1.nu):=(blk_cell bX 1).trans rfl
    have q2:W.cell? ⟨Bx,2,none⟩=some (.int .i64 x.1.de):=(blk_cell bX 2).trans rfl
    have q3:W.cell? ⟨Bx,3,none⟩=some (.int .i64 x.1.un):=(blk_cell bX 3).trans rfl
    have q4:W.cell? ⟨Bx,4,none⟩=some (.int .i64 x.1.be):=(blk_cell bX 4).trans rfl
    obtain ⟨o,ho⟩:=x.2
    unfold clock_position.one at ho
    by_cases hc:x.1.fr > a1
    · rw [if_pos hc] at ho
      have d1:decide (x.1.fr > a1)=true:=decide_eq_true hc
      have HO:=Aside0.mk (And.intro hc ho)
      clear hc ho hlt
      gi_wp2
      obtain ⟨hp1,hz1,hB1⟩:=HP.out
      obtain ⟨hc,ho⟩:=HO.out
      refine ⟨KeepsFrom.refl _ _,⟨⟨rfl,pre,x,rfl,?_,hp1⟩,?_⟩,hB1⟩
      · unfold clock_position.one
        rw [if_pos hc]
      · rw [List.dropLast_concat]
        exact bN1
    · rw [if_neg hc] at ho
      have d1:decide (x.1.fr > a1)=false:=decide_eq_false hc
      simp only [Option.bind_eq_some_iff,Option.some.injEq,clock_position.Pc.at] at ho
      obtain ⟨m,hat,rfl⟩:=ho
      have hcall:∀ W:World,CallsIn Fence.wide (6 - 1 - 1 - 1) Try.prog 37 #[.agg #[.int .i64 x.1.fr, .int .i64 x.1.nu, .int .i64 x.1.de, .int .i64 x.1.un, .int .i64 x.1.be], .int .i64 (mn a1 x.1.un)] W fun e w'=>e=.returned (.int .i64 m)∧Below W.heap.size W w':=fun W=>callsIn_wide.2 (clock_piece_at.calls k _ _ _ _ _ _ m W hat)
      have HA:=Aside0.mk (And.intro hc hat)
      clear hc hat hlt
      unfold mn at hcall
      by_cases hmn:x.1.un < a1
      all_goals
        first|rw [if_pos hmn] at hcall|rw [if_neg hmn] at hcall
        have bN2:=Aside0.mk bN1
        have bT2:=Aside0.mk bT1
        clear bT1 bN1
        gi_wp2_with (refine ⟨trivial,?_⟩;gi_at_call 37;refine (CallsIn.inRound l (hcall _)).mono ?_;clear hcall q0 q1 q2 q3 q4;rintro e W4 ⟨rfl,hB4⟩;have bN4:Boxed W4 (S+1+1) 2 _:=(hB4.block _ bN2.out.lt).trans bN2.out;have cN4:=bN4.cell;have fN4:=bN4.frozen)
        obtain ⟨hp1,hz1,hB1⟩:=HP.out
        obtain ⟨hc,hat⟩:=HA.out
        have hone:clock_position.one k a1 x.1=some (some m):=by unfold clock_position.one;rw [if_neg (by omega),clock_position.Pc.at,hat];rfl
        have hS1:S≤W.heap.size:=by omega
        refine ⟨((clock_position.others hB4).from _).trans ((KeepsOthers.setCell _ _ _).from _),(clock_position.Keeps.of hB4 hS1).trans (clock_position.Keeps.set (ex:=fun b=>b=S+1+1) (b:=S+1+1) W4 rfl (by omega) _),⟨?_,((show Boxed W4 (S+1) 2 _ from (hB4.block _ bT2.out.lt).trans bT2.out).other (by omega) _),?_⟩,?_,?_⟩
        · intro p hp
          rcases List.mem_append.1 hp with hp|hp
          · exact hp1 p hp
          · obtain rfl:=List.mem_singleton.1 hp
            exact ⟨m,hone⟩
        · rw [List.map_append,List.map_singleton,clock_position.acc_snoc]
          have:clock_position.val k a1 x.1=m:=by simp [clock_position.val,hone]
          rw [this]
          exact bN4.set _
        · have:=hB4.size
          simp only [World.size_setCell]
          omega
        · exact (hB1.trans (hB4.mono (HS.out ▸ hS1))).setCell (p:=⟨S+1+1,0,none⟩) (by rw [← HS.out];show S≤S+1+1;omega) _
  case done =>
    rintro D ys W hD rfl ⟨⟨hp1,bT1,bN1⟩,hz1,hB1⟩ hK
    have cN:=bN1.cell
    have HP:=Aside0.mk (And.intro hp1 hB1)
    clear hS hsz hps hos hr hp1 hB1 hz1
    gi_wp2
    refine ⟨by simp, .inl ⟨_,_,rfl,run_takeDeferred hK,?_⟩⟩
    obtain ⟨hps,hos,hr,hin,hm⟩:=H0.out
    refine ⟨_,results_tmp rfl _ _ _,?_,HP.out.2.trans (belowK_b (w:=w) (Nat.le_refl _) W D _ _ (by have:=HS.out;omega) hK rfl rfl)⟩
    rw [← hr,clock_position.upto_eq k a1 (ys.map Subtype.val) [] os 0 (by rw [List.append_nil];exact hos) (fun p hp=>by obtain ⟨y,hy,rfl⟩:=List.mem_map.1 hp;exact HP.out.1 y hy) (.inl rfl)]
    rfl
  case stop =>
    rintro D c pre W hD hpre ⟨⟨⟨rfl,q,x,rfl,hx,hq⟩,bN1⟩,hB1⟩ hK
    rw [List.dropLast_concat] at bN1
    have cN:=bN1.cell
    have HP:=Aside0.mk (And.intro hx (And.intro hq (And.intro hpre hB1)))
    clear hS hsz hps hos hr hx hq hpre hB1
    gi_wp2
    refine ⟨by simp, .inl ⟨_,_,rfl,run_takeDeferred hK,?_⟩⟩
    obtain ⟨hps,hos,hr,hin,hm⟩:=H0.out
    obtain ⟨hx,hq,⟨rest,hrest⟩,hB1⟩:=HP.out
    refine ⟨_,results_tmp rfl _ _ _,?_,hB1.trans (belowK_b (w:=w) (Nat.le_refl _) W D _ _ (by have:=HS.out;omega) hK rfl rfl)⟩
    rw [← hr,clock_position.upto_eq k a1 (q.map Subtype.val) (x.1 :: rest.map Subtype.val) os 0 (by rw [← hos, ← hrest];simp) (fun p hp=>by obtain ⟨y,hy,rfl⟩:=List.mem_map.1 hp;exact hq y hy) (.inr ⟨_,_,rfl,hx⟩)]
    rfl
end

end Go.Proofs.Ythnmmiofhjbkeaa.PA
