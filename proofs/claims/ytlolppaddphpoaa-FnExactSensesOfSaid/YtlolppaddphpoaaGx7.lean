/- Functions of the program as plain Lean functions, and that each call comes to its function's answer; written by a program of the session. No condition. -/
import Derived.Test.YtlolppaddphpoaaGx0
import Derived.Test.YtlolppaddphpoaaGx4
import Derived.Test.YtlolppaddphpoaaGx5
import Derived.Test.YtlolppaddphpoaaGx6
namespace Go.Proofs.Ytlolppaddphpoaa.G
open Go.RowKit Go.Proofs.YtlolppaddphpoaaW.PrintWords Go.Proofs.YtlolppaddphpoaaW.PrintLast Go.Proofs.YtlolppaddphpoaaW.PrintMore
attribute [local go_sem] max2_int min2_int max_two min_two max_three min_three max_four min_four   -- for this text's walks alone
set_option linter.unusedVariables false
set_option linter.unusedSimpArgs false
theorem z7_0 {P:Prop} (h:P:=by repeat(first|(with_reducible first|exact HB.out|apply Zh|apply Ze|apply Zd)|exact HB.out)):P:=h
theorem z7_1 {P:Prop} (h:P:=by repeat(first|exact Ya _ _|apply Ze|apply Zd)):P:=h
theorem z7_2 {P:Prop} (h:P:=by first|(go_simp;done)|(go_simp;rfl)):P:=h
theorem z7_3 {P:Prop} (h:P:=by(try simp only[Yn,List.map_cons,List.map_nil]);first|done|rfl|(simp only[List.length_drop,List.length_take];rfl)):P:=h
theorem z7_4 {P:Prop} (h:P:=by repeat(first|exact HB4.out|apply Ze|apply Zd)):P:=h
theorem heapStmtX:Kd.Heap k80:=Kd.heap_iso _ (Kd.heap_pair (Kd.heap_int .i64) (Kd.heap_pair (Kd.heap_int .i64) (Kd.heap_pair (Kd.heap_int .i64) (Kd.heap_iso _ (Kd.heap_pair (Kd.heap_int .i64) (Kd.heap_pair (Kd.heap_int .i64) (Kd.heap_int .i64)))))))
abbrev RunS:=List Int×List Int×List Int
def execRep {σ:Type} (f:σ→Option σ):Nat→σ→Option σ
 |0,s=>some s
 |n+1,s=>(f s).bind (execRep f n)
theorem execRep_mono {σ:Type} {f g:σ→Option σ} (h:∀s,LeO (f s) (g s)):∀n s,LeO (execRep f n s) (execRep g n s)
 |0,s=>LeO.refl _
 |n+1,s=>Yj (h s) (fun x=>execRep_mono h n x)
def execStep (k:Nat) (ll lr:List Int) (at_:Int) (live:Bool) (s:RunS) (x:S80):Option RunS:=
 if x.f0=1 then (spec_l03Eval.f k s.1 x.f3.f0 x.f3.f1 x.f3.f2).bind fun y=>if 0≤x.f1∧x.f1<(s.1.length:Int) then some (s.1.set x.f1.toNat y,s.2.1,s.2.2) else none
 else if x.f0=2 then (spec_l12Sense.f k ll lr at_ live s.2.2 x.f2).bind fun r=>if 0≤x.f1∧x.f1<(s.1.length:Int) then some (s.1.set x.f1.toNat r.2,s.2.1,r.1) else none
 else if x.f0=3 then (spec_l03Eval.f k s.1 x.f3.f0 x.f3.f1 x.f3.f2).bind fun y=>if s.2.1.length<17592186044415 then some (s.1,s.2.1++[y],s.2.2) else none
 else some s
def execN (k:Nat) (s:RunS) (x:S80):Option Int:=if x.f0=4 then (spec_l03Eval.f k s.1 x.f3.f0 x.f3.f1 x.f3.f2).bind fun y=>spec_l03Bit.f (y != 0) else some x.f2
mutual
def spec_l12Exec.f (ll lr:List Int) (at_:Int) (live:Bool):Nat→List S80→Int→Int→RunS→Option RunS
 |0,_,_,_,_=>none
 |k+1,l,a,b,s=>spec_l12Exec.l0 ll lr at_ live k l b a s
def spec_l12Exec.l0 (ll lr:List Int) (at_:Int) (live:Bool):Nat→List S80→Int→Int→RunS→Option RunS
 |0,_,_,_,_=>none
 |k+1,l,b,i,s=>if i<b then (if 0≤i∧i<(l.length:Int) then (if (rd_T80 l i).f0=4∨(rd_T80 l i).f0=5 then
   ((spec_l05End.f k l i).bind fun e=>(execN k s (rd_T80 l i)).bind fun n=>if n≤9223372036854775807 then
    (execRep (fun s'=>spec_l12Exec.f ll lr at_ live k l (wrap64 (i+1)) e s') n.toNat s).bind fun s'=>spec_l12Exec.l0 ll lr at_ live k l b (wrap64 (e+1)) s' else none)
   else (execStep k ll lr at_ live s (rd_T80 l i)).bind fun s'=>spec_l12Exec.l0 ll lr at_ live k l b (wrap64 (i+1)) s') else none) else some s
end
theorem execStep_mono (k:Nat) (ll lr:List Int) (at_:Int) (live:Bool) (s:RunS) (x:S80):LeO (execStep k ll lr at_ live s x) (execStep (k+1) ll lr at_ live s x):=by
 unfold execStep
 exact LeO.ite (Yj (spec_l03Eval.mono _ _ _ _ k) (fun _=>LeO.refl _)) (LeO.ite (Yj (spec_l12Sense.mono _ _ _ _ _ _ k) (fun _=>LeO.refl _)) (LeO.ite (Yj (spec_l03Eval.mono _ _ _ _ k) (fun _=>LeO.refl _)) (LeO.refl _)))
theorem execN_mono (k:Nat) (s:RunS) (x:S80):LeO (execN k s x) (execN (k+1) s x):=by
 unfold execN
 exact LeO.ite (Yj (spec_l03Eval.mono _ _ _ _ k) (fun _=>LeO.refl _)) (LeO.refl _)
theorem spec_l12Exec.mono_l (ll lr:List Int) (at_:Int) (live:Bool):∀k,(∀l a b s,LeO (spec_l12Exec.f ll lr at_ live k l a b s) (spec_l12Exec.f ll lr at_ live (k+1) l a b s))∧(∀l b i s,LeO (spec_l12Exec.l0 ll lr at_ live k l b i s) (spec_l12Exec.l0 ll lr at_ live (k+1) l b i s))
 |0=>⟨fun _ _ _ _ r h=>by simp[spec_l12Exec.f] at h,fun _ _ _ _ r h=>by simp[spec_l12Exec.l0] at h⟩
 |k+1=>by
  obtain⟨ih0,ih1⟩:=spec_l12Exec.mono_l ll lr at_ live k
  constructor
  ·intro l a b s
   unfold spec_l12Exec.f
   exact ih1 _ _ _ _
  ·intro l b i s
   unfold spec_l12Exec.l0
   exact LeO.ite (LeO.ite (LeO.ite (Yj (spec_l05End.mono _ _ k) (fun _=>Yj (execN_mono k _ _) (fun _=>LeO.ite (Yj (execRep_mono (fun s=>ih0 _ _ _ s) _ _) (fun _=>ih1 _ _ _ _)) (LeO.refl _)))) (Yj (execStep_mono k _ _ _ _ _ _) (fun _=>ih1 _ _ _ _))) (LeO.refl _)) (LeO.refl _)
theorem runP_below {w0 w w1:World} {Al Ar:Option Addr} {nl cl nr cr:Nat} {at_:Int} {live:Bool} {g:Nat} {v s u:List Int} {F:Nat→Prop} (h:runP w0 Al nl cl Ar nr cr at_ live g v s u F w) (hb:Below w.heap.size w w1):runP w0 Al nl cl Ar nr cr at_ live g v s u F w1:=by
 obtain⟨v0,v1,v2,i1,i2,i3,i4,i5,iF,i6⟩:=h
 exact⟨v0,v1,v2,Zk i1 hb,i2.below hb,i3.below hb,i4.below hb,i5,iF,fun k hk=>(hb.block k (by have:=i5.2.2.1;have:=blk_lt i1;omega)).trans (i6 k hk)⟩
theorem runP_lt {w0 w:World} {Al Ar:Option Addr} {nl cl nr cr:Nat} {at_:Int} {live:Bool} {g:Nat} {v s u:List Int} {F:Nat→Prop} (h:runP w0 Al nl cl Ar nr cr at_ live g v s u F w):w0.heap.size≤w.heap.size∧∀k,F k→k<w.heap.size:=by
 obtain⟨v0,v1,v2,i1,i2,i3,i4,i5,iF,i6⟩:=h
 refine⟨by have:=i5.2.2.1;have:=blk_lt i1;omega,fun k hk=> ?_⟩
 rcases (iF k).1 hk with e|e|e|e
 ·rw[e]
  exact blk_lt i1
 ·exact i2.lt k e
 ·exact i3.lt k e
 ·exact i4.lt k e
theorem runP_old {w0 w:World} {Al Ar:Option Addr} {nl cl nr cr:Nat} {at_:Int} {live:Bool} {g:Nat} {v s u:List Int} {F:Nat→Prop} (h:runP w0 Al nl cl Ar nr cr at_ live g v s u F w):∀k,k<w0.heap.size→w.heap[k]? =w0.heap[k]? :=by
 obtain⟨v0,v1,v2,i1,i2,i3,i4,i5,iF,i6⟩:=h
 exact i6
theorem runP_put {w0 w:World} {Al Ar:Option Addr} {nl cl nr cr:Nat} {at_:Int} {live:Bool} {g gv c x:Nat} {n:Nat} {v v' s u:List Int} {F:Nat→Prop} {y:Value} (h:runP w0 Al nl cl Ar nr cr at_ live g v s u F w) (h0:w.cell? ⟨g,0,none⟩=some (.slice (some ⟨gv,0,none⟩) n c))
  (put:Sep.rowI 3 (w.setCell ⟨gv,x,none⟩ y) (.slice (some ⟨gv,0,none⟩) n c) v'):runP w0 Al nl cl Ar nr cr at_ live g v' s u F (w.setCell ⟨gv,x,none⟩ y)∧Sep.After F w F (w.setCell ⟨gv,x,none⟩ y):=by
 obtain⟨v0,v1,v2,i1,i2,i3,i4,i5,iF,i6⟩:=h
 have e0:v0= .slice (some ⟨gv,0,none⟩) n c:=by
  have:=(Zb i1 0).symm.trans h0
  simpa using this
 subst e0
 have far:∀k,k≠gv→(w.setCell ⟨gv,x,none⟩ y).heap[k]? =w.heap[k]? :=fun k hk=>Below.heap_setCell w ⟨gv,x,none⟩ y k hk
 have ng:g≠gv:=fun e=>i2.ne i1 (by decide) gv rfl e.symm
 have hv:w0.heap.size≤gv:=i5.2.2.2.1 gv rfl
 refine⟨⟨_,v1,v2,(far g ng).trans i1,put,i3.keep (fun k hk=>far k (fun e=>(i5.1 gv rfl).1 (e ▸ hk))),i4.keep (fun k hk=>far k (fun e=>(i5.1 gv rfl).2 (e ▸ hk))),i5,iF,fun k hk=>(far k (by omega)).trans (i6 k hk)⟩,⟨⟨by simp[World.setCell],fun k hk hn=>far k (fun e=>hn ((iF k).2 (.inr (.inl (by rw[e];rfl)))))⟩,fun k hk=> .inl hk,rfl,rfl,rfl⟩⟩
theorem runP_row {w0 w:World} {Al Ar:Option Addr} {nl cl nr cr:Nat} {at_:Int} {live:Bool} {g:Nat} {v s u:List Int} {F:Nat→Prop} {v0':Value} (h:runP w0 Al nl cl Ar nr cr at_ live g v s u F w) (h0:w.cell? ⟨g,0,none⟩=some v0'):Sep.rowI 3 w v0' v:=by
 obtain⟨v0,v1,v2,i1,i2,i3,i4,i5,iF,i6⟩:=h
 have e0:v0=v0':=by
  have:=(Zb i1 0).symm.trans h0
  simpa using this
 subst e0
 exact i2
theorem runP_send {w0 w w5 w6:World} {Al Ar:Option Addr} {nl cl nr cr:Nat} {at_:Int} {live:Bool} {g:Nat} {v s u s':List Int} {F:Nat→Prop} {v0 v1 v2 v3:Value}
  (b0:w.heap[g]? =some (.cells #[v0,v1,v2,.slice Al nl cl,.slice Ar nr cr,.int .i64 at_,.bool live] 57 (0,0))) (b6:w6.heap[g]? =some (.cells #[v0,v3,v2,.slice Al nl cl,.slice Ar nr cr,.int .i64 at_,.bool live] 57 (0,0)))
  (r0:Sep.rowI 3 w v0 v) (r1:Sep.rowI 3 w v1 s) (r2:Sep.rowI 3 w v2 u) (r5:Sep.rowI 3 w5 v3 s')
  (dj:(∀k,v0.ownBlock=some k→v1.ownBlock≠some k∧v2.ownBlock≠some k)∧(∀k,v1.ownBlock=some k→v2.ownBlock≠some k)∧w0.heap.size≤g∧(∀k,v0.ownBlock=some k→w0.heap.size≤k)∧(∀k,v1.ownBlock=some k→w0.heap.size≤k)∧∀k,v2.ownBlock=some k→w0.heap.size≤k)
  (hF:∀k,F k↔k=g∨v0.ownBlock=some k∨v1.ownBlock=some k∨v2.ownBlock=some k) (old:∀k,k<w0.heap.size→w.heap[k]? =w0.heap[k]?)
  (gd:w.grownBy w5 v1.ownBlock) (ad:v3.ownBlock=v1.ownBlock∨∃b,v3.ownBlock=some b∧w.heap.size≤b) (fy:∀k,k≠g→w6.heap[k]? =w5.heap[k]?) (io:w6.os=w5.os∧w6.tape=w5.tape∧w6.output=w5.output∧w6.heap.size=w5.heap.size):
  ∃F',runP w0 Al nl cl Ar nr cr at_ live g v s' u F' w6∧Sep.After F w F' w6:=by
 have lt:=blk_lt b0
 have x3:∀k,v3.ownBlock=some k→v1.ownBlock=some k∨w.heap.size≤k:=fun k hk=>ad.imp (fun e=>e.symm.trans hk) (fun h=>by
  obtain⟨b,e,hb⟩:=h
  rw[hk] at e
  cases e
  exact hb)
 have s0:=r0.grown gd (fun k hk h=>(dj.1 k hk).1 h)
 have s2:=r2.grown gd (fun k hk h=>dj.2.1 k h hk)
 have b5:=blk_grown (w:=w) b0 gd (fun h=>r1.ne b0 (by decide) g h.symm rfl)
 refine⟨fun k=>k=g∨v0.ownBlock=some k∨v3.ownBlock=some k∨v2.ownBlock=some k,⟨v0,v3,v2,b6,s0.keep (fun k hk=>fy k (s0.ne b5 (by decide) k hk)),r5.keep (fun k hk=>fy k (r5.ne b5 (by decide) k hk)),s2.keep (fun k hk=>fy k (s2.ne b5 (by decide) k hk)),⟨fun k hk=>⟨fun h=> ?_,(dj.1 k hk).2⟩,fun k hk h=> ?_,dj.2.2.1,dj.2.2.2.1,fun k hk=> ?_,dj.2.2.2.2.2⟩,fun k=>Iff.rfl,fun k hk=> ?_⟩,⟨⟨by have:=gd.size;omega,fun k hk hn=> ?_⟩,fun k hk=> ?_,io.1.trans gd.os,io.2.1.trans gd.tape,io.2.2.1.trans gd.output⟩⟩
 ·exact(x3 k h).elim (fun e=>(dj.1 k hk).1 e) (fun e=>by have:=r0.lt k hk;omega)
 ·exact(x3 k hk).elim (fun e=>dj.2.1 k e h) (fun e=>by have:=r2.lt k h;omega)
 ·exact(x3 k hk).elim (dj.2.2.2.2.1 k) (fun e=>by have:=dj.2.2.1;omega)
 ·have h1:=dj.2.2.1
  exact(fy k (by omega)).trans ((gd.block k (by omega) (fun h=>by have:=dj.2.2.2.2.1 k h.symm;omega)).trans (old k hk))
 ·exact(fy k (fun h=>hn ((hF k).2 (.inl h)))).trans (gd.block k hk (fun h=>hn ((hF k).2 (.inr (.inr (.inl h.symm))))))
 ·rcases hk with h|h|h|h
  ·exact .inl ((hF k).2 (.inl h))
  ·exact .inl ((hF k).2 (.inr (.inl h)))
  ·exact(x3 k h).imp (fun e=>(hF k).2 (.inr (.inr (.inl e)))) id
  ·exact .inl ((hF k).2 (.inr (.inr (.inr h))))
set_option maxHeartbeats 8000000 in
set_option maxRecDepth 100000 in
theorem spec_l12Exec.calls (w0:World) (Al:Option Addr) (cl:Nat) (ll:List Int) (Ar:Option Addr) (cr:Nat) (lr:List Int) (at_:Int) (live:Bool) (g:Nat) (hl:Kd.C (Kd.int .i64) w0 Al ll.length ll) (hcl:ll.length≤cl) (hr:Kd.C (Kd.int .i64) w0 Ar lr.length lr) (hcr:lr.length≤cr)
  (A:Option Addr) (c:Nat) (l:List S80) (hA:Kd.C k80 w0 A l.length l) (hc:l.length≤c) (k:Nat):∀(a b:Int) (st r:RunS) (F:Nat→Prop) (w:World) (hi:runP w0 Al ll.length cl Ar lr.length cr at_ live g st.1 st.2.1 st.2.2 F w) (h:spec_l12Exec.f ll lr at_ live k l a b st=some r),
  Calls Try.prog 35 #[.pointer (some ⟨g,0,none⟩),.slice A l.length c,.int .i64 a,.int .i64 b] w fun e w'=>e= .returned (.tuple #[])∧∃F',runP w0 Al ll.length cl Ar lr.length cr at_ live g r.1 r.2.1 r.2.2 F' w'∧Sep.After F w F' w':=by
 have HLL:=Za hl
 have HCL:=Za hcl
 have HRR:=Za hr
 have HCR:=Za hcr
 have HL0:=Za hA
 have HLC:=Za hc
 clear hl hcl hr hcr hA hc
 induction k using Nat.strongRecOn with
 |_ k ih=>
 have IH:=Za ih
 clear ih
 intro a b st r F w hi h
 cases k with
 |zero=>exact absurd h (by simp[spec_l12Exec.f])
 |succ k=>
 simp only[spec_l12Exec.f] at h
 have hu57:=Try.underlying57
 have hu80:=Try.underlying80
 have hu62:=Try.underlying62
 have HS:=Za hi
 have H':=Za h
 clear hi h
 go_enter Try.func35,Try.ntmps35
 go_wp2
 go_loopg [8] k (fun kq v8 w'=>∃(i:Int) (s':RunS) (F':Nat→Prop),v8= .int .i64 i∧Aside0 (spec_l12Exec.l0 ll lr at_ live kq l b i s'=some r)∧Aside0 (kq≤k)∧Aside0 (runP w0 Al ll.length cl Ar lr.length cr at_ live g s'.1 s'.2.1 s'.2.2 F' w')∧Aside0 (Sep.After F w F' w'))
 case atStart=>exact⟨a,st,F,by first|rfl|(simp;done),H',⟨Nat.le_refl _⟩,HS,⟨Sep.After.refl _ _⟩⟩
 case round=>
  clear H' HS
  obtain⟨i,s',F',rfl,HA,HK1,HI,HAF⟩:=hrel
  obtain⟨v,s,u⟩:=s'
  cases gk with
  |zero=>exact absurd HA.out (by simp[spec_l12Exec.l0])
  |succ k1=>
   have H:=HA.out
   clear HA
   simp only[spec_l12Exec.l0] at H
   by_cases c1:i<b
   ·rw[if_pos c1] at H
    have c1b:decide (i<b)=true:=Zt c1
    by_cases c2:0≤i∧i<(l.length:Int)
    ·rw[if_pos c2] at H
     have HLW:=Za (heapStmtX.C (runP_old HI.out) HL0.out)
     obtain⟨ad,e,hx0,hx1,hx2,hx3,hx4,hx5⟩:=at_T80 HLW.out i c2.1 c2.2
     cases e
     have p1:=eq_true c2.1
     have q1:=eq_true c2.2
     obtain⟨x,hx⟩:∃x,rd_T80 l i=x:=⟨_,rfl⟩
     rw[hx] at H hx0 hx1 hx2 hx3 hx4 hx5
     obtain⟨x0,x1,x2,x3,x4,x5⟩:=x
     simp only at H hx0 hx1 hx2 hx3 hx4 hx5
     by_cases c45:x0=4∨x0=5
     ·rw[if_pos c45] at H
      obtain⟨en,A1,H1⟩:=Zl H
      obtain⟨n,A2,H2⟩:=Zl H1
      by_cases cn:n≤9223372036854775807
      ·rw[if_pos cn] at H2
       obtain⟨s3,A3,H3⟩:=Zl H2
       have H':=Za H3
       have HE:=Za A1
       have HNB:=Za cn
       have HN:Aside0 ((x0=4∧∃y,spec_l03Eval.f k1 v x3 x4 x5=some y∧spec_l03Bit.f (y != 0)=some n)∨(x0=5∧x2=n)):=⟨by
        unfold execN at A2
        by_cases c4:x0=4
        ·rw[if_pos c4] at A2
         obtain⟨y,e1,e2⟩:=Zl A2
         exact .inl ⟨c4,y,e1,e2⟩
        ·rw[if_neg c4] at A2
         exact .inr ⟨c45.resolve_left c4,Zj A2⟩⟩
       obtain⟨ji,hji⟩:∃ji,wrap64 (i+1)=ji:=⟨_,rfl⟩
       have hjiw:IntKind.i64.wrap (i+1)=ji:=(i64_w _).trans hji
       have HR3:Aside0 (execRep (fun s'=>spec_l12Exec.f ll lr at_ live k1 l ji en s') n.toNat (v,s,u)=some s3):=⟨by rw[←hji];exact A3⟩
       clear H H1 H2 H3 A1 A2 A3 hx c1 c2 c45 cn
       rcases HN.out with⟨e4,y,E1,E2⟩|⟨e5,e6⟩
       ·subst e4
        have HE1:=Za E1
        have HE2:=Za E2
        clear HN E1 E2
        go_wp2_with (first|((with_reducible refine Zp (N:=9) rfl ?_);refine Zr ?hg (N:=9) ?hd (cs:= #[.int .i64 0,.int .i64 0,.int .i64 0,.int .i64 0,.int .i64 0,.int .i64 0]) (t:=80) ?hr ?_;(case hd=>rfl);(case hg=>rfl);(case hr=>exact z7_2);intro gb hg w2 hbox hb;have HB:=Za hb;have BK:=Za hbox;have GE:Aside0 (wr.heap.size≤gb):=⟨Nat.le_of_eq hg.symm⟩;obtain⟨⟨_,_,_,_,_,_⟩,⟨_,_,_,_,_,_⟩⟩:=Sep.blk6 hbox;clear hb hbox hg)|((with_reducible refine Yh (t:=80) (p:=9) rfl ?_);refine Yg (t:=80) (p:=9) (v:= ?vo_) (w1:=Sep.put6 w2 gb (.int .i64 4) (.int .i64 x1) (.int .i64 x2) (.int .i64 x3) (.int .i64 x4) (.int .i64 x5)) ?hg ?ho ?hn ?hr ?_;(case hg=>rfl);(case ho=>rfl);(case hn=>rfl);(case hr=>exact z7_2);intro w3 hw;have BK3:=Za (hw ▸ Sep.put6_blk BK.out (.int .i64 4) (.int .i64 x1) (.int .i64 x2) (.int .i64 x3) (.int .i64 x4) (.int .i64 x5));have HB3:=Za (hw ▸ Sep.put6_below HB.out GE.out (.int .i64 4) (.int .i64 x1) (.int .i64 x2) (.int .i64 x3) (.int .i64 x4) (.int .i64 x5));clear hw BK HB;obtain⟨⟨_,_,_,_,_,_⟩,⟨_,_,_,_,_,_⟩⟩:=Sep.blk6 BK3.out)|fail)
        have HI3:=Za (runP_below HI.out HB3.out)
        have HA3:=Za (HAF.out.below HB3.out)
        obtain⟨v0,v1,v2,i1,i2,i3,i4,i5,iF,i6⟩:=HI3.out
        obtain⟨A0,c0,rfl,hc0,hC0⟩:=i2.open_
        have NG:Aside0 (gb≠g):=⟨fun h=>by have:=blk_lt i1;subst h;exact absurd BK3.out (by rw[i1];simp)⟩
        have BG:=Za i1
        have R0:=Za i2
        have R1:=Za i3
        have R2:=Za i4
        have DJ:=Za i5
        have HF:=Za iF
        have OLD:=Za i6
        have HC0:=Za hc0
        have HV0:=Za hC0
        obtain⟨⟨_,_,_,_,_,_,_⟩,⟨_,_,_⟩⟩:=blk7 i1
        clear i1 i2 i3 i4 i5 iF i6 hc0 hC0
        refine(spec_l05End.calls k1 _ _ l i en _ ?_ HLC.out HE.out).mono ?_
        ·exact Yb (Yb HLW.out HB3.out) z7_1
        rintro e w4 ⟨rfl,hb4⟩
        have HB4:=Za (Zi (z7_1:Below w3.heap.size w3 _) hb4)
        have BK4:=Za (Zk BK3.out HB4.out)
        have BG4:=Za (Zk BG.out HB4.out)
        clear hb4
        obtain⟨⟨_,_,_,_,_,_⟩,⟨_,_,_,_,_,_⟩⟩:=Sep.blk6 BK4.out
        obtain⟨⟨_,_,_,_,_,_,_⟩,⟨_,_,_⟩⟩:=blk7 BG4.out
        go_wp2
        go_region_held3 (fun w'=>w'.cell? ⟨g,0,none⟩=some (.slice A0 v.length c0)∧w'.cell? ⟨gb,3,none⟩=some (.int .i64 x3)∧w'.cell? ⟨gb,4,none⟩=some (.int .i64 x4)∧w'.cell? ⟨gb,5,none⟩=some (.int .i64 x5)) (go_keep)
         (first|(go_at_call 57;refine(spec_l03Eval.calls k1 _ _ v x3 x4 x5 y _ ?_ HC0.out HE1.out).mono ?_;(exact Yb HV0.out z7_4);rintro e w5 ⟨rfl,hb5⟩;have HB5:=Za (Zi (z7_4:Below w3.heap.size w3 _) hb5);have BK5:=Za (Zk BK3.out HB5.out);have BG5:=Za (Zk BG.out HB5.out);clear hb5;obtain⟨⟨_,_,_,_,_,_⟩,⟨_,_,_,_,_,_⟩⟩:=Sep.blk6 BK5.out;obtain⟨⟨_,_,_,_,_,_,_⟩,⟨_,_,_⟩⟩:=blk7 BG5.out)|(go_at_call 60;refine(spec_l03Bit.calls _ n _ HE2.out).mono ?_;rintro e w' ⟨rfl,⟨nd,rfl⟩⟩))
        go_wp2
        go_loopg [12] n.toNat (fun kq v12 w'=>∃(j:Int) (sj:RunS) (Fj:Nat→Prop),v12= .int .i64 j∧Aside0 (0≤j∧j+(kq:Int)=(n.toNat:Int))∧Aside0 (execRep (fun s'=>spec_l12Exec.f ll lr at_ live k1 l ji en s') kq sj=some s3)∧Aside0 (runP w0 Al ll.length cl Ar lr.length cr at_ live g sj.1 sj.2.1 sj.2.2 Fj w')∧Aside0 (Sep.After F w Fj w'))
        case atStart=>exact⟨0,(v,s,u),F',by first|rfl|(simp;done),⟨by omega,by omega⟩,HR3,⟨runP_below HI3.out (by repeat(first|exact HB5.out|apply Ze|apply Zd))⟩,⟨HA3.out.below (by repeat(first|exact HB5.out|apply Ze|apply Zd))⟩⟩
        case round=>
         clear HR3 HI3 HA3
         obtain⟨j,sj,Fj,rfl,HJ,HWJ,HIJ,HAJ⟩:=hrel
         by_cases cj:j<n
         ·have cjb:decide (j<n)=true:=Zt cj
          have hw1:wrap64 (j+1)=j+1:=by have:=HJ.out;have:=HNB.out;unfold wrap64;omega
          cases gk with
          |zero=>have:=HJ.out;omega
          |succ k2=>
           obtain⟨s4,A6,A7⟩:=Zl HWJ.out
           have HA6:=Za A6
           have HA7:=Za A7
           have HW:=Za hw1
           have CJ:=Za cj
           clear A6 A7 hw1 cj HWJ
           go_wp2_with (go_at_call 35;(with_reducible refine(IH.out k1 ?sd1 ji en sj s4 Fj _ HIJ.out HA6.out).mono ?_);(case sd1=>have:=HK1.out;omega);rintro e w6 ⟨rfl,F6,hI6,hA6⟩;have HI6:=Za hI6;have HA6':=Za (HAJ.out.trans hA6);clear hI6 hA6)
           go_roundg k2
           case measure=>omega
           case rel=>exact⟨j+1,s4,F6,by first|rfl|(rw[HW.out];done)|(simp[HW.out];done),⟨by have:=HJ.out;omega,by have:=HJ.out;omega⟩,HA7,HI6,HA6'⟩
         ·have cjb:decide (j<n)=false:=Yc cj
          have hk0:gk=0:=by have:=HJ.out;omega
          subst hk0
          obtain rfl:=Zj HWJ.out
          clear cj HWJ
          go_wp2
          go_roundg k1
          case measure=>have:=HK1.out;omega
          case rel=>exact⟨wrap64 (en+1),sj,Fj,by first|rfl|(simp;done)|(simp[*];done),H',⟨by have:=HK1.out;omega⟩,HIJ,HAJ⟩
       ·subst e5 e6
        clear HN
        go_wp2_with (first|((with_reducible refine Zp (N:=9) rfl ?_);refine Zr ?hg (N:=9) ?hd (cs:= #[.int .i64 0,.int .i64 0,.int .i64 0,.int .i64 0,.int .i64 0,.int .i64 0]) (t:=80) ?hr ?_;(case hd=>rfl);(case hg=>rfl);(case hr=>exact z7_2);intro gb hg w2 hbox hb;have HB:=Za hb;have BK:=Za hbox;have GE:Aside0 (wr.heap.size≤gb):=⟨Nat.le_of_eq hg.symm⟩;obtain⟨⟨_,_,_,_,_,_⟩,⟨_,_,_,_,_,_⟩⟩:=Sep.blk6 hbox;clear hb hbox hg)|((with_reducible refine Yh (t:=80) (p:=9) rfl ?_);refine Yg (t:=80) (p:=9) (v:= ?vo_) (w1:=Sep.put6 w2 gb (.int .i64 5) (.int .i64 x1) (.int .i64 x2) (.int .i64 x3) (.int .i64 x4) (.int .i64 x5)) ?hg ?ho ?hn ?hr ?_;(case hg=>rfl);(case ho=>rfl);(case hn=>rfl);(case hr=>exact z7_2);intro w3 hw;have BK3:=Za (hw ▸ Sep.put6_blk BK.out (.int .i64 5) (.int .i64 x1) (.int .i64 x2) (.int .i64 x3) (.int .i64 x4) (.int .i64 x5));have HB3:=Za (hw ▸ Sep.put6_below HB.out GE.out (.int .i64 5) (.int .i64 x1) (.int .i64 x2) (.int .i64 x3) (.int .i64 x4) (.int .i64 x5));clear hw BK HB;obtain⟨⟨_,_,_,_,_,_⟩,⟨_,_,_,_,_,_⟩⟩:=Sep.blk6 BK3.out)|fail)
        have HI3:=Za (runP_below HI.out HB3.out)
        have HA3:=Za (HAF.out.below HB3.out)
        obtain⟨v0,v1,v2,i1,i2,i3,i4,i5,iF,i6⟩:=HI3.out
        obtain⟨A0,c0,rfl,hc0,hC0⟩:=i2.open_
        have NG:Aside0 (gb≠g):=⟨fun h=>by have:=blk_lt i1;subst h;exact absurd BK3.out (by rw[i1];simp)⟩
        have BG:=Za i1
        have R0:=Za i2
        have R1:=Za i3
        have R2:=Za i4
        have DJ:=Za i5
        have HF:=Za iF
        have OLD:=Za i6
        have HC0:=Za hc0
        have HV0:=Za hC0
        obtain⟨⟨_,_,_,_,_,_,_⟩,⟨_,_,_⟩⟩:=blk7 i1
        clear i1 i2 i3 i4 i5 iF i6 hc0 hC0
        refine(spec_l05End.calls k1 _ _ l i en _ ?_ HLC.out HE.out).mono ?_
        ·exact Yb (Yb HLW.out HB3.out) z7_1
        rintro e w4 ⟨rfl,hb4⟩
        have HB4:=Za (Zi (z7_1:Below w3.heap.size w3 _) hb4)
        have BK4:=Za (Zk BK3.out HB4.out)
        clear hb4
        obtain⟨⟨_,_,_,_,_,_⟩,⟨_,_,_,_,_,_⟩⟩:=Sep.blk6 BK4.out
        go_wp2
        go_loopg [12] x2.toNat (fun kq v12 w'=>∃(j:Int) (sj:RunS) (Fj:Nat→Prop),v12= .int .i64 j∧Aside0 (0≤j∧j+(kq:Int)=(x2.toNat:Int))∧Aside0 (execRep (fun s'=>spec_l12Exec.f ll lr at_ live k1 l ji en s') kq sj=some s3)∧Aside0 (runP w0 Al ll.length cl Ar lr.length cr at_ live g sj.1 sj.2.1 sj.2.2 Fj w')∧Aside0 (Sep.After F w Fj w'))
        case atStart=>exact⟨0,(v,s,u),F',by first|rfl|(simp;done),⟨by omega,by omega⟩,HR3,⟨runP_below HI3.out z7_4⟩,⟨HA3.out.below z7_4⟩⟩
        case round=>
         clear HR3 HI3 HA3
         obtain⟨j,sj,Fj,rfl,HJ,HWJ,HIJ,HAJ⟩:=hrel
         by_cases cj:j<x2
         ·have cjb:decide (j<x2)=true:=Zt cj
          have hw1:wrap64 (j+1)=j+1:=by have:=HJ.out;have:=HNB.out;unfold wrap64;omega
          cases gk with
          |zero=>have:=HJ.out;omega
          |succ k2=>
           obtain⟨s4,A6,A7⟩:=Zl HWJ.out
           have HA6:=Za A6
           have HA7:=Za A7
           have HW:=Za hw1
           have CJ:=Za cj
           clear A6 A7 hw1 cj HWJ
           go_wp2_with (go_at_call 35;(with_reducible refine(IH.out k1 ?sd1 ji en sj s4 Fj _ HIJ.out HA6.out).mono ?_);(case sd1=>have:=HK1.out;omega);rintro e w6 ⟨rfl,F6,hI6,hA6⟩;have HI6:=Za hI6;have HA6':=Za (HAJ.out.trans hA6);clear hI6 hA6)
           go_roundg k2
           case measure=>omega
           case rel=>exact⟨j+1,s4,F6,by first|rfl|(rw[HW.out];done)|(simp[HW.out];done),⟨by have:=HJ.out;omega,by have:=HJ.out;omega⟩,HA7,HI6,HA6'⟩
         ·have cjb:decide (j<x2)=false:=Yc cj
          have hk0:gk=0:=by have:=HJ.out;omega
          subst hk0
          obtain rfl:=Zj HWJ.out
          clear cj HWJ
          go_wp2
          go_roundg k1
          case measure=>have:=HK1.out;omega
          case rel=>exact⟨wrap64 (en+1),sj,Fj,by first|rfl|(simp;done)|(simp[*];done),H',⟨by have:=HK1.out;omega⟩,HIJ,HAJ⟩
      ·rw[if_neg cn] at H2
       exact absurd H2 (by simp)
     ·rw[if_neg c45] at H
      obtain⟨s2,A1,H1⟩:=Zl H
      have H':=Za H1
      clear H H1 hx c1 c2
      by_cases k1_:x0=1
      ·subst k1_
       simp only[execStep,if_true] at A1
       obtain⟨y,E1,E2⟩:=Zl A1
       by_cases cb:0≤x1∧x1<(v.length:Int)
       ·rw[if_pos cb] at E2
        cases E2
        have HE:=Za E1
        have p2:=eq_true cb.1
        have q2:=eq_true cb.2
        clear A1 E1 cb c45
        go_wp2_with (first|((with_reducible refine Zp (N:=9) rfl ?_);refine Zr ?hg (N:=9) ?hd (cs:= #[.int .i64 0,.int .i64 0,.int .i64 0,.int .i64 0,.int .i64 0,.int .i64 0]) (t:=80) ?hr ?_;(case hd=>rfl);(case hg=>rfl);(case hr=>exact z7_2);intro gb hg w2 hbox hb;have HB:=Za hb;have BK:=Za hbox;have GE:Aside0 (wr.heap.size≤gb):=⟨Nat.le_of_eq hg.symm⟩;obtain⟨⟨_,_,_,_,_,_⟩,⟨_,_,_,_,_,_⟩⟩:=Sep.blk6 hbox;clear hb hbox hg)|((with_reducible refine Yh (t:=80) (p:=9) rfl ?_);refine Yg (t:=80) (p:=9) (v:= ?vo_) (w1:=Sep.put6 w2 gb (.int .i64 1) (.int .i64 x1) (.int .i64 x2) (.int .i64 x3) (.int .i64 x4) (.int .i64 x5)) ?hg ?ho ?hn ?hr ?_;(case hg=>rfl);(case ho=>rfl);(case hn=>rfl);(case hr=>exact z7_2);intro w3 hw;have BK3:=Za (hw ▸ Sep.put6_blk BK.out (.int .i64 1) (.int .i64 x1) (.int .i64 x2) (.int .i64 x3) (.int .i64 x4) (.int .i64 x5));have HB3:=Za (hw ▸ Sep.put6_below HB.out GE.out (.int .i64 1) (.int .i64 x1) (.int .i64 x2) (.int .i64 x3) (.int .i64 x4) (.int .i64 x5));clear hw BK HB;obtain⟨⟨_,_,_,_,_,_⟩,⟨_,_,_,_,_,_⟩⟩:=Sep.blk6 BK3.out)|fail)
        have HI3:=Za (runP_below HI.out HB3.out)
        have HA3:=Za (HAF.out.below HB3.out)
        obtain⟨v0,v1,v2,i1,i2,i3,i4,i5,iF,i6⟩:=HI3.out
        obtain⟨A0,c0,rfl,hc0,hC0⟩:=i2.open_
        have NG:Aside0 (gb≠g):=⟨fun h=>by have:=blk_lt i1;subst h;exact absurd BK3.out (by rw[i1];simp)⟩
        have BG:=Za i1
        have R0:=Za i2
        have R1:=Za i3
        have R2:=Za i4
        have DJ:=Za i5
        have HF:=Za iF
        have OLD:=Za i6
        have HC0:=Za hc0
        have HV0:=Za hC0
        obtain⟨⟨_,_,_,_,_,_,_⟩,⟨_,_,_⟩⟩:=blk7 i1
        clear i1 i2 i3 i4 i5 iF i6 hc0 hC0
        obtain⟨gv,eA,_,hcell,hfr,hput⟩:=R0.out.at_ x1 (of_eq_true p2) (of_eq_true q2)
        subst eA
        clear hcell hfr hput
        have hne1:gv≠g:=R0.out.ne BG.out (by decide) gv rfl
        have hne2:g≠gv:=fun h=>hne1 h.symm
        have hne5:gv≠gb:=R0.out.ne BK3.out (by decide) gv rfl
        have hne6:gb≠gv:=fun h=>hne5 h.symm
        go_region_held3 (fun w'=>w'.cell? ⟨g,0,none⟩=some (.slice (some ⟨gv,0,none⟩) v.length c0)∧w'.cell? ⟨gb,1,none⟩=some (.int .i64 x1)∧w'.cell? ⟨gb,3,none⟩=some (.int .i64 x3)∧w'.cell? ⟨gb,4,none⟩=some (.int .i64 x4)∧w'.cell? ⟨gb,5,none⟩=some (.int .i64 x5)) (go_keep)
         ((go_at_call 57;refine(spec_l03Eval.calls k1 _ _ v x3 x4 x5 y _ ?_ HC0.out HE.out).mono ?_;(exact Yb HV0.out z7_1);rintro e w4 ⟨rfl,hb4⟩;have HB4:=Za (Zi (z7_1:Below w3.heap.size w3 _) hb4);have BK4:=Za (Zk BK3.out HB4.out);have BG4:=Za (Zk BG.out HB4.out);clear hb4;obtain⟨⟨_,_,_,_,_,_⟩,⟨_,_,_,_,_,_⟩⟩:=Sep.blk6 BK4.out;obtain⟨⟨_,_,_,_,_,_,_⟩,⟨_,_,_⟩⟩:=blk7 BG4.out;have R04:=Za (R0.out.below HB4.out);obtain⟨hg1c,hg1f,hput⟩:=R04.out.in_ x1 (of_eq_true p2) (of_eq_true q2);have PUT4:=Za hput;clear hput))
        go_wp2
        have HP:=runP_put (runP_below HI3.out HB4.out) ((Zb BG4.out 0).trans rfl) (PUT4.out y)
        go_roundg k1
        case measure=>have:=HK1.out;omega
        case rel=>exact⟨wrap64 (i+1),(v.set x1.toNat y,s,u),F',by first|rfl|(simp;done)|(simp[*];done),H',⟨by have:=HK1.out;omega⟩,⟨HP.1⟩,⟨(HA3.out.below HB4.out).trans HP.2⟩⟩
       ·rw[if_neg cb] at E2
        cases E2
      ·by_cases k2_:x0=2
       ·subst k2_
        simp only[execStep,if_true,if_false,show((2:Int)=1)=False from eq_false (by decide)] at A1
        obtain⟨⟨u',y⟩,E1,E2⟩:=Zl A1
        simp only at E2
        by_cases cb:0≤x1∧x1<(v.length:Int)
        ·rw[if_pos cb] at E2
         cases E2
         have HE:=Za E1
         have p2:=eq_true cb.1
         have q2:=eq_true cb.2
         clear A1 E1 cb c45 k1_
         go_wp2_with (first|((with_reducible refine Zp (N:=9) rfl ?_);refine Zr ?hg (N:=9) ?hd (cs:= #[.int .i64 0,.int .i64 0,.int .i64 0,.int .i64 0,.int .i64 0,.int .i64 0]) (t:=80) ?hr ?_;(case hd=>rfl);(case hg=>rfl);(case hr=>exact z7_2);intro gb hg w2 hbox hb;have HB:=Za hb;have BK:=Za hbox;have GE:Aside0 (wr.heap.size≤gb):=⟨Nat.le_of_eq hg.symm⟩;obtain⟨⟨_,_,_,_,_,_⟩,⟨_,_,_,_,_,_⟩⟩:=Sep.blk6 hbox;clear hb hbox hg)|((with_reducible refine Yh (t:=80) (p:=9) rfl ?_);refine Yg (t:=80) (p:=9) (v:= ?vo_) (w1:=Sep.put6 w2 gb (.int .i64 2) (.int .i64 x1) (.int .i64 x2) (.int .i64 x3) (.int .i64 x4) (.int .i64 x5)) ?hg ?ho ?hn ?hr ?_;(case hg=>rfl);(case ho=>rfl);(case hn=>rfl);(case hr=>exact z7_2);intro w3 hw;have BK3:=Za (hw ▸ Sep.put6_blk BK.out (.int .i64 2) (.int .i64 x1) (.int .i64 x2) (.int .i64 x3) (.int .i64 x4) (.int .i64 x5));have HB3:=Za (hw ▸ Sep.put6_below HB.out GE.out (.int .i64 2) (.int .i64 x1) (.int .i64 x2) (.int .i64 x3) (.int .i64 x4) (.int .i64 x5));clear hw BK HB;obtain⟨⟨_,_,_,_,_,_⟩,⟨_,_,_,_,_,_⟩⟩:=Sep.blk6 BK3.out)|fail)
         have HI3:=Za (runP_below HI.out HB3.out)
         have HA3:=Za (HAF.out.below HB3.out)
         obtain⟨v0,v1,v2,i1,i2,i3,i4,i5,iF,i6⟩:=HI3.out
         obtain⟨A0,c0,rfl,hc0,hC0⟩:=i2.open_
         have NG:Aside0 (gb≠g):=⟨fun h=>by have:=blk_lt i1;subst h;exact absurd BK3.out (by rw[i1];simp)⟩
         have BG:=Za i1
         have R0:=Za i2
         have R1:=Za i3
         have R2:=Za i4
         have DJ:=Za i5
         have HF:=Za iF
         have OLD:=Za i6
         have HC0:=Za hc0
         have HV0:=Za hC0
         obtain⟨⟨_,_,_,_,_,_,_⟩,⟨_,_,_⟩⟩:=blk7 i1
         clear i1 i2 i3 i4 i5 iF i6 hc0 hC0
         obtain⟨gv,eA,_,hcell,hfr,hput⟩:=R0.out.at_ x1 (of_eq_true p2) (of_eq_true q2)
         subst eA
         clear hcell hfr hput
         have hne1:gv≠g:=R0.out.ne BG.out (by decide) gv rfl
         have hne2:g≠gv:=fun h=>hne1 h.symm
         have hne5:gv≠gb:=R0.out.ne BK3.out (by decide) gv rfl
         have hne6:gb≠gv:=fun h=>hne5 h.symm
         have NF:Aside0 (¬F' gb):=⟨fun h=>absurd ((runP_lt HI.out).2 gb h) (Nat.not_lt.mpr GE.out)⟩
         go_region_held3 (fun w'=>w'.cell? ⟨g,0,none⟩=some (.slice (some ⟨gv,0,none⟩) v.length c0)∧w'.cell? ⟨gb,1,none⟩=some (.int .i64 x1)∧w'.cell? ⟨gb,2,none⟩=some (.int .i64 x2)) (go_keep)
          ((go_at_call 58;refine(spec_l12Sense.calls k1 w0 Al cl ll Ar cr lr at_ live g HLL.out HCL.out HRR.out HCR.out v s u x2 u' y F' _ HE.out ?_).mono ?_;(exact runP_below HI3.out z7_1);rintro e w4 ⟨rfl,hc4,F4,hI4,hA4⟩;have HA4:=Za ((Sep.After.of_below (F:=F') (z7_1:Below w3.heap.size w3 _)).trans hA4);have HC4:=Za (hc4.trans ((Zb (Zk BG.out (z7_1:Below w3.heap.size w3 _)) 0).trans rfl));have HI4:=Za hI4;have BK4:=Za (HA4.out.blk BK3.out NF.out);have R04:=Za (runP_row HI4.out HC4.out);obtain⟨hg1c,hg1f,hput⟩:=R04.out.in_ x1 (of_eq_true p2) (of_eq_true q2);have PUT4:=Za hput;have hc04:=HC4.out;obtain⟨⟨_,_,_,_,_,_⟩,⟨_,_,_,_,_,_⟩⟩:=Sep.blk6 BK4.out;clear hput hc4 hI4 hA4))
         go_wp2
         have HP:=runP_put HI4.out HC4.out (PUT4.out y)
         go_roundg k1
         case measure=>have:=HK1.out;omega
         case rel=>exact⟨wrap64 (i+1),(v.set x1.toNat y,s,u'),F4,by first|rfl|(simp;done)|(simp[*];done),H',⟨by have:=HK1.out;omega⟩,⟨HP.1⟩,⟨(HA3.out.trans HA4.out).trans HP.2⟩⟩
        ·rw[if_neg cb] at E2
         cases E2
       ·by_cases k3_:x0=3
        ·subst k3_
         simp only[execStep,if_true,if_false,show((3:Int)=1)=False from eq_false (by decide),show((3:Int)=2)=False from eq_false (by decide)] at A1
         obtain⟨y,E1,E2⟩:=Zl A1
         by_cases cb:s.length<17592186044415
         ·rw[if_pos cb] at E2
          cases E2
          have HE:=Za E1
          have HL:=Za cb
          clear A1 E1 cb c45 k1_ k2_
          go_wp2_with (first|((with_reducible refine Zp (N:=9) rfl ?_);refine Zr ?hg (N:=9) ?hd (cs:= #[.int .i64 0,.int .i64 0,.int .i64 0,.int .i64 0,.int .i64 0,.int .i64 0]) (t:=80) ?hr ?_;(case hd=>rfl);(case hg=>rfl);(case hr=>exact z7_2);intro gb hg w2 hbox hb;have HB:=Za hb;have BK:=Za hbox;have GE:Aside0 (wr.heap.size≤gb):=⟨Nat.le_of_eq hg.symm⟩;obtain⟨⟨_,_,_,_,_,_⟩,⟨_,_,_,_,_,_⟩⟩:=Sep.blk6 hbox;clear hb hbox hg)|((with_reducible refine Yh (t:=80) (p:=9) rfl ?_);refine Yg (t:=80) (p:=9) (v:= ?vo_) (w1:=Sep.put6 w2 gb (.int .i64 3) (.int .i64 x1) (.int .i64 x2) (.int .i64 x3) (.int .i64 x4) (.int .i64 x5)) ?hg ?ho ?hn ?hr ?_;(case hg=>rfl);(case ho=>rfl);(case hn=>rfl);(case hr=>exact z7_2);intro w3 hw;have BK3:=Za (hw ▸ Sep.put6_blk BK.out (.int .i64 3) (.int .i64 x1) (.int .i64 x2) (.int .i64 x3) (.int .i64 x4) (.int .i64 x5));have HB3:=Za (hw ▸ Sep.put6_below HB.out GE.out (.int .i64 3) (.int .i64 x1) (.int .i64 x2) (.int .i64 x3) (.int .i64 x4) (.int .i64 x5));clear hw BK HB;obtain⟨⟨_,_,_,_,_,_⟩,⟨_,_,_,_,_,_⟩⟩:=Sep.blk6 BK3.out)|fail)
          have HI3:=Za (runP_below HI.out HB3.out)
          have HA3:=Za (HAF.out.below HB3.out)
          obtain⟨v0,v1,v2,i1,i2,i3,i4,i5,iF,i6⟩:=HI3.out
          obtain⟨A0,c0,rfl,hc0,hC0⟩:=i2.open_
          have NG:Aside0 (gb≠g):=⟨fun h=>by have:=blk_lt i1;subst h;exact absurd BK3.out (by rw[i1];simp)⟩
          have BG:=Za i1
          have R0:=Za i2
          have R1:=Za i3
          have R2:=Za i4
          have DJ:=Za i5
          have HF:=Za iF
          have OLD:=Za i6
          have HC0:=Za hc0
          have HV0:=Za hC0
          obtain⟨⟨_,_,_,_,_,_,_⟩,⟨_,_,_⟩⟩:=blk7 i1
          clear i1 i2 i3 i4 i5 iF i6 hc0 hC0
          obtain⟨B1,d1,e1,_,_⟩:=R1.out.open_
          subst e1
          refine start_ (n:=17) (S:=fun w'=>w'.cell? ⟨g,0,none⟩=some (.slice A0 v.length c0)∧w'.cell? ⟨g,1,none⟩=some (.slice B1 s.length d1)∧w'.cell? ⟨gb,3,none⟩=some (.int .i64 x3)∧w'.cell? ⟨gb,4,none⟩=some (.int .i64 x4)∧w'.cell? ⟨gb,5,none⟩=some (.int .i64 x5)) (ds:=[16]) #[false,false,false,false,false,false,false,false,false,false,false,false,false,false,false,false,false] (by kernel_rfl) rfl rfl ⟨(Zb (BG.out) 0).trans rfl,(Zb (BG.out) 1).trans rfl,(Zb (BK3.out) 3).trans rfl,(Zb (BK3.out) 4).trans rfl,(Zb (BK3.out) 5).trans rfl⟩ (fun hHeld=> ?_)
          refine pure_ (i:=0) (N:=some 56) (v:= ?_) (a':= ?_) #[true,false,false,false,false,false,false,false,false,false,false,false,false,false,false,false,false] rfl rfl (by kernel_rfl) (fun _ _ _ h=>h) (Or.inl ⟨by rfl,?_⟩) ?_ ?_
          rotate_left
          ·intro w'
           go_simp
           with_reducible rfl
          rotate_left
          ·simp only[Act.put,Zm,Zn,Zo,i64_w,i32_w]
           rfl
          refine pure_ (i:=1) (N:=some 57) (v:= ?_) (a':= ?_) #[true,true,false,false,false,false,false,false,false,false,false,false,false,false,false,false,false] rfl rfl (by kernel_rfl) (fun _ _ _ h=>h) (Or.inl ⟨by rfl,?_⟩) ?_ ?_
          rotate_left
          ·intro w'
           go_simp
           with_reducible rfl
          rotate_left
          ·simp only[Act.put,Zm,Zn,Zo,i64_w,i32_w]
           rfl
          refine pure_ (i:=2) (N:=some 58) (v:= ?_) (a':= ?_) #[true,true,true,false,false,false,false,false,false,false,false,false,false,false,false,false,false] rfl rfl (by kernel_rfl) (fun _ _ _ h=>h) (Or.inl ⟨by rfl,?_⟩) ?_ ?_
          rotate_left
          ·intro w'
           go_simp
           with_reducible rfl
          rotate_left
          ·simp only[Act.put,Zm,Zn,Zo,i64_w,i32_w]
           rfl
          refine pure_ (i:=3) (N:=some 59) (v:= ?_) (a':= ?_) #[true,true,true,true,false,false,false,false,false,false,false,false,false,false,false,false,false] rfl rfl (by kernel_rfl) (fun _ _ _ h=>h) (Or.inl ⟨by rfl,?_⟩) ?_ ?_
          rotate_left
          ·intro w'
           go_simp
           with_reducible rfl
          rotate_left
          ·simp only[Act.put,Zm,Zn,Zo,i64_w,i32_w]
           rfl
          refine pure_ (i:=5) (N:=some 61) (v:= ?_) (a':= ?_) #[true,true,true,true,false,true,false,false,false,false,false,false,false,false,false,false,false] rfl rfl (by kernel_rfl) (fun _ _ _ h=>h) (Or.inl ⟨by rfl,?_⟩) ?_ ?_
          rotate_left
          ·intro w'
           go_simp
           with_reducible rfl
          rotate_left
          ·simp only[Act.put,Zm,Zn,Zo,i64_w,i32_w]
           rfl
          refine pure_ (i:=6) (N:=some 62) (v:= ?_) (a':= ?_) #[true,true,true,true,false,true,true,false,false,false,false,false,false,false,false,false,false] rfl rfl (by kernel_rfl) (fun _ _ _ h=>h) (Or.inl ⟨by rfl,?_⟩) ?_ ?_
          rotate_left
          ·intro w'
           go_simp
           with_reducible rfl
          rotate_left
          ·simp only[Act.put,Zm,Zn,Zo,i64_w,i32_w]
           rfl
          refine pure_ (i:=7) (N:=some 63) (v:= ?_) (a':= ?_) #[true,true,true,true,false,true,true,true,false,false,false,false,false,false,false,false,false] rfl rfl (by kernel_rfl) (fun _ _ _ h=>h) (Or.inl ⟨by rfl,?_⟩) ?_ ?_
          rotate_left
          ·intro w'
           go_simp
           with_reducible rfl
          rotate_left
          ·simp only[Act.put,Zm,Zn,Zo,i64_w,i32_w]
           rfl
          refine pure_ (i:=9) (N:=some 65) (v:= ?_) (a':= ?_) #[true,true,true,true,false,true,true,true,false,true,false,false,false,false,false,false,false] rfl rfl (by kernel_rfl) (fun _ _ _ h=>h) (Or.inl ⟨by rfl,?_⟩) ?_ ?_
          rotate_left
          ·intro w'
           go_simp
           with_reducible rfl
          rotate_left
          ·simp only[Act.put,Zm,Zn,Zo,i64_w,i32_w]
           rfl
          refine take_ (i:=4) (N:=some 60) (v:= ?_) (a':= ?_) #[true,true,true,true,true,true,true,true,false,true,false,false,false,false,false,false,false] rfl rfl (by kernel_rfl) (fun _ _ _ h=>h) (Or.inl ⟨by rfl,?_⟩) hHeld ?_ ?_
          rotate_left
          ·intro w' s0
           obtain⟨_,_,_,_,_⟩:=s0
           go_simp
           with_reducible rfl
          rotate_left
          ·simp only[Act.put,Zm,Zn,Zo,i64_w,i32_w]
           rfl
          refine take_ (i:=8) (N:=some 64) (v:= ?_) (a':= ?_) #[true,true,true,true,true,true,true,true,true,true,false,false,false,false,false,false,false] rfl rfl (by kernel_rfl) (fun _ _ _ h=>h) (Or.inl ⟨by rfl,?_⟩) hHeld ?_ ?_
          rotate_left
          ·intro w' s0
           obtain⟨_,_,_,_,_⟩:=s0
           go_simp
           with_reducible rfl
          rotate_left
          ·simp only[Act.put,Zm,Zn,Zo,i64_w,i32_w]
           rfl
          refine take_ (i:=10) (N:=some 66) (v:= ?_) (a':= ?_) #[true,true,true,true,true,true,true,true,true,true,true,false,false,false,false,false,false] rfl rfl (by kernel_rfl) (fun _ _ _ h=>h) (Or.inl ⟨by rfl,?_⟩) hHeld ?_ ?_
          rotate_left
          ·intro w' s0
           obtain⟨_,_,_,_,_⟩:=s0
           go_simp
           with_reducible rfl
          rotate_left
          ·simp only[Act.put,Zm,Zn,Zo,i64_w,i32_w]
           rfl
          refine one_ (i:=11) (N:=some 67) #[true,true,true,true,true,true,true,true,true,true,true,true,false,false,false,false,false] rfl rfl (by kernel_rfl) (by decide) (fun K hK=> ?_)
          refine goes_ Try.func57 (by kernel_rfl) rfl #[.slice A0 v.length c0,.agg #[.int .i64 x3,.int .i64 x4,.int .i64 x5]] (by rfl) rfl rfl (by(try simp only[Yn,List.map_cons,List.map_nil]);first|done|rfl) ?_
          refine(spec_l03Eval.calls k1 _ _ v x3 x4 x5 y _ ?_ HC0.out HE.out).mono ?_
          ·exact Yb HV0.out z7_1
          rintro e w4 ⟨rfl,hb4⟩
          refine⟨_,rfl,?_⟩
          have HB4:=Za (Zi (z7_1:Below w3.heap.size w3 _) hb4)
          have BK4:=Za (Zk BK3.out HB4.out)
          have BG4:=Za (Zk BG.out HB4.out)
          have R14:=Za (R1.out.below HB4.out)
          clear hb4
          refine hK _ _ ⟨(Zb (BG4.out) 0).trans rfl,(Zb (BG4.out) 1).trans rfl,(Zb (BK4.out) 3).trans rfl,(Zb (BK4.out) 4).trans rfl,(Zb (BK4.out) 5).trans rfl⟩ (fun hHeld=> ?_)
          clear hK K
          refine norm_ (a':= ?_) ?_ ?_
          rotate_left
          ·show Act.put _ (some 67) _=_
           simp only[Act.put,Zm,Zn,Zo,i64_w,i32_w]
           rfl
          refine one_ (i:=12) (N:=some 68) #[true,true,true,true,true,true,true,true,true,true,true,true,true,false,false,false,false] rfl rfl (by kernel_rfl) (by decide) (fun K hK=> ?_)
          refine value_ (w1:= ?_) (v:= ?_) (by rfl) rfl ?_ ?_
          rotate_left 2
          ·go_simp
           constructor
           ·rfl
           ·rfl
          refine hK _ _ ⟨(Zb (blk_alloc (w:=w4) BG4.out _) 0).trans rfl,(Zb (blk_alloc (w:=w4) BG4.out _) 1).trans rfl,(Zb (blk_alloc (w:=w4) BK4.out _) 3).trans rfl,(Zb (blk_alloc (w:=w4) BK4.out _) 4).trans rfl,(Zb (blk_alloc (w:=w4) BK4.out _) 5).trans rfl⟩ (fun hHeld=> ?_)
          clear hK K
          refine norm_ (a':= ?_) ?_ ?_
          rotate_left
          ·show Act.put _ (some 68) _=_
           simp only[Act.put,Zm,Zn,Zo,i64_w,i32_w]
           rfl
          refine one_ (i:=13) (N:=some 69) #[true,true,true,true,true,true,true,true,true,true,true,true,true,true,false,false,false] rfl rfl (by kernel_rfl) (by decide) (fun K hK=> ?_)
          refine Kd.R_append_step (w0:=w4) (Kd.int .i64) 0 (by rfl) (.tmp 60) (.tmp 68) 25 3 (.int .i64 0) 8 rfl Try.underlying25 info3 rfl (by decide) (by decide) (.slice B1 s.length d1) s y [.int .i64 y] (fun _=>True) (fun _=>False) rfl rfl rfl (fun _ hk=>hk.elim) (fun _ _=>trivial) (R14.out.to_R (fun _ _=>Nat.zero_le _) (fun _ _=>trivial)) (Ya _ _) (Nat.zero_le _) (by have:=HL.out;omega) ?_
          intro v3 w5 ho5 hb5 hg5 hat5
          obtain⟨B5,d5,e5⟩:=Kd.R_slice ho5
          rw[List.length_append,List.length_singleton] at e5
          subst e5
          have R5:=Za (Sep.rowI.of_R ho5)
          have HG5:=Za hg5
          have HA5:=Za hat5
          have BG5:=Za (blk_grown BG4.out hg5 (fun h=>R1.out.ne BG.out (by decide) g h.symm rfl))
          have BK5:=Za (blk_grown BK4.out hg5 (fun h=>R1.out.ne BK3.out (by decide) gb h.symm rfl))
          clear ho5 hb5 hg5 hat5
          refine hK _ _ ⟨(Zb (BG5.out) 0).trans rfl,(Zb (BG5.out) 1).trans rfl,(Zb (BK5.out) 3).trans rfl,(Zb (BK5.out) 4).trans rfl,(Zb (BK5.out) 5).trans rfl⟩ (fun hHeld=> ?_)
          clear hK K
          refine norm_ (a':= ?_) ?_ ?_
          rotate_left
          ·show Act.put _ (some 69) _=_
           simp only[Act.put,Zm,Zn,Zo,i64_w,i32_w]
           rfl
          refine pure_ (i:=14) (N:=some 70) (v:= ?_) (a':= ?_) #[true,true,true,true,true,true,true,true,true,true,true,true,true,true,true,false,false] rfl rfl (by kernel_rfl) (fun _ _ _ h=>h) (Or.inl ⟨by rfl,?_⟩) ?_ ?_
          rotate_left
          ·intro w'
           go_simp
           with_reducible rfl
          rotate_left
          ·simp only[Act.put,Zm,Zn,Zo,i64_w,i32_w]
           rfl
          refine pure_ (i:=15) (N:=some 71) (v:= ?_) (a':= ?_) #[true,true,true,true,true,true,true,true,true,true,true,true,true,true,true,true,false] rfl rfl (by kernel_rfl) (fun _ _ _ h=>h) (Or.inl ⟨by rfl,?_⟩) ?_ ?_
          rotate_left
          ·intro w'
           go_simp
           with_reducible rfl
          rotate_left
          ·simp only[Act.put,Zm,Zn,Zo,i64_w,i32_w]
           rfl
          refine last_ (i:=16) (N:=none) #[true,true,true,true,true,true,true,true,true,true,true,true,true,true,true,true,true] rfl rfl (by kernel_rfl) (by decide) (fun K hK=> ?_)
          have hG1:w5.cell? ⟨g,1,none⟩=some (.slice B1 s.length d1):=(Zb BG5.out 1).trans rfl
          have hfG:=Zc BG5.out 1
          refine skip_ (w1:= ?_) (by rfl) rfl ?_ ?_
          rotate_left
          ·go_simp
           rfl
          refine hK _ _ ?_
          clear hK K
          refine done_ (by kernel_rfl) ?_
          go_wp2
          have HP:=runP_send (w:=w4) (w5:=w5) (w6:=w5.setCell ⟨g,1,none⟩ (.slice B5 (s.length+1) d5)) BG4.out (blk_put BG5.out 1 _ rfl) (R0.out.below HB4.out) R14.out (R2.out.below HB4.out) R5.out DJ.out HF.out (runP_old (runP_below HI3.out HB4.out)) HG5.out HA5.out (fun k hk=>Below.heap_setCell w5 ⟨g,1,none⟩ _ k hk) ⟨rfl,rfl,rfl,by simp[World.setCell]⟩
          obtain⟨F5,hI5,hA5⟩:=HP
          go_roundg k1
          case measure=>have:=HK1.out;omega
          case rel=>exact⟨wrap64 (i+1),(v,s++[y],u),F5,by first|rfl|(simp;done)|(simp[*];done),H',⟨by have:=HK1.out;omega⟩,⟨hI5⟩,⟨(HA3.out.below HB4.out).trans hA5⟩⟩
         ·rw[if_neg cb] at E2
          cases E2
        ·simp only[execStep] at A1
         rw[if_neg k1_,if_neg k2_,if_neg k3_] at A1
         cases A1
         have d1:(x0==1)=false:=beq_eq_false_iff_ne.mpr k1_
         have d2:(x0==2)=false:=beq_eq_false_iff_ne.mpr k2_
         have d3:(x0==3)=false:=beq_eq_false_iff_ne.mpr k3_
         have d4:(x0==4)=false:=beq_eq_false_iff_ne.mpr (fun h=>c45 (.inl h))
         have d5:(x0==5)=false:=beq_eq_false_iff_ne.mpr (fun h=>c45 (.inr h))
         clear c45 k1_ k2_ k3_
         go_wp2_with (first|((with_reducible refine Zp (N:=9) rfl ?_);refine Zr ?hg (N:=9) ?hd (cs:= #[.int .i64 0,.int .i64 0,.int .i64 0,.int .i64 0,.int .i64 0,.int .i64 0]) (t:=80) ?hr ?_;(case hd=>rfl);(case hg=>rfl);(case hr=>exact z7_2);intro gb hg w2 hbox hb;have HB:=Za hb;have BK:=Za hbox;have GE:Aside0 (wr.heap.size≤gb):=⟨Nat.le_of_eq hg.symm⟩;obtain⟨⟨_,_,_,_,_,_⟩,⟨_,_,_,_,_,_⟩⟩:=Sep.blk6 hbox;clear hb hbox hg)|((with_reducible refine Yh (t:=80) (p:=9) rfl ?_);refine Yg (t:=80) (p:=9) (v:= ?vo_) (w1:=Sep.put6 w2 gb (.int .i64 x0) (.int .i64 x1) (.int .i64 x2) (.int .i64 x3) (.int .i64 x4) (.int .i64 x5)) ?hg ?ho ?hn ?hr ?_;(case hg=>rfl);(case ho=>rfl);(case hn=>rfl);(case hr=>exact z7_2);intro w3 hw;have BK3:=Za (hw ▸ Sep.put6_blk BK.out (.int .i64 x0) (.int .i64 x1) (.int .i64 x2) (.int .i64 x3) (.int .i64 x4) (.int .i64 x5));have HB3:=Za (hw ▸ Sep.put6_below HB.out GE.out (.int .i64 x0) (.int .i64 x1) (.int .i64 x2) (.int .i64 x3) (.int .i64 x4) (.int .i64 x5));clear hw BK HB;obtain⟨⟨_,_,_,_,_,_⟩,⟨_,_,_,_,_,_⟩⟩:=Sep.blk6 BK3.out)|fail)
         go_roundg k1
         case measure=>have:=HK1.out;omega
         case rel=>exact⟨wrap64 (i+1),(v,s,u),F',by first|rfl|(simp;done)|(simp[*];done),H',⟨by have:=HK1.out;omega⟩,⟨runP_below HI.out HB3.out⟩,⟨HAF.out.below HB3.out⟩⟩
    ·rw[if_neg c2] at H
     exact absurd H (by simp)
   ·rw[if_neg c1] at H
    have c1b:decide (i<b)=false:=Yc c1
    obtain rfl:=Zj H
    clear H c1
    go_wp2
    go_end0
    exact⟨rfl,F',HI.out,HAF.out⟩
abbrev putS (w:World) (g:Nat) (v0 v1 v2 v3 v4 v5 v6:Value):World:=
 ((((((w.setCell ⟨g,0,none⟩ v0).setCell ⟨g,1,none⟩ v1).setCell ⟨g,2,none⟩ v2).setCell ⟨g,3,none⟩ v3).setCell ⟨g,4,none⟩ v4).setCell ⟨g,5,none⟩ v5).setCell ⟨g,6,none⟩ v6
theorem putS_blk {w:World} {g:Nat} {t:TypeId} {u0 u1 u2 u3 u4 u5 u6:Value} (h:w.heap[g]? =some (.cells #[u0,u1,u2,u3,u4,u5,u6] t (0,0))) (v0 v1 v2 v3 v4 v5 v6:Value):
  (putS w g v0 v1 v2 v3 v4 v5 v6).heap[g]? =some (.cells #[v0,v1,v2,v3,v4,v5,v6] t (0,0)):=by
 refine blk_put (cs:= #[v0,v1,v2,v3,v4,v5,u6]) ?_ 6 _ rfl
 refine blk_put (cs:= #[v0,v1,v2,v3,v4,u5,u6]) ?_ 5 _ rfl
 refine blk_put (cs:= #[v0,v1,v2,v3,u4,u5,u6]) ?_ 4 _ rfl
 refine blk_put (cs:= #[v0,v1,v2,u3,u4,u5,u6]) ?_ 3 _ rfl
 refine blk_put (cs:= #[v0,v1,u2,u3,u4,u5,u6]) ?_ 2 _ rfl
 refine blk_put (cs:= #[v0,u1,u2,u3,u4,u5,u6]) ?_ 1 _ rfl
 exact blk_put (cs:= #[u0,u1,u2,u3,u4,u5,u6]) h 0 _ rfl
theorem putS_below {w0 w:World} {g:Nat} (h:Below w0.heap.size w0 w) (hg:w0.heap.size≤g) (v0 v1 v2 v3 v4 v5 v6:Value):Below w0.heap.size w0 (putS w g v0 v1 v2 v3 v4 v5 v6):=
 Zf (Zf (Zf (Zf (Zf (Zf (Zf h hg) hg) hg) hg) hg) hg) hg
theorem putS_far {w:World} {g k:Nat} (h:k≠g) (v0 v1 v2 v3 v4 v5 v6:Value):(putS w g v0 v1 v2 v3 v4 v5 v6).heap[k]? =w.heap[k]? :=by
 unfold putS
 rw[Below.heap_setCell _ _ _ k h,Below.heap_setCell _ _ _ k h,Below.heap_setCell _ _ _ k h,Below.heap_setCell _ _ _ k h,Below.heap_setCell _ _ _ k h,Below.heap_setCell _ _ _ k h,Below.heap_setCell _ _ _ k h]
def spec_SensesOf.run (k:Nat) (l0:List S64) (a1:Int) (l2 l3:List Int) (a4:Int):Option (List Int):=
 if l2.length<17592186044416∧0≤a1∧a1<(l0.length:Int) then (spec_l12Exec.f [] l3 a4 true k (rd_T64 l0 a1).f0 0 ((rd_T64 l0 a1).f0.length:Int) (l2,[],[])).bind fun r=>if r.2.2.length<17592186044416 then some r.2.2 else none else none
def spec_SensesOf.f (k:Nat) (l0:List S64) (a1:Int) (l2 l3:List Int) (a4:Int):Option (List Int):=
 (spec_ProgramOk.f k l0).bind fun t=>if t=true then (spec_VarsOk.f k l2).bind fun t=>if t=true then (spec_l01In.f a1 0 (wrap64 ((l0.length:Int) - 1))).bind fun t=>if t=true then (spec_l01In.f a4 0 1000000).bind fun t=>if t=true then (spec_l09Values.f k l3).bind fun t=>if t=true then spec_SensesOf.run k l0 a1 l2 l3 a4
  else some [] else some [] else some [] else some [] else some []
set_option maxHeartbeats 8000000 in
set_option maxRecDepth 100000 in
theorem spec_SensesOf.no (k:Nat) (A0:Option Addr) (c0:Nat) (l0:List S64) (a1:Int) (A2:Option Addr) (c2:Nat) (l2:List Int) (A3:Option Addr) (c3:Nat) (l3:List Int) (a4:Int) (b1 b2 b3 b4 b5:Bool) (w:World)
  (hr0:Kd.C k64 w A0 l0.length l0) (hc0:l0.length≤c0) (hr2:Kd.C (Kd.int .i64) w A2 l2.length l2) (hc2:l2.length≤c2) (hr3:Kd.C (Kd.int .i64) w A3 l3.length l3) (hc3:l3.length≤c3)
  (h1:spec_ProgramOk.f k l0=some b1) (h2:b1=true→spec_VarsOk.f k l2=some b2) (h3:b1=true→b2=true→spec_l01In.f a1 0 (wrap64 ((l0.length:Int) - 1))=some b3) (h4:b1=true→b2=true→b3=true→spec_l01In.f a4 0 1000000=some b4) (h5:b1=true→b2=true→b3=true→b4=true→spec_l09Values.f k l3=some b5) (hn:(b1&&b2&&b3&&b4&&b5)=false):
  Calls Try.prog 17 #[.agg #[.slice A0 l0.length c0],.int .i64 a1,.slice A2 l2.length c2,.slice A3 l3.length c3,.int .i64 a4] w fun e w'=>∃v0_:Value,e= .returned (v0_)∧Kd.R (Kd.int .i64) 3 w' w.heap.size (fun _=>True) v0_ []∧Below w.heap.size w w':=by
 have hu33:=Try.underlying33
 have HR0:=Za hr0
 have HC0:=Za hc0
 have HR2:=Za hr2
 have HC2:=Za hc2
 have HR3:=Za hr3
 have HC3:=Za hc3
 have T1:=Za h1
 have T2:=Za h2
 have T3:=Za h3
 have T4:=Za h4
 have T5:=Za h5
 have H0:=Za (Ya w.heap.size w)
 clear hr0 hc0 hr2 hc2 hr3 hc3 h1 h2 h3 h4 h5
 cases b1<;>cases b2<;>cases b3<;>cases b4<;>cases b5<;>first|exact absurd hn (by decide)|skip
 all_goals
  clear hn
  go_enter Try.func17,Try.ntmps17
  go_wp2_with (first
   |((with_reducible refine Zp (N:=5) rfl ?_);refine Zr ?hg (N:=5) ?hd (cs:= #[.slice A0 l0.length c0]) (t:=33) ?hr ?_;(case hd=>rfl);(case hg=>rfl);(case hr=>exact z7_2);intro gp hgp w1 hp hb;have HB:=Za hb;have BP:=Za hp;clear hgp hp hb H0;have hP1:w1.cell? ⟨gp,0,none⟩=some (.slice A0 l0.length c0):=(Zb BP.out 0).trans rfl)
   |((with_reducible refine Zp (N:=39) rfl ?_);refine Kd.R_lit (Kd.int .i64) _ 3 ?hg (N:=39) ?hd (xs:=([]:List Int)) (inner:=[]) (ok:=fun _=>True) (okp:=fun _=>True) ?hr ?hp (fun _ hk=>hk) trivial (Ya _ _) (Nat.le_refl _) (by simp) ?_;(case hd=>rfl);(case hg=>rfl);(case hr=>exact z7_2);(case hp=>exact(Reps.none _ _));intro v39 w9 ho hb hg_ hnew_;have HO:=Za (Kd.R_lower ho HB.out.size);have n0_:=Za (Zi HB.out hb);clear HB;have HB:=n0_;clear n0_ ho hb hg_ hnew_)
   |(go_at_call 21;(with_reducible refine(spec_ProgramOk.calls k _ _ l0 _ _ ?_ HC0.out T1.out).mono ?_);(exact Yb HR0.out HB.out);rintro e w2 ⟨rfl,hb⟩;have n0_:=Za (Zi HB.out hb);have n1_:=Za (Zk BP.out hb);clear HB BP;have HB:=n0_;have BP:=n1_;clear n0_ n1_ hb;have hP2:w2.cell? ⟨gp,0,none⟩=some (.slice A0 l0.length c0):=(Zb BP.out 0).trans rfl)
   |(go_at_call 22;(with_reducible refine(spec_VarsOk.calls k _ _ l2 _ _ ?_ HC2.out (T2.out (by simp))).mono ?_);(exact Yb HR2.out HB.out);rintro e w3 ⟨rfl,hb⟩;have n0_:=Za (Zi HB.out hb.below);have n1_:=Za (Zk BP.out hb.below);clear HB BP;have HB:=n0_;have BP:=n1_;clear n0_ n1_ hb;have hP3:w3.cell? ⟨gp,0,none⟩=some (.slice A0 l0.length c0):=(Zb BP.out 0).trans rfl)
   |(go_at_call 23;(with_reducible refine(spec_l01In.calls a1 0 _ _ _ (T3.out (by simp) (by simp))).mono ?_);rintro e w4 ⟨rfl,hb⟩;have n0_:=Za (Zi HB.out hb.below);have n1_:=Za (Zk BP.out hb.below);clear HB BP;have HB:=n0_;have BP:=n1_;clear n0_ n1_ hb;have hP4:w4.cell? ⟨gp,0,none⟩=some (.slice A0 l0.length c0):=(Zb BP.out 0).trans rfl)
   |(go_at_call 23;(with_reducible refine(spec_l01In.calls a4 0 _ _ _ (T4.out (by simp) (by simp) (by simp))).mono ?_);rintro e w5 ⟨rfl,hb⟩;have n0_:=Za (Zi HB.out hb.below);have n1_:=Za (Zk BP.out hb.below);clear HB BP;have HB:=n0_;have BP:=n1_;clear n0_ n1_ hb;have hP5:w5.cell? ⟨gp,0,none⟩=some (.slice A0 l0.length c0):=(Zb BP.out 0).trans rfl)
   |(go_at_call 24;(with_reducible refine(spec_l09Values.calls k _ _ l3 _ _ ?_ HC3.out (T5.out (by simp) (by simp) (by simp) (by simp))).mono ?_);(exact Yb HR3.out HB.out);rintro e w6 ⟨rfl,hb⟩;have n0_:=Za (Zi HB.out hb.below);have n1_:=Za (Zk BP.out hb.below);clear HB BP;have HB:=n0_;have BP:=n1_;clear n0_ n1_ hb;have hP6:w6.cell? ⟨gp,0,none⟩=some (.slice A0 l0.length c0):=(Zb BP.out 0).trans rfl)
   |fail)
  go_ret
  exact⟨_,rfl,HO.out,HB.out⟩
set_option maxHeartbeats 8000000 in
set_option maxRecDepth 100000 in
theorem spec_SensesOf.yes (k:Nat) (A0:Option Addr) (c0:Nat) (l0:List S64) (a1:Int) (A2:Option Addr) (c2:Nat) (l2:List Int) (A3:Option Addr) (c3:Nat) (l3:List Int) (a4:Int) (r:List Int) (w:World)
  (hr0:Kd.C k64 w A0 l0.length l0) (hc0:l0.length≤c0) (hr2:Kd.C (Kd.int .i64) w A2 l2.length l2) (hc2:l2.length≤c2) (hr3:Kd.C (Kd.int .i64) w A3 l3.length l3) (hc3:l3.length≤c3)
  (h1:spec_ProgramOk.f k l0=some true) (h2:spec_VarsOk.f k l2=some true) (h3:spec_l01In.f a1 0 (wrap64 ((l0.length:Int) - 1))=some true) (h4:spec_l01In.f a4 0 1000000=some true) (h5:spec_l09Values.f k l3=some true) (h:spec_SensesOf.run k l0 a1 l2 l3 a4=some r):
  Calls Try.prog 17 #[.agg #[.slice A0 l0.length c0],.int .i64 a1,.slice A2 l2.length c2,.slice A3 l3.length c3,.int .i64 a4] w fun e w'=>∃v0_:Value,e= .returned (v0_)∧Kd.R (Kd.int .i64) 3 w' w.heap.size (fun _=>True) v0_ r∧Below w.heap.size w w':=by
 unfold spec_SensesOf.run at h
 by_cases ca:l2.length<17592186044416∧0≤a1∧a1<(l0.length:Int)
 ·rw[if_pos ca] at h
  obtain⟨⟨s1,s2,s3⟩,h6,h7⟩:=Zl h
  simp only at h7
  by_cases cb:s3.length<17592186044416
  ·rw[if_pos cb] at h7
   obtain rfl:=Zj h7
   have hu33:=Try.underlying33
   have hu57:=Try.underlying57
   have hu64:=Try.underlying64
   have HR0:=Za hr0
   have HC0:=Za hc0
   have HR2:=Za hr2
   have HC2:=Za hc2
   have HR3:=Za hr3
   have HC3:=Za hc3
   have T1:=Za h1
   have T2:=Za h2
   have T3:=Za h3
   have T4:=Za h4
   have T5:=Za h5
   have T6:=Za h6
   have CB:=Za cb
   have LW:Aside0 (w.heap.size≤w.heap.size):=⟨Nat.le_refl _⟩
   obtain⟨ad,A1,c1,e,hx0,hx1,hx2,hx3,hl1,hi1⟩:=at_T64 hr0 a1 ca.2.1 ca.2.2
   cases e
   obtain⟨tb,htb⟩:∃tb,(rd_T64 l0 a1).f0=tb:=⟨_,rfl⟩
   rw[htb] at hx0 hl1 hi1 T6
   have HX0:=Za hx0
   have HL1:=Za hl1
   have HI1:=Za hi1
   have p1:=eq_true ca.2.1
   have q1:=eq_true ca.2.2
   obtain⟨y0,hy0⟩:∃y_:List Int,y_=([]:List Int):=⟨_,rfl⟩
   obtain⟨y1,hy1⟩:∃y_:List Int,y_=y0++l2:=⟨_,rfl⟩
   have e1:y1=l2:=by rw[hy1,hy0,List.nil_append]
   obtain⟨y2,hy2⟩:∃y_:List Int,y_=y0++s3:=⟨_,rfl⟩
   have e2:y2=s3:=by rw[hy2,hy0,List.nil_append]
   have LM:=Za (show y0.length+l2.length<17592186044416 by rw[hy0];simpa using ca.1)
   have LN:=Za (show y0.length+s3.length<17592186044416 by rw[hy0];simpa using cb)
   have N0:=Za hy0
   have N1:=Za hy1
   have E1:=Za e1
   have N2:=Za hy2
   have E2:=Za e2
   clear hr0 hc0 hr2 hc2 hr3 hc3 h1 h2 h3 h4 h5 h6 h h7 cb hx0 hx1 hx2 hx3 hl1 hi1 ca hy0 hy1 e1 hy2 e2 htb
   go_enter Try.func17,Try.ntmps17
   go_wp2_with (first
    |((with_reducible refine Zp (N:=5) rfl ?_);refine Zr ?hg (N:=5) ?hd (cs:= #[.slice (some ad) l0.length c0]) (t:=33) ?hr ?_;(case hd=>rfl);(case hg=>rfl);(case hr=>exact z7_2);intro gp hgp w1 hp hb;have HB:=Za hb;have BP:=Za hp;clear hgp hp hb;have hP1:w1.cell? ⟨gp,0,none⟩=some (.slice (some ad) l0.length c0):=(Zb BP.out 0).trans rfl)
    |((with_reducible refine Zp (N:=40) rfl ?_);refine Kd.R_lit (Kd.int .i64) _ 3 ?hg (N:=40) ?hd (xs:=([]:List Int)) (inner:=[]) (ok:=fun _=>True) (okp:=fun _=>True) ?hr ?hp (fun _ hk=>hk) trivial (Ya _ _) (Nat.le_refl _) (by simp) ?_;(case hd=>rfl);(case hg=>rfl);(case hr=>exact z7_2);(case hp=>exact(Reps.none _ _));intro v10 w7 ho hb hg_ hnew_;rw[←N0.out] at ho;have HO3:=Za (Kd.R_lower ho HB.out.size);have HB3:=Za (Zi HB.out hb);have BP3:=Za (Zk BP.out hb);clear ho hb hg_ hnew_ BP)
    |((with_reducible refine gate_builtin (b:= .append) (xs:= #[.tmp 40,.tmp 41]) rfl ?_);at_builtin;refine Kd.R_append_rows (Kd.int .i64) (w0:=w) w.heap.size rfl (.tmp 40) (.tmp 41) 25 3 (.int .i64 0) 8 rfl Try.underlying25 info3 rfl (by decide) (by omega) v10 y0 l2 _ _ _ (fun _=>True) (fun _=>False) rfl rfl ?aO ?aR (fun _ _ h=>h) (fun _ h=>h.elim) ?aF ?aB ?aS ?aL ?_;(case aR=>exact Yb HR2.out HB3.out);(case aB=>exact HB3.out);(case aF=>exact(fun _ _=>trivial));(case aO=>exact HO3.out);(case aS=>exact HB3.out.size);(case aL=>have:=LM.out;omega);intro v12 w8 ho hb hg hat;rw[←N1.out,E1.out] at ho;obtain⟨Av,cv,ev⟩:=Kd.R_slice ho;subst ev;have RV4:=Za (Sep.rowI.of_R ho);have OV:Aside0 (∀k,(Value.slice Av l2.length cv).ownBlock=some k→w.heap.size≤k):=⟨fun k hk=>Yl ho k hk⟩;have HB4:=Za hb;have BP4:=Za (blk_grown BP3.out hg (fun h=>(Sep.rowI.of_R HO3.out).ne BP3.out (by decide) gp h.symm rfl));clear ho hb hg hat)
    |((with_reducible refine Zp (N:=11) rfl ?_);refine Zr ?hg (N:=11) ?hd (cs:= #[.slice none 0 0,.slice none 0 0,.slice none 0 0,.slice none 0 0,.slice none 0 0,.int .i64 0,.bool false]) (t:=57) ?hr ?_;(case hd=>rfl);(case hg=>rfl);(case hr=>exact z7_2);intro gx hgx w9 hx hb;have HB6:=Za (Zi HB4.out hb);have BP6:=Za (Zk BP4.out hb);have RV6:=Za (RV4.out.below hb);have BX6:=Za hx;have GX:Aside0 (gx=w8.heap.size):=⟨hgx⟩;clear hgx hx hb;obtain⟨⟨_,_,_,_,_,_,_⟩,⟨_,_,_⟩⟩:=blk7 BX6.out;have hf3:=Zc BX6.out 3;have hf4:=Zc BX6.out 4;have hf5:=Zc BX6.out 5;have hf6:=Zc BX6.out 6)
    |((with_reducible refine Yh (t:=57) (p:=11) rfl ?_);refine Yg (t:=57) (p:=11) (v:= ?vo1_) (w1:=putS w9 gx (.slice Av l2.length cv) (.slice none 0 0) (.slice none 0 0) (.slice none 0 0) (.slice A3 l3.length c3) (.int .i64 a4) (.bool true)) ?hg ?ho ?hn ?hr ?_;(case ho=>rfl);(case hg=>rfl);(case hn=>rfl);(case hr=>exact z7_2);intro w10 hw;have KW7:Aside0 ((∀k,k≠gx→w10.heap[k]? =w9.heap[k]?)∧w10.heap[gx]? =some (.cells #[.slice Av l2.length cv,.slice none 0 0,.slice none 0 0,.slice none 0 0,.slice A3 l3.length c3,.int .i64 a4,.bool true] 57 (0,0))∧Below w.heap.size w w10):=⟨by rw[hw];exact⟨fun k hk=>putS_far hk _ _ _ _ _ _ _,putS_blk BX6.out _ _ _ _ _ _ _,putS_below HB6.out (by rw[GX.out];exact HB4.out.size) _ _ _ _ _ _ _⟩⟩;clear hw;obtain⟨⟨_,_,_,_,_,_,_⟩,⟨_,_,_⟩⟩:=blk7 KW7.out.2.1)
    |(go_at_call 21;(with_reducible refine(spec_ProgramOk.calls k _ _ l0 _ _ ?_ HC0.out T1.out).mono ?_);(exact Yb HR0.out HB.out);rintro e w2 ⟨rfl,hb⟩;have n0_:=Za (Zi HB.out hb);have n1_:=Za (Zk BP.out hb);clear HB BP;have HB:=n0_;have BP:=n1_;clear n0_ n1_ hb;have hP2:w2.cell? ⟨gp,0,none⟩=some (.slice (some ad) l0.length c0):=(Zb BP.out 0).trans rfl)
    |(go_at_call 22;(with_reducible refine(spec_VarsOk.calls k _ _ l2 _ _ ?_ HC2.out T2.out).mono ?_);(exact Yb HR2.out HB.out);rintro e w3 ⟨rfl,hb⟩;have n0_:=Za (Zi HB.out hb.below);have n1_:=Za (Zk BP.out hb.below);clear HB BP;have HB:=n0_;have BP:=n1_;clear n0_ n1_ hb;have hP3:w3.cell? ⟨gp,0,none⟩=some (.slice (some ad) l0.length c0):=(Zb BP.out 0).trans rfl)
    |(go_at_call 23;(with_reducible refine(spec_l01In.calls a1 0 _ _ _ T3.out).mono ?_);rintro e w4 ⟨rfl,hb⟩;have n0_:=Za (Zi HB.out hb.below);have n1_:=Za (Zk BP.out hb.below);clear HB BP;have HB:=n0_;have BP:=n1_;clear n0_ n1_ hb;have hP4:w4.cell? ⟨gp,0,none⟩=some (.slice (some ad) l0.length c0):=(Zb BP.out 0).trans rfl)
    |(go_at_call 23;(with_reducible refine(spec_l01In.calls a4 0 _ _ _ T4.out).mono ?_);rintro e w5 ⟨rfl,hb⟩;have n0_:=Za (Zi HB.out hb.below);have n1_:=Za (Zk BP.out hb.below);clear HB BP;have HB:=n0_;have BP:=n1_;clear n0_ n1_ hb;have hP5:w5.cell? ⟨gp,0,none⟩=some (.slice (some ad) l0.length c0):=(Zb BP.out 0).trans rfl)
    |(go_at_call 24;(with_reducible refine(spec_l09Values.calls k _ _ l3 _ _ ?_ HC3.out T5.out).mono ?_);(exact Yb HR3.out HB.out);rintro e w6 ⟨rfl,hb⟩;have n0_:=Za (Zi HB.out hb.below);have n1_:=Za (Zk BP.out hb.below);clear HB BP;have HB:=n0_;have BP:=n1_;clear n0_ n1_ hb;have hP6:w6.cell? ⟨gp,0,none⟩=some (.slice (some ad) l0.length c0):=(Zb BP.out 0).trans rfl)
    |fail)
   have HB7:=Za KW7.out.2.2
   have NX:Aside0 (gp≠gx):=⟨by have:=blk_lt BP4.out;have:=GX.out;omega⟩
   have BP7:=Za ((KW7.out.1 gp NX.out).trans BP6.out)
   have RV7:=Za (RV6.out.keep (fun k hk=>KW7.out.1 k (RV6.out.ne BX6.out (by decide) k hk)))
   obtain⟨F7,hF7⟩:∃F7:Nat→Prop,∀k,F7 k↔k=gx∨(Value.slice Av l2.length cv).ownBlock=some k∨(Value.slice none 0 0).ownBlock=some k∨(Value.slice none 0 0).ownBlock=some k:=⟨_,fun k=>Iff.rfl⟩
   have GXW:Aside0 (w.heap.size≤gx):=⟨by rw[GX.out];exact HB4.out.size⟩
   have I7:Aside0 (runP w none 0 0 A3 l3.length c3 a4 true gx l2 [] [] F7 w10):=⟨⟨_,_,_,KW7.out.2.1,RV7.out,Sep.rowI.of_R (Kd.R_nil _ _ _ 0 (fun _=>True)),Sep.rowI.of_R (Kd.R_nil _ _ _ 0 (fun _=>True)),⟨fun k hk=>⟨fun h=>by simp[Value.ownBlock] at h,fun h=>by simp[Value.ownBlock] at h⟩,fun k _ h=>by simp[Value.ownBlock] at h,GXW.out,OV.out,fun k h=>by simp[Value.ownBlock] at h,fun k h=>by simp[Value.ownBlock] at h⟩,hF7,fun k hk=>HB7.out.block k hk⟩⟩
   have SF7:Aside0 (∀k,F7 k→w.heap.size≤k):=⟨fun k h=>by
    rcases (hF7 k).1 h with h|h|h|h
    ·rw[h];exact GXW.out
    ·exact OV.out k h
    ·simp[Value.ownBlock] at h
    ·simp[Value.ownBlock] at h⟩
   have NF7:Aside0 (¬F7 gp):=⟨fun h=>by
    rcases (hF7 gp).1 h with h|h|h|h
    ·exact NX.out h
    ·exact RV7.out.ne BP7.out (by decide) gp h rfl
    ·simp[Value.ownBlock] at h
    ·simp[Value.ownBlock] at h⟩
   clear hF7
   have hP10:w10.cell? ⟨gp,0,none⟩=some (.slice (some ad) l0.length c0):=(Zb BP7.out 0).trans rfl
   have hE10:w10.cell? (ad.add (a1.toNat*4))=some (.slice A1 tb.length c1):=(HB7.out.cell (Zg w _ HX0.out)).trans HX0.out
   go_region_held3 (fun w'=>w'.cell? ⟨gp,0,none⟩=some (.slice (some ad) l0.length c0)∧w'.cell? (ad.add (a1.toNat*4))=some (.slice A1 tb.length c1)) (go_keep)
    ((go_at_call 35;refine(spec_l12Exec.calls w none 0 [] A3 c3 l3 a4 true gx (Kd.C_nil _ _) (Nat.le_refl _) HR3.out HC3.out A1 c1 tb HI1.out HL1.out k 0 _ (l2,[],[]) (s1,s2,s3) F7 _ ?_ T6.out).mono ?_;(exact runP_below I7.out z7_1);rintro e w11 ⟨rfl,F8,hI8,hA8⟩;have HA8:=Za ((Sep.After.of_below (F:=F7) (z7_1:Below w10.heap.size w10 _)).trans hA8);have HI8:=Za hI8;have HB8:=Za (HA8.out.to_below SF7.out HB7.out);have BP8:=Za (HA8.out.blk BP7.out NF7.out);have hP11:w11.cell? ⟨gp,0,none⟩=some (.slice (some ad) l0.length c0):=(Zb BP8.out 0).trans rfl;have hE11:w11.cell? (ad.add (a1.toNat*4))=some (.slice A1 tb.length c1):=(HB8.out.cell (Zg w _ HX0.out)).trans HX0.out;clear hI8 hA8))
   obtain⟨v0,v1,v2,j1,j2,j3,j4,j5,jF,j6⟩:=HI8.out
   obtain⟨B2,d2,e2,hd2,hC2_⟩:=j4.open_
   subst e2
   have BX8:=Za j1
   have R2:=Za j4
   have HV:=Za hC2_
   clear j1 j2 j3 j4 j5 jF j6 hd2 hC2_
   obtain⟨⟨_,_,_,_,_,_,_⟩,⟨_,_,_⟩⟩:=blk7 BX8.out
   go_wp2_with (first
    |((with_reducible refine Zp (N:=60) rfl ?_);refine Kd.R_lit (Kd.int .i64) _ 3 ?hg (N:=60) ?hd (xs:=([]:List Int)) (inner:=[]) (ok:=fun _=>True) (okp:=fun _=>True) ?hr ?hp (fun _ hk=>hk) trivial (Ya _ _) (Nat.le_refl _) (by simp) ?_;(case hd=>rfl);(case hg=>rfl);(case hr=>exact z7_2);(case hp=>exact(Reps.none _ _));intro v60 w12 ho hb hg_ hnew_;rw[←N0.out] at ho;have HO12:=Za (Kd.R_lower ho HB8.out.size);have HB12:=Za (Zi HB8.out hb);have BX12:=Za (Zk BX8.out hb);have HV12:=Za (Yb HV.out hb);clear ho hb hg_ hnew_;obtain⟨⟨_,_,_,_,_,_,_⟩,⟨_,_,_⟩⟩:=blk7 BX12.out)
    |((with_reducible refine gate_builtin (b:= .append) (xs:= #[.tmp 60,.tmp 62]) rfl ?_);at_builtin;refine Kd.R_append_rows (Kd.int .i64) (w0:=w) w.heap.size rfl (.tmp 60) (.tmp 62) 25 3 (.int .i64 0) 8 rfl Try.underlying25 info3 rfl (by decide) (by omega) v60 y0 s3 _ _ _ (fun _=>True) (fun _=>False) rfl rfl ?aO ?aR (fun _ _ h=>h) (fun _ h=>h.elim) ?aF ?aB ?aS ?aL ?_;(case aR=>exact HV12.out);(case aB=>exact HB12.out);(case aF=>exact(fun _ _=>trivial));(case aO=>exact HO12.out);(case aS=>exact HB12.out.size);(case aL=>have:=LN.out;omega);intro v63 w13 ho hb hg hat;rw[←N2.out,E2.out] at ho;have HO13:=Za ho;have HB13:=Za hb;clear ho hb hg hat)
    |fail)
   go_ret
   exact⟨_,rfl,HO13.out,HB13.out⟩
  ·rw[if_neg cb] at h7
   cases h7
 ·rw[if_neg ca] at h
  cases h
set_option maxHeartbeats 8000000 in
set_option maxRecDepth 100000 in
theorem spec_SensesOf.calls (k:Nat) (A0:Option Addr) (c0:Nat) (l0:List S64) (a1:Int) (A2:Option Addr) (c2:Nat) (l2:List Int) (A3:Option Addr) (c3:Nat) (l3:List Int) (a4:Int) (r:List Int) (w:World)
  (hr0:Kd.C k64 w A0 l0.length l0) (hc0:l0.length≤c0) (hr2:Kd.C (Kd.int .i64) w A2 l2.length l2) (hc2:l2.length≤c2) (hr3:Kd.C (Kd.int .i64) w A3 l3.length l3) (hc3:l3.length≤c3) (h:spec_SensesOf.f k l0 a1 l2 l3 a4=some r):
  Calls Try.prog 17 #[.agg #[.slice A0 l0.length c0],.int .i64 a1,.slice A2 l2.length c2,.slice A3 l3.length c3,.int .i64 a4] w fun e w'=>∃v0_:Value,e= .returned (v0_)∧Kd.R (Kd.int .i64) 3 w' w.heap.size (fun _=>True) v0_ r∧Below w.heap.size w w':=by
 have no:∀(b1 b2 b3 b4 b5:Bool),spec_ProgramOk.f k l0=some b1→(b1=true→spec_VarsOk.f k l2=some b2)→(b1=true→b2=true→spec_l01In.f a1 0 (wrap64 ((l0.length:Int) - 1))=some b3)→(b1=true→b2=true→b3=true→spec_l01In.f a4 0 1000000=some b4)→(b1=true→b2=true→b3=true→b4=true→spec_l09Values.f k l3=some b5)→(b1&&b2&&b3&&b4&&b5)=false→some ([]:List Int)=some r→
   Calls Try.prog 17 #[.agg #[.slice A0 l0.length c0],.int .i64 a1,.slice A2 l2.length c2,.slice A3 l3.length c3,.int .i64 a4] w fun e w'=>∃v0_:Value,e= .returned (v0_)∧Kd.R (Kd.int .i64) 3 w' w.heap.size (fun _=>True) v0_ r∧Below w.heap.size w w':=fun b1 b2 b3 b4 b5 h1 h2 h3 h4 h5 hn e=>by
  obtain rfl:=Zj e
  exact spec_SensesOf.no k A0 c0 l0 a1 A2 c2 l2 A3 c3 l3 a4 b1 b2 b3 b4 b5 w hr0 hc0 hr2 hc2 hr3 hc3 h1 h2 h3 h4 h5 hn
 unfold spec_SensesOf.f at h
 obtain⟨t1,h1,h⟩:=Zl h
 cases t1 with
 |false=>exact no false false false false false h1 (by simp) (by simp) (by simp) (by simp) rfl h
 |true=>
  rw[if_pos rfl] at h
  obtain⟨t2,h2,h⟩:=Zl h
  cases t2 with
  |false=>exact no true false false false false h1 (fun _=>h2) (by simp) (by simp) (by simp) rfl h
  |true=>
   rw[if_pos rfl] at h
   obtain⟨t3,h3,h⟩:=Zl h
   cases t3 with
   |false=>exact no true true false false false h1 (fun _=>h2) (fun _ _=>h3) (by simp) (by simp) rfl h
   |true=>
    rw[if_pos rfl] at h
    obtain⟨t4,h4,h⟩:=Zl h
    cases t4 with
    |false=>exact no true true true false false h1 (fun _=>h2) (fun _ _=>h3) (fun _ _ _=>h4) (by simp) rfl h
    |true=>
     rw[if_pos rfl] at h
     obtain⟨t5,h5,h⟩:=Zl h
     cases t5 with
     |false=>exact no true true true true false h1 (fun _=>h2) (fun _ _=>h3) (fun _ _ _=>h4) (fun _ _ _ _=>h5) rfl h
     |true=>
      rw[if_pos rfl] at h
      exact spec_SensesOf.yes k A0 c0 l0 a1 A2 c2 l2 A3 c3 l3 a4 r w hr0 hc0 hr2 hc2 hr3 hc3 h1 h2 h3 h4 h5 h
def impl_within.f (a0:Int) (a1:Int) (a2:Int):Option (Bool):=if a0≥a1 then (some (decide (a0≤a2))) else (some false)
set_option maxHeartbeats 8000000 in
set_option maxRecDepth 100000 in
theorem impl_within.calls (a0:Int) (a1:Int) (a2:Int) (r:Bool) (w:World) (h:impl_within.f a0 a1 a2=some r):
  Calls Try.prog 46 #[.int .i64 a0,.int .i64 a1,.int .i64 a2] w fun e w'=>e= .returned (.bool r)∧Drawn0 w w':=by
 have H:(if a0≥a1 then (some (decide (a0≤a2))) else (some false))=some r:=h
 clear h
 by_cases c4:a0≥a1
 ·rw[if_pos c4] at H
  have c4b0:decide (a1≤a0)=true:=Zt c4
  clear c4
  obtain rfl:=Zj H
  go_enter Try.func46,Try.ntmps46
  go_wp2
  go_ret
  exact⟨by first|rfl|(simp;done)|(simp[*];done),by repeat(first|exact Zu _|apply Zv)⟩
 ·rw[if_neg c4] at H
  have c4b0:decide (a1≤a0)=false:=Yc c4
  clear c4
  obtain rfl:=Zj H
  go_enter Try.func46,Try.ntmps46
  go_wp2
  go_ret
  exact⟨by first|rfl|(simp;done)|(simp[*];done),by repeat(first|exact Zu _|apply Zv)⟩
-- NOT PRINTED: function 90 (impl_Task_90)
-- NOT PRINTED: function 68 (impl_Task_68)
def impl_OperandOk.f (a0:Int):Option (Bool):=(impl_within.f a0 (-8) 999).bind fun t243=>(some t243)
set_option maxHeartbeats 8000000 in
set_option maxRecDepth 100000 in
theorem impl_OperandOk.calls (a0:Int) (r:Bool) (w:World) (h:impl_OperandOk.f a0=some r):
  Calls Try.prog 92 #[.int .i64 a0] w fun e w'=>e= .returned (.bool r)∧Drawn0 w w':=by
 have H:((impl_within.f a0 (-8) 999).bind fun t243=>(some t243))=some r:=h
 clear h
 replace H:=Zl H
 obtain⟨t243,A20,H⟩:=H
 replace H:(some t243)=some r:=H
 have A2:=Za A20
 clear A20
 obtain rfl:=Zj H
 go_enter Try.func92,Try.ntmps92
 go_wp2_with (first|((first|((with_reducible refine gate_callee (f:=46) rfl ?_);refine goesL_ (some 4) rfl rfl Try.func46 (by kernel_rfl) rfl #[.int .i64 a0,.int .i64 (-8),.int .i64 999] rfl z7_3 ?_;(with_reducible refine(impl_within.calls a0 (-8) 999 t243 _ A2.out).mono ?_))|(go_at_call 46;(with_reducible refine(impl_within.calls a0 (-8) 999 t243 _ A2.out).mono ?_)));rintro e w' ⟨rfl,⟨nd,rfl⟩⟩;(first|refine⟨_,rfl,?_⟩|skip)))
 go_ret
 exact⟨by first|rfl|(simp;done)|(simp[*];done),by repeat(first|exact Zu _|apply Zv)⟩
def impl_ExprOk.f (a0_0:Int) (a0_1:Int) (a0_2:Int):Option (Bool):=(impl_within.f a0_0 1 7).bind fun t245=>(if t245=true then ((impl_OperandOk.f a0_1).bind fun t246=>(if t246=true then ((impl_OperandOk.f a0_2).bind fun t247=>(some t247)) else (some false))) else (some false))
set_option maxHeartbeats 8000000 in
set_option maxRecDepth 100000 in
theorem impl_ExprOk.calls (a0_0:Int) (a0_1:Int) (a0_2:Int) (r:Bool) (w:World) (h:impl_ExprOk.f a0_0 a0_1 a0_2=some r):
  Calls Try.prog 75 #[.agg #[.int .i64 a0_0,.int .i64 a0_1,.int .i64 a0_2]] w fun e w'=>e= .returned (.bool r)∧Below w.heap.size w w':=by
 have hu62:=Try.underlying62
 have HB:=Za (Ya w.heap.size w)
 have H:((impl_within.f a0_0 1 7).bind fun t245=>(if t245=true then ((impl_OperandOk.f a0_1).bind fun t246=>(if t246=true then ((impl_OperandOk.f a0_2).bind fun t247=>(some t247)) else (some false))) else (some false)))=some r:=h
 clear h
 replace H:=Zl H
 obtain⟨t245,A20,H⟩:=H
 replace H:(if t245=true then ((impl_OperandOk.f a0_1).bind fun t246=>(if t246=true then ((impl_OperandOk.f a0_2).bind fun t247=>(some t247)) else (some false))) else (some false))=some r:=H
 have A2:=Za A20
 clear A20
 by_cases c3:t245=true
 ·subst c3
  rw[if_pos rfl] at H
  replace H:=Zl H
  obtain⟨t246,A40,H⟩:=H
  replace H:(if t246=true then ((impl_OperandOk.f a0_2).bind fun t247=>(some t247)) else (some false))=some r:=H
  have A4:=Za A40
  clear A40
  by_cases c5:t246=true
  ·subst c5
   rw[if_pos rfl] at H
   replace H:=Zl H
   obtain⟨t247,A60,H⟩:=H
   replace H:(some t247)=some r:=H
   have A6:=Za A60
   clear A60
   obtain rfl:=Zj H
   go_enter Try.func75,Try.ntmps75
   go_wp2_with (first|((with_reducible refine Zp (N:=1) rfl ?_);refine Zr ?hg (N:=1) ?hd (cs:= #[.int .i64 a0_0,.int .i64 a0_1,.int .i64 a0_2]) (t:=62) ?hr ?_;(case hd=>rfl);(case hg=>rfl);(case hr=>exact z7_2);intro gb244 hg w7 hbox hb;have BK244:=Za (hbox);have GW244:=Za ((by rw[hg];exact(Zw z7_0):w.heap.size≤gb244));have GE244:=Za ((by rw[hg];exact(Zw z7_0):w.heap.size≤gb244));replace HB:=Za (Zi z7_0 hb);clear hb hbox hg;have hcz8_0:w7.cell? ⟨gb244,0,none⟩=some (.int .i64 a0_0):=(Zb BK244.out 0).trans rfl;have hcz8_1:w7.cell? ⟨gb244,1,none⟩=some (.int .i64 a0_1):=(Zb BK244.out 1).trans rfl;have hcz8_2:w7.cell? ⟨gb244,2,none⟩=some (.int .i64 a0_2):=(Zb BK244.out 2).trans rfl;have hfz8_0:=Zc BK244.out 0;have hfz8_1:=Zc BK244.out 1;have hfz8_2:=Zc BK244.out 2)|((first|((with_reducible refine gate_callee (f:=46) rfl ?_);refine goesL_ (some 5) rfl rfl Try.func46 (by kernel_rfl) rfl #[.int .i64 a0_0,.int .i64 1,.int .i64 7] rfl z7_3 ?_;(with_reducible refine(impl_within.calls a0_0 1 7 true _ A2.out).mono ?_))|(go_at_call 46;(with_reducible refine(impl_within.calls a0_0 1 7 true _ A2.out).mono ?_)));rintro e w' ⟨rfl,⟨nd,rfl⟩⟩;(first|refine⟨_,rfl,?_⟩|skip))|(go_at_call 92;(with_reducible refine(impl_OperandOk.calls a0_1 true _ A4.out).mono ?_);rintro e w' ⟨rfl,⟨nd,rfl⟩⟩)|(go_at_call 92;(with_reducible refine(impl_OperandOk.calls a0_2 t247 _ A6.out).mono ?_);rintro e w' ⟨rfl,⟨nd,rfl⟩⟩))
   go_ret
   exact⟨by first|rfl|(simp[errW_none,errW_some]<;>rfl)|(simp[*,errW_none,errW_some]<;>rfl)|(simp[*,errW_none,errW_some,i64_w];done),by repeat(first|(with_reducible first|exact HB.out|apply Zh|apply Ze|apply Zd|refine Zf ?_ GE244.out)|exact HB.out)⟩
  ·replace c5:=Bool.eq_false_iff.mpr c5
   subst c5
   rw[if_neg (show ¬(false=true) by decide)] at H
   obtain rfl:=Zj H
   go_enter Try.func75,Try.ntmps75
   go_wp2_with (first|((with_reducible refine Zp (N:=1) rfl ?_);refine Zr ?hg (N:=1) ?hd (cs:= #[.int .i64 a0_0,.int .i64 a0_1,.int .i64 a0_2]) (t:=62) ?hr ?_;(case hd=>rfl);(case hg=>rfl);(case hr=>exact z7_2);intro gb244 hg w9 hbox hb;have BK244:=Za (hbox);have GW244:=Za ((by rw[hg];exact(Zw z7_0):w.heap.size≤gb244));have GE244:=Za ((by rw[hg];exact(Zw z7_0):w.heap.size≤gb244));replace HB:=Za (Zi z7_0 hb);clear hb hbox hg;have hcz10_0:w9.cell? ⟨gb244,0,none⟩=some (.int .i64 a0_0):=(Zb BK244.out 0).trans rfl;have hcz10_1:w9.cell? ⟨gb244,1,none⟩=some (.int .i64 a0_1):=(Zb BK244.out 1).trans rfl;have hcz10_2:w9.cell? ⟨gb244,2,none⟩=some (.int .i64 a0_2):=(Zb BK244.out 2).trans rfl;have hfz10_0:=Zc BK244.out 0;have hfz10_1:=Zc BK244.out 1;have hfz10_2:=Zc BK244.out 2)|((first|((with_reducible refine gate_callee (f:=46) rfl ?_);refine goesL_ (some 5) rfl rfl Try.func46 (by kernel_rfl) rfl #[.int .i64 a0_0,.int .i64 1,.int .i64 7] rfl z7_3 ?_;(with_reducible refine(impl_within.calls a0_0 1 7 true _ A2.out).mono ?_))|(go_at_call 46;(with_reducible refine(impl_within.calls a0_0 1 7 true _ A2.out).mono ?_)));rintro e w' ⟨rfl,⟨nd,rfl⟩⟩;(first|refine⟨_,rfl,?_⟩|skip))|(go_at_call 92;(with_reducible refine(impl_OperandOk.calls a0_1 false _ A4.out).mono ?_);rintro e w' ⟨rfl,⟨nd,rfl⟩⟩))
   go_ret
   exact⟨by first|rfl|(simp[errW_none,errW_some]<;>rfl)|(simp[*,errW_none,errW_some]<;>rfl)|(simp[*,errW_none,errW_some,i64_w];done),by repeat(first|(with_reducible first|exact HB.out|apply Zh|apply Ze|apply Zd|refine Zf ?_ GE244.out)|exact HB.out)⟩
 ·replace c3:=Bool.eq_false_iff.mpr c3
  subst c3
  rw[if_neg (show ¬(false=true) by decide)] at H
  obtain rfl:=Zj H
  go_enter Try.func75,Try.ntmps75
  go_wp2_with (first|((with_reducible refine Zp (N:=1) rfl ?_);refine Zr ?hg (N:=1) ?hd (cs:= #[.int .i64 a0_0,.int .i64 a0_1,.int .i64 a0_2]) (t:=62) ?hr ?_;(case hd=>rfl);(case hg=>rfl);(case hr=>exact z7_2);intro gb244 hg w11 hbox hb;have BK244:=Za (hbox);have GW244:=Za ((by rw[hg];exact(Zw z7_0):w.heap.size≤gb244));have GE244:=Za ((by rw[hg];exact(Zw z7_0):w.heap.size≤gb244));replace HB:=Za (Zi z7_0 hb);clear hb hbox hg;have hcz12_0:w11.cell? ⟨gb244,0,none⟩=some (.int .i64 a0_0):=(Zb BK244.out 0).trans rfl;have hcz12_1:w11.cell? ⟨gb244,1,none⟩=some (.int .i64 a0_1):=(Zb BK244.out 1).trans rfl;have hcz12_2:w11.cell? ⟨gb244,2,none⟩=some (.int .i64 a0_2):=(Zb BK244.out 2).trans rfl;have hfz12_0:=Zc BK244.out 0;have hfz12_1:=Zc BK244.out 1;have hfz12_2:=Zc BK244.out 2)|((first|((with_reducible refine gate_callee (f:=46) rfl ?_);refine goesL_ (some 5) rfl rfl Try.func46 (by kernel_rfl) rfl #[.int .i64 a0_0,.int .i64 1,.int .i64 7] rfl z7_3 ?_;(with_reducible refine(impl_within.calls a0_0 1 7 false _ A2.out).mono ?_))|(go_at_call 46;(with_reducible refine(impl_within.calls a0_0 1 7 false _ A2.out).mono ?_)));rintro e w' ⟨rfl,⟨nd,rfl⟩⟩;(first|refine⟨_,rfl,?_⟩|skip)))
  go_ret
  exact⟨by first|rfl|(simp[errW_none,errW_some]<;>rfl)|(simp[*,errW_none,errW_some]<;>rfl)|(simp[*,errW_none,errW_some,i64_w];done),by repeat(first|(with_reducible first|exact HB.out|apply Zh|apply Ze|apply Zd|refine Zf ?_ GE244.out)|exact HB.out)⟩
def impl_isOpening.f (a0:Int):Option (Bool):=if a0=4 then (some true) else (some (a0==5))
set_option maxHeartbeats 8000000 in
set_option maxRecDepth 100000 in
theorem impl_isOpening.calls (a0:Int) (r:Bool) (w:World) (h:impl_isOpening.f a0=some r):
  Calls Try.prog 72 #[.int .i64 a0] w fun e w'=>e= .returned (.bool r)∧Drawn0 w w':=by
 have H:(if a0=4 then (some true) else (some (a0==5)))=some r:=h
 clear h
 by_cases c2:a0=4
 ·rw[if_pos c2] at H
  have c2b0:(a0==4)=true:=beq_iff_eq.mpr c2
  have c2b1:(a0 != 4)=false:=bne_eq_false_iff_eq.mpr c2
  clear c2
  obtain rfl:=Zj H
  go_enter Try.func72,Try.ntmps72
  go_wp2
  go_ret
  exact⟨by first|rfl|(simp;done)|(simp[*];done),by repeat(first|exact Zu _|apply Zv)⟩
 ·rw[if_neg c2] at H
  have c2b0:(a0==4)=false:=beq_eq_false_iff_ne.mpr c2
  have c2b1:(a0 != 4)=true:=bne_iff_ne.mpr c2
  obtain rfl:=Zj H
  go_enter Try.func72,Try.ntmps72
  go_wp2
  go_ret
  exact⟨by first|rfl|(simp;done)|(simp[*];done),by repeat(first|exact Zu _|apply Zv)⟩
def impl_isSensor.f (a0:Int):Option (Bool):=(impl_within.f a0 0 3).bind fun t248=>(some t248)
set_option maxHeartbeats 8000000 in
set_option maxRecDepth 100000 in
theorem impl_isSensor.calls (a0:Int) (r:Bool) (w:World) (h:impl_isSensor.f a0=some r):
  Calls Try.prog 61 #[.int .i64 a0] w fun e w'=>e= .returned (.bool r)∧Drawn0 w w':=by
 have H:((impl_within.f a0 0 3).bind fun t248=>(some t248))=some r:=h
 clear h
 replace H:=Zl H
 obtain⟨t248,A20,H⟩:=H
 replace H:(some t248)=some r:=H
 have A2:=Za A20
 clear A20
 obtain rfl:=Zj H
 go_enter Try.func61,Try.ntmps61
 go_wp2_with (first|((first|((with_reducible refine gate_callee (f:=46) rfl ?_);refine goesL_ (some 4) rfl rfl Try.func46 (by kernel_rfl) rfl #[.int .i64 a0,.int .i64 0,.int .i64 3] rfl z7_3 ?_;(with_reducible refine(impl_within.calls a0 0 3 t248 _ A2.out).mono ?_))|(go_at_call 46;(with_reducible refine(impl_within.calls a0 0 3 t248 _ A2.out).mono ?_)));rintro e w' ⟨rfl,⟨nd,rfl⟩⟩;(first|refine⟨_,rfl,?_⟩|skip)))
 go_ret
 exact⟨by first|rfl|(simp;done)|(simp[*];done),by repeat(first|exact Zu _|apply Zv)⟩
def impl_hasVar.f (a0:Int):Option (Bool):=if a0=1 then (some true) else (some (a0==2))
set_option maxHeartbeats 8000000 in
set_option maxRecDepth 100000 in
theorem impl_hasVar.calls (a0:Int) (r:Bool) (w:World) (h:impl_hasVar.f a0=some r):
  Calls Try.prog 98 #[.int .i64 a0] w fun e w'=>e= .returned (.bool r)∧Drawn0 w w':=by
 have H:(if a0=1 then (some true) else (some (a0==2)))=some r:=h
 clear h
 by_cases c2:a0=1
 ·rw[if_pos c2] at H
  have c2b0:(a0==1)=true:=beq_iff_eq.mpr c2
  have c2b1:(a0 != 1)=false:=bne_eq_false_iff_eq.mpr c2
  clear c2
  obtain rfl:=Zj H
  go_enter Try.func98,Try.ntmps98
  go_wp2
  go_ret
  exact⟨by first|rfl|(simp;done)|(simp[*];done),by repeat(first|exact Zu _|apply Zv)⟩
 ·rw[if_neg c2] at H
  have c2b0:(a0==1)=false:=beq_eq_false_iff_ne.mpr c2
  have c2b1:(a0 != 1)=true:=bne_iff_ne.mpr c2
  obtain rfl:=Zj H
  go_enter Try.func98,Try.ntmps98
  go_wp2
  go_ret
  exact⟨by first|rfl|(simp;done)|(simp[*];done),by repeat(first|exact Zu _|apply Zv)⟩
def impl_isVar.f (a0:Int):Option (Bool):=(impl_within.f a0 0 7).bind fun t249=>(some t249)
set_option maxHeartbeats 8000000 in
set_option maxRecDepth 100000 in
theorem impl_isVar.calls (a0:Int) (r:Bool) (w:World) (h:impl_isVar.f a0=some r):
  Calls Try.prog 99 #[.int .i64 a0] w fun e w'=>e= .returned (.bool r)∧Drawn0 w w':=by
 have H:((impl_within.f a0 0 7).bind fun t249=>(some t249))=some r:=h
 clear h
 replace H:=Zl H
 obtain⟨t249,A20,H⟩:=H
 replace H:(some t249)=some r:=H
 have A2:=Za A20
 clear A20
 obtain rfl:=Zj H
 go_enter Try.func99,Try.ntmps99
 go_wp2_with (first|((first|((with_reducible refine gate_callee (f:=46) rfl ?_);refine goesL_ (some 4) rfl rfl Try.func46 (by kernel_rfl) rfl #[.int .i64 a0,.int .i64 0,.int .i64 7] rfl z7_3 ?_;(with_reducible refine(impl_within.calls a0 0 7 t249 _ A2.out).mono ?_))|(go_at_call 46;(with_reducible refine(impl_within.calls a0 0 7 t249 _ A2.out).mono ?_)));rintro e w' ⟨rfl,⟨nd,rfl⟩⟩;(first|refine⟨_,rfl,?_⟩|skip)))
 go_ret
 exact⟨by first|rfl|(simp;done)|(simp[*];done),by repeat(first|exact Zu _|apply Zv)⟩
def impl_hasExpr.f (a0:Int):Option (Bool):=if a0=1 then (some true) else (if a0=3 then (some true) else (some (a0==4)))
set_option maxHeartbeats 8000000 in
set_option maxRecDepth 100000 in
theorem impl_hasExpr.calls (a0:Int) (r:Bool) (w:World) (h:impl_hasExpr.f a0=some r):
  Calls Try.prog 100 #[.int .i64 a0] w fun e w'=>e= .returned (.bool r)∧Drawn0 w w':=by
 have H:(if a0=1 then (some true) else (if a0=3 then (some true) else (some (a0==4))))=some r:=h
 clear h
 by_cases c2:a0=1
 ·rw[if_pos c2] at H
  have c2b0:(a0==1)=true:=beq_iff_eq.mpr c2
  have c2b1:(a0 != 1)=false:=bne_eq_false_iff_eq.mpr c2
  clear c2
  obtain rfl:=Zj H
  go_enter Try.func100,Try.ntmps100
  go_wp2
  go_ret
  exact⟨by first|rfl|(simp;done)|(simp[*];done),by repeat(first|exact Zu _|apply Zv)⟩
 ·rw[if_neg c2] at H
  have c2b0:(a0==1)=false:=beq_eq_false_iff_ne.mpr c2
  have c2b1:(a0 != 1)=true:=bne_iff_ne.mpr c2
  by_cases c3:a0=3
  ·rw[if_pos c3] at H
   have c3b0:(a0==3)=true:=beq_iff_eq.mpr c3
   have c3b1:(a0 != 3)=false:=bne_eq_false_iff_eq.mpr c3
   clear c3
   obtain rfl:=Zj H
   go_enter Try.func100,Try.ntmps100
   go_wp2
   go_ret
   exact⟨by first|rfl|(simp;done)|(simp[*];done),by repeat(first|exact Zu _|apply Zv)⟩
  ·rw[if_neg c3] at H
   have c3b0:(a0==3)=false:=beq_eq_false_iff_ne.mpr c3
   have c3b1:(a0 != 3)=true:=bne_iff_ne.mpr c3
   obtain rfl:=Zj H
   go_enter Try.func100,Try.ntmps100
   go_wp2
   go_ret
   exact⟨by first|rfl|(simp;done)|(simp[*];done),by repeat(first|exact Zu _|apply Zv)⟩
end Go.Proofs.Ytlolppaddphpoaa.G
