/- Functions of the program as plain Lean functions, and that each call comes to its function's answer; written by a program of the session. No condition. -/
import Derived.Test.YtlolppaddphpoaaGx0
import Derived.Test.YtlolppaddphpoaaGx3
import Derived.Test.YtlolppaddphpoaaGx4
import Derived.Test.YtlolppaddphpoaaGx5
namespace Go.Proofs.Ytlolppaddphpoaa.G
open Go.RowKit Go.Proofs.YtlolppaddphpoaaW.PrintWords Go.Proofs.YtlolppaddphpoaaW.PrintLast Go.Proofs.YtlolppaddphpoaaW.PrintMore
attribute [local go_sem] max2_int min2_int max_two min_two max_three min_three max_four min_four   -- for this text's walks alone
set_option linter.unusedVariables false
set_option linter.unusedSimpArgs false
theorem z6_0 {P:Prop} (h:P:=by repeat(first|(with_reducible first|exact HB.out|apply Zh|apply Zf|apply Ze|refine Zd ?_ GE174.out|refine Zd ?_ GE175.out)|exact HB.out)):P:=h
theorem z6_1 {P:Prop} (h:P:=by repeat(first|(with_reducible first|exact HB.out|apply Zh|apply Zf|apply Ze)|exact HB.out)):P:=h
theorem z6_2 {P:Prop} (h:P:=by(with_reducible repeat(first|refine blk_drewN ?_ _|refine blk_drew ?_|refine blk_alloc ?_ _));exact BK174.out):P:=h
theorem z6_3 {P:Prop} (h:P:=by rw[hw];exact(by(with_reducible repeat(first|refine blk_drewN ?_ _|refine blk_drew ?_|refine blk_alloc ?_ _));refine blk_put (cs:= #[.slice none 0 0,.slice none 0 0,.int .i64 0,.int .i64 0]) ?_ 3 _ rfl;(with_reducible repeat(first|refine blk_drewN ?_ _|refine blk_drew ?_|refine blk_alloc ?_ _));refine blk_put (cs:= #[.slice none 0 0,.slice none 0 0,.int .i64 0,.int .i64 0]) ?_ 2 _ rfl;(with_reducible repeat(first|refine blk_drewN ?_ _|refine blk_drew ?_|refine blk_alloc ?_ _));refine blk_put (cs:= #[.slice none 0 0,.slice none 0 0,.int .i64 0,.int .i64 0]) ?_ 1 _ rfl;(with_reducible repeat(first|refine blk_drewN ?_ _|refine blk_drew ?_|refine blk_alloc ?_ _));refine blk_put (cs:= #[.slice none 0 0,.slice none 0 0,.int .i64 0,.int .i64 0]) ?_ 0 _ rfl;(with_reducible repeat(first|refine blk_drewN ?_ _|refine blk_drew ?_|refine blk_alloc ?_ _));exact BK175.out)):P:=h
theorem z6_4 {P:Prop} (h:P:=by rw[hw];exact(by(with_reducible repeat(first|refine blk_drewN ?_ _|refine blk_drew ?_|refine blk_alloc ?_ _));refine blk_far ?_ NB174_175.out _;(with_reducible repeat(first|refine blk_drewN ?_ _|refine blk_drew ?_|refine blk_alloc ?_ _));refine blk_far ?_ NB174_175.out _;(with_reducible repeat(first|refine blk_drewN ?_ _|refine blk_drew ?_|refine blk_alloc ?_ _));refine blk_far ?_ NB174_175.out _;(with_reducible repeat(first|refine blk_drewN ?_ _|refine blk_drew ?_|refine blk_alloc ?_ _));refine blk_far ?_ NB174_175.out _;(with_reducible repeat(first|refine blk_drewN ?_ _|refine blk_drew ?_|refine blk_alloc ?_ _));exact BK174.out)):P:=h
theorem z6_5 {P:Prop} (h:P:=by repeat(first|(with_reducible first|exact HB.out|apply Zh|apply Zf|apply Ze|refine Zd ?_ GE174.out)|exact HB.out)):P:=h
theorem z6_6 {P:Prop} (h:P:=by(with_reducible repeat(first|refine blk_drewN ?_ _|refine blk_drew ?_|refine blk_alloc ?_ _));exact BK175.out):P:=h
theorem z6_7 {P:Prop} (h:P:=by first|(go_simp;done)|(go_simp;rfl)):P:=h
theorem z6_8 {P:Prop} (h:P:=by(try simp only[List.map_toArray,List.map_cons,List.map_nil]);first|done|rfl|(simp only[List.length_drop,List.length_take];rfl)):P:=h
theorem z6_9 {P:Prop} (h:P:=by repeat(first|exact Yh _ _|apply Zf|apply Ze)):P:=h
theorem z6_10 {P:Prop} (h:P:=by repeat(first|exact(Yg HR0_0.out HB.out)|(with_reducible refine Yc ?_ _)|(with_reducible refine Yd ?_ _)|(with_reducible refine Ye ?_))):P:=h
theorem z6_11 {P:Prop} (h:P:=by repeat(first|exact(Yg HR2.out HB.out)|(with_reducible refine Yc ?_ _)|(with_reducible refine Yd ?_ _)|(with_reducible refine Ye ?_))):P:=h
theorem z6_12 {P:Prop} (h:P:=by first|(with_reducible assumption)|assumption):P:=h
theorem z6_13 {P:Prop} (h:P:=by(with_reducible repeat(first|refine blk_drewN ?_ _|refine blk_drew ?_|refine blk_alloc ?_ _));exact BK191.out):P:=h
theorem z6_14 {P:Prop} (h:P:=by(with_reducible repeat(first|refine blk_drewN ?_ _|refine blk_drew ?_|refine blk_alloc ?_ _));exact BK188.out):P:=h
theorem z6_15 {P:Prop} (h:P:=by kernel_rfl):P:=h
theorem z6_16 {P:Prop} (h:P:=by repeat(first|(with_reducible first|exact HB.out|apply Zh|apply Zf|apply Ze|refine Zd ?_ GE191.out|refine Zd ?_ GE192.out)|exact HB.out)):P:=h
theorem z6_17 {P:Prop} (h:P:=by repeat(first|(with_reducible first|exact HB.out|apply Zh|apply Zf|apply Ze|refine Zd ?_ GE188.out|refine Zd ?_ GE189.out)|exact HB.out)):P:=h
theorem z6_18 {P:Prop} (h:P:=by(with_reducible repeat(first|refine blk_drewN ?_ _|refine blk_drew ?_|refine blk_alloc ?_ _));exact BK192.out):P:=h
theorem z6_19 {P:Prop} (h:P:=by(with_reducible repeat(first|refine blk_drewN ?_ _|refine blk_drew ?_|refine blk_alloc ?_ _));exact BK189.out):P:=h
theorem z6_20 {P:Prop} (h:P:=by repeat(first|exact(Yg HR3.out HB.out)|(with_reducible refine Yc ?_ _)|(with_reducible refine Yd ?_ _)|(with_reducible refine Ye ?_))):P:=h
theorem z6_21 {P:Prop} (h:P:=by repeat(first|(with_reducible first|exact HB.out|apply Zh|apply Zf|apply Ze|refine Zd ?_ GE191.out)|exact HB.out)):P:=h
theorem z6_22 {P:Prop} (h:P:=by repeat(first|(with_reducible first|exact HB.out|apply Zh|apply Zf|apply Ze|refine Zd ?_ GE188.out)|exact HB.out)):P:=h
theorem z6_23 {P:Prop} (h:P:=by repeat(first|(with_reducible first|exact HB.out|apply Zh|apply Zf|apply Ze|refine Zd ?_ GE191.out|refine Zd ?_ GE192.out|refine Zd ?_ GE193.out)|exact HB.out)):P:=h
theorem z6_24 {P:Prop} (h:P:=by repeat(first|exact HB4.out|apply Zf|apply Ze)):P:=h
theorem z6_25 {P:Prop} (h:P:=by rw[hg];exact(Zy z6_1)):P:=h
theorem z6_26 {P:Prop} (h:P:=by rw[hg];exact Nat.ne_of_lt (blk_lt (g:=gb174) (o:= .cells #[.slice A0_0 l0_0.length c0_0] 33 (0,0)) z6_2)):P:=h
theorem z6_27 {P:Prop} (h:P:=by rw[hg];exact Nat.ne_of_gt (blk_lt (g:=gb174) (o:= .cells #[.slice A0_0 l0_0.length c0_0] 33 (0,0)) z6_2)):P:=h
theorem z6_28 {P:Prop} (h:P:=by rw[hg];exact(Zy z6_5)):P:=h
theorem heapStmtX:Kd.Heap k80:=Kd.heap_iso _ (Kd.heap_pair (Kd.heap_int .i64) (Kd.heap_pair (Kd.heap_int .i64) (Kd.heap_pair (Kd.heap_int .i64) (Kd.heap_iso _ (Kd.heap_pair (Kd.heap_int .i64) (Kd.heap_pair (Kd.heap_int .i64) (Kd.heap_int .i64)))))))
abbrev RunS:=List Int×List Int×List Int
def execRep {σ:Type} (f:σ→Option σ):Nat→σ→Option σ
 |0,s=>some s
 |n+1,s=>(f s).bind (execRep f n)
theorem execRep_mono {σ:Type} {f g:σ→Option σ} (h:∀s,LeO (f s) (g s)):∀n s,LeO (execRep f n s) (execRep g n s)
 |0,s=>LeO.refl _
 |n+1,s=>Yl (h s) (fun x=>execRep_mono h n x)
def execStep (k:Nat) (ll lr:List Int) (at_:Int) (live:Bool) (s:RunS) (x:S80):Option RunS:=
 if x.f0=1 then (spec_l03Eval.f k s.1 x.f3.f0 x.f3.f1 x.f3.f2).bind fun y=>if 0≤x.f1∧x.f1<(s.1.length:Int) then some (s.1.set x.f1.toNat y,s.2.1,s.2.2) else none
 else if x.f0=2 then (spec_l12Sense.f k ll lr at_ live s.2.2 x.f2).bind fun r=>if 0≤x.f1∧x.f1<(s.1.length:Int) then some (s.1.set x.f1.toNat r.2,s.2.1,r.1) else none
 else if x.f0=3 then (spec_l03Eval.f k s.1 x.f3.f0 x.f3.f1 x.f3.f2).bind fun y=>if s.2.1.length<17592186044415 then some (s.1,s.2.1++[y],s.2.2) else none
 else some s
def execN (k:Nat) (s:RunS) (x:S80):Option Int:=if x.f0=4 then (spec_l03Eval.f k s.1 x.f3.f0 x.f3.f1 x.f3.f2).bind fun y=>spec_l03Bit.f (y != 0) else some x.f2
mutual
def spec_l12Exec.f (ll lr:List Int) (at_:Int) (live:Bool):Nat→List S80→Int→Int→RunS→Option RunS
 |0,_,_,_,_=>none
 |k+1,l,a,b,s=>spec_l12Exec.l0 ll lr at_ live k l b a s
def spec_l12Exec.l0 (ll lr:List Int) (at_:Int) (live:Bool):Nat→List S80→Int→Int→RunS→Option RunS
 |0,_,_,_,_=>none
 |k+1,l,b,i,s=>if i<b then (if 0≤i∧i<(l.length:Int) then (if (rd_T80 l i).f0=4∨(rd_T80 l i).f0=5 then
   ((spec_l05End.f k l i).bind fun e=>(execN k s (rd_T80 l i)).bind fun n=>if n≤9223372036854775807 then
    (execRep (fun s'=>spec_l12Exec.f ll lr at_ live k l (wrap64 (i+1)) e s') n.toNat s).bind fun s'=>spec_l12Exec.l0 ll lr at_ live k l b (wrap64 (e+1)) s' else none)
   else (execStep k ll lr at_ live s (rd_T80 l i)).bind fun s'=>spec_l12Exec.l0 ll lr at_ live k l b (wrap64 (i+1)) s') else none) else some s
end
theorem execStep_mono (k:Nat) (ll lr:List Int) (at_:Int) (live:Bool) (s:RunS) (x:S80):LeO (execStep k ll lr at_ live s x) (execStep (k+1) ll lr at_ live s x):=by
 unfold execStep
 exact LeO.ite (Yl (spec_l03Eval.mono _ _ _ _ k) (fun _=>LeO.refl _)) (LeO.ite (Yl (spec_l12Sense.mono _ _ _ _ _ _ k) (fun _=>LeO.refl _)) (LeO.ite (Yl (spec_l03Eval.mono _ _ _ _ k) (fun _=>LeO.refl _)) (LeO.refl _)))
theorem execN_mono (k:Nat) (s:RunS) (x:S80):LeO (execN k s x) (execN (k+1) s x):=by
 unfold execN
 exact LeO.ite (Yl (spec_l03Eval.mono _ _ _ _ k) (fun _=>LeO.refl _)) (LeO.refl _)
theorem spec_l12Exec.mono_l (ll lr:List Int) (at_:Int) (live:Bool):∀k,(∀l a b s,LeO (spec_l12Exec.f ll lr at_ live k l a b s) (spec_l12Exec.f ll lr at_ live (k+1) l a b s))∧(∀l b i s,LeO (spec_l12Exec.l0 ll lr at_ live k l b i s) (spec_l12Exec.l0 ll lr at_ live (k+1) l b i s))
 |0=>⟨fun _ _ _ _ r h=>by simp[spec_l12Exec.f] at h,fun _ _ _ _ r h=>by simp[spec_l12Exec.l0] at h⟩
 |k+1=>by
  obtain⟨ih0,ih1⟩:=spec_l12Exec.mono_l ll lr at_ live k
  constructor
  ·intro l a b s
   unfold spec_l12Exec.f
   exact ih1 _ _ _ _
  ·intro l b i s
   unfold spec_l12Exec.l0
   exact LeO.ite (LeO.ite (LeO.ite (Yl (spec_l05End.mono _ _ k) (fun _=>Yl (execN_mono k _ _) (fun _=>LeO.ite (Yl (execRep_mono (fun s=>ih0 _ _ _ s) _ _) (fun _=>ih1 _ _ _ _)) (LeO.refl _)))) (Yl (execStep_mono k _ _ _ _ _ _) (fun _=>ih1 _ _ _ _))) (LeO.refl _)) (LeO.refl _)
theorem runP_below {w0 w w1:World} {Al Ar:Option Addr} {nl cl nr cr:Nat} {at_:Int} {live:Bool} {g:Nat} {v s u:List Int} {F:Nat→Prop} (h:runP w0 Al nl cl Ar nr cr at_ live g v s u F w) (hb:Below w.heap.size w w1):runP w0 Al nl cl Ar nr cr at_ live g v s u F w1:=by
 obtain⟨v0,v1,v2,i1,i2,i3,i4,i5,iF,i6⟩:=h
 exact⟨v0,v1,v2,Zg i1 hb,i2.below hb,i3.below hb,i4.below hb,i5,iF,fun k hk=>(hb.block k (by have:=i5.2.2.1;have:=blk_lt i1;omega)).trans (i6 k hk)⟩
theorem runP_lt {w0 w:World} {Al Ar:Option Addr} {nl cl nr cr:Nat} {at_:Int} {live:Bool} {g:Nat} {v s u:List Int} {F:Nat→Prop} (h:runP w0 Al nl cl Ar nr cr at_ live g v s u F w):w0.heap.size≤w.heap.size∧∀k,F k→k<w.heap.size:=by
 obtain⟨v0,v1,v2,i1,i2,i3,i4,i5,iF,i6⟩:=h
 refine⟨by have:=i5.2.2.1;have:=blk_lt i1;omega,fun k hk=> ?_⟩
 rcases (iF k).1 hk with e|e|e|e
 ·rw[e]
  exact blk_lt i1
 ·exact i2.lt k e
 ·exact i3.lt k e
 ·exact i4.lt k e
theorem runP_old {w0 w:World} {Al Ar:Option Addr} {nl cl nr cr:Nat} {at_:Int} {live:Bool} {g:Nat} {v s u:List Int} {F:Nat→Prop} (h:runP w0 Al nl cl Ar nr cr at_ live g v s u F w):∀k,k<w0.heap.size→w.heap[k]? =w0.heap[k]? :=by
 obtain⟨v0,v1,v2,i1,i2,i3,i4,i5,iF,i6⟩:=h
 exact i6
theorem runP_put {w0 w:World} {Al Ar:Option Addr} {nl cl nr cr:Nat} {at_:Int} {live:Bool} {g gv c x:Nat} {n:Nat} {v v' s u:List Int} {F:Nat→Prop} {y:Value} (h:runP w0 Al nl cl Ar nr cr at_ live g v s u F w) (h0:w.cell? ⟨g,0,none⟩=some (.slice (some ⟨gv,0,none⟩) n c))
  (put:Sep.rowI 3 (w.setCell ⟨gv,x,none⟩ y) (.slice (some ⟨gv,0,none⟩) n c) v'):runP w0 Al nl cl Ar nr cr at_ live g v' s u F (w.setCell ⟨gv,x,none⟩ y)∧Sep.After F w F (w.setCell ⟨gv,x,none⟩ y):=by
 obtain⟨v0,v1,v2,i1,i2,i3,i4,i5,iF,i6⟩:=h
 have e0:v0= .slice (some ⟨gv,0,none⟩) n c:=by
  have:=(Zb i1 0).symm.trans h0
  simpa using this
 subst e0
 have far:∀k,k≠gv→(w.setCell ⟨gv,x,none⟩ y).heap[k]? =w.heap[k]? :=fun k hk=>Below.heap_setCell w ⟨gv,x,none⟩ y k hk
 have ng:g≠gv:=fun e=>i2.ne i1 (by decide) gv rfl e.symm
 have hv:w0.heap.size≤gv:=i5.2.2.2.1 gv rfl
 refine⟨⟨_,v1,v2,(far g ng).trans i1,put,i3.keep (fun k hk=>far k (fun e=>(i5.1 gv rfl).1 (e ▸ hk))),i4.keep (fun k hk=>far k (fun e=>(i5.1 gv rfl).2 (e ▸ hk))),i5,iF,fun k hk=>(far k (by omega)).trans (i6 k hk)⟩,⟨⟨by simp[World.setCell],fun k hk hn=>far k (fun e=>hn ((iF k).2 (.inr (.inl (by rw[e];rfl)))))⟩,fun k hk=> .inl hk,rfl,rfl,rfl⟩⟩
theorem runP_row {w0 w:World} {Al Ar:Option Addr} {nl cl nr cr:Nat} {at_:Int} {live:Bool} {g:Nat} {v s u:List Int} {F:Nat→Prop} {v0':Value} (h:runP w0 Al nl cl Ar nr cr at_ live g v s u F w) (h0:w.cell? ⟨g,0,none⟩=some v0'):Sep.rowI 3 w v0' v:=by
 obtain⟨v0,v1,v2,i1,i2,i3,i4,i5,iF,i6⟩:=h
 have e0:v0=v0':=by
  have:=(Zb i1 0).symm.trans h0
  simpa using this
 subst e0
 exact i2
theorem runP_send {w0 w w5 w6:World} {Al Ar:Option Addr} {nl cl nr cr:Nat} {at_:Int} {live:Bool} {g:Nat} {v s u s':List Int} {F:Nat→Prop} {v0 v1 v2 v3:Value}
  (b0:w.heap[g]? =some (.cells #[v0,v1,v2,.slice Al nl cl,.slice Ar nr cr,.int .i64 at_,.bool live] 57 (0,0))) (b6:w6.heap[g]? =some (.cells #[v0,v3,v2,.slice Al nl cl,.slice Ar nr cr,.int .i64 at_,.bool live] 57 (0,0)))
  (r0:Sep.rowI 3 w v0 v) (r1:Sep.rowI 3 w v1 s) (r2:Sep.rowI 3 w v2 u) (r5:Sep.rowI 3 w5 v3 s')
  (dj:(∀k,v0.ownBlock=some k→v1.ownBlock≠some k∧v2.ownBlock≠some k)∧(∀k,v1.ownBlock=some k→v2.ownBlock≠some k)∧w0.heap.size≤g∧(∀k,v0.ownBlock=some k→w0.heap.size≤k)∧(∀k,v1.ownBlock=some k→w0.heap.size≤k)∧∀k,v2.ownBlock=some k→w0.heap.size≤k)
  (hF:∀k,F k↔k=g∨v0.ownBlock=some k∨v1.ownBlock=some k∨v2.ownBlock=some k) (old:∀k,k<w0.heap.size→w.heap[k]? =w0.heap[k]?)
  (gd:w.grownBy w5 v1.ownBlock) (ad:v3.ownBlock=v1.ownBlock∨∃b,v3.ownBlock=some b∧w.heap.size≤b) (fy:∀k,k≠g→w6.heap[k]? =w5.heap[k]?) (io:w6.os=w5.os∧w6.tape=w5.tape∧w6.output=w5.output∧w6.heap.size=w5.heap.size):
  ∃F',runP w0 Al nl cl Ar nr cr at_ live g v s' u F' w6∧Sep.After F w F' w6:=by
 have lt:=blk_lt b0
 have x3:∀k,v3.ownBlock=some k→v1.ownBlock=some k∨w.heap.size≤k:=fun k hk=>ad.imp (fun e=>e.symm.trans hk) (fun h=>by
  obtain⟨b,e,hb⟩:=h
  rw[hk] at e
  cases e
  exact hb)
 have s0:=r0.grown gd (fun k hk h=>(dj.1 k hk).1 h)
 have s2:=r2.grown gd (fun k hk h=>dj.2.1 k h hk)
 have b5:=blk_grown (w:=w) b0 gd (fun h=>r1.ne b0 (by decide) g h.symm rfl)
 refine⟨fun k=>k=g∨v0.ownBlock=some k∨v3.ownBlock=some k∨v2.ownBlock=some k,⟨v0,v3,v2,b6,s0.keep (fun k hk=>fy k (s0.ne b5 (by decide) k hk)),r5.keep (fun k hk=>fy k (r5.ne b5 (by decide) k hk)),s2.keep (fun k hk=>fy k (s2.ne b5 (by decide) k hk)),⟨fun k hk=>⟨fun h=> ?_,(dj.1 k hk).2⟩,fun k hk h=> ?_,dj.2.2.1,dj.2.2.2.1,fun k hk=> ?_,dj.2.2.2.2.2⟩,fun k=>Iff.rfl,fun k hk=> ?_⟩,⟨⟨by have:=gd.size;omega,fun k hk hn=> ?_⟩,fun k hk=> ?_,io.1.trans gd.os,io.2.1.trans gd.tape,io.2.2.1.trans gd.output⟩⟩
 ·exact(x3 k h).elim (fun e=>(dj.1 k hk).1 e) (fun e=>by have:=r0.lt k hk;omega)
 ·exact(x3 k hk).elim (fun e=>dj.2.1 k e h) (fun e=>by have:=r2.lt k h;omega)
 ·exact(x3 k hk).elim (dj.2.2.2.2.1 k) (fun e=>by have:=dj.2.2.1;omega)
 ·have h1:=dj.2.2.1
  exact(fy k (by omega)).trans ((gd.block k (by omega) (fun h=>by have:=dj.2.2.2.2.1 k h.symm;omega)).trans (old k hk))
 ·exact(fy k (fun h=>hn ((hF k).2 (.inl h)))).trans (gd.block k hk (fun h=>hn ((hF k).2 (.inr (.inr (.inl h.symm))))))
 ·rcases hk with h|h|h|h
  ·exact .inl ((hF k).2 (.inl h))
  ·exact .inl ((hF k).2 (.inr (.inl h)))
  ·exact(x3 k h).imp (fun e=>(hF k).2 (.inr (.inr (.inl e)))) id
  ·exact .inl ((hF k).2 (.inr (.inr (.inr h))))
set_option maxHeartbeats 8000000 in
set_option maxRecDepth 100000 in
theorem spec_l12Exec.calls (w0:World) (Al:Option Addr) (cl:Nat) (ll:List Int) (Ar:Option Addr) (cr:Nat) (lr:List Int) (at_:Int) (live:Bool) (g:Nat) (hl:Kd.C (Kd.int .i64) w0 Al ll.length ll) (hcl:ll.length≤cl) (hr:Kd.C (Kd.int .i64) w0 Ar lr.length lr) (hcr:lr.length≤cr)
  (A:Option Addr) (c:Nat) (l:List S80) (hA:Kd.C k80 w0 A l.length l) (hc:l.length≤c) (k:Nat):∀(a b:Int) (st r:RunS) (F:Nat→Prop) (w:World) (hi:runP w0 Al ll.length cl Ar lr.length cr at_ live g st.1 st.2.1 st.2.2 F w) (h:spec_l12Exec.f ll lr at_ live k l a b st=some r),
  Calls Try.prog 35 #[.pointer (some ⟨g,0,none⟩),.slice A l.length c,.int .i64 a,.int .i64 b] w fun e w'=>e= .returned (.tuple #[])∧∃F',runP w0 Al ll.length cl Ar lr.length cr at_ live g r.1 r.2.1 r.2.2 F' w'∧Sep.After F w F' w':=by
 have HLL:=Za hl
 have HCL:=Za hcl
 have HRR:=Za hr
 have HCR:=Za hcr
 have HL0:=Za hA
 have HLC:=Za hc
 clear hl hcl hr hcr hA hc
 induction k using Nat.strongRecOn with
 |_ k ih=>
 have IH:=Za ih
 clear ih
 intro a b st r F w hi h
 cases k with
 |zero=>exact absurd h (by simp[spec_l12Exec.f])
 |succ k=>
 simp only[spec_l12Exec.f] at h
 have hu57:=Try.underlying57
 have hu80:=Try.underlying80
 have hu62:=Try.underlying62
 have HS:=Za hi
 have H':=Za h
 clear hi h
 go_enter Try.func35,Try.ntmps35
 go_wp2
 go_loopg [8] k (fun kq v8 w'=>∃(i:Int) (s':RunS) (F':Nat→Prop),v8= .int .i64 i∧Aside0 (spec_l12Exec.l0 ll lr at_ live kq l b i s'=some r)∧Aside0 (kq≤k)∧Aside0 (runP w0 Al ll.length cl Ar lr.length cr at_ live g s'.1 s'.2.1 s'.2.2 F' w')∧Aside0 (Sep.After F w F' w'))
 case atStart=>exact⟨a,st,F,by first|rfl|(simp;done),H',⟨Nat.le_refl _⟩,HS,⟨Sep.After.refl _ _⟩⟩
 case round=>
  clear H' HS
  obtain⟨i,s',F',rfl,HA,HK1,HI,HAF⟩:=hrel
  obtain⟨v,s,u⟩:=s'
  cases gk with
  |zero=>exact absurd HA.out (by simp[spec_l12Exec.l0])
  |succ k1=>
   have H:=HA.out
   clear HA
   simp only[spec_l12Exec.l0] at H
   by_cases c1:i<b
   ·rw[if_pos c1] at H
    have c1b:decide (i<b)=true:=Zx c1
    by_cases c2:0≤i∧i<(l.length:Int)
    ·rw[if_pos c2] at H
     have HLW:=Za (heapStmtX.C (runP_old HI.out) HL0.out)
     obtain⟨ad,e,hx0,hx1,hx2,hx3,hx4,hx5⟩:=at_T80 HLW.out i c2.1 c2.2
     cases e
     have p1:=eq_true c2.1
     have q1:=eq_true c2.2
     obtain⟨x,hx⟩:∃x,rd_T80 l i=x:=⟨_,rfl⟩
     rw[hx] at H hx0 hx1 hx2 hx3 hx4 hx5
     obtain⟨x0,x1,x2,x3,x4,x5⟩:=x
     simp only at H hx0 hx1 hx2 hx3 hx4 hx5
     by_cases c45:x0=4∨x0=5
     ·rw[if_pos c45] at H
      obtain⟨en,A1,H1⟩:=Zl H
      obtain⟨n,A2,H2⟩:=Zl H1
      by_cases cn:n≤9223372036854775807
      ·rw[if_pos cn] at H2
       obtain⟨s3,A3,H3⟩:=Zl H2
       have H':=Za H3
       have HE:=Za A1
       have HNB:=Za cn
       have HN:Aside0 ((x0=4∧∃y,spec_l03Eval.f k1 v x3 x4 x5=some y∧spec_l03Bit.f (y != 0)=some n)∨(x0=5∧x2=n)):=⟨by
        unfold execN at A2
        by_cases c4:x0=4
        ·rw[if_pos c4] at A2
         obtain⟨y,e1,e2⟩:=Zl A2
         exact .inl ⟨c4,y,e1,e2⟩
        ·rw[if_neg c4] at A2
         exact .inr ⟨c45.resolve_left c4,Zk A2⟩⟩
       obtain⟨ji,hji⟩:∃ji,wrap64 (i+1)=ji:=⟨_,rfl⟩
       have hjiw:IntKind.i64.wrap (i+1)=ji:=(i64_w _).trans hji
       have HR3:Aside0 (execRep (fun s'=>spec_l12Exec.f ll lr at_ live k1 l ji en s') n.toNat (v,s,u)=some s3):=⟨by rw[←hji];exact A3⟩
       clear H H1 H2 H3 A1 A2 A3 hx c1 c2 c45 cn
       rcases HN.out with⟨e4,y,E1,E2⟩|⟨e5,e6⟩
       ·subst e4
        have HE1:=Za E1
        have HE2:=Za E2
        clear HN E1 E2
        go_wp2_with (first|((with_reducible refine Zp (N:=9) rfl ?_);refine Zt ?hg (N:=9) ?hd (cs:= #[.int .i64 0,.int .i64 0,.int .i64 0,.int .i64 0,.int .i64 0,.int .i64 0]) (t:=80) ?hr ?_;(case hd=>rfl);(case hg=>rfl);(case hr=>exact z6_7);intro gb hg w2 hbox hb;have HB:=Za hb;have BK:=Za hbox;have GE:Aside0 (wr.heap.size≤gb):=⟨Nat.le_of_eq hg.symm⟩;obtain⟨⟨_,_,_,_,_,_⟩,⟨_,_,_,_,_,_⟩⟩:=Sep.blk6 hbox;clear hb hbox hg)|((with_reducible refine Yk (t:=80) (p:=9) rfl ?_);refine Yj (t:=80) (p:=9) (v:= ?vo_) (w1:=Sep.put6 w2 gb (.int .i64 4) (.int .i64 x1) (.int .i64 x2) (.int .i64 x3) (.int .i64 x4) (.int .i64 x5)) ?hg ?ho ?hn ?hr ?_;(case hg=>rfl);(case ho=>rfl);(case hn=>rfl);(case hr=>exact z6_7);intro w3 hw;have BK3:=Za (hw ▸ Sep.put6_blk BK.out (.int .i64 4) (.int .i64 x1) (.int .i64 x2) (.int .i64 x3) (.int .i64 x4) (.int .i64 x5));have HB3:=Za (hw ▸ Sep.put6_below HB.out GE.out (.int .i64 4) (.int .i64 x1) (.int .i64 x2) (.int .i64 x3) (.int .i64 x4) (.int .i64 x5));clear hw BK HB;obtain⟨⟨_,_,_,_,_,_⟩,⟨_,_,_,_,_,_⟩⟩:=Sep.blk6 BK3.out)|fail)
        have HI3:=Za (runP_below HI.out HB3.out)
        have HA3:=Za (HAF.out.below HB3.out)
        obtain⟨v0,v1,v2,i1,i2,i3,i4,i5,iF,i6⟩:=HI3.out
        obtain⟨A0,c0,rfl,hc0,hC0⟩:=i2.open_
        have NG:Aside0 (gb≠g):=⟨fun h=>by have:=blk_lt i1;subst h;exact absurd BK3.out (by rw[i1];simp)⟩
        have BG:=Za i1
        have R0:=Za i2
        have R1:=Za i3
        have R2:=Za i4
        have DJ:=Za i5
        have HF:=Za iF
        have OLD:=Za i6
        have HC0:=Za hc0
        have HV0:=Za hC0
        obtain⟨⟨_,_,_,_,_,_,_⟩,⟨_,_,_⟩⟩:=blk7 i1
        clear i1 i2 i3 i4 i5 iF i6 hc0 hC0
        refine(spec_l05End.calls k1 _ _ l i en _ ?_ HLC.out HE.out).mono ?_
        ·exact Yg (Yg HLW.out HB3.out) z6_9
        rintro e w4 ⟨rfl,hb4⟩
        have HB4:=Za (Zj (z6_9:Below w3.heap.size w3 _) hb4)
        have BK4:=Za (Zg BK3.out HB4.out)
        have BG4:=Za (Zg BG.out HB4.out)
        clear hb4
        obtain⟨⟨_,_,_,_,_,_⟩,⟨_,_,_,_,_,_⟩⟩:=Sep.blk6 BK4.out
        obtain⟨⟨_,_,_,_,_,_,_⟩,⟨_,_,_⟩⟩:=blk7 BG4.out
        go_wp2
        go_region_held3 (fun w'=>w'.cell? ⟨g,0,none⟩=some (.slice A0 v.length c0)∧w'.cell? ⟨gb,3,none⟩=some (.int .i64 x3)∧w'.cell? ⟨gb,4,none⟩=some (.int .i64 x4)∧w'.cell? ⟨gb,5,none⟩=some (.int .i64 x5)) (go_keep)
         (first|(go_at_call 57;refine(spec_l03Eval.calls k1 _ _ v x3 x4 x5 y _ ?_ HC0.out HE1.out).mono ?_;(exact Yg HV0.out z6_24);rintro e w5 ⟨rfl,hb5⟩;have HB5:=Za (Zj (z6_24:Below w3.heap.size w3 _) hb5);have BK5:=Za (Zg BK3.out HB5.out);have BG5:=Za (Zg BG.out HB5.out);clear hb5;obtain⟨⟨_,_,_,_,_,_⟩,⟨_,_,_,_,_,_⟩⟩:=Sep.blk6 BK5.out;obtain⟨⟨_,_,_,_,_,_,_⟩,⟨_,_,_⟩⟩:=blk7 BG5.out)|(go_at_call 60;refine(spec_l03Bit.calls _ n _ HE2.out).mono ?_;rintro e w' ⟨rfl,⟨nd,rfl⟩⟩))
        go_wp2
        go_loopg [12] n.toNat (fun kq v12 w'=>∃(j:Int) (sj:RunS) (Fj:Nat→Prop),v12= .int .i64 j∧Aside0 (0≤j∧j+(kq:Int)=(n.toNat:Int))∧Aside0 (execRep (fun s'=>spec_l12Exec.f ll lr at_ live k1 l ji en s') kq sj=some s3)∧Aside0 (runP w0 Al ll.length cl Ar lr.length cr at_ live g sj.1 sj.2.1 sj.2.2 Fj w')∧Aside0 (Sep.After F w Fj w'))
        case atStart=>exact⟨0,(v,s,u),F',by first|rfl|(simp;done),⟨by omega,by omega⟩,HR3,⟨runP_below HI3.out (by repeat(first|exact HB5.out|apply Zf|apply Ze))⟩,⟨HA3.out.below (by repeat(first|exact HB5.out|apply Zf|apply Ze))⟩⟩
        case round=>
         clear HR3 HI3 HA3
         obtain⟨j,sj,Fj,rfl,HJ,HWJ,HIJ,HAJ⟩:=hrel
         by_cases cj:j<n
         ·have cjb:decide (j<n)=true:=Zx cj
          have hw1:wrap64 (j+1)=j+1:=by have:=HJ.out;have:=HNB.out;unfold wrap64;omega
          cases gk with
          |zero=>have:=HJ.out;omega
          |succ k2=>
           obtain⟨s4,A6,A7⟩:=Zl HWJ.out
           have HA6:=Za A6
           have HA7:=Za A7
           have HW:=Za hw1
           have CJ:=Za cj
           clear A6 A7 hw1 cj HWJ
           go_wp2_with (go_at_call 35;(with_reducible refine(IH.out k1 ?sd1 ji en sj s4 Fj _ HIJ.out HA6.out).mono ?_);(case sd1=>have:=HK1.out;omega);rintro e w6 ⟨rfl,F6,hI6,hA6⟩;have HI6:=Za hI6;have HA6':=Za (HAJ.out.trans hA6);clear hI6 hA6)
           go_roundg k2
           case measure=>omega
           case rel=>exact⟨j+1,s4,F6,by first|rfl|(rw[HW.out];done)|(simp[HW.out];done),⟨by have:=HJ.out;omega,by have:=HJ.out;omega⟩,HA7,HI6,HA6'⟩
         ·have cjb:decide (j<n)=false:=Yi cj
          have hk0:gk=0:=by have:=HJ.out;omega
          subst hk0
          obtain rfl:=Zk HWJ.out
          clear cj HWJ
          go_wp2
          go_roundg k1
          case measure=>have:=HK1.out;omega
          case rel=>exact⟨wrap64 (en+1),sj,Fj,by first|rfl|(simp;done)|(simp[*];done),H',⟨by have:=HK1.out;omega⟩,HIJ,HAJ⟩
       ·subst e5 e6
        clear HN
        go_wp2_with (first|((with_reducible refine Zp (N:=9) rfl ?_);refine Zt ?hg (N:=9) ?hd (cs:= #[.int .i64 0,.int .i64 0,.int .i64 0,.int .i64 0,.int .i64 0,.int .i64 0]) (t:=80) ?hr ?_;(case hd=>rfl);(case hg=>rfl);(case hr=>exact z6_7);intro gb hg w2 hbox hb;have HB:=Za hb;have BK:=Za hbox;have GE:Aside0 (wr.heap.size≤gb):=⟨Nat.le_of_eq hg.symm⟩;obtain⟨⟨_,_,_,_,_,_⟩,⟨_,_,_,_,_,_⟩⟩:=Sep.blk6 hbox;clear hb hbox hg)|((with_reducible refine Yk (t:=80) (p:=9) rfl ?_);refine Yj (t:=80) (p:=9) (v:= ?vo_) (w1:=Sep.put6 w2 gb (.int .i64 5) (.int .i64 x1) (.int .i64 x2) (.int .i64 x3) (.int .i64 x4) (.int .i64 x5)) ?hg ?ho ?hn ?hr ?_;(case hg=>rfl);(case ho=>rfl);(case hn=>rfl);(case hr=>exact z6_7);intro w3 hw;have BK3:=Za (hw ▸ Sep.put6_blk BK.out (.int .i64 5) (.int .i64 x1) (.int .i64 x2) (.int .i64 x3) (.int .i64 x4) (.int .i64 x5));have HB3:=Za (hw ▸ Sep.put6_below HB.out GE.out (.int .i64 5) (.int .i64 x1) (.int .i64 x2) (.int .i64 x3) (.int .i64 x4) (.int .i64 x5));clear hw BK HB;obtain⟨⟨_,_,_,_,_,_⟩,⟨_,_,_,_,_,_⟩⟩:=Sep.blk6 BK3.out)|fail)
        have HI3:=Za (runP_below HI.out HB3.out)
        have HA3:=Za (HAF.out.below HB3.out)
        obtain⟨v0,v1,v2,i1,i2,i3,i4,i5,iF,i6⟩:=HI3.out
        obtain⟨A0,c0,rfl,hc0,hC0⟩:=i2.open_
        have NG:Aside0 (gb≠g):=⟨fun h=>by have:=blk_lt i1;subst h;exact absurd BK3.out (by rw[i1];simp)⟩
        have BG:=Za i1
        have R0:=Za i2
        have R1:=Za i3
        have R2:=Za i4
        have DJ:=Za i5
        have HF:=Za iF
        have OLD:=Za i6
        have HC0:=Za hc0
        have HV0:=Za hC0
        obtain⟨⟨_,_,_,_,_,_,_⟩,⟨_,_,_⟩⟩:=blk7 i1
        clear i1 i2 i3 i4 i5 iF i6 hc0 hC0
        refine(spec_l05End.calls k1 _ _ l i en _ ?_ HLC.out HE.out).mono ?_
        ·exact Yg (Yg HLW.out HB3.out) z6_9
        rintro e w4 ⟨rfl,hb4⟩
        have HB4:=Za (Zj (z6_9:Below w3.heap.size w3 _) hb4)
        have BK4:=Za (Zg BK3.out HB4.out)
        clear hb4
        obtain⟨⟨_,_,_,_,_,_⟩,⟨_,_,_,_,_,_⟩⟩:=Sep.blk6 BK4.out
        go_wp2
        go_loopg [12] x2.toNat (fun kq v12 w'=>∃(j:Int) (sj:RunS) (Fj:Nat→Prop),v12= .int .i64 j∧Aside0 (0≤j∧j+(kq:Int)=(x2.toNat:Int))∧Aside0 (execRep (fun s'=>spec_l12Exec.f ll lr at_ live k1 l ji en s') kq sj=some s3)∧Aside0 (runP w0 Al ll.length cl Ar lr.length cr at_ live g sj.1 sj.2.1 sj.2.2 Fj w')∧Aside0 (Sep.After F w Fj w'))
        case atStart=>exact⟨0,(v,s,u),F',by first|rfl|(simp;done),⟨by omega,by omega⟩,HR3,⟨runP_below HI3.out z6_24⟩,⟨HA3.out.below z6_24⟩⟩
        case round=>
         clear HR3 HI3 HA3
         obtain⟨j,sj,Fj,rfl,HJ,HWJ,HIJ,HAJ⟩:=hrel
         by_cases cj:j<x2
         ·have cjb:decide (j<x2)=true:=Zx cj
          have hw1:wrap64 (j+1)=j+1:=by have:=HJ.out;have:=HNB.out;unfold wrap64;omega
          cases gk with
          |zero=>have:=HJ.out;omega
          |succ k2=>
           obtain⟨s4,A6,A7⟩:=Zl HWJ.out
           have HA6:=Za A6
           have HA7:=Za A7
           have HW:=Za hw1
           have CJ:=Za cj
           clear A6 A7 hw1 cj HWJ
           go_wp2_with (go_at_call 35;(with_reducible refine(IH.out k1 ?sd1 ji en sj s4 Fj _ HIJ.out HA6.out).mono ?_);(case sd1=>have:=HK1.out;omega);rintro e w6 ⟨rfl,F6,hI6,hA6⟩;have HI6:=Za hI6;have HA6':=Za (HAJ.out.trans hA6);clear hI6 hA6)
           go_roundg k2
           case measure=>omega
           case rel=>exact⟨j+1,s4,F6,by first|rfl|(rw[HW.out];done)|(simp[HW.out];done),⟨by have:=HJ.out;omega,by have:=HJ.out;omega⟩,HA7,HI6,HA6'⟩
         ·have cjb:decide (j<x2)=false:=Yi cj
          have hk0:gk=0:=by have:=HJ.out;omega
          subst hk0
          obtain rfl:=Zk HWJ.out
          clear cj HWJ
          go_wp2
          go_roundg k1
          case measure=>have:=HK1.out;omega
          case rel=>exact⟨wrap64 (en+1),sj,Fj,by first|rfl|(simp;done)|(simp[*];done),H',⟨by have:=HK1.out;omega⟩,HIJ,HAJ⟩
      ·rw[if_neg cn] at H2
       exact absurd H2 (by simp)
     ·rw[if_neg c45] at H
      obtain⟨s2,A1,H1⟩:=Zl H
      have H':=Za H1
      clear H H1 hx c1 c2
      by_cases k1_:x0=1
      ·subst k1_
       simp only[execStep,if_true] at A1
       obtain⟨y,E1,E2⟩:=Zl A1
       by_cases cb:0≤x1∧x1<(v.length:Int)
       ·rw[if_pos cb] at E2
        cases E2
        have HE:=Za E1
        have p2:=eq_true cb.1
        have q2:=eq_true cb.2
        clear A1 E1 cb c45
        go_wp2_with (first|((with_reducible refine Zp (N:=9) rfl ?_);refine Zt ?hg (N:=9) ?hd (cs:= #[.int .i64 0,.int .i64 0,.int .i64 0,.int .i64 0,.int .i64 0,.int .i64 0]) (t:=80) ?hr ?_;(case hd=>rfl);(case hg=>rfl);(case hr=>exact z6_7);intro gb hg w2 hbox hb;have HB:=Za hb;have BK:=Za hbox;have GE:Aside0 (wr.heap.size≤gb):=⟨Nat.le_of_eq hg.symm⟩;obtain⟨⟨_,_,_,_,_,_⟩,⟨_,_,_,_,_,_⟩⟩:=Sep.blk6 hbox;clear hb hbox hg)|((with_reducible refine Yk (t:=80) (p:=9) rfl ?_);refine Yj (t:=80) (p:=9) (v:= ?vo_) (w1:=Sep.put6 w2 gb (.int .i64 1) (.int .i64 x1) (.int .i64 x2) (.int .i64 x3) (.int .i64 x4) (.int .i64 x5)) ?hg ?ho ?hn ?hr ?_;(case hg=>rfl);(case ho=>rfl);(case hn=>rfl);(case hr=>exact z6_7);intro w3 hw;have BK3:=Za (hw ▸ Sep.put6_blk BK.out (.int .i64 1) (.int .i64 x1) (.int .i64 x2) (.int .i64 x3) (.int .i64 x4) (.int .i64 x5));have HB3:=Za (hw ▸ Sep.put6_below HB.out GE.out (.int .i64 1) (.int .i64 x1) (.int .i64 x2) (.int .i64 x3) (.int .i64 x4) (.int .i64 x5));clear hw BK HB;obtain⟨⟨_,_,_,_,_,_⟩,⟨_,_,_,_,_,_⟩⟩:=Sep.blk6 BK3.out)|fail)
        have HI3:=Za (runP_below HI.out HB3.out)
        have HA3:=Za (HAF.out.below HB3.out)
        obtain⟨v0,v1,v2,i1,i2,i3,i4,i5,iF,i6⟩:=HI3.out
        obtain⟨A0,c0,rfl,hc0,hC0⟩:=i2.open_
        have NG:Aside0 (gb≠g):=⟨fun h=>by have:=blk_lt i1;subst h;exact absurd BK3.out (by rw[i1];simp)⟩
        have BG:=Za i1
        have R0:=Za i2
        have R1:=Za i3
        have R2:=Za i4
        have DJ:=Za i5
        have HF:=Za iF
        have OLD:=Za i6
        have HC0:=Za hc0
        have HV0:=Za hC0
        obtain⟨⟨_,_,_,_,_,_,_⟩,⟨_,_,_⟩⟩:=blk7 i1
        clear i1 i2 i3 i4 i5 iF i6 hc0 hC0
        obtain⟨gv,eA,_,hcell,hfr,hput⟩:=R0.out.at_ x1 (of_eq_true p2) (of_eq_true q2)
        subst eA
        clear hcell hfr hput
        have hne1:gv≠g:=R0.out.ne BG.out (by decide) gv rfl
        have hne2:g≠gv:=fun h=>hne1 h.symm
        have hne5:gv≠gb:=R0.out.ne BK3.out (by decide) gv rfl
        have hne6:gb≠gv:=fun h=>hne5 h.symm
        go_region_held3 (fun w'=>w'.cell? ⟨g,0,none⟩=some (.slice (some ⟨gv,0,none⟩) v.length c0)∧w'.cell? ⟨gb,1,none⟩=some (.int .i64 x1)∧w'.cell? ⟨gb,3,none⟩=some (.int .i64 x3)∧w'.cell? ⟨gb,4,none⟩=some (.int .i64 x4)∧w'.cell? ⟨gb,5,none⟩=some (.int .i64 x5)) (go_keep)
         ((go_at_call 57;refine(spec_l03Eval.calls k1 _ _ v x3 x4 x5 y _ ?_ HC0.out HE.out).mono ?_;(exact Yg HV0.out z6_9);rintro e w4 ⟨rfl,hb4⟩;have HB4:=Za (Zj (z6_9:Below w3.heap.size w3 _) hb4);have BK4:=Za (Zg BK3.out HB4.out);have BG4:=Za (Zg BG.out HB4.out);clear hb4;obtain⟨⟨_,_,_,_,_,_⟩,⟨_,_,_,_,_,_⟩⟩:=Sep.blk6 BK4.out;obtain⟨⟨_,_,_,_,_,_,_⟩,⟨_,_,_⟩⟩:=blk7 BG4.out;have R04:=Za (R0.out.below HB4.out);obtain⟨hg1c,hg1f,hput⟩:=R04.out.in_ x1 (of_eq_true p2) (of_eq_true q2);have PUT4:=Za hput;clear hput))
        go_wp2
        have HP:=runP_put (runP_below HI3.out HB4.out) ((Zb BG4.out 0).trans rfl) (PUT4.out y)
        go_roundg k1
        case measure=>have:=HK1.out;omega
        case rel=>exact⟨wrap64 (i+1),(v.set x1.toNat y,s,u),F',by first|rfl|(simp;done)|(simp[*];done),H',⟨by have:=HK1.out;omega⟩,⟨HP.1⟩,⟨(HA3.out.below HB4.out).trans HP.2⟩⟩
       ·rw[if_neg cb] at E2
        cases E2
      ·by_cases k2_:x0=2
       ·subst k2_
        simp only[execStep,if_true,if_false,show((2:Int)=1)=False from eq_false (by decide)] at A1
        obtain⟨⟨u',y⟩,E1,E2⟩:=Zl A1
        simp only at E2
        by_cases cb:0≤x1∧x1<(v.length:Int)
        ·rw[if_pos cb] at E2
         cases E2
         have HE:=Za E1
         have p2:=eq_true cb.1
         have q2:=eq_true cb.2
         clear A1 E1 cb c45 k1_
         go_wp2_with (first|((with_reducible refine Zp (N:=9) rfl ?_);refine Zt ?hg (N:=9) ?hd (cs:= #[.int .i64 0,.int .i64 0,.int .i64 0,.int .i64 0,.int .i64 0,.int .i64 0]) (t:=80) ?hr ?_;(case hd=>rfl);(case hg=>rfl);(case hr=>exact z6_7);intro gb hg w2 hbox hb;have HB:=Za hb;have BK:=Za hbox;have GE:Aside0 (wr.heap.size≤gb):=⟨Nat.le_of_eq hg.symm⟩;obtain⟨⟨_,_,_,_,_,_⟩,⟨_,_,_,_,_,_⟩⟩:=Sep.blk6 hbox;clear hb hbox hg)|((with_reducible refine Yk (t:=80) (p:=9) rfl ?_);refine Yj (t:=80) (p:=9) (v:= ?vo_) (w1:=Sep.put6 w2 gb (.int .i64 2) (.int .i64 x1) (.int .i64 x2) (.int .i64 x3) (.int .i64 x4) (.int .i64 x5)) ?hg ?ho ?hn ?hr ?_;(case hg=>rfl);(case ho=>rfl);(case hn=>rfl);(case hr=>exact z6_7);intro w3 hw;have BK3:=Za (hw ▸ Sep.put6_blk BK.out (.int .i64 2) (.int .i64 x1) (.int .i64 x2) (.int .i64 x3) (.int .i64 x4) (.int .i64 x5));have HB3:=Za (hw ▸ Sep.put6_below HB.out GE.out (.int .i64 2) (.int .i64 x1) (.int .i64 x2) (.int .i64 x3) (.int .i64 x4) (.int .i64 x5));clear hw BK HB;obtain⟨⟨_,_,_,_,_,_⟩,⟨_,_,_,_,_,_⟩⟩:=Sep.blk6 BK3.out)|fail)
         have HI3:=Za (runP_below HI.out HB3.out)
         have HA3:=Za (HAF.out.below HB3.out)
         obtain⟨v0,v1,v2,i1,i2,i3,i4,i5,iF,i6⟩:=HI3.out
         obtain⟨A0,c0,rfl,hc0,hC0⟩:=i2.open_
         have NG:Aside0 (gb≠g):=⟨fun h=>by have:=blk_lt i1;subst h;exact absurd BK3.out (by rw[i1];simp)⟩
         have BG:=Za i1
         have R0:=Za i2
         have R1:=Za i3
         have R2:=Za i4
         have DJ:=Za i5
         have HF:=Za iF
         have OLD:=Za i6
         have HC0:=Za hc0
         have HV0:=Za hC0
         obtain⟨⟨_,_,_,_,_,_,_⟩,⟨_,_,_⟩⟩:=blk7 i1
         clear i1 i2 i3 i4 i5 iF i6 hc0 hC0
         obtain⟨gv,eA,_,hcell,hfr,hput⟩:=R0.out.at_ x1 (of_eq_true p2) (of_eq_true q2)
         subst eA
         clear hcell hfr hput
         have hne1:gv≠g:=R0.out.ne BG.out (by decide) gv rfl
         have hne2:g≠gv:=fun h=>hne1 h.symm
         have hne5:gv≠gb:=R0.out.ne BK3.out (by decide) gv rfl
         have hne6:gb≠gv:=fun h=>hne5 h.symm
         have NF:Aside0 (¬F' gb):=⟨fun h=>absurd ((runP_lt HI.out).2 gb h) (Nat.not_lt.mpr GE.out)⟩
         go_region_held3 (fun w'=>w'.cell? ⟨g,0,none⟩=some (.slice (some ⟨gv,0,none⟩) v.length c0)∧w'.cell? ⟨gb,1,none⟩=some (.int .i64 x1)∧w'.cell? ⟨gb,2,none⟩=some (.int .i64 x2)) (go_keep)
          ((go_at_call 58;refine(spec_l12Sense.calls k1 w0 Al cl ll Ar cr lr at_ live g HLL.out HCL.out HRR.out HCR.out v s u x2 u' y F' _ HE.out ?_).mono ?_;(exact runP_below HI3.out z6_9);rintro e w4 ⟨rfl,hc4,F4,hI4,hA4⟩;have HA4:=Za ((Sep.After.of_below (F:=F') (z6_9:Below w3.heap.size w3 _)).trans hA4);have HC4:=Za (hc4.trans ((Zb (Zg BG.out (z6_9:Below w3.heap.size w3 _)) 0).trans rfl));have HI4:=Za hI4;have BK4:=Za (HA4.out.blk BK3.out NF.out);have R04:=Za (runP_row HI4.out HC4.out);obtain⟨hg1c,hg1f,hput⟩:=R04.out.in_ x1 (of_eq_true p2) (of_eq_true q2);have PUT4:=Za hput;have hc04:=HC4.out;obtain⟨⟨_,_,_,_,_,_⟩,⟨_,_,_,_,_,_⟩⟩:=Sep.blk6 BK4.out;clear hput hc4 hI4 hA4))
         go_wp2
         have HP:=runP_put HI4.out HC4.out (PUT4.out y)
         go_roundg k1
         case measure=>have:=HK1.out;omega
         case rel=>exact⟨wrap64 (i+1),(v.set x1.toNat y,s,u'),F4,by first|rfl|(simp;done)|(simp[*];done),H',⟨by have:=HK1.out;omega⟩,⟨HP.1⟩,⟨(HA3.out.trans HA4.out).trans HP.2⟩⟩
        ·rw[if_neg cb] at E2
         cases E2
       ·by_cases k3_:x0=3
        ·subst k3_
         simp only[execStep,if_true,if_false,show((3:Int)=1)=False from eq_false (by decide),show((3:Int)=2)=False from eq_false (by decide)] at A1
         obtain⟨y,E1,E2⟩:=Zl A1
         by_cases cb:s.length<17592186044415
         ·rw[if_pos cb] at E2
          cases E2
          have HE:=Za E1
          have HL:=Za cb
          clear A1 E1 cb c45 k1_ k2_
          go_wp2_with (first|((with_reducible refine Zp (N:=9) rfl ?_);refine Zt ?hg (N:=9) ?hd (cs:= #[.int .i64 0,.int .i64 0,.int .i64 0,.int .i64 0,.int .i64 0,.int .i64 0]) (t:=80) ?hr ?_;(case hd=>rfl);(case hg=>rfl);(case hr=>exact z6_7);intro gb hg w2 hbox hb;have HB:=Za hb;have BK:=Za hbox;have GE:Aside0 (wr.heap.size≤gb):=⟨Nat.le_of_eq hg.symm⟩;obtain⟨⟨_,_,_,_,_,_⟩,⟨_,_,_,_,_,_⟩⟩:=Sep.blk6 hbox;clear hb hbox hg)|((with_reducible refine Yk (t:=80) (p:=9) rfl ?_);refine Yj (t:=80) (p:=9) (v:= ?vo_) (w1:=Sep.put6 w2 gb (.int .i64 3) (.int .i64 x1) (.int .i64 x2) (.int .i64 x3) (.int .i64 x4) (.int .i64 x5)) ?hg ?ho ?hn ?hr ?_;(case hg=>rfl);(case ho=>rfl);(case hn=>rfl);(case hr=>exact z6_7);intro w3 hw;have BK3:=Za (hw ▸ Sep.put6_blk BK.out (.int .i64 3) (.int .i64 x1) (.int .i64 x2) (.int .i64 x3) (.int .i64 x4) (.int .i64 x5));have HB3:=Za (hw ▸ Sep.put6_below HB.out GE.out (.int .i64 3) (.int .i64 x1) (.int .i64 x2) (.int .i64 x3) (.int .i64 x4) (.int .i64 x5));clear hw BK HB;obtain⟨⟨_,_,_,_,_,_⟩,⟨_,_,_,_,_,_⟩⟩:=Sep.blk6 BK3.out)|fail)
          have HI3:=Za (runP_below HI.out HB3.out)
          have HA3:=Za (HAF.out.below HB3.out)
          obtain⟨v0,v1,v2,i1,i2,i3,i4,i5,iF,i6⟩:=HI3.out
          obtain⟨A0,c0,rfl,hc0,hC0⟩:=i2.open_
          have NG:Aside0 (gb≠g):=⟨fun h=>by have:=blk_lt i1;subst h;exact absurd BK3.out (by rw[i1];simp)⟩
          have BG:=Za i1
          have R0:=Za i2
          have R1:=Za i3
          have R2:=Za i4
          have DJ:=Za i5
          have HF:=Za iF
          have OLD:=Za i6
          have HC0:=Za hc0
          have HV0:=Za hC0
          obtain⟨⟨_,_,_,_,_,_,_⟩,⟨_,_,_⟩⟩:=blk7 i1
          clear i1 i2 i3 i4 i5 iF i6 hc0 hC0
          obtain⟨B1,d1,e1,_,_⟩:=R1.out.open_
          subst e1
          refine start_ (n:=17) (S:=fun w'=>w'.cell? ⟨g,0,none⟩=some (.slice A0 v.length c0)∧w'.cell? ⟨g,1,none⟩=some (.slice B1 s.length d1)∧w'.cell? ⟨gb,3,none⟩=some (.int .i64 x3)∧w'.cell? ⟨gb,4,none⟩=some (.int .i64 x4)∧w'.cell? ⟨gb,5,none⟩=some (.int .i64 x5)) (ds:=[16]) #[false,false,false,false,false,false,false,false,false,false,false,false,false,false,false,false,false] z6_15 rfl rfl ⟨(Zb (BG.out) 0).trans rfl,(Zb (BG.out) 1).trans rfl,(Zb (BK3.out) 3).trans rfl,(Zb (BK3.out) 4).trans rfl,(Zb (BK3.out) 5).trans rfl⟩ (fun hHeld=> ?_)
          refine pure_ (i:=0) (N:=some 56) (v:= ?_) (a':= ?_) #[true,false,false,false,false,false,false,false,false,false,false,false,false,false,false,false,false] rfl rfl z6_15 (fun _ _ _ h=>h) (Or.inl ⟨by rfl,?_⟩) ?_ ?_
          rotate_left
          ·intro w'
           go_simp
           with_reducible rfl
          rotate_left
          ·simp only[Act.put,Zq,Zr,Zs,i64_w,i32_w]
           rfl
          refine pure_ (i:=1) (N:=some 57) (v:= ?_) (a':= ?_) #[true,true,false,false,false,false,false,false,false,false,false,false,false,false,false,false,false] rfl rfl z6_15 (fun _ _ _ h=>h) (Or.inl ⟨by rfl,?_⟩) ?_ ?_
          rotate_left
          ·intro w'
           go_simp
           with_reducible rfl
          rotate_left
          ·simp only[Act.put,Zq,Zr,Zs,i64_w,i32_w]
           rfl
          refine pure_ (i:=2) (N:=some 58) (v:= ?_) (a':= ?_) #[true,true,true,false,false,false,false,false,false,false,false,false,false,false,false,false,false] rfl rfl z6_15 (fun _ _ _ h=>h) (Or.inl ⟨by rfl,?_⟩) ?_ ?_
          rotate_left
          ·intro w'
           go_simp
           with_reducible rfl
          rotate_left
          ·simp only[Act.put,Zq,Zr,Zs,i64_w,i32_w]
           rfl
          refine pure_ (i:=3) (N:=some 59) (v:= ?_) (a':= ?_) #[true,true,true,true,false,false,false,false,false,false,false,false,false,false,false,false,false] rfl rfl z6_15 (fun _ _ _ h=>h) (Or.inl ⟨by rfl,?_⟩) ?_ ?_
          rotate_left
          ·intro w'
           go_simp
           with_reducible rfl
          rotate_left
          ·simp only[Act.put,Zq,Zr,Zs,i64_w,i32_w]
           rfl
          refine pure_ (i:=5) (N:=some 61) (v:= ?_) (a':= ?_) #[true,true,true,true,false,true,false,false,false,false,false,false,false,false,false,false,false] rfl rfl z6_15 (fun _ _ _ h=>h) (Or.inl ⟨by rfl,?_⟩) ?_ ?_
          rotate_left
          ·intro w'
           go_simp
           with_reducible rfl
          rotate_left
          ·simp only[Act.put,Zq,Zr,Zs,i64_w,i32_w]
           rfl
          refine pure_ (i:=6) (N:=some 62) (v:= ?_) (a':= ?_) #[true,true,true,true,false,true,true,false,false,false,false,false,false,false,false,false,false] rfl rfl z6_15 (fun _ _ _ h=>h) (Or.inl ⟨by rfl,?_⟩) ?_ ?_
          rotate_left
          ·intro w'
           go_simp
           with_reducible rfl
          rotate_left
          ·simp only[Act.put,Zq,Zr,Zs,i64_w,i32_w]
           rfl
          refine pure_ (i:=7) (N:=some 63) (v:= ?_) (a':= ?_) #[true,true,true,true,false,true,true,true,false,false,false,false,false,false,false,false,false] rfl rfl z6_15 (fun _ _ _ h=>h) (Or.inl ⟨by rfl,?_⟩) ?_ ?_
          rotate_left
          ·intro w'
           go_simp
           with_reducible rfl
          rotate_left
          ·simp only[Act.put,Zq,Zr,Zs,i64_w,i32_w]
           rfl
          refine pure_ (i:=9) (N:=some 65) (v:= ?_) (a':= ?_) #[true,true,true,true,false,true,true,true,false,true,false,false,false,false,false,false,false] rfl rfl z6_15 (fun _ _ _ h=>h) (Or.inl ⟨by rfl,?_⟩) ?_ ?_
          rotate_left
          ·intro w'
           go_simp
           with_reducible rfl
          rotate_left
          ·simp only[Act.put,Zq,Zr,Zs,i64_w,i32_w]
           rfl
          refine take_ (i:=4) (N:=some 60) (v:= ?_) (a':= ?_) #[true,true,true,true,true,true,true,true,false,true,false,false,false,false,false,false,false] rfl rfl z6_15 (fun _ _ _ h=>h) (Or.inl ⟨by rfl,?_⟩) hHeld ?_ ?_
          rotate_left
          ·intro w' s0
           obtain⟨_,_,_,_,_⟩:=s0
           go_simp
           with_reducible rfl
          rotate_left
          ·simp only[Act.put,Zq,Zr,Zs,i64_w,i32_w]
           rfl
          refine take_ (i:=8) (N:=some 64) (v:= ?_) (a':= ?_) #[true,true,true,true,true,true,true,true,true,true,false,false,false,false,false,false,false] rfl rfl z6_15 (fun _ _ _ h=>h) (Or.inl ⟨by rfl,?_⟩) hHeld ?_ ?_
          rotate_left
          ·intro w' s0
           obtain⟨_,_,_,_,_⟩:=s0
           go_simp
           with_reducible rfl
          rotate_left
          ·simp only[Act.put,Zq,Zr,Zs,i64_w,i32_w]
           rfl
          refine take_ (i:=10) (N:=some 66) (v:= ?_) (a':= ?_) #[true,true,true,true,true,true,true,true,true,true,true,false,false,false,false,false,false] rfl rfl z6_15 (fun _ _ _ h=>h) (Or.inl ⟨by rfl,?_⟩) hHeld ?_ ?_
          rotate_left
          ·intro w' s0
           obtain⟨_,_,_,_,_⟩:=s0
           go_simp
           with_reducible rfl
          rotate_left
          ·simp only[Act.put,Zq,Zr,Zs,i64_w,i32_w]
           rfl
          refine one_ (i:=11) (N:=some 67) #[true,true,true,true,true,true,true,true,true,true,true,true,false,false,false,false,false] rfl rfl z6_15 (by decide) (fun K hK=> ?_)
          refine goes_ Try.func57 z6_15 rfl #[.slice A0 v.length c0,.agg #[.int .i64 x3,.int .i64 x4,.int .i64 x5]] (by rfl) rfl rfl (by(try simp only[List.map_toArray,List.map_cons,List.map_nil]);first|done|rfl) ?_
          refine(spec_l03Eval.calls k1 _ _ v x3 x4 x5 y _ ?_ HC0.out HE.out).mono ?_
          ·exact Yg HV0.out z6_9
          rintro e w4 ⟨rfl,hb4⟩
          refine⟨_,rfl,?_⟩
          have HB4:=Za (Zj (z6_9:Below w3.heap.size w3 _) hb4)
          have BK4:=Za (Zg BK3.out HB4.out)
          have BG4:=Za (Zg BG.out HB4.out)
          have R14:=Za (R1.out.below HB4.out)
          clear hb4
          refine hK _ _ ⟨(Zb (BG4.out) 0).trans rfl,(Zb (BG4.out) 1).trans rfl,(Zb (BK4.out) 3).trans rfl,(Zb (BK4.out) 4).trans rfl,(Zb (BK4.out) 5).trans rfl⟩ (fun hHeld=> ?_)
          clear hK K
          refine norm_ (a':= ?_) ?_ ?_
          rotate_left
          ·show Act.put _ (some 67) _=_
           simp only[Act.put,Zq,Zr,Zs,i64_w,i32_w]
           rfl
          refine one_ (i:=12) (N:=some 68) #[true,true,true,true,true,true,true,true,true,true,true,true,true,false,false,false,false] rfl rfl z6_15 (by decide) (fun K hK=> ?_)
          refine value_ (w1:= ?_) (v:= ?_) (by rfl) rfl ?_ ?_
          rotate_left 2
          ·go_simp
           constructor
           ·rfl
           ·rfl
          refine hK _ _ ⟨(Zb (blk_alloc (w:=w4) BG4.out _) 0).trans rfl,(Zb (blk_alloc (w:=w4) BG4.out _) 1).trans rfl,(Zb (blk_alloc (w:=w4) BK4.out _) 3).trans rfl,(Zb (blk_alloc (w:=w4) BK4.out _) 4).trans rfl,(Zb (blk_alloc (w:=w4) BK4.out _) 5).trans rfl⟩ (fun hHeld=> ?_)
          clear hK K
          refine norm_ (a':= ?_) ?_ ?_
          rotate_left
          ·show Act.put _ (some 68) _=_
           simp only[Act.put,Zq,Zr,Zs,i64_w,i32_w]
           rfl
          refine one_ (i:=13) (N:=some 69) #[true,true,true,true,true,true,true,true,true,true,true,true,true,true,false,false,false] rfl rfl z6_15 (by decide) (fun K hK=> ?_)
          refine Kd.R_append_step (w0:=w4) (Kd.int .i64) 0 (by rfl) (.tmp 60) (.tmp 68) 25 3 (.int .i64 0) 8 rfl Try.underlying25 info3 rfl (by decide) (by decide) (.slice B1 s.length d1) s y [.int .i64 y] (fun _=>True) (fun _=>False) rfl rfl rfl (fun _ hk=>hk.elim) (fun _ _=>trivial) (R14.out.to_R (fun _ _=>Nat.zero_le _) (fun _ _=>trivial)) (Yh _ _) (Nat.zero_le _) (by have:=HL.out;omega) ?_
          intro v3 w5 ho5 hb5 hg5 hat5
          obtain⟨B5,d5,e5⟩:=Yn ho5
          rw[List.length_append,List.length_singleton] at e5
          subst e5
          have R5:=Za (Sep.rowI.of_R ho5)
          have HG5:=Za hg5
          have HA5:=Za hat5
          have BG5:=Za (blk_grown BG4.out hg5 (fun h=>R1.out.ne BG.out (by decide) g h.symm rfl))
          have BK5:=Za (blk_grown BK4.out hg5 (fun h=>R1.out.ne BK3.out (by decide) gb h.symm rfl))
          clear ho5 hb5 hg5 hat5
          refine hK _ _ ⟨(Zb (BG5.out) 0).trans rfl,(Zb (BG5.out) 1).trans rfl,(Zb (BK5.out) 3).trans rfl,(Zb (BK5.out) 4).trans rfl,(Zb (BK5.out) 5).trans rfl⟩ (fun hHeld=> ?_)
          clear hK K
          refine norm_ (a':= ?_) ?_ ?_
          rotate_left
          ·show Act.put _ (some 69) _=_
           simp only[Act.put,Zq,Zr,Zs,i64_w,i32_w]
           rfl
          refine pure_ (i:=14) (N:=some 70) (v:= ?_) (a':= ?_) #[true,true,true,true,true,true,true,true,true,true,true,true,true,true,true,false,false] rfl rfl z6_15 (fun _ _ _ h=>h) (Or.inl ⟨by rfl,?_⟩) ?_ ?_
          rotate_left
          ·intro w'
           go_simp
           with_reducible rfl
          rotate_left
          ·simp only[Act.put,Zq,Zr,Zs,i64_w,i32_w]
           rfl
          refine pure_ (i:=15) (N:=some 71) (v:= ?_) (a':= ?_) #[true,true,true,true,true,true,true,true,true,true,true,true,true,true,true,true,false] rfl rfl z6_15 (fun _ _ _ h=>h) (Or.inl ⟨by rfl,?_⟩) ?_ ?_
          rotate_left
          ·intro w'
           go_simp
           with_reducible rfl
          rotate_left
          ·simp only[Act.put,Zq,Zr,Zs,i64_w,i32_w]
           rfl
          refine last_ (i:=16) (N:=none) #[true,true,true,true,true,true,true,true,true,true,true,true,true,true,true,true,true] rfl rfl z6_15 (by decide) (fun K hK=> ?_)
          have hG1:w5.cell? ⟨g,1,none⟩=some (.slice B1 s.length d1):=(Zb BG5.out 1).trans rfl
          have hfG:=Zc BG5.out 1
          refine skip_ (w1:= ?_) (by rfl) rfl ?_ ?_
          rotate_left
          ·go_simp
           rfl
          refine hK _ _ ?_
          clear hK K
          refine done_ z6_15 ?_
          go_wp2
          have HP:=runP_send (w:=w4) (w5:=w5) (w6:=w5.setCell ⟨g,1,none⟩ (.slice B5 (s.length+1) d5)) BG4.out (blk_put BG5.out 1 _ rfl) (R0.out.below HB4.out) R14.out (R2.out.below HB4.out) R5.out DJ.out HF.out (runP_old (runP_below HI3.out HB4.out)) HG5.out HA5.out (fun k hk=>Below.heap_setCell w5 ⟨g,1,none⟩ _ k hk) ⟨rfl,rfl,rfl,by simp[World.setCell]⟩
          obtain⟨F5,hI5,hA5⟩:=HP
          go_roundg k1
          case measure=>have:=HK1.out;omega
          case rel=>exact⟨wrap64 (i+1),(v,s++[y],u),F5,by first|rfl|(simp;done)|(simp[*];done),H',⟨by have:=HK1.out;omega⟩,⟨hI5⟩,⟨(HA3.out.below HB4.out).trans hA5⟩⟩
         ·rw[if_neg cb] at E2
          cases E2
        ·simp only[execStep] at A1
         rw[if_neg k1_,if_neg k2_,if_neg k3_] at A1
         cases A1
         have d1:(x0==1)=false:=beq_eq_false_iff_ne.mpr k1_
         have d2:(x0==2)=false:=beq_eq_false_iff_ne.mpr k2_
         have d3:(x0==3)=false:=beq_eq_false_iff_ne.mpr k3_
         have d4:(x0==4)=false:=beq_eq_false_iff_ne.mpr (fun h=>c45 (.inl h))
         have d5:(x0==5)=false:=beq_eq_false_iff_ne.mpr (fun h=>c45 (.inr h))
         clear c45 k1_ k2_ k3_
         go_wp2_with (first|((with_reducible refine Zp (N:=9) rfl ?_);refine Zt ?hg (N:=9) ?hd (cs:= #[.int .i64 0,.int .i64 0,.int .i64 0,.int .i64 0,.int .i64 0,.int .i64 0]) (t:=80) ?hr ?_;(case hd=>rfl);(case hg=>rfl);(case hr=>exact z6_7);intro gb hg w2 hbox hb;have HB:=Za hb;have BK:=Za hbox;have GE:Aside0 (wr.heap.size≤gb):=⟨Nat.le_of_eq hg.symm⟩;obtain⟨⟨_,_,_,_,_,_⟩,⟨_,_,_,_,_,_⟩⟩:=Sep.blk6 hbox;clear hb hbox hg)|((with_reducible refine Yk (t:=80) (p:=9) rfl ?_);refine Yj (t:=80) (p:=9) (v:= ?vo_) (w1:=Sep.put6 w2 gb (.int .i64 x0) (.int .i64 x1) (.int .i64 x2) (.int .i64 x3) (.int .i64 x4) (.int .i64 x5)) ?hg ?ho ?hn ?hr ?_;(case hg=>rfl);(case ho=>rfl);(case hn=>rfl);(case hr=>exact z6_7);intro w3 hw;have BK3:=Za (hw ▸ Sep.put6_blk BK.out (.int .i64 x0) (.int .i64 x1) (.int .i64 x2) (.int .i64 x3) (.int .i64 x4) (.int .i64 x5));have HB3:=Za (hw ▸ Sep.put6_below HB.out GE.out (.int .i64 x0) (.int .i64 x1) (.int .i64 x2) (.int .i64 x3) (.int .i64 x4) (.int .i64 x5));clear hw BK HB;obtain⟨⟨_,_,_,_,_,_⟩,⟨_,_,_,_,_,_⟩⟩:=Sep.blk6 BK3.out)|fail)
         go_roundg k1
         case measure=>have:=HK1.out;omega
         case rel=>exact⟨wrap64 (i+1),(v,s,u),F',by first|rfl|(simp;done)|(simp[*];done),H',⟨by have:=HK1.out;omega⟩,⟨runP_below HI.out HB3.out⟩,⟨HAF.out.below HB3.out⟩⟩
    ·rw[if_neg c2] at H
     exact absurd H (by simp)
   ·rw[if_neg c1] at H
    have c1b:decide (i<b)=false:=Yi c1
    obtain rfl:=Zk H
    clear H c1
    go_wp2
    go_end0
    exact⟨rfl,F',HI.out,HAF.out⟩
def spec_l06Next.f (k:Nat) (l0_0:List (S64)) (l1:List Int) (a2:Int):Option (Int):=if 0≤a2 then (if a2<(l0_0.length:Int) then ((spec_l03Eval.f k l1 ((rd_T64 l0_0 a2).f1.f0) ((rd_T64 l0_0 a2).f1.f1) ((rd_T64 l0_0 a2).f1.f2)).bind fun t173=>(if (l0_0.length:Int)=0 then (none) else (if (Int.tmod t173 (l0_0.length:Int))<0 then (some (wrap64 ((Int.tmod t173 (l0_0.length:Int))+(l0_0.length:Int)))) else (some (Int.tmod t173 (l0_0.length:Int)))))) else (none)) else (none)
def spec_l06Next.T1:Bool×List (List Nat×List Nat):=(true,[([],[]),([],[]),([1],[1]),([],[]),([2,3],[2,3]),([4],[4]),([5],[5]),([0,6],[0,6]),([],[]),([8],[8]),([9],[9]),([7,10],[7,10]),([11,7,0,1,2,3,4,5,6,7,8,9,10,11],[11])])
def spec_l06Next.B1:List Nat:=[0,0,2,0,14,30,62,127,0,256,768,2047,4095]
theorem spec_l06Next.tab1:rtab .any (opsOf Try.f43 1)=spec_l06Next.T1:=by kernel_rfl
theorem spec_l06Next.bits1:waitsOk spec_l06Next.T1.2 spec_l06Next.B1=true:=by kernel_rfl
set_option maxHeartbeats 8000000 in
set_option maxRecDepth 100000 in
theorem spec_l06Next.calls (k:Nat) (A0_0:Option Addr) (c0_0:Nat) (l0_0:List (S64)) (A1:Option Addr) (c1:Nat) (l1:List Int) (a2:Int) (r:Int) (w:World) (hr0_0:Kd.C k64 w A0_0 l0_0.length l0_0) (hc0_0:l0_0.length≤c0_0) (hr1:Kd.C (Kd.int .i64) w A1 l1.length l1) (hc1:l1.length≤c1) (h:spec_l06Next.f k l0_0 l1 a2=some r):
  Calls Try.prog 43 #[.agg #[.slice A0_0 l0_0.length c0_0],.slice A1 l1.length c1,.int .i64 a2] w fun e w'=>e= .returned (.int .i64 r)∧Below w.heap.size w w':=by
 have hu33:=Try.underlying33
 have hu62:=Try.underlying62
 have HR0_0:=Za hr0_0
 have HC0_0:=Za hc0_0
 clear hr0_0 hc0_0
 have HR1:=Za hr1
 have HC1:=Za hc1
 clear hr1 hc1
 have HB:=Za (Yh w.heap.size w)
 have H:(if 0≤a2 then (if a2<(l0_0.length:Int) then ((spec_l03Eval.f k l1 ((rd_T64 l0_0 a2).f1.f0) ((rd_T64 l0_0 a2).f1.f1) ((rd_T64 l0_0 a2).f1.f2)).bind fun t173=>(if (l0_0.length:Int)=0 then (none) else (if (Int.tmod t173 (l0_0.length:Int))<0 then (some (wrap64 ((Int.tmod t173 (l0_0.length:Int))+(l0_0.length:Int)))) else (some (Int.tmod t173 (l0_0.length:Int)))))) else (none)) else (none))=some r:=h
 clear h
 by_cases c4:0≤a2
 ·rw[if_pos c4] at H
  have c4b0:decide (0≤a2)=true:=Zx c4
  clear c4
  by_cases c5:a2<(l0_0.length:Int)
  ·rw[if_pos c5] at H
   have c5b0:decide (a2<(l0_0.length:Int))=true:=Zx c5
   clear c5
   replace H:=Zl H
   obtain⟨t173,A60,H⟩:=H
   replace H:(if (l0_0.length:Int)=0 then (none) else (if (Int.tmod t173 (l0_0.length:Int))<0 then (some (wrap64 ((Int.tmod t173 (l0_0.length:Int))+(l0_0.length:Int)))) else (some (Int.tmod t173 (l0_0.length:Int)))))=some r:=H
   have A6:=Za A60
   clear A60
   by_cases c7:(l0_0.length:Int)=0
   ·rw[if_pos c7] at H
    exact absurd H (by simp)
   ·rw[if_neg c7] at H
    have c7b0:((l0_0.length:Int)==0)=false:=beq_eq_false_iff_ne.mpr c7
    have c7b1:((l0_0.length:Int) != 0)=true:=bne_iff_ne.mpr c7
    have c7b2:¬(l0_0=[]):=fun h_=>c7 (by rw[h_];rfl)
    by_cases c8:(Int.tmod t173 (l0_0.length:Int))<0
    ·rw[if_pos c8] at H
     have c8b0:decide ((Int.tmod t173 (l0_0.length:Int))<0)=true:=Zx c8
     clear c8
     obtain rfl:=Zk H
     go_enter Try.func43,Try.ntmps43
     try go_wp2_with (first|((with_reducible refine Zp (N:=3) rfl ?_);refine Zt ?hg (N:=3) ?hd (cs:= #[.slice A0_0 l0_0.length c0_0]) (t:=33) ?hr ?_;(case hd=>rfl);(case hg=>rfl);(case hr=>exact z6_7);intro gb171 hg w9 hbox hb;have BK171:=Za (hbox);have GW171:=Za ((z6_25:w.heap.size≤gb171));have GE171:=Za ((z6_25:w.heap.size≤gb171));replace HB:=Za (Zj z6_1 hb);clear hb hbox hg))
     have n0_:=Za (blk_drew BK171.out)
     have n1_:=Za (Ze HB.out)
     clear BK171
     clear HB
     have BK171:=n0_
     have HB:=n1_
     clear n0_ n1_
     have p172:0≤(a2:Int):=Zv z6_12
     have q172:a2<(l0_0.length:Int):=Zv z6_12
     obtain⟨ad172,A172_0,c172_0,e172,hx172_0,hx172_1,hx172_2,hx172_3,hl172_0,hi172_0⟩:=at_T64 HR0_0.out a2 p172 q172
     have hw172_3:=hx172_3
     have hw172_2:=hx172_2
     have hw172_1:=hx172_1
     have hw172_0:=hx172_0
     cases e172
     replace hx172_0:=(HB.out.cell (Zi w _ hx172_0)).trans hx172_0
     replace hx172_1:=(HB.out.cell (Zi w _ hx172_1)).trans hx172_1
     replace hx172_2:=(HB.out.cell (Zi w _ hx172_2)).trans hx172_2
     replace hx172_3:=(HB.out.cell (Zi w _ hx172_3)).trans hx172_3
     have HR172_0:=Za hi172_0
     have HC172_0:=Za hl172_0
     clear hi172_0 hl172_0
     replace p172:=eq_true p172
     replace q172:=eq_true q172
     refine start_ (n:=13) (S:=fun w'=>w'.cell? ⟨gb171,0,none⟩=some (.slice (some ad172) l0_0.length c0_0)∧w'.cell? (ad172.add ((a2).toNat*4))=some (.slice A172_0 ((rd_T64 l0_0 a2).f0).length c172_0)∧w'.cell? ⟨(ad172.add ((a2).toNat*4)).block,(ad172.add ((a2).toNat*4)).off+1,none⟩=some (.int .i64 ((rd_T64 l0_0 a2).f1.f0))∧w'.cell? ⟨(ad172.add ((a2).toNat*4)).block,(ad172.add ((a2).toNat*4)).off+2,none⟩=some (.int .i64 ((rd_T64 l0_0 a2).f1.f1))∧w'.cell? ⟨(ad172.add ((a2).toNat*4)).block,(ad172.add ((a2).toNat*4)).off+3,none⟩=some (.int .i64 ((rd_T64 l0_0 a2).f1.f2))) (ds:=[]) #[false,false,false,false,false,false,false,false,false,false,false,false,false] z6_15 rfl rfl ⟨(Zb BK171.out 0).trans rfl,((HB.out.cell (Zi w _ hw172_0)).trans hw172_0),((HB.out.cell (Zi w _ hw172_1)).trans hw172_1),((HB.out.cell (Zi w _ hw172_2)).trans hw172_2),((HB.out.cell (Zi w _ hw172_3)).trans hw172_3)⟩ (fun hHeld=> ?_);refine with_tabW spec_l06Next.tab1 spec_l06Next.bits1 (fun HT_ HW_=> ?_)
     generalize w9.drew=w10 at BK171 HB HR172_0 hx172_0 hx172_1 hx172_2 hx172_3 hHeld ⊢
     refine pure_ (i:=0) (N:=some 8) (v:= ?_) (a':= ?_) #[true,false,false,false,false,false,false,false,false,false,false,false,false] rfl rfl (any_of HT_.out z6_15) (fun _ _ _ h=>h) (Or.inl ⟨by rfl,?_⟩) ?_ ?_
     rotate_left
     ·intro w'
      go_simp
      with_reducible rfl
     rotate_left
     ·simp only[Act.put,Zq,Zr,Zs,i64_w,i32_w]
      rfl
     refine pure_ (i:=1) (N:=some 9) (v:= ?_) (a':= ?_) #[true,true,false,false,false,false,false,false,false,false,false,false,false] rfl rfl (any_of HT_.out z6_15) (fun _ _ _ h=>h) (Or.inl ⟨by rfl,?_⟩) ?_ ?_
     rotate_left
     ·intro w'
      go_simp
      with_reducible rfl
     rotate_left
     ·simp only[Act.put,Zq,Zr,Zs,i64_w,i32_w]
      rfl
     refine pure_ (i:=3) (N:=some 11) (v:= ?_) (a':= ?_) #[true,true,false,true,false,false,false,false,false,false,false,false,false] rfl rfl (any_of HT_.out z6_15) (fun _ _ _ h=>h) (Or.inl ⟨by rfl,?_⟩) ?_ ?_
     rotate_left
     ·intro w'
      go_simp
      with_reducible rfl
     rotate_left
     ·simp only[Act.put,Zq,Zr,Zs,i64_w,i32_w]
      rfl
     refine pure_ (i:=8) (N:=some 16) (v:= ?_) (a':= ?_) #[true,true,false,true,false,false,false,false,true,false,false,false,false] rfl rfl (any_of HT_.out z6_15) (fun _ _ _ h=>h) (Or.inl ⟨by rfl,?_⟩) ?_ ?_
     rotate_left
     ·intro w'
      go_simp
      with_reducible rfl
     rotate_left
     ·simp only[Act.put,Zq,Zr,Zs,i64_w,i32_w]
      rfl
     refine take_ (i:=2) (N:=some 10) (v:= ?_) (a':= ?_) #[true,true,true,true,false,false,false,false,true,false,false,false,false] rfl rfl (take_ofW HT_.out HW_.out z6_15) (fun _ _ _ h=>h) (Or.inl ⟨by rfl,?_⟩) hHeld ?_ ?_
     rotate_left
     ·rintro w' ⟨s0,s1,s2,s3,s4⟩
      go_simp
      with_reducible rfl
     rotate_left
     ·simp only[Act.put,Zq,Zr,Zs,i64_w,i32_w]
      rfl
     refine pure_ (i:=4) (N:=some 12) (v:= ?_) (a':= ?_) #[true,true,true,true,true,false,false,false,true,false,false,false,false] rfl rfl (any_of HT_.out z6_15) (fun _ _ _ h=>h) (Or.inl ⟨by rfl,?_⟩) ?_ ?_
     rotate_left
     ·intro w'
      go_simp
      with_reducible rfl
     rotate_left
     ·simp only[Act.put,Zq,Zr,Zs,i64_w,i32_w]
      rfl
     refine pure_ (i:=5) (N:=some 13) (v:= ?_) (a':= ?_) #[true,true,true,true,true,true,false,false,true,false,false,false,false] rfl rfl (any_of HT_.out z6_15) (fun _ _ _ h=>h) (Or.inl ⟨by rfl,?_⟩) ?_ ?_
     rotate_left
     ·intro w'
      go_simp
      with_reducible rfl
     rotate_left
     ·simp only[Act.put,Zq,Zr,Zs,i64_w,i32_w]
      rfl
     refine take_ (i:=6) (N:=some 14) (v:= ?_) (a':= ?_) #[true,true,true,true,true,true,true,false,true,false,false,false,false] rfl rfl (take_ofW HT_.out HW_.out z6_15) (fun _ _ _ h=>h) (Or.inl ⟨by rfl,?_⟩) hHeld ?_ ?_
     rotate_left
     ·rintro w' ⟨s0,s1,s2,s3,s4⟩
      go_simp
      with_reducible rfl
     rotate_left
     ·simp only[Act.put,Zq,Zr,Zs,i64_w,i32_w]
      rfl
     refine take_ (i:=9) (N:=some 17) (v:= ?_) (a':= ?_) #[true,true,true,true,true,true,true,false,true,true,false,false,false] rfl rfl (take_ofW HT_.out HW_.out z6_15) (fun _ _ _ h=>h) (Or.inl ⟨by rfl,?_⟩) hHeld ?_ ?_
     rotate_left
     ·rintro w' ⟨s0,s1,s2,s3,s4⟩
      go_simp
      with_reducible rfl
     rotate_left
     ·simp only[Act.put,Zq,Zr,Zs,i64_w,i32_w]
      rfl
     refine pure_ (i:=10) (N:=some 18) (v:= ?_) (a':= ?_) #[true,true,true,true,true,true,true,false,true,true,true,false,false] rfl rfl (any_of HT_.out z6_15) (fun _ _ _ h=>h) (Or.inl ⟨by rfl,?_⟩) ?_ ?_
     rotate_left
     ·intro w'
      go_simp
      with_reducible rfl
     rotate_left
     ·simp only[Act.put,Zq,Zr,Zs,i64_w,i32_w]
      rfl
     refine one_ (i:=7) (N:=some 15) #[true,true,true,true,true,true,true,true,true,true,true,false,false] rfl rfl (one_of HT_.out z6_15) (by decide) (fun K hK=> ?_)
     refine goes_ Try.func57 z6_15 rfl #[.slice A1 l1.length c1,.agg #[.int .i64 ((rd_T64 l0_0 a2).f1.f0),.int .i64 ((rd_T64 l0_0 a2).f1.f1),.int .i64 ((rd_T64 l0_0 a2).f1.f2)]] (by rfl) rfl rfl z6_8 ?_
     with_reducible refine(spec_l03Eval.calls k _ _ l1 ((rd_T64 l0_0 a2).f1.f0) ((rd_T64 l0_0 a2).f1.f1) ((rd_T64 l0_0 a2).f1.f2) t173 _ ?side1 ?side2 A6.out).mono ?_
     (case side1=>repeat(first|exact(Yg HR1.out HB.out)|(with_reducible refine Yc ?_ _)|(with_reducible refine Yd ?_ _)|(with_reducible refine Ye ?_)))
     (case side2=>exact HC1.out)
     rintro e w11 ⟨rfl,hb⟩
     refine⟨_,rfl,?_⟩
     have n0_:=Za (Zg (g:=gb171) (o:= .cells #[.slice (some ad172) l0_0.length c0_0] 33 (0,0)) (by(with_reducible repeat(first|refine blk_drewN ?_ _|refine blk_drew ?_|refine blk_alloc ?_ _));exact BK171.out) hb)
     have n1_:=Za (Zj (by repeat(first|(with_reducible first|exact HB.out|apply Zh|apply Zf|apply Ze|refine Zd ?_ GE171.out)|exact HB.out)) hb)
     clear BK171
     clear HB
     have BK171:=n0_
     have HB:=n1_
     clear n0_ n1_
     (try clear hb)
     (try clear hb2)
     (try clear hk)
     (try clear hi)
     refine hK.out _ _ ⟨(Zb BK171.out 0).trans rfl,((HB.out.cell (Zi w _ hw172_0)).trans hw172_0),((HB.out.cell (Zi w _ hw172_1)).trans hw172_1),((HB.out.cell (Zi w _ hw172_2)).trans hw172_2),((HB.out.cell (Zi w _ hw172_3)).trans hw172_3)⟩ (fun hHeld=> ?_)
     clear hK K
     refine norm_ (a':= ?_) ?_ ?_
     rotate_left
     ·show Act.put _ (some 15) _=_
      simp only[Act.put,Zq,Zr,Zs,i64_w,i32_w]
      rfl
     refine pure_ (i:=11) (N:=some 19) (v:= ?_) (a':= ?_) #[true,true,true,true,true,true,true,true,true,true,true,true,false] rfl rfl (any_of HT_.out z6_15) (fun _ _ _ h=>h) (Or.inl ⟨by rfl,?_⟩) ?_ ?_
     rotate_left
     ·intro w'
      go_simp
      with_reducible rfl
     rotate_left
     ·simp only[Act.put,Zq,Zr,Zs,i64_w,i32_w]
      rfl
     refine pure_ (i:=12) (N:=some 7) (v:= ?_) (a':= ?_) #[true,true,true,true,true,true,true,true,true,true,true,true,true] rfl rfl (any_of HT_.out z6_15) (fun _ _ _ h=>h) (Or.inl ⟨by rfl,?_⟩) ?_ ?_
     rotate_left
     ·intro w'
      go_simp
      with_reducible rfl
     rotate_left
     ·simp only[Act.put,Zq,Zr,Zs,i64_w,i32_w]
      rfl
     refine done_ (done_of HT_.out z6_15) ?_
     have hcz12_0:w11.cell? ⟨gb171,0,none⟩=some (.slice (some ad172) l0_0.length c0_0):=(Zb BK171.out 0).trans rfl
     have hfz12_0:=Zc BK171.out 0
     try go_wp2
     go_ret
     exact⟨by first|rfl|(simp[errW_none,errW_some]<;>rfl)|(simp[*,errW_none,errW_some]<;>rfl)|(simp[*,errW_none,errW_some,i64_w];done),by repeat(first|(with_reducible first|exact HB.out|apply Zh|apply Zf|apply Ze|refine Zd ?_ GE171.out)|exact HB.out)⟩
    ·rw[if_neg c8] at H
     have c8b0:decide ((Int.tmod t173 (l0_0.length:Int))<0)=false:=Yi c8
     clear c8
     obtain rfl:=Zk H
     go_enter Try.func43,Try.ntmps43
     try go_wp2_with (first|((with_reducible refine Zp (N:=3) rfl ?_);refine Zt ?hg (N:=3) ?hd (cs:= #[.slice A0_0 l0_0.length c0_0]) (t:=33) ?hr ?_;(case hd=>rfl);(case hg=>rfl);(case hr=>exact z6_7);intro gb171 hg w13 hbox hb;have BK171:=Za (hbox);have GW171:=Za ((z6_25:w.heap.size≤gb171));have GE171:=Za ((z6_25:w.heap.size≤gb171));replace HB:=Za (Zj z6_1 hb);clear hb hbox hg))
     have n0_:=Za (blk_drew BK171.out)
     have n1_:=Za (Ze HB.out)
     clear BK171
     clear HB
     have BK171:=n0_
     have HB:=n1_
     clear n0_ n1_
     have p172:0≤(a2:Int):=Zv z6_12
     have q172:a2<(l0_0.length:Int):=Zv z6_12
     obtain⟨ad172,A172_0,c172_0,e172,hx172_0,hx172_1,hx172_2,hx172_3,hl172_0,hi172_0⟩:=at_T64 HR0_0.out a2 p172 q172
     have hw172_3:=hx172_3
     have hw172_2:=hx172_2
     have hw172_1:=hx172_1
     have hw172_0:=hx172_0
     cases e172
     replace hx172_0:=(HB.out.cell (Zi w _ hx172_0)).trans hx172_0
     replace hx172_1:=(HB.out.cell (Zi w _ hx172_1)).trans hx172_1
     replace hx172_2:=(HB.out.cell (Zi w _ hx172_2)).trans hx172_2
     replace hx172_3:=(HB.out.cell (Zi w _ hx172_3)).trans hx172_3
     have HR172_0:=Za hi172_0
     have HC172_0:=Za hl172_0
     clear hi172_0 hl172_0
     replace p172:=eq_true p172
     replace q172:=eq_true q172
     refine start_ (n:=13) (S:=fun w'=>w'.cell? ⟨gb171,0,none⟩=some (.slice (some ad172) l0_0.length c0_0)∧w'.cell? (ad172.add ((a2).toNat*4))=some (.slice A172_0 ((rd_T64 l0_0 a2).f0).length c172_0)∧w'.cell? ⟨(ad172.add ((a2).toNat*4)).block,(ad172.add ((a2).toNat*4)).off+1,none⟩=some (.int .i64 ((rd_T64 l0_0 a2).f1.f0))∧w'.cell? ⟨(ad172.add ((a2).toNat*4)).block,(ad172.add ((a2).toNat*4)).off+2,none⟩=some (.int .i64 ((rd_T64 l0_0 a2).f1.f1))∧w'.cell? ⟨(ad172.add ((a2).toNat*4)).block,(ad172.add ((a2).toNat*4)).off+3,none⟩=some (.int .i64 ((rd_T64 l0_0 a2).f1.f2))) (ds:=[]) #[false,false,false,false,false,false,false,false,false,false,false,false,false] z6_15 rfl rfl ⟨(Zb BK171.out 0).trans rfl,((HB.out.cell (Zi w _ hw172_0)).trans hw172_0),((HB.out.cell (Zi w _ hw172_1)).trans hw172_1),((HB.out.cell (Zi w _ hw172_2)).trans hw172_2),((HB.out.cell (Zi w _ hw172_3)).trans hw172_3)⟩ (fun hHeld=> ?_);refine with_tabW spec_l06Next.tab1 spec_l06Next.bits1 (fun HT_ HW_=> ?_)
     generalize w13.drew=w14 at BK171 HB HR172_0 hx172_0 hx172_1 hx172_2 hx172_3 hHeld ⊢
     refine pure_ (i:=0) (N:=some 8) (v:= ?_) (a':= ?_) #[true,false,false,false,false,false,false,false,false,false,false,false,false] rfl rfl (any_of HT_.out z6_15) (fun _ _ _ h=>h) (Or.inl ⟨by rfl,?_⟩) ?_ ?_
     rotate_left
     ·intro w'
      go_simp
      with_reducible rfl
     rotate_left
     ·simp only[Act.put,Zq,Zr,Zs,i64_w,i32_w]
      rfl
     refine pure_ (i:=1) (N:=some 9) (v:= ?_) (a':= ?_) #[true,true,false,false,false,false,false,false,false,false,false,false,false] rfl rfl (any_of HT_.out z6_15) (fun _ _ _ h=>h) (Or.inl ⟨by rfl,?_⟩) ?_ ?_
     rotate_left
     ·intro w'
      go_simp
      with_reducible rfl
     rotate_left
     ·simp only[Act.put,Zq,Zr,Zs,i64_w,i32_w]
      rfl
     refine pure_ (i:=3) (N:=some 11) (v:= ?_) (a':= ?_) #[true,true,false,true,false,false,false,false,false,false,false,false,false] rfl rfl (any_of HT_.out z6_15) (fun _ _ _ h=>h) (Or.inl ⟨by rfl,?_⟩) ?_ ?_
     rotate_left
     ·intro w'
      go_simp
      with_reducible rfl
     rotate_left
     ·simp only[Act.put,Zq,Zr,Zs,i64_w,i32_w]
      rfl
     refine pure_ (i:=8) (N:=some 16) (v:= ?_) (a':= ?_) #[true,true,false,true,false,false,false,false,true,false,false,false,false] rfl rfl (any_of HT_.out z6_15) (fun _ _ _ h=>h) (Or.inl ⟨by rfl,?_⟩) ?_ ?_
     rotate_left
     ·intro w'
      go_simp
      with_reducible rfl
     rotate_left
     ·simp only[Act.put,Zq,Zr,Zs,i64_w,i32_w]
      rfl
     refine take_ (i:=2) (N:=some 10) (v:= ?_) (a':= ?_) #[true,true,true,true,false,false,false,false,true,false,false,false,false] rfl rfl (take_ofW HT_.out HW_.out z6_15) (fun _ _ _ h=>h) (Or.inl ⟨by rfl,?_⟩) hHeld ?_ ?_
     rotate_left
     ·rintro w' ⟨s0,s1,s2,s3,s4⟩
      go_simp
      with_reducible rfl
     rotate_left
     ·simp only[Act.put,Zq,Zr,Zs,i64_w,i32_w]
      rfl
     refine pure_ (i:=4) (N:=some 12) (v:= ?_) (a':= ?_) #[true,true,true,true,true,false,false,false,true,false,false,false,false] rfl rfl (any_of HT_.out z6_15) (fun _ _ _ h=>h) (Or.inl ⟨by rfl,?_⟩) ?_ ?_
     rotate_left
     ·intro w'
      go_simp
      with_reducible rfl
     rotate_left
     ·simp only[Act.put,Zq,Zr,Zs,i64_w,i32_w]
      rfl
     refine pure_ (i:=5) (N:=some 13) (v:= ?_) (a':= ?_) #[true,true,true,true,true,true,false,false,true,false,false,false,false] rfl rfl (any_of HT_.out z6_15) (fun _ _ _ h=>h) (Or.inl ⟨by rfl,?_⟩) ?_ ?_
     rotate_left
     ·intro w'
      go_simp
      with_reducible rfl
     rotate_left
     ·simp only[Act.put,Zq,Zr,Zs,i64_w,i32_w]
      rfl
     refine take_ (i:=6) (N:=some 14) (v:= ?_) (a':= ?_) #[true,true,true,true,true,true,true,false,true,false,false,false,false] rfl rfl (take_ofW HT_.out HW_.out z6_15) (fun _ _ _ h=>h) (Or.inl ⟨by rfl,?_⟩) hHeld ?_ ?_
     rotate_left
     ·rintro w' ⟨s0,s1,s2,s3,s4⟩
      go_simp
      with_reducible rfl
     rotate_left
     ·simp only[Act.put,Zq,Zr,Zs,i64_w,i32_w]
      rfl
     refine take_ (i:=9) (N:=some 17) (v:= ?_) (a':= ?_) #[true,true,true,true,true,true,true,false,true,true,false,false,false] rfl rfl (take_ofW HT_.out HW_.out z6_15) (fun _ _ _ h=>h) (Or.inl ⟨by rfl,?_⟩) hHeld ?_ ?_
     rotate_left
     ·rintro w' ⟨s0,s1,s2,s3,s4⟩
      go_simp
      with_reducible rfl
     rotate_left
     ·simp only[Act.put,Zq,Zr,Zs,i64_w,i32_w]
      rfl
     refine pure_ (i:=10) (N:=some 18) (v:= ?_) (a':= ?_) #[true,true,true,true,true,true,true,false,true,true,true,false,false] rfl rfl (any_of HT_.out z6_15) (fun _ _ _ h=>h) (Or.inl ⟨by rfl,?_⟩) ?_ ?_
     rotate_left
     ·intro w'
      go_simp
      with_reducible rfl
     rotate_left
     ·simp only[Act.put,Zq,Zr,Zs,i64_w,i32_w]
      rfl
     refine one_ (i:=7) (N:=some 15) #[true,true,true,true,true,true,true,true,true,true,true,false,false] rfl rfl (one_of HT_.out z6_15) (by decide) (fun K hK=> ?_)
     refine goes_ Try.func57 z6_15 rfl #[.slice A1 l1.length c1,.agg #[.int .i64 ((rd_T64 l0_0 a2).f1.f0),.int .i64 ((rd_T64 l0_0 a2).f1.f1),.int .i64 ((rd_T64 l0_0 a2).f1.f2)]] (by rfl) rfl rfl z6_8 ?_
     with_reducible refine(spec_l03Eval.calls k _ _ l1 ((rd_T64 l0_0 a2).f1.f0) ((rd_T64 l0_0 a2).f1.f1) ((rd_T64 l0_0 a2).f1.f2) t173 _ ?side1 ?side2 A6.out).mono ?_
     (case side1=>repeat(first|exact(Yg HR1.out HB.out)|(with_reducible refine Yc ?_ _)|(with_reducible refine Yd ?_ _)|(with_reducible refine Ye ?_)))
     (case side2=>exact HC1.out)
     rintro e w15 ⟨rfl,hb⟩
     refine⟨_,rfl,?_⟩
     have n0_:=Za (Zg (g:=gb171) (o:= .cells #[.slice (some ad172) l0_0.length c0_0] 33 (0,0)) (by(with_reducible repeat(first|refine blk_drewN ?_ _|refine blk_drew ?_|refine blk_alloc ?_ _));exact BK171.out) hb)
     have n1_:=Za (Zj (by repeat(first|(with_reducible first|exact HB.out|apply Zh|apply Zf|apply Ze|refine Zd ?_ GE171.out)|exact HB.out)) hb)
     clear BK171
     clear HB
     have BK171:=n0_
     have HB:=n1_
     clear n0_ n1_
     (try clear hb)
     (try clear hb2)
     (try clear hk)
     (try clear hi)
     refine hK.out _ _ ⟨(Zb BK171.out 0).trans rfl,((HB.out.cell (Zi w _ hw172_0)).trans hw172_0),((HB.out.cell (Zi w _ hw172_1)).trans hw172_1),((HB.out.cell (Zi w _ hw172_2)).trans hw172_2),((HB.out.cell (Zi w _ hw172_3)).trans hw172_3)⟩ (fun hHeld=> ?_)
     clear hK K
     refine norm_ (a':= ?_) ?_ ?_
     rotate_left
     ·show Act.put _ (some 15) _=_
      simp only[Act.put,Zq,Zr,Zs,i64_w,i32_w]
      rfl
     refine pure_ (i:=11) (N:=some 19) (v:= ?_) (a':= ?_) #[true,true,true,true,true,true,true,true,true,true,true,true,false] rfl rfl (any_of HT_.out z6_15) (fun _ _ _ h=>h) (Or.inl ⟨by rfl,?_⟩) ?_ ?_
     rotate_left
     ·intro w'
      go_simp
      with_reducible rfl
     rotate_left
     ·simp only[Act.put,Zq,Zr,Zs,i64_w,i32_w]
      rfl
     refine pure_ (i:=12) (N:=some 7) (v:= ?_) (a':= ?_) #[true,true,true,true,true,true,true,true,true,true,true,true,true] rfl rfl (any_of HT_.out z6_15) (fun _ _ _ h=>h) (Or.inl ⟨by rfl,?_⟩) ?_ ?_
     rotate_left
     ·intro w'
      go_simp
      with_reducible rfl
     rotate_left
     ·simp only[Act.put,Zq,Zr,Zs,i64_w,i32_w]
      rfl
     refine done_ (done_of HT_.out z6_15) ?_
     try go_wp2
     go_ret
     exact⟨by first|rfl|(simp[errW_none,errW_some]<;>rfl)|(simp[*,errW_none,errW_some]<;>rfl)|(simp[*,errW_none,errW_some,i64_w];done),by repeat(first|(with_reducible first|exact HB.out|apply Zh|apply Zf|apply Ze|refine Zd ?_ GE171.out)|exact HB.out)⟩
  ·rw[if_neg c5] at H
   exact absurd H (by simp)
 ·rw[if_neg c4] at H
  exact absurd H (by simp)
abbrev put7 (w:World) (g:Nat) (v0 v1 v2 v3 v4 v5 v6:Value):World:=
 ((((((w.setCell ⟨g,0,none⟩ v0).setCell ⟨g,1,none⟩ v1).setCell ⟨g,2,none⟩ v2).setCell ⟨g,3,none⟩ v3).setCell ⟨g,4,none⟩ v4).setCell ⟨g,5,none⟩ v5).setCell ⟨g,6,none⟩ v6
theorem put7_blk {w:World} {g:Nat} {t:TypeId} {u0 u1 u2 u3 u4 u5 u6:Value} (h:w.heap[g]? =some (.cells #[u0,u1,u2,u3,u4,u5,u6] t (0,0))) (v0 v1 v2 v3 v4 v5 v6:Value):
  (put7 w g v0 v1 v2 v3 v4 v5 v6).heap[g]? =some (.cells #[v0,v1,v2,v3,v4,v5,v6] t (0,0)):=by
 refine blk_put (cs:= #[v0,v1,v2,v3,v4,v5,u6]) ?_ 6 _ rfl
 refine blk_put (cs:= #[v0,v1,v2,v3,v4,u5,u6]) ?_ 5 _ rfl
 refine blk_put (cs:= #[v0,v1,v2,v3,u4,u5,u6]) ?_ 4 _ rfl
 refine blk_put (cs:= #[v0,v1,v2,u3,u4,u5,u6]) ?_ 3 _ rfl
 refine blk_put (cs:= #[v0,v1,u2,u3,u4,u5,u6]) ?_ 2 _ rfl
 refine blk_put (cs:= #[v0,u1,u2,u3,u4,u5,u6]) ?_ 1 _ rfl
 exact blk_put (cs:= #[u0,u1,u2,u3,u4,u5,u6]) h 0 _ rfl
theorem put7_below {w0 w:World} {g:Nat} (h:Below w0.heap.size w0 w) (hg:w0.heap.size≤g) (v0 v1 v2 v3 v4 v5 v6:Value):Below w0.heap.size w0 (put7 w g v0 v1 v2 v3 v4 v5 v6):=
 Zd (Zd (Zd (Zd (Zd (Zd (Zd h hg) hg) hg) hg) hg) hg) hg
theorem put7_far {w:World} {g k:Nat} (h:k≠g) (v0 v1 v2 v3 v4 v5 v6:Value):(put7 w g v0 v1 v2 v3 v4 v5 v6).heap[k]? =w.heap[k]? :=by
 unfold put7
 rw[Below.heap_setCell _ _ _ k h,Below.heap_setCell _ _ _ k h,Below.heap_setCell _ _ _ k h,Below.heap_setCell _ _ _ k h,Below.heap_setCell _ _ _ k h,Below.heap_setCell _ _ _ k h,Below.heap_setCell _ _ _ k h]
def spec_l12Effect.f (k:Nat) (l0:List S64) (a1:Int) (l2 l3:List Int):Option (List Int×List Int×Int×Int):=
 if l2.length<17592186044416∧0≤a1∧a1<(l0.length:Int) then (spec_l12Exec.f l3 [] 0 false k (rd_T64 l0 a1).f0 0 ((rd_T64 l0 a1).f0.length:Int) (l2,[],[])).bind fun r=>(spec_l06Next.f k l0 r.1 a1).bind fun x=>some (r.1,r.2.1,x,(r.2.2.length:Int)) else none
set_option maxHeartbeats 8000000 in
set_option maxRecDepth 100000 in
theorem spec_l12Effect.calls (k:Nat) (A0:Option Addr) (c0:Nat) (l0:List S64) (a1:Int) (A2:Option Addr) (c2:Nat) (l2:List Int) (A3:Option Addr) (c3:Nat) (l3:List Int) (r1 r2:List Int) (r3 r4:Int) (w:World)
  (hr0:Kd.C k64 w A0 l0.length l0) (hc0:l0.length≤c0) (hr2:Kd.C (Kd.int .i64) w A2 l2.length l2) (hc2:l2.length≤c2) (hr3:Kd.C (Kd.int .i64) w A3 l3.length l3) (hc3:l3.length≤c3) (h:spec_l12Effect.f k l0 a1 l2 l3=some (r1,r2,r3,r4)):
  Calls Try.prog 25 #[.agg #[.slice A0 l0.length c0],.int .i64 a1,.slice A2 l2.length c2,.slice A3 l3.length c3] w fun e w'=>∃v0_ v1_:Value,e= .returned (.agg #[v0_,v1_,.int .i64 r3,.int .i64 r4])∧
   Kd.R (Kd.int .i64) 3 w' w.heap.size (fun k_=>some k_≠(v1_:Value).ownBlock) v0_ r1∧Kd.R (Kd.int .i64) 3 w' w.heap.size (fun k_=>some k_≠(v0_:Value).ownBlock) v1_ r2∧Below w.heap.size w w':=by
 unfold spec_l12Effect.f at h
 by_cases ca:l2.length<17592186044416∧0≤a1∧a1<(l0.length:Int)
 ·rw[if_pos ca] at h
  obtain⟨⟨s1,s2,s3⟩,h3,h4⟩:=Zl h
  obtain⟨n,h5,h6⟩:=Zl h4
  simp only[Option.some.injEq,Prod.mk.injEq] at h6
  obtain⟨rfl,rfl,rfl,rfl⟩:=h6
  have hu33:=Try.underlying33
  have hu57:=Try.underlying57
  have hu64:=Try.underlying64
  have HR0:=Za hr0
  have HC0:=Za hc0
  have HR2:=Za hr2
  have HC2:=Za hc2
  have HR3:=Za hr3
  have HC3:=Za hc3
  have H3:=Za h3
  have H5:=Za h5
  obtain⟨ad,A1,c1,e,hx0,hx1,hx2,hx3,hl1,hi1⟩:=at_T64 hr0 a1 ca.2.1 ca.2.2
  cases e
  obtain⟨tb,htb⟩:∃tb,(rd_T64 l0 a1).f0=tb:=⟨_,rfl⟩
  rw[htb] at hx0 hl1 hi1 H3
  have HX0:=Za hx0
  have HL1:=Za hl1
  have HI1:=Za hi1
  have p1:=eq_true ca.2.1
  have q1:=eq_true ca.2.2
  obtain⟨y0,hy0⟩:∃y_:List Int,y_=([]:List Int):=⟨_,rfl⟩
  obtain⟨y1,hy1⟩:∃y_:List Int,y_=y0++l2:=⟨_,rfl⟩
  have e1:y1=l2:=by rw[hy1,hy0,List.nil_append]
  have LM:=Za (show y0.length+l2.length<17592186044416 by rw[hy0];simpa using ca.1)
  have N0:=Za hy0
  have N1:=Za hy1
  have E1:=Za e1
  clear hr0 hc0 hr2 hc2 hr3 hc3 h3 h5 h h4 hx0 hx1 hx2 hx3 hl1 hi1 ca hy0 hy1 e1 htb
  go_enter Try.func25,Try.ntmps25
  go_wp2_with (first
   |((with_reducible refine Zp (N:=4) rfl ?_);refine Zt ?hg (N:=4) ?hd (cs:= #[.slice (some ad) l0.length c0]) (t:=33) ?hr ?_;(case hd=>rfl);(case hg=>rfl);(case hr=>exact z6_7);intro gp hgp w1 hp hb;have HB1:=Za hb;have BP1:=Za hp;have GP:Aside0 (w.heap.size≤gp):=⟨Nat.le_of_eq hgp.symm⟩;clear hgp hp hb)
   |((with_reducible refine Zp (N:=8) rfl ?_);refine Zt ?hg (N:=8) ?hd (cs:= #[.slice none 0 0,.slice none 0 0,.int .i64 0,.int .i64 0]) (t:=28) ?hr ?_;(case hd=>rfl);(case hg=>rfl);(case hr=>exact z6_7);intro gr hgr w2 hr hb;have HB2:=Za (Zj HB1.out hb);have BP2:=Za (Zg BP1.out hb);have BR2:=Za hr;have GR:Aside0 (w.heap.size≤gr):=⟨by rw[hgr];exact HB1.out.size⟩;clear hgr hr hb)
   |((with_reducible refine Zp (N:=10) rfl ?_);refine Kd.R_lit (Kd.int .i64) _ 3 ?hg (N:=10) ?hd (xs:=([]:List Int)) (inner:=[]) (ok:=fun _=>True) (okp:=fun _=>True) ?hr ?hp (fun _ hk=>hk) trivial (Yh _ _) (Nat.le_refl _) (by simp) ?_;(case hd=>rfl);(case hg=>rfl);(case hr=>exact z6_7);(case hp=>exact(Reps.none _ _));intro v10 w3 ho hb hg_ hnew_;rw[←N0.out] at ho;have HO3:=Za (Kd.R_lower ho HB2.out.size);have HB3:=Za (Zj HB2.out hb);have BP3:=Za (Zg BP2.out hb);have BR3:=Za (Zg BR2.out hb);clear ho hb hg_ hnew_)
   |((with_reducible refine gate_builtin (b:= .append) (xs:= #[.tmp 10,.tmp 11]) rfl ?_);at_builtin;refine Kd.R_append_rows (Kd.int .i64) (w0:=w) w.heap.size rfl (.tmp 10) (.tmp 11) 25 3 (.int .i64 0) 8 rfl Try.underlying25 info3 rfl (by decide) (by omega) v10 y0 l2 _ _ _ (fun _=>True) (fun _=>False) rfl rfl ?aO ?aR (fun _ _ h=>h) (fun _ h=>h.elim) ?aF ?aB ?aS ?aL ?_;(case aR=>exact Yg HR2.out HB3.out);(case aB=>exact HB3.out);(case aF=>exact(fun _ _=>trivial));(case aO=>exact HO3.out);(case aS=>exact HB3.out.size);(case aL=>have:=LM.out;omega);intro v12 w4 ho hb hg hat;rw[←N1.out,E1.out] at ho;obtain⟨Av,cv,ev⟩:=Yn ho;subst ev;have RV4:=Za (Sep.rowI.of_R ho);have OV:Aside0 (∀k,(Value.slice Av l2.length cv).ownBlock=some k→w.heap.size≤k):=⟨fun k hk=>Yf ho k hk⟩;have HB4:=Za hb;have BP4:=Za (blk_grown BP3.out hg (fun h=>(Sep.rowI.of_R HO3.out).ne BP3.out (by decide) gp h.symm rfl));have BR4:=Za (blk_grown BR3.out hg (fun h=>(Sep.rowI.of_R HO3.out).ne BR3.out (by decide) gr h.symm rfl));clear ho hb hg hat)
   |((with_reducible refine Zp (N:=13) rfl ?_);refine Kd.R_lit (Kd.int .i64) _ 3 ?hg (N:=13) ?hd (xs:=([]:List Int)) (inner:=[]) (ok:=fun _=>True) (okp:=fun _=>True) ?hr ?hp (fun _ hk=>hk) trivial (Yh _ _) (Nat.le_refl _) (by simp) ?_;(case hd=>rfl);(case hg=>rfl);(case hr=>exact z6_7);(case hp=>exact(Reps.none _ _));intro v13 w5 ho hb hg_ hnew_;obtain⟨As,cs_,es⟩:=Yn ho;rw[List.length_nil] at es;subst es;have RS5:=Za (Sep.rowI.of_R ho);have OS:Aside0 (∀k,(Value.slice As 0 cs_).ownBlock=some k→w4.heap.size≤k):=⟨fun k hk=>Yf ho k hk⟩;have HB5:=Za (Zj HB4.out hb);have BP5:=Za (Zg BP4.out hb);have BR5:=Za (Zg BR4.out hb);have RV5:=Za (RV4.out.below hb);clear ho hb hg_ hnew_)
   |((with_reducible refine Zp (N:=9) rfl ?_);refine Zt ?hg (N:=9) ?hd (cs:= #[.slice none 0 0,.slice none 0 0,.slice none 0 0,.slice none 0 0,.slice none 0 0,.int .i64 0,.bool false]) (t:=57) ?hr ?_;(case hd=>rfl);(case hg=>rfl);(case hr=>exact z6_7);intro gx hgx w6 hx hb;have HB6:=Za (Zj HB5.out hb);have BP6:=Za (Zg BP5.out hb);have BR6:=Za (Zg BR5.out hb);have RV6:=Za (RV5.out.below hb);have RS6:=Za (RS5.out.below hb);have BX6:=Za hx;have GX:Aside0 (gx=w5.heap.size):=⟨hgx⟩;clear hgx hx hb;obtain⟨⟨_,_,_,_,_,_,_⟩,⟨_,_,_⟩⟩:=blk7 BX6.out;have hf3:=Zc BX6.out 3;have hf4:=Zc BX6.out 4;have hf5:=Zc BX6.out 5;have hf6:=Zc BX6.out 6)
   |((with_reducible refine Yk (t:=57) (p:=9) rfl ?_);refine Yj (t:=57) (p:=9) (v:= ?vo1_) (w1:=put7 w6 gx (.slice Av l2.length cv) (.slice As 0 cs_) (.slice none 0 0) (.slice A3 l3.length c3) (.slice none 0 0) (.int .i64 0) (.bool false)) ?hg ?ho ?hn ?hr ?_;(case ho=>rfl);(case hg=>rfl);(case hn=>rfl);(case hr=>exact z6_7);intro w7 hw;have KW7:Aside0 ((∀k,k≠gx→w7.heap[k]? =w6.heap[k]?)∧w7.heap[gx]? =some (.cells #[.slice Av l2.length cv,.slice As 0 cs_,.slice none 0 0,.slice A3 l3.length c3,.slice none 0 0,.int .i64 0,.bool false] 57 (0,0))∧Below w.heap.size w w7):=⟨by rw[hw];exact⟨fun k hk=>put7_far hk _ _ _ _ _ _ _,put7_blk BX6.out _ _ _ _ _ _ _,put7_below HB6.out (by rw[GX.out];exact HB5.out.size) _ _ _ _ _ _ _⟩⟩;clear hw;obtain⟨⟨_,_,_,_,_,_,_⟩,⟨_,_,_⟩⟩:=blk7 KW7.out.2.1)
   |fail)
  have HB7:=Za KW7.out.2.2
  have NX:Aside0 (gp≠gx∧gr≠gx):=⟨by have:=blk_lt BP5.out;have:=blk_lt BR5.out;have:=GX.out;omega⟩
  have BP7:=Za ((KW7.out.1 gp NX.out.1).trans BP6.out)
  have BR7:=Za ((KW7.out.1 gr NX.out.2).trans BR6.out)
  have RV7:=Za (RV6.out.keep (fun k hk=>KW7.out.1 k (RV6.out.ne BX6.out (by decide) k hk)))
  have RS7:=Za (RS6.out.keep (fun k hk=>KW7.out.1 k (RS6.out.ne BX6.out (by decide) k hk)))
  obtain⟨F7,hF7⟩:∃F7:Nat→Prop,∀k,F7 k↔k=gx∨(Value.slice Av l2.length cv).ownBlock=some k∨(Value.slice As 0 cs_).ownBlock=some k∨(Value.slice none 0 0).ownBlock=some k:=⟨_,fun k=>Iff.rfl⟩
  have GXW:Aside0 (w.heap.size≤gx):=⟨by rw[GX.out];exact HB5.out.size⟩
  have I7:Aside0 (runP w A3 l3.length c3 none 0 0 0 false gx l2 [] [] F7 w7):=⟨⟨_,_,_,KW7.out.2.1,RV7.out,RS7.out,Sep.rowI.of_R (Kd.R_nil _ _ _ 0 (fun _=>True)),⟨fun k hk=>⟨fun h=>by have:=OS.out k h;have:=RV4.out.lt k hk;omega,fun h=>by simp[Value.ownBlock] at h⟩,fun k _ h=>by simp[Value.ownBlock] at h,GXW.out,OV.out,fun k hk=>Nat.le_trans HB4.out.size (OS.out k hk),fun k h=>by simp[Value.ownBlock] at h⟩,hF7,fun k hk=>HB7.out.block k hk⟩⟩
  have SF7:Aside0 (∀k,F7 k→w.heap.size≤k):=⟨fun k h=>by
   rcases (hF7 k).1 h with h|h|h|h
   ·rw[h];exact GXW.out
   ·exact OV.out k h
   ·exact Nat.le_trans HB4.out.size (OS.out k h)
   ·simp[Value.ownBlock] at h⟩
  have NF7:Aside0 (¬F7 gp∧¬F7 gr):=by
   have ng:∀(g:Nat) (cs:Array Value) (t:TypeId),w7.heap[g]? =some (.cells cs t (0,0))→3≠t→g≠gx→¬F7 g:=fun g cs t hb ht h1 h=>by
    rcases (hF7 g).1 h with h|h|h|h
    ·exact h1 h
    ·exact RV7.out.ne hb ht g h rfl
    ·exact RS7.out.ne hb ht g h rfl
    ·simp[Value.ownBlock] at h
   exact⟨ng gp _ _ BP7.out (by decide) NX.out.1,ng gr _ _ BR7.out (by decide) NX.out.2⟩
  clear hF7
  have hP7:w7.cell? ⟨gp,0,none⟩=some (.slice (some ad) l0.length c0):=(Zb BP7.out 0).trans rfl
  have hE7:w7.cell? (ad.add (a1.toNat*4))=some (.slice A1 tb.length c1):=(HB7.out.cell (Zi w _ HX0.out)).trans HX0.out
  go_region_held3 (fun w'=>w'.cell? ⟨gp,0,none⟩=some (.slice (some ad) l0.length c0)∧w'.cell? (ad.add (a1.toNat*4))=some (.slice A1 tb.length c1)) (go_keep)
   ((go_at_call 35;refine(spec_l12Exec.calls w A3 c3 l3 none 0 [] 0 false gx HR3.out HC3.out (Kd.C_nil _ _) (Nat.le_refl _) A1 c1 tb HI1.out HL1.out k 0 _ (l2,[],[]) (s1,s2,s3) F7 _ ?_ H3.out).mono ?_;(exact runP_below I7.out z6_9);rintro e w8 ⟨rfl,F8,hI8,hA8⟩;have HA8:=Za ((Sep.After.of_below (F:=F7) (z6_9:Below w7.heap.size w7 _)).trans hA8);have HI8:=Za hI8;have HB8:=Za (HA8.out.to_below SF7.out HB7.out);have BP8:=Za (HA8.out.blk BP7.out NF7.out.1);have BR8:=Za (HA8.out.blk BR7.out NF7.out.2);have NF8:=Za (HA8.out.out BR7.out NF7.out.2);have hP8:w8.cell? ⟨gp,0,none⟩=some (.slice (some ad) l0.length c0):=(Zb BP8.out 0).trans rfl;have hE8:w8.cell? (ad.add (a1.toNat*4))=some (.slice A1 tb.length c1):=(HB8.out.cell (Zi w _ HX0.out)).trans HX0.out;clear hI8 hA8))
  obtain⟨v0,v1,v2,j1,j2,j3,j4,j5,jF,j6⟩:=HI8.out
  obtain⟨B0,d0,e0,hd0,hC0_⟩:=j2.open_
  obtain⟨B1,d1,e1,hd1,hC1_⟩:=j3.open_
  obtain⟨B2,d2,e2,hd2,hC2_⟩:=j4.open_
  subst e0 e1 e2
  have BX8:=Za j1
  have R0:=Za j2
  have R1:=Za j3
  have DJ:=Za j5
  have HV:=Za hC0_
  have HD:=Za hd0
  have hne1:gr≠gp:=blk_ne BR8.out BP8.out (by decide)
  have hne2:gp≠gr:=fun h=>hne1 h.symm
  have hne3:gr≠gx:=blk_ne BR8.out BX8.out (by decide)
  have hne4:gx≠gr:=fun h=>hne3 h.symm
  clear j1 j2 j3 j4 j5 jF j6 hC0_ hC1_ hC2_ hd0 hd1 hd2
  obtain⟨⟨_,_,_,_,_,_,_⟩,⟨_,_,_⟩⟩:=blk7 BX8.out
  obtain⟨⟨_,_,_,_⟩,⟨_,_,_,_⟩⟩:=Sep.blk4 BR8.out
  go_wp2
  go_region_held3 (fun w'=>w'.cell? ⟨gp,0,none⟩=some (.slice (some ad) l0.length c0)∧w'.cell? ⟨gx,0,none⟩=some (.slice B0 s1.length d0)∧w'.cell? ⟨gx,1,none⟩=some (.slice B1 s2.length d1)∧w'.cell? ⟨gx,2,none⟩=some (.slice B2 s3.length d2)) (go_keep)
   ((go_at_call 43;refine(spec_l06Next.calls k _ _ l0 _ _ s1 a1 n _ ?sd1 HC0.out ?sd2 HD.out H5.out).mono ?_;(case sd1=>exact Yg HR0.out (by repeat(first|exact HB8.out|apply Zf|apply Ze)));(case sd2=>exact Yg HV.out z6_9);rintro e w9 ⟨rfl,hb9⟩;have HB9:=Za (Zj (z6_9:Below w8.heap.size w8 _) hb9);have BP9:=Za (Zg BP8.out HB9.out);have BX9:=Za (Zg BX8.out HB9.out);have BR9:=Za (Zg BR8.out HB9.out);clear hb9;have hP9:w9.cell? ⟨gp,0,none⟩=some (.slice (some ad) l0.length c0):=(Zb BP9.out 0).trans rfl;obtain⟨⟨_,_,_,_,_,_,_⟩,⟨_,_,_⟩⟩:=blk7 BX9.out;obtain⟨⟨_,_,_,_⟩,⟨_,_,_,_⟩⟩:=Sep.blk4 BR9.out))
  go_wp2
  have BR10:=Sep.put4_blk BR9.out (.slice B0 s1.length d0) (.slice B1 s2.length d1) (.int .i64 n) (.int .i64 (s3.length:Int))
  refine bodyPost_ret (results_cell_row rfl _ _ gr 28 #[.slice B0 s1.length d0,.slice B1 s2.length d1,.int .i64 n,.int .i64 (s3.length:Int)] (0,0) _ rfl BR10 Try.underlying28 rfl z6_15) rfl ?_
  have r0:=R0.out.below HB9.out
  have r1:=R1.out.below HB9.out
  have k0:=r0.keep (fun k hk=>Sep.put4_far (r0.ne BR9.out (by decide) k hk) (.slice B0 s1.length d0) (.slice B1 s2.length d1) (.int .i64 n) (.int .i64 (s3.length:Int)))
  have k1:=r1.keep (fun k hk=>Sep.put4_far (r1.ne BR9.out (by decide) k hk) (.slice B0 s1.length d0) (.slice B1 s2.length d1) (.int .i64 n) (.int .i64 (s3.length:Int)))
  refine⟨_,_,rfl,?_,?_,Sep.put4_below (Zj HB8.out HB9.out) GR.out _ _ _ _⟩
  ·exact k0.to_R (fun k hk=>DJ.out.2.2.2.1 k hk) (fun k hk e=>(DJ.out.1 k hk).1 e.symm)
  ·exact k1.to_R (fun k hk=>DJ.out.2.2.2.2.1 k hk) (fun k hk e=>(DJ.out.1 k e.symm).1 hk)
 ·rw[if_neg ca] at h
  cases h
def spec_TaskEffect.f (k:Nat) (l0_0:List (S64)) (a1:Int) (l2:List Int) (l3:List Int):Option (List Int×List Int×Int×Int×Bool):=(spec_ProgramOk.f k l0_0).bind fun t176=>(if t176=true then ((spec_VarsOk.f k l2).bind fun t177=>(if t177=true then ((spec_l01In.f a1 0 (wrap64 ((l0_0.length:Int) - 1))).bind fun t178=>(if t178=true then ((spec_l09Values.f k l3).bind fun t179=>(if t179=true then ((spec_l12Effect.f k l0_0 a1 l2 l3).bind fun bt180=>(some (bt180.1,bt180.2.1,bt180.2.2.1,bt180.2.2.2,true))) else (some (([]:List Int),([]:List Int),0,0,false)))) else (some (([]:List Int),([]:List Int),0,0,false)))) else (some (([]:List Int),([]:List Int),0,0,false)))) else (some (([]:List Int),([]:List Int),0,0,false)))
set_option maxHeartbeats 8000000 in
set_option maxRecDepth 100000 in
theorem spec_TaskEffect.calls (k:Nat) (A0_0:Option Addr) (c0_0:Nat) (l0_0:List (S64)) (a1:Int) (A2:Option Addr) (c2:Nat) (l2:List Int) (A3:Option Addr) (c3:Nat) (l3:List Int) (r1:List Int) (r2:List Int) (r3:Int) (r4:Int) (r5:Bool) (w:World) (hr0_0:Kd.C k64 w A0_0 l0_0.length l0_0) (hc0_0:l0_0.length≤c0_0) (hr2:Kd.C (Kd.int .i64) w A2 l2.length l2) (hc2:l2.length≤c2) (hr3:Kd.C (Kd.int .i64) w A3 l3.length l3) (hc3:l3.length≤c3) (h:spec_TaskEffect.f k l0_0 a1 l2 l3=some (r1,r2,r3,r4,r5)):
  Calls Try.prog 6 #[.agg #[.slice A0_0 l0_0.length c0_0],.int .i64 a1,.slice A2 l2.length c2,.slice A3 l3.length c3] w fun e w'=>∃v0_ v1_:Value,e= .returned (.tuple #[.agg #[v0_,v1_,.int .i64 r3,.int .i64 r4],.bool r5])∧Kd.R (Kd.int .i64) 3 w' w.heap.size (fun k_=>some k_≠(v1_:Value).ownBlock) v0_ r1∧Kd.R (Kd.int .i64) 3 w' w.heap.size (fun k_=>some k_≠(v0_:Value).ownBlock) v1_ r2∧Below w.heap.size w w':=by
 have hu33:=Try.underlying33
 have hu28:=Try.underlying28
 have HR0_0:=Za hr0_0
 have HC0_0:=Za hc0_0
 clear hr0_0 hc0_0
 have HR2:=Za hr2
 have HC2:=Za hc2
 clear hr2 hc2
 have HR3:=Za hr3
 have HC3:=Za hc3
 clear hr3 hc3
 have HB:=Za (Yh w.heap.size w)
 have H:((spec_ProgramOk.f k l0_0).bind fun t176=>(if t176=true then ((spec_VarsOk.f k l2).bind fun t177=>(if t177=true then ((spec_l01In.f a1 0 (wrap64 ((l0_0.length:Int) - 1))).bind fun t178=>(if t178=true then ((spec_l09Values.f k l3).bind fun t179=>(if t179=true then ((spec_l12Effect.f k l0_0 a1 l2 l3).bind fun bt180=>(some (bt180.1,bt180.2.1,bt180.2.2.1,bt180.2.2.2,true))) else (some (([]:List Int),([]:List Int),0,0,false)))) else (some (([]:List Int),([]:List Int),0,0,false)))) else (some (([]:List Int),([]:List Int),0,0,false)))) else (some (([]:List Int),([]:List Int),0,0,false))))=some (r1,r2,r3,r4,r5):=h
 clear h
 replace H:=Zl H
 obtain⟨t176,A50,H⟩:=H
 replace H:(if t176=true then ((spec_VarsOk.f k l2).bind fun t177=>(if t177=true then ((spec_l01In.f a1 0 (wrap64 ((l0_0.length:Int) - 1))).bind fun t178=>(if t178=true then ((spec_l09Values.f k l3).bind fun t179=>(if t179=true then ((spec_l12Effect.f k l0_0 a1 l2 l3).bind fun bt180=>(some (bt180.1,bt180.2.1,bt180.2.2.1,bt180.2.2.2,true))) else (some (([]:List Int),([]:List Int),0,0,false)))) else (some (([]:List Int),([]:List Int),0,0,false)))) else (some (([]:List Int),([]:List Int),0,0,false)))) else (some (([]:List Int),([]:List Int),0,0,false)))=some (r1,r2,r3,r4,r5):=H
 have A5:=Za A50
 clear A50
 by_cases c6:t176=true
 ·subst c6
  have H1:((spec_VarsOk.f k l2).bind fun t177=>(if t177=true then ((spec_l01In.f a1 0 (wrap64 ((l0_0.length:Int) - 1))).bind fun t178=>(if t178=true then ((spec_l09Values.f k l3).bind fun t179=>(if t179=true then ((spec_l12Effect.f k l0_0 a1 l2 l3).bind fun bt180=>(some (bt180.1,bt180.2.1,bt180.2.2.1,bt180.2.2.2,true))) else (some (([]:List Int),([]:List Int),0,0,false)))) else (some (([]:List Int),([]:List Int),0,0,false)))) else (some (([]:List Int),([]:List Int),0,0,false))))=some (r1,r2,r3,r4,r5):=by rw[if_pos rfl] at H;exact H
  clear H
  have H:=H1
  clear H1
  replace H:=Zl H
  obtain⟨t177,A70,H⟩:=H
  replace H:(if t177=true then ((spec_l01In.f a1 0 (wrap64 ((l0_0.length:Int) - 1))).bind fun t178=>(if t178=true then ((spec_l09Values.f k l3).bind fun t179=>(if t179=true then ((spec_l12Effect.f k l0_0 a1 l2 l3).bind fun bt180=>(some (bt180.1,bt180.2.1,bt180.2.2.1,bt180.2.2.2,true))) else (some (([]:List Int),([]:List Int),0,0,false)))) else (some (([]:List Int),([]:List Int),0,0,false)))) else (some (([]:List Int),([]:List Int),0,0,false)))=some (r1,r2,r3,r4,r5):=H
  have A7:=Za A70
  clear A70
  by_cases c8:t177=true
  ·subst c8
   have H1:((spec_l01In.f a1 0 (wrap64 ((l0_0.length:Int) - 1))).bind fun t178=>(if t178=true then ((spec_l09Values.f k l3).bind fun t179=>(if t179=true then ((spec_l12Effect.f k l0_0 a1 l2 l3).bind fun bt180=>(some (bt180.1,bt180.2.1,bt180.2.2.1,bt180.2.2.2,true))) else (some (([]:List Int),([]:List Int),0,0,false)))) else (some (([]:List Int),([]:List Int),0,0,false))))=some (r1,r2,r3,r4,r5):=by rw[if_pos rfl] at H;exact H
   clear H
   have H:=H1
   clear H1
   replace H:=Zl H
   obtain⟨t178,A90,H⟩:=H
   replace H:(if t178=true then ((spec_l09Values.f k l3).bind fun t179=>(if t179=true then ((spec_l12Effect.f k l0_0 a1 l2 l3).bind fun bt180=>(some (bt180.1,bt180.2.1,bt180.2.2.1,bt180.2.2.2,true))) else (some (([]:List Int),([]:List Int),0,0,false)))) else (some (([]:List Int),([]:List Int),0,0,false)))=some (r1,r2,r3,r4,r5):=H
   have A9:=Za A90
   clear A90
   by_cases c10:t178=true
   ·subst c10
    have H1:((spec_l09Values.f k l3).bind fun t179=>(if t179=true then ((spec_l12Effect.f k l0_0 a1 l2 l3).bind fun bt180=>(some (bt180.1,bt180.2.1,bt180.2.2.1,bt180.2.2.2,true))) else (some (([]:List Int),([]:List Int),0,0,false))))=some (r1,r2,r3,r4,r5):=by rw[if_pos rfl] at H;exact H
    clear H
    have H:=H1
    clear H1
    replace H:=Zl H
    obtain⟨t179,A110,H⟩:=H
    replace H:(if t179=true then ((spec_l12Effect.f k l0_0 a1 l2 l3).bind fun bt180=>(some (bt180.1,bt180.2.1,bt180.2.2.1,bt180.2.2.2,true))) else (some (([]:List Int),([]:List Int),0,0,false)))=some (r1,r2,r3,r4,r5):=H
    have A11:=Za A110
    clear A110
    by_cases c12:t179=true
    ·subst c12
     have H1:((spec_l12Effect.f k l0_0 a1 l2 l3).bind fun bt180=>(some (bt180.1,bt180.2.1,bt180.2.2.1,bt180.2.2.2,true)))=some (r1,r2,r3,r4,r5):=by rw[if_pos rfl] at H;exact H
     clear H
     have H:=H1
     clear H1
     replace H:=Zl H
     obtain⟨⟨t180,t183,t186,t187⟩,A130,H⟩:=H
     replace H:(some (t180,t183,t186,t187,true))=some (r1,r2,r3,r4,r5):=H
     have A13:=Za A130
     clear A130
     simp only[Option.some.injEq,Prod.mk.injEq] at H
     obtain⟨rfl,rfl,rfl,rfl,rfl⟩:=H
     go_enter Try.func6,Try.ntmps6
     go_wp2_with (first|((with_reducible refine Zp (N:=4) rfl ?_);(try(refine gate_guard (by rfl) ?_;dsimp only));refine Zt ?hg (N:=4) ?hd (cs:= #[.slice A0_0 l0_0.length c0_0]) (t:=33) ?hr ?_;(case hd=>rfl);(case hg=>rfl);(case hr=>exact z6_7);intro gb174 hg w14 hbox hb;have BK174:=Za (hbox);have GW174:=Za ((z6_25:w.heap.size≤gb174));have GE174:=Za ((z6_25:w.heap.size≤gb174));replace HB:=Za (Zj z6_1 hb);clear hb hbox hg)|((with_reducible refine Zp (N:=8) rfl ?_);(try(refine gate_guard (by rfl) ?_;dsimp only));refine Zt ?hg (N:=8) ?hd (cs:= #[.slice none 0 0,.slice none 0 0,.int .i64 0,.int .i64 0]) (t:=28) ?hr ?_;(case hd=>rfl);(case hg=>rfl);(case hr=>exact z6_7);intro gb175 hg w15 hbox hb;have BK175:=Za (hbox);have GW175:=Za ((z6_28:w.heap.size≤gb175));have GE175:=Za ((z6_28:w.heap.size≤gb175));replace HB:=Za (Zj z6_5 hb);have NB174_175:=Za ((z6_26:gb174≠gb175));have NB175_174:=Za ((z6_27:gb175≠gb174));replace BK174:=Za (Zg (g:=gb174) (o:= .cells #[.slice A0_0 l0_0.length c0_0] 33 (0,0)) z6_2 hb);clear hb hbox hg;have hnb16:=NB174_175.out;have hnc16:=NB175_174.out;have hcz17_0:w15.cell? ⟨gb174,0,none⟩=some (.slice A0_0 l0_0.length c0_0):=(Zb BK174.out 0).trans rfl;have hfz17_0:=Zc BK174.out 0)|((first|((with_reducible refine gate_callee (f:=21) rfl ?_);refine goesL_ (some 11) rfl rfl Try.func21 z6_15 rfl #[.agg #[.slice A0_0 l0_0.length c0_0]] rfl z6_8 ?_;(with_reducible refine(spec_ProgramOk.calls k _ _ l0_0 true _ ?side1 ?side2 A5.out).mono ?_))|(go_at_call 21;(with_reducible refine(spec_ProgramOk.calls k _ _ l0_0 true _ ?side1 ?side2 A5.out).mono ?_)));(case side1=>exact z6_10);(case side2=>exact HC0_0.out);rintro e w18 ⟨rfl,hb⟩;(first|refine⟨_,rfl,?_⟩|skip);replace BK174:=Za (Zg (g:=gb174) (o:= .cells #[.slice A0_0 l0_0.length c0_0] 33 (0,0)) z6_2 hb);replace BK175:=Za (Zg (g:=gb175) (o:= .cells #[.slice none 0 0,.slice none 0 0,.int .i64 0,.int .i64 0] 28 (0,0)) z6_6 hb);replace HB:=Za (Zj z6_0 hb);(try clear hb);(try clear hb2);(try clear hk);(try clear hi))|(go_at_call 22;(with_reducible refine(spec_VarsOk.calls k _ _ l2 true _ ?side1 ?side2 A7.out).mono ?_);(case side1=>exact z6_11);(case side2=>exact HC2.out);rintro e w' ⟨rfl,⟨nd,rfl⟩⟩;(try(rw[drewN_self w18];generalize hq_:World.drewN w18 _=w18;have n0_:Aside0 (w18.heap[gb174]? =some (.cells #[.slice A0_0 l0_0.length c0_0] 33 (0,0))):=⟨by rw[←hq_];exact z6_2⟩;have n1_:Aside0 (w18.heap[gb175]? =some (.cells #[.slice none 0 0,.slice none 0 0,.int .i64 0,.int .i64 0] 28 (0,0))):=⟨by rw[←hq_];exact z6_6⟩;have n2_:Aside0 (Below w.heap.size w w18):=⟨by rw[←hq_];exact z6_0⟩;clear BK174 BK175 HB hq_;have BK174:=n0_;have BK175:=n1_;have HB:=n2_;clear n0_ n1_ n2_));(try(have hcuz19_0:w18.cell? ⟨gb174,0,none⟩=some (.slice A0_0 l0_0.length c0_0):=(Zb BK174.out 0).trans rfl;have hfuz19_0:=Zc BK174.out 0));(try(have hcuz20_0:w18.cell? ⟨gb175,0,none⟩=some (.slice none 0 0):=(Zb BK175.out 0).trans rfl;have hcuz20_1:w18.cell? ⟨gb175,1,none⟩=some (.slice none 0 0):=(Zb BK175.out 1).trans rfl;have hcuz20_2:w18.cell? ⟨gb175,2,none⟩=some (.int .i64 0):=(Zb BK175.out 2).trans rfl;have hcuz20_3:w18.cell? ⟨gb175,3,none⟩=some (.int .i64 0):=(Zb BK175.out 3).trans rfl;have hfuz20_0:=Zc BK175.out 0;have hfuz20_1:=Zc BK175.out 1;have hfuz20_2:=Zc BK175.out 2;have hfuz20_3:=Zc BK175.out 3));have hcz21_0:w18.cell? ⟨gb174,0,none⟩=some (.slice A0_0 l0_0.length c0_0):=(Zb BK174.out 0).trans rfl;have hfz21_0:=Zc BK174.out 0)|(go_at_call 23;(with_reducible refine(spec_l01In.calls a1 0 (wrap64 ((l0_0.length:Int) - 1)) true _ A9.out).mono ?_);rintro e w' ⟨rfl,⟨nd,rfl⟩⟩;(try(rw[drewN_self w18];generalize hq_:World.drewN w18 _=w18;have n0_:Aside0 (w18.heap[gb174]? =some (.cells #[.slice A0_0 l0_0.length c0_0] 33 (0,0))):=⟨by rw[←hq_];exact z6_2⟩;have n1_:Aside0 (w18.heap[gb175]? =some (.cells #[.slice none 0 0,.slice none 0 0,.int .i64 0,.int .i64 0] 28 (0,0))):=⟨by rw[←hq_];exact z6_6⟩;have n2_:Aside0 (Below w.heap.size w w18):=⟨by rw[←hq_];exact z6_0⟩;clear BK174 BK175 HB hq_;have BK174:=n0_;have BK175:=n1_;have HB:=n2_;clear n0_ n1_ n2_));(try(have hcuz22_0:w18.cell? ⟨gb174,0,none⟩=some (.slice A0_0 l0_0.length c0_0):=(Zb BK174.out 0).trans rfl;have hfuz22_0:=Zc BK174.out 0));(try(have hcuz23_0:w18.cell? ⟨gb175,0,none⟩=some (.slice none 0 0):=(Zb BK175.out 0).trans rfl;have hcuz23_1:w18.cell? ⟨gb175,1,none⟩=some (.slice none 0 0):=(Zb BK175.out 1).trans rfl;have hcuz23_2:w18.cell? ⟨gb175,2,none⟩=some (.int .i64 0):=(Zb BK175.out 2).trans rfl;have hcuz23_3:w18.cell? ⟨gb175,3,none⟩=some (.int .i64 0):=(Zb BK175.out 3).trans rfl;have hfuz23_0:=Zc BK175.out 0;have hfuz23_1:=Zc BK175.out 1;have hfuz23_2:=Zc BK175.out 2;have hfuz23_3:=Zc BK175.out 3)))|(go_at_call 24;(with_reducible refine(spec_l09Values.calls k _ _ l3 true _ ?side1 ?side2 A11.out).mono ?_);(case side1=>exact z6_20);(case side2=>exact HC3.out);rintro e w' ⟨rfl,⟨nd,rfl⟩⟩;(try(rw[drewN_self w18];generalize hq_:World.drewN w18 _=w18;have n0_:Aside0 (w18.heap[gb174]? =some (.cells #[.slice A0_0 l0_0.length c0_0] 33 (0,0))):=⟨by rw[←hq_];exact z6_2⟩;have n1_:Aside0 (w18.heap[gb175]? =some (.cells #[.slice none 0 0,.slice none 0 0,.int .i64 0,.int .i64 0] 28 (0,0))):=⟨by rw[←hq_];exact z6_6⟩;have n2_:Aside0 (Below w.heap.size w w18):=⟨by rw[←hq_];exact z6_0⟩;clear BK174 BK175 HB hq_;have BK174:=n0_;have BK175:=n1_;have HB:=n2_;clear n0_ n1_ n2_));(try(have hcuz24_0:w18.cell? ⟨gb174,0,none⟩=some (.slice A0_0 l0_0.length c0_0):=(Zb BK174.out 0).trans rfl;have hfuz24_0:=Zc BK174.out 0));(try(have hcuz25_0:w18.cell? ⟨gb175,0,none⟩=some (.slice none 0 0):=(Zb BK175.out 0).trans rfl;have hcuz25_1:w18.cell? ⟨gb175,1,none⟩=some (.slice none 0 0):=(Zb BK175.out 1).trans rfl;have hcuz25_2:w18.cell? ⟨gb175,2,none⟩=some (.int .i64 0):=(Zb BK175.out 2).trans rfl;have hcuz25_3:w18.cell? ⟨gb175,3,none⟩=some (.int .i64 0):=(Zb BK175.out 3).trans rfl;have hfuz25_0:=Zc BK175.out 0;have hfuz25_1:=Zc BK175.out 1;have hfuz25_2:=Zc BK175.out 2;have hfuz25_3:=Zc BK175.out 3)))|((first|((with_reducible refine gate_callee (f:=25) rfl ?_);refine goesL_ (some 37) rfl rfl Try.func25 z6_15 rfl #[.agg #[.slice A0_0 l0_0.length c0_0],.int .i64 a1,.slice A2 l2.length c2,.slice A3 l3.length c3] rfl z6_8 ?_;(with_reducible refine(spec_l12Effect.calls k _ _ l0_0 a1 _ _ l2 _ _ l3 t180 t183 t186 t187 _ ?side1 ?side2 ?side3 ?side4 ?side5 ?side6 A13.out).mono ?_))|(go_at_call 25;(with_reducible refine(spec_l12Effect.calls k _ _ l0_0 a1 _ _ l2 _ _ l3 t180 t183 t186 t187 _ ?side1 ?side2 ?side3 ?side4 ?side5 ?side6 A13.out).mono ?_)));(case side1=>exact z6_10);(case side2=>exact HC0_0.out);(case side3=>exact z6_11);(case side4=>exact HC2.out);(case side5=>exact z6_20);(case side6=>exact HC3.out);rintro e w26 ⟨v181,v184,rfl,ho0,ho1,hb⟩;(first|refine⟨_,rfl,?_⟩|skip);have HO182:=Za (Kd.R_lower ho0 (Zy z6_0));have HO185:=Za (Kd.R_lower ho1 (Zy z6_0));replace BK174:=Za (Zg (g:=gb174) (o:= .cells #[.slice A0_0 l0_0.length c0_0] 33 (0,0)) z6_2 hb);replace BK175:=Za (Zg (g:=gb175) (o:= .cells #[.slice none 0 0,.slice none 0 0,.int .i64 0,.int .i64 0] 28 (0,0)) z6_6 hb);replace HB:=Za (Zj z6_0 hb);(try clear hb);(try clear hb2);(try clear hk);(try clear hi);(try clear ho0);(try clear ho1);obtain⟨Ao27,co27,eo27⟩:=Yn HO182.out;subst eo27;have hcz28_0:w26.cell? ⟨gb175,0,none⟩=some (.slice none 0 0):=(Zb BK175.out 0).trans rfl;have hcz28_1:w26.cell? ⟨gb175,1,none⟩=some (.slice none 0 0):=(Zb BK175.out 1).trans rfl;have hcz28_2:w26.cell? ⟨gb175,2,none⟩=some (.int .i64 0):=(Zb BK175.out 2).trans rfl;have hcz28_3:w26.cell? ⟨gb175,3,none⟩=some (.int .i64 0):=(Zb BK175.out 3).trans rfl;have hfz28_0:=Zc BK175.out 0;have hfz28_1:=Zc BK175.out 1;have hfz28_2:=Zc BK175.out 2;have hfz28_3:=Zc BK175.out 3;obtain⟨Ao29,co29,eo29⟩:=Yn HO185.out;subst eo29)|((with_reducible refine Yk (t:=28) (p:=8) rfl ?_);refine Yj (t:=28) (p:=8) (v:= ?vo_w30) (w1:=((((w26.setCell ⟨gb175,0,none⟩ (.slice Ao27 t180.length co27)).setCell ⟨gb175,1,none⟩ (.slice Ao29 t183.length co29)).setCell ⟨gb175,2,none⟩ (.int .i64 t186)).setCell ⟨gb175,3,none⟩ (.int .i64 t187))) ?hg ?ho ?hn ?hr ?_;(case ho=>rfl);(case hg=>rfl);(case hn=>rfl);(case hr=>exact z6_7);intro w30 hw;have n0_:Aside0 (Kd.R (Kd.int .i64) 3 w30 w.heap.size (fun k_=>some k_≠(.slice Ao29 t183.length co29:Value).ownBlock) (.slice Ao27 t180.length co27) t180):=⟨(by rw[hw];exact(by(with_reducible repeat(first|apply Zn|apply Zo|apply Zm));exact Zw (Kd.R_far (p:=⟨gb175,3,none⟩) (Kd.R_far (p:=⟨gb175,2,none⟩) (Kd.R_far (p:=⟨gb175,1,none⟩) (Kd.R_far (p:=⟨gb175,0,none⟩) (Kd.R_types HO182.out BK175.out (by decide)) (fun _ hk=>hk.2) (.slice Ao27 t180.length co27)) (fun _ hk=>hk.2) (.slice Ao29 t183.length co29)) (fun _ hk=>hk.2) (.int .i64 t186)) (fun _ hk=>hk.2) (.int .i64 t187)) (fun _ hk=>hk.1)))⟩;have n1_:Aside0 (Kd.R (Kd.int .i64) 3 w30 w.heap.size (fun k_=>some k_≠(.slice Ao27 t180.length co27:Value).ownBlock) (.slice Ao29 t183.length co29) t183):=⟨(by rw[hw];exact(by(with_reducible repeat(first|apply Zn|apply Zo|apply Zm));exact Zw (Kd.R_far (p:=⟨gb175,3,none⟩) (Kd.R_far (p:=⟨gb175,2,none⟩) (Kd.R_far (p:=⟨gb175,1,none⟩) (Kd.R_far (p:=⟨gb175,0,none⟩) (Kd.R_types HO185.out BK175.out (by decide)) (fun _ hk=>hk.2) (.slice Ao27 t180.length co27)) (fun _ hk=>hk.2) (.slice Ao29 t183.length co29)) (fun _ hk=>hk.2) (.int .i64 t186)) (fun _ hk=>hk.2) (.int .i64 t187)) (fun _ hk=>hk.1)))⟩;have n2_:Aside0 (w30.heap[gb174]? =some (.cells #[.slice A0_0 l0_0.length c0_0] 33 (0,0))):=⟨z6_4⟩;have n3_:Aside0 (w30.heap[gb175]? =some (.cells #[.slice Ao27 t180.length co27,.slice Ao29 t183.length co29,.int .i64 t186,.int .i64 t187] 28 (0,0))):=⟨(by rw[hw];exact(by(with_reducible repeat(first|refine blk_drewN ?_ _|refine blk_drew ?_|refine blk_alloc ?_ _));refine blk_put (cs:= #[.slice Ao27 t180.length co27,.slice Ao29 t183.length co29,.int .i64 t186,.int .i64 0]) ?_ 3 _ rfl;(with_reducible repeat(first|refine blk_drewN ?_ _|refine blk_drew ?_|refine blk_alloc ?_ _));refine blk_put (cs:= #[.slice Ao27 t180.length co27,.slice Ao29 t183.length co29,.int .i64 0,.int .i64 0]) ?_ 2 _ rfl;(with_reducible repeat(first|refine blk_drewN ?_ _|refine blk_drew ?_|refine blk_alloc ?_ _));refine blk_put (cs:= #[.slice Ao27 t180.length co27,.slice none 0 0,.int .i64 0,.int .i64 0]) ?_ 1 _ rfl;(with_reducible repeat(first|refine blk_drewN ?_ _|refine blk_drew ?_|refine blk_alloc ?_ _));refine blk_put (cs:= #[.slice none 0 0,.slice none 0 0,.int .i64 0,.int .i64 0]) ?_ 0 _ rfl;(with_reducible repeat(first|refine blk_drewN ?_ _|refine blk_drew ?_|refine blk_alloc ?_ _));exact BK175.out))⟩;have n4_:Aside0 (Below w.heap.size w w30):=⟨(by rw[hw];exact z6_0)⟩;clear hw;clear HO182;clear HO185;clear BK174;clear BK175;clear HB;have HO182:=n0_;have HO185:=n1_;have BK174:=n2_;have BK175:=n3_;have HB:=n4_;clear n0_ n1_ n2_ n3_ n4_))
     refine bodyPost_ret (results_ct rfl _ _ gb175 28 #[.slice Ao27 t180.length co27,.slice Ao29 t183.length co29,.int .i64 t186,.int .i64 t187] (0,0) _ rfl z6_6 Try.underlying28 rfl z6_15) rfl ?_
     exact⟨_,_,by first|rfl|(simp[errW_none,errW_some]<;>rfl)|(simp[*,errW_none,errW_some]<;>rfl)|(simp[*,errW_none,errW_some,i64_w];done),by(with_reducible repeat(first|apply Zn|apply Zo|apply Zm));exact HO182.out,by(with_reducible repeat(first|apply Zn|apply Zo|apply Zm));exact HO185.out,by repeat(first|(with_reducible first|exact HB.out|apply Zh|apply Zf|apply Ze|refine Zd ?_ GE174.out|refine Zd ?_ GE175.out)|exact HB.out)⟩
    ·replace c12:=Bool.eq_false_iff.mpr c12
     subst c12
     have H1:(some (([]:List Int),([]:List Int),0,0,false))=some (r1,r2,r3,r4,r5):=by rw[if_neg (show ¬(false=true) by decide)] at H;exact H
     clear H
     have H:=H1
     clear H1
     simp only[Option.some.injEq,Prod.mk.injEq] at H
     obtain⟨rfl,rfl,rfl,rfl,rfl⟩:=H
     go_enter Try.func6,Try.ntmps6
     go_wp2_with (first|((with_reducible refine Zp (N:=4) rfl ?_);(try(refine gate_guard (by rfl) ?_;dsimp only));refine Zt ?hg (N:=4) ?hd (cs:= #[.slice A0_0 l0_0.length c0_0]) (t:=33) ?hr ?_;(case hd=>rfl);(case hg=>rfl);(case hr=>exact z6_7);intro gb174 hg w31 hbox hb;have BK174:=Za (hbox);have GW174:=Za ((z6_25:w.heap.size≤gb174));have GE174:=Za ((z6_25:w.heap.size≤gb174));replace HB:=Za (Zj z6_1 hb);clear hb hbox hg)|((with_reducible refine Zp (N:=8) rfl ?_);(try(refine gate_guard (by rfl) ?_;dsimp only));refine Zt ?hg (N:=8) ?hd (cs:= #[.slice none 0 0,.slice none 0 0,.int .i64 0,.int .i64 0]) (t:=28) ?hr ?_;(case hd=>rfl);(case hg=>rfl);(case hr=>exact z6_7);intro gb175 hg w32 hbox hb;have BK175:=Za (hbox);have GW175:=Za ((z6_28:w.heap.size≤gb175));have GE175:=Za ((z6_28:w.heap.size≤gb175));replace HB:=Za (Zj z6_5 hb);have NB174_175:=Za ((z6_26:gb174≠gb175));have NB175_174:=Za ((z6_27:gb175≠gb174));replace BK174:=Za (Zg (g:=gb174) (o:= .cells #[.slice A0_0 l0_0.length c0_0] 33 (0,0)) z6_2 hb);clear hb hbox hg;have hnb33:=NB174_175.out;have hnc33:=NB175_174.out;have hcz34_0:w32.cell? ⟨gb174,0,none⟩=some (.slice A0_0 l0_0.length c0_0):=(Zb BK174.out 0).trans rfl;have hfz34_0:=Zc BK174.out 0)|((first|((with_reducible refine gate_callee (f:=21) rfl ?_);refine goesL_ (some 11) rfl rfl Try.func21 z6_15 rfl #[.agg #[.slice A0_0 l0_0.length c0_0]] rfl z6_8 ?_;(with_reducible refine(spec_ProgramOk.calls k _ _ l0_0 true _ ?side1 ?side2 A5.out).mono ?_))|(go_at_call 21;(with_reducible refine(spec_ProgramOk.calls k _ _ l0_0 true _ ?side1 ?side2 A5.out).mono ?_)));(case side1=>exact z6_10);(case side2=>exact HC0_0.out);rintro e w35 ⟨rfl,hb⟩;(first|refine⟨_,rfl,?_⟩|skip);replace BK174:=Za (Zg (g:=gb174) (o:= .cells #[.slice A0_0 l0_0.length c0_0] 33 (0,0)) z6_2 hb);replace BK175:=Za (Zg (g:=gb175) (o:= .cells #[.slice none 0 0,.slice none 0 0,.int .i64 0,.int .i64 0] 28 (0,0)) z6_6 hb);replace HB:=Za (Zj z6_0 hb);(try clear hb);(try clear hb2);(try clear hk);(try clear hi))|(go_at_call 22;(with_reducible refine(spec_VarsOk.calls k _ _ l2 true _ ?side1 ?side2 A7.out).mono ?_);(case side1=>exact z6_11);(case side2=>exact HC2.out);rintro e w' ⟨rfl,⟨nd,rfl⟩⟩;(try(rw[drewN_self w35];generalize hq_:World.drewN w35 _=w35;have n0_:Aside0 (w35.heap[gb174]? =some (.cells #[.slice A0_0 l0_0.length c0_0] 33 (0,0))):=⟨by rw[←hq_];exact z6_2⟩;have n1_:Aside0 (w35.heap[gb175]? =some (.cells #[.slice none 0 0,.slice none 0 0,.int .i64 0,.int .i64 0] 28 (0,0))):=⟨by rw[←hq_];exact z6_6⟩;have n2_:Aside0 (Below w.heap.size w w35):=⟨by rw[←hq_];exact z6_0⟩;clear BK174 BK175 HB hq_;have BK174:=n0_;have BK175:=n1_;have HB:=n2_;clear n0_ n1_ n2_));(try(have hcuz36_0:w35.cell? ⟨gb174,0,none⟩=some (.slice A0_0 l0_0.length c0_0):=(Zb BK174.out 0).trans rfl;have hfuz36_0:=Zc BK174.out 0));(try(have hcuz37_0:w35.cell? ⟨gb175,0,none⟩=some (.slice none 0 0):=(Zb BK175.out 0).trans rfl;have hcuz37_1:w35.cell? ⟨gb175,1,none⟩=some (.slice none 0 0):=(Zb BK175.out 1).trans rfl;have hcuz37_2:w35.cell? ⟨gb175,2,none⟩=some (.int .i64 0):=(Zb BK175.out 2).trans rfl;have hcuz37_3:w35.cell? ⟨gb175,3,none⟩=some (.int .i64 0):=(Zb BK175.out 3).trans rfl;have hfuz37_0:=Zc BK175.out 0;have hfuz37_1:=Zc BK175.out 1;have hfuz37_2:=Zc BK175.out 2;have hfuz37_3:=Zc BK175.out 3));have hcz38_0:w35.cell? ⟨gb174,0,none⟩=some (.slice A0_0 l0_0.length c0_0):=(Zb BK174.out 0).trans rfl;have hfz38_0:=Zc BK174.out 0)|(go_at_call 23;(with_reducible refine(spec_l01In.calls a1 0 (wrap64 ((l0_0.length:Int) - 1)) true _ A9.out).mono ?_);rintro e w' ⟨rfl,⟨nd,rfl⟩⟩;(try(rw[drewN_self w35];generalize hq_:World.drewN w35 _=w35;have n0_:Aside0 (w35.heap[gb174]? =some (.cells #[.slice A0_0 l0_0.length c0_0] 33 (0,0))):=⟨by rw[←hq_];exact z6_2⟩;have n1_:Aside0 (w35.heap[gb175]? =some (.cells #[.slice none 0 0,.slice none 0 0,.int .i64 0,.int .i64 0] 28 (0,0))):=⟨by rw[←hq_];exact z6_6⟩;have n2_:Aside0 (Below w.heap.size w w35):=⟨by rw[←hq_];exact z6_0⟩;clear BK174 BK175 HB hq_;have BK174:=n0_;have BK175:=n1_;have HB:=n2_;clear n0_ n1_ n2_));(try(have hcuz39_0:w35.cell? ⟨gb174,0,none⟩=some (.slice A0_0 l0_0.length c0_0):=(Zb BK174.out 0).trans rfl;have hfuz39_0:=Zc BK174.out 0));(try(have hcuz40_0:w35.cell? ⟨gb175,0,none⟩=some (.slice none 0 0):=(Zb BK175.out 0).trans rfl;have hcuz40_1:w35.cell? ⟨gb175,1,none⟩=some (.slice none 0 0):=(Zb BK175.out 1).trans rfl;have hcuz40_2:w35.cell? ⟨gb175,2,none⟩=some (.int .i64 0):=(Zb BK175.out 2).trans rfl;have hcuz40_3:w35.cell? ⟨gb175,3,none⟩=some (.int .i64 0):=(Zb BK175.out 3).trans rfl;have hfuz40_0:=Zc BK175.out 0;have hfuz40_1:=Zc BK175.out 1;have hfuz40_2:=Zc BK175.out 2;have hfuz40_3:=Zc BK175.out 3)))|(go_at_call 24;(with_reducible refine(spec_l09Values.calls k _ _ l3 false _ ?side1 ?side2 A11.out).mono ?_);(case side1=>exact z6_20);(case side2=>exact HC3.out);rintro e w' ⟨rfl,⟨nd,rfl⟩⟩;(try(rw[drewN_self w35];generalize hq_:World.drewN w35 _=w35;have n0_:Aside0 (w35.heap[gb174]? =some (.cells #[.slice A0_0 l0_0.length c0_0] 33 (0,0))):=⟨by rw[←hq_];exact z6_2⟩;have n1_:Aside0 (w35.heap[gb175]? =some (.cells #[.slice none 0 0,.slice none 0 0,.int .i64 0,.int .i64 0] 28 (0,0))):=⟨by rw[←hq_];exact z6_6⟩;have n2_:Aside0 (Below w.heap.size w w35):=⟨by rw[←hq_];exact z6_0⟩;clear BK174 BK175 HB hq_;have BK174:=n0_;have BK175:=n1_;have HB:=n2_;clear n0_ n1_ n2_));(try(have hcuz41_0:w35.cell? ⟨gb174,0,none⟩=some (.slice A0_0 l0_0.length c0_0):=(Zb BK174.out 0).trans rfl;have hfuz41_0:=Zc BK174.out 0));(try(have hcuz42_0:w35.cell? ⟨gb175,0,none⟩=some (.slice none 0 0):=(Zb BK175.out 0).trans rfl;have hcuz42_1:w35.cell? ⟨gb175,1,none⟩=some (.slice none 0 0):=(Zb BK175.out 1).trans rfl;have hcuz42_2:w35.cell? ⟨gb175,2,none⟩=some (.int .i64 0):=(Zb BK175.out 2).trans rfl;have hcuz42_3:w35.cell? ⟨gb175,3,none⟩=some (.int .i64 0):=(Zb BK175.out 3).trans rfl;have hfuz42_0:=Zc BK175.out 0;have hfuz42_1:=Zc BK175.out 1;have hfuz42_2:=Zc BK175.out 2;have hfuz42_3:=Zc BK175.out 3));have hcz43_0:w35.cell? ⟨gb175,0,none⟩=some (.slice none 0 0):=(Zb BK175.out 0).trans rfl;have hcz43_1:w35.cell? ⟨gb175,1,none⟩=some (.slice none 0 0):=(Zb BK175.out 1).trans rfl;have hcz43_2:w35.cell? ⟨gb175,2,none⟩=some (.int .i64 0):=(Zb BK175.out 2).trans rfl;have hcz43_3:w35.cell? ⟨gb175,3,none⟩=some (.int .i64 0):=(Zb BK175.out 3).trans rfl;have hfz43_0:=Zc BK175.out 0;have hfz43_1:=Zc BK175.out 1;have hfz43_2:=Zc BK175.out 2;have hfz43_3:=Zc BK175.out 3)|((with_reducible refine Yk (t:=28) (p:=8) rfl ?_);refine Yj (t:=28) (p:=8) (v:= ?vo_w44) (w1:=((((w35.setCell ⟨gb175,0,none⟩ (.slice none 0 0)).setCell ⟨gb175,1,none⟩ (.slice none 0 0)).setCell ⟨gb175,2,none⟩ (.int .i64 0)).setCell ⟨gb175,3,none⟩ (.int .i64 0))) ?hg ?ho ?hn ?hr ?_;(case ho=>rfl);(case hg=>rfl);(case hn=>rfl);(case hr=>exact z6_7);intro w44 hw;have n0_:Aside0 (w44.heap[gb174]? =some (.cells #[.slice A0_0 l0_0.length c0_0] 33 (0,0))):=⟨z6_4⟩;have n1_:Aside0 (w44.heap[gb175]? =some (.cells #[.slice none 0 0,.slice none 0 0,.int .i64 0,.int .i64 0] 28 (0,0))):=⟨z6_3⟩;have n2_:Aside0 (Below w.heap.size w w44):=⟨(by rw[hw];exact z6_0)⟩;clear hw;clear BK174;clear BK175;clear HB;have BK174:=n0_;have BK175:=n1_;have HB:=n2_;clear n0_ n1_ n2_))
     refine bodyPost_ret (results_ct rfl _ _ gb175 28 #[.slice none 0 0,.slice none 0 0,.int .i64 0,.int .i64 0] (0,0) _ rfl z6_6 Try.underlying28 rfl z6_15) rfl ?_
     exact⟨_,_,by first|rfl|(simp[errW_none,errW_some]<;>rfl)|(simp[*,errW_none,errW_some]<;>rfl)|(simp[*,errW_none,errW_some,i64_w];done),by first|exact Kd.R_nil _ _ _ _ _|exact Kd.N_nil _ _ _ _ _|exact Kd.V_nil _ _ _ _ _|exact Kd.Q_nil _ _ _ _ _|exact Kd.S_nil _ _ _ _ _,by first|exact Kd.R_nil _ _ _ _ _|exact Kd.N_nil _ _ _ _ _|exact Kd.V_nil _ _ _ _ _|exact Kd.Q_nil _ _ _ _ _|exact Kd.S_nil _ _ _ _ _,by repeat(first|(with_reducible first|exact HB.out|apply Zh|apply Zf|apply Ze|refine Zd ?_ GE174.out|refine Zd ?_ GE175.out)|exact HB.out)⟩
   ·replace c10:=Bool.eq_false_iff.mpr c10
    subst c10
    have H1:(some (([]:List Int),([]:List Int),0,0,false))=some (r1,r2,r3,r4,r5):=by rw[if_neg (show ¬(false=true) by decide)] at H;exact H
    clear H
    have H:=H1
    clear H1
    simp only[Option.some.injEq,Prod.mk.injEq] at H
    obtain⟨rfl,rfl,rfl,rfl,rfl⟩:=H
    go_enter Try.func6,Try.ntmps6
    go_wp2_with (first|((with_reducible refine Zp (N:=4) rfl ?_);(try(refine gate_guard (by rfl) ?_;dsimp only));refine Zt ?hg (N:=4) ?hd (cs:= #[.slice A0_0 l0_0.length c0_0]) (t:=33) ?hr ?_;(case hd=>rfl);(case hg=>rfl);(case hr=>exact z6_7);intro gb174 hg w45 hbox hb;have BK174:=Za (hbox);have GW174:=Za ((z6_25:w.heap.size≤gb174));have GE174:=Za ((z6_25:w.heap.size≤gb174));replace HB:=Za (Zj z6_1 hb);clear hb hbox hg)|((with_reducible refine Zp (N:=8) rfl ?_);(try(refine gate_guard (by rfl) ?_;dsimp only));refine Zt ?hg (N:=8) ?hd (cs:= #[.slice none 0 0,.slice none 0 0,.int .i64 0,.int .i64 0]) (t:=28) ?hr ?_;(case hd=>rfl);(case hg=>rfl);(case hr=>exact z6_7);intro gb175 hg w46 hbox hb;have BK175:=Za (hbox);have GW175:=Za ((z6_28:w.heap.size≤gb175));have GE175:=Za ((z6_28:w.heap.size≤gb175));replace HB:=Za (Zj z6_5 hb);have NB174_175:=Za ((z6_26:gb174≠gb175));have NB175_174:=Za ((z6_27:gb175≠gb174));replace BK174:=Za (Zg (g:=gb174) (o:= .cells #[.slice A0_0 l0_0.length c0_0] 33 (0,0)) z6_2 hb);clear hb hbox hg;have hnb47:=NB174_175.out;have hnc47:=NB175_174.out;have hcz48_0:w46.cell? ⟨gb174,0,none⟩=some (.slice A0_0 l0_0.length c0_0):=(Zb BK174.out 0).trans rfl;have hfz48_0:=Zc BK174.out 0)|((first|((with_reducible refine gate_callee (f:=21) rfl ?_);refine goesL_ (some 11) rfl rfl Try.func21 z6_15 rfl #[.agg #[.slice A0_0 l0_0.length c0_0]] rfl z6_8 ?_;(with_reducible refine(spec_ProgramOk.calls k _ _ l0_0 true _ ?side1 ?side2 A5.out).mono ?_))|(go_at_call 21;(with_reducible refine(spec_ProgramOk.calls k _ _ l0_0 true _ ?side1 ?side2 A5.out).mono ?_)));(case side1=>exact z6_10);(case side2=>exact HC0_0.out);rintro e w49 ⟨rfl,hb⟩;(first|refine⟨_,rfl,?_⟩|skip);replace BK174:=Za (Zg (g:=gb174) (o:= .cells #[.slice A0_0 l0_0.length c0_0] 33 (0,0)) z6_2 hb);replace BK175:=Za (Zg (g:=gb175) (o:= .cells #[.slice none 0 0,.slice none 0 0,.int .i64 0,.int .i64 0] 28 (0,0)) z6_6 hb);replace HB:=Za (Zj z6_0 hb);(try clear hb);(try clear hb2);(try clear hk);(try clear hi))|(go_at_call 22;(with_reducible refine(spec_VarsOk.calls k _ _ l2 true _ ?side1 ?side2 A7.out).mono ?_);(case side1=>exact z6_11);(case side2=>exact HC2.out);rintro e w' ⟨rfl,⟨nd,rfl⟩⟩;(try(rw[drewN_self w49];generalize hq_:World.drewN w49 _=w49;have n0_:Aside0 (w49.heap[gb174]? =some (.cells #[.slice A0_0 l0_0.length c0_0] 33 (0,0))):=⟨by rw[←hq_];exact z6_2⟩;have n1_:Aside0 (w49.heap[gb175]? =some (.cells #[.slice none 0 0,.slice none 0 0,.int .i64 0,.int .i64 0] 28 (0,0))):=⟨by rw[←hq_];exact z6_6⟩;have n2_:Aside0 (Below w.heap.size w w49):=⟨by rw[←hq_];exact z6_0⟩;clear BK174 BK175 HB hq_;have BK174:=n0_;have BK175:=n1_;have HB:=n2_;clear n0_ n1_ n2_));(try(have hcuz50_0:w49.cell? ⟨gb174,0,none⟩=some (.slice A0_0 l0_0.length c0_0):=(Zb BK174.out 0).trans rfl;have hfuz50_0:=Zc BK174.out 0));(try(have hcuz51_0:w49.cell? ⟨gb175,0,none⟩=some (.slice none 0 0):=(Zb BK175.out 0).trans rfl;have hcuz51_1:w49.cell? ⟨gb175,1,none⟩=some (.slice none 0 0):=(Zb BK175.out 1).trans rfl;have hcuz51_2:w49.cell? ⟨gb175,2,none⟩=some (.int .i64 0):=(Zb BK175.out 2).trans rfl;have hcuz51_3:w49.cell? ⟨gb175,3,none⟩=some (.int .i64 0):=(Zb BK175.out 3).trans rfl;have hfuz51_0:=Zc BK175.out 0;have hfuz51_1:=Zc BK175.out 1;have hfuz51_2:=Zc BK175.out 2;have hfuz51_3:=Zc BK175.out 3));have hcz52_0:w49.cell? ⟨gb174,0,none⟩=some (.slice A0_0 l0_0.length c0_0):=(Zb BK174.out 0).trans rfl;have hfz52_0:=Zc BK174.out 0)|(go_at_call 23;(with_reducible refine(spec_l01In.calls a1 0 (wrap64 ((l0_0.length:Int) - 1)) false _ A9.out).mono ?_);rintro e w' ⟨rfl,⟨nd,rfl⟩⟩;(try(rw[drewN_self w49];generalize hq_:World.drewN w49 _=w49;have n0_:Aside0 (w49.heap[gb174]? =some (.cells #[.slice A0_0 l0_0.length c0_0] 33 (0,0))):=⟨by rw[←hq_];exact z6_2⟩;have n1_:Aside0 (w49.heap[gb175]? =some (.cells #[.slice none 0 0,.slice none 0 0,.int .i64 0,.int .i64 0] 28 (0,0))):=⟨by rw[←hq_];exact z6_6⟩;have n2_:Aside0 (Below w.heap.size w w49):=⟨by rw[←hq_];exact z6_0⟩;clear BK174 BK175 HB hq_;have BK174:=n0_;have BK175:=n1_;have HB:=n2_;clear n0_ n1_ n2_));(try(have hcuz53_0:w49.cell? ⟨gb174,0,none⟩=some (.slice A0_0 l0_0.length c0_0):=(Zb BK174.out 0).trans rfl;have hfuz53_0:=Zc BK174.out 0));(try(have hcuz54_0:w49.cell? ⟨gb175,0,none⟩=some (.slice none 0 0):=(Zb BK175.out 0).trans rfl;have hcuz54_1:w49.cell? ⟨gb175,1,none⟩=some (.slice none 0 0):=(Zb BK175.out 1).trans rfl;have hcuz54_2:w49.cell? ⟨gb175,2,none⟩=some (.int .i64 0):=(Zb BK175.out 2).trans rfl;have hcuz54_3:w49.cell? ⟨gb175,3,none⟩=some (.int .i64 0):=(Zb BK175.out 3).trans rfl;have hfuz54_0:=Zc BK175.out 0;have hfuz54_1:=Zc BK175.out 1;have hfuz54_2:=Zc BK175.out 2;have hfuz54_3:=Zc BK175.out 3));have hcz55_0:w49.cell? ⟨gb175,0,none⟩=some (.slice none 0 0):=(Zb BK175.out 0).trans rfl;have hcz55_1:w49.cell? ⟨gb175,1,none⟩=some (.slice none 0 0):=(Zb BK175.out 1).trans rfl;have hcz55_2:w49.cell? ⟨gb175,2,none⟩=some (.int .i64 0):=(Zb BK175.out 2).trans rfl;have hcz55_3:w49.cell? ⟨gb175,3,none⟩=some (.int .i64 0):=(Zb BK175.out 3).trans rfl;have hfz55_0:=Zc BK175.out 0;have hfz55_1:=Zc BK175.out 1;have hfz55_2:=Zc BK175.out 2;have hfz55_3:=Zc BK175.out 3)|((with_reducible refine Yk (t:=28) (p:=8) rfl ?_);refine Yj (t:=28) (p:=8) (v:= ?vo_w56) (w1:=((((w49.setCell ⟨gb175,0,none⟩ (.slice none 0 0)).setCell ⟨gb175,1,none⟩ (.slice none 0 0)).setCell ⟨gb175,2,none⟩ (.int .i64 0)).setCell ⟨gb175,3,none⟩ (.int .i64 0))) ?hg ?ho ?hn ?hr ?_;(case ho=>rfl);(case hg=>rfl);(case hn=>rfl);(case hr=>exact z6_7);intro w56 hw;have n0_:Aside0 (w56.heap[gb174]? =some (.cells #[.slice A0_0 l0_0.length c0_0] 33 (0,0))):=⟨z6_4⟩;have n1_:Aside0 (w56.heap[gb175]? =some (.cells #[.slice none 0 0,.slice none 0 0,.int .i64 0,.int .i64 0] 28 (0,0))):=⟨z6_3⟩;have n2_:Aside0 (Below w.heap.size w w56):=⟨(by rw[hw];exact z6_0)⟩;clear hw;clear BK174;clear BK175;clear HB;have BK174:=n0_;have BK175:=n1_;have HB:=n2_;clear n0_ n1_ n2_))
    refine bodyPost_ret (results_ct rfl _ _ gb175 28 #[.slice none 0 0,.slice none 0 0,.int .i64 0,.int .i64 0] (0,0) _ rfl z6_6 Try.underlying28 rfl z6_15) rfl ?_
    exact⟨_,_,by first|rfl|(simp[errW_none,errW_some]<;>rfl)|(simp[*,errW_none,errW_some]<;>rfl)|(simp[*,errW_none,errW_some,i64_w];done),by first|exact Kd.R_nil _ _ _ _ _|exact Kd.N_nil _ _ _ _ _|exact Kd.V_nil _ _ _ _ _|exact Kd.Q_nil _ _ _ _ _|exact Kd.S_nil _ _ _ _ _,by first|exact Kd.R_nil _ _ _ _ _|exact Kd.N_nil _ _ _ _ _|exact Kd.V_nil _ _ _ _ _|exact Kd.Q_nil _ _ _ _ _|exact Kd.S_nil _ _ _ _ _,by repeat(first|(with_reducible first|exact HB.out|apply Zh|apply Zf|apply Ze|refine Zd ?_ GE174.out|refine Zd ?_ GE175.out)|exact HB.out)⟩
  ·replace c8:=Bool.eq_false_iff.mpr c8
   subst c8
   have H1:(some (([]:List Int),([]:List Int),0,0,false))=some (r1,r2,r3,r4,r5):=by rw[if_neg (show ¬(false=true) by decide)] at H;exact H
   clear H
   have H:=H1
   clear H1
   simp only[Option.some.injEq,Prod.mk.injEq] at H
   obtain⟨rfl,rfl,rfl,rfl,rfl⟩:=H
   go_enter Try.func6,Try.ntmps6
   go_wp2_with (first|((with_reducible refine Zp (N:=4) rfl ?_);(try(refine gate_guard (by rfl) ?_;dsimp only));refine Zt ?hg (N:=4) ?hd (cs:= #[.slice A0_0 l0_0.length c0_0]) (t:=33) ?hr ?_;(case hd=>rfl);(case hg=>rfl);(case hr=>exact z6_7);intro gb174 hg w57 hbox hb;have BK174:=Za (hbox);have GW174:=Za ((z6_25:w.heap.size≤gb174));have GE174:=Za ((z6_25:w.heap.size≤gb174));replace HB:=Za (Zj z6_1 hb);clear hb hbox hg)|((with_reducible refine Zp (N:=8) rfl ?_);(try(refine gate_guard (by rfl) ?_;dsimp only));refine Zt ?hg (N:=8) ?hd (cs:= #[.slice none 0 0,.slice none 0 0,.int .i64 0,.int .i64 0]) (t:=28) ?hr ?_;(case hd=>rfl);(case hg=>rfl);(case hr=>exact z6_7);intro gb175 hg w58 hbox hb;have BK175:=Za (hbox);have GW175:=Za ((z6_28:w.heap.size≤gb175));have GE175:=Za ((z6_28:w.heap.size≤gb175));replace HB:=Za (Zj z6_5 hb);have NB174_175:=Za ((z6_26:gb174≠gb175));have NB175_174:=Za ((z6_27:gb175≠gb174));replace BK174:=Za (Zg (g:=gb174) (o:= .cells #[.slice A0_0 l0_0.length c0_0] 33 (0,0)) z6_2 hb);clear hb hbox hg;have hnb59:=NB174_175.out;have hnc59:=NB175_174.out;have hcz60_0:w58.cell? ⟨gb174,0,none⟩=some (.slice A0_0 l0_0.length c0_0):=(Zb BK174.out 0).trans rfl;have hfz60_0:=Zc BK174.out 0)|((first|((with_reducible refine gate_callee (f:=21) rfl ?_);refine goesL_ (some 11) rfl rfl Try.func21 z6_15 rfl #[.agg #[.slice A0_0 l0_0.length c0_0]] rfl z6_8 ?_;(with_reducible refine(spec_ProgramOk.calls k _ _ l0_0 true _ ?side1 ?side2 A5.out).mono ?_))|(go_at_call 21;(with_reducible refine(spec_ProgramOk.calls k _ _ l0_0 true _ ?side1 ?side2 A5.out).mono ?_)));(case side1=>exact z6_10);(case side2=>exact HC0_0.out);rintro e w61 ⟨rfl,hb⟩;(first|refine⟨_,rfl,?_⟩|skip);replace BK174:=Za (Zg (g:=gb174) (o:= .cells #[.slice A0_0 l0_0.length c0_0] 33 (0,0)) z6_2 hb);replace BK175:=Za (Zg (g:=gb175) (o:= .cells #[.slice none 0 0,.slice none 0 0,.int .i64 0,.int .i64 0] 28 (0,0)) z6_6 hb);replace HB:=Za (Zj z6_0 hb);(try clear hb);(try clear hb2);(try clear hk);(try clear hi))|(go_at_call 22;(with_reducible refine(spec_VarsOk.calls k _ _ l2 false _ ?side1 ?side2 A7.out).mono ?_);(case side1=>exact z6_11);(case side2=>exact HC2.out);rintro e w' ⟨rfl,⟨nd,rfl⟩⟩;(try(rw[drewN_self w61];generalize hq_:World.drewN w61 _=w61;have n0_:Aside0 (w61.heap[gb174]? =some (.cells #[.slice A0_0 l0_0.length c0_0] 33 (0,0))):=⟨by rw[←hq_];exact z6_2⟩;have n1_:Aside0 (w61.heap[gb175]? =some (.cells #[.slice none 0 0,.slice none 0 0,.int .i64 0,.int .i64 0] 28 (0,0))):=⟨by rw[←hq_];exact z6_6⟩;have n2_:Aside0 (Below w.heap.size w w61):=⟨by rw[←hq_];exact z6_0⟩;clear BK174 BK175 HB hq_;have BK174:=n0_;have BK175:=n1_;have HB:=n2_;clear n0_ n1_ n2_));(try(have hcuz62_0:w61.cell? ⟨gb174,0,none⟩=some (.slice A0_0 l0_0.length c0_0):=(Zb BK174.out 0).trans rfl;have hfuz62_0:=Zc BK174.out 0));(try(have hcuz63_0:w61.cell? ⟨gb175,0,none⟩=some (.slice none 0 0):=(Zb BK175.out 0).trans rfl;have hcuz63_1:w61.cell? ⟨gb175,1,none⟩=some (.slice none 0 0):=(Zb BK175.out 1).trans rfl;have hcuz63_2:w61.cell? ⟨gb175,2,none⟩=some (.int .i64 0):=(Zb BK175.out 2).trans rfl;have hcuz63_3:w61.cell? ⟨gb175,3,none⟩=some (.int .i64 0):=(Zb BK175.out 3).trans rfl;have hfuz63_0:=Zc BK175.out 0;have hfuz63_1:=Zc BK175.out 1;have hfuz63_2:=Zc BK175.out 2;have hfuz63_3:=Zc BK175.out 3));have hcz64_0:w61.cell? ⟨gb175,0,none⟩=some (.slice none 0 0):=(Zb BK175.out 0).trans rfl;have hcz64_1:w61.cell? ⟨gb175,1,none⟩=some (.slice none 0 0):=(Zb BK175.out 1).trans rfl;have hcz64_2:w61.cell? ⟨gb175,2,none⟩=some (.int .i64 0):=(Zb BK175.out 2).trans rfl;have hcz64_3:w61.cell? ⟨gb175,3,none⟩=some (.int .i64 0):=(Zb BK175.out 3).trans rfl;have hfz64_0:=Zc BK175.out 0;have hfz64_1:=Zc BK175.out 1;have hfz64_2:=Zc BK175.out 2;have hfz64_3:=Zc BK175.out 3)|((with_reducible refine Yk (t:=28) (p:=8) rfl ?_);refine Yj (t:=28) (p:=8) (v:= ?vo_w65) (w1:=((((w61.setCell ⟨gb175,0,none⟩ (.slice none 0 0)).setCell ⟨gb175,1,none⟩ (.slice none 0 0)).setCell ⟨gb175,2,none⟩ (.int .i64 0)).setCell ⟨gb175,3,none⟩ (.int .i64 0))) ?hg ?ho ?hn ?hr ?_;(case ho=>rfl);(case hg=>rfl);(case hn=>rfl);(case hr=>exact z6_7);intro w65 hw;have n0_:Aside0 (w65.heap[gb174]? =some (.cells #[.slice A0_0 l0_0.length c0_0] 33 (0,0))):=⟨z6_4⟩;have n1_:Aside0 (w65.heap[gb175]? =some (.cells #[.slice none 0 0,.slice none 0 0,.int .i64 0,.int .i64 0] 28 (0,0))):=⟨z6_3⟩;have n2_:Aside0 (Below w.heap.size w w65):=⟨(by rw[hw];exact z6_0)⟩;clear hw;clear BK174;clear BK175;clear HB;have BK174:=n0_;have BK175:=n1_;have HB:=n2_;clear n0_ n1_ n2_))
   refine bodyPost_ret (results_ct rfl _ _ gb175 28 #[.slice none 0 0,.slice none 0 0,.int .i64 0,.int .i64 0] (0,0) _ rfl z6_6 Try.underlying28 rfl z6_15) rfl ?_
   exact⟨_,_,by first|rfl|(simp[errW_none,errW_some]<;>rfl)|(simp[*,errW_none,errW_some]<;>rfl)|(simp[*,errW_none,errW_some,i64_w];done),by first|exact Kd.R_nil _ _ _ _ _|exact Kd.N_nil _ _ _ _ _|exact Kd.V_nil _ _ _ _ _|exact Kd.Q_nil _ _ _ _ _|exact Kd.S_nil _ _ _ _ _,by first|exact Kd.R_nil _ _ _ _ _|exact Kd.N_nil _ _ _ _ _|exact Kd.V_nil _ _ _ _ _|exact Kd.Q_nil _ _ _ _ _|exact Kd.S_nil _ _ _ _ _,by repeat(first|(with_reducible first|exact HB.out|apply Zh|apply Zf|apply Ze|refine Zd ?_ GE174.out|refine Zd ?_ GE175.out)|exact HB.out)⟩
 ·replace c6:=Bool.eq_false_iff.mpr c6
  subst c6
  have H1:(some (([]:List Int),([]:List Int),0,0,false))=some (r1,r2,r3,r4,r5):=by rw[if_neg (show ¬(false=true) by decide)] at H;exact H
  clear H
  have H:=H1
  clear H1
  simp only[Option.some.injEq,Prod.mk.injEq] at H
  obtain⟨rfl,rfl,rfl,rfl,rfl⟩:=H
  go_enter Try.func6,Try.ntmps6
  go_wp2_with (first|((with_reducible refine Zp (N:=4) rfl ?_);(try(refine gate_guard (by rfl) ?_;dsimp only));refine Zt ?hg (N:=4) ?hd (cs:= #[.slice A0_0 l0_0.length c0_0]) (t:=33) ?hr ?_;(case hd=>rfl);(case hg=>rfl);(case hr=>exact z6_7);intro gb174 hg w66 hbox hb;have BK174:=Za (hbox);have GW174:=Za ((z6_25:w.heap.size≤gb174));have GE174:=Za ((z6_25:w.heap.size≤gb174));replace HB:=Za (Zj z6_1 hb);clear hb hbox hg)|((with_reducible refine Zp (N:=8) rfl ?_);(try(refine gate_guard (by rfl) ?_;dsimp only));refine Zt ?hg (N:=8) ?hd (cs:= #[.slice none 0 0,.slice none 0 0,.int .i64 0,.int .i64 0]) (t:=28) ?hr ?_;(case hd=>rfl);(case hg=>rfl);(case hr=>exact z6_7);intro gb175 hg w67 hbox hb;have BK175:=Za (hbox);have GW175:=Za ((z6_28:w.heap.size≤gb175));have GE175:=Za ((z6_28:w.heap.size≤gb175));replace HB:=Za (Zj z6_5 hb);have NB174_175:=Za ((z6_26:gb174≠gb175));have NB175_174:=Za ((z6_27:gb175≠gb174));replace BK174:=Za (Zg (g:=gb174) (o:= .cells #[.slice A0_0 l0_0.length c0_0] 33 (0,0)) z6_2 hb);clear hb hbox hg;have hnb68:=NB174_175.out;have hnc68:=NB175_174.out;have hcz69_0:w67.cell? ⟨gb174,0,none⟩=some (.slice A0_0 l0_0.length c0_0):=(Zb BK174.out 0).trans rfl;have hfz69_0:=Zc BK174.out 0)|((first|((with_reducible refine gate_callee (f:=21) rfl ?_);refine goesL_ (some 11) rfl rfl Try.func21 z6_15 rfl #[.agg #[.slice A0_0 l0_0.length c0_0]] rfl z6_8 ?_;(with_reducible refine(spec_ProgramOk.calls k _ _ l0_0 false _ ?side1 ?side2 A5.out).mono ?_))|(go_at_call 21;(with_reducible refine(spec_ProgramOk.calls k _ _ l0_0 false _ ?side1 ?side2 A5.out).mono ?_)));(case side1=>exact z6_10);(case side2=>exact HC0_0.out);rintro e w70 ⟨rfl,hb⟩;(first|refine⟨_,rfl,?_⟩|skip);replace BK174:=Za (Zg (g:=gb174) (o:= .cells #[.slice A0_0 l0_0.length c0_0] 33 (0,0)) z6_2 hb);replace BK175:=Za (Zg (g:=gb175) (o:= .cells #[.slice none 0 0,.slice none 0 0,.int .i64 0,.int .i64 0] 28 (0,0)) z6_6 hb);replace HB:=Za (Zj z6_0 hb);(try clear hb);(try clear hb2);(try clear hk);(try clear hi);have hcz71_0:w70.cell? ⟨gb175,0,none⟩=some (.slice none 0 0):=(Zb BK175.out 0).trans rfl;have hcz71_1:w70.cell? ⟨gb175,1,none⟩=some (.slice none 0 0):=(Zb BK175.out 1).trans rfl;have hcz71_2:w70.cell? ⟨gb175,2,none⟩=some (.int .i64 0):=(Zb BK175.out 2).trans rfl;have hcz71_3:w70.cell? ⟨gb175,3,none⟩=some (.int .i64 0):=(Zb BK175.out 3).trans rfl;have hfz71_0:=Zc BK175.out 0;have hfz71_1:=Zc BK175.out 1;have hfz71_2:=Zc BK175.out 2;have hfz71_3:=Zc BK175.out 3)|((with_reducible refine Yk (t:=28) (p:=8) rfl ?_);refine Yj (t:=28) (p:=8) (v:= ?vo_w72) (w1:=((((w70.setCell ⟨gb175,0,none⟩ (.slice none 0 0)).setCell ⟨gb175,1,none⟩ (.slice none 0 0)).setCell ⟨gb175,2,none⟩ (.int .i64 0)).setCell ⟨gb175,3,none⟩ (.int .i64 0))) ?hg ?ho ?hn ?hr ?_;(case ho=>rfl);(case hg=>rfl);(case hn=>rfl);(case hr=>exact z6_7);intro w72 hw;have n0_:Aside0 (w72.heap[gb174]? =some (.cells #[.slice A0_0 l0_0.length c0_0] 33 (0,0))):=⟨z6_4⟩;have n1_:Aside0 (w72.heap[gb175]? =some (.cells #[.slice none 0 0,.slice none 0 0,.int .i64 0,.int .i64 0] 28 (0,0))):=⟨z6_3⟩;have n2_:Aside0 (Below w.heap.size w w72):=⟨(by rw[hw];exact z6_0)⟩;clear hw;clear BK174;clear BK175;clear HB;have BK174:=n0_;have BK175:=n1_;have HB:=n2_;clear n0_ n1_ n2_))
  refine bodyPost_ret (results_ct rfl _ _ gb175 28 #[.slice none 0 0,.slice none 0 0,.int .i64 0,.int .i64 0] (0,0) _ rfl z6_6 Try.underlying28 rfl z6_15) rfl ?_
  exact⟨_,_,by first|rfl|(simp[errW_none,errW_some]<;>rfl)|(simp[*,errW_none,errW_some]<;>rfl)|(simp[*,errW_none,errW_some,i64_w];done),by first|exact Kd.R_nil _ _ _ _ _|exact Kd.N_nil _ _ _ _ _|exact Kd.V_nil _ _ _ _ _|exact Kd.Q_nil _ _ _ _ _|exact Kd.S_nil _ _ _ _ _,by first|exact Kd.R_nil _ _ _ _ _|exact Kd.N_nil _ _ _ _ _|exact Kd.V_nil _ _ _ _ _|exact Kd.Q_nil _ _ _ _ _|exact Kd.S_nil _ _ _ _ _,by repeat(first|(with_reducible first|exact HB.out|apply Zh|apply Zf|apply Ze|refine Zd ?_ GE174.out|refine Zd ?_ GE175.out)|exact HB.out)⟩
def laws_toExpr.f (a0_0:Int) (a0_1:Int) (a0_2:Int):Option (Int×Int×Int):=some (a0_0,a0_1,a0_2)
set_option maxHeartbeats 8000000 in
set_option maxRecDepth 100000 in
theorem laws_toExpr.calls (a0_0:Int) (a0_1:Int) (a0_2:Int) (r1:Int) (r2:Int) (r3:Int) (w:World) (h:laws_toExpr.f a0_0 a0_1 a0_2=some (r1,r2,r3)):
  Calls Try.prog 67 #[.agg #[.int .i64 a0_0,.int .i64 a0_1,.int .i64 a0_2]] w fun e w'=>e= .returned (.agg #[.int .i64 r1,.int .i64 r2,.int .i64 r3])∧Below w.heap.size w w':=by
 have hu69:=Try.underlying69
 have hu62:=Try.underlying62
 have HB:=Za (Yh w.heap.size w)
 have H:(some (a0_0,a0_1,a0_2))=some (r1,r2,r3):=h
 clear h
 simp only[Option.some.injEq,Prod.mk.injEq] at H
 obtain⟨rfl,rfl,rfl⟩:=H
 go_enter Try.func67,Try.ntmps67
 go_wp2_with (first|((with_reducible refine Zp (N:=1) rfl ?_);refine Zt ?hg (N:=1) ?hd (cs:= #[.int .i64 a0_0,.int .i64 a0_1,.int .i64 a0_2]) (t:=69) ?hr ?_;(case hd=>rfl);(case hg=>rfl);(case hr=>exact z6_7);intro gb188 hg w2 hbox hb;have BK188:=Za (hbox);have GW188:=Za ((z6_25:w.heap.size≤gb188));have GE188:=Za ((z6_25:w.heap.size≤gb188));replace HB:=Za (Zj z6_1 hb);clear hb hbox hg)|((with_reducible refine Zp (N:=2) rfl ?_);refine Zt ?hg (N:=2) ?hd (cs:= #[.int .i64 0,.int .i64 0,.int .i64 0]) (t:=62) ?hr ?_;(case hd=>rfl);(case hg=>rfl);(case hr=>exact z6_7);intro gb189 hg w3 hbox hb;have BK189:=Za (hbox);have GW189:=Za ((by rw[hg];exact(Zy z6_22):w.heap.size≤gb189));have GE189:=Za ((by rw[hg];exact(Zy z6_22):w.heap.size≤gb189));replace HB:=Za (Zj z6_22 hb);have NB188_189:=Za ((by rw[hg];exact Nat.ne_of_lt (blk_lt (g:=gb188) (o:= .cells #[.int .i64 a0_0,.int .i64 a0_1,.int .i64 a0_2] 69 (0,0)) z6_14):gb188≠gb189));have NB189_188:=Za ((by rw[hg];exact Nat.ne_of_gt (blk_lt (g:=gb188) (o:= .cells #[.int .i64 a0_0,.int .i64 a0_1,.int .i64 a0_2] 69 (0,0)) z6_14):gb189≠gb188));replace BK188:=Za (Zg (g:=gb188) (o:= .cells #[.int .i64 a0_0,.int .i64 a0_1,.int .i64 a0_2] 69 (0,0)) z6_14 hb);clear hb hbox hg)|((with_reducible refine Zp (N:=3) rfl ?_);refine Zt ?hg (N:=3) ?hd (cs:= #[.int .i64 0,.int .i64 0,.int .i64 0]) (t:=62) ?hr ?_;(case hd=>rfl);(case hg=>rfl);(case hr=>exact z6_7);intro gb190 hg w4 hbox hb;have BK190:=Za (hbox);have GW190:=Za ((by rw[hg];exact(Zy z6_17):w.heap.size≤gb190));have GE190:=Za ((by rw[hg];exact(Zy z6_17):w.heap.size≤gb190));replace HB:=Za (Zj z6_17 hb);have NB188_190:=Za ((by rw[hg];exact Nat.ne_of_lt (blk_lt (g:=gb188) (o:= .cells #[.int .i64 a0_0,.int .i64 a0_1,.int .i64 a0_2] 69 (0,0)) z6_14):gb188≠gb190));have NB190_188:=Za ((by rw[hg];exact Nat.ne_of_gt (blk_lt (g:=gb188) (o:= .cells #[.int .i64 a0_0,.int .i64 a0_1,.int .i64 a0_2] 69 (0,0)) z6_14):gb190≠gb188));replace BK188:=Za (Zg (g:=gb188) (o:= .cells #[.int .i64 a0_0,.int .i64 a0_1,.int .i64 a0_2] 69 (0,0)) z6_14 hb);have NB189_190:=Za ((by rw[hg];exact Nat.ne_of_lt (blk_lt (g:=gb189) (o:= .cells #[.int .i64 0,.int .i64 0,.int .i64 0] 62 (0,0)) z6_19):gb189≠gb190));have NB190_189:=Za ((by rw[hg];exact Nat.ne_of_gt (blk_lt (g:=gb189) (o:= .cells #[.int .i64 0,.int .i64 0,.int .i64 0] 62 (0,0)) z6_19):gb190≠gb189));replace BK189:=Za (Zg (g:=gb189) (o:= .cells #[.int .i64 0,.int .i64 0,.int .i64 0] 62 (0,0)) z6_19 hb);clear hb hbox hg;have hnb5:=NB188_189.out;have hnc5:=NB189_188.out;have hnb6:=NB188_190.out;have hnc6:=NB190_188.out;have hcz7_0:w4.cell? ⟨gb188,0,none⟩=some (.int .i64 a0_0):=(Zb BK188.out 0).trans rfl;have hcz7_1:w4.cell? ⟨gb188,1,none⟩=some (.int .i64 a0_1):=(Zb BK188.out 1).trans rfl;have hcz7_2:w4.cell? ⟨gb188,2,none⟩=some (.int .i64 a0_2):=(Zb BK188.out 2).trans rfl;have hfz7_0:=Zc BK188.out 0;have hfz7_1:=Zc BK188.out 1;have hfz7_2:=Zc BK188.out 2;have hnb8:=NB190_189.out;have hnc8:=NB189_190.out;have hcz9_0:w4.cell? ⟨gb190,0,none⟩=some (.int .i64 0):=(Zb BK190.out 0).trans rfl;have hcz9_1:w4.cell? ⟨gb190,1,none⟩=some (.int .i64 0):=(Zb BK190.out 1).trans rfl;have hcz9_2:w4.cell? ⟨gb190,2,none⟩=some (.int .i64 0):=(Zb BK190.out 2).trans rfl;have hfz9_0:=Zc BK190.out 0;have hfz9_1:=Zc BK190.out 1;have hfz9_2:=Zc BK190.out 2;have hcz10_0:w4.cell? ⟨gb189,0,none⟩=some (.int .i64 0):=(Zb BK189.out 0).trans rfl;have hcz10_1:w4.cell? ⟨gb189,1,none⟩=some (.int .i64 0):=(Zb BK189.out 1).trans rfl;have hcz10_2:w4.cell? ⟨gb189,2,none⟩=some (.int .i64 0):=(Zb BK189.out 2).trans rfl;have hfz10_0:=Zc BK189.out 0;have hfz10_1:=Zc BK189.out 1;have hfz10_2:=Zc BK189.out 2)|((with_reducible refine Yk (t:=62) (p:=2) rfl ?_);refine Yj (t:=62) (p:=2) (v:= ?vo_w11) (w1:=((((((w4.setCell ⟨gb190,0,none⟩ (.int .i64 a0_0)).setCell ⟨gb190,1,none⟩ (.int .i64 a0_1)).setCell ⟨gb190,2,none⟩ (.int .i64 a0_2)).setCell ⟨gb189,0,none⟩ (.int .i64 a0_0)).setCell ⟨gb189,1,none⟩ (.int .i64 a0_1)).setCell ⟨gb189,2,none⟩ (.int .i64 a0_2))) ?hg ?ho ?hn ?hr ?_;(case ho=>rfl);(case hg=>rfl);(case hn=>rfl);(case hr=>exact z6_7);intro w11 hw;have n0_:Aside0 (w11.heap[gb188]? =some (.cells #[.int .i64 a0_0,.int .i64 a0_1,.int .i64 a0_2] 69 (0,0))):=⟨(by rw[hw];exact(by(with_reducible repeat(first|refine blk_drewN ?_ _|refine blk_drew ?_|refine blk_alloc ?_ _));refine blk_far ?_ NB188_189.out _;(with_reducible repeat(first|refine blk_drewN ?_ _|refine blk_drew ?_|refine blk_alloc ?_ _));refine blk_far ?_ NB188_189.out _;(with_reducible repeat(first|refine blk_drewN ?_ _|refine blk_drew ?_|refine blk_alloc ?_ _));refine blk_far ?_ NB188_189.out _;(with_reducible repeat(first|refine blk_drewN ?_ _|refine blk_drew ?_|refine blk_alloc ?_ _));refine blk_far ?_ NB188_190.out _;(with_reducible repeat(first|refine blk_drewN ?_ _|refine blk_drew ?_|refine blk_alloc ?_ _));refine blk_far ?_ NB188_190.out _;(with_reducible repeat(first|refine blk_drewN ?_ _|refine blk_drew ?_|refine blk_alloc ?_ _));refine blk_far ?_ NB188_190.out _;(with_reducible repeat(first|refine blk_drewN ?_ _|refine blk_drew ?_|refine blk_alloc ?_ _));exact BK188.out))⟩;have n1_:Aside0 (w11.heap[gb189]? =some (.cells #[.int .i64 a0_0,.int .i64 a0_1,.int .i64 a0_2] 62 (0,0))):=⟨(by rw[hw];exact(by(with_reducible repeat(first|refine blk_drewN ?_ _|refine blk_drew ?_|refine blk_alloc ?_ _));refine blk_put (cs:= #[.int .i64 a0_0,.int .i64 a0_1,.int .i64 0]) ?_ 2 _ rfl;(with_reducible repeat(first|refine blk_drewN ?_ _|refine blk_drew ?_|refine blk_alloc ?_ _));refine blk_put (cs:= #[.int .i64 a0_0,.int .i64 0,.int .i64 0]) ?_ 1 _ rfl;(with_reducible repeat(first|refine blk_drewN ?_ _|refine blk_drew ?_|refine blk_alloc ?_ _));refine blk_put (cs:= #[.int .i64 0,.int .i64 0,.int .i64 0]) ?_ 0 _ rfl;(with_reducible repeat(first|refine blk_drewN ?_ _|refine blk_drew ?_|refine blk_alloc ?_ _));refine blk_far ?_ NB189_190.out _;(with_reducible repeat(first|refine blk_drewN ?_ _|refine blk_drew ?_|refine blk_alloc ?_ _));refine blk_far ?_ NB189_190.out _;(with_reducible repeat(first|refine blk_drewN ?_ _|refine blk_drew ?_|refine blk_alloc ?_ _));refine blk_far ?_ NB189_190.out _;(with_reducible repeat(first|refine blk_drewN ?_ _|refine blk_drew ?_|refine blk_alloc ?_ _));exact BK189.out))⟩;have n2_:Aside0 (w11.heap[gb190]? =some (.cells #[.int .i64 a0_0,.int .i64 a0_1,.int .i64 a0_2] 62 (0,0))):=⟨(by rw[hw];exact(by(with_reducible repeat(first|refine blk_drewN ?_ _|refine blk_drew ?_|refine blk_alloc ?_ _));refine blk_far ?_ NB190_189.out _;(with_reducible repeat(first|refine blk_drewN ?_ _|refine blk_drew ?_|refine blk_alloc ?_ _));refine blk_far ?_ NB190_189.out _;(with_reducible repeat(first|refine blk_drewN ?_ _|refine blk_drew ?_|refine blk_alloc ?_ _));refine blk_far ?_ NB190_189.out _;(with_reducible repeat(first|refine blk_drewN ?_ _|refine blk_drew ?_|refine blk_alloc ?_ _));refine blk_put (cs:= #[.int .i64 a0_0,.int .i64 a0_1,.int .i64 0]) ?_ 2 _ rfl;(with_reducible repeat(first|refine blk_drewN ?_ _|refine blk_drew ?_|refine blk_alloc ?_ _));refine blk_put (cs:= #[.int .i64 a0_0,.int .i64 0,.int .i64 0]) ?_ 1 _ rfl;(with_reducible repeat(first|refine blk_drewN ?_ _|refine blk_drew ?_|refine blk_alloc ?_ _));refine blk_put (cs:= #[.int .i64 0,.int .i64 0,.int .i64 0]) ?_ 0 _ rfl;(with_reducible repeat(first|refine blk_drewN ?_ _|refine blk_drew ?_|refine blk_alloc ?_ _));exact BK190.out))⟩;have n3_:Aside0 (Below w.heap.size w w11):=⟨(by rw[hw];exact(by repeat(first|(with_reducible first|exact HB.out|apply Zh|apply Zf|apply Ze|refine Zd ?_ GE188.out|refine Zd ?_ GE189.out|refine Zd ?_ GE190.out)|exact HB.out)))⟩;clear hw;clear BK188;clear BK189;clear BK190;clear HB;have BK188:=n0_;have BK189:=n1_;have BK190:=n2_;have HB:=n3_;clear n0_ n1_ n2_ n3_))
 refine bodyPost_ret (results_cell_row rfl _ _ gb189 62 #[.int .i64 a0_0,.int .i64 a0_1,.int .i64 a0_2] (0,0) _ rfl z6_19 Try.underlying62 rfl z6_15) rfl ?_
 exact⟨by first|rfl|(simp[errW_none,errW_some]<;>rfl)|(simp[*,errW_none,errW_some]<;>rfl)|(simp[*,errW_none,errW_some,i64_w];done),by repeat(first|(with_reducible first|exact HB.out|apply Zh|apply Zf|apply Ze|refine Zd ?_ GE188.out|refine Zd ?_ GE189.out|refine Zd ?_ GE190.out)|exact HB.out)⟩
def laws_toStmt.f (a0_0:Int) (a0_1:Int) (a0_2:Int) (a0_3:Int) (a0_4:Int) (a0_5:Int):Option (Int×Int×Int×Int×Int×Int):=(laws_toExpr.f a0_3 a0_4 a0_5).bind fun bt194=>(some (a0_0,a0_1,a0_2,bt194.1,bt194.2.1,bt194.2.2))
set_option maxHeartbeats 8000000 in
set_option maxRecDepth 100000 in
theorem laws_toStmt.calls (a0_0:Int) (a0_1:Int) (a0_2:Int) (a0_3:Int) (a0_4:Int) (a0_5:Int) (r1:Int) (r2:Int) (r3:Int) (r4:Int) (r5:Int) (r6:Int) (w:World) (h:laws_toStmt.f a0_0 a0_1 a0_2 a0_3 a0_4 a0_5=some (r1,r2,r3,r4,r5,r6)):
  Calls Try.prog 89 #[.agg #[.int .i64 a0_0,.int .i64 a0_1,.int .i64 a0_2,.int .i64 a0_3,.int .i64 a0_4,.int .i64 a0_5]] w fun e w'=>e= .returned (.agg #[.int .i64 r1,.int .i64 r2,.int .i64 r3,.int .i64 r4,.int .i64 r5,.int .i64 r6])∧Below w.heap.size w w':=by
 have hu99:=Try.underlying99
 have hu80:=Try.underlying80
 have hu69:=Try.underlying69
 have hu62:=Try.underlying62
 have HB:=Za (Yh w.heap.size w)
 have H:((laws_toExpr.f a0_3 a0_4 a0_5).bind fun bt194=>(some (a0_0,a0_1,a0_2,bt194.1,bt194.2.1,bt194.2.2)))=some (r1,r2,r3,r4,r5,r6):=h
 clear h
 replace H:=Zl H
 obtain⟨⟨t194,t195,t196⟩,A20,H⟩:=H
 replace H:(some (a0_0,a0_1,a0_2,t194,t195,t196))=some (r1,r2,r3,r4,r5,r6):=H
 have A2:=Za A20
 clear A20
 simp only[Option.some.injEq,Prod.mk.injEq] at H
 obtain⟨rfl,rfl,rfl,rfl,rfl,rfl⟩:=H
 go_enter Try.func89,Try.ntmps89
 go_wp2_with (first|((with_reducible refine Zp (N:=1) rfl ?_);refine Zt ?hg (N:=1) ?hd (cs:= #[.int .i64 a0_0,.int .i64 a0_1,.int .i64 a0_2,.int .i64 a0_3,.int .i64 a0_4,.int .i64 a0_5]) (t:=99) ?hr ?_;(case hd=>rfl);(case hg=>rfl);(case hr=>exact z6_7);intro gb191 hg w3 hbox hb;have BK191:=Za (hbox);have GW191:=Za ((z6_25:w.heap.size≤gb191));have GE191:=Za ((z6_25:w.heap.size≤gb191));replace HB:=Za (Zj z6_1 hb);clear hb hbox hg)|((with_reducible refine Zp (N:=2) rfl ?_);refine Zt ?hg (N:=2) ?hd (cs:= #[.int .i64 0,.int .i64 0,.int .i64 0,.int .i64 0,.int .i64 0,.int .i64 0]) (t:=80) ?hr ?_;(case hd=>rfl);(case hg=>rfl);(case hr=>exact z6_7);intro gb192 hg w4 hbox hb;have BK192:=Za (hbox);have GW192:=Za ((by rw[hg];exact(Zy z6_21):w.heap.size≤gb192));have GE192:=Za ((by rw[hg];exact(Zy z6_21):w.heap.size≤gb192));replace HB:=Za (Zj z6_21 hb);have NB191_192:=Za ((by rw[hg];exact Nat.ne_of_lt (blk_lt (g:=gb191) (o:= .cells #[.int .i64 a0_0,.int .i64 a0_1,.int .i64 a0_2,.int .i64 a0_3,.int .i64 a0_4,.int .i64 a0_5] 99 (0,0)) z6_13):gb191≠gb192));have NB192_191:=Za ((by rw[hg];exact Nat.ne_of_gt (blk_lt (g:=gb191) (o:= .cells #[.int .i64 a0_0,.int .i64 a0_1,.int .i64 a0_2,.int .i64 a0_3,.int .i64 a0_4,.int .i64 a0_5] 99 (0,0)) z6_13):gb192≠gb191));replace BK191:=Za (Zg (g:=gb191) (o:= .cells #[.int .i64 a0_0,.int .i64 a0_1,.int .i64 a0_2,.int .i64 a0_3,.int .i64 a0_4,.int .i64 a0_5] 99 (0,0)) z6_13 hb);clear hb hbox hg)|((with_reducible refine Zp (N:=3) rfl ?_);refine Zt ?hg (N:=3) ?hd (cs:= #[.int .i64 0,.int .i64 0,.int .i64 0,.int .i64 0,.int .i64 0,.int .i64 0]) (t:=80) ?hr ?_;(case hd=>rfl);(case hg=>rfl);(case hr=>exact z6_7);intro gb193 hg w5 hbox hb;have BK193:=Za (hbox);have GW193:=Za ((by rw[hg];exact(Zy z6_16):w.heap.size≤gb193));have GE193:=Za ((by rw[hg];exact(Zy z6_16):w.heap.size≤gb193));replace HB:=Za (Zj z6_16 hb);have NB191_193:=Za ((by rw[hg];exact Nat.ne_of_lt (blk_lt (g:=gb191) (o:= .cells #[.int .i64 a0_0,.int .i64 a0_1,.int .i64 a0_2,.int .i64 a0_3,.int .i64 a0_4,.int .i64 a0_5] 99 (0,0)) z6_13):gb191≠gb193));have NB193_191:=Za ((by rw[hg];exact Nat.ne_of_gt (blk_lt (g:=gb191) (o:= .cells #[.int .i64 a0_0,.int .i64 a0_1,.int .i64 a0_2,.int .i64 a0_3,.int .i64 a0_4,.int .i64 a0_5] 99 (0,0)) z6_13):gb193≠gb191));replace BK191:=Za (Zg (g:=gb191) (o:= .cells #[.int .i64 a0_0,.int .i64 a0_1,.int .i64 a0_2,.int .i64 a0_3,.int .i64 a0_4,.int .i64 a0_5] 99 (0,0)) z6_13 hb);have NB192_193:=Za ((by rw[hg];exact Nat.ne_of_lt (blk_lt (g:=gb192) (o:= .cells #[.int .i64 0,.int .i64 0,.int .i64 0,.int .i64 0,.int .i64 0,.int .i64 0] 80 (0,0)) z6_18):gb192≠gb193));have NB193_192:=Za ((by rw[hg];exact Nat.ne_of_gt (blk_lt (g:=gb192) (o:= .cells #[.int .i64 0,.int .i64 0,.int .i64 0,.int .i64 0,.int .i64 0,.int .i64 0] 80 (0,0)) z6_18):gb193≠gb192));replace BK192:=Za (Zg (g:=gb192) (o:= .cells #[.int .i64 0,.int .i64 0,.int .i64 0,.int .i64 0,.int .i64 0,.int .i64 0] 80 (0,0)) z6_18 hb);clear hb hbox hg;have hnb6:=NB191_192.out;have hnc6:=NB192_191.out;have hnb7:=NB191_193.out;have hnc7:=NB193_191.out;have hcz8_0:w5.cell? ⟨gb191,0,none⟩=some (.int .i64 a0_0):=(Zb BK191.out 0).trans rfl;have hcz8_1:w5.cell? ⟨gb191,1,none⟩=some (.int .i64 a0_1):=(Zb BK191.out 1).trans rfl;have hcz8_2:w5.cell? ⟨gb191,2,none⟩=some (.int .i64 a0_2):=(Zb BK191.out 2).trans rfl;have hcz8_3:w5.cell? ⟨gb191,3,none⟩=some (.int .i64 a0_3):=(Zb BK191.out 3).trans rfl;have hcz8_4:w5.cell? ⟨gb191,4,none⟩=some (.int .i64 a0_4):=(Zb BK191.out 4).trans rfl;have hcz8_5:w5.cell? ⟨gb191,5,none⟩=some (.int .i64 a0_5):=(Zb BK191.out 5).trans rfl;have hfz8_0:=Zc BK191.out 0;have hfz8_1:=Zc BK191.out 1;have hfz8_2:=Zc BK191.out 2;have hfz8_3:=Zc BK191.out 3;have hfz8_4:=Zc BK191.out 4;have hfz8_5:=Zc BK191.out 5;have hnb9:=NB193_192.out;have hnc9:=NB192_193.out;have hcz10_0:w5.cell? ⟨gb193,0,none⟩=some (.int .i64 0):=(Zb BK193.out 0).trans rfl;have hcz10_1:w5.cell? ⟨gb193,1,none⟩=some (.int .i64 0):=(Zb BK193.out 1).trans rfl;have hcz10_2:w5.cell? ⟨gb193,2,none⟩=some (.int .i64 0):=(Zb BK193.out 2).trans rfl;have hcz10_3:w5.cell? ⟨gb193,3,none⟩=some (.int .i64 0):=(Zb BK193.out 3).trans rfl;have hcz10_4:w5.cell? ⟨gb193,4,none⟩=some (.int .i64 0):=(Zb BK193.out 4).trans rfl;have hcz10_5:w5.cell? ⟨gb193,5,none⟩=some (.int .i64 0):=(Zb BK193.out 5).trans rfl;have hfz10_0:=Zc BK193.out 0;have hfz10_1:=Zc BK193.out 1;have hfz10_2:=Zc BK193.out 2;have hfz10_3:=Zc BK193.out 3;have hfz10_4:=Zc BK193.out 4;have hfz10_5:=Zc BK193.out 5)|((first|((with_reducible refine gate_callee (f:=67) rfl ?_);refine goesL_ (some 15) rfl rfl Try.func67 z6_15 rfl #[.agg #[.int .i64 a0_3,.int .i64 a0_4,.int .i64 a0_5]] rfl z6_8 ?_;(with_reducible refine(laws_toExpr.calls a0_3 a0_4 a0_5 t194 t195 t196 _ A2.out).mono ?_))|(go_at_call 67;(with_reducible refine(laws_toExpr.calls a0_3 a0_4 a0_5 t194 t195 t196 _ A2.out).mono ?_)));rintro e w11 ⟨rfl,hb⟩;(first|refine⟨_,rfl,?_⟩|skip);replace BK191:=Za (Zg (g:=gb191) (o:= .cells #[.int .i64 a0_0,.int .i64 a0_1,.int .i64 a0_2,.int .i64 a0_3,.int .i64 a0_4,.int .i64 a0_5] 99 (0,0)) (by(with_reducible repeat(first|refine blk_drewN ?_ _|refine blk_drew ?_|refine blk_alloc ?_ _));refine blk_far ?_ NB191_193.out _;(with_reducible repeat(first|refine blk_drewN ?_ _|refine blk_drew ?_|refine blk_alloc ?_ _));refine blk_far ?_ NB191_193.out _;(with_reducible repeat(first|refine blk_drewN ?_ _|refine blk_drew ?_|refine blk_alloc ?_ _));refine blk_far ?_ NB191_193.out _;(with_reducible repeat(first|refine blk_drewN ?_ _|refine blk_drew ?_|refine blk_alloc ?_ _));exact BK191.out) hb);replace BK192:=Za (Zg (g:=gb192) (o:= .cells #[.int .i64 0,.int .i64 0,.int .i64 0,.int .i64 0,.int .i64 0,.int .i64 0] 80 (0,0)) (by(with_reducible repeat(first|refine blk_drewN ?_ _|refine blk_drew ?_|refine blk_alloc ?_ _));refine blk_far ?_ NB192_193.out _;(with_reducible repeat(first|refine blk_drewN ?_ _|refine blk_drew ?_|refine blk_alloc ?_ _));refine blk_far ?_ NB192_193.out _;(with_reducible repeat(first|refine blk_drewN ?_ _|refine blk_drew ?_|refine blk_alloc ?_ _));refine blk_far ?_ NB192_193.out _;(with_reducible repeat(first|refine blk_drewN ?_ _|refine blk_drew ?_|refine blk_alloc ?_ _));exact BK192.out) hb);replace BK193:=Za (Zg (g:=gb193) (o:= .cells #[.int .i64 a0_0,.int .i64 a0_1,.int .i64 a0_2,.int .i64 0,.int .i64 0,.int .i64 0] 80 (0,0)) (by(with_reducible repeat(first|refine blk_drewN ?_ _|refine blk_drew ?_|refine blk_alloc ?_ _));refine blk_put (cs:= #[.int .i64 a0_0,.int .i64 a0_1,.int .i64 0,.int .i64 0,.int .i64 0,.int .i64 0]) ?_ 2 _ rfl;(with_reducible repeat(first|refine blk_drewN ?_ _|refine blk_drew ?_|refine blk_alloc ?_ _));refine blk_put (cs:= #[.int .i64 a0_0,.int .i64 0,.int .i64 0,.int .i64 0,.int .i64 0,.int .i64 0]) ?_ 1 _ rfl;(with_reducible repeat(first|refine blk_drewN ?_ _|refine blk_drew ?_|refine blk_alloc ?_ _));refine blk_put (cs:= #[.int .i64 0,.int .i64 0,.int .i64 0,.int .i64 0,.int .i64 0,.int .i64 0]) ?_ 0 _ rfl;(with_reducible repeat(first|refine blk_drewN ?_ _|refine blk_drew ?_|refine blk_alloc ?_ _));exact BK193.out) hb);replace HB:=Za (Zj z6_23 hb);(try clear hb);(try clear hb2);(try clear hk);(try clear hi);have hcz12_0:w11.cell? ⟨gb193,0,none⟩=some (.int .i64 a0_0):=(Zb BK193.out 0).trans rfl;have hcz12_1:w11.cell? ⟨gb193,1,none⟩=some (.int .i64 a0_1):=(Zb BK193.out 1).trans rfl;have hcz12_2:w11.cell? ⟨gb193,2,none⟩=some (.int .i64 a0_2):=(Zb BK193.out 2).trans rfl;have hcz12_3:w11.cell? ⟨gb193,3,none⟩=some (.int .i64 0):=(Zb BK193.out 3).trans rfl;have hcz12_4:w11.cell? ⟨gb193,4,none⟩=some (.int .i64 0):=(Zb BK193.out 4).trans rfl;have hcz12_5:w11.cell? ⟨gb193,5,none⟩=some (.int .i64 0):=(Zb BK193.out 5).trans rfl;have hfz12_0:=Zc BK193.out 0;have hfz12_1:=Zc BK193.out 1;have hfz12_2:=Zc BK193.out 2;have hfz12_3:=Zc BK193.out 3;have hfz12_4:=Zc BK193.out 4;have hfz12_5:=Zc BK193.out 5;have hcz13_0:w11.cell? ⟨gb192,0,none⟩=some (.int .i64 0):=(Zb BK192.out 0).trans rfl;have hcz13_1:w11.cell? ⟨gb192,1,none⟩=some (.int .i64 0):=(Zb BK192.out 1).trans rfl;have hcz13_2:w11.cell? ⟨gb192,2,none⟩=some (.int .i64 0):=(Zb BK192.out 2).trans rfl;have hcz13_3:w11.cell? ⟨gb192,3,none⟩=some (.int .i64 0):=(Zb BK192.out 3).trans rfl;have hcz13_4:w11.cell? ⟨gb192,4,none⟩=some (.int .i64 0):=(Zb BK192.out 4).trans rfl;have hcz13_5:w11.cell? ⟨gb192,5,none⟩=some (.int .i64 0):=(Zb BK192.out 5).trans rfl;have hfz13_0:=Zc BK192.out 0;have hfz13_1:=Zc BK192.out 1;have hfz13_2:=Zc BK192.out 2;have hfz13_3:=Zc BK192.out 3;have hfz13_4:=Zc BK192.out 4;have hfz13_5:=Zc BK192.out 5)|((with_reducible refine Yk (t:=80) (p:=2) rfl ?_);refine Yj (t:=80) (p:=2) (v:= ?vo_w14) (w1:=(((((((((w11.setCell ⟨gb193,3,none⟩ (.int .i64 t194)).setCell ⟨gb193,4,none⟩ (.int .i64 t195)).setCell ⟨gb193,5,none⟩ (.int .i64 t196)).setCell ⟨gb192,0,none⟩ (.int .i64 a0_0)).setCell ⟨gb192,1,none⟩ (.int .i64 a0_1)).setCell ⟨gb192,2,none⟩ (.int .i64 a0_2)).setCell ⟨gb192,3,none⟩ (.int .i64 t194)).setCell ⟨gb192,4,none⟩ (.int .i64 t195)).setCell ⟨gb192,5,none⟩ (.int .i64 t196))) ?hg ?ho ?hn ?hr ?_;(case ho=>rfl);(case hg=>rfl);(case hn=>rfl);(case hr=>exact z6_7);intro w14 hw;have n0_:Aside0 (w14.heap[gb191]? =some (.cells #[.int .i64 a0_0,.int .i64 a0_1,.int .i64 a0_2,.int .i64 a0_3,.int .i64 a0_4,.int .i64 a0_5] 99 (0,0))):=⟨(by rw[hw];exact(by(with_reducible repeat(first|refine blk_drewN ?_ _|refine blk_drew ?_|refine blk_alloc ?_ _));refine blk_far ?_ NB191_192.out _;(with_reducible repeat(first|refine blk_drewN ?_ _|refine blk_drew ?_|refine blk_alloc ?_ _));refine blk_far ?_ NB191_192.out _;(with_reducible repeat(first|refine blk_drewN ?_ _|refine blk_drew ?_|refine blk_alloc ?_ _));refine blk_far ?_ NB191_192.out _;(with_reducible repeat(first|refine blk_drewN ?_ _|refine blk_drew ?_|refine blk_alloc ?_ _));refine blk_far ?_ NB191_192.out _;(with_reducible repeat(first|refine blk_drewN ?_ _|refine blk_drew ?_|refine blk_alloc ?_ _));refine blk_far ?_ NB191_192.out _;(with_reducible repeat(first|refine blk_drewN ?_ _|refine blk_drew ?_|refine blk_alloc ?_ _));refine blk_far ?_ NB191_192.out _;(with_reducible repeat(first|refine blk_drewN ?_ _|refine blk_drew ?_|refine blk_alloc ?_ _));refine blk_far ?_ NB191_193.out _;(with_reducible repeat(first|refine blk_drewN ?_ _|refine blk_drew ?_|refine blk_alloc ?_ _));refine blk_far ?_ NB191_193.out _;(with_reducible repeat(first|refine blk_drewN ?_ _|refine blk_drew ?_|refine blk_alloc ?_ _));refine blk_far ?_ NB191_193.out _;(with_reducible repeat(first|refine blk_drewN ?_ _|refine blk_drew ?_|refine blk_alloc ?_ _));exact BK191.out))⟩;have n1_:Aside0 (w14.heap[gb192]? =some (.cells #[.int .i64 a0_0,.int .i64 a0_1,.int .i64 a0_2,.int .i64 t194,.int .i64 t195,.int .i64 t196] 80 (0,0))):=⟨(by rw[hw];exact(by(with_reducible repeat(first|refine blk_drewN ?_ _|refine blk_drew ?_|refine blk_alloc ?_ _));refine blk_put (cs:= #[.int .i64 a0_0,.int .i64 a0_1,.int .i64 a0_2,.int .i64 t194,.int .i64 t195,.int .i64 0]) ?_ 5 _ rfl;(with_reducible repeat(first|refine blk_drewN ?_ _|refine blk_drew ?_|refine blk_alloc ?_ _));refine blk_put (cs:= #[.int .i64 a0_0,.int .i64 a0_1,.int .i64 a0_2,.int .i64 t194,.int .i64 0,.int .i64 0]) ?_ 4 _ rfl;(with_reducible repeat(first|refine blk_drewN ?_ _|refine blk_drew ?_|refine blk_alloc ?_ _));refine blk_put (cs:= #[.int .i64 a0_0,.int .i64 a0_1,.int .i64 a0_2,.int .i64 0,.int .i64 0,.int .i64 0]) ?_ 3 _ rfl;(with_reducible repeat(first|refine blk_drewN ?_ _|refine blk_drew ?_|refine blk_alloc ?_ _));refine blk_put (cs:= #[.int .i64 a0_0,.int .i64 a0_1,.int .i64 0,.int .i64 0,.int .i64 0,.int .i64 0]) ?_ 2 _ rfl;(with_reducible repeat(first|refine blk_drewN ?_ _|refine blk_drew ?_|refine blk_alloc ?_ _));refine blk_put (cs:= #[.int .i64 a0_0,.int .i64 0,.int .i64 0,.int .i64 0,.int .i64 0,.int .i64 0]) ?_ 1 _ rfl;(with_reducible repeat(first|refine blk_drewN ?_ _|refine blk_drew ?_|refine blk_alloc ?_ _));refine blk_put (cs:= #[.int .i64 0,.int .i64 0,.int .i64 0,.int .i64 0,.int .i64 0,.int .i64 0]) ?_ 0 _ rfl;(with_reducible repeat(first|refine blk_drewN ?_ _|refine blk_drew ?_|refine blk_alloc ?_ _));refine blk_far ?_ NB192_193.out _;(with_reducible repeat(first|refine blk_drewN ?_ _|refine blk_drew ?_|refine blk_alloc ?_ _));refine blk_far ?_ NB192_193.out _;(with_reducible repeat(first|refine blk_drewN ?_ _|refine blk_drew ?_|refine blk_alloc ?_ _));refine blk_far ?_ NB192_193.out _;(with_reducible repeat(first|refine blk_drewN ?_ _|refine blk_drew ?_|refine blk_alloc ?_ _));exact BK192.out))⟩;have n2_:Aside0 (w14.heap[gb193]? =some (.cells #[.int .i64 a0_0,.int .i64 a0_1,.int .i64 a0_2,.int .i64 t194,.int .i64 t195,.int .i64 t196] 80 (0,0))):=⟨(by rw[hw];exact(by(with_reducible repeat(first|refine blk_drewN ?_ _|refine blk_drew ?_|refine blk_alloc ?_ _));refine blk_far ?_ NB193_192.out _;(with_reducible repeat(first|refine blk_drewN ?_ _|refine blk_drew ?_|refine blk_alloc ?_ _));refine blk_far ?_ NB193_192.out _;(with_reducible repeat(first|refine blk_drewN ?_ _|refine blk_drew ?_|refine blk_alloc ?_ _));refine blk_far ?_ NB193_192.out _;(with_reducible repeat(first|refine blk_drewN ?_ _|refine blk_drew ?_|refine blk_alloc ?_ _));refine blk_far ?_ NB193_192.out _;(with_reducible repeat(first|refine blk_drewN ?_ _|refine blk_drew ?_|refine blk_alloc ?_ _));refine blk_far ?_ NB193_192.out _;(with_reducible repeat(first|refine blk_drewN ?_ _|refine blk_drew ?_|refine blk_alloc ?_ _));refine blk_far ?_ NB193_192.out _;(with_reducible repeat(first|refine blk_drewN ?_ _|refine blk_drew ?_|refine blk_alloc ?_ _));refine blk_put (cs:= #[.int .i64 a0_0,.int .i64 a0_1,.int .i64 a0_2,.int .i64 t194,.int .i64 t195,.int .i64 0]) ?_ 5 _ rfl;(with_reducible repeat(first|refine blk_drewN ?_ _|refine blk_drew ?_|refine blk_alloc ?_ _));refine blk_put (cs:= #[.int .i64 a0_0,.int .i64 a0_1,.int .i64 a0_2,.int .i64 t194,.int .i64 0,.int .i64 0]) ?_ 4 _ rfl;(with_reducible repeat(first|refine blk_drewN ?_ _|refine blk_drew ?_|refine blk_alloc ?_ _));refine blk_put (cs:= #[.int .i64 a0_0,.int .i64 a0_1,.int .i64 a0_2,.int .i64 0,.int .i64 0,.int .i64 0]) ?_ 3 _ rfl;(with_reducible repeat(first|refine blk_drewN ?_ _|refine blk_drew ?_|refine blk_alloc ?_ _));exact BK193.out))⟩;have n3_:Aside0 (Below w.heap.size w w14):=⟨(by rw[hw];exact z6_23)⟩;clear hw;clear BK191;clear BK192;clear BK193;clear HB;have BK191:=n0_;have BK192:=n1_;have BK193:=n2_;have HB:=n3_;clear n0_ n1_ n2_ n3_))
 refine bodyPost_ret (results_cell_row rfl _ _ gb192 80 #[.int .i64 a0_0,.int .i64 a0_1,.int .i64 a0_2,.int .i64 t194,.int .i64 t195,.int .i64 t196] (0,0) _ rfl z6_18 Try.underlying80 rfl z6_15) rfl ?_
 exact⟨by first|rfl|(simp[errW_none,errW_some]<;>rfl)|(simp[*,errW_none,errW_some]<;>rfl)|(simp[*,errW_none,errW_some,i64_w];done),by repeat(first|(with_reducible first|exact HB.out|apply Zh|apply Zf|apply Ze|refine Zd ?_ GE191.out|refine Zd ?_ GE192.out|refine Zd ?_ GE193.out)|exact HB.out)⟩
def laws_toStmtS.l0:Nat→List (S99)→List (S80)→Int→Option ((List (S80)))
 |0,_,_,_=>none
 |k+1,x0,x3,x4=>if x4<(x0.length:Int) then (if 0≤x4 then ((laws_toStmt.f ((rd_T99 x0 x4).f0) ((rd_T99 x0 x4).f1) ((rd_T99 x0 x4).f2) ((rd_T99 x0 x4).f3.f0) ((rd_T99 x0 x4).f3.f1) ((rd_T99 x0 x4).f3.f2)).bind fun bt201=>(if x4<(x3.length:Int) then (laws_toStmtS.l0 k x0 (x3.set (x4:Int).toNat (⟨bt201.1,bt201.2.1,bt201.2.2.1,(⟨bt201.2.2.2.1,bt201.2.2.2.2.1,bt201.2.2.2.2.2⟩:S62)⟩:S80)) (wrap64 (x4+1))) else (none))) else (none)) else (some x3)
def laws_toStmtS.f (k:Nat) (l0:List (S99)):Option ((List (S80))):=if 0≤(l0.length:Int) then (if ((l0.length:Int):Int).toNat≤5864062014805 then (laws_toStmtS.l0 k l0 (List.replicate ((l0.length:Int):Int).toNat z80) 0) else (none)) else (none)
set_option maxHeartbeats 8000000 in
set_option maxRecDepth 100000 in
theorem laws_toStmtS.calls (k:Nat) (A0:Option Addr) (c0:Nat) (l0:List (S99)) (r:List (S80)) (w:World) (hr0:Kd.C k99 w A0 l0.length l0) (hc0:l0.length≤c0) (h:laws_toStmtS.f k l0=some r):
  Calls Try.prog 66 #[.slice A0 l0.length c0] w fun e w'=>∃v0_:Value,e= .returned (v0_)∧Kd.R k80 80 w' w.heap.size (fun _=>True) v0_ r∧Below w.heap.size w w':=by
 have hu99:=Try.underlying99
 have hu80:=Try.underlying80
 have HR0:=Za hr0
 have HC0:=Za hc0
 clear hr0 hc0
 have HB:=Za (Yh w.heap.size w)
 have H:(if 0≤(l0.length:Int) then (if ((l0.length:Int):Int).toNat≤5864062014805 then (laws_toStmtS.l0 k l0 (List.replicate ((l0.length:Int):Int).toNat z80) 0) else (none)) else (none))=some r:=h
 clear h
 by_cases c2:0≤(l0.length:Int)
 ·rw[if_pos c2] at H
  have c2b0:=eq_true c2
  have c2b1:decide (0≤(l0.length:Int))=true:=Zx c2
  clear c2
  by_cases c3:((l0.length:Int):Int).toNat≤5864062014805
  ·rw[if_pos c3] at H
   have c3b0:=eq_true c3
   have c3b1:decide (((l0.length:Int):Int).toNat≤5864062014805)=true:=Zx c3
   clear c3
   obtain⟨y197,hy197⟩:∃y_:List (S80),y_=(List.replicate ((l0.length:Int):Int).toNat z80):=⟨_,rfl⟩
   replace H:(laws_toStmtS.l0 k l0 y197 0)=some r:=by first|(rw[hy197];with_reducible exact H)|(have H2_:=(Option.bind_some _ _).symm.trans H;rw[hy197];with_reducible exact H2_)|(have H2_:=(Option.bind_some _ _).symm.trans H;with_reducible exact H2_)|with_reducible exact H|(rw[hy197];exact H)|exact H
   have Ny197:=Za hy197
   clear hy197
   have H':=Za H
   clear H
   go_enter Try.func66,Try.ntmps66
   go_wp2_with (first|((with_reducible refine Zp (N:=7) rfl ?_);refine Kd.R_make k80 _ 80 rfl (N:=7) rfl 60 _ _ rfl (l0.length:Int) rfl rfl Try.underlying60 (.agg #[(.int .i64 0),(.int .i64 0),(.int .i64 0),(.int .i64 0),(.int .i64 0),(.int .i64 0)]) 48 info80 rfl (by decide) (by omega) z80 (ok:=fun _=>True) (okp:=fun _=>True) (k80_mkM _ _ _ z80) (fun _ hk=>hk) trivial (Zv z6_12) (Nat.le_trans (Nat.mul_le_mul_right _ (Zv z6_12:(l0.length:Int).toNat≤5864062014805)) (by omega)) (Yh _ _) (Nat.le_refl _) ?_;intro v198 w4 ho5 hb hg_ hnew_;clear hg_ hnew_;(first|rw[←Ny197.out] at ho5|(simp only[Int.reduceToNat] at ho5;rw[←Ny197.out] at ho5));have HO199:=Za (Kd.R_lower ho5 (Zy z6_1));replace HB:=Za (Zj z6_1 hb);clear hb ho5))
   go_loopg [4] k (fun kq v4 w'=>∃(x3_1:List (S80)) (x4_1:Int),v4= .int .i64 x4_1∧Aside0 (laws_toStmtS.l0 kq l0 x3_1 x4_1=some r)∧Aside0 (kq≤k)∧Aside0 (Kd.R k80 80 w' w.heap.size (fun _=>True) v198 x3_1)∧Aside0 (Below w.heap.size w w'))
   case atStart=>exact⟨(y197),(0),(by first|rfl|(simp;done)|(simp[*];done)),H',⟨Nat.le_refl _⟩,⟨by(with_reducible repeat(first|apply Zn|apply Zo|apply Zm));exact HO199.out⟩,⟨by repeat(first|(with_reducible first|exact HB.out|apply Zh|apply Zf|apply Ze)|exact HB.out)⟩⟩
   case round=>
    clear H'
    (try clear c2);(try clear c2b0);(try clear c2b1);(try clear c3);(try clear c3b0);(try clear c3b1)
    obtain⟨x3_1,x4_1,rfl,HA,HK1,HO_3,HB⟩:=hrel
    cases gk with
    |zero=>exact absurd HA.out (by simp[laws_toStmtS.l0])
    |succ k1=>
     have H:=HA.out
     clear HA
     simp only[laws_toStmtS.l0] at H
     by_cases c6:x4_1<(l0.length:Int)
     ·rw[if_pos c6] at H
      have c6b0:decide (x4_1<(l0.length:Int))=true:=Zx c6
      clear c6
      by_cases c7:0≤x4_1
      ·rw[if_pos c7] at H
       have c7b0:decide (0≤x4_1)=true:=Zx c7
       clear c7
       replace H:=Zl H
       obtain⟨⟨t201,t202,t203,t204,t205,t206⟩,A80,H⟩:=H
       replace H:(if x4_1<(x3_1.length:Int) then (laws_toStmtS.l0 k1 l0 (x3_1.set (x4_1:Int).toNat (⟨t201,t202,t203,(⟨t204,t205,t206⟩:S62)⟩:S80)) (wrap64 (x4_1+1))) else (none))=some r:=H
       have A8:=Za A80
       clear A80
       by_cases c9:x4_1<(x3_1.length:Int)
       ·rw[if_pos c9] at H
        have c9b0:decide (x4_1<(x3_1.length:Int))=true:=Zx c9
        clear c9
        obtain⟨y207,hy207⟩:∃y_:List (S80),y_=(x3_1.set (x4_1:Int).toNat (⟨t201,t202,t203,(⟨t204,t205,t206⟩:S62)⟩:S80)):=⟨_,rfl⟩
        replace H:(laws_toStmtS.l0 k1 l0 y207 (wrap64 (x4_1+1)))=some r:=by first|(rw[hy207];with_reducible exact H)|(have H2_:=(Option.bind_some _ _).symm.trans H;rw[hy207];with_reducible exact H2_)|(have H2_:=(Option.bind_some _ _).symm.trans H;with_reducible exact H2_)|with_reducible exact H|(rw[hy207];exact H)|exact H
        have Ny207:=Za hy207
        clear hy207
        have H':=Za H
        clear H
        have p200:0≤(x4_1:Int):=Zv z6_12
        have q200:x4_1<(l0.length:Int):=Zv z6_12
        obtain⟨ad200,e200,hx200_0,hx200_1,hx200_2,hx200_3,hx200_4,hx200_5⟩:=at_T99 HR0.out x4_1 p200 q200
        cases e200
        replace hx200_0:=(HB.out.cell (Zi w _ hx200_0)).trans hx200_0
        replace hx200_1:=(HB.out.cell (Zi w _ hx200_1)).trans hx200_1
        replace hx200_2:=(HB.out.cell (Zi w _ hx200_2)).trans hx200_2
        replace hx200_3:=(HB.out.cell (Zi w _ hx200_3)).trans hx200_3
        replace hx200_4:=(HB.out.cell (Zi w _ hx200_4)).trans hx200_4
        replace hx200_5:=(HB.out.cell (Zi w _ hx200_5)).trans hx200_5
        replace p200:=eq_true p200
        replace q200:=eq_true q200
        go_wp2_with (first|((first|((with_reducible refine gate_callee (f:=89) rfl ?_);refine goesL_ (some 20) rfl rfl Try.func89 z6_15 rfl #[.agg #[.int .i64 ((rd_T99 l0 x4_1).f0),.int .i64 ((rd_T99 l0 x4_1).f1),.int .i64 ((rd_T99 l0 x4_1).f2),.int .i64 ((rd_T99 l0 x4_1).f3.f0),.int .i64 ((rd_T99 l0 x4_1).f3.f1),.int .i64 ((rd_T99 l0 x4_1).f3.f2)]] rfl z6_8 ?_;(with_reducible refine(laws_toStmt.calls ((rd_T99 l0 x4_1).f0) ((rd_T99 l0 x4_1).f1) ((rd_T99 l0 x4_1).f2) ((rd_T99 l0 x4_1).f3.f0) ((rd_T99 l0 x4_1).f3.f1) ((rd_T99 l0 x4_1).f3.f2) t201 t202 t203 t204 t205 t206 _ A8.out).mono ?_))|(go_at_call 89;(with_reducible refine(laws_toStmt.calls ((rd_T99 l0 x4_1).f0) ((rd_T99 l0 x4_1).f1) ((rd_T99 l0 x4_1).f2) ((rd_T99 l0 x4_1).f3.f0) ((rd_T99 l0 x4_1).f3.f1) ((rd_T99 l0 x4_1).f3.f2) t201 t202 t203 t204 t205 t206 _ A8.out).mono ?_)));rintro e w11 ⟨rfl,hb⟩;(first|refine⟨_,rfl,?_⟩|skip);replace HO_3:=Za (Kd.R_below (by(with_reducible repeat(first|apply Zn|apply Zo|apply Zm));exact HO_3.out) hb);replace HB:=Za (Zj z6_1 hb);(try clear hb);(try clear hb2);(try clear hk);(try clear hi);have p10:0≤(x4_1:Int):=Zv z6_12;have q10:(x4_1:Int)<((x3_1.length:Int):Int):=Zv z6_12;obtain⟨go10,co10,eo10,gb10,gl10,cl10,HG10⟩:=Kd.R_form HO_3.out (by omega);(first|cases eo10|(injection eo10 with ea_ en_ ec_;(first|subst ea_|(injection ea_ with ea_;subst ea_));subst ec_;clear en_));have GB10:=Za gb10;have GG10:=Za HG10;clear gb10 gl10 HG10;obtain⟨ce10,hcl10,hM10,hcc10,hfr10⟩:=Kd.R_elem HO_3.out z80 (x4_1:Int) p10 q10;obtain rfl:=k80_openM hM10;have hx10_0:w11.cell? ⟨go10,(x4_1:Int).toNat*6,none⟩=some (.int .i64 ((rd_T80 x3_1 x4_1).f0)):=hcc10 0 _ rfl;have hx10_1:w11.cell? ⟨go10,(x4_1:Int).toNat*6+1,none⟩=some (.int .i64 ((rd_T80 x3_1 x4_1).f1)):=hcc10 1 _ rfl;have hx10_2:w11.cell? ⟨go10,(x4_1:Int).toNat*6+2,none⟩=some (.int .i64 ((rd_T80 x3_1 x4_1).f2)):=hcc10 2 _ rfl;have hx10_3:w11.cell? ⟨go10,(x4_1:Int).toNat*6+3,none⟩=some (.int .i64 ((rd_T80 x3_1 x4_1).f3.f0)):=hcc10 3 _ rfl;have hx10_4:w11.cell? ⟨go10,(x4_1:Int).toNat*6+4,none⟩=some (.int .i64 ((rd_T80 x3_1 x4_1).f3.f1)):=hcc10 4 _ rfl;have hx10_5:w11.cell? ⟨go10,(x4_1:Int).toNat*6+5,none⟩=some (.int .i64 ((rd_T80 x3_1 x4_1).f3.f2)):=hcc10 5 _ rfl;have hf10_0:w11.frozen? ⟨go10,(x4_1:Int).toNat*6,none⟩=false:=hfr10 0;have hf10_1:w11.frozen? ⟨go10,(x4_1:Int).toNat*6+1,none⟩=false:=hfr10 1;have hf10_2:w11.frozen? ⟨go10,(x4_1:Int).toNat*6+2,none⟩=false:=hfr10 2;have hf10_3:w11.frozen? ⟨go10,(x4_1:Int).toNat*6+3,none⟩=false:=hfr10 3;have hf10_4:w11.frozen? ⟨go10,(x4_1:Int).toNat*6+4,none⟩=false:=hfr10 4;have hf10_5:w11.frozen? ⟨go10,(x4_1:Int).toNat*6+5,none⟩=false:=hfr10 5;clear hcl10 hcc10 hfr10;(try clear hM10);replace p10:=eq_true p10;replace q10:=eq_true q10;have HX12:=Za (show Kd.R k80 80 w11 w.heap.size (fun _=>True) (.slice (some ⟨go10,0,none⟩) x3_1.length co10) x3_1 from (by(with_reducible repeat(first|apply Zn|apply Zo|apply Zm));exact HO_3.out));obtain⟨ce12,hcl12,hM12,hcc12,hfr12⟩:=Kd.R_elem HX12.out z80 (x4_1:Int) (Zv z6_12) (by have h_:(x4_1:Int)<((x3_1.length:Int):Int):=Zv z6_12;first|exact h_|(have e_:=(Yb HO_3.out).1;omega)|simpa using h_);obtain rfl:=k80_openM hM12;have HP12:=Kd.R_seg HX12.out (x4_1:Int) (Zv z6_12) (by have h_:(x4_1:Int)<((x3_1.length:Int):Int):=Zv z6_12;first|exact h_|(have e_:=(Yb HO_3.out).1;omega)|simpa using h_) (seg:=[.int .i64 t201,.int .i64 t202,.int .i64 t203,.int .i64 t204,.int .i64 t205,.int .i64 t206]) (j:=0) hcl12 hcc12 (show 6≤6 from by decide) (x':=(⟨t201,t202,t203,(⟨t204,t205,t206⟩:S62)⟩:S80)) (k80_mkM _ _ _ (⟨t201,t202,t203,(⟨t204,t205,t206⟩:S62)⟩:S80)) (fun _ hk=>hk);have hx12_0:=hcc12 0 _ rfl;(try simp only[show(k80).sz=6 from rfl,Nat.mul_one,Nat.add_zero] at hx12_0);have hf12_0:=hfr12 0;(try simp only[show(k80).sz=6 from rfl,Nat.mul_one,Nat.add_zero] at hf12_0);have hx12_1:=hcc12 1 _ rfl;(try simp only[show(k80).sz=6 from rfl,Nat.mul_one,Nat.add_zero] at hx12_1);have hf12_1:=hfr12 1;(try simp only[show(k80).sz=6 from rfl,Nat.mul_one,Nat.add_zero] at hf12_1);have hx12_2:=hcc12 2 _ rfl;(try simp only[show(k80).sz=6 from rfl,Nat.mul_one,Nat.add_zero] at hx12_2);have hf12_2:=hfr12 2;(try simp only[show(k80).sz=6 from rfl,Nat.mul_one,Nat.add_zero] at hf12_2);have hx12_3:=hcc12 3 _ rfl;(try simp only[show(k80).sz=6 from rfl,Nat.mul_one,Nat.add_zero] at hx12_3);have hf12_3:=hfr12 3;(try simp only[show(k80).sz=6 from rfl,Nat.mul_one,Nat.add_zero] at hf12_3);have hx12_4:=hcc12 4 _ rfl;(try simp only[show(k80).sz=6 from rfl,Nat.mul_one,Nat.add_zero] at hx12_4);have hf12_4:=hfr12 4;(try simp only[show(k80).sz=6 from rfl,Nat.mul_one,Nat.add_zero] at hf12_4);have hx12_5:=hcc12 5 _ rfl;(try simp only[show(k80).sz=6 from rfl,Nat.mul_one,Nat.add_zero] at hx12_5);have hf12_5:=hfr12 5;(try simp only[show(k80).sz=6 from rfl,Nat.mul_one,Nat.add_zero] at hf12_5);clear hcl12 hcc12 hfr12;(try clear hM12))|((with_reducible refine Yk (t:=80) (p:=21) rfl ?_);refine Yj (t:=80) (p:=21) (v:= ?vo_w13) (w1:=((((((w11.setCell ⟨go10,(x4_1:Int).toNat*6,none⟩ (.int .i64 t201)).setCell ⟨go10,(x4_1:Int).toNat*6+1,none⟩ (.int .i64 t202)).setCell ⟨go10,(x4_1:Int).toNat*6+2,none⟩ (.int .i64 t203)).setCell ⟨go10,(x4_1:Int).toNat*6+3,none⟩ (.int .i64 t204)).setCell ⟨go10,(x4_1:Int).toNat*6+4,none⟩ (.int .i64 t205)).setCell ⟨go10,(x4_1:Int).toNat*6+5,none⟩ (.int .i64 t206))) ?hg ?ho ?hn ?hr ?_;(case ho=>rfl);(case hg=>rfl);(case hn=>rfl);(case hr=>exact z6_7);intro w13 hw;have hg:w11.grownBy w13 (some go10):=(by rw[hw];exact HP12.2);have hp_:Kd.R k80 80 w13 w.heap.size (fun _=>True) (.slice (some ⟨go10,0,none⟩) x3_1.length co10) y207:=(by rw[hw,Ny207.out];exact HP12.1);clear HP12;replace HO_3:=Za (hp_);replace HB:=Za ((by rw[hw];exact Zd (Zd (Zd (Zd (Zd (Zd (HB.out) GB10.out) GB10.out) GB10.out) GB10.out) GB10.out) GB10.out:Below w.heap.size w w13));clear hg hw hp_))
        go_roundg k1
        case measure=>have:=HK1.out;omega
        case rel=>exact⟨(y207),(wrap64 (x4_1+1)),(by first|rfl|(simp;done)|(simp[*];done)),H',⟨by have:=HK1.out;omega⟩,⟨by(with_reducible repeat(first|apply Zn|apply Zo|apply Zm));exact HO_3.out⟩,⟨by repeat(first|(with_reducible first|exact HB.out|apply Zh|apply Zf|apply Ze)|exact HB.out)⟩⟩
       ·rw[if_neg c9] at H
        exact absurd H (by simp)
      ·rw[if_neg c7] at H
       exact absurd H (by simp)
     ·rw[if_neg c6] at H
      have c6b0:decide (x4_1<(l0.length:Int))=false:=Yi c6
      clear c6
      obtain rfl:=Zk H
      go_wp2
      go_ret
      exact⟨_,by first|rfl|(simp[errW_none,errW_some]<;>rfl)|(simp[*,errW_none,errW_some]<;>rfl)|(simp[*,errW_none,errW_some,i64_w];done),by(with_reducible repeat(first|apply Zn|apply Zo|apply Zm));exact HO_3.out,by repeat(first|(with_reducible first|exact HB.out|apply Zh|apply Zf|apply Ze)|exact HB.out)⟩
  ·rw[if_neg c3] at H
   exact absurd H (by simp)
 ·rw[if_neg c2] at H
  exact absurd H (by simp)
end Go.Proofs.Ytlolppaddphpoaa.G
