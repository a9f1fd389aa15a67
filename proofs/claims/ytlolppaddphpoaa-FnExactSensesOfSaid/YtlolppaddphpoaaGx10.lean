/- Functions of the program as plain Lean functions, and that each call comes to its function's answer; written by a program of the session. No condition. -/
import Derived.Test.YtlolppaddphpoaaGx0
import Derived.Test.YtlolppaddphpoaaGx7
import Derived.Test.YtlolppaddphpoaaGx8
import Derived.Test.YtlolppaddphpoaaGx9
namespace Go.Proofs.Ytlolppaddphpoaa.G
open Go.RowKit Go.Proofs.YtlolppaddphpoaaW.PrintWords Go.Proofs.YtlolppaddphpoaaW.PrintLast Go.Proofs.YtlolppaddphpoaaW.PrintMore
attribute [local go_sem] max2_int min2_int max_two min_two max_three min_three max_four min_four   -- for this text's walks alone
set_option linter.unusedVariables false
set_option linter.unusedSimpArgs false
theorem z10_0 {P:Prop} (h:P:=by first|(go_simp;done)|(go_simp;rfl)):P:=h
theorem z10_1 {P:Prop} (h:P:=by repeat(first|exact HB.out|apply Ze|apply Zd)):P:=h
theorem z10_2 {P:Prop} (h:P:=by kernel_rfl):P:=h
theorem z10_3 {P:Prop} (h:P:=by first|(with_reducible assumption)|assumption):P:=h
def effP {ζ:Type} (B gs go:Nat) (fv:Value) (J:ζ→Sep.Asn) (st:List Int×List Int×Int×ζ):Sep.Asn:=fun F w=>
 ∃(v1 v2:Value) (FJ:Nat→Prop),(w.heap[go]? =some (.cells #[v1,v2,.int .i64 0,.int .i64 st.2.2.1] 28 (0,0))∧w.heap[gs]? =some (.cells #[fv] 53 (0,0)))∧(Sep.rowI 3 w v1 st.1∧Sep.rowI 3 w v2 st.2.1)∧J st.2.2.2 FJ w∧
  ((∀k,v1.ownBlock=some k→v2.ownBlock≠some k)∧¬FJ go∧¬FJ gs∧(∀k,v1.ownBlock=some k→¬FJ k)∧(∀k,v2.ownBlock=some k→¬FJ k)∧B≤go∧B≤gs∧(∀k,v1.ownBlock=some k→B≤k)∧(∀k,v2.ownBlock=some k→B≤k))∧
  ∀k,F k↔k=go∨k=gs∨v1.ownBlock=some k∨v2.ownBlock=some k∨FJ k
theorem effP_loc {ζ:Type} (B B2:Nat) (hBB:B≤B2) (gs go:Nat) (fv:Value) (J:ζ→Sep.Asn) (hJ:∀z,Sep.Loc B (J z)) (st:List Int×List Int×Int×ζ):Sep.Loc B (effP B2 gs go fv J st) where
 lt:=by
  rintro F w ⟨v1,v2,FJ,⟨h1,h2⟩,⟨h3,h4⟩,h5,h6,hF⟩ k hk
  rcases (hF k).1 hk with rfl|rfl|h|h|h
  ·exact⟨Nat.le_trans hBB h6.2.2.2.2.2.1,blk_lt h1⟩
  ·exact⟨Nat.le_trans hBB h6.2.2.2.2.2.2.1,blk_lt h2⟩
  ·exact⟨Nat.le_trans hBB (h6.2.2.2.2.2.2.2.1 k h),h3.lt k h⟩
  ·exact⟨Nat.le_trans hBB (h6.2.2.2.2.2.2.2.2 k h),h4.lt k h⟩
  ·exact(hJ _).lt h5 k h
 keep:=by
  rintro F w w' ⟨v1,v2,FJ,⟨h1,h2⟩,⟨h3,h4⟩,h5,h6,hF⟩ hB hs hk
  refine⟨v1,v2,FJ,⟨?_,?_⟩,⟨h3.keep (fun k h=>hk k (.inr ((hF k).2 (by simp[h])))),h4.keep (fun k h=>hk k (.inr ((hF k).2 (by simp[h]))))⟩,(hJ _).keep h5 hB hs (fun k h=>hk k (h.imp id (fun h=>(hF k).2 (by simp[h])))),h6,hF⟩
  ·rw[hk go (.inr ((hF go).2 (by simp)))];exact h1
  ·rw[hk gs (.inr ((hF gs).2 (by simp)))];exact h2
theorem effP_next {ζ:Type} {B B2 gs go:Nat} {fv:Value} {J:ζ→Sep.Asn} (hJ:∀z,Sep.Loc B (J z)) (hBB:B≤B2) {w w4 wf:World} {F FJ F2:Nat→Prop} {v1 v2 v1' v2':Value} {vars vars' sent sent':List Int} {used used':Int} {z z':ζ}
  (hb1:w.heap[go]? =some (.cells #[v1,v2,.int .i64 0,.int .i64 used] 28 (0,0))) (hb2:w.heap[gs]? =some (.cells #[fv] 53 (0,0))) (hr1:Sep.rowI 3 w v1 vars) (hr2:Sep.rowI 3 w v2 sent) (hj:J z FJ w)
  (D:(∀k,v1.ownBlock=some k→v2.ownBlock≠some k)∧¬FJ go∧¬FJ gs∧(∀k,v1.ownBlock=some k→¬FJ k)∧(∀k,v2.ownBlock=some k→¬FJ k)∧B2≤go∧B2≤gs∧(∀k,v1.ownBlock=some k→B2≤k)∧(∀k,v2.ownBlock=some k→B2≤k))
  (hF:∀k,F k↔k=go∨k=gs∨v1.ownBlock=some k∨v2.ownBlock=some k∨FJ k)
  (hio:wf.os=w.os∧wf.tape=w.tape∧wf.output=w.output) (hs4:w.heap.size≤w4.heap.size) (HW:∀k,k<w.heap.size→¬FJ k→w4.heap[k]? =w.heap[k]?) (hj2:J z' F2 w4) (hsub:∀k,F2 k→FJ k∨w.heap.size≤k)
  (hsf:w4.heap.size≤wf.heap.size) (HF:∀k,k<w4.heap.size→k≠go→v1.ownBlock≠some k→v2.ownBlock≠some k→wf.heap[k]? =w4.heap[k]?)
  (bo:wf.heap[go]? =some (.cells #[v1',v2',.int .i64 0,.int .i64 used'] 28 (0,0))) (r1:Sep.rowI 3 wf v1' vars') (r2:Sep.rowI 3 wf v2' sent')
  (o1:∀k,v1'.ownBlock=some k→v1.ownBlock=some k∨w4.heap.size≤k) (o2:∀k,v2'.ownBlock=some k→v2.ownBlock=some k∨w4.heap.size≤k) (o3:∀k,v1'.ownBlock=some k→v2'.ownBlock≠some k):
  ∃F',effP B2 gs go fv J (vars',sent',used',z') F' wf∧Sep.After F w F' wf:=by
 have out:∀k,k<w.heap.size→¬FJ k→¬F2 k:=fun k hk hn h2=>(hsub k h2).elim hn (fun h=>by omega)
 have l1:=blk_lt hb1
 have l2:=blk_lt hb2
 have lF:=fun k h=>((hJ z').lt hj2 k h).2
 have lB:=D.2.2.2.2.2.1
 have ng:gs≠go:=blk_ne hb2 hb1 (by decide)
 have n1:v1.ownBlock≠some gs:=fun h=>hr1.ne hb2 (by decide) gs h rfl
 have n2:v2.ownBlock≠some gs:=fun h=>hr2.ne hb2 (by decide) gs h rfl
 refine⟨fun k=>k=go∨k=gs∨v1'.ownBlock=some k∨v2'.ownBlock=some k∨F2 k,⟨v1',v2',F2,⟨bo,?_⟩,⟨r1,r2⟩,?_,⟨o3,out go l1 D.2.1,out gs l2 D.2.2.1,?_,?_,lB,D.2.2.2.2.2.2.1,fun k h=>(o1 k h).elim (D.2.2.2.2.2.2.2.1 k) (fun h=>by omega),fun k h=>(o2 k h).elim (D.2.2.2.2.2.2.2.2 k) (fun h=>by omega)⟩,fun k=>Iff.rfl⟩,⟨⟨Nat.le_trans hs4 hsf,?_⟩,?_,hio⟩⟩
 ·rw[HF gs (by omega) ng n1 n2,HW gs l2 D.2.2.1];exact hb2
 ·refine(hJ z').keep hj2 (by omega) hsf (fun k hk=> ?_)
  rcases hk with hk|hk
  ·exact HF k (by omega) (by omega) (fun h=>by have:=D.2.2.2.2.2.2.2.1 k h;omega) (fun h=>by have:=D.2.2.2.2.2.2.2.2 k h;omega)
  ·refine HF k (lF k hk) ?_ ?_ ?_
   ·rintro rfl;exact out _ l1 D.2.1 hk
   ·intro h;exact out k (hr1.lt k h) (D.2.2.2.1 k h) hk
   ·intro h;exact out k (hr2.lt k h) (D.2.2.2.2.1 k h) hk
 ·intro k hk h2
  rcases o1 k hk with h|h
  ·exact out k (hr1.lt k h) (D.2.2.2.1 k h) h2
  ·have:=lF k h2;omega
 ·intro k hk h2
  rcases o2 k hk with h|h
  ·exact out k (hr2.lt k h) (D.2.2.2.2.1 k h) h2
  ·have:=lF k h2;omega
 ·intro k hk hn
  rw[hF] at hn
  simp only[not_or] at hn
  rw[HF k (by omega) hn.1 hn.2.2.1 hn.2.2.2.1,HW k hk hn.2.2.2.2]
 ·intro k hk
  rw[hF]
  rcases hk with h|h|h|h|h
  ·exact .inl (.inl h)
  ·exact .inl (.inr (.inl h))
  ·exact(o1 k h).elim (fun h=> .inl (.inr (.inr (.inl h)))) (fun h=> .inr (by omega))
  ·exact(o2 k h).elim (fun h=> .inl (.inr (.inr (.inr (.inl h))))) (fun h=> .inr (by omega))
  ·exact(hsub k h).elim (fun h=> .inl (.inr (.inr (.inr (.inr h))))) .inr
def effStep {ζ:Type} (sense:ζ→Int→Int→Option (ζ×Int)) (ke:Nat) (st:List Int×List Int×Int×ζ) (x:S80):Option ((List Int×List Int×Int×ζ)×Bool):=
 if x.f0=2 then (sense st.2.2.2 st.2.2.1 x.f2).bind fun y=>if 0≤x.f1∧x.f1<(st.1.length:Int) then some ((st.1.set x.f1.toNat y.2,st.2.1,wrap64 (st.2.2.1+1),y.1),true) else none
 else if x.f0=1 then (impl_EvalExpr.f ke st.1 x.f3.f0 x.f3.f1 x.f3.f2).bind fun y=>if 0≤x.f1∧x.f1<(st.1.length:Int) then some ((st.1.set x.f1.toNat y,st.2.1,st.2.2.1,st.2.2.2),true) else none
 else if x.f0=3 then (impl_EvalExpr.f ke st.1 x.f3.f0 x.f3.f1 x.f3.f2).bind fun y=>if st.2.1.length<17592186044415 then some ((st.1,st.2.1++[y],st.2.2.1,st.2.2.2),true) else none
 else if x.f0=4 then (impl_EvalExpr.f ke st.1 x.f3.f0 x.f3.f1 x.f3.f2).bind fun y=>some (st,y != 0)
 else some (st,true)
set_option maxHeartbeats 8000000 in
set_option maxRecDepth 100000 in
theorem effStep_sense {ζ:Type} (sense:ζ→Int→Int→Option (ζ×Int)) (ke:Nat) (J:ζ→Sep.Asn) (B B2:Nat) (hBB:B≤B2) (gs go gf:Nat) (cb:Array Value) (eg:∀args w,(callFunc gf args).run Try.prog w= .ok (.enter gf args) w)
  (hJ:∀z,Sep.Loc B (J z))
  (hsense:∀z n m z' y F w,B≤w.heap.size→sense z n m=some (z',y)→J z F w→Calls Try.prog gf (#[.int .i64 n,.int .i64 m]++cb) w fun e w'=>e= .returned (.int .i64 y)∧∃F',J z' F' w'∧Sep.After F w F' w')
  (vars sent:List Int) (used:Int) (z:ζ) (x1 x2 x3 x4 x5:Int) (z':ζ) (y:Int) (hs:sense z used x2=some (z',y)) (h0:0≤x1) (h1:x1<(vars.length:Int))
  (F:Nat→Prop) (w:World) (hI:effP B2 gs go (.func (.func gf) #[] cb) J (vars,sent,used,z) F w):
  Calls Try.prog 52 #[.agg #[.int .i64 2,.int .i64 x1,.int .i64 x2,.int .i64 x3,.int .i64 x4,.int .i64 x5],.pointer (some ⟨gs,0,none⟩),.pointer (some ⟨go,0,none⟩)] w fun e w'=>
   e= .returned (.bool true)∧∃F',effP B2 gs go (.func (.func gf) #[] cb) J (vars.set x1.toNat y,sent,wrap64 (used+1),z') F' w'∧Sep.After F w F' w':=by
 obtain⟨v1,v2,FJ,⟨hb1,hb2⟩,⟨hr1,hr2⟩,hj,hD,hF⟩:=hI
 obtain⟨A,c,rfl,hc,hC⟩:=hr1.open_
 obtain⟨g1,rfl,_,hcell,hfr,hput⟩:=hr1.at_ x1 h0 h1
 have hne1:g1≠go:=hr1.ne hb1 (by decide) g1 rfl
 have hne2:go≠g1:=fun h=>hne1 h.symm
 have hne3:g1≠gs:=hr1.ne hb2 (by decide) g1 rfl
 have hne4:gs≠g1:=fun h=>hne3 h.symm
 have hlt1:=hr1.lt g1 rfl
 have p1:=eq_true h0
 have q1:=eq_true h1
 have HJL:=Za hJ
 have HSE:=Za hsense
 have BO:=Za hb1
 have BS:=Za hb2
 have R1:=Za hr1
 have R2:=Za hr2
 have HJ:=Za hj
 have D:=Za hD
 have HBW:Aside0 (B≤w.heap.size):=⟨by have:=hD.2.2.2.2.2.1;have:=blk_lt hb1;omega⟩
 have HF:=Za hF
 have HS:=Za hs
 have C1:=Za hcell
 have FR:=Za hfr
 have PUT:=Za hput
 clear hJ hsense hb1 hb2 hr1 hr2 hj hD hF hs hcell hfr hput hC h0 h1
 go_enter Try.func52,Try.ntmps52
 go_wp2_with ((with_reducible refine Zp (N:=3) rfl ?_);refine Zr ?hg (N:=3) ?hd (cs:= #[.int .i64 2,.int .i64 x1,.int .i64 x2,.int .i64 x3,.int .i64 x4,.int .i64 x5]) (t:=80) ?hr ?_;(case hd=>rfl);(case hg=>rfl);(case hr=>exact z10_0);intro gb hg w2 hbox hb;have HB:=Za hb;have BK:=Za hbox;have GE:Aside0 (w.heap.size≤gb):=⟨Nat.le_of_eq hg.symm⟩;clear hb hbox hg;obtain⟨⟨_,_,_,_,_,_⟩,⟨_,_,_,_,_,_⟩⟩:=Sep.blk6 BK.out)
 have hne5:gb≠g1:=by have:=GE.out;omega
 have hne6:g1≠gb:=fun h=>hne5 h.symm
 clear hlt1
 have hO0:w2.cell? ⟨go,0,none⟩=some (.slice (some ⟨g1,0,none⟩) vars.length c):=(Zb (Zk BO.out HB.out) 0).trans rfl
 have hO3:w2.cell? ⟨go,3,none⟩=some (.int .i64 used):=(Zb (Zk BO.out HB.out) 3).trans rfl
 have hS0:w2.cell? ⟨gs,0,none⟩=some (.func (.func gf) #[] cb):=(Zb (Zk BS.out HB.out) 0).trans rfl
 go_region_held3 (fun w'=>w'.cell? ⟨go,0,none⟩=some (.slice (some ⟨g1,0,none⟩) vars.length c)∧w'.cell? ⟨gb,1,none⟩=some (.int .i64 x1)∧w'.cell? ⟨gs,0,none⟩=some (.func (.func gf) #[] cb)∧w'.cell? ⟨go,3,none⟩=some (.int .i64 used)∧w'.cell? ⟨gb,2,none⟩=some (.int .i64 x2)) (go_keep)
  ((refine(HSE.out z used x2 z' y FJ _ (by exact Nat.le_trans HBW.out (Zw z10_1)) HS.out ((HJL.out z).below HBW.out HJ.out z10_1)).mono ?_;rintro e w4 ⟨rfl,F2,hJ2,hA2⟩;have HJ2:=Za hJ2;have HA2:=Za hA2;have HW:Aside0 (∀k,k<w.heap.size→¬FJ k→w4.heap[k]? =w.heap[k]?):=⟨fun k hk hn=>(hA2.kept.2 k (Nat.lt_of_lt_of_le hk HB.out.size) hn).trans (HB.out.block k hk)⟩;have NG:Aside0 (¬FJ gb):=⟨fun h=>absurd ((HJL.out z).lt HJ.out gb h).2 (Nat.not_lt.mpr GE.out)⟩;have BK4:=Za (hA2.blk BK.out NG.out);clear hJ2 hA2;have BO4:=Za ((HW.out go (blk_lt BO.out) D.out.2.1).trans BO.out);have BS4:=Za ((HW.out gs (blk_lt BS.out) D.out.2.2.1).trans BS.out);have R14:=Za (R1.out.keep (fun k hk=>HW.out k (R1.out.lt k hk) (D.out.2.2.2.1 k hk)));obtain⟨hg1c,hg1f,hput⟩:=R14.out.in_ x1 (of_eq_true p1) (of_eq_true q1);have PUT4:=Za hput;clear hput;have hO0':w4.cell? ⟨go,0,none⟩=some (.slice (some ⟨g1,0,none⟩) vars.length c):=(Zb BO4.out 0).trans rfl;have hO3':w4.cell? ⟨go,3,none⟩=some (.int .i64 used):=(Zb BO4.out 3).trans rfl;have hfO3:=Zc BO4.out 3;have hS0':w4.cell? ⟨gs,0,none⟩=some (.func (.func gf) #[] cb):=(Zb BS4.out 0).trans rfl;obtain⟨⟨_,_,_,_,_,_⟩,⟨_,_,_,_,_,_⟩⟩:=Sep.blk6 BK4.out))
 go_wp2
 go_ret
 refine⟨rfl,effP_next HJL.out hBB BO.out BS.out R1.out R2.out HJ.out D.out HF.out ⟨HA2.out.io.1.trans HB.out.os,HA2.out.io.2.1.trans HB.out.tape,HA2.out.io.2.2.trans HB.out.output⟩ (Nat.le_trans HB.out.size HA2.out.size) HW.out HJ2.out (fun k hk=>(HA2.out.sub k hk).imp id (fun h=>Nat.le_trans HB.out.size h)) ?_ ?_ ?_ ?_ ?_ (fun k h=> .inl h) (fun k h=> .inl h) D.out.1⟩
 ·simp[World.setCell]
 ·intro k hk h1 h2 h3
  have h4:k≠g1:=fun h=>h2 (by rw[h];rfl)
  rw[Below.heap_setCell _ _ _ k h1,Below.heap_setCell _ _ _ k h4]
 ·exact blk_put (blk_far BO4.out hne2 _) 3 _ rfl
 ·exact(PUT4.out y).keep (fun k hk=>Below.heap_setCell _ _ _ k (fun h=>hne2 (by cases hk;exact h.symm)))
 ·refine(R2.out.keep (w1:=w4) (fun k hk=>HW.out k (R2.out.lt k hk) (D.out.2.2.2.2.1 k hk))).keep (fun k hk=> ?_)
  have h3:k≠g1:=fun h=>D.out.1 g1 rfl (by rw[hk,h])
  have h4:k≠go:=R2.out.ne BO.out (by decide) k hk
  rw[Below.heap_setCell _ _ _ k h4,Below.heap_setCell _ _ _ k h3]
set_option maxHeartbeats 8000000 in
set_option maxRecDepth 100000 in
theorem effStep_set {ζ:Type} (sense:ζ→Int→Int→Option (ζ×Int)) (ke:Nat) (J:ζ→Sep.Asn) (B B2:Nat) (hBB:B≤B2) (gs go gf:Nat) (cb:Array Value)
  (hJ:∀z,Sep.Loc B (J z))
  (vars sent:List Int) (used:Int) (z:ζ) (x0 x1 x2 x3 x4 x5:Int) (y:Int) (hs:impl_EvalExpr.f ke vars x3 x4 x5=some y) (h0:0≤x1) (h1:x1<(vars.length:Int))
  (F:Nat→Prop) (w:World) (hI:effP B2 gs go (.func (.func gf) #[] cb) J (vars,sent,used,z) F w):
  Calls Try.prog 52 #[.agg #[.int .i64 1,.int .i64 x1,.int .i64 x2,.int .i64 x3,.int .i64 x4,.int .i64 x5],.pointer (some ⟨gs,0,none⟩),.pointer (some ⟨go,0,none⟩)] w fun e w'=>
   e= .returned (.bool true)∧∃F',effP B2 gs go (.func (.func gf) #[] cb) J (vars.set x1.toNat y,sent,used,z) F' w'∧Sep.After F w F' w':=by
 obtain⟨v1,v2,FJ,⟨hb1,hb2⟩,⟨hr1,hr2⟩,hj,hD,hF⟩:=hI
 obtain⟨A,c,rfl,hc,hC⟩:=hr1.open_
 obtain⟨g1,rfl,_,hcell,hfr,hput⟩:=hr1.at_ x1 h0 h1
 have hne1:g1≠go:=hr1.ne hb1 (by decide) g1 rfl
 have hne2:go≠g1:=fun h=>hne1 h.symm
 have hlt1:=hr1.lt g1 rfl
 have p1:=eq_true h0
 have q1:=eq_true h1
 have HJL:=Za hJ
 have BO:=Za hb1
 have BS:=Za hb2
 have R1:=Za hr1
 have R2:=Za hr2
 have HJ:=Za hj
 have D:=Za hD
 have HBW:Aside0 (B≤w.heap.size):=⟨by have:=hD.2.2.2.2.2.1;have:=blk_lt hb1;omega⟩
 have HF:=Za hF
 have HS:=Za hs
 have HC:=Za hC
 have Hc:=Za hc
 clear hJ hb1 hb2 hr1 hr2 hj hD hF hs hcell hfr hput hC hc h0 h1
 go_enter Try.func52,Try.ntmps52
 go_wp2_with ((with_reducible refine Zp (N:=3) rfl ?_);refine Zr ?hg (N:=3) ?hd (cs:= #[.int .i64 1,.int .i64 x1,.int .i64 x2,.int .i64 x3,.int .i64 x4,.int .i64 x5]) (t:=80) ?hr ?_;(case hd=>rfl);(case hg=>rfl);(case hr=>exact z10_0);intro gb hg w2 hbox hb;have HB:=Za hb;have BK:=Za hbox;have GE:Aside0 (w.heap.size≤gb):=⟨Nat.le_of_eq hg.symm⟩;clear hb hbox hg;obtain⟨⟨_,_,_,_,_,_⟩,⟨_,_,_,_,_,_⟩⟩:=Sep.blk6 BK.out)
 have hne5:gb≠g1:=by have:=GE.out;omega
 have hne6:g1≠gb:=fun h=>hne5 h.symm
 clear hlt1
 have hO0:w2.cell? ⟨go,0,none⟩=some (.slice (some ⟨g1,0,none⟩) vars.length c):=(Zb (Zk BO.out HB.out) 0).trans rfl
 go_region_held3 (fun w'=>w'.cell? ⟨go,0,none⟩=some (.slice (some ⟨g1,0,none⟩) vars.length c)∧w'.cell? ⟨gb,1,none⟩=some (.int .i64 x1)∧w'.cell? ⟨gb,3,none⟩=some (.int .i64 x3)∧w'.cell? ⟨gb,4,none⟩=some (.int .i64 x4)∧w'.cell? ⟨gb,5,none⟩=some (.int .i64 x5)) (go_keep)
  ((go_at_call 53;refine(impl_EvalExpr.calls ke _ _ vars x3 x4 x5 y _ ?_ Hc.out HS.out).mono ?_;(exact Yb HC.out z10_1);rintro e w4 ⟨rfl,hb4⟩;have HB4:=Za (Zi (z10_1:Below w.heap.size w _) hb4);have BK4:=Za ((hb4.block gb (blk_lt BK.out)).trans BK.out);clear hb4;have R14:=Za (R1.out.below HB4.out);obtain⟨hg1c,hg1f,hput⟩:=R14.out.in_ x1 (of_eq_true p1) (of_eq_true q1);have PUT4:=Za hput;clear hput;have hO0':w4.cell? ⟨go,0,none⟩=some (.slice (some ⟨g1,0,none⟩) vars.length c):=(Zb (Zk BO.out HB4.out) 0).trans rfl;obtain⟨⟨_,_,_,_,_,_⟩,⟨_,_,_,_,_,_⟩⟩:=Sep.blk6 BK4.out))
 go_wp2
 go_ret
 refine⟨rfl,effP_next (w4:=w4) (F2:=FJ) HJL.out hBB BO.out BS.out R1.out R2.out HJ.out D.out HF.out ⟨HB4.out.os,HB4.out.tape,HB4.out.output⟩ HB4.out.size (fun k hk _=>HB4.out.block k hk) ((HJL.out z).below HBW.out HJ.out HB4.out) (fun k hk=> .inl hk) ?_ ?_ ?_ ?_ ?_ (fun k h=> .inl h) (fun k h=> .inl h) D.out.1⟩
 ·simp[World.setCell]
 ·intro k hk h1 h2 h3
  have h4:k≠g1:=fun h=>h2 (by rw[h];rfl)
  rw[Below.heap_setCell _ _ _ k h4]
 ·exact blk_far (Zk BO.out HB4.out) hne2 _
 ·exact PUT4.out y
 ·refine(R2.out.below HB4.out).keep (fun k hk=> ?_)
  have h3:k≠g1:=fun h=>D.out.1 g1 rfl (by rw[hk,h])
  rw[Below.heap_setCell _ _ _ k h3]
set_option maxHeartbeats 8000000 in
set_option maxRecDepth 100000 in
theorem effStep_if {ζ:Type} (sense:ζ→Int→Int→Option (ζ×Int)) (ke:Nat) (J:ζ→Sep.Asn) (B B2:Nat) (hBB:B≤B2) (gs go gf:Nat) (cb:Array Value)
  (hJ:∀z,Sep.Loc B (J z))
  (vars sent:List Int) (used:Int) (z:ζ) (x0 x1 x2 x3 x4 x5:Int) (y:Int) (hs:impl_EvalExpr.f ke vars x3 x4 x5=some y)
  (F:Nat→Prop) (w:World) (hI:effP B2 gs go (.func (.func gf) #[] cb) J (vars,sent,used,z) F w):
  Calls Try.prog 52 #[.agg #[.int .i64 4,.int .i64 x1,.int .i64 x2,.int .i64 x3,.int .i64 x4,.int .i64 x5],.pointer (some ⟨gs,0,none⟩),.pointer (some ⟨go,0,none⟩)] w fun e w'=>
   e= .returned (.bool (y != 0))∧∃F',effP B2 gs go (.func (.func gf) #[] cb) J (vars,sent,used,z) F' w'∧Sep.After F w F' w':=by
 obtain⟨v1,v2,FJ,⟨hb1,hb2⟩,⟨hr1,hr2⟩,hj,hD,hF⟩:=hI
 obtain⟨A,c,rfl,hc,hC⟩:=hr1.open_
 have HJL:=Za hJ
 have BO:=Za hb1
 have BS:=Za hb2
 have R1:=Za hr1
 have R2:=Za hr2
 have HJ:=Za hj
 have D:=Za hD
 have HBW:Aside0 (B≤w.heap.size):=⟨by have:=hD.2.2.2.2.2.1;have:=blk_lt hb1;omega⟩
 have HF:=Za hF
 have HS:=Za hs
 have HC:=Za hC
 have Hc:=Za hc
 clear hJ hb1 hb2 hr1 hr2 hj hD hF hs hC hc
 go_enter Try.func52,Try.ntmps52
 go_wp2_with (first|((with_reducible refine Zp (N:=3) rfl ?_);refine Zr ?hg (N:=3) ?hd (cs:= #[.int .i64 4,.int .i64 x1,.int .i64 x2,.int .i64 x3,.int .i64 x4,.int .i64 x5]) (t:=80) ?hr ?_;(case hd=>rfl);(case hg=>rfl);(case hr=>exact z10_0);intro gb hg w2 hbox hb;have HB:=Za hb;have BK:=Za hbox;have GE:Aside0 (w.heap.size≤gb):=⟨Nat.le_of_eq hg.symm⟩;clear hb hbox hg;obtain⟨⟨_,_,_,_,_,_⟩,⟨_,_,_,_,_,_⟩⟩:=Sep.blk6 BK.out;have hO0:w2.cell? ⟨go,0,none⟩=some (.slice A vars.length c):=(Zb (Zk BO.out HB.out) 0).trans rfl)|(go_at_call 53;(with_reducible refine(impl_EvalExpr.calls ke _ _ vars x3 x4 x5 y _ ?sd1 Hc.out HS.out).mono ?_);(case sd1=>exact Yb HC.out HB.out);rintro e w4 ⟨rfl,hb4⟩;have HB4:=Za (Zi (W:=w2) HB.out hb4);clear hb4))
 go_ret
 exact⟨rfl,F,(effP_loc B B2 hBB gs go _ J HJL.out _).below HBW.out ⟨_,v2,FJ,⟨BO.out,BS.out⟩,⟨R1.out,R2.out⟩,HJ.out,D.out,HF.out⟩ HB4.out,Sep.After.of_below HB4.out F⟩
set_option maxHeartbeats 8000000 in
set_option maxRecDepth 100000 in
theorem effStep_other {ζ:Type} (sense:ζ→Int→Int→Option (ζ×Int)) (ke:Nat) (J:ζ→Sep.Asn) (B B2:Nat) (hBB:B≤B2) (gs go gf:Nat) (cb:Array Value)
  (hJ:∀z,Sep.Loc B (J z))
  (vars sent:List Int) (used:Int) (z:ζ) (x0 x1 x2 x3 x4 x5:Int) (y:Int) (hk1:x0≠1) (hk2:x0≠2) (hk3:x0≠3) (hk4:x0≠4)
  (F:Nat→Prop) (w:World) (hI:effP B2 gs go (.func (.func gf) #[] cb) J (vars,sent,used,z) F w):
  Calls Try.prog 52 #[.agg #[.int .i64 x0,.int .i64 x1,.int .i64 x2,.int .i64 x3,.int .i64 x4,.int .i64 x5],.pointer (some ⟨gs,0,none⟩),.pointer (some ⟨go,0,none⟩)] w fun e w'=>
   e= .returned (.bool true)∧∃F',effP B2 gs go (.func (.func gf) #[] cb) J (vars,sent,used,z) F' w'∧Sep.After F w F' w':=by
 obtain⟨v1,v2,FJ,⟨hb1,hb2⟩,⟨hr1,hr2⟩,hj,hD,hF⟩:=hI
 obtain⟨A,c,rfl,hc,hC⟩:=hr1.open_
 have HJL:=Za hJ
 have BO:=Za hb1
 have BS:=Za hb2
 have R1:=Za hr1
 have R2:=Za hr2
 have HJ:=Za hj
 have D:=Za hD
 have HBW:Aside0 (B≤w.heap.size):=⟨by have:=hD.2.2.2.2.2.1;have:=blk_lt hb1;omega⟩
 have HF:=Za hF
 have b1:(x0==1)=false:=beq_eq_false_iff_ne.mpr hk1
 have b2:(x0==2)=false:=beq_eq_false_iff_ne.mpr hk2
 have b3:(x0==3)=false:=beq_eq_false_iff_ne.mpr hk3
 have b4:(x0==4)=false:=beq_eq_false_iff_ne.mpr hk4
 clear hJ hb1 hb2 hr1 hr2 hj hD hF hC hc hk1 hk2 hk3 hk4
 go_enter Try.func52,Try.ntmps52
 go_wp2_with ((with_reducible refine Zp (N:=3) rfl ?_);refine Zr ?hg (N:=3) ?hd (cs:= #[.int .i64 x0,.int .i64 x1,.int .i64 x2,.int .i64 x3,.int .i64 x4,.int .i64 x5]) (t:=80) ?hr ?_;(case hd=>rfl);(case hg=>rfl);(case hr=>exact z10_0);intro gb hg w2 hbox hb;have HB:=Za hb;have BK:=Za hbox;have GE:Aside0 (w.heap.size≤gb):=⟨Nat.le_of_eq hg.symm⟩;clear hb hbox hg;obtain⟨⟨_,_,_,_,_,_⟩,⟨_,_,_,_,_,_⟩⟩:=Sep.blk6 BK.out)
 go_ret
 exact⟨rfl,F,(effP_loc B B2 hBB gs go _ J HJL.out _).below HBW.out ⟨_,v2,FJ,⟨BO.out,BS.out⟩,⟨R1.out,R2.out⟩,HJ.out,D.out,HF.out⟩ HB.out,Sep.After.of_below HB.out F⟩
set_option maxHeartbeats 8000000 in
set_option maxRecDepth 100000 in
theorem effStep_send {ζ:Type} (sense:ζ→Int→Int→Option (ζ×Int)) (ke:Nat) (J:ζ→Sep.Asn) (B B2:Nat) (hBB:B≤B2) (gs go gf:Nat) (cb:Array Value)
  (hJ:∀z,Sep.Loc B (J z))
  (vars sent:List Int) (used:Int) (z:ζ) (x0 x1 x2 x3 x4 x5:Int) (y:Int) (hs:impl_EvalExpr.f ke vars x3 x4 x5=some y) (hl:sent.length<17592186044415)
  (F:Nat→Prop) (w:World) (hI:effP B2 gs go (.func (.func gf) #[] cb) J (vars,sent,used,z) F w):
  Calls Try.prog 52 #[.agg #[.int .i64 3,.int .i64 x1,.int .i64 x2,.int .i64 x3,.int .i64 x4,.int .i64 x5],.pointer (some ⟨gs,0,none⟩),.pointer (some ⟨go,0,none⟩)] w fun e w'=>
   e= .returned (.bool true)∧∃F',effP B2 gs go (.func (.func gf) #[] cb) J (vars,sent++[y],used,z) F' w'∧Sep.After F w F' w':=by
 obtain⟨v1,v2,FJ,⟨hb1,hb2⟩,⟨hr1,hr2⟩,hj,hD,hF⟩:=hI
 obtain⟨A,c,rfl,hc,hC⟩:=hr1.open_
 obtain⟨Bq,d,rfl,hd,hC2⟩:=hr2.open_
 have HJL:=Za hJ
 have BO:=Za hb1
 have BS:=Za hb2
 have R1:=Za hr1
 have R2:=Za hr2
 have HJ:=Za hj
 have D:=Za hD
 have HBW:Aside0 (B≤w.heap.size):=⟨by have:=hD.2.2.2.2.2.1;have:=blk_lt hb1;omega⟩
 have HF:=Za hF
 have HS:=Za hs
 have HC:=Za hC
 have Hc:=Za hc
 have HL:=Za hl
 clear hJ hb1 hb2 hr1 hr2 hj hD hF hs hC hc hC2 hd hl
 go_enter Try.func52,Try.ntmps52
 go_wp2_with ((with_reducible refine Zp (N:=3) rfl ?_);refine Zr ?hg (N:=3) ?hd (cs:= #[.int .i64 3,.int .i64 x1,.int .i64 x2,.int .i64 x3,.int .i64 x4,.int .i64 x5]) (t:=80) ?hr ?_;(case hd=>rfl);(case hg=>rfl);(case hr=>exact z10_0);intro gb hg w2 hbox hb;have HB:=Za hb;have BK:=Za hbox;have GE:Aside0 (w.heap.size≤gb):=⟨Nat.le_of_eq hg.symm⟩;clear hb hbox hg;obtain⟨⟨_,_,_,_,_,_⟩,⟨_,_,_,_,_,_⟩⟩:=Sep.blk6 BK.out)
 refine start_ (n:=11) (S:=fun w'=>w'.cell? ⟨go,0,none⟩=some (.slice A vars.length c)∧w'.cell? ⟨go,1,none⟩=some (.slice Bq sent.length d)∧w'.cell? ⟨gb,3,none⟩=some (.int .i64 x3)∧w'.cell? ⟨gb,4,none⟩=some (.int .i64 x4)∧w'.cell? ⟨gb,5,none⟩=some (.int .i64 x5)) (ds:=[10]) #[false,false,false,false,false,false,false,false,false,false,false] z10_2 rfl rfl ⟨(Zb (Zk BO.out HB.out) 0).trans rfl,(Zb (Zk BO.out HB.out) 1).trans rfl,(Zb (BK.out) 3).trans rfl,(Zb (BK.out) 4).trans rfl,(Zb (BK.out) 5).trans rfl⟩ (fun hHeld=> ?_)
 refine pure_ (i:=0) (N:=some 38) (v:= ?_) (a':= ?_) #[true,false,false,false,false,false,false,false,false,false,false] rfl rfl z10_2 (fun _ _ _ h=>h) (Or.inl ⟨by rfl,?_⟩) ?_ ?_
 rotate_left
 ·intro w'
  go_simp
  with_reducible rfl
 rotate_left
 ·simp only[Act.put,Zm,Zn,Zo,i64_w,i32_w]
  rfl
 refine pure_ (i:=2) (N:=some 40) (v:= ?_) (a':= ?_) #[true,false,true,false,false,false,false,false,false,false,false] rfl rfl z10_2 (fun _ _ _ h=>h) (Or.inl ⟨by rfl,?_⟩) ?_ ?_
 rotate_left
 ·intro w'
  go_simp
  with_reducible rfl
 rotate_left
 ·simp only[Act.put,Zm,Zn,Zo,i64_w,i32_w]
  rfl
 refine pure_ (i:=4) (N:=some 42) (v:= ?_) (a':= ?_) #[true,false,true,false,true,false,false,false,false,false,false] rfl rfl z10_2 (fun _ _ _ h=>h) (Or.inl ⟨by rfl,?_⟩) ?_ ?_
 rotate_left
 ·intro w'
  go_simp
  with_reducible rfl
 rotate_left
 ·simp only[Act.put,Zm,Zn,Zo,i64_w,i32_w]
  rfl
 refine take_ (i:=1) (N:=some 39) (v:= ?_) (a':= ?_) #[true,true,true,false,true,false,false,false,false,false,false] rfl rfl z10_2 (fun _ _ _ h=>h) (Or.inl ⟨by rfl,?_⟩) hHeld ?_ ?_
 rotate_left
 ·intro w' s0
  obtain⟨_,_,_,_,_⟩:=s0
  go_simp
  with_reducible rfl
 rotate_left
 ·simp only[Act.put,Zm,Zn,Zo,i64_w,i32_w]
  rfl
 refine take_ (i:=3) (N:=some 41) (v:= ?_) (a':= ?_) #[true,true,true,true,true,false,false,false,false,false,false] rfl rfl z10_2 (fun _ _ _ h=>h) (Or.inl ⟨by rfl,?_⟩) hHeld ?_ ?_
 rotate_left
 ·intro w' s0
  obtain⟨_,_,_,_,_⟩:=s0
  go_simp
  with_reducible rfl
 rotate_left
 ·simp only[Act.put,Zm,Zn,Zo,i64_w,i32_w]
  rfl
 refine take_ (i:=5) (N:=some 43) (v:= ?_) (a':= ?_) #[true,true,true,true,true,true,false,false,false,false,false] rfl rfl z10_2 (fun _ _ _ h=>h) (Or.inl ⟨by rfl,?_⟩) hHeld ?_ ?_
 rotate_left
 ·intro w' s0
  obtain⟨_,_,_,_,_⟩:=s0
  go_simp
  with_reducible rfl
 rotate_left
 ·simp only[Act.put,Zm,Zn,Zo,i64_w,i32_w]
  rfl
 refine one_ (i:=6) (N:=some 44) #[true,true,true,true,true,true,true,false,false,false,false] rfl rfl z10_2 (by decide) (fun K hK=> ?_)
 refine goes_ Try.func53 z10_2 rfl #[.slice A vars.length c,.agg #[.int .i64 x3,.int .i64 x4,.int .i64 x5]] (by rfl) rfl rfl (by(try simp only[Yn,List.map_cons,List.map_nil]);first|done|rfl) ?_
 refine(impl_EvalExpr.calls ke _ _ vars x3 x4 x5 y _ ?_ Hc.out HS.out).mono ?_
 ·exact Yb HC.out z10_1
 rintro e w4 ⟨rfl,hb4⟩
 refine⟨_,rfl,?_⟩
 have HB4:=Za (Zi (z10_1:Below w.heap.size w _) hb4)
 have BK4:=Za ((hb4.block gb (blk_lt BK.out)).trans BK.out)
 have BO4:=Za (Zk BO.out HB4.out)
 have R24:=Za (R2.out.below HB4.out)
 clear hb4
 refine hK _ _ ⟨(Zb (BO4.out) 0).trans rfl,(Zb (BO4.out) 1).trans rfl,(Zb (BK4.out) 3).trans rfl,(Zb (BK4.out) 4).trans rfl,(Zb (BK4.out) 5).trans rfl⟩ (fun hHeld=> ?_)
 clear hK K
 refine norm_ (a':= ?_) ?_ ?_
 rotate_left
 ·show Act.put _ (some 44) _=_
  simp only[Act.put,Zm,Zn,Zo,i64_w,i32_w]
  rfl
 refine one_ (i:=7) (N:=some 45) #[true,true,true,true,true,true,true,true,false,false,false] rfl rfl z10_2 (by decide) (fun K hK=> ?_)
 refine value_ (w1:= ?_) (v:= ?_) (by rfl) rfl ?_ ?_
 rotate_left 2
 ·go_simp
  constructor
  ·rfl
  ·rfl
 refine hK _ _ ⟨(Zb (blk_alloc BO4.out _) 0).trans rfl,(Zb (blk_alloc BO4.out _) 1).trans rfl,(Zb (blk_alloc BK4.out _) 3).trans rfl,(Zb (blk_alloc BK4.out _) 4).trans rfl,(Zb (blk_alloc BK4.out _) 5).trans rfl⟩ (fun hHeld=> ?_)
 clear hK K
 refine norm_ (a':= ?_) ?_ ?_
 rotate_left
 ·show Act.put _ (some 45) _=_
  simp only[Act.put,Zm,Zn,Zo,i64_w,i32_w]
  rfl
 refine one_ (i:=8) (N:=some 46) #[true,true,true,true,true,true,true,true,true,false,false] rfl rfl z10_2 (by decide) (fun K hK=> ?_)
 refine Kd.R_append_step (w0:=w4) (Kd.int .i64) 0 (by rfl) (.tmp 39) (.tmp 45) 25 3 (.int .i64 0) 8 rfl Try.underlying25 info3 rfl (by decide) (by decide) (.slice Bq sent.length d) sent y [.int .i64 y] (fun _=>True) (fun _=>False) rfl rfl rfl (fun _ hk=>hk.elim) (fun _ _=>trivial) (R24.out.to_R (fun _ _=>Nat.zero_le _) (fun _ _=>trivial)) (Ya _ _) (Nat.zero_le _) (by have:=HL.out;omega) ?_
 intro v1 w5 ho5 hb5 hg5 hat5
 obtain⟨B5,d5,e5⟩:=Kd.R_slice ho5
 rw[List.length_append,List.length_singleton] at e5
 subst e5
 have R25:=Za (Sep.rowI.of_R ho5)
 have HG5:=Za hg5
 have HA5:=Za hat5
 have BO5:=Za (blk_grown BO4.out hg5 (fun h=>R2.out.ne BO.out (by decide) go h.symm rfl))
 have BK5:=Za (blk_grown BK4.out hg5 (fun h=>absurd (R2.out.lt gb h.symm) (Nat.not_lt.mpr GE.out)))
 clear ho5 hb5 hg5 hat5
 refine hK _ _ ⟨(Zb (BO5.out) 0).trans rfl,(Zb (BO5.out) 1).trans rfl,(Zb (BK5.out) 3).trans rfl,(Zb (BK5.out) 4).trans rfl,(Zb (BK5.out) 5).trans rfl⟩ (fun hHeld=> ?_)
 clear hK K
 refine norm_ (a':= ?_) ?_ ?_
 rotate_left
 ·show Act.put _ (some 46) _=_
  simp only[Act.put,Zm,Zn,Zo,i64_w,i32_w]
  rfl
 refine pure_ (i:=9) (N:=some 47) (v:= ?_) (a':= ?_) #[true,true,true,true,true,true,true,true,true,true,false] rfl rfl z10_2 (fun _ _ _ h=>h) (Or.inl ⟨by rfl,?_⟩) ?_ ?_
 rotate_left
 ·intro w'
  go_simp
  with_reducible rfl
 rotate_left
 ·simp only[Act.put,Zm,Zn,Zo,i64_w,i32_w]
  rfl
 refine last_ (i:=10) (N:=none) #[true,true,true,true,true,true,true,true,true,true,true] rfl rfl z10_2 (by decide) (fun K hK=> ?_)
 have hO1:w5.cell? ⟨go,1,none⟩=some (.slice Bq sent.length d):=(Zb BO5.out 1).trans rfl
 have hfO1:=Zc BO5.out 1
 refine skip_ (w1:= ?_) (by rfl) rfl ?_ ?_
 rotate_left
 ·go_simp
  rfl
 refine hK _ _ ?_
 clear hK K
 refine done_ z10_2 ?_
 go_wp2
 go_ret
 refine⟨rfl,effP_next (w4:=w4) (F2:=FJ) (v1':= .slice A vars.length c) (v2':= .slice B5 (sent.length+1) d5) HJL.out hBB BO.out BS.out R1.out R2.out HJ.out D.out HF.out ⟨HG5.out.os.trans HB4.out.os,HG5.out.tape.trans HB4.out.tape,HG5.out.output.trans HB4.out.output⟩ HB4.out.size (fun k hk _=>HB4.out.block k hk) ((HJL.out z).below HBW.out HJ.out HB4.out) (fun k hk=> .inl hk) ?_ ?_ ?_ ?_ ?_ (fun k h=> .inl h) (fun k h=> ?_) (fun k h h2=> ?_)⟩
 ·have:=HG5.out.size
  simp only[World.setCell,Array.size_modify]
  exact this
 ·intro k hk h1 h2 h3
  rw[Below.heap_setCell _ _ _ k h1]
  exact HG5.out.block k hk (fun h=>h3 h.symm)
 ·exact blk_put BO5.out 1 _ rfl
 ·have hn:∀k,(Value.slice A vars.length c).ownBlock=some k→k≠go:=R1.out.ne BO.out (by decide)
  refine R1.out.keep (fun k hk=> ?_)
  rw[Below.heap_setCell _ _ _ k (hn k hk),HG5.out.block k (Nat.lt_of_lt_of_le (R1.out.lt k hk) HB4.out.size) (fun h=>D.out.1 k hk h.symm),HB4.out.block k (R1.out.lt k hk)]
 ·have hn:=R25.out.ne BO5.out (by decide)
  exact R25.out.keep (fun k hk=>Below.heap_setCell _ _ _ k (hn k hk))
 ·rcases HA5.out with h4|⟨b,h4,hb⟩
  ·exact .inl (h4 ▸ h)
  ·rw[h4] at h
   cases h
   exact .inr hb
 ·rcases HA5.out with h4|⟨b,h4,hb⟩
  ·exact D.out.1 k h (h4 ▸ h2)
  ·rw[h4] at h2
   cases h2
   have:=R1.out.lt _ h
   have:=HB4.out.size
   omega
theorem effStep_calls {ζ:Type} (sense:ζ→Int→Int→Option (ζ×Int)) (ke:Nat) (J:ζ→Sep.Asn) (B B2:Nat) (hBB:B≤B2) (gs go gf:Nat) (cb:Array Value) (eg:∀args w,(callFunc gf args).run Try.prog w= .ok (.enter gf args) w)
  (hJ:∀z,Sep.Loc B (J z))
  (hsense:∀z n m z' y F w,B≤w.heap.size→sense z n m=some (z',y)→J z F w→Calls Try.prog gf (#[.int .i64 n,.int .i64 m]++cb) w fun e w'=>e= .returned (.int .i64 y)∧∃F',J z' F' w'∧Sep.After F w F' w')
  (st:List Int×List Int×Int×ζ) (x:S80) (st':List Int×List Int×Int×ζ) (b:Bool) (F:Nat→Prop) (w:World) (h:effStep sense ke st x=some (st',b)) (hI:effP B2 gs go (.func (.func gf) #[] cb) J st F w):
  Calls Try.prog 52 (#[.agg #[.int .i64 x.f0,.int .i64 x.f1,.int .i64 x.f2,.int .i64 x.f3.f0,.int .i64 x.f3.f1,.int .i64 x.f3.f2]]++ #[.pointer (some ⟨gs,0,none⟩),.pointer (some ⟨go,0,none⟩)]) w fun e w'=>
   e= .returned (.bool b)∧∃F',effP B2 gs go (.func (.func gf) #[] cb) J st' F' w'∧Sep.After F w F' w':=by
 obtain⟨vars,sent,used,z⟩:=st
 obtain⟨x0,x1,x2,⟨x3,x4,x5⟩⟩:=x
 unfold effStep at h
 simp only at h
 by_cases c2:x0=2
 ·rw[if_pos c2] at h
  subst c2
  obtain⟨⟨z',y⟩,h1,h2⟩:=Zl h
  by_cases c:0≤x1∧x1<(vars.length:Int)
  ·rw[if_pos c] at h2
   cases h2
   exact effStep_sense sense ke J B B2 hBB gs go gf cb eg hJ hsense vars sent used z x1 x2 x3 x4 x5 z' y h1 c.1 c.2 F w hI
  ·rw[if_neg c] at h2
   cases h2
 ·rw[if_neg c2] at h
  by_cases c1:x0=1
  ·rw[if_pos c1] at h
   subst c1
   obtain⟨y,h1,h2⟩:=Zl h
   by_cases c:0≤x1∧x1<(vars.length:Int)
   ·rw[if_pos c] at h2
    cases h2
    exact effStep_set sense ke J B B2 hBB gs go gf cb hJ vars sent used z 1 x1 x2 x3 x4 x5 y h1 c.1 c.2 F w hI
   ·rw[if_neg c] at h2
    cases h2
  ·rw[if_neg c1] at h
   by_cases c3:x0=3
   ·rw[if_pos c3] at h
    subst c3
    obtain⟨y,h1,h2⟩:=Zl h
    by_cases c:sent.length<17592186044415
    ·rw[if_pos c] at h2
     cases h2
     exact effStep_send sense ke J B B2 hBB gs go gf cb hJ vars sent used z 3 x1 x2 x3 x4 x5 y h1 c F w hI
    ·rw[if_neg c] at h2
     cases h2
   ·rw[if_neg c3] at h
    by_cases c4:x0=4
    ·rw[if_pos c4] at h
     subst c4
     obtain⟨y,h1,h2⟩:=Zl h
     cases h2
     exact effStep_if sense ke J B B2 hBB gs go gf cb hJ vars sent used z 4 x1 x2 x3 x4 x5 y h1 F w hI
    ·rw[if_neg c4] at h
     cases h
     exact effStep_other sense ke J B B2 hBB gs go gf cb hJ vars sent used z x0 x1 x2 x3 x4 x5 0 c1 c2 c3 c4 F w hI
theorem heapTask:Kd.Heap k64:=Kd.heap_iso _ (Kd.heap_pair (Kd.heap_slice _ heapStmt) (Kd.heap_iso _ (Kd.heap_pair (Kd.heap_int .i64) (Kd.heap_pair (Kd.heap_int .i64) (Kd.heap_int .i64)))))
def impl_effect.f {ζ:Type} (sense:ζ→Int→Int→Option (ζ×Int)) (k:Nat) (l0:List S64) (a1:Int) (l2:List Int) (z:ζ):Option ((List Int×List Int×Int×Int)×ζ):=
 (slices_Clone_int_int.f l2).bind fun v=>if 0≤a1∧a1<(l0.length:Int) then
  (impl_walk.f (effStep sense k) k (rd_T64 l0 a1).f0 (v,[],0,z)).bind fun st=>(impl_NextTask.f k l0 st.1 a1).bind fun n=>some ((st.1,st.2.1,n,st.2.2.1),st.2.2.2) else none
set_option maxHeartbeats 8000000 in
set_option maxRecDepth 100000 in
theorem impl_effect.calls {ζ:Type} (sense:ζ→Int→Int→Option (ζ×Int)) (k:Nat) (J:ζ→Sep.Asn) (gf:Nat) (cb:Array Value) (eg:∀args w,(callFunc gf args).run Try.prog w= .ok (.enter gf args) w)
  (w0 w:World) (hJ:∀z,Sep.Loc w0.heap.size (J z))
  (hsense:∀z n m z' y F w,w0.heap.size≤w.heap.size→sense z n m=some (z',y)→J z F w→Calls Try.prog gf (#[.int .i64 n,.int .i64 m]++cb) w fun e w'=>e= .returned (.int .i64 y)∧∃F',J z' F' w'∧Sep.After F w F' w')
  (A0:Option Addr) (c0:Nat) (l0:List S64) (a1:Int) (A2:Option Addr) (c2:Nat) (l2:List Int) (z:ζ) (r1 r2:List Int) (r3 r4:Int) (z':ζ) (F:Nat→Prop)
  (hB:Below w0.heap.size w0 w) (hr0:Kd.C k64 w0 A0 l0.length l0) (hc0:l0.length≤c0) (hr2:Kd.C (Kd.int .i64) w0 A2 l2.length l2) (hc2:l2.length≤c2) (hj:J z F w)
  (h:impl_effect.f sense k l0 a1 l2 z=some ((r1,r2,r3,r4),z')):
  Calls Try.prog 30 #[.agg #[.slice A0 l0.length c0],.int .i64 a1,.slice A2 l2.length c2,.func (.func gf) #[] cb] w fun e w'=>∃v0_ v1_:Value,e= .returned (.agg #[v0_,v1_,.int .i64 r3,.int .i64 r4])∧
   Kd.R (Kd.int .i64) 3 w' w.heap.size (fun k_=>some k_≠(v1_:Value).ownBlock) v0_ r1∧Kd.R (Kd.int .i64) 3 w' w.heap.size (fun k_=>some k_≠(v0_:Value).ownBlock) v1_ r2∧
   ∃F',J z' F' w'∧Sep.After F w F' w':=by
 unfold impl_effect.f at h
 obtain⟨v,h1,h2⟩:=Zl h
 by_cases ca:0≤a1∧a1<(l0.length:Int)
 ·rw[if_pos ca] at h2
  obtain⟨⟨s1,s2,s3,s4⟩,h3,h4⟩:=Zl h2
  obtain⟨n,h5,h6⟩:=Zl h4
  simp only[Option.some.injEq,Prod.mk.injEq] at h6
  obtain⟨⟨rfl,rfl,rfl,rfl⟩,rfl⟩:=h6
  have HB:=Za hB
  have HR0:=Za hr0
  have HC0:=Za hc0
  have HR2:=Za (Yb hr2 hB)
  have HC2:=Za hc2
  have HJ:=Za hj
  have HJL:=Za hJ
  have HSE:=Za hsense
  have H1:=Za h1
  have H3:=Za h3
  have H5:=Za h5
  obtain⟨ad,A1,c1,e,hx0,hx1,hx2,hx3,hl1,hi1⟩:=at_T64 hr0 a1 ca.1 ca.2
  cases e
  have HX0:=Za hx0
  have HL1:=Za hl1
  have HI1:=Za hi1
  have p1:=eq_true ca.1
  have q1:=eq_true ca.2
  clear hB hr0 hc0 hr2 hc2 hj hJ hsense h1 h3 h5 h h2 h4 hx0 hx1 hx2 hx3 hl1 hi1 ca
  go_enter Try.func30,Try.ntmps30
  go_wp2_with (first
   |((with_reducible refine Zp (N:=4) rfl ?_);refine Zr ?hg (N:=4) ?hd (cs:= #[.slice (some ad) l0.length c0]) (t:=33) ?hr ?_;(case hd=>rfl);(case hg=>rfl);(case hr=>exact z10_0);intro gp hgp w1 hp hb1;have HB1:=Za hb1;have BP1:=Za hp;have GP:Aside0 (w.heap.size≤gp):=⟨Nat.le_of_eq hgp.symm⟩;clear hgp hp hb1)
   |((with_reducible refine Zp (N:=7) rfl ?_);refine Zr ?hg (N:=7) ?hd (cs:= #[.func (.func gf) #[] cb]) (t:=53) ?hr ?_;(case hd=>rfl);(case hg=>rfl);(case hr=>exact z10_0);intro gs hgs w2 hs hb2;have HB2:=Za (Zi HB1.out hb2);have BP2:=Za (Zk BP1.out hb2);have BS2:=Za hs;have GS:Aside0 (w.heap.size≤gs):=⟨by rw[hgs];exact HB1.out.size⟩;clear hgs hs hb2)
   |((with_reducible refine Zp (N:=8) rfl ?_);refine Zr ?hg (N:=8) ?hd (cs:= #[.slice none 0 0,.slice none 0 0,.int .i64 0,.int .i64 0]) (t:=28) ?hr ?_;(case hd=>rfl);(case hg=>rfl);(case hr=>exact z10_0);intro gr hgr w3 hr hb3;have HB3:=Za (Zi HB2.out hb3);have BP3:=Za (Zk BP2.out hb3);have BS3:=Za (Zk BS2.out hb3);have BR3:=Za hr;have GR:Aside0 (w.heap.size≤gr):=⟨by rw[hgr];exact HB2.out.size⟩;clear hgr hr hb3)
   |(go_at_call 50;(with_reducible refine(slices_Clone_int_int.calls A2 c2 l2 v _ ?sd1 HC2.out H1.out).mono ?_);(case sd1=>exact Yb HR2.out HB3.out);rintro e w4 ⟨v0,rfl,ho4,hb4⟩;have HB4:=Za (Zi HB3.out hb4);have BP4:=Za (Zk BP3.out hb4);have BS4:=Za (Zk BS3.out hb4);have BR4:=Za (Zk BR3.out hb4);obtain⟨Av,cv,ev⟩:=Kd.R_slice ho4;subst ev;have RV4:=Za (Sep.rowI.of_R ho4);have OV:Aside0 (∀k,(Value.slice Av v.length cv).ownBlock=some k→w3.heap.size≤k):=⟨fun k hk=>Yl ho4 k hk⟩;clear ho4 hb4)
   |((with_reducible refine Zp (N:=9) rfl ?_);refine Zr ?hg (N:=9) ?hd (cs:= #[.slice none 0 0,.slice none 0 0,.int .i64 0,.int .i64 0]) (t:=28) ?hr ?_;(case hd=>rfl);(case hg=>rfl);(case hr=>exact z10_0);intro go hgo w5 ho hb5;have HB5:=Za (Zi HB4.out hb5);have BP5:=Za (Zk BP4.out hb5);have BS5:=Za (Zk BS4.out hb5);have BR5:=Za (Zk BR4.out hb5);have RV5:=Za (RV4.out.below hb5);have BO5:=Za ho;have GO:Aside0 (go=w4.heap.size):=⟨hgo⟩;clear hgo ho hb5;obtain⟨⟨_,_,_,_⟩,⟨_,_,_,_⟩⟩:=Sep.blk4 BO5.out)
   |((with_reducible refine Yh (t:=28) (p:=9) rfl ?_);refine Yg (t:=28) (p:=9) (v:= ?vo1_) (w1:=Sep.put4 w5 go (.slice Av v.length cv) (.slice none 0 0) (.int .i64 0) (.int .i64 0)) ?hg ?ho ?hn ?hr ?_;(case ho=>rfl);(case hg=>rfl);(case hn=>rfl);(case hr=>exact z10_0);intro w6 hw;have NP:Aside0 (gp≠go∧gs≠go∧gr≠go):=⟨by have:=blk_lt BP4.out;have:=blk_lt BS4.out;have:=blk_lt BR4.out;have:=GO.out;omega⟩;have BO6:=Za (hw ▸ Sep.put4_blk BO5.out (.slice Av v.length cv) (.slice none 0 0) (.int .i64 0) (.int .i64 0));have HB6:=Za (hw ▸ Sep.put4_below HB5.out (by have:=HB4.out.size;have:=GO.out;omega:w.heap.size≤go) (.slice Av v.length cv) (.slice none 0 0) (.int .i64 0) (.int .i64 0));have BP6:=Za (hw ▸ (Sep.put4_far (w:=w5) NP.out.1 (.slice Av v.length cv) (.slice none 0 0) (.int .i64 0) (.int .i64 0)).trans BP5.out);have BS6:=Za (hw ▸ (Sep.put4_far (w:=w5) NP.out.2.1 (.slice Av v.length cv) (.slice none 0 0) (.int .i64 0) (.int .i64 0)).trans BS5.out);have BR6:=Za (hw ▸ (Sep.put4_far (w:=w5) NP.out.2.2 (.slice Av v.length cv) (.slice none 0 0) (.int .i64 0) (.int .i64 0)).trans BR5.out);have RV6:Aside0 (Sep.rowI 3 w6 (.slice Av v.length cv) v):=⟨hw ▸ RV5.out.keep (fun k hk=>Sep.put4_far (RV5.out.ne BO5.out (by decide) k hk) (.slice Av v.length cv) (.slice none 0 0) (.int .i64 0) (.int .i64 0))⟩;clear hw;have hP6:w6.cell? ⟨gp,0,none⟩=some (.slice (some ad) l0.length c0):=(Zb BP6.out 0).trans rfl;have hX6:=pw_cell_below (HB.out.trans (HB6.out.mono HB.out.size)) HX0.out)
   |fail)
  have LW:Aside0 (w0.heap.size≤w.heap.size∧∀k,F k→w0.heap.size≤k∧k<w.heap.size):=⟨HB.out.size,(HJL.out z).lt HJ.out⟩
  have OW:=Za HB4.out.size
  obtain⟨F6,hF6⟩:∃F6:Nat→Prop,∀k,F6 k↔k=go∨k=gs∨(Value.slice Av v.length cv).ownBlock=some k∨(Value.slice none 0 0).ownBlock=some k∨F k:=⟨_,fun k=>Iff.rfl⟩
  have I6:Aside0 (effP w.heap.size gs go (.func (.func gf) #[] cb) J (v,[],0,z) F6 w6):=⟨⟨_,_,F,⟨BO6.out,BS6.out⟩,⟨RV6.out,Sep.rowI.of_R (Kd.R_nil _ _ _ 0 (fun _=>True))⟩,(HJL.out z).below LW.out.1 HJ.out HB6.out,
   ⟨fun k _ h=>by simp[Value.ownBlock] at h,fun h=>by have:=LW.out.2 _ h;have:=GO.out;have:=OW.out;omega,fun h=>by have:=LW.out.2 _ h;have:=GS.out;omega,fun k hk h=>by have:=LW.out.2 _ h;have:=OV.out k hk;have:=HB3.out.size;omega,fun k h=>by simp[Value.ownBlock] at h,by have:=GO.out;have:=OW.out;omega,GS.out,fun k hk=>Nat.le_trans HB3.out.size (OV.out k hk),fun k h=>by simp[Value.ownBlock] at h⟩,hF6⟩⟩
  have NF6:Aside0 (∀k,k<w.heap.size→¬F k→¬F6 k):=⟨fun k hk hn h=>by
   rcases (hF6 k).1 h with h|h|h|h|h
   ·have:=GO.out;have:=OW.out;omega
   ·have:=GS.out;omega
   ·have:=OV.out k h;have:=HB3.out.size;omega
   ·simp[Value.ownBlock] at h
   ·exact hn h⟩
  have SF6:Aside0 (∀k,F6 k→F k∨w.heap.size≤k):=⟨fun k h=>by
   rcases Nat.lt_or_ge k w.heap.size with h1|h1
   ·by_cases h2:F k
    ·exact .inl h2
    ·exact absurd h (NF6.out k h1 h2)
   ·exact .inr h1⟩
  have NG6:Aside0 (¬F6 gp∧¬F6 gr):=by
   have ng:∀(g:Nat) (cs:Array Value) (t:TypeId),w6.heap[g]? =some (.cells cs t (0,0))→3≠t→g≠go→g≠gs→w.heap.size≤g→¬F6 g:=fun g cs t hb ht h1 h2 h3 h=>by
    rcases (hF6 g).1 h with h|h|h|h|h
    ·exact h1 h
    ·exact h2 h
    ·exact RV6.out.ne hb ht g h rfl
    ·simp[Value.ownBlock] at h
    ·have:=LW.out.2 g h;omega
   exact⟨ng gp _ _ BP6.out (by decide) NP.out.1 (blk_ne BP6.out BS6.out (by decide)) GP.out,ng gr _ _ BR6.out (by decide) NP.out.2.2 (blk_ne BR6.out BS6.out (by decide)) GR.out⟩
  clear hF6
  have OLD:Aside0 (∀w',Kept w6 w' F6→∀k,k<w0.heap.size→w'.heap[k]? =w0.heap[k]?):=⟨fun w' hk k h=>by
   have h1:=LW.out.1
   have h2:=HB6.out.size
   rw[hk.2 k (by omega) (NF6.out k (by omega) (fun hf=>by have:=LW.out.2 k hf;omega)),HB6.out.block k (by omega),HB.out.block k h]⟩
  have HL6:Aside0 (∀s,Sep.Loc w0.heap.size (effP w.heap.size gs go (.func (.func gf) #[] cb) J s)):=⟨effP_loc _ _ LW.out.1 gs go _ J HJL.out⟩
  refine(impl_walk.calls (effStep sense k) (effP w.heap.size gs go (.func (.func gf) #[] cb) J) 52 _ (fun args w=>enters_ Try.func52 z10_2 z10_2 args w) HL6.out (fun s x s' b F' w' _ hs hi=>effStep_calls sense k J w0.heap.size w.heap.size LW.out.1 gs go gf cb eg HJL.out HSE.out s x s' b F' w' hs hi) k A1 c1 _ _ _ F6 w6 (fun w' hk=>heapStmt.C (fun k h=>OLD.out w' hk k h) HI1.out) HL1.out (by have:=LW.out.1;have:=HB6.out.size;omega) I6.out H3.out).mono ?_
  rintro e w7 ⟨rfl,F7,hI7,hA7⟩
  obtain⟨v1',v2',FJ7,⟨bo7,_⟩,⟨r17,r27⟩,hj7,D7,hF7⟩:=hI7
  have BP7:=Za (hA7.blk BP6.out NG6.out.1)
  have BR7:=Za (hA7.blk BR6.out NG6.out.2)
  have OLD7:Aside0 (∀k,k<w0.heap.size→w7.heap[k]? =w0.heap[k]?):=⟨OLD.out w7 hA7.kept⟩
  have A7:Aside0 (Sep.After F w FJ7 w7):=⟨⟨(Kept.of_below HB6.out F).then_ hA7.kept SF6.out,fun k hk=>(hA7.sub k ((hF7 k).2 (by simp[hk]))).elim (SF6.out k) (fun h=> .inr (Nat.le_trans HB6.out.size h)),hA7.io.1.trans HB6.out.os,hA7.io.2.1.trans HB6.out.tape,hA7.io.2.2.trans HB6.out.output⟩⟩
  have LW7:Aside0 (w.heap.size≤w7.heap.size):=⟨Nat.le_trans HB6.out.size hA7.size⟩
  have NGR:Aside0 (¬FJ7 gr):=⟨fun h=>hA7.out BR6.out NG6.out.2 ((hF7 gr).2 (by simp[h]))⟩
  obtain⟨A',c',e',hc',hC'⟩:=r17.open_
  subst e'
  obtain⟨A2',c2',e2',hc2',hC2'⟩:=r27.open_
  subst e2'
  have BO7:=Za bo7
  have R17:=Za r17
  have R27:=Za r27
  have J7:=Za hj7
  have DD:=Za D7
  have HC':=Za hC'
  have Hc':=Za hc'
  clear bo7 r17 r27 hj7 D7 hF7 hA7 hc' hC' hc2' hC2' I6 H3
  obtain⟨⟨_,_,_,_⟩,⟨_,_,_,_⟩⟩:=Sep.blk4 BO7.out
  have hP7:w7.cell? ⟨gp,0,none⟩=some (.slice (some ad) l0.length c0):=(Zb BP7.out 0).trans rfl
  go_wp2_with (first
   |(go_at_call 54;(with_reducible refine(impl_NextTask.calls k _ _ l0 _ _ s1 a1 n _ ?sd1 HC0.out ?sd2 Hc'.out H5.out).mono ?_);(case sd1=>exact heapTask.C OLD7.out HR0.out);(case sd2=>exact HC'.out);rintro e w8 ⟨rfl,hb8⟩;have HB8:=Za hb8;have BO8:=Za (Zk BO7.out hb8);have BR8:=Za (Zk BR7.out hb8);clear hb8;obtain⟨⟨_,_,_,_⟩,⟨_,_,_,_⟩⟩:=Sep.blk4 BO8.out;obtain⟨⟨_,_,_,_⟩,⟨_,_,_,_⟩⟩:=Sep.blk4 BR8.out)
   |((with_reducible refine Yh (t:=3) (p:=26) rfl ?_);refine Yg (t:=3) (p:=26) (v:= ?vo2_) (w1:=w8.setCell ⟨go,2,none⟩ (.int .i64 n)) ?hg ?ho ?hn ?hr ?_;(case ho=>rfl);(case hg=>rfl);(case hn=>rfl);(case hr=>exact z10_0);intro w9 hw;have BO9:Aside0 (w9.heap[go]? =some (.cells #[.slice A' s1.length c',.slice A2' s2.length c2',.int .i64 n,.int .i64 s3] 28 (0,0))):=⟨by rw[hw];exact blk_put BO8.out 2 (.int .i64 n) rfl⟩;have BR9:Aside0 (w9.heap[gr]? =some (.cells #[.slice none 0 0,.slice none 0 0,.int .i64 0,.int .i64 0] 28 (0,0))):=⟨by rw[hw];exact blk_far BR8.out NP.out.2.2 (.int .i64 n)⟩;have KW9:Aside0 ((w8.heap.size≤w9.heap.size∧∀k,k≠go→w9.heap[k]? =w8.heap[k]?)∧w9.os=w8.os∧w9.tape=w8.tape∧w9.output=w8.output):=⟨by rw[hw];exact⟨⟨by simp[World.setCell],fun k hk=>Below.heap_setCell _ _ _ k hk⟩,rfl,rfl,rfl⟩⟩;clear hw;obtain⟨⟨_,_,_,_⟩,⟨_,_,_,_⟩⟩:=Sep.blk4 BO9.out;obtain⟨⟨_,_,_,_⟩,⟨_,_,_,_⟩⟩:=Sep.blk4 BR9.out)
   |((with_reducible refine Yh (t:=28) (p:=8) rfl ?_);refine Yg (t:=28) (p:=8) (v:= ?vo3_) (w1:=Sep.put4 w9 gr (.slice A' s1.length c') (.slice A2' s2.length c2') (.int .i64 n) (.int .i64 s3)) ?hg ?ho ?hn ?hr ?_;(case ho=>rfl);(case hg=>rfl);(case hn=>rfl);(case hr=>exact z10_0);intro w10 hw;have BR10:=Za (hw ▸ Sep.put4_blk BR9.out (.slice A' s1.length c') (.slice A2' s2.length c2') (.int .i64 n) (.int .i64 s3));have KW10:Aside0 ((w9.heap.size≤w10.heap.size∧∀k,k≠gr→w10.heap[k]? =w9.heap[k]?)∧w10.os=w9.os∧w10.tape=w9.tape∧w10.output=w9.output):=⟨by rw[hw];exact⟨⟨by simp[World.setCell],fun k hk=>Sep.put4_far hk _ _ _ _⟩,rfl,rfl,rfl⟩⟩;clear hw)
   |fail)
  refine bodyPost_ret (results_cell_row rfl _ _ gr 28 #[.slice A' s1.length c',.slice A2' s2.length c2',.int .i64 n,.int .i64 s3] (0,0) _ rfl BR10.out Try.underlying28 rfl z10_2) rfl ?_
  have hk:∀k,k<w7.heap.size→k≠go→k≠gr→w10.heap[k]? =w7.heap[k]? :=fun k h1 h2 h3=>by rw[KW10.out.1.2 k h3,KW9.out.1.2 k h2,HB8.out.block k h1]
  have hz:w7.heap.size≤w10.heap.size:=Nat.le_trans HB8.out.size (Nat.le_trans KW9.out.1.1 KW10.out.1.1)
  have hgo:w.heap.size≤go:=by have:=GO.out;have:=OW.out;omega
  refine⟨_,_,rfl,?_,?_,FJ7,?_,⟨⟨Nat.le_trans LW7.out hz,fun k h1 h2=> ?_⟩,A7.out.sub,by rw[KW10.out.2.1,KW9.out.2.1,HB8.out.os,A7.out.io.1],by rw[KW10.out.2.2.1,KW9.out.2.2.1,HB8.out.tape,A7.out.io.2.1],by rw[KW10.out.2.2.2,KW9.out.2.2.2,HB8.out.output,A7.out.io.2.2]⟩⟩
  ·exact(R17.out.keep (fun k h=>hk k (R17.out.lt k h) (R17.out.ne BO7.out (by decide) k h) (R17.out.ne BR7.out (by decide) k h))).to_R (fun k h=>DD.out.2.2.2.2.2.2.2.1 k h) (fun k h h2=>DD.out.1 k h h2.symm)
  ·exact(R27.out.keep (fun k h=>hk k (R27.out.lt k h) (R27.out.ne BO7.out (by decide) k h) (R27.out.ne BR7.out (by decide) k h))).to_R (fun k h=>DD.out.2.2.2.2.2.2.2.2 k h) (fun k h h2=>DD.out.1 k h2.symm h)
  ·refine(HJL.out s4).keep J7.out (Nat.le_trans LW.out.1 LW7.out) hz (fun k h=> ?_)
   rcases h with h|h
   ·have:=LW.out.1;have:=LW7.out;have:=GR.out
    exact hk k (by omega) (by omega) (by omega)
   ·exact hk k ((HJL.out s4).lt J7.out k h).2 (fun e=>DD.out.2.1 (e ▸ h)) (fun e=>NGR.out (e ▸ h))
  ·have:=LW7.out;have:=GR.out
   rw[hk k (by omega) (by omega) (by omega),A7.out.kept.2 k h1 h2]
 ·rw[if_neg ca] at h2
  cases h2
def impl_isReading.f (l0:List Int) (a1:Int):Option (Bool):=(impl_within.f a1 0 1000000).bind fun t303=>(if t303=true then ((impl_areValues.f l0).bind fun t304=>(some t304)) else (some false))
set_option maxHeartbeats 8000000 in
set_option maxRecDepth 100000 in
theorem impl_isReading.calls (A0:Option Addr) (c0:Nat) (l0:List Int) (a1:Int) (r:Bool) (w:World) (hr0:Kd.C (Kd.int .i64) w A0 l0.length l0) (hc0:l0.length≤c0) (h:impl_isReading.f l0 a1=some r):
  Calls Try.prog 36 #[.slice A0 l0.length c0,.int .i64 a1] w fun e w'=>e= .returned (.bool r)∧Drawn0 w w':=by
 have HR0:=Za hr0
 have HC0:=Za hc0
 clear hr0 hc0
 have H:((impl_within.f a1 0 1000000).bind fun t303=>(if t303=true then ((impl_areValues.f l0).bind fun t304=>(some t304)) else (some false)))=some r:=h
 clear h
 replace H:=Zl H
 obtain⟨t303,A30,H⟩:=H
 replace H:(if t303=true then ((impl_areValues.f l0).bind fun t304=>(some t304)) else (some false))=some r:=H
 have A3:=Za A30
 clear A30
 by_cases c4:t303=true
 ·subst c4
  rw[if_pos rfl] at H
  replace H:=Zl H
  obtain⟨t304,A50,H⟩:=H
  replace H:(some t304)=some r:=H
  have A5:=Za A50
  clear A50
  obtain rfl:=Zj H
  go_enter Try.func36,Try.ntmps36
  go_wp2_with (first|((first|((with_reducible refine gate_callee (f:=46) rfl ?_);refine goesL_ (some 6) rfl rfl Try.func46 z10_2 rfl #[.int .i64 a1,.int .i64 0,.int .i64 1000000] rfl (by(try simp only[Yn,List.map_cons,List.map_nil]);first|done|rfl|(simp only[List.length_drop,List.length_take];rfl)) ?_;(with_reducible refine(impl_within.calls a1 0 1000000 true _ A3.out).mono ?_))|(go_at_call 46;(with_reducible refine(impl_within.calls a1 0 1000000 true _ A3.out).mono ?_)));rintro e w' ⟨rfl,⟨nd,rfl⟩⟩;(first|refine⟨_,rfl,?_⟩|skip))|(go_at_call 29;(with_reducible refine(impl_areValues.calls _ _ l0 t304 _ ?side1 ?side2 A5.out).mono ?_);(case side1=>repeat(first|exact HR0.out|(with_reducible refine Yd ?_ _)|(with_reducible refine Ye ?_ _)|(with_reducible refine Yf ?_)));(case side2=>exact HC0.out);rintro e w' ⟨rfl,⟨nd,rfl⟩⟩))
  go_ret
  exact⟨by first|rfl|(simp;done)|(simp[*];done),by repeat(first|exact Zu _|apply Zv)⟩
 ·replace c4:=Bool.eq_false_iff.mpr c4
  subst c4
  rw[if_neg (show ¬(false=true) by decide)] at H
  obtain rfl:=Zj H
  go_enter Try.func36,Try.ntmps36
  go_wp2_with (first|((first|((with_reducible refine gate_callee (f:=46) rfl ?_);refine goesL_ (some 6) rfl rfl Try.func46 z10_2 rfl #[.int .i64 a1,.int .i64 0,.int .i64 1000000] rfl (by(try simp only[Yn,List.map_cons,List.map_nil]);first|done|rfl|(simp only[List.length_drop,List.length_take];rfl)) ?_;(with_reducible refine(impl_within.calls a1 0 1000000 false _ A3.out).mono ?_))|(go_at_call 46;(with_reducible refine(impl_within.calls a1 0 1000000 false _ A3.out).mono ?_)));rintro e w' ⟨rfl,⟨nd,rfl⟩⟩;(first|refine⟨_,rfl,?_⟩|skip)))
  go_ret
  exact⟨by first|rfl|(simp;done)|(simp[*];done),by repeat(first|exact Zu _|apply Zv)⟩
def impl_ReadSensor.f (l0:List Int) (a1:Int) (a2:Int):Option (Int):=if (l0.length:Int)=0 then (some 0) else ((impl_isSensor.f a1).bind fun t305=>(if t305=true then (if a2<0 then (some 0) else (if 0≤(Int.tmod a2 (l0.length:Int)) then (if (Int.tmod a2 (l0.length:Int))<(l0.length:Int) then ((impl_AddValues.f (rd l0 (Int.tmod a2 (l0.length:Int))) (wrap64 (100*a1))).bind fun t307=>(some t307)) else (none)) else (none))) else (some 0)))
set_option maxHeartbeats 8000000 in
set_option maxRecDepth 100000 in
theorem impl_ReadSensor.calls (A0:Option Addr) (c0:Nat) (l0:List Int) (a1:Int) (a2:Int) (r:Int) (w:World) (hr0:Kd.C (Kd.int .i64) w A0 l0.length l0) (hc0:l0.length≤c0) (h:impl_ReadSensor.f l0 a1 a2=some r):
  Calls Try.prog 38 #[.slice A0 l0.length c0,.int .i64 a1,.int .i64 a2] w fun e w'=>e= .returned (.int .i64 r)∧Drawn0 w w':=by
 have HR0:=Za hr0
 have HC0:=Za hc0
 clear hr0 hc0
 have H:(if (l0.length:Int)=0 then (some 0) else ((impl_isSensor.f a1).bind fun t305=>(if t305=true then (if a2<0 then (some 0) else (if 0≤(Int.tmod a2 (l0.length:Int)) then (if (Int.tmod a2 (l0.length:Int))<(l0.length:Int) then ((impl_AddValues.f (rd l0 (Int.tmod a2 (l0.length:Int))) (wrap64 (100*a1))).bind fun t307=>(some t307)) else (none)) else (none))) else (some 0))))=some r:=h
 clear h
 by_cases c4:(l0.length:Int)=0
 ·rw[if_pos c4] at H
  have c4b0:((l0.length:Int)==0)=true:=beq_iff_eq.mpr c4
  have c4b1:((l0.length:Int) != 0)=false:=bne_eq_false_iff_eq.mpr c4
  clear c4
  obtain rfl:=Zj H
  go_enter Try.func38,Try.ntmps38
  go_wp2
  go_ret
  exact⟨by first|rfl|(simp;done)|(simp[*];done),by repeat(first|exact Zu _|apply Zv)⟩
 ·rw[if_neg c4] at H
  have c4b0:((l0.length:Int)==0)=false:=beq_eq_false_iff_ne.mpr c4
  have c4b1:((l0.length:Int) != 0)=true:=bne_iff_ne.mpr c4
  have c4b2:¬(l0=[]):=fun h_=>c4 (by rw[h_];rfl)
  replace H:=Zl H
  obtain⟨t305,A50,H⟩:=H
  replace H:(if t305=true then (if a2<0 then (some 0) else (if 0≤(Int.tmod a2 (l0.length:Int)) then (if (Int.tmod a2 (l0.length:Int))<(l0.length:Int) then ((impl_AddValues.f (rd l0 (Int.tmod a2 (l0.length:Int))) (wrap64 (100*a1))).bind fun t307=>(some t307)) else (none)) else (none))) else (some 0))=some r:=H
  have A5:=Za A50
  clear A50
  by_cases c6:t305=true
  ·subst c6
   rw[if_pos rfl] at H
   by_cases c7:a2<0
   ·rw[if_pos c7] at H
    have c7b0:decide (a2<0)=true:=Zt c7
    clear c7
    obtain rfl:=Zj H
    go_enter Try.func38,Try.ntmps38
    go_wp2_with (first|(go_at_call 61;(with_reducible refine(impl_isSensor.calls a1 true _ A5.out).mono ?_);rintro e w' ⟨rfl,⟨nd,rfl⟩⟩))
    go_ret
    exact⟨by first|rfl|(simp;done)|(simp[*];done),by repeat(first|exact Zu _|apply Zv)⟩
   ·rw[if_neg c7] at H
    have c7b0:decide (a2<0)=false:=Yc c7
    clear c7
    obtain⟨ji8,hji8⟩:∃j_:Int,(Int.tmod a2 (l0.length:Int))=j_:=⟨_,rfl⟩
    replace H:(if 0≤(ji8) then (if (ji8)<(l0.length:Int) then ((impl_AddValues.f (rd l0 (ji8)) (wrap64 (100*a1))).bind fun t307=>(some t307)) else (none)) else (none))=some r:=by first|(rw[hji8] at H;exact H)|(simp only[hji8] at H ⊢;exact H)
    (try rw[hji8] at A5)
    by_cases c9:0≤(ji8)
    ·rw[if_pos c9] at H
     have c9b0:decide (0≤(ji8))=true:=Zt c9
     clear c9
     by_cases c10:(ji8)<(l0.length:Int)
     ·rw[if_pos c10] at H
      have c10b0:decide ((ji8)<(l0.length:Int))=true:=Zt c10
      clear c10
      replace H:=Zl H
      obtain⟨t307,A110,H⟩:=H
      replace H:(some t307)=some r:=H
      have A11:=Za A110
      clear A110
      obtain rfl:=Zj H
      go_enter Try.func38,Try.ntmps38
      go_wp2_with (first|(go_at_call 61;(with_reducible refine(impl_isSensor.calls a1 true _ A5.out).mono ?_);rintro e w' ⟨rfl,⟨nd,rfl⟩⟩;have p306:0≤((ji8):Int):=Zs z10_3;have q306:(ji8)<(l0.length:Int):=Zs z10_3;obtain⟨ad306,e306,hx306_0⟩:=Kd.at_int HR0.out (ji8) p306 q306;cases e306;replace p306:=eq_true p306;replace q306:=eq_true q306)|((first|((with_reducible refine gate_callee (f:=62) rfl ?_);refine goesL_ (some 28) rfl rfl Try.func62 z10_2 rfl #[.int .i64 (rd l0 (ji8)),.int .i64 (wrap64 (100*a1))] rfl (by(try simp only[Yn,List.map_cons,List.map_nil]);first|done|(simp only[hji8];rfl)|rfl|(simp only[List.length_drop,List.length_take];rfl)) ?_;(with_reducible refine(impl_AddValues.calls (rd l0 (ji8)) (wrap64 (100*a1)) t307 _ A11.out).mono ?_))|(go_at_call 62;(with_reducible refine(impl_AddValues.calls (rd l0 (ji8)) (wrap64 (100*a1)) t307 _ A11.out).mono ?_)));rintro e w' ⟨rfl,⟨nd,rfl⟩⟩;(first|refine⟨_,rfl,?_⟩|skip)))
      go_ret
      exact⟨by first|rfl|(simp;done)|(simp only[←hji8]<;>(first|rfl|simp))|(simp[*];done),by repeat(first|exact Zu _|apply Zv)⟩
     ·rw[if_neg c10] at H
      exact absurd H (by simp)
    ·rw[if_neg c9] at H
     exact absurd H (by simp)
  ·replace c6:=Bool.eq_false_iff.mpr c6
   subst c6
   rw[if_neg (show ¬(false=true) by decide)] at H
   obtain rfl:=Zj H
   go_enter Try.func38,Try.ntmps38
   go_wp2_with (first|(go_at_call 61;(with_reducible refine(impl_isSensor.calls a1 false _ A5.out).mono ?_);rintro e w' ⟨rfl,⟨nd,rfl⟩⟩))
   go_ret
   exact⟨by first|rfl|(simp;done)|(simp[*];done),by repeat(first|exact Zu _|apply Zv)⟩
-- NOT PRINTED: function 37 (impl_SensesOf_1)
def liveS (l3:List Int) (at_:Int) (z:List Int) (n m:Int):Option (List Int×Int):=(impl_ReadSensor.f l3 m (wrap64 (at_+n))).bind fun y=>if z.length<17592186044415∧0≤n∧n<(z.length:Int)+1 then some (z++[y],rd (z++[y]) n) else none
def liveP (w0:World) (A3:Option Addr) (n3 c3:Nat) (at_:Int) (gq gr ga:Nat) (z:List Int):Sep.Asn:=fun F w=>∃v:Value,(w.heap[gq]? =some (.cells #[v] 25 (0,0))∧w.heap[gr]? =some (.cells #[.slice A3 n3 c3] 25 (0,0))∧w.heap[ga]? =some (.cells #[.int .i64 at_] 3 (0,0)))∧Sep.rowI 3 w v z∧
 (v.ownBlock≠some gq∧v.ownBlock≠some gr∧v.ownBlock≠some ga∧gq≠gr∧gq≠ga∧w0.heap.size≤gq∧w0.heap.size≤gr∧w0.heap.size≤ga∧∀k,v.ownBlock=some k→w0.heap.size≤k)∧(∀k,F k↔k=gq∨k=gr∨k=ga∨v.ownBlock=some k)∧∀k,k<w0.heap.size→w.heap[k]? =w0.heap[k]?
theorem liveP_loc (w0:World) (A3:Option Addr) (n3 c3:Nat) (at_:Int) (gq gr ga:Nat) (z:List Int):Sep.Loc w0.heap.size (liveP w0 A3 n3 c3 at_ gq gr ga z) where
 lt:=by
  rintro F w ⟨v,⟨h1,h2,h3⟩,h4,h5,hF,h6⟩ k hk
  rcases (hF k).1 hk with rfl|rfl|rfl|h
  ·exact⟨h5.2.2.2.2.2.1,blk_lt h1⟩
  ·exact⟨h5.2.2.2.2.2.2.1,blk_lt h2⟩
  ·exact⟨h5.2.2.2.2.2.2.2.1,blk_lt h3⟩
  ·exact⟨h5.2.2.2.2.2.2.2.2 k h,h4.lt k h⟩
 keep:=by
  rintro F w w' ⟨v,⟨h1,h2,h3⟩,h4,h5,hF,h6⟩ hB hs hk
  exact⟨v,⟨(hk gq (.inr ((hF _).2 (by simp)))).trans h1,(hk gr (.inr ((hF _).2 (by simp)))).trans h2,(hk ga (.inr ((hF _).2 (by simp)))).trans h3⟩,h4.keep (fun k h=>hk k (.inr ((hF k).2 (by simp[h])))),h5,hF,fun k h=>(hk k (.inl h)).trans (h6 k h)⟩
set_option maxHeartbeats 8000000 in
set_option maxRecDepth 100000 in
theorem liveS_calls (w0:World) (A3:Option Addr) (c3:Nat) (l3:List Int) (at_:Int) (gq gr ga:Nat) (hr3:Kd.C (Kd.int .i64) w0 A3 l3.length l3) (hc3:l3.length≤c3) (z:List Int) (n m:Int) (z':List Int) (y':Int) (F:Nat→Prop) (w:World) (hs:liveS l3 at_ z n m=some (z',y')) (hi:liveP w0 A3 l3.length c3 at_ gq gr ga z F w):
  Calls Try.prog 37 (#[.int .i64 n,.int .i64 m]++ #[.pointer (some ⟨gq,0,none⟩),.pointer (some ⟨gr,0,none⟩),.pointer (some ⟨ga,0,none⟩)]) w fun e w'=>e= .returned (.int .i64 y')∧∃F',liveP w0 A3 l3.length c3 at_ gq gr ga z' F' w'∧Sep.After F w F' w':=by
 obtain⟨y,h1,h2⟩:=Zl hs
 by_cases c:z.length<17592186044415∧0≤n∧n<(z.length:Int)+1
 ·rw[if_pos c] at h2
  cases h2
  obtain⟨v,⟨i1,i2,i3⟩,i4,i5,iF,i6⟩:=hi
  obtain⟨A0,c0,e0,hc0,hC0⟩:=i4.open_
  subst e0
  have H1:=Za h1
  have BQ:=Za i1
  have BR:=Za i2
  have BA:=Za i3
  have RZ:=Za i4
  have NE:=Za i5
  have HF:=Za iF
  have OLD:=Za i6
  have HR3:=Za ((Kd.heap_int .i64).C i6 hr3)
  have HC3:=Za hc3
  have HL:=Za c.1
  have p1:=eq_true c.2.1
  have HN:=Za c.2.2
  clear hs h1 i1 i2 i3 i4 i5 iF i6 hr3 hc3 c hc0 hC0
  go_enter Try.func37,Try.ntmps37
  go_wp2
  refine start_ (n:=10) (S:=fun w'=>w'.cell? ⟨gq,0,none⟩=some (.slice A0 z.length c0)∧w'.cell? ⟨gr,0,none⟩=some (.slice A3 l3.length c3)∧w'.cell? ⟨ga,0,none⟩=some (.int .i64 at_)) (ds:=[9]) #[false,false,false,false,false,false,false,false,false,false] z10_2 rfl rfl ⟨(Zb (BQ.out) 0).trans rfl,(Zb (BR.out) 0).trans rfl,(Zb (BA.out) 0).trans rfl⟩ (fun hHeld=> ?_)
  refine pure_ (i:=2) (N:=some 10) (v:= ?_) (a':= ?_) #[false,false,true,false,false,false,false,false,false,false] rfl rfl z10_2 (fun _ _ _ h=>h) (Or.inl ⟨by rfl,?_⟩) ?_ ?_
  rotate_left
  ·intro w'
   go_simp
   with_reducible rfl
  rotate_left
  ·simp only[Act.put,Zm,Zn,Zo,i64_w,i32_w]
   rfl
  refine pure_ (i:=4) (N:=some 12) (v:= ?_) (a':= ?_) #[false,false,true,false,true,false,false,false,false,false] rfl rfl z10_2 (fun _ _ _ h=>h) (Or.inl ⟨by rfl,?_⟩) ?_ ?_
  rotate_left
  ·intro w'
   go_simp
   with_reducible rfl
  rotate_left
  ·simp only[Act.put,Zm,Zn,Zo,i64_w,i32_w]
   rfl
  refine take_ (i:=0) (N:=some 8) (v:= ?_) (a':= ?_) #[true,false,true,false,true,false,false,false,false,false] rfl rfl z10_2 (fun _ _ _ h=>h) (Or.inl ⟨by rfl,?_⟩) hHeld ?_ ?_
  rotate_left
  ·intro w' s0
   obtain⟨_,_,_⟩:=s0
   go_simp
   with_reducible rfl
  rotate_left
  ·simp only[Act.put,Zm,Zn,Zo,i64_w,i32_w]
   rfl
  refine take_ (i:=1) (N:=some 9) (v:= ?_) (a':= ?_) #[true,true,true,false,true,false,false,false,false,false] rfl rfl z10_2 (fun _ _ _ h=>h) (Or.inl ⟨by rfl,?_⟩) hHeld ?_ ?_
  rotate_left
  ·intro w' s0
   obtain⟨_,_,_⟩:=s0
   go_simp
   with_reducible rfl
  rotate_left
  ·simp only[Act.put,Zm,Zn,Zo,i64_w,i32_w]
   rfl
  refine take_ (i:=3) (N:=some 11) (v:= ?_) (a':= ?_) #[true,true,true,true,true,false,false,false,false,false] rfl rfl z10_2 (fun _ _ _ h=>h) (Or.inl ⟨by rfl,?_⟩) hHeld ?_ ?_
  rotate_left
  ·intro w' s0
   obtain⟨_,_,_⟩:=s0
   go_simp
   with_reducible rfl
  rotate_left
  ·simp only[Act.put,Zm,Zn,Zo,i64_w,i32_w]
   rfl
  refine pure_ (i:=5) (N:=some 13) (v:= ?_) (a':= ?_) #[true,true,true,true,true,true,false,false,false,false] rfl rfl z10_2 (fun _ _ _ h=>h) (Or.inl ⟨by rfl,?_⟩) ?_ ?_
  rotate_left
  ·intro w'
   go_simp
   with_reducible rfl
  rotate_left
  ·simp only[Act.put,Zm,Zn,Zo,i64_w,i32_w]
   rfl
  refine one_ (i:=6) (N:=some 14) #[true,true,true,true,true,true,true,false,false,false] rfl rfl z10_2 (by decide) (fun K hK=> ?_)
  refine goes_ Try.func38 z10_2 rfl #[.slice A3 l3.length c3,.int .i64 m,.int .i64 (wrap64 (at_+n))] (by rfl) rfl rfl (by(try simp only[Yn,List.map_cons,List.map_nil]);first|done|rfl) ?_
  refine(impl_ReadSensor.calls A3 c3 l3 m (wrap64 (at_+n)) y w.drew HR3.out HC3.out H1.out).mono ?_
  rintro e w' ⟨rfl,⟨nd,rfl⟩⟩
  refine⟨_,rfl,?_⟩
  refine hK _ _ ⟨(Zb (BQ.out) 0).trans rfl,(Zb (BR.out) 0).trans rfl,(Zb (BA.out) 0).trans rfl⟩ (fun hHeld=> ?_)
  clear hK K
  refine norm_ (a':= ?_) ?_ ?_
  rotate_left
  ·show Act.put _ (some 14) _=_
   simp only[Act.put,Zm,Zn,Zo,i64_w,i32_w]
   rfl
  refine one_ (i:=7) (N:=some 15) #[true,true,true,true,true,true,true,true,false,false] rfl rfl z10_2 (by decide) (fun K hK=> ?_)
  refine value_ (w1:= ?_) (v:= ?_) (by rfl) rfl ?_ ?_
  rotate_left 2
  ·go_simp
   constructor
   ·rfl
   ·rfl
  refine hK _ _ ⟨(Zb (blk_alloc (w:=w.drew.drewN nd) BQ.out _) 0).trans rfl,(Zb (blk_alloc (w:=w.drew.drewN nd) BR.out _) 0).trans rfl,(Zb (blk_alloc (w:=w.drew.drewN nd) BA.out _) 0).trans rfl⟩ (fun hHeld=> ?_)
  clear hK K
  refine norm_ (a':= ?_) ?_ ?_
  rotate_left
  ·show Act.put _ (some 15) _=_
   simp only[Act.put,Zm,Zn,Zo,i64_w,i32_w]
   rfl
  refine one_ (i:=8) (N:=some 16) #[true,true,true,true,true,true,true,true,true,false] rfl rfl z10_2 (by decide) (fun K hK=> ?_)
  refine Kd.R_append_step (w0:=w) (Kd.int .i64) 0 (by rfl) (.tmp 8) (.tmp 15) 25 3 (.int .i64 0) 8 rfl Try.underlying25 info3 rfl (by decide) (by decide) (.slice A0 z.length c0) z y [.int .i64 y] (fun _=>True) (fun _=>False) rfl rfl rfl (fun _ hk=>hk.elim) (fun _ _=>trivial) (RZ.out.to_R (fun _ _=>Nat.zero_le _) (fun _ _=>trivial)) (by repeat(first|exact Ya _ _|apply Ze|apply Zd)) (Nat.zero_le _) (by have:=HL.out;omega) ?_
  intro v1 w5 ho5 hb5 hg5 hat5
  obtain⟨B5,d5,e5⟩:=Kd.R_slice ho5
  rw[List.length_append,List.length_singleton] at e5
  subst e5
  have R5:=Za (Sep.rowI.of_R ho5)
  have HG5:Aside0 (w.grownBy w5 (Value.slice A0 z.length c0).ownBlock):=⟨⟨hg5.os,hg5.tape,hg5.output,hg5.size,hg5.block⟩⟩
  have HA5:Aside0 ((Value.slice B5 (z.length+1) d5).ownBlock=(Value.slice A0 z.length c0).ownBlock∨∃b,(Value.slice B5 (z.length+1) d5).ownBlock=some b∧w.heap.size≤b):=⟨hat5⟩
  have BQ5:=Za (blk_grown (w:=w) BQ.out HG5.out (fun h=>NE.out.1 h.symm))
  have BR5:=Za (blk_grown (w:=w) BR.out HG5.out (fun h=>NE.out.2.1 h.symm))
  have BA5:=Za (blk_grown (w:=w) BA.out HG5.out (fun h=>NE.out.2.2.1 h.symm))
  clear ho5 hb5 hg5 hat5
  refine hK _ _ ⟨(Zb (BQ5.out) 0).trans rfl,(Zb (BR5.out) 0).trans rfl,(Zb (BA5.out) 0).trans rfl⟩ (fun hHeld=> ?_)
  clear hK K
  refine norm_ (a':= ?_) ?_ ?_
  rotate_left
  ·show Act.put _ (some 16) _=_
   simp only[Act.put,Zm,Zn,Zo,i64_w,i32_w]
   rfl
  refine last_ (i:=9) (N:=none) #[true,true,true,true,true,true,true,true,true,true] rfl rfl z10_2 (by decide) (fun K hK=> ?_)
  have hQ5:w5.cell? ⟨gq,0,none⟩=some (.slice A0 z.length c0):=(Zb BQ5.out 0).trans rfl
  have hfQ:=Zc BQ5.out 0
  refine skip_ (w1:= ?_) (by rfl) rfl ?_ ?_
  rotate_left
  ·go_simp
   rfl
  refine hK _ _ ?_
  clear hK K
  refine done_ z10_2 ?_
  have R6:Aside0 (Sep.rowI 3 (w5.setCell ⟨gq,0,none⟩ (.slice B5 (z.length+1) d5)) (.slice B5 (z.length+1) d5) (z++[y])):=⟨R5.out.keep (fun k hk=>Below.heap_setCell _ _ _ k (R5.out.ne BQ5.out (by decide) k hk))⟩
  have BQ6:Aside0 ((w5.setCell ⟨gq,0,none⟩ (.slice B5 (z.length+1) d5)).heap[gq]? =some (.cells #[.slice B5 (z.length+1) d5] 25 (0,0))):=⟨blk_put BQ5.out 0 _ rfl⟩
  have FAR:Aside0 (∀k,k≠gq→(w5.setCell ⟨gq,0,none⟩ (.slice B5 (z.length+1) d5)).heap[k]? =w5.heap[k]?):=⟨fun k hk=>Below.heap_setCell _ _ _ k hk⟩
  have IO:Aside0 ((w5.setCell ⟨gq,0,none⟩ (.slice B5 (z.length+1) d5)).os=w.os∧(w5.setCell ⟨gq,0,none⟩ (.slice B5 (z.length+1) d5)).tape=w.tape∧(w5.setCell ⟨gq,0,none⟩ (.slice B5 (z.length+1) d5)).output=w.output∧w.heap.size≤(w5.setCell ⟨gq,0,none⟩ (.slice B5 (z.length+1) d5)).heap.size):=⟨HG5.out.os,HG5.out.tape,HG5.out.output,by have:=HG5.out.size;simp only[World.setCell,Array.size_modify];exact this⟩
  generalize w5.setCell ⟨gq,0,none⟩ (.slice B5 (z.length+1) d5)=w6 at*
  obtain⟨g5,e1,-,hcell,-,-⟩:=R6.out.at_ n (of_eq_true p1) (by rw[List.length_append,List.length_singleton];have:=HN.out;push_cast;omega)
  subst e1
  have hQ6:w6.cell? ⟨gq,0,none⟩=some (.slice (some ⟨g5,0,none⟩) (z.length+1) d5):=(Zb BQ6.out 0).trans rfl
  have p2:(n<(z.length:Int)+1)=True:=eq_true HN.out
  clear hHeld
  go_wp2
  go_ret
  have LT:w0.heap.size≤w.heap.size:=Nat.le_trans NE.out.2.2.2.2.2.1 (Nat.le_of_lt (blk_lt BQ.out))
  have BR6:w6.heap[gr]? =some (.cells #[.slice A3 l3.length c3] 25 (0,0)):=(FAR.out gr (fun h=>NE.out.2.2.2.1 h.symm)).trans BR5.out
  have BA6:w6.heap[ga]? =some (.cells #[.int .i64 at_] 3 (0,0)):=(FAR.out ga (fun h=>NE.out.2.2.2.2.1 h.symm)).trans BA5.out
  have HK:∀k,k<w.heap.size→k≠gq→(Value.slice A0 z.length c0).ownBlock≠some k→w6.heap[k]? =w.heap[k]? :=fun k hk h1 h2=>(FAR.out k h1).trans (HG5.out.block k hk (fun h=>h2 h.symm))
  have FR:∀k,(Value.slice (some ⟨g5,0,none⟩) (z.length+1) d5).ownBlock=some k→(Value.slice A0 z.length c0).ownBlock=some k∨w.heap.size≤k:=fun k hk=>HA5.out.elim (fun h=> .inl (h.symm.trans hk)) (fun h=>by
   obtain⟨b,h1,h2⟩:=h
   rw[hk] at h1
   cases h1
   exact .inr h2)
  have fresh:∀g,g<w.heap.size→(Value.slice A0 z.length c0).ownBlock≠some g→(Value.slice (some ⟨g5,0,none⟩) (z.length+1) d5).ownBlock≠some g:=fun g hg h1 h2=>(FR g h2).elim h1 (fun h=>by omega)
  refine⟨rfl,fun k=>k=gq∨k=gr∨k=ga∨(Value.slice (some ⟨g5,0,none⟩) (z.length+1) d5).ownBlock=some k,⟨_,⟨BQ6.out,BR6,BA6⟩,R6.out,⟨fresh gq (blk_lt BQ.out) NE.out.1,fresh gr (blk_lt BR.out) NE.out.2.1,fresh ga (blk_lt BA.out) NE.out.2.2.1,NE.out.2.2.2.1,NE.out.2.2.2.2.1,NE.out.2.2.2.2.2.1,NE.out.2.2.2.2.2.2.1,NE.out.2.2.2.2.2.2.2.1,fun k hk=>(FR k hk).elim (NE.out.2.2.2.2.2.2.2.2 k) (fun h=>Nat.le_trans LT h)⟩,fun k=>Iff.rfl,fun k hk=> ?_⟩,⟨IO.out.2.2.2,fun k hk hn=> ?_⟩,fun k hk=> ?_,IO.out.1,IO.out.2.1,IO.out.2.2.1⟩
  ·rw[HK k (Nat.lt_of_lt_of_le hk LT) (fun h=>by have:=NE.out.2.2.2.2.2.1;omega) (fun h=>by have:=NE.out.2.2.2.2.2.2.2.2 k h;omega)]
   exact OLD.out k hk
  ·exact HK k hk (fun h=>hn ((HF.out k).2 (.inl h))) (fun h=>hn ((HF.out k).2 (.inr (.inr (.inr h)))))
  ·rcases hk with h|h|h|h
   ·exact .inl ((HF.out k).2 (.inl h))
   ·exact .inl ((HF.out k).2 (.inr (.inl h)))
   ·exact .inl ((HF.out k).2 (.inr (.inr (.inl h))))
   ·exact(FR k h).imp (fun h1=>(HF.out k).2 (.inr (.inr (.inr h1)))) id
 ·rw[if_neg c] at h2
  cases h2
def impl_SensesOf.f (k:Nat) (l0_0:List S64) (a1:Int) (l2:List Int) (l3:List Int) (a4:Int):Option (List Int):=
 (impl_hasTask.f k l0_0 a1).bind fun t=>if t=true then (impl_VarsOk.f l2).bind fun t=>if t=true then (impl_isReading.f l3 a4).bind fun t=>if t=true then (impl_effect.f (liveS l3 a4) k l0_0 a1 l2 []).bind fun r=>some r.2
  else some [] else some [] else some []
set_option maxHeartbeats 8000000 in
set_option maxRecDepth 100000 in
theorem impl_SensesOf.no (k:Nat) (A0_0:Option Addr) (c0_0:Nat) (l0_0:List S64) (a1:Int) (A2:Option Addr) (c2:Nat) (l2:List Int) (A3:Option Addr) (c3:Nat) (l3:List Int) (a4:Int) (b1 b2 b3:Bool) (w:World)
  (hr0_0:Kd.C k64 w A0_0 l0_0.length l0_0) (hc0_0:l0_0.length≤c0_0) (hr2:Kd.C (Kd.int .i64) w A2 l2.length l2) (hc2:l2.length≤c2) (hr3:Kd.C (Kd.int .i64) w A3 l3.length l3) (hc3:l3.length≤c3)
  (h1:impl_hasTask.f k l0_0 a1=some b1) (h2:b1=true→impl_VarsOk.f l2=some b2) (h3:b1=true→b2=true→impl_isReading.f l3 a4=some b3) (hn:(b1&&b2&&b3)=false):
  Calls Try.prog 18 #[.agg #[.slice A0_0 l0_0.length c0_0],.int .i64 a1,.slice A2 l2.length c2,.slice A3 l3.length c3,.int .i64 a4] w fun e w'=>e= .returned (.slice none 0 0)∧Below w.heap.size w w':=by
 have HR0:=Za hr0_0
 have HC0:=Za hc0_0
 have HR2:=Za hr2
 have HC2:=Za hc2
 have HR3:=Za hr3
 have HC3:=Za hc3
 have T1:=Za h1
 have T2:=Za h2
 have T3:=Za h3
 clear hr0_0 hc0_0 hr2 hc2 hr3 hc3 h1 h2 h3
 cases b1<;>cases b2<;>cases b3<;>first|exact absurd hn (by decide)|skip
 all_goals
  clear hn
  go_enter Try.func18,Try.ntmps18
  go_wp2_with (first|((with_reducible refine Zp (N:=5) rfl ?_);refine Zr ?hg (N:=5) ?hd (cs:= #[.slice A0_0 l0_0.length c0_0]) (t:=33) ?hr ?_;(case hd=>rfl);(case hg=>rfl);(case hr=>exact z10_0);intro gp hgp w1 hp hb1;have HB1:=Za hb1;have BP1:=Za hp;clear hgp hp hb1)|((with_reducible refine Zp (N:=8) rfl ?_);refine Zr ?hg (N:=8) ?hd (cs:= #[.slice A3 l3.length c3]) (t:=25) ?hr ?_;(case hd=>rfl);(case hg=>rfl);(case hr=>exact z10_0);intro gr hgr w2 hr hb2;have HB2:=Za (Zi HB1.out hb2);have BP2:=Za (Zk BP1.out hb2);have BR2:=Za hr;have GR:Aside0 (w.heap.size≤gr):=⟨by rw[hgr];exact HB1.out.size⟩;clear hgr hr hb2)|((with_reducible refine Zp (N:=9) rfl ?_);refine Zr ?hg (N:=9) ?hd (cs:= #[.int .i64 a4]) (t:=3) ?hr ?_;(case hd=>rfl);(case hg=>rfl);(case hr=>exact z10_0);intro ga hga w3 ha hb3;have HB3:=Za (Zi HB2.out hb3);have BP3:=Za (Zk BP2.out hb3);have BR3:=Za (Zk BR2.out hb3);have BA3:=Za ha;have GA:Aside0 (w.heap.size≤ga):=⟨by rw[hga];exact HB2.out.size⟩;clear hga ha hb3;have hP3:w3.cell? ⟨gp,0,none⟩=some (.slice A0_0 l0_0.length c0_0):=(Zb BP3.out 0).trans rfl;have hR3:w3.cell? ⟨gr,0,none⟩=some (.slice A3 l3.length c3):=(Zb BR3.out 0).trans rfl;have hA3:w3.cell? ⟨ga,0,none⟩=some (.int .i64 a4):=(Zb BA3.out 0).trans rfl)|(go_at_call 27;(with_reducible refine(impl_hasTask.calls k _ _ l0_0 a1 _ _ ?_ HC0.out T1.out).mono ?_);(exact Yb HR0.out HB3.out);rintro e w4 ⟨rfl,hb4⟩;have HB4:=Za (Zi HB3.out hb4);have BP4:=Za (Zk BP3.out hb4);have BR4:=Za (Zk BR3.out hb4);have BA4:=Za (Zk BA3.out hb4);clear hb4;have hP4:w4.cell? ⟨gp,0,none⟩=some (.slice A0_0 l0_0.length c0_0):=(Zb BP4.out 0).trans rfl;have hR4:w4.cell? ⟨gr,0,none⟩=some (.slice A3 l3.length c3):=(Zb BR4.out 0).trans rfl;have hA4:w4.cell? ⟨ga,0,none⟩=some (.int .i64 a4):=(Zb BA4.out 0).trans rfl)|(go_at_call 28;(with_reducible refine(impl_VarsOk.calls _ _ l2 _ _ ?_ HC2.out (T2.out (by simp))).mono ?_);(exact Yb HR2.out HB4.out);rintro e w' ⟨rfl,⟨nd,rfl⟩⟩)|(go_at_call 36;(with_reducible refine(impl_isReading.calls _ _ l3 a4 _ _ ?_ HC3.out (T3.out (by simp) (by simp))).mono ?_);(exact Yb HR3.out (by repeat(first|exact HB4.out|apply Ze|apply Zd)));rintro e w' ⟨rfl,⟨nd2,rfl⟩⟩)|fail)
  go_ret
  exact⟨rfl,by repeat(first|exact HB4.out|apply Ze|apply Zd)⟩
set_option maxHeartbeats 8000000 in
set_option maxRecDepth 100000 in
theorem impl_SensesOf.calls (k:Nat) (A0_0:Option Addr) (c0_0:Nat) (l0_0:List S64) (a1:Int) (A2:Option Addr) (c2:Nat) (l2:List Int) (A3:Option Addr) (c3:Nat) (l3:List Int) (a4:Int) (r:List Int) (w:World)
  (hr0_0:Kd.C k64 w A0_0 l0_0.length l0_0) (hc0_0:l0_0.length≤c0_0) (hr2:Kd.C (Kd.int .i64) w A2 l2.length l2) (hc2:l2.length≤c2) (hr3:Kd.C (Kd.int .i64) w A3 l3.length l3) (hc3:l3.length≤c3) (h:impl_SensesOf.f k l0_0 a1 l2 l3 a4=some r):
  Calls Try.prog 18 #[.agg #[.slice A0_0 l0_0.length c0_0],.int .i64 a1,.slice A2 l2.length c2,.slice A3 l3.length c3,.int .i64 a4] w fun e w'=>∃v0_:Value,e= .returned (v0_)∧Kd.R (Kd.int .i64) 3 w' w.heap.size (fun _=>True) v0_ r∧Below w.heap.size w w':=by
 have no:∀(b1 b2 b3:Bool),impl_hasTask.f k l0_0 a1=some b1→(b1=true→impl_VarsOk.f l2=some b2)→(b1=true→b2=true→impl_isReading.f l3 a4=some b3)→(b1&&b2&&b3)=false→some ([]:List Int)=some r→
   Calls Try.prog 18 #[.agg #[.slice A0_0 l0_0.length c0_0],.int .i64 a1,.slice A2 l2.length c2,.slice A3 l3.length c3,.int .i64 a4] w fun e w'=>∃v0_:Value,e= .returned (v0_)∧Kd.R (Kd.int .i64) 3 w' w.heap.size (fun _=>True) v0_ r∧Below w.heap.size w w':=fun b1 b2 b3 h1 h2 h3 hn e=>by
  obtain rfl:=Zj e
  refine(impl_SensesOf.no k A0_0 c0_0 l0_0 a1 A2 c2 l2 A3 c3 l3 a4 b1 b2 b3 w hr0_0 hc0_0 hr2 hc2 hr3 hc3 h1 h2 h3 hn).mono ?_
  rintro e w' ⟨rfl,hb⟩
  exact⟨_,rfl,Kd.R_nil _ _ _ _ _,hb⟩
 unfold impl_SensesOf.f at h
 obtain⟨t1,h1,h⟩:=Zl h
 cases t1 with
 |false=>exact no false false false h1 (by simp) (by simp) rfl h
 |true=>
  rw[if_pos rfl] at h
  obtain⟨t2,h2,h⟩:=Zl h
  cases t2 with
  |false=>exact no true false false h1 (fun _=>h2) (by simp) rfl h
  |true=>
   rw[if_pos rfl] at h
   obtain⟨t3,h3,h⟩:=Zl h
   cases t3 with
   |false=>exact no true true false h1 (fun _=>h2) (fun _ _=>h3) rfl h
   |true=>
    rw[if_pos rfl] at h
    obtain⟨⟨⟨s1,s2,s3,s4⟩,s5⟩,h4,h5⟩:=Zl h
    obtain rfl:=Zj h5
    have HR0:=Za hr0_0
    have HC0:=Za hc0_0
    have HR2:=Za hr2
    have HC2:=Za hc2
    have HR3:=Za hr3
    have HC3:=Za hc3
    have T1:=Za h1
    have T2:=Za (fun _:true=true=>h2)
    have T3:=Za (fun _ _:true=true=>h3)
    have H4:=Za h4
    clear h h4 h5 no hr0_0 hc0_0 hr2 hc2 hr3 hc3 h1 h2 h3
    go_enter Try.func18,Try.ntmps18
    go_wp2_with (first|((with_reducible refine Zp (N:=5) rfl ?_);refine Zr ?hg (N:=5) ?hd (cs:= #[.slice A0_0 l0_0.length c0_0]) (t:=33) ?hr ?_;(case hd=>rfl);(case hg=>rfl);(case hr=>exact z10_0);intro gp hgp w1 hp hb1;have HB1:=Za hb1;have BP1:=Za hp;clear hgp hp hb1)|((with_reducible refine Zp (N:=8) rfl ?_);refine Zr ?hg (N:=8) ?hd (cs:= #[.slice A3 l3.length c3]) (t:=25) ?hr ?_;(case hd=>rfl);(case hg=>rfl);(case hr=>exact z10_0);intro gr hgr w2 hr hb2;have HB2:=Za (Zi HB1.out hb2);have BP2:=Za (Zk BP1.out hb2);have BR2:=Za hr;have GR:Aside0 (w.heap.size≤gr):=⟨by rw[hgr];exact HB1.out.size⟩;clear hgr hr hb2)|((with_reducible refine Zp (N:=9) rfl ?_);refine Zr ?hg (N:=9) ?hd (cs:= #[.int .i64 a4]) (t:=3) ?hr ?_;(case hd=>rfl);(case hg=>rfl);(case hr=>exact z10_0);intro ga hga w3 ha hb3;have HB3:=Za (Zi HB2.out hb3);have BP3:=Za (Zk BP2.out hb3);have BR3:=Za (Zk BR2.out hb3);have BA3:=Za ha;have GA:Aside0 (w.heap.size≤ga):=⟨by rw[hga];exact HB2.out.size⟩;clear hga ha hb3;have hP3:w3.cell? ⟨gp,0,none⟩=some (.slice A0_0 l0_0.length c0_0):=(Zb BP3.out 0).trans rfl;have hR3:w3.cell? ⟨gr,0,none⟩=some (.slice A3 l3.length c3):=(Zb BR3.out 0).trans rfl;have hA3:w3.cell? ⟨ga,0,none⟩=some (.int .i64 a4):=(Zb BA3.out 0).trans rfl)|(go_at_call 27;(with_reducible refine(impl_hasTask.calls k _ _ l0_0 a1 _ _ ?_ HC0.out T1.out).mono ?_);(exact Yb HR0.out HB3.out);rintro e w4 ⟨rfl,hb4⟩;have HB4:=Za (Zi HB3.out hb4);have BP4:=Za (Zk BP3.out hb4);have BR4:=Za (Zk BR3.out hb4);have BA4:=Za (Zk BA3.out hb4);clear hb4;have hP4:w4.cell? ⟨gp,0,none⟩=some (.slice A0_0 l0_0.length c0_0):=(Zb BP4.out 0).trans rfl;have hR4:w4.cell? ⟨gr,0,none⟩=some (.slice A3 l3.length c3):=(Zb BR4.out 0).trans rfl;have hA4:w4.cell? ⟨ga,0,none⟩=some (.int .i64 a4):=(Zb BA4.out 0).trans rfl)|(go_at_call 28;(with_reducible refine(impl_VarsOk.calls _ _ l2 _ _ ?_ HC2.out (T2.out (by simp))).mono ?_);(exact Yb HR2.out HB4.out);rintro e w' ⟨rfl,⟨nd,rfl⟩⟩)|(go_at_call 36;(with_reducible refine(impl_isReading.calls _ _ l3 a4 _ _ ?_ HC3.out (T3.out (by simp) (by simp))).mono ?_);(exact Yb HR3.out (by repeat(first|exact HB4.out|apply Ze|apply Zd)));rintro e w' ⟨rfl,⟨nd2,rfl⟩⟩)|((with_reducible refine Zp (N:=11) rfl ?_);refine Zr ?hg (N:=11) ?hd (cs:= #[.slice none 0 0]) (t:=25) ?hr ?_;(case hd=>rfl);(case hg=>rfl);(case hr=>exact z10_0);intro gq hgq w7 hq hb7;have HB7:Aside0 (Below w4.heap.size w4 w7):=⟨Zi (by repeat(first|exact Ya _ _|apply Ze|apply Zd|apply Zh)) hb7⟩;have BQ7:=Za hq;have GQ:Aside0 (w4.heap.size+1≤gq):=⟨by rw[hgq];simp[World.alloc]⟩;have BN7:Aside0 (w7.heap[w4.heap.size]? =some (.cells #[] 3 (0,0))):=⟨by have h_:=Zk (blk_new (w4.drewN (nd+nd2)) (.cells #[] 3 (0,0))) hb7;exact h_⟩;clear hgq hq hb7;have hQ7:w7.cell? ⟨gq,0,none⟩=some (.slice none 0 0):=(Zb BQ7.out 0).trans rfl;have hQf:=Zc BQ7.out 0;have hP7:w7.cell? ⟨gp,0,none⟩=some (.slice A0_0 l0_0.length c0_0):=(Zb (Zk BP4.out HB7.out) 0).trans rfl)|((with_reducible refine Yh (t:=25) (p:=11) rfl ?_);refine Yg (t:=25) (p:=11) (v:= ?vo1_) (w1:=w7.setCell ⟨gq,0,none⟩ (.slice (some ⟨w4.heap.size,0,none⟩) 0 0)) ?hg ?ho ?hn ?hr ?_;(case ho=>rfl);(case hg=>rfl);(case hn=>rfl);(case hr=>exact z10_0);intro w8 hw;have KW:Aside0 (∀k,k≠gq→w8.heap[k]? =w7.heap[k]?):=⟨by rw[hw];exact fun k hk=>Below.heap_setCell _ _ _ k hk⟩;have IO8:Aside0 (w8.os=w7.os∧w8.tape=w7.tape∧w8.output=w7.output∧w8.heap.size=w7.heap.size):=⟨by rw[hw];exact⟨rfl,rfl,rfl,by simp[World.setCell]⟩⟩;have BQ8:Aside0 (w8.heap[gq]? =some (.cells #[.slice (some ⟨w4.heap.size,0,none⟩) 0 0] 25 (0,0))):=⟨by rw[hw];exact blk_put BQ7.out 0 _ rfl⟩;clear hw;have hP8:w8.cell? ⟨gp,0,none⟩=some (.slice A0_0 l0_0.length c0_0):=(Zb ((KW.out gp (fun h=>by have:=blk_lt BP4.out;have:=GQ.out;omega)).trans (Zk BP4.out HB7.out)) 0).trans rfl)|fail)
    have LT:w.heap.size≤w4.heap.size:=HB4.out.size
    have L8:w4.heap.size≤w8.heap.size:=by rw[IO8.out.2.2.2];exact HB7.out.size
    have HB8:Aside0 (Below w.heap.size w w8):=⟨IO8.out.1.trans (HB7.out.os.trans HB4.out.os),IO8.out.2.1.trans (HB7.out.tape.trans HB4.out.tape),IO8.out.2.2.1.trans (HB7.out.output.trans HB4.out.output),Nat.le_trans LT L8,fun k hk=>(KW.out k (by have:=GQ.out;omega)).trans ((HB7.out.block k (by omega)).trans (HB4.out.block k hk))⟩
    have BR8:Aside0 (w8.heap[gr]? =some (.cells #[.slice A3 l3.length c3] 25 (0,0))):=⟨(KW.out gr (by have:=blk_lt BR4.out;have:=GQ.out;omega)).trans (Zk BR4.out HB7.out)⟩
    have BA8:Aside0 (w8.heap[ga]? =some (.cells #[.int .i64 a4] 3 (0,0))):=⟨(KW.out ga (by have:=blk_lt BA4.out;have:=GQ.out;omega)).trans (Zk BA4.out HB7.out)⟩
    have BN8:Aside0 (w8.heap[w4.heap.size]? =some (.cells #[] 3 (0,0))):=⟨(KW.out _ (by have:=GQ.out;omega)).trans BN7.out⟩
    have R8:Sep.rowI 3 w8 (.slice (some ⟨w4.heap.size,0,none⟩) 0 0) []:=Kd.R_of_own ⟨by simp[encs],.inr ⟨_,0,#[],rfl,Nat.zero_le _,BN8.out,Nat.le_refl _,Nat.zero_le _,by simp,by simp[encs]⟩⟩ (fun _ hk=>hk)
    have NE:gq≠gr∧gq≠ga∧w.heap.size≤gq∧w4.heap.size≠gq∧w4.heap.size≠gr∧w4.heap.size≠ga:=by
     have:=blk_lt BR4.out
     have:=blk_lt BA4.out
     have:=GQ.out
     omega
    have hj:liveP w A3 l3.length c3 a4 gq gr ga [] (fun k=>k=gq∨k=gr∨k=ga∨k=w4.heap.size) w8:=by
     refine⟨.slice (some ⟨w4.heap.size,0,none⟩) 0 0,⟨BQ8.out,BR8.out,BA8.out⟩,R8,⟨fun h=>NE.2.2.2.1 (Zj h),fun h=>NE.2.2.2.2.1 (Zj h),fun h=>NE.2.2.2.2.2 (Zj h),NE.1,NE.2.1,NE.2.2.1,GR.out,GA.out,?_⟩,?_,fun k hk=>HB8.out.block k hk⟩
     ·intro k h
      obtain rfl:=Zj h
      exact LT
     ·intro k
      show _↔k=gq∨k=gr∨k=ga∨some w4.heap.size=some k
      rw[Option.some.injEq,eq_comm (a:=w4.heap.size)]
    have hF:∀k,(k=gq∨k=gr∨k=ga∨k=w4.heap.size)→w.heap.size≤k:=by
     have:=GR.out
     have:=GA.out
     rintro k (rfl|rfl|rfl|rfl)
     ·exact NE.2.2.1
     ·exact GR.out
     ·exact GA.out
     ·exact LT
    refine(impl_effect.calls (liveS l3 a4) k (liveP w A3 l3.length c3 a4 gq gr ga) 37 _ (fun args w=>enters_ Try.func37 z10_2 z10_2 args w) w w8 (liveP_loc w A3 l3.length c3 a4 gq gr ga) (fun z n m z' y F w' _ hs hi=>liveS_calls w A3 c3 l3 a4 gq gr ga HR3.out HC3.out z n m z' y F w' hs hi) A0_0 c0_0 l0_0 a1 A2 c2 l2 [] s1 s2 s3 s4 s5 _ HB8.out HR0.out HC0.out HR2.out HC2.out hj H4.out).mono ?_
    rintro e w9 ⟨v0,v1,rfl,-,-,F',hJ',hA⟩
    have HB9:=Za (hA.to_below (w0:=w) hF HB8.out)
    obtain⟨v,⟨i1,_,_⟩,i4,i5,_,_⟩:=hJ'
    have R9:=Za i4
    have NE9:=Za i5.2.2.2.2.2.2.2.2
    have hQ9:w9.cell? ⟨gq,0,none⟩=some v:=(Zb i1 0).trans rfl
    clear hj hF NE R8 hA i1 i4 i5 LT L8
    obtain⟨A9,c9,e9,-,-⟩:=R9.out.open_
    subst e9
    go_wp2
    go_ret
    exact⟨_,rfl,R9.out.to_R NE9.out (fun _ _=>trivial),HB9.out⟩
def laws_heldIntS.l0:Nat→List Int→Int→Int→Option (Int)
 |0,_,_,_=>none
 |k+1,x0,x1,x5=>if x5<(x0.length:Int) then (if 0≤x5 then (if (rd x0 x5)=x1 then (laws_heldIntS.l0 k x0 (wrap64 (x1+1)) (wrap64 (x5+1))) else (some (-1))) else (none)) else (some x1)
def laws_heldIntS.f (k:Nat) (l0:List Int) (a1:Int):Option (Int):=laws_heldIntS.l0 k l0 a1 0
set_option maxHeartbeats 8000000 in
set_option maxRecDepth 100000 in
theorem laws_heldIntS.calls (k:Nat) (A0:Option Addr) (c0:Nat) (l0:List Int) (a1:Int) (r:Int) (w:World) (hr0:Kd.C (Kd.int .i64) w A0 l0.length l0) (hc0:l0.length≤c0) (h:laws_heldIntS.f k l0 a1=some r):
  Calls Try.prog 19 #[.slice A0 l0.length c0,.int .i64 a1] w fun e w'=>e= .returned (.int .i64 r)∧Drawn0 w w':=by
 have HR0:=Za hr0
 have HC0:=Za hc0
 clear hr0 hc0
 have H:(laws_heldIntS.l0 k l0 a1 0)=some r:=h
 clear h
 have H':=Za H
 clear H
 go_enter Try.func19,Try.ntmps19
 go_wp2
 go_loopg [1,5] k (fun kq v1 v5 w'=>∃(x1_1:Int) (x5_1:Int),v1= .int .i64 x1_1∧v5= .int .i64 x5_1∧Aside0 (laws_heldIntS.l0 kq l0 x1_1 x5_1=some r)∧Aside0 (kq≤k)∧Drawn0 w w')
 case atStart=>exact⟨(a1),(0),(by first|rfl|(simp;done)|(simp[*];done)),(by first|rfl|(simp;done)|(simp[*];done)),H',⟨Nat.le_refl _⟩,by repeat(first|exact Zu _|apply Zv)⟩
 case round=>
  clear H'
  obtain⟨x1_1,x5_1,rfl,rfl,HA,HK1,⟨m1,rfl⟩⟩:=hrel
  cases gk with
  |zero=>exact absurd HA.out (by simp[laws_heldIntS.l0])
  |succ k1=>
   have H:=HA.out
   clear HA
   simp only[laws_heldIntS.l0] at H
   by_cases c3:x5_1<(l0.length:Int)
   ·rw[if_pos c3] at H
    have c3b0:decide (x5_1<(l0.length:Int))=true:=Zt c3
    clear c3
    by_cases c4:0≤x5_1
    ·rw[if_pos c4] at H
     have c4b0:decide (0≤x5_1)=true:=Zt c4
     clear c4
     by_cases c5:(rd l0 x5_1)=x1_1
     ·rw[if_pos c5] at H
      have c5b0:((rd l0 x5_1)==x1_1)=true:=beq_iff_eq.mpr c5
      have c5b1:((rd l0 x5_1) != x1_1)=false:=bne_eq_false_iff_eq.mpr c5
      clear c5
      have H':=Za H
      clear H
      have p308:0≤(x5_1:Int):=Zs z10_3
      have q308:x5_1<(l0.length:Int):=Zs z10_3
      obtain⟨ad308,e308,hx308_0⟩:=Kd.at_int HR0.out x5_1 p308 q308
      cases e308
      replace p308:=eq_true p308
      replace q308:=eq_true q308
      go_wp2
      go_roundg k1
      case measure=>have:=HK1.out;omega
      case rel=>exact⟨(wrap64 (x1_1+1)),(wrap64 (x5_1+1)),(by first|rfl|(simp;done)|(simp[*];done)),(by first|rfl|(simp;done)|(simp[*];done)),H',⟨by have:=HK1.out;omega⟩,by repeat(first|exact Zu _|apply Zv)⟩
     ·rw[if_neg c5] at H
      have c5b0:((rd l0 x5_1)==x1_1)=false:=beq_eq_false_iff_ne.mpr c5
      have c5b1:((rd l0 x5_1) != x1_1)=true:=bne_iff_ne.mpr c5
      obtain rfl:=Zj H
      have p308:0≤(x5_1:Int):=Zs z10_3
      have q308:x5_1<(l0.length:Int):=Zs z10_3
      obtain⟨ad308,e308,hx308_0⟩:=Kd.at_int HR0.out x5_1 p308 q308
      cases e308
      replace p308:=eq_true p308
      replace q308:=eq_true q308
      go_wp2
      go_ret
      exact⟨by first|rfl|(simp;done)|(simp[*];done),by repeat(first|exact Zu _|apply Zv)⟩
    ·rw[if_neg c4] at H
     exact absurd H (by simp)
   ·rw[if_neg c3] at H
    have c3b0:decide (x5_1<(l0.length:Int))=false:=Yc c3
    clear c3
    obtain rfl:=Zj H
    go_wp2
    go_ret
    exact⟨by first|rfl|(simp;done)|(simp[*];done),by repeat(first|exact Zu _|apply Zv)⟩
end Go.Proofs.Ytlolppaddphpoaa.G
