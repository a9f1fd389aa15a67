/- Functions of the program as plain Lean functions, and that each call comes to its function's answer; written by a program of the session. No condition. -/
import Derived.Test.YtdkbkkpbdmlmbaaGreatGx0
import Derived.Test.YtdkbkkpbdmlmbaaGreatGx4
import Derived.Test.YtdkbkkpbdmlmbaaGreatGx5
namespace Go.Proofs.YtdkbkkpbdmlmbaaGreat.G
open Go.RowKit Go.Proofs.YtdkbkkpbdmlmbaaGreatW.PrintWords Go.Proofs.YtdkbkkpbdmlmbaaGreatW.PrintLast Go.Proofs.YtdkbkkpbdmlmbaaGreatW.PrintMore
attribute [local go_sem] max2_int min2_int max_two min_two max_three min_three max_four min_four   -- for this text's walks alone
set_option linter.unusedVariables false
set_option linter.unusedSimpArgs false
theorem z6_0 {P:Prop} (h:P:=by first|(go_simp;done)|(go_simp;rfl)):P:=h
theorem z6_1 {P:Prop} (h:P:=by obtain⟨nd,rfl⟩:=hd;exact Zf (Zx _ _) _):P:=h
theorem z6_2 {P:Prop} (h:P:=by exact(RO.out.to_R (fun k hk=>VO.out k hk) (fun _ _=>trivial))):P:=h
theorem z6_3 {P:Prop} (h:P:=by rw[hw];exact Sep.put6_below HB2.out G5.out _ _ _ _ _ _):P:=h
def rdr (st fi:List Bool):Obj:= .cells ((st++fi).map Value.bool).toArray 125 (0,0)
def rdB8 (xs:List Bool) (i:Int):Bool:=rdOf false xs i
section
variable {w:World} {gx:Nat} {st fi:List Bool} {y:Int}
theorem after_set {F:Nat→Prop} {g:Nat} (hF:F g) (j:Nat) (v:Value):Sep.After F w F (w.setCell ⟨g,j,none⟩ v):=
 ⟨⟨by simp[World.setCell],fun k hk hn=>Below.heap_setCell _ _ _ k (fun e=>hn (e ▸ hF))⟩,fun k hk=> .inl hk,rfl,rfl,rfl⟩
theorem get_at {xs:List Bool} {i:Int} (h0:0≤i) (h1:i<(xs.length:Int)):xs[i.toNat]? =some (rdB8 xs i):=by
 unfold rdB8 rdOf
 rw[List.getD_eq_getElem?_getD,List.getElem?_eq_getElem (by omega)]
 rfl
theorem rdr_set (h:w.heap[gx]? =some (rdr st fi)) (h0:0≤y) (h1:y<8) (hs:st.length=8) (hf:fi.length=8):
  w.cell? ⟨gx,y.toNat,none⟩=some (.bool (rdB8 st y))∧w.frozen? ⟨gx,y.toNat,none⟩=false∧(w.setCell ⟨gx,y.toNat,none⟩ (.bool true)).heap[gx]? =some (rdr (st.set y.toNat true) fi):=by
 refine⟨?_,Zc h _,blk_put h _ _ ?_⟩
 ·rw[Zb h]
  simp only[List.getElem?_toArray,List.getElem?_map]
  rw[List.getElem?_append_left (by omega),get_at h0 (by omega)]
  rfl
 ·rw[Zy,←List.map_set,List.set_append_left _ _ (by omega)]
theorem rdr_first (h:w.heap[gx]? =some (rdr st fi)) (h0:0≤y) (h1:y<8) (hs:st.length=8) (hf:fi.length=8):
  w.cell? ⟨gx,8+y.toNat,none⟩=some (.bool (rdB8 fi y))∧w.frozen? ⟨gx,8+y.toNat,none⟩=false∧(w.setCell ⟨gx,8+y.toNat,none⟩ (.bool true)).heap[gx]? =some (rdr st (fi.set y.toNat true)):=by
 refine⟨?_,Zc h _,blk_put h _ _ ?_⟩
 ·rw[Zb h]
  simp only[List.getElem?_toArray,List.getElem?_map]
  rw[List.getElem?_append_right (by omega),show 8+y.toNat - st.length=y.toNat by omega,get_at h0 (by omega)]
  rfl
 ·rw[Zy,←List.map_set,List.set_append_right _ _ (by omega),show 8+y.toNat - st.length=y.toNat by omega]
end
def readF (st:List Bool):List Int→List Bool→Option (List Bool)
 |[],fi=>some fi
 |y::r,fi=>if 0≤y∧y<8 then readF st r (if rdB8 st y=true then fi else fi.set y.toNat true) else none
def reader_read.f (a0 a1 a2:Int) (st fi:List Bool):Option (List Bool):=(impl_ReadsOf.f a0 a1 a2).bind fun rs=>readF st rs fi
set_option maxHeartbeats 8000000 in
set_option maxRecDepth 100000 in
theorem reader_read.calls (a0 a1 a2:Int) (st fi fi':List Bool) (gx:Nat) (w:World) (hs:st.length=8) (hf:fi.length=8) (hp:w.heap[gx]? =some (rdr st fi)) (h:reader_read.f a0 a1 a2 st fi=some fi'):
  Calls Tryz.prog 99 #[.pointer (some ⟨gx,0,none⟩),.agg #[.int .i64 a0,.int .i64 a1,.int .i64 a2]] w fun e w'=>e= .returned (.tuple #[])∧w'.heap[gx]? =some (rdr st fi')∧fi'.length=8∧Sep.After (fun k=>k=gx) w (fun k=>k=gx) w':=by
 unfold reader_read.f at h
 obtain⟨rs,hr,h⟩:=Zg h
 have TB:=Za hr
 have TR:=Za h
 have BP:=Za hp
 have HS:=Za hs
 have HF:=Za hf
 have LB:=Za (blk_lt hp)
 clear hr h hp hs hf
 go_enter Tryz.func99,Tryz.ntmps99
 go_wp2_with (first|((with_reducible refine Zp (N:=3) rfl ?_);refine Zr ?hg (N:=3) ?hd (cs:= #[.int .i64 a0,.int .i64 a1,.int .i64 a2]) (t:=72) ?hr ?_;(case hd=>rfl);(case hg=>rfl);(case hr=>exact z6_0);intro g1 hg1 w1 hp hb;have B1:=Za hp;have HB1:=Za hb;have P1:=Za (Zi BP.out hb);clear hg1 hp hb;obtain⟨⟨_,_,_⟩,⟨_,_,_⟩⟩:=Sep.blk3 B1.out)|(go_at_call 109;(with_reducible refine(impl_ReadsOf.calls a0 a1 a2 rs _ TB.out).mono ?_);rintro e w2 ⟨vr,rfl,ho,hb⟩;have P2:=Za (Zi P1.out hb);have R2:=Za (Sep.rowI.of_R ho);have N2:Aside0 (∀k,vr.ownBlock=some k→w.heap.size≤k):=⟨fun k hk=>Nat.le_trans HB1.out.size (Yo ho k hk)⟩;have HB2:=Za (Zj HB1.out hb);clear hb ho;obtain⟨A2,c2,e2,-,-⟩:=R2.out.open_;subst e2)|fail)
 have NX2:Aside0 (∀k,(Value.slice A2 rs.length c2).ownBlock=some k→k≠gx):=⟨fun k hk e=>by have:=N2.out k hk;have:=LB.out;omega⟩
 have A22:Aside0 (Sep.After (fun k=>k=gx) w (fun k=>k=gx) w2):=⟨Sep.After.of_below HB2.out _⟩
 clear HB2 HB1 B1 P1
 go_loopw [9] (fun v9 w'=>∃(x:Int) (cur:List Bool),v9= .int .i64 x∧Aside0 (0≤x)∧Aside0 (x≤(rs.length:Int))∧Aside0 (readF st (rs.drop x.toNat) cur=some fi')∧Aside0 (cur.length=8)∧Aside0 (w'.heap[gx]? =some (rdr st cur))∧Aside0 (Sep.rowI 3 w' (.slice A2 rs.length c2) rs)∧Aside0 (Sep.After (fun k=>k=gx) w (fun k=>k=gx) w')) (fun v9 _=>rs.length - (intOf v9).toNat)
 case atStart=>exact⟨0,fi,rfl,⟨by omega⟩,⟨by omega⟩,TR,HF,P2,R2,A22⟩
 case round=>
  clear TR P2 R2 A22
  obtain⟨x,cur,rfl,Hx0,Hx1,TR,CL,PX,RR,AX⟩:=hrel
  by_cases hlt:x<(rs.length:Int)
  ·have c1:decide (x<(rs.length:Int))=true:=Zq hlt
   have TH:=TR.out
   rw[drop_int Hx0.out hlt,readF] at TH
   obtain⟨gr,e,-,hcz,hfz,-⟩:=RR.out.at_ x Hx0.out hlt
   subst e
   have NX:=NX2
   have p1:=eq_true Hx0.out
   have q1:=eq_true hlt
   have hsum:wrap64 (x+1)=x+1:=by have:=RR.out.open_;have:=(Yp RR.out).2.2.2.1;have:=Hx0.out;unfold wrap64;omega
   have Hs:=Za hsum
   have Hlt:=Za hlt
   clear hsum hlt
   generalize rd rs x=y at TH hcz
   by_cases hy:0≤y∧y<8
   ·rw[if_pos hy] at TH
    have Y0:=Za hy.1
    have Y1:=Za hy.2
    have py:=eq_true hy.1
    have qy:=eq_true hy.2
    obtain⟨hs1,hs2,-⟩:=rdr_set PX.out hy.1 hy.2 HS.out CL.out
    obtain⟨hf1,hf2,-⟩:=rdr_first PX.out hy.1 hy.2 HS.out CL.out
    clear hy
    obtain⟨b,hb⟩:∃b,rdB8 st y=b:=⟨_,rfl⟩
    rw[hb] at TH hs1
    clear hb
    cases b with
    |true=>
     have TI:=Za (show readF st (rs.drop (x+1).toNat) cur=some fi' by rw[if_pos rfl] at TH;exact TH)
     clear TH
     go_wp2
     go_roundw
     case rel=>exact⟨x+1,cur,by rw[Hs.out],⟨by have:=Hx0.out;omega⟩,⟨by have:=Hlt.out;omega⟩,TI,CL,PX,RR,AX⟩
     case measure=>
      have:=Hlt.out
      have:=Hx0.out
      simp only[intOf,Hs.out]
      omega
    |false=>
     have TI:=Za (show readF st (rs.drop (x+1).toNat) (cur.set y.toNat true)=some fi' by rw[if_neg (by decide)] at TH;exact TH)
     clear TH
     go_wp2_with (first|((with_reducible refine Ye (t:=4) (p:=24) rfl ?_);refine Yd (t:=4) (p:=24) (v:= ?vo24_) (w1:=(wr.setCell ⟨gx,8+y.toNat,none⟩ (.bool true))) ?hg ?ho ?hn ?hr ?_;(case ho=>rfl);(case hg=>rfl);(case hn=>rfl);(case hr=>exact z6_0);intro w8 hw;have P8:Aside0 (w8.heap[gx]? =some (rdr st (cur.set y.toNat true))):=⟨by rw[hw];exact(rdr_first PX.out Y0.out Y1.out HS.out CL.out).2.2⟩;have R8:Aside0 (Sep.rowI 3 w8 (.slice (some ⟨gr,0,none⟩) rs.length c2) rs):=⟨RR.out.keep (fun k hk=>by rw[hw,Below.heap_setCell _ _ _ k (NX.out k hk)])⟩;have A8:Aside0 (Sep.After (fun k=>k=gx) w (fun k=>k=gx) w8):=⟨by rw[hw];exact AX.out.trans (after_set (F:=fun k=>k=gx) rfl _ _)⟩;clear hw)|fail)
     go_roundw
     case rel=>exact⟨x+1,cur.set y.toNat true,by rw[Hs.out],⟨by have:=Hx0.out;omega⟩,⟨by have:=Hlt.out;omega⟩,TI,⟨by rw[List.length_set];exact CL.out⟩,P8,R8,A8⟩
     case measure=>
      have:=Hlt.out
      have:=Hx0.out
      simp only[intOf,Hs.out]
      omega
   ·rw[if_neg hy] at TH
    cases TH
  ·have c1:decide (x<(rs.length:Int))=false:=Yf hlt
   have ex:=TR.out
   rw[List.drop_eq_nil_of_le (by have:=Hx0.out;omega),readF] at ex
   cases ex
   go_wp2
   go_end0
   exact⟨rfl,PX.out,CL.out,AX.out⟩
abbrev put8 (w:World) (g:Nat) (v0 v1 v2 v3 v4 v5 v6 v7:Value):World:=((Sep.put6 w g v0 v1 v2 v3 v4 v5).setCell ⟨g,6,none⟩ v6).setCell ⟨g,7,none⟩ v7
section
variable {w:World} {gx g:Nat} {st fi a:List Bool}
theorem blk8 {t:TypeId} {v0 v1 v2 v3 v4 v5 v6 v7:Value} (h:w.heap[g]? =some (.cells #[v0,v1,v2,v3,v4,v5,v6,v7] t (0,0))):
  (w.cell? ⟨g,0,none⟩=some v0∧w.cell? ⟨g,1,none⟩=some v1∧w.cell? ⟨g,2,none⟩=some v2∧w.cell? ⟨g,3,none⟩=some v3∧w.cell? ⟨g,4,none⟩=some v4∧w.cell? ⟨g,5,none⟩=some v5∧w.cell? ⟨g,6,none⟩=some v6∧w.cell? ⟨g,7,none⟩=some v7)∧
  (w.frozen? ⟨g,0,none⟩=false∧w.frozen? ⟨g,1,none⟩=false∧w.frozen? ⟨g,2,none⟩=false∧w.frozen? ⟨g,3,none⟩=false∧w.frozen? ⟨g,4,none⟩=false∧w.frozen? ⟨g,5,none⟩=false∧w.frozen? ⟨g,6,none⟩=false∧w.frozen? ⟨g,7,none⟩=false):=
 ⟨⟨(Zb h 0).trans rfl,(Zb h 1).trans rfl,(Zb h 2).trans rfl,(Zb h 3).trans rfl,(Zb h 4).trans rfl,(Zb h 5).trans rfl,(Zb h 6).trans rfl,(Zb h 7).trans rfl⟩,⟨Zc h 0,Zc h 1,Zc h 2,Zc h 3,Zc h 4,Zc h 5,Zc h 6,Zc h 7⟩⟩
theorem put8_blk {t:TypeId} {u0 u1 u2 u3 u4 u5 u6 u7:Value} (h:w.heap[g]? =some (.cells #[u0,u1,u2,u3,u4,u5,u6,u7] t (0,0))) (v0 v1 v2 v3 v4 v5 v6 v7:Value):(put8 w g v0 v1 v2 v3 v4 v5 v6 v7).heap[g]? =some (.cells #[v0,v1,v2,v3,v4,v5,v6,v7] t (0,0)):=by
 refine blk_put (cs:= #[v0,v1,v2,v3,v4,v5,v6,u7]) ?_ 7 _ rfl
 refine blk_put (cs:= #[v0,v1,v2,v3,v4,v5,u6,u7]) ?_ 6 _ rfl
 refine blk_put (cs:= #[v0,v1,v2,v3,v4,u5,u6,u7]) ?_ 5 _ rfl
 refine blk_put (cs:= #[v0,v1,v2,v3,u4,u5,u6,u7]) ?_ 4 _ rfl
 refine blk_put (cs:= #[v0,v1,v2,u3,u4,u5,u6,u7]) ?_ 3 _ rfl
 refine blk_put (cs:= #[v0,v1,u2,u3,u4,u5,u6,u7]) ?_ 2 _ rfl
 refine blk_put (cs:= #[v0,u1,u2,u3,u4,u5,u6,u7]) ?_ 1 _ rfl
 exact blk_put (cs:= #[u0,u1,u2,u3,u4,u5,u6,u7]) h 0 _ rfl
theorem put8_below {w0:World} (h:Below w0.heap.size w0 w) (hg:w0.heap.size≤g) (v0 v1 v2 v3 v4 v5 v6 v7:Value):Below w0.heap.size w0 (put8 w g v0 v1 v2 v3 v4 v5 v6 v7):=Zd (Zd (Sep.put6_below h hg _ _ _ _ _ _) hg) hg
theorem after_put8 {F:Nat→Prop} (hF:F g) {v0 v1 v2 v3 v4 v5 v6 v7:Value}:Sep.After F w F (put8 w g v0 v1 v2 v3 v4 v5 v6 v7):=
 (after_set hF 0 v0).trans ((after_set hF 1 v1).trans ((after_set hF 2 v2).trans ((after_set hF 3 v3).trans ((after_set hF 4 v4).trans ((after_set hF 5 v5).trans ((after_set hF 6 v6).trans (after_set hF 7 v7)))))))
theorem len8 (h:a.length=8):∃b0 b1 b2 b3 b4 b5 b6 b7,a=[b0,b1,b2,b3,b4,b5,b6,b7]:=by
 match a,h with
 |[b0,b1,b2,b3,b4,b5,b6,b7],_=>exact⟨_,_,_,_,_,_,_,_,rfl⟩
theorem rdr_load (h:w.heap[gx]? =some (rdr st fi)) (hs:st.length=8) (hf:fi.length=8):
  w.cell? ⟨gx,0,none⟩=some (.bool (rdB8 st 0))∧w.cell? ⟨gx,1,none⟩=some (.bool (rdB8 st 1))∧w.cell? ⟨gx,2,none⟩=some (.bool (rdB8 st 2))∧w.cell? ⟨gx,3,none⟩=some (.bool (rdB8 st 3))∧w.cell? ⟨gx,4,none⟩=some (.bool (rdB8 st 4))∧w.cell? ⟨gx,5,none⟩=some (.bool (rdB8 st 5))∧w.cell? ⟨gx,6,none⟩=some (.bool (rdB8 st 6))∧w.cell? ⟨gx,7,none⟩=some (.bool (rdB8 st 7)):=
 ⟨(rdr_set (y:=0) h (by omega) (by omega) hs hf).1,(rdr_set (y:=1) h (by omega) (by omega) hs hf).1,(rdr_set (y:=2) h (by omega) (by omega) hs hf).1,(rdr_set (y:=3) h (by omega) (by omega) hs hf).1,(rdr_set (y:=4) h (by omega) (by omega) hs hf).1,(rdr_set (y:=5) h (by omega) (by omega) hs hf).1,(rdr_set (y:=6) h (by omega) (by omega) hs hf).1,(rdr_set (y:=7) h (by omega) (by omega) hs hf).1⟩
theorem rdr_frz (h:w.heap[gx]? =some (rdr st fi)):w.frozen? ⟨gx,0,none⟩=false∧w.frozen? ⟨gx,1,none⟩=false∧w.frozen? ⟨gx,2,none⟩=false∧w.frozen? ⟨gx,3,none⟩=false∧w.frozen? ⟨gx,4,none⟩=false∧w.frozen? ⟨gx,5,none⟩=false∧w.frozen? ⟨gx,6,none⟩=false∧w.frozen? ⟨gx,7,none⟩=false:=
 ⟨Zc h 0,Zc h 1,Zc h 2,Zc h 3,Zc h 4,Zc h 5,Zc h 6,Zc h 7⟩
theorem rdr_putN (h:w.heap[gx]? =some (rdr st fi)) (n:Nat) (hn:n<st.length) (b:Bool):(w.setCell ⟨gx,n,none⟩ (.bool b)).heap[gx]? =some (rdr (st.set n b) fi):=by
 refine blk_put h _ _ ?_
 rw[Zy,←List.map_set,List.set_append_left _ _ hn]
theorem rdr_put8 (h:w.heap[gx]? =some (rdr st fi)) (hs:st.length=8) (ha:a.length=8):(put8 w gx (.bool (rdB8 a 0)) (.bool (rdB8 a 1)) (.bool (rdB8 a 2)) (.bool (rdB8 a 3)) (.bool (rdB8 a 4)) (.bool (rdB8 a 5)) (.bool (rdB8 a 6)) (.bool (rdB8 a 7))).heap[gx]? =some (rdr a fi):=by
 obtain⟨b0,b1,b2,b3,b4,b5,b6,b7,rfl⟩:=len8 ha
 obtain⟨s0,s1,s2,s3,s4,s5,s6,s7,rfl⟩:=len8 hs
 exact rdr_putN (rdr_putN (rdr_putN (rdr_putN (rdr_putN (rdr_putN (rdr_putN (rdr_putN h 0 (by simp) b0) 1 (by simp) b1) 2 (by simp) b2) 3 (by simp) b3) 4 (by simp) b4) 5 (by simp) b5) 6 (by simp) b6) 7 (by simp) b7
end
mutual
def rpass.f:Nat→List S92→List Bool→List Bool→Option (List Bool×List Bool)
 |0,_,_,_=>none
 |k+1,l,st,fi=>rpass.l0 k l 0 st fi
def rpass.l0:Nat→List S92→Int→List Bool→List Bool→Option (List Bool×List Bool)
 |0,_,_,_,_=>none
 |k+1,l,i,st,fi=>if i<(l.length:Int) then (if 0≤i then
   (impl_hasExpr.f (rd_T92 l i).f0).bind fun b1=>(impl_hasVar.f (rd_T92 l i).f0).bind fun b2=>
   (if b1=true then reader_read.f (rd_T92 l i).f3.f0 (rd_T92 l i).f3.f1 (rd_T92 l i).f3.f2 st fi else some fi).bind fun fi1=>
   if b2=true then (if 0≤(rd_T92 l i).f1∧(rd_T92 l i).f1<8 then some (st.set (rd_T92 l i).f1.toNat true) else none).bind fun st1=>if (rd_T92 l i).f0=4 then none else rpass.l0 k l (wrap64 (i+1)) st1 fi1
   else if (rd_T92 l i).f0=4 then (impl_endOf.f k l i).bind fun e=>if 0≤wrap64 (i+1)∧wrap64 (i+1)≤e∧e≤(l.length:Int) then (rpass.f k ((l.take e.toNat).drop (wrap64 (i+1)).toNat) st fi1).bind fun s2=>rpass.l0 k l (wrap64 (e+1)) st s2.2 else none
    else rpass.l0 k l (wrap64 (i+1)) st fi1
  else none) else some (st,fi)
end
theorem rpass.mono_l:∀k,(∀l st fi,LeO (rpass.f k l st fi) (rpass.f (k+1) l st fi))∧(∀l i st fi,LeO (rpass.l0 k l i st fi) (rpass.l0 (k+1) l i st fi))
 |0=>⟨fun _ _ _ r h=>by simp[rpass.f] at h,fun _ _ _ _ r h=>by simp[rpass.l0] at h⟩
 |k+1=>by
  obtain⟨ih0,ih1⟩:=rpass.mono_l k
  constructor
  ·intro l st fi
   unfold rpass.f
   exact ih1 _ _ _ _
  ·intro l i st fi
   unfold rpass.l0
   exact Zu (Zu (Zt (Yn _) (fun _=>Zt (Yn _) (fun _=>Zt (Yn _) (fun _=>Zu (Zt (Yn _) (fun _=>Zu (Yn _) (ih1 _ _ _ _))) (Zu (Zt (impl_endOf.mono _ _ k) (fun _=>Zu (Zt (ih0 _ _ _) (fun _=>ih1 _ _ _ _)) (Yn _))) (ih1 _ _ _ _)))))) (Yn _)) (Yn _)
set_option maxHeartbeats 16000000 in
set_option maxRecDepth 100000 in
theorem reader_pass.calls (k:Nat):∀(A0:Option Addr) (c0:Nat) (l0:List S92) (st0 fi0:List Bool) (r:List Bool×List Bool) (gx:Nat) (w:World) (hr:∀w',Kept w w' (fun k=>k=gx)→Kd.C k92 w' A0 l0.length l0) (hc0:l0.length≤c0) (hs:st0.length=8) (hf:fi0.length=8) (hp:w.heap[gx]? =some (rdr st0 fi0)) (h:rpass.f k l0 st0 fi0=some r),
  Calls Tryz.prog 98 #[.pointer (some ⟨gx,0,none⟩),.slice A0 l0.length c0] w fun e w'=>e= .returned (.tuple #[])∧w'.heap[gx]? =some (rdr r.1 r.2)∧r.1.length=8∧r.2.length=8∧Sep.After (fun k=>k=gx) w (fun k=>k=gx) w':=by
 induction k using Nat.strongRecOn with
 |_ k ih=>
 have IH:=Za ih
 clear ih
 intro A0 c0 l0 st0 fi0 r gx w hr hc0 hs hf hp h
 cases k with
 |zero=>exact absurd h (by simp[rpass.f])
 |succ k=>
 simp only[rpass.f] at h
 have HR:=Za hr
 have HC0:=Za hc0
 have HS0:=Za hs
 have HF0:=Za hf
 have P0:=Za hp
 have H':=Za h
 clear hr hc0 hs hf hp h
 go_enter Tryz.func98,Tryz.ntmps98
 go_wp2
 go_loopg [4] k (fun kq v4 w'=>∃(i:Int) (st fi:List Bool),v4= .int .i64 i∧Aside0 (rpass.l0 kq l0 i st fi=some r)∧Aside0 (kq≤k)∧Aside0 (st.length=8)∧Aside0 (fi.length=8)∧Aside0 (w'.heap[gx]? =some (rdr st fi))∧Aside0 (Sep.After (fun k=>k=gx) w (fun k=>k=gx) w'))
 case atStart=>exact⟨0,st0,fi0,by first|rfl|(simp;done),H',⟨Nat.le_refl _⟩,HS0,HF0,P0,⟨Sep.After.refl _ _⟩⟩
 case round=>
  clear H' P0 HS0 HF0
  obtain⟨i,st,fi,rfl,HA,HK1,HS,HF,PX,AX⟩:=hrel
  cases gk with
  |zero=>exact absurd HA.out (by simp[rpass.l0])
  |succ k1=>
   have H:=HA.out
   clear HA
   simp only[rpass.l0] at H
   by_cases c1:i<(l0.length:Int)
   ·rw[if_pos c1] at H
    have c1b:decide (i<(l0.length:Int))=true:=Zq c1
    by_cases c2:0≤i
    ·rw[if_pos c2] at H
     obtain⟨ad,e,hx0,hx1,hx2,hx3,hx4,hx5⟩:=at_T92 (HR.out _ AX.out.kept) i c2 c1
     cases e
     have p1:=eq_true c2
     have q1:=eq_true c1
     obtain⟨x,hx⟩:∃x,rd_T92 l0 i=x:=⟨_,rfl⟩
     rw[hx] at H hx0 hx1 hx2 hx3 hx4 hx5
     obtain⟨x0,x1,x2,x3,x4,x5⟩:=x
     simp only at H hx0 hx1 hx2 hx3 hx4 hx5
     obtain⟨b1,A1,H⟩:=Zg H
     obtain⟨b2,A2,H⟩:=Zg H
     have HE:=Za A1
     have HV:=Za A2
     have TQ:=Za H
     clear hx c1 c2 A1 A2 H
     cases b1<;>cases b2
     ·have TA:=TQ.out
      obtain⟨fi1,A1,TB⟩:=Zg (show((some fi).bind fun fi1=>_)=some r by rw[if_neg (by decide)] at TA;exact TA)
      obtain rfl:=Zk A1
      have HF1:=HF
      have TC:=TB
      rw[if_neg (by decide)] at TC
      clear TA TB
      have H4:Aside0 (x0≠4):=⟨fun e=>by have:=HE.out;rw[e] at this;simp[impl_hasExpr.f] at this⟩
      have TT:=Za (show rpass.l0 k1 l0 (wrap64 (i+1)) st fi=some r by rw[if_neg H4.out] at TC;exact TC)
      clear TC
      have h4b:(x0==4)=false:=beq_eq_false_iff_ne.mpr H4.out
      have h4c:decide (x0=4)=false:=Yf H4.out
      go_wp2_with (first|((with_reducible refine Zp (N:=5) rfl ?_);refine Zr ?hg (N:=5) ?hd (cs:= #[.int .i64 0,.int .i64 0,.int .i64 0,.int .i64 0,.int .i64 0,.int .i64 0]) (t:=92) ?hr ?_;(case hd=>rfl);(case hg=>rfl);(case hr=>exact z6_0);intro g5 hg5 w2 hp hb;have B2:=Za hp;have P2:=Za (Zi PX.out hb);have AF2:=Za (AX.out.below hb);have G5:Aside0 (wr.heap.size≤g5):=⟨Nat.le_of_eq hg5.symm⟩;have HB2:=Za hb;have NG:Aside0 (g5≠gx):=⟨fun e=>by have:=blk_lt PX.out;omega⟩;clear hg5 hp hb;obtain⟨⟨_,_,_,_,_,_⟩,⟨_,_,_,_,_,_⟩⟩:=Sep.blk6 B2.out)|((with_reducible refine Ye (t:=92) (p:=5) rfl ?_);refine Yd (t:=92) (p:=5) (v:= ?vo5_) (w1:=Sep.put6 w2 g5 (.int .i64 x0) (.int .i64 x1) (.int .i64 x2) (.int .i64 x3) (.int .i64 x4) (.int .i64 x5)) ?hg ?ho ?hn ?hr ?_;(case ho=>rfl);(case hg=>rfl);(case hn=>rfl);(case hr=>exact z6_0);intro w3 hw;have hb3:Below wr.heap.size wr w3:=z6_3;have P3:=Za (Zi PX.out hb3);have AF3:=Za (AX.out.below hb3);have B3:Aside0 (w3.heap[g5]? =some (.cells #[.int .i64 x0,.int .i64 x1,.int .i64 x2,.int .i64 x3,.int .i64 x4,.int .i64 x5] 92 (0,0))):=⟨by rw[hw];exact Sep.put6_blk B2.out _ _ _ _ _ _⟩;clear hw hb3;obtain⟨⟨_,_,_,_,_,_⟩,⟨_,_,_,_,_,_⟩⟩:=Sep.blk6 B3.out)|(go_at_call 105;(with_reducible refine(impl_hasExpr.calls x0 false _ HE.out).mono ?_);rintro e w4 ⟨rfl,hd⟩;have hb:Below w3.heap.size w3 w4:=z6_1;clear hd;have P4:=Za (Zi P3.out hb);have B4:=Za (Zi B3.out hb);have AF4:=Za (AF3.out.below hb);clear hb;obtain⟨⟨_,_,_,_,_,_⟩,⟨_,_,_,_,_,_⟩⟩:=Sep.blk6 B4.out)|(go_at_call 104;(with_reducible refine(impl_hasVar.calls x0 false _ HV.out).mono ?_);rintro e w6 ⟨rfl,hd⟩;have hb:Below w4.heap.size w4 w6:=z6_1;clear hd;have P6:=Za (Zi P4.out hb);have B6:=Za (Zi B4.out hb);have AF6:=Za (AF4.out.below hb);clear hb;obtain⟨⟨_,_,_,_,_,_⟩,⟨_,_,_,_,_,_⟩⟩:=Sep.blk6 B6.out)|fail)
      go_roundg k1
      case measure=>have:=HK1.out;omega
      case rel=>exact⟨wrap64 (i+1),st,fi,by first|rfl|(simp;done)|(simp[*];done),TT,⟨by have:=HK1.out;omega⟩,HS,HF1,P6,AF6⟩
     ·have TA:=TQ.out
      obtain⟨fi1,A1,TB⟩:=Zg (show((some fi).bind fun fi1=>_)=some r by rw[if_neg (by decide)] at TA;exact TA)
      obtain rfl:=Zk A1
      have HF1:=HF
      rw[if_pos rfl] at TB
      obtain⟨st1,A2,TC⟩:=Zg TB
      by_cases cy:0≤x1∧x1<8
      ·rw[if_pos cy] at A2
       cases A2
       have Y0:=Za cy.1
       have Y1:=Za cy.2
       have py:=eq_true cy.1
       have qy:=eq_true cy.2
       have H4:Aside0 (x0≠4):=⟨fun e=>by have:=HV.out;rw[e] at this;simp[impl_hasVar.f] at this⟩
       have TT:=Za (show rpass.l0 k1 l0 (wrap64 (i+1)) (st.set x1.toNat true) fi=some r by rw[if_neg H4.out] at TC;exact TC)
       clear TA TB TC cy
       go_wp2_with (first|((with_reducible refine Zp (N:=5) rfl ?_);refine Zr ?hg (N:=5) ?hd (cs:= #[.int .i64 0,.int .i64 0,.int .i64 0,.int .i64 0,.int .i64 0,.int .i64 0]) (t:=92) ?hr ?_;(case hd=>rfl);(case hg=>rfl);(case hr=>exact z6_0);intro g5 hg5 w2 hp hb;have B2:=Za hp;have P2:=Za (Zi PX.out hb);have AF2:=Za (AX.out.below hb);have G5:Aside0 (wr.heap.size≤g5):=⟨Nat.le_of_eq hg5.symm⟩;have HB2:=Za hb;have NG:Aside0 (g5≠gx):=⟨fun e=>by have:=blk_lt PX.out;omega⟩;clear hg5 hp hb;obtain⟨⟨_,_,_,_,_,_⟩,⟨_,_,_,_,_,_⟩⟩:=Sep.blk6 B2.out)|((with_reducible refine Ye (t:=92) (p:=5) rfl ?_);refine Yd (t:=92) (p:=5) (v:= ?vo5_) (w1:=Sep.put6 w2 g5 (.int .i64 x0) (.int .i64 x1) (.int .i64 x2) (.int .i64 x3) (.int .i64 x4) (.int .i64 x5)) ?hg ?ho ?hn ?hr ?_;(case ho=>rfl);(case hg=>rfl);(case hn=>rfl);(case hr=>exact z6_0);intro w3 hw;have hb3:Below wr.heap.size wr w3:=z6_3;have P3:=Za (Zi PX.out hb3);have AF3:=Za (AX.out.below hb3);have B3:Aside0 (w3.heap[g5]? =some (.cells #[.int .i64 x0,.int .i64 x1,.int .i64 x2,.int .i64 x3,.int .i64 x4,.int .i64 x5] 92 (0,0))):=⟨by rw[hw];exact Sep.put6_blk B2.out _ _ _ _ _ _⟩;clear hw hb3;obtain⟨⟨_,_,_,_,_,_⟩,⟨_,_,_,_,_,_⟩⟩:=Sep.blk6 B3.out)|(go_at_call 105;(with_reducible refine(impl_hasExpr.calls x0 false _ HE.out).mono ?_);rintro e w4 ⟨rfl,hd⟩;have hb:Below w3.heap.size w3 w4:=z6_1;clear hd;have P4:=Za (Zi P3.out hb);have B4:=Za (Zi B3.out hb);have AF4:=Za (AF3.out.below hb);clear hb;obtain⟨⟨_,_,_,_,_,_⟩,⟨_,_,_,_,_,_⟩⟩:=Sep.blk6 B4.out)|(go_at_call 104;(with_reducible refine(impl_hasVar.calls x0 true _ HV.out).mono ?_);rintro e w6 ⟨rfl,hd⟩;have hb:Below w4.heap.size w4 w6:=z6_1;clear hd;have P6:=Za (Zi P4.out hb);have B6:=Za (Zi B4.out hb);have AF6:=Za (AF4.out.below hb);clear hb;obtain⟨⟨_,_,_,_,_,_⟩,⟨_,_,_,_,_,_⟩⟩:=Sep.blk6 B6.out)|fail)
       refine start_ (n:=7) (S:=fun w'=>w'.cell? ⟨g5,1,none⟩=some (.int .i64 x1)) (ds:=[6]) #[false,false,false,false,false,false,false] (by kernel_rfl) rfl rfl ((Zb B6.out 1).trans rfl) (fun hHeld=> ?_)
       refine pure_ (i:=0) (N:=some 28) (v:= ?_) (a':= ?_) #[true,false,false,false,false,false,false] rfl rfl (by kernel_rfl) (fun _ _ _ h=>h) (Or.inl ⟨by rfl,?_⟩) ?_ ?_
       rotate_left
       ·intro w'
        go_simp
        with_reducible rfl
       rotate_left
       ·simp only[Act.put,Zy,Ya,Yb,i64_w,i32_w]
        rfl
       refine pure_ (i:=1) (N:=some 29) (v:= ?_) (a':= ?_) #[true,true,false,false,false,false,false] rfl rfl (by kernel_rfl) (fun _ _ _ h=>h) (Or.inl ⟨by rfl,?_⟩) ?_ ?_
       rotate_left
       ·intro w'
        go_simp
        with_reducible rfl
       rotate_left
       ·simp only[Act.put,Zy,Ya,Yb,i64_w,i32_w]
        rfl
       refine take_ (i:=2) (N:=some 30) (v:= ?_) (a':= ?_) #[true,true,true,false,false,false,false] rfl rfl (by kernel_rfl) (fun _ _ _ h=>h) (Or.inl ⟨by rfl,?_⟩) hHeld ?_ ?_
       rotate_left
       ·intro w' s0
        obtain _:=s0
        go_simp
        with_reducible rfl
       rotate_left
       ·simp only[Act.put,Zy,Ya,Yb,i64_w,i32_w]
        rfl
       refine pure_ (i:=3) (N:=some 31) (v:= ?_) (a':= ?_) #[true,true,true,true,false,false,false] rfl rfl (by kernel_rfl) (fun _ _ _ h=>h) (Or.inl ⟨by rfl,?_⟩) ?_ ?_
       rotate_left
       ·intro w'
        go_simp
        with_reducible rfl
       rotate_left
       ·simp only[Act.put,Zy,Ya,Yb,i64_w,i32_w]
        rfl
       refine pure_ (i:=4) (N:=some 32) (v:= ?_) (a':= ?_) #[true,true,true,true,true,false,false] rfl rfl (by kernel_rfl) (fun _ _ _ h=>h) (Or.inl ⟨by rfl,?_⟩) ?_ ?_
       rotate_left
       ·intro w'
        go_simp
        with_reducible rfl
       rotate_left
       ·simp only[Act.put,Zy,Ya,Yb,i64_w,i32_w]
        rfl
       refine pure_ (i:=5) (N:=some 33) (v:= ?_) (a':= ?_) #[true,true,true,true,true,true,false] rfl rfl (by kernel_rfl) (fun _ _ _ h=>h) (Or.inl ⟨by rfl,?_⟩) ?_ ?_
       rotate_left
       ·intro w'
        go_simp
        with_reducible rfl
       rotate_left
       ·simp only[Act.put,Zy,Ya,Yb,i64_w,i32_w]
        rfl
       refine last_ (i:=6) (N:=none) #[true,true,true,true,true,true,true] rfl rfl (by kernel_rfl) (by decide) (fun K hK=> ?_)
       obtain⟨hq1,hq2,-⟩:=rdr_set (w:=w6.drew) P6.out Y0.out Y1.out HS.out HF1.out
       refine skip_ (w1:= ?_) (by rfl) rfl ?_ ?_
       rotate_left
       ·go_simp
        rfl
       refine hK _ _ ?_
       clear hK K
       refine done_ (by kernel_rfl) ?_
       have P7:Aside0 (((w6.setCell ⟨gx,x1.toNat,none⟩ (.bool true)).drew).heap[gx]? =some (rdr (st.set x1.toNat true) fi)):=⟨(rdr_set (w:=w6) P6.out Y0.out Y1.out HS.out HF1.out).2.2⟩
       have B7:Aside0 (((w6.setCell ⟨gx,x1.toNat,none⟩ (.bool true)).drew).heap[g5]? =some (.cells #[.int .i64 x0,.int .i64 x1,.int .i64 x2,.int .i64 x3,.int .i64 x4,.int .i64 x5] 92 (0,0))):=⟨(Below.heap_setCell w6 ⟨gx,x1.toNat,none⟩ (.bool true) g5 NG.out).trans B6.out⟩
       have AF7:Aside0 (Sep.After (fun k=>k=gx) w (fun k=>k=gx) ((w6.setCell ⟨gx,x1.toNat,none⟩ (.bool true)).drew)):=⟨(AF6.out.trans (after_set (w:=w6) (F:=(fun k=>k=gx)) rfl x1.toNat (.bool true))).below (by repeat(first|exact Zx _ _|apply Ze))⟩
       generalize (w6.setCell ⟨gx,x1.toNat,none⟩ (.bool true)).drew=w7 at*
       clear hHeld
       obtain⟨⟨_,_,_,_,_,_⟩,⟨_,_,_,_,_,_⟩⟩:=Sep.blk6 B7.out
       have h4b:(x0==4)=false:=beq_eq_false_iff_ne.mpr H4.out
       have h4c:decide (x0=4)=false:=Yf H4.out
       go_wp2
       go_roundg k1
       case measure=>have:=HK1.out;omega
       case rel=>exact⟨wrap64 (i+1),st.set x1.toNat true,fi,by first|rfl|(simp;done)|(simp[*];done),TT,⟨by have:=HK1.out;omega⟩,⟨by rw[List.length_set];exact HS.out⟩,HF1,P7,AF7⟩
      ·rw[if_neg cy] at A2
       cases A2
     ·have TA:=TQ.out
      obtain⟨fi1,A1,TB⟩:=Zg (show((reader_read.f x3 x4 x5 st fi).bind fun fi1=>_)=some r by rw[if_pos rfl] at TA;exact TA)
      have TR:=Za A1
      clear A1
      have TC:=TB
      rw[if_neg (by decide)] at TC
      clear TA TB
      by_cases h4:x0=4
      ·have H4:=Za h4
       have TH:=Za (show((impl_endOf.f k1 l0 i).bind fun e=>_)=some r by rw[if_pos h4] at TC;exact TC)
       clear TC h4
       have h4:=H4.out
       subst h4
       obtain⟨en,A3,H5⟩:=Zg TH.out
       by_cases c7:0≤wrap64 (i+1)∧wrap64 (i+1)≤en∧en≤(l0.length:Int)
       ·rw[if_pos c7] at H5
        obtain⟨s2,A4,H6⟩:=Zg H5
        have TT:=Za H6
        have TE:=Za A3
        obtain⟨ji,hji⟩:∃ji,wrap64 (i+1)=ji:=⟨_,rfl⟩
        rw[hji] at c7 A4
        obtain⟨y,hy⟩:∃y,(l0.take en.toNat).drop ji.toNat=y:=⟨_,rfl⟩
        rw[hy] at A4
        have TRec:=Za A4
        obtain⟨i0,hi0,hsz0⟩:=Option.map_eq_some_iff.mp (show(Tryz.prog.info? 92).map (·.size)=some 6 by kernel_rfl)
        have hcut:=cut_mid (P:=Tryz.prog) 69 92 .i64 .i64 Tryz.underlying69 hi0 6 hsz0 (some ad) l0.length c0 ji en c7.1 c7.2.1 c7.2.2 HC0.out
        obtain⟨A',hA'⟩:∃A',(if c0=ji.toNat then (some ad) else ((some ad):Option Addr).map (·.add (ji.toNat*6)))=A':=⟨_,rfl⟩
        obtain⟨c',hc'⟩:∃c',c0 - ji.toNat=c':=⟨_,rfl⟩
        have hyl:en.toNat - ji.toNat=y.length:=by rw[←hy,List.length_drop,List.length_take];omega
        rw[hA',hc',hyl] at hcut
        have HRy:Aside0 (∀w',Kept w w' (fun k=>k=gx)→Kd.C k92 w' A' y.length y):=⟨fun w' hk=>by
         have:=Kd.C_mid (HR.out w' hk) (lo:=ji.toNat) (hi:=en.toNat) (c:=c0) (by omega) (by omega) HC0.out
         rw[hy] at this
         rw[←hA']
         exact this⟩
        have HCy:Aside0 (y.length≤c'):=⟨by have:=HC0.out;omega⟩
        have hjiw:IntKind.i64.wrap (i+1)=ji:=(i64_w _).trans hji
        clear hy hyl hA' hc' c7 hi0 hsz0 H5 H6 A3 A4 TH
        go_wp2_with (first|((with_reducible refine Zp (N:=5) rfl ?_);refine Zr ?hg (N:=5) ?hd (cs:= #[.int .i64 0,.int .i64 0,.int .i64 0,.int .i64 0,.int .i64 0,.int .i64 0]) (t:=92) ?hr ?_;(case hd=>rfl);(case hg=>rfl);(case hr=>exact z6_0);intro g5 hg5 w2 hp hb;have B2:=Za hp;have P2:=Za (Zi PX.out hb);have AF2:=Za (AX.out.below hb);have G5:Aside0 (wr.heap.size≤g5):=⟨Nat.le_of_eq hg5.symm⟩;have HB2:=Za hb;have NG:Aside0 (g5≠gx):=⟨fun e=>by have:=blk_lt PX.out;omega⟩;clear hg5 hp hb;obtain⟨⟨_,_,_,_,_,_⟩,⟨_,_,_,_,_,_⟩⟩:=Sep.blk6 B2.out)|((with_reducible refine Ye (t:=92) (p:=5) rfl ?_);refine Yd (t:=92) (p:=5) (v:= ?vo5_) (w1:=Sep.put6 w2 g5 (.int .i64 4) (.int .i64 x1) (.int .i64 x2) (.int .i64 x3) (.int .i64 x4) (.int .i64 x5)) ?hg ?ho ?hn ?hr ?_;(case ho=>rfl);(case hg=>rfl);(case hn=>rfl);(case hr=>exact z6_0);intro w3 hw;have hb3:Below wr.heap.size wr w3:=z6_3;have P3:=Za (Zi PX.out hb3);have AF3:=Za (AX.out.below hb3);have B3:Aside0 (w3.heap[g5]? =some (.cells #[.int .i64 4,.int .i64 x1,.int .i64 x2,.int .i64 x3,.int .i64 x4,.int .i64 x5] 92 (0,0))):=⟨by rw[hw];exact Sep.put6_blk B2.out _ _ _ _ _ _⟩;clear hw hb3;obtain⟨⟨_,_,_,_,_,_⟩,⟨_,_,_,_,_,_⟩⟩:=Sep.blk6 B3.out)|(go_at_call 105;(with_reducible refine(impl_hasExpr.calls 4 true _ HE.out).mono ?_);rintro e w4 ⟨rfl,hd⟩;have hb:Below w3.heap.size w3 w4:=z6_1;clear hd;have P4:=Za (Zi P3.out hb);have B4:=Za (Zi B3.out hb);have AF4:=Za (AF3.out.below hb);clear hb;obtain⟨⟨_,_,_,_,_,_⟩,⟨_,_,_,_,_,_⟩⟩:=Sep.blk6 B4.out)|(go_at_call 99;(with_reducible refine(reader_read.calls x3 x4 x5 st fi fi1 gx w4 HS.out HF.out P4.out TR.out).mono ?_);rintro e w5 ⟨rfl,hp,hl,ha⟩;have P5:=Za hp;have HF1:=Za hl;have B5:=Za (ha.blk B4.out NG.out);have AF5:=Za (AF4.out.trans ha);clear hp hl ha;obtain⟨⟨_,_,_,_,_,_⟩,⟨_,_,_,_,_,_⟩⟩:=Sep.blk6 B5.out)|(go_at_call 104;(with_reducible refine(impl_hasVar.calls 4 false _ HV.out).mono ?_);rintro e w6 ⟨rfl,hd⟩;have hb:Below w5.heap.size w5 w6:=z6_1;clear hd;have P6:=Za (Zi P5.out hb);have B6:=Za (Zi B5.out hb);have AF6:=Za (AF5.out.below hb);clear hb;obtain⟨⟨_,_,_,_,_,_⟩,⟨_,_,_,_,_,_⟩⟩:=Sep.blk6 B6.out)|(go_at_call 79;(with_reducible refine(impl_endOf.calls k1 _ _ l0 i en _ ?sd1 HC0.out TE.out).mono ?_);(case sd1=>exact HR.out _ AF6.out.kept);rintro e w7 ⟨rfl,hd⟩;have hb:Below w6.heap.size w6 w7:=z6_1;clear hd;have P7:=Za (Zi P6.out hb);have B7:=Za (Zi B6.out hb);have AF7:=Za (AF6.out.below hb);clear hb;obtain⟨⟨_,_,_,_,_,_⟩,⟨_,_,_,_,_,_⟩⟩:=Sep.blk6 B7.out;obtain⟨_,_,_,_,_,_,_,_⟩:=rdr_load P7.out HS.out HF1.out)|((with_reducible refine Zp (N:=7) rfl ?_);refine Zr ?hg (N:=7) ?hd (cs:= #[.bool false,.bool false,.bool false,.bool false,.bool false,.bool false,.bool false,.bool false]) (t:=86) ?hr ?_;(case hd=>rfl);(case hg=>rfl);(case hr=>exact z6_0);intro g7 hg7 w8 hp hb;have B78:=Za hp;have HB8:=Za hb;have G7:Aside0 (w7.heap.size≤g7):=⟨Nat.le_of_eq hg7.symm⟩;have N7:Aside0 (g7≠gx):=⟨fun e=>by have:=blk_lt P7.out;have:=G7.out;omega⟩;clear hg7 hp hb;obtain⟨⟨_,_,_,_,_,_,_,_⟩,⟨_,_,_,_,_,_,_,_⟩⟩:=blk8 B78.out;obtain⟨_,_,_,_,_,_,_,_⟩:=rdr_load (Zi P7.out HB8.out) HS.out HF1.out)|((with_reducible refine Ye (t:=86) (p:=7) rfl ?_);refine Yd (t:=86) (p:=7) (v:= ?vo7_) (w1:=put8 w8 g7 (.bool (rdB8 st 0)) (.bool (rdB8 st 1)) (.bool (rdB8 st 2)) (.bool (rdB8 st 3)) (.bool (rdB8 st 4)) (.bool (rdB8 st 5)) (.bool (rdB8 st 6)) (.bool (rdB8 st 7))) ?hg ?ho ?hn ?hr ?_;(case ho=>rfl);(case hg=>rfl);(case hn=>rfl);(case hr=>exact z6_0);intro w9 hw;have hb9:Below w7.heap.size w7 w9:=(by rw[hw];exact put8_below HB8.out G7.out _ _ _ _ _ _ _ _);have B79:Aside0 (w9.heap[g7]? =some (.cells #[.bool (rdB8 st 0),.bool (rdB8 st 1),.bool (rdB8 st 2),.bool (rdB8 st 3),.bool (rdB8 st 4),.bool (rdB8 st 5),.bool (rdB8 st 6),.bool (rdB8 st 7)] 86 (0,0))):=⟨by rw[hw];exact put8_blk B78.out _ _ _ _ _ _ _ _⟩;have P9:=Za (Zi P7.out hb9);have AF9:=Za (AF7.out.below hb9);clear hw hb9 B78)|(go_at_call 98;(with_reducible refine(IH.out k1 ?sd1 A' c' y st fi1 s2 gx w9 ?sd2 HCy.out HS.out HF1.out P9.out TRec.out).mono ?_);(case sd1=>have:=HK1.out;omega);(case sd2=>exact fun w' hk=>HRy.out w' (AF9.out.kept.then_ hk AF9.out.sub));rintro e w10 ⟨rfl,hp,hl1,hl2,ha⟩;have P10:=Za hp;have HS2:=Za hl1;have HF2:=Za hl2;have B710:=Za (ha.blk B79.out N7.out);have AF10:=Za (AF9.out.trans ha);clear hp hl1 hl2 ha;obtain⟨⟨_,_,_,_,_,_,_,_⟩,⟨_,_,_,_,_,_,_,_⟩⟩:=blk8 B710.out;obtain⟨_,_,_,_,_,_,_,_⟩:=rdr_frz P10.out;obtain⟨_,_,_,_,_,_,_,_⟩:=rdr_load P10.out HS2.out HF2.out)|((with_reducible refine Ye (t:=86) (p:=54) rfl ?_);refine Yd (t:=86) (p:=54) (v:= ?vo12_) (w1:=put8 w10 gx (.bool (rdB8 st 0)) (.bool (rdB8 st 1)) (.bool (rdB8 st 2)) (.bool (rdB8 st 3)) (.bool (rdB8 st 4)) (.bool (rdB8 st 5)) (.bool (rdB8 st 6)) (.bool (rdB8 st 7))) ?hg ?ho ?hn ?hr ?_;(case ho=>rfl);(case hg=>rfl);(case hn=>rfl);(case hr=>exact z6_0);intro w11 hw;have P11:Aside0 (w11.heap[gx]? =some (rdr st s2.2)):=⟨by rw[hw];exact rdr_put8 P10.out HS2.out HS.out⟩;have AF11:Aside0 (Sep.After (fun k=>k=gx) w (fun k=>k=gx) w11):=⟨by rw[hw];exact AF10.out.trans (after_put8 (F:=(fun k=>k=gx)) rfl)⟩;clear hw)|fail)
        go_roundg k1
        case measure=>have:=HK1.out;omega
        case rel=>exact⟨wrap64 (en+1),st,s2.2,by first|rfl|(simp;done)|(simp[*];done),TT,⟨by have:=HK1.out;omega⟩,HS,HF2,P11,AF11⟩
       ·rw[if_neg c7] at H5
        exact absurd H5 (by simp)
      ·have H4:=Za h4
       have TT:=Za (show rpass.l0 k1 l0 (wrap64 (i+1)) st fi1=some r by rw[if_neg h4] at TC;exact TC)
       clear TC h4
       have h4b:(x0==4)=false:=beq_eq_false_iff_ne.mpr H4.out
       have h4c:decide (x0=4)=false:=Yf H4.out
       go_wp2_with (first|((with_reducible refine Zp (N:=5) rfl ?_);refine Zr ?hg (N:=5) ?hd (cs:= #[.int .i64 0,.int .i64 0,.int .i64 0,.int .i64 0,.int .i64 0,.int .i64 0]) (t:=92) ?hr ?_;(case hd=>rfl);(case hg=>rfl);(case hr=>exact z6_0);intro g5 hg5 w2 hp hb;have B2:=Za hp;have P2:=Za (Zi PX.out hb);have AF2:=Za (AX.out.below hb);have G5:Aside0 (wr.heap.size≤g5):=⟨Nat.le_of_eq hg5.symm⟩;have HB2:=Za hb;have NG:Aside0 (g5≠gx):=⟨fun e=>by have:=blk_lt PX.out;omega⟩;clear hg5 hp hb;obtain⟨⟨_,_,_,_,_,_⟩,⟨_,_,_,_,_,_⟩⟩:=Sep.blk6 B2.out)|((with_reducible refine Ye (t:=92) (p:=5) rfl ?_);refine Yd (t:=92) (p:=5) (v:= ?vo5_) (w1:=Sep.put6 w2 g5 (.int .i64 x0) (.int .i64 x1) (.int .i64 x2) (.int .i64 x3) (.int .i64 x4) (.int .i64 x5)) ?hg ?ho ?hn ?hr ?_;(case ho=>rfl);(case hg=>rfl);(case hn=>rfl);(case hr=>exact z6_0);intro w3 hw;have hb3:Below wr.heap.size wr w3:=z6_3;have P3:=Za (Zi PX.out hb3);have AF3:=Za (AX.out.below hb3);have B3:Aside0 (w3.heap[g5]? =some (.cells #[.int .i64 x0,.int .i64 x1,.int .i64 x2,.int .i64 x3,.int .i64 x4,.int .i64 x5] 92 (0,0))):=⟨by rw[hw];exact Sep.put6_blk B2.out _ _ _ _ _ _⟩;clear hw hb3;obtain⟨⟨_,_,_,_,_,_⟩,⟨_,_,_,_,_,_⟩⟩:=Sep.blk6 B3.out)|(go_at_call 105;(with_reducible refine(impl_hasExpr.calls x0 true _ HE.out).mono ?_);rintro e w4 ⟨rfl,hd⟩;have hb:Below w3.heap.size w3 w4:=z6_1;clear hd;have P4:=Za (Zi P3.out hb);have B4:=Za (Zi B3.out hb);have AF4:=Za (AF3.out.below hb);clear hb;obtain⟨⟨_,_,_,_,_,_⟩,⟨_,_,_,_,_,_⟩⟩:=Sep.blk6 B4.out)|(go_at_call 99;(with_reducible refine(reader_read.calls x3 x4 x5 st fi fi1 gx w4 HS.out HF.out P4.out TR.out).mono ?_);rintro e w5 ⟨rfl,hp,hl,ha⟩;have P5:=Za hp;have HF1:=Za hl;have B5:=Za (ha.blk B4.out NG.out);have AF5:=Za (AF4.out.trans ha);clear hp hl ha;obtain⟨⟨_,_,_,_,_,_⟩,⟨_,_,_,_,_,_⟩⟩:=Sep.blk6 B5.out)|(go_at_call 104;(with_reducible refine(impl_hasVar.calls x0 false _ HV.out).mono ?_);rintro e w6 ⟨rfl,hd⟩;have hb:Below w5.heap.size w5 w6:=z6_1;clear hd;have P6:=Za (Zi P5.out hb);have B6:=Za (Zi B5.out hb);have AF6:=Za (AF5.out.below hb);clear hb;obtain⟨⟨_,_,_,_,_,_⟩,⟨_,_,_,_,_,_⟩⟩:=Sep.blk6 B6.out)|fail)
       go_roundg k1
       case measure=>have:=HK1.out;omega
       case rel=>exact⟨wrap64 (i+1),st,fi1,by first|rfl|(simp;done)|(simp[*];done),TT,⟨by have:=HK1.out;omega⟩,HS,HF1,P6,AF6⟩
     ·have TA:=TQ.out
      obtain⟨fi1,A1,TB⟩:=Zg (show((reader_read.f x3 x4 x5 st fi).bind fun fi1=>_)=some r by rw[if_pos rfl] at TA;exact TA)
      have TR:=Za A1
      clear A1
      rw[if_pos rfl] at TB
      obtain⟨st1,A2,TC⟩:=Zg TB
      by_cases cy:0≤x1∧x1<8
      ·rw[if_pos cy] at A2
       cases A2
       have Y0:=Za cy.1
       have Y1:=Za cy.2
       have py:=eq_true cy.1
       have qy:=eq_true cy.2
       have H4:Aside0 (x0≠4):=⟨fun e=>by have:=HV.out;rw[e] at this;simp[impl_hasVar.f] at this⟩
       have TT:=Za (show rpass.l0 k1 l0 (wrap64 (i+1)) (st.set x1.toNat true) fi1=some r by rw[if_neg H4.out] at TC;exact TC)
       clear TA TB TC cy
       go_wp2_with (first|((with_reducible refine Zp (N:=5) rfl ?_);refine Zr ?hg (N:=5) ?hd (cs:= #[.int .i64 0,.int .i64 0,.int .i64 0,.int .i64 0,.int .i64 0,.int .i64 0]) (t:=92) ?hr ?_;(case hd=>rfl);(case hg=>rfl);(case hr=>exact z6_0);intro g5 hg5 w2 hp hb;have B2:=Za hp;have P2:=Za (Zi PX.out hb);have AF2:=Za (AX.out.below hb);have G5:Aside0 (wr.heap.size≤g5):=⟨Nat.le_of_eq hg5.symm⟩;have HB2:=Za hb;have NG:Aside0 (g5≠gx):=⟨fun e=>by have:=blk_lt PX.out;omega⟩;clear hg5 hp hb;obtain⟨⟨_,_,_,_,_,_⟩,⟨_,_,_,_,_,_⟩⟩:=Sep.blk6 B2.out)|((with_reducible refine Ye (t:=92) (p:=5) rfl ?_);refine Yd (t:=92) (p:=5) (v:= ?vo5_) (w1:=Sep.put6 w2 g5 (.int .i64 x0) (.int .i64 x1) (.int .i64 x2) (.int .i64 x3) (.int .i64 x4) (.int .i64 x5)) ?hg ?ho ?hn ?hr ?_;(case ho=>rfl);(case hg=>rfl);(case hn=>rfl);(case hr=>exact z6_0);intro w3 hw;have hb3:Below wr.heap.size wr w3:=z6_3;have P3:=Za (Zi PX.out hb3);have AF3:=Za (AX.out.below hb3);have B3:Aside0 (w3.heap[g5]? =some (.cells #[.int .i64 x0,.int .i64 x1,.int .i64 x2,.int .i64 x3,.int .i64 x4,.int .i64 x5] 92 (0,0))):=⟨by rw[hw];exact Sep.put6_blk B2.out _ _ _ _ _ _⟩;clear hw hb3;obtain⟨⟨_,_,_,_,_,_⟩,⟨_,_,_,_,_,_⟩⟩:=Sep.blk6 B3.out)|(go_at_call 105;(with_reducible refine(impl_hasExpr.calls x0 true _ HE.out).mono ?_);rintro e w4 ⟨rfl,hd⟩;have hb:Below w3.heap.size w3 w4:=z6_1;clear hd;have P4:=Za (Zi P3.out hb);have B4:=Za (Zi B3.out hb);have AF4:=Za (AF3.out.below hb);clear hb;obtain⟨⟨_,_,_,_,_,_⟩,⟨_,_,_,_,_,_⟩⟩:=Sep.blk6 B4.out)|(go_at_call 99;(with_reducible refine(reader_read.calls x3 x4 x5 st fi fi1 gx w4 HS.out HF.out P4.out TR.out).mono ?_);rintro e w5 ⟨rfl,hp,hl,ha⟩;have P5:=Za hp;have HF1:=Za hl;have B5:=Za (ha.blk B4.out NG.out);have AF5:=Za (AF4.out.trans ha);clear hp hl ha;obtain⟨⟨_,_,_,_,_,_⟩,⟨_,_,_,_,_,_⟩⟩:=Sep.blk6 B5.out)|(go_at_call 104;(with_reducible refine(impl_hasVar.calls x0 true _ HV.out).mono ?_);rintro e w6 ⟨rfl,hd⟩;have hb:Below w5.heap.size w5 w6:=z6_1;clear hd;have P6:=Za (Zi P5.out hb);have B6:=Za (Zi B5.out hb);have AF6:=Za (AF5.out.below hb);clear hb;obtain⟨⟨_,_,_,_,_,_⟩,⟨_,_,_,_,_,_⟩⟩:=Sep.blk6 B6.out)|fail)
       refine start_ (n:=7) (S:=fun w'=>w'.cell? ⟨g5,1,none⟩=some (.int .i64 x1)) (ds:=[6]) #[false,false,false,false,false,false,false] (by kernel_rfl) rfl rfl ((Zb B6.out 1).trans rfl) (fun hHeld=> ?_)
       refine pure_ (i:=0) (N:=some 28) (v:= ?_) (a':= ?_) #[true,false,false,false,false,false,false] rfl rfl (by kernel_rfl) (fun _ _ _ h=>h) (Or.inl ⟨by rfl,?_⟩) ?_ ?_
       rotate_left
       ·intro w'
        go_simp
        with_reducible rfl
       rotate_left
       ·simp only[Act.put,Zy,Ya,Yb,i64_w,i32_w]
        rfl
       refine pure_ (i:=1) (N:=some 29) (v:= ?_) (a':= ?_) #[true,true,false,false,false,false,false] rfl rfl (by kernel_rfl) (fun _ _ _ h=>h) (Or.inl ⟨by rfl,?_⟩) ?_ ?_
       rotate_left
       ·intro w'
        go_simp
        with_reducible rfl
       rotate_left
       ·simp only[Act.put,Zy,Ya,Yb,i64_w,i32_w]
        rfl
       refine take_ (i:=2) (N:=some 30) (v:= ?_) (a':= ?_) #[true,true,true,false,false,false,false] rfl rfl (by kernel_rfl) (fun _ _ _ h=>h) (Or.inl ⟨by rfl,?_⟩) hHeld ?_ ?_
       rotate_left
       ·intro w' s0
        obtain _:=s0
        go_simp
        with_reducible rfl
       rotate_left
       ·simp only[Act.put,Zy,Ya,Yb,i64_w,i32_w]
        rfl
       refine pure_ (i:=3) (N:=some 31) (v:= ?_) (a':= ?_) #[true,true,true,true,false,false,false] rfl rfl (by kernel_rfl) (fun _ _ _ h=>h) (Or.inl ⟨by rfl,?_⟩) ?_ ?_
       rotate_left
       ·intro w'
        go_simp
        with_reducible rfl
       rotate_left
       ·simp only[Act.put,Zy,Ya,Yb,i64_w,i32_w]
        rfl
       refine pure_ (i:=4) (N:=some 32) (v:= ?_) (a':= ?_) #[true,true,true,true,true,false,false] rfl rfl (by kernel_rfl) (fun _ _ _ h=>h) (Or.inl ⟨by rfl,?_⟩) ?_ ?_
       rotate_left
       ·intro w'
        go_simp
        with_reducible rfl
       rotate_left
       ·simp only[Act.put,Zy,Ya,Yb,i64_w,i32_w]
        rfl
       refine pure_ (i:=5) (N:=some 33) (v:= ?_) (a':= ?_) #[true,true,true,true,true,true,false] rfl rfl (by kernel_rfl) (fun _ _ _ h=>h) (Or.inl ⟨by rfl,?_⟩) ?_ ?_
       rotate_left
       ·intro w'
        go_simp
        with_reducible rfl
       rotate_left
       ·simp only[Act.put,Zy,Ya,Yb,i64_w,i32_w]
        rfl
       refine last_ (i:=6) (N:=none) #[true,true,true,true,true,true,true] rfl rfl (by kernel_rfl) (by decide) (fun K hK=> ?_)
       obtain⟨hq1,hq2,-⟩:=rdr_set (w:=w6.drew) P6.out Y0.out Y1.out HS.out HF1.out
       refine skip_ (w1:= ?_) (by rfl) rfl ?_ ?_
       rotate_left
       ·go_simp
        rfl
       refine hK _ _ ?_
       clear hK K
       refine done_ (by kernel_rfl) ?_
       have P7:Aside0 (((w6.setCell ⟨gx,x1.toNat,none⟩ (.bool true)).drew).heap[gx]? =some (rdr (st.set x1.toNat true) fi1)):=⟨(rdr_set (w:=w6) P6.out Y0.out Y1.out HS.out HF1.out).2.2⟩
       have B7:Aside0 (((w6.setCell ⟨gx,x1.toNat,none⟩ (.bool true)).drew).heap[g5]? =some (.cells #[.int .i64 x0,.int .i64 x1,.int .i64 x2,.int .i64 x3,.int .i64 x4,.int .i64 x5] 92 (0,0))):=⟨(Below.heap_setCell w6 ⟨gx,x1.toNat,none⟩ (.bool true) g5 NG.out).trans B6.out⟩
       have AF7:Aside0 (Sep.After (fun k=>k=gx) w (fun k=>k=gx) ((w6.setCell ⟨gx,x1.toNat,none⟩ (.bool true)).drew)):=⟨(AF6.out.trans (after_set (w:=w6) (F:=(fun k=>k=gx)) rfl x1.toNat (.bool true))).below (by repeat(first|exact Zx _ _|apply Ze))⟩
       generalize (w6.setCell ⟨gx,x1.toNat,none⟩ (.bool true)).drew=w7 at*
       clear hHeld
       obtain⟨⟨_,_,_,_,_,_⟩,⟨_,_,_,_,_,_⟩⟩:=Sep.blk6 B7.out
       have h4b:(x0==4)=false:=beq_eq_false_iff_ne.mpr H4.out
       have h4c:decide (x0=4)=false:=Yf H4.out
       go_wp2
       go_roundg k1
       case measure=>have:=HK1.out;omega
       case rel=>exact⟨wrap64 (i+1),st.set x1.toNat true,fi1,by first|rfl|(simp;done)|(simp[*];done),TT,⟨by have:=HK1.out;omega⟩,⟨by rw[List.length_set];exact HS.out⟩,HF1,P7,AF7⟩
      ·rw[if_neg cy] at A2
       cases A2
    ·rw[if_neg c2] at H
     exact absurd H (by simp)
   ·rw[if_neg c1] at H
    have c1b:decide (i<(l0.length:Int))=false:=Yf c1
    obtain rfl:=Zk H
    clear H c1
    go_wp2
    go_end0
    exact⟨rfl,PX.out,HS.out,HF.out,AX.out⟩
theorem heapStmt2:Kd.Heap k92:=Kd.heap_iso _ (Kd.heap_pair (Kd.heap_int .i64) (Kd.heap_pair (Kd.heap_int .i64) (Kd.heap_pair (Kd.heap_int .i64) (Kd.heap_iso _ (Kd.heap_pair (Kd.heap_int .i64) (Kd.heap_pair (Kd.heap_int .i64) (Kd.heap_int .i64)))))))
def z8:List Bool:=[false,false,false,false,false,false,false,false]
def firstL (fi:List Bool):Nat→Int→List Int
 |0,_=>[]
 |n+1,i=>if rdB8 fi i=true then i::firstL fi n (i+1) else firstL fi n (i+1)
theorem rdr_load2 {w:World} {gx:Nat} {st fi:List Bool} (h:w.heap[gx]? =some (rdr st fi)) (hs:st.length=8) (hf:fi.length=8):
  w.cell? ⟨gx,8,none⟩=some (.bool (rdB8 fi 0))∧w.cell? ⟨gx,9,none⟩=some (.bool (rdB8 fi 1))∧w.cell? ⟨gx,10,none⟩=some (.bool (rdB8 fi 2))∧w.cell? ⟨gx,11,none⟩=some (.bool (rdB8 fi 3))∧w.cell? ⟨gx,12,none⟩=some (.bool (rdB8 fi 4))∧w.cell? ⟨gx,13,none⟩=some (.bool (rdB8 fi 5))∧w.cell? ⟨gx,14,none⟩=some (.bool (rdB8 fi 6))∧w.cell? ⟨gx,15,none⟩=some (.bool (rdB8 fi 7)):=
 ⟨(rdr_first (y:=0) h (by omega) (by omega) hs hf).1,(rdr_first (y:=1) h (by omega) (by omega) hs hf).1,(rdr_first (y:=2) h (by omega) (by omega) hs hf).1,(rdr_first (y:=3) h (by omega) (by omega) hs hf).1,(rdr_first (y:=4) h (by omega) (by omega) hs hf).1,(rdr_first (y:=5) h (by omega) (by omega) hs hf).1,(rdr_first (y:=6) h (by omega) (by omega) hs hf).1,(rdr_first (y:=7) h (by omega) (by omega) hs hf).1⟩
def impl_MayReadFirst.f (k:Nat) (l0:List S92) (a1 a2 a3:Int):Option (List Int):=(impl_taskOk.f k l0 a1 a2 a3).bind fun b=>if b=true then (rpass.f k l0 z8 z8).bind fun s=>(reader_read.f a1 a2 a3 s.1 s.2).bind fun fi=>some (firstL fi 8 0) else some []
theorem impl_MayReadFirst.mono:∀a0 a1 a2 a3 k,LeO (impl_MayReadFirst.f k a0 a1 a2 a3) (impl_MayReadFirst.f (k+1) a0 a1 a2 a3):=by
 intro a0 a1 a2 a3 k
 unfold impl_MayReadFirst.f
 exact Zt (impl_taskOk.mono _ _ _ _ k) (fun _=>Zu (Zt ((rpass.mono_l k).1 _ _ _) (fun _=>Yn _)) (Yn _))
set_option maxHeartbeats 8000000 in
set_option maxRecDepth 100000 in
theorem impl_MayReadFirst.calls (k:Nat) (A0:Option Addr) (c0:Nat) (l0:List S92) (a1 a2 a3:Int) (r:List Int) (w:World) (hr0:Kd.C k92 w A0 l0.length l0) (hc0:l0.length≤c0) (h:impl_MayReadFirst.f k l0 a1 a2 a3=some r):
  Calls Tryz.prog 72 #[.agg #[.slice A0 l0.length c0,.int .i64 a1,.int .i64 a2,.int .i64 a3]] w fun e w'=>∃v0_:Value,e= .returned (v0_)∧Kd.R (Kd.int .i64) 3 w' w.heap.size (fun _=>True) v0_ r∧Below w.heap.size w w':=by
 unfold impl_MayReadFirst.f at h
 obtain⟨b,hb,h⟩:=Zg h
 have HR0:=Za hr0
 have HC0:=Za hc0
 have TB:=Za hb
 clear hr0 hc0 hb
 cases b with
 |false=>
  rw[if_neg (by decide)] at h
  cases h
  go_enter Tryz.func72,Tryz.ntmps72
  go_wp2_with (first|((with_reducible refine Zp (N:=1) rfl ?_);refine Zr ?hg (N:=1) ?hd (cs:= #[.slice A0 l0.length c0,.int .i64 a1,.int .i64 a2,.int .i64 a3]) (t:=75) ?hr ?_;(case hd=>rfl);(case hg=>rfl);(case hr=>exact z6_0);intro g1 hg1 w1 hp hb;have B1:=Za hp;have HB1:=Za hb;clear hg1 hp hb;obtain⟨⟨_,_,_,_⟩,⟨_,_,_,_⟩⟩:=Sep.blk4 B1.out)|(go_at_call 71;(with_reducible refine(impl_taskOk.calls k _ _ l0 a1 a2 a3 false _ ?sd1 HC0.out TB.out).mono ?_);(case sd1=>exact Yl HR0.out HB1.out);rintro e w2 ⟨rfl,hb2⟩;have B2:=Za (Zi B1.out hb2);have HB2:=Za (Zj HB1.out hb2);clear hb2;obtain⟨⟨_,_,_,_⟩,⟨_,_,_,_⟩⟩:=Sep.blk4 B2.out)|fail)
  go_ret
  exact⟨_,rfl,Kd.R_nil _ _ _ _ _,HB2.out⟩
 |true=>
  rw[if_pos rfl] at h
  obtain⟨s,hp,h⟩:=Zg h
  obtain⟨fi,hr,h⟩:=Zg h
  cases h
  have TP:=Za hp
  have TR:=Za hr
  clear hp hr
  go_enter Tryz.func72,Tryz.ntmps72
  go_wp2_with (first|((with_reducible refine Zp (N:=1) rfl ?_);refine Zr ?hg (N:=1) ?hd (cs:= #[.slice A0 l0.length c0,.int .i64 a1,.int .i64 a2,.int .i64 a3]) (t:=75) ?hr ?_;(case hd=>rfl);(case hg=>rfl);(case hr=>exact z6_0);intro g1 hg1 w1 hp hb;have B1:=Za hp;have HB1:=Za hb;clear hg1 hp hb;obtain⟨⟨_,_,_,_⟩,⟨_,_,_,_⟩⟩:=Sep.blk4 B1.out)|(go_at_call 71;(with_reducible refine(impl_taskOk.calls k _ _ l0 a1 a2 a3 true _ ?sd1 HC0.out TB.out).mono ?_);(case sd1=>exact Yl HR0.out HB1.out);rintro e w2 ⟨rfl,hb2⟩;have B2:=Za (Zi B1.out hb2);have HB2:=Za (Zj HB1.out hb2);clear hb2;obtain⟨⟨_,_,_,_⟩,⟨_,_,_,_⟩⟩:=Sep.blk4 B2.out)|((with_reducible refine Zp (N:=11) rfl ?_);refine Zr ?hg (N:=11) ?hd (cs:= #[.bool false,.bool false,.bool false,.bool false,.bool false,.bool false,.bool false,.bool false,.bool false,.bool false,.bool false,.bool false,.bool false,.bool false,.bool false,.bool false]) (t:=125) ?hr ?_;(case hd=>rfl);(case hg=>rfl);(case hr=>exact z6_0);intro gx hgx w3 hp hb;have P3:Aside0 (w3.heap[gx]? =some (rdr z8 z8)):=⟨hp⟩;have GX:Aside0 (w.heap.size≤gx):=⟨by rw[hgx];exact HB2.out.size⟩;have B3:=Za (Zi B2.out hb);have N1:Aside0 (g1≠gx):=⟨fun e=>by have:=blk_lt B2.out;omega⟩;have HB3:=Za (Zj HB2.out hb);clear hgx hp hb;obtain⟨⟨_,_,_,_⟩,⟨_,_,_,_⟩⟩:=Sep.blk4 B3.out)|(go_at_call 98;(with_reducible refine(reader_pass.calls k A0 c0 l0 z8 z8 s gx w3 ?sd2 HC0.out rfl rfl P3.out TP.out).mono ?_);(case sd2=>exact fun w' hk=>heapStmt2.C (fun q hq=>(hk.2 q (Nat.lt_of_lt_of_le hq HB3.out.size) (fun e=>by have:=GX.out;omega)).trans (HB3.out.block q hq)) HR0.out);rintro e w4 ⟨rfl,hp,hl1,hl2,ha⟩;have P4:=Za hp;have S4:=Za hl1;have F4:=Za hl2;have B4:=Za (ha.blk B3.out N1.out);have AF4:=Za ha;clear hp hl1 hl2 ha;obtain⟨⟨_,_,_,_⟩,⟨_,_,_,_⟩⟩:=Sep.blk4 B4.out)|(go_at_call 99;(with_reducible refine(reader_read.calls a1 a2 a3 s.1 s.2 fi gx w4 S4.out F4.out P4.out TR.out).mono ?_);rintro e w5 ⟨rfl,hp,hl,ha⟩;have P5:=Za hp;have F5:=Za hl;have S5:=S4;have AF5:=Za (AF4.out.trans ha);have HB5:Aside0 (Below w.heap.size w w5):=⟨AF5.out.to_below (fun q hq=>by have:=GX.out;omega) HB3.out⟩;clear hp hl ha)|((with_reducible refine Zp (N:=20) rfl ?_);refine Kd.R_lit (Kd.int .i64) _ 3 ?hg (N:=20) ?hd (xs:=([]:List Int)) (inner:=[]) (ok:=fun _=>True) (okp:=fun _=>True) ?hr ?hp (fun _ hk=>hk) trivial (Zx _ _) (Nat.le_refl _) (by simp) ?_;(case hd=>rfl);(case hg=>rfl);(case hr=>exact z6_0);(case hp=>exact(Reps.none _ _));intro v20 w6 ho hb hg hat;have R6:=Za (Sep.rowI.of_R ho);have V6:Aside0 (∀q,v20.ownBlock=some q→w.heap.size≤q):=⟨fun q hq=>Nat.le_trans HB5.out.size (Yo ho q hq)⟩;have HB6:=Za (Zj HB5.out hb);have P6:=Za (Zi P5.out hb);clear ho hb hg hat;obtain⟨_,_,_,_,_,_,_,_⟩:=rdr_load2 P6.out S5.out F5.out)|fail)
  go_loopw [4,25] (fun v4 v25 w'=>∃(x:Int) (xs:List Int),v25= .int .i64 x∧Aside0 (0≤x)∧Aside0 (x≤8)∧Aside0 (xs++firstL fi (8 - x.toNat) x=firstL fi 8 0)∧Aside0 ((xs.length:Int)≤x)∧Aside0 (Sep.rowI 3 w' v4 xs)∧Aside0 (∀k,v4.ownBlock=some k→w.heap.size≤k)∧Aside0 (Below w.heap.size w w')) (fun _ v25 _=>8 - (intOf v25).toNat)
  case atStart=>exact⟨0,[],rfl,⟨by omega⟩,⟨by omega⟩,⟨rfl⟩,⟨by simp⟩,R6,V6,HB6⟩
  case round=>
   clear R6 V6 HB6 P6 P5 P4 P3 B4 B3 B2 B1 HB1 HB2 HB3 HB5 AF4 AF5
   obtain⟨x,xs,rfl,Hx0,Hx1,HX,LX,RO,VO,HB⟩:=hrel
   obtain⟨A3,c3,e3,-,-⟩:=RO.out.open_
   subst e3
   have hx:x=0∨x=1∨x=2∨x=3∨x=4∨x=5∨x=6∨x=7∨x=8:=by have:=Hx0.out;have:=Hx1.out;omega
   rcases hx with rfl|rfl|rfl|rfl|rfl|rfl|rfl|rfl|rfl
   ·obtain⟨b,hb⟩:∃b,rdB8 fi 0=b:=⟨_,rfl⟩
    have HXT:=HX.out
    have hst:firstL fi (8 - (0:Int).toNat) 0=if b=true then 0::firstL fi 7 1 else firstL fi 7 1:=by
     show(if rdB8 fi 0=true then (0:Int)::firstL fi 7 (0+1) else firstL fi 7 (0+1))=_
     rw[hb]
     rfl
    rw[hst] at HXT
    clear hst
    have hidx:∀W:World,(Instr.index 86 (.agg #[.bool (rdB8 fi 0),.bool (rdB8 fi 1),.bool (rdB8 fi 2),.bool (rdB8 fi 3),.bool (rdB8 fi 4),.bool (rdB8 fi 5),.bool (rdB8 fi 6),.bool (rdB8 fi 7)]) (.int .i64 0)).run Tryz.prog W= .ok (.bool b) W:=by
     intro W
     rw[←hb]
     simp[Instr.index,run_underlying Tryz.underlying86,asIntOf,go_sem]
    clear HX hb
    cases b with
    |true=>
     have HXV:=Za (show(xs++[(0:Int)])++firstL fi 7 1=firstL fi 8 0 by rw[if_pos rfl] at HXT;rw[List.append_assoc];exact HXT)
     clear HXT
     go_wp2_with (first|((with_reducible refine gate_builtin (b:= .append) (xs:= #[.tmp 30,.tmp 32]) rfl ?_);at_builtin;refine Kd.R_append (Kd.int .i64) (w0:=w) w.heap.size rfl (.tmp 30) (.tmp 32) 27 3 (.int .i64 0) 8 rfl Tryz.underlying27 info3 rfl (by decide) (by omega) (.slice A3 xs.length c3) xs (0:Int) [.int .i64 (0:Int)] (fun _=>True) (fun _=>False) rfl rfl ?aP (fun _ hk=>hk.elim) ?aF ?aO ?aB ?aS ?aL ?_;(case aP=>exact rfl);(case aB=>exact HB.out);(case aF=>exact(fun _ _=>trivial));(case aO=>exact z6_2);(case aS=>exact HB.out.size);(case aL=>have:=LX.out;omega);intro v17 w7 ho hb hg hat;have V7:Aside0 (∀k,v17.ownBlock=some k→w.heap.size≤k):=⟨fun k hk=>Yo ho k hk⟩;have R7:=Za (Sep.rowI.of_R ho);have HB7:=Za hb;clear ho hb hg hat)|fail)
     go_roundw
     case rel=>exact⟨1,xs++[0],rfl,⟨by omega⟩,⟨by omega⟩,HXV,⟨by have:=LX.out;rw[List.length_append,List.length_singleton];omega⟩,R7,V7,HB7⟩
     case measure=>simp[intOf]
    |false=>
     have HXV:=Za (show xs++firstL fi 7 1=firstL fi 8 0 by rw[if_neg (by decide)] at HXT;exact HXT)
     clear HXT
     go_wp2
     go_roundw
     case rel=>exact⟨1,xs,rfl,⟨by omega⟩,⟨by omega⟩,HXV,⟨by have:=LX.out;omega⟩,RO,VO,HB⟩
     case measure=>simp[intOf]
   ·obtain⟨b,hb⟩:∃b,rdB8 fi 1=b:=⟨_,rfl⟩
    have HXT:=HX.out
    have hst:firstL fi (8 - (1:Int).toNat) 1=if b=true then 1::firstL fi 6 2 else firstL fi 6 2:=by
     show(if rdB8 fi 1=true then (1:Int)::firstL fi 6 (1+1) else firstL fi 6 (1+1))=_
     rw[hb]
     rfl
    rw[hst] at HXT
    clear hst
    have hidx:∀W:World,(Instr.index 86 (.agg #[.bool (rdB8 fi 0),.bool (rdB8 fi 1),.bool (rdB8 fi 2),.bool (rdB8 fi 3),.bool (rdB8 fi 4),.bool (rdB8 fi 5),.bool (rdB8 fi 6),.bool (rdB8 fi 7)]) (.int .i64 1)).run Tryz.prog W= .ok (.bool b) W:=by
     intro W
     rw[←hb]
     simp[Instr.index,run_underlying Tryz.underlying86,asIntOf,go_sem]
    clear HX hb
    cases b with
    |true=>
     have HXV:=Za (show(xs++[(1:Int)])++firstL fi 6 2=firstL fi 8 0 by rw[if_pos rfl] at HXT;rw[List.append_assoc];exact HXT)
     clear HXT
     go_wp2_with (first|((with_reducible refine gate_builtin (b:= .append) (xs:= #[.tmp 30,.tmp 32]) rfl ?_);at_builtin;refine Kd.R_append (Kd.int .i64) (w0:=w) w.heap.size rfl (.tmp 30) (.tmp 32) 27 3 (.int .i64 0) 8 rfl Tryz.underlying27 info3 rfl (by decide) (by omega) (.slice A3 xs.length c3) xs (1:Int) [.int .i64 (1:Int)] (fun _=>True) (fun _=>False) rfl rfl ?aP (fun _ hk=>hk.elim) ?aF ?aO ?aB ?aS ?aL ?_;(case aP=>exact rfl);(case aB=>exact HB.out);(case aF=>exact(fun _ _=>trivial));(case aO=>exact z6_2);(case aS=>exact HB.out.size);(case aL=>have:=LX.out;omega);intro v17 w7 ho hb hg hat;have V7:Aside0 (∀k,v17.ownBlock=some k→w.heap.size≤k):=⟨fun k hk=>Yo ho k hk⟩;have R7:=Za (Sep.rowI.of_R ho);have HB7:=Za hb;clear ho hb hg hat)|fail)
     go_roundw
     case rel=>exact⟨2,xs++[1],rfl,⟨by omega⟩,⟨by omega⟩,HXV,⟨by have:=LX.out;rw[List.length_append,List.length_singleton];omega⟩,R7,V7,HB7⟩
     case measure=>simp[intOf]
    |false=>
     have HXV:=Za (show xs++firstL fi 6 2=firstL fi 8 0 by rw[if_neg (by decide)] at HXT;exact HXT)
     clear HXT
     go_wp2
     go_roundw
     case rel=>exact⟨2,xs,rfl,⟨by omega⟩,⟨by omega⟩,HXV,⟨by have:=LX.out;omega⟩,RO,VO,HB⟩
     case measure=>simp[intOf]
   ·obtain⟨b,hb⟩:∃b,rdB8 fi 2=b:=⟨_,rfl⟩
    have HXT:=HX.out
    have hst:firstL fi (8 - (2:Int).toNat) 2=if b=true then 2::firstL fi 5 3 else firstL fi 5 3:=by
     show(if rdB8 fi 2=true then (2:Int)::firstL fi 5 (2+1) else firstL fi 5 (2+1))=_
     rw[hb]
     rfl
    rw[hst] at HXT
    clear hst
    have hidx:∀W:World,(Instr.index 86 (.agg #[.bool (rdB8 fi 0),.bool (rdB8 fi 1),.bool (rdB8 fi 2),.bool (rdB8 fi 3),.bool (rdB8 fi 4),.bool (rdB8 fi 5),.bool (rdB8 fi 6),.bool (rdB8 fi 7)]) (.int .i64 2)).run Tryz.prog W= .ok (.bool b) W:=by
     intro W
     rw[←hb]
     simp[Instr.index,run_underlying Tryz.underlying86,asIntOf,go_sem]
    clear HX hb
    cases b with
    |true=>
     have HXV:=Za (show(xs++[(2:Int)])++firstL fi 5 3=firstL fi 8 0 by rw[if_pos rfl] at HXT;rw[List.append_assoc];exact HXT)
     clear HXT
     go_wp2_with (first|((with_reducible refine gate_builtin (b:= .append) (xs:= #[.tmp 30,.tmp 32]) rfl ?_);at_builtin;refine Kd.R_append (Kd.int .i64) (w0:=w) w.heap.size rfl (.tmp 30) (.tmp 32) 27 3 (.int .i64 0) 8 rfl Tryz.underlying27 info3 rfl (by decide) (by omega) (.slice A3 xs.length c3) xs (2:Int) [.int .i64 (2:Int)] (fun _=>True) (fun _=>False) rfl rfl ?aP (fun _ hk=>hk.elim) ?aF ?aO ?aB ?aS ?aL ?_;(case aP=>exact rfl);(case aB=>exact HB.out);(case aF=>exact(fun _ _=>trivial));(case aO=>exact z6_2);(case aS=>exact HB.out.size);(case aL=>have:=LX.out;omega);intro v17 w7 ho hb hg hat;have V7:Aside0 (∀k,v17.ownBlock=some k→w.heap.size≤k):=⟨fun k hk=>Yo ho k hk⟩;have R7:=Za (Sep.rowI.of_R ho);have HB7:=Za hb;clear ho hb hg hat)|fail)
     go_roundw
     case rel=>exact⟨3,xs++[2],rfl,⟨by omega⟩,⟨by omega⟩,HXV,⟨by have:=LX.out;rw[List.length_append,List.length_singleton];omega⟩,R7,V7,HB7⟩
     case measure=>simp[intOf]
    |false=>
     have HXV:=Za (show xs++firstL fi 5 3=firstL fi 8 0 by rw[if_neg (by decide)] at HXT;exact HXT)
     clear HXT
     go_wp2
     go_roundw
     case rel=>exact⟨3,xs,rfl,⟨by omega⟩,⟨by omega⟩,HXV,⟨by have:=LX.out;omega⟩,RO,VO,HB⟩
     case measure=>simp[intOf]
   ·obtain⟨b,hb⟩:∃b,rdB8 fi 3=b:=⟨_,rfl⟩
    have HXT:=HX.out
    have hst:firstL fi (8 - (3:Int).toNat) 3=if b=true then 3::firstL fi 4 4 else firstL fi 4 4:=by
     show(if rdB8 fi 3=true then (3:Int)::firstL fi 4 (3+1) else firstL fi 4 (3+1))=_
     rw[hb]
     rfl
    rw[hst] at HXT
    clear hst
    have hidx:∀W:World,(Instr.index 86 (.agg #[.bool (rdB8 fi 0),.bool (rdB8 fi 1),.bool (rdB8 fi 2),.bool (rdB8 fi 3),.bool (rdB8 fi 4),.bool (rdB8 fi 5),.bool (rdB8 fi 6),.bool (rdB8 fi 7)]) (.int .i64 3)).run Tryz.prog W= .ok (.bool b) W:=by
     intro W
     rw[←hb]
     simp[Instr.index,run_underlying Tryz.underlying86,asIntOf,go_sem]
    clear HX hb
    cases b with
    |true=>
     have HXV:=Za (show(xs++[(3:Int)])++firstL fi 4 4=firstL fi 8 0 by rw[if_pos rfl] at HXT;rw[List.append_assoc];exact HXT)
     clear HXT
     go_wp2_with (first|((with_reducible refine gate_builtin (b:= .append) (xs:= #[.tmp 30,.tmp 32]) rfl ?_);at_builtin;refine Kd.R_append (Kd.int .i64) (w0:=w) w.heap.size rfl (.tmp 30) (.tmp 32) 27 3 (.int .i64 0) 8 rfl Tryz.underlying27 info3 rfl (by decide) (by omega) (.slice A3 xs.length c3) xs (3:Int) [.int .i64 (3:Int)] (fun _=>True) (fun _=>False) rfl rfl ?aP (fun _ hk=>hk.elim) ?aF ?aO ?aB ?aS ?aL ?_;(case aP=>exact rfl);(case aB=>exact HB.out);(case aF=>exact(fun _ _=>trivial));(case aO=>exact z6_2);(case aS=>exact HB.out.size);(case aL=>have:=LX.out;omega);intro v17 w7 ho hb hg hat;have V7:Aside0 (∀k,v17.ownBlock=some k→w.heap.size≤k):=⟨fun k hk=>Yo ho k hk⟩;have R7:=Za (Sep.rowI.of_R ho);have HB7:=Za hb;clear ho hb hg hat)|fail)
     go_roundw
     case rel=>exact⟨4,xs++[3],rfl,⟨by omega⟩,⟨by omega⟩,HXV,⟨by have:=LX.out;rw[List.length_append,List.length_singleton];omega⟩,R7,V7,HB7⟩
     case measure=>simp[intOf]
    |false=>
     have HXV:=Za (show xs++firstL fi 4 4=firstL fi 8 0 by rw[if_neg (by decide)] at HXT;exact HXT)
     clear HXT
     go_wp2
     go_roundw
     case rel=>exact⟨4,xs,rfl,⟨by omega⟩,⟨by omega⟩,HXV,⟨by have:=LX.out;omega⟩,RO,VO,HB⟩
     case measure=>simp[intOf]
   ·obtain⟨b,hb⟩:∃b,rdB8 fi 4=b:=⟨_,rfl⟩
    have HXT:=HX.out
    have hst:firstL fi (8 - (4:Int).toNat) 4=if b=true then 4::firstL fi 3 5 else firstL fi 3 5:=by
     show(if rdB8 fi 4=true then (4:Int)::firstL fi 3 (4+1) else firstL fi 3 (4+1))=_
     rw[hb]
     rfl
    rw[hst] at HXT
    clear hst
    have hidx:∀W:World,(Instr.index 86 (.agg #[.bool (rdB8 fi 0),.bool (rdB8 fi 1),.bool (rdB8 fi 2),.bool (rdB8 fi 3),.bool (rdB8 fi 4),.bool (rdB8 fi 5),.bool (rdB8 fi 6),.bool (rdB8 fi 7)]) (.int .i64 4)).run Tryz.prog W= .ok (.bool b) W:=by
     intro W
     rw[←hb]
     simp[Instr.index,run_underlying Tryz.underlying86,asIntOf,go_sem]
    clear HX hb
    cases b with
    |true=>
     have HXV:=Za (show(xs++[(4:Int)])++firstL fi 3 5=firstL fi 8 0 by rw[if_pos rfl] at HXT;rw[List.append_assoc];exact HXT)
     clear HXT
     go_wp2_with (first|((with_reducible refine gate_builtin (b:= .append) (xs:= #[.tmp 30,.tmp 32]) rfl ?_);at_builtin;refine Kd.R_append (Kd.int .i64) (w0:=w) w.heap.size rfl (.tmp 30) (.tmp 32) 27 3 (.int .i64 0) 8 rfl Tryz.underlying27 info3 rfl (by decide) (by omega) (.slice A3 xs.length c3) xs (4:Int) [.int .i64 (4:Int)] (fun _=>True) (fun _=>False) rfl rfl ?aP (fun _ hk=>hk.elim) ?aF ?aO ?aB ?aS ?aL ?_;(case aP=>exact rfl);(case aB=>exact HB.out);(case aF=>exact(fun _ _=>trivial));(case aO=>exact z6_2);(case aS=>exact HB.out.size);(case aL=>have:=LX.out;omega);intro v17 w7 ho hb hg hat;have V7:Aside0 (∀k,v17.ownBlock=some k→w.heap.size≤k):=⟨fun k hk=>Yo ho k hk⟩;have R7:=Za (Sep.rowI.of_R ho);have HB7:=Za hb;clear ho hb hg hat)|fail)
     go_roundw
     case rel=>exact⟨5,xs++[4],rfl,⟨by omega⟩,⟨by omega⟩,HXV,⟨by have:=LX.out;rw[List.length_append,List.length_singleton];omega⟩,R7,V7,HB7⟩
     case measure=>simp[intOf]
    |false=>
     have HXV:=Za (show xs++firstL fi 3 5=firstL fi 8 0 by rw[if_neg (by decide)] at HXT;exact HXT)
     clear HXT
     go_wp2
     go_roundw
     case rel=>exact⟨5,xs,rfl,⟨by omega⟩,⟨by omega⟩,HXV,⟨by have:=LX.out;omega⟩,RO,VO,HB⟩
     case measure=>simp[intOf]
   ·obtain⟨b,hb⟩:∃b,rdB8 fi 5=b:=⟨_,rfl⟩
    have HXT:=HX.out
    have hst:firstL fi (8 - (5:Int).toNat) 5=if b=true then 5::firstL fi 2 6 else firstL fi 2 6:=by
     show(if rdB8 fi 5=true then (5:Int)::firstL fi 2 (5+1) else firstL fi 2 (5+1))=_
     rw[hb]
     rfl
    rw[hst] at HXT
    clear hst
    have hidx:∀W:World,(Instr.index 86 (.agg #[.bool (rdB8 fi 0),.bool (rdB8 fi 1),.bool (rdB8 fi 2),.bool (rdB8 fi 3),.bool (rdB8 fi 4),.bool (rdB8 fi 5),.bool (rdB8 fi 6),.bool (rdB8 fi 7)]) (.int .i64 5)).run Tryz.prog W= .ok (.bool b) W:=by
     intro W
     rw[←hb]
     simp[Instr.index,run_underlying Tryz.underlying86,asIntOf,go_sem]
    clear HX hb
    cases b with
    |true=>
     have HXV:=Za (show(xs++[(5:Int)])++firstL fi 2 6=firstL fi 8 0 by rw[if_pos rfl] at HXT;rw[List.append_assoc];exact HXT)
     clear HXT
     go_wp2_with (first|((with_reducible refine gate_builtin (b:= .append) (xs:= #[.tmp 30,.tmp 32]) rfl ?_);at_builtin;refine Kd.R_append (Kd.int .i64) (w0:=w) w.heap.size rfl (.tmp 30) (.tmp 32) 27 3 (.int .i64 0) 8 rfl Tryz.underlying27 info3 rfl (by decide) (by omega) (.slice A3 xs.length c3) xs (5:Int) [.int .i64 (5:Int)] (fun _=>True) (fun _=>False) rfl rfl ?aP (fun _ hk=>hk.elim) ?aF ?aO ?aB ?aS ?aL ?_;(case aP=>exact rfl);(case aB=>exact HB.out);(case aF=>exact(fun _ _=>trivial));(case aO=>exact z6_2);(case aS=>exact HB.out.size);(case aL=>have:=LX.out;omega);intro v17 w7 ho hb hg hat;have V7:Aside0 (∀k,v17.ownBlock=some k→w.heap.size≤k):=⟨fun k hk=>Yo ho k hk⟩;have R7:=Za (Sep.rowI.of_R ho);have HB7:=Za hb;clear ho hb hg hat)|fail)
     go_roundw
     case rel=>exact⟨6,xs++[5],rfl,⟨by omega⟩,⟨by omega⟩,HXV,⟨by have:=LX.out;rw[List.length_append,List.length_singleton];omega⟩,R7,V7,HB7⟩
     case measure=>simp[intOf]
    |false=>
     have HXV:=Za (show xs++firstL fi 2 6=firstL fi 8 0 by rw[if_neg (by decide)] at HXT;exact HXT)
     clear HXT
     go_wp2
     go_roundw
     case rel=>exact⟨6,xs,rfl,⟨by omega⟩,⟨by omega⟩,HXV,⟨by have:=LX.out;omega⟩,RO,VO,HB⟩
     case measure=>simp[intOf]
   ·obtain⟨b,hb⟩:∃b,rdB8 fi 6=b:=⟨_,rfl⟩
    have HXT:=HX.out
    have hst:firstL fi (8 - (6:Int).toNat) 6=if b=true then 6::firstL fi 1 7 else firstL fi 1 7:=by
     show(if rdB8 fi 6=true then (6:Int)::firstL fi 1 (6+1) else firstL fi 1 (6+1))=_
     rw[hb]
     rfl
    rw[hst] at HXT
    clear hst
    have hidx:∀W:World,(Instr.index 86 (.agg #[.bool (rdB8 fi 0),.bool (rdB8 fi 1),.bool (rdB8 fi 2),.bool (rdB8 fi 3),.bool (rdB8 fi 4),.bool (rdB8 fi 5),.bool (rdB8 fi 6),.bool (rdB8 fi 7)]) (.int .i64 6)).run Tryz.prog W= .ok (.bool b) W:=by
     intro W
     rw[←hb]
     simp[Instr.index,run_underlying Tryz.underlying86,asIntOf,go_sem]
    clear HX hb
    cases b with
    |true=>
     have HXV:=Za (show(xs++[(6:Int)])++firstL fi 1 7=firstL fi 8 0 by rw[if_pos rfl] at HXT;rw[List.append_assoc];exact HXT)
     clear HXT
     go_wp2_with (first|((with_reducible refine gate_builtin (b:= .append) (xs:= #[.tmp 30,.tmp 32]) rfl ?_);at_builtin;refine Kd.R_append (Kd.int .i64) (w0:=w) w.heap.size rfl (.tmp 30) (.tmp 32) 27 3 (.int .i64 0) 8 rfl Tryz.underlying27 info3 rfl (by decide) (by omega) (.slice A3 xs.length c3) xs (6:Int) [.int .i64 (6:Int)] (fun _=>True) (fun _=>False) rfl rfl ?aP (fun _ hk=>hk.elim) ?aF ?aO ?aB ?aS ?aL ?_;(case aP=>exact rfl);(case aB=>exact HB.out);(case aF=>exact(fun _ _=>trivial));(case aO=>exact z6_2);(case aS=>exact HB.out.size);(case aL=>have:=LX.out;omega);intro v17 w7 ho hb hg hat;have V7:Aside0 (∀k,v17.ownBlock=some k→w.heap.size≤k):=⟨fun k hk=>Yo ho k hk⟩;have R7:=Za (Sep.rowI.of_R ho);have HB7:=Za hb;clear ho hb hg hat)|fail)
     go_roundw
     case rel=>exact⟨7,xs++[6],rfl,⟨by omega⟩,⟨by omega⟩,HXV,⟨by have:=LX.out;rw[List.length_append,List.length_singleton];omega⟩,R7,V7,HB7⟩
     case measure=>simp[intOf]
    |false=>
     have HXV:=Za (show xs++firstL fi 1 7=firstL fi 8 0 by rw[if_neg (by decide)] at HXT;exact HXT)
     clear HXT
     go_wp2
     go_roundw
     case rel=>exact⟨7,xs,rfl,⟨by omega⟩,⟨by omega⟩,HXV,⟨by have:=LX.out;omega⟩,RO,VO,HB⟩
     case measure=>simp[intOf]
   ·obtain⟨b,hb⟩:∃b,rdB8 fi 7=b:=⟨_,rfl⟩
    have HXT:=HX.out
    have hst:firstL fi (8 - (7:Int).toNat) 7=if b=true then 7::firstL fi 0 8 else firstL fi 0 8:=by
     show(if rdB8 fi 7=true then (7:Int)::firstL fi 0 (7+1) else firstL fi 0 (7+1))=_
     rw[hb]
     rfl
    rw[hst] at HXT
    clear hst
    have hidx:∀W:World,(Instr.index 86 (.agg #[.bool (rdB8 fi 0),.bool (rdB8 fi 1),.bool (rdB8 fi 2),.bool (rdB8 fi 3),.bool (rdB8 fi 4),.bool (rdB8 fi 5),.bool (rdB8 fi 6),.bool (rdB8 fi 7)]) (.int .i64 7)).run Tryz.prog W= .ok (.bool b) W:=by
     intro W
     rw[←hb]
     simp[Instr.index,run_underlying Tryz.underlying86,asIntOf,go_sem]
    clear HX hb
    cases b with
    |true=>
     have HXV:=Za (show(xs++[(7:Int)])++firstL fi 0 8=firstL fi 8 0 by rw[if_pos rfl] at HXT;rw[List.append_assoc];exact HXT)
     clear HXT
     go_wp2_with (first|((with_reducible refine gate_builtin (b:= .append) (xs:= #[.tmp 30,.tmp 32]) rfl ?_);at_builtin;refine Kd.R_append (Kd.int .i64) (w0:=w) w.heap.size rfl (.tmp 30) (.tmp 32) 27 3 (.int .i64 0) 8 rfl Tryz.underlying27 info3 rfl (by decide) (by omega) (.slice A3 xs.length c3) xs (7:Int) [.int .i64 (7:Int)] (fun _=>True) (fun _=>False) rfl rfl ?aP (fun _ hk=>hk.elim) ?aF ?aO ?aB ?aS ?aL ?_;(case aP=>exact rfl);(case aB=>exact HB.out);(case aF=>exact(fun _ _=>trivial));(case aO=>exact z6_2);(case aS=>exact HB.out.size);(case aL=>have:=LX.out;omega);intro v17 w7 ho hb hg hat;have V7:Aside0 (∀k,v17.ownBlock=some k→w.heap.size≤k):=⟨fun k hk=>Yo ho k hk⟩;have R7:=Za (Sep.rowI.of_R ho);have HB7:=Za hb;clear ho hb hg hat)|fail)
     go_roundw
     case rel=>exact⟨8,xs++[7],rfl,⟨by omega⟩,⟨by omega⟩,HXV,⟨by have:=LX.out;rw[List.length_append,List.length_singleton];omega⟩,R7,V7,HB7⟩
     case measure=>simp[intOf]
    |false=>
     have HXV:=Za (show xs++firstL fi 0 8=firstL fi 8 0 by rw[if_neg (by decide)] at HXT;exact HXT)
     clear HXT
     go_wp2
     go_roundw
     case rel=>exact⟨8,xs,rfl,⟨by omega⟩,⟨by omega⟩,HXV,⟨by have:=LX.out;omega⟩,RO,VO,HB⟩
     case measure=>simp[intOf]
   ·have ex:=HX.out
    rw[show(8:Nat) - (8:Int).toNat=0 from rfl,firstL,List.append_nil] at ex
    have EX:=Za ex
    clear ex HX
    go_wp2
    go_ret
    refine⟨_,rfl,?_,HB.out⟩
    rw[←EX.out]
    exact RO.out.to_R (fun k hk=>VO.out k hk) (fun _ _=>trivial)
theorem put6_far {w:World} {g k:Nat} (h:k≠g) (v0 v1 v2 v3 v4 v5:Value):(Sep.put6 w g v0 v1 v2 v3 v4 v5).heap[k]? =w.heap[k]? :=by
 unfold Sep.put6
 rw[Below.heap_setCell _ _ _ k h,Below.heap_setCell _ _ _ k h,Below.heap_setCell _ _ _ k h,Below.heap_setCell _ _ _ k h,Below.heap_setCell _ _ _ k h,Below.heap_setCell _ _ _ k h]
def writes (x:S92):Bool:=decide (x.f0=1)||x.f0==2
theorem writes_eq (x:S92):impl_hasVar.f x.f0=some (writes x):=by
 unfold impl_hasVar.f writes
 by_cases h:x.f0=1<;>simp[h]
def writtenL (q:Int→Bool):List S92→Int→List Int
 |[],_=>[]
 |x::r,i=>if writes x=true∧q i=true then x.f1::writtenL q r (i+1) else writtenL q r (i+1)
theorem drop_S77 {l:List S92} {i:Int} (h0:0≤i) (h:i<(l.length:Int)):l.drop i.toNat=rd_T92 l i::l.drop (i+1).toNat:=by
 have h1:i.toNat<l.length:=by omega
 have h2:(i+1).toNat=i.toNat+1:=by omega
 unfold rd_T92
 rw[h2,List.drop_eq_getElem_cons h1,List.getD_eq_getElem?_getD,List.getElem?_eq_getElem h1]
 rfl
set_option maxHeartbeats 8000000 in
set_option maxRecDepth 100000 in
theorem impl_written.calls (q:Int→Bool) (g:Nat) (cb:Array Value) (eg:∀args w,(callFunc g args).run Tryz.prog w= .ok (.enter g args) w) (A0:Option Addr) (c0:Nat) (l0:List S92) (w:World) (hr0:Kd.C k92 w A0 l0.length l0) (hc0:l0.length≤c0) (hl:l0.length<17592186044415)
  (hq:∀(i:Int) (w':World),0≤i→i<(l0.length:Int)→Below w.heap.size w w'→Calls Tryz.prog g (#[.int .i64 i]++cb) w' fun e w''=>e= .returned (.bool (q i))∧Drawn0 w' w''):
  Calls Tryz.prog 100 #[.slice A0 l0.length c0,.func (.func g) #[] cb] w fun e w'=>∃v0_:Value,e= .returned (v0_)∧Kd.R (Kd.int .i64) 3 w' w.heap.size (fun _=>True) v0_ (setOf (writtenL q l0 0))∧Below w.heap.size w w':=by
 have HR0:=Za hr0
 have HC0:=Za hc0
 have HL:=Za hl
 have HQ:=Za hq
 clear hr0 hc0 hl hq
 go_enter Tryz.func100,Tryz.ntmps100
 go_wp2_with (first|((with_reducible refine Zp (N:=8) rfl ?_);refine Kd.R_lit (Kd.int .i64) _ 3 ?hg (N:=8) ?hd (xs:=([]:List Int)) (inner:=[]) (ok:=fun _=>True) (okp:=fun _=>True) ?hr ?hp (fun _ hk=>hk) trivial (Zx _ _) (Nat.le_refl _) (by simp) ?_;(case hd=>rfl);(case hg=>rfl);(case hr=>exact z6_0);(case hp=>exact(Reps.none _ _));intro v6 w1 ho hb hg hat;have R1:=Za ho;have HB1:=Za hb;clear ho hb hg hat)|fail)
 go_loopw [5,11] (fun v5 v11 w'=>∃(x:Int) (xs:List Int),v11= .int .i64 x∧Aside0 (0≤x)∧Aside0 (x≤(l0.length:Int))∧Aside0 (xs++writtenL q (l0.drop x.toNat) x=writtenL q l0 0)∧Aside0 ((xs.length:Int)≤x)∧Aside0 (Sep.rowI 3 w' v5 xs)∧Aside0 (∀k,v5.ownBlock=some k→w.heap.size≤k)∧Aside0 (Below w.heap.size w w')) (fun _ v11 _=>l0.length - (intOf v11).toNat)
 case atStart=>exact⟨0,[],rfl,⟨by omega⟩,⟨by omega⟩,⟨rfl⟩,⟨by simp⟩,⟨Sep.rowI.of_R R1.out⟩,⟨fun k hk=>Yo R1.out k hk⟩,HB1⟩
 case round=>
  clear R1 HB1
  obtain⟨x,xs,rfl,Hx0,Hx1,HX,LX,RO,VO,HB⟩:=hrel
  obtain⟨A3,c3,e3,lc3,kc3⟩:=RO.out.open_
  subst e3
  have LC3:=Za lc3
  have KC3:=Za kc3
  clear lc3 kc3
  by_cases hlt:x<(l0.length:Int)
  ·have c1:decide (x<(l0.length:Int))=true:=Zq hlt
   obtain⟨ad,e,hx0,hx1,hx2,hx3,hx4,hx5⟩:=at_T92 (Yl HR0.out HB.out) x Hx0.out hlt
   cases e
   have HXT:=Za (show xs++writtenL q (rd_T92 l0 x::l0.drop (x+1).toNat) x=writtenL q l0 0 by rw[←drop_S77 Hx0.out hlt];exact HX.out)
   clear HX
   obtain⟨y,hy⟩:∃y,rd_T92 l0 x=y:=⟨_,rfl⟩
   rw[hy] at hx0 hx1 hx2 hx3 hx4 hx5 HXT
   have HV0:=writes_eq y
   obtain⟨x0,x1,x2,x3,x4,x5⟩:=y
   simp only at hx0 hx1 hx2 hx3 hx4 hx5 HV0
   have HXU:=HXT.out
   rw[writtenL] at HXU
   have Hlt:=Za hlt
   have p1:=eq_true Hx0.out
   have q1:=eq_true hlt
   have hsum:wrap64 (x+1)=x+1:=by have:=HL.out;have:=Hx0.out;unfold wrap64;omega
   have Hs:=Za hsum
   clear hsum hlt hy HXT
   generalize writes ⟨x0,x1,x2,⟨x3,x4,x5⟩⟩=bw at HV0 HXU
   have HV:=Za HV0
   cases bw with
   |false=>
    have HXV:=Za (show xs++writtenL q (l0.drop (x+1).toNat) (x+1)=writtenL q l0 0 by rw[if_neg (by simp)] at HXU;exact HXU)
    clear HV0 HXU
    go_wp2_with (first|((with_reducible refine Zp (N:=7) rfl ?_);refine Zr ?hg (N:=7) ?hd (cs:= #[.int .i64 0,.int .i64 0,.int .i64 0,.int .i64 0,.int .i64 0,.int .i64 0]) (t:=92) ?hr ?_;(case hd=>rfl);(case hg=>rfl);(case hr=>exact z6_0);intro g7 hg7 w2 hp hb;have B2:=Za hp;have HB2:=Za (Zj HB.out hb);have RO2:=Za (RO.out.below hb);have G7:Aside0 (w.heap.size≤g7):=⟨by rw[hg7];exact HB.out.size⟩;clear hg7 hp hb;obtain⟨⟨_,_,_,_,_,_⟩,⟨_,_,_,_,_,_⟩⟩:=Sep.blk6 B2.out)|((with_reducible refine Ye (t:=92) (p:=7) rfl ?_);refine Yd (t:=92) (p:=7) (v:= ?vo1_) (w1:=Sep.put6 w2 g7 (.int .i64 x0) (.int .i64 x1) (.int .i64 x2) (.int .i64 x3) (.int .i64 x4) (.int .i64 x5)) ?hg ?ho ?hn ?hr ?_;(case ho=>rfl);(case hg=>rfl);(case hn=>rfl);(case hr=>exact z6_0);intro w3 hw;have B3:Aside0 (w3.heap[g7]? =some (.cells #[.int .i64 x0,.int .i64 x1,.int .i64 x2,.int .i64 x3,.int .i64 x4,.int .i64 x5] 92 (0,0))):=⟨by rw[hw];exact Sep.put6_blk B2.out _ _ _ _ _ _⟩;have HB3:Aside0 (Below w.heap.size w w3):=⟨by rw[hw];exact Sep.put6_below HB2.out G7.out _ _ _ _ _ _⟩;have NG:Aside0 (∀k,(Value.slice A3 xs.length c3).ownBlock=some k→k≠g7):=⟨fun k hk=>RO2.out.ne B2.out (by decide) k hk⟩;have RO3:Aside0 (Sep.rowI 3 w3 (.slice A3 xs.length c3) xs):=⟨RO2.out.keep (fun k hk=>by rw[hw];exact put6_far (NG.out k hk) _ _ _ _ _ _)⟩;clear hw;have hd0:w3.cell? ⟨g7,0,none⟩=some (.int .i64 x0):=(Zb B3.out 0).trans rfl;have hd1:w3.cell? ⟨g7,1,none⟩=some (.int .i64 x1):=(Zb B3.out 1).trans rfl)|(go_at_call 104;(with_reducible refine(impl_hasVar.calls x0 false _ HV.out).mono ?_);rintro e w' ⟨rfl,⟨nd,rfl⟩⟩)|fail)
    go_roundw
    case rel=>exact⟨x+1,xs,by rw[Hs.out],⟨by have:=Hx0.out;omega⟩,⟨by have:=Hlt.out;omega⟩,HXV,⟨by have:=LX.out;omega⟩,⟨Zm RO3.out _⟩,VO,⟨by repeat(first|exact HB3.out|apply Zf|apply Ze)⟩⟩
    case measure=>
     have:=Hlt.out
     have:=Hx0.out
     simp only[intOf,Hs.out]
     omega
   |true=>
    obtain⟨bq,hbq⟩:∃bq,q x=bq:=⟨_,rfl⟩
    rw[hbq] at HXU
    have HBQ:=Za hbq
    clear hbq HV0
    go_wp2_with (first|((with_reducible refine Zp (N:=7) rfl ?_);refine Zr ?hg (N:=7) ?hd (cs:= #[.int .i64 0,.int .i64 0,.int .i64 0,.int .i64 0,.int .i64 0,.int .i64 0]) (t:=92) ?hr ?_;(case hd=>rfl);(case hg=>rfl);(case hr=>exact z6_0);intro g7 hg7 w2 hp hb;have B2:=Za hp;have HB2:=Za (Zj HB.out hb);have RO2:=Za (RO.out.below hb);have G7:Aside0 (w.heap.size≤g7):=⟨by rw[hg7];exact HB.out.size⟩;clear hg7 hp hb;obtain⟨⟨_,_,_,_,_,_⟩,⟨_,_,_,_,_,_⟩⟩:=Sep.blk6 B2.out)|((with_reducible refine Ye (t:=92) (p:=7) rfl ?_);refine Yd (t:=92) (p:=7) (v:= ?vo1_) (w1:=Sep.put6 w2 g7 (.int .i64 x0) (.int .i64 x1) (.int .i64 x2) (.int .i64 x3) (.int .i64 x4) (.int .i64 x5)) ?hg ?ho ?hn ?hr ?_;(case ho=>rfl);(case hg=>rfl);(case hn=>rfl);(case hr=>exact z6_0);intro w3 hw;have B3:Aside0 (w3.heap[g7]? =some (.cells #[.int .i64 x0,.int .i64 x1,.int .i64 x2,.int .i64 x3,.int .i64 x4,.int .i64 x5] 92 (0,0))):=⟨by rw[hw];exact Sep.put6_blk B2.out _ _ _ _ _ _⟩;have HB3:Aside0 (Below w.heap.size w w3):=⟨by rw[hw];exact Sep.put6_below HB2.out G7.out _ _ _ _ _ _⟩;have NG:Aside0 (∀k,(Value.slice A3 xs.length c3).ownBlock=some k→k≠g7):=⟨fun k hk=>RO2.out.ne B2.out (by decide) k hk⟩;have RO3:Aside0 (Sep.rowI 3 w3 (.slice A3 xs.length c3) xs):=⟨RO2.out.keep (fun k hk=>by rw[hw];exact put6_far (NG.out k hk) _ _ _ _ _ _)⟩;clear hw;have hd0:w3.cell? ⟨g7,0,none⟩=some (.int .i64 x0):=(Zb B3.out 0).trans rfl;have hd1:w3.cell? ⟨g7,1,none⟩=some (.int .i64 x1):=(Zb B3.out 1).trans rfl)|(go_at_call 104;(with_reducible refine(impl_hasVar.calls x0 true _ HV.out).mono ?_);rintro e w' ⟨rfl,⟨nd,rfl⟩⟩)|fail)
    refine(HQ.out x _ Hx0.out Hlt.out (by repeat(first|exact HB3.out|apply Zf|apply Ze))).mono ?_
    rintro e w' ⟨rfl,⟨nd2,rfl⟩⟩
    rw[HBQ.out]
    cases bq with
    |false=>
     have HXV:=Za (show xs++writtenL q (l0.drop (x+1).toNat) (x+1)=writtenL q l0 0 by rw[if_neg (by simp)] at HXU;exact HXU)
     clear HXU
     go_wp2
     go_roundw
     case rel=>exact⟨x+1,xs,by rw[Hs.out],⟨by have:=Hx0.out;omega⟩,⟨by have:=Hlt.out;omega⟩,HXV,⟨by have:=LX.out;omega⟩,⟨RO3.out.below (by repeat(first|exact Zx _ _|apply Zf|apply Ze))⟩,VO,⟨by repeat(first|exact HB3.out|apply Zf|apply Ze)⟩⟩
     case measure=>
      have:=Hlt.out
      have:=Hx0.out
      simp only[intOf,Hs.out]
      omega
    |true=>
     have HXV:=Za (show(xs++[x1])++writtenL q (l0.drop (x+1).toNat) (x+1)=writtenL q l0 0 by rw[if_pos (by simp)] at HXU;rw[List.append_assoc];exact HXU)
     clear HXU
     go_wp2_with (first|((with_reducible refine gate_builtin (b:= .append) (xs:= #[.tmp 24,.tmp 27]) rfl ?_);at_builtin;refine Kd.R_append (Kd.int .i64) (w0:=w) w.heap.size rfl (.tmp 24) (.tmp 27) 27 3 (.int .i64 0) 8 rfl Tryz.underlying27 info3 rfl (by decide) (by omega) (.slice A3 xs.length c3) xs x1 [.int .i64 x1] (fun _=>True) (fun _=>False) rfl rfl ?aP (fun _ hk=>hk.elim) ?aF ?aO ?aB ?aS ?aL ?_;(case aP=>exact rfl);(case aB=>exact(by repeat(first|exact HB3.out|apply Zf|apply Ze)));(case aF=>exact(fun _ _=>trivial));(case aO=>exact(by repeat(first|exact(RO3.out.to_R (fun k hk=>VO.out k hk) (fun _ _=>trivial))|apply Zm|apply Zn)));(case aS=>exact HB3.out.size);(case aL=>have:=HL.out;have:=LX.out;have:=Hlt.out;omega);intro v17 w4 ho hb hg hat;have V4:Aside0 (∀k,v17.ownBlock=some k→w.heap.size≤k):=⟨fun k hk=>Yo ho k hk⟩;have R4:=Za (Sep.rowI.of_R ho);have HB4:=Za hb;clear ho hb hg hat)|fail)
     go_roundw
     case rel=>exact⟨x+1,xs++[x1],by rw[Hs.out],⟨by have:=Hx0.out;omega⟩,⟨by have:=Hlt.out;omega⟩,HXV,⟨by have:=LX.out;rw[List.length_append,List.length_singleton];omega⟩,R4,V4,HB4⟩
     case measure=>
      have:=Hlt.out
      have:=Hx0.out
      simp only[intOf,Hs.out]
      omega
  ·have c1:decide (x<(l0.length:Int))=false:=Yf hlt
   have ex:=HX.out
   rw[List.drop_eq_nil_of_le (by have:=Hx0.out;omega),writtenL,List.append_nil] at ex
   have EX:=Za ex
   have LS:Aside0 (xs.length<4611686018427387904):=⟨by have:=HL.out;have:=LX.out;have:=Hx1.out;omega⟩
   clear ex hlt HX
   go_wp2_with (first|(go_at_call 110;(with_reducible refine(sort_calls (.slice A3 xs.length c3) xs _ RO.out LS.out).mono ?_);rintro e w5 ⟨rfl,hr5,hg5⟩;have R5:=Za hr5;have HB5:=Za (below_grown HB.out hg5 VO.out);clear hr5 hg5)|(go_at_call 111;(with_reducible refine(compact_calls (.slice A3 xs.length c3) _ _ R5.out).mono ?_);rintro e w6 ⟨v',rfl,hr6,he6,hg6⟩;have R6:=Za hr6;have E6:=Za he6;have HB6:=Za (below_grown HB5.out hg6 VO.out);clear hr6 he6 hg6)|fail)
   go_ret
   refine⟨_,rfl,?_,HB6.out⟩
   rw[←EX.out]
   exact R6.out.to_R (fun k hk=>VO.out k (E6.out ▸ hk)) (fun _ _=>trivial)
def rowB (w:World) (v:Value) (xs:List Bool):Prop:=Kd.bool.R 4 w 0 (fun k=>v.ownBlock=some k) v xs
section
variable {w w1:World} {v:Value} {xs:List Bool}
theorem rowB.of_R {base:Nat} {ok:Nat→Prop} (h:Kd.bool.R 4 w base ok v xs):rowB w v xs:=Kd.R_of_own (own_less (Kd.own_of_R h) (Nat.zero_le _)) (fun _ hk=>hk)
theorem rowB.keep (h:rowB w v xs) (hm:∀k,v.ownBlock=some k→w1.heap[k]? =w.heap[k]?):rowB w1 v xs:=Kd.R_step h (fun k hk _=>hm k hk)
theorem rowB.below (h:rowB w v xs) (hb:Below w.heap.size w w1):rowB w1 v xs:=Kd.R_below h hb
theorem rowB.ne {g t:Nat} {cs:Array Value} (h:rowB w v xs) (hg:w.heap[g]? =some (.cells cs t (0,0))) (hne:4≠t):∀k,v.ownBlock=some k→k≠g:=by
 intro k hk he
 subst he
 obtain⟨c,hc⟩:=Kd.R_typed h _ hk
 rw[hc] at hg
 injection hg with hg
 injection hg with _ hg _
 exact hne hg
def rdB (xs:List Bool) (i:Int):Bool:=rdOf false xs i
theorem rowB.at_ {A:Option Addr} {n c:Nat} (h:rowB w (.slice A n c) xs) (i:Int) (h0:0≤i) (h1:i<(n:Int)):
  ∃g,A=some ⟨g,0,none⟩∧n=xs.length∧w.cell? ⟨g,i.toNat,none⟩=some (.bool (rdB xs i))∧w.frozen? ⟨g,i.toNat,none⟩=false∧rowB (w.setCell ⟨g,i.toNat,none⟩ (.bool true)) (.slice (some ⟨g,0,none⟩) n c) (xs.set i.toNat true):=by
 obtain⟨rfl,hn,_⟩:=Yp h
 obtain⟨g,cap,he,_⟩:=Kd.R_form h (by omega)
 injection he with e1 e2 e3
 subst e1 e3
 have:=own_at_of (d:=false) (Kd.own_of_R h) i h0 (by omega)
 exact⟨g,rfl,rfl,this.1,this.2,(Kd.R_putg h i true).1⟩
end
def markN (g:List Bool) (a:Nat):Nat→List Bool
 |0=>g
 |m+1=>(markN g a m).set (a+m) true
def guardL (k:Nat) (l:List S92):Nat→Int→List Bool→Option (List Bool)
 |0,_,g=>some g
 |d+1,i,g=>if (rd_T92 l i).f0=4 then (impl_endOf.f k l i).bind fun e=>if e<(l.length:Int) then guardL k l d (i+1) (markN g i.toNat (e+1 - i).toNat) else none else guardL k l d (i+1) g
theorem guardL_mono (k:Nat) (l:List S92):∀(d:Nat) (i:Int) (g:List Bool),LeO (guardL k l d i g) (guardL (k+1) l d i g)
 |0,_,_=>Yn _
 |d+1,i,g=>Zu (Zt (impl_endOf.mono _ _ k) (fun e=>Zu (guardL_mono k l d _ _) (Yn _))) (guardL_mono k l d _ _)
def impl_MustWrite.f (k:Nat) (l0:List S92):Option (List Int):=(impl_BlockOk.f k l0).bind fun b=>if b=true then (if l0.length<17592186044415 then (guardL k l0 l0.length 0 (List.replicate l0.length false)).bind fun g=>some (setOf (writtenL (fun i=> !rdB g i) l0 0)) else none) else some []
theorem impl_MustWrite.mono:∀a0 k,LeO (impl_MustWrite.f k a0) (impl_MustWrite.f (k+1) a0):=by
 intro a0 k
 unfold impl_MustWrite.f
 exact Zt (impl_BlockOk.mono _ k) (fun _=>Zu (Zu (Zt (guardL_mono k _ _ _ _) (fun _=>Yn _)) (Yn _)) (Yn _))
set_option maxHeartbeats 8000000 in
set_option maxRecDepth 100000 in
theorem mustWrite_clo (A3:Option Addr) (c3 gp n:Nat) (g:List Bool) (i:Int) (w:World) (hb:w.heap[gp]? =some (.cells #[.slice A3 n c3] 128 (0,0))) (hr:rowB w (.slice A3 n c3) g) (h0:0≤i) (h1:i<(n:Int)):
  Calls Tryz.prog 101 (#[.int .i64 i]++ #[.pointer (some ⟨gp,0,none⟩)]) w fun e w'=>e= .returned (.bool (!rdB g i))∧Drawn0 w w':=by
 obtain⟨ga,rfl,hn,hc,hf,_⟩:=hr.at_ i h0 h1
 have hc0:=Sep.blk1 hb
 have p1:=eq_true h0
 have q1:=eq_true h1
 clear hb hr
 go_enter Tryz.func101,Tryz.ntmps101
 go_wp2
 go_ret
 exact⟨rfl,by repeat(first|exact Zv _|apply Zw)⟩
set_option maxHeartbeats 8000000 in
set_option maxRecDepth 100000 in
theorem impl_MustWrite.calls (k:Nat) (A0:Option Addr) (c0:Nat) (l0:List S92) (r:List Int) (w:World) (hr0:Kd.C k92 w A0 l0.length l0) (hc0:l0.length≤c0) (h:impl_MustWrite.f k l0=some r):
  Calls Tryz.prog 73 #[.slice A0 l0.length c0] w fun e w'=>∃v0_:Value,e= .returned (v0_)∧Kd.R (Kd.int .i64) 3 w' w.heap.size (fun _=>True) v0_ r∧Below w.heap.size w w':=by
 unfold impl_MustWrite.f at h
 obtain⟨b,hb,h⟩:=Zg h
 have HR0:=Za hr0
 have HC0:=Za hc0
 have TB:=Za hb
 clear hr0 hc0 hb
 cases b with
 |false=>
  rw[if_neg (by decide)] at h
  cases h
  go_enter Tryz.func73,Tryz.ntmps73
  go_wp2_with (first|(go_at_call 97;(with_reducible refine(impl_BlockOk.calls k _ _ l0 false _ HR0.out HC0.out TB.out).mono ?_);rintro e w1 ⟨rfl,hb1⟩;have HB1:=Za hb1;clear hb1)|fail)
  go_ret
  exact⟨_,rfl,Kd.R_nil _ _ _ _ _,HB1.out⟩
 |true=>
  rw[if_pos rfl] at h
  by_cases hl:l0.length<17592186044415
  ·rw[if_pos hl] at h
   have HL:=Za hl
   clear hl
   obtain⟨G,hG,h⟩:=Zg h
   cases h
   have TG:=Za hG
   clear hG
   go_enter Tryz.func73,Tryz.ntmps73
   go_wp2_with (first|(go_at_call 97;(with_reducible refine(impl_BlockOk.calls k _ _ l0 true _ HR0.out HC0.out TB.out).mono ?_);rintro e w1 ⟨rfl,hb1⟩;have HB1:=Za hb1;clear hb1)|((with_reducible refine Zp (N:=12) rfl ?_);refine Kd.R_make Kd.bool (w0:=w1) w1.heap.size 4 rfl (N:=12) rfl 128 (.tmp 11) (.tmp 11) rfl (l0.length:Int) rfl rfl Tryz.underlying128 (.bool false) 1 (by kernel_rfl) rfl (by decide) (by decide) false (ok:=fun _=>True) (okp:=fun _=>False) rfl (fun _ h=>h.elim) trivial (by omega) (by have:=HL.out;omega) (Zx _ _) (Nat.le_refl _) ?_;intro v12 w2 ho hb hg hat;obtain⟨A3,c3,e3⟩:=Ym ho;rw[List.length_replicate,Int.toNat_natCast] at e3;subst e3;have RG2:Aside0 (rowB w2 (.slice A3 l0.length c3) (List.replicate l0.length false)):=⟨by rw[Int.toNat_natCast] at ho;exact rowB.of_R ho⟩;have VG:Aside0 (∀k,(Value.slice A3 l0.length c3).ownBlock=some k→w.heap.size≤k):=⟨fun k hk=>Nat.le_trans HB1.out.size (Yo ho k hk)⟩;have HB2:=Za (Zj HB1.out hb);clear ho hb hg hat)|((with_reducible refine Zp (N:=3) rfl ?_);refine Zr ?hg (N:=3) ?hd (cs:= #[.slice none 0 0]) (t:=128) ?hr ?_;(case hd=>rfl);(case hg=>rfl);(case hr=>exact z6_0);intro gp hgp w3 hp hb;have B3:=Za hp;have HB3:=Za (Zj HB2.out hb);have RG3:=Za (RG2.out.below hb);have GP:Aside0 (w.heap.size≤gp):=⟨by rw[hgp];exact HB2.out.size⟩;clear hgp hp hb;have hc0:=Sep.blk1 B3.out;have hf0:=Zc B3.out 0)|((with_reducible refine Ye (t:=128) (p:=3) rfl ?_);refine Yd (t:=128) (p:=3) (v:= ?vo1_) (w1:=w3.setCell ⟨gp,0,none⟩ (.slice A3 l0.length c3)) ?hg ?ho ?hn ?hr ?_;(case ho=>rfl);(case hg=>rfl);(case hn=>rfl);(case hr=>exact z6_0);intro w4 hw;have B4:Aside0 (w4.heap[gp]? =some (.cells #[.slice A3 l0.length c3] 128 (0,0))):=⟨by rw[hw];exact blk_put B3.out 0 _ rfl⟩;have HB4:Aside0 (Below w.heap.size w w4):=⟨by rw[hw];exact Zd HB3.out GP.out⟩;have RG4:Aside0 (rowB w4 (.slice A3 l0.length c3) (List.replicate l0.length false)):=⟨RG3.out.keep (fun k hk=>by rw[hw,Below.heap_setCell _ _ _ k (RG3.out.ne B3.out (by decide) k hk)])⟩;clear hw hc0 hf0)|fail)
   go_loopw [15] (fun v15 w'=>∃(x:Int) (d:Nat) (gd:List Bool),v15= .int .i64 x∧Aside0 (0≤x)∧Aside0 (x+(d:Int)=(l0.length:Int))∧Aside0 (guardL k l0 d x gd=some G)∧Aside0 (rowB w' (.slice A3 l0.length c3) gd)∧Aside0 (w'.heap[gp]? =some (.cells #[.slice A3 l0.length c3] 128 (0,0)))∧Aside0 (Below w.heap.size w w')) (fun v15 _=>l0.length - (intOf v15).toNat)
   case atStart=>exact⟨0,l0.length,_,rfl,⟨by omega⟩,⟨by omega⟩,TG,RG4,B4,HB4⟩
   case round=>
    clear TG RG4 B4 HB4 RG3 B3 HB3 RG2 HB2 HB1
    obtain⟨x,d,gd,rfl,Hx0,Hx1,TG,RG,BG,HB⟩:=hrel
    have hsum:wrap64 (x+1)=x+1:=by have:=HL.out;have:=Hx0.out;have:=Hx1.out;unfold wrap64;omega
    have Hs:=Za hsum
    clear hsum
    cases d with
    |zero=>
     have c1:decide (x<(l0.length:Int))=false:=Yf (by have:=Hx1.out;omega)
     have eg:=TG.out
     rw[guardL] at eg
     cases eg
     go_wp2_with (first|(go_at_call 100;(with_reducible refine(impl_written.calls (fun i=> !rdB G i) 101 #[.pointer (some ⟨gp,0,none⟩)] (fun args w=>enters_ Tryz.func101 (by kernel_rfl) (by kernel_rfl) args w) _ _ l0 _ (Yl HR0.out HB.out) HC0.out HL.out (fun i w' h0 h1 hb=>mustWrite_clo A3 c3 gp l0.length G i w' (Zi BG.out hb) (RG.out.below hb) h0 h1)).mono ?_);rintro e w9 ⟨v9,rfl,ho,hb⟩;have R9:=Za (Sep.rowI.of_R ho);have B9:Aside0 (∀k,v9.ownBlock=some k→w.heap.size≤k):=⟨fun k hk=>Nat.le_trans HB.out.size (Yo ho k hk)⟩;have HB9:=Za (Zj HB.out hb);clear ho hb)|fail)
     go_ret
     exact⟨_,rfl,R9.out.to_R (fun k hk=>B9.out k hk) (fun _ _=>trivial),HB9.out⟩
    |succ d=>
     have hlt:x<(l0.length:Int):=by have:=Hx1.out;omega
     have Hlt:=Za hlt
     have c1:decide (x<(l0.length:Int))=true:=Zq hlt
     obtain⟨ad,e,hx0,hx1,hx2,hx3,hx4,hx5⟩:=at_T92 (Yl HR0.out HB.out) x Hx0.out hlt
     cases e
     have TH:=TG.out
     clear TG
     rw[guardL] at TH
     obtain⟨y,hy⟩:∃y,rd_T92 l0 x=y:=⟨_,rfl⟩
     rw[hy] at hx0 hx1 hx2 hx3 hx4 hx5 TH
     obtain⟨x0,x1,x2,x3,x4,x5⟩:=y
     simp only at hx0 hx1 hx2 hx3 hx4 hx5 TH
     have p1:=eq_true Hx0.out
     have q1:=eq_true hlt
     clear hy hlt
     by_cases h4:x0=4
     ·rw[if_pos h4] at TH
      subst h4
      obtain⟨en,he,TH⟩:=Zg TH
      by_cases hen:en<(l0.length:Int)
      ·rw[if_pos hen] at TH
       have TE:=Za he
       have HEN:=Za hen
       have TI:=Za TH
       clear he hen TH
       go_wp2_with (first|((with_reducible refine Zp (N:=5) rfl ?_);refine Zr ?hg (N:=5) ?hd (cs:= #[.int .i64 0,.int .i64 0,.int .i64 0,.int .i64 0,.int .i64 0,.int .i64 0]) (t:=92) ?hr ?_;(case hd=>rfl);(case hg=>rfl);(case hr=>exact z6_0);intro g5 hg5 w5 hp hb;have B5:=Za hp;have HB5:=Za (Zj HB.out hb);have RG5:=Za (RG.out.below hb);have BG5:=Za (Zi BG.out hb);have G5:Aside0 (w.heap.size≤g5):=⟨by rw[hg5];exact HB.out.size⟩;clear hg5 hp hb;obtain⟨⟨_,_,_,_,_,_⟩,⟨_,_,_,_,_,_⟩⟩:=Sep.blk6 B5.out)|((with_reducible refine Ye (t:=92) (p:=5) rfl ?_);refine Yd (t:=92) (p:=5) (v:= ?vo5_) (w1:=Sep.put6 w5 g5 (.int .i64 4) (.int .i64 x1) (.int .i64 x2) (.int .i64 x3) (.int .i64 x4) (.int .i64 x5)) ?hg ?ho ?hn ?hr ?_;(case ho=>rfl);(case hg=>rfl);(case hn=>rfl);(case hr=>exact z6_0);intro w6 hw;have B6:Aside0 (w6.heap[g5]? =some (.cells #[.int .i64 4,.int .i64 x1,.int .i64 x2,.int .i64 x3,.int .i64 x4,.int .i64 x5] 92 (0,0))):=⟨by rw[hw];exact Sep.put6_blk B5.out _ _ _ _ _ _⟩;have HB6:Aside0 (Below w.heap.size w w6):=⟨by rw[hw];exact Sep.put6_below HB5.out G5.out _ _ _ _ _ _⟩;have RG6:Aside0 (rowB w6 (.slice A3 l0.length c3) gd):=⟨RG5.out.keep (fun k hk=>by rw[hw];exact put6_far (RG5.out.ne B5.out (by decide) k hk) _ _ _ _ _ _)⟩;have BG6:Aside0 (w6.heap[gp]? =some (.cells #[.slice A3 l0.length c3] 128 (0,0))):=⟨by rw[hw,put6_far (blk_ne BG5.out B5.out (by decide))];exact BG5.out⟩;clear hw;have hd0:w6.cell? ⟨g5,0,none⟩=some (.int .i64 4):=(Zb B6.out 0).trans rfl)|fail)
       go_loopw [6] (fun v6 w'=>∃(kk:Int) (m:Nat),v6= .int .i64 kk∧Aside0 (kk=x+(m:Int))∧Aside0 (m=0∨kk≤en+1)∧Aside0 (rowB w' (.slice A3 l0.length c3) (markN gd x.toNat m))∧Aside0 (w'.heap[gp]? =some (.cells #[.slice A3 l0.length c3] 128 (0,0)))∧Aside0 (Below w.heap.size w w')) (fun v6 _=>(en+1 - intOf v6).toNat)
       case atStart=>exact⟨x,0,rfl,⟨by simp⟩,⟨.inl rfl⟩,RG6,BG6,HB6⟩
       case round=>
        clear RG6 BG6 HB6
        obtain⟨kk,m,rfl,Hk,Hk1,RGk,BGk,HBk⟩:=hrel
        by_cases hke:kk≤en
        ·have c2:decide (kk≤en)=true:=Zq hke
         have HKE:=Za hke
         have hk0:0≤kk:=by have:=Hk.out;have:=Hx0.out;omega
         have hkl:kk<(l0.length:Int):=by have:=HEN.out;omega
         have K0:=Za hk0
         have KL:=Za hkl
         have p2:=eq_true hk0
         have q2:=eq_true hkl
         have hks:wrap64 (kk+1)=kk+1:=by have:=HL.out;unfold wrap64;omega
         have Hks:=Za hks
         clear hke hk0 hkl hks
         go_wp2_with (first|(go_at_call 79;(with_reducible refine(impl_endOf.calls k _ _ l0 x en _ ?_ HC0.out TE.out).mono ?_);(exact Yl HR0.out HBk.out);rintro e wq ⟨rfl,hd⟩;have hbq:Below wr.heap.size wr wq:=z6_1;clear hd;have BGq:=Za (Zi BGk.out hbq);have HBq:=Za (Zj HBk.out hbq);have RGq:=Za (RGk.out.below hbq);clear hbq;obtain⟨gr,e,hn,hcell,hfr,hput⟩:=RGq.out.at_ kk K0.out KL.out;subst e;have PUT:=Za hput;have NGR:Aside0 (gp≠gr):=⟨fun h=>RGq.out.ne BGq.out (by decide) gr rfl h.symm⟩;have hcq:=Sep.blk1 BGq.out;clear hput hn)|((with_reducible refine Ye (t:=4) (p:=33) rfl ?_);refine Yd (t:=4) (p:=33) (v:= ?vo33_) (w1:=(wq.setCell ⟨gr,kk.toNat,none⟩ (.bool true))) ?hg ?ho ?hn ?hr ?_;(case ho=>rfl);(case hg=>rfl);(case hn=>rfl);(case hr=>exact z6_0);intro w8 hw;have HB8:Aside0 (Below w.heap.size w w8):=⟨by rw[hw];exact Zd HBq.out (VG.out gr rfl)⟩;have BG8:Aside0 (w8.heap[gp]? =some (.cells #[.slice (some ⟨gr,0,none⟩) l0.length c3] 128 (0,0))):=⟨by rw[hw,Below.heap_setCell _ _ _ gp NGR.out];exact BGq.out⟩;have RG8:Aside0 (rowB w8 (.slice (some ⟨gr,0,none⟩) l0.length c3) ((markN gd x.toNat m).set kk.toNat true)):=⟨by rw[hw];exact PUT.out⟩;clear hw)|fail)
         go_roundw
         case rel=>exact⟨kk+1,m+1,by rw[Hks.out],⟨by have:=Hk.out;push_cast;omega⟩,⟨.inr (by have:=HKE.out;omega)⟩,⟨by rw[markN,show x.toNat+m=kk.toNat by have:=Hk.out;have:=Hx0.out;omega];exact RG8.out⟩,BG8,HB8⟩
         case measure=>
          have:=HKE.out
          simp only[intOf,Hks.out]
          omega
        ·have c2:decide (kk≤en)=false:=Yf hke
         have em:m=(en+1 - x).toNat:=by have:=Hk.out;have:=Hk1.out;omega
         subst em
         clear hke
         go_wp2_with (first|(go_at_call 79;(with_reducible refine(impl_endOf.calls k _ _ l0 x en _ ?_ HC0.out TE.out).mono ?_);(exact Yl HR0.out HBk.out);rintro e w' ⟨rfl,⟨nd,rfl⟩⟩)|fail)
         go_roundw
         case rel=>exact⟨x+1,d,_,by rw[Hs.out],⟨by have:=Hx0.out;omega⟩,⟨by have:=Hx1.out;omega⟩,TI,⟨RGk.out.below (by repeat(first|exact Zx _ _|apply Zf))⟩,⟨BGk.out⟩,⟨by repeat(first|exact HBk.out|apply Zf)⟩⟩
         case measure=>
          have:=Hlt.out
          have:=Hx0.out
          simp only[intOf,Hs.out]
          omega
      ·rw[if_neg hen] at TH
       cases TH
     ·rw[if_neg h4] at TH
      have TI:=Za TH
      have h4n:(x0==4)=false:=by simp[h4]
      have h4m:decide (x0=4)=false:=by simp[h4]
      clear TH
      go_wp2_with (first|((with_reducible refine Zp (N:=5) rfl ?_);refine Zr ?hg (N:=5) ?hd (cs:= #[.int .i64 0,.int .i64 0,.int .i64 0,.int .i64 0,.int .i64 0,.int .i64 0]) (t:=92) ?hr ?_;(case hd=>rfl);(case hg=>rfl);(case hr=>exact z6_0);intro g5 hg5 w5 hp hb;have B5:=Za hp;have HB5:=Za (Zj HB.out hb);have RG5:=Za (RG.out.below hb);have BG5:=Za (Zi BG.out hb);have G5:Aside0 (w.heap.size≤g5):=⟨by rw[hg5];exact HB.out.size⟩;clear hg5 hp hb;obtain⟨⟨_,_,_,_,_,_⟩,⟨_,_,_,_,_,_⟩⟩:=Sep.blk6 B5.out)|((with_reducible refine Ye (t:=92) (p:=5) rfl ?_);refine Yd (t:=92) (p:=5) (v:= ?vo5_) (w1:=Sep.put6 w5 g5 (.int .i64 x0) (.int .i64 x1) (.int .i64 x2) (.int .i64 x3) (.int .i64 x4) (.int .i64 x5)) ?hg ?ho ?hn ?hr ?_;(case ho=>rfl);(case hg=>rfl);(case hn=>rfl);(case hr=>exact z6_0);intro w6 hw;have B6:Aside0 (w6.heap[g5]? =some (.cells #[.int .i64 x0,.int .i64 x1,.int .i64 x2,.int .i64 x3,.int .i64 x4,.int .i64 x5] 92 (0,0))):=⟨by rw[hw];exact Sep.put6_blk B5.out _ _ _ _ _ _⟩;have HB6:Aside0 (Below w.heap.size w w6):=⟨by rw[hw];exact Sep.put6_below HB5.out G5.out _ _ _ _ _ _⟩;have RG6:Aside0 (rowB w6 (.slice A3 l0.length c3) gd):=⟨RG5.out.keep (fun k hk=>by rw[hw];exact put6_far (RG5.out.ne B5.out (by decide) k hk) _ _ _ _ _ _)⟩;have BG6:Aside0 (w6.heap[gp]? =some (.cells #[.slice A3 l0.length c3] 128 (0,0))):=⟨by rw[hw,put6_far (blk_ne BG5.out B5.out (by decide))];exact BG5.out⟩;clear hw;have hd0:w6.cell? ⟨g5,0,none⟩=some (.int .i64 x0):=(Zb B6.out 0).trans rfl)|fail)
      go_roundw
      case rel=>exact⟨x+1,d,gd,by rw[Hs.out],⟨by have:=Hx0.out;omega⟩,⟨by have:=Hx1.out;omega⟩,TI,RG6,BG6,HB6⟩
      case measure=>
       have:=Hlt.out
       have:=Hx0.out
       simp only[intOf,Hs.out]
       omega
  ·rw[if_neg hl] at h
   cases h
-- NOT PRINTED: function 74 (slices_DeleteFunc_int_int)
set_option maxRecDepth 100000 in
theorem mayWrite_clo (i:Int) (w:World):Calls Tryz.prog 102 (#[.int .i64 i]++ #[]) w fun e w'=>e= .returned (.bool true)∧Drawn0 w w':=by
 go_enter Tryz.func102,Tryz.ntmps102
 go_wp2
 go_ret
 exact⟨rfl,Zv _⟩
def impl_MayWrite.f (k:Nat) (l0:List S92):Option (List Int):=(impl_BlockOk.f k l0).bind fun b=>if b=true then (if l0.length<17592186044415 then some (setOf (writtenL (fun _=>true) l0 0)) else none) else some []
theorem impl_MayWrite.mono:∀a0 k,LeO (impl_MayWrite.f k a0) (impl_MayWrite.f (k+1) a0):=by
 intro a0 k
 unfold impl_MayWrite.f
 exact Zt (impl_BlockOk.mono _ k) (fun _=>Yn _)
set_option maxHeartbeats 8000000 in
set_option maxRecDepth 100000 in
theorem impl_MayWrite.calls (k:Nat) (A0:Option Addr) (c0:Nat) (l0:List S92) (r:List Int) (w:World) (hr0:Kd.C k92 w A0 l0.length l0) (hc0:l0.length≤c0) (h:impl_MayWrite.f k l0=some r):
  Calls Tryz.prog 75 #[.slice A0 l0.length c0] w fun e w'=>∃v0_:Value,e= .returned (v0_)∧Kd.R (Kd.int .i64) 3 w' w.heap.size (fun _=>True) v0_ r∧Below w.heap.size w w':=by
 unfold impl_MayWrite.f at h
 obtain⟨b,hb,h⟩:=Zg h
 have HR0:=Za hr0
 have HC0:=Za hc0
 have TB:=Za hb
 clear hr0 hc0 hb
 cases b with
 |false=>
  rw[if_neg (by decide)] at h
  cases h
  go_enter Tryz.func75,Tryz.ntmps75
  go_wp2_with (first|(go_at_call 97;(with_reducible refine(impl_BlockOk.calls k _ _ l0 false _ HR0.out HC0.out TB.out).mono ?_);rintro e w1 ⟨rfl,hb1⟩;have HB1:=Za hb1;clear hb1)|fail)
  go_ret
  exact⟨_,rfl,Kd.R_nil _ _ _ _ _,HB1.out⟩
 |true=>
  rw[if_pos rfl] at h
  by_cases hl:l0.length<17592186044415
  ·rw[if_pos hl] at h
   have HL:=Za hl
   clear hl
   cases h
   go_enter Tryz.func75,Tryz.ntmps75
   go_wp2_with (first|(go_at_call 97;(with_reducible refine(impl_BlockOk.calls k _ _ l0 true _ HR0.out HC0.out TB.out).mono ?_);rintro e w1 ⟨rfl,hb1⟩;have HB1:=Za hb1;clear hb1)|(go_at_call 100;(with_reducible refine(impl_written.calls (fun _=>true) 102 #[] (fun args w=>enters_ Tryz.func102 (by kernel_rfl) (by kernel_rfl) args w) _ _ l0 _ (Yl HR0.out HB1.out) HC0.out HL.out (fun i w' _ _ _=>mayWrite_clo i w')).mono ?_);rintro e w2 ⟨v2,rfl,ho,hb⟩;have R2:=Za (Sep.rowI.of_R ho);have B2:Aside0 (∀k,v2.ownBlock=some k→w.heap.size≤k):=⟨fun k hk=>Nat.le_trans HB1.out.size (Yo ho k hk)⟩;have HB2:=Za (Zj HB1.out hb);clear ho hb)|fail)
   go_ret
   exact⟨_,rfl,R2.out.to_R (fun k hk=>B2.out k hk) (fun _ _=>trivial),HB2.out⟩
  ·rw[if_neg hl] at h
   cases h
def slices_Index_int_int.l0:Nat→List Int→Int→Int→Int→Option (Int)
 |0,_,_,_,_=>none
 |k+1,x0,x1,x7,x8=>if x8<x7 then (if 0≤x8 then (if x8<(x0.length:Int) then (if x1=(rd x0 x8) then (some x8) else (slices_Index_int_int.l0 k x0 x1 x7 (wrap64 (x8+1)))) else (none)) else (none)) else (some (-1))
def slices_Index_int_int.f (k:Nat) (l0:List Int) (a1:Int):Option (Int):=slices_Index_int_int.l0 k l0 a1 (l0.length:Int) 0
set_option maxHeartbeats 8000000 in
set_option maxRecDepth 100000 in
theorem slices_Index_int_int.calls (k:Nat) (A0:Option Addr) (c0:Nat) (l0:List Int) (a1:Int) (r:Int) (w:World) (hr0:Kd.C (Kd.int .i64) w A0 l0.length l0) (hc0:l0.length≤c0) (h:slices_Index_int_int.f k l0 a1=some r):
  Calls Tryz.prog 112 #[.slice A0 l0.length c0,.int .i64 a1] w fun e w'=>e= .returned (.int .i64 r)∧Drawn0 w w':=by
 have HR0:=Za hr0
 have HC0:=Za hc0
 clear hr0 hc0
 have H:(slices_Index_int_int.l0 k l0 a1 (l0.length:Int) 0)=some r:=h
 clear h
 have H':=Za H
 clear H
 go_enter Tryz.func112,Tryz.ntmps112
 go_wp2
 go_loopg [8] k (fun kq v8 w'=>∃(x8_1:Int),v8= .int .i64 x8_1∧Aside0 (slices_Index_int_int.l0 kq l0 a1 (l0.length:Int) x8_1=some r)∧Aside0 (kq≤k)∧Drawn0 w w')
 case atStart=>exact⟨(0),(by first|rfl|(simp;done)|(simp[*];done)),H',⟨Nat.le_refl _⟩,by repeat(first|exact Zv _|apply Zw)⟩
 case round=>
  clear H'
  obtain⟨x8_1,rfl,HA,HK1,⟨m1,rfl⟩⟩:=hrel
  cases gk with
  |zero=>exact absurd HA.out (by simp[slices_Index_int_int.l0])
  |succ k1=>
   have H:=HA.out
   clear HA
   simp only[slices_Index_int_int.l0] at H
   by_cases c3:x8_1<(l0.length:Int)
   ·rw[if_pos c3] at H
    have c3b0:decide (x8_1<(l0.length:Int))=true:=Zq c3
    clear c3
    by_cases c4:0≤x8_1
    ·rw[if_pos c4] at H
     have c4b0:decide (0≤x8_1)=true:=Zq c4
     clear c4
     by_cases c5:x8_1<(l0.length:Int)
     ·rw[if_pos c5] at H
      have c5b0:decide (x8_1<(l0.length:Int))=true:=Zq c5
      clear c5
      by_cases c6:a1=(rd l0 x8_1)
      ·rw[if_pos c6] at H
       have c6b0:(a1==(rd l0 x8_1))=true:=beq_iff_eq.mpr c6
       have c6b1:(a1 != (rd l0 x8_1))=false:=bne_eq_false_iff_eq.mpr c6
       clear c6
       obtain rfl:=Zk H
       have p475:0≤(x8_1:Int):=Zs (by first|(with_reducible assumption)|assumption)
       have q475:x8_1<(l0.length:Int):=Zs (by first|(with_reducible assumption)|assumption)
       obtain⟨ad475,e475,hx475_0⟩:=Kd.at_int HR0.out x8_1 p475 q475
       cases e475
       replace p475:=eq_true p475
       replace q475:=eq_true q475
       go_wp2
       go_ret
       exact⟨by first|rfl|(simp;done)|(simp[*];done),by repeat(first|exact Zv _|apply Zw)⟩
      ·rw[if_neg c6] at H
       have c6b0:(a1==(rd l0 x8_1))=false:=beq_eq_false_iff_ne.mpr c6
       have c6b1:(a1 != (rd l0 x8_1))=true:=bne_iff_ne.mpr c6
       have H':=Za H
       clear H
       have p475:0≤(x8_1:Int):=Zs (by first|(with_reducible assumption)|assumption)
       have q475:x8_1<(l0.length:Int):=Zs (by first|(with_reducible assumption)|assumption)
       obtain⟨ad475,e475,hx475_0⟩:=Kd.at_int HR0.out x8_1 p475 q475
       cases e475
       replace p475:=eq_true p475
       replace q475:=eq_true q475
       go_wp2
       go_roundg k1
       case measure=>have:=HK1.out;omega
       case rel=>exact⟨(wrap64 (x8_1+1)),(by first|rfl|(simp;done)|(simp[*];done)),H',⟨by have:=HK1.out;omega⟩,by repeat(first|exact Zv _|apply Zw)⟩
     ·rw[if_neg c5] at H
      exact absurd H (by simp)
    ·rw[if_neg c4] at H
     exact absurd H (by simp)
   ·rw[if_neg c3] at H
    have c3b0:decide (x8_1<(l0.length:Int))=false:=Yf c3
    clear c3
    obtain rfl:=Zk H
    go_wp2
    go_ret
    exact⟨by first|rfl|(simp;done)|(simp[*];done),by repeat(first|exact Zv _|apply Zw)⟩
def slices_Contains_int_int.f (k:Nat) (l0:List Int) (a1:Int):Option (Bool):=(slices_Index_int_int.f k l0 a1).bind fun t476=>(some (decide (t476≥0)))
set_option maxHeartbeats 8000000 in
set_option maxRecDepth 100000 in
theorem slices_Contains_int_int.calls (k:Nat) (A0:Option Addr) (c0:Nat) (l0:List Int) (a1:Int) (r:Bool) (w:World) (hr0:Kd.C (Kd.int .i64) w A0 l0.length l0) (hc0:l0.length≤c0) (h:slices_Contains_int_int.f k l0 a1=some r):
  Calls Tryz.prog 103 #[.slice A0 l0.length c0,.int .i64 a1] w fun e w'=>e= .returned (.bool r)∧Drawn0 w w':=by
 have HR0:=Za hr0
 have HC0:=Za hc0
 clear hr0 hc0
 have H:((slices_Index_int_int.f k l0 a1).bind fun t476=>(some (decide (t476≥0))))=some r:=h
 clear h
 replace H:=Zg H
 obtain⟨t476,A30,H⟩:=H
 replace H:(some (decide (t476≥0)))=some r:=H
 have A3:=Za A30
 clear A30
 obtain rfl:=Zk H
 go_enter Tryz.func103,Tryz.ntmps103
 go_wp2_with (first|((first|((with_reducible refine gate_callee (f:=112) rfl ?_);refine goesL_ (some 7) rfl rfl Tryz.func112 (by kernel_rfl) rfl #[.slice A0 l0.length c0,.int .i64 a1] rfl (by(try simp only[Ys,List.map_cons,List.map_nil]);first|done|rfl|(simp only[List.length_drop,List.length_take];rfl)) ?_;(with_reducible refine(slices_Index_int_int.calls k _ _ l0 a1 t476 _ ?side1 ?side2 A3.out).mono ?_))|(go_at_call 112;(with_reducible refine(slices_Index_int_int.calls k _ _ l0 a1 t476 _ ?side1 ?side2 A3.out).mono ?_)));(case side1=>repeat(first|exact HR0.out|(with_reducible refine Yi ?_ _)|(with_reducible refine Yg ?_ _)|(with_reducible refine Yj ?_)));(case side2=>exact HC0.out);rintro e w' ⟨rfl,⟨nd,rfl⟩⟩;(first|refine⟨_,rfl,?_⟩|skip)))
 go_ret
 exact⟨by first|rfl|(simp;done)|(simp[*];done),by repeat(first|exact Zv _|apply Zw)⟩
def impl_HasVar.f (k:Nat) (l0:List Int) (a1:Int):Option (Bool):=(slices_Contains_int_int.f k l0 a1).bind fun t477=>(some t477)
set_option maxHeartbeats 8000000 in
set_option maxRecDepth 100000 in
theorem impl_HasVar.calls (k:Nat) (A0:Option Addr) (c0:Nat) (l0:List Int) (a1:Int) (r:Bool) (w:World) (hr0:Kd.C (Kd.int .i64) w A0 l0.length l0) (hc0:l0.length≤c0) (h:impl_HasVar.f k l0 a1=some r):
  Calls Tryz.prog 77 #[.slice A0 l0.length c0,.int .i64 a1] w fun e w'=>e= .returned (.bool r)∧Drawn0 w w':=by
 have HR0:=Za hr0
 have HC0:=Za hc0
 clear hr0 hc0
 have H:((slices_Contains_int_int.f k l0 a1).bind fun t477=>(some t477))=some r:=h
 clear h
 replace H:=Zg H
 obtain⟨t477,A30,H⟩:=H
 replace H:(some t477)=some r:=H
 have A3:=Za A30
 clear A30
 obtain rfl:=Zk H
 go_enter Tryz.func77,Tryz.ntmps77
 go_wp2_with (first|((first|((with_reducible refine gate_callee (f:=103) rfl ?_);refine goesL_ (some 7) rfl rfl Tryz.func103 (by kernel_rfl) rfl #[.slice A0 l0.length c0,.int .i64 a1] rfl (by(try simp only[Ys,List.map_cons,List.map_nil]);first|done|rfl|(simp only[List.length_drop,List.length_take];rfl)) ?_;(with_reducible refine(slices_Contains_int_int.calls k _ _ l0 a1 t477 _ ?side1 ?side2 A3.out).mono ?_))|(go_at_call 103;(with_reducible refine(slices_Contains_int_int.calls k _ _ l0 a1 t477 _ ?side1 ?side2 A3.out).mono ?_)));(case side1=>repeat(first|exact HR0.out|(with_reducible refine Yi ?_ _)|(with_reducible refine Yg ?_ _)|(with_reducible refine Yj ?_)));(case side2=>exact HC0.out);rintro e w' ⟨rfl,⟨nd,rfl⟩⟩;(first|refine⟨_,rfl,?_⟩|skip)))
 go_ret
 exact⟨by first|rfl|(simp;done)|(simp[*];done),by repeat(first|exact Zv _|apply Zw)⟩
end Go.Proofs.YtdkbkkpbdmlmbaaGreat.G
