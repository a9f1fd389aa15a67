/- Functions of the program as plain Lean functions, and that each call comes to its function's answer; written by a program of the session. No condition. -/
import Derived.Test.YtlolppaddphpoaaGx0
import Derived.Test.YtlolppaddphpoaaGx7
namespace Go.Proofs.Ytlolppaddphpoaa.G
open Go.RowKit Go.Proofs.YtlolppaddphpoaaW.PrintWords Go.Proofs.YtlolppaddphpoaaW.PrintLast Go.Proofs.YtlolppaddphpoaaW.PrintMore
attribute [local go_sem] max2_int min2_int max_two min_two max_three min_three max_four min_four   -- for this text's walks alone
set_option linter.unusedVariables false
set_option linter.unusedSimpArgs false
theorem z8_0 {P:Prop} (h:P:=by repeat(first|(with_reducible first|exact HB.out|apply Zh|apply Zf|apply Ze)|exact HB.out)):P:=h
theorem z8_1 {P:Prop} (h:P:=by rw[hw];exact(by(with_reducible repeat(first|refine blk_drewN ?_ _|refine blk_drew ?_|refine blk_alloc ?_ _));refine blk_put (cs:= #[.int .i64 ((rd_T80 l0 x8_1).f0),.int .i64 ((rd_T80 l0 x8_1).f1),.int .i64 ((rd_T80 l0 x8_1).f2),.int .i64 ((rd_T80 l0 x8_1).f3.f0),.int .i64 ((rd_T80 l0 x8_1).f3.f1),.int .i64 0]) ?_ 5 _ rfl;(with_reducible repeat(first|refine blk_drewN ?_ _|refine blk_drew ?_|refine blk_alloc ?_ _));refine blk_put (cs:= #[.int .i64 ((rd_T80 l0 x8_1).f0),.int .i64 ((rd_T80 l0 x8_1).f1),.int .i64 ((rd_T80 l0 x8_1).f2),.int .i64 ((rd_T80 l0 x8_1).f3.f0),.int .i64 0,.int .i64 0]) ?_ 4 _ rfl;(with_reducible repeat(first|refine blk_drewN ?_ _|refine blk_drew ?_|refine blk_alloc ?_ _));refine blk_put (cs:= #[.int .i64 ((rd_T80 l0 x8_1).f0),.int .i64 ((rd_T80 l0 x8_1).f1),.int .i64 ((rd_T80 l0 x8_1).f2),.int .i64 0,.int .i64 0,.int .i64 0]) ?_ 3 _ rfl;(with_reducible repeat(first|refine blk_drewN ?_ _|refine blk_drew ?_|refine blk_alloc ?_ _));refine blk_put (cs:= #[.int .i64 ((rd_T80 l0 x8_1).f0),.int .i64 ((rd_T80 l0 x8_1).f1),.int .i64 0,.int .i64 0,.int .i64 0,.int .i64 0]) ?_ 2 _ rfl;(with_reducible repeat(first|refine blk_drewN ?_ _|refine blk_drew ?_|refine blk_alloc ?_ _));refine blk_put (cs:= #[.int .i64 ((rd_T80 l0 x8_1).f0),.int .i64 0,.int .i64 0,.int .i64 0,.int .i64 0,.int .i64 0]) ?_ 1 _ rfl;(with_reducible repeat(first|refine blk_drewN ?_ _|refine blk_drew ?_|refine blk_alloc ?_ _));refine blk_put (cs:= #[.int .i64 0,.int .i64 0,.int .i64 0,.int .i64 0,.int .i64 0,.int .i64 0]) ?_ 0 _ rfl;(with_reducible repeat(first|refine blk_drewN ?_ _|refine blk_drew ?_|refine blk_alloc ?_ _));exact BK259.out)):P:=h
theorem z8_2 {P:Prop} (h:P:=by(try simp only[List.map_toArray,List.map_cons,List.map_nil]);first|done|rfl|(simp only[List.length_drop,List.length_take];rfl)):P:=h
theorem z8_3 {P:Prop} (h:P:=by first|rfl|(simp;done)|(simp[*];done)):P:=h
theorem z8_4 {P:Prop} (h:P:=by first|(with_reducible assumption)|assumption):P:=h
theorem z8_5 {P:Prop} (h:P:=by first|(go_simp;done)|(go_simp;rfl)):P:=h
theorem z8_6 {P:Prop} (h:P:=by repeat(first|exact(Yg HR0_0.out HB.out)|(with_reducible refine Yc ?_ _)|(with_reducible refine Yd ?_ _)|(with_reducible refine Ye ?_))):P:=h
theorem z8_7 {P:Prop} (h:P:=by repeat(first|(with_reducible first|exact HB.out|apply Zh|apply Zf|apply Ze|refine Zd ?_ GE259.out)|exact HB.out)):P:=h
theorem z8_8 {P:Prop} (h:P:=by repeat(first|(with_reducible first|exact HB.out|apply Zh|apply Zf|apply Ze|refine Zd ?_ GE262.out)|exact HB.out)):P:=h
theorem z8_9 {P:Prop} (h:P:=by(with_reducible repeat(first|refine blk_drewN ?_ _|refine blk_drew ?_|refine blk_alloc ?_ _));exact BK262.out):P:=h
theorem z8_10 {P:Prop} (h:P:=by rw[hg];exact(Zy z8_0)):P:=h
/-! ### impl_BlockOk: function 91 -/
mutual
def impl_BlockOk.l0:Nat→List (S80)→Int→List (S80)→Int→Int→Option (Bool)
 |0,_,_,_,_,_=>none
 |k+1,x0,x3,x6,x7,x8=>if x8<x7 then (if 0≤x8 then (if x8<(x6.length:Int) then ((impl_StmtOk.f k ((rd_T80 x6 x8).f0) ((rd_T80 x6 x8).f1) ((rd_T80 x6 x8).f2) ((rd_T80 x6 x8).f3.f0) ((rd_T80 x6 x8).f3.f1) ((rd_T80 x6 x8).f3.f2)).bind fun t260=>(if t260=true then ((impl_isOpening.f ((rd_T80 x6 x8).f0)).bind fun t261=>(if t261=true then (impl_BlockOk.j1 k x0 (wrap64 (x3+1)) x6 x7 x8 ((rd_T80 x6 x8).f0) ((rd_T80 x6 x8).f1) ((rd_T80 x6 x8).f2) ((rd_T80 x6 x8).f3.f0) ((rd_T80 x6 x8).f3.f1) ((rd_T80 x6 x8).f3.f2)) else (impl_BlockOk.j1 k x0 x3 x6 x7 x8 ((rd_T80 x6 x8).f0) ((rd_T80 x6 x8).f1) ((rd_T80 x6 x8).f2) ((rd_T80 x6 x8).f3.f0) ((rd_T80 x6 x8).f3.f1) ((rd_T80 x6 x8).f3.f2)))) else (some false))) else (none)) else (none)) else (if x3=0 then (some (decide ((x0.length:Int)≤24))) else (some false))
def impl_BlockOk.j1:Nat→List (S80)→Int→List (S80)→Int→Int→Int→Int→Int→Int→Int→Int→Option (Bool)
 |0,_,_,_,_,_,_,_,_,_,_,_=>none
 |k+1,x0,x3,x6,x7,x8,x260000,x260001,x260002,x260003,x260004,x260005=>if x260000=6 then (if (wrap64 (x3 - 1))<0 then (some false) else (if (wrap64 (x3 - 1)) > 3 then (some false) else (impl_BlockOk.l0 k x0 (wrap64 (x3 - 1)) x6 x7 (wrap64 (x8+1))))) else (if x3<0 then (some false) else (if x3 > 3 then (some false) else (impl_BlockOk.l0 k x0 x3 x6 x7 (wrap64 (x8+1)))))
end
def impl_BlockOk.f (k:Nat) (l0:List (S80)):Option (Bool):=impl_BlockOk.l0 k l0 0 l0 (l0.length:Int) 0
set_option maxHeartbeats 8000000 in
set_option maxRecDepth 100000 in
theorem impl_BlockOk.calls (k:Nat) (A0:Option Addr) (c0:Nat) (l0:List (S80)) (r:Bool) (w:World) (hr0:Kd.C k80 w A0 l0.length l0) (hc0:l0.length≤c0) (h:impl_BlockOk.f k l0=some r):
  Calls Try.prog 91 #[.slice A0 l0.length c0] w fun e w'=>e= .returned (.bool r)∧Below w.heap.size w w':=by
 have hu80:=Try.underlying80
 have HR0:=Za hr0
 have HC0:=Za hc0
 clear hr0 hc0
 have HB:=Za (Yh w.heap.size w)
 have H:(impl_BlockOk.l0 k l0 0 l0 (l0.length:Int) 0)=some r:=h
 clear h
 have H':=Za H
 clear H
 go_enter Try.func91,Try.ntmps91
 go_wp2
 go_loopg [3,8] k (fun kq v3 v8 w'=>∃(x3_1:Int) (x8_1:Int),v3= .int .i64 x3_1∧v8= .int .i64 x8_1∧Aside0 (impl_BlockOk.l0 kq l0 x3_1 l0 (l0.length:Int) x8_1=some r)∧Aside0 (kq≤k)∧Aside0 (Below w.heap.size w w'))
 case atStart=>exact⟨(0),(0),z8_3,z8_3,H',⟨Nat.le_refl _⟩,⟨by repeat(first|(with_reducible first|exact HB.out|apply Zh|apply Zf|apply Ze)|exact HB.out)⟩⟩
 case round=>
  clear H'
  obtain⟨x3_1,x8_1,rfl,rfl,HA,HK1,HB⟩:=hrel
  cases gk with
  |zero=>exact absurd HA.out (by simp[impl_BlockOk.l0])
  |succ k1=>
   have H:=HA.out
   clear HA
   simp only[impl_BlockOk.l0] at H
   by_cases c2:x8_1<(l0.length:Int)
   ·rw[if_pos c2] at H
    have c2b0:decide (x8_1<(l0.length:Int))=true:=Zx c2
    clear c2
    by_cases c3:0≤x8_1
    ·rw[if_pos c3] at H
     have c3b0:decide (0≤x8_1)=true:=Zx c3
     clear c3
     by_cases c4:x8_1<(l0.length:Int)
     ·rw[if_pos c4] at H
      have c4b0:decide (x8_1<(l0.length:Int))=true:=Zx c4
      clear c4
      replace H:=Zl H
      obtain⟨t260,A50,H⟩:=H
      replace H:(if t260=true then ((impl_isOpening.f ((rd_T80 l0 x8_1).f0)).bind fun t261=>(if t261=true then (impl_BlockOk.j1 k1 l0 (wrap64 (x3_1+1)) l0 (l0.length:Int) x8_1 ((rd_T80 l0 x8_1).f0) ((rd_T80 l0 x8_1).f1) ((rd_T80 l0 x8_1).f2) ((rd_T80 l0 x8_1).f3.f0) ((rd_T80 l0 x8_1).f3.f1) ((rd_T80 l0 x8_1).f3.f2)) else (impl_BlockOk.j1 k1 l0 x3_1 l0 (l0.length:Int) x8_1 ((rd_T80 l0 x8_1).f0) ((rd_T80 l0 x8_1).f1) ((rd_T80 l0 x8_1).f2) ((rd_T80 l0 x8_1).f3.f0) ((rd_T80 l0 x8_1).f3.f1) ((rd_T80 l0 x8_1).f3.f2)))) else (some false))=some r:=H
      have A5:=Za A50
      clear A50
      by_cases c6:t260=true
      ·subst c6
       rw[if_pos rfl] at H
       replace H:=Zl H
       obtain⟨t261,A70,H⟩:=H
       replace H:(if t261=true then (impl_BlockOk.j1 k1 l0 (wrap64 (x3_1+1)) l0 (l0.length:Int) x8_1 ((rd_T80 l0 x8_1).f0) ((rd_T80 l0 x8_1).f1) ((rd_T80 l0 x8_1).f2) ((rd_T80 l0 x8_1).f3.f0) ((rd_T80 l0 x8_1).f3.f1) ((rd_T80 l0 x8_1).f3.f2)) else (impl_BlockOk.j1 k1 l0 x3_1 l0 (l0.length:Int) x8_1 ((rd_T80 l0 x8_1).f0) ((rd_T80 l0 x8_1).f1) ((rd_T80 l0 x8_1).f2) ((rd_T80 l0 x8_1).f3.f0) ((rd_T80 l0 x8_1).f3.f1) ((rd_T80 l0 x8_1).f3.f2)))=some r:=H
       have A7:=Za A70
       clear A70
       have HC8:=Za H
       clear H
       have p258:0≤(x8_1:Int):=Zv z8_4
       have q258:x8_1<(l0.length:Int):=Zv z8_4
       obtain⟨ad258,e258,hx258_0,hx258_1,hx258_2,hx258_3,hx258_4,hx258_5⟩:=at_T80 HR0.out x8_1 p258 q258
       cases e258
       replace hx258_0:=(HB.out.cell (Zi w _ hx258_0)).trans hx258_0
       replace hx258_1:=(HB.out.cell (Zi w _ hx258_1)).trans hx258_1
       replace hx258_2:=(HB.out.cell (Zi w _ hx258_2)).trans hx258_2
       replace hx258_3:=(HB.out.cell (Zi w _ hx258_3)).trans hx258_3
       replace hx258_4:=(HB.out.cell (Zi w _ hx258_4)).trans hx258_4
       replace hx258_5:=(HB.out.cell (Zi w _ hx258_5)).trans hx258_5
       replace p258:=eq_true p258
       replace q258:=eq_true q258
       go_upto_if 17 with(first|((with_reducible refine Zp (N:=5) rfl ?_);(try(refine gate_guard (by rfl) ?_;dsimp only));refine Zt ?hg (N:=5) ?hd (cs:= #[.int .i64 0,.int .i64 0,.int .i64 0,.int .i64 0,.int .i64 0,.int .i64 0]) (t:=80) ?hr ?_;(case hd=>rfl);(case hg=>rfl);(case hr=>exact z8_5);intro gb259 hg w9 hbox hb;have BK259:=Za (hbox);have GW259:=Za ((z8_10:w.heap.size≤gb259));have GE259:=Za ((z8_10:w.heap.size≤gb259));replace HB:=Za (Zj z8_0 hb);clear hb hbox hg;have hcz10_0:w9.cell? ⟨gb259,0,none⟩=some (.int .i64 0):=(Zb BK259.out 0).trans rfl;have hcz10_1:w9.cell? ⟨gb259,1,none⟩=some (.int .i64 0):=(Zb BK259.out 1).trans rfl;have hcz10_2:w9.cell? ⟨gb259,2,none⟩=some (.int .i64 0):=(Zb BK259.out 2).trans rfl;have hcz10_3:w9.cell? ⟨gb259,3,none⟩=some (.int .i64 0):=(Zb BK259.out 3).trans rfl;have hcz10_4:w9.cell? ⟨gb259,4,none⟩=some (.int .i64 0):=(Zb BK259.out 4).trans rfl;have hcz10_5:w9.cell? ⟨gb259,5,none⟩=some (.int .i64 0):=(Zb BK259.out 5).trans rfl;have hfz10_0:=Zc BK259.out 0;have hfz10_1:=Zc BK259.out 1;have hfz10_2:=Zc BK259.out 2;have hfz10_3:=Zc BK259.out 3;have hfz10_4:=Zc BK259.out 4;have hfz10_5:=Zc BK259.out 5)|((with_reducible refine Yk (t:=80) (p:=5) rfl ?_);refine Yj (t:=80) (p:=5) (v:= ?vo_w11) (w1:=((((((w9.setCell ⟨gb259,0,none⟩ (.int .i64 ((rd_T80 l0 x8_1).f0))).setCell ⟨gb259,1,none⟩ (.int .i64 ((rd_T80 l0 x8_1).f1))).setCell ⟨gb259,2,none⟩ (.int .i64 ((rd_T80 l0 x8_1).f2))).setCell ⟨gb259,3,none⟩ (.int .i64 ((rd_T80 l0 x8_1).f3.f0))).setCell ⟨gb259,4,none⟩ (.int .i64 ((rd_T80 l0 x8_1).f3.f1))).setCell ⟨gb259,5,none⟩ (.int .i64 ((rd_T80 l0 x8_1).f3.f2)))) ?hg ?ho ?hn ?hr ?_;(case ho=>rfl);(case hg=>rfl);(case hn=>rfl);(case hr=>exact z8_5);intro w11 hw;have n0_:Aside0 (w11.heap[gb259]? =some (.cells #[.int .i64 ((rd_T80 l0 x8_1).f0),.int .i64 ((rd_T80 l0 x8_1).f1),.int .i64 ((rd_T80 l0 x8_1).f2),.int .i64 ((rd_T80 l0 x8_1).f3.f0),.int .i64 ((rd_T80 l0 x8_1).f3.f1),.int .i64 ((rd_T80 l0 x8_1).f3.f2)] 80 (0,0))):=⟨z8_1⟩;have n1_:Aside0 (Below w.heap.size w w11):=⟨(by rw[hw];exact z8_7)⟩;clear hw;clear BK259;clear HB;have BK259:=n0_;have HB:=n1_;clear n0_ n1_;have hcz12_0:w11.cell? ⟨gb259,0,none⟩=some (.int .i64 ((rd_T80 l0 x8_1).f0)):=(Zb BK259.out 0).trans rfl;have hcz12_1:w11.cell? ⟨gb259,1,none⟩=some (.int .i64 ((rd_T80 l0 x8_1).f1)):=(Zb BK259.out 1).trans rfl;have hcz12_2:w11.cell? ⟨gb259,2,none⟩=some (.int .i64 ((rd_T80 l0 x8_1).f2)):=(Zb BK259.out 2).trans rfl;have hcz12_3:w11.cell? ⟨gb259,3,none⟩=some (.int .i64 ((rd_T80 l0 x8_1).f3.f0)):=(Zb BK259.out 3).trans rfl;have hcz12_4:w11.cell? ⟨gb259,4,none⟩=some (.int .i64 ((rd_T80 l0 x8_1).f3.f1)):=(Zb BK259.out 4).trans rfl;have hcz12_5:w11.cell? ⟨gb259,5,none⟩=some (.int .i64 ((rd_T80 l0 x8_1).f3.f2)):=(Zb BK259.out 5).trans rfl;have hfz12_0:=Zc BK259.out 0;have hfz12_1:=Zc BK259.out 1;have hfz12_2:=Zc BK259.out 2;have hfz12_3:=Zc BK259.out 3;have hfz12_4:=Zc BK259.out 4;have hfz12_5:=Zc BK259.out 5)|((first|((with_reducible refine gate_callee (f:=96) rfl ?_);refine goesL_ (some 13) rfl rfl Try.func96 (by kernel_rfl) rfl #[.agg #[.int .i64 ((rd_T80 l0 x8_1).f0),.int .i64 ((rd_T80 l0 x8_1).f1),.int .i64 ((rd_T80 l0 x8_1).f2),.int .i64 ((rd_T80 l0 x8_1).f3.f0),.int .i64 ((rd_T80 l0 x8_1).f3.f1),.int .i64 ((rd_T80 l0 x8_1).f3.f2)]] rfl z8_2 ?_;(with_reducible refine(impl_StmtOk.calls k1 ((rd_T80 l0 x8_1).f0) ((rd_T80 l0 x8_1).f1) ((rd_T80 l0 x8_1).f2) ((rd_T80 l0 x8_1).f3.f0) ((rd_T80 l0 x8_1).f3.f1) ((rd_T80 l0 x8_1).f3.f2) true _ A5.out).mono ?_))|(go_at_call 96;(with_reducible refine(impl_StmtOk.calls k1 ((rd_T80 l0 x8_1).f0) ((rd_T80 l0 x8_1).f1) ((rd_T80 l0 x8_1).f2) ((rd_T80 l0 x8_1).f3.f0) ((rd_T80 l0 x8_1).f3.f1) ((rd_T80 l0 x8_1).f3.f2) true _ A5.out).mono ?_)));rintro e w13 ⟨rfl,hb⟩;(first|refine⟨_,rfl,?_⟩|skip);replace BK259:=Za (Zg (g:=gb259) (o:= .cells #[.int .i64 ((rd_T80 l0 x8_1).f0),.int .i64 ((rd_T80 l0 x8_1).f1),.int .i64 ((rd_T80 l0 x8_1).f2),.int .i64 ((rd_T80 l0 x8_1).f3.f0),.int .i64 ((rd_T80 l0 x8_1).f3.f1),.int .i64 ((rd_T80 l0 x8_1).f3.f2)] 80 (0,0)) (by(with_reducible repeat(first|refine blk_drewN ?_ _|refine blk_drew ?_|refine blk_alloc ?_ _));exact BK259.out) hb);replace HB:=Za (Zj z8_7 hb);(try clear hb);(try clear hb2);(try clear hk);(try clear hi);have hcz14_0:w13.cell? ⟨gb259,0,none⟩=some (.int .i64 ((rd_T80 l0 x8_1).f0)):=(Zb BK259.out 0).trans rfl;have hcz14_1:w13.cell? ⟨gb259,1,none⟩=some (.int .i64 ((rd_T80 l0 x8_1).f1)):=(Zb BK259.out 1).trans rfl;have hcz14_2:w13.cell? ⟨gb259,2,none⟩=some (.int .i64 ((rd_T80 l0 x8_1).f2)):=(Zb BK259.out 2).trans rfl;have hcz14_3:w13.cell? ⟨gb259,3,none⟩=some (.int .i64 ((rd_T80 l0 x8_1).f3.f0)):=(Zb BK259.out 3).trans rfl;have hcz14_4:w13.cell? ⟨gb259,4,none⟩=some (.int .i64 ((rd_T80 l0 x8_1).f3.f1)):=(Zb BK259.out 4).trans rfl;have hcz14_5:w13.cell? ⟨gb259,5,none⟩=some (.int .i64 ((rd_T80 l0 x8_1).f3.f2)):=(Zb BK259.out 5).trans rfl;have hfz14_0:=Zc BK259.out 0;have hfz14_1:=Zc BK259.out 1;have hfz14_2:=Zc BK259.out 2;have hfz14_3:=Zc BK259.out 3;have hfz14_4:=Zc BK259.out 4;have hfz14_5:=Zc BK259.out 5)|((first|((with_reducible refine gate_callee (f:=72) rfl ?_);refine goesL_ (some 17) rfl rfl Try.func72 (by kernel_rfl) rfl #[.int .i64 ((rd_T80 l0 x8_1).f0)] rfl z8_2 ?_;(with_reducible refine(impl_isOpening.calls ((rd_T80 l0 x8_1).f0) t261 _ A7.out).mono ?_))|(go_at_call 72;(with_reducible refine(impl_isOpening.calls ((rd_T80 l0 x8_1).f0) t261 _ A7.out).mono ?_)));rintro e w' ⟨rfl,⟨nd,rfl⟩⟩;(first|refine⟨_,rfl,?_⟩|skip)))
       (try simp only[Act.put,Zq,Zr,Zs])
       go_cut [3] (fun v3 wc=>∃(kq:Nat) (x3_7:Int),v3= .int .i64 x3_7∧Aside0 (impl_BlockOk.j1 kq l0 x3_7 l0 (l0.length:Int) x8_1 ((rd_T80 l0 x8_1).f0) ((rd_T80 l0 x8_1).f1) ((rd_T80 l0 x8_1).f2) ((rd_T80 l0 x8_1).f3.f0) ((rd_T80 l0 x8_1).f3.f1) ((rd_T80 l0 x8_1).f3.f2)=some r)∧Aside0 (kq≤k1)∧Aside0 (wc.heap[gb259]? =some (.cells #[.int .i64 ((rd_T80 l0 x8_1).f0),.int .i64 ((rd_T80 l0 x8_1).f1),.int .i64 ((rd_T80 l0 x8_1).f2),.int .i64 ((rd_T80 l0 x8_1).f3.f0),.int .i64 ((rd_T80 l0 x8_1).f3.f1),.int .i64 ((rd_T80 l0 x8_1).f3.f2)] 80 (0,0)))∧Aside0 (Below w.heap.size w wc))
       case first=>
        have H:=HC8.out
        clear HC8
        by_cases c15:t261=true
        ·subst c15
         rw[if_pos rfl] at H
         have H':=Za H
         clear H
         go_wp2
         go_meet
         case rel=>exact⟨_,(wrap64 (x3_1+1)),z8_3,H',⟨by have:=HK1.out;first|omega|exact Nat.le_refl _⟩,⟨by(with_reducible repeat(first|refine blk_drewN ?_ _|refine blk_drew ?_|refine blk_alloc ?_ _));exact BK259.out⟩,⟨by repeat(first|(with_reducible first|exact HB.out|apply Zh|apply Zf|apply Ze|refine Zd ?_ GE259.out)|exact HB.out)⟩⟩
        ·replace c15:=Bool.eq_false_iff.mpr c15
         subst c15
         rw[if_neg (show ¬(false=true) by decide)] at H
         have H':=Za H
         clear H
         go_wp2
         go_meet
         case rel=>exact⟨_,(x3_1),z8_3,H',⟨by have:=HK1.out;first|omega|exact Nat.le_refl _⟩,⟨by(with_reducible repeat(first|refine blk_drewN ?_ _|refine blk_drew ?_|refine blk_alloc ?_ _));exact BK259.out⟩,⟨by repeat(first|(with_reducible first|exact HB.out|apply Zh|apply Zf|apply Ze|refine Zd ?_ GE259.out)|exact HB.out)⟩⟩
       case rest=>
        clear HC8
        (try clear c2);(try clear c2b0);(try clear c3);(try clear c3b0);(try clear c4);(try clear c4b0);(try clear c6);(try clear hcz10_0);(try clear hcz10_1);(try clear hcz10_2);(try clear hcz10_3);(try clear hcz10_4);(try clear hcz10_5);(try clear hcz12_0);(try clear hcz12_1);(try clear hcz12_2);(try clear hcz12_3);(try clear hcz12_4);(try clear hcz12_5);(try clear hcz14_0);(try clear hcz14_1);(try clear hcz14_2);(try clear hcz14_3);(try clear hcz14_4);(try clear hcz14_5);(try clear hfz10_0);(try clear hfz10_1);(try clear hfz10_2);(try clear hfz10_3);(try clear hfz10_4);(try clear hfz10_5);(try clear hfz12_0);(try clear hfz12_1);(try clear hfz12_2);(try clear hfz12_3);(try clear hfz12_4);(try clear hfz12_5);(try clear hfz14_0);(try clear hfz14_1);(try clear hfz14_2);(try clear hfz14_3);(try clear hfz14_4);(try clear hfz14_5);(try clear hx258_0);(try clear hx258_1);(try clear hx258_2);(try clear hx258_3);(try clear hx258_4);(try clear hx258_5);(try clear p258);(try clear q258)
        obtain⟨kq,x3_7,rfl,HA,HJ7,BK259,HB⟩:=hcut
        cases kq with
        |zero=>exact absurd HA.out (by simp[impl_BlockOk.j1])
        |succ kj7=>
         have H:=HA.out
         clear HA
         simp only[impl_BlockOk.j1] at H
         by_cases c16:((rd_T80 l0 x8_1).f0)=6
         ·rw[if_pos c16] at H
          have c16b0:(((rd_T80 l0 x8_1).f0)==6)=true:=beq_iff_eq.mpr c16
          have c16b1:(((rd_T80 l0 x8_1).f0) != 6)=false:=bne_eq_false_iff_eq.mpr c16
          clear c16
          by_cases c17:(wrap64 (x3_7 - 1))<0
          ·rw[if_pos c17] at H
           have c17b0:decide ((wrap64 (x3_7 - 1))<0)=true:=Zx c17
           clear c17
           obtain rfl:=Zk H
           have hcz18_0:wc.cell? ⟨gb259,0,none⟩=some (.int .i64 ((rd_T80 l0 x8_1).f0)):=(Zb BK259.out 0).trans rfl
           have hcz18_1:wc.cell? ⟨gb259,1,none⟩=some (.int .i64 ((rd_T80 l0 x8_1).f1)):=(Zb BK259.out 1).trans rfl
           have hcz18_2:wc.cell? ⟨gb259,2,none⟩=some (.int .i64 ((rd_T80 l0 x8_1).f2)):=(Zb BK259.out 2).trans rfl
           have hcz18_3:wc.cell? ⟨gb259,3,none⟩=some (.int .i64 ((rd_T80 l0 x8_1).f3.f0)):=(Zb BK259.out 3).trans rfl
           have hcz18_4:wc.cell? ⟨gb259,4,none⟩=some (.int .i64 ((rd_T80 l0 x8_1).f3.f1)):=(Zb BK259.out 4).trans rfl
           have hcz18_5:wc.cell? ⟨gb259,5,none⟩=some (.int .i64 ((rd_T80 l0 x8_1).f3.f2)):=(Zb BK259.out 5).trans rfl
           have hfz18_0:=Zc BK259.out 0
           have hfz18_1:=Zc BK259.out 1
           have hfz18_2:=Zc BK259.out 2
           have hfz18_3:=Zc BK259.out 3
           have hfz18_4:=Zc BK259.out 4
           have hfz18_5:=Zc BK259.out 5
           go_wp2
           go_ret
           exact⟨by first|rfl|(simp[errW_none,errW_some]<;>rfl)|(simp[*,errW_none,errW_some]<;>rfl)|(simp[*,errW_none,errW_some,i64_w];done),by repeat(first|(with_reducible first|exact HB.out|apply Zh|apply Zf|apply Ze|refine Zd ?_ GE259.out)|exact HB.out)⟩
          ·rw[if_neg c17] at H
           have c17b0:decide ((wrap64 (x3_7 - 1))<0)=false:=Yi c17
           clear c17
           by_cases c19:(wrap64 (x3_7 - 1)) > 3
           ·rw[if_pos c19] at H
            have c19b0:decide (3<(wrap64 (x3_7 - 1)))=true:=Zx c19
            clear c19
            obtain rfl:=Zk H
            have hcz20_0:wc.cell? ⟨gb259,0,none⟩=some (.int .i64 ((rd_T80 l0 x8_1).f0)):=(Zb BK259.out 0).trans rfl
            have hcz20_1:wc.cell? ⟨gb259,1,none⟩=some (.int .i64 ((rd_T80 l0 x8_1).f1)):=(Zb BK259.out 1).trans rfl
            have hcz20_2:wc.cell? ⟨gb259,2,none⟩=some (.int .i64 ((rd_T80 l0 x8_1).f2)):=(Zb BK259.out 2).trans rfl
            have hcz20_3:wc.cell? ⟨gb259,3,none⟩=some (.int .i64 ((rd_T80 l0 x8_1).f3.f0)):=(Zb BK259.out 3).trans rfl
            have hcz20_4:wc.cell? ⟨gb259,4,none⟩=some (.int .i64 ((rd_T80 l0 x8_1).f3.f1)):=(Zb BK259.out 4).trans rfl
            have hcz20_5:wc.cell? ⟨gb259,5,none⟩=some (.int .i64 ((rd_T80 l0 x8_1).f3.f2)):=(Zb BK259.out 5).trans rfl
            have hfz20_0:=Zc BK259.out 0
            have hfz20_1:=Zc BK259.out 1
            have hfz20_2:=Zc BK259.out 2
            have hfz20_3:=Zc BK259.out 3
            have hfz20_4:=Zc BK259.out 4
            have hfz20_5:=Zc BK259.out 5
            go_wp2
            go_ret
            exact⟨by first|rfl|(simp[errW_none,errW_some]<;>rfl)|(simp[*,errW_none,errW_some]<;>rfl)|(simp[*,errW_none,errW_some,i64_w];done),by repeat(first|(with_reducible first|exact HB.out|apply Zh|apply Zf|apply Ze|refine Zd ?_ GE259.out)|exact HB.out)⟩
           ·rw[if_neg c19] at H
            have c19b0:decide (3<(wrap64 (x3_7 - 1)))=false:=Yi c19
            clear c19
            have H':=Za H
            clear H
            have hcz21_0:wc.cell? ⟨gb259,0,none⟩=some (.int .i64 ((rd_T80 l0 x8_1).f0)):=(Zb BK259.out 0).trans rfl
            have hcz21_1:wc.cell? ⟨gb259,1,none⟩=some (.int .i64 ((rd_T80 l0 x8_1).f1)):=(Zb BK259.out 1).trans rfl
            have hcz21_2:wc.cell? ⟨gb259,2,none⟩=some (.int .i64 ((rd_T80 l0 x8_1).f2)):=(Zb BK259.out 2).trans rfl
            have hcz21_3:wc.cell? ⟨gb259,3,none⟩=some (.int .i64 ((rd_T80 l0 x8_1).f3.f0)):=(Zb BK259.out 3).trans rfl
            have hcz21_4:wc.cell? ⟨gb259,4,none⟩=some (.int .i64 ((rd_T80 l0 x8_1).f3.f1)):=(Zb BK259.out 4).trans rfl
            have hcz21_5:wc.cell? ⟨gb259,5,none⟩=some (.int .i64 ((rd_T80 l0 x8_1).f3.f2)):=(Zb BK259.out 5).trans rfl
            have hfz21_0:=Zc BK259.out 0
            have hfz21_1:=Zc BK259.out 1
            have hfz21_2:=Zc BK259.out 2
            have hfz21_3:=Zc BK259.out 3
            have hfz21_4:=Zc BK259.out 4
            have hfz21_5:=Zc BK259.out 5
            go_wp2
            go_roundg kj7
            case measure=>have:=HK1.out;have:=HJ7.out;omega
            case rel=>exact⟨(wrap64 (x3_7 - 1)),(wrap64 (x8_1+1)),z8_3,z8_3,H',⟨by have:=HK1.out;have:=HJ7.out;omega⟩,⟨by repeat(first|(with_reducible first|exact HB.out|apply Zh|apply Zf|apply Ze|refine Zd ?_ GE259.out)|exact HB.out)⟩⟩
         ·rw[if_neg c16] at H
          have c16b0:(((rd_T80 l0 x8_1).f0)==6)=false:=beq_eq_false_iff_ne.mpr c16
          have c16b1:(((rd_T80 l0 x8_1).f0) != 6)=true:=bne_iff_ne.mpr c16
          by_cases c22:x3_7<0
          ·rw[if_pos c22] at H
           have c22b0:decide (x3_7<0)=true:=Zx c22
           clear c22
           obtain rfl:=Zk H
           have hcz23_0:wc.cell? ⟨gb259,0,none⟩=some (.int .i64 ((rd_T80 l0 x8_1).f0)):=(Zb BK259.out 0).trans rfl
           have hcz23_1:wc.cell? ⟨gb259,1,none⟩=some (.int .i64 ((rd_T80 l0 x8_1).f1)):=(Zb BK259.out 1).trans rfl
           have hcz23_2:wc.cell? ⟨gb259,2,none⟩=some (.int .i64 ((rd_T80 l0 x8_1).f2)):=(Zb BK259.out 2).trans rfl
           have hcz23_3:wc.cell? ⟨gb259,3,none⟩=some (.int .i64 ((rd_T80 l0 x8_1).f3.f0)):=(Zb BK259.out 3).trans rfl
           have hcz23_4:wc.cell? ⟨gb259,4,none⟩=some (.int .i64 ((rd_T80 l0 x8_1).f3.f1)):=(Zb BK259.out 4).trans rfl
           have hcz23_5:wc.cell? ⟨gb259,5,none⟩=some (.int .i64 ((rd_T80 l0 x8_1).f3.f2)):=(Zb BK259.out 5).trans rfl
           have hfz23_0:=Zc BK259.out 0
           have hfz23_1:=Zc BK259.out 1
           have hfz23_2:=Zc BK259.out 2
           have hfz23_3:=Zc BK259.out 3
           have hfz23_4:=Zc BK259.out 4
           have hfz23_5:=Zc BK259.out 5
           go_wp2
           go_ret
           exact⟨by first|rfl|(simp[errW_none,errW_some]<;>rfl)|(simp[*,errW_none,errW_some]<;>rfl)|(simp[*,errW_none,errW_some,i64_w];done),by repeat(first|(with_reducible first|exact HB.out|apply Zh|apply Zf|apply Ze|refine Zd ?_ GE259.out)|exact HB.out)⟩
          ·rw[if_neg c22] at H
           have c22b0:decide (x3_7<0)=false:=Yi c22
           clear c22
           by_cases c24:x3_7 > 3
           ·rw[if_pos c24] at H
            have c24b0:decide (3<x3_7)=true:=Zx c24
            clear c24
            obtain rfl:=Zk H
            have hcz25_0:wc.cell? ⟨gb259,0,none⟩=some (.int .i64 ((rd_T80 l0 x8_1).f0)):=(Zb BK259.out 0).trans rfl
            have hcz25_1:wc.cell? ⟨gb259,1,none⟩=some (.int .i64 ((rd_T80 l0 x8_1).f1)):=(Zb BK259.out 1).trans rfl
            have hcz25_2:wc.cell? ⟨gb259,2,none⟩=some (.int .i64 ((rd_T80 l0 x8_1).f2)):=(Zb BK259.out 2).trans rfl
            have hcz25_3:wc.cell? ⟨gb259,3,none⟩=some (.int .i64 ((rd_T80 l0 x8_1).f3.f0)):=(Zb BK259.out 3).trans rfl
            have hcz25_4:wc.cell? ⟨gb259,4,none⟩=some (.int .i64 ((rd_T80 l0 x8_1).f3.f1)):=(Zb BK259.out 4).trans rfl
            have hcz25_5:wc.cell? ⟨gb259,5,none⟩=some (.int .i64 ((rd_T80 l0 x8_1).f3.f2)):=(Zb BK259.out 5).trans rfl
            have hfz25_0:=Zc BK259.out 0
            have hfz25_1:=Zc BK259.out 1
            have hfz25_2:=Zc BK259.out 2
            have hfz25_3:=Zc BK259.out 3
            have hfz25_4:=Zc BK259.out 4
            have hfz25_5:=Zc BK259.out 5
            go_wp2
            go_ret
            exact⟨by first|rfl|(simp[errW_none,errW_some]<;>rfl)|(simp[*,errW_none,errW_some]<;>rfl)|(simp[*,errW_none,errW_some,i64_w];done),by repeat(first|(with_reducible first|exact HB.out|apply Zh|apply Zf|apply Ze|refine Zd ?_ GE259.out)|exact HB.out)⟩
           ·rw[if_neg c24] at H
            have c24b0:decide (3<x3_7)=false:=Yi c24
            clear c24
            have H':=Za H
            clear H
            have hcz26_0:wc.cell? ⟨gb259,0,none⟩=some (.int .i64 ((rd_T80 l0 x8_1).f0)):=(Zb BK259.out 0).trans rfl
            have hcz26_1:wc.cell? ⟨gb259,1,none⟩=some (.int .i64 ((rd_T80 l0 x8_1).f1)):=(Zb BK259.out 1).trans rfl
            have hcz26_2:wc.cell? ⟨gb259,2,none⟩=some (.int .i64 ((rd_T80 l0 x8_1).f2)):=(Zb BK259.out 2).trans rfl
            have hcz26_3:wc.cell? ⟨gb259,3,none⟩=some (.int .i64 ((rd_T80 l0 x8_1).f3.f0)):=(Zb BK259.out 3).trans rfl
            have hcz26_4:wc.cell? ⟨gb259,4,none⟩=some (.int .i64 ((rd_T80 l0 x8_1).f3.f1)):=(Zb BK259.out 4).trans rfl
            have hcz26_5:wc.cell? ⟨gb259,5,none⟩=some (.int .i64 ((rd_T80 l0 x8_1).f3.f2)):=(Zb BK259.out 5).trans rfl
            have hfz26_0:=Zc BK259.out 0
            have hfz26_1:=Zc BK259.out 1
            have hfz26_2:=Zc BK259.out 2
            have hfz26_3:=Zc BK259.out 3
            have hfz26_4:=Zc BK259.out 4
            have hfz26_5:=Zc BK259.out 5
            go_wp2
            go_roundg kj7
            case measure=>have:=HK1.out;have:=HJ7.out;omega
            case rel=>exact⟨(x3_7),(wrap64 (x8_1+1)),z8_3,z8_3,H',⟨by have:=HK1.out;have:=HJ7.out;omega⟩,⟨by repeat(first|(with_reducible first|exact HB.out|apply Zh|apply Zf|apply Ze|refine Zd ?_ GE259.out)|exact HB.out)⟩⟩
      ·replace c6:=Bool.eq_false_iff.mpr c6
       subst c6
       rw[if_neg (show ¬(false=true) by decide)] at H
       obtain rfl:=Zk H
       have p258:0≤(x8_1:Int):=Zv z8_4
       have q258:x8_1<(l0.length:Int):=Zv z8_4
       obtain⟨ad258,e258,hx258_0,hx258_1,hx258_2,hx258_3,hx258_4,hx258_5⟩:=at_T80 HR0.out x8_1 p258 q258
       cases e258
       replace hx258_0:=(HB.out.cell (Zi w _ hx258_0)).trans hx258_0
       replace hx258_1:=(HB.out.cell (Zi w _ hx258_1)).trans hx258_1
       replace hx258_2:=(HB.out.cell (Zi w _ hx258_2)).trans hx258_2
       replace hx258_3:=(HB.out.cell (Zi w _ hx258_3)).trans hx258_3
       replace hx258_4:=(HB.out.cell (Zi w _ hx258_4)).trans hx258_4
       replace hx258_5:=(HB.out.cell (Zi w _ hx258_5)).trans hx258_5
       replace p258:=eq_true p258
       replace q258:=eq_true q258
       go_wp2_with (first|((with_reducible refine Zp (N:=5) rfl ?_);(try(refine gate_guard (by rfl) ?_;dsimp only));refine Zt ?hg (N:=5) ?hd (cs:= #[.int .i64 0,.int .i64 0,.int .i64 0,.int .i64 0,.int .i64 0,.int .i64 0]) (t:=80) ?hr ?_;(case hd=>rfl);(case hg=>rfl);(case hr=>exact z8_5);intro gb259 hg w27 hbox hb;have BK259:=Za (hbox);have GW259:=Za ((z8_10:w.heap.size≤gb259));have GE259:=Za ((z8_10:w.heap.size≤gb259));replace HB:=Za (Zj z8_0 hb);clear hb hbox hg;have hcz28_0:w27.cell? ⟨gb259,0,none⟩=some (.int .i64 0):=(Zb BK259.out 0).trans rfl;have hcz28_1:w27.cell? ⟨gb259,1,none⟩=some (.int .i64 0):=(Zb BK259.out 1).trans rfl;have hcz28_2:w27.cell? ⟨gb259,2,none⟩=some (.int .i64 0):=(Zb BK259.out 2).trans rfl;have hcz28_3:w27.cell? ⟨gb259,3,none⟩=some (.int .i64 0):=(Zb BK259.out 3).trans rfl;have hcz28_4:w27.cell? ⟨gb259,4,none⟩=some (.int .i64 0):=(Zb BK259.out 4).trans rfl;have hcz28_5:w27.cell? ⟨gb259,5,none⟩=some (.int .i64 0):=(Zb BK259.out 5).trans rfl;have hfz28_0:=Zc BK259.out 0;have hfz28_1:=Zc BK259.out 1;have hfz28_2:=Zc BK259.out 2;have hfz28_3:=Zc BK259.out 3;have hfz28_4:=Zc BK259.out 4;have hfz28_5:=Zc BK259.out 5)|((with_reducible refine Yk (t:=80) (p:=5) rfl ?_);refine Yj (t:=80) (p:=5) (v:= ?vo_w29) (w1:=((((((w27.setCell ⟨gb259,0,none⟩ (.int .i64 ((rd_T80 l0 x8_1).f0))).setCell ⟨gb259,1,none⟩ (.int .i64 ((rd_T80 l0 x8_1).f1))).setCell ⟨gb259,2,none⟩ (.int .i64 ((rd_T80 l0 x8_1).f2))).setCell ⟨gb259,3,none⟩ (.int .i64 ((rd_T80 l0 x8_1).f3.f0))).setCell ⟨gb259,4,none⟩ (.int .i64 ((rd_T80 l0 x8_1).f3.f1))).setCell ⟨gb259,5,none⟩ (.int .i64 ((rd_T80 l0 x8_1).f3.f2)))) ?hg ?ho ?hn ?hr ?_;(case ho=>rfl);(case hg=>rfl);(case hn=>rfl);(case hr=>exact z8_5);intro w29 hw;have n0_:Aside0 (w29.heap[gb259]? =some (.cells #[.int .i64 ((rd_T80 l0 x8_1).f0),.int .i64 ((rd_T80 l0 x8_1).f1),.int .i64 ((rd_T80 l0 x8_1).f2),.int .i64 ((rd_T80 l0 x8_1).f3.f0),.int .i64 ((rd_T80 l0 x8_1).f3.f1),.int .i64 ((rd_T80 l0 x8_1).f3.f2)] 80 (0,0))):=⟨z8_1⟩;have n1_:Aside0 (Below w.heap.size w w29):=⟨(by rw[hw];exact z8_7)⟩;clear hw;clear BK259;clear HB;have BK259:=n0_;have HB:=n1_;clear n0_ n1_;have hcz30_0:w29.cell? ⟨gb259,0,none⟩=some (.int .i64 ((rd_T80 l0 x8_1).f0)):=(Zb BK259.out 0).trans rfl;have hcz30_1:w29.cell? ⟨gb259,1,none⟩=some (.int .i64 ((rd_T80 l0 x8_1).f1)):=(Zb BK259.out 1).trans rfl;have hcz30_2:w29.cell? ⟨gb259,2,none⟩=some (.int .i64 ((rd_T80 l0 x8_1).f2)):=(Zb BK259.out 2).trans rfl;have hcz30_3:w29.cell? ⟨gb259,3,none⟩=some (.int .i64 ((rd_T80 l0 x8_1).f3.f0)):=(Zb BK259.out 3).trans rfl;have hcz30_4:w29.cell? ⟨gb259,4,none⟩=some (.int .i64 ((rd_T80 l0 x8_1).f3.f1)):=(Zb BK259.out 4).trans rfl;have hcz30_5:w29.cell? ⟨gb259,5,none⟩=some (.int .i64 ((rd_T80 l0 x8_1).f3.f2)):=(Zb BK259.out 5).trans rfl;have hfz30_0:=Zc BK259.out 0;have hfz30_1:=Zc BK259.out 1;have hfz30_2:=Zc BK259.out 2;have hfz30_3:=Zc BK259.out 3;have hfz30_4:=Zc BK259.out 4;have hfz30_5:=Zc BK259.out 5)|((first|((with_reducible refine gate_callee (f:=96) rfl ?_);refine goesL_ (some 13) rfl rfl Try.func96 (by kernel_rfl) rfl #[.agg #[.int .i64 ((rd_T80 l0 x8_1).f0),.int .i64 ((rd_T80 l0 x8_1).f1),.int .i64 ((rd_T80 l0 x8_1).f2),.int .i64 ((rd_T80 l0 x8_1).f3.f0),.int .i64 ((rd_T80 l0 x8_1).f3.f1),.int .i64 ((rd_T80 l0 x8_1).f3.f2)]] rfl z8_2 ?_;(with_reducible refine(impl_StmtOk.calls k1 ((rd_T80 l0 x8_1).f0) ((rd_T80 l0 x8_1).f1) ((rd_T80 l0 x8_1).f2) ((rd_T80 l0 x8_1).f3.f0) ((rd_T80 l0 x8_1).f3.f1) ((rd_T80 l0 x8_1).f3.f2) false _ A5.out).mono ?_))|(go_at_call 96;(with_reducible refine(impl_StmtOk.calls k1 ((rd_T80 l0 x8_1).f0) ((rd_T80 l0 x8_1).f1) ((rd_T80 l0 x8_1).f2) ((rd_T80 l0 x8_1).f3.f0) ((rd_T80 l0 x8_1).f3.f1) ((rd_T80 l0 x8_1).f3.f2) false _ A5.out).mono ?_)));rintro e w31 ⟨rfl,hb⟩;(first|refine⟨_,rfl,?_⟩|skip);replace BK259:=Za (Zg (g:=gb259) (o:= .cells #[.int .i64 ((rd_T80 l0 x8_1).f0),.int .i64 ((rd_T80 l0 x8_1).f1),.int .i64 ((rd_T80 l0 x8_1).f2),.int .i64 ((rd_T80 l0 x8_1).f3.f0),.int .i64 ((rd_T80 l0 x8_1).f3.f1),.int .i64 ((rd_T80 l0 x8_1).f3.f2)] 80 (0,0)) (by(with_reducible repeat(first|refine blk_drewN ?_ _|refine blk_drew ?_|refine blk_alloc ?_ _));exact BK259.out) hb);replace HB:=Za (Zj z8_7 hb);(try clear hb);(try clear hb2);(try clear hk);(try clear hi)))
       go_ret
       exact⟨by first|rfl|(simp[errW_none,errW_some]<;>rfl)|(simp[*,errW_none,errW_some]<;>rfl)|(simp[*,errW_none,errW_some,i64_w];done),by repeat(first|(with_reducible first|exact HB.out|apply Zh|apply Zf|apply Ze|refine Zd ?_ GE259.out)|exact HB.out)⟩
     ·rw[if_neg c4] at H
      exact absurd H (by simp)
    ·rw[if_neg c3] at H
     exact absurd H (by simp)
   ·rw[if_neg c2] at H
    have c2b0:decide (x8_1<(l0.length:Int))=false:=Yi c2
    clear c2
    by_cases c32:x3_1=0
    ·rw[if_pos c32] at H
     have c32b0:(x3_1==0)=true:=beq_iff_eq.mpr c32
     have c32b1:(x3_1 != 0)=false:=bne_eq_false_iff_eq.mpr c32
     clear c32
     obtain rfl:=Zk H
     go_wp2
     go_ret
     exact⟨by first|rfl|(simp[errW_none,errW_some]<;>rfl)|(simp[*,errW_none,errW_some]<;>rfl)|(simp[*,errW_none,errW_some,i64_w];done),by repeat(first|(with_reducible first|exact HB.out|apply Zh|apply Zf|apply Ze)|exact HB.out)⟩
    ·rw[if_neg c32] at H
     have c32b0:(x3_1==0)=false:=beq_eq_false_iff_ne.mpr c32
     have c32b1:(x3_1 != 0)=true:=bne_iff_ne.mpr c32
     obtain rfl:=Zk H
     go_wp2
     go_ret
     exact⟨by first|rfl|(simp[errW_none,errW_some]<;>rfl)|(simp[*,errW_none,errW_some]<;>rfl)|(simp[*,errW_none,errW_some,i64_w];done),by repeat(first|(with_reducible first|exact HB.out|apply Zh|apply Zf|apply Ze)|exact HB.out)⟩
def impl_taskOk.f (k:Nat) (l0_0:List (S80)) (a0_1:Int) (a0_2:Int) (a0_3:Int):Option (Bool):=(impl_BlockOk.f k l0_0).bind fun t263=>(if t263=true then ((impl_ExprOk.f a0_1 a0_2 a0_3).bind fun t264=>(some t264)) else (some false))
set_option maxHeartbeats 8000000 in
set_option maxRecDepth 100000 in
theorem impl_taskOk.calls (k:Nat) (A0_0:Option Addr) (c0_0:Nat) (l0_0:List (S80)) (a0_1:Int) (a0_2:Int) (a0_3:Int) (r:Bool) (w:World) (hr0_0:Kd.C k80 w A0_0 l0_0.length l0_0) (hc0_0:l0_0.length≤c0_0) (h:impl_taskOk.f k l0_0 a0_1 a0_2 a0_3=some r):
  Calls Try.prog 70 #[.agg #[.slice A0_0 l0_0.length c0_0,.int .i64 a0_1,.int .i64 a0_2,.int .i64 a0_3]] w fun e w'=>e= .returned (.bool r)∧Below w.heap.size w w':=by
 have hu64:=Try.underlying64
 have hu62:=Try.underlying62
 have HR0_0:=Za hr0_0
 have HC0_0:=Za hc0_0
 clear hr0_0 hc0_0
 have HB:=Za (Yh w.heap.size w)
 have H:((impl_BlockOk.f k l0_0).bind fun t263=>(if t263=true then ((impl_ExprOk.f a0_1 a0_2 a0_3).bind fun t264=>(some t264)) else (some false)))=some r:=h
 clear h
 replace H:=Zl H
 obtain⟨t263,A20,H⟩:=H
 replace H:(if t263=true then ((impl_ExprOk.f a0_1 a0_2 a0_3).bind fun t264=>(some t264)) else (some false))=some r:=H
 have A2:=Za A20
 clear A20
 by_cases c3:t263=true
 ·subst c3
  rw[if_pos rfl] at H
  replace H:=Zl H
  obtain⟨t264,A40,H⟩:=H
  replace H:(some t264)=some r:=H
  have A4:=Za A40
  clear A40
  obtain rfl:=Zk H
  go_enter Try.func70,Try.ntmps70
  go_wp2_with (first|((with_reducible refine Zp (N:=1) rfl ?_);refine Zt ?hg (N:=1) ?hd (cs:= #[.slice A0_0 l0_0.length c0_0,.int .i64 a0_1,.int .i64 a0_2,.int .i64 a0_3]) (t:=64) ?hr ?_;(case hd=>rfl);(case hg=>rfl);(case hr=>exact z8_5);intro gb262 hg w5 hbox hb;have BK262:=Za (hbox);have GW262:=Za ((z8_10:w.heap.size≤gb262));have GE262:=Za ((z8_10:w.heap.size≤gb262));replace HB:=Za (Zj z8_0 hb);clear hb hbox hg;have hcz6_0:w5.cell? ⟨gb262,0,none⟩=some (.slice A0_0 l0_0.length c0_0):=(Zb BK262.out 0).trans rfl;have hcz6_1:w5.cell? ⟨gb262,1,none⟩=some (.int .i64 a0_1):=(Zb BK262.out 1).trans rfl;have hcz6_2:w5.cell? ⟨gb262,2,none⟩=some (.int .i64 a0_2):=(Zb BK262.out 2).trans rfl;have hcz6_3:w5.cell? ⟨gb262,3,none⟩=some (.int .i64 a0_3):=(Zb BK262.out 3).trans rfl;have hfz6_0:=Zc BK262.out 0;have hfz6_1:=Zc BK262.out 1;have hfz6_2:=Zc BK262.out 2;have hfz6_3:=Zc BK262.out 3)|((first|((with_reducible refine gate_callee (f:=91) rfl ?_);refine goesL_ (some 5) rfl rfl Try.func91 (by kernel_rfl) rfl #[.slice A0_0 l0_0.length c0_0] rfl z8_2 ?_;(with_reducible refine(impl_BlockOk.calls k _ _ l0_0 true _ ?side1 ?side2 A2.out).mono ?_))|(go_at_call 91;(with_reducible refine(impl_BlockOk.calls k _ _ l0_0 true _ ?side1 ?side2 A2.out).mono ?_)));(case side1=>exact z8_6);(case side2=>exact HC0_0.out);rintro e w7 ⟨rfl,hb⟩;(first|refine⟨_,rfl,?_⟩|skip);replace BK262:=Za (Zg (g:=gb262) (o:= .cells #[.slice A0_0 l0_0.length c0_0,.int .i64 a0_1,.int .i64 a0_2,.int .i64 a0_3] 64 (0,0)) z8_9 hb);replace HB:=Za (Zj z8_8 hb);(try clear hb);(try clear hb2);(try clear hk);(try clear hi);have hcz8_0:w7.cell? ⟨gb262,0,none⟩=some (.slice A0_0 l0_0.length c0_0):=(Zb BK262.out 0).trans rfl;have hcz8_1:w7.cell? ⟨gb262,1,none⟩=some (.int .i64 a0_1):=(Zb BK262.out 1).trans rfl;have hcz8_2:w7.cell? ⟨gb262,2,none⟩=some (.int .i64 a0_2):=(Zb BK262.out 2).trans rfl;have hcz8_3:w7.cell? ⟨gb262,3,none⟩=some (.int .i64 a0_3):=(Zb BK262.out 3).trans rfl;have hfz8_0:=Zc BK262.out 0;have hfz8_1:=Zc BK262.out 1;have hfz8_2:=Zc BK262.out 2;have hfz8_3:=Zc BK262.out 3)|(go_at_call 75;(with_reducible refine(impl_ExprOk.calls a0_1 a0_2 a0_3 t264 _ A4.out).mono ?_);rintro e w9 ⟨rfl,hb⟩;replace BK262:=Za (Zg (g:=gb262) (o:= .cells #[.slice A0_0 l0_0.length c0_0,.int .i64 a0_1,.int .i64 a0_2,.int .i64 a0_3] 64 (0,0)) z8_9 hb);replace HB:=Za (Zj z8_8 hb);(try clear hb);(try clear hb2);(try clear hk);(try clear hi)))
  go_ret
  exact⟨by first|rfl|(simp[errW_none,errW_some]<;>rfl)|(simp[*,errW_none,errW_some]<;>rfl)|(simp[*,errW_none,errW_some,i64_w];done),by repeat(first|(with_reducible first|exact HB.out|apply Zh|apply Zf|apply Ze|refine Zd ?_ GE262.out)|exact HB.out)⟩
 ·replace c3:=Bool.eq_false_iff.mpr c3
  subst c3
  rw[if_neg (show ¬(false=true) by decide)] at H
  obtain rfl:=Zk H
  go_enter Try.func70,Try.ntmps70
  go_wp2_with (first|((with_reducible refine Zp (N:=1) rfl ?_);refine Zt ?hg (N:=1) ?hd (cs:= #[.slice A0_0 l0_0.length c0_0,.int .i64 a0_1,.int .i64 a0_2,.int .i64 a0_3]) (t:=64) ?hr ?_;(case hd=>rfl);(case hg=>rfl);(case hr=>exact z8_5);intro gb262 hg w10 hbox hb;have BK262:=Za (hbox);have GW262:=Za ((z8_10:w.heap.size≤gb262));have GE262:=Za ((z8_10:w.heap.size≤gb262));replace HB:=Za (Zj z8_0 hb);clear hb hbox hg;have hcz11_0:w10.cell? ⟨gb262,0,none⟩=some (.slice A0_0 l0_0.length c0_0):=(Zb BK262.out 0).trans rfl;have hcz11_1:w10.cell? ⟨gb262,1,none⟩=some (.int .i64 a0_1):=(Zb BK262.out 1).trans rfl;have hcz11_2:w10.cell? ⟨gb262,2,none⟩=some (.int .i64 a0_2):=(Zb BK262.out 2).trans rfl;have hcz11_3:w10.cell? ⟨gb262,3,none⟩=some (.int .i64 a0_3):=(Zb BK262.out 3).trans rfl;have hfz11_0:=Zc BK262.out 0;have hfz11_1:=Zc BK262.out 1;have hfz11_2:=Zc BK262.out 2;have hfz11_3:=Zc BK262.out 3)|((first|((with_reducible refine gate_callee (f:=91) rfl ?_);refine goesL_ (some 5) rfl rfl Try.func91 (by kernel_rfl) rfl #[.slice A0_0 l0_0.length c0_0] rfl z8_2 ?_;(with_reducible refine(impl_BlockOk.calls k _ _ l0_0 false _ ?side1 ?side2 A2.out).mono ?_))|(go_at_call 91;(with_reducible refine(impl_BlockOk.calls k _ _ l0_0 false _ ?side1 ?side2 A2.out).mono ?_)));(case side1=>exact z8_6);(case side2=>exact HC0_0.out);rintro e w12 ⟨rfl,hb⟩;(first|refine⟨_,rfl,?_⟩|skip);replace BK262:=Za (Zg (g:=gb262) (o:= .cells #[.slice A0_0 l0_0.length c0_0,.int .i64 a0_1,.int .i64 a0_2,.int .i64 a0_3] 64 (0,0)) z8_9 hb);replace HB:=Za (Zj z8_8 hb);(try clear hb);(try clear hb2);(try clear hk);(try clear hi)))
  go_ret
  exact⟨by first|rfl|(simp[errW_none,errW_some]<;>rfl)|(simp[*,errW_none,errW_some]<;>rfl)|(simp[*,errW_none,errW_some,i64_w];done),by repeat(first|(with_reducible first|exact HB.out|apply Zh|apply Zf|apply Ze|refine Zd ?_ GE262.out)|exact HB.out)⟩
-- NOT PRINTED: function 69 (impl_ProgramOk_1)
def anyNot (k:Nat):List S64→Option Bool
 |[]=>some false
 |t::r=>(impl_taskOk.f k t.f0 t.f1.f0 t.f1.f1 t.f1.f2).bind fun b=>if b=true then anyNot k r else some true
theorem drop_task {l:List S64} {i:Int} (h0:0≤i) (h:i<(l.length:Int)):l.drop i.toNat=rd_T64 l i::l.drop (i+1).toNat:=by
 have h1:i.toNat<l.length:=by omega
 have h2:(i+1).toNat=i.toNat+1:=by omega
 unfold rd_T64
 rw[h2,List.drop_eq_getElem_cons h1,List.getD_eq_getElem?_getD,List.getElem?_eq_getElem h1]
 rfl
set_option maxHeartbeats 8000000 in
set_option maxRecDepth 100000 in
theorem taskNot_clo (k:Nat) (A:Option Addr) (c:Nat) (l:List S80) (a1 a2 a3:Int) (b:Bool) (w:World) (hr:Kd.C k80 w A l.length l) (hc:l.length≤c) (h:impl_taskOk.f k l a1 a2 a3=some b):
  Calls Try.prog 69 #[.agg #[.slice A l.length c,.int .i64 a1,.int .i64 a2,.int .i64 a3]] w fun e w'=>e= .returned (.bool (!b))∧Below w.heap.size w w':=by
 have HR:=Za hr
 have HC:=Za hc
 have Hb:=Za h
 have HB:=Za (Yh w.heap.size w)
 clear hr hc h
 go_enter Try.func69,Try.ntmps69
 go_wp2_with (go_at_call 70;(with_reducible refine(impl_taskOk.calls k _ _ l a1 a2 a3 b _ ?side1 ?side2 Hb.out).mono ?_);(case side1=>repeat(first|exact(Yg HR.out HB.out)|(with_reducible refine Yc ?_ _)|(with_reducible refine Yd ?_ _)|(with_reducible refine Ye ?_)));(case side2=>exact HC.out);rintro e w10 ⟨rfl,hb⟩;have n1_:=Za (Zj z8_0 hb);clear HB;have HB:=n1_;clear n1_;clear hb)
 go_ret
 exact⟨rfl,by repeat(first|(with_reducible first|exact HB.out|apply Zh|apply Zf|apply Ze)|exact HB.out)⟩
set_option maxHeartbeats 8000000 in
set_option maxRecDepth 100000 in
theorem taskNot_index (k:Nat) (A:Option Addr) (c:Nat) (l:List S64) (r:Bool) (w:World) (hr:Kd.C k64 w A l.length l) (h:anyNot k l=some r):
  Calls Try.prog 90 #[.slice A l.length c,.func (.func 69) #[] #[]] w fun e w'=>∃i:Int,e= .returned (.int .i64 i)∧decide (i≥0)=r∧Below w.heap.size w w':=by
 have HR:=Za hr
 have HH:=Za h
 have hlen:l.length≤9223372036854775807:=hr.2.1
 clear hr h
 go_enter Try.func90,Try.ntmps90
 go_wp2
 go_loopw [8] (fun v8 w'=>∃x:Int,v8= .int .i64 x∧Aside0 (0≤x)∧Aside0 (x≤(l.length:Int))∧Aside0 (anyNot k (l.drop x.toNat)=some r)∧Aside0 (Below w.heap.size w w')) (fun v8 _=>l.length - (intOf v8).toNat)
 case atStart=>exact⟨0,rfl,⟨by omega⟩,⟨by omega⟩,HH,⟨by repeat(first|exact Yh _ _|apply Zh|apply Zf|apply Ze)⟩⟩
 case round=>
  obtain⟨x,rfl,Hx0,Hx1,Hp,HB⟩:=hrel
  by_cases hlt:x<(l.length:Int)
  ·have c1:decide (x<(l.length:Int))=true:=Zx hlt
   have h0:=Hx0.out
   obtain⟨ad,A1,c2,e,hx0,hx1,hx2,hx3,hl1,hi1⟩:=at_T64 HR.out x h0 hlt
   cases e
   replace hx0:=(HB.out.cell (Zi w _ hx0)).trans hx0
   replace hx1:=(HB.out.cell (Zi w _ hx1)).trans hx1
   replace hx2:=(HB.out.cell (Zi w _ hx2)).trans hx2
   replace hx3:=(HB.out.cell (Zi w _ hx3)).trans hx3
   have Hl1:=Za hl1
   have Hi1:=Za hi1
   have hp:=Hp.out
   rw[drop_task h0 hlt,anyNot] at hp
   obtain⟨b,hb,hp2⟩:=Zl hp
   have Hb:=Za hb
   have Hp2:=Za hp2
   have Hlt:=Za hlt
   clear hb hlt hp hp2 hl1 hi1 Hp
   have p1:=eq_true h0
   have q1:=eq_true Hlt.out
   have hsum:wrap64 (x+1)=x+1:=by have:=Hlt.out;unfold wrap64;omega
   have Hs:=Za hsum
   clear hsum h0
   cases b with
   |true=>
    go_wp2_with (go_at_call 69;(with_reducible refine(taskNot_clo k _ _ _ _ _ _ true _ ?side1 ?side2 Hb.out).mono ?_);(case side1=>repeat(first|exact(Yg Hi1.out HB.out)|(with_reducible refine Yc ?_ _)|(with_reducible refine Yd ?_ _)|(with_reducible refine Ye ?_)));(case side2=>exact Hl1.out);rintro e w10 ⟨rfl,hb⟩;have n1_:=Za (Zj z8_0 hb);clear HB;have HB:=n1_;clear n1_;clear hb)
    go_roundw
    case rel=>exact⟨x+1,by rw[Hs.out],⟨by have:=Hx0.out;omega⟩,⟨by have:=Hlt.out;omega⟩,⟨by simpa using Hp2.out⟩,⟨by repeat(first|(with_reducible first|exact HB.out|apply Zh|apply Zf|apply Ze)|exact HB.out)⟩⟩
    case measure=>
     have:=Hlt.out
     have:=Hx0.out
     rw[Hs.out]
     simp[intOf]
     omega
   |false=>
    go_wp2_with (go_at_call 69;(with_reducible refine(taskNot_clo k _ _ _ _ _ _ false _ ?side1 ?side2 Hb.out).mono ?_);(case side1=>repeat(first|exact(Yg Hi1.out HB.out)|(with_reducible refine Yc ?_ _)|(with_reducible refine Yd ?_ _)|(with_reducible refine Ye ?_)));(case side2=>exact Hl1.out);rintro e w10 ⟨rfl,hb⟩;have n1_:=Za (Zj z8_0 hb);clear HB;have HB:=n1_;clear n1_;clear hb)
    go_ret
    exact⟨x,rfl,by
     have:=Hp2.out
     rw[if_neg (by simp)] at this
     have e:=Zk this
     rw[←e]
     simpa using Hx0.out,by repeat(first|(with_reducible first|exact HB.out|apply Zh|apply Zf|apply Ze)|exact HB.out)⟩
  ·have c1:decide (x<(l.length:Int))=false:=Yi hlt
   have hx:x=(l.length:Int):=by have:=Hx1.out;omega
   have hp:=Hp.out
   rw[List.drop_eq_nil_of_le (by omega),anyNot] at hp
   have Hp2:=Za (Zk hp)
   clear hx hlt hp Hp
   go_wp2
   go_ret
   exact⟨-1,rfl,by rw[←Hp2.out];rfl,by repeat(first|(with_reducible first|exact HB.out|apply Zh|apply Zf|apply Ze)|exact HB.out)⟩
set_option maxRecDepth 100000 in
theorem taskNot_contains (k:Nat) (A:Option Addr) (c:Nat) (l:List S64) (r:Bool) (w:World) (hr:Kd.C k64 w A l.length l) (h:anyNot k l=some r):
  Calls Try.prog 68 #[.slice A l.length c,.func (.func 69) #[] #[]] w fun e w'=>e= .returned (.bool r)∧Below w.heap.size w w':=by
 have HR:=Za hr
 have HH:=Za h
 clear hr h
 go_enter Try.func68,Try.ntmps68
 go_wp2_with fail
 refine(taskNot_index k A c l r _ HR.out HH.out).mono ?_
 rintro e w' ⟨i,rfl,hi,hb⟩
 have Hi:=Za hi
 have HB:=Za hb
 clear hi hb
 go_wp2
 go_ret
 exact⟨by first|rfl|(rw[Hi.out];done)|(simp[Hi.out];done)|(have e:=Hi.out;simp at e ⊢;exact e),by repeat(first|(with_reducible first|exact HB.out|apply Zh|apply Zf|apply Ze)|exact HB.out)⟩
def impl_ProgramOk.f (k:Nat) (l0_0:List S64):Option Bool:=(impl_within.f (l0_0.length:Int) 1 6).bind fun t=>if t=true then (anyNot k l0_0).bind fun b=>some (!b) else some false
set_option maxHeartbeats 8000000 in
set_option maxRecDepth 100000 in
theorem impl_ProgramOk.calls (k:Nat) (A0_0:Option Addr) (c0_0:Nat) (l0_0:List S64) (r:Bool) (w:World) (hr0_0:Kd.C k64 w A0_0 l0_0.length l0_0) (hc0_0:l0_0.length≤c0_0) (h:impl_ProgramOk.f k l0_0=some r):
  Calls Try.prog 45 #[.agg #[.slice A0_0 l0_0.length c0_0]] w fun e w'=>e= .returned (.bool r)∧Below w.heap.size w w':=by
 have hu53:=Try.underlying33
 have HR0:=Za hr0_0
 have HC0:=Za hc0_0
 have HB:=Za (Yh w.heap.size w)
 clear hr0_0 hc0_0
 unfold impl_ProgramOk.f at h
 obtain⟨t,h1,h2⟩:=Zl h
 clear h
 have A1:=Za h1
 clear h1
 cases t with
 |true=>
  rw[if_pos rfl] at h2
  obtain⟨b,h3,h4⟩:=Zl h2
  obtain rfl:=Zk h4
  have A2:=Za h3
  clear h2 h3 h4
  go_enter Try.func45,Try.ntmps45
  go_wp2_with (first|((with_reducible refine Zp (N:=1) rfl ?_);refine Zt ?hg (N:=1) ?hd (cs:= #[.slice A0_0 l0_0.length c0_0]) (t:=33) ?hr ?_;(case hd=>rfl);(case hg=>rfl);(case hr=>exact z8_5);intro gb hg w2 hbox hb;have n0_:=Za (Zj HB.out hb);have BK:=Za (hbox);clear HB;have HB:=n0_;clear n0_;clear hb hbox hg;have hcz0:w2.cell? ⟨gb,0,none⟩=some (.slice A0_0 l0_0.length c0_0):=(Zb BK.out 0).trans rfl;have hfz0:=Zc BK.out 0)|(go_at_call 46;(with_reducible refine(impl_within.calls _ _ _ true _ A1.out).mono ?_);rintro e w' ⟨rfl,⟨nd,rfl⟩⟩)|(go_at_call 68;(with_reducible refine(taskNot_contains k _ _ l0_0 b _ ?side1 A2.out).mono ?_);(case side1=>repeat(first|exact(Yg HR0.out HB.out)|(with_reducible refine Yc ?_ _)|(with_reducible refine Yd ?_ _)|(with_reducible refine Ye ?_)));rintro e w10 ⟨rfl,hb⟩;have n1_:=Za (Zj z8_0 hb);clear HB;have HB:=n1_;clear n1_;clear hb))
  go_ret
  exact⟨by first|rfl|(simp;done),by repeat(first|(with_reducible first|exact HB.out|apply Zh|apply Zf|apply Ze)|exact HB.out)⟩
 |false=>
  rw[if_neg (by simp)] at h2
  obtain rfl:=Zk h2
  clear h2
  go_enter Try.func45,Try.ntmps45
  go_wp2_with (first|((with_reducible refine Zp (N:=1) rfl ?_);refine Zt ?hg (N:=1) ?hd (cs:= #[.slice A0_0 l0_0.length c0_0]) (t:=33) ?hr ?_;(case hd=>rfl);(case hg=>rfl);(case hr=>exact z8_5);intro gb hg w2 hbox hb;have n0_:=Za (Zj HB.out hb);have BK:=Za (hbox);clear HB;have HB:=n0_;clear n0_;clear hb hbox hg;have hcz0:w2.cell? ⟨gb,0,none⟩=some (.slice A0_0 l0_0.length c0_0):=(Zb BK.out 0).trans rfl;have hfz0:=Zc BK.out 0)|(go_at_call 46;(with_reducible refine(impl_within.calls _ _ _ false _ A1.out).mono ?_);rintro e w' ⟨rfl,⟨nd,rfl⟩⟩))
  go_ret
  exact⟨by first|rfl|(simp;done),by repeat(first|(with_reducible first|exact HB.out|apply Zh|apply Zf|apply Ze)|exact HB.out)⟩
def impl_hasTask.f (k:Nat) (l0_0:List (S64)) (a1:Int):Option (Bool):=(impl_ProgramOk.f k l0_0).bind fun t266=>(if t266=true then ((impl_within.f a1 0 (wrap64 ((l0_0.length:Int) - 1))).bind fun t267=>(some t267)) else (some false))
set_option maxHeartbeats 8000000 in
set_option maxRecDepth 100000 in
theorem impl_hasTask.calls (k:Nat) (A0_0:Option Addr) (c0_0:Nat) (l0_0:List (S64)) (a1:Int) (r:Bool) (w:World) (hr0_0:Kd.C k64 w A0_0 l0_0.length l0_0) (hc0_0:l0_0.length≤c0_0) (h:impl_hasTask.f k l0_0 a1=some r):
  Calls Try.prog 27 #[.agg #[.slice A0_0 l0_0.length c0_0],.int .i64 a1] w fun e w'=>e= .returned (.bool r)∧Below w.heap.size w w':=by
 have hu33:=Try.underlying33
 have HR0_0:=Za hr0_0
 have HC0_0:=Za hc0_0
 clear hr0_0 hc0_0
 have HB:=Za (Yh w.heap.size w)
 have H:((impl_ProgramOk.f k l0_0).bind fun t266=>(if t266=true then ((impl_within.f a1 0 (wrap64 ((l0_0.length:Int) - 1))).bind fun t267=>(some t267)) else (some false)))=some r:=h
 clear h
 replace H:=Zl H
 obtain⟨t266,A30,H⟩:=H
 replace H:(if t266=true then ((impl_within.f a1 0 (wrap64 ((l0_0.length:Int) - 1))).bind fun t267=>(some t267)) else (some false))=some r:=H
 have A3:=Za A30
 clear A30
 by_cases c4:t266=true
 ·subst c4
  rw[if_pos rfl] at H
  replace H:=Zl H
  obtain⟨t267,A50,H⟩:=H
  replace H:(some t267)=some r:=H
  have A5:=Za A50
  clear A50
  obtain rfl:=Zk H
  go_enter Try.func27,Try.ntmps27
  go_wp2_with (first|((with_reducible refine Zp (N:=2) rfl ?_);(try(refine gate_guard (by rfl) ?_;dsimp only));refine Zt ?hg (N:=2) ?hd (cs:= #[.slice A0_0 l0_0.length c0_0]) (t:=33) ?hr ?_;(case hd=>rfl);(case hg=>rfl);(case hr=>exact z8_5);intro gb265 hg w6 hbox hb;have BK265:=Za (hbox);have GW265:=Za ((z8_10:w.heap.size≤gb265));have GE265:=Za ((z8_10:w.heap.size≤gb265));replace HB:=Za (Zj z8_0 hb);clear hb hbox hg;have hcz7_0:w6.cell? ⟨gb265,0,none⟩=some (.slice A0_0 l0_0.length c0_0):=(Zb BK265.out 0).trans rfl;have hfz7_0:=Zc BK265.out 0)|((first|((with_reducible refine gate_callee (f:=45) rfl ?_);refine goesL_ (some 6) rfl rfl Try.func45 (by kernel_rfl) rfl #[.agg #[.slice A0_0 l0_0.length c0_0]] rfl z8_2 ?_;(with_reducible refine(impl_ProgramOk.calls k _ _ l0_0 true _ ?side1 ?side2 A3.out).mono ?_))|(go_at_call 45;(with_reducible refine(impl_ProgramOk.calls k _ _ l0_0 true _ ?side1 ?side2 A3.out).mono ?_)));(case side1=>exact z8_6);(case side2=>exact HC0_0.out);rintro e w8 ⟨rfl,hb⟩;(first|refine⟨_,rfl,?_⟩|skip);replace BK265:=Za (Zg (g:=gb265) (o:= .cells #[.slice A0_0 l0_0.length c0_0] 33 (0,0)) (by(with_reducible repeat(first|refine blk_drewN ?_ _|refine blk_drew ?_|refine blk_alloc ?_ _));exact BK265.out) hb);replace HB:=Za (Zj (by repeat(first|(with_reducible first|exact HB.out|apply Zh|apply Zf|apply Ze|refine Zd ?_ GE265.out)|exact HB.out)) hb);(try clear hb);(try clear hb2);(try clear hk);(try clear hi);have hcz9_0:w8.cell? ⟨gb265,0,none⟩=some (.slice A0_0 l0_0.length c0_0):=(Zb BK265.out 0).trans rfl;have hfz9_0:=Zc BK265.out 0)|(go_at_call 46;(with_reducible refine(impl_within.calls a1 0 (wrap64 ((l0_0.length:Int) - 1)) t267 _ A5.out).mono ?_);rintro e w' ⟨rfl,⟨nd,rfl⟩⟩))
  go_ret
  exact⟨by first|rfl|(simp[errW_none,errW_some]<;>rfl)|(simp[*,errW_none,errW_some]<;>rfl)|(simp[*,errW_none,errW_some,i64_w];done),by repeat(first|(with_reducible first|exact HB.out|apply Zh|apply Zf|apply Ze|refine Zd ?_ GE265.out)|exact HB.out)⟩
 ·replace c4:=Bool.eq_false_iff.mpr c4
  subst c4
  rw[if_neg (show ¬(false=true) by decide)] at H
  obtain rfl:=Zk H
  go_enter Try.func27,Try.ntmps27
  go_wp2_with (first|((with_reducible refine Zp (N:=2) rfl ?_);(try(refine gate_guard (by rfl) ?_;dsimp only));refine Zt ?hg (N:=2) ?hd (cs:= #[.slice A0_0 l0_0.length c0_0]) (t:=33) ?hr ?_;(case hd=>rfl);(case hg=>rfl);(case hr=>exact z8_5);intro gb265 hg w10 hbox hb;have BK265:=Za (hbox);have GW265:=Za ((z8_10:w.heap.size≤gb265));have GE265:=Za ((z8_10:w.heap.size≤gb265));replace HB:=Za (Zj z8_0 hb);clear hb hbox hg;have hcz11_0:w10.cell? ⟨gb265,0,none⟩=some (.slice A0_0 l0_0.length c0_0):=(Zb BK265.out 0).trans rfl;have hfz11_0:=Zc BK265.out 0)|((first|((with_reducible refine gate_callee (f:=45) rfl ?_);refine goesL_ (some 6) rfl rfl Try.func45 (by kernel_rfl) rfl #[.agg #[.slice A0_0 l0_0.length c0_0]] rfl z8_2 ?_;(with_reducible refine(impl_ProgramOk.calls k _ _ l0_0 false _ ?side1 ?side2 A3.out).mono ?_))|(go_at_call 45;(with_reducible refine(impl_ProgramOk.calls k _ _ l0_0 false _ ?side1 ?side2 A3.out).mono ?_)));(case side1=>exact z8_6);(case side2=>exact HC0_0.out);rintro e w12 ⟨rfl,hb⟩;(first|refine⟨_,rfl,?_⟩|skip);replace BK265:=Za (Zg (g:=gb265) (o:= .cells #[.slice A0_0 l0_0.length c0_0] 33 (0,0)) (by(with_reducible repeat(first|refine blk_drewN ?_ _|refine blk_drew ?_|refine blk_alloc ?_ _));exact BK265.out) hb);replace HB:=Za (Zj (by repeat(first|(with_reducible first|exact HB.out|apply Zh|apply Zf|apply Ze|refine Zd ?_ GE265.out)|exact HB.out)) hb);(try clear hb);(try clear hb2);(try clear hk);(try clear hi)))
  go_ret
  exact⟨by first|rfl|(simp[errW_none,errW_some]<;>rfl)|(simp[*,errW_none,errW_some]<;>rfl)|(simp[*,errW_none,errW_some,i64_w];done),by repeat(first|(with_reducible first|exact HB.out|apply Zh|apply Zf|apply Ze|refine Zd ?_ GE265.out)|exact HB.out)⟩
-- NOT PRINTED: function 71 (slices_IndexFunc_int_int)
-- NOT PRINTED: function 47 (slices_ContainsFunc_int_int)
def impl_IsValue.f (a0:Int):Option (Bool):=(impl_within.f a0 (-1000000) 1000000).bind fun t268=>(some t268)
set_option maxHeartbeats 8000000 in
set_option maxRecDepth 100000 in
theorem impl_IsValue.calls (a0:Int) (r:Bool) (w:World) (h:impl_IsValue.f a0=some r):
  Calls Try.prog 49 #[.int .i64 a0] w fun e w'=>e= .returned (.bool r)∧Drawn0 w w':=by
 have H:((impl_within.f a0 (-1000000) 1000000).bind fun t268=>(some t268))=some r:=h
 clear h
 replace H:=Zl H
 obtain⟨t268,A20,H⟩:=H
 replace H:(some t268)=some r:=H
 have A2:=Za A20
 clear A20
 obtain rfl:=Zk H
 go_enter Try.func49,Try.ntmps49
 go_wp2_with (first|((first|((with_reducible refine gate_callee (f:=46) rfl ?_);refine goesL_ (some 4) rfl rfl Try.func46 (by kernel_rfl) rfl #[.int .i64 a0,.int .i64 (-1000000),.int .i64 1000000] rfl z8_2 ?_;(with_reducible refine(impl_within.calls a0 (-1000000) 1000000 t268 _ A2.out).mono ?_))|(go_at_call 46;(with_reducible refine(impl_within.calls a0 (-1000000) 1000000 t268 _ A2.out).mono ?_)));rintro e w' ⟨rfl,⟨nd,rfl⟩⟩;(first|refine⟨_,rfl,?_⟩|skip)))
 go_ret
 exact⟨by first|rfl|(simp;done)|(simp[*];done),by repeat(first|exact Zz _|apply Ya)⟩
-- NOT PRINTED: function 48 (impl_areValues_1)
def valP (x:Int):Bool:=decide (-1000000≤x∧x≤1000000)
theorem valP_eq (x:Int):impl_IsValue.f x=some (valP x):=by
 unfold impl_IsValue.f impl_within.f valP
 by_cases h: -1000000≤x<;>simp[h]
set_option maxRecDepth 100000 in
theorem valP_clo (x:Int) (b:Bool) (w:World) (hb:valP x=b):Calls Try.prog 48 #[.int .i64 x] w fun e w'=>e= .returned (.bool (!b))∧Drawn0 w w':=by
 have Hb:=Za ((valP_eq x).trans (congrArg some hb))
 clear hb
 go_enter Try.func48,Try.ntmps48
 go_wp2_with (go_at_call 49;(with_reducible refine(impl_IsValue.calls x b _ Hb.out).mono ?_);rintro e w' ⟨rfl,⟨nd,rfl⟩⟩)
 go_ret
 exact⟨rfl,by repeat(first|exact Zz _|apply Ya)⟩
theorem valP_none (l:List Int) (h:∀i:Int,0≤i→i<(l.length:Int)→valP (rd l i)=true):l.any (fun x=> !valP x)=false:=by
 rw[List.any_eq_false]
 intro x hx
 obtain⟨i,hi⟩:=List.getElem?_of_mem hx
 have hl:=(List.getElem?_eq_some_iff.1 hi).1
 have:=h (i:Int) (by omega) (by omega)
 unfold rd at this
 rw[Int.toNat_natCast,List.getD_eq_getElem?_getD,hi] at this
 simpa using this
theorem valP_some (l:List Int) (i:Int) (h0:0≤i) (h1:i<(l.length:Int)) (h:valP (rd l i)=false):l.any (fun x=> !valP x)=true:=by
 rw[List.any_eq_true]
 refine⟨rd l i,?_,by simpa using h⟩
 unfold rd
 rw[List.getD_eq_getElem?_getD,List.getElem?_eq_getElem (by omega)]
 exact List.getElem_mem _
set_option maxHeartbeats 8000000 in
set_option maxRecDepth 100000 in
theorem valP_index (A:Option Addr) (c:Nat) (l:List Int) (w:World) (hr:Kd.C (Kd.int .i64) w A l.length l):
  Calls Try.prog 71 #[.slice A l.length c,.func (.func 48) #[] #[]] w fun e w'=>∃i:Int,e= .returned (.int .i64 i)∧decide (i≥0)=l.any (fun x=> !valP x)∧Drawn0 w w':=by
 have HR:=Za hr
 have hlen:l.length≤9223372036854775807:=hr.2.1
 clear hr
 go_enter Try.func71,Try.ntmps71
 go_wp2
 go_loopw [8] (fun v8 w'=>∃x:Int,v8= .int .i64 x∧Aside0 (0≤x)∧Aside0 (x≤(l.length:Int))∧Aside0 (∀i:Int,0≤i→i<x→valP (rd l i)=true)∧Drawn0 w w') (fun v8 _=>l.length - (intOf v8).toNat)
 case atStart=>exact⟨0,rfl,⟨by omega⟩,⟨by omega⟩,⟨fun i h0 h1=>by omega⟩,Zz _⟩
 case round=>
  obtain⟨x,rfl,Hx0,Hx1,Hp,⟨m,rfl⟩⟩:=hrel
  by_cases hlt:x<(l.length:Int)
  ·have c1:decide (x<(l.length:Int))=true:=Zx hlt
   have h0:=Hx0.out
   obtain⟨ad,e,hx⟩:=Kd.at_int HR.out x h0 hlt
   cases e
   obtain⟨b,hb⟩:∃b,valP (rd l x)=b:=⟨_,rfl⟩
   have Hb:=Za hb
   have Hlt:=Za hlt
   clear hb hlt
   have p1:=eq_true h0
   have q1:=eq_true Hlt.out
   have hsum:wrap64 (x+1)=x+1:=by have:=Hlt.out;unfold wrap64;omega
   have Hs:=Za hsum
   clear hsum h0
   cases b with
   |true=>
    go_wp2_with (go_at_call 48;(with_reducible refine(valP_clo (rd l x) true _ Hb.out).mono ?_);rintro e w' ⟨rfl,⟨nd,rfl⟩⟩)
    go_roundw
    case rel=>exact⟨x+1,by rw[Hs.out],⟨by have:=Hx0.out;omega⟩,⟨by have:=Hlt.out;omega⟩,⟨fun i h0 h1=>by
     by_cases e:i=x
     ·rw[e];exact Hb.out
     ·exact Hp.out i h0 (by omega)⟩,by repeat(first|exact Zz _|apply Ya)⟩
    case measure=>
     have:=Hlt.out
     have:=Hx0.out
     rw[Hs.out]
     simp[intOf]
     omega
   |false=>
    go_wp2_with (go_at_call 48;(with_reducible refine(valP_clo (rd l x) false _ Hb.out).mono ?_);rintro e w' ⟨rfl,⟨nd,rfl⟩⟩)
    go_ret
    exact⟨x,rfl,by rw[valP_some l x Hx0.out Hlt.out Hb.out];simpa using Hx0.out,by repeat(first|exact Zz _|apply Ya)⟩
  ·have c1:decide (x<(l.length:Int))=false:=Yi hlt
   have hx:x=(l.length:Int):=by have:=Hx1.out;omega
   have Hx:=Za hx
   clear hx hlt
   go_wp2
   go_ret
   exact⟨-1,rfl,by rw[valP_none l (fun i h0 h1=>Hp.out i h0 (by have:=Hx.out;omega))];rfl,by repeat(first|exact Zz _|apply Ya)⟩
set_option maxRecDepth 100000 in
theorem valP_contains (A:Option Addr) (c:Nat) (l:List Int) (b:Bool) (hb:l.any (fun x=> !valP x)=b) (w:World) (hr:Kd.C (Kd.int .i64) w A l.length l):
  Calls Try.prog 47 #[.slice A l.length c,.func (.func 48) #[] #[]] w fun e w'=>e= .returned (.bool b)∧Drawn0 w w':=by
 have HR:=Za hr
 have Hb:=Za hb
 clear hr hb
 go_enter Try.func47,Try.ntmps47
 go_wp2_with fail
 refine(valP_index A c l _ HR.out).mono ?_
 rintro e w' ⟨i,rfl,hi,⟨nd,rfl⟩⟩
 rw[Hb.out] at hi
 have Hi:=Za hi
 clear hi
 go_wp2
 go_ret
 exact⟨by first|rfl|(rw[Hi.out];done)|(simp[Hi.out];done)|(have e:=Hi.out;simp at e ⊢;exact e),by repeat(first|exact Zz _|apply Ya)⟩
def impl_areValues.f (l0:List Int):Option Bool:=some (!(l0.any fun x=> !valP x))
set_option maxRecDepth 100000 in
theorem impl_areValues.calls (A0:Option Addr) (c0:Nat) (l0:List Int) (r:Bool) (w:World) (hr0:Kd.C (Kd.int .i64) w A0 l0.length l0) (hc0:l0.length≤c0) (h:impl_areValues.f l0=some r):
  Calls Try.prog 29 #[.slice A0 l0.length c0] w fun e w'=>e= .returned (.bool r)∧Drawn0 w w':=by
 obtain⟨b,hb⟩:∃b,l0.any (fun x=> !valP x)=b:=⟨_,rfl⟩
 unfold impl_areValues.f at h
 rw[hb] at h
 obtain rfl:=Zk h
 have HR:=Za hr0
 have Hb:=Za hb
 clear hr0 hb h hc0
 go_enter Try.func29,Try.ntmps29
 go_wp2_with fail
 refine(valP_contains A0 c0 l0 b Hb.out _ HR.out).mono ?_
 rintro e w' ⟨rfl,⟨nd,rfl⟩⟩
 go_wp2
 go_ret
 exact⟨rfl,by repeat(first|exact Zz _|apply Ya)⟩
def impl_VarsOk.f (l0:List Int):Option (Bool):=if (l0.length:Int)=8 then ((impl_areValues.f l0).bind fun t269=>(some t269)) else (some false)
set_option maxHeartbeats 8000000 in
set_option maxRecDepth 100000 in
theorem impl_VarsOk.calls (A0:Option Addr) (c0:Nat) (l0:List Int) (r:Bool) (w:World) (hr0:Kd.C (Kd.int .i64) w A0 l0.length l0) (hc0:l0.length≤c0) (h:impl_VarsOk.f l0=some r):
  Calls Try.prog 28 #[.slice A0 l0.length c0] w fun e w'=>e= .returned (.bool r)∧Drawn0 w w':=by
 have HR0:=Za hr0
 have HC0:=Za hc0
 clear hr0 hc0
 have H:(if (l0.length:Int)=8 then ((impl_areValues.f l0).bind fun t269=>(some t269)) else (some false))=some r:=h
 clear h
 by_cases c2:(l0.length:Int)=8
 ·rw[if_pos c2] at H
  have c2b0:((l0.length:Int)==8)=true:=beq_iff_eq.mpr c2
  have c2b1:((l0.length:Int) != 8)=false:=bne_eq_false_iff_eq.mpr c2
  clear c2
  replace H:=Zl H
  obtain⟨t269,A30,H⟩:=H
  replace H:(some t269)=some r:=H
  have A3:=Za A30
  clear A30
  obtain rfl:=Zk H
  go_enter Try.func28,Try.ntmps28
  go_wp2_with (first|(go_at_call 29;(with_reducible refine(impl_areValues.calls _ _ l0 t269 _ ?side1 ?side2 A3.out).mono ?_);(case side1=>repeat(first|exact HR0.out|(with_reducible refine Yc ?_ _)|(with_reducible refine Yd ?_ _)|(with_reducible refine Ye ?_)));(case side2=>exact HC0.out);rintro e w' ⟨rfl,⟨nd,rfl⟩⟩))
  go_ret
  exact⟨by first|rfl|(simp;done)|(simp[*];done),by repeat(first|exact Zz _|apply Ya)⟩
 ·rw[if_neg c2] at H
  have c2b0:((l0.length:Int)==8)=false:=beq_eq_false_iff_ne.mpr c2
  have c2b1:((l0.length:Int) != 8)=true:=bne_iff_ne.mpr c2
  obtain rfl:=Zk H
  go_enter Try.func28,Try.ntmps28
  go_wp2
  go_ret
  exact⟨by first|rfl|(simp;done)|(simp[*];done),by repeat(first|exact Zz _|apply Ya)⟩
def slices_Clone_int_int.f (l0:List Int):Option (List Int):=if l0.length<17592186044416 then some l0 else none
set_option maxHeartbeats 8000000 in
set_option maxRecDepth 100000 in
theorem slices_Clone_int_int.calls (A0:Option Addr) (c0:Nat) (l0:List Int) (r:List Int) (w:World) (hr0:Kd.C (Kd.int .i64) w A0 l0.length l0) (hc0:l0.length≤c0) (h:slices_Clone_int_int.f l0=some r):
  Calls Try.prog 50 #[.slice A0 l0.length c0] w fun e w'=>∃v0_:Value,e= .returned (v0_)∧Kd.R (Kd.int .i64) 3 w' w.heap.size (fun _=>True) v0_ r∧Below w.heap.size w w':=by
 have HR0:=Za hr0
 have HC0:=Za hc0
 have HB:=Za (Yh w.heap.size w)
 unfold slices_Clone_int_int.f at h
 by_cases hl:l0.length<17592186044416
 ·rw[if_pos hl] at h
  obtain rfl:=Zk h
  clear h
  obtain⟨y0,hy0⟩:∃y_:List Int,y_=([]:List Int):=⟨_,rfl⟩
  obtain⟨y1,hy1⟩:∃y_:List Int,y_=y0++l0:=⟨_,rfl⟩
  have hl2:y0.length+l0.length<17592186044416:=by
   rw[hy0]
   simpa using hl
  have e1:y1=l0:=by rw[hy1,hy0,List.nil_append]
  have LM:=Za hl2
  have N0:=Za hy0
  have N1:=Za hy1
  have E1:=Za e1
  clear hl2 hy0 hy1 e1
  cases A0 with
  |none=>
   have l0e:l0=[]:=by
    cases l0 with
    |nil=>rfl
    |cons x t=>
     obtain⟨ad,e,_⟩:=hr0.2.2 (by simp)
     cases e
   subst l0e
   have he:∀w:World,(binOp .eql 25 (.slice none 0 c0) (.slice none 0 0)).run Try.prog w= .ok (.bool true) w:=fun _=>rfl
   go_enter Try.func50,Try.ntmps50
   go_wp2
   go_ret
   exact⟨_,rfl,Kd.R_nil _ _ _ _ _,HB.out⟩
  |some a0=>
   have he:∀w:World,(binOp .eql 25 (.slice (some a0) l0.length c0) (.slice none 0 0)).run Try.prog w= .ok (.bool false) w:=fun _=>rfl
   go_enter Try.func50,Try.ntmps50
   go_wp2_with (first|((with_reducible refine Zp (N:=5) rfl ?_);refine Kd.R_lit (Kd.int .i64) _ 3 ?hg (N:=5) ?hd (xs:=([]:List Int)) (inner:=[]) (ok:=fun _=>True) (okp:=fun _=>True) ?hr ?hp (fun _ hk=>hk) trivial (Yh _ _) (Nat.le_refl _) (by simp) ?_;(case hd=>rfl);(case hg=>rfl);(case hr=>exact z8_5);(case hp=>exact(Reps.none _ _));intro v196 w5 ho6 hb hg_ hnew_;clear hg_ hnew_;rw[←N0.out] at ho6;have HO197:=Za ho6;have n1_:=Za (Zj HB.out hb);clear HB;have HB:=n1_;clear n1_;clear hb ho6)|((with_reducible refine gate_builtin (b:= .append) (xs:= #[.tmp 5,.tmp 6]) rfl ?_);at_builtin;refine Kd.R_append_rows (Kd.int .i64) (w0:=w) w.heap.size rfl (.tmp 5) (.tmp 6) 25 3 (.int .i64 0) 8 rfl Try.underlying25 info3 rfl (by decide) (by omega) v196 y0 l0 _ _ _ (fun _=>True) (fun _=>False) rfl rfl ?aO ?aR (fun _ _ h=>h) (fun _ h=>h.elim) ?aF ?aB ?aS ?aL ?_;(case aR=>repeat(first|exact(Yg HR0.out HB.out)|(with_reducible refine Yc ?_ _)|(with_reducible refine Yd ?_ _)|(with_reducible refine Ye ?_)));(case aB=>exact z8_0);(case aF=>exact(fun _ _=>trivial));(case aO=>exact(by(with_reducible repeat(first|apply Zn|apply Zo|apply Zm));exact HO197.out));(case aS=>exact(Zy z8_0));(case aL=>have:=LM.out;omega);intro v199 w7 ho hb hg hat;rw[←N1.out] at ho;replace HB:=Za (hb);have HO200:=Za (ho);clear ho hb hg hat))
   go_ret
   exact⟨_,rfl,by rw[←E1.out];repeat(first|exact HO200.out|apply Zn|apply Zo|apply Zm),by repeat(first|(with_reducible first|exact HB.out|apply Zh|apply Zf|apply Ze)|exact HB.out)⟩
 ·rw[if_neg hl] at h
  exact absurd h (by simp)
/-! ### impl_endOf: function 73 -/
mutual
def impl_endOf.l0:Nat→List (S80)→Int→Int→Option (Int)
 |0,_,_,_=>none
 |k+1,x0,x5,x6=>if x6<(x0.length:Int) then (if 0≤x6 then ((impl_isOpening.f ((rd_T80 x0 x6).f0)).bind fun t271=>(if t271=true then (impl_endOf.j1 k x0 (wrap64 (x5+1)) x6) else (impl_endOf.j1 k x0 x5 x6))) else (none)) else (some (-1))
def impl_endOf.j1:Nat→List (S80)→Int→Int→Option (Int)
 |0,_,_,_=>none
 |k+1,x0,x5,x6=>if 0≤x6 then (if x6<(x0.length:Int) then (if ((rd_T80 x0 x6).f0)=6 then (if (wrap64 (x5 - 1))=0 then (some x6) else (impl_endOf.l0 k x0 (wrap64 (x5 - 1)) (wrap64 (x6+1)))) else (if x5=0 then (some x6) else (impl_endOf.l0 k x0 x5 (wrap64 (x6+1))))) else (none)) else (none)
end
def impl_endOf.f (k:Nat) (l0:List (S80)) (a1:Int):Option (Int):=impl_endOf.l0 k l0 0 a1
set_option maxHeartbeats 8000000 in
set_option maxRecDepth 100000 in
theorem impl_endOf.calls (k:Nat) (A0:Option Addr) (c0:Nat) (l0:List (S80)) (a1:Int) (r:Int) (w:World) (hr0:Kd.C k80 w A0 l0.length l0) (hc0:l0.length≤c0) (h:impl_endOf.f k l0 a1=some r):
  Calls Try.prog 73 #[.slice A0 l0.length c0,.int .i64 a1] w fun e w'=>e= .returned (.int .i64 r)∧Drawn0 w w':=by
 have HR0:=Za hr0
 have HC0:=Za hc0
 clear hr0 hc0
 have H:(impl_endOf.l0 k l0 0 a1)=some r:=h
 clear h
 have H':=Za H
 clear H
 go_enter Try.func73,Try.ntmps73
 go_wp2
 go_loopg [5,6] k (fun kq v5 v6 w'=>∃(x5_1:Int) (x6_1:Int),v5= .int .i64 x5_1∧v6= .int .i64 x6_1∧Aside0 (impl_endOf.l0 kq l0 x5_1 x6_1=some r)∧Aside0 (kq≤k)∧Drawn0 w w')
 case atStart=>exact⟨(0),(a1),z8_3,z8_3,H',⟨Nat.le_refl _⟩,by repeat(first|exact Zz _|apply Ya)⟩
 case round=>
  clear H'
  obtain⟨x5_1,x6_1,rfl,rfl,HA,HK1,⟨m1,rfl⟩⟩:=hrel
  cases gk with
  |zero=>exact absurd HA.out (by simp[impl_endOf.l0])
  |succ k1=>
   have H:=HA.out
   clear HA
   simp only[impl_endOf.l0] at H
   by_cases c3:x6_1<(l0.length:Int)
   ·rw[if_pos c3] at H
    have c3b0:decide (x6_1<(l0.length:Int))=true:=Zx c3
    clear c3
    by_cases c4:0≤x6_1
    ·rw[if_pos c4] at H
     have c4b0:decide (0≤x6_1)=true:=Zx c4
     clear c4
     replace H:=Zl H
     obtain⟨t271,A50,H⟩:=H
     replace H:(if t271=true then (impl_endOf.j1 k1 l0 (wrap64 (x5_1+1)) x6_1) else (impl_endOf.j1 k1 l0 x5_1 x6_1))=some r:=H
     have A5:=Za A50
     clear A50
     have HC6:=Za H
     clear H
     have p270:0≤(x6_1:Int):=Zv z8_4
     have q270:x6_1<(l0.length:Int):=Zv z8_4
     obtain⟨ad270,e270,hx270_0,hx270_1,hx270_2,hx270_3,hx270_4,hx270_5⟩:=at_T80 HR0.out x6_1 p270 q270
     cases e270
     replace p270:=eq_true p270
     replace q270:=eq_true q270
     go_upto_if 19 with(first|((first|((with_reducible refine gate_callee (f:=72) rfl ?_);refine goesL_ (some 19) rfl rfl Try.func72 (by kernel_rfl) rfl #[.int .i64 ((rd_T80 l0 x6_1).f0)] rfl z8_2 ?_;(with_reducible refine(impl_isOpening.calls ((rd_T80 l0 x6_1).f0) t271 _ A5.out).mono ?_))|(go_at_call 72;(with_reducible refine(impl_isOpening.calls ((rd_T80 l0 x6_1).f0) t271 _ A5.out).mono ?_)));rintro e w' ⟨rfl,⟨nd,rfl⟩⟩;(first|refine⟨_,rfl,?_⟩|skip)))
     (try simp only[Act.put,Zq,Zr,Zs])
     go_cut [5] (fun v5 wc=>∃(kq:Nat) (x5_5:Int),v5= .int .i64 x5_5∧Aside0 (impl_endOf.j1 kq l0 x5_5 x6_1=some r)∧Aside0 (kq≤k1)∧Drawn0 w wc)
     case first=>
      have H:=HC6.out
      clear HC6
      by_cases c7:t271=true
      ·subst c7
       rw[if_pos rfl] at H
       have H':=Za H
       clear H
       go_wp2
       go_meet
       case rel=>exact⟨_,(wrap64 (x5_1+1)),z8_3,H',⟨by have:=HK1.out;first|omega|exact Nat.le_refl _⟩,by repeat(first|exact Zz _|apply Ya)⟩
      ·replace c7:=Bool.eq_false_iff.mpr c7
       subst c7
       rw[if_neg (show ¬(false=true) by decide)] at H
       have H':=Za H
       clear H
       go_wp2
       go_meet
       case rel=>exact⟨_,(x5_1),z8_3,H',⟨by have:=HK1.out;first|omega|exact Nat.le_refl _⟩,by repeat(first|exact Zz _|apply Ya)⟩
     case rest=>
      clear HC6
      (try clear c3);(try clear c3b0);(try clear c4);(try clear c4b0);(try clear hx270_0);(try clear hx270_1);(try clear hx270_2);(try clear hx270_3);(try clear hx270_4);(try clear hx270_5);(try clear p270);(try clear q270)
      obtain⟨kq,x5_5,rfl,HA,HJ5,⟨mc5,rfl⟩⟩:=hcut
      cases kq with
      |zero=>exact absurd HA.out (by simp[impl_endOf.j1])
      |succ kj5=>
       have H:=HA.out
       clear HA
       simp only[impl_endOf.j1] at H
       by_cases c8:0≤x6_1
       ·rw[if_pos c8] at H
        have c8b0:decide (0≤x6_1)=true:=Zx c8
        clear c8
        by_cases c9:x6_1<(l0.length:Int)
        ·rw[if_pos c9] at H
         have c9b0:decide (x6_1<(l0.length:Int))=true:=Zx c9
         clear c9
         by_cases c10:((rd_T80 l0 x6_1).f0)=6
         ·rw[if_pos c10] at H
          have c10b0:(((rd_T80 l0 x6_1).f0)==6)=true:=beq_iff_eq.mpr c10
          have c10b1:(((rd_T80 l0 x6_1).f0) != 6)=false:=bne_eq_false_iff_eq.mpr c10
          clear c10
          by_cases c11:(wrap64 (x5_5 - 1))=0
          ·rw[if_pos c11] at H
           have c11b0:((wrap64 (x5_5 - 1))==0)=true:=beq_iff_eq.mpr c11
           have c11b1:((wrap64 (x5_5 - 1)) != 0)=false:=bne_eq_false_iff_eq.mpr c11
           clear c11
           obtain rfl:=Zk H
           have p272:0≤(x6_1:Int):=Zv z8_4
           have q272:x6_1<(l0.length:Int):=Zv z8_4
           obtain⟨ad272,e272,hx272_0,hx272_1,hx272_2,hx272_3,hx272_4,hx272_5⟩:=at_T80 HR0.out x6_1 p272 q272
           obtain rfl:ad270=ad272:=(by injection e272)
           replace p272:=eq_true p272
           replace q272:=eq_true q272
           go_wp2
           go_ret
           exact⟨by first|rfl|(simp;done)|(simp[*];done),by repeat(first|exact Zz _|apply Ya)⟩
          ·rw[if_neg c11] at H
           have c11b0:((wrap64 (x5_5 - 1))==0)=false:=beq_eq_false_iff_ne.mpr c11
           have c11b1:((wrap64 (x5_5 - 1)) != 0)=true:=bne_iff_ne.mpr c11
           have H':=Za H
           clear H
           have p272:0≤(x6_1:Int):=Zv z8_4
           have q272:x6_1<(l0.length:Int):=Zv z8_4
           obtain⟨ad272,e272,hx272_0,hx272_1,hx272_2,hx272_3,hx272_4,hx272_5⟩:=at_T80 HR0.out x6_1 p272 q272
           obtain rfl:ad270=ad272:=(by injection e272)
           replace p272:=eq_true p272
           replace q272:=eq_true q272
           go_wp2
           go_roundg kj5
           case measure=>have:=HK1.out;have:=HJ5.out;omega
           case rel=>exact⟨(wrap64 (x5_5 - 1)),(wrap64 (x6_1+1)),z8_3,z8_3,H',⟨by have:=HK1.out;have:=HJ5.out;omega⟩,by repeat(first|exact Zz _|apply Ya)⟩
         ·rw[if_neg c10] at H
          have c10b0:(((rd_T80 l0 x6_1).f0)==6)=false:=beq_eq_false_iff_ne.mpr c10
          have c10b1:(((rd_T80 l0 x6_1).f0) != 6)=true:=bne_iff_ne.mpr c10
          by_cases c12:x5_5=0
          ·rw[if_pos c12] at H
           have c12b0:(x5_5==0)=true:=beq_iff_eq.mpr c12
           have c12b1:(x5_5 != 0)=false:=bne_eq_false_iff_eq.mpr c12
           clear c12
           obtain rfl:=Zk H
           have p272:0≤(x6_1:Int):=Zv z8_4
           have q272:x6_1<(l0.length:Int):=Zv z8_4
           obtain⟨ad272,e272,hx272_0,hx272_1,hx272_2,hx272_3,hx272_4,hx272_5⟩:=at_T80 HR0.out x6_1 p272 q272
           obtain rfl:ad270=ad272:=(by injection e272)
           replace p272:=eq_true p272
           replace q272:=eq_true q272
           go_wp2
           go_ret
           exact⟨by first|rfl|(simp;done)|(simp[*];done),by repeat(first|exact Zz _|apply Ya)⟩
          ·rw[if_neg c12] at H
           have c12b0:(x5_5==0)=false:=beq_eq_false_iff_ne.mpr c12
           have c12b1:(x5_5 != 0)=true:=bne_iff_ne.mpr c12
           have H':=Za H
           clear H
           have p272:0≤(x6_1:Int):=Zv z8_4
           have q272:x6_1<(l0.length:Int):=Zv z8_4
           obtain⟨ad272,e272,hx272_0,hx272_1,hx272_2,hx272_3,hx272_4,hx272_5⟩:=at_T80 HR0.out x6_1 p272 q272
           obtain rfl:ad270=ad272:=(by injection e272)
           replace p272:=eq_true p272
           replace q272:=eq_true q272
           go_wp2
           go_roundg kj5
           case measure=>have:=HK1.out;have:=HJ5.out;omega
           case rel=>exact⟨(x5_5),(wrap64 (x6_1+1)),z8_3,z8_3,H',⟨by have:=HK1.out;have:=HJ5.out;omega⟩,by repeat(first|exact Zz _|apply Ya)⟩
        ·rw[if_neg c9] at H
         exact absurd H (by simp)
       ·rw[if_neg c8] at H
        exact absurd H (by simp)
    ·rw[if_neg c4] at H
     exact absurd H (by simp)
   ·rw[if_neg c3] at H
    have c3b0:decide (x6_1<(l0.length:Int))=false:=Yi c3
    clear c3
    obtain rfl:=Zk H
    go_wp2
    go_ret
    exact⟨by first|rfl|(simp;done)|(simp[*];done),by repeat(first|exact Zz _|apply Ya)⟩
def impl_bit.f (a0:Bool):Option (Int):=if a0=true then (some 1) else (some 0)
set_option maxHeartbeats 8000000 in
set_option maxRecDepth 100000 in
theorem impl_bit.calls (a0:Bool) (r:Int) (w:World) (h:impl_bit.f a0=some r):
  Calls Try.prog 74 #[.bool a0] w fun e w'=>e= .returned (.int .i64 r)∧Drawn0 w w':=by
 have H:(if a0=true then (some 1) else (some 0))=some r:=h
 clear h
 by_cases c2:a0=true
 ·subst c2
  rw[if_pos rfl] at H
  obtain rfl:=Zk H
  go_enter Try.func74,Try.ntmps74
  go_wp2
  go_ret
  exact⟨by first|rfl|(simp;done)|(simp[*];done),by repeat(first|exact Zz _|apply Ya)⟩
 ·replace c2:=Bool.eq_false_iff.mpr c2
  subst c2
  rw[if_neg (show ¬(false=true) by decide)] at H
  obtain rfl:=Zk H
  go_enter Try.func74,Try.ntmps74
  go_wp2
  go_ret
  exact⟨by first|rfl|(simp;done)|(simp[*];done),by repeat(first|exact Zz _|apply Ya)⟩
theorem heapStmt:Kd.Heap k80:=Kd.heap_iso _ (Kd.heap_pair (Kd.heap_int .i64) (Kd.heap_pair (Kd.heap_int .i64) (Kd.heap_pair (Kd.heap_int .i64) (Kd.heap_iso _ (Kd.heap_pair (Kd.heap_int .i64) (Kd.heap_pair (Kd.heap_int .i64) (Kd.heap_int .i64)))))))
def walkRep {σ:Type} (f:σ→Option σ):Nat→σ→Option σ
 |0,s=>some s
 |n+1,s=>(f s).bind (walkRep f n)
mutual
def impl_walk.f {σ:Type} (step:σ→S80→Option (σ×Bool)):Nat→List S80→σ→Option σ
 |0,_,_=>none
 |k+1,l,s=>impl_walk.l0 step k l 0 s
def impl_walk.l0 {σ:Type} (step:σ→S80→Option (σ×Bool)):Nat→List S80→Int→σ→Option σ
 |0,_,_,_=>none
 |k+1,l,i,s=>if i<(l.length:Int) then (if 0≤i then (if (rd_T80 l i).f0=6 then impl_walk.l0 step k l (wrap64 (i+1)) s else
   (step s (rd_T80 l i)).bind fun sb=>(impl_isOpening.f (rd_T80 l i).f0).bind fun o=>if o=true then
    ((impl_endOf.f k l i).bind fun e=>(if (rd_T80 l i).f0=4 then impl_bit.f sb.2 else some (rd_T80 l i).f2).bind fun n=>
     if 0≤wrap64 (i+1)∧wrap64 (i+1)≤e∧e≤(l.length:Int)∧n≤9223372036854775807 then
      ((walkRep (fun s'=>impl_walk.f step k ((l.take e.toNat).drop (wrap64 (i+1)).toNat) s') n.toNat sb.1).bind fun s'=>impl_walk.l0 step k l (wrap64 (e+1)) s') else none)
    else impl_walk.l0 step k l (wrap64 (i+1)) sb.1) else none) else some s
end
set_option maxHeartbeats 8000000 in
set_option maxRecDepth 100000 in
theorem impl_walk.calls {σ:Type} {B:Nat} (step:σ→S80→Option (σ×Bool)) (I:σ→Sep.Asn) (g:Nat) (cb:Array Value) (eg:∀args w,(callFunc g args).run Try.prog w= .ok (.enter g args) w)
  (hL:∀s,Sep.Loc B (I s))
  (hstep:∀s x s' b F w,B≤w.heap.size→step s x=some (s',b)→I s F w→Calls Try.prog g (#[.agg #[.int .i64 x.f0,.int .i64 x.f1,.int .i64 x.f2,.int .i64 x.f3.f0,.int .i64 x.f3.f1,.int .i64 x.f3.f2]]++cb) w fun e w'=>e= .returned (.bool b)∧∃F',I s' F' w'∧Sep.After F w F' w')
  (k:Nat):∀(A0:Option Addr) (c0:Nat) (l0:List S80) (s r:σ) (F:Nat→Prop) (w:World) (hr:∀w',Kept w w' F→Kd.C k80 w' A0 l0.length l0) (hc0:l0.length≤c0) (hB:B≤w.heap.size) (hs:I s F w) (h:impl_walk.f step k l0 s=some r),
  Calls Try.prog 51 #[.slice A0 l0.length c0,.func (.func g) #[] cb] w fun e w'=>e= .returned (.tuple #[])∧∃F',I r F' w'∧Sep.After F w F' w':=by
 have HL:=Za hL
 have HST:=Za hstep
 clear hL hstep
 induction k using Nat.strongRecOn with
 |_ k ih=>
 have IH:=Za ih
 clear ih
 intro A0 c0 l0 s r F w hr hc0 hB hs h
 cases k with
 |zero=>exact absurd h (by simp[impl_walk.f])
 |succ k=>
 simp only[impl_walk.f] at h
 have hu77:=Try.underlying80
 have HR:=Za hr
 have HC0:=Za hc0
 have HBW:=Za hB
 have HS:=Za hs
 have H':=Za h
 clear hr hc0 hB hs h
 go_enter Try.func51,Try.ntmps51
 go_wp2
 go_loopg [4] k (fun kq v4 w'=>∃(i:Int) (s':σ) (F':Nat→Prop),v4= .int .i64 i∧Aside0 (impl_walk.l0 step kq l0 i s'=some r)∧Aside0 (kq≤k)∧Aside0 (I s' F' w')∧Aside0 (Sep.After F w F' w'))
 case atStart=>exact⟨0,s,F,by first|rfl|(simp;done),H',⟨Nat.le_refl _⟩,HS,⟨Sep.After.refl _ _⟩⟩
 case round=>
  clear H' HS
  obtain⟨i,s',F',rfl,HA,HK1,HI,HAF⟩:=hrel
  cases gk with
  |zero=>exact absurd HA.out (by simp[impl_walk.l0])
  |succ k1=>
   have H:=HA.out
   clear HA
   simp only[impl_walk.l0] at H
   by_cases c1:i<(l0.length:Int)
   ·rw[if_pos c1] at H
    have c1b:decide (i<(l0.length:Int))=true:=Zx c1
    by_cases c2:0≤i
    ·rw[if_pos c2] at H
     obtain⟨ad,e,hx0,hx1,hx2,hx3,hx4,hx5⟩:=at_T80 (HR.out _ HAF.out.kept) i c2 c1
     cases e
     have p1:=eq_true c2
     have q1:=eq_true c1
     obtain⟨x,hx⟩:∃x,rd_T80 l0 i=x:=⟨_,rfl⟩
     rw[hx] at H hx0 hx1 hx2 hx3 hx4 hx5
     obtain⟨x0,x1,x2,x3,x4,x5⟩:=x
     simp only at H hx0 hx1 hx2 hx3 hx4 hx5
     by_cases c6:x0=6
     ·rw[if_pos c6] at H
      subst c6
      have H':=Za H
      clear H c1 c2 hx
      go_wp2_with (first|((with_reducible refine Zp (N:=5) rfl ?_);refine Zt ?hg (N:=5) ?hd (cs:= #[.int .i64 0,.int .i64 0,.int .i64 0,.int .i64 0,.int .i64 0,.int .i64 0]) (t:=80) ?hr ?_;(case hd=>rfl);(case hg=>rfl);(case hr=>exact z8_5);intro gb hg w2 hbox hb;have HB:=Za hb;have BK:=Za hbox;have GE:Aside0 (wr.heap.size≤gb):=⟨Nat.le_of_eq hg.symm⟩;obtain⟨⟨_,_,_,_,_,_⟩,⟨_,_,_,_,_,_⟩⟩:=Sep.blk6 hbox;clear hb hbox hg)|((with_reducible refine Yk (t:=80) (p:=5) rfl ?_);refine Yj (t:=80) (p:=5) (v:= ?vo_) (w1:=Sep.put6 w2 gb (.int .i64 6) (.int .i64 x1) (.int .i64 x2) (.int .i64 x3) (.int .i64 x4) (.int .i64 x5)) ?hg ?ho ?hn ?hr ?_;(case ho=>rfl);(case hg=>rfl);(case hn=>rfl);(case hr=>exact z8_5);intro w3 hw;have BK3:=Za (hw ▸ Sep.put6_blk BK.out (.int .i64 6) (.int .i64 x1) (.int .i64 x2) (.int .i64 x3) (.int .i64 x4) (.int .i64 x5));have HB3:=Za (hw ▸ Sep.put6_below HB.out GE.out (.int .i64 6) (.int .i64 x1) (.int .i64 x2) (.int .i64 x3) (.int .i64 x4) (.int .i64 x5));clear hw BK HB;obtain⟨⟨_,_,_,_,_,_⟩,⟨_,_,_,_,_,_⟩⟩:=Sep.blk6 BK3.out))
      go_roundg k1
      case measure=>have:=HK1.out;omega
      case rel=>exact⟨wrap64 (i+1),s',F',by first|rfl|(simp;done)|(simp[*];done),H',⟨by have:=HK1.out;omega⟩,⟨(HL.out s').below (Nat.le_trans HBW.out HAF.out.size) HI.out HB3.out⟩,⟨HAF.out.below HB3.out⟩⟩
     ·rw[if_neg c6] at H
      have c6b:(x0==6)=false:=beq_eq_false_iff_ne.mpr c6
      obtain⟨sb,A1,H1⟩:=Zl H
      obtain⟨s2,b⟩:=sb
      obtain⟨o,A2,H2⟩:=Zl H1
      have HA1:=Za A1
      have HA2:=Za A2
      have H3:=Za H2
      have HX:=Za hx
      clear hx c1 c2 c6 A1 A2 H H1 H2
      go_wp2_with (first|((with_reducible refine Zp (N:=5) rfl ?_);refine Zt ?hg (N:=5) ?hd (cs:= #[.int .i64 0,.int .i64 0,.int .i64 0,.int .i64 0,.int .i64 0,.int .i64 0]) (t:=80) ?hr ?_;(case hd=>rfl);(case hg=>rfl);(case hr=>exact z8_5);intro gb hg w2 hbox hb;have HB:=Za hb;have BK:=Za hbox;have GE:Aside0 (wr.heap.size≤gb):=⟨Nat.le_of_eq hg.symm⟩;obtain⟨⟨_,_,_,_,_,_⟩,⟨_,_,_,_,_,_⟩⟩:=Sep.blk6 hbox;clear hb hbox hg)|((with_reducible refine Yk (t:=80) (p:=5) rfl ?_);refine Yj (t:=80) (p:=5) (v:= ?vo_) (w1:=Sep.put6 w2 gb (.int .i64 x0) (.int .i64 x1) (.int .i64 x2) (.int .i64 x3) (.int .i64 x4) (.int .i64 x5)) ?hg ?ho ?hn ?hr ?_;(case ho=>rfl);(case hg=>rfl);(case hn=>rfl);(case hr=>exact z8_5);intro w3 hw;have BK3:=Za (hw ▸ Sep.put6_blk BK.out (.int .i64 x0) (.int .i64 x1) (.int .i64 x2) (.int .i64 x3) (.int .i64 x4) (.int .i64 x5));have HB3:=Za (hw ▸ Sep.put6_below HB.out GE.out (.int .i64 x0) (.int .i64 x1) (.int .i64 x2) (.int .i64 x3) (.int .i64 x4) (.int .i64 x5));clear hw BK HB;obtain⟨⟨_,_,_,_,_,_⟩,⟨_,_,_,_,_,_⟩⟩:=Sep.blk6 BK3.out))
      refine(HST.out s' ⟨x0,x1,x2,⟨x3,x4,x5⟩⟩ s2 b F' w3 (Nat.le_trans HBW.out (HAF.out.below HB3.out).size) HA1.out ((HL.out s').below (Nat.le_trans HBW.out HAF.out.size) HI.out HB3.out)).mono ?_
      rintro e w4 ⟨rfl,F2,hI2,hA2⟩
      have HI2:=Za hI2
      have NF:Aside0 (¬F' gb):=⟨fun h=>absurd ((HL.out s').lt HI.out gb h).2 (Nat.not_lt.mpr GE.out)⟩
      have BK4:=Za (hA2.blk BK3.out NF.out)
      have NF2:=Za (hA2.out BK3.out NF.out)
      have HA4:=Za ((HAF.out.below HB3.out).trans hA2)
      clear hI2 hA2 BK3 NF
      obtain⟨⟨_,_,_,_,_,_⟩,⟨_,_,_,_,_,_⟩⟩:=Sep.blk6 BK4.out
      cases o with
      |false=>
       have H4:=H3.out
       rw[if_neg (by simp)] at H4
       have H':=Za H4
       clear H4 H3
       go_wp2_with (go_at_call 72;(with_reducible refine(impl_isOpening.calls _ _ _ HA2.out).mono ?_);rintro e w' ⟨rfl,⟨nd,rfl⟩⟩)
       go_roundg k1
       case measure=>have:=HK1.out;omega
       case rel=>exact⟨wrap64 (i+1),s2,F2,by first|rfl|(simp;done)|(simp[*];done),H',⟨by have:=HK1.out;omega⟩,⟨(HL.out s2).below (Nat.le_trans HBW.out HA4.out.size) HI2.out (by repeat(first|exact Yh _ _|apply Zf))⟩,⟨HA4.out.below (by repeat(first|exact Yh _ _|apply Zf))⟩⟩
      |true=>
       have H4:=H3.out
       rw[if_pos rfl] at H4
       obtain⟨en,A3,H5⟩:=Zl H4
       obtain⟨n,A4,H6⟩:=Zl H5
       by_cases c7:0≤wrap64 (i+1)∧wrap64 (i+1)≤en∧en≤(l0.length:Int)∧n≤9223372036854775807
       ·rw[if_pos c7] at H6
        obtain⟨s3,A5,H7⟩:=Zl H6
        have H':=Za H7
        have HA3:=Za A3
        have HA5:=Za A5
        have HN:Aside0 (((x0==4)=true∧impl_bit.f b=some n)∨((x0==4)=false∧n=x2∧True)):=by
         by_cases c4:x0=4
         ·rw[if_pos c4] at A4
          exact⟨.inl ⟨beq_iff_eq.mpr c4,A4⟩⟩
         ·rw[if_neg c4] at A4
          exact⟨.inr ⟨beq_eq_false_iff_ne.mpr c4,(Zk A4).symm,trivial⟩⟩
        clear H4 H3 H5 H6 H7 A3 A4 A5
        obtain⟨ji,hji⟩:∃ji,wrap64 (i+1)=ji:=⟨_,rfl⟩
        rw[hji] at c7
        replace HA5:Aside0 (walkRep (fun s'=>impl_walk.f step k1 ((l0.take en.toNat).drop ji.toNat) s') n.toNat s2=some s3):=by rw[←hji];exact HA5
        obtain⟨y,hy⟩:∃y,(l0.take en.toNat).drop ji.toNat=y:=⟨_,rfl⟩
        rw[hy] at HA5
        obtain⟨i0,hi0,hsz0⟩:=Option.map_eq_some_iff.mp (show(Try.prog.info? 80).map (·.size)=some 6 by kernel_rfl)
        have hcut:=cut_mid (P:=Try.prog) 60 80 .i64 .i64 Try.underlying60 hi0 6 hsz0 (some ad) l0.length c0 ji en c7.1 c7.2.1 c7.2.2.1 HC0.out
        obtain⟨A',hA'⟩:∃A',(if c0=ji.toNat then (some ad) else ((some ad):Option Addr).map (·.add (ji.toNat*6)))=A':=⟨_,rfl⟩
        obtain⟨c',hc'⟩:∃c',c0 - ji.toNat=c':=⟨_,rfl⟩
        have hyl:en.toNat - ji.toNat=y.length:=by rw[←hy,List.length_drop,List.length_take];omega
        rw[hA',hc',hyl] at hcut
        have HRy:Aside0 (∀w',Kept w w' F→Kd.C k80 w' A' y.length y):=⟨fun w' hk=>by
         have:=Kd.C_mid (HR.out w' hk) (lo:=ji.toNat) (hi:=en.toNat) (c:=c0) (by omega) (by omega) HC0.out
         rw[hy] at this
         rw[←hA']
         exact this⟩
        have HCy:Aside0 (y.length≤c'):=⟨by have:=HC0.out;omega⟩
        have hjiw:IntKind.i64.wrap (i+1)=ji:=(i64_w _).trans hji
        have HNB:=Za c7.2.2.2
        clear hy hyl hA' hc' c7 hi0 hsz0
        rcases HN.out with⟨c4b,A4⟩|⟨c4b,rfl,A4⟩
        all_goals
         have HA4':=Za A4
         clear A4 HN
         go_wp2_with (first|(go_at_call 72;(with_reducible refine(impl_isOpening.calls _ _ _ HA2.out).mono ?_);rintro e w' ⟨rfl,⟨nd,rfl⟩⟩)|(go_at_call 73;(with_reducible refine(impl_endOf.calls k1 _ _ l0 i en _ ?sd1 HC0.out HA3.out).mono ?_);(case sd1=>exact HR.out _ (Kept.drewN HA4.out.kept _));rintro e w' ⟨rfl,⟨nd,rfl⟩⟩)|(go_at_call 74;(with_reducible refine(impl_bit.calls _ _ _ HA4'.out).mono ?_);rintro e w' ⟨rfl,⟨nd,rfl⟩⟩))
         go_loopg [40] n.toNat (fun kq v40 w'=>∃(j:Int) (sj:σ) (Fj:Nat→Prop),v40= .int .i64 j∧Aside0 (0≤j∧j+(kq:Int)=(n.toNat:Int))∧Aside0 (walkRep (fun s'=>impl_walk.f step k1 y s') kq sj=some s3)∧Aside0 (I sj Fj w')∧Aside0 (Sep.After F w Fj w'))
         case atStart=>exact⟨0,s2,F2,by first|rfl|(simp;done),⟨by omega,by omega⟩,HA5,⟨(HL.out s2).below (Nat.le_trans HBW.out HA4.out.size) HI2.out (by repeat(first|exact Yh _ _|apply Zf))⟩,⟨HA4.out.below (by repeat(first|exact Yh _ _|apply Zf))⟩⟩
         case round=>
          clear HA5 HI2 HA4
          obtain⟨j,sj,Fj,rfl,HJ,HWJ,HIJ,HAJ⟩:=hrel
          by_cases cj:j<n
          ·have cjb:decide (j<n)=true:=Zx cj
           have hw1:wrap64 (j+1)=j+1:=by have:=HJ.out;have:=HNB.out;unfold wrap64;omega
           cases gk with
           |zero=>have:=HJ.out;omega
           |succ k2=>
            obtain⟨s4,A6,A7⟩:=Zl HWJ.out
            have HA6:=Za A6
            have HA7:=Za A7
            have HW:=Za hw1
            have CJ:=Za cj
            clear A6 A7 hw1 cj HWJ
            go_wp2_with (go_at_call 51;(with_reducible refine(IH.out k1 ?sd1 A' c' y sj s4 Fj _ ?sd2 HCy.out (Nat.le_trans HBW.out HAJ.out.size) HIJ.out HA6.out).mono ?_);(case sd1=>have:=HK1.out;omega);(case sd2=>exact fun w' hk=>HRy.out w' (HAJ.out.kept.then_ hk HAJ.out.sub));rintro e w6 ⟨rfl,F6,hI6,hA6⟩;have HI6:=Za hI6;have HA6':=Za (HAJ.out.trans hA6);clear hI6 hA6)
            go_roundg k2
            case measure=>omega
            case rel=>exact⟨j+1,s4,F6,by first|rfl|(rw[HW.out];done)|(simp[HW.out];done),⟨by have:=HJ.out;omega,by have:=HJ.out;omega⟩,HA7,HI6,HA6'⟩
          ·have cjb:decide (j<n)=false:=Yi cj
           have hk0:gk=0:=by have:=HJ.out;omega
           subst hk0
           obtain rfl:=Zk HWJ.out
           clear cj HWJ
           go_wp2
           go_roundg k1
           case measure=>have:=HK1.out;omega
           case rel=>exact⟨wrap64 (en+1),sj,Fj,by first|rfl|(simp;done)|(simp[*];done),H',⟨by have:=HK1.out;omega⟩,HIJ,HAJ⟩
       ·rw[if_neg c7] at H6
        exact absurd H6 (by simp)
    ·rw[if_neg c2] at H
     exact absurd H (by simp)
   ·rw[if_neg c1] at H
    have c1b:decide (i<(l0.length:Int))=false:=Yi c1
    obtain rfl:=Zk H
    clear H c1
    go_wp2
    go_end0
    exact⟨rfl,F',HI.out,HAF.out⟩
def impl_Clamp.f (a0:Int) (a1:Int) (a2:Int):Option (Int):=if a2<a1 then (some a1) else (some (mn (mx a0 a1) a2))
set_option maxHeartbeats 8000000 in
set_option maxRecDepth 100000 in
theorem impl_Clamp.calls (a0:Int) (a1:Int) (a2:Int) (r:Int) (w:World) (h:impl_Clamp.f a0 a1 a2=some r):
  Calls Try.prog 95 #[.int .i64 a0,.int .i64 a1,.int .i64 a2] w fun e w'=>e= .returned (.int .i64 r)∧Drawn0 w w':=by
 have H:(if a2<a1 then (some a1) else (some (mn (mx a0 a1) a2)))=some r:=h
 clear h
 by_cases c4:a2<a1
 ·rw[if_pos c4] at H
  have c4b0:decide (a2<a1)=true:=Zx c4
  clear c4
  obtain rfl:=Zk H
  go_enter Try.func95,Try.ntmps95
  go_wp2
  go_ret
  exact⟨by first|rfl|(simp;done)|(simp[*];done),by repeat(first|exact Zz _|apply Ya)⟩
 ·rw[if_neg c4] at H
  have c4b0:decide (a2<a1)=false:=Yi c4
  clear c4
  obtain⟨ji5,hji5⟩:∃j_:Int,(mx a0 a1)=j_:=⟨_,rfl⟩
  replace H:(some (mn (ji5) a2))=some r:=by first|(rw[hji5] at H;exact H)|(simp only[hji5] at H ⊢;exact H)
  have hji5_:(if a0<a1 then a1 else a0)=ji5:=hji5
  obtain⟨ji6,hji6⟩:∃j_:Int,(mn (ji5) a2)=j_:=⟨_,rfl⟩
  replace H:(some ji6)=some r:=by first|(rw[hji6] at H;exact H)|(simp only[hji6] at H ⊢;exact H)
  have hji6_:(if a2<(ji5) then a2 else (ji5))=ji6:=hji6
  obtain rfl:=Zk H
  go_enter Try.func95,Try.ntmps95
  go_wp2
  go_ret
  exact⟨by first|rfl|(simp;done)|(simp only[←hji5,←hji6]<;>(first|rfl|simp))|(simp[*];done),by repeat(first|exact Zz _|apply Ya)⟩
def impl_Saturate.f (a0:Int):Option (Int):=(impl_Clamp.f a0 (-1000000) 1000000).bind fun t273=>(some t273)
set_option maxHeartbeats 8000000 in
set_option maxRecDepth 100000 in
theorem impl_Saturate.calls (a0:Int) (r:Int) (w:World) (h:impl_Saturate.f a0=some r):
  Calls Try.prog 87 #[.int .i64 a0] w fun e w'=>e= .returned (.int .i64 r)∧Drawn0 w w':=by
 have H:((impl_Clamp.f a0 (-1000000) 1000000).bind fun t273=>(some t273))=some r:=h
 clear h
 replace H:=Zl H
 obtain⟨t273,A20,H⟩:=H
 replace H:(some t273)=some r:=H
 have A2:=Za A20
 clear A20
 obtain rfl:=Zk H
 go_enter Try.func87,Try.ntmps87
 go_wp2_with (first|((first|((with_reducible refine gate_callee (f:=95) rfl ?_);refine goesL_ (some 4) rfl rfl Try.func95 (by kernel_rfl) rfl #[.int .i64 a0,.int .i64 (-1000000),.int .i64 1000000] rfl z8_2 ?_;(with_reducible refine(impl_Clamp.calls a0 (-1000000) 1000000 t273 _ A2.out).mono ?_))|(go_at_call 95;(with_reducible refine(impl_Clamp.calls a0 (-1000000) 1000000 t273 _ A2.out).mono ?_)));rintro e w' ⟨rfl,⟨nd,rfl⟩⟩;(first|refine⟨_,rfl,?_⟩|skip)))
 go_ret
 exact⟨by first|rfl|(simp;done)|(simp[*];done),by repeat(first|exact Zz _|apply Ya)⟩
def impl_AddValues.f (a0:Int) (a1:Int):Option (Int):=(impl_Saturate.f a0).bind fun t274=>((impl_Saturate.f a1).bind fun t275=>((impl_Saturate.f (wrap64 (t274+t275))).bind fun t276=>(some t276)))
set_option maxHeartbeats 8000000 in
set_option maxRecDepth 100000 in
theorem impl_AddValues.calls (a0:Int) (a1:Int) (r:Int) (w:World) (h:impl_AddValues.f a0 a1=some r):
  Calls Try.prog 62 #[.int .i64 a0,.int .i64 a1] w fun e w'=>e= .returned (.int .i64 r)∧Drawn0 w w':=by
 have H:((impl_Saturate.f a0).bind fun t274=>((impl_Saturate.f a1).bind fun t275=>((impl_Saturate.f (wrap64 (t274+t275))).bind fun t276=>(some t276))))=some r:=h
 clear h
 replace H:=Zl H
 obtain⟨t274,A30,H⟩:=H
 replace H:((impl_Saturate.f a1).bind fun t275=>((impl_Saturate.f (wrap64 (t274+t275))).bind fun t276=>(some t276)))=some r:=H
 have A3:=Za A30
 clear A30
 replace H:=Zl H
 obtain⟨t275,A40,H⟩:=H
 replace H:((impl_Saturate.f (wrap64 (t274+t275))).bind fun t276=>(some t276))=some r:=H
 have A4:=Za A40
 clear A40
 replace H:=Zl H
 obtain⟨t276,A50,H⟩:=H
 replace H:(some t276)=some r:=H
 have A5:=Za A50
 clear A50
 obtain rfl:=Zk H
 go_enter Try.func62,Try.ntmps62
 go_wp2_with (first|((first|((with_reducible refine gate_callee (f:=87) rfl ?_);refine goesL_ (some 6) rfl rfl Try.func87 (by kernel_rfl) rfl #[.int .i64 a0] rfl z8_2 ?_;(with_reducible refine(impl_Saturate.calls a0 t274 _ A3.out).mono ?_))|(go_at_call 87;(with_reducible refine(impl_Saturate.calls a0 t274 _ A3.out).mono ?_)));rintro e w' ⟨rfl,⟨nd,rfl⟩⟩;(first|refine⟨_,rfl,?_⟩|skip))|((first|((with_reducible refine gate_callee (f:=87) rfl ?_);refine goesL_ (some 8) rfl rfl Try.func87 (by kernel_rfl) rfl #[.int .i64 a1] rfl z8_2 ?_;(with_reducible refine(impl_Saturate.calls a1 t275 _ A4.out).mono ?_))|(go_at_call 87;(with_reducible refine(impl_Saturate.calls a1 t275 _ A4.out).mono ?_)));rintro e w' ⟨rfl,⟨nd,rfl⟩⟩;(first|refine⟨_,rfl,?_⟩|skip))|((first|((with_reducible refine gate_callee (f:=87) rfl ?_);refine goesL_ (some 10) rfl rfl Try.func87 (by kernel_rfl) rfl #[.int .i64 (wrap64 (t274+t275))] rfl z8_2 ?_;(with_reducible refine(impl_Saturate.calls (wrap64 (t274+t275)) t276 _ A5.out).mono ?_))|(go_at_call 87;(with_reducible refine(impl_Saturate.calls (wrap64 (t274+t275)) t276 _ A5.out).mono ?_)));rintro e w' ⟨rfl,⟨nd,rfl⟩⟩;(first|refine⟨_,rfl,?_⟩|skip)))
 go_ret
 exact⟨by first|rfl|(simp;done)|(simp[*];done),by repeat(first|exact Zz _|apply Ya)⟩
end Go.Proofs.Ytlolppaddphpoaa.G
