/- Functions of the program as plain Lean functions, and that each call comes to its function's answer; written by a program of the session. No condition. -/
import Derived.Test.YtlolppaddphpoaaGx0
namespace Go.Proofs.Ytlolppaddphpoaa.G
open Go.RowKit Go.Proofs.YtlolppaddphpoaaW.PrintWords Go.Proofs.YtlolppaddphpoaaW.PrintLast Go.Proofs.YtlolppaddphpoaaW.PrintMore
attribute [local go_sem] max2_int min2_int max_two min_two max_three min_three max_four min_four   -- for this text's walks alone
set_option linter.unusedVariables false
set_option linter.unusedSimpArgs false
theorem z3_0 {P:Prop} (h:P:=by repeat(first|(with_reducible first|exact HB.out|apply Zh|apply Zf|apply Ze)|exact HB.out)):P:=h
theorem z3_1 {P:Prop} (h:P:=by rw[hw];exact(by(with_reducible repeat(first|refine blk_drewN ?_ _|refine blk_drew ?_|refine blk_alloc ?_ _));refine blk_put (cs:= #[.int .i64 a0_0,.int .i64 0,.int .i64 0,.int .i64 0,.int .i64 0,.int .i64 0]) ?_ 5 _ rfl;(with_reducible repeat(first|refine blk_drewN ?_ _|refine blk_drew ?_|refine blk_alloc ?_ _));refine blk_put (cs:= #[.int .i64 a0_0,.int .i64 0,.int .i64 0,.int .i64 0,.int .i64 0,.int .i64 0]) ?_ 4 _ rfl;(with_reducible repeat(first|refine blk_drewN ?_ _|refine blk_drew ?_|refine blk_alloc ?_ _));refine blk_put (cs:= #[.int .i64 a0_0,.int .i64 0,.int .i64 0,.int .i64 0,.int .i64 0,.int .i64 0]) ?_ 3 _ rfl;(with_reducible repeat(first|refine blk_drewN ?_ _|refine blk_drew ?_|refine blk_alloc ?_ _));refine blk_put (cs:= #[.int .i64 a0_0,.int .i64 0,.int .i64 0,.int .i64 0,.int .i64 0,.int .i64 0]) ?_ 2 _ rfl;(with_reducible repeat(first|refine blk_drewN ?_ _|refine blk_drew ?_|refine blk_alloc ?_ _));refine blk_put (cs:= #[.int .i64 a0_0,.int .i64 0,.int .i64 0,.int .i64 0,.int .i64 0,.int .i64 0]) ?_ 1 _ rfl;(with_reducible repeat(first|refine blk_drewN ?_ _|refine blk_drew ?_|refine blk_alloc ?_ _));refine blk_put (cs:= #[.int .i64 0,.int .i64 0,.int .i64 0,.int .i64 0,.int .i64 0,.int .i64 0]) ?_ 0 _ rfl;(with_reducible repeat(first|refine blk_drewN ?_ _|refine blk_drew ?_|refine blk_alloc ?_ _));exact BK114.out)):P:=h
theorem z3_2 {P:Prop} (h:P:=by rw[hw];exact(by repeat(first|(with_reducible first|exact HB.out|apply Zh|apply Zf|apply Ze|refine Zd ?_ GE112.out|refine Zd ?_ GE113.out|refine Zd ?_ GE114.out)|exact HB.out))):P:=h
theorem z3_3 {P:Prop} (h:P:=by(with_reducible repeat(first|refine blk_drewN ?_ _|refine blk_drew ?_|refine blk_alloc ?_ _));exact BK112.out):P:=h
theorem z3_4 {P:Prop} (h:P:=by rw[hw];exact(by(with_reducible repeat(first|refine blk_drewN ?_ _|refine blk_drew ?_|refine blk_alloc ?_ _));refine blk_far ?_ NB113_114.out _;(with_reducible repeat(first|refine blk_drewN ?_ _|refine blk_drew ?_|refine blk_alloc ?_ _));refine blk_far ?_ NB113_114.out _;(with_reducible repeat(first|refine blk_drewN ?_ _|refine blk_drew ?_|refine blk_alloc ?_ _));refine blk_far ?_ NB113_114.out _;(with_reducible repeat(first|refine blk_drewN ?_ _|refine blk_drew ?_|refine blk_alloc ?_ _));refine blk_far ?_ NB113_114.out _;(with_reducible repeat(first|refine blk_drewN ?_ _|refine blk_drew ?_|refine blk_alloc ?_ _));refine blk_far ?_ NB113_114.out _;(with_reducible repeat(first|refine blk_drewN ?_ _|refine blk_drew ?_|refine blk_alloc ?_ _));refine blk_far ?_ NB113_114.out _;(with_reducible repeat(first|refine blk_drewN ?_ _|refine blk_drew ?_|refine blk_alloc ?_ _));exact BK113.out)):P:=h
theorem z3_5 {P:Prop} (h:P:=by rw[hw];exact(by(with_reducible repeat(first|refine blk_drewN ?_ _|refine blk_drew ?_|refine blk_alloc ?_ _));refine blk_far ?_ NB112_114.out _;(with_reducible repeat(first|refine blk_drewN ?_ _|refine blk_drew ?_|refine blk_alloc ?_ _));refine blk_far ?_ NB112_114.out _;(with_reducible repeat(first|refine blk_drewN ?_ _|refine blk_drew ?_|refine blk_alloc ?_ _));refine blk_far ?_ NB112_114.out _;(with_reducible repeat(first|refine blk_drewN ?_ _|refine blk_drew ?_|refine blk_alloc ?_ _));refine blk_far ?_ NB112_114.out _;(with_reducible repeat(first|refine blk_drewN ?_ _|refine blk_drew ?_|refine blk_alloc ?_ _));refine blk_far ?_ NB112_114.out _;(with_reducible repeat(first|refine blk_drewN ?_ _|refine blk_drew ?_|refine blk_alloc ?_ _));refine blk_far ?_ NB112_114.out _;(with_reducible repeat(first|refine blk_drewN ?_ _|refine blk_drew ?_|refine blk_alloc ?_ _));exact BK112.out)):P:=h
theorem z3_6 {P:Prop} (h:P:=by repeat(first|(with_reducible first|exact HB.out|apply Zh|apply Zf|apply Ze|refine Zd ?_ GE112.out|refine Zd ?_ GE113.out)|exact HB.out)):P:=h
theorem z3_7 {P:Prop} (h:P:=by(with_reducible repeat(first|refine blk_drewN ?_ _|refine blk_drew ?_|refine blk_alloc ?_ _));exact BK113.out):P:=h
theorem z3_8 {P:Prop} (h:P:=by repeat(first|(with_reducible first|exact HB.out|apply Zh|apply Zf|apply Ze|refine Zd ?_ GE112.out)|exact HB.out)):P:=h
theorem z3_9 {P:Prop} (h:P:=by(try simp only[List.map_toArray,List.map_cons,List.map_nil]);first|done|rfl|(simp only[List.length_drop,List.length_take];rfl)):P:=h
theorem z3_10 {P:Prop} (h:P:=by rw[hw];exact(by(with_reducible repeat(first|refine blk_drewN ?_ _|refine blk_drew ?_|refine blk_alloc ?_ _));refine blk_far ?_ NB114_113.out _;(with_reducible repeat(first|refine blk_drewN ?_ _|refine blk_drew ?_|refine blk_alloc ?_ _));refine blk_far ?_ NB114_113.out _;(with_reducible repeat(first|refine blk_drewN ?_ _|refine blk_drew ?_|refine blk_alloc ?_ _));refine blk_far ?_ NB114_113.out _;(with_reducible repeat(first|refine blk_drewN ?_ _|refine blk_drew ?_|refine blk_alloc ?_ _));refine blk_far ?_ NB114_113.out _;(with_reducible repeat(first|refine blk_drewN ?_ _|refine blk_drew ?_|refine blk_alloc ?_ _));refine blk_far ?_ NB114_113.out _;(with_reducible repeat(first|refine blk_drewN ?_ _|refine blk_drew ?_|refine blk_alloc ?_ _));refine blk_far ?_ NB114_113.out _;(with_reducible repeat(first|refine blk_drewN ?_ _|refine blk_drew ?_|refine blk_alloc ?_ _));exact BK114.out)):P:=h
theorem z3_11 {P:Prop} (h:P:=by rw[hw];exact(by(with_reducible repeat(first|refine blk_drewN ?_ _|refine blk_drew ?_|refine blk_alloc ?_ _));refine blk_far ?_ NB112_113.out _;(with_reducible repeat(first|refine blk_drewN ?_ _|refine blk_drew ?_|refine blk_alloc ?_ _));refine blk_far ?_ NB112_113.out _;(with_reducible repeat(first|refine blk_drewN ?_ _|refine blk_drew ?_|refine blk_alloc ?_ _));refine blk_far ?_ NB112_113.out _;(with_reducible repeat(first|refine blk_drewN ?_ _|refine blk_drew ?_|refine blk_alloc ?_ _));refine blk_far ?_ NB112_113.out _;(with_reducible repeat(first|refine blk_drewN ?_ _|refine blk_drew ?_|refine blk_alloc ?_ _));refine blk_far ?_ NB112_113.out _;(with_reducible repeat(first|refine blk_drewN ?_ _|refine blk_drew ?_|refine blk_alloc ?_ _));refine blk_far ?_ NB112_113.out _;(with_reducible repeat(first|refine blk_drewN ?_ _|refine blk_drew ?_|refine blk_alloc ?_ _));exact BK112.out)):P:=h
theorem z3_12 {P:Prop} (h:P:=by first|(go_simp;done)|(go_simp;rfl)):P:=h
theorem z3_13 {P:Prop} (h:P:=by repeat(first|exact(Yg HR0_0.out HB.out)|(with_reducible refine Yc ?_ _)|(with_reducible refine Yd ?_ _)|(with_reducible refine Ye ?_))):P:=h
theorem z3_14 {P:Prop} (h:P:=by first|rfl|(simp;done)|(simp[*];done)):P:=h
theorem z3_15 {P:Prop} (h:P:=by rw[hg];exact Nat.ne_of_lt (blk_lt (g:=gb112) (o:= .cells #[.int .i64 a0_0,.int .i64 a0_1,.int .i64 a0_2,.int .i64 a0_3,.int .i64 a0_4,.int .i64 a0_5] 80 (0,0)) z3_3)):P:=h
theorem z3_16 {P:Prop} (h:P:=by rw[hg];exact Nat.ne_of_gt (blk_lt (g:=gb112) (o:= .cells #[.int .i64 a0_0,.int .i64 a0_1,.int .i64 a0_2,.int .i64 a0_3,.int .i64 a0_4,.int .i64 a0_5] 80 (0,0)) z3_3)):P:=h
theorem z3_17 {P:Prop} (h:P:=by rw[hg];exact(Zy z3_0)):P:=h
theorem z3_18 {P:Prop} (h:P:=by rw[hg];exact Nat.ne_of_lt (blk_lt (g:=gb113) (o:= .cells #[.int .i64 0,.int .i64 0,.int .i64 0,.int .i64 0,.int .i64 0,.int .i64 0] 80 (0,0)) z3_7)):P:=h
theorem z3_19 {P:Prop} (h:P:=by rw[hg];exact Nat.ne_of_gt (blk_lt (g:=gb113) (o:= .cells #[.int .i64 0,.int .i64 0,.int .i64 0,.int .i64 0,.int .i64 0,.int .i64 0] 80 (0,0)) z3_7)):P:=h
def laws_szStmtS.f (l0:List (S99)) (a1:Int):Option (Int):=if (wrap64 (a1 - (l0.length:Int)))<0 then (some (-1)) else (some (wrap64 (a1 - (l0.length:Int))))
set_option maxHeartbeats 8000000 in
set_option maxRecDepth 100000 in
theorem laws_szStmtS.calls (A0:Option Addr) (c0:Nat) (l0:List (S99)) (a1:Int) (r:Int) (w:World) (hr0:Kd.C k99 w A0 l0.length l0) (hc0:l0.length≤c0) (h:laws_szStmtS.f l0 a1=some r):
  Calls Try.prog 63 #[.slice A0 l0.length c0,.int .i64 a1] w fun e w'=>e= .returned (.int .i64 r)∧Drawn0 w w':=by
 have HR0:=Za hr0
 have HC0:=Za hc0
 clear hr0 hc0
 have H:(if (wrap64 (a1 - (l0.length:Int)))<0 then (some (-1)) else (some (wrap64 (a1 - (l0.length:Int)))))=some r:=h
 clear h
 by_cases c3:(wrap64 (a1 - (l0.length:Int)))<0
 ·rw[if_pos c3] at H
  have c3b0:decide ((wrap64 (a1 - (l0.length:Int)))<0)=true:=Zx c3
  clear c3
  obtain rfl:=Zk H
  go_enter Try.func63,Try.ntmps63
  go_wp2
  go_ret
  exact⟨by first|rfl|(simp;done)|(simp[*];done),by repeat(first|exact Zz _|apply Ya)⟩
 ·rw[if_neg c3] at H
  have c3b0:decide ((wrap64 (a1 - (l0.length:Int)))<0)=false:=Yi c3
  clear c3
  obtain rfl:=Zk H
  go_enter Try.func63,Try.ntmps63
  go_wp2
  go_ret
  exact⟨by first|rfl|(simp;done)|(simp[*];done),by repeat(first|exact Zz _|apply Ya)⟩
def laws_szTask.f (l0_0:List (S99)) (a0_1:Int) (a0_2:Int) (a0_3:Int) (a1:Int):Option (Int):=(laws_szStmtS.f l0_0 a1).bind fun t102=>(if t102<0 then (some (-1)) else (some t102))
set_option maxHeartbeats 8000000 in
set_option maxRecDepth 100000 in
theorem laws_szTask.calls (A0_0:Option Addr) (c0_0:Nat) (l0_0:List (S99)) (a0_1:Int) (a0_2:Int) (a0_3:Int) (a1:Int) (r:Int) (w:World) (hr0_0:Kd.C k99 w A0_0 l0_0.length l0_0) (hc0_0:l0_0.length≤c0_0) (h:laws_szTask.f l0_0 a0_1 a0_2 a0_3 a1=some r):
  Calls Try.prog 39 #[.agg #[.slice A0_0 l0_0.length c0_0,.int .i64 a0_1,.int .i64 a0_2,.int .i64 a0_3],.int .i64 a1] w fun e w'=>e= .returned (.int .i64 r)∧Below w.heap.size w w':=by
 have hu71:=Try.underlying71
 have HR0_0:=Za hr0_0
 have HC0_0:=Za hc0_0
 clear hr0_0 hc0_0
 have HB:=Za (Yh w.heap.size w)
 have H:((laws_szStmtS.f l0_0 a1).bind fun t102=>(if t102<0 then (some (-1)) else (some t102)))=some r:=h
 clear h
 replace H:=Zl H
 obtain⟨t102,A30,H⟩:=H
 replace H:(if t102<0 then (some (-1)) else (some t102))=some r:=H
 have A3:=Za A30
 clear A30
 by_cases c4:t102<0
 ·rw[if_pos c4] at H
  have c4b0:decide (t102<0)=true:=Zx c4
  clear c4
  obtain rfl:=Zk H
  go_enter Try.func39,Try.ntmps39
  go_wp2_with (first|((with_reducible refine Zp (N:=2) rfl ?_);refine Zt ?hg (N:=2) ?hd (cs:= #[.slice A0_0 l0_0.length c0_0,.int .i64 a0_1,.int .i64 a0_2,.int .i64 a0_3]) (t:=71) ?hr ?_;(case hd=>rfl);(case hg=>rfl);(case hr=>exact z3_12);intro gb101 hg w5 hbox hb;have BK101:=Za (hbox);have GW101:=Za ((z3_17:w.heap.size≤gb101));have GE101:=Za ((z3_17:w.heap.size≤gb101));replace HB:=Za (Zj z3_0 hb);clear hb hbox hg;have hcz6_0:w5.cell? ⟨gb101,0,none⟩=some (.slice A0_0 l0_0.length c0_0):=(Zb BK101.out 0).trans rfl;have hcz6_1:w5.cell? ⟨gb101,1,none⟩=some (.int .i64 a0_1):=(Zb BK101.out 1).trans rfl;have hcz6_2:w5.cell? ⟨gb101,2,none⟩=some (.int .i64 a0_2):=(Zb BK101.out 2).trans rfl;have hcz6_3:w5.cell? ⟨gb101,3,none⟩=some (.int .i64 a0_3):=(Zb BK101.out 3).trans rfl;have hfz6_0:=Zc BK101.out 0;have hfz6_1:=Zc BK101.out 1;have hfz6_2:=Zc BK101.out 2;have hfz6_3:=Zc BK101.out 3)|((first|((with_reducible refine gate_callee (f:=63) rfl ?_);refine goesL_ (some 8) rfl rfl Try.func63 (by kernel_rfl) rfl #[.slice A0_0 l0_0.length c0_0,.int .i64 a1] rfl z3_9 ?_;(with_reducible refine(laws_szStmtS.calls _ _ l0_0 a1 t102 _ ?side1 ?side2 A3.out).mono ?_))|(go_at_call 63;(with_reducible refine(laws_szStmtS.calls _ _ l0_0 a1 t102 _ ?side1 ?side2 A3.out).mono ?_)));(case side1=>exact z3_13);(case side2=>exact HC0_0.out);rintro e w' ⟨rfl,⟨nd,rfl⟩⟩;(first|refine⟨_,rfl,?_⟩|skip)))
  go_ret
  exact⟨by first|rfl|(simp[errW_none,errW_some]<;>rfl)|(simp[*,errW_none,errW_some]<;>rfl)|(simp[*,errW_none,errW_some,i64_w];done),by repeat(first|(with_reducible first|exact HB.out|apply Zh|apply Zf|apply Ze|refine Zd ?_ GE101.out)|exact HB.out)⟩
 ·rw[if_neg c4] at H
  have c4b0:decide (t102<0)=false:=Yi c4
  clear c4
  obtain rfl:=Zk H
  go_enter Try.func39,Try.ntmps39
  go_wp2_with (first|((with_reducible refine Zp (N:=2) rfl ?_);refine Zt ?hg (N:=2) ?hd (cs:= #[.slice A0_0 l0_0.length c0_0,.int .i64 a0_1,.int .i64 a0_2,.int .i64 a0_3]) (t:=71) ?hr ?_;(case hd=>rfl);(case hg=>rfl);(case hr=>exact z3_12);intro gb101 hg w7 hbox hb;have BK101:=Za (hbox);have GW101:=Za ((z3_17:w.heap.size≤gb101));have GE101:=Za ((z3_17:w.heap.size≤gb101));replace HB:=Za (Zj z3_0 hb);clear hb hbox hg;have hcz8_0:w7.cell? ⟨gb101,0,none⟩=some (.slice A0_0 l0_0.length c0_0):=(Zb BK101.out 0).trans rfl;have hcz8_1:w7.cell? ⟨gb101,1,none⟩=some (.int .i64 a0_1):=(Zb BK101.out 1).trans rfl;have hcz8_2:w7.cell? ⟨gb101,2,none⟩=some (.int .i64 a0_2):=(Zb BK101.out 2).trans rfl;have hcz8_3:w7.cell? ⟨gb101,3,none⟩=some (.int .i64 a0_3):=(Zb BK101.out 3).trans rfl;have hfz8_0:=Zc BK101.out 0;have hfz8_1:=Zc BK101.out 1;have hfz8_2:=Zc BK101.out 2;have hfz8_3:=Zc BK101.out 3)|((first|((with_reducible refine gate_callee (f:=63) rfl ?_);refine goesL_ (some 8) rfl rfl Try.func63 (by kernel_rfl) rfl #[.slice A0_0 l0_0.length c0_0,.int .i64 a1] rfl z3_9 ?_;(with_reducible refine(laws_szStmtS.calls _ _ l0_0 a1 t102 _ ?side1 ?side2 A3.out).mono ?_))|(go_at_call 63;(with_reducible refine(laws_szStmtS.calls _ _ l0_0 a1 t102 _ ?side1 ?side2 A3.out).mono ?_)));(case side1=>exact z3_13);(case side2=>exact HC0_0.out);rintro e w' ⟨rfl,⟨nd,rfl⟩⟩;(first|refine⟨_,rfl,?_⟩|skip)))
  go_ret
  exact⟨by first|rfl|(simp[errW_none,errW_some]<;>rfl)|(simp[*,errW_none,errW_some]<;>rfl)|(simp[*,errW_none,errW_some,i64_w];done),by repeat(first|(with_reducible first|exact HB.out|apply Zh|apply Zf|apply Ze|refine Zd ?_ GE101.out)|exact HB.out)⟩
def laws_szTaskS.l0:Nat→List (S71)→Int→Int→Option (Int)
 |0,_,_,_=>none
 |k+1,x0,x1,x5=>if x5<(x0.length:Int) then (if 0≤x5 then ((laws_szTask.f ((rd_T71 x0 x5).f0) ((rd_T71 x0 x5).f1.f0) ((rd_T71 x0 x5).f1.f1) ((rd_T71 x0 x5).f1.f2) x1).bind fun t104=>(if t104<0 then (some (-1)) else (laws_szTaskS.l0 k x0 t104 (wrap64 (x5+1))))) else (none)) else (some x1)
def laws_szTaskS.f (k:Nat) (l0:List (S71)) (a1:Int):Option (Int):=if (wrap64 (a1 - (l0.length:Int)))<0 then (some (-1)) else (laws_szTaskS.l0 k l0 (wrap64 (a1 - (l0.length:Int))) 0)
theorem laws_szTaskS.mono_l:∀k,(∀y0 y1 y2,LeO (laws_szTaskS.l0 k y0 y1 y2) (laws_szTaskS.l0 (k+1) y0 y1 y2))
 |0=>fun _ _ _ r h=>by simp[laws_szTaskS.l0] at h
 |k+1=>by
  have ih0:=laws_szTaskS.mono_l k
  ·intro y0 y1 y2
   unfold laws_szTaskS.l0
   repeat' first
   |(with_reducible exact ih0 _ _ _)
   |(with_reducible exact LeO.refl _)
   |(with_reducible exact LeO.none _)
   |(with_reducible refine LeO.ite ?_ ?_)
   |(with_reducible refine Yl ?_ (fun _=> ?_))
   |exact ih0 _ _ _
   |exact LeO.none _
   |refine LeO.ite ?_ ?_
   |refine Yl ?_ (fun _=> ?_)
theorem laws_szTaskS.mono:∀a0 a1 k,LeO (laws_szTaskS.f k a0 a1) (laws_szTaskS.f (k+1) a0 a1):=by
 intro a0 a1 k
 have ih0:=laws_szTaskS.mono_l k
 unfold laws_szTaskS.f
 repeat' first
   |(with_reducible exact ih0 _ _ _)
   |(with_reducible exact LeO.refl _)
   |(with_reducible exact LeO.none _)
   |(with_reducible refine LeO.ite ?_ ?_)
   |(with_reducible refine Yl ?_ (fun _=> ?_))
   |exact ih0 _ _ _
   |exact LeO.none _
   |refine LeO.ite ?_ ?_
   |refine Yl ?_ (fun _=> ?_)
set_option maxHeartbeats 8000000 in
set_option maxRecDepth 100000 in
theorem laws_szTaskS.calls (k:Nat) (A0:Option Addr) (c0:Nat) (l0:List (S71)) (a1:Int) (r:Int) (w:World) (hr0:Kd.C k71 w A0 l0.length l0) (hc0:l0.length≤c0) (h:laws_szTaskS.f k l0 a1=some r):
  Calls Try.prog 20 #[.slice A0 l0.length c0,.int .i64 a1] w fun e w'=>e= .returned (.int .i64 r)∧Below w.heap.size w w':=by
 have hu71:=Try.underlying71
 have HR0:=Za hr0
 have HC0:=Za hc0
 clear hr0 hc0
 have HB:=Za (Yh w.heap.size w)
 have H:(if (wrap64 (a1 - (l0.length:Int)))<0 then (some (-1)) else (laws_szTaskS.l0 k l0 (wrap64 (a1 - (l0.length:Int))) 0))=some r:=h
 clear h
 by_cases c3:(wrap64 (a1 - (l0.length:Int)))<0
 ·rw[if_pos c3] at H
  have c3b0:decide ((wrap64 (a1 - (l0.length:Int)))<0)=true:=Zx c3
  clear c3
  obtain rfl:=Zk H
  go_enter Try.func20,Try.ntmps20
  go_wp2
  go_ret
  exact⟨by first|rfl|(simp[errW_none,errW_some]<;>rfl)|(simp[*,errW_none,errW_some]<;>rfl)|(simp[*,errW_none,errW_some,i64_w];done),by repeat(first|(with_reducible first|exact HB.out|apply Zh|apply Zf|apply Ze)|exact HB.out)⟩
 ·rw[if_neg c3] at H
  have c3b0:decide ((wrap64 (a1 - (l0.length:Int)))<0)=false:=Yi c3
  clear c3
  have H':=Za H
  clear H
  go_enter Try.func20,Try.ntmps20
  go_wp2
  go_loopg [1,5] k (fun kq v1 v5 w'=>∃(x1_1:Int) (x5_1:Int),v1= .int .i64 x1_1∧v5= .int .i64 x5_1∧Aside0 (laws_szTaskS.l0 kq l0 x1_1 x5_1=some r)∧Aside0 (kq≤k)∧Aside0 (Below w.heap.size w w'))
  case atStart=>exact⟨(wrap64 (a1 - (l0.length:Int))),(0),z3_14,z3_14,H',⟨Nat.le_refl _⟩,⟨by repeat(first|(with_reducible first|exact HB.out|apply Zh|apply Zf|apply Ze)|exact HB.out)⟩⟩
  case round=>
   clear H'
   (try clear c3);(try clear c3b0)
   obtain⟨x1_1,x5_1,rfl,rfl,HA,HK1,HB⟩:=hrel
   cases gk with
   |zero=>exact absurd HA.out (by simp[laws_szTaskS.l0])
   |succ k1=>
    have H:=HA.out
    clear HA
    simp only[laws_szTaskS.l0] at H
    by_cases c4:x5_1<(l0.length:Int)
    ·rw[if_pos c4] at H
     have c4b0:decide (x5_1<(l0.length:Int))=true:=Zx c4
     clear c4
     by_cases c5:0≤x5_1
     ·rw[if_pos c5] at H
      have c5b0:decide (0≤x5_1)=true:=Zx c5
      clear c5
      replace H:=Zl H
      obtain⟨t104,A60,H⟩:=H
      replace H:(if t104<0 then (some (-1)) else (laws_szTaskS.l0 k1 l0 t104 (wrap64 (x5_1+1))))=some r:=H
      have A6:=Za A60
      clear A60
      by_cases c7:t104<0
      ·rw[if_pos c7] at H
       have c7b0:decide (t104<0)=true:=Zx c7
       clear c7
       obtain rfl:=Zk H
       have p103:0≤(x5_1:Int):=Zv (by first|(with_reducible assumption)|assumption)
       have q103:x5_1<(l0.length:Int):=Zv (by first|(with_reducible assumption)|assumption)
       obtain⟨ad103,A103_0,c103_0,e103,hx103_0,hx103_1,hx103_2,hx103_3,hl103_0,hi103_0⟩:=at_T71 HR0.out x5_1 p103 q103
       cases e103
       replace hx103_0:=(HB.out.cell (Zi w _ hx103_0)).trans hx103_0
       replace hx103_1:=(HB.out.cell (Zi w _ hx103_1)).trans hx103_1
       replace hx103_2:=(HB.out.cell (Zi w _ hx103_2)).trans hx103_2
       replace hx103_3:=(HB.out.cell (Zi w _ hx103_3)).trans hx103_3
       have HR103_0:=Za hi103_0
       have HC103_0:=Za hl103_0
       clear hi103_0 hl103_0
       replace p103:=eq_true p103
       replace q103:=eq_true q103
       go_wp2_with (first|((first|((with_reducible refine gate_callee (f:=39) rfl ?_);refine goesL_ (some 23) rfl rfl Try.func39 (by kernel_rfl) rfl #[.agg #[.slice A103_0 ((rd_T71 l0 x5_1).f0).length c103_0,.int .i64 ((rd_T71 l0 x5_1).f1.f0),.int .i64 ((rd_T71 l0 x5_1).f1.f1),.int .i64 ((rd_T71 l0 x5_1).f1.f2)],.int .i64 x1_1] rfl z3_9 ?_;(with_reducible refine(laws_szTask.calls _ _ ((rd_T71 l0 x5_1).f0) ((rd_T71 l0 x5_1).f1.f0) ((rd_T71 l0 x5_1).f1.f1) ((rd_T71 l0 x5_1).f1.f2) x1_1 t104 _ ?side1 ?side2 A6.out).mono ?_))|(go_at_call 39;(with_reducible refine(laws_szTask.calls _ _ ((rd_T71 l0 x5_1).f0) ((rd_T71 l0 x5_1).f1.f0) ((rd_T71 l0 x5_1).f1.f1) ((rd_T71 l0 x5_1).f1.f2) x1_1 t104 _ ?side1 ?side2 A6.out).mono ?_)));(case side1=>repeat(first|exact(Yg HR103_0.out HB.out)|(with_reducible refine Yc ?_ _)|(with_reducible refine Yd ?_ _)|(with_reducible refine Ye ?_)));(case side2=>exact HC103_0.out);rintro e w8 ⟨rfl,hb⟩;(first|refine⟨_,rfl,?_⟩|skip);replace HB:=Za (Zj z3_0 hb);(try clear hb);(try clear hb2);(try clear hk);(try clear hi)))
       go_ret
       exact⟨by first|rfl|(simp[errW_none,errW_some]<;>rfl)|(simp[*,errW_none,errW_some]<;>rfl)|(simp[*,errW_none,errW_some,i64_w];done),by repeat(first|(with_reducible first|exact HB.out|apply Zh|apply Zf|apply Ze)|exact HB.out)⟩
      ·rw[if_neg c7] at H
       have c7b0:decide (t104<0)=false:=Yi c7
       clear c7
       have H':=Za H
       clear H
       have p103:0≤(x5_1:Int):=Zv (by first|(with_reducible assumption)|assumption)
       have q103:x5_1<(l0.length:Int):=Zv (by first|(with_reducible assumption)|assumption)
       obtain⟨ad103,A103_0,c103_0,e103,hx103_0,hx103_1,hx103_2,hx103_3,hl103_0,hi103_0⟩:=at_T71 HR0.out x5_1 p103 q103
       cases e103
       replace hx103_0:=(HB.out.cell (Zi w _ hx103_0)).trans hx103_0
       replace hx103_1:=(HB.out.cell (Zi w _ hx103_1)).trans hx103_1
       replace hx103_2:=(HB.out.cell (Zi w _ hx103_2)).trans hx103_2
       replace hx103_3:=(HB.out.cell (Zi w _ hx103_3)).trans hx103_3
       have HR103_0:=Za hi103_0
       have HC103_0:=Za hl103_0
       clear hi103_0 hl103_0
       replace p103:=eq_true p103
       replace q103:=eq_true q103
       go_wp2_with (first|((first|((with_reducible refine gate_callee (f:=39) rfl ?_);refine goesL_ (some 23) rfl rfl Try.func39 (by kernel_rfl) rfl #[.agg #[.slice A103_0 ((rd_T71 l0 x5_1).f0).length c103_0,.int .i64 ((rd_T71 l0 x5_1).f1.f0),.int .i64 ((rd_T71 l0 x5_1).f1.f1),.int .i64 ((rd_T71 l0 x5_1).f1.f2)],.int .i64 x1_1] rfl z3_9 ?_;(with_reducible refine(laws_szTask.calls _ _ ((rd_T71 l0 x5_1).f0) ((rd_T71 l0 x5_1).f1.f0) ((rd_T71 l0 x5_1).f1.f1) ((rd_T71 l0 x5_1).f1.f2) x1_1 t104 _ ?side1 ?side2 A6.out).mono ?_))|(go_at_call 39;(with_reducible refine(laws_szTask.calls _ _ ((rd_T71 l0 x5_1).f0) ((rd_T71 l0 x5_1).f1.f0) ((rd_T71 l0 x5_1).f1.f1) ((rd_T71 l0 x5_1).f1.f2) x1_1 t104 _ ?side1 ?side2 A6.out).mono ?_)));(case side1=>repeat(first|exact(Yg HR103_0.out HB.out)|(with_reducible refine Yc ?_ _)|(with_reducible refine Yd ?_ _)|(with_reducible refine Ye ?_)));(case side2=>exact HC103_0.out);rintro e w9 ⟨rfl,hb⟩;(first|refine⟨_,rfl,?_⟩|skip);replace HB:=Za (Zj z3_0 hb);(try clear hb);(try clear hb2);(try clear hk);(try clear hi)))
       go_roundg k1
       case measure=>have:=HK1.out;omega
       case rel=>exact⟨(t104),(wrap64 (x5_1+1)),z3_14,z3_14,H',⟨by have:=HK1.out;omega⟩,⟨by repeat(first|(with_reducible first|exact HB.out|apply Zh|apply Zf|apply Ze)|exact HB.out)⟩⟩
     ·rw[if_neg c5] at H
      exact absurd H (by simp)
    ·rw[if_neg c4] at H
     have c4b0:decide (x5_1<(l0.length:Int))=false:=Yi c4
     clear c4
     obtain rfl:=Zk H
     go_wp2
     go_ret
     exact⟨by first|rfl|(simp[errW_none,errW_some]<;>rfl)|(simp[*,errW_none,errW_some]<;>rfl)|(simp[*,errW_none,errW_some,i64_w];done),by repeat(first|(with_reducible first|exact HB.out|apply Zh|apply Zf|apply Ze)|exact HB.out)⟩
def laws_szProgram.f (k:Nat) (l0_0:List (S71)) (a1:Int):Option (Int):=(laws_szTaskS.f k l0_0 a1).bind fun t106=>(if t106<0 then (some (-1)) else (some t106))
theorem laws_szProgram.mono:∀a0 a1 k,LeO (laws_szProgram.f k a0 a1) (laws_szProgram.f (k+1) a0 a1):=by
 intro a0 a1 k
 unfold laws_szProgram.f
 repeat' first
   |(with_reducible exact laws_szTaskS.mono _ _ _)
   |(with_reducible exact LeO.refl _)
   |(with_reducible exact LeO.none _)
   |(with_reducible refine LeO.ite ?_ ?_)
   |(with_reducible refine Yl ?_ (fun _=> ?_))
   |exact laws_szTaskS.mono _ _ _
   |exact LeO.none _
   |refine LeO.ite ?_ ?_
   |refine Yl ?_ (fun _=> ?_)
set_option maxHeartbeats 8000000 in
set_option maxRecDepth 100000 in
theorem laws_szProgram.calls (k:Nat) (A0_0:Option Addr) (c0_0:Nat) (l0_0:List (S71)) (a1:Int) (r:Int) (w:World) (hr0_0:Kd.C k71 w A0_0 l0_0.length l0_0) (hc0_0:l0_0.length≤c0_0) (h:laws_szProgram.f k l0_0 a1=some r):
  Calls Try.prog 5 #[.agg #[.slice A0_0 l0_0.length c0_0],.int .i64 a1] w fun e w'=>e= .returned (.int .i64 r)∧Below w.heap.size w w':=by
 have hu24:=Try.underlying24
 have HR0_0:=Za hr0_0
 have HC0_0:=Za hc0_0
 clear hr0_0 hc0_0
 have HB:=Za (Yh w.heap.size w)
 have H:((laws_szTaskS.f k l0_0 a1).bind fun t106=>(if t106<0 then (some (-1)) else (some t106)))=some r:=h
 clear h
 replace H:=Zl H
 obtain⟨t106,A30,H⟩:=H
 replace H:(if t106<0 then (some (-1)) else (some t106))=some r:=H
 have A3:=Za A30
 clear A30
 by_cases c4:t106<0
 ·rw[if_pos c4] at H
  have c4b0:decide (t106<0)=true:=Zx c4
  clear c4
  obtain rfl:=Zk H
  go_enter Try.func5,Try.ntmps5
  go_wp2_with (first|((with_reducible refine Zp (N:=2) rfl ?_);refine Zt ?hg (N:=2) ?hd (cs:= #[.slice A0_0 l0_0.length c0_0]) (t:=24) ?hr ?_;(case hd=>rfl);(case hg=>rfl);(case hr=>exact z3_12);intro gb105 hg w5 hbox hb;have BK105:=Za (hbox);have GW105:=Za ((z3_17:w.heap.size≤gb105));have GE105:=Za ((z3_17:w.heap.size≤gb105));replace HB:=Za (Zj z3_0 hb);clear hb hbox hg;have hcz6_0:w5.cell? ⟨gb105,0,none⟩=some (.slice A0_0 l0_0.length c0_0):=(Zb BK105.out 0).trans rfl;have hfz6_0:=Zc BK105.out 0)|((first|((with_reducible refine gate_callee (f:=20) rfl ?_);refine goesL_ (some 8) rfl rfl Try.func20 (by kernel_rfl) rfl #[.slice A0_0 l0_0.length c0_0,.int .i64 a1] rfl z3_9 ?_;(with_reducible refine(laws_szTaskS.calls k _ _ l0_0 a1 t106 _ ?side1 ?side2 A3.out).mono ?_))|(go_at_call 20;(with_reducible refine(laws_szTaskS.calls k _ _ l0_0 a1 t106 _ ?side1 ?side2 A3.out).mono ?_)));(case side1=>exact z3_13);(case side2=>exact HC0_0.out);rintro e w7 ⟨rfl,hb⟩;(first|refine⟨_,rfl,?_⟩|skip);replace BK105:=Za (Zg (g:=gb105) (o:= .cells #[.slice A0_0 l0_0.length c0_0] 24 (0,0)) (by(with_reducible repeat(first|refine blk_drewN ?_ _|refine blk_drew ?_|refine blk_alloc ?_ _));exact BK105.out) hb);replace HB:=Za (Zj (by repeat(first|(with_reducible first|exact HB.out|apply Zh|apply Zf|apply Ze|refine Zd ?_ GE105.out)|exact HB.out)) hb);(try clear hb);(try clear hb2);(try clear hk);(try clear hi)))
  go_ret
  exact⟨by first|rfl|(simp[errW_none,errW_some]<;>rfl)|(simp[*,errW_none,errW_some]<;>rfl)|(simp[*,errW_none,errW_some,i64_w];done),by repeat(first|(with_reducible first|exact HB.out|apply Zh|apply Zf|apply Ze|refine Zd ?_ GE105.out)|exact HB.out)⟩
 ·rw[if_neg c4] at H
  have c4b0:decide (t106<0)=false:=Yi c4
  clear c4
  obtain rfl:=Zk H
  go_enter Try.func5,Try.ntmps5
  go_wp2_with (first|((with_reducible refine Zp (N:=2) rfl ?_);refine Zt ?hg (N:=2) ?hd (cs:= #[.slice A0_0 l0_0.length c0_0]) (t:=24) ?hr ?_;(case hd=>rfl);(case hg=>rfl);(case hr=>exact z3_12);intro gb105 hg w8 hbox hb;have BK105:=Za (hbox);have GW105:=Za ((z3_17:w.heap.size≤gb105));have GE105:=Za ((z3_17:w.heap.size≤gb105));replace HB:=Za (Zj z3_0 hb);clear hb hbox hg;have hcz9_0:w8.cell? ⟨gb105,0,none⟩=some (.slice A0_0 l0_0.length c0_0):=(Zb BK105.out 0).trans rfl;have hfz9_0:=Zc BK105.out 0)|((first|((with_reducible refine gate_callee (f:=20) rfl ?_);refine goesL_ (some 8) rfl rfl Try.func20 (by kernel_rfl) rfl #[.slice A0_0 l0_0.length c0_0,.int .i64 a1] rfl z3_9 ?_;(with_reducible refine(laws_szTaskS.calls k _ _ l0_0 a1 t106 _ ?side1 ?side2 A3.out).mono ?_))|(go_at_call 20;(with_reducible refine(laws_szTaskS.calls k _ _ l0_0 a1 t106 _ ?side1 ?side2 A3.out).mono ?_)));(case side1=>exact z3_13);(case side2=>exact HC0_0.out);rintro e w10 ⟨rfl,hb⟩;(first|refine⟨_,rfl,?_⟩|skip);replace BK105:=Za (Zg (g:=gb105) (o:= .cells #[.slice A0_0 l0_0.length c0_0] 24 (0,0)) (by(with_reducible repeat(first|refine blk_drewN ?_ _|refine blk_drew ?_|refine blk_alloc ?_ _));exact BK105.out) hb);replace HB:=Za (Zj (by repeat(first|(with_reducible first|exact HB.out|apply Zh|apply Zf|apply Ze|refine Zd ?_ GE105.out)|exact HB.out)) hb);(try clear hb);(try clear hb2);(try clear hk);(try clear hi)))
  go_ret
  exact⟨by first|rfl|(simp[errW_none,errW_some]<;>rfl)|(simp[*,errW_none,errW_some]<;>rfl)|(simp[*,errW_none,errW_some,i64_w];done),by repeat(first|(with_reducible first|exact HB.out|apply Zh|apply Zf|apply Ze|refine Zd ?_ GE105.out)|exact HB.out)⟩
def spec_l01In.f (a0:Int) (a1:Int) (a2:Int):Option (Bool):=if a0≥a1 then (some (decide (a0≤a2))) else (some false)
set_option maxHeartbeats 8000000 in
set_option maxRecDepth 100000 in
theorem spec_l01In.calls (a0:Int) (a1:Int) (a2:Int) (r:Bool) (w:World) (h:spec_l01In.f a0 a1 a2=some r):
  Calls Try.prog 23 #[.int .i64 a0,.int .i64 a1,.int .i64 a2] w fun e w'=>e= .returned (.bool r)∧Drawn0 w w':=by
 have H:(if a0≥a1 then (some (decide (a0≤a2))) else (some false))=some r:=h
 clear h
 by_cases c4:a0≥a1
 ·rw[if_pos c4] at H
  have c4b0:decide (a1≤a0)=true:=Zx c4
  clear c4
  obtain rfl:=Zk H
  go_enter Try.func23,Try.ntmps23
  go_wp2
  go_ret
  exact⟨by first|rfl|(simp;done)|(simp[*];done),by repeat(first|exact Zz _|apply Ya)⟩
 ·rw[if_neg c4] at H
  have c4b0:decide (a1≤a0)=false:=Yi c4
  clear c4
  obtain rfl:=Zk H
  go_enter Try.func23,Try.ntmps23
  go_wp2
  go_ret
  exact⟨by first|rfl|(simp;done)|(simp[*];done),by repeat(first|exact Zz _|apply Ya)⟩
def spec_OperandOk.f (a0:Int):Option (Bool):=(spec_l01In.f a0 (-8) 999).bind fun t107=>(some t107)
set_option maxHeartbeats 8000000 in
set_option maxRecDepth 100000 in
theorem spec_OperandOk.calls (a0:Int) (r:Bool) (w:World) (h:spec_OperandOk.f a0=some r):
  Calls Try.prog 65 #[.int .i64 a0] w fun e w'=>e= .returned (.bool r)∧Drawn0 w w':=by
 have H:((spec_l01In.f a0 (-8) 999).bind fun t107=>(some t107))=some r:=h
 clear h
 replace H:=Zl H
 obtain⟨t107,A20,H⟩:=H
 replace H:(some t107)=some r:=H
 have A2:=Za A20
 clear A20
 obtain rfl:=Zk H
 go_enter Try.func65,Try.ntmps65
 go_wp2_with (first|((first|((with_reducible refine gate_callee (f:=23) rfl ?_);refine goesL_ (some 4) rfl rfl Try.func23 (by kernel_rfl) rfl #[.int .i64 a0,.int .i64 (-8),.int .i64 999] rfl z3_9 ?_;(with_reducible refine(spec_l01In.calls a0 (-8) 999 t107 _ A2.out).mono ?_))|(go_at_call 23;(with_reducible refine(spec_l01In.calls a0 (-8) 999 t107 _ A2.out).mono ?_)));rintro e w' ⟨rfl,⟨nd,rfl⟩⟩;(first|refine⟨_,rfl,?_⟩|skip)))
 go_ret
 exact⟨by first|rfl|(simp;done)|(simp[*];done),by repeat(first|exact Zz _|apply Ya)⟩
def spec_ExprOk.f (a0_0:Int) (a0_1:Int) (a0_2:Int):Option (Bool):=(spec_l01In.f a0_0 1 7).bind fun t109=>(if t109=true then ((spec_OperandOk.f a0_1).bind fun t110=>(if t110=true then ((spec_OperandOk.f a0_2).bind fun t111=>(some t111)) else (some false))) else (some false))
set_option maxHeartbeats 8000000 in
set_option maxRecDepth 100000 in
theorem spec_ExprOk.calls (a0_0:Int) (a0_1:Int) (a0_2:Int) (r:Bool) (w:World) (h:spec_ExprOk.f a0_0 a0_1 a0_2=some r):
  Calls Try.prog 41 #[.agg #[.int .i64 a0_0,.int .i64 a0_1,.int .i64 a0_2]] w fun e w'=>e= .returned (.bool r)∧Below w.heap.size w w':=by
 have hu62:=Try.underlying62
 have HB:=Za (Yh w.heap.size w)
 have H:((spec_l01In.f a0_0 1 7).bind fun t109=>(if t109=true then ((spec_OperandOk.f a0_1).bind fun t110=>(if t110=true then ((spec_OperandOk.f a0_2).bind fun t111=>(some t111)) else (some false))) else (some false)))=some r:=h
 clear h
 replace H:=Zl H
 obtain⟨t109,A20,H⟩:=H
 replace H:(if t109=true then ((spec_OperandOk.f a0_1).bind fun t110=>(if t110=true then ((spec_OperandOk.f a0_2).bind fun t111=>(some t111)) else (some false))) else (some false))=some r:=H
 have A2:=Za A20
 clear A20
 by_cases c3:t109=true
 ·subst c3
  rw[if_pos rfl] at H
  replace H:=Zl H
  obtain⟨t110,A40,H⟩:=H
  replace H:(if t110=true then ((spec_OperandOk.f a0_2).bind fun t111=>(some t111)) else (some false))=some r:=H
  have A4:=Za A40
  clear A40
  by_cases c5:t110=true
  ·subst c5
   rw[if_pos rfl] at H
   replace H:=Zl H
   obtain⟨t111,A60,H⟩:=H
   replace H:(some t111)=some r:=H
   have A6:=Za A60
   clear A60
   obtain rfl:=Zk H
   go_enter Try.func41,Try.ntmps41
   go_wp2_with (first|((with_reducible refine Zp (N:=1) rfl ?_);refine Zt ?hg (N:=1) ?hd (cs:= #[.int .i64 a0_0,.int .i64 a0_1,.int .i64 a0_2]) (t:=62) ?hr ?_;(case hd=>rfl);(case hg=>rfl);(case hr=>exact z3_12);intro gb108 hg w7 hbox hb;have BK108:=Za (hbox);have GW108:=Za ((z3_17:w.heap.size≤gb108));have GE108:=Za ((z3_17:w.heap.size≤gb108));replace HB:=Za (Zj z3_0 hb);clear hb hbox hg;have hcz8_0:w7.cell? ⟨gb108,0,none⟩=some (.int .i64 a0_0):=(Zb BK108.out 0).trans rfl;have hcz8_1:w7.cell? ⟨gb108,1,none⟩=some (.int .i64 a0_1):=(Zb BK108.out 1).trans rfl;have hcz8_2:w7.cell? ⟨gb108,2,none⟩=some (.int .i64 a0_2):=(Zb BK108.out 2).trans rfl;have hfz8_0:=Zc BK108.out 0;have hfz8_1:=Zc BK108.out 1;have hfz8_2:=Zc BK108.out 2)|((first|((with_reducible refine gate_callee (f:=23) rfl ?_);refine goesL_ (some 5) rfl rfl Try.func23 (by kernel_rfl) rfl #[.int .i64 a0_0,.int .i64 1,.int .i64 7] rfl z3_9 ?_;(with_reducible refine(spec_l01In.calls a0_0 1 7 true _ A2.out).mono ?_))|(go_at_call 23;(with_reducible refine(spec_l01In.calls a0_0 1 7 true _ A2.out).mono ?_)));rintro e w' ⟨rfl,⟨nd,rfl⟩⟩;(first|refine⟨_,rfl,?_⟩|skip))|(go_at_call 65;(with_reducible refine(spec_OperandOk.calls a0_1 true _ A4.out).mono ?_);rintro e w' ⟨rfl,⟨nd,rfl⟩⟩)|(go_at_call 65;(with_reducible refine(spec_OperandOk.calls a0_2 t111 _ A6.out).mono ?_);rintro e w' ⟨rfl,⟨nd,rfl⟩⟩))
   go_ret
   exact⟨by first|rfl|(simp[errW_none,errW_some]<;>rfl)|(simp[*,errW_none,errW_some]<;>rfl)|(simp[*,errW_none,errW_some,i64_w];done),by repeat(first|(with_reducible first|exact HB.out|apply Zh|apply Zf|apply Ze|refine Zd ?_ GE108.out)|exact HB.out)⟩
  ·replace c5:=Bool.eq_false_iff.mpr c5
   subst c5
   rw[if_neg (show ¬(false=true) by decide)] at H
   obtain rfl:=Zk H
   go_enter Try.func41,Try.ntmps41
   go_wp2_with (first|((with_reducible refine Zp (N:=1) rfl ?_);refine Zt ?hg (N:=1) ?hd (cs:= #[.int .i64 a0_0,.int .i64 a0_1,.int .i64 a0_2]) (t:=62) ?hr ?_;(case hd=>rfl);(case hg=>rfl);(case hr=>exact z3_12);intro gb108 hg w9 hbox hb;have BK108:=Za (hbox);have GW108:=Za ((z3_17:w.heap.size≤gb108));have GE108:=Za ((z3_17:w.heap.size≤gb108));replace HB:=Za (Zj z3_0 hb);clear hb hbox hg;have hcz10_0:w9.cell? ⟨gb108,0,none⟩=some (.int .i64 a0_0):=(Zb BK108.out 0).trans rfl;have hcz10_1:w9.cell? ⟨gb108,1,none⟩=some (.int .i64 a0_1):=(Zb BK108.out 1).trans rfl;have hcz10_2:w9.cell? ⟨gb108,2,none⟩=some (.int .i64 a0_2):=(Zb BK108.out 2).trans rfl;have hfz10_0:=Zc BK108.out 0;have hfz10_1:=Zc BK108.out 1;have hfz10_2:=Zc BK108.out 2)|((first|((with_reducible refine gate_callee (f:=23) rfl ?_);refine goesL_ (some 5) rfl rfl Try.func23 (by kernel_rfl) rfl #[.int .i64 a0_0,.int .i64 1,.int .i64 7] rfl z3_9 ?_;(with_reducible refine(spec_l01In.calls a0_0 1 7 true _ A2.out).mono ?_))|(go_at_call 23;(with_reducible refine(spec_l01In.calls a0_0 1 7 true _ A2.out).mono ?_)));rintro e w' ⟨rfl,⟨nd,rfl⟩⟩;(first|refine⟨_,rfl,?_⟩|skip))|(go_at_call 65;(with_reducible refine(spec_OperandOk.calls a0_1 false _ A4.out).mono ?_);rintro e w' ⟨rfl,⟨nd,rfl⟩⟩))
   go_ret
   exact⟨by first|rfl|(simp[errW_none,errW_some]<;>rfl)|(simp[*,errW_none,errW_some]<;>rfl)|(simp[*,errW_none,errW_some,i64_w];done),by repeat(first|(with_reducible first|exact HB.out|apply Zh|apply Zf|apply Ze|refine Zd ?_ GE108.out)|exact HB.out)⟩
 ·replace c3:=Bool.eq_false_iff.mpr c3
  subst c3
  rw[if_neg (show ¬(false=true) by decide)] at H
  obtain rfl:=Zk H
  go_enter Try.func41,Try.ntmps41
  go_wp2_with (first|((with_reducible refine Zp (N:=1) rfl ?_);refine Zt ?hg (N:=1) ?hd (cs:= #[.int .i64 a0_0,.int .i64 a0_1,.int .i64 a0_2]) (t:=62) ?hr ?_;(case hd=>rfl);(case hg=>rfl);(case hr=>exact z3_12);intro gb108 hg w11 hbox hb;have BK108:=Za (hbox);have GW108:=Za ((z3_17:w.heap.size≤gb108));have GE108:=Za ((z3_17:w.heap.size≤gb108));replace HB:=Za (Zj z3_0 hb);clear hb hbox hg;have hcz12_0:w11.cell? ⟨gb108,0,none⟩=some (.int .i64 a0_0):=(Zb BK108.out 0).trans rfl;have hcz12_1:w11.cell? ⟨gb108,1,none⟩=some (.int .i64 a0_1):=(Zb BK108.out 1).trans rfl;have hcz12_2:w11.cell? ⟨gb108,2,none⟩=some (.int .i64 a0_2):=(Zb BK108.out 2).trans rfl;have hfz12_0:=Zc BK108.out 0;have hfz12_1:=Zc BK108.out 1;have hfz12_2:=Zc BK108.out 2)|((first|((with_reducible refine gate_callee (f:=23) rfl ?_);refine goesL_ (some 5) rfl rfl Try.func23 (by kernel_rfl) rfl #[.int .i64 a0_0,.int .i64 1,.int .i64 7] rfl z3_9 ?_;(with_reducible refine(spec_l01In.calls a0_0 1 7 false _ A2.out).mono ?_))|(go_at_call 23;(with_reducible refine(spec_l01In.calls a0_0 1 7 false _ A2.out).mono ?_)));rintro e w' ⟨rfl,⟨nd,rfl⟩⟩;(first|refine⟨_,rfl,?_⟩|skip)))
  go_ret
  exact⟨by first|rfl|(simp[errW_none,errW_some]<;>rfl)|(simp[*,errW_none,errW_some]<;>rfl)|(simp[*,errW_none,errW_some,i64_w];done),by repeat(first|(with_reducible first|exact HB.out|apply Zh|apply Zf|apply Ze|refine Zd ?_ GE108.out)|exact HB.out)⟩
def spec_l04Plain.j0:Nat→Int→Bool→Int→Int→Int→Int→Int→Int→Int→Int→Int→Int→Int→Int→Option (Int×Int×Int×Int×Int×Int)
 |0,_,_,_,_,_,_,_,_,_,_,_,_,_,_=>none
 |k+1,x8,x25,x113000,x113001,x113002,x113003,x113004,x113005,x115000,x115001,x115002,x115003,x115004,x115005=>if x25=true then (some (x115000,x115001,x115002,x113003,x113004,x113005)) else (if x8=5 then (some (x115000,x115001,x113002,x115003,x115004,x115005)) else (some (x115000,x115001,x115002,x115003,x115004,x115005)))
def spec_l04Plain.f (k:Nat) (a0_0:Int) (a0_1:Int) (a0_2:Int) (a0_3:Int) (a0_4:Int) (a0_5:Int):Option (Int×Int×Int×Int×Int×Int):=if a0_0=1 then (some (a0_0,a0_1,0,a0_3,a0_4,a0_5)) else (if a0_0=2 then (some (a0_0,a0_1,a0_2,0,0,0)) else (if a0_0=3 then (spec_l04Plain.j0 k a0_0 (a0_0==3) a0_0 a0_1 a0_2 a0_3 a0_4 a0_5 a0_0 0 0 0 0 0) else (spec_l04Plain.j0 k a0_0 (a0_0==4) a0_0 a0_1 a0_2 a0_3 a0_4 a0_5 a0_0 0 0 0 0 0)))
set_option maxHeartbeats 8000000 in
set_option maxRecDepth 100000 in
theorem spec_l04Plain.calls (k:Nat) (a0_0:Int) (a0_1:Int) (a0_2:Int) (a0_3:Int) (a0_4:Int) (a0_5:Int) (r1:Int) (r2:Int) (r3:Int) (r4:Int) (r5:Int) (r6:Int) (w:World) (h:spec_l04Plain.f k a0_0 a0_1 a0_2 a0_3 a0_4 a0_5=some (r1,r2,r3,r4,r5,r6)):
  Calls Try.prog 88 #[.agg #[.int .i64 a0_0,.int .i64 a0_1,.int .i64 a0_2,.int .i64 a0_3,.int .i64 a0_4,.int .i64 a0_5]] w fun e w'=>e= .returned (.agg #[.int .i64 r1,.int .i64 r2,.int .i64 r3,.int .i64 r4,.int .i64 r5,.int .i64 r6])∧Below w.heap.size w w':=by
 have hu80:=Try.underlying80
 have hu62:=Try.underlying62
 have HB:=Za (Yh w.heap.size w)
 have H:(if a0_0=1 then (some (a0_0,a0_1,0,a0_3,a0_4,a0_5)) else (if a0_0=2 then (some (a0_0,a0_1,a0_2,0,0,0)) else (if a0_0=3 then (spec_l04Plain.j0 k a0_0 (a0_0==3) a0_0 a0_1 a0_2 a0_3 a0_4 a0_5 a0_0 0 0 0 0 0) else (spec_l04Plain.j0 k a0_0 (a0_0==4) a0_0 a0_1 a0_2 a0_3 a0_4 a0_5 a0_0 0 0 0 0 0))))=some (r1,r2,r3,r4,r5,r6):=h
 clear h
 by_cases c2:a0_0=1
 ·rw[if_pos c2] at H
  have c2b0:(a0_0==1)=true:=beq_iff_eq.mpr c2
  have c2b1:(a0_0 != 1)=false:=bne_eq_false_iff_eq.mpr c2
  clear c2
  simp only[Option.some.injEq,Prod.mk.injEq] at H
  obtain⟨rfl,rfl,rfl,rfl,rfl,rfl⟩:=H
  go_enter Try.func88,Try.ntmps88
  go_wp2_with (first|((with_reducible refine Zp (N:=1) rfl ?_);refine Zt ?hg (N:=1) ?hd (cs:= #[.int .i64 a0_0,.int .i64 a0_1,.int .i64 a0_2,.int .i64 a0_3,.int .i64 a0_4,.int .i64 a0_5]) (t:=80) ?hr ?_;(case hd=>rfl);(case hg=>rfl);(case hr=>exact z3_12);intro gb112 hg w3 hbox hb;have BK112:=Za (hbox);have GW112:=Za ((z3_17:w.heap.size≤gb112));have GE112:=Za ((z3_17:w.heap.size≤gb112));replace HB:=Za (Zj z3_0 hb);clear hb hbox hg)|((with_reducible refine Zp (N:=2) rfl ?_);refine Zt ?hg (N:=2) ?hd (cs:= #[.int .i64 0,.int .i64 0,.int .i64 0,.int .i64 0,.int .i64 0,.int .i64 0]) (t:=80) ?hr ?_;(case hd=>rfl);(case hg=>rfl);(case hr=>exact z3_12);intro gb113 hg w4 hbox hb;have BK113:=Za (hbox);have GW113:=Za ((by rw[hg];exact(Zy z3_8):w.heap.size≤gb113));have GE113:=Za ((by rw[hg];exact(Zy z3_8):w.heap.size≤gb113));replace HB:=Za (Zj z3_8 hb);have NB112_113:=Za ((z3_15:gb112≠gb113));have NB113_112:=Za ((z3_16:gb113≠gb112));replace BK112:=Za (Zg (g:=gb112) (o:= .cells #[.int .i64 a0_0,.int .i64 a0_1,.int .i64 a0_2,.int .i64 a0_3,.int .i64 a0_4,.int .i64 a0_5] 80 (0,0)) z3_3 hb);clear hb hbox hg;have hnb5:=NB112_113.out;have hnc5:=NB113_112.out;have hcz6_0:w4.cell? ⟨gb112,0,none⟩=some (.int .i64 a0_0):=(Zb BK112.out 0).trans rfl;have hcz6_1:w4.cell? ⟨gb112,1,none⟩=some (.int .i64 a0_1):=(Zb BK112.out 1).trans rfl;have hcz6_2:w4.cell? ⟨gb112,2,none⟩=some (.int .i64 a0_2):=(Zb BK112.out 2).trans rfl;have hcz6_3:w4.cell? ⟨gb112,3,none⟩=some (.int .i64 a0_3):=(Zb BK112.out 3).trans rfl;have hcz6_4:w4.cell? ⟨gb112,4,none⟩=some (.int .i64 a0_4):=(Zb BK112.out 4).trans rfl;have hcz6_5:w4.cell? ⟨gb112,5,none⟩=some (.int .i64 a0_5):=(Zb BK112.out 5).trans rfl;have hfz6_0:=Zc BK112.out 0;have hfz6_1:=Zc BK112.out 1;have hfz6_2:=Zc BK112.out 2;have hfz6_3:=Zc BK112.out 3;have hfz6_4:=Zc BK112.out 4;have hfz6_5:=Zc BK112.out 5)|((with_reducible refine Zp (N:=3) rfl ?_);refine Zt ?hg (N:=3) ?hd (cs:= #[.int .i64 0,.int .i64 0,.int .i64 0,.int .i64 0,.int .i64 0,.int .i64 0]) (t:=80) ?hr ?_;(case hd=>rfl);(case hg=>rfl);(case hr=>exact z3_12);intro gb114 hg w7 hbox hb;have BK114:=Za (hbox);have GW114:=Za ((by rw[hg];exact(Zy z3_6):w.heap.size≤gb114));have GE114:=Za ((by rw[hg];exact(Zy z3_6):w.heap.size≤gb114));replace HB:=Za (Zj z3_6 hb);have NB112_114:=Za ((z3_15:gb112≠gb114));have NB114_112:=Za ((z3_16:gb114≠gb112));replace BK112:=Za (Zg (g:=gb112) (o:= .cells #[.int .i64 a0_0,.int .i64 a0_1,.int .i64 a0_2,.int .i64 a0_3,.int .i64 a0_4,.int .i64 a0_5] 80 (0,0)) z3_3 hb);have NB113_114:=Za ((z3_18:gb113≠gb114));have NB114_113:=Za ((z3_19:gb114≠gb113));replace BK113:=Za (Zg (g:=gb113) (o:= .cells #[.int .i64 0,.int .i64 0,.int .i64 0,.int .i64 0,.int .i64 0,.int .i64 0] 80 (0,0)) z3_7 hb);clear hb hbox hg;have hnb8:=NB114_112.out;have hnc8:=NB112_114.out;have hnb9:=NB114_113.out;have hnc9:=NB113_114.out;have hcz10_0:w7.cell? ⟨gb114,0,none⟩=some (.int .i64 0):=(Zb BK114.out 0).trans rfl;have hcz10_1:w7.cell? ⟨gb114,1,none⟩=some (.int .i64 0):=(Zb BK114.out 1).trans rfl;have hcz10_2:w7.cell? ⟨gb114,2,none⟩=some (.int .i64 0):=(Zb BK114.out 2).trans rfl;have hcz10_3:w7.cell? ⟨gb114,3,none⟩=some (.int .i64 0):=(Zb BK114.out 3).trans rfl;have hcz10_4:w7.cell? ⟨gb114,4,none⟩=some (.int .i64 0):=(Zb BK114.out 4).trans rfl;have hcz10_5:w7.cell? ⟨gb114,5,none⟩=some (.int .i64 0):=(Zb BK114.out 5).trans rfl;have hfz10_0:=Zc BK114.out 0;have hfz10_1:=Zc BK114.out 1;have hfz10_2:=Zc BK114.out 2;have hfz10_3:=Zc BK114.out 3;have hfz10_4:=Zc BK114.out 4;have hfz10_5:=Zc BK114.out 5)|((with_reducible refine Yk (t:=80) (p:=3) rfl ?_);refine Yj (t:=80) (p:=3) (v:= ?vo_w11) (w1:=((((((w7.setCell ⟨gb114,0,none⟩ (.int .i64 a0_0)).setCell ⟨gb114,1,none⟩ (.int .i64 0)).setCell ⟨gb114,2,none⟩ (.int .i64 0)).setCell ⟨gb114,3,none⟩ (.int .i64 0)).setCell ⟨gb114,4,none⟩ (.int .i64 0)).setCell ⟨gb114,5,none⟩ (.int .i64 0))) ?hg ?ho ?hn ?hr ?_;(case ho=>rfl);(case hg=>rfl);(case hn=>rfl);(case hr=>exact z3_12);intro w11 hw;have n0_:Aside0 (w11.heap[gb112]? =some (.cells #[.int .i64 a0_0,.int .i64 a0_1,.int .i64 a0_2,.int .i64 a0_3,.int .i64 a0_4,.int .i64 a0_5] 80 (0,0))):=⟨z3_5⟩;have n1_:Aside0 (w11.heap[gb113]? =some (.cells #[.int .i64 0,.int .i64 0,.int .i64 0,.int .i64 0,.int .i64 0,.int .i64 0] 80 (0,0))):=⟨z3_4⟩;have n2_:Aside0 (w11.heap[gb114]? =some (.cells #[.int .i64 a0_0,.int .i64 0,.int .i64 0,.int .i64 0,.int .i64 0,.int .i64 0] 80 (0,0))):=⟨z3_1⟩;have n3_:Aside0 (Below w.heap.size w w11):=⟨z3_2⟩;clear hw;clear BK112;clear BK113;clear BK114;clear HB;have BK112:=n0_;have BK113:=n1_;have BK114:=n2_;have HB:=n3_;clear n0_ n1_ n2_ n3_;have hcz12_0:w11.cell? ⟨gb112,0,none⟩=some (.int .i64 a0_0):=(Zb BK112.out 0).trans rfl;have hcz12_1:w11.cell? ⟨gb112,1,none⟩=some (.int .i64 a0_1):=(Zb BK112.out 1).trans rfl;have hcz12_2:w11.cell? ⟨gb112,2,none⟩=some (.int .i64 a0_2):=(Zb BK112.out 2).trans rfl;have hcz12_3:w11.cell? ⟨gb112,3,none⟩=some (.int .i64 a0_3):=(Zb BK112.out 3).trans rfl;have hcz12_4:w11.cell? ⟨gb112,4,none⟩=some (.int .i64 a0_4):=(Zb BK112.out 4).trans rfl;have hcz12_5:w11.cell? ⟨gb112,5,none⟩=some (.int .i64 a0_5):=(Zb BK112.out 5).trans rfl;have hfz12_0:=Zc BK112.out 0;have hfz12_1:=Zc BK112.out 1;have hfz12_2:=Zc BK112.out 2;have hfz12_3:=Zc BK112.out 3;have hfz12_4:=Zc BK112.out 4;have hfz12_5:=Zc BK112.out 5;have hcz13_0:w11.cell? ⟨gb114,0,none⟩=some (.int .i64 a0_0):=(Zb BK114.out 0).trans rfl;have hcz13_1:w11.cell? ⟨gb114,1,none⟩=some (.int .i64 0):=(Zb BK114.out 1).trans rfl;have hcz13_2:w11.cell? ⟨gb114,2,none⟩=some (.int .i64 0):=(Zb BK114.out 2).trans rfl;have hcz13_3:w11.cell? ⟨gb114,3,none⟩=some (.int .i64 0):=(Zb BK114.out 3).trans rfl;have hcz13_4:w11.cell? ⟨gb114,4,none⟩=some (.int .i64 0):=(Zb BK114.out 4).trans rfl;have hcz13_5:w11.cell? ⟨gb114,5,none⟩=some (.int .i64 0):=(Zb BK114.out 5).trans rfl;have hfz13_0:=Zc BK114.out 0;have hfz13_1:=Zc BK114.out 1;have hfz13_2:=Zc BK114.out 2;have hfz13_3:=Zc BK114.out 3;have hfz13_4:=Zc BK114.out 4;have hfz13_5:=Zc BK114.out 5)|((with_reducible refine Yk (t:=62) (p:=16) rfl ?_);refine Yj (t:=62) (p:=16) (v:= ?vo_w14) (w1:=((((w11.setCell ⟨gb114,1,none⟩ (.int .i64 a0_1)).setCell ⟨gb114,3,none⟩ (.int .i64 a0_3)).setCell ⟨gb114,4,none⟩ (.int .i64 a0_4)).setCell ⟨gb114,5,none⟩ (.int .i64 a0_5))) ?hg ?ho ?hn ?hr ?_;(case ho=>rfl);(case hg=>rfl);(case hn=>rfl);(case hr=>exact z3_12);intro w14 hw;have n0_:Aside0 (w14.heap[gb112]? =some (.cells #[.int .i64 a0_0,.int .i64 a0_1,.int .i64 a0_2,.int .i64 a0_3,.int .i64 a0_4,.int .i64 a0_5] 80 (0,0))):=⟨(by rw[hw];exact(by(with_reducible repeat(first|refine blk_drewN ?_ _|refine blk_drew ?_|refine blk_alloc ?_ _));refine blk_far ?_ NB112_114.out _;(with_reducible repeat(first|refine blk_drewN ?_ _|refine blk_drew ?_|refine blk_alloc ?_ _));refine blk_far ?_ NB112_114.out _;(with_reducible repeat(first|refine blk_drewN ?_ _|refine blk_drew ?_|refine blk_alloc ?_ _));refine blk_far ?_ NB112_114.out _;(with_reducible repeat(first|refine blk_drewN ?_ _|refine blk_drew ?_|refine blk_alloc ?_ _));refine blk_far ?_ NB112_114.out _;(with_reducible repeat(first|refine blk_drewN ?_ _|refine blk_drew ?_|refine blk_alloc ?_ _));exact BK112.out))⟩;have n1_:Aside0 (w14.heap[gb113]? =some (.cells #[.int .i64 0,.int .i64 0,.int .i64 0,.int .i64 0,.int .i64 0,.int .i64 0] 80 (0,0))):=⟨(by rw[hw];exact(by(with_reducible repeat(first|refine blk_drewN ?_ _|refine blk_drew ?_|refine blk_alloc ?_ _));refine blk_far ?_ NB113_114.out _;(with_reducible repeat(first|refine blk_drewN ?_ _|refine blk_drew ?_|refine blk_alloc ?_ _));refine blk_far ?_ NB113_114.out _;(with_reducible repeat(first|refine blk_drewN ?_ _|refine blk_drew ?_|refine blk_alloc ?_ _));refine blk_far ?_ NB113_114.out _;(with_reducible repeat(first|refine blk_drewN ?_ _|refine blk_drew ?_|refine blk_alloc ?_ _));refine blk_far ?_ NB113_114.out _;(with_reducible repeat(first|refine blk_drewN ?_ _|refine blk_drew ?_|refine blk_alloc ?_ _));exact BK113.out))⟩;have n2_:Aside0 (w14.heap[gb114]? =some (.cells #[.int .i64 a0_0,.int .i64 a0_1,.int .i64 0,.int .i64 a0_3,.int .i64 a0_4,.int .i64 a0_5] 80 (0,0))):=⟨(by rw[hw];exact(by(with_reducible repeat(first|refine blk_drewN ?_ _|refine blk_drew ?_|refine blk_alloc ?_ _));refine blk_put (cs:= #[.int .i64 a0_0,.int .i64 a0_1,.int .i64 0,.int .i64 a0_3,.int .i64 a0_4,.int .i64 0]) ?_ 5 _ rfl;(with_reducible repeat(first|refine blk_drewN ?_ _|refine blk_drew ?_|refine blk_alloc ?_ _));refine blk_put (cs:= #[.int .i64 a0_0,.int .i64 a0_1,.int .i64 0,.int .i64 a0_3,.int .i64 0,.int .i64 0]) ?_ 4 _ rfl;(with_reducible repeat(first|refine blk_drewN ?_ _|refine blk_drew ?_|refine blk_alloc ?_ _));refine blk_put (cs:= #[.int .i64 a0_0,.int .i64 a0_1,.int .i64 0,.int .i64 0,.int .i64 0,.int .i64 0]) ?_ 3 _ rfl;(with_reducible repeat(first|refine blk_drewN ?_ _|refine blk_drew ?_|refine blk_alloc ?_ _));refine blk_put (cs:= #[.int .i64 a0_0,.int .i64 0,.int .i64 0,.int .i64 0,.int .i64 0,.int .i64 0]) ?_ 1 _ rfl;(with_reducible repeat(first|refine blk_drewN ?_ _|refine blk_drew ?_|refine blk_alloc ?_ _));exact BK114.out))⟩;have n3_:Aside0 (Below w.heap.size w w14):=⟨z3_2⟩;clear hw;clear BK112;clear BK113;clear BK114;clear HB;have BK112:=n0_;have BK113:=n1_;have BK114:=n2_;have HB:=n3_;clear n0_ n1_ n2_ n3_;have hcz15_0:w14.cell? ⟨gb114,0,none⟩=some (.int .i64 a0_0):=(Zb BK114.out 0).trans rfl;have hcz15_1:w14.cell? ⟨gb114,1,none⟩=some (.int .i64 a0_1):=(Zb BK114.out 1).trans rfl;have hcz15_2:w14.cell? ⟨gb114,2,none⟩=some (.int .i64 0):=(Zb BK114.out 2).trans rfl;have hcz15_3:w14.cell? ⟨gb114,3,none⟩=some (.int .i64 a0_3):=(Zb BK114.out 3).trans rfl;have hcz15_4:w14.cell? ⟨gb114,4,none⟩=some (.int .i64 a0_4):=(Zb BK114.out 4).trans rfl;have hcz15_5:w14.cell? ⟨gb114,5,none⟩=some (.int .i64 a0_5):=(Zb BK114.out 5).trans rfl;have hfz15_0:=Zc BK114.out 0;have hfz15_1:=Zc BK114.out 1;have hfz15_2:=Zc BK114.out 2;have hfz15_3:=Zc BK114.out 3;have hfz15_4:=Zc BK114.out 4;have hfz15_5:=Zc BK114.out 5;have hcz16_0:w14.cell? ⟨gb113,0,none⟩=some (.int .i64 0):=(Zb BK113.out 0).trans rfl;have hcz16_1:w14.cell? ⟨gb113,1,none⟩=some (.int .i64 0):=(Zb BK113.out 1).trans rfl;have hcz16_2:w14.cell? ⟨gb113,2,none⟩=some (.int .i64 0):=(Zb BK113.out 2).trans rfl;have hcz16_3:w14.cell? ⟨gb113,3,none⟩=some (.int .i64 0):=(Zb BK113.out 3).trans rfl;have hcz16_4:w14.cell? ⟨gb113,4,none⟩=some (.int .i64 0):=(Zb BK113.out 4).trans rfl;have hcz16_5:w14.cell? ⟨gb113,5,none⟩=some (.int .i64 0):=(Zb BK113.out 5).trans rfl;have hfz16_0:=Zc BK113.out 0;have hfz16_1:=Zc BK113.out 1;have hfz16_2:=Zc BK113.out 2;have hfz16_3:=Zc BK113.out 3;have hfz16_4:=Zc BK113.out 4;have hfz16_5:=Zc BK113.out 5)|((with_reducible refine Yk (t:=80) (p:=2) rfl ?_);refine Yj (t:=80) (p:=2) (v:= ?vo_w17) (w1:=((((((w14.setCell ⟨gb113,0,none⟩ (.int .i64 a0_0)).setCell ⟨gb113,1,none⟩ (.int .i64 a0_1)).setCell ⟨gb113,2,none⟩ (.int .i64 0)).setCell ⟨gb113,3,none⟩ (.int .i64 a0_3)).setCell ⟨gb113,4,none⟩ (.int .i64 a0_4)).setCell ⟨gb113,5,none⟩ (.int .i64 a0_5))) ?hg ?ho ?hn ?hr ?_;(case ho=>rfl);(case hg=>rfl);(case hn=>rfl);(case hr=>exact z3_12);intro w17 hw;have n0_:Aside0 (w17.heap[gb112]? =some (.cells #[.int .i64 a0_0,.int .i64 a0_1,.int .i64 a0_2,.int .i64 a0_3,.int .i64 a0_4,.int .i64 a0_5] 80 (0,0))):=⟨z3_11⟩;have n1_:Aside0 (w17.heap[gb113]? =some (.cells #[.int .i64 a0_0,.int .i64 a0_1,.int .i64 0,.int .i64 a0_3,.int .i64 a0_4,.int .i64 a0_5] 80 (0,0))):=⟨(by rw[hw];exact(by(with_reducible repeat(first|refine blk_drewN ?_ _|refine blk_drew ?_|refine blk_alloc ?_ _));refine blk_put (cs:= #[.int .i64 a0_0,.int .i64 a0_1,.int .i64 0,.int .i64 a0_3,.int .i64 a0_4,.int .i64 0]) ?_ 5 _ rfl;(with_reducible repeat(first|refine blk_drewN ?_ _|refine blk_drew ?_|refine blk_alloc ?_ _));refine blk_put (cs:= #[.int .i64 a0_0,.int .i64 a0_1,.int .i64 0,.int .i64 a0_3,.int .i64 0,.int .i64 0]) ?_ 4 _ rfl;(with_reducible repeat(first|refine blk_drewN ?_ _|refine blk_drew ?_|refine blk_alloc ?_ _));refine blk_put (cs:= #[.int .i64 a0_0,.int .i64 a0_1,.int .i64 0,.int .i64 0,.int .i64 0,.int .i64 0]) ?_ 3 _ rfl;(with_reducible repeat(first|refine blk_drewN ?_ _|refine blk_drew ?_|refine blk_alloc ?_ _));refine blk_put (cs:= #[.int .i64 a0_0,.int .i64 a0_1,.int .i64 0,.int .i64 0,.int .i64 0,.int .i64 0]) ?_ 2 _ rfl;(with_reducible repeat(first|refine blk_drewN ?_ _|refine blk_drew ?_|refine blk_alloc ?_ _));refine blk_put (cs:= #[.int .i64 a0_0,.int .i64 0,.int .i64 0,.int .i64 0,.int .i64 0,.int .i64 0]) ?_ 1 _ rfl;(with_reducible repeat(first|refine blk_drewN ?_ _|refine blk_drew ?_|refine blk_alloc ?_ _));refine blk_put (cs:= #[.int .i64 0,.int .i64 0,.int .i64 0,.int .i64 0,.int .i64 0,.int .i64 0]) ?_ 0 _ rfl;(with_reducible repeat(first|refine blk_drewN ?_ _|refine blk_drew ?_|refine blk_alloc ?_ _));exact BK113.out))⟩;have n2_:Aside0 (w17.heap[gb114]? =some (.cells #[.int .i64 a0_0,.int .i64 a0_1,.int .i64 0,.int .i64 a0_3,.int .i64 a0_4,.int .i64 a0_5] 80 (0,0))):=⟨z3_10⟩;have n3_:Aside0 (Below w.heap.size w w17):=⟨z3_2⟩;clear hw;clear BK112;clear BK113;clear BK114;clear HB;have BK112:=n0_;have BK113:=n1_;have BK114:=n2_;have HB:=n3_;clear n0_ n1_ n2_ n3_))
  refine bodyPost_ret (results_cell_row rfl _ _ gb113 80 #[.int .i64 a0_0,.int .i64 a0_1,.int .i64 0,.int .i64 a0_3,.int .i64 a0_4,.int .i64 a0_5] (0,0) _ rfl z3_7 Try.underlying80 rfl (by kernel_rfl)) rfl ?_
  exact⟨by first|rfl|(simp[errW_none,errW_some]<;>rfl)|(simp[*,errW_none,errW_some]<;>rfl)|(simp[*,errW_none,errW_some,i64_w];done),by repeat(first|(with_reducible first|exact HB.out|apply Zh|apply Zf|apply Ze|refine Zd ?_ GE112.out|refine Zd ?_ GE113.out|refine Zd ?_ GE114.out)|exact HB.out)⟩
 ·rw[if_neg c2] at H
  have c2b0:(a0_0==1)=false:=beq_eq_false_iff_ne.mpr c2
  have c2b1:(a0_0 != 1)=true:=bne_iff_ne.mpr c2
  by_cases c18:a0_0=2
  ·rw[if_pos c18] at H
   have c18b0:(a0_0==2)=true:=beq_iff_eq.mpr c18
   have c18b1:(a0_0 != 2)=false:=bne_eq_false_iff_eq.mpr c18
   clear c18
   simp only[Option.some.injEq,Prod.mk.injEq] at H
   obtain⟨rfl,rfl,rfl,rfl,rfl,rfl⟩:=H
   go_enter Try.func88,Try.ntmps88
   go_wp2_with (first|((with_reducible refine Zp (N:=1) rfl ?_);refine Zt ?hg (N:=1) ?hd (cs:= #[.int .i64 a0_0,.int .i64 a0_1,.int .i64 a0_2,.int .i64 a0_3,.int .i64 a0_4,.int .i64 a0_5]) (t:=80) ?hr ?_;(case hd=>rfl);(case hg=>rfl);(case hr=>exact z3_12);intro gb112 hg w19 hbox hb;have BK112:=Za (hbox);have GW112:=Za ((z3_17:w.heap.size≤gb112));have GE112:=Za ((z3_17:w.heap.size≤gb112));replace HB:=Za (Zj z3_0 hb);clear hb hbox hg)|((with_reducible refine Zp (N:=2) rfl ?_);refine Zt ?hg (N:=2) ?hd (cs:= #[.int .i64 0,.int .i64 0,.int .i64 0,.int .i64 0,.int .i64 0,.int .i64 0]) (t:=80) ?hr ?_;(case hd=>rfl);(case hg=>rfl);(case hr=>exact z3_12);intro gb113 hg w20 hbox hb;have BK113:=Za (hbox);have GW113:=Za ((by rw[hg];exact(Zy z3_8):w.heap.size≤gb113));have GE113:=Za ((by rw[hg];exact(Zy z3_8):w.heap.size≤gb113));replace HB:=Za (Zj z3_8 hb);have NB112_113:=Za ((z3_15:gb112≠gb113));have NB113_112:=Za ((z3_16:gb113≠gb112));replace BK112:=Za (Zg (g:=gb112) (o:= .cells #[.int .i64 a0_0,.int .i64 a0_1,.int .i64 a0_2,.int .i64 a0_3,.int .i64 a0_4,.int .i64 a0_5] 80 (0,0)) z3_3 hb);clear hb hbox hg;have hnb21:=NB112_113.out;have hnc21:=NB113_112.out;have hcz22_0:w20.cell? ⟨gb112,0,none⟩=some (.int .i64 a0_0):=(Zb BK112.out 0).trans rfl;have hcz22_1:w20.cell? ⟨gb112,1,none⟩=some (.int .i64 a0_1):=(Zb BK112.out 1).trans rfl;have hcz22_2:w20.cell? ⟨gb112,2,none⟩=some (.int .i64 a0_2):=(Zb BK112.out 2).trans rfl;have hcz22_3:w20.cell? ⟨gb112,3,none⟩=some (.int .i64 a0_3):=(Zb BK112.out 3).trans rfl;have hcz22_4:w20.cell? ⟨gb112,4,none⟩=some (.int .i64 a0_4):=(Zb BK112.out 4).trans rfl;have hcz22_5:w20.cell? ⟨gb112,5,none⟩=some (.int .i64 a0_5):=(Zb BK112.out 5).trans rfl;have hfz22_0:=Zc BK112.out 0;have hfz22_1:=Zc BK112.out 1;have hfz22_2:=Zc BK112.out 2;have hfz22_3:=Zc BK112.out 3;have hfz22_4:=Zc BK112.out 4;have hfz22_5:=Zc BK112.out 5)|((with_reducible refine Zp (N:=3) rfl ?_);refine Zt ?hg (N:=3) ?hd (cs:= #[.int .i64 0,.int .i64 0,.int .i64 0,.int .i64 0,.int .i64 0,.int .i64 0]) (t:=80) ?hr ?_;(case hd=>rfl);(case hg=>rfl);(case hr=>exact z3_12);intro gb114 hg w23 hbox hb;have BK114:=Za (hbox);have GW114:=Za ((by rw[hg];exact(Zy z3_6):w.heap.size≤gb114));have GE114:=Za ((by rw[hg];exact(Zy z3_6):w.heap.size≤gb114));replace HB:=Za (Zj z3_6 hb);have NB112_114:=Za ((z3_15:gb112≠gb114));have NB114_112:=Za ((z3_16:gb114≠gb112));replace BK112:=Za (Zg (g:=gb112) (o:= .cells #[.int .i64 a0_0,.int .i64 a0_1,.int .i64 a0_2,.int .i64 a0_3,.int .i64 a0_4,.int .i64 a0_5] 80 (0,0)) z3_3 hb);have NB113_114:=Za ((z3_18:gb113≠gb114));have NB114_113:=Za ((z3_19:gb114≠gb113));replace BK113:=Za (Zg (g:=gb113) (o:= .cells #[.int .i64 0,.int .i64 0,.int .i64 0,.int .i64 0,.int .i64 0,.int .i64 0] 80 (0,0)) z3_7 hb);clear hb hbox hg;have hnb24:=NB114_112.out;have hnc24:=NB112_114.out;have hnb25:=NB114_113.out;have hnc25:=NB113_114.out;have hcz26_0:w23.cell? ⟨gb114,0,none⟩=some (.int .i64 0):=(Zb BK114.out 0).trans rfl;have hcz26_1:w23.cell? ⟨gb114,1,none⟩=some (.int .i64 0):=(Zb BK114.out 1).trans rfl;have hcz26_2:w23.cell? ⟨gb114,2,none⟩=some (.int .i64 0):=(Zb BK114.out 2).trans rfl;have hcz26_3:w23.cell? ⟨gb114,3,none⟩=some (.int .i64 0):=(Zb BK114.out 3).trans rfl;have hcz26_4:w23.cell? ⟨gb114,4,none⟩=some (.int .i64 0):=(Zb BK114.out 4).trans rfl;have hcz26_5:w23.cell? ⟨gb114,5,none⟩=some (.int .i64 0):=(Zb BK114.out 5).trans rfl;have hfz26_0:=Zc BK114.out 0;have hfz26_1:=Zc BK114.out 1;have hfz26_2:=Zc BK114.out 2;have hfz26_3:=Zc BK114.out 3;have hfz26_4:=Zc BK114.out 4;have hfz26_5:=Zc BK114.out 5)|((with_reducible refine Yk (t:=80) (p:=3) rfl ?_);refine Yj (t:=80) (p:=3) (v:= ?vo_w27) (w1:=((((((w23.setCell ⟨gb114,0,none⟩ (.int .i64 a0_0)).setCell ⟨gb114,1,none⟩ (.int .i64 0)).setCell ⟨gb114,2,none⟩ (.int .i64 0)).setCell ⟨gb114,3,none⟩ (.int .i64 0)).setCell ⟨gb114,4,none⟩ (.int .i64 0)).setCell ⟨gb114,5,none⟩ (.int .i64 0))) ?hg ?ho ?hn ?hr ?_;(case ho=>rfl);(case hg=>rfl);(case hn=>rfl);(case hr=>exact z3_12);intro w27 hw;have n0_:Aside0 (w27.heap[gb112]? =some (.cells #[.int .i64 a0_0,.int .i64 a0_1,.int .i64 a0_2,.int .i64 a0_3,.int .i64 a0_4,.int .i64 a0_5] 80 (0,0))):=⟨z3_5⟩;have n1_:Aside0 (w27.heap[gb113]? =some (.cells #[.int .i64 0,.int .i64 0,.int .i64 0,.int .i64 0,.int .i64 0,.int .i64 0] 80 (0,0))):=⟨z3_4⟩;have n2_:Aside0 (w27.heap[gb114]? =some (.cells #[.int .i64 a0_0,.int .i64 0,.int .i64 0,.int .i64 0,.int .i64 0,.int .i64 0] 80 (0,0))):=⟨z3_1⟩;have n3_:Aside0 (Below w.heap.size w w27):=⟨z3_2⟩;clear hw;clear BK112;clear BK113;clear BK114;clear HB;have BK112:=n0_;have BK113:=n1_;have BK114:=n2_;have HB:=n3_;clear n0_ n1_ n2_ n3_;have hcz28_0:w27.cell? ⟨gb112,0,none⟩=some (.int .i64 a0_0):=(Zb BK112.out 0).trans rfl;have hcz28_1:w27.cell? ⟨gb112,1,none⟩=some (.int .i64 a0_1):=(Zb BK112.out 1).trans rfl;have hcz28_2:w27.cell? ⟨gb112,2,none⟩=some (.int .i64 a0_2):=(Zb BK112.out 2).trans rfl;have hcz28_3:w27.cell? ⟨gb112,3,none⟩=some (.int .i64 a0_3):=(Zb BK112.out 3).trans rfl;have hcz28_4:w27.cell? ⟨gb112,4,none⟩=some (.int .i64 a0_4):=(Zb BK112.out 4).trans rfl;have hcz28_5:w27.cell? ⟨gb112,5,none⟩=some (.int .i64 a0_5):=(Zb BK112.out 5).trans rfl;have hfz28_0:=Zc BK112.out 0;have hfz28_1:=Zc BK112.out 1;have hfz28_2:=Zc BK112.out 2;have hfz28_3:=Zc BK112.out 3;have hfz28_4:=Zc BK112.out 4;have hfz28_5:=Zc BK112.out 5;have hcz29_0:w27.cell? ⟨gb114,0,none⟩=some (.int .i64 a0_0):=(Zb BK114.out 0).trans rfl;have hcz29_1:w27.cell? ⟨gb114,1,none⟩=some (.int .i64 0):=(Zb BK114.out 1).trans rfl;have hcz29_2:w27.cell? ⟨gb114,2,none⟩=some (.int .i64 0):=(Zb BK114.out 2).trans rfl;have hcz29_3:w27.cell? ⟨gb114,3,none⟩=some (.int .i64 0):=(Zb BK114.out 3).trans rfl;have hcz29_4:w27.cell? ⟨gb114,4,none⟩=some (.int .i64 0):=(Zb BK114.out 4).trans rfl;have hcz29_5:w27.cell? ⟨gb114,5,none⟩=some (.int .i64 0):=(Zb BK114.out 5).trans rfl;have hfz29_0:=Zc BK114.out 0;have hfz29_1:=Zc BK114.out 1;have hfz29_2:=Zc BK114.out 2;have hfz29_3:=Zc BK114.out 3;have hfz29_4:=Zc BK114.out 4;have hfz29_5:=Zc BK114.out 5;have hcz30_0:w27.cell? ⟨gb113,0,none⟩=some (.int .i64 0):=(Zb BK113.out 0).trans rfl;have hcz30_1:w27.cell? ⟨gb113,1,none⟩=some (.int .i64 0):=(Zb BK113.out 1).trans rfl;have hcz30_2:w27.cell? ⟨gb113,2,none⟩=some (.int .i64 0):=(Zb BK113.out 2).trans rfl;have hcz30_3:w27.cell? ⟨gb113,3,none⟩=some (.int .i64 0):=(Zb BK113.out 3).trans rfl;have hcz30_4:w27.cell? ⟨gb113,4,none⟩=some (.int .i64 0):=(Zb BK113.out 4).trans rfl;have hcz30_5:w27.cell? ⟨gb113,5,none⟩=some (.int .i64 0):=(Zb BK113.out 5).trans rfl;have hfz30_0:=Zc BK113.out 0;have hfz30_1:=Zc BK113.out 1;have hfz30_2:=Zc BK113.out 2;have hfz30_3:=Zc BK113.out 3;have hfz30_4:=Zc BK113.out 4;have hfz30_5:=Zc BK113.out 5)|((with_reducible refine Yk (t:=80) (p:=2) rfl ?_);refine Yj (t:=80) (p:=2) (v:= ?vo_w31) (w1:=((((((((w27.setCell ⟨gb114,1,none⟩ (.int .i64 a0_1)).setCell ⟨gb114,2,none⟩ (.int .i64 a0_2)).setCell ⟨gb113,0,none⟩ (.int .i64 a0_0)).setCell ⟨gb113,1,none⟩ (.int .i64 a0_1)).setCell ⟨gb113,2,none⟩ (.int .i64 a0_2)).setCell ⟨gb113,3,none⟩ (.int .i64 0)).setCell ⟨gb113,4,none⟩ (.int .i64 0)).setCell ⟨gb113,5,none⟩ (.int .i64 0))) ?hg ?ho ?hn ?hr ?_;(case ho=>rfl);(case hg=>rfl);(case hn=>rfl);(case hr=>exact z3_12);intro w31 hw;have n0_:Aside0 (w31.heap[gb112]? =some (.cells #[.int .i64 a0_0,.int .i64 a0_1,.int .i64 a0_2,.int .i64 a0_3,.int .i64 a0_4,.int .i64 a0_5] 80 (0,0))):=⟨(by rw[hw];exact(by(with_reducible repeat(first|refine blk_drewN ?_ _|refine blk_drew ?_|refine blk_alloc ?_ _));refine blk_far ?_ NB112_113.out _;(with_reducible repeat(first|refine blk_drewN ?_ _|refine blk_drew ?_|refine blk_alloc ?_ _));refine blk_far ?_ NB112_113.out _;(with_reducible repeat(first|refine blk_drewN ?_ _|refine blk_drew ?_|refine blk_alloc ?_ _));refine blk_far ?_ NB112_113.out _;(with_reducible repeat(first|refine blk_drewN ?_ _|refine blk_drew ?_|refine blk_alloc ?_ _));refine blk_far ?_ NB112_113.out _;(with_reducible repeat(first|refine blk_drewN ?_ _|refine blk_drew ?_|refine blk_alloc ?_ _));refine blk_far ?_ NB112_113.out _;(with_reducible repeat(first|refine blk_drewN ?_ _|refine blk_drew ?_|refine blk_alloc ?_ _));refine blk_far ?_ NB112_113.out _;(with_reducible repeat(first|refine blk_drewN ?_ _|refine blk_drew ?_|refine blk_alloc ?_ _));refine blk_far ?_ NB112_114.out _;(with_reducible repeat(first|refine blk_drewN ?_ _|refine blk_drew ?_|refine blk_alloc ?_ _));refine blk_far ?_ NB112_114.out _;(with_reducible repeat(first|refine blk_drewN ?_ _|refine blk_drew ?_|refine blk_alloc ?_ _));exact BK112.out))⟩;have n1_:Aside0 (w31.heap[gb113]? =some (.cells #[.int .i64 a0_0,.int .i64 a0_1,.int .i64 a0_2,.int .i64 0,.int .i64 0,.int .i64 0] 80 (0,0))):=⟨(by rw[hw];exact(by(with_reducible repeat(first|refine blk_drewN ?_ _|refine blk_drew ?_|refine blk_alloc ?_ _));refine blk_put (cs:= #[.int .i64 a0_0,.int .i64 a0_1,.int .i64 a0_2,.int .i64 0,.int .i64 0,.int .i64 0]) ?_ 5 _ rfl;(with_reducible repeat(first|refine blk_drewN ?_ _|refine blk_drew ?_|refine blk_alloc ?_ _));refine blk_put (cs:= #[.int .i64 a0_0,.int .i64 a0_1,.int .i64 a0_2,.int .i64 0,.int .i64 0,.int .i64 0]) ?_ 4 _ rfl;(with_reducible repeat(first|refine blk_drewN ?_ _|refine blk_drew ?_|refine blk_alloc ?_ _));refine blk_put (cs:= #[.int .i64 a0_0,.int .i64 a0_1,.int .i64 a0_2,.int .i64 0,.int .i64 0,.int .i64 0]) ?_ 3 _ rfl;(with_reducible repeat(first|refine blk_drewN ?_ _|refine blk_drew ?_|refine blk_alloc ?_ _));refine blk_put (cs:= #[.int .i64 a0_0,.int .i64 a0_1,.int .i64 0,.int .i64 0,.int .i64 0,.int .i64 0]) ?_ 2 _ rfl;(with_reducible repeat(first|refine blk_drewN ?_ _|refine blk_drew ?_|refine blk_alloc ?_ _));refine blk_put (cs:= #[.int .i64 a0_0,.int .i64 0,.int .i64 0,.int .i64 0,.int .i64 0,.int .i64 0]) ?_ 1 _ rfl;(with_reducible repeat(first|refine blk_drewN ?_ _|refine blk_drew ?_|refine blk_alloc ?_ _));refine blk_put (cs:= #[.int .i64 0,.int .i64 0,.int .i64 0,.int .i64 0,.int .i64 0,.int .i64 0]) ?_ 0 _ rfl;(with_reducible repeat(first|refine blk_drewN ?_ _|refine blk_drew ?_|refine blk_alloc ?_ _));refine blk_far ?_ NB113_114.out _;(with_reducible repeat(first|refine blk_drewN ?_ _|refine blk_drew ?_|refine blk_alloc ?_ _));refine blk_far ?_ NB113_114.out _;(with_reducible repeat(first|refine blk_drewN ?_ _|refine blk_drew ?_|refine blk_alloc ?_ _));exact BK113.out))⟩;have n2_:Aside0 (w31.heap[gb114]? =some (.cells #[.int .i64 a0_0,.int .i64 a0_1,.int .i64 a0_2,.int .i64 0,.int .i64 0,.int .i64 0] 80 (0,0))):=⟨(by rw[hw];exact(by(with_reducible repeat(first|refine blk_drewN ?_ _|refine blk_drew ?_|refine blk_alloc ?_ _));refine blk_far ?_ NB114_113.out _;(with_reducible repeat(first|refine blk_drewN ?_ _|refine blk_drew ?_|refine blk_alloc ?_ _));refine blk_far ?_ NB114_113.out _;(with_reducible repeat(first|refine blk_drewN ?_ _|refine blk_drew ?_|refine blk_alloc ?_ _));refine blk_far ?_ NB114_113.out _;(with_reducible repeat(first|refine blk_drewN ?_ _|refine blk_drew ?_|refine blk_alloc ?_ _));refine blk_far ?_ NB114_113.out _;(with_reducible repeat(first|refine blk_drewN ?_ _|refine blk_drew ?_|refine blk_alloc ?_ _));refine blk_far ?_ NB114_113.out _;(with_reducible repeat(first|refine blk_drewN ?_ _|refine blk_drew ?_|refine blk_alloc ?_ _));refine blk_far ?_ NB114_113.out _;(with_reducible repeat(first|refine blk_drewN ?_ _|refine blk_drew ?_|refine blk_alloc ?_ _));refine blk_put (cs:= #[.int .i64 a0_0,.int .i64 a0_1,.int .i64 0,.int .i64 0,.int .i64 0,.int .i64 0]) ?_ 2 _ rfl;(with_reducible repeat(first|refine blk_drewN ?_ _|refine blk_drew ?_|refine blk_alloc ?_ _));refine blk_put (cs:= #[.int .i64 a0_0,.int .i64 0,.int .i64 0,.int .i64 0,.int .i64 0,.int .i64 0]) ?_ 1 _ rfl;(with_reducible repeat(first|refine blk_drewN ?_ _|refine blk_drew ?_|refine blk_alloc ?_ _));exact BK114.out))⟩;have n3_:Aside0 (Below w.heap.size w w31):=⟨z3_2⟩;clear hw;clear BK112;clear BK113;clear BK114;clear HB;have BK112:=n0_;have BK113:=n1_;have BK114:=n2_;have HB:=n3_;clear n0_ n1_ n2_ n3_))
   refine bodyPost_ret (results_cell_row rfl _ _ gb113 80 #[.int .i64 a0_0,.int .i64 a0_1,.int .i64 a0_2,.int .i64 0,.int .i64 0,.int .i64 0] (0,0) _ rfl z3_7 Try.underlying80 rfl (by kernel_rfl)) rfl ?_
   exact⟨by first|rfl|(simp[errW_none,errW_some]<;>rfl)|(simp[*,errW_none,errW_some]<;>rfl)|(simp[*,errW_none,errW_some,i64_w];done),by repeat(first|(with_reducible first|exact HB.out|apply Zh|apply Zf|apply Ze|refine Zd ?_ GE112.out|refine Zd ?_ GE113.out|refine Zd ?_ GE114.out)|exact HB.out)⟩
  ·rw[if_neg c18] at H
   have c18b0:(a0_0==2)=false:=beq_eq_false_iff_ne.mpr c18
   have c18b1:(a0_0 != 2)=true:=bne_iff_ne.mpr c18
   have HC32:=Za H
   clear H
   go_enter Try.func88,Try.ntmps88
   go_upto_if 25 with(first|((with_reducible refine Zp (N:=1) rfl ?_);refine Zt ?hg (N:=1) ?hd (cs:= #[.int .i64 a0_0,.int .i64 a0_1,.int .i64 a0_2,.int .i64 a0_3,.int .i64 a0_4,.int .i64 a0_5]) (t:=80) ?hr ?_;(case hd=>rfl);(case hg=>rfl);(case hr=>exact z3_12);intro gb112 hg w33 hbox hb;have BK112:=Za (hbox);have GW112:=Za ((z3_17:w.heap.size≤gb112));have GE112:=Za ((z3_17:w.heap.size≤gb112));replace HB:=Za (Zj z3_0 hb);clear hb hbox hg)|((with_reducible refine Zp (N:=2) rfl ?_);refine Zt ?hg (N:=2) ?hd (cs:= #[.int .i64 0,.int .i64 0,.int .i64 0,.int .i64 0,.int .i64 0,.int .i64 0]) (t:=80) ?hr ?_;(case hd=>rfl);(case hg=>rfl);(case hr=>exact z3_12);intro gb113 hg w34 hbox hb;have BK113:=Za (hbox);have GW113:=Za ((by rw[hg];exact(Zy z3_8):w.heap.size≤gb113));have GE113:=Za ((by rw[hg];exact(Zy z3_8):w.heap.size≤gb113));replace HB:=Za (Zj z3_8 hb);have NB112_113:=Za ((z3_15:gb112≠gb113));have NB113_112:=Za ((z3_16:gb113≠gb112));replace BK112:=Za (Zg (g:=gb112) (o:= .cells #[.int .i64 a0_0,.int .i64 a0_1,.int .i64 a0_2,.int .i64 a0_3,.int .i64 a0_4,.int .i64 a0_5] 80 (0,0)) z3_3 hb);clear hb hbox hg;have hnb35:=NB112_113.out;have hnc35:=NB113_112.out;have hcz36_0:w34.cell? ⟨gb112,0,none⟩=some (.int .i64 a0_0):=(Zb BK112.out 0).trans rfl;have hcz36_1:w34.cell? ⟨gb112,1,none⟩=some (.int .i64 a0_1):=(Zb BK112.out 1).trans rfl;have hcz36_2:w34.cell? ⟨gb112,2,none⟩=some (.int .i64 a0_2):=(Zb BK112.out 2).trans rfl;have hcz36_3:w34.cell? ⟨gb112,3,none⟩=some (.int .i64 a0_3):=(Zb BK112.out 3).trans rfl;have hcz36_4:w34.cell? ⟨gb112,4,none⟩=some (.int .i64 a0_4):=(Zb BK112.out 4).trans rfl;have hcz36_5:w34.cell? ⟨gb112,5,none⟩=some (.int .i64 a0_5):=(Zb BK112.out 5).trans rfl;have hfz36_0:=Zc BK112.out 0;have hfz36_1:=Zc BK112.out 1;have hfz36_2:=Zc BK112.out 2;have hfz36_3:=Zc BK112.out 3;have hfz36_4:=Zc BK112.out 4;have hfz36_5:=Zc BK112.out 5)|((with_reducible refine Zp (N:=3) rfl ?_);refine Zt ?hg (N:=3) ?hd (cs:= #[.int .i64 0,.int .i64 0,.int .i64 0,.int .i64 0,.int .i64 0,.int .i64 0]) (t:=80) ?hr ?_;(case hd=>rfl);(case hg=>rfl);(case hr=>exact z3_12);intro gb114 hg w37 hbox hb;have BK114:=Za (hbox);have GW114:=Za ((by rw[hg];exact(Zy z3_6):w.heap.size≤gb114));have GE114:=Za ((by rw[hg];exact(Zy z3_6):w.heap.size≤gb114));replace HB:=Za (Zj z3_6 hb);have NB112_114:=Za ((z3_15:gb112≠gb114));have NB114_112:=Za ((z3_16:gb114≠gb112));replace BK112:=Za (Zg (g:=gb112) (o:= .cells #[.int .i64 a0_0,.int .i64 a0_1,.int .i64 a0_2,.int .i64 a0_3,.int .i64 a0_4,.int .i64 a0_5] 80 (0,0)) z3_3 hb);have NB113_114:=Za ((z3_18:gb113≠gb114));have NB114_113:=Za ((z3_19:gb114≠gb113));replace BK113:=Za (Zg (g:=gb113) (o:= .cells #[.int .i64 0,.int .i64 0,.int .i64 0,.int .i64 0,.int .i64 0,.int .i64 0] 80 (0,0)) z3_7 hb);clear hb hbox hg;have hnb38:=NB114_112.out;have hnc38:=NB112_114.out;have hnb39:=NB114_113.out;have hnc39:=NB113_114.out;have hcz40_0:w37.cell? ⟨gb114,0,none⟩=some (.int .i64 0):=(Zb BK114.out 0).trans rfl;have hcz40_1:w37.cell? ⟨gb114,1,none⟩=some (.int .i64 0):=(Zb BK114.out 1).trans rfl;have hcz40_2:w37.cell? ⟨gb114,2,none⟩=some (.int .i64 0):=(Zb BK114.out 2).trans rfl;have hcz40_3:w37.cell? ⟨gb114,3,none⟩=some (.int .i64 0):=(Zb BK114.out 3).trans rfl;have hcz40_4:w37.cell? ⟨gb114,4,none⟩=some (.int .i64 0):=(Zb BK114.out 4).trans rfl;have hcz40_5:w37.cell? ⟨gb114,5,none⟩=some (.int .i64 0):=(Zb BK114.out 5).trans rfl;have hfz40_0:=Zc BK114.out 0;have hfz40_1:=Zc BK114.out 1;have hfz40_2:=Zc BK114.out 2;have hfz40_3:=Zc BK114.out 3;have hfz40_4:=Zc BK114.out 4;have hfz40_5:=Zc BK114.out 5)|((with_reducible refine Yk (t:=80) (p:=3) rfl ?_);refine Yj (t:=80) (p:=3) (v:= ?vo_w41) (w1:=((((((w37.setCell ⟨gb114,0,none⟩ (.int .i64 a0_0)).setCell ⟨gb114,1,none⟩ (.int .i64 0)).setCell ⟨gb114,2,none⟩ (.int .i64 0)).setCell ⟨gb114,3,none⟩ (.int .i64 0)).setCell ⟨gb114,4,none⟩ (.int .i64 0)).setCell ⟨gb114,5,none⟩ (.int .i64 0))) ?hg ?ho ?hn ?hr ?_;(case ho=>rfl);(case hg=>rfl);(case hn=>rfl);(case hr=>exact z3_12);intro w41 hw;have n0_:Aside0 (w41.heap[gb112]? =some (.cells #[.int .i64 a0_0,.int .i64 a0_1,.int .i64 a0_2,.int .i64 a0_3,.int .i64 a0_4,.int .i64 a0_5] 80 (0,0))):=⟨z3_5⟩;have n1_:Aside0 (w41.heap[gb113]? =some (.cells #[.int .i64 0,.int .i64 0,.int .i64 0,.int .i64 0,.int .i64 0,.int .i64 0] 80 (0,0))):=⟨z3_4⟩;have n2_:Aside0 (w41.heap[gb114]? =some (.cells #[.int .i64 a0_0,.int .i64 0,.int .i64 0,.int .i64 0,.int .i64 0,.int .i64 0] 80 (0,0))):=⟨z3_1⟩;have n3_:Aside0 (Below w.heap.size w w41):=⟨z3_2⟩;clear hw;clear BK112;clear BK113;clear BK114;clear HB;have BK112:=n0_;have BK113:=n1_;have BK114:=n2_;have HB:=n3_;clear n0_ n1_ n2_ n3_;have hcz42_0:w41.cell? ⟨gb112,0,none⟩=some (.int .i64 a0_0):=(Zb BK112.out 0).trans rfl;have hcz42_1:w41.cell? ⟨gb112,1,none⟩=some (.int .i64 a0_1):=(Zb BK112.out 1).trans rfl;have hcz42_2:w41.cell? ⟨gb112,2,none⟩=some (.int .i64 a0_2):=(Zb BK112.out 2).trans rfl;have hcz42_3:w41.cell? ⟨gb112,3,none⟩=some (.int .i64 a0_3):=(Zb BK112.out 3).trans rfl;have hcz42_4:w41.cell? ⟨gb112,4,none⟩=some (.int .i64 a0_4):=(Zb BK112.out 4).trans rfl;have hcz42_5:w41.cell? ⟨gb112,5,none⟩=some (.int .i64 a0_5):=(Zb BK112.out 5).trans rfl;have hfz42_0:=Zc BK112.out 0;have hfz42_1:=Zc BK112.out 1;have hfz42_2:=Zc BK112.out 2;have hfz42_3:=Zc BK112.out 3;have hfz42_4:=Zc BK112.out 4;have hfz42_5:=Zc BK112.out 5))
   (try simp only[Act.put,Zq,Zr,Zs])
   go_cut [25] (fun v25 wc=>∃(kq:Nat) (x25_31:Bool),v25= .bool x25_31∧Aside0 (spec_l04Plain.j0 kq a0_0 x25_31 a0_0 a0_1 a0_2 a0_3 a0_4 a0_5 a0_0 0 0 0 0 0=some (r1,r2,r3,r4,r5,r6))∧Aside0 (kq≤k)∧Aside0 (wc.heap[gb112]? =some (.cells #[.int .i64 a0_0,.int .i64 a0_1,.int .i64 a0_2,.int .i64 a0_3,.int .i64 a0_4,.int .i64 a0_5] 80 (0,0)))∧Aside0 (wc.heap[gb113]? =some (.cells #[.int .i64 0,.int .i64 0,.int .i64 0,.int .i64 0,.int .i64 0,.int .i64 0] 80 (0,0)))∧Aside0 (wc.heap[gb114]? =some (.cells #[.int .i64 a0_0,.int .i64 0,.int .i64 0,.int .i64 0,.int .i64 0,.int .i64 0] 80 (0,0)))∧Aside0 (Below w.heap.size w wc))
   case first=>
    have H:=HC32.out
    clear HC32
    by_cases c43:a0_0=3
    ·rw[if_pos c43] at H
     have c43b0:(a0_0==3)=true:=beq_iff_eq.mpr c43
     have c43b1:(a0_0 != 3)=false:=bne_eq_false_iff_eq.mpr c43
     clear c43
     (first|rw[c43b0]|(simp only[i64_w,i32_w];rw[c43b0])|skip)
     have H':=Za H
     clear H
     go_wp2
     go_meet
     case rel=>exact⟨_,((a0_0==3)),z3_14,H',⟨by first|omega|exact Nat.le_refl _⟩,⟨by(with_reducible repeat(first|refine blk_drewN ?_ _|refine blk_drew ?_|refine blk_alloc ?_ _));exact BK112.out⟩,⟨by(with_reducible repeat(first|refine blk_drewN ?_ _|refine blk_drew ?_|refine blk_alloc ?_ _));exact BK113.out⟩,⟨by(with_reducible repeat(first|refine blk_drewN ?_ _|refine blk_drew ?_|refine blk_alloc ?_ _));exact BK114.out⟩,⟨by repeat(first|(with_reducible first|exact HB.out|apply Zh|apply Zf|apply Ze|refine Zd ?_ GE112.out|refine Zd ?_ GE113.out|refine Zd ?_ GE114.out)|exact HB.out)⟩⟩
    ·rw[if_neg c43] at H
     have c43b0:(a0_0==3)=false:=beq_eq_false_iff_ne.mpr c43
     have c43b1:(a0_0 != 3)=true:=bne_iff_ne.mpr c43
     (first|rw[c43b0]|(simp only[i64_w,i32_w];rw[c43b0])|skip)
     have H':=Za H
     clear H
     go_wp2
     go_meet
     case rel=>exact⟨_,((a0_0==4)),z3_14,H',⟨by first|omega|exact Nat.le_refl _⟩,⟨by(with_reducible repeat(first|refine blk_drewN ?_ _|refine blk_drew ?_|refine blk_alloc ?_ _));exact BK112.out⟩,⟨by(with_reducible repeat(first|refine blk_drewN ?_ _|refine blk_drew ?_|refine blk_alloc ?_ _));exact BK113.out⟩,⟨by(with_reducible repeat(first|refine blk_drewN ?_ _|refine blk_drew ?_|refine blk_alloc ?_ _));exact BK114.out⟩,⟨by repeat(first|(with_reducible first|exact HB.out|apply Zh|apply Zf|apply Ze|refine Zd ?_ GE112.out|refine Zd ?_ GE113.out|refine Zd ?_ GE114.out)|exact HB.out)⟩⟩
   case rest=>
    clear HC32
    (try clear c2);(try clear c2b0);(try clear c2b1);(try clear c18);(try clear c18b0);(try clear c18b1);(try clear hcz36_0);(try clear hcz36_1);(try clear hcz36_2);(try clear hcz36_3);(try clear hcz36_4);(try clear hcz36_5);(try clear hcz40_0);(try clear hcz40_1);(try clear hcz40_2);(try clear hcz40_3);(try clear hcz40_4);(try clear hcz40_5);(try clear hcz42_0);(try clear hcz42_1);(try clear hcz42_2);(try clear hcz42_3);(try clear hcz42_4);(try clear hcz42_5);(try clear hfz36_0);(try clear hfz36_1);(try clear hfz36_2);(try clear hfz36_3);(try clear hfz36_4);(try clear hfz36_5);(try clear hfz40_0);(try clear hfz40_1);(try clear hfz40_2);(try clear hfz40_3);(try clear hfz40_4);(try clear hfz40_5);(try clear hfz42_0);(try clear hfz42_1);(try clear hfz42_2);(try clear hfz42_3);(try clear hfz42_4);(try clear hfz42_5)
    obtain⟨kq,x25_31,rfl,HA,HJ31,BK112,BK113,BK114,HB⟩:=hcut
    cases kq with
    |zero=>exact absurd HA.out (by simp[spec_l04Plain.j0])
    |succ kj31=>
     have H:=HA.out
     clear HA
     simp only[spec_l04Plain.j0] at H
     by_cases c44:x25_31=true
     ·subst c44
      have H1:(some (a0_0,0,0,a0_3,a0_4,a0_5))=some (r1,r2,r3,r4,r5,r6):=by rw[if_pos rfl] at H;exact H
      clear H
      have H:=H1
      clear H1
      simp only[Option.some.injEq,Prod.mk.injEq] at H
      obtain⟨rfl,rfl,rfl,rfl,rfl,rfl⟩:=H
      have hnb45:=NB112_113.out
      have hnc45:=NB113_112.out
      have hnb46:=NB112_114.out
      have hnc46:=NB114_112.out
      have hcz47_0:wc.cell? ⟨gb112,0,none⟩=some (.int .i64 a0_0):=(Zb BK112.out 0).trans rfl
      have hcz47_1:wc.cell? ⟨gb112,1,none⟩=some (.int .i64 a0_1):=(Zb BK112.out 1).trans rfl
      have hcz47_2:wc.cell? ⟨gb112,2,none⟩=some (.int .i64 a0_2):=(Zb BK112.out 2).trans rfl
      have hcz47_3:wc.cell? ⟨gb112,3,none⟩=some (.int .i64 a0_3):=(Zb BK112.out 3).trans rfl
      have hcz47_4:wc.cell? ⟨gb112,4,none⟩=some (.int .i64 a0_4):=(Zb BK112.out 4).trans rfl
      have hcz47_5:wc.cell? ⟨gb112,5,none⟩=some (.int .i64 a0_5):=(Zb BK112.out 5).trans rfl
      have hfz47_0:=Zc BK112.out 0
      have hfz47_1:=Zc BK112.out 1
      have hfz47_2:=Zc BK112.out 2
      have hfz47_3:=Zc BK112.out 3
      have hfz47_4:=Zc BK112.out 4
      have hfz47_5:=Zc BK112.out 5
      have hnb48:=NB114_113.out
      have hnc48:=NB113_114.out
      have hcz49_0:wc.cell? ⟨gb114,0,none⟩=some (.int .i64 a0_0):=(Zb BK114.out 0).trans rfl
      have hcz49_1:wc.cell? ⟨gb114,1,none⟩=some (.int .i64 0):=(Zb BK114.out 1).trans rfl
      have hcz49_2:wc.cell? ⟨gb114,2,none⟩=some (.int .i64 0):=(Zb BK114.out 2).trans rfl
      have hcz49_3:wc.cell? ⟨gb114,3,none⟩=some (.int .i64 0):=(Zb BK114.out 3).trans rfl
      have hcz49_4:wc.cell? ⟨gb114,4,none⟩=some (.int .i64 0):=(Zb BK114.out 4).trans rfl
      have hcz49_5:wc.cell? ⟨gb114,5,none⟩=some (.int .i64 0):=(Zb BK114.out 5).trans rfl
      have hfz49_0:=Zc BK114.out 0
      have hfz49_1:=Zc BK114.out 1
      have hfz49_2:=Zc BK114.out 2
      have hfz49_3:=Zc BK114.out 3
      have hfz49_4:=Zc BK114.out 4
      have hfz49_5:=Zc BK114.out 5
      have hcz50_0:wc.cell? ⟨gb113,0,none⟩=some (.int .i64 0):=(Zb BK113.out 0).trans rfl
      have hcz50_1:wc.cell? ⟨gb113,1,none⟩=some (.int .i64 0):=(Zb BK113.out 1).trans rfl
      have hcz50_2:wc.cell? ⟨gb113,2,none⟩=some (.int .i64 0):=(Zb BK113.out 2).trans rfl
      have hcz50_3:wc.cell? ⟨gb113,3,none⟩=some (.int .i64 0):=(Zb BK113.out 3).trans rfl
      have hcz50_4:wc.cell? ⟨gb113,4,none⟩=some (.int .i64 0):=(Zb BK113.out 4).trans rfl
      have hcz50_5:wc.cell? ⟨gb113,5,none⟩=some (.int .i64 0):=(Zb BK113.out 5).trans rfl
      have hfz50_0:=Zc BK113.out 0
      have hfz50_1:=Zc BK113.out 1
      have hfz50_2:=Zc BK113.out 2
      have hfz50_3:=Zc BK113.out 3
      have hfz50_4:=Zc BK113.out 4
      have hfz50_5:=Zc BK113.out 5
      go_wp2_with (first|((with_reducible refine Yk (t:=80) (p:=2) rfl ?_);refine Yj (t:=80) (p:=2) (v:= ?vo_w51) (w1:=(((((((((wc.setCell ⟨gb114,3,none⟩ (.int .i64 a0_3)).setCell ⟨gb114,4,none⟩ (.int .i64 a0_4)).setCell ⟨gb114,5,none⟩ (.int .i64 a0_5)).setCell ⟨gb113,0,none⟩ (.int .i64 a0_0)).setCell ⟨gb113,1,none⟩ (.int .i64 0)).setCell ⟨gb113,2,none⟩ (.int .i64 0)).setCell ⟨gb113,3,none⟩ (.int .i64 a0_3)).setCell ⟨gb113,4,none⟩ (.int .i64 a0_4)).setCell ⟨gb113,5,none⟩ (.int .i64 a0_5))) ?hg ?ho ?hn ?hr ?_;(case ho=>rfl);(case hg=>rfl);(case hn=>rfl);(case hr=>exact z3_12);intro w51 hw;have n0_:Aside0 (w51.heap[gb112]? =some (.cells #[.int .i64 a0_0,.int .i64 a0_1,.int .i64 a0_2,.int .i64 a0_3,.int .i64 a0_4,.int .i64 a0_5] 80 (0,0))):=⟨(by rw[hw];exact(by(with_reducible repeat(first|refine blk_drewN ?_ _|refine blk_drew ?_|refine blk_alloc ?_ _));refine blk_far ?_ NB112_113.out _;(with_reducible repeat(first|refine blk_drewN ?_ _|refine blk_drew ?_|refine blk_alloc ?_ _));refine blk_far ?_ NB112_113.out _;(with_reducible repeat(first|refine blk_drewN ?_ _|refine blk_drew ?_|refine blk_alloc ?_ _));refine blk_far ?_ NB112_113.out _;(with_reducible repeat(first|refine blk_drewN ?_ _|refine blk_drew ?_|refine blk_alloc ?_ _));refine blk_far ?_ NB112_113.out _;(with_reducible repeat(first|refine blk_drewN ?_ _|refine blk_drew ?_|refine blk_alloc ?_ _));refine blk_far ?_ NB112_113.out _;(with_reducible repeat(first|refine blk_drewN ?_ _|refine blk_drew ?_|refine blk_alloc ?_ _));refine blk_far ?_ NB112_113.out _;(with_reducible repeat(first|refine blk_drewN ?_ _|refine blk_drew ?_|refine blk_alloc ?_ _));refine blk_far ?_ NB112_114.out _;(with_reducible repeat(first|refine blk_drewN ?_ _|refine blk_drew ?_|refine blk_alloc ?_ _));refine blk_far ?_ NB112_114.out _;(with_reducible repeat(first|refine blk_drewN ?_ _|refine blk_drew ?_|refine blk_alloc ?_ _));refine blk_far ?_ NB112_114.out _;(with_reducible repeat(first|refine blk_drewN ?_ _|refine blk_drew ?_|refine blk_alloc ?_ _));exact BK112.out))⟩;have n1_:Aside0 (w51.heap[gb113]? =some (.cells #[.int .i64 a0_0,.int .i64 0,.int .i64 0,.int .i64 a0_3,.int .i64 a0_4,.int .i64 a0_5] 80 (0,0))):=⟨(by rw[hw];exact(by(with_reducible repeat(first|refine blk_drewN ?_ _|refine blk_drew ?_|refine blk_alloc ?_ _));refine blk_put (cs:= #[.int .i64 a0_0,.int .i64 0,.int .i64 0,.int .i64 a0_3,.int .i64 a0_4,.int .i64 0]) ?_ 5 _ rfl;(with_reducible repeat(first|refine blk_drewN ?_ _|refine blk_drew ?_|refine blk_alloc ?_ _));refine blk_put (cs:= #[.int .i64 a0_0,.int .i64 0,.int .i64 0,.int .i64 a0_3,.int .i64 0,.int .i64 0]) ?_ 4 _ rfl;(with_reducible repeat(first|refine blk_drewN ?_ _|refine blk_drew ?_|refine blk_alloc ?_ _));refine blk_put (cs:= #[.int .i64 a0_0,.int .i64 0,.int .i64 0,.int .i64 0,.int .i64 0,.int .i64 0]) ?_ 3 _ rfl;(with_reducible repeat(first|refine blk_drewN ?_ _|refine blk_drew ?_|refine blk_alloc ?_ _));refine blk_put (cs:= #[.int .i64 a0_0,.int .i64 0,.int .i64 0,.int .i64 0,.int .i64 0,.int .i64 0]) ?_ 2 _ rfl;(with_reducible repeat(first|refine blk_drewN ?_ _|refine blk_drew ?_|refine blk_alloc ?_ _));refine blk_put (cs:= #[.int .i64 a0_0,.int .i64 0,.int .i64 0,.int .i64 0,.int .i64 0,.int .i64 0]) ?_ 1 _ rfl;(with_reducible repeat(first|refine blk_drewN ?_ _|refine blk_drew ?_|refine blk_alloc ?_ _));refine blk_put (cs:= #[.int .i64 0,.int .i64 0,.int .i64 0,.int .i64 0,.int .i64 0,.int .i64 0]) ?_ 0 _ rfl;(with_reducible repeat(first|refine blk_drewN ?_ _|refine blk_drew ?_|refine blk_alloc ?_ _));refine blk_far ?_ NB113_114.out _;(with_reducible repeat(first|refine blk_drewN ?_ _|refine blk_drew ?_|refine blk_alloc ?_ _));refine blk_far ?_ NB113_114.out _;(with_reducible repeat(first|refine blk_drewN ?_ _|refine blk_drew ?_|refine blk_alloc ?_ _));refine blk_far ?_ NB113_114.out _;(with_reducible repeat(first|refine blk_drewN ?_ _|refine blk_drew ?_|refine blk_alloc ?_ _));exact BK113.out))⟩;have n2_:Aside0 (w51.heap[gb114]? =some (.cells #[.int .i64 a0_0,.int .i64 0,.int .i64 0,.int .i64 a0_3,.int .i64 a0_4,.int .i64 a0_5] 80 (0,0))):=⟨(by rw[hw];exact(by(with_reducible repeat(first|refine blk_drewN ?_ _|refine blk_drew ?_|refine blk_alloc ?_ _));refine blk_far ?_ NB114_113.out _;(with_reducible repeat(first|refine blk_drewN ?_ _|refine blk_drew ?_|refine blk_alloc ?_ _));refine blk_far ?_ NB114_113.out _;(with_reducible repeat(first|refine blk_drewN ?_ _|refine blk_drew ?_|refine blk_alloc ?_ _));refine blk_far ?_ NB114_113.out _;(with_reducible repeat(first|refine blk_drewN ?_ _|refine blk_drew ?_|refine blk_alloc ?_ _));refine blk_far ?_ NB114_113.out _;(with_reducible repeat(first|refine blk_drewN ?_ _|refine blk_drew ?_|refine blk_alloc ?_ _));refine blk_far ?_ NB114_113.out _;(with_reducible repeat(first|refine blk_drewN ?_ _|refine blk_drew ?_|refine blk_alloc ?_ _));refine blk_far ?_ NB114_113.out _;(with_reducible repeat(first|refine blk_drewN ?_ _|refine blk_drew ?_|refine blk_alloc ?_ _));refine blk_put (cs:= #[.int .i64 a0_0,.int .i64 0,.int .i64 0,.int .i64 a0_3,.int .i64 a0_4,.int .i64 0]) ?_ 5 _ rfl;(with_reducible repeat(first|refine blk_drewN ?_ _|refine blk_drew ?_|refine blk_alloc ?_ _));refine blk_put (cs:= #[.int .i64 a0_0,.int .i64 0,.int .i64 0,.int .i64 a0_3,.int .i64 0,.int .i64 0]) ?_ 4 _ rfl;(with_reducible repeat(first|refine blk_drewN ?_ _|refine blk_drew ?_|refine blk_alloc ?_ _));refine blk_put (cs:= #[.int .i64 a0_0,.int .i64 0,.int .i64 0,.int .i64 0,.int .i64 0,.int .i64 0]) ?_ 3 _ rfl;(with_reducible repeat(first|refine blk_drewN ?_ _|refine blk_drew ?_|refine blk_alloc ?_ _));exact BK114.out))⟩;have n3_:Aside0 (Below w.heap.size w w51):=⟨z3_2⟩;clear hw;clear BK112;clear BK113;clear BK114;clear HB;have BK112:=n0_;have BK113:=n1_;have BK114:=n2_;have HB:=n3_;clear n0_ n1_ n2_ n3_))
      refine bodyPost_ret (results_cell_row rfl _ _ gb113 80 #[.int .i64 a0_0,.int .i64 0,.int .i64 0,.int .i64 a0_3,.int .i64 a0_4,.int .i64 a0_5] (0,0) _ rfl z3_7 Try.underlying80 rfl (by kernel_rfl)) rfl ?_
      exact⟨by first|rfl|(simp[errW_none,errW_some]<;>rfl)|(simp[*,errW_none,errW_some]<;>rfl)|(simp[*,errW_none,errW_some,i64_w];done),by repeat(first|(with_reducible first|exact HB.out|apply Zh|apply Zf|apply Ze|refine Zd ?_ GE112.out|refine Zd ?_ GE113.out|refine Zd ?_ GE114.out)|exact HB.out)⟩
     ·replace c44:=Bool.eq_false_iff.mpr c44
      subst c44
      have H1:(if a0_0=5 then (some (a0_0,0,a0_2,0,0,0)) else (some (a0_0,0,0,0,0,0)))=some (r1,r2,r3,r4,r5,r6):=by rw[if_neg (show ¬(false=true) by decide)] at H;exact H
      clear H
      have H:=H1
      clear H1
      by_cases c52:a0_0=5
      ·rw[if_pos c52] at H
       have c52b0:(a0_0==5)=true:=beq_iff_eq.mpr c52
       have c52b1:(a0_0 != 5)=false:=bne_eq_false_iff_eq.mpr c52
       clear c52
       simp only[Option.some.injEq,Prod.mk.injEq] at H
       obtain⟨rfl,rfl,rfl,rfl,rfl,rfl⟩:=H
       have hnb53:=NB112_113.out
       have hnc53:=NB113_112.out
       have hnb54:=NB112_114.out
       have hnc54:=NB114_112.out
       have hcz55_0:wc.cell? ⟨gb112,0,none⟩=some (.int .i64 a0_0):=(Zb BK112.out 0).trans rfl
       have hcz55_1:wc.cell? ⟨gb112,1,none⟩=some (.int .i64 a0_1):=(Zb BK112.out 1).trans rfl
       have hcz55_2:wc.cell? ⟨gb112,2,none⟩=some (.int .i64 a0_2):=(Zb BK112.out 2).trans rfl
       have hcz55_3:wc.cell? ⟨gb112,3,none⟩=some (.int .i64 a0_3):=(Zb BK112.out 3).trans rfl
       have hcz55_4:wc.cell? ⟨gb112,4,none⟩=some (.int .i64 a0_4):=(Zb BK112.out 4).trans rfl
       have hcz55_5:wc.cell? ⟨gb112,5,none⟩=some (.int .i64 a0_5):=(Zb BK112.out 5).trans rfl
       have hfz55_0:=Zc BK112.out 0
       have hfz55_1:=Zc BK112.out 1
       have hfz55_2:=Zc BK112.out 2
       have hfz55_3:=Zc BK112.out 3
       have hfz55_4:=Zc BK112.out 4
       have hfz55_5:=Zc BK112.out 5
       have hnb56:=NB114_113.out
       have hnc56:=NB113_114.out
       have hcz57_0:wc.cell? ⟨gb114,0,none⟩=some (.int .i64 a0_0):=(Zb BK114.out 0).trans rfl
       have hcz57_1:wc.cell? ⟨gb114,1,none⟩=some (.int .i64 0):=(Zb BK114.out 1).trans rfl
       have hcz57_2:wc.cell? ⟨gb114,2,none⟩=some (.int .i64 0):=(Zb BK114.out 2).trans rfl
       have hcz57_3:wc.cell? ⟨gb114,3,none⟩=some (.int .i64 0):=(Zb BK114.out 3).trans rfl
       have hcz57_4:wc.cell? ⟨gb114,4,none⟩=some (.int .i64 0):=(Zb BK114.out 4).trans rfl
       have hcz57_5:wc.cell? ⟨gb114,5,none⟩=some (.int .i64 0):=(Zb BK114.out 5).trans rfl
       have hfz57_0:=Zc BK114.out 0
       have hfz57_1:=Zc BK114.out 1
       have hfz57_2:=Zc BK114.out 2
       have hfz57_3:=Zc BK114.out 3
       have hfz57_4:=Zc BK114.out 4
       have hfz57_5:=Zc BK114.out 5
       have hcz58_0:wc.cell? ⟨gb113,0,none⟩=some (.int .i64 0):=(Zb BK113.out 0).trans rfl
       have hcz58_1:wc.cell? ⟨gb113,1,none⟩=some (.int .i64 0):=(Zb BK113.out 1).trans rfl
       have hcz58_2:wc.cell? ⟨gb113,2,none⟩=some (.int .i64 0):=(Zb BK113.out 2).trans rfl
       have hcz58_3:wc.cell? ⟨gb113,3,none⟩=some (.int .i64 0):=(Zb BK113.out 3).trans rfl
       have hcz58_4:wc.cell? ⟨gb113,4,none⟩=some (.int .i64 0):=(Zb BK113.out 4).trans rfl
       have hcz58_5:wc.cell? ⟨gb113,5,none⟩=some (.int .i64 0):=(Zb BK113.out 5).trans rfl
       have hfz58_0:=Zc BK113.out 0
       have hfz58_1:=Zc BK113.out 1
       have hfz58_2:=Zc BK113.out 2
       have hfz58_3:=Zc BK113.out 3
       have hfz58_4:=Zc BK113.out 4
       have hfz58_5:=Zc BK113.out 5
       go_wp2_with (first|((with_reducible refine Yk (t:=80) (p:=2) rfl ?_);refine Yj (t:=80) (p:=2) (v:= ?vo_w59) (w1:=(((((((wc.setCell ⟨gb114,2,none⟩ (.int .i64 a0_2)).setCell ⟨gb113,0,none⟩ (.int .i64 a0_0)).setCell ⟨gb113,1,none⟩ (.int .i64 0)).setCell ⟨gb113,2,none⟩ (.int .i64 a0_2)).setCell ⟨gb113,3,none⟩ (.int .i64 0)).setCell ⟨gb113,4,none⟩ (.int .i64 0)).setCell ⟨gb113,5,none⟩ (.int .i64 0))) ?hg ?ho ?hn ?hr ?_;(case ho=>rfl);(case hg=>rfl);(case hn=>rfl);(case hr=>exact z3_12);intro w59 hw;have n0_:Aside0 (w59.heap[gb112]? =some (.cells #[.int .i64 a0_0,.int .i64 a0_1,.int .i64 a0_2,.int .i64 a0_3,.int .i64 a0_4,.int .i64 a0_5] 80 (0,0))):=⟨(by rw[hw];exact(by(with_reducible repeat(first|refine blk_drewN ?_ _|refine blk_drew ?_|refine blk_alloc ?_ _));refine blk_far ?_ NB112_113.out _;(with_reducible repeat(first|refine blk_drewN ?_ _|refine blk_drew ?_|refine blk_alloc ?_ _));refine blk_far ?_ NB112_113.out _;(with_reducible repeat(first|refine blk_drewN ?_ _|refine blk_drew ?_|refine blk_alloc ?_ _));refine blk_far ?_ NB112_113.out _;(with_reducible repeat(first|refine blk_drewN ?_ _|refine blk_drew ?_|refine blk_alloc ?_ _));refine blk_far ?_ NB112_113.out _;(with_reducible repeat(first|refine blk_drewN ?_ _|refine blk_drew ?_|refine blk_alloc ?_ _));refine blk_far ?_ NB112_113.out _;(with_reducible repeat(first|refine blk_drewN ?_ _|refine blk_drew ?_|refine blk_alloc ?_ _));refine blk_far ?_ NB112_113.out _;(with_reducible repeat(first|refine blk_drewN ?_ _|refine blk_drew ?_|refine blk_alloc ?_ _));refine blk_far ?_ NB112_114.out _;(with_reducible repeat(first|refine blk_drewN ?_ _|refine blk_drew ?_|refine blk_alloc ?_ _));exact BK112.out))⟩;have n1_:Aside0 (w59.heap[gb113]? =some (.cells #[.int .i64 a0_0,.int .i64 0,.int .i64 a0_2,.int .i64 0,.int .i64 0,.int .i64 0] 80 (0,0))):=⟨(by rw[hw];exact(by(with_reducible repeat(first|refine blk_drewN ?_ _|refine blk_drew ?_|refine blk_alloc ?_ _));refine blk_put (cs:= #[.int .i64 a0_0,.int .i64 0,.int .i64 a0_2,.int .i64 0,.int .i64 0,.int .i64 0]) ?_ 5 _ rfl;(with_reducible repeat(first|refine blk_drewN ?_ _|refine blk_drew ?_|refine blk_alloc ?_ _));refine blk_put (cs:= #[.int .i64 a0_0,.int .i64 0,.int .i64 a0_2,.int .i64 0,.int .i64 0,.int .i64 0]) ?_ 4 _ rfl;(with_reducible repeat(first|refine blk_drewN ?_ _|refine blk_drew ?_|refine blk_alloc ?_ _));refine blk_put (cs:= #[.int .i64 a0_0,.int .i64 0,.int .i64 a0_2,.int .i64 0,.int .i64 0,.int .i64 0]) ?_ 3 _ rfl;(with_reducible repeat(first|refine blk_drewN ?_ _|refine blk_drew ?_|refine blk_alloc ?_ _));refine blk_put (cs:= #[.int .i64 a0_0,.int .i64 0,.int .i64 0,.int .i64 0,.int .i64 0,.int .i64 0]) ?_ 2 _ rfl;(with_reducible repeat(first|refine blk_drewN ?_ _|refine blk_drew ?_|refine blk_alloc ?_ _));refine blk_put (cs:= #[.int .i64 a0_0,.int .i64 0,.int .i64 0,.int .i64 0,.int .i64 0,.int .i64 0]) ?_ 1 _ rfl;(with_reducible repeat(first|refine blk_drewN ?_ _|refine blk_drew ?_|refine blk_alloc ?_ _));refine blk_put (cs:= #[.int .i64 0,.int .i64 0,.int .i64 0,.int .i64 0,.int .i64 0,.int .i64 0]) ?_ 0 _ rfl;(with_reducible repeat(first|refine blk_drewN ?_ _|refine blk_drew ?_|refine blk_alloc ?_ _));refine blk_far ?_ NB113_114.out _;(with_reducible repeat(first|refine blk_drewN ?_ _|refine blk_drew ?_|refine blk_alloc ?_ _));exact BK113.out))⟩;have n2_:Aside0 (w59.heap[gb114]? =some (.cells #[.int .i64 a0_0,.int .i64 0,.int .i64 a0_2,.int .i64 0,.int .i64 0,.int .i64 0] 80 (0,0))):=⟨(by rw[hw];exact(by(with_reducible repeat(first|refine blk_drewN ?_ _|refine blk_drew ?_|refine blk_alloc ?_ _));refine blk_far ?_ NB114_113.out _;(with_reducible repeat(first|refine blk_drewN ?_ _|refine blk_drew ?_|refine blk_alloc ?_ _));refine blk_far ?_ NB114_113.out _;(with_reducible repeat(first|refine blk_drewN ?_ _|refine blk_drew ?_|refine blk_alloc ?_ _));refine blk_far ?_ NB114_113.out _;(with_reducible repeat(first|refine blk_drewN ?_ _|refine blk_drew ?_|refine blk_alloc ?_ _));refine blk_far ?_ NB114_113.out _;(with_reducible repeat(first|refine blk_drewN ?_ _|refine blk_drew ?_|refine blk_alloc ?_ _));refine blk_far ?_ NB114_113.out _;(with_reducible repeat(first|refine blk_drewN ?_ _|refine blk_drew ?_|refine blk_alloc ?_ _));refine blk_far ?_ NB114_113.out _;(with_reducible repeat(first|refine blk_drewN ?_ _|refine blk_drew ?_|refine blk_alloc ?_ _));refine blk_put (cs:= #[.int .i64 a0_0,.int .i64 0,.int .i64 0,.int .i64 0,.int .i64 0,.int .i64 0]) ?_ 2 _ rfl;(with_reducible repeat(first|refine blk_drewN ?_ _|refine blk_drew ?_|refine blk_alloc ?_ _));exact BK114.out))⟩;have n3_:Aside0 (Below w.heap.size w w59):=⟨z3_2⟩;clear hw;clear BK112;clear BK113;clear BK114;clear HB;have BK112:=n0_;have BK113:=n1_;have BK114:=n2_;have HB:=n3_;clear n0_ n1_ n2_ n3_))
       refine bodyPost_ret (results_cell_row rfl _ _ gb113 80 #[.int .i64 a0_0,.int .i64 0,.int .i64 a0_2,.int .i64 0,.int .i64 0,.int .i64 0] (0,0) _ rfl z3_7 Try.underlying80 rfl (by kernel_rfl)) rfl ?_
       exact⟨by first|rfl|(simp[errW_none,errW_some]<;>rfl)|(simp[*,errW_none,errW_some]<;>rfl)|(simp[*,errW_none,errW_some,i64_w];done),by repeat(first|(with_reducible first|exact HB.out|apply Zh|apply Zf|apply Ze|refine Zd ?_ GE112.out|refine Zd ?_ GE113.out|refine Zd ?_ GE114.out)|exact HB.out)⟩
      ·rw[if_neg c52] at H
       have c52b0:(a0_0==5)=false:=beq_eq_false_iff_ne.mpr c52
       have c52b1:(a0_0 != 5)=true:=bne_iff_ne.mpr c52
       simp only[Option.some.injEq,Prod.mk.injEq] at H
       obtain⟨rfl,rfl,rfl,rfl,rfl,rfl⟩:=H
       have hnb60:=NB114_112.out
       have hnc60:=NB112_114.out
       have hnb61:=NB114_113.out
       have hnc61:=NB113_114.out
       have hcz62_0:wc.cell? ⟨gb114,0,none⟩=some (.int .i64 a0_0):=(Zb BK114.out 0).trans rfl
       have hcz62_1:wc.cell? ⟨gb114,1,none⟩=some (.int .i64 0):=(Zb BK114.out 1).trans rfl
       have hcz62_2:wc.cell? ⟨gb114,2,none⟩=some (.int .i64 0):=(Zb BK114.out 2).trans rfl
       have hcz62_3:wc.cell? ⟨gb114,3,none⟩=some (.int .i64 0):=(Zb BK114.out 3).trans rfl
       have hcz62_4:wc.cell? ⟨gb114,4,none⟩=some (.int .i64 0):=(Zb BK114.out 4).trans rfl
       have hcz62_5:wc.cell? ⟨gb114,5,none⟩=some (.int .i64 0):=(Zb BK114.out 5).trans rfl
       have hfz62_0:=Zc BK114.out 0
       have hfz62_1:=Zc BK114.out 1
       have hfz62_2:=Zc BK114.out 2
       have hfz62_3:=Zc BK114.out 3
       have hfz62_4:=Zc BK114.out 4
       have hfz62_5:=Zc BK114.out 5
       have hnb63:=NB113_112.out
       have hnc63:=NB112_113.out
       have hcz64_0:wc.cell? ⟨gb113,0,none⟩=some (.int .i64 0):=(Zb BK113.out 0).trans rfl
       have hcz64_1:wc.cell? ⟨gb113,1,none⟩=some (.int .i64 0):=(Zb BK113.out 1).trans rfl
       have hcz64_2:wc.cell? ⟨gb113,2,none⟩=some (.int .i64 0):=(Zb BK113.out 2).trans rfl
       have hcz64_3:wc.cell? ⟨gb113,3,none⟩=some (.int .i64 0):=(Zb BK113.out 3).trans rfl
       have hcz64_4:wc.cell? ⟨gb113,4,none⟩=some (.int .i64 0):=(Zb BK113.out 4).trans rfl
       have hcz64_5:wc.cell? ⟨gb113,5,none⟩=some (.int .i64 0):=(Zb BK113.out 5).trans rfl
       have hfz64_0:=Zc BK113.out 0
       have hfz64_1:=Zc BK113.out 1
       have hfz64_2:=Zc BK113.out 2
       have hfz64_3:=Zc BK113.out 3
       have hfz64_4:=Zc BK113.out 4
       have hfz64_5:=Zc BK113.out 5
       go_wp2_with (first|((with_reducible refine Yk (t:=80) (p:=2) rfl ?_);refine Yj (t:=80) (p:=2) (v:= ?vo_w65) (w1:=((((((wc.setCell ⟨gb113,0,none⟩ (.int .i64 a0_0)).setCell ⟨gb113,1,none⟩ (.int .i64 0)).setCell ⟨gb113,2,none⟩ (.int .i64 0)).setCell ⟨gb113,3,none⟩ (.int .i64 0)).setCell ⟨gb113,4,none⟩ (.int .i64 0)).setCell ⟨gb113,5,none⟩ (.int .i64 0))) ?hg ?ho ?hn ?hr ?_;(case ho=>rfl);(case hg=>rfl);(case hn=>rfl);(case hr=>exact z3_12);intro w65 hw;have n0_:Aside0 (w65.heap[gb112]? =some (.cells #[.int .i64 a0_0,.int .i64 a0_1,.int .i64 a0_2,.int .i64 a0_3,.int .i64 a0_4,.int .i64 a0_5] 80 (0,0))):=⟨z3_11⟩;have n1_:Aside0 (w65.heap[gb113]? =some (.cells #[.int .i64 a0_0,.int .i64 0,.int .i64 0,.int .i64 0,.int .i64 0,.int .i64 0] 80 (0,0))):=⟨(by rw[hw];exact(by(with_reducible repeat(first|refine blk_drewN ?_ _|refine blk_drew ?_|refine blk_alloc ?_ _));refine blk_put (cs:= #[.int .i64 a0_0,.int .i64 0,.int .i64 0,.int .i64 0,.int .i64 0,.int .i64 0]) ?_ 5 _ rfl;(with_reducible repeat(first|refine blk_drewN ?_ _|refine blk_drew ?_|refine blk_alloc ?_ _));refine blk_put (cs:= #[.int .i64 a0_0,.int .i64 0,.int .i64 0,.int .i64 0,.int .i64 0,.int .i64 0]) ?_ 4 _ rfl;(with_reducible repeat(first|refine blk_drewN ?_ _|refine blk_drew ?_|refine blk_alloc ?_ _));refine blk_put (cs:= #[.int .i64 a0_0,.int .i64 0,.int .i64 0,.int .i64 0,.int .i64 0,.int .i64 0]) ?_ 3 _ rfl;(with_reducible repeat(first|refine blk_drewN ?_ _|refine blk_drew ?_|refine blk_alloc ?_ _));refine blk_put (cs:= #[.int .i64 a0_0,.int .i64 0,.int .i64 0,.int .i64 0,.int .i64 0,.int .i64 0]) ?_ 2 _ rfl;(with_reducible repeat(first|refine blk_drewN ?_ _|refine blk_drew ?_|refine blk_alloc ?_ _));refine blk_put (cs:= #[.int .i64 a0_0,.int .i64 0,.int .i64 0,.int .i64 0,.int .i64 0,.int .i64 0]) ?_ 1 _ rfl;(with_reducible repeat(first|refine blk_drewN ?_ _|refine blk_drew ?_|refine blk_alloc ?_ _));refine blk_put (cs:= #[.int .i64 0,.int .i64 0,.int .i64 0,.int .i64 0,.int .i64 0,.int .i64 0]) ?_ 0 _ rfl;(with_reducible repeat(first|refine blk_drewN ?_ _|refine blk_drew ?_|refine blk_alloc ?_ _));exact BK113.out))⟩;have n2_:Aside0 (w65.heap[gb114]? =some (.cells #[.int .i64 a0_0,.int .i64 0,.int .i64 0,.int .i64 0,.int .i64 0,.int .i64 0] 80 (0,0))):=⟨z3_10⟩;have n3_:Aside0 (Below w.heap.size w w65):=⟨z3_2⟩;clear hw;clear BK112;clear BK113;clear BK114;clear HB;have BK112:=n0_;have BK113:=n1_;have BK114:=n2_;have HB:=n3_;clear n0_ n1_ n2_ n3_))
       refine bodyPost_ret (results_cell_row rfl _ _ gb113 80 #[.int .i64 a0_0,.int .i64 0,.int .i64 0,.int .i64 0,.int .i64 0,.int .i64 0] (0,0) _ rfl z3_7 Try.underlying80 rfl (by kernel_rfl)) rfl ?_
       exact⟨by first|rfl|(simp[errW_none,errW_some]<;>rfl)|(simp[*,errW_none,errW_some]<;>rfl)|(simp[*,errW_none,errW_some,i64_w];done),by repeat(first|(with_reducible first|exact HB.out|apply Zh|apply Zf|apply Ze|refine Zd ?_ GE112.out|refine Zd ?_ GE113.out|refine Zd ?_ GE114.out)|exact HB.out)⟩
end Go.Proofs.Ytlolppaddphpoaa.G
