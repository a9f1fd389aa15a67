/- Functions of the program as plain Lean functions, and that each call comes to its function's answer; written by a program of the session. No condition. -/
import Derived.Test.YtlolppaddphpoaaGx0
namespace Go.Proofs.Ytlolppaddphpoaa.G
open Go.RowKit Go.Proofs.YtlolppaddphpoaaW.PrintWords Go.Proofs.YtlolppaddphpoaaW.PrintLast Go.Proofs.YtlolppaddphpoaaW.PrintMore
attribute [local go_sem] max2_int min2_int max_two min_two max_three min_three max_four min_four   -- for this text's walks alone
set_option linter.unusedVariables false
set_option linter.unusedSimpArgs false
theorem z3_0 {P:Prop} (h:P:=by repeat(first|(with_reducible first|exact HB.out|apply Zh|apply Ze|apply Zd)|exact HB.out)):P:=h
theorem z3_1 {P:Prop} (h:P:=by(try simp only[Yn,List.map_cons,List.map_nil]);first|done|rfl|(simp only[List.length_drop,List.length_take];rfl)):P:=h
theorem z3_2 {P:Prop} (h:P:=by repeat(first|(with_reducible first|exact HB.out|apply Zh|apply Ze|apply Zd|refine Zf ?_ GE160.out)|exact HB.out)):P:=h
theorem z3_3 {P:Prop} (h:P:=by(with_reducible repeat(first|refine blk_drewN ?_ _|refine blk_drew ?_|refine blk_alloc ?_ _));exact BK160.out):P:=h
theorem z3_4 {P:Prop} (h:P:=by repeat(first|(with_reducible first|exact HB.out|apply Zh|apply Ze|apply Zd|refine Zf ?_ GE158.out)|exact HB.out)):P:=h
theorem z3_5 {P:Prop} (h:P:=by first|(with_reducible assumption)|assumption):P:=h
theorem z3_6 {P:Prop} (h:P:=by first|(go_simp;done)|(go_simp;rfl)):P:=h
theorem z3_7 {P:Prop} (h:P:=by(with_reducible repeat(first|refine blk_drewN ?_ _|refine blk_drew ?_|refine blk_alloc ?_ _));exact BK166.out):P:=h
theorem z3_8 {P:Prop} (h:P:=by repeat(first|exact(Yb HR0_0.out HB.out)|(with_reducible refine Yd ?_ _)|(with_reducible refine Ye ?_ _)|(with_reducible refine Yf ?_))):P:=h
theorem z3_9 {P:Prop} (h:P:=by repeat(first|(with_reducible first|exact HB.out|apply Zh|apply Ze|apply Zd|refine Zf ?_ GE166.out)|exact HB.out)):P:=h
theorem z3_10 {P:Prop} (h:P:=by(with_reducible repeat(first|refine blk_drewN ?_ _|refine blk_drew ?_|refine blk_alloc ?_ _));exact BK158.out):P:=h
theorem z3_11 {P:Prop} (h:P:=by repeat(first|(with_reducible first|exact HB.out|apply Zh|apply Ze|apply Zd|refine Zf ?_ GE166.out|refine Zf ?_ GE167.out)|exact HB.out)):P:=h
theorem z3_12 {P:Prop} (h:P:=by(with_reducible repeat(first|refine blk_drewN ?_ _|refine blk_drew ?_|refine blk_alloc ?_ _));exact BK147.out):P:=h
theorem z3_13 {P:Prop} (h:P:=by(with_reducible repeat(first|refine blk_drewN ?_ _|refine blk_drew ?_|refine blk_alloc ?_ _));exact BK127.out):P:=h
theorem z3_14 {P:Prop} (h:P:=by repeat(first|(with_reducible first|exact HB.out|apply Zh|apply Ze|apply Zd|refine Zf ?_ GE127.out|refine Zf ?_ GE128.out|refine Zf ?_ GE129.out)|exact HB.out)):P:=h
theorem z3_15 {P:Prop} (h:P:=by(with_reducible repeat(first|refine blk_drewN ?_ _|refine blk_drew ?_|refine blk_alloc ?_ _));exact BK110.out):P:=h
theorem z3_16 {P:Prop} (h:P:=by(with_reducible repeat(first|refine blk_drewN ?_ _|refine blk_drew ?_|refine blk_alloc ?_ _));exact BK107.out):P:=h
theorem z3_17 {P:Prop} (h:P:=by first|rfl|(simp;done)|(simp[*];done)):P:=h
theorem z3_18 {P:Prop} (h:P:=by(with_reducible repeat(first|refine blk_drewN ?_ _|refine blk_drew ?_|refine blk_alloc ?_ _));exact BK167.out):P:=h
theorem z3_19 {P:Prop} (h:P:=by(with_reducible repeat(first|refine blk_drewN ?_ _|refine blk_drew ?_|refine blk_alloc ?_ _));exact BK128.out):P:=h
theorem z3_20 {P:Prop} (h:P:=by repeat(first|(with_reducible first|exact HB.out|apply Zh|apply Ze|apply Zd|refine Zf ?_ GE147.out|refine Zf ?_ GE148.out)|exact HB.out)):P:=h
theorem z3_21 {P:Prop} (h:P:=by repeat(first|(with_reducible first|exact HB.out|apply Zh|apply Ze|apply Zd|refine Zf ?_ GE127.out|refine Zf ?_ GE128.out)|exact HB.out)):P:=h
theorem z3_22 {P:Prop} (h:P:=by repeat(first|(with_reducible first|exact HB.out|apply Zh|apply Ze|apply Zd|refine Zf ?_ GE110.out|refine Zf ?_ GE111.out)|exact HB.out)):P:=h
theorem z3_23 {P:Prop} (h:P:=by repeat(first|(with_reducible first|exact HB.out|apply Zh|apply Ze|apply Zd|refine Zf ?_ GE107.out|refine Zf ?_ GE108.out)|exact HB.out)):P:=h
theorem z3_24 {P:Prop} (h:P:=by kernel_rfl):P:=h
theorem z3_25 {P:Prop} (h:P:=by repeat(first|exact(Yb HR1_0.out HB.out)|(with_reducible refine Yd ?_ _)|(with_reducible refine Ye ?_ _)|(with_reducible refine Yf ?_))):P:=h
theorem z3_26 {P:Prop} (h:P:=by(with_reducible repeat(first|refine blk_drewN ?_ _|refine blk_drew ?_|refine blk_alloc ?_ _));exact BK148.out):P:=h
theorem z3_27 {P:Prop} (h:P:=by(with_reducible repeat(first|refine blk_drewN ?_ _|refine blk_drew ?_|refine blk_alloc ?_ _));exact BK111.out):P:=h
theorem z3_28 {P:Prop} (h:P:=by(with_reducible repeat(first|refine blk_drewN ?_ _|refine blk_drew ?_|refine blk_alloc ?_ _));exact BK108.out):P:=h
theorem z3_29 {P:Prop} (h:P:=by repeat(first|(with_reducible first|exact HB.out|apply Zh|apply Ze|apply Zd|refine Zf ?_ GE147.out)|exact HB.out)):P:=h
theorem z3_30 {P:Prop} (h:P:=by repeat(first|(with_reducible first|exact HB.out|apply Zh|apply Ze|apply Zd|refine Zf ?_ GE127.out)|exact HB.out)):P:=h
theorem z3_31 {P:Prop} (h:P:=by repeat(first|(with_reducible first|exact HB.out|apply Zh|apply Ze|apply Zd|refine Zf ?_ GE110.out)|exact HB.out)):P:=h
theorem z3_32 {P:Prop} (h:P:=by repeat(first|(with_reducible first|exact HB.out|apply Zh|apply Ze|apply Zd|refine Zf ?_ GE107.out)|exact HB.out)):P:=h
theorem z3_33 {P:Prop} (h:P:=by repeat(first|(with_reducible first|exact HB.out|apply Zh|apply Ze|apply Zd|refine Zf ?_ GE147.out|refine Zf ?_ GE148.out|refine Zf ?_ GE149.out)|exact HB.out)):P:=h
theorem z3_34 {P:Prop} (h:P:=by repeat(first|(with_reducible first|exact HB.out|apply Zh|apply Ze|apply Zd|refine Zf ?_ GE110.out|refine Zf ?_ GE111.out|refine Zf ?_ GE112.out)|exact HB.out)):P:=h
theorem z3_35 {P:Prop} (h:P:=by rw[hg];exact(Zw z3_0)):P:=h
theorem z3_36 {P:Prop} (h:P:=by rw[hg];exact Nat.ne_of_lt (blk_lt (g:=gb160) (o:= .cells #[.int .i64 a0_0,.int .i64 a0_1,.int .i64 a0_2,.int .i64 a0_3,.int .i64 a0_4,.int .i64 a0_5] 80 (0,0)) z3_3)):P:=h
theorem z3_37 {P:Prop} (h:P:=by rw[hg];exact Nat.ne_of_gt (blk_lt (g:=gb160) (o:= .cells #[.int .i64 a0_0,.int .i64 a0_1,.int .i64 a0_2,.int .i64 a0_3,.int .i64 a0_4,.int .i64 a0_5] 80 (0,0)) z3_3)):P:=h
theorem z3_38 {P:Prop} (h:P:=by rw[hg];exact Nat.ne_of_lt (blk_lt (g:=gb158) (o:= .cells #[.int .i64 a0_0,.int .i64 a0_1,.int .i64 a0_2] 62 (0,0)) z3_10)):P:=h
theorem z3_39 {P:Prop} (h:P:=by rw[hg];exact Nat.ne_of_gt (blk_lt (g:=gb158) (o:= .cells #[.int .i64 a0_0,.int .i64 a0_1,.int .i64 a0_2] 62 (0,0)) z3_10)):P:=h
theorem z3_40 {P:Prop} (h:P:=by rw[hg];exact Nat.ne_of_lt (blk_lt (g:=gb166) (o:= .cells #[.slice A0_0 l0_0.length c0_0,.int .i64 a0_1,.int .i64 a0_2,.int .i64 a0_3] 64 (0,0)) z3_7)):P:=h
theorem z3_41 {P:Prop} (h:P:=by rw[hg];exact Nat.ne_of_gt (blk_lt (g:=gb166) (o:= .cells #[.slice A0_0 l0_0.length c0_0,.int .i64 a0_1,.int .i64 a0_2,.int .i64 a0_3] 64 (0,0)) z3_7)):P:=h
theorem z3_42 {P:Prop} (h:P:=by rw[hg];exact(Zw z3_2)):P:=h
theorem z3_43 {P:Prop} (h:P:=by rw[hg];exact(Zw z3_4)):P:=h
def laws_szStmtS.f (l0:List (S99)) (a1:Int):Option (Int):=if (wrap64 (a1 - (l0.length:Int)))<0 then (some (-1)) else (some (wrap64 (a1 - (l0.length:Int))))
set_option maxHeartbeats 8000000 in
set_option maxRecDepth 100000 in
theorem laws_szStmtS.calls (A0:Option Addr) (c0:Nat) (l0:List (S99)) (a1:Int) (r:Int) (w:World) (hr0:Kd.C k99 w A0 l0.length l0) (hc0:l0.length≤c0) (h:laws_szStmtS.f l0 a1=some r):
  Calls Try.prog 63 #[.slice A0 l0.length c0,.int .i64 a1] w fun e w'=>e= .returned (.int .i64 r)∧Drawn0 w w':=by
 have HR0:=Za hr0
 have HC0:=Za hc0
 clear hr0 hc0
 have H:(if (wrap64 (a1 - (l0.length:Int)))<0 then (some (-1)) else (some (wrap64 (a1 - (l0.length:Int)))))=some r:=h
 clear h
 by_cases c3:(wrap64 (a1 - (l0.length:Int)))<0
 ·rw[if_pos c3] at H
  have c3b0:decide ((wrap64 (a1 - (l0.length:Int)))<0)=true:=Zt c3
  clear c3
  obtain rfl:=Zj H
  go_enter Try.func63,Try.ntmps63
  go_wp2
  go_ret
  exact⟨by first|rfl|(simp;done)|(simp[*];done),by repeat(first|exact Zu _|apply Zv)⟩
 ·rw[if_neg c3] at H
  have c3b0:decide ((wrap64 (a1 - (l0.length:Int)))<0)=false:=Yc c3
  clear c3
  obtain rfl:=Zj H
  go_enter Try.func63,Try.ntmps63
  go_wp2
  go_ret
  exact⟨by first|rfl|(simp;done)|(simp[*];done),by repeat(first|exact Zu _|apply Zv)⟩
def laws_szTask.f (l0_0:List (S99)) (a0_1:Int) (a0_2:Int) (a0_3:Int) (a1:Int):Option (Int):=(laws_szStmtS.f l0_0 a1).bind fun t102=>(if t102<0 then (some (-1)) else (some t102))
set_option maxHeartbeats 8000000 in
set_option maxRecDepth 100000 in
theorem laws_szTask.calls (A0_0:Option Addr) (c0_0:Nat) (l0_0:List (S99)) (a0_1:Int) (a0_2:Int) (a0_3:Int) (a1:Int) (r:Int) (w:World) (hr0_0:Kd.C k99 w A0_0 l0_0.length l0_0) (hc0_0:l0_0.length≤c0_0) (h:laws_szTask.f l0_0 a0_1 a0_2 a0_3 a1=some r):
  Calls Try.prog 39 #[.agg #[.slice A0_0 l0_0.length c0_0,.int .i64 a0_1,.int .i64 a0_2,.int .i64 a0_3],.int .i64 a1] w fun e w'=>e= .returned (.int .i64 r)∧Below w.heap.size w w':=by
 have hu71:=Try.underlying71
 have HR0_0:=Za hr0_0
 have HC0_0:=Za hc0_0
 clear hr0_0 hc0_0
 have HB:=Za (Ya w.heap.size w)
 have H:((laws_szStmtS.f l0_0 a1).bind fun t102=>(if t102<0 then (some (-1)) else (some t102)))=some r:=h
 clear h
 replace H:=Zl H
 obtain⟨t102,A30,H⟩:=H
 replace H:(if t102<0 then (some (-1)) else (some t102))=some r:=H
 have A3:=Za A30
 clear A30
 by_cases c4:t102<0
 ·rw[if_pos c4] at H
  have c4b0:decide (t102<0)=true:=Zt c4
  clear c4
  obtain rfl:=Zj H
  go_enter Try.func39,Try.ntmps39
  go_wp2_with (first|((with_reducible refine Zp (N:=2) rfl ?_);refine Zr ?hg (N:=2) ?hd (cs:= #[.slice A0_0 l0_0.length c0_0,.int .i64 a0_1,.int .i64 a0_2,.int .i64 a0_3]) (t:=71) ?hr ?_;(case hd=>rfl);(case hg=>rfl);(case hr=>exact z3_6);intro gb101 hg w5 hbox hb;have BK101:=Za (hbox);have GW101:=Za ((z3_35:w.heap.size≤gb101));have GE101:=Za ((z3_35:w.heap.size≤gb101));replace HB:=Za (Zi z3_0 hb);clear hb hbox hg;have hcz6_0:w5.cell? ⟨gb101,0,none⟩=some (.slice A0_0 l0_0.length c0_0):=(Zb BK101.out 0).trans rfl;have hcz6_1:w5.cell? ⟨gb101,1,none⟩=some (.int .i64 a0_1):=(Zb BK101.out 1).trans rfl;have hcz6_2:w5.cell? ⟨gb101,2,none⟩=some (.int .i64 a0_2):=(Zb BK101.out 2).trans rfl;have hcz6_3:w5.cell? ⟨gb101,3,none⟩=some (.int .i64 a0_3):=(Zb BK101.out 3).trans rfl;have hfz6_0:=Zc BK101.out 0;have hfz6_1:=Zc BK101.out 1;have hfz6_2:=Zc BK101.out 2;have hfz6_3:=Zc BK101.out 3)|((first|((with_reducible refine gate_callee (f:=63) rfl ?_);refine goesL_ (some 8) rfl rfl Try.func63 z3_24 rfl #[.slice A0_0 l0_0.length c0_0,.int .i64 a1] rfl z3_1 ?_;(with_reducible refine(laws_szStmtS.calls _ _ l0_0 a1 t102 _ ?side1 ?side2 A3.out).mono ?_))|(go_at_call 63;(with_reducible refine(laws_szStmtS.calls _ _ l0_0 a1 t102 _ ?side1 ?side2 A3.out).mono ?_)));(case side1=>exact z3_8);(case side2=>exact HC0_0.out);rintro e w' ⟨rfl,⟨nd,rfl⟩⟩;(first|refine⟨_,rfl,?_⟩|skip)))
  go_ret
  exact⟨by first|rfl|(simp[errW_none,errW_some]<;>rfl)|(simp[*,errW_none,errW_some]<;>rfl)|(simp[*,errW_none,errW_some,i64_w];done),by repeat(first|(with_reducible first|exact HB.out|apply Zh|apply Ze|apply Zd|refine Zf ?_ GE101.out)|exact HB.out)⟩
 ·rw[if_neg c4] at H
  have c4b0:decide (t102<0)=false:=Yc c4
  clear c4
  obtain rfl:=Zj H
  go_enter Try.func39,Try.ntmps39
  go_wp2_with (first|((with_reducible refine Zp (N:=2) rfl ?_);refine Zr ?hg (N:=2) ?hd (cs:= #[.slice A0_0 l0_0.length c0_0,.int .i64 a0_1,.int .i64 a0_2,.int .i64 a0_3]) (t:=71) ?hr ?_;(case hd=>rfl);(case hg=>rfl);(case hr=>exact z3_6);intro gb101 hg w7 hbox hb;have BK101:=Za (hbox);have GW101:=Za ((z3_35:w.heap.size≤gb101));have GE101:=Za ((z3_35:w.heap.size≤gb101));replace HB:=Za (Zi z3_0 hb);clear hb hbox hg;have hcz8_0:w7.cell? ⟨gb101,0,none⟩=some (.slice A0_0 l0_0.length c0_0):=(Zb BK101.out 0).trans rfl;have hcz8_1:w7.cell? ⟨gb101,1,none⟩=some (.int .i64 a0_1):=(Zb BK101.out 1).trans rfl;have hcz8_2:w7.cell? ⟨gb101,2,none⟩=some (.int .i64 a0_2):=(Zb BK101.out 2).trans rfl;have hcz8_3:w7.cell? ⟨gb101,3,none⟩=some (.int .i64 a0_3):=(Zb BK101.out 3).trans rfl;have hfz8_0:=Zc BK101.out 0;have hfz8_1:=Zc BK101.out 1;have hfz8_2:=Zc BK101.out 2;have hfz8_3:=Zc BK101.out 3)|((first|((with_reducible refine gate_callee (f:=63) rfl ?_);refine goesL_ (some 8) rfl rfl Try.func63 z3_24 rfl #[.slice A0_0 l0_0.length c0_0,.int .i64 a1] rfl z3_1 ?_;(with_reducible refine(laws_szStmtS.calls _ _ l0_0 a1 t102 _ ?side1 ?side2 A3.out).mono ?_))|(go_at_call 63;(with_reducible refine(laws_szStmtS.calls _ _ l0_0 a1 t102 _ ?side1 ?side2 A3.out).mono ?_)));(case side1=>exact z3_8);(case side2=>exact HC0_0.out);rintro e w' ⟨rfl,⟨nd,rfl⟩⟩;(first|refine⟨_,rfl,?_⟩|skip)))
  go_ret
  exact⟨by first|rfl|(simp[errW_none,errW_some]<;>rfl)|(simp[*,errW_none,errW_some]<;>rfl)|(simp[*,errW_none,errW_some,i64_w];done),by repeat(first|(with_reducible first|exact HB.out|apply Zh|apply Ze|apply Zd|refine Zf ?_ GE101.out)|exact HB.out)⟩
def laws_szTaskS.l0:Nat→List (S71)→Int→Int→Option (Int)
 |0,_,_,_=>none
 |k+1,x0,x1,x5=>if x5<(x0.length:Int) then (if 0≤x5 then ((laws_szTask.f ((rd_T71 x0 x5).f0) ((rd_T71 x0 x5).f1.f0) ((rd_T71 x0 x5).f1.f1) ((rd_T71 x0 x5).f1.f2) x1).bind fun t104=>(if t104<0 then (some (-1)) else (laws_szTaskS.l0 k x0 t104 (wrap64 (x5+1))))) else (none)) else (some x1)
def laws_szTaskS.f (k:Nat) (l0:List (S71)) (a1:Int):Option (Int):=if (wrap64 (a1 - (l0.length:Int)))<0 then (some (-1)) else (laws_szTaskS.l0 k l0 (wrap64 (a1 - (l0.length:Int))) 0)
theorem laws_szTaskS.mono_l:∀k,(∀y0 y1 y2,LeO (laws_szTaskS.l0 k y0 y1 y2) (laws_szTaskS.l0 (k+1) y0 y1 y2))
 |0=>fun _ _ _ r h=>by simp[laws_szTaskS.l0] at h
 |k+1=>by
  have ih0:=laws_szTaskS.mono_l k
  ·intro y0 y1 y2
   unfold laws_szTaskS.l0
   repeat' first
   |(with_reducible exact ih0 _ _ _)
   |(with_reducible exact LeO.refl _)
   |(with_reducible exact LeO.none _)
   |(with_reducible refine LeO.ite ?_ ?_)
   |(with_reducible refine Yj ?_ (fun _=> ?_))
   |exact ih0 _ _ _
   |exact LeO.none _
   |refine LeO.ite ?_ ?_
   |refine Yj ?_ (fun _=> ?_)
theorem laws_szTaskS.mono:∀a0 a1 k,LeO (laws_szTaskS.f k a0 a1) (laws_szTaskS.f (k+1) a0 a1):=by
 intro a0 a1 k
 have ih0:=laws_szTaskS.mono_l k
 unfold laws_szTaskS.f
 repeat' first
   |(with_reducible exact ih0 _ _ _)
   |(with_reducible exact LeO.refl _)
   |(with_reducible exact LeO.none _)
   |(with_reducible refine LeO.ite ?_ ?_)
   |(with_reducible refine Yj ?_ (fun _=> ?_))
   |exact ih0 _ _ _
   |exact LeO.none _
   |refine LeO.ite ?_ ?_
   |refine Yj ?_ (fun _=> ?_)
set_option maxHeartbeats 8000000 in
set_option maxRecDepth 100000 in
theorem laws_szTaskS.calls (k:Nat) (A0:Option Addr) (c0:Nat) (l0:List (S71)) (a1:Int) (r:Int) (w:World) (hr0:Kd.C k71 w A0 l0.length l0) (hc0:l0.length≤c0) (h:laws_szTaskS.f k l0 a1=some r):
  Calls Try.prog 20 #[.slice A0 l0.length c0,.int .i64 a1] w fun e w'=>e= .returned (.int .i64 r)∧Below w.heap.size w w':=by
 have hu71:=Try.underlying71
 have HR0:=Za hr0
 have HC0:=Za hc0
 clear hr0 hc0
 have HB:=Za (Ya w.heap.size w)
 have H:(if (wrap64 (a1 - (l0.length:Int)))<0 then (some (-1)) else (laws_szTaskS.l0 k l0 (wrap64 (a1 - (l0.length:Int))) 0))=some r:=h
 clear h
 by_cases c3:(wrap64 (a1 - (l0.length:Int)))<0
 ·rw[if_pos c3] at H
  have c3b0:decide ((wrap64 (a1 - (l0.length:Int)))<0)=true:=Zt c3
  clear c3
  obtain rfl:=Zj H
  go_enter Try.func20,Try.ntmps20
  go_wp2
  go_ret
  exact⟨by first|rfl|(simp[errW_none,errW_some]<;>rfl)|(simp[*,errW_none,errW_some]<;>rfl)|(simp[*,errW_none,errW_some,i64_w];done),by repeat(first|(with_reducible first|exact HB.out|apply Zh|apply Ze|apply Zd)|exact HB.out)⟩
 ·rw[if_neg c3] at H
  have c3b0:decide ((wrap64 (a1 - (l0.length:Int)))<0)=false:=Yc c3
  clear c3
  have H':=Za H
  clear H
  go_enter Try.func20,Try.ntmps20
  go_wp2
  go_loopg [1,5] k (fun kq v1 v5 w'=>∃(x1_1:Int) (x5_1:Int),v1= .int .i64 x1_1∧v5= .int .i64 x5_1∧Aside0 (laws_szTaskS.l0 kq l0 x1_1 x5_1=some r)∧Aside0 (kq≤k)∧Aside0 (Below w.heap.size w w'))
  case atStart=>exact⟨(wrap64 (a1 - (l0.length:Int))),(0),z3_17,z3_17,H',⟨Nat.le_refl _⟩,⟨by repeat(first|(with_reducible first|exact HB.out|apply Zh|apply Ze|apply Zd)|exact HB.out)⟩⟩
  case round=>
   clear H'
   (try clear c3);(try clear c3b0)
   obtain⟨x1_1,x5_1,rfl,rfl,HA,HK1,HB⟩:=hrel
   cases gk with
   |zero=>exact absurd HA.out (by simp[laws_szTaskS.l0])
   |succ k1=>
    have H:=HA.out
    clear HA
    simp only[laws_szTaskS.l0] at H
    by_cases c4:x5_1<(l0.length:Int)
    ·rw[if_pos c4] at H
     have c4b0:decide (x5_1<(l0.length:Int))=true:=Zt c4
     clear c4
     by_cases c5:0≤x5_1
     ·rw[if_pos c5] at H
      have c5b0:decide (0≤x5_1)=true:=Zt c5
      clear c5
      replace H:=Zl H
      obtain⟨t104,A60,H⟩:=H
      replace H:(if t104<0 then (some (-1)) else (laws_szTaskS.l0 k1 l0 t104 (wrap64 (x5_1+1))))=some r:=H
      have A6:=Za A60
      clear A60
      by_cases c7:t104<0
      ·rw[if_pos c7] at H
       have c7b0:decide (t104<0)=true:=Zt c7
       clear c7
       obtain rfl:=Zj H
       have p103:0≤(x5_1:Int):=Zs z3_5
       have q103:x5_1<(l0.length:Int):=Zs z3_5
       obtain⟨ad103,A103_0,c103_0,e103,hx103_0,hx103_1,hx103_2,hx103_3,hl103_0,hi103_0⟩:=at_T71 HR0.out x5_1 p103 q103
       cases e103
       replace hx103_0:=(HB.out.cell (Zg w _ hx103_0)).trans hx103_0
       replace hx103_1:=(HB.out.cell (Zg w _ hx103_1)).trans hx103_1
       replace hx103_2:=(HB.out.cell (Zg w _ hx103_2)).trans hx103_2
       replace hx103_3:=(HB.out.cell (Zg w _ hx103_3)).trans hx103_3
       have HR103_0:=Za hi103_0
       have HC103_0:=Za hl103_0
       clear hi103_0 hl103_0
       replace p103:=eq_true p103
       replace q103:=eq_true q103
       go_wp2_with (first|((first|((with_reducible refine gate_callee (f:=39) rfl ?_);refine goesL_ (some 23) rfl rfl Try.func39 z3_24 rfl #[.agg #[.slice A103_0 ((rd_T71 l0 x5_1).f0).length c103_0,.int .i64 ((rd_T71 l0 x5_1).f1.f0),.int .i64 ((rd_T71 l0 x5_1).f1.f1),.int .i64 ((rd_T71 l0 x5_1).f1.f2)],.int .i64 x1_1] rfl z3_1 ?_;(with_reducible refine(laws_szTask.calls _ _ ((rd_T71 l0 x5_1).f0) ((rd_T71 l0 x5_1).f1.f0) ((rd_T71 l0 x5_1).f1.f1) ((rd_T71 l0 x5_1).f1.f2) x1_1 t104 _ ?side1 ?side2 A6.out).mono ?_))|(go_at_call 39;(with_reducible refine(laws_szTask.calls _ _ ((rd_T71 l0 x5_1).f0) ((rd_T71 l0 x5_1).f1.f0) ((rd_T71 l0 x5_1).f1.f1) ((rd_T71 l0 x5_1).f1.f2) x1_1 t104 _ ?side1 ?side2 A6.out).mono ?_)));(case side1=>repeat(first|exact(Yb HR103_0.out HB.out)|(with_reducible refine Yd ?_ _)|(with_reducible refine Ye ?_ _)|(with_reducible refine Yf ?_)));(case side2=>exact HC103_0.out);rintro e w8 ⟨rfl,hb⟩;(first|refine⟨_,rfl,?_⟩|skip);replace HB:=Za (Zi z3_0 hb);(try clear hb);(try clear hb2);(try clear hk);(try clear hi)))
       go_ret
       exact⟨by first|rfl|(simp[errW_none,errW_some]<;>rfl)|(simp[*,errW_none,errW_some]<;>rfl)|(simp[*,errW_none,errW_some,i64_w];done),by repeat(first|(with_reducible first|exact HB.out|apply Zh|apply Ze|apply Zd)|exact HB.out)⟩
      ·rw[if_neg c7] at H
       have c7b0:decide (t104<0)=false:=Yc c7
       clear c7
       have H':=Za H
       clear H
       have p103:0≤(x5_1:Int):=Zs z3_5
       have q103:x5_1<(l0.length:Int):=Zs z3_5
       obtain⟨ad103,A103_0,c103_0,e103,hx103_0,hx103_1,hx103_2,hx103_3,hl103_0,hi103_0⟩:=at_T71 HR0.out x5_1 p103 q103
       cases e103
       replace hx103_0:=(HB.out.cell (Zg w _ hx103_0)).trans hx103_0
       replace hx103_1:=(HB.out.cell (Zg w _ hx103_1)).trans hx103_1
       replace hx103_2:=(HB.out.cell (Zg w _ hx103_2)).trans hx103_2
       replace hx103_3:=(HB.out.cell (Zg w _ hx103_3)).trans hx103_3
       have HR103_0:=Za hi103_0
       have HC103_0:=Za hl103_0
       clear hi103_0 hl103_0
       replace p103:=eq_true p103
       replace q103:=eq_true q103
       go_wp2_with (first|((first|((with_reducible refine gate_callee (f:=39) rfl ?_);refine goesL_ (some 23) rfl rfl Try.func39 z3_24 rfl #[.agg #[.slice A103_0 ((rd_T71 l0 x5_1).f0).length c103_0,.int .i64 ((rd_T71 l0 x5_1).f1.f0),.int .i64 ((rd_T71 l0 x5_1).f1.f1),.int .i64 ((rd_T71 l0 x5_1).f1.f2)],.int .i64 x1_1] rfl z3_1 ?_;(with_reducible refine(laws_szTask.calls _ _ ((rd_T71 l0 x5_1).f0) ((rd_T71 l0 x5_1).f1.f0) ((rd_T71 l0 x5_1).f1.f1) ((rd_T71 l0 x5_1).f1.f2) x1_1 t104 _ ?side1 ?side2 A6.out).mono ?_))|(go_at_call 39;(with_reducible refine(laws_szTask.calls _ _ ((rd_T71 l0 x5_1).f0) ((rd_T71 l0 x5_1).f1.f0) ((rd_T71 l0 x5_1).f1.f1) ((rd_T71 l0 x5_1).f1.f2) x1_1 t104 _ ?side1 ?side2 A6.out).mono ?_)));(case side1=>repeat(first|exact(Yb HR103_0.out HB.out)|(with_reducible refine Yd ?_ _)|(with_reducible refine Ye ?_ _)|(with_reducible refine Yf ?_)));(case side2=>exact HC103_0.out);rintro e w9 ⟨rfl,hb⟩;(first|refine⟨_,rfl,?_⟩|skip);replace HB:=Za (Zi z3_0 hb);(try clear hb);(try clear hb2);(try clear hk);(try clear hi)))
       go_roundg k1
       case measure=>have:=HK1.out;omega
       case rel=>exact⟨(t104),(wrap64 (x5_1+1)),z3_17,z3_17,H',⟨by have:=HK1.out;omega⟩,⟨by repeat(first|(with_reducible first|exact HB.out|apply Zh|apply Ze|apply Zd)|exact HB.out)⟩⟩
     ·rw[if_neg c5] at H
      exact absurd H (by simp)
    ·rw[if_neg c4] at H
     have c4b0:decide (x5_1<(l0.length:Int))=false:=Yc c4
     clear c4
     obtain rfl:=Zj H
     go_wp2
     go_ret
     exact⟨by first|rfl|(simp[errW_none,errW_some]<;>rfl)|(simp[*,errW_none,errW_some]<;>rfl)|(simp[*,errW_none,errW_some,i64_w];done),by repeat(first|(with_reducible first|exact HB.out|apply Zh|apply Ze|apply Zd)|exact HB.out)⟩
def laws_szProgram.f (k:Nat) (l0_0:List (S71)) (a1:Int):Option (Int):=(laws_szTaskS.f k l0_0 a1).bind fun t106=>(if t106<0 then (some (-1)) else (some t106))
theorem laws_szProgram.mono:∀a0 a1 k,LeO (laws_szProgram.f k a0 a1) (laws_szProgram.f (k+1) a0 a1):=by
 intro a0 a1 k
 unfold laws_szProgram.f
 repeat' first
   |(with_reducible exact laws_szTaskS.mono _ _ _)
   |(with_reducible exact LeO.refl _)
   |(with_reducible exact LeO.none _)
   |(with_reducible refine LeO.ite ?_ ?_)
   |(with_reducible refine Yj ?_ (fun _=> ?_))
   |exact laws_szTaskS.mono _ _ _
   |exact LeO.none _
   |refine LeO.ite ?_ ?_
   |refine Yj ?_ (fun _=> ?_)
set_option maxHeartbeats 8000000 in
set_option maxRecDepth 100000 in
theorem laws_szProgram.calls (k:Nat) (A0_0:Option Addr) (c0_0:Nat) (l0_0:List (S71)) (a1:Int) (r:Int) (w:World) (hr0_0:Kd.C k71 w A0_0 l0_0.length l0_0) (hc0_0:l0_0.length≤c0_0) (h:laws_szProgram.f k l0_0 a1=some r):
  Calls Try.prog 5 #[.agg #[.slice A0_0 l0_0.length c0_0],.int .i64 a1] w fun e w'=>e= .returned (.int .i64 r)∧Below w.heap.size w w':=by
 have hu24:=Try.underlying24
 have HR0_0:=Za hr0_0
 have HC0_0:=Za hc0_0
 clear hr0_0 hc0_0
 have HB:=Za (Ya w.heap.size w)
 have H:((laws_szTaskS.f k l0_0 a1).bind fun t106=>(if t106<0 then (some (-1)) else (some t106)))=some r:=h
 clear h
 replace H:=Zl H
 obtain⟨t106,A30,H⟩:=H
 replace H:(if t106<0 then (some (-1)) else (some t106))=some r:=H
 have A3:=Za A30
 clear A30
 by_cases c4:t106<0
 ·rw[if_pos c4] at H
  have c4b0:decide (t106<0)=true:=Zt c4
  clear c4
  obtain rfl:=Zj H
  go_enter Try.func5,Try.ntmps5
  go_wp2_with (first|((with_reducible refine Zp (N:=2) rfl ?_);refine Zr ?hg (N:=2) ?hd (cs:= #[.slice A0_0 l0_0.length c0_0]) (t:=24) ?hr ?_;(case hd=>rfl);(case hg=>rfl);(case hr=>exact z3_6);intro gb105 hg w5 hbox hb;have BK105:=Za (hbox);have GW105:=Za ((z3_35:w.heap.size≤gb105));have GE105:=Za ((z3_35:w.heap.size≤gb105));replace HB:=Za (Zi z3_0 hb);clear hb hbox hg;have hcz6_0:w5.cell? ⟨gb105,0,none⟩=some (.slice A0_0 l0_0.length c0_0):=(Zb BK105.out 0).trans rfl;have hfz6_0:=Zc BK105.out 0)|((first|((with_reducible refine gate_callee (f:=20) rfl ?_);refine goesL_ (some 8) rfl rfl Try.func20 z3_24 rfl #[.slice A0_0 l0_0.length c0_0,.int .i64 a1] rfl z3_1 ?_;(with_reducible refine(laws_szTaskS.calls k _ _ l0_0 a1 t106 _ ?side1 ?side2 A3.out).mono ?_))|(go_at_call 20;(with_reducible refine(laws_szTaskS.calls k _ _ l0_0 a1 t106 _ ?side1 ?side2 A3.out).mono ?_)));(case side1=>exact z3_8);(case side2=>exact HC0_0.out);rintro e w7 ⟨rfl,hb⟩;(first|refine⟨_,rfl,?_⟩|skip);replace BK105:=Za (Zk (g:=gb105) (o:= .cells #[.slice A0_0 l0_0.length c0_0] 24 (0,0)) (by(with_reducible repeat(first|refine blk_drewN ?_ _|refine blk_drew ?_|refine blk_alloc ?_ _));exact BK105.out) hb);replace HB:=Za (Zi (by repeat(first|(with_reducible first|exact HB.out|apply Zh|apply Ze|apply Zd|refine Zf ?_ GE105.out)|exact HB.out)) hb);(try clear hb);(try clear hb2);(try clear hk);(try clear hi)))
  go_ret
  exact⟨by first|rfl|(simp[errW_none,errW_some]<;>rfl)|(simp[*,errW_none,errW_some]<;>rfl)|(simp[*,errW_none,errW_some,i64_w];done),by repeat(first|(with_reducible first|exact HB.out|apply Zh|apply Ze|apply Zd|refine Zf ?_ GE105.out)|exact HB.out)⟩
 ·rw[if_neg c4] at H
  have c4b0:decide (t106<0)=false:=Yc c4
  clear c4
  obtain rfl:=Zj H
  go_enter Try.func5,Try.ntmps5
  go_wp2_with (first|((with_reducible refine Zp (N:=2) rfl ?_);refine Zr ?hg (N:=2) ?hd (cs:= #[.slice A0_0 l0_0.length c0_0]) (t:=24) ?hr ?_;(case hd=>rfl);(case hg=>rfl);(case hr=>exact z3_6);intro gb105 hg w8 hbox hb;have BK105:=Za (hbox);have GW105:=Za ((z3_35:w.heap.size≤gb105));have GE105:=Za ((z3_35:w.heap.size≤gb105));replace HB:=Za (Zi z3_0 hb);clear hb hbox hg;have hcz9_0:w8.cell? ⟨gb105,0,none⟩=some (.slice A0_0 l0_0.length c0_0):=(Zb BK105.out 0).trans rfl;have hfz9_0:=Zc BK105.out 0)|((first|((with_reducible refine gate_callee (f:=20) rfl ?_);refine goesL_ (some 8) rfl rfl Try.func20 z3_24 rfl #[.slice A0_0 l0_0.length c0_0,.int .i64 a1] rfl z3_1 ?_;(with_reducible refine(laws_szTaskS.calls k _ _ l0_0 a1 t106 _ ?side1 ?side2 A3.out).mono ?_))|(go_at_call 20;(with_reducible refine(laws_szTaskS.calls k _ _ l0_0 a1 t106 _ ?side1 ?side2 A3.out).mono ?_)));(case side1=>exact z3_8);(case side2=>exact HC0_0.out);rintro e w10 ⟨rfl,hb⟩;(first|refine⟨_,rfl,?_⟩|skip);replace BK105:=Za (Zk (g:=gb105) (o:= .cells #[.slice A0_0 l0_0.length c0_0] 24 (0,0)) (by(with_reducible repeat(first|refine blk_drewN ?_ _|refine blk_drew ?_|refine blk_alloc ?_ _));exact BK105.out) hb);replace HB:=Za (Zi (by repeat(first|(with_reducible first|exact HB.out|apply Zh|apply Ze|apply Zd|refine Zf ?_ GE105.out)|exact HB.out)) hb);(try clear hb);(try clear hb2);(try clear hk);(try clear hi)))
  go_ret
  exact⟨by first|rfl|(simp[errW_none,errW_some]<;>rfl)|(simp[*,errW_none,errW_some]<;>rfl)|(simp[*,errW_none,errW_some,i64_w];done),by repeat(first|(with_reducible first|exact HB.out|apply Zh|apply Ze|apply Zd|refine Zf ?_ GE105.out)|exact HB.out)⟩
def laws_toExpr.f (a0_0:Int) (a0_1:Int) (a0_2:Int):Option (Int×Int×Int):=some (a0_0,a0_1,a0_2)
set_option maxHeartbeats 8000000 in
set_option maxRecDepth 100000 in
theorem laws_toExpr.calls (a0_0:Int) (a0_1:Int) (a0_2:Int) (r1:Int) (r2:Int) (r3:Int) (w:World) (h:laws_toExpr.f a0_0 a0_1 a0_2=some (r1,r2,r3)):
  Calls Try.prog 67 #[.agg #[.int .i64 a0_0,.int .i64 a0_1,.int .i64 a0_2]] w fun e w'=>e= .returned (.agg #[.int .i64 r1,.int .i64 r2,.int .i64 r3])∧Below w.heap.size w w':=by
 have hu69:=Try.underlying69
 have hu62:=Try.underlying62
 have HB:=Za (Ya w.heap.size w)
 have H:(some (a0_0,a0_1,a0_2))=some (r1,r2,r3):=h
 clear h
 simp only[Option.some.injEq,Prod.mk.injEq] at H
 obtain⟨rfl,rfl,rfl⟩:=H
 go_enter Try.func67,Try.ntmps67
 go_wp2_with (first|((with_reducible refine Zp (N:=1) rfl ?_);refine Zr ?hg (N:=1) ?hd (cs:= #[.int .i64 a0_0,.int .i64 a0_1,.int .i64 a0_2]) (t:=69) ?hr ?_;(case hd=>rfl);(case hg=>rfl);(case hr=>exact z3_6);intro gb107 hg w2 hbox hb;have BK107:=Za (hbox);have GW107:=Za ((z3_35:w.heap.size≤gb107));have GE107:=Za ((z3_35:w.heap.size≤gb107));replace HB:=Za (Zi z3_0 hb);clear hb hbox hg)|((with_reducible refine Zp (N:=2) rfl ?_);refine Zr ?hg (N:=2) ?hd (cs:= #[.int .i64 0,.int .i64 0,.int .i64 0]) (t:=62) ?hr ?_;(case hd=>rfl);(case hg=>rfl);(case hr=>exact z3_6);intro gb108 hg w3 hbox hb;have BK108:=Za (hbox);have GW108:=Za ((by rw[hg];exact(Zw z3_32):w.heap.size≤gb108));have GE108:=Za ((by rw[hg];exact(Zw z3_32):w.heap.size≤gb108));replace HB:=Za (Zi z3_32 hb);have NB107_108:=Za ((by rw[hg];exact Nat.ne_of_lt (blk_lt (g:=gb107) (o:= .cells #[.int .i64 a0_0,.int .i64 a0_1,.int .i64 a0_2] 69 (0,0)) z3_16):gb107≠gb108));have NB108_107:=Za ((by rw[hg];exact Nat.ne_of_gt (blk_lt (g:=gb107) (o:= .cells #[.int .i64 a0_0,.int .i64 a0_1,.int .i64 a0_2] 69 (0,0)) z3_16):gb108≠gb107));replace BK107:=Za (Zk (g:=gb107) (o:= .cells #[.int .i64 a0_0,.int .i64 a0_1,.int .i64 a0_2] 69 (0,0)) z3_16 hb);clear hb hbox hg)|((with_reducible refine Zp (N:=3) rfl ?_);refine Zr ?hg (N:=3) ?hd (cs:= #[.int .i64 0,.int .i64 0,.int .i64 0]) (t:=62) ?hr ?_;(case hd=>rfl);(case hg=>rfl);(case hr=>exact z3_6);intro gb109 hg w4 hbox hb;have BK109:=Za (hbox);have GW109:=Za ((by rw[hg];exact(Zw z3_23):w.heap.size≤gb109));have GE109:=Za ((by rw[hg];exact(Zw z3_23):w.heap.size≤gb109));replace HB:=Za (Zi z3_23 hb);have NB107_109:=Za ((by rw[hg];exact Nat.ne_of_lt (blk_lt (g:=gb107) (o:= .cells #[.int .i64 a0_0,.int .i64 a0_1,.int .i64 a0_2] 69 (0,0)) z3_16):gb107≠gb109));have NB109_107:=Za ((by rw[hg];exact Nat.ne_of_gt (blk_lt (g:=gb107) (o:= .cells #[.int .i64 a0_0,.int .i64 a0_1,.int .i64 a0_2] 69 (0,0)) z3_16):gb109≠gb107));replace BK107:=Za (Zk (g:=gb107) (o:= .cells #[.int .i64 a0_0,.int .i64 a0_1,.int .i64 a0_2] 69 (0,0)) z3_16 hb);have NB108_109:=Za ((by rw[hg];exact Nat.ne_of_lt (blk_lt (g:=gb108) (o:= .cells #[.int .i64 0,.int .i64 0,.int .i64 0] 62 (0,0)) z3_28):gb108≠gb109));have NB109_108:=Za ((by rw[hg];exact Nat.ne_of_gt (blk_lt (g:=gb108) (o:= .cells #[.int .i64 0,.int .i64 0,.int .i64 0] 62 (0,0)) z3_28):gb109≠gb108));replace BK108:=Za (Zk (g:=gb108) (o:= .cells #[.int .i64 0,.int .i64 0,.int .i64 0] 62 (0,0)) z3_28 hb);clear hb hbox hg;have hnb5:=NB107_108.out;have hnc5:=NB108_107.out;have hnb6:=NB107_109.out;have hnc6:=NB109_107.out;have hcz7_0:w4.cell? ⟨gb107,0,none⟩=some (.int .i64 a0_0):=(Zb BK107.out 0).trans rfl;have hcz7_1:w4.cell? ⟨gb107,1,none⟩=some (.int .i64 a0_1):=(Zb BK107.out 1).trans rfl;have hcz7_2:w4.cell? ⟨gb107,2,none⟩=some (.int .i64 a0_2):=(Zb BK107.out 2).trans rfl;have hfz7_0:=Zc BK107.out 0;have hfz7_1:=Zc BK107.out 1;have hfz7_2:=Zc BK107.out 2;have hnb8:=NB109_108.out;have hnc8:=NB108_109.out;have hcz9_0:w4.cell? ⟨gb109,0,none⟩=some (.int .i64 0):=(Zb BK109.out 0).trans rfl;have hcz9_1:w4.cell? ⟨gb109,1,none⟩=some (.int .i64 0):=(Zb BK109.out 1).trans rfl;have hcz9_2:w4.cell? ⟨gb109,2,none⟩=some (.int .i64 0):=(Zb BK109.out 2).trans rfl;have hfz9_0:=Zc BK109.out 0;have hfz9_1:=Zc BK109.out 1;have hfz9_2:=Zc BK109.out 2;have hcz10_0:w4.cell? ⟨gb108,0,none⟩=some (.int .i64 0):=(Zb BK108.out 0).trans rfl;have hcz10_1:w4.cell? ⟨gb108,1,none⟩=some (.int .i64 0):=(Zb BK108.out 1).trans rfl;have hcz10_2:w4.cell? ⟨gb108,2,none⟩=some (.int .i64 0):=(Zb BK108.out 2).trans rfl;have hfz10_0:=Zc BK108.out 0;have hfz10_1:=Zc BK108.out 1;have hfz10_2:=Zc BK108.out 2)|((with_reducible refine Yh (t:=62) (p:=2) rfl ?_);refine Yg (t:=62) (p:=2) (v:= ?vo_w11) (w1:=((((((w4.setCell ⟨gb109,0,none⟩ (.int .i64 a0_0)).setCell ⟨gb109,1,none⟩ (.int .i64 a0_1)).setCell ⟨gb109,2,none⟩ (.int .i64 a0_2)).setCell ⟨gb108,0,none⟩ (.int .i64 a0_0)).setCell ⟨gb108,1,none⟩ (.int .i64 a0_1)).setCell ⟨gb108,2,none⟩ (.int .i64 a0_2))) ?hg ?ho ?hn ?hr ?_;(case ho=>rfl);(case hg=>rfl);(case hn=>rfl);(case hr=>exact z3_6);intro w11 hw;have n0_:Aside0 (w11.heap[gb107]? =some (.cells #[.int .i64 a0_0,.int .i64 a0_1,.int .i64 a0_2] 69 (0,0))):=⟨(by rw[hw];exact(by(with_reducible repeat(first|refine blk_drewN ?_ _|refine blk_drew ?_|refine blk_alloc ?_ _));refine blk_far ?_ NB107_108.out _;(with_reducible repeat(first|refine blk_drewN ?_ _|refine blk_drew ?_|refine blk_alloc ?_ _));refine blk_far ?_ NB107_108.out _;(with_reducible repeat(first|refine blk_drewN ?_ _|refine blk_drew ?_|refine blk_alloc ?_ _));refine blk_far ?_ NB107_108.out _;(with_reducible repeat(first|refine blk_drewN ?_ _|refine blk_drew ?_|refine blk_alloc ?_ _));refine blk_far ?_ NB107_109.out _;(with_reducible repeat(first|refine blk_drewN ?_ _|refine blk_drew ?_|refine blk_alloc ?_ _));refine blk_far ?_ NB107_109.out _;(with_reducible repeat(first|refine blk_drewN ?_ _|refine blk_drew ?_|refine blk_alloc ?_ _));refine blk_far ?_ NB107_109.out _;(with_reducible repeat(first|refine blk_drewN ?_ _|refine blk_drew ?_|refine blk_alloc ?_ _));exact BK107.out))⟩;have n1_:Aside0 (w11.heap[gb108]? =some (.cells #[.int .i64 a0_0,.int .i64 a0_1,.int .i64 a0_2] 62 (0,0))):=⟨(by rw[hw];exact(by(with_reducible repeat(first|refine blk_drewN ?_ _|refine blk_drew ?_|refine blk_alloc ?_ _));refine blk_put (cs:= #[.int .i64 a0_0,.int .i64 a0_1,.int .i64 0]) ?_ 2 _ rfl;(with_reducible repeat(first|refine blk_drewN ?_ _|refine blk_drew ?_|refine blk_alloc ?_ _));refine blk_put (cs:= #[.int .i64 a0_0,.int .i64 0,.int .i64 0]) ?_ 1 _ rfl;(with_reducible repeat(first|refine blk_drewN ?_ _|refine blk_drew ?_|refine blk_alloc ?_ _));refine blk_put (cs:= #[.int .i64 0,.int .i64 0,.int .i64 0]) ?_ 0 _ rfl;(with_reducible repeat(first|refine blk_drewN ?_ _|refine blk_drew ?_|refine blk_alloc ?_ _));refine blk_far ?_ NB108_109.out _;(with_reducible repeat(first|refine blk_drewN ?_ _|refine blk_drew ?_|refine blk_alloc ?_ _));refine blk_far ?_ NB108_109.out _;(with_reducible repeat(first|refine blk_drewN ?_ _|refine blk_drew ?_|refine blk_alloc ?_ _));refine blk_far ?_ NB108_109.out _;(with_reducible repeat(first|refine blk_drewN ?_ _|refine blk_drew ?_|refine blk_alloc ?_ _));exact BK108.out))⟩;have n2_:Aside0 (w11.heap[gb109]? =some (.cells #[.int .i64 a0_0,.int .i64 a0_1,.int .i64 a0_2] 62 (0,0))):=⟨(by rw[hw];exact(by(with_reducible repeat(first|refine blk_drewN ?_ _|refine blk_drew ?_|refine blk_alloc ?_ _));refine blk_far ?_ NB109_108.out _;(with_reducible repeat(first|refine blk_drewN ?_ _|refine blk_drew ?_|refine blk_alloc ?_ _));refine blk_far ?_ NB109_108.out _;(with_reducible repeat(first|refine blk_drewN ?_ _|refine blk_drew ?_|refine blk_alloc ?_ _));refine blk_far ?_ NB109_108.out _;(with_reducible repeat(first|refine blk_drewN ?_ _|refine blk_drew ?_|refine blk_alloc ?_ _));refine blk_put (cs:= #[.int .i64 a0_0,.int .i64 a0_1,.int .i64 0]) ?_ 2 _ rfl;(with_reducible repeat(first|refine blk_drewN ?_ _|refine blk_drew ?_|refine blk_alloc ?_ _));refine blk_put (cs:= #[.int .i64 a0_0,.int .i64 0,.int .i64 0]) ?_ 1 _ rfl;(with_reducible repeat(first|refine blk_drewN ?_ _|refine blk_drew ?_|refine blk_alloc ?_ _));refine blk_put (cs:= #[.int .i64 0,.int .i64 0,.int .i64 0]) ?_ 0 _ rfl;(with_reducible repeat(first|refine blk_drewN ?_ _|refine blk_drew ?_|refine blk_alloc ?_ _));exact BK109.out))⟩;have n3_:Aside0 (Below w.heap.size w w11):=⟨(by rw[hw];exact(by repeat(first|(with_reducible first|exact HB.out|apply Zh|apply Ze|apply Zd|refine Zf ?_ GE107.out|refine Zf ?_ GE108.out|refine Zf ?_ GE109.out)|exact HB.out)))⟩;clear hw;clear BK107;clear BK108;clear BK109;clear HB;have BK107:=n0_;have BK108:=n1_;have BK109:=n2_;have HB:=n3_;clear n0_ n1_ n2_ n3_))
 refine bodyPost_ret (results_cell_row rfl _ _ gb108 62 #[.int .i64 a0_0,.int .i64 a0_1,.int .i64 a0_2] (0,0) _ rfl z3_28 Try.underlying62 rfl z3_24) rfl ?_
 exact⟨by first|rfl|(simp[errW_none,errW_some]<;>rfl)|(simp[*,errW_none,errW_some]<;>rfl)|(simp[*,errW_none,errW_some,i64_w];done),by repeat(first|(with_reducible first|exact HB.out|apply Zh|apply Ze|apply Zd|refine Zf ?_ GE107.out|refine Zf ?_ GE108.out|refine Zf ?_ GE109.out)|exact HB.out)⟩
def laws_toStmt.f (a0_0:Int) (a0_1:Int) (a0_2:Int) (a0_3:Int) (a0_4:Int) (a0_5:Int):Option (Int×Int×Int×Int×Int×Int):=(laws_toExpr.f a0_3 a0_4 a0_5).bind fun bt113=>(some (a0_0,a0_1,a0_2,bt113.1,bt113.2.1,bt113.2.2))
set_option maxHeartbeats 8000000 in
set_option maxRecDepth 100000 in
theorem laws_toStmt.calls (a0_0:Int) (a0_1:Int) (a0_2:Int) (a0_3:Int) (a0_4:Int) (a0_5:Int) (r1:Int) (r2:Int) (r3:Int) (r4:Int) (r5:Int) (r6:Int) (w:World) (h:laws_toStmt.f a0_0 a0_1 a0_2 a0_3 a0_4 a0_5=some (r1,r2,r3,r4,r5,r6)):
  Calls Try.prog 89 #[.agg #[.int .i64 a0_0,.int .i64 a0_1,.int .i64 a0_2,.int .i64 a0_3,.int .i64 a0_4,.int .i64 a0_5]] w fun e w'=>e= .returned (.agg #[.int .i64 r1,.int .i64 r2,.int .i64 r3,.int .i64 r4,.int .i64 r5,.int .i64 r6])∧Below w.heap.size w w':=by
 have hu99:=Try.underlying99
 have hu80:=Try.underlying80
 have hu69:=Try.underlying69
 have hu62:=Try.underlying62
 have HB:=Za (Ya w.heap.size w)
 have H:((laws_toExpr.f a0_3 a0_4 a0_5).bind fun bt113=>(some (a0_0,a0_1,a0_2,bt113.1,bt113.2.1,bt113.2.2)))=some (r1,r2,r3,r4,r5,r6):=h
 clear h
 replace H:=Zl H
 obtain⟨⟨t113,t114,t115⟩,A20,H⟩:=H
 replace H:(some (a0_0,a0_1,a0_2,t113,t114,t115))=some (r1,r2,r3,r4,r5,r6):=H
 have A2:=Za A20
 clear A20
 simp only[Option.some.injEq,Prod.mk.injEq] at H
 obtain⟨rfl,rfl,rfl,rfl,rfl,rfl⟩:=H
 go_enter Try.func89,Try.ntmps89
 go_wp2_with (first|((with_reducible refine Zp (N:=1) rfl ?_);refine Zr ?hg (N:=1) ?hd (cs:= #[.int .i64 a0_0,.int .i64 a0_1,.int .i64 a0_2,.int .i64 a0_3,.int .i64 a0_4,.int .i64 a0_5]) (t:=99) ?hr ?_;(case hd=>rfl);(case hg=>rfl);(case hr=>exact z3_6);intro gb110 hg w3 hbox hb;have BK110:=Za (hbox);have GW110:=Za ((z3_35:w.heap.size≤gb110));have GE110:=Za ((z3_35:w.heap.size≤gb110));replace HB:=Za (Zi z3_0 hb);clear hb hbox hg)|((with_reducible refine Zp (N:=2) rfl ?_);refine Zr ?hg (N:=2) ?hd (cs:= #[.int .i64 0,.int .i64 0,.int .i64 0,.int .i64 0,.int .i64 0,.int .i64 0]) (t:=80) ?hr ?_;(case hd=>rfl);(case hg=>rfl);(case hr=>exact z3_6);intro gb111 hg w4 hbox hb;have BK111:=Za (hbox);have GW111:=Za ((by rw[hg];exact(Zw z3_31):w.heap.size≤gb111));have GE111:=Za ((by rw[hg];exact(Zw z3_31):w.heap.size≤gb111));replace HB:=Za (Zi z3_31 hb);have NB110_111:=Za ((by rw[hg];exact Nat.ne_of_lt (blk_lt (g:=gb110) (o:= .cells #[.int .i64 a0_0,.int .i64 a0_1,.int .i64 a0_2,.int .i64 a0_3,.int .i64 a0_4,.int .i64 a0_5] 99 (0,0)) z3_15):gb110≠gb111));have NB111_110:=Za ((by rw[hg];exact Nat.ne_of_gt (blk_lt (g:=gb110) (o:= .cells #[.int .i64 a0_0,.int .i64 a0_1,.int .i64 a0_2,.int .i64 a0_3,.int .i64 a0_4,.int .i64 a0_5] 99 (0,0)) z3_15):gb111≠gb110));replace BK110:=Za (Zk (g:=gb110) (o:= .cells #[.int .i64 a0_0,.int .i64 a0_1,.int .i64 a0_2,.int .i64 a0_3,.int .i64 a0_4,.int .i64 a0_5] 99 (0,0)) z3_15 hb);clear hb hbox hg)|((with_reducible refine Zp (N:=3) rfl ?_);refine Zr ?hg (N:=3) ?hd (cs:= #[.int .i64 0,.int .i64 0,.int .i64 0,.int .i64 0,.int .i64 0,.int .i64 0]) (t:=80) ?hr ?_;(case hd=>rfl);(case hg=>rfl);(case hr=>exact z3_6);intro gb112 hg w5 hbox hb;have BK112:=Za (hbox);have GW112:=Za ((by rw[hg];exact(Zw z3_22):w.heap.size≤gb112));have GE112:=Za ((by rw[hg];exact(Zw z3_22):w.heap.size≤gb112));replace HB:=Za (Zi z3_22 hb);have NB110_112:=Za ((by rw[hg];exact Nat.ne_of_lt (blk_lt (g:=gb110) (o:= .cells #[.int .i64 a0_0,.int .i64 a0_1,.int .i64 a0_2,.int .i64 a0_3,.int .i64 a0_4,.int .i64 a0_5] 99 (0,0)) z3_15):gb110≠gb112));have NB112_110:=Za ((by rw[hg];exact Nat.ne_of_gt (blk_lt (g:=gb110) (o:= .cells #[.int .i64 a0_0,.int .i64 a0_1,.int .i64 a0_2,.int .i64 a0_3,.int .i64 a0_4,.int .i64 a0_5] 99 (0,0)) z3_15):gb112≠gb110));replace BK110:=Za (Zk (g:=gb110) (o:= .cells #[.int .i64 a0_0,.int .i64 a0_1,.int .i64 a0_2,.int .i64 a0_3,.int .i64 a0_4,.int .i64 a0_5] 99 (0,0)) z3_15 hb);have NB111_112:=Za ((by rw[hg];exact Nat.ne_of_lt (blk_lt (g:=gb111) (o:= .cells #[.int .i64 0,.int .i64 0,.int .i64 0,.int .i64 0,.int .i64 0,.int .i64 0] 80 (0,0)) z3_27):gb111≠gb112));have NB112_111:=Za ((by rw[hg];exact Nat.ne_of_gt (blk_lt (g:=gb111) (o:= .cells #[.int .i64 0,.int .i64 0,.int .i64 0,.int .i64 0,.int .i64 0,.int .i64 0] 80 (0,0)) z3_27):gb112≠gb111));replace BK111:=Za (Zk (g:=gb111) (o:= .cells #[.int .i64 0,.int .i64 0,.int .i64 0,.int .i64 0,.int .i64 0,.int .i64 0] 80 (0,0)) z3_27 hb);clear hb hbox hg;have hnb6:=NB110_111.out;have hnc6:=NB111_110.out;have hnb7:=NB110_112.out;have hnc7:=NB112_110.out;have hcz8_0:w5.cell? ⟨gb110,0,none⟩=some (.int .i64 a0_0):=(Zb BK110.out 0).trans rfl;have hcz8_1:w5.cell? ⟨gb110,1,none⟩=some (.int .i64 a0_1):=(Zb BK110.out 1).trans rfl;have hcz8_2:w5.cell? ⟨gb110,2,none⟩=some (.int .i64 a0_2):=(Zb BK110.out 2).trans rfl;have hcz8_3:w5.cell? ⟨gb110,3,none⟩=some (.int .i64 a0_3):=(Zb BK110.out 3).trans rfl;have hcz8_4:w5.cell? ⟨gb110,4,none⟩=some (.int .i64 a0_4):=(Zb BK110.out 4).trans rfl;have hcz8_5:w5.cell? ⟨gb110,5,none⟩=some (.int .i64 a0_5):=(Zb BK110.out 5).trans rfl;have hfz8_0:=Zc BK110.out 0;have hfz8_1:=Zc BK110.out 1;have hfz8_2:=Zc BK110.out 2;have hfz8_3:=Zc BK110.out 3;have hfz8_4:=Zc BK110.out 4;have hfz8_5:=Zc BK110.out 5;have hnb9:=NB112_111.out;have hnc9:=NB111_112.out;have hcz10_0:w5.cell? ⟨gb112,0,none⟩=some (.int .i64 0):=(Zb BK112.out 0).trans rfl;have hcz10_1:w5.cell? ⟨gb112,1,none⟩=some (.int .i64 0):=(Zb BK112.out 1).trans rfl;have hcz10_2:w5.cell? ⟨gb112,2,none⟩=some (.int .i64 0):=(Zb BK112.out 2).trans rfl;have hcz10_3:w5.cell? ⟨gb112,3,none⟩=some (.int .i64 0):=(Zb BK112.out 3).trans rfl;have hcz10_4:w5.cell? ⟨gb112,4,none⟩=some (.int .i64 0):=(Zb BK112.out 4).trans rfl;have hcz10_5:w5.cell? ⟨gb112,5,none⟩=some (.int .i64 0):=(Zb BK112.out 5).trans rfl;have hfz10_0:=Zc BK112.out 0;have hfz10_1:=Zc BK112.out 1;have hfz10_2:=Zc BK112.out 2;have hfz10_3:=Zc BK112.out 3;have hfz10_4:=Zc BK112.out 4;have hfz10_5:=Zc BK112.out 5)|((first|((with_reducible refine gate_callee (f:=67) rfl ?_);refine goesL_ (some 15) rfl rfl Try.func67 z3_24 rfl #[.agg #[.int .i64 a0_3,.int .i64 a0_4,.int .i64 a0_5]] rfl z3_1 ?_;(with_reducible refine(laws_toExpr.calls a0_3 a0_4 a0_5 t113 t114 t115 _ A2.out).mono ?_))|(go_at_call 67;(with_reducible refine(laws_toExpr.calls a0_3 a0_4 a0_5 t113 t114 t115 _ A2.out).mono ?_)));rintro e w11 ⟨rfl,hb⟩;(first|refine⟨_,rfl,?_⟩|skip);replace BK110:=Za (Zk (g:=gb110) (o:= .cells #[.int .i64 a0_0,.int .i64 a0_1,.int .i64 a0_2,.int .i64 a0_3,.int .i64 a0_4,.int .i64 a0_5] 99 (0,0)) (by(with_reducible repeat(first|refine blk_drewN ?_ _|refine blk_drew ?_|refine blk_alloc ?_ _));refine blk_far ?_ NB110_112.out _;(with_reducible repeat(first|refine blk_drewN ?_ _|refine blk_drew ?_|refine blk_alloc ?_ _));refine blk_far ?_ NB110_112.out _;(with_reducible repeat(first|refine blk_drewN ?_ _|refine blk_drew ?_|refine blk_alloc ?_ _));refine blk_far ?_ NB110_112.out _;(with_reducible repeat(first|refine blk_drewN ?_ _|refine blk_drew ?_|refine blk_alloc ?_ _));exact BK110.out) hb);replace BK111:=Za (Zk (g:=gb111) (o:= .cells #[.int .i64 0,.int .i64 0,.int .i64 0,.int .i64 0,.int .i64 0,.int .i64 0] 80 (0,0)) (by(with_reducible repeat(first|refine blk_drewN ?_ _|refine blk_drew ?_|refine blk_alloc ?_ _));refine blk_far ?_ NB111_112.out _;(with_reducible repeat(first|refine blk_drewN ?_ _|refine blk_drew ?_|refine blk_alloc ?_ _));refine blk_far ?_ NB111_112.out _;(with_reducible repeat(first|refine blk_drewN ?_ _|refine blk_drew ?_|refine blk_alloc ?_ _));refine blk_far ?_ NB111_112.out _;(with_reducible repeat(first|refine blk_drewN ?_ _|refine blk_drew ?_|refine blk_alloc ?_ _));exact BK111.out) hb);replace BK112:=Za (Zk (g:=gb112) (o:= .cells #[.int .i64 a0_0,.int .i64 a0_1,.int .i64 a0_2,.int .i64 0,.int .i64 0,.int .i64 0] 80 (0,0)) (by(with_reducible repeat(first|refine blk_drewN ?_ _|refine blk_drew ?_|refine blk_alloc ?_ _));refine blk_put (cs:= #[.int .i64 a0_0,.int .i64 a0_1,.int .i64 0,.int .i64 0,.int .i64 0,.int .i64 0]) ?_ 2 _ rfl;(with_reducible repeat(first|refine blk_drewN ?_ _|refine blk_drew ?_|refine blk_alloc ?_ _));refine blk_put (cs:= #[.int .i64 a0_0,.int .i64 0,.int .i64 0,.int .i64 0,.int .i64 0,.int .i64 0]) ?_ 1 _ rfl;(with_reducible repeat(first|refine blk_drewN ?_ _|refine blk_drew ?_|refine blk_alloc ?_ _));refine blk_put (cs:= #[.int .i64 0,.int .i64 0,.int .i64 0,.int .i64 0,.int .i64 0,.int .i64 0]) ?_ 0 _ rfl;(with_reducible repeat(first|refine blk_drewN ?_ _|refine blk_drew ?_|refine blk_alloc ?_ _));exact BK112.out) hb);replace HB:=Za (Zi z3_34 hb);(try clear hb);(try clear hb2);(try clear hk);(try clear hi);have hcz12_0:w11.cell? ⟨gb112,0,none⟩=some (.int .i64 a0_0):=(Zb BK112.out 0).trans rfl;have hcz12_1:w11.cell? ⟨gb112,1,none⟩=some (.int .i64 a0_1):=(Zb BK112.out 1).trans rfl;have hcz12_2:w11.cell? ⟨gb112,2,none⟩=some (.int .i64 a0_2):=(Zb BK112.out 2).trans rfl;have hcz12_3:w11.cell? ⟨gb112,3,none⟩=some (.int .i64 0):=(Zb BK112.out 3).trans rfl;have hcz12_4:w11.cell? ⟨gb112,4,none⟩=some (.int .i64 0):=(Zb BK112.out 4).trans rfl;have hcz12_5:w11.cell? ⟨gb112,5,none⟩=some (.int .i64 0):=(Zb BK112.out 5).trans rfl;have hfz12_0:=Zc BK112.out 0;have hfz12_1:=Zc BK112.out 1;have hfz12_2:=Zc BK112.out 2;have hfz12_3:=Zc BK112.out 3;have hfz12_4:=Zc BK112.out 4;have hfz12_5:=Zc BK112.out 5;have hcz13_0:w11.cell? ⟨gb111,0,none⟩=some (.int .i64 0):=(Zb BK111.out 0).trans rfl;have hcz13_1:w11.cell? ⟨gb111,1,none⟩=some (.int .i64 0):=(Zb BK111.out 1).trans rfl;have hcz13_2:w11.cell? ⟨gb111,2,none⟩=some (.int .i64 0):=(Zb BK111.out 2).trans rfl;have hcz13_3:w11.cell? ⟨gb111,3,none⟩=some (.int .i64 0):=(Zb BK111.out 3).trans rfl;have hcz13_4:w11.cell? ⟨gb111,4,none⟩=some (.int .i64 0):=(Zb BK111.out 4).trans rfl;have hcz13_5:w11.cell? ⟨gb111,5,none⟩=some (.int .i64 0):=(Zb BK111.out 5).trans rfl;have hfz13_0:=Zc BK111.out 0;have hfz13_1:=Zc BK111.out 1;have hfz13_2:=Zc BK111.out 2;have hfz13_3:=Zc BK111.out 3;have hfz13_4:=Zc BK111.out 4;have hfz13_5:=Zc BK111.out 5)|((with_reducible refine Yh (t:=80) (p:=2) rfl ?_);refine Yg (t:=80) (p:=2) (v:= ?vo_w14) (w1:=(((((((((w11.setCell ⟨gb112,3,none⟩ (.int .i64 t113)).setCell ⟨gb112,4,none⟩ (.int .i64 t114)).setCell ⟨gb112,5,none⟩ (.int .i64 t115)).setCell ⟨gb111,0,none⟩ (.int .i64 a0_0)).setCell ⟨gb111,1,none⟩ (.int .i64 a0_1)).setCell ⟨gb111,2,none⟩ (.int .i64 a0_2)).setCell ⟨gb111,3,none⟩ (.int .i64 t113)).setCell ⟨gb111,4,none⟩ (.int .i64 t114)).setCell ⟨gb111,5,none⟩ (.int .i64 t115))) ?hg ?ho ?hn ?hr ?_;(case ho=>rfl);(case hg=>rfl);(case hn=>rfl);(case hr=>exact z3_6);intro w14 hw;have n0_:Aside0 (w14.heap[gb110]? =some (.cells #[.int .i64 a0_0,.int .i64 a0_1,.int .i64 a0_2,.int .i64 a0_3,.int .i64 a0_4,.int .i64 a0_5] 99 (0,0))):=⟨(by rw[hw];exact(by(with_reducible repeat(first|refine blk_drewN ?_ _|refine blk_drew ?_|refine blk_alloc ?_ _));refine blk_far ?_ NB110_111.out _;(with_reducible repeat(first|refine blk_drewN ?_ _|refine blk_drew ?_|refine blk_alloc ?_ _));refine blk_far ?_ NB110_111.out _;(with_reducible repeat(first|refine blk_drewN ?_ _|refine blk_drew ?_|refine blk_alloc ?_ _));refine blk_far ?_ NB110_111.out _;(with_reducible repeat(first|refine blk_drewN ?_ _|refine blk_drew ?_|refine blk_alloc ?_ _));refine blk_far ?_ NB110_111.out _;(with_reducible repeat(first|refine blk_drewN ?_ _|refine blk_drew ?_|refine blk_alloc ?_ _));refine blk_far ?_ NB110_111.out _;(with_reducible repeat(first|refine blk_drewN ?_ _|refine blk_drew ?_|refine blk_alloc ?_ _));refine blk_far ?_ NB110_111.out _;(with_reducible repeat(first|refine blk_drewN ?_ _|refine blk_drew ?_|refine blk_alloc ?_ _));refine blk_far ?_ NB110_112.out _;(with_reducible repeat(first|refine blk_drewN ?_ _|refine blk_drew ?_|refine blk_alloc ?_ _));refine blk_far ?_ NB110_112.out _;(with_reducible repeat(first|refine blk_drewN ?_ _|refine blk_drew ?_|refine blk_alloc ?_ _));refine blk_far ?_ NB110_112.out _;(with_reducible repeat(first|refine blk_drewN ?_ _|refine blk_drew ?_|refine blk_alloc ?_ _));exact BK110.out))⟩;have n1_:Aside0 (w14.heap[gb111]? =some (.cells #[.int .i64 a0_0,.int .i64 a0_1,.int .i64 a0_2,.int .i64 t113,.int .i64 t114,.int .i64 t115] 80 (0,0))):=⟨(by rw[hw];exact(by(with_reducible repeat(first|refine blk_drewN ?_ _|refine blk_drew ?_|refine blk_alloc ?_ _));refine blk_put (cs:= #[.int .i64 a0_0,.int .i64 a0_1,.int .i64 a0_2,.int .i64 t113,.int .i64 t114,.int .i64 0]) ?_ 5 _ rfl;(with_reducible repeat(first|refine blk_drewN ?_ _|refine blk_drew ?_|refine blk_alloc ?_ _));refine blk_put (cs:= #[.int .i64 a0_0,.int .i64 a0_1,.int .i64 a0_2,.int .i64 t113,.int .i64 0,.int .i64 0]) ?_ 4 _ rfl;(with_reducible repeat(first|refine blk_drewN ?_ _|refine blk_drew ?_|refine blk_alloc ?_ _));refine blk_put (cs:= #[.int .i64 a0_0,.int .i64 a0_1,.int .i64 a0_2,.int .i64 0,.int .i64 0,.int .i64 0]) ?_ 3 _ rfl;(with_reducible repeat(first|refine blk_drewN ?_ _|refine blk_drew ?_|refine blk_alloc ?_ _));refine blk_put (cs:= #[.int .i64 a0_0,.int .i64 a0_1,.int .i64 0,.int .i64 0,.int .i64 0,.int .i64 0]) ?_ 2 _ rfl;(with_reducible repeat(first|refine blk_drewN ?_ _|refine blk_drew ?_|refine blk_alloc ?_ _));refine blk_put (cs:= #[.int .i64 a0_0,.int .i64 0,.int .i64 0,.int .i64 0,.int .i64 0,.int .i64 0]) ?_ 1 _ rfl;(with_reducible repeat(first|refine blk_drewN ?_ _|refine blk_drew ?_|refine blk_alloc ?_ _));refine blk_put (cs:= #[.int .i64 0,.int .i64 0,.int .i64 0,.int .i64 0,.int .i64 0,.int .i64 0]) ?_ 0 _ rfl;(with_reducible repeat(first|refine blk_drewN ?_ _|refine blk_drew ?_|refine blk_alloc ?_ _));refine blk_far ?_ NB111_112.out _;(with_reducible repeat(first|refine blk_drewN ?_ _|refine blk_drew ?_|refine blk_alloc ?_ _));refine blk_far ?_ NB111_112.out _;(with_reducible repeat(first|refine blk_drewN ?_ _|refine blk_drew ?_|refine blk_alloc ?_ _));refine blk_far ?_ NB111_112.out _;(with_reducible repeat(first|refine blk_drewN ?_ _|refine blk_drew ?_|refine blk_alloc ?_ _));exact BK111.out))⟩;have n2_:Aside0 (w14.heap[gb112]? =some (.cells #[.int .i64 a0_0,.int .i64 a0_1,.int .i64 a0_2,.int .i64 t113,.int .i64 t114,.int .i64 t115] 80 (0,0))):=⟨(by rw[hw];exact(by(with_reducible repeat(first|refine blk_drewN ?_ _|refine blk_drew ?_|refine blk_alloc ?_ _));refine blk_far ?_ NB112_111.out _;(with_reducible repeat(first|refine blk_drewN ?_ _|refine blk_drew ?_|refine blk_alloc ?_ _));refine blk_far ?_ NB112_111.out _;(with_reducible repeat(first|refine blk_drewN ?_ _|refine blk_drew ?_|refine blk_alloc ?_ _));refine blk_far ?_ NB112_111.out _;(with_reducible repeat(first|refine blk_drewN ?_ _|refine blk_drew ?_|refine blk_alloc ?_ _));refine blk_far ?_ NB112_111.out _;(with_reducible repeat(first|refine blk_drewN ?_ _|refine blk_drew ?_|refine blk_alloc ?_ _));refine blk_far ?_ NB112_111.out _;(with_reducible repeat(first|refine blk_drewN ?_ _|refine blk_drew ?_|refine blk_alloc ?_ _));refine blk_far ?_ NB112_111.out _;(with_reducible repeat(first|refine blk_drewN ?_ _|refine blk_drew ?_|refine blk_alloc ?_ _));refine blk_put (cs:= #[.int .i64 a0_0,.int .i64 a0_1,.int .i64 a0_2,.int .i64 t113,.int .i64 t114,.int .i64 0]) ?_ 5 _ rfl;(with_reducible repeat(first|refine blk_drewN ?_ _|refine blk_drew ?_|refine blk_alloc ?_ _));refine blk_put (cs:= #[.int .i64 a0_0,.int .i64 a0_1,.int .i64 a0_2,.int .i64 t113,.int .i64 0,.int .i64 0]) ?_ 4 _ rfl;(with_reducible repeat(first|refine blk_drewN ?_ _|refine blk_drew ?_|refine blk_alloc ?_ _));refine blk_put (cs:= #[.int .i64 a0_0,.int .i64 a0_1,.int .i64 a0_2,.int .i64 0,.int .i64 0,.int .i64 0]) ?_ 3 _ rfl;(with_reducible repeat(first|refine blk_drewN ?_ _|refine blk_drew ?_|refine blk_alloc ?_ _));exact BK112.out))⟩;have n3_:Aside0 (Below w.heap.size w w14):=⟨(by rw[hw];exact z3_34)⟩;clear hw;clear BK110;clear BK111;clear BK112;clear HB;have BK110:=n0_;have BK111:=n1_;have BK112:=n2_;have HB:=n3_;clear n0_ n1_ n2_ n3_))
 refine bodyPost_ret (results_cell_row rfl _ _ gb111 80 #[.int .i64 a0_0,.int .i64 a0_1,.int .i64 a0_2,.int .i64 t113,.int .i64 t114,.int .i64 t115] (0,0) _ rfl z3_27 Try.underlying80 rfl z3_24) rfl ?_
 exact⟨by first|rfl|(simp[errW_none,errW_some]<;>rfl)|(simp[*,errW_none,errW_some]<;>rfl)|(simp[*,errW_none,errW_some,i64_w];done),by repeat(first|(with_reducible first|exact HB.out|apply Zh|apply Ze|apply Zd|refine Zf ?_ GE110.out|refine Zf ?_ GE111.out|refine Zf ?_ GE112.out)|exact HB.out)⟩
def laws_toStmtS.l0:Nat→List (S99)→List (S80)→Int→Option ((List (S80)))
 |0,_,_,_=>none
 |k+1,x0,x3,x4=>if x4<(x0.length:Int) then (if 0≤x4 then ((laws_toStmt.f ((rd_T99 x0 x4).f0) ((rd_T99 x0 x4).f1) ((rd_T99 x0 x4).f2) ((rd_T99 x0 x4).f3.f0) ((rd_T99 x0 x4).f3.f1) ((rd_T99 x0 x4).f3.f2)).bind fun bt120=>(if x4<(x3.length:Int) then (laws_toStmtS.l0 k x0 (x3.set (x4:Int).toNat (⟨bt120.1,bt120.2.1,bt120.2.2.1,(⟨bt120.2.2.2.1,bt120.2.2.2.2.1,bt120.2.2.2.2.2⟩:S62)⟩:S80)) (wrap64 (x4+1))) else (none))) else (none)) else (some x3)
def laws_toStmtS.f (k:Nat) (l0:List (S99)):Option ((List (S80))):=if 0≤(l0.length:Int) then (if ((l0.length:Int):Int).toNat≤5864062014805 then (laws_toStmtS.l0 k l0 (List.replicate ((l0.length:Int):Int).toNat z80) 0) else (none)) else (none)
set_option maxHeartbeats 8000000 in
set_option maxRecDepth 100000 in
theorem laws_toStmtS.calls (k:Nat) (A0:Option Addr) (c0:Nat) (l0:List (S99)) (r:List (S80)) (w:World) (hr0:Kd.C k99 w A0 l0.length l0) (hc0:l0.length≤c0) (h:laws_toStmtS.f k l0=some r):
  Calls Try.prog 66 #[.slice A0 l0.length c0] w fun e w'=>∃v0_:Value,e= .returned (v0_)∧Kd.R k80 80 w' w.heap.size (fun _=>True) v0_ r∧Below w.heap.size w w':=by
 have hu99:=Try.underlying99
 have hu80:=Try.underlying80
 have HR0:=Za hr0
 have HC0:=Za hc0
 clear hr0 hc0
 have HB:=Za (Ya w.heap.size w)
 have H:(if 0≤(l0.length:Int) then (if ((l0.length:Int):Int).toNat≤5864062014805 then (laws_toStmtS.l0 k l0 (List.replicate ((l0.length:Int):Int).toNat z80) 0) else (none)) else (none))=some r:=h
 clear h
 by_cases c2:0≤(l0.length:Int)
 ·rw[if_pos c2] at H
  have c2b0:=eq_true c2
  have c2b1:decide (0≤(l0.length:Int))=true:=Zt c2
  clear c2
  by_cases c3:((l0.length:Int):Int).toNat≤5864062014805
  ·rw[if_pos c3] at H
   have c3b0:=eq_true c3
   have c3b1:decide (((l0.length:Int):Int).toNat≤5864062014805)=true:=Zt c3
   clear c3
   obtain⟨y116,hy116⟩:∃y_:List (S80),y_=(List.replicate ((l0.length:Int):Int).toNat z80):=⟨_,rfl⟩
   replace H:(laws_toStmtS.l0 k l0 y116 0)=some r:=by first|(rw[hy116];with_reducible exact H)|(have H2_:=(Option.bind_some _ _).symm.trans H;rw[hy116];with_reducible exact H2_)|(have H2_:=(Option.bind_some _ _).symm.trans H;with_reducible exact H2_)|with_reducible exact H|(rw[hy116];exact H)|exact H
   have Ny116:=Za hy116
   clear hy116
   have H':=Za H
   clear H
   go_enter Try.func66,Try.ntmps66
   go_wp2_with (first|((with_reducible refine Zp (N:=7) rfl ?_);refine Kd.R_make k80 _ 80 rfl (N:=7) rfl 60 _ _ rfl (l0.length:Int) rfl rfl Try.underlying60 (.agg #[(.int .i64 0),(.int .i64 0),(.int .i64 0),(.int .i64 0),(.int .i64 0),(.int .i64 0)]) 48 info80 rfl (by decide) (by omega) z80 (ok:=fun _=>True) (okp:=fun _=>True) (k80_mkM _ _ _ z80) (fun _ hk=>hk) trivial (Zs z3_5) (Nat.le_trans (Nat.mul_le_mul_right _ (Zs z3_5:(l0.length:Int).toNat≤5864062014805)) (by omega)) (Ya _ _) (Nat.le_refl _) ?_;intro v117 w4 ho5 hb hg_ hnew_;clear hg_ hnew_;(first|rw[←Ny116.out] at ho5|(simp only[Int.reduceToNat] at ho5;rw[←Ny116.out] at ho5));have HO118:=Za (Kd.R_lower ho5 (Zw z3_0));replace HB:=Za (Zi z3_0 hb);clear hb ho5))
   go_loopg [4] k (fun kq v4 w'=>∃(x3_1:List (S80)) (x4_1:Int),v4= .int .i64 x4_1∧Aside0 (laws_toStmtS.l0 kq l0 x3_1 x4_1=some r)∧Aside0 (kq≤k)∧Aside0 (Kd.R k80 80 w' w.heap.size (fun _=>True) v117 x3_1)∧Aside0 (Below w.heap.size w w'))
   case atStart=>exact⟨(y116),(0),z3_17,H',⟨Nat.le_refl _⟩,⟨by(with_reducible repeat(first|apply Zy|apply Zz|apply Zx));exact HO118.out⟩,⟨by repeat(first|(with_reducible first|exact HB.out|apply Zh|apply Ze|apply Zd)|exact HB.out)⟩⟩
   case round=>
    clear H'
    (try clear c2);(try clear c2b0);(try clear c2b1);(try clear c3);(try clear c3b0);(try clear c3b1)
    obtain⟨x3_1,x4_1,rfl,HA,HK1,HO_3,HB⟩:=hrel
    cases gk with
    |zero=>exact absurd HA.out (by simp[laws_toStmtS.l0])
    |succ k1=>
     have H:=HA.out
     clear HA
     simp only[laws_toStmtS.l0] at H
     by_cases c6:x4_1<(l0.length:Int)
     ·rw[if_pos c6] at H
      have c6b0:decide (x4_1<(l0.length:Int))=true:=Zt c6
      clear c6
      by_cases c7:0≤x4_1
      ·rw[if_pos c7] at H
       have c7b0:decide (0≤x4_1)=true:=Zt c7
       clear c7
       replace H:=Zl H
       obtain⟨⟨t120,t121,t122,t123,t124,t125⟩,A80,H⟩:=H
       replace H:(if x4_1<(x3_1.length:Int) then (laws_toStmtS.l0 k1 l0 (x3_1.set (x4_1:Int).toNat (⟨t120,t121,t122,(⟨t123,t124,t125⟩:S62)⟩:S80)) (wrap64 (x4_1+1))) else (none))=some r:=H
       have A8:=Za A80
       clear A80
       by_cases c9:x4_1<(x3_1.length:Int)
       ·rw[if_pos c9] at H
        have c9b0:decide (x4_1<(x3_1.length:Int))=true:=Zt c9
        clear c9
        obtain⟨y126,hy126⟩:∃y_:List (S80),y_=(x3_1.set (x4_1:Int).toNat (⟨t120,t121,t122,(⟨t123,t124,t125⟩:S62)⟩:S80)):=⟨_,rfl⟩
        replace H:(laws_toStmtS.l0 k1 l0 y126 (wrap64 (x4_1+1)))=some r:=by first|(rw[hy126];with_reducible exact H)|(have H2_:=(Option.bind_some _ _).symm.trans H;rw[hy126];with_reducible exact H2_)|(have H2_:=(Option.bind_some _ _).symm.trans H;with_reducible exact H2_)|with_reducible exact H|(rw[hy126];exact H)|exact H
        have Ny126:=Za hy126
        clear hy126
        have H':=Za H
        clear H
        have p119:0≤(x4_1:Int):=Zs z3_5
        have q119:x4_1<(l0.length:Int):=Zs z3_5
        obtain⟨ad119,e119,hx119_0,hx119_1,hx119_2,hx119_3,hx119_4,hx119_5⟩:=at_T99 HR0.out x4_1 p119 q119
        cases e119
        replace hx119_0:=(HB.out.cell (Zg w _ hx119_0)).trans hx119_0
        replace hx119_1:=(HB.out.cell (Zg w _ hx119_1)).trans hx119_1
        replace hx119_2:=(HB.out.cell (Zg w _ hx119_2)).trans hx119_2
        replace hx119_3:=(HB.out.cell (Zg w _ hx119_3)).trans hx119_3
        replace hx119_4:=(HB.out.cell (Zg w _ hx119_4)).trans hx119_4
        replace hx119_5:=(HB.out.cell (Zg w _ hx119_5)).trans hx119_5
        replace p119:=eq_true p119
        replace q119:=eq_true q119
        go_wp2_with (first|((first|((with_reducible refine gate_callee (f:=89) rfl ?_);refine goesL_ (some 20) rfl rfl Try.func89 z3_24 rfl #[.agg #[.int .i64 ((rd_T99 l0 x4_1).f0),.int .i64 ((rd_T99 l0 x4_1).f1),.int .i64 ((rd_T99 l0 x4_1).f2),.int .i64 ((rd_T99 l0 x4_1).f3.f0),.int .i64 ((rd_T99 l0 x4_1).f3.f1),.int .i64 ((rd_T99 l0 x4_1).f3.f2)]] rfl z3_1 ?_;(with_reducible refine(laws_toStmt.calls ((rd_T99 l0 x4_1).f0) ((rd_T99 l0 x4_1).f1) ((rd_T99 l0 x4_1).f2) ((rd_T99 l0 x4_1).f3.f0) ((rd_T99 l0 x4_1).f3.f1) ((rd_T99 l0 x4_1).f3.f2) t120 t121 t122 t123 t124 t125 _ A8.out).mono ?_))|(go_at_call 89;(with_reducible refine(laws_toStmt.calls ((rd_T99 l0 x4_1).f0) ((rd_T99 l0 x4_1).f1) ((rd_T99 l0 x4_1).f2) ((rd_T99 l0 x4_1).f3.f0) ((rd_T99 l0 x4_1).f3.f1) ((rd_T99 l0 x4_1).f3.f2) t120 t121 t122 t123 t124 t125 _ A8.out).mono ?_)));rintro e w11 ⟨rfl,hb⟩;(first|refine⟨_,rfl,?_⟩|skip);replace HO_3:=Za (Kd.R_below (by(with_reducible repeat(first|apply Zy|apply Zz|apply Zx));exact HO_3.out) hb);replace HB:=Za (Zi z3_0 hb);(try clear hb);(try clear hb2);(try clear hk);(try clear hi);have p10:0≤(x4_1:Int):=Zs z3_5;have q10:(x4_1:Int)<((x3_1.length:Int):Int):=Zs z3_5;obtain⟨go10,co10,eo10,gb10,gl10,cl10,HG10⟩:=Kd.R_form HO_3.out (by omega);(first|cases eo10|(injection eo10 with ea_ en_ ec_;(first|subst ea_|(injection ea_ with ea_;subst ea_));subst ec_;clear en_));have GB10:=Za gb10;have GG10:=Za HG10;clear gb10 gl10 HG10;obtain⟨ce10,hcl10,hM10,hcc10,hfr10⟩:=Kd.R_elem HO_3.out z80 (x4_1:Int) p10 q10;obtain rfl:=k80_openM hM10;have hx10_0:w11.cell? ⟨go10,(x4_1:Int).toNat*6,none⟩=some (.int .i64 ((rd_T80 x3_1 x4_1).f0)):=hcc10 0 _ rfl;have hx10_1:w11.cell? ⟨go10,(x4_1:Int).toNat*6+1,none⟩=some (.int .i64 ((rd_T80 x3_1 x4_1).f1)):=hcc10 1 _ rfl;have hx10_2:w11.cell? ⟨go10,(x4_1:Int).toNat*6+2,none⟩=some (.int .i64 ((rd_T80 x3_1 x4_1).f2)):=hcc10 2 _ rfl;have hx10_3:w11.cell? ⟨go10,(x4_1:Int).toNat*6+3,none⟩=some (.int .i64 ((rd_T80 x3_1 x4_1).f3.f0)):=hcc10 3 _ rfl;have hx10_4:w11.cell? ⟨go10,(x4_1:Int).toNat*6+4,none⟩=some (.int .i64 ((rd_T80 x3_1 x4_1).f3.f1)):=hcc10 4 _ rfl;have hx10_5:w11.cell? ⟨go10,(x4_1:Int).toNat*6+5,none⟩=some (.int .i64 ((rd_T80 x3_1 x4_1).f3.f2)):=hcc10 5 _ rfl;have hf10_0:w11.frozen? ⟨go10,(x4_1:Int).toNat*6,none⟩=false:=hfr10 0;have hf10_1:w11.frozen? ⟨go10,(x4_1:Int).toNat*6+1,none⟩=false:=hfr10 1;have hf10_2:w11.frozen? ⟨go10,(x4_1:Int).toNat*6+2,none⟩=false:=hfr10 2;have hf10_3:w11.frozen? ⟨go10,(x4_1:Int).toNat*6+3,none⟩=false:=hfr10 3;have hf10_4:w11.frozen? ⟨go10,(x4_1:Int).toNat*6+4,none⟩=false:=hfr10 4;have hf10_5:w11.frozen? ⟨go10,(x4_1:Int).toNat*6+5,none⟩=false:=hfr10 5;clear hcl10 hcc10 hfr10;(try clear hM10);replace p10:=eq_true p10;replace q10:=eq_true q10;have HX12:=Za (show Kd.R k80 80 w11 w.heap.size (fun _=>True) (.slice (some ⟨go10,0,none⟩) x3_1.length co10) x3_1 from (by(with_reducible repeat(first|apply Zy|apply Zz|apply Zx));exact HO_3.out));obtain⟨ce12,hcl12,hM12,hcc12,hfr12⟩:=Kd.R_elem HX12.out z80 (x4_1:Int) (Zs z3_5) (by have h_:(x4_1:Int)<((x3_1.length:Int):Int):=Zs z3_5;first|exact h_|(have e_:=(Yi HO_3.out).1;omega)|simpa using h_);obtain rfl:=k80_openM hM12;have HP12:=Kd.R_seg HX12.out (x4_1:Int) (Zs z3_5) (by have h_:(x4_1:Int)<((x3_1.length:Int):Int):=Zs z3_5;first|exact h_|(have e_:=(Yi HO_3.out).1;omega)|simpa using h_) (seg:=[.int .i64 t120,.int .i64 t121,.int .i64 t122,.int .i64 t123,.int .i64 t124,.int .i64 t125]) (j:=0) hcl12 hcc12 (show 6≤6 from by decide) (x':=(⟨t120,t121,t122,(⟨t123,t124,t125⟩:S62)⟩:S80)) (k80_mkM _ _ _ (⟨t120,t121,t122,(⟨t123,t124,t125⟩:S62)⟩:S80)) (fun _ hk=>hk);have hx12_0:=hcc12 0 _ rfl;(try simp only[show(k80).sz=6 from rfl,Nat.mul_one,Nat.add_zero] at hx12_0);have hf12_0:=hfr12 0;(try simp only[show(k80).sz=6 from rfl,Nat.mul_one,Nat.add_zero] at hf12_0);have hx12_1:=hcc12 1 _ rfl;(try simp only[show(k80).sz=6 from rfl,Nat.mul_one,Nat.add_zero] at hx12_1);have hf12_1:=hfr12 1;(try simp only[show(k80).sz=6 from rfl,Nat.mul_one,Nat.add_zero] at hf12_1);have hx12_2:=hcc12 2 _ rfl;(try simp only[show(k80).sz=6 from rfl,Nat.mul_one,Nat.add_zero] at hx12_2);have hf12_2:=hfr12 2;(try simp only[show(k80).sz=6 from rfl,Nat.mul_one,Nat.add_zero] at hf12_2);have hx12_3:=hcc12 3 _ rfl;(try simp only[show(k80).sz=6 from rfl,Nat.mul_one,Nat.add_zero] at hx12_3);have hf12_3:=hfr12 3;(try simp only[show(k80).sz=6 from rfl,Nat.mul_one,Nat.add_zero] at hf12_3);have hx12_4:=hcc12 4 _ rfl;(try simp only[show(k80).sz=6 from rfl,Nat.mul_one,Nat.add_zero] at hx12_4);have hf12_4:=hfr12 4;(try simp only[show(k80).sz=6 from rfl,Nat.mul_one,Nat.add_zero] at hf12_4);have hx12_5:=hcc12 5 _ rfl;(try simp only[show(k80).sz=6 from rfl,Nat.mul_one,Nat.add_zero] at hx12_5);have hf12_5:=hfr12 5;(try simp only[show(k80).sz=6 from rfl,Nat.mul_one,Nat.add_zero] at hf12_5);clear hcl12 hcc12 hfr12;(try clear hM12))|((with_reducible refine Yh (t:=80) (p:=21) rfl ?_);refine Yg (t:=80) (p:=21) (v:= ?vo_w13) (w1:=((((((w11.setCell ⟨go10,(x4_1:Int).toNat*6,none⟩ (.int .i64 t120)).setCell ⟨go10,(x4_1:Int).toNat*6+1,none⟩ (.int .i64 t121)).setCell ⟨go10,(x4_1:Int).toNat*6+2,none⟩ (.int .i64 t122)).setCell ⟨go10,(x4_1:Int).toNat*6+3,none⟩ (.int .i64 t123)).setCell ⟨go10,(x4_1:Int).toNat*6+4,none⟩ (.int .i64 t124)).setCell ⟨go10,(x4_1:Int).toNat*6+5,none⟩ (.int .i64 t125))) ?hg ?ho ?hn ?hr ?_;(case ho=>rfl);(case hg=>rfl);(case hn=>rfl);(case hr=>exact z3_6);intro w13 hw;have hg:w11.grownBy w13 (some go10):=(by rw[hw];exact HP12.2);have hp_:Kd.R k80 80 w13 w.heap.size (fun _=>True) (.slice (some ⟨go10,0,none⟩) x3_1.length co10) y126:=(by rw[hw,Ny126.out];exact HP12.1);clear HP12;replace HO_3:=Za (hp_);replace HB:=Za ((by rw[hw];exact Zf (Zf (Zf (Zf (Zf (Zf (HB.out) GB10.out) GB10.out) GB10.out) GB10.out) GB10.out) GB10.out:Below w.heap.size w w13));clear hg hw hp_))
        go_roundg k1
        case measure=>have:=HK1.out;omega
        case rel=>exact⟨(y126),(wrap64 (x4_1+1)),z3_17,H',⟨by have:=HK1.out;omega⟩,⟨by(with_reducible repeat(first|apply Zy|apply Zz|apply Zx));exact HO_3.out⟩,⟨by repeat(first|(with_reducible first|exact HB.out|apply Zh|apply Ze|apply Zd)|exact HB.out)⟩⟩
       ·rw[if_neg c9] at H
        exact absurd H (by simp)
      ·rw[if_neg c7] at H
       exact absurd H (by simp)
     ·rw[if_neg c6] at H
      have c6b0:decide (x4_1<(l0.length:Int))=false:=Yc c6
      clear c6
      obtain rfl:=Zj H
      go_wp2
      go_ret
      exact⟨_,by first|rfl|(simp[errW_none,errW_some]<;>rfl)|(simp[*,errW_none,errW_some]<;>rfl)|(simp[*,errW_none,errW_some,i64_w];done),by(with_reducible repeat(first|apply Zy|apply Zz|apply Zx));exact HO_3.out,by repeat(first|(with_reducible first|exact HB.out|apply Zh|apply Ze|apply Zd)|exact HB.out)⟩
  ·rw[if_neg c3] at H
   exact absurd H (by simp)
 ·rw[if_neg c2] at H
  exact absurd H (by simp)
def laws_toTask.f (k:Nat) (l0_0:List (S99)) (a0_1:Int) (a0_2:Int) (a0_3:Int):Option ((List (S80))×Int×Int×Int):=(laws_toStmtS.f k l0_0).bind fun t130=>((laws_toExpr.f a0_1 a0_2 a0_3).bind fun bt133=>(some (t130,bt133.1,bt133.2.1,bt133.2.2)))
set_option maxHeartbeats 8000000 in
set_option maxRecDepth 100000 in
theorem laws_toTask.calls (k:Nat) (A0_0:Option Addr) (c0_0:Nat) (l0_0:List (S99)) (a0_1:Int) (a0_2:Int) (a0_3:Int) (r1:List (S80)) (r2:Int) (r3:Int) (r4:Int) (w:World) (hr0_0:Kd.C k99 w A0_0 l0_0.length l0_0) (hc0_0:l0_0.length≤c0_0) (h:laws_toTask.f k l0_0 a0_1 a0_2 a0_3=some (r1,r2,r3,r4)):
  Calls Try.prog 44 #[.agg #[.slice A0_0 l0_0.length c0_0,.int .i64 a0_1,.int .i64 a0_2,.int .i64 a0_3]] w fun e w'=>∃v0_:Value,e= .returned (.agg #[v0_,.int .i64 r2,.int .i64 r3,.int .i64 r4])∧Kd.R k80 80 w' w.heap.size (fun _=>True) v0_ r1∧Below w.heap.size w w':=by
 have hu71:=Try.underlying71
 have hu64:=Try.underlying64
 have hu69:=Try.underlying69
 have hu62:=Try.underlying62
 have HR0_0:=Za hr0_0
 have HC0_0:=Za hc0_0
 clear hr0_0 hc0_0
 have HB:=Za (Ya w.heap.size w)
 have H:((laws_toStmtS.f k l0_0).bind fun t130=>((laws_toExpr.f a0_1 a0_2 a0_3).bind fun bt133=>(some (t130,bt133.1,bt133.2.1,bt133.2.2))))=some (r1,r2,r3,r4):=h
 clear h
 replace H:=Zl H
 obtain⟨t130,A20,H⟩:=H
 replace H:((laws_toExpr.f a0_1 a0_2 a0_3).bind fun bt133=>(some (t130,bt133.1,bt133.2.1,bt133.2.2)))=some (r1,r2,r3,r4):=H
 have A2:=Za A20
 clear A20
 replace H:=Zl H
 obtain⟨⟨t133,t134,t135⟩,A30,H⟩:=H
 replace H:(some (t130,t133,t134,t135))=some (r1,r2,r3,r4):=H
 have A3:=Za A30
 clear A30
 simp only[Option.some.injEq,Prod.mk.injEq] at H
 obtain⟨rfl,rfl,rfl,rfl⟩:=H
 go_enter Try.func44,Try.ntmps44
 go_wp2_with (first|((with_reducible refine Zp (N:=1) rfl ?_);refine Zr ?hg (N:=1) ?hd (cs:= #[.slice A0_0 l0_0.length c0_0,.int .i64 a0_1,.int .i64 a0_2,.int .i64 a0_3]) (t:=71) ?hr ?_;(case hd=>rfl);(case hg=>rfl);(case hr=>exact z3_6);intro gb127 hg w4 hbox hb;have BK127:=Za (hbox);have GW127:=Za ((z3_35:w.heap.size≤gb127));have GE127:=Za ((z3_35:w.heap.size≤gb127));replace HB:=Za (Zi z3_0 hb);clear hb hbox hg)|((with_reducible refine Zp (N:=2) rfl ?_);refine Zr ?hg (N:=2) ?hd (cs:= #[.slice none 0 0,.int .i64 0,.int .i64 0,.int .i64 0]) (t:=64) ?hr ?_;(case hd=>rfl);(case hg=>rfl);(case hr=>exact z3_6);intro gb128 hg w5 hbox hb;have BK128:=Za (hbox);have GW128:=Za ((by rw[hg];exact(Zw z3_30):w.heap.size≤gb128));have GE128:=Za ((by rw[hg];exact(Zw z3_30):w.heap.size≤gb128));replace HB:=Za (Zi z3_30 hb);have NB127_128:=Za ((by rw[hg];exact Nat.ne_of_lt (blk_lt (g:=gb127) (o:= .cells #[.slice A0_0 l0_0.length c0_0,.int .i64 a0_1,.int .i64 a0_2,.int .i64 a0_3] 71 (0,0)) z3_13):gb127≠gb128));have NB128_127:=Za ((by rw[hg];exact Nat.ne_of_gt (blk_lt (g:=gb127) (o:= .cells #[.slice A0_0 l0_0.length c0_0,.int .i64 a0_1,.int .i64 a0_2,.int .i64 a0_3] 71 (0,0)) z3_13):gb128≠gb127));replace BK127:=Za (Zk (g:=gb127) (o:= .cells #[.slice A0_0 l0_0.length c0_0,.int .i64 a0_1,.int .i64 a0_2,.int .i64 a0_3] 71 (0,0)) z3_13 hb);clear hb hbox hg)|((with_reducible refine Zp (N:=3) rfl ?_);refine Zr ?hg (N:=3) ?hd (cs:= #[.slice none 0 0,.int .i64 0,.int .i64 0,.int .i64 0]) (t:=64) ?hr ?_;(case hd=>rfl);(case hg=>rfl);(case hr=>exact z3_6);intro gb129 hg w6 hbox hb;have BK129:=Za (hbox);have GW129:=Za ((by rw[hg];exact(Zw z3_21):w.heap.size≤gb129));have GE129:=Za ((by rw[hg];exact(Zw z3_21):w.heap.size≤gb129));replace HB:=Za (Zi z3_21 hb);have NB127_129:=Za ((by rw[hg];exact Nat.ne_of_lt (blk_lt (g:=gb127) (o:= .cells #[.slice A0_0 l0_0.length c0_0,.int .i64 a0_1,.int .i64 a0_2,.int .i64 a0_3] 71 (0,0)) z3_13):gb127≠gb129));have NB129_127:=Za ((by rw[hg];exact Nat.ne_of_gt (blk_lt (g:=gb127) (o:= .cells #[.slice A0_0 l0_0.length c0_0,.int .i64 a0_1,.int .i64 a0_2,.int .i64 a0_3] 71 (0,0)) z3_13):gb129≠gb127));replace BK127:=Za (Zk (g:=gb127) (o:= .cells #[.slice A0_0 l0_0.length c0_0,.int .i64 a0_1,.int .i64 a0_2,.int .i64 a0_3] 71 (0,0)) z3_13 hb);have NB128_129:=Za ((by rw[hg];exact Nat.ne_of_lt (blk_lt (g:=gb128) (o:= .cells #[.slice none 0 0,.int .i64 0,.int .i64 0,.int .i64 0] 64 (0,0)) z3_19):gb128≠gb129));have NB129_128:=Za ((by rw[hg];exact Nat.ne_of_gt (blk_lt (g:=gb128) (o:= .cells #[.slice none 0 0,.int .i64 0,.int .i64 0,.int .i64 0] 64 (0,0)) z3_19):gb129≠gb128));replace BK128:=Za (Zk (g:=gb128) (o:= .cells #[.slice none 0 0,.int .i64 0,.int .i64 0,.int .i64 0] 64 (0,0)) z3_19 hb);clear hb hbox hg;have hnb7:=NB127_128.out;have hnc7:=NB128_127.out;have hnb8:=NB127_129.out;have hnc8:=NB129_127.out;have hcz9_0:w6.cell? ⟨gb127,0,none⟩=some (.slice A0_0 l0_0.length c0_0):=(Zb BK127.out 0).trans rfl;have hcz9_1:w6.cell? ⟨gb127,1,none⟩=some (.int .i64 a0_1):=(Zb BK127.out 1).trans rfl;have hcz9_2:w6.cell? ⟨gb127,2,none⟩=some (.int .i64 a0_2):=(Zb BK127.out 2).trans rfl;have hcz9_3:w6.cell? ⟨gb127,3,none⟩=some (.int .i64 a0_3):=(Zb BK127.out 3).trans rfl;have hfz9_0:=Zc BK127.out 0;have hfz9_1:=Zc BK127.out 1;have hfz9_2:=Zc BK127.out 2;have hfz9_3:=Zc BK127.out 3)|((first|((with_reducible refine gate_callee (f:=66) rfl ?_);refine goesL_ (some 6) rfl rfl Try.func66 z3_24 rfl #[.slice A0_0 l0_0.length c0_0] rfl z3_1 ?_;(with_reducible refine(laws_toStmtS.calls k _ _ l0_0 t130 _ ?side1 ?side2 A2.out).mono ?_))|(go_at_call 66;(with_reducible refine(laws_toStmtS.calls k _ _ l0_0 t130 _ ?side1 ?side2 A2.out).mono ?_)));(case side1=>exact z3_8);(case side2=>exact HC0_0.out);rintro e w10 ⟨v131,rfl,ho0,hb⟩;(first|refine⟨_,rfl,?_⟩|skip);have HO132:=Za (Kd.R_lower ho0 (Zw z3_14));replace BK127:=Za (Zk (g:=gb127) (o:= .cells #[.slice A0_0 l0_0.length c0_0,.int .i64 a0_1,.int .i64 a0_2,.int .i64 a0_3] 71 (0,0)) z3_13 hb);replace BK128:=Za (Zk (g:=gb128) (o:= .cells #[.slice none 0 0,.int .i64 0,.int .i64 0,.int .i64 0] 64 (0,0)) z3_19 hb);replace BK129:=Za (Zk (g:=gb129) (o:= .cells #[.slice none 0 0,.int .i64 0,.int .i64 0,.int .i64 0] 64 (0,0)) (by(with_reducible repeat(first|refine blk_drewN ?_ _|refine blk_drew ?_|refine blk_alloc ?_ _));exact BK129.out) hb);replace HB:=Za (Zi z3_14 hb);(try clear hb);(try clear hb2);(try clear hk);(try clear hi);(try clear ho0);obtain⟨Ao11,co11,eo11⟩:=Kd.R_slice HO132.out;subst eo11;have hnb12:=NB129_128.out;have hnc12:=NB128_129.out;have hcz13_0:w10.cell? ⟨gb129,0,none⟩=some (.slice none 0 0):=(Zb BK129.out 0).trans rfl;have hcz13_1:w10.cell? ⟨gb129,1,none⟩=some (.int .i64 0):=(Zb BK129.out 1).trans rfl;have hcz13_2:w10.cell? ⟨gb129,2,none⟩=some (.int .i64 0):=(Zb BK129.out 2).trans rfl;have hcz13_3:w10.cell? ⟨gb129,3,none⟩=some (.int .i64 0):=(Zb BK129.out 3).trans rfl;have hfz13_0:=Zc BK129.out 0;have hfz13_1:=Zc BK129.out 1;have hfz13_2:=Zc BK129.out 2;have hfz13_3:=Zc BK129.out 3;have hcz14_0:w10.cell? ⟨gb127,0,none⟩=some (.slice A0_0 l0_0.length c0_0):=(Zb BK127.out 0).trans rfl;have hcz14_1:w10.cell? ⟨gb127,1,none⟩=some (.int .i64 a0_1):=(Zb BK127.out 1).trans rfl;have hcz14_2:w10.cell? ⟨gb127,2,none⟩=some (.int .i64 a0_2):=(Zb BK127.out 2).trans rfl;have hcz14_3:w10.cell? ⟨gb127,3,none⟩=some (.int .i64 a0_3):=(Zb BK127.out 3).trans rfl;have hfz14_0:=Zc BK127.out 0;have hfz14_1:=Zc BK127.out 1;have hfz14_2:=Zc BK127.out 2;have hfz14_3:=Zc BK127.out 3)|((first|((with_reducible refine gate_callee (f:=67) rfl ?_);refine goesL_ (some 10) rfl rfl Try.func67 z3_24 rfl #[.agg #[.int .i64 a0_1,.int .i64 a0_2,.int .i64 a0_3]] rfl z3_1 ?_;(with_reducible refine(laws_toExpr.calls a0_1 a0_2 a0_3 t133 t134 t135 _ A3.out).mono ?_))|(go_at_call 67;(with_reducible refine(laws_toExpr.calls a0_1 a0_2 a0_3 t133 t134 t135 _ A3.out).mono ?_)));rintro e w15 ⟨rfl,hb⟩;(first|refine⟨_,rfl,?_⟩|skip);replace HO132:=Za (Kd.R_below (by(with_reducible repeat(first|apply Zy|apply Zz|apply Zx));exact(Yk (Kd.R_far (p:=⟨gb129,0,none⟩) (Kd.R_types HO132.out BK129.out (by decide)) (fun _ hk=>hk.2) (.slice Ao11 t130.length co11)) (fun _ h_=>h_.1))) hb);replace BK127:=Za (Zk (g:=gb127) (o:= .cells #[.slice A0_0 l0_0.length c0_0,.int .i64 a0_1,.int .i64 a0_2,.int .i64 a0_3] 71 (0,0)) (by(with_reducible repeat(first|refine blk_drewN ?_ _|refine blk_drew ?_|refine blk_alloc ?_ _));refine blk_far ?_ NB127_129.out _;(with_reducible repeat(first|refine blk_drewN ?_ _|refine blk_drew ?_|refine blk_alloc ?_ _));exact BK127.out) hb);replace BK128:=Za (Zk (g:=gb128) (o:= .cells #[.slice none 0 0,.int .i64 0,.int .i64 0,.int .i64 0] 64 (0,0)) (by(with_reducible repeat(first|refine blk_drewN ?_ _|refine blk_drew ?_|refine blk_alloc ?_ _));refine blk_far ?_ NB128_129.out _;(with_reducible repeat(first|refine blk_drewN ?_ _|refine blk_drew ?_|refine blk_alloc ?_ _));exact BK128.out) hb);replace BK129:=Za (Zk (g:=gb129) (o:= .cells #[.slice Ao11 t130.length co11,.int .i64 0,.int .i64 0,.int .i64 0] 64 (0,0)) (by(with_reducible repeat(first|refine blk_drewN ?_ _|refine blk_drew ?_|refine blk_alloc ?_ _));refine blk_put (cs:= #[.slice none 0 0,.int .i64 0,.int .i64 0,.int .i64 0]) ?_ 0 _ rfl;(with_reducible repeat(first|refine blk_drewN ?_ _|refine blk_drew ?_|refine blk_alloc ?_ _));exact BK129.out) hb);replace HB:=Za (Zi z3_14 hb);(try clear hb);(try clear hb2);(try clear hk);(try clear hi);have hcz16_0:w15.cell? ⟨gb129,0,none⟩=some (.slice Ao11 t130.length co11):=(Zb BK129.out 0).trans rfl;have hcz16_1:w15.cell? ⟨gb129,1,none⟩=some (.int .i64 0):=(Zb BK129.out 1).trans rfl;have hcz16_2:w15.cell? ⟨gb129,2,none⟩=some (.int .i64 0):=(Zb BK129.out 2).trans rfl;have hcz16_3:w15.cell? ⟨gb129,3,none⟩=some (.int .i64 0):=(Zb BK129.out 3).trans rfl;have hfz16_0:=Zc BK129.out 0;have hfz16_1:=Zc BK129.out 1;have hfz16_2:=Zc BK129.out 2;have hfz16_3:=Zc BK129.out 3;have hcz17_0:w15.cell? ⟨gb128,0,none⟩=some (.slice none 0 0):=(Zb BK128.out 0).trans rfl;have hcz17_1:w15.cell? ⟨gb128,1,none⟩=some (.int .i64 0):=(Zb BK128.out 1).trans rfl;have hcz17_2:w15.cell? ⟨gb128,2,none⟩=some (.int .i64 0):=(Zb BK128.out 2).trans rfl;have hcz17_3:w15.cell? ⟨gb128,3,none⟩=some (.int .i64 0):=(Zb BK128.out 3).trans rfl;have hfz17_0:=Zc BK128.out 0;have hfz17_1:=Zc BK128.out 1;have hfz17_2:=Zc BK128.out 2;have hfz17_3:=Zc BK128.out 3)|((with_reducible refine Yh (t:=64) (p:=2) rfl ?_);refine Yg (t:=64) (p:=2) (v:= ?vo_w18) (w1:=(((((((w15.setCell ⟨gb129,1,none⟩ (.int .i64 t133)).setCell ⟨gb129,2,none⟩ (.int .i64 t134)).setCell ⟨gb129,3,none⟩ (.int .i64 t135)).setCell ⟨gb128,0,none⟩ (.slice Ao11 t130.length co11)).setCell ⟨gb128,1,none⟩ (.int .i64 t133)).setCell ⟨gb128,2,none⟩ (.int .i64 t134)).setCell ⟨gb128,3,none⟩ (.int .i64 t135))) ?hg ?ho ?hn ?hr ?_;(case ho=>rfl);(case hg=>rfl);(case hn=>rfl);(case hr=>exact z3_6);intro w18 hw;have n0_:Aside0 (Kd.R k80 80 w18 w.heap.size (fun _=>True) (.slice Ao11 t130.length co11) t130):=⟨(by rw[hw];exact(by(with_reducible repeat(first|apply Zy|apply Zz|apply Zx));exact Yk (Kd.R_far (p:=⟨gb128,3,none⟩) (Kd.R_far (p:=⟨gb128,2,none⟩) (Kd.R_far (p:=⟨gb128,1,none⟩) (Kd.R_far (p:=⟨gb128,0,none⟩) (Kd.R_far (p:=⟨gb129,3,none⟩) (Kd.R_far (p:=⟨gb129,2,none⟩) (Kd.R_far (p:=⟨gb129,1,none⟩) (Kd.R_types (Kd.R_types HO132.out BK129.out (by decide)) BK128.out (by decide)) (fun _ hk=>hk.1.2) (.int .i64 t133)) (fun _ hk=>hk.1.2) (.int .i64 t134)) (fun _ hk=>hk.1.2) (.int .i64 t135)) (fun _ hk=>hk.2) (.slice Ao11 t130.length co11)) (fun _ hk=>hk.2) (.int .i64 t133)) (fun _ hk=>hk.2) (.int .i64 t134)) (fun _ hk=>hk.2) (.int .i64 t135)) (fun _ hk=>trivial)))⟩;have n1_:Aside0 (w18.heap[gb127]? =some (.cells #[.slice A0_0 l0_0.length c0_0,.int .i64 a0_1,.int .i64 a0_2,.int .i64 a0_3] 71 (0,0))):=⟨(by rw[hw];exact(by(with_reducible repeat(first|refine blk_drewN ?_ _|refine blk_drew ?_|refine blk_alloc ?_ _));refine blk_far ?_ NB127_128.out _;(with_reducible repeat(first|refine blk_drewN ?_ _|refine blk_drew ?_|refine blk_alloc ?_ _));refine blk_far ?_ NB127_128.out _;(with_reducible repeat(first|refine blk_drewN ?_ _|refine blk_drew ?_|refine blk_alloc ?_ _));refine blk_far ?_ NB127_128.out _;(with_reducible repeat(first|refine blk_drewN ?_ _|refine blk_drew ?_|refine blk_alloc ?_ _));refine blk_far ?_ NB127_128.out _;(with_reducible repeat(first|refine blk_drewN ?_ _|refine blk_drew ?_|refine blk_alloc ?_ _));refine blk_far ?_ NB127_129.out _;(with_reducible repeat(first|refine blk_drewN ?_ _|refine blk_drew ?_|refine blk_alloc ?_ _));refine blk_far ?_ NB127_129.out _;(with_reducible repeat(first|refine blk_drewN ?_ _|refine blk_drew ?_|refine blk_alloc ?_ _));refine blk_far ?_ NB127_129.out _;(with_reducible repeat(first|refine blk_drewN ?_ _|refine blk_drew ?_|refine blk_alloc ?_ _));exact BK127.out))⟩;have n2_:Aside0 (w18.heap[gb128]? =some (.cells #[.slice Ao11 t130.length co11,.int .i64 t133,.int .i64 t134,.int .i64 t135] 64 (0,0))):=⟨(by rw[hw];exact(by(with_reducible repeat(first|refine blk_drewN ?_ _|refine blk_drew ?_|refine blk_alloc ?_ _));refine blk_put (cs:= #[.slice Ao11 t130.length co11,.int .i64 t133,.int .i64 t134,.int .i64 0]) ?_ 3 _ rfl;(with_reducible repeat(first|refine blk_drewN ?_ _|refine blk_drew ?_|refine blk_alloc ?_ _));refine blk_put (cs:= #[.slice Ao11 t130.length co11,.int .i64 t133,.int .i64 0,.int .i64 0]) ?_ 2 _ rfl;(with_reducible repeat(first|refine blk_drewN ?_ _|refine blk_drew ?_|refine blk_alloc ?_ _));refine blk_put (cs:= #[.slice Ao11 t130.length co11,.int .i64 0,.int .i64 0,.int .i64 0]) ?_ 1 _ rfl;(with_reducible repeat(first|refine blk_drewN ?_ _|refine blk_drew ?_|refine blk_alloc ?_ _));refine blk_put (cs:= #[.slice none 0 0,.int .i64 0,.int .i64 0,.int .i64 0]) ?_ 0 _ rfl;(with_reducible repeat(first|refine blk_drewN ?_ _|refine blk_drew ?_|refine blk_alloc ?_ _));refine blk_far ?_ NB128_129.out _;(with_reducible repeat(first|refine blk_drewN ?_ _|refine blk_drew ?_|refine blk_alloc ?_ _));refine blk_far ?_ NB128_129.out _;(with_reducible repeat(first|refine blk_drewN ?_ _|refine blk_drew ?_|refine blk_alloc ?_ _));refine blk_far ?_ NB128_129.out _;(with_reducible repeat(first|refine blk_drewN ?_ _|refine blk_drew ?_|refine blk_alloc ?_ _));exact BK128.out))⟩;have n3_:Aside0 (w18.heap[gb129]? =some (.cells #[.slice Ao11 t130.length co11,.int .i64 t133,.int .i64 t134,.int .i64 t135] 64 (0,0))):=⟨(by rw[hw];exact(by(with_reducible repeat(first|refine blk_drewN ?_ _|refine blk_drew ?_|refine blk_alloc ?_ _));refine blk_far ?_ NB129_128.out _;(with_reducible repeat(first|refine blk_drewN ?_ _|refine blk_drew ?_|refine blk_alloc ?_ _));refine blk_far ?_ NB129_128.out _;(with_reducible repeat(first|refine blk_drewN ?_ _|refine blk_drew ?_|refine blk_alloc ?_ _));refine blk_far ?_ NB129_128.out _;(with_reducible repeat(first|refine blk_drewN ?_ _|refine blk_drew ?_|refine blk_alloc ?_ _));refine blk_far ?_ NB129_128.out _;(with_reducible repeat(first|refine blk_drewN ?_ _|refine blk_drew ?_|refine blk_alloc ?_ _));refine blk_put (cs:= #[.slice Ao11 t130.length co11,.int .i64 t133,.int .i64 t134,.int .i64 0]) ?_ 3 _ rfl;(with_reducible repeat(first|refine blk_drewN ?_ _|refine blk_drew ?_|refine blk_alloc ?_ _));refine blk_put (cs:= #[.slice Ao11 t130.length co11,.int .i64 t133,.int .i64 0,.int .i64 0]) ?_ 2 _ rfl;(with_reducible repeat(first|refine blk_drewN ?_ _|refine blk_drew ?_|refine blk_alloc ?_ _));refine blk_put (cs:= #[.slice Ao11 t130.length co11,.int .i64 0,.int .i64 0,.int .i64 0]) ?_ 1 _ rfl;(with_reducible repeat(first|refine blk_drewN ?_ _|refine blk_drew ?_|refine blk_alloc ?_ _));exact BK129.out))⟩;have n4_:Aside0 (Below w.heap.size w w18):=⟨(by rw[hw];exact z3_14)⟩;clear hw;clear HO132;clear BK127;clear BK128;clear BK129;clear HB;have HO132:=n0_;have BK127:=n1_;have BK128:=n2_;have BK129:=n3_;have HB:=n4_;clear n0_ n1_ n2_ n3_ n4_))
 refine bodyPost_ret (results_cell_row rfl _ _ gb128 64 #[.slice Ao11 t130.length co11,.int .i64 t133,.int .i64 t134,.int .i64 t135] (0,0) _ rfl z3_19 Try.underlying64 rfl z3_24) rfl ?_
 exact⟨_,by first|rfl|(simp[errW_none,errW_some]<;>rfl)|(simp[*,errW_none,errW_some]<;>rfl)|(simp[*,errW_none,errW_some,i64_w];done),by(with_reducible repeat(first|apply Zy|apply Zz|apply Zx));exact HO132.out,by repeat(first|(with_reducible first|exact HB.out|apply Zh|apply Ze|apply Zd|refine Zf ?_ GE127.out|refine Zf ?_ GE128.out|refine Zf ?_ GE129.out)|exact HB.out)⟩
def laws_toTaskS.l0:Nat→List (S71)→List (S64)→Int→Option ((List (S64)))
 |0,_,_,_=>none
 |k+1,x0,x3,x4=>if x4<(x0.length:Int) then (if 0≤x4 then ((laws_toTask.f k ((rd_T71 x0 x4).f0) ((rd_T71 x0 x4).f1.f0) ((rd_T71 x0 x4).f1.f1) ((rd_T71 x0 x4).f1.f2)).bind fun bt140=>(if x4<(x3.length:Int) then (laws_toTaskS.l0 k x0 (x3.set (x4:Int).toNat (⟨bt140.1,(⟨bt140.2.1,bt140.2.2.1,bt140.2.2.2⟩:S62)⟩:S64)) (wrap64 (x4+1))) else (none))) else (none)) else (some x3)
def laws_toTaskS.f (k:Nat) (l0:List (S71)):Option ((List (S64))):=if 0≤(l0.length:Int) then (if ((l0.length:Int):Int).toNat≤5864062014805 then (laws_toTaskS.l0 k l0 (List.replicate ((l0.length:Int):Int).toNat z64) 0) else (none)) else (none)
set_option maxHeartbeats 8000000 in
set_option maxRecDepth 100000 in
theorem laws_toTaskS.calls (k:Nat) (A0:Option Addr) (c0:Nat) (l0:List (S71)) (r:List (S64)) (w:World) (hr0:Kd.C k71 w A0 l0.length l0) (hc0:l0.length≤c0) (h:laws_toTaskS.f k l0=some r):
  Calls Try.prog 26 #[.slice A0 l0.length c0] w fun e w'=>∃v0_:Value,e= .returned (v0_)∧Kd.S k64 64 w' w.heap.size (fun _=>True) v0_ r∧Below w.heap.size w w':=by
 have hu71:=Try.underlying71
 have hu64:=Try.underlying64
 have HR0:=Za hr0
 have HC0:=Za hc0
 clear hr0 hc0
 have HB:=Za (Ya w.heap.size w)
 have H:(if 0≤(l0.length:Int) then (if ((l0.length:Int):Int).toNat≤5864062014805 then (laws_toTaskS.l0 k l0 (List.replicate ((l0.length:Int):Int).toNat z64) 0) else (none)) else (none))=some r:=h
 clear h
 by_cases c2:0≤(l0.length:Int)
 ·rw[if_pos c2] at H
  have c2b0:=eq_true c2
  have c2b1:decide (0≤(l0.length:Int))=true:=Zt c2
  clear c2
  by_cases c3:((l0.length:Int):Int).toNat≤5864062014805
  ·rw[if_pos c3] at H
   have c3b0:=eq_true c3
   have c3b1:decide (((l0.length:Int):Int).toNat≤5864062014805)=true:=Zt c3
   clear c3
   obtain⟨y136,hy136⟩:∃y_:List (S64),y_=(List.replicate ((l0.length:Int):Int).toNat z64):=⟨_,rfl⟩
   replace H:(laws_toTaskS.l0 k l0 y136 0)=some r:=by first|(rw[hy136];with_reducible exact H)|(have H2_:=(Option.bind_some _ _).symm.trans H;rw[hy136];with_reducible exact H2_)|(have H2_:=(Option.bind_some _ _).symm.trans H;with_reducible exact H2_)|with_reducible exact H|(rw[hy136];exact H)|exact H
   have Ny136:=Za hy136
   clear hy136
   have H':=Za H
   clear H
   go_enter Try.func26,Try.ntmps26
   go_wp2_with (first|((with_reducible refine Zp (N:=7) rfl ?_);refine Kd.S_make k64 _ 64 rfl (N:=7) rfl 31 _ _ rfl (l0.length:Int) rfl rfl Try.underlying31 (.agg #[(.slice none 0 0),(.int .i64 0),(.int .i64 0),(.int .i64 0)]) 48 info64 rfl (by decide) (by omega) z64 (ok:=fun _=>True) (okp:=fun _=>True) (k64_mkM _ _ _ z64 (Kd.R_nil _ _ _ _ _)) (fun _ hk=>hk) trivial (Zs z3_5) (Nat.le_trans (Nat.mul_le_mul_right _ (Zs z3_5:(l0.length:Int).toNat≤5864062014805)) (by omega)) (Ya _ _) (Nat.le_refl _) ?_;intro v137 w4 ho5 hb hg_ hnew_;clear hg_ hnew_;(first|rw[←Ny136.out] at ho5|(simp only[Int.reduceToNat] at ho5;rw[←Ny136.out] at ho5));have HO138:=Za (Kd.S_lower ho5 (Zw z3_0));replace HB:=Za (Zi z3_0 hb);clear hb ho5))
   go_loopg [4] k (fun kq v4 w'=>∃(x3_1:List (S64)) (x4_1:Int),v4= .int .i64 x4_1∧Aside0 (laws_toTaskS.l0 kq l0 x3_1 x4_1=some r)∧Aside0 (kq≤k)∧Aside0 (Kd.S k64 64 w' w.heap.size (fun _=>True) v137 x3_1)∧Aside0 (Below w.heap.size w w'))
   case atStart=>exact⟨(y136),(0),z3_17,H',⟨Nat.le_refl _⟩,⟨by(with_reducible repeat(first|apply Kd.S_alloc|apply Kd.S_drewN|apply Kd.S_drew));exact HO138.out⟩,⟨by repeat(first|(with_reducible first|exact HB.out|apply Zh|apply Ze|apply Zd)|exact HB.out)⟩⟩
   case round=>
    clear H'
    (try clear c2);(try clear c2b0);(try clear c2b1);(try clear c3);(try clear c3b0);(try clear c3b1)
    obtain⟨x3_1,x4_1,rfl,HA,HK1,HO_3,HB⟩:=hrel
    cases gk with
    |zero=>exact absurd HA.out (by simp[laws_toTaskS.l0])
    |succ k1=>
     have H:=HA.out
     clear HA
     simp only[laws_toTaskS.l0] at H
     by_cases c6:x4_1<(l0.length:Int)
     ·rw[if_pos c6] at H
      have c6b0:decide (x4_1<(l0.length:Int))=true:=Zt c6
      clear c6
      by_cases c7:0≤x4_1
      ·rw[if_pos c7] at H
       have c7b0:decide (0≤x4_1)=true:=Zt c7
       clear c7
       replace H:=Zl H
       obtain⟨⟨t140,t143,t144,t145⟩,A80,H⟩:=H
       replace H:(if x4_1<(x3_1.length:Int) then (laws_toTaskS.l0 k1 l0 (x3_1.set (x4_1:Int).toNat (⟨t140,(⟨t143,t144,t145⟩:S62)⟩:S64)) (wrap64 (x4_1+1))) else (none))=some r:=H
       have A8:=Za A80
       clear A80
       by_cases c9:x4_1<(x3_1.length:Int)
       ·rw[if_pos c9] at H
        have c9b0:decide (x4_1<(x3_1.length:Int))=true:=Zt c9
        clear c9
        obtain⟨y146,hy146⟩:∃y_:List (S64),y_=(x3_1.set (x4_1:Int).toNat (⟨t140,(⟨t143,t144,t145⟩:S62)⟩:S64)):=⟨_,rfl⟩
        replace H:(laws_toTaskS.l0 k1 l0 y146 (wrap64 (x4_1+1)))=some r:=by first|(rw[hy146];with_reducible exact H)|(have H2_:=(Option.bind_some _ _).symm.trans H;rw[hy146];with_reducible exact H2_)|(have H2_:=(Option.bind_some _ _).symm.trans H;with_reducible exact H2_)|with_reducible exact H|(rw[hy146];exact H)|exact H
        have Ny146:=Za hy146
        clear hy146
        have H':=Za H
        clear H
        have p139:0≤(x4_1:Int):=Zs z3_5
        have q139:x4_1<(l0.length:Int):=Zs z3_5
        obtain⟨ad139,A139_0,c139_0,e139,hx139_0,hx139_1,hx139_2,hx139_3,hl139_0,hi139_0⟩:=at_T71 HR0.out x4_1 p139 q139
        cases e139
        replace hx139_0:=(HB.out.cell (Zg w _ hx139_0)).trans hx139_0
        replace hx139_1:=(HB.out.cell (Zg w _ hx139_1)).trans hx139_1
        replace hx139_2:=(HB.out.cell (Zg w _ hx139_2)).trans hx139_2
        replace hx139_3:=(HB.out.cell (Zg w _ hx139_3)).trans hx139_3
        have HR139_0:=Za hi139_0
        have HC139_0:=Za hl139_0
        clear hi139_0 hl139_0
        replace p139:=eq_true p139
        replace q139:=eq_true q139
        go_wp2_with (first|((first|((with_reducible refine gate_callee (f:=44) rfl ?_);refine goesL_ (some 20) rfl rfl Try.func44 z3_24 rfl #[.agg #[.slice A139_0 ((rd_T71 l0 x4_1).f0).length c139_0,.int .i64 ((rd_T71 l0 x4_1).f1.f0),.int .i64 ((rd_T71 l0 x4_1).f1.f1),.int .i64 ((rd_T71 l0 x4_1).f1.f2)]] rfl z3_1 ?_;(with_reducible refine(laws_toTask.calls k1 _ _ ((rd_T71 l0 x4_1).f0) ((rd_T71 l0 x4_1).f1.f0) ((rd_T71 l0 x4_1).f1.f1) ((rd_T71 l0 x4_1).f1.f2) t140 t143 t144 t145 _ ?side1 ?side2 A8.out).mono ?_))|(go_at_call 44;(with_reducible refine(laws_toTask.calls k1 _ _ ((rd_T71 l0 x4_1).f0) ((rd_T71 l0 x4_1).f1.f0) ((rd_T71 l0 x4_1).f1.f1) ((rd_T71 l0 x4_1).f1.f2) t140 t143 t144 t145 _ ?side1 ?side2 A8.out).mono ?_)));(case side1=>repeat(first|exact(Yb HR139_0.out HB.out)|(with_reducible refine Yd ?_ _)|(with_reducible refine Ye ?_ _)|(with_reducible refine Yf ?_)));(case side2=>exact HC139_0.out);rintro e w11 ⟨v141,rfl,ho0,hb⟩;(first|refine⟨_,rfl,?_⟩|skip);replace HO_3:=Za (Kd.S_elder' (by(with_reducible repeat(first|apply Kd.S_alloc|apply Kd.S_drewN|apply Kd.S_drew));exact HO_3.out) (Yl ho0) hb);have HO142:=Za (Kd.R_lower ho0 (Zw z3_0));replace HB:=Za (Zi z3_0 hb);(try clear hb);(try clear hb2);(try clear hk);(try clear hi);(try clear ho0);have p10:0≤(x4_1:Int):=Zs z3_5;have q10:(x4_1:Int)<((x3_1.length:Int):Int):=Zs z3_5;obtain⟨go10,co10,eo10,gb10,gl10,cl10,HG10⟩:=Kd.S_form HO_3.out (by omega);(first|cases eo10|(injection eo10 with ea_ en_ ec_;(first|subst ea_|(injection ea_ with ea_;subst ea_));subst ec_;clear en_));have GB10:=Za gb10;have GG10:=Za HG10;clear gb10 gl10 HG10;obtain⟨_,ce10,hcl10,hM10,hcc10,hfr10,_,_⟩:=Kd.S_elem HO_3.out z64 (x4_1:Int) p10 q10;obtain⟨ve10_0,rfl,ge10_0⟩:=k64_openM hM10;have hx10_0:w11.cell? ⟨go10,(x4_1:Int).toNat*4,none⟩=some (ve10_0):=hcc10 0 _ rfl;have hx10_1:w11.cell? ⟨go10,(x4_1:Int).toNat*4+1,none⟩=some (.int .i64 ((rd_T64 x3_1 x4_1).f1.f0)):=hcc10 1 _ rfl;have hx10_2:w11.cell? ⟨go10,(x4_1:Int).toNat*4+2,none⟩=some (.int .i64 ((rd_T64 x3_1 x4_1).f1.f1)):=hcc10 2 _ rfl;have hx10_3:w11.cell? ⟨go10,(x4_1:Int).toNat*4+3,none⟩=some (.int .i64 ((rd_T64 x3_1 x4_1).f1.f2)):=hcc10 3 _ rfl;have hf10_0:w11.frozen? ⟨go10,(x4_1:Int).toNat*4,none⟩=false:=hfr10 0;have hf10_1:w11.frozen? ⟨go10,(x4_1:Int).toNat*4+1,none⟩=false:=hfr10 1;have hf10_2:w11.frozen? ⟨go10,(x4_1:Int).toNat*4+2,none⟩=false:=hfr10 2;have hf10_3:w11.frozen? ⟨go10,(x4_1:Int).toNat*4+3,none⟩=false:=hfr10 3;clear hcl10 hcc10 hfr10;(try clear hM10);replace p10:=eq_true p10;replace q10:=eq_true q10;have n_:=Za (Kd.S_mono (ok':=(fun k_=>some k_≠(v141:Value).ownBlock)) HO_3.out (fun k_ hk=>hk.2));clear HO_3;have HO_3:=n_;clear n_;have HX12:=Za (show Kd.S k64 64 w11 w.heap.size (fun k_=>((fun _=>True)) k_∧¬((fun k_=>some k_=(v141:Value).ownBlock)) k_) (.slice (some ⟨go10,0,none⟩) x3_1.length co10) x3_1 from (by(with_reducible repeat(first|apply Kd.S_alloc|apply Kd.S_drewN|apply Kd.S_drew));exact Kd.S_mono HO_3.out (fun k_ hk=>⟨trivial,fun e_=>hk e_⟩)));obtain⟨oki12,ce12,hcl12,hM12,hcc12,hfr12,hoki12,hH12⟩:=Kd.S_elem HX12.out z64 (x4_1:Int) (Zs z3_5) (by have h_:(x4_1:Int)<((x3_1.length:Int):Int):=Zs z3_5;first|exact h_|(have e_:=(Kd.S_reads' HO_3.out).1;omega)|simpa using h_);obtain⟨ve12_0,rfl,ge12_0⟩:=k64_openM hM12;have HP12:=Kd.S_seg hH12 (Zs z3_5) (by have h_:(x4_1:Int)<((x3_1.length:Int):Int):=Zs z3_5;first|exact h_|(have e_:=(Kd.S_reads' HO_3.out).1;omega)|simpa using h_) (seg:=[v141,.int .i64 t143,.int .i64 t144,.int .i64 t145]) (j:=0) (show 4≤4 from by decide) (x':=(⟨t140,(⟨t143,t144,t145⟩:S62)⟩:S64)) (k64_mkM _ _ _ (⟨t140,(⟨t143,t144,t145⟩:S62)⟩:S64) (Yk (Kd.R_tight rfl (Yk (ok':=fun k_=>((fun _=>True)) k_∧k_≠go10) (Kd.R_apart' (HO142.out) (Kd.S_typed HO_3.out) (by decide)) (fun k_ hk=>⟨trivial,fun e_=>(hk.2) (by rw[e_];rfl)⟩))) (fun _ h_=>Or.inr (h_)))) (fun _ hk=>hk) (fun k_ hk_=>((Yk (ok':=fun k_=>((fun _=>True)) k_∧k_≠go10) (Kd.R_apart' (HO142.out) (Kd.S_typed HO_3.out) (by decide)) (fun k_ hk=>⟨trivial,fun e_=>(hk.2) (by rw[e_];rfl)⟩))).1 k_ hk_.symm);have hx12_0:=hcc12 0 _ rfl;(try simp only[show(k64).sz=4 from rfl,Nat.mul_one,Nat.add_zero] at hx12_0);have hf12_0:=hfr12 0;(try simp only[show(k64).sz=4 from rfl,Nat.mul_one,Nat.add_zero] at hf12_0);have hx12_1:=hcc12 1 _ rfl;(try simp only[show(k64).sz=4 from rfl,Nat.mul_one,Nat.add_zero] at hx12_1);have hf12_1:=hfr12 1;(try simp only[show(k64).sz=4 from rfl,Nat.mul_one,Nat.add_zero] at hf12_1);have hx12_2:=hcc12 2 _ rfl;(try simp only[show(k64).sz=4 from rfl,Nat.mul_one,Nat.add_zero] at hx12_2);have hf12_2:=hfr12 2;(try simp only[show(k64).sz=4 from rfl,Nat.mul_one,Nat.add_zero] at hf12_2);have hx12_3:=hcc12 3 _ rfl;(try simp only[show(k64).sz=4 from rfl,Nat.mul_one,Nat.add_zero] at hx12_3);have hf12_3:=hfr12 3;(try simp only[show(k64).sz=4 from rfl,Nat.mul_one,Nat.add_zero] at hf12_3);clear hcl12 hcc12 hfr12 hoki12 hH12;(try clear hM12))|((with_reducible refine Yh (t:=64) (p:=21) rfl ?_);refine Yg (t:=64) (p:=21) (v:= ?vo_w13) (w1:=((((w11.setCell ⟨go10,(x4_1:Int).toNat*4,none⟩ (v141)).setCell ⟨go10,(x4_1:Int).toNat*4+1,none⟩ (.int .i64 t143)).setCell ⟨go10,(x4_1:Int).toNat*4+2,none⟩ (.int .i64 t144)).setCell ⟨go10,(x4_1:Int).toNat*4+3,none⟩ (.int .i64 t145))) ?hg ?ho ?hn ?hr ?_;(case ho=>rfl);(case hg=>rfl);(case hn=>rfl);(case hr=>first|(go_simp;done)|(go_simp;rfl)|(obtain⟨A_,c_,e_⟩:=Kd.R_slice HO142.out;subst e_;first|(go_simp;done)|(go_simp;rfl)));intro w13 hw;have hg:w11.grownBy w13 (some go10):=(by rw[hw];exact HP12.2);have hp_:Kd.S k64 64 w13 w.heap.size (fun _=>True) (.slice (some ⟨go10,0,none⟩) x3_1.length co10) y146:=(by rw[hw,Ny146.out];exact HP12.1);clear HP12;have n0_:=Za (hp_);have n1_:=Za ((by rw[hw];exact Zf (Zf (Zf (Zf (HB.out) GB10.out) GB10.out) GB10.out) GB10.out:Below w.heap.size w w13));clear HO_3;clear HB;clear HO142;have HO_3:=n0_;have HB:=n1_;clear n0_ n1_;clear hg hw hp_))
        go_roundg k1
        case measure=>have:=HK1.out;omega
        case rel=>exact⟨(y146),(wrap64 (x4_1+1)),z3_17,H',⟨by have:=HK1.out;omega⟩,⟨by(with_reducible repeat(first|apply Kd.S_alloc|apply Kd.S_drewN|apply Kd.S_drew));exact HO_3.out⟩,⟨by repeat(first|(with_reducible first|exact HB.out|apply Zh|apply Ze|apply Zd)|exact HB.out)⟩⟩
       ·rw[if_neg c9] at H
        exact absurd H (by simp)
      ·rw[if_neg c7] at H
       exact absurd H (by simp)
     ·rw[if_neg c6] at H
      have c6b0:decide (x4_1<(l0.length:Int))=false:=Yc c6
      clear c6
      obtain rfl:=Zj H
      go_wp2
      go_ret
      exact⟨_,by first|rfl|(simp[errW_none,errW_some]<;>rfl)|(simp[*,errW_none,errW_some]<;>rfl)|(simp[*,errW_none,errW_some,i64_w];done),by(with_reducible repeat(first|apply Kd.S_alloc|apply Kd.S_drewN|apply Kd.S_drew));exact HO_3.out,by repeat(first|(with_reducible first|exact HB.out|apply Zh|apply Ze|apply Zd)|exact HB.out)⟩
  ·rw[if_neg c3] at H
   exact absurd H (by simp)
 ·rw[if_neg c2] at H
  exact absurd H (by simp)
def laws_toProgram.f (k:Nat) (l0_0:List (S71)):Option ((List (S64))):=(laws_toTaskS.f k l0_0).bind fun t150=>(some t150)
set_option maxHeartbeats 8000000 in
set_option maxRecDepth 100000 in
theorem laws_toProgram.calls (k:Nat) (A0_0:Option Addr) (c0_0:Nat) (l0_0:List (S71)) (r:List (S64)) (w:World) (hr0_0:Kd.C k71 w A0_0 l0_0.length l0_0) (hc0_0:l0_0.length≤c0_0) (h:laws_toProgram.f k l0_0=some r):
  Calls Try.prog 7 #[.agg #[.slice A0_0 l0_0.length c0_0]] w fun e w'=>∃v0_:Value,e= .returned (.agg #[v0_])∧Kd.S k64 64 w' w.heap.size (fun _=>True) v0_ r∧Below w.heap.size w w':=by
 have hu24:=Try.underlying24
 have hu33:=Try.underlying33
 have HR0_0:=Za hr0_0
 have HC0_0:=Za hc0_0
 clear hr0_0 hc0_0
 have HB:=Za (Ya w.heap.size w)
 have H:((laws_toTaskS.f k l0_0).bind fun t150=>(some t150))=some r:=h
 clear h
 replace H:=Zl H
 obtain⟨t150,A20,H⟩:=H
 replace H:(some t150)=some r:=H
 have A2:=Za A20
 clear A20
 obtain rfl:=Zj H
 go_enter Try.func7,Try.ntmps7
 go_wp2_with (first|((with_reducible refine Zp (N:=1) rfl ?_);refine Zr ?hg (N:=1) ?hd (cs:= #[.slice A0_0 l0_0.length c0_0]) (t:=24) ?hr ?_;(case hd=>rfl);(case hg=>rfl);(case hr=>exact z3_6);intro gb147 hg w3 hbox hb;have BK147:=Za (hbox);have GW147:=Za ((z3_35:w.heap.size≤gb147));have GE147:=Za ((z3_35:w.heap.size≤gb147));replace HB:=Za (Zi z3_0 hb);clear hb hbox hg)|((with_reducible refine Zp (N:=2) rfl ?_);refine Zr ?hg (N:=2) ?hd (cs:= #[.slice none 0 0]) (t:=33) ?hr ?_;(case hd=>rfl);(case hg=>rfl);(case hr=>exact z3_6);intro gb148 hg w4 hbox hb;have BK148:=Za (hbox);have GW148:=Za ((by rw[hg];exact(Zw z3_29):w.heap.size≤gb148));have GE148:=Za ((by rw[hg];exact(Zw z3_29):w.heap.size≤gb148));replace HB:=Za (Zi z3_29 hb);have NB147_148:=Za ((by rw[hg];exact Nat.ne_of_lt (blk_lt (g:=gb147) (o:= .cells #[.slice A0_0 l0_0.length c0_0] 24 (0,0)) z3_12):gb147≠gb148));have NB148_147:=Za ((by rw[hg];exact Nat.ne_of_gt (blk_lt (g:=gb147) (o:= .cells #[.slice A0_0 l0_0.length c0_0] 24 (0,0)) z3_12):gb148≠gb147));replace BK147:=Za (Zk (g:=gb147) (o:= .cells #[.slice A0_0 l0_0.length c0_0] 24 (0,0)) z3_12 hb);clear hb hbox hg)|((with_reducible refine Zp (N:=3) rfl ?_);refine Zr ?hg (N:=3) ?hd (cs:= #[.slice none 0 0]) (t:=33) ?hr ?_;(case hd=>rfl);(case hg=>rfl);(case hr=>exact z3_6);intro gb149 hg w5 hbox hb;have BK149:=Za (hbox);have GW149:=Za ((by rw[hg];exact(Zw z3_20):w.heap.size≤gb149));have GE149:=Za ((by rw[hg];exact(Zw z3_20):w.heap.size≤gb149));replace HB:=Za (Zi z3_20 hb);have NB147_149:=Za ((by rw[hg];exact Nat.ne_of_lt (blk_lt (g:=gb147) (o:= .cells #[.slice A0_0 l0_0.length c0_0] 24 (0,0)) z3_12):gb147≠gb149));have NB149_147:=Za ((by rw[hg];exact Nat.ne_of_gt (blk_lt (g:=gb147) (o:= .cells #[.slice A0_0 l0_0.length c0_0] 24 (0,0)) z3_12):gb149≠gb147));replace BK147:=Za (Zk (g:=gb147) (o:= .cells #[.slice A0_0 l0_0.length c0_0] 24 (0,0)) z3_12 hb);have NB148_149:=Za ((by rw[hg];exact Nat.ne_of_lt (blk_lt (g:=gb148) (o:= .cells #[.slice none 0 0] 33 (0,0)) z3_26):gb148≠gb149));have NB149_148:=Za ((by rw[hg];exact Nat.ne_of_gt (blk_lt (g:=gb148) (o:= .cells #[.slice none 0 0] 33 (0,0)) z3_26):gb149≠gb148));replace BK148:=Za (Zk (g:=gb148) (o:= .cells #[.slice none 0 0] 33 (0,0)) z3_26 hb);clear hb hbox hg;have hnb6:=NB147_148.out;have hnc6:=NB148_147.out;have hnb7:=NB147_149.out;have hnc7:=NB149_147.out;have hcz8_0:w5.cell? ⟨gb147,0,none⟩=some (.slice A0_0 l0_0.length c0_0):=(Zb BK147.out 0).trans rfl;have hfz8_0:=Zc BK147.out 0)|((first|((with_reducible refine gate_callee (f:=26) rfl ?_);refine goesL_ (some 6) rfl rfl Try.func26 z3_24 rfl #[.slice A0_0 l0_0.length c0_0] rfl z3_1 ?_;(with_reducible refine(laws_toTaskS.calls k _ _ l0_0 t150 _ ?side1 ?side2 A2.out).mono ?_))|(go_at_call 26;(with_reducible refine(laws_toTaskS.calls k _ _ l0_0 t150 _ ?side1 ?side2 A2.out).mono ?_)));(case side1=>exact z3_8);(case side2=>exact HC0_0.out);rintro e w9 ⟨v151,rfl,ho0,hb⟩;(first|refine⟨_,rfl,?_⟩|skip);have HO152:=Za (Kd.S_lower ho0 (Zw z3_33));replace BK147:=Za (Zk (g:=gb147) (o:= .cells #[.slice A0_0 l0_0.length c0_0] 24 (0,0)) z3_12 hb);replace BK148:=Za (Zk (g:=gb148) (o:= .cells #[.slice none 0 0] 33 (0,0)) z3_26 hb);replace BK149:=Za (Zk (g:=gb149) (o:= .cells #[.slice none 0 0] 33 (0,0)) (by(with_reducible repeat(first|refine blk_drewN ?_ _|refine blk_drew ?_|refine blk_alloc ?_ _));exact BK149.out) hb);replace HB:=Za (Zi z3_33 hb);(try clear hb);(try clear hb2);(try clear hk);(try clear hi);(try clear ho0);obtain⟨Ao10,co10,eo10⟩:=Kd.S_slice HO152.out;subst eo10;have hnb11:=NB149_148.out;have hnc11:=NB148_149.out;have hcz12_0:w9.cell? ⟨gb149,0,none⟩=some (.slice none 0 0):=(Zb BK149.out 0).trans rfl;have hfz12_0:=Zc BK149.out 0;have hcz13_0:w9.cell? ⟨gb148,0,none⟩=some (.slice none 0 0):=(Zb BK148.out 0).trans rfl;have hfz13_0:=Zc BK148.out 0))
 refine bodyPost_ret (results_cell_row rfl _ _ gb148 33 #[.slice Ao10 t150.length co10] (0,0) _ rfl (by(with_reducible repeat(first|refine blk_drewN ?_ _|refine blk_drew ?_|refine blk_alloc ?_ _));refine blk_put (cs:= #[.slice none 0 0]) ?_ 0 _ rfl;(with_reducible repeat(first|refine blk_drewN ?_ _|refine blk_drew ?_|refine blk_alloc ?_ _));refine blk_far ?_ NB148_149.out _;(with_reducible repeat(first|refine blk_drewN ?_ _|refine blk_drew ?_|refine blk_alloc ?_ _));exact BK148.out) Try.underlying33 rfl z3_24) rfl ?_
 exact⟨_,by first|rfl|(simp[errW_none,errW_some]<;>rfl)|(simp[*,errW_none,errW_some]<;>rfl)|(simp[*,errW_none,errW_some,i64_w];done),by(with_reducible repeat(first|apply Kd.S_alloc|apply Kd.S_drewN|apply Kd.S_drew));exact Kd.S_mono (Kd.S_far (p:=⟨gb148,0,none⟩) (Kd.S_far (p:=⟨gb149,0,none⟩) (Kd.S_types (Kd.S_types HO152.out BK149.out (by decide)) BK148.out (by decide)) (fun _ hk=>hk.1.2) (.slice Ao10 t150.length co10)) (fun _ hk=>hk.2) (.slice Ao10 t150.length co10)) (fun _ hk=>trivial),by repeat(first|(with_reducible first|exact HB.out|apply Zh|apply Ze|apply Zd|refine Zf ?_ GE147.out|refine Zf ?_ GE148.out|refine Zf ?_ GE149.out)|exact HB.out)⟩
def laws_toIntS.l0:Nat→List Int→List Int→Int→Option (List Int)
 |0,_,_,_=>none
 |k+1,x0,x3,x4=>if x4<(x0.length:Int) then (if 0≤x4 then (if x4<(x3.length:Int) then (laws_toIntS.l0 k x0 (x3.set (x4:Int).toNat (rd x0 x4)) (wrap64 (x4+1))) else (none)) else (none)) else (some x3)
def laws_toIntS.f (k:Nat) (l0:List Int):Option (List Int):=if 0≤(l0.length:Int) then (if ((l0.length:Int):Int).toNat≤35184372088832 then (laws_toIntS.l0 k l0 (List.replicate ((l0.length:Int):Int).toNat 0) 0) else (none)) else (none)
set_option maxHeartbeats 8000000 in
set_option maxRecDepth 100000 in
theorem laws_toIntS.calls (k:Nat) (A0:Option Addr) (c0:Nat) (l0:List Int) (r:List Int) (w:World) (hr0:Kd.C (Kd.int .i64) w A0 l0.length l0) (hc0:l0.length≤c0) (h:laws_toIntS.f k l0=some r):
  Calls Try.prog 8 #[.slice A0 l0.length c0] w fun e w'=>∃v0_:Value,e= .returned (v0_)∧Kd.R (Kd.int .i64) 3 w' w.heap.size (fun _=>True) v0_ r∧Below w.heap.size w w':=by
 have HR0:=Za hr0
 have HC0:=Za hc0
 clear hr0 hc0
 have HB:=Za (Ya w.heap.size w)
 have H:(if 0≤(l0.length:Int) then (if ((l0.length:Int):Int).toNat≤35184372088832 then (laws_toIntS.l0 k l0 (List.replicate ((l0.length:Int):Int).toNat 0) 0) else (none)) else (none))=some r:=h
 clear h
 by_cases c2:0≤(l0.length:Int)
 ·rw[if_pos c2] at H
  have c2b0:=eq_true c2
  have c2b1:decide (0≤(l0.length:Int))=true:=Zt c2
  clear c2
  by_cases c3:((l0.length:Int):Int).toNat≤35184372088832
  ·rw[if_pos c3] at H
   have c3b0:=eq_true c3
   have c3b1:decide (((l0.length:Int):Int).toNat≤35184372088832)=true:=Zt c3
   clear c3
   obtain⟨y153,hy153⟩:∃y_:List Int,y_=(List.replicate ((l0.length:Int):Int).toNat 0):=⟨_,rfl⟩
   replace H:(laws_toIntS.l0 k l0 y153 0)=some r:=by first|(rw[hy153];with_reducible exact H)|(have H2_:=(Option.bind_some _ _).symm.trans H;rw[hy153];with_reducible exact H2_)|(have H2_:=(Option.bind_some _ _).symm.trans H;with_reducible exact H2_)|with_reducible exact H|(rw[hy153];exact H)|exact H
   have Ny153:=Za hy153
   clear hy153
   have H':=Za H
   clear H
   go_enter Try.func8,Try.ntmps8
   go_wp2_with (first|((with_reducible refine Zp (N:=7) rfl ?_);refine Kd.R_make (Kd.int .i64) _ 3 rfl (N:=7) rfl 25 _ _ rfl (l0.length:Int) rfl rfl Try.underlying25 (.int .i64 0) 8 info3 rfl (by decide) (by omega) 0 (ok:=fun _=>True) (okp:=fun _=>True) rfl (fun _ hk=>hk) trivial (Zs z3_5) (Nat.le_trans (Nat.mul_le_mul_right _ (Zs z3_5:(l0.length:Int).toNat≤35184372088832)) (by omega)) (Ya _ _) (Nat.le_refl _) ?_;intro v154 w4 ho5 hb hg_ hnew_;clear hg_ hnew_;(first|rw[←Ny153.out] at ho5|(simp only[Int.reduceToNat] at ho5;rw[←Ny153.out] at ho5));have HO155:=Za (Kd.R_lower ho5 (Zw z3_0));replace HB:=Za (Zi z3_0 hb);clear hb ho5))
   go_loopg [4] k (fun kq v4 w'=>∃(x3_1:List Int) (x4_1:Int),v4= .int .i64 x4_1∧Aside0 (laws_toIntS.l0 kq l0 x3_1 x4_1=some r)∧Aside0 (kq≤k)∧Aside0 (Kd.R (Kd.int .i64) 3 w' w.heap.size (fun _=>True) v154 x3_1)∧Aside0 (Below w.heap.size w w'))
   case atStart=>exact⟨(y153),(0),z3_17,H',⟨Nat.le_refl _⟩,⟨by(with_reducible repeat(first|apply Zy|apply Zz|apply Zx));exact HO155.out⟩,⟨by repeat(first|(with_reducible first|exact HB.out|apply Zh|apply Ze|apply Zd)|exact HB.out)⟩⟩
   case round=>
    clear H'
    (try clear c2);(try clear c2b0);(try clear c2b1);(try clear c3);(try clear c3b0);(try clear c3b1)
    obtain⟨x3_1,x4_1,rfl,HA,HK1,HO_3,HB⟩:=hrel
    cases gk with
    |zero=>exact absurd HA.out (by simp[laws_toIntS.l0])
    |succ k1=>
     have H:=HA.out
     clear HA
     simp only[laws_toIntS.l0] at H
     by_cases c6:x4_1<(l0.length:Int)
     ·rw[if_pos c6] at H
      have c6b0:decide (x4_1<(l0.length:Int))=true:=Zt c6
      clear c6
      by_cases c7:0≤x4_1
      ·rw[if_pos c7] at H
       have c7b0:decide (0≤x4_1)=true:=Zt c7
       clear c7
       by_cases c8:x4_1<(x3_1.length:Int)
       ·rw[if_pos c8] at H
        have c8b0:decide (x4_1<(x3_1.length:Int))=true:=Zt c8
        clear c8
        obtain⟨y157,hy157⟩:∃y_:List Int,y_=(x3_1.set (x4_1:Int).toNat (rd l0 x4_1)):=⟨_,rfl⟩
        replace H:(laws_toIntS.l0 k1 l0 y157 (wrap64 (x4_1+1)))=some r:=by first|(rw[hy157];with_reducible exact H)|(have H2_:=(Option.bind_some _ _).symm.trans H;rw[hy157];with_reducible exact H2_)|(have H2_:=(Option.bind_some _ _).symm.trans H;with_reducible exact H2_)|with_reducible exact H|(rw[hy157];exact H)|exact H
        have Ny157:=Za hy157
        clear hy157
        have H':=Za H
        clear H
        have p156:0≤(x4_1:Int):=Zs z3_5
        have q156:x4_1<(l0.length:Int):=Zs z3_5
        obtain⟨ad156,e156,hx156_0⟩:=Kd.at_int HR0.out x4_1 p156 q156
        cases e156
        replace hx156_0:=(HB.out.cell (Zg w _ hx156_0)).trans hx156_0
        replace p156:=eq_true p156
        replace q156:=eq_true q156
        have p9:0≤(x4_1:Int):=Zs z3_5
        have q9:(x4_1:Int)<((x3_1.length:Int):Int):=Zs z3_5
        obtain⟨go9,co9,eo9,gb9,gl9,cl9,HG9⟩:=Kd.R_form HO_3.out (by omega)
        (first|cases eo9|(injection eo9 with ea_ en_ ec_;(first|subst ea_|(injection ea_ with ea_;subst ea_));subst ec_;clear en_))
        have GB9:=Za gb9
        have GG9:=Za HG9
        clear gb9 gl9 HG9
        obtain⟨hx9_0,hf9_0⟩:=Kd.R_celln 0 HO_3.out (x4_1:Int) p9 q9
        replace p9:=eq_true p9
        replace q9:=eq_true q9
        have HP10:=Kd.R_putg HO_3.out (x4_1:Int) (rd l0 x4_1)
        go_wp2_with (first|((with_reducible refine Yh (t:=3) (p:=20) rfl ?_);refine Yg (t:=3) (p:=20) (v:= ?vo_w11) (w1:=(wr.setCell ⟨go9,(x4_1:Int).toNat,none⟩ (.int .i64 (rd l0 x4_1)))) ?hg ?ho ?hn ?hr ?_;(case ho=>rfl);(case hg=>rfl);(case hn=>rfl);(case hr=>exact z3_6);intro w11 hw;have hg:wr.grownBy w11 (some go9):=(by rw[hw];exact HP10.2);have hp_:Kd.R (Kd.int .i64) 3 w11 w.heap.size (fun _=>True) (.slice (some ⟨go9,0,none⟩) x3_1.length co9) y157:=(by rw[hw,Ny157.out];exact HP10.1);clear HP10;replace HO_3:=Za (hp_);replace HB:=Za ((by rw[hw];exact Zf (HB.out) GB9.out:Below w.heap.size w w11));clear hg hw hp_))
        go_roundg k1
        case measure=>have:=HK1.out;omega
        case rel=>exact⟨(y157),(wrap64 (x4_1+1)),z3_17,H',⟨by have:=HK1.out;omega⟩,⟨by(with_reducible repeat(first|apply Zy|apply Zz|apply Zx));exact HO_3.out⟩,⟨by repeat(first|(with_reducible first|exact HB.out|apply Zh|apply Ze|apply Zd)|exact HB.out)⟩⟩
       ·rw[if_neg c8] at H
        exact absurd H (by simp)
      ·rw[if_neg c7] at H
       exact absurd H (by simp)
     ·rw[if_neg c6] at H
      have c6b0:decide (x4_1<(l0.length:Int))=false:=Yc c6
      clear c6
      obtain rfl:=Zj H
      go_wp2
      go_ret
      exact⟨_,by first|rfl|(simp[errW_none,errW_some]<;>rfl)|(simp[*,errW_none,errW_some]<;>rfl)|(simp[*,errW_none,errW_some,i64_w];done),by(with_reducible repeat(first|apply Zy|apply Zz|apply Zx));exact HO_3.out,by repeat(first|(with_reducible first|exact HB.out|apply Zh|apply Ze|apply Zd)|exact HB.out)⟩
  ·rw[if_neg c3] at H
   exact absurd H (by simp)
 ·rw[if_neg c2] at H
  exact absurd H (by simp)
def laws_eqExpr.f (a0_0:Int) (a0_1:Int) (a0_2:Int) (a1_0:Int) (a1_1:Int) (a1_2:Int):Option (Bool):=if a0_0=a1_0 then (if a0_1=a1_1 then (if a0_2=a1_2 then (some true) else (some false)) else (some false)) else (some false)
set_option maxHeartbeats 8000000 in
set_option maxRecDepth 100000 in
theorem laws_eqExpr.calls (a0_0:Int) (a0_1:Int) (a0_2:Int) (a1_0:Int) (a1_1:Int) (a1_2:Int) (r:Bool) (w:World) (h:laws_eqExpr.f a0_0 a0_1 a0_2 a1_0 a1_1 a1_2=some r):
  Calls Try.prog 80 #[.agg #[.int .i64 a0_0,.int .i64 a0_1,.int .i64 a0_2],.agg #[.int .i64 a1_0,.int .i64 a1_1,.int .i64 a1_2]] w fun e w'=>e= .returned (.bool r)∧Below w.heap.size w w':=by
 have hu62:=Try.underlying62
 have HB:=Za (Ya w.heap.size w)
 have H:(if a0_0=a1_0 then (if a0_1=a1_1 then (if a0_2=a1_2 then (some true) else (some false)) else (some false)) else (some false))=some r:=h
 clear h
 by_cases c3:a0_0=a1_0
 ·rw[if_pos c3] at H
  have c3b0:(a0_0==a1_0)=true:=beq_iff_eq.mpr c3
  have c3b1:(a0_0 != a1_0)=false:=bne_eq_false_iff_eq.mpr c3
  clear c3
  by_cases c4:a0_1=a1_1
  ·rw[if_pos c4] at H
   have c4b0:(a0_1==a1_1)=true:=beq_iff_eq.mpr c4
   have c4b1:(a0_1 != a1_1)=false:=bne_eq_false_iff_eq.mpr c4
   clear c4
   by_cases c5:a0_2=a1_2
   ·rw[if_pos c5] at H
    have c5b0:(a0_2==a1_2)=true:=beq_iff_eq.mpr c5
    have c5b1:(a0_2 != a1_2)=false:=bne_eq_false_iff_eq.mpr c5
    clear c5
    obtain rfl:=Zj H
    go_enter Try.func80,Try.ntmps80
    go_wp2_with (first|((with_reducible refine Zp (N:=2) rfl ?_);refine Zr ?hg (N:=2) ?hd (cs:= #[.int .i64 a0_0,.int .i64 a0_1,.int .i64 a0_2]) (t:=62) ?hr ?_;(case hd=>rfl);(case hg=>rfl);(case hr=>exact z3_6);intro gb158 hg w6 hbox hb;have BK158:=Za (hbox);have GW158:=Za ((z3_35:w.heap.size≤gb158));have GE158:=Za ((z3_35:w.heap.size≤gb158));replace HB:=Za (Zi z3_0 hb);clear hb hbox hg)|((with_reducible refine Zp (N:=3) rfl ?_);refine Zr ?hg (N:=3) ?hd (cs:= #[.int .i64 a1_0,.int .i64 a1_1,.int .i64 a1_2]) (t:=62) ?hr ?_;(case hd=>rfl);(case hg=>rfl);(case hr=>exact z3_6);intro gb159 hg w7 hbox hb;have BK159:=Za (hbox);have GW159:=Za ((z3_43:w.heap.size≤gb159));have GE159:=Za ((z3_43:w.heap.size≤gb159));replace HB:=Za (Zi z3_4 hb);have NB158_159:=Za ((z3_38:gb158≠gb159));have NB159_158:=Za ((z3_39:gb159≠gb158));replace BK158:=Za (Zk (g:=gb158) (o:= .cells #[.int .i64 a0_0,.int .i64 a0_1,.int .i64 a0_2] 62 (0,0)) z3_10 hb);clear hb hbox hg;have hnb8:=NB158_159.out;have hnc8:=NB159_158.out;have hcz9_0:w7.cell? ⟨gb158,0,none⟩=some (.int .i64 a0_0):=(Zb BK158.out 0).trans rfl;have hcz9_1:w7.cell? ⟨gb158,1,none⟩=some (.int .i64 a0_1):=(Zb BK158.out 1).trans rfl;have hcz9_2:w7.cell? ⟨gb158,2,none⟩=some (.int .i64 a0_2):=(Zb BK158.out 2).trans rfl;have hfz9_0:=Zc BK158.out 0;have hfz9_1:=Zc BK158.out 1;have hfz9_2:=Zc BK158.out 2;have hcz10_0:w7.cell? ⟨gb159,0,none⟩=some (.int .i64 a1_0):=(Zb BK159.out 0).trans rfl;have hcz10_1:w7.cell? ⟨gb159,1,none⟩=some (.int .i64 a1_1):=(Zb BK159.out 1).trans rfl;have hcz10_2:w7.cell? ⟨gb159,2,none⟩=some (.int .i64 a1_2):=(Zb BK159.out 2).trans rfl;have hfz10_0:=Zc BK159.out 0;have hfz10_1:=Zc BK159.out 1;have hfz10_2:=Zc BK159.out 2))
    go_ret
    exact⟨by first|rfl|(simp[errW_none,errW_some]<;>rfl)|(simp[*,errW_none,errW_some]<;>rfl)|(simp[*,errW_none,errW_some,i64_w];done),by repeat(first|(with_reducible first|exact HB.out|apply Zh|apply Ze|apply Zd|refine Zf ?_ GE158.out|refine Zf ?_ GE159.out)|exact HB.out)⟩
   ·rw[if_neg c5] at H
    have c5b0:(a0_2==a1_2)=false:=beq_eq_false_iff_ne.mpr c5
    have c5b1:(a0_2 != a1_2)=true:=bne_iff_ne.mpr c5
    obtain rfl:=Zj H
    go_enter Try.func80,Try.ntmps80
    go_wp2_with (first|((with_reducible refine Zp (N:=2) rfl ?_);refine Zr ?hg (N:=2) ?hd (cs:= #[.int .i64 a0_0,.int .i64 a0_1,.int .i64 a0_2]) (t:=62) ?hr ?_;(case hd=>rfl);(case hg=>rfl);(case hr=>exact z3_6);intro gb158 hg w11 hbox hb;have BK158:=Za (hbox);have GW158:=Za ((z3_35:w.heap.size≤gb158));have GE158:=Za ((z3_35:w.heap.size≤gb158));replace HB:=Za (Zi z3_0 hb);clear hb hbox hg)|((with_reducible refine Zp (N:=3) rfl ?_);refine Zr ?hg (N:=3) ?hd (cs:= #[.int .i64 a1_0,.int .i64 a1_1,.int .i64 a1_2]) (t:=62) ?hr ?_;(case hd=>rfl);(case hg=>rfl);(case hr=>exact z3_6);intro gb159 hg w12 hbox hb;have BK159:=Za (hbox);have GW159:=Za ((z3_43:w.heap.size≤gb159));have GE159:=Za ((z3_43:w.heap.size≤gb159));replace HB:=Za (Zi z3_4 hb);have NB158_159:=Za ((z3_38:gb158≠gb159));have NB159_158:=Za ((z3_39:gb159≠gb158));replace BK158:=Za (Zk (g:=gb158) (o:= .cells #[.int .i64 a0_0,.int .i64 a0_1,.int .i64 a0_2] 62 (0,0)) z3_10 hb);clear hb hbox hg;have hnb13:=NB158_159.out;have hnc13:=NB159_158.out;have hcz14_0:w12.cell? ⟨gb158,0,none⟩=some (.int .i64 a0_0):=(Zb BK158.out 0).trans rfl;have hcz14_1:w12.cell? ⟨gb158,1,none⟩=some (.int .i64 a0_1):=(Zb BK158.out 1).trans rfl;have hcz14_2:w12.cell? ⟨gb158,2,none⟩=some (.int .i64 a0_2):=(Zb BK158.out 2).trans rfl;have hfz14_0:=Zc BK158.out 0;have hfz14_1:=Zc BK158.out 1;have hfz14_2:=Zc BK158.out 2;have hcz15_0:w12.cell? ⟨gb159,0,none⟩=some (.int .i64 a1_0):=(Zb BK159.out 0).trans rfl;have hcz15_1:w12.cell? ⟨gb159,1,none⟩=some (.int .i64 a1_1):=(Zb BK159.out 1).trans rfl;have hcz15_2:w12.cell? ⟨gb159,2,none⟩=some (.int .i64 a1_2):=(Zb BK159.out 2).trans rfl;have hfz15_0:=Zc BK159.out 0;have hfz15_1:=Zc BK159.out 1;have hfz15_2:=Zc BK159.out 2))
    go_ret
    exact⟨by first|rfl|(simp[errW_none,errW_some]<;>rfl)|(simp[*,errW_none,errW_some]<;>rfl)|(simp[*,errW_none,errW_some,i64_w];done),by repeat(first|(with_reducible first|exact HB.out|apply Zh|apply Ze|apply Zd|refine Zf ?_ GE158.out|refine Zf ?_ GE159.out)|exact HB.out)⟩
  ·rw[if_neg c4] at H
   have c4b0:(a0_1==a1_1)=false:=beq_eq_false_iff_ne.mpr c4
   have c4b1:(a0_1 != a1_1)=true:=bne_iff_ne.mpr c4
   obtain rfl:=Zj H
   go_enter Try.func80,Try.ntmps80
   go_wp2_with (first|((with_reducible refine Zp (N:=2) rfl ?_);refine Zr ?hg (N:=2) ?hd (cs:= #[.int .i64 a0_0,.int .i64 a0_1,.int .i64 a0_2]) (t:=62) ?hr ?_;(case hd=>rfl);(case hg=>rfl);(case hr=>exact z3_6);intro gb158 hg w16 hbox hb;have BK158:=Za (hbox);have GW158:=Za ((z3_35:w.heap.size≤gb158));have GE158:=Za ((z3_35:w.heap.size≤gb158));replace HB:=Za (Zi z3_0 hb);clear hb hbox hg)|((with_reducible refine Zp (N:=3) rfl ?_);refine Zr ?hg (N:=3) ?hd (cs:= #[.int .i64 a1_0,.int .i64 a1_1,.int .i64 a1_2]) (t:=62) ?hr ?_;(case hd=>rfl);(case hg=>rfl);(case hr=>exact z3_6);intro gb159 hg w17 hbox hb;have BK159:=Za (hbox);have GW159:=Za ((z3_43:w.heap.size≤gb159));have GE159:=Za ((z3_43:w.heap.size≤gb159));replace HB:=Za (Zi z3_4 hb);have NB158_159:=Za ((z3_38:gb158≠gb159));have NB159_158:=Za ((z3_39:gb159≠gb158));replace BK158:=Za (Zk (g:=gb158) (o:= .cells #[.int .i64 a0_0,.int .i64 a0_1,.int .i64 a0_2] 62 (0,0)) z3_10 hb);clear hb hbox hg;have hnb18:=NB158_159.out;have hnc18:=NB159_158.out;have hcz19_0:w17.cell? ⟨gb158,0,none⟩=some (.int .i64 a0_0):=(Zb BK158.out 0).trans rfl;have hcz19_1:w17.cell? ⟨gb158,1,none⟩=some (.int .i64 a0_1):=(Zb BK158.out 1).trans rfl;have hcz19_2:w17.cell? ⟨gb158,2,none⟩=some (.int .i64 a0_2):=(Zb BK158.out 2).trans rfl;have hfz19_0:=Zc BK158.out 0;have hfz19_1:=Zc BK158.out 1;have hfz19_2:=Zc BK158.out 2;have hcz20_0:w17.cell? ⟨gb159,0,none⟩=some (.int .i64 a1_0):=(Zb BK159.out 0).trans rfl;have hcz20_1:w17.cell? ⟨gb159,1,none⟩=some (.int .i64 a1_1):=(Zb BK159.out 1).trans rfl;have hcz20_2:w17.cell? ⟨gb159,2,none⟩=some (.int .i64 a1_2):=(Zb BK159.out 2).trans rfl;have hfz20_0:=Zc BK159.out 0;have hfz20_1:=Zc BK159.out 1;have hfz20_2:=Zc BK159.out 2))
   go_ret
   exact⟨by first|rfl|(simp[errW_none,errW_some]<;>rfl)|(simp[*,errW_none,errW_some]<;>rfl)|(simp[*,errW_none,errW_some,i64_w];done),by repeat(first|(with_reducible first|exact HB.out|apply Zh|apply Ze|apply Zd|refine Zf ?_ GE158.out|refine Zf ?_ GE159.out)|exact HB.out)⟩
 ·rw[if_neg c3] at H
  have c3b0:(a0_0==a1_0)=false:=beq_eq_false_iff_ne.mpr c3
  have c3b1:(a0_0 != a1_0)=true:=bne_iff_ne.mpr c3
  obtain rfl:=Zj H
  go_enter Try.func80,Try.ntmps80
  go_wp2_with (first|((with_reducible refine Zp (N:=2) rfl ?_);refine Zr ?hg (N:=2) ?hd (cs:= #[.int .i64 a0_0,.int .i64 a0_1,.int .i64 a0_2]) (t:=62) ?hr ?_;(case hd=>rfl);(case hg=>rfl);(case hr=>exact z3_6);intro gb158 hg w21 hbox hb;have BK158:=Za (hbox);have GW158:=Za ((z3_35:w.heap.size≤gb158));have GE158:=Za ((z3_35:w.heap.size≤gb158));replace HB:=Za (Zi z3_0 hb);clear hb hbox hg)|((with_reducible refine Zp (N:=3) rfl ?_);refine Zr ?hg (N:=3) ?hd (cs:= #[.int .i64 a1_0,.int .i64 a1_1,.int .i64 a1_2]) (t:=62) ?hr ?_;(case hd=>rfl);(case hg=>rfl);(case hr=>exact z3_6);intro gb159 hg w22 hbox hb;have BK159:=Za (hbox);have GW159:=Za ((z3_43:w.heap.size≤gb159));have GE159:=Za ((z3_43:w.heap.size≤gb159));replace HB:=Za (Zi z3_4 hb);have NB158_159:=Za ((z3_38:gb158≠gb159));have NB159_158:=Za ((z3_39:gb159≠gb158));replace BK158:=Za (Zk (g:=gb158) (o:= .cells #[.int .i64 a0_0,.int .i64 a0_1,.int .i64 a0_2] 62 (0,0)) z3_10 hb);clear hb hbox hg;have hnb23:=NB158_159.out;have hnc23:=NB159_158.out;have hcz24_0:w22.cell? ⟨gb158,0,none⟩=some (.int .i64 a0_0):=(Zb BK158.out 0).trans rfl;have hcz24_1:w22.cell? ⟨gb158,1,none⟩=some (.int .i64 a0_1):=(Zb BK158.out 1).trans rfl;have hcz24_2:w22.cell? ⟨gb158,2,none⟩=some (.int .i64 a0_2):=(Zb BK158.out 2).trans rfl;have hfz24_0:=Zc BK158.out 0;have hfz24_1:=Zc BK158.out 1;have hfz24_2:=Zc BK158.out 2;have hcz25_0:w22.cell? ⟨gb159,0,none⟩=some (.int .i64 a1_0):=(Zb BK159.out 0).trans rfl;have hcz25_1:w22.cell? ⟨gb159,1,none⟩=some (.int .i64 a1_1):=(Zb BK159.out 1).trans rfl;have hcz25_2:w22.cell? ⟨gb159,2,none⟩=some (.int .i64 a1_2):=(Zb BK159.out 2).trans rfl;have hfz25_0:=Zc BK159.out 0;have hfz25_1:=Zc BK159.out 1;have hfz25_2:=Zc BK159.out 2))
  go_ret
  exact⟨by first|rfl|(simp[errW_none,errW_some]<;>rfl)|(simp[*,errW_none,errW_some]<;>rfl)|(simp[*,errW_none,errW_some,i64_w];done),by repeat(first|(with_reducible first|exact HB.out|apply Zh|apply Ze|apply Zd|refine Zf ?_ GE158.out|refine Zf ?_ GE159.out)|exact HB.out)⟩
def laws_eqStmt.f (a0_0:Int) (a0_1:Int) (a0_2:Int) (a0_3:Int) (a0_4:Int) (a0_5:Int) (a1_0:Int) (a1_1:Int) (a1_2:Int) (a1_3:Int) (a1_4:Int) (a1_5:Int):Option (Bool):=if a0_0=a1_0 then (if a0_1=a1_1 then (if a0_2=a1_2 then ((laws_eqExpr.f a0_3 a0_4 a0_5 a1_3 a1_4 a1_5).bind fun t162=>(if t162=true then (some true) else (some false))) else (some false)) else (some false)) else (some false)
set_option maxHeartbeats 8000000 in
set_option maxRecDepth 100000 in
theorem laws_eqStmt.calls (a0_0:Int) (a0_1:Int) (a0_2:Int) (a0_3:Int) (a0_4:Int) (a0_5:Int) (a1_0:Int) (a1_1:Int) (a1_2:Int) (a1_3:Int) (a1_4:Int) (a1_5:Int) (r:Bool) (w:World) (h:laws_eqStmt.f a0_0 a0_1 a0_2 a0_3 a0_4 a0_5 a1_0 a1_1 a1_2 a1_3 a1_4 a1_5=some r):
  Calls Try.prog 93 #[.agg #[.int .i64 a0_0,.int .i64 a0_1,.int .i64 a0_2,.int .i64 a0_3,.int .i64 a0_4,.int .i64 a0_5],.agg #[.int .i64 a1_0,.int .i64 a1_1,.int .i64 a1_2,.int .i64 a1_3,.int .i64 a1_4,.int .i64 a1_5]] w fun e w'=>e= .returned (.bool r)∧Below w.heap.size w w':=by
 have hu80:=Try.underlying80
 have hu62:=Try.underlying62
 have HB:=Za (Ya w.heap.size w)
 have H:(if a0_0=a1_0 then (if a0_1=a1_1 then (if a0_2=a1_2 then ((laws_eqExpr.f a0_3 a0_4 a0_5 a1_3 a1_4 a1_5).bind fun t162=>(if t162=true then (some true) else (some false))) else (some false)) else (some false)) else (some false))=some r:=h
 clear h
 by_cases c3:a0_0=a1_0
 ·rw[if_pos c3] at H
  have c3b0:(a0_0==a1_0)=true:=beq_iff_eq.mpr c3
  have c3b1:(a0_0 != a1_0)=false:=bne_eq_false_iff_eq.mpr c3
  clear c3
  by_cases c4:a0_1=a1_1
  ·rw[if_pos c4] at H
   have c4b0:(a0_1==a1_1)=true:=beq_iff_eq.mpr c4
   have c4b1:(a0_1 != a1_1)=false:=bne_eq_false_iff_eq.mpr c4
   clear c4
   by_cases c5:a0_2=a1_2
   ·rw[if_pos c5] at H
    have c5b0:(a0_2==a1_2)=true:=beq_iff_eq.mpr c5
    have c5b1:(a0_2 != a1_2)=false:=bne_eq_false_iff_eq.mpr c5
    clear c5
    replace H:=Zl H
    obtain⟨t162,A60,H⟩:=H
    replace H:(if t162=true then (some true) else (some false))=some r:=H
    have A6:=Za A60
    clear A60
    by_cases c7:t162=true
    ·subst c7
     rw[if_pos rfl] at H
     obtain rfl:=Zj H
     go_enter Try.func93,Try.ntmps93
     go_wp2_with (first|((with_reducible refine Zp (N:=2) rfl ?_);refine Zr ?hg (N:=2) ?hd (cs:= #[.int .i64 a0_0,.int .i64 a0_1,.int .i64 a0_2,.int .i64 a0_3,.int .i64 a0_4,.int .i64 a0_5]) (t:=80) ?hr ?_;(case hd=>rfl);(case hg=>rfl);(case hr=>exact z3_6);intro gb160 hg w8 hbox hb;have BK160:=Za (hbox);have GW160:=Za ((z3_35:w.heap.size≤gb160));have GE160:=Za ((z3_35:w.heap.size≤gb160));replace HB:=Za (Zi z3_0 hb);clear hb hbox hg)|((with_reducible refine Zp (N:=3) rfl ?_);refine Zr ?hg (N:=3) ?hd (cs:= #[.int .i64 a1_0,.int .i64 a1_1,.int .i64 a1_2,.int .i64 a1_3,.int .i64 a1_4,.int .i64 a1_5]) (t:=80) ?hr ?_;(case hd=>rfl);(case hg=>rfl);(case hr=>exact z3_6);intro gb161 hg w9 hbox hb;have BK161:=Za (hbox);have GW161:=Za ((z3_42:w.heap.size≤gb161));have GE161:=Za ((z3_42:w.heap.size≤gb161));replace HB:=Za (Zi z3_2 hb);have NB160_161:=Za ((z3_36:gb160≠gb161));have NB161_160:=Za ((z3_37:gb161≠gb160));replace BK160:=Za (Zk (g:=gb160) (o:= .cells #[.int .i64 a0_0,.int .i64 a0_1,.int .i64 a0_2,.int .i64 a0_3,.int .i64 a0_4,.int .i64 a0_5] 80 (0,0)) z3_3 hb);clear hb hbox hg;have hnb10:=NB160_161.out;have hnc10:=NB161_160.out;have hcz11_0:w9.cell? ⟨gb160,0,none⟩=some (.int .i64 a0_0):=(Zb BK160.out 0).trans rfl;have hcz11_1:w9.cell? ⟨gb160,1,none⟩=some (.int .i64 a0_1):=(Zb BK160.out 1).trans rfl;have hcz11_2:w9.cell? ⟨gb160,2,none⟩=some (.int .i64 a0_2):=(Zb BK160.out 2).trans rfl;have hcz11_3:w9.cell? ⟨gb160,3,none⟩=some (.int .i64 a0_3):=(Zb BK160.out 3).trans rfl;have hcz11_4:w9.cell? ⟨gb160,4,none⟩=some (.int .i64 a0_4):=(Zb BK160.out 4).trans rfl;have hcz11_5:w9.cell? ⟨gb160,5,none⟩=some (.int .i64 a0_5):=(Zb BK160.out 5).trans rfl;have hfz11_0:=Zc BK160.out 0;have hfz11_1:=Zc BK160.out 1;have hfz11_2:=Zc BK160.out 2;have hfz11_3:=Zc BK160.out 3;have hfz11_4:=Zc BK160.out 4;have hfz11_5:=Zc BK160.out 5;have hcz12_0:w9.cell? ⟨gb161,0,none⟩=some (.int .i64 a1_0):=(Zb BK161.out 0).trans rfl;have hcz12_1:w9.cell? ⟨gb161,1,none⟩=some (.int .i64 a1_1):=(Zb BK161.out 1).trans rfl;have hcz12_2:w9.cell? ⟨gb161,2,none⟩=some (.int .i64 a1_2):=(Zb BK161.out 2).trans rfl;have hcz12_3:w9.cell? ⟨gb161,3,none⟩=some (.int .i64 a1_3):=(Zb BK161.out 3).trans rfl;have hcz12_4:w9.cell? ⟨gb161,4,none⟩=some (.int .i64 a1_4):=(Zb BK161.out 4).trans rfl;have hcz12_5:w9.cell? ⟨gb161,5,none⟩=some (.int .i64 a1_5):=(Zb BK161.out 5).trans rfl;have hfz12_0:=Zc BK161.out 0;have hfz12_1:=Zc BK161.out 1;have hfz12_2:=Zc BK161.out 2;have hfz12_3:=Zc BK161.out 3;have hfz12_4:=Zc BK161.out 4;have hfz12_5:=Zc BK161.out 5)|((first|((with_reducible refine gate_callee (f:=80) rfl ?_);refine goesL_ (some 24) rfl rfl Try.func80 z3_24 rfl #[.agg #[.int .i64 a0_3,.int .i64 a0_4,.int .i64 a0_5],.agg #[.int .i64 a1_3,.int .i64 a1_4,.int .i64 a1_5]] rfl z3_1 ?_;(with_reducible refine(laws_eqExpr.calls a0_3 a0_4 a0_5 a1_3 a1_4 a1_5 true _ A6.out).mono ?_))|(go_at_call 80;(with_reducible refine(laws_eqExpr.calls a0_3 a0_4 a0_5 a1_3 a1_4 a1_5 true _ A6.out).mono ?_)));rintro e w13 ⟨rfl,hb⟩;(first|refine⟨_,rfl,?_⟩|skip);replace BK160:=Za (Zk (g:=gb160) (o:= .cells #[.int .i64 a0_0,.int .i64 a0_1,.int .i64 a0_2,.int .i64 a0_3,.int .i64 a0_4,.int .i64 a0_5] 80 (0,0)) z3_3 hb);replace BK161:=Za (Zk (g:=gb161) (o:= .cells #[.int .i64 a1_0,.int .i64 a1_1,.int .i64 a1_2,.int .i64 a1_3,.int .i64 a1_4,.int .i64 a1_5] 80 (0,0)) (by(with_reducible repeat(first|refine blk_drewN ?_ _|refine blk_drew ?_|refine blk_alloc ?_ _));exact BK161.out) hb);replace HB:=Za (Zi (by repeat(first|(with_reducible first|exact HB.out|apply Zh|apply Ze|apply Zd|refine Zf ?_ GE160.out|refine Zf ?_ GE161.out)|exact HB.out)) hb);(try clear hb);(try clear hb2);(try clear hk);(try clear hi)))
     go_ret
     exact⟨by first|rfl|(simp[errW_none,errW_some]<;>rfl)|(simp[*,errW_none,errW_some]<;>rfl)|(simp[*,errW_none,errW_some,i64_w];done),by repeat(first|(with_reducible first|exact HB.out|apply Zh|apply Ze|apply Zd|refine Zf ?_ GE160.out|refine Zf ?_ GE161.out)|exact HB.out)⟩
    ·replace c7:=Bool.eq_false_iff.mpr c7
     subst c7
     rw[if_neg (show ¬(false=true) by decide)] at H
     obtain rfl:=Zj H
     go_enter Try.func93,Try.ntmps93
     go_wp2_with (first|((with_reducible refine Zp (N:=2) rfl ?_);refine Zr ?hg (N:=2) ?hd (cs:= #[.int .i64 a0_0,.int .i64 a0_1,.int .i64 a0_2,.int .i64 a0_3,.int .i64 a0_4,.int .i64 a0_5]) (t:=80) ?hr ?_;(case hd=>rfl);(case hg=>rfl);(case hr=>exact z3_6);intro gb160 hg w14 hbox hb;have BK160:=Za (hbox);have GW160:=Za ((z3_35:w.heap.size≤gb160));have GE160:=Za ((z3_35:w.heap.size≤gb160));replace HB:=Za (Zi z3_0 hb);clear hb hbox hg)|((with_reducible refine Zp (N:=3) rfl ?_);refine Zr ?hg (N:=3) ?hd (cs:= #[.int .i64 a1_0,.int .i64 a1_1,.int .i64 a1_2,.int .i64 a1_3,.int .i64 a1_4,.int .i64 a1_5]) (t:=80) ?hr ?_;(case hd=>rfl);(case hg=>rfl);(case hr=>exact z3_6);intro gb161 hg w15 hbox hb;have BK161:=Za (hbox);have GW161:=Za ((z3_42:w.heap.size≤gb161));have GE161:=Za ((z3_42:w.heap.size≤gb161));replace HB:=Za (Zi z3_2 hb);have NB160_161:=Za ((z3_36:gb160≠gb161));have NB161_160:=Za ((z3_37:gb161≠gb160));replace BK160:=Za (Zk (g:=gb160) (o:= .cells #[.int .i64 a0_0,.int .i64 a0_1,.int .i64 a0_2,.int .i64 a0_3,.int .i64 a0_4,.int .i64 a0_5] 80 (0,0)) z3_3 hb);clear hb hbox hg;have hnb16:=NB160_161.out;have hnc16:=NB161_160.out;have hcz17_0:w15.cell? ⟨gb160,0,none⟩=some (.int .i64 a0_0):=(Zb BK160.out 0).trans rfl;have hcz17_1:w15.cell? ⟨gb160,1,none⟩=some (.int .i64 a0_1):=(Zb BK160.out 1).trans rfl;have hcz17_2:w15.cell? ⟨gb160,2,none⟩=some (.int .i64 a0_2):=(Zb BK160.out 2).trans rfl;have hcz17_3:w15.cell? ⟨gb160,3,none⟩=some (.int .i64 a0_3):=(Zb BK160.out 3).trans rfl;have hcz17_4:w15.cell? ⟨gb160,4,none⟩=some (.int .i64 a0_4):=(Zb BK160.out 4).trans rfl;have hcz17_5:w15.cell? ⟨gb160,5,none⟩=some (.int .i64 a0_5):=(Zb BK160.out 5).trans rfl;have hfz17_0:=Zc BK160.out 0;have hfz17_1:=Zc BK160.out 1;have hfz17_2:=Zc BK160.out 2;have hfz17_3:=Zc BK160.out 3;have hfz17_4:=Zc BK160.out 4;have hfz17_5:=Zc BK160.out 5;have hcz18_0:w15.cell? ⟨gb161,0,none⟩=some (.int .i64 a1_0):=(Zb BK161.out 0).trans rfl;have hcz18_1:w15.cell? ⟨gb161,1,none⟩=some (.int .i64 a1_1):=(Zb BK161.out 1).trans rfl;have hcz18_2:w15.cell? ⟨gb161,2,none⟩=some (.int .i64 a1_2):=(Zb BK161.out 2).trans rfl;have hcz18_3:w15.cell? ⟨gb161,3,none⟩=some (.int .i64 a1_3):=(Zb BK161.out 3).trans rfl;have hcz18_4:w15.cell? ⟨gb161,4,none⟩=some (.int .i64 a1_4):=(Zb BK161.out 4).trans rfl;have hcz18_5:w15.cell? ⟨gb161,5,none⟩=some (.int .i64 a1_5):=(Zb BK161.out 5).trans rfl;have hfz18_0:=Zc BK161.out 0;have hfz18_1:=Zc BK161.out 1;have hfz18_2:=Zc BK161.out 2;have hfz18_3:=Zc BK161.out 3;have hfz18_4:=Zc BK161.out 4;have hfz18_5:=Zc BK161.out 5)|((first|((with_reducible refine gate_callee (f:=80) rfl ?_);refine goesL_ (some 24) rfl rfl Try.func80 z3_24 rfl #[.agg #[.int .i64 a0_3,.int .i64 a0_4,.int .i64 a0_5],.agg #[.int .i64 a1_3,.int .i64 a1_4,.int .i64 a1_5]] rfl z3_1 ?_;(with_reducible refine(laws_eqExpr.calls a0_3 a0_4 a0_5 a1_3 a1_4 a1_5 false _ A6.out).mono ?_))|(go_at_call 80;(with_reducible refine(laws_eqExpr.calls a0_3 a0_4 a0_5 a1_3 a1_4 a1_5 false _ A6.out).mono ?_)));rintro e w19 ⟨rfl,hb⟩;(first|refine⟨_,rfl,?_⟩|skip);replace BK160:=Za (Zk (g:=gb160) (o:= .cells #[.int .i64 a0_0,.int .i64 a0_1,.int .i64 a0_2,.int .i64 a0_3,.int .i64 a0_4,.int .i64 a0_5] 80 (0,0)) z3_3 hb);replace BK161:=Za (Zk (g:=gb161) (o:= .cells #[.int .i64 a1_0,.int .i64 a1_1,.int .i64 a1_2,.int .i64 a1_3,.int .i64 a1_4,.int .i64 a1_5] 80 (0,0)) (by(with_reducible repeat(first|refine blk_drewN ?_ _|refine blk_drew ?_|refine blk_alloc ?_ _));exact BK161.out) hb);replace HB:=Za (Zi (by repeat(first|(with_reducible first|exact HB.out|apply Zh|apply Ze|apply Zd|refine Zf ?_ GE160.out|refine Zf ?_ GE161.out)|exact HB.out)) hb);(try clear hb);(try clear hb2);(try clear hk);(try clear hi)))
     go_ret
     exact⟨by first|rfl|(simp[errW_none,errW_some]<;>rfl)|(simp[*,errW_none,errW_some]<;>rfl)|(simp[*,errW_none,errW_some,i64_w];done),by repeat(first|(with_reducible first|exact HB.out|apply Zh|apply Ze|apply Zd|refine Zf ?_ GE160.out|refine Zf ?_ GE161.out)|exact HB.out)⟩
   ·rw[if_neg c5] at H
    have c5b0:(a0_2==a1_2)=false:=beq_eq_false_iff_ne.mpr c5
    have c5b1:(a0_2 != a1_2)=true:=bne_iff_ne.mpr c5
    obtain rfl:=Zj H
    go_enter Try.func93,Try.ntmps93
    go_wp2_with (first|((with_reducible refine Zp (N:=2) rfl ?_);refine Zr ?hg (N:=2) ?hd (cs:= #[.int .i64 a0_0,.int .i64 a0_1,.int .i64 a0_2,.int .i64 a0_3,.int .i64 a0_4,.int .i64 a0_5]) (t:=80) ?hr ?_;(case hd=>rfl);(case hg=>rfl);(case hr=>exact z3_6);intro gb160 hg w20 hbox hb;have BK160:=Za (hbox);have GW160:=Za ((z3_35:w.heap.size≤gb160));have GE160:=Za ((z3_35:w.heap.size≤gb160));replace HB:=Za (Zi z3_0 hb);clear hb hbox hg)|((with_reducible refine Zp (N:=3) rfl ?_);refine Zr ?hg (N:=3) ?hd (cs:= #[.int .i64 a1_0,.int .i64 a1_1,.int .i64 a1_2,.int .i64 a1_3,.int .i64 a1_4,.int .i64 a1_5]) (t:=80) ?hr ?_;(case hd=>rfl);(case hg=>rfl);(case hr=>exact z3_6);intro gb161 hg w21 hbox hb;have BK161:=Za (hbox);have GW161:=Za ((z3_42:w.heap.size≤gb161));have GE161:=Za ((z3_42:w.heap.size≤gb161));replace HB:=Za (Zi z3_2 hb);have NB160_161:=Za ((z3_36:gb160≠gb161));have NB161_160:=Za ((z3_37:gb161≠gb160));replace BK160:=Za (Zk (g:=gb160) (o:= .cells #[.int .i64 a0_0,.int .i64 a0_1,.int .i64 a0_2,.int .i64 a0_3,.int .i64 a0_4,.int .i64 a0_5] 80 (0,0)) z3_3 hb);clear hb hbox hg;have hnb22:=NB160_161.out;have hnc22:=NB161_160.out;have hcz23_0:w21.cell? ⟨gb160,0,none⟩=some (.int .i64 a0_0):=(Zb BK160.out 0).trans rfl;have hcz23_1:w21.cell? ⟨gb160,1,none⟩=some (.int .i64 a0_1):=(Zb BK160.out 1).trans rfl;have hcz23_2:w21.cell? ⟨gb160,2,none⟩=some (.int .i64 a0_2):=(Zb BK160.out 2).trans rfl;have hcz23_3:w21.cell? ⟨gb160,3,none⟩=some (.int .i64 a0_3):=(Zb BK160.out 3).trans rfl;have hcz23_4:w21.cell? ⟨gb160,4,none⟩=some (.int .i64 a0_4):=(Zb BK160.out 4).trans rfl;have hcz23_5:w21.cell? ⟨gb160,5,none⟩=some (.int .i64 a0_5):=(Zb BK160.out 5).trans rfl;have hfz23_0:=Zc BK160.out 0;have hfz23_1:=Zc BK160.out 1;have hfz23_2:=Zc BK160.out 2;have hfz23_3:=Zc BK160.out 3;have hfz23_4:=Zc BK160.out 4;have hfz23_5:=Zc BK160.out 5;have hcz24_0:w21.cell? ⟨gb161,0,none⟩=some (.int .i64 a1_0):=(Zb BK161.out 0).trans rfl;have hcz24_1:w21.cell? ⟨gb161,1,none⟩=some (.int .i64 a1_1):=(Zb BK161.out 1).trans rfl;have hcz24_2:w21.cell? ⟨gb161,2,none⟩=some (.int .i64 a1_2):=(Zb BK161.out 2).trans rfl;have hcz24_3:w21.cell? ⟨gb161,3,none⟩=some (.int .i64 a1_3):=(Zb BK161.out 3).trans rfl;have hcz24_4:w21.cell? ⟨gb161,4,none⟩=some (.int .i64 a1_4):=(Zb BK161.out 4).trans rfl;have hcz24_5:w21.cell? ⟨gb161,5,none⟩=some (.int .i64 a1_5):=(Zb BK161.out 5).trans rfl;have hfz24_0:=Zc BK161.out 0;have hfz24_1:=Zc BK161.out 1;have hfz24_2:=Zc BK161.out 2;have hfz24_3:=Zc BK161.out 3;have hfz24_4:=Zc BK161.out 4;have hfz24_5:=Zc BK161.out 5))
    go_ret
    exact⟨by first|rfl|(simp[errW_none,errW_some]<;>rfl)|(simp[*,errW_none,errW_some]<;>rfl)|(simp[*,errW_none,errW_some,i64_w];done),by repeat(first|(with_reducible first|exact HB.out|apply Zh|apply Ze|apply Zd|refine Zf ?_ GE160.out|refine Zf ?_ GE161.out)|exact HB.out)⟩
  ·rw[if_neg c4] at H
   have c4b0:(a0_1==a1_1)=false:=beq_eq_false_iff_ne.mpr c4
   have c4b1:(a0_1 != a1_1)=true:=bne_iff_ne.mpr c4
   obtain rfl:=Zj H
   go_enter Try.func93,Try.ntmps93
   go_wp2_with (first|((with_reducible refine Zp (N:=2) rfl ?_);refine Zr ?hg (N:=2) ?hd (cs:= #[.int .i64 a0_0,.int .i64 a0_1,.int .i64 a0_2,.int .i64 a0_3,.int .i64 a0_4,.int .i64 a0_5]) (t:=80) ?hr ?_;(case hd=>rfl);(case hg=>rfl);(case hr=>exact z3_6);intro gb160 hg w25 hbox hb;have BK160:=Za (hbox);have GW160:=Za ((z3_35:w.heap.size≤gb160));have GE160:=Za ((z3_35:w.heap.size≤gb160));replace HB:=Za (Zi z3_0 hb);clear hb hbox hg)|((with_reducible refine Zp (N:=3) rfl ?_);refine Zr ?hg (N:=3) ?hd (cs:= #[.int .i64 a1_0,.int .i64 a1_1,.int .i64 a1_2,.int .i64 a1_3,.int .i64 a1_4,.int .i64 a1_5]) (t:=80) ?hr ?_;(case hd=>rfl);(case hg=>rfl);(case hr=>exact z3_6);intro gb161 hg w26 hbox hb;have BK161:=Za (hbox);have GW161:=Za ((z3_42:w.heap.size≤gb161));have GE161:=Za ((z3_42:w.heap.size≤gb161));replace HB:=Za (Zi z3_2 hb);have NB160_161:=Za ((z3_36:gb160≠gb161));have NB161_160:=Za ((z3_37:gb161≠gb160));replace BK160:=Za (Zk (g:=gb160) (o:= .cells #[.int .i64 a0_0,.int .i64 a0_1,.int .i64 a0_2,.int .i64 a0_3,.int .i64 a0_4,.int .i64 a0_5] 80 (0,0)) z3_3 hb);clear hb hbox hg;have hnb27:=NB160_161.out;have hnc27:=NB161_160.out;have hcz28_0:w26.cell? ⟨gb160,0,none⟩=some (.int .i64 a0_0):=(Zb BK160.out 0).trans rfl;have hcz28_1:w26.cell? ⟨gb160,1,none⟩=some (.int .i64 a0_1):=(Zb BK160.out 1).trans rfl;have hcz28_2:w26.cell? ⟨gb160,2,none⟩=some (.int .i64 a0_2):=(Zb BK160.out 2).trans rfl;have hcz28_3:w26.cell? ⟨gb160,3,none⟩=some (.int .i64 a0_3):=(Zb BK160.out 3).trans rfl;have hcz28_4:w26.cell? ⟨gb160,4,none⟩=some (.int .i64 a0_4):=(Zb BK160.out 4).trans rfl;have hcz28_5:w26.cell? ⟨gb160,5,none⟩=some (.int .i64 a0_5):=(Zb BK160.out 5).trans rfl;have hfz28_0:=Zc BK160.out 0;have hfz28_1:=Zc BK160.out 1;have hfz28_2:=Zc BK160.out 2;have hfz28_3:=Zc BK160.out 3;have hfz28_4:=Zc BK160.out 4;have hfz28_5:=Zc BK160.out 5;have hcz29_0:w26.cell? ⟨gb161,0,none⟩=some (.int .i64 a1_0):=(Zb BK161.out 0).trans rfl;have hcz29_1:w26.cell? ⟨gb161,1,none⟩=some (.int .i64 a1_1):=(Zb BK161.out 1).trans rfl;have hcz29_2:w26.cell? ⟨gb161,2,none⟩=some (.int .i64 a1_2):=(Zb BK161.out 2).trans rfl;have hcz29_3:w26.cell? ⟨gb161,3,none⟩=some (.int .i64 a1_3):=(Zb BK161.out 3).trans rfl;have hcz29_4:w26.cell? ⟨gb161,4,none⟩=some (.int .i64 a1_4):=(Zb BK161.out 4).trans rfl;have hcz29_5:w26.cell? ⟨gb161,5,none⟩=some (.int .i64 a1_5):=(Zb BK161.out 5).trans rfl;have hfz29_0:=Zc BK161.out 0;have hfz29_1:=Zc BK161.out 1;have hfz29_2:=Zc BK161.out 2;have hfz29_3:=Zc BK161.out 3;have hfz29_4:=Zc BK161.out 4;have hfz29_5:=Zc BK161.out 5))
   go_ret
   exact⟨by first|rfl|(simp[errW_none,errW_some]<;>rfl)|(simp[*,errW_none,errW_some]<;>rfl)|(simp[*,errW_none,errW_some,i64_w];done),by repeat(first|(with_reducible first|exact HB.out|apply Zh|apply Ze|apply Zd|refine Zf ?_ GE160.out|refine Zf ?_ GE161.out)|exact HB.out)⟩
 ·rw[if_neg c3] at H
  have c3b0:(a0_0==a1_0)=false:=beq_eq_false_iff_ne.mpr c3
  have c3b1:(a0_0 != a1_0)=true:=bne_iff_ne.mpr c3
  obtain rfl:=Zj H
  go_enter Try.func93,Try.ntmps93
  go_wp2_with (first|((with_reducible refine Zp (N:=2) rfl ?_);refine Zr ?hg (N:=2) ?hd (cs:= #[.int .i64 a0_0,.int .i64 a0_1,.int .i64 a0_2,.int .i64 a0_3,.int .i64 a0_4,.int .i64 a0_5]) (t:=80) ?hr ?_;(case hd=>rfl);(case hg=>rfl);(case hr=>exact z3_6);intro gb160 hg w30 hbox hb;have BK160:=Za (hbox);have GW160:=Za ((z3_35:w.heap.size≤gb160));have GE160:=Za ((z3_35:w.heap.size≤gb160));replace HB:=Za (Zi z3_0 hb);clear hb hbox hg)|((with_reducible refine Zp (N:=3) rfl ?_);refine Zr ?hg (N:=3) ?hd (cs:= #[.int .i64 a1_0,.int .i64 a1_1,.int .i64 a1_2,.int .i64 a1_3,.int .i64 a1_4,.int .i64 a1_5]) (t:=80) ?hr ?_;(case hd=>rfl);(case hg=>rfl);(case hr=>exact z3_6);intro gb161 hg w31 hbox hb;have BK161:=Za (hbox);have GW161:=Za ((z3_42:w.heap.size≤gb161));have GE161:=Za ((z3_42:w.heap.size≤gb161));replace HB:=Za (Zi z3_2 hb);have NB160_161:=Za ((z3_36:gb160≠gb161));have NB161_160:=Za ((z3_37:gb161≠gb160));replace BK160:=Za (Zk (g:=gb160) (o:= .cells #[.int .i64 a0_0,.int .i64 a0_1,.int .i64 a0_2,.int .i64 a0_3,.int .i64 a0_4,.int .i64 a0_5] 80 (0,0)) z3_3 hb);clear hb hbox hg;have hnb32:=NB160_161.out;have hnc32:=NB161_160.out;have hcz33_0:w31.cell? ⟨gb160,0,none⟩=some (.int .i64 a0_0):=(Zb BK160.out 0).trans rfl;have hcz33_1:w31.cell? ⟨gb160,1,none⟩=some (.int .i64 a0_1):=(Zb BK160.out 1).trans rfl;have hcz33_2:w31.cell? ⟨gb160,2,none⟩=some (.int .i64 a0_2):=(Zb BK160.out 2).trans rfl;have hcz33_3:w31.cell? ⟨gb160,3,none⟩=some (.int .i64 a0_3):=(Zb BK160.out 3).trans rfl;have hcz33_4:w31.cell? ⟨gb160,4,none⟩=some (.int .i64 a0_4):=(Zb BK160.out 4).trans rfl;have hcz33_5:w31.cell? ⟨gb160,5,none⟩=some (.int .i64 a0_5):=(Zb BK160.out 5).trans rfl;have hfz33_0:=Zc BK160.out 0;have hfz33_1:=Zc BK160.out 1;have hfz33_2:=Zc BK160.out 2;have hfz33_3:=Zc BK160.out 3;have hfz33_4:=Zc BK160.out 4;have hfz33_5:=Zc BK160.out 5;have hcz34_0:w31.cell? ⟨gb161,0,none⟩=some (.int .i64 a1_0):=(Zb BK161.out 0).trans rfl;have hcz34_1:w31.cell? ⟨gb161,1,none⟩=some (.int .i64 a1_1):=(Zb BK161.out 1).trans rfl;have hcz34_2:w31.cell? ⟨gb161,2,none⟩=some (.int .i64 a1_2):=(Zb BK161.out 2).trans rfl;have hcz34_3:w31.cell? ⟨gb161,3,none⟩=some (.int .i64 a1_3):=(Zb BK161.out 3).trans rfl;have hcz34_4:w31.cell? ⟨gb161,4,none⟩=some (.int .i64 a1_4):=(Zb BK161.out 4).trans rfl;have hcz34_5:w31.cell? ⟨gb161,5,none⟩=some (.int .i64 a1_5):=(Zb BK161.out 5).trans rfl;have hfz34_0:=Zc BK161.out 0;have hfz34_1:=Zc BK161.out 1;have hfz34_2:=Zc BK161.out 2;have hfz34_3:=Zc BK161.out 3;have hfz34_4:=Zc BK161.out 4;have hfz34_5:=Zc BK161.out 5))
  go_ret
  exact⟨by first|rfl|(simp[errW_none,errW_some]<;>rfl)|(simp[*,errW_none,errW_some]<;>rfl)|(simp[*,errW_none,errW_some,i64_w];done),by repeat(first|(with_reducible first|exact HB.out|apply Zh|apply Ze|apply Zd|refine Zf ?_ GE160.out|refine Zf ?_ GE161.out)|exact HB.out)⟩
def laws_eqStmtS.l0:Nat→List (S80)→List (S80)→Int→Option (Bool)
 |0,_,_,_=>none
 |k+1,x0,x1,x5=>if x5<(x0.length:Int) then (if 0≤x5 then (if x5<(x1.length:Int) then ((laws_eqStmt.f ((rd_T80 x0 x5).f0) ((rd_T80 x0 x5).f1) ((rd_T80 x0 x5).f2) ((rd_T80 x0 x5).f3.f0) ((rd_T80 x0 x5).f3.f1) ((rd_T80 x0 x5).f3.f2) ((rd_T80 x1 x5).f0) ((rd_T80 x1 x5).f1) ((rd_T80 x1 x5).f2) ((rd_T80 x1 x5).f3.f0) ((rd_T80 x1 x5).f3.f1) ((rd_T80 x1 x5).f3.f2)).bind fun t165=>(if t165=true then (laws_eqStmtS.l0 k x0 x1 (wrap64 (x5+1))) else (some false))) else (none)) else (none)) else (some true)
def laws_eqStmtS.f (k:Nat) (l0:List (S80)) (l1:List (S80)):Option (Bool):=if (l0.length:Int)=(l1.length:Int) then (laws_eqStmtS.l0 k l0 l1 0) else (some false)
def laws_eqStmtS.T6:Bool×List (List Nat×List Nat):=(true,[([],[]),([],[]),([0,1],[0,1]),([2],[2]),([],[]),([],[]),([4,5],[4,5]),([6],[6]),([3,7],[3,7]),([8],[8])])
def laws_eqStmtS.B6:List Nat:=[0,0,3,7,0,0,48,112,255,511]
theorem laws_eqStmtS.tab6:rtab .any (opsOf Try.f79 6)=laws_eqStmtS.T6:=by kernel_rfl
theorem laws_eqStmtS.bits6:waitsOk laws_eqStmtS.T6.2 laws_eqStmtS.B6=true:=by kernel_rfl
set_option maxHeartbeats 8000000 in
set_option maxRecDepth 100000 in
theorem laws_eqStmtS.calls (k:Nat) (A0:Option Addr) (c0:Nat) (l0:List (S80)) (A1:Option Addr) (c1:Nat) (l1:List (S80)) (r:Bool) (w:World) (hr0:Kd.C k80 w A0 l0.length l0) (hc0:l0.length≤c0) (hr1:Kd.C k80 w A1 l1.length l1) (hc1:l1.length≤c1) (h:laws_eqStmtS.f k l0 l1=some r):
  Calls Try.prog 79 #[.slice A0 l0.length c0,.slice A1 l1.length c1] w fun e w'=>e= .returned (.bool r)∧Below w.heap.size w w':=by
 have hu80:=Try.underlying80
 have HR0:=Za hr0
 have HC0:=Za hc0
 clear hr0 hc0
 have HR1:=Za hr1
 have HC1:=Za hc1
 clear hr1 hc1
 have HB:=Za (Ya w.heap.size w)
 have H:(if (l0.length:Int)=(l1.length:Int) then (laws_eqStmtS.l0 k l0 l1 0) else (some false))=some r:=h
 clear h
 by_cases c3:(l0.length:Int)=(l1.length:Int)
 ·rw[if_pos c3] at H
  have c3b0:((l0.length:Int)==(l1.length:Int))=true:=beq_iff_eq.mpr c3
  have c3b1:((l0.length:Int) != (l1.length:Int))=false:=bne_eq_false_iff_eq.mpr c3
  have c3b2:(l0.length==l1.length)=true:=by first|simpa using c3|(simp at c3 ⊢;omega)
  clear c3
  have H':=Za H
  clear H
  go_enter Try.func79,Try.ntmps79
  go_wp2
  go_loopg [5] k (fun kq v5 w'=>∃(x5_1:Int),v5= .int .i64 x5_1∧Aside0 (laws_eqStmtS.l0 kq l0 l1 x5_1=some r)∧Aside0 (kq≤k)∧Aside0 (Below w.heap.size w w'))
  case atStart=>exact⟨(0),z3_17,H',⟨Nat.le_refl _⟩,⟨by repeat(first|(with_reducible first|exact HB.out|apply Zh|apply Ze|apply Zd)|exact HB.out)⟩⟩
  case round=>
   clear H'
   (try clear c1);(try clear c3);(try clear c3b0);(try clear c3b1);(try clear c3b2)
   obtain⟨x5_1,rfl,HA,HK1,HB⟩:=hrel
   cases gk with
   |zero=>exact absurd HA.out (by simp[laws_eqStmtS.l0])
   |succ k1=>
    have H:=HA.out
    clear HA
    simp only[laws_eqStmtS.l0] at H
    by_cases c4:x5_1<(l0.length:Int)
    ·rw[if_pos c4] at H
     have c4b0:decide (x5_1<(l0.length:Int))=true:=Zt c4
     clear c4
     by_cases c5:0≤x5_1
     ·rw[if_pos c5] at H
      have c5b0:decide (0≤x5_1)=true:=Zt c5
      clear c5
      by_cases c6:x5_1<(l1.length:Int)
      ·rw[if_pos c6] at H
       have c6b0:decide (x5_1<(l1.length:Int))=true:=Zt c6
       clear c6
       replace H:=Zl H
       obtain⟨t165,A70,H⟩:=H
       replace H:(if t165=true then (laws_eqStmtS.l0 k1 l0 l1 (wrap64 (x5_1+1))) else (some false))=some r:=H
       have A7:=Za A70
       clear A70
       by_cases c8:t165=true
       ·subst c8
        rw[if_pos rfl] at H
        have H':=Za H
        clear H
        try go_wp2
        have n0_:=Za (Zd HB.out)
        clear HB
        have HB:=n0_
        clear n0_
        have p163:0≤(x5_1:Int):=Zs z3_5
        have q163:x5_1<(l0.length:Int):=Zs z3_5
        obtain⟨ad163,e163,hx163_0,hx163_1,hx163_2,hx163_3,hx163_4,hx163_5⟩:=at_T80 HR0.out x5_1 p163 q163
        have hw163_5:=hx163_5
        have hw163_4:=hx163_4
        have hw163_3:=hx163_3
        have hw163_2:=hx163_2
        have hw163_1:=hx163_1
        have hw163_0:=hx163_0
        cases e163
        replace hx163_0:=(HB.out.cell (Zg w _ hx163_0)).trans hx163_0
        replace hx163_1:=(HB.out.cell (Zg w _ hx163_1)).trans hx163_1
        replace hx163_2:=(HB.out.cell (Zg w _ hx163_2)).trans hx163_2
        replace hx163_3:=(HB.out.cell (Zg w _ hx163_3)).trans hx163_3
        replace hx163_4:=(HB.out.cell (Zg w _ hx163_4)).trans hx163_4
        replace hx163_5:=(HB.out.cell (Zg w _ hx163_5)).trans hx163_5
        replace p163:=eq_true p163
        replace q163:=eq_true q163
        have p164:0≤(x5_1:Int):=Zs z3_5
        have q164:x5_1<(l1.length:Int):=Zs z3_5
        obtain⟨ad164,e164,hx164_0,hx164_1,hx164_2,hx164_3,hx164_4,hx164_5⟩:=at_T80 HR1.out x5_1 p164 q164
        have hw164_5:=hx164_5
        have hw164_4:=hx164_4
        have hw164_3:=hx164_3
        have hw164_2:=hx164_2
        have hw164_1:=hx164_1
        have hw164_0:=hx164_0
        cases e164
        replace hx164_0:=(HB.out.cell (Zg w _ hx164_0)).trans hx164_0
        replace hx164_1:=(HB.out.cell (Zg w _ hx164_1)).trans hx164_1
        replace hx164_2:=(HB.out.cell (Zg w _ hx164_2)).trans hx164_2
        replace hx164_3:=(HB.out.cell (Zg w _ hx164_3)).trans hx164_3
        replace hx164_4:=(HB.out.cell (Zg w _ hx164_4)).trans hx164_4
        replace hx164_5:=(HB.out.cell (Zg w _ hx164_5)).trans hx164_5
        replace p164:=eq_true p164
        replace q164:=eq_true q164
        refine start_ (n:=10) (S:=fun w'=>w'.cell? (ad163.add ((x5_1).toNat*6))=some (.int .i64 ((rd_T80 l0 x5_1).f0))∧w'.cell? ⟨(ad163.add ((x5_1).toNat*6)).block,(ad163.add ((x5_1).toNat*6)).off+1,none⟩=some (.int .i64 ((rd_T80 l0 x5_1).f1))∧w'.cell? ⟨(ad163.add ((x5_1).toNat*6)).block,(ad163.add ((x5_1).toNat*6)).off+2,none⟩=some (.int .i64 ((rd_T80 l0 x5_1).f2))∧w'.cell? ⟨(ad163.add ((x5_1).toNat*6)).block,(ad163.add ((x5_1).toNat*6)).off+3,none⟩=some (.int .i64 ((rd_T80 l0 x5_1).f3.f0))∧w'.cell? ⟨(ad163.add ((x5_1).toNat*6)).block,(ad163.add ((x5_1).toNat*6)).off+4,none⟩=some (.int .i64 ((rd_T80 l0 x5_1).f3.f1))∧w'.cell? ⟨(ad163.add ((x5_1).toNat*6)).block,(ad163.add ((x5_1).toNat*6)).off+5,none⟩=some (.int .i64 ((rd_T80 l0 x5_1).f3.f2))∧w'.cell? (ad164.add ((x5_1).toNat*6))=some (.int .i64 ((rd_T80 l1 x5_1).f0))∧w'.cell? ⟨(ad164.add ((x5_1).toNat*6)).block,(ad164.add ((x5_1).toNat*6)).off+1,none⟩=some (.int .i64 ((rd_T80 l1 x5_1).f1))∧w'.cell? ⟨(ad164.add ((x5_1).toNat*6)).block,(ad164.add ((x5_1).toNat*6)).off+2,none⟩=some (.int .i64 ((rd_T80 l1 x5_1).f2))∧w'.cell? ⟨(ad164.add ((x5_1).toNat*6)).block,(ad164.add ((x5_1).toNat*6)).off+3,none⟩=some (.int .i64 ((rd_T80 l1 x5_1).f3.f0))∧w'.cell? ⟨(ad164.add ((x5_1).toNat*6)).block,(ad164.add ((x5_1).toNat*6)).off+4,none⟩=some (.int .i64 ((rd_T80 l1 x5_1).f3.f1))∧w'.cell? ⟨(ad164.add ((x5_1).toNat*6)).block,(ad164.add ((x5_1).toNat*6)).off+5,none⟩=some (.int .i64 ((rd_T80 l1 x5_1).f3.f2))) (ds:=[]) #[false,false,false,false,false,false,false,false,false,false] z3_24 rfl rfl ⟨((HB.out.cell (Zg w _ hw163_0)).trans hw163_0),((HB.out.cell (Zg w _ hw163_1)).trans hw163_1),((HB.out.cell (Zg w _ hw163_2)).trans hw163_2),((HB.out.cell (Zg w _ hw163_3)).trans hw163_3),((HB.out.cell (Zg w _ hw163_4)).trans hw163_4),((HB.out.cell (Zg w _ hw163_5)).trans hw163_5),((HB.out.cell (Zg w _ hw164_0)).trans hw164_0),((HB.out.cell (Zg w _ hw164_1)).trans hw164_1),((HB.out.cell (Zg w _ hw164_2)).trans hw164_2),((HB.out.cell (Zg w _ hw164_3)).trans hw164_3),((HB.out.cell (Zg w _ hw164_4)).trans hw164_4),((HB.out.cell (Zg w _ hw164_5)).trans hw164_5)⟩ (fun hHeld=> ?_);refine with_tabW laws_eqStmtS.tab6 laws_eqStmtS.bits6 (fun HT_ HW_=> ?_)
        generalize wr.drew=w9 at HB hx163_0 hx163_1 hx163_2 hx163_3 hx163_4 hx163_5 hx164_0 hx164_1 hx164_2 hx164_3 hx164_4 hx164_5 hHeld ⊢
        refine pure_ (i:=0) (N:=some 17) (v:= ?_) (a':= ?_) #[true,false,false,false,false,false,false,false,false,false] rfl rfl (any_of HT_.out z3_24) (fun _ _ _ h=>h) (Or.inl ⟨by rfl,?_⟩) ?_ ?_
        rotate_left
        ·intro w'
         go_simp
         with_reducible rfl
        rotate_left
        ·simp only[Act.put,Zm,Zn,Zo,i64_w,i32_w]
         rfl
        refine pure_ (i:=1) (N:=some 18) (v:= ?_) (a':= ?_) #[true,true,false,false,false,false,false,false,false,false] rfl rfl (any_of HT_.out z3_24) (fun _ _ _ h=>h) (Or.inl ⟨by rfl,?_⟩) ?_ ?_
        rotate_left
        ·intro w'
         go_simp
         with_reducible rfl
        rotate_left
        ·simp only[Act.put,Zm,Zn,Zo,i64_w,i32_w]
         rfl
        refine pure_ (i:=2) (N:=some 19) (v:= ?_) (a':= ?_) #[true,true,true,false,false,false,false,false,false,false] rfl rfl (any_of HT_.out z3_24) (fun _ _ _ h=>h) (Or.inl ⟨by rfl,?_⟩) ?_ ?_
        rotate_left
        ·intro w'
         go_simp
         with_reducible rfl
        rotate_left
        ·simp only[Act.put,Zm,Zn,Zo,i64_w,i32_w]
         rfl
        refine pure_ (i:=4) (N:=some 21) (v:= ?_) (a':= ?_) #[true,true,true,false,true,false,false,false,false,false] rfl rfl (any_of HT_.out z3_24) (fun _ _ _ h=>h) (Or.inl ⟨by rfl,?_⟩) ?_ ?_
        rotate_left
        ·intro w'
         go_simp
         with_reducible rfl
        rotate_left
        ·simp only[Act.put,Zm,Zn,Zo,i64_w,i32_w]
         rfl
        refine pure_ (i:=5) (N:=some 22) (v:= ?_) (a':= ?_) #[true,true,true,false,true,true,false,false,false,false] rfl rfl (any_of HT_.out z3_24) (fun _ _ _ h=>h) (Or.inl ⟨by rfl,?_⟩) ?_ ?_
        rotate_left
        ·intro w'
         go_simp
         with_reducible rfl
        rotate_left
        ·simp only[Act.put,Zm,Zn,Zo,i64_w,i32_w]
         rfl
        refine pure_ (i:=6) (N:=some 23) (v:= ?_) (a':= ?_) #[true,true,true,false,true,true,true,false,false,false] rfl rfl (any_of HT_.out z3_24) (fun _ _ _ h=>h) (Or.inl ⟨by rfl,?_⟩) ?_ ?_
        rotate_left
        ·intro w'
         go_simp
         with_reducible rfl
        rotate_left
        ·simp only[Act.put,Zm,Zn,Zo,i64_w,i32_w]
         rfl
        refine take_ (i:=3) (N:=some 20) (v:= ?_) (a':= ?_) #[true,true,true,true,true,true,true,false,false,false] rfl rfl (take_ofW HT_.out HW_.out z3_24) (fun _ _ _ h=>h) (Or.inl ⟨by rfl,?_⟩) hHeld ?_ ?_
        rotate_left
        ·rintro w' ⟨s0,s1,s2,s3,s4,s5,s6,s7,s8,s9,s10,s11⟩
         go_simp
         with_reducible rfl
        rotate_left
        ·simp only[Act.put,Zm,Zn,Zo,i64_w,i32_w]
         rfl
        refine take_ (i:=7) (N:=some 24) (v:= ?_) (a':= ?_) #[true,true,true,true,true,true,true,true,false,false] rfl rfl (take_ofW HT_.out HW_.out z3_24) (fun _ _ _ h=>h) (Or.inl ⟨by rfl,?_⟩) hHeld ?_ ?_
        rotate_left
        ·rintro w' ⟨s0,s1,s2,s3,s4,s5,s6,s7,s8,s9,s10,s11⟩
         go_simp
         with_reducible rfl
        rotate_left
        ·simp only[Act.put,Zm,Zn,Zo,i64_w,i32_w]
         rfl
        refine one_ (i:=8) (N:=some 25) #[true,true,true,true,true,true,true,true,true,false] rfl rfl (one_of HT_.out z3_24) (by decide) (fun K hK=> ?_)
        refine goes_ Try.func93 z3_24 rfl #[.agg #[.int .i64 ((rd_T80 l0 x5_1).f0),.int .i64 ((rd_T80 l0 x5_1).f1),.int .i64 ((rd_T80 l0 x5_1).f2),.int .i64 ((rd_T80 l0 x5_1).f3.f0),.int .i64 ((rd_T80 l0 x5_1).f3.f1),.int .i64 ((rd_T80 l0 x5_1).f3.f2)],.agg #[.int .i64 ((rd_T80 l1 x5_1).f0),.int .i64 ((rd_T80 l1 x5_1).f1),.int .i64 ((rd_T80 l1 x5_1).f2),.int .i64 ((rd_T80 l1 x5_1).f3.f0),.int .i64 ((rd_T80 l1 x5_1).f3.f1),.int .i64 ((rd_T80 l1 x5_1).f3.f2)]] (by rfl) rfl rfl z3_1 ?_
        with_reducible refine(laws_eqStmt.calls ((rd_T80 l0 x5_1).f0) ((rd_T80 l0 x5_1).f1) ((rd_T80 l0 x5_1).f2) ((rd_T80 l0 x5_1).f3.f0) ((rd_T80 l0 x5_1).f3.f1) ((rd_T80 l0 x5_1).f3.f2) ((rd_T80 l1 x5_1).f0) ((rd_T80 l1 x5_1).f1) ((rd_T80 l1 x5_1).f2) ((rd_T80 l1 x5_1).f3.f0) ((rd_T80 l1 x5_1).f3.f1) ((rd_T80 l1 x5_1).f3.f2) true _ A7.out).mono ?_
        rintro e w10 ⟨rfl,hb⟩
        refine⟨_,rfl,?_⟩
        have n0_:=Za (Zi z3_0 hb)
        clear HB
        have HB:=n0_
        clear n0_
        (try clear hb)
        (try clear hb2)
        (try clear hk)
        (try clear hi)
        refine hK.out _ _ ⟨((HB.out.cell (Zg w _ hw163_0)).trans hw163_0),((HB.out.cell (Zg w _ hw163_1)).trans hw163_1),((HB.out.cell (Zg w _ hw163_2)).trans hw163_2),((HB.out.cell (Zg w _ hw163_3)).trans hw163_3),((HB.out.cell (Zg w _ hw163_4)).trans hw163_4),((HB.out.cell (Zg w _ hw163_5)).trans hw163_5),((HB.out.cell (Zg w _ hw164_0)).trans hw164_0),((HB.out.cell (Zg w _ hw164_1)).trans hw164_1),((HB.out.cell (Zg w _ hw164_2)).trans hw164_2),((HB.out.cell (Zg w _ hw164_3)).trans hw164_3),((HB.out.cell (Zg w _ hw164_4)).trans hw164_4),((HB.out.cell (Zg w _ hw164_5)).trans hw164_5)⟩ (fun hHeld=> ?_)
        clear hK K
        refine norm_ (a':= ?_) ?_ ?_
        rotate_left
        ·show Act.put _ (some 25) _=_
         simp only[Act.put,Zm,Zn,Zo,i64_w,i32_w]
         rfl
        refine pure_ (i:=9) (N:=some 26) (v:= ?_) (a':= ?_) #[true,true,true,true,true,true,true,true,true,true] rfl rfl (any_of HT_.out z3_24) (fun _ _ _ h=>h) (Or.inl ⟨by rfl,?_⟩) ?_ ?_
        rotate_left
        ·intro w'
         go_simp
         with_reducible rfl
        rotate_left
        ·simp only[Act.put,Zm,Zn,Zo,i64_w,i32_w]
         rfl
        refine done_ (done_of HT_.out z3_24) ?_
        try go_wp2
        go_roundg k1
        case measure=>have:=HK1.out;omega
        case rel=>exact⟨(wrap64 (x5_1+1)),z3_17,H',⟨by have:=HK1.out;omega⟩,⟨by repeat(first|(with_reducible first|exact HB.out|apply Zh|apply Ze|apply Zd)|exact HB.out)⟩⟩
       ·replace c8:=Bool.eq_false_iff.mpr c8
        subst c8
        rw[if_neg (show ¬(false=true) by decide)] at H
        obtain rfl:=Zj H
        try go_wp2
        have n0_:=Za (Zd HB.out)
        clear HB
        have HB:=n0_
        clear n0_
        have p163:0≤(x5_1:Int):=Zs z3_5
        have q163:x5_1<(l0.length:Int):=Zs z3_5
        obtain⟨ad163,e163,hx163_0,hx163_1,hx163_2,hx163_3,hx163_4,hx163_5⟩:=at_T80 HR0.out x5_1 p163 q163
        have hw163_5:=hx163_5
        have hw163_4:=hx163_4
        have hw163_3:=hx163_3
        have hw163_2:=hx163_2
        have hw163_1:=hx163_1
        have hw163_0:=hx163_0
        cases e163
        replace hx163_0:=(HB.out.cell (Zg w _ hx163_0)).trans hx163_0
        replace hx163_1:=(HB.out.cell (Zg w _ hx163_1)).trans hx163_1
        replace hx163_2:=(HB.out.cell (Zg w _ hx163_2)).trans hx163_2
        replace hx163_3:=(HB.out.cell (Zg w _ hx163_3)).trans hx163_3
        replace hx163_4:=(HB.out.cell (Zg w _ hx163_4)).trans hx163_4
        replace hx163_5:=(HB.out.cell (Zg w _ hx163_5)).trans hx163_5
        replace p163:=eq_true p163
        replace q163:=eq_true q163
        have p164:0≤(x5_1:Int):=Zs z3_5
        have q164:x5_1<(l1.length:Int):=Zs z3_5
        obtain⟨ad164,e164,hx164_0,hx164_1,hx164_2,hx164_3,hx164_4,hx164_5⟩:=at_T80 HR1.out x5_1 p164 q164
        have hw164_5:=hx164_5
        have hw164_4:=hx164_4
        have hw164_3:=hx164_3
        have hw164_2:=hx164_2
        have hw164_1:=hx164_1
        have hw164_0:=hx164_0
        cases e164
        replace hx164_0:=(HB.out.cell (Zg w _ hx164_0)).trans hx164_0
        replace hx164_1:=(HB.out.cell (Zg w _ hx164_1)).trans hx164_1
        replace hx164_2:=(HB.out.cell (Zg w _ hx164_2)).trans hx164_2
        replace hx164_3:=(HB.out.cell (Zg w _ hx164_3)).trans hx164_3
        replace hx164_4:=(HB.out.cell (Zg w _ hx164_4)).trans hx164_4
        replace hx164_5:=(HB.out.cell (Zg w _ hx164_5)).trans hx164_5
        replace p164:=eq_true p164
        replace q164:=eq_true q164
        refine start_ (n:=10) (S:=fun w'=>w'.cell? (ad163.add ((x5_1).toNat*6))=some (.int .i64 ((rd_T80 l0 x5_1).f0))∧w'.cell? ⟨(ad163.add ((x5_1).toNat*6)).block,(ad163.add ((x5_1).toNat*6)).off+1,none⟩=some (.int .i64 ((rd_T80 l0 x5_1).f1))∧w'.cell? ⟨(ad163.add ((x5_1).toNat*6)).block,(ad163.add ((x5_1).toNat*6)).off+2,none⟩=some (.int .i64 ((rd_T80 l0 x5_1).f2))∧w'.cell? ⟨(ad163.add ((x5_1).toNat*6)).block,(ad163.add ((x5_1).toNat*6)).off+3,none⟩=some (.int .i64 ((rd_T80 l0 x5_1).f3.f0))∧w'.cell? ⟨(ad163.add ((x5_1).toNat*6)).block,(ad163.add ((x5_1).toNat*6)).off+4,none⟩=some (.int .i64 ((rd_T80 l0 x5_1).f3.f1))∧w'.cell? ⟨(ad163.add ((x5_1).toNat*6)).block,(ad163.add ((x5_1).toNat*6)).off+5,none⟩=some (.int .i64 ((rd_T80 l0 x5_1).f3.f2))∧w'.cell? (ad164.add ((x5_1).toNat*6))=some (.int .i64 ((rd_T80 l1 x5_1).f0))∧w'.cell? ⟨(ad164.add ((x5_1).toNat*6)).block,(ad164.add ((x5_1).toNat*6)).off+1,none⟩=some (.int .i64 ((rd_T80 l1 x5_1).f1))∧w'.cell? ⟨(ad164.add ((x5_1).toNat*6)).block,(ad164.add ((x5_1).toNat*6)).off+2,none⟩=some (.int .i64 ((rd_T80 l1 x5_1).f2))∧w'.cell? ⟨(ad164.add ((x5_1).toNat*6)).block,(ad164.add ((x5_1).toNat*6)).off+3,none⟩=some (.int .i64 ((rd_T80 l1 x5_1).f3.f0))∧w'.cell? ⟨(ad164.add ((x5_1).toNat*6)).block,(ad164.add ((x5_1).toNat*6)).off+4,none⟩=some (.int .i64 ((rd_T80 l1 x5_1).f3.f1))∧w'.cell? ⟨(ad164.add ((x5_1).toNat*6)).block,(ad164.add ((x5_1).toNat*6)).off+5,none⟩=some (.int .i64 ((rd_T80 l1 x5_1).f3.f2))) (ds:=[]) #[false,false,false,false,false,false,false,false,false,false] z3_24 rfl rfl ⟨((HB.out.cell (Zg w _ hw163_0)).trans hw163_0),((HB.out.cell (Zg w _ hw163_1)).trans hw163_1),((HB.out.cell (Zg w _ hw163_2)).trans hw163_2),((HB.out.cell (Zg w _ hw163_3)).trans hw163_3),((HB.out.cell (Zg w _ hw163_4)).trans hw163_4),((HB.out.cell (Zg w _ hw163_5)).trans hw163_5),((HB.out.cell (Zg w _ hw164_0)).trans hw164_0),((HB.out.cell (Zg w _ hw164_1)).trans hw164_1),((HB.out.cell (Zg w _ hw164_2)).trans hw164_2),((HB.out.cell (Zg w _ hw164_3)).trans hw164_3),((HB.out.cell (Zg w _ hw164_4)).trans hw164_4),((HB.out.cell (Zg w _ hw164_5)).trans hw164_5)⟩ (fun hHeld=> ?_);refine with_tabW laws_eqStmtS.tab6 laws_eqStmtS.bits6 (fun HT_ HW_=> ?_)
        generalize wr.drew=w11 at HB hx163_0 hx163_1 hx163_2 hx163_3 hx163_4 hx163_5 hx164_0 hx164_1 hx164_2 hx164_3 hx164_4 hx164_5 hHeld ⊢
        refine pure_ (i:=0) (N:=some 17) (v:= ?_) (a':= ?_) #[true,false,false,false,false,false,false,false,false,false] rfl rfl (any_of HT_.out z3_24) (fun _ _ _ h=>h) (Or.inl ⟨by rfl,?_⟩) ?_ ?_
        rotate_left
        ·intro w'
         go_simp
         with_reducible rfl
        rotate_left
        ·simp only[Act.put,Zm,Zn,Zo,i64_w,i32_w]
         rfl
        refine pure_ (i:=1) (N:=some 18) (v:= ?_) (a':= ?_) #[true,true,false,false,false,false,false,false,false,false] rfl rfl (any_of HT_.out z3_24) (fun _ _ _ h=>h) (Or.inl ⟨by rfl,?_⟩) ?_ ?_
        rotate_left
        ·intro w'
         go_simp
         with_reducible rfl
        rotate_left
        ·simp only[Act.put,Zm,Zn,Zo,i64_w,i32_w]
         rfl
        refine pure_ (i:=2) (N:=some 19) (v:= ?_) (a':= ?_) #[true,true,true,false,false,false,false,false,false,false] rfl rfl (any_of HT_.out z3_24) (fun _ _ _ h=>h) (Or.inl ⟨by rfl,?_⟩) ?_ ?_
        rotate_left
        ·intro w'
         go_simp
         with_reducible rfl
        rotate_left
        ·simp only[Act.put,Zm,Zn,Zo,i64_w,i32_w]
         rfl
        refine pure_ (i:=4) (N:=some 21) (v:= ?_) (a':= ?_) #[true,true,true,false,true,false,false,false,false,false] rfl rfl (any_of HT_.out z3_24) (fun _ _ _ h=>h) (Or.inl ⟨by rfl,?_⟩) ?_ ?_
        rotate_left
        ·intro w'
         go_simp
         with_reducible rfl
        rotate_left
        ·simp only[Act.put,Zm,Zn,Zo,i64_w,i32_w]
         rfl
        refine pure_ (i:=5) (N:=some 22) (v:= ?_) (a':= ?_) #[true,true,true,false,true,true,false,false,false,false] rfl rfl (any_of HT_.out z3_24) (fun _ _ _ h=>h) (Or.inl ⟨by rfl,?_⟩) ?_ ?_
        rotate_left
        ·intro w'
         go_simp
         with_reducible rfl
        rotate_left
        ·simp only[Act.put,Zm,Zn,Zo,i64_w,i32_w]
         rfl
        refine pure_ (i:=6) (N:=some 23) (v:= ?_) (a':= ?_) #[true,true,true,false,true,true,true,false,false,false] rfl rfl (any_of HT_.out z3_24) (fun _ _ _ h=>h) (Or.inl ⟨by rfl,?_⟩) ?_ ?_
        rotate_left
        ·intro w'
         go_simp
         with_reducible rfl
        rotate_left
        ·simp only[Act.put,Zm,Zn,Zo,i64_w,i32_w]
         rfl
        refine take_ (i:=3) (N:=some 20) (v:= ?_) (a':= ?_) #[true,true,true,true,true,true,true,false,false,false] rfl rfl (take_ofW HT_.out HW_.out z3_24) (fun _ _ _ h=>h) (Or.inl ⟨by rfl,?_⟩) hHeld ?_ ?_
        rotate_left
        ·rintro w' ⟨s0,s1,s2,s3,s4,s5,s6,s7,s8,s9,s10,s11⟩
         go_simp
         with_reducible rfl
        rotate_left
        ·simp only[Act.put,Zm,Zn,Zo,i64_w,i32_w]
         rfl
        refine take_ (i:=7) (N:=some 24) (v:= ?_) (a':= ?_) #[true,true,true,true,true,true,true,true,false,false] rfl rfl (take_ofW HT_.out HW_.out z3_24) (fun _ _ _ h=>h) (Or.inl ⟨by rfl,?_⟩) hHeld ?_ ?_
        rotate_left
        ·rintro w' ⟨s0,s1,s2,s3,s4,s5,s6,s7,s8,s9,s10,s11⟩
         go_simp
         with_reducible rfl
        rotate_left
        ·simp only[Act.put,Zm,Zn,Zo,i64_w,i32_w]
         rfl
        refine one_ (i:=8) (N:=some 25) #[true,true,true,true,true,true,true,true,true,false] rfl rfl (one_of HT_.out z3_24) (by decide) (fun K hK=> ?_)
        refine goes_ Try.func93 z3_24 rfl #[.agg #[.int .i64 ((rd_T80 l0 x5_1).f0),.int .i64 ((rd_T80 l0 x5_1).f1),.int .i64 ((rd_T80 l0 x5_1).f2),.int .i64 ((rd_T80 l0 x5_1).f3.f0),.int .i64 ((rd_T80 l0 x5_1).f3.f1),.int .i64 ((rd_T80 l0 x5_1).f3.f2)],.agg #[.int .i64 ((rd_T80 l1 x5_1).f0),.int .i64 ((rd_T80 l1 x5_1).f1),.int .i64 ((rd_T80 l1 x5_1).f2),.int .i64 ((rd_T80 l1 x5_1).f3.f0),.int .i64 ((rd_T80 l1 x5_1).f3.f1),.int .i64 ((rd_T80 l1 x5_1).f3.f2)]] (by rfl) rfl rfl z3_1 ?_
        with_reducible refine(laws_eqStmt.calls ((rd_T80 l0 x5_1).f0) ((rd_T80 l0 x5_1).f1) ((rd_T80 l0 x5_1).f2) ((rd_T80 l0 x5_1).f3.f0) ((rd_T80 l0 x5_1).f3.f1) ((rd_T80 l0 x5_1).f3.f2) ((rd_T80 l1 x5_1).f0) ((rd_T80 l1 x5_1).f1) ((rd_T80 l1 x5_1).f2) ((rd_T80 l1 x5_1).f3.f0) ((rd_T80 l1 x5_1).f3.f1) ((rd_T80 l1 x5_1).f3.f2) false _ A7.out).mono ?_
        rintro e w12 ⟨rfl,hb⟩
        refine⟨_,rfl,?_⟩
        have n0_:=Za (Zi z3_0 hb)
        clear HB
        have HB:=n0_
        clear n0_
        (try clear hb)
        (try clear hb2)
        (try clear hk)
        (try clear hi)
        refine hK.out _ _ ⟨((HB.out.cell (Zg w _ hw163_0)).trans hw163_0),((HB.out.cell (Zg w _ hw163_1)).trans hw163_1),((HB.out.cell (Zg w _ hw163_2)).trans hw163_2),((HB.out.cell (Zg w _ hw163_3)).trans hw163_3),((HB.out.cell (Zg w _ hw163_4)).trans hw163_4),((HB.out.cell (Zg w _ hw163_5)).trans hw163_5),((HB.out.cell (Zg w _ hw164_0)).trans hw164_0),((HB.out.cell (Zg w _ hw164_1)).trans hw164_1),((HB.out.cell (Zg w _ hw164_2)).trans hw164_2),((HB.out.cell (Zg w _ hw164_3)).trans hw164_3),((HB.out.cell (Zg w _ hw164_4)).trans hw164_4),((HB.out.cell (Zg w _ hw164_5)).trans hw164_5)⟩ (fun hHeld=> ?_)
        clear hK K
        refine norm_ (a':= ?_) ?_ ?_
        rotate_left
        ·show Act.put _ (some 25) _=_
         simp only[Act.put,Zm,Zn,Zo,i64_w,i32_w]
         rfl
        refine pure_ (i:=9) (N:=some 26) (v:= ?_) (a':= ?_) #[true,true,true,true,true,true,true,true,true,true] rfl rfl (any_of HT_.out z3_24) (fun _ _ _ h=>h) (Or.inl ⟨by rfl,?_⟩) ?_ ?_
        rotate_left
        ·intro w'
         go_simp
         with_reducible rfl
        rotate_left
        ·simp only[Act.put,Zm,Zn,Zo,i64_w,i32_w]
         rfl
        refine done_ (done_of HT_.out z3_24) ?_
        try go_wp2
        go_ret
        exact⟨by first|rfl|(simp[errW_none,errW_some]<;>rfl)|(simp[*,errW_none,errW_some]<;>rfl)|(simp[*,errW_none,errW_some,i64_w];done),by repeat(first|(with_reducible first|exact HB.out|apply Zh|apply Ze|apply Zd)|exact HB.out)⟩
      ·rw[if_neg c6] at H
       exact absurd H (by simp)
     ·rw[if_neg c5] at H
      exact absurd H (by simp)
    ·rw[if_neg c4] at H
     have c4b0:decide (x5_1<(l0.length:Int))=false:=Yc c4
     clear c4
     obtain rfl:=Zj H
     go_wp2
     go_ret
     exact⟨by first|rfl|(simp[errW_none,errW_some]<;>rfl)|(simp[*,errW_none,errW_some]<;>rfl)|(simp[*,errW_none,errW_some,i64_w];done),by repeat(first|(with_reducible first|exact HB.out|apply Zh|apply Ze|apply Zd)|exact HB.out)⟩
 ·rw[if_neg c3] at H
  have c3b0:((l0.length:Int)==(l1.length:Int))=false:=beq_eq_false_iff_ne.mpr c3
  have c3b1:((l0.length:Int) != (l1.length:Int))=true:=bne_iff_ne.mpr c3
  have c3b2:(l0.length==l1.length)=false:=by first|simpa using c3|(simp at c3 ⊢;omega)
  obtain rfl:=Zj H
  go_enter Try.func79,Try.ntmps79
  go_wp2
  go_ret
  exact⟨by first|rfl|(simp[errW_none,errW_some]<;>rfl)|(simp[*,errW_none,errW_some]<;>rfl)|(simp[*,errW_none,errW_some,i64_w];done),by repeat(first|(with_reducible first|exact HB.out|apply Zh|apply Ze|apply Zd)|exact HB.out)⟩
def laws_eqTask.f (k:Nat) (l0_0:List (S80)) (a0_1:Int) (a0_2:Int) (a0_3:Int) (l1_0:List (S80)) (a1_1:Int) (a1_2:Int) (a1_3:Int):Option (Bool):=(laws_eqStmtS.f k l0_0 l1_0).bind fun t168=>(if t168=true then ((laws_eqExpr.f a0_1 a0_2 a0_3 a1_1 a1_2 a1_3).bind fun t169=>(if t169=true then (some true) else (some false))) else (some false))
set_option maxHeartbeats 8000000 in
set_option maxRecDepth 100000 in
theorem laws_eqTask.calls (k:Nat) (A0_0:Option Addr) (c0_0:Nat) (l0_0:List (S80)) (a0_1:Int) (a0_2:Int) (a0_3:Int) (A1_0:Option Addr) (c1_0:Nat) (l1_0:List (S80)) (a1_1:Int) (a1_2:Int) (a1_3:Int) (r:Bool) (w:World) (hr0_0:Kd.C k80 w A0_0 l0_0.length l0_0) (hc0_0:l0_0.length≤c0_0) (hr1_0:Kd.C k80 w A1_0 l1_0.length l1_0) (hc1_0:l1_0.length≤c1_0) (h:laws_eqTask.f k l0_0 a0_1 a0_2 a0_3 l1_0 a1_1 a1_2 a1_3=some r):
  Calls Try.prog 55 #[.agg #[.slice A0_0 l0_0.length c0_0,.int .i64 a0_1,.int .i64 a0_2,.int .i64 a0_3],.agg #[.slice A1_0 l1_0.length c1_0,.int .i64 a1_1,.int .i64 a1_2,.int .i64 a1_3]] w fun e w'=>e= .returned (.bool r)∧Below w.heap.size w w':=by
 have hu64:=Try.underlying64
 have hu62:=Try.underlying62
 have HR0_0:=Za hr0_0
 have HC0_0:=Za hc0_0
 clear hr0_0 hc0_0
 have HR1_0:=Za hr1_0
 have HC1_0:=Za hc1_0
 clear hr1_0 hc1_0
 have HB:=Za (Ya w.heap.size w)
 have H:((laws_eqStmtS.f k l0_0 l1_0).bind fun t168=>(if t168=true then ((laws_eqExpr.f a0_1 a0_2 a0_3 a1_1 a1_2 a1_3).bind fun t169=>(if t169=true then (some true) else (some false))) else (some false)))=some r:=h
 clear h
 replace H:=Zl H
 obtain⟨t168,A30,H⟩:=H
 replace H:(if t168=true then ((laws_eqExpr.f a0_1 a0_2 a0_3 a1_1 a1_2 a1_3).bind fun t169=>(if t169=true then (some true) else (some false))) else (some false))=some r:=H
 have A3:=Za A30
 clear A30
 by_cases c4:t168=true
 ·subst c4
  rw[if_pos rfl] at H
  replace H:=Zl H
  obtain⟨t169,A50,H⟩:=H
  replace H:(if t169=true then (some true) else (some false))=some r:=H
  have A5:=Za A50
  clear A50
  by_cases c6:t169=true
  ·subst c6
   rw[if_pos rfl] at H
   obtain rfl:=Zj H
   go_enter Try.func55,Try.ntmps55
   go_wp2_with (first|((with_reducible refine Zp (N:=2) rfl ?_);refine Zr ?hg (N:=2) ?hd (cs:= #[.slice A0_0 l0_0.length c0_0,.int .i64 a0_1,.int .i64 a0_2,.int .i64 a0_3]) (t:=64) ?hr ?_;(case hd=>rfl);(case hg=>rfl);(case hr=>exact z3_6);intro gb166 hg w7 hbox hb;have BK166:=Za (hbox);have GW166:=Za ((z3_35:w.heap.size≤gb166));have GE166:=Za ((z3_35:w.heap.size≤gb166));replace HB:=Za (Zi z3_0 hb);clear hb hbox hg)|((with_reducible refine Zp (N:=3) rfl ?_);refine Zr ?hg (N:=3) ?hd (cs:= #[.slice A1_0 l1_0.length c1_0,.int .i64 a1_1,.int .i64 a1_2,.int .i64 a1_3]) (t:=64) ?hr ?_;(case hd=>rfl);(case hg=>rfl);(case hr=>exact z3_6);intro gb167 hg w8 hbox hb;have BK167:=Za (hbox);have GW167:=Za ((by rw[hg];exact(Zw z3_9):w.heap.size≤gb167));have GE167:=Za ((by rw[hg];exact(Zw z3_9):w.heap.size≤gb167));replace HB:=Za (Zi z3_9 hb);have NB166_167:=Za ((z3_40:gb166≠gb167));have NB167_166:=Za ((z3_41:gb167≠gb166));replace BK166:=Za (Zk (g:=gb166) (o:= .cells #[.slice A0_0 l0_0.length c0_0,.int .i64 a0_1,.int .i64 a0_2,.int .i64 a0_3] 64 (0,0)) z3_7 hb);clear hb hbox hg;have hnb9:=NB166_167.out;have hnc9:=NB167_166.out;have hcz10_0:w8.cell? ⟨gb166,0,none⟩=some (.slice A0_0 l0_0.length c0_0):=(Zb BK166.out 0).trans rfl;have hcz10_1:w8.cell? ⟨gb166,1,none⟩=some (.int .i64 a0_1):=(Zb BK166.out 1).trans rfl;have hcz10_2:w8.cell? ⟨gb166,2,none⟩=some (.int .i64 a0_2):=(Zb BK166.out 2).trans rfl;have hcz10_3:w8.cell? ⟨gb166,3,none⟩=some (.int .i64 a0_3):=(Zb BK166.out 3).trans rfl;have hfz10_0:=Zc BK166.out 0;have hfz10_1:=Zc BK166.out 1;have hfz10_2:=Zc BK166.out 2;have hfz10_3:=Zc BK166.out 3;have hcz11_0:w8.cell? ⟨gb167,0,none⟩=some (.slice A1_0 l1_0.length c1_0):=(Zb BK167.out 0).trans rfl;have hcz11_1:w8.cell? ⟨gb167,1,none⟩=some (.int .i64 a1_1):=(Zb BK167.out 1).trans rfl;have hcz11_2:w8.cell? ⟨gb167,2,none⟩=some (.int .i64 a1_2):=(Zb BK167.out 2).trans rfl;have hcz11_3:w8.cell? ⟨gb167,3,none⟩=some (.int .i64 a1_3):=(Zb BK167.out 3).trans rfl;have hfz11_0:=Zc BK167.out 0;have hfz11_1:=Zc BK167.out 1;have hfz11_2:=Zc BK167.out 2;have hfz11_3:=Zc BK167.out 3)|((first|((with_reducible refine gate_callee (f:=79) rfl ?_);refine goesL_ (some 9) rfl rfl Try.func79 z3_24 rfl #[.slice A0_0 l0_0.length c0_0,.slice A1_0 l1_0.length c1_0] rfl z3_1 ?_;(with_reducible refine(laws_eqStmtS.calls k _ _ l0_0 _ _ l1_0 true _ ?side1 ?side2 ?side3 ?side4 A3.out).mono ?_))|(go_at_call 79;(with_reducible refine(laws_eqStmtS.calls k _ _ l0_0 _ _ l1_0 true _ ?side1 ?side2 ?side3 ?side4 A3.out).mono ?_)));(case side1=>exact z3_8);(case side2=>exact HC0_0.out);(case side3=>exact z3_25);(case side4=>exact HC1_0.out);rintro e w12 ⟨rfl,hb⟩;(first|refine⟨_,rfl,?_⟩|skip);replace BK166:=Za (Zk (g:=gb166) (o:= .cells #[.slice A0_0 l0_0.length c0_0,.int .i64 a0_1,.int .i64 a0_2,.int .i64 a0_3] 64 (0,0)) z3_7 hb);replace BK167:=Za (Zk (g:=gb167) (o:= .cells #[.slice A1_0 l1_0.length c1_0,.int .i64 a1_1,.int .i64 a1_2,.int .i64 a1_3] 64 (0,0)) z3_18 hb);replace HB:=Za (Zi z3_11 hb);(try clear hb);(try clear hb2);(try clear hk);(try clear hi);have hcz13_0:w12.cell? ⟨gb166,0,none⟩=some (.slice A0_0 l0_0.length c0_0):=(Zb BK166.out 0).trans rfl;have hcz13_1:w12.cell? ⟨gb166,1,none⟩=some (.int .i64 a0_1):=(Zb BK166.out 1).trans rfl;have hcz13_2:w12.cell? ⟨gb166,2,none⟩=some (.int .i64 a0_2):=(Zb BK166.out 2).trans rfl;have hcz13_3:w12.cell? ⟨gb166,3,none⟩=some (.int .i64 a0_3):=(Zb BK166.out 3).trans rfl;have hfz13_0:=Zc BK166.out 0;have hfz13_1:=Zc BK166.out 1;have hfz13_2:=Zc BK166.out 2;have hfz13_3:=Zc BK166.out 3;have hcz14_0:w12.cell? ⟨gb167,0,none⟩=some (.slice A1_0 l1_0.length c1_0):=(Zb BK167.out 0).trans rfl;have hcz14_1:w12.cell? ⟨gb167,1,none⟩=some (.int .i64 a1_1):=(Zb BK167.out 1).trans rfl;have hcz14_2:w12.cell? ⟨gb167,2,none⟩=some (.int .i64 a1_2):=(Zb BK167.out 2).trans rfl;have hcz14_3:w12.cell? ⟨gb167,3,none⟩=some (.int .i64 a1_3):=(Zb BK167.out 3).trans rfl;have hfz14_0:=Zc BK167.out 0;have hfz14_1:=Zc BK167.out 1;have hfz14_2:=Zc BK167.out 2;have hfz14_3:=Zc BK167.out 3)|((first|((with_reducible refine gate_callee (f:=80) rfl ?_);refine goesL_ (some 15) rfl rfl Try.func80 z3_24 rfl #[.agg #[.int .i64 a0_1,.int .i64 a0_2,.int .i64 a0_3],.agg #[.int .i64 a1_1,.int .i64 a1_2,.int .i64 a1_3]] rfl z3_1 ?_;(with_reducible refine(laws_eqExpr.calls a0_1 a0_2 a0_3 a1_1 a1_2 a1_3 true _ A5.out).mono ?_))|(go_at_call 80;(with_reducible refine(laws_eqExpr.calls a0_1 a0_2 a0_3 a1_1 a1_2 a1_3 true _ A5.out).mono ?_)));rintro e w15 ⟨rfl,hb⟩;(first|refine⟨_,rfl,?_⟩|skip);replace BK166:=Za (Zk (g:=gb166) (o:= .cells #[.slice A0_0 l0_0.length c0_0,.int .i64 a0_1,.int .i64 a0_2,.int .i64 a0_3] 64 (0,0)) z3_7 hb);replace BK167:=Za (Zk (g:=gb167) (o:= .cells #[.slice A1_0 l1_0.length c1_0,.int .i64 a1_1,.int .i64 a1_2,.int .i64 a1_3] 64 (0,0)) z3_18 hb);replace HB:=Za (Zi z3_11 hb);(try clear hb);(try clear hb2);(try clear hk);(try clear hi)))
   go_ret
   exact⟨by first|rfl|(simp[errW_none,errW_some]<;>rfl)|(simp[*,errW_none,errW_some]<;>rfl)|(simp[*,errW_none,errW_some,i64_w];done),by repeat(first|(with_reducible first|exact HB.out|apply Zh|apply Ze|apply Zd|refine Zf ?_ GE166.out|refine Zf ?_ GE167.out)|exact HB.out)⟩
  ·replace c6:=Bool.eq_false_iff.mpr c6
   subst c6
   rw[if_neg (show ¬(false=true) by decide)] at H
   obtain rfl:=Zj H
   go_enter Try.func55,Try.ntmps55
   go_wp2_with (first|((with_reducible refine Zp (N:=2) rfl ?_);refine Zr ?hg (N:=2) ?hd (cs:= #[.slice A0_0 l0_0.length c0_0,.int .i64 a0_1,.int .i64 a0_2,.int .i64 a0_3]) (t:=64) ?hr ?_;(case hd=>rfl);(case hg=>rfl);(case hr=>exact z3_6);intro gb166 hg w16 hbox hb;have BK166:=Za (hbox);have GW166:=Za ((z3_35:w.heap.size≤gb166));have GE166:=Za ((z3_35:w.heap.size≤gb166));replace HB:=Za (Zi z3_0 hb);clear hb hbox hg)|((with_reducible refine Zp (N:=3) rfl ?_);refine Zr ?hg (N:=3) ?hd (cs:= #[.slice A1_0 l1_0.length c1_0,.int .i64 a1_1,.int .i64 a1_2,.int .i64 a1_3]) (t:=64) ?hr ?_;(case hd=>rfl);(case hg=>rfl);(case hr=>exact z3_6);intro gb167 hg w17 hbox hb;have BK167:=Za (hbox);have GW167:=Za ((by rw[hg];exact(Zw z3_9):w.heap.size≤gb167));have GE167:=Za ((by rw[hg];exact(Zw z3_9):w.heap.size≤gb167));replace HB:=Za (Zi z3_9 hb);have NB166_167:=Za ((z3_40:gb166≠gb167));have NB167_166:=Za ((z3_41:gb167≠gb166));replace BK166:=Za (Zk (g:=gb166) (o:= .cells #[.slice A0_0 l0_0.length c0_0,.int .i64 a0_1,.int .i64 a0_2,.int .i64 a0_3] 64 (0,0)) z3_7 hb);clear hb hbox hg;have hnb18:=NB166_167.out;have hnc18:=NB167_166.out;have hcz19_0:w17.cell? ⟨gb166,0,none⟩=some (.slice A0_0 l0_0.length c0_0):=(Zb BK166.out 0).trans rfl;have hcz19_1:w17.cell? ⟨gb166,1,none⟩=some (.int .i64 a0_1):=(Zb BK166.out 1).trans rfl;have hcz19_2:w17.cell? ⟨gb166,2,none⟩=some (.int .i64 a0_2):=(Zb BK166.out 2).trans rfl;have hcz19_3:w17.cell? ⟨gb166,3,none⟩=some (.int .i64 a0_3):=(Zb BK166.out 3).trans rfl;have hfz19_0:=Zc BK166.out 0;have hfz19_1:=Zc BK166.out 1;have hfz19_2:=Zc BK166.out 2;have hfz19_3:=Zc BK166.out 3;have hcz20_0:w17.cell? ⟨gb167,0,none⟩=some (.slice A1_0 l1_0.length c1_0):=(Zb BK167.out 0).trans rfl;have hcz20_1:w17.cell? ⟨gb167,1,none⟩=some (.int .i64 a1_1):=(Zb BK167.out 1).trans rfl;have hcz20_2:w17.cell? ⟨gb167,2,none⟩=some (.int .i64 a1_2):=(Zb BK167.out 2).trans rfl;have hcz20_3:w17.cell? ⟨gb167,3,none⟩=some (.int .i64 a1_3):=(Zb BK167.out 3).trans rfl;have hfz20_0:=Zc BK167.out 0;have hfz20_1:=Zc BK167.out 1;have hfz20_2:=Zc BK167.out 2;have hfz20_3:=Zc BK167.out 3)|((first|((with_reducible refine gate_callee (f:=79) rfl ?_);refine goesL_ (some 9) rfl rfl Try.func79 z3_24 rfl #[.slice A0_0 l0_0.length c0_0,.slice A1_0 l1_0.length c1_0] rfl z3_1 ?_;(with_reducible refine(laws_eqStmtS.calls k _ _ l0_0 _ _ l1_0 true _ ?side1 ?side2 ?side3 ?side4 A3.out).mono ?_))|(go_at_call 79;(with_reducible refine(laws_eqStmtS.calls k _ _ l0_0 _ _ l1_0 true _ ?side1 ?side2 ?side3 ?side4 A3.out).mono ?_)));(case side1=>exact z3_8);(case side2=>exact HC0_0.out);(case side3=>exact z3_25);(case side4=>exact HC1_0.out);rintro e w21 ⟨rfl,hb⟩;(first|refine⟨_,rfl,?_⟩|skip);replace BK166:=Za (Zk (g:=gb166) (o:= .cells #[.slice A0_0 l0_0.length c0_0,.int .i64 a0_1,.int .i64 a0_2,.int .i64 a0_3] 64 (0,0)) z3_7 hb);replace BK167:=Za (Zk (g:=gb167) (o:= .cells #[.slice A1_0 l1_0.length c1_0,.int .i64 a1_1,.int .i64 a1_2,.int .i64 a1_3] 64 (0,0)) z3_18 hb);replace HB:=Za (Zi z3_11 hb);(try clear hb);(try clear hb2);(try clear hk);(try clear hi);have hcz22_0:w21.cell? ⟨gb166,0,none⟩=some (.slice A0_0 l0_0.length c0_0):=(Zb BK166.out 0).trans rfl;have hcz22_1:w21.cell? ⟨gb166,1,none⟩=some (.int .i64 a0_1):=(Zb BK166.out 1).trans rfl;have hcz22_2:w21.cell? ⟨gb166,2,none⟩=some (.int .i64 a0_2):=(Zb BK166.out 2).trans rfl;have hcz22_3:w21.cell? ⟨gb166,3,none⟩=some (.int .i64 a0_3):=(Zb BK166.out 3).trans rfl;have hfz22_0:=Zc BK166.out 0;have hfz22_1:=Zc BK166.out 1;have hfz22_2:=Zc BK166.out 2;have hfz22_3:=Zc BK166.out 3;have hcz23_0:w21.cell? ⟨gb167,0,none⟩=some (.slice A1_0 l1_0.length c1_0):=(Zb BK167.out 0).trans rfl;have hcz23_1:w21.cell? ⟨gb167,1,none⟩=some (.int .i64 a1_1):=(Zb BK167.out 1).trans rfl;have hcz23_2:w21.cell? ⟨gb167,2,none⟩=some (.int .i64 a1_2):=(Zb BK167.out 2).trans rfl;have hcz23_3:w21.cell? ⟨gb167,3,none⟩=some (.int .i64 a1_3):=(Zb BK167.out 3).trans rfl;have hfz23_0:=Zc BK167.out 0;have hfz23_1:=Zc BK167.out 1;have hfz23_2:=Zc BK167.out 2;have hfz23_3:=Zc BK167.out 3)|((first|((with_reducible refine gate_callee (f:=80) rfl ?_);refine goesL_ (some 15) rfl rfl Try.func80 z3_24 rfl #[.agg #[.int .i64 a0_1,.int .i64 a0_2,.int .i64 a0_3],.agg #[.int .i64 a1_1,.int .i64 a1_2,.int .i64 a1_3]] rfl z3_1 ?_;(with_reducible refine(laws_eqExpr.calls a0_1 a0_2 a0_3 a1_1 a1_2 a1_3 false _ A5.out).mono ?_))|(go_at_call 80;(with_reducible refine(laws_eqExpr.calls a0_1 a0_2 a0_3 a1_1 a1_2 a1_3 false _ A5.out).mono ?_)));rintro e w24 ⟨rfl,hb⟩;(first|refine⟨_,rfl,?_⟩|skip);replace BK166:=Za (Zk (g:=gb166) (o:= .cells #[.slice A0_0 l0_0.length c0_0,.int .i64 a0_1,.int .i64 a0_2,.int .i64 a0_3] 64 (0,0)) z3_7 hb);replace BK167:=Za (Zk (g:=gb167) (o:= .cells #[.slice A1_0 l1_0.length c1_0,.int .i64 a1_1,.int .i64 a1_2,.int .i64 a1_3] 64 (0,0)) z3_18 hb);replace HB:=Za (Zi z3_11 hb);(try clear hb);(try clear hb2);(try clear hk);(try clear hi)))
   go_ret
   exact⟨by first|rfl|(simp[errW_none,errW_some]<;>rfl)|(simp[*,errW_none,errW_some]<;>rfl)|(simp[*,errW_none,errW_some,i64_w];done),by repeat(first|(with_reducible first|exact HB.out|apply Zh|apply Ze|apply Zd|refine Zf ?_ GE166.out|refine Zf ?_ GE167.out)|exact HB.out)⟩
 ·replace c4:=Bool.eq_false_iff.mpr c4
  subst c4
  rw[if_neg (show ¬(false=true) by decide)] at H
  obtain rfl:=Zj H
  go_enter Try.func55,Try.ntmps55
  go_wp2_with (first|((with_reducible refine Zp (N:=2) rfl ?_);refine Zr ?hg (N:=2) ?hd (cs:= #[.slice A0_0 l0_0.length c0_0,.int .i64 a0_1,.int .i64 a0_2,.int .i64 a0_3]) (t:=64) ?hr ?_;(case hd=>rfl);(case hg=>rfl);(case hr=>exact z3_6);intro gb166 hg w25 hbox hb;have BK166:=Za (hbox);have GW166:=Za ((z3_35:w.heap.size≤gb166));have GE166:=Za ((z3_35:w.heap.size≤gb166));replace HB:=Za (Zi z3_0 hb);clear hb hbox hg)|((with_reducible refine Zp (N:=3) rfl ?_);refine Zr ?hg (N:=3) ?hd (cs:= #[.slice A1_0 l1_0.length c1_0,.int .i64 a1_1,.int .i64 a1_2,.int .i64 a1_3]) (t:=64) ?hr ?_;(case hd=>rfl);(case hg=>rfl);(case hr=>exact z3_6);intro gb167 hg w26 hbox hb;have BK167:=Za (hbox);have GW167:=Za ((by rw[hg];exact(Zw z3_9):w.heap.size≤gb167));have GE167:=Za ((by rw[hg];exact(Zw z3_9):w.heap.size≤gb167));replace HB:=Za (Zi z3_9 hb);have NB166_167:=Za ((z3_40:gb166≠gb167));have NB167_166:=Za ((z3_41:gb167≠gb166));replace BK166:=Za (Zk (g:=gb166) (o:= .cells #[.slice A0_0 l0_0.length c0_0,.int .i64 a0_1,.int .i64 a0_2,.int .i64 a0_3] 64 (0,0)) z3_7 hb);clear hb hbox hg;have hnb27:=NB166_167.out;have hnc27:=NB167_166.out;have hcz28_0:w26.cell? ⟨gb166,0,none⟩=some (.slice A0_0 l0_0.length c0_0):=(Zb BK166.out 0).trans rfl;have hcz28_1:w26.cell? ⟨gb166,1,none⟩=some (.int .i64 a0_1):=(Zb BK166.out 1).trans rfl;have hcz28_2:w26.cell? ⟨gb166,2,none⟩=some (.int .i64 a0_2):=(Zb BK166.out 2).trans rfl;have hcz28_3:w26.cell? ⟨gb166,3,none⟩=some (.int .i64 a0_3):=(Zb BK166.out 3).trans rfl;have hfz28_0:=Zc BK166.out 0;have hfz28_1:=Zc BK166.out 1;have hfz28_2:=Zc BK166.out 2;have hfz28_3:=Zc BK166.out 3;have hcz29_0:w26.cell? ⟨gb167,0,none⟩=some (.slice A1_0 l1_0.length c1_0):=(Zb BK167.out 0).trans rfl;have hcz29_1:w26.cell? ⟨gb167,1,none⟩=some (.int .i64 a1_1):=(Zb BK167.out 1).trans rfl;have hcz29_2:w26.cell? ⟨gb167,2,none⟩=some (.int .i64 a1_2):=(Zb BK167.out 2).trans rfl;have hcz29_3:w26.cell? ⟨gb167,3,none⟩=some (.int .i64 a1_3):=(Zb BK167.out 3).trans rfl;have hfz29_0:=Zc BK167.out 0;have hfz29_1:=Zc BK167.out 1;have hfz29_2:=Zc BK167.out 2;have hfz29_3:=Zc BK167.out 3)|((first|((with_reducible refine gate_callee (f:=79) rfl ?_);refine goesL_ (some 9) rfl rfl Try.func79 z3_24 rfl #[.slice A0_0 l0_0.length c0_0,.slice A1_0 l1_0.length c1_0] rfl z3_1 ?_;(with_reducible refine(laws_eqStmtS.calls k _ _ l0_0 _ _ l1_0 false _ ?side1 ?side2 ?side3 ?side4 A3.out).mono ?_))|(go_at_call 79;(with_reducible refine(laws_eqStmtS.calls k _ _ l0_0 _ _ l1_0 false _ ?side1 ?side2 ?side3 ?side4 A3.out).mono ?_)));(case side1=>exact z3_8);(case side2=>exact HC0_0.out);(case side3=>exact z3_25);(case side4=>exact HC1_0.out);rintro e w30 ⟨rfl,hb⟩;(first|refine⟨_,rfl,?_⟩|skip);replace BK166:=Za (Zk (g:=gb166) (o:= .cells #[.slice A0_0 l0_0.length c0_0,.int .i64 a0_1,.int .i64 a0_2,.int .i64 a0_3] 64 (0,0)) z3_7 hb);replace BK167:=Za (Zk (g:=gb167) (o:= .cells #[.slice A1_0 l1_0.length c1_0,.int .i64 a1_1,.int .i64 a1_2,.int .i64 a1_3] 64 (0,0)) z3_18 hb);replace HB:=Za (Zi z3_11 hb);(try clear hb);(try clear hb2);(try clear hk);(try clear hi)))
  go_ret
  exact⟨by first|rfl|(simp[errW_none,errW_some]<;>rfl)|(simp[*,errW_none,errW_some]<;>rfl)|(simp[*,errW_none,errW_some,i64_w];done),by repeat(first|(with_reducible first|exact HB.out|apply Zh|apply Ze|apply Zd|refine Zf ?_ GE166.out|refine Zf ?_ GE167.out)|exact HB.out)⟩
end Go.Proofs.Ytlolppaddphpoaa.G
