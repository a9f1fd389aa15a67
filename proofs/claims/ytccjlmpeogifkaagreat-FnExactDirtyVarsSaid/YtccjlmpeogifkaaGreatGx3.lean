/- Functions of the program as plain Lean functions, and that each call comes to its function's answer; written by a program of the session. No condition. -/
import Derived.Test.YtccjlmpeogifkaaGreatGx0
namespace Go.Proofs.YtccjlmpeogifkaaGreat.G
open Go.RowKit Go.Proofs.YtccjlmpeogifkaaGreatW.PrintWords Go.Proofs.YtccjlmpeogifkaaGreatW.PrintLast Go.Proofs.YtccjlmpeogifkaaGreatW.PrintMore
attribute [local go_sem] max2_int min2_int max_two min_two max_three min_three max_four min_four   -- for this text's walks alone
set_option linter.unusedVariables false
set_option linter.unusedSimpArgs false
theorem z3_0 {P:Prop} (h:P:=by repeat(first|(with_reducible first|exact HB.out|apply Zh|apply Ze|apply Zd)|exact HB.out)):P:=h
theorem z3_1 {P:Prop} (h:P:=by rw[hw];exact(by(with_reducible repeat(first|refine blk_drewN ?_ _|refine blk_drew ?_|refine blk_alloc ?_ _));refine blk_put (cs:= #[.int .i64 a0_0,.int .i64 0,.int .i64 0,.int .i64 0,.int .i64 0,.int .i64 0]) ?_ 5 _ rfl;(with_reducible repeat(first|refine blk_drewN ?_ _|refine blk_drew ?_|refine blk_alloc ?_ _));refine blk_put (cs:= #[.int .i64 a0_0,.int .i64 0,.int .i64 0,.int .i64 0,.int .i64 0,.int .i64 0]) ?_ 4 _ rfl;(with_reducible repeat(first|refine blk_drewN ?_ _|refine blk_drew ?_|refine blk_alloc ?_ _));refine blk_put (cs:= #[.int .i64 a0_0,.int .i64 0,.int .i64 0,.int .i64 0,.int .i64 0,.int .i64 0]) ?_ 3 _ rfl;(with_reducible repeat(first|refine blk_drewN ?_ _|refine blk_drew ?_|refine blk_alloc ?_ _));refine blk_put (cs:= #[.int .i64 a0_0,.int .i64 0,.int .i64 0,.int .i64 0,.int .i64 0,.int .i64 0]) ?_ 2 _ rfl;(with_reducible repeat(first|refine blk_drewN ?_ _|refine blk_drew ?_|refine blk_alloc ?_ _));refine blk_put (cs:= #[.int .i64 a0_0,.int .i64 0,.int .i64 0,.int .i64 0,.int .i64 0,.int .i64 0]) ?_ 1 _ rfl;(with_reducible repeat(first|refine blk_drewN ?_ _|refine blk_drew ?_|refine blk_alloc ?_ _));refine blk_put (cs:= #[.int .i64 0,.int .i64 0,.int .i64 0,.int .i64 0,.int .i64 0,.int .i64 0]) ?_ 0 _ rfl;(with_reducible repeat(first|refine blk_drewN ?_ _|refine blk_drew ?_|refine blk_alloc ?_ _));exact BK118.out)):P:=h
theorem z3_2 {P:Prop} (h:P:=by(try simp only[Ys,Yt,List.map_nil]);first|done|rfl|(simp only[List.length_drop,List.length_take];rfl)):P:=h
theorem z3_3 {P:Prop} (h:P:=by rw[hw];exact(by repeat(first|(with_reducible first|exact HB.out|apply Zh|apply Ze|apply Zd|refine Zg ?_ GE116.out|refine Zg ?_ GE117.out|refine Zg ?_ GE118.out)|exact HB.out))):P:=h
theorem z3_4 {P:Prop} (h:P:=by(with_reducible repeat(first|refine blk_drewN ?_ _|refine blk_drew ?_|refine blk_alloc ?_ _));exact BK116.out):P:=h
theorem z3_5 {P:Prop} (h:P:=by rw[hw];exact(by(with_reducible repeat(first|refine blk_drewN ?_ _|refine blk_drew ?_|refine blk_alloc ?_ _));refine blk_far ?_ NB117_118.out _;(with_reducible repeat(first|refine blk_drewN ?_ _|refine blk_drew ?_|refine blk_alloc ?_ _));refine blk_far ?_ NB117_118.out _;(with_reducible repeat(first|refine blk_drewN ?_ _|refine blk_drew ?_|refine blk_alloc ?_ _));refine blk_far ?_ NB117_118.out _;(with_reducible repeat(first|refine blk_drewN ?_ _|refine blk_drew ?_|refine blk_alloc ?_ _));refine blk_far ?_ NB117_118.out _;(with_reducible repeat(first|refine blk_drewN ?_ _|refine blk_drew ?_|refine blk_alloc ?_ _));refine blk_far ?_ NB117_118.out _;(with_reducible repeat(first|refine blk_drewN ?_ _|refine blk_drew ?_|refine blk_alloc ?_ _));refine blk_far ?_ NB117_118.out _;(with_reducible repeat(first|refine blk_drewN ?_ _|refine blk_drew ?_|refine blk_alloc ?_ _));exact BK117.out)):P:=h
theorem z3_6 {P:Prop} (h:P:=by rw[hw];exact(by(with_reducible repeat(first|refine blk_drewN ?_ _|refine blk_drew ?_|refine blk_alloc ?_ _));refine blk_far ?_ NB116_118.out _;(with_reducible repeat(first|refine blk_drewN ?_ _|refine blk_drew ?_|refine blk_alloc ?_ _));refine blk_far ?_ NB116_118.out _;(with_reducible repeat(first|refine blk_drewN ?_ _|refine blk_drew ?_|refine blk_alloc ?_ _));refine blk_far ?_ NB116_118.out _;(with_reducible repeat(first|refine blk_drewN ?_ _|refine blk_drew ?_|refine blk_alloc ?_ _));refine blk_far ?_ NB116_118.out _;(with_reducible repeat(first|refine blk_drewN ?_ _|refine blk_drew ?_|refine blk_alloc ?_ _));refine blk_far ?_ NB116_118.out _;(with_reducible repeat(first|refine blk_drewN ?_ _|refine blk_drew ?_|refine blk_alloc ?_ _));refine blk_far ?_ NB116_118.out _;(with_reducible repeat(first|refine blk_drewN ?_ _|refine blk_drew ?_|refine blk_alloc ?_ _));exact BK116.out)):P:=h
theorem z3_7 {P:Prop} (h:P:=by repeat(first|(with_reducible first|exact HB.out|apply Zh|apply Ze|apply Zd|refine Zg ?_ GE116.out|refine Zg ?_ GE117.out)|exact HB.out)):P:=h
theorem z3_8 {P:Prop} (h:P:=by(with_reducible repeat(first|refine blk_drewN ?_ _|refine blk_drew ?_|refine blk_alloc ?_ _));exact BK117.out):P:=h
theorem z3_9 {P:Prop} (h:P:=by repeat(first|(with_reducible first|exact HB.out|apply Zh|apply Ze|apply Zd|refine Zg ?_ GE116.out)|exact HB.out)):P:=h
theorem z3_10 {P:Prop} (h:P:=by rw[hw];exact(by(with_reducible repeat(first|refine blk_drewN ?_ _|refine blk_drew ?_|refine blk_alloc ?_ _));refine blk_far ?_ NB118_117.out _;(with_reducible repeat(first|refine blk_drewN ?_ _|refine blk_drew ?_|refine blk_alloc ?_ _));refine blk_far ?_ NB118_117.out _;(with_reducible repeat(first|refine blk_drewN ?_ _|refine blk_drew ?_|refine blk_alloc ?_ _));refine blk_far ?_ NB118_117.out _;(with_reducible repeat(first|refine blk_drewN ?_ _|refine blk_drew ?_|refine blk_alloc ?_ _));refine blk_far ?_ NB118_117.out _;(with_reducible repeat(first|refine blk_drewN ?_ _|refine blk_drew ?_|refine blk_alloc ?_ _));refine blk_far ?_ NB118_117.out _;(with_reducible repeat(first|refine blk_drewN ?_ _|refine blk_drew ?_|refine blk_alloc ?_ _));refine blk_far ?_ NB118_117.out _;(with_reducible repeat(first|refine blk_drewN ?_ _|refine blk_drew ?_|refine blk_alloc ?_ _));exact BK118.out)):P:=h
theorem z3_11 {P:Prop} (h:P:=by rw[hw];exact(by(with_reducible repeat(first|refine blk_drewN ?_ _|refine blk_drew ?_|refine blk_alloc ?_ _));refine blk_far ?_ NB116_117.out _;(with_reducible repeat(first|refine blk_drewN ?_ _|refine blk_drew ?_|refine blk_alloc ?_ _));refine blk_far ?_ NB116_117.out _;(with_reducible repeat(first|refine blk_drewN ?_ _|refine blk_drew ?_|refine blk_alloc ?_ _));refine blk_far ?_ NB116_117.out _;(with_reducible repeat(first|refine blk_drewN ?_ _|refine blk_drew ?_|refine blk_alloc ?_ _));refine blk_far ?_ NB116_117.out _;(with_reducible repeat(first|refine blk_drewN ?_ _|refine blk_drew ?_|refine blk_alloc ?_ _));refine blk_far ?_ NB116_117.out _;(with_reducible repeat(first|refine blk_drewN ?_ _|refine blk_drew ?_|refine blk_alloc ?_ _));refine blk_far ?_ NB116_117.out _;(with_reducible repeat(first|refine blk_drewN ?_ _|refine blk_drew ?_|refine blk_alloc ?_ _));exact BK116.out)):P:=h
theorem z3_12 {P:Prop} (h:P:=by first|(go_simp;done)|(go_simp;rfl)):P:=h
theorem z3_13 {P:Prop} (h:P:=by repeat(first|exact(Yj HR0_0.out HB.out)|(with_reducible refine Yh ?_ _)|(with_reducible refine Ye ?_ _)|(with_reducible refine Yi ?_))):P:=h
theorem z3_14 {P:Prop} (h:P:=by first|rfl|(simp;done)|(simp[*];done)):P:=h
theorem z3_15 {P:Prop} (h:P:=by rw[hg];exact Nat.ne_of_lt (blk_lt (g:=gb116) (o:= .cells #[.int .i64 a0_0,.int .i64 a0_1,.int .i64 a0_2,.int .i64 a0_3,.int .i64 a0_4,.int .i64 a0_5] 77 (0,0)) z3_4)):P:=h
theorem z3_16 {P:Prop} (h:P:=by rw[hg];exact Nat.ne_of_gt (blk_lt (g:=gb116) (o:= .cells #[.int .i64 a0_0,.int .i64 a0_1,.int .i64 a0_2,.int .i64 a0_3,.int .i64 a0_4,.int .i64 a0_5] 77 (0,0)) z3_4)):P:=h
theorem z3_17 {P:Prop} (h:P:=by rw[hg];exact(Zt z3_0)):P:=h
theorem z3_18 {P:Prop} (h:P:=by rw[hg];exact Nat.ne_of_lt (blk_lt (g:=gb117) (o:= .cells #[.int .i64 0,.int .i64 0,.int .i64 0,.int .i64 0,.int .i64 0,.int .i64 0] 77 (0,0)) z3_8)):P:=h
theorem z3_19 {P:Prop} (h:P:=by rw[hg];exact Nat.ne_of_gt (blk_lt (g:=gb117) (o:= .cells #[.int .i64 0,.int .i64 0,.int .i64 0,.int .i64 0,.int .i64 0,.int .i64 0] 77 (0,0)) z3_8)):P:=h
def laws_szStmtS.f (l0:List (S112)) (a1:Int):Option (Int):=if (wrap64 (a1 - (l0.length:Int)))<0 then (some (-1)) else (some (wrap64 (a1 - (l0.length:Int))))
set_option maxHeartbeats 8000000 in
set_option maxRecDepth 100000 in
theorem laws_szStmtS.calls (A0:Option Addr) (c0:Nat) (l0:List (S112)) (a1:Int) (r:Int) (w:World) (hr0:Kd.C k112 w A0 l0.length l0) (hc0:l0.length≤c0) (h:laws_szStmtS.f l0 a1=some r):
  Calls Tryz.prog 79 #[.slice A0 l0.length c0,.int .i64 a1] w fun e w'=>e= .returned (.int .i64 r)∧Drawn0 w w':=by
 have HR0:=Za hr0
 have HC0:=Za hc0
 clear hr0 hc0
 have H:(if (wrap64 (a1 - (l0.length:Int)))<0 then (some (-1)) else (some (wrap64 (a1 - (l0.length:Int)))))=some r:=h
 clear h
 by_cases c3:(wrap64 (a1 - (l0.length:Int)))<0
 ·rw[if_pos c3] at H
  have c3b0:decide ((wrap64 (a1 - (l0.length:Int)))<0)=true:=Zq c3
  clear c3
  obtain rfl:=Zm H
  go_enter Tryz.func79,Tryz.ntmps79
  go_wp2
  go_ret
  exact⟨by first|rfl|(simp;done)|(simp[*];done),by repeat(first|exact Zz _|apply Ya)⟩
 ·rw[if_neg c3] at H
  have c3b0:decide ((wrap64 (a1 - (l0.length:Int)))<0)=false:=Yg c3
  clear c3
  obtain rfl:=Zm H
  go_enter Tryz.func79,Tryz.ntmps79
  go_wp2
  go_ret
  exact⟨by first|rfl|(simp;done)|(simp[*];done),by repeat(first|exact Zz _|apply Ya)⟩
def laws_szTask.f (l0_0:List (S112)) (a0_1:Int) (a0_2:Int) (a0_3:Int) (a1:Int):Option (Int):=(laws_szStmtS.f l0_0 a1).bind fun t102=>(if t102<0 then (some (-1)) else (some t102))
set_option maxHeartbeats 8000000 in
set_option maxRecDepth 100000 in
theorem laws_szTask.calls (A0_0:Option Addr) (c0_0:Nat) (l0_0:List (S112)) (a0_1:Int) (a0_2:Int) (a0_3:Int) (a1:Int) (r:Int) (w:World) (hr0_0:Kd.C k112 w A0_0 l0_0.length l0_0) (hc0_0:l0_0.length≤c0_0) (h:laws_szTask.f l0_0 a0_1 a0_2 a0_3 a1=some r):
  Calls Tryz.prog 44 #[.agg #[.slice A0_0 l0_0.length c0_0,.int .i64 a0_1,.int .i64 a0_2,.int .i64 a0_3],.int .i64 a1] w fun e w'=>e= .returned (.int .i64 r)∧Below w.heap.size w w':=by
 have hu68:=Tryz.underlying68
 have HR0_0:=Za hr0_0
 have HC0_0:=Za hc0_0
 clear hr0_0 hc0_0
 have HB:=Za (Yc w.heap.size w)
 have H:((laws_szStmtS.f l0_0 a1).bind fun t102=>(if t102<0 then (some (-1)) else (some t102)))=some r:=h
 clear h
 replace H:=Zl H
 obtain⟨t102,A30,H⟩:=H
 replace H:(if t102<0 then (some (-1)) else (some t102))=some r:=H
 have A3:=Za A30
 clear A30
 by_cases c4:t102<0
 ·rw[if_pos c4] at H
  have c4b0:decide (t102<0)=true:=Zq c4
  clear c4
  obtain rfl:=Zm H
  go_enter Tryz.func44,Tryz.ntmps44
  go_wp2_with (first|((with_reducible refine Zr (N:=2) rfl ?_);refine Zs ?hg (N:=2) ?hd (cs:= #[.slice A0_0 l0_0.length c0_0,.int .i64 a0_1,.int .i64 a0_2,.int .i64 a0_3]) (t:=68) ?hr ?_;(case hd=>rfl);(case hg=>rfl);(case hr=>exact z3_12);intro gb101 hg w5 hbox hb;have BK101:=Za (hbox);have GW101:=Za ((z3_17:w.heap.size≤gb101));have GE101:=Za ((z3_17:w.heap.size≤gb101));replace HB:=Za (Zi z3_0 hb);clear hb hbox hg;have hcz6_0:w5.cell? ⟨gb101,0,none⟩=some (.slice A0_0 l0_0.length c0_0):=(Zb BK101.out 0).trans rfl;have hcz6_1:w5.cell? ⟨gb101,1,none⟩=some (.int .i64 a0_1):=(Zb BK101.out 1).trans rfl;have hcz6_2:w5.cell? ⟨gb101,2,none⟩=some (.int .i64 a0_2):=(Zb BK101.out 2).trans rfl;have hcz6_3:w5.cell? ⟨gb101,3,none⟩=some (.int .i64 a0_3):=(Zb BK101.out 3).trans rfl;have hfz6_0:=Zc BK101.out 0;have hfz6_1:=Zc BK101.out 1;have hfz6_2:=Zc BK101.out 2;have hfz6_3:=Zc BK101.out 3)|((first|((with_reducible refine gate_callee (f:=79) rfl ?_);refine goesL_ (some 8) rfl rfl Tryz.func79 (by kernel_rfl) rfl #[.slice A0_0 l0_0.length c0_0,.int .i64 a1] rfl z3_2 ?_;(with_reducible refine(laws_szStmtS.calls _ _ l0_0 a1 t102 _ ?side1 ?side2 A3.out).mono ?_))|(go_at_call 79;(with_reducible refine(laws_szStmtS.calls _ _ l0_0 a1 t102 _ ?side1 ?side2 A3.out).mono ?_)));(case side1=>exact z3_13);(case side2=>exact HC0_0.out);rintro e w' ⟨rfl,⟨nd,rfl⟩⟩;(first|refine⟨_,rfl,?_⟩|skip)))
  go_ret
  exact⟨by first|rfl|(simp[errW_none,errW_some]<;>rfl)|(simp[*,errW_none,errW_some]<;>rfl)|(simp[*,errW_none,errW_some,i64_w];done),by repeat(first|(with_reducible first|exact HB.out|apply Zh|apply Ze|apply Zd|refine Zg ?_ GE101.out)|exact HB.out)⟩
 ·rw[if_neg c4] at H
  have c4b0:decide (t102<0)=false:=Yg c4
  clear c4
  obtain rfl:=Zm H
  go_enter Tryz.func44,Tryz.ntmps44
  go_wp2_with (first|((with_reducible refine Zr (N:=2) rfl ?_);refine Zs ?hg (N:=2) ?hd (cs:= #[.slice A0_0 l0_0.length c0_0,.int .i64 a0_1,.int .i64 a0_2,.int .i64 a0_3]) (t:=68) ?hr ?_;(case hd=>rfl);(case hg=>rfl);(case hr=>exact z3_12);intro gb101 hg w7 hbox hb;have BK101:=Za (hbox);have GW101:=Za ((z3_17:w.heap.size≤gb101));have GE101:=Za ((z3_17:w.heap.size≤gb101));replace HB:=Za (Zi z3_0 hb);clear hb hbox hg;have hcz8_0:w7.cell? ⟨gb101,0,none⟩=some (.slice A0_0 l0_0.length c0_0):=(Zb BK101.out 0).trans rfl;have hcz8_1:w7.cell? ⟨gb101,1,none⟩=some (.int .i64 a0_1):=(Zb BK101.out 1).trans rfl;have hcz8_2:w7.cell? ⟨gb101,2,none⟩=some (.int .i64 a0_2):=(Zb BK101.out 2).trans rfl;have hcz8_3:w7.cell? ⟨gb101,3,none⟩=some (.int .i64 a0_3):=(Zb BK101.out 3).trans rfl;have hfz8_0:=Zc BK101.out 0;have hfz8_1:=Zc BK101.out 1;have hfz8_2:=Zc BK101.out 2;have hfz8_3:=Zc BK101.out 3)|((first|((with_reducible refine gate_callee (f:=79) rfl ?_);refine goesL_ (some 8) rfl rfl Tryz.func79 (by kernel_rfl) rfl #[.slice A0_0 l0_0.length c0_0,.int .i64 a1] rfl z3_2 ?_;(with_reducible refine(laws_szStmtS.calls _ _ l0_0 a1 t102 _ ?side1 ?side2 A3.out).mono ?_))|(go_at_call 79;(with_reducible refine(laws_szStmtS.calls _ _ l0_0 a1 t102 _ ?side1 ?side2 A3.out).mono ?_)));(case side1=>exact z3_13);(case side2=>exact HC0_0.out);rintro e w' ⟨rfl,⟨nd,rfl⟩⟩;(first|refine⟨_,rfl,?_⟩|skip)))
  go_ret
  exact⟨by first|rfl|(simp[errW_none,errW_some]<;>rfl)|(simp[*,errW_none,errW_some]<;>rfl)|(simp[*,errW_none,errW_some,i64_w];done),by repeat(first|(with_reducible first|exact HB.out|apply Zh|apply Ze|apply Zd|refine Zg ?_ GE101.out)|exact HB.out)⟩
def laws_szTaskS.l0:Nat→List (S68)→Int→Int→Option (Int)
 |0,_,_,_=>none
 |k+1,x0,x1,x5=>if x5<(x0.length:Int) then (if 0≤x5 then ((laws_szTask.f ((rd_T68 x0 x5).f0) ((rd_T68 x0 x5).f1.f0) ((rd_T68 x0 x5).f1.f1) ((rd_T68 x0 x5).f1.f2) x1).bind fun t104=>(if t104<0 then (some (-1)) else (laws_szTaskS.l0 k x0 t104 (wrap64 (x5+1))))) else (none)) else (some x1)
def laws_szTaskS.f (k:Nat) (l0:List (S68)) (a1:Int):Option (Int):=if (wrap64 (a1 - (l0.length:Int)))<0 then (some (-1)) else (laws_szTaskS.l0 k l0 (wrap64 (a1 - (l0.length:Int))) 0)
theorem laws_szTaskS.mono_l:∀k,(∀y0 y1 y2,LeO (laws_szTaskS.l0 k y0 y1 y2) (laws_szTaskS.l0 (k+1) y0 y1 y2))
 |0=>fun _ _ _ r h=>by simp[laws_szTaskS.l0] at h
 |k+1=>by
  have ih0:=laws_szTaskS.mono_l k
  ·intro y0 y1 y2
   unfold laws_szTaskS.l0
   repeat' first
   |(with_reducible exact ih0 _ _ _)
   |(with_reducible exact Yn _)
   |(with_reducible exact Yb _)
   |(with_reducible refine Zx ?_ ?_)
   |(with_reducible refine Zy ?_ (fun _=> ?_))
   |exact ih0 _ _ _
   |exact Yb _
   |refine Zx ?_ ?_
   |refine Zy ?_ (fun _=> ?_)
theorem laws_szTaskS.mono:∀a0 a1 k,LeO (laws_szTaskS.f k a0 a1) (laws_szTaskS.f (k+1) a0 a1):=by
 intro a0 a1 k
 have ih0:=laws_szTaskS.mono_l k
 unfold laws_szTaskS.f
 repeat' first
   |(with_reducible exact ih0 _ _ _)
   |(with_reducible exact Yn _)
   |(with_reducible exact Yb _)
   |(with_reducible refine Zx ?_ ?_)
   |(with_reducible refine Zy ?_ (fun _=> ?_))
   |exact ih0 _ _ _
   |exact Yb _
   |refine Zx ?_ ?_
   |refine Zy ?_ (fun _=> ?_)
set_option maxHeartbeats 8000000 in
set_option maxRecDepth 100000 in
theorem laws_szTaskS.calls (k:Nat) (A0:Option Addr) (c0:Nat) (l0:List (S68)) (a1:Int) (r:Int) (w:World) (hr0:Kd.C k68 w A0 l0.length l0) (hc0:l0.length≤c0) (h:laws_szTaskS.f k l0 a1=some r):
  Calls Tryz.prog 20 #[.slice A0 l0.length c0,.int .i64 a1] w fun e w'=>e= .returned (.int .i64 r)∧Below w.heap.size w w':=by
 have hu68:=Tryz.underlying68
 have HR0:=Za hr0
 have HC0:=Za hc0
 clear hr0 hc0
 have HB:=Za (Yc w.heap.size w)
 have H:(if (wrap64 (a1 - (l0.length:Int)))<0 then (some (-1)) else (laws_szTaskS.l0 k l0 (wrap64 (a1 - (l0.length:Int))) 0))=some r:=h
 clear h
 by_cases c3:(wrap64 (a1 - (l0.length:Int)))<0
 ·rw[if_pos c3] at H
  have c3b0:decide ((wrap64 (a1 - (l0.length:Int)))<0)=true:=Zq c3
  clear c3
  obtain rfl:=Zm H
  go_enter Tryz.func20,Tryz.ntmps20
  go_wp2
  go_ret
  exact⟨by first|rfl|(simp[errW_none,errW_some]<;>rfl)|(simp[*,errW_none,errW_some]<;>rfl)|(simp[*,errW_none,errW_some,i64_w];done),by repeat(first|(with_reducible first|exact HB.out|apply Zh|apply Ze|apply Zd)|exact HB.out)⟩
 ·rw[if_neg c3] at H
  have c3b0:decide ((wrap64 (a1 - (l0.length:Int)))<0)=false:=Yg c3
  clear c3
  have H':=Za H
  clear H
  go_enter Tryz.func20,Tryz.ntmps20
  go_wp2
  go_loopg [1,5] k (fun kq v1 v5 w'=>∃(x1_1:Int) (x5_1:Int),v1= .int .i64 x1_1∧v5= .int .i64 x5_1∧Aside0 (laws_szTaskS.l0 kq l0 x1_1 x5_1=some r)∧Aside0 (kq≤k)∧Aside0 (Below w.heap.size w w'))
  case atStart=>exact⟨(wrap64 (a1 - (l0.length:Int))),(0),z3_14,z3_14,H',⟨Nat.le_refl _⟩,⟨by repeat(first|(with_reducible first|exact HB.out|apply Zh|apply Ze|apply Zd)|exact HB.out)⟩⟩
  case round=>
   clear H'
   (try clear c3);(try clear c3b0)
   obtain⟨x1_1,x5_1,rfl,rfl,HA,HK1,HB⟩:=hrel
   cases gk with
   |zero=>exact absurd HA.out (by simp[laws_szTaskS.l0])
   |succ k1=>
    have H:=HA.out
    clear HA
    simp only[laws_szTaskS.l0] at H
    by_cases c4:x5_1<(l0.length:Int)
    ·rw[if_pos c4] at H
     have c4b0:decide (x5_1<(l0.length:Int))=true:=Zq c4
     clear c4
     by_cases c5:0≤x5_1
     ·rw[if_pos c5] at H
      have c5b0:decide (0≤x5_1)=true:=Zq c5
      clear c5
      replace H:=Zl H
      obtain⟨t104,A60,H⟩:=H
      replace H:(if t104<0 then (some (-1)) else (laws_szTaskS.l0 k1 l0 t104 (wrap64 (x5_1+1))))=some r:=H
      have A6:=Za A60
      clear A60
      by_cases c7:t104<0
      ·rw[if_pos c7] at H
       have c7b0:decide (t104<0)=true:=Zq c7
       clear c7
       obtain rfl:=Zm H
       have p103:0≤(x5_1:Int):=Zj (by first|(with_reducible assumption)|assumption)
       have q103:x5_1<(l0.length:Int):=Zj (by first|(with_reducible assumption)|assumption)
       obtain⟨ad103,A103_0,c103_0,e103,hx103_0,hx103_1,hx103_2,hx103_3,hl103_0,hi103_0⟩:=at_T68 HR0.out x5_1 p103 q103
       cases e103
       replace hx103_0:=(HB.out.cell (Zf w _ hx103_0)).trans hx103_0
       replace hx103_1:=(HB.out.cell (Zf w _ hx103_1)).trans hx103_1
       replace hx103_2:=(HB.out.cell (Zf w _ hx103_2)).trans hx103_2
       replace hx103_3:=(HB.out.cell (Zf w _ hx103_3)).trans hx103_3
       have HR103_0:=Za hi103_0
       have HC103_0:=Za hl103_0
       clear hi103_0 hl103_0
       replace p103:=eq_true p103
       replace q103:=eq_true q103
       go_wp2_with (first|((first|((with_reducible refine gate_callee (f:=44) rfl ?_);refine goesL_ (some 23) rfl rfl Tryz.func44 (by kernel_rfl) rfl #[.agg #[.slice A103_0 ((rd_T68 l0 x5_1).f0).length c103_0,.int .i64 ((rd_T68 l0 x5_1).f1.f0),.int .i64 ((rd_T68 l0 x5_1).f1.f1),.int .i64 ((rd_T68 l0 x5_1).f1.f2)],.int .i64 x1_1] rfl z3_2 ?_;(with_reducible refine(laws_szTask.calls _ _ ((rd_T68 l0 x5_1).f0) ((rd_T68 l0 x5_1).f1.f0) ((rd_T68 l0 x5_1).f1.f1) ((rd_T68 l0 x5_1).f1.f2) x1_1 t104 _ ?side1 ?side2 A6.out).mono ?_))|(go_at_call 44;(with_reducible refine(laws_szTask.calls _ _ ((rd_T68 l0 x5_1).f0) ((rd_T68 l0 x5_1).f1.f0) ((rd_T68 l0 x5_1).f1.f1) ((rd_T68 l0 x5_1).f1.f2) x1_1 t104 _ ?side1 ?side2 A6.out).mono ?_)));(case side1=>repeat(first|exact(Yj HR103_0.out HB.out)|(with_reducible refine Yh ?_ _)|(with_reducible refine Ye ?_ _)|(with_reducible refine Yi ?_)));(case side2=>exact HC103_0.out);rintro e w8 ⟨rfl,hb⟩;(first|refine⟨_,rfl,?_⟩|skip);replace HB:=Za (Zi z3_0 hb);(try clear hb);(try clear hb2);(try clear hk);(try clear hi)))
       go_ret
       exact⟨by first|rfl|(simp[errW_none,errW_some]<;>rfl)|(simp[*,errW_none,errW_some]<;>rfl)|(simp[*,errW_none,errW_some,i64_w];done),by repeat(first|(with_reducible first|exact HB.out|apply Zh|apply Ze|apply Zd)|exact HB.out)⟩
      ·rw[if_neg c7] at H
       have c7b0:decide (t104<0)=false:=Yg c7
       clear c7
       have H':=Za H
       clear H
       have p103:0≤(x5_1:Int):=Zj (by first|(with_reducible assumption)|assumption)
       have q103:x5_1<(l0.length:Int):=Zj (by first|(with_reducible assumption)|assumption)
       obtain⟨ad103,A103_0,c103_0,e103,hx103_0,hx103_1,hx103_2,hx103_3,hl103_0,hi103_0⟩:=at_T68 HR0.out x5_1 p103 q103
       cases e103
       replace hx103_0:=(HB.out.cell (Zf w _ hx103_0)).trans hx103_0
       replace hx103_1:=(HB.out.cell (Zf w _ hx103_1)).trans hx103_1
       replace hx103_2:=(HB.out.cell (Zf w _ hx103_2)).trans hx103_2
       replace hx103_3:=(HB.out.cell (Zf w _ hx103_3)).trans hx103_3
       have HR103_0:=Za hi103_0
       have HC103_0:=Za hl103_0
       clear hi103_0 hl103_0
       replace p103:=eq_true p103
       replace q103:=eq_true q103
       go_wp2_with (first|((first|((with_reducible refine gate_callee (f:=44) rfl ?_);refine goesL_ (some 23) rfl rfl Tryz.func44 (by kernel_rfl) rfl #[.agg #[.slice A103_0 ((rd_T68 l0 x5_1).f0).length c103_0,.int .i64 ((rd_T68 l0 x5_1).f1.f0),.int .i64 ((rd_T68 l0 x5_1).f1.f1),.int .i64 ((rd_T68 l0 x5_1).f1.f2)],.int .i64 x1_1] rfl z3_2 ?_;(with_reducible refine(laws_szTask.calls _ _ ((rd_T68 l0 x5_1).f0) ((rd_T68 l0 x5_1).f1.f0) ((rd_T68 l0 x5_1).f1.f1) ((rd_T68 l0 x5_1).f1.f2) x1_1 t104 _ ?side1 ?side2 A6.out).mono ?_))|(go_at_call 44;(with_reducible refine(laws_szTask.calls _ _ ((rd_T68 l0 x5_1).f0) ((rd_T68 l0 x5_1).f1.f0) ((rd_T68 l0 x5_1).f1.f1) ((rd_T68 l0 x5_1).f1.f2) x1_1 t104 _ ?side1 ?side2 A6.out).mono ?_)));(case side1=>repeat(first|exact(Yj HR103_0.out HB.out)|(with_reducible refine Yh ?_ _)|(with_reducible refine Ye ?_ _)|(with_reducible refine Yi ?_)));(case side2=>exact HC103_0.out);rintro e w9 ⟨rfl,hb⟩;(first|refine⟨_,rfl,?_⟩|skip);replace HB:=Za (Zi z3_0 hb);(try clear hb);(try clear hb2);(try clear hk);(try clear hi)))
       go_roundg k1
       case measure=>have:=HK1.out;omega
       case rel=>exact⟨(t104),(wrap64 (x5_1+1)),z3_14,z3_14,H',⟨by have:=HK1.out;omega⟩,⟨by repeat(first|(with_reducible first|exact HB.out|apply Zh|apply Ze|apply Zd)|exact HB.out)⟩⟩
     ·rw[if_neg c5] at H
      exact absurd H (by simp)
    ·rw[if_neg c4] at H
     have c4b0:decide (x5_1<(l0.length:Int))=false:=Yg c4
     clear c4
     obtain rfl:=Zm H
     go_wp2
     go_ret
     exact⟨by first|rfl|(simp[errW_none,errW_some]<;>rfl)|(simp[*,errW_none,errW_some]<;>rfl)|(simp[*,errW_none,errW_some,i64_w];done),by repeat(first|(with_reducible first|exact HB.out|apply Zh|apply Ze|apply Zd)|exact HB.out)⟩
def laws_szProgram.f (k:Nat) (l0_0:List (S68)) (a1:Int):Option (Int):=(laws_szTaskS.f k l0_0 a1).bind fun t106=>(if t106<0 then (some (-1)) else (some t106))
theorem laws_szProgram.mono:∀a0 a1 k,LeO (laws_szProgram.f k a0 a1) (laws_szProgram.f (k+1) a0 a1):=by
 intro a0 a1 k
 unfold laws_szProgram.f
 repeat' first
   |(with_reducible exact laws_szTaskS.mono _ _ _)
   |(with_reducible exact Yn _)
   |(with_reducible exact Yb _)
   |(with_reducible refine Zx ?_ ?_)
   |(with_reducible refine Zy ?_ (fun _=> ?_))
   |exact laws_szTaskS.mono _ _ _
   |exact Yb _
   |refine Zx ?_ ?_
   |refine Zy ?_ (fun _=> ?_)
set_option maxHeartbeats 8000000 in
set_option maxRecDepth 100000 in
theorem laws_szProgram.calls (k:Nat) (A0_0:Option Addr) (c0_0:Nat) (l0_0:List (S68)) (a1:Int) (r:Int) (w:World) (hr0_0:Kd.C k68 w A0_0 l0_0.length l0_0) (hc0_0:l0_0.length≤c0_0) (h:laws_szProgram.f k l0_0 a1=some r):
  Calls Tryz.prog 5 #[.agg #[.slice A0_0 l0_0.length c0_0],.int .i64 a1] w fun e w'=>e= .returned (.int .i64 r)∧Below w.heap.size w w':=by
 have hu24:=Tryz.underlying24
 have HR0_0:=Za hr0_0
 have HC0_0:=Za hc0_0
 clear hr0_0 hc0_0
 have HB:=Za (Yc w.heap.size w)
 have H:((laws_szTaskS.f k l0_0 a1).bind fun t106=>(if t106<0 then (some (-1)) else (some t106)))=some r:=h
 clear h
 replace H:=Zl H
 obtain⟨t106,A30,H⟩:=H
 replace H:(if t106<0 then (some (-1)) else (some t106))=some r:=H
 have A3:=Za A30
 clear A30
 by_cases c4:t106<0
 ·rw[if_pos c4] at H
  have c4b0:decide (t106<0)=true:=Zq c4
  clear c4
  obtain rfl:=Zm H
  go_enter Tryz.func5,Tryz.ntmps5
  go_wp2_with (first|((with_reducible refine Zr (N:=2) rfl ?_);refine Zs ?hg (N:=2) ?hd (cs:= #[.slice A0_0 l0_0.length c0_0]) (t:=24) ?hr ?_;(case hd=>rfl);(case hg=>rfl);(case hr=>exact z3_12);intro gb105 hg w5 hbox hb;have BK105:=Za (hbox);have GW105:=Za ((z3_17:w.heap.size≤gb105));have GE105:=Za ((z3_17:w.heap.size≤gb105));replace HB:=Za (Zi z3_0 hb);clear hb hbox hg;have hcz6_0:w5.cell? ⟨gb105,0,none⟩=some (.slice A0_0 l0_0.length c0_0):=(Zb BK105.out 0).trans rfl;have hfz6_0:=Zc BK105.out 0)|((first|((with_reducible refine gate_callee (f:=20) rfl ?_);refine goesL_ (some 8) rfl rfl Tryz.func20 (by kernel_rfl) rfl #[.slice A0_0 l0_0.length c0_0,.int .i64 a1] rfl z3_2 ?_;(with_reducible refine(laws_szTaskS.calls k _ _ l0_0 a1 t106 _ ?side1 ?side2 A3.out).mono ?_))|(go_at_call 20;(with_reducible refine(laws_szTaskS.calls k _ _ l0_0 a1 t106 _ ?side1 ?side2 A3.out).mono ?_)));(case side1=>exact z3_13);(case side2=>exact HC0_0.out);rintro e w7 ⟨rfl,hb⟩;(first|refine⟨_,rfl,?_⟩|skip);replace BK105:=Za (Zk (g:=gb105) (o:= .cells #[.slice A0_0 l0_0.length c0_0] 24 (0,0)) (by(with_reducible repeat(first|refine blk_drewN ?_ _|refine blk_drew ?_|refine blk_alloc ?_ _));exact BK105.out) hb);replace HB:=Za (Zi (by repeat(first|(with_reducible first|exact HB.out|apply Zh|apply Ze|apply Zd|refine Zg ?_ GE105.out)|exact HB.out)) hb);(try clear hb);(try clear hb2);(try clear hk);(try clear hi)))
  go_ret
  exact⟨by first|rfl|(simp[errW_none,errW_some]<;>rfl)|(simp[*,errW_none,errW_some]<;>rfl)|(simp[*,errW_none,errW_some,i64_w];done),by repeat(first|(with_reducible first|exact HB.out|apply Zh|apply Ze|apply Zd|refine Zg ?_ GE105.out)|exact HB.out)⟩
 ·rw[if_neg c4] at H
  have c4b0:decide (t106<0)=false:=Yg c4
  clear c4
  obtain rfl:=Zm H
  go_enter Tryz.func5,Tryz.ntmps5
  go_wp2_with (first|((with_reducible refine Zr (N:=2) rfl ?_);refine Zs ?hg (N:=2) ?hd (cs:= #[.slice A0_0 l0_0.length c0_0]) (t:=24) ?hr ?_;(case hd=>rfl);(case hg=>rfl);(case hr=>exact z3_12);intro gb105 hg w8 hbox hb;have BK105:=Za (hbox);have GW105:=Za ((z3_17:w.heap.size≤gb105));have GE105:=Za ((z3_17:w.heap.size≤gb105));replace HB:=Za (Zi z3_0 hb);clear hb hbox hg;have hcz9_0:w8.cell? ⟨gb105,0,none⟩=some (.slice A0_0 l0_0.length c0_0):=(Zb BK105.out 0).trans rfl;have hfz9_0:=Zc BK105.out 0)|((first|((with_reducible refine gate_callee (f:=20) rfl ?_);refine goesL_ (some 8) rfl rfl Tryz.func20 (by kernel_rfl) rfl #[.slice A0_0 l0_0.length c0_0,.int .i64 a1] rfl z3_2 ?_;(with_reducible refine(laws_szTaskS.calls k _ _ l0_0 a1 t106 _ ?side1 ?side2 A3.out).mono ?_))|(go_at_call 20;(with_reducible refine(laws_szTaskS.calls k _ _ l0_0 a1 t106 _ ?side1 ?side2 A3.out).mono ?_)));(case side1=>exact z3_13);(case side2=>exact HC0_0.out);rintro e w10 ⟨rfl,hb⟩;(first|refine⟨_,rfl,?_⟩|skip);replace BK105:=Za (Zk (g:=gb105) (o:= .cells #[.slice A0_0 l0_0.length c0_0] 24 (0,0)) (by(with_reducible repeat(first|refine blk_drewN ?_ _|refine blk_drew ?_|refine blk_alloc ?_ _));exact BK105.out) hb);replace HB:=Za (Zi (by repeat(first|(with_reducible first|exact HB.out|apply Zh|apply Ze|apply Zd|refine Zg ?_ GE105.out)|exact HB.out)) hb);(try clear hb);(try clear hb2);(try clear hk);(try clear hi)))
  go_ret
  exact⟨by first|rfl|(simp[errW_none,errW_some]<;>rfl)|(simp[*,errW_none,errW_some]<;>rfl)|(simp[*,errW_none,errW_some,i64_w];done),by repeat(first|(with_reducible first|exact HB.out|apply Zh|apply Ze|apply Zd|refine Zg ?_ GE105.out)|exact HB.out)⟩
def spec_l01In.f (a0:Int) (a1:Int) (a2:Int):Option (Bool):=if a0≥a1 then (some (decide (a0≤a2))) else (some false)
set_option maxHeartbeats 8000000 in
set_option maxRecDepth 100000 in
theorem spec_l01In.calls (a0:Int) (a1:Int) (a2:Int) (r:Bool) (w:World) (h:spec_l01In.f a0 a1 a2=some r):
  Calls Tryz.prog 47 #[.int .i64 a0,.int .i64 a1,.int .i64 a2] w fun e w'=>e= .returned (.bool r)∧Drawn0 w w':=by
 have H:(if a0≥a1 then (some (decide (a0≤a2))) else (some false))=some r:=h
 clear h
 by_cases c4:a0≥a1
 ·rw[if_pos c4] at H
  have c4b0:decide (a1≤a0)=true:=Zq c4
  clear c4
  obtain rfl:=Zm H
  go_enter Tryz.func47,Tryz.ntmps47
  go_wp2
  go_ret
  exact⟨by first|rfl|(simp;done)|(simp[*];done),by repeat(first|exact Zz _|apply Ya)⟩
 ·rw[if_neg c4] at H
  have c4b0:decide (a1≤a0)=false:=Yg c4
  clear c4
  obtain rfl:=Zm H
  go_enter Tryz.func47,Tryz.ntmps47
  go_wp2
  go_ret
  exact⟨by first|rfl|(simp;done)|(simp[*];done),by repeat(first|exact Zz _|apply Ya)⟩
def spec_PackControl.f (a0:Int) (a1:Int) (a2:Int):Option (Int):=(spec_l01In.f a0 0 5).bind fun t107=>(if t107=true then ((spec_l01In.f a1 0 8).bind fun t108=>(if t108=true then ((spec_l01In.f a2 0 24).bind fun t109=>(if t109=true then (some (wrap64 (a0+(wrap64 (8*(wrap64 (a1+(wrap64 (16*a2))))))))) else (some (-1)))) else (some (-1)))) else (some (-1)))
set_option maxHeartbeats 8000000 in
set_option maxRecDepth 100000 in
theorem spec_PackControl.calls (a0:Int) (a1:Int) (a2:Int) (r:Int) (w:World) (h:spec_PackControl.f a0 a1 a2=some r):
  Calls Tryz.prog 49 #[.int .i64 a0,.int .i64 a1,.int .i64 a2] w fun e w'=>e= .returned (.int .i64 r)∧Drawn0 w w':=by
 have H:((spec_l01In.f a0 0 5).bind fun t107=>(if t107=true then ((spec_l01In.f a1 0 8).bind fun t108=>(if t108=true then ((spec_l01In.f a2 0 24).bind fun t109=>(if t109=true then (some (wrap64 (a0+(wrap64 (8*(wrap64 (a1+(wrap64 (16*a2))))))))) else (some (-1)))) else (some (-1)))) else (some (-1))))=some r:=h
 clear h
 replace H:=Zl H
 obtain⟨t107,A40,H⟩:=H
 replace H:(if t107=true then ((spec_l01In.f a1 0 8).bind fun t108=>(if t108=true then ((spec_l01In.f a2 0 24).bind fun t109=>(if t109=true then (some (wrap64 (a0+(wrap64 (8*(wrap64 (a1+(wrap64 (16*a2))))))))) else (some (-1)))) else (some (-1)))) else (some (-1)))=some r:=H
 have A4:=Za A40
 clear A40
 by_cases c5:t107=true
 ·subst c5
  rw[if_pos rfl] at H
  replace H:=Zl H
  obtain⟨t108,A60,H⟩:=H
  replace H:(if t108=true then ((spec_l01In.f a2 0 24).bind fun t109=>(if t109=true then (some (wrap64 (a0+(wrap64 (8*(wrap64 (a1+(wrap64 (16*a2))))))))) else (some (-1)))) else (some (-1)))=some r:=H
  have A6:=Za A60
  clear A60
  by_cases c7:t108=true
  ·subst c7
   rw[if_pos rfl] at H
   replace H:=Zl H
   obtain⟨t109,A80,H⟩:=H
   replace H:(if t109=true then (some (wrap64 (a0+(wrap64 (8*(wrap64 (a1+(wrap64 (16*a2))))))))) else (some (-1)))=some r:=H
   have A8:=Za A80
   clear A80
   by_cases c9:t109=true
   ·subst c9
    rw[if_pos rfl] at H
    obtain rfl:=Zm H
    go_enter Tryz.func49,Tryz.ntmps49
    go_wp2_with (first|((first|((with_reducible refine gate_callee (f:=47) rfl ?_);refine goesL_ (some 8) rfl rfl Tryz.func47 (by kernel_rfl) rfl #[.int .i64 a0,.int .i64 0,.int .i64 5] rfl z3_2 ?_;(with_reducible refine(spec_l01In.calls a0 0 5 true _ A4.out).mono ?_))|(go_at_call 47;(with_reducible refine(spec_l01In.calls a0 0 5 true _ A4.out).mono ?_)));rintro e w' ⟨rfl,⟨nd,rfl⟩⟩;(first|refine⟨_,rfl,?_⟩|skip))|(go_at_call 47;(with_reducible refine(spec_l01In.calls a1 0 8 true _ A6.out).mono ?_);rintro e w' ⟨rfl,⟨nd,rfl⟩⟩)|(go_at_call 47;(with_reducible refine(spec_l01In.calls a2 0 24 true _ A8.out).mono ?_);rintro e w' ⟨rfl,⟨nd,rfl⟩⟩))
    go_ret
    exact⟨by first|rfl|(simp;done)|(simp[*];done),by repeat(first|exact Zz _|apply Ya)⟩
   ·replace c9:=Bool.eq_false_iff.mpr c9
    subst c9
    rw[if_neg (show ¬(false=true) by decide)] at H
    obtain rfl:=Zm H
    go_enter Tryz.func49,Tryz.ntmps49
    go_wp2_with (first|((first|((with_reducible refine gate_callee (f:=47) rfl ?_);refine goesL_ (some 8) rfl rfl Tryz.func47 (by kernel_rfl) rfl #[.int .i64 a0,.int .i64 0,.int .i64 5] rfl z3_2 ?_;(with_reducible refine(spec_l01In.calls a0 0 5 true _ A4.out).mono ?_))|(go_at_call 47;(with_reducible refine(spec_l01In.calls a0 0 5 true _ A4.out).mono ?_)));rintro e w' ⟨rfl,⟨nd,rfl⟩⟩;(first|refine⟨_,rfl,?_⟩|skip))|(go_at_call 47;(with_reducible refine(spec_l01In.calls a1 0 8 true _ A6.out).mono ?_);rintro e w' ⟨rfl,⟨nd,rfl⟩⟩)|(go_at_call 47;(with_reducible refine(spec_l01In.calls a2 0 24 false _ A8.out).mono ?_);rintro e w' ⟨rfl,⟨nd,rfl⟩⟩))
    go_ret
    exact⟨by first|rfl|(simp;done)|(simp[*];done),by repeat(first|exact Zz _|apply Ya)⟩
  ·replace c7:=Bool.eq_false_iff.mpr c7
   subst c7
   rw[if_neg (show ¬(false=true) by decide)] at H
   obtain rfl:=Zm H
   go_enter Tryz.func49,Tryz.ntmps49
   go_wp2_with (first|((first|((with_reducible refine gate_callee (f:=47) rfl ?_);refine goesL_ (some 8) rfl rfl Tryz.func47 (by kernel_rfl) rfl #[.int .i64 a0,.int .i64 0,.int .i64 5] rfl z3_2 ?_;(with_reducible refine(spec_l01In.calls a0 0 5 true _ A4.out).mono ?_))|(go_at_call 47;(with_reducible refine(spec_l01In.calls a0 0 5 true _ A4.out).mono ?_)));rintro e w' ⟨rfl,⟨nd,rfl⟩⟩;(first|refine⟨_,rfl,?_⟩|skip))|(go_at_call 47;(with_reducible refine(spec_l01In.calls a1 0 8 false _ A6.out).mono ?_);rintro e w' ⟨rfl,⟨nd,rfl⟩⟩))
   go_ret
   exact⟨by first|rfl|(simp;done)|(simp[*];done),by repeat(first|exact Zz _|apply Ya)⟩
 ·replace c5:=Bool.eq_false_iff.mpr c5
  subst c5
  rw[if_neg (show ¬(false=true) by decide)] at H
  obtain rfl:=Zm H
  go_enter Tryz.func49,Tryz.ntmps49
  go_wp2_with (first|((first|((with_reducible refine gate_callee (f:=47) rfl ?_);refine goesL_ (some 8) rfl rfl Tryz.func47 (by kernel_rfl) rfl #[.int .i64 a0,.int .i64 0,.int .i64 5] rfl z3_2 ?_;(with_reducible refine(spec_l01In.calls a0 0 5 false _ A4.out).mono ?_))|(go_at_call 47;(with_reducible refine(spec_l01In.calls a0 0 5 false _ A4.out).mono ?_)));rintro e w' ⟨rfl,⟨nd,rfl⟩⟩;(first|refine⟨_,rfl,?_⟩|skip)))
  go_ret
  exact⟨by first|rfl|(simp;done)|(simp[*];done),by repeat(first|exact Zz _|apply Ya)⟩
def spec_UnpackControl.j0:Nat→Int→Bool→Option (Int×Int×Int)
 |0,_,_=>none
 |k+1,x0,x13=>if x13=true then (some ((-1),(-1),(-1))) else ((spec_PackControl.f (Int.tmod x0 8) (Int.tmod (wrap64 (Int.tdiv x0 8)) 16) (wrap64 (Int.tdiv x0 128))).bind fun t110=>(if t110=x0 then (some (Int.tmod x0 8,Int.tmod (wrap64 (Int.tdiv x0 8)) 16,wrap64 (Int.tdiv x0 128))) else (some ((-1),(-1),(-1)))))
def spec_UnpackControl.f (k:Nat) (a0:Int):Option (Int×Int×Int):=if a0<0 then (spec_UnpackControl.j0 k a0 true) else (spec_UnpackControl.j0 k a0 (decide (a0 > 100000)))
set_option maxHeartbeats 8000000 in
set_option maxRecDepth 100000 in
theorem spec_UnpackControl.calls (k:Nat) (a0:Int) (r1:Int) (r2:Int) (r3:Int) (w:World) (h:spec_UnpackControl.f k a0=some (r1,r2,r3)):
  Calls Tryz.prog 22 #[.int .i64 a0] w fun e w'=>e= .returned (.tuple #[.int .i64 r1,.int .i64 r2,.int .i64 r3])∧Drawn0 w w':=by
 have H:(if a0<0 then (spec_UnpackControl.j0 k a0 true) else (spec_UnpackControl.j0 k a0 (decide (a0 > 100000))))=some (r1,r2,r3):=h
 clear h
 have HC2:=Za H
 clear H
 go_enter Tryz.func22,Tryz.ntmps22
 go_upto_region 1 with(fail)
 go_cut [13] (fun v13 wc=>∃(kq:Nat) (x13_1:Bool),v13= .bool x13_1∧Aside0 (spec_UnpackControl.j0 kq a0 x13_1=some (r1,r2,r3))∧Aside0 (kq≤k)∧Drawn0 w wc)
 case first=>
  have H:=HC2.out
  clear HC2
  by_cases c3:a0<0
  ·rw[if_pos c3] at H
   have c3b0:decide (a0<0)=true:=Zq c3
   clear c3
   (first|rw[c3b0]|(simp only[i64_w,i32_w];rw[c3b0])|skip)
   have H':=Za H
   clear H
   go_wp2
   go_meet
   case rel=>exact⟨_,(true),z3_14,H',⟨by first|omega|exact Nat.le_refl _⟩,by repeat(first|exact Zz _|apply Ya)⟩
  ·rw[if_neg c3] at H
   have c3b0:decide (a0<0)=false:=Yg c3
   clear c3
   (first|rw[c3b0]|(simp only[i64_w,i32_w];rw[c3b0])|skip)
   have H':=Za H
   clear H
   go_wp2
   go_meet
   case rel=>exact⟨_,(decide (a0 > 100000)),z3_14,H',⟨by first|omega|exact Nat.le_refl _⟩,by repeat(first|exact Zz _|apply Ya)⟩
 case rest=>
  clear HC2
  obtain⟨kq,x13_1,rfl,HA,HJ1,⟨mc1,rfl⟩⟩:=hcut
  cases kq with
  |zero=>exact absurd HA.out (by simp[spec_UnpackControl.j0])
  |succ kj1=>
   have H:=HA.out
   clear HA
   simp only[spec_UnpackControl.j0] at H
   by_cases c4:x13_1=true
   ·subst c4
    have H1:(some ((-1),(-1),(-1)))=some (r1,r2,r3):=by rw[if_pos rfl] at H;exact H
    clear H
    have H:=H1
    clear H1
    simp only[Option.some.injEq,Prod.mk.injEq] at H
    obtain⟨rfl,rfl,rfl⟩:=H
    go_wp2
    go_ret3
    exact⟨by first|rfl|(simp;done)|(simp[*];done),by repeat(first|exact Zz _|apply Ya)⟩
   ·replace c4:=Bool.eq_false_iff.mpr c4
    subst c4
    have H1:((spec_PackControl.f (Int.tmod a0 8) (Int.tmod (wrap64 (Int.tdiv a0 8)) 16) (wrap64 (Int.tdiv a0 128))).bind fun t110=>(if t110=a0 then (some (Int.tmod a0 8,Int.tmod (wrap64 (Int.tdiv a0 8)) 16,wrap64 (Int.tdiv a0 128))) else (some ((-1),(-1),(-1)))))=some (r1,r2,r3):=by rw[if_neg (show ¬(false=true) by decide)] at H;exact H
    clear H
    have H:=H1
    clear H1
    replace H:=Zl H
    obtain⟨t110,A50,H⟩:=H
    replace H:(if t110=a0 then (some (Int.tmod a0 8,Int.tmod (wrap64 (Int.tdiv a0 8)) 16,wrap64 (Int.tdiv a0 128))) else (some ((-1),(-1),(-1))))=some (r1,r2,r3):=H
    have A5:=Za A50
    clear A50
    by_cases c6:t110=a0
    ·rw[if_pos c6] at H
     have c6b0:(t110==a0)=true:=beq_iff_eq.mpr c6
     have c6b1:(t110 != a0)=false:=bne_eq_false_iff_eq.mpr c6
     clear c6
     simp only[Option.some.injEq,Prod.mk.injEq] at H
     obtain⟨rfl,rfl,rfl⟩:=H
     go_wp2_with (first|((first|((with_reducible refine gate_callee (f:=49) rfl ?_);refine goesL_ (some 24) rfl rfl Tryz.func49 (by kernel_rfl) rfl #[.int .i64 (Int.tmod a0 8),.int .i64 (Int.tmod (wrap64 (Int.tdiv a0 8)) 16),.int .i64 (wrap64 (Int.tdiv a0 128))] rfl z3_2 ?_;(with_reducible refine(spec_PackControl.calls (Int.tmod a0 8) (Int.tmod (wrap64 (Int.tdiv a0 8)) 16) (wrap64 (Int.tdiv a0 128)) t110 _ A5.out).mono ?_))|(go_at_call 49;(with_reducible refine(spec_PackControl.calls (Int.tmod a0 8) (Int.tmod (wrap64 (Int.tdiv a0 8)) 16) (wrap64 (Int.tdiv a0 128)) t110 _ A5.out).mono ?_)));rintro e w' ⟨rfl,⟨nd,rfl⟩⟩;(first|refine⟨_,rfl,?_⟩|skip)))
     go_ret3
     exact⟨by first|rfl|(simp;done)|(simp[*];done),by repeat(first|exact Zz _|apply Ya)⟩
    ·rw[if_neg c6] at H
     have c6b0:(t110==a0)=false:=beq_eq_false_iff_ne.mpr c6
     have c6b1:(t110 != a0)=true:=bne_iff_ne.mpr c6
     simp only[Option.some.injEq,Prod.mk.injEq] at H
     obtain⟨rfl,rfl,rfl⟩:=H
     go_wp2_with (first|((first|((with_reducible refine gate_callee (f:=49) rfl ?_);refine goesL_ (some 24) rfl rfl Tryz.func49 (by kernel_rfl) rfl #[.int .i64 (Int.tmod a0 8),.int .i64 (Int.tmod (wrap64 (Int.tdiv a0 8)) 16),.int .i64 (wrap64 (Int.tdiv a0 128))] rfl z3_2 ?_;(with_reducible refine(spec_PackControl.calls (Int.tmod a0 8) (Int.tmod (wrap64 (Int.tdiv a0 8)) 16) (wrap64 (Int.tdiv a0 128)) t110 _ A5.out).mono ?_))|(go_at_call 49;(with_reducible refine(spec_PackControl.calls (Int.tmod a0 8) (Int.tmod (wrap64 (Int.tdiv a0 8)) 16) (wrap64 (Int.tdiv a0 128)) t110 _ A5.out).mono ?_)));rintro e w' ⟨rfl,⟨nd,rfl⟩⟩;(first|refine⟨_,rfl,?_⟩|skip)))
     go_ret3
     exact⟨by first|rfl|(simp;done)|(simp[*];done),by repeat(first|exact Zz _|apply Ya)⟩
def spec_OperandOk.f (a0:Int):Option (Bool):=(spec_l01In.f a0 (-8) 999).bind fun t111=>(some t111)
set_option maxHeartbeats 8000000 in
set_option maxRecDepth 100000 in
theorem spec_OperandOk.calls (a0:Int) (r:Bool) (w:World) (h:spec_OperandOk.f a0=some r):
  Calls Tryz.prog 106 #[.int .i64 a0] w fun e w'=>e= .returned (.bool r)∧Drawn0 w w':=by
 have H:((spec_l01In.f a0 (-8) 999).bind fun t111=>(some t111))=some r:=h
 clear h
 replace H:=Zl H
 obtain⟨t111,A20,H⟩:=H
 replace H:(some t111)=some r:=H
 have A2:=Za A20
 clear A20
 obtain rfl:=Zm H
 go_enter Tryz.func106,Tryz.ntmps106
 go_wp2_with (first|((first|((with_reducible refine gate_callee (f:=47) rfl ?_);refine goesL_ (some 4) rfl rfl Tryz.func47 (by kernel_rfl) rfl #[.int .i64 a0,.int .i64 (-8),.int .i64 999] rfl z3_2 ?_;(with_reducible refine(spec_l01In.calls a0 (-8) 999 t111 _ A2.out).mono ?_))|(go_at_call 47;(with_reducible refine(spec_l01In.calls a0 (-8) 999 t111 _ A2.out).mono ?_)));rintro e w' ⟨rfl,⟨nd,rfl⟩⟩;(first|refine⟨_,rfl,?_⟩|skip)))
 go_ret
 exact⟨by first|rfl|(simp;done)|(simp[*];done),by repeat(first|exact Zz _|apply Ya)⟩
def spec_ExprOk.f (a0_0:Int) (a0_1:Int) (a0_2:Int):Option (Bool):=(spec_l01In.f a0_0 1 7).bind fun t113=>(if t113=true then ((spec_OperandOk.f a0_1).bind fun t114=>(if t114=true then ((spec_OperandOk.f a0_2).bind fun t115=>(some t115)) else (some false))) else (some false))
set_option maxHeartbeats 8000000 in
set_option maxRecDepth 100000 in
theorem spec_ExprOk.calls (a0_0:Int) (a0_1:Int) (a0_2:Int) (r:Bool) (w:World) (h:spec_ExprOk.f a0_0 a0_1 a0_2=some r):
  Calls Tryz.prog 80 #[.agg #[.int .i64 a0_0,.int .i64 a0_1,.int .i64 a0_2]] w fun e w'=>e= .returned (.bool r)∧Below w.heap.size w w':=by
 have hu53:=Tryz.underlying53
 have HB:=Za (Yc w.heap.size w)
 have H:((spec_l01In.f a0_0 1 7).bind fun t113=>(if t113=true then ((spec_OperandOk.f a0_1).bind fun t114=>(if t114=true then ((spec_OperandOk.f a0_2).bind fun t115=>(some t115)) else (some false))) else (some false)))=some r:=h
 clear h
 replace H:=Zl H
 obtain⟨t113,A20,H⟩:=H
 replace H:(if t113=true then ((spec_OperandOk.f a0_1).bind fun t114=>(if t114=true then ((spec_OperandOk.f a0_2).bind fun t115=>(some t115)) else (some false))) else (some false))=some r:=H
 have A2:=Za A20
 clear A20
 by_cases c3:t113=true
 ·subst c3
  rw[if_pos rfl] at H
  replace H:=Zl H
  obtain⟨t114,A40,H⟩:=H
  replace H:(if t114=true then ((spec_OperandOk.f a0_2).bind fun t115=>(some t115)) else (some false))=some r:=H
  have A4:=Za A40
  clear A40
  by_cases c5:t114=true
  ·subst c5
   rw[if_pos rfl] at H
   replace H:=Zl H
   obtain⟨t115,A60,H⟩:=H
   replace H:(some t115)=some r:=H
   have A6:=Za A60
   clear A60
   obtain rfl:=Zm H
   go_enter Tryz.func80,Tryz.ntmps80
   go_wp2_with (first|((with_reducible refine Zr (N:=1) rfl ?_);refine Zs ?hg (N:=1) ?hd (cs:= #[.int .i64 a0_0,.int .i64 a0_1,.int .i64 a0_2]) (t:=53) ?hr ?_;(case hd=>rfl);(case hg=>rfl);(case hr=>exact z3_12);intro gb112 hg w7 hbox hb;have BK112:=Za (hbox);have GW112:=Za ((z3_17:w.heap.size≤gb112));have GE112:=Za ((z3_17:w.heap.size≤gb112));replace HB:=Za (Zi z3_0 hb);clear hb hbox hg;have hcz8_0:w7.cell? ⟨gb112,0,none⟩=some (.int .i64 a0_0):=(Zb BK112.out 0).trans rfl;have hcz8_1:w7.cell? ⟨gb112,1,none⟩=some (.int .i64 a0_1):=(Zb BK112.out 1).trans rfl;have hcz8_2:w7.cell? ⟨gb112,2,none⟩=some (.int .i64 a0_2):=(Zb BK112.out 2).trans rfl;have hfz8_0:=Zc BK112.out 0;have hfz8_1:=Zc BK112.out 1;have hfz8_2:=Zc BK112.out 2)|((first|((with_reducible refine gate_callee (f:=47) rfl ?_);refine goesL_ (some 5) rfl rfl Tryz.func47 (by kernel_rfl) rfl #[.int .i64 a0_0,.int .i64 1,.int .i64 7] rfl z3_2 ?_;(with_reducible refine(spec_l01In.calls a0_0 1 7 true _ A2.out).mono ?_))|(go_at_call 47;(with_reducible refine(spec_l01In.calls a0_0 1 7 true _ A2.out).mono ?_)));rintro e w' ⟨rfl,⟨nd,rfl⟩⟩;(first|refine⟨_,rfl,?_⟩|skip))|(go_at_call 106;(with_reducible refine(spec_OperandOk.calls a0_1 true _ A4.out).mono ?_);rintro e w' ⟨rfl,⟨nd,rfl⟩⟩)|(go_at_call 106;(with_reducible refine(spec_OperandOk.calls a0_2 t115 _ A6.out).mono ?_);rintro e w' ⟨rfl,⟨nd,rfl⟩⟩))
   go_ret
   exact⟨by first|rfl|(simp[errW_none,errW_some]<;>rfl)|(simp[*,errW_none,errW_some]<;>rfl)|(simp[*,errW_none,errW_some,i64_w];done),by repeat(first|(with_reducible first|exact HB.out|apply Zh|apply Ze|apply Zd|refine Zg ?_ GE112.out)|exact HB.out)⟩
  ·replace c5:=Bool.eq_false_iff.mpr c5
   subst c5
   rw[if_neg (show ¬(false=true) by decide)] at H
   obtain rfl:=Zm H
   go_enter Tryz.func80,Tryz.ntmps80
   go_wp2_with (first|((with_reducible refine Zr (N:=1) rfl ?_);refine Zs ?hg (N:=1) ?hd (cs:= #[.int .i64 a0_0,.int .i64 a0_1,.int .i64 a0_2]) (t:=53) ?hr ?_;(case hd=>rfl);(case hg=>rfl);(case hr=>exact z3_12);intro gb112 hg w9 hbox hb;have BK112:=Za (hbox);have GW112:=Za ((z3_17:w.heap.size≤gb112));have GE112:=Za ((z3_17:w.heap.size≤gb112));replace HB:=Za (Zi z3_0 hb);clear hb hbox hg;have hcz10_0:w9.cell? ⟨gb112,0,none⟩=some (.int .i64 a0_0):=(Zb BK112.out 0).trans rfl;have hcz10_1:w9.cell? ⟨gb112,1,none⟩=some (.int .i64 a0_1):=(Zb BK112.out 1).trans rfl;have hcz10_2:w9.cell? ⟨gb112,2,none⟩=some (.int .i64 a0_2):=(Zb BK112.out 2).trans rfl;have hfz10_0:=Zc BK112.out 0;have hfz10_1:=Zc BK112.out 1;have hfz10_2:=Zc BK112.out 2)|((first|((with_reducible refine gate_callee (f:=47) rfl ?_);refine goesL_ (some 5) rfl rfl Tryz.func47 (by kernel_rfl) rfl #[.int .i64 a0_0,.int .i64 1,.int .i64 7] rfl z3_2 ?_;(with_reducible refine(spec_l01In.calls a0_0 1 7 true _ A2.out).mono ?_))|(go_at_call 47;(with_reducible refine(spec_l01In.calls a0_0 1 7 true _ A2.out).mono ?_)));rintro e w' ⟨rfl,⟨nd,rfl⟩⟩;(first|refine⟨_,rfl,?_⟩|skip))|(go_at_call 106;(with_reducible refine(spec_OperandOk.calls a0_1 false _ A4.out).mono ?_);rintro e w' ⟨rfl,⟨nd,rfl⟩⟩))
   go_ret
   exact⟨by first|rfl|(simp[errW_none,errW_some]<;>rfl)|(simp[*,errW_none,errW_some]<;>rfl)|(simp[*,errW_none,errW_some,i64_w];done),by repeat(first|(with_reducible first|exact HB.out|apply Zh|apply Ze|apply Zd|refine Zg ?_ GE112.out)|exact HB.out)⟩
 ·replace c3:=Bool.eq_false_iff.mpr c3
  subst c3
  rw[if_neg (show ¬(false=true) by decide)] at H
  obtain rfl:=Zm H
  go_enter Tryz.func80,Tryz.ntmps80
  go_wp2_with (first|((with_reducible refine Zr (N:=1) rfl ?_);refine Zs ?hg (N:=1) ?hd (cs:= #[.int .i64 a0_0,.int .i64 a0_1,.int .i64 a0_2]) (t:=53) ?hr ?_;(case hd=>rfl);(case hg=>rfl);(case hr=>exact z3_12);intro gb112 hg w11 hbox hb;have BK112:=Za (hbox);have GW112:=Za ((z3_17:w.heap.size≤gb112));have GE112:=Za ((z3_17:w.heap.size≤gb112));replace HB:=Za (Zi z3_0 hb);clear hb hbox hg;have hcz12_0:w11.cell? ⟨gb112,0,none⟩=some (.int .i64 a0_0):=(Zb BK112.out 0).trans rfl;have hcz12_1:w11.cell? ⟨gb112,1,none⟩=some (.int .i64 a0_1):=(Zb BK112.out 1).trans rfl;have hcz12_2:w11.cell? ⟨gb112,2,none⟩=some (.int .i64 a0_2):=(Zb BK112.out 2).trans rfl;have hfz12_0:=Zc BK112.out 0;have hfz12_1:=Zc BK112.out 1;have hfz12_2:=Zc BK112.out 2)|((first|((with_reducible refine gate_callee (f:=47) rfl ?_);refine goesL_ (some 5) rfl rfl Tryz.func47 (by kernel_rfl) rfl #[.int .i64 a0_0,.int .i64 1,.int .i64 7] rfl z3_2 ?_;(with_reducible refine(spec_l01In.calls a0_0 1 7 false _ A2.out).mono ?_))|(go_at_call 47;(with_reducible refine(spec_l01In.calls a0_0 1 7 false _ A2.out).mono ?_)));rintro e w' ⟨rfl,⟨nd,rfl⟩⟩;(first|refine⟨_,rfl,?_⟩|skip)))
  go_ret
  exact⟨by first|rfl|(simp[errW_none,errW_some]<;>rfl)|(simp[*,errW_none,errW_some]<;>rfl)|(simp[*,errW_none,errW_some,i64_w];done),by repeat(first|(with_reducible first|exact HB.out|apply Zh|apply Ze|apply Zd|refine Zg ?_ GE112.out)|exact HB.out)⟩
def spec_l04Plain.j0:Nat→Int→Bool→Int→Int→Int→Int→Int→Int→Int→Int→Int→Int→Int→Int→Option (Int×Int×Int×Int×Int×Int)
 |0,_,_,_,_,_,_,_,_,_,_,_,_,_,_=>none
 |k+1,x8,x25,x117000,x117001,x117002,x117003,x117004,x117005,x119000,x119001,x119002,x119003,x119004,x119005=>if x25=true then (some (x119000,x119001,x119002,x117003,x117004,x117005)) else (if x8=5 then (some (x119000,x119001,x117002,x119003,x119004,x119005)) else (some (x119000,x119001,x119002,x119003,x119004,x119005)))
def spec_l04Plain.f (k:Nat) (a0_0:Int) (a0_1:Int) (a0_2:Int) (a0_3:Int) (a0_4:Int) (a0_5:Int):Option (Int×Int×Int×Int×Int×Int):=if a0_0=1 then (some (a0_0,a0_1,0,a0_3,a0_4,a0_5)) else (if a0_0=2 then (some (a0_0,a0_1,a0_2,0,0,0)) else (if a0_0=3 then (spec_l04Plain.j0 k a0_0 (a0_0==3) a0_0 a0_1 a0_2 a0_3 a0_4 a0_5 a0_0 0 0 0 0 0) else (spec_l04Plain.j0 k a0_0 (a0_0==4) a0_0 a0_1 a0_2 a0_3 a0_4 a0_5 a0_0 0 0 0 0 0)))
theorem spec_l04Plain.mono_l:∀k,(∀y0 y1 y2 y3 y4 y5 y6 y7 y8 y9 y10 y11 y12 y13,LeO (spec_l04Plain.j0 k y0 y1 y2 y3 y4 y5 y6 y7 y8 y9 y10 y11 y12 y13) (spec_l04Plain.j0 (k+1) y0 y1 y2 y3 y4 y5 y6 y7 y8 y9 y10 y11 y12 y13))
 |0=>fun _ _ _ _ _ _ _ _ _ _ _ _ _ _ r h=>by simp[spec_l04Plain.j0] at h
 |k+1=>by
  have ih0:=spec_l04Plain.mono_l k
  ·intro y0 y1 y2 y3 y4 y5 y6 y7 y8 y9 y10 y11 y12 y13
   unfold spec_l04Plain.j0
   repeat' first
   |(with_reducible exact ih0 _ _ _ _ _ _ _ _ _ _ _ _ _ _)
   |(with_reducible exact Yn _)
   |(with_reducible exact Yb _)
   |(with_reducible refine Zx ?_ ?_)
   |(with_reducible refine Zy ?_ (fun _=> ?_))
   |exact ih0 _ _ _ _ _ _ _ _ _ _ _ _ _ _
   |exact Yb _
   |refine Zx ?_ ?_
   |refine Zy ?_ (fun _=> ?_)
theorem spec_l04Plain.mono:∀a0 a1 a2 a3 a4 a5 k,LeO (spec_l04Plain.f k a0 a1 a2 a3 a4 a5) (spec_l04Plain.f (k+1) a0 a1 a2 a3 a4 a5):=by
 intro a0 a1 a2 a3 a4 a5 k
 have ih0:=spec_l04Plain.mono_l k
 unfold spec_l04Plain.f
 repeat' first
   |(with_reducible exact ih0 _ _ _ _ _ _ _ _ _ _ _ _ _ _)
   |(with_reducible exact Yn _)
   |(with_reducible exact Yb _)
   |(with_reducible refine Zx ?_ ?_)
   |(with_reducible refine Zy ?_ (fun _=> ?_))
   |exact ih0 _ _ _ _ _ _ _ _ _ _ _ _ _ _
   |exact Yb _
   |refine Zx ?_ ?_
   |refine Zy ?_ (fun _=> ?_)
set_option maxHeartbeats 8000000 in
set_option maxRecDepth 100000 in
theorem spec_l04Plain.calls (k:Nat) (a0_0:Int) (a0_1:Int) (a0_2:Int) (a0_3:Int) (a0_4:Int) (a0_5:Int) (r1:Int) (r2:Int) (r3:Int) (r4:Int) (r5:Int) (r6:Int) (w:World) (h:spec_l04Plain.f k a0_0 a0_1 a0_2 a0_3 a0_4 a0_5=some (r1,r2,r3,r4,r5,r6)):
  Calls Tryz.prog 107 #[.agg #[.int .i64 a0_0,.int .i64 a0_1,.int .i64 a0_2,.int .i64 a0_3,.int .i64 a0_4,.int .i64 a0_5]] w fun e w'=>e= .returned (.agg #[.int .i64 r1,.int .i64 r2,.int .i64 r3,.int .i64 r4,.int .i64 r5,.int .i64 r6])∧Below w.heap.size w w':=by
 have hu77:=Tryz.underlying77
 have hu53:=Tryz.underlying53
 have HB:=Za (Yc w.heap.size w)
 have H:(if a0_0=1 then (some (a0_0,a0_1,0,a0_3,a0_4,a0_5)) else (if a0_0=2 then (some (a0_0,a0_1,a0_2,0,0,0)) else (if a0_0=3 then (spec_l04Plain.j0 k a0_0 (a0_0==3) a0_0 a0_1 a0_2 a0_3 a0_4 a0_5 a0_0 0 0 0 0 0) else (spec_l04Plain.j0 k a0_0 (a0_0==4) a0_0 a0_1 a0_2 a0_3 a0_4 a0_5 a0_0 0 0 0 0 0))))=some (r1,r2,r3,r4,r5,r6):=h
 clear h
 by_cases c2:a0_0=1
 ·rw[if_pos c2] at H
  have c2b0:(a0_0==1)=true:=beq_iff_eq.mpr c2
  have c2b1:(a0_0 != 1)=false:=bne_eq_false_iff_eq.mpr c2
  clear c2
  simp only[Option.some.injEq,Prod.mk.injEq] at H
  obtain⟨rfl,rfl,rfl,rfl,rfl,rfl⟩:=H
  go_enter Tryz.func107,Tryz.ntmps107
  go_wp2_with (first|((with_reducible refine Zr (N:=1) rfl ?_);refine Zs ?hg (N:=1) ?hd (cs:= #[.int .i64 a0_0,.int .i64 a0_1,.int .i64 a0_2,.int .i64 a0_3,.int .i64 a0_4,.int .i64 a0_5]) (t:=77) ?hr ?_;(case hd=>rfl);(case hg=>rfl);(case hr=>exact z3_12);intro gb116 hg w3 hbox hb;have BK116:=Za (hbox);have GW116:=Za ((z3_17:w.heap.size≤gb116));have GE116:=Za ((z3_17:w.heap.size≤gb116));replace HB:=Za (Zi z3_0 hb);clear hb hbox hg)|((with_reducible refine Zr (N:=2) rfl ?_);refine Zs ?hg (N:=2) ?hd (cs:= #[.int .i64 0,.int .i64 0,.int .i64 0,.int .i64 0,.int .i64 0,.int .i64 0]) (t:=77) ?hr ?_;(case hd=>rfl);(case hg=>rfl);(case hr=>exact z3_12);intro gb117 hg w4 hbox hb;have BK117:=Za (hbox);have GW117:=Za ((by rw[hg];exact(Zt z3_9):w.heap.size≤gb117));have GE117:=Za ((by rw[hg];exact(Zt z3_9):w.heap.size≤gb117));replace HB:=Za (Zi z3_9 hb);have NB116_117:=Za ((z3_15:gb116≠gb117));have NB117_116:=Za ((z3_16:gb117≠gb116));replace BK116:=Za (Zk (g:=gb116) (o:= .cells #[.int .i64 a0_0,.int .i64 a0_1,.int .i64 a0_2,.int .i64 a0_3,.int .i64 a0_4,.int .i64 a0_5] 77 (0,0)) z3_4 hb);clear hb hbox hg;have hnb5:=NB116_117.out;have hnc5:=NB117_116.out;have hcz6_0:w4.cell? ⟨gb116,0,none⟩=some (.int .i64 a0_0):=(Zb BK116.out 0).trans rfl;have hcz6_1:w4.cell? ⟨gb116,1,none⟩=some (.int .i64 a0_1):=(Zb BK116.out 1).trans rfl;have hcz6_2:w4.cell? ⟨gb116,2,none⟩=some (.int .i64 a0_2):=(Zb BK116.out 2).trans rfl;have hcz6_3:w4.cell? ⟨gb116,3,none⟩=some (.int .i64 a0_3):=(Zb BK116.out 3).trans rfl;have hcz6_4:w4.cell? ⟨gb116,4,none⟩=some (.int .i64 a0_4):=(Zb BK116.out 4).trans rfl;have hcz6_5:w4.cell? ⟨gb116,5,none⟩=some (.int .i64 a0_5):=(Zb BK116.out 5).trans rfl;have hfz6_0:=Zc BK116.out 0;have hfz6_1:=Zc BK116.out 1;have hfz6_2:=Zc BK116.out 2;have hfz6_3:=Zc BK116.out 3;have hfz6_4:=Zc BK116.out 4;have hfz6_5:=Zc BK116.out 5)|((with_reducible refine Zr (N:=3) rfl ?_);refine Zs ?hg (N:=3) ?hd (cs:= #[.int .i64 0,.int .i64 0,.int .i64 0,.int .i64 0,.int .i64 0,.int .i64 0]) (t:=77) ?hr ?_;(case hd=>rfl);(case hg=>rfl);(case hr=>exact z3_12);intro gb118 hg w7 hbox hb;have BK118:=Za (hbox);have GW118:=Za ((by rw[hg];exact(Zt z3_7):w.heap.size≤gb118));have GE118:=Za ((by rw[hg];exact(Zt z3_7):w.heap.size≤gb118));replace HB:=Za (Zi z3_7 hb);have NB116_118:=Za ((z3_15:gb116≠gb118));have NB118_116:=Za ((z3_16:gb118≠gb116));replace BK116:=Za (Zk (g:=gb116) (o:= .cells #[.int .i64 a0_0,.int .i64 a0_1,.int .i64 a0_2,.int .i64 a0_3,.int .i64 a0_4,.int .i64 a0_5] 77 (0,0)) z3_4 hb);have NB117_118:=Za ((z3_18:gb117≠gb118));have NB118_117:=Za ((z3_19:gb118≠gb117));replace BK117:=Za (Zk (g:=gb117) (o:= .cells #[.int .i64 0,.int .i64 0,.int .i64 0,.int .i64 0,.int .i64 0,.int .i64 0] 77 (0,0)) z3_8 hb);clear hb hbox hg;have hnb8:=NB118_116.out;have hnc8:=NB116_118.out;have hnb9:=NB118_117.out;have hnc9:=NB117_118.out;have hcz10_0:w7.cell? ⟨gb118,0,none⟩=some (.int .i64 0):=(Zb BK118.out 0).trans rfl;have hcz10_1:w7.cell? ⟨gb118,1,none⟩=some (.int .i64 0):=(Zb BK118.out 1).trans rfl;have hcz10_2:w7.cell? ⟨gb118,2,none⟩=some (.int .i64 0):=(Zb BK118.out 2).trans rfl;have hcz10_3:w7.cell? ⟨gb118,3,none⟩=some (.int .i64 0):=(Zb BK118.out 3).trans rfl;have hcz10_4:w7.cell? ⟨gb118,4,none⟩=some (.int .i64 0):=(Zb BK118.out 4).trans rfl;have hcz10_5:w7.cell? ⟨gb118,5,none⟩=some (.int .i64 0):=(Zb BK118.out 5).trans rfl;have hfz10_0:=Zc BK118.out 0;have hfz10_1:=Zc BK118.out 1;have hfz10_2:=Zc BK118.out 2;have hfz10_3:=Zc BK118.out 3;have hfz10_4:=Zc BK118.out 4;have hfz10_5:=Zc BK118.out 5)|((with_reducible refine Ym (t:=77) (p:=3) rfl ?_);refine Yl (t:=77) (p:=3) (v:= ?vo_w11) (w1:=((((((w7.setCell ⟨gb118,0,none⟩ (.int .i64 a0_0)).setCell ⟨gb118,1,none⟩ (.int .i64 0)).setCell ⟨gb118,2,none⟩ (.int .i64 0)).setCell ⟨gb118,3,none⟩ (.int .i64 0)).setCell ⟨gb118,4,none⟩ (.int .i64 0)).setCell ⟨gb118,5,none⟩ (.int .i64 0))) ?hg ?ho ?hn ?hr ?_;(case ho=>rfl);(case hg=>rfl);(case hn=>rfl);(case hr=>exact z3_12);intro w11 hw;have n0_:Aside0 (w11.heap[gb116]? =some (.cells #[.int .i64 a0_0,.int .i64 a0_1,.int .i64 a0_2,.int .i64 a0_3,.int .i64 a0_4,.int .i64 a0_5] 77 (0,0))):=⟨z3_6⟩;have n1_:Aside0 (w11.heap[gb117]? =some (.cells #[.int .i64 0,.int .i64 0,.int .i64 0,.int .i64 0,.int .i64 0,.int .i64 0] 77 (0,0))):=⟨z3_5⟩;have n2_:Aside0 (w11.heap[gb118]? =some (.cells #[.int .i64 a0_0,.int .i64 0,.int .i64 0,.int .i64 0,.int .i64 0,.int .i64 0] 77 (0,0))):=⟨z3_1⟩;have n3_:Aside0 (Below w.heap.size w w11):=⟨z3_3⟩;clear hw;clear BK116;clear BK117;clear BK118;clear HB;have BK116:=n0_;have BK117:=n1_;have BK118:=n2_;have HB:=n3_;clear n0_ n1_ n2_ n3_;have hcz12_0:w11.cell? ⟨gb116,0,none⟩=some (.int .i64 a0_0):=(Zb BK116.out 0).trans rfl;have hcz12_1:w11.cell? ⟨gb116,1,none⟩=some (.int .i64 a0_1):=(Zb BK116.out 1).trans rfl;have hcz12_2:w11.cell? ⟨gb116,2,none⟩=some (.int .i64 a0_2):=(Zb BK116.out 2).trans rfl;have hcz12_3:w11.cell? ⟨gb116,3,none⟩=some (.int .i64 a0_3):=(Zb BK116.out 3).trans rfl;have hcz12_4:w11.cell? ⟨gb116,4,none⟩=some (.int .i64 a0_4):=(Zb BK116.out 4).trans rfl;have hcz12_5:w11.cell? ⟨gb116,5,none⟩=some (.int .i64 a0_5):=(Zb BK116.out 5).trans rfl;have hfz12_0:=Zc BK116.out 0;have hfz12_1:=Zc BK116.out 1;have hfz12_2:=Zc BK116.out 2;have hfz12_3:=Zc BK116.out 3;have hfz12_4:=Zc BK116.out 4;have hfz12_5:=Zc BK116.out 5;have hcz13_0:w11.cell? ⟨gb118,0,none⟩=some (.int .i64 a0_0):=(Zb BK118.out 0).trans rfl;have hcz13_1:w11.cell? ⟨gb118,1,none⟩=some (.int .i64 0):=(Zb BK118.out 1).trans rfl;have hcz13_2:w11.cell? ⟨gb118,2,none⟩=some (.int .i64 0):=(Zb BK118.out 2).trans rfl;have hcz13_3:w11.cell? ⟨gb118,3,none⟩=some (.int .i64 0):=(Zb BK118.out 3).trans rfl;have hcz13_4:w11.cell? ⟨gb118,4,none⟩=some (.int .i64 0):=(Zb BK118.out 4).trans rfl;have hcz13_5:w11.cell? ⟨gb118,5,none⟩=some (.int .i64 0):=(Zb BK118.out 5).trans rfl;have hfz13_0:=Zc BK118.out 0;have hfz13_1:=Zc BK118.out 1;have hfz13_2:=Zc BK118.out 2;have hfz13_3:=Zc BK118.out 3;have hfz13_4:=Zc BK118.out 4;have hfz13_5:=Zc BK118.out 5)|((with_reducible refine Ym (t:=53) (p:=16) rfl ?_);refine Yl (t:=53) (p:=16) (v:= ?vo_w14) (w1:=((((w11.setCell ⟨gb118,1,none⟩ (.int .i64 a0_1)).setCell ⟨gb118,3,none⟩ (.int .i64 a0_3)).setCell ⟨gb118,4,none⟩ (.int .i64 a0_4)).setCell ⟨gb118,5,none⟩ (.int .i64 a0_5))) ?hg ?ho ?hn ?hr ?_;(case ho=>rfl);(case hg=>rfl);(case hn=>rfl);(case hr=>exact z3_12);intro w14 hw;have n0_:Aside0 (w14.heap[gb116]? =some (.cells #[.int .i64 a0_0,.int .i64 a0_1,.int .i64 a0_2,.int .i64 a0_3,.int .i64 a0_4,.int .i64 a0_5] 77 (0,0))):=⟨(by rw[hw];exact(by(with_reducible repeat(first|refine blk_drewN ?_ _|refine blk_drew ?_|refine blk_alloc ?_ _));refine blk_far ?_ NB116_118.out _;(with_reducible repeat(first|refine blk_drewN ?_ _|refine blk_drew ?_|refine blk_alloc ?_ _));refine blk_far ?_ NB116_118.out _;(with_reducible repeat(first|refine blk_drewN ?_ _|refine blk_drew ?_|refine blk_alloc ?_ _));refine blk_far ?_ NB116_118.out _;(with_reducible repeat(first|refine blk_drewN ?_ _|refine blk_drew ?_|refine blk_alloc ?_ _));refine blk_far ?_ NB116_118.out _;(with_reducible repeat(first|refine blk_drewN ?_ _|refine blk_drew ?_|refine blk_alloc ?_ _));exact BK116.out))⟩;have n1_:Aside0 (w14.heap[gb117]? =some (.cells #[.int .i64 0,.int .i64 0,.int .i64 0,.int .i64 0,.int .i64 0,.int .i64 0] 77 (0,0))):=⟨(by rw[hw];exact(by(with_reducible repeat(first|refine blk_drewN ?_ _|refine blk_drew ?_|refine blk_alloc ?_ _));refine blk_far ?_ NB117_118.out _;(with_reducible repeat(first|refine blk_drewN ?_ _|refine blk_drew ?_|refine blk_alloc ?_ _));refine blk_far ?_ NB117_118.out _;(with_reducible repeat(first|refine blk_drewN ?_ _|refine blk_drew ?_|refine blk_alloc ?_ _));refine blk_far ?_ NB117_118.out _;(with_reducible repeat(first|refine blk_drewN ?_ _|refine blk_drew ?_|refine blk_alloc ?_ _));refine blk_far ?_ NB117_118.out _;(with_reducible repeat(first|refine blk_drewN ?_ _|refine blk_drew ?_|refine blk_alloc ?_ _));exact BK117.out))⟩;have n2_:Aside0 (w14.heap[gb118]? =some (.cells #[.int .i64 a0_0,.int .i64 a0_1,.int .i64 0,.int .i64 a0_3,.int .i64 a0_4,.int .i64 a0_5] 77 (0,0))):=⟨(by rw[hw];exact(by(with_reducible repeat(first|refine blk_drewN ?_ _|refine blk_drew ?_|refine blk_alloc ?_ _));refine blk_put (cs:= #[.int .i64 a0_0,.int .i64 a0_1,.int .i64 0,.int .i64 a0_3,.int .i64 a0_4,.int .i64 0]) ?_ 5 _ rfl;(with_reducible repeat(first|refine blk_drewN ?_ _|refine blk_drew ?_|refine blk_alloc ?_ _));refine blk_put (cs:= #[.int .i64 a0_0,.int .i64 a0_1,.int .i64 0,.int .i64 a0_3,.int .i64 0,.int .i64 0]) ?_ 4 _ rfl;(with_reducible repeat(first|refine blk_drewN ?_ _|refine blk_drew ?_|refine blk_alloc ?_ _));refine blk_put (cs:= #[.int .i64 a0_0,.int .i64 a0_1,.int .i64 0,.int .i64 0,.int .i64 0,.int .i64 0]) ?_ 3 _ rfl;(with_reducible repeat(first|refine blk_drewN ?_ _|refine blk_drew ?_|refine blk_alloc ?_ _));refine blk_put (cs:= #[.int .i64 a0_0,.int .i64 0,.int .i64 0,.int .i64 0,.int .i64 0,.int .i64 0]) ?_ 1 _ rfl;(with_reducible repeat(first|refine blk_drewN ?_ _|refine blk_drew ?_|refine blk_alloc ?_ _));exact BK118.out))⟩;have n3_:Aside0 (Below w.heap.size w w14):=⟨z3_3⟩;clear hw;clear BK116;clear BK117;clear BK118;clear HB;have BK116:=n0_;have BK117:=n1_;have BK118:=n2_;have HB:=n3_;clear n0_ n1_ n2_ n3_;have hcz15_0:w14.cell? ⟨gb118,0,none⟩=some (.int .i64 a0_0):=(Zb BK118.out 0).trans rfl;have hcz15_1:w14.cell? ⟨gb118,1,none⟩=some (.int .i64 a0_1):=(Zb BK118.out 1).trans rfl;have hcz15_2:w14.cell? ⟨gb118,2,none⟩=some (.int .i64 0):=(Zb BK118.out 2).trans rfl;have hcz15_3:w14.cell? ⟨gb118,3,none⟩=some (.int .i64 a0_3):=(Zb BK118.out 3).trans rfl;have hcz15_4:w14.cell? ⟨gb118,4,none⟩=some (.int .i64 a0_4):=(Zb BK118.out 4).trans rfl;have hcz15_5:w14.cell? ⟨gb118,5,none⟩=some (.int .i64 a0_5):=(Zb BK118.out 5).trans rfl;have hfz15_0:=Zc BK118.out 0;have hfz15_1:=Zc BK118.out 1;have hfz15_2:=Zc BK118.out 2;have hfz15_3:=Zc BK118.out 3;have hfz15_4:=Zc BK118.out 4;have hfz15_5:=Zc BK118.out 5;have hcz16_0:w14.cell? ⟨gb117,0,none⟩=some (.int .i64 0):=(Zb BK117.out 0).trans rfl;have hcz16_1:w14.cell? ⟨gb117,1,none⟩=some (.int .i64 0):=(Zb BK117.out 1).trans rfl;have hcz16_2:w14.cell? ⟨gb117,2,none⟩=some (.int .i64 0):=(Zb BK117.out 2).trans rfl;have hcz16_3:w14.cell? ⟨gb117,3,none⟩=some (.int .i64 0):=(Zb BK117.out 3).trans rfl;have hcz16_4:w14.cell? ⟨gb117,4,none⟩=some (.int .i64 0):=(Zb BK117.out 4).trans rfl;have hcz16_5:w14.cell? ⟨gb117,5,none⟩=some (.int .i64 0):=(Zb BK117.out 5).trans rfl;have hfz16_0:=Zc BK117.out 0;have hfz16_1:=Zc BK117.out 1;have hfz16_2:=Zc BK117.out 2;have hfz16_3:=Zc BK117.out 3;have hfz16_4:=Zc BK117.out 4;have hfz16_5:=Zc BK117.out 5)|((with_reducible refine Ym (t:=77) (p:=2) rfl ?_);refine Yl (t:=77) (p:=2) (v:= ?vo_w17) (w1:=((((((w14.setCell ⟨gb117,0,none⟩ (.int .i64 a0_0)).setCell ⟨gb117,1,none⟩ (.int .i64 a0_1)).setCell ⟨gb117,2,none⟩ (.int .i64 0)).setCell ⟨gb117,3,none⟩ (.int .i64 a0_3)).setCell ⟨gb117,4,none⟩ (.int .i64 a0_4)).setCell ⟨gb117,5,none⟩ (.int .i64 a0_5))) ?hg ?ho ?hn ?hr ?_;(case ho=>rfl);(case hg=>rfl);(case hn=>rfl);(case hr=>exact z3_12);intro w17 hw;have n0_:Aside0 (w17.heap[gb116]? =some (.cells #[.int .i64 a0_0,.int .i64 a0_1,.int .i64 a0_2,.int .i64 a0_3,.int .i64 a0_4,.int .i64 a0_5] 77 (0,0))):=⟨z3_11⟩;have n1_:Aside0 (w17.heap[gb117]? =some (.cells #[.int .i64 a0_0,.int .i64 a0_1,.int .i64 0,.int .i64 a0_3,.int .i64 a0_4,.int .i64 a0_5] 77 (0,0))):=⟨(by rw[hw];exact(by(with_reducible repeat(first|refine blk_drewN ?_ _|refine blk_drew ?_|refine blk_alloc ?_ _));refine blk_put (cs:= #[.int .i64 a0_0,.int .i64 a0_1,.int .i64 0,.int .i64 a0_3,.int .i64 a0_4,.int .i64 0]) ?_ 5 _ rfl;(with_reducible repeat(first|refine blk_drewN ?_ _|refine blk_drew ?_|refine blk_alloc ?_ _));refine blk_put (cs:= #[.int .i64 a0_0,.int .i64 a0_1,.int .i64 0,.int .i64 a0_3,.int .i64 0,.int .i64 0]) ?_ 4 _ rfl;(with_reducible repeat(first|refine blk_drewN ?_ _|refine blk_drew ?_|refine blk_alloc ?_ _));refine blk_put (cs:= #[.int .i64 a0_0,.int .i64 a0_1,.int .i64 0,.int .i64 0,.int .i64 0,.int .i64 0]) ?_ 3 _ rfl;(with_reducible repeat(first|refine blk_drewN ?_ _|refine blk_drew ?_|refine blk_alloc ?_ _));refine blk_put (cs:= #[.int .i64 a0_0,.int .i64 a0_1,.int .i64 0,.int .i64 0,.int .i64 0,.int .i64 0]) ?_ 2 _ rfl;(with_reducible repeat(first|refine blk_drewN ?_ _|refine blk_drew ?_|refine blk_alloc ?_ _));refine blk_put (cs:= #[.int .i64 a0_0,.int .i64 0,.int .i64 0,.int .i64 0,.int .i64 0,.int .i64 0]) ?_ 1 _ rfl;(with_reducible repeat(first|refine blk_drewN ?_ _|refine blk_drew ?_|refine blk_alloc ?_ _));refine blk_put (cs:= #[.int .i64 0,.int .i64 0,.int .i64 0,.int .i64 0,.int .i64 0,.int .i64 0]) ?_ 0 _ rfl;(with_reducible repeat(first|refine blk_drewN ?_ _|refine blk_drew ?_|refine blk_alloc ?_ _));exact BK117.out))⟩;have n2_:Aside0 (w17.heap[gb118]? =some (.cells #[.int .i64 a0_0,.int .i64 a0_1,.int .i64 0,.int .i64 a0_3,.int .i64 a0_4,.int .i64 a0_5] 77 (0,0))):=⟨z3_10⟩;have n3_:Aside0 (Below w.heap.size w w17):=⟨z3_3⟩;clear hw;clear BK116;clear BK117;clear BK118;clear HB;have BK116:=n0_;have BK117:=n1_;have BK118:=n2_;have HB:=n3_;clear n0_ n1_ n2_ n3_))
  refine bodyPost_ret (results_cell_row rfl _ _ gb117 77 #[.int .i64 a0_0,.int .i64 a0_1,.int .i64 0,.int .i64 a0_3,.int .i64 a0_4,.int .i64 a0_5] (0,0) _ rfl z3_8 Tryz.underlying77 rfl (by kernel_rfl)) rfl ?_
  exact⟨by first|rfl|(simp[errW_none,errW_some]<;>rfl)|(simp[*,errW_none,errW_some]<;>rfl)|(simp[*,errW_none,errW_some,i64_w];done),by repeat(first|(with_reducible first|exact HB.out|apply Zh|apply Ze|apply Zd|refine Zg ?_ GE116.out|refine Zg ?_ GE117.out|refine Zg ?_ GE118.out)|exact HB.out)⟩
 ·rw[if_neg c2] at H
  have c2b0:(a0_0==1)=false:=beq_eq_false_iff_ne.mpr c2
  have c2b1:(a0_0 != 1)=true:=bne_iff_ne.mpr c2
  by_cases c18:a0_0=2
  ·rw[if_pos c18] at H
   have c18b0:(a0_0==2)=true:=beq_iff_eq.mpr c18
   have c18b1:(a0_0 != 2)=false:=bne_eq_false_iff_eq.mpr c18
   clear c18
   simp only[Option.some.injEq,Prod.mk.injEq] at H
   obtain⟨rfl,rfl,rfl,rfl,rfl,rfl⟩:=H
   go_enter Tryz.func107,Tryz.ntmps107
   go_wp2_with (first|((with_reducible refine Zr (N:=1) rfl ?_);refine Zs ?hg (N:=1) ?hd (cs:= #[.int .i64 a0_0,.int .i64 a0_1,.int .i64 a0_2,.int .i64 a0_3,.int .i64 a0_4,.int .i64 a0_5]) (t:=77) ?hr ?_;(case hd=>rfl);(case hg=>rfl);(case hr=>exact z3_12);intro gb116 hg w19 hbox hb;have BK116:=Za (hbox);have GW116:=Za ((z3_17:w.heap.size≤gb116));have GE116:=Za ((z3_17:w.heap.size≤gb116));replace HB:=Za (Zi z3_0 hb);clear hb hbox hg)|((with_reducible refine Zr (N:=2) rfl ?_);refine Zs ?hg (N:=2) ?hd (cs:= #[.int .i64 0,.int .i64 0,.int .i64 0,.int .i64 0,.int .i64 0,.int .i64 0]) (t:=77) ?hr ?_;(case hd=>rfl);(case hg=>rfl);(case hr=>exact z3_12);intro gb117 hg w20 hbox hb;have BK117:=Za (hbox);have GW117:=Za ((by rw[hg];exact(Zt z3_9):w.heap.size≤gb117));have GE117:=Za ((by rw[hg];exact(Zt z3_9):w.heap.size≤gb117));replace HB:=Za (Zi z3_9 hb);have NB116_117:=Za ((z3_15:gb116≠gb117));have NB117_116:=Za ((z3_16:gb117≠gb116));replace BK116:=Za (Zk (g:=gb116) (o:= .cells #[.int .i64 a0_0,.int .i64 a0_1,.int .i64 a0_2,.int .i64 a0_3,.int .i64 a0_4,.int .i64 a0_5] 77 (0,0)) z3_4 hb);clear hb hbox hg;have hnb21:=NB116_117.out;have hnc21:=NB117_116.out;have hcz22_0:w20.cell? ⟨gb116,0,none⟩=some (.int .i64 a0_0):=(Zb BK116.out 0).trans rfl;have hcz22_1:w20.cell? ⟨gb116,1,none⟩=some (.int .i64 a0_1):=(Zb BK116.out 1).trans rfl;have hcz22_2:w20.cell? ⟨gb116,2,none⟩=some (.int .i64 a0_2):=(Zb BK116.out 2).trans rfl;have hcz22_3:w20.cell? ⟨gb116,3,none⟩=some (.int .i64 a0_3):=(Zb BK116.out 3).trans rfl;have hcz22_4:w20.cell? ⟨gb116,4,none⟩=some (.int .i64 a0_4):=(Zb BK116.out 4).trans rfl;have hcz22_5:w20.cell? ⟨gb116,5,none⟩=some (.int .i64 a0_5):=(Zb BK116.out 5).trans rfl;have hfz22_0:=Zc BK116.out 0;have hfz22_1:=Zc BK116.out 1;have hfz22_2:=Zc BK116.out 2;have hfz22_3:=Zc BK116.out 3;have hfz22_4:=Zc BK116.out 4;have hfz22_5:=Zc BK116.out 5)|((with_reducible refine Zr (N:=3) rfl ?_);refine Zs ?hg (N:=3) ?hd (cs:= #[.int .i64 0,.int .i64 0,.int .i64 0,.int .i64 0,.int .i64 0,.int .i64 0]) (t:=77) ?hr ?_;(case hd=>rfl);(case hg=>rfl);(case hr=>exact z3_12);intro gb118 hg w23 hbox hb;have BK118:=Za (hbox);have GW118:=Za ((by rw[hg];exact(Zt z3_7):w.heap.size≤gb118));have GE118:=Za ((by rw[hg];exact(Zt z3_7):w.heap.size≤gb118));replace HB:=Za (Zi z3_7 hb);have NB116_118:=Za ((z3_15:gb116≠gb118));have NB118_116:=Za ((z3_16:gb118≠gb116));replace BK116:=Za (Zk (g:=gb116) (o:= .cells #[.int .i64 a0_0,.int .i64 a0_1,.int .i64 a0_2,.int .i64 a0_3,.int .i64 a0_4,.int .i64 a0_5] 77 (0,0)) z3_4 hb);have NB117_118:=Za ((z3_18:gb117≠gb118));have NB118_117:=Za ((z3_19:gb118≠gb117));replace BK117:=Za (Zk (g:=gb117) (o:= .cells #[.int .i64 0,.int .i64 0,.int .i64 0,.int .i64 0,.int .i64 0,.int .i64 0] 77 (0,0)) z3_8 hb);clear hb hbox hg;have hnb24:=NB118_116.out;have hnc24:=NB116_118.out;have hnb25:=NB118_117.out;have hnc25:=NB117_118.out;have hcz26_0:w23.cell? ⟨gb118,0,none⟩=some (.int .i64 0):=(Zb BK118.out 0).trans rfl;have hcz26_1:w23.cell? ⟨gb118,1,none⟩=some (.int .i64 0):=(Zb BK118.out 1).trans rfl;have hcz26_2:w23.cell? ⟨gb118,2,none⟩=some (.int .i64 0):=(Zb BK118.out 2).trans rfl;have hcz26_3:w23.cell? ⟨gb118,3,none⟩=some (.int .i64 0):=(Zb BK118.out 3).trans rfl;have hcz26_4:w23.cell? ⟨gb118,4,none⟩=some (.int .i64 0):=(Zb BK118.out 4).trans rfl;have hcz26_5:w23.cell? ⟨gb118,5,none⟩=some (.int .i64 0):=(Zb BK118.out 5).trans rfl;have hfz26_0:=Zc BK118.out 0;have hfz26_1:=Zc BK118.out 1;have hfz26_2:=Zc BK118.out 2;have hfz26_3:=Zc BK118.out 3;have hfz26_4:=Zc BK118.out 4;have hfz26_5:=Zc BK118.out 5)|((with_reducible refine Ym (t:=77) (p:=3) rfl ?_);refine Yl (t:=77) (p:=3) (v:= ?vo_w27) (w1:=((((((w23.setCell ⟨gb118,0,none⟩ (.int .i64 a0_0)).setCell ⟨gb118,1,none⟩ (.int .i64 0)).setCell ⟨gb118,2,none⟩ (.int .i64 0)).setCell ⟨gb118,3,none⟩ (.int .i64 0)).setCell ⟨gb118,4,none⟩ (.int .i64 0)).setCell ⟨gb118,5,none⟩ (.int .i64 0))) ?hg ?ho ?hn ?hr ?_;(case ho=>rfl);(case hg=>rfl);(case hn=>rfl);(case hr=>exact z3_12);intro w27 hw;have n0_:Aside0 (w27.heap[gb116]? =some (.cells #[.int .i64 a0_0,.int .i64 a0_1,.int .i64 a0_2,.int .i64 a0_3,.int .i64 a0_4,.int .i64 a0_5] 77 (0,0))):=⟨z3_6⟩;have n1_:Aside0 (w27.heap[gb117]? =some (.cells #[.int .i64 0,.int .i64 0,.int .i64 0,.int .i64 0,.int .i64 0,.int .i64 0] 77 (0,0))):=⟨z3_5⟩;have n2_:Aside0 (w27.heap[gb118]? =some (.cells #[.int .i64 a0_0,.int .i64 0,.int .i64 0,.int .i64 0,.int .i64 0,.int .i64 0] 77 (0,0))):=⟨z3_1⟩;have n3_:Aside0 (Below w.heap.size w w27):=⟨z3_3⟩;clear hw;clear BK116;clear BK117;clear BK118;clear HB;have BK116:=n0_;have BK117:=n1_;have BK118:=n2_;have HB:=n3_;clear n0_ n1_ n2_ n3_;have hcz28_0:w27.cell? ⟨gb116,0,none⟩=some (.int .i64 a0_0):=(Zb BK116.out 0).trans rfl;have hcz28_1:w27.cell? ⟨gb116,1,none⟩=some (.int .i64 a0_1):=(Zb BK116.out 1).trans rfl;have hcz28_2:w27.cell? ⟨gb116,2,none⟩=some (.int .i64 a0_2):=(Zb BK116.out 2).trans rfl;have hcz28_3:w27.cell? ⟨gb116,3,none⟩=some (.int .i64 a0_3):=(Zb BK116.out 3).trans rfl;have hcz28_4:w27.cell? ⟨gb116,4,none⟩=some (.int .i64 a0_4):=(Zb BK116.out 4).trans rfl;have hcz28_5:w27.cell? ⟨gb116,5,none⟩=some (.int .i64 a0_5):=(Zb BK116.out 5).trans rfl;have hfz28_0:=Zc BK116.out 0;have hfz28_1:=Zc BK116.out 1;have hfz28_2:=Zc BK116.out 2;have hfz28_3:=Zc BK116.out 3;have hfz28_4:=Zc BK116.out 4;have hfz28_5:=Zc BK116.out 5;have hcz29_0:w27.cell? ⟨gb118,0,none⟩=some (.int .i64 a0_0):=(Zb BK118.out 0).trans rfl;have hcz29_1:w27.cell? ⟨gb118,1,none⟩=some (.int .i64 0):=(Zb BK118.out 1).trans rfl;have hcz29_2:w27.cell? ⟨gb118,2,none⟩=some (.int .i64 0):=(Zb BK118.out 2).trans rfl;have hcz29_3:w27.cell? ⟨gb118,3,none⟩=some (.int .i64 0):=(Zb BK118.out 3).trans rfl;have hcz29_4:w27.cell? ⟨gb118,4,none⟩=some (.int .i64 0):=(Zb BK118.out 4).trans rfl;have hcz29_5:w27.cell? ⟨gb118,5,none⟩=some (.int .i64 0):=(Zb BK118.out 5).trans rfl;have hfz29_0:=Zc BK118.out 0;have hfz29_1:=Zc BK118.out 1;have hfz29_2:=Zc BK118.out 2;have hfz29_3:=Zc BK118.out 3;have hfz29_4:=Zc BK118.out 4;have hfz29_5:=Zc BK118.out 5;have hcz30_0:w27.cell? ⟨gb117,0,none⟩=some (.int .i64 0):=(Zb BK117.out 0).trans rfl;have hcz30_1:w27.cell? ⟨gb117,1,none⟩=some (.int .i64 0):=(Zb BK117.out 1).trans rfl;have hcz30_2:w27.cell? ⟨gb117,2,none⟩=some (.int .i64 0):=(Zb BK117.out 2).trans rfl;have hcz30_3:w27.cell? ⟨gb117,3,none⟩=some (.int .i64 0):=(Zb BK117.out 3).trans rfl;have hcz30_4:w27.cell? ⟨gb117,4,none⟩=some (.int .i64 0):=(Zb BK117.out 4).trans rfl;have hcz30_5:w27.cell? ⟨gb117,5,none⟩=some (.int .i64 0):=(Zb BK117.out 5).trans rfl;have hfz30_0:=Zc BK117.out 0;have hfz30_1:=Zc BK117.out 1;have hfz30_2:=Zc BK117.out 2;have hfz30_3:=Zc BK117.out 3;have hfz30_4:=Zc BK117.out 4;have hfz30_5:=Zc BK117.out 5)|((with_reducible refine Ym (t:=77) (p:=2) rfl ?_);refine Yl (t:=77) (p:=2) (v:= ?vo_w31) (w1:=((((((((w27.setCell ⟨gb118,1,none⟩ (.int .i64 a0_1)).setCell ⟨gb118,2,none⟩ (.int .i64 a0_2)).setCell ⟨gb117,0,none⟩ (.int .i64 a0_0)).setCell ⟨gb117,1,none⟩ (.int .i64 a0_1)).setCell ⟨gb117,2,none⟩ (.int .i64 a0_2)).setCell ⟨gb117,3,none⟩ (.int .i64 0)).setCell ⟨gb117,4,none⟩ (.int .i64 0)).setCell ⟨gb117,5,none⟩ (.int .i64 0))) ?hg ?ho ?hn ?hr ?_;(case ho=>rfl);(case hg=>rfl);(case hn=>rfl);(case hr=>exact z3_12);intro w31 hw;have n0_:Aside0 (w31.heap[gb116]? =some (.cells #[.int .i64 a0_0,.int .i64 a0_1,.int .i64 a0_2,.int .i64 a0_3,.int .i64 a0_4,.int .i64 a0_5] 77 (0,0))):=⟨(by rw[hw];exact(by(with_reducible repeat(first|refine blk_drewN ?_ _|refine blk_drew ?_|refine blk_alloc ?_ _));refine blk_far ?_ NB116_117.out _;(with_reducible repeat(first|refine blk_drewN ?_ _|refine blk_drew ?_|refine blk_alloc ?_ _));refine blk_far ?_ NB116_117.out _;(with_reducible repeat(first|refine blk_drewN ?_ _|refine blk_drew ?_|refine blk_alloc ?_ _));refine blk_far ?_ NB116_117.out _;(with_reducible repeat(first|refine blk_drewN ?_ _|refine blk_drew ?_|refine blk_alloc ?_ _));refine blk_far ?_ NB116_117.out _;(with_reducible repeat(first|refine blk_drewN ?_ _|refine blk_drew ?_|refine blk_alloc ?_ _));refine blk_far ?_ NB116_117.out _;(with_reducible repeat(first|refine blk_drewN ?_ _|refine blk_drew ?_|refine blk_alloc ?_ _));refine blk_far ?_ NB116_117.out _;(with_reducible repeat(first|refine blk_drewN ?_ _|refine blk_drew ?_|refine blk_alloc ?_ _));refine blk_far ?_ NB116_118.out _;(with_reducible repeat(first|refine blk_drewN ?_ _|refine blk_drew ?_|refine blk_alloc ?_ _));refine blk_far ?_ NB116_118.out _;(with_reducible repeat(first|refine blk_drewN ?_ _|refine blk_drew ?_|refine blk_alloc ?_ _));exact BK116.out))⟩;have n1_:Aside0 (w31.heap[gb117]? =some (.cells #[.int .i64 a0_0,.int .i64 a0_1,.int .i64 a0_2,.int .i64 0,.int .i64 0,.int .i64 0] 77 (0,0))):=⟨(by rw[hw];exact(by(with_reducible repeat(first|refine blk_drewN ?_ _|refine blk_drew ?_|refine blk_alloc ?_ _));refine blk_put (cs:= #[.int .i64 a0_0,.int .i64 a0_1,.int .i64 a0_2,.int .i64 0,.int .i64 0,.int .i64 0]) ?_ 5 _ rfl;(with_reducible repeat(first|refine blk_drewN ?_ _|refine blk_drew ?_|refine blk_alloc ?_ _));refine blk_put (cs:= #[.int .i64 a0_0,.int .i64 a0_1,.int .i64 a0_2,.int .i64 0,.int .i64 0,.int .i64 0]) ?_ 4 _ rfl;(with_reducible repeat(first|refine blk_drewN ?_ _|refine blk_drew ?_|refine blk_alloc ?_ _));refine blk_put (cs:= #[.int .i64 a0_0,.int .i64 a0_1,.int .i64 a0_2,.int .i64 0,.int .i64 0,.int .i64 0]) ?_ 3 _ rfl;(with_reducible repeat(first|refine blk_drewN ?_ _|refine blk_drew ?_|refine blk_alloc ?_ _));refine blk_put (cs:= #[.int .i64 a0_0,.int .i64 a0_1,.int .i64 0,.int .i64 0,.int .i64 0,.int .i64 0]) ?_ 2 _ rfl;(with_reducible repeat(first|refine blk_drewN ?_ _|refine blk_drew ?_|refine blk_alloc ?_ _));refine blk_put (cs:= #[.int .i64 a0_0,.int .i64 0,.int .i64 0,.int .i64 0,.int .i64 0,.int .i64 0]) ?_ 1 _ rfl;(with_reducible repeat(first|refine blk_drewN ?_ _|refine blk_drew ?_|refine blk_alloc ?_ _));refine blk_put (cs:= #[.int .i64 0,.int .i64 0,.int .i64 0,.int .i64 0,.int .i64 0,.int .i64 0]) ?_ 0 _ rfl;(with_reducible repeat(first|refine blk_drewN ?_ _|refine blk_drew ?_|refine blk_alloc ?_ _));refine blk_far ?_ NB117_118.out _;(with_reducible repeat(first|refine blk_drewN ?_ _|refine blk_drew ?_|refine blk_alloc ?_ _));refine blk_far ?_ NB117_118.out _;(with_reducible repeat(first|refine blk_drewN ?_ _|refine blk_drew ?_|refine blk_alloc ?_ _));exact BK117.out))⟩;have n2_:Aside0 (w31.heap[gb118]? =some (.cells #[.int .i64 a0_0,.int .i64 a0_1,.int .i64 a0_2,.int .i64 0,.int .i64 0,.int .i64 0] 77 (0,0))):=⟨(by rw[hw];exact(by(with_reducible repeat(first|refine blk_drewN ?_ _|refine blk_drew ?_|refine blk_alloc ?_ _));refine blk_far ?_ NB118_117.out _;(with_reducible repeat(first|refine blk_drewN ?_ _|refine blk_drew ?_|refine blk_alloc ?_ _));refine blk_far ?_ NB118_117.out _;(with_reducible repeat(first|refine blk_drewN ?_ _|refine blk_drew ?_|refine blk_alloc ?_ _));refine blk_far ?_ NB118_117.out _;(with_reducible repeat(first|refine blk_drewN ?_ _|refine blk_drew ?_|refine blk_alloc ?_ _));refine blk_far ?_ NB118_117.out _;(with_reducible repeat(first|refine blk_drewN ?_ _|refine blk_drew ?_|refine blk_alloc ?_ _));refine blk_far ?_ NB118_117.out _;(with_reducible repeat(first|refine blk_drewN ?_ _|refine blk_drew ?_|refine blk_alloc ?_ _));refine blk_far ?_ NB118_117.out _;(with_reducible repeat(first|refine blk_drewN ?_ _|refine blk_drew ?_|refine blk_alloc ?_ _));refine blk_put (cs:= #[.int .i64 a0_0,.int .i64 a0_1,.int .i64 0,.int .i64 0,.int .i64 0,.int .i64 0]) ?_ 2 _ rfl;(with_reducible repeat(first|refine blk_drewN ?_ _|refine blk_drew ?_|refine blk_alloc ?_ _));refine blk_put (cs:= #[.int .i64 a0_0,.int .i64 0,.int .i64 0,.int .i64 0,.int .i64 0,.int .i64 0]) ?_ 1 _ rfl;(with_reducible repeat(first|refine blk_drewN ?_ _|refine blk_drew ?_|refine blk_alloc ?_ _));exact BK118.out))⟩;have n3_:Aside0 (Below w.heap.size w w31):=⟨z3_3⟩;clear hw;clear BK116;clear BK117;clear BK118;clear HB;have BK116:=n0_;have BK117:=n1_;have BK118:=n2_;have HB:=n3_;clear n0_ n1_ n2_ n3_))
   refine bodyPost_ret (results_cell_row rfl _ _ gb117 77 #[.int .i64 a0_0,.int .i64 a0_1,.int .i64 a0_2,.int .i64 0,.int .i64 0,.int .i64 0] (0,0) _ rfl z3_8 Tryz.underlying77 rfl (by kernel_rfl)) rfl ?_
   exact⟨by first|rfl|(simp[errW_none,errW_some]<;>rfl)|(simp[*,errW_none,errW_some]<;>rfl)|(simp[*,errW_none,errW_some,i64_w];done),by repeat(first|(with_reducible first|exact HB.out|apply Zh|apply Ze|apply Zd|refine Zg ?_ GE116.out|refine Zg ?_ GE117.out|refine Zg ?_ GE118.out)|exact HB.out)⟩
  ·rw[if_neg c18] at H
   have c18b0:(a0_0==2)=false:=beq_eq_false_iff_ne.mpr c18
   have c18b1:(a0_0 != 2)=true:=bne_iff_ne.mpr c18
   have HC32:=Za H
   clear H
   go_enter Tryz.func107,Tryz.ntmps107
   go_upto_if 25 with(first|((with_reducible refine Zr (N:=1) rfl ?_);refine Zs ?hg (N:=1) ?hd (cs:= #[.int .i64 a0_0,.int .i64 a0_1,.int .i64 a0_2,.int .i64 a0_3,.int .i64 a0_4,.int .i64 a0_5]) (t:=77) ?hr ?_;(case hd=>rfl);(case hg=>rfl);(case hr=>exact z3_12);intro gb116 hg w33 hbox hb;have BK116:=Za (hbox);have GW116:=Za ((z3_17:w.heap.size≤gb116));have GE116:=Za ((z3_17:w.heap.size≤gb116));replace HB:=Za (Zi z3_0 hb);clear hb hbox hg)|((with_reducible refine Zr (N:=2) rfl ?_);refine Zs ?hg (N:=2) ?hd (cs:= #[.int .i64 0,.int .i64 0,.int .i64 0,.int .i64 0,.int .i64 0,.int .i64 0]) (t:=77) ?hr ?_;(case hd=>rfl);(case hg=>rfl);(case hr=>exact z3_12);intro gb117 hg w34 hbox hb;have BK117:=Za (hbox);have GW117:=Za ((by rw[hg];exact(Zt z3_9):w.heap.size≤gb117));have GE117:=Za ((by rw[hg];exact(Zt z3_9):w.heap.size≤gb117));replace HB:=Za (Zi z3_9 hb);have NB116_117:=Za ((z3_15:gb116≠gb117));have NB117_116:=Za ((z3_16:gb117≠gb116));replace BK116:=Za (Zk (g:=gb116) (o:= .cells #[.int .i64 a0_0,.int .i64 a0_1,.int .i64 a0_2,.int .i64 a0_3,.int .i64 a0_4,.int .i64 a0_5] 77 (0,0)) z3_4 hb);clear hb hbox hg;have hnb35:=NB116_117.out;have hnc35:=NB117_116.out;have hcz36_0:w34.cell? ⟨gb116,0,none⟩=some (.int .i64 a0_0):=(Zb BK116.out 0).trans rfl;have hcz36_1:w34.cell? ⟨gb116,1,none⟩=some (.int .i64 a0_1):=(Zb BK116.out 1).trans rfl;have hcz36_2:w34.cell? ⟨gb116,2,none⟩=some (.int .i64 a0_2):=(Zb BK116.out 2).trans rfl;have hcz36_3:w34.cell? ⟨gb116,3,none⟩=some (.int .i64 a0_3):=(Zb BK116.out 3).trans rfl;have hcz36_4:w34.cell? ⟨gb116,4,none⟩=some (.int .i64 a0_4):=(Zb BK116.out 4).trans rfl;have hcz36_5:w34.cell? ⟨gb116,5,none⟩=some (.int .i64 a0_5):=(Zb BK116.out 5).trans rfl;have hfz36_0:=Zc BK116.out 0;have hfz36_1:=Zc BK116.out 1;have hfz36_2:=Zc BK116.out 2;have hfz36_3:=Zc BK116.out 3;have hfz36_4:=Zc BK116.out 4;have hfz36_5:=Zc BK116.out 5)|((with_reducible refine Zr (N:=3) rfl ?_);refine Zs ?hg (N:=3) ?hd (cs:= #[.int .i64 0,.int .i64 0,.int .i64 0,.int .i64 0,.int .i64 0,.int .i64 0]) (t:=77) ?hr ?_;(case hd=>rfl);(case hg=>rfl);(case hr=>exact z3_12);intro gb118 hg w37 hbox hb;have BK118:=Za (hbox);have GW118:=Za ((by rw[hg];exact(Zt z3_7):w.heap.size≤gb118));have GE118:=Za ((by rw[hg];exact(Zt z3_7):w.heap.size≤gb118));replace HB:=Za (Zi z3_7 hb);have NB116_118:=Za ((z3_15:gb116≠gb118));have NB118_116:=Za ((z3_16:gb118≠gb116));replace BK116:=Za (Zk (g:=gb116) (o:= .cells #[.int .i64 a0_0,.int .i64 a0_1,.int .i64 a0_2,.int .i64 a0_3,.int .i64 a0_4,.int .i64 a0_5] 77 (0,0)) z3_4 hb);have NB117_118:=Za ((z3_18:gb117≠gb118));have NB118_117:=Za ((z3_19:gb118≠gb117));replace BK117:=Za (Zk (g:=gb117) (o:= .cells #[.int .i64 0,.int .i64 0,.int .i64 0,.int .i64 0,.int .i64 0,.int .i64 0] 77 (0,0)) z3_8 hb);clear hb hbox hg;have hnb38:=NB118_116.out;have hnc38:=NB116_118.out;have hnb39:=NB118_117.out;have hnc39:=NB117_118.out;have hcz40_0:w37.cell? ⟨gb118,0,none⟩=some (.int .i64 0):=(Zb BK118.out 0).trans rfl;have hcz40_1:w37.cell? ⟨gb118,1,none⟩=some (.int .i64 0):=(Zb BK118.out 1).trans rfl;have hcz40_2:w37.cell? ⟨gb118,2,none⟩=some (.int .i64 0):=(Zb BK118.out 2).trans rfl;have hcz40_3:w37.cell? ⟨gb118,3,none⟩=some (.int .i64 0):=(Zb BK118.out 3).trans rfl;have hcz40_4:w37.cell? ⟨gb118,4,none⟩=some (.int .i64 0):=(Zb BK118.out 4).trans rfl;have hcz40_5:w37.cell? ⟨gb118,5,none⟩=some (.int .i64 0):=(Zb BK118.out 5).trans rfl;have hfz40_0:=Zc BK118.out 0;have hfz40_1:=Zc BK118.out 1;have hfz40_2:=Zc BK118.out 2;have hfz40_3:=Zc BK118.out 3;have hfz40_4:=Zc BK118.out 4;have hfz40_5:=Zc BK118.out 5)|((with_reducible refine Ym (t:=77) (p:=3) rfl ?_);refine Yl (t:=77) (p:=3) (v:= ?vo_w41) (w1:=((((((w37.setCell ⟨gb118,0,none⟩ (.int .i64 a0_0)).setCell ⟨gb118,1,none⟩ (.int .i64 0)).setCell ⟨gb118,2,none⟩ (.int .i64 0)).setCell ⟨gb118,3,none⟩ (.int .i64 0)).setCell ⟨gb118,4,none⟩ (.int .i64 0)).setCell ⟨gb118,5,none⟩ (.int .i64 0))) ?hg ?ho ?hn ?hr ?_;(case ho=>rfl);(case hg=>rfl);(case hn=>rfl);(case hr=>exact z3_12);intro w41 hw;have n0_:Aside0 (w41.heap[gb116]? =some (.cells #[.int .i64 a0_0,.int .i64 a0_1,.int .i64 a0_2,.int .i64 a0_3,.int .i64 a0_4,.int .i64 a0_5] 77 (0,0))):=⟨z3_6⟩;have n1_:Aside0 (w41.heap[gb117]? =some (.cells #[.int .i64 0,.int .i64 0,.int .i64 0,.int .i64 0,.int .i64 0,.int .i64 0] 77 (0,0))):=⟨z3_5⟩;have n2_:Aside0 (w41.heap[gb118]? =some (.cells #[.int .i64 a0_0,.int .i64 0,.int .i64 0,.int .i64 0,.int .i64 0,.int .i64 0] 77 (0,0))):=⟨z3_1⟩;have n3_:Aside0 (Below w.heap.size w w41):=⟨z3_3⟩;clear hw;clear BK116;clear BK117;clear BK118;clear HB;have BK116:=n0_;have BK117:=n1_;have BK118:=n2_;have HB:=n3_;clear n0_ n1_ n2_ n3_;have hcz42_0:w41.cell? ⟨gb116,0,none⟩=some (.int .i64 a0_0):=(Zb BK116.out 0).trans rfl;have hcz42_1:w41.cell? ⟨gb116,1,none⟩=some (.int .i64 a0_1):=(Zb BK116.out 1).trans rfl;have hcz42_2:w41.cell? ⟨gb116,2,none⟩=some (.int .i64 a0_2):=(Zb BK116.out 2).trans rfl;have hcz42_3:w41.cell? ⟨gb116,3,none⟩=some (.int .i64 a0_3):=(Zb BK116.out 3).trans rfl;have hcz42_4:w41.cell? ⟨gb116,4,none⟩=some (.int .i64 a0_4):=(Zb BK116.out 4).trans rfl;have hcz42_5:w41.cell? ⟨gb116,5,none⟩=some (.int .i64 a0_5):=(Zb BK116.out 5).trans rfl;have hfz42_0:=Zc BK116.out 0;have hfz42_1:=Zc BK116.out 1;have hfz42_2:=Zc BK116.out 2;have hfz42_3:=Zc BK116.out 3;have hfz42_4:=Zc BK116.out 4;have hfz42_5:=Zc BK116.out 5))
   (try simp only[Act.put,Zu,Zv,Zw])
   go_cut [25] (fun v25 wc=>∃(kq:Nat) (x25_31:Bool),v25= .bool x25_31∧Aside0 (spec_l04Plain.j0 kq a0_0 x25_31 a0_0 a0_1 a0_2 a0_3 a0_4 a0_5 a0_0 0 0 0 0 0=some (r1,r2,r3,r4,r5,r6))∧Aside0 (kq≤k)∧Aside0 (wc.heap[gb116]? =some (.cells #[.int .i64 a0_0,.int .i64 a0_1,.int .i64 a0_2,.int .i64 a0_3,.int .i64 a0_4,.int .i64 a0_5] 77 (0,0)))∧Aside0 (wc.heap[gb117]? =some (.cells #[.int .i64 0,.int .i64 0,.int .i64 0,.int .i64 0,.int .i64 0,.int .i64 0] 77 (0,0)))∧Aside0 (wc.heap[gb118]? =some (.cells #[.int .i64 a0_0,.int .i64 0,.int .i64 0,.int .i64 0,.int .i64 0,.int .i64 0] 77 (0,0)))∧Aside0 (Below w.heap.size w wc))
   case first=>
    have H:=HC32.out
    clear HC32
    by_cases c43:a0_0=3
    ·rw[if_pos c43] at H
     have c43b0:(a0_0==3)=true:=beq_iff_eq.mpr c43
     have c43b1:(a0_0 != 3)=false:=bne_eq_false_iff_eq.mpr c43
     clear c43
     (first|rw[c43b0]|(simp only[i64_w,i32_w];rw[c43b0])|skip)
     have H':=Za H
     clear H
     go_wp2
     go_meet
     case rel=>exact⟨_,((a0_0==3)),z3_14,H',⟨by first|omega|exact Nat.le_refl _⟩,⟨by(with_reducible repeat(first|refine blk_drewN ?_ _|refine blk_drew ?_|refine blk_alloc ?_ _));exact BK116.out⟩,⟨by(with_reducible repeat(first|refine blk_drewN ?_ _|refine blk_drew ?_|refine blk_alloc ?_ _));exact BK117.out⟩,⟨by(with_reducible repeat(first|refine blk_drewN ?_ _|refine blk_drew ?_|refine blk_alloc ?_ _));exact BK118.out⟩,⟨by repeat(first|(with_reducible first|exact HB.out|apply Zh|apply Ze|apply Zd|refine Zg ?_ GE116.out|refine Zg ?_ GE117.out|refine Zg ?_ GE118.out)|exact HB.out)⟩⟩
    ·rw[if_neg c43] at H
     have c43b0:(a0_0==3)=false:=beq_eq_false_iff_ne.mpr c43
     have c43b1:(a0_0 != 3)=true:=bne_iff_ne.mpr c43
     (first|rw[c43b0]|(simp only[i64_w,i32_w];rw[c43b0])|skip)
     have H':=Za H
     clear H
     go_wp2
     go_meet
     case rel=>exact⟨_,((a0_0==4)),z3_14,H',⟨by first|omega|exact Nat.le_refl _⟩,⟨by(with_reducible repeat(first|refine blk_drewN ?_ _|refine blk_drew ?_|refine blk_alloc ?_ _));exact BK116.out⟩,⟨by(with_reducible repeat(first|refine blk_drewN ?_ _|refine blk_drew ?_|refine blk_alloc ?_ _));exact BK117.out⟩,⟨by(with_reducible repeat(first|refine blk_drewN ?_ _|refine blk_drew ?_|refine blk_alloc ?_ _));exact BK118.out⟩,⟨by repeat(first|(with_reducible first|exact HB.out|apply Zh|apply Ze|apply Zd|refine Zg ?_ GE116.out|refine Zg ?_ GE117.out|refine Zg ?_ GE118.out)|exact HB.out)⟩⟩
   case rest=>
    clear HC32
    (try clear c2);(try clear c2b0);(try clear c2b1);(try clear c18);(try clear c18b0);(try clear c18b1);(try clear hcz36_0);(try clear hcz36_1);(try clear hcz36_2);(try clear hcz36_3);(try clear hcz36_4);(try clear hcz36_5);(try clear hcz40_0);(try clear hcz40_1);(try clear hcz40_2);(try clear hcz40_3);(try clear hcz40_4);(try clear hcz40_5);(try clear hcz42_0);(try clear hcz42_1);(try clear hcz42_2);(try clear hcz42_3);(try clear hcz42_4);(try clear hcz42_5);(try clear hfz36_0);(try clear hfz36_1);(try clear hfz36_2);(try clear hfz36_3);(try clear hfz36_4);(try clear hfz36_5);(try clear hfz40_0);(try clear hfz40_1);(try clear hfz40_2);(try clear hfz40_3);(try clear hfz40_4);(try clear hfz40_5);(try clear hfz42_0);(try clear hfz42_1);(try clear hfz42_2);(try clear hfz42_3);(try clear hfz42_4);(try clear hfz42_5)
    obtain⟨kq,x25_31,rfl,HA,HJ31,BK116,BK117,BK118,HB⟩:=hcut
    cases kq with
    |zero=>exact absurd HA.out (by simp[spec_l04Plain.j0])
    |succ kj31=>
     have H:=HA.out
     clear HA
     simp only[spec_l04Plain.j0] at H
     by_cases c44:x25_31=true
     ·subst c44
      have H1:(some (a0_0,0,0,a0_3,a0_4,a0_5))=some (r1,r2,r3,r4,r5,r6):=by rw[if_pos rfl] at H;exact H
      clear H
      have H:=H1
      clear H1
      simp only[Option.some.injEq,Prod.mk.injEq] at H
      obtain⟨rfl,rfl,rfl,rfl,rfl,rfl⟩:=H
      have hnb45:=NB116_117.out
      have hnc45:=NB117_116.out
      have hnb46:=NB116_118.out
      have hnc46:=NB118_116.out
      have hcz47_0:wc.cell? ⟨gb116,0,none⟩=some (.int .i64 a0_0):=(Zb BK116.out 0).trans rfl
      have hcz47_1:wc.cell? ⟨gb116,1,none⟩=some (.int .i64 a0_1):=(Zb BK116.out 1).trans rfl
      have hcz47_2:wc.cell? ⟨gb116,2,none⟩=some (.int .i64 a0_2):=(Zb BK116.out 2).trans rfl
      have hcz47_3:wc.cell? ⟨gb116,3,none⟩=some (.int .i64 a0_3):=(Zb BK116.out 3).trans rfl
      have hcz47_4:wc.cell? ⟨gb116,4,none⟩=some (.int .i64 a0_4):=(Zb BK116.out 4).trans rfl
      have hcz47_5:wc.cell? ⟨gb116,5,none⟩=some (.int .i64 a0_5):=(Zb BK116.out 5).trans rfl
      have hfz47_0:=Zc BK116.out 0
      have hfz47_1:=Zc BK116.out 1
      have hfz47_2:=Zc BK116.out 2
      have hfz47_3:=Zc BK116.out 3
      have hfz47_4:=Zc BK116.out 4
      have hfz47_5:=Zc BK116.out 5
      have hnb48:=NB118_117.out
      have hnc48:=NB117_118.out
      have hcz49_0:wc.cell? ⟨gb118,0,none⟩=some (.int .i64 a0_0):=(Zb BK118.out 0).trans rfl
      have hcz49_1:wc.cell? ⟨gb118,1,none⟩=some (.int .i64 0):=(Zb BK118.out 1).trans rfl
      have hcz49_2:wc.cell? ⟨gb118,2,none⟩=some (.int .i64 0):=(Zb BK118.out 2).trans rfl
      have hcz49_3:wc.cell? ⟨gb118,3,none⟩=some (.int .i64 0):=(Zb BK118.out 3).trans rfl
      have hcz49_4:wc.cell? ⟨gb118,4,none⟩=some (.int .i64 0):=(Zb BK118.out 4).trans rfl
      have hcz49_5:wc.cell? ⟨gb118,5,none⟩=some (.int .i64 0):=(Zb BK118.out 5).trans rfl
      have hfz49_0:=Zc BK118.out 0
      have hfz49_1:=Zc BK118.out 1
      have hfz49_2:=Zc BK118.out 2
      have hfz49_3:=Zc BK118.out 3
      have hfz49_4:=Zc BK118.out 4
      have hfz49_5:=Zc BK118.out 5
      have hcz50_0:wc.cell? ⟨gb117,0,none⟩=some (.int .i64 0):=(Zb BK117.out 0).trans rfl
      have hcz50_1:wc.cell? ⟨gb117,1,none⟩=some (.int .i64 0):=(Zb BK117.out 1).trans rfl
      have hcz50_2:wc.cell? ⟨gb117,2,none⟩=some (.int .i64 0):=(Zb BK117.out 2).trans rfl
      have hcz50_3:wc.cell? ⟨gb117,3,none⟩=some (.int .i64 0):=(Zb BK117.out 3).trans rfl
      have hcz50_4:wc.cell? ⟨gb117,4,none⟩=some (.int .i64 0):=(Zb BK117.out 4).trans rfl
      have hcz50_5:wc.cell? ⟨gb117,5,none⟩=some (.int .i64 0):=(Zb BK117.out 5).trans rfl
      have hfz50_0:=Zc BK117.out 0
      have hfz50_1:=Zc BK117.out 1
      have hfz50_2:=Zc BK117.out 2
      have hfz50_3:=Zc BK117.out 3
      have hfz50_4:=Zc BK117.out 4
      have hfz50_5:=Zc BK117.out 5
      go_wp2_with (first|((with_reducible refine Ym (t:=77) (p:=2) rfl ?_);refine Yl (t:=77) (p:=2) (v:= ?vo_w51) (w1:=(((((((((wc.setCell ⟨gb118,3,none⟩ (.int .i64 a0_3)).setCell ⟨gb118,4,none⟩ (.int .i64 a0_4)).setCell ⟨gb118,5,none⟩ (.int .i64 a0_5)).setCell ⟨gb117,0,none⟩ (.int .i64 a0_0)).setCell ⟨gb117,1,none⟩ (.int .i64 0)).setCell ⟨gb117,2,none⟩ (.int .i64 0)).setCell ⟨gb117,3,none⟩ (.int .i64 a0_3)).setCell ⟨gb117,4,none⟩ (.int .i64 a0_4)).setCell ⟨gb117,5,none⟩ (.int .i64 a0_5))) ?hg ?ho ?hn ?hr ?_;(case ho=>rfl);(case hg=>rfl);(case hn=>rfl);(case hr=>exact z3_12);intro w51 hw;have n0_:Aside0 (w51.heap[gb116]? =some (.cells #[.int .i64 a0_0,.int .i64 a0_1,.int .i64 a0_2,.int .i64 a0_3,.int .i64 a0_4,.int .i64 a0_5] 77 (0,0))):=⟨(by rw[hw];exact(by(with_reducible repeat(first|refine blk_drewN ?_ _|refine blk_drew ?_|refine blk_alloc ?_ _));refine blk_far ?_ NB116_117.out _;(with_reducible repeat(first|refine blk_drewN ?_ _|refine blk_drew ?_|refine blk_alloc ?_ _));refine blk_far ?_ NB116_117.out _;(with_reducible repeat(first|refine blk_drewN ?_ _|refine blk_drew ?_|refine blk_alloc ?_ _));refine blk_far ?_ NB116_117.out _;(with_reducible repeat(first|refine blk_drewN ?_ _|refine blk_drew ?_|refine blk_alloc ?_ _));refine blk_far ?_ NB116_117.out _;(with_reducible repeat(first|refine blk_drewN ?_ _|refine blk_drew ?_|refine blk_alloc ?_ _));refine blk_far ?_ NB116_117.out _;(with_reducible repeat(first|refine blk_drewN ?_ _|refine blk_drew ?_|refine blk_alloc ?_ _));refine blk_far ?_ NB116_117.out _;(with_reducible repeat(first|refine blk_drewN ?_ _|refine blk_drew ?_|refine blk_alloc ?_ _));refine blk_far ?_ NB116_118.out _;(with_reducible repeat(first|refine blk_drewN ?_ _|refine blk_drew ?_|refine blk_alloc ?_ _));refine blk_far ?_ NB116_118.out _;(with_reducible repeat(first|refine blk_drewN ?_ _|refine blk_drew ?_|refine blk_alloc ?_ _));refine blk_far ?_ NB116_118.out _;(with_reducible repeat(first|refine blk_drewN ?_ _|refine blk_drew ?_|refine blk_alloc ?_ _));exact BK116.out))⟩;have n1_:Aside0 (w51.heap[gb117]? =some (.cells #[.int .i64 a0_0,.int .i64 0,.int .i64 0,.int .i64 a0_3,.int .i64 a0_4,.int .i64 a0_5] 77 (0,0))):=⟨(by rw[hw];exact(by(with_reducible repeat(first|refine blk_drewN ?_ _|refine blk_drew ?_|refine blk_alloc ?_ _));refine blk_put (cs:= #[.int .i64 a0_0,.int .i64 0,.int .i64 0,.int .i64 a0_3,.int .i64 a0_4,.int .i64 0]) ?_ 5 _ rfl;(with_reducible repeat(first|refine blk_drewN ?_ _|refine blk_drew ?_|refine blk_alloc ?_ _));refine blk_put (cs:= #[.int .i64 a0_0,.int .i64 0,.int .i64 0,.int .i64 a0_3,.int .i64 0,.int .i64 0]) ?_ 4 _ rfl;(with_reducible repeat(first|refine blk_drewN ?_ _|refine blk_drew ?_|refine blk_alloc ?_ _));refine blk_put (cs:= #[.int .i64 a0_0,.int .i64 0,.int .i64 0,.int .i64 0,.int .i64 0,.int .i64 0]) ?_ 3 _ rfl;(with_reducible repeat(first|refine blk_drewN ?_ _|refine blk_drew ?_|refine blk_alloc ?_ _));refine blk_put (cs:= #[.int .i64 a0_0,.int .i64 0,.int .i64 0,.int .i64 0,.int .i64 0,.int .i64 0]) ?_ 2 _ rfl;(with_reducible repeat(first|refine blk_drewN ?_ _|refine blk_drew ?_|refine blk_alloc ?_ _));refine blk_put (cs:= #[.int .i64 a0_0,.int .i64 0,.int .i64 0,.int .i64 0,.int .i64 0,.int .i64 0]) ?_ 1 _ rfl;(with_reducible repeat(first|refine blk_drewN ?_ _|refine blk_drew ?_|refine blk_alloc ?_ _));refine blk_put (cs:= #[.int .i64 0,.int .i64 0,.int .i64 0,.int .i64 0,.int .i64 0,.int .i64 0]) ?_ 0 _ rfl;(with_reducible repeat(first|refine blk_drewN ?_ _|refine blk_drew ?_|refine blk_alloc ?_ _));refine blk_far ?_ NB117_118.out _;(with_reducible repeat(first|refine blk_drewN ?_ _|refine blk_drew ?_|refine blk_alloc ?_ _));refine blk_far ?_ NB117_118.out _;(with_reducible repeat(first|refine blk_drewN ?_ _|refine blk_drew ?_|refine blk_alloc ?_ _));refine blk_far ?_ NB117_118.out _;(with_reducible repeat(first|refine blk_drewN ?_ _|refine blk_drew ?_|refine blk_alloc ?_ _));exact BK117.out))⟩;have n2_:Aside0 (w51.heap[gb118]? =some (.cells #[.int .i64 a0_0,.int .i64 0,.int .i64 0,.int .i64 a0_3,.int .i64 a0_4,.int .i64 a0_5] 77 (0,0))):=⟨(by rw[hw];exact(by(with_reducible repeat(first|refine blk_drewN ?_ _|refine blk_drew ?_|refine blk_alloc ?_ _));refine blk_far ?_ NB118_117.out _;(with_reducible repeat(first|refine blk_drewN ?_ _|refine blk_drew ?_|refine blk_alloc ?_ _));refine blk_far ?_ NB118_117.out _;(with_reducible repeat(first|refine blk_drewN ?_ _|refine blk_drew ?_|refine blk_alloc ?_ _));refine blk_far ?_ NB118_117.out _;(with_reducible repeat(first|refine blk_drewN ?_ _|refine blk_drew ?_|refine blk_alloc ?_ _));refine blk_far ?_ NB118_117.out _;(with_reducible repeat(first|refine blk_drewN ?_ _|refine blk_drew ?_|refine blk_alloc ?_ _));refine blk_far ?_ NB118_117.out _;(with_reducible repeat(first|refine blk_drewN ?_ _|refine blk_drew ?_|refine blk_alloc ?_ _));refine blk_far ?_ NB118_117.out _;(with_reducible repeat(first|refine blk_drewN ?_ _|refine blk_drew ?_|refine blk_alloc ?_ _));refine blk_put (cs:= #[.int .i64 a0_0,.int .i64 0,.int .i64 0,.int .i64 a0_3,.int .i64 a0_4,.int .i64 0]) ?_ 5 _ rfl;(with_reducible repeat(first|refine blk_drewN ?_ _|refine blk_drew ?_|refine blk_alloc ?_ _));refine blk_put (cs:= #[.int .i64 a0_0,.int .i64 0,.int .i64 0,.int .i64 a0_3,.int .i64 0,.int .i64 0]) ?_ 4 _ rfl;(with_reducible repeat(first|refine blk_drewN ?_ _|refine blk_drew ?_|refine blk_alloc ?_ _));refine blk_put (cs:= #[.int .i64 a0_0,.int .i64 0,.int .i64 0,.int .i64 0,.int .i64 0,.int .i64 0]) ?_ 3 _ rfl;(with_reducible repeat(first|refine blk_drewN ?_ _|refine blk_drew ?_|refine blk_alloc ?_ _));exact BK118.out))⟩;have n3_:Aside0 (Below w.heap.size w w51):=⟨z3_3⟩;clear hw;clear BK116;clear BK117;clear BK118;clear HB;have BK116:=n0_;have BK117:=n1_;have BK118:=n2_;have HB:=n3_;clear n0_ n1_ n2_ n3_))
      refine bodyPost_ret (results_cell_row rfl _ _ gb117 77 #[.int .i64 a0_0,.int .i64 0,.int .i64 0,.int .i64 a0_3,.int .i64 a0_4,.int .i64 a0_5] (0,0) _ rfl z3_8 Tryz.underlying77 rfl (by kernel_rfl)) rfl ?_
      exact⟨by first|rfl|(simp[errW_none,errW_some]<;>rfl)|(simp[*,errW_none,errW_some]<;>rfl)|(simp[*,errW_none,errW_some,i64_w];done),by repeat(first|(with_reducible first|exact HB.out|apply Zh|apply Ze|apply Zd|refine Zg ?_ GE116.out|refine Zg ?_ GE117.out|refine Zg ?_ GE118.out)|exact HB.out)⟩
     ·replace c44:=Bool.eq_false_iff.mpr c44
      subst c44
      have H1:(if a0_0=5 then (some (a0_0,0,a0_2,0,0,0)) else (some (a0_0,0,0,0,0,0)))=some (r1,r2,r3,r4,r5,r6):=by rw[if_neg (show ¬(false=true) by decide)] at H;exact H
      clear H
      have H:=H1
      clear H1
      by_cases c52:a0_0=5
      ·rw[if_pos c52] at H
       have c52b0:(a0_0==5)=true:=beq_iff_eq.mpr c52
       have c52b1:(a0_0 != 5)=false:=bne_eq_false_iff_eq.mpr c52
       clear c52
       simp only[Option.some.injEq,Prod.mk.injEq] at H
       obtain⟨rfl,rfl,rfl,rfl,rfl,rfl⟩:=H
       have hnb53:=NB116_117.out
       have hnc53:=NB117_116.out
       have hnb54:=NB116_118.out
       have hnc54:=NB118_116.out
       have hcz55_0:wc.cell? ⟨gb116,0,none⟩=some (.int .i64 a0_0):=(Zb BK116.out 0).trans rfl
       have hcz55_1:wc.cell? ⟨gb116,1,none⟩=some (.int .i64 a0_1):=(Zb BK116.out 1).trans rfl
       have hcz55_2:wc.cell? ⟨gb116,2,none⟩=some (.int .i64 a0_2):=(Zb BK116.out 2).trans rfl
       have hcz55_3:wc.cell? ⟨gb116,3,none⟩=some (.int .i64 a0_3):=(Zb BK116.out 3).trans rfl
       have hcz55_4:wc.cell? ⟨gb116,4,none⟩=some (.int .i64 a0_4):=(Zb BK116.out 4).trans rfl
       have hcz55_5:wc.cell? ⟨gb116,5,none⟩=some (.int .i64 a0_5):=(Zb BK116.out 5).trans rfl
       have hfz55_0:=Zc BK116.out 0
       have hfz55_1:=Zc BK116.out 1
       have hfz55_2:=Zc BK116.out 2
       have hfz55_3:=Zc BK116.out 3
       have hfz55_4:=Zc BK116.out 4
       have hfz55_5:=Zc BK116.out 5
       have hnb56:=NB118_117.out
       have hnc56:=NB117_118.out
       have hcz57_0:wc.cell? ⟨gb118,0,none⟩=some (.int .i64 a0_0):=(Zb BK118.out 0).trans rfl
       have hcz57_1:wc.cell? ⟨gb118,1,none⟩=some (.int .i64 0):=(Zb BK118.out 1).trans rfl
       have hcz57_2:wc.cell? ⟨gb118,2,none⟩=some (.int .i64 0):=(Zb BK118.out 2).trans rfl
       have hcz57_3:wc.cell? ⟨gb118,3,none⟩=some (.int .i64 0):=(Zb BK118.out 3).trans rfl
       have hcz57_4:wc.cell? ⟨gb118,4,none⟩=some (.int .i64 0):=(Zb BK118.out 4).trans rfl
       have hcz57_5:wc.cell? ⟨gb118,5,none⟩=some (.int .i64 0):=(Zb BK118.out 5).trans rfl
       have hfz57_0:=Zc BK118.out 0
       have hfz57_1:=Zc BK118.out 1
       have hfz57_2:=Zc BK118.out 2
       have hfz57_3:=Zc BK118.out 3
       have hfz57_4:=Zc BK118.out 4
       have hfz57_5:=Zc BK118.out 5
       have hcz58_0:wc.cell? ⟨gb117,0,none⟩=some (.int .i64 0):=(Zb BK117.out 0).trans rfl
       have hcz58_1:wc.cell? ⟨gb117,1,none⟩=some (.int .i64 0):=(Zb BK117.out 1).trans rfl
       have hcz58_2:wc.cell? ⟨gb117,2,none⟩=some (.int .i64 0):=(Zb BK117.out 2).trans rfl
       have hcz58_3:wc.cell? ⟨gb117,3,none⟩=some (.int .i64 0):=(Zb BK117.out 3).trans rfl
       have hcz58_4:wc.cell? ⟨gb117,4,none⟩=some (.int .i64 0):=(Zb BK117.out 4).trans rfl
       have hcz58_5:wc.cell? ⟨gb117,5,none⟩=some (.int .i64 0):=(Zb BK117.out 5).trans rfl
       have hfz58_0:=Zc BK117.out 0
       have hfz58_1:=Zc BK117.out 1
       have hfz58_2:=Zc BK117.out 2
       have hfz58_3:=Zc BK117.out 3
       have hfz58_4:=Zc BK117.out 4
       have hfz58_5:=Zc BK117.out 5
       go_wp2_with (first|((with_reducible refine Ym (t:=77) (p:=2) rfl ?_);refine Yl (t:=77) (p:=2) (v:= ?vo_w59) (w1:=(((((((wc.setCell ⟨gb118,2,none⟩ (.int .i64 a0_2)).setCell ⟨gb117,0,none⟩ (.int .i64 a0_0)).setCell ⟨gb117,1,none⟩ (.int .i64 0)).setCell ⟨gb117,2,none⟩ (.int .i64 a0_2)).setCell ⟨gb117,3,none⟩ (.int .i64 0)).setCell ⟨gb117,4,none⟩ (.int .i64 0)).setCell ⟨gb117,5,none⟩ (.int .i64 0))) ?hg ?ho ?hn ?hr ?_;(case ho=>rfl);(case hg=>rfl);(case hn=>rfl);(case hr=>exact z3_12);intro w59 hw;have n0_:Aside0 (w59.heap[gb116]? =some (.cells #[.int .i64 a0_0,.int .i64 a0_1,.int .i64 a0_2,.int .i64 a0_3,.int .i64 a0_4,.int .i64 a0_5] 77 (0,0))):=⟨(by rw[hw];exact(by(with_reducible repeat(first|refine blk_drewN ?_ _|refine blk_drew ?_|refine blk_alloc ?_ _));refine blk_far ?_ NB116_117.out _;(with_reducible repeat(first|refine blk_drewN ?_ _|refine blk_drew ?_|refine blk_alloc ?_ _));refine blk_far ?_ NB116_117.out _;(with_reducible repeat(first|refine blk_drewN ?_ _|refine blk_drew ?_|refine blk_alloc ?_ _));refine blk_far ?_ NB116_117.out _;(with_reducible repeat(first|refine blk_drewN ?_ _|refine blk_drew ?_|refine blk_alloc ?_ _));refine blk_far ?_ NB116_117.out _;(with_reducible repeat(first|refine blk_drewN ?_ _|refine blk_drew ?_|refine blk_alloc ?_ _));refine blk_far ?_ NB116_117.out _;(with_reducible repeat(first|refine blk_drewN ?_ _|refine blk_drew ?_|refine blk_alloc ?_ _));refine blk_far ?_ NB116_117.out _;(with_reducible repeat(first|refine blk_drewN ?_ _|refine blk_drew ?_|refine blk_alloc ?_ _));refine blk_far ?_ NB116_118.out _;(with_reducible repeat(first|refine blk_drewN ?_ _|refine blk_drew ?_|refine blk_alloc ?_ _));exact BK116.out))⟩;have n1_:Aside0 (w59.heap[gb117]? =some (.cells #[.int .i64 a0_0,.int .i64 0,.int .i64 a0_2,.int .i64 0,.int .i64 0,.int .i64 0] 77 (0,0))):=⟨(by rw[hw];exact(by(with_reducible repeat(first|refine blk_drewN ?_ _|refine blk_drew ?_|refine blk_alloc ?_ _));refine blk_put (cs:= #[.int .i64 a0_0,.int .i64 0,.int .i64 a0_2,.int .i64 0,.int .i64 0,.int .i64 0]) ?_ 5 _ rfl;(with_reducible repeat(first|refine blk_drewN ?_ _|refine blk_drew ?_|refine blk_alloc ?_ _));refine blk_put (cs:= #[.int .i64 a0_0,.int .i64 0,.int .i64 a0_2,.int .i64 0,.int .i64 0,.int .i64 0]) ?_ 4 _ rfl;(with_reducible repeat(first|refine blk_drewN ?_ _|refine blk_drew ?_|refine blk_alloc ?_ _));refine blk_put (cs:= #[.int .i64 a0_0,.int .i64 0,.int .i64 a0_2,.int .i64 0,.int .i64 0,.int .i64 0]) ?_ 3 _ rfl;(with_reducible repeat(first|refine blk_drewN ?_ _|refine blk_drew ?_|refine blk_alloc ?_ _));refine blk_put (cs:= #[.int .i64 a0_0,.int .i64 0,.int .i64 0,.int .i64 0,.int .i64 0,.int .i64 0]) ?_ 2 _ rfl;(with_reducible repeat(first|refine blk_drewN ?_ _|refine blk_drew ?_|refine blk_alloc ?_ _));refine blk_put (cs:= #[.int .i64 a0_0,.int .i64 0,.int .i64 0,.int .i64 0,.int .i64 0,.int .i64 0]) ?_ 1 _ rfl;(with_reducible repeat(first|refine blk_drewN ?_ _|refine blk_drew ?_|refine blk_alloc ?_ _));refine blk_put (cs:= #[.int .i64 0,.int .i64 0,.int .i64 0,.int .i64 0,.int .i64 0,.int .i64 0]) ?_ 0 _ rfl;(with_reducible repeat(first|refine blk_drewN ?_ _|refine blk_drew ?_|refine blk_alloc ?_ _));refine blk_far ?_ NB117_118.out _;(with_reducible repeat(first|refine blk_drewN ?_ _|refine blk_drew ?_|refine blk_alloc ?_ _));exact BK117.out))⟩;have n2_:Aside0 (w59.heap[gb118]? =some (.cells #[.int .i64 a0_0,.int .i64 0,.int .i64 a0_2,.int .i64 0,.int .i64 0,.int .i64 0] 77 (0,0))):=⟨(by rw[hw];exact(by(with_reducible repeat(first|refine blk_drewN ?_ _|refine blk_drew ?_|refine blk_alloc ?_ _));refine blk_far ?_ NB118_117.out _;(with_reducible repeat(first|refine blk_drewN ?_ _|refine blk_drew ?_|refine blk_alloc ?_ _));refine blk_far ?_ NB118_117.out _;(with_reducible repeat(first|refine blk_drewN ?_ _|refine blk_drew ?_|refine blk_alloc ?_ _));refine blk_far ?_ NB118_117.out _;(with_reducible repeat(first|refine blk_drewN ?_ _|refine blk_drew ?_|refine blk_alloc ?_ _));refine blk_far ?_ NB118_117.out _;(with_reducible repeat(first|refine blk_drewN ?_ _|refine blk_drew ?_|refine blk_alloc ?_ _));refine blk_far ?_ NB118_117.out _;(with_reducible repeat(first|refine blk_drewN ?_ _|refine blk_drew ?_|refine blk_alloc ?_ _));refine blk_far ?_ NB118_117.out _;(with_reducible repeat(first|refine blk_drewN ?_ _|refine blk_drew ?_|refine blk_alloc ?_ _));refine blk_put (cs:= #[.int .i64 a0_0,.int .i64 0,.int .i64 0,.int .i64 0,.int .i64 0,.int .i64 0]) ?_ 2 _ rfl;(with_reducible repeat(first|refine blk_drewN ?_ _|refine blk_drew ?_|refine blk_alloc ?_ _));exact BK118.out))⟩;have n3_:Aside0 (Below w.heap.size w w59):=⟨z3_3⟩;clear hw;clear BK116;clear BK117;clear BK118;clear HB;have BK116:=n0_;have BK117:=n1_;have BK118:=n2_;have HB:=n3_;clear n0_ n1_ n2_ n3_))
       refine bodyPost_ret (results_cell_row rfl _ _ gb117 77 #[.int .i64 a0_0,.int .i64 0,.int .i64 a0_2,.int .i64 0,.int .i64 0,.int .i64 0] (0,0) _ rfl z3_8 Tryz.underlying77 rfl (by kernel_rfl)) rfl ?_
       exact⟨by first|rfl|(simp[errW_none,errW_some]<;>rfl)|(simp[*,errW_none,errW_some]<;>rfl)|(simp[*,errW_none,errW_some,i64_w];done),by repeat(first|(with_reducible first|exact HB.out|apply Zh|apply Ze|apply Zd|refine Zg ?_ GE116.out|refine Zg ?_ GE117.out|refine Zg ?_ GE118.out)|exact HB.out)⟩
      ·rw[if_neg c52] at H
       have c52b0:(a0_0==5)=false:=beq_eq_false_iff_ne.mpr c52
       have c52b1:(a0_0 != 5)=true:=bne_iff_ne.mpr c52
       simp only[Option.some.injEq,Prod.mk.injEq] at H
       obtain⟨rfl,rfl,rfl,rfl,rfl,rfl⟩:=H
       have hnb60:=NB118_116.out
       have hnc60:=NB116_118.out
       have hnb61:=NB118_117.out
       have hnc61:=NB117_118.out
       have hcz62_0:wc.cell? ⟨gb118,0,none⟩=some (.int .i64 a0_0):=(Zb BK118.out 0).trans rfl
       have hcz62_1:wc.cell? ⟨gb118,1,none⟩=some (.int .i64 0):=(Zb BK118.out 1).trans rfl
       have hcz62_2:wc.cell? ⟨gb118,2,none⟩=some (.int .i64 0):=(Zb BK118.out 2).trans rfl
       have hcz62_3:wc.cell? ⟨gb118,3,none⟩=some (.int .i64 0):=(Zb BK118.out 3).trans rfl
       have hcz62_4:wc.cell? ⟨gb118,4,none⟩=some (.int .i64 0):=(Zb BK118.out 4).trans rfl
       have hcz62_5:wc.cell? ⟨gb118,5,none⟩=some (.int .i64 0):=(Zb BK118.out 5).trans rfl
       have hfz62_0:=Zc BK118.out 0
       have hfz62_1:=Zc BK118.out 1
       have hfz62_2:=Zc BK118.out 2
       have hfz62_3:=Zc BK118.out 3
       have hfz62_4:=Zc BK118.out 4
       have hfz62_5:=Zc BK118.out 5
       have hnb63:=NB117_116.out
       have hnc63:=NB116_117.out
       have hcz64_0:wc.cell? ⟨gb117,0,none⟩=some (.int .i64 0):=(Zb BK117.out 0).trans rfl
       have hcz64_1:wc.cell? ⟨gb117,1,none⟩=some (.int .i64 0):=(Zb BK117.out 1).trans rfl
       have hcz64_2:wc.cell? ⟨gb117,2,none⟩=some (.int .i64 0):=(Zb BK117.out 2).trans rfl
       have hcz64_3:wc.cell? ⟨gb117,3,none⟩=some (.int .i64 0):=(Zb BK117.out 3).trans rfl
       have hcz64_4:wc.cell? ⟨gb117,4,none⟩=some (.int .i64 0):=(Zb BK117.out 4).trans rfl
       have hcz64_5:wc.cell? ⟨gb117,5,none⟩=some (.int .i64 0):=(Zb BK117.out 5).trans rfl
       have hfz64_0:=Zc BK117.out 0
       have hfz64_1:=Zc BK117.out 1
       have hfz64_2:=Zc BK117.out 2
       have hfz64_3:=Zc BK117.out 3
       have hfz64_4:=Zc BK117.out 4
       have hfz64_5:=Zc BK117.out 5
       go_wp2_with (first|((with_reducible refine Ym (t:=77) (p:=2) rfl ?_);refine Yl (t:=77) (p:=2) (v:= ?vo_w65) (w1:=((((((wc.setCell ⟨gb117,0,none⟩ (.int .i64 a0_0)).setCell ⟨gb117,1,none⟩ (.int .i64 0)).setCell ⟨gb117,2,none⟩ (.int .i64 0)).setCell ⟨gb117,3,none⟩ (.int .i64 0)).setCell ⟨gb117,4,none⟩ (.int .i64 0)).setCell ⟨gb117,5,none⟩ (.int .i64 0))) ?hg ?ho ?hn ?hr ?_;(case ho=>rfl);(case hg=>rfl);(case hn=>rfl);(case hr=>exact z3_12);intro w65 hw;have n0_:Aside0 (w65.heap[gb116]? =some (.cells #[.int .i64 a0_0,.int .i64 a0_1,.int .i64 a0_2,.int .i64 a0_3,.int .i64 a0_4,.int .i64 a0_5] 77 (0,0))):=⟨z3_11⟩;have n1_:Aside0 (w65.heap[gb117]? =some (.cells #[.int .i64 a0_0,.int .i64 0,.int .i64 0,.int .i64 0,.int .i64 0,.int .i64 0] 77 (0,0))):=⟨(by rw[hw];exact(by(with_reducible repeat(first|refine blk_drewN ?_ _|refine blk_drew ?_|refine blk_alloc ?_ _));refine blk_put (cs:= #[.int .i64 a0_0,.int .i64 0,.int .i64 0,.int .i64 0,.int .i64 0,.int .i64 0]) ?_ 5 _ rfl;(with_reducible repeat(first|refine blk_drewN ?_ _|refine blk_drew ?_|refine blk_alloc ?_ _));refine blk_put (cs:= #[.int .i64 a0_0,.int .i64 0,.int .i64 0,.int .i64 0,.int .i64 0,.int .i64 0]) ?_ 4 _ rfl;(with_reducible repeat(first|refine blk_drewN ?_ _|refine blk_drew ?_|refine blk_alloc ?_ _));refine blk_put (cs:= #[.int .i64 a0_0,.int .i64 0,.int .i64 0,.int .i64 0,.int .i64 0,.int .i64 0]) ?_ 3 _ rfl;(with_reducible repeat(first|refine blk_drewN ?_ _|refine blk_drew ?_|refine blk_alloc ?_ _));refine blk_put (cs:= #[.int .i64 a0_0,.int .i64 0,.int .i64 0,.int .i64 0,.int .i64 0,.int .i64 0]) ?_ 2 _ rfl;(with_reducible repeat(first|refine blk_drewN ?_ _|refine blk_drew ?_|refine blk_alloc ?_ _));refine blk_put (cs:= #[.int .i64 a0_0,.int .i64 0,.int .i64 0,.int .i64 0,.int .i64 0,.int .i64 0]) ?_ 1 _ rfl;(with_reducible repeat(first|refine blk_drewN ?_ _|refine blk_drew ?_|refine blk_alloc ?_ _));refine blk_put (cs:= #[.int .i64 0,.int .i64 0,.int .i64 0,.int .i64 0,.int .i64 0,.int .i64 0]) ?_ 0 _ rfl;(with_reducible repeat(first|refine blk_drewN ?_ _|refine blk_drew ?_|refine blk_alloc ?_ _));exact BK117.out))⟩;have n2_:Aside0 (w65.heap[gb118]? =some (.cells #[.int .i64 a0_0,.int .i64 0,.int .i64 0,.int .i64 0,.int .i64 0,.int .i64 0] 77 (0,0))):=⟨z3_10⟩;have n3_:Aside0 (Below w.heap.size w w65):=⟨z3_3⟩;clear hw;clear BK116;clear BK117;clear BK118;clear HB;have BK116:=n0_;have BK117:=n1_;have BK118:=n2_;have HB:=n3_;clear n0_ n1_ n2_ n3_))
       refine bodyPost_ret (results_cell_row rfl _ _ gb117 77 #[.int .i64 a0_0,.int .i64 0,.int .i64 0,.int .i64 0,.int .i64 0,.int .i64 0] (0,0) _ rfl z3_8 Tryz.underlying77 rfl (by kernel_rfl)) rfl ?_
       exact⟨by first|rfl|(simp[errW_none,errW_some]<;>rfl)|(simp[*,errW_none,errW_some]<;>rfl)|(simp[*,errW_none,errW_some,i64_w];done),by repeat(first|(with_reducible first|exact HB.out|apply Zh|apply Ze|apply Zd|refine Zg ?_ GE116.out|refine Zg ?_ GE117.out|refine Zg ?_ GE118.out)|exact HB.out)⟩
end Go.Proofs.YtccjlmpeogifkaaGreat.G
