/- Functions of the program as plain Lean functions, and that each call comes to its function's answer; written by a program of the session. No condition. -/
import Derived.Test.YtlolppaddphpoaaGx0
import Derived.Test.YtlolppaddphpoaaGx1
import Derived.Test.YtlolppaddphpoaaGx6
namespace Go.Proofs.Ytlolppaddphpoaa.G
open Go.RowKit Go.Proofs.YtlolppaddphpoaaW.PrintWords Go.Proofs.YtlolppaddphpoaaW.PrintLast Go.Proofs.YtlolppaddphpoaaW.PrintMore
attribute [local go_sem] max2_int min2_int max_two min_two max_three min_three max_four min_four   -- for this text's walks alone
set_option linter.unusedVariables false
set_option linter.unusedSimpArgs false
attribute [local go_sem high] eqA62
theorem z7_0 {P:Prop} (h:P:=by repeat(first|(with_reducible first|exact HB.out|apply Zh|apply Zf|apply Ze)|exact HB.out)):P:=h
theorem z7_1 {P:Prop} (h:P:=by(try simp only[List.map_toArray,List.map_cons,List.map_nil]);first|done|rfl|(simp only[List.length_drop,List.length_take];rfl)):P:=h
theorem z7_2 {P:Prop} (h:P:=by first|(with_reducible assumption)|assumption):P:=h
theorem z7_3 {P:Prop} (h:P:=by(with_reducible repeat(first|refine blk_drewN ?_ _|refine blk_drew ?_|refine blk_alloc ?_ _));exact BK228.out):P:=h
theorem z7_4 {P:Prop} (h:P:=by(with_reducible repeat(first|refine blk_drewN ?_ _|refine blk_drew ?_|refine blk_alloc ?_ _));exact BK208.out):P:=h
theorem z7_5 {P:Prop} (h:P:=by repeat(first|(with_reducible first|exact HB.out|apply Zh|apply Zf|apply Ze|refine Zd ?_ GE208.out|refine Zd ?_ GE209.out|refine Zd ?_ GE210.out)|exact HB.out)):P:=h
theorem z7_6 {P:Prop} (h:P:=by(with_reducible repeat(first|refine blk_drewN ?_ _|refine blk_drew ?_|refine blk_alloc ?_ _));exact BK209.out):P:=h
theorem z7_7 {P:Prop} (h:P:=by first|rfl|(simp;done)|(simp[*];done)):P:=h
theorem z7_8 {P:Prop} (h:P:=by first|(go_simp;done)|(go_simp;rfl)):P:=h
theorem z7_9 {P:Prop} (h:P:=by repeat(first|(with_reducible first|exact HB.out|apply Zh|apply Zf|apply Ze|refine Zd ?_ GE228.out|refine Zd ?_ GE229.out)|exact HB.out)):P:=h
theorem z7_10 {P:Prop} (h:P:=by repeat(first|(with_reducible first|exact HB.out|apply Zh|apply Zf|apply Ze|refine Zd ?_ GE208.out|refine Zd ?_ GE209.out)|exact HB.out)):P:=h
theorem z7_11 {P:Prop} (h:P:=by(with_reducible repeat(first|refine blk_drewN ?_ _|refine blk_drew ?_|refine blk_alloc ?_ _));exact BK229.out):P:=h
theorem z7_12 {P:Prop} (h:P:=by repeat(first|(with_reducible first|exact HB.out|apply Zh|apply Zf|apply Ze|refine Zd ?_ GE228.out)|exact HB.out)):P:=h
theorem z7_13 {P:Prop} (h:P:=by repeat(first|(with_reducible first|exact HB.out|apply Zh|apply Zf|apply Ze|refine Zd ?_ GE208.out)|exact HB.out)):P:=h
theorem z7_14 {P:Prop} (h:P:=by repeat(first|(with_reducible first|exact HB.out|apply Zh|apply Zf|apply Ze|refine Zd ?_ GE228.out|refine Zd ?_ GE229.out|refine Zd ?_ GE230.out)|exact HB.out)):P:=h
theorem z7_15 {P:Prop} (h:P:=by rw[hg];exact(Zy z7_0)):P:=h
def laws_toTask.f (k:Nat) (l0_0:List (S99)) (a0_1:Int) (a0_2:Int) (a0_3:Int):Option ((List (S80))×Int×Int×Int):=(laws_toStmtS.f k l0_0).bind fun t211=>((laws_toExpr.f a0_1 a0_2 a0_3).bind fun bt214=>(some (t211,bt214.1,bt214.2.1,bt214.2.2)))
set_option maxHeartbeats 8000000 in
set_option maxRecDepth 100000 in
theorem laws_toTask.calls (k:Nat) (A0_0:Option Addr) (c0_0:Nat) (l0_0:List (S99)) (a0_1:Int) (a0_2:Int) (a0_3:Int) (r1:List (S80)) (r2:Int) (r3:Int) (r4:Int) (w:World) (hr0_0:Kd.C k99 w A0_0 l0_0.length l0_0) (hc0_0:l0_0.length≤c0_0) (h:laws_toTask.f k l0_0 a0_1 a0_2 a0_3=some (r1,r2,r3,r4)):
  Calls Try.prog 44 #[.agg #[.slice A0_0 l0_0.length c0_0,.int .i64 a0_1,.int .i64 a0_2,.int .i64 a0_3]] w fun e w'=>∃v0_:Value,e= .returned (.agg #[v0_,.int .i64 r2,.int .i64 r3,.int .i64 r4])∧Kd.R k80 80 w' w.heap.size (fun _=>True) v0_ r1∧Below w.heap.size w w':=by
 have hu71:=Try.underlying71
 have hu64:=Try.underlying64
 have hu69:=Try.underlying69
 have hu62:=Try.underlying62
 have HR0_0:=Za hr0_0
 have HC0_0:=Za hc0_0
 clear hr0_0 hc0_0
 have HB:=Za (Yh w.heap.size w)
 have H:((laws_toStmtS.f k l0_0).bind fun t211=>((laws_toExpr.f a0_1 a0_2 a0_3).bind fun bt214=>(some (t211,bt214.1,bt214.2.1,bt214.2.2))))=some (r1,r2,r3,r4):=h
 clear h
 replace H:=Zl H
 obtain⟨t211,A20,H⟩:=H
 replace H:((laws_toExpr.f a0_1 a0_2 a0_3).bind fun bt214=>(some (t211,bt214.1,bt214.2.1,bt214.2.2)))=some (r1,r2,r3,r4):=H
 have A2:=Za A20
 clear A20
 replace H:=Zl H
 obtain⟨⟨t214,t215,t216⟩,A30,H⟩:=H
 replace H:(some (t211,t214,t215,t216))=some (r1,r2,r3,r4):=H
 have A3:=Za A30
 clear A30
 simp only[Option.some.injEq,Prod.mk.injEq] at H
 obtain⟨rfl,rfl,rfl,rfl⟩:=H
 go_enter Try.func44,Try.ntmps44
 go_wp2_with (first|((with_reducible refine Zp (N:=1) rfl ?_);refine Zt ?hg (N:=1) ?hd (cs:= #[.slice A0_0 l0_0.length c0_0,.int .i64 a0_1,.int .i64 a0_2,.int .i64 a0_3]) (t:=71) ?hr ?_;(case hd=>rfl);(case hg=>rfl);(case hr=>exact z7_8);intro gb208 hg w4 hbox hb;have BK208:=Za (hbox);have GW208:=Za ((z7_15:w.heap.size≤gb208));have GE208:=Za ((z7_15:w.heap.size≤gb208));replace HB:=Za (Zj z7_0 hb);clear hb hbox hg)|((with_reducible refine Zp (N:=2) rfl ?_);refine Zt ?hg (N:=2) ?hd (cs:= #[.slice none 0 0,.int .i64 0,.int .i64 0,.int .i64 0]) (t:=64) ?hr ?_;(case hd=>rfl);(case hg=>rfl);(case hr=>exact z7_8);intro gb209 hg w5 hbox hb;have BK209:=Za (hbox);have GW209:=Za ((by rw[hg];exact(Zy z7_13):w.heap.size≤gb209));have GE209:=Za ((by rw[hg];exact(Zy z7_13):w.heap.size≤gb209));replace HB:=Za (Zj z7_13 hb);have NB208_209:=Za ((by rw[hg];exact Nat.ne_of_lt (blk_lt (g:=gb208) (o:= .cells #[.slice A0_0 l0_0.length c0_0,.int .i64 a0_1,.int .i64 a0_2,.int .i64 a0_3] 71 (0,0)) z7_4):gb208≠gb209));have NB209_208:=Za ((by rw[hg];exact Nat.ne_of_gt (blk_lt (g:=gb208) (o:= .cells #[.slice A0_0 l0_0.length c0_0,.int .i64 a0_1,.int .i64 a0_2,.int .i64 a0_3] 71 (0,0)) z7_4):gb209≠gb208));replace BK208:=Za (Zg (g:=gb208) (o:= .cells #[.slice A0_0 l0_0.length c0_0,.int .i64 a0_1,.int .i64 a0_2,.int .i64 a0_3] 71 (0,0)) z7_4 hb);clear hb hbox hg)|((with_reducible refine Zp (N:=3) rfl ?_);refine Zt ?hg (N:=3) ?hd (cs:= #[.slice none 0 0,.int .i64 0,.int .i64 0,.int .i64 0]) (t:=64) ?hr ?_;(case hd=>rfl);(case hg=>rfl);(case hr=>exact z7_8);intro gb210 hg w6 hbox hb;have BK210:=Za (hbox);have GW210:=Za ((by rw[hg];exact(Zy z7_10):w.heap.size≤gb210));have GE210:=Za ((by rw[hg];exact(Zy z7_10):w.heap.size≤gb210));replace HB:=Za (Zj z7_10 hb);have NB208_210:=Za ((by rw[hg];exact Nat.ne_of_lt (blk_lt (g:=gb208) (o:= .cells #[.slice A0_0 l0_0.length c0_0,.int .i64 a0_1,.int .i64 a0_2,.int .i64 a0_3] 71 (0,0)) z7_4):gb208≠gb210));have NB210_208:=Za ((by rw[hg];exact Nat.ne_of_gt (blk_lt (g:=gb208) (o:= .cells #[.slice A0_0 l0_0.length c0_0,.int .i64 a0_1,.int .i64 a0_2,.int .i64 a0_3] 71 (0,0)) z7_4):gb210≠gb208));replace BK208:=Za (Zg (g:=gb208) (o:= .cells #[.slice A0_0 l0_0.length c0_0,.int .i64 a0_1,.int .i64 a0_2,.int .i64 a0_3] 71 (0,0)) z7_4 hb);have NB209_210:=Za ((by rw[hg];exact Nat.ne_of_lt (blk_lt (g:=gb209) (o:= .cells #[.slice none 0 0,.int .i64 0,.int .i64 0,.int .i64 0] 64 (0,0)) z7_6):gb209≠gb210));have NB210_209:=Za ((by rw[hg];exact Nat.ne_of_gt (blk_lt (g:=gb209) (o:= .cells #[.slice none 0 0,.int .i64 0,.int .i64 0,.int .i64 0] 64 (0,0)) z7_6):gb210≠gb209));replace BK209:=Za (Zg (g:=gb209) (o:= .cells #[.slice none 0 0,.int .i64 0,.int .i64 0,.int .i64 0] 64 (0,0)) z7_6 hb);clear hb hbox hg;have hnb7:=NB208_209.out;have hnc7:=NB209_208.out;have hnb8:=NB208_210.out;have hnc8:=NB210_208.out;have hcz9_0:w6.cell? ⟨gb208,0,none⟩=some (.slice A0_0 l0_0.length c0_0):=(Zb BK208.out 0).trans rfl;have hcz9_1:w6.cell? ⟨gb208,1,none⟩=some (.int .i64 a0_1):=(Zb BK208.out 1).trans rfl;have hcz9_2:w6.cell? ⟨gb208,2,none⟩=some (.int .i64 a0_2):=(Zb BK208.out 2).trans rfl;have hcz9_3:w6.cell? ⟨gb208,3,none⟩=some (.int .i64 a0_3):=(Zb BK208.out 3).trans rfl;have hfz9_0:=Zc BK208.out 0;have hfz9_1:=Zc BK208.out 1;have hfz9_2:=Zc BK208.out 2;have hfz9_3:=Zc BK208.out 3)|((first|((with_reducible refine gate_callee (f:=66) rfl ?_);refine goesL_ (some 6) rfl rfl Try.func66 (by kernel_rfl) rfl #[.slice A0_0 l0_0.length c0_0] rfl z7_1 ?_;(with_reducible refine(laws_toStmtS.calls k _ _ l0_0 t211 _ ?side1 ?side2 A2.out).mono ?_))|(go_at_call 66;(with_reducible refine(laws_toStmtS.calls k _ _ l0_0 t211 _ ?side1 ?side2 A2.out).mono ?_)));(case side1=>repeat(first|exact(Yg HR0_0.out HB.out)|(with_reducible refine Yc ?_ _)|(with_reducible refine Yd ?_ _)|(with_reducible refine Ye ?_)));(case side2=>exact HC0_0.out);rintro e w10 ⟨v212,rfl,ho0,hb⟩;(first|refine⟨_,rfl,?_⟩|skip);have HO213:=Za (Kd.R_lower ho0 (Zy z7_5));replace BK208:=Za (Zg (g:=gb208) (o:= .cells #[.slice A0_0 l0_0.length c0_0,.int .i64 a0_1,.int .i64 a0_2,.int .i64 a0_3] 71 (0,0)) z7_4 hb);replace BK209:=Za (Zg (g:=gb209) (o:= .cells #[.slice none 0 0,.int .i64 0,.int .i64 0,.int .i64 0] 64 (0,0)) z7_6 hb);replace BK210:=Za (Zg (g:=gb210) (o:= .cells #[.slice none 0 0,.int .i64 0,.int .i64 0,.int .i64 0] 64 (0,0)) (by(with_reducible repeat(first|refine blk_drewN ?_ _|refine blk_drew ?_|refine blk_alloc ?_ _));exact BK210.out) hb);replace HB:=Za (Zj z7_5 hb);(try clear hb);(try clear hb2);(try clear hk);(try clear hi);(try clear ho0);obtain⟨Ao11,co11,eo11⟩:=Yn HO213.out;subst eo11;have hnb12:=NB210_209.out;have hnc12:=NB209_210.out;have hcz13_0:w10.cell? ⟨gb210,0,none⟩=some (.slice none 0 0):=(Zb BK210.out 0).trans rfl;have hcz13_1:w10.cell? ⟨gb210,1,none⟩=some (.int .i64 0):=(Zb BK210.out 1).trans rfl;have hcz13_2:w10.cell? ⟨gb210,2,none⟩=some (.int .i64 0):=(Zb BK210.out 2).trans rfl;have hcz13_3:w10.cell? ⟨gb210,3,none⟩=some (.int .i64 0):=(Zb BK210.out 3).trans rfl;have hfz13_0:=Zc BK210.out 0;have hfz13_1:=Zc BK210.out 1;have hfz13_2:=Zc BK210.out 2;have hfz13_3:=Zc BK210.out 3;have hcz14_0:w10.cell? ⟨gb208,0,none⟩=some (.slice A0_0 l0_0.length c0_0):=(Zb BK208.out 0).trans rfl;have hcz14_1:w10.cell? ⟨gb208,1,none⟩=some (.int .i64 a0_1):=(Zb BK208.out 1).trans rfl;have hcz14_2:w10.cell? ⟨gb208,2,none⟩=some (.int .i64 a0_2):=(Zb BK208.out 2).trans rfl;have hcz14_3:w10.cell? ⟨gb208,3,none⟩=some (.int .i64 a0_3):=(Zb BK208.out 3).trans rfl;have hfz14_0:=Zc BK208.out 0;have hfz14_1:=Zc BK208.out 1;have hfz14_2:=Zc BK208.out 2;have hfz14_3:=Zc BK208.out 3)|((first|((with_reducible refine gate_callee (f:=67) rfl ?_);refine goesL_ (some 10) rfl rfl Try.func67 (by kernel_rfl) rfl #[.agg #[.int .i64 a0_1,.int .i64 a0_2,.int .i64 a0_3]] rfl z7_1 ?_;(with_reducible refine(laws_toExpr.calls a0_1 a0_2 a0_3 t214 t215 t216 _ A3.out).mono ?_))|(go_at_call 67;(with_reducible refine(laws_toExpr.calls a0_1 a0_2 a0_3 t214 t215 t216 _ A3.out).mono ?_)));rintro e w15 ⟨rfl,hb⟩;(first|refine⟨_,rfl,?_⟩|skip);replace HO213:=Za (Kd.R_below (by(with_reducible repeat(first|apply Zn|apply Zo|apply Zm));exact(Zw (Kd.R_far (p:=⟨gb210,0,none⟩) (Kd.R_types HO213.out BK210.out (by decide)) (fun _ hk=>hk.2) (.slice Ao11 t211.length co11)) (fun _ h_=>h_.1))) hb);replace BK208:=Za (Zg (g:=gb208) (o:= .cells #[.slice A0_0 l0_0.length c0_0,.int .i64 a0_1,.int .i64 a0_2,.int .i64 a0_3] 71 (0,0)) (by(with_reducible repeat(first|refine blk_drewN ?_ _|refine blk_drew ?_|refine blk_alloc ?_ _));refine blk_far ?_ NB208_210.out _;(with_reducible repeat(first|refine blk_drewN ?_ _|refine blk_drew ?_|refine blk_alloc ?_ _));exact BK208.out) hb);replace BK209:=Za (Zg (g:=gb209) (o:= .cells #[.slice none 0 0,.int .i64 0,.int .i64 0,.int .i64 0] 64 (0,0)) (by(with_reducible repeat(first|refine blk_drewN ?_ _|refine blk_drew ?_|refine blk_alloc ?_ _));refine blk_far ?_ NB209_210.out _;(with_reducible repeat(first|refine blk_drewN ?_ _|refine blk_drew ?_|refine blk_alloc ?_ _));exact BK209.out) hb);replace BK210:=Za (Zg (g:=gb210) (o:= .cells #[.slice Ao11 t211.length co11,.int .i64 0,.int .i64 0,.int .i64 0] 64 (0,0)) (by(with_reducible repeat(first|refine blk_drewN ?_ _|refine blk_drew ?_|refine blk_alloc ?_ _));refine blk_put (cs:= #[.slice none 0 0,.int .i64 0,.int .i64 0,.int .i64 0]) ?_ 0 _ rfl;(with_reducible repeat(first|refine blk_drewN ?_ _|refine blk_drew ?_|refine blk_alloc ?_ _));exact BK210.out) hb);replace HB:=Za (Zj z7_5 hb);(try clear hb);(try clear hb2);(try clear hk);(try clear hi);have hcz16_0:w15.cell? ⟨gb210,0,none⟩=some (.slice Ao11 t211.length co11):=(Zb BK210.out 0).trans rfl;have hcz16_1:w15.cell? ⟨gb210,1,none⟩=some (.int .i64 0):=(Zb BK210.out 1).trans rfl;have hcz16_2:w15.cell? ⟨gb210,2,none⟩=some (.int .i64 0):=(Zb BK210.out 2).trans rfl;have hcz16_3:w15.cell? ⟨gb210,3,none⟩=some (.int .i64 0):=(Zb BK210.out 3).trans rfl;have hfz16_0:=Zc BK210.out 0;have hfz16_1:=Zc BK210.out 1;have hfz16_2:=Zc BK210.out 2;have hfz16_3:=Zc BK210.out 3;have hcz17_0:w15.cell? ⟨gb209,0,none⟩=some (.slice none 0 0):=(Zb BK209.out 0).trans rfl;have hcz17_1:w15.cell? ⟨gb209,1,none⟩=some (.int .i64 0):=(Zb BK209.out 1).trans rfl;have hcz17_2:w15.cell? ⟨gb209,2,none⟩=some (.int .i64 0):=(Zb BK209.out 2).trans rfl;have hcz17_3:w15.cell? ⟨gb209,3,none⟩=some (.int .i64 0):=(Zb BK209.out 3).trans rfl;have hfz17_0:=Zc BK209.out 0;have hfz17_1:=Zc BK209.out 1;have hfz17_2:=Zc BK209.out 2;have hfz17_3:=Zc BK209.out 3)|((with_reducible refine Yk (t:=64) (p:=2) rfl ?_);refine Yj (t:=64) (p:=2) (v:= ?vo_w18) (w1:=(((((((w15.setCell ⟨gb210,1,none⟩ (.int .i64 t214)).setCell ⟨gb210,2,none⟩ (.int .i64 t215)).setCell ⟨gb210,3,none⟩ (.int .i64 t216)).setCell ⟨gb209,0,none⟩ (.slice Ao11 t211.length co11)).setCell ⟨gb209,1,none⟩ (.int .i64 t214)).setCell ⟨gb209,2,none⟩ (.int .i64 t215)).setCell ⟨gb209,3,none⟩ (.int .i64 t216))) ?hg ?ho ?hn ?hr ?_;(case ho=>rfl);(case hg=>rfl);(case hn=>rfl);(case hr=>exact z7_8);intro w18 hw;have n0_:Aside0 (Kd.R k80 80 w18 w.heap.size (fun _=>True) (.slice Ao11 t211.length co11) t211):=⟨(by rw[hw];exact(by(with_reducible repeat(first|apply Zn|apply Zo|apply Zm));exact Zw (Kd.R_far (p:=⟨gb209,3,none⟩) (Kd.R_far (p:=⟨gb209,2,none⟩) (Kd.R_far (p:=⟨gb209,1,none⟩) (Kd.R_far (p:=⟨gb209,0,none⟩) (Kd.R_far (p:=⟨gb210,3,none⟩) (Kd.R_far (p:=⟨gb210,2,none⟩) (Kd.R_far (p:=⟨gb210,1,none⟩) (Kd.R_types (Kd.R_types HO213.out BK210.out (by decide)) BK209.out (by decide)) (fun _ hk=>hk.1.2) (.int .i64 t214)) (fun _ hk=>hk.1.2) (.int .i64 t215)) (fun _ hk=>hk.1.2) (.int .i64 t216)) (fun _ hk=>hk.2) (.slice Ao11 t211.length co11)) (fun _ hk=>hk.2) (.int .i64 t214)) (fun _ hk=>hk.2) (.int .i64 t215)) (fun _ hk=>hk.2) (.int .i64 t216)) (fun _ hk=>trivial)))⟩;have n1_:Aside0 (w18.heap[gb208]? =some (.cells #[.slice A0_0 l0_0.length c0_0,.int .i64 a0_1,.int .i64 a0_2,.int .i64 a0_3] 71 (0,0))):=⟨(by rw[hw];exact(by(with_reducible repeat(first|refine blk_drewN ?_ _|refine blk_drew ?_|refine blk_alloc ?_ _));refine blk_far ?_ NB208_209.out _;(with_reducible repeat(first|refine blk_drewN ?_ _|refine blk_drew ?_|refine blk_alloc ?_ _));refine blk_far ?_ NB208_209.out _;(with_reducible repeat(first|refine blk_drewN ?_ _|refine blk_drew ?_|refine blk_alloc ?_ _));refine blk_far ?_ NB208_209.out _;(with_reducible repeat(first|refine blk_drewN ?_ _|refine blk_drew ?_|refine blk_alloc ?_ _));refine blk_far ?_ NB208_209.out _;(with_reducible repeat(first|refine blk_drewN ?_ _|refine blk_drew ?_|refine blk_alloc ?_ _));refine blk_far ?_ NB208_210.out _;(with_reducible repeat(first|refine blk_drewN ?_ _|refine blk_drew ?_|refine blk_alloc ?_ _));refine blk_far ?_ NB208_210.out _;(with_reducible repeat(first|refine blk_drewN ?_ _|refine blk_drew ?_|refine blk_alloc ?_ _));refine blk_far ?_ NB208_210.out _;(with_reducible repeat(first|refine blk_drewN ?_ _|refine blk_drew ?_|refine blk_alloc ?_ _));exact BK208.out))⟩;have n2_:Aside0 (w18.heap[gb209]? =some (.cells #[.slice Ao11 t211.length co11,.int .i64 t214,.int .i64 t215,.int .i64 t216] 64 (0,0))):=⟨(by rw[hw];exact(by(with_reducible repeat(first|refine blk_drewN ?_ _|refine blk_drew ?_|refine blk_alloc ?_ _));refine blk_put (cs:= #[.slice Ao11 t211.length co11,.int .i64 t214,.int .i64 t215,.int .i64 0]) ?_ 3 _ rfl;(with_reducible repeat(first|refine blk_drewN ?_ _|refine blk_drew ?_|refine blk_alloc ?_ _));refine blk_put (cs:= #[.slice Ao11 t211.length co11,.int .i64 t214,.int .i64 0,.int .i64 0]) ?_ 2 _ rfl;(with_reducible repeat(first|refine blk_drewN ?_ _|refine blk_drew ?_|refine blk_alloc ?_ _));refine blk_put (cs:= #[.slice Ao11 t211.length co11,.int .i64 0,.int .i64 0,.int .i64 0]) ?_ 1 _ rfl;(with_reducible repeat(first|refine blk_drewN ?_ _|refine blk_drew ?_|refine blk_alloc ?_ _));refine blk_put (cs:= #[.slice none 0 0,.int .i64 0,.int .i64 0,.int .i64 0]) ?_ 0 _ rfl;(with_reducible repeat(first|refine blk_drewN ?_ _|refine blk_drew ?_|refine blk_alloc ?_ _));refine blk_far ?_ NB209_210.out _;(with_reducible repeat(first|refine blk_drewN ?_ _|refine blk_drew ?_|refine blk_alloc ?_ _));refine blk_far ?_ NB209_210.out _;(with_reducible repeat(first|refine blk_drewN ?_ _|refine blk_drew ?_|refine blk_alloc ?_ _));refine blk_far ?_ NB209_210.out _;(with_reducible repeat(first|refine blk_drewN ?_ _|refine blk_drew ?_|refine blk_alloc ?_ _));exact BK209.out))⟩;have n3_:Aside0 (w18.heap[gb210]? =some (.cells #[.slice Ao11 t211.length co11,.int .i64 t214,.int .i64 t215,.int .i64 t216] 64 (0,0))):=⟨(by rw[hw];exact(by(with_reducible repeat(first|refine blk_drewN ?_ _|refine blk_drew ?_|refine blk_alloc ?_ _));refine blk_far ?_ NB210_209.out _;(with_reducible repeat(first|refine blk_drewN ?_ _|refine blk_drew ?_|refine blk_alloc ?_ _));refine blk_far ?_ NB210_209.out _;(with_reducible repeat(first|refine blk_drewN ?_ _|refine blk_drew ?_|refine blk_alloc ?_ _));refine blk_far ?_ NB210_209.out _;(with_reducible repeat(first|refine blk_drewN ?_ _|refine blk_drew ?_|refine blk_alloc ?_ _));refine blk_far ?_ NB210_209.out _;(with_reducible repeat(first|refine blk_drewN ?_ _|refine blk_drew ?_|refine blk_alloc ?_ _));refine blk_put (cs:= #[.slice Ao11 t211.length co11,.int .i64 t214,.int .i64 t215,.int .i64 0]) ?_ 3 _ rfl;(with_reducible repeat(first|refine blk_drewN ?_ _|refine blk_drew ?_|refine blk_alloc ?_ _));refine blk_put (cs:= #[.slice Ao11 t211.length co11,.int .i64 t214,.int .i64 0,.int .i64 0]) ?_ 2 _ rfl;(with_reducible repeat(first|refine blk_drewN ?_ _|refine blk_drew ?_|refine blk_alloc ?_ _));refine blk_put (cs:= #[.slice Ao11 t211.length co11,.int .i64 0,.int .i64 0,.int .i64 0]) ?_ 1 _ rfl;(with_reducible repeat(first|refine blk_drewN ?_ _|refine blk_drew ?_|refine blk_alloc ?_ _));exact BK210.out))⟩;have n4_:Aside0 (Below w.heap.size w w18):=⟨(by rw[hw];exact z7_5)⟩;clear hw;clear HO213;clear BK208;clear BK209;clear BK210;clear HB;have HO213:=n0_;have BK208:=n1_;have BK209:=n2_;have BK210:=n3_;have HB:=n4_;clear n0_ n1_ n2_ n3_ n4_))
 refine bodyPost_ret (results_cell_row rfl _ _ gb209 64 #[.slice Ao11 t211.length co11,.int .i64 t214,.int .i64 t215,.int .i64 t216] (0,0) _ rfl z7_6 Try.underlying64 rfl (by kernel_rfl)) rfl ?_
 exact⟨_,by first|rfl|(simp[errW_none,errW_some]<;>rfl)|(simp[*,errW_none,errW_some]<;>rfl)|(simp[*,errW_none,errW_some,i64_w];done),by(with_reducible repeat(first|apply Zn|apply Zo|apply Zm));exact HO213.out,by repeat(first|(with_reducible first|exact HB.out|apply Zh|apply Zf|apply Ze|refine Zd ?_ GE208.out|refine Zd ?_ GE209.out|refine Zd ?_ GE210.out)|exact HB.out)⟩
def laws_toTaskS.l0:Nat→List (S71)→List (S64)→Int→Option ((List (S64)))
 |0,_,_,_=>none
 |k+1,x0,x3,x4=>if x4<(x0.length:Int) then (if 0≤x4 then ((laws_toTask.f k ((rd_T71 x0 x4).f0) ((rd_T71 x0 x4).f1.f0) ((rd_T71 x0 x4).f1.f1) ((rd_T71 x0 x4).f1.f2)).bind fun bt221=>(if x4<(x3.length:Int) then (laws_toTaskS.l0 k x0 (x3.set (x4:Int).toNat (⟨bt221.1,(⟨bt221.2.1,bt221.2.2.1,bt221.2.2.2⟩:S62)⟩:S64)) (wrap64 (x4+1))) else (none))) else (none)) else (some x3)
def laws_toTaskS.f (k:Nat) (l0:List (S71)):Option ((List (S64))):=if 0≤(l0.length:Int) then (if ((l0.length:Int):Int).toNat≤5864062014805 then (laws_toTaskS.l0 k l0 (List.replicate ((l0.length:Int):Int).toNat z64) 0) else (none)) else (none)
set_option maxHeartbeats 8000000 in
set_option maxRecDepth 100000 in
theorem laws_toTaskS.calls (k:Nat) (A0:Option Addr) (c0:Nat) (l0:List (S71)) (r:List (S64)) (w:World) (hr0:Kd.C k71 w A0 l0.length l0) (hc0:l0.length≤c0) (h:laws_toTaskS.f k l0=some r):
  Calls Try.prog 26 #[.slice A0 l0.length c0] w fun e w'=>∃v0_:Value,e= .returned (v0_)∧Kd.S k64 64 w' w.heap.size (fun _=>True) v0_ r∧Below w.heap.size w w':=by
 have hu71:=Try.underlying71
 have hu64:=Try.underlying64
 have HR0:=Za hr0
 have HC0:=Za hc0
 clear hr0 hc0
 have HB:=Za (Yh w.heap.size w)
 have H:(if 0≤(l0.length:Int) then (if ((l0.length:Int):Int).toNat≤5864062014805 then (laws_toTaskS.l0 k l0 (List.replicate ((l0.length:Int):Int).toNat z64) 0) else (none)) else (none))=some r:=h
 clear h
 by_cases c2:0≤(l0.length:Int)
 ·rw[if_pos c2] at H
  have c2b0:=eq_true c2
  have c2b1:decide (0≤(l0.length:Int))=true:=Zx c2
  clear c2
  by_cases c3:((l0.length:Int):Int).toNat≤5864062014805
  ·rw[if_pos c3] at H
   have c3b0:=eq_true c3
   have c3b1:decide (((l0.length:Int):Int).toNat≤5864062014805)=true:=Zx c3
   clear c3
   obtain⟨y217,hy217⟩:∃y_:List (S64),y_=(List.replicate ((l0.length:Int):Int).toNat z64):=⟨_,rfl⟩
   replace H:(laws_toTaskS.l0 k l0 y217 0)=some r:=by first|(rw[hy217];with_reducible exact H)|(have H2_:=(Option.bind_some _ _).symm.trans H;rw[hy217];with_reducible exact H2_)|(have H2_:=(Option.bind_some _ _).symm.trans H;with_reducible exact H2_)|with_reducible exact H|(rw[hy217];exact H)|exact H
   have Ny217:=Za hy217
   clear hy217
   have H':=Za H
   clear H
   go_enter Try.func26,Try.ntmps26
   go_wp2_with (first|((with_reducible refine Zp (N:=7) rfl ?_);refine Kd.S_make k64 _ 64 rfl (N:=7) rfl 31 _ _ rfl (l0.length:Int) rfl rfl Try.underlying31 (.agg #[(.slice none 0 0),(.int .i64 0),(.int .i64 0),(.int .i64 0)]) 48 info64 rfl (by decide) (by omega) z64 (ok:=fun _=>True) (okp:=fun _=>True) (k64_mkM _ _ _ z64 (Kd.R_nil _ _ _ _ _)) (fun _ hk=>hk) trivial (Zv z7_2) (Nat.le_trans (Nat.mul_le_mul_right _ (Zv z7_2:(l0.length:Int).toNat≤5864062014805)) (by omega)) (Yh _ _) (Nat.le_refl _) ?_;intro v218 w4 ho5 hb hg_ hnew_;clear hg_ hnew_;(first|rw[←Ny217.out] at ho5|(simp only[Int.reduceToNat] at ho5;rw[←Ny217.out] at ho5));have HO219:=Za (Kd.S_lower ho5 (Zy z7_0));replace HB:=Za (Zj z7_0 hb);clear hb ho5))
   go_loopg [4] k (fun kq v4 w'=>∃(x3_1:List (S64)) (x4_1:Int),v4= .int .i64 x4_1∧Aside0 (laws_toTaskS.l0 kq l0 x3_1 x4_1=some r)∧Aside0 (kq≤k)∧Aside0 (Kd.S k64 64 w' w.heap.size (fun _=>True) v218 x3_1)∧Aside0 (Below w.heap.size w w'))
   case atStart=>exact⟨(y217),(0),z7_7,H',⟨Nat.le_refl _⟩,⟨by(with_reducible repeat(first|apply Kd.S_alloc|apply Kd.S_drewN|apply Kd.S_drew));exact HO219.out⟩,⟨by repeat(first|(with_reducible first|exact HB.out|apply Zh|apply Zf|apply Ze)|exact HB.out)⟩⟩
   case round=>
    clear H'
    (try clear c2);(try clear c2b0);(try clear c2b1);(try clear c3);(try clear c3b0);(try clear c3b1)
    obtain⟨x3_1,x4_1,rfl,HA,HK1,HO_3,HB⟩:=hrel
    cases gk with
    |zero=>exact absurd HA.out (by simp[laws_toTaskS.l0])
    |succ k1=>
     have H:=HA.out
     clear HA
     simp only[laws_toTaskS.l0] at H
     by_cases c6:x4_1<(l0.length:Int)
     ·rw[if_pos c6] at H
      have c6b0:decide (x4_1<(l0.length:Int))=true:=Zx c6
      clear c6
      by_cases c7:0≤x4_1
      ·rw[if_pos c7] at H
       have c7b0:decide (0≤x4_1)=true:=Zx c7
       clear c7
       replace H:=Zl H
       obtain⟨⟨t221,t224,t225,t226⟩,A80,H⟩:=H
       replace H:(if x4_1<(x3_1.length:Int) then (laws_toTaskS.l0 k1 l0 (x3_1.set (x4_1:Int).toNat (⟨t221,(⟨t224,t225,t226⟩:S62)⟩:S64)) (wrap64 (x4_1+1))) else (none))=some r:=H
       have A8:=Za A80
       clear A80
       by_cases c9:x4_1<(x3_1.length:Int)
       ·rw[if_pos c9] at H
        have c9b0:decide (x4_1<(x3_1.length:Int))=true:=Zx c9
        clear c9
        obtain⟨y227,hy227⟩:∃y_:List (S64),y_=(x3_1.set (x4_1:Int).toNat (⟨t221,(⟨t224,t225,t226⟩:S62)⟩:S64)):=⟨_,rfl⟩
        replace H:(laws_toTaskS.l0 k1 l0 y227 (wrap64 (x4_1+1)))=some r:=by first|(rw[hy227];with_reducible exact H)|(have H2_:=(Option.bind_some _ _).symm.trans H;rw[hy227];with_reducible exact H2_)|(have H2_:=(Option.bind_some _ _).symm.trans H;with_reducible exact H2_)|with_reducible exact H|(rw[hy227];exact H)|exact H
        have Ny227:=Za hy227
        clear hy227
        have H':=Za H
        clear H
        have p220:0≤(x4_1:Int):=Zv z7_2
        have q220:x4_1<(l0.length:Int):=Zv z7_2
        obtain⟨ad220,A220_0,c220_0,e220,hx220_0,hx220_1,hx220_2,hx220_3,hl220_0,hi220_0⟩:=at_T71 HR0.out x4_1 p220 q220
        cases e220
        replace hx220_0:=(HB.out.cell (Zi w _ hx220_0)).trans hx220_0
        replace hx220_1:=(HB.out.cell (Zi w _ hx220_1)).trans hx220_1
        replace hx220_2:=(HB.out.cell (Zi w _ hx220_2)).trans hx220_2
        replace hx220_3:=(HB.out.cell (Zi w _ hx220_3)).trans hx220_3
        have HR220_0:=Za hi220_0
        have HC220_0:=Za hl220_0
        clear hi220_0 hl220_0
        replace p220:=eq_true p220
        replace q220:=eq_true q220
        go_wp2_with (first|((first|((with_reducible refine gate_callee (f:=44) rfl ?_);refine goesL_ (some 20) rfl rfl Try.func44 (by kernel_rfl) rfl #[.agg #[.slice A220_0 ((rd_T71 l0 x4_1).f0).length c220_0,.int .i64 ((rd_T71 l0 x4_1).f1.f0),.int .i64 ((rd_T71 l0 x4_1).f1.f1),.int .i64 ((rd_T71 l0 x4_1).f1.f2)]] rfl z7_1 ?_;(with_reducible refine(laws_toTask.calls k1 _ _ ((rd_T71 l0 x4_1).f0) ((rd_T71 l0 x4_1).f1.f0) ((rd_T71 l0 x4_1).f1.f1) ((rd_T71 l0 x4_1).f1.f2) t221 t224 t225 t226 _ ?side1 ?side2 A8.out).mono ?_))|(go_at_call 44;(with_reducible refine(laws_toTask.calls k1 _ _ ((rd_T71 l0 x4_1).f0) ((rd_T71 l0 x4_1).f1.f0) ((rd_T71 l0 x4_1).f1.f1) ((rd_T71 l0 x4_1).f1.f2) t221 t224 t225 t226 _ ?side1 ?side2 A8.out).mono ?_)));(case side1=>repeat(first|exact(Yg HR220_0.out HB.out)|(with_reducible refine Yc ?_ _)|(with_reducible refine Yd ?_ _)|(with_reducible refine Ye ?_)));(case side2=>exact HC220_0.out);rintro e w11 ⟨v222,rfl,ho0,hb⟩;(first|refine⟨_,rfl,?_⟩|skip);replace HO_3:=Za (Kd.S_elder' (by(with_reducible repeat(first|apply Kd.S_alloc|apply Kd.S_drewN|apply Kd.S_drew));exact HO_3.out) (Yf ho0) hb);have HO223:=Za (Kd.R_lower ho0 (Zy z7_0));replace HB:=Za (Zj z7_0 hb);(try clear hb);(try clear hb2);(try clear hk);(try clear hi);(try clear ho0);have p10:0≤(x4_1:Int):=Zv z7_2;have q10:(x4_1:Int)<((x3_1.length:Int):Int):=Zv z7_2;obtain⟨go10,co10,eo10,gb10,gl10,cl10,HG10⟩:=Kd.S_form HO_3.out (by omega);(first|cases eo10|(injection eo10 with ea_ en_ ec_;(first|subst ea_|(injection ea_ with ea_;subst ea_));subst ec_;clear en_));have GB10:=Za gb10;have GG10:=Za HG10;clear gb10 gl10 HG10;obtain⟨_,ce10,hcl10,hM10,hcc10,hfr10,_,_⟩:=Kd.S_elem HO_3.out z64 (x4_1:Int) p10 q10;obtain⟨ve10_0,rfl,ge10_0⟩:=k64_openM hM10;have hx10_0:w11.cell? ⟨go10,(x4_1:Int).toNat*4,none⟩=some (ve10_0):=hcc10 0 _ rfl;have hx10_1:w11.cell? ⟨go10,(x4_1:Int).toNat*4+1,none⟩=some (.int .i64 ((rd_T64 x3_1 x4_1).f1.f0)):=hcc10 1 _ rfl;have hx10_2:w11.cell? ⟨go10,(x4_1:Int).toNat*4+2,none⟩=some (.int .i64 ((rd_T64 x3_1 x4_1).f1.f1)):=hcc10 2 _ rfl;have hx10_3:w11.cell? ⟨go10,(x4_1:Int).toNat*4+3,none⟩=some (.int .i64 ((rd_T64 x3_1 x4_1).f1.f2)):=hcc10 3 _ rfl;have hf10_0:w11.frozen? ⟨go10,(x4_1:Int).toNat*4,none⟩=false:=hfr10 0;have hf10_1:w11.frozen? ⟨go10,(x4_1:Int).toNat*4+1,none⟩=false:=hfr10 1;have hf10_2:w11.frozen? ⟨go10,(x4_1:Int).toNat*4+2,none⟩=false:=hfr10 2;have hf10_3:w11.frozen? ⟨go10,(x4_1:Int).toNat*4+3,none⟩=false:=hfr10 3;clear hcl10 hcc10 hfr10;(try clear hM10);replace p10:=eq_true p10;replace q10:=eq_true q10;have n_:=Za (Kd.S_mono (ok':=(fun k_=>some k_≠(v222:Value).ownBlock)) HO_3.out (fun k_ hk=>hk.2));clear HO_3;have HO_3:=n_;clear n_;have HX12:=Za (show Kd.S k64 64 w11 w.heap.size (fun k_=>((fun _=>True)) k_∧¬((fun k_=>some k_=(v222:Value).ownBlock)) k_) (.slice (some ⟨go10,0,none⟩) x3_1.length co10) x3_1 from (by(with_reducible repeat(first|apply Kd.S_alloc|apply Kd.S_drewN|apply Kd.S_drew));exact Kd.S_mono HO_3.out (fun k_ hk=>⟨trivial,fun e_=>hk e_⟩)));obtain⟨oki12,ce12,hcl12,hM12,hcc12,hfr12,hoki12,hH12⟩:=Kd.S_elem HX12.out z64 (x4_1:Int) (Zv z7_2) (by have h_:(x4_1:Int)<((x3_1.length:Int):Int):=Zv z7_2;first|exact h_|(have e_:=(Kd.S_reads' HO_3.out).1;omega)|simpa using h_);obtain⟨ve12_0,rfl,ge12_0⟩:=k64_openM hM12;have HP12:=Kd.S_seg hH12 (Zv z7_2) (by have h_:(x4_1:Int)<((x3_1.length:Int):Int):=Zv z7_2;first|exact h_|(have e_:=(Kd.S_reads' HO_3.out).1;omega)|simpa using h_) (seg:=[v222,.int .i64 t224,.int .i64 t225,.int .i64 t226]) (j:=0) (show 4≤4 from by decide) (x':=(⟨t221,(⟨t224,t225,t226⟩:S62)⟩:S64)) (k64_mkM _ _ _ (⟨t221,(⟨t224,t225,t226⟩:S62)⟩:S64) (Zw (Kd.R_tight rfl (Zw (ok':=fun k_=>((fun _=>True)) k_∧k_≠go10) (Kd.R_apart' (HO223.out) (Kd.S_typed HO_3.out) (by decide)) (fun k_ hk=>⟨trivial,fun e_=>(hk.2) (by rw[e_];rfl)⟩))) (fun _ h_=>Or.inr (h_)))) (fun _ hk=>hk) (fun k_ hk_=>((Zw (ok':=fun k_=>((fun _=>True)) k_∧k_≠go10) (Kd.R_apart' (HO223.out) (Kd.S_typed HO_3.out) (by decide)) (fun k_ hk=>⟨trivial,fun e_=>(hk.2) (by rw[e_];rfl)⟩))).1 k_ hk_.symm);have hx12_0:=hcc12 0 _ rfl;(try simp only[show(k64).sz=4 from rfl,Nat.mul_one,Nat.add_zero] at hx12_0);have hf12_0:=hfr12 0;(try simp only[show(k64).sz=4 from rfl,Nat.mul_one,Nat.add_zero] at hf12_0);have hx12_1:=hcc12 1 _ rfl;(try simp only[show(k64).sz=4 from rfl,Nat.mul_one,Nat.add_zero] at hx12_1);have hf12_1:=hfr12 1;(try simp only[show(k64).sz=4 from rfl,Nat.mul_one,Nat.add_zero] at hf12_1);have hx12_2:=hcc12 2 _ rfl;(try simp only[show(k64).sz=4 from rfl,Nat.mul_one,Nat.add_zero] at hx12_2);have hf12_2:=hfr12 2;(try simp only[show(k64).sz=4 from rfl,Nat.mul_one,Nat.add_zero] at hf12_2);have hx12_3:=hcc12 3 _ rfl;(try simp only[show(k64).sz=4 from rfl,Nat.mul_one,Nat.add_zero] at hx12_3);have hf12_3:=hfr12 3;(try simp only[show(k64).sz=4 from rfl,Nat.mul_one,Nat.add_zero] at hf12_3);clear hcl12 hcc12 hfr12 hoki12 hH12;(try clear hM12))|((with_reducible refine Yk (t:=64) (p:=21) rfl ?_);refine Yj (t:=64) (p:=21) (v:= ?vo_w13) (w1:=((((w11.setCell ⟨go10,(x4_1:Int).toNat*4,none⟩ (v222)).setCell ⟨go10,(x4_1:Int).toNat*4+1,none⟩ (.int .i64 t224)).setCell ⟨go10,(x4_1:Int).toNat*4+2,none⟩ (.int .i64 t225)).setCell ⟨go10,(x4_1:Int).toNat*4+3,none⟩ (.int .i64 t226))) ?hg ?ho ?hn ?hr ?_;(case ho=>rfl);(case hg=>rfl);(case hn=>rfl);(case hr=>first|(go_simp;done)|(go_simp;rfl)|(obtain⟨A_,c_,e_⟩:=Yn HO223.out;subst e_;first|(go_simp;done)|(go_simp;rfl)));intro w13 hw;have hg:w11.grownBy w13 (some go10):=(by rw[hw];exact HP12.2);have hp_:Kd.S k64 64 w13 w.heap.size (fun _=>True) (.slice (some ⟨go10,0,none⟩) x3_1.length co10) y227:=(by rw[hw,Ny227.out];exact HP12.1);clear HP12;have n0_:=Za (hp_);have n1_:=Za ((by rw[hw];exact Zd (Zd (Zd (Zd (HB.out) GB10.out) GB10.out) GB10.out) GB10.out:Below w.heap.size w w13));clear HO_3;clear HB;clear HO223;have HO_3:=n0_;have HB:=n1_;clear n0_ n1_;clear hg hw hp_))
        go_roundg k1
        case measure=>have:=HK1.out;omega
        case rel=>exact⟨(y227),(wrap64 (x4_1+1)),z7_7,H',⟨by have:=HK1.out;omega⟩,⟨by(with_reducible repeat(first|apply Kd.S_alloc|apply Kd.S_drewN|apply Kd.S_drew));exact HO_3.out⟩,⟨by repeat(first|(with_reducible first|exact HB.out|apply Zh|apply Zf|apply Ze)|exact HB.out)⟩⟩
       ·rw[if_neg c9] at H
        exact absurd H (by simp)
      ·rw[if_neg c7] at H
       exact absurd H (by simp)
     ·rw[if_neg c6] at H
      have c6b0:decide (x4_1<(l0.length:Int))=false:=Yi c6
      clear c6
      obtain rfl:=Zk H
      go_wp2
      go_ret
      exact⟨_,by first|rfl|(simp[errW_none,errW_some]<;>rfl)|(simp[*,errW_none,errW_some]<;>rfl)|(simp[*,errW_none,errW_some,i64_w];done),by(with_reducible repeat(first|apply Kd.S_alloc|apply Kd.S_drewN|apply Kd.S_drew));exact HO_3.out,by repeat(first|(with_reducible first|exact HB.out|apply Zh|apply Zf|apply Ze)|exact HB.out)⟩
  ·rw[if_neg c3] at H
   exact absurd H (by simp)
 ·rw[if_neg c2] at H
  exact absurd H (by simp)
def laws_toProgram.f (k:Nat) (l0_0:List (S71)):Option ((List (S64))):=(laws_toTaskS.f k l0_0).bind fun t231=>(some t231)
set_option maxHeartbeats 8000000 in
set_option maxRecDepth 100000 in
theorem laws_toProgram.calls (k:Nat) (A0_0:Option Addr) (c0_0:Nat) (l0_0:List (S71)) (r:List (S64)) (w:World) (hr0_0:Kd.C k71 w A0_0 l0_0.length l0_0) (hc0_0:l0_0.length≤c0_0) (h:laws_toProgram.f k l0_0=some r):
  Calls Try.prog 7 #[.agg #[.slice A0_0 l0_0.length c0_0]] w fun e w'=>∃v0_:Value,e= .returned (.agg #[v0_])∧Kd.S k64 64 w' w.heap.size (fun _=>True) v0_ r∧Below w.heap.size w w':=by
 have hu24:=Try.underlying24
 have hu33:=Try.underlying33
 have HR0_0:=Za hr0_0
 have HC0_0:=Za hc0_0
 clear hr0_0 hc0_0
 have HB:=Za (Yh w.heap.size w)
 have H:((laws_toTaskS.f k l0_0).bind fun t231=>(some t231))=some r:=h
 clear h
 replace H:=Zl H
 obtain⟨t231,A20,H⟩:=H
 replace H:(some t231)=some r:=H
 have A2:=Za A20
 clear A20
 obtain rfl:=Zk H
 go_enter Try.func7,Try.ntmps7
 go_wp2_with (first|((with_reducible refine Zp (N:=1) rfl ?_);refine Zt ?hg (N:=1) ?hd (cs:= #[.slice A0_0 l0_0.length c0_0]) (t:=24) ?hr ?_;(case hd=>rfl);(case hg=>rfl);(case hr=>exact z7_8);intro gb228 hg w3 hbox hb;have BK228:=Za (hbox);have GW228:=Za ((z7_15:w.heap.size≤gb228));have GE228:=Za ((z7_15:w.heap.size≤gb228));replace HB:=Za (Zj z7_0 hb);clear hb hbox hg)|((with_reducible refine Zp (N:=2) rfl ?_);refine Zt ?hg (N:=2) ?hd (cs:= #[.slice none 0 0]) (t:=33) ?hr ?_;(case hd=>rfl);(case hg=>rfl);(case hr=>exact z7_8);intro gb229 hg w4 hbox hb;have BK229:=Za (hbox);have GW229:=Za ((by rw[hg];exact(Zy z7_12):w.heap.size≤gb229));have GE229:=Za ((by rw[hg];exact(Zy z7_12):w.heap.size≤gb229));replace HB:=Za (Zj z7_12 hb);have NB228_229:=Za ((by rw[hg];exact Nat.ne_of_lt (blk_lt (g:=gb228) (o:= .cells #[.slice A0_0 l0_0.length c0_0] 24 (0,0)) z7_3):gb228≠gb229));have NB229_228:=Za ((by rw[hg];exact Nat.ne_of_gt (blk_lt (g:=gb228) (o:= .cells #[.slice A0_0 l0_0.length c0_0] 24 (0,0)) z7_3):gb229≠gb228));replace BK228:=Za (Zg (g:=gb228) (o:= .cells #[.slice A0_0 l0_0.length c0_0] 24 (0,0)) z7_3 hb);clear hb hbox hg)|((with_reducible refine Zp (N:=3) rfl ?_);refine Zt ?hg (N:=3) ?hd (cs:= #[.slice none 0 0]) (t:=33) ?hr ?_;(case hd=>rfl);(case hg=>rfl);(case hr=>exact z7_8);intro gb230 hg w5 hbox hb;have BK230:=Za (hbox);have GW230:=Za ((by rw[hg];exact(Zy z7_9):w.heap.size≤gb230));have GE230:=Za ((by rw[hg];exact(Zy z7_9):w.heap.size≤gb230));replace HB:=Za (Zj z7_9 hb);have NB228_230:=Za ((by rw[hg];exact Nat.ne_of_lt (blk_lt (g:=gb228) (o:= .cells #[.slice A0_0 l0_0.length c0_0] 24 (0,0)) z7_3):gb228≠gb230));have NB230_228:=Za ((by rw[hg];exact Nat.ne_of_gt (blk_lt (g:=gb228) (o:= .cells #[.slice A0_0 l0_0.length c0_0] 24 (0,0)) z7_3):gb230≠gb228));replace BK228:=Za (Zg (g:=gb228) (o:= .cells #[.slice A0_0 l0_0.length c0_0] 24 (0,0)) z7_3 hb);have NB229_230:=Za ((by rw[hg];exact Nat.ne_of_lt (blk_lt (g:=gb229) (o:= .cells #[.slice none 0 0] 33 (0,0)) z7_11):gb229≠gb230));have NB230_229:=Za ((by rw[hg];exact Nat.ne_of_gt (blk_lt (g:=gb229) (o:= .cells #[.slice none 0 0] 33 (0,0)) z7_11):gb230≠gb229));replace BK229:=Za (Zg (g:=gb229) (o:= .cells #[.slice none 0 0] 33 (0,0)) z7_11 hb);clear hb hbox hg;have hnb6:=NB228_229.out;have hnc6:=NB229_228.out;have hnb7:=NB228_230.out;have hnc7:=NB230_228.out;have hcz8_0:w5.cell? ⟨gb228,0,none⟩=some (.slice A0_0 l0_0.length c0_0):=(Zb BK228.out 0).trans rfl;have hfz8_0:=Zc BK228.out 0)|((first|((with_reducible refine gate_callee (f:=26) rfl ?_);refine goesL_ (some 6) rfl rfl Try.func26 (by kernel_rfl) rfl #[.slice A0_0 l0_0.length c0_0] rfl z7_1 ?_;(with_reducible refine(laws_toTaskS.calls k _ _ l0_0 t231 _ ?side1 ?side2 A2.out).mono ?_))|(go_at_call 26;(with_reducible refine(laws_toTaskS.calls k _ _ l0_0 t231 _ ?side1 ?side2 A2.out).mono ?_)));(case side1=>repeat(first|exact(Yg HR0_0.out HB.out)|(with_reducible refine Yc ?_ _)|(with_reducible refine Yd ?_ _)|(with_reducible refine Ye ?_)));(case side2=>exact HC0_0.out);rintro e w9 ⟨v232,rfl,ho0,hb⟩;(first|refine⟨_,rfl,?_⟩|skip);have HO233:=Za (Kd.S_lower ho0 (Zy z7_14));replace BK228:=Za (Zg (g:=gb228) (o:= .cells #[.slice A0_0 l0_0.length c0_0] 24 (0,0)) z7_3 hb);replace BK229:=Za (Zg (g:=gb229) (o:= .cells #[.slice none 0 0] 33 (0,0)) z7_11 hb);replace BK230:=Za (Zg (g:=gb230) (o:= .cells #[.slice none 0 0] 33 (0,0)) (by(with_reducible repeat(first|refine blk_drewN ?_ _|refine blk_drew ?_|refine blk_alloc ?_ _));exact BK230.out) hb);replace HB:=Za (Zj z7_14 hb);(try clear hb);(try clear hb2);(try clear hk);(try clear hi);(try clear ho0);obtain⟨Ao10,co10,eo10⟩:=Kd.S_slice HO233.out;subst eo10;have hnb11:=NB230_229.out;have hnc11:=NB229_230.out;have hcz12_0:w9.cell? ⟨gb230,0,none⟩=some (.slice none 0 0):=(Zb BK230.out 0).trans rfl;have hfz12_0:=Zc BK230.out 0;have hcz13_0:w9.cell? ⟨gb229,0,none⟩=some (.slice none 0 0):=(Zb BK229.out 0).trans rfl;have hfz13_0:=Zc BK229.out 0))
 refine bodyPost_ret (results_cell_row rfl _ _ gb229 33 #[.slice Ao10 t231.length co10] (0,0) _ rfl (by(with_reducible repeat(first|refine blk_drewN ?_ _|refine blk_drew ?_|refine blk_alloc ?_ _));refine blk_put (cs:= #[.slice none 0 0]) ?_ 0 _ rfl;(with_reducible repeat(first|refine blk_drewN ?_ _|refine blk_drew ?_|refine blk_alloc ?_ _));refine blk_far ?_ NB229_230.out _;(with_reducible repeat(first|refine blk_drewN ?_ _|refine blk_drew ?_|refine blk_alloc ?_ _));exact BK229.out) Try.underlying33 rfl (by kernel_rfl)) rfl ?_
 exact⟨_,by first|rfl|(simp[errW_none,errW_some]<;>rfl)|(simp[*,errW_none,errW_some]<;>rfl)|(simp[*,errW_none,errW_some,i64_w];done),by(with_reducible repeat(first|apply Kd.S_alloc|apply Kd.S_drewN|apply Kd.S_drew));exact Kd.S_mono (Kd.S_far (p:=⟨gb229,0,none⟩) (Kd.S_far (p:=⟨gb230,0,none⟩) (Kd.S_types (Kd.S_types HO233.out BK230.out (by decide)) BK229.out (by decide)) (fun _ hk=>hk.1.2) (.slice Ao10 t231.length co10)) (fun _ hk=>hk.2) (.slice Ao10 t231.length co10)) (fun _ hk=>trivial),by repeat(first|(with_reducible first|exact HB.out|apply Zh|apply Zf|apply Ze|refine Zd ?_ GE228.out|refine Zd ?_ GE229.out|refine Zd ?_ GE230.out)|exact HB.out)⟩
def laws_toIntS.l0:Nat→List Int→List Int→Int→Option (List Int)
 |0,_,_,_=>none
 |k+1,x0,x3,x4=>if x4<(x0.length:Int) then (if 0≤x4 then (if x4<(x3.length:Int) then (laws_toIntS.l0 k x0 (x3.set (x4:Int).toNat (rd x0 x4)) (wrap64 (x4+1))) else (none)) else (none)) else (some x3)
def laws_toIntS.f (k:Nat) (l0:List Int):Option (List Int):=if 0≤(l0.length:Int) then (if ((l0.length:Int):Int).toNat≤35184372088832 then (laws_toIntS.l0 k l0 (List.replicate ((l0.length:Int):Int).toNat 0) 0) else (none)) else (none)
set_option maxHeartbeats 8000000 in
set_option maxRecDepth 100000 in
theorem laws_toIntS.calls (k:Nat) (A0:Option Addr) (c0:Nat) (l0:List Int) (r:List Int) (w:World) (hr0:Kd.C (Kd.int .i64) w A0 l0.length l0) (hc0:l0.length≤c0) (h:laws_toIntS.f k l0=some r):
  Calls Try.prog 8 #[.slice A0 l0.length c0] w fun e w'=>∃v0_:Value,e= .returned (v0_)∧Kd.R (Kd.int .i64) 3 w' w.heap.size (fun _=>True) v0_ r∧Below w.heap.size w w':=by
 have HR0:=Za hr0
 have HC0:=Za hc0
 clear hr0 hc0
 have HB:=Za (Yh w.heap.size w)
 have H:(if 0≤(l0.length:Int) then (if ((l0.length:Int):Int).toNat≤35184372088832 then (laws_toIntS.l0 k l0 (List.replicate ((l0.length:Int):Int).toNat 0) 0) else (none)) else (none))=some r:=h
 clear h
 by_cases c2:0≤(l0.length:Int)
 ·rw[if_pos c2] at H
  have c2b0:=eq_true c2
  have c2b1:decide (0≤(l0.length:Int))=true:=Zx c2
  clear c2
  by_cases c3:((l0.length:Int):Int).toNat≤35184372088832
  ·rw[if_pos c3] at H
   have c3b0:=eq_true c3
   have c3b1:decide (((l0.length:Int):Int).toNat≤35184372088832)=true:=Zx c3
   clear c3
   obtain⟨y234,hy234⟩:∃y_:List Int,y_=(List.replicate ((l0.length:Int):Int).toNat 0):=⟨_,rfl⟩
   replace H:(laws_toIntS.l0 k l0 y234 0)=some r:=by first|(rw[hy234];with_reducible exact H)|(have H2_:=(Option.bind_some _ _).symm.trans H;rw[hy234];with_reducible exact H2_)|(have H2_:=(Option.bind_some _ _).symm.trans H;with_reducible exact H2_)|with_reducible exact H|(rw[hy234];exact H)|exact H
   have Ny234:=Za hy234
   clear hy234
   have H':=Za H
   clear H
   go_enter Try.func8,Try.ntmps8
   go_wp2_with (first|((with_reducible refine Zp (N:=7) rfl ?_);refine Kd.R_make (Kd.int .i64) _ 3 rfl (N:=7) rfl 25 _ _ rfl (l0.length:Int) rfl rfl Try.underlying25 (.int .i64 0) 8 info3 rfl (by decide) (by omega) 0 (ok:=fun _=>True) (okp:=fun _=>True) rfl (fun _ hk=>hk) trivial (Zv z7_2) (Nat.le_trans (Nat.mul_le_mul_right _ (Zv z7_2:(l0.length:Int).toNat≤35184372088832)) (by omega)) (Yh _ _) (Nat.le_refl _) ?_;intro v235 w4 ho5 hb hg_ hnew_;clear hg_ hnew_;(first|rw[←Ny234.out] at ho5|(simp only[Int.reduceToNat] at ho5;rw[←Ny234.out] at ho5));have HO236:=Za (Kd.R_lower ho5 (Zy z7_0));replace HB:=Za (Zj z7_0 hb);clear hb ho5))
   go_loopg [4] k (fun kq v4 w'=>∃(x3_1:List Int) (x4_1:Int),v4= .int .i64 x4_1∧Aside0 (laws_toIntS.l0 kq l0 x3_1 x4_1=some r)∧Aside0 (kq≤k)∧Aside0 (Kd.R (Kd.int .i64) 3 w' w.heap.size (fun _=>True) v235 x3_1)∧Aside0 (Below w.heap.size w w'))
   case atStart=>exact⟨(y234),(0),z7_7,H',⟨Nat.le_refl _⟩,⟨by(with_reducible repeat(first|apply Zn|apply Zo|apply Zm));exact HO236.out⟩,⟨by repeat(first|(with_reducible first|exact HB.out|apply Zh|apply Zf|apply Ze)|exact HB.out)⟩⟩
   case round=>
    clear H'
    (try clear c2);(try clear c2b0);(try clear c2b1);(try clear c3);(try clear c3b0);(try clear c3b1)
    obtain⟨x3_1,x4_1,rfl,HA,HK1,HO_3,HB⟩:=hrel
    cases gk with
    |zero=>exact absurd HA.out (by simp[laws_toIntS.l0])
    |succ k1=>
     have H:=HA.out
     clear HA
     simp only[laws_toIntS.l0] at H
     by_cases c6:x4_1<(l0.length:Int)
     ·rw[if_pos c6] at H
      have c6b0:decide (x4_1<(l0.length:Int))=true:=Zx c6
      clear c6
      by_cases c7:0≤x4_1
      ·rw[if_pos c7] at H
       have c7b0:decide (0≤x4_1)=true:=Zx c7
       clear c7
       by_cases c8:x4_1<(x3_1.length:Int)
       ·rw[if_pos c8] at H
        have c8b0:decide (x4_1<(x3_1.length:Int))=true:=Zx c8
        clear c8
        obtain⟨y238,hy238⟩:∃y_:List Int,y_=(x3_1.set (x4_1:Int).toNat (rd l0 x4_1)):=⟨_,rfl⟩
        replace H:(laws_toIntS.l0 k1 l0 y238 (wrap64 (x4_1+1)))=some r:=by first|(rw[hy238];with_reducible exact H)|(have H2_:=(Option.bind_some _ _).symm.trans H;rw[hy238];with_reducible exact H2_)|(have H2_:=(Option.bind_some _ _).symm.trans H;with_reducible exact H2_)|with_reducible exact H|(rw[hy238];exact H)|exact H
        have Ny238:=Za hy238
        clear hy238
        have H':=Za H
        clear H
        have p237:0≤(x4_1:Int):=Zv z7_2
        have q237:x4_1<(l0.length:Int):=Zv z7_2
        obtain⟨ad237,e237,hx237_0⟩:=Kd.at_int HR0.out x4_1 p237 q237
        cases e237
        replace hx237_0:=(HB.out.cell (Zi w _ hx237_0)).trans hx237_0
        replace p237:=eq_true p237
        replace q237:=eq_true q237
        have p9:0≤(x4_1:Int):=Zv z7_2
        have q9:(x4_1:Int)<((x3_1.length:Int):Int):=Zv z7_2
        obtain⟨go9,co9,eo9,gb9,gl9,cl9,HG9⟩:=Kd.R_form HO_3.out (by omega)
        (first|cases eo9|(injection eo9 with ea_ en_ ec_;(first|subst ea_|(injection ea_ with ea_;subst ea_));subst ec_;clear en_))
        have GB9:=Za gb9
        have GG9:=Za HG9
        clear gb9 gl9 HG9
        obtain⟨hx9_0,hf9_0⟩:=Kd.R_celln 0 HO_3.out (x4_1:Int) p9 q9
        replace p9:=eq_true p9
        replace q9:=eq_true q9
        have HP10:=Kd.R_putg HO_3.out (x4_1:Int) (rd l0 x4_1)
        go_wp2_with (first|((with_reducible refine Yk (t:=3) (p:=20) rfl ?_);refine Yj (t:=3) (p:=20) (v:= ?vo_w11) (w1:=(wr.setCell ⟨go9,(x4_1:Int).toNat,none⟩ (.int .i64 (rd l0 x4_1)))) ?hg ?ho ?hn ?hr ?_;(case ho=>rfl);(case hg=>rfl);(case hn=>rfl);(case hr=>exact z7_8);intro w11 hw;have hg:wr.grownBy w11 (some go9):=(by rw[hw];exact HP10.2);have hp_:Kd.R (Kd.int .i64) 3 w11 w.heap.size (fun _=>True) (.slice (some ⟨go9,0,none⟩) x3_1.length co9) y238:=(by rw[hw,Ny238.out];exact HP10.1);clear HP10;replace HO_3:=Za (hp_);replace HB:=Za ((by rw[hw];exact Zd (HB.out) GB9.out:Below w.heap.size w w11));clear hg hw hp_))
        go_roundg k1
        case measure=>have:=HK1.out;omega
        case rel=>exact⟨(y238),(wrap64 (x4_1+1)),z7_7,H',⟨by have:=HK1.out;omega⟩,⟨by(with_reducible repeat(first|apply Zn|apply Zo|apply Zm));exact HO_3.out⟩,⟨by repeat(first|(with_reducible first|exact HB.out|apply Zh|apply Zf|apply Ze)|exact HB.out)⟩⟩
       ·rw[if_neg c8] at H
        exact absurd H (by simp)
      ·rw[if_neg c7] at H
       exact absurd H (by simp)
     ·rw[if_neg c6] at H
      have c6b0:decide (x4_1<(l0.length:Int))=false:=Yi c6
      clear c6
      obtain rfl:=Zk H
      go_wp2
      go_ret
      exact⟨_,by first|rfl|(simp[errW_none,errW_some]<;>rfl)|(simp[*,errW_none,errW_some]<;>rfl)|(simp[*,errW_none,errW_some,i64_w];done),by(with_reducible repeat(first|apply Zn|apply Zo|apply Zm));exact HO_3.out,by repeat(first|(with_reducible first|exact HB.out|apply Zh|apply Zf|apply Ze)|exact HB.out)⟩
  ·rw[if_neg c3] at H
   exact absurd H (by simp)
 ·rw[if_neg c2] at H
  exact absurd H (by simp)
def impl_within.f (a0:Int) (a1:Int) (a2:Int):Option (Bool):=if a0≥a1 then (some (decide (a0≤a2))) else (some false)
set_option maxHeartbeats 8000000 in
set_option maxRecDepth 100000 in
theorem impl_within.calls (a0:Int) (a1:Int) (a2:Int) (r:Bool) (w:World) (h:impl_within.f a0 a1 a2=some r):
  Calls Try.prog 46 #[.int .i64 a0,.int .i64 a1,.int .i64 a2] w fun e w'=>e= .returned (.bool r)∧Drawn0 w w':=by
 have H:(if a0≥a1 then (some (decide (a0≤a2))) else (some false))=some r:=h
 clear h
 by_cases c4:a0≥a1
 ·rw[if_pos c4] at H
  have c4b0:decide (a1≤a0)=true:=Zx c4
  clear c4
  obtain rfl:=Zk H
  go_enter Try.func46,Try.ntmps46
  go_wp2
  go_ret
  exact⟨by first|rfl|(simp;done)|(simp[*];done),by repeat(first|exact Zz _|apply Ya)⟩
 ·rw[if_neg c4] at H
  have c4b0:decide (a1≤a0)=false:=Yi c4
  clear c4
  obtain rfl:=Zk H
  go_enter Try.func46,Try.ntmps46
  go_wp2
  go_ret
  exact⟨by first|rfl|(simp;done)|(simp[*];done),by repeat(first|exact Zz _|apply Ya)⟩
-- NOT PRINTED: function 90 (impl_Task_90)
-- NOT PRINTED: function 68 (impl_Task_68)
def impl_OperandOk.f (a0:Int):Option (Bool):=(impl_within.f a0 (-8) 999).bind fun t239=>(some t239)
set_option maxHeartbeats 8000000 in
set_option maxRecDepth 100000 in
theorem impl_OperandOk.calls (a0:Int) (r:Bool) (w:World) (h:impl_OperandOk.f a0=some r):
  Calls Try.prog 92 #[.int .i64 a0] w fun e w'=>e= .returned (.bool r)∧Drawn0 w w':=by
 have H:((impl_within.f a0 (-8) 999).bind fun t239=>(some t239))=some r:=h
 clear h
 replace H:=Zl H
 obtain⟨t239,A20,H⟩:=H
 replace H:(some t239)=some r:=H
 have A2:=Za A20
 clear A20
 obtain rfl:=Zk H
 go_enter Try.func92,Try.ntmps92
 go_wp2_with (first|((first|((with_reducible refine gate_callee (f:=46) rfl ?_);refine goesL_ (some 4) rfl rfl Try.func46 (by kernel_rfl) rfl #[.int .i64 a0,.int .i64 (-8),.int .i64 999] rfl z7_1 ?_;(with_reducible refine(impl_within.calls a0 (-8) 999 t239 _ A2.out).mono ?_))|(go_at_call 46;(with_reducible refine(impl_within.calls a0 (-8) 999 t239 _ A2.out).mono ?_)));rintro e w' ⟨rfl,⟨nd,rfl⟩⟩;(first|refine⟨_,rfl,?_⟩|skip)))
 go_ret
 exact⟨by first|rfl|(simp;done)|(simp[*];done),by repeat(first|exact Zz _|apply Ya)⟩
def impl_ExprOk.f (a0_0:Int) (a0_1:Int) (a0_2:Int):Option (Bool):=(impl_within.f a0_0 1 7).bind fun t241=>(if t241=true then ((impl_OperandOk.f a0_1).bind fun t242=>(if t242=true then ((impl_OperandOk.f a0_2).bind fun t243=>(some t243)) else (some false))) else (some false))
set_option maxHeartbeats 8000000 in
set_option maxRecDepth 100000 in
theorem impl_ExprOk.calls (a0_0:Int) (a0_1:Int) (a0_2:Int) (r:Bool) (w:World) (h:impl_ExprOk.f a0_0 a0_1 a0_2=some r):
  Calls Try.prog 75 #[.agg #[.int .i64 a0_0,.int .i64 a0_1,.int .i64 a0_2]] w fun e w'=>e= .returned (.bool r)∧Below w.heap.size w w':=by
 have hu62:=Try.underlying62
 have HB:=Za (Yh w.heap.size w)
 have H:((impl_within.f a0_0 1 7).bind fun t241=>(if t241=true then ((impl_OperandOk.f a0_1).bind fun t242=>(if t242=true then ((impl_OperandOk.f a0_2).bind fun t243=>(some t243)) else (some false))) else (some false)))=some r:=h
 clear h
 replace H:=Zl H
 obtain⟨t241,A20,H⟩:=H
 replace H:(if t241=true then ((impl_OperandOk.f a0_1).bind fun t242=>(if t242=true then ((impl_OperandOk.f a0_2).bind fun t243=>(some t243)) else (some false))) else (some false))=some r:=H
 have A2:=Za A20
 clear A20
 by_cases c3:t241=true
 ·subst c3
  rw[if_pos rfl] at H
  replace H:=Zl H
  obtain⟨t242,A40,H⟩:=H
  replace H:(if t242=true then ((impl_OperandOk.f a0_2).bind fun t243=>(some t243)) else (some false))=some r:=H
  have A4:=Za A40
  clear A40
  by_cases c5:t242=true
  ·subst c5
   rw[if_pos rfl] at H
   replace H:=Zl H
   obtain⟨t243,A60,H⟩:=H
   replace H:(some t243)=some r:=H
   have A6:=Za A60
   clear A60
   obtain rfl:=Zk H
   go_enter Try.func75,Try.ntmps75
   go_wp2_with (first|((with_reducible refine Zp (N:=1) rfl ?_);refine Zt ?hg (N:=1) ?hd (cs:= #[.int .i64 a0_0,.int .i64 a0_1,.int .i64 a0_2]) (t:=62) ?hr ?_;(case hd=>rfl);(case hg=>rfl);(case hr=>exact z7_8);intro gb240 hg w7 hbox hb;have BK240:=Za (hbox);have GW240:=Za ((z7_15:w.heap.size≤gb240));have GE240:=Za ((z7_15:w.heap.size≤gb240));replace HB:=Za (Zj z7_0 hb);clear hb hbox hg;have hcz8_0:w7.cell? ⟨gb240,0,none⟩=some (.int .i64 a0_0):=(Zb BK240.out 0).trans rfl;have hcz8_1:w7.cell? ⟨gb240,1,none⟩=some (.int .i64 a0_1):=(Zb BK240.out 1).trans rfl;have hcz8_2:w7.cell? ⟨gb240,2,none⟩=some (.int .i64 a0_2):=(Zb BK240.out 2).trans rfl;have hfz8_0:=Zc BK240.out 0;have hfz8_1:=Zc BK240.out 1;have hfz8_2:=Zc BK240.out 2)|((first|((with_reducible refine gate_callee (f:=46) rfl ?_);refine goesL_ (some 5) rfl rfl Try.func46 (by kernel_rfl) rfl #[.int .i64 a0_0,.int .i64 1,.int .i64 7] rfl z7_1 ?_;(with_reducible refine(impl_within.calls a0_0 1 7 true _ A2.out).mono ?_))|(go_at_call 46;(with_reducible refine(impl_within.calls a0_0 1 7 true _ A2.out).mono ?_)));rintro e w' ⟨rfl,⟨nd,rfl⟩⟩;(first|refine⟨_,rfl,?_⟩|skip))|(go_at_call 92;(with_reducible refine(impl_OperandOk.calls a0_1 true _ A4.out).mono ?_);rintro e w' ⟨rfl,⟨nd,rfl⟩⟩)|(go_at_call 92;(with_reducible refine(impl_OperandOk.calls a0_2 t243 _ A6.out).mono ?_);rintro e w' ⟨rfl,⟨nd,rfl⟩⟩))
   go_ret
   exact⟨by first|rfl|(simp[errW_none,errW_some]<;>rfl)|(simp[*,errW_none,errW_some]<;>rfl)|(simp[*,errW_none,errW_some,i64_w];done),by repeat(first|(with_reducible first|exact HB.out|apply Zh|apply Zf|apply Ze|refine Zd ?_ GE240.out)|exact HB.out)⟩
  ·replace c5:=Bool.eq_false_iff.mpr c5
   subst c5
   rw[if_neg (show ¬(false=true) by decide)] at H
   obtain rfl:=Zk H
   go_enter Try.func75,Try.ntmps75
   go_wp2_with (first|((with_reducible refine Zp (N:=1) rfl ?_);refine Zt ?hg (N:=1) ?hd (cs:= #[.int .i64 a0_0,.int .i64 a0_1,.int .i64 a0_2]) (t:=62) ?hr ?_;(case hd=>rfl);(case hg=>rfl);(case hr=>exact z7_8);intro gb240 hg w9 hbox hb;have BK240:=Za (hbox);have GW240:=Za ((z7_15:w.heap.size≤gb240));have GE240:=Za ((z7_15:w.heap.size≤gb240));replace HB:=Za (Zj z7_0 hb);clear hb hbox hg;have hcz10_0:w9.cell? ⟨gb240,0,none⟩=some (.int .i64 a0_0):=(Zb BK240.out 0).trans rfl;have hcz10_1:w9.cell? ⟨gb240,1,none⟩=some (.int .i64 a0_1):=(Zb BK240.out 1).trans rfl;have hcz10_2:w9.cell? ⟨gb240,2,none⟩=some (.int .i64 a0_2):=(Zb BK240.out 2).trans rfl;have hfz10_0:=Zc BK240.out 0;have hfz10_1:=Zc BK240.out 1;have hfz10_2:=Zc BK240.out 2)|((first|((with_reducible refine gate_callee (f:=46) rfl ?_);refine goesL_ (some 5) rfl rfl Try.func46 (by kernel_rfl) rfl #[.int .i64 a0_0,.int .i64 1,.int .i64 7] rfl z7_1 ?_;(with_reducible refine(impl_within.calls a0_0 1 7 true _ A2.out).mono ?_))|(go_at_call 46;(with_reducible refine(impl_within.calls a0_0 1 7 true _ A2.out).mono ?_)));rintro e w' ⟨rfl,⟨nd,rfl⟩⟩;(first|refine⟨_,rfl,?_⟩|skip))|(go_at_call 92;(with_reducible refine(impl_OperandOk.calls a0_1 false _ A4.out).mono ?_);rintro e w' ⟨rfl,⟨nd,rfl⟩⟩))
   go_ret
   exact⟨by first|rfl|(simp[errW_none,errW_some]<;>rfl)|(simp[*,errW_none,errW_some]<;>rfl)|(simp[*,errW_none,errW_some,i64_w];done),by repeat(first|(with_reducible first|exact HB.out|apply Zh|apply Zf|apply Ze|refine Zd ?_ GE240.out)|exact HB.out)⟩
 ·replace c3:=Bool.eq_false_iff.mpr c3
  subst c3
  rw[if_neg (show ¬(false=true) by decide)] at H
  obtain rfl:=Zk H
  go_enter Try.func75,Try.ntmps75
  go_wp2_with (first|((with_reducible refine Zp (N:=1) rfl ?_);refine Zt ?hg (N:=1) ?hd (cs:= #[.int .i64 a0_0,.int .i64 a0_1,.int .i64 a0_2]) (t:=62) ?hr ?_;(case hd=>rfl);(case hg=>rfl);(case hr=>exact z7_8);intro gb240 hg w11 hbox hb;have BK240:=Za (hbox);have GW240:=Za ((z7_15:w.heap.size≤gb240));have GE240:=Za ((z7_15:w.heap.size≤gb240));replace HB:=Za (Zj z7_0 hb);clear hb hbox hg;have hcz12_0:w11.cell? ⟨gb240,0,none⟩=some (.int .i64 a0_0):=(Zb BK240.out 0).trans rfl;have hcz12_1:w11.cell? ⟨gb240,1,none⟩=some (.int .i64 a0_1):=(Zb BK240.out 1).trans rfl;have hcz12_2:w11.cell? ⟨gb240,2,none⟩=some (.int .i64 a0_2):=(Zb BK240.out 2).trans rfl;have hfz12_0:=Zc BK240.out 0;have hfz12_1:=Zc BK240.out 1;have hfz12_2:=Zc BK240.out 2)|((first|((with_reducible refine gate_callee (f:=46) rfl ?_);refine goesL_ (some 5) rfl rfl Try.func46 (by kernel_rfl) rfl #[.int .i64 a0_0,.int .i64 1,.int .i64 7] rfl z7_1 ?_;(with_reducible refine(impl_within.calls a0_0 1 7 false _ A2.out).mono ?_))|(go_at_call 46;(with_reducible refine(impl_within.calls a0_0 1 7 false _ A2.out).mono ?_)));rintro e w' ⟨rfl,⟨nd,rfl⟩⟩;(first|refine⟨_,rfl,?_⟩|skip)))
  go_ret
  exact⟨by first|rfl|(simp[errW_none,errW_some]<;>rfl)|(simp[*,errW_none,errW_some]<;>rfl)|(simp[*,errW_none,errW_some,i64_w];done),by repeat(first|(with_reducible first|exact HB.out|apply Zh|apply Zf|apply Ze|refine Zd ?_ GE240.out)|exact HB.out)⟩
def impl_isOpening.f (a0:Int):Option (Bool):=if a0=4 then (some true) else (some (a0==5))
set_option maxHeartbeats 8000000 in
set_option maxRecDepth 100000 in
theorem impl_isOpening.calls (a0:Int) (r:Bool) (w:World) (h:impl_isOpening.f a0=some r):
  Calls Try.prog 72 #[.int .i64 a0] w fun e w'=>e= .returned (.bool r)∧Drawn0 w w':=by
 have H:(if a0=4 then (some true) else (some (a0==5)))=some r:=h
 clear h
 by_cases c2:a0=4
 ·rw[if_pos c2] at H
  have c2b0:(a0==4)=true:=beq_iff_eq.mpr c2
  have c2b1:(a0 != 4)=false:=bne_eq_false_iff_eq.mpr c2
  clear c2
  obtain rfl:=Zk H
  go_enter Try.func72,Try.ntmps72
  go_wp2
  go_ret
  exact⟨by first|rfl|(simp;done)|(simp[*];done),by repeat(first|exact Zz _|apply Ya)⟩
 ·rw[if_neg c2] at H
  have c2b0:(a0==4)=false:=beq_eq_false_iff_ne.mpr c2
  have c2b1:(a0 != 4)=true:=bne_iff_ne.mpr c2
  obtain rfl:=Zk H
  go_enter Try.func72,Try.ntmps72
  go_wp2
  go_ret
  exact⟨by first|rfl|(simp;done)|(simp[*];done),by repeat(first|exact Zz _|apply Ya)⟩
def impl_isSensor.f (a0:Int):Option (Bool):=(impl_within.f a0 0 3).bind fun t244=>(some t244)
set_option maxHeartbeats 8000000 in
set_option maxRecDepth 100000 in
theorem impl_isSensor.calls (a0:Int) (r:Bool) (w:World) (h:impl_isSensor.f a0=some r):
  Calls Try.prog 61 #[.int .i64 a0] w fun e w'=>e= .returned (.bool r)∧Drawn0 w w':=by
 have H:((impl_within.f a0 0 3).bind fun t244=>(some t244))=some r:=h
 clear h
 replace H:=Zl H
 obtain⟨t244,A20,H⟩:=H
 replace H:(some t244)=some r:=H
 have A2:=Za A20
 clear A20
 obtain rfl:=Zk H
 go_enter Try.func61,Try.ntmps61
 go_wp2_with (first|((first|((with_reducible refine gate_callee (f:=46) rfl ?_);refine goesL_ (some 4) rfl rfl Try.func46 (by kernel_rfl) rfl #[.int .i64 a0,.int .i64 0,.int .i64 3] rfl z7_1 ?_;(with_reducible refine(impl_within.calls a0 0 3 t244 _ A2.out).mono ?_))|(go_at_call 46;(with_reducible refine(impl_within.calls a0 0 3 t244 _ A2.out).mono ?_)));rintro e w' ⟨rfl,⟨nd,rfl⟩⟩;(first|refine⟨_,rfl,?_⟩|skip)))
 go_ret
 exact⟨by first|rfl|(simp;done)|(simp[*];done),by repeat(first|exact Zz _|apply Ya)⟩
def impl_hasVar.f (a0:Int):Option (Bool):=if a0=1 then (some true) else (some (a0==2))
set_option maxHeartbeats 8000000 in
set_option maxRecDepth 100000 in
theorem impl_hasVar.calls (a0:Int) (r:Bool) (w:World) (h:impl_hasVar.f a0=some r):
  Calls Try.prog 98 #[.int .i64 a0] w fun e w'=>e= .returned (.bool r)∧Drawn0 w w':=by
 have H:(if a0=1 then (some true) else (some (a0==2)))=some r:=h
 clear h
 by_cases c2:a0=1
 ·rw[if_pos c2] at H
  have c2b0:(a0==1)=true:=beq_iff_eq.mpr c2
  have c2b1:(a0 != 1)=false:=bne_eq_false_iff_eq.mpr c2
  clear c2
  obtain rfl:=Zk H
  go_enter Try.func98,Try.ntmps98
  go_wp2
  go_ret
  exact⟨by first|rfl|(simp;done)|(simp[*];done),by repeat(first|exact Zz _|apply Ya)⟩
 ·rw[if_neg c2] at H
  have c2b0:(a0==1)=false:=beq_eq_false_iff_ne.mpr c2
  have c2b1:(a0 != 1)=true:=bne_iff_ne.mpr c2
  obtain rfl:=Zk H
  go_enter Try.func98,Try.ntmps98
  go_wp2
  go_ret
  exact⟨by first|rfl|(simp;done)|(simp[*];done),by repeat(first|exact Zz _|apply Ya)⟩
def impl_isVar.f (a0:Int):Option (Bool):=(impl_within.f a0 0 7).bind fun t245=>(some t245)
set_option maxHeartbeats 8000000 in
set_option maxRecDepth 100000 in
theorem impl_isVar.calls (a0:Int) (r:Bool) (w:World) (h:impl_isVar.f a0=some r):
  Calls Try.prog 99 #[.int .i64 a0] w fun e w'=>e= .returned (.bool r)∧Drawn0 w w':=by
 have H:((impl_within.f a0 0 7).bind fun t245=>(some t245))=some r:=h
 clear h
 replace H:=Zl H
 obtain⟨t245,A20,H⟩:=H
 replace H:(some t245)=some r:=H
 have A2:=Za A20
 clear A20
 obtain rfl:=Zk H
 go_enter Try.func99,Try.ntmps99
 go_wp2_with (first|((first|((with_reducible refine gate_callee (f:=46) rfl ?_);refine goesL_ (some 4) rfl rfl Try.func46 (by kernel_rfl) rfl #[.int .i64 a0,.int .i64 0,.int .i64 7] rfl z7_1 ?_;(with_reducible refine(impl_within.calls a0 0 7 t245 _ A2.out).mono ?_))|(go_at_call 46;(with_reducible refine(impl_within.calls a0 0 7 t245 _ A2.out).mono ?_)));rintro e w' ⟨rfl,⟨nd,rfl⟩⟩;(first|refine⟨_,rfl,?_⟩|skip)))
 go_ret
 exact⟨by first|rfl|(simp;done)|(simp[*];done),by repeat(first|exact Zz _|apply Ya)⟩
def impl_hasExpr.f (a0:Int):Option (Bool):=if a0=1 then (some true) else (if a0=3 then (some true) else (some (a0==4)))
set_option maxHeartbeats 8000000 in
set_option maxRecDepth 100000 in
theorem impl_hasExpr.calls (a0:Int) (r:Bool) (w:World) (h:impl_hasExpr.f a0=some r):
  Calls Try.prog 100 #[.int .i64 a0] w fun e w'=>e= .returned (.bool r)∧Drawn0 w w':=by
 have H:(if a0=1 then (some true) else (if a0=3 then (some true) else (some (a0==4))))=some r:=h
 clear h
 by_cases c2:a0=1
 ·rw[if_pos c2] at H
  have c2b0:(a0==1)=true:=beq_iff_eq.mpr c2
  have c2b1:(a0 != 1)=false:=bne_eq_false_iff_eq.mpr c2
  clear c2
  obtain rfl:=Zk H
  go_enter Try.func100,Try.ntmps100
  go_wp2
  go_ret
  exact⟨by first|rfl|(simp;done)|(simp[*];done),by repeat(first|exact Zz _|apply Ya)⟩
 ·rw[if_neg c2] at H
  have c2b0:(a0==1)=false:=beq_eq_false_iff_ne.mpr c2
  have c2b1:(a0 != 1)=true:=bne_iff_ne.mpr c2
  by_cases c3:a0=3
  ·rw[if_pos c3] at H
   have c3b0:(a0==3)=true:=beq_iff_eq.mpr c3
   have c3b1:(a0 != 3)=false:=bne_eq_false_iff_eq.mpr c3
   clear c3
   obtain rfl:=Zk H
   go_enter Try.func100,Try.ntmps100
   go_wp2
   go_ret
   exact⟨by first|rfl|(simp;done)|(simp[*];done),by repeat(first|exact Zz _|apply Ya)⟩
  ·rw[if_neg c3] at H
   have c3b0:(a0==3)=false:=beq_eq_false_iff_ne.mpr c3
   have c3b1:(a0 != 3)=true:=bne_iff_ne.mpr c3
   obtain rfl:=Zk H
   go_enter Try.func100,Try.ntmps100
   go_wp2
   go_ret
   exact⟨by first|rfl|(simp;done)|(simp[*];done),by repeat(first|exact Zz _|apply Ya)⟩
/-! ### impl_StmtOk: function 96 -/
mutual
def impl_StmtOk.j0:Nat→Bool→Int→Int→Int→Int→Int→Int→Option (Bool)
 |0,_,_,_,_,_,_,_=>none
 |k+1,x28,x247000,x247001,x247002,x247003,x247004,x247005=>if x28=true then (some false) else ((impl_hasExpr.f x247000).bind fun t252=>(if t252=true then ((impl_ExprOk.f x247003 x247004 x247005).bind fun t253=>(if t253=true then ((impl_hasExpr.f x247000).bind fun t254=>(if t254=true then (impl_StmtOk.j1 k false x247000 x247001 x247002 x247003 x247004 x247005) else (impl_StmtOk.j1 k (!(x247003==0)||(!(x247004==0)||(!(x247005==0)))) x247000 x247001 x247002 x247003 x247004 x247005))) else (impl_StmtOk.j1 k true x247000 x247001 x247002 x247003 x247004 x247005))) else ((impl_hasExpr.f x247000).bind fun t255=>(if t255=true then (impl_StmtOk.j1 k false x247000 x247001 x247002 x247003 x247004 x247005) else (impl_StmtOk.j1 k (!(x247003==0)||(!(x247004==0)||(!(x247005==0)))) x247000 x247001 x247002 x247003 x247004 x247005)))))
def impl_StmtOk.j1:Nat→Bool→Int→Int→Int→Int→Int→Int→Option (Bool)
 |0,_,_,_,_,_,_,_=>none
 |k+1,x49,x247000,x247001,x247002,x247003,x247004,x247005=>if x49=true then (some false) else (if x247000=2 then ((impl_isSensor.f x247002).bind fun t256=>(some t256)) else (if x247000=5 then ((impl_within.f x247002 1 5).bind fun t257=>(some t257)) else (some (x247002==0))))
end
def impl_StmtOk.f (k:Nat) (a0_0:Int) (a0_1:Int) (a0_2:Int) (a0_3:Int) (a0_4:Int) (a0_5:Int):Option (Bool):=(impl_within.f a0_0 1 6).bind fun t247=>(if t247=true then ((impl_hasVar.f a0_0).bind fun t248=>(if t248=true then ((impl_isVar.f a0_1).bind fun t249=>(if t249=true then ((impl_hasVar.f a0_0).bind fun t250=>(if t250=true then (impl_StmtOk.j0 k false a0_0 a0_1 a0_2 a0_3 a0_4 a0_5) else (impl_StmtOk.j0 k (a0_1 != 0) a0_0 a0_1 a0_2 a0_3 a0_4 a0_5))) else (impl_StmtOk.j0 k true a0_0 a0_1 a0_2 a0_3 a0_4 a0_5))) else ((impl_hasVar.f a0_0).bind fun t251=>(if t251=true then (impl_StmtOk.j0 k false a0_0 a0_1 a0_2 a0_3 a0_4 a0_5) else (impl_StmtOk.j0 k (a0_1 != 0) a0_0 a0_1 a0_2 a0_3 a0_4 a0_5))))) else (impl_StmtOk.j0 k true a0_0 a0_1 a0_2 a0_3 a0_4 a0_5))
set_option maxHeartbeats 8000000 in
set_option maxRecDepth 100000 in
theorem impl_StmtOk.calls (k:Nat) (a0_0:Int) (a0_1:Int) (a0_2:Int) (a0_3:Int) (a0_4:Int) (a0_5:Int) (r:Bool) (w:World) (h:impl_StmtOk.f k a0_0 a0_1 a0_2 a0_3 a0_4 a0_5=some r):
  Calls Try.prog 96 #[.agg #[.int .i64 a0_0,.int .i64 a0_1,.int .i64 a0_2,.int .i64 a0_3,.int .i64 a0_4,.int .i64 a0_5]] w fun e w'=>e= .returned (.bool r)∧Below w.heap.size w w':=by
 have hu80:=Try.underlying80
 have hu62:=Try.underlying62
 have HB:=Za (Yh w.heap.size w)
 have H:((impl_within.f a0_0 1 6).bind fun t247=>(if t247=true then ((impl_hasVar.f a0_0).bind fun t248=>(if t248=true then ((impl_isVar.f a0_1).bind fun t249=>(if t249=true then ((impl_hasVar.f a0_0).bind fun t250=>(if t250=true then (impl_StmtOk.j0 k false a0_0 a0_1 a0_2 a0_3 a0_4 a0_5) else (impl_StmtOk.j0 k (a0_1 != 0) a0_0 a0_1 a0_2 a0_3 a0_4 a0_5))) else (impl_StmtOk.j0 k true a0_0 a0_1 a0_2 a0_3 a0_4 a0_5))) else ((impl_hasVar.f a0_0).bind fun t251=>(if t251=true then (impl_StmtOk.j0 k false a0_0 a0_1 a0_2 a0_3 a0_4 a0_5) else (impl_StmtOk.j0 k (a0_1 != 0) a0_0 a0_1 a0_2 a0_3 a0_4 a0_5))))) else (impl_StmtOk.j0 k true a0_0 a0_1 a0_2 a0_3 a0_4 a0_5)))=some r:=h
 clear h
 have HC2:=Za H
 clear H
 go_enter Try.func96,Try.ntmps96
 go_upto_region 1 with(first|((with_reducible refine Zp (N:=1) rfl ?_);refine Zt ?hg (N:=1) ?hd (cs:= #[.int .i64 a0_0,.int .i64 a0_1,.int .i64 a0_2,.int .i64 a0_3,.int .i64 a0_4,.int .i64 a0_5]) (t:=80) ?hr ?_;(case hd=>rfl);(case hg=>rfl);(case hr=>exact z7_8);intro gb246 hg w3 hbox hb;have BK246:=Za (hbox);have GW246:=Za ((z7_15:w.heap.size≤gb246));have GE246:=Za ((z7_15:w.heap.size≤gb246));replace HB:=Za (Zj z7_0 hb);clear hb hbox hg))
 (try simp only[Act.put,Zq,Zr,Zs])
 go_cut [28] (fun v28 wc=>∃(kq:Nat) (x28_1:Bool),v28= .bool x28_1∧Aside0 (impl_StmtOk.j0 kq x28_1 a0_0 a0_1 a0_2 a0_3 a0_4 a0_5=some r)∧Aside0 (kq≤k)∧Aside0 (wc.heap[gb246]? =some (.cells #[.int .i64 a0_0,.int .i64 a0_1,.int .i64 a0_2,.int .i64 a0_3,.int .i64 a0_4,.int .i64 a0_5] 80 (0,0)))∧Aside0 (Below w.heap.size w wc))
 case first=>
  have H:=HC2.out
  clear HC2
  replace H:=Zl H
  obtain⟨t247,A40,H⟩:=H
  replace H:(if t247=true then ((impl_hasVar.f a0_0).bind fun t248=>(if t248=true then ((impl_isVar.f a0_1).bind fun t249=>(if t249=true then ((impl_hasVar.f a0_0).bind fun t250=>(if t250=true then (impl_StmtOk.j0 k false a0_0 a0_1 a0_2 a0_3 a0_4 a0_5) else (impl_StmtOk.j0 k (a0_1 != 0) a0_0 a0_1 a0_2 a0_3 a0_4 a0_5))) else (impl_StmtOk.j0 k true a0_0 a0_1 a0_2 a0_3 a0_4 a0_5))) else ((impl_hasVar.f a0_0).bind fun t251=>(if t251=true then (impl_StmtOk.j0 k false a0_0 a0_1 a0_2 a0_3 a0_4 a0_5) else (impl_StmtOk.j0 k (a0_1 != 0) a0_0 a0_1 a0_2 a0_3 a0_4 a0_5))))) else (impl_StmtOk.j0 k true a0_0 a0_1 a0_2 a0_3 a0_4 a0_5))=some r:=H
  have A4:=Za A40
  clear A40
  by_cases c5:t247=true
  ·subst c5
   rw[if_pos rfl] at H
   replace H:=Zl H
   obtain⟨t248,A60,H⟩:=H
   replace H:(if t248=true then ((impl_isVar.f a0_1).bind fun t249=>(if t249=true then ((impl_hasVar.f a0_0).bind fun t250=>(if t250=true then (impl_StmtOk.j0 k false a0_0 a0_1 a0_2 a0_3 a0_4 a0_5) else (impl_StmtOk.j0 k (a0_1 != 0) a0_0 a0_1 a0_2 a0_3 a0_4 a0_5))) else (impl_StmtOk.j0 k true a0_0 a0_1 a0_2 a0_3 a0_4 a0_5))) else ((impl_hasVar.f a0_0).bind fun t251=>(if t251=true then (impl_StmtOk.j0 k false a0_0 a0_1 a0_2 a0_3 a0_4 a0_5) else (impl_StmtOk.j0 k (a0_1 != 0) a0_0 a0_1 a0_2 a0_3 a0_4 a0_5))))=some r:=H
   have A6:=Za A60
   clear A60
   by_cases c7:t248=true
   ·subst c7
    rw[if_pos rfl] at H
    replace H:=Zl H
    obtain⟨t249,A80,H⟩:=H
    replace H:(if t249=true then ((impl_hasVar.f a0_0).bind fun t250=>(if t250=true then (impl_StmtOk.j0 k false a0_0 a0_1 a0_2 a0_3 a0_4 a0_5) else (impl_StmtOk.j0 k (a0_1 != 0) a0_0 a0_1 a0_2 a0_3 a0_4 a0_5))) else (impl_StmtOk.j0 k true a0_0 a0_1 a0_2 a0_3 a0_4 a0_5))=some r:=H
    have A8:=Za A80
    clear A80
    by_cases c9:t249=true
    ·subst c9
     rw[if_pos rfl] at H
     replace H:=Zl H
     obtain⟨t250,A100,H⟩:=H
     replace H:(if t250=true then (impl_StmtOk.j0 k false a0_0 a0_1 a0_2 a0_3 a0_4 a0_5) else (impl_StmtOk.j0 k (a0_1 != 0) a0_0 a0_1 a0_2 a0_3 a0_4 a0_5))=some r:=H
     have A10:=Za A100
     clear A100
     by_cases c11:t250=true
     ·subst c11
      rw[if_pos rfl] at H
      have H':=Za H
      clear H
      have hcz12_0:w3.cell? ⟨gb246,0,none⟩=some (.int .i64 a0_0):=(Zb BK246.out 0).trans rfl
      have hcz12_1:w3.cell? ⟨gb246,1,none⟩=some (.int .i64 a0_1):=(Zb BK246.out 1).trans rfl
      have hcz12_2:w3.cell? ⟨gb246,2,none⟩=some (.int .i64 a0_2):=(Zb BK246.out 2).trans rfl
      have hcz12_3:w3.cell? ⟨gb246,3,none⟩=some (.int .i64 a0_3):=(Zb BK246.out 3).trans rfl
      have hcz12_4:w3.cell? ⟨gb246,4,none⟩=some (.int .i64 a0_4):=(Zb BK246.out 4).trans rfl
      have hcz12_5:w3.cell? ⟨gb246,5,none⟩=some (.int .i64 a0_5):=(Zb BK246.out 5).trans rfl
      have hfz12_0:=Zc BK246.out 0
      have hfz12_1:=Zc BK246.out 1
      have hfz12_2:=Zc BK246.out 2
      have hfz12_3:=Zc BK246.out 3
      have hfz12_4:=Zc BK246.out 4
      have hfz12_5:=Zc BK246.out 5
      go_wp2_with (first|((first|((with_reducible refine gate_callee (f:=46) rfl ?_);refine goesL_ (some 5) rfl rfl Try.func46 (by kernel_rfl) rfl #[.int .i64 a0_0,.int .i64 1,.int .i64 6] rfl z7_1 ?_;(with_reducible refine(impl_within.calls a0_0 1 6 true _ A4.out).mono ?_))|(go_at_call 46;(with_reducible refine(impl_within.calls a0_0 1 6 true _ A4.out).mono ?_)));rintro e w' ⟨rfl,⟨nd,rfl⟩⟩;(first|refine⟨_,rfl,?_⟩|skip))|(go_at_call 98;(with_reducible refine(impl_hasVar.calls a0_0 true _ A6.out).mono ?_);rintro e w' ⟨rfl,⟨nd,rfl⟩⟩)|(go_at_call 99;(with_reducible refine(impl_isVar.calls a0_1 true _ A8.out).mono ?_);rintro e w' ⟨rfl,⟨nd,rfl⟩⟩)|(go_at_call 98;(with_reducible refine(impl_hasVar.calls a0_0 true _ A10.out).mono ?_);rintro e w' ⟨rfl,⟨nd,rfl⟩⟩))
      go_meet
      case rel=>exact⟨_,(false),z7_7,H',⟨by first|omega|exact Nat.le_refl _⟩,⟨by(with_reducible repeat(first|refine blk_drewN ?_ _|refine blk_drew ?_|refine blk_alloc ?_ _));exact BK246.out⟩,⟨by repeat(first|(with_reducible first|exact HB.out|apply Zh|apply Zf|apply Ze|refine Zd ?_ GE246.out)|exact HB.out)⟩⟩
     ·replace c11:=Bool.eq_false_iff.mpr c11
      subst c11
      rw[if_neg (show ¬(false=true) by decide)] at H
      exact absurd (A6.out.symm.trans A10.out) (by simp)
    ·replace c9:=Bool.eq_false_iff.mpr c9
     subst c9
     rw[if_neg (show ¬(false=true) by decide)] at H
     have H':=Za H
     clear H
     have hcz13_0:w3.cell? ⟨gb246,0,none⟩=some (.int .i64 a0_0):=(Zb BK246.out 0).trans rfl
     have hcz13_1:w3.cell? ⟨gb246,1,none⟩=some (.int .i64 a0_1):=(Zb BK246.out 1).trans rfl
     have hcz13_2:w3.cell? ⟨gb246,2,none⟩=some (.int .i64 a0_2):=(Zb BK246.out 2).trans rfl
     have hcz13_3:w3.cell? ⟨gb246,3,none⟩=some (.int .i64 a0_3):=(Zb BK246.out 3).trans rfl
     have hcz13_4:w3.cell? ⟨gb246,4,none⟩=some (.int .i64 a0_4):=(Zb BK246.out 4).trans rfl
     have hcz13_5:w3.cell? ⟨gb246,5,none⟩=some (.int .i64 a0_5):=(Zb BK246.out 5).trans rfl
     have hfz13_0:=Zc BK246.out 0
     have hfz13_1:=Zc BK246.out 1
     have hfz13_2:=Zc BK246.out 2
     have hfz13_3:=Zc BK246.out 3
     have hfz13_4:=Zc BK246.out 4
     have hfz13_5:=Zc BK246.out 5
     go_wp2_with (first|((first|((with_reducible refine gate_callee (f:=46) rfl ?_);refine goesL_ (some 5) rfl rfl Try.func46 (by kernel_rfl) rfl #[.int .i64 a0_0,.int .i64 1,.int .i64 6] rfl z7_1 ?_;(with_reducible refine(impl_within.calls a0_0 1 6 true _ A4.out).mono ?_))|(go_at_call 46;(with_reducible refine(impl_within.calls a0_0 1 6 true _ A4.out).mono ?_)));rintro e w' ⟨rfl,⟨nd,rfl⟩⟩;(first|refine⟨_,rfl,?_⟩|skip))|(go_at_call 98;(with_reducible refine(impl_hasVar.calls a0_0 true _ A6.out).mono ?_);rintro e w' ⟨rfl,⟨nd,rfl⟩⟩)|(go_at_call 99;(with_reducible refine(impl_isVar.calls a0_1 false _ A8.out).mono ?_);rintro e w' ⟨rfl,⟨nd,rfl⟩⟩))
     go_meet
     case rel=>exact⟨_,(true),z7_7,H',⟨by first|omega|exact Nat.le_refl _⟩,⟨by(with_reducible repeat(first|refine blk_drewN ?_ _|refine blk_drew ?_|refine blk_alloc ?_ _));exact BK246.out⟩,⟨by repeat(first|(with_reducible first|exact HB.out|apply Zh|apply Zf|apply Ze|refine Zd ?_ GE246.out)|exact HB.out)⟩⟩
   ·replace c7:=Bool.eq_false_iff.mpr c7
    subst c7
    rw[if_neg (show ¬(false=true) by decide)] at H
    replace H:=Zl H
    obtain⟨t251,A140,H⟩:=H
    replace H:(if t251=true then (impl_StmtOk.j0 k false a0_0 a0_1 a0_2 a0_3 a0_4 a0_5) else (impl_StmtOk.j0 k (a0_1 != 0) a0_0 a0_1 a0_2 a0_3 a0_4 a0_5))=some r:=H
    have A14:=Za A140
    clear A140
    by_cases c15:t251=true
    ·subst c15
     rw[if_pos rfl] at H
     exact absurd (A6.out.symm.trans A14.out) (by simp)
    ·replace c15:=Bool.eq_false_iff.mpr c15
     subst c15
     rw[if_neg (show ¬(false=true) by decide)] at H
     have H':=Za H
     clear H
     have hcz16_0:w3.cell? ⟨gb246,0,none⟩=some (.int .i64 a0_0):=(Zb BK246.out 0).trans rfl
     have hcz16_1:w3.cell? ⟨gb246,1,none⟩=some (.int .i64 a0_1):=(Zb BK246.out 1).trans rfl
     have hcz16_2:w3.cell? ⟨gb246,2,none⟩=some (.int .i64 a0_2):=(Zb BK246.out 2).trans rfl
     have hcz16_3:w3.cell? ⟨gb246,3,none⟩=some (.int .i64 a0_3):=(Zb BK246.out 3).trans rfl
     have hcz16_4:w3.cell? ⟨gb246,4,none⟩=some (.int .i64 a0_4):=(Zb BK246.out 4).trans rfl
     have hcz16_5:w3.cell? ⟨gb246,5,none⟩=some (.int .i64 a0_5):=(Zb BK246.out 5).trans rfl
     have hfz16_0:=Zc BK246.out 0
     have hfz16_1:=Zc BK246.out 1
     have hfz16_2:=Zc BK246.out 2
     have hfz16_3:=Zc BK246.out 3
     have hfz16_4:=Zc BK246.out 4
     have hfz16_5:=Zc BK246.out 5
     go_wp2_with (first|((first|((with_reducible refine gate_callee (f:=46) rfl ?_);refine goesL_ (some 5) rfl rfl Try.func46 (by kernel_rfl) rfl #[.int .i64 a0_0,.int .i64 1,.int .i64 6] rfl z7_1 ?_;(with_reducible refine(impl_within.calls a0_0 1 6 true _ A4.out).mono ?_))|(go_at_call 46;(with_reducible refine(impl_within.calls a0_0 1 6 true _ A4.out).mono ?_)));rintro e w' ⟨rfl,⟨nd,rfl⟩⟩;(first|refine⟨_,rfl,?_⟩|skip))|(go_at_call 98;(with_reducible refine(impl_hasVar.calls a0_0 false _ A6.out).mono ?_);rintro e w' ⟨rfl,⟨nd,rfl⟩⟩)|(go_at_call 98;(with_reducible refine(impl_hasVar.calls a0_0 false _ A14.out).mono ?_);rintro e w' ⟨rfl,⟨nd,rfl⟩⟩))
     go_meet
     case rel=>exact⟨_,((a0_1 != 0)),z7_7,H',⟨by first|omega|exact Nat.le_refl _⟩,⟨by(with_reducible repeat(first|refine blk_drewN ?_ _|refine blk_drew ?_|refine blk_alloc ?_ _));exact BK246.out⟩,⟨by repeat(first|(with_reducible first|exact HB.out|apply Zh|apply Zf|apply Ze|refine Zd ?_ GE246.out)|exact HB.out)⟩⟩
  ·replace c5:=Bool.eq_false_iff.mpr c5
   subst c5
   rw[if_neg (show ¬(false=true) by decide)] at H
   have H':=Za H
   clear H
   have hcz17_0:w3.cell? ⟨gb246,0,none⟩=some (.int .i64 a0_0):=(Zb BK246.out 0).trans rfl
   have hcz17_1:w3.cell? ⟨gb246,1,none⟩=some (.int .i64 a0_1):=(Zb BK246.out 1).trans rfl
   have hcz17_2:w3.cell? ⟨gb246,2,none⟩=some (.int .i64 a0_2):=(Zb BK246.out 2).trans rfl
   have hcz17_3:w3.cell? ⟨gb246,3,none⟩=some (.int .i64 a0_3):=(Zb BK246.out 3).trans rfl
   have hcz17_4:w3.cell? ⟨gb246,4,none⟩=some (.int .i64 a0_4):=(Zb BK246.out 4).trans rfl
   have hcz17_5:w3.cell? ⟨gb246,5,none⟩=some (.int .i64 a0_5):=(Zb BK246.out 5).trans rfl
   have hfz17_0:=Zc BK246.out 0
   have hfz17_1:=Zc BK246.out 1
   have hfz17_2:=Zc BK246.out 2
   have hfz17_3:=Zc BK246.out 3
   have hfz17_4:=Zc BK246.out 4
   have hfz17_5:=Zc BK246.out 5
   go_wp2_with (first|((first|((with_reducible refine gate_callee (f:=46) rfl ?_);refine goesL_ (some 5) rfl rfl Try.func46 (by kernel_rfl) rfl #[.int .i64 a0_0,.int .i64 1,.int .i64 6] rfl z7_1 ?_;(with_reducible refine(impl_within.calls a0_0 1 6 false _ A4.out).mono ?_))|(go_at_call 46;(with_reducible refine(impl_within.calls a0_0 1 6 false _ A4.out).mono ?_)));rintro e w' ⟨rfl,⟨nd,rfl⟩⟩;(first|refine⟨_,rfl,?_⟩|skip)))
   go_meet
   case rel=>exact⟨_,(true),z7_7,H',⟨by first|omega|exact Nat.le_refl _⟩,⟨by(with_reducible repeat(first|refine blk_drewN ?_ _|refine blk_drew ?_|refine blk_alloc ?_ _));exact BK246.out⟩,⟨by repeat(first|(with_reducible first|exact HB.out|apply Zh|apply Zf|apply Ze|refine Zd ?_ GE246.out)|exact HB.out)⟩⟩
 case rest=>
  clear HC2
  obtain⟨kq,x28_1,rfl,HA,HJ1,BK246,HB⟩:=hcut
  cases kq with
  |zero=>exact absurd HA.out (by simp[impl_StmtOk.j0])
  |succ kj1=>
   have H:=HA.out
   clear HA
   simp only[impl_StmtOk.j0] at H
   by_cases c18:x28_1=true
   ·subst c18
    rw[if_pos rfl] at H
    obtain rfl:=Zk H
    go_wp2
    go_ret
    exact⟨by first|rfl|(simp[errW_none,errW_some]<;>rfl)|(simp[*,errW_none,errW_some]<;>rfl)|(simp[*,errW_none,errW_some,i64_w];done),by repeat(first|(with_reducible first|exact HB.out|apply Zh|apply Zf|apply Ze|refine Zd ?_ GE246.out)|exact HB.out)⟩
   ·replace c18:=Bool.eq_false_iff.mpr c18
    subst c18
    rw[if_neg (show ¬(false=true) by decide)] at H
    have HC19:=Za H
    clear H
    go_upto_region 3 with(fail)
    go_cut [49] (fun v49 wc=>∃(kq:Nat) (x49_18:Bool),v49= .bool x49_18∧Aside0 (impl_StmtOk.j1 kq x49_18 a0_0 a0_1 a0_2 a0_3 a0_4 a0_5=some r)∧Aside0 (kq≤kj1)∧Aside0 (wc.heap[gb246]? =some (.cells #[.int .i64 a0_0,.int .i64 a0_1,.int .i64 a0_2,.int .i64 a0_3,.int .i64 a0_4,.int .i64 a0_5] 80 (0,0)))∧Aside0 (Below w.heap.size w wc))
    case first=>
     have H:=HC19.out
     clear HC19
     replace H:=Zl H
     obtain⟨t252,A200,H⟩:=H
     replace H:(if t252=true then ((impl_ExprOk.f a0_3 a0_4 a0_5).bind fun t253=>(if t253=true then ((impl_hasExpr.f a0_0).bind fun t254=>(if t254=true then (impl_StmtOk.j1 kj1 false a0_0 a0_1 a0_2 a0_3 a0_4 a0_5) else (impl_StmtOk.j1 kj1 (!(a0_3==0)||(!(a0_4==0)||(!(a0_5==0)))) a0_0 a0_1 a0_2 a0_3 a0_4 a0_5))) else (impl_StmtOk.j1 kj1 true a0_0 a0_1 a0_2 a0_3 a0_4 a0_5))) else ((impl_hasExpr.f a0_0).bind fun t255=>(if t255=true then (impl_StmtOk.j1 kj1 false a0_0 a0_1 a0_2 a0_3 a0_4 a0_5) else (impl_StmtOk.j1 kj1 (!(a0_3==0)||(!(a0_4==0)||(!(a0_5==0)))) a0_0 a0_1 a0_2 a0_3 a0_4 a0_5))))=some r:=H
     have A20:=Za A200
     clear A200
     by_cases c21:t252=true
     ·subst c21
      rw[if_pos rfl] at H
      replace H:=Zl H
      obtain⟨t253,A220,H⟩:=H
      replace H:(if t253=true then ((impl_hasExpr.f a0_0).bind fun t254=>(if t254=true then (impl_StmtOk.j1 kj1 false a0_0 a0_1 a0_2 a0_3 a0_4 a0_5) else (impl_StmtOk.j1 kj1 (!(a0_3==0)||(!(a0_4==0)||(!(a0_5==0)))) a0_0 a0_1 a0_2 a0_3 a0_4 a0_5))) else (impl_StmtOk.j1 kj1 true a0_0 a0_1 a0_2 a0_3 a0_4 a0_5))=some r:=H
      have A22:=Za A220
      clear A220
      by_cases c23:t253=true
      ·subst c23
       rw[if_pos rfl] at H
       replace H:=Zl H
       obtain⟨t254,A240,H⟩:=H
       replace H:(if t254=true then (impl_StmtOk.j1 kj1 false a0_0 a0_1 a0_2 a0_3 a0_4 a0_5) else (impl_StmtOk.j1 kj1 (!(a0_3==0)||(!(a0_4==0)||(!(a0_5==0)))) a0_0 a0_1 a0_2 a0_3 a0_4 a0_5))=some r:=H
       have A24:=Za A240
       clear A240
       by_cases c25:t254=true
       ·subst c25
        rw[if_pos rfl] at H
        have H':=Za H
        clear H
        have hcz26_0:wc.cell? ⟨gb246,0,none⟩=some (.int .i64 a0_0):=(Zb BK246.out 0).trans rfl
        have hcz26_1:wc.cell? ⟨gb246,1,none⟩=some (.int .i64 a0_1):=(Zb BK246.out 1).trans rfl
        have hcz26_2:wc.cell? ⟨gb246,2,none⟩=some (.int .i64 a0_2):=(Zb BK246.out 2).trans rfl
        have hcz26_3:wc.cell? ⟨gb246,3,none⟩=some (.int .i64 a0_3):=(Zb BK246.out 3).trans rfl
        have hcz26_4:wc.cell? ⟨gb246,4,none⟩=some (.int .i64 a0_4):=(Zb BK246.out 4).trans rfl
        have hcz26_5:wc.cell? ⟨gb246,5,none⟩=some (.int .i64 a0_5):=(Zb BK246.out 5).trans rfl
        have hfz26_0:=Zc BK246.out 0
        have hfz26_1:=Zc BK246.out 1
        have hfz26_2:=Zc BK246.out 2
        have hfz26_3:=Zc BK246.out 3
        have hfz26_4:=Zc BK246.out 4
        have hfz26_5:=Zc BK246.out 5
        go_wp2_with (first|((first|((with_reducible refine gate_callee (f:=100) rfl ?_);refine goesL_ (some 31) rfl rfl Try.func100 (by kernel_rfl) rfl #[.int .i64 a0_0] rfl z7_1 ?_;(with_reducible refine(impl_hasExpr.calls a0_0 true _ A20.out).mono ?_))|(go_at_call 100;(with_reducible refine(impl_hasExpr.calls a0_0 true _ A20.out).mono ?_)));rintro e w' ⟨rfl,⟨nd,rfl⟩⟩;(first|refine⟨_,rfl,?_⟩|skip))|(go_at_call 75;(with_reducible refine(impl_ExprOk.calls a0_3 a0_4 a0_5 true _ A22.out).mono ?_);rintro e w27 ⟨rfl,hb⟩;replace BK246:=Za (Zg (g:=gb246) (o:= .cells #[.int .i64 a0_0,.int .i64 a0_1,.int .i64 a0_2,.int .i64 a0_3,.int .i64 a0_4,.int .i64 a0_5] 80 (0,0)) (by(with_reducible repeat(first|refine blk_drewN ?_ _|refine blk_drew ?_|refine blk_alloc ?_ _));exact BK246.out) hb);replace HB:=Za (Zj (by repeat(first|(with_reducible first|exact HB.out|apply Zh|apply Zf|apply Ze|refine Zd ?_ GE246.out)|exact HB.out)) hb);(try clear hb);(try clear hb2);(try clear hk);(try clear hi);have hcz28_0:w27.cell? ⟨gb246,0,none⟩=some (.int .i64 a0_0):=(Zb BK246.out 0).trans rfl;have hcz28_1:w27.cell? ⟨gb246,1,none⟩=some (.int .i64 a0_1):=(Zb BK246.out 1).trans rfl;have hcz28_2:w27.cell? ⟨gb246,2,none⟩=some (.int .i64 a0_2):=(Zb BK246.out 2).trans rfl;have hcz28_3:w27.cell? ⟨gb246,3,none⟩=some (.int .i64 a0_3):=(Zb BK246.out 3).trans rfl;have hcz28_4:w27.cell? ⟨gb246,4,none⟩=some (.int .i64 a0_4):=(Zb BK246.out 4).trans rfl;have hcz28_5:w27.cell? ⟨gb246,5,none⟩=some (.int .i64 a0_5):=(Zb BK246.out 5).trans rfl;have hfz28_0:=Zc BK246.out 0;have hfz28_1:=Zc BK246.out 1;have hfz28_2:=Zc BK246.out 2;have hfz28_3:=Zc BK246.out 3;have hfz28_4:=Zc BK246.out 4;have hfz28_5:=Zc BK246.out 5)|(go_at_call 100;(with_reducible refine(impl_hasExpr.calls a0_0 true _ A24.out).mono ?_);rintro e w' ⟨rfl,⟨nd,rfl⟩⟩))
        go_meet
        case rel=>exact⟨_,(false),z7_7,H',⟨by have:=HJ1.out;first|omega|exact Nat.le_refl _⟩,⟨by(with_reducible repeat(first|refine blk_drewN ?_ _|refine blk_drew ?_|refine blk_alloc ?_ _));exact BK246.out⟩,⟨by repeat(first|(with_reducible first|exact HB.out|apply Zh|apply Zf|apply Ze|refine Zd ?_ GE246.out)|exact HB.out)⟩⟩
       ·replace c25:=Bool.eq_false_iff.mpr c25
        subst c25
        rw[if_neg (show ¬(false=true) by decide)] at H
        exact absurd (A20.out.symm.trans A24.out) (by simp)
      ·replace c23:=Bool.eq_false_iff.mpr c23
       subst c23
       rw[if_neg (show ¬(false=true) by decide)] at H
       have H':=Za H
       clear H
       have hcz29_0:wc.cell? ⟨gb246,0,none⟩=some (.int .i64 a0_0):=(Zb BK246.out 0).trans rfl
       have hcz29_1:wc.cell? ⟨gb246,1,none⟩=some (.int .i64 a0_1):=(Zb BK246.out 1).trans rfl
       have hcz29_2:wc.cell? ⟨gb246,2,none⟩=some (.int .i64 a0_2):=(Zb BK246.out 2).trans rfl
       have hcz29_3:wc.cell? ⟨gb246,3,none⟩=some (.int .i64 a0_3):=(Zb BK246.out 3).trans rfl
       have hcz29_4:wc.cell? ⟨gb246,4,none⟩=some (.int .i64 a0_4):=(Zb BK246.out 4).trans rfl
       have hcz29_5:wc.cell? ⟨gb246,5,none⟩=some (.int .i64 a0_5):=(Zb BK246.out 5).trans rfl
       have hfz29_0:=Zc BK246.out 0
       have hfz29_1:=Zc BK246.out 1
       have hfz29_2:=Zc BK246.out 2
       have hfz29_3:=Zc BK246.out 3
       have hfz29_4:=Zc BK246.out 4
       have hfz29_5:=Zc BK246.out 5
       go_wp2_with (first|((first|((with_reducible refine gate_callee (f:=100) rfl ?_);refine goesL_ (some 31) rfl rfl Try.func100 (by kernel_rfl) rfl #[.int .i64 a0_0] rfl z7_1 ?_;(with_reducible refine(impl_hasExpr.calls a0_0 true _ A20.out).mono ?_))|(go_at_call 100;(with_reducible refine(impl_hasExpr.calls a0_0 true _ A20.out).mono ?_)));rintro e w' ⟨rfl,⟨nd,rfl⟩⟩;(first|refine⟨_,rfl,?_⟩|skip))|(go_at_call 75;(with_reducible refine(impl_ExprOk.calls a0_3 a0_4 a0_5 false _ A22.out).mono ?_);rintro e w30 ⟨rfl,hb⟩;replace BK246:=Za (Zg (g:=gb246) (o:= .cells #[.int .i64 a0_0,.int .i64 a0_1,.int .i64 a0_2,.int .i64 a0_3,.int .i64 a0_4,.int .i64 a0_5] 80 (0,0)) (by(with_reducible repeat(first|refine blk_drewN ?_ _|refine blk_drew ?_|refine blk_alloc ?_ _));exact BK246.out) hb);replace HB:=Za (Zj (by repeat(first|(with_reducible first|exact HB.out|apply Zh|apply Zf|apply Ze|refine Zd ?_ GE246.out)|exact HB.out)) hb);(try clear hb);(try clear hb2);(try clear hk);(try clear hi)))
       go_meet
       case rel=>exact⟨_,(true),z7_7,H',⟨by have:=HJ1.out;first|omega|exact Nat.le_refl _⟩,⟨by(with_reducible repeat(first|refine blk_drewN ?_ _|refine blk_drew ?_|refine blk_alloc ?_ _));exact BK246.out⟩,⟨by repeat(first|(with_reducible first|exact HB.out|apply Zh|apply Zf|apply Ze|refine Zd ?_ GE246.out)|exact HB.out)⟩⟩
     ·replace c21:=Bool.eq_false_iff.mpr c21
      subst c21
      rw[if_neg (show ¬(false=true) by decide)] at H
      replace H:=Zl H
      obtain⟨t255,A310,H⟩:=H
      replace H:(if t255=true then (impl_StmtOk.j1 kj1 false a0_0 a0_1 a0_2 a0_3 a0_4 a0_5) else (impl_StmtOk.j1 kj1 (!(a0_3==0)||(!(a0_4==0)||(!(a0_5==0)))) a0_0 a0_1 a0_2 a0_3 a0_4 a0_5))=some r:=H
      have A31:=Za A310
      clear A310
      by_cases c32:t255=true
      ·subst c32
       rw[if_pos rfl] at H
       exact absurd (A20.out.symm.trans A31.out) (by simp)
      ·replace c32:=Bool.eq_false_iff.mpr c32
       subst c32
       rw[if_neg (show ¬(false=true) by decide)] at H
       have H':=Za H
       clear H
       have hcz33_0:wc.cell? ⟨gb246,0,none⟩=some (.int .i64 a0_0):=(Zb BK246.out 0).trans rfl
       have hcz33_1:wc.cell? ⟨gb246,1,none⟩=some (.int .i64 a0_1):=(Zb BK246.out 1).trans rfl
       have hcz33_2:wc.cell? ⟨gb246,2,none⟩=some (.int .i64 a0_2):=(Zb BK246.out 2).trans rfl
       have hcz33_3:wc.cell? ⟨gb246,3,none⟩=some (.int .i64 a0_3):=(Zb BK246.out 3).trans rfl
       have hcz33_4:wc.cell? ⟨gb246,4,none⟩=some (.int .i64 a0_4):=(Zb BK246.out 4).trans rfl
       have hcz33_5:wc.cell? ⟨gb246,5,none⟩=some (.int .i64 a0_5):=(Zb BK246.out 5).trans rfl
       have hfz33_0:=Zc BK246.out 0
       have hfz33_1:=Zc BK246.out 1
       have hfz33_2:=Zc BK246.out 2
       have hfz33_3:=Zc BK246.out 3
       have hfz33_4:=Zc BK246.out 4
       have hfz33_5:=Zc BK246.out 5
       go_wp2_with (first|((first|((with_reducible refine gate_callee (f:=100) rfl ?_);refine goesL_ (some 31) rfl rfl Try.func100 (by kernel_rfl) rfl #[.int .i64 a0_0] rfl z7_1 ?_;(with_reducible refine(impl_hasExpr.calls a0_0 false _ A20.out).mono ?_))|(go_at_call 100;(with_reducible refine(impl_hasExpr.calls a0_0 false _ A20.out).mono ?_)));rintro e w' ⟨rfl,⟨nd,rfl⟩⟩;(first|refine⟨_,rfl,?_⟩|skip))|(go_at_call 100;(with_reducible refine(impl_hasExpr.calls a0_0 false _ A31.out).mono ?_);rintro e w' ⟨rfl,⟨nd,rfl⟩⟩))
       go_meet
       case rel=>exact⟨_,((!(a0_3==0)||(!(a0_4==0)||(!(a0_5==0))))),z7_7,H',⟨by have:=HJ1.out;first|omega|exact Nat.le_refl _⟩,⟨by(with_reducible repeat(first|refine blk_drewN ?_ _|refine blk_drew ?_|refine blk_alloc ?_ _));exact BK246.out⟩,⟨by repeat(first|(with_reducible first|exact HB.out|apply Zh|apply Zf|apply Ze|refine Zd ?_ GE246.out)|exact HB.out)⟩⟩
    case rest=>
     clear HC19
     (try clear c18)
     obtain⟨kq,x49_18,rfl,HA,HJ18,BK246,HB⟩:=hcut
     cases kq with
     |zero=>exact absurd HA.out (by simp[impl_StmtOk.j1])
     |succ kj18=>
      have H:=HA.out
      clear HA
      simp only[impl_StmtOk.j1] at H
      by_cases c34:x49_18=true
      ·subst c34
       rw[if_pos rfl] at H
       obtain rfl:=Zk H
       go_wp2
       go_ret
       exact⟨by first|rfl|(simp[errW_none,errW_some]<;>rfl)|(simp[*,errW_none,errW_some]<;>rfl)|(simp[*,errW_none,errW_some,i64_w];done),by repeat(first|(with_reducible first|exact HB.out|apply Zh|apply Zf|apply Ze|refine Zd ?_ GE246.out)|exact HB.out)⟩
      ·replace c34:=Bool.eq_false_iff.mpr c34
       subst c34
       rw[if_neg (show ¬(false=true) by decide)] at H
       by_cases c35:a0_0=2
       ·rw[if_pos c35] at H
        have c35b0:(a0_0==2)=true:=beq_iff_eq.mpr c35
        have c35b1:(a0_0 != 2)=false:=bne_eq_false_iff_eq.mpr c35
        clear c35
        replace H:=Zl H
        obtain⟨t256,A360,H⟩:=H
        replace H:(some t256)=some r:=H
        have A36:=Za A360
        clear A360
        obtain rfl:=Zk H
        have hcz37_0:wc.cell? ⟨gb246,0,none⟩=some (.int .i64 a0_0):=(Zb BK246.out 0).trans rfl
        have hcz37_1:wc.cell? ⟨gb246,1,none⟩=some (.int .i64 a0_1):=(Zb BK246.out 1).trans rfl
        have hcz37_2:wc.cell? ⟨gb246,2,none⟩=some (.int .i64 a0_2):=(Zb BK246.out 2).trans rfl
        have hcz37_3:wc.cell? ⟨gb246,3,none⟩=some (.int .i64 a0_3):=(Zb BK246.out 3).trans rfl
        have hcz37_4:wc.cell? ⟨gb246,4,none⟩=some (.int .i64 a0_4):=(Zb BK246.out 4).trans rfl
        have hcz37_5:wc.cell? ⟨gb246,5,none⟩=some (.int .i64 a0_5):=(Zb BK246.out 5).trans rfl
        have hfz37_0:=Zc BK246.out 0
        have hfz37_1:=Zc BK246.out 1
        have hfz37_2:=Zc BK246.out 2
        have hfz37_3:=Zc BK246.out 3
        have hfz37_4:=Zc BK246.out 4
        have hfz37_5:=Zc BK246.out 5
        go_wp2_with (first|((first|((with_reducible refine gate_callee (f:=61) rfl ?_);refine goesL_ (some 56) rfl rfl Try.func61 (by kernel_rfl) rfl #[.int .i64 a0_2] rfl z7_1 ?_;(with_reducible refine(impl_isSensor.calls a0_2 t256 _ A36.out).mono ?_))|(go_at_call 61;(with_reducible refine(impl_isSensor.calls a0_2 t256 _ A36.out).mono ?_)));rintro e w' ⟨rfl,⟨nd,rfl⟩⟩;(first|refine⟨_,rfl,?_⟩|skip)))
        go_ret
        exact⟨by first|rfl|(simp[errW_none,errW_some]<;>rfl)|(simp[*,errW_none,errW_some]<;>rfl)|(simp[*,errW_none,errW_some,i64_w];done),by repeat(first|(with_reducible first|exact HB.out|apply Zh|apply Zf|apply Ze|refine Zd ?_ GE246.out)|exact HB.out)⟩
       ·rw[if_neg c35] at H
        have c35b0:(a0_0==2)=false:=beq_eq_false_iff_ne.mpr c35
        have c35b1:(a0_0 != 2)=true:=bne_iff_ne.mpr c35
        by_cases c38:a0_0=5
        ·rw[if_pos c38] at H
         have c38b0:(a0_0==5)=true:=beq_iff_eq.mpr c38
         have c38b1:(a0_0 != 5)=false:=bne_eq_false_iff_eq.mpr c38
         clear c38
         replace H:=Zl H
         obtain⟨t257,A390,H⟩:=H
         replace H:(some t257)=some r:=H
         have A39:=Za A390
         clear A390
         obtain rfl:=Zk H
         have hcz40_0:wc.cell? ⟨gb246,0,none⟩=some (.int .i64 a0_0):=(Zb BK246.out 0).trans rfl
         have hcz40_1:wc.cell? ⟨gb246,1,none⟩=some (.int .i64 a0_1):=(Zb BK246.out 1).trans rfl
         have hcz40_2:wc.cell? ⟨gb246,2,none⟩=some (.int .i64 a0_2):=(Zb BK246.out 2).trans rfl
         have hcz40_3:wc.cell? ⟨gb246,3,none⟩=some (.int .i64 a0_3):=(Zb BK246.out 3).trans rfl
         have hcz40_4:wc.cell? ⟨gb246,4,none⟩=some (.int .i64 a0_4):=(Zb BK246.out 4).trans rfl
         have hcz40_5:wc.cell? ⟨gb246,5,none⟩=some (.int .i64 a0_5):=(Zb BK246.out 5).trans rfl
         have hfz40_0:=Zc BK246.out 0
         have hfz40_1:=Zc BK246.out 1
         have hfz40_2:=Zc BK246.out 2
         have hfz40_3:=Zc BK246.out 3
         have hfz40_4:=Zc BK246.out 4
         have hfz40_5:=Zc BK246.out 5
         go_wp2_with (first|((first|((with_reducible refine gate_callee (f:=46) rfl ?_);refine goesL_ (some 61) rfl rfl Try.func46 (by kernel_rfl) rfl #[.int .i64 a0_2,.int .i64 1,.int .i64 5] rfl z7_1 ?_;(with_reducible refine(impl_within.calls a0_2 1 5 t257 _ A39.out).mono ?_))|(go_at_call 46;(with_reducible refine(impl_within.calls a0_2 1 5 t257 _ A39.out).mono ?_)));rintro e w' ⟨rfl,⟨nd,rfl⟩⟩;(first|refine⟨_,rfl,?_⟩|skip)))
         go_ret
         exact⟨by first|rfl|(simp[errW_none,errW_some]<;>rfl)|(simp[*,errW_none,errW_some]<;>rfl)|(simp[*,errW_none,errW_some,i64_w];done),by repeat(first|(with_reducible first|exact HB.out|apply Zh|apply Zf|apply Ze|refine Zd ?_ GE246.out)|exact HB.out)⟩
        ·rw[if_neg c38] at H
         have c38b0:(a0_0==5)=false:=beq_eq_false_iff_ne.mpr c38
         have c38b1:(a0_0 != 5)=true:=bne_iff_ne.mpr c38
         obtain rfl:=Zk H
         have hcz41_0:wc.cell? ⟨gb246,0,none⟩=some (.int .i64 a0_0):=(Zb BK246.out 0).trans rfl
         have hcz41_1:wc.cell? ⟨gb246,1,none⟩=some (.int .i64 a0_1):=(Zb BK246.out 1).trans rfl
         have hcz41_2:wc.cell? ⟨gb246,2,none⟩=some (.int .i64 a0_2):=(Zb BK246.out 2).trans rfl
         have hcz41_3:wc.cell? ⟨gb246,3,none⟩=some (.int .i64 a0_3):=(Zb BK246.out 3).trans rfl
         have hcz41_4:wc.cell? ⟨gb246,4,none⟩=some (.int .i64 a0_4):=(Zb BK246.out 4).trans rfl
         have hcz41_5:wc.cell? ⟨gb246,5,none⟩=some (.int .i64 a0_5):=(Zb BK246.out 5).trans rfl
         have hfz41_0:=Zc BK246.out 0
         have hfz41_1:=Zc BK246.out 1
         have hfz41_2:=Zc BK246.out 2
         have hfz41_3:=Zc BK246.out 3
         have hfz41_4:=Zc BK246.out 4
         have hfz41_5:=Zc BK246.out 5
         go_wp2
         go_ret
         exact⟨by first|rfl|(simp[errW_none,errW_some]<;>rfl)|(simp[*,errW_none,errW_some]<;>rfl)|(simp[*,errW_none,errW_some,i64_w];done),by repeat(first|(with_reducible first|exact HB.out|apply Zh|apply Zf|apply Ze|refine Zd ?_ GE246.out)|exact HB.out)⟩
end Go.Proofs.Ytlolppaddphpoaa.G
