/- Functions of the program as plain Lean functions, and that each call comes to its function's answer; written by a program of the session. No condition. -/
import Derived.Test.YtccjlmpeogifkaaGreatGx0
import Derived.Test.YtccjlmpeogifkaaGreatGx3
import Derived.Test.YtccjlmpeogifkaaGreatGx5
import Derived.Test.YtccjlmpeogifkaaGreatGx6
namespace Go.Proofs.YtccjlmpeogifkaaGreat.G
open Go.RowKit Go.Proofs.YtccjlmpeogifkaaGreatW.PrintWords Go.Proofs.YtccjlmpeogifkaaGreatW.PrintLast Go.Proofs.YtccjlmpeogifkaaGreatW.PrintMore
attribute [local go_sem] max2_int min2_int max_two min_two max_three min_three max_four min_four   -- for this text's walks alone
set_option linter.unusedVariables false
set_option linter.unusedSimpArgs false
theorem z7_0 {P:Prop} (h:P:=by repeat(first|(with_reducible first|exact HB.out|apply Zh|apply Ze|apply Zd)|exact HB.out)):P:=h
theorem z7_1 {P:Prop} (h:P:=by(try simp only[Ys,Yt,List.map_nil]);first|done|rfl|(simp only[List.length_drop,List.length_take];rfl)):P:=h
theorem z7_2 {P:Prop} (h:P:=by repeat(first|(with_reducible first|exact HB.out|apply Zh|apply Ze|apply Zd|refine Zg ?_ GE257.out)|exact HB.out)):P:=h
theorem z7_3 {P:Prop} (h:P:=by first|(with_reducible assumption)|assumption):P:=h
theorem z7_4 {P:Prop} (h:P:=by repeat(first|(with_reducible first|exact HB.out|apply Zh|apply Ze|apply Zd|refine Zg ?_ GE283.out)|exact HB.out)):P:=h
theorem z7_5 {P:Prop} (h:P:=by repeat(first|exact(Yj HR0_0.out HB.out)|(with_reducible refine Yh ?_ _)|(with_reducible refine Ye ?_ _)|(with_reducible refine Yi ?_))):P:=h
theorem z7_6 {P:Prop} (h:P:=by first|(go_simp;done)|(go_simp;rfl)):P:=h
theorem z7_7 {P:Prop} (h:P:=by(with_reducible repeat(first|refine blk_drewN ?_ _|refine blk_drew ?_|refine blk_alloc ?_ _));exact BK257.out):P:=h
theorem z7_8 {P:Prop} (h:P:=by(with_reducible repeat(first|apply Zp|apply Zo|apply Zn));exact HO260.out):P:=h
theorem z7_9 {P:Prop} (h:P:=by(with_reducible repeat(first|refine blk_drewN ?_ _|refine blk_drew ?_|refine blk_alloc ?_ _));exact BK346.out):P:=h
theorem z7_10 {P:Prop} (h:P:=by(with_reducible repeat(first|refine blk_drewN ?_ _|refine blk_drew ?_|refine blk_alloc ?_ _));exact BK326.out):P:=h
theorem z7_11 {P:Prop} (h:P:=by(with_reducible repeat(first|refine blk_drewN ?_ _|refine blk_drew ?_|refine blk_alloc ?_ _));exact BK283.out):P:=h
theorem z7_12 {P:Prop} (h:P:=by repeat(first|(with_reducible first|exact HB.out|apply Zh|apply Ze|apply Zd|refine Zg ?_ GE326.out|refine Zg ?_ GE327.out|refine Zg ?_ GE328.out)|exact HB.out)):P:=h
theorem z7_13 {P:Prop} (h:P:=by(with_reducible repeat(first|refine blk_drewN ?_ _|refine blk_drew ?_|refine blk_alloc ?_ _));exact BK309.out):P:=h
theorem z7_14 {P:Prop} (h:P:=by(with_reducible repeat(first|refine blk_drewN ?_ _|refine blk_drew ?_|refine blk_alloc ?_ _));exact BK306.out):P:=h
theorem z7_15 {P:Prop} (h:P:=by first|rfl|(simp;done)|(simp[*];done)):P:=h
theorem z7_16 {P:Prop} (h:P:=by(with_reducible repeat(first|apply Zp|apply Zo|apply Zn));exact HO286.out):P:=h
theorem z7_17 {P:Prop} (h:P:=by(with_reducible repeat(first|refine blk_drewN ?_ _|refine blk_drew ?_|refine blk_alloc ?_ _));exact BK327.out):P:=h
theorem z7_18 {P:Prop} (h:P:=by exact(fun k_ hk=>⟨Kd.fresh' (Kd.R_lt (by(with_reducible repeat(first|apply Zp|apply Zo|apply Zn));exact HO_4.out)) k_ hk,Kd.fresh' (Kd.R_lt (by(with_reducible repeat(first|apply Zp|apply Zo|apply Zn));exact HO_5.out)) k_ hk,Kd.fresh' (Kd.R_lt (by(with_reducible repeat(first|apply Zp|apply Zo|apply Zn));exact HO_6.out)) k_ hk⟩)):P:=h
theorem z7_19 {P:Prop} (h:P:=by repeat(first|(with_reducible first|exact HB.out|apply Zh|apply Ze|apply Zd|refine Zg ?_ GE346.out|refine Zg ?_ GE347.out)|exact HB.out)):P:=h
theorem z7_20 {P:Prop} (h:P:=by repeat(first|(with_reducible first|exact HB.out|apply Zh|apply Ze|apply Zd|refine Zg ?_ GE326.out|refine Zg ?_ GE327.out)|exact HB.out)):P:=h
theorem z7_21 {P:Prop} (h:P:=by repeat(first|(with_reducible first|exact HB.out|apply Zh|apply Ze|apply Zd|refine Zg ?_ GE309.out|refine Zg ?_ GE310.out)|exact HB.out)):P:=h
theorem z7_22 {P:Prop} (h:P:=by repeat(first|(with_reducible first|exact HB.out|apply Zh|apply Ze|apply Zd|refine Zg ?_ GE306.out|refine Zg ?_ GE307.out)|exact HB.out)):P:=h
theorem z7_23 {P:Prop} (h:P:=by(with_reducible repeat(first|refine blk_drewN ?_ _|refine blk_drew ?_|refine blk_alloc ?_ _));exact BK347.out):P:=h
theorem z7_24 {P:Prop} (h:P:=by(with_reducible repeat(first|refine blk_drewN ?_ _|refine blk_drew ?_|refine blk_alloc ?_ _));exact BK310.out):P:=h
theorem z7_25 {P:Prop} (h:P:=by(with_reducible repeat(first|refine blk_drewN ?_ _|refine blk_drew ?_|refine blk_alloc ?_ _));exact BK307.out):P:=h
theorem z7_26 {P:Prop} (h:P:=by repeat(first|exact(Yd HO_6.out).2.2|(with_reducible refine Yh ?_ _)|(with_reducible refine Ye ?_ _)|(with_reducible refine Yi ?_))):P:=h
theorem z7_27 {P:Prop} (h:P:=by repeat(first|(with_reducible first|exact HB.out|apply Zh|apply Ze|apply Zd|refine Zg ?_ GE346.out)|exact HB.out)):P:=h
theorem z7_28 {P:Prop} (h:P:=by repeat(first|(with_reducible first|exact HB.out|apply Zh|apply Ze|apply Zd|refine Zg ?_ GE326.out)|exact HB.out)):P:=h
theorem z7_29 {P:Prop} (h:P:=by repeat(first|(with_reducible first|exact HB.out|apply Zh|apply Ze|apply Zd|refine Zg ?_ GE309.out)|exact HB.out)):P:=h
theorem z7_30 {P:Prop} (h:P:=by repeat(first|(with_reducible first|exact HB.out|apply Zh|apply Ze|apply Zd|refine Zg ?_ GE306.out)|exact HB.out)):P:=h
theorem z7_31 {P:Prop} (h:P:=by(with_reducible repeat(first|apply Zp|apply Zo|apply Zn));exact HO264.out):P:=h
theorem z7_32 {P:Prop} (h:P:=by(with_reducible repeat(first|apply Zp|apply Zo|apply Zn));exact HO_3.out):P:=h
theorem z7_33 {P:Prop} (h:P:=by kernel_rfl):P:=h
theorem z7_34 {P:Prop} (h:P:=by repeat(first|(with_reducible first|exact HB.out|apply Zh|apply Ze|apply Zd|refine Zg ?_ GE346.out|refine Zg ?_ GE347.out|refine Zg ?_ GE348.out)|exact HB.out)):P:=h
theorem z7_35 {P:Prop} (h:P:=by repeat(first|(with_reducible first|exact HB.out|apply Zh|apply Ze|apply Zd|refine Zg ?_ GE309.out|refine Zg ?_ GE310.out|refine Zg ?_ GE311.out)|exact HB.out)):P:=h
theorem z7_36 {P:Prop} (h:P:=by rw[hg];exact(Zt z7_0)):P:=h
def spec_MustLog.l0:Nat→List Int→List Int→List Int→List Int→Int→Option (List Int)
 |0,_,_,_,_,_=>none
 |k+1,x3,x4,x5,x6,x7=>if x7<(x4.length:Int) then (if 0≤x7 then ((spec_HasVar.f k x6 (rd x4 x7)).bind fun t272=>(if t272=true then (if x3.length<17592186044416 then (spec_MustLog.l0 k (x3++[rd x4 x7]) x4 x5 x6 (wrap64 (x7+1))) else (none)) else ((spec_HasVar.f k x5 (rd x4 x7)).bind fun t278=>(if t278=true then (spec_MustLog.l0 k x3 x4 x5 x6 (wrap64 (x7+1))) else (if x3.length<17592186044416 then (spec_MustLog.l0 k (x3++[rd x4 x7]) x4 x5 x6 (wrap64 (x7+1))) else (none)))))) else (none)) else (some x3)
def spec_MustLog.f (k:Nat) (l0_0:List (S77)) (a0_1:Int) (a0_2:Int) (a0_3:Int):Option (List Int):=(some (([]:List Int):List Int)).bind fun y258=>((spec_l08Ok.f k l0_0 a0_1 a0_2 a0_3).bind fun t261=>(if t261=true then ((spec_MayWrite.f k l0_0).bind fun t262=>((spec_MustWrite.f k l0_0).bind fun t265=>((spec_MayReadFirst.f k l0_0 a0_1 a0_2 a0_3).bind fun t268=>(spec_MustLog.l0 k y258 t262 t265 t268 0)))) else (some y258)))
set_option maxHeartbeats 8000000 in
set_option maxRecDepth 100000 in
theorem spec_MustLog.calls (k:Nat) (A0_0:Option Addr) (c0_0:Nat) (l0_0:List (S77)) (a0_1:Int) (a0_2:Int) (a0_3:Int) (r:List Int) (w:World) (hr0_0:Kd.C k77 w A0_0 l0_0.length l0_0) (hc0_0:l0_0.length≤c0_0) (h:spec_MustLog.f k l0_0 a0_1 a0_2 a0_3=some r):
  Calls Tryz.prog 24 #[.agg #[.slice A0_0 l0_0.length c0_0,.int .i64 a0_1,.int .i64 a0_2,.int .i64 a0_3]] w fun e w'=>∃v0_:Value,e= .returned (v0_)∧Kd.R (Kd.int .i64) 3 w' w.heap.size (fun _=>True) v0_ r∧Below w.heap.size w w':=by
 have hu55:=Tryz.underlying55
 have HR0_0:=Za hr0_0
 have HC0_0:=Za hc0_0
 clear hr0_0 hc0_0
 have HB:=Za (Yc w.heap.size w)
 have H:((some (([]:List Int):List Int)).bind fun y258=>((spec_l08Ok.f k l0_0 a0_1 a0_2 a0_3).bind fun t261=>(if t261=true then ((spec_MayWrite.f k l0_0).bind fun t262=>((spec_MustWrite.f k l0_0).bind fun t265=>((spec_MayReadFirst.f k l0_0 a0_1 a0_2 a0_3).bind fun t268=>(spec_MustLog.l0 k y258 t262 t265 t268 0)))) else (some y258))))=some r:=h
 clear h
 obtain⟨y258,hy258⟩:∃y_:List Int,y_=(([]:List Int)):=⟨_,rfl⟩
 replace H:((spec_l08Ok.f k l0_0 a0_1 a0_2 a0_3).bind fun t261=>(if t261=true then ((spec_MayWrite.f k l0_0).bind fun t262=>((spec_MustWrite.f k l0_0).bind fun t265=>((spec_MayReadFirst.f k l0_0 a0_1 a0_2 a0_3).bind fun t268=>(spec_MustLog.l0 k y258 t262 t265 t268 0)))) else (some y258)))=some r:=by first|(rw[hy258];with_reducible exact H)|(have H2_:=(Yk _ _).symm.trans H;rw[hy258];with_reducible exact H2_)|(have H2_:=(Yk _ _).symm.trans H;with_reducible exact H2_)|with_reducible exact H|(rw[hy258];exact H)|exact H
 have Ny258:=Za hy258
 clear hy258
 replace H:=Zl H
 obtain⟨t261,A20,H⟩:=H
 replace H:(if t261=true then ((spec_MayWrite.f k l0_0).bind fun t262=>((spec_MustWrite.f k l0_0).bind fun t265=>((spec_MayReadFirst.f k l0_0 a0_1 a0_2 a0_3).bind fun t268=>(spec_MustLog.l0 k y258 t262 t265 t268 0)))) else (some y258))=some r:=H
 have A2:=Za A20
 clear A20
 by_cases c3:t261=true
 ·subst c3
  rw[if_pos rfl] at H
  replace H:=Zl H
  obtain⟨t262,A40,H⟩:=H
  replace H:((spec_MustWrite.f k l0_0).bind fun t265=>((spec_MayReadFirst.f k l0_0 a0_1 a0_2 a0_3).bind fun t268=>(spec_MustLog.l0 k y258 t262 t265 t268 0)))=some r:=H
  have A4:=Za A40
  clear A40
  replace H:=Zl H
  obtain⟨t265,A50,H⟩:=H
  replace H:((spec_MayReadFirst.f k l0_0 a0_1 a0_2 a0_3).bind fun t268=>(spec_MustLog.l0 k y258 t262 t265 t268 0))=some r:=H
  have A5:=Za A50
  clear A50
  replace H:=Zl H
  obtain⟨t268,A60,H⟩:=H
  replace H:(spec_MustLog.l0 k y258 t262 t265 t268 0)=some r:=H
  have A6:=Za A60
  clear A60
  have H':=Za H
  clear H
  go_enter Tryz.func24,Tryz.ntmps24
  go_wp2_with (first|((with_reducible refine Zr (N:=1) rfl ?_);refine Zs ?hg (N:=1) ?hd (cs:= #[.slice A0_0 l0_0.length c0_0,.int .i64 a0_1,.int .i64 a0_2,.int .i64 a0_3]) (t:=55) ?hr ?_;(case hd=>rfl);(case hg=>rfl);(case hr=>exact z7_6);intro gb257 hg w7 hbox hb;have BK257:=Za (hbox);have GW257:=Za ((z7_36:w.heap.size≤gb257));have GE257:=Za ((z7_36:w.heap.size≤gb257));replace HB:=Za (Zi z7_0 hb);clear hb hbox hg)|((with_reducible refine Zr (N:=8) rfl ?_);refine Kd.R_lit (Kd.int .i64) _ 3 ?hg (N:=8) ?hd (xs:=([]:List Int)) (inner:=[]) (ok:=fun _=>True) (okp:=fun _=>True) ?hr ?hp (fun _ hk=>hk) trivial (Yc _ _) (Nat.le_refl _) (by simp) ?_;(case hd=>rfl);(case hg=>rfl);(case hr=>exact z7_6);(case hp=>exact(Reps.none _ _));intro v259 w8 ho9 hb hg_ hnew_;clear hg_ hnew_;(first|rw[←Ny258.out] at ho9|(simp only[Int.reduceToNat] at ho9;rw[←Ny258.out] at ho9));have HO260:=Za (Yq ho9 (Zt z7_2));replace BK257:=Za (Zk (g:=gb257) (o:= .cells #[.slice A0_0 l0_0.length c0_0,.int .i64 a0_1,.int .i64 a0_2,.int .i64 a0_3] 55 (0,0)) z7_7 hb);replace HB:=Za (Zi z7_2 hb);clear hb ho9;have hcz10_0:w8.cell? ⟨gb257,0,none⟩=some (.slice A0_0 l0_0.length c0_0):=(Zb BK257.out 0).trans rfl;have hcz10_1:w8.cell? ⟨gb257,1,none⟩=some (.int .i64 a0_1):=(Zb BK257.out 1).trans rfl;have hcz10_2:w8.cell? ⟨gb257,2,none⟩=some (.int .i64 a0_2):=(Zb BK257.out 2).trans rfl;have hcz10_3:w8.cell? ⟨gb257,3,none⟩=some (.int .i64 a0_3):=(Zb BK257.out 3).trans rfl;have hfz10_0:=Zc BK257.out 0;have hfz10_1:=Zc BK257.out 1;have hfz10_2:=Zc BK257.out 2;have hfz10_3:=Zc BK257.out 3)|((first|((with_reducible refine gate_callee (f:=53) rfl ?_);refine goesL_ (some 10) rfl rfl Tryz.func53 z7_33 rfl #[.agg #[.slice A0_0 l0_0.length c0_0,.int .i64 a0_1,.int .i64 a0_2,.int .i64 a0_3]] rfl z7_1 ?_;(with_reducible refine(spec_l08Ok.calls k _ _ l0_0 a0_1 a0_2 a0_3 true _ ?side1 ?side2 A2.out).mono ?_))|(go_at_call 53;(with_reducible refine(spec_l08Ok.calls k _ _ l0_0 a0_1 a0_2 a0_3 true _ ?side1 ?side2 A2.out).mono ?_)));(case side1=>exact z7_5);(case side2=>exact HC0_0.out);rintro e w11 ⟨rfl,hb⟩;(first|refine⟨_,rfl,?_⟩|skip);replace HO260:=Za (Kd.R_below z7_8 hb);replace BK257:=Za (Zk (g:=gb257) (o:= .cells #[.slice A0_0 l0_0.length c0_0,.int .i64 a0_1,.int .i64 a0_2,.int .i64 a0_3] 55 (0,0)) z7_7 hb);replace HB:=Za (Zi z7_2 hb);(try clear hb);(try clear hb2);(try clear hk);(try clear hi);have hcz12_0:w11.cell? ⟨gb257,0,none⟩=some (.slice A0_0 l0_0.length c0_0):=(Zb BK257.out 0).trans rfl;have hcz12_1:w11.cell? ⟨gb257,1,none⟩=some (.int .i64 a0_1):=(Zb BK257.out 1).trans rfl;have hcz12_2:w11.cell? ⟨gb257,2,none⟩=some (.int .i64 a0_2):=(Zb BK257.out 2).trans rfl;have hcz12_3:w11.cell? ⟨gb257,3,none⟩=some (.int .i64 a0_3):=(Zb BK257.out 3).trans rfl;have hfz12_0:=Zc BK257.out 0;have hfz12_1:=Zc BK257.out 1;have hfz12_2:=Zc BK257.out 2;have hfz12_3:=Zc BK257.out 3)|((first|((with_reducible refine gate_callee (f:=23) rfl ?_);refine goesL_ (some 15) rfl rfl Tryz.func23 z7_33 rfl #[.slice A0_0 l0_0.length c0_0] rfl z7_1 ?_;(with_reducible refine(spec_MayWrite.calls k _ _ l0_0 t262 _ ?side1 ?side2 A4.out).mono ?_))|(go_at_call 23;(with_reducible refine(spec_MayWrite.calls k _ _ l0_0 t262 _ ?side1 ?side2 A4.out).mono ?_)));(case side1=>exact z7_5);(case side2=>exact HC0_0.out);rintro e w13 ⟨v263,rfl,ho0,hb⟩;(first|refine⟨_,rfl,?_⟩|skip);have HO264:=Za (Yq (Kd.R_new' ho0 (Kd.R_lt z7_8)) (Zt z7_2));replace HO260:=Za (Yr z7_8 (Yo ho0) hb);replace BK257:=Za (Zk (g:=gb257) (o:= .cells #[.slice A0_0 l0_0.length c0_0,.int .i64 a0_1,.int .i64 a0_2,.int .i64 a0_3] 55 (0,0)) z7_7 hb);replace HB:=Za (Zi z7_2 hb);(try clear hb);(try clear hb2);(try clear hk);(try clear hi);(try clear ho0);have hcz14_0:w13.cell? ⟨gb257,0,none⟩=some (.slice A0_0 l0_0.length c0_0):=(Zb BK257.out 0).trans rfl;have hcz14_1:w13.cell? ⟨gb257,1,none⟩=some (.int .i64 a0_1):=(Zb BK257.out 1).trans rfl;have hcz14_2:w13.cell? ⟨gb257,2,none⟩=some (.int .i64 a0_2):=(Zb BK257.out 2).trans rfl;have hcz14_3:w13.cell? ⟨gb257,3,none⟩=some (.int .i64 a0_3):=(Zb BK257.out 3).trans rfl;have hfz14_0:=Zc BK257.out 0;have hfz14_1:=Zc BK257.out 1;have hfz14_2:=Zc BK257.out 2;have hfz14_3:=Zc BK257.out 3)|((first|((with_reducible refine gate_callee (f:=54) rfl ?_);refine goesL_ (some 18) rfl rfl Tryz.func54 z7_33 rfl #[.slice A0_0 l0_0.length c0_0] rfl z7_1 ?_;(with_reducible refine(spec_MustWrite.calls k _ _ l0_0 t265 _ ?side1 ?side2 A5.out).mono ?_))|(go_at_call 54;(with_reducible refine(spec_MustWrite.calls k _ _ l0_0 t265 _ ?side1 ?side2 A5.out).mono ?_)));(case side1=>exact z7_5);(case side2=>exact HC0_0.out);rintro e w15 ⟨v266,rfl,ho0,hb⟩;(first|refine⟨_,rfl,?_⟩|skip);have HO267:=Za (Yq (Kd.R_new' (Kd.R_new' ho0 (Kd.R_lt z7_8)) (Kd.R_lt z7_31)) (Zt z7_2));replace HO260:=Za (Yr z7_8 (Yo ho0) hb);replace HO264:=Za (Yr z7_31 (Yo ho0) hb);replace BK257:=Za (Zk (g:=gb257) (o:= .cells #[.slice A0_0 l0_0.length c0_0,.int .i64 a0_1,.int .i64 a0_2,.int .i64 a0_3] 55 (0,0)) z7_7 hb);replace HB:=Za (Zi z7_2 hb);(try clear hb);(try clear hb2);(try clear hk);(try clear hi);(try clear ho0);have hcz16_0:w15.cell? ⟨gb257,0,none⟩=some (.slice A0_0 l0_0.length c0_0):=(Zb BK257.out 0).trans rfl;have hcz16_1:w15.cell? ⟨gb257,1,none⟩=some (.int .i64 a0_1):=(Zb BK257.out 1).trans rfl;have hcz16_2:w15.cell? ⟨gb257,2,none⟩=some (.int .i64 a0_2):=(Zb BK257.out 2).trans rfl;have hcz16_3:w15.cell? ⟨gb257,3,none⟩=some (.int .i64 a0_3):=(Zb BK257.out 3).trans rfl;have hfz16_0:=Zc BK257.out 0;have hfz16_1:=Zc BK257.out 1;have hfz16_2:=Zc BK257.out 2;have hfz16_3:=Zc BK257.out 3)|((first|((with_reducible refine gate_callee (f:=55) rfl ?_);refine goesL_ (some 20) rfl rfl Tryz.func55 z7_33 rfl #[.agg #[.slice A0_0 l0_0.length c0_0,.int .i64 a0_1,.int .i64 a0_2,.int .i64 a0_3]] rfl z7_1 ?_;(with_reducible refine(spec_MayReadFirst.calls k _ _ l0_0 a0_1 a0_2 a0_3 t268 _ ?side1 ?side2 A6.out).mono ?_))|(go_at_call 55;(with_reducible refine(spec_MayReadFirst.calls k _ _ l0_0 a0_1 a0_2 a0_3 t268 _ ?side1 ?side2 A6.out).mono ?_)));(case side1=>exact z7_5);(case side2=>exact HC0_0.out);rintro e w17 ⟨v269,rfl,ho0,hb⟩;(first|refine⟨_,rfl,?_⟩|skip);have HO270:=Za (Yq (Kd.R_new' (Kd.R_new' (Kd.R_new' ho0 (Kd.R_lt z7_8)) (Kd.R_lt z7_31)) (Kd.R_lt (by(with_reducible repeat(first|apply Zp|apply Zo|apply Zn));exact HO267.out))) (Zt z7_2));replace HO260:=Za (Yr z7_8 (Yo ho0) hb);replace HO264:=Za (Yr z7_31 (Yo ho0) hb);replace HO267:=Za (Yr (by(with_reducible repeat(first|apply Zp|apply Zo|apply Zn));exact HO267.out) (Yo ho0) hb);replace BK257:=Za (Zk (g:=gb257) (o:= .cells #[.slice A0_0 l0_0.length c0_0,.int .i64 a0_1,.int .i64 a0_2,.int .i64 a0_3] 55 (0,0)) z7_7 hb);replace HB:=Za (Zi z7_2 hb);(try clear hb);(try clear hb2);(try clear hk);(try clear hi);(try clear ho0)))
  go_loopg [3,7] k (fun kq v3 v7 w'=>∃(x3_1:List Int) (x7_1:Int),v7= .int .i64 x7_1∧Aside0 (spec_MustLog.l0 kq x3_1 t262 t265 t268 x7_1=some r)∧Aside0 (kq≤k)∧Aside0 (Kd.R (Kd.int .i64) 3 w' w.heap.size (fun k_=>some k_≠(v263:Value).ownBlock∧some k_≠(v266:Value).ownBlock∧some k_≠(v269:Value).ownBlock) v3 x3_1)∧Aside0 (Kd.R (Kd.int .i64) 3 w' w.heap.size (fun k_=>some k_≠(v3:Value).ownBlock∧some k_≠(v266:Value).ownBlock∧some k_≠(v269:Value).ownBlock) v263 t262)∧Aside0 (Kd.R (Kd.int .i64) 3 w' w.heap.size (fun k_=>some k_≠(v3:Value).ownBlock∧some k_≠(v263:Value).ownBlock∧some k_≠(v269:Value).ownBlock) v266 t265)∧Aside0 (Kd.R (Kd.int .i64) 3 w' w.heap.size (fun k_=>some k_≠(v3:Value).ownBlock∧some k_≠(v263:Value).ownBlock∧some k_≠(v266:Value).ownBlock) v269 t268)∧Aside0 (w'.heap[gb257]? =some (.cells #[(.slice A0_0 l0_0.length c0_0),.int .i64 a0_1,.int .i64 a0_2,.int .i64 a0_3] 55 (0,0)))∧Aside0 (Below w.heap.size w w'))
  case atStart=>exact⟨(y258),(0),z7_15,H',⟨Nat.le_refl _⟩,⟨by(with_reducible repeat(first|apply Zp|apply Zo|apply Zn));exact Yf HO260.out (fun _ hk=>⟨hk.1.1.2,⟨hk.1.2,hk.2⟩⟩)⟩,⟨by(with_reducible repeat(first|apply Zp|apply Zo|apply Zn));exact Yf HO264.out (fun _ hk=>⟨hk.1.1.2,⟨hk.1.2,hk.2⟩⟩)⟩,⟨by(with_reducible repeat(first|apply Zp|apply Zo|apply Zn));exact Yf HO267.out (fun _ hk=>⟨hk.1.1.2,⟨hk.1.2,hk.2⟩⟩)⟩,⟨by(with_reducible repeat(first|apply Zp|apply Zo|apply Zn));exact Yf HO270.out (fun _ hk=>⟨hk.1.1.2,⟨hk.1.2,hk.2⟩⟩)⟩,⟨by(with_reducible repeat(first|refine blk_drewN ?_ _|refine blk_drew ?_|refine blk_alloc ?_ _));exact BK257.out⟩,⟨by repeat(first|(with_reducible first|exact HB.out|apply Zh|apply Ze|apply Zd|refine Zg ?_ GE257.out)|exact HB.out)⟩⟩
  case round=>
   clear H'
   (try clear c3);(try clear hcz10_0);(try clear hcz10_1);(try clear hcz10_2);(try clear hcz10_3);(try clear hcz12_0);(try clear hcz12_1);(try clear hcz12_2);(try clear hcz12_3);(try clear hcz14_0);(try clear hcz14_1);(try clear hcz14_2);(try clear hcz14_3);(try clear hcz16_0);(try clear hcz16_1);(try clear hcz16_2);(try clear hcz16_3);(try clear hfz10_0);(try clear hfz10_1);(try clear hfz10_2);(try clear hfz10_3);(try clear hfz12_0);(try clear hfz12_1);(try clear hfz12_2);(try clear hfz12_3);(try clear hfz14_0);(try clear hfz14_1);(try clear hfz14_2);(try clear hfz14_3);(try clear hfz16_0);(try clear hfz16_1);(try clear hfz16_2);(try clear hfz16_3)
   obtain⟨x3_1,x7_1,rfl,HA,HK1,HO_3,HO_4,HO_5,HO_6,BK257,HB⟩:=hrel
   cases gk with
   |zero=>exact absurd HA.out (by simp[spec_MustLog.l0])
   |succ k1=>
    have H:=HA.out
    clear HA
    simp only[spec_MustLog.l0] at H
    by_cases c18:x7_1<(t262.length:Int)
    ·rw[if_pos c18] at H
     have c18b0:decide (x7_1<(t262.length:Int))=true:=Zq c18
     clear c18
     by_cases c19:0≤x7_1
     ·rw[if_pos c19] at H
      have c19b0:decide (0≤x7_1)=true:=Zq c19
      clear c19
      replace H:=Zl H
      obtain⟨t272,A200,H⟩:=H
      replace H:(if t272=true then (if x3_1.length<17592186044416 then (spec_MustLog.l0 k1 (x3_1++[rd t262 x7_1]) t262 t265 t268 (wrap64 (x7_1+1))) else (none)) else ((spec_HasVar.f k1 t265 (rd t262 x7_1)).bind fun t278=>(if t278=true then (spec_MustLog.l0 k1 x3_1 t262 t265 t268 (wrap64 (x7_1+1))) else (if x3_1.length<17592186044416 then (spec_MustLog.l0 k1 (x3_1++[rd t262 x7_1]) t262 t265 t268 (wrap64 (x7_1+1))) else (none)))))=some r:=H
      have A20:=Za A200
      clear A200
      by_cases c21:t272=true
      ·subst c21
       rw[if_pos rfl] at H
       by_cases c22:x3_1.length<17592186044416
       ·rw[if_pos c22] at H
        have LMc22:=Za c22
        clear c22
        obtain⟨y274,hy274⟩:∃y_:List Int,y_=(x3_1++[rd t262 x7_1]):=⟨_,rfl⟩
        replace H:(spec_MustLog.l0 k1 y274 t262 t265 t268 (wrap64 (x7_1+1)))=some r:=by first|(rw[hy274];with_reducible exact H)|(have H2_:=(Yk _ _).symm.trans H;rw[hy274];with_reducible exact H2_)|(have H2_:=(Yk _ _).symm.trans H;with_reducible exact H2_)|with_reducible exact H|(rw[hy274];exact H)|exact H
        have Ny274:=Za hy274
        clear hy274
        have H':=Za H
        clear H
        obtain⟨Ao23,co23,eo23⟩:=Yp HO_4.out
        subst eo23
        have p271:0≤(x7_1:Int):=Zj z7_3
        have q271:x7_1<(t262.length:Int):=Zj z7_3
        obtain⟨ad271,e271,hx271_0⟩:=Kd.at_int (Yd HO_4.out).2.2 x7_1 p271 q271
        cases e271
        replace p271:=eq_true p271
        replace q271:=eq_true q271
        obtain⟨Ao24,co24,eo24⟩:=Yp HO_6.out
        subst eo24
        go_wp2_with (first|((first|((with_reducible refine gate_callee (f:=25) rfl ?_);refine goesL_ (some 32) rfl rfl Tryz.func25 z7_33 rfl #[.slice Ao24 t268.length co24,.int .i64 (rd t262 x7_1)] rfl z7_1 ?_;(with_reducible refine(spec_HasVar.calls k1 _ _ t268 (rd t262 x7_1) true _ ?side1 ?side2 A20.out).mono ?_))|(go_at_call 25;(with_reducible refine(spec_HasVar.calls k1 _ _ t268 (rd t262 x7_1) true _ ?side1 ?side2 A20.out).mono ?_)));(case side1=>exact z7_26);(case side2=>exact(Yd HO_6.out).2.1);rintro e w' ⟨rfl,⟨nd,rfl⟩⟩;(first|refine⟨_,rfl,?_⟩|skip);have p273:0≤(x7_1:Int):=Zj z7_3;have q273:x7_1<(t262.length:Int):=Zj z7_3;obtain⟨ad273,e273,hx273_0⟩:=Kd.at_int (Yd HO_4.out).2.2 x7_1 p273 q273;obtain rfl:ad271=ad273:=(by injection e273);replace p273:=eq_true p273;replace q273:=eq_true q273)|((with_reducible refine gate_builtin (b:= .append) (xs:= #[.tmp 42,.tmp 47]) rfl ?_);at_builtin;refine Kd.R_append (Kd.int .i64) (w0:=w) w.heap.size rfl (.tmp 42) (.tmp 47) 25 3 (.int .i64 0) 8 rfl Tryz.underlying25 info3 rfl (by decide) (by omega) u3 x3_1 (rd t262 x7_1) [.int .i64 (rd t262 x7_1)] (fun k_=>some k_≠(.slice (some ad271) t262.length co23:Value).ownBlock∧some k_≠(v266:Value).ownBlock∧some k_≠(.slice Ao24 t268.length co24:Value).ownBlock) (fun _=>False) rfl rfl ?aP (fun _ hk=>hk.elim) ?aF ?aO ?aB ?aS ?aL ?_;(case aP=>exact rfl);(case aB=>exact z7_2);(case aF=>exact z7_18);(case aO=>exact z7_32);(case aS=>exact(Zt z7_2));(case aL=>have:=LMc22.out;omega);intro v275 w25 ho hb hg hat;rw[←Ny274.out] at ho;have n0_:=Za (Kd.R_after (ok:=(fun k_=>some k_≠(v266:Value).ownBlock∧some k_≠(.slice Ao24 t268.length co24:Value).ownBlock)) (by(with_reducible repeat(first|apply Zp|apply Zo|apply Zn));exact Yf HO_4.out (fun _ hk=>⟨⟨hk.2.1,hk.2.2⟩,hk.1⟩)) hg hat);have n1_:=Za (Kd.R_after (ok:=(fun k_=>some k_≠(.slice (some ad271) t262.length co23:Value).ownBlock∧some k_≠(.slice Ao24 t268.length co24:Value).ownBlock)) (by(with_reducible repeat(first|apply Zp|apply Zo|apply Zn));exact Yf HO_5.out (fun _ hk=>⟨⟨hk.2.1,hk.2.2⟩,hk.1⟩)) hg hat);have n2_:=Za (Kd.R_after (ok:=(fun k_=>some k_≠(.slice (some ad271) t262.length co23:Value).ownBlock∧some k_≠(v266:Value).ownBlock)) (by(with_reducible repeat(first|apply Zp|apply Zo|apply Zn));exact Yf HO_6.out (fun _ hk=>⟨⟨hk.2.1,hk.2.2⟩,hk.1⟩)) hg hat);have n3_:=Za (blk_grown (g:=gb257) (o:= .cells #[.slice A0_0 l0_0.length c0_0,.int .i64 a0_1,.int .i64 a0_2,.int .i64 a0_3] 55 (0,0)) z7_7 hg (Kd.R_ne HO_3.out BK257.out (by decide)));have n4_:=Za (hb);have n5_:=Za (ho);clear HO_4;clear HO_5;clear HO_6;clear BK257;clear HB;clear HO_3;have HO_4:=n0_;have HO_5:=n1_;have HO_6:=n2_;have BK257:=n3_;have HB:=n4_;have HO276:=n5_;clear n0_ n1_ n2_ n3_ n4_ n5_;clear ho hb hg hat))
        go_roundg k1
        case measure=>have:=HK1.out;omega
        case rel=>exact⟨(y274),(wrap64 (x7_1+1)),z7_15,H',⟨by have:=HK1.out;omega⟩,⟨by(with_reducible repeat(first|apply Zp|apply Zo|apply Zn));exact HO276.out⟩,⟨by(with_reducible repeat(first|apply Zp|apply Zo|apply Zn));exact Yf HO_4.out (fun _ hk=>⟨hk.2,⟨hk.1.1,hk.1.2⟩⟩)⟩,⟨by(with_reducible repeat(first|apply Zp|apply Zo|apply Zn));exact Yf HO_5.out (fun _ hk=>⟨hk.2,⟨hk.1.1,hk.1.2⟩⟩)⟩,⟨by(with_reducible repeat(first|apply Zp|apply Zo|apply Zn));exact Yf HO_6.out (fun _ hk=>⟨hk.2,⟨hk.1.1,hk.1.2⟩⟩)⟩,⟨by(with_reducible repeat(first|refine blk_drewN ?_ _|refine blk_drew ?_|refine blk_alloc ?_ _));exact BK257.out⟩,⟨by repeat(first|(with_reducible first|exact HB.out|apply Zh|apply Ze|apply Zd|refine Zg ?_ GE257.out)|exact HB.out)⟩⟩
       ·rw[if_neg c22] at H
        exact absurd H (by simp)
      ·replace c21:=Bool.eq_false_iff.mpr c21
       subst c21
       rw[if_neg (show ¬(false=true) by decide)] at H
       replace H:=Zl H
       obtain⟨t278,A260,H⟩:=H
       replace H:(if t278=true then (spec_MustLog.l0 k1 x3_1 t262 t265 t268 (wrap64 (x7_1+1))) else (if x3_1.length<17592186044416 then (spec_MustLog.l0 k1 (x3_1++[rd t262 x7_1]) t262 t265 t268 (wrap64 (x7_1+1))) else (none)))=some r:=H
       have A26:=Za A260
       clear A260
       by_cases c27:t278=true
       ·subst c27
        rw[if_pos rfl] at H
        have H':=Za H
        clear H
        obtain⟨Ao28,co28,eo28⟩:=Yp HO_4.out
        subst eo28
        have p271:0≤(x7_1:Int):=Zj z7_3
        have q271:x7_1<(t262.length:Int):=Zj z7_3
        obtain⟨ad271,e271,hx271_0⟩:=Kd.at_int (Yd HO_4.out).2.2 x7_1 p271 q271
        cases e271
        replace p271:=eq_true p271
        replace q271:=eq_true q271
        obtain⟨Ao29,co29,eo29⟩:=Yp HO_6.out
        subst eo29
        go_wp2_with (first|((first|((with_reducible refine gate_callee (f:=25) rfl ?_);refine goesL_ (some 32) rfl rfl Tryz.func25 z7_33 rfl #[.slice Ao29 t268.length co29,.int .i64 (rd t262 x7_1)] rfl z7_1 ?_;(with_reducible refine(spec_HasVar.calls k1 _ _ t268 (rd t262 x7_1) false _ ?side1 ?side2 A20.out).mono ?_))|(go_at_call 25;(with_reducible refine(spec_HasVar.calls k1 _ _ t268 (rd t262 x7_1) false _ ?side1 ?side2 A20.out).mono ?_)));(case side1=>exact z7_26);(case side2=>exact(Yd HO_6.out).2.1);rintro e w' ⟨rfl,⟨nd,rfl⟩⟩;(first|refine⟨_,rfl,?_⟩|skip);have p277:0≤(x7_1:Int):=Zj z7_3;have q277:x7_1<(t262.length:Int):=Zj z7_3;obtain⟨ad277,e277,hx277_0⟩:=Kd.at_int (Yd HO_4.out).2.2 x7_1 p277 q277;obtain rfl:ad271=ad277:=(by injection e277);replace p277:=eq_true p277;replace q277:=eq_true q277;obtain⟨Ao30,co30,eo30⟩:=Yp HO_5.out;subst eo30)|(go_at_call 25;(with_reducible refine(spec_HasVar.calls k1 _ _ t265 (rd t262 x7_1) true _ ?side1 ?side2 A26.out).mono ?_);(case side1=>repeat(first|exact(Yd HO_5.out).2.2|(with_reducible refine Yh ?_ _)|(with_reducible refine Ye ?_ _)|(with_reducible refine Yi ?_)));(case side2=>exact(Yd HO_5.out).2.1);rintro e w' ⟨rfl,⟨nd,rfl⟩⟩))
        go_roundg k1
        case measure=>have:=HK1.out;omega
        case rel=>exact⟨(x3_1),(wrap64 (x7_1+1)),z7_15,H',⟨by have:=HK1.out;omega⟩,⟨by(with_reducible repeat(first|apply Zp|apply Zo|apply Zn));exact HO_3.out⟩,⟨by(with_reducible repeat(first|apply Zp|apply Zo|apply Zn));exact HO_4.out⟩,⟨by(with_reducible repeat(first|apply Zp|apply Zo|apply Zn));exact HO_5.out⟩,⟨by(with_reducible repeat(first|apply Zp|apply Zo|apply Zn));exact HO_6.out⟩,⟨by(with_reducible repeat(first|refine blk_drewN ?_ _|refine blk_drew ?_|refine blk_alloc ?_ _));exact BK257.out⟩,⟨by repeat(first|(with_reducible first|exact HB.out|apply Zh|apply Ze|apply Zd|refine Zg ?_ GE257.out)|exact HB.out)⟩⟩
       ·replace c27:=Bool.eq_false_iff.mpr c27
        subst c27
        rw[if_neg (show ¬(false=true) by decide)] at H
        by_cases c31:x3_1.length<17592186044416
        ·rw[if_pos c31] at H
         have LMc31:=Za c31
         clear c31
         obtain⟨y280,hy280⟩:∃y_:List Int,y_=(x3_1++[rd t262 x7_1]):=⟨_,rfl⟩
         replace H:(spec_MustLog.l0 k1 y280 t262 t265 t268 (wrap64 (x7_1+1)))=some r:=by first|(rw[hy280];with_reducible exact H)|(have H2_:=(Yk _ _).symm.trans H;rw[hy280];with_reducible exact H2_)|(have H2_:=(Yk _ _).symm.trans H;with_reducible exact H2_)|with_reducible exact H|(rw[hy280];exact H)|exact H
         have Ny280:=Za hy280
         clear hy280
         have H':=Za H
         clear H
         obtain⟨Ao32,co32,eo32⟩:=Yp HO_4.out
         subst eo32
         have p271:0≤(x7_1:Int):=Zj z7_3
         have q271:x7_1<(t262.length:Int):=Zj z7_3
         obtain⟨ad271,e271,hx271_0⟩:=Kd.at_int (Yd HO_4.out).2.2 x7_1 p271 q271
         cases e271
         replace p271:=eq_true p271
         replace q271:=eq_true q271
         obtain⟨Ao33,co33,eo33⟩:=Yp HO_6.out
         subst eo33
         go_wp2_with (first|((first|((with_reducible refine gate_callee (f:=25) rfl ?_);refine goesL_ (some 32) rfl rfl Tryz.func25 z7_33 rfl #[.slice Ao33 t268.length co33,.int .i64 (rd t262 x7_1)] rfl z7_1 ?_;(with_reducible refine(spec_HasVar.calls k1 _ _ t268 (rd t262 x7_1) false _ ?side1 ?side2 A20.out).mono ?_))|(go_at_call 25;(with_reducible refine(spec_HasVar.calls k1 _ _ t268 (rd t262 x7_1) false _ ?side1 ?side2 A20.out).mono ?_)));(case side1=>exact z7_26);(case side2=>exact(Yd HO_6.out).2.1);rintro e w' ⟨rfl,⟨nd,rfl⟩⟩;(first|refine⟨_,rfl,?_⟩|skip);have p277:0≤(x7_1:Int):=Zj z7_3;have q277:x7_1<(t262.length:Int):=Zj z7_3;obtain⟨ad277,e277,hx277_0⟩:=Kd.at_int (Yd HO_4.out).2.2 x7_1 p277 q277;obtain rfl:ad271=ad277:=(by injection e277);replace p277:=eq_true p277;replace q277:=eq_true q277;obtain⟨Ao34,co34,eo34⟩:=Yp HO_5.out;subst eo34)|(go_at_call 25;(with_reducible refine(spec_HasVar.calls k1 _ _ t265 (rd t262 x7_1) false _ ?side1 ?side2 A26.out).mono ?_);(case side1=>repeat(first|exact(Yd HO_5.out).2.2|(with_reducible refine Yh ?_ _)|(with_reducible refine Ye ?_ _)|(with_reducible refine Yi ?_)));(case side2=>exact(Yd HO_5.out).2.1);rintro e w' ⟨rfl,⟨nd,rfl⟩⟩;have p279:0≤(x7_1:Int):=Zj z7_3;have q279:x7_1<(t262.length:Int):=Zj z7_3;obtain⟨ad279,e279,hx279_0⟩:=Kd.at_int (Yd HO_4.out).2.2 x7_1 p279 q279;obtain rfl:ad271=ad279:=(by injection e279);replace p279:=eq_true p279;replace q279:=eq_true q279)|((with_reducible refine gate_builtin (b:= .append) (xs:= #[.tmp 42,.tmp 47]) rfl ?_);at_builtin;refine Kd.R_append (Kd.int .i64) (w0:=w) w.heap.size rfl (.tmp 42) (.tmp 47) 25 3 (.int .i64 0) 8 rfl Tryz.underlying25 info3 rfl (by decide) (by omega) u3 x3_1 (rd t262 x7_1) [.int .i64 (rd t262 x7_1)] (fun k_=>some k_≠(.slice (some ad271) t262.length co32:Value).ownBlock∧some k_≠(.slice Ao34 t265.length co34:Value).ownBlock∧some k_≠(.slice Ao33 t268.length co33:Value).ownBlock) (fun _=>False) rfl rfl ?aP (fun _ hk=>hk.elim) ?aF ?aO ?aB ?aS ?aL ?_;(case aP=>exact rfl);(case aB=>exact z7_2);(case aF=>exact z7_18);(case aO=>exact z7_32);(case aS=>exact(Zt z7_2));(case aL=>have:=LMc31.out;omega);intro v281 w35 ho hb hg hat;rw[←Ny280.out] at ho;have n0_:=Za (Kd.R_after (ok:=(fun k_=>some k_≠(.slice Ao34 t265.length co34:Value).ownBlock∧some k_≠(.slice Ao33 t268.length co33:Value).ownBlock)) (by(with_reducible repeat(first|apply Zp|apply Zo|apply Zn));exact Yf HO_4.out (fun _ hk=>⟨⟨hk.2.1,hk.2.2⟩,hk.1⟩)) hg hat);have n1_:=Za (Kd.R_after (ok:=(fun k_=>some k_≠(.slice (some ad271) t262.length co32:Value).ownBlock∧some k_≠(.slice Ao33 t268.length co33:Value).ownBlock)) (by(with_reducible repeat(first|apply Zp|apply Zo|apply Zn));exact Yf HO_5.out (fun _ hk=>⟨⟨hk.2.1,hk.2.2⟩,hk.1⟩)) hg hat);have n2_:=Za (Kd.R_after (ok:=(fun k_=>some k_≠(.slice (some ad271) t262.length co32:Value).ownBlock∧some k_≠(.slice Ao34 t265.length co34:Value).ownBlock)) (by(with_reducible repeat(first|apply Zp|apply Zo|apply Zn));exact Yf HO_6.out (fun _ hk=>⟨⟨hk.2.1,hk.2.2⟩,hk.1⟩)) hg hat);have n3_:=Za (blk_grown (g:=gb257) (o:= .cells #[.slice A0_0 l0_0.length c0_0,.int .i64 a0_1,.int .i64 a0_2,.int .i64 a0_3] 55 (0,0)) z7_7 hg (Kd.R_ne HO_3.out BK257.out (by decide)));have n4_:=Za (hb);have n5_:=Za (ho);clear HO_4;clear HO_5;clear HO_6;clear BK257;clear HB;clear HO_3;have HO_4:=n0_;have HO_5:=n1_;have HO_6:=n2_;have BK257:=n3_;have HB:=n4_;have HO282:=n5_;clear n0_ n1_ n2_ n3_ n4_ n5_;clear ho hb hg hat))
         go_roundg k1
         case measure=>have:=HK1.out;omega
         case rel=>exact⟨(y280),(wrap64 (x7_1+1)),z7_15,H',⟨by have:=HK1.out;omega⟩,⟨by(with_reducible repeat(first|apply Zp|apply Zo|apply Zn));exact HO282.out⟩,⟨by(with_reducible repeat(first|apply Zp|apply Zo|apply Zn));exact Yf HO_4.out (fun _ hk=>⟨hk.2,⟨hk.1.1,hk.1.2⟩⟩)⟩,⟨by(with_reducible repeat(first|apply Zp|apply Zo|apply Zn));exact Yf HO_5.out (fun _ hk=>⟨hk.2,⟨hk.1.1,hk.1.2⟩⟩)⟩,⟨by(with_reducible repeat(first|apply Zp|apply Zo|apply Zn));exact Yf HO_6.out (fun _ hk=>⟨hk.2,⟨hk.1.1,hk.1.2⟩⟩)⟩,⟨by(with_reducible repeat(first|refine blk_drewN ?_ _|refine blk_drew ?_|refine blk_alloc ?_ _));exact BK257.out⟩,⟨by repeat(first|(with_reducible first|exact HB.out|apply Zh|apply Ze|apply Zd|refine Zg ?_ GE257.out)|exact HB.out)⟩⟩
        ·rw[if_neg c31] at H
         exact absurd H (by simp)
     ·rw[if_neg c19] at H
      exact absurd H (by simp)
    ·rw[if_neg c18] at H
     have c18b0:decide (x7_1<(t262.length:Int))=false:=Yg c18
     clear c18
     obtain rfl:=Zm H
     obtain⟨Ao36,co36,eo36⟩:=Yp HO_4.out
     subst eo36
     go_wp2
     go_ret
     exact⟨_,by first|rfl|(simp[errW_none,errW_some]<;>rfl)|(simp[*,errW_none,errW_some]<;>rfl)|(simp[*,errW_none,errW_some,i64_w];done),by(with_reducible repeat(first|apply Zp|apply Zo|apply Zn));exact Yf HO_3.out (fun _ hk=>trivial),by repeat(first|(with_reducible first|exact HB.out|apply Zh|apply Ze|apply Zd|refine Zg ?_ GE257.out)|exact HB.out)⟩
 ·replace c3:=Bool.eq_false_iff.mpr c3
  subst c3
  rw[if_neg (show ¬(false=true) by decide)] at H
  obtain rfl:=Zm H
  go_enter Tryz.func24,Tryz.ntmps24
  go_wp2_with (first|((with_reducible refine Zr (N:=1) rfl ?_);refine Zs ?hg (N:=1) ?hd (cs:= #[.slice A0_0 l0_0.length c0_0,.int .i64 a0_1,.int .i64 a0_2,.int .i64 a0_3]) (t:=55) ?hr ?_;(case hd=>rfl);(case hg=>rfl);(case hr=>exact z7_6);intro gb257 hg w37 hbox hb;have BK257:=Za (hbox);have GW257:=Za ((z7_36:w.heap.size≤gb257));have GE257:=Za ((z7_36:w.heap.size≤gb257));replace HB:=Za (Zi z7_0 hb);clear hb hbox hg)|((with_reducible refine Zr (N:=8) rfl ?_);refine Kd.R_lit (Kd.int .i64) _ 3 ?hg (N:=8) ?hd (xs:=([]:List Int)) (inner:=[]) (ok:=fun _=>True) (okp:=fun _=>True) ?hr ?hp (fun _ hk=>hk) trivial (Yc _ _) (Nat.le_refl _) (by simp) ?_;(case hd=>rfl);(case hg=>rfl);(case hr=>exact z7_6);(case hp=>exact(Reps.none _ _));intro v259 w38 ho39 hb hg_ hnew_;clear hg_ hnew_;(first|rw[←Ny258.out] at ho39|(simp only[Int.reduceToNat] at ho39;rw[←Ny258.out] at ho39));have HO260:=Za (Yq ho39 (Zt z7_2));replace BK257:=Za (Zk (g:=gb257) (o:= .cells #[.slice A0_0 l0_0.length c0_0,.int .i64 a0_1,.int .i64 a0_2,.int .i64 a0_3] 55 (0,0)) z7_7 hb);replace HB:=Za (Zi z7_2 hb);clear hb ho39;have hcz40_0:w38.cell? ⟨gb257,0,none⟩=some (.slice A0_0 l0_0.length c0_0):=(Zb BK257.out 0).trans rfl;have hcz40_1:w38.cell? ⟨gb257,1,none⟩=some (.int .i64 a0_1):=(Zb BK257.out 1).trans rfl;have hcz40_2:w38.cell? ⟨gb257,2,none⟩=some (.int .i64 a0_2):=(Zb BK257.out 2).trans rfl;have hcz40_3:w38.cell? ⟨gb257,3,none⟩=some (.int .i64 a0_3):=(Zb BK257.out 3).trans rfl;have hfz40_0:=Zc BK257.out 0;have hfz40_1:=Zc BK257.out 1;have hfz40_2:=Zc BK257.out 2;have hfz40_3:=Zc BK257.out 3)|((first|((with_reducible refine gate_callee (f:=53) rfl ?_);refine goesL_ (some 10) rfl rfl Tryz.func53 z7_33 rfl #[.agg #[.slice A0_0 l0_0.length c0_0,.int .i64 a0_1,.int .i64 a0_2,.int .i64 a0_3]] rfl z7_1 ?_;(with_reducible refine(spec_l08Ok.calls k _ _ l0_0 a0_1 a0_2 a0_3 false _ ?side1 ?side2 A2.out).mono ?_))|(go_at_call 53;(with_reducible refine(spec_l08Ok.calls k _ _ l0_0 a0_1 a0_2 a0_3 false _ ?side1 ?side2 A2.out).mono ?_)));(case side1=>exact z7_5);(case side2=>exact HC0_0.out);rintro e w41 ⟨rfl,hb⟩;(first|refine⟨_,rfl,?_⟩|skip);replace HO260:=Za (Kd.R_below z7_8 hb);replace BK257:=Za (Zk (g:=gb257) (o:= .cells #[.slice A0_0 l0_0.length c0_0,.int .i64 a0_1,.int .i64 a0_2,.int .i64 a0_3] 55 (0,0)) z7_7 hb);replace HB:=Za (Zi z7_2 hb);(try clear hb);(try clear hb2);(try clear hk);(try clear hi)))
  go_ret
  exact⟨_,by first|rfl|(simp[errW_none,errW_some]<;>rfl)|(simp[*,errW_none,errW_some]<;>rfl)|(simp[*,errW_none,errW_some,i64_w];done),by(with_reducible repeat(first|apply Zp|apply Zo|apply Zn));exact HO260.out,by repeat(first|(with_reducible first|exact HB.out|apply Zh|apply Ze|apply Zd|refine Zg ?_ GE257.out)|exact HB.out)⟩
def spec_DirtyVars.l0:Nat→List Int→List Int→List Int→Int→Option (List Int)
 |0,_,_,_,_=>none
 |k+1,x5,x9,x10,x11=>if x11<(x9.length:Int) then (if 0≤x11 then ((spec_HasVar.f k x10 (rd x9 x11)).bind fun t301=>(if t301=true then (spec_DirtyVars.l0 k x5 x9 x10 (wrap64 (x11+1))) else (if x5.length<17592186044416 then (spec_DirtyVars.l0 k (x5++[rd x9 x11]) x9 x10 (wrap64 (x11+1))) else (none)))) else (none)) else (some x5)
def spec_DirtyVars.f (k:Nat) (l0_0:List (S55)) (l1:List Int):Option (List Int):=(some (([]:List Int):List Int)).bind fun y284=>((spec_MemOk.f k l0_0 l1).bind fun t287=>(if t287=true then (if 8<(l1.length:Int) then ((spec_UnpackControl.f k (rd l1 8)).bind fun bt289=>(if 0≤bt289.1 then (if bt289.1<(l0_0.length:Int) then ((spec_MayWrite.f k ((rd_T55 l0_0 bt289.1).f0)).bind fun t293=>((spec_MustLog.f k ((rd_T55 l0_0 bt289.1).f0) ((rd_T55 l0_0 bt289.1).f1.f0) ((rd_T55 l0_0 bt289.1).f1.f1) ((rd_T55 l0_0 bt289.1).f1.f2)).bind fun t297=>(spec_DirtyVars.l0 k y284 t293 t297 0))) else (none)) else (none))) else (none)) else (some y284)))
set_option maxHeartbeats 8000000 in
set_option maxRecDepth 100000 in
theorem spec_DirtyVars.calls (k:Nat) (A0_0:Option Addr) (c0_0:Nat) (l0_0:List (S55)) (A1:Option Addr) (c1:Nat) (l1:List Int) (r:List Int) (w:World) (hr0_0:Kd.C k55 w A0_0 l0_0.length l0_0) (hc0_0:l0_0.length≤c0_0) (hr1:Kd.C (Kd.int .i64) w A1 l1.length l1) (hc1:l1.length≤c1) (h:spec_DirtyVars.f k l0_0 l1=some r):
  Calls Tryz.prog 6 #[.agg #[.slice A0_0 l0_0.length c0_0],.slice A1 l1.length c1] w fun e w'=>∃v0_:Value,e= .returned (v0_)∧Kd.R (Kd.int .i64) 3 w' w.heap.size (fun _=>True) v0_ r∧Below w.heap.size w w':=by
 have hu30:=Tryz.underlying30
 have hu55:=Tryz.underlying55
 have HR0_0:=Za hr0_0
 have HC0_0:=Za hc0_0
 clear hr0_0 hc0_0
 have HR1:=Za hr1
 have HC1:=Za hc1
 clear hr1 hc1
 have HB:=Za (Yc w.heap.size w)
 have H:((some (([]:List Int):List Int)).bind fun y284=>((spec_MemOk.f k l0_0 l1).bind fun t287=>(if t287=true then (if 8<(l1.length:Int) then ((spec_UnpackControl.f k (rd l1 8)).bind fun bt289=>(if 0≤bt289.1 then (if bt289.1<(l0_0.length:Int) then ((spec_MayWrite.f k ((rd_T55 l0_0 bt289.1).f0)).bind fun t293=>((spec_MustLog.f k ((rd_T55 l0_0 bt289.1).f0) ((rd_T55 l0_0 bt289.1).f1.f0) ((rd_T55 l0_0 bt289.1).f1.f1) ((rd_T55 l0_0 bt289.1).f1.f2)).bind fun t297=>(spec_DirtyVars.l0 k y284 t293 t297 0))) else (none)) else (none))) else (none)) else (some y284))))=some r:=h
 clear h
 obtain⟨y284,hy284⟩:∃y_:List Int,y_=(([]:List Int)):=⟨_,rfl⟩
 replace H:((spec_MemOk.f k l0_0 l1).bind fun t287=>(if t287=true then (if 8<(l1.length:Int) then ((spec_UnpackControl.f k (rd l1 8)).bind fun bt289=>(if 0≤bt289.1 then (if bt289.1<(l0_0.length:Int) then ((spec_MayWrite.f k ((rd_T55 l0_0 bt289.1).f0)).bind fun t293=>((spec_MustLog.f k ((rd_T55 l0_0 bt289.1).f0) ((rd_T55 l0_0 bt289.1).f1.f0) ((rd_T55 l0_0 bt289.1).f1.f1) ((rd_T55 l0_0 bt289.1).f1.f2)).bind fun t297=>(spec_DirtyVars.l0 k y284 t293 t297 0))) else (none)) else (none))) else (none)) else (some y284)))=some r:=by first|(rw[hy284];with_reducible exact H)|(have H2_:=(Yk _ _).symm.trans H;rw[hy284];with_reducible exact H2_)|(have H2_:=(Yk _ _).symm.trans H;with_reducible exact H2_)|with_reducible exact H|(rw[hy284];exact H)|exact H
 have Ny284:=Za hy284
 clear hy284
 replace H:=Zl H
 obtain⟨t287,A30,H⟩:=H
 replace H:(if t287=true then (if 8<(l1.length:Int) then ((spec_UnpackControl.f k (rd l1 8)).bind fun bt289=>(if 0≤bt289.1 then (if bt289.1<(l0_0.length:Int) then ((spec_MayWrite.f k ((rd_T55 l0_0 bt289.1).f0)).bind fun t293=>((spec_MustLog.f k ((rd_T55 l0_0 bt289.1).f0) ((rd_T55 l0_0 bt289.1).f1.f0) ((rd_T55 l0_0 bt289.1).f1.f1) ((rd_T55 l0_0 bt289.1).f1.f2)).bind fun t297=>(spec_DirtyVars.l0 k y284 t293 t297 0))) else (none)) else (none))) else (none)) else (some y284))=some r:=H
 have A3:=Za A30
 clear A30
 by_cases c4:t287=true
 ·subst c4
  rw[if_pos rfl] at H
  by_cases c5:8<(l1.length:Int)
  ·rw[if_pos c5] at H
   have c5b0:decide (8<(l1.length:Int))=true:=Zq c5
   have c5b1:decide (8<l1.length)=true:=Zq (by omega)
   clear c5
   replace H:=Zl H
   obtain⟨⟨t289,t290,t291⟩,A60,H⟩:=H
   replace H:(if 0≤t289 then (if t289<(l0_0.length:Int) then ((spec_MayWrite.f k ((rd_T55 l0_0 t289).f0)).bind fun t293=>((spec_MustLog.f k ((rd_T55 l0_0 t289).f0) ((rd_T55 l0_0 t289).f1.f0) ((rd_T55 l0_0 t289).f1.f1) ((rd_T55 l0_0 t289).f1.f2)).bind fun t297=>(spec_DirtyVars.l0 k y284 t293 t297 0))) else (none)) else (none))=some r:=H
   have A6:=Za A60
   clear A60
   by_cases c7:0≤t289
   ·rw[if_pos c7] at H
    have c7b0:decide (0≤t289)=true:=Zq c7
    clear c7
    by_cases c8:t289<(l0_0.length:Int)
    ·rw[if_pos c8] at H
     have c8b0:decide (t289<(l0_0.length:Int))=true:=Zq c8
     clear c8
     replace H:=Zl H
     obtain⟨t293,A90,H⟩:=H
     replace H:((spec_MustLog.f k ((rd_T55 l0_0 t289).f0) ((rd_T55 l0_0 t289).f1.f0) ((rd_T55 l0_0 t289).f1.f1) ((rd_T55 l0_0 t289).f1.f2)).bind fun t297=>(spec_DirtyVars.l0 k y284 t293 t297 0))=some r:=H
     have A9:=Za A90
     clear A90
     replace H:=Zl H
     obtain⟨t297,A100,H⟩:=H
     replace H:(spec_DirtyVars.l0 k y284 t293 t297 0)=some r:=H
     have A10:=Za A100
     clear A100
     have H':=Za H
     clear H
     go_enter Tryz.func6,Tryz.ntmps6
     go_wp2_with (first|((with_reducible refine Zr (N:=2) rfl ?_);refine Zs ?hg (N:=2) ?hd (cs:= #[.slice A0_0 l0_0.length c0_0]) (t:=30) ?hr ?_;(case hd=>rfl);(case hg=>rfl);(case hr=>exact z7_6);intro gb283 hg w11 hbox hb;have BK283:=Za (hbox);have GW283:=Za ((z7_36:w.heap.size≤gb283));have GE283:=Za ((z7_36:w.heap.size≤gb283));replace HB:=Za (Zi z7_0 hb);clear hb hbox hg)|((with_reducible refine Zr (N:=12) rfl ?_);refine Kd.R_lit (Kd.int .i64) _ 3 ?hg (N:=12) ?hd (xs:=([]:List Int)) (inner:=[]) (ok:=fun _=>True) (okp:=fun _=>True) ?hr ?hp (fun _ hk=>hk) trivial (Yc _ _) (Nat.le_refl _) (by simp) ?_;(case hd=>rfl);(case hg=>rfl);(case hr=>exact z7_6);(case hp=>exact(Reps.none _ _));intro v285 w12 ho13 hb hg_ hnew_;clear hg_ hnew_;(first|rw[←Ny284.out] at ho13|(simp only[Int.reduceToNat] at ho13;rw[←Ny284.out] at ho13));have HO286:=Za (Yq ho13 (Zt z7_4));replace BK283:=Za (Zk (g:=gb283) (o:= .cells #[.slice A0_0 l0_0.length c0_0] 30 (0,0)) z7_11 hb);replace HB:=Za (Zi z7_4 hb);clear hb ho13;have hcz14_0:w12.cell? ⟨gb283,0,none⟩=some (.slice A0_0 l0_0.length c0_0):=(Zb BK283.out 0).trans rfl;have hfz14_0:=Zc BK283.out 0)|((first|((with_reducible refine gate_callee (f:=21) rfl ?_);refine goesL_ (some 15) rfl rfl Tryz.func21 z7_33 rfl #[.agg #[.slice A0_0 l0_0.length c0_0],.slice A1 l1.length c1] rfl z7_1 ?_;(with_reducible refine(spec_MemOk.calls k _ _ l0_0 _ _ l1 true _ ?side1 ?side2 ?side3 ?side4 A3.out).mono ?_))|(go_at_call 21;(with_reducible refine(spec_MemOk.calls k _ _ l0_0 _ _ l1 true _ ?side1 ?side2 ?side3 ?side4 A3.out).mono ?_)));(case side1=>exact z7_5);(case side2=>exact HC0_0.out);(case side3=>repeat(first|exact(Yj HR1.out HB.out)|(with_reducible refine Yh ?_ _)|(with_reducible refine Ye ?_ _)|(with_reducible refine Yi ?_)));(case side4=>exact HC1.out);rintro e w15 ⟨rfl,hb⟩;(first|refine⟨_,rfl,?_⟩|skip);replace HO286:=Za (Kd.R_below z7_16 hb);replace BK283:=Za (Zk (g:=gb283) (o:= .cells #[.slice A0_0 l0_0.length c0_0] 30 (0,0)) z7_11 hb);replace HB:=Za (Zi z7_4 hb);(try clear hb);(try clear hb2);(try clear hk);(try clear hi);have p288:0≤(8:Int):=(by omega);have q288:8<(l1.length:Int):=Zj z7_3;obtain⟨ad288,e288,hx288_0⟩:=Kd.at_int HR1.out 8 p288 q288;cases e288;(try simp only[show(8:Int).toNat=8 from rfl,Nat.reduceMul,Nat.reduceEqDiff,Go.Addr.add,↓reduceIte] at hx288_0);have qi288:(8<l1.length)=True:=eq_true (by omega);(try rw[show((8:Int)).toNat=8 from rfl] at hx288_0);replace hx288_0:=(HB.out.cell (Zf w _ hx288_0)).trans hx288_0;replace p288:=eq_true p288;replace q288:=eq_true q288)|((first|((with_reducible refine gate_callee (f:=22) rfl ?_);refine goesL_ (some 22) rfl rfl Tryz.func22 z7_33 rfl #[.int .i64 (rd l1 8)] rfl z7_1 ?_;(with_reducible refine(spec_UnpackControl.calls k (rd l1 8) t289 t290 t291 _ A6.out).mono ?_))|(go_at_call 22;(with_reducible refine(spec_UnpackControl.calls k (rd l1 8) t289 t290 t291 _ A6.out).mono ?_)));rintro e w' ⟨rfl,⟨nd,rfl⟩⟩;(first|refine⟨_,rfl,?_⟩|skip);have hcz16_0:w15.cell? ⟨gb283,0,none⟩=some (.slice A0_0 l0_0.length c0_0):=(Zb BK283.out 0).trans rfl;have hfz16_0:=Zc BK283.out 0;have p292:0≤(t289:Int):=Zj z7_3;have q292:t289<(l0_0.length:Int):=Zj z7_3;obtain⟨ad292,A292_0,c292_0,e292,hx292_0,hx292_1,hx292_2,hx292_3,hl292_0,hi292_0⟩:=at_T55 HR0_0.out t289 p292 q292;cases e292;replace hx292_0:=(HB.out.cell (Zf w _ hx292_0)).trans hx292_0;replace hx292_1:=(HB.out.cell (Zf w _ hx292_1)).trans hx292_1;replace hx292_2:=(HB.out.cell (Zf w _ hx292_2)).trans hx292_2;replace hx292_3:=(HB.out.cell (Zf w _ hx292_3)).trans hx292_3;have HR292_0:=Za hi292_0;have HC292_0:=Za hl292_0;clear hi292_0 hl292_0;replace p292:=eq_true p292;replace q292:=eq_true q292)|((first|((with_reducible refine gate_callee (f:=23) rfl ?_);refine goesL_ (some 32) rfl rfl Tryz.func23 z7_33 rfl #[.slice A292_0 ((rd_T55 l0_0 t289).f0).length c292_0] rfl z7_1 ?_;(with_reducible refine(spec_MayWrite.calls k _ _ ((rd_T55 l0_0 t289).f0) t293 _ ?side1 ?side2 A9.out).mono ?_))|(go_at_call 23;(with_reducible refine(spec_MayWrite.calls k _ _ ((rd_T55 l0_0 t289).f0) t293 _ ?side1 ?side2 A9.out).mono ?_)));(case side1=>repeat(first|exact(Yj HR292_0.out z7_4)|(with_reducible refine Yh ?_ _)|(with_reducible refine Ye ?_ _)|(with_reducible refine Yi ?_)));(case side2=>exact HC292_0.out);rintro e w17 ⟨v294,rfl,ho0,hb⟩;(first|refine⟨_,rfl,?_⟩|skip);have HO295:=Za (Yq (Kd.R_new' ho0 (Kd.R_lt z7_16)) (Zt z7_4));replace HO286:=Za (Yr z7_16 (Yo ho0) hb);replace BK283:=Za (Zk (g:=gb283) (o:= .cells #[.slice (some ad292) l0_0.length c0_0] 30 (0,0)) z7_11 hb);replace HB:=Za (Zi z7_4 hb);(try clear hb);(try clear hb2);(try clear hk);(try clear hi);(try clear ho0);have hcz18_0:w17.cell? ⟨gb283,0,none⟩=some (.slice (some ad292) l0_0.length c0_0):=(Zb BK283.out 0).trans rfl;have hfz18_0:=Zc BK283.out 0;have p296:0≤(t289:Int):=Zj z7_3;have q296:t289<(l0_0.length:Int):=Zj z7_3;obtain⟨ad296,A296_0,c296_0,e296,hx296_0,hx296_1,hx296_2,hx296_3,hl296_0,hi296_0⟩:=at_T55 HR0_0.out t289 p296 q296;obtain rfl:ad292=ad296:=(by injection e296);replace hx296_0:=(HB.out.cell (Zf w _ hx296_0)).trans hx296_0;replace hx296_1:=(HB.out.cell (Zf w _ hx296_1)).trans hx296_1;replace hx296_2:=(HB.out.cell (Zf w _ hx296_2)).trans hx296_2;replace hx296_3:=(HB.out.cell (Zf w _ hx296_3)).trans hx296_3;have HR296_0:=Za hi296_0;have HC296_0:=Za hl296_0;clear hi296_0 hl296_0;replace p296:=eq_true p296;replace q296:=eq_true q296)|((first|((with_reducible refine gate_callee (f:=24) rfl ?_);refine goesL_ (some 38) rfl rfl Tryz.func24 z7_33 rfl #[.agg #[.slice A296_0 ((rd_T55 l0_0 t289).f0).length c296_0,.int .i64 ((rd_T55 l0_0 t289).f1.f0),.int .i64 ((rd_T55 l0_0 t289).f1.f1),.int .i64 ((rd_T55 l0_0 t289).f1.f2)]] rfl z7_1 ?_;(with_reducible refine(spec_MustLog.calls k _ _ ((rd_T55 l0_0 t289).f0) ((rd_T55 l0_0 t289).f1.f0) ((rd_T55 l0_0 t289).f1.f1) ((rd_T55 l0_0 t289).f1.f2) t297 _ ?side1 ?side2 A10.out).mono ?_))|(go_at_call 24;(with_reducible refine(spec_MustLog.calls k _ _ ((rd_T55 l0_0 t289).f0) ((rd_T55 l0_0 t289).f1.f0) ((rd_T55 l0_0 t289).f1.f1) ((rd_T55 l0_0 t289).f1.f2) t297 _ ?side1 ?side2 A10.out).mono ?_)));(case side1=>repeat(first|exact(Yj HR296_0.out HB.out)|(with_reducible refine Yh ?_ _)|(with_reducible refine Ye ?_ _)|(with_reducible refine Yi ?_)));(case side2=>exact HC296_0.out);rintro e w19 ⟨v298,rfl,ho0,hb⟩;(first|refine⟨_,rfl,?_⟩|skip);have HO299:=Za (Yq (Kd.R_new' (Kd.R_new' ho0 (Kd.R_lt z7_16)) (Kd.R_lt (by(with_reducible repeat(first|apply Zp|apply Zo|apply Zn));exact HO295.out))) (Zt z7_4));replace HO286:=Za (Yr z7_16 (Yo ho0) hb);replace HO295:=Za (Yr (by(with_reducible repeat(first|apply Zp|apply Zo|apply Zn));exact HO295.out) (Yo ho0) hb);replace BK283:=Za (Zk (g:=gb283) (o:= .cells #[.slice (some ad292) l0_0.length c0_0] 30 (0,0)) z7_11 hb);replace HB:=Za (Zi z7_4 hb);(try clear hb);(try clear hb2);(try clear hk);(try clear hi);(try clear ho0)))
     go_loopg [5,11] k (fun kq v5 v11 w'=>∃(x5_1:List Int) (x11_1:Int),v11= .int .i64 x11_1∧Aside0 (spec_DirtyVars.l0 kq x5_1 t293 t297 x11_1=some r)∧Aside0 (kq≤k)∧Aside0 (Kd.R (Kd.int .i64) 3 w' w.heap.size (fun k_=>some k_≠(v294:Value).ownBlock∧some k_≠(v298:Value).ownBlock) v5 x5_1)∧Aside0 (Kd.R (Kd.int .i64) 3 w' w.heap.size (fun k_=>some k_≠(v5:Value).ownBlock∧some k_≠(v298:Value).ownBlock) v294 t293)∧Aside0 (Kd.R (Kd.int .i64) 3 w' w.heap.size (fun k_=>some k_≠(v5:Value).ownBlock∧some k_≠(v294:Value).ownBlock) v298 t297)∧Aside0 (w'.heap[gb283]? =some (.cells #[(.slice (some ad292) l0_0.length c0_0)] 30 (0,0)))∧Aside0 (Below w.heap.size w w'))
     case atStart=>exact⟨(y284),(0),z7_15,H',⟨Nat.le_refl _⟩,⟨by(with_reducible repeat(first|apply Zp|apply Zo|apply Zn));exact Yf HO286.out (fun _ hk=>⟨hk.1.2,hk.2⟩)⟩,⟨by(with_reducible repeat(first|apply Zp|apply Zo|apply Zn));exact Yf HO295.out (fun _ hk=>⟨hk.1.2,hk.2⟩)⟩,⟨by(with_reducible repeat(first|apply Zp|apply Zo|apply Zn));exact Yf HO299.out (fun _ hk=>⟨hk.1.2,hk.2⟩)⟩,⟨by(with_reducible repeat(first|refine blk_drewN ?_ _|refine blk_drew ?_|refine blk_alloc ?_ _));exact BK283.out⟩,⟨by repeat(first|(with_reducible first|exact HB.out|apply Zh|apply Ze|apply Zd|refine Zg ?_ GE283.out)|exact HB.out)⟩⟩
     case round=>
      clear H'
      (try clear c1);(try clear c4);(try clear c5);(try clear c5b0);(try clear c5b1);(try clear c7);(try clear c7b0);(try clear c8);(try clear c8b0);(try clear hcz14_0);(try clear hcz16_0);(try clear hcz18_0);(try clear hfz14_0);(try clear hfz16_0);(try clear hfz18_0);(try clear hx288_0);(try clear hx292_0);(try clear hx292_1);(try clear hx292_2);(try clear hx292_3);(try clear hx296_0);(try clear hx296_1);(try clear hx296_2);(try clear hx296_3);(try clear p288);(try clear p292);(try clear p296);(try clear q288);(try clear q292);(try clear q296)
      obtain⟨x5_1,x11_1,rfl,HA,HK1,HO_5,HO_9,HO_10,BK283,HB⟩:=hrel
      cases gk with
      |zero=>exact absurd HA.out (by simp[spec_DirtyVars.l0])
      |succ k1=>
       have H:=HA.out
       clear HA
       simp only[spec_DirtyVars.l0] at H
       by_cases c20:x11_1<(t293.length:Int)
       ·rw[if_pos c20] at H
        have c20b0:decide (x11_1<(t293.length:Int))=true:=Zq c20
        clear c20
        by_cases c21:0≤x11_1
        ·rw[if_pos c21] at H
         have c21b0:decide (0≤x11_1)=true:=Zq c21
         clear c21
         replace H:=Zl H
         obtain⟨t301,A220,H⟩:=H
         replace H:(if t301=true then (spec_DirtyVars.l0 k1 x5_1 t293 t297 (wrap64 (x11_1+1))) else (if x5_1.length<17592186044416 then (spec_DirtyVars.l0 k1 (x5_1++[rd t293 x11_1]) t293 t297 (wrap64 (x11_1+1))) else (none)))=some r:=H
         have A22:=Za A220
         clear A220
         by_cases c23:t301=true
         ·subst c23
          rw[if_pos rfl] at H
          have H':=Za H
          clear H
          obtain⟨Ao24,co24,eo24⟩:=Yp HO_9.out
          subst eo24
          have p300:0≤(x11_1:Int):=Zj z7_3
          have q300:x11_1<(t293.length:Int):=Zj z7_3
          obtain⟨ad300,e300,hx300_0⟩:=Kd.at_int (Yd HO_9.out).2.2 x11_1 p300 q300
          cases e300
          replace p300:=eq_true p300
          replace q300:=eq_true q300
          obtain⟨Ao25,co25,eo25⟩:=Yp HO_10.out
          subst eo25
          go_wp2_with (first|((first|((with_reducible refine gate_callee (f:=25) rfl ?_);refine goesL_ (some 50) rfl rfl Tryz.func25 z7_33 rfl #[.slice Ao25 t297.length co25,.int .i64 (rd t293 x11_1)] rfl z7_1 ?_;(with_reducible refine(spec_HasVar.calls k1 _ _ t297 (rd t293 x11_1) true _ ?side1 ?side2 A22.out).mono ?_))|(go_at_call 25;(with_reducible refine(spec_HasVar.calls k1 _ _ t297 (rd t293 x11_1) true _ ?side1 ?side2 A22.out).mono ?_)));(case side1=>repeat(first|exact(Yd HO_10.out).2.2|(with_reducible refine Yh ?_ _)|(with_reducible refine Ye ?_ _)|(with_reducible refine Yi ?_)));(case side2=>exact(Yd HO_10.out).2.1);rintro e w' ⟨rfl,⟨nd,rfl⟩⟩;(first|refine⟨_,rfl,?_⟩|skip)))
          go_roundg k1
          case measure=>have:=HK1.out;omega
          case rel=>exact⟨(x5_1),(wrap64 (x11_1+1)),z7_15,H',⟨by have:=HK1.out;omega⟩,⟨by(with_reducible repeat(first|apply Zp|apply Zo|apply Zn));exact HO_5.out⟩,⟨by(with_reducible repeat(first|apply Zp|apply Zo|apply Zn));exact HO_9.out⟩,⟨by(with_reducible repeat(first|apply Zp|apply Zo|apply Zn));exact HO_10.out⟩,⟨by(with_reducible repeat(first|refine blk_drewN ?_ _|refine blk_drew ?_|refine blk_alloc ?_ _));exact BK283.out⟩,⟨by repeat(first|(with_reducible first|exact HB.out|apply Zh|apply Ze|apply Zd|refine Zg ?_ GE283.out)|exact HB.out)⟩⟩
         ·replace c23:=Bool.eq_false_iff.mpr c23
          subst c23
          rw[if_neg (show ¬(false=true) by decide)] at H
          by_cases c26:x5_1.length<17592186044416
          ·rw[if_pos c26] at H
           have LMc26:=Za c26
           clear c26
           obtain⟨y303,hy303⟩:∃y_:List Int,y_=(x5_1++[rd t293 x11_1]):=⟨_,rfl⟩
           replace H:(spec_DirtyVars.l0 k1 y303 t293 t297 (wrap64 (x11_1+1)))=some r:=by first|(rw[hy303];with_reducible exact H)|(have H2_:=(Yk _ _).symm.trans H;rw[hy303];with_reducible exact H2_)|(have H2_:=(Yk _ _).symm.trans H;with_reducible exact H2_)|with_reducible exact H|(rw[hy303];exact H)|exact H
           have Ny303:=Za hy303
           clear hy303
           have H':=Za H
           clear H
           obtain⟨Ao27,co27,eo27⟩:=Yp HO_9.out
           subst eo27
           have p300:0≤(x11_1:Int):=Zj z7_3
           have q300:x11_1<(t293.length:Int):=Zj z7_3
           obtain⟨ad300,e300,hx300_0⟩:=Kd.at_int (Yd HO_9.out).2.2 x11_1 p300 q300
           cases e300
           replace p300:=eq_true p300
           replace q300:=eq_true q300
           obtain⟨Ao28,co28,eo28⟩:=Yp HO_10.out
           subst eo28
           go_wp2_with (first|((first|((with_reducible refine gate_callee (f:=25) rfl ?_);refine goesL_ (some 50) rfl rfl Tryz.func25 z7_33 rfl #[.slice Ao28 t297.length co28,.int .i64 (rd t293 x11_1)] rfl z7_1 ?_;(with_reducible refine(spec_HasVar.calls k1 _ _ t297 (rd t293 x11_1) false _ ?side1 ?side2 A22.out).mono ?_))|(go_at_call 25;(with_reducible refine(spec_HasVar.calls k1 _ _ t297 (rd t293 x11_1) false _ ?side1 ?side2 A22.out).mono ?_)));(case side1=>repeat(first|exact(Yd HO_10.out).2.2|(with_reducible refine Yh ?_ _)|(with_reducible refine Ye ?_ _)|(with_reducible refine Yi ?_)));(case side2=>exact(Yd HO_10.out).2.1);rintro e w' ⟨rfl,⟨nd,rfl⟩⟩;(first|refine⟨_,rfl,?_⟩|skip);have p302:0≤(x11_1:Int):=Zj z7_3;have q302:x11_1<(t293.length:Int):=Zj z7_3;obtain⟨ad302,e302,hx302_0⟩:=Kd.at_int (Yd HO_9.out).2.2 x11_1 p302 q302;obtain rfl:ad300=ad302:=(by injection e302);replace p302:=eq_true p302;replace q302:=eq_true q302)|((with_reducible refine gate_builtin (b:= .append) (xs:= #[.tmp 52,.tmp 57]) rfl ?_);at_builtin;refine Kd.R_append (Kd.int .i64) (w0:=w) w.heap.size rfl (.tmp 52) (.tmp 57) 25 3 (.int .i64 0) 8 rfl Tryz.underlying25 info3 rfl (by decide) (by omega) u5 x5_1 (rd t293 x11_1) [.int .i64 (rd t293 x11_1)] (fun k_=>some k_≠(.slice (some ad300) t293.length co27:Value).ownBlock∧some k_≠(.slice Ao28 t297.length co28:Value).ownBlock) (fun _=>False) rfl rfl ?aP (fun _ hk=>hk.elim) ?aF ?aO ?aB ?aS ?aL ?_;(case aP=>exact rfl);(case aB=>exact z7_4);(case aF=>exact(fun k_ hk=>⟨Kd.fresh' (Kd.R_lt (by(with_reducible repeat(first|apply Zp|apply Zo|apply Zn));exact HO_9.out)) k_ hk,Kd.fresh' (Kd.R_lt (by(with_reducible repeat(first|apply Zp|apply Zo|apply Zn));exact HO_10.out)) k_ hk⟩));(case aO=>exact(by(with_reducible repeat(first|apply Zp|apply Zo|apply Zn));exact HO_5.out));(case aS=>exact(Zt z7_4));(case aL=>have:=LMc26.out;omega);intro v304 w29 ho hb hg hat;rw[←Ny303.out] at ho;have n0_:=Za (Kd.R_after (ok:=(fun k_=>some k_≠(.slice Ao28 t297.length co28:Value).ownBlock)) (by(with_reducible repeat(first|apply Zp|apply Zo|apply Zn));exact Yf HO_9.out (fun _ hk=>⟨hk.2,hk.1⟩)) hg hat);have n1_:=Za (Kd.R_after (ok:=(fun k_=>some k_≠(.slice (some ad300) t293.length co27:Value).ownBlock)) (by(with_reducible repeat(first|apply Zp|apply Zo|apply Zn));exact Yf HO_10.out (fun _ hk=>⟨hk.2,hk.1⟩)) hg hat);have n2_:=Za (blk_grown (g:=gb283) (o:= .cells #[.slice (some ad292) l0_0.length c0_0] 30 (0,0)) z7_11 hg (Kd.R_ne HO_5.out BK283.out (by decide)));have n3_:=Za (hb);have n4_:=Za (ho);clear HO_9;clear HO_10;clear BK283;clear HB;clear HO_5;have HO_9:=n0_;have HO_10:=n1_;have BK283:=n2_;have HB:=n3_;have HO305:=n4_;clear n0_ n1_ n2_ n3_ n4_;clear ho hb hg hat))
           go_roundg k1
           case measure=>have:=HK1.out;omega
           case rel=>exact⟨(y303),(wrap64 (x11_1+1)),z7_15,H',⟨by have:=HK1.out;omega⟩,⟨by(with_reducible repeat(first|apply Zp|apply Zo|apply Zn));exact HO305.out⟩,⟨by(with_reducible repeat(first|apply Zp|apply Zo|apply Zn));exact Yf HO_9.out (fun _ hk=>⟨hk.2,hk.1⟩)⟩,⟨by(with_reducible repeat(first|apply Zp|apply Zo|apply Zn));exact Yf HO_10.out (fun _ hk=>⟨hk.2,hk.1⟩)⟩,⟨by(with_reducible repeat(first|refine blk_drewN ?_ _|refine blk_drew ?_|refine blk_alloc ?_ _));exact BK283.out⟩,⟨by repeat(first|(with_reducible first|exact HB.out|apply Zh|apply Ze|apply Zd|refine Zg ?_ GE283.out)|exact HB.out)⟩⟩
          ·rw[if_neg c26] at H
           exact absurd H (by simp)
        ·rw[if_neg c21] at H
         exact absurd H (by simp)
       ·rw[if_neg c20] at H
        have c20b0:decide (x11_1<(t293.length:Int))=false:=Yg c20
        clear c20
        obtain rfl:=Zm H
        obtain⟨Ao30,co30,eo30⟩:=Yp HO_9.out
        subst eo30
        go_wp2
        go_ret
        exact⟨_,by first|rfl|(simp[errW_none,errW_some]<;>rfl)|(simp[*,errW_none,errW_some]<;>rfl)|(simp[*,errW_none,errW_some,i64_w];done),by(with_reducible repeat(first|apply Zp|apply Zo|apply Zn));exact Yf HO_5.out (fun _ hk=>trivial),by repeat(first|(with_reducible first|exact HB.out|apply Zh|apply Ze|apply Zd|refine Zg ?_ GE283.out)|exact HB.out)⟩
    ·rw[if_neg c8] at H
     exact absurd H (by simp)
   ·rw[if_neg c7] at H
    exact absurd H (by simp)
  ·rw[if_neg c5] at H
   exact absurd H (by simp)
 ·replace c4:=Bool.eq_false_iff.mpr c4
  subst c4
  rw[if_neg (show ¬(false=true) by decide)] at H
  obtain rfl:=Zm H
  go_enter Tryz.func6,Tryz.ntmps6
  go_wp2_with (first|((with_reducible refine Zr (N:=2) rfl ?_);refine Zs ?hg (N:=2) ?hd (cs:= #[.slice A0_0 l0_0.length c0_0]) (t:=30) ?hr ?_;(case hd=>rfl);(case hg=>rfl);(case hr=>exact z7_6);intro gb283 hg w31 hbox hb;have BK283:=Za (hbox);have GW283:=Za ((z7_36:w.heap.size≤gb283));have GE283:=Za ((z7_36:w.heap.size≤gb283));replace HB:=Za (Zi z7_0 hb);clear hb hbox hg)|((with_reducible refine Zr (N:=12) rfl ?_);refine Kd.R_lit (Kd.int .i64) _ 3 ?hg (N:=12) ?hd (xs:=([]:List Int)) (inner:=[]) (ok:=fun _=>True) (okp:=fun _=>True) ?hr ?hp (fun _ hk=>hk) trivial (Yc _ _) (Nat.le_refl _) (by simp) ?_;(case hd=>rfl);(case hg=>rfl);(case hr=>exact z7_6);(case hp=>exact(Reps.none _ _));intro v285 w32 ho33 hb hg_ hnew_;clear hg_ hnew_;(first|rw[←Ny284.out] at ho33|(simp only[Int.reduceToNat] at ho33;rw[←Ny284.out] at ho33));have HO286:=Za (Yq ho33 (Zt z7_4));replace BK283:=Za (Zk (g:=gb283) (o:= .cells #[.slice A0_0 l0_0.length c0_0] 30 (0,0)) z7_11 hb);replace HB:=Za (Zi z7_4 hb);clear hb ho33;have hcz34_0:w32.cell? ⟨gb283,0,none⟩=some (.slice A0_0 l0_0.length c0_0):=(Zb BK283.out 0).trans rfl;have hfz34_0:=Zc BK283.out 0)|((first|((with_reducible refine gate_callee (f:=21) rfl ?_);refine goesL_ (some 15) rfl rfl Tryz.func21 z7_33 rfl #[.agg #[.slice A0_0 l0_0.length c0_0],.slice A1 l1.length c1] rfl z7_1 ?_;(with_reducible refine(spec_MemOk.calls k _ _ l0_0 _ _ l1 false _ ?side1 ?side2 ?side3 ?side4 A3.out).mono ?_))|(go_at_call 21;(with_reducible refine(spec_MemOk.calls k _ _ l0_0 _ _ l1 false _ ?side1 ?side2 ?side3 ?side4 A3.out).mono ?_)));(case side1=>exact z7_5);(case side2=>exact HC0_0.out);(case side3=>repeat(first|exact(Yj HR1.out HB.out)|(with_reducible refine Yh ?_ _)|(with_reducible refine Ye ?_ _)|(with_reducible refine Yi ?_)));(case side4=>exact HC1.out);rintro e w35 ⟨rfl,hb⟩;(first|refine⟨_,rfl,?_⟩|skip);replace HO286:=Za (Kd.R_below z7_16 hb);replace BK283:=Za (Zk (g:=gb283) (o:= .cells #[.slice A0_0 l0_0.length c0_0] 30 (0,0)) z7_11 hb);replace HB:=Za (Zi z7_4 hb);(try clear hb);(try clear hb2);(try clear hk);(try clear hi)))
  go_ret
  exact⟨_,by first|rfl|(simp[errW_none,errW_some]<;>rfl)|(simp[*,errW_none,errW_some]<;>rfl)|(simp[*,errW_none,errW_some,i64_w];done),by(with_reducible repeat(first|apply Zp|apply Zo|apply Zn));exact HO286.out,by repeat(first|(with_reducible first|exact HB.out|apply Zh|apply Ze|apply Zd|refine Zg ?_ GE283.out)|exact HB.out)⟩
def laws_toExpr.f (a0_0:Int) (a0_1:Int) (a0_2:Int):Option (Int×Int×Int):=some (a0_0,a0_1,a0_2)
set_option maxHeartbeats 8000000 in
set_option maxRecDepth 100000 in
theorem laws_toExpr.calls (a0_0:Int) (a0_1:Int) (a0_2:Int) (r1:Int) (r2:Int) (r3:Int) (w:World) (h:laws_toExpr.f a0_0 a0_1 a0_2=some (r1,r2,r3)):
  Calls Tryz.prog 86 #[.agg #[.int .i64 a0_0,.int .i64 a0_1,.int .i64 a0_2]] w fun e w'=>e= .returned (.agg #[.int .i64 r1,.int .i64 r2,.int .i64 r3])∧Below w.heap.size w w':=by
 have hu66:=Tryz.underlying66
 have hu53:=Tryz.underlying53
 have HB:=Za (Yc w.heap.size w)
 have H:(some (a0_0,a0_1,a0_2))=some (r1,r2,r3):=h
 clear h
 simp only[Option.some.injEq,Prod.mk.injEq] at H
 obtain⟨rfl,rfl,rfl⟩:=H
 go_enter Tryz.func86,Tryz.ntmps86
 go_wp2_with (first|((with_reducible refine Zr (N:=1) rfl ?_);refine Zs ?hg (N:=1) ?hd (cs:= #[.int .i64 a0_0,.int .i64 a0_1,.int .i64 a0_2]) (t:=66) ?hr ?_;(case hd=>rfl);(case hg=>rfl);(case hr=>exact z7_6);intro gb306 hg w2 hbox hb;have BK306:=Za (hbox);have GW306:=Za ((z7_36:w.heap.size≤gb306));have GE306:=Za ((z7_36:w.heap.size≤gb306));replace HB:=Za (Zi z7_0 hb);clear hb hbox hg)|((with_reducible refine Zr (N:=2) rfl ?_);refine Zs ?hg (N:=2) ?hd (cs:= #[.int .i64 0,.int .i64 0,.int .i64 0]) (t:=53) ?hr ?_;(case hd=>rfl);(case hg=>rfl);(case hr=>exact z7_6);intro gb307 hg w3 hbox hb;have BK307:=Za (hbox);have GW307:=Za ((by rw[hg];exact(Zt z7_30):w.heap.size≤gb307));have GE307:=Za ((by rw[hg];exact(Zt z7_30):w.heap.size≤gb307));replace HB:=Za (Zi z7_30 hb);have NB306_307:=Za ((by rw[hg];exact Nat.ne_of_lt (blk_lt (g:=gb306) (o:= .cells #[.int .i64 a0_0,.int .i64 a0_1,.int .i64 a0_2] 66 (0,0)) z7_14):gb306≠gb307));have NB307_306:=Za ((by rw[hg];exact Nat.ne_of_gt (blk_lt (g:=gb306) (o:= .cells #[.int .i64 a0_0,.int .i64 a0_1,.int .i64 a0_2] 66 (0,0)) z7_14):gb307≠gb306));replace BK306:=Za (Zk (g:=gb306) (o:= .cells #[.int .i64 a0_0,.int .i64 a0_1,.int .i64 a0_2] 66 (0,0)) z7_14 hb);clear hb hbox hg)|((with_reducible refine Zr (N:=3) rfl ?_);refine Zs ?hg (N:=3) ?hd (cs:= #[.int .i64 0,.int .i64 0,.int .i64 0]) (t:=53) ?hr ?_;(case hd=>rfl);(case hg=>rfl);(case hr=>exact z7_6);intro gb308 hg w4 hbox hb;have BK308:=Za (hbox);have GW308:=Za ((by rw[hg];exact(Zt z7_22):w.heap.size≤gb308));have GE308:=Za ((by rw[hg];exact(Zt z7_22):w.heap.size≤gb308));replace HB:=Za (Zi z7_22 hb);have NB306_308:=Za ((by rw[hg];exact Nat.ne_of_lt (blk_lt (g:=gb306) (o:= .cells #[.int .i64 a0_0,.int .i64 a0_1,.int .i64 a0_2] 66 (0,0)) z7_14):gb306≠gb308));have NB308_306:=Za ((by rw[hg];exact Nat.ne_of_gt (blk_lt (g:=gb306) (o:= .cells #[.int .i64 a0_0,.int .i64 a0_1,.int .i64 a0_2] 66 (0,0)) z7_14):gb308≠gb306));replace BK306:=Za (Zk (g:=gb306) (o:= .cells #[.int .i64 a0_0,.int .i64 a0_1,.int .i64 a0_2] 66 (0,0)) z7_14 hb);have NB307_308:=Za ((by rw[hg];exact Nat.ne_of_lt (blk_lt (g:=gb307) (o:= .cells #[.int .i64 0,.int .i64 0,.int .i64 0] 53 (0,0)) z7_25):gb307≠gb308));have NB308_307:=Za ((by rw[hg];exact Nat.ne_of_gt (blk_lt (g:=gb307) (o:= .cells #[.int .i64 0,.int .i64 0,.int .i64 0] 53 (0,0)) z7_25):gb308≠gb307));replace BK307:=Za (Zk (g:=gb307) (o:= .cells #[.int .i64 0,.int .i64 0,.int .i64 0] 53 (0,0)) z7_25 hb);clear hb hbox hg;have hnb5:=NB306_307.out;have hnc5:=NB307_306.out;have hnb6:=NB306_308.out;have hnc6:=NB308_306.out;have hcz7_0:w4.cell? ⟨gb306,0,none⟩=some (.int .i64 a0_0):=(Zb BK306.out 0).trans rfl;have hcz7_1:w4.cell? ⟨gb306,1,none⟩=some (.int .i64 a0_1):=(Zb BK306.out 1).trans rfl;have hcz7_2:w4.cell? ⟨gb306,2,none⟩=some (.int .i64 a0_2):=(Zb BK306.out 2).trans rfl;have hfz7_0:=Zc BK306.out 0;have hfz7_1:=Zc BK306.out 1;have hfz7_2:=Zc BK306.out 2;have hnb8:=NB308_307.out;have hnc8:=NB307_308.out;have hcz9_0:w4.cell? ⟨gb308,0,none⟩=some (.int .i64 0):=(Zb BK308.out 0).trans rfl;have hcz9_1:w4.cell? ⟨gb308,1,none⟩=some (.int .i64 0):=(Zb BK308.out 1).trans rfl;have hcz9_2:w4.cell? ⟨gb308,2,none⟩=some (.int .i64 0):=(Zb BK308.out 2).trans rfl;have hfz9_0:=Zc BK308.out 0;have hfz9_1:=Zc BK308.out 1;have hfz9_2:=Zc BK308.out 2;have hcz10_0:w4.cell? ⟨gb307,0,none⟩=some (.int .i64 0):=(Zb BK307.out 0).trans rfl;have hcz10_1:w4.cell? ⟨gb307,1,none⟩=some (.int .i64 0):=(Zb BK307.out 1).trans rfl;have hcz10_2:w4.cell? ⟨gb307,2,none⟩=some (.int .i64 0):=(Zb BK307.out 2).trans rfl;have hfz10_0:=Zc BK307.out 0;have hfz10_1:=Zc BK307.out 1;have hfz10_2:=Zc BK307.out 2)|((with_reducible refine Ym (t:=53) (p:=2) rfl ?_);refine Yl (t:=53) (p:=2) (v:= ?vo_w11) (w1:=((((((w4.setCell ⟨gb308,0,none⟩ (.int .i64 a0_0)).setCell ⟨gb308,1,none⟩ (.int .i64 a0_1)).setCell ⟨gb308,2,none⟩ (.int .i64 a0_2)).setCell ⟨gb307,0,none⟩ (.int .i64 a0_0)).setCell ⟨gb307,1,none⟩ (.int .i64 a0_1)).setCell ⟨gb307,2,none⟩ (.int .i64 a0_2))) ?hg ?ho ?hn ?hr ?_;(case ho=>rfl);(case hg=>rfl);(case hn=>rfl);(case hr=>exact z7_6);intro w11 hw;have n0_:Aside0 (w11.heap[gb306]? =some (.cells #[.int .i64 a0_0,.int .i64 a0_1,.int .i64 a0_2] 66 (0,0))):=⟨(by rw[hw];exact(by(with_reducible repeat(first|refine blk_drewN ?_ _|refine blk_drew ?_|refine blk_alloc ?_ _));refine blk_far ?_ NB306_307.out _;(with_reducible repeat(first|refine blk_drewN ?_ _|refine blk_drew ?_|refine blk_alloc ?_ _));refine blk_far ?_ NB306_307.out _;(with_reducible repeat(first|refine blk_drewN ?_ _|refine blk_drew ?_|refine blk_alloc ?_ _));refine blk_far ?_ NB306_307.out _;(with_reducible repeat(first|refine blk_drewN ?_ _|refine blk_drew ?_|refine blk_alloc ?_ _));refine blk_far ?_ NB306_308.out _;(with_reducible repeat(first|refine blk_drewN ?_ _|refine blk_drew ?_|refine blk_alloc ?_ _));refine blk_far ?_ NB306_308.out _;(with_reducible repeat(first|refine blk_drewN ?_ _|refine blk_drew ?_|refine blk_alloc ?_ _));refine blk_far ?_ NB306_308.out _;(with_reducible repeat(first|refine blk_drewN ?_ _|refine blk_drew ?_|refine blk_alloc ?_ _));exact BK306.out))⟩;have n1_:Aside0 (w11.heap[gb307]? =some (.cells #[.int .i64 a0_0,.int .i64 a0_1,.int .i64 a0_2] 53 (0,0))):=⟨(by rw[hw];exact(by(with_reducible repeat(first|refine blk_drewN ?_ _|refine blk_drew ?_|refine blk_alloc ?_ _));refine blk_put (cs:= #[.int .i64 a0_0,.int .i64 a0_1,.int .i64 0]) ?_ 2 _ rfl;(with_reducible repeat(first|refine blk_drewN ?_ _|refine blk_drew ?_|refine blk_alloc ?_ _));refine blk_put (cs:= #[.int .i64 a0_0,.int .i64 0,.int .i64 0]) ?_ 1 _ rfl;(with_reducible repeat(first|refine blk_drewN ?_ _|refine blk_drew ?_|refine blk_alloc ?_ _));refine blk_put (cs:= #[.int .i64 0,.int .i64 0,.int .i64 0]) ?_ 0 _ rfl;(with_reducible repeat(first|refine blk_drewN ?_ _|refine blk_drew ?_|refine blk_alloc ?_ _));refine blk_far ?_ NB307_308.out _;(with_reducible repeat(first|refine blk_drewN ?_ _|refine blk_drew ?_|refine blk_alloc ?_ _));refine blk_far ?_ NB307_308.out _;(with_reducible repeat(first|refine blk_drewN ?_ _|refine blk_drew ?_|refine blk_alloc ?_ _));refine blk_far ?_ NB307_308.out _;(with_reducible repeat(first|refine blk_drewN ?_ _|refine blk_drew ?_|refine blk_alloc ?_ _));exact BK307.out))⟩;have n2_:Aside0 (w11.heap[gb308]? =some (.cells #[.int .i64 a0_0,.int .i64 a0_1,.int .i64 a0_2] 53 (0,0))):=⟨(by rw[hw];exact(by(with_reducible repeat(first|refine blk_drewN ?_ _|refine blk_drew ?_|refine blk_alloc ?_ _));refine blk_far ?_ NB308_307.out _;(with_reducible repeat(first|refine blk_drewN ?_ _|refine blk_drew ?_|refine blk_alloc ?_ _));refine blk_far ?_ NB308_307.out _;(with_reducible repeat(first|refine blk_drewN ?_ _|refine blk_drew ?_|refine blk_alloc ?_ _));refine blk_far ?_ NB308_307.out _;(with_reducible repeat(first|refine blk_drewN ?_ _|refine blk_drew ?_|refine blk_alloc ?_ _));refine blk_put (cs:= #[.int .i64 a0_0,.int .i64 a0_1,.int .i64 0]) ?_ 2 _ rfl;(with_reducible repeat(first|refine blk_drewN ?_ _|refine blk_drew ?_|refine blk_alloc ?_ _));refine blk_put (cs:= #[.int .i64 a0_0,.int .i64 0,.int .i64 0]) ?_ 1 _ rfl;(with_reducible repeat(first|refine blk_drewN ?_ _|refine blk_drew ?_|refine blk_alloc ?_ _));refine blk_put (cs:= #[.int .i64 0,.int .i64 0,.int .i64 0]) ?_ 0 _ rfl;(with_reducible repeat(first|refine blk_drewN ?_ _|refine blk_drew ?_|refine blk_alloc ?_ _));exact BK308.out))⟩;have n3_:Aside0 (Below w.heap.size w w11):=⟨(by rw[hw];exact(by repeat(first|(with_reducible first|exact HB.out|apply Zh|apply Ze|apply Zd|refine Zg ?_ GE306.out|refine Zg ?_ GE307.out|refine Zg ?_ GE308.out)|exact HB.out)))⟩;clear hw;clear BK306;clear BK307;clear BK308;clear HB;have BK306:=n0_;have BK307:=n1_;have BK308:=n2_;have HB:=n3_;clear n0_ n1_ n2_ n3_))
 refine bodyPost_ret (results_cell_row rfl _ _ gb307 53 #[.int .i64 a0_0,.int .i64 a0_1,.int .i64 a0_2] (0,0) _ rfl z7_25 Tryz.underlying53 rfl z7_33) rfl ?_
 exact⟨by first|rfl|(simp[errW_none,errW_some]<;>rfl)|(simp[*,errW_none,errW_some]<;>rfl)|(simp[*,errW_none,errW_some,i64_w];done),by repeat(first|(with_reducible first|exact HB.out|apply Zh|apply Ze|apply Zd|refine Zg ?_ GE306.out|refine Zg ?_ GE307.out|refine Zg ?_ GE308.out)|exact HB.out)⟩
def laws_toStmt.f (a0_0:Int) (a0_1:Int) (a0_2:Int) (a0_3:Int) (a0_4:Int) (a0_5:Int):Option (Int×Int×Int×Int×Int×Int):=(laws_toExpr.f a0_3 a0_4 a0_5).bind fun bt312=>(some (a0_0,a0_1,a0_2,bt312.1,bt312.2.1,bt312.2.2))
set_option maxHeartbeats 8000000 in
set_option maxRecDepth 100000 in
theorem laws_toStmt.calls (a0_0:Int) (a0_1:Int) (a0_2:Int) (a0_3:Int) (a0_4:Int) (a0_5:Int) (r1:Int) (r2:Int) (r3:Int) (r4:Int) (r5:Int) (r6:Int) (w:World) (h:laws_toStmt.f a0_0 a0_1 a0_2 a0_3 a0_4 a0_5=some (r1,r2,r3,r4,r5,r6)):
  Calls Tryz.prog 110 #[.agg #[.int .i64 a0_0,.int .i64 a0_1,.int .i64 a0_2,.int .i64 a0_3,.int .i64 a0_4,.int .i64 a0_5]] w fun e w'=>e= .returned (.agg #[.int .i64 r1,.int .i64 r2,.int .i64 r3,.int .i64 r4,.int .i64 r5,.int .i64 r6])∧Below w.heap.size w w':=by
 have hu112:=Tryz.underlying112
 have hu77:=Tryz.underlying77
 have hu66:=Tryz.underlying66
 have hu53:=Tryz.underlying53
 have HB:=Za (Yc w.heap.size w)
 have H:((laws_toExpr.f a0_3 a0_4 a0_5).bind fun bt312=>(some (a0_0,a0_1,a0_2,bt312.1,bt312.2.1,bt312.2.2)))=some (r1,r2,r3,r4,r5,r6):=h
 clear h
 replace H:=Zl H
 obtain⟨⟨t312,t313,t314⟩,A20,H⟩:=H
 replace H:(some (a0_0,a0_1,a0_2,t312,t313,t314))=some (r1,r2,r3,r4,r5,r6):=H
 have A2:=Za A20
 clear A20
 simp only[Option.some.injEq,Prod.mk.injEq] at H
 obtain⟨rfl,rfl,rfl,rfl,rfl,rfl⟩:=H
 go_enter Tryz.func110,Tryz.ntmps110
 go_wp2_with (first|((with_reducible refine Zr (N:=1) rfl ?_);refine Zs ?hg (N:=1) ?hd (cs:= #[.int .i64 a0_0,.int .i64 a0_1,.int .i64 a0_2,.int .i64 a0_3,.int .i64 a0_4,.int .i64 a0_5]) (t:=112) ?hr ?_;(case hd=>rfl);(case hg=>rfl);(case hr=>exact z7_6);intro gb309 hg w3 hbox hb;have BK309:=Za (hbox);have GW309:=Za ((z7_36:w.heap.size≤gb309));have GE309:=Za ((z7_36:w.heap.size≤gb309));replace HB:=Za (Zi z7_0 hb);clear hb hbox hg)|((with_reducible refine Zr (N:=2) rfl ?_);refine Zs ?hg (N:=2) ?hd (cs:= #[.int .i64 0,.int .i64 0,.int .i64 0,.int .i64 0,.int .i64 0,.int .i64 0]) (t:=77) ?hr ?_;(case hd=>rfl);(case hg=>rfl);(case hr=>exact z7_6);intro gb310 hg w4 hbox hb;have BK310:=Za (hbox);have GW310:=Za ((by rw[hg];exact(Zt z7_29):w.heap.size≤gb310));have GE310:=Za ((by rw[hg];exact(Zt z7_29):w.heap.size≤gb310));replace HB:=Za (Zi z7_29 hb);have NB309_310:=Za ((by rw[hg];exact Nat.ne_of_lt (blk_lt (g:=gb309) (o:= .cells #[.int .i64 a0_0,.int .i64 a0_1,.int .i64 a0_2,.int .i64 a0_3,.int .i64 a0_4,.int .i64 a0_5] 112 (0,0)) z7_13):gb309≠gb310));have NB310_309:=Za ((by rw[hg];exact Nat.ne_of_gt (blk_lt (g:=gb309) (o:= .cells #[.int .i64 a0_0,.int .i64 a0_1,.int .i64 a0_2,.int .i64 a0_3,.int .i64 a0_4,.int .i64 a0_5] 112 (0,0)) z7_13):gb310≠gb309));replace BK309:=Za (Zk (g:=gb309) (o:= .cells #[.int .i64 a0_0,.int .i64 a0_1,.int .i64 a0_2,.int .i64 a0_3,.int .i64 a0_4,.int .i64 a0_5] 112 (0,0)) z7_13 hb);clear hb hbox hg)|((with_reducible refine Zr (N:=3) rfl ?_);refine Zs ?hg (N:=3) ?hd (cs:= #[.int .i64 0,.int .i64 0,.int .i64 0,.int .i64 0,.int .i64 0,.int .i64 0]) (t:=77) ?hr ?_;(case hd=>rfl);(case hg=>rfl);(case hr=>exact z7_6);intro gb311 hg w5 hbox hb;have BK311:=Za (hbox);have GW311:=Za ((by rw[hg];exact(Zt z7_21):w.heap.size≤gb311));have GE311:=Za ((by rw[hg];exact(Zt z7_21):w.heap.size≤gb311));replace HB:=Za (Zi z7_21 hb);have NB309_311:=Za ((by rw[hg];exact Nat.ne_of_lt (blk_lt (g:=gb309) (o:= .cells #[.int .i64 a0_0,.int .i64 a0_1,.int .i64 a0_2,.int .i64 a0_3,.int .i64 a0_4,.int .i64 a0_5] 112 (0,0)) z7_13):gb309≠gb311));have NB311_309:=Za ((by rw[hg];exact Nat.ne_of_gt (blk_lt (g:=gb309) (o:= .cells #[.int .i64 a0_0,.int .i64 a0_1,.int .i64 a0_2,.int .i64 a0_3,.int .i64 a0_4,.int .i64 a0_5] 112 (0,0)) z7_13):gb311≠gb309));replace BK309:=Za (Zk (g:=gb309) (o:= .cells #[.int .i64 a0_0,.int .i64 a0_1,.int .i64 a0_2,.int .i64 a0_3,.int .i64 a0_4,.int .i64 a0_5] 112 (0,0)) z7_13 hb);have NB310_311:=Za ((by rw[hg];exact Nat.ne_of_lt (blk_lt (g:=gb310) (o:= .cells #[.int .i64 0,.int .i64 0,.int .i64 0,.int .i64 0,.int .i64 0,.int .i64 0] 77 (0,0)) z7_24):gb310≠gb311));have NB311_310:=Za ((by rw[hg];exact Nat.ne_of_gt (blk_lt (g:=gb310) (o:= .cells #[.int .i64 0,.int .i64 0,.int .i64 0,.int .i64 0,.int .i64 0,.int .i64 0] 77 (0,0)) z7_24):gb311≠gb310));replace BK310:=Za (Zk (g:=gb310) (o:= .cells #[.int .i64 0,.int .i64 0,.int .i64 0,.int .i64 0,.int .i64 0,.int .i64 0] 77 (0,0)) z7_24 hb);clear hb hbox hg;have hnb6:=NB309_310.out;have hnc6:=NB310_309.out;have hnb7:=NB309_311.out;have hnc7:=NB311_309.out;have hcz8_0:w5.cell? ⟨gb309,0,none⟩=some (.int .i64 a0_0):=(Zb BK309.out 0).trans rfl;have hcz8_1:w5.cell? ⟨gb309,1,none⟩=some (.int .i64 a0_1):=(Zb BK309.out 1).trans rfl;have hcz8_2:w5.cell? ⟨gb309,2,none⟩=some (.int .i64 a0_2):=(Zb BK309.out 2).trans rfl;have hcz8_3:w5.cell? ⟨gb309,3,none⟩=some (.int .i64 a0_3):=(Zb BK309.out 3).trans rfl;have hcz8_4:w5.cell? ⟨gb309,4,none⟩=some (.int .i64 a0_4):=(Zb BK309.out 4).trans rfl;have hcz8_5:w5.cell? ⟨gb309,5,none⟩=some (.int .i64 a0_5):=(Zb BK309.out 5).trans rfl;have hfz8_0:=Zc BK309.out 0;have hfz8_1:=Zc BK309.out 1;have hfz8_2:=Zc BK309.out 2;have hfz8_3:=Zc BK309.out 3;have hfz8_4:=Zc BK309.out 4;have hfz8_5:=Zc BK309.out 5;have hnb9:=NB311_310.out;have hnc9:=NB310_311.out;have hcz10_0:w5.cell? ⟨gb311,0,none⟩=some (.int .i64 0):=(Zb BK311.out 0).trans rfl;have hcz10_1:w5.cell? ⟨gb311,1,none⟩=some (.int .i64 0):=(Zb BK311.out 1).trans rfl;have hcz10_2:w5.cell? ⟨gb311,2,none⟩=some (.int .i64 0):=(Zb BK311.out 2).trans rfl;have hcz10_3:w5.cell? ⟨gb311,3,none⟩=some (.int .i64 0):=(Zb BK311.out 3).trans rfl;have hcz10_4:w5.cell? ⟨gb311,4,none⟩=some (.int .i64 0):=(Zb BK311.out 4).trans rfl;have hcz10_5:w5.cell? ⟨gb311,5,none⟩=some (.int .i64 0):=(Zb BK311.out 5).trans rfl;have hfz10_0:=Zc BK311.out 0;have hfz10_1:=Zc BK311.out 1;have hfz10_2:=Zc BK311.out 2;have hfz10_3:=Zc BK311.out 3;have hfz10_4:=Zc BK311.out 4;have hfz10_5:=Zc BK311.out 5)|((first|((with_reducible refine gate_callee (f:=86) rfl ?_);refine goesL_ (some 15) rfl rfl Tryz.func86 z7_33 rfl #[.agg #[.int .i64 a0_3,.int .i64 a0_4,.int .i64 a0_5]] rfl z7_1 ?_;(with_reducible refine(laws_toExpr.calls a0_3 a0_4 a0_5 t312 t313 t314 _ A2.out).mono ?_))|(go_at_call 86;(with_reducible refine(laws_toExpr.calls a0_3 a0_4 a0_5 t312 t313 t314 _ A2.out).mono ?_)));rintro e w11 ⟨rfl,hb⟩;(first|refine⟨_,rfl,?_⟩|skip);replace BK309:=Za (Zk (g:=gb309) (o:= .cells #[.int .i64 a0_0,.int .i64 a0_1,.int .i64 a0_2,.int .i64 a0_3,.int .i64 a0_4,.int .i64 a0_5] 112 (0,0)) (by(with_reducible repeat(first|refine blk_drewN ?_ _|refine blk_drew ?_|refine blk_alloc ?_ _));refine blk_far ?_ NB309_311.out _;(with_reducible repeat(first|refine blk_drewN ?_ _|refine blk_drew ?_|refine blk_alloc ?_ _));refine blk_far ?_ NB309_311.out _;(with_reducible repeat(first|refine blk_drewN ?_ _|refine blk_drew ?_|refine blk_alloc ?_ _));refine blk_far ?_ NB309_311.out _;(with_reducible repeat(first|refine blk_drewN ?_ _|refine blk_drew ?_|refine blk_alloc ?_ _));exact BK309.out) hb);replace BK310:=Za (Zk (g:=gb310) (o:= .cells #[.int .i64 0,.int .i64 0,.int .i64 0,.int .i64 0,.int .i64 0,.int .i64 0] 77 (0,0)) (by(with_reducible repeat(first|refine blk_drewN ?_ _|refine blk_drew ?_|refine blk_alloc ?_ _));refine blk_far ?_ NB310_311.out _;(with_reducible repeat(first|refine blk_drewN ?_ _|refine blk_drew ?_|refine blk_alloc ?_ _));refine blk_far ?_ NB310_311.out _;(with_reducible repeat(first|refine blk_drewN ?_ _|refine blk_drew ?_|refine blk_alloc ?_ _));refine blk_far ?_ NB310_311.out _;(with_reducible repeat(first|refine blk_drewN ?_ _|refine blk_drew ?_|refine blk_alloc ?_ _));exact BK310.out) hb);replace BK311:=Za (Zk (g:=gb311) (o:= .cells #[.int .i64 a0_0,.int .i64 a0_1,.int .i64 a0_2,.int .i64 0,.int .i64 0,.int .i64 0] 77 (0,0)) (by(with_reducible repeat(first|refine blk_drewN ?_ _|refine blk_drew ?_|refine blk_alloc ?_ _));refine blk_put (cs:= #[.int .i64 a0_0,.int .i64 a0_1,.int .i64 0,.int .i64 0,.int .i64 0,.int .i64 0]) ?_ 2 _ rfl;(with_reducible repeat(first|refine blk_drewN ?_ _|refine blk_drew ?_|refine blk_alloc ?_ _));refine blk_put (cs:= #[.int .i64 a0_0,.int .i64 0,.int .i64 0,.int .i64 0,.int .i64 0,.int .i64 0]) ?_ 1 _ rfl;(with_reducible repeat(first|refine blk_drewN ?_ _|refine blk_drew ?_|refine blk_alloc ?_ _));refine blk_put (cs:= #[.int .i64 0,.int .i64 0,.int .i64 0,.int .i64 0,.int .i64 0,.int .i64 0]) ?_ 0 _ rfl;(with_reducible repeat(first|refine blk_drewN ?_ _|refine blk_drew ?_|refine blk_alloc ?_ _));exact BK311.out) hb);replace HB:=Za (Zi z7_35 hb);(try clear hb);(try clear hb2);(try clear hk);(try clear hi);have hcz12_0:w11.cell? ⟨gb311,0,none⟩=some (.int .i64 a0_0):=(Zb BK311.out 0).trans rfl;have hcz12_1:w11.cell? ⟨gb311,1,none⟩=some (.int .i64 a0_1):=(Zb BK311.out 1).trans rfl;have hcz12_2:w11.cell? ⟨gb311,2,none⟩=some (.int .i64 a0_2):=(Zb BK311.out 2).trans rfl;have hcz12_3:w11.cell? ⟨gb311,3,none⟩=some (.int .i64 0):=(Zb BK311.out 3).trans rfl;have hcz12_4:w11.cell? ⟨gb311,4,none⟩=some (.int .i64 0):=(Zb BK311.out 4).trans rfl;have hcz12_5:w11.cell? ⟨gb311,5,none⟩=some (.int .i64 0):=(Zb BK311.out 5).trans rfl;have hfz12_0:=Zc BK311.out 0;have hfz12_1:=Zc BK311.out 1;have hfz12_2:=Zc BK311.out 2;have hfz12_3:=Zc BK311.out 3;have hfz12_4:=Zc BK311.out 4;have hfz12_5:=Zc BK311.out 5;have hcz13_0:w11.cell? ⟨gb310,0,none⟩=some (.int .i64 0):=(Zb BK310.out 0).trans rfl;have hcz13_1:w11.cell? ⟨gb310,1,none⟩=some (.int .i64 0):=(Zb BK310.out 1).trans rfl;have hcz13_2:w11.cell? ⟨gb310,2,none⟩=some (.int .i64 0):=(Zb BK310.out 2).trans rfl;have hcz13_3:w11.cell? ⟨gb310,3,none⟩=some (.int .i64 0):=(Zb BK310.out 3).trans rfl;have hcz13_4:w11.cell? ⟨gb310,4,none⟩=some (.int .i64 0):=(Zb BK310.out 4).trans rfl;have hcz13_5:w11.cell? ⟨gb310,5,none⟩=some (.int .i64 0):=(Zb BK310.out 5).trans rfl;have hfz13_0:=Zc BK310.out 0;have hfz13_1:=Zc BK310.out 1;have hfz13_2:=Zc BK310.out 2;have hfz13_3:=Zc BK310.out 3;have hfz13_4:=Zc BK310.out 4;have hfz13_5:=Zc BK310.out 5)|((with_reducible refine Ym (t:=77) (p:=2) rfl ?_);refine Yl (t:=77) (p:=2) (v:= ?vo_w14) (w1:=(((((((((w11.setCell ⟨gb311,3,none⟩ (.int .i64 t312)).setCell ⟨gb311,4,none⟩ (.int .i64 t313)).setCell ⟨gb311,5,none⟩ (.int .i64 t314)).setCell ⟨gb310,0,none⟩ (.int .i64 a0_0)).setCell ⟨gb310,1,none⟩ (.int .i64 a0_1)).setCell ⟨gb310,2,none⟩ (.int .i64 a0_2)).setCell ⟨gb310,3,none⟩ (.int .i64 t312)).setCell ⟨gb310,4,none⟩ (.int .i64 t313)).setCell ⟨gb310,5,none⟩ (.int .i64 t314))) ?hg ?ho ?hn ?hr ?_;(case ho=>rfl);(case hg=>rfl);(case hn=>rfl);(case hr=>exact z7_6);intro w14 hw;have n0_:Aside0 (w14.heap[gb309]? =some (.cells #[.int .i64 a0_0,.int .i64 a0_1,.int .i64 a0_2,.int .i64 a0_3,.int .i64 a0_4,.int .i64 a0_5] 112 (0,0))):=⟨(by rw[hw];exact(by(with_reducible repeat(first|refine blk_drewN ?_ _|refine blk_drew ?_|refine blk_alloc ?_ _));refine blk_far ?_ NB309_310.out _;(with_reducible repeat(first|refine blk_drewN ?_ _|refine blk_drew ?_|refine blk_alloc ?_ _));refine blk_far ?_ NB309_310.out _;(with_reducible repeat(first|refine blk_drewN ?_ _|refine blk_drew ?_|refine blk_alloc ?_ _));refine blk_far ?_ NB309_310.out _;(with_reducible repeat(first|refine blk_drewN ?_ _|refine blk_drew ?_|refine blk_alloc ?_ _));refine blk_far ?_ NB309_310.out _;(with_reducible repeat(first|refine blk_drewN ?_ _|refine blk_drew ?_|refine blk_alloc ?_ _));refine blk_far ?_ NB309_310.out _;(with_reducible repeat(first|refine blk_drewN ?_ _|refine blk_drew ?_|refine blk_alloc ?_ _));refine blk_far ?_ NB309_310.out _;(with_reducible repeat(first|refine blk_drewN ?_ _|refine blk_drew ?_|refine blk_alloc ?_ _));refine blk_far ?_ NB309_311.out _;(with_reducible repeat(first|refine blk_drewN ?_ _|refine blk_drew ?_|refine blk_alloc ?_ _));refine blk_far ?_ NB309_311.out _;(with_reducible repeat(first|refine blk_drewN ?_ _|refine blk_drew ?_|refine blk_alloc ?_ _));refine blk_far ?_ NB309_311.out _;(with_reducible repeat(first|refine blk_drewN ?_ _|refine blk_drew ?_|refine blk_alloc ?_ _));exact BK309.out))⟩;have n1_:Aside0 (w14.heap[gb310]? =some (.cells #[.int .i64 a0_0,.int .i64 a0_1,.int .i64 a0_2,.int .i64 t312,.int .i64 t313,.int .i64 t314] 77 (0,0))):=⟨(by rw[hw];exact(by(with_reducible repeat(first|refine blk_drewN ?_ _|refine blk_drew ?_|refine blk_alloc ?_ _));refine blk_put (cs:= #[.int .i64 a0_0,.int .i64 a0_1,.int .i64 a0_2,.int .i64 t312,.int .i64 t313,.int .i64 0]) ?_ 5 _ rfl;(with_reducible repeat(first|refine blk_drewN ?_ _|refine blk_drew ?_|refine blk_alloc ?_ _));refine blk_put (cs:= #[.int .i64 a0_0,.int .i64 a0_1,.int .i64 a0_2,.int .i64 t312,.int .i64 0,.int .i64 0]) ?_ 4 _ rfl;(with_reducible repeat(first|refine blk_drewN ?_ _|refine blk_drew ?_|refine blk_alloc ?_ _));refine blk_put (cs:= #[.int .i64 a0_0,.int .i64 a0_1,.int .i64 a0_2,.int .i64 0,.int .i64 0,.int .i64 0]) ?_ 3 _ rfl;(with_reducible repeat(first|refine blk_drewN ?_ _|refine blk_drew ?_|refine blk_alloc ?_ _));refine blk_put (cs:= #[.int .i64 a0_0,.int .i64 a0_1,.int .i64 0,.int .i64 0,.int .i64 0,.int .i64 0]) ?_ 2 _ rfl;(with_reducible repeat(first|refine blk_drewN ?_ _|refine blk_drew ?_|refine blk_alloc ?_ _));refine blk_put (cs:= #[.int .i64 a0_0,.int .i64 0,.int .i64 0,.int .i64 0,.int .i64 0,.int .i64 0]) ?_ 1 _ rfl;(with_reducible repeat(first|refine blk_drewN ?_ _|refine blk_drew ?_|refine blk_alloc ?_ _));refine blk_put (cs:= #[.int .i64 0,.int .i64 0,.int .i64 0,.int .i64 0,.int .i64 0,.int .i64 0]) ?_ 0 _ rfl;(with_reducible repeat(first|refine blk_drewN ?_ _|refine blk_drew ?_|refine blk_alloc ?_ _));refine blk_far ?_ NB310_311.out _;(with_reducible repeat(first|refine blk_drewN ?_ _|refine blk_drew ?_|refine blk_alloc ?_ _));refine blk_far ?_ NB310_311.out _;(with_reducible repeat(first|refine blk_drewN ?_ _|refine blk_drew ?_|refine blk_alloc ?_ _));refine blk_far ?_ NB310_311.out _;(with_reducible repeat(first|refine blk_drewN ?_ _|refine blk_drew ?_|refine blk_alloc ?_ _));exact BK310.out))⟩;have n2_:Aside0 (w14.heap[gb311]? =some (.cells #[.int .i64 a0_0,.int .i64 a0_1,.int .i64 a0_2,.int .i64 t312,.int .i64 t313,.int .i64 t314] 77 (0,0))):=⟨(by rw[hw];exact(by(with_reducible repeat(first|refine blk_drewN ?_ _|refine blk_drew ?_|refine blk_alloc ?_ _));refine blk_far ?_ NB311_310.out _;(with_reducible repeat(first|refine blk_drewN ?_ _|refine blk_drew ?_|refine blk_alloc ?_ _));refine blk_far ?_ NB311_310.out _;(with_reducible repeat(first|refine blk_drewN ?_ _|refine blk_drew ?_|refine blk_alloc ?_ _));refine blk_far ?_ NB311_310.out _;(with_reducible repeat(first|refine blk_drewN ?_ _|refine blk_drew ?_|refine blk_alloc ?_ _));refine blk_far ?_ NB311_310.out _;(with_reducible repeat(first|refine blk_drewN ?_ _|refine blk_drew ?_|refine blk_alloc ?_ _));refine blk_far ?_ NB311_310.out _;(with_reducible repeat(first|refine blk_drewN ?_ _|refine blk_drew ?_|refine blk_alloc ?_ _));refine blk_far ?_ NB311_310.out _;(with_reducible repeat(first|refine blk_drewN ?_ _|refine blk_drew ?_|refine blk_alloc ?_ _));refine blk_put (cs:= #[.int .i64 a0_0,.int .i64 a0_1,.int .i64 a0_2,.int .i64 t312,.int .i64 t313,.int .i64 0]) ?_ 5 _ rfl;(with_reducible repeat(first|refine blk_drewN ?_ _|refine blk_drew ?_|refine blk_alloc ?_ _));refine blk_put (cs:= #[.int .i64 a0_0,.int .i64 a0_1,.int .i64 a0_2,.int .i64 t312,.int .i64 0,.int .i64 0]) ?_ 4 _ rfl;(with_reducible repeat(first|refine blk_drewN ?_ _|refine blk_drew ?_|refine blk_alloc ?_ _));refine blk_put (cs:= #[.int .i64 a0_0,.int .i64 a0_1,.int .i64 a0_2,.int .i64 0,.int .i64 0,.int .i64 0]) ?_ 3 _ rfl;(with_reducible repeat(first|refine blk_drewN ?_ _|refine blk_drew ?_|refine blk_alloc ?_ _));exact BK311.out))⟩;have n3_:Aside0 (Below w.heap.size w w14):=⟨(by rw[hw];exact z7_35)⟩;clear hw;clear BK309;clear BK310;clear BK311;clear HB;have BK309:=n0_;have BK310:=n1_;have BK311:=n2_;have HB:=n3_;clear n0_ n1_ n2_ n3_))
 refine bodyPost_ret (results_cell_row rfl _ _ gb310 77 #[.int .i64 a0_0,.int .i64 a0_1,.int .i64 a0_2,.int .i64 t312,.int .i64 t313,.int .i64 t314] (0,0) _ rfl z7_24 Tryz.underlying77 rfl z7_33) rfl ?_
 exact⟨by first|rfl|(simp[errW_none,errW_some]<;>rfl)|(simp[*,errW_none,errW_some]<;>rfl)|(simp[*,errW_none,errW_some,i64_w];done),by repeat(first|(with_reducible first|exact HB.out|apply Zh|apply Ze|apply Zd|refine Zg ?_ GE309.out|refine Zg ?_ GE310.out|refine Zg ?_ GE311.out)|exact HB.out)⟩
def laws_toStmtS.l0:Nat→List (S112)→List (S77)→Int→Option ((List (S77)))
 |0,_,_,_=>none
 |k+1,x0,x3,x4=>if x4<(x0.length:Int) then (if 0≤x4 then ((laws_toStmt.f ((rd_T112 x0 x4).f0) ((rd_T112 x0 x4).f1) ((rd_T112 x0 x4).f2) ((rd_T112 x0 x4).f3.f0) ((rd_T112 x0 x4).f3.f1) ((rd_T112 x0 x4).f3.f2)).bind fun bt319=>(if x4<(x3.length:Int) then (laws_toStmtS.l0 k x0 (x3.set (x4:Int).toNat (⟨bt319.1,bt319.2.1,bt319.2.2.1,(⟨bt319.2.2.2.1,bt319.2.2.2.2.1,bt319.2.2.2.2.2⟩:S53)⟩:S77)) (wrap64 (x4+1))) else (none))) else (none)) else (some x3)
def laws_toStmtS.f (k:Nat) (l0:List (S112)):Option ((List (S77))):=if 0≤(l0.length:Int) then (if ((l0.length:Int):Int).toNat≤5864062014805 then (laws_toStmtS.l0 k l0 (List.replicate ((l0.length:Int):Int).toNat z77) 0) else (none)) else (none)
set_option maxHeartbeats 8000000 in
set_option maxRecDepth 100000 in
theorem laws_toStmtS.calls (k:Nat) (A0:Option Addr) (c0:Nat) (l0:List (S112)) (r:List (S77)) (w:World) (hr0:Kd.C k112 w A0 l0.length l0) (hc0:l0.length≤c0) (h:laws_toStmtS.f k l0=some r):
  Calls Tryz.prog 85 #[.slice A0 l0.length c0] w fun e w'=>∃v0_:Value,e= .returned (v0_)∧Kd.R k77 77 w' w.heap.size (fun _=>True) v0_ r∧Below w.heap.size w w':=by
 have hu112:=Tryz.underlying112
 have hu77:=Tryz.underlying77
 have HR0:=Za hr0
 have HC0:=Za hc0
 clear hr0 hc0
 have HB:=Za (Yc w.heap.size w)
 have H:(if 0≤(l0.length:Int) then (if ((l0.length:Int):Int).toNat≤5864062014805 then (laws_toStmtS.l0 k l0 (List.replicate ((l0.length:Int):Int).toNat z77) 0) else (none)) else (none))=some r:=h
 clear h
 by_cases c2:0≤(l0.length:Int)
 ·rw[if_pos c2] at H
  have c2b0:=eq_true c2
  have c2b1:decide (0≤(l0.length:Int))=true:=Zq c2
  clear c2
  by_cases c3:((l0.length:Int):Int).toNat≤5864062014805
  ·rw[if_pos c3] at H
   have c3b0:=eq_true c3
   have c3b1:decide (((l0.length:Int):Int).toNat≤5864062014805)=true:=Zq c3
   clear c3
   obtain⟨y315,hy315⟩:∃y_:List (S77),y_=(List.replicate ((l0.length:Int):Int).toNat z77):=⟨_,rfl⟩
   replace H:(laws_toStmtS.l0 k l0 y315 0)=some r:=by first|(rw[hy315];with_reducible exact H)|(have H2_:=(Yk _ _).symm.trans H;rw[hy315];with_reducible exact H2_)|(have H2_:=(Yk _ _).symm.trans H;with_reducible exact H2_)|with_reducible exact H|(rw[hy315];exact H)|exact H
   have Ny315:=Za hy315
   clear hy315
   have H':=Za H
   clear H
   go_enter Tryz.func85,Tryz.ntmps85
   go_wp2_with (first|((with_reducible refine Zr (N:=7) rfl ?_);refine Kd.R_make k77 _ 77 rfl (N:=7) rfl 51 _ _ rfl (l0.length:Int) rfl rfl Tryz.underlying51 (.agg #[(.int .i64 0),(.int .i64 0),(.int .i64 0),(.int .i64 0),(.int .i64 0),(.int .i64 0)]) 48 info77 rfl (by decide) (by omega) z77 (ok:=fun _=>True) (okp:=fun _=>True) (k77_mkM _ _ _ z77) (fun _ hk=>hk) trivial (Zj z7_3) (Nat.le_trans (Nat.mul_le_mul_right _ (Zj z7_3:(l0.length:Int).toNat≤5864062014805)) (by omega)) (Yc _ _) (Nat.le_refl _) ?_;intro v316 w4 ho5 hb hg_ hnew_;clear hg_ hnew_;(first|rw[←Ny315.out] at ho5|(simp only[Int.reduceToNat] at ho5;rw[←Ny315.out] at ho5));have HO317:=Za (Yq ho5 (Zt z7_0));replace HB:=Za (Zi z7_0 hb);clear hb ho5))
   go_loopg [4] k (fun kq v4 w'=>∃(x3_1:List (S77)) (x4_1:Int),v4= .int .i64 x4_1∧Aside0 (laws_toStmtS.l0 kq l0 x3_1 x4_1=some r)∧Aside0 (kq≤k)∧Aside0 (Kd.R k77 77 w' w.heap.size (fun _=>True) v316 x3_1)∧Aside0 (Below w.heap.size w w'))
   case atStart=>exact⟨(y315),(0),z7_15,H',⟨Nat.le_refl _⟩,⟨by(with_reducible repeat(first|apply Zp|apply Zo|apply Zn));exact HO317.out⟩,⟨by repeat(first|(with_reducible first|exact HB.out|apply Zh|apply Ze|apply Zd)|exact HB.out)⟩⟩
   case round=>
    clear H'
    (try clear c2);(try clear c2b0);(try clear c2b1);(try clear c3);(try clear c3b0);(try clear c3b1)
    obtain⟨x3_1,x4_1,rfl,HA,HK1,HO_3,HB⟩:=hrel
    cases gk with
    |zero=>exact absurd HA.out (by simp[laws_toStmtS.l0])
    |succ k1=>
     have H:=HA.out
     clear HA
     simp only[laws_toStmtS.l0] at H
     by_cases c6:x4_1<(l0.length:Int)
     ·rw[if_pos c6] at H
      have c6b0:decide (x4_1<(l0.length:Int))=true:=Zq c6
      clear c6
      by_cases c7:0≤x4_1
      ·rw[if_pos c7] at H
       have c7b0:decide (0≤x4_1)=true:=Zq c7
       clear c7
       replace H:=Zl H
       obtain⟨⟨t319,t320,t321,t322,t323,t324⟩,A80,H⟩:=H
       replace H:(if x4_1<(x3_1.length:Int) then (laws_toStmtS.l0 k1 l0 (x3_1.set (x4_1:Int).toNat (⟨t319,t320,t321,(⟨t322,t323,t324⟩:S53)⟩:S77)) (wrap64 (x4_1+1))) else (none))=some r:=H
       have A8:=Za A80
       clear A80
       by_cases c9:x4_1<(x3_1.length:Int)
       ·rw[if_pos c9] at H
        have c9b0:decide (x4_1<(x3_1.length:Int))=true:=Zq c9
        clear c9
        obtain⟨y325,hy325⟩:∃y_:List (S77),y_=(x3_1.set (x4_1:Int).toNat (⟨t319,t320,t321,(⟨t322,t323,t324⟩:S53)⟩:S77)):=⟨_,rfl⟩
        replace H:(laws_toStmtS.l0 k1 l0 y325 (wrap64 (x4_1+1)))=some r:=by first|(rw[hy325];with_reducible exact H)|(have H2_:=(Yk _ _).symm.trans H;rw[hy325];with_reducible exact H2_)|(have H2_:=(Yk _ _).symm.trans H;with_reducible exact H2_)|with_reducible exact H|(rw[hy325];exact H)|exact H
        have Ny325:=Za hy325
        clear hy325
        have H':=Za H
        clear H
        have p318:0≤(x4_1:Int):=Zj z7_3
        have q318:x4_1<(l0.length:Int):=Zj z7_3
        obtain⟨ad318,e318,hx318_0,hx318_1,hx318_2,hx318_3,hx318_4,hx318_5⟩:=at_T112 HR0.out x4_1 p318 q318
        cases e318
        replace hx318_0:=(HB.out.cell (Zf w _ hx318_0)).trans hx318_0
        replace hx318_1:=(HB.out.cell (Zf w _ hx318_1)).trans hx318_1
        replace hx318_2:=(HB.out.cell (Zf w _ hx318_2)).trans hx318_2
        replace hx318_3:=(HB.out.cell (Zf w _ hx318_3)).trans hx318_3
        replace hx318_4:=(HB.out.cell (Zf w _ hx318_4)).trans hx318_4
        replace hx318_5:=(HB.out.cell (Zf w _ hx318_5)).trans hx318_5
        replace p318:=eq_true p318
        replace q318:=eq_true q318
        go_wp2_with (first|((first|((with_reducible refine gate_callee (f:=110) rfl ?_);refine goesL_ (some 20) rfl rfl Tryz.func110 z7_33 rfl #[.agg #[.int .i64 ((rd_T112 l0 x4_1).f0),.int .i64 ((rd_T112 l0 x4_1).f1),.int .i64 ((rd_T112 l0 x4_1).f2),.int .i64 ((rd_T112 l0 x4_1).f3.f0),.int .i64 ((rd_T112 l0 x4_1).f3.f1),.int .i64 ((rd_T112 l0 x4_1).f3.f2)]] rfl z7_1 ?_;(with_reducible refine(laws_toStmt.calls ((rd_T112 l0 x4_1).f0) ((rd_T112 l0 x4_1).f1) ((rd_T112 l0 x4_1).f2) ((rd_T112 l0 x4_1).f3.f0) ((rd_T112 l0 x4_1).f3.f1) ((rd_T112 l0 x4_1).f3.f2) t319 t320 t321 t322 t323 t324 _ A8.out).mono ?_))|(go_at_call 110;(with_reducible refine(laws_toStmt.calls ((rd_T112 l0 x4_1).f0) ((rd_T112 l0 x4_1).f1) ((rd_T112 l0 x4_1).f2) ((rd_T112 l0 x4_1).f3.f0) ((rd_T112 l0 x4_1).f3.f1) ((rd_T112 l0 x4_1).f3.f2) t319 t320 t321 t322 t323 t324 _ A8.out).mono ?_)));rintro e w11 ⟨rfl,hb⟩;(first|refine⟨_,rfl,?_⟩|skip);replace HO_3:=Za (Kd.R_below z7_32 hb);replace HB:=Za (Zi z7_0 hb);(try clear hb);(try clear hb2);(try clear hk);(try clear hi);have p10:0≤(x4_1:Int):=Zj z7_3;have q10:(x4_1:Int)<((x3_1.length:Int):Int):=Zj z7_3;obtain⟨go10,co10,eo10,gb10,gl10,cl10,HG10⟩:=Kd.R_form HO_3.out (by omega);(first|cases eo10|(injection eo10 with ea_ en_ ec_;(first|subst ea_|(injection ea_ with ea_;subst ea_));subst ec_;clear en_));have GB10:=Za gb10;have GG10:=Za HG10;clear gb10 gl10 HG10;obtain⟨ce10,hcl10,hM10,hcc10,hfr10⟩:=Kd.R_elem HO_3.out z77 (x4_1:Int) p10 q10;obtain rfl:=k77_openM hM10;have hx10_0:w11.cell? ⟨go10,(x4_1:Int).toNat*6,none⟩=some (.int .i64 ((rd_T77 x3_1 x4_1).f0)):=hcc10 0 _ rfl;have hx10_1:w11.cell? ⟨go10,(x4_1:Int).toNat*6+1,none⟩=some (.int .i64 ((rd_T77 x3_1 x4_1).f1)):=hcc10 1 _ rfl;have hx10_2:w11.cell? ⟨go10,(x4_1:Int).toNat*6+2,none⟩=some (.int .i64 ((rd_T77 x3_1 x4_1).f2)):=hcc10 2 _ rfl;have hx10_3:w11.cell? ⟨go10,(x4_1:Int).toNat*6+3,none⟩=some (.int .i64 ((rd_T77 x3_1 x4_1).f3.f0)):=hcc10 3 _ rfl;have hx10_4:w11.cell? ⟨go10,(x4_1:Int).toNat*6+4,none⟩=some (.int .i64 ((rd_T77 x3_1 x4_1).f3.f1)):=hcc10 4 _ rfl;have hx10_5:w11.cell? ⟨go10,(x4_1:Int).toNat*6+5,none⟩=some (.int .i64 ((rd_T77 x3_1 x4_1).f3.f2)):=hcc10 5 _ rfl;have hf10_0:w11.frozen? ⟨go10,(x4_1:Int).toNat*6,none⟩=false:=hfr10 0;have hf10_1:w11.frozen? ⟨go10,(x4_1:Int).toNat*6+1,none⟩=false:=hfr10 1;have hf10_2:w11.frozen? ⟨go10,(x4_1:Int).toNat*6+2,none⟩=false:=hfr10 2;have hf10_3:w11.frozen? ⟨go10,(x4_1:Int).toNat*6+3,none⟩=false:=hfr10 3;have hf10_4:w11.frozen? ⟨go10,(x4_1:Int).toNat*6+4,none⟩=false:=hfr10 4;have hf10_5:w11.frozen? ⟨go10,(x4_1:Int).toNat*6+5,none⟩=false:=hfr10 5;clear hcl10 hcc10 hfr10;(try clear hM10);replace p10:=eq_true p10;replace q10:=eq_true q10;have HX12:=Za (show Kd.R k77 77 w11 w.heap.size (fun _=>True) (.slice (some ⟨go10,0,none⟩) x3_1.length co10) x3_1 from z7_32);obtain⟨ce12,hcl12,hM12,hcc12,hfr12⟩:=Kd.R_elem HX12.out z77 (x4_1:Int) (Zj z7_3) (by have h_:(x4_1:Int)<((x3_1.length:Int):Int):=Zj z7_3;first|exact h_|(have e_:=(Yd HO_3.out).1;omega)|simpa using h_);obtain rfl:=k77_openM hM12;have HP12:=Kd.R_seg HX12.out (x4_1:Int) (Zj z7_3) (by have h_:(x4_1:Int)<((x3_1.length:Int):Int):=Zj z7_3;first|exact h_|(have e_:=(Yd HO_3.out).1;omega)|simpa using h_) (seg:=[.int .i64 t319,.int .i64 t320,.int .i64 t321,.int .i64 t322,.int .i64 t323,.int .i64 t324]) (j:=0) hcl12 hcc12 (show 6≤6 from by decide) (x':=(⟨t319,t320,t321,(⟨t322,t323,t324⟩:S53)⟩:S77)) (k77_mkM _ _ _ (⟨t319,t320,t321,(⟨t322,t323,t324⟩:S53)⟩:S77)) (fun _ hk=>hk);have hx12_0:=hcc12 0 _ rfl;(try simp only[show(k77).sz=6 from rfl,Nat.mul_one,Nat.add_zero] at hx12_0);have hf12_0:=hfr12 0;(try simp only[show(k77).sz=6 from rfl,Nat.mul_one,Nat.add_zero] at hf12_0);have hx12_1:=hcc12 1 _ rfl;(try simp only[show(k77).sz=6 from rfl,Nat.mul_one,Nat.add_zero] at hx12_1);have hf12_1:=hfr12 1;(try simp only[show(k77).sz=6 from rfl,Nat.mul_one,Nat.add_zero] at hf12_1);have hx12_2:=hcc12 2 _ rfl;(try simp only[show(k77).sz=6 from rfl,Nat.mul_one,Nat.add_zero] at hx12_2);have hf12_2:=hfr12 2;(try simp only[show(k77).sz=6 from rfl,Nat.mul_one,Nat.add_zero] at hf12_2);have hx12_3:=hcc12 3 _ rfl;(try simp only[show(k77).sz=6 from rfl,Nat.mul_one,Nat.add_zero] at hx12_3);have hf12_3:=hfr12 3;(try simp only[show(k77).sz=6 from rfl,Nat.mul_one,Nat.add_zero] at hf12_3);have hx12_4:=hcc12 4 _ rfl;(try simp only[show(k77).sz=6 from rfl,Nat.mul_one,Nat.add_zero] at hx12_4);have hf12_4:=hfr12 4;(try simp only[show(k77).sz=6 from rfl,Nat.mul_one,Nat.add_zero] at hf12_4);have hx12_5:=hcc12 5 _ rfl;(try simp only[show(k77).sz=6 from rfl,Nat.mul_one,Nat.add_zero] at hx12_5);have hf12_5:=hfr12 5;(try simp only[show(k77).sz=6 from rfl,Nat.mul_one,Nat.add_zero] at hf12_5);clear hcl12 hcc12 hfr12;(try clear hM12))|((with_reducible refine Ym (t:=77) (p:=21) rfl ?_);refine Yl (t:=77) (p:=21) (v:= ?vo_w13) (w1:=((((((w11.setCell ⟨go10,(x4_1:Int).toNat*6,none⟩ (.int .i64 t319)).setCell ⟨go10,(x4_1:Int).toNat*6+1,none⟩ (.int .i64 t320)).setCell ⟨go10,(x4_1:Int).toNat*6+2,none⟩ (.int .i64 t321)).setCell ⟨go10,(x4_1:Int).toNat*6+3,none⟩ (.int .i64 t322)).setCell ⟨go10,(x4_1:Int).toNat*6+4,none⟩ (.int .i64 t323)).setCell ⟨go10,(x4_1:Int).toNat*6+5,none⟩ (.int .i64 t324))) ?hg ?ho ?hn ?hr ?_;(case ho=>rfl);(case hg=>rfl);(case hn=>rfl);(case hr=>exact z7_6);intro w13 hw;have hg:w11.grownBy w13 (some go10):=(by rw[hw];exact HP12.2);have hp_:Kd.R k77 77 w13 w.heap.size (fun _=>True) (.slice (some ⟨go10,0,none⟩) x3_1.length co10) y325:=(by rw[hw,Ny325.out];exact HP12.1);clear HP12;replace HO_3:=Za (hp_);replace HB:=Za ((by rw[hw];exact Zg (Zg (Zg (Zg (Zg (Zg (HB.out) GB10.out) GB10.out) GB10.out) GB10.out) GB10.out) GB10.out:Below w.heap.size w w13));clear hg hw hp_))
        go_roundg k1
        case measure=>have:=HK1.out;omega
        case rel=>exact⟨(y325),(wrap64 (x4_1+1)),z7_15,H',⟨by have:=HK1.out;omega⟩,⟨by(with_reducible repeat(first|apply Zp|apply Zo|apply Zn));exact HO_3.out⟩,⟨by repeat(first|(with_reducible first|exact HB.out|apply Zh|apply Ze|apply Zd)|exact HB.out)⟩⟩
       ·rw[if_neg c9] at H
        exact absurd H (by simp)
      ·rw[if_neg c7] at H
       exact absurd H (by simp)
     ·rw[if_neg c6] at H
      have c6b0:decide (x4_1<(l0.length:Int))=false:=Yg c6
      clear c6
      obtain rfl:=Zm H
      go_wp2
      go_ret
      exact⟨_,by first|rfl|(simp[errW_none,errW_some]<;>rfl)|(simp[*,errW_none,errW_some]<;>rfl)|(simp[*,errW_none,errW_some,i64_w];done),by(with_reducible repeat(first|apply Zp|apply Zo|apply Zn));exact HO_3.out,by repeat(first|(with_reducible first|exact HB.out|apply Zh|apply Ze|apply Zd)|exact HB.out)⟩
  ·rw[if_neg c3] at H
   exact absurd H (by simp)
 ·rw[if_neg c2] at H
  exact absurd H (by simp)
def laws_toTask.f (k:Nat) (l0_0:List (S112)) (a0_1:Int) (a0_2:Int) (a0_3:Int):Option ((List (S77))×Int×Int×Int):=(laws_toStmtS.f k l0_0).bind fun t329=>((laws_toExpr.f a0_1 a0_2 a0_3).bind fun bt332=>(some (t329,bt332.1,bt332.2.1,bt332.2.2)))
set_option maxHeartbeats 8000000 in
set_option maxRecDepth 100000 in
theorem laws_toTask.calls (k:Nat) (A0_0:Option Addr) (c0_0:Nat) (l0_0:List (S112)) (a0_1:Int) (a0_2:Int) (a0_3:Int) (r1:List (S77)) (r2:Int) (r3:Int) (r4:Int) (w:World) (hr0_0:Kd.C k112 w A0_0 l0_0.length l0_0) (hc0_0:l0_0.length≤c0_0) (h:laws_toTask.f k l0_0 a0_1 a0_2 a0_3=some (r1,r2,r3,r4)):
  Calls Tryz.prog 56 #[.agg #[.slice A0_0 l0_0.length c0_0,.int .i64 a0_1,.int .i64 a0_2,.int .i64 a0_3]] w fun e w'=>∃v0_:Value,e= .returned (.agg #[v0_,.int .i64 r2,.int .i64 r3,.int .i64 r4])∧Kd.R k77 77 w' w.heap.size (fun _=>True) v0_ r1∧Below w.heap.size w w':=by
 have hu68:=Tryz.underlying68
 have hu55:=Tryz.underlying55
 have hu66:=Tryz.underlying66
 have hu53:=Tryz.underlying53
 have HR0_0:=Za hr0_0
 have HC0_0:=Za hc0_0
 clear hr0_0 hc0_0
 have HB:=Za (Yc w.heap.size w)
 have H:((laws_toStmtS.f k l0_0).bind fun t329=>((laws_toExpr.f a0_1 a0_2 a0_3).bind fun bt332=>(some (t329,bt332.1,bt332.2.1,bt332.2.2))))=some (r1,r2,r3,r4):=h
 clear h
 replace H:=Zl H
 obtain⟨t329,A20,H⟩:=H
 replace H:((laws_toExpr.f a0_1 a0_2 a0_3).bind fun bt332=>(some (t329,bt332.1,bt332.2.1,bt332.2.2)))=some (r1,r2,r3,r4):=H
 have A2:=Za A20
 clear A20
 replace H:=Zl H
 obtain⟨⟨t332,t333,t334⟩,A30,H⟩:=H
 replace H:(some (t329,t332,t333,t334))=some (r1,r2,r3,r4):=H
 have A3:=Za A30
 clear A30
 simp only[Option.some.injEq,Prod.mk.injEq] at H
 obtain⟨rfl,rfl,rfl,rfl⟩:=H
 go_enter Tryz.func56,Tryz.ntmps56
 go_wp2_with (first|((with_reducible refine Zr (N:=1) rfl ?_);refine Zs ?hg (N:=1) ?hd (cs:= #[.slice A0_0 l0_0.length c0_0,.int .i64 a0_1,.int .i64 a0_2,.int .i64 a0_3]) (t:=68) ?hr ?_;(case hd=>rfl);(case hg=>rfl);(case hr=>exact z7_6);intro gb326 hg w4 hbox hb;have BK326:=Za (hbox);have GW326:=Za ((z7_36:w.heap.size≤gb326));have GE326:=Za ((z7_36:w.heap.size≤gb326));replace HB:=Za (Zi z7_0 hb);clear hb hbox hg)|((with_reducible refine Zr (N:=2) rfl ?_);refine Zs ?hg (N:=2) ?hd (cs:= #[.slice none 0 0,.int .i64 0,.int .i64 0,.int .i64 0]) (t:=55) ?hr ?_;(case hd=>rfl);(case hg=>rfl);(case hr=>exact z7_6);intro gb327 hg w5 hbox hb;have BK327:=Za (hbox);have GW327:=Za ((by rw[hg];exact(Zt z7_28):w.heap.size≤gb327));have GE327:=Za ((by rw[hg];exact(Zt z7_28):w.heap.size≤gb327));replace HB:=Za (Zi z7_28 hb);have NB326_327:=Za ((by rw[hg];exact Nat.ne_of_lt (blk_lt (g:=gb326) (o:= .cells #[.slice A0_0 l0_0.length c0_0,.int .i64 a0_1,.int .i64 a0_2,.int .i64 a0_3] 68 (0,0)) z7_10):gb326≠gb327));have NB327_326:=Za ((by rw[hg];exact Nat.ne_of_gt (blk_lt (g:=gb326) (o:= .cells #[.slice A0_0 l0_0.length c0_0,.int .i64 a0_1,.int .i64 a0_2,.int .i64 a0_3] 68 (0,0)) z7_10):gb327≠gb326));replace BK326:=Za (Zk (g:=gb326) (o:= .cells #[.slice A0_0 l0_0.length c0_0,.int .i64 a0_1,.int .i64 a0_2,.int .i64 a0_3] 68 (0,0)) z7_10 hb);clear hb hbox hg)|((with_reducible refine Zr (N:=3) rfl ?_);refine Zs ?hg (N:=3) ?hd (cs:= #[.slice none 0 0,.int .i64 0,.int .i64 0,.int .i64 0]) (t:=55) ?hr ?_;(case hd=>rfl);(case hg=>rfl);(case hr=>exact z7_6);intro gb328 hg w6 hbox hb;have BK328:=Za (hbox);have GW328:=Za ((by rw[hg];exact(Zt z7_20):w.heap.size≤gb328));have GE328:=Za ((by rw[hg];exact(Zt z7_20):w.heap.size≤gb328));replace HB:=Za (Zi z7_20 hb);have NB326_328:=Za ((by rw[hg];exact Nat.ne_of_lt (blk_lt (g:=gb326) (o:= .cells #[.slice A0_0 l0_0.length c0_0,.int .i64 a0_1,.int .i64 a0_2,.int .i64 a0_3] 68 (0,0)) z7_10):gb326≠gb328));have NB328_326:=Za ((by rw[hg];exact Nat.ne_of_gt (blk_lt (g:=gb326) (o:= .cells #[.slice A0_0 l0_0.length c0_0,.int .i64 a0_1,.int .i64 a0_2,.int .i64 a0_3] 68 (0,0)) z7_10):gb328≠gb326));replace BK326:=Za (Zk (g:=gb326) (o:= .cells #[.slice A0_0 l0_0.length c0_0,.int .i64 a0_1,.int .i64 a0_2,.int .i64 a0_3] 68 (0,0)) z7_10 hb);have NB327_328:=Za ((by rw[hg];exact Nat.ne_of_lt (blk_lt (g:=gb327) (o:= .cells #[.slice none 0 0,.int .i64 0,.int .i64 0,.int .i64 0] 55 (0,0)) z7_17):gb327≠gb328));have NB328_327:=Za ((by rw[hg];exact Nat.ne_of_gt (blk_lt (g:=gb327) (o:= .cells #[.slice none 0 0,.int .i64 0,.int .i64 0,.int .i64 0] 55 (0,0)) z7_17):gb328≠gb327));replace BK327:=Za (Zk (g:=gb327) (o:= .cells #[.slice none 0 0,.int .i64 0,.int .i64 0,.int .i64 0] 55 (0,0)) z7_17 hb);clear hb hbox hg;have hnb7:=NB326_327.out;have hnc7:=NB327_326.out;have hnb8:=NB326_328.out;have hnc8:=NB328_326.out;have hcz9_0:w6.cell? ⟨gb326,0,none⟩=some (.slice A0_0 l0_0.length c0_0):=(Zb BK326.out 0).trans rfl;have hcz9_1:w6.cell? ⟨gb326,1,none⟩=some (.int .i64 a0_1):=(Zb BK326.out 1).trans rfl;have hcz9_2:w6.cell? ⟨gb326,2,none⟩=some (.int .i64 a0_2):=(Zb BK326.out 2).trans rfl;have hcz9_3:w6.cell? ⟨gb326,3,none⟩=some (.int .i64 a0_3):=(Zb BK326.out 3).trans rfl;have hfz9_0:=Zc BK326.out 0;have hfz9_1:=Zc BK326.out 1;have hfz9_2:=Zc BK326.out 2;have hfz9_3:=Zc BK326.out 3)|((first|((with_reducible refine gate_callee (f:=85) rfl ?_);refine goesL_ (some 6) rfl rfl Tryz.func85 z7_33 rfl #[.slice A0_0 l0_0.length c0_0] rfl z7_1 ?_;(with_reducible refine(laws_toStmtS.calls k _ _ l0_0 t329 _ ?side1 ?side2 A2.out).mono ?_))|(go_at_call 85;(with_reducible refine(laws_toStmtS.calls k _ _ l0_0 t329 _ ?side1 ?side2 A2.out).mono ?_)));(case side1=>exact z7_5);(case side2=>exact HC0_0.out);rintro e w10 ⟨v330,rfl,ho0,hb⟩;(first|refine⟨_,rfl,?_⟩|skip);have HO331:=Za (Yq ho0 (Zt z7_12));replace BK326:=Za (Zk (g:=gb326) (o:= .cells #[.slice A0_0 l0_0.length c0_0,.int .i64 a0_1,.int .i64 a0_2,.int .i64 a0_3] 68 (0,0)) z7_10 hb);replace BK327:=Za (Zk (g:=gb327) (o:= .cells #[.slice none 0 0,.int .i64 0,.int .i64 0,.int .i64 0] 55 (0,0)) z7_17 hb);replace BK328:=Za (Zk (g:=gb328) (o:= .cells #[.slice none 0 0,.int .i64 0,.int .i64 0,.int .i64 0] 55 (0,0)) (by(with_reducible repeat(first|refine blk_drewN ?_ _|refine blk_drew ?_|refine blk_alloc ?_ _));exact BK328.out) hb);replace HB:=Za (Zi z7_12 hb);(try clear hb);(try clear hb2);(try clear hk);(try clear hi);(try clear ho0);obtain⟨Ao11,co11,eo11⟩:=Yp HO331.out;subst eo11;have hnb12:=NB328_327.out;have hnc12:=NB327_328.out;have hcz13_0:w10.cell? ⟨gb328,0,none⟩=some (.slice none 0 0):=(Zb BK328.out 0).trans rfl;have hcz13_1:w10.cell? ⟨gb328,1,none⟩=some (.int .i64 0):=(Zb BK328.out 1).trans rfl;have hcz13_2:w10.cell? ⟨gb328,2,none⟩=some (.int .i64 0):=(Zb BK328.out 2).trans rfl;have hcz13_3:w10.cell? ⟨gb328,3,none⟩=some (.int .i64 0):=(Zb BK328.out 3).trans rfl;have hfz13_0:=Zc BK328.out 0;have hfz13_1:=Zc BK328.out 1;have hfz13_2:=Zc BK328.out 2;have hfz13_3:=Zc BK328.out 3;have hcz14_0:w10.cell? ⟨gb326,0,none⟩=some (.slice A0_0 l0_0.length c0_0):=(Zb BK326.out 0).trans rfl;have hcz14_1:w10.cell? ⟨gb326,1,none⟩=some (.int .i64 a0_1):=(Zb BK326.out 1).trans rfl;have hcz14_2:w10.cell? ⟨gb326,2,none⟩=some (.int .i64 a0_2):=(Zb BK326.out 2).trans rfl;have hcz14_3:w10.cell? ⟨gb326,3,none⟩=some (.int .i64 a0_3):=(Zb BK326.out 3).trans rfl;have hfz14_0:=Zc BK326.out 0;have hfz14_1:=Zc BK326.out 1;have hfz14_2:=Zc BK326.out 2;have hfz14_3:=Zc BK326.out 3)|((first|((with_reducible refine gate_callee (f:=86) rfl ?_);refine goesL_ (some 10) rfl rfl Tryz.func86 z7_33 rfl #[.agg #[.int .i64 a0_1,.int .i64 a0_2,.int .i64 a0_3]] rfl z7_1 ?_;(with_reducible refine(laws_toExpr.calls a0_1 a0_2 a0_3 t332 t333 t334 _ A3.out).mono ?_))|(go_at_call 86;(with_reducible refine(laws_toExpr.calls a0_1 a0_2 a0_3 t332 t333 t334 _ A3.out).mono ?_)));rintro e w15 ⟨rfl,hb⟩;(first|refine⟨_,rfl,?_⟩|skip);replace HO331:=Za (Kd.R_below (by(with_reducible repeat(first|apply Zp|apply Zo|apply Zn));exact(Yf (Kd.R_far (p:=⟨gb328,0,none⟩) (Kd.R_types HO331.out BK328.out (by decide)) (fun _ hk=>hk.2) (.slice Ao11 t329.length co11)) (fun _ h_=>h_.1))) hb);replace BK326:=Za (Zk (g:=gb326) (o:= .cells #[.slice A0_0 l0_0.length c0_0,.int .i64 a0_1,.int .i64 a0_2,.int .i64 a0_3] 68 (0,0)) (by(with_reducible repeat(first|refine blk_drewN ?_ _|refine blk_drew ?_|refine blk_alloc ?_ _));refine blk_far ?_ NB326_328.out _;(with_reducible repeat(first|refine blk_drewN ?_ _|refine blk_drew ?_|refine blk_alloc ?_ _));exact BK326.out) hb);replace BK327:=Za (Zk (g:=gb327) (o:= .cells #[.slice none 0 0,.int .i64 0,.int .i64 0,.int .i64 0] 55 (0,0)) (by(with_reducible repeat(first|refine blk_drewN ?_ _|refine blk_drew ?_|refine blk_alloc ?_ _));refine blk_far ?_ NB327_328.out _;(with_reducible repeat(first|refine blk_drewN ?_ _|refine blk_drew ?_|refine blk_alloc ?_ _));exact BK327.out) hb);replace BK328:=Za (Zk (g:=gb328) (o:= .cells #[.slice Ao11 t329.length co11,.int .i64 0,.int .i64 0,.int .i64 0] 55 (0,0)) (by(with_reducible repeat(first|refine blk_drewN ?_ _|refine blk_drew ?_|refine blk_alloc ?_ _));refine blk_put (cs:= #[.slice none 0 0,.int .i64 0,.int .i64 0,.int .i64 0]) ?_ 0 _ rfl;(with_reducible repeat(first|refine blk_drewN ?_ _|refine blk_drew ?_|refine blk_alloc ?_ _));exact BK328.out) hb);replace HB:=Za (Zi z7_12 hb);(try clear hb);(try clear hb2);(try clear hk);(try clear hi);have hcz16_0:w15.cell? ⟨gb328,0,none⟩=some (.slice Ao11 t329.length co11):=(Zb BK328.out 0).trans rfl;have hcz16_1:w15.cell? ⟨gb328,1,none⟩=some (.int .i64 0):=(Zb BK328.out 1).trans rfl;have hcz16_2:w15.cell? ⟨gb328,2,none⟩=some (.int .i64 0):=(Zb BK328.out 2).trans rfl;have hcz16_3:w15.cell? ⟨gb328,3,none⟩=some (.int .i64 0):=(Zb BK328.out 3).trans rfl;have hfz16_0:=Zc BK328.out 0;have hfz16_1:=Zc BK328.out 1;have hfz16_2:=Zc BK328.out 2;have hfz16_3:=Zc BK328.out 3;have hcz17_0:w15.cell? ⟨gb327,0,none⟩=some (.slice none 0 0):=(Zb BK327.out 0).trans rfl;have hcz17_1:w15.cell? ⟨gb327,1,none⟩=some (.int .i64 0):=(Zb BK327.out 1).trans rfl;have hcz17_2:w15.cell? ⟨gb327,2,none⟩=some (.int .i64 0):=(Zb BK327.out 2).trans rfl;have hcz17_3:w15.cell? ⟨gb327,3,none⟩=some (.int .i64 0):=(Zb BK327.out 3).trans rfl;have hfz17_0:=Zc BK327.out 0;have hfz17_1:=Zc BK327.out 1;have hfz17_2:=Zc BK327.out 2;have hfz17_3:=Zc BK327.out 3)|((with_reducible refine Ym (t:=55) (p:=2) rfl ?_);refine Yl (t:=55) (p:=2) (v:= ?vo_w18) (w1:=(((((((w15.setCell ⟨gb328,1,none⟩ (.int .i64 t332)).setCell ⟨gb328,2,none⟩ (.int .i64 t333)).setCell ⟨gb328,3,none⟩ (.int .i64 t334)).setCell ⟨gb327,0,none⟩ (.slice Ao11 t329.length co11)).setCell ⟨gb327,1,none⟩ (.int .i64 t332)).setCell ⟨gb327,2,none⟩ (.int .i64 t333)).setCell ⟨gb327,3,none⟩ (.int .i64 t334))) ?hg ?ho ?hn ?hr ?_;(case ho=>rfl);(case hg=>rfl);(case hn=>rfl);(case hr=>exact z7_6);intro w18 hw;have n0_:Aside0 (Kd.R k77 77 w18 w.heap.size (fun _=>True) (.slice Ao11 t329.length co11) t329):=⟨(by rw[hw];exact(by(with_reducible repeat(first|apply Zp|apply Zo|apply Zn));exact Yf (Kd.R_far (p:=⟨gb327,3,none⟩) (Kd.R_far (p:=⟨gb327,2,none⟩) (Kd.R_far (p:=⟨gb327,1,none⟩) (Kd.R_far (p:=⟨gb327,0,none⟩) (Kd.R_far (p:=⟨gb328,3,none⟩) (Kd.R_far (p:=⟨gb328,2,none⟩) (Kd.R_far (p:=⟨gb328,1,none⟩) (Kd.R_types (Kd.R_types HO331.out BK328.out (by decide)) BK327.out (by decide)) (fun _ hk=>hk.1.2) (.int .i64 t332)) (fun _ hk=>hk.1.2) (.int .i64 t333)) (fun _ hk=>hk.1.2) (.int .i64 t334)) (fun _ hk=>hk.2) (.slice Ao11 t329.length co11)) (fun _ hk=>hk.2) (.int .i64 t332)) (fun _ hk=>hk.2) (.int .i64 t333)) (fun _ hk=>hk.2) (.int .i64 t334)) (fun _ hk=>trivial)))⟩;have n1_:Aside0 (w18.heap[gb326]? =some (.cells #[.slice A0_0 l0_0.length c0_0,.int .i64 a0_1,.int .i64 a0_2,.int .i64 a0_3] 68 (0,0))):=⟨(by rw[hw];exact(by(with_reducible repeat(first|refine blk_drewN ?_ _|refine blk_drew ?_|refine blk_alloc ?_ _));refine blk_far ?_ NB326_327.out _;(with_reducible repeat(first|refine blk_drewN ?_ _|refine blk_drew ?_|refine blk_alloc ?_ _));refine blk_far ?_ NB326_327.out _;(with_reducible repeat(first|refine blk_drewN ?_ _|refine blk_drew ?_|refine blk_alloc ?_ _));refine blk_far ?_ NB326_327.out _;(with_reducible repeat(first|refine blk_drewN ?_ _|refine blk_drew ?_|refine blk_alloc ?_ _));refine blk_far ?_ NB326_327.out _;(with_reducible repeat(first|refine blk_drewN ?_ _|refine blk_drew ?_|refine blk_alloc ?_ _));refine blk_far ?_ NB326_328.out _;(with_reducible repeat(first|refine blk_drewN ?_ _|refine blk_drew ?_|refine blk_alloc ?_ _));refine blk_far ?_ NB326_328.out _;(with_reducible repeat(first|refine blk_drewN ?_ _|refine blk_drew ?_|refine blk_alloc ?_ _));refine blk_far ?_ NB326_328.out _;(with_reducible repeat(first|refine blk_drewN ?_ _|refine blk_drew ?_|refine blk_alloc ?_ _));exact BK326.out))⟩;have n2_:Aside0 (w18.heap[gb327]? =some (.cells #[.slice Ao11 t329.length co11,.int .i64 t332,.int .i64 t333,.int .i64 t334] 55 (0,0))):=⟨(by rw[hw];exact(by(with_reducible repeat(first|refine blk_drewN ?_ _|refine blk_drew ?_|refine blk_alloc ?_ _));refine blk_put (cs:= #[.slice Ao11 t329.length co11,.int .i64 t332,.int .i64 t333,.int .i64 0]) ?_ 3 _ rfl;(with_reducible repeat(first|refine blk_drewN ?_ _|refine blk_drew ?_|refine blk_alloc ?_ _));refine blk_put (cs:= #[.slice Ao11 t329.length co11,.int .i64 t332,.int .i64 0,.int .i64 0]) ?_ 2 _ rfl;(with_reducible repeat(first|refine blk_drewN ?_ _|refine blk_drew ?_|refine blk_alloc ?_ _));refine blk_put (cs:= #[.slice Ao11 t329.length co11,.int .i64 0,.int .i64 0,.int .i64 0]) ?_ 1 _ rfl;(with_reducible repeat(first|refine blk_drewN ?_ _|refine blk_drew ?_|refine blk_alloc ?_ _));refine blk_put (cs:= #[.slice none 0 0,.int .i64 0,.int .i64 0,.int .i64 0]) ?_ 0 _ rfl;(with_reducible repeat(first|refine blk_drewN ?_ _|refine blk_drew ?_|refine blk_alloc ?_ _));refine blk_far ?_ NB327_328.out _;(with_reducible repeat(first|refine blk_drewN ?_ _|refine blk_drew ?_|refine blk_alloc ?_ _));refine blk_far ?_ NB327_328.out _;(with_reducible repeat(first|refine blk_drewN ?_ _|refine blk_drew ?_|refine blk_alloc ?_ _));refine blk_far ?_ NB327_328.out _;(with_reducible repeat(first|refine blk_drewN ?_ _|refine blk_drew ?_|refine blk_alloc ?_ _));exact BK327.out))⟩;have n3_:Aside0 (w18.heap[gb328]? =some (.cells #[.slice Ao11 t329.length co11,.int .i64 t332,.int .i64 t333,.int .i64 t334] 55 (0,0))):=⟨(by rw[hw];exact(by(with_reducible repeat(first|refine blk_drewN ?_ _|refine blk_drew ?_|refine blk_alloc ?_ _));refine blk_far ?_ NB328_327.out _;(with_reducible repeat(first|refine blk_drewN ?_ _|refine blk_drew ?_|refine blk_alloc ?_ _));refine blk_far ?_ NB328_327.out _;(with_reducible repeat(first|refine blk_drewN ?_ _|refine blk_drew ?_|refine blk_alloc ?_ _));refine blk_far ?_ NB328_327.out _;(with_reducible repeat(first|refine blk_drewN ?_ _|refine blk_drew ?_|refine blk_alloc ?_ _));refine blk_far ?_ NB328_327.out _;(with_reducible repeat(first|refine blk_drewN ?_ _|refine blk_drew ?_|refine blk_alloc ?_ _));refine blk_put (cs:= #[.slice Ao11 t329.length co11,.int .i64 t332,.int .i64 t333,.int .i64 0]) ?_ 3 _ rfl;(with_reducible repeat(first|refine blk_drewN ?_ _|refine blk_drew ?_|refine blk_alloc ?_ _));refine blk_put (cs:= #[.slice Ao11 t329.length co11,.int .i64 t332,.int .i64 0,.int .i64 0]) ?_ 2 _ rfl;(with_reducible repeat(first|refine blk_drewN ?_ _|refine blk_drew ?_|refine blk_alloc ?_ _));refine blk_put (cs:= #[.slice Ao11 t329.length co11,.int .i64 0,.int .i64 0,.int .i64 0]) ?_ 1 _ rfl;(with_reducible repeat(first|refine blk_drewN ?_ _|refine blk_drew ?_|refine blk_alloc ?_ _));exact BK328.out))⟩;have n4_:Aside0 (Below w.heap.size w w18):=⟨(by rw[hw];exact z7_12)⟩;clear hw;clear HO331;clear BK326;clear BK327;clear BK328;clear HB;have HO331:=n0_;have BK326:=n1_;have BK327:=n2_;have BK328:=n3_;have HB:=n4_;clear n0_ n1_ n2_ n3_ n4_))
 refine bodyPost_ret (results_cell_row rfl _ _ gb327 55 #[.slice Ao11 t329.length co11,.int .i64 t332,.int .i64 t333,.int .i64 t334] (0,0) _ rfl z7_17 Tryz.underlying55 rfl z7_33) rfl ?_
 exact⟨_,by first|rfl|(simp[errW_none,errW_some]<;>rfl)|(simp[*,errW_none,errW_some]<;>rfl)|(simp[*,errW_none,errW_some,i64_w];done),by(with_reducible repeat(first|apply Zp|apply Zo|apply Zn));exact HO331.out,by repeat(first|(with_reducible first|exact HB.out|apply Zh|apply Ze|apply Zd|refine Zg ?_ GE326.out|refine Zg ?_ GE327.out|refine Zg ?_ GE328.out)|exact HB.out)⟩
def laws_toTaskS.l0:Nat→List (S68)→List (S55)→Int→Option ((List (S55)))
 |0,_,_,_=>none
 |k+1,x0,x3,x4=>if x4<(x0.length:Int) then (if 0≤x4 then ((laws_toTask.f k ((rd_T68 x0 x4).f0) ((rd_T68 x0 x4).f1.f0) ((rd_T68 x0 x4).f1.f1) ((rd_T68 x0 x4).f1.f2)).bind fun bt339=>(if x4<(x3.length:Int) then (laws_toTaskS.l0 k x0 (x3.set (x4:Int).toNat (⟨bt339.1,(⟨bt339.2.1,bt339.2.2.1,bt339.2.2.2⟩:S53)⟩:S55)) (wrap64 (x4+1))) else (none))) else (none)) else (some x3)
def laws_toTaskS.f (k:Nat) (l0:List (S68)):Option ((List (S55))):=if 0≤(l0.length:Int) then (if ((l0.length:Int):Int).toNat≤5864062014805 then (laws_toTaskS.l0 k l0 (List.replicate ((l0.length:Int):Int).toNat z55) 0) else (none)) else (none)
set_option maxHeartbeats 8000000 in
set_option maxRecDepth 100000 in
theorem laws_toTaskS.calls (k:Nat) (A0:Option Addr) (c0:Nat) (l0:List (S68)) (r:List (S55)) (w:World) (hr0:Kd.C k68 w A0 l0.length l0) (hc0:l0.length≤c0) (h:laws_toTaskS.f k l0=some r):
  Calls Tryz.prog 26 #[.slice A0 l0.length c0] w fun e w'=>∃v0_:Value,e= .returned (v0_)∧Kd.S k55 55 w' w.heap.size (fun _=>True) v0_ r∧Below w.heap.size w w':=by
 have hu68:=Tryz.underlying68
 have hu55:=Tryz.underlying55
 have HR0:=Za hr0
 have HC0:=Za hc0
 clear hr0 hc0
 have HB:=Za (Yc w.heap.size w)
 have H:(if 0≤(l0.length:Int) then (if ((l0.length:Int):Int).toNat≤5864062014805 then (laws_toTaskS.l0 k l0 (List.replicate ((l0.length:Int):Int).toNat z55) 0) else (none)) else (none))=some r:=h
 clear h
 by_cases c2:0≤(l0.length:Int)
 ·rw[if_pos c2] at H
  have c2b0:=eq_true c2
  have c2b1:decide (0≤(l0.length:Int))=true:=Zq c2
  clear c2
  by_cases c3:((l0.length:Int):Int).toNat≤5864062014805
  ·rw[if_pos c3] at H
   have c3b0:=eq_true c3
   have c3b1:decide (((l0.length:Int):Int).toNat≤5864062014805)=true:=Zq c3
   clear c3
   obtain⟨y335,hy335⟩:∃y_:List (S55),y_=(List.replicate ((l0.length:Int):Int).toNat z55):=⟨_,rfl⟩
   replace H:(laws_toTaskS.l0 k l0 y335 0)=some r:=by first|(rw[hy335];with_reducible exact H)|(have H2_:=(Yk _ _).symm.trans H;rw[hy335];with_reducible exact H2_)|(have H2_:=(Yk _ _).symm.trans H;with_reducible exact H2_)|with_reducible exact H|(rw[hy335];exact H)|exact H
   have Ny335:=Za hy335
   clear hy335
   have H':=Za H
   clear H
   go_enter Tryz.func26,Tryz.ntmps26
   go_wp2_with (first|((with_reducible refine Zr (N:=7) rfl ?_);refine Kd.S_make k55 _ 55 rfl (N:=7) rfl 28 _ _ rfl (l0.length:Int) rfl rfl Tryz.underlying28 (.agg #[(.slice none 0 0),(.int .i64 0),(.int .i64 0),(.int .i64 0)]) 48 info55 rfl (by decide) (by omega) z55 (ok:=fun _=>True) (okp:=fun _=>True) (k55_mkM _ _ _ z55 (Kd.R_nil _ _ _ _ _)) (fun _ hk=>hk) trivial (Zj z7_3) (Nat.le_trans (Nat.mul_le_mul_right _ (Zj z7_3:(l0.length:Int).toNat≤5864062014805)) (by omega)) (Yc _ _) (Nat.le_refl _) ?_;intro v336 w4 ho5 hb hg_ hnew_;clear hg_ hnew_;(first|rw[←Ny335.out] at ho5|(simp only[Int.reduceToNat] at ho5;rw[←Ny335.out] at ho5));have HO337:=Za (Kd.S_lower ho5 (Zt z7_0));replace HB:=Za (Zi z7_0 hb);clear hb ho5))
   go_loopg [4] k (fun kq v4 w'=>∃(x3_1:List (S55)) (x4_1:Int),v4= .int .i64 x4_1∧Aside0 (laws_toTaskS.l0 kq l0 x3_1 x4_1=some r)∧Aside0 (kq≤k)∧Aside0 (Kd.S k55 55 w' w.heap.size (fun _=>True) v336 x3_1)∧Aside0 (Below w.heap.size w w'))
   case atStart=>exact⟨(y335),(0),z7_15,H',⟨Nat.le_refl _⟩,⟨by(with_reducible repeat(first|apply Kd.S_alloc|apply Kd.S_drewN|apply Kd.S_drew));exact HO337.out⟩,⟨by repeat(first|(with_reducible first|exact HB.out|apply Zh|apply Ze|apply Zd)|exact HB.out)⟩⟩
   case round=>
    clear H'
    (try clear c2);(try clear c2b0);(try clear c2b1);(try clear c3);(try clear c3b0);(try clear c3b1)
    obtain⟨x3_1,x4_1,rfl,HA,HK1,HO_3,HB⟩:=hrel
    cases gk with
    |zero=>exact absurd HA.out (by simp[laws_toTaskS.l0])
    |succ k1=>
     have H:=HA.out
     clear HA
     simp only[laws_toTaskS.l0] at H
     by_cases c6:x4_1<(l0.length:Int)
     ·rw[if_pos c6] at H
      have c6b0:decide (x4_1<(l0.length:Int))=true:=Zq c6
      clear c6
      by_cases c7:0≤x4_1
      ·rw[if_pos c7] at H
       have c7b0:decide (0≤x4_1)=true:=Zq c7
       clear c7
       replace H:=Zl H
       obtain⟨⟨t339,t342,t343,t344⟩,A80,H⟩:=H
       replace H:(if x4_1<(x3_1.length:Int) then (laws_toTaskS.l0 k1 l0 (x3_1.set (x4_1:Int).toNat (⟨t339,(⟨t342,t343,t344⟩:S53)⟩:S55)) (wrap64 (x4_1+1))) else (none))=some r:=H
       have A8:=Za A80
       clear A80
       by_cases c9:x4_1<(x3_1.length:Int)
       ·rw[if_pos c9] at H
        have c9b0:decide (x4_1<(x3_1.length:Int))=true:=Zq c9
        clear c9
        obtain⟨y345,hy345⟩:∃y_:List (S55),y_=(x3_1.set (x4_1:Int).toNat (⟨t339,(⟨t342,t343,t344⟩:S53)⟩:S55)):=⟨_,rfl⟩
        replace H:(laws_toTaskS.l0 k1 l0 y345 (wrap64 (x4_1+1)))=some r:=by first|(rw[hy345];with_reducible exact H)|(have H2_:=(Yk _ _).symm.trans H;rw[hy345];with_reducible exact H2_)|(have H2_:=(Yk _ _).symm.trans H;with_reducible exact H2_)|with_reducible exact H|(rw[hy345];exact H)|exact H
        have Ny345:=Za hy345
        clear hy345
        have H':=Za H
        clear H
        have p338:0≤(x4_1:Int):=Zj z7_3
        have q338:x4_1<(l0.length:Int):=Zj z7_3
        obtain⟨ad338,A338_0,c338_0,e338,hx338_0,hx338_1,hx338_2,hx338_3,hl338_0,hi338_0⟩:=at_T68 HR0.out x4_1 p338 q338
        cases e338
        replace hx338_0:=(HB.out.cell (Zf w _ hx338_0)).trans hx338_0
        replace hx338_1:=(HB.out.cell (Zf w _ hx338_1)).trans hx338_1
        replace hx338_2:=(HB.out.cell (Zf w _ hx338_2)).trans hx338_2
        replace hx338_3:=(HB.out.cell (Zf w _ hx338_3)).trans hx338_3
        have HR338_0:=Za hi338_0
        have HC338_0:=Za hl338_0
        clear hi338_0 hl338_0
        replace p338:=eq_true p338
        replace q338:=eq_true q338
        go_wp2_with (first|((first|((with_reducible refine gate_callee (f:=56) rfl ?_);refine goesL_ (some 20) rfl rfl Tryz.func56 z7_33 rfl #[.agg #[.slice A338_0 ((rd_T68 l0 x4_1).f0).length c338_0,.int .i64 ((rd_T68 l0 x4_1).f1.f0),.int .i64 ((rd_T68 l0 x4_1).f1.f1),.int .i64 ((rd_T68 l0 x4_1).f1.f2)]] rfl z7_1 ?_;(with_reducible refine(laws_toTask.calls k1 _ _ ((rd_T68 l0 x4_1).f0) ((rd_T68 l0 x4_1).f1.f0) ((rd_T68 l0 x4_1).f1.f1) ((rd_T68 l0 x4_1).f1.f2) t339 t342 t343 t344 _ ?side1 ?side2 A8.out).mono ?_))|(go_at_call 56;(with_reducible refine(laws_toTask.calls k1 _ _ ((rd_T68 l0 x4_1).f0) ((rd_T68 l0 x4_1).f1.f0) ((rd_T68 l0 x4_1).f1.f1) ((rd_T68 l0 x4_1).f1.f2) t339 t342 t343 t344 _ ?side1 ?side2 A8.out).mono ?_)));(case side1=>repeat(first|exact(Yj HR338_0.out HB.out)|(with_reducible refine Yh ?_ _)|(with_reducible refine Ye ?_ _)|(with_reducible refine Yi ?_)));(case side2=>exact HC338_0.out);rintro e w11 ⟨v340,rfl,ho0,hb⟩;(first|refine⟨_,rfl,?_⟩|skip);replace HO_3:=Za (Kd.S_elder' (by(with_reducible repeat(first|apply Kd.S_alloc|apply Kd.S_drewN|apply Kd.S_drew));exact HO_3.out) (Yo ho0) hb);have HO341:=Za (Yq ho0 (Zt z7_0));replace HB:=Za (Zi z7_0 hb);(try clear hb);(try clear hb2);(try clear hk);(try clear hi);(try clear ho0);have p10:0≤(x4_1:Int):=Zj z7_3;have q10:(x4_1:Int)<((x3_1.length:Int):Int):=Zj z7_3;obtain⟨go10,co10,eo10,gb10,gl10,cl10,HG10⟩:=Kd.S_form HO_3.out (by omega);(first|cases eo10|(injection eo10 with ea_ en_ ec_;(first|subst ea_|(injection ea_ with ea_;subst ea_));subst ec_;clear en_));have GB10:=Za gb10;have GG10:=Za HG10;clear gb10 gl10 HG10;obtain⟨_,ce10,hcl10,hM10,hcc10,hfr10,_,_⟩:=Kd.S_elem HO_3.out z55 (x4_1:Int) p10 q10;obtain⟨ve10_0,rfl,ge10_0⟩:=k55_openM hM10;have hx10_0:w11.cell? ⟨go10,(x4_1:Int).toNat*4,none⟩=some (ve10_0):=hcc10 0 _ rfl;have hx10_1:w11.cell? ⟨go10,(x4_1:Int).toNat*4+1,none⟩=some (.int .i64 ((rd_T55 x3_1 x4_1).f1.f0)):=hcc10 1 _ rfl;have hx10_2:w11.cell? ⟨go10,(x4_1:Int).toNat*4+2,none⟩=some (.int .i64 ((rd_T55 x3_1 x4_1).f1.f1)):=hcc10 2 _ rfl;have hx10_3:w11.cell? ⟨go10,(x4_1:Int).toNat*4+3,none⟩=some (.int .i64 ((rd_T55 x3_1 x4_1).f1.f2)):=hcc10 3 _ rfl;have hf10_0:w11.frozen? ⟨go10,(x4_1:Int).toNat*4,none⟩=false:=hfr10 0;have hf10_1:w11.frozen? ⟨go10,(x4_1:Int).toNat*4+1,none⟩=false:=hfr10 1;have hf10_2:w11.frozen? ⟨go10,(x4_1:Int).toNat*4+2,none⟩=false:=hfr10 2;have hf10_3:w11.frozen? ⟨go10,(x4_1:Int).toNat*4+3,none⟩=false:=hfr10 3;clear hcl10 hcc10 hfr10;(try clear hM10);replace p10:=eq_true p10;replace q10:=eq_true q10;have n_:=Za (Kd.S_mono (ok':=(fun k_=>some k_≠(v340:Value).ownBlock)) HO_3.out (fun k_ hk=>hk.2));clear HO_3;have HO_3:=n_;clear n_;have HX12:=Za (show Kd.S k55 55 w11 w.heap.size (fun k_=>((fun _=>True)) k_∧¬((fun k_=>some k_=(v340:Value).ownBlock)) k_) (.slice (some ⟨go10,0,none⟩) x3_1.length co10) x3_1 from (by(with_reducible repeat(first|apply Kd.S_alloc|apply Kd.S_drewN|apply Kd.S_drew));exact Kd.S_mono HO_3.out (fun k_ hk=>⟨trivial,fun e_=>hk e_⟩)));obtain⟨oki12,ce12,hcl12,hM12,hcc12,hfr12,hoki12,hH12⟩:=Kd.S_elem HX12.out z55 (x4_1:Int) (Zj z7_3) (by have h_:(x4_1:Int)<((x3_1.length:Int):Int):=Zj z7_3;first|exact h_|(have e_:=(Kd.S_reads' HO_3.out).1;omega)|simpa using h_);obtain⟨ve12_0,rfl,ge12_0⟩:=k55_openM hM12;have HP12:=Kd.S_seg hH12 (Zj z7_3) (by have h_:(x4_1:Int)<((x3_1.length:Int):Int):=Zj z7_3;first|exact h_|(have e_:=(Kd.S_reads' HO_3.out).1;omega)|simpa using h_) (seg:=[v340,.int .i64 t342,.int .i64 t343,.int .i64 t344]) (j:=0) (show 4≤4 from by decide) (x':=(⟨t339,(⟨t342,t343,t344⟩:S53)⟩:S55)) (k55_mkM _ _ _ (⟨t339,(⟨t342,t343,t344⟩:S53)⟩:S55) (Yf (Kd.R_tight rfl (Yf (ok':=fun k_=>((fun _=>True)) k_∧k_≠go10) (Kd.R_apart' (HO341.out) (Kd.S_typed HO_3.out) (by decide)) (fun k_ hk=>⟨trivial,fun e_=>(hk.2) (by rw[e_];rfl)⟩))) (fun _ h_=>Or.inr (h_)))) (fun _ hk=>hk) (fun k_ hk_=>((Yf (ok':=fun k_=>((fun _=>True)) k_∧k_≠go10) (Kd.R_apart' (HO341.out) (Kd.S_typed HO_3.out) (by decide)) (fun k_ hk=>⟨trivial,fun e_=>(hk.2) (by rw[e_];rfl)⟩))).1 k_ hk_.symm);have hx12_0:=hcc12 0 _ rfl;(try simp only[show(k55).sz=4 from rfl,Nat.mul_one,Nat.add_zero] at hx12_0);have hf12_0:=hfr12 0;(try simp only[show(k55).sz=4 from rfl,Nat.mul_one,Nat.add_zero] at hf12_0);have hx12_1:=hcc12 1 _ rfl;(try simp only[show(k55).sz=4 from rfl,Nat.mul_one,Nat.add_zero] at hx12_1);have hf12_1:=hfr12 1;(try simp only[show(k55).sz=4 from rfl,Nat.mul_one,Nat.add_zero] at hf12_1);have hx12_2:=hcc12 2 _ rfl;(try simp only[show(k55).sz=4 from rfl,Nat.mul_one,Nat.add_zero] at hx12_2);have hf12_2:=hfr12 2;(try simp only[show(k55).sz=4 from rfl,Nat.mul_one,Nat.add_zero] at hf12_2);have hx12_3:=hcc12 3 _ rfl;(try simp only[show(k55).sz=4 from rfl,Nat.mul_one,Nat.add_zero] at hx12_3);have hf12_3:=hfr12 3;(try simp only[show(k55).sz=4 from rfl,Nat.mul_one,Nat.add_zero] at hf12_3);clear hcl12 hcc12 hfr12 hoki12 hH12;(try clear hM12))|((with_reducible refine Ym (t:=55) (p:=21) rfl ?_);refine Yl (t:=55) (p:=21) (v:= ?vo_w13) (w1:=((((w11.setCell ⟨go10,(x4_1:Int).toNat*4,none⟩ (v340)).setCell ⟨go10,(x4_1:Int).toNat*4+1,none⟩ (.int .i64 t342)).setCell ⟨go10,(x4_1:Int).toNat*4+2,none⟩ (.int .i64 t343)).setCell ⟨go10,(x4_1:Int).toNat*4+3,none⟩ (.int .i64 t344))) ?hg ?ho ?hn ?hr ?_;(case ho=>rfl);(case hg=>rfl);(case hn=>rfl);(case hr=>first|(go_simp;done)|(go_simp;rfl)|(obtain⟨A_,c_,e_⟩:=Yp HO341.out;subst e_;first|(go_simp;done)|(go_simp;rfl)));intro w13 hw;have hg:w11.grownBy w13 (some go10):=(by rw[hw];exact HP12.2);have hp_:Kd.S k55 55 w13 w.heap.size (fun _=>True) (.slice (some ⟨go10,0,none⟩) x3_1.length co10) y345:=(by rw[hw,Ny345.out];exact HP12.1);clear HP12;have n0_:=Za (hp_);have n1_:=Za ((by rw[hw];exact Zg (Zg (Zg (Zg (HB.out) GB10.out) GB10.out) GB10.out) GB10.out:Below w.heap.size w w13));clear HO_3;clear HB;clear HO341;have HO_3:=n0_;have HB:=n1_;clear n0_ n1_;clear hg hw hp_))
        go_roundg k1
        case measure=>have:=HK1.out;omega
        case rel=>exact⟨(y345),(wrap64 (x4_1+1)),z7_15,H',⟨by have:=HK1.out;omega⟩,⟨by(with_reducible repeat(first|apply Kd.S_alloc|apply Kd.S_drewN|apply Kd.S_drew));exact HO_3.out⟩,⟨by repeat(first|(with_reducible first|exact HB.out|apply Zh|apply Ze|apply Zd)|exact HB.out)⟩⟩
       ·rw[if_neg c9] at H
        exact absurd H (by simp)
      ·rw[if_neg c7] at H
       exact absurd H (by simp)
     ·rw[if_neg c6] at H
      have c6b0:decide (x4_1<(l0.length:Int))=false:=Yg c6
      clear c6
      obtain rfl:=Zm H
      go_wp2
      go_ret
      exact⟨_,by first|rfl|(simp[errW_none,errW_some]<;>rfl)|(simp[*,errW_none,errW_some]<;>rfl)|(simp[*,errW_none,errW_some,i64_w];done),by(with_reducible repeat(first|apply Kd.S_alloc|apply Kd.S_drewN|apply Kd.S_drew));exact HO_3.out,by repeat(first|(with_reducible first|exact HB.out|apply Zh|apply Ze|apply Zd)|exact HB.out)⟩
  ·rw[if_neg c3] at H
   exact absurd H (by simp)
 ·rw[if_neg c2] at H
  exact absurd H (by simp)
def laws_toProgram.f (k:Nat) (l0_0:List (S68)):Option ((List (S55))):=(laws_toTaskS.f k l0_0).bind fun t349=>(some t349)
set_option maxHeartbeats 8000000 in
set_option maxRecDepth 100000 in
theorem laws_toProgram.calls (k:Nat) (A0_0:Option Addr) (c0_0:Nat) (l0_0:List (S68)) (r:List (S55)) (w:World) (hr0_0:Kd.C k68 w A0_0 l0_0.length l0_0) (hc0_0:l0_0.length≤c0_0) (h:laws_toProgram.f k l0_0=some r):
  Calls Tryz.prog 7 #[.agg #[.slice A0_0 l0_0.length c0_0]] w fun e w'=>∃v0_:Value,e= .returned (.agg #[v0_])∧Kd.S k55 55 w' w.heap.size (fun _=>True) v0_ r∧Below w.heap.size w w':=by
 have hu24:=Tryz.underlying24
 have hu30:=Tryz.underlying30
 have HR0_0:=Za hr0_0
 have HC0_0:=Za hc0_0
 clear hr0_0 hc0_0
 have HB:=Za (Yc w.heap.size w)
 have H:((laws_toTaskS.f k l0_0).bind fun t349=>(some t349))=some r:=h
 clear h
 replace H:=Zl H
 obtain⟨t349,A20,H⟩:=H
 replace H:(some t349)=some r:=H
 have A2:=Za A20
 clear A20
 obtain rfl:=Zm H
 go_enter Tryz.func7,Tryz.ntmps7
 go_wp2_with (first|((with_reducible refine Zr (N:=1) rfl ?_);refine Zs ?hg (N:=1) ?hd (cs:= #[.slice A0_0 l0_0.length c0_0]) (t:=24) ?hr ?_;(case hd=>rfl);(case hg=>rfl);(case hr=>exact z7_6);intro gb346 hg w3 hbox hb;have BK346:=Za (hbox);have GW346:=Za ((z7_36:w.heap.size≤gb346));have GE346:=Za ((z7_36:w.heap.size≤gb346));replace HB:=Za (Zi z7_0 hb);clear hb hbox hg)|((with_reducible refine Zr (N:=2) rfl ?_);refine Zs ?hg (N:=2) ?hd (cs:= #[.slice none 0 0]) (t:=30) ?hr ?_;(case hd=>rfl);(case hg=>rfl);(case hr=>exact z7_6);intro gb347 hg w4 hbox hb;have BK347:=Za (hbox);have GW347:=Za ((by rw[hg];exact(Zt z7_27):w.heap.size≤gb347));have GE347:=Za ((by rw[hg];exact(Zt z7_27):w.heap.size≤gb347));replace HB:=Za (Zi z7_27 hb);have NB346_347:=Za ((by rw[hg];exact Nat.ne_of_lt (blk_lt (g:=gb346) (o:= .cells #[.slice A0_0 l0_0.length c0_0] 24 (0,0)) z7_9):gb346≠gb347));have NB347_346:=Za ((by rw[hg];exact Nat.ne_of_gt (blk_lt (g:=gb346) (o:= .cells #[.slice A0_0 l0_0.length c0_0] 24 (0,0)) z7_9):gb347≠gb346));replace BK346:=Za (Zk (g:=gb346) (o:= .cells #[.slice A0_0 l0_0.length c0_0] 24 (0,0)) z7_9 hb);clear hb hbox hg)|((with_reducible refine Zr (N:=3) rfl ?_);refine Zs ?hg (N:=3) ?hd (cs:= #[.slice none 0 0]) (t:=30) ?hr ?_;(case hd=>rfl);(case hg=>rfl);(case hr=>exact z7_6);intro gb348 hg w5 hbox hb;have BK348:=Za (hbox);have GW348:=Za ((by rw[hg];exact(Zt z7_19):w.heap.size≤gb348));have GE348:=Za ((by rw[hg];exact(Zt z7_19):w.heap.size≤gb348));replace HB:=Za (Zi z7_19 hb);have NB346_348:=Za ((by rw[hg];exact Nat.ne_of_lt (blk_lt (g:=gb346) (o:= .cells #[.slice A0_0 l0_0.length c0_0] 24 (0,0)) z7_9):gb346≠gb348));have NB348_346:=Za ((by rw[hg];exact Nat.ne_of_gt (blk_lt (g:=gb346) (o:= .cells #[.slice A0_0 l0_0.length c0_0] 24 (0,0)) z7_9):gb348≠gb346));replace BK346:=Za (Zk (g:=gb346) (o:= .cells #[.slice A0_0 l0_0.length c0_0] 24 (0,0)) z7_9 hb);have NB347_348:=Za ((by rw[hg];exact Nat.ne_of_lt (blk_lt (g:=gb347) (o:= .cells #[.slice none 0 0] 30 (0,0)) z7_23):gb347≠gb348));have NB348_347:=Za ((by rw[hg];exact Nat.ne_of_gt (blk_lt (g:=gb347) (o:= .cells #[.slice none 0 0] 30 (0,0)) z7_23):gb348≠gb347));replace BK347:=Za (Zk (g:=gb347) (o:= .cells #[.slice none 0 0] 30 (0,0)) z7_23 hb);clear hb hbox hg;have hnb6:=NB346_347.out;have hnc6:=NB347_346.out;have hnb7:=NB346_348.out;have hnc7:=NB348_346.out;have hcz8_0:w5.cell? ⟨gb346,0,none⟩=some (.slice A0_0 l0_0.length c0_0):=(Zb BK346.out 0).trans rfl;have hfz8_0:=Zc BK346.out 0)|((first|((with_reducible refine gate_callee (f:=26) rfl ?_);refine goesL_ (some 6) rfl rfl Tryz.func26 z7_33 rfl #[.slice A0_0 l0_0.length c0_0] rfl z7_1 ?_;(with_reducible refine(laws_toTaskS.calls k _ _ l0_0 t349 _ ?side1 ?side2 A2.out).mono ?_))|(go_at_call 26;(with_reducible refine(laws_toTaskS.calls k _ _ l0_0 t349 _ ?side1 ?side2 A2.out).mono ?_)));(case side1=>exact z7_5);(case side2=>exact HC0_0.out);rintro e w9 ⟨v350,rfl,ho0,hb⟩;(first|refine⟨_,rfl,?_⟩|skip);have HO351:=Za (Kd.S_lower ho0 (Zt z7_34));replace BK346:=Za (Zk (g:=gb346) (o:= .cells #[.slice A0_0 l0_0.length c0_0] 24 (0,0)) z7_9 hb);replace BK347:=Za (Zk (g:=gb347) (o:= .cells #[.slice none 0 0] 30 (0,0)) z7_23 hb);replace BK348:=Za (Zk (g:=gb348) (o:= .cells #[.slice none 0 0] 30 (0,0)) (by(with_reducible repeat(first|refine blk_drewN ?_ _|refine blk_drew ?_|refine blk_alloc ?_ _));exact BK348.out) hb);replace HB:=Za (Zi z7_34 hb);(try clear hb);(try clear hb2);(try clear hk);(try clear hi);(try clear ho0);obtain⟨Ao10,co10,eo10⟩:=Kd.S_slice HO351.out;subst eo10;have hnb11:=NB348_347.out;have hnc11:=NB347_348.out;have hcz12_0:w9.cell? ⟨gb348,0,none⟩=some (.slice none 0 0):=(Zb BK348.out 0).trans rfl;have hfz12_0:=Zc BK348.out 0;have hcz13_0:w9.cell? ⟨gb347,0,none⟩=some (.slice none 0 0):=(Zb BK347.out 0).trans rfl;have hfz13_0:=Zc BK347.out 0))
 refine bodyPost_ret (results_cell_row rfl _ _ gb347 30 #[.slice Ao10 t349.length co10] (0,0) _ rfl (by(with_reducible repeat(first|refine blk_drewN ?_ _|refine blk_drew ?_|refine blk_alloc ?_ _));refine blk_put (cs:= #[.slice none 0 0]) ?_ 0 _ rfl;(with_reducible repeat(first|refine blk_drewN ?_ _|refine blk_drew ?_|refine blk_alloc ?_ _));refine blk_far ?_ NB347_348.out _;(with_reducible repeat(first|refine blk_drewN ?_ _|refine blk_drew ?_|refine blk_alloc ?_ _));exact BK347.out) Tryz.underlying30 rfl z7_33) rfl ?_
 exact⟨_,by first|rfl|(simp[errW_none,errW_some]<;>rfl)|(simp[*,errW_none,errW_some]<;>rfl)|(simp[*,errW_none,errW_some,i64_w];done),by(with_reducible repeat(first|apply Kd.S_alloc|apply Kd.S_drewN|apply Kd.S_drew));exact Kd.S_mono (Kd.S_far (p:=⟨gb347,0,none⟩) (Kd.S_far (p:=⟨gb348,0,none⟩) (Kd.S_types (Kd.S_types HO351.out BK348.out (by decide)) BK347.out (by decide)) (fun _ hk=>hk.1.2) (.slice Ao10 t349.length co10)) (fun _ hk=>hk.2) (.slice Ao10 t349.length co10)) (fun _ hk=>trivial),by repeat(first|(with_reducible first|exact HB.out|apply Zh|apply Ze|apply Zd|refine Zg ?_ GE346.out|refine Zg ?_ GE347.out|refine Zg ?_ GE348.out)|exact HB.out)⟩
def laws_toIntS.l0:Nat→List Int→List Int→Int→Option (List Int)
 |0,_,_,_=>none
 |k+1,x0,x3,x4=>if x4<(x0.length:Int) then (if 0≤x4 then (if x4<(x3.length:Int) then (laws_toIntS.l0 k x0 (x3.set (x4:Int).toNat (rd x0 x4)) (wrap64 (x4+1))) else (none)) else (none)) else (some x3)
def laws_toIntS.f (k:Nat) (l0:List Int):Option (List Int):=if 0≤(l0.length:Int) then (if ((l0.length:Int):Int).toNat≤35184372088832 then (laws_toIntS.l0 k l0 (List.replicate ((l0.length:Int):Int).toNat 0) 0) else (none)) else (none)
set_option maxHeartbeats 8000000 in
set_option maxRecDepth 100000 in
theorem laws_toIntS.calls (k:Nat) (A0:Option Addr) (c0:Nat) (l0:List Int) (r:List Int) (w:World) (hr0:Kd.C (Kd.int .i64) w A0 l0.length l0) (hc0:l0.length≤c0) (h:laws_toIntS.f k l0=some r):
  Calls Tryz.prog 8 #[.slice A0 l0.length c0] w fun e w'=>∃v0_:Value,e= .returned (v0_)∧Kd.R (Kd.int .i64) 3 w' w.heap.size (fun _=>True) v0_ r∧Below w.heap.size w w':=by
 have HR0:=Za hr0
 have HC0:=Za hc0
 clear hr0 hc0
 have HB:=Za (Yc w.heap.size w)
 have H:(if 0≤(l0.length:Int) then (if ((l0.length:Int):Int).toNat≤35184372088832 then (laws_toIntS.l0 k l0 (List.replicate ((l0.length:Int):Int).toNat 0) 0) else (none)) else (none))=some r:=h
 clear h
 by_cases c2:0≤(l0.length:Int)
 ·rw[if_pos c2] at H
  have c2b0:=eq_true c2
  have c2b1:decide (0≤(l0.length:Int))=true:=Zq c2
  clear c2
  by_cases c3:((l0.length:Int):Int).toNat≤35184372088832
  ·rw[if_pos c3] at H
   have c3b0:=eq_true c3
   have c3b1:decide (((l0.length:Int):Int).toNat≤35184372088832)=true:=Zq c3
   clear c3
   obtain⟨y352,hy352⟩:∃y_:List Int,y_=(List.replicate ((l0.length:Int):Int).toNat 0):=⟨_,rfl⟩
   replace H:(laws_toIntS.l0 k l0 y352 0)=some r:=by first|(rw[hy352];with_reducible exact H)|(have H2_:=(Yk _ _).symm.trans H;rw[hy352];with_reducible exact H2_)|(have H2_:=(Yk _ _).symm.trans H;with_reducible exact H2_)|with_reducible exact H|(rw[hy352];exact H)|exact H
   have Ny352:=Za hy352
   clear hy352
   have H':=Za H
   clear H
   go_enter Tryz.func8,Tryz.ntmps8
   go_wp2_with (first|((with_reducible refine Zr (N:=7) rfl ?_);refine Kd.R_make (Kd.int .i64) _ 3 rfl (N:=7) rfl 25 _ _ rfl (l0.length:Int) rfl rfl Tryz.underlying25 (.int .i64 0) 8 info3 rfl (by decide) (by omega) 0 (ok:=fun _=>True) (okp:=fun _=>True) rfl (fun _ hk=>hk) trivial (Zj z7_3) (Nat.le_trans (Nat.mul_le_mul_right _ (Zj z7_3:(l0.length:Int).toNat≤35184372088832)) (by omega)) (Yc _ _) (Nat.le_refl _) ?_;intro v353 w4 ho5 hb hg_ hnew_;clear hg_ hnew_;(first|rw[←Ny352.out] at ho5|(simp only[Int.reduceToNat] at ho5;rw[←Ny352.out] at ho5));have HO354:=Za (Yq ho5 (Zt z7_0));replace HB:=Za (Zi z7_0 hb);clear hb ho5))
   go_loopg [4] k (fun kq v4 w'=>∃(x3_1:List Int) (x4_1:Int),v4= .int .i64 x4_1∧Aside0 (laws_toIntS.l0 kq l0 x3_1 x4_1=some r)∧Aside0 (kq≤k)∧Aside0 (Kd.R (Kd.int .i64) 3 w' w.heap.size (fun _=>True) v353 x3_1)∧Aside0 (Below w.heap.size w w'))
   case atStart=>exact⟨(y352),(0),z7_15,H',⟨Nat.le_refl _⟩,⟨by(with_reducible repeat(first|apply Zp|apply Zo|apply Zn));exact HO354.out⟩,⟨by repeat(first|(with_reducible first|exact HB.out|apply Zh|apply Ze|apply Zd)|exact HB.out)⟩⟩
   case round=>
    clear H'
    (try clear c2);(try clear c2b0);(try clear c2b1);(try clear c3);(try clear c3b0);(try clear c3b1)
    obtain⟨x3_1,x4_1,rfl,HA,HK1,HO_3,HB⟩:=hrel
    cases gk with
    |zero=>exact absurd HA.out (by simp[laws_toIntS.l0])
    |succ k1=>
     have H:=HA.out
     clear HA
     simp only[laws_toIntS.l0] at H
     by_cases c6:x4_1<(l0.length:Int)
     ·rw[if_pos c6] at H
      have c6b0:decide (x4_1<(l0.length:Int))=true:=Zq c6
      clear c6
      by_cases c7:0≤x4_1
      ·rw[if_pos c7] at H
       have c7b0:decide (0≤x4_1)=true:=Zq c7
       clear c7
       by_cases c8:x4_1<(x3_1.length:Int)
       ·rw[if_pos c8] at H
        have c8b0:decide (x4_1<(x3_1.length:Int))=true:=Zq c8
        clear c8
        obtain⟨y356,hy356⟩:∃y_:List Int,y_=(x3_1.set (x4_1:Int).toNat (rd l0 x4_1)):=⟨_,rfl⟩
        replace H:(laws_toIntS.l0 k1 l0 y356 (wrap64 (x4_1+1)))=some r:=by first|(rw[hy356];with_reducible exact H)|(have H2_:=(Yk _ _).symm.trans H;rw[hy356];with_reducible exact H2_)|(have H2_:=(Yk _ _).symm.trans H;with_reducible exact H2_)|with_reducible exact H|(rw[hy356];exact H)|exact H
        have Ny356:=Za hy356
        clear hy356
        have H':=Za H
        clear H
        have p355:0≤(x4_1:Int):=Zj z7_3
        have q355:x4_1<(l0.length:Int):=Zj z7_3
        obtain⟨ad355,e355,hx355_0⟩:=Kd.at_int HR0.out x4_1 p355 q355
        cases e355
        replace hx355_0:=(HB.out.cell (Zf w _ hx355_0)).trans hx355_0
        replace p355:=eq_true p355
        replace q355:=eq_true q355
        have p9:0≤(x4_1:Int):=Zj z7_3
        have q9:(x4_1:Int)<((x3_1.length:Int):Int):=Zj z7_3
        obtain⟨go9,co9,eo9,gb9,gl9,cl9,HG9⟩:=Kd.R_form HO_3.out (by omega)
        (first|cases eo9|(injection eo9 with ea_ en_ ec_;(first|subst ea_|(injection ea_ with ea_;subst ea_));subst ec_;clear en_))
        have GB9:=Za gb9
        have GG9:=Za HG9
        clear gb9 gl9 HG9
        obtain⟨hx9_0,hf9_0⟩:=Kd.R_celln 0 HO_3.out (x4_1:Int) p9 q9
        replace p9:=eq_true p9
        replace q9:=eq_true q9
        have HP10:=Kd.R_putg HO_3.out (x4_1:Int) (rd l0 x4_1)
        go_wp2_with (first|((with_reducible refine Ym (t:=3) (p:=20) rfl ?_);refine Yl (t:=3) (p:=20) (v:= ?vo_w11) (w1:=(wr.setCell ⟨go9,(x4_1:Int).toNat,none⟩ (.int .i64 (rd l0 x4_1)))) ?hg ?ho ?hn ?hr ?_;(case ho=>rfl);(case hg=>rfl);(case hn=>rfl);(case hr=>exact z7_6);intro w11 hw;have hg:wr.grownBy w11 (some go9):=(by rw[hw];exact HP10.2);have hp_:Kd.R (Kd.int .i64) 3 w11 w.heap.size (fun _=>True) (.slice (some ⟨go9,0,none⟩) x3_1.length co9) y356:=(by rw[hw,Ny356.out];exact HP10.1);clear HP10;replace HO_3:=Za (hp_);replace HB:=Za ((by rw[hw];exact Zg (HB.out) GB9.out:Below w.heap.size w w11));clear hg hw hp_))
        go_roundg k1
        case measure=>have:=HK1.out;omega
        case rel=>exact⟨(y356),(wrap64 (x4_1+1)),z7_15,H',⟨by have:=HK1.out;omega⟩,⟨by(with_reducible repeat(first|apply Zp|apply Zo|apply Zn));exact HO_3.out⟩,⟨by repeat(first|(with_reducible first|exact HB.out|apply Zh|apply Ze|apply Zd)|exact HB.out)⟩⟩
       ·rw[if_neg c8] at H
        exact absurd H (by simp)
      ·rw[if_neg c7] at H
       exact absurd H (by simp)
     ·rw[if_neg c6] at H
      have c6b0:decide (x4_1<(l0.length:Int))=false:=Yg c6
      clear c6
      obtain rfl:=Zm H
      go_wp2
      go_ret
      exact⟨_,by first|rfl|(simp[errW_none,errW_some]<;>rfl)|(simp[*,errW_none,errW_some]<;>rfl)|(simp[*,errW_none,errW_some,i64_w];done),by(with_reducible repeat(first|apply Zp|apply Zo|apply Zn));exact HO_3.out,by repeat(first|(with_reducible first|exact HB.out|apply Zh|apply Ze|apply Zd)|exact HB.out)⟩
  ·rw[if_neg c3] at H
   exact absurd H (by simp)
 ·rw[if_neg c2] at H
  exact absurd H (by simp)
def impl_within.f (a0:Int) (a1:Int) (a2:Int):Option (Bool):=if a0≥a1 then (some (decide (a0≤a2))) else (some false)
set_option maxHeartbeats 8000000 in
set_option maxRecDepth 100000 in
theorem impl_within.calls (a0:Int) (a1:Int) (a2:Int) (r:Bool) (w:World) (h:impl_within.f a0 a1 a2=some r):
  Calls Tryz.prog 87 #[.int .i64 a0,.int .i64 a1,.int .i64 a2] w fun e w'=>e= .returned (.bool r)∧Drawn0 w w':=by
 have H:(if a0≥a1 then (some (decide (a0≤a2))) else (some false))=some r:=h
 clear h
 by_cases c4:a0≥a1
 ·rw[if_pos c4] at H
  have c4b0:decide (a1≤a0)=true:=Zq c4
  clear c4
  obtain rfl:=Zm H
  go_enter Tryz.func87,Tryz.ntmps87
  go_wp2
  go_ret
  exact⟨by first|rfl|(simp;done)|(simp[*];done),by repeat(first|exact Zz _|apply Ya)⟩
 ·rw[if_neg c4] at H
  have c4b0:decide (a1≤a0)=false:=Yg c4
  clear c4
  obtain rfl:=Zm H
  go_enter Tryz.func87,Tryz.ntmps87
  go_wp2
  go_ret
  exact⟨by first|rfl|(simp;done)|(simp[*];done),by repeat(first|exact Zz _|apply Ya)⟩
def impl_PackControl.f (a0:Int) (a1:Int) (a2:Int):Option (Int):=(impl_within.f a0 0 5).bind fun t357=>(if t357=true then ((impl_within.f a1 0 8).bind fun t358=>(if t358=true then ((impl_within.f a2 0 24).bind fun t359=>(if t359=true then (some (wrap64 (a0+(wrap64 (8*(wrap64 (a1+(wrap64 (16*a2))))))))) else (some (-1)))) else (some (-1)))) else (some (-1)))
set_option maxHeartbeats 8000000 in
set_option maxRecDepth 100000 in
theorem impl_PackControl.calls (a0:Int) (a1:Int) (a2:Int) (r:Int) (w:World) (h:impl_PackControl.f a0 a1 a2=some r):
  Calls Tryz.prog 77 #[.int .i64 a0,.int .i64 a1,.int .i64 a2] w fun e w'=>e= .returned (.int .i64 r)∧Drawn0 w w':=by
 have H:((impl_within.f a0 0 5).bind fun t357=>(if t357=true then ((impl_within.f a1 0 8).bind fun t358=>(if t358=true then ((impl_within.f a2 0 24).bind fun t359=>(if t359=true then (some (wrap64 (a0+(wrap64 (8*(wrap64 (a1+(wrap64 (16*a2))))))))) else (some (-1)))) else (some (-1)))) else (some (-1))))=some r:=h
 clear h
 replace H:=Zl H
 obtain⟨t357,A40,H⟩:=H
 replace H:(if t357=true then ((impl_within.f a1 0 8).bind fun t358=>(if t358=true then ((impl_within.f a2 0 24).bind fun t359=>(if t359=true then (some (wrap64 (a0+(wrap64 (8*(wrap64 (a1+(wrap64 (16*a2))))))))) else (some (-1)))) else (some (-1)))) else (some (-1)))=some r:=H
 have A4:=Za A40
 clear A40
 by_cases c5:t357=true
 ·subst c5
  rw[if_pos rfl] at H
  replace H:=Zl H
  obtain⟨t358,A60,H⟩:=H
  replace H:(if t358=true then ((impl_within.f a2 0 24).bind fun t359=>(if t359=true then (some (wrap64 (a0+(wrap64 (8*(wrap64 (a1+(wrap64 (16*a2))))))))) else (some (-1)))) else (some (-1)))=some r:=H
  have A6:=Za A60
  clear A60
  by_cases c7:t358=true
  ·subst c7
   rw[if_pos rfl] at H
   replace H:=Zl H
   obtain⟨t359,A80,H⟩:=H
   replace H:(if t359=true then (some (wrap64 (a0+(wrap64 (8*(wrap64 (a1+(wrap64 (16*a2))))))))) else (some (-1)))=some r:=H
   have A8:=Za A80
   clear A80
   by_cases c9:t359=true
   ·subst c9
    rw[if_pos rfl] at H
    obtain rfl:=Zm H
    go_enter Tryz.func77,Tryz.ntmps77
    go_wp2_with (first|((first|((with_reducible refine gate_callee (f:=87) rfl ?_);refine goesL_ (some 8) rfl rfl Tryz.func87 z7_33 rfl #[.int .i64 a0,.int .i64 0,.int .i64 5] rfl z7_1 ?_;(with_reducible refine(impl_within.calls a0 0 5 true _ A4.out).mono ?_))|(go_at_call 87;(with_reducible refine(impl_within.calls a0 0 5 true _ A4.out).mono ?_)));rintro e w' ⟨rfl,⟨nd,rfl⟩⟩;(first|refine⟨_,rfl,?_⟩|skip))|(go_at_call 87;(with_reducible refine(impl_within.calls a1 0 8 true _ A6.out).mono ?_);rintro e w' ⟨rfl,⟨nd,rfl⟩⟩)|(go_at_call 87;(with_reducible refine(impl_within.calls a2 0 24 true _ A8.out).mono ?_);rintro e w' ⟨rfl,⟨nd,rfl⟩⟩))
    go_ret
    exact⟨by first|rfl|(simp;done)|(simp[*];done),by repeat(first|exact Zz _|apply Ya)⟩
   ·replace c9:=Bool.eq_false_iff.mpr c9
    subst c9
    rw[if_neg (show ¬(false=true) by decide)] at H
    obtain rfl:=Zm H
    go_enter Tryz.func77,Tryz.ntmps77
    go_wp2_with (first|((first|((with_reducible refine gate_callee (f:=87) rfl ?_);refine goesL_ (some 8) rfl rfl Tryz.func87 z7_33 rfl #[.int .i64 a0,.int .i64 0,.int .i64 5] rfl z7_1 ?_;(with_reducible refine(impl_within.calls a0 0 5 true _ A4.out).mono ?_))|(go_at_call 87;(with_reducible refine(impl_within.calls a0 0 5 true _ A4.out).mono ?_)));rintro e w' ⟨rfl,⟨nd,rfl⟩⟩;(first|refine⟨_,rfl,?_⟩|skip))|(go_at_call 87;(with_reducible refine(impl_within.calls a1 0 8 true _ A6.out).mono ?_);rintro e w' ⟨rfl,⟨nd,rfl⟩⟩)|(go_at_call 87;(with_reducible refine(impl_within.calls a2 0 24 false _ A8.out).mono ?_);rintro e w' ⟨rfl,⟨nd,rfl⟩⟩))
    go_ret
    exact⟨by first|rfl|(simp;done)|(simp[*];done),by repeat(first|exact Zz _|apply Ya)⟩
  ·replace c7:=Bool.eq_false_iff.mpr c7
   subst c7
   rw[if_neg (show ¬(false=true) by decide)] at H
   obtain rfl:=Zm H
   go_enter Tryz.func77,Tryz.ntmps77
   go_wp2_with (first|((first|((with_reducible refine gate_callee (f:=87) rfl ?_);refine goesL_ (some 8) rfl rfl Tryz.func87 z7_33 rfl #[.int .i64 a0,.int .i64 0,.int .i64 5] rfl z7_1 ?_;(with_reducible refine(impl_within.calls a0 0 5 true _ A4.out).mono ?_))|(go_at_call 87;(with_reducible refine(impl_within.calls a0 0 5 true _ A4.out).mono ?_)));rintro e w' ⟨rfl,⟨nd,rfl⟩⟩;(first|refine⟨_,rfl,?_⟩|skip))|(go_at_call 87;(with_reducible refine(impl_within.calls a1 0 8 false _ A6.out).mono ?_);rintro e w' ⟨rfl,⟨nd,rfl⟩⟩))
   go_ret
   exact⟨by first|rfl|(simp;done)|(simp[*];done),by repeat(first|exact Zz _|apply Ya)⟩
 ·replace c5:=Bool.eq_false_iff.mpr c5
  subst c5
  rw[if_neg (show ¬(false=true) by decide)] at H
  obtain rfl:=Zm H
  go_enter Tryz.func77,Tryz.ntmps77
  go_wp2_with (first|((first|((with_reducible refine gate_callee (f:=87) rfl ?_);refine goesL_ (some 8) rfl rfl Tryz.func87 z7_33 rfl #[.int .i64 a0,.int .i64 0,.int .i64 5] rfl z7_1 ?_;(with_reducible refine(impl_within.calls a0 0 5 false _ A4.out).mono ?_))|(go_at_call 87;(with_reducible refine(impl_within.calls a0 0 5 false _ A4.out).mono ?_)));rintro e w' ⟨rfl,⟨nd,rfl⟩⟩;(first|refine⟨_,rfl,?_⟩|skip)))
  go_ret
  exact⟨by first|rfl|(simp;done)|(simp[*];done),by repeat(first|exact Zz _|apply Ya)⟩
def impl_UnpackControl.f (a0:Int):Option (Int×Int×Int):=if a0<0 then (some ((-1),(-1),(-1))) else ((impl_PackControl.f (Int.tmod a0 8) (Int.tmod (wrap64 (Int.tdiv a0 8)) 16) (wrap64 (Int.tdiv a0 128))).bind fun t360=>(if t360=a0 then (some (Int.tmod a0 8,Int.tmod (wrap64 (Int.tdiv a0 8)) 16,wrap64 (Int.tdiv a0 128))) else (some ((-1),(-1),(-1)))))
set_option maxHeartbeats 8000000 in
set_option maxRecDepth 100000 in
theorem impl_UnpackControl.calls (a0:Int) (r1:Int) (r2:Int) (r3:Int) (w:World) (h:impl_UnpackControl.f a0=some (r1,r2,r3)):
  Calls Tryz.prog 41 #[.int .i64 a0] w fun e w'=>e= .returned (.tuple #[.int .i64 r1,.int .i64 r2,.int .i64 r3])∧Drawn0 w w':=by
 have H:(if a0<0 then (some ((-1),(-1),(-1))) else ((impl_PackControl.f (Int.tmod a0 8) (Int.tmod (wrap64 (Int.tdiv a0 8)) 16) (wrap64 (Int.tdiv a0 128))).bind fun t360=>(if t360=a0 then (some (Int.tmod a0 8,Int.tmod (wrap64 (Int.tdiv a0 8)) 16,wrap64 (Int.tdiv a0 128))) else (some ((-1),(-1),(-1))))))=some (r1,r2,r3):=h
 clear h
 by_cases c2:a0<0
 ·rw[if_pos c2] at H
  have c2b0:decide (a0<0)=true:=Zq c2
  clear c2
  simp only[Option.some.injEq,Prod.mk.injEq] at H
  obtain⟨rfl,rfl,rfl⟩:=H
  go_enter Tryz.func41,Tryz.ntmps41
  go_wp2
  go_ret3
  exact⟨by first|rfl|(simp;done)|(simp[*];done),by repeat(first|exact Zz _|apply Ya)⟩
 ·rw[if_neg c2] at H
  have c2b0:decide (a0<0)=false:=Yg c2
  clear c2
  replace H:=Zl H
  obtain⟨t360,A30,H⟩:=H
  replace H:(if t360=a0 then (some (Int.tmod a0 8,Int.tmod (wrap64 (Int.tdiv a0 8)) 16,wrap64 (Int.tdiv a0 128))) else (some ((-1),(-1),(-1))))=some (r1,r2,r3):=H
  have A3:=Za A30
  clear A30
  by_cases c4:t360=a0
  ·rw[if_pos c4] at H
   have c4b0:(t360==a0)=true:=beq_iff_eq.mpr c4
   have c4b1:(t360 != a0)=false:=bne_eq_false_iff_eq.mpr c4
   clear c4
   simp only[Option.some.injEq,Prod.mk.injEq] at H
   obtain⟨rfl,rfl,rfl⟩:=H
   go_enter Tryz.func41,Tryz.ntmps41
   go_wp2_with (first|(go_at_call 77;(with_reducible refine(impl_PackControl.calls (Int.tmod a0 8) (Int.tmod (wrap64 (Int.tdiv a0 8)) 16) (wrap64 (Int.tdiv a0 128)) t360 _ A3.out).mono ?_);rintro e w' ⟨rfl,⟨nd,rfl⟩⟩))
   go_ret3
   exact⟨by first|rfl|(simp;done)|(simp[*];done),by repeat(first|exact Zz _|apply Ya)⟩
  ·rw[if_neg c4] at H
   have c4b0:(t360==a0)=false:=beq_eq_false_iff_ne.mpr c4
   have c4b1:(t360 != a0)=true:=bne_iff_ne.mpr c4
   simp only[Option.some.injEq,Prod.mk.injEq] at H
   obtain⟨rfl,rfl,rfl⟩:=H
   go_enter Tryz.func41,Tryz.ntmps41
   go_wp2_with (first|(go_at_call 77;(with_reducible refine(impl_PackControl.calls (Int.tmod a0 8) (Int.tmod (wrap64 (Int.tdiv a0 8)) 16) (wrap64 (Int.tdiv a0 128)) t360 _ A3.out).mono ?_);rintro e w' ⟨rfl,⟨nd,rfl⟩⟩))
   go_ret3
   exact⟨by first|rfl|(simp;done)|(simp[*];done),by repeat(first|exact Zz _|apply Ya)⟩
def impl_isVar.f (a0:Int):Option (Bool):=(impl_within.f a0 0 7).bind fun t361=>(some t361)
set_option maxHeartbeats 8000000 in
set_option maxRecDepth 100000 in
theorem impl_isVar.calls (a0:Int) (r:Bool) (w:World) (h:impl_isVar.f a0=some r):
  Calls Tryz.prog 59 #[.int .i64 a0] w fun e w'=>e= .returned (.bool r)∧Drawn0 w w':=by
 have H:((impl_within.f a0 0 7).bind fun t361=>(some t361))=some r:=h
 clear h
 replace H:=Zl H
 obtain⟨t361,A20,H⟩:=H
 replace H:(some t361)=some r:=H
 have A2:=Za A20
 clear A20
 obtain rfl:=Zm H
 go_enter Tryz.func59,Tryz.ntmps59
 go_wp2_with (first|((first|((with_reducible refine gate_callee (f:=87) rfl ?_);refine goesL_ (some 4) rfl rfl Tryz.func87 z7_33 rfl #[.int .i64 a0,.int .i64 0,.int .i64 7] rfl z7_1 ?_;(with_reducible refine(impl_within.calls a0 0 7 t361 _ A2.out).mono ?_))|(go_at_call 87;(with_reducible refine(impl_within.calls a0 0 7 t361 _ A2.out).mono ?_)));rintro e w' ⟨rfl,⟨nd,rfl⟩⟩;(first|refine⟨_,rfl,?_⟩|skip)))
 go_ret
 exact⟨by first|rfl|(simp;done)|(simp[*];done),by repeat(first|exact Zz _|apply Ya)⟩
def impl_OperandOk.f (a0:Int):Option (Bool):=(impl_within.f a0 (-8) 999).bind fun t362=>(some t362)
set_option maxHeartbeats 8000000 in
set_option maxRecDepth 100000 in
theorem impl_OperandOk.calls (a0:Int) (r:Bool) (w:World) (h:impl_OperandOk.f a0=some r):
  Calls Tryz.prog 112 #[.int .i64 a0] w fun e w'=>e= .returned (.bool r)∧Drawn0 w w':=by
 have H:((impl_within.f a0 (-8) 999).bind fun t362=>(some t362))=some r:=h
 clear h
 replace H:=Zl H
 obtain⟨t362,A20,H⟩:=H
 replace H:(some t362)=some r:=H
 have A2:=Za A20
 clear A20
 obtain rfl:=Zm H
 go_enter Tryz.func112,Tryz.ntmps112
 go_wp2_with (first|((first|((with_reducible refine gate_callee (f:=87) rfl ?_);refine goesL_ (some 4) rfl rfl Tryz.func87 z7_33 rfl #[.int .i64 a0,.int .i64 (-8),.int .i64 999] rfl z7_1 ?_;(with_reducible refine(impl_within.calls a0 (-8) 999 t362 _ A2.out).mono ?_))|(go_at_call 87;(with_reducible refine(impl_within.calls a0 (-8) 999 t362 _ A2.out).mono ?_)));rintro e w' ⟨rfl,⟨nd,rfl⟩⟩;(first|refine⟨_,rfl,?_⟩|skip)))
 go_ret
 exact⟨by first|rfl|(simp;done)|(simp[*];done),by repeat(first|exact Zz _|apply Ya)⟩
def impl_ExprOk.f (a0_0:Int) (a0_1:Int) (a0_2:Int):Option (Bool):=(impl_within.f a0_0 1 7).bind fun t364=>(if t364=true then ((impl_OperandOk.f a0_1).bind fun t365=>(if t365=true then ((impl_OperandOk.f a0_2).bind fun t366=>(some t366)) else (some false))) else (some false))
set_option maxHeartbeats 8000000 in
set_option maxRecDepth 100000 in
theorem impl_ExprOk.calls (a0_0:Int) (a0_1:Int) (a0_2:Int) (r:Bool) (w:World) (h:impl_ExprOk.f a0_0 a0_1 a0_2=some r):
  Calls Tryz.prog 92 #[.agg #[.int .i64 a0_0,.int .i64 a0_1,.int .i64 a0_2]] w fun e w'=>e= .returned (.bool r)∧Below w.heap.size w w':=by
 have hu53:=Tryz.underlying53
 have HB:=Za (Yc w.heap.size w)
 have H:((impl_within.f a0_0 1 7).bind fun t364=>(if t364=true then ((impl_OperandOk.f a0_1).bind fun t365=>(if t365=true then ((impl_OperandOk.f a0_2).bind fun t366=>(some t366)) else (some false))) else (some false)))=some r:=h
 clear h
 replace H:=Zl H
 obtain⟨t364,A20,H⟩:=H
 replace H:(if t364=true then ((impl_OperandOk.f a0_1).bind fun t365=>(if t365=true then ((impl_OperandOk.f a0_2).bind fun t366=>(some t366)) else (some false))) else (some false))=some r:=H
 have A2:=Za A20
 clear A20
 by_cases c3:t364=true
 ·subst c3
  rw[if_pos rfl] at H
  replace H:=Zl H
  obtain⟨t365,A40,H⟩:=H
  replace H:(if t365=true then ((impl_OperandOk.f a0_2).bind fun t366=>(some t366)) else (some false))=some r:=H
  have A4:=Za A40
  clear A40
  by_cases c5:t365=true
  ·subst c5
   rw[if_pos rfl] at H
   replace H:=Zl H
   obtain⟨t366,A60,H⟩:=H
   replace H:(some t366)=some r:=H
   have A6:=Za A60
   clear A60
   obtain rfl:=Zm H
   go_enter Tryz.func92,Tryz.ntmps92
   go_wp2_with (first|((with_reducible refine Zr (N:=1) rfl ?_);refine Zs ?hg (N:=1) ?hd (cs:= #[.int .i64 a0_0,.int .i64 a0_1,.int .i64 a0_2]) (t:=53) ?hr ?_;(case hd=>rfl);(case hg=>rfl);(case hr=>exact z7_6);intro gb363 hg w7 hbox hb;have BK363:=Za (hbox);have GW363:=Za ((z7_36:w.heap.size≤gb363));have GE363:=Za ((z7_36:w.heap.size≤gb363));replace HB:=Za (Zi z7_0 hb);clear hb hbox hg;have hcz8_0:w7.cell? ⟨gb363,0,none⟩=some (.int .i64 a0_0):=(Zb BK363.out 0).trans rfl;have hcz8_1:w7.cell? ⟨gb363,1,none⟩=some (.int .i64 a0_1):=(Zb BK363.out 1).trans rfl;have hcz8_2:w7.cell? ⟨gb363,2,none⟩=some (.int .i64 a0_2):=(Zb BK363.out 2).trans rfl;have hfz8_0:=Zc BK363.out 0;have hfz8_1:=Zc BK363.out 1;have hfz8_2:=Zc BK363.out 2)|((first|((with_reducible refine gate_callee (f:=87) rfl ?_);refine goesL_ (some 5) rfl rfl Tryz.func87 z7_33 rfl #[.int .i64 a0_0,.int .i64 1,.int .i64 7] rfl z7_1 ?_;(with_reducible refine(impl_within.calls a0_0 1 7 true _ A2.out).mono ?_))|(go_at_call 87;(with_reducible refine(impl_within.calls a0_0 1 7 true _ A2.out).mono ?_)));rintro e w' ⟨rfl,⟨nd,rfl⟩⟩;(first|refine⟨_,rfl,?_⟩|skip))|(go_at_call 112;(with_reducible refine(impl_OperandOk.calls a0_1 true _ A4.out).mono ?_);rintro e w' ⟨rfl,⟨nd,rfl⟩⟩)|(go_at_call 112;(with_reducible refine(impl_OperandOk.calls a0_2 t366 _ A6.out).mono ?_);rintro e w' ⟨rfl,⟨nd,rfl⟩⟩))
   go_ret
   exact⟨by first|rfl|(simp[errW_none,errW_some]<;>rfl)|(simp[*,errW_none,errW_some]<;>rfl)|(simp[*,errW_none,errW_some,i64_w];done),by repeat(first|(with_reducible first|exact HB.out|apply Zh|apply Ze|apply Zd|refine Zg ?_ GE363.out)|exact HB.out)⟩
  ·replace c5:=Bool.eq_false_iff.mpr c5
   subst c5
   rw[if_neg (show ¬(false=true) by decide)] at H
   obtain rfl:=Zm H
   go_enter Tryz.func92,Tryz.ntmps92
   go_wp2_with (first|((with_reducible refine Zr (N:=1) rfl ?_);refine Zs ?hg (N:=1) ?hd (cs:= #[.int .i64 a0_0,.int .i64 a0_1,.int .i64 a0_2]) (t:=53) ?hr ?_;(case hd=>rfl);(case hg=>rfl);(case hr=>exact z7_6);intro gb363 hg w9 hbox hb;have BK363:=Za (hbox);have GW363:=Za ((z7_36:w.heap.size≤gb363));have GE363:=Za ((z7_36:w.heap.size≤gb363));replace HB:=Za (Zi z7_0 hb);clear hb hbox hg;have hcz10_0:w9.cell? ⟨gb363,0,none⟩=some (.int .i64 a0_0):=(Zb BK363.out 0).trans rfl;have hcz10_1:w9.cell? ⟨gb363,1,none⟩=some (.int .i64 a0_1):=(Zb BK363.out 1).trans rfl;have hcz10_2:w9.cell? ⟨gb363,2,none⟩=some (.int .i64 a0_2):=(Zb BK363.out 2).trans rfl;have hfz10_0:=Zc BK363.out 0;have hfz10_1:=Zc BK363.out 1;have hfz10_2:=Zc BK363.out 2)|((first|((with_reducible refine gate_callee (f:=87) rfl ?_);refine goesL_ (some 5) rfl rfl Tryz.func87 z7_33 rfl #[.int .i64 a0_0,.int .i64 1,.int .i64 7] rfl z7_1 ?_;(with_reducible refine(impl_within.calls a0_0 1 7 true _ A2.out).mono ?_))|(go_at_call 87;(with_reducible refine(impl_within.calls a0_0 1 7 true _ A2.out).mono ?_)));rintro e w' ⟨rfl,⟨nd,rfl⟩⟩;(first|refine⟨_,rfl,?_⟩|skip))|(go_at_call 112;(with_reducible refine(impl_OperandOk.calls a0_1 false _ A4.out).mono ?_);rintro e w' ⟨rfl,⟨nd,rfl⟩⟩))
   go_ret
   exact⟨by first|rfl|(simp[errW_none,errW_some]<;>rfl)|(simp[*,errW_none,errW_some]<;>rfl)|(simp[*,errW_none,errW_some,i64_w];done),by repeat(first|(with_reducible first|exact HB.out|apply Zh|apply Ze|apply Zd|refine Zg ?_ GE363.out)|exact HB.out)⟩
 ·replace c3:=Bool.eq_false_iff.mpr c3
  subst c3
  rw[if_neg (show ¬(false=true) by decide)] at H
  obtain rfl:=Zm H
  go_enter Tryz.func92,Tryz.ntmps92
  go_wp2_with (first|((with_reducible refine Zr (N:=1) rfl ?_);refine Zs ?hg (N:=1) ?hd (cs:= #[.int .i64 a0_0,.int .i64 a0_1,.int .i64 a0_2]) (t:=53) ?hr ?_;(case hd=>rfl);(case hg=>rfl);(case hr=>exact z7_6);intro gb363 hg w11 hbox hb;have BK363:=Za (hbox);have GW363:=Za ((z7_36:w.heap.size≤gb363));have GE363:=Za ((z7_36:w.heap.size≤gb363));replace HB:=Za (Zi z7_0 hb);clear hb hbox hg;have hcz12_0:w11.cell? ⟨gb363,0,none⟩=some (.int .i64 a0_0):=(Zb BK363.out 0).trans rfl;have hcz12_1:w11.cell? ⟨gb363,1,none⟩=some (.int .i64 a0_1):=(Zb BK363.out 1).trans rfl;have hcz12_2:w11.cell? ⟨gb363,2,none⟩=some (.int .i64 a0_2):=(Zb BK363.out 2).trans rfl;have hfz12_0:=Zc BK363.out 0;have hfz12_1:=Zc BK363.out 1;have hfz12_2:=Zc BK363.out 2)|((first|((with_reducible refine gate_callee (f:=87) rfl ?_);refine goesL_ (some 5) rfl rfl Tryz.func87 z7_33 rfl #[.int .i64 a0_0,.int .i64 1,.int .i64 7] rfl z7_1 ?_;(with_reducible refine(impl_within.calls a0_0 1 7 false _ A2.out).mono ?_))|(go_at_call 87;(with_reducible refine(impl_within.calls a0_0 1 7 false _ A2.out).mono ?_)));rintro e w' ⟨rfl,⟨nd,rfl⟩⟩;(first|refine⟨_,rfl,?_⟩|skip)))
  go_ret
  exact⟨by first|rfl|(simp[errW_none,errW_some]<;>rfl)|(simp[*,errW_none,errW_some]<;>rfl)|(simp[*,errW_none,errW_some,i64_w];done),by repeat(first|(with_reducible first|exact HB.out|apply Zh|apply Ze|apply Zd|refine Zg ?_ GE363.out)|exact HB.out)⟩
def impl_hasVar.f (a0:Int):Option (Bool):=if a0=1 then (some true) else (some (a0==2))
set_option maxHeartbeats 8000000 in
set_option maxRecDepth 100000 in
theorem impl_hasVar.calls (a0:Int) (r:Bool) (w:World) (h:impl_hasVar.f a0=some r):
  Calls Tryz.prog 99 #[.int .i64 a0] w fun e w'=>e= .returned (.bool r)∧Drawn0 w w':=by
 have H:(if a0=1 then (some true) else (some (a0==2)))=some r:=h
 clear h
 by_cases c2:a0=1
 ·rw[if_pos c2] at H
  have c2b0:(a0==1)=true:=beq_iff_eq.mpr c2
  have c2b1:(a0 != 1)=false:=bne_eq_false_iff_eq.mpr c2
  clear c2
  obtain rfl:=Zm H
  go_enter Tryz.func99,Tryz.ntmps99
  go_wp2
  go_ret
  exact⟨by first|rfl|(simp;done)|(simp[*];done),by repeat(first|exact Zz _|apply Ya)⟩
 ·rw[if_neg c2] at H
  have c2b0:(a0==1)=false:=beq_eq_false_iff_ne.mpr c2
  have c2b1:(a0 != 1)=true:=bne_iff_ne.mpr c2
  obtain rfl:=Zm H
  go_enter Tryz.func99,Tryz.ntmps99
  go_wp2
  go_ret
  exact⟨by first|rfl|(simp;done)|(simp[*];done),by repeat(first|exact Zz _|apply Ya)⟩
def impl_hasExpr.f (a0:Int):Option (Bool):=if a0=1 then (some true) else (if a0=3 then (some true) else (some (a0==4)))
set_option maxHeartbeats 8000000 in
set_option maxRecDepth 100000 in
theorem impl_hasExpr.calls (a0:Int) (r:Bool) (w:World) (h:impl_hasExpr.f a0=some r):
  Calls Tryz.prog 113 #[.int .i64 a0] w fun e w'=>e= .returned (.bool r)∧Drawn0 w w':=by
 have H:(if a0=1 then (some true) else (if a0=3 then (some true) else (some (a0==4))))=some r:=h
 clear h
 by_cases c2:a0=1
 ·rw[if_pos c2] at H
  have c2b0:(a0==1)=true:=beq_iff_eq.mpr c2
  have c2b1:(a0 != 1)=false:=bne_eq_false_iff_eq.mpr c2
  clear c2
  obtain rfl:=Zm H
  go_enter Tryz.func113,Tryz.ntmps113
  go_wp2
  go_ret
  exact⟨by first|rfl|(simp;done)|(simp[*];done),by repeat(first|exact Zz _|apply Ya)⟩
 ·rw[if_neg c2] at H
  have c2b0:(a0==1)=false:=beq_eq_false_iff_ne.mpr c2
  have c2b1:(a0 != 1)=true:=bne_iff_ne.mpr c2
  by_cases c3:a0=3
  ·rw[if_pos c3] at H
   have c3b0:(a0==3)=true:=beq_iff_eq.mpr c3
   have c3b1:(a0 != 3)=false:=bne_eq_false_iff_eq.mpr c3
   clear c3
   obtain rfl:=Zm H
   go_enter Tryz.func113,Tryz.ntmps113
   go_wp2
   go_ret
   exact⟨by first|rfl|(simp;done)|(simp[*];done),by repeat(first|exact Zz _|apply Ya)⟩
  ·rw[if_neg c3] at H
   have c3b0:(a0==3)=false:=beq_eq_false_iff_ne.mpr c3
   have c3b1:(a0 != 3)=true:=bne_iff_ne.mpr c3
   obtain rfl:=Zm H
   go_enter Tryz.func113,Tryz.ntmps113
   go_wp2
   go_ret
   exact⟨by first|rfl|(simp;done)|(simp[*];done),by repeat(first|exact Zz _|apply Ya)⟩
def impl_isSensor.f (a0:Int):Option (Bool):=(impl_within.f a0 0 3).bind fun t367=>(some t367)
set_option maxHeartbeats 8000000 in
set_option maxRecDepth 100000 in
theorem impl_isSensor.calls (a0:Int) (r:Bool) (w:World) (h:impl_isSensor.f a0=some r):
  Calls Tryz.prog 115 #[.int .i64 a0] w fun e w'=>e= .returned (.bool r)∧Drawn0 w w':=by
 have H:((impl_within.f a0 0 3).bind fun t367=>(some t367))=some r:=h
 clear h
 replace H:=Zl H
 obtain⟨t367,A20,H⟩:=H
 replace H:(some t367)=some r:=H
 have A2:=Za A20
 clear A20
 obtain rfl:=Zm H
 go_enter Tryz.func115,Tryz.ntmps115
 go_wp2_with (first|((first|((with_reducible refine gate_callee (f:=87) rfl ?_);refine goesL_ (some 4) rfl rfl Tryz.func87 z7_33 rfl #[.int .i64 a0,.int .i64 0,.int .i64 3] rfl z7_1 ?_;(with_reducible refine(impl_within.calls a0 0 3 t367 _ A2.out).mono ?_))|(go_at_call 87;(with_reducible refine(impl_within.calls a0 0 3 t367 _ A2.out).mono ?_)));rintro e w' ⟨rfl,⟨nd,rfl⟩⟩;(first|refine⟨_,rfl,?_⟩|skip)))
 go_ret
 exact⟨by first|rfl|(simp;done)|(simp[*];done),by repeat(first|exact Zz _|apply Ya)⟩
end Go.Proofs.YtccjlmpeogifkaaGreat.G
