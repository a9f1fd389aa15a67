/- Functions of the program as plain Lean functions, and that each call comes to its function's answer; written by a program of the session. No condition. -/
import Derived.Test.YtlolppaddphpoaaGx0
import Derived.Test.YtlolppaddphpoaaGx9
namespace Go.Proofs.Ytlolppaddphpoaa.G
open Go.RowKit Go.Proofs.YtlolppaddphpoaaW.PrintWords Go.Proofs.YtlolppaddphpoaaW.PrintLast Go.Proofs.YtlolppaddphpoaaW.PrintMore
attribute [local go_sem] max2_int min2_int max_two min_two max_three min_three max_four min_four   -- for this text's walks alone
set_option linter.unusedVariables false
set_option linter.unusedSimpArgs false
theorem z10_0 {P:Prop} (h:P:=by repeat(first|(with_reducible first|exact HB.out|apply Zh|apply Zf|apply Ze)|exact HB.out)):P:=h
theorem z10_1 {P:Prop} (h:P:=by(try simp only[List.map_toArray,List.map_cons,List.map_nil]);first|done|rfl|(simp only[List.length_drop,List.length_take];rfl)):P:=h
theorem z10_2 {P:Prop} (h:P:=by repeat(first|(with_reducible first|exact HB.out|apply Zh|apply Zf|apply Ze|refine Zd ?_ GE308.out)|exact HB.out)):P:=h
theorem z10_3 {P:Prop} (h:P:=by repeat(first|(with_reducible first|exact HB.out|apply Zh|apply Zf|apply Ze|refine Zd ?_ GE302.out)|exact HB.out)):P:=h
theorem z10_4 {P:Prop} (h:P:=by(with_reducible repeat(first|refine blk_drewN ?_ _|refine blk_drew ?_|refine blk_alloc ?_ _));exact BK308.out):P:=h
theorem z10_5 {P:Prop} (h:P:=by first|(go_simp;done)|(go_simp;rfl)):P:=h
theorem z10_6 {P:Prop} (h:P:=by repeat(first|(with_reducible first|exact HB.out|apply Zh|apply Zf|apply Ze|refine Zd ?_ GE306.out)|exact HB.out)):P:=h
theorem z10_7 {P:Prop} (h:P:=by(with_reducible repeat(first|refine blk_drewN ?_ _|refine blk_drew ?_|refine blk_alloc ?_ _));exact BK302.out):P:=h
theorem z10_8 {P:Prop} (h:P:=by repeat(first|exact(Yg HR1_0.out HB.out)|(with_reducible refine Yc ?_ _)|(with_reducible refine Yd ?_ _)|(with_reducible refine Ye ?_))):P:=h
theorem z10_9 {P:Prop} (h:P:=by repeat(first|exact(Yg HR0_0.out HB.out)|(with_reducible refine Yc ?_ _)|(with_reducible refine Yd ?_ _)|(with_reducible refine Ye ?_))):P:=h
theorem z10_10 {P:Prop} (h:P:=by(with_reducible repeat(first|refine blk_drewN ?_ _|refine blk_drew ?_|refine blk_alloc ?_ _));exact BK314.out):P:=h
theorem z10_11 {P:Prop} (h:P:=by repeat(first|(with_reducible first|exact HB.out|apply Zh|apply Zf|apply Ze|refine Zd ?_ GE302.out|refine Zd ?_ GE303.out)|exact HB.out)):P:=h
theorem z10_12 {P:Prop} (h:P:=by repeat(first|(with_reducible first|exact HB.out|apply Zh|apply Zf|apply Ze|refine Zd ?_ GE314.out)|exact HB.out)):P:=h
theorem z10_13 {P:Prop} (h:P:=by(with_reducible repeat(first|refine blk_drewN ?_ _|refine blk_drew ?_|refine blk_alloc ?_ _));exact BK306.out):P:=h
theorem z10_14 {P:Prop} (h:P:=by repeat(first|(with_reducible first|exact HB.out|apply Zh|apply Zf|apply Ze|refine Zd ?_ GE321.out)|exact HB.out)):P:=h
theorem z10_15 {P:Prop} (h:P:=by(with_reducible repeat(first|refine blk_drewN ?_ _|refine blk_drew ?_|refine blk_alloc ?_ _));exact BK321.out):P:=h
theorem z10_16 {P:Prop} (h:P:=by first|(with_reducible assumption)|assumption):P:=h
theorem z10_17 {P:Prop} (h:P:=by repeat(first|(with_reducible first|exact HB.out|apply Zh|apply Zf|apply Ze|refine Zd ?_ GE314.out|refine Zd ?_ GE315.out)|exact HB.out)):P:=h
theorem z10_18 {P:Prop} (h:P:=by first|rfl|(simp;done)|(simp[*];done)):P:=h
theorem z10_19 {P:Prop} (h:P:=by repeat(first|exact Yh _ _|apply Zf|apply Ze)):P:=h
theorem z10_20 {P:Prop} (h:P:=by kernel_rfl):P:=h
theorem z10_21 {P:Prop} (h:P:=by(with_reducible repeat(first|refine blk_drewN ?_ _|refine blk_drew ?_|refine blk_alloc ?_ _));exact BK315.out):P:=h
theorem z10_22 {P:Prop} (h:P:=by rw[hg];exact(Zy z10_0)):P:=h
theorem z10_23 {P:Prop} (h:P:=by rw[hg];exact Nat.ne_of_lt (blk_lt (g:=gb308) (o:= .cells #[.int .i64 a0_0,.int .i64 a0_1,.int .i64 a0_2,.int .i64 a0_3,.int .i64 a0_4,.int .i64 a0_5] 80 (0,0)) z10_4)):P:=h
theorem z10_24 {P:Prop} (h:P:=by rw[hg];exact Nat.ne_of_gt (blk_lt (g:=gb308) (o:= .cells #[.int .i64 a0_0,.int .i64 a0_1,.int .i64 a0_2,.int .i64 a0_3,.int .i64 a0_4,.int .i64 a0_5] 80 (0,0)) z10_4)):P:=h
theorem z10_25 {P:Prop} (h:P:=by rw[hg];exact Nat.ne_of_lt (blk_lt (g:=gb302) (o:= .cells #[.slice A0_0 l0_0.length c0_0,.slice A0_1 l0_1.length c0_1,.int .i64 a0_2,.int .i64 a0_3] 28 (0,0)) z10_7)):P:=h
theorem z10_26 {P:Prop} (h:P:=by rw[hg];exact Nat.ne_of_gt (blk_lt (g:=gb302) (o:= .cells #[.slice A0_0 l0_0.length c0_0,.slice A0_1 l0_1.length c0_1,.int .i64 a0_2,.int .i64 a0_3] 28 (0,0)) z10_7)):P:=h
theorem z10_27 {P:Prop} (h:P:=by repeat(first|exact(Yg HR1_1.out z10_11)|(with_reducible refine Yc ?_ _)|(with_reducible refine Yd ?_ _)|(with_reducible refine Ye ?_))):P:=h
theorem z10_28 {P:Prop} (h:P:=by repeat(first|exact(Yg HR0_1.out z10_11)|(with_reducible refine Yc ?_ _)|(with_reducible refine Yd ?_ _)|(with_reducible refine Ye ?_))):P:=h
theorem z10_29 {P:Prop} (h:P:=by rw[hg];exact Nat.ne_of_lt (blk_lt (g:=gb306) (o:= .cells #[.int .i64 a0_0,.int .i64 a0_1,.int .i64 a0_2] 62 (0,0)) z10_13)):P:=h
theorem z10_30 {P:Prop} (h:P:=by rw[hg];exact Nat.ne_of_gt (blk_lt (g:=gb306) (o:= .cells #[.int .i64 a0_0,.int .i64 a0_1,.int .i64 a0_2] 62 (0,0)) z10_13)):P:=h
theorem z10_31 {P:Prop} (h:P:=by rw[hg];exact Nat.ne_of_lt (blk_lt (g:=gb314) (o:= .cells #[.slice A0_0 l0_0.length c0_0,.int .i64 a0_1,.int .i64 a0_2,.int .i64 a0_3] 64 (0,0)) z10_10)):P:=h
theorem z10_32 {P:Prop} (h:P:=by rw[hg];exact Nat.ne_of_gt (blk_lt (g:=gb314) (o:= .cells #[.slice A0_0 l0_0.length c0_0,.int .i64 a0_1,.int .i64 a0_2,.int .i64 a0_3] 64 (0,0)) z10_10)):P:=h
theorem z10_33 {P:Prop} (h:P:=by rw[hg];exact(Zy z10_3)):P:=h
theorem z10_34 {P:Prop} (h:P:=by rw[hg];exact(Zy z10_2)):P:=h
theorem z10_35 {P:Prop} (h:P:=by rw[hg];exact(Zy z10_6)):P:=h
def laws_eqEffect.f (k:Nat) (l0_0:List Int) (l0_1:List Int) (a0_2:Int) (a0_3:Int) (l1_0:List Int) (l1_1:List Int) (a1_2:Int) (a1_3:Int):Option (Bool):=(laws_eqIntS.f k l0_0 l1_0).bind fun t304=>(if t304=true then ((laws_eqIntS.f k l0_1 l1_1).bind fun t305=>(if t305=true then (if a0_2=a1_2 then (if a0_3=a1_3 then (some true) else (some false)) else (some false)) else (some false))) else (some false))
set_option maxHeartbeats 8000000 in
set_option maxRecDepth 100000 in
theorem laws_eqEffect.calls (k:Nat) (A0_0:Option Addr) (c0_0:Nat) (l0_0:List Int) (A0_1:Option Addr) (c0_1:Nat) (l0_1:List Int) (a0_2:Int) (a0_3:Int) (A1_0:Option Addr) (c1_0:Nat) (l1_0:List Int) (A1_1:Option Addr) (c1_1:Nat) (l1_1:List Int) (a1_2:Int) (a1_3:Int) (r:Bool) (w:World) (hr0_0:Kd.C (Kd.int .i64) w A0_0 l0_0.length l0_0) (hc0_0:l0_0.length≤c0_0) (hr0_1:Kd.C (Kd.int .i64) w A0_1 l0_1.length l0_1) (hc0_1:l0_1.length≤c0_1) (hr1_0:Kd.C (Kd.int .i64) w A1_0 l1_0.length l1_0) (hc1_0:l1_0.length≤c1_0) (hr1_1:Kd.C (Kd.int .i64) w A1_1 l1_1.length l1_1) (hc1_1:l1_1.length≤c1_1) (h:laws_eqEffect.f k l0_0 l0_1 a0_2 a0_3 l1_0 l1_1 a1_2 a1_3=some r):
  Calls Try.prog 10 #[.agg #[.slice A0_0 l0_0.length c0_0,.slice A0_1 l0_1.length c0_1,.int .i64 a0_2,.int .i64 a0_3],.agg #[.slice A1_0 l1_0.length c1_0,.slice A1_1 l1_1.length c1_1,.int .i64 a1_2,.int .i64 a1_3]] w fun e w'=>e= .returned (.bool r)∧Below w.heap.size w w':=by
 have hu28:=Try.underlying28
 have HR0_0:=Za hr0_0
 have HC0_0:=Za hc0_0
 clear hr0_0 hc0_0
 have HR0_1:=Za hr0_1
 have HC0_1:=Za hc0_1
 clear hr0_1 hc0_1
 have HR1_0:=Za hr1_0
 have HC1_0:=Za hc1_0
 clear hr1_0 hc1_0
 have HR1_1:=Za hr1_1
 have HC1_1:=Za hc1_1
 clear hr1_1 hc1_1
 have HB:=Za (Yh w.heap.size w)
 have H:((laws_eqIntS.f k l0_0 l1_0).bind fun t304=>(if t304=true then ((laws_eqIntS.f k l0_1 l1_1).bind fun t305=>(if t305=true then (if a0_2=a1_2 then (if a0_3=a1_3 then (some true) else (some false)) else (some false)) else (some false))) else (some false)))=some r:=h
 clear h
 replace H:=Zl H
 obtain⟨t304,A30,H⟩:=H
 replace H:(if t304=true then ((laws_eqIntS.f k l0_1 l1_1).bind fun t305=>(if t305=true then (if a0_2=a1_2 then (if a0_3=a1_3 then (some true) else (some false)) else (some false)) else (some false))) else (some false))=some r:=H
 have A3:=Za A30
 clear A30
 by_cases c4:t304=true
 ·subst c4
  rw[if_pos rfl] at H
  replace H:=Zl H
  obtain⟨t305,A50,H⟩:=H
  replace H:(if t305=true then (if a0_2=a1_2 then (if a0_3=a1_3 then (some true) else (some false)) else (some false)) else (some false))=some r:=H
  have A5:=Za A50
  clear A50
  by_cases c6:t305=true
  ·subst c6
   rw[if_pos rfl] at H
   by_cases c7:a0_2=a1_2
   ·rw[if_pos c7] at H
    have c7b0:(a0_2==a1_2)=true:=beq_iff_eq.mpr c7
    have c7b1:(a0_2 != a1_2)=false:=bne_eq_false_iff_eq.mpr c7
    clear c7
    by_cases c8:a0_3=a1_3
    ·rw[if_pos c8] at H
     have c8b0:(a0_3==a1_3)=true:=beq_iff_eq.mpr c8
     have c8b1:(a0_3 != a1_3)=false:=bne_eq_false_iff_eq.mpr c8
     clear c8
     obtain rfl:=Zk H
     go_enter Try.func10,Try.ntmps10
     go_wp2_with (first|((with_reducible refine Zp (N:=2) rfl ?_);refine Zt ?hg (N:=2) ?hd (cs:= #[.slice A0_0 l0_0.length c0_0,.slice A0_1 l0_1.length c0_1,.int .i64 a0_2,.int .i64 a0_3]) (t:=28) ?hr ?_;(case hd=>rfl);(case hg=>rfl);(case hr=>exact z10_5);intro gb302 hg w9 hbox hb;have BK302:=Za (hbox);have GW302:=Za ((z10_22:w.heap.size≤gb302));have GE302:=Za ((z10_22:w.heap.size≤gb302));replace HB:=Za (Zj z10_0 hb);clear hb hbox hg)|((with_reducible refine Zp (N:=3) rfl ?_);refine Zt ?hg (N:=3) ?hd (cs:= #[.slice A1_0 l1_0.length c1_0,.slice A1_1 l1_1.length c1_1,.int .i64 a1_2,.int .i64 a1_3]) (t:=28) ?hr ?_;(case hd=>rfl);(case hg=>rfl);(case hr=>exact z10_5);intro gb303 hg w10 hbox hb;have BK303:=Za (hbox);have GW303:=Za ((z10_33:w.heap.size≤gb303));have GE303:=Za ((z10_33:w.heap.size≤gb303));replace HB:=Za (Zj z10_3 hb);have NB302_303:=Za ((z10_25:gb302≠gb303));have NB303_302:=Za ((z10_26:gb303≠gb302));replace BK302:=Za (Zg (g:=gb302) (o:= .cells #[.slice A0_0 l0_0.length c0_0,.slice A0_1 l0_1.length c0_1,.int .i64 a0_2,.int .i64 a0_3] 28 (0,0)) z10_7 hb);clear hb hbox hg;have hnb11:=NB302_303.out;have hnc11:=NB303_302.out;have hcz12_0:w10.cell? ⟨gb302,0,none⟩=some (.slice A0_0 l0_0.length c0_0):=(Zb BK302.out 0).trans rfl;have hcz12_1:w10.cell? ⟨gb302,1,none⟩=some (.slice A0_1 l0_1.length c0_1):=(Zb BK302.out 1).trans rfl;have hcz12_2:w10.cell? ⟨gb302,2,none⟩=some (.int .i64 a0_2):=(Zb BK302.out 2).trans rfl;have hcz12_3:w10.cell? ⟨gb302,3,none⟩=some (.int .i64 a0_3):=(Zb BK302.out 3).trans rfl;have hfz12_0:=Zc BK302.out 0;have hfz12_1:=Zc BK302.out 1;have hfz12_2:=Zc BK302.out 2;have hfz12_3:=Zc BK302.out 3;have hcz13_0:w10.cell? ⟨gb303,0,none⟩=some (.slice A1_0 l1_0.length c1_0):=(Zb BK303.out 0).trans rfl;have hcz13_1:w10.cell? ⟨gb303,1,none⟩=some (.slice A1_1 l1_1.length c1_1):=(Zb BK303.out 1).trans rfl;have hcz13_2:w10.cell? ⟨gb303,2,none⟩=some (.int .i64 a1_2):=(Zb BK303.out 2).trans rfl;have hcz13_3:w10.cell? ⟨gb303,3,none⟩=some (.int .i64 a1_3):=(Zb BK303.out 3).trans rfl;have hfz13_0:=Zc BK303.out 0;have hfz13_1:=Zc BK303.out 1;have hfz13_2:=Zc BK303.out 2;have hfz13_3:=Zc BK303.out 3)|((first|((with_reducible refine gate_callee (f:=12) rfl ?_);refine goesL_ (some 9) rfl rfl Try.func12 z10_20 rfl #[.slice A0_0 l0_0.length c0_0,.slice A1_0 l1_0.length c1_0] rfl z10_1 ?_;(with_reducible refine(laws_eqIntS.calls k _ _ l0_0 _ _ l1_0 true _ ?side1 ?side2 ?side3 ?side4 A3.out).mono ?_))|(go_at_call 12;(with_reducible refine(laws_eqIntS.calls k _ _ l0_0 _ _ l1_0 true _ ?side1 ?side2 ?side3 ?side4 A3.out).mono ?_)));(case side1=>exact z10_9);(case side2=>exact HC0_0.out);(case side3=>exact z10_8);(case side4=>exact HC1_0.out);rintro e w' ⟨rfl,⟨nd,rfl⟩⟩;(first|refine⟨_,rfl,?_⟩|skip))|((first|((with_reducible refine gate_callee (f:=12) rfl ?_);refine goesL_ (some 15) rfl rfl Try.func12 z10_20 rfl #[.slice A0_1 l0_1.length c0_1,.slice A1_1 l1_1.length c1_1] rfl z10_1 ?_;(with_reducible refine(laws_eqIntS.calls k _ _ l0_1 _ _ l1_1 true _ ?side1 ?side2 ?side3 ?side4 A5.out).mono ?_))|(go_at_call 12;(with_reducible refine(laws_eqIntS.calls k _ _ l0_1 _ _ l1_1 true _ ?side1 ?side2 ?side3 ?side4 A5.out).mono ?_)));(case side1=>exact z10_28);(case side2=>exact HC0_1.out);(case side3=>exact z10_27);(case side4=>exact HC1_1.out);rintro e w' ⟨rfl,⟨nd,rfl⟩⟩;(first|refine⟨_,rfl,?_⟩|skip)))
     go_ret
     exact⟨by first|rfl|(simp[errW_none,errW_some]<;>rfl)|(simp[*,errW_none,errW_some]<;>rfl)|(simp[*,errW_none,errW_some,i64_w];done),by repeat(first|(with_reducible first|exact HB.out|apply Zh|apply Zf|apply Ze|refine Zd ?_ GE302.out|refine Zd ?_ GE303.out)|exact HB.out)⟩
    ·rw[if_neg c8] at H
     have c8b0:(a0_3==a1_3)=false:=beq_eq_false_iff_ne.mpr c8
     have c8b1:(a0_3 != a1_3)=true:=bne_iff_ne.mpr c8
     obtain rfl:=Zk H
     go_enter Try.func10,Try.ntmps10
     go_wp2_with (first|((with_reducible refine Zp (N:=2) rfl ?_);refine Zt ?hg (N:=2) ?hd (cs:= #[.slice A0_0 l0_0.length c0_0,.slice A0_1 l0_1.length c0_1,.int .i64 a0_2,.int .i64 a0_3]) (t:=28) ?hr ?_;(case hd=>rfl);(case hg=>rfl);(case hr=>exact z10_5);intro gb302 hg w14 hbox hb;have BK302:=Za (hbox);have GW302:=Za ((z10_22:w.heap.size≤gb302));have GE302:=Za ((z10_22:w.heap.size≤gb302));replace HB:=Za (Zj z10_0 hb);clear hb hbox hg)|((with_reducible refine Zp (N:=3) rfl ?_);refine Zt ?hg (N:=3) ?hd (cs:= #[.slice A1_0 l1_0.length c1_0,.slice A1_1 l1_1.length c1_1,.int .i64 a1_2,.int .i64 a1_3]) (t:=28) ?hr ?_;(case hd=>rfl);(case hg=>rfl);(case hr=>exact z10_5);intro gb303 hg w15 hbox hb;have BK303:=Za (hbox);have GW303:=Za ((z10_33:w.heap.size≤gb303));have GE303:=Za ((z10_33:w.heap.size≤gb303));replace HB:=Za (Zj z10_3 hb);have NB302_303:=Za ((z10_25:gb302≠gb303));have NB303_302:=Za ((z10_26:gb303≠gb302));replace BK302:=Za (Zg (g:=gb302) (o:= .cells #[.slice A0_0 l0_0.length c0_0,.slice A0_1 l0_1.length c0_1,.int .i64 a0_2,.int .i64 a0_3] 28 (0,0)) z10_7 hb);clear hb hbox hg;have hnb16:=NB302_303.out;have hnc16:=NB303_302.out;have hcz17_0:w15.cell? ⟨gb302,0,none⟩=some (.slice A0_0 l0_0.length c0_0):=(Zb BK302.out 0).trans rfl;have hcz17_1:w15.cell? ⟨gb302,1,none⟩=some (.slice A0_1 l0_1.length c0_1):=(Zb BK302.out 1).trans rfl;have hcz17_2:w15.cell? ⟨gb302,2,none⟩=some (.int .i64 a0_2):=(Zb BK302.out 2).trans rfl;have hcz17_3:w15.cell? ⟨gb302,3,none⟩=some (.int .i64 a0_3):=(Zb BK302.out 3).trans rfl;have hfz17_0:=Zc BK302.out 0;have hfz17_1:=Zc BK302.out 1;have hfz17_2:=Zc BK302.out 2;have hfz17_3:=Zc BK302.out 3;have hcz18_0:w15.cell? ⟨gb303,0,none⟩=some (.slice A1_0 l1_0.length c1_0):=(Zb BK303.out 0).trans rfl;have hcz18_1:w15.cell? ⟨gb303,1,none⟩=some (.slice A1_1 l1_1.length c1_1):=(Zb BK303.out 1).trans rfl;have hcz18_2:w15.cell? ⟨gb303,2,none⟩=some (.int .i64 a1_2):=(Zb BK303.out 2).trans rfl;have hcz18_3:w15.cell? ⟨gb303,3,none⟩=some (.int .i64 a1_3):=(Zb BK303.out 3).trans rfl;have hfz18_0:=Zc BK303.out 0;have hfz18_1:=Zc BK303.out 1;have hfz18_2:=Zc BK303.out 2;have hfz18_3:=Zc BK303.out 3)|((first|((with_reducible refine gate_callee (f:=12) rfl ?_);refine goesL_ (some 9) rfl rfl Try.func12 z10_20 rfl #[.slice A0_0 l0_0.length c0_0,.slice A1_0 l1_0.length c1_0] rfl z10_1 ?_;(with_reducible refine(laws_eqIntS.calls k _ _ l0_0 _ _ l1_0 true _ ?side1 ?side2 ?side3 ?side4 A3.out).mono ?_))|(go_at_call 12;(with_reducible refine(laws_eqIntS.calls k _ _ l0_0 _ _ l1_0 true _ ?side1 ?side2 ?side3 ?side4 A3.out).mono ?_)));(case side1=>exact z10_9);(case side2=>exact HC0_0.out);(case side3=>exact z10_8);(case side4=>exact HC1_0.out);rintro e w' ⟨rfl,⟨nd,rfl⟩⟩;(first|refine⟨_,rfl,?_⟩|skip))|((first|((with_reducible refine gate_callee (f:=12) rfl ?_);refine goesL_ (some 15) rfl rfl Try.func12 z10_20 rfl #[.slice A0_1 l0_1.length c0_1,.slice A1_1 l1_1.length c1_1] rfl z10_1 ?_;(with_reducible refine(laws_eqIntS.calls k _ _ l0_1 _ _ l1_1 true _ ?side1 ?side2 ?side3 ?side4 A5.out).mono ?_))|(go_at_call 12;(with_reducible refine(laws_eqIntS.calls k _ _ l0_1 _ _ l1_1 true _ ?side1 ?side2 ?side3 ?side4 A5.out).mono ?_)));(case side1=>exact z10_28);(case side2=>exact HC0_1.out);(case side3=>exact z10_27);(case side4=>exact HC1_1.out);rintro e w' ⟨rfl,⟨nd,rfl⟩⟩;(first|refine⟨_,rfl,?_⟩|skip)))
     go_ret
     exact⟨by first|rfl|(simp[errW_none,errW_some]<;>rfl)|(simp[*,errW_none,errW_some]<;>rfl)|(simp[*,errW_none,errW_some,i64_w];done),by repeat(first|(with_reducible first|exact HB.out|apply Zh|apply Zf|apply Ze|refine Zd ?_ GE302.out|refine Zd ?_ GE303.out)|exact HB.out)⟩
   ·rw[if_neg c7] at H
    have c7b0:(a0_2==a1_2)=false:=beq_eq_false_iff_ne.mpr c7
    have c7b1:(a0_2 != a1_2)=true:=bne_iff_ne.mpr c7
    obtain rfl:=Zk H
    go_enter Try.func10,Try.ntmps10
    go_wp2_with (first|((with_reducible refine Zp (N:=2) rfl ?_);refine Zt ?hg (N:=2) ?hd (cs:= #[.slice A0_0 l0_0.length c0_0,.slice A0_1 l0_1.length c0_1,.int .i64 a0_2,.int .i64 a0_3]) (t:=28) ?hr ?_;(case hd=>rfl);(case hg=>rfl);(case hr=>exact z10_5);intro gb302 hg w19 hbox hb;have BK302:=Za (hbox);have GW302:=Za ((z10_22:w.heap.size≤gb302));have GE302:=Za ((z10_22:w.heap.size≤gb302));replace HB:=Za (Zj z10_0 hb);clear hb hbox hg)|((with_reducible refine Zp (N:=3) rfl ?_);refine Zt ?hg (N:=3) ?hd (cs:= #[.slice A1_0 l1_0.length c1_0,.slice A1_1 l1_1.length c1_1,.int .i64 a1_2,.int .i64 a1_3]) (t:=28) ?hr ?_;(case hd=>rfl);(case hg=>rfl);(case hr=>exact z10_5);intro gb303 hg w20 hbox hb;have BK303:=Za (hbox);have GW303:=Za ((z10_33:w.heap.size≤gb303));have GE303:=Za ((z10_33:w.heap.size≤gb303));replace HB:=Za (Zj z10_3 hb);have NB302_303:=Za ((z10_25:gb302≠gb303));have NB303_302:=Za ((z10_26:gb303≠gb302));replace BK302:=Za (Zg (g:=gb302) (o:= .cells #[.slice A0_0 l0_0.length c0_0,.slice A0_1 l0_1.length c0_1,.int .i64 a0_2,.int .i64 a0_3] 28 (0,0)) z10_7 hb);clear hb hbox hg;have hnb21:=NB302_303.out;have hnc21:=NB303_302.out;have hcz22_0:w20.cell? ⟨gb302,0,none⟩=some (.slice A0_0 l0_0.length c0_0):=(Zb BK302.out 0).trans rfl;have hcz22_1:w20.cell? ⟨gb302,1,none⟩=some (.slice A0_1 l0_1.length c0_1):=(Zb BK302.out 1).trans rfl;have hcz22_2:w20.cell? ⟨gb302,2,none⟩=some (.int .i64 a0_2):=(Zb BK302.out 2).trans rfl;have hcz22_3:w20.cell? ⟨gb302,3,none⟩=some (.int .i64 a0_3):=(Zb BK302.out 3).trans rfl;have hfz22_0:=Zc BK302.out 0;have hfz22_1:=Zc BK302.out 1;have hfz22_2:=Zc BK302.out 2;have hfz22_3:=Zc BK302.out 3;have hcz23_0:w20.cell? ⟨gb303,0,none⟩=some (.slice A1_0 l1_0.length c1_0):=(Zb BK303.out 0).trans rfl;have hcz23_1:w20.cell? ⟨gb303,1,none⟩=some (.slice A1_1 l1_1.length c1_1):=(Zb BK303.out 1).trans rfl;have hcz23_2:w20.cell? ⟨gb303,2,none⟩=some (.int .i64 a1_2):=(Zb BK303.out 2).trans rfl;have hcz23_3:w20.cell? ⟨gb303,3,none⟩=some (.int .i64 a1_3):=(Zb BK303.out 3).trans rfl;have hfz23_0:=Zc BK303.out 0;have hfz23_1:=Zc BK303.out 1;have hfz23_2:=Zc BK303.out 2;have hfz23_3:=Zc BK303.out 3)|((first|((with_reducible refine gate_callee (f:=12) rfl ?_);refine goesL_ (some 9) rfl rfl Try.func12 z10_20 rfl #[.slice A0_0 l0_0.length c0_0,.slice A1_0 l1_0.length c1_0] rfl z10_1 ?_;(with_reducible refine(laws_eqIntS.calls k _ _ l0_0 _ _ l1_0 true _ ?side1 ?side2 ?side3 ?side4 A3.out).mono ?_))|(go_at_call 12;(with_reducible refine(laws_eqIntS.calls k _ _ l0_0 _ _ l1_0 true _ ?side1 ?side2 ?side3 ?side4 A3.out).mono ?_)));(case side1=>exact z10_9);(case side2=>exact HC0_0.out);(case side3=>exact z10_8);(case side4=>exact HC1_0.out);rintro e w' ⟨rfl,⟨nd,rfl⟩⟩;(first|refine⟨_,rfl,?_⟩|skip))|((first|((with_reducible refine gate_callee (f:=12) rfl ?_);refine goesL_ (some 15) rfl rfl Try.func12 z10_20 rfl #[.slice A0_1 l0_1.length c0_1,.slice A1_1 l1_1.length c1_1] rfl z10_1 ?_;(with_reducible refine(laws_eqIntS.calls k _ _ l0_1 _ _ l1_1 true _ ?side1 ?side2 ?side3 ?side4 A5.out).mono ?_))|(go_at_call 12;(with_reducible refine(laws_eqIntS.calls k _ _ l0_1 _ _ l1_1 true _ ?side1 ?side2 ?side3 ?side4 A5.out).mono ?_)));(case side1=>exact z10_28);(case side2=>exact HC0_1.out);(case side3=>exact z10_27);(case side4=>exact HC1_1.out);rintro e w' ⟨rfl,⟨nd,rfl⟩⟩;(first|refine⟨_,rfl,?_⟩|skip)))
    go_ret
    exact⟨by first|rfl|(simp[errW_none,errW_some]<;>rfl)|(simp[*,errW_none,errW_some]<;>rfl)|(simp[*,errW_none,errW_some,i64_w];done),by repeat(first|(with_reducible first|exact HB.out|apply Zh|apply Zf|apply Ze|refine Zd ?_ GE302.out|refine Zd ?_ GE303.out)|exact HB.out)⟩
  ·replace c6:=Bool.eq_false_iff.mpr c6
   subst c6
   rw[if_neg (show ¬(false=true) by decide)] at H
   obtain rfl:=Zk H
   go_enter Try.func10,Try.ntmps10
   go_wp2_with (first|((with_reducible refine Zp (N:=2) rfl ?_);refine Zt ?hg (N:=2) ?hd (cs:= #[.slice A0_0 l0_0.length c0_0,.slice A0_1 l0_1.length c0_1,.int .i64 a0_2,.int .i64 a0_3]) (t:=28) ?hr ?_;(case hd=>rfl);(case hg=>rfl);(case hr=>exact z10_5);intro gb302 hg w24 hbox hb;have BK302:=Za (hbox);have GW302:=Za ((z10_22:w.heap.size≤gb302));have GE302:=Za ((z10_22:w.heap.size≤gb302));replace HB:=Za (Zj z10_0 hb);clear hb hbox hg)|((with_reducible refine Zp (N:=3) rfl ?_);refine Zt ?hg (N:=3) ?hd (cs:= #[.slice A1_0 l1_0.length c1_0,.slice A1_1 l1_1.length c1_1,.int .i64 a1_2,.int .i64 a1_3]) (t:=28) ?hr ?_;(case hd=>rfl);(case hg=>rfl);(case hr=>exact z10_5);intro gb303 hg w25 hbox hb;have BK303:=Za (hbox);have GW303:=Za ((z10_33:w.heap.size≤gb303));have GE303:=Za ((z10_33:w.heap.size≤gb303));replace HB:=Za (Zj z10_3 hb);have NB302_303:=Za ((z10_25:gb302≠gb303));have NB303_302:=Za ((z10_26:gb303≠gb302));replace BK302:=Za (Zg (g:=gb302) (o:= .cells #[.slice A0_0 l0_0.length c0_0,.slice A0_1 l0_1.length c0_1,.int .i64 a0_2,.int .i64 a0_3] 28 (0,0)) z10_7 hb);clear hb hbox hg;have hnb26:=NB302_303.out;have hnc26:=NB303_302.out;have hcz27_0:w25.cell? ⟨gb302,0,none⟩=some (.slice A0_0 l0_0.length c0_0):=(Zb BK302.out 0).trans rfl;have hcz27_1:w25.cell? ⟨gb302,1,none⟩=some (.slice A0_1 l0_1.length c0_1):=(Zb BK302.out 1).trans rfl;have hcz27_2:w25.cell? ⟨gb302,2,none⟩=some (.int .i64 a0_2):=(Zb BK302.out 2).trans rfl;have hcz27_3:w25.cell? ⟨gb302,3,none⟩=some (.int .i64 a0_3):=(Zb BK302.out 3).trans rfl;have hfz27_0:=Zc BK302.out 0;have hfz27_1:=Zc BK302.out 1;have hfz27_2:=Zc BK302.out 2;have hfz27_3:=Zc BK302.out 3;have hcz28_0:w25.cell? ⟨gb303,0,none⟩=some (.slice A1_0 l1_0.length c1_0):=(Zb BK303.out 0).trans rfl;have hcz28_1:w25.cell? ⟨gb303,1,none⟩=some (.slice A1_1 l1_1.length c1_1):=(Zb BK303.out 1).trans rfl;have hcz28_2:w25.cell? ⟨gb303,2,none⟩=some (.int .i64 a1_2):=(Zb BK303.out 2).trans rfl;have hcz28_3:w25.cell? ⟨gb303,3,none⟩=some (.int .i64 a1_3):=(Zb BK303.out 3).trans rfl;have hfz28_0:=Zc BK303.out 0;have hfz28_1:=Zc BK303.out 1;have hfz28_2:=Zc BK303.out 2;have hfz28_3:=Zc BK303.out 3)|((first|((with_reducible refine gate_callee (f:=12) rfl ?_);refine goesL_ (some 9) rfl rfl Try.func12 z10_20 rfl #[.slice A0_0 l0_0.length c0_0,.slice A1_0 l1_0.length c1_0] rfl z10_1 ?_;(with_reducible refine(laws_eqIntS.calls k _ _ l0_0 _ _ l1_0 true _ ?side1 ?side2 ?side3 ?side4 A3.out).mono ?_))|(go_at_call 12;(with_reducible refine(laws_eqIntS.calls k _ _ l0_0 _ _ l1_0 true _ ?side1 ?side2 ?side3 ?side4 A3.out).mono ?_)));(case side1=>exact z10_9);(case side2=>exact HC0_0.out);(case side3=>exact z10_8);(case side4=>exact HC1_0.out);rintro e w' ⟨rfl,⟨nd,rfl⟩⟩;(first|refine⟨_,rfl,?_⟩|skip))|((first|((with_reducible refine gate_callee (f:=12) rfl ?_);refine goesL_ (some 15) rfl rfl Try.func12 z10_20 rfl #[.slice A0_1 l0_1.length c0_1,.slice A1_1 l1_1.length c1_1] rfl z10_1 ?_;(with_reducible refine(laws_eqIntS.calls k _ _ l0_1 _ _ l1_1 false _ ?side1 ?side2 ?side3 ?side4 A5.out).mono ?_))|(go_at_call 12;(with_reducible refine(laws_eqIntS.calls k _ _ l0_1 _ _ l1_1 false _ ?side1 ?side2 ?side3 ?side4 A5.out).mono ?_)));(case side1=>exact z10_28);(case side2=>exact HC0_1.out);(case side3=>exact z10_27);(case side4=>exact HC1_1.out);rintro e w' ⟨rfl,⟨nd,rfl⟩⟩;(first|refine⟨_,rfl,?_⟩|skip)))
   go_ret
   exact⟨by first|rfl|(simp[errW_none,errW_some]<;>rfl)|(simp[*,errW_none,errW_some]<;>rfl)|(simp[*,errW_none,errW_some,i64_w];done),by repeat(first|(with_reducible first|exact HB.out|apply Zh|apply Zf|apply Ze|refine Zd ?_ GE302.out|refine Zd ?_ GE303.out)|exact HB.out)⟩
 ·replace c4:=Bool.eq_false_iff.mpr c4
  subst c4
  rw[if_neg (show ¬(false=true) by decide)] at H
  obtain rfl:=Zk H
  go_enter Try.func10,Try.ntmps10
  go_wp2_with (first|((with_reducible refine Zp (N:=2) rfl ?_);refine Zt ?hg (N:=2) ?hd (cs:= #[.slice A0_0 l0_0.length c0_0,.slice A0_1 l0_1.length c0_1,.int .i64 a0_2,.int .i64 a0_3]) (t:=28) ?hr ?_;(case hd=>rfl);(case hg=>rfl);(case hr=>exact z10_5);intro gb302 hg w29 hbox hb;have BK302:=Za (hbox);have GW302:=Za ((z10_22:w.heap.size≤gb302));have GE302:=Za ((z10_22:w.heap.size≤gb302));replace HB:=Za (Zj z10_0 hb);clear hb hbox hg)|((with_reducible refine Zp (N:=3) rfl ?_);refine Zt ?hg (N:=3) ?hd (cs:= #[.slice A1_0 l1_0.length c1_0,.slice A1_1 l1_1.length c1_1,.int .i64 a1_2,.int .i64 a1_3]) (t:=28) ?hr ?_;(case hd=>rfl);(case hg=>rfl);(case hr=>exact z10_5);intro gb303 hg w30 hbox hb;have BK303:=Za (hbox);have GW303:=Za ((z10_33:w.heap.size≤gb303));have GE303:=Za ((z10_33:w.heap.size≤gb303));replace HB:=Za (Zj z10_3 hb);have NB302_303:=Za ((z10_25:gb302≠gb303));have NB303_302:=Za ((z10_26:gb303≠gb302));replace BK302:=Za (Zg (g:=gb302) (o:= .cells #[.slice A0_0 l0_0.length c0_0,.slice A0_1 l0_1.length c0_1,.int .i64 a0_2,.int .i64 a0_3] 28 (0,0)) z10_7 hb);clear hb hbox hg;have hnb31:=NB302_303.out;have hnc31:=NB303_302.out;have hcz32_0:w30.cell? ⟨gb302,0,none⟩=some (.slice A0_0 l0_0.length c0_0):=(Zb BK302.out 0).trans rfl;have hcz32_1:w30.cell? ⟨gb302,1,none⟩=some (.slice A0_1 l0_1.length c0_1):=(Zb BK302.out 1).trans rfl;have hcz32_2:w30.cell? ⟨gb302,2,none⟩=some (.int .i64 a0_2):=(Zb BK302.out 2).trans rfl;have hcz32_3:w30.cell? ⟨gb302,3,none⟩=some (.int .i64 a0_3):=(Zb BK302.out 3).trans rfl;have hfz32_0:=Zc BK302.out 0;have hfz32_1:=Zc BK302.out 1;have hfz32_2:=Zc BK302.out 2;have hfz32_3:=Zc BK302.out 3;have hcz33_0:w30.cell? ⟨gb303,0,none⟩=some (.slice A1_0 l1_0.length c1_0):=(Zb BK303.out 0).trans rfl;have hcz33_1:w30.cell? ⟨gb303,1,none⟩=some (.slice A1_1 l1_1.length c1_1):=(Zb BK303.out 1).trans rfl;have hcz33_2:w30.cell? ⟨gb303,2,none⟩=some (.int .i64 a1_2):=(Zb BK303.out 2).trans rfl;have hcz33_3:w30.cell? ⟨gb303,3,none⟩=some (.int .i64 a1_3):=(Zb BK303.out 3).trans rfl;have hfz33_0:=Zc BK303.out 0;have hfz33_1:=Zc BK303.out 1;have hfz33_2:=Zc BK303.out 2;have hfz33_3:=Zc BK303.out 3)|((first|((with_reducible refine gate_callee (f:=12) rfl ?_);refine goesL_ (some 9) rfl rfl Try.func12 z10_20 rfl #[.slice A0_0 l0_0.length c0_0,.slice A1_0 l1_0.length c1_0] rfl z10_1 ?_;(with_reducible refine(laws_eqIntS.calls k _ _ l0_0 _ _ l1_0 false _ ?side1 ?side2 ?side3 ?side4 A3.out).mono ?_))|(go_at_call 12;(with_reducible refine(laws_eqIntS.calls k _ _ l0_0 _ _ l1_0 false _ ?side1 ?side2 ?side3 ?side4 A3.out).mono ?_)));(case side1=>exact z10_9);(case side2=>exact HC0_0.out);(case side3=>exact z10_8);(case side4=>exact HC1_0.out);rintro e w' ⟨rfl,⟨nd,rfl⟩⟩;(first|refine⟨_,rfl,?_⟩|skip)))
  go_ret
  exact⟨by first|rfl|(simp[errW_none,errW_some]<;>rfl)|(simp[*,errW_none,errW_some]<;>rfl)|(simp[*,errW_none,errW_some,i64_w];done),by repeat(first|(with_reducible first|exact HB.out|apply Zh|apply Zf|apply Ze|refine Zd ?_ GE302.out|refine Zd ?_ GE303.out)|exact HB.out)⟩
def laws_eqExpr.f (a0_0:Int) (a0_1:Int) (a0_2:Int) (a1_0:Int) (a1_1:Int) (a1_2:Int):Option (Bool):=if a0_0=a1_0 then (if a0_1=a1_1 then (if a0_2=a1_2 then (some true) else (some false)) else (some false)) else (some false)
set_option maxHeartbeats 8000000 in
set_option maxRecDepth 100000 in
theorem laws_eqExpr.calls (a0_0:Int) (a0_1:Int) (a0_2:Int) (a1_0:Int) (a1_1:Int) (a1_2:Int) (r:Bool) (w:World) (h:laws_eqExpr.f a0_0 a0_1 a0_2 a1_0 a1_1 a1_2=some r):
  Calls Try.prog 80 #[.agg #[.int .i64 a0_0,.int .i64 a0_1,.int .i64 a0_2],.agg #[.int .i64 a1_0,.int .i64 a1_1,.int .i64 a1_2]] w fun e w'=>e= .returned (.bool r)∧Below w.heap.size w w':=by
 have hu62:=Try.underlying62
 have HB:=Za (Yh w.heap.size w)
 have H:(if a0_0=a1_0 then (if a0_1=a1_1 then (if a0_2=a1_2 then (some true) else (some false)) else (some false)) else (some false))=some r:=h
 clear h
 by_cases c3:a0_0=a1_0
 ·rw[if_pos c3] at H
  have c3b0:(a0_0==a1_0)=true:=beq_iff_eq.mpr c3
  have c3b1:(a0_0 != a1_0)=false:=bne_eq_false_iff_eq.mpr c3
  clear c3
  by_cases c4:a0_1=a1_1
  ·rw[if_pos c4] at H
   have c4b0:(a0_1==a1_1)=true:=beq_iff_eq.mpr c4
   have c4b1:(a0_1 != a1_1)=false:=bne_eq_false_iff_eq.mpr c4
   clear c4
   by_cases c5:a0_2=a1_2
   ·rw[if_pos c5] at H
    have c5b0:(a0_2==a1_2)=true:=beq_iff_eq.mpr c5
    have c5b1:(a0_2 != a1_2)=false:=bne_eq_false_iff_eq.mpr c5
    clear c5
    obtain rfl:=Zk H
    go_enter Try.func80,Try.ntmps80
    go_wp2_with (first|((with_reducible refine Zp (N:=2) rfl ?_);refine Zt ?hg (N:=2) ?hd (cs:= #[.int .i64 a0_0,.int .i64 a0_1,.int .i64 a0_2]) (t:=62) ?hr ?_;(case hd=>rfl);(case hg=>rfl);(case hr=>exact z10_5);intro gb306 hg w6 hbox hb;have BK306:=Za (hbox);have GW306:=Za ((z10_22:w.heap.size≤gb306));have GE306:=Za ((z10_22:w.heap.size≤gb306));replace HB:=Za (Zj z10_0 hb);clear hb hbox hg)|((with_reducible refine Zp (N:=3) rfl ?_);refine Zt ?hg (N:=3) ?hd (cs:= #[.int .i64 a1_0,.int .i64 a1_1,.int .i64 a1_2]) (t:=62) ?hr ?_;(case hd=>rfl);(case hg=>rfl);(case hr=>exact z10_5);intro gb307 hg w7 hbox hb;have BK307:=Za (hbox);have GW307:=Za ((z10_35:w.heap.size≤gb307));have GE307:=Za ((z10_35:w.heap.size≤gb307));replace HB:=Za (Zj z10_6 hb);have NB306_307:=Za ((z10_29:gb306≠gb307));have NB307_306:=Za ((z10_30:gb307≠gb306));replace BK306:=Za (Zg (g:=gb306) (o:= .cells #[.int .i64 a0_0,.int .i64 a0_1,.int .i64 a0_2] 62 (0,0)) z10_13 hb);clear hb hbox hg;have hnb8:=NB306_307.out;have hnc8:=NB307_306.out;have hcz9_0:w7.cell? ⟨gb306,0,none⟩=some (.int .i64 a0_0):=(Zb BK306.out 0).trans rfl;have hcz9_1:w7.cell? ⟨gb306,1,none⟩=some (.int .i64 a0_1):=(Zb BK306.out 1).trans rfl;have hcz9_2:w7.cell? ⟨gb306,2,none⟩=some (.int .i64 a0_2):=(Zb BK306.out 2).trans rfl;have hfz9_0:=Zc BK306.out 0;have hfz9_1:=Zc BK306.out 1;have hfz9_2:=Zc BK306.out 2;have hcz10_0:w7.cell? ⟨gb307,0,none⟩=some (.int .i64 a1_0):=(Zb BK307.out 0).trans rfl;have hcz10_1:w7.cell? ⟨gb307,1,none⟩=some (.int .i64 a1_1):=(Zb BK307.out 1).trans rfl;have hcz10_2:w7.cell? ⟨gb307,2,none⟩=some (.int .i64 a1_2):=(Zb BK307.out 2).trans rfl;have hfz10_0:=Zc BK307.out 0;have hfz10_1:=Zc BK307.out 1;have hfz10_2:=Zc BK307.out 2))
    go_ret
    exact⟨by first|rfl|(simp[errW_none,errW_some]<;>rfl)|(simp[*,errW_none,errW_some]<;>rfl)|(simp[*,errW_none,errW_some,i64_w];done),by repeat(first|(with_reducible first|exact HB.out|apply Zh|apply Zf|apply Ze|refine Zd ?_ GE306.out|refine Zd ?_ GE307.out)|exact HB.out)⟩
   ·rw[if_neg c5] at H
    have c5b0:(a0_2==a1_2)=false:=beq_eq_false_iff_ne.mpr c5
    have c5b1:(a0_2 != a1_2)=true:=bne_iff_ne.mpr c5
    obtain rfl:=Zk H
    go_enter Try.func80,Try.ntmps80
    go_wp2_with (first|((with_reducible refine Zp (N:=2) rfl ?_);refine Zt ?hg (N:=2) ?hd (cs:= #[.int .i64 a0_0,.int .i64 a0_1,.int .i64 a0_2]) (t:=62) ?hr ?_;(case hd=>rfl);(case hg=>rfl);(case hr=>exact z10_5);intro gb306 hg w11 hbox hb;have BK306:=Za (hbox);have GW306:=Za ((z10_22:w.heap.size≤gb306));have GE306:=Za ((z10_22:w.heap.size≤gb306));replace HB:=Za (Zj z10_0 hb);clear hb hbox hg)|((with_reducible refine Zp (N:=3) rfl ?_);refine Zt ?hg (N:=3) ?hd (cs:= #[.int .i64 a1_0,.int .i64 a1_1,.int .i64 a1_2]) (t:=62) ?hr ?_;(case hd=>rfl);(case hg=>rfl);(case hr=>exact z10_5);intro gb307 hg w12 hbox hb;have BK307:=Za (hbox);have GW307:=Za ((z10_35:w.heap.size≤gb307));have GE307:=Za ((z10_35:w.heap.size≤gb307));replace HB:=Za (Zj z10_6 hb);have NB306_307:=Za ((z10_29:gb306≠gb307));have NB307_306:=Za ((z10_30:gb307≠gb306));replace BK306:=Za (Zg (g:=gb306) (o:= .cells #[.int .i64 a0_0,.int .i64 a0_1,.int .i64 a0_2] 62 (0,0)) z10_13 hb);clear hb hbox hg;have hnb13:=NB306_307.out;have hnc13:=NB307_306.out;have hcz14_0:w12.cell? ⟨gb306,0,none⟩=some (.int .i64 a0_0):=(Zb BK306.out 0).trans rfl;have hcz14_1:w12.cell? ⟨gb306,1,none⟩=some (.int .i64 a0_1):=(Zb BK306.out 1).trans rfl;have hcz14_2:w12.cell? ⟨gb306,2,none⟩=some (.int .i64 a0_2):=(Zb BK306.out 2).trans rfl;have hfz14_0:=Zc BK306.out 0;have hfz14_1:=Zc BK306.out 1;have hfz14_2:=Zc BK306.out 2;have hcz15_0:w12.cell? ⟨gb307,0,none⟩=some (.int .i64 a1_0):=(Zb BK307.out 0).trans rfl;have hcz15_1:w12.cell? ⟨gb307,1,none⟩=some (.int .i64 a1_1):=(Zb BK307.out 1).trans rfl;have hcz15_2:w12.cell? ⟨gb307,2,none⟩=some (.int .i64 a1_2):=(Zb BK307.out 2).trans rfl;have hfz15_0:=Zc BK307.out 0;have hfz15_1:=Zc BK307.out 1;have hfz15_2:=Zc BK307.out 2))
    go_ret
    exact⟨by first|rfl|(simp[errW_none,errW_some]<;>rfl)|(simp[*,errW_none,errW_some]<;>rfl)|(simp[*,errW_none,errW_some,i64_w];done),by repeat(first|(with_reducible first|exact HB.out|apply Zh|apply Zf|apply Ze|refine Zd ?_ GE306.out|refine Zd ?_ GE307.out)|exact HB.out)⟩
  ·rw[if_neg c4] at H
   have c4b0:(a0_1==a1_1)=false:=beq_eq_false_iff_ne.mpr c4
   have c4b1:(a0_1 != a1_1)=true:=bne_iff_ne.mpr c4
   obtain rfl:=Zk H
   go_enter Try.func80,Try.ntmps80
   go_wp2_with (first|((with_reducible refine Zp (N:=2) rfl ?_);refine Zt ?hg (N:=2) ?hd (cs:= #[.int .i64 a0_0,.int .i64 a0_1,.int .i64 a0_2]) (t:=62) ?hr ?_;(case hd=>rfl);(case hg=>rfl);(case hr=>exact z10_5);intro gb306 hg w16 hbox hb;have BK306:=Za (hbox);have GW306:=Za ((z10_22:w.heap.size≤gb306));have GE306:=Za ((z10_22:w.heap.size≤gb306));replace HB:=Za (Zj z10_0 hb);clear hb hbox hg)|((with_reducible refine Zp (N:=3) rfl ?_);refine Zt ?hg (N:=3) ?hd (cs:= #[.int .i64 a1_0,.int .i64 a1_1,.int .i64 a1_2]) (t:=62) ?hr ?_;(case hd=>rfl);(case hg=>rfl);(case hr=>exact z10_5);intro gb307 hg w17 hbox hb;have BK307:=Za (hbox);have GW307:=Za ((z10_35:w.heap.size≤gb307));have GE307:=Za ((z10_35:w.heap.size≤gb307));replace HB:=Za (Zj z10_6 hb);have NB306_307:=Za ((z10_29:gb306≠gb307));have NB307_306:=Za ((z10_30:gb307≠gb306));replace BK306:=Za (Zg (g:=gb306) (o:= .cells #[.int .i64 a0_0,.int .i64 a0_1,.int .i64 a0_2] 62 (0,0)) z10_13 hb);clear hb hbox hg;have hnb18:=NB306_307.out;have hnc18:=NB307_306.out;have hcz19_0:w17.cell? ⟨gb306,0,none⟩=some (.int .i64 a0_0):=(Zb BK306.out 0).trans rfl;have hcz19_1:w17.cell? ⟨gb306,1,none⟩=some (.int .i64 a0_1):=(Zb BK306.out 1).trans rfl;have hcz19_2:w17.cell? ⟨gb306,2,none⟩=some (.int .i64 a0_2):=(Zb BK306.out 2).trans rfl;have hfz19_0:=Zc BK306.out 0;have hfz19_1:=Zc BK306.out 1;have hfz19_2:=Zc BK306.out 2;have hcz20_0:w17.cell? ⟨gb307,0,none⟩=some (.int .i64 a1_0):=(Zb BK307.out 0).trans rfl;have hcz20_1:w17.cell? ⟨gb307,1,none⟩=some (.int .i64 a1_1):=(Zb BK307.out 1).trans rfl;have hcz20_2:w17.cell? ⟨gb307,2,none⟩=some (.int .i64 a1_2):=(Zb BK307.out 2).trans rfl;have hfz20_0:=Zc BK307.out 0;have hfz20_1:=Zc BK307.out 1;have hfz20_2:=Zc BK307.out 2))
   go_ret
   exact⟨by first|rfl|(simp[errW_none,errW_some]<;>rfl)|(simp[*,errW_none,errW_some]<;>rfl)|(simp[*,errW_none,errW_some,i64_w];done),by repeat(first|(with_reducible first|exact HB.out|apply Zh|apply Zf|apply Ze|refine Zd ?_ GE306.out|refine Zd ?_ GE307.out)|exact HB.out)⟩
 ·rw[if_neg c3] at H
  have c3b0:(a0_0==a1_0)=false:=beq_eq_false_iff_ne.mpr c3
  have c3b1:(a0_0 != a1_0)=true:=bne_iff_ne.mpr c3
  obtain rfl:=Zk H
  go_enter Try.func80,Try.ntmps80
  go_wp2_with (first|((with_reducible refine Zp (N:=2) rfl ?_);refine Zt ?hg (N:=2) ?hd (cs:= #[.int .i64 a0_0,.int .i64 a0_1,.int .i64 a0_2]) (t:=62) ?hr ?_;(case hd=>rfl);(case hg=>rfl);(case hr=>exact z10_5);intro gb306 hg w21 hbox hb;have BK306:=Za (hbox);have GW306:=Za ((z10_22:w.heap.size≤gb306));have GE306:=Za ((z10_22:w.heap.size≤gb306));replace HB:=Za (Zj z10_0 hb);clear hb hbox hg)|((with_reducible refine Zp (N:=3) rfl ?_);refine Zt ?hg (N:=3) ?hd (cs:= #[.int .i64 a1_0,.int .i64 a1_1,.int .i64 a1_2]) (t:=62) ?hr ?_;(case hd=>rfl);(case hg=>rfl);(case hr=>exact z10_5);intro gb307 hg w22 hbox hb;have BK307:=Za (hbox);have GW307:=Za ((z10_35:w.heap.size≤gb307));have GE307:=Za ((z10_35:w.heap.size≤gb307));replace HB:=Za (Zj z10_6 hb);have NB306_307:=Za ((z10_29:gb306≠gb307));have NB307_306:=Za ((z10_30:gb307≠gb306));replace BK306:=Za (Zg (g:=gb306) (o:= .cells #[.int .i64 a0_0,.int .i64 a0_1,.int .i64 a0_2] 62 (0,0)) z10_13 hb);clear hb hbox hg;have hnb23:=NB306_307.out;have hnc23:=NB307_306.out;have hcz24_0:w22.cell? ⟨gb306,0,none⟩=some (.int .i64 a0_0):=(Zb BK306.out 0).trans rfl;have hcz24_1:w22.cell? ⟨gb306,1,none⟩=some (.int .i64 a0_1):=(Zb BK306.out 1).trans rfl;have hcz24_2:w22.cell? ⟨gb306,2,none⟩=some (.int .i64 a0_2):=(Zb BK306.out 2).trans rfl;have hfz24_0:=Zc BK306.out 0;have hfz24_1:=Zc BK306.out 1;have hfz24_2:=Zc BK306.out 2;have hcz25_0:w22.cell? ⟨gb307,0,none⟩=some (.int .i64 a1_0):=(Zb BK307.out 0).trans rfl;have hcz25_1:w22.cell? ⟨gb307,1,none⟩=some (.int .i64 a1_1):=(Zb BK307.out 1).trans rfl;have hcz25_2:w22.cell? ⟨gb307,2,none⟩=some (.int .i64 a1_2):=(Zb BK307.out 2).trans rfl;have hfz25_0:=Zc BK307.out 0;have hfz25_1:=Zc BK307.out 1;have hfz25_2:=Zc BK307.out 2))
  go_ret
  exact⟨by first|rfl|(simp[errW_none,errW_some]<;>rfl)|(simp[*,errW_none,errW_some]<;>rfl)|(simp[*,errW_none,errW_some,i64_w];done),by repeat(first|(with_reducible first|exact HB.out|apply Zh|apply Zf|apply Ze|refine Zd ?_ GE306.out|refine Zd ?_ GE307.out)|exact HB.out)⟩
def laws_eqStmt.f (a0_0:Int) (a0_1:Int) (a0_2:Int) (a0_3:Int) (a0_4:Int) (a0_5:Int) (a1_0:Int) (a1_1:Int) (a1_2:Int) (a1_3:Int) (a1_4:Int) (a1_5:Int):Option (Bool):=if a0_0=a1_0 then (if a0_1=a1_1 then (if a0_2=a1_2 then ((laws_eqExpr.f a0_3 a0_4 a0_5 a1_3 a1_4 a1_5).bind fun t310=>(if t310=true then (some true) else (some false))) else (some false)) else (some false)) else (some false)
set_option maxHeartbeats 8000000 in
set_option maxRecDepth 100000 in
theorem laws_eqStmt.calls (a0_0:Int) (a0_1:Int) (a0_2:Int) (a0_3:Int) (a0_4:Int) (a0_5:Int) (a1_0:Int) (a1_1:Int) (a1_2:Int) (a1_3:Int) (a1_4:Int) (a1_5:Int) (r:Bool) (w:World) (h:laws_eqStmt.f a0_0 a0_1 a0_2 a0_3 a0_4 a0_5 a1_0 a1_1 a1_2 a1_3 a1_4 a1_5=some r):
  Calls Try.prog 93 #[.agg #[.int .i64 a0_0,.int .i64 a0_1,.int .i64 a0_2,.int .i64 a0_3,.int .i64 a0_4,.int .i64 a0_5],.agg #[.int .i64 a1_0,.int .i64 a1_1,.int .i64 a1_2,.int .i64 a1_3,.int .i64 a1_4,.int .i64 a1_5]] w fun e w'=>e= .returned (.bool r)∧Below w.heap.size w w':=by
 have hu80:=Try.underlying80
 have hu62:=Try.underlying62
 have HB:=Za (Yh w.heap.size w)
 have H:(if a0_0=a1_0 then (if a0_1=a1_1 then (if a0_2=a1_2 then ((laws_eqExpr.f a0_3 a0_4 a0_5 a1_3 a1_4 a1_5).bind fun t310=>(if t310=true then (some true) else (some false))) else (some false)) else (some false)) else (some false))=some r:=h
 clear h
 by_cases c3:a0_0=a1_0
 ·rw[if_pos c3] at H
  have c3b0:(a0_0==a1_0)=true:=beq_iff_eq.mpr c3
  have c3b1:(a0_0 != a1_0)=false:=bne_eq_false_iff_eq.mpr c3
  clear c3
  by_cases c4:a0_1=a1_1
  ·rw[if_pos c4] at H
   have c4b0:(a0_1==a1_1)=true:=beq_iff_eq.mpr c4
   have c4b1:(a0_1 != a1_1)=false:=bne_eq_false_iff_eq.mpr c4
   clear c4
   by_cases c5:a0_2=a1_2
   ·rw[if_pos c5] at H
    have c5b0:(a0_2==a1_2)=true:=beq_iff_eq.mpr c5
    have c5b1:(a0_2 != a1_2)=false:=bne_eq_false_iff_eq.mpr c5
    clear c5
    replace H:=Zl H
    obtain⟨t310,A60,H⟩:=H
    replace H:(if t310=true then (some true) else (some false))=some r:=H
    have A6:=Za A60
    clear A60
    by_cases c7:t310=true
    ·subst c7
     rw[if_pos rfl] at H
     obtain rfl:=Zk H
     go_enter Try.func93,Try.ntmps93
     go_wp2_with (first|((with_reducible refine Zp (N:=2) rfl ?_);refine Zt ?hg (N:=2) ?hd (cs:= #[.int .i64 a0_0,.int .i64 a0_1,.int .i64 a0_2,.int .i64 a0_3,.int .i64 a0_4,.int .i64 a0_5]) (t:=80) ?hr ?_;(case hd=>rfl);(case hg=>rfl);(case hr=>exact z10_5);intro gb308 hg w8 hbox hb;have BK308:=Za (hbox);have GW308:=Za ((z10_22:w.heap.size≤gb308));have GE308:=Za ((z10_22:w.heap.size≤gb308));replace HB:=Za (Zj z10_0 hb);clear hb hbox hg)|((with_reducible refine Zp (N:=3) rfl ?_);refine Zt ?hg (N:=3) ?hd (cs:= #[.int .i64 a1_0,.int .i64 a1_1,.int .i64 a1_2,.int .i64 a1_3,.int .i64 a1_4,.int .i64 a1_5]) (t:=80) ?hr ?_;(case hd=>rfl);(case hg=>rfl);(case hr=>exact z10_5);intro gb309 hg w9 hbox hb;have BK309:=Za (hbox);have GW309:=Za ((z10_34:w.heap.size≤gb309));have GE309:=Za ((z10_34:w.heap.size≤gb309));replace HB:=Za (Zj z10_2 hb);have NB308_309:=Za ((z10_23:gb308≠gb309));have NB309_308:=Za ((z10_24:gb309≠gb308));replace BK308:=Za (Zg (g:=gb308) (o:= .cells #[.int .i64 a0_0,.int .i64 a0_1,.int .i64 a0_2,.int .i64 a0_3,.int .i64 a0_4,.int .i64 a0_5] 80 (0,0)) z10_4 hb);clear hb hbox hg;have hnb10:=NB308_309.out;have hnc10:=NB309_308.out;have hcz11_0:w9.cell? ⟨gb308,0,none⟩=some (.int .i64 a0_0):=(Zb BK308.out 0).trans rfl;have hcz11_1:w9.cell? ⟨gb308,1,none⟩=some (.int .i64 a0_1):=(Zb BK308.out 1).trans rfl;have hcz11_2:w9.cell? ⟨gb308,2,none⟩=some (.int .i64 a0_2):=(Zb BK308.out 2).trans rfl;have hcz11_3:w9.cell? ⟨gb308,3,none⟩=some (.int .i64 a0_3):=(Zb BK308.out 3).trans rfl;have hcz11_4:w9.cell? ⟨gb308,4,none⟩=some (.int .i64 a0_4):=(Zb BK308.out 4).trans rfl;have hcz11_5:w9.cell? ⟨gb308,5,none⟩=some (.int .i64 a0_5):=(Zb BK308.out 5).trans rfl;have hfz11_0:=Zc BK308.out 0;have hfz11_1:=Zc BK308.out 1;have hfz11_2:=Zc BK308.out 2;have hfz11_3:=Zc BK308.out 3;have hfz11_4:=Zc BK308.out 4;have hfz11_5:=Zc BK308.out 5;have hcz12_0:w9.cell? ⟨gb309,0,none⟩=some (.int .i64 a1_0):=(Zb BK309.out 0).trans rfl;have hcz12_1:w9.cell? ⟨gb309,1,none⟩=some (.int .i64 a1_1):=(Zb BK309.out 1).trans rfl;have hcz12_2:w9.cell? ⟨gb309,2,none⟩=some (.int .i64 a1_2):=(Zb BK309.out 2).trans rfl;have hcz12_3:w9.cell? ⟨gb309,3,none⟩=some (.int .i64 a1_3):=(Zb BK309.out 3).trans rfl;have hcz12_4:w9.cell? ⟨gb309,4,none⟩=some (.int .i64 a1_4):=(Zb BK309.out 4).trans rfl;have hcz12_5:w9.cell? ⟨gb309,5,none⟩=some (.int .i64 a1_5):=(Zb BK309.out 5).trans rfl;have hfz12_0:=Zc BK309.out 0;have hfz12_1:=Zc BK309.out 1;have hfz12_2:=Zc BK309.out 2;have hfz12_3:=Zc BK309.out 3;have hfz12_4:=Zc BK309.out 4;have hfz12_5:=Zc BK309.out 5)|((first|((with_reducible refine gate_callee (f:=80) rfl ?_);refine goesL_ (some 24) rfl rfl Try.func80 z10_20 rfl #[.agg #[.int .i64 a0_3,.int .i64 a0_4,.int .i64 a0_5],.agg #[.int .i64 a1_3,.int .i64 a1_4,.int .i64 a1_5]] rfl z10_1 ?_;(with_reducible refine(laws_eqExpr.calls a0_3 a0_4 a0_5 a1_3 a1_4 a1_5 true _ A6.out).mono ?_))|(go_at_call 80;(with_reducible refine(laws_eqExpr.calls a0_3 a0_4 a0_5 a1_3 a1_4 a1_5 true _ A6.out).mono ?_)));rintro e w13 ⟨rfl,hb⟩;(first|refine⟨_,rfl,?_⟩|skip);replace BK308:=Za (Zg (g:=gb308) (o:= .cells #[.int .i64 a0_0,.int .i64 a0_1,.int .i64 a0_2,.int .i64 a0_3,.int .i64 a0_4,.int .i64 a0_5] 80 (0,0)) z10_4 hb);replace BK309:=Za (Zg (g:=gb309) (o:= .cells #[.int .i64 a1_0,.int .i64 a1_1,.int .i64 a1_2,.int .i64 a1_3,.int .i64 a1_4,.int .i64 a1_5] 80 (0,0)) (by(with_reducible repeat(first|refine blk_drewN ?_ _|refine blk_drew ?_|refine blk_alloc ?_ _));exact BK309.out) hb);replace HB:=Za (Zj (by repeat(first|(with_reducible first|exact HB.out|apply Zh|apply Zf|apply Ze|refine Zd ?_ GE308.out|refine Zd ?_ GE309.out)|exact HB.out)) hb);(try clear hb);(try clear hb2);(try clear hk);(try clear hi)))
     go_ret
     exact⟨by first|rfl|(simp[errW_none,errW_some]<;>rfl)|(simp[*,errW_none,errW_some]<;>rfl)|(simp[*,errW_none,errW_some,i64_w];done),by repeat(first|(with_reducible first|exact HB.out|apply Zh|apply Zf|apply Ze|refine Zd ?_ GE308.out|refine Zd ?_ GE309.out)|exact HB.out)⟩
    ·replace c7:=Bool.eq_false_iff.mpr c7
     subst c7
     rw[if_neg (show ¬(false=true) by decide)] at H
     obtain rfl:=Zk H
     go_enter Try.func93,Try.ntmps93
     go_wp2_with (first|((with_reducible refine Zp (N:=2) rfl ?_);refine Zt ?hg (N:=2) ?hd (cs:= #[.int .i64 a0_0,.int .i64 a0_1,.int .i64 a0_2,.int .i64 a0_3,.int .i64 a0_4,.int .i64 a0_5]) (t:=80) ?hr ?_;(case hd=>rfl);(case hg=>rfl);(case hr=>exact z10_5);intro gb308 hg w14 hbox hb;have BK308:=Za (hbox);have GW308:=Za ((z10_22:w.heap.size≤gb308));have GE308:=Za ((z10_22:w.heap.size≤gb308));replace HB:=Za (Zj z10_0 hb);clear hb hbox hg)|((with_reducible refine Zp (N:=3) rfl ?_);refine Zt ?hg (N:=3) ?hd (cs:= #[.int .i64 a1_0,.int .i64 a1_1,.int .i64 a1_2,.int .i64 a1_3,.int .i64 a1_4,.int .i64 a1_5]) (t:=80) ?hr ?_;(case hd=>rfl);(case hg=>rfl);(case hr=>exact z10_5);intro gb309 hg w15 hbox hb;have BK309:=Za (hbox);have GW309:=Za ((z10_34:w.heap.size≤gb309));have GE309:=Za ((z10_34:w.heap.size≤gb309));replace HB:=Za (Zj z10_2 hb);have NB308_309:=Za ((z10_23:gb308≠gb309));have NB309_308:=Za ((z10_24:gb309≠gb308));replace BK308:=Za (Zg (g:=gb308) (o:= .cells #[.int .i64 a0_0,.int .i64 a0_1,.int .i64 a0_2,.int .i64 a0_3,.int .i64 a0_4,.int .i64 a0_5] 80 (0,0)) z10_4 hb);clear hb hbox hg;have hnb16:=NB308_309.out;have hnc16:=NB309_308.out;have hcz17_0:w15.cell? ⟨gb308,0,none⟩=some (.int .i64 a0_0):=(Zb BK308.out 0).trans rfl;have hcz17_1:w15.cell? ⟨gb308,1,none⟩=some (.int .i64 a0_1):=(Zb BK308.out 1).trans rfl;have hcz17_2:w15.cell? ⟨gb308,2,none⟩=some (.int .i64 a0_2):=(Zb BK308.out 2).trans rfl;have hcz17_3:w15.cell? ⟨gb308,3,none⟩=some (.int .i64 a0_3):=(Zb BK308.out 3).trans rfl;have hcz17_4:w15.cell? ⟨gb308,4,none⟩=some (.int .i64 a0_4):=(Zb BK308.out 4).trans rfl;have hcz17_5:w15.cell? ⟨gb308,5,none⟩=some (.int .i64 a0_5):=(Zb BK308.out 5).trans rfl;have hfz17_0:=Zc BK308.out 0;have hfz17_1:=Zc BK308.out 1;have hfz17_2:=Zc BK308.out 2;have hfz17_3:=Zc BK308.out 3;have hfz17_4:=Zc BK308.out 4;have hfz17_5:=Zc BK308.out 5;have hcz18_0:w15.cell? ⟨gb309,0,none⟩=some (.int .i64 a1_0):=(Zb BK309.out 0).trans rfl;have hcz18_1:w15.cell? ⟨gb309,1,none⟩=some (.int .i64 a1_1):=(Zb BK309.out 1).trans rfl;have hcz18_2:w15.cell? ⟨gb309,2,none⟩=some (.int .i64 a1_2):=(Zb BK309.out 2).trans rfl;have hcz18_3:w15.cell? ⟨gb309,3,none⟩=some (.int .i64 a1_3):=(Zb BK309.out 3).trans rfl;have hcz18_4:w15.cell? ⟨gb309,4,none⟩=some (.int .i64 a1_4):=(Zb BK309.out 4).trans rfl;have hcz18_5:w15.cell? ⟨gb309,5,none⟩=some (.int .i64 a1_5):=(Zb BK309.out 5).trans rfl;have hfz18_0:=Zc BK309.out 0;have hfz18_1:=Zc BK309.out 1;have hfz18_2:=Zc BK309.out 2;have hfz18_3:=Zc BK309.out 3;have hfz18_4:=Zc BK309.out 4;have hfz18_5:=Zc BK309.out 5)|((first|((with_reducible refine gate_callee (f:=80) rfl ?_);refine goesL_ (some 24) rfl rfl Try.func80 z10_20 rfl #[.agg #[.int .i64 a0_3,.int .i64 a0_4,.int .i64 a0_5],.agg #[.int .i64 a1_3,.int .i64 a1_4,.int .i64 a1_5]] rfl z10_1 ?_;(with_reducible refine(laws_eqExpr.calls a0_3 a0_4 a0_5 a1_3 a1_4 a1_5 false _ A6.out).mono ?_))|(go_at_call 80;(with_reducible refine(laws_eqExpr.calls a0_3 a0_4 a0_5 a1_3 a1_4 a1_5 false _ A6.out).mono ?_)));rintro e w19 ⟨rfl,hb⟩;(first|refine⟨_,rfl,?_⟩|skip);replace BK308:=Za (Zg (g:=gb308) (o:= .cells #[.int .i64 a0_0,.int .i64 a0_1,.int .i64 a0_2,.int .i64 a0_3,.int .i64 a0_4,.int .i64 a0_5] 80 (0,0)) z10_4 hb);replace BK309:=Za (Zg (g:=gb309) (o:= .cells #[.int .i64 a1_0,.int .i64 a1_1,.int .i64 a1_2,.int .i64 a1_3,.int .i64 a1_4,.int .i64 a1_5] 80 (0,0)) (by(with_reducible repeat(first|refine blk_drewN ?_ _|refine blk_drew ?_|refine blk_alloc ?_ _));exact BK309.out) hb);replace HB:=Za (Zj (by repeat(first|(with_reducible first|exact HB.out|apply Zh|apply Zf|apply Ze|refine Zd ?_ GE308.out|refine Zd ?_ GE309.out)|exact HB.out)) hb);(try clear hb);(try clear hb2);(try clear hk);(try clear hi)))
     go_ret
     exact⟨by first|rfl|(simp[errW_none,errW_some]<;>rfl)|(simp[*,errW_none,errW_some]<;>rfl)|(simp[*,errW_none,errW_some,i64_w];done),by repeat(first|(with_reducible first|exact HB.out|apply Zh|apply Zf|apply Ze|refine Zd ?_ GE308.out|refine Zd ?_ GE309.out)|exact HB.out)⟩
   ·rw[if_neg c5] at H
    have c5b0:(a0_2==a1_2)=false:=beq_eq_false_iff_ne.mpr c5
    have c5b1:(a0_2 != a1_2)=true:=bne_iff_ne.mpr c5
    obtain rfl:=Zk H
    go_enter Try.func93,Try.ntmps93
    go_wp2_with (first|((with_reducible refine Zp (N:=2) rfl ?_);refine Zt ?hg (N:=2) ?hd (cs:= #[.int .i64 a0_0,.int .i64 a0_1,.int .i64 a0_2,.int .i64 a0_3,.int .i64 a0_4,.int .i64 a0_5]) (t:=80) ?hr ?_;(case hd=>rfl);(case hg=>rfl);(case hr=>exact z10_5);intro gb308 hg w20 hbox hb;have BK308:=Za (hbox);have GW308:=Za ((z10_22:w.heap.size≤gb308));have GE308:=Za ((z10_22:w.heap.size≤gb308));replace HB:=Za (Zj z10_0 hb);clear hb hbox hg)|((with_reducible refine Zp (N:=3) rfl ?_);refine Zt ?hg (N:=3) ?hd (cs:= #[.int .i64 a1_0,.int .i64 a1_1,.int .i64 a1_2,.int .i64 a1_3,.int .i64 a1_4,.int .i64 a1_5]) (t:=80) ?hr ?_;(case hd=>rfl);(case hg=>rfl);(case hr=>exact z10_5);intro gb309 hg w21 hbox hb;have BK309:=Za (hbox);have GW309:=Za ((z10_34:w.heap.size≤gb309));have GE309:=Za ((z10_34:w.heap.size≤gb309));replace HB:=Za (Zj z10_2 hb);have NB308_309:=Za ((z10_23:gb308≠gb309));have NB309_308:=Za ((z10_24:gb309≠gb308));replace BK308:=Za (Zg (g:=gb308) (o:= .cells #[.int .i64 a0_0,.int .i64 a0_1,.int .i64 a0_2,.int .i64 a0_3,.int .i64 a0_4,.int .i64 a0_5] 80 (0,0)) z10_4 hb);clear hb hbox hg;have hnb22:=NB308_309.out;have hnc22:=NB309_308.out;have hcz23_0:w21.cell? ⟨gb308,0,none⟩=some (.int .i64 a0_0):=(Zb BK308.out 0).trans rfl;have hcz23_1:w21.cell? ⟨gb308,1,none⟩=some (.int .i64 a0_1):=(Zb BK308.out 1).trans rfl;have hcz23_2:w21.cell? ⟨gb308,2,none⟩=some (.int .i64 a0_2):=(Zb BK308.out 2).trans rfl;have hcz23_3:w21.cell? ⟨gb308,3,none⟩=some (.int .i64 a0_3):=(Zb BK308.out 3).trans rfl;have hcz23_4:w21.cell? ⟨gb308,4,none⟩=some (.int .i64 a0_4):=(Zb BK308.out 4).trans rfl;have hcz23_5:w21.cell? ⟨gb308,5,none⟩=some (.int .i64 a0_5):=(Zb BK308.out 5).trans rfl;have hfz23_0:=Zc BK308.out 0;have hfz23_1:=Zc BK308.out 1;have hfz23_2:=Zc BK308.out 2;have hfz23_3:=Zc BK308.out 3;have hfz23_4:=Zc BK308.out 4;have hfz23_5:=Zc BK308.out 5;have hcz24_0:w21.cell? ⟨gb309,0,none⟩=some (.int .i64 a1_0):=(Zb BK309.out 0).trans rfl;have hcz24_1:w21.cell? ⟨gb309,1,none⟩=some (.int .i64 a1_1):=(Zb BK309.out 1).trans rfl;have hcz24_2:w21.cell? ⟨gb309,2,none⟩=some (.int .i64 a1_2):=(Zb BK309.out 2).trans rfl;have hcz24_3:w21.cell? ⟨gb309,3,none⟩=some (.int .i64 a1_3):=(Zb BK309.out 3).trans rfl;have hcz24_4:w21.cell? ⟨gb309,4,none⟩=some (.int .i64 a1_4):=(Zb BK309.out 4).trans rfl;have hcz24_5:w21.cell? ⟨gb309,5,none⟩=some (.int .i64 a1_5):=(Zb BK309.out 5).trans rfl;have hfz24_0:=Zc BK309.out 0;have hfz24_1:=Zc BK309.out 1;have hfz24_2:=Zc BK309.out 2;have hfz24_3:=Zc BK309.out 3;have hfz24_4:=Zc BK309.out 4;have hfz24_5:=Zc BK309.out 5))
    go_ret
    exact⟨by first|rfl|(simp[errW_none,errW_some]<;>rfl)|(simp[*,errW_none,errW_some]<;>rfl)|(simp[*,errW_none,errW_some,i64_w];done),by repeat(first|(with_reducible first|exact HB.out|apply Zh|apply Zf|apply Ze|refine Zd ?_ GE308.out|refine Zd ?_ GE309.out)|exact HB.out)⟩
  ·rw[if_neg c4] at H
   have c4b0:(a0_1==a1_1)=false:=beq_eq_false_iff_ne.mpr c4
   have c4b1:(a0_1 != a1_1)=true:=bne_iff_ne.mpr c4
   obtain rfl:=Zk H
   go_enter Try.func93,Try.ntmps93
   go_wp2_with (first|((with_reducible refine Zp (N:=2) rfl ?_);refine Zt ?hg (N:=2) ?hd (cs:= #[.int .i64 a0_0,.int .i64 a0_1,.int .i64 a0_2,.int .i64 a0_3,.int .i64 a0_4,.int .i64 a0_5]) (t:=80) ?hr ?_;(case hd=>rfl);(case hg=>rfl);(case hr=>exact z10_5);intro gb308 hg w25 hbox hb;have BK308:=Za (hbox);have GW308:=Za ((z10_22:w.heap.size≤gb308));have GE308:=Za ((z10_22:w.heap.size≤gb308));replace HB:=Za (Zj z10_0 hb);clear hb hbox hg)|((with_reducible refine Zp (N:=3) rfl ?_);refine Zt ?hg (N:=3) ?hd (cs:= #[.int .i64 a1_0,.int .i64 a1_1,.int .i64 a1_2,.int .i64 a1_3,.int .i64 a1_4,.int .i64 a1_5]) (t:=80) ?hr ?_;(case hd=>rfl);(case hg=>rfl);(case hr=>exact z10_5);intro gb309 hg w26 hbox hb;have BK309:=Za (hbox);have GW309:=Za ((z10_34:w.heap.size≤gb309));have GE309:=Za ((z10_34:w.heap.size≤gb309));replace HB:=Za (Zj z10_2 hb);have NB308_309:=Za ((z10_23:gb308≠gb309));have NB309_308:=Za ((z10_24:gb309≠gb308));replace BK308:=Za (Zg (g:=gb308) (o:= .cells #[.int .i64 a0_0,.int .i64 a0_1,.int .i64 a0_2,.int .i64 a0_3,.int .i64 a0_4,.int .i64 a0_5] 80 (0,0)) z10_4 hb);clear hb hbox hg;have hnb27:=NB308_309.out;have hnc27:=NB309_308.out;have hcz28_0:w26.cell? ⟨gb308,0,none⟩=some (.int .i64 a0_0):=(Zb BK308.out 0).trans rfl;have hcz28_1:w26.cell? ⟨gb308,1,none⟩=some (.int .i64 a0_1):=(Zb BK308.out 1).trans rfl;have hcz28_2:w26.cell? ⟨gb308,2,none⟩=some (.int .i64 a0_2):=(Zb BK308.out 2).trans rfl;have hcz28_3:w26.cell? ⟨gb308,3,none⟩=some (.int .i64 a0_3):=(Zb BK308.out 3).trans rfl;have hcz28_4:w26.cell? ⟨gb308,4,none⟩=some (.int .i64 a0_4):=(Zb BK308.out 4).trans rfl;have hcz28_5:w26.cell? ⟨gb308,5,none⟩=some (.int .i64 a0_5):=(Zb BK308.out 5).trans rfl;have hfz28_0:=Zc BK308.out 0;have hfz28_1:=Zc BK308.out 1;have hfz28_2:=Zc BK308.out 2;have hfz28_3:=Zc BK308.out 3;have hfz28_4:=Zc BK308.out 4;have hfz28_5:=Zc BK308.out 5;have hcz29_0:w26.cell? ⟨gb309,0,none⟩=some (.int .i64 a1_0):=(Zb BK309.out 0).trans rfl;have hcz29_1:w26.cell? ⟨gb309,1,none⟩=some (.int .i64 a1_1):=(Zb BK309.out 1).trans rfl;have hcz29_2:w26.cell? ⟨gb309,2,none⟩=some (.int .i64 a1_2):=(Zb BK309.out 2).trans rfl;have hcz29_3:w26.cell? ⟨gb309,3,none⟩=some (.int .i64 a1_3):=(Zb BK309.out 3).trans rfl;have hcz29_4:w26.cell? ⟨gb309,4,none⟩=some (.int .i64 a1_4):=(Zb BK309.out 4).trans rfl;have hcz29_5:w26.cell? ⟨gb309,5,none⟩=some (.int .i64 a1_5):=(Zb BK309.out 5).trans rfl;have hfz29_0:=Zc BK309.out 0;have hfz29_1:=Zc BK309.out 1;have hfz29_2:=Zc BK309.out 2;have hfz29_3:=Zc BK309.out 3;have hfz29_4:=Zc BK309.out 4;have hfz29_5:=Zc BK309.out 5))
   go_ret
   exact⟨by first|rfl|(simp[errW_none,errW_some]<;>rfl)|(simp[*,errW_none,errW_some]<;>rfl)|(simp[*,errW_none,errW_some,i64_w];done),by repeat(first|(with_reducible first|exact HB.out|apply Zh|apply Zf|apply Ze|refine Zd ?_ GE308.out|refine Zd ?_ GE309.out)|exact HB.out)⟩
 ·rw[if_neg c3] at H
  have c3b0:(a0_0==a1_0)=false:=beq_eq_false_iff_ne.mpr c3
  have c3b1:(a0_0 != a1_0)=true:=bne_iff_ne.mpr c3
  obtain rfl:=Zk H
  go_enter Try.func93,Try.ntmps93
  go_wp2_with (first|((with_reducible refine Zp (N:=2) rfl ?_);refine Zt ?hg (N:=2) ?hd (cs:= #[.int .i64 a0_0,.int .i64 a0_1,.int .i64 a0_2,.int .i64 a0_3,.int .i64 a0_4,.int .i64 a0_5]) (t:=80) ?hr ?_;(case hd=>rfl);(case hg=>rfl);(case hr=>exact z10_5);intro gb308 hg w30 hbox hb;have BK308:=Za (hbox);have GW308:=Za ((z10_22:w.heap.size≤gb308));have GE308:=Za ((z10_22:w.heap.size≤gb308));replace HB:=Za (Zj z10_0 hb);clear hb hbox hg)|((with_reducible refine Zp (N:=3) rfl ?_);refine Zt ?hg (N:=3) ?hd (cs:= #[.int .i64 a1_0,.int .i64 a1_1,.int .i64 a1_2,.int .i64 a1_3,.int .i64 a1_4,.int .i64 a1_5]) (t:=80) ?hr ?_;(case hd=>rfl);(case hg=>rfl);(case hr=>exact z10_5);intro gb309 hg w31 hbox hb;have BK309:=Za (hbox);have GW309:=Za ((z10_34:w.heap.size≤gb309));have GE309:=Za ((z10_34:w.heap.size≤gb309));replace HB:=Za (Zj z10_2 hb);have NB308_309:=Za ((z10_23:gb308≠gb309));have NB309_308:=Za ((z10_24:gb309≠gb308));replace BK308:=Za (Zg (g:=gb308) (o:= .cells #[.int .i64 a0_0,.int .i64 a0_1,.int .i64 a0_2,.int .i64 a0_3,.int .i64 a0_4,.int .i64 a0_5] 80 (0,0)) z10_4 hb);clear hb hbox hg;have hnb32:=NB308_309.out;have hnc32:=NB309_308.out;have hcz33_0:w31.cell? ⟨gb308,0,none⟩=some (.int .i64 a0_0):=(Zb BK308.out 0).trans rfl;have hcz33_1:w31.cell? ⟨gb308,1,none⟩=some (.int .i64 a0_1):=(Zb BK308.out 1).trans rfl;have hcz33_2:w31.cell? ⟨gb308,2,none⟩=some (.int .i64 a0_2):=(Zb BK308.out 2).trans rfl;have hcz33_3:w31.cell? ⟨gb308,3,none⟩=some (.int .i64 a0_3):=(Zb BK308.out 3).trans rfl;have hcz33_4:w31.cell? ⟨gb308,4,none⟩=some (.int .i64 a0_4):=(Zb BK308.out 4).trans rfl;have hcz33_5:w31.cell? ⟨gb308,5,none⟩=some (.int .i64 a0_5):=(Zb BK308.out 5).trans rfl;have hfz33_0:=Zc BK308.out 0;have hfz33_1:=Zc BK308.out 1;have hfz33_2:=Zc BK308.out 2;have hfz33_3:=Zc BK308.out 3;have hfz33_4:=Zc BK308.out 4;have hfz33_5:=Zc BK308.out 5;have hcz34_0:w31.cell? ⟨gb309,0,none⟩=some (.int .i64 a1_0):=(Zb BK309.out 0).trans rfl;have hcz34_1:w31.cell? ⟨gb309,1,none⟩=some (.int .i64 a1_1):=(Zb BK309.out 1).trans rfl;have hcz34_2:w31.cell? ⟨gb309,2,none⟩=some (.int .i64 a1_2):=(Zb BK309.out 2).trans rfl;have hcz34_3:w31.cell? ⟨gb309,3,none⟩=some (.int .i64 a1_3):=(Zb BK309.out 3).trans rfl;have hcz34_4:w31.cell? ⟨gb309,4,none⟩=some (.int .i64 a1_4):=(Zb BK309.out 4).trans rfl;have hcz34_5:w31.cell? ⟨gb309,5,none⟩=some (.int .i64 a1_5):=(Zb BK309.out 5).trans rfl;have hfz34_0:=Zc BK309.out 0;have hfz34_1:=Zc BK309.out 1;have hfz34_2:=Zc BK309.out 2;have hfz34_3:=Zc BK309.out 3;have hfz34_4:=Zc BK309.out 4;have hfz34_5:=Zc BK309.out 5))
  go_ret
  exact⟨by first|rfl|(simp[errW_none,errW_some]<;>rfl)|(simp[*,errW_none,errW_some]<;>rfl)|(simp[*,errW_none,errW_some,i64_w];done),by repeat(first|(with_reducible first|exact HB.out|apply Zh|apply Zf|apply Ze|refine Zd ?_ GE308.out|refine Zd ?_ GE309.out)|exact HB.out)⟩
def laws_eqStmtS.l0:Nat→List (S80)→List (S80)→Int→Option (Bool)
 |0,_,_,_=>none
 |k+1,x0,x1,x5=>if x5<(x0.length:Int) then (if 0≤x5 then (if x5<(x1.length:Int) then ((laws_eqStmt.f ((rd_T80 x0 x5).f0) ((rd_T80 x0 x5).f1) ((rd_T80 x0 x5).f2) ((rd_T80 x0 x5).f3.f0) ((rd_T80 x0 x5).f3.f1) ((rd_T80 x0 x5).f3.f2) ((rd_T80 x1 x5).f0) ((rd_T80 x1 x5).f1) ((rd_T80 x1 x5).f2) ((rd_T80 x1 x5).f3.f0) ((rd_T80 x1 x5).f3.f1) ((rd_T80 x1 x5).f3.f2)).bind fun t313=>(if t313=true then (laws_eqStmtS.l0 k x0 x1 (wrap64 (x5+1))) else (some false))) else (none)) else (none)) else (some true)
def laws_eqStmtS.f (k:Nat) (l0:List (S80)) (l1:List (S80)):Option (Bool):=if (l0.length:Int)=(l1.length:Int) then (laws_eqStmtS.l0 k l0 l1 0) else (some false)
def laws_eqStmtS.T6:Bool×List (List Nat×List Nat):=(true,[([],[]),([],[]),([0,1],[0,1]),([2],[2]),([],[]),([],[]),([4,5],[4,5]),([6],[6]),([3,7],[3,7]),([8],[8])])
def laws_eqStmtS.B6:List Nat:=[0,0,3,7,0,0,48,112,255,511]
theorem laws_eqStmtS.tab6:rtab .any (opsOf Try.f79 6)=laws_eqStmtS.T6:=by kernel_rfl
theorem laws_eqStmtS.bits6:waitsOk laws_eqStmtS.T6.2 laws_eqStmtS.B6=true:=by kernel_rfl
set_option maxHeartbeats 8000000 in
set_option maxRecDepth 100000 in
theorem laws_eqStmtS.calls (k:Nat) (A0:Option Addr) (c0:Nat) (l0:List (S80)) (A1:Option Addr) (c1:Nat) (l1:List (S80)) (r:Bool) (w:World) (hr0:Kd.C k80 w A0 l0.length l0) (hc0:l0.length≤c0) (hr1:Kd.C k80 w A1 l1.length l1) (hc1:l1.length≤c1) (h:laws_eqStmtS.f k l0 l1=some r):
  Calls Try.prog 79 #[.slice A0 l0.length c0,.slice A1 l1.length c1] w fun e w'=>e= .returned (.bool r)∧Below w.heap.size w w':=by
 have hu80:=Try.underlying80
 have HR0:=Za hr0
 have HC0:=Za hc0
 clear hr0 hc0
 have HR1:=Za hr1
 have HC1:=Za hc1
 clear hr1 hc1
 have HB:=Za (Yh w.heap.size w)
 have H:(if (l0.length:Int)=(l1.length:Int) then (laws_eqStmtS.l0 k l0 l1 0) else (some false))=some r:=h
 clear h
 by_cases c3:(l0.length:Int)=(l1.length:Int)
 ·rw[if_pos c3] at H
  have c3b0:((l0.length:Int)==(l1.length:Int))=true:=beq_iff_eq.mpr c3
  have c3b1:((l0.length:Int) != (l1.length:Int))=false:=bne_eq_false_iff_eq.mpr c3
  have c3b2:(l0.length==l1.length)=true:=by first|simpa using c3|(simp at c3 ⊢;omega)
  clear c3
  have H':=Za H
  clear H
  go_enter Try.func79,Try.ntmps79
  go_wp2
  go_loopg [5] k (fun kq v5 w'=>∃(x5_1:Int),v5= .int .i64 x5_1∧Aside0 (laws_eqStmtS.l0 kq l0 l1 x5_1=some r)∧Aside0 (kq≤k)∧Aside0 (Below w.heap.size w w'))
  case atStart=>exact⟨(0),z10_18,H',⟨Nat.le_refl _⟩,⟨by repeat(first|(with_reducible first|exact HB.out|apply Zh|apply Zf|apply Ze)|exact HB.out)⟩⟩
  case round=>
   clear H'
   (try clear c1);(try clear c3);(try clear c3b0);(try clear c3b1);(try clear c3b2)
   obtain⟨x5_1,rfl,HA,HK1,HB⟩:=hrel
   cases gk with
   |zero=>exact absurd HA.out (by simp[laws_eqStmtS.l0])
   |succ k1=>
    have H:=HA.out
    clear HA
    simp only[laws_eqStmtS.l0] at H
    by_cases c4:x5_1<(l0.length:Int)
    ·rw[if_pos c4] at H
     have c4b0:decide (x5_1<(l0.length:Int))=true:=Zx c4
     clear c4
     by_cases c5:0≤x5_1
     ·rw[if_pos c5] at H
      have c5b0:decide (0≤x5_1)=true:=Zx c5
      clear c5
      by_cases c6:x5_1<(l1.length:Int)
      ·rw[if_pos c6] at H
       have c6b0:decide (x5_1<(l1.length:Int))=true:=Zx c6
       clear c6
       replace H:=Zl H
       obtain⟨t313,A70,H⟩:=H
       replace H:(if t313=true then (laws_eqStmtS.l0 k1 l0 l1 (wrap64 (x5_1+1))) else (some false))=some r:=H
       have A7:=Za A70
       clear A70
       by_cases c8:t313=true
       ·subst c8
        rw[if_pos rfl] at H
        have H':=Za H
        clear H
        try go_wp2
        have n0_:=Za (Ze HB.out)
        clear HB
        have HB:=n0_
        clear n0_
        have p311:0≤(x5_1:Int):=Zv z10_16
        have q311:x5_1<(l0.length:Int):=Zv z10_16
        obtain⟨ad311,e311,hx311_0,hx311_1,hx311_2,hx311_3,hx311_4,hx311_5⟩:=at_T80 HR0.out x5_1 p311 q311
        have hw311_5:=hx311_5
        have hw311_4:=hx311_4
        have hw311_3:=hx311_3
        have hw311_2:=hx311_2
        have hw311_1:=hx311_1
        have hw311_0:=hx311_0
        cases e311
        replace hx311_0:=(HB.out.cell (Zi w _ hx311_0)).trans hx311_0
        replace hx311_1:=(HB.out.cell (Zi w _ hx311_1)).trans hx311_1
        replace hx311_2:=(HB.out.cell (Zi w _ hx311_2)).trans hx311_2
        replace hx311_3:=(HB.out.cell (Zi w _ hx311_3)).trans hx311_3
        replace hx311_4:=(HB.out.cell (Zi w _ hx311_4)).trans hx311_4
        replace hx311_5:=(HB.out.cell (Zi w _ hx311_5)).trans hx311_5
        replace p311:=eq_true p311
        replace q311:=eq_true q311
        have p312:0≤(x5_1:Int):=Zv z10_16
        have q312:x5_1<(l1.length:Int):=Zv z10_16
        obtain⟨ad312,e312,hx312_0,hx312_1,hx312_2,hx312_3,hx312_4,hx312_5⟩:=at_T80 HR1.out x5_1 p312 q312
        have hw312_5:=hx312_5
        have hw312_4:=hx312_4
        have hw312_3:=hx312_3
        have hw312_2:=hx312_2
        have hw312_1:=hx312_1
        have hw312_0:=hx312_0
        cases e312
        replace hx312_0:=(HB.out.cell (Zi w _ hx312_0)).trans hx312_0
        replace hx312_1:=(HB.out.cell (Zi w _ hx312_1)).trans hx312_1
        replace hx312_2:=(HB.out.cell (Zi w _ hx312_2)).trans hx312_2
        replace hx312_3:=(HB.out.cell (Zi w _ hx312_3)).trans hx312_3
        replace hx312_4:=(HB.out.cell (Zi w _ hx312_4)).trans hx312_4
        replace hx312_5:=(HB.out.cell (Zi w _ hx312_5)).trans hx312_5
        replace p312:=eq_true p312
        replace q312:=eq_true q312
        refine start_ (n:=10) (S:=fun w'=>w'.cell? (ad311.add ((x5_1).toNat*6))=some (.int .i64 ((rd_T80 l0 x5_1).f0))∧w'.cell? ⟨(ad311.add ((x5_1).toNat*6)).block,(ad311.add ((x5_1).toNat*6)).off+1,none⟩=some (.int .i64 ((rd_T80 l0 x5_1).f1))∧w'.cell? ⟨(ad311.add ((x5_1).toNat*6)).block,(ad311.add ((x5_1).toNat*6)).off+2,none⟩=some (.int .i64 ((rd_T80 l0 x5_1).f2))∧w'.cell? ⟨(ad311.add ((x5_1).toNat*6)).block,(ad311.add ((x5_1).toNat*6)).off+3,none⟩=some (.int .i64 ((rd_T80 l0 x5_1).f3.f0))∧w'.cell? ⟨(ad311.add ((x5_1).toNat*6)).block,(ad311.add ((x5_1).toNat*6)).off+4,none⟩=some (.int .i64 ((rd_T80 l0 x5_1).f3.f1))∧w'.cell? ⟨(ad311.add ((x5_1).toNat*6)).block,(ad311.add ((x5_1).toNat*6)).off+5,none⟩=some (.int .i64 ((rd_T80 l0 x5_1).f3.f2))∧w'.cell? (ad312.add ((x5_1).toNat*6))=some (.int .i64 ((rd_T80 l1 x5_1).f0))∧w'.cell? ⟨(ad312.add ((x5_1).toNat*6)).block,(ad312.add ((x5_1).toNat*6)).off+1,none⟩=some (.int .i64 ((rd_T80 l1 x5_1).f1))∧w'.cell? ⟨(ad312.add ((x5_1).toNat*6)).block,(ad312.add ((x5_1).toNat*6)).off+2,none⟩=some (.int .i64 ((rd_T80 l1 x5_1).f2))∧w'.cell? ⟨(ad312.add ((x5_1).toNat*6)).block,(ad312.add ((x5_1).toNat*6)).off+3,none⟩=some (.int .i64 ((rd_T80 l1 x5_1).f3.f0))∧w'.cell? ⟨(ad312.add ((x5_1).toNat*6)).block,(ad312.add ((x5_1).toNat*6)).off+4,none⟩=some (.int .i64 ((rd_T80 l1 x5_1).f3.f1))∧w'.cell? ⟨(ad312.add ((x5_1).toNat*6)).block,(ad312.add ((x5_1).toNat*6)).off+5,none⟩=some (.int .i64 ((rd_T80 l1 x5_1).f3.f2))) (ds:=[]) #[false,false,false,false,false,false,false,false,false,false] z10_20 rfl rfl ⟨((HB.out.cell (Zi w _ hw311_0)).trans hw311_0),((HB.out.cell (Zi w _ hw311_1)).trans hw311_1),((HB.out.cell (Zi w _ hw311_2)).trans hw311_2),((HB.out.cell (Zi w _ hw311_3)).trans hw311_3),((HB.out.cell (Zi w _ hw311_4)).trans hw311_4),((HB.out.cell (Zi w _ hw311_5)).trans hw311_5),((HB.out.cell (Zi w _ hw312_0)).trans hw312_0),((HB.out.cell (Zi w _ hw312_1)).trans hw312_1),((HB.out.cell (Zi w _ hw312_2)).trans hw312_2),((HB.out.cell (Zi w _ hw312_3)).trans hw312_3),((HB.out.cell (Zi w _ hw312_4)).trans hw312_4),((HB.out.cell (Zi w _ hw312_5)).trans hw312_5)⟩ (fun hHeld=> ?_);refine with_tabW laws_eqStmtS.tab6 laws_eqStmtS.bits6 (fun HT_ HW_=> ?_)
        generalize wr.drew=w9 at HB hx311_0 hx311_1 hx311_2 hx311_3 hx311_4 hx311_5 hx312_0 hx312_1 hx312_2 hx312_3 hx312_4 hx312_5 hHeld ⊢
        refine pure_ (i:=0) (N:=some 17) (v:= ?_) (a':= ?_) #[true,false,false,false,false,false,false,false,false,false] rfl rfl (any_of HT_.out z10_20) (fun _ _ _ h=>h) (Or.inl ⟨by rfl,?_⟩) ?_ ?_
        rotate_left
        ·intro w'
         go_simp
         with_reducible rfl
        rotate_left
        ·simp only[Act.put,Zq,Zr,Zs,i64_w,i32_w]
         rfl
        refine pure_ (i:=1) (N:=some 18) (v:= ?_) (a':= ?_) #[true,true,false,false,false,false,false,false,false,false] rfl rfl (any_of HT_.out z10_20) (fun _ _ _ h=>h) (Or.inl ⟨by rfl,?_⟩) ?_ ?_
        rotate_left
        ·intro w'
         go_simp
         with_reducible rfl
        rotate_left
        ·simp only[Act.put,Zq,Zr,Zs,i64_w,i32_w]
         rfl
        refine pure_ (i:=2) (N:=some 19) (v:= ?_) (a':= ?_) #[true,true,true,false,false,false,false,false,false,false] rfl rfl (any_of HT_.out z10_20) (fun _ _ _ h=>h) (Or.inl ⟨by rfl,?_⟩) ?_ ?_
        rotate_left
        ·intro w'
         go_simp
         with_reducible rfl
        rotate_left
        ·simp only[Act.put,Zq,Zr,Zs,i64_w,i32_w]
         rfl
        refine pure_ (i:=4) (N:=some 21) (v:= ?_) (a':= ?_) #[true,true,true,false,true,false,false,false,false,false] rfl rfl (any_of HT_.out z10_20) (fun _ _ _ h=>h) (Or.inl ⟨by rfl,?_⟩) ?_ ?_
        rotate_left
        ·intro w'
         go_simp
         with_reducible rfl
        rotate_left
        ·simp only[Act.put,Zq,Zr,Zs,i64_w,i32_w]
         rfl
        refine pure_ (i:=5) (N:=some 22) (v:= ?_) (a':= ?_) #[true,true,true,false,true,true,false,false,false,false] rfl rfl (any_of HT_.out z10_20) (fun _ _ _ h=>h) (Or.inl ⟨by rfl,?_⟩) ?_ ?_
        rotate_left
        ·intro w'
         go_simp
         with_reducible rfl
        rotate_left
        ·simp only[Act.put,Zq,Zr,Zs,i64_w,i32_w]
         rfl
        refine pure_ (i:=6) (N:=some 23) (v:= ?_) (a':= ?_) #[true,true,true,false,true,true,true,false,false,false] rfl rfl (any_of HT_.out z10_20) (fun _ _ _ h=>h) (Or.inl ⟨by rfl,?_⟩) ?_ ?_
        rotate_left
        ·intro w'
         go_simp
         with_reducible rfl
        rotate_left
        ·simp only[Act.put,Zq,Zr,Zs,i64_w,i32_w]
         rfl
        refine take_ (i:=3) (N:=some 20) (v:= ?_) (a':= ?_) #[true,true,true,true,true,true,true,false,false,false] rfl rfl (take_ofW HT_.out HW_.out z10_20) (fun _ _ _ h=>h) (Or.inl ⟨by rfl,?_⟩) hHeld ?_ ?_
        rotate_left
        ·rintro w' ⟨s0,s1,s2,s3,s4,s5,s6,s7,s8,s9,s10,s11⟩
         go_simp
         with_reducible rfl
        rotate_left
        ·simp only[Act.put,Zq,Zr,Zs,i64_w,i32_w]
         rfl
        refine take_ (i:=7) (N:=some 24) (v:= ?_) (a':= ?_) #[true,true,true,true,true,true,true,true,false,false] rfl rfl (take_ofW HT_.out HW_.out z10_20) (fun _ _ _ h=>h) (Or.inl ⟨by rfl,?_⟩) hHeld ?_ ?_
        rotate_left
        ·rintro w' ⟨s0,s1,s2,s3,s4,s5,s6,s7,s8,s9,s10,s11⟩
         go_simp
         with_reducible rfl
        rotate_left
        ·simp only[Act.put,Zq,Zr,Zs,i64_w,i32_w]
         rfl
        refine one_ (i:=8) (N:=some 25) #[true,true,true,true,true,true,true,true,true,false] rfl rfl (one_of HT_.out z10_20) (by decide) (fun K hK=> ?_)
        refine goes_ Try.func93 z10_20 rfl #[.agg #[.int .i64 ((rd_T80 l0 x5_1).f0),.int .i64 ((rd_T80 l0 x5_1).f1),.int .i64 ((rd_T80 l0 x5_1).f2),.int .i64 ((rd_T80 l0 x5_1).f3.f0),.int .i64 ((rd_T80 l0 x5_1).f3.f1),.int .i64 ((rd_T80 l0 x5_1).f3.f2)],.agg #[.int .i64 ((rd_T80 l1 x5_1).f0),.int .i64 ((rd_T80 l1 x5_1).f1),.int .i64 ((rd_T80 l1 x5_1).f2),.int .i64 ((rd_T80 l1 x5_1).f3.f0),.int .i64 ((rd_T80 l1 x5_1).f3.f1),.int .i64 ((rd_T80 l1 x5_1).f3.f2)]] (by rfl) rfl rfl z10_1 ?_
        with_reducible refine(laws_eqStmt.calls ((rd_T80 l0 x5_1).f0) ((rd_T80 l0 x5_1).f1) ((rd_T80 l0 x5_1).f2) ((rd_T80 l0 x5_1).f3.f0) ((rd_T80 l0 x5_1).f3.f1) ((rd_T80 l0 x5_1).f3.f2) ((rd_T80 l1 x5_1).f0) ((rd_T80 l1 x5_1).f1) ((rd_T80 l1 x5_1).f2) ((rd_T80 l1 x5_1).f3.f0) ((rd_T80 l1 x5_1).f3.f1) ((rd_T80 l1 x5_1).f3.f2) true _ A7.out).mono ?_
        rintro e w10 ⟨rfl,hb⟩
        refine⟨_,rfl,?_⟩
        have n0_:=Za (Zj z10_0 hb)
        clear HB
        have HB:=n0_
        clear n0_
        (try clear hb)
        (try clear hb2)
        (try clear hk)
        (try clear hi)
        refine hK.out _ _ ⟨((HB.out.cell (Zi w _ hw311_0)).trans hw311_0),((HB.out.cell (Zi w _ hw311_1)).trans hw311_1),((HB.out.cell (Zi w _ hw311_2)).trans hw311_2),((HB.out.cell (Zi w _ hw311_3)).trans hw311_3),((HB.out.cell (Zi w _ hw311_4)).trans hw311_4),((HB.out.cell (Zi w _ hw311_5)).trans hw311_5),((HB.out.cell (Zi w _ hw312_0)).trans hw312_0),((HB.out.cell (Zi w _ hw312_1)).trans hw312_1),((HB.out.cell (Zi w _ hw312_2)).trans hw312_2),((HB.out.cell (Zi w _ hw312_3)).trans hw312_3),((HB.out.cell (Zi w _ hw312_4)).trans hw312_4),((HB.out.cell (Zi w _ hw312_5)).trans hw312_5)⟩ (fun hHeld=> ?_)
        clear hK K
        refine norm_ (a':= ?_) ?_ ?_
        rotate_left
        ·show Act.put _ (some 25) _=_
         simp only[Act.put,Zq,Zr,Zs,i64_w,i32_w]
         rfl
        refine pure_ (i:=9) (N:=some 26) (v:= ?_) (a':= ?_) #[true,true,true,true,true,true,true,true,true,true] rfl rfl (any_of HT_.out z10_20) (fun _ _ _ h=>h) (Or.inl ⟨by rfl,?_⟩) ?_ ?_
        rotate_left
        ·intro w'
         go_simp
         with_reducible rfl
        rotate_left
        ·simp only[Act.put,Zq,Zr,Zs,i64_w,i32_w]
         rfl
        refine done_ (done_of HT_.out z10_20) ?_
        try go_wp2
        go_roundg k1
        case measure=>have:=HK1.out;omega
        case rel=>exact⟨(wrap64 (x5_1+1)),z10_18,H',⟨by have:=HK1.out;omega⟩,⟨by repeat(first|(with_reducible first|exact HB.out|apply Zh|apply Zf|apply Ze)|exact HB.out)⟩⟩
       ·replace c8:=Bool.eq_false_iff.mpr c8
        subst c8
        rw[if_neg (show ¬(false=true) by decide)] at H
        obtain rfl:=Zk H
        try go_wp2
        have n0_:=Za (Ze HB.out)
        clear HB
        have HB:=n0_
        clear n0_
        have p311:0≤(x5_1:Int):=Zv z10_16
        have q311:x5_1<(l0.length:Int):=Zv z10_16
        obtain⟨ad311,e311,hx311_0,hx311_1,hx311_2,hx311_3,hx311_4,hx311_5⟩:=at_T80 HR0.out x5_1 p311 q311
        have hw311_5:=hx311_5
        have hw311_4:=hx311_4
        have hw311_3:=hx311_3
        have hw311_2:=hx311_2
        have hw311_1:=hx311_1
        have hw311_0:=hx311_0
        cases e311
        replace hx311_0:=(HB.out.cell (Zi w _ hx311_0)).trans hx311_0
        replace hx311_1:=(HB.out.cell (Zi w _ hx311_1)).trans hx311_1
        replace hx311_2:=(HB.out.cell (Zi w _ hx311_2)).trans hx311_2
        replace hx311_3:=(HB.out.cell (Zi w _ hx311_3)).trans hx311_3
        replace hx311_4:=(HB.out.cell (Zi w _ hx311_4)).trans hx311_4
        replace hx311_5:=(HB.out.cell (Zi w _ hx311_5)).trans hx311_5
        replace p311:=eq_true p311
        replace q311:=eq_true q311
        have p312:0≤(x5_1:Int):=Zv z10_16
        have q312:x5_1<(l1.length:Int):=Zv z10_16
        obtain⟨ad312,e312,hx312_0,hx312_1,hx312_2,hx312_3,hx312_4,hx312_5⟩:=at_T80 HR1.out x5_1 p312 q312
        have hw312_5:=hx312_5
        have hw312_4:=hx312_4
        have hw312_3:=hx312_3
        have hw312_2:=hx312_2
        have hw312_1:=hx312_1
        have hw312_0:=hx312_0
        cases e312
        replace hx312_0:=(HB.out.cell (Zi w _ hx312_0)).trans hx312_0
        replace hx312_1:=(HB.out.cell (Zi w _ hx312_1)).trans hx312_1
        replace hx312_2:=(HB.out.cell (Zi w _ hx312_2)).trans hx312_2
        replace hx312_3:=(HB.out.cell (Zi w _ hx312_3)).trans hx312_3
        replace hx312_4:=(HB.out.cell (Zi w _ hx312_4)).trans hx312_4
        replace hx312_5:=(HB.out.cell (Zi w _ hx312_5)).trans hx312_5
        replace p312:=eq_true p312
        replace q312:=eq_true q312
        refine start_ (n:=10) (S:=fun w'=>w'.cell? (ad311.add ((x5_1).toNat*6))=some (.int .i64 ((rd_T80 l0 x5_1).f0))∧w'.cell? ⟨(ad311.add ((x5_1).toNat*6)).block,(ad311.add ((x5_1).toNat*6)).off+1,none⟩=some (.int .i64 ((rd_T80 l0 x5_1).f1))∧w'.cell? ⟨(ad311.add ((x5_1).toNat*6)).block,(ad311.add ((x5_1).toNat*6)).off+2,none⟩=some (.int .i64 ((rd_T80 l0 x5_1).f2))∧w'.cell? ⟨(ad311.add ((x5_1).toNat*6)).block,(ad311.add ((x5_1).toNat*6)).off+3,none⟩=some (.int .i64 ((rd_T80 l0 x5_1).f3.f0))∧w'.cell? ⟨(ad311.add ((x5_1).toNat*6)).block,(ad311.add ((x5_1).toNat*6)).off+4,none⟩=some (.int .i64 ((rd_T80 l0 x5_1).f3.f1))∧w'.cell? ⟨(ad311.add ((x5_1).toNat*6)).block,(ad311.add ((x5_1).toNat*6)).off+5,none⟩=some (.int .i64 ((rd_T80 l0 x5_1).f3.f2))∧w'.cell? (ad312.add ((x5_1).toNat*6))=some (.int .i64 ((rd_T80 l1 x5_1).f0))∧w'.cell? ⟨(ad312.add ((x5_1).toNat*6)).block,(ad312.add ((x5_1).toNat*6)).off+1,none⟩=some (.int .i64 ((rd_T80 l1 x5_1).f1))∧w'.cell? ⟨(ad312.add ((x5_1).toNat*6)).block,(ad312.add ((x5_1).toNat*6)).off+2,none⟩=some (.int .i64 ((rd_T80 l1 x5_1).f2))∧w'.cell? ⟨(ad312.add ((x5_1).toNat*6)).block,(ad312.add ((x5_1).toNat*6)).off+3,none⟩=some (.int .i64 ((rd_T80 l1 x5_1).f3.f0))∧w'.cell? ⟨(ad312.add ((x5_1).toNat*6)).block,(ad312.add ((x5_1).toNat*6)).off+4,none⟩=some (.int .i64 ((rd_T80 l1 x5_1).f3.f1))∧w'.cell? ⟨(ad312.add ((x5_1).toNat*6)).block,(ad312.add ((x5_1).toNat*6)).off+5,none⟩=some (.int .i64 ((rd_T80 l1 x5_1).f3.f2))) (ds:=[]) #[false,false,false,false,false,false,false,false,false,false] z10_20 rfl rfl ⟨((HB.out.cell (Zi w _ hw311_0)).trans hw311_0),((HB.out.cell (Zi w _ hw311_1)).trans hw311_1),((HB.out.cell (Zi w _ hw311_2)).trans hw311_2),((HB.out.cell (Zi w _ hw311_3)).trans hw311_3),((HB.out.cell (Zi w _ hw311_4)).trans hw311_4),((HB.out.cell (Zi w _ hw311_5)).trans hw311_5),((HB.out.cell (Zi w _ hw312_0)).trans hw312_0),((HB.out.cell (Zi w _ hw312_1)).trans hw312_1),((HB.out.cell (Zi w _ hw312_2)).trans hw312_2),((HB.out.cell (Zi w _ hw312_3)).trans hw312_3),((HB.out.cell (Zi w _ hw312_4)).trans hw312_4),((HB.out.cell (Zi w _ hw312_5)).trans hw312_5)⟩ (fun hHeld=> ?_);refine with_tabW laws_eqStmtS.tab6 laws_eqStmtS.bits6 (fun HT_ HW_=> ?_)
        generalize wr.drew=w11 at HB hx311_0 hx311_1 hx311_2 hx311_3 hx311_4 hx311_5 hx312_0 hx312_1 hx312_2 hx312_3 hx312_4 hx312_5 hHeld ⊢
        refine pure_ (i:=0) (N:=some 17) (v:= ?_) (a':= ?_) #[true,false,false,false,false,false,false,false,false,false] rfl rfl (any_of HT_.out z10_20) (fun _ _ _ h=>h) (Or.inl ⟨by rfl,?_⟩) ?_ ?_
        rotate_left
        ·intro w'
         go_simp
         with_reducible rfl
        rotate_left
        ·simp only[Act.put,Zq,Zr,Zs,i64_w,i32_w]
         rfl
        refine pure_ (i:=1) (N:=some 18) (v:= ?_) (a':= ?_) #[true,true,false,false,false,false,false,false,false,false] rfl rfl (any_of HT_.out z10_20) (fun _ _ _ h=>h) (Or.inl ⟨by rfl,?_⟩) ?_ ?_
        rotate_left
        ·intro w'
         go_simp
         with_reducible rfl
        rotate_left
        ·simp only[Act.put,Zq,Zr,Zs,i64_w,i32_w]
         rfl
        refine pure_ (i:=2) (N:=some 19) (v:= ?_) (a':= ?_) #[true,true,true,false,false,false,false,false,false,false] rfl rfl (any_of HT_.out z10_20) (fun _ _ _ h=>h) (Or.inl ⟨by rfl,?_⟩) ?_ ?_
        rotate_left
        ·intro w'
         go_simp
         with_reducible rfl
        rotate_left
        ·simp only[Act.put,Zq,Zr,Zs,i64_w,i32_w]
         rfl
        refine pure_ (i:=4) (N:=some 21) (v:= ?_) (a':= ?_) #[true,true,true,false,true,false,false,false,false,false] rfl rfl (any_of HT_.out z10_20) (fun _ _ _ h=>h) (Or.inl ⟨by rfl,?_⟩) ?_ ?_
        rotate_left
        ·intro w'
         go_simp
         with_reducible rfl
        rotate_left
        ·simp only[Act.put,Zq,Zr,Zs,i64_w,i32_w]
         rfl
        refine pure_ (i:=5) (N:=some 22) (v:= ?_) (a':= ?_) #[true,true,true,false,true,true,false,false,false,false] rfl rfl (any_of HT_.out z10_20) (fun _ _ _ h=>h) (Or.inl ⟨by rfl,?_⟩) ?_ ?_
        rotate_left
        ·intro w'
         go_simp
         with_reducible rfl
        rotate_left
        ·simp only[Act.put,Zq,Zr,Zs,i64_w,i32_w]
         rfl
        refine pure_ (i:=6) (N:=some 23) (v:= ?_) (a':= ?_) #[true,true,true,false,true,true,true,false,false,false] rfl rfl (any_of HT_.out z10_20) (fun _ _ _ h=>h) (Or.inl ⟨by rfl,?_⟩) ?_ ?_
        rotate_left
        ·intro w'
         go_simp
         with_reducible rfl
        rotate_left
        ·simp only[Act.put,Zq,Zr,Zs,i64_w,i32_w]
         rfl
        refine take_ (i:=3) (N:=some 20) (v:= ?_) (a':= ?_) #[true,true,true,true,true,true,true,false,false,false] rfl rfl (take_ofW HT_.out HW_.out z10_20) (fun _ _ _ h=>h) (Or.inl ⟨by rfl,?_⟩) hHeld ?_ ?_
        rotate_left
        ·rintro w' ⟨s0,s1,s2,s3,s4,s5,s6,s7,s8,s9,s10,s11⟩
         go_simp
         with_reducible rfl
        rotate_left
        ·simp only[Act.put,Zq,Zr,Zs,i64_w,i32_w]
         rfl
        refine take_ (i:=7) (N:=some 24) (v:= ?_) (a':= ?_) #[true,true,true,true,true,true,true,true,false,false] rfl rfl (take_ofW HT_.out HW_.out z10_20) (fun _ _ _ h=>h) (Or.inl ⟨by rfl,?_⟩) hHeld ?_ ?_
        rotate_left
        ·rintro w' ⟨s0,s1,s2,s3,s4,s5,s6,s7,s8,s9,s10,s11⟩
         go_simp
         with_reducible rfl
        rotate_left
        ·simp only[Act.put,Zq,Zr,Zs,i64_w,i32_w]
         rfl
        refine one_ (i:=8) (N:=some 25) #[true,true,true,true,true,true,true,true,true,false] rfl rfl (one_of HT_.out z10_20) (by decide) (fun K hK=> ?_)
        refine goes_ Try.func93 z10_20 rfl #[.agg #[.int .i64 ((rd_T80 l0 x5_1).f0),.int .i64 ((rd_T80 l0 x5_1).f1),.int .i64 ((rd_T80 l0 x5_1).f2),.int .i64 ((rd_T80 l0 x5_1).f3.f0),.int .i64 ((rd_T80 l0 x5_1).f3.f1),.int .i64 ((rd_T80 l0 x5_1).f3.f2)],.agg #[.int .i64 ((rd_T80 l1 x5_1).f0),.int .i64 ((rd_T80 l1 x5_1).f1),.int .i64 ((rd_T80 l1 x5_1).f2),.int .i64 ((rd_T80 l1 x5_1).f3.f0),.int .i64 ((rd_T80 l1 x5_1).f3.f1),.int .i64 ((rd_T80 l1 x5_1).f3.f2)]] (by rfl) rfl rfl z10_1 ?_
        with_reducible refine(laws_eqStmt.calls ((rd_T80 l0 x5_1).f0) ((rd_T80 l0 x5_1).f1) ((rd_T80 l0 x5_1).f2) ((rd_T80 l0 x5_1).f3.f0) ((rd_T80 l0 x5_1).f3.f1) ((rd_T80 l0 x5_1).f3.f2) ((rd_T80 l1 x5_1).f0) ((rd_T80 l1 x5_1).f1) ((rd_T80 l1 x5_1).f2) ((rd_T80 l1 x5_1).f3.f0) ((rd_T80 l1 x5_1).f3.f1) ((rd_T80 l1 x5_1).f3.f2) false _ A7.out).mono ?_
        rintro e w12 ⟨rfl,hb⟩
        refine⟨_,rfl,?_⟩
        have n0_:=Za (Zj z10_0 hb)
        clear HB
        have HB:=n0_
        clear n0_
        (try clear hb)
        (try clear hb2)
        (try clear hk)
        (try clear hi)
        refine hK.out _ _ ⟨((HB.out.cell (Zi w _ hw311_0)).trans hw311_0),((HB.out.cell (Zi w _ hw311_1)).trans hw311_1),((HB.out.cell (Zi w _ hw311_2)).trans hw311_2),((HB.out.cell (Zi w _ hw311_3)).trans hw311_3),((HB.out.cell (Zi w _ hw311_4)).trans hw311_4),((HB.out.cell (Zi w _ hw311_5)).trans hw311_5),((HB.out.cell (Zi w _ hw312_0)).trans hw312_0),((HB.out.cell (Zi w _ hw312_1)).trans hw312_1),((HB.out.cell (Zi w _ hw312_2)).trans hw312_2),((HB.out.cell (Zi w _ hw312_3)).trans hw312_3),((HB.out.cell (Zi w _ hw312_4)).trans hw312_4),((HB.out.cell (Zi w _ hw312_5)).trans hw312_5)⟩ (fun hHeld=> ?_)
        clear hK K
        refine norm_ (a':= ?_) ?_ ?_
        rotate_left
        ·show Act.put _ (some 25) _=_
         simp only[Act.put,Zq,Zr,Zs,i64_w,i32_w]
         rfl
        refine pure_ (i:=9) (N:=some 26) (v:= ?_) (a':= ?_) #[true,true,true,true,true,true,true,true,true,true] rfl rfl (any_of HT_.out z10_20) (fun _ _ _ h=>h) (Or.inl ⟨by rfl,?_⟩) ?_ ?_
        rotate_left
        ·intro w'
         go_simp
         with_reducible rfl
        rotate_left
        ·simp only[Act.put,Zq,Zr,Zs,i64_w,i32_w]
         rfl
        refine done_ (done_of HT_.out z10_20) ?_
        try go_wp2
        go_ret
        exact⟨by first|rfl|(simp[errW_none,errW_some]<;>rfl)|(simp[*,errW_none,errW_some]<;>rfl)|(simp[*,errW_none,errW_some,i64_w];done),by repeat(first|(with_reducible first|exact HB.out|apply Zh|apply Zf|apply Ze)|exact HB.out)⟩
      ·rw[if_neg c6] at H
       exact absurd H (by simp)
     ·rw[if_neg c5] at H
      exact absurd H (by simp)
    ·rw[if_neg c4] at H
     have c4b0:decide (x5_1<(l0.length:Int))=false:=Yi c4
     clear c4
     obtain rfl:=Zk H
     go_wp2
     go_ret
     exact⟨by first|rfl|(simp[errW_none,errW_some]<;>rfl)|(simp[*,errW_none,errW_some]<;>rfl)|(simp[*,errW_none,errW_some,i64_w];done),by repeat(first|(with_reducible first|exact HB.out|apply Zh|apply Zf|apply Ze)|exact HB.out)⟩
 ·rw[if_neg c3] at H
  have c3b0:((l0.length:Int)==(l1.length:Int))=false:=beq_eq_false_iff_ne.mpr c3
  have c3b1:((l0.length:Int) != (l1.length:Int))=true:=bne_iff_ne.mpr c3
  have c3b2:(l0.length==l1.length)=false:=by first|simpa using c3|(simp at c3 ⊢;omega)
  obtain rfl:=Zk H
  go_enter Try.func79,Try.ntmps79
  go_wp2
  go_ret
  exact⟨by first|rfl|(simp[errW_none,errW_some]<;>rfl)|(simp[*,errW_none,errW_some]<;>rfl)|(simp[*,errW_none,errW_some,i64_w];done),by repeat(first|(with_reducible first|exact HB.out|apply Zh|apply Zf|apply Ze)|exact HB.out)⟩
def laws_eqTask.f (k:Nat) (l0_0:List (S80)) (a0_1:Int) (a0_2:Int) (a0_3:Int) (l1_0:List (S80)) (a1_1:Int) (a1_2:Int) (a1_3:Int):Option (Bool):=(laws_eqStmtS.f k l0_0 l1_0).bind fun t316=>(if t316=true then ((laws_eqExpr.f a0_1 a0_2 a0_3 a1_1 a1_2 a1_3).bind fun t317=>(if t317=true then (some true) else (some false))) else (some false))
set_option maxHeartbeats 8000000 in
set_option maxRecDepth 100000 in
theorem laws_eqTask.calls (k:Nat) (A0_0:Option Addr) (c0_0:Nat) (l0_0:List (S80)) (a0_1:Int) (a0_2:Int) (a0_3:Int) (A1_0:Option Addr) (c1_0:Nat) (l1_0:List (S80)) (a1_1:Int) (a1_2:Int) (a1_3:Int) (r:Bool) (w:World) (hr0_0:Kd.C k80 w A0_0 l0_0.length l0_0) (hc0_0:l0_0.length≤c0_0) (hr1_0:Kd.C k80 w A1_0 l1_0.length l1_0) (hc1_0:l1_0.length≤c1_0) (h:laws_eqTask.f k l0_0 a0_1 a0_2 a0_3 l1_0 a1_1 a1_2 a1_3=some r):
  Calls Try.prog 55 #[.agg #[.slice A0_0 l0_0.length c0_0,.int .i64 a0_1,.int .i64 a0_2,.int .i64 a0_3],.agg #[.slice A1_0 l1_0.length c1_0,.int .i64 a1_1,.int .i64 a1_2,.int .i64 a1_3]] w fun e w'=>e= .returned (.bool r)∧Below w.heap.size w w':=by
 have hu64:=Try.underlying64
 have hu62:=Try.underlying62
 have HR0_0:=Za hr0_0
 have HC0_0:=Za hc0_0
 clear hr0_0 hc0_0
 have HR1_0:=Za hr1_0
 have HC1_0:=Za hc1_0
 clear hr1_0 hc1_0
 have HB:=Za (Yh w.heap.size w)
 have H:((laws_eqStmtS.f k l0_0 l1_0).bind fun t316=>(if t316=true then ((laws_eqExpr.f a0_1 a0_2 a0_3 a1_1 a1_2 a1_3).bind fun t317=>(if t317=true then (some true) else (some false))) else (some false)))=some r:=h
 clear h
 replace H:=Zl H
 obtain⟨t316,A30,H⟩:=H
 replace H:(if t316=true then ((laws_eqExpr.f a0_1 a0_2 a0_3 a1_1 a1_2 a1_3).bind fun t317=>(if t317=true then (some true) else (some false))) else (some false))=some r:=H
 have A3:=Za A30
 clear A30
 by_cases c4:t316=true
 ·subst c4
  rw[if_pos rfl] at H
  replace H:=Zl H
  obtain⟨t317,A50,H⟩:=H
  replace H:(if t317=true then (some true) else (some false))=some r:=H
  have A5:=Za A50
  clear A50
  by_cases c6:t317=true
  ·subst c6
   rw[if_pos rfl] at H
   obtain rfl:=Zk H
   go_enter Try.func55,Try.ntmps55
   go_wp2_with (first|((with_reducible refine Zp (N:=2) rfl ?_);refine Zt ?hg (N:=2) ?hd (cs:= #[.slice A0_0 l0_0.length c0_0,.int .i64 a0_1,.int .i64 a0_2,.int .i64 a0_3]) (t:=64) ?hr ?_;(case hd=>rfl);(case hg=>rfl);(case hr=>exact z10_5);intro gb314 hg w7 hbox hb;have BK314:=Za (hbox);have GW314:=Za ((z10_22:w.heap.size≤gb314));have GE314:=Za ((z10_22:w.heap.size≤gb314));replace HB:=Za (Zj z10_0 hb);clear hb hbox hg)|((with_reducible refine Zp (N:=3) rfl ?_);refine Zt ?hg (N:=3) ?hd (cs:= #[.slice A1_0 l1_0.length c1_0,.int .i64 a1_1,.int .i64 a1_2,.int .i64 a1_3]) (t:=64) ?hr ?_;(case hd=>rfl);(case hg=>rfl);(case hr=>exact z10_5);intro gb315 hg w8 hbox hb;have BK315:=Za (hbox);have GW315:=Za ((by rw[hg];exact(Zy z10_12):w.heap.size≤gb315));have GE315:=Za ((by rw[hg];exact(Zy z10_12):w.heap.size≤gb315));replace HB:=Za (Zj z10_12 hb);have NB314_315:=Za ((z10_31:gb314≠gb315));have NB315_314:=Za ((z10_32:gb315≠gb314));replace BK314:=Za (Zg (g:=gb314) (o:= .cells #[.slice A0_0 l0_0.length c0_0,.int .i64 a0_1,.int .i64 a0_2,.int .i64 a0_3] 64 (0,0)) z10_10 hb);clear hb hbox hg;have hnb9:=NB314_315.out;have hnc9:=NB315_314.out;have hcz10_0:w8.cell? ⟨gb314,0,none⟩=some (.slice A0_0 l0_0.length c0_0):=(Zb BK314.out 0).trans rfl;have hcz10_1:w8.cell? ⟨gb314,1,none⟩=some (.int .i64 a0_1):=(Zb BK314.out 1).trans rfl;have hcz10_2:w8.cell? ⟨gb314,2,none⟩=some (.int .i64 a0_2):=(Zb BK314.out 2).trans rfl;have hcz10_3:w8.cell? ⟨gb314,3,none⟩=some (.int .i64 a0_3):=(Zb BK314.out 3).trans rfl;have hfz10_0:=Zc BK314.out 0;have hfz10_1:=Zc BK314.out 1;have hfz10_2:=Zc BK314.out 2;have hfz10_3:=Zc BK314.out 3;have hcz11_0:w8.cell? ⟨gb315,0,none⟩=some (.slice A1_0 l1_0.length c1_0):=(Zb BK315.out 0).trans rfl;have hcz11_1:w8.cell? ⟨gb315,1,none⟩=some (.int .i64 a1_1):=(Zb BK315.out 1).trans rfl;have hcz11_2:w8.cell? ⟨gb315,2,none⟩=some (.int .i64 a1_2):=(Zb BK315.out 2).trans rfl;have hcz11_3:w8.cell? ⟨gb315,3,none⟩=some (.int .i64 a1_3):=(Zb BK315.out 3).trans rfl;have hfz11_0:=Zc BK315.out 0;have hfz11_1:=Zc BK315.out 1;have hfz11_2:=Zc BK315.out 2;have hfz11_3:=Zc BK315.out 3)|((first|((with_reducible refine gate_callee (f:=79) rfl ?_);refine goesL_ (some 9) rfl rfl Try.func79 z10_20 rfl #[.slice A0_0 l0_0.length c0_0,.slice A1_0 l1_0.length c1_0] rfl z10_1 ?_;(with_reducible refine(laws_eqStmtS.calls k _ _ l0_0 _ _ l1_0 true _ ?side1 ?side2 ?side3 ?side4 A3.out).mono ?_))|(go_at_call 79;(with_reducible refine(laws_eqStmtS.calls k _ _ l0_0 _ _ l1_0 true _ ?side1 ?side2 ?side3 ?side4 A3.out).mono ?_)));(case side1=>exact z10_9);(case side2=>exact HC0_0.out);(case side3=>exact z10_8);(case side4=>exact HC1_0.out);rintro e w12 ⟨rfl,hb⟩;(first|refine⟨_,rfl,?_⟩|skip);replace BK314:=Za (Zg (g:=gb314) (o:= .cells #[.slice A0_0 l0_0.length c0_0,.int .i64 a0_1,.int .i64 a0_2,.int .i64 a0_3] 64 (0,0)) z10_10 hb);replace BK315:=Za (Zg (g:=gb315) (o:= .cells #[.slice A1_0 l1_0.length c1_0,.int .i64 a1_1,.int .i64 a1_2,.int .i64 a1_3] 64 (0,0)) z10_21 hb);replace HB:=Za (Zj z10_17 hb);(try clear hb);(try clear hb2);(try clear hk);(try clear hi);have hcz13_0:w12.cell? ⟨gb314,0,none⟩=some (.slice A0_0 l0_0.length c0_0):=(Zb BK314.out 0).trans rfl;have hcz13_1:w12.cell? ⟨gb314,1,none⟩=some (.int .i64 a0_1):=(Zb BK314.out 1).trans rfl;have hcz13_2:w12.cell? ⟨gb314,2,none⟩=some (.int .i64 a0_2):=(Zb BK314.out 2).trans rfl;have hcz13_3:w12.cell? ⟨gb314,3,none⟩=some (.int .i64 a0_3):=(Zb BK314.out 3).trans rfl;have hfz13_0:=Zc BK314.out 0;have hfz13_1:=Zc BK314.out 1;have hfz13_2:=Zc BK314.out 2;have hfz13_3:=Zc BK314.out 3;have hcz14_0:w12.cell? ⟨gb315,0,none⟩=some (.slice A1_0 l1_0.length c1_0):=(Zb BK315.out 0).trans rfl;have hcz14_1:w12.cell? ⟨gb315,1,none⟩=some (.int .i64 a1_1):=(Zb BK315.out 1).trans rfl;have hcz14_2:w12.cell? ⟨gb315,2,none⟩=some (.int .i64 a1_2):=(Zb BK315.out 2).trans rfl;have hcz14_3:w12.cell? ⟨gb315,3,none⟩=some (.int .i64 a1_3):=(Zb BK315.out 3).trans rfl;have hfz14_0:=Zc BK315.out 0;have hfz14_1:=Zc BK315.out 1;have hfz14_2:=Zc BK315.out 2;have hfz14_3:=Zc BK315.out 3)|((first|((with_reducible refine gate_callee (f:=80) rfl ?_);refine goesL_ (some 15) rfl rfl Try.func80 z10_20 rfl #[.agg #[.int .i64 a0_1,.int .i64 a0_2,.int .i64 a0_3],.agg #[.int .i64 a1_1,.int .i64 a1_2,.int .i64 a1_3]] rfl z10_1 ?_;(with_reducible refine(laws_eqExpr.calls a0_1 a0_2 a0_3 a1_1 a1_2 a1_3 true _ A5.out).mono ?_))|(go_at_call 80;(with_reducible refine(laws_eqExpr.calls a0_1 a0_2 a0_3 a1_1 a1_2 a1_3 true _ A5.out).mono ?_)));rintro e w15 ⟨rfl,hb⟩;(first|refine⟨_,rfl,?_⟩|skip);replace BK314:=Za (Zg (g:=gb314) (o:= .cells #[.slice A0_0 l0_0.length c0_0,.int .i64 a0_1,.int .i64 a0_2,.int .i64 a0_3] 64 (0,0)) z10_10 hb);replace BK315:=Za (Zg (g:=gb315) (o:= .cells #[.slice A1_0 l1_0.length c1_0,.int .i64 a1_1,.int .i64 a1_2,.int .i64 a1_3] 64 (0,0)) z10_21 hb);replace HB:=Za (Zj z10_17 hb);(try clear hb);(try clear hb2);(try clear hk);(try clear hi)))
   go_ret
   exact⟨by first|rfl|(simp[errW_none,errW_some]<;>rfl)|(simp[*,errW_none,errW_some]<;>rfl)|(simp[*,errW_none,errW_some,i64_w];done),by repeat(first|(with_reducible first|exact HB.out|apply Zh|apply Zf|apply Ze|refine Zd ?_ GE314.out|refine Zd ?_ GE315.out)|exact HB.out)⟩
  ·replace c6:=Bool.eq_false_iff.mpr c6
   subst c6
   rw[if_neg (show ¬(false=true) by decide)] at H
   obtain rfl:=Zk H
   go_enter Try.func55,Try.ntmps55
   go_wp2_with (first|((with_reducible refine Zp (N:=2) rfl ?_);refine Zt ?hg (N:=2) ?hd (cs:= #[.slice A0_0 l0_0.length c0_0,.int .i64 a0_1,.int .i64 a0_2,.int .i64 a0_3]) (t:=64) ?hr ?_;(case hd=>rfl);(case hg=>rfl);(case hr=>exact z10_5);intro gb314 hg w16 hbox hb;have BK314:=Za (hbox);have GW314:=Za ((z10_22:w.heap.size≤gb314));have GE314:=Za ((z10_22:w.heap.size≤gb314));replace HB:=Za (Zj z10_0 hb);clear hb hbox hg)|((with_reducible refine Zp (N:=3) rfl ?_);refine Zt ?hg (N:=3) ?hd (cs:= #[.slice A1_0 l1_0.length c1_0,.int .i64 a1_1,.int .i64 a1_2,.int .i64 a1_3]) (t:=64) ?hr ?_;(case hd=>rfl);(case hg=>rfl);(case hr=>exact z10_5);intro gb315 hg w17 hbox hb;have BK315:=Za (hbox);have GW315:=Za ((by rw[hg];exact(Zy z10_12):w.heap.size≤gb315));have GE315:=Za ((by rw[hg];exact(Zy z10_12):w.heap.size≤gb315));replace HB:=Za (Zj z10_12 hb);have NB314_315:=Za ((z10_31:gb314≠gb315));have NB315_314:=Za ((z10_32:gb315≠gb314));replace BK314:=Za (Zg (g:=gb314) (o:= .cells #[.slice A0_0 l0_0.length c0_0,.int .i64 a0_1,.int .i64 a0_2,.int .i64 a0_3] 64 (0,0)) z10_10 hb);clear hb hbox hg;have hnb18:=NB314_315.out;have hnc18:=NB315_314.out;have hcz19_0:w17.cell? ⟨gb314,0,none⟩=some (.slice A0_0 l0_0.length c0_0):=(Zb BK314.out 0).trans rfl;have hcz19_1:w17.cell? ⟨gb314,1,none⟩=some (.int .i64 a0_1):=(Zb BK314.out 1).trans rfl;have hcz19_2:w17.cell? ⟨gb314,2,none⟩=some (.int .i64 a0_2):=(Zb BK314.out 2).trans rfl;have hcz19_3:w17.cell? ⟨gb314,3,none⟩=some (.int .i64 a0_3):=(Zb BK314.out 3).trans rfl;have hfz19_0:=Zc BK314.out 0;have hfz19_1:=Zc BK314.out 1;have hfz19_2:=Zc BK314.out 2;have hfz19_3:=Zc BK314.out 3;have hcz20_0:w17.cell? ⟨gb315,0,none⟩=some (.slice A1_0 l1_0.length c1_0):=(Zb BK315.out 0).trans rfl;have hcz20_1:w17.cell? ⟨gb315,1,none⟩=some (.int .i64 a1_1):=(Zb BK315.out 1).trans rfl;have hcz20_2:w17.cell? ⟨gb315,2,none⟩=some (.int .i64 a1_2):=(Zb BK315.out 2).trans rfl;have hcz20_3:w17.cell? ⟨gb315,3,none⟩=some (.int .i64 a1_3):=(Zb BK315.out 3).trans rfl;have hfz20_0:=Zc BK315.out 0;have hfz20_1:=Zc BK315.out 1;have hfz20_2:=Zc BK315.out 2;have hfz20_3:=Zc BK315.out 3)|((first|((with_reducible refine gate_callee (f:=79) rfl ?_);refine goesL_ (some 9) rfl rfl Try.func79 z10_20 rfl #[.slice A0_0 l0_0.length c0_0,.slice A1_0 l1_0.length c1_0] rfl z10_1 ?_;(with_reducible refine(laws_eqStmtS.calls k _ _ l0_0 _ _ l1_0 true _ ?side1 ?side2 ?side3 ?side4 A3.out).mono ?_))|(go_at_call 79;(with_reducible refine(laws_eqStmtS.calls k _ _ l0_0 _ _ l1_0 true _ ?side1 ?side2 ?side3 ?side4 A3.out).mono ?_)));(case side1=>exact z10_9);(case side2=>exact HC0_0.out);(case side3=>exact z10_8);(case side4=>exact HC1_0.out);rintro e w21 ⟨rfl,hb⟩;(first|refine⟨_,rfl,?_⟩|skip);replace BK314:=Za (Zg (g:=gb314) (o:= .cells #[.slice A0_0 l0_0.length c0_0,.int .i64 a0_1,.int .i64 a0_2,.int .i64 a0_3] 64 (0,0)) z10_10 hb);replace BK315:=Za (Zg (g:=gb315) (o:= .cells #[.slice A1_0 l1_0.length c1_0,.int .i64 a1_1,.int .i64 a1_2,.int .i64 a1_3] 64 (0,0)) z10_21 hb);replace HB:=Za (Zj z10_17 hb);(try clear hb);(try clear hb2);(try clear hk);(try clear hi);have hcz22_0:w21.cell? ⟨gb314,0,none⟩=some (.slice A0_0 l0_0.length c0_0):=(Zb BK314.out 0).trans rfl;have hcz22_1:w21.cell? ⟨gb314,1,none⟩=some (.int .i64 a0_1):=(Zb BK314.out 1).trans rfl;have hcz22_2:w21.cell? ⟨gb314,2,none⟩=some (.int .i64 a0_2):=(Zb BK314.out 2).trans rfl;have hcz22_3:w21.cell? ⟨gb314,3,none⟩=some (.int .i64 a0_3):=(Zb BK314.out 3).trans rfl;have hfz22_0:=Zc BK314.out 0;have hfz22_1:=Zc BK314.out 1;have hfz22_2:=Zc BK314.out 2;have hfz22_3:=Zc BK314.out 3;have hcz23_0:w21.cell? ⟨gb315,0,none⟩=some (.slice A1_0 l1_0.length c1_0):=(Zb BK315.out 0).trans rfl;have hcz23_1:w21.cell? ⟨gb315,1,none⟩=some (.int .i64 a1_1):=(Zb BK315.out 1).trans rfl;have hcz23_2:w21.cell? ⟨gb315,2,none⟩=some (.int .i64 a1_2):=(Zb BK315.out 2).trans rfl;have hcz23_3:w21.cell? ⟨gb315,3,none⟩=some (.int .i64 a1_3):=(Zb BK315.out 3).trans rfl;have hfz23_0:=Zc BK315.out 0;have hfz23_1:=Zc BK315.out 1;have hfz23_2:=Zc BK315.out 2;have hfz23_3:=Zc BK315.out 3)|((first|((with_reducible refine gate_callee (f:=80) rfl ?_);refine goesL_ (some 15) rfl rfl Try.func80 z10_20 rfl #[.agg #[.int .i64 a0_1,.int .i64 a0_2,.int .i64 a0_3],.agg #[.int .i64 a1_1,.int .i64 a1_2,.int .i64 a1_3]] rfl z10_1 ?_;(with_reducible refine(laws_eqExpr.calls a0_1 a0_2 a0_3 a1_1 a1_2 a1_3 false _ A5.out).mono ?_))|(go_at_call 80;(with_reducible refine(laws_eqExpr.calls a0_1 a0_2 a0_3 a1_1 a1_2 a1_3 false _ A5.out).mono ?_)));rintro e w24 ⟨rfl,hb⟩;(first|refine⟨_,rfl,?_⟩|skip);replace BK314:=Za (Zg (g:=gb314) (o:= .cells #[.slice A0_0 l0_0.length c0_0,.int .i64 a0_1,.int .i64 a0_2,.int .i64 a0_3] 64 (0,0)) z10_10 hb);replace BK315:=Za (Zg (g:=gb315) (o:= .cells #[.slice A1_0 l1_0.length c1_0,.int .i64 a1_1,.int .i64 a1_2,.int .i64 a1_3] 64 (0,0)) z10_21 hb);replace HB:=Za (Zj z10_17 hb);(try clear hb);(try clear hb2);(try clear hk);(try clear hi)))
   go_ret
   exact⟨by first|rfl|(simp[errW_none,errW_some]<;>rfl)|(simp[*,errW_none,errW_some]<;>rfl)|(simp[*,errW_none,errW_some,i64_w];done),by repeat(first|(with_reducible first|exact HB.out|apply Zh|apply Zf|apply Ze|refine Zd ?_ GE314.out|refine Zd ?_ GE315.out)|exact HB.out)⟩
 ·replace c4:=Bool.eq_false_iff.mpr c4
  subst c4
  rw[if_neg (show ¬(false=true) by decide)] at H
  obtain rfl:=Zk H
  go_enter Try.func55,Try.ntmps55
  go_wp2_with (first|((with_reducible refine Zp (N:=2) rfl ?_);refine Zt ?hg (N:=2) ?hd (cs:= #[.slice A0_0 l0_0.length c0_0,.int .i64 a0_1,.int .i64 a0_2,.int .i64 a0_3]) (t:=64) ?hr ?_;(case hd=>rfl);(case hg=>rfl);(case hr=>exact z10_5);intro gb314 hg w25 hbox hb;have BK314:=Za (hbox);have GW314:=Za ((z10_22:w.heap.size≤gb314));have GE314:=Za ((z10_22:w.heap.size≤gb314));replace HB:=Za (Zj z10_0 hb);clear hb hbox hg)|((with_reducible refine Zp (N:=3) rfl ?_);refine Zt ?hg (N:=3) ?hd (cs:= #[.slice A1_0 l1_0.length c1_0,.int .i64 a1_1,.int .i64 a1_2,.int .i64 a1_3]) (t:=64) ?hr ?_;(case hd=>rfl);(case hg=>rfl);(case hr=>exact z10_5);intro gb315 hg w26 hbox hb;have BK315:=Za (hbox);have GW315:=Za ((by rw[hg];exact(Zy z10_12):w.heap.size≤gb315));have GE315:=Za ((by rw[hg];exact(Zy z10_12):w.heap.size≤gb315));replace HB:=Za (Zj z10_12 hb);have NB314_315:=Za ((z10_31:gb314≠gb315));have NB315_314:=Za ((z10_32:gb315≠gb314));replace BK314:=Za (Zg (g:=gb314) (o:= .cells #[.slice A0_0 l0_0.length c0_0,.int .i64 a0_1,.int .i64 a0_2,.int .i64 a0_3] 64 (0,0)) z10_10 hb);clear hb hbox hg;have hnb27:=NB314_315.out;have hnc27:=NB315_314.out;have hcz28_0:w26.cell? ⟨gb314,0,none⟩=some (.slice A0_0 l0_0.length c0_0):=(Zb BK314.out 0).trans rfl;have hcz28_1:w26.cell? ⟨gb314,1,none⟩=some (.int .i64 a0_1):=(Zb BK314.out 1).trans rfl;have hcz28_2:w26.cell? ⟨gb314,2,none⟩=some (.int .i64 a0_2):=(Zb BK314.out 2).trans rfl;have hcz28_3:w26.cell? ⟨gb314,3,none⟩=some (.int .i64 a0_3):=(Zb BK314.out 3).trans rfl;have hfz28_0:=Zc BK314.out 0;have hfz28_1:=Zc BK314.out 1;have hfz28_2:=Zc BK314.out 2;have hfz28_3:=Zc BK314.out 3;have hcz29_0:w26.cell? ⟨gb315,0,none⟩=some (.slice A1_0 l1_0.length c1_0):=(Zb BK315.out 0).trans rfl;have hcz29_1:w26.cell? ⟨gb315,1,none⟩=some (.int .i64 a1_1):=(Zb BK315.out 1).trans rfl;have hcz29_2:w26.cell? ⟨gb315,2,none⟩=some (.int .i64 a1_2):=(Zb BK315.out 2).trans rfl;have hcz29_3:w26.cell? ⟨gb315,3,none⟩=some (.int .i64 a1_3):=(Zb BK315.out 3).trans rfl;have hfz29_0:=Zc BK315.out 0;have hfz29_1:=Zc BK315.out 1;have hfz29_2:=Zc BK315.out 2;have hfz29_3:=Zc BK315.out 3)|((first|((with_reducible refine gate_callee (f:=79) rfl ?_);refine goesL_ (some 9) rfl rfl Try.func79 z10_20 rfl #[.slice A0_0 l0_0.length c0_0,.slice A1_0 l1_0.length c1_0] rfl z10_1 ?_;(with_reducible refine(laws_eqStmtS.calls k _ _ l0_0 _ _ l1_0 false _ ?side1 ?side2 ?side3 ?side4 A3.out).mono ?_))|(go_at_call 79;(with_reducible refine(laws_eqStmtS.calls k _ _ l0_0 _ _ l1_0 false _ ?side1 ?side2 ?side3 ?side4 A3.out).mono ?_)));(case side1=>exact z10_9);(case side2=>exact HC0_0.out);(case side3=>exact z10_8);(case side4=>exact HC1_0.out);rintro e w30 ⟨rfl,hb⟩;(first|refine⟨_,rfl,?_⟩|skip);replace BK314:=Za (Zg (g:=gb314) (o:= .cells #[.slice A0_0 l0_0.length c0_0,.int .i64 a0_1,.int .i64 a0_2,.int .i64 a0_3] 64 (0,0)) z10_10 hb);replace BK315:=Za (Zg (g:=gb315) (o:= .cells #[.slice A1_0 l1_0.length c1_0,.int .i64 a1_1,.int .i64 a1_2,.int .i64 a1_3] 64 (0,0)) z10_21 hb);replace HB:=Za (Zj z10_17 hb);(try clear hb);(try clear hb2);(try clear hk);(try clear hi)))
  go_ret
  exact⟨by first|rfl|(simp[errW_none,errW_some]<;>rfl)|(simp[*,errW_none,errW_some]<;>rfl)|(simp[*,errW_none,errW_some,i64_w];done),by repeat(first|(with_reducible first|exact HB.out|apply Zh|apply Zf|apply Ze|refine Zd ?_ GE314.out|refine Zd ?_ GE315.out)|exact HB.out)⟩
def laws_eqTaskS.l0:Nat→List (S64)→List (S64)→Int→Option (Bool)
 |0,_,_,_=>none
 |k+1,x0,x1,x5=>if x5<(x0.length:Int) then (if 0≤x5 then (if x5<(x1.length:Int) then ((laws_eqTask.f k ((rd_T64 x0 x5).f0) ((rd_T64 x0 x5).f1.f0) ((rd_T64 x0 x5).f1.f1) ((rd_T64 x0 x5).f1.f2) ((rd_T64 x1 x5).f0) ((rd_T64 x1 x5).f1.f0) ((rd_T64 x1 x5).f1.f1) ((rd_T64 x1 x5).f1.f2)).bind fun t320=>(if t320=true then (laws_eqTaskS.l0 k x0 x1 (wrap64 (x5+1))) else (some false))) else (none)) else (none)) else (some true)
def laws_eqTaskS.f (k:Nat) (l0:List (S64)) (l1:List (S64)):Option (Bool):=if (l0.length:Int)=(l1.length:Int) then (laws_eqTaskS.l0 k l0 l1 0) else (some false)
def laws_eqTaskS.T6:Bool×List (List Nat×List Nat):=(true,[([],[]),([],[]),([0,1],[0,1]),([2],[2]),([],[]),([],[]),([4,5],[4,5]),([6],[6]),([3,7],[3,7]),([8],[8])])
def laws_eqTaskS.B6:List Nat:=[0,0,3,7,0,0,48,112,255,511]
theorem laws_eqTaskS.tab6:rtab .any (opsOf Try.f33 6)=laws_eqTaskS.T6:=by kernel_rfl
theorem laws_eqTaskS.bits6:waitsOk laws_eqTaskS.T6.2 laws_eqTaskS.B6=true:=by kernel_rfl
set_option maxHeartbeats 8000000 in
set_option maxRecDepth 100000 in
theorem laws_eqTaskS.calls (k:Nat) (A0:Option Addr) (c0:Nat) (l0:List (S64)) (A1:Option Addr) (c1:Nat) (l1:List (S64)) (r:Bool) (w:World) (hr0:Kd.C k64 w A0 l0.length l0) (hc0:l0.length≤c0) (hr1:Kd.C k64 w A1 l1.length l1) (hc1:l1.length≤c1) (h:laws_eqTaskS.f k l0 l1=some r):
  Calls Try.prog 33 #[.slice A0 l0.length c0,.slice A1 l1.length c1] w fun e w'=>e= .returned (.bool r)∧Below w.heap.size w w':=by
 have hu64:=Try.underlying64
 have HR0:=Za hr0
 have HC0:=Za hc0
 clear hr0 hc0
 have HR1:=Za hr1
 have HC1:=Za hc1
 clear hr1 hc1
 have HB:=Za (Yh w.heap.size w)
 have H:(if (l0.length:Int)=(l1.length:Int) then (laws_eqTaskS.l0 k l0 l1 0) else (some false))=some r:=h
 clear h
 by_cases c3:(l0.length:Int)=(l1.length:Int)
 ·rw[if_pos c3] at H
  have c3b0:((l0.length:Int)==(l1.length:Int))=true:=beq_iff_eq.mpr c3
  have c3b1:((l0.length:Int) != (l1.length:Int))=false:=bne_eq_false_iff_eq.mpr c3
  have c3b2:(l0.length==l1.length)=true:=by first|simpa using c3|(simp at c3 ⊢;omega)
  clear c3
  have H':=Za H
  clear H
  go_enter Try.func33,Try.ntmps33
  go_wp2
  go_loopg [5] k (fun kq v5 w'=>∃(x5_1:Int),v5= .int .i64 x5_1∧Aside0 (laws_eqTaskS.l0 kq l0 l1 x5_1=some r)∧Aside0 (kq≤k)∧Aside0 (Below w.heap.size w w'))
  case atStart=>exact⟨(0),z10_18,H',⟨Nat.le_refl _⟩,⟨by repeat(first|(with_reducible first|exact HB.out|apply Zh|apply Zf|apply Ze)|exact HB.out)⟩⟩
  case round=>
   clear H'
   (try clear c1);(try clear c3);(try clear c3b0);(try clear c3b1);(try clear c3b2)
   obtain⟨x5_1,rfl,HA,HK1,HB⟩:=hrel
   cases gk with
   |zero=>exact absurd HA.out (by simp[laws_eqTaskS.l0])
   |succ k1=>
    have H:=HA.out
    clear HA
    simp only[laws_eqTaskS.l0] at H
    by_cases c4:x5_1<(l0.length:Int)
    ·rw[if_pos c4] at H
     have c4b0:decide (x5_1<(l0.length:Int))=true:=Zx c4
     clear c4
     by_cases c5:0≤x5_1
     ·rw[if_pos c5] at H
      have c5b0:decide (0≤x5_1)=true:=Zx c5
      clear c5
      by_cases c6:x5_1<(l1.length:Int)
      ·rw[if_pos c6] at H
       have c6b0:decide (x5_1<(l1.length:Int))=true:=Zx c6
       clear c6
       replace H:=Zl H
       obtain⟨t320,A70,H⟩:=H
       replace H:(if t320=true then (laws_eqTaskS.l0 k1 l0 l1 (wrap64 (x5_1+1))) else (some false))=some r:=H
       have A7:=Za A70
       clear A70
       by_cases c8:t320=true
       ·subst c8
        rw[if_pos rfl] at H
        have H':=Za H
        clear H
        try go_wp2
        have n0_:=Za (Ze HB.out)
        clear HB
        have HB:=n0_
        clear n0_
        have p318:0≤(x5_1:Int):=Zv z10_16
        have q318:x5_1<(l0.length:Int):=Zv z10_16
        obtain⟨ad318,A318_0,c318_0,e318,hx318_0,hx318_1,hx318_2,hx318_3,hl318_0,hi318_0⟩:=at_T64 HR0.out x5_1 p318 q318
        have hw318_3:=hx318_3
        have hw318_2:=hx318_2
        have hw318_1:=hx318_1
        have hw318_0:=hx318_0
        cases e318
        replace hx318_0:=(HB.out.cell (Zi w _ hx318_0)).trans hx318_0
        replace hx318_1:=(HB.out.cell (Zi w _ hx318_1)).trans hx318_1
        replace hx318_2:=(HB.out.cell (Zi w _ hx318_2)).trans hx318_2
        replace hx318_3:=(HB.out.cell (Zi w _ hx318_3)).trans hx318_3
        have HR318_0:=Za hi318_0
        have HC318_0:=Za hl318_0
        clear hi318_0 hl318_0
        replace p318:=eq_true p318
        replace q318:=eq_true q318
        have p319:0≤(x5_1:Int):=Zv z10_16
        have q319:x5_1<(l1.length:Int):=Zv z10_16
        obtain⟨ad319,A319_0,c319_0,e319,hx319_0,hx319_1,hx319_2,hx319_3,hl319_0,hi319_0⟩:=at_T64 HR1.out x5_1 p319 q319
        have hw319_3:=hx319_3
        have hw319_2:=hx319_2
        have hw319_1:=hx319_1
        have hw319_0:=hx319_0
        cases e319
        replace hx319_0:=(HB.out.cell (Zi w _ hx319_0)).trans hx319_0
        replace hx319_1:=(HB.out.cell (Zi w _ hx319_1)).trans hx319_1
        replace hx319_2:=(HB.out.cell (Zi w _ hx319_2)).trans hx319_2
        replace hx319_3:=(HB.out.cell (Zi w _ hx319_3)).trans hx319_3
        have HR319_0:=Za hi319_0
        have HC319_0:=Za hl319_0
        clear hi319_0 hl319_0
        replace p319:=eq_true p319
        replace q319:=eq_true q319
        refine start_ (n:=10) (S:=fun w'=>w'.cell? (ad318.add ((x5_1).toNat*4))=some (.slice A318_0 ((rd_T64 l0 x5_1).f0).length c318_0)∧w'.cell? ⟨(ad318.add ((x5_1).toNat*4)).block,(ad318.add ((x5_1).toNat*4)).off+1,none⟩=some (.int .i64 ((rd_T64 l0 x5_1).f1.f0))∧w'.cell? ⟨(ad318.add ((x5_1).toNat*4)).block,(ad318.add ((x5_1).toNat*4)).off+2,none⟩=some (.int .i64 ((rd_T64 l0 x5_1).f1.f1))∧w'.cell? ⟨(ad318.add ((x5_1).toNat*4)).block,(ad318.add ((x5_1).toNat*4)).off+3,none⟩=some (.int .i64 ((rd_T64 l0 x5_1).f1.f2))∧w'.cell? (ad319.add ((x5_1).toNat*4))=some (.slice A319_0 ((rd_T64 l1 x5_1).f0).length c319_0)∧w'.cell? ⟨(ad319.add ((x5_1).toNat*4)).block,(ad319.add ((x5_1).toNat*4)).off+1,none⟩=some (.int .i64 ((rd_T64 l1 x5_1).f1.f0))∧w'.cell? ⟨(ad319.add ((x5_1).toNat*4)).block,(ad319.add ((x5_1).toNat*4)).off+2,none⟩=some (.int .i64 ((rd_T64 l1 x5_1).f1.f1))∧w'.cell? ⟨(ad319.add ((x5_1).toNat*4)).block,(ad319.add ((x5_1).toNat*4)).off+3,none⟩=some (.int .i64 ((rd_T64 l1 x5_1).f1.f2))) (ds:=[]) #[false,false,false,false,false,false,false,false,false,false] z10_20 rfl rfl ⟨((HB.out.cell (Zi w _ hw318_0)).trans hw318_0),((HB.out.cell (Zi w _ hw318_1)).trans hw318_1),((HB.out.cell (Zi w _ hw318_2)).trans hw318_2),((HB.out.cell (Zi w _ hw318_3)).trans hw318_3),((HB.out.cell (Zi w _ hw319_0)).trans hw319_0),((HB.out.cell (Zi w _ hw319_1)).trans hw319_1),((HB.out.cell (Zi w _ hw319_2)).trans hw319_2),((HB.out.cell (Zi w _ hw319_3)).trans hw319_3)⟩ (fun hHeld=> ?_);refine with_tabW laws_eqTaskS.tab6 laws_eqTaskS.bits6 (fun HT_ HW_=> ?_)
        generalize wr.drew=w9 at HB HR318_0 HR319_0 hx318_0 hx318_1 hx318_2 hx318_3 hx319_0 hx319_1 hx319_2 hx319_3 hHeld ⊢
        refine pure_ (i:=0) (N:=some 17) (v:= ?_) (a':= ?_) #[true,false,false,false,false,false,false,false,false,false] rfl rfl (any_of HT_.out z10_20) (fun _ _ _ h=>h) (Or.inl ⟨by rfl,?_⟩) ?_ ?_
        rotate_left
        ·intro w'
         go_simp
         with_reducible rfl
        rotate_left
        ·simp only[Act.put,Zq,Zr,Zs,i64_w,i32_w]
         rfl
        refine pure_ (i:=1) (N:=some 18) (v:= ?_) (a':= ?_) #[true,true,false,false,false,false,false,false,false,false] rfl rfl (any_of HT_.out z10_20) (fun _ _ _ h=>h) (Or.inl ⟨by rfl,?_⟩) ?_ ?_
        rotate_left
        ·intro w'
         go_simp
         with_reducible rfl
        rotate_left
        ·simp only[Act.put,Zq,Zr,Zs,i64_w,i32_w]
         rfl
        refine pure_ (i:=2) (N:=some 19) (v:= ?_) (a':= ?_) #[true,true,true,false,false,false,false,false,false,false] rfl rfl (any_of HT_.out z10_20) (fun _ _ _ h=>h) (Or.inl ⟨by rfl,?_⟩) ?_ ?_
        rotate_left
        ·intro w'
         go_simp
         with_reducible rfl
        rotate_left
        ·simp only[Act.put,Zq,Zr,Zs,i64_w,i32_w]
         rfl
        refine pure_ (i:=4) (N:=some 21) (v:= ?_) (a':= ?_) #[true,true,true,false,true,false,false,false,false,false] rfl rfl (any_of HT_.out z10_20) (fun _ _ _ h=>h) (Or.inl ⟨by rfl,?_⟩) ?_ ?_
        rotate_left
        ·intro w'
         go_simp
         with_reducible rfl
        rotate_left
        ·simp only[Act.put,Zq,Zr,Zs,i64_w,i32_w]
         rfl
        refine pure_ (i:=5) (N:=some 22) (v:= ?_) (a':= ?_) #[true,true,true,false,true,true,false,false,false,false] rfl rfl (any_of HT_.out z10_20) (fun _ _ _ h=>h) (Or.inl ⟨by rfl,?_⟩) ?_ ?_
        rotate_left
        ·intro w'
         go_simp
         with_reducible rfl
        rotate_left
        ·simp only[Act.put,Zq,Zr,Zs,i64_w,i32_w]
         rfl
        refine pure_ (i:=6) (N:=some 23) (v:= ?_) (a':= ?_) #[true,true,true,false,true,true,true,false,false,false] rfl rfl (any_of HT_.out z10_20) (fun _ _ _ h=>h) (Or.inl ⟨by rfl,?_⟩) ?_ ?_
        rotate_left
        ·intro w'
         go_simp
         with_reducible rfl
        rotate_left
        ·simp only[Act.put,Zq,Zr,Zs,i64_w,i32_w]
         rfl
        refine take_ (i:=3) (N:=some 20) (v:= ?_) (a':= ?_) #[true,true,true,true,true,true,true,false,false,false] rfl rfl (take_ofW HT_.out HW_.out z10_20) (fun _ _ _ h=>h) (Or.inl ⟨by rfl,?_⟩) hHeld ?_ ?_
        rotate_left
        ·rintro w' ⟨s0,s1,s2,s3,s4,s5,s6,s7⟩
         go_simp
         with_reducible rfl
        rotate_left
        ·simp only[Act.put,Zq,Zr,Zs,i64_w,i32_w]
         rfl
        refine take_ (i:=7) (N:=some 24) (v:= ?_) (a':= ?_) #[true,true,true,true,true,true,true,true,false,false] rfl rfl (take_ofW HT_.out HW_.out z10_20) (fun _ _ _ h=>h) (Or.inl ⟨by rfl,?_⟩) hHeld ?_ ?_
        rotate_left
        ·rintro w' ⟨s0,s1,s2,s3,s4,s5,s6,s7⟩
         go_simp
         with_reducible rfl
        rotate_left
        ·simp only[Act.put,Zq,Zr,Zs,i64_w,i32_w]
         rfl
        refine one_ (i:=8) (N:=some 25) #[true,true,true,true,true,true,true,true,true,false] rfl rfl (one_of HT_.out z10_20) (by decide) (fun K hK=> ?_)
        refine goes_ Try.func55 z10_20 rfl #[.agg #[.slice A318_0 ((rd_T64 l0 x5_1).f0).length c318_0,.int .i64 ((rd_T64 l0 x5_1).f1.f0),.int .i64 ((rd_T64 l0 x5_1).f1.f1),.int .i64 ((rd_T64 l0 x5_1).f1.f2)],.agg #[.slice A319_0 ((rd_T64 l1 x5_1).f0).length c319_0,.int .i64 ((rd_T64 l1 x5_1).f1.f0),.int .i64 ((rd_T64 l1 x5_1).f1.f1),.int .i64 ((rd_T64 l1 x5_1).f1.f2)]] (by rfl) rfl rfl z10_1 ?_
        with_reducible refine(laws_eqTask.calls k1 _ _ ((rd_T64 l0 x5_1).f0) ((rd_T64 l0 x5_1).f1.f0) ((rd_T64 l0 x5_1).f1.f1) ((rd_T64 l0 x5_1).f1.f2) _ _ ((rd_T64 l1 x5_1).f0) ((rd_T64 l1 x5_1).f1.f0) ((rd_T64 l1 x5_1).f1.f1) ((rd_T64 l1 x5_1).f1.f2) true _ ?side1 ?side2 ?side3 ?side4 A7.out).mono ?_
        (case side1=>repeat(first|exact(Yg HR318_0.out HB.out)|(with_reducible refine Yc ?_ _)|(with_reducible refine Yd ?_ _)|(with_reducible refine Ye ?_)))
        (case side2=>exact HC318_0.out)
        (case side3=>repeat(first|exact(Yg HR319_0.out HB.out)|(with_reducible refine Yc ?_ _)|(with_reducible refine Yd ?_ _)|(with_reducible refine Ye ?_)))
        (case side4=>exact HC319_0.out)
        rintro e w10 ⟨rfl,hb⟩
        refine⟨_,rfl,?_⟩
        have n0_:=Za (Zj z10_0 hb)
        clear HB
        have HB:=n0_
        clear n0_
        (try clear hb)
        (try clear hb2)
        (try clear hk)
        (try clear hi)
        refine hK.out _ _ ⟨((HB.out.cell (Zi w _ hw318_0)).trans hw318_0),((HB.out.cell (Zi w _ hw318_1)).trans hw318_1),((HB.out.cell (Zi w _ hw318_2)).trans hw318_2),((HB.out.cell (Zi w _ hw318_3)).trans hw318_3),((HB.out.cell (Zi w _ hw319_0)).trans hw319_0),((HB.out.cell (Zi w _ hw319_1)).trans hw319_1),((HB.out.cell (Zi w _ hw319_2)).trans hw319_2),((HB.out.cell (Zi w _ hw319_3)).trans hw319_3)⟩ (fun hHeld=> ?_)
        clear hK K
        refine norm_ (a':= ?_) ?_ ?_
        rotate_left
        ·show Act.put _ (some 25) _=_
         simp only[Act.put,Zq,Zr,Zs,i64_w,i32_w]
         rfl
        refine pure_ (i:=9) (N:=some 26) (v:= ?_) (a':= ?_) #[true,true,true,true,true,true,true,true,true,true] rfl rfl (any_of HT_.out z10_20) (fun _ _ _ h=>h) (Or.inl ⟨by rfl,?_⟩) ?_ ?_
        rotate_left
        ·intro w'
         go_simp
         with_reducible rfl
        rotate_left
        ·simp only[Act.put,Zq,Zr,Zs,i64_w,i32_w]
         rfl
        refine done_ (done_of HT_.out z10_20) ?_
        try go_wp2
        go_roundg k1
        case measure=>have:=HK1.out;omega
        case rel=>exact⟨(wrap64 (x5_1+1)),z10_18,H',⟨by have:=HK1.out;omega⟩,⟨by repeat(first|(with_reducible first|exact HB.out|apply Zh|apply Zf|apply Ze)|exact HB.out)⟩⟩
       ·replace c8:=Bool.eq_false_iff.mpr c8
        subst c8
        rw[if_neg (show ¬(false=true) by decide)] at H
        obtain rfl:=Zk H
        try go_wp2
        have n0_:=Za (Ze HB.out)
        clear HB
        have HB:=n0_
        clear n0_
        have p318:0≤(x5_1:Int):=Zv z10_16
        have q318:x5_1<(l0.length:Int):=Zv z10_16
        obtain⟨ad318,A318_0,c318_0,e318,hx318_0,hx318_1,hx318_2,hx318_3,hl318_0,hi318_0⟩:=at_T64 HR0.out x5_1 p318 q318
        have hw318_3:=hx318_3
        have hw318_2:=hx318_2
        have hw318_1:=hx318_1
        have hw318_0:=hx318_0
        cases e318
        replace hx318_0:=(HB.out.cell (Zi w _ hx318_0)).trans hx318_0
        replace hx318_1:=(HB.out.cell (Zi w _ hx318_1)).trans hx318_1
        replace hx318_2:=(HB.out.cell (Zi w _ hx318_2)).trans hx318_2
        replace hx318_3:=(HB.out.cell (Zi w _ hx318_3)).trans hx318_3
        have HR318_0:=Za hi318_0
        have HC318_0:=Za hl318_0
        clear hi318_0 hl318_0
        replace p318:=eq_true p318
        replace q318:=eq_true q318
        have p319:0≤(x5_1:Int):=Zv z10_16
        have q319:x5_1<(l1.length:Int):=Zv z10_16
        obtain⟨ad319,A319_0,c319_0,e319,hx319_0,hx319_1,hx319_2,hx319_3,hl319_0,hi319_0⟩:=at_T64 HR1.out x5_1 p319 q319
        have hw319_3:=hx319_3
        have hw319_2:=hx319_2
        have hw319_1:=hx319_1
        have hw319_0:=hx319_0
        cases e319
        replace hx319_0:=(HB.out.cell (Zi w _ hx319_0)).trans hx319_0
        replace hx319_1:=(HB.out.cell (Zi w _ hx319_1)).trans hx319_1
        replace hx319_2:=(HB.out.cell (Zi w _ hx319_2)).trans hx319_2
        replace hx319_3:=(HB.out.cell (Zi w _ hx319_3)).trans hx319_3
        have HR319_0:=Za hi319_0
        have HC319_0:=Za hl319_0
        clear hi319_0 hl319_0
        replace p319:=eq_true p319
        replace q319:=eq_true q319
        refine start_ (n:=10) (S:=fun w'=>w'.cell? (ad318.add ((x5_1).toNat*4))=some (.slice A318_0 ((rd_T64 l0 x5_1).f0).length c318_0)∧w'.cell? ⟨(ad318.add ((x5_1).toNat*4)).block,(ad318.add ((x5_1).toNat*4)).off+1,none⟩=some (.int .i64 ((rd_T64 l0 x5_1).f1.f0))∧w'.cell? ⟨(ad318.add ((x5_1).toNat*4)).block,(ad318.add ((x5_1).toNat*4)).off+2,none⟩=some (.int .i64 ((rd_T64 l0 x5_1).f1.f1))∧w'.cell? ⟨(ad318.add ((x5_1).toNat*4)).block,(ad318.add ((x5_1).toNat*4)).off+3,none⟩=some (.int .i64 ((rd_T64 l0 x5_1).f1.f2))∧w'.cell? (ad319.add ((x5_1).toNat*4))=some (.slice A319_0 ((rd_T64 l1 x5_1).f0).length c319_0)∧w'.cell? ⟨(ad319.add ((x5_1).toNat*4)).block,(ad319.add ((x5_1).toNat*4)).off+1,none⟩=some (.int .i64 ((rd_T64 l1 x5_1).f1.f0))∧w'.cell? ⟨(ad319.add ((x5_1).toNat*4)).block,(ad319.add ((x5_1).toNat*4)).off+2,none⟩=some (.int .i64 ((rd_T64 l1 x5_1).f1.f1))∧w'.cell? ⟨(ad319.add ((x5_1).toNat*4)).block,(ad319.add ((x5_1).toNat*4)).off+3,none⟩=some (.int .i64 ((rd_T64 l1 x5_1).f1.f2))) (ds:=[]) #[false,false,false,false,false,false,false,false,false,false] z10_20 rfl rfl ⟨((HB.out.cell (Zi w _ hw318_0)).trans hw318_0),((HB.out.cell (Zi w _ hw318_1)).trans hw318_1),((HB.out.cell (Zi w _ hw318_2)).trans hw318_2),((HB.out.cell (Zi w _ hw318_3)).trans hw318_3),((HB.out.cell (Zi w _ hw319_0)).trans hw319_0),((HB.out.cell (Zi w _ hw319_1)).trans hw319_1),((HB.out.cell (Zi w _ hw319_2)).trans hw319_2),((HB.out.cell (Zi w _ hw319_3)).trans hw319_3)⟩ (fun hHeld=> ?_);refine with_tabW laws_eqTaskS.tab6 laws_eqTaskS.bits6 (fun HT_ HW_=> ?_)
        generalize wr.drew=w11 at HB HR318_0 HR319_0 hx318_0 hx318_1 hx318_2 hx318_3 hx319_0 hx319_1 hx319_2 hx319_3 hHeld ⊢
        refine pure_ (i:=0) (N:=some 17) (v:= ?_) (a':= ?_) #[true,false,false,false,false,false,false,false,false,false] rfl rfl (any_of HT_.out z10_20) (fun _ _ _ h=>h) (Or.inl ⟨by rfl,?_⟩) ?_ ?_
        rotate_left
        ·intro w'
         go_simp
         with_reducible rfl
        rotate_left
        ·simp only[Act.put,Zq,Zr,Zs,i64_w,i32_w]
         rfl
        refine pure_ (i:=1) (N:=some 18) (v:= ?_) (a':= ?_) #[true,true,false,false,false,false,false,false,false,false] rfl rfl (any_of HT_.out z10_20) (fun _ _ _ h=>h) (Or.inl ⟨by rfl,?_⟩) ?_ ?_
        rotate_left
        ·intro w'
         go_simp
         with_reducible rfl
        rotate_left
        ·simp only[Act.put,Zq,Zr,Zs,i64_w,i32_w]
         rfl
        refine pure_ (i:=2) (N:=some 19) (v:= ?_) (a':= ?_) #[true,true,true,false,false,false,false,false,false,false] rfl rfl (any_of HT_.out z10_20) (fun _ _ _ h=>h) (Or.inl ⟨by rfl,?_⟩) ?_ ?_
        rotate_left
        ·intro w'
         go_simp
         with_reducible rfl
        rotate_left
        ·simp only[Act.put,Zq,Zr,Zs,i64_w,i32_w]
         rfl
        refine pure_ (i:=4) (N:=some 21) (v:= ?_) (a':= ?_) #[true,true,true,false,true,false,false,false,false,false] rfl rfl (any_of HT_.out z10_20) (fun _ _ _ h=>h) (Or.inl ⟨by rfl,?_⟩) ?_ ?_
        rotate_left
        ·intro w'
         go_simp
         with_reducible rfl
        rotate_left
        ·simp only[Act.put,Zq,Zr,Zs,i64_w,i32_w]
         rfl
        refine pure_ (i:=5) (N:=some 22) (v:= ?_) (a':= ?_) #[true,true,true,false,true,true,false,false,false,false] rfl rfl (any_of HT_.out z10_20) (fun _ _ _ h=>h) (Or.inl ⟨by rfl,?_⟩) ?_ ?_
        rotate_left
        ·intro w'
         go_simp
         with_reducible rfl
        rotate_left
        ·simp only[Act.put,Zq,Zr,Zs,i64_w,i32_w]
         rfl
        refine pure_ (i:=6) (N:=some 23) (v:= ?_) (a':= ?_) #[true,true,true,false,true,true,true,false,false,false] rfl rfl (any_of HT_.out z10_20) (fun _ _ _ h=>h) (Or.inl ⟨by rfl,?_⟩) ?_ ?_
        rotate_left
        ·intro w'
         go_simp
         with_reducible rfl
        rotate_left
        ·simp only[Act.put,Zq,Zr,Zs,i64_w,i32_w]
         rfl
        refine take_ (i:=3) (N:=some 20) (v:= ?_) (a':= ?_) #[true,true,true,true,true,true,true,false,false,false] rfl rfl (take_ofW HT_.out HW_.out z10_20) (fun _ _ _ h=>h) (Or.inl ⟨by rfl,?_⟩) hHeld ?_ ?_
        rotate_left
        ·rintro w' ⟨s0,s1,s2,s3,s4,s5,s6,s7⟩
         go_simp
         with_reducible rfl
        rotate_left
        ·simp only[Act.put,Zq,Zr,Zs,i64_w,i32_w]
         rfl
        refine take_ (i:=7) (N:=some 24) (v:= ?_) (a':= ?_) #[true,true,true,true,true,true,true,true,false,false] rfl rfl (take_ofW HT_.out HW_.out z10_20) (fun _ _ _ h=>h) (Or.inl ⟨by rfl,?_⟩) hHeld ?_ ?_
        rotate_left
        ·rintro w' ⟨s0,s1,s2,s3,s4,s5,s6,s7⟩
         go_simp
         with_reducible rfl
        rotate_left
        ·simp only[Act.put,Zq,Zr,Zs,i64_w,i32_w]
         rfl
        refine one_ (i:=8) (N:=some 25) #[true,true,true,true,true,true,true,true,true,false] rfl rfl (one_of HT_.out z10_20) (by decide) (fun K hK=> ?_)
        refine goes_ Try.func55 z10_20 rfl #[.agg #[.slice A318_0 ((rd_T64 l0 x5_1).f0).length c318_0,.int .i64 ((rd_T64 l0 x5_1).f1.f0),.int .i64 ((rd_T64 l0 x5_1).f1.f1),.int .i64 ((rd_T64 l0 x5_1).f1.f2)],.agg #[.slice A319_0 ((rd_T64 l1 x5_1).f0).length c319_0,.int .i64 ((rd_T64 l1 x5_1).f1.f0),.int .i64 ((rd_T64 l1 x5_1).f1.f1),.int .i64 ((rd_T64 l1 x5_1).f1.f2)]] (by rfl) rfl rfl z10_1 ?_
        with_reducible refine(laws_eqTask.calls k1 _ _ ((rd_T64 l0 x5_1).f0) ((rd_T64 l0 x5_1).f1.f0) ((rd_T64 l0 x5_1).f1.f1) ((rd_T64 l0 x5_1).f1.f2) _ _ ((rd_T64 l1 x5_1).f0) ((rd_T64 l1 x5_1).f1.f0) ((rd_T64 l1 x5_1).f1.f1) ((rd_T64 l1 x5_1).f1.f2) false _ ?side1 ?side2 ?side3 ?side4 A7.out).mono ?_
        (case side1=>repeat(first|exact(Yg HR318_0.out HB.out)|(with_reducible refine Yc ?_ _)|(with_reducible refine Yd ?_ _)|(with_reducible refine Ye ?_)))
        (case side2=>exact HC318_0.out)
        (case side3=>repeat(first|exact(Yg HR319_0.out HB.out)|(with_reducible refine Yc ?_ _)|(with_reducible refine Yd ?_ _)|(with_reducible refine Ye ?_)))
        (case side4=>exact HC319_0.out)
        rintro e w12 ⟨rfl,hb⟩
        refine⟨_,rfl,?_⟩
        have n0_:=Za (Zj z10_0 hb)
        clear HB
        have HB:=n0_
        clear n0_
        (try clear hb)
        (try clear hb2)
        (try clear hk)
        (try clear hi)
        refine hK.out _ _ ⟨((HB.out.cell (Zi w _ hw318_0)).trans hw318_0),((HB.out.cell (Zi w _ hw318_1)).trans hw318_1),((HB.out.cell (Zi w _ hw318_2)).trans hw318_2),((HB.out.cell (Zi w _ hw318_3)).trans hw318_3),((HB.out.cell (Zi w _ hw319_0)).trans hw319_0),((HB.out.cell (Zi w _ hw319_1)).trans hw319_1),((HB.out.cell (Zi w _ hw319_2)).trans hw319_2),((HB.out.cell (Zi w _ hw319_3)).trans hw319_3)⟩ (fun hHeld=> ?_)
        clear hK K
        refine norm_ (a':= ?_) ?_ ?_
        rotate_left
        ·show Act.put _ (some 25) _=_
         simp only[Act.put,Zq,Zr,Zs,i64_w,i32_w]
         rfl
        refine pure_ (i:=9) (N:=some 26) (v:= ?_) (a':= ?_) #[true,true,true,true,true,true,true,true,true,true] rfl rfl (any_of HT_.out z10_20) (fun _ _ _ h=>h) (Or.inl ⟨by rfl,?_⟩) ?_ ?_
        rotate_left
        ·intro w'
         go_simp
         with_reducible rfl
        rotate_left
        ·simp only[Act.put,Zq,Zr,Zs,i64_w,i32_w]
         rfl
        refine done_ (done_of HT_.out z10_20) ?_
        try go_wp2
        go_ret
        exact⟨by first|rfl|(simp[errW_none,errW_some]<;>rfl)|(simp[*,errW_none,errW_some]<;>rfl)|(simp[*,errW_none,errW_some,i64_w];done),by repeat(first|(with_reducible first|exact HB.out|apply Zh|apply Zf|apply Ze)|exact HB.out)⟩
      ·rw[if_neg c6] at H
       exact absurd H (by simp)
     ·rw[if_neg c5] at H
      exact absurd H (by simp)
    ·rw[if_neg c4] at H
     have c4b0:decide (x5_1<(l0.length:Int))=false:=Yi c4
     clear c4
     obtain rfl:=Zk H
     go_wp2
     go_ret
     exact⟨by first|rfl|(simp[errW_none,errW_some]<;>rfl)|(simp[*,errW_none,errW_some]<;>rfl)|(simp[*,errW_none,errW_some,i64_w];done),by repeat(first|(with_reducible first|exact HB.out|apply Zh|apply Zf|apply Ze)|exact HB.out)⟩
 ·rw[if_neg c3] at H
  have c3b0:((l0.length:Int)==(l1.length:Int))=false:=beq_eq_false_iff_ne.mpr c3
  have c3b1:((l0.length:Int) != (l1.length:Int))=true:=bne_iff_ne.mpr c3
  have c3b2:(l0.length==l1.length)=false:=by first|simpa using c3|(simp at c3 ⊢;omega)
  obtain rfl:=Zk H
  go_enter Try.func33,Try.ntmps33
  go_wp2
  go_ret
  exact⟨by first|rfl|(simp[errW_none,errW_some]<;>rfl)|(simp[*,errW_none,errW_some]<;>rfl)|(simp[*,errW_none,errW_some,i64_w];done),by repeat(first|(with_reducible first|exact HB.out|apply Zh|apply Zf|apply Ze)|exact HB.out)⟩
def laws_eqProgram.f (k:Nat) (l0_0:List (S64)) (l1_0:List (S64)):Option (Bool):=(laws_eqTaskS.f k l0_0 l1_0).bind fun t323=>(if t323=true then (some true) else (some false))
set_option maxHeartbeats 8000000 in
set_option maxRecDepth 100000 in
theorem laws_eqProgram.calls (k:Nat) (A0_0:Option Addr) (c0_0:Nat) (l0_0:List (S64)) (A1_0:Option Addr) (c1_0:Nat) (l1_0:List (S64)) (r:Bool) (w:World) (hr0_0:Kd.C k64 w A0_0 l0_0.length l0_0) (hc0_0:l0_0.length≤c0_0) (hr1_0:Kd.C k64 w A1_0 l1_0.length l1_0) (hc1_0:l1_0.length≤c1_0) (h:laws_eqProgram.f k l0_0 l1_0=some r):
  Calls Try.prog 11 #[.agg #[.slice A0_0 l0_0.length c0_0],.agg #[.slice A1_0 l1_0.length c1_0]] w fun e w'=>e= .returned (.bool r)∧Below w.heap.size w w':=by
 have hu33:=Try.underlying33
 have HR0_0:=Za hr0_0
 have HC0_0:=Za hc0_0
 clear hr0_0 hc0_0
 have HR1_0:=Za hr1_0
 have HC1_0:=Za hc1_0
 clear hr1_0 hc1_0
 have HB:=Za (Yh w.heap.size w)
 have H:((laws_eqTaskS.f k l0_0 l1_0).bind fun t323=>(if t323=true then (some true) else (some false)))=some r:=h
 clear h
 replace H:=Zl H
 obtain⟨t323,A30,H⟩:=H
 replace H:(if t323=true then (some true) else (some false))=some r:=H
 have A3:=Za A30
 clear A30
 by_cases c4:t323=true
 ·subst c4
  rw[if_pos rfl] at H
  obtain rfl:=Zk H
  go_enter Try.func11,Try.ntmps11
  go_wp2_with (first|((with_reducible refine Zp (N:=2) rfl ?_);refine Zt ?hg (N:=2) ?hd (cs:= #[.slice A0_0 l0_0.length c0_0]) (t:=33) ?hr ?_;(case hd=>rfl);(case hg=>rfl);(case hr=>exact z10_5);intro gb321 hg w5 hbox hb;have BK321:=Za (hbox);have GW321:=Za ((z10_22:w.heap.size≤gb321));have GE321:=Za ((z10_22:w.heap.size≤gb321));replace HB:=Za (Zj z10_0 hb);clear hb hbox hg)|((with_reducible refine Zp (N:=3) rfl ?_);refine Zt ?hg (N:=3) ?hd (cs:= #[.slice A1_0 l1_0.length c1_0]) (t:=33) ?hr ?_;(case hd=>rfl);(case hg=>rfl);(case hr=>exact z10_5);intro gb322 hg w6 hbox hb;have BK322:=Za (hbox);have GW322:=Za ((by rw[hg];exact(Zy z10_14):w.heap.size≤gb322));have GE322:=Za ((by rw[hg];exact(Zy z10_14):w.heap.size≤gb322));replace HB:=Za (Zj z10_14 hb);have NB321_322:=Za ((by rw[hg];exact Nat.ne_of_lt (blk_lt (g:=gb321) (o:= .cells #[.slice A0_0 l0_0.length c0_0] 33 (0,0)) z10_15):gb321≠gb322));have NB322_321:=Za ((by rw[hg];exact Nat.ne_of_gt (blk_lt (g:=gb321) (o:= .cells #[.slice A0_0 l0_0.length c0_0] 33 (0,0)) z10_15):gb322≠gb321));replace BK321:=Za (Zg (g:=gb321) (o:= .cells #[.slice A0_0 l0_0.length c0_0] 33 (0,0)) z10_15 hb);clear hb hbox hg;have hnb7:=NB321_322.out;have hnc7:=NB322_321.out;have hcz8_0:w6.cell? ⟨gb321,0,none⟩=some (.slice A0_0 l0_0.length c0_0):=(Zb BK321.out 0).trans rfl;have hfz8_0:=Zc BK321.out 0;have hcz9_0:w6.cell? ⟨gb322,0,none⟩=some (.slice A1_0 l1_0.length c1_0):=(Zb BK322.out 0).trans rfl;have hfz9_0:=Zc BK322.out 0)|((first|((with_reducible refine gate_callee (f:=33) rfl ?_);refine goesL_ (some 9) rfl rfl Try.func33 z10_20 rfl #[.slice A0_0 l0_0.length c0_0,.slice A1_0 l1_0.length c1_0] rfl z10_1 ?_;(with_reducible refine(laws_eqTaskS.calls k _ _ l0_0 _ _ l1_0 true _ ?side1 ?side2 ?side3 ?side4 A3.out).mono ?_))|(go_at_call 33;(with_reducible refine(laws_eqTaskS.calls k _ _ l0_0 _ _ l1_0 true _ ?side1 ?side2 ?side3 ?side4 A3.out).mono ?_)));(case side1=>exact z10_9);(case side2=>exact HC0_0.out);(case side3=>exact z10_8);(case side4=>exact HC1_0.out);rintro e w10 ⟨rfl,hb⟩;(first|refine⟨_,rfl,?_⟩|skip);replace BK321:=Za (Zg (g:=gb321) (o:= .cells #[.slice A0_0 l0_0.length c0_0] 33 (0,0)) z10_15 hb);replace BK322:=Za (Zg (g:=gb322) (o:= .cells #[.slice A1_0 l1_0.length c1_0] 33 (0,0)) (by(with_reducible repeat(first|refine blk_drewN ?_ _|refine blk_drew ?_|refine blk_alloc ?_ _));exact BK322.out) hb);replace HB:=Za (Zj (by repeat(first|(with_reducible first|exact HB.out|apply Zh|apply Zf|apply Ze|refine Zd ?_ GE321.out|refine Zd ?_ GE322.out)|exact HB.out)) hb);(try clear hb);(try clear hb2);(try clear hk);(try clear hi)))
  go_ret
  exact⟨by first|rfl|(simp[errW_none,errW_some]<;>rfl)|(simp[*,errW_none,errW_some]<;>rfl)|(simp[*,errW_none,errW_some,i64_w];done),by repeat(first|(with_reducible first|exact HB.out|apply Zh|apply Zf|apply Ze|refine Zd ?_ GE321.out|refine Zd ?_ GE322.out)|exact HB.out)⟩
 ·replace c4:=Bool.eq_false_iff.mpr c4
  subst c4
  rw[if_neg (show ¬(false=true) by decide)] at H
  obtain rfl:=Zk H
  go_enter Try.func11,Try.ntmps11
  go_wp2_with (first|((with_reducible refine Zp (N:=2) rfl ?_);refine Zt ?hg (N:=2) ?hd (cs:= #[.slice A0_0 l0_0.length c0_0]) (t:=33) ?hr ?_;(case hd=>rfl);(case hg=>rfl);(case hr=>exact z10_5);intro gb321 hg w11 hbox hb;have BK321:=Za (hbox);have GW321:=Za ((z10_22:w.heap.size≤gb321));have GE321:=Za ((z10_22:w.heap.size≤gb321));replace HB:=Za (Zj z10_0 hb);clear hb hbox hg)|((with_reducible refine Zp (N:=3) rfl ?_);refine Zt ?hg (N:=3) ?hd (cs:= #[.slice A1_0 l1_0.length c1_0]) (t:=33) ?hr ?_;(case hd=>rfl);(case hg=>rfl);(case hr=>exact z10_5);intro gb322 hg w12 hbox hb;have BK322:=Za (hbox);have GW322:=Za ((by rw[hg];exact(Zy z10_14):w.heap.size≤gb322));have GE322:=Za ((by rw[hg];exact(Zy z10_14):w.heap.size≤gb322));replace HB:=Za (Zj z10_14 hb);have NB321_322:=Za ((by rw[hg];exact Nat.ne_of_lt (blk_lt (g:=gb321) (o:= .cells #[.slice A0_0 l0_0.length c0_0] 33 (0,0)) z10_15):gb321≠gb322));have NB322_321:=Za ((by rw[hg];exact Nat.ne_of_gt (blk_lt (g:=gb321) (o:= .cells #[.slice A0_0 l0_0.length c0_0] 33 (0,0)) z10_15):gb322≠gb321));replace BK321:=Za (Zg (g:=gb321) (o:= .cells #[.slice A0_0 l0_0.length c0_0] 33 (0,0)) z10_15 hb);clear hb hbox hg;have hnb13:=NB321_322.out;have hnc13:=NB322_321.out;have hcz14_0:w12.cell? ⟨gb321,0,none⟩=some (.slice A0_0 l0_0.length c0_0):=(Zb BK321.out 0).trans rfl;have hfz14_0:=Zc BK321.out 0;have hcz15_0:w12.cell? ⟨gb322,0,none⟩=some (.slice A1_0 l1_0.length c1_0):=(Zb BK322.out 0).trans rfl;have hfz15_0:=Zc BK322.out 0)|((first|((with_reducible refine gate_callee (f:=33) rfl ?_);refine goesL_ (some 9) rfl rfl Try.func33 z10_20 rfl #[.slice A0_0 l0_0.length c0_0,.slice A1_0 l1_0.length c1_0] rfl z10_1 ?_;(with_reducible refine(laws_eqTaskS.calls k _ _ l0_0 _ _ l1_0 false _ ?side1 ?side2 ?side3 ?side4 A3.out).mono ?_))|(go_at_call 33;(with_reducible refine(laws_eqTaskS.calls k _ _ l0_0 _ _ l1_0 false _ ?side1 ?side2 ?side3 ?side4 A3.out).mono ?_)));(case side1=>exact z10_9);(case side2=>exact HC0_0.out);(case side3=>exact z10_8);(case side4=>exact HC1_0.out);rintro e w16 ⟨rfl,hb⟩;(first|refine⟨_,rfl,?_⟩|skip);replace BK321:=Za (Zg (g:=gb321) (o:= .cells #[.slice A0_0 l0_0.length c0_0] 33 (0,0)) z10_15 hb);replace BK322:=Za (Zg (g:=gb322) (o:= .cells #[.slice A1_0 l1_0.length c1_0] 33 (0,0)) (by(with_reducible repeat(first|refine blk_drewN ?_ _|refine blk_drew ?_|refine blk_alloc ?_ _));exact BK322.out) hb);replace HB:=Za (Zj (by repeat(first|(with_reducible first|exact HB.out|apply Zh|apply Zf|apply Ze|refine Zd ?_ GE321.out|refine Zd ?_ GE322.out)|exact HB.out)) hb);(try clear hb);(try clear hb2);(try clear hk);(try clear hi)))
  go_ret
  exact⟨by first|rfl|(simp[errW_none,errW_some]<;>rfl)|(simp[*,errW_none,errW_some]<;>rfl)|(simp[*,errW_none,errW_some,i64_w];done),by repeat(first|(with_reducible first|exact HB.out|apply Zh|apply Zf|apply Ze|refine Zd ?_ GE321.out|refine Zd ?_ GE322.out)|exact HB.out)⟩
def laws_markStmtS.f (l:List S80) (k:Int):Option Int:=some (Sep.up (6*l.length) k)
set_option maxHeartbeats 8000000 in
set_option maxRecDepth 100000 in
theorem laws_markStmtS.calls (v:Value) (l:List S80) (a1 r:Int) (b:Nat) (w:World) (hs:Sep.RS 80 6 b w v l.length) (h:laws_markStmtS.f l a1=some r):
  Calls Try.prog 56 #[v,.int .i64 a1] w fun e w'=>e= .returned (.int .i64 r)∧Sep.MK [80] b w w':=by
 obtain⟨A0,c0,rfl,hc,hmax,hA⟩:=hs
 have HC:=Za hc
 have HA:=Za hA
 have HM:=Za hmax
 have HR:=Za (Zk h)
 clear hc hA h hmax
 go_enter Try.func56,Try.ntmps56
 go_wp2
 go_loopg [1,5] (l.length+1) (fun kq v1 v5 w'=>∃(x1:Int) (x5:Int),v1= .int .i64 x1∧v5= .int .i64 x5∧Aside0 (x1=Sep.up (6*x5.toNat) a1∧0≤x5∧x5≤(l.length:Int)∧kq+x5.toNat=l.length+1)∧Aside0 (Sep.MK [80] b w w'))
 case atStart=>exact⟨a1,0,z10_18,z10_18,⟨rfl,by omega,by omega,by simp⟩,⟨Sep.MK.of_below z10_19⟩⟩
 case round=>
  obtain⟨x1,x5,rfl,rfl,HX,M0⟩:=hrel
  cases gk with
  |zero=>have:=HX.out;omega
  |succ k1=>
   by_cases c3:x5<(l.length:Int)
   ·have c3b0:decide (x5<(l.length:Int))=true:=Zx c3
    have p5:0≤(x5:Int):=HX.out.2.1
    have c4b0:decide (0≤x5)=true:=Zx p5
    have q5:(x5:Int)<((l.length:Int):Int):=c3
    obtain⟨g,rfl,gb,rg⟩:=HA.out (by omega)
    have GB:=Za gb
    have RG0:=Za rg
    have LX0:x5.toNat*6+5<l.length*6:=by omega
    clear gb rg c3
    obtain⟨⟨u0,hx0⟩,hf0⟩:=Sep.RG.cell (o:=x5.toNat*6) (RG0.out.mk M0.out) (by omega)
    replace p5:=eq_true p5
    replace q5:=eq_true q5
    have n1_:wrap64 (x5+1)=x5+1:=by have:=HX.out;have:=HM.out;unfold wrap64;omega
    have N1:=Za n1_
    clear n1_
    go_wp2_with (first|((with_reducible refine Yk (t:=3) (p:=16) rfl ?_);refine Yj (t:=3) (p:=16) (v:= ?vo_w1) (w1:=(wr.setCell ⟨g,x5.toNat*6,none⟩ (.int .i64 (x1)))) ?hg ?ho ?hn ?hr ?_;(case ho=>rfl);(case hg=>rfl);(case hn=>rfl);(case hr=>exact z10_5);intro w1 hw;have M1:=Za (show Sep.MK [80] b w w1 from by rw[hw];exact Sep.MK.set M0.out (RG0.out.mk M0.out) (by decide) GB.out _ _);clear hw;have LX1:x5.toNat*6+5<l.length*6:=LX0;obtain⟨⟨u1,hx1⟩,hf1⟩:=Sep.RG.cell (o:=x5.toNat*6+1) (RG0.out.mk M1.out) (by omega))|((with_reducible refine Yk (t:=3) (p:=23) rfl ?_);refine Yj (t:=3) (p:=23) (v:= ?vo_w2) (w1:=(w1.setCell ⟨g,x5.toNat*6+1,none⟩ (.int .i64 (wrap64 (x1+1))))) ?hg ?ho ?hn ?hr ?_;(case ho=>rfl);(case hg=>rfl);(case hn=>rfl);(case hr=>exact z10_5);intro w2 hw;have M2:=Za (show Sep.MK [80] b w w2 from by rw[hw];exact Sep.MK.set M1.out (RG0.out.mk M1.out) (by decide) GB.out _ _);clear hw;have LX2:x5.toNat*6+5<l.length*6:=LX0;obtain⟨⟨u2,hx2⟩,hf2⟩:=Sep.RG.cell (o:=x5.toNat*6+2) (RG0.out.mk M2.out) (by omega))|((with_reducible refine Yk (t:=3) (p:=30) rfl ?_);refine Yj (t:=3) (p:=30) (v:= ?vo_w3) (w1:=(w2.setCell ⟨g,x5.toNat*6+2,none⟩ (.int .i64 (wrap64 ((wrap64 (x1+1))+1))))) ?hg ?ho ?hn ?hr ?_;(case ho=>rfl);(case hg=>rfl);(case hn=>rfl);(case hr=>exact z10_5);intro w3 hw;have M3:=Za (show Sep.MK [80] b w w3 from by rw[hw];exact Sep.MK.set M2.out (RG0.out.mk M2.out) (by decide) GB.out _ _);clear hw;have LX3:x5.toNat*6+5<l.length*6:=LX0;obtain⟨⟨u3,hx3⟩,hf3⟩:=Sep.RG.cell (o:=x5.toNat*6+3) (RG0.out.mk M3.out) (by omega))|((with_reducible refine Yk (t:=3) (p:=38) rfl ?_);refine Yj (t:=3) (p:=38) (v:= ?vo_w4) (w1:=(w3.setCell ⟨g,x5.toNat*6+3,none⟩ (.int .i64 (wrap64 ((wrap64 ((wrap64 (x1+1))+1))+1))))) ?hg ?ho ?hn ?hr ?_;(case ho=>rfl);(case hg=>rfl);(case hn=>rfl);(case hr=>exact z10_5);intro w4 hw;have M4:=Za (show Sep.MK [80] b w w4 from by rw[hw];exact Sep.MK.set M3.out (RG0.out.mk M3.out) (by decide) GB.out _ _);clear hw;have LX4:x5.toNat*6+5<l.length*6:=LX0;obtain⟨⟨u4,hx4⟩,hf4⟩:=Sep.RG.cell (o:=x5.toNat*6+4) (RG0.out.mk M4.out) (by omega))|((with_reducible refine Yk (t:=3) (p:=46) rfl ?_);refine Yj (t:=3) (p:=46) (v:= ?vo_w5) (w1:=(w4.setCell ⟨g,x5.toNat*6+4,none⟩ (.int .i64 (wrap64 ((wrap64 ((wrap64 ((wrap64 (x1+1))+1))+1))+1))))) ?hg ?ho ?hn ?hr ?_;(case ho=>rfl);(case hg=>rfl);(case hn=>rfl);(case hr=>exact z10_5);intro w5 hw;have M5:=Za (show Sep.MK [80] b w w5 from by rw[hw];exact Sep.MK.set M4.out (RG0.out.mk M4.out) (by decide) GB.out _ _);clear hw;have LX5:x5.toNat*6+5<l.length*6:=LX0;obtain⟨⟨u5,hx5⟩,hf5⟩:=Sep.RG.cell (o:=x5.toNat*6+5) (RG0.out.mk M5.out) (by omega))|((with_reducible refine Yk (t:=3) (p:=54) rfl ?_);refine Yj (t:=3) (p:=54) (v:= ?vo_w6) (w1:=(w5.setCell ⟨g,x5.toNat*6+5,none⟩ (.int .i64 (wrap64 ((wrap64 ((wrap64 ((wrap64 ((wrap64 (x1+1))+1))+1))+1))+1))))) ?hg ?ho ?hn ?hr ?_;(case ho=>rfl);(case hg=>rfl);(case hn=>rfl);(case hr=>exact z10_5);intro w6 hw;have M6:=Za (show Sep.MK [80] b w w6 from by rw[hw];exact Sep.MK.set M5.out (RG0.out.mk M5.out) (by decide) GB.out _ _);clear hw)|fail)
    go_roundg k1
    case measure=>omega
    case rel=>exact⟨_,wrap64 (x5+1),z10_18,z10_18,⟨by rw[N1.out,show 6*(x5+1).toNat=6*x5.toNat+6 by have:=HX.out;omega,Sep.up_add,←HX.out.1];rfl,by rw[N1.out];have:=HX.out;omega,by rw[N1.out];have:=HX.out;have:=of_eq_true q5;omega,by rw[N1.out];have:=HX.out;omega⟩,⟨M6.out.trans (Sep.MK.of_below z10_19)⟩⟩
   ·have c3b0:decide (x5<(l.length:Int))=false:=Yi c3
    have e5:x5=(l.length:Int):=by have:=HX.out;omega
    have E5:=Za e5
    clear c3 e5
    go_wp2
    go_ret
    exact⟨by rw[←HR.out,HX.out.1,E5.out];first|rfl|simp,M0.out.trans (Sep.MK.of_below z10_19)⟩
def markT (k:Int) (t:S64):Int:=Sep.up 3 (Sep.up (6*t.f0.length) k)
def laws_markTaskS.f (l:List S64) (k:Int):Option Int:=some (l.foldl markT k)
def TSv (b:Nat) (A:Option Addr) (l:List S64) (w:World):Prop:=∀(i:Nat) (t:S64),l[i]? =some t→∃g,A=some ⟨g,0,none⟩∧b≤g∧Sep.RG 64 (l.length*4) g w∧∃u,w.cell? ⟨g,i*4,none⟩=some u∧Sep.RS 80 6 b w u t.f0.length
theorem TSv.mk {b:Nat} {A:Option Addr} {l:List S64} {w w1:World} {ts:List Nat} {b':Nat} (h:TSv b A l w) (k:Sep.MK ts b' w w1) (hn:64 ∉ ts):TSv b A l w1:=by
 intro i t hi
 obtain⟨g,e,hb,⟨cs,hc,hm⟩,u,hu,hr⟩:=h i t hi
 have hc1:=k.blk hc hn
 exact⟨g,e,hb,⟨cs,hc1,hm⟩,u,(Zb hc1 _).trans ((Zb hc _).symm.trans hu),hr.mk k⟩
theorem TSv.set {b:Nat} {A:Option Addr} {l:List S64} {w:World} {g:Nat} (h:TSv b A l w) (hA:A=some ⟨g,0,none⟩) (hg:Sep.RG 64 (l.length*4) g w) (ht:64∈([64]:List Nat)) (x j:Nat) (j0:0<j) (j4:j<4) (v:Value):TSv b A l (w.setCell ⟨g,x*4+j,none⟩ v):=by
 intro i t hi
 obtain⟨g',e,hb,hrg,u,hu,hr⟩:=h i t hi
 rw[hA] at e
 have e':g=g':=by injection e with e;injection e
 subst e'
 have k:=Sep.MK.set (Sep.MK.refl [64] 0 w) hg ht (Nat.zero_le g) (x*4+j) v
 obtain⟨cs,hc,hm⟩:=hrg
 refine⟨g,hA,hb,(show Sep.RG 64 (l.length*4) g w from ⟨cs,hc,hm⟩).mk k,u,?_,hr.mk k⟩
 rw[Zb (blk_put hc (x*4+j) v rfl),Array.getElem?_setIfInBounds_ne (by omega),←Zb hc]
 exact hu
theorem TSv.of_S {b:Nat} {ok:Nat→Prop} {A:Option Addr} {n c:Nat} {l:List S64} {w:World} (h:Kd.S k64 64 w b ok (.slice A n c) l):TSv b A l w:=by
 intro i t hi
 have hl:=(List.getElem?_eq_some_iff.1 hi).1
 have hR:=Kd.S_R h
 obtain⟨A',c',e1,e2,e3,e4⟩:=Sep.RS.of_R z64 (by decide) hR
 injection e1 with e1 e5 _
 subst e1
 obtain⟨g,eA,hb,hrg⟩:=e4 (by omega)
 subst eA
 obtain⟨c1,l1,hM,hcell,_⟩:=Kd.R_elem hR z64 (i:Int) (by omega) (by omega)
 obtain⟨v0,rfl,g0⟩:=k64_openM hM
 have ht:l.getD ((i:Int)).toNat z64=t:=by rw[Int.toNat_natCast,List.getD_eq_getElem?_getD,hi];rfl
 rw[ht] at g0
 refine⟨g,rfl,hb,hrg,v0,hcell 0 _ rfl,Sep.RS.of_R z80 (by decide) g0⟩
set_option maxHeartbeats 8000000 in
set_option maxRecDepth 100000 in
theorem laws_markTaskS.calls (v:Value) (l:List S64) (a1 r:Int) (b:Nat) (ok:Nat→Prop) (w:World) (hs:Kd.S k64 64 w b ok v l) (h:laws_markTaskS.f l a1=some r):
  Calls Try.prog 34 #[v,.int .i64 a1] w fun e w'=>e= .returned (.int .i64 r)∧Sep.MK [80,64] b w w':=by
 obtain⟨A0_,c0,rfl,hc,hC⟩:=Kd.S_reads hs
 have HC:=Za hc
 have HM:=Za hC.2.1
 have HT:=Za (TSv.of_S hs)
 have HR:=Za (Zk h)
 clear hc hC h hs
 go_enter Try.func34,Try.ntmps34
 go_wp2
 go_loopg [1,5] (l.length+1) (fun kq v1 v5 w'=>∃(x1:Int) (x5:Int),v1= .int .i64 x1∧v5= .int .i64 x5∧Aside0 (x1=(l.take x5.toNat).foldl markT a1∧0≤x5∧x5≤(l.length:Int)∧kq+x5.toNat=l.length+1)∧Aside0 (Sep.MK [80,64] b w w')∧Aside0 (TSv b A0_ l w'))
 case atStart=>exact⟨a1,0,z10_18,z10_18,⟨rfl,by omega,by omega,by simp⟩,⟨Sep.MK.of_below z10_19⟩,⟨HT.out.mk (ts:=[]) (b':=0) (Sep.MK.of_below z10_19) (by simp)⟩⟩
 case round=>
  obtain⟨x1,x5,rfl,rfl,HX,M0,TS0⟩:=hrel
  cases gk with
  |zero=>have:=HX.out;omega
  |succ k1=>
   by_cases c3:x5<(l.length:Int)
   ·have c3b0:decide (x5<(l.length:Int))=true:=Zx c3
    have p5:0≤(x5:Int):=HX.out.2.1
    have c4b0:decide (0≤x5)=true:=Zx p5
    have q5:(x5:Int)<((l.length:Int):Int):=c3
    have QN:=Za (show x5.toNat<l.length by omega)
    obtain⟨t,ht⟩:∃t,l[x5.toNat]? =some t:=⟨_,List.getElem?_eq_getElem QN.out⟩
    obtain⟨g,eA,gb,rg,u0,hu,rs⟩:=TS0.out x5.toNat t ht
    subst eA
    obtain⟨A0_,hA0_⟩:∃A:Option Addr,A=some ⟨g,0,none⟩:=⟨_,rfl⟩
    have eA_:=Za hA0_
    have TS0':=TS0
    rw[←hA0_] at TS0'
    replace TS0:=TS0'
    clear TS0' hA0_
    have GB:=Za gb
    have RG0:=Za rg
    have hf0:=(Sep.RG.cell (o:=x5.toNat*4) rg (by have:=QN.out;omega)).2
    obtain⟨Au,cu,eu,lu,mu,hu2⟩:=rs
    subst eu
    have RSu:=Za (show Sep.RS 80 6 b wr (.slice Au t.f0.length cu) t.f0.length from ⟨Au,cu,rfl,lu,mu,hu2⟩)
    obtain⟨y,hy⟩:∃y,laws_markStmtS.f t.f0 x1=some y:=⟨_,rfl⟩
    have HY:=Za hy
    have HTT:=Za ht
    clear gb rg lu mu hu2 hy ht c3
    replace p5:=eq_true p5
    replace q5:=eq_true q5
    have n1_:wrap64 (x5+1)=x5+1:=by have:=HX.out;have:=HM.out;have:=QN.out;unfold wrap64;omega
    have N1:=Za n1_
    clear n1_
    go_wp2_with (first|(go_at_call 56;(with_reducible refine(laws_markStmtS.calls _ t.f0 x1 y b _ RSu.out HY.out).mono ?_);rintro e w1 ⟨rfl,hm⟩;have M1:=Za (M0.out.trans (hm.mono (ts':=[80,64]) (by decide)));have RG1:=Za (RG0.out.mk hm);have TS1:=Za (TSv.mk TS0.out hm (by decide));have LX1:=Za (show x5.toNat*4+1<l.length*4 from by have:=QN.out;omega);clear hm;obtain⟨⟨u1,hx1⟩,hf1⟩:=Sep.RG.cell (o:=x5.toNat*4+1) RG1.out LX1.out)|((with_reducible refine Yk (t:=3) (p:=24) rfl ?_);refine Yj (t:=3) (p:=24) (v:= ?vo_w2) (w1:=(w1.setCell ⟨g,x5.toNat*4+1,none⟩ (.int .i64 (y)))) ?hg ?ho ?hn ?hr ?_;(case ho=>rfl);(case hg=>rfl);(case hn=>rfl);(case hr=>exact z10_5);intro w2 hw;have M2:=Za (show Sep.MK [80,64] b w w2 from by rw[hw];exact Sep.MK.set M1.out RG1.out (by decide) GB.out _ _);have RG2:=Za (show Sep.RG 64 (l.length*4) g w2 from by rw[hw];exact RG1.out.mk (Sep.MK.set (ts:=[64]) (b:=0) (Sep.MK.refl _ _ _) RG1.out (by decide) (Nat.zero_le _) _ _));have TS2:=Za (show TSv b A0_ l w2 from by rw[hw];exact TSv.set TS1.out eA_.out RG1.out (by decide) x5.toNat 1 (by decide) (by decide) _);clear hw;have LX2:=Za (show x5.toNat*4+2<l.length*4 from by have:=LX1.out;have:=QN.out;omega);obtain⟨⟨u2,hx2⟩,hf2⟩:=Sep.RG.cell (o:=x5.toNat*4+2) RG2.out LX2.out)|((with_reducible refine Yk (t:=3) (p:=32) rfl ?_);refine Yj (t:=3) (p:=32) (v:= ?vo_w3) (w1:=(w2.setCell ⟨g,x5.toNat*4+2,none⟩ (.int .i64 (wrap64 (y+1))))) ?hg ?ho ?hn ?hr ?_;(case ho=>rfl);(case hg=>rfl);(case hn=>rfl);(case hr=>exact z10_5);intro w3 hw;have M3:=Za (show Sep.MK [80,64] b w w3 from by rw[hw];exact Sep.MK.set M2.out RG2.out (by decide) GB.out _ _);have RG3:=Za (show Sep.RG 64 (l.length*4) g w3 from by rw[hw];exact RG2.out.mk (Sep.MK.set (ts:=[64]) (b:=0) (Sep.MK.refl _ _ _) RG2.out (by decide) (Nat.zero_le _) _ _));have TS3:=Za (show TSv b A0_ l w3 from by rw[hw];exact TSv.set TS2.out eA_.out RG2.out (by decide) x5.toNat 2 (by decide) (by decide) _);clear hw;have LX3:=Za (show x5.toNat*4+3<l.length*4 from by have:=LX1.out;have:=QN.out;omega);obtain⟨⟨u3,hx3⟩,hf3⟩:=Sep.RG.cell (o:=x5.toNat*4+3) RG3.out LX3.out)|((with_reducible refine Yk (t:=3) (p:=40) rfl ?_);refine Yj (t:=3) (p:=40) (v:= ?vo_w4) (w1:=(w3.setCell ⟨g,x5.toNat*4+3,none⟩ (.int .i64 (wrap64 ((wrap64 (y+1))+1))))) ?hg ?ho ?hn ?hr ?_;(case ho=>rfl);(case hg=>rfl);(case hn=>rfl);(case hr=>exact z10_5);intro w4 hw;have M4:=Za (show Sep.MK [80,64] b w w4 from by rw[hw];exact Sep.MK.set M3.out RG3.out (by decide) GB.out _ _);have RG4:=Za (show Sep.RG 64 (l.length*4) g w4 from by rw[hw];exact RG3.out.mk (Sep.MK.set (ts:=[64]) (b:=0) (Sep.MK.refl _ _ _) RG3.out (by decide) (Nat.zero_le _) _ _));have TS4:=Za (show TSv b A0_ l w4 from by rw[hw];exact TSv.set TS3.out eA_.out RG3.out (by decide) x5.toNat 3 (by decide) (by decide) _);clear hw)|fail)
    go_roundg k1
    case measure=>omega
    case rel=>exact⟨_,wrap64 (x5+1),z10_18,z10_18,⟨by rw[N1.out,show(x5+1).toNat=x5.toNat+1 by have:=HX.out;omega,List.take_add_one,HTT.out,List.foldl_append,←HX.out.1,←Zk HY.out];rfl,by rw[N1.out];have:=HX.out;omega,by rw[N1.out];have:=HX.out;have:=of_eq_true q5;omega,by rw[N1.out];have:=HX.out;omega⟩,⟨M4.out.trans (Sep.MK.of_below z10_19)⟩,⟨by rw[←eA_.out];exact TS4.out.mk (ts:=[]) (b':=0) (Sep.MK.of_below z10_19) (by simp)⟩⟩
   ·have c3b0:decide (x5<(l.length:Int))=false:=Yi c3
    have e5:x5.toNat=l.length:=by have:=HX.out;omega
    have E5:=Za e5
    clear c3 e5
    go_wp2
    go_ret
    exact⟨by rw[←HR.out,HX.out.1,E5.out,List.take_length];rfl,M0.out.trans (Sep.MK.of_below z10_19)⟩
def laws_markProgram.f (l:List S64) (k:Int):Option Int:=laws_markTaskS.f l k
set_option maxHeartbeats 8000000 in
set_option maxRecDepth 100000 in
theorem laws_markProgram.calls (v:Value) (l:List S64) (a1 r:Int) (b:Nat) (ok:Nat→Prop) (w:World) (hs:Kd.S k64 64 w b ok v l) (h:laws_markProgram.f l a1=some r):
  Calls Try.prog 13 #[.agg #[v],.int .i64 a1] w fun e w'=>e= .returned (.int .i64 r)∧Sep.MK [80,64] b w w':=by
 obtain⟨A0_,c0,rfl,hc,hC⟩:=Kd.S_reads hs
 have HS:=Za hs
 have HR:=Za (show laws_markTaskS.f l a1=some r from h)
 clear hc hC h hs
 go_enter Try.func13,Try.ntmps13
 go_wp2_with (first|((with_reducible refine Zp (N:=2) rfl ?_);refine Zt ?hg (N:=2) ?hd (cs:= #[.slice A0_ l.length c0]) (t:=33) ?hr ?_;(case hd=>rfl);(case hg=>rfl);(case hr=>exact z10_5);intro gp hgp w1 hp hb;have HB1:=Za hb;have hP1:w1.cell? ⟨gp,0,none⟩=some (.slice A0_ l.length c0):=(Zb hp 0).trans rfl;have HS1:=Za (Kd.S_below HS.out hb);clear hgp hp hb)|(go_at_call 34;(with_reducible refine(laws_markTaskS.calls _ l a1 r b ok _ HS1.out HR.out).mono ?_);rintro e w2 ⟨rfl,hm⟩;have M2:=Za ((Sep.MK.of_below HB1.out).trans hm);clear hm)|fail)
 go_ret
 exact⟨rfl,M2.out.trans (Sep.MK.of_below z10_19)⟩
def laws_markIntS.l0:Nat→List Int→Int→Int→Option (Int×List Int)
 |0,_,_,_=>none
 |k+1,x0,x1,x5=>if x5<(x0.length:Int) then (if 0≤x5 then (laws_markIntS.l0 k (x0.set (x5:Int).toNat x1) (wrap64 (x1+1)) (wrap64 (x5+1))) else (none)) else (some (x1,x0))
def laws_markIntS.f (k:Nat) (l0:List Int) (a1:Int):Option (Int×List Int):=laws_markIntS.l0 k l0 a1 0
set_option maxHeartbeats 8000000 in
set_option maxRecDepth 100000 in
theorem laws_markIntS.calls (k:Nat) (P0_:Nat→Prop) (u9000_:Value) (l0:List Int) (a1:Int) (r1:Int) (r2:List Int) (w0 w:World) (hB:Below w0.heap.size w0 w) (ho0:Kd.R (Kd.int .i64) 3 w w0.heap.size P0_ u9000_ l0) (h:laws_markIntS.f k l0 a1=some (r1,r2)):
  Calls Try.prog 14 #[u9000_,.int .i64 a1] w fun e w'=>e= .returned (.int .i64 r1)∧Kd.R (Kd.int .i64) 3 w' w0.heap.size (fun k_=>(P0_ k_∨w.heap.size≤k_)) u9000_ r2∧Below w0.heap.size w0 w'∧Kept w w' (fun k_=>P0_ k_):=by
 have HO0:=Za (show Kd.R (Kd.int .i64) 3 w w0.heap.size (fun k_=>(P0_ k_∨w.heap.size≤k_)) u9000_ l0 from Zw ho0 (fun k_ hk=>(.inl hk)))
 have HK:=Za (Kept.refl w (fun k_=>P0_ k_))
 have HW0:=Za hB.size
 have HB:=Za hB
 clear hB
 have H:(laws_markIntS.l0 k l0 a1 0)=some (r1,r2):=h
 clear h
 have H':=Za H
 clear H
 go_enter Try.func14,Try.ntmps14
 go_wp2
 go_loopg [1,5] k (fun kq v1 v5 w'=>∃(x0_1:List Int) (x1_1:Int) (x5_1:Int),v1= .int .i64 x1_1∧v5= .int .i64 x5_1∧Aside0 (laws_markIntS.l0 kq x0_1 x1_1 x5_1=some (r1,r2))∧Aside0 (kq≤k)∧Aside0 (Kd.R (Kd.int .i64) 3 w' w0.heap.size (fun k_=>(P0_ k_∨w.heap.size≤k_)) u9000_ x0_1)∧Aside0 (Kept w w' (fun k_=>P0_ k_))∧Aside0 (Below w0.heap.size w0 w'))
 case atStart=>exact⟨(l0),(a1),(0),z10_18,z10_18,H',⟨Nat.le_refl _⟩,⟨by(with_reducible repeat(first|apply Zn|apply Zo|apply Zm));exact HO0.out⟩,⟨by repeat(first|(with_reducible first|exact HK.out|apply Kept.alloc|apply Kept.drewN|apply Kept.drew)|exact HK.out)⟩,⟨by repeat(first|(with_reducible first|exact HB.out|apply Zh|apply Zf|apply Ze)|exact HB.out)⟩⟩
 case round=>
  clear H'
  obtain⟨x0_1,x1_1,x5_1,rfl,rfl,HA,HK1,HO_0,HK,HB⟩:=hrel
  cases gk with
  |zero=>exact absurd HA.out (by simp[laws_markIntS.l0])
  |succ k1=>
   have H:=HA.out
   clear HA
   simp only[laws_markIntS.l0] at H
   by_cases c3:x5_1<(x0_1.length:Int)
   ·rw[if_pos c3] at H
    have c3b0:decide (x5_1<(x0_1.length:Int))=true:=Zx c3
    clear c3
    by_cases c4:0≤x5_1
    ·rw[if_pos c4] at H
     have c4b0:decide (0≤x5_1)=true:=Zx c4
     clear c4
     obtain⟨y324,hy324⟩:∃y_:List Int,y_=(x0_1.set (x5_1:Int).toNat x1_1):=⟨_,rfl⟩
     replace H:(laws_markIntS.l0 k1 y324 (wrap64 (x1_1+1)) (wrap64 (x5_1+1)))=some (r1,r2):=by first|(rw[hy324];with_reducible exact H)|(have H2_:=(Option.bind_some _ _).symm.trans H;rw[hy324];with_reducible exact H2_)|(have H2_:=(Option.bind_some _ _).symm.trans H;with_reducible exact H2_)|with_reducible exact H|(rw[hy324];exact H)|exact H
     have Ny324:=Za hy324
     clear hy324
     have H':=Za H
     clear H
     obtain⟨Ao6,co6,eo6⟩:=Yn HO_0.out
     subst eo6
     have p5:0≤(x5_1:Int):=Zv z10_16
     have q5:(x5_1:Int)<((x0_1.length:Int):Int):=Zv z10_16
     obtain⟨go5,co5,eo5,gb5,gl5,cl5,HG5⟩:=Kd.R_form HO_0.out (by omega)
     (first|cases eo5|(injection eo5 with ea_ en_ ec_;(first|subst ea_|(injection ea_ with ea_;subst ea_));subst ec_;clear en_))
     have GB5:=Za gb5
     have GG5:=Za HG5
     clear gb5 gl5 HG5
     have HMgo5:=Za (show(P0_ go5∨w.heap.size≤go5) from (HO_0.out.1 _ rfl))
     obtain⟨hx5_0,hf5_0⟩:=Kd.R_celln 0 HO_0.out (x5_1:Int) p5 q5
     replace p5:=eq_true p5
     replace q5:=eq_true q5
     have HP7:=Kd.R_putg HO_0.out (x5_1:Int) x1_1
     go_wp2_with (first|((with_reducible refine Yk (t:=3) (p:=15) rfl ?_);refine Yj (t:=3) (p:=15) (v:= ?vo_w8) (w1:=(wr.setCell ⟨go5,(x5_1:Int).toNat,none⟩ (.int .i64 x1_1))) ?hg ?ho ?hn ?hr ?_;(case ho=>rfl);(case hg=>rfl);(case hn=>rfl);(case hr=>exact z10_5);intro w8 hw;have hg:wr.grownBy w8 (some go5):=(by rw[hw];exact HP7.2);have hp_:Kd.R (Kd.int .i64) 3 w8 w0.heap.size (fun k_=>(P0_ k_∨w.heap.size≤k_)) (.slice (some ⟨go5,0,none⟩) x0_1.length co6) y324:=(by rw[hw,Ny324.out];exact HP7.1);clear HP7;replace HB:=Za ((by rw[hw];exact Zd (HB.out) GB5.out:Below w0.heap.size w0 w8));replace HK:=Za (Kept.of_grown (S:=(fun k_=>P0_ k_)) hg (by repeat(first|(with_reducible first|exact HK.out|apply Kept.alloc|apply Kept.drewN|apply Kept.drew)|exact HK.out)) (fun k_ e_=>(HO_0.out.1 k_ e_)));replace HO_0:=Za (hp_);clear hg hw hp_))
     go_roundg k1
     case measure=>have:=HK1.out;omega
     case rel=>exact⟨(y324),(wrap64 (x1_1+1)),(wrap64 (x5_1+1)),z10_18,z10_18,H',⟨by have:=HK1.out;omega⟩,⟨by(with_reducible repeat(first|apply Zn|apply Zo|apply Zm));exact HO_0.out⟩,⟨by repeat(first|(with_reducible first|exact HK.out|apply Kept.alloc|apply Kept.drewN|apply Kept.drew)|exact HK.out)⟩,⟨by repeat(first|(with_reducible first|exact HB.out|apply Zh|apply Zf|apply Ze)|exact HB.out)⟩⟩
    ·rw[if_neg c4] at H
     exact absurd H (by simp)
   ·rw[if_neg c3] at H
    have c3b0:decide (x5_1<(x0_1.length:Int))=false:=Yi c3
    clear c3
    simp only[Option.some.injEq,Prod.mk.injEq] at H
    obtain⟨rfl,rfl⟩:=H
    obtain⟨Ao9,co9,eo9⟩:=Yn HO_0.out
    subst eo9
    go_wp2
    go_ret
    exact⟨by first|rfl|(simp[errW_none,errW_some]<;>rfl)|(simp[*,errW_none,errW_some]<;>rfl)|(simp[*,errW_none,errW_some,i64_w];done),by(with_reducible repeat(first|apply Zn|apply Zo|apply Zm));exact HO_0.out,by repeat(first|(with_reducible first|exact HB.out|apply Zh|apply Zf|apply Ze)|exact HB.out),by repeat(first|(with_reducible first|exact HK.out|apply Kept.alloc|apply Kept.drewN|apply Kept.drew)|exact HK.out)⟩
end Go.Proofs.Ytlolppaddphpoaa.G
