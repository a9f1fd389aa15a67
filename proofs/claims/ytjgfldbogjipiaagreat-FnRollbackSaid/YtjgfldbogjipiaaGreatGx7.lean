/- Functions of the program as plain Lean functions, and that each call comes to its function's answer; written by a program of the session. No condition. -/
import Derived.Test.YtjgfldbogjipiaaGreatGx0
import Derived.Test.YtjgfldbogjipiaaGreatGx3
import Derived.Test.YtjgfldbogjipiaaGreatGx4
import Derived.Test.YtjgfldbogjipiaaGreatGx5
import Derived.Test.YtjgfldbogjipiaaGreatGx6
namespace Go.Proofs.YtjgfldbogjipiaaGreat.G
open Go.RowKit Go.Proofs.YtjgfldbogjipiaaGreatW.PrintWords Go.Proofs.YtjgfldbogjipiaaGreatW.PrintLast Go.Proofs.YtjgfldbogjipiaaGreatW.PrintMore
attribute [local go_sem] max2_int min2_int max_two min_two max_three min_three max_four min_four   -- for this text's walks alone
set_option linter.unusedVariables false
set_option linter.unusedSimpArgs false
theorem z7_0 {P:Prop} (h:P:=by repeat(first|exact(Yh HR0.out (by repeat(first|(with_reducible first|exact HB.out|apply Zh|apply Zf|apply Ze|refine Zd ?_ GE465.out)|exact HB.out)))|(with_reducible refine Yk ?_ _)|(with_reducible refine Yi ?_ _)|(with_reducible refine Yl ?_))):P:=h
theorem z7_1 {P:Prop} (h:P:=by repeat(first|exact(Yh HR0.out HB.out)|(with_reducible refine Yk ?_ _)|(with_reducible refine Yi ?_ _)|(with_reducible refine Yl ?_))):P:=h
theorem z7_2 {P:Prop} (h:P:=by repeat(first|(with_reducible first|exact HB.out|apply Zh|apply Zf|apply Ze)|exact HB.out)):P:=h
theorem z7_3 {P:Prop} (h:P:=by repeat(first|(with_reducible first|exact HB.out|apply Zh|apply Zf|apply Ze|refine Zd ?_ GE465.out)|exact HB.out)):P:=h
theorem z7_4 {P:Prop} (h:P:=by(try simp only[Yt,List.map_cons,List.map_nil]);first|done|rfl|(simp only[List.length_drop,List.length_take];rfl)):P:=h
theorem z7_5 {P:Prop} (h:P:=by repeat(first|exact(Yh HR0_0.out HB.out)|(with_reducible refine Yk ?_ _)|(with_reducible refine Yi ?_ _)|(with_reducible refine Yl ?_))):P:=h
theorem z7_6 {P:Prop} (h:P:=by repeat(first|(with_reducible first|exact HB.out|apply Zh|apply Zf|apply Ze|refine Zd ?_ GE481.out)|exact HB.out)):P:=h
theorem z7_7 {P:Prop} (h:P:=by exact HC0.out):P:=h
theorem z7_8 {P:Prop} (h:P:=by repeat(first|(with_reducible first|exact HB.out|apply Zh|apply Zf|apply Ze|refine Zd ?_ GE447.out)|exact HB.out)):P:=h
theorem z7_9 {P:Prop} (h:P:=by first|(go_simp;done)|(go_simp;rfl)):P:=h
theorem z7_10 {P:Prop} (h:P:=by(with_reducible repeat(first|refine blk_drewN ?_ _|refine blk_drew ?_|refine blk_alloc ?_ _));exact BK481.out):P:=h
theorem z7_11 {P:Prop} (h:P:=by first|(with_reducible assumption)|assumption):P:=h
theorem z7_12 {P:Prop} (h:P:=by(with_reducible repeat(first|refine blk_drewN ?_ _|refine blk_drew ?_|refine blk_alloc ?_ _));exact BK465.out):P:=h
theorem z7_13 {P:Prop} (h:P:=by(with_reducible repeat(first|refine blk_drewN ?_ _|refine blk_drew ?_|refine blk_alloc ?_ _));exact BK447.out):P:=h
theorem z7_14 {P:Prop} (h:P:=by rw[hg];exact(Yf z7_2)):P:=h
def impl_StmtCost.f (k:Nat) (a0_0:Int) (a0_1:Int) (a0_2:Int) (a0_3:Int) (a0_4:Int) (a0_5:Int):Option (Int):=(impl_StmtOk.f k a0_0 a0_1 a0_2 a0_3 a0_4 a0_5).bind fun t448=>(if t448=true then ((some (([0,2,5,4,1,1,0]:List Int):List Int)).bind fun y449=>(if 0≤a0_0 then (if a0_0<(y449.length:Int) then (some (rd y449 a0_0)) else (none)) else (none))) else (some 0))
set_option maxHeartbeats 8000000 in
set_option maxRecDepth 100000 in
theorem impl_StmtCost.calls (k:Nat) (a0_0:Int) (a0_1:Int) (a0_2:Int) (a0_3:Int) (a0_4:Int) (a0_5:Int) (r:Int) (w:World) (h:impl_StmtCost.f k a0_0 a0_1 a0_2 a0_3 a0_4 a0_5=some r):
  Calls Tryz.prog 65 #[.agg #[.int .i64 a0_0,.int .i64 a0_1,.int .i64 a0_2,.int .i64 a0_3,.int .i64 a0_4,.int .i64 a0_5]] w fun e w'=>e= .returned (.int .i64 r)∧Below w.heap.size w w':=by
 have hu93:=Tryz.underlying93
 have HB:=Za (Yb w.heap.size w)
 have H:((impl_StmtOk.f k a0_0 a0_1 a0_2 a0_3 a0_4 a0_5).bind fun t448=>(if t448=true then ((some (([0,2,5,4,1,1,0]:List Int):List Int)).bind fun y449=>(if 0≤a0_0 then (if a0_0<(y449.length:Int) then (some (rd y449 a0_0)) else (none)) else (none))) else (some 0)))=some r:=h
 clear h
 replace H:=Zg H
 obtain⟨t448,A20,H⟩:=H
 replace H:(if t448=true then ((some (([0,2,5,4,1,1,0]:List Int):List Int)).bind fun y449=>(if 0≤a0_0 then (if a0_0<(y449.length:Int) then (some (rd y449 a0_0)) else (none)) else (none))) else (some 0))=some r:=H
 have A2:=Za A20
 clear A20
 by_cases c3:t448=true
 ·subst c3
  rw[if_pos rfl] at H
  obtain⟨y449,hy449⟩:∃y_:List Int,y_=(([0,2,5,4,1,1,0]:List Int)):=⟨_,rfl⟩
  replace H:(if 0≤a0_0 then (if a0_0<(y449.length:Int) then (some (rd y449 a0_0)) else (none)) else (none))=some r:=by first|(rw[hy449];with_reducible exact H)|(have H2_:=(Yd _ _).symm.trans H;rw[hy449];with_reducible exact H2_)|(have H2_:=(Yd _ _).symm.trans H;with_reducible exact H2_)|with_reducible exact H|(rw[hy449];exact H)|exact H
  have Ny449:=Za hy449
  clear hy449
  by_cases c4:0≤a0_0
  ·rw[if_pos c4] at H
   have c4b0:decide (0≤a0_0)=true:=Zo c4
   clear c4
   by_cases c5:a0_0<(y449.length:Int)
   ·rw[if_pos c5] at H
    have c5b0:decide (a0_0<(y449.length:Int))=true:=Zo c5
    clear c5
    obtain rfl:=Zn H
    go_enter Tryz.func65,Tryz.ntmps65
    go_wp2_with (first|((with_reducible refine Zr (N:=1) rfl ?_);refine Zy ?hg (N:=1) ?hd (cs:= #[.int .i64 a0_0,.int .i64 a0_1,.int .i64 a0_2,.int .i64 a0_3,.int .i64 a0_4,.int .i64 a0_5]) (t:=93) ?hr ?_;(case hd=>rfl);(case hg=>rfl);(case hr=>exact z7_9);intro gb447 hg w6 hbox hb;have BK447:=Za (hbox);have GW447:=Za ((z7_14:w.heap.size≤gb447));have GE447:=Za ((z7_14:w.heap.size≤gb447));replace HB:=Za (Zk z7_2 hb);clear hb hbox hg;have hcz7_0:w6.cell? ⟨gb447,0,none⟩=some (.int .i64 a0_0):=(Zb BK447.out 0).trans rfl;have hcz7_1:w6.cell? ⟨gb447,1,none⟩=some (.int .i64 a0_1):=(Zb BK447.out 1).trans rfl;have hcz7_2:w6.cell? ⟨gb447,2,none⟩=some (.int .i64 a0_2):=(Zb BK447.out 2).trans rfl;have hcz7_3:w6.cell? ⟨gb447,3,none⟩=some (.int .i64 a0_3):=(Zb BK447.out 3).trans rfl;have hcz7_4:w6.cell? ⟨gb447,4,none⟩=some (.int .i64 a0_4):=(Zb BK447.out 4).trans rfl;have hcz7_5:w6.cell? ⟨gb447,5,none⟩=some (.int .i64 a0_5):=(Zb BK447.out 5).trans rfl;have hfz7_0:=Zc BK447.out 0;have hfz7_1:=Zc BK447.out 1;have hfz7_2:=Zc BK447.out 2;have hfz7_3:=Zc BK447.out 3;have hfz7_4:=Zc BK447.out 4;have hfz7_5:=Zc BK447.out 5)|((first|((with_reducible refine gate_callee (f:=97) rfl ?_);refine goesL_ (some 4) rfl rfl Tryz.func97 (by kernel_rfl) rfl #[.agg #[.int .i64 a0_0,.int .i64 a0_1,.int .i64 a0_2,.int .i64 a0_3,.int .i64 a0_4,.int .i64 a0_5]] rfl z7_4 ?_;(with_reducible refine(impl_StmtOk.calls k a0_0 a0_1 a0_2 a0_3 a0_4 a0_5 true _ A2.out).mono ?_))|(go_at_call 97;(with_reducible refine(impl_StmtOk.calls k a0_0 a0_1 a0_2 a0_3 a0_4 a0_5 true _ A2.out).mono ?_)));rintro e w8 ⟨rfl,hb⟩;(first|refine⟨_,rfl,?_⟩|skip);replace BK447:=Za (Zi (g:=gb447) (o:= .cells #[.int .i64 a0_0,.int .i64 a0_1,.int .i64 a0_2,.int .i64 a0_3,.int .i64 a0_4,.int .i64 a0_5] 93 (0,0)) z7_13 hb);replace HB:=Za (Zk z7_8 hb);(try clear hb);(try clear hb2);(try clear hk);(try clear hi))|((with_reducible refine Zr (N:=6) rfl ?_);refine Kd.R_lit (Kd.int .i64) _ 3 ?hg (N:=6) ?hd (xs:=([0,2,5,4,1,1,0]:List Int)) (inner:=[.int .i64 0,.int .i64 2,.int .i64 5,.int .i64 4,.int .i64 1,.int .i64 1,.int .i64 0]) (ok:=fun _=>True) (okp:=fun _=>True) ?hr ?hp (fun _ hk=>hk) trivial (Yb _ _) (Nat.le_refl _) (by simp) ?_;(case hd=>rfl);(case hg=>rfl);(case hr=>exact z7_9);(case hp=>exact(Reps.one (show Kd.M (Kd.int .i64) _ _ _ 0 [.int .i64 0] from rfl) (Reps.one (show Kd.M (Kd.int .i64) _ _ _ 2 [.int .i64 2] from rfl) (Reps.one (show Kd.M (Kd.int .i64) _ _ _ 5 [.int .i64 5] from rfl) (Reps.one (show Kd.M (Kd.int .i64) _ _ _ 4 [.int .i64 4] from rfl) (Reps.one (show Kd.M (Kd.int .i64) _ _ _ 1 [.int .i64 1] from rfl) (Reps.one (show Kd.M (Kd.int .i64) _ _ _ 1 [.int .i64 1] from rfl) (Reps.one (show Kd.M (Kd.int .i64) _ _ _ 0 [.int .i64 0] from rfl) (Reps.none _ _)))))))));intro v450 w9 ho10 hb hg_ hnew_;clear hg_ hnew_;(first|rw[←Ny449.out] at ho10|(simp only[Int.reduceToNat] at ho10;rw[←Ny449.out] at ho10));have HO451:=Za (Yr ho10 (Yf z7_8));replace BK447:=Za (Zi (g:=gb447) (o:= .cells #[.int .i64 a0_0,.int .i64 a0_1,.int .i64 a0_2,.int .i64 a0_3,.int .i64 a0_4,.int .i64 a0_5] 93 (0,0)) z7_13 hb);replace HB:=Za (Zk z7_8 hb);clear hb ho10;have hcz11_0:w9.cell? ⟨gb447,0,none⟩=some (.int .i64 a0_0):=(Zb BK447.out 0).trans rfl;have hcz11_1:w9.cell? ⟨gb447,1,none⟩=some (.int .i64 a0_1):=(Zb BK447.out 1).trans rfl;have hcz11_2:w9.cell? ⟨gb447,2,none⟩=some (.int .i64 a0_2):=(Zb BK447.out 2).trans rfl;have hcz11_3:w9.cell? ⟨gb447,3,none⟩=some (.int .i64 a0_3):=(Zb BK447.out 3).trans rfl;have hcz11_4:w9.cell? ⟨gb447,4,none⟩=some (.int .i64 a0_4):=(Zb BK447.out 4).trans rfl;have hcz11_5:w9.cell? ⟨gb447,5,none⟩=some (.int .i64 a0_5):=(Zb BK447.out 5).trans rfl;have hfz11_0:=Zc BK447.out 0;have hfz11_1:=Zc BK447.out 1;have hfz11_2:=Zc BK447.out 2;have hfz11_3:=Zc BK447.out 3;have hfz11_4:=Zc BK447.out 4;have hfz11_5:=Zc BK447.out 5;obtain⟨Ao12,co12,eo12⟩:=Yn HO451.out;subst eo12;have p452:0≤(a0_0:Int):=Zq z7_11;have q452:a0_0<(y449.length:Int):=Zq z7_11;obtain⟨ad452,e452,hx452_0⟩:=Kd.at_int (Ym HO451.out).2.2 a0_0 p452 q452;cases e452;replace p452:=eq_true p452;replace q452:=eq_true q452))
    go_ret
    exact⟨by first|rfl|(simp[errW_none,errW_some]<;>rfl)|(simp[*,errW_none,errW_some]<;>rfl)|(simp[*,errW_none,errW_some,i64_w];done),by repeat(first|(with_reducible first|exact HB.out|apply Zh|apply Zf|apply Ze|refine Zd ?_ GE447.out)|exact HB.out)⟩
   ·rw[if_neg c5] at H
    exact absurd H (by simp)
  ·rw[if_neg c4] at H
   exact absurd H (by simp)
 ·replace c3:=Bool.eq_false_iff.mpr c3
  subst c3
  rw[if_neg (show ¬(false=true) by decide)] at H
  obtain rfl:=Zn H
  go_enter Tryz.func65,Tryz.ntmps65
  go_wp2_with (first|((with_reducible refine Zr (N:=1) rfl ?_);refine Zy ?hg (N:=1) ?hd (cs:= #[.int .i64 a0_0,.int .i64 a0_1,.int .i64 a0_2,.int .i64 a0_3,.int .i64 a0_4,.int .i64 a0_5]) (t:=93) ?hr ?_;(case hd=>rfl);(case hg=>rfl);(case hr=>exact z7_9);intro gb447 hg w13 hbox hb;have BK447:=Za (hbox);have GW447:=Za ((z7_14:w.heap.size≤gb447));have GE447:=Za ((z7_14:w.heap.size≤gb447));replace HB:=Za (Zk z7_2 hb);clear hb hbox hg;have hcz14_0:w13.cell? ⟨gb447,0,none⟩=some (.int .i64 a0_0):=(Zb BK447.out 0).trans rfl;have hcz14_1:w13.cell? ⟨gb447,1,none⟩=some (.int .i64 a0_1):=(Zb BK447.out 1).trans rfl;have hcz14_2:w13.cell? ⟨gb447,2,none⟩=some (.int .i64 a0_2):=(Zb BK447.out 2).trans rfl;have hcz14_3:w13.cell? ⟨gb447,3,none⟩=some (.int .i64 a0_3):=(Zb BK447.out 3).trans rfl;have hcz14_4:w13.cell? ⟨gb447,4,none⟩=some (.int .i64 a0_4):=(Zb BK447.out 4).trans rfl;have hcz14_5:w13.cell? ⟨gb447,5,none⟩=some (.int .i64 a0_5):=(Zb BK447.out 5).trans rfl;have hfz14_0:=Zc BK447.out 0;have hfz14_1:=Zc BK447.out 1;have hfz14_2:=Zc BK447.out 2;have hfz14_3:=Zc BK447.out 3;have hfz14_4:=Zc BK447.out 4;have hfz14_5:=Zc BK447.out 5)|((first|((with_reducible refine gate_callee (f:=97) rfl ?_);refine goesL_ (some 4) rfl rfl Tryz.func97 (by kernel_rfl) rfl #[.agg #[.int .i64 a0_0,.int .i64 a0_1,.int .i64 a0_2,.int .i64 a0_3,.int .i64 a0_4,.int .i64 a0_5]] rfl z7_4 ?_;(with_reducible refine(impl_StmtOk.calls k a0_0 a0_1 a0_2 a0_3 a0_4 a0_5 false _ A2.out).mono ?_))|(go_at_call 97;(with_reducible refine(impl_StmtOk.calls k a0_0 a0_1 a0_2 a0_3 a0_4 a0_5 false _ A2.out).mono ?_)));rintro e w15 ⟨rfl,hb⟩;(first|refine⟨_,rfl,?_⟩|skip);replace BK447:=Za (Zi (g:=gb447) (o:= .cells #[.int .i64 a0_0,.int .i64 a0_1,.int .i64 a0_2,.int .i64 a0_3,.int .i64 a0_4,.int .i64 a0_5] 93 (0,0)) z7_13 hb);replace HB:=Za (Zk z7_8 hb);(try clear hb);(try clear hb2);(try clear hk);(try clear hi)))
  go_ret
  exact⟨by first|rfl|(simp[errW_none,errW_some]<;>rfl)|(simp[*,errW_none,errW_some]<;>rfl)|(simp[*,errW_none,errW_some,i64_w];done),by repeat(first|(with_reducible first|exact HB.out|apply Zh|apply Zf|apply Ze|refine Zd ?_ GE447.out)|exact HB.out)⟩
def impl_VarsOk.f (l0:List Int):Option (Bool):=if (l0.length:Int)=8 then ((impl_areValues.f l0).bind fun t453=>(some t453)) else (some false)
set_option maxHeartbeats 8000000 in
set_option maxRecDepth 100000 in
theorem impl_VarsOk.calls (A0:Option Addr) (c0:Nat) (l0:List Int) (r:Bool) (w:World) (hr0:Kd.C (Kd.int .i64) w A0 l0.length l0) (hc0:l0.length≤c0) (h:impl_VarsOk.f l0=some r):
  Calls Tryz.prog 98 #[.slice A0 l0.length c0] w fun e w'=>e= .returned (.bool r)∧Drawn0 w w':=by
 have HR0:=Za hr0
 have HC0:=Za hc0
 clear hr0 hc0
 have H:(if (l0.length:Int)=8 then ((impl_areValues.f l0).bind fun t453=>(some t453)) else (some false))=some r:=h
 clear h
 by_cases c2:(l0.length:Int)=8
 ·rw[if_pos c2] at H
  have c2b0:((l0.length:Int)==8)=true:=beq_iff_eq.mpr c2
  have c2b1:((l0.length:Int) != 8)=false:=bne_eq_false_iff_eq.mpr c2
  clear c2
  replace H:=Zg H
  obtain⟨t453,A30,H⟩:=H
  replace H:(some t453)=some r:=H
  have A3:=Za A30
  clear A30
  obtain rfl:=Zn H
  go_enter Tryz.func98,Tryz.ntmps98
  go_wp2_with (first|(go_at_call 51;(with_reducible refine(impl_areValues.calls _ _ l0 t453 _ ?side1 ?side2 A3.out).mono ?_);(case side1=>repeat(first|exact HR0.out|(with_reducible refine Yk ?_ _)|(with_reducible refine Yi ?_ _)|(with_reducible refine Yl ?_)));(case side2=>exact z7_7);rintro e w' ⟨rfl,⟨nd,rfl⟩⟩))
  go_ret
  exact⟨by first|rfl|(simp;done)|(simp[*];done),by repeat(first|exact Zv _|apply Zw)⟩
 ·rw[if_neg c2] at H
  have c2b0:((l0.length:Int)==8)=false:=beq_eq_false_iff_ne.mpr c2
  have c2b1:((l0.length:Int) != 8)=true:=bne_iff_ne.mpr c2
  obtain rfl:=Zn H
  go_enter Tryz.func98,Tryz.ntmps98
  go_wp2
  go_ret
  exact⟨by first|rfl|(simp;done)|(simp[*];done),by repeat(first|exact Zv _|apply Zw)⟩
def impl_operand.f (l0:List Int) (a1:Int):Option (Int):=if a1<0 then (if 0≤(wrap64 ((-1) - a1)) then (if (wrap64 ((-1) - a1))<(l0.length:Int) then (some (rd l0 (wrap64 ((-1) - a1)))) else (none)) else (none)) else (some a1)
set_option maxHeartbeats 8000000 in
set_option maxRecDepth 100000 in
theorem impl_operand.calls (A0:Option Addr) (c0:Nat) (l0:List Int) (a1:Int) (r:Int) (w:World) (hr0:Kd.C (Kd.int .i64) w A0 l0.length l0) (hc0:l0.length≤c0) (h:impl_operand.f l0 a1=some r):
  Calls Tryz.prog 100 #[.slice A0 l0.length c0,.int .i64 a1] w fun e w'=>e= .returned (.int .i64 r)∧Drawn0 w w':=by
 have HR0:=Za hr0
 have HC0:=Za hc0
 clear hr0 hc0
 have H:(if a1<0 then (if 0≤(wrap64 ((-1) - a1)) then (if (wrap64 ((-1) - a1))<(l0.length:Int) then (some (rd l0 (wrap64 ((-1) - a1)))) else (none)) else (none)) else (some a1))=some r:=h
 clear h
 by_cases c3:a1<0
 ·rw[if_pos c3] at H
  have c3b0:decide (a1<0)=true:=Zo c3
  clear c3
  obtain⟨ji4,hji4⟩:∃j_:Int,(wrap64 ((-1) - a1))=j_:=⟨_,rfl⟩
  replace H:(if 0≤(ji4) then (if (ji4)<(l0.length:Int) then (some (rd l0 (ji4))) else (none)) else (none))=some r:=by first|(rw[hji4] at H;exact H)|(simp only[hji4] at H ⊢;exact H)
  have hji4w:(IntKind.i64.wrap ((-1) - a1))=ji4:=(i64_w _).trans hji4
  by_cases c5:0≤(ji4)
  ·rw[if_pos c5] at H
   have c5b0:decide (0≤(ji4))=true:=Zo c5
   clear c5
   by_cases c6:(ji4)<(l0.length:Int)
   ·rw[if_pos c6] at H
    have c6b0:decide ((ji4)<(l0.length:Int))=true:=Zo c6
    clear c6
    obtain rfl:=Zn H
    have p454:0≤((ji4):Int):=Zq z7_11
    have q454:(ji4)<(l0.length:Int):=Zq z7_11
    obtain⟨ad454,e454,hx454_0⟩:=Kd.at_int HR0.out (ji4) p454 q454
    cases e454
    replace p454:=eq_true p454
    replace q454:=eq_true q454
    go_enter Tryz.func100,Tryz.ntmps100
    go_wp2
    go_ret
    exact⟨by first|rfl|(simp;done)|(simp only[←hji4]<;>(first|rfl|simp))|(simp[*];done),by repeat(first|exact Zv _|apply Zw)⟩
   ·rw[if_neg c6] at H
    exact absurd H (by simp)
  ·rw[if_neg c5] at H
   exact absurd H (by simp)
 ·rw[if_neg c3] at H
  have c3b0:decide (a1<0)=false:=Yg c3
  clear c3
  obtain rfl:=Zn H
  go_enter Tryz.func100,Tryz.ntmps100
  go_wp2
  go_ret
  exact⟨by first|rfl|(simp;done)|(simp[*];done),by repeat(first|exact Zv _|apply Zw)⟩
def impl_Clamp.f (a0:Int) (a1:Int) (a2:Int):Option (Int):=if a2<a1 then (some a1) else (some (mn (mx a0 a1) a2))
set_option maxHeartbeats 8000000 in
set_option maxRecDepth 100000 in
theorem impl_Clamp.calls (a0:Int) (a1:Int) (a2:Int) (r:Int) (w:World) (h:impl_Clamp.f a0 a1 a2=some r):
  Calls Tryz.prog 40 #[.int .i64 a0,.int .i64 a1,.int .i64 a2] w fun e w'=>e= .returned (.int .i64 r)∧Drawn0 w w':=by
 have H:(if a2<a1 then (some a1) else (some (mn (mx a0 a1) a2)))=some r:=h
 clear h
 by_cases c4:a2<a1
 ·rw[if_pos c4] at H
  have c4b0:decide (a2<a1)=true:=Zo c4
  clear c4
  obtain rfl:=Zn H
  go_enter Tryz.func40,Tryz.ntmps40
  go_wp2
  go_ret
  exact⟨by first|rfl|(simp;done)|(simp[*];done),by repeat(first|exact Zv _|apply Zw)⟩
 ·rw[if_neg c4] at H
  have c4b0:decide (a2<a1)=false:=Yg c4
  clear c4
  obtain⟨ji5,hji5⟩:∃j_:Int,(mx a0 a1)=j_:=⟨_,rfl⟩
  replace H:(some (mn (ji5) a2))=some r:=by first|(rw[hji5] at H;exact H)|(simp only[hji5] at H ⊢;exact H)
  have hji5_:(if a0<a1 then a1 else a0)=ji5:=hji5
  obtain⟨ji6,hji6⟩:∃j_:Int,(mn (ji5) a2)=j_:=⟨_,rfl⟩
  replace H:(some ji6)=some r:=by first|(rw[hji6] at H;exact H)|(simp only[hji6] at H ⊢;exact H)
  have hji6_:(if a2<(ji5) then a2 else (ji5))=ji6:=hji6
  obtain rfl:=Zn H
  go_enter Tryz.func40,Tryz.ntmps40
  go_wp2
  go_ret
  exact⟨by first|rfl|(simp;done)|(simp only[←hji5,←hji6]<;>(first|rfl|simp))|(simp[*];done),by repeat(first|exact Zv _|apply Zw)⟩
def impl_Saturate.f (a0:Int):Option (Int):=(impl_Clamp.f a0 (-1000000) 1000000).bind fun t455=>(some t455)
set_option maxHeartbeats 8000000 in
set_option maxRecDepth 100000 in
theorem impl_Saturate.calls (a0:Int) (r:Int) (w:World) (h:impl_Saturate.f a0=some r):
  Calls Tryz.prog 124 #[.int .i64 a0] w fun e w'=>e= .returned (.int .i64 r)∧Drawn0 w w':=by
 have H:((impl_Clamp.f a0 (-1000000) 1000000).bind fun t455=>(some t455))=some r:=h
 clear h
 replace H:=Zg H
 obtain⟨t455,A20,H⟩:=H
 replace H:(some t455)=some r:=H
 have A2:=Za A20
 clear A20
 obtain rfl:=Zn H
 go_enter Tryz.func124,Tryz.ntmps124
 go_wp2_with (first|((first|((with_reducible refine gate_callee (f:=40) rfl ?_);refine goesL_ (some 4) rfl rfl Tryz.func40 (by kernel_rfl) rfl #[.int .i64 a0,.int .i64 (-1000000),.int .i64 1000000] rfl z7_4 ?_;(with_reducible refine(impl_Clamp.calls a0 (-1000000) 1000000 t455 _ A2.out).mono ?_))|(go_at_call 40;(with_reducible refine(impl_Clamp.calls a0 (-1000000) 1000000 t455 _ A2.out).mono ?_)));rintro e w' ⟨rfl,⟨nd,rfl⟩⟩;(first|refine⟨_,rfl,?_⟩|skip)))
 go_ret
 exact⟨by first|rfl|(simp;done)|(simp[*];done),by repeat(first|exact Zv _|apply Zw)⟩
def impl_AddValues.f (a0:Int) (a1:Int):Option (Int):=(impl_Saturate.f a0).bind fun t456=>((impl_Saturate.f a1).bind fun t457=>((impl_Saturate.f (wrap64 (t456+t457))).bind fun t458=>(some t458)))
set_option maxHeartbeats 8000000 in
set_option maxRecDepth 100000 in
theorem impl_AddValues.calls (a0:Int) (a1:Int) (r:Int) (w:World) (h:impl_AddValues.f a0 a1=some r):
  Calls Tryz.prog 101 #[.int .i64 a0,.int .i64 a1] w fun e w'=>e= .returned (.int .i64 r)∧Drawn0 w w':=by
 have H:((impl_Saturate.f a0).bind fun t456=>((impl_Saturate.f a1).bind fun t457=>((impl_Saturate.f (wrap64 (t456+t457))).bind fun t458=>(some t458))))=some r:=h
 clear h
 replace H:=Zg H
 obtain⟨t456,A30,H⟩:=H
 replace H:((impl_Saturate.f a1).bind fun t457=>((impl_Saturate.f (wrap64 (t456+t457))).bind fun t458=>(some t458)))=some r:=H
 have A3:=Za A30
 clear A30
 replace H:=Zg H
 obtain⟨t457,A40,H⟩:=H
 replace H:((impl_Saturate.f (wrap64 (t456+t457))).bind fun t458=>(some t458))=some r:=H
 have A4:=Za A40
 clear A40
 replace H:=Zg H
 obtain⟨t458,A50,H⟩:=H
 replace H:(some t458)=some r:=H
 have A5:=Za A50
 clear A50
 obtain rfl:=Zn H
 go_enter Tryz.func101,Tryz.ntmps101
 go_wp2_with (first|((first|((with_reducible refine gate_callee (f:=124) rfl ?_);refine goesL_ (some 6) rfl rfl Tryz.func124 (by kernel_rfl) rfl #[.int .i64 a0] rfl z7_4 ?_;(with_reducible refine(impl_Saturate.calls a0 t456 _ A3.out).mono ?_))|(go_at_call 124;(with_reducible refine(impl_Saturate.calls a0 t456 _ A3.out).mono ?_)));rintro e w' ⟨rfl,⟨nd,rfl⟩⟩;(first|refine⟨_,rfl,?_⟩|skip))|((first|((with_reducible refine gate_callee (f:=124) rfl ?_);refine goesL_ (some 8) rfl rfl Tryz.func124 (by kernel_rfl) rfl #[.int .i64 a1] rfl z7_4 ?_;(with_reducible refine(impl_Saturate.calls a1 t457 _ A4.out).mono ?_))|(go_at_call 124;(with_reducible refine(impl_Saturate.calls a1 t457 _ A4.out).mono ?_)));rintro e w' ⟨rfl,⟨nd,rfl⟩⟩;(first|refine⟨_,rfl,?_⟩|skip))|((first|((with_reducible refine gate_callee (f:=124) rfl ?_);refine goesL_ (some 10) rfl rfl Tryz.func124 (by kernel_rfl) rfl #[.int .i64 (wrap64 (t456+t457))] rfl z7_4 ?_;(with_reducible refine(impl_Saturate.calls (wrap64 (t456+t457)) t458 _ A5.out).mono ?_))|(go_at_call 124;(with_reducible refine(impl_Saturate.calls (wrap64 (t456+t457)) t458 _ A5.out).mono ?_)));rintro e w' ⟨rfl,⟨nd,rfl⟩⟩;(first|refine⟨_,rfl,?_⟩|skip)))
 go_ret
 exact⟨by first|rfl|(simp;done)|(simp[*];done),by repeat(first|exact Zv _|apply Zw)⟩
def impl_SubValues.f (a0:Int) (a1:Int):Option (Int):=(impl_Saturate.f a0).bind fun t459=>((impl_Saturate.f a1).bind fun t460=>((impl_Saturate.f (wrap64 (t459 - t460))).bind fun t461=>(some t461)))
set_option maxHeartbeats 8000000 in
set_option maxRecDepth 100000 in
theorem impl_SubValues.calls (a0:Int) (a1:Int) (r:Int) (w:World) (h:impl_SubValues.f a0 a1=some r):
  Calls Tryz.prog 102 #[.int .i64 a0,.int .i64 a1] w fun e w'=>e= .returned (.int .i64 r)∧Drawn0 w w':=by
 have H:((impl_Saturate.f a0).bind fun t459=>((impl_Saturate.f a1).bind fun t460=>((impl_Saturate.f (wrap64 (t459 - t460))).bind fun t461=>(some t461))))=some r:=h
 clear h
 replace H:=Zg H
 obtain⟨t459,A30,H⟩:=H
 replace H:((impl_Saturate.f a1).bind fun t460=>((impl_Saturate.f (wrap64 (t459 - t460))).bind fun t461=>(some t461)))=some r:=H
 have A3:=Za A30
 clear A30
 replace H:=Zg H
 obtain⟨t460,A40,H⟩:=H
 replace H:((impl_Saturate.f (wrap64 (t459 - t460))).bind fun t461=>(some t461))=some r:=H
 have A4:=Za A40
 clear A40
 replace H:=Zg H
 obtain⟨t461,A50,H⟩:=H
 replace H:(some t461)=some r:=H
 have A5:=Za A50
 clear A50
 obtain rfl:=Zn H
 go_enter Tryz.func102,Tryz.ntmps102
 go_wp2_with (first|((first|((with_reducible refine gate_callee (f:=124) rfl ?_);refine goesL_ (some 6) rfl rfl Tryz.func124 (by kernel_rfl) rfl #[.int .i64 a0] rfl z7_4 ?_;(with_reducible refine(impl_Saturate.calls a0 t459 _ A3.out).mono ?_))|(go_at_call 124;(with_reducible refine(impl_Saturate.calls a0 t459 _ A3.out).mono ?_)));rintro e w' ⟨rfl,⟨nd,rfl⟩⟩;(first|refine⟨_,rfl,?_⟩|skip))|((first|((with_reducible refine gate_callee (f:=124) rfl ?_);refine goesL_ (some 8) rfl rfl Tryz.func124 (by kernel_rfl) rfl #[.int .i64 a1] rfl z7_4 ?_;(with_reducible refine(impl_Saturate.calls a1 t460 _ A4.out).mono ?_))|(go_at_call 124;(with_reducible refine(impl_Saturate.calls a1 t460 _ A4.out).mono ?_)));rintro e w' ⟨rfl,⟨nd,rfl⟩⟩;(first|refine⟨_,rfl,?_⟩|skip))|((first|((with_reducible refine gate_callee (f:=124) rfl ?_);refine goesL_ (some 10) rfl rfl Tryz.func124 (by kernel_rfl) rfl #[.int .i64 (wrap64 (t459 - t460))] rfl z7_4 ?_;(with_reducible refine(impl_Saturate.calls (wrap64 (t459 - t460)) t461 _ A5.out).mono ?_))|(go_at_call 124;(with_reducible refine(impl_Saturate.calls (wrap64 (t459 - t460)) t461 _ A5.out).mono ?_)));rintro e w' ⟨rfl,⟨nd,rfl⟩⟩;(first|refine⟨_,rfl,?_⟩|skip)))
 go_ret
 exact⟨by first|rfl|(simp;done)|(simp[*];done),by repeat(first|exact Zv _|apply Zw)⟩
def impl_MulValues.f (a0:Int) (a1:Int):Option (Int):=(impl_Saturate.f a0).bind fun t462=>((impl_Saturate.f a1).bind fun t463=>((impl_Saturate.f (wrap64 (t462*t463))).bind fun t464=>(some t464)))
set_option maxHeartbeats 8000000 in
set_option maxRecDepth 100000 in
theorem impl_MulValues.calls (a0:Int) (a1:Int) (r:Int) (w:World) (h:impl_MulValues.f a0 a1=some r):
  Calls Tryz.prog 103 #[.int .i64 a0,.int .i64 a1] w fun e w'=>e= .returned (.int .i64 r)∧Drawn0 w w':=by
 have H:((impl_Saturate.f a0).bind fun t462=>((impl_Saturate.f a1).bind fun t463=>((impl_Saturate.f (wrap64 (t462*t463))).bind fun t464=>(some t464))))=some r:=h
 clear h
 replace H:=Zg H
 obtain⟨t462,A30,H⟩:=H
 replace H:((impl_Saturate.f a1).bind fun t463=>((impl_Saturate.f (wrap64 (t462*t463))).bind fun t464=>(some t464)))=some r:=H
 have A3:=Za A30
 clear A30
 replace H:=Zg H
 obtain⟨t463,A40,H⟩:=H
 replace H:((impl_Saturate.f (wrap64 (t462*t463))).bind fun t464=>(some t464))=some r:=H
 have A4:=Za A40
 clear A40
 replace H:=Zg H
 obtain⟨t464,A50,H⟩:=H
 replace H:(some t464)=some r:=H
 have A5:=Za A50
 clear A50
 obtain rfl:=Zn H
 go_enter Tryz.func103,Tryz.ntmps103
 go_wp2_with (first|((first|((with_reducible refine gate_callee (f:=124) rfl ?_);refine goesL_ (some 6) rfl rfl Tryz.func124 (by kernel_rfl) rfl #[.int .i64 a0] rfl z7_4 ?_;(with_reducible refine(impl_Saturate.calls a0 t462 _ A3.out).mono ?_))|(go_at_call 124;(with_reducible refine(impl_Saturate.calls a0 t462 _ A3.out).mono ?_)));rintro e w' ⟨rfl,⟨nd,rfl⟩⟩;(first|refine⟨_,rfl,?_⟩|skip))|((first|((with_reducible refine gate_callee (f:=124) rfl ?_);refine goesL_ (some 8) rfl rfl Tryz.func124 (by kernel_rfl) rfl #[.int .i64 a1] rfl z7_4 ?_;(with_reducible refine(impl_Saturate.calls a1 t463 _ A4.out).mono ?_))|(go_at_call 124;(with_reducible refine(impl_Saturate.calls a1 t463 _ A4.out).mono ?_)));rintro e w' ⟨rfl,⟨nd,rfl⟩⟩;(first|refine⟨_,rfl,?_⟩|skip))|((first|((with_reducible refine gate_callee (f:=124) rfl ?_);refine goesL_ (some 10) rfl rfl Tryz.func124 (by kernel_rfl) rfl #[.int .i64 (wrap64 (t462*t463))] rfl z7_4 ?_;(with_reducible refine(impl_Saturate.calls (wrap64 (t462*t463)) t464 _ A5.out).mono ?_))|(go_at_call 124;(with_reducible refine(impl_Saturate.calls (wrap64 (t462*t463)) t464 _ A5.out).mono ?_)));rintro e w' ⟨rfl,⟨nd,rfl⟩⟩;(first|refine⟨_,rfl,?_⟩|skip)))
 go_ret
 exact⟨by first|rfl|(simp;done)|(simp[*];done),by repeat(first|exact Zv _|apply Zw)⟩
def impl_EvalExpr.j0:Nat→List Int→Bool→Int→Int→Int→Option (Int)
 |0,_,_,_,_,_=>none
 |k+1,x0,x14,x466000,x466001,x466002=>if x14=true then (some 0) else ((impl_operand.f x0 x466001).bind fun t468=>((impl_operand.f x0 x466002).bind fun t469=>(if x466000=1 then ((impl_AddValues.f t468 t469).bind fun t470=>(some t470)) else (if x466000=2 then ((impl_SubValues.f t468 t469).bind fun t471=>(some t471)) else (if x466000=3 then ((impl_MulValues.f t468 t469).bind fun t472=>(some t472)) else (if x466000=4 then (some (mn t468 t469)) else (if x466000=5 then (some (mx t468 t469)) else (if x466000=6 then ((impl_bit.f (decide (t468<t469))).bind fun t473=>(some t473)) else ((impl_bit.f (t468==t469)).bind fun t474=>(some t474))))))))))
def impl_EvalExpr.f (k:Nat) (l0:List Int) (a1_0:Int) (a1_1:Int) (a1_2:Int):Option (Int):=(impl_VarsOk.f l0).bind fun t466=>(if t466=true then ((impl_ExprOk.f a1_0 a1_1 a1_2).bind fun t467=>(impl_EvalExpr.j0 k l0 (!t467) a1_0 a1_1 a1_2)) else (impl_EvalExpr.j0 k l0 true a1_0 a1_1 a1_2))
set_option maxHeartbeats 8000000 in
set_option maxRecDepth 100000 in
theorem impl_EvalExpr.calls (k:Nat) (A0:Option Addr) (c0:Nat) (l0:List Int) (a1_0:Int) (a1_1:Int) (a1_2:Int) (r:Int) (w:World) (hr0:Kd.C (Kd.int .i64) w A0 l0.length l0) (hc0:l0.length≤c0) (h:impl_EvalExpr.f k l0 a1_0 a1_1 a1_2=some r):
  Calls Tryz.prog 67 #[.slice A0 l0.length c0,.agg #[.int .i64 a1_0,.int .i64 a1_1,.int .i64 a1_2]] w fun e w'=>e= .returned (.int .i64 r)∧Below w.heap.size w w':=by
 have hu72:=Tryz.underlying72
 have HR0:=Za hr0
 have HC0:=Za hc0
 clear hr0 hc0
 have HB:=Za (Yb w.heap.size w)
 have H:((impl_VarsOk.f l0).bind fun t466=>(if t466=true then ((impl_ExprOk.f a1_0 a1_1 a1_2).bind fun t467=>(impl_EvalExpr.j0 k l0 (!t467) a1_0 a1_1 a1_2)) else (impl_EvalExpr.j0 k l0 true a1_0 a1_1 a1_2)))=some r:=h
 clear h
 have HC3:=Za H
 clear H
 go_enter Tryz.func67,Tryz.ntmps67
 go_upto_region 1 with(first|((with_reducible refine Zr (N:=3) rfl ?_);refine Zy ?hg (N:=3) ?hd (cs:= #[.int .i64 a1_0,.int .i64 a1_1,.int .i64 a1_2]) (t:=72) ?hr ?_;(case hd=>rfl);(case hg=>rfl);(case hr=>exact z7_9);intro gb465 hg w4 hbox hb;have BK465:=Za (hbox);have GW465:=Za ((z7_14:w.heap.size≤gb465));have GE465:=Za ((z7_14:w.heap.size≤gb465));replace HB:=Za (Zk z7_2 hb);clear hb hbox hg))
 repeat(go_quiet (first|((with_reducible refine Zr (N:=3) rfl ?_);refine Zy ?hg (N:=3) ?hd (cs:= #[.int .i64 a1_0,.int .i64 a1_1,.int .i64 a1_2]) (t:=72) ?hr ?_;(case hd=>rfl);(case hg=>rfl);(case hr=>exact z7_9);intro gb465 hg w4 hbox hb;have BK465:=Za (hbox);have GW465:=Za ((z7_14:w.heap.size≤gb465));have GE465:=Za ((z7_14:w.heap.size≤gb465));replace HB:=Za (Zk z7_2 hb);clear hb hbox hg));go_upto_region 1 with(first|((with_reducible refine Zr (N:=3) rfl ?_);refine Zy ?hg (N:=3) ?hd (cs:= #[.int .i64 a1_0,.int .i64 a1_1,.int .i64 a1_2]) (t:=72) ?hr ?_;(case hd=>rfl);(case hg=>rfl);(case hr=>exact z7_9);intro gb465 hg w4 hbox hb;have BK465:=Za (hbox);have GW465:=Za ((z7_14:w.heap.size≤gb465));have GE465:=Za ((z7_14:w.heap.size≤gb465));replace HB:=Za (Zk z7_2 hb);clear hb hbox hg)))
 (try simp only[Act.put,Zs,Zt,Zu])
 go_cut [14] (fun v14 wc=>∃(kq:Nat) (x14_2:Bool),v14= .bool x14_2∧Aside0 (impl_EvalExpr.j0 kq l0 x14_2 a1_0 a1_1 a1_2=some r)∧Aside0 (kq≤k)∧Aside0 (wc.heap[gb465]? =some (.cells #[.int .i64 a1_0,.int .i64 a1_1,.int .i64 a1_2] 72 (0,0)))∧Aside0 (Below w.heap.size w wc))
 case first=>
  have H:=HC3.out
  clear HC3
  replace H:=Zg H
  obtain⟨t466,A50,H⟩:=H
  replace H:(if t466=true then ((impl_ExprOk.f a1_0 a1_1 a1_2).bind fun t467=>(impl_EvalExpr.j0 k l0 (!t467) a1_0 a1_1 a1_2)) else (impl_EvalExpr.j0 k l0 true a1_0 a1_1 a1_2))=some r:=H
  have A5:=Za A50
  clear A50
  by_cases c6:t466=true
  ·subst c6
   rw[if_pos rfl] at H
   replace H:=Zg H
   obtain⟨t467,A70,H⟩:=H
   replace H:(impl_EvalExpr.j0 k l0 (!t467) a1_0 a1_1 a1_2)=some r:=H
   have A7:=Za A70
   clear A70
   have H':=Za H
   clear H
   go_wp2_with (first|(go_at_call 98;(with_reducible refine(impl_VarsOk.calls _ _ l0 true _ ?side1 ?side2 A5.out).mono ?_);(case side1=>exact z7_1);(case side2=>exact z7_7);rintro e w' ⟨rfl,⟨nd,rfl⟩⟩;(try first|exact⟨rfl,_,Zp _ _ _⟩|exact⟨rfl,_,Eq.trans (Zp _ _ _) (congrArg (World.drewN _) (Nat.add_assoc _ _ _))⟩);have hcz8_0:w4.cell? ⟨gb465,0,none⟩=some (.int .i64 a1_0):=(Zb BK465.out 0).trans rfl;have hcz8_1:w4.cell? ⟨gb465,1,none⟩=some (.int .i64 a1_1):=(Zb BK465.out 1).trans rfl;have hcz8_2:w4.cell? ⟨gb465,2,none⟩=some (.int .i64 a1_2):=(Zb BK465.out 2).trans rfl;have hfz8_0:=Zc BK465.out 0;have hfz8_1:=Zc BK465.out 1;have hfz8_2:=Zc BK465.out 2)|(go_at_call 99;(with_reducible refine(impl_ExprOk.calls a1_0 a1_1 a1_2 t467 _ A7.out).mono ?_);rintro e w9 ⟨rfl,hb⟩;replace BK465:=Za (Zi (g:=gb465) (o:= .cells #[.int .i64 a1_0,.int .i64 a1_1,.int .i64 a1_2] 72 (0,0)) z7_12 hb);replace HB:=Za (Zk z7_3 hb);(try clear hb);(try clear hb2);(try clear hk);(try clear hi)))
   repeat(go_quiet (first|(go_at_call 98;(with_reducible refine(impl_VarsOk.calls _ _ l0 true _ ?side1 ?side2 A5.out).mono ?_);(case side1=>exact z7_1);(case side2=>exact z7_7);rintro e w' ⟨rfl,⟨nd,rfl⟩⟩;(try first|exact⟨rfl,_,Zp _ _ _⟩|exact⟨rfl,_,Eq.trans (Zp _ _ _) (congrArg (World.drewN _) (Nat.add_assoc _ _ _))⟩);have hcz8_0:w4.cell? ⟨gb465,0,none⟩=some (.int .i64 a1_0):=(Zb BK465.out 0).trans rfl;have hcz8_1:w4.cell? ⟨gb465,1,none⟩=some (.int .i64 a1_1):=(Zb BK465.out 1).trans rfl;have hcz8_2:w4.cell? ⟨gb465,2,none⟩=some (.int .i64 a1_2):=(Zb BK465.out 2).trans rfl;have hfz8_0:=Zc BK465.out 0;have hfz8_1:=Zc BK465.out 1;have hfz8_2:=Zc BK465.out 2)|(go_at_call 99;(with_reducible refine(impl_ExprOk.calls a1_0 a1_1 a1_2 t467 _ A7.out).mono ?_);rintro e w9 ⟨rfl,hb⟩;replace BK465:=Za (Zi (g:=gb465) (o:= .cells #[.int .i64 a1_0,.int .i64 a1_1,.int .i64 a1_2] 72 (0,0)) z7_12 hb);replace HB:=Za (Zk z7_3 hb);(try clear hb);(try clear hb2);(try clear hk);(try clear hi)));try go_wp2_with (first|(go_at_call 98;(with_reducible refine(impl_VarsOk.calls _ _ l0 true _ ?side1 ?side2 A5.out).mono ?_);(case side1=>exact z7_1);(case side2=>exact z7_7);rintro e w' ⟨rfl,⟨nd,rfl⟩⟩;(try first|exact⟨rfl,_,Zp _ _ _⟩|exact⟨rfl,_,Eq.trans (Zp _ _ _) (congrArg (World.drewN _) (Nat.add_assoc _ _ _))⟩);have hcz8_0:w4.cell? ⟨gb465,0,none⟩=some (.int .i64 a1_0):=(Zb BK465.out 0).trans rfl;have hcz8_1:w4.cell? ⟨gb465,1,none⟩=some (.int .i64 a1_1):=(Zb BK465.out 1).trans rfl;have hcz8_2:w4.cell? ⟨gb465,2,none⟩=some (.int .i64 a1_2):=(Zb BK465.out 2).trans rfl;have hfz8_0:=Zc BK465.out 0;have hfz8_1:=Zc BK465.out 1;have hfz8_2:=Zc BK465.out 2)|(go_at_call 99;(with_reducible refine(impl_ExprOk.calls a1_0 a1_1 a1_2 t467 _ A7.out).mono ?_);rintro e w9 ⟨rfl,hb⟩;replace BK465:=Za (Zi (g:=gb465) (o:= .cells #[.int .i64 a1_0,.int .i64 a1_1,.int .i64 a1_2] 72 (0,0)) z7_12 hb);replace HB:=Za (Zk z7_3 hb);(try clear hb);(try clear hb2);(try clear hk);(try clear hi))))
   go_meet
   case rel=>exact⟨_,(!t467),(by first|rfl|(simp;done)|(simp[*];done)),H',⟨by first|omega|exact Nat.le_refl _⟩,⟨by(with_reducible repeat(first|refine blk_drewN ?_ _|refine blk_drew ?_|refine blk_alloc ?_ _));exact BK465.out⟩,⟨by repeat(first|(with_reducible first|exact HB.out|apply Zh|apply Zf|apply Ze|refine Zd ?_ GE465.out)|exact HB.out)⟩⟩
  ·replace c6:=Bool.eq_false_iff.mpr c6
   subst c6
   rw[if_neg (show ¬(false=true) by decide)] at H
   have H':=Za H
   clear H
   go_wp2_with (first|(go_at_call 98;(with_reducible refine(impl_VarsOk.calls _ _ l0 false _ ?side1 ?side2 A5.out).mono ?_);(case side1=>exact z7_1);(case side2=>exact z7_7);rintro e w' ⟨rfl,⟨nd,rfl⟩⟩;(try first|exact⟨rfl,_,Zp _ _ _⟩|exact⟨rfl,_,Eq.trans (Zp _ _ _) (congrArg (World.drewN _) (Nat.add_assoc _ _ _))⟩)))
   repeat(go_quiet (first|(go_at_call 98;(with_reducible refine(impl_VarsOk.calls _ _ l0 false _ ?side1 ?side2 A5.out).mono ?_);(case side1=>exact z7_1);(case side2=>exact z7_7);rintro e w' ⟨rfl,⟨nd,rfl⟩⟩;(try first|exact⟨rfl,_,Zp _ _ _⟩|exact⟨rfl,_,Eq.trans (Zp _ _ _) (congrArg (World.drewN _) (Nat.add_assoc _ _ _))⟩)));try go_wp2_with (first|(go_at_call 98;(with_reducible refine(impl_VarsOk.calls _ _ l0 false _ ?side1 ?side2 A5.out).mono ?_);(case side1=>exact z7_1);(case side2=>exact z7_7);rintro e w' ⟨rfl,⟨nd,rfl⟩⟩;(try first|exact⟨rfl,_,Zp _ _ _⟩|exact⟨rfl,_,Eq.trans (Zp _ _ _) (congrArg (World.drewN _) (Nat.add_assoc _ _ _))⟩))))
   go_meet
   case rel=>exact⟨_,(true),(by first|rfl|(simp;done)|(simp[*];done)),H',⟨by first|omega|exact Nat.le_refl _⟩,⟨by(with_reducible repeat(first|refine blk_drewN ?_ _|refine blk_drew ?_|refine blk_alloc ?_ _));exact BK465.out⟩,⟨by repeat(first|(with_reducible first|exact HB.out|apply Zh|apply Zf|apply Ze|refine Zd ?_ GE465.out)|exact HB.out)⟩⟩
 case rest=>
  clear HC3
  obtain⟨kq,x14_2,rfl,HA,HJ2,BK465,HB⟩:=hcut
  cases kq with
  |zero=>exact absurd HA.out (by simp[impl_EvalExpr.j0])
  |succ kj2=>
   have H:=HA.out
   clear HA
   simp only[impl_EvalExpr.j0] at H
   by_cases c10:x14_2=true
   ·subst c10
    rw[if_pos rfl] at H
    obtain rfl:=Zn H
    go_wp2
    repeat(go_quiet (fail);try go_wp2)
    go_ret
    exact⟨by first|rfl|(simp[errW_none,errW_some]<;>rfl)|(simp[*,errW_none,errW_some]<;>rfl)|(simp[*,errW_none,errW_some,i64_w];done),by repeat(first|(with_reducible first|exact HB.out|apply Zh|apply Zf|apply Ze|refine Zd ?_ GE465.out)|exact HB.out)⟩
   ·replace c10:=Bool.eq_false_iff.mpr c10
    subst c10
    rw[if_neg (show ¬(false=true) by decide)] at H
    replace H:=Zg H
    obtain⟨t468,A110,H⟩:=H
    replace H:((impl_operand.f l0 a1_2).bind fun t469=>(if a1_0=1 then ((impl_AddValues.f t468 t469).bind fun t470=>(some t470)) else (if a1_0=2 then ((impl_SubValues.f t468 t469).bind fun t471=>(some t471)) else (if a1_0=3 then ((impl_MulValues.f t468 t469).bind fun t472=>(some t472)) else (if a1_0=4 then (some (mn t468 t469)) else (if a1_0=5 then (some (mx t468 t469)) else (if a1_0=6 then ((impl_bit.f (decide (t468<t469))).bind fun t473=>(some t473)) else ((impl_bit.f (t468==t469)).bind fun t474=>(some t474)))))))))=some r:=H
    have A11:=Za A110
    clear A110
    replace H:=Zg H
    obtain⟨t469,A120,H⟩:=H
    replace H:(if a1_0=1 then ((impl_AddValues.f t468 t469).bind fun t470=>(some t470)) else (if a1_0=2 then ((impl_SubValues.f t468 t469).bind fun t471=>(some t471)) else (if a1_0=3 then ((impl_MulValues.f t468 t469).bind fun t472=>(some t472)) else (if a1_0=4 then (some (mn t468 t469)) else (if a1_0=5 then (some (mx t468 t469)) else (if a1_0=6 then ((impl_bit.f (decide (t468<t469))).bind fun t473=>(some t473)) else ((impl_bit.f (t468==t469)).bind fun t474=>(some t474))))))))=some r:=H
    have A12:=Za A120
    clear A120
    by_cases c13:a1_0=1
    ·rw[if_pos c13] at H
     have c13b0:(a1_0==1)=true:=beq_iff_eq.mpr c13
     have c13b1:(a1_0 != 1)=false:=bne_eq_false_iff_eq.mpr c13
     clear c13
     replace H:=Zg H
     obtain⟨t470,A140,H⟩:=H
     replace H:(some t470)=some r:=H
     have A14:=Za A140
     clear A140
     obtain rfl:=Zn H
     have hcz15_0:wc.cell? ⟨gb465,0,none⟩=some (.int .i64 a1_0):=(Zb BK465.out 0).trans rfl
     have hcz15_1:wc.cell? ⟨gb465,1,none⟩=some (.int .i64 a1_1):=(Zb BK465.out 1).trans rfl
     have hcz15_2:wc.cell? ⟨gb465,2,none⟩=some (.int .i64 a1_2):=(Zb BK465.out 2).trans rfl
     have hfz15_0:=Zc BK465.out 0
     have hfz15_1:=Zc BK465.out 1
     have hfz15_2:=Zc BK465.out 2
     go_wp2_with (first|(go_at_call 100;(with_reducible refine(impl_operand.calls _ _ l0 a1_1 t468 _ ?side1 ?side2 A11.out).mono ?_);(case side1=>exact z7_1);(case side2=>exact z7_7);rintro e w' ⟨rfl,⟨nd,rfl⟩⟩;(try first|exact⟨rfl,_,Zp _ _ _⟩|exact⟨rfl,_,Eq.trans (Zp _ _ _) (congrArg (World.drewN _) (Nat.add_assoc _ _ _))⟩))|(go_at_call 100;(with_reducible refine(impl_operand.calls _ _ l0 a1_2 t469 _ ?side1 ?side2 A12.out).mono ?_);(case side1=>exact z7_0);(case side2=>exact z7_7);rintro e w' ⟨rfl,⟨nd,rfl⟩⟩;(try first|exact⟨rfl,_,Zp _ _ _⟩|exact⟨rfl,_,Eq.trans (Zp _ _ _) (congrArg (World.drewN _) (Nat.add_assoc _ _ _))⟩))|(go_at_call 101;(with_reducible refine(impl_AddValues.calls t468 t469 t470 _ A14.out).mono ?_);rintro e w' ⟨rfl,⟨nd,rfl⟩⟩;(try first|exact⟨rfl,_,Zp _ _ _⟩|exact⟨rfl,_,Eq.trans (Zp _ _ _) (congrArg (World.drewN _) (Nat.add_assoc _ _ _))⟩)))
     repeat(go_quiet (first|(go_at_call 100;(with_reducible refine(impl_operand.calls _ _ l0 a1_1 t468 _ ?side1 ?side2 A11.out).mono ?_);(case side1=>exact z7_1);(case side2=>exact z7_7);rintro e w' ⟨rfl,⟨nd,rfl⟩⟩;(try first|exact⟨rfl,_,Zp _ _ _⟩|exact⟨rfl,_,Eq.trans (Zp _ _ _) (congrArg (World.drewN _) (Nat.add_assoc _ _ _))⟩))|(go_at_call 100;(with_reducible refine(impl_operand.calls _ _ l0 a1_2 t469 _ ?side1 ?side2 A12.out).mono ?_);(case side1=>exact z7_0);(case side2=>exact z7_7);rintro e w' ⟨rfl,⟨nd,rfl⟩⟩;(try first|exact⟨rfl,_,Zp _ _ _⟩|exact⟨rfl,_,Eq.trans (Zp _ _ _) (congrArg (World.drewN _) (Nat.add_assoc _ _ _))⟩))|(go_at_call 101;(with_reducible refine(impl_AddValues.calls t468 t469 t470 _ A14.out).mono ?_);rintro e w' ⟨rfl,⟨nd,rfl⟩⟩;(try first|exact⟨rfl,_,Zp _ _ _⟩|exact⟨rfl,_,Eq.trans (Zp _ _ _) (congrArg (World.drewN _) (Nat.add_assoc _ _ _))⟩)));try go_wp2_with (first|(go_at_call 100;(with_reducible refine(impl_operand.calls _ _ l0 a1_1 t468 _ ?side1 ?side2 A11.out).mono ?_);(case side1=>exact z7_1);(case side2=>exact z7_7);rintro e w' ⟨rfl,⟨nd,rfl⟩⟩;(try first|exact⟨rfl,_,Zp _ _ _⟩|exact⟨rfl,_,Eq.trans (Zp _ _ _) (congrArg (World.drewN _) (Nat.add_assoc _ _ _))⟩))|(go_at_call 100;(with_reducible refine(impl_operand.calls _ _ l0 a1_2 t469 _ ?side1 ?side2 A12.out).mono ?_);(case side1=>exact z7_0);(case side2=>exact z7_7);rintro e w' ⟨rfl,⟨nd,rfl⟩⟩;(try first|exact⟨rfl,_,Zp _ _ _⟩|exact⟨rfl,_,Eq.trans (Zp _ _ _) (congrArg (World.drewN _) (Nat.add_assoc _ _ _))⟩))|(go_at_call 101;(with_reducible refine(impl_AddValues.calls t468 t469 t470 _ A14.out).mono ?_);rintro e w' ⟨rfl,⟨nd,rfl⟩⟩;(try first|exact⟨rfl,_,Zp _ _ _⟩|exact⟨rfl,_,Eq.trans (Zp _ _ _) (congrArg (World.drewN _) (Nat.add_assoc _ _ _))⟩))))
     go_ret
     exact⟨by first|rfl|(simp[errW_none,errW_some]<;>rfl)|(simp[*,errW_none,errW_some]<;>rfl)|(simp[*,errW_none,errW_some,i64_w];done),by repeat(first|(with_reducible first|exact HB.out|apply Zh|apply Zf|apply Ze|refine Zd ?_ GE465.out)|exact HB.out)⟩
    ·rw[if_neg c13] at H
     have c13b0:(a1_0==1)=false:=beq_eq_false_iff_ne.mpr c13
     have c13b1:(a1_0 != 1)=true:=bne_iff_ne.mpr c13
     by_cases c16:a1_0=2
     ·rw[if_pos c16] at H
      have c16b0:(a1_0==2)=true:=beq_iff_eq.mpr c16
      have c16b1:(a1_0 != 2)=false:=bne_eq_false_iff_eq.mpr c16
      clear c16
      replace H:=Zg H
      obtain⟨t471,A170,H⟩:=H
      replace H:(some t471)=some r:=H
      have A17:=Za A170
      clear A170
      obtain rfl:=Zn H
      have hcz18_0:wc.cell? ⟨gb465,0,none⟩=some (.int .i64 a1_0):=(Zb BK465.out 0).trans rfl
      have hcz18_1:wc.cell? ⟨gb465,1,none⟩=some (.int .i64 a1_1):=(Zb BK465.out 1).trans rfl
      have hcz18_2:wc.cell? ⟨gb465,2,none⟩=some (.int .i64 a1_2):=(Zb BK465.out 2).trans rfl
      have hfz18_0:=Zc BK465.out 0
      have hfz18_1:=Zc BK465.out 1
      have hfz18_2:=Zc BK465.out 2
      go_wp2_with (first|(go_at_call 100;(with_reducible refine(impl_operand.calls _ _ l0 a1_1 t468 _ ?side1 ?side2 A11.out).mono ?_);(case side1=>exact z7_1);(case side2=>exact z7_7);rintro e w' ⟨rfl,⟨nd,rfl⟩⟩;(try first|exact⟨rfl,_,Zp _ _ _⟩|exact⟨rfl,_,Eq.trans (Zp _ _ _) (congrArg (World.drewN _) (Nat.add_assoc _ _ _))⟩))|(go_at_call 100;(with_reducible refine(impl_operand.calls _ _ l0 a1_2 t469 _ ?side1 ?side2 A12.out).mono ?_);(case side1=>exact z7_0);(case side2=>exact z7_7);rintro e w' ⟨rfl,⟨nd,rfl⟩⟩;(try first|exact⟨rfl,_,Zp _ _ _⟩|exact⟨rfl,_,Eq.trans (Zp _ _ _) (congrArg (World.drewN _) (Nat.add_assoc _ _ _))⟩))|(go_at_call 102;(with_reducible refine(impl_SubValues.calls t468 t469 t471 _ A17.out).mono ?_);rintro e w' ⟨rfl,⟨nd,rfl⟩⟩;(try first|exact⟨rfl,_,Zp _ _ _⟩|exact⟨rfl,_,Eq.trans (Zp _ _ _) (congrArg (World.drewN _) (Nat.add_assoc _ _ _))⟩)))
      repeat(go_quiet (first|(go_at_call 100;(with_reducible refine(impl_operand.calls _ _ l0 a1_1 t468 _ ?side1 ?side2 A11.out).mono ?_);(case side1=>exact z7_1);(case side2=>exact z7_7);rintro e w' ⟨rfl,⟨nd,rfl⟩⟩;(try first|exact⟨rfl,_,Zp _ _ _⟩|exact⟨rfl,_,Eq.trans (Zp _ _ _) (congrArg (World.drewN _) (Nat.add_assoc _ _ _))⟩))|(go_at_call 100;(with_reducible refine(impl_operand.calls _ _ l0 a1_2 t469 _ ?side1 ?side2 A12.out).mono ?_);(case side1=>exact z7_0);(case side2=>exact z7_7);rintro e w' ⟨rfl,⟨nd,rfl⟩⟩;(try first|exact⟨rfl,_,Zp _ _ _⟩|exact⟨rfl,_,Eq.trans (Zp _ _ _) (congrArg (World.drewN _) (Nat.add_assoc _ _ _))⟩))|(go_at_call 102;(with_reducible refine(impl_SubValues.calls t468 t469 t471 _ A17.out).mono ?_);rintro e w' ⟨rfl,⟨nd,rfl⟩⟩;(try first|exact⟨rfl,_,Zp _ _ _⟩|exact⟨rfl,_,Eq.trans (Zp _ _ _) (congrArg (World.drewN _) (Nat.add_assoc _ _ _))⟩)));try go_wp2_with (first|(go_at_call 100;(with_reducible refine(impl_operand.calls _ _ l0 a1_1 t468 _ ?side1 ?side2 A11.out).mono ?_);(case side1=>exact z7_1);(case side2=>exact z7_7);rintro e w' ⟨rfl,⟨nd,rfl⟩⟩;(try first|exact⟨rfl,_,Zp _ _ _⟩|exact⟨rfl,_,Eq.trans (Zp _ _ _) (congrArg (World.drewN _) (Nat.add_assoc _ _ _))⟩))|(go_at_call 100;(with_reducible refine(impl_operand.calls _ _ l0 a1_2 t469 _ ?side1 ?side2 A12.out).mono ?_);(case side1=>exact z7_0);(case side2=>exact z7_7);rintro e w' ⟨rfl,⟨nd,rfl⟩⟩;(try first|exact⟨rfl,_,Zp _ _ _⟩|exact⟨rfl,_,Eq.trans (Zp _ _ _) (congrArg (World.drewN _) (Nat.add_assoc _ _ _))⟩))|(go_at_call 102;(with_reducible refine(impl_SubValues.calls t468 t469 t471 _ A17.out).mono ?_);rintro e w' ⟨rfl,⟨nd,rfl⟩⟩;(try first|exact⟨rfl,_,Zp _ _ _⟩|exact⟨rfl,_,Eq.trans (Zp _ _ _) (congrArg (World.drewN _) (Nat.add_assoc _ _ _))⟩))))
      go_ret
      exact⟨by first|rfl|(simp[errW_none,errW_some]<;>rfl)|(simp[*,errW_none,errW_some]<;>rfl)|(simp[*,errW_none,errW_some,i64_w];done),by repeat(first|(with_reducible first|exact HB.out|apply Zh|apply Zf|apply Ze|refine Zd ?_ GE465.out)|exact HB.out)⟩
     ·rw[if_neg c16] at H
      have c16b0:(a1_0==2)=false:=beq_eq_false_iff_ne.mpr c16
      have c16b1:(a1_0 != 2)=true:=bne_iff_ne.mpr c16
      by_cases c19:a1_0=3
      ·rw[if_pos c19] at H
       have c19b0:(a1_0==3)=true:=beq_iff_eq.mpr c19
       have c19b1:(a1_0 != 3)=false:=bne_eq_false_iff_eq.mpr c19
       clear c19
       replace H:=Zg H
       obtain⟨t472,A200,H⟩:=H
       replace H:(some t472)=some r:=H
       have A20:=Za A200
       clear A200
       obtain rfl:=Zn H
       have hcz21_0:wc.cell? ⟨gb465,0,none⟩=some (.int .i64 a1_0):=(Zb BK465.out 0).trans rfl
       have hcz21_1:wc.cell? ⟨gb465,1,none⟩=some (.int .i64 a1_1):=(Zb BK465.out 1).trans rfl
       have hcz21_2:wc.cell? ⟨gb465,2,none⟩=some (.int .i64 a1_2):=(Zb BK465.out 2).trans rfl
       have hfz21_0:=Zc BK465.out 0
       have hfz21_1:=Zc BK465.out 1
       have hfz21_2:=Zc BK465.out 2
       go_wp2_with (first|(go_at_call 100;(with_reducible refine(impl_operand.calls _ _ l0 a1_1 t468 _ ?side1 ?side2 A11.out).mono ?_);(case side1=>exact z7_1);(case side2=>exact z7_7);rintro e w' ⟨rfl,⟨nd,rfl⟩⟩;(try first|exact⟨rfl,_,Zp _ _ _⟩|exact⟨rfl,_,Eq.trans (Zp _ _ _) (congrArg (World.drewN _) (Nat.add_assoc _ _ _))⟩))|(go_at_call 100;(with_reducible refine(impl_operand.calls _ _ l0 a1_2 t469 _ ?side1 ?side2 A12.out).mono ?_);(case side1=>exact z7_0);(case side2=>exact z7_7);rintro e w' ⟨rfl,⟨nd,rfl⟩⟩;(try first|exact⟨rfl,_,Zp _ _ _⟩|exact⟨rfl,_,Eq.trans (Zp _ _ _) (congrArg (World.drewN _) (Nat.add_assoc _ _ _))⟩))|(go_at_call 103;(with_reducible refine(impl_MulValues.calls t468 t469 t472 _ A20.out).mono ?_);rintro e w' ⟨rfl,⟨nd,rfl⟩⟩;(try first|exact⟨rfl,_,Zp _ _ _⟩|exact⟨rfl,_,Eq.trans (Zp _ _ _) (congrArg (World.drewN _) (Nat.add_assoc _ _ _))⟩)))
       repeat(go_quiet (first|(go_at_call 100;(with_reducible refine(impl_operand.calls _ _ l0 a1_1 t468 _ ?side1 ?side2 A11.out).mono ?_);(case side1=>exact z7_1);(case side2=>exact z7_7);rintro e w' ⟨rfl,⟨nd,rfl⟩⟩;(try first|exact⟨rfl,_,Zp _ _ _⟩|exact⟨rfl,_,Eq.trans (Zp _ _ _) (congrArg (World.drewN _) (Nat.add_assoc _ _ _))⟩))|(go_at_call 100;(with_reducible refine(impl_operand.calls _ _ l0 a1_2 t469 _ ?side1 ?side2 A12.out).mono ?_);(case side1=>exact z7_0);(case side2=>exact z7_7);rintro e w' ⟨rfl,⟨nd,rfl⟩⟩;(try first|exact⟨rfl,_,Zp _ _ _⟩|exact⟨rfl,_,Eq.trans (Zp _ _ _) (congrArg (World.drewN _) (Nat.add_assoc _ _ _))⟩))|(go_at_call 103;(with_reducible refine(impl_MulValues.calls t468 t469 t472 _ A20.out).mono ?_);rintro e w' ⟨rfl,⟨nd,rfl⟩⟩;(try first|exact⟨rfl,_,Zp _ _ _⟩|exact⟨rfl,_,Eq.trans (Zp _ _ _) (congrArg (World.drewN _) (Nat.add_assoc _ _ _))⟩)));try go_wp2_with (first|(go_at_call 100;(with_reducible refine(impl_operand.calls _ _ l0 a1_1 t468 _ ?side1 ?side2 A11.out).mono ?_);(case side1=>exact z7_1);(case side2=>exact z7_7);rintro e w' ⟨rfl,⟨nd,rfl⟩⟩;(try first|exact⟨rfl,_,Zp _ _ _⟩|exact⟨rfl,_,Eq.trans (Zp _ _ _) (congrArg (World.drewN _) (Nat.add_assoc _ _ _))⟩))|(go_at_call 100;(with_reducible refine(impl_operand.calls _ _ l0 a1_2 t469 _ ?side1 ?side2 A12.out).mono ?_);(case side1=>exact z7_0);(case side2=>exact z7_7);rintro e w' ⟨rfl,⟨nd,rfl⟩⟩;(try first|exact⟨rfl,_,Zp _ _ _⟩|exact⟨rfl,_,Eq.trans (Zp _ _ _) (congrArg (World.drewN _) (Nat.add_assoc _ _ _))⟩))|(go_at_call 103;(with_reducible refine(impl_MulValues.calls t468 t469 t472 _ A20.out).mono ?_);rintro e w' ⟨rfl,⟨nd,rfl⟩⟩;(try first|exact⟨rfl,_,Zp _ _ _⟩|exact⟨rfl,_,Eq.trans (Zp _ _ _) (congrArg (World.drewN _) (Nat.add_assoc _ _ _))⟩))))
       go_ret
       exact⟨by first|rfl|(simp[errW_none,errW_some]<;>rfl)|(simp[*,errW_none,errW_some]<;>rfl)|(simp[*,errW_none,errW_some,i64_w];done),by repeat(first|(with_reducible first|exact HB.out|apply Zh|apply Zf|apply Ze|refine Zd ?_ GE465.out)|exact HB.out)⟩
      ·rw[if_neg c19] at H
       have c19b0:(a1_0==3)=false:=beq_eq_false_iff_ne.mpr c19
       have c19b1:(a1_0 != 3)=true:=bne_iff_ne.mpr c19
       by_cases c22:a1_0=4
       ·rw[if_pos c22] at H
        have c22b0:(a1_0==4)=true:=beq_iff_eq.mpr c22
        have c22b1:(a1_0 != 4)=false:=bne_eq_false_iff_eq.mpr c22
        clear c22
        obtain⟨ji23,hji23⟩:∃j_:Int,(mn t468 t469)=j_:=⟨_,rfl⟩
        replace H:(some ji23)=some r:=by first|(rw[hji23] at H;exact H)|(simp only[hji23] at H ⊢;exact H)
        (try rw[hji23] at A11)
        (try rw[hji23] at A12)
        have hji23_:(if t469<t468 then t469 else t468)=ji23:=hji23
        obtain rfl:=Zn H
        have hcz24_0:wc.cell? ⟨gb465,0,none⟩=some (.int .i64 a1_0):=(Zb BK465.out 0).trans rfl
        have hcz24_1:wc.cell? ⟨gb465,1,none⟩=some (.int .i64 a1_1):=(Zb BK465.out 1).trans rfl
        have hcz24_2:wc.cell? ⟨gb465,2,none⟩=some (.int .i64 a1_2):=(Zb BK465.out 2).trans rfl
        have hfz24_0:=Zc BK465.out 0
        have hfz24_1:=Zc BK465.out 1
        have hfz24_2:=Zc BK465.out 2
        go_wp2_with (first|(go_at_call 100;(with_reducible refine(impl_operand.calls _ _ l0 a1_1 t468 _ ?side1 ?side2 A11.out).mono ?_);(case side1=>exact z7_1);(case side2=>exact z7_7);rintro e w' ⟨rfl,⟨nd,rfl⟩⟩;(try first|exact⟨rfl,_,Zp _ _ _⟩|exact⟨rfl,_,Eq.trans (Zp _ _ _) (congrArg (World.drewN _) (Nat.add_assoc _ _ _))⟩))|(go_at_call 100;(with_reducible refine(impl_operand.calls _ _ l0 a1_2 t469 _ ?side1 ?side2 A12.out).mono ?_);(case side1=>exact z7_0);(case side2=>exact z7_7);rintro e w' ⟨rfl,⟨nd,rfl⟩⟩;(try first|exact⟨rfl,_,Zp _ _ _⟩|exact⟨rfl,_,Eq.trans (Zp _ _ _) (congrArg (World.drewN _) (Nat.add_assoc _ _ _))⟩)))
        repeat(go_quiet (first|(go_at_call 100;(with_reducible refine(impl_operand.calls _ _ l0 a1_1 t468 _ ?side1 ?side2 A11.out).mono ?_);(case side1=>exact z7_1);(case side2=>exact z7_7);rintro e w' ⟨rfl,⟨nd,rfl⟩⟩;(try first|exact⟨rfl,_,Zp _ _ _⟩|exact⟨rfl,_,Eq.trans (Zp _ _ _) (congrArg (World.drewN _) (Nat.add_assoc _ _ _))⟩))|(go_at_call 100;(with_reducible refine(impl_operand.calls _ _ l0 a1_2 t469 _ ?side1 ?side2 A12.out).mono ?_);(case side1=>exact z7_0);(case side2=>exact z7_7);rintro e w' ⟨rfl,⟨nd,rfl⟩⟩;(try first|exact⟨rfl,_,Zp _ _ _⟩|exact⟨rfl,_,Eq.trans (Zp _ _ _) (congrArg (World.drewN _) (Nat.add_assoc _ _ _))⟩)));try go_wp2_with (first|(go_at_call 100;(with_reducible refine(impl_operand.calls _ _ l0 a1_1 t468 _ ?side1 ?side2 A11.out).mono ?_);(case side1=>exact z7_1);(case side2=>exact z7_7);rintro e w' ⟨rfl,⟨nd,rfl⟩⟩;(try first|exact⟨rfl,_,Zp _ _ _⟩|exact⟨rfl,_,Eq.trans (Zp _ _ _) (congrArg (World.drewN _) (Nat.add_assoc _ _ _))⟩))|(go_at_call 100;(with_reducible refine(impl_operand.calls _ _ l0 a1_2 t469 _ ?side1 ?side2 A12.out).mono ?_);(case side1=>exact z7_0);(case side2=>exact z7_7);rintro e w' ⟨rfl,⟨nd,rfl⟩⟩;(try first|exact⟨rfl,_,Zp _ _ _⟩|exact⟨rfl,_,Eq.trans (Zp _ _ _) (congrArg (World.drewN _) (Nat.add_assoc _ _ _))⟩))))
        go_ret
        exact⟨by first|rfl|(simp[errW_none,errW_some]<;>rfl)|(simp only[←hji23];first|rfl|(simp[errW_none,errW_some]<;>rfl))|(simp[*,errW_none,errW_some]<;>rfl)|(simp[*,errW_none,errW_some,i64_w];done),by repeat(first|(with_reducible first|exact HB.out|apply Zh|apply Zf|apply Ze|refine Zd ?_ GE465.out)|exact HB.out)⟩
       ·rw[if_neg c22] at H
        have c22b0:(a1_0==4)=false:=beq_eq_false_iff_ne.mpr c22
        have c22b1:(a1_0 != 4)=true:=bne_iff_ne.mpr c22
        by_cases c25:a1_0=5
        ·rw[if_pos c25] at H
         have c25b0:(a1_0==5)=true:=beq_iff_eq.mpr c25
         have c25b1:(a1_0 != 5)=false:=bne_eq_false_iff_eq.mpr c25
         clear c25
         obtain⟨ji26,hji26⟩:∃j_:Int,(mx t468 t469)=j_:=⟨_,rfl⟩
         replace H:(some ji26)=some r:=by first|(rw[hji26] at H;exact H)|(simp only[hji26] at H ⊢;exact H)
         (try rw[hji26] at A11)
         (try rw[hji26] at A12)
         have hji26_:(if t468<t469 then t469 else t468)=ji26:=hji26
         obtain rfl:=Zn H
         have hcz27_0:wc.cell? ⟨gb465,0,none⟩=some (.int .i64 a1_0):=(Zb BK465.out 0).trans rfl
         have hcz27_1:wc.cell? ⟨gb465,1,none⟩=some (.int .i64 a1_1):=(Zb BK465.out 1).trans rfl
         have hcz27_2:wc.cell? ⟨gb465,2,none⟩=some (.int .i64 a1_2):=(Zb BK465.out 2).trans rfl
         have hfz27_0:=Zc BK465.out 0
         have hfz27_1:=Zc BK465.out 1
         have hfz27_2:=Zc BK465.out 2
         go_wp2_with (first|(go_at_call 100;(with_reducible refine(impl_operand.calls _ _ l0 a1_1 t468 _ ?side1 ?side2 A11.out).mono ?_);(case side1=>exact z7_1);(case side2=>exact z7_7);rintro e w' ⟨rfl,⟨nd,rfl⟩⟩;(try first|exact⟨rfl,_,Zp _ _ _⟩|exact⟨rfl,_,Eq.trans (Zp _ _ _) (congrArg (World.drewN _) (Nat.add_assoc _ _ _))⟩))|(go_at_call 100;(with_reducible refine(impl_operand.calls _ _ l0 a1_2 t469 _ ?side1 ?side2 A12.out).mono ?_);(case side1=>exact z7_0);(case side2=>exact z7_7);rintro e w' ⟨rfl,⟨nd,rfl⟩⟩;(try first|exact⟨rfl,_,Zp _ _ _⟩|exact⟨rfl,_,Eq.trans (Zp _ _ _) (congrArg (World.drewN _) (Nat.add_assoc _ _ _))⟩)))
         repeat(go_quiet (first|(go_at_call 100;(with_reducible refine(impl_operand.calls _ _ l0 a1_1 t468 _ ?side1 ?side2 A11.out).mono ?_);(case side1=>exact z7_1);(case side2=>exact z7_7);rintro e w' ⟨rfl,⟨nd,rfl⟩⟩;(try first|exact⟨rfl,_,Zp _ _ _⟩|exact⟨rfl,_,Eq.trans (Zp _ _ _) (congrArg (World.drewN _) (Nat.add_assoc _ _ _))⟩))|(go_at_call 100;(with_reducible refine(impl_operand.calls _ _ l0 a1_2 t469 _ ?side1 ?side2 A12.out).mono ?_);(case side1=>exact z7_0);(case side2=>exact z7_7);rintro e w' ⟨rfl,⟨nd,rfl⟩⟩;(try first|exact⟨rfl,_,Zp _ _ _⟩|exact⟨rfl,_,Eq.trans (Zp _ _ _) (congrArg (World.drewN _) (Nat.add_assoc _ _ _))⟩)));try go_wp2_with (first|(go_at_call 100;(with_reducible refine(impl_operand.calls _ _ l0 a1_1 t468 _ ?side1 ?side2 A11.out).mono ?_);(case side1=>exact z7_1);(case side2=>exact z7_7);rintro e w' ⟨rfl,⟨nd,rfl⟩⟩;(try first|exact⟨rfl,_,Zp _ _ _⟩|exact⟨rfl,_,Eq.trans (Zp _ _ _) (congrArg (World.drewN _) (Nat.add_assoc _ _ _))⟩))|(go_at_call 100;(with_reducible refine(impl_operand.calls _ _ l0 a1_2 t469 _ ?side1 ?side2 A12.out).mono ?_);(case side1=>exact z7_0);(case side2=>exact z7_7);rintro e w' ⟨rfl,⟨nd,rfl⟩⟩;(try first|exact⟨rfl,_,Zp _ _ _⟩|exact⟨rfl,_,Eq.trans (Zp _ _ _) (congrArg (World.drewN _) (Nat.add_assoc _ _ _))⟩))))
         go_ret
         exact⟨by first|rfl|(simp[errW_none,errW_some]<;>rfl)|(simp only[←hji26];first|rfl|(simp[errW_none,errW_some]<;>rfl))|(simp[*,errW_none,errW_some]<;>rfl)|(simp[*,errW_none,errW_some,i64_w];done),by repeat(first|(with_reducible first|exact HB.out|apply Zh|apply Zf|apply Ze|refine Zd ?_ GE465.out)|exact HB.out)⟩
        ·rw[if_neg c25] at H
         have c25b0:(a1_0==5)=false:=beq_eq_false_iff_ne.mpr c25
         have c25b1:(a1_0 != 5)=true:=bne_iff_ne.mpr c25
         by_cases c28:a1_0=6
         ·rw[if_pos c28] at H
          have c28b0:(a1_0==6)=true:=beq_iff_eq.mpr c28
          have c28b1:(a1_0 != 6)=false:=bne_eq_false_iff_eq.mpr c28
          clear c28
          replace H:=Zg H
          obtain⟨t473,A290,H⟩:=H
          replace H:(some t473)=some r:=H
          have A29:=Za A290
          clear A290
          obtain rfl:=Zn H
          have hcz30_0:wc.cell? ⟨gb465,0,none⟩=some (.int .i64 a1_0):=(Zb BK465.out 0).trans rfl
          have hcz30_1:wc.cell? ⟨gb465,1,none⟩=some (.int .i64 a1_1):=(Zb BK465.out 1).trans rfl
          have hcz30_2:wc.cell? ⟨gb465,2,none⟩=some (.int .i64 a1_2):=(Zb BK465.out 2).trans rfl
          have hfz30_0:=Zc BK465.out 0
          have hfz30_1:=Zc BK465.out 1
          have hfz30_2:=Zc BK465.out 2
          go_wp2_with (first|(go_at_call 100;(with_reducible refine(impl_operand.calls _ _ l0 a1_1 t468 _ ?side1 ?side2 A11.out).mono ?_);(case side1=>exact z7_1);(case side2=>exact z7_7);rintro e w' ⟨rfl,⟨nd,rfl⟩⟩;(try first|exact⟨rfl,_,Zp _ _ _⟩|exact⟨rfl,_,Eq.trans (Zp _ _ _) (congrArg (World.drewN _) (Nat.add_assoc _ _ _))⟩))|(go_at_call 100;(with_reducible refine(impl_operand.calls _ _ l0 a1_2 t469 _ ?side1 ?side2 A12.out).mono ?_);(case side1=>exact z7_0);(case side2=>exact z7_7);rintro e w' ⟨rfl,⟨nd,rfl⟩⟩;(try first|exact⟨rfl,_,Zp _ _ _⟩|exact⟨rfl,_,Eq.trans (Zp _ _ _) (congrArg (World.drewN _) (Nat.add_assoc _ _ _))⟩))|(go_at_call 96;(with_reducible refine(impl_bit.calls (decide (t468<t469)) t473 _ A29.out).mono ?_);rintro e w' ⟨rfl,⟨nd,rfl⟩⟩;(try first|exact⟨rfl,_,Zp _ _ _⟩|exact⟨rfl,_,Eq.trans (Zp _ _ _) (congrArg (World.drewN _) (Nat.add_assoc _ _ _))⟩)))
          repeat(go_quiet (first|(go_at_call 100;(with_reducible refine(impl_operand.calls _ _ l0 a1_1 t468 _ ?side1 ?side2 A11.out).mono ?_);(case side1=>exact z7_1);(case side2=>exact z7_7);rintro e w' ⟨rfl,⟨nd,rfl⟩⟩;(try first|exact⟨rfl,_,Zp _ _ _⟩|exact⟨rfl,_,Eq.trans (Zp _ _ _) (congrArg (World.drewN _) (Nat.add_assoc _ _ _))⟩))|(go_at_call 100;(with_reducible refine(impl_operand.calls _ _ l0 a1_2 t469 _ ?side1 ?side2 A12.out).mono ?_);(case side1=>exact z7_0);(case side2=>exact z7_7);rintro e w' ⟨rfl,⟨nd,rfl⟩⟩;(try first|exact⟨rfl,_,Zp _ _ _⟩|exact⟨rfl,_,Eq.trans (Zp _ _ _) (congrArg (World.drewN _) (Nat.add_assoc _ _ _))⟩))|(go_at_call 96;(with_reducible refine(impl_bit.calls (decide (t468<t469)) t473 _ A29.out).mono ?_);rintro e w' ⟨rfl,⟨nd,rfl⟩⟩;(try first|exact⟨rfl,_,Zp _ _ _⟩|exact⟨rfl,_,Eq.trans (Zp _ _ _) (congrArg (World.drewN _) (Nat.add_assoc _ _ _))⟩)));try go_wp2_with (first|(go_at_call 100;(with_reducible refine(impl_operand.calls _ _ l0 a1_1 t468 _ ?side1 ?side2 A11.out).mono ?_);(case side1=>exact z7_1);(case side2=>exact z7_7);rintro e w' ⟨rfl,⟨nd,rfl⟩⟩;(try first|exact⟨rfl,_,Zp _ _ _⟩|exact⟨rfl,_,Eq.trans (Zp _ _ _) (congrArg (World.drewN _) (Nat.add_assoc _ _ _))⟩))|(go_at_call 100;(with_reducible refine(impl_operand.calls _ _ l0 a1_2 t469 _ ?side1 ?side2 A12.out).mono ?_);(case side1=>exact z7_0);(case side2=>exact z7_7);rintro e w' ⟨rfl,⟨nd,rfl⟩⟩;(try first|exact⟨rfl,_,Zp _ _ _⟩|exact⟨rfl,_,Eq.trans (Zp _ _ _) (congrArg (World.drewN _) (Nat.add_assoc _ _ _))⟩))|(go_at_call 96;(with_reducible refine(impl_bit.calls (decide (t468<t469)) t473 _ A29.out).mono ?_);rintro e w' ⟨rfl,⟨nd,rfl⟩⟩;(try first|exact⟨rfl,_,Zp _ _ _⟩|exact⟨rfl,_,Eq.trans (Zp _ _ _) (congrArg (World.drewN _) (Nat.add_assoc _ _ _))⟩))))
          go_ret
          exact⟨by first|rfl|(simp[errW_none,errW_some]<;>rfl)|(simp[*,errW_none,errW_some]<;>rfl)|(simp[*,errW_none,errW_some,i64_w];done),by repeat(first|(with_reducible first|exact HB.out|apply Zh|apply Zf|apply Ze|refine Zd ?_ GE465.out)|exact HB.out)⟩
         ·rw[if_neg c28] at H
          have c28b0:(a1_0==6)=false:=beq_eq_false_iff_ne.mpr c28
          have c28b1:(a1_0 != 6)=true:=bne_iff_ne.mpr c28
          replace H:=Zg H
          obtain⟨t474,A310,H⟩:=H
          replace H:(some t474)=some r:=H
          have A31:=Za A310
          clear A310
          obtain rfl:=Zn H
          have hcz32_0:wc.cell? ⟨gb465,0,none⟩=some (.int .i64 a1_0):=(Zb BK465.out 0).trans rfl
          have hcz32_1:wc.cell? ⟨gb465,1,none⟩=some (.int .i64 a1_1):=(Zb BK465.out 1).trans rfl
          have hcz32_2:wc.cell? ⟨gb465,2,none⟩=some (.int .i64 a1_2):=(Zb BK465.out 2).trans rfl
          have hfz32_0:=Zc BK465.out 0
          have hfz32_1:=Zc BK465.out 1
          have hfz32_2:=Zc BK465.out 2
          go_wp2_with (first|(go_at_call 100;(with_reducible refine(impl_operand.calls _ _ l0 a1_1 t468 _ ?side1 ?side2 A11.out).mono ?_);(case side1=>exact z7_1);(case side2=>exact z7_7);rintro e w' ⟨rfl,⟨nd,rfl⟩⟩;(try first|exact⟨rfl,_,Zp _ _ _⟩|exact⟨rfl,_,Eq.trans (Zp _ _ _) (congrArg (World.drewN _) (Nat.add_assoc _ _ _))⟩))|(go_at_call 100;(with_reducible refine(impl_operand.calls _ _ l0 a1_2 t469 _ ?side1 ?side2 A12.out).mono ?_);(case side1=>exact z7_0);(case side2=>exact z7_7);rintro e w' ⟨rfl,⟨nd,rfl⟩⟩;(try first|exact⟨rfl,_,Zp _ _ _⟩|exact⟨rfl,_,Eq.trans (Zp _ _ _) (congrArg (World.drewN _) (Nat.add_assoc _ _ _))⟩))|(go_at_call 96;(with_reducible refine(impl_bit.calls (t468==t469) t474 _ A31.out).mono ?_);rintro e w' ⟨rfl,⟨nd,rfl⟩⟩;(try first|exact⟨rfl,_,Zp _ _ _⟩|exact⟨rfl,_,Eq.trans (Zp _ _ _) (congrArg (World.drewN _) (Nat.add_assoc _ _ _))⟩)))
          repeat(go_quiet (first|(go_at_call 100;(with_reducible refine(impl_operand.calls _ _ l0 a1_1 t468 _ ?side1 ?side2 A11.out).mono ?_);(case side1=>exact z7_1);(case side2=>exact z7_7);rintro e w' ⟨rfl,⟨nd,rfl⟩⟩;(try first|exact⟨rfl,_,Zp _ _ _⟩|exact⟨rfl,_,Eq.trans (Zp _ _ _) (congrArg (World.drewN _) (Nat.add_assoc _ _ _))⟩))|(go_at_call 100;(with_reducible refine(impl_operand.calls _ _ l0 a1_2 t469 _ ?side1 ?side2 A12.out).mono ?_);(case side1=>exact z7_0);(case side2=>exact z7_7);rintro e w' ⟨rfl,⟨nd,rfl⟩⟩;(try first|exact⟨rfl,_,Zp _ _ _⟩|exact⟨rfl,_,Eq.trans (Zp _ _ _) (congrArg (World.drewN _) (Nat.add_assoc _ _ _))⟩))|(go_at_call 96;(with_reducible refine(impl_bit.calls (t468==t469) t474 _ A31.out).mono ?_);rintro e w' ⟨rfl,⟨nd,rfl⟩⟩;(try first|exact⟨rfl,_,Zp _ _ _⟩|exact⟨rfl,_,Eq.trans (Zp _ _ _) (congrArg (World.drewN _) (Nat.add_assoc _ _ _))⟩)));try go_wp2_with (first|(go_at_call 100;(with_reducible refine(impl_operand.calls _ _ l0 a1_1 t468 _ ?side1 ?side2 A11.out).mono ?_);(case side1=>exact z7_1);(case side2=>exact z7_7);rintro e w' ⟨rfl,⟨nd,rfl⟩⟩;(try first|exact⟨rfl,_,Zp _ _ _⟩|exact⟨rfl,_,Eq.trans (Zp _ _ _) (congrArg (World.drewN _) (Nat.add_assoc _ _ _))⟩))|(go_at_call 100;(with_reducible refine(impl_operand.calls _ _ l0 a1_2 t469 _ ?side1 ?side2 A12.out).mono ?_);(case side1=>exact z7_0);(case side2=>exact z7_7);rintro e w' ⟨rfl,⟨nd,rfl⟩⟩;(try first|exact⟨rfl,_,Zp _ _ _⟩|exact⟨rfl,_,Eq.trans (Zp _ _ _) (congrArg (World.drewN _) (Nat.add_assoc _ _ _))⟩))|(go_at_call 96;(with_reducible refine(impl_bit.calls (t468==t469) t474 _ A31.out).mono ?_);rintro e w' ⟨rfl,⟨nd,rfl⟩⟩;(try first|exact⟨rfl,_,Zp _ _ _⟩|exact⟨rfl,_,Eq.trans (Zp _ _ _) (congrArg (World.drewN _) (Nat.add_assoc _ _ _))⟩))))
          go_ret
          exact⟨by first|rfl|(simp[errW_none,errW_some]<;>rfl)|(simp[*,errW_none,errW_some]<;>rfl)|(simp[*,errW_none,errW_some,i64_w];done),by repeat(first|(with_reducible first|exact HB.out|apply Zh|apply Zf|apply Ze|refine Zd ?_ GE465.out)|exact HB.out)⟩
def impl_ReadSensor.f (l0:List Int) (a1:Int) (a2:Int):Option (Int):=if (l0.length:Int)=0 then (some 0) else ((impl_isSensor.f a1).bind fun t475=>(if t475=true then (if a2<0 then (some 0) else (if 0≤(Int.tmod a2 (l0.length:Int)) then (if (Int.tmod a2 (l0.length:Int))<(l0.length:Int) then ((impl_AddValues.f (rd l0 (Int.tmod a2 (l0.length:Int))) (wrap64 (100*a1))).bind fun t477=>(some t477)) else (none)) else (none))) else (some 0)))
set_option maxHeartbeats 8000000 in
set_option maxRecDepth 100000 in
theorem impl_ReadSensor.calls (A0:Option Addr) (c0:Nat) (l0:List Int) (a1:Int) (a2:Int) (r:Int) (w:World) (hr0:Kd.C (Kd.int .i64) w A0 l0.length l0) (hc0:l0.length≤c0) (h:impl_ReadSensor.f l0 a1 a2=some r):
  Calls Tryz.prog 68 #[.slice A0 l0.length c0,.int .i64 a1,.int .i64 a2] w fun e w'=>e= .returned (.int .i64 r)∧Drawn0 w w':=by
 have HR0:=Za hr0
 have HC0:=Za hc0
 clear hr0 hc0
 have H:(if (l0.length:Int)=0 then (some 0) else ((impl_isSensor.f a1).bind fun t475=>(if t475=true then (if a2<0 then (some 0) else (if 0≤(Int.tmod a2 (l0.length:Int)) then (if (Int.tmod a2 (l0.length:Int))<(l0.length:Int) then ((impl_AddValues.f (rd l0 (Int.tmod a2 (l0.length:Int))) (wrap64 (100*a1))).bind fun t477=>(some t477)) else (none)) else (none))) else (some 0))))=some r:=h
 clear h
 by_cases c4:(l0.length:Int)=0
 ·rw[if_pos c4] at H
  have c4b0:((l0.length:Int)==0)=true:=beq_iff_eq.mpr c4
  have c4b1:((l0.length:Int) != 0)=false:=bne_eq_false_iff_eq.mpr c4
  clear c4
  obtain rfl:=Zn H
  go_enter Tryz.func68,Tryz.ntmps68
  go_wp2
  go_ret
  exact⟨by first|rfl|(simp;done)|(simp[*];done),by repeat(first|exact Zv _|apply Zw)⟩
 ·rw[if_neg c4] at H
  have c4b0:((l0.length:Int)==0)=false:=beq_eq_false_iff_ne.mpr c4
  have c4b1:((l0.length:Int) != 0)=true:=bne_iff_ne.mpr c4
  have c4b2:¬(l0=[]):=fun h_=>c4 (by rw[h_];rfl)
  replace H:=Zg H
  obtain⟨t475,A50,H⟩:=H
  replace H:(if t475=true then (if a2<0 then (some 0) else (if 0≤(Int.tmod a2 (l0.length:Int)) then (if (Int.tmod a2 (l0.length:Int))<(l0.length:Int) then ((impl_AddValues.f (rd l0 (Int.tmod a2 (l0.length:Int))) (wrap64 (100*a1))).bind fun t477=>(some t477)) else (none)) else (none))) else (some 0))=some r:=H
  have A5:=Za A50
  clear A50
  by_cases c6:t475=true
  ·subst c6
   rw[if_pos rfl] at H
   by_cases c7:a2<0
   ·rw[if_pos c7] at H
    have c7b0:decide (a2<0)=true:=Zo c7
    clear c7
    obtain rfl:=Zn H
    go_enter Tryz.func68,Tryz.ntmps68
    go_wp2_with (first|(go_at_call 104;(with_reducible refine(impl_isSensor.calls a1 true _ A5.out).mono ?_);rintro e w' ⟨rfl,⟨nd,rfl⟩⟩))
    go_ret
    exact⟨by first|rfl|(simp;done)|(simp[*];done),by repeat(first|exact Zv _|apply Zw)⟩
   ·rw[if_neg c7] at H
    have c7b0:decide (a2<0)=false:=Yg c7
    clear c7
    obtain⟨ji8,hji8⟩:∃j_:Int,(Int.tmod a2 (l0.length:Int))=j_:=⟨_,rfl⟩
    replace H:(if 0≤(ji8) then (if (ji8)<(l0.length:Int) then ((impl_AddValues.f (rd l0 (ji8)) (wrap64 (100*a1))).bind fun t477=>(some t477)) else (none)) else (none))=some r:=by first|(rw[hji8] at H;exact H)|(simp only[hji8] at H ⊢;exact H)
    (try rw[hji8] at A5)
    by_cases c9:0≤(ji8)
    ·rw[if_pos c9] at H
     have c9b0:decide (0≤(ji8))=true:=Zo c9
     clear c9
     by_cases c10:(ji8)<(l0.length:Int)
     ·rw[if_pos c10] at H
      have c10b0:decide ((ji8)<(l0.length:Int))=true:=Zo c10
      clear c10
      replace H:=Zg H
      obtain⟨t477,A110,H⟩:=H
      replace H:(some t477)=some r:=H
      have A11:=Za A110
      clear A110
      obtain rfl:=Zn H
      go_enter Tryz.func68,Tryz.ntmps68
      go_wp2_with (first|(go_at_call 104;(with_reducible refine(impl_isSensor.calls a1 true _ A5.out).mono ?_);rintro e w' ⟨rfl,⟨nd,rfl⟩⟩;have p476:0≤((ji8):Int):=Zq z7_11;have q476:(ji8)<(l0.length:Int):=Zq z7_11;obtain⟨ad476,e476,hx476_0⟩:=Kd.at_int HR0.out (ji8) p476 q476;cases e476;replace p476:=eq_true p476;replace q476:=eq_true q476)|((first|((with_reducible refine gate_callee (f:=101) rfl ?_);refine goesL_ (some 28) rfl rfl Tryz.func101 (by kernel_rfl) rfl #[.int .i64 (rd l0 (ji8)),.int .i64 (wrap64 (100*a1))] rfl (by(try simp only[Yt,List.map_cons,List.map_nil]);first|done|(simp only[hji8];rfl)|rfl|(simp only[List.length_drop,List.length_take];rfl)) ?_;(with_reducible refine(impl_AddValues.calls (rd l0 (ji8)) (wrap64 (100*a1)) t477 _ A11.out).mono ?_))|(go_at_call 101;(with_reducible refine(impl_AddValues.calls (rd l0 (ji8)) (wrap64 (100*a1)) t477 _ A11.out).mono ?_)));rintro e w' ⟨rfl,⟨nd,rfl⟩⟩;(first|refine⟨_,rfl,?_⟩|skip)))
      go_ret
      exact⟨by first|rfl|(simp;done)|(simp only[←hji8]<;>(first|rfl|simp))|(simp[*];done),by repeat(first|exact Zv _|apply Zw)⟩
     ·rw[if_neg c10] at H
      exact absurd H (by simp)
    ·rw[if_neg c9] at H
     exact absurd H (by simp)
  ·replace c6:=Bool.eq_false_iff.mpr c6
   subst c6
   rw[if_neg (show ¬(false=true) by decide)] at H
   obtain rfl:=Zn H
   go_enter Tryz.func68,Tryz.ntmps68
   go_wp2_with (first|(go_at_call 104;(with_reducible refine(impl_isSensor.calls a1 false _ A5.out).mono ?_);rintro e w' ⟨rfl,⟨nd,rfl⟩⟩))
   go_ret
   exact⟨by first|rfl|(simp;done)|(simp[*];done),by repeat(first|exact Zv _|apply Zw)⟩
def impl_hasTask.f (k:Nat) (l0_0:List (S74)) (a1:Int):Option (Bool):=(impl_ProgramOk.f k l0_0).bind fun t479=>(if t479=true then ((impl_within.f a1 0 (wrap64 ((l0_0.length:Int) - 1))).bind fun t480=>(some t480)) else (some false))
set_option maxHeartbeats 8000000 in
set_option maxRecDepth 100000 in
theorem impl_hasTask.calls (k:Nat) (A0_0:Option Addr) (c0_0:Nat) (l0_0:List (S74)) (a1:Int) (r:Bool) (w:World) (hr0_0:Kd.C k74 w A0_0 l0_0.length l0_0) (hc0_0:l0_0.length≤c0_0) (h:impl_hasTask.f k l0_0 a1=some r):
  Calls Tryz.prog 105 #[.agg #[.slice A0_0 l0_0.length c0_0],.int .i64 a1] w fun e w'=>e= .returned (.bool r)∧Below w.heap.size w w':=by
 have hu26:=Tryz.underlying26
 have HR0_0:=Za hr0_0
 have HC0_0:=Za hc0_0
 clear hr0_0 hc0_0
 have HB:=Za (Yb w.heap.size w)
 have H:((impl_ProgramOk.f k l0_0).bind fun t479=>(if t479=true then ((impl_within.f a1 0 (wrap64 ((l0_0.length:Int) - 1))).bind fun t480=>(some t480)) else (some false)))=some r:=h
 clear h
 replace H:=Zg H
 obtain⟨t479,A30,H⟩:=H
 replace H:(if t479=true then ((impl_within.f a1 0 (wrap64 ((l0_0.length:Int) - 1))).bind fun t480=>(some t480)) else (some false))=some r:=H
 have A3:=Za A30
 clear A30
 by_cases c4:t479=true
 ·subst c4
  rw[if_pos rfl] at H
  replace H:=Zg H
  obtain⟨t480,A50,H⟩:=H
  replace H:(some t480)=some r:=H
  have A5:=Za A50
  clear A50
  obtain rfl:=Zn H
  go_enter Tryz.func105,Tryz.ntmps105
  go_wp2_with (first|((with_reducible refine Zr (N:=2) rfl ?_);(try(refine gate_guard (by rfl) ?_;dsimp only));refine Zy ?hg (N:=2) ?hd (cs:= #[.slice A0_0 l0_0.length c0_0]) (t:=26) ?hr ?_;(case hd=>rfl);(case hg=>rfl);(case hr=>exact z7_9);intro gb478 hg w6 hbox hb;have BK478:=Za (hbox);have GW478:=Za ((z7_14:w.heap.size≤gb478));have GE478:=Za ((z7_14:w.heap.size≤gb478));replace HB:=Za (Zk z7_2 hb);clear hb hbox hg;have hcz7_0:w6.cell? ⟨gb478,0,none⟩=some (.slice A0_0 l0_0.length c0_0):=(Zb BK478.out 0).trans rfl;have hfz7_0:=Zc BK478.out 0)|((first|((with_reducible refine gate_callee (f:=50) rfl ?_);refine goesL_ (some 6) rfl rfl Tryz.func50 (by kernel_rfl) rfl #[.agg #[.slice A0_0 l0_0.length c0_0]] rfl z7_4 ?_;(with_reducible refine(impl_ProgramOk.calls k _ _ l0_0 true _ ?side1 ?side2 A3.out).mono ?_))|(go_at_call 50;(with_reducible refine(impl_ProgramOk.calls k _ _ l0_0 true _ ?side1 ?side2 A3.out).mono ?_)));(case side1=>exact z7_5);(case side2=>exact HC0_0.out);rintro e w8 ⟨rfl,hb⟩;(first|refine⟨_,rfl,?_⟩|skip);replace BK478:=Za (Zi (g:=gb478) (o:= .cells #[.slice A0_0 l0_0.length c0_0] 26 (0,0)) (by(with_reducible repeat(first|refine blk_drewN ?_ _|refine blk_drew ?_|refine blk_alloc ?_ _));exact BK478.out) hb);replace HB:=Za (Zk (by repeat(first|(with_reducible first|exact HB.out|apply Zh|apply Zf|apply Ze|refine Zd ?_ GE478.out)|exact HB.out)) hb);(try clear hb);(try clear hb2);(try clear hk);(try clear hi);have hcz9_0:w8.cell? ⟨gb478,0,none⟩=some (.slice A0_0 l0_0.length c0_0):=(Zb BK478.out 0).trans rfl;have hfz9_0:=Zc BK478.out 0)|(go_at_call 41;(with_reducible refine(impl_within.calls a1 0 (wrap64 ((l0_0.length:Int) - 1)) t480 _ A5.out).mono ?_);rintro e w' ⟨rfl,⟨nd,rfl⟩⟩))
  go_ret
  exact⟨by first|rfl|(simp[errW_none,errW_some]<;>rfl)|(simp[*,errW_none,errW_some]<;>rfl)|(simp[*,errW_none,errW_some,i64_w];done),by repeat(first|(with_reducible first|exact HB.out|apply Zh|apply Zf|apply Ze|refine Zd ?_ GE478.out)|exact HB.out)⟩
 ·replace c4:=Bool.eq_false_iff.mpr c4
  subst c4
  rw[if_neg (show ¬(false=true) by decide)] at H
  obtain rfl:=Zn H
  go_enter Tryz.func105,Tryz.ntmps105
  go_wp2_with (first|((with_reducible refine Zr (N:=2) rfl ?_);(try(refine gate_guard (by rfl) ?_;dsimp only));refine Zy ?hg (N:=2) ?hd (cs:= #[.slice A0_0 l0_0.length c0_0]) (t:=26) ?hr ?_;(case hd=>rfl);(case hg=>rfl);(case hr=>exact z7_9);intro gb478 hg w10 hbox hb;have BK478:=Za (hbox);have GW478:=Za ((z7_14:w.heap.size≤gb478));have GE478:=Za ((z7_14:w.heap.size≤gb478));replace HB:=Za (Zk z7_2 hb);clear hb hbox hg;have hcz11_0:w10.cell? ⟨gb478,0,none⟩=some (.slice A0_0 l0_0.length c0_0):=(Zb BK478.out 0).trans rfl;have hfz11_0:=Zc BK478.out 0)|((first|((with_reducible refine gate_callee (f:=50) rfl ?_);refine goesL_ (some 6) rfl rfl Tryz.func50 (by kernel_rfl) rfl #[.agg #[.slice A0_0 l0_0.length c0_0]] rfl z7_4 ?_;(with_reducible refine(impl_ProgramOk.calls k _ _ l0_0 false _ ?side1 ?side2 A3.out).mono ?_))|(go_at_call 50;(with_reducible refine(impl_ProgramOk.calls k _ _ l0_0 false _ ?side1 ?side2 A3.out).mono ?_)));(case side1=>exact z7_5);(case side2=>exact HC0_0.out);rintro e w12 ⟨rfl,hb⟩;(first|refine⟨_,rfl,?_⟩|skip);replace BK478:=Za (Zi (g:=gb478) (o:= .cells #[.slice A0_0 l0_0.length c0_0] 26 (0,0)) (by(with_reducible repeat(first|refine blk_drewN ?_ _|refine blk_drew ?_|refine blk_alloc ?_ _));exact BK478.out) hb);replace HB:=Za (Zk (by repeat(first|(with_reducible first|exact HB.out|apply Zh|apply Zf|apply Ze|refine Zd ?_ GE478.out)|exact HB.out)) hb);(try clear hb);(try clear hb2);(try clear hk);(try clear hi)))
  go_ret
  exact⟨by first|rfl|(simp[errW_none,errW_some]<;>rfl)|(simp[*,errW_none,errW_some]<;>rfl)|(simp[*,errW_none,errW_some,i64_w];done),by repeat(first|(with_reducible first|exact HB.out|apply Zh|apply Zf|apply Ze|refine Zd ?_ GE478.out)|exact HB.out)⟩
def impl_NextTask.f (k:Nat) (l0_0:List (S74)) (l1:List Int) (a2:Int):Option (Int):=(impl_hasTask.f k l0_0 a2).bind fun t482=>(if t482=true then ((impl_VarsOk.f l1).bind fun t483=>(if t483=true then (if 0≤a2 then (if a2<(l0_0.length:Int) then ((impl_EvalExpr.f k l1 ((rd_T74 l0_0 a2).f1.f0) ((rd_T74 l0_0 a2).f1.f1) ((rd_T74 l0_0 a2).f1.f2)).bind fun t485=>(if (l0_0.length:Int)=0 then (none) else (some (Int.tmod (wrap64 ((Int.tmod t485 (l0_0.length:Int))+(l0_0.length:Int))) (l0_0.length:Int))))) else (none)) else (none)) else (some (-1)))) else (some (-1)))
set_option maxHeartbeats 8000000 in
set_option maxRecDepth 100000 in
theorem impl_NextTask.calls (k:Nat) (A0_0:Option Addr) (c0_0:Nat) (l0_0:List (S74)) (A1:Option Addr) (c1:Nat) (l1:List Int) (a2:Int) (r:Int) (w:World) (hr0_0:Kd.C k74 w A0_0 l0_0.length l0_0) (hc0_0:l0_0.length≤c0_0) (hr1:Kd.C (Kd.int .i64) w A1 l1.length l1) (hc1:l1.length≤c1) (h:impl_NextTask.f k l0_0 l1 a2=some r):
  Calls Tryz.prog 71 #[.agg #[.slice A0_0 l0_0.length c0_0],.slice A1 l1.length c1,.int .i64 a2] w fun e w'=>e= .returned (.int .i64 r)∧Below w.heap.size w w':=by
 have hu26:=Tryz.underlying26
 have hu72:=Tryz.underlying72
 have HR0_0:=Za hr0_0
 have HC0_0:=Za hc0_0
 clear hr0_0 hc0_0
 have HR1:=Za hr1
 have HC1:=Za hc1
 clear hr1 hc1
 have HB:=Za (Yb w.heap.size w)
 have H:((impl_hasTask.f k l0_0 a2).bind fun t482=>(if t482=true then ((impl_VarsOk.f l1).bind fun t483=>(if t483=true then (if 0≤a2 then (if a2<(l0_0.length:Int) then ((impl_EvalExpr.f k l1 ((rd_T74 l0_0 a2).f1.f0) ((rd_T74 l0_0 a2).f1.f1) ((rd_T74 l0_0 a2).f1.f2)).bind fun t485=>(if (l0_0.length:Int)=0 then (none) else (some (Int.tmod (wrap64 ((Int.tmod t485 (l0_0.length:Int))+(l0_0.length:Int))) (l0_0.length:Int))))) else (none)) else (none)) else (some (-1)))) else (some (-1))))=some r:=h
 clear h
 replace H:=Zg H
 obtain⟨t482,A40,H⟩:=H
 replace H:(if t482=true then ((impl_VarsOk.f l1).bind fun t483=>(if t483=true then (if 0≤a2 then (if a2<(l0_0.length:Int) then ((impl_EvalExpr.f k l1 ((rd_T74 l0_0 a2).f1.f0) ((rd_T74 l0_0 a2).f1.f1) ((rd_T74 l0_0 a2).f1.f2)).bind fun t485=>(if (l0_0.length:Int)=0 then (none) else (some (Int.tmod (wrap64 ((Int.tmod t485 (l0_0.length:Int))+(l0_0.length:Int))) (l0_0.length:Int))))) else (none)) else (none)) else (some (-1)))) else (some (-1)))=some r:=H
 have A4:=Za A40
 clear A40
 by_cases c5:t482=true
 ·subst c5
  rw[if_pos rfl] at H
  replace H:=Zg H
  obtain⟨t483,A60,H⟩:=H
  replace H:(if t483=true then (if 0≤a2 then (if a2<(l0_0.length:Int) then ((impl_EvalExpr.f k l1 ((rd_T74 l0_0 a2).f1.f0) ((rd_T74 l0_0 a2).f1.f1) ((rd_T74 l0_0 a2).f1.f2)).bind fun t485=>(if (l0_0.length:Int)=0 then (none) else (some (Int.tmod (wrap64 ((Int.tmod t485 (l0_0.length:Int))+(l0_0.length:Int))) (l0_0.length:Int))))) else (none)) else (none)) else (some (-1)))=some r:=H
  have A6:=Za A60
  clear A60
  by_cases c7:t483=true
  ·subst c7
   rw[if_pos rfl] at H
   by_cases c8:0≤a2
   ·rw[if_pos c8] at H
    have c8b0:decide (0≤a2)=true:=Zo c8
    clear c8
    by_cases c9:a2<(l0_0.length:Int)
    ·rw[if_pos c9] at H
     have c9b0:decide (a2<(l0_0.length:Int))=true:=Zo c9
     clear c9
     replace H:=Zg H
     obtain⟨t485,A100,H⟩:=H
     replace H:(if (l0_0.length:Int)=0 then (none) else (some (Int.tmod (wrap64 ((Int.tmod t485 (l0_0.length:Int))+(l0_0.length:Int))) (l0_0.length:Int))))=some r:=H
     have A10:=Za A100
     clear A100
     by_cases c11:(l0_0.length:Int)=0
     ·rw[if_pos c11] at H
      exact absurd H (by simp)
     ·rw[if_neg c11] at H
      have c11b0:((l0_0.length:Int)==0)=false:=beq_eq_false_iff_ne.mpr c11
      have c11b1:((l0_0.length:Int) != 0)=true:=bne_iff_ne.mpr c11
      have c11b2:¬(l0_0=[]):=fun h_=>c11 (by rw[h_];rfl)
      obtain rfl:=Zn H
      go_enter Tryz.func71,Tryz.ntmps71
      go_wp2_with (first|((with_reducible refine Zr (N:=3) rfl ?_);refine Zy ?hg (N:=3) ?hd (cs:= #[.slice A0_0 l0_0.length c0_0]) (t:=26) ?hr ?_;(case hd=>rfl);(case hg=>rfl);(case hr=>exact z7_9);intro gb481 hg w12 hbox hb;have BK481:=Za (hbox);have GW481:=Za ((z7_14:w.heap.size≤gb481));have GE481:=Za ((z7_14:w.heap.size≤gb481));replace HB:=Za (Zk z7_2 hb);clear hb hbox hg;have hcz13_0:w12.cell? ⟨gb481,0,none⟩=some (.slice A0_0 l0_0.length c0_0):=(Zb BK481.out 0).trans rfl;have hfz13_0:=Zc BK481.out 0)|((first|((with_reducible refine gate_callee (f:=105) rfl ?_);refine goesL_ (some 10) rfl rfl Tryz.func105 (by kernel_rfl) rfl #[.agg #[.slice A0_0 l0_0.length c0_0],.int .i64 a2] rfl z7_4 ?_;(with_reducible refine(impl_hasTask.calls k _ _ l0_0 a2 true _ ?side1 ?side2 A4.out).mono ?_))|(go_at_call 105;(with_reducible refine(impl_hasTask.calls k _ _ l0_0 a2 true _ ?side1 ?side2 A4.out).mono ?_)));(case side1=>exact z7_5);(case side2=>exact HC0_0.out);rintro e w14 ⟨rfl,hb⟩;(first|refine⟨_,rfl,?_⟩|skip);replace BK481:=Za (Zi (g:=gb481) (o:= .cells #[.slice A0_0 l0_0.length c0_0] 26 (0,0)) z7_10 hb);replace HB:=Za (Zk z7_6 hb);(try clear hb);(try clear hb2);(try clear hk);(try clear hi))|(go_at_call 98;(with_reducible refine(impl_VarsOk.calls _ _ l1 true _ ?side1 ?side2 A6.out).mono ?_);(case side1=>repeat(first|exact(Yh HR1.out HB.out)|(with_reducible refine Yk ?_ _)|(with_reducible refine Yi ?_ _)|(with_reducible refine Yl ?_)));(case side2=>exact HC1.out);rintro e w' ⟨rfl,⟨nd,rfl⟩⟩;have hcz15_0:w14.cell? ⟨gb481,0,none⟩=some (.slice A0_0 l0_0.length c0_0):=(Zb BK481.out 0).trans rfl;have hfz15_0:=Zc BK481.out 0;have p484:0≤(a2:Int):=Zq z7_11;have q484:a2<(l0_0.length:Int):=Zq z7_11;obtain⟨ad484,A484_0,c484_0,e484,hx484_0,hx484_1,hx484_2,hx484_3,hl484_0,hi484_0⟩:=at_T74 HR0_0.out a2 p484 q484;cases e484;replace hx484_0:=(HB.out.cell (Yo w _ hx484_0)).trans hx484_0;replace hx484_1:=(HB.out.cell (Yo w _ hx484_1)).trans hx484_1;replace hx484_2:=(HB.out.cell (Yo w _ hx484_2)).trans hx484_2;replace hx484_3:=(HB.out.cell (Yo w _ hx484_3)).trans hx484_3;have HR484_0:=Za hi484_0;have HC484_0:=Za hl484_0;clear hi484_0 hl484_0;replace p484:=eq_true p484;replace q484:=eq_true q484)|((first|((with_reducible refine gate_callee (f:=67) rfl ?_);refine goesL_ (some 27) rfl rfl Tryz.func67 (by kernel_rfl) rfl #[.slice A1 l1.length c1,.agg #[.int .i64 ((rd_T74 l0_0 a2).f1.f0),.int .i64 ((rd_T74 l0_0 a2).f1.f1),.int .i64 ((rd_T74 l0_0 a2).f1.f2)]] rfl z7_4 ?_;(with_reducible refine(impl_EvalExpr.calls k _ _ l1 ((rd_T74 l0_0 a2).f1.f0) ((rd_T74 l0_0 a2).f1.f1) ((rd_T74 l0_0 a2).f1.f2) t485 _ ?side1 ?side2 A10.out).mono ?_))|(go_at_call 67;(with_reducible refine(impl_EvalExpr.calls k _ _ l1 ((rd_T74 l0_0 a2).f1.f0) ((rd_T74 l0_0 a2).f1.f1) ((rd_T74 l0_0 a2).f1.f2) t485 _ ?side1 ?side2 A10.out).mono ?_)));(case side1=>repeat(first|exact(Yh HR1.out z7_6)|(with_reducible refine Yk ?_ _)|(with_reducible refine Yi ?_ _)|(with_reducible refine Yl ?_)));(case side2=>exact HC1.out);rintro e w16 ⟨rfl,hb⟩;(first|refine⟨_,rfl,?_⟩|skip);replace BK481:=Za (Zi (g:=gb481) (o:= .cells #[.slice (some ad484) l0_0.length c0_0] 26 (0,0)) z7_10 hb);replace HB:=Za (Zk z7_6 hb);(try clear hb);(try clear hb2);(try clear hk);(try clear hi)))
      go_ret
      exact⟨by first|rfl|(simp[errW_none,errW_some]<;>rfl)|(simp[*,errW_none,errW_some]<;>rfl)|(simp[*,errW_none,errW_some,i64_w];done),by repeat(first|(with_reducible first|exact HB.out|apply Zh|apply Zf|apply Ze|refine Zd ?_ GE481.out)|exact HB.out)⟩
    ·rw[if_neg c9] at H
     exact absurd H (by simp)
   ·rw[if_neg c8] at H
    exact absurd H (by simp)
  ·replace c7:=Bool.eq_false_iff.mpr c7
   subst c7
   rw[if_neg (show ¬(false=true) by decide)] at H
   obtain rfl:=Zn H
   go_enter Tryz.func71,Tryz.ntmps71
   go_wp2_with (first|((with_reducible refine Zr (N:=3) rfl ?_);refine Zy ?hg (N:=3) ?hd (cs:= #[.slice A0_0 l0_0.length c0_0]) (t:=26) ?hr ?_;(case hd=>rfl);(case hg=>rfl);(case hr=>exact z7_9);intro gb481 hg w17 hbox hb;have BK481:=Za (hbox);have GW481:=Za ((z7_14:w.heap.size≤gb481));have GE481:=Za ((z7_14:w.heap.size≤gb481));replace HB:=Za (Zk z7_2 hb);clear hb hbox hg;have hcz18_0:w17.cell? ⟨gb481,0,none⟩=some (.slice A0_0 l0_0.length c0_0):=(Zb BK481.out 0).trans rfl;have hfz18_0:=Zc BK481.out 0)|((first|((with_reducible refine gate_callee (f:=105) rfl ?_);refine goesL_ (some 10) rfl rfl Tryz.func105 (by kernel_rfl) rfl #[.agg #[.slice A0_0 l0_0.length c0_0],.int .i64 a2] rfl z7_4 ?_;(with_reducible refine(impl_hasTask.calls k _ _ l0_0 a2 true _ ?side1 ?side2 A4.out).mono ?_))|(go_at_call 105;(with_reducible refine(impl_hasTask.calls k _ _ l0_0 a2 true _ ?side1 ?side2 A4.out).mono ?_)));(case side1=>exact z7_5);(case side2=>exact HC0_0.out);rintro e w19 ⟨rfl,hb⟩;(first|refine⟨_,rfl,?_⟩|skip);replace BK481:=Za (Zi (g:=gb481) (o:= .cells #[.slice A0_0 l0_0.length c0_0] 26 (0,0)) z7_10 hb);replace HB:=Za (Zk z7_6 hb);(try clear hb);(try clear hb2);(try clear hk);(try clear hi))|(go_at_call 98;(with_reducible refine(impl_VarsOk.calls _ _ l1 false _ ?side1 ?side2 A6.out).mono ?_);(case side1=>repeat(first|exact(Yh HR1.out HB.out)|(with_reducible refine Yk ?_ _)|(with_reducible refine Yi ?_ _)|(with_reducible refine Yl ?_)));(case side2=>exact HC1.out);rintro e w' ⟨rfl,⟨nd,rfl⟩⟩))
   go_ret
   exact⟨by first|rfl|(simp[errW_none,errW_some]<;>rfl)|(simp[*,errW_none,errW_some]<;>rfl)|(simp[*,errW_none,errW_some,i64_w];done),by repeat(first|(with_reducible first|exact HB.out|apply Zh|apply Zf|apply Ze|refine Zd ?_ GE481.out)|exact HB.out)⟩
 ·replace c5:=Bool.eq_false_iff.mpr c5
  subst c5
  rw[if_neg (show ¬(false=true) by decide)] at H
  obtain rfl:=Zn H
  go_enter Tryz.func71,Tryz.ntmps71
  go_wp2_with (first|((with_reducible refine Zr (N:=3) rfl ?_);refine Zy ?hg (N:=3) ?hd (cs:= #[.slice A0_0 l0_0.length c0_0]) (t:=26) ?hr ?_;(case hd=>rfl);(case hg=>rfl);(case hr=>exact z7_9);intro gb481 hg w20 hbox hb;have BK481:=Za (hbox);have GW481:=Za ((z7_14:w.heap.size≤gb481));have GE481:=Za ((z7_14:w.heap.size≤gb481));replace HB:=Za (Zk z7_2 hb);clear hb hbox hg;have hcz21_0:w20.cell? ⟨gb481,0,none⟩=some (.slice A0_0 l0_0.length c0_0):=(Zb BK481.out 0).trans rfl;have hfz21_0:=Zc BK481.out 0)|((first|((with_reducible refine gate_callee (f:=105) rfl ?_);refine goesL_ (some 10) rfl rfl Tryz.func105 (by kernel_rfl) rfl #[.agg #[.slice A0_0 l0_0.length c0_0],.int .i64 a2] rfl z7_4 ?_;(with_reducible refine(impl_hasTask.calls k _ _ l0_0 a2 false _ ?side1 ?side2 A4.out).mono ?_))|(go_at_call 105;(with_reducible refine(impl_hasTask.calls k _ _ l0_0 a2 false _ ?side1 ?side2 A4.out).mono ?_)));(case side1=>exact z7_5);(case side2=>exact HC0_0.out);rintro e w22 ⟨rfl,hb⟩;(first|refine⟨_,rfl,?_⟩|skip);replace BK481:=Za (Zi (g:=gb481) (o:= .cells #[.slice A0_0 l0_0.length c0_0] 26 (0,0)) z7_10 hb);replace HB:=Za (Zk z7_6 hb);(try clear hb);(try clear hb2);(try clear hk);(try clear hi)))
  go_ret
  exact⟨by first|rfl|(simp[errW_none,errW_some]<;>rfl)|(simp[*,errW_none,errW_some]<;>rfl)|(simp[*,errW_none,errW_some,i64_w];done),by repeat(first|(with_reducible first|exact HB.out|apply Zh|apply Zf|apply Ze|refine Zd ?_ GE481.out)|exact HB.out)⟩
end Go.Proofs.YtjgfldbogjipiaaGreat.G
