/- Functions of the program as plain Lean functions, and that each call comes to its function's answer; written by a program of the session. No condition. -/
import Derived.Test.YtdkbkkpbdmlmbaaGreatGx0
import Derived.Test.YtdkbkkpbdmlmbaaGreatGx2
namespace Go.Proofs.YtdkbkkpbdmlmbaaGreat.G
open Go.RowKit Go.Proofs.YtdkbkkpbdmlmbaaGreatW.PrintWords Go.Proofs.YtdkbkkpbdmlmbaaGreatW.PrintLast Go.Proofs.YtdkbkkpbdmlmbaaGreatW.PrintMore
attribute [local go_sem] max2_int min2_int max_two min_two max_three min_three max_four min_four   -- for this text's walks alone
set_option linter.unusedVariables false
set_option linter.unusedSimpArgs false
theorem z3_0 {P:Prop} (h:P:=by(try simp only[Ys,List.map_cons,List.map_nil]);first|done|rfl|(simp only[List.length_drop,List.length_take];rfl)):P:=h
theorem z3_1 {P:Prop} (h:P:=by repeat(first|(with_reducible first|exact HB.out|apply Zh|apply Zf|apply Ze)|exact HB.out)):P:=h
theorem z3_2 {P:Prop} (h:P:=by repeat(first|(with_reducible first|exact HK.out|apply KeepBut.set_|apply keep_drewN|apply keep_drew|apply keep_alloc|refine keep_far ?_ GW295.out _)|exact HK.out)):P:=h
theorem z3_3 {P:Prop} (h:P:=by repeat(first|(with_reducible first|exact HK.out|apply KeepBut.set_|apply keep_drewN|apply keep_drew|apply keep_alloc)|exact HK.out)):P:=h
theorem z3_4 {P:Prop} (h:P:=by repeat(first|(with_reducible first|exact HI0.out|apply IsS68.alloc|apply IsS68.drewN|apply IsS68.drew|apply IsS68.set_1|apply IsS68.set_2|refine IsS68.far ?_ NB0_295.out _)|exact HI0.out)):P:=h
theorem z3_5 {P:Prop} (h:P:=by repeat(first|(with_reducible first|exact HB.out|apply Zh|apply Zf|apply Ze|refine Zd ?_ (IsS68.ge HI0.out))|exact HB.out)):P:=h
theorem z3_6 {P:Prop} (h:P:=by repeat(first|(with_reducible first|exact HI0.out|apply IsS68.alloc|apply IsS68.drewN|apply IsS68.drew|apply IsS68.set_1|apply IsS68.set_2)|exact HI0.out)):P:=h
theorem z3_7 {P:Prop} (h:P:=by repeat(first|(with_reducible first|exact HB.out|apply Zh|apply Zf|apply Ze|refine Zd ?_ (IsS68.ge HI0.out)|refine Zd ?_ GE295.out)|exact HB.out)):P:=h
theorem z3_8 {P:Prop} (h:P:=by(with_reducible repeat(first|refine blk_drewN ?_ _|refine blk_drew ?_|refine blk_alloc ?_ _));exact BK295.out):P:=h
theorem z3_9 {P:Prop} (h:P:=by(with_reducible repeat(first|refine blk_drewN ?_ _|refine blk_drew ?_|refine blk_alloc ?_ _));exact BK329.out):P:=h
theorem z3_10 {P:Prop} (h:P:=by first|(with_reducible assumption)|assumption):P:=h
theorem z3_11 {P:Prop} (h:P:=by repeat(first|(with_reducible first|exact HB.out|apply Zh|apply Zf|apply Ze|refine Zd ?_ (IsS68.ge HI333.out)|refine Zd ?_ GE329.out)|exact HB.out)):P:=h
theorem z3_12 {P:Prop} (h:P:=by repeat(first|(with_reducible first|exact HI333.out|apply IsS68.alloc|apply IsS68.drewN|apply IsS68.drew|apply IsS68.set_1|apply IsS68.set_2|refine IsS68.far ?_ NB333_329.out _|refine IsS68.far ?_ NB333_339.out _)|exact HI333.out)):P:=h
theorem z3_13 {P:Prop} (h:P:=by repeat(first|(with_reducible first|exact HB.out|apply Zh|apply Zf|apply Ze|refine Zd ?_ (IsS68.ge HI333.out)|refine Zd ?_ GE329.out|refine Zd ?_ GE339.out)|exact HB.out)):P:=h
theorem z3_14 {P:Prop} (h:P:=by(with_reducible repeat(first|apply Zo|apply Zm|apply Zn));exact HO_3.out):P:=h
theorem z3_15 {P:Prop} (h:P:=by repeat(first|(with_reducible first|exact HB.out|apply Zh|apply Zf|apply Ze|refine Zd ?_ (IsS68.ge HI375.out))|exact HB.out)):P:=h
theorem z3_16 {P:Prop} (h:P:=by first|(go_simp;done)|(go_simp;rfl)):P:=h
theorem z3_17 {P:Prop} (h:P:=by first|rfl|(simp;done)|(simp[*];done)):P:=h
theorem z3_18 {P:Prop} (h:P:=by(with_reducible repeat(first|apply Zo|apply Zm|apply Zn));exact HO_5.out):P:=h
theorem z3_19 {P:Prop} (h:P:=by repeat(first|(with_reducible first|exact HI375.out|apply IsS68.alloc|apply IsS68.drewN|apply IsS68.drew|apply IsS68.set_1|apply IsS68.set_2)|exact HI375.out)):P:=h
theorem z3_20 {P:Prop} (h:P:=by kernel_rfl):P:=h
theorem z3_21 {P:Prop} (h:P:=by(with_reducible repeat(first|apply Kd.S_alloc|apply Kd.S_drewN|apply Kd.S_drew));exact HO336.out):P:=h
theorem z3_22 {P:Prop} (h:P:=by(with_reducible repeat(first|apply Kd.S_alloc|apply Kd.S_drewN|apply Kd.S_drew));exact(Kd.S_mono (Kd.S_far (p:=⟨gb339,0,none⟩) (Kd.S_types HO336.out BK339.out (by decide)) (fun _ hk=>hk.2) (.slice Ao13 t334.length co13)) (fun _ h_=>h_.1))):P:=h
theorem z3_23 {P:Prop} (h:P:=by(with_reducible repeat(first|refine blk_drewN ?_ _|refine blk_drew ?_|refine blk_alloc ?_ _));exact BK339.out):P:=h
theorem z3_24 {P:Prop} (h:P:=by repeat(first|(with_reducible first|exact HI333.out|apply IsS68.alloc|apply IsS68.drewN|apply IsS68.drew|apply IsS68.set_1|apply IsS68.set_2|refine IsS68.far ?_ NB333_329.out _)|exact HI333.out)):P:=h
theorem z3_25 {P:Prop} (h:P:=by rw[hg];exact(Yh z3_1)):P:=h
def spec_IsValue.f (a0:Int):Option (Bool):=(spec_l01In.f a0 (-1000000) 1000000).bind fun t264=>(some t264)
set_option maxHeartbeats 8000000 in
set_option maxRecDepth 100000 in
theorem spec_IsValue.calls (a0:Int) (r:Bool) (w:World) (h:spec_IsValue.f a0=some r):
  Calls Tryz.prog 94 #[.int .i64 a0] w fun e w'=>e= .returned (.bool r)∧Drawn0 w w':=by
 have H:((spec_l01In.f a0 (-1000000) 1000000).bind fun t264=>(some t264))=some r:=h
 clear h
 replace H:=Zg H
 obtain⟨t264,A20,H⟩:=H
 replace H:(some t264)=some r:=H
 have A2:=Za A20
 clear A20
 obtain rfl:=Zk H
 go_enter Tryz.func94,Tryz.ntmps94
 go_wp2_with (first|((first|((with_reducible refine gate_callee (f:=41) rfl ?_);refine goesL_ (some 4) rfl rfl Tryz.func41 z3_20 rfl #[.int .i64 a0,.int .i64 (-1000000),.int .i64 1000000] rfl z3_0 ?_;(with_reducible refine(spec_l01In.calls a0 (-1000000) 1000000 t264 _ A2.out).mono ?_))|(go_at_call 41;(with_reducible refine(spec_l01In.calls a0 (-1000000) 1000000 t264 _ A2.out).mono ?_)));rintro e w' ⟨rfl,⟨nd,rfl⟩⟩;(first|refine⟨_,rfl,?_⟩|skip)))
 go_ret
 exact⟨by first|rfl|(simp;done)|(simp[*];done),by repeat(first|exact Zv _|apply Zw)⟩
def spec_VarsOk.l0:Nat→List Int→Int→Option (Bool)
 |0,_,_=>none
 |k+1,x0,x3=>if x3<(x0.length:Int) then (if 0≤x3 then ((spec_IsValue.f (rd x0 x3)).bind fun t266=>(if t266=true then (spec_VarsOk.l0 k x0 (wrap64 (x3+1))) else (some false))) else (none)) else (some ((x0.length:Int)==8))
def spec_VarsOk.f (k:Nat) (l0:List Int):Option (Bool):=spec_VarsOk.l0 k l0 0
theorem spec_VarsOk.mono_l:∀k,(∀y0 y1,LeO (spec_VarsOk.l0 k y0 y1) (spec_VarsOk.l0 (k+1) y0 y1))
 |0=>fun _ _ r h=>by simp[spec_VarsOk.l0] at h
 |k+1=>by
  have ih0:=spec_VarsOk.mono_l k
  ·intro y0 y1
   unfold spec_VarsOk.l0
   repeat' first
   |(with_reducible exact ih0 _ _)
   |(with_reducible exact Yn _)
   |(with_reducible exact Zz _)
   |(with_reducible refine Zu ?_ ?_)
   |(with_reducible refine Zt ?_ (fun _=> ?_))
   |exact ih0 _ _
   |exact Zz _
   |refine Zu ?_ ?_
   |refine Zt ?_ (fun _=> ?_)
theorem spec_VarsOk.mono:∀a0 k,LeO (spec_VarsOk.f k a0) (spec_VarsOk.f (k+1) a0):=by
 intro a0 k
 have ih0:=spec_VarsOk.mono_l k
 unfold spec_VarsOk.f
 repeat' first
   |(with_reducible exact ih0 _ _)
   |(with_reducible exact Yn _)
   |(with_reducible exact Zz _)
   |(with_reducible refine Zu ?_ ?_)
   |(with_reducible refine Zt ?_ (fun _=> ?_))
   |exact ih0 _ _
   |exact Zz _
   |refine Zu ?_ ?_
   |refine Zt ?_ (fun _=> ?_)
set_option maxHeartbeats 8000000 in
set_option maxRecDepth 100000 in
theorem spec_VarsOk.calls (k:Nat) (A0:Option Addr) (c0:Nat) (l0:List Int) (r:Bool) (w:World) (hr0:Kd.C (Kd.int .i64) w A0 l0.length l0) (hc0:l0.length≤c0) (h:spec_VarsOk.f k l0=some r):
  Calls Tryz.prog 67 #[.slice A0 l0.length c0] w fun e w'=>e= .returned (.bool r)∧Drawn0 w w':=by
 have HR0:=Za hr0
 have HC0:=Za hc0
 clear hr0 hc0
 have H:(spec_VarsOk.l0 k l0 0)=some r:=h
 clear h
 have H':=Za H
 clear H
 go_enter Tryz.func67,Tryz.ntmps67
 go_wp2
 go_loopg [3] k (fun kq v3 w'=>∃(x3_1:Int),v3= .int .i64 x3_1∧Aside0 (spec_VarsOk.l0 kq l0 x3_1=some r)∧Aside0 (kq≤k)∧Drawn0 w w')
 case atStart=>exact⟨(0),z3_17,H',⟨Nat.le_refl _⟩,by repeat(first|exact Zv _|apply Zw)⟩
 case round=>
  clear H'
  obtain⟨x3_1,rfl,HA,HK1,⟨m1,rfl⟩⟩:=hrel
  cases gk with
  |zero=>exact absurd HA.out (by simp[spec_VarsOk.l0])
  |succ k1=>
   have H:=HA.out
   clear HA
   simp only[spec_VarsOk.l0] at H
   by_cases c2:x3_1<(l0.length:Int)
   ·rw[if_pos c2] at H
    have c2b0:decide (x3_1<(l0.length:Int))=true:=Zq c2
    clear c2
    by_cases c3:0≤x3_1
    ·rw[if_pos c3] at H
     have c3b0:decide (0≤x3_1)=true:=Zq c3
     clear c3
     replace H:=Zg H
     obtain⟨t266,A40,H⟩:=H
     replace H:(if t266=true then (spec_VarsOk.l0 k1 l0 (wrap64 (x3_1+1))) else (some false))=some r:=H
     have A4:=Za A40
     clear A40
     by_cases c5:t266=true
     ·subst c5
      rw[if_pos rfl] at H
      have H':=Za H
      clear H
      have p265:0≤(x3_1:Int):=Zs z3_10
      have q265:x3_1<(l0.length:Int):=Zs z3_10
      obtain⟨ad265,e265,hx265_0⟩:=Kd.at_int HR0.out x3_1 p265 q265
      cases e265
      replace p265:=eq_true p265
      replace q265:=eq_true q265
      go_wp2_with (first|((first|((with_reducible refine gate_callee (f:=94) rfl ?_);refine goesL_ (some 14) rfl rfl Tryz.func94 z3_20 rfl #[.int .i64 (rd l0 x3_1)] rfl z3_0 ?_;(with_reducible refine(spec_IsValue.calls (rd l0 x3_1) true _ A4.out).mono ?_))|(go_at_call 94;(with_reducible refine(spec_IsValue.calls (rd l0 x3_1) true _ A4.out).mono ?_)));rintro e w' ⟨rfl,⟨nd,rfl⟩⟩;(first|refine⟨_,rfl,?_⟩|skip)))
      go_roundg k1
      case measure=>have:=HK1.out;omega
      case rel=>exact⟨(wrap64 (x3_1+1)),z3_17,H',⟨by have:=HK1.out;omega⟩,by repeat(first|exact Zv _|apply Zw)⟩
     ·replace c5:=Bool.eq_false_iff.mpr c5
      subst c5
      rw[if_neg (show ¬(false=true) by decide)] at H
      obtain rfl:=Zk H
      have p265:0≤(x3_1:Int):=Zs z3_10
      have q265:x3_1<(l0.length:Int):=Zs z3_10
      obtain⟨ad265,e265,hx265_0⟩:=Kd.at_int HR0.out x3_1 p265 q265
      cases e265
      replace p265:=eq_true p265
      replace q265:=eq_true q265
      go_wp2_with (first|((first|((with_reducible refine gate_callee (f:=94) rfl ?_);refine goesL_ (some 14) rfl rfl Tryz.func94 z3_20 rfl #[.int .i64 (rd l0 x3_1)] rfl z3_0 ?_;(with_reducible refine(spec_IsValue.calls (rd l0 x3_1) false _ A4.out).mono ?_))|(go_at_call 94;(with_reducible refine(spec_IsValue.calls (rd l0 x3_1) false _ A4.out).mono ?_)));rintro e w' ⟨rfl,⟨nd,rfl⟩⟩;(first|refine⟨_,rfl,?_⟩|skip)))
      go_ret
      exact⟨by first|rfl|(simp;done)|(simp[*];done),by repeat(first|exact Zv _|apply Zw)⟩
    ·rw[if_neg c3] at H
     exact absurd H (by simp)
   ·rw[if_neg c2] at H
    have c2b0:decide (x3_1<(l0.length:Int))=false:=Yf c2
    clear c2
    obtain rfl:=Zk H
    go_wp2
    go_ret
    exact⟨by first|rfl|(simp;done)|(simp[*];done),by repeat(first|exact Zv _|apply Zw)⟩
def spec_MemNew.f (k:Nat) (l0:List Int):Option (List Int×Bool):=(spec_VarsOk.f k l0).bind fun t267=>(if t267=true then ((some (([]:List Int):List Int)).bind fun y268=>(if y268.length+l0.length<17592186044416 then ((some (y268++l0:List Int)).bind fun y271=>(if y271.length+41<17592186044416 then (some ((y271++List.replicate 41 0),true)) else (none))) else (none))) else (some ((([]:List Int)),false)))
theorem spec_MemNew.mono:∀a0 k,LeO (spec_MemNew.f k a0) (spec_MemNew.f (k+1) a0):=by
 intro a0 k
 unfold spec_MemNew.f
 repeat' first
   |(with_reducible exact spec_VarsOk.mono _ _)
   |(with_reducible exact Yn _)
   |(with_reducible exact Zz _)
   |(with_reducible refine Zu ?_ ?_)
   |(with_reducible refine Zt ?_ (fun _=> ?_))
   |exact spec_VarsOk.mono _ _
   |exact Zz _
   |refine Zu ?_ ?_
   |refine Zt ?_ (fun _=> ?_)
set_option maxHeartbeats 8000000 in
set_option maxRecDepth 100000 in
theorem spec_MemNew.calls (k:Nat) (A0:Option Addr) (c0:Nat) (l0:List Int) (r1:List Int) (r2:Bool) (w:World) (hr0:Kd.C (Kd.int .i64) w A0 l0.length l0) (hc0:l0.length≤c0) (h:spec_MemNew.f k l0=some (r1,r2)):
  Calls Tryz.prog 39 #[.slice A0 l0.length c0] w fun e w'=>∃v0_:Value,e= .returned (.tuple #[v0_,.bool r2])∧Kd.R (Kd.int .i64) 3 w' w.heap.size (fun _=>True) v0_ r1∧Below w.heap.size w w':=by
 have HR0:=Za hr0
 have HC0:=Za hc0
 clear hr0 hc0
 have HB:=Za (Zx w.heap.size w)
 have H:((spec_VarsOk.f k l0).bind fun t267=>(if t267=true then ((some (([]:List Int):List Int)).bind fun y268=>(if y268.length+l0.length<17592186044416 then ((some (y268++l0:List Int)).bind fun y271=>(if y271.length+41<17592186044416 then (some ((y271++List.replicate 41 0),true)) else (none))) else (none))) else (some ((([]:List Int)),false))))=some (r1,r2):=h
 clear h
 replace H:=Zg H
 obtain⟨t267,A20,H⟩:=H
 replace H:(if t267=true then ((some (([]:List Int):List Int)).bind fun y268=>(if y268.length+l0.length<17592186044416 then ((some (y268++l0:List Int)).bind fun y271=>(if y271.length+41<17592186044416 then (some ((y271++List.replicate 41 0),true)) else (none))) else (none))) else (some ((([]:List Int)),false)))=some (r1,r2):=H
 have A2:=Za A20
 clear A20
 by_cases c3:t267=true
 ·subst c3
  have H1:((some (([]:List Int):List Int)).bind fun y268=>(if y268.length+l0.length<17592186044416 then ((some (y268++l0:List Int)).bind fun y271=>(if y271.length+41<17592186044416 then (some ((y271++List.replicate 41 0),true)) else (none))) else (none)))=some (r1,r2):=by rw[if_pos rfl] at H;exact H
  clear H
  have H:=H1
  clear H1
  obtain⟨y268,hy268⟩:∃y_:List Int,y_=(([]:List Int)):=⟨_,rfl⟩
  replace H:(if y268.length+l0.length<17592186044416 then ((some (y268++l0:List Int)).bind fun y271=>(if y271.length+41<17592186044416 then (some ((y271++List.replicate 41 0),true)) else (none))) else (none))=some (r1,r2):=by first|(rw[hy268];with_reducible exact H)|(have H2_:=(Yc _ _).symm.trans H;rw[hy268];with_reducible exact H2_)|(have H2_:=(Yc _ _).symm.trans H;with_reducible exact H2_)|with_reducible exact H|(rw[hy268];exact H)|exact H
  have Ny268:=Za hy268
  clear hy268
  by_cases c4:y268.length+l0.length<17592186044416
  ·rw[if_pos c4] at H
   have LMc4:=Za c4
   clear c4
   obtain⟨y271,hy271⟩:∃y_:List Int,y_=(y268++l0):=⟨_,rfl⟩
   replace H:(if y271.length+41<17592186044416 then (some ((y271++List.replicate 41 0),true)) else (none))=some (r1,r2):=by first|(rw[hy271];with_reducible exact H)|(have H2_:=(Yc _ _).symm.trans H;rw[hy271];with_reducible exact H2_)|(have H2_:=(Yc _ _).symm.trans H;with_reducible exact H2_)|with_reducible exact H|(rw[hy271];exact H)|exact H
   have Ny271:=Za hy271
   clear hy271
   by_cases c5:y271.length+41<17592186044416
   ·rw[if_pos c5] at H
    have LMc5:=Za c5
    clear c5
    obtain⟨y274,hy274⟩:∃y_:List Int,y_=(y271++List.replicate 41 0):=⟨_,rfl⟩
    replace H:(some (y274,true))=some (r1,r2):=by first|(rw[hy274];with_reducible exact H)|(have H2_:=(Yc _ _).symm.trans H;rw[hy274];with_reducible exact H2_)|(have H2_:=(Yc _ _).symm.trans H;with_reducible exact H2_)|with_reducible exact H|(rw[hy274];exact H)|exact H
    have Ny274:=Za hy274
    clear hy274
    simp only[Option.some.injEq,Prod.mk.injEq] at H
    obtain⟨rfl,rfl⟩:=H
    go_enter Tryz.func39,Tryz.ntmps39
    go_wp2_with (first|((first|((with_reducible refine gate_callee (f:=67) rfl ?_);refine goesL_ (some 6) rfl rfl Tryz.func67 z3_20 rfl #[.slice A0 l0.length c0] rfl z3_0 ?_;(with_reducible refine(spec_VarsOk.calls k _ _ l0 true _ ?side1 ?side2 A2.out).mono ?_))|(go_at_call 67;(with_reducible refine(spec_VarsOk.calls k _ _ l0 true _ ?side1 ?side2 A2.out).mono ?_)));(case side1=>repeat(first|exact HR0.out|(with_reducible refine Yi ?_ _)|(with_reducible refine Yg ?_ _)|(with_reducible refine Yj ?_)));(case side2=>exact HC0.out);rintro e w' ⟨rfl,⟨nd,rfl⟩⟩;(first|refine⟨_,rfl,?_⟩|skip))|((with_reducible refine Zp (N:=9) rfl ?_);refine Kd.R_lit (Kd.int .i64) _ 3 ?hg (N:=9) ?hd (xs:=([]:List Int)) (inner:=[]) (ok:=fun _=>True) (okp:=fun _=>True) ?hr ?hp (fun _ hk=>hk) trivial (Zx _ _) (Nat.le_refl _) (by simp) ?_;(case hd=>rfl);(case hg=>rfl);(case hr=>exact z3_16);(case hp=>exact(Reps.none _ _));intro v269 w6 ho7 hb hg_ hnew_;clear hg_ hnew_;(first|rw[←Ny268.out] at ho7|(simp only[Int.reduceToNat] at ho7;rw[←Ny268.out] at ho7));have HO270:=Za (Yr ho7 (Yh z3_1));replace HB:=Za (Zj z3_1 hb);clear hb ho7)|((with_reducible refine gate_builtin (b:= .append) (xs:= #[.tmp 9,.tmp 10]) rfl ?_);at_builtin;refine Kd.R_append_rows (Kd.int .i64) (w0:=w) w.heap.size rfl (.tmp 9) (.tmp 10) 27 3 (.int .i64 0) 8 rfl Tryz.underlying27 info3 rfl (by decide) (by omega) v269 y268 l0 _ _ _ (fun _=>True) (fun _=>False) rfl rfl ?aO ?aR (fun _ _ h=>h) (fun _ h=>h.elim) ?aF ?aB ?aS ?aL ?_;(case aR=>repeat(first|exact(Yl HR0.out HB.out)|(with_reducible refine Yi ?_ _)|(with_reducible refine Yg ?_ _)|(with_reducible refine Yj ?_)));(case aB=>exact z3_1);(case aF=>exact(fun _ _=>trivial));(case aO=>exact(by(with_reducible repeat(first|apply Zo|apply Zm|apply Zn));exact HO270.out));(case aS=>exact(Yh z3_1));(case aL=>have:=LMc4.out;omega);intro v272 w8 ho hb hg hat;rw[←Ny271.out] at ho;have n0_:=Za (hb);have n1_:=Za (ho);clear HB;clear HO270;have HB:=n0_;have HO273:=n1_;clear n0_ n1_;clear ho hb hg hat)|(at_builtin;refine Kd.R_append_zeros (Kd.int .i64) (w0:=w) w.heap.size rfl (.tmp 12) (.const (.int .i64 41)) 27 3 3 (.int .i64 0) 8 rfl Tryz.underlying27 Tryz.underlying3 info3 rfl (by decide) (by omega) v272 y271 0 (41:Int) (fun _=>True) rfl rfl rfl ?aF ?aO (by omega) ?aB ?aS ?aL ?_;(case aB=>exact z3_1);(case aF=>exact(fun _ _=>trivial));(case aO=>exact(by(with_reducible repeat(first|apply Zo|apply Zm|apply Zn));exact HO273.out));(case aS=>exact(Yh z3_1));(case aL=>have:=LMc5.out;omega);intro v275 w9 ho hb hg hat;(try simp only[Int.reduceToNat] at ho);rw[←Ny274.out] at ho;have n0_:=Za (hb);have n1_:=Za (ho);clear HB;clear HO273;have HB:=n0_;have HO276:=n1_;clear n0_ n1_;clear ho hb hg hat))
    go_ret2
    exact⟨_,by first|rfl|(simp[errW_none,errW_some]<;>rfl)|(simp[*,errW_none,errW_some]<;>rfl)|(simp[*,errW_none,errW_some,i64_w];done),by(with_reducible repeat(first|apply Zo|apply Zm|apply Zn));exact HO276.out,by repeat(first|(with_reducible first|exact HB.out|apply Zh|apply Zf|apply Ze)|exact HB.out)⟩
   ·rw[if_neg c5] at H
    exact absurd H (by simp)
  ·rw[if_neg c4] at H
   exact absurd H (by simp)
 ·replace c3:=Bool.eq_false_iff.mpr c3
  subst c3
  have H1:(some ((([]:List Int)),false))=some (r1,r2):=by rw[if_neg (show ¬(false=true) by decide)] at H;exact H
  clear H
  have H:=H1
  clear H1
  obtain⟨y277,hy277⟩:∃y_:List Int,y_=(([]:List Int)):=⟨_,rfl⟩
  replace H:(some (y277,false))=some (r1,r2):=by first|(rw[hy277];with_reducible exact H)|(have H2_:=(Yc _ _).symm.trans H;rw[hy277];with_reducible exact H2_)|(have H2_:=(Yc _ _).symm.trans H;with_reducible exact H2_)|with_reducible exact H|(rw[hy277];exact H)|exact H
  have Ny277:=Za hy277
  clear hy277
  simp only[Option.some.injEq,Prod.mk.injEq] at H
  obtain⟨rfl,rfl⟩:=H
  go_enter Tryz.func39,Tryz.ntmps39
  go_wp2_with (first|((first|((with_reducible refine gate_callee (f:=67) rfl ?_);refine goesL_ (some 6) rfl rfl Tryz.func67 z3_20 rfl #[.slice A0 l0.length c0] rfl z3_0 ?_;(with_reducible refine(spec_VarsOk.calls k _ _ l0 false _ ?side1 ?side2 A2.out).mono ?_))|(go_at_call 67;(with_reducible refine(spec_VarsOk.calls k _ _ l0 false _ ?side1 ?side2 A2.out).mono ?_)));(case side1=>repeat(first|exact HR0.out|(with_reducible refine Yi ?_ _)|(with_reducible refine Yg ?_ _)|(with_reducible refine Yj ?_)));(case side2=>exact HC0.out);rintro e w' ⟨rfl,⟨nd,rfl⟩⟩;(first|refine⟨_,rfl,?_⟩|skip))|((with_reducible refine Zp (N:=8) rfl ?_);refine Kd.R_lit (Kd.int .i64) _ 3 ?hg (N:=8) ?hd (xs:=([]:List Int)) (inner:=[]) (ok:=fun _=>True) (okp:=fun _=>True) ?hr ?hp (fun _ hk=>hk) trivial (Zx _ _) (Nat.le_refl _) (by simp) ?_;(case hd=>rfl);(case hg=>rfl);(case hr=>exact z3_16);(case hp=>exact(Reps.none _ _));intro v278 w10 ho11 hb hg_ hnew_;clear hg_ hnew_;(first|rw[←Ny277.out] at ho11|(simp only[Int.reduceToNat] at ho11;rw[←Ny277.out] at ho11));have HO279:=Za (Yr ho11 (Yh z3_1));replace HB:=Za (Zj z3_1 hb);clear hb ho11))
  go_ret2
  exact⟨_,by first|rfl|(simp[errW_none,errW_some]<;>rfl)|(simp[*,errW_none,errW_some]<;>rfl)|(simp[*,errW_none,errW_some,i64_w];done),by(with_reducible repeat(first|apply Zo|apply Zm|apply Zn));exact HO279.out,by repeat(first|(with_reducible first|exact HB.out|apply Zh|apply Zf|apply Ze)|exact HB.out)⟩
def spec_l03Vars.l0:Nat→List Int→Int→List Int→Int→Int→Option (List Int×Int×Int)
 |0,_,_,_,_,_=>none
 |k+1,x3,x4,x1000,x1001,x1002=>if x4<8 then ((spec_l01Below.f x1000 x1001 x1002 2000).bind fun bt283=>((spec_l01PickInt.f x1000 bt283.2.1 bt283.2.2 (([0,1,2,5,wrap64 (bt283.1 - 1000),1000000]:List Int))).bind fun bt289=>(if x3.length<17592186044416 then (spec_l03Vars.l0 k (x3++[bt289.1]) (wrap64 (x4+1)) x1000 bt289.2.1 bt289.2.2) else (none)))) else (some (x3,x1001,x1002))
def spec_l03Vars.f (k:Nat) (s0_0:List Int) (s0_1:Int) (s0_2:Int):Option (List Int×Int×Int):=spec_l03Vars.l0 k (([]:List Int)) 0 s0_0 s0_1 s0_2
theorem spec_l03Vars.mono_l:∀k,(∀y0 y1 y2 y3 y4,LeO (spec_l03Vars.l0 k y0 y1 y2 y3 y4) (spec_l03Vars.l0 (k+1) y0 y1 y2 y3 y4))
 |0=>fun _ _ _ _ _ r h=>by simp[spec_l03Vars.l0] at h
 |k+1=>by
  have ih0:=spec_l03Vars.mono_l k
  ·intro y0 y1 y2 y3 y4
   unfold spec_l03Vars.l0
   repeat' first
   |(with_reducible exact ih0 _ _ _ _ _)
   |(with_reducible exact Yn _)
   |(with_reducible exact Zz _)
   |(with_reducible refine Zu ?_ ?_)
   |(with_reducible refine Zt ?_ (fun _=> ?_))
   |exact ih0 _ _ _ _ _
   |exact Zz _
   |refine Zu ?_ ?_
   |refine Zt ?_ (fun _=> ?_)
theorem spec_l03Vars.mono:∀a0 a1 a2 k,LeO (spec_l03Vars.f k a0 a1 a2) (spec_l03Vars.f (k+1) a0 a1 a2):=by
 intro a0 a1 a2 k
 have ih0:=spec_l03Vars.mono_l k
 unfold spec_l03Vars.f
 repeat' first
   |(with_reducible exact ih0 _ _ _ _ _)
   |(with_reducible exact Yn _)
   |(with_reducible exact Zz _)
   |(with_reducible refine Zu ?_ ?_)
   |(with_reducible refine Zt ?_ (fun _=> ?_))
   |exact ih0 _ _ _ _ _
   |exact Zz _
   |refine Zu ?_ ?_
   |refine Zt ?_ (fun _=> ?_)
set_option maxHeartbeats 8000000 in
set_option maxRecDepth 100000 in
theorem spec_l03Vars.calls (k:Nat) (g:Nat) (s0_0:List Int) (s0_1:Int) (s0_2:Int) (r1:List Int) (r2:Int) (r3:Int) (w0 w:World) (hI:IsS68 w0 w g s0_0 s0_1 s0_2) (hB:Below w0.heap.size w0 w) (h:spec_l03Vars.f k s0_0 s0_1 s0_2=some (r1,r2,r3)):
  Calls Tryz.prog 40 #[.pointer (some ⟨g,0,none⟩)] w fun e w'=>∃v0_:Value,e= .returned (v0_)∧Kd.R (Kd.int .i64) 3 w' w.heap.size (fun _=>True) v0_ r1∧IsS68 w0 w' g s0_0 r2 r3∧Below w0.heap.size w0 w'∧KeepBut w w' g none:=by
 have HI0:=Za hI
 have HK:=Za (KeepBut.refl w g none)
 have HL:=Za hB.size
 clear hI
 have HW0:=Za hB.size
 have HB:=Za hB
 clear hB
 have H:(spec_l03Vars.l0 k (([]:List Int)) 0 s0_0 s0_1 s0_2)=some (r1,r2,r3):=h
 clear h
 obtain⟨y280,hy280⟩:∃y_:List Int,y_=(([]:List Int)):=⟨_,rfl⟩
 replace H:(spec_l03Vars.l0 k y280 0 s0_0 s0_1 s0_2)=some (r1,r2,r3):=by first|(rw[hy280];with_reducible exact H)|(have H2_:=(Yc _ _).symm.trans H;rw[hy280];with_reducible exact H2_)|(have H2_:=(Yc _ _).symm.trans H;with_reducible exact H2_)|with_reducible exact H|(rw[hy280];exact H)|exact H
 have Ny280:=Za hy280
 clear hy280
 have H':=Za H
 clear H
 go_enter Tryz.func40,Tryz.ntmps40
 go_wp2_with (first|((with_reducible refine Zp (N:=5) rfl ?_);refine Kd.R_lit (Kd.int .i64) _ 3 ?hg (N:=5) ?hd (xs:=([]:List Int)) (inner:=[]) (ok:=fun _=>True) (okp:=fun _=>True) ?hr ?hp (fun _ hk=>hk) trivial (Zx _ _) (Nat.le_refl _) (by simp) ?_;(case hd=>rfl);(case hg=>rfl);(case hr=>exact z3_16);(case hp=>exact(Reps.none _ _));intro v281 w2 ho3 hb hg_ hnew_;clear hg_ hnew_;(first|rw[←Ny280.out] at ho3|(simp only[Int.reduceToNat] at ho3;rw[←Ny280.out] at ho3));have HO282:=Za (Yr ho3 (keep_size (w:=w) (g:=g) (row:=none) z3_3));replace HK:=Za (KeepBut.trans z3_3 (KeepBut.of_below hb g none) (.inl rfl));replace HB:=Za (Zj z3_5 hb);replace HI0:=Za (IsS68.below z3_6 hb);clear hb ho3))
 go_loopg [3,4] k (fun kq v3 v4 w'=>∃(x3_1:List Int) (x4_1:Int) (x1001_1:Int) (x1002_1:Int),v4= .int .i64 x4_1∧Aside0 (spec_l03Vars.l0 kq x3_1 x4_1 s0_0 x1001_1 x1002_1=some (r1,r2,r3))∧Aside0 (kq≤k)∧Aside0 (Kd.R (Kd.int .i64) 3 w' w.heap.size (fun _=>True) v3 x3_1)∧Aside0 (IsS68 w0 w' g s0_0 x1001_1 x1002_1)∧Aside0 (KeepBut w w' g none)∧Aside0 (Below w0.heap.size w0 w'))
 case atStart=>exact⟨(y280),(0),(s0_1),(s0_2),z3_17,H',⟨Nat.le_refl _⟩,⟨by(with_reducible repeat(first|apply Zo|apply Zm|apply Zn));exact HO282.out⟩,⟨by repeat(first|(with_reducible first|exact HI0.out|apply IsS68.alloc|apply IsS68.drewN|apply IsS68.drew|apply IsS68.set_1|apply IsS68.set_2)|exact HI0.out)⟩,⟨by repeat(first|(with_reducible first|exact HK.out|apply KeepBut.set_|apply keep_drewN|apply keep_drew|apply keep_alloc)|exact HK.out)⟩,⟨by repeat(first|(with_reducible first|exact HB.out|apply Zh|apply Zf|apply Ze|refine Zd ?_ (IsS68.ge HI0.out))|exact HB.out)⟩⟩
 case round=>
  clear H'
  obtain⟨x3_1,x4_1,x1001_1,x1002_1,rfl,HA,HK1,HO_3,HI0,HK,HB⟩:=hrel
  cases gk with
  |zero=>exact absurd HA.out (by simp[spec_l03Vars.l0])
  |succ k1=>
   have H:=HA.out
   clear HA
   simp only[spec_l03Vars.l0] at H
   by_cases c4:x4_1<8
   ·rw[if_pos c4] at H
    have c4b0:decide (x4_1<8)=true:=Zq c4
    clear c4
    replace H:=Zg H
    obtain⟨⟨t283,t284,t285⟩,A50,H⟩:=H
    replace H:((spec_l01PickInt.f s0_0 t284 t285 (([0,1,2,5,wrap64 (t283 - 1000),1000000]:List Int))).bind fun bt289=>(if x3_1.length<17592186044416 then (spec_l03Vars.l0 k1 (x3_1++[bt289.1]) (wrap64 (x4_1+1)) s0_0 bt289.2.1 bt289.2.2) else (none)))=some (r1,r2,r3):=H
    have A5:=Za A50
    clear A50
    obtain⟨y286,hy286⟩:∃y_:List Int,y_=(([0,1,2,5,wrap64 (t283 - 1000),1000000]:List Int)):=⟨_,rfl⟩
    replace H:((spec_l01PickInt.f s0_0 t284 t285 y286).bind fun bt289=>(if x3_1.length<17592186044416 then (spec_l03Vars.l0 k1 (x3_1++[bt289.1]) (wrap64 (x4_1+1)) s0_0 bt289.2.1 bt289.2.2) else (none)))=some (r1,r2,r3):=by first|(rw[hy286];with_reducible exact H)|(have H2_:=(Yc _ _).symm.trans H;rw[hy286];with_reducible exact H2_)|(have H2_:=(Yc _ _).symm.trans H;with_reducible exact H2_)|with_reducible exact H|(rw[hy286];exact H)|exact H
    have Ny286:=Za hy286
    clear hy286
    replace H:=Zg H
    obtain⟨⟨t289,t290,t291⟩,A60,H⟩:=H
    replace H:(if x3_1.length<17592186044416 then (spec_l03Vars.l0 k1 (x3_1++[t289]) (wrap64 (x4_1+1)) s0_0 t290 t291) else (none))=some (r1,r2,r3):=H
    have A6:=Za A60
    clear A60
    by_cases c7:x3_1.length<17592186044416
    ·rw[if_pos c7] at H
     have LMc7:=Za c7
     clear c7
     obtain⟨y292,hy292⟩:∃y_:List Int,y_=(x3_1++[t289]):=⟨_,rfl⟩
     replace H:(spec_l03Vars.l0 k1 y292 (wrap64 (x4_1+1)) s0_0 t290 t291)=some (r1,r2,r3):=by first|(rw[hy292];with_reducible exact H)|(have H2_:=(Yc _ _).symm.trans H;rw[hy292];with_reducible exact H2_)|(have H2_:=(Yc _ _).symm.trans H;with_reducible exact H2_)|with_reducible exact H|(rw[hy292];exact H)|exact H
     have Ny292:=Za hy292
     clear hy292
     have H':=Za H
     clear H
     go_wp2_with (first|((first|((with_reducible refine gate_callee (f:=24) rfl ?_);refine goesL_ (some 13) rfl rfl Tryz.func24 z3_20 rfl #[.pointer (some ⟨g,0,none⟩),.int .i64 2000] rfl z3_0 ?_;(with_reducible refine(spec_l01Below.calls g s0_0 x1001_1 x1002_1 2000 t283 t284 t285 w0 _ ?side1 ?side2 A5.out).mono ?_))|(go_at_call 24;(with_reducible refine(spec_l01Below.calls g s0_0 x1001_1 x1002_1 2000 t283 t284 t285 w0 _ ?side1 ?side2 A5.out).mono ?_)));(case side1=>exact z3_6);(case side2=>exact z3_5);rintro e w8 ⟨rfl,hi,hb,hk⟩;(first|refine⟨_,rfl,?_⟩|skip);replace HO_3:=Za (Yk (Kd.R_keep (IsS68.apart (show IsS68 w0 _ g s0_0 x1001_1 x1002_1 from by repeat(first|(with_reducible first|exact HI0.out|apply IsS68.alloc|apply IsS68.drewN|apply IsS68.drew|apply IsS68.set_1|apply IsS68.set_2)|exact HI0.out)) z3_14 (by decide)) hk (fun _ h=>h.2)) (fun _ h=>h.1));replace HK:=Za (KeepBut.trans z3_3 hk (.inl rfl));replace HB:=Za (hb);replace HI0:=Za (hi);(try clear hb);(try clear hb2);(try clear hk);(try clear hi))|((with_reducible refine Zp (N:=15) rfl ?_);refine Kd.R_lit (Kd.int .i64) _ 3 ?hg (N:=15) ?hd (xs:=([0,1,2,5,wrap64 (t283 - 1000),1000000]:List Int)) (inner:=[.int .i64 0,.int .i64 1,.int .i64 2,.int .i64 5,.int .i64 (wrap64 (t283 - 1000)),.int .i64 1000000]) (ok:=fun _=>True) (okp:=fun _=>True) ?hr ?hp (fun _ hk=>hk) trivial (Zx _ _) (Nat.le_refl _) (by simp) ?_;(case hd=>rfl);(case hg=>rfl);(case hr=>exact z3_16);(case hp=>exact(Reps.one (show Kd.M (Kd.int .i64) _ _ _ 0 [.int .i64 0] from rfl) (Reps.one (show Kd.M (Kd.int .i64) _ _ _ 1 [.int .i64 1] from rfl) (Reps.one (show Kd.M (Kd.int .i64) _ _ _ 2 [.int .i64 2] from rfl) (Reps.one (show Kd.M (Kd.int .i64) _ _ _ 5 [.int .i64 5] from rfl) (Reps.one (show Kd.M (Kd.int .i64) _ _ _ (wrap64 (t283 - 1000)) [.int .i64 (wrap64 (t283 - 1000))] from rfl) (Reps.one (show Kd.M (Kd.int .i64) _ _ _ 1000000 [.int .i64 1000000] from rfl) (Reps.none _ _))))))));intro v287 w9 ho10 hb hg_ hnew_;clear hg_ hnew_;(first|rw[←Ny286.out] at ho10|(simp only[Int.reduceToNat] at ho10;rw[←Ny286.out] at ho10));have HO288:=Za (Yr (Kd.R_new' ho10 (Kd.R_lt z3_14)) (keep_size (w:=w) (g:=g) (row:=none) z3_3));replace HO_3:=Za (Kd.R_elder' z3_14 (Yo ho10) hb);replace HK:=Za (KeepBut.trans z3_3 (KeepBut.of_below hb g none) (.inl rfl));replace HB:=Za (Zj z3_5 hb);replace HI0:=Za (IsS68.below z3_6 hb);clear hb ho10;obtain⟨Ao11,co11,eo11⟩:=Ym HO288.out;subst eo11)|((first|((with_reducible refine gate_callee (f:=63) rfl ?_);refine goesL_ (some 16) rfl rfl Tryz.func63 z3_20 rfl #[.pointer (some ⟨g,0,none⟩),.slice Ao11 y286.length co11] rfl z3_0 ?_;(with_reducible refine(spec_l01PickInt.calls g s0_0 t284 t285 _ _ y286 t289 t290 t291 w0 _ ?side1 ?side2 ?side3 ?side4 ?side5 A6.out).mono ?_))|(go_at_call 63;(with_reducible refine(spec_l01PickInt.calls g s0_0 t284 t285 _ _ y286 t289 t290 t291 w0 _ ?side1 ?side2 ?side3 ?side4 ?side5 A6.out).mono ?_)));(case side1=>exact z3_6);(case side2=>exact z3_5);(case side3=>repeat(first|exact(Yp HO288.out).2.2|(with_reducible refine Yi ?_ _)|(with_reducible refine Yg ?_ _)|(with_reducible refine Yj ?_)));(case side4=>exact(Yp HO288.out).2.1);(case side5=>exact far_slice (IsS68.own_ne HI0.out HO288.out (by decide)));rintro e w12 ⟨rfl,hi,hb,hk⟩;(first|refine⟨_,rfl,?_⟩|skip);replace HO_3:=Za (Yk (Kd.R_keep (IsS68.apart (show IsS68 w0 _ g s0_0 t284 t285 from by repeat(first|(with_reducible first|exact HI0.out|apply IsS68.alloc|apply IsS68.drewN|apply IsS68.drew|apply IsS68.set_1|apply IsS68.set_2)|exact HI0.out)) z3_14 (by decide)) hk (fun _ h=>h.2)) (fun _ h=>h.1));replace HO288:=Za (Yk (Kd.R_keep (IsS68.apart (show IsS68 w0 _ g s0_0 t284 t285 from by repeat(first|(with_reducible first|exact HI0.out|apply IsS68.alloc|apply IsS68.drewN|apply IsS68.drew|apply IsS68.set_1|apply IsS68.set_2)|exact HI0.out)) (by(with_reducible repeat(first|apply Zo|apply Zm|apply Zn));exact HO288.out) (by decide)) hk (fun _ h=>h.2)) (fun _ h=>h.1));replace HK:=Za (KeepBut.trans z3_3 hk (.inl rfl));replace HB:=Za (hb);replace HI0:=Za (hi);(try clear hb);(try clear hb2);(try clear hk);(try clear hi))|((with_reducible refine gate_builtin (b:= .append) (xs:= #[.tmp 10,.tmp 17]) rfl ?_);at_builtin;refine Kd.R_append (Kd.int .i64) w.heap.size rfl (.tmp 10) (.tmp 17) 27 3 (.int .i64 0) 8 rfl Tryz.underlying27 info3 rfl (by decide) (by omega) u3 x3_1 t289 [.int .i64 t289] (fun k_=>some k_≠(.slice Ao11 y286.length co11:Value).ownBlock) (fun _=>False) rfl rfl ?aP (fun _ hk=>hk.elim) ?aF ?aO (Zx _ _) ?aS ?aL ?_;(case aP=>exact rfl);(case aF=>exact(fun k_ hk=>Kd.fresh' (Kd.R_lt (by(with_reducible repeat(first|apply Zo|apply Zm|apply Zn));exact HO288.out)) k_ hk));(case aO=>exact(by(with_reducible repeat(first|apply Zo|apply Zm|apply Zn));exact Yk HO_3.out (fun _ hk=>hk.2)));(case aS=>exact(keep_size (w:=w) (g:=g) (row:=none) z3_3));(case aL=>have:=LMc7.out;omega);intro v293 w13 ho hb hg hat;rw[←Ny292.out] at ho;have n0_:=Za (IsS68.grown z3_6 hg (IsS68.own_ne HI0.out HO_3.out (by decide)));have n1_:=Za (Kd.R_after (ok:=(fun _=>True)) (by(with_reducible repeat(first|apply Zo|apply Zm|apply Zn));exact HO288.out) hg hat);have n2_:=Za (below_weaken z3_5 HL.out hb);have n3_:=Za (KeepBut.trans z3_3 (KeepBut.of_grown hg g) (Kd.R_base2 HO_3.out));have n4_:=Za (ho);clear HI0;clear HO288;clear HB;clear HK;clear HO_3;have HI0:=n0_;have HO288:=n1_;have HB:=n2_;have HK:=n3_;have HO294:=n4_;clear n0_ n1_ n2_ n3_ n4_;clear ho hb hg hat))
     go_roundg k1
     case measure=>have:=HK1.out;omega
     case rel=>exact⟨(y292),(wrap64 (x4_1+1)),(t290),(t291),z3_17,H',⟨by have:=HK1.out;omega⟩,⟨by(with_reducible repeat(first|apply Zo|apply Zm|apply Zn));exact Yk HO294.out (fun _ hk=>trivial)⟩,⟨by repeat(first|(with_reducible first|exact HI0.out|apply IsS68.alloc|apply IsS68.drewN|apply IsS68.drew|apply IsS68.set_1|apply IsS68.set_2)|exact HI0.out)⟩,⟨by repeat(first|(with_reducible first|exact HK.out|apply KeepBut.set_|apply keep_drewN|apply keep_drew|apply keep_alloc)|exact HK.out)⟩,⟨by repeat(first|(with_reducible first|exact HB.out|apply Zh|apply Zf|apply Ze|refine Zd ?_ (IsS68.ge HI0.out))|exact HB.out)⟩⟩
    ·rw[if_neg c7] at H
     exact absurd H (by simp)
   ·rw[if_neg c4] at H
    have c4b0:decide (x4_1<8)=false:=Yf c4
    clear c4
    simp only[Option.some.injEq,Prod.mk.injEq] at H
    obtain⟨rfl,rfl,rfl⟩:=H
    go_wp2
    go_ret
    exact⟨_,by first|rfl|(simp[errW_none,errW_some]<;>rfl)|(simp[*,errW_none,errW_some]<;>rfl)|(simp[*,errW_none,errW_some,i64_w];done),by(with_reducible repeat(first|apply Zo|apply Zm|apply Zn));exact HO_3.out,by repeat(first|(with_reducible first|exact HI0.out|apply IsS68.alloc|apply IsS68.drewN|apply IsS68.drew|apply IsS68.set_1|apply IsS68.set_2)|exact HI0.out),by repeat(first|(with_reducible first|exact HB.out|apply Zh|apply Zf|apply Ze|refine Zd ?_ (IsS68.ge HI0.out))|exact HB.out),by repeat(first|(with_reducible first|exact HK.out|apply KeepBut.set_|apply keep_drewN|apply keep_drew|apply keep_alloc)|exact HK.out)⟩
/-! ### spec_l09Mem: function 20 -/
mutual
def spec_l09Mem.l0:Nat→List Int→Int→Int→List Int→Int→Int→List (S75)→Option (List Int×Int×Int)
 |0,_,_,_,_,_,_,_=>none
 |k+1,x5,x7,x8,x1000,x1001,x1002,x296000=>if x8<x7 then ((spec_l01Below.f x1000 x1001 x1002 500).bind fun bt308=>(if 0≤(wrap64 (25+x8)) then (if (wrap64 (25+x8))<(x5.length:Int) then (spec_l09Mem.l0 k (x5.set ((wrap64 (25+x8)):Int).toNat bt308.1) x7 (wrap64 (x8+1)) x1000 bt308.2.1 bt308.2.2 x296000) else (none)) else (none))) else ((spec_l01Below.f x1000 x1001 x1002 2).bind fun bt312=>((spec_l01Below.f x1000 bt312.2.1 bt312.2.2 4).bind fun bt315=>(spec_l09Mem.l1 k x5 x7 (wrap64 (bt312.1*bt315.1)) 0 x1000 bt315.2.1 bt315.2.2 x296000)))
def spec_l09Mem.l1:Nat→List Int→Int→Int→Int→List Int→Int→Int→List (S75)→Option (List Int×Int×Int)
 |0,_,_,_,_,_,_,_,_=>none
 |k+1,x5,x7,x9,x10,x1000,x1001,x1002,x296000=>if x10<x9 then (if 0≤(wrap64 (9+(wrap64 (2*x10)))) then (if (wrap64 (9+(wrap64 (2*x10))))<(x5.length:Int) then ((spec_l01Below.f x1000 x1001 x1002 900).bind fun bt319=>(if 0≤(wrap64 ((wrap64 (9+(wrap64 (2*x10))))+1)) then (if (wrap64 ((wrap64 (9+(wrap64 (2*x10))))+1))<(x5.length:Int) then (spec_l09Mem.l1 k ((x5.set ((wrap64 (9+(wrap64 (2*x10)))):Int).toNat x10).set ((wrap64 ((wrap64 (9+(wrap64 (2*x10))))+1)):Int).toNat bt319.1) x7 x9 (wrap64 (x10+1)) x1000 bt319.2.1 bt319.2.2 x296000) else (none)) else (none))) else (none)) else (none)) else ((spec_l01Below.f x1000 x1001 x1002 (x296000.length:Int)).bind fun bt323=>((spec_PackControl.f bt323.1 x9 x7).bind fun t326=>(if 8<(x5.length:Int) then (some ((x5.set (8:Int).toNat t326),bt323.2.1,bt323.2.2)) else (none))))
end
def spec_l09Mem.f (k:Nat) (s0_0:List Int) (s0_1:Int) (s0_2:Int) (l1_0:List (S75)):Option (List Int×Int×Int):=(spec_l03Vars.f k s0_0 s0_1 s0_2).bind fun bt296=>((spec_MemNew.f k bt296.1).bind fun bt301=>((spec_l01Below.f s0_0 bt296.2.1 bt296.2.2 5).bind fun bt305=>(spec_l09Mem.l0 k bt301.1 bt305.1 0 s0_0 bt305.2.1 bt305.2.2 l1_0)))
theorem spec_l09Mem.mono_l:∀k,(∀y0 y1 y2 y3 y4 y5 y6,LeO (spec_l09Mem.l0 k y0 y1 y2 y3 y4 y5 y6) (spec_l09Mem.l0 (k+1) y0 y1 y2 y3 y4 y5 y6))∧(∀y0 y1 y2 y3 y4 y5 y6 y7,LeO (spec_l09Mem.l1 k y0 y1 y2 y3 y4 y5 y6 y7) (spec_l09Mem.l1 (k+1) y0 y1 y2 y3 y4 y5 y6 y7))
 |0=>⟨fun _ _ _ _ _ _ _ r h=>by simp[spec_l09Mem.l0] at h,fun _ _ _ _ _ _ _ _ r h=>by simp[spec_l09Mem.l1] at h⟩
 |k+1=>by
  obtain⟨ih0,ih1⟩:=spec_l09Mem.mono_l k
  refine⟨?_,?_⟩
  ·intro y0 y1 y2 y3 y4 y5 y6
   unfold spec_l09Mem.l0
   repeat' first
   |(with_reducible exact ih0 _ _ _ _ _ _ _)
   |(with_reducible exact ih1 _ _ _ _ _ _ _ _)
   |(with_reducible exact spec_MemNew.mono _ _)
   |(with_reducible exact spec_l03Vars.mono _ _ _ _)
   |(with_reducible exact Yn _)
   |(with_reducible exact Zz _)
   |(with_reducible refine Zu ?_ ?_)
   |(with_reducible refine Zt ?_ (fun _=> ?_))
   |exact ih0 _ _ _ _ _ _ _
   |exact ih1 _ _ _ _ _ _ _ _
   |exact spec_MemNew.mono _ _
   |exact spec_l03Vars.mono _ _ _ _
   |exact Zz _
   |refine Zu ?_ ?_
   |refine Zt ?_ (fun _=> ?_)
  ·intro y0 y1 y2 y3 y4 y5 y6 y7
   unfold spec_l09Mem.l1
   repeat' first
   |(with_reducible exact ih0 _ _ _ _ _ _ _)
   |(with_reducible exact ih1 _ _ _ _ _ _ _ _)
   |(with_reducible exact spec_MemNew.mono _ _)
   |(with_reducible exact spec_l03Vars.mono _ _ _ _)
   |(with_reducible exact Yn _)
   |(with_reducible exact Zz _)
   |(with_reducible refine Zu ?_ ?_)
   |(with_reducible refine Zt ?_ (fun _=> ?_))
   |exact ih0 _ _ _ _ _ _ _
   |exact ih1 _ _ _ _ _ _ _ _
   |exact spec_MemNew.mono _ _
   |exact spec_l03Vars.mono _ _ _ _
   |exact Zz _
   |refine Zu ?_ ?_
   |refine Zt ?_ (fun _=> ?_)
theorem spec_l09Mem.mono:∀a0 a1 a2 a3 k,LeO (spec_l09Mem.f k a0 a1 a2 a3) (spec_l09Mem.f (k+1) a0 a1 a2 a3):=by
 intro a0 a1 a2 a3 k
 obtain⟨ih0,ih1⟩:=spec_l09Mem.mono_l k
 unfold spec_l09Mem.f
 repeat' first
   |(with_reducible exact ih0 _ _ _ _ _ _ _)
   |(with_reducible exact ih1 _ _ _ _ _ _ _ _)
   |(with_reducible exact spec_MemNew.mono _ _)
   |(with_reducible exact spec_l03Vars.mono _ _ _ _)
   |(with_reducible exact Yn _)
   |(with_reducible exact Zz _)
   |(with_reducible refine Zu ?_ ?_)
   |(with_reducible refine Zt ?_ (fun _=> ?_))
   |exact ih0 _ _ _ _ _ _ _
   |exact ih1 _ _ _ _ _ _ _ _
   |exact spec_MemNew.mono _ _
   |exact spec_l03Vars.mono _ _ _ _
   |exact Zz _
   |refine Zu ?_ ?_
   |refine Zt ?_ (fun _=> ?_)
set_option maxHeartbeats 8000000 in
set_option maxRecDepth 100000 in
theorem spec_l09Mem.calls (k:Nat) (g:Nat) (s0_0:List Int) (s0_1:Int) (s0_2:Int) (A1_0:Option Addr) (c1_0:Nat) (l1_0:List (S75)) (r1:List Int) (r2:Int) (r3:Int) (w0 w:World) (hI:IsS68 w0 w g s0_0 s0_1 s0_2) (hB:Below w0.heap.size w0 w) (hr1_0:∀W_,KeepBut w W_ g none→Kd.C k75 W_ A1_0 l1_0.length l1_0) (hc1_0:l1_0.length≤c1_0) (h:spec_l09Mem.f k s0_0 s0_1 s0_2 l1_0=some (r1,r2,r3)):
  Calls Tryz.prog 20 #[.pointer (some ⟨g,0,none⟩),.agg #[.slice A1_0 l1_0.length c1_0]] w fun e w'=>∃v0_:Value,e= .returned (v0_)∧Kd.R (Kd.int .i64) 3 w' w.heap.size (fun _=>True) v0_ r1∧IsS68 w0 w' g s0_0 r2 r3∧Below w0.heap.size w0 w'∧KeepBut w w' g none:=by
 have hu26:=Tryz.underlying26
 have HR1_0:=Za hr1_0
 have HC1_0:=Za hc1_0
 clear hr1_0 hc1_0
 have HI0:=Za hI
 have HK:=Za (KeepBut.refl w g none)
 have HL:=Za hB.size
 clear hI
 have HW0:=Za hB.size
 have HB:=Za hB
 clear hB
 have H:((spec_l03Vars.f k s0_0 s0_1 s0_2).bind fun bt296=>((spec_MemNew.f k bt296.1).bind fun bt301=>((spec_l01Below.f s0_0 bt296.2.1 bt296.2.2 5).bind fun bt305=>(spec_l09Mem.l0 k bt301.1 bt305.1 0 s0_0 bt305.2.1 bt305.2.2 l1_0))))=some (r1,r2,r3):=h
 clear h
 replace H:=Zg H
 obtain⟨⟨t296,t299,t300⟩,A30,H⟩:=H
 replace H:((spec_MemNew.f k t296).bind fun bt301=>((spec_l01Below.f s0_0 t299 t300 5).bind fun bt305=>(spec_l09Mem.l0 k bt301.1 bt305.1 0 s0_0 bt305.2.1 bt305.2.2 l1_0)))=some (r1,r2,r3):=H
 have A3:=Za A30
 clear A30
 replace H:=Zg H
 obtain⟨⟨t301,t302⟩,A40,H⟩:=H
 replace H:((spec_l01Below.f s0_0 t299 t300 5).bind fun bt305=>(spec_l09Mem.l0 k t301 bt305.1 0 s0_0 bt305.2.1 bt305.2.2 l1_0))=some (r1,r2,r3):=H
 have A4:=Za A40
 clear A40
 replace H:=Zg H
 obtain⟨⟨t305,t306,t307⟩,A50,H⟩:=H
 replace H:(spec_l09Mem.l0 k t301 t305 0 s0_0 t306 t307 l1_0)=some (r1,r2,r3):=H
 have A5:=Za A50
 clear A50
 have H':=Za H
 clear H
 go_enter Tryz.func20,Tryz.ntmps20
 go_wp2_with (first|((with_reducible refine Zp (N:=3) rfl ?_);refine Zr ?hg (N:=3) ?hd (cs:= #[.slice A1_0 l1_0.length c1_0]) (t:=26) ?hr ?_;(case hd=>rfl);(case hg=>rfl);(case hr=>exact z3_16);intro gb295 hg w6 hbox hb;replace HB:=Za (Zj z3_5 hb);have BK295:=Za (hbox);have GW295:=Za ((by rw[hg];exact(keep_size (w:=w) (g:=g) (row:=none) z3_3):w.heap.size≤gb295));have GE295:=Za ((Nat.le_trans HW0.out (by rw[hg];exact(keep_size (w:=w) (g:=g) (row:=none) z3_3):w.heap.size≤gb295):w0.heap.size≤gb295));replace HK:=Za (KeepBut.trans z3_3 (KeepBut.of_below hb g none) (.inl rfl));have NB0_295:=Za ((by rw[hg];exact Nat.ne_of_lt (IsS68.lt (show IsS68 w0 _ g s0_0 s0_1 s0_2 from by repeat(first|(with_reducible first|exact HI0.out|apply IsS68.alloc|apply IsS68.drewN|apply IsS68.drew|apply IsS68.set_1|apply IsS68.set_2)|exact HI0.out))):g≠gb295));have NB295_0:=Za ((by rw[hg];exact Nat.ne_of_gt (IsS68.lt (show IsS68 w0 _ g s0_0 s0_1 s0_2 from by repeat(first|(with_reducible first|exact HI0.out|apply IsS68.alloc|apply IsS68.drewN|apply IsS68.drew|apply IsS68.set_1|apply IsS68.set_2)|exact HI0.out))):gb295≠g));replace HI0:=Za (IsS68.below z3_6 hb);clear hb hbox hg)|((first|((with_reducible refine gate_callee (f:=40) rfl ?_);refine goesL_ (some 13) rfl rfl Tryz.func40 z3_20 rfl #[.pointer (some ⟨g,0,none⟩)] rfl z3_0 ?_;(with_reducible refine(spec_l03Vars.calls k g s0_0 s0_1 s0_2 t296 t299 t300 w0 _ ?side1 ?side2 A3.out).mono ?_))|(go_at_call 40;(with_reducible refine(spec_l03Vars.calls k g s0_0 s0_1 s0_2 t296 t299 t300 w0 _ ?side1 ?side2 A3.out).mono ?_)));(case side1=>exact z3_4);(case side2=>exact z3_7);rintro e w7 ⟨v297,rfl,ho0,hi,hb,hk⟩;(first|refine⟨_,rfl,?_⟩|skip);replace BK295:=Za (KeepBut.blk hk (g':=gb295) (o:= .cells #[.slice A1_0 l1_0.length c1_0] 26 (0,0)) z3_8 NB295_0.out (by simp));have HO298:=Za (Yr ho0 (keep_size (w:=w) (g:=g) (row:=none) z3_2));replace HK:=Za (KeepBut.trans z3_2 hk (.inl rfl));replace HB:=Za (hb);replace HI0:=Za (hi);(try clear hb);(try clear hb2);(try clear hk);(try clear hi);(try clear ho0);obtain⟨Ao8,co8,eo8⟩:=Ym HO298.out;subst eo8)|((first|((with_reducible refine gate_callee (f:=39) rfl ?_);refine goesL_ (some 14) rfl rfl Tryz.func39 z3_20 rfl #[.slice Ao8 t296.length co8] rfl z3_0 ?_;(with_reducible refine(spec_MemNew.calls k _ _ t296 t301 t302 _ ?side1 ?side2 A4.out).mono ?_))|(go_at_call 39;(with_reducible refine(spec_MemNew.calls k _ _ t296 t301 t302 _ ?side1 ?side2 A4.out).mono ?_)));(case side1=>repeat(first|exact(Yp HO298.out).2.2|(with_reducible refine Yi ?_ _)|(with_reducible refine Yg ?_ _)|(with_reducible refine Yj ?_)));(case side2=>exact(Yp HO298.out).2.1);rintro e w9 ⟨v303,rfl,ho0,hb⟩;(first|refine⟨_,rfl,?_⟩|skip);have HO304:=Za (Yr (Kd.R_new' ho0 (Kd.R_lt (by(with_reducible repeat(first|apply Zo|apply Zm|apply Zn));exact HO298.out))) (keep_size (w:=w) (g:=g) (row:=none) z3_2));replace HO298:=Za (Kd.R_elder' (by(with_reducible repeat(first|apply Zo|apply Zm|apply Zn));exact HO298.out) (Yo ho0) hb);replace BK295:=Za (Zi (g:=gb295) (o:= .cells #[.slice A1_0 l1_0.length c1_0] 26 (0,0)) z3_8 hb);replace HK:=Za (KeepBut.trans z3_2 (KeepBut.of_below hb g none) (.inl rfl));replace HB:=Za (Zj z3_7 hb);replace HI0:=Za (IsS68.below z3_4 hb);(try clear hb);(try clear hb2);(try clear hk);(try clear hi);(try clear ho0))|((first|((with_reducible refine gate_callee (f:=24) rfl ?_);refine goesL_ (some 18) rfl rfl Tryz.func24 z3_20 rfl #[.pointer (some ⟨g,0,none⟩),.int .i64 5] rfl z3_0 ?_;(with_reducible refine(spec_l01Below.calls g s0_0 t299 t300 5 t305 t306 t307 w0 _ ?side1 ?side2 A5.out).mono ?_))|(go_at_call 24;(with_reducible refine(spec_l01Below.calls g s0_0 t299 t300 5 t305 t306 t307 w0 _ ?side1 ?side2 A5.out).mono ?_)));(case side1=>exact z3_4);(case side2=>exact z3_7);rintro e w10 ⟨rfl,hi,hb,hk⟩;(first|refine⟨_,rfl,?_⟩|skip);replace BK295:=Za (KeepBut.blk hk (g':=gb295) (o:= .cells #[.slice A1_0 l1_0.length c1_0] 26 (0,0)) z3_8 NB295_0.out (by simp));replace HO298:=Za (Yk (Kd.R_keep (IsS68.apart (show IsS68 w0 _ g s0_0 t299 t300 from by repeat(first|(with_reducible first|exact HI0.out|apply IsS68.alloc|apply IsS68.drewN|apply IsS68.drew|apply IsS68.set_1|apply IsS68.set_2|refine IsS68.far ?_ NB0_295.out _)|exact HI0.out)) (by(with_reducible repeat(first|apply Zo|apply Zm|apply Zn));exact HO298.out) (by decide)) hk (fun _ h=>h.2)) (fun _ h=>h.1));replace HO304:=Za (Yk (Kd.R_keep (IsS68.apart (show IsS68 w0 _ g s0_0 t299 t300 from by repeat(first|(with_reducible first|exact HI0.out|apply IsS68.alloc|apply IsS68.drewN|apply IsS68.drew|apply IsS68.set_1|apply IsS68.set_2|refine IsS68.far ?_ NB0_295.out _)|exact HI0.out)) (by(with_reducible repeat(first|apply Zo|apply Zm|apply Zn));exact HO304.out) (by decide)) hk (fun _ h=>h.2)) (fun _ h=>h.1));replace HK:=Za (KeepBut.trans z3_2 hk (.inl rfl));replace HB:=Za (hb);replace HI0:=Za (hi);(try clear hb);(try clear hb2);(try clear hk);(try clear hi)))
 go_loopg [8] k (fun kq v8 w'=>∃(x5_1:List Int) (x8_1:Int) (x1001_1:Int) (x1002_1:Int),v8= .int .i64 x8_1∧Aside0 (spec_l09Mem.l0 kq x5_1 t305 x8_1 s0_0 x1001_1 x1002_1 l1_0=some (r1,r2,r3))∧Aside0 (kq≤k)∧Aside0 (Kd.R (Kd.int .i64) 3 w' w.heap.size (fun _=>True) v303 x5_1)∧Aside0 (w'.heap[gb295]? =some (.cells #[(.slice A1_0 l1_0.length c1_0)] 26 (0,0)))∧Aside0 (IsS68 w0 w' g s0_0 x1001_1 x1002_1)∧Aside0 (KeepBut w w' g none)∧Aside0 (Below w0.heap.size w0 w'))
 case atStart=>exact⟨(t301),(0),(t306),(t307),z3_17,H',⟨Nat.le_refl _⟩,⟨by(with_reducible repeat(first|apply Zo|apply Zm|apply Zn));exact Yk HO304.out (fun _ hk=>trivial)⟩,⟨by(with_reducible repeat(first|refine blk_drewN ?_ _|refine blk_drew ?_|refine blk_alloc ?_ _));exact BK295.out⟩,⟨by repeat(first|(with_reducible first|exact HI0.out|apply IsS68.alloc|apply IsS68.drewN|apply IsS68.drew|apply IsS68.set_1|apply IsS68.set_2|refine IsS68.far ?_ NB0_295.out _)|exact HI0.out)⟩,⟨by repeat(first|(with_reducible first|exact HK.out|apply KeepBut.set_|apply keep_drewN|apply keep_drew|apply keep_alloc|refine keep_far ?_ GW295.out _)|exact HK.out)⟩,⟨by repeat(first|(with_reducible first|exact HB.out|apply Zh|apply Zf|apply Ze|refine Zd ?_ (IsS68.ge HI0.out)|refine Zd ?_ GE295.out)|exact HB.out)⟩⟩
 case round=>
  clear H'
  obtain⟨x5_1,x8_1,x1001_1,x1002_1,rfl,HA,HK1,HO_5,BK295,HI0,HK,HB⟩:=hrel
  cases gk with
  |zero=>exact absurd HA.out (by simp[spec_l09Mem.l0])
  |succ k1=>
   have H:=HA.out
   clear HA
   simp only[spec_l09Mem.l0] at H
   by_cases c11:x8_1<t305
   ·rw[if_pos c11] at H
    have c11b0:decide (x8_1<t305)=true:=Zq c11
    clear c11
    replace H:=Zg H
    obtain⟨⟨t308,t309,t310⟩,A120,H⟩:=H
    replace H:(if 0≤(wrap64 (25+x8_1)) then (if (wrap64 (25+x8_1))<(x5_1.length:Int) then (spec_l09Mem.l0 k1 (x5_1.set ((wrap64 (25+x8_1)):Int).toNat t308) t305 (wrap64 (x8_1+1)) s0_0 t309 t310 l1_0) else (none)) else (none))=some (r1,r2,r3):=H
    have A12:=Za A120
    clear A120
    obtain⟨ji13,hji13⟩:∃j_:Int,(wrap64 (25+x8_1))=j_:=⟨_,rfl⟩
    replace H:(if 0≤(ji13) then (if (ji13)<(x5_1.length:Int) then (spec_l09Mem.l0 k1 (x5_1.set ((ji13):Int).toNat t308) t305 (wrap64 (x8_1+1)) s0_0 t309 t310 l1_0) else (none)) else (none))=some (r1,r2,r3):=by first|(rw[hji13] at H;exact H)|(simp only[hji13] at H ⊢;exact H)
    (try rw[hji13] at A12)
    have hji13w:(IntKind.i64.wrap (25+x8_1))=ji13:=(i64_w _).trans hji13
    by_cases c14:0≤(ji13)
    ·rw[if_pos c14] at H
     have c14b0:decide (0≤(ji13))=true:=Zq c14
     clear c14
     by_cases c15:(ji13)<(x5_1.length:Int)
     ·rw[if_pos c15] at H
      have c15b0:decide ((ji13)<(x5_1.length:Int))=true:=Zq c15
      clear c15
      obtain⟨y311,hy311⟩:∃y_:List Int,y_=(x5_1.set ((ji13):Int).toNat t308):=⟨_,rfl⟩
      replace H:(spec_l09Mem.l0 k1 y311 t305 (wrap64 (x8_1+1)) s0_0 t309 t310 l1_0)=some (r1,r2,r3):=by first|(rw[hy311];with_reducible exact H)|(have H2_:=(Yc _ _).symm.trans H;rw[hy311];with_reducible exact H2_)|(have H2_:=(Yc _ _).symm.trans H;with_reducible exact H2_)|with_reducible exact H|(rw[hy311];exact H)|exact H
      have Ny311:=Za hy311
      clear hy311
      have H':=Za H
      clear H
      go_wp2_with (first|((first|((with_reducible refine gate_callee (f:=24) rfl ?_);refine goesL_ (some 28) rfl rfl Tryz.func24 z3_20 rfl #[.pointer (some ⟨g,0,none⟩),.int .i64 500] rfl z3_0 ?_;(with_reducible refine(spec_l01Below.calls g s0_0 x1001_1 x1002_1 500 t308 t309 t310 w0 _ ?side1 ?side2 A12.out).mono ?_))|(go_at_call 24;(with_reducible refine(spec_l01Below.calls g s0_0 x1001_1 x1002_1 500 t308 t309 t310 w0 _ ?side1 ?side2 A12.out).mono ?_)));(case side1=>exact z3_4);(case side2=>exact z3_7);rintro e w17 ⟨rfl,hi,hb,hk⟩;(first|refine⟨_,rfl,?_⟩|skip);replace HO_5:=Za (Yk (Kd.R_keep (IsS68.apart (show IsS68 w0 _ g s0_0 x1001_1 x1002_1 from by repeat(first|(with_reducible first|exact HI0.out|apply IsS68.alloc|apply IsS68.drewN|apply IsS68.drew|apply IsS68.set_1|apply IsS68.set_2|refine IsS68.far ?_ NB0_295.out _)|exact HI0.out)) z3_18 (by decide)) hk (fun _ h=>h.2)) (fun _ h=>h.1));replace BK295:=Za (KeepBut.blk hk (g':=gb295) (o:= .cells #[.slice A1_0 l1_0.length c1_0] 26 (0,0)) z3_8 NB295_0.out (by simp));replace HK:=Za (KeepBut.trans z3_2 hk (.inl rfl));replace HB:=Za (hb);replace HI0:=Za (hi);(try clear hb);(try clear hb2);(try clear hk);(try clear hi);have p16:0≤((ji13):Int):=Zs z3_10;have q16:((ji13):Int)<((x5_1.length:Int):Int):=Zs z3_10;obtain⟨go16,co16,eo16,gb16,gl16,cl16,HG16⟩:=Kd.R_form HO_5.out (by omega);(first|cases eo16|(injection eo16 with ea_ en_ ec_;(first|subst ea_|(injection ea_ with ea_;subst ea_));subst ec_;clear en_));have GB16:=Za gb16;have GG16:=Za HG16;clear gb16 gl16 HG16;obtain⟨hx16_0,hf16_0⟩:=Kd.R_celln 0 HO_5.out ((ji13):Int) p16 q16;replace p16:=eq_true p16;replace q16:=eq_true q16;obtain⟨hy18_,hz18_⟩:=Kd.R_celln 0 HO_5.out ((ji13):Int) (Zs z3_10) (Zs z3_10);have HP18:=Kd.R_putg HO_5.out ((ji13):Int) t308)|((with_reducible refine Ye (t:=3) (p:=29) rfl ?_);refine Yd (t:=3) (p:=29) (v:= ?vo_w19) (w1:=(w17.setCell ⟨go16,((ji13):Int).toNat,none⟩ (.int .i64 t308))) ?hg ?ho ?hn ?hr ?_;(case ho=>rfl);(case hg=>rfl);(case hn=>rfl);(case hr=>exact z3_16);intro w19 hw;have hg:w17.grownBy w19 (some go16):=(by rw[hw];exact HP18.2);have hp_:Kd.R (Kd.int .i64) 3 w19 w.heap.size (fun _=>True) (.slice (some ⟨go16,0,none⟩) x5_1.length co16) y311:=(by rw[hw,Ny311.out];exact HP18.1);clear HP18;replace BK295:=Za (blk_grown (g:=gb295) (o:= .cells #[.slice A1_0 l1_0.length c1_0] 26 (0,0)) z3_8 hg (Kd.R_ne HO_5.out BK295.out (by decide)));replace HI0:=Za (IsS68.grown z3_4 hg (IsS68.own_ne HI0.out HO_5.out (by decide)));replace HB:=Za ((by rw[hw];exact Zd (HB.out) (Nat.le_trans HL.out GB16.out):Below w0.heap.size w0 w19));replace HK:=Za (KeepBut.trans z3_2 (KeepBut.of_grown hg g) (Kd.R_base2 HO_5.out));replace HO_5:=Za (hp_);clear hg hw hp_))
      go_roundg k1
      case measure=>have:=HK1.out;omega
      case rel=>exact⟨(y311),(wrap64 (x8_1+1)),(t309),(t310),z3_17,H',⟨by have:=HK1.out;omega⟩,⟨by(with_reducible repeat(first|apply Zo|apply Zm|apply Zn));exact HO_5.out⟩,⟨by(with_reducible repeat(first|refine blk_drewN ?_ _|refine blk_drew ?_|refine blk_alloc ?_ _));exact BK295.out⟩,⟨by repeat(first|(with_reducible first|exact HI0.out|apply IsS68.alloc|apply IsS68.drewN|apply IsS68.drew|apply IsS68.set_1|apply IsS68.set_2|refine IsS68.far ?_ NB0_295.out _)|exact HI0.out)⟩,⟨by repeat(first|(with_reducible first|exact HK.out|apply KeepBut.set_|apply keep_drewN|apply keep_drew|apply keep_alloc|refine keep_far ?_ GW295.out _)|exact HK.out)⟩,⟨by repeat(first|(with_reducible first|exact HB.out|apply Zh|apply Zf|apply Ze|refine Zd ?_ (IsS68.ge HI0.out)|refine Zd ?_ GE295.out)|exact HB.out)⟩⟩
     ·rw[if_neg c15] at H
      exact absurd H (by simp)
    ·rw[if_neg c14] at H
     exact absurd H (by simp)
   ·rw[if_neg c11] at H
    have c11b0:decide (x8_1<t305)=false:=Yf c11
    clear c11
    replace H:=Zg H
    obtain⟨⟨t312,t313,t314⟩,A200,H⟩:=H
    replace H:((spec_l01Below.f s0_0 t313 t314 4).bind fun bt315=>(spec_l09Mem.l1 k1 x5_1 t305 (wrap64 (t312*bt315.1)) 0 s0_0 bt315.2.1 bt315.2.2 l1_0))=some (r1,r2,r3):=H
    have A20:=Za A200
    clear A200
    replace H:=Zg H
    obtain⟨⟨t315,t316,t317⟩,A210,H⟩:=H
    replace H:(spec_l09Mem.l1 k1 x5_1 t305 (wrap64 (t312*t315)) 0 s0_0 t316 t317 l1_0)=some (r1,r2,r3):=H
    have A21:=Za A210
    clear A210
    have H':=Za H
    clear H
    go_wp2_with (first|((first|((with_reducible refine gate_callee (f:=24) rfl ?_);refine goesL_ (some 31) rfl rfl Tryz.func24 z3_20 rfl #[.pointer (some ⟨g,0,none⟩),.int .i64 2] rfl z3_0 ?_;(with_reducible refine(spec_l01Below.calls g s0_0 x1001_1 x1002_1 2 t312 t313 t314 w0 _ ?side1 ?side2 A20.out).mono ?_))|(go_at_call 24;(with_reducible refine(spec_l01Below.calls g s0_0 x1001_1 x1002_1 2 t312 t313 t314 w0 _ ?side1 ?side2 A20.out).mono ?_)));(case side1=>exact z3_4);(case side2=>exact z3_7);rintro e w22 ⟨rfl,hi,hb,hk⟩;(first|refine⟨_,rfl,?_⟩|skip);replace HO_5:=Za (Yk (Kd.R_keep (IsS68.apart (show IsS68 w0 _ g s0_0 x1001_1 x1002_1 from by repeat(first|(with_reducible first|exact HI0.out|apply IsS68.alloc|apply IsS68.drewN|apply IsS68.drew|apply IsS68.set_1|apply IsS68.set_2|refine IsS68.far ?_ NB0_295.out _)|exact HI0.out)) z3_18 (by decide)) hk (fun _ h=>h.2)) (fun _ h=>h.1));replace BK295:=Za (KeepBut.blk hk (g':=gb295) (o:= .cells #[.slice A1_0 l1_0.length c1_0] 26 (0,0)) z3_8 NB295_0.out (by simp));replace HK:=Za (KeepBut.trans z3_2 hk (.inl rfl));replace HB:=Za (hb);replace HI0:=Za (hi);(try clear hb);(try clear hb2);(try clear hk);(try clear hi))|((first|((with_reducible refine gate_callee (f:=24) rfl ?_);refine goesL_ (some 33) rfl rfl Tryz.func24 z3_20 rfl #[.pointer (some ⟨g,0,none⟩),.int .i64 4] rfl z3_0 ?_;(with_reducible refine(spec_l01Below.calls g s0_0 t313 t314 4 t315 t316 t317 w0 _ ?side1 ?side2 A21.out).mono ?_))|(go_at_call 24;(with_reducible refine(spec_l01Below.calls g s0_0 t313 t314 4 t315 t316 t317 w0 _ ?side1 ?side2 A21.out).mono ?_)));(case side1=>exact z3_4);(case side2=>exact z3_7);rintro e w23 ⟨rfl,hi,hb,hk⟩;(first|refine⟨_,rfl,?_⟩|skip);replace HO_5:=Za (Yk (Kd.R_keep (IsS68.apart (show IsS68 w0 _ g s0_0 t313 t314 from by repeat(first|(with_reducible first|exact HI0.out|apply IsS68.alloc|apply IsS68.drewN|apply IsS68.drew|apply IsS68.set_1|apply IsS68.set_2|refine IsS68.far ?_ NB0_295.out _)|exact HI0.out)) z3_18 (by decide)) hk (fun _ h=>h.2)) (fun _ h=>h.1));replace BK295:=Za (KeepBut.blk hk (g':=gb295) (o:= .cells #[.slice A1_0 l1_0.length c1_0] 26 (0,0)) z3_8 NB295_0.out (by simp));replace HK:=Za (KeepBut.trans z3_2 hk (.inl rfl));replace HB:=Za (hb);replace HI0:=Za (hi);(try clear hb);(try clear hb2);(try clear hk);(try clear hi)))
    go_loopg [10] k1 (fun kq v10 w'=>∃(x5_2:List Int) (x10_2:Int) (x1001_2:Int) (x1002_2:Int),v10= .int .i64 x10_2∧Aside0 (spec_l09Mem.l1 kq x5_2 t305 (wrap64 (t312*t315)) x10_2 s0_0 x1001_2 x1002_2 l1_0=some (r1,r2,r3))∧Aside0 (kq≤k1)∧Aside0 (Kd.R (Kd.int .i64) 3 w' w.heap.size (fun _=>True) v303 x5_2)∧Aside0 (w'.heap[gb295]? =some (.cells #[(.slice A1_0 l1_0.length c1_0)] 26 (0,0)))∧Aside0 (IsS68 w0 w' g s0_0 x1001_2 x1002_2)∧Aside0 (KeepBut w w' g none)∧Aside0 (Below w0.heap.size w0 w'))
    case atStart=>exact⟨(x5_1),(0),(t316),(t317),z3_17,H',⟨Nat.le_refl _⟩,⟨by(with_reducible repeat(first|apply Zo|apply Zm|apply Zn));exact HO_5.out⟩,⟨by(with_reducible repeat(first|refine blk_drewN ?_ _|refine blk_drew ?_|refine blk_alloc ?_ _));exact BK295.out⟩,⟨by repeat(first|(with_reducible first|exact HI0.out|apply IsS68.alloc|apply IsS68.drewN|apply IsS68.drew|apply IsS68.set_1|apply IsS68.set_2|refine IsS68.far ?_ NB0_295.out _)|exact HI0.out)⟩,⟨by repeat(first|(with_reducible first|exact HK.out|apply KeepBut.set_|apply keep_drewN|apply keep_drew|apply keep_alloc|refine keep_far ?_ GW295.out _)|exact HK.out)⟩,⟨by repeat(first|(with_reducible first|exact HB.out|apply Zh|apply Zf|apply Ze|refine Zd ?_ (IsS68.ge HI0.out)|refine Zd ?_ GE295.out)|exact HB.out)⟩⟩
    case round=>
     clear H'
     (try clear c11);(try clear c11b0)
     obtain⟨x5_2,x10_2,x1001_2,x1002_2,rfl,HA,HK2,HO_5,BK295,HI0,HK,HB⟩:=hrel
     cases gk with
     |zero=>exact absurd HA.out (by simp[spec_l09Mem.l1])
     |succ k2=>
      have H:=HA.out
      clear HA
      simp only[spec_l09Mem.l1] at H
      by_cases c24:x10_2<(wrap64 (t312*t315))
      ·rw[if_pos c24] at H
       have c24b0:decide (x10_2<(wrap64 (t312*t315)))=true:=Zq c24
       clear c24
       obtain⟨ji25,hji25⟩:∃j_:Int,(wrap64 (9+(wrap64 (2*x10_2))))=j_:=⟨_,rfl⟩
       replace H:(if 0≤(ji25) then (if (ji25)<(x5_2.length:Int) then ((spec_l01Below.f s0_0 x1001_2 x1002_2 900).bind fun bt319=>(if 0≤(wrap64 ((ji25)+1)) then (if (wrap64 ((ji25)+1))<(x5_2.length:Int) then (spec_l09Mem.l1 k2 ((x5_2.set ((ji25):Int).toNat x10_2).set ((wrap64 ((ji25)+1)):Int).toNat bt319.1) t305 (wrap64 (t312*t315)) (wrap64 (x10_2+1)) s0_0 bt319.2.1 bt319.2.2 l1_0) else (none)) else (none))) else (none)) else (none))=some (r1,r2,r3):=by first|(rw[hji25] at H;exact H)|(simp only[hji25] at H ⊢;exact H)
       have hji25w:(IntKind.i64.wrap (9+(wrap64 (2*x10_2))))=ji25:=(i64_w _).trans hji25
       by_cases c26:0≤(ji25)
       ·rw[if_pos c26] at H
        have c26b0:decide (0≤(ji25))=true:=Zq c26
        clear c26
        by_cases c27:(ji25)<(x5_2.length:Int)
        ·rw[if_pos c27] at H
         have c27b0:decide ((ji25)<(x5_2.length:Int))=true:=Zq c27
         clear c27
         obtain⟨y318,hy318⟩:∃y_:List Int,y_=(x5_2.set ((ji25):Int).toNat x10_2):=⟨_,rfl⟩
         replace H:((spec_l01Below.f s0_0 x1001_2 x1002_2 900).bind fun bt319=>(if 0≤(wrap64 ((ji25)+1)) then (if (wrap64 ((ji25)+1))<(x5_2.length:Int) then (spec_l09Mem.l1 k2 (y318.set ((wrap64 ((ji25)+1)):Int).toNat bt319.1) t305 (wrap64 (t312*t315)) (wrap64 (x10_2+1)) s0_0 bt319.2.1 bt319.2.2 l1_0) else (none)) else (none)))=some (r1,r2,r3):=by first|(rw[hy318];with_reducible exact H)|(have H2_:=(Yc _ _).symm.trans H;rw[hy318];with_reducible exact H2_)|(have H2_:=(Yc _ _).symm.trans H;with_reducible exact H2_)|with_reducible exact H|(rw[hy318];exact H)|exact H
         have Ny318:=Za hy318
         clear hy318
         replace H:=Zg H
         obtain⟨⟨t319,t320,t321⟩,A290,H⟩:=H
         replace H:(if 0≤(wrap64 ((ji25)+1)) then (if (wrap64 ((ji25)+1))<(x5_2.length:Int) then (spec_l09Mem.l1 k2 (y318.set ((wrap64 ((ji25)+1)):Int).toNat t319) t305 (wrap64 (t312*t315)) (wrap64 (x10_2+1)) s0_0 t320 t321 l1_0) else (none)) else (none))=some (r1,r2,r3):=H
         have A29:=Za A290
         clear A290
         obtain⟨ji30,hji30⟩:∃j_:Int,(wrap64 ((ji25)+1))=j_:=⟨_,rfl⟩
         replace H:(if 0≤(ji30) then (if (ji30)<(x5_2.length:Int) then (spec_l09Mem.l1 k2 (y318.set ((ji30):Int).toNat t319) t305 (wrap64 (t312*t315)) (wrap64 (x10_2+1)) s0_0 t320 t321 l1_0) else (none)) else (none))=some (r1,r2,r3):=by first|(rw[hji30] at H;exact H)|(simp only[hji30] at H ⊢;exact H)
         (try rw[hji30] at A29)
         have hji30w:(IntKind.i64.wrap ((ji25)+1))=ji30:=(i64_w _).trans hji30
         by_cases c31:0≤(ji30)
         ·rw[if_pos c31] at H
          have c31b0:decide (0≤(ji30))=true:=Zq c31
          clear c31
          by_cases c32:(ji30)<(x5_2.length:Int)
          ·rw[if_pos c32] at H
           have c32b0:decide ((ji30)<(x5_2.length:Int))=true:=Zq c32
           clear c32
           obtain⟨y322,hy322⟩:∃y_:List Int,y_=(y318.set ((ji30):Int).toNat t319):=⟨_,rfl⟩
           replace H:(spec_l09Mem.l1 k2 y322 t305 (wrap64 (t312*t315)) (wrap64 (x10_2+1)) s0_0 t320 t321 l1_0)=some (r1,r2,r3):=by first|(rw[hy322];with_reducible exact H)|(have H2_:=(Yc _ _).symm.trans H;rw[hy322];with_reducible exact H2_)|(have H2_:=(Yc _ _).symm.trans H;with_reducible exact H2_)|with_reducible exact H|(rw[hy322];exact H)|exact H
           have Ny322:=Za hy322
           clear hy322
           have H':=Za H
           clear H
           have p28:0≤((ji25):Int):=Zs z3_10
           have q28:((ji25):Int)<((x5_2.length:Int):Int):=Zs z3_10
           obtain⟨go28,co28,eo28,gb28,gl28,cl28,HG28⟩:=Kd.R_form HO_5.out (by omega)
           (first|cases eo28|(injection eo28 with ea_ en_ ec_;(first|subst ea_|(injection ea_ with ea_;subst ea_));subst ec_;clear en_))
           have GB28:=Za gb28
           have GG28:=Za HG28
           clear gb28 gl28 HG28
           obtain⟨hx28_0,hf28_0⟩:=Kd.R_celln 0 HO_5.out ((ji25):Int) p28 q28
           replace p28:=eq_true p28
           replace q28:=eq_true q28
           have HP34:=Kd.R_putg HO_5.out ((ji25):Int) x10_2
           go_wp2_with (first|((with_reducible refine Ye (t:=3) (p:=45) rfl ?_);refine Yd (t:=3) (p:=45) (v:= ?vo_w35) (w1:=(wr.setCell ⟨go28,((ji25):Int).toNat,none⟩ (.int .i64 x10_2))) ?hg ?ho ?hn ?hr ?_;(case ho=>rfl);(case hg=>rfl);(case hn=>rfl);(case hr=>exact z3_16);intro w35 hw;have hg:wr.grownBy w35 (some go28):=(by rw[hw];exact HP34.2);have hp_:Kd.R (Kd.int .i64) 3 w35 w.heap.size (fun _=>True) (.slice (some ⟨go28,0,none⟩) x5_2.length co28) y318:=(by rw[hw,Ny318.out];exact HP34.1);clear HP34;replace BK295:=Za (blk_grown (g:=gb295) (o:= .cells #[.slice A1_0 l1_0.length c1_0] 26 (0,0)) z3_8 hg (Kd.R_ne HO_5.out BK295.out (by decide)));replace HI0:=Za (IsS68.grown z3_4 hg (IsS68.own_ne HI0.out HO_5.out (by decide)));replace HB:=Za ((by rw[hw];exact Zd (HB.out) (Nat.le_trans HL.out GB28.out):Below w0.heap.size w0 w35));replace HK:=Za (KeepBut.trans z3_2 (KeepBut.of_grown hg g) (Kd.R_base2 HO_5.out));replace HO_5:=Za (hp_);clear hg hw hp_)|((first|((with_reducible refine gate_callee (f:=24) rfl ?_);refine goesL_ (some 52) rfl rfl Tryz.func24 z3_20 rfl #[.pointer (some ⟨g,0,none⟩),.int .i64 900] rfl z3_0 ?_;(with_reducible refine(spec_l01Below.calls g s0_0 x1001_2 x1002_2 900 t319 t320 t321 w0 _ ?side1 ?side2 A29.out).mono ?_))|(go_at_call 24;(with_reducible refine(spec_l01Below.calls g s0_0 x1001_2 x1002_2 900 t319 t320 t321 w0 _ ?side1 ?side2 A29.out).mono ?_)));(case side1=>exact z3_4);(case side2=>exact z3_7);rintro e w36 ⟨rfl,hi,hb,hk⟩;(first|refine⟨_,rfl,?_⟩|skip);replace HO_5:=Za (Yk (Kd.R_keep (IsS68.apart (show IsS68 w0 _ g s0_0 x1001_2 x1002_2 from by repeat(first|(with_reducible first|exact HI0.out|apply IsS68.alloc|apply IsS68.drewN|apply IsS68.drew|apply IsS68.set_1|apply IsS68.set_2|refine IsS68.far ?_ NB0_295.out _)|exact HI0.out)) z3_18 (by decide)) hk (fun _ h=>h.2)) (fun _ h=>h.1));replace BK295:=Za (KeepBut.blk hk (g':=gb295) (o:= .cells #[.slice A1_0 l1_0.length c1_0] 26 (0,0)) z3_8 NB295_0.out (by simp));replace HK:=Za (KeepBut.trans z3_2 hk (.inl rfl));replace HB:=Za (hb);replace HI0:=Za (hi);(try clear hb);(try clear hb2);(try clear hk);(try clear hi);have p33:0≤((ji30):Int):=Zs z3_10;have q33:((ji30):Int)<((x5_2.length:Int):Int):=Zs z3_10;obtain⟨hx33_0,hf33_0⟩:=Kd.R_celln 0 HO_5.out ((ji30):Int) p33 q33;replace p33:=eq_true p33;replace q33:=eq_true q33;obtain⟨hy37_,hz37_⟩:=Kd.R_celln 0 HO_5.out ((ji30):Int) (Zs z3_10) (Zs z3_10);have HP37:=Kd.R_putg HO_5.out ((ji30):Int) t319)|((with_reducible refine Ye (t:=3) (p:=53) rfl ?_);refine Yd (t:=3) (p:=53) (v:= ?vo_w38) (w1:=(w36.setCell ⟨go28,((ji30):Int).toNat,none⟩ (.int .i64 t319))) ?hg ?ho ?hn ?hr ?_;(case ho=>rfl);(case hg=>rfl);(case hn=>rfl);(case hr=>exact z3_16);intro w38 hw;have hg:w36.grownBy w38 (some go28):=(by rw[hw];exact HP37.2);have hp_:Kd.R (Kd.int .i64) 3 w38 w.heap.size (fun _=>True) (.slice (some ⟨go28,0,none⟩) x5_2.length co28) y322:=(by rw[hw,Ny322.out];exact HP37.1);clear HP37;replace BK295:=Za (blk_grown (g:=gb295) (o:= .cells #[.slice A1_0 l1_0.length c1_0] 26 (0,0)) z3_8 hg (Kd.R_ne HO_5.out BK295.out (by decide)));replace HI0:=Za (IsS68.grown z3_4 hg (IsS68.own_ne HI0.out HO_5.out (by decide)));replace HB:=Za ((by rw[hw];exact Zd (HB.out) (Nat.le_trans HL.out GB28.out):Below w0.heap.size w0 w38));replace HK:=Za (KeepBut.trans z3_2 (KeepBut.of_grown hg g) (Kd.R_base2 HO_5.out));replace HO_5:=Za (hp_);clear hg hw hp_))
           go_roundg k2
           case measure=>have:=HK1.out;have:=HK2.out;omega
           case rel=>exact⟨(y322),(wrap64 (x10_2+1)),(t320),(t321),z3_17,H',⟨by have:=HK1.out;have:=HK2.out;omega⟩,⟨by(with_reducible repeat(first|apply Zo|apply Zm|apply Zn));exact HO_5.out⟩,⟨by(with_reducible repeat(first|refine blk_drewN ?_ _|refine blk_drew ?_|refine blk_alloc ?_ _));exact BK295.out⟩,⟨by repeat(first|(with_reducible first|exact HI0.out|apply IsS68.alloc|apply IsS68.drewN|apply IsS68.drew|apply IsS68.set_1|apply IsS68.set_2|refine IsS68.far ?_ NB0_295.out _)|exact HI0.out)⟩,⟨by repeat(first|(with_reducible first|exact HK.out|apply KeepBut.set_|apply keep_drewN|apply keep_drew|apply keep_alloc|refine keep_far ?_ GW295.out _)|exact HK.out)⟩,⟨by repeat(first|(with_reducible first|exact HB.out|apply Zh|apply Zf|apply Ze|refine Zd ?_ (IsS68.ge HI0.out)|refine Zd ?_ GE295.out)|exact HB.out)⟩⟩
          ·rw[if_neg c32] at H
           exact absurd H (by simp)
         ·rw[if_neg c31] at H
          exact absurd H (by simp)
        ·rw[if_neg c27] at H
         exact absurd H (by simp)
       ·rw[if_neg c26] at H
        exact absurd H (by simp)
      ·rw[if_neg c24] at H
       have c24b0:decide (x10_2<(wrap64 (t312*t315)))=false:=Yf c24
       clear c24
       replace H:=Zg H
       obtain⟨⟨t323,t324,t325⟩,A390,H⟩:=H
       replace H:((spec_PackControl.f t323 (wrap64 (t312*t315)) t305).bind fun t326=>(if 8<(x5_2.length:Int) then (some ((x5_2.set (8:Int).toNat t326),t324,t325)) else (none)))=some (r1,r2,r3):=H
       have A39:=Za A390
       clear A390
       replace H:=Zg H
       obtain⟨t326,A400,H⟩:=H
       replace H:(if 8<(x5_2.length:Int) then (some ((x5_2.set (8:Int).toNat t326),t324,t325)) else (none))=some (r1,r2,r3):=H
       have A40:=Za A400
       clear A400
       by_cases c41:8<(x5_2.length:Int)
       ·rw[if_pos c41] at H
        have c41b0:decide (8<(x5_2.length:Int))=true:=Zq c41
        have c41b1:decide (8<x5_2.length)=true:=Zq (by omega)
        clear c41
        obtain⟨y327,hy327⟩:∃y_:List Int,y_=(x5_2.set (8:Int).toNat t326):=⟨_,rfl⟩
        replace H:(some (y327,t324,t325))=some (r1,r2,r3):=by first|(rw[hy327];with_reducible exact H)|(have H2_:=(Yc _ _).symm.trans H;rw[hy327];with_reducible exact H2_)|(have H2_:=(Yc _ _).symm.trans H;with_reducible exact H2_)|with_reducible exact H|(rw[hy327];exact H)|exact H
        have Ny327:=Za hy327
        clear hy327
        simp only[Option.some.injEq,Prod.mk.injEq] at H
        obtain⟨rfl,rfl,rfl⟩:=H
        have hnb43:=NB295_0.out
        have hnc43:=NB0_295.out
        have hcz44_0:wr.cell? ⟨gb295,0,none⟩=some (.slice A1_0 l1_0.length c1_0):=(Zb BK295.out 0).trans rfl
        have hfz44_0:=Zc BK295.out 0
        go_wp2_with (first|((first|((with_reducible refine gate_callee (f:=24) rfl ?_);refine goesL_ (some 59) rfl rfl Tryz.func24 z3_20 rfl #[.pointer (some ⟨g,0,none⟩),.int .i64 (l1_0.length:Int)] rfl z3_0 ?_;(with_reducible refine(spec_l01Below.calls g s0_0 x1001_2 x1002_2 (l1_0.length:Int) t323 t324 t325 w0 _ ?side1 ?side2 A39.out).mono ?_))|(go_at_call 24;(with_reducible refine(spec_l01Below.calls g s0_0 x1001_2 x1002_2 (l1_0.length:Int) t323 t324 t325 w0 _ ?side1 ?side2 A39.out).mono ?_)));(case side1=>exact z3_4);(case side2=>exact z3_7);rintro e w45 ⟨rfl,hi,hb,hk⟩;(first|refine⟨_,rfl,?_⟩|skip);replace HO_5:=Za (Yk (Kd.R_keep (IsS68.apart (show IsS68 w0 _ g s0_0 x1001_2 x1002_2 from by repeat(first|(with_reducible first|exact HI0.out|apply IsS68.alloc|apply IsS68.drewN|apply IsS68.drew|apply IsS68.set_1|apply IsS68.set_2|refine IsS68.far ?_ NB0_295.out _)|exact HI0.out)) z3_18 (by decide)) hk (fun _ h=>h.2)) (fun _ h=>h.1));replace BK295:=Za (KeepBut.blk hk (g':=gb295) (o:= .cells #[.slice A1_0 l1_0.length c1_0] 26 (0,0)) z3_8 NB295_0.out (by simp));replace HK:=Za (KeepBut.trans z3_2 hk (.inl rfl));replace HB:=Za (hb);replace HI0:=Za (hi);(try clear hb);(try clear hb2);(try clear hk);(try clear hi))|((first|((with_reducible refine gate_callee (f:=22) rfl ?_);refine goesL_ (some 62) rfl rfl Tryz.func22 z3_20 rfl #[.int .i64 t323,.int .i64 (wrap64 (t312*t315)),.int .i64 t305] rfl z3_0 ?_;(with_reducible refine(spec_PackControl.calls t323 (wrap64 (t312*t315)) t305 t326 _ A40.out).mono ?_))|(go_at_call 22;(with_reducible refine(spec_PackControl.calls t323 (wrap64 (t312*t315)) t305 t326 _ A40.out).mono ?_)));rintro e w' ⟨rfl,⟨nd,rfl⟩⟩;(first|refine⟨_,rfl,?_⟩|skip);(try(rw[drewN_self w45];generalize hq_:World.drewN w45 _=w45;have n0_:Aside0 (Kd.R (Kd.int .i64) 3 w45 w.heap.size (fun _=>True) v303 x5_2):=⟨by rw[←hq_];exact z3_18⟩;have n1_:Aside0 (w45.heap[gb295]? =some (.cells #[.slice A1_0 l1_0.length c1_0] 26 (0,0))):=⟨by rw[←hq_];exact z3_8⟩;have n2_:Aside0 (IsS68 w0 w45 g s0_0 t324 t325):=⟨by rw[←hq_];exact z3_4⟩;have n3_:Aside0 (KeepBut w w45 g none):=⟨by rw[←hq_];exact z3_2⟩;have n4_:Aside0 (Below w0.heap.size w0 w45):=⟨by rw[←hq_];exact z3_7⟩;clear HO_5 BK295 HI0 HK HB hq_;have HO_5:=n0_;have BK295:=n1_;have HI0:=n2_;have HK:=n3_;have HB:=n4_;clear n0_ n1_ n2_ n3_ n4_));(try(have hcuz46_0:w45.cell? ⟨gb295,0,none⟩=some (.slice A1_0 l1_0.length c1_0):=(Zb BK295.out 0).trans rfl;have hfuz46_0:=Zc BK295.out 0));have p42:0≤(8:Int):=(by omega);have q42:(8:Int)<((x5_2.length:Int):Int):=Zs z3_10;have qi42:(8<x5_2.length)=True:=eq_true (by omega);obtain⟨go42,co42,eo42,gb42,gl42,cl42,HG42⟩:=Kd.R_form HO_5.out (by omega);(first|cases eo42|(injection eo42 with ea_ en_ ec_;(first|subst ea_|(injection ea_ with ea_;subst ea_));subst ec_;clear en_));have GB42:=Za gb42;have GG42:=Za HG42;clear gb42 gl42 HG42;obtain⟨hx42_0,hf42_0⟩:=Kd.R_celln 0 HO_5.out (8:Int) p42 q42;(try rw[show((8:Int)).toNat=8 from rfl] at hx42_0);(try simp only[Nat.reduceMul,Nat.zero_mul,Nat.zero_add,Nat.reduceAdd] at hx42_0);(try rw[show((8:Int)).toNat=8 from rfl] at hf42_0);(try simp only[Nat.reduceMul,Nat.zero_mul,Nat.zero_add,Nat.reduceAdd] at hf42_0);replace p42:=eq_true p42;replace q42:=eq_true q42;obtain⟨hy47_,hz47_⟩:=Kd.R_celln 0 HO_5.out (8:Int) (by omega) (Zs z3_10);(try simp only[Int.reduceToNat,Int.toNat_zero,Int.toNat_ofNat,Nat.reduceMul,Nat.zero_mul,Nat.zero_add] at hy47_ hz47_);(try rw[show((8:Int)).toNat=8 from rfl] at hy47_);(try rw[show((8:Int)).toNat=8 from rfl] at hz47_);have HP47:=Kd.R_putg HO_5.out (8:Int) t326)|((with_reducible refine Ye (t:=3) (p:=63) rfl ?_);refine Yd (t:=3) (p:=63) (v:= ?vo_w48) (w1:=(w45.setCell ⟨go42,(8:Int).toNat,none⟩ (.int .i64 t326))) ?hg ?ho ?hn ?hr ?_;(case ho=>rfl);(case hg=>rfl);(case hn=>rfl);(case hr=>exact z3_16);intro w48 hw;have hg:w45.grownBy w48 (some go42):=(by rw[hw];exact HP47.2);have hp_:Kd.R (Kd.int .i64) 3 w48 w.heap.size (fun _=>True) (.slice (some ⟨go42,0,none⟩) x5_2.length co42) y327:=(by rw[hw,Ny327.out];exact HP47.1);clear HP47;replace BK295:=Za (blk_grown (g:=gb295) (o:= .cells #[.slice A1_0 l1_0.length c1_0] 26 (0,0)) z3_8 hg (Kd.R_ne HO_5.out BK295.out (by decide)));replace HI0:=Za (IsS68.grown z3_4 hg (IsS68.own_ne HI0.out HO_5.out (by decide)));replace HB:=Za ((by rw[hw];exact Zd (HB.out) (Nat.le_trans HL.out GB42.out):Below w0.heap.size w0 w48));replace HK:=Za (KeepBut.trans z3_2 (KeepBut.of_grown hg g) (Kd.R_base2 HO_5.out));replace HO_5:=Za (hp_);clear hg hw hp_))
        go_ret
        exact⟨_,by first|rfl|(simp[errW_none,errW_some]<;>rfl)|(simp[*,errW_none,errW_some]<;>rfl)|(simp[*,errW_none,errW_some,i64_w];done),by(with_reducible repeat(first|apply Zo|apply Zm|apply Zn));exact HO_5.out,by repeat(first|(with_reducible first|exact HI0.out|apply IsS68.alloc|apply IsS68.drewN|apply IsS68.drew|apply IsS68.set_1|apply IsS68.set_2|refine IsS68.far ?_ NB0_295.out _)|exact HI0.out),by repeat(first|(with_reducible first|exact HB.out|apply Zh|apply Zf|apply Ze|refine Zd ?_ (IsS68.ge HI0.out)|refine Zd ?_ GE295.out)|exact HB.out),by repeat(first|(with_reducible first|exact HK.out|apply KeepBut.set_|apply keep_drewN|apply keep_drew|apply keep_alloc|refine keep_far ?_ GW295.out _)|exact HK.out)⟩
       ·rw[if_neg c41] at H
        exact absurd H (by simp)
def spec_UnpackControl.j0:Nat→Int→Bool→Option (Int×Int×Int)
 |0,_,_=>none
 |k+1,x0,x13=>if x13=true then (some ((-1),(-1),(-1))) else ((spec_PackControl.f (Int.tmod x0 8) (Int.tmod (wrap64 (Int.tdiv x0 8)) 16) (wrap64 (Int.tdiv x0 128))).bind fun t328=>(if t328=x0 then (some (Int.tmod x0 8,Int.tmod (wrap64 (Int.tdiv x0 8)) 16,wrap64 (Int.tdiv x0 128))) else (some ((-1),(-1),(-1)))))
def spec_UnpackControl.f (k:Nat) (a0:Int):Option (Int×Int×Int):=if a0<0 then (spec_UnpackControl.j0 k a0 true) else (spec_UnpackControl.j0 k a0 (decide (a0 > 100000)))
theorem spec_UnpackControl.mono_l:∀k,(∀y0 y1,LeO (spec_UnpackControl.j0 k y0 y1) (spec_UnpackControl.j0 (k+1) y0 y1))
 |0=>fun _ _ r h=>by simp[spec_UnpackControl.j0] at h
 |k+1=>by
  have ih0:=spec_UnpackControl.mono_l k
  ·intro y0 y1
   unfold spec_UnpackControl.j0
   repeat' first
   |(with_reducible exact ih0 _ _)
   |(with_reducible exact Yn _)
   |(with_reducible exact Zz _)
   |(with_reducible refine Zu ?_ ?_)
   |(with_reducible refine Zt ?_ (fun _=> ?_))
   |exact ih0 _ _
   |exact Zz _
   |refine Zu ?_ ?_
   |refine Zt ?_ (fun _=> ?_)
theorem spec_UnpackControl.mono:∀a0 k,LeO (spec_UnpackControl.f k a0) (spec_UnpackControl.f (k+1) a0):=by
 intro a0 k
 have ih0:=spec_UnpackControl.mono_l k
 unfold spec_UnpackControl.f
 repeat' first
   |(with_reducible exact ih0 _ _)
   |(with_reducible exact Yn _)
   |(with_reducible exact Zz _)
   |(with_reducible refine Zu ?_ ?_)
   |(with_reducible refine Zt ?_ (fun _=> ?_))
   |exact ih0 _ _
   |exact Zz _
   |refine Zu ?_ ?_
   |refine Zt ?_ (fun _=> ?_)
set_option maxHeartbeats 8000000 in
set_option maxRecDepth 100000 in
theorem spec_UnpackControl.calls (k:Nat) (a0:Int) (r1:Int) (r2:Int) (r3:Int) (w:World) (h:spec_UnpackControl.f k a0=some (r1,r2,r3)):
  Calls Tryz.prog 21 #[.int .i64 a0] w fun e w'=>e= .returned (.tuple #[.int .i64 r1,.int .i64 r2,.int .i64 r3])∧Drawn0 w w':=by
 have H:(if a0<0 then (spec_UnpackControl.j0 k a0 true) else (spec_UnpackControl.j0 k a0 (decide (a0 > 100000))))=some (r1,r2,r3):=h
 clear h
 have HC2:=Za H
 clear H
 go_enter Tryz.func21,Tryz.ntmps21
 go_upto_region 1 with(fail)
 go_cut [13] (fun v13 wc=>∃(kq:Nat) (x13_1:Bool),v13= .bool x13_1∧Aside0 (spec_UnpackControl.j0 kq a0 x13_1=some (r1,r2,r3))∧Aside0 (kq≤k)∧Drawn0 w wc)
 case first=>
  have H:=HC2.out
  clear HC2
  by_cases c3:a0<0
  ·rw[if_pos c3] at H
   have c3b0:decide (a0<0)=true:=Zq c3
   clear c3
   (first|rw[c3b0]|(simp only[i64_w,i32_w];rw[c3b0])|skip)
   have H':=Za H
   clear H
   go_wp2
   go_meet
   case rel=>exact⟨_,(true),z3_17,H',⟨by first|omega|exact Nat.le_refl _⟩,by repeat(first|exact Zv _|apply Zw)⟩
  ·rw[if_neg c3] at H
   have c3b0:decide (a0<0)=false:=Yf c3
   clear c3
   (first|rw[c3b0]|(simp only[i64_w,i32_w];rw[c3b0])|skip)
   have H':=Za H
   clear H
   go_wp2
   go_meet
   case rel=>exact⟨_,(decide (a0 > 100000)),z3_17,H',⟨by first|omega|exact Nat.le_refl _⟩,by repeat(first|exact Zv _|apply Zw)⟩
 case rest=>
  clear HC2
  obtain⟨kq,x13_1,rfl,HA,HJ1,⟨mc1,rfl⟩⟩:=hcut
  cases kq with
  |zero=>exact absurd HA.out (by simp[spec_UnpackControl.j0])
  |succ kj1=>
   have H:=HA.out
   clear HA
   simp only[spec_UnpackControl.j0] at H
   by_cases c4:x13_1=true
   ·subst c4
    have H1:(some ((-1),(-1),(-1)))=some (r1,r2,r3):=by rw[if_pos rfl] at H;exact H
    clear H
    have H:=H1
    clear H1
    simp only[Option.some.injEq,Prod.mk.injEq] at H
    obtain⟨rfl,rfl,rfl⟩:=H
    go_wp2
    go_ret3
    exact⟨by first|rfl|(simp;done)|(simp[*];done),by repeat(first|exact Zv _|apply Zw)⟩
   ·replace c4:=Bool.eq_false_iff.mpr c4
    subst c4
    have H1:((spec_PackControl.f (Int.tmod a0 8) (Int.tmod (wrap64 (Int.tdiv a0 8)) 16) (wrap64 (Int.tdiv a0 128))).bind fun t328=>(if t328=a0 then (some (Int.tmod a0 8,Int.tmod (wrap64 (Int.tdiv a0 8)) 16,wrap64 (Int.tdiv a0 128))) else (some ((-1),(-1),(-1)))))=some (r1,r2,r3):=by rw[if_neg (show ¬(false=true) by decide)] at H;exact H
    clear H
    have H:=H1
    clear H1
    replace H:=Zg H
    obtain⟨t328,A50,H⟩:=H
    replace H:(if t328=a0 then (some (Int.tmod a0 8,Int.tmod (wrap64 (Int.tdiv a0 8)) 16,wrap64 (Int.tdiv a0 128))) else (some ((-1),(-1),(-1))))=some (r1,r2,r3):=H
    have A5:=Za A50
    clear A50
    by_cases c6:t328=a0
    ·rw[if_pos c6] at H
     have c6b0:(t328==a0)=true:=beq_iff_eq.mpr c6
     have c6b1:(t328 != a0)=false:=bne_eq_false_iff_eq.mpr c6
     clear c6
     simp only[Option.some.injEq,Prod.mk.injEq] at H
     obtain⟨rfl,rfl,rfl⟩:=H
     go_wp2_with (first|((first|((with_reducible refine gate_callee (f:=22) rfl ?_);refine goesL_ (some 24) rfl rfl Tryz.func22 z3_20 rfl #[.int .i64 (Int.tmod a0 8),.int .i64 (Int.tmod (wrap64 (Int.tdiv a0 8)) 16),.int .i64 (wrap64 (Int.tdiv a0 128))] rfl z3_0 ?_;(with_reducible refine(spec_PackControl.calls (Int.tmod a0 8) (Int.tmod (wrap64 (Int.tdiv a0 8)) 16) (wrap64 (Int.tdiv a0 128)) t328 _ A5.out).mono ?_))|(go_at_call 22;(with_reducible refine(spec_PackControl.calls (Int.tmod a0 8) (Int.tmod (wrap64 (Int.tdiv a0 8)) 16) (wrap64 (Int.tdiv a0 128)) t328 _ A5.out).mono ?_)));rintro e w' ⟨rfl,⟨nd,rfl⟩⟩;(first|refine⟨_,rfl,?_⟩|skip)))
     go_ret3
     exact⟨by first|rfl|(simp;done)|(simp[*];done),by repeat(first|exact Zv _|apply Zw)⟩
    ·rw[if_neg c6] at H
     have c6b0:(t328==a0)=false:=beq_eq_false_iff_ne.mpr c6
     have c6b1:(t328 != a0)=true:=bne_iff_ne.mpr c6
     simp only[Option.some.injEq,Prod.mk.injEq] at H
     obtain⟨rfl,rfl,rfl⟩:=H
     go_wp2_with (first|((first|((with_reducible refine gate_callee (f:=22) rfl ?_);refine goesL_ (some 24) rfl rfl Tryz.func22 z3_20 rfl #[.int .i64 (Int.tmod a0 8),.int .i64 (Int.tmod (wrap64 (Int.tdiv a0 8)) 16),.int .i64 (wrap64 (Int.tdiv a0 128))] rfl z3_0 ?_;(with_reducible refine(spec_PackControl.calls (Int.tmod a0 8) (Int.tmod (wrap64 (Int.tdiv a0 8)) 16) (wrap64 (Int.tdiv a0 128)) t328 _ A5.out).mono ?_))|(go_at_call 22;(with_reducible refine(spec_PackControl.calls (Int.tmod a0 8) (Int.tmod (wrap64 (Int.tdiv a0 8)) 16) (wrap64 (Int.tdiv a0 128)) t328 _ A5.out).mono ?_)));rintro e w' ⟨rfl,⟨nd,rfl⟩⟩;(first|refine⟨_,rfl,?_⟩|skip)))
     go_ret3
     exact⟨by first|rfl|(simp;done)|(simp[*];done),by repeat(first|exact Zv _|apply Zw)⟩
def spec_DrawMemory.f (k:Nat) (l0:List Int):Option ((List (S75))×List Int):=(spec_l01New.f k l0).bind fun bt330=>((spec_l06Program.f k bt330.1 bt330.2.1 bt330.2.2).bind fun bt334=>((spec_l09Mem.f k bt330.1 bt334.2.1 bt334.2.2 bt334.1).bind fun bt340=>(if 8<(bt340.1.length:Int) then ((spec_UnpackControl.f k (rd bt340.1 8)).bind fun bt346=>((spec_PackControl.f bt346.1 0 bt346.2.2).bind fun t349=>(some (bt334.1,(bt340.1.set (8:Int).toNat t349))))) else (none))))
theorem spec_DrawMemory.mono:∀a0 k,LeO (spec_DrawMemory.f k a0) (spec_DrawMemory.f (k+1) a0):=by
 intro a0 k
 unfold spec_DrawMemory.f
 repeat' first
   |(with_reducible exact spec_UnpackControl.mono _ _)
   |(with_reducible exact spec_l01New.mono _ _)
   |(with_reducible exact spec_l06Program.mono _ _ _ _)
   |(with_reducible exact spec_l09Mem.mono _ _ _ _ _)
   |(with_reducible exact Yn _)
   |(with_reducible exact Zz _)
   |(with_reducible refine Zu ?_ ?_)
   |(with_reducible refine Zt ?_ (fun _=> ?_))
   |exact spec_UnpackControl.mono _ _
   |exact spec_l01New.mono _ _
   |exact spec_l06Program.mono _ _ _ _
   |exact spec_l09Mem.mono _ _ _ _ _
   |exact Zz _
   |refine Zu ?_ ?_
   |refine Zt ?_ (fun _=> ?_)
set_option maxHeartbeats 8000000 in
set_option maxRecDepth 100000 in
theorem spec_DrawMemory.calls (k:Nat) (A0:Option Addr) (c0:Nat) (l0:List Int) (r1:List (S75)) (r2:List Int) (w:World) (hr0:Kd.C (Kd.int .u8) w A0 l0.length l0) (hc0:l0.length≤c0) (h:spec_DrawMemory.f k l0=some (r1,r2)):
  Calls Tryz.prog 6 #[.slice A0 l0.length c0] w fun e w'=>∃v0_ v1_:Value,e= .returned (.tuple #[.agg #[v0_],v1_])∧Kd.S k75 75 w' w.heap.size (fun _=>True) v0_ r1∧Kd.R (Kd.int .i64) 3 w' w.heap.size (fun _=>True) v1_ r2∧Below w.heap.size w w':=by
 have hu26:=Tryz.underlying26
 have HR0:=Za hr0
 have HC0:=Za hc0
 clear hr0 hc0
 have HB:=Za (Zx w.heap.size w)
 have H:((spec_l01New.f k l0).bind fun bt330=>((spec_l06Program.f k bt330.1 bt330.2.1 bt330.2.2).bind fun bt334=>((spec_l09Mem.f k bt330.1 bt334.2.1 bt334.2.2 bt334.1).bind fun bt340=>(if 8<(bt340.1.length:Int) then ((spec_UnpackControl.f k (rd bt340.1 8)).bind fun bt346=>((spec_PackControl.f bt346.1 0 bt346.2.2).bind fun t349=>(some (bt334.1,(bt340.1.set (8:Int).toNat t349))))) else (none)))))=some (r1,r2):=h
 clear h
 replace H:=Zg H
 obtain⟨⟨t330,t331,t332⟩,A20,H⟩:=H
 replace H:((spec_l06Program.f k t330 t331 t332).bind fun bt334=>((spec_l09Mem.f k t330 bt334.2.1 bt334.2.2 bt334.1).bind fun bt340=>(if 8<(bt340.1.length:Int) then ((spec_UnpackControl.f k (rd bt340.1 8)).bind fun bt346=>((spec_PackControl.f bt346.1 0 bt346.2.2).bind fun t349=>(some (bt334.1,(bt340.1.set (8:Int).toNat t349))))) else (none))))=some (r1,r2):=H
 have A2:=Za A20
 clear A20
 replace H:=Zg H
 obtain⟨⟨t334,t337,t338⟩,A30,H⟩:=H
 replace H:((spec_l09Mem.f k t330 t337 t338 t334).bind fun bt340=>(if 8<(bt340.1.length:Int) then ((spec_UnpackControl.f k (rd bt340.1 8)).bind fun bt346=>((spec_PackControl.f bt346.1 0 bt346.2.2).bind fun t349=>(some (t334,(bt340.1.set (8:Int).toNat t349))))) else (none)))=some (r1,r2):=H
 have A3:=Za A30
 clear A30
 replace H:=Zg H
 obtain⟨⟨t340,t343,t344⟩,A40,H⟩:=H
 replace H:(if 8<(t340.length:Int) then ((spec_UnpackControl.f k (rd t340 8)).bind fun bt346=>((spec_PackControl.f bt346.1 0 bt346.2.2).bind fun t349=>(some (t334,(t340.set (8:Int).toNat t349))))) else (none))=some (r1,r2):=H
 have A4:=Za A40
 clear A40
 by_cases c5:8<(t340.length:Int)
 ·rw[if_pos c5] at H
  have c5b0:decide (8<(t340.length:Int))=true:=Zq c5
  have c5b1:decide (8<t340.length)=true:=Zq (by omega)
  clear c5
  replace H:=Zg H
  obtain⟨⟨t346,t347,t348⟩,A60,H⟩:=H
  replace H:((spec_PackControl.f t346 0 t348).bind fun t349=>(some (t334,(t340.set (8:Int).toNat t349))))=some (r1,r2):=H
  have A6:=Za A60
  clear A60
  replace H:=Zg H
  obtain⟨t349,A70,H⟩:=H
  replace H:(some (t334,(t340.set (8:Int).toNat t349)))=some (r1,r2):=H
  have A7:=Za A70
  clear A70
  obtain⟨y350,hy350⟩:∃y_:List Int,y_=(t340.set (8:Int).toNat t349):=⟨_,rfl⟩
  replace H:(some (t334,y350))=some (r1,r2):=by first|(rw[hy350];with_reducible exact H)|(have H2_:=(Yc _ _).symm.trans H;rw[hy350];with_reducible exact H2_)|(have H2_:=(Yc _ _).symm.trans H;with_reducible exact H2_)|with_reducible exact H|(rw[hy350];exact H)|exact H
  have Ny350:=Za hy350
  clear hy350
  simp only[Option.some.injEq,Prod.mk.injEq] at H
  obtain⟨rfl,rfl⟩:=H
  go_enter Tryz.func6,Tryz.ntmps6
  go_wp2_with (first|((with_reducible refine Zp (N:=2) rfl ?_);refine Zr ?hg (N:=2) ?hd (cs:= #[.slice none 0 0]) (t:=26) ?hr ?_;(case hd=>rfl);(case hg=>rfl);(case hr=>exact z3_16);intro gb329 hg w9 hbox hb;have BK329:=Za (hbox);have GW329:=Za ((z3_25:w.heap.size≤gb329));have GE329:=Za ((z3_25:w.heap.size≤gb329));replace HB:=Za (Zj z3_1 hb);clear hb hbox hg)|((first|((with_reducible refine gate_callee (f:=18) rfl ?_);refine goesL_ (some 11) rfl rfl Tryz.func18 z3_20 rfl #[.slice A0 l0.length c0] rfl z3_0 ?_;(with_reducible refine(spec_l01New.calls k _ _ l0 t330 t331 t332 w _ ?side1 ?side2 ?side3 A2.out).mono ?_))|(go_at_call 18;(with_reducible refine(spec_l01New.calls k _ _ l0 t330 t331 t332 w _ ?side1 ?side2 ?side3 A2.out).mono ?_)));(case side1=>repeat(first|(with_reducible first|exact HB.out|apply Zh|apply Zf|apply Ze|refine Zd ?_ GE329.out)|exact HB.out));(case side2=>exact HR0.out);(case side3=>exact HC0.out);rintro e w10 ⟨g333,rfl,hi,hb,hb2⟩;(first|refine⟨_,rfl,?_⟩|skip);replace HB:=Za (hb);have HI333:=Za (hi);have NB333_329:=Za (IsS68.ne_blk hi (Zi (g:=gb329) (o:= .cells #[.slice none 0 0] 26 (0,0)) z3_9 hb2) (by decide));have NB329_333:=Za (Ne.symm (IsS68.ne_blk hi (Zi (g:=gb329) (o:= .cells #[.slice none 0 0] 26 (0,0)) z3_9 hb2) (by decide)));replace BK329:=Za (Zi (g:=gb329) (o:= .cells #[.slice none 0 0] 26 (0,0)) z3_9 hb2);(try clear hb);(try clear hb2);(try clear hk);(try clear hi))|((first|((with_reducible refine gate_callee (f:=19) rfl ?_);refine goesL_ (some 13) rfl rfl Tryz.func19 z3_20 rfl #[.pointer (some ⟨g333,0,none⟩)] rfl z3_0 ?_;(with_reducible refine(spec_l06Program.calls k g333 t330 t331 t332 t334 t337 t338 w _ ?side1 ?side2 A3.out).mono ?_))|(go_at_call 19;(with_reducible refine(spec_l06Program.calls k g333 t330 t331 t332 t334 t337 t338 w _ ?side1 ?side2 A3.out).mono ?_)));(case side1=>exact z3_24);(case side2=>exact z3_11);rintro e w11 ⟨v335,rfl,ho0,hi,hb,hk⟩;(first|refine⟨_,rfl,?_⟩|skip);replace BK329:=Za (KeepBut.blk hk (g':=gb329) (o:= .cells #[.slice none 0 0] 26 (0,0)) z3_9 NB329_333.out (by simp));have HO336:=Za (Kd.S_lower ho0 (Yh z3_11));replace HB:=Za (hb);replace HI333:=Za (hi);(try clear hb);(try clear hb2);(try clear hk);(try clear hi);(try clear ho0))|((with_reducible refine Zp (N:=5) rfl ?_);refine Zr ?hg (N:=5) ?hd (cs:= #[.slice none 0 0]) (t:=26) ?hr ?_;(case hd=>rfl);(case hg=>rfl);(case hr=>exact z3_16);intro gb339 hg w12 hbox hb;replace HO336:=Za (Kd.S_below z3_21 hb);have BK339:=Za (hbox);have GW339:=Za ((by rw[hg];exact(Yh z3_11):w.heap.size≤gb339));have GE339:=Za ((by rw[hg];exact(Yh z3_11):w.heap.size≤gb339));replace HB:=Za (Zj z3_11 hb);have NB329_339:=Za ((by rw[hg];exact Nat.ne_of_lt (blk_lt (g:=gb329) (o:= .cells #[.slice none 0 0] 26 (0,0)) z3_9):gb329≠gb339));have NB339_329:=Za ((by rw[hg];exact Nat.ne_of_gt (blk_lt (g:=gb329) (o:= .cells #[.slice none 0 0] 26 (0,0)) z3_9):gb339≠gb329));replace BK329:=Za (Zi (g:=gb329) (o:= .cells #[.slice none 0 0] 26 (0,0)) z3_9 hb);have NB333_339:=Za ((by rw[hg];exact Nat.ne_of_lt (IsS68.lt (show IsS68 w _ g333 t330 t337 t338 from by repeat(first|(with_reducible first|exact HI333.out|apply IsS68.alloc|apply IsS68.drewN|apply IsS68.drew|apply IsS68.set_1|apply IsS68.set_2|refine IsS68.far ?_ NB333_329.out _)|exact HI333.out))):g333≠gb339));have NB339_333:=Za ((by rw[hg];exact Nat.ne_of_gt (IsS68.lt (show IsS68 w _ g333 t330 t337 t338 from by repeat(first|(with_reducible first|exact HI333.out|apply IsS68.alloc|apply IsS68.drewN|apply IsS68.drew|apply IsS68.set_1|apply IsS68.set_2|refine IsS68.far ?_ NB333_329.out _)|exact HI333.out))):gb339≠g333));replace HI333:=Za (IsS68.below z3_24 hb);clear hb hbox hg;obtain⟨Ao13,co13,eo13⟩:=Kd.S_slice HO336.out;subst eo13;have hnb14:=NB339_329.out;have hnc14:=NB329_339.out;have hnb15:=NB339_333.out;have hnc15:=NB333_339.out;have hcz16_0:w12.cell? ⟨gb339,0,none⟩=some (.slice none 0 0):=(Zb BK339.out 0).trans rfl;have hfz16_0:=Zc BK339.out 0)|((first|((with_reducible refine gate_callee (f:=20) rfl ?_);refine goesL_ (some 16) rfl rfl Tryz.func20 z3_20 rfl #[.pointer (some ⟨g333,0,none⟩),.agg #[.slice Ao13 t334.length co13]] rfl z3_0 ?_;(with_reducible refine(spec_l09Mem.calls k g333 t330 t337 t338 _ _ t334 t340 t343 t344 w _ ?side1 ?side2 ?side3 ?side4 A4.out).mono ?_))|(go_at_call 20;(with_reducible refine(spec_l09Mem.calls k g333 t330 t337 t338 _ _ t334 t340 t343 t344 w _ ?side1 ?side2 ?side3 ?side4 A4.out).mono ?_)));(case side1=>exact z3_12);(case side2=>exact z3_13);(case side3=>exact Kd.C_foot_own ((Kd.S_R (IsS68.apartS (show IsS68 w _ g333 t330 t337 t338 from by repeat(first|(with_reducible first|exact HI333.out|apply IsS68.alloc|apply IsS68.drewN|apply IsS68.drew|apply IsS68.set_1|apply IsS68.set_2|refine IsS68.far ?_ NB333_329.out _|refine IsS68.far ?_ NB333_339.out _)|exact HI333.out)) z3_22 (by decide)))) (fun _ h_=>h_.2));(case side4=>exact(Kd.S_reads' HO336.out).2.1);rintro e w17 ⟨v341,rfl,ho0,hi,hb,hk⟩;(first|refine⟨_,rfl,?_⟩|skip);replace BK329:=Za (KeepBut.blk hk (g':=gb329) (o:= .cells #[.slice none 0 0] 26 (0,0)) (by(with_reducible repeat(first|refine blk_drewN ?_ _|refine blk_drew ?_|refine blk_alloc ?_ _));refine blk_far ?_ NB329_339.out _;(with_reducible repeat(first|refine blk_drewN ?_ _|refine blk_drew ?_|refine blk_alloc ?_ _));exact BK329.out) NB329_333.out (by simp));replace HO336:=Za (Kd.S_mono (Kd.S_keep (IsS68.apartS (show IsS68 w _ g333 t330 t337 t338 from by repeat(first|(with_reducible first|exact HI333.out|apply IsS68.alloc|apply IsS68.drewN|apply IsS68.drew|apply IsS68.set_1|apply IsS68.set_2|refine IsS68.far ?_ NB333_329.out _|refine IsS68.far ?_ NB333_339.out _)|exact HI333.out)) z3_22 (by decide)) hk (fun _ h=>h.2)) (fun _ h=>h.1));replace BK339:=Za (KeepBut.blk hk (g':=gb339) (o:= .cells #[.slice Ao13 t334.length co13] 26 (0,0)) (by(with_reducible repeat(first|refine blk_drewN ?_ _|refine blk_drew ?_|refine blk_alloc ?_ _));refine blk_put (cs:= #[.slice none 0 0]) ?_ 0 _ rfl;(with_reducible repeat(first|refine blk_drewN ?_ _|refine blk_drew ?_|refine blk_alloc ?_ _));exact BK339.out) NB339_333.out (by simp));have HO342:=Za (Yr ho0 (Yh z3_13));replace HB:=Za (hb);replace HI333:=Za (hi);(try clear hb);(try clear hb2);(try clear hk);(try clear hi);(try clear ho0);obtain⟨Ao18,co18,eo18⟩:=Ym HO342.out;subst eo18;have p345:0≤(8:Int):=(by omega);have q345:8<(t340.length:Int):=Zs z3_10;obtain⟨ad345,e345,hx345_0⟩:=Kd.at_int (Yp HO342.out).2.2 8 p345 q345;cases e345;(try simp only[show(8:Int).toNat=8 from rfl,Nat.reduceMul,Nat.reduceEqDiff,Go.Addr.add,↓reduceIte] at hx345_0);have qi345:(8<t340.length)=True:=eq_true (by omega);(try rw[show((8:Int)).toNat=8 from rfl] at hx345_0);replace p345:=eq_true p345;replace q345:=eq_true q345)|((first|((with_reducible refine gate_callee (f:=21) rfl ?_);refine goesL_ (some 21) rfl rfl Tryz.func21 z3_20 rfl #[.int .i64 (rd t340 8)] rfl z3_0 ?_;(with_reducible refine(spec_UnpackControl.calls k (rd t340 8) t346 t347 t348 _ A6.out).mono ?_))|(go_at_call 21;(with_reducible refine(spec_UnpackControl.calls k (rd t340 8) t346 t347 t348 _ A6.out).mono ?_)));rintro e w' ⟨rfl,⟨nd,rfl⟩⟩;(first|refine⟨_,rfl,?_⟩|skip);(try(rw[drewN_self w17];generalize hq_:World.drewN w17 _=w17;have n0_:Aside0 (Kd.S k75 75 w17 w.heap.size (fun _=>True) (.slice Ao13 t334.length co13) t334):=⟨by rw[←hq_];exact z3_21⟩;have n1_:Aside0 (Kd.R (Kd.int .i64) 3 w17 w.heap.size (fun _=>True) (.slice (some ad345) t340.length co18) t340):=⟨by rw[←hq_];exact(by(with_reducible repeat(first|apply Zo|apply Zm|apply Zn));exact HO342.out)⟩;have n2_:Aside0 (w17.heap[gb329]? =some (.cells #[.slice none 0 0] 26 (0,0))):=⟨by rw[←hq_];exact z3_9⟩;have n3_:Aside0 (w17.heap[gb339]? =some (.cells #[.slice Ao13 t334.length co13] 26 (0,0))):=⟨by rw[←hq_];exact z3_23⟩;have n4_:Aside0 (IsS68 w w17 g333 t330 t343 t344):=⟨by rw[←hq_];exact z3_12⟩;have n5_:Aside0 (Below w.heap.size w w17):=⟨by rw[←hq_];exact z3_13⟩;clear HO336 HO342 BK329 BK339 HI333 HB hq_;have HO336:=n0_;have HO342:=n1_;have BK329:=n2_;have BK339:=n3_;have HI333:=n4_;have HB:=n5_;clear n0_ n1_ n2_ n3_ n4_ n5_));(try(have hcuz19_0:w17.cell? ⟨gb329,0,none⟩=some (.slice none 0 0):=(Zb BK329.out 0).trans rfl;have hfuz19_0:=Zc BK329.out 0));(try(have hcuz20_0:w17.cell? ⟨gb339,0,none⟩=some (.slice Ao13 t334.length co13):=(Zb BK339.out 0).trans rfl;have hfuz20_0:=Zc BK339.out 0)))|((first|((with_reducible refine gate_callee (f:=22) rfl ?_);refine goesL_ (some 28) rfl rfl Tryz.func22 z3_20 rfl #[.int .i64 t346,.int .i64 0,.int .i64 t348] rfl z3_0 ?_;(with_reducible refine(spec_PackControl.calls t346 0 t348 t349 _ A7.out).mono ?_))|(go_at_call 22;(with_reducible refine(spec_PackControl.calls t346 0 t348 t349 _ A7.out).mono ?_)));rintro e w' ⟨rfl,⟨nd,rfl⟩⟩;(first|refine⟨_,rfl,?_⟩|skip);(try(rw[drewN_self w17];generalize hq_:World.drewN w17 _=w17;have n0_:Aside0 (Kd.S k75 75 w17 w.heap.size (fun _=>True) (.slice Ao13 t334.length co13) t334):=⟨by rw[←hq_];exact z3_21⟩;have n1_:Aside0 (Kd.R (Kd.int .i64) 3 w17 w.heap.size (fun _=>True) (.slice (some ad345) t340.length co18) t340):=⟨by rw[←hq_];exact(by(with_reducible repeat(first|apply Zo|apply Zm|apply Zn));exact HO342.out)⟩;have n2_:Aside0 (w17.heap[gb329]? =some (.cells #[.slice none 0 0] 26 (0,0))):=⟨by rw[←hq_];exact z3_9⟩;have n3_:Aside0 (w17.heap[gb339]? =some (.cells #[.slice Ao13 t334.length co13] 26 (0,0))):=⟨by rw[←hq_];exact z3_23⟩;have n4_:Aside0 (IsS68 w w17 g333 t330 t343 t344):=⟨by rw[←hq_];exact z3_12⟩;have n5_:Aside0 (Below w.heap.size w w17):=⟨by rw[←hq_];exact z3_13⟩;clear HO336 HO342 BK329 BK339 HI333 HB hq_;have HO336:=n0_;have HO342:=n1_;have BK329:=n2_;have BK339:=n3_;have HI333:=n4_;have HB:=n5_;clear n0_ n1_ n2_ n3_ n4_ n5_));(try(have hcuz21_0:w17.cell? ⟨gb329,0,none⟩=some (.slice none 0 0):=(Zb BK329.out 0).trans rfl;have hfuz21_0:=Zc BK329.out 0));(try(have hcuz22_0:w17.cell? ⟨gb339,0,none⟩=some (.slice Ao13 t334.length co13):=(Zb BK339.out 0).trans rfl;have hfuz22_0:=Zc BK339.out 0));have p8:0≤(8:Int):=(by omega);have q8:(8:Int)<((t340.length:Int):Int):=Zs z3_10;have qi8:(8<t340.length)=True:=eq_true (by omega);obtain⟨go8,co8,eo8,gb8,gl8,cl8,HG8⟩:=Kd.R_form HO342.out (by omega);(first|cases eo8|(injection eo8 with ea_ en_ ec_;(first|subst ea_|(injection ea_ with ea_;subst ea_));subst ec_;clear en_));have GB8:=Za gb8;have GG8:=Za HG8;clear gb8 gl8 HG8;(first|simp only[add_plain] at hx345_0|skip);obtain⟨hx8_0,hf8_0⟩:=Kd.R_celln 0 HO342.out (8:Int) p8 q8;(try rw[show((8:Int)).toNat=8 from rfl] at hx8_0);(try simp only[Nat.reduceMul,Nat.zero_mul,Nat.zero_add,Nat.reduceAdd] at hx8_0);(try rw[show((8:Int)).toNat=8 from rfl] at hf8_0);(try simp only[Nat.reduceMul,Nat.zero_mul,Nat.zero_add,Nat.reduceAdd] at hf8_0);replace p8:=eq_true p8;replace q8:=eq_true q8;obtain⟨hy23_,hz23_⟩:=Kd.R_celln 0 HO342.out (8:Int) (by omega) (Zs z3_10);(try simp only[Int.reduceToNat,Int.toNat_zero,Int.toNat_ofNat,Nat.reduceMul,Nat.zero_mul,Nat.zero_add] at hy23_ hz23_);(try rw[show((8:Int)).toNat=8 from rfl] at hy23_);(try rw[show((8:Int)).toNat=8 from rfl] at hz23_);have HP23:=Kd.R_putg HO342.out (8:Int) t349)|((with_reducible refine Ye (t:=3) (p:=29) rfl ?_);refine Yd (t:=3) (p:=29) (v:= ?vo_w24) (w1:=(w17.setCell ⟨go8,(8:Int).toNat,none⟩ (.int .i64 t349))) ?hg ?ho ?hn ?hr ?_;(case ho=>rfl);(case hg=>rfl);(case hn=>rfl);(case hr=>exact z3_16);intro w24 hw;have hg:w17.grownBy w24 (some go8):=(by rw[hw];exact HP23.2);have hp_:Kd.R (Kd.int .i64) 3 w24 w.heap.size (fun _=>True) (.slice (some ⟨go8,0,none⟩) t340.length co18) y350:=(by rw[hw,Ny350.out];exact HP23.1);clear HP23;replace BK329:=Za (blk_grown (g:=gb329) (o:= .cells #[.slice none 0 0] 26 (0,0)) z3_9 hg (Kd.R_ne HO342.out BK329.out (by decide)));replace HI333:=Za (IsS68.grown z3_12 hg (IsS68.own_ne HI333.out HO342.out (by decide)));replace HO336:=Za (Kd.S_over' (v:=(.slice (some ⟨go8,0,none⟩) t340.length co18)) z3_21 (Kd.R_typed HO342.out) (by decide) hg);replace BK339:=Za (blk_grown (g:=gb339) (o:= .cells #[.slice Ao13 t334.length co13] 26 (0,0)) z3_23 hg (Kd.R_ne HO342.out BK339.out (by decide)));replace HO342:=Za (hp_);replace HB:=Za ((by rw[hw];exact Zd (HB.out) GB8.out:Below w.heap.size w w24));clear hg hw hp_;have hcz25_0:w24.cell? ⟨gb339,0,none⟩=some (.slice Ao13 t334.length co13):=(Zb BK339.out 0).trans rfl;have hfz25_0:=Zc BK339.out 0;have hnb26:=NB329_333.out;have hnc26:=NB333_329.out;have hcz27_0:w24.cell? ⟨gb329,0,none⟩=some (.slice none 0 0):=(Zb BK329.out 0).trans rfl;have hfz27_0:=Zc BK329.out 0))
  refine bodyPost_ret (results_ct rfl _ _ gb329 26 #[.slice Ao13 t334.length co13] (0,0) _ rfl (by(with_reducible repeat(first|refine blk_drewN ?_ _|refine blk_drew ?_|refine blk_alloc ?_ _));refine blk_put (cs:= #[.slice none 0 0]) ?_ 0 _ rfl;(with_reducible repeat(first|refine blk_drewN ?_ _|refine blk_drew ?_|refine blk_alloc ?_ _));exact BK329.out) Tryz.underlying26 rfl z3_20) rfl ?_
  exact⟨_,_,by first|rfl|(simp[errW_none,errW_some]<;>rfl)|(simp[*,errW_none,errW_some]<;>rfl)|(simp[*,errW_none,errW_some,i64_w];done),by(with_reducible repeat(first|apply Kd.S_alloc|apply Kd.S_drewN|apply Kd.S_drew));exact Kd.S_mono (Kd.S_far (p:=⟨gb329,0,none⟩) (Kd.S_types HO336.out BK329.out (by decide)) (fun _ hk=>hk.2) (.slice Ao13 t334.length co13)) (fun _ hk=>trivial),by(with_reducible repeat(first|apply Zo|apply Zm|apply Zn));exact Yk (Kd.R_far (p:=⟨gb329,0,none⟩) (Kd.R_types HO342.out BK329.out (by decide)) (fun _ hk=>hk.2) (.slice Ao13 t334.length co13)) (fun _ hk=>trivial),by repeat(first|(with_reducible first|exact HB.out|apply Zh|apply Zf|apply Ze|refine Zd ?_ (IsS68.ge HI333.out)|refine Zd ?_ GE329.out|refine Zd ?_ GE339.out)|exact HB.out)⟩
 ·rw[if_neg c5] at H
  exact absurd H (by simp)
def spec_l12Readings.l0:Nat→List Int→Int→List Int→Int→Int→Option (List Int×Int×Int)
 |0,_,_,_,_,_=>none
 |k+1,x3,x4,x1000,x1001,x1002=>(spec_l01Below.f x1000 x1001 x1002 9).bind fun bt354=>(if x4<(wrap64 (1+bt354.1)) then ((spec_l01Below.f x1000 bt354.2.1 bt354.2.2 800).bind fun bt357=>(if x3.length<17592186044416 then (spec_l12Readings.l0 k (x3++[wrap64 (bt357.1 - 200)]) (wrap64 (x4+1)) x1000 bt357.2.1 bt357.2.2) else (none))) else (some (x3,bt354.2.1,bt354.2.2)))
def spec_l12Readings.f (k:Nat) (s0_0:List Int) (s0_1:Int) (s0_2:Int):Option (List Int×Int×Int):=spec_l12Readings.l0 k (([]:List Int)) 0 s0_0 s0_1 s0_2
theorem spec_l12Readings.mono_l:∀k,(∀y0 y1 y2 y3 y4,LeO (spec_l12Readings.l0 k y0 y1 y2 y3 y4) (spec_l12Readings.l0 (k+1) y0 y1 y2 y3 y4))
 |0=>fun _ _ _ _ _ r h=>by simp[spec_l12Readings.l0] at h
 |k+1=>by
  have ih0:=spec_l12Readings.mono_l k
  ·intro y0 y1 y2 y3 y4
   unfold spec_l12Readings.l0
   repeat' first
   |(with_reducible exact ih0 _ _ _ _ _)
   |(with_reducible exact Yn _)
   |(with_reducible exact Zz _)
   |(with_reducible refine Zu ?_ ?_)
   |(with_reducible refine Zt ?_ (fun _=> ?_))
   |exact ih0 _ _ _ _ _
   |exact Zz _
   |refine Zu ?_ ?_
   |refine Zt ?_ (fun _=> ?_)
theorem spec_l12Readings.mono:∀a0 a1 a2 k,LeO (spec_l12Readings.f k a0 a1 a2) (spec_l12Readings.f (k+1) a0 a1 a2):=by
 intro a0 a1 a2 k
 have ih0:=spec_l12Readings.mono_l k
 unfold spec_l12Readings.f
 repeat' first
   |(with_reducible exact ih0 _ _ _ _ _)
   |(with_reducible exact Yn _)
   |(with_reducible exact Zz _)
   |(with_reducible refine Zu ?_ ?_)
   |(with_reducible refine Zt ?_ (fun _=> ?_))
   |exact ih0 _ _ _ _ _
   |exact Zz _
   |refine Zu ?_ ?_
   |refine Zt ?_ (fun _=> ?_)
set_option maxHeartbeats 8000000 in
set_option maxRecDepth 100000 in
theorem spec_l12Readings.calls (k:Nat) (g:Nat) (s0_0:List Int) (s0_1:Int) (s0_2:Int) (r1:List Int) (r2:Int) (r3:Int) (w0 w:World) (hI:IsS68 w0 w g s0_0 s0_1 s0_2) (hB:Below w0.heap.size w0 w) (h:spec_l12Readings.f k s0_0 s0_1 s0_2=some (r1,r2,r3)):
  Calls Tryz.prog 23 #[.pointer (some ⟨g,0,none⟩)] w fun e w'=>∃v0_:Value,e= .returned (v0_)∧Kd.R (Kd.int .i64) 3 w' w.heap.size (fun _=>True) v0_ r1∧IsS68 w0 w' g s0_0 r2 r3∧Below w0.heap.size w0 w'∧KeepBut w w' g none:=by
 have HI0:=Za hI
 have HK:=Za (KeepBut.refl w g none)
 have HL:=Za hB.size
 clear hI
 have HW0:=Za hB.size
 have HB:=Za hB
 clear hB
 have H:(spec_l12Readings.l0 k (([]:List Int)) 0 s0_0 s0_1 s0_2)=some (r1,r2,r3):=h
 clear h
 obtain⟨y351,hy351⟩:∃y_:List Int,y_=(([]:List Int)):=⟨_,rfl⟩
 replace H:(spec_l12Readings.l0 k y351 0 s0_0 s0_1 s0_2)=some (r1,r2,r3):=by first|(rw[hy351];with_reducible exact H)|(have H2_:=(Yc _ _).symm.trans H;rw[hy351];with_reducible exact H2_)|(have H2_:=(Yc _ _).symm.trans H;with_reducible exact H2_)|with_reducible exact H|(rw[hy351];exact H)|exact H
 have Ny351:=Za hy351
 clear hy351
 have H':=Za H
 clear H
 go_enter Tryz.func23,Tryz.ntmps23
 go_wp2_with (first|((with_reducible refine Zp (N:=5) rfl ?_);refine Kd.R_lit (Kd.int .i64) _ 3 ?hg (N:=5) ?hd (xs:=([]:List Int)) (inner:=[]) (ok:=fun _=>True) (okp:=fun _=>True) ?hr ?hp (fun _ hk=>hk) trivial (Zx _ _) (Nat.le_refl _) (by simp) ?_;(case hd=>rfl);(case hg=>rfl);(case hr=>exact z3_16);(case hp=>exact(Reps.none _ _));intro v352 w2 ho3 hb hg_ hnew_;clear hg_ hnew_;(first|rw[←Ny351.out] at ho3|(simp only[Int.reduceToNat] at ho3;rw[←Ny351.out] at ho3));have HO353:=Za (Yr ho3 (keep_size (w:=w) (g:=g) (row:=none) z3_3));replace HK:=Za (KeepBut.trans z3_3 (KeepBut.of_below hb g none) (.inl rfl));replace HB:=Za (Zj z3_5 hb);replace HI0:=Za (IsS68.below z3_6 hb);clear hb ho3))
 go_loopg [3,4] k (fun kq v3 v4 w'=>∃(x3_1:List Int) (x4_1:Int) (x1001_1:Int) (x1002_1:Int),v4= .int .i64 x4_1∧Aside0 (spec_l12Readings.l0 kq x3_1 x4_1 s0_0 x1001_1 x1002_1=some (r1,r2,r3))∧Aside0 (kq≤k)∧Aside0 (Kd.R (Kd.int .i64) 3 w' w.heap.size (fun _=>True) v3 x3_1)∧Aside0 (IsS68 w0 w' g s0_0 x1001_1 x1002_1)∧Aside0 (KeepBut w w' g none)∧Aside0 (Below w0.heap.size w0 w'))
 case atStart=>exact⟨(y351),(0),(s0_1),(s0_2),z3_17,H',⟨Nat.le_refl _⟩,⟨by(with_reducible repeat(first|apply Zo|apply Zm|apply Zn));exact HO353.out⟩,⟨by repeat(first|(with_reducible first|exact HI0.out|apply IsS68.alloc|apply IsS68.drewN|apply IsS68.drew|apply IsS68.set_1|apply IsS68.set_2)|exact HI0.out)⟩,⟨by repeat(first|(with_reducible first|exact HK.out|apply KeepBut.set_|apply keep_drewN|apply keep_drew|apply keep_alloc)|exact HK.out)⟩,⟨by repeat(first|(with_reducible first|exact HB.out|apply Zh|apply Zf|apply Ze|refine Zd ?_ (IsS68.ge HI0.out))|exact HB.out)⟩⟩
 case round=>
  clear H'
  obtain⟨x3_1,x4_1,x1001_1,x1002_1,rfl,HA,HK1,HO_3,HI0,HK,HB⟩:=hrel
  cases gk with
  |zero=>exact absurd HA.out (by simp[spec_l12Readings.l0])
  |succ k1=>
   have H:=HA.out
   clear HA
   simp only[spec_l12Readings.l0] at H
   replace H:=Zg H
   obtain⟨⟨t354,t355,t356⟩,A40,H⟩:=H
   replace H:(if x4_1<(wrap64 (1+t354)) then ((spec_l01Below.f s0_0 t355 t356 800).bind fun bt357=>(if x3_1.length<17592186044416 then (spec_l12Readings.l0 k1 (x3_1++[wrap64 (bt357.1 - 200)]) (wrap64 (x4_1+1)) s0_0 bt357.2.1 bt357.2.2) else (none))) else (some (x3_1,t355,t356)))=some (r1,r2,r3):=H
   have A4:=Za A40
   clear A40
   by_cases c5:x4_1<(wrap64 (1+t354))
   ·rw[if_pos c5] at H
    have c5b0:decide (x4_1<(wrap64 (1+t354)))=true:=Zq c5
    clear c5
    replace H:=Zg H
    obtain⟨⟨t357,t358,t359⟩,A60,H⟩:=H
    replace H:(if x3_1.length<17592186044416 then (spec_l12Readings.l0 k1 (x3_1++[wrap64 (t357 - 200)]) (wrap64 (x4_1+1)) s0_0 t358 t359) else (none))=some (r1,r2,r3):=H
    have A6:=Za A60
    clear A60
    by_cases c7:x3_1.length<17592186044416
    ·rw[if_pos c7] at H
     have LMc7:=Za c7
     clear c7
     obtain⟨y360,hy360⟩:∃y_:List Int,y_=(x3_1++[wrap64 (t357 - 200)]):=⟨_,rfl⟩
     replace H:(spec_l12Readings.l0 k1 y360 (wrap64 (x4_1+1)) s0_0 t358 t359)=some (r1,r2,r3):=by first|(rw[hy360];with_reducible exact H)|(have H2_:=(Yc _ _).symm.trans H;rw[hy360];with_reducible exact H2_)|(have H2_:=(Yc _ _).symm.trans H;with_reducible exact H2_)|with_reducible exact H|(rw[hy360];exact H)|exact H
     have Ny360:=Za hy360
     clear hy360
     have H':=Za H
     clear H
     go_wp2_with (first|((first|((with_reducible refine gate_callee (f:=24) rfl ?_);refine goesL_ (some 8) rfl rfl Tryz.func24 z3_20 rfl #[.pointer (some ⟨g,0,none⟩),.int .i64 9] rfl z3_0 ?_;(with_reducible refine(spec_l01Below.calls g s0_0 x1001_1 x1002_1 9 t354 t355 t356 w0 _ ?side1 ?side2 A4.out).mono ?_))|(go_at_call 24;(with_reducible refine(spec_l01Below.calls g s0_0 x1001_1 x1002_1 9 t354 t355 t356 w0 _ ?side1 ?side2 A4.out).mono ?_)));(case side1=>exact z3_6);(case side2=>exact z3_5);rintro e w8 ⟨rfl,hi,hb,hk⟩;(first|refine⟨_,rfl,?_⟩|skip);replace HO_3:=Za (Yk (Kd.R_keep (IsS68.apart (show IsS68 w0 _ g s0_0 x1001_1 x1002_1 from by repeat(first|(with_reducible first|exact HI0.out|apply IsS68.alloc|apply IsS68.drewN|apply IsS68.drew|apply IsS68.set_1|apply IsS68.set_2)|exact HI0.out)) z3_14 (by decide)) hk (fun _ h=>h.2)) (fun _ h=>h.1));replace HK:=Za (KeepBut.trans z3_3 hk (.inl rfl));replace HB:=Za (hb);replace HI0:=Za (hi);(try clear hb);(try clear hb2);(try clear hk);(try clear hi))|((first|((with_reducible refine gate_callee (f:=24) rfl ?_);refine goesL_ (some 15) rfl rfl Tryz.func24 z3_20 rfl #[.pointer (some ⟨g,0,none⟩),.int .i64 800] rfl z3_0 ?_;(with_reducible refine(spec_l01Below.calls g s0_0 t355 t356 800 t357 t358 t359 w0 _ ?side1 ?side2 A6.out).mono ?_))|(go_at_call 24;(with_reducible refine(spec_l01Below.calls g s0_0 t355 t356 800 t357 t358 t359 w0 _ ?side1 ?side2 A6.out).mono ?_)));(case side1=>exact z3_6);(case side2=>exact z3_5);rintro e w9 ⟨rfl,hi,hb,hk⟩;(first|refine⟨_,rfl,?_⟩|skip);replace HO_3:=Za (Yk (Kd.R_keep (IsS68.apart (show IsS68 w0 _ g s0_0 t355 t356 from by repeat(first|(with_reducible first|exact HI0.out|apply IsS68.alloc|apply IsS68.drewN|apply IsS68.drew|apply IsS68.set_1|apply IsS68.set_2)|exact HI0.out)) z3_14 (by decide)) hk (fun _ h=>h.2)) (fun _ h=>h.1));replace HK:=Za (KeepBut.trans z3_3 hk (.inl rfl));replace HB:=Za (hb);replace HI0:=Za (hi);(try clear hb);(try clear hb2);(try clear hk);(try clear hi))|((with_reducible refine gate_builtin (b:= .append) (xs:= #[.tmp 13,.tmp 17]) rfl ?_);at_builtin;refine Kd.R_append (Kd.int .i64) w.heap.size rfl (.tmp 13) (.tmp 17) 27 3 (.int .i64 0) 8 rfl Tryz.underlying27 info3 rfl (by decide) (by omega) u3 x3_1 (wrap64 (t357 - 200)) [.int .i64 (wrap64 (t357 - 200))] (fun _=>True) (fun _=>False) rfl rfl ?aP (fun _ hk=>hk.elim) ?aF ?aO (Zx _ _) ?aS ?aL ?_;(case aP=>exact rfl);(case aF=>exact(fun _ _=>trivial));(case aO=>exact z3_14);(case aS=>exact(keep_size (w:=w) (g:=g) (row:=none) z3_3));(case aL=>have:=LMc7.out;omega);intro v361 w10 ho hb hg hat;rw[←Ny360.out] at ho;have n0_:=Za (IsS68.grown z3_6 hg (IsS68.own_ne HI0.out HO_3.out (by decide)));have n1_:=Za (below_weaken z3_5 HL.out hb);have n2_:=Za (KeepBut.trans z3_3 (KeepBut.of_grown hg g) (Kd.R_base2 HO_3.out));have n3_:=Za (ho);clear HI0;clear HB;clear HK;clear HO_3;have HI0:=n0_;have HB:=n1_;have HK:=n2_;have HO362:=n3_;clear n0_ n1_ n2_ n3_;clear ho hb hg hat))
     go_roundg k1
     case measure=>have:=HK1.out;omega
     case rel=>exact⟨(y360),(wrap64 (x4_1+1)),(t358),(t359),z3_17,H',⟨by have:=HK1.out;omega⟩,⟨by(with_reducible repeat(first|apply Zo|apply Zm|apply Zn));exact HO362.out⟩,⟨by repeat(first|(with_reducible first|exact HI0.out|apply IsS68.alloc|apply IsS68.drewN|apply IsS68.drew|apply IsS68.set_1|apply IsS68.set_2)|exact HI0.out)⟩,⟨by repeat(first|(with_reducible first|exact HK.out|apply KeepBut.set_|apply keep_drewN|apply keep_drew|apply keep_alloc)|exact HK.out)⟩,⟨by repeat(first|(with_reducible first|exact HB.out|apply Zh|apply Zf|apply Ze|refine Zd ?_ (IsS68.ge HI0.out))|exact HB.out)⟩⟩
    ·rw[if_neg c7] at H
     exact absurd H (by simp)
   ·rw[if_neg c5] at H
    have c5b0:decide (x4_1<(wrap64 (1+t354)))=false:=Yf c5
    clear c5
    simp only[Option.some.injEq,Prod.mk.injEq] at H
    obtain⟨rfl,rfl,rfl⟩:=H
    go_wp2_with (first|((first|((with_reducible refine gate_callee (f:=24) rfl ?_);refine goesL_ (some 8) rfl rfl Tryz.func24 z3_20 rfl #[.pointer (some ⟨g,0,none⟩),.int .i64 9] rfl z3_0 ?_;(with_reducible refine(spec_l01Below.calls g s0_0 x1001_1 x1002_1 9 t354 t355 t356 w0 _ ?side1 ?side2 A4.out).mono ?_))|(go_at_call 24;(with_reducible refine(spec_l01Below.calls g s0_0 x1001_1 x1002_1 9 t354 t355 t356 w0 _ ?side1 ?side2 A4.out).mono ?_)));(case side1=>exact z3_6);(case side2=>exact z3_5);rintro e w11 ⟨rfl,hi,hb,hk⟩;(first|refine⟨_,rfl,?_⟩|skip);replace HO_3:=Za (Yk (Kd.R_keep (IsS68.apart (show IsS68 w0 _ g s0_0 x1001_1 x1002_1 from by repeat(first|(with_reducible first|exact HI0.out|apply IsS68.alloc|apply IsS68.drewN|apply IsS68.drew|apply IsS68.set_1|apply IsS68.set_2)|exact HI0.out)) z3_14 (by decide)) hk (fun _ h=>h.2)) (fun _ h=>h.1));replace HK:=Za (KeepBut.trans z3_3 hk (.inl rfl));replace HB:=Za (hb);replace HI0:=Za (hi);(try clear hb);(try clear hb2);(try clear hk);(try clear hi)))
    go_ret
    exact⟨_,by first|rfl|(simp[errW_none,errW_some]<;>rfl)|(simp[*,errW_none,errW_some]<;>rfl)|(simp[*,errW_none,errW_some,i64_w];done),by(with_reducible repeat(first|apply Zo|apply Zm|apply Zn));exact HO_3.out,by repeat(first|(with_reducible first|exact HI0.out|apply IsS68.alloc|apply IsS68.drewN|apply IsS68.drew|apply IsS68.set_1|apply IsS68.set_2)|exact HI0.out),by repeat(first|(with_reducible first|exact HB.out|apply Zh|apply Zf|apply Ze|refine Zd ?_ (IsS68.ge HI0.out))|exact HB.out),by repeat(first|(with_reducible first|exact HK.out|apply KeepBut.set_|apply keep_drewN|apply keep_drew|apply keep_alloc)|exact HK.out)⟩
def spec_DrawReadings.f (k:Nat) (l0:List Int):Option (List Int):=(spec_l01New.f k l0).bind fun bt363=>((spec_l12Readings.f k bt363.1 bt363.2.1 bt363.2.2).bind fun bt367=>(some bt367.1))
theorem spec_DrawReadings.mono:∀a0 k,LeO (spec_DrawReadings.f k a0) (spec_DrawReadings.f (k+1) a0):=by
 intro a0 k
 unfold spec_DrawReadings.f
 repeat' first
   |(with_reducible exact spec_l01New.mono _ _)
   |(with_reducible exact spec_l12Readings.mono _ _ _ _)
   |(with_reducible exact Yn _)
   |(with_reducible exact Zz _)
   |(with_reducible refine Zu ?_ ?_)
   |(with_reducible refine Zt ?_ (fun _=> ?_))
   |exact spec_l01New.mono _ _
   |exact spec_l12Readings.mono _ _ _ _
   |exact Zz _
   |refine Zu ?_ ?_
   |refine Zt ?_ (fun _=> ?_)
set_option maxHeartbeats 8000000 in
set_option maxRecDepth 100000 in
theorem spec_DrawReadings.calls (k:Nat) (A0:Option Addr) (c0:Nat) (l0:List Int) (r:List Int) (w:World) (hr0:Kd.C (Kd.int .u8) w A0 l0.length l0) (hc0:l0.length≤c0) (h:spec_DrawReadings.f k l0=some r):
  Calls Tryz.prog 7 #[.slice A0 l0.length c0] w fun e w'=>∃v0_:Value,e= .returned (v0_)∧Kd.R (Kd.int .i64) 3 w' w.heap.size (fun _=>True) v0_ r∧Below w.heap.size w w':=by
 have HR0:=Za hr0
 have HC0:=Za hc0
 clear hr0 hc0
 have HB:=Za (Zx w.heap.size w)
 have H:((spec_l01New.f k l0).bind fun bt363=>((spec_l12Readings.f k bt363.1 bt363.2.1 bt363.2.2).bind fun bt367=>(some bt367.1)))=some r:=h
 clear h
 replace H:=Zg H
 obtain⟨⟨t363,t364,t365⟩,A20,H⟩:=H
 replace H:((spec_l12Readings.f k t363 t364 t365).bind fun bt367=>(some bt367.1))=some r:=H
 have A2:=Za A20
 clear A20
 replace H:=Zg H
 obtain⟨⟨t367,t370,t371⟩,A30,H⟩:=H
 replace H:(some t367)=some r:=H
 have A3:=Za A30
 clear A30
 obtain rfl:=Zk H
 go_enter Tryz.func7,Tryz.ntmps7
 go_wp2_with (first|((first|((with_reducible refine gate_callee (f:=18) rfl ?_);refine goesL_ (some 4) rfl rfl Tryz.func18 z3_20 rfl #[.slice A0 l0.length c0] rfl z3_0 ?_;(with_reducible refine(spec_l01New.calls k _ _ l0 t363 t364 t365 w _ ?side1 ?side2 ?side3 A2.out).mono ?_))|(go_at_call 18;(with_reducible refine(spec_l01New.calls k _ _ l0 t363 t364 t365 w _ ?side1 ?side2 ?side3 A2.out).mono ?_)));(case side1=>exact z3_1);(case side2=>exact HR0.out);(case side3=>exact HC0.out);rintro e w4 ⟨g366,rfl,hi,hb,hb2⟩;(first|refine⟨_,rfl,?_⟩|skip);replace HB:=Za (hb);have HI366:=Za (hi);(try clear hb);(try clear hb2);(try clear hk);(try clear hi))|((first|((with_reducible refine gate_callee (f:=23) rfl ?_);refine goesL_ (some 5) rfl rfl Tryz.func23 z3_20 rfl #[.pointer (some ⟨g366,0,none⟩)] rfl z3_0 ?_;(with_reducible refine(spec_l12Readings.calls k g366 t363 t364 t365 t367 t370 t371 w _ ?side1 ?side2 A3.out).mono ?_))|(go_at_call 23;(with_reducible refine(spec_l12Readings.calls k g366 t363 t364 t365 t367 t370 t371 w _ ?side1 ?side2 A3.out).mono ?_)));(case side1=>repeat(first|(with_reducible first|exact HI366.out|apply IsS68.alloc|apply IsS68.drewN|apply IsS68.drew|apply IsS68.set_1|apply IsS68.set_2)|exact HI366.out));(case side2=>repeat(first|(with_reducible first|exact HB.out|apply Zh|apply Zf|apply Ze|refine Zd ?_ (IsS68.ge HI366.out))|exact HB.out));rintro e w5 ⟨v368,rfl,ho0,hi,hb,hk⟩;(first|refine⟨_,rfl,?_⟩|skip);have HO369:=Za (Yr ho0 (Yh (by repeat(first|(with_reducible first|exact HB.out|apply Zh|apply Zf|apply Ze|refine Zd ?_ (IsS68.ge HI366.out))|exact HB.out))));replace HB:=Za (hb);replace HI366:=Za (hi);(try clear hb);(try clear hb2);(try clear hk);(try clear hi);(try clear ho0)))
 go_ret
 exact⟨_,by first|rfl|(simp[errW_none,errW_some]<;>rfl)|(simp[*,errW_none,errW_some]<;>rfl)|(simp[*,errW_none,errW_some,i64_w];done),by(with_reducible repeat(first|apply Zo|apply Zm|apply Zn));exact HO369.out,by repeat(first|(with_reducible first|exact HB.out|apply Zh|apply Zf|apply Ze|refine Zd ?_ (IsS68.ge HI366.out))|exact HB.out)⟩
def spec_DrawPlaces.l0:Nat→List Int→Int→List Int→Int→Int→Option (List Int)
 |0,_,_,_,_,_=>none
 |k+1,x4,x5,x376000,x376001,x376002=>if x5<12 then ((spec_l01Below.f x376000 x376001 x376002 10000).bind fun bt379=>(if x4.length<17592186044416 then (spec_DrawPlaces.l0 k (x4++[bt379.1]) (wrap64 (x5+1)) x376000 bt379.2.1 bt379.2.2) else (none))) else (some x4)
def spec_DrawPlaces.f (k:Nat) (l0:List Int):Option (List Int):=(spec_l01New.f k l0).bind fun bt372=>(spec_DrawPlaces.l0 k (([]:List Int)) 0 bt372.1 bt372.2.1 bt372.2.2)
theorem spec_DrawPlaces.mono_l:∀k,(∀y0 y1 y2 y3 y4,LeO (spec_DrawPlaces.l0 k y0 y1 y2 y3 y4) (spec_DrawPlaces.l0 (k+1) y0 y1 y2 y3 y4))
 |0=>fun _ _ _ _ _ r h=>by simp[spec_DrawPlaces.l0] at h
 |k+1=>by
  have ih0:=spec_DrawPlaces.mono_l k
  ·intro y0 y1 y2 y3 y4
   unfold spec_DrawPlaces.l0
   repeat' first
   |(with_reducible exact ih0 _ _ _ _ _)
   |(with_reducible exact spec_l01New.mono _ _)
   |(with_reducible exact Yn _)
   |(with_reducible exact Zz _)
   |(with_reducible refine Zu ?_ ?_)
   |(with_reducible refine Zt ?_ (fun _=> ?_))
   |exact ih0 _ _ _ _ _
   |exact spec_l01New.mono _ _
   |exact Zz _
   |refine Zu ?_ ?_
   |refine Zt ?_ (fun _=> ?_)
theorem spec_DrawPlaces.mono:∀a0 k,LeO (spec_DrawPlaces.f k a0) (spec_DrawPlaces.f (k+1) a0):=by
 intro a0 k
 have ih0:=spec_DrawPlaces.mono_l k
 unfold spec_DrawPlaces.f
 repeat' first
   |(with_reducible exact ih0 _ _ _ _ _)
   |(with_reducible exact spec_l01New.mono _ _)
   |(with_reducible exact Yn _)
   |(with_reducible exact Zz _)
   |(with_reducible refine Zu ?_ ?_)
   |(with_reducible refine Zt ?_ (fun _=> ?_))
   |exact ih0 _ _ _ _ _
   |exact spec_l01New.mono _ _
   |exact Zz _
   |refine Zu ?_ ?_
   |refine Zt ?_ (fun _=> ?_)
set_option maxHeartbeats 8000000 in
set_option maxRecDepth 100000 in
theorem spec_DrawPlaces.calls (k:Nat) (A0:Option Addr) (c0:Nat) (l0:List Int) (r:List Int) (w:World) (hr0:Kd.C (Kd.int .u8) w A0 l0.length l0) (hc0:l0.length≤c0) (h:spec_DrawPlaces.f k l0=some r):
  Calls Tryz.prog 8 #[.slice A0 l0.length c0] w fun e w'=>∃v0_:Value,e= .returned (v0_)∧Kd.R (Kd.int .i64) 3 w' w.heap.size (fun _=>True) v0_ r∧Below w.heap.size w w':=by
 have HR0:=Za hr0
 have HC0:=Za hc0
 clear hr0 hc0
 have HB:=Za (Zx w.heap.size w)
 have H:((spec_l01New.f k l0).bind fun bt372=>(spec_DrawPlaces.l0 k (([]:List Int)) 0 bt372.1 bt372.2.1 bt372.2.2))=some r:=h
 clear h
 replace H:=Zg H
 obtain⟨⟨t372,t373,t374⟩,A20,H⟩:=H
 replace H:(spec_DrawPlaces.l0 k (([]:List Int)) 0 t372 t373 t374)=some r:=H
 have A2:=Za A20
 clear A20
 obtain⟨y376,hy376⟩:∃y_:List Int,y_=(([]:List Int)):=⟨_,rfl⟩
 replace H:(spec_DrawPlaces.l0 k y376 0 t372 t373 t374)=some r:=by first|(rw[hy376];with_reducible exact H)|(have H2_:=(Yc _ _).symm.trans H;rw[hy376];with_reducible exact H2_)|(have H2_:=(Yc _ _).symm.trans H;with_reducible exact H2_)|with_reducible exact H|(rw[hy376];exact H)|exact H
 have Ny376:=Za hy376
 clear hy376
 have H':=Za H
 clear H
 go_enter Tryz.func8,Tryz.ntmps8
 go_wp2_with (first|((first|((with_reducible refine gate_callee (f:=18) rfl ?_);refine goesL_ (some 7) rfl rfl Tryz.func18 z3_20 rfl #[.slice A0 l0.length c0] rfl z3_0 ?_;(with_reducible refine(spec_l01New.calls k _ _ l0 t372 t373 t374 w _ ?side1 ?side2 ?side3 A2.out).mono ?_))|(go_at_call 18;(with_reducible refine(spec_l01New.calls k _ _ l0 t372 t373 t374 w _ ?side1 ?side2 ?side3 A2.out).mono ?_)));(case side1=>exact z3_1);(case side2=>exact HR0.out);(case side3=>exact HC0.out);rintro e w3 ⟨g375,rfl,hi,hb,hb2⟩;(first|refine⟨_,rfl,?_⟩|skip);replace HB:=Za (hb);have HI375:=Za (hi);(try clear hb);(try clear hb2);(try clear hk);(try clear hi))|((with_reducible refine Zp (N:=8) rfl ?_);refine Kd.R_lit (Kd.int .i64) _ 3 ?hg (N:=8) ?hd (xs:=([]:List Int)) (inner:=[]) (ok:=fun _=>True) (okp:=fun _=>True) ?hr ?hp (fun _ hk=>hk) trivial (Zx _ _) (Nat.le_refl _) (by simp) ?_;(case hd=>rfl);(case hg=>rfl);(case hr=>exact z3_16);(case hp=>exact(Reps.none _ _));intro v377 w4 ho5 hb hg_ hnew_;clear hg_ hnew_;(first|rw[←Ny376.out] at ho5|(simp only[Int.reduceToNat] at ho5;rw[←Ny376.out] at ho5));have HO378:=Za (Yr ho5 (Yh z3_15));replace HB:=Za (Zj z3_15 hb);replace HI375:=Za (IsS68.below z3_19 hb);clear hb ho5))
 go_loopg [4,5] k (fun kq v4 v5 w'=>∃(x4_1:List Int) (x5_1:Int) (x376001_1:Int) (x376002_1:Int),v5= .int .i64 x5_1∧Aside0 (spec_DrawPlaces.l0 kq x4_1 x5_1 t372 x376001_1 x376002_1=some r)∧Aside0 (kq≤k)∧Aside0 (Kd.R (Kd.int .i64) 3 w' w.heap.size (fun _=>True) v4 x4_1)∧Aside0 (IsS68 w w' g375 t372 x376001_1 x376002_1)∧Aside0 (Below w.heap.size w w'))
 case atStart=>exact⟨(y376),(0),(t373),(t374),z3_17,H',⟨Nat.le_refl _⟩,⟨by(with_reducible repeat(first|apply Zo|apply Zm|apply Zn));exact HO378.out⟩,⟨by repeat(first|(with_reducible first|exact HI375.out|apply IsS68.alloc|apply IsS68.drewN|apply IsS68.drew|apply IsS68.set_1|apply IsS68.set_2)|exact HI375.out)⟩,⟨by repeat(first|(with_reducible first|exact HB.out|apply Zh|apply Zf|apply Ze|refine Zd ?_ (IsS68.ge HI375.out))|exact HB.out)⟩⟩
 case round=>
  clear H'
  obtain⟨x4_1,x5_1,x376001_1,x376002_1,rfl,HA,HK1,HO_4,HI375,HB⟩:=hrel
  cases gk with
  |zero=>exact absurd HA.out (by simp[spec_DrawPlaces.l0])
  |succ k1=>
   have H:=HA.out
   clear HA
   simp only[spec_DrawPlaces.l0] at H
   by_cases c6:x5_1<12
   ·rw[if_pos c6] at H
    have c6b0:decide (x5_1<12)=true:=Zq c6
    clear c6
    replace H:=Zg H
    obtain⟨⟨t379,t380,t381⟩,A70,H⟩:=H
    replace H:(if x4_1.length<17592186044416 then (spec_DrawPlaces.l0 k1 (x4_1++[t379]) (wrap64 (x5_1+1)) t372 t380 t381) else (none))=some r:=H
    have A7:=Za A70
    clear A70
    by_cases c8:x4_1.length<17592186044416
    ·rw[if_pos c8] at H
     have LMc8:=Za c8
     clear c8
     obtain⟨y382,hy382⟩:∃y_:List Int,y_=(x4_1++[t379]):=⟨_,rfl⟩
     replace H:(spec_DrawPlaces.l0 k1 y382 (wrap64 (x5_1+1)) t372 t380 t381)=some r:=by first|(rw[hy382];with_reducible exact H)|(have H2_:=(Yc _ _).symm.trans H;rw[hy382];with_reducible exact H2_)|(have H2_:=(Yc _ _).symm.trans H;with_reducible exact H2_)|with_reducible exact H|(rw[hy382];exact H)|exact H
     have Ny382:=Za hy382
     clear hy382
     have H':=Za H
     clear H
     go_wp2_with (first|((first|((with_reducible refine gate_callee (f:=24) rfl ?_);refine goesL_ (some 15) rfl rfl Tryz.func24 z3_20 rfl #[.pointer (some ⟨g375,0,none⟩),.int .i64 10000] rfl z3_0 ?_;(with_reducible refine(spec_l01Below.calls g375 t372 x376001_1 x376002_1 10000 t379 t380 t381 w _ ?side1 ?side2 A7.out).mono ?_))|(go_at_call 24;(with_reducible refine(spec_l01Below.calls g375 t372 x376001_1 x376002_1 10000 t379 t380 t381 w _ ?side1 ?side2 A7.out).mono ?_)));(case side1=>exact z3_19);(case side2=>exact z3_15);rintro e w9 ⟨rfl,hi,hb,hk⟩;(first|refine⟨_,rfl,?_⟩|skip);replace HO_4:=Za (Yk (Kd.R_keep (IsS68.apart (show IsS68 w _ g375 t372 x376001_1 x376002_1 from by repeat(first|(with_reducible first|exact HI375.out|apply IsS68.alloc|apply IsS68.drewN|apply IsS68.drew|apply IsS68.set_1|apply IsS68.set_2)|exact HI375.out)) (by(with_reducible repeat(first|apply Zo|apply Zm|apply Zn));exact HO_4.out) (by decide)) hk (fun _ h=>h.2)) (fun _ h=>h.1));replace HB:=Za (hb);replace HI375:=Za (hi);(try clear hb);(try clear hb2);(try clear hk);(try clear hi))|((with_reducible refine gate_builtin (b:= .append) (xs:= #[.tmp 13,.tmp 16]) rfl ?_);at_builtin;refine Kd.R_append (Kd.int .i64) (w0:=w) w.heap.size rfl (.tmp 13) (.tmp 16) 27 3 (.int .i64 0) 8 rfl Tryz.underlying27 info3 rfl (by decide) (by omega) u4 x4_1 t379 [.int .i64 t379] (fun _=>True) (fun _=>False) rfl rfl ?aP (fun _ hk=>hk.elim) ?aF ?aO ?aB ?aS ?aL ?_;(case aP=>exact rfl);(case aB=>exact z3_15);(case aF=>exact(fun _ _=>trivial));(case aO=>exact(by(with_reducible repeat(first|apply Zo|apply Zm|apply Zn));exact HO_4.out));(case aS=>exact(Yh z3_15));(case aL=>have:=LMc8.out;omega);intro v383 w10 ho hb hg hat;rw[←Ny382.out] at ho;have n0_:=Za (IsS68.grown z3_19 hg (IsS68.own_ne HI375.out HO_4.out (by decide)));have n1_:=Za (hb);have n2_:=Za (ho);clear HI375;clear HB;clear HO_4;have HI375:=n0_;have HB:=n1_;have HO384:=n2_;clear n0_ n1_ n2_;clear ho hb hg hat))
     go_roundg k1
     case measure=>have:=HK1.out;omega
     case rel=>exact⟨(y382),(wrap64 (x5_1+1)),(t380),(t381),z3_17,H',⟨by have:=HK1.out;omega⟩,⟨by(with_reducible repeat(first|apply Zo|apply Zm|apply Zn));exact HO384.out⟩,⟨by repeat(first|(with_reducible first|exact HI375.out|apply IsS68.alloc|apply IsS68.drewN|apply IsS68.drew|apply IsS68.set_1|apply IsS68.set_2)|exact HI375.out)⟩,⟨by repeat(first|(with_reducible first|exact HB.out|apply Zh|apply Zf|apply Ze|refine Zd ?_ (IsS68.ge HI375.out))|exact HB.out)⟩⟩
    ·rw[if_neg c8] at H
     exact absurd H (by simp)
   ·rw[if_neg c6] at H
    have c6b0:decide (x5_1<12)=false:=Yf c6
    clear c6
    obtain rfl:=Zk H
    go_wp2
    go_ret
    exact⟨_,by first|rfl|(simp[errW_none,errW_some]<;>rfl)|(simp[*,errW_none,errW_some]<;>rfl)|(simp[*,errW_none,errW_some,i64_w];done),by(with_reducible repeat(first|apply Zo|apply Zm|apply Zn));exact HO_4.out,by repeat(first|(with_reducible first|exact HB.out|apply Zh|apply Zf|apply Ze|refine Zd ?_ (IsS68.ge HI375.out))|exact HB.out)⟩
def impl_within.f (a0:Int) (a1:Int) (a2:Int):Option (Bool):=if a0≥a1 then (some (decide (a0≤a2))) else (some false)
set_option maxHeartbeats 8000000 in
set_option maxRecDepth 100000 in
theorem impl_within.calls (a0:Int) (a1:Int) (a2:Int) (r:Bool) (w:World) (h:impl_within.f a0 a1 a2=some r):
  Calls Tryz.prog 30 #[.int .i64 a0,.int .i64 a1,.int .i64 a2] w fun e w'=>e= .returned (.bool r)∧Drawn0 w w':=by
 have H:(if a0≥a1 then (some (decide (a0≤a2))) else (some false))=some r:=h
 clear h
 by_cases c4:a0≥a1
 ·rw[if_pos c4] at H
  have c4b0:decide (a1≤a0)=true:=Zq c4
  clear c4
  obtain rfl:=Zk H
  go_enter Tryz.func30,Tryz.ntmps30
  go_wp2
  go_ret
  exact⟨by first|rfl|(simp;done)|(simp[*];done),by repeat(first|exact Zv _|apply Zw)⟩
 ·rw[if_neg c4] at H
  have c4b0:decide (a1≤a0)=false:=Yf c4
  clear c4
  obtain rfl:=Zk H
  go_enter Tryz.func30,Tryz.ntmps30
  go_wp2
  go_ret
  exact⟨by first|rfl|(simp;done)|(simp[*];done),by repeat(first|exact Zv _|apply Zw)⟩
-- NOT PRINTED: function 64 (slices_IndexFunc_int_int)
-- NOT PRINTED: function 33 (slices_ContainsFunc_int_int)
def impl_IsValue.f (a0:Int):Option (Bool):=(impl_within.f a0 (-1000000) 1000000).bind fun t385=>(some t385)
set_option maxHeartbeats 8000000 in
set_option maxRecDepth 100000 in
theorem impl_IsValue.calls (a0:Int) (r:Bool) (w:World) (h:impl_IsValue.f a0=some r):
  Calls Tryz.prog 69 #[.int .i64 a0] w fun e w'=>e= .returned (.bool r)∧Drawn0 w w':=by
 have H:((impl_within.f a0 (-1000000) 1000000).bind fun t385=>(some t385))=some r:=h
 clear h
 replace H:=Zg H
 obtain⟨t385,A20,H⟩:=H
 replace H:(some t385)=some r:=H
 have A2:=Za A20
 clear A20
 obtain rfl:=Zk H
 go_enter Tryz.func69,Tryz.ntmps69
 go_wp2_with (first|((first|((with_reducible refine gate_callee (f:=30) rfl ?_);refine goesL_ (some 4) rfl rfl Tryz.func30 z3_20 rfl #[.int .i64 a0,.int .i64 (-1000000),.int .i64 1000000] rfl z3_0 ?_;(with_reducible refine(impl_within.calls a0 (-1000000) 1000000 t385 _ A2.out).mono ?_))|(go_at_call 30;(with_reducible refine(impl_within.calls a0 (-1000000) 1000000 t385 _ A2.out).mono ?_)));rintro e w' ⟨rfl,⟨nd,rfl⟩⟩;(first|refine⟨_,rfl,?_⟩|skip)))
 go_ret
 exact⟨by first|rfl|(simp;done)|(simp[*];done),by repeat(first|exact Zv _|apply Zw)⟩
/-! ### impl_areValues: function 44 -/
-- leans on 30
def valP (x:Int):Bool:=decide (-1000000≤x∧x≤1000000)
theorem valP_eq (x:Int):impl_IsValue.f x=some (valP x):=by
 unfold impl_IsValue.f impl_within.f valP
 by_cases h: -1000000≤x<;>simp[h]
set_option maxRecDepth 100000 in
theorem valP_clo (x:Int) (b:Bool) (w:World) (hb:valP x=b):Calls Tryz.prog 70 #[.int .i64 x] w fun e w'=>e= .returned (.bool (!b))∧Drawn0 w w':=by
 have Hb:=Za ((valP_eq x).trans (congrArg some hb))
 clear hb
 go_enter Tryz.func70,Tryz.ntmps70
 go_wp2_with (go_at_call 69;(with_reducible refine(impl_IsValue.calls x b _ Hb.out).mono ?_);rintro e w' ⟨rfl,⟨nd,rfl⟩⟩)
 go_ret
 exact⟨rfl,by repeat(first|exact Zv _|apply Zw)⟩
theorem valP_none (l:List Int) (h:∀i:Int,0≤i→i<(l.length:Int)→valP (rd l i)=true):l.any (fun x=> !valP x)=false:=by
 rw[List.any_eq_false]
 intro x hx
 obtain⟨i,hi⟩:=List.getElem?_of_mem hx
 have hl:=(List.getElem?_eq_some_iff.1 hi).1
 have:=h (i:Int) (by omega) (by omega)
 unfold rd at this
 rw[Int.toNat_natCast,List.getD_eq_getElem?_getD,hi] at this
 simpa using this
theorem valP_some (l:List Int) (i:Int) (h0:0≤i) (h1:i<(l.length:Int)) (h:valP (rd l i)=false):l.any (fun x=> !valP x)=true:=by
 rw[List.any_eq_true]
 refine⟨rd l i,?_,by simpa using h⟩
 unfold rd
 rw[List.getD_eq_getElem?_getD,List.getElem?_eq_getElem (by omega)]
 exact List.getElem_mem _
set_option maxHeartbeats 8000000 in
set_option maxRecDepth 100000 in
theorem valP_index (A:Option Addr) (c:Nat) (l:List Int) (w:World) (hr:Kd.C (Kd.int .i64) w A l.length l):
  Calls Tryz.prog 64 #[.slice A l.length c,.func (.func 70) #[] #[]] w fun e w'=>∃i:Int,e= .returned (.int .i64 i)∧decide (i≥0)=l.any (fun x=> !valP x)∧Drawn0 w w':=by
 have HR:=Za hr
 have hlen:l.length≤9223372036854775807:=hr.2.1
 clear hr
 go_enter Tryz.func64,Tryz.ntmps64
 go_wp2
 go_loopw [8] (fun v8 w'=>∃x:Int,v8= .int .i64 x∧Aside0 (0≤x)∧Aside0 (x≤(l.length:Int))∧Aside0 (∀i:Int,0≤i→i<x→valP (rd l i)=true)∧Drawn0 w w') (fun v8 _=>l.length - (intOf v8).toNat)
 case atStart=>exact⟨0,rfl,⟨by omega⟩,⟨by omega⟩,⟨fun i h0 h1=>by omega⟩,Zv _⟩
 case round=>
  obtain⟨x,rfl,Hx0,Hx1,Hp,⟨m,rfl⟩⟩:=hrel
  by_cases hlt:x<(l.length:Int)
  ·have c1:decide (x<(l.length:Int))=true:=Zq hlt
   have h0:=Hx0.out
   obtain⟨ad,e,hx⟩:=Kd.at_int HR.out x h0 hlt
   cases e
   obtain⟨b,hb⟩:∃b,valP (rd l x)=b:=⟨_,rfl⟩
   have Hb:=Za hb
   have Hlt:=Za hlt
   clear hb hlt
   have p1:=eq_true h0
   have q1:=eq_true Hlt.out
   have hsum:wrap64 (x+1)=x+1:=by have:=Hlt.out;unfold wrap64;omega
   have Hs:=Za hsum
   clear hsum h0
   cases b with
   |true=>
    go_wp2_with (go_at_call 70;(with_reducible refine(valP_clo (rd l x) true _ Hb.out).mono ?_);rintro e w' ⟨rfl,⟨nd,rfl⟩⟩)
    go_roundw
    case rel=>exact⟨x+1,by rw[Hs.out],⟨by have:=Hx0.out;omega⟩,⟨by have:=Hlt.out;omega⟩,⟨fun i h0 h1=>by
     by_cases e:i=x
     ·rw[e];exact Hb.out
     ·exact Hp.out i h0 (by omega)⟩,by repeat(first|exact Zv _|apply Zw)⟩
    case measure=>
     have:=Hlt.out
     have:=Hx0.out
     rw[Hs.out]
     simp[intOf]
     omega
   |false=>
    go_wp2_with (go_at_call 70;(with_reducible refine(valP_clo (rd l x) false _ Hb.out).mono ?_);rintro e w' ⟨rfl,⟨nd,rfl⟩⟩)
    go_ret
    exact⟨x,rfl,by rw[valP_some l x Hx0.out Hlt.out Hb.out];simpa using Hx0.out,by repeat(first|exact Zv _|apply Zw)⟩
  ·have c1:decide (x<(l.length:Int))=false:=Yf hlt
   have hx:x=(l.length:Int):=by have:=Hx1.out;omega
   have Hx:=Za hx
   clear hx hlt
   go_wp2
   go_ret
   exact⟨-1,rfl,by rw[valP_none l (fun i h0 h1=>Hp.out i h0 (by have:=Hx.out;omega))];rfl,by repeat(first|exact Zv _|apply Zw)⟩
set_option maxRecDepth 100000 in
theorem valP_contains (A:Option Addr) (c:Nat) (l:List Int) (b:Bool) (hb:l.any (fun x=> !valP x)=b) (w:World) (hr:Kd.C (Kd.int .i64) w A l.length l):
  Calls Tryz.prog 33 #[.slice A l.length c,.func (.func 70) #[] #[]] w fun e w'=>e= .returned (.bool b)∧Drawn0 w w':=by
 have HR:=Za hr
 have Hb:=Za hb
 clear hr hb
 go_enter Tryz.func33,Tryz.ntmps33
 go_wp2_with fail
 refine(valP_index A c l _ HR.out).mono ?_
 rintro e w' ⟨i,rfl,hi,⟨nd,rfl⟩⟩
 rw[Hb.out] at hi
 have Hi:=Za hi
 clear hi
 go_wp2
 go_ret
 exact⟨by first|rfl|(rw[Hi.out];done)|(simp[Hi.out];done)|(have e:=Hi.out;simp at e ⊢;exact e),by repeat(first|exact Zv _|apply Zw)⟩
def impl_areValues.f (l0:List Int):Option Bool:=some (!(l0.any fun x=> !valP x))
set_option maxRecDepth 100000 in
theorem impl_areValues.calls (A0:Option Addr) (c0:Nat) (l0:List Int) (r:Bool) (w:World) (hr0:Kd.C (Kd.int .i64) w A0 l0.length l0) (hc0:l0.length≤c0) (h:impl_areValues.f l0=some r):
  Calls Tryz.prog 44 #[.slice A0 l0.length c0] w fun e w'=>e= .returned (.bool r)∧Drawn0 w w':=by
 obtain⟨b,hb⟩:∃b,l0.any (fun x=> !valP x)=b:=⟨_,rfl⟩
 unfold impl_areValues.f at h
 rw[hb] at h
 obtain rfl:=Zk h
 have HR:=Za hr0
 have Hb:=Za hb
 clear hr0 hb h hc0
 go_enter Tryz.func44,Tryz.ntmps44
 go_wp2_with fail
 refine(valP_contains A0 c0 l0 b Hb.out _ HR.out).mono ?_
 rintro e w' ⟨rfl,⟨nd,rfl⟩⟩
 go_wp2
 go_ret
 exact⟨rfl,by repeat(first|exact Zv _|apply Zw)⟩
def impl_PackControl.f (a0:Int) (a1:Int) (a2:Int):Option (Int):=(impl_within.f a0 0 5).bind fun t386=>(if t386=true then ((impl_within.f a1 0 8).bind fun t387=>(if t387=true then ((impl_within.f a2 0 24).bind fun t388=>(if t388=true then (some (wrap64 (a0+(wrap64 (8*(wrap64 (a1+(wrap64 (16*a2))))))))) else (some (-1)))) else (some (-1)))) else (some (-1)))
set_option maxHeartbeats 8000000 in
set_option maxRecDepth 100000 in
theorem impl_PackControl.calls (a0:Int) (a1:Int) (a2:Int) (r:Int) (w:World) (h:impl_PackControl.f a0 a1 a2=some r):
  Calls Tryz.prog 47 #[.int .i64 a0,.int .i64 a1,.int .i64 a2] w fun e w'=>e= .returned (.int .i64 r)∧Drawn0 w w':=by
 have H:((impl_within.f a0 0 5).bind fun t386=>(if t386=true then ((impl_within.f a1 0 8).bind fun t387=>(if t387=true then ((impl_within.f a2 0 24).bind fun t388=>(if t388=true then (some (wrap64 (a0+(wrap64 (8*(wrap64 (a1+(wrap64 (16*a2))))))))) else (some (-1)))) else (some (-1)))) else (some (-1))))=some r:=h
 clear h
 replace H:=Zg H
 obtain⟨t386,A40,H⟩:=H
 replace H:(if t386=true then ((impl_within.f a1 0 8).bind fun t387=>(if t387=true then ((impl_within.f a2 0 24).bind fun t388=>(if t388=true then (some (wrap64 (a0+(wrap64 (8*(wrap64 (a1+(wrap64 (16*a2))))))))) else (some (-1)))) else (some (-1)))) else (some (-1)))=some r:=H
 have A4:=Za A40
 clear A40
 by_cases c5:t386=true
 ·subst c5
  rw[if_pos rfl] at H
  replace H:=Zg H
  obtain⟨t387,A60,H⟩:=H
  replace H:(if t387=true then ((impl_within.f a2 0 24).bind fun t388=>(if t388=true then (some (wrap64 (a0+(wrap64 (8*(wrap64 (a1+(wrap64 (16*a2))))))))) else (some (-1)))) else (some (-1)))=some r:=H
  have A6:=Za A60
  clear A60
  by_cases c7:t387=true
  ·subst c7
   rw[if_pos rfl] at H
   replace H:=Zg H
   obtain⟨t388,A80,H⟩:=H
   replace H:(if t388=true then (some (wrap64 (a0+(wrap64 (8*(wrap64 (a1+(wrap64 (16*a2))))))))) else (some (-1)))=some r:=H
   have A8:=Za A80
   clear A80
   by_cases c9:t388=true
   ·subst c9
    rw[if_pos rfl] at H
    obtain rfl:=Zk H
    go_enter Tryz.func47,Tryz.ntmps47
    go_wp2_with (first|((first|((with_reducible refine gate_callee (f:=30) rfl ?_);refine goesL_ (some 8) rfl rfl Tryz.func30 z3_20 rfl #[.int .i64 a0,.int .i64 0,.int .i64 5] rfl z3_0 ?_;(with_reducible refine(impl_within.calls a0 0 5 true _ A4.out).mono ?_))|(go_at_call 30;(with_reducible refine(impl_within.calls a0 0 5 true _ A4.out).mono ?_)));rintro e w' ⟨rfl,⟨nd,rfl⟩⟩;(first|refine⟨_,rfl,?_⟩|skip))|(go_at_call 30;(with_reducible refine(impl_within.calls a1 0 8 true _ A6.out).mono ?_);rintro e w' ⟨rfl,⟨nd,rfl⟩⟩)|(go_at_call 30;(with_reducible refine(impl_within.calls a2 0 24 true _ A8.out).mono ?_);rintro e w' ⟨rfl,⟨nd,rfl⟩⟩))
    go_ret
    exact⟨by first|rfl|(simp;done)|(simp[*];done),by repeat(first|exact Zv _|apply Zw)⟩
   ·replace c9:=Bool.eq_false_iff.mpr c9
    subst c9
    rw[if_neg (show ¬(false=true) by decide)] at H
    obtain rfl:=Zk H
    go_enter Tryz.func47,Tryz.ntmps47
    go_wp2_with (first|((first|((with_reducible refine gate_callee (f:=30) rfl ?_);refine goesL_ (some 8) rfl rfl Tryz.func30 z3_20 rfl #[.int .i64 a0,.int .i64 0,.int .i64 5] rfl z3_0 ?_;(with_reducible refine(impl_within.calls a0 0 5 true _ A4.out).mono ?_))|(go_at_call 30;(with_reducible refine(impl_within.calls a0 0 5 true _ A4.out).mono ?_)));rintro e w' ⟨rfl,⟨nd,rfl⟩⟩;(first|refine⟨_,rfl,?_⟩|skip))|(go_at_call 30;(with_reducible refine(impl_within.calls a1 0 8 true _ A6.out).mono ?_);rintro e w' ⟨rfl,⟨nd,rfl⟩⟩)|(go_at_call 30;(with_reducible refine(impl_within.calls a2 0 24 false _ A8.out).mono ?_);rintro e w' ⟨rfl,⟨nd,rfl⟩⟩))
    go_ret
    exact⟨by first|rfl|(simp;done)|(simp[*];done),by repeat(first|exact Zv _|apply Zw)⟩
  ·replace c7:=Bool.eq_false_iff.mpr c7
   subst c7
   rw[if_neg (show ¬(false=true) by decide)] at H
   obtain rfl:=Zk H
   go_enter Tryz.func47,Tryz.ntmps47
   go_wp2_with (first|((first|((with_reducible refine gate_callee (f:=30) rfl ?_);refine goesL_ (some 8) rfl rfl Tryz.func30 z3_20 rfl #[.int .i64 a0,.int .i64 0,.int .i64 5] rfl z3_0 ?_;(with_reducible refine(impl_within.calls a0 0 5 true _ A4.out).mono ?_))|(go_at_call 30;(with_reducible refine(impl_within.calls a0 0 5 true _ A4.out).mono ?_)));rintro e w' ⟨rfl,⟨nd,rfl⟩⟩;(first|refine⟨_,rfl,?_⟩|skip))|(go_at_call 30;(with_reducible refine(impl_within.calls a1 0 8 false _ A6.out).mono ?_);rintro e w' ⟨rfl,⟨nd,rfl⟩⟩))
   go_ret
   exact⟨by first|rfl|(simp;done)|(simp[*];done),by repeat(first|exact Zv _|apply Zw)⟩
 ·replace c5:=Bool.eq_false_iff.mpr c5
  subst c5
  rw[if_neg (show ¬(false=true) by decide)] at H
  obtain rfl:=Zk H
  go_enter Tryz.func47,Tryz.ntmps47
  go_wp2_with (first|((first|((with_reducible refine gate_callee (f:=30) rfl ?_);refine goesL_ (some 8) rfl rfl Tryz.func30 z3_20 rfl #[.int .i64 a0,.int .i64 0,.int .i64 5] rfl z3_0 ?_;(with_reducible refine(impl_within.calls a0 0 5 false _ A4.out).mono ?_))|(go_at_call 30;(with_reducible refine(impl_within.calls a0 0 5 false _ A4.out).mono ?_)));rintro e w' ⟨rfl,⟨nd,rfl⟩⟩;(first|refine⟨_,rfl,?_⟩|skip)))
  go_ret
  exact⟨by first|rfl|(simp;done)|(simp[*];done),by repeat(first|exact Zv _|apply Zw)⟩
def impl_UnpackControl.f (a0:Int):Option (Int×Int×Int):=if a0<0 then (some ((-1),(-1),(-1))) else ((impl_PackControl.f (Int.tmod a0 8) (Int.tmod (wrap64 (Int.tdiv a0 8)) 16) (wrap64 (Int.tdiv a0 128))).bind fun t389=>(if t389=a0 then (some (Int.tmod a0 8,Int.tmod (wrap64 (Int.tdiv a0 8)) 16,wrap64 (Int.tdiv a0 128))) else (some ((-1),(-1),(-1)))))
set_option maxHeartbeats 8000000 in
set_option maxRecDepth 100000 in
theorem impl_UnpackControl.calls (a0:Int) (r1:Int) (r2:Int) (r3:Int) (w:World) (h:impl_UnpackControl.f a0=some (r1,r2,r3)):
  Calls Tryz.prog 45 #[.int .i64 a0] w fun e w'=>e= .returned (.tuple #[.int .i64 r1,.int .i64 r2,.int .i64 r3])∧Drawn0 w w':=by
 have H:(if a0<0 then (some ((-1),(-1),(-1))) else ((impl_PackControl.f (Int.tmod a0 8) (Int.tmod (wrap64 (Int.tdiv a0 8)) 16) (wrap64 (Int.tdiv a0 128))).bind fun t389=>(if t389=a0 then (some (Int.tmod a0 8,Int.tmod (wrap64 (Int.tdiv a0 8)) 16,wrap64 (Int.tdiv a0 128))) else (some ((-1),(-1),(-1))))))=some (r1,r2,r3):=h
 clear h
 by_cases c2:a0<0
 ·rw[if_pos c2] at H
  have c2b0:decide (a0<0)=true:=Zq c2
  clear c2
  simp only[Option.some.injEq,Prod.mk.injEq] at H
  obtain⟨rfl,rfl,rfl⟩:=H
  go_enter Tryz.func45,Tryz.ntmps45
  go_wp2
  go_ret3
  exact⟨by first|rfl|(simp;done)|(simp[*];done),by repeat(first|exact Zv _|apply Zw)⟩
 ·rw[if_neg c2] at H
  have c2b0:decide (a0<0)=false:=Yf c2
  clear c2
  replace H:=Zg H
  obtain⟨t389,A30,H⟩:=H
  replace H:(if t389=a0 then (some (Int.tmod a0 8,Int.tmod (wrap64 (Int.tdiv a0 8)) 16,wrap64 (Int.tdiv a0 128))) else (some ((-1),(-1),(-1))))=some (r1,r2,r3):=H
  have A3:=Za A30
  clear A30
  by_cases c4:t389=a0
  ·rw[if_pos c4] at H
   have c4b0:(t389==a0)=true:=beq_iff_eq.mpr c4
   have c4b1:(t389 != a0)=false:=bne_eq_false_iff_eq.mpr c4
   clear c4
   simp only[Option.some.injEq,Prod.mk.injEq] at H
   obtain⟨rfl,rfl,rfl⟩:=H
   go_enter Tryz.func45,Tryz.ntmps45
   go_wp2_with (first|(go_at_call 47;(with_reducible refine(impl_PackControl.calls (Int.tmod a0 8) (Int.tmod (wrap64 (Int.tdiv a0 8)) 16) (wrap64 (Int.tdiv a0 128)) t389 _ A3.out).mono ?_);rintro e w' ⟨rfl,⟨nd,rfl⟩⟩))
   go_ret3
   exact⟨by first|rfl|(simp;done)|(simp[*];done),by repeat(first|exact Zv _|apply Zw)⟩
  ·rw[if_neg c4] at H
   have c4b0:(t389==a0)=false:=beq_eq_false_iff_ne.mpr c4
   have c4b1:(t389 != a0)=true:=bne_iff_ne.mpr c4
   simp only[Option.some.injEq,Prod.mk.injEq] at H
   obtain⟨rfl,rfl,rfl⟩:=H
   go_enter Tryz.func45,Tryz.ntmps45
   go_wp2_with (first|(go_at_call 47;(with_reducible refine(impl_PackControl.calls (Int.tmod a0 8) (Int.tmod (wrap64 (Int.tdiv a0 8)) 16) (wrap64 (Int.tdiv a0 128)) t389 _ A3.out).mono ?_);rintro e w' ⟨rfl,⟨nd,rfl⟩⟩))
   go_ret3
   exact⟨by first|rfl|(simp;done)|(simp[*];done),by repeat(first|exact Zv _|apply Zw)⟩
def impl_isVar.f (a0:Int):Option (Bool):=(impl_within.f a0 0 7).bind fun t390=>(some t390)
set_option maxHeartbeats 8000000 in
set_option maxRecDepth 100000 in
theorem impl_isVar.calls (a0:Int) (r:Bool) (w:World) (h:impl_isVar.f a0=some r):
  Calls Tryz.prog 46 #[.int .i64 a0] w fun e w'=>e= .returned (.bool r)∧Drawn0 w w':=by
 have H:((impl_within.f a0 0 7).bind fun t390=>(some t390))=some r:=h
 clear h
 replace H:=Zg H
 obtain⟨t390,A20,H⟩:=H
 replace H:(some t390)=some r:=H
 have A2:=Za A20
 clear A20
 obtain rfl:=Zk H
 go_enter Tryz.func46,Tryz.ntmps46
 go_wp2_with (first|((first|((with_reducible refine gate_callee (f:=30) rfl ?_);refine goesL_ (some 4) rfl rfl Tryz.func30 z3_20 rfl #[.int .i64 a0,.int .i64 0,.int .i64 7] rfl z3_0 ?_;(with_reducible refine(impl_within.calls a0 0 7 t390 _ A2.out).mono ?_))|(go_at_call 30;(with_reducible refine(impl_within.calls a0 0 7 t390 _ A2.out).mono ?_)));rintro e w' ⟨rfl,⟨nd,rfl⟩⟩;(first|refine⟨_,rfl,?_⟩|skip)))
 go_ret
 exact⟨by first|rfl|(simp;done)|(simp[*];done),by repeat(first|exact Zv _|apply Zw)⟩
def impl_OperandOk.f (a0:Int):Option (Bool):=(impl_within.f a0 (-8) 999).bind fun t391=>(some t391)
set_option maxHeartbeats 8000000 in
set_option maxRecDepth 100000 in
theorem impl_OperandOk.calls (a0:Int) (r:Bool) (w:World) (h:impl_OperandOk.f a0=some r):
  Calls Tryz.prog 106 #[.int .i64 a0] w fun e w'=>e= .returned (.bool r)∧Drawn0 w w':=by
 have H:((impl_within.f a0 (-8) 999).bind fun t391=>(some t391))=some r:=h
 clear h
 replace H:=Zg H
 obtain⟨t391,A20,H⟩:=H
 replace H:(some t391)=some r:=H
 have A2:=Za A20
 clear A20
 obtain rfl:=Zk H
 go_enter Tryz.func106,Tryz.ntmps106
 go_wp2_with (first|((first|((with_reducible refine gate_callee (f:=30) rfl ?_);refine goesL_ (some 4) rfl rfl Tryz.func30 z3_20 rfl #[.int .i64 a0,.int .i64 (-8),.int .i64 999] rfl z3_0 ?_;(with_reducible refine(impl_within.calls a0 (-8) 999 t391 _ A2.out).mono ?_))|(go_at_call 30;(with_reducible refine(impl_within.calls a0 (-8) 999 t391 _ A2.out).mono ?_)));rintro e w' ⟨rfl,⟨nd,rfl⟩⟩;(first|refine⟨_,rfl,?_⟩|skip)))
 go_ret
 exact⟨by first|rfl|(simp;done)|(simp[*];done),by repeat(first|exact Zv _|apply Zw)⟩
def impl_ExprOk.f (a0_0:Int) (a0_1:Int) (a0_2:Int):Option (Bool):=(impl_within.f a0_0 1 7).bind fun t393=>(if t393=true then ((impl_OperandOk.f a0_1).bind fun t394=>(if t394=true then ((impl_OperandOk.f a0_2).bind fun t395=>(some t395)) else (some false))) else (some false))
set_option maxHeartbeats 8000000 in
set_option maxRecDepth 100000 in
theorem impl_ExprOk.calls (a0_0:Int) (a0_1:Int) (a0_2:Int) (r:Bool) (w:World) (h:impl_ExprOk.f a0_0 a0_1 a0_2=some r):
  Calls Tryz.prog 82 #[.agg #[.int .i64 a0_0,.int .i64 a0_1,.int .i64 a0_2]] w fun e w'=>e= .returned (.bool r)∧Below w.heap.size w w':=by
 have hu72:=Tryz.underlying72
 have HB:=Za (Zx w.heap.size w)
 have H:((impl_within.f a0_0 1 7).bind fun t393=>(if t393=true then ((impl_OperandOk.f a0_1).bind fun t394=>(if t394=true then ((impl_OperandOk.f a0_2).bind fun t395=>(some t395)) else (some false))) else (some false)))=some r:=h
 clear h
 replace H:=Zg H
 obtain⟨t393,A20,H⟩:=H
 replace H:(if t393=true then ((impl_OperandOk.f a0_1).bind fun t394=>(if t394=true then ((impl_OperandOk.f a0_2).bind fun t395=>(some t395)) else (some false))) else (some false))=some r:=H
 have A2:=Za A20
 clear A20
 by_cases c3:t393=true
 ·subst c3
  rw[if_pos rfl] at H
  replace H:=Zg H
  obtain⟨t394,A40,H⟩:=H
  replace H:(if t394=true then ((impl_OperandOk.f a0_2).bind fun t395=>(some t395)) else (some false))=some r:=H
  have A4:=Za A40
  clear A40
  by_cases c5:t394=true
  ·subst c5
   rw[if_pos rfl] at H
   replace H:=Zg H
   obtain⟨t395,A60,H⟩:=H
   replace H:(some t395)=some r:=H
   have A6:=Za A60
   clear A60
   obtain rfl:=Zk H
   go_enter Tryz.func82,Tryz.ntmps82
   go_wp2_with (first|((with_reducible refine Zp (N:=1) rfl ?_);refine Zr ?hg (N:=1) ?hd (cs:= #[.int .i64 a0_0,.int .i64 a0_1,.int .i64 a0_2]) (t:=72) ?hr ?_;(case hd=>rfl);(case hg=>rfl);(case hr=>exact z3_16);intro gb392 hg w7 hbox hb;have BK392:=Za (hbox);have GW392:=Za ((z3_25:w.heap.size≤gb392));have GE392:=Za ((z3_25:w.heap.size≤gb392));replace HB:=Za (Zj z3_1 hb);clear hb hbox hg;have hcz8_0:w7.cell? ⟨gb392,0,none⟩=some (.int .i64 a0_0):=(Zb BK392.out 0).trans rfl;have hcz8_1:w7.cell? ⟨gb392,1,none⟩=some (.int .i64 a0_1):=(Zb BK392.out 1).trans rfl;have hcz8_2:w7.cell? ⟨gb392,2,none⟩=some (.int .i64 a0_2):=(Zb BK392.out 2).trans rfl;have hfz8_0:=Zc BK392.out 0;have hfz8_1:=Zc BK392.out 1;have hfz8_2:=Zc BK392.out 2)|((first|((with_reducible refine gate_callee (f:=30) rfl ?_);refine goesL_ (some 5) rfl rfl Tryz.func30 z3_20 rfl #[.int .i64 a0_0,.int .i64 1,.int .i64 7] rfl z3_0 ?_;(with_reducible refine(impl_within.calls a0_0 1 7 true _ A2.out).mono ?_))|(go_at_call 30;(with_reducible refine(impl_within.calls a0_0 1 7 true _ A2.out).mono ?_)));rintro e w' ⟨rfl,⟨nd,rfl⟩⟩;(first|refine⟨_,rfl,?_⟩|skip))|(go_at_call 106;(with_reducible refine(impl_OperandOk.calls a0_1 true _ A4.out).mono ?_);rintro e w' ⟨rfl,⟨nd,rfl⟩⟩)|(go_at_call 106;(with_reducible refine(impl_OperandOk.calls a0_2 t395 _ A6.out).mono ?_);rintro e w' ⟨rfl,⟨nd,rfl⟩⟩))
   go_ret
   exact⟨by first|rfl|(simp[errW_none,errW_some]<;>rfl)|(simp[*,errW_none,errW_some]<;>rfl)|(simp[*,errW_none,errW_some,i64_w];done),by repeat(first|(with_reducible first|exact HB.out|apply Zh|apply Zf|apply Ze|refine Zd ?_ GE392.out)|exact HB.out)⟩
  ·replace c5:=Bool.eq_false_iff.mpr c5
   subst c5
   rw[if_neg (show ¬(false=true) by decide)] at H
   obtain rfl:=Zk H
   go_enter Tryz.func82,Tryz.ntmps82
   go_wp2_with (first|((with_reducible refine Zp (N:=1) rfl ?_);refine Zr ?hg (N:=1) ?hd (cs:= #[.int .i64 a0_0,.int .i64 a0_1,.int .i64 a0_2]) (t:=72) ?hr ?_;(case hd=>rfl);(case hg=>rfl);(case hr=>exact z3_16);intro gb392 hg w9 hbox hb;have BK392:=Za (hbox);have GW392:=Za ((z3_25:w.heap.size≤gb392));have GE392:=Za ((z3_25:w.heap.size≤gb392));replace HB:=Za (Zj z3_1 hb);clear hb hbox hg;have hcz10_0:w9.cell? ⟨gb392,0,none⟩=some (.int .i64 a0_0):=(Zb BK392.out 0).trans rfl;have hcz10_1:w9.cell? ⟨gb392,1,none⟩=some (.int .i64 a0_1):=(Zb BK392.out 1).trans rfl;have hcz10_2:w9.cell? ⟨gb392,2,none⟩=some (.int .i64 a0_2):=(Zb BK392.out 2).trans rfl;have hfz10_0:=Zc BK392.out 0;have hfz10_1:=Zc BK392.out 1;have hfz10_2:=Zc BK392.out 2)|((first|((with_reducible refine gate_callee (f:=30) rfl ?_);refine goesL_ (some 5) rfl rfl Tryz.func30 z3_20 rfl #[.int .i64 a0_0,.int .i64 1,.int .i64 7] rfl z3_0 ?_;(with_reducible refine(impl_within.calls a0_0 1 7 true _ A2.out).mono ?_))|(go_at_call 30;(with_reducible refine(impl_within.calls a0_0 1 7 true _ A2.out).mono ?_)));rintro e w' ⟨rfl,⟨nd,rfl⟩⟩;(first|refine⟨_,rfl,?_⟩|skip))|(go_at_call 106;(with_reducible refine(impl_OperandOk.calls a0_1 false _ A4.out).mono ?_);rintro e w' ⟨rfl,⟨nd,rfl⟩⟩))
   go_ret
   exact⟨by first|rfl|(simp[errW_none,errW_some]<;>rfl)|(simp[*,errW_none,errW_some]<;>rfl)|(simp[*,errW_none,errW_some,i64_w];done),by repeat(first|(with_reducible first|exact HB.out|apply Zh|apply Zf|apply Ze|refine Zd ?_ GE392.out)|exact HB.out)⟩
 ·replace c3:=Bool.eq_false_iff.mpr c3
  subst c3
  rw[if_neg (show ¬(false=true) by decide)] at H
  obtain rfl:=Zk H
  go_enter Tryz.func82,Tryz.ntmps82
  go_wp2_with (first|((with_reducible refine Zp (N:=1) rfl ?_);refine Zr ?hg (N:=1) ?hd (cs:= #[.int .i64 a0_0,.int .i64 a0_1,.int .i64 a0_2]) (t:=72) ?hr ?_;(case hd=>rfl);(case hg=>rfl);(case hr=>exact z3_16);intro gb392 hg w11 hbox hb;have BK392:=Za (hbox);have GW392:=Za ((z3_25:w.heap.size≤gb392));have GE392:=Za ((z3_25:w.heap.size≤gb392));replace HB:=Za (Zj z3_1 hb);clear hb hbox hg;have hcz12_0:w11.cell? ⟨gb392,0,none⟩=some (.int .i64 a0_0):=(Zb BK392.out 0).trans rfl;have hcz12_1:w11.cell? ⟨gb392,1,none⟩=some (.int .i64 a0_1):=(Zb BK392.out 1).trans rfl;have hcz12_2:w11.cell? ⟨gb392,2,none⟩=some (.int .i64 a0_2):=(Zb BK392.out 2).trans rfl;have hfz12_0:=Zc BK392.out 0;have hfz12_1:=Zc BK392.out 1;have hfz12_2:=Zc BK392.out 2)|((first|((with_reducible refine gate_callee (f:=30) rfl ?_);refine goesL_ (some 5) rfl rfl Tryz.func30 z3_20 rfl #[.int .i64 a0_0,.int .i64 1,.int .i64 7] rfl z3_0 ?_;(with_reducible refine(impl_within.calls a0_0 1 7 false _ A2.out).mono ?_))|(go_at_call 30;(with_reducible refine(impl_within.calls a0_0 1 7 false _ A2.out).mono ?_)));rintro e w' ⟨rfl,⟨nd,rfl⟩⟩;(first|refine⟨_,rfl,?_⟩|skip)))
  go_ret
  exact⟨by first|rfl|(simp[errW_none,errW_some]<;>rfl)|(simp[*,errW_none,errW_some]<;>rfl)|(simp[*,errW_none,errW_some,i64_w];done),by repeat(first|(with_reducible first|exact HB.out|apply Zh|apply Zf|apply Ze|refine Zd ?_ GE392.out)|exact HB.out)⟩
def impl_isOpening.f (a0:Int):Option (Bool):=if a0=4 then (some true) else (some (a0==5))
set_option maxHeartbeats 8000000 in
set_option maxRecDepth 100000 in
theorem impl_isOpening.calls (a0:Int) (r:Bool) (w:World) (h:impl_isOpening.f a0=some r):
  Calls Tryz.prog 78 #[.int .i64 a0] w fun e w'=>e= .returned (.bool r)∧Drawn0 w w':=by
 have H:(if a0=4 then (some true) else (some (a0==5)))=some r:=h
 clear h
 by_cases c2:a0=4
 ·rw[if_pos c2] at H
  have c2b0:(a0==4)=true:=beq_iff_eq.mpr c2
  have c2b1:(a0 != 4)=false:=bne_eq_false_iff_eq.mpr c2
  clear c2
  obtain rfl:=Zk H
  go_enter Tryz.func78,Tryz.ntmps78
  go_wp2
  go_ret
  exact⟨by first|rfl|(simp;done)|(simp[*];done),by repeat(first|exact Zv _|apply Zw)⟩
 ·rw[if_neg c2] at H
  have c2b0:(a0==4)=false:=beq_eq_false_iff_ne.mpr c2
  have c2b1:(a0 != 4)=true:=bne_iff_ne.mpr c2
  obtain rfl:=Zk H
  go_enter Tryz.func78,Tryz.ntmps78
  go_wp2
  go_ret
  exact⟨by first|rfl|(simp;done)|(simp[*];done),by repeat(first|exact Zv _|apply Zw)⟩
end Go.Proofs.YtdkbkkpbdmlmbaaGreat.G
