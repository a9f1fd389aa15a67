/- Functions of the program as plain Lean functions, and that each call comes to its function's answer; written by a program of the session. No condition. -/
import Derived.Test.YtlolppaddphpoaaGx0
import Derived.Test.YtlolppaddphpoaaGx4
import Derived.Test.YtlolppaddphpoaaGx5
namespace Go.Proofs.Ytlolppaddphpoaa.G
open Go.RowKit Go.Proofs.YtlolppaddphpoaaW.PrintWords Go.Proofs.YtlolppaddphpoaaW.PrintLast Go.Proofs.YtlolppaddphpoaaW.PrintMore
attribute [local go_sem] max2_int min2_int max_two min_two max_three min_three max_four min_four   -- for this text's walks alone
set_option linter.unusedVariables false
set_option linter.unusedSimpArgs false
theorem z6_0 {P:Prop} (h:P:=by(try simp only[Yn,List.map_cons,List.map_nil]);first|done|rfl|(simp only[List.length_drop,List.length_take];rfl)):P:=h
theorem z6_1 {P:Prop} (h:P:=by repeat(first|(with_reducible first|exact HB.out|apply Zh|apply Ze|apply Zd)|exact HB.out)):P:=h
theorem z6_2 {P:Prop} (h:P:=by repeat(first|exact(Yb HR0.out (by repeat(first|(with_reducible first|exact HB.out|apply Zh|apply Ze|apply Zd|refine Zf ?_ GE228.out)|exact HB.out)))|(with_reducible refine Yd ?_ _)|(with_reducible refine Ye ?_ _)|(with_reducible refine Yf ?_))):P:=h
theorem z6_3 {P:Prop} (h:P:=by repeat(first|exact(Yb HR0.out HB.out)|(with_reducible refine Yd ?_ _)|(with_reducible refine Ye ?_ _)|(with_reducible refine Yf ?_))):P:=h
theorem z6_4 {P:Prop} (h:P:=by first|(with_reducible assumption)|assumption):P:=h
theorem z6_5 {P:Prop} (h:P:=by first|rfl|(simp;done)|(simp[*];done)):P:=h
theorem z6_6 {P:Prop} (h:P:=by first|(go_simp;done)|(go_simp;rfl)):P:=h
theorem z6_7 {P:Prop} (h:P:=by kernel_rfl):P:=h
theorem z6_8 {P:Prop} (h:P:=by rw[hg];exact(Zw z6_1)):P:=h
def spec_l09Values.l0:Nat→List Int→Int→Option (Bool)
 |0,_,_=>none
 |k+1,x0,x3=>if x3<(x0.length:Int) then (if 0≤x3 then ((spec_IsValue.f (rd x0 x3)).bind fun t216=>(if t216=true then (spec_l09Values.l0 k x0 (wrap64 (x3+1))) else (some false))) else (none)) else (some true)
def spec_l09Values.f (k:Nat) (l0:List Int):Option (Bool):=spec_l09Values.l0 k l0 0
set_option maxHeartbeats 8000000 in
set_option maxRecDepth 100000 in
theorem spec_l09Values.calls (k:Nat) (A0:Option Addr) (c0:Nat) (l0:List Int) (r:Bool) (w:World) (hr0:Kd.C (Kd.int .i64) w A0 l0.length l0) (hc0:l0.length≤c0) (h:spec_l09Values.f k l0=some r):
  Calls Try.prog 24 #[.slice A0 l0.length c0] w fun e w'=>e= .returned (.bool r)∧Drawn0 w w':=by
 have HR0:=Za hr0
 have HC0:=Za hc0
 clear hr0 hc0
 have H:(spec_l09Values.l0 k l0 0)=some r:=h
 clear h
 have H':=Za H
 clear H
 go_enter Try.func24,Try.ntmps24
 go_wp2
 go_loopg [3] k (fun kq v3 w'=>∃(x3_1:Int),v3= .int .i64 x3_1∧Aside0 (spec_l09Values.l0 kq l0 x3_1=some r)∧Aside0 (kq≤k)∧Drawn0 w w')
 case atStart=>exact⟨(0),z6_5,H',⟨Nat.le_refl _⟩,by repeat(first|exact Zu _|apply Zv)⟩
 case round=>
  clear H'
  obtain⟨x3_1,rfl,HA,HK1,⟨m1,rfl⟩⟩:=hrel
  cases gk with
  |zero=>exact absurd HA.out (by simp[spec_l09Values.l0])
  |succ k1=>
   have H:=HA.out
   clear HA
   simp only[spec_l09Values.l0] at H
   by_cases c2:x3_1<(l0.length:Int)
   ·rw[if_pos c2] at H
    have c2b0:decide (x3_1<(l0.length:Int))=true:=Zt c2
    clear c2
    by_cases c3:0≤x3_1
    ·rw[if_pos c3] at H
     have c3b0:decide (0≤x3_1)=true:=Zt c3
     clear c3
     replace H:=Zl H
     obtain⟨t216,A40,H⟩:=H
     replace H:(if t216=true then (spec_l09Values.l0 k1 l0 (wrap64 (x3_1+1))) else (some false))=some r:=H
     have A4:=Za A40
     clear A40
     by_cases c5:t216=true
     ·subst c5
      rw[if_pos rfl] at H
      have H':=Za H
      clear H
      have p215:0≤(x3_1:Int):=Zs z6_4
      have q215:x3_1<(l0.length:Int):=Zs z6_4
      obtain⟨ad215,e215,hx215_0⟩:=Kd.at_int HR0.out x3_1 p215 q215
      cases e215
      replace p215:=eq_true p215
      replace q215:=eq_true q215
      go_wp2_with (first|((first|((with_reducible refine gate_callee (f:=42) rfl ?_);refine goesL_ (some 14) rfl rfl Try.func42 z6_7 rfl #[.int .i64 (rd l0 x3_1)] rfl z6_0 ?_;(with_reducible refine(spec_IsValue.calls (rd l0 x3_1) true _ A4.out).mono ?_))|(go_at_call 42;(with_reducible refine(spec_IsValue.calls (rd l0 x3_1) true _ A4.out).mono ?_)));rintro e w' ⟨rfl,⟨nd,rfl⟩⟩;(first|refine⟨_,rfl,?_⟩|skip)))
      go_roundg k1
      case measure=>have:=HK1.out;omega
      case rel=>exact⟨(wrap64 (x3_1+1)),z6_5,H',⟨by have:=HK1.out;omega⟩,by repeat(first|exact Zu _|apply Zv)⟩
     ·replace c5:=Bool.eq_false_iff.mpr c5
      subst c5
      rw[if_neg (show ¬(false=true) by decide)] at H
      obtain rfl:=Zj H
      have p215:0≤(x3_1:Int):=Zs z6_4
      have q215:x3_1<(l0.length:Int):=Zs z6_4
      obtain⟨ad215,e215,hx215_0⟩:=Kd.at_int HR0.out x3_1 p215 q215
      cases e215
      replace p215:=eq_true p215
      replace q215:=eq_true q215
      go_wp2_with (first|((first|((with_reducible refine gate_callee (f:=42) rfl ?_);refine goesL_ (some 14) rfl rfl Try.func42 z6_7 rfl #[.int .i64 (rd l0 x3_1)] rfl z6_0 ?_;(with_reducible refine(spec_IsValue.calls (rd l0 x3_1) false _ A4.out).mono ?_))|(go_at_call 42;(with_reducible refine(spec_IsValue.calls (rd l0 x3_1) false _ A4.out).mono ?_)));rintro e w' ⟨rfl,⟨nd,rfl⟩⟩;(first|refine⟨_,rfl,?_⟩|skip)))
      go_ret
      exact⟨by first|rfl|(simp;done)|(simp[*];done),by repeat(first|exact Zu _|apply Zv)⟩
    ·rw[if_neg c3] at H
     exact absurd H (by simp)
   ·rw[if_neg c2] at H
    have c2b0:decide (x3_1<(l0.length:Int))=false:=Yc c2
    clear c2
    obtain rfl:=Zj H
    go_wp2
    go_ret
    exact⟨by first|rfl|(simp;done)|(simp[*];done),by repeat(first|exact Zu _|apply Zv)⟩
def spec_l03Bit.f (a0:Bool):Option (Int):=if a0=true then (some 1) else (some 0)
set_option maxHeartbeats 8000000 in
set_option maxRecDepth 100000 in
theorem spec_l03Bit.calls (a0:Bool) (r:Int) (w:World) (h:spec_l03Bit.f a0=some r):
  Calls Try.prog 60 #[.bool a0] w fun e w'=>e= .returned (.int .i64 r)∧Drawn0 w w':=by
 have H:(if a0=true then (some 1) else (some 0))=some r:=h
 clear h
 by_cases c2:a0=true
 ·subst c2
  rw[if_pos rfl] at H
  obtain rfl:=Zj H
  go_enter Try.func60,Try.ntmps60
  go_wp2
  go_ret
  exact⟨by first|rfl|(simp;done)|(simp[*];done),by repeat(first|exact Zu _|apply Zv)⟩
 ·replace c2:=Bool.eq_false_iff.mpr c2
  subst c2
  rw[if_neg (show ¬(false=true) by decide)] at H
  obtain rfl:=Zj H
  go_enter Try.func60,Try.ntmps60
  go_wp2
  go_ret
  exact⟨by first|rfl|(simp;done)|(simp[*];done),by repeat(first|exact Zu _|apply Zv)⟩
def spec_l03Value.f (l0:List Int) (a1:Int):Option (Int):=if a1<0 then (if 0≤(wrap64 ((-1) - a1)) then (if (wrap64 ((-1) - a1))<(l0.length:Int) then (some (rd l0 (wrap64 ((-1) - a1)))) else (none)) else (none)) else (some a1)
set_option maxHeartbeats 8000000 in
set_option maxRecDepth 100000 in
theorem spec_l03Value.calls (A0:Option Addr) (c0:Nat) (l0:List Int) (a1:Int) (r:Int) (w:World) (hr0:Kd.C (Kd.int .i64) w A0 l0.length l0) (hc0:l0.length≤c0) (h:spec_l03Value.f l0 a1=some r):
  Calls Try.prog 81 #[.slice A0 l0.length c0,.int .i64 a1] w fun e w'=>e= .returned (.int .i64 r)∧Drawn0 w w':=by
 have HR0:=Za hr0
 have HC0:=Za hc0
 clear hr0 hc0
 have H:(if a1<0 then (if 0≤(wrap64 ((-1) - a1)) then (if (wrap64 ((-1) - a1))<(l0.length:Int) then (some (rd l0 (wrap64 ((-1) - a1)))) else (none)) else (none)) else (some a1))=some r:=h
 clear h
 by_cases c3:a1<0
 ·rw[if_pos c3] at H
  have c3b0:decide (a1<0)=true:=Zt c3
  clear c3
  obtain⟨ji4,hji4⟩:∃j_:Int,(wrap64 ((-1) - a1))=j_:=⟨_,rfl⟩
  replace H:(if 0≤(ji4) then (if (ji4)<(l0.length:Int) then (some (rd l0 (ji4))) else (none)) else (none))=some r:=by first|(rw[hji4] at H;exact H)|(simp only[hji4] at H ⊢;exact H)
  have hji4w:(IntKind.i64.wrap ((-1) - a1))=ji4:=(i64_w _).trans hji4
  by_cases c5:0≤(ji4)
  ·rw[if_pos c5] at H
   have c5b0:decide (0≤(ji4))=true:=Zt c5
   clear c5
   by_cases c6:(ji4)<(l0.length:Int)
   ·rw[if_pos c6] at H
    have c6b0:decide ((ji4)<(l0.length:Int))=true:=Zt c6
    clear c6
    obtain rfl:=Zj H
    have p217:0≤((ji4):Int):=Zs z6_4
    have q217:(ji4)<(l0.length:Int):=Zs z6_4
    obtain⟨ad217,e217,hx217_0⟩:=Kd.at_int HR0.out (ji4) p217 q217
    cases e217
    replace p217:=eq_true p217
    replace q217:=eq_true q217
    go_enter Try.func81,Try.ntmps81
    go_wp2
    go_ret
    exact⟨by first|rfl|(simp;done)|(simp only[←hji4]<;>(first|rfl|simp))|(simp[*];done),by repeat(first|exact Zu _|apply Zv)⟩
   ·rw[if_neg c6] at H
    exact absurd H (by simp)
  ·rw[if_neg c5] at H
   exact absurd H (by simp)
 ·rw[if_neg c3] at H
  have c3b0:decide (a1<0)=false:=Yc c3
  clear c3
  obtain rfl:=Zj H
  go_enter Try.func81,Try.ntmps81
  go_wp2
  go_ret
  exact⟨by first|rfl|(simp;done)|(simp[*];done),by repeat(first|exact Zu _|apply Zv)⟩
def spec_Clamp.j0:Nat→Int→Int→Int→Bool→Option (Int)
 |0,_,_,_,_=>none
 |k+1,x0,x1,x2,x14=>if x14=true then (some x1) else (if x0 > x2 then (some x2) else (some x0))
def spec_Clamp.f (k:Nat) (a0:Int) (a1:Int) (a2:Int):Option (Int):=if a2<a1 then (spec_Clamp.j0 k a0 a1 a2 true) else (spec_Clamp.j0 k a0 a1 a2 (decide (a0<a1)))
theorem spec_Clamp.mono_l:∀k,(∀y0 y1 y2 y3,LeO (spec_Clamp.j0 k y0 y1 y2 y3) (spec_Clamp.j0 (k+1) y0 y1 y2 y3))
 |0=>fun _ _ _ _ r h=>by simp[spec_Clamp.j0] at h
 |k+1=>by
  have ih0:=spec_Clamp.mono_l k
  ·intro y0 y1 y2 y3
   unfold spec_Clamp.j0
   repeat' first
   |(with_reducible exact ih0 _ _ _ _)
   |(with_reducible exact LeO.refl _)
   |(with_reducible exact LeO.none _)
   |(with_reducible refine LeO.ite ?_ ?_)
   |(with_reducible refine Yj ?_ (fun _=> ?_))
   |exact ih0 _ _ _ _
   |exact LeO.none _
   |refine LeO.ite ?_ ?_
   |refine Yj ?_ (fun _=> ?_)
theorem spec_Clamp.mono:∀a0 a1 a2 k,LeO (spec_Clamp.f k a0 a1 a2) (spec_Clamp.f (k+1) a0 a1 a2):=by
 intro a0 a1 a2 k
 have ih0:=spec_Clamp.mono_l k
 unfold spec_Clamp.f
 repeat' first
   |(with_reducible exact ih0 _ _ _ _)
   |(with_reducible exact LeO.refl _)
   |(with_reducible exact LeO.none _)
   |(with_reducible refine LeO.ite ?_ ?_)
   |(with_reducible refine Yj ?_ (fun _=> ?_))
   |exact ih0 _ _ _ _
   |exact LeO.none _
   |refine LeO.ite ?_ ?_
   |refine Yj ?_ (fun _=> ?_)
set_option maxHeartbeats 8000000 in
set_option maxRecDepth 100000 in
theorem spec_Clamp.calls (k:Nat) (a0:Int) (a1:Int) (a2:Int) (r:Int) (w:World) (h:spec_Clamp.f k a0 a1 a2=some r):
  Calls Try.prog 97 #[.int .i64 a0,.int .i64 a1,.int .i64 a2] w fun e w'=>e= .returned (.int .i64 r)∧Drawn0 w w':=by
 have H:(if a2<a1 then (spec_Clamp.j0 k a0 a1 a2 true) else (spec_Clamp.j0 k a0 a1 a2 (decide (a0<a1))))=some r:=h
 clear h
 have HC4:=Za H
 clear H
 go_enter Try.func97,Try.ntmps97
 go_upto_region 1 with(fail)
 go_cut [14] (fun v14 wc=>∃(kq:Nat) (x14_3:Bool),v14= .bool x14_3∧Aside0 (spec_Clamp.j0 kq a0 a1 a2 x14_3=some r)∧Aside0 (kq≤k)∧Drawn0 w wc)
 case first=>
  have H:=HC4.out
  clear HC4
  by_cases c5:a2<a1
  ·rw[if_pos c5] at H
   have c5b0:decide (a2<a1)=true:=Zt c5
   clear c5
   (first|rw[c5b0]|(simp only[i64_w,i32_w];rw[c5b0])|skip)
   have H':=Za H
   clear H
   go_wp2
   go_meet
   case rel=>exact⟨_,(true),z6_5,H',⟨by first|omega|exact Nat.le_refl _⟩,by repeat(first|exact Zu _|apply Zv)⟩
  ·rw[if_neg c5] at H
   have c5b0:decide (a2<a1)=false:=Yc c5
   clear c5
   (first|rw[c5b0]|(simp only[i64_w,i32_w];rw[c5b0])|skip)
   have H':=Za H
   clear H
   go_wp2
   go_meet
   case rel=>exact⟨_,(decide (a0<a1)),z6_5,H',⟨by first|omega|exact Nat.le_refl _⟩,by repeat(first|exact Zu _|apply Zv)⟩
 case rest=>
  clear HC4
  obtain⟨kq,x14_3,rfl,HA,HJ3,⟨mc3,rfl⟩⟩:=hcut
  cases kq with
  |zero=>exact absurd HA.out (by simp[spec_Clamp.j0])
  |succ kj3=>
   have H:=HA.out
   clear HA
   simp only[spec_Clamp.j0] at H
   by_cases c6:x14_3=true
   ·subst c6
    rw[if_pos rfl] at H
    obtain rfl:=Zj H
    go_wp2
    go_ret
    exact⟨by first|rfl|(simp;done)|(simp[*];done),by repeat(first|exact Zu _|apply Zv)⟩
   ·replace c6:=Bool.eq_false_iff.mpr c6
    subst c6
    rw[if_neg (show ¬(false=true) by decide)] at H
    by_cases c7:a0 > a2
    ·rw[if_pos c7] at H
     have c7b0:decide (a2<a0)=true:=Zt c7
     clear c7
     obtain rfl:=Zj H
     go_wp2
     go_ret
     exact⟨by first|rfl|(simp;done)|(simp[*];done),by repeat(first|exact Zu _|apply Zv)⟩
    ·rw[if_neg c7] at H
     have c7b0:decide (a2<a0)=false:=Yc c7
     clear c7
     obtain rfl:=Zj H
     go_wp2
     go_ret
     exact⟨by first|rfl|(simp;done)|(simp[*];done),by repeat(first|exact Zu _|apply Zv)⟩
def spec_Saturate.f (k:Nat) (a0:Int):Option (Int):=(spec_Clamp.f k a0 (-1000000) 1000000).bind fun t218=>(some t218)
theorem spec_Saturate.mono:∀a0 k,LeO (spec_Saturate.f k a0) (spec_Saturate.f (k+1) a0):=by
 intro a0 k
 unfold spec_Saturate.f
 repeat' first
   |(with_reducible exact spec_Clamp.mono _ _ _ _)
   |(with_reducible exact LeO.refl _)
   |(with_reducible exact LeO.none _)
   |(with_reducible refine LeO.ite ?_ ?_)
   |(with_reducible refine Yj ?_ (fun _=> ?_))
   |exact spec_Clamp.mono _ _ _ _
   |exact LeO.none _
   |refine LeO.ite ?_ ?_
   |refine Yj ?_ (fun _=> ?_)
set_option maxHeartbeats 8000000 in
set_option maxRecDepth 100000 in
theorem spec_Saturate.calls (k:Nat) (a0:Int) (r:Int) (w:World) (h:spec_Saturate.f k a0=some r):
  Calls Try.prog 94 #[.int .i64 a0] w fun e w'=>e= .returned (.int .i64 r)∧Drawn0 w w':=by
 have H:((spec_Clamp.f k a0 (-1000000) 1000000).bind fun t218=>(some t218))=some r:=h
 clear h
 replace H:=Zl H
 obtain⟨t218,A20,H⟩:=H
 replace H:(some t218)=some r:=H
 have A2:=Za A20
 clear A20
 obtain rfl:=Zj H
 go_enter Try.func94,Try.ntmps94
 go_wp2_with (first|((first|((with_reducible refine gate_callee (f:=97) rfl ?_);refine goesL_ (some 4) rfl rfl Try.func97 z6_7 rfl #[.int .i64 a0,.int .i64 (-1000000),.int .i64 1000000] rfl z6_0 ?_;(with_reducible refine(spec_Clamp.calls k a0 (-1000000) 1000000 t218 _ A2.out).mono ?_))|(go_at_call 97;(with_reducible refine(spec_Clamp.calls k a0 (-1000000) 1000000 t218 _ A2.out).mono ?_)));rintro e w' ⟨rfl,⟨nd,rfl⟩⟩;(first|refine⟨_,rfl,?_⟩|skip)))
 go_ret
 exact⟨by first|rfl|(simp;done)|(simp[*];done),by repeat(first|exact Zu _|apply Zv)⟩
def spec_AddValues.f (k:Nat) (a0:Int) (a1:Int):Option (Int):=(spec_Saturate.f k a0).bind fun t219=>((spec_Saturate.f k a1).bind fun t220=>((spec_Saturate.f k (wrap64 (t219+t220))).bind fun t221=>(some t221)))
theorem spec_AddValues.mono:∀a0 a1 k,LeO (spec_AddValues.f k a0 a1) (spec_AddValues.f (k+1) a0 a1):=by
 intro a0 a1 k
 unfold spec_AddValues.f
 repeat' first
   |(with_reducible exact spec_Saturate.mono _ _)
   |(with_reducible exact LeO.refl _)
   |(with_reducible exact LeO.none _)
   |(with_reducible refine LeO.ite ?_ ?_)
   |(with_reducible refine Yj ?_ (fun _=> ?_))
   |exact spec_Saturate.mono _ _
   |exact LeO.none _
   |refine LeO.ite ?_ ?_
   |refine Yj ?_ (fun _=> ?_)
set_option maxHeartbeats 8000000 in
set_option maxRecDepth 100000 in
theorem spec_AddValues.calls (k:Nat) (a0:Int) (a1:Int) (r:Int) (w:World) (h:spec_AddValues.f k a0 a1=some r):
  Calls Try.prog 82 #[.int .i64 a0,.int .i64 a1] w fun e w'=>e= .returned (.int .i64 r)∧Drawn0 w w':=by
 have H:((spec_Saturate.f k a0).bind fun t219=>((spec_Saturate.f k a1).bind fun t220=>((spec_Saturate.f k (wrap64 (t219+t220))).bind fun t221=>(some t221))))=some r:=h
 clear h
 replace H:=Zl H
 obtain⟨t219,A30,H⟩:=H
 replace H:((spec_Saturate.f k a1).bind fun t220=>((spec_Saturate.f k (wrap64 (t219+t220))).bind fun t221=>(some t221)))=some r:=H
 have A3:=Za A30
 clear A30
 replace H:=Zl H
 obtain⟨t220,A40,H⟩:=H
 replace H:((spec_Saturate.f k (wrap64 (t219+t220))).bind fun t221=>(some t221))=some r:=H
 have A4:=Za A40
 clear A40
 replace H:=Zl H
 obtain⟨t221,A50,H⟩:=H
 replace H:(some t221)=some r:=H
 have A5:=Za A50
 clear A50
 obtain rfl:=Zj H
 go_enter Try.func82,Try.ntmps82
 go_wp2_with (first|((first|((with_reducible refine gate_callee (f:=94) rfl ?_);refine goesL_ (some 6) rfl rfl Try.func94 z6_7 rfl #[.int .i64 a0] rfl z6_0 ?_;(with_reducible refine(spec_Saturate.calls k a0 t219 _ A3.out).mono ?_))|(go_at_call 94;(with_reducible refine(spec_Saturate.calls k a0 t219 _ A3.out).mono ?_)));rintro e w' ⟨rfl,⟨nd,rfl⟩⟩;(first|refine⟨_,rfl,?_⟩|skip))|((first|((with_reducible refine gate_callee (f:=94) rfl ?_);refine goesL_ (some 8) rfl rfl Try.func94 z6_7 rfl #[.int .i64 a1] rfl z6_0 ?_;(with_reducible refine(spec_Saturate.calls k a1 t220 _ A4.out).mono ?_))|(go_at_call 94;(with_reducible refine(spec_Saturate.calls k a1 t220 _ A4.out).mono ?_)));rintro e w' ⟨rfl,⟨nd,rfl⟩⟩;(first|refine⟨_,rfl,?_⟩|skip))|((first|((with_reducible refine gate_callee (f:=94) rfl ?_);refine goesL_ (some 10) rfl rfl Try.func94 z6_7 rfl #[.int .i64 (wrap64 (t219+t220))] rfl z6_0 ?_;(with_reducible refine(spec_Saturate.calls k (wrap64 (t219+t220)) t221 _ A5.out).mono ?_))|(go_at_call 94;(with_reducible refine(spec_Saturate.calls k (wrap64 (t219+t220)) t221 _ A5.out).mono ?_)));rintro e w' ⟨rfl,⟨nd,rfl⟩⟩;(first|refine⟨_,rfl,?_⟩|skip)))
 go_ret
 exact⟨by first|rfl|(simp;done)|(simp[*];done),by repeat(first|exact Zu _|apply Zv)⟩
def spec_SubValues.f (k:Nat) (a0:Int) (a1:Int):Option (Int):=(spec_Saturate.f k a0).bind fun t222=>((spec_Saturate.f k a1).bind fun t223=>((spec_Saturate.f k (wrap64 (t222 - t223))).bind fun t224=>(some t224)))
theorem spec_SubValues.mono:∀a0 a1 k,LeO (spec_SubValues.f k a0 a1) (spec_SubValues.f (k+1) a0 a1):=by
 intro a0 a1 k
 unfold spec_SubValues.f
 repeat' first
   |(with_reducible exact spec_Saturate.mono _ _)
   |(with_reducible exact LeO.refl _)
   |(with_reducible exact LeO.none _)
   |(with_reducible refine LeO.ite ?_ ?_)
   |(with_reducible refine Yj ?_ (fun _=> ?_))
   |exact spec_Saturate.mono _ _
   |exact LeO.none _
   |refine LeO.ite ?_ ?_
   |refine Yj ?_ (fun _=> ?_)
set_option maxHeartbeats 8000000 in
set_option maxRecDepth 100000 in
theorem spec_SubValues.calls (k:Nat) (a0:Int) (a1:Int) (r:Int) (w:World) (h:spec_SubValues.f k a0 a1=some r):
  Calls Try.prog 83 #[.int .i64 a0,.int .i64 a1] w fun e w'=>e= .returned (.int .i64 r)∧Drawn0 w w':=by
 have H:((spec_Saturate.f k a0).bind fun t222=>((spec_Saturate.f k a1).bind fun t223=>((spec_Saturate.f k (wrap64 (t222 - t223))).bind fun t224=>(some t224))))=some r:=h
 clear h
 replace H:=Zl H
 obtain⟨t222,A30,H⟩:=H
 replace H:((spec_Saturate.f k a1).bind fun t223=>((spec_Saturate.f k (wrap64 (t222 - t223))).bind fun t224=>(some t224)))=some r:=H
 have A3:=Za A30
 clear A30
 replace H:=Zl H
 obtain⟨t223,A40,H⟩:=H
 replace H:((spec_Saturate.f k (wrap64 (t222 - t223))).bind fun t224=>(some t224))=some r:=H
 have A4:=Za A40
 clear A40
 replace H:=Zl H
 obtain⟨t224,A50,H⟩:=H
 replace H:(some t224)=some r:=H
 have A5:=Za A50
 clear A50
 obtain rfl:=Zj H
 go_enter Try.func83,Try.ntmps83
 go_wp2_with (first|((first|((with_reducible refine gate_callee (f:=94) rfl ?_);refine goesL_ (some 6) rfl rfl Try.func94 z6_7 rfl #[.int .i64 a0] rfl z6_0 ?_;(with_reducible refine(spec_Saturate.calls k a0 t222 _ A3.out).mono ?_))|(go_at_call 94;(with_reducible refine(spec_Saturate.calls k a0 t222 _ A3.out).mono ?_)));rintro e w' ⟨rfl,⟨nd,rfl⟩⟩;(first|refine⟨_,rfl,?_⟩|skip))|((first|((with_reducible refine gate_callee (f:=94) rfl ?_);refine goesL_ (some 8) rfl rfl Try.func94 z6_7 rfl #[.int .i64 a1] rfl z6_0 ?_;(with_reducible refine(spec_Saturate.calls k a1 t223 _ A4.out).mono ?_))|(go_at_call 94;(with_reducible refine(spec_Saturate.calls k a1 t223 _ A4.out).mono ?_)));rintro e w' ⟨rfl,⟨nd,rfl⟩⟩;(first|refine⟨_,rfl,?_⟩|skip))|((first|((with_reducible refine gate_callee (f:=94) rfl ?_);refine goesL_ (some 10) rfl rfl Try.func94 z6_7 rfl #[.int .i64 (wrap64 (t222 - t223))] rfl z6_0 ?_;(with_reducible refine(spec_Saturate.calls k (wrap64 (t222 - t223)) t224 _ A5.out).mono ?_))|(go_at_call 94;(with_reducible refine(spec_Saturate.calls k (wrap64 (t222 - t223)) t224 _ A5.out).mono ?_)));rintro e w' ⟨rfl,⟨nd,rfl⟩⟩;(first|refine⟨_,rfl,?_⟩|skip)))
 go_ret
 exact⟨by first|rfl|(simp;done)|(simp[*];done),by repeat(first|exact Zu _|apply Zv)⟩
def spec_MulValues.f (k:Nat) (a0:Int) (a1:Int):Option (Int):=(spec_Saturate.f k a0).bind fun t225=>((spec_Saturate.f k a1).bind fun t226=>((spec_Saturate.f k (wrap64 (t225*t226))).bind fun t227=>(some t227)))
theorem spec_MulValues.mono:∀a0 a1 k,LeO (spec_MulValues.f k a0 a1) (spec_MulValues.f (k+1) a0 a1):=by
 intro a0 a1 k
 unfold spec_MulValues.f
 repeat' first
   |(with_reducible exact spec_Saturate.mono _ _)
   |(with_reducible exact LeO.refl _)
   |(with_reducible exact LeO.none _)
   |(with_reducible refine LeO.ite ?_ ?_)
   |(with_reducible refine Yj ?_ (fun _=> ?_))
   |exact spec_Saturate.mono _ _
   |exact LeO.none _
   |refine LeO.ite ?_ ?_
   |refine Yj ?_ (fun _=> ?_)
set_option maxHeartbeats 8000000 in
set_option maxRecDepth 100000 in
theorem spec_MulValues.calls (k:Nat) (a0:Int) (a1:Int) (r:Int) (w:World) (h:spec_MulValues.f k a0 a1=some r):
  Calls Try.prog 84 #[.int .i64 a0,.int .i64 a1] w fun e w'=>e= .returned (.int .i64 r)∧Drawn0 w w':=by
 have H:((spec_Saturate.f k a0).bind fun t225=>((spec_Saturate.f k a1).bind fun t226=>((spec_Saturate.f k (wrap64 (t225*t226))).bind fun t227=>(some t227))))=some r:=h
 clear h
 replace H:=Zl H
 obtain⟨t225,A30,H⟩:=H
 replace H:((spec_Saturate.f k a1).bind fun t226=>((spec_Saturate.f k (wrap64 (t225*t226))).bind fun t227=>(some t227)))=some r:=H
 have A3:=Za A30
 clear A30
 replace H:=Zl H
 obtain⟨t226,A40,H⟩:=H
 replace H:((spec_Saturate.f k (wrap64 (t225*t226))).bind fun t227=>(some t227))=some r:=H
 have A4:=Za A40
 clear A40
 replace H:=Zl H
 obtain⟨t227,A50,H⟩:=H
 replace H:(some t227)=some r:=H
 have A5:=Za A50
 clear A50
 obtain rfl:=Zj H
 go_enter Try.func84,Try.ntmps84
 go_wp2_with (first|((first|((with_reducible refine gate_callee (f:=94) rfl ?_);refine goesL_ (some 6) rfl rfl Try.func94 z6_7 rfl #[.int .i64 a0] rfl z6_0 ?_;(with_reducible refine(spec_Saturate.calls k a0 t225 _ A3.out).mono ?_))|(go_at_call 94;(with_reducible refine(spec_Saturate.calls k a0 t225 _ A3.out).mono ?_)));rintro e w' ⟨rfl,⟨nd,rfl⟩⟩;(first|refine⟨_,rfl,?_⟩|skip))|((first|((with_reducible refine gate_callee (f:=94) rfl ?_);refine goesL_ (some 8) rfl rfl Try.func94 z6_7 rfl #[.int .i64 a1] rfl z6_0 ?_;(with_reducible refine(spec_Saturate.calls k a1 t226 _ A4.out).mono ?_))|(go_at_call 94;(with_reducible refine(spec_Saturate.calls k a1 t226 _ A4.out).mono ?_)));rintro e w' ⟨rfl,⟨nd,rfl⟩⟩;(first|refine⟨_,rfl,?_⟩|skip))|((first|((with_reducible refine gate_callee (f:=94) rfl ?_);refine goesL_ (some 10) rfl rfl Try.func94 z6_7 rfl #[.int .i64 (wrap64 (t225*t226))] rfl z6_0 ?_;(with_reducible refine(spec_Saturate.calls k (wrap64 (t225*t226)) t227 _ A5.out).mono ?_))|(go_at_call 94;(with_reducible refine(spec_Saturate.calls k (wrap64 (t225*t226)) t227 _ A5.out).mono ?_)));rintro e w' ⟨rfl,⟨nd,rfl⟩⟩;(first|refine⟨_,rfl,?_⟩|skip)))
 go_ret
 exact⟨by first|rfl|(simp;done)|(simp[*];done),by repeat(first|exact Zu _|apply Zv)⟩
def spec_l03Eval.f (k:Nat) (l0:List Int) (a1_0:Int) (a1_1:Int) (a1_2:Int):Option (Int):=(spec_l03Value.f l0 a1_1).bind fun t229=>((spec_l03Value.f l0 a1_2).bind fun t230=>(if a1_0=1 then ((spec_AddValues.f k t229 t230).bind fun t231=>(some t231)) else (if a1_0=2 then ((spec_SubValues.f k t229 t230).bind fun t232=>(some t232)) else (if a1_0=3 then ((spec_MulValues.f k t229 t230).bind fun t233=>(some t233)) else (if a1_0=4 then (some (mn t229 t230)) else (if a1_0=5 then (some (mx t229 t230)) else (if a1_0=6 then ((spec_l03Bit.f (decide (t229<t230))).bind fun t234=>(some t234)) else ((spec_l03Bit.f (t229==t230)).bind fun t235=>(some t235)))))))))
theorem spec_l03Eval.mono:∀a0 a1 a2 a3 k,LeO (spec_l03Eval.f k a0 a1 a2 a3) (spec_l03Eval.f (k+1) a0 a1 a2 a3):=by
 intro a0 a1 a2 a3 k
 unfold spec_l03Eval.f
 repeat' first
   |(with_reducible exact spec_AddValues.mono _ _ _)
   |(with_reducible exact spec_MulValues.mono _ _ _)
   |(with_reducible exact spec_SubValues.mono _ _ _)
   |(with_reducible exact LeO.refl _)
   |(with_reducible exact LeO.none _)
   |(with_reducible refine LeO.ite ?_ ?_)
   |(with_reducible refine Yj ?_ (fun _=> ?_))
   |exact spec_AddValues.mono _ _ _
   |exact spec_MulValues.mono _ _ _
   |exact spec_SubValues.mono _ _ _
   |exact LeO.none _
   |refine LeO.ite ?_ ?_
   |refine Yj ?_ (fun _=> ?_)
set_option maxHeartbeats 8000000 in
set_option maxRecDepth 100000 in
theorem spec_l03Eval.calls (k:Nat) (A0:Option Addr) (c0:Nat) (l0:List Int) (a1_0:Int) (a1_1:Int) (a1_2:Int) (r:Int) (w:World) (hr0:Kd.C (Kd.int .i64) w A0 l0.length l0) (hc0:l0.length≤c0) (h:spec_l03Eval.f k l0 a1_0 a1_1 a1_2=some r):
  Calls Try.prog 57 #[.slice A0 l0.length c0,.agg #[.int .i64 a1_0,.int .i64 a1_1,.int .i64 a1_2]] w fun e w'=>e= .returned (.int .i64 r)∧Below w.heap.size w w':=by
 have hu62:=Try.underlying62
 have HR0:=Za hr0
 have HC0:=Za hc0
 clear hr0 hc0
 have HB:=Za (Ya w.heap.size w)
 have H:((spec_l03Value.f l0 a1_1).bind fun t229=>((spec_l03Value.f l0 a1_2).bind fun t230=>(if a1_0=1 then ((spec_AddValues.f k t229 t230).bind fun t231=>(some t231)) else (if a1_0=2 then ((spec_SubValues.f k t229 t230).bind fun t232=>(some t232)) else (if a1_0=3 then ((spec_MulValues.f k t229 t230).bind fun t233=>(some t233)) else (if a1_0=4 then (some (mn t229 t230)) else (if a1_0=5 then (some (mx t229 t230)) else (if a1_0=6 then ((spec_l03Bit.f (decide (t229<t230))).bind fun t234=>(some t234)) else ((spec_l03Bit.f (t229==t230)).bind fun t235=>(some t235))))))))))=some r:=h
 clear h
 replace H:=Zl H
 obtain⟨t229,A30,H⟩:=H
 replace H:((spec_l03Value.f l0 a1_2).bind fun t230=>(if a1_0=1 then ((spec_AddValues.f k t229 t230).bind fun t231=>(some t231)) else (if a1_0=2 then ((spec_SubValues.f k t229 t230).bind fun t232=>(some t232)) else (if a1_0=3 then ((spec_MulValues.f k t229 t230).bind fun t233=>(some t233)) else (if a1_0=4 then (some (mn t229 t230)) else (if a1_0=5 then (some (mx t229 t230)) else (if a1_0=6 then ((spec_l03Bit.f (decide (t229<t230))).bind fun t234=>(some t234)) else ((spec_l03Bit.f (t229==t230)).bind fun t235=>(some t235)))))))))=some r:=H
 have A3:=Za A30
 clear A30
 replace H:=Zl H
 obtain⟨t230,A40,H⟩:=H
 replace H:(if a1_0=1 then ((spec_AddValues.f k t229 t230).bind fun t231=>(some t231)) else (if a1_0=2 then ((spec_SubValues.f k t229 t230).bind fun t232=>(some t232)) else (if a1_0=3 then ((spec_MulValues.f k t229 t230).bind fun t233=>(some t233)) else (if a1_0=4 then (some (mn t229 t230)) else (if a1_0=5 then (some (mx t229 t230)) else (if a1_0=6 then ((spec_l03Bit.f (decide (t229<t230))).bind fun t234=>(some t234)) else ((spec_l03Bit.f (t229==t230)).bind fun t235=>(some t235))))))))=some r:=H
 have A4:=Za A40
 clear A40
 by_cases c5:a1_0=1
 ·rw[if_pos c5] at H
  have c5b0:(a1_0==1)=true:=beq_iff_eq.mpr c5
  have c5b1:(a1_0 != 1)=false:=bne_eq_false_iff_eq.mpr c5
  clear c5
  replace H:=Zl H
  obtain⟨t231,A60,H⟩:=H
  replace H:(some t231)=some r:=H
  have A6:=Za A60
  clear A60
  obtain rfl:=Zj H
  go_enter Try.func57,Try.ntmps57
  go_wp2_with (first|((with_reducible refine Zp (N:=3) rfl ?_);refine Zr ?hg (N:=3) ?hd (cs:= #[.int .i64 a1_0,.int .i64 a1_1,.int .i64 a1_2]) (t:=62) ?hr ?_;(case hd=>rfl);(case hg=>rfl);(case hr=>exact z6_6);intro gb228 hg w7 hbox hb;have BK228:=Za (hbox);have GW228:=Za ((z6_8:w.heap.size≤gb228));have GE228:=Za ((z6_8:w.heap.size≤gb228));replace HB:=Za (Zi z6_1 hb);clear hb hbox hg;have hcz8_0:w7.cell? ⟨gb228,0,none⟩=some (.int .i64 a1_0):=(Zb BK228.out 0).trans rfl;have hcz8_1:w7.cell? ⟨gb228,1,none⟩=some (.int .i64 a1_1):=(Zb BK228.out 1).trans rfl;have hcz8_2:w7.cell? ⟨gb228,2,none⟩=some (.int .i64 a1_2):=(Zb BK228.out 2).trans rfl;have hfz8_0:=Zc BK228.out 0;have hfz8_1:=Zc BK228.out 1;have hfz8_2:=Zc BK228.out 2)|((first|((with_reducible refine gate_callee (f:=81) rfl ?_);refine goesL_ (some 10) rfl rfl Try.func81 z6_7 rfl #[.slice A0 l0.length c0,.int .i64 a1_1] rfl z6_0 ?_;(with_reducible refine(spec_l03Value.calls _ _ l0 a1_1 t229 _ ?side1 ?side2 A3.out).mono ?_))|(go_at_call 81;(with_reducible refine(spec_l03Value.calls _ _ l0 a1_1 t229 _ ?side1 ?side2 A3.out).mono ?_)));(case side1=>exact z6_3);(case side2=>exact HC0.out);rintro e w' ⟨rfl,⟨nd,rfl⟩⟩;(first|refine⟨_,rfl,?_⟩|skip))|((first|((with_reducible refine gate_callee (f:=81) rfl ?_);refine goesL_ (some 14) rfl rfl Try.func81 z6_7 rfl #[.slice A0 l0.length c0,.int .i64 a1_2] rfl z6_0 ?_;(with_reducible refine(spec_l03Value.calls _ _ l0 a1_2 t230 _ ?side1 ?side2 A4.out).mono ?_))|(go_at_call 81;(with_reducible refine(spec_l03Value.calls _ _ l0 a1_2 t230 _ ?side1 ?side2 A4.out).mono ?_)));(case side1=>exact z6_2);(case side2=>exact HC0.out);rintro e w' ⟨rfl,⟨nd,rfl⟩⟩;(first|refine⟨_,rfl,?_⟩|skip))|((first|((with_reducible refine gate_callee (f:=82) rfl ?_);refine goesL_ (some 21) rfl rfl Try.func82 z6_7 rfl #[.int .i64 t229,.int .i64 t230] rfl z6_0 ?_;(with_reducible refine(spec_AddValues.calls k t229 t230 t231 _ A6.out).mono ?_))|(go_at_call 82;(with_reducible refine(spec_AddValues.calls k t229 t230 t231 _ A6.out).mono ?_)));rintro e w' ⟨rfl,⟨nd,rfl⟩⟩;(first|refine⟨_,rfl,?_⟩|skip)))
  go_ret
  exact⟨by first|rfl|(simp[errW_none,errW_some]<;>rfl)|(simp[*,errW_none,errW_some]<;>rfl)|(simp[*,errW_none,errW_some,i64_w];done),by repeat(first|(with_reducible first|exact HB.out|apply Zh|apply Ze|apply Zd|refine Zf ?_ GE228.out)|exact HB.out)⟩
 ·rw[if_neg c5] at H
  have c5b0:(a1_0==1)=false:=beq_eq_false_iff_ne.mpr c5
  have c5b1:(a1_0 != 1)=true:=bne_iff_ne.mpr c5
  by_cases c9:a1_0=2
  ·rw[if_pos c9] at H
   have c9b0:(a1_0==2)=true:=beq_iff_eq.mpr c9
   have c9b1:(a1_0 != 2)=false:=bne_eq_false_iff_eq.mpr c9
   clear c9
   replace H:=Zl H
   obtain⟨t232,A100,H⟩:=H
   replace H:(some t232)=some r:=H
   have A10:=Za A100
   clear A100
   obtain rfl:=Zj H
   go_enter Try.func57,Try.ntmps57
   go_wp2_with (first|((with_reducible refine Zp (N:=3) rfl ?_);refine Zr ?hg (N:=3) ?hd (cs:= #[.int .i64 a1_0,.int .i64 a1_1,.int .i64 a1_2]) (t:=62) ?hr ?_;(case hd=>rfl);(case hg=>rfl);(case hr=>exact z6_6);intro gb228 hg w11 hbox hb;have BK228:=Za (hbox);have GW228:=Za ((z6_8:w.heap.size≤gb228));have GE228:=Za ((z6_8:w.heap.size≤gb228));replace HB:=Za (Zi z6_1 hb);clear hb hbox hg;have hcz12_0:w11.cell? ⟨gb228,0,none⟩=some (.int .i64 a1_0):=(Zb BK228.out 0).trans rfl;have hcz12_1:w11.cell? ⟨gb228,1,none⟩=some (.int .i64 a1_1):=(Zb BK228.out 1).trans rfl;have hcz12_2:w11.cell? ⟨gb228,2,none⟩=some (.int .i64 a1_2):=(Zb BK228.out 2).trans rfl;have hfz12_0:=Zc BK228.out 0;have hfz12_1:=Zc BK228.out 1;have hfz12_2:=Zc BK228.out 2)|((first|((with_reducible refine gate_callee (f:=81) rfl ?_);refine goesL_ (some 10) rfl rfl Try.func81 z6_7 rfl #[.slice A0 l0.length c0,.int .i64 a1_1] rfl z6_0 ?_;(with_reducible refine(spec_l03Value.calls _ _ l0 a1_1 t229 _ ?side1 ?side2 A3.out).mono ?_))|(go_at_call 81;(with_reducible refine(spec_l03Value.calls _ _ l0 a1_1 t229 _ ?side1 ?side2 A3.out).mono ?_)));(case side1=>exact z6_3);(case side2=>exact HC0.out);rintro e w' ⟨rfl,⟨nd,rfl⟩⟩;(first|refine⟨_,rfl,?_⟩|skip))|((first|((with_reducible refine gate_callee (f:=81) rfl ?_);refine goesL_ (some 14) rfl rfl Try.func81 z6_7 rfl #[.slice A0 l0.length c0,.int .i64 a1_2] rfl z6_0 ?_;(with_reducible refine(spec_l03Value.calls _ _ l0 a1_2 t230 _ ?side1 ?side2 A4.out).mono ?_))|(go_at_call 81;(with_reducible refine(spec_l03Value.calls _ _ l0 a1_2 t230 _ ?side1 ?side2 A4.out).mono ?_)));(case side1=>exact z6_2);(case side2=>exact HC0.out);rintro e w' ⟨rfl,⟨nd,rfl⟩⟩;(first|refine⟨_,rfl,?_⟩|skip))|((first|((with_reducible refine gate_callee (f:=83) rfl ?_);refine goesL_ (some 26) rfl rfl Try.func83 z6_7 rfl #[.int .i64 t229,.int .i64 t230] rfl z6_0 ?_;(with_reducible refine(spec_SubValues.calls k t229 t230 t232 _ A10.out).mono ?_))|(go_at_call 83;(with_reducible refine(spec_SubValues.calls k t229 t230 t232 _ A10.out).mono ?_)));rintro e w' ⟨rfl,⟨nd,rfl⟩⟩;(first|refine⟨_,rfl,?_⟩|skip)))
   go_ret
   exact⟨by first|rfl|(simp[errW_none,errW_some]<;>rfl)|(simp[*,errW_none,errW_some]<;>rfl)|(simp[*,errW_none,errW_some,i64_w];done),by repeat(first|(with_reducible first|exact HB.out|apply Zh|apply Ze|apply Zd|refine Zf ?_ GE228.out)|exact HB.out)⟩
  ·rw[if_neg c9] at H
   have c9b0:(a1_0==2)=false:=beq_eq_false_iff_ne.mpr c9
   have c9b1:(a1_0 != 2)=true:=bne_iff_ne.mpr c9
   by_cases c13:a1_0=3
   ·rw[if_pos c13] at H
    have c13b0:(a1_0==3)=true:=beq_iff_eq.mpr c13
    have c13b1:(a1_0 != 3)=false:=bne_eq_false_iff_eq.mpr c13
    clear c13
    replace H:=Zl H
    obtain⟨t233,A140,H⟩:=H
    replace H:(some t233)=some r:=H
    have A14:=Za A140
    clear A140
    obtain rfl:=Zj H
    go_enter Try.func57,Try.ntmps57
    go_wp2_with (first|((with_reducible refine Zp (N:=3) rfl ?_);refine Zr ?hg (N:=3) ?hd (cs:= #[.int .i64 a1_0,.int .i64 a1_1,.int .i64 a1_2]) (t:=62) ?hr ?_;(case hd=>rfl);(case hg=>rfl);(case hr=>exact z6_6);intro gb228 hg w15 hbox hb;have BK228:=Za (hbox);have GW228:=Za ((z6_8:w.heap.size≤gb228));have GE228:=Za ((z6_8:w.heap.size≤gb228));replace HB:=Za (Zi z6_1 hb);clear hb hbox hg;have hcz16_0:w15.cell? ⟨gb228,0,none⟩=some (.int .i64 a1_0):=(Zb BK228.out 0).trans rfl;have hcz16_1:w15.cell? ⟨gb228,1,none⟩=some (.int .i64 a1_1):=(Zb BK228.out 1).trans rfl;have hcz16_2:w15.cell? ⟨gb228,2,none⟩=some (.int .i64 a1_2):=(Zb BK228.out 2).trans rfl;have hfz16_0:=Zc BK228.out 0;have hfz16_1:=Zc BK228.out 1;have hfz16_2:=Zc BK228.out 2)|((first|((with_reducible refine gate_callee (f:=81) rfl ?_);refine goesL_ (some 10) rfl rfl Try.func81 z6_7 rfl #[.slice A0 l0.length c0,.int .i64 a1_1] rfl z6_0 ?_;(with_reducible refine(spec_l03Value.calls _ _ l0 a1_1 t229 _ ?side1 ?side2 A3.out).mono ?_))|(go_at_call 81;(with_reducible refine(spec_l03Value.calls _ _ l0 a1_1 t229 _ ?side1 ?side2 A3.out).mono ?_)));(case side1=>exact z6_3);(case side2=>exact HC0.out);rintro e w' ⟨rfl,⟨nd,rfl⟩⟩;(first|refine⟨_,rfl,?_⟩|skip))|((first|((with_reducible refine gate_callee (f:=81) rfl ?_);refine goesL_ (some 14) rfl rfl Try.func81 z6_7 rfl #[.slice A0 l0.length c0,.int .i64 a1_2] rfl z6_0 ?_;(with_reducible refine(spec_l03Value.calls _ _ l0 a1_2 t230 _ ?side1 ?side2 A4.out).mono ?_))|(go_at_call 81;(with_reducible refine(spec_l03Value.calls _ _ l0 a1_2 t230 _ ?side1 ?side2 A4.out).mono ?_)));(case side1=>exact z6_2);(case side2=>exact HC0.out);rintro e w' ⟨rfl,⟨nd,rfl⟩⟩;(first|refine⟨_,rfl,?_⟩|skip))|((first|((with_reducible refine gate_callee (f:=84) rfl ?_);refine goesL_ (some 31) rfl rfl Try.func84 z6_7 rfl #[.int .i64 t229,.int .i64 t230] rfl z6_0 ?_;(with_reducible refine(spec_MulValues.calls k t229 t230 t233 _ A14.out).mono ?_))|(go_at_call 84;(with_reducible refine(spec_MulValues.calls k t229 t230 t233 _ A14.out).mono ?_)));rintro e w' ⟨rfl,⟨nd,rfl⟩⟩;(first|refine⟨_,rfl,?_⟩|skip)))
    go_ret
    exact⟨by first|rfl|(simp[errW_none,errW_some]<;>rfl)|(simp[*,errW_none,errW_some]<;>rfl)|(simp[*,errW_none,errW_some,i64_w];done),by repeat(first|(with_reducible first|exact HB.out|apply Zh|apply Ze|apply Zd|refine Zf ?_ GE228.out)|exact HB.out)⟩
   ·rw[if_neg c13] at H
    have c13b0:(a1_0==3)=false:=beq_eq_false_iff_ne.mpr c13
    have c13b1:(a1_0 != 3)=true:=bne_iff_ne.mpr c13
    by_cases c17:a1_0=4
    ·rw[if_pos c17] at H
     have c17b0:(a1_0==4)=true:=beq_iff_eq.mpr c17
     have c17b1:(a1_0 != 4)=false:=bne_eq_false_iff_eq.mpr c17
     clear c17
     obtain⟨ji18,hji18⟩:∃j_:Int,(mn t229 t230)=j_:=⟨_,rfl⟩
     replace H:(some ji18)=some r:=by first|(rw[hji18] at H;exact H)|(simp only[hji18] at H ⊢;exact H)
     (try rw[hji18] at A3)
     (try rw[hji18] at A4)
     have hji18_:(if t230<t229 then t230 else t229)=ji18:=hji18
     obtain rfl:=Zj H
     go_enter Try.func57,Try.ntmps57
     go_wp2_with (first|((with_reducible refine Zp (N:=3) rfl ?_);refine Zr ?hg (N:=3) ?hd (cs:= #[.int .i64 a1_0,.int .i64 a1_1,.int .i64 a1_2]) (t:=62) ?hr ?_;(case hd=>rfl);(case hg=>rfl);(case hr=>exact z6_6);intro gb228 hg w19 hbox hb;have BK228:=Za (hbox);have GW228:=Za ((z6_8:w.heap.size≤gb228));have GE228:=Za ((z6_8:w.heap.size≤gb228));replace HB:=Za (Zi z6_1 hb);clear hb hbox hg;have hcz20_0:w19.cell? ⟨gb228,0,none⟩=some (.int .i64 a1_0):=(Zb BK228.out 0).trans rfl;have hcz20_1:w19.cell? ⟨gb228,1,none⟩=some (.int .i64 a1_1):=(Zb BK228.out 1).trans rfl;have hcz20_2:w19.cell? ⟨gb228,2,none⟩=some (.int .i64 a1_2):=(Zb BK228.out 2).trans rfl;have hfz20_0:=Zc BK228.out 0;have hfz20_1:=Zc BK228.out 1;have hfz20_2:=Zc BK228.out 2)|((first|((with_reducible refine gate_callee (f:=81) rfl ?_);refine goesL_ (some 10) rfl rfl Try.func81 z6_7 rfl #[.slice A0 l0.length c0,.int .i64 a1_1] rfl z6_0 ?_;(with_reducible refine(spec_l03Value.calls _ _ l0 a1_1 t229 _ ?side1 ?side2 A3.out).mono ?_))|(go_at_call 81;(with_reducible refine(spec_l03Value.calls _ _ l0 a1_1 t229 _ ?side1 ?side2 A3.out).mono ?_)));(case side1=>exact z6_3);(case side2=>exact HC0.out);rintro e w' ⟨rfl,⟨nd,rfl⟩⟩;(first|refine⟨_,rfl,?_⟩|skip))|((first|((with_reducible refine gate_callee (f:=81) rfl ?_);refine goesL_ (some 14) rfl rfl Try.func81 z6_7 rfl #[.slice A0 l0.length c0,.int .i64 a1_2] rfl z6_0 ?_;(with_reducible refine(spec_l03Value.calls _ _ l0 a1_2 t230 _ ?side1 ?side2 A4.out).mono ?_))|(go_at_call 81;(with_reducible refine(spec_l03Value.calls _ _ l0 a1_2 t230 _ ?side1 ?side2 A4.out).mono ?_)));(case side1=>exact z6_2);(case side2=>exact HC0.out);rintro e w' ⟨rfl,⟨nd,rfl⟩⟩;(first|refine⟨_,rfl,?_⟩|skip)))
     go_ret
     exact⟨by first|rfl|(simp[errW_none,errW_some]<;>rfl)|(simp only[←hji18];first|rfl|(simp[errW_none,errW_some]<;>rfl))|(simp[*,errW_none,errW_some]<;>rfl)|(simp[*,errW_none,errW_some,i64_w];done),by repeat(first|(with_reducible first|exact HB.out|apply Zh|apply Ze|apply Zd|refine Zf ?_ GE228.out)|exact HB.out)⟩
    ·rw[if_neg c17] at H
     have c17b0:(a1_0==4)=false:=beq_eq_false_iff_ne.mpr c17
     have c17b1:(a1_0 != 4)=true:=bne_iff_ne.mpr c17
     by_cases c21:a1_0=5
     ·rw[if_pos c21] at H
      have c21b0:(a1_0==5)=true:=beq_iff_eq.mpr c21
      have c21b1:(a1_0 != 5)=false:=bne_eq_false_iff_eq.mpr c21
      clear c21
      obtain⟨ji22,hji22⟩:∃j_:Int,(mx t229 t230)=j_:=⟨_,rfl⟩
      replace H:(some ji22)=some r:=by first|(rw[hji22] at H;exact H)|(simp only[hji22] at H ⊢;exact H)
      (try rw[hji22] at A3)
      (try rw[hji22] at A4)
      have hji22_:(if t229<t230 then t230 else t229)=ji22:=hji22
      obtain rfl:=Zj H
      go_enter Try.func57,Try.ntmps57
      go_wp2_with (first|((with_reducible refine Zp (N:=3) rfl ?_);refine Zr ?hg (N:=3) ?hd (cs:= #[.int .i64 a1_0,.int .i64 a1_1,.int .i64 a1_2]) (t:=62) ?hr ?_;(case hd=>rfl);(case hg=>rfl);(case hr=>exact z6_6);intro gb228 hg w23 hbox hb;have BK228:=Za (hbox);have GW228:=Za ((z6_8:w.heap.size≤gb228));have GE228:=Za ((z6_8:w.heap.size≤gb228));replace HB:=Za (Zi z6_1 hb);clear hb hbox hg;have hcz24_0:w23.cell? ⟨gb228,0,none⟩=some (.int .i64 a1_0):=(Zb BK228.out 0).trans rfl;have hcz24_1:w23.cell? ⟨gb228,1,none⟩=some (.int .i64 a1_1):=(Zb BK228.out 1).trans rfl;have hcz24_2:w23.cell? ⟨gb228,2,none⟩=some (.int .i64 a1_2):=(Zb BK228.out 2).trans rfl;have hfz24_0:=Zc BK228.out 0;have hfz24_1:=Zc BK228.out 1;have hfz24_2:=Zc BK228.out 2)|((first|((with_reducible refine gate_callee (f:=81) rfl ?_);refine goesL_ (some 10) rfl rfl Try.func81 z6_7 rfl #[.slice A0 l0.length c0,.int .i64 a1_1] rfl z6_0 ?_;(with_reducible refine(spec_l03Value.calls _ _ l0 a1_1 t229 _ ?side1 ?side2 A3.out).mono ?_))|(go_at_call 81;(with_reducible refine(spec_l03Value.calls _ _ l0 a1_1 t229 _ ?side1 ?side2 A3.out).mono ?_)));(case side1=>exact z6_3);(case side2=>exact HC0.out);rintro e w' ⟨rfl,⟨nd,rfl⟩⟩;(first|refine⟨_,rfl,?_⟩|skip))|((first|((with_reducible refine gate_callee (f:=81) rfl ?_);refine goesL_ (some 14) rfl rfl Try.func81 z6_7 rfl #[.slice A0 l0.length c0,.int .i64 a1_2] rfl z6_0 ?_;(with_reducible refine(spec_l03Value.calls _ _ l0 a1_2 t230 _ ?side1 ?side2 A4.out).mono ?_))|(go_at_call 81;(with_reducible refine(spec_l03Value.calls _ _ l0 a1_2 t230 _ ?side1 ?side2 A4.out).mono ?_)));(case side1=>exact z6_2);(case side2=>exact HC0.out);rintro e w' ⟨rfl,⟨nd,rfl⟩⟩;(first|refine⟨_,rfl,?_⟩|skip)))
      go_ret
      exact⟨by first|rfl|(simp[errW_none,errW_some]<;>rfl)|(simp only[←hji22];first|rfl|(simp[errW_none,errW_some]<;>rfl))|(simp[*,errW_none,errW_some]<;>rfl)|(simp[*,errW_none,errW_some,i64_w];done),by repeat(first|(with_reducible first|exact HB.out|apply Zh|apply Ze|apply Zd|refine Zf ?_ GE228.out)|exact HB.out)⟩
     ·rw[if_neg c21] at H
      have c21b0:(a1_0==5)=false:=beq_eq_false_iff_ne.mpr c21
      have c21b1:(a1_0 != 5)=true:=bne_iff_ne.mpr c21
      by_cases c25:a1_0=6
      ·rw[if_pos c25] at H
       have c25b0:(a1_0==6)=true:=beq_iff_eq.mpr c25
       have c25b1:(a1_0 != 6)=false:=bne_eq_false_iff_eq.mpr c25
       clear c25
       replace H:=Zl H
       obtain⟨t234,A260,H⟩:=H
       replace H:(some t234)=some r:=H
       have A26:=Za A260
       clear A260
       obtain rfl:=Zj H
       go_enter Try.func57,Try.ntmps57
       go_wp2_with (first|((with_reducible refine Zp (N:=3) rfl ?_);refine Zr ?hg (N:=3) ?hd (cs:= #[.int .i64 a1_0,.int .i64 a1_1,.int .i64 a1_2]) (t:=62) ?hr ?_;(case hd=>rfl);(case hg=>rfl);(case hr=>exact z6_6);intro gb228 hg w27 hbox hb;have BK228:=Za (hbox);have GW228:=Za ((z6_8:w.heap.size≤gb228));have GE228:=Za ((z6_8:w.heap.size≤gb228));replace HB:=Za (Zi z6_1 hb);clear hb hbox hg;have hcz28_0:w27.cell? ⟨gb228,0,none⟩=some (.int .i64 a1_0):=(Zb BK228.out 0).trans rfl;have hcz28_1:w27.cell? ⟨gb228,1,none⟩=some (.int .i64 a1_1):=(Zb BK228.out 1).trans rfl;have hcz28_2:w27.cell? ⟨gb228,2,none⟩=some (.int .i64 a1_2):=(Zb BK228.out 2).trans rfl;have hfz28_0:=Zc BK228.out 0;have hfz28_1:=Zc BK228.out 1;have hfz28_2:=Zc BK228.out 2)|((first|((with_reducible refine gate_callee (f:=81) rfl ?_);refine goesL_ (some 10) rfl rfl Try.func81 z6_7 rfl #[.slice A0 l0.length c0,.int .i64 a1_1] rfl z6_0 ?_;(with_reducible refine(spec_l03Value.calls _ _ l0 a1_1 t229 _ ?side1 ?side2 A3.out).mono ?_))|(go_at_call 81;(with_reducible refine(spec_l03Value.calls _ _ l0 a1_1 t229 _ ?side1 ?side2 A3.out).mono ?_)));(case side1=>exact z6_3);(case side2=>exact HC0.out);rintro e w' ⟨rfl,⟨nd,rfl⟩⟩;(first|refine⟨_,rfl,?_⟩|skip))|((first|((with_reducible refine gate_callee (f:=81) rfl ?_);refine goesL_ (some 14) rfl rfl Try.func81 z6_7 rfl #[.slice A0 l0.length c0,.int .i64 a1_2] rfl z6_0 ?_;(with_reducible refine(spec_l03Value.calls _ _ l0 a1_2 t230 _ ?side1 ?side2 A4.out).mono ?_))|(go_at_call 81;(with_reducible refine(spec_l03Value.calls _ _ l0 a1_2 t230 _ ?side1 ?side2 A4.out).mono ?_)));(case side1=>exact z6_2);(case side2=>exact HC0.out);rintro e w' ⟨rfl,⟨nd,rfl⟩⟩;(first|refine⟨_,rfl,?_⟩|skip))|((first|((with_reducible refine gate_callee (f:=60) rfl ?_);refine goesL_ (some 47) rfl rfl Try.func60 z6_7 rfl #[.bool (decide (t229<t230))] rfl z6_0 ?_;(with_reducible refine(spec_l03Bit.calls (decide (t229<t230)) t234 _ A26.out).mono ?_))|(go_at_call 60;(with_reducible refine(spec_l03Bit.calls (decide (t229<t230)) t234 _ A26.out).mono ?_)));rintro e w' ⟨rfl,⟨nd,rfl⟩⟩;(first|refine⟨_,rfl,?_⟩|skip)))
       go_ret
       exact⟨by first|rfl|(simp[errW_none,errW_some]<;>rfl)|(simp[*,errW_none,errW_some]<;>rfl)|(simp[*,errW_none,errW_some,i64_w];done),by repeat(first|(with_reducible first|exact HB.out|apply Zh|apply Ze|apply Zd|refine Zf ?_ GE228.out)|exact HB.out)⟩
      ·rw[if_neg c25] at H
       have c25b0:(a1_0==6)=false:=beq_eq_false_iff_ne.mpr c25
       have c25b1:(a1_0 != 6)=true:=bne_iff_ne.mpr c25
       replace H:=Zl H
       obtain⟨t235,A290,H⟩:=H
       replace H:(some t235)=some r:=H
       have A29:=Za A290
       clear A290
       obtain rfl:=Zj H
       go_enter Try.func57,Try.ntmps57
       go_wp2_with (first|((with_reducible refine Zp (N:=3) rfl ?_);refine Zr ?hg (N:=3) ?hd (cs:= #[.int .i64 a1_0,.int .i64 a1_1,.int .i64 a1_2]) (t:=62) ?hr ?_;(case hd=>rfl);(case hg=>rfl);(case hr=>exact z6_6);intro gb228 hg w30 hbox hb;have BK228:=Za (hbox);have GW228:=Za ((z6_8:w.heap.size≤gb228));have GE228:=Za ((z6_8:w.heap.size≤gb228));replace HB:=Za (Zi z6_1 hb);clear hb hbox hg;have hcz31_0:w30.cell? ⟨gb228,0,none⟩=some (.int .i64 a1_0):=(Zb BK228.out 0).trans rfl;have hcz31_1:w30.cell? ⟨gb228,1,none⟩=some (.int .i64 a1_1):=(Zb BK228.out 1).trans rfl;have hcz31_2:w30.cell? ⟨gb228,2,none⟩=some (.int .i64 a1_2):=(Zb BK228.out 2).trans rfl;have hfz31_0:=Zc BK228.out 0;have hfz31_1:=Zc BK228.out 1;have hfz31_2:=Zc BK228.out 2)|((first|((with_reducible refine gate_callee (f:=81) rfl ?_);refine goesL_ (some 10) rfl rfl Try.func81 z6_7 rfl #[.slice A0 l0.length c0,.int .i64 a1_1] rfl z6_0 ?_;(with_reducible refine(spec_l03Value.calls _ _ l0 a1_1 t229 _ ?side1 ?side2 A3.out).mono ?_))|(go_at_call 81;(with_reducible refine(spec_l03Value.calls _ _ l0 a1_1 t229 _ ?side1 ?side2 A3.out).mono ?_)));(case side1=>exact z6_3);(case side2=>exact HC0.out);rintro e w' ⟨rfl,⟨nd,rfl⟩⟩;(first|refine⟨_,rfl,?_⟩|skip))|((first|((with_reducible refine gate_callee (f:=81) rfl ?_);refine goesL_ (some 14) rfl rfl Try.func81 z6_7 rfl #[.slice A0 l0.length c0,.int .i64 a1_2] rfl z6_0 ?_;(with_reducible refine(spec_l03Value.calls _ _ l0 a1_2 t230 _ ?side1 ?side2 A4.out).mono ?_))|(go_at_call 81;(with_reducible refine(spec_l03Value.calls _ _ l0 a1_2 t230 _ ?side1 ?side2 A4.out).mono ?_)));(case side1=>exact z6_2);(case side2=>exact HC0.out);rintro e w' ⟨rfl,⟨nd,rfl⟩⟩;(first|refine⟨_,rfl,?_⟩|skip))|((first|((with_reducible refine gate_callee (f:=60) rfl ?_);refine goesL_ (some 51) rfl rfl Try.func60 z6_7 rfl #[.bool (t229==t230)] rfl z6_0 ?_;(with_reducible refine(spec_l03Bit.calls (t229==t230) t235 _ A29.out).mono ?_))|(go_at_call 60;(with_reducible refine(spec_l03Bit.calls (t229==t230) t235 _ A29.out).mono ?_)));rintro e w' ⟨rfl,⟨nd,rfl⟩⟩;(first|refine⟨_,rfl,?_⟩|skip)))
       go_ret
       exact⟨by first|rfl|(simp[errW_none,errW_some]<;>rfl)|(simp[*,errW_none,errW_some]<;>rfl)|(simp[*,errW_none,errW_some,i64_w];done),by repeat(first|(with_reducible first|exact HB.out|apply Zh|apply Ze|apply Zd|refine Zf ?_ GE228.out)|exact HB.out)⟩
def spec_ReadSensor.f (k:Nat) (l0:List Int) (a1:Int) (a2:Int):Option (Int):=if (l0.length:Int)=0 then (some 0) else ((spec_l01In.f a1 0 3).bind fun t236=>(if t236=true then (if a2<0 then (some 0) else (if 0≤(Int.tmod a2 (l0.length:Int)) then (if (Int.tmod a2 (l0.length:Int))<(l0.length:Int) then ((spec_AddValues.f k (rd l0 (Int.tmod a2 (l0.length:Int))) (wrap64 (100*a1))).bind fun t238=>(some t238)) else (none)) else (none))) else (some 0)))
theorem spec_ReadSensor.mono:∀a0 a1 a2 k,LeO (spec_ReadSensor.f k a0 a1 a2) (spec_ReadSensor.f (k+1) a0 a1 a2):=by
 intro a0 a1 a2 k
 unfold spec_ReadSensor.f
 repeat' first
   |(with_reducible exact spec_AddValues.mono _ _ _)
   |(with_reducible exact LeO.refl _)
   |(with_reducible exact LeO.none _)
   |(with_reducible refine LeO.ite ?_ ?_)
   |(with_reducible refine Yj ?_ (fun _=> ?_))
   |exact spec_AddValues.mono _ _ _
   |exact LeO.none _
   |refine LeO.ite ?_ ?_
   |refine Yj ?_ (fun _=> ?_)
set_option maxHeartbeats 8000000 in
set_option maxRecDepth 100000 in
theorem spec_ReadSensor.calls (k:Nat) (A0:Option Addr) (c0:Nat) (l0:List Int) (a1:Int) (a2:Int) (r:Int) (w:World) (hr0:Kd.C (Kd.int .i64) w A0 l0.length l0) (hc0:l0.length≤c0) (h:spec_ReadSensor.f k l0 a1 a2=some r):
  Calls Try.prog 85 #[.slice A0 l0.length c0,.int .i64 a1,.int .i64 a2] w fun e w'=>e= .returned (.int .i64 r)∧Drawn0 w w':=by
 have HR0:=Za hr0
 have HC0:=Za hc0
 clear hr0 hc0
 have H:(if (l0.length:Int)=0 then (some 0) else ((spec_l01In.f a1 0 3).bind fun t236=>(if t236=true then (if a2<0 then (some 0) else (if 0≤(Int.tmod a2 (l0.length:Int)) then (if (Int.tmod a2 (l0.length:Int))<(l0.length:Int) then ((spec_AddValues.f k (rd l0 (Int.tmod a2 (l0.length:Int))) (wrap64 (100*a1))).bind fun t238=>(some t238)) else (none)) else (none))) else (some 0))))=some r:=h
 clear h
 by_cases c4:(l0.length:Int)=0
 ·rw[if_pos c4] at H
  have c4b0:((l0.length:Int)==0)=true:=beq_iff_eq.mpr c4
  have c4b1:((l0.length:Int) != 0)=false:=bne_eq_false_iff_eq.mpr c4
  clear c4
  obtain rfl:=Zj H
  go_enter Try.func85,Try.ntmps85
  go_wp2
  go_ret
  exact⟨by first|rfl|(simp;done)|(simp[*];done),by repeat(first|exact Zu _|apply Zv)⟩
 ·rw[if_neg c4] at H
  have c4b0:((l0.length:Int)==0)=false:=beq_eq_false_iff_ne.mpr c4
  have c4b1:((l0.length:Int) != 0)=true:=bne_iff_ne.mpr c4
  have c4b2:¬(l0=[]):=fun h_=>c4 (by rw[h_];rfl)
  replace H:=Zl H
  obtain⟨t236,A50,H⟩:=H
  replace H:(if t236=true then (if a2<0 then (some 0) else (if 0≤(Int.tmod a2 (l0.length:Int)) then (if (Int.tmod a2 (l0.length:Int))<(l0.length:Int) then ((spec_AddValues.f k (rd l0 (Int.tmod a2 (l0.length:Int))) (wrap64 (100*a1))).bind fun t238=>(some t238)) else (none)) else (none))) else (some 0))=some r:=H
  have A5:=Za A50
  clear A50
  by_cases c6:t236=true
  ·subst c6
   rw[if_pos rfl] at H
   by_cases c7:a2<0
   ·rw[if_pos c7] at H
    have c7b0:decide (a2<0)=true:=Zt c7
    clear c7
    obtain rfl:=Zj H
    go_enter Try.func85,Try.ntmps85
    go_wp2_with (first|(go_at_call 23;(with_reducible refine(spec_l01In.calls a1 0 3 true _ A5.out).mono ?_);rintro e w' ⟨rfl,⟨nd,rfl⟩⟩))
    go_ret
    exact⟨by first|rfl|(simp;done)|(simp[*];done),by repeat(first|exact Zu _|apply Zv)⟩
   ·rw[if_neg c7] at H
    have c7b0:decide (a2<0)=false:=Yc c7
    clear c7
    obtain⟨ji8,hji8⟩:∃j_:Int,(Int.tmod a2 (l0.length:Int))=j_:=⟨_,rfl⟩
    replace H:(if 0≤(ji8) then (if (ji8)<(l0.length:Int) then ((spec_AddValues.f k (rd l0 (ji8)) (wrap64 (100*a1))).bind fun t238=>(some t238)) else (none)) else (none))=some r:=by first|(rw[hji8] at H;exact H)|(simp only[hji8] at H ⊢;exact H)
    (try rw[hji8] at A5)
    by_cases c9:0≤(ji8)
    ·rw[if_pos c9] at H
     have c9b0:decide (0≤(ji8))=true:=Zt c9
     clear c9
     by_cases c10:(ji8)<(l0.length:Int)
     ·rw[if_pos c10] at H
      have c10b0:decide ((ji8)<(l0.length:Int))=true:=Zt c10
      clear c10
      replace H:=Zl H
      obtain⟨t238,A110,H⟩:=H
      replace H:(some t238)=some r:=H
      have A11:=Za A110
      clear A110
      obtain rfl:=Zj H
      go_enter Try.func85,Try.ntmps85
      go_wp2_with (first|(go_at_call 23;(with_reducible refine(spec_l01In.calls a1 0 3 true _ A5.out).mono ?_);rintro e w' ⟨rfl,⟨nd,rfl⟩⟩;have p237:0≤((ji8):Int):=Zs z6_4;have q237:(ji8)<(l0.length:Int):=Zs z6_4;obtain⟨ad237,e237,hx237_0⟩:=Kd.at_int HR0.out (ji8) p237 q237;cases e237;replace p237:=eq_true p237;replace q237:=eq_true q237)|((first|((with_reducible refine gate_callee (f:=82) rfl ?_);refine goesL_ (some 28) rfl rfl Try.func82 z6_7 rfl #[.int .i64 (rd l0 (ji8)),.int .i64 (wrap64 (100*a1))] rfl (by(try simp only[Yn,List.map_cons,List.map_nil]);first|done|(simp only[hji8];rfl)|rfl|(simp only[List.length_drop,List.length_take];rfl)) ?_;(with_reducible refine(spec_AddValues.calls k (rd l0 (ji8)) (wrap64 (100*a1)) t238 _ A11.out).mono ?_))|(go_at_call 82;(with_reducible refine(spec_AddValues.calls k (rd l0 (ji8)) (wrap64 (100*a1)) t238 _ A11.out).mono ?_)));rintro e w' ⟨rfl,⟨nd,rfl⟩⟩;(first|refine⟨_,rfl,?_⟩|skip)))
      go_ret
      exact⟨by first|rfl|(simp;done)|(simp only[←hji8]<;>(first|rfl|simp))|(simp[*];done),by repeat(first|exact Zu _|apply Zv)⟩
     ·rw[if_neg c10] at H
      exact absurd H (by simp)
    ·rw[if_neg c9] at H
     exact absurd H (by simp)
  ·replace c6:=Bool.eq_false_iff.mpr c6
   subst c6
   rw[if_neg (show ¬(false=true) by decide)] at H
   obtain rfl:=Zj H
   go_enter Try.func85,Try.ntmps85
   go_wp2_with (first|(go_at_call 23;(with_reducible refine(spec_l01In.calls a1 0 3 false _ A5.out).mono ?_);rintro e w' ⟨rfl,⟨nd,rfl⟩⟩))
   go_ret
   exact⟨by first|rfl|(simp;done)|(simp[*];done),by repeat(first|exact Zu _|apply Zv)⟩
def IsS57 (w0 W:World) (g:Nat) (f0:List Int) (f1:List Int) (f2:List Int) (f3:List Int) (f4:List Int) (f5:Int) (f6:Bool):Prop:=∃A0 c0,∃A1 c1,∃A2 c2,∃A3 c3,∃A4 c4,W.heap[g]? =some (.cells #[.slice A0 f0.length c0,.slice A1 f1.length c1,.slice A2 f2.length c2,.slice A3 f3.length c3,.slice A4 f4.length c4,.int .i64 f5,.bool f6] 57 (0,0))∧w0.heap.size≤g∧Kd.C (Kd.int .i64) w0 A0 f0.length f0∧Kd.C (Kd.int .i64) w0 A1 f1.length f1∧Kd.C (Kd.int .i64) w0 A2 f2.length f2∧Kd.C (Kd.int .i64) w0 A3 f3.length f3∧Kd.C (Kd.int .i64) w0 A4 f4.length f4
theorem IsS57.grown {w0 W:World} {g:Nat} {f0:List Int} {f1:List Int} {f2:List Int} {f3:List Int} {f4:List Int} {f5:Int} {f6:Bool} {W1:World} {row:Option Nat} (h:IsS57 w0 W g f0 f1 f2 f3 f4 f5 f6) (hw:W.grownBy W1 row) (hne:some g≠row):IsS57 w0 W1 g f0 f1 f2 f3 f4 f5 f6:=by
 obtain⟨A0,c0,A1,c1,A2,c2,A3,c3,A4,c4,hb,hg,hr0,hr1,hr2,hr3,hr4⟩:=h
 exact⟨A0,c0,A1,c1,A2,c2,A3,c3,A4,c4,blk_grown hb hw hne,hg,hr0,hr1,hr2,hr3,hr4⟩
theorem IsS57.fresh {w0 W:World} {g:Nat} {f0:List Int} {f1:List Int} {f2:List Int} {f3:List Int} {f4:List Int} {f5:Int} {f6:Bool} (h:IsS57 w0 W g f0 f1 f2 f3 f4 f5 f6):∀k,W.heap.size≤k→k≠g:=by
 obtain⟨A0,c0,A1,c1,A2,c2,A3,c3,A4,c4,hb,hg,hr0,hr1,hr2,hr3,hr4⟩:=h
 exact Kd.freshB hb
theorem IsS57.kept {w0 W:World} {g:Nat} {f0:List Int} {f1:List Int} {f2:List Int} {f3:List Int} {f4:List Int} {f5:Int} {f6:Bool} {W1:World} {S:Nat→Prop} (h:IsS57 w0 W g f0 f1 f2 f3 f4 f5 f6) (hk:Kept W W1 S) (hne:¬S g):IsS57 w0 W1 g f0 f1 f2 f3 f4 f5 f6:=by
 obtain⟨A0,c0,A1,c1,A2,c2,A3,c3,A4,c4,hb,hg,hr0,hr1,hr2,hr3,hr4⟩:=h
 exact⟨A0,c0,A1,c1,A2,c2,A3,c3,A4,c4,blk_kept hb hk hne,hg,hr0,hr1,hr2,hr3,hr4⟩
theorem IsS57.below {w0 W:World} {g:Nat} {f0:List Int} {f1:List Int} {f2:List Int} {f3:List Int} {f4:List Int} {f5:Int} {f6:Bool} {W1:World} (h:IsS57 w0 W g f0 f1 f2 f3 f4 f5 f6) (hw:Below W.heap.size W W1):IsS57 w0 W1 g f0 f1 f2 f3 f4 f5 f6:=h.grown (grown_of_below hw none) (by simp)
theorem IsS57.alloc {w0 W:World} {g:Nat} {f0:List Int} {f1:List Int} {f2:List Int} {f3:List Int} {f4:List Int} {f5:Int} {f6:Bool} (h:IsS57 w0 W g f0 f1 f2 f3 f4 f5 f6) (o:Obj):IsS57 w0 (W.alloc o) g f0 f1 f2 f3 f4 f5 f6:=h.below (Zh (Ya _ _) o)
theorem IsS57.drewN {w0 W:World} {g:Nat} {f0:List Int} {f1:List Int} {f2:List Int} {f3:List Int} {f4:List Int} {f5:Int} {f6:Bool} (h:IsS57 w0 W g f0 f1 f2 f3 f4 f5 f6) (m:Nat):IsS57 w0 (W.drewN m) g f0 f1 f2 f3 f4 f5 f6:=h
theorem IsS57.drew {w0 W:World} {g:Nat} {f0:List Int} {f1:List Int} {f2:List Int} {f3:List Int} {f4:List Int} {f5:Int} {f6:Bool} (h:IsS57 w0 W g f0 f1 f2 f3 f4 f5 f6):IsS57 w0 W.drew g f0 f1 f2 f3 f4 f5 f6:=h
theorem IsS57.at_ {w0 W:World} {g:Nat} {f0:List Int} {f1:List Int} {f2:List Int} {f3:List Int} {f4:List Int} {f5:Int} {f6:Bool} {w':World} {m:Nat} (hq:W.drewN m=w') (h:IsS57 w0 W g f0 f1 f2 f3 f4 f5 f6):IsS57 w0 w' g f0 f1 f2 f3 f4 f5 f6:=by subst hq;exact IsS57.drewN h m
theorem IsS57.apart {w0 W:World} {g:Nat} {f0:List Int} {f1:List Int} {f2:List Int} {f3:List Int} {f4:List Int} {f5:Int} {f6:Bool} {α:Type} {d:Kd α} {e:Nat} {base:Nat} {ok:Nat→Prop} {v:Value} {xs:List α} (h:IsS57 w0 W g f0 f1 f2 f3 f4 f5 f6) (ho:d.R e W base ok v xs) (ht:∀q,q∈e::d.E→q≠57):d.R e W base (fun k=>ok k∧k≠g) v xs:=by
 obtain⟨A0,c0,A1,c1,A2,c2,A3,c3,A4,c4,hb,hg,hr0,hr1,hr2,hr3,hr4⟩:=h
 exact Kd.R_types ho hb ht
theorem IsS57.own_ne {w0 W:World} {g:Nat} {f0:List Int} {f1:List Int} {f2:List Int} {f3:List Int} {f4:List Int} {f5:Int} {f6:Bool} {α:Type} {d:Kd α} {e:Nat} {base:Nat} {ok:Nat→Prop} {v:Value} {xs:List α} (h:IsS57 w0 W g f0 f1 f2 f3 f4 f5 f6) (ho:d.R e W base ok v xs) (ht:e≠57):some g≠v.ownBlock:=by
 obtain⟨A0,c0,A1,c1,A2,c2,A3,c3,A4,c4,hb,hg,hr0,hr1,hr2,hr3,hr4⟩:=h
 exact Kd.R_ne ho hb ht
theorem IsS57.lt {w0 W:World} {g:Nat} {f0:List Int} {f1:List Int} {f2:List Int} {f3:List Int} {f4:List Int} {f5:Int} {f6:Bool} (h:IsS57 w0 W g f0 f1 f2 f3 f4 f5 f6):g<W.heap.size:=by
 obtain⟨A0,c0,A1,c1,A2,c2,A3,c3,A4,c4,hb,hg,hr0,hr1,hr2,hr3,hr4⟩:=h
 exact blk_lt hb
theorem IsS57.far {w0 W:World} {g:Nat} {f0:List Int} {f1:List Int} {f2:List Int} {f3:List Int} {f4:List Int} {f5:Int} {f6:Bool} {p:Addr} (h:IsS57 w0 W g f0 f1 f2 f3 f4 f5 f6) (hne:g≠p.block) (u:Value):IsS57 w0 (W.setCell p u) g f0 f1 f2 f3 f4 f5 f6:=by
 obtain⟨A0,c0,A1,c1,A2,c2,A3,c3,A4,c4,hb,hg,hr0,hr1,hr2,hr3,hr4⟩:=h
 exact⟨A0,c0,A1,c1,A2,c2,A3,c3,A4,c4,blk_far hb hne u,hg,hr0,hr1,hr2,hr3,hr4⟩
theorem blk7 {w:World} {g:Nat} {t:TypeId} {v0 v1 v2 v3 v4 v5 v6:Value} (h:w.heap[g]? =some (.cells #[v0,v1,v2,v3,v4,v5,v6] t (0,0))):
  (w.cell? ⟨g,0,none⟩=some v0∧w.cell? ⟨g,1,none⟩=some v1∧w.cell? ⟨g,2,none⟩=some v2∧w.cell? ⟨g,3,none⟩=some v3∧w.cell? ⟨g,4,none⟩=some v4∧w.cell? ⟨g,5,none⟩=some v5∧w.cell? ⟨g,6,none⟩=some v6)∧
  (w.frozen? ⟨g,0,none⟩=false∧w.frozen? ⟨g,1,none⟩=false∧w.frozen? ⟨g,2,none⟩=false):=
 ⟨⟨(Zb h 0).trans rfl,(Zb h 1).trans rfl,(Zb h 2).trans rfl,(Zb h 3).trans rfl,(Zb h 4).trans rfl,(Zb h 5).trans rfl,(Zb h 6).trans rfl⟩,⟨Zc h 0,Zc h 1,Zc h 2⟩⟩
def runP (w0:World) (Al:Option Addr) (nl cl:Nat) (Ar:Option Addr) (nr cr:Nat) (at_:Int) (live:Bool) (g:Nat) (v s u:List Int):Sep.Asn:=fun F w=>∃v0 v1 v2:Value,w.heap[g]? =some (.cells #[v0,v1,v2,.slice Al nl cl,.slice Ar nr cr,.int .i64 at_,.bool live] 57 (0,0))∧
 Sep.rowI 3 w v0 v∧Sep.rowI 3 w v1 s∧Sep.rowI 3 w v2 u∧
 ((∀k,v0.ownBlock=some k→v1.ownBlock≠some k∧v2.ownBlock≠some k)∧(∀k,v1.ownBlock=some k→v2.ownBlock≠some k)∧w0.heap.size≤g∧(∀k,v0.ownBlock=some k→w0.heap.size≤k)∧(∀k,v1.ownBlock=some k→w0.heap.size≤k)∧∀k,v2.ownBlock=some k→w0.heap.size≤k)∧
 (∀k,F k↔k=g∨v0.ownBlock=some k∨v1.ownBlock=some k∨v2.ownBlock=some k)∧∀k,k<w0.heap.size→w.heap[k]? =w0.heap[k]?
theorem runP_next {w0 w w5 w6:World} {Al Ar:Option Addr} {nl cl nr cr:Nat} {at_:Int} {live:Bool} {g:Nat} {v s u u':List Int} {F:Nat→Prop} {v0 v1 v2 v3:Value}
  (b0:w.heap[g]? =some (.cells #[v0,v1,v2,.slice Al nl cl,.slice Ar nr cr,.int .i64 at_,.bool live] 57 (0,0))) (b6:w6.heap[g]? =some (.cells #[v0,v1,v3,.slice Al nl cl,.slice Ar nr cr,.int .i64 at_,.bool live] 57 (0,0)))
  (r0:Sep.rowI 3 w v0 v) (r1:Sep.rowI 3 w v1 s) (r2:Sep.rowI 3 w v2 u) (r5:Sep.rowI 3 w5 v3 u')
  (dj:(∀k,v0.ownBlock=some k→v1.ownBlock≠some k∧v2.ownBlock≠some k)∧(∀k,v1.ownBlock=some k→v2.ownBlock≠some k)∧w0.heap.size≤g∧(∀k,v0.ownBlock=some k→w0.heap.size≤k)∧(∀k,v1.ownBlock=some k→w0.heap.size≤k)∧∀k,v2.ownBlock=some k→w0.heap.size≤k)
  (hF:∀k,F k↔k=g∨v0.ownBlock=some k∨v1.ownBlock=some k∨v2.ownBlock=some k) (old:∀k,k<w0.heap.size→w.heap[k]? =w0.heap[k]?)
  (gd:w.grownBy w5 v2.ownBlock) (ad:v3.ownBlock=v2.ownBlock∨∃b,v3.ownBlock=some b∧w.heap.size≤b) (fy:∀k,k≠g→w6.heap[k]? =w5.heap[k]?) (io:w6.os=w5.os∧w6.tape=w5.tape∧w6.output=w5.output∧w6.heap.size=w5.heap.size):
  ∃F',runP w0 Al nl cl Ar nr cr at_ live g v s u' F' w6∧Sep.After F w F' w6:=by
 have lt:=blk_lt b0
 have x3:∀k,v3.ownBlock=some k→v2.ownBlock=some k∨w.heap.size≤k:=fun k hk=>ad.imp (fun e=>e.symm.trans hk) (fun h=>by
  obtain⟨b,e,hb⟩:=h
  rw[hk] at e
  cases e
  exact hb)
 have s0:=r0.grown gd (fun k hk h=>(dj.1 k hk).2 h)
 have s1:=r1.grown gd (fun k hk h=>dj.2.1 k hk h)
 have b5:=blk_grown (w:=w) b0 gd (fun h=>r2.ne b0 (by decide) g h.symm rfl)
 refine⟨fun k=>k=g∨v0.ownBlock=some k∨v1.ownBlock=some k∨v3.ownBlock=some k,⟨v0,v1,v3,b6,s0.keep (fun k hk=>fy k (s0.ne b5 (by decide) k hk)),s1.keep (fun k hk=>fy k (s1.ne b5 (by decide) k hk)),r5.keep (fun k hk=>fy k (r5.ne b5 (by decide) k hk)),⟨fun k hk=>⟨(dj.1 k hk).1,fun h=> ?_⟩,fun k hk h=> ?_,dj.2.2.1,dj.2.2.2.1,dj.2.2.2.2.1,fun k hk=> ?_⟩,fun k=>Iff.rfl,fun k hk=> ?_⟩,⟨⟨by have:=gd.size;omega,fun k hk hn=> ?_⟩,fun k hk=> ?_,io.1.trans gd.os,io.2.1.trans gd.tape,io.2.2.1.trans gd.output⟩⟩
 ·exact(x3 k h).elim (fun e=>(dj.1 k hk).2 e) (fun e=>by have:=r0.lt k hk;omega)
 ·exact(x3 k h).elim (fun e=>dj.2.1 k hk e) (fun e=>by have:=r1.lt k hk;omega)
 ·exact(x3 k hk).elim (dj.2.2.2.2.2 k) (fun e=>by have:=dj.2.2.1;omega)
 ·have h1:=dj.2.2.1
  exact(fy k (by omega)).trans ((gd.block k (by omega) (fun h=>by have:=dj.2.2.2.2.2 k h.symm;omega)).trans (old k hk))
 ·exact(fy k (fun h=>hn ((hF k).2 (.inl h)))).trans (gd.block k hk (fun h=>hn ((hF k).2 (.inr (.inr (.inr h.symm))))))
 ·rcases hk with h|h|h|h
  ·exact .inl ((hF k).2 (.inl h))
  ·exact .inl ((hF k).2 (.inr (.inl h)))
  ·exact .inl ((hF k).2 (.inr (.inr (.inl h))))
  ·exact(x3 k h).imp (fun e=>(hF k).2 (.inr (.inr (.inr e)))) id
def senseX (k:Nat) (ll lr:List Int) (at_:Int) (live:Bool) (u:List Int) (m:Int):Option Int:=if live=true then spec_ReadSensor.f k lr m (wrap64 (at_+(u.length:Int))) else if (u.length:Int)<(ll.length:Int) then some (rd ll (u.length:Int)) else some 0
def spec_l12Sense.f (k:Nat) (ll lr:List Int) (at_:Int) (live:Bool) (u:List Int) (m:Int):Option (List Int×Int):=(senseX k ll lr at_ live u m).bind fun x=>if u.length<17592186044415 then some (u++[x],x) else none
theorem spec_l12Sense.mono:∀ll lr at_ live u m k,LeO (spec_l12Sense.f k ll lr at_ live u m) (spec_l12Sense.f (k+1) ll lr at_ live u m):=by
 intro ll lr at_ live u m k
 unfold spec_l12Sense.f senseX
 exact Yj (LeO.ite (spec_ReadSensor.mono _ _ _ k) (LeO.refl _)) (fun _=>LeO.refl _)
set_option maxHeartbeats 8000000 in
set_option maxRecDepth 100000 in
theorem spec_l12Sense.calls (k:Nat) (w0:World) (Al:Option Addr) (cl:Nat) (ll:List Int) (Ar:Option Addr) (cr:Nat) (lr:List Int) (at_:Int) (live:Bool) (g:Nat) (hl:Kd.C (Kd.int .i64) w0 Al ll.length ll) (hcl:ll.length≤cl) (hr:Kd.C (Kd.int .i64) w0 Ar lr.length lr) (hcr:lr.length≤cr)
  (v s u:List Int) (m:Int) (u':List Int) (y:Int) (F:Nat→Prop) (w:World) (hs:spec_l12Sense.f k ll lr at_ live u m=some (u',y)) (hi:runP w0 Al ll.length cl Ar lr.length cr at_ live g v s u F w):
  Calls Try.prog 58 #[.pointer (some ⟨g,0,none⟩),.int .i64 m] w fun e w'=>e= .returned (.int .i64 y)∧w'.cell? ⟨g,0,none⟩=w.cell? ⟨g,0,none⟩∧∃F',runP w0 Al ll.length cl Ar lr.length cr at_ live g v s u' F' w'∧Sep.After F w F' w':=by
 obtain⟨x,h1,h2⟩:=Zl hs
 by_cases c:u.length<17592186044415
 ·rw[if_pos c] at h2
  cases h2
  obtain⟨v0,v1,v2,i1,i2,i3,i4,i5,iF,i6⟩:=hi
  obtain⟨A2,c2,e2,hc2,-⟩:=i4.open_
  subst e2
  have BG:=Za i1
  have R0:=Za i2
  have R1:=Za i3
  have R2:=Za i4
  have DJ:=Za i5
  have HF:=Za iF
  have OLD:=Za i6
  have HLL:=Za ((Kd.heap_int .i64).C i6 hl)
  have HCL:=Za hcl
  have HRR:=Za ((Kd.heap_int .i64).C i6 hr)
  have HCR:=Za hcr
  have HU:=Za c
  obtain⟨⟨_,_,_,_,_,_,_⟩,⟨_,_,_⟩⟩:=blk7 i1
  have X:=Za h1
  clear hs h1 i1 i2 i3 i4 i5 iF i6 hl hcl hr hcr c
  cases live with
  |true=>
   have H1:Aside0 (spec_ReadSensor.f k lr m (wrap64 (at_+(u.length:Int)))=some y):=⟨by have h:=X.out;unfold senseX at h;rwa [if_pos rfl] at h⟩
   clear X
   go_enter Try.func58,Try.ntmps58
   go_wp2
   refine start_ (n:=13) (S:=fun w'=>w'.cell? ⟨g,4,none⟩=some (.slice Ar lr.length cr)∧w'.cell? ⟨g,5,none⟩=some (.int .i64 at_)) (ds:=[]) #[false,false,false,false,false,false,false,false,false,false,false,false,false] z6_7 rfl rfl ⟨(Zb (BG.out) 4).trans rfl,(Zb (BG.out) 5).trans rfl⟩ (fun hHeld=> ?_)
   refine pure_ (i:=0) (N:=some 16) (v:= ?_) (a':= ?_) #[true,false,false,false,false,false,false,false,false,false,false,false,false] rfl rfl z6_7 (fun _ _ _ h=>h) (Or.inl ⟨by rfl,?_⟩) ?_ ?_
   rotate_left
   ·intro w'
    go_simp
    with_reducible rfl
   rotate_left
   ·simp only[Act.put,Zm,Zn,Zo,i64_w,i32_w]
    rfl
   refine pure_ (i:=1) (N:=some 17) (v:= ?_) (a':= ?_) #[true,true,false,false,false,false,false,false,false,false,false,false,false] rfl rfl z6_7 (fun _ _ _ h=>h) (Or.inl ⟨by rfl,?_⟩) ?_ ?_
   rotate_left
   ·intro w'
    go_simp
    with_reducible rfl
   rotate_left
   ·simp only[Act.put,Zm,Zn,Zo,i64_w,i32_w]
    rfl
   refine pure_ (i:=2) (N:=some 18) (v:= ?_) (a':= ?_) #[true,true,true,false,false,false,false,false,false,false,false,false,false] rfl rfl z6_7 (fun _ _ _ h=>h) (Or.inl ⟨by rfl,?_⟩) ?_ ?_
   rotate_left
   ·intro w'
    go_simp
    with_reducible rfl
   rotate_left
   ·simp only[Act.put,Zm,Zn,Zo,i64_w,i32_w]
    rfl
   refine take_ (i:=3) (N:=some 19) (v:= ?_) (a':= ?_) #[true,true,true,true,false,false,false,false,false,false,false,false,false] rfl rfl z6_7 (fun _ _ _ h=>h) (Or.inl ⟨by rfl,?_⟩) hHeld ?_ ?_
   rotate_left
   ·intro w' s0
    obtain⟨_,_⟩:=s0
    go_simp
    with_reducible rfl
   rotate_left
   ·simp only[Act.put,Zm,Zn,Zo,i64_w,i32_w]
    rfl
   refine pure_ (i:=4) (N:=some 20) (v:= ?_) (a':= ?_) #[true,true,true,true,true,false,false,false,false,false,false,false,false] rfl rfl z6_7 (fun _ _ _ h=>h) (Or.inl ⟨by rfl,?_⟩) ?_ ?_
   rotate_left
   ·intro w'
    go_simp
    with_reducible rfl
   rotate_left
   ·simp only[Act.put,Zm,Zn,Zo,i64_w,i32_w]
    rfl
   refine pure_ (i:=5) (N:=some 21) (v:= ?_) (a':= ?_) #[true,true,true,true,true,true,false,false,false,false,false,false,false] rfl rfl z6_7 (fun _ _ _ h=>h) (Or.inl ⟨by rfl,?_⟩) ?_ ?_
   rotate_left
   ·intro w'
    go_simp
    with_reducible rfl
   rotate_left
   ·simp only[Act.put,Zm,Zn,Zo,i64_w,i32_w]
    rfl
   refine pure_ (i:=6) (N:=some 22) (v:= ?_) (a':= ?_) #[true,true,true,true,true,true,true,false,false,false,false,false,false] rfl rfl z6_7 (fun _ _ _ h=>h) (Or.inl ⟨by rfl,?_⟩) ?_ ?_
   rotate_left
   ·intro w'
    go_simp
    with_reducible rfl
   rotate_left
   ·simp only[Act.put,Zm,Zn,Zo,i64_w,i32_w]
    rfl
   refine pure_ (i:=7) (N:=some 23) (v:= ?_) (a':= ?_) #[true,true,true,true,true,true,true,true,false,false,false,false,false] rfl rfl z6_7 (fun _ _ _ h=>h) (Or.inl ⟨by rfl,?_⟩) ?_ ?_
   rotate_left
   ·intro w'
    go_simp
    with_reducible rfl
   rotate_left
   ·simp only[Act.put,Zm,Zn,Zo,i64_w,i32_w]
    rfl
   refine take_ (i:=8) (N:=some 24) (v:= ?_) (a':= ?_) #[true,true,true,true,true,true,true,true,true,false,false,false,false] rfl rfl z6_7 (fun _ _ _ h=>h) (Or.inl ⟨by rfl,?_⟩) hHeld ?_ ?_
   rotate_left
   ·intro w' s0
    obtain⟨_,_⟩:=s0
    go_simp
    with_reducible rfl
   rotate_left
   ·simp only[Act.put,Zm,Zn,Zo,i64_w,i32_w]
    rfl
   refine pure_ (i:=9) (N:=some 25) (v:= ?_) (a':= ?_) #[true,true,true,true,true,true,true,true,true,true,false,false,false] rfl rfl z6_7 (fun _ _ _ h=>h) (Or.inl ⟨by rfl,?_⟩) ?_ ?_
   rotate_left
   ·intro w'
    go_simp
    with_reducible rfl
   rotate_left
   ·simp only[Act.put,Zm,Zn,Zo,i64_w,i32_w]
    rfl
   refine pure_ (i:=10) (N:=some 26) (v:= ?_) (a':= ?_) #[true,true,true,true,true,true,true,true,true,true,true,false,false] rfl rfl z6_7 (fun _ _ _ h=>h) (Or.inl ⟨by rfl,?_⟩) ?_ ?_
   rotate_left
   ·intro w'
    go_simp
    with_reducible rfl
   rotate_left
   ·simp only[Act.put,Zm,Zn,Zo,i64_w,i32_w]
    rfl
   refine one_ (i:=11) (N:=some 27) #[true,true,true,true,true,true,true,true,true,true,true,true,false] rfl rfl z6_7 (by decide) (fun K hK=> ?_)
   refine goes_ Try.func85 z6_7 rfl #[.slice Ar lr.length cr,.int .i64 m,.int .i64 (wrap64 (at_+(u.length:Int)))] (by rfl) rfl rfl (by(try simp only[Yn,List.map_cons,List.map_nil]);first|done|rfl) ?_
   refine(spec_ReadSensor.calls k Ar cr lr m (wrap64 (at_+(u.length:Int))) y w.drew HRR.out HCR.out H1.out).mono ?_
   rintro e w' ⟨rfl,⟨nd,rfl⟩⟩
   refine⟨_,rfl,?_⟩
   refine hK _ _ ⟨(Zb (BG.out) 4).trans rfl,(Zb (BG.out) 5).trans rfl⟩ (fun hHeld=> ?_)
   clear hK K
   refine norm_ (a':= ?_) ?_ ?_
   rotate_left
   ·show Act.put _ (some 27) _=_
    simp only[Act.put,Zm,Zn,Zo,i64_w,i32_w]
    rfl
   refine pure_ (i:=12) (N:=some 6) (v:= ?_) (a':= ?_) #[true,true,true,true,true,true,true,true,true,true,true,true,true] rfl rfl z6_7 (fun _ _ _ h=>h) (Or.inl ⟨by rfl,?_⟩) ?_ ?_
   rotate_left
   ·intro w'
    go_simp
    with_reducible rfl
   rotate_left
   ·simp only[Act.put,Zm,Zn,Zo,i64_w,i32_w]
    rfl
   refine done_ z6_7 ?_
   go_wp2_with (first|((with_reducible refine gate_builtin (b:= .append) (xs:= #[.tmp 46,.tmp 48]) rfl ?_);at_builtin;refine Kd.R_append (w0:=w) (Kd.int .i64) 0 rfl (.tmp 46) (.tmp 48) 25 3 (.int .i64 0) 8 rfl Try.underlying25 info3 rfl (by decide) (by omega) (.slice A2 u.length c2) u y [.int .i64 y] (fun _=>True) (fun _=>False) rfl rfl rfl (fun _ hk=>hk.elim) (fun _ _=>trivial) (R2.out.to_R (fun _ _=>Nat.zero_le _) (fun _ _=>trivial)) (by repeat(first|exact Ya _ _|apply Ze|apply Zd)) (Nat.zero_le _) (by have:=HU.out;omega) ?_;intro vt w5 hod hbd hgd hatd;obtain⟨A5,c5,ed,-,-⟩:=(Sep.rowI.of_R hod).open_;rw[List.length_append,List.length_singleton] at ed;subst ed;have R5:=Za (Sep.rowI.of_R hod);have GD:Aside0 (w.grownBy w5 (Value.slice A2 u.length c2).ownBlock):=⟨⟨hgd.os,hgd.tape,hgd.output,hgd.size,hgd.block⟩⟩;have AD:Aside0 ((Value.slice A5 (u.length+1) c5).ownBlock=(Value.slice A2 u.length c2).ownBlock∨∃b,(Value.slice A5 (u.length+1) c5).ownBlock=some b∧w.heap.size≤b):=⟨hatd⟩;clear hod hbd hgd hatd;have BG5:=Za (blk_grown (w:=w) BG.out GD.out (fun h=>R2.out.ne BG.out (by decide) g h.symm rfl));obtain⟨⟨_,_,_,_,_,_,_⟩,⟨_,_,_⟩⟩:=blk7 BG5.out)|((with_reducible refine Yh (t:=25) (p:=51) rfl ?_);refine Yg (t:=25) (p:=51) (v:= ?vo1_) (w1:=w5.setCell ⟨g,2,none⟩ (Value.slice A5 (u.length+1) c5)) ?hg ?ho ?hn ?hr ?_;(case ho=>rfl);(case hg=>rfl);(case hn=>rfl);(case hr=>exact z6_6);intro w6 hw;have FY:Aside0 (∀k,k≠g→w6.heap[k]? =w5.heap[k]?):=⟨by rw[hw];exact fun k hk=>Below.heap_setCell _ _ _ k hk⟩;have IO:Aside0 (w6.os=w5.os∧w6.tape=w5.tape∧w6.output=w5.output∧w6.heap.size=w5.heap.size):=⟨by rw[hw];exact⟨rfl,rfl,rfl,by simp[World.setCell]⟩⟩;have BG6:Aside0 (w6.heap[g]? =some (.cells #[v0,v1,(Value.slice A5 (u.length+1) c5),.slice Al ll.length cl,.slice Ar lr.length cr,.int .i64 at_,.bool true] 57 (0,0))):=⟨by rw[hw];exact blk_put BG5.out 2 _ rfl⟩;clear hw)|fail)
   go_ret
   exact⟨rfl,(Zb BG6.out 0).trans (Zb BG.out 0).symm,runP_next (w5:=w5) BG.out BG6.out R0.out R1.out R2.out R5.out DJ.out HF.out OLD.out GD.out AD.out FY.out IO.out⟩
  |false=>
   have hx:=X.out
   unfold senseX at hx
   rw[if_neg (by decide)] at hx
   clear X
   by_cases hlt:(u.length:Int)<(ll.length:Int)
   ·rw[if_pos hlt] at hx
    obtain rfl:=Zj hx
    have c1:decide ((u.length:Int)<(ll.length:Int))=true:=Zt hlt
    have c2_:decide (u.length<ll.length)=true:=Zt (by omega)
    obtain⟨ad,e,ha⟩:=Kd.at_int HLL.out (u.length:Int) (by omega) hlt
    cases e
    simp only[Int.toNat_natCast] at ha
    have p1:(0≤(u.length:Int))=True:=eq_true (by omega)
    have q1:((u.length:Int)<(ll.length:Int))=True:=eq_true hlt
    clear hx hlt
    go_enter Try.func58,Try.ntmps58
    go_wp2_with (first|((with_reducible refine gate_builtin (b:= .append) (xs:= #[.tmp 46,.tmp 48]) rfl ?_);at_builtin;refine Kd.R_append (w0:=w) (Kd.int .i64) 0 rfl (.tmp 46) (.tmp 48) 25 3 (.int .i64 0) 8 rfl Try.underlying25 info3 rfl (by decide) (by omega) (.slice A2 u.length c2) u (rd ll (u.length:Int)) [.int .i64 (rd ll (u.length:Int))] (fun _=>True) (fun _=>False) rfl rfl rfl (fun _ hk=>hk.elim) (fun _ _=>trivial) (R2.out.to_R (fun _ _=>Nat.zero_le _) (fun _ _=>trivial)) (by repeat(first|exact Ya _ _|apply Ze|apply Zd)) (Nat.zero_le _) (by have:=HU.out;omega) ?_;intro vt w5 hod hbd hgd hatd;obtain⟨A5,c5,ed,-,-⟩:=(Sep.rowI.of_R hod).open_;rw[List.length_append,List.length_singleton] at ed;subst ed;have R5:=Za (Sep.rowI.of_R hod);have GD:Aside0 (w.grownBy w5 (Value.slice A2 u.length c2).ownBlock):=⟨⟨hgd.os,hgd.tape,hgd.output,hgd.size,hgd.block⟩⟩;have AD:Aside0 ((Value.slice A5 (u.length+1) c5).ownBlock=(Value.slice A2 u.length c2).ownBlock∨∃b,(Value.slice A5 (u.length+1) c5).ownBlock=some b∧w.heap.size≤b):=⟨hatd⟩;clear hod hbd hgd hatd;have BG5:=Za (blk_grown (w:=w) BG.out GD.out (fun h=>R2.out.ne BG.out (by decide) g h.symm rfl));obtain⟨⟨_,_,_,_,_,_,_⟩,⟨_,_,_⟩⟩:=blk7 BG5.out)|((with_reducible refine Yh (t:=25) (p:=51) rfl ?_);refine Yg (t:=25) (p:=51) (v:= ?vo1_) (w1:=w5.setCell ⟨g,2,none⟩ (Value.slice A5 (u.length+1) c5)) ?hg ?ho ?hn ?hr ?_;(case ho=>rfl);(case hg=>rfl);(case hn=>rfl);(case hr=>exact z6_6);intro w6 hw;have FY:Aside0 (∀k,k≠g→w6.heap[k]? =w5.heap[k]?):=⟨by rw[hw];exact fun k hk=>Below.heap_setCell _ _ _ k hk⟩;have IO:Aside0 (w6.os=w5.os∧w6.tape=w5.tape∧w6.output=w5.output∧w6.heap.size=w5.heap.size):=⟨by rw[hw];exact⟨rfl,rfl,rfl,by simp[World.setCell]⟩⟩;have BG6:Aside0 (w6.heap[g]? =some (.cells #[v0,v1,(Value.slice A5 (u.length+1) c5),.slice (some ad) ll.length cl,.slice Ar lr.length cr,.int .i64 at_,.bool false] 57 (0,0))):=⟨by rw[hw];exact blk_put BG5.out 2 _ rfl⟩;clear hw)|fail)
    go_ret
    exact⟨rfl,(Zb BG6.out 0).trans (Zb BG.out 0).symm,runP_next (w5:=w5) BG.out BG6.out R0.out R1.out R2.out R5.out DJ.out HF.out OLD.out GD.out AD.out FY.out IO.out⟩
   ·rw[if_neg hlt] at hx
    obtain rfl:=Zj hx
    have c1:decide ((u.length:Int)<(ll.length:Int))=false:=Yc hlt
    have c2_:decide (u.length<ll.length)=false:=Yc (by omega)
    clear hx hlt
    go_enter Try.func58,Try.ntmps58
    go_wp2_with (first|((with_reducible refine gate_builtin (b:= .append) (xs:= #[.tmp 46,.tmp 48]) rfl ?_);at_builtin;refine Kd.R_append (w0:=w) (Kd.int .i64) 0 rfl (.tmp 46) (.tmp 48) 25 3 (.int .i64 0) 8 rfl Try.underlying25 info3 rfl (by decide) (by omega) (.slice A2 u.length c2) u 0 [.int .i64 0] (fun _=>True) (fun _=>False) rfl rfl rfl (fun _ hk=>hk.elim) (fun _ _=>trivial) (R2.out.to_R (fun _ _=>Nat.zero_le _) (fun _ _=>trivial)) (by repeat(first|exact Ya _ _|apply Ze|apply Zd)) (Nat.zero_le _) (by have:=HU.out;omega) ?_;intro vt w5 hod hbd hgd hatd;obtain⟨A5,c5,ed,-,-⟩:=(Sep.rowI.of_R hod).open_;rw[List.length_append,List.length_singleton] at ed;subst ed;have R5:=Za (Sep.rowI.of_R hod);have GD:Aside0 (w.grownBy w5 (Value.slice A2 u.length c2).ownBlock):=⟨⟨hgd.os,hgd.tape,hgd.output,hgd.size,hgd.block⟩⟩;have AD:Aside0 ((Value.slice A5 (u.length+1) c5).ownBlock=(Value.slice A2 u.length c2).ownBlock∨∃b,(Value.slice A5 (u.length+1) c5).ownBlock=some b∧w.heap.size≤b):=⟨hatd⟩;clear hod hbd hgd hatd;have BG5:=Za (blk_grown (w:=w) BG.out GD.out (fun h=>R2.out.ne BG.out (by decide) g h.symm rfl));obtain⟨⟨_,_,_,_,_,_,_⟩,⟨_,_,_⟩⟩:=blk7 BG5.out)|((with_reducible refine Yh (t:=25) (p:=51) rfl ?_);refine Yg (t:=25) (p:=51) (v:= ?vo1_) (w1:=w5.setCell ⟨g,2,none⟩ (Value.slice A5 (u.length+1) c5)) ?hg ?ho ?hn ?hr ?_;(case ho=>rfl);(case hg=>rfl);(case hn=>rfl);(case hr=>exact z6_6);intro w6 hw;have FY:Aside0 (∀k,k≠g→w6.heap[k]? =w5.heap[k]?):=⟨by rw[hw];exact fun k hk=>Below.heap_setCell _ _ _ k hk⟩;have IO:Aside0 (w6.os=w5.os∧w6.tape=w5.tape∧w6.output=w5.output∧w6.heap.size=w5.heap.size):=⟨by rw[hw];exact⟨rfl,rfl,rfl,by simp[World.setCell]⟩⟩;have BG6:Aside0 (w6.heap[g]? =some (.cells #[v0,v1,(Value.slice A5 (u.length+1) c5),.slice Al ll.length cl,.slice Ar lr.length cr,.int .i64 at_,.bool false] 57 (0,0))):=⟨by rw[hw];exact blk_put BG5.out 2 _ rfl⟩;clear hw)|fail)
    go_ret
    exact⟨rfl,(Zb BG6.out 0).trans (Zb BG.out 0).symm,runP_next (w5:=w5) BG.out BG6.out R0.out R1.out R2.out R5.out DJ.out HF.out OLD.out GD.out AD.out FY.out IO.out⟩
 ·rw[if_neg c] at h2
  cases h2
def spec_l05Opens.f (a0_0:Int) (a0_1:Int) (a0_2:Int) (a0_3:Int) (a0_4:Int) (a0_5:Int):Option (Bool):=if a0_0=4 then (some true) else (some (a0_0==5))
set_option maxHeartbeats 8000000 in
set_option maxRecDepth 100000 in
theorem spec_l05Opens.calls (a0_0:Int) (a0_1:Int) (a0_2:Int) (a0_3:Int) (a0_4:Int) (a0_5:Int) (r:Bool) (w:World) (h:spec_l05Opens.f a0_0 a0_1 a0_2 a0_3 a0_4 a0_5=some r):
  Calls Try.prog 86 #[.agg #[.int .i64 a0_0,.int .i64 a0_1,.int .i64 a0_2,.int .i64 a0_3,.int .i64 a0_4,.int .i64 a0_5]] w fun e w'=>e= .returned (.bool r)∧Below w.heap.size w w':=by
 have hu80:=Try.underlying80
 have HB:=Za (Ya w.heap.size w)
 have H:(if a0_0=4 then (some true) else (some (a0_0==5)))=some r:=h
 clear h
 by_cases c2:a0_0=4
 ·rw[if_pos c2] at H
  have c2b0:(a0_0==4)=true:=beq_iff_eq.mpr c2
  have c2b1:(a0_0 != 4)=false:=bne_eq_false_iff_eq.mpr c2
  clear c2
  obtain rfl:=Zj H
  go_enter Try.func86,Try.ntmps86
  go_wp2_with (first|((with_reducible refine Zp (N:=1) rfl ?_);refine Zr ?hg (N:=1) ?hd (cs:= #[.int .i64 a0_0,.int .i64 a0_1,.int .i64 a0_2,.int .i64 a0_3,.int .i64 a0_4,.int .i64 a0_5]) (t:=80) ?hr ?_;(case hd=>rfl);(case hg=>rfl);(case hr=>exact z6_6);intro gb239 hg w3 hbox hb;have BK239:=Za (hbox);have GW239:=Za ((z6_8:w.heap.size≤gb239));have GE239:=Za ((z6_8:w.heap.size≤gb239));replace HB:=Za (Zi z6_1 hb);clear hb hbox hg;have hcz4_0:w3.cell? ⟨gb239,0,none⟩=some (.int .i64 a0_0):=(Zb BK239.out 0).trans rfl;have hcz4_1:w3.cell? ⟨gb239,1,none⟩=some (.int .i64 a0_1):=(Zb BK239.out 1).trans rfl;have hcz4_2:w3.cell? ⟨gb239,2,none⟩=some (.int .i64 a0_2):=(Zb BK239.out 2).trans rfl;have hcz4_3:w3.cell? ⟨gb239,3,none⟩=some (.int .i64 a0_3):=(Zb BK239.out 3).trans rfl;have hcz4_4:w3.cell? ⟨gb239,4,none⟩=some (.int .i64 a0_4):=(Zb BK239.out 4).trans rfl;have hcz4_5:w3.cell? ⟨gb239,5,none⟩=some (.int .i64 a0_5):=(Zb BK239.out 5).trans rfl;have hfz4_0:=Zc BK239.out 0;have hfz4_1:=Zc BK239.out 1;have hfz4_2:=Zc BK239.out 2;have hfz4_3:=Zc BK239.out 3;have hfz4_4:=Zc BK239.out 4;have hfz4_5:=Zc BK239.out 5))
  go_ret
  exact⟨by first|rfl|(simp[errW_none,errW_some]<;>rfl)|(simp[*,errW_none,errW_some]<;>rfl)|(simp[*,errW_none,errW_some,i64_w];done),by repeat(first|(with_reducible first|exact HB.out|apply Zh|apply Ze|apply Zd|refine Zf ?_ GE239.out)|exact HB.out)⟩
 ·rw[if_neg c2] at H
  have c2b0:(a0_0==4)=false:=beq_eq_false_iff_ne.mpr c2
  have c2b1:(a0_0 != 4)=true:=bne_iff_ne.mpr c2
  obtain rfl:=Zj H
  go_enter Try.func86,Try.ntmps86
  go_wp2_with (first|((with_reducible refine Zp (N:=1) rfl ?_);refine Zr ?hg (N:=1) ?hd (cs:= #[.int .i64 a0_0,.int .i64 a0_1,.int .i64 a0_2,.int .i64 a0_3,.int .i64 a0_4,.int .i64 a0_5]) (t:=80) ?hr ?_;(case hd=>rfl);(case hg=>rfl);(case hr=>exact z6_6);intro gb239 hg w5 hbox hb;have BK239:=Za (hbox);have GW239:=Za ((z6_8:w.heap.size≤gb239));have GE239:=Za ((z6_8:w.heap.size≤gb239));replace HB:=Za (Zi z6_1 hb);clear hb hbox hg;have hcz6_0:w5.cell? ⟨gb239,0,none⟩=some (.int .i64 a0_0):=(Zb BK239.out 0).trans rfl;have hcz6_1:w5.cell? ⟨gb239,1,none⟩=some (.int .i64 a0_1):=(Zb BK239.out 1).trans rfl;have hcz6_2:w5.cell? ⟨gb239,2,none⟩=some (.int .i64 a0_2):=(Zb BK239.out 2).trans rfl;have hcz6_3:w5.cell? ⟨gb239,3,none⟩=some (.int .i64 a0_3):=(Zb BK239.out 3).trans rfl;have hcz6_4:w5.cell? ⟨gb239,4,none⟩=some (.int .i64 a0_4):=(Zb BK239.out 4).trans rfl;have hcz6_5:w5.cell? ⟨gb239,5,none⟩=some (.int .i64 a0_5):=(Zb BK239.out 5).trans rfl;have hfz6_0:=Zc BK239.out 0;have hfz6_1:=Zc BK239.out 1;have hfz6_2:=Zc BK239.out 2;have hfz6_3:=Zc BK239.out 3;have hfz6_4:=Zc BK239.out 4;have hfz6_5:=Zc BK239.out 5))
  go_ret
  exact⟨by first|rfl|(simp[errW_none,errW_some]<;>rfl)|(simp[*,errW_none,errW_some]<;>rfl)|(simp[*,errW_none,errW_some,i64_w];done),by repeat(first|(with_reducible first|exact HB.out|apply Zh|apply Ze|apply Zd|refine Zf ?_ GE239.out)|exact HB.out)⟩
/-! ### spec_l05End: function 59 -/
mutual
def spec_l05End.l0:Nat→List (S80)→Int→Int→Option (Int)
 |0,_,_,_=>none
 |k+1,x0,x5,x6=>if x6<(x0.length:Int) then (if 0≤x6 then ((spec_l05Opens.f ((rd_T80 x0 x6).f0) ((rd_T80 x0 x6).f1) ((rd_T80 x0 x6).f2) ((rd_T80 x0 x6).f3.f0) ((rd_T80 x0 x6).f3.f1) ((rd_T80 x0 x6).f3.f2)).bind fun t241=>(if t241=true then (spec_l05End.j1 k x0 (wrap64 (x5+1)) x6) else (spec_l05End.j1 k x0 x5 x6))) else (none)) else (some (-1))
def spec_l05End.j1:Nat→List (S80)→Int→Int→Option (Int)
 |0,_,_,_=>none
 |k+1,x0,x5,x6=>if 0≤x6 then (if x6<(x0.length:Int) then (if ((rd_T80 x0 x6).f0)=6 then (if (wrap64 (x5 - 1))=0 then (some x6) else (spec_l05End.l0 k x0 (wrap64 (x5 - 1)) (wrap64 (x6+1)))) else (spec_l05End.l0 k x0 x5 (wrap64 (x6+1)))) else (none)) else (none)
end
def spec_l05End.f (k:Nat) (l0:List (S80)) (a1:Int):Option (Int):=spec_l05End.l0 k l0 0 a1
theorem spec_l05End.mono_l:∀k,(∀y0 y1 y2,LeO (spec_l05End.l0 k y0 y1 y2) (spec_l05End.l0 (k+1) y0 y1 y2))∧(∀y0 y1 y2,LeO (spec_l05End.j1 k y0 y1 y2) (spec_l05End.j1 (k+1) y0 y1 y2))
 |0=>⟨fun _ _ _ r h=>by simp[spec_l05End.l0] at h,fun _ _ _ r h=>by simp[spec_l05End.j1] at h⟩
 |k+1=>by
  obtain⟨ih0,ih1⟩:=spec_l05End.mono_l k
  refine⟨?_,?_⟩
  ·intro y0 y1 y2
   unfold spec_l05End.l0
   repeat' first
   |(with_reducible exact ih0 _ _ _)
   |(with_reducible exact ih1 _ _ _)
   |(with_reducible exact LeO.refl _)
   |(with_reducible exact LeO.none _)
   |(with_reducible refine LeO.ite ?_ ?_)
   |(with_reducible refine Yj ?_ (fun _=> ?_))
   |exact ih0 _ _ _
   |exact ih1 _ _ _
   |exact LeO.none _
   |refine LeO.ite ?_ ?_
   |refine Yj ?_ (fun _=> ?_)
  ·intro y0 y1 y2
   unfold spec_l05End.j1
   repeat' first
   |(with_reducible exact ih0 _ _ _)
   |(with_reducible exact ih1 _ _ _)
   |(with_reducible exact LeO.refl _)
   |(with_reducible exact LeO.none _)
   |(with_reducible refine LeO.ite ?_ ?_)
   |(with_reducible refine Yj ?_ (fun _=> ?_))
   |exact ih0 _ _ _
   |exact ih1 _ _ _
   |exact LeO.none _
   |refine LeO.ite ?_ ?_
   |refine Yj ?_ (fun _=> ?_)
theorem spec_l05End.mono:∀a0 a1 k,LeO (spec_l05End.f k a0 a1) (spec_l05End.f (k+1) a0 a1):=by
 intro a0 a1 k
 obtain⟨ih0,ih1⟩:=spec_l05End.mono_l k
 unfold spec_l05End.f
 repeat' first
   |(with_reducible exact ih0 _ _ _)
   |(with_reducible exact ih1 _ _ _)
   |(with_reducible exact LeO.refl _)
   |(with_reducible exact LeO.none _)
   |(with_reducible refine LeO.ite ?_ ?_)
   |(with_reducible refine Yj ?_ (fun _=> ?_))
   |exact ih0 _ _ _
   |exact ih1 _ _ _
   |exact LeO.none _
   |refine LeO.ite ?_ ?_
   |refine Yj ?_ (fun _=> ?_)
set_option maxHeartbeats 8000000 in
set_option maxRecDepth 100000 in
theorem spec_l05End.calls (k:Nat) (A0:Option Addr) (c0:Nat) (l0:List (S80)) (a1:Int) (r:Int) (w:World) (hr0:Kd.C k80 w A0 l0.length l0) (hc0:l0.length≤c0) (h:spec_l05End.f k l0 a1=some r):
  Calls Try.prog 59 #[.slice A0 l0.length c0,.int .i64 a1] w fun e w'=>e= .returned (.int .i64 r)∧Below w.heap.size w w':=by
 have hu80:=Try.underlying80
 have HR0:=Za hr0
 have HC0:=Za hc0
 clear hr0 hc0
 have HB:=Za (Ya w.heap.size w)
 have H:(spec_l05End.l0 k l0 0 a1)=some r:=h
 clear h
 have H':=Za H
 clear H
 go_enter Try.func59,Try.ntmps59
 go_wp2
 go_loopg [5,6] k (fun kq v5 v6 w'=>∃(x5_1:Int) (x6_1:Int),v5= .int .i64 x5_1∧v6= .int .i64 x6_1∧Aside0 (spec_l05End.l0 kq l0 x5_1 x6_1=some r)∧Aside0 (kq≤k)∧Aside0 (Below w.heap.size w w'))
 case atStart=>exact⟨(0),(a1),z6_5,z6_5,H',⟨Nat.le_refl _⟩,⟨by repeat(first|(with_reducible first|exact HB.out|apply Zh|apply Ze|apply Zd)|exact HB.out)⟩⟩
 case round=>
  clear H'
  obtain⟨x5_1,x6_1,rfl,rfl,HA,HK1,HB⟩:=hrel
  cases gk with
  |zero=>exact absurd HA.out (by simp[spec_l05End.l0])
  |succ k1=>
   have H:=HA.out
   clear HA
   simp only[spec_l05End.l0] at H
   by_cases c3:x6_1<(l0.length:Int)
   ·rw[if_pos c3] at H
    have c3b0:decide (x6_1<(l0.length:Int))=true:=Zt c3
    clear c3
    by_cases c4:0≤x6_1
    ·rw[if_pos c4] at H
     have c4b0:decide (0≤x6_1)=true:=Zt c4
     clear c4
     replace H:=Zl H
     obtain⟨t241,A50,H⟩:=H
     replace H:(if t241=true then (spec_l05End.j1 k1 l0 (wrap64 (x5_1+1)) x6_1) else (spec_l05End.j1 k1 l0 x5_1 x6_1))=some r:=H
     have A5:=Za A50
     clear A50
     have HC6:=Za H
     clear H
     have p240:0≤(x6_1:Int):=Zs z6_4
     have q240:x6_1<(l0.length:Int):=Zs z6_4
     obtain⟨ad240,e240,hx240_0,hx240_1,hx240_2,hx240_3,hx240_4,hx240_5⟩:=at_T80 HR0.out x6_1 p240 q240
     cases e240
     replace hx240_0:=(HB.out.cell (Zg w _ hx240_0)).trans hx240_0
     replace hx240_1:=(HB.out.cell (Zg w _ hx240_1)).trans hx240_1
     replace hx240_2:=(HB.out.cell (Zg w _ hx240_2)).trans hx240_2
     replace hx240_3:=(HB.out.cell (Zg w _ hx240_3)).trans hx240_3
     replace hx240_4:=(HB.out.cell (Zg w _ hx240_4)).trans hx240_4
     replace hx240_5:=(HB.out.cell (Zg w _ hx240_5)).trans hx240_5
     replace p240:=eq_true p240
     replace q240:=eq_true q240
     go_upto_if 18 with(first|((first|((with_reducible refine gate_callee (f:=86) rfl ?_);refine goesL_ (some 18) rfl rfl Try.func86 z6_7 rfl #[.agg #[.int .i64 ((rd_T80 l0 x6_1).f0),.int .i64 ((rd_T80 l0 x6_1).f1),.int .i64 ((rd_T80 l0 x6_1).f2),.int .i64 ((rd_T80 l0 x6_1).f3.f0),.int .i64 ((rd_T80 l0 x6_1).f3.f1),.int .i64 ((rd_T80 l0 x6_1).f3.f2)]] rfl z6_0 ?_;(with_reducible refine(spec_l05Opens.calls ((rd_T80 l0 x6_1).f0) ((rd_T80 l0 x6_1).f1) ((rd_T80 l0 x6_1).f2) ((rd_T80 l0 x6_1).f3.f0) ((rd_T80 l0 x6_1).f3.f1) ((rd_T80 l0 x6_1).f3.f2) t241 _ A5.out).mono ?_))|(go_at_call 86;(with_reducible refine(spec_l05Opens.calls ((rd_T80 l0 x6_1).f0) ((rd_T80 l0 x6_1).f1) ((rd_T80 l0 x6_1).f2) ((rd_T80 l0 x6_1).f3.f0) ((rd_T80 l0 x6_1).f3.f1) ((rd_T80 l0 x6_1).f3.f2) t241 _ A5.out).mono ?_)));rintro e w7 ⟨rfl,hb⟩;(first|refine⟨_,rfl,?_⟩|skip);replace HB:=Za (Zi z6_1 hb);(try clear hb);(try clear hb2);(try clear hk);(try clear hi)))
     (try simp only[Act.put,Zm,Zn,Zo])
     go_cut [5] (fun v5 wc=>∃(kq:Nat) (x5_5:Int),v5= .int .i64 x5_5∧Aside0 (spec_l05End.j1 kq l0 x5_5 x6_1=some r)∧Aside0 (kq≤k1)∧Aside0 (Below w.heap.size w wc))
     case first=>
      have H:=HC6.out
      clear HC6
      by_cases c8:t241=true
      ·subst c8
       rw[if_pos rfl] at H
       have H':=Za H
       clear H
       go_wp2
       go_meet
       case rel=>exact⟨_,(wrap64 (x5_1+1)),z6_5,H',⟨by have:=HK1.out;first|omega|exact Nat.le_refl _⟩,⟨by repeat(first|(with_reducible first|exact HB.out|apply Zh|apply Ze|apply Zd)|exact HB.out)⟩⟩
      ·replace c8:=Bool.eq_false_iff.mpr c8
       subst c8
       rw[if_neg (show ¬(false=true) by decide)] at H
       have H':=Za H
       clear H
       go_wp2
       go_meet
       case rel=>exact⟨_,(x5_1),z6_5,H',⟨by have:=HK1.out;first|omega|exact Nat.le_refl _⟩,⟨by repeat(first|(with_reducible first|exact HB.out|apply Zh|apply Ze|apply Zd)|exact HB.out)⟩⟩
     case rest=>
      clear HC6
      (try clear c3);(try clear c3b0);(try clear c4);(try clear c4b0);(try clear hx240_0);(try clear hx240_1);(try clear hx240_2);(try clear hx240_3);(try clear hx240_4);(try clear hx240_5);(try clear p240);(try clear q240)
      obtain⟨kq,x5_5,rfl,HA,HJ5,HB⟩:=hcut
      cases kq with
      |zero=>exact absurd HA.out (by simp[spec_l05End.j1])
      |succ kj5=>
       have H:=HA.out
       clear HA
       simp only[spec_l05End.j1] at H
       by_cases c9:0≤x6_1
       ·rw[if_pos c9] at H
        have c9b0:decide (0≤x6_1)=true:=Zt c9
        clear c9
        by_cases c10:x6_1<(l0.length:Int)
        ·rw[if_pos c10] at H
         have c10b0:decide (x6_1<(l0.length:Int))=true:=Zt c10
         clear c10
         by_cases c11:((rd_T80 l0 x6_1).f0)=6
         ·rw[if_pos c11] at H
          have c11b0:(((rd_T80 l0 x6_1).f0)==6)=true:=beq_iff_eq.mpr c11
          have c11b1:(((rd_T80 l0 x6_1).f0) != 6)=false:=bne_eq_false_iff_eq.mpr c11
          clear c11
          by_cases c12:(wrap64 (x5_5 - 1))=0
          ·rw[if_pos c12] at H
           have c12b0:((wrap64 (x5_5 - 1))==0)=true:=beq_iff_eq.mpr c12
           have c12b1:((wrap64 (x5_5 - 1)) != 0)=false:=bne_eq_false_iff_eq.mpr c12
           clear c12
           obtain rfl:=Zj H
           have p242:0≤(x6_1:Int):=Zs z6_4
           have q242:x6_1<(l0.length:Int):=Zs z6_4
           obtain⟨ad242,e242,hx242_0,hx242_1,hx242_2,hx242_3,hx242_4,hx242_5⟩:=at_T80 HR0.out x6_1 p242 q242
           obtain rfl:ad240=ad242:=(by injection e242)
           replace hx242_0:=(HB.out.cell (Zg w _ hx242_0)).trans hx242_0
           replace hx242_1:=(HB.out.cell (Zg w _ hx242_1)).trans hx242_1
           replace hx242_2:=(HB.out.cell (Zg w _ hx242_2)).trans hx242_2
           replace hx242_3:=(HB.out.cell (Zg w _ hx242_3)).trans hx242_3
           replace hx242_4:=(HB.out.cell (Zg w _ hx242_4)).trans hx242_4
           replace hx242_5:=(HB.out.cell (Zg w _ hx242_5)).trans hx242_5
           replace p242:=eq_true p242
           replace q242:=eq_true q242
           go_wp2
           go_ret
           exact⟨by first|rfl|(simp[errW_none,errW_some]<;>rfl)|(simp[*,errW_none,errW_some]<;>rfl)|(simp[*,errW_none,errW_some,i64_w];done),by repeat(first|(with_reducible first|exact HB.out|apply Zh|apply Ze|apply Zd)|exact HB.out)⟩
          ·rw[if_neg c12] at H
           have c12b0:((wrap64 (x5_5 - 1))==0)=false:=beq_eq_false_iff_ne.mpr c12
           have c12b1:((wrap64 (x5_5 - 1)) != 0)=true:=bne_iff_ne.mpr c12
           have H':=Za H
           clear H
           have p242:0≤(x6_1:Int):=Zs z6_4
           have q242:x6_1<(l0.length:Int):=Zs z6_4
           obtain⟨ad242,e242,hx242_0,hx242_1,hx242_2,hx242_3,hx242_4,hx242_5⟩:=at_T80 HR0.out x6_1 p242 q242
           obtain rfl:ad240=ad242:=(by injection e242)
           replace hx242_0:=(HB.out.cell (Zg w _ hx242_0)).trans hx242_0
           replace hx242_1:=(HB.out.cell (Zg w _ hx242_1)).trans hx242_1
           replace hx242_2:=(HB.out.cell (Zg w _ hx242_2)).trans hx242_2
           replace hx242_3:=(HB.out.cell (Zg w _ hx242_3)).trans hx242_3
           replace hx242_4:=(HB.out.cell (Zg w _ hx242_4)).trans hx242_4
           replace hx242_5:=(HB.out.cell (Zg w _ hx242_5)).trans hx242_5
           replace p242:=eq_true p242
           replace q242:=eq_true q242
           go_wp2
           go_roundg kj5
           case measure=>have:=HK1.out;have:=HJ5.out;omega
           case rel=>exact⟨(wrap64 (x5_5 - 1)),(wrap64 (x6_1+1)),z6_5,z6_5,H',⟨by have:=HK1.out;have:=HJ5.out;omega⟩,⟨by repeat(first|(with_reducible first|exact HB.out|apply Zh|apply Ze|apply Zd)|exact HB.out)⟩⟩
         ·rw[if_neg c11] at H
          have c11b0:(((rd_T80 l0 x6_1).f0)==6)=false:=beq_eq_false_iff_ne.mpr c11
          have c11b1:(((rd_T80 l0 x6_1).f0) != 6)=true:=bne_iff_ne.mpr c11
          have H':=Za H
          clear H
          have p242:0≤(x6_1:Int):=Zs z6_4
          have q242:x6_1<(l0.length:Int):=Zs z6_4
          obtain⟨ad242,e242,hx242_0,hx242_1,hx242_2,hx242_3,hx242_4,hx242_5⟩:=at_T80 HR0.out x6_1 p242 q242
          obtain rfl:ad240=ad242:=(by injection e242)
          replace hx242_0:=(HB.out.cell (Zg w _ hx242_0)).trans hx242_0
          replace hx242_1:=(HB.out.cell (Zg w _ hx242_1)).trans hx242_1
          replace hx242_2:=(HB.out.cell (Zg w _ hx242_2)).trans hx242_2
          replace hx242_3:=(HB.out.cell (Zg w _ hx242_3)).trans hx242_3
          replace hx242_4:=(HB.out.cell (Zg w _ hx242_4)).trans hx242_4
          replace hx242_5:=(HB.out.cell (Zg w _ hx242_5)).trans hx242_5
          replace p242:=eq_true p242
          replace q242:=eq_true q242
          go_wp2
          go_roundg kj5
          case measure=>have:=HK1.out;have:=HJ5.out;omega
          case rel=>exact⟨(x5_5),(wrap64 (x6_1+1)),z6_5,z6_5,H',⟨by have:=HK1.out;have:=HJ5.out;omega⟩,⟨by repeat(first|(with_reducible first|exact HB.out|apply Zh|apply Ze|apply Zd)|exact HB.out)⟩⟩
        ·rw[if_neg c10] at H
         exact absurd H (by simp)
       ·rw[if_neg c9] at H
        exact absurd H (by simp)
    ·rw[if_neg c4] at H
     exact absurd H (by simp)
   ·rw[if_neg c3] at H
    have c3b0:decide (x6_1<(l0.length:Int))=false:=Yc c3
    clear c3
    obtain rfl:=Zj H
    go_wp2
    go_ret
    exact⟨by first|rfl|(simp[errW_none,errW_some]<;>rfl)|(simp[*,errW_none,errW_some]<;>rfl)|(simp[*,errW_none,errW_some,i64_w];done),by repeat(first|(with_reducible first|exact HB.out|apply Zh|apply Ze|apply Zd)|exact HB.out)⟩
end Go.Proofs.Ytlolppaddphpoaa.G
