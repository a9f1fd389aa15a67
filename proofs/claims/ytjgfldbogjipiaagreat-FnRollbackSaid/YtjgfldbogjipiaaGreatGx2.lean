/- Functions of the program as plain Lean functions, and that each call comes to its function's answer; written by a program of the session. No condition. -/
import Derived.Test.YtjgfldbogjipiaaGreatGx0
namespace Go.Proofs.YtjgfldbogjipiaaGreat.G
open Go.RowKit Go.Proofs.YtjgfldbogjipiaaGreatW.PrintWords Go.Proofs.YtjgfldbogjipiaaGreatW.PrintLast Go.Proofs.YtjgfldbogjipiaaGreatW.PrintMore
attribute [local go_sem] max2_int min2_int max_two min_two max_three min_three max_four min_four   -- for this text's walks alone
set_option linter.unusedVariables false
set_option linter.unusedSimpArgs false
theorem z2_0 {P:Prop} (h:P:=by(try simp only[Yt,List.map_cons,List.map_nil]);first|done|rfl|(simp only[List.length_drop,List.length_take];rfl)):P:=h
theorem z2_1 {P:Prop} (h:P:=by repeat(first|(with_reducible first|exact HK.out|apply KeepBut.set_|apply keep_drewN|apply keep_drew|apply keep_alloc)|exact HK.out)):P:=h
theorem z2_2 {P:Prop} (h:P:=by repeat(first|(with_reducible first|exact HK.out|apply KeepBut.set_|apply keep_drewN|apply keep_drew|apply keep_alloc|refine keep_far ?_ GW185.out _)|exact HK.out)):P:=h
theorem z2_3 {P:Prop} (h:P:=by repeat(first|(with_reducible first|exact HB.out|apply Zh|apply Zf|apply Ze|refine Zd ?_ (IsS82.ge HI0.out))|exact HB.out)):P:=h
theorem z2_4 {P:Prop} (h:P:=by repeat(first|(with_reducible first|exact HI0.out|apply IsS82.alloc|apply IsS82.drewN|apply IsS82.drew|apply IsS82.set_1|apply IsS82.set_2)|exact HI0.out)):P:=h
theorem z2_5 {P:Prop} (h:P:=by repeat(first|(with_reducible first|exact HI0.out|apply IsS82.alloc|apply IsS82.drewN|apply IsS82.drew|apply IsS82.set_1|apply IsS82.set_2|refine IsS82.far ?_ NB0_185.out _)|exact HI0.out)):P:=h
theorem z2_6 {P:Prop} (h:P:=by repeat(first|(with_reducible first|exact HB.out|apply Zh|apply Zf|apply Ze|refine Zd ?_ (IsS82.ge HI0.out)|refine Zd ?_ GE185.out)|exact HB.out)):P:=h
theorem z2_7 {P:Prop} (h:P:=by(with_reducible repeat(first|refine blk_drewN ?_ _|refine blk_drew ?_|refine blk_alloc ?_ _));exact BK185.out):P:=h
theorem z2_8 {P:Prop} (h:P:=by repeat(first|(with_reducible first|exact HI0.out|apply IsS82.alloc|apply IsS82.drewN|apply IsS82.drew|apply IsS82.set_1|apply IsS82.set_2|refine IsS82.far ?_ NB0_153.out _)|exact HI0.out)):P:=h
theorem z2_9 {P:Prop} (h:P:=by repeat(first|(with_reducible first|exact HB.out|apply Zh|apply Zf|apply Ze|refine Zd ?_ (IsS82.ge HI0.out)|refine Zd ?_ GE153.out)|exact HB.out)):P:=h
theorem z2_10 {P:Prop} (h:P:=by rw[hw];exact(by(with_reducible repeat(first|refine blk_drewN ?_ _|refine blk_drew ?_|refine blk_alloc ?_ _));refine blk_put (cs:= #[.int .i64 5,.int .i64 0,.int .i64 (wrap64 (1+t182)),.int .i64 0,.int .i64 0,.int .i64 0]) ?_ 5 _ rfl;(with_reducible repeat(first|refine blk_drewN ?_ _|refine blk_drew ?_|refine blk_alloc ?_ _));refine blk_put (cs:= #[.int .i64 5,.int .i64 0,.int .i64 (wrap64 (1+t182)),.int .i64 0,.int .i64 0,.int .i64 0]) ?_ 4 _ rfl;(with_reducible repeat(first|refine blk_drewN ?_ _|refine blk_drew ?_|refine blk_alloc ?_ _));refine blk_put (cs:= #[.int .i64 5,.int .i64 0,.int .i64 (wrap64 (1+t182)),.int .i64 0,.int .i64 0,.int .i64 0]) ?_ 3 _ rfl;(with_reducible repeat(first|refine blk_drewN ?_ _|refine blk_drew ?_|refine blk_alloc ?_ _));refine blk_put (cs:= #[.int .i64 5,.int .i64 0,.int .i64 0,.int .i64 0,.int .i64 0,.int .i64 0]) ?_ 2 _ rfl;(with_reducible repeat(first|refine blk_drewN ?_ _|refine blk_drew ?_|refine blk_alloc ?_ _));refine blk_put (cs:= #[.int .i64 5,.int .i64 0,.int .i64 0,.int .i64 0,.int .i64 0,.int .i64 0]) ?_ 1 _ rfl;(with_reducible repeat(first|refine blk_drewN ?_ _|refine blk_drew ?_|refine blk_alloc ?_ _));refine blk_put (cs:= #[.int .i64 0,.int .i64 0,.int .i64 0,.int .i64 0,.int .i64 0,.int .i64 0]) ?_ 0 _ rfl;(with_reducible repeat(first|refine blk_drewN ?_ _|refine blk_drew ?_|refine blk_alloc ?_ _));exact BK185.out)):P:=h
theorem z2_11 {P:Prop} (h:P:=by repeat(first|(with_reducible first|exact HK.out|apply KeepBut.set_|apply keep_drewN|apply keep_drew|apply keep_alloc|refine keep_far ?_ GW153.out _)|exact HK.out)):P:=h
theorem z2_12 {P:Prop} (h:P:=by(with_reducible repeat(first|apply Zm|apply Zl|apply Zj));exact HO_7.out):P:=h
theorem z2_13 {P:Prop} (h:P:=by(with_reducible repeat(first|refine blk_drewN ?_ _|refine blk_drew ?_|refine blk_alloc ?_ _));exact BK153.out):P:=h
theorem z2_14 {P:Prop} (h:P:=by rw[hw];exact(by(with_reducible repeat(first|apply Zm|apply Zl|apply Zj));exact Yc (Kd.R_far (p:=⟨gb185,5,none⟩) (Kd.R_far (p:=⟨gb185,4,none⟩) (Kd.R_far (p:=⟨gb185,3,none⟩) (Kd.R_far (p:=⟨gb185,2,none⟩) (Kd.R_far (p:=⟨gb185,1,none⟩) (Kd.R_far (p:=⟨gb185,0,none⟩) (Yc HO_7.out (fun k_ hk=>(⟨hk,hk.2⟩:_∧k_≠gb185))) (fun _ hk=>hk.2) (.int .i64 5)) (fun _ hk=>hk.2) (.int .i64 0)) (fun _ hk=>hk.2) (.int .i64 (wrap64 (1+t182)))) (fun _ hk=>hk.2) (.int .i64 0)) (fun _ hk=>hk.2) (.int .i64 0)) (fun _ hk=>hk.2) (.int .i64 0)) (fun _ hk=>hk.1.2))):P:=h
theorem z2_15 {P:Prop} (h:P:=by first|rfl|(simp;done)|(simp[*];done)):P:=h
theorem z2_16 {P:Prop} (h:P:=by rw[hg];exact(Yf (by repeat(first|(with_reducible first|exact HBW.out|apply Zh|apply Zf|apply Ze)|exact HBW.out)))):P:=h
theorem z2_17 {P:Prop} (h:P:=by first|(go_simp;done)|(go_simp;rfl)):P:=h
theorem z2_18 {P:Prop} (h:P:=by repeat(first|(with_reducible first|exact HI0.out|apply IsS82.alloc|apply IsS82.drewN|apply IsS82.drew|apply IsS82.set_1|apply IsS82.set_2|refine IsS82.far ?_ NB0_143.out _)|exact HI0.out)):P:=h
theorem z2_19 {P:Prop} (h:P:=by repeat(first|(with_reducible first|exact HB.out|apply Zh|apply Zf|apply Ze|refine Zd ?_ (IsS82.ge HI0.out)|refine Zd ?_ GE143.out)|exact HB.out)):P:=h
theorem z2_20 {P:Prop} (h:P:=by repeat(first|(with_reducible first|exact HK.out|apply KeepBut.set_|apply keep_drewN|apply keep_drew|apply keep_alloc|refine keep_far ?_ GW143.out _)|exact HK.out)):P:=h
theorem z2_21 {P:Prop} (h:P:=by kernel_rfl):P:=h
theorem z2_22 {P:Prop} (h:P:=by rw[hg];exact Nat.ne_of_lt (IsS82.lt (show IsS82 w0 _ g s0_0 t183 t184 from by repeat(first|(with_reducible first|exact HI0.out|apply IsS82.alloc|apply IsS82.drewN|apply IsS82.drew|apply IsS82.set_1|apply IsS82.set_2)|exact HI0.out)))):P:=h
theorem z2_23 {P:Prop} (h:P:=by rw[hg];exact Nat.ne_of_lt (IsS82.lt (show IsS82 w0 _ g s0_0 s0_1 s0_2 from by repeat(first|(with_reducible first|exact HI0.out|apply IsS82.alloc|apply IsS82.drewN|apply IsS82.drew|apply IsS82.set_1|apply IsS82.set_2)|exact HI0.out)))):P:=h
theorem z2_24 {P:Prop} (h:P:=by rw[hg];exact Nat.ne_of_gt (IsS82.lt (show IsS82 w0 _ g s0_0 t183 t184 from by repeat(first|(with_reducible first|exact HI0.out|apply IsS82.alloc|apply IsS82.drewN|apply IsS82.drew|apply IsS82.set_1|apply IsS82.set_2)|exact HI0.out)))):P:=h
theorem z2_25 {P:Prop} (h:P:=by rw[hg];exact Nat.ne_of_gt (IsS82.lt (show IsS82 w0 _ g s0_0 s0_1 s0_2 from by repeat(first|(with_reducible first|exact HI0.out|apply IsS82.alloc|apply IsS82.drewN|apply IsS82.drew|apply IsS82.set_1|apply IsS82.set_2)|exact HI0.out)))):P:=h
theorem z2_26 {P:Prop} (h:P:=by first|(with_reducible assumption)|assumption):P:=h
theorem z2_27 {P:Prop} (h:P:=by(with_reducible repeat(first|refine blk_drewN ?_ _|refine blk_drew ?_|refine blk_alloc ?_ _));exact BK143.out):P:=h
theorem z2_28 {P:Prop} (h:P:=by rw[hg];exact(keep_size (w:=w) (g:=g) (row:=none) z2_1)):P:=h
theorem z2_29 {P:Prop} (h:P:=by exact(fun k_ hk=>⟨Kd.fresh' (Kd.R_lt (by(with_reducible repeat(first|apply Zm|apply Zl|apply Zj));exact HO219.out)) k_ hk,Kd.freshB (g:=gb185) (o:= .cells #[.int .i64 5,.int .i64 0,.int .i64 (wrap64 (1+t182)),.int .i64 0,.int .i64 0,.int .i64 0] 93 (0,0)) z2_7 k_ hk⟩)):P:=h
theorem z2_30 {P:Prop} (h:P:=by exact(fun k_ hk=>⟨Kd.fresh' (Kd.R_lt (by(with_reducible repeat(first|apply Zm|apply Zl|apply Zj));exact HO202.out)) k_ hk,Kd.freshB (g:=gb185) (o:= .cells #[.int .i64 4,.int .i64 0,.int .i64 0,.int .i64 t189,.int .i64 t190,.int .i64 t191] 93 (0,0)) z2_7 k_ hk⟩)):P:=h
theorem z2_31 {P:Prop} (h:P:=by exact(keep_size (w:=w) (g:=g) (row:=none) z2_2)):P:=h
def laws_big.f (l0:List Int):Option (Bool):=some (decide ((l0.length:Int) > 1048576))
set_option maxHeartbeats 8000000 in
set_option maxRecDepth 100000 in
theorem laws_big.calls (A0:Option Addr) (c0:Nat) (l0:List Int) (r:Bool) (w:World) (hr0:Kd.C (Kd.int .u8) w A0 l0.length l0) (hc0:l0.length≤c0) (h:laws_big.f l0=some r):
  Calls Tryz.prog 7 #[.slice A0 l0.length c0] w fun e w'=>e= .returned (.bool r)∧Drawn0 w w':=by
 have HR0:=Za hr0
 have HC0:=Za hc0
 clear hr0 hc0
 have H:(some (decide ((l0.length:Int) > 1048576)))=some r:=h
 clear h
 obtain rfl:=Zn H
 go_enter Tryz.func7,Tryz.ntmps7
 go_wp2
 go_ret
 exact⟨by first|rfl|(simp;done)|(simp[*];done),by repeat(first|exact Zv _|apply Zw)⟩
def spec_l01In.f (a0:Int) (a1:Int) (a2:Int):Option (Bool):=if a0≥a1 then (some (decide (a0≤a2))) else (some false)
set_option maxHeartbeats 8000000 in
set_option maxRecDepth 100000 in
theorem spec_l01In.calls (a0:Int) (a1:Int) (a2:Int) (r:Bool) (w:World) (h:spec_l01In.f a0 a1 a2=some r):
  Calls Tryz.prog 55 #[.int .i64 a0,.int .i64 a1,.int .i64 a2] w fun e w'=>e= .returned (.bool r)∧Drawn0 w w':=by
 have H:(if a0≥a1 then (some (decide (a0≤a2))) else (some false))=some r:=h
 clear h
 by_cases c4:a0≥a1
 ·rw[if_pos c4] at H
  have c4b0:decide (a1≤a0)=true:=Zo c4
  clear c4
  obtain rfl:=Zn H
  go_enter Tryz.func55,Tryz.ntmps55
  go_wp2
  go_ret
  exact⟨by first|rfl|(simp;done)|(simp[*];done),by repeat(first|exact Zv _|apply Zw)⟩
 ·rw[if_neg c4] at H
  have c4b0:decide (a1≤a0)=false:=Yg c4
  clear c4
  obtain rfl:=Zn H
  go_enter Tryz.func55,Tryz.ntmps55
  go_wp2
  go_ret
  exact⟨by first|rfl|(simp;done)|(simp[*];done),by repeat(first|exact Zv _|apply Zw)⟩
def spec_PackControl.f (a0:Int) (a1:Int) (a2:Int):Option (Int):=(spec_l01In.f a0 0 5).bind fun t101=>(if t101=true then ((spec_l01In.f a1 0 8).bind fun t102=>(if t102=true then ((spec_l01In.f a2 0 24).bind fun t103=>(if t103=true then (some (wrap64 (a0+(wrap64 (8*(wrap64 (a1+(wrap64 (16*a2))))))))) else (some (-1)))) else (some (-1)))) else (some (-1)))
set_option maxHeartbeats 8000000 in
set_option maxRecDepth 100000 in
theorem spec_PackControl.calls (a0:Int) (a1:Int) (a2:Int) (r:Int) (w:World) (h:spec_PackControl.f a0 a1 a2=some r):
  Calls Tryz.prog 34 #[.int .i64 a0,.int .i64 a1,.int .i64 a2] w fun e w'=>e= .returned (.int .i64 r)∧Drawn0 w w':=by
 have H:((spec_l01In.f a0 0 5).bind fun t101=>(if t101=true then ((spec_l01In.f a1 0 8).bind fun t102=>(if t102=true then ((spec_l01In.f a2 0 24).bind fun t103=>(if t103=true then (some (wrap64 (a0+(wrap64 (8*(wrap64 (a1+(wrap64 (16*a2))))))))) else (some (-1)))) else (some (-1)))) else (some (-1))))=some r:=h
 clear h
 replace H:=Zg H
 obtain⟨t101,A40,H⟩:=H
 replace H:(if t101=true then ((spec_l01In.f a1 0 8).bind fun t102=>(if t102=true then ((spec_l01In.f a2 0 24).bind fun t103=>(if t103=true then (some (wrap64 (a0+(wrap64 (8*(wrap64 (a1+(wrap64 (16*a2))))))))) else (some (-1)))) else (some (-1)))) else (some (-1)))=some r:=H
 have A4:=Za A40
 clear A40
 by_cases c5:t101=true
 ·subst c5
  rw[if_pos rfl] at H
  replace H:=Zg H
  obtain⟨t102,A60,H⟩:=H
  replace H:(if t102=true then ((spec_l01In.f a2 0 24).bind fun t103=>(if t103=true then (some (wrap64 (a0+(wrap64 (8*(wrap64 (a1+(wrap64 (16*a2))))))))) else (some (-1)))) else (some (-1)))=some r:=H
  have A6:=Za A60
  clear A60
  by_cases c7:t102=true
  ·subst c7
   rw[if_pos rfl] at H
   replace H:=Zg H
   obtain⟨t103,A80,H⟩:=H
   replace H:(if t103=true then (some (wrap64 (a0+(wrap64 (8*(wrap64 (a1+(wrap64 (16*a2))))))))) else (some (-1)))=some r:=H
   have A8:=Za A80
   clear A80
   by_cases c9:t103=true
   ·subst c9
    rw[if_pos rfl] at H
    obtain rfl:=Zn H
    go_enter Tryz.func34,Tryz.ntmps34
    go_wp2_with (first|((first|((with_reducible refine gate_callee (f:=55) rfl ?_);refine goesL_ (some 8) rfl rfl Tryz.func55 z2_21 rfl #[.int .i64 a0,.int .i64 0,.int .i64 5] rfl z2_0 ?_;(with_reducible refine(spec_l01In.calls a0 0 5 true _ A4.out).mono ?_))|(go_at_call 55;(with_reducible refine(spec_l01In.calls a0 0 5 true _ A4.out).mono ?_)));rintro e w' ⟨rfl,⟨nd,rfl⟩⟩;(first|refine⟨_,rfl,?_⟩|skip))|(go_at_call 55;(with_reducible refine(spec_l01In.calls a1 0 8 true _ A6.out).mono ?_);rintro e w' ⟨rfl,⟨nd,rfl⟩⟩)|(go_at_call 55;(with_reducible refine(spec_l01In.calls a2 0 24 true _ A8.out).mono ?_);rintro e w' ⟨rfl,⟨nd,rfl⟩⟩))
    go_ret
    exact⟨by first|rfl|(simp;done)|(simp[*];done),by repeat(first|exact Zv _|apply Zw)⟩
   ·replace c9:=Bool.eq_false_iff.mpr c9
    subst c9
    rw[if_neg (show ¬(false=true) by decide)] at H
    obtain rfl:=Zn H
    go_enter Tryz.func34,Tryz.ntmps34
    go_wp2_with (first|((first|((with_reducible refine gate_callee (f:=55) rfl ?_);refine goesL_ (some 8) rfl rfl Tryz.func55 z2_21 rfl #[.int .i64 a0,.int .i64 0,.int .i64 5] rfl z2_0 ?_;(with_reducible refine(spec_l01In.calls a0 0 5 true _ A4.out).mono ?_))|(go_at_call 55;(with_reducible refine(spec_l01In.calls a0 0 5 true _ A4.out).mono ?_)));rintro e w' ⟨rfl,⟨nd,rfl⟩⟩;(first|refine⟨_,rfl,?_⟩|skip))|(go_at_call 55;(with_reducible refine(spec_l01In.calls a1 0 8 true _ A6.out).mono ?_);rintro e w' ⟨rfl,⟨nd,rfl⟩⟩)|(go_at_call 55;(with_reducible refine(spec_l01In.calls a2 0 24 false _ A8.out).mono ?_);rintro e w' ⟨rfl,⟨nd,rfl⟩⟩))
    go_ret
    exact⟨by first|rfl|(simp;done)|(simp[*];done),by repeat(first|exact Zv _|apply Zw)⟩
  ·replace c7:=Bool.eq_false_iff.mpr c7
   subst c7
   rw[if_neg (show ¬(false=true) by decide)] at H
   obtain rfl:=Zn H
   go_enter Tryz.func34,Tryz.ntmps34
   go_wp2_with (first|((first|((with_reducible refine gate_callee (f:=55) rfl ?_);refine goesL_ (some 8) rfl rfl Tryz.func55 z2_21 rfl #[.int .i64 a0,.int .i64 0,.int .i64 5] rfl z2_0 ?_;(with_reducible refine(spec_l01In.calls a0 0 5 true _ A4.out).mono ?_))|(go_at_call 55;(with_reducible refine(spec_l01In.calls a0 0 5 true _ A4.out).mono ?_)));rintro e w' ⟨rfl,⟨nd,rfl⟩⟩;(first|refine⟨_,rfl,?_⟩|skip))|(go_at_call 55;(with_reducible refine(spec_l01In.calls a1 0 8 false _ A6.out).mono ?_);rintro e w' ⟨rfl,⟨nd,rfl⟩⟩))
   go_ret
   exact⟨by first|rfl|(simp;done)|(simp[*];done),by repeat(first|exact Zv _|apply Zw)⟩
 ·replace c5:=Bool.eq_false_iff.mpr c5
  subst c5
  rw[if_neg (show ¬(false=true) by decide)] at H
  obtain rfl:=Zn H
  go_enter Tryz.func34,Tryz.ntmps34
  go_wp2_with (first|((first|((with_reducible refine gate_callee (f:=55) rfl ?_);refine goesL_ (some 8) rfl rfl Tryz.func55 z2_21 rfl #[.int .i64 a0,.int .i64 0,.int .i64 5] rfl z2_0 ?_;(with_reducible refine(spec_l01In.calls a0 0 5 false _ A4.out).mono ?_))|(go_at_call 55;(with_reducible refine(spec_l01In.calls a0 0 5 false _ A4.out).mono ?_)));rintro e w' ⟨rfl,⟨nd,rfl⟩⟩;(first|refine⟨_,rfl,?_⟩|skip)))
  go_ret
  exact⟨by first|rfl|(simp;done)|(simp[*];done),by repeat(first|exact Zv _|apply Zw)⟩
def spec_UnpackControl.j0:Nat→Int→Bool→Option (Int×Int×Int)
 |0,_,_=>none
 |k+1,x0,x13=>if x13=true then (some ((-1),(-1),(-1))) else ((spec_PackControl.f (Int.tmod x0 8) (Int.tmod (wrap64 (Int.tdiv x0 8)) 16) (wrap64 (Int.tdiv x0 128))).bind fun t104=>(if t104=x0 then (some (Int.tmod x0 8,Int.tmod (wrap64 (Int.tdiv x0 8)) 16,wrap64 (Int.tdiv x0 128))) else (some ((-1),(-1),(-1)))))
def spec_UnpackControl.f (k:Nat) (a0:Int):Option (Int×Int×Int):=if a0<0 then (spec_UnpackControl.j0 k a0 true) else (spec_UnpackControl.j0 k a0 (decide (a0 > 100000)))
theorem spec_UnpackControl.mono_l:∀k,(∀y0 y1,LeO (spec_UnpackControl.j0 k y0 y1) (spec_UnpackControl.j0 (k+1) y0 y1))
 |0=>fun _ _ r h=>by simp[spec_UnpackControl.j0] at h
 |k+1=>by
  have ih0:=spec_UnpackControl.mono_l k
  ·intro y0 y1
   unfold spec_UnpackControl.j0
   repeat' first
   |(with_reducible exact ih0 _ _)
   |(with_reducible exact Yj _)
   |(with_reducible exact Ya _)
   |(with_reducible refine Zz ?_ ?_)
   |(with_reducible refine Zx ?_ (fun _=> ?_))
   |exact ih0 _ _
   |exact Ya _
   |refine Zz ?_ ?_
   |refine Zx ?_ (fun _=> ?_)
theorem spec_UnpackControl.mono:∀a0 k,LeO (spec_UnpackControl.f k a0) (spec_UnpackControl.f (k+1) a0):=by
 intro a0 k
 have ih0:=spec_UnpackControl.mono_l k
 unfold spec_UnpackControl.f
 repeat' first
   |(with_reducible exact ih0 _ _)
   |(with_reducible exact Yj _)
   |(with_reducible exact Ya _)
   |(with_reducible refine Zz ?_ ?_)
   |(with_reducible refine Zx ?_ (fun _=> ?_))
   |exact ih0 _ _
   |exact Ya _
   |refine Zz ?_ ?_
   |refine Zx ?_ (fun _=> ?_)
set_option maxHeartbeats 8000000 in
set_option maxRecDepth 100000 in
theorem spec_UnpackControl.calls (k:Nat) (a0:Int) (r1:Int) (r2:Int) (r3:Int) (w:World) (h:spec_UnpackControl.f k a0=some (r1,r2,r3)):
  Calls Tryz.prog 26 #[.int .i64 a0] w fun e w'=>e= .returned (.tuple #[.int .i64 r1,.int .i64 r2,.int .i64 r3])∧Drawn0 w w':=by
 have H:(if a0<0 then (spec_UnpackControl.j0 k a0 true) else (spec_UnpackControl.j0 k a0 (decide (a0 > 100000))))=some (r1,r2,r3):=h
 clear h
 have HC2:=Za H
 clear H
 go_enter Tryz.func26,Tryz.ntmps26
 go_upto_region 1 with(fail)
 go_cut [13] (fun v13 wc=>∃(kq:Nat) (x13_1:Bool),v13= .bool x13_1∧Aside0 (spec_UnpackControl.j0 kq a0 x13_1=some (r1,r2,r3))∧Aside0 (kq≤k)∧Drawn0 w wc)
 case first=>
  have H:=HC2.out
  clear HC2
  by_cases c3:a0<0
  ·rw[if_pos c3] at H
   have c3b0:decide (a0<0)=true:=Zo c3
   clear c3
   (first|rw[c3b0]|(simp only[i64_w,i32_w];rw[c3b0])|skip)
   have H':=Za H
   clear H
   go_wp2
   go_meet
   case rel=>exact⟨_,(true),z2_15,H',⟨by first|omega|exact Nat.le_refl _⟩,by repeat(first|exact Zv _|apply Zw)⟩
  ·rw[if_neg c3] at H
   have c3b0:decide (a0<0)=false:=Yg c3
   clear c3
   (first|rw[c3b0]|(simp only[i64_w,i32_w];rw[c3b0])|skip)
   have H':=Za H
   clear H
   go_wp2
   go_meet
   case rel=>exact⟨_,(decide (a0 > 100000)),z2_15,H',⟨by first|omega|exact Nat.le_refl _⟩,by repeat(first|exact Zv _|apply Zw)⟩
 case rest=>
  clear HC2
  obtain⟨kq,x13_1,rfl,HA,HJ1,⟨mc1,rfl⟩⟩:=hcut
  cases kq with
  |zero=>exact absurd HA.out (by simp[spec_UnpackControl.j0])
  |succ kj1=>
   have H:=HA.out
   clear HA
   simp only[spec_UnpackControl.j0] at H
   by_cases c4:x13_1=true
   ·subst c4
    have H1:(some ((-1),(-1),(-1)))=some (r1,r2,r3):=by rw[if_pos rfl] at H;exact H
    clear H
    have H:=H1
    clear H1
    simp only[Option.some.injEq,Prod.mk.injEq] at H
    obtain⟨rfl,rfl,rfl⟩:=H
    go_wp2
    go_ret3
    exact⟨by first|rfl|(simp;done)|(simp[*];done),by repeat(first|exact Zv _|apply Zw)⟩
   ·replace c4:=Bool.eq_false_iff.mpr c4
    subst c4
    have H1:((spec_PackControl.f (Int.tmod a0 8) (Int.tmod (wrap64 (Int.tdiv a0 8)) 16) (wrap64 (Int.tdiv a0 128))).bind fun t104=>(if t104=a0 then (some (Int.tmod a0 8,Int.tmod (wrap64 (Int.tdiv a0 8)) 16,wrap64 (Int.tdiv a0 128))) else (some ((-1),(-1),(-1)))))=some (r1,r2,r3):=by rw[if_neg (show ¬(false=true) by decide)] at H;exact H
    clear H
    have H:=H1
    clear H1
    replace H:=Zg H
    obtain⟨t104,A50,H⟩:=H
    replace H:(if t104=a0 then (some (Int.tmod a0 8,Int.tmod (wrap64 (Int.tdiv a0 8)) 16,wrap64 (Int.tdiv a0 128))) else (some ((-1),(-1),(-1))))=some (r1,r2,r3):=H
    have A5:=Za A50
    clear A50
    by_cases c6:t104=a0
    ·rw[if_pos c6] at H
     have c6b0:(t104==a0)=true:=beq_iff_eq.mpr c6
     have c6b1:(t104 != a0)=false:=bne_eq_false_iff_eq.mpr c6
     clear c6
     simp only[Option.some.injEq,Prod.mk.injEq] at H
     obtain⟨rfl,rfl,rfl⟩:=H
     go_wp2_with (first|((first|((with_reducible refine gate_callee (f:=34) rfl ?_);refine goesL_ (some 24) rfl rfl Tryz.func34 z2_21 rfl #[.int .i64 (Int.tmod a0 8),.int .i64 (Int.tmod (wrap64 (Int.tdiv a0 8)) 16),.int .i64 (wrap64 (Int.tdiv a0 128))] rfl z2_0 ?_;(with_reducible refine(spec_PackControl.calls (Int.tmod a0 8) (Int.tmod (wrap64 (Int.tdiv a0 8)) 16) (wrap64 (Int.tdiv a0 128)) t104 _ A5.out).mono ?_))|(go_at_call 34;(with_reducible refine(spec_PackControl.calls (Int.tmod a0 8) (Int.tmod (wrap64 (Int.tdiv a0 8)) 16) (wrap64 (Int.tdiv a0 128)) t104 _ A5.out).mono ?_)));rintro e w' ⟨rfl,⟨nd,rfl⟩⟩;(first|refine⟨_,rfl,?_⟩|skip)))
     go_ret3
     exact⟨by first|rfl|(simp;done)|(simp[*];done),by repeat(first|exact Zv _|apply Zw)⟩
    ·rw[if_neg c6] at H
     have c6b0:(t104==a0)=false:=beq_eq_false_iff_ne.mpr c6
     have c6b1:(t104 != a0)=true:=bne_iff_ne.mpr c6
     simp only[Option.some.injEq,Prod.mk.injEq] at H
     obtain⟨rfl,rfl,rfl⟩:=H
     go_wp2_with (first|((first|((with_reducible refine gate_callee (f:=34) rfl ?_);refine goesL_ (some 24) rfl rfl Tryz.func34 z2_21 rfl #[.int .i64 (Int.tmod a0 8),.int .i64 (Int.tmod (wrap64 (Int.tdiv a0 8)) 16),.int .i64 (wrap64 (Int.tdiv a0 128))] rfl z2_0 ?_;(with_reducible refine(spec_PackControl.calls (Int.tmod a0 8) (Int.tmod (wrap64 (Int.tdiv a0 8)) 16) (wrap64 (Int.tdiv a0 128)) t104 _ A5.out).mono ?_))|(go_at_call 34;(with_reducible refine(spec_PackControl.calls (Int.tmod a0 8) (Int.tmod (wrap64 (Int.tdiv a0 8)) 16) (wrap64 (Int.tdiv a0 128)) t104 _ A5.out).mono ?_)));rintro e w' ⟨rfl,⟨nd,rfl⟩⟩;(first|refine⟨_,rfl,?_⟩|skip)))
     go_ret3
     exact⟨by first|rfl|(simp;done)|(simp[*];done),by repeat(first|exact Zv _|apply Zw)⟩
def IsS82 (w0 W:World) (g:Nat) (f0:List Int) (f1:Int) (f2:Int):Prop:=∃A0 c0,W.heap[g]? =some (.cells #[.slice A0 f0.length c0,.int .i64 f1,.int .i64 f2] 82 (0,0))∧w0.heap.size≤g∧Kd.C (Kd.int .u8) w0 A0 f0.length f0
theorem IsS82.grown {w0 W:World} {g:Nat} {f0:List Int} {f1:Int} {f2:Int} {W1:World} {row:Option Nat} (h:IsS82 w0 W g f0 f1 f2) (hw:W.grownBy W1 row) (hne:some g≠row):IsS82 w0 W1 g f0 f1 f2:=by
 obtain⟨A0,c0,hb,hg,hr0⟩:=h
 exact⟨A0,c0,blk_grown hb hw hne,hg,hr0⟩
theorem IsS82.kept {w0 W:World} {g:Nat} {f0:List Int} {f1:Int} {f2:Int} {W1:World} {S:Nat→Prop} (h:IsS82 w0 W g f0 f1 f2) (hk:Kept W W1 S) (hne:¬S g):IsS82 w0 W1 g f0 f1 f2:=by
 obtain⟨A0,c0,hb,hg,hr0⟩:=h
 exact⟨A0,c0,blk_kept hb hk hne,hg,hr0⟩
theorem IsS82.below {w0 W:World} {g:Nat} {f0:List Int} {f1:Int} {f2:Int} {W1:World} (h:IsS82 w0 W g f0 f1 f2) (hw:Below W.heap.size W W1):IsS82 w0 W1 g f0 f1 f2:=h.grown (grown_of_below hw none) (by simp)
theorem IsS82.alloc {w0 W:World} {g:Nat} {f0:List Int} {f1:Int} {f2:Int} (h:IsS82 w0 W g f0 f1 f2) (o:Obj):IsS82 w0 (W.alloc o) g f0 f1 f2:=h.below (Zh (Yb _ _) o)
theorem IsS82.drewN {w0 W:World} {g:Nat} {f0:List Int} {f1:Int} {f2:Int} (h:IsS82 w0 W g f0 f1 f2) (m:Nat):IsS82 w0 (W.drewN m) g f0 f1 f2:=h
theorem IsS82.drew {w0 W:World} {g:Nat} {f0:List Int} {f1:Int} {f2:Int} (h:IsS82 w0 W g f0 f1 f2):IsS82 w0 W.drew g f0 f1 f2:=h
theorem IsS82.at_ {w0 W:World} {g:Nat} {f0:List Int} {f1:Int} {f2:Int} {w':World} {m:Nat} (hq:W.drewN m=w') (h:IsS82 w0 W g f0 f1 f2):IsS82 w0 w' g f0 f1 f2:=by subst hq;exact IsS82.drewN h m
theorem IsS82.apart {w0 W:World} {g:Nat} {f0:List Int} {f1:Int} {f2:Int} {α:Type} {d:Kd α} {e:Nat} {base:Nat} {ok:Nat→Prop} {v:Value} {xs:List α} (h:IsS82 w0 W g f0 f1 f2) (ho:d.R e W base ok v xs) (ht:∀q,q∈e::d.E→q≠82):d.R e W base (fun k=>ok k∧k≠g) v xs:=by
 obtain⟨A0,c0,hb,hg,hr0⟩:=h
 exact Kd.R_types ho hb ht
theorem IsS82.own_ne {w0 W:World} {g:Nat} {f0:List Int} {f1:Int} {f2:Int} {α:Type} {d:Kd α} {e:Nat} {base:Nat} {ok:Nat→Prop} {v:Value} {xs:List α} (h:IsS82 w0 W g f0 f1 f2) (ho:d.R e W base ok v xs) (ht:e≠82):some g≠v.ownBlock:=by
 obtain⟨A0,c0,hb,hg,hr0⟩:=h
 exact Kd.R_ne ho hb ht
theorem IsS82.apartS {w0 W:World} {g:Nat} {f0:List Int} {f1:Int} {f2:Int} {α:Type} {d:Kd α} {e:Nat} {base:Nat} {ok:Nat→Prop} {v:Value} {xs:List α} (h:IsS82 w0 W g f0 f1 f2) (ho:d.S e W base ok v xs) (ht:∀q,q∈e::d.E→q≠82):d.S e W base (fun k=>ok k∧k≠g) v xs:=by
 obtain⟨A0,c0,hb,hg,hr0⟩:=h
 exact Kd.S_types ho hb ht
theorem IsS82.own_neS {w0 W:World} {g:Nat} {f0:List Int} {f1:Int} {f2:Int} {α:Type} {d:Kd α} {e:Nat} {base:Nat} {ok:Nat→Prop} {v:Value} {xs:List α} (h:IsS82 w0 W g f0 f1 f2) (ho:d.S e W base ok v xs) (ht:e≠82):some g≠v.ownBlock:=by
 obtain⟨A0,c0,hb,hg,hr0⟩:=h
 exact Kd.S_ne ho hb ht
theorem IsS82.lt {w0 W:World} {g:Nat} {f0:List Int} {f1:Int} {f2:Int} (h:IsS82 w0 W g f0 f1 f2):g<W.heap.size:=by
 obtain⟨A0,c0,hb,hg,hr0⟩:=h
 exact blk_lt hb
theorem IsS82.ge {w0 W:World} {g:Nat} {f0:List Int} {f1:Int} {f2:Int} (h:IsS82 w0 W g f0 f1 f2):w0.heap.size≤g:=by
 obtain⟨A0,c0,hb,hg,hr0⟩:=h
 exact hg
theorem IsS82.ne_blk {w0 W:World} {g:Nat} {f0:List Int} {f1:Int} {f2:Int} {a:Nat} {cs:Array Value} {t:TypeId} {fr:Nat×Nat} (h:IsS82 w0 W g f0 f1 f2) (hb2:W.heap[a]? =some (.cells cs t fr)) (ht:t≠82):g≠a:=by
 obtain⟨A0,c0,hb,hg,hr0⟩:=h
 rintro rfl
 rw[hb] at hb2
 injection hb2 with hb2
 injection hb2 with _ ht2
 exact ht ht2.symm
theorem IsS82.far {w0 W:World} {g:Nat} {f0:List Int} {f1:Int} {f2:Int} {p:Addr} (h:IsS82 w0 W g f0 f1 f2) (hne:g≠p.block) (u:Value):IsS82 w0 (W.setCell p u) g f0 f1 f2:=by
 obtain⟨A0,c0,hb,hg,hr0⟩:=h
 exact⟨A0,c0,blk_far hb hne u,hg,hr0⟩
theorem cellS82_0 {W:World} {g:Nat} {A0:Option Addr} {c0:Nat} {f0:List Int} {f1:Int} {f2:Int} (h:W.heap[g]? =some (.cells #[.slice A0 f0.length c0,.int .i64 f1,.int .i64 f2] 82 (0,0))):W.cell? ⟨g,0,none⟩=some (.slice A0 f0.length c0):=(Zb h 0).trans rfl
theorem cellS82_1 {W:World} {g:Nat} {A0:Option Addr} {c0:Nat} {f0:List Int} {f1:Int} {f2:Int} (h:W.heap[g]? =some (.cells #[.slice A0 f0.length c0,.int .i64 f1,.int .i64 f2] 82 (0,0))):W.cell? ⟨g,1,none⟩=some (.int .i64 f1):=(Zb h 1).trans rfl
theorem IsS82.set_1 {w0 W:World} {g:Nat} {f0:List Int} {f1:Int} {f2:Int} (h:IsS82 w0 W g f0 f1 f2) (x:Int):IsS82 w0 (W.setCell ⟨g,1,none⟩ (.int .i64 x)) g f0 x f2:=by
 obtain⟨A0,c0,hb,hg,hr0⟩:=h
 exact⟨A0,c0,by simpa using blk_set hb 1 (.int .i64 x),hg,hr0⟩
theorem cellS82_2 {W:World} {g:Nat} {A0:Option Addr} {c0:Nat} {f0:List Int} {f1:Int} {f2:Int} (h:W.heap[g]? =some (.cells #[.slice A0 f0.length c0,.int .i64 f1,.int .i64 f2] 82 (0,0))):W.cell? ⟨g,2,none⟩=some (.int .i64 f2):=(Zb h 2).trans rfl
theorem IsS82.set_2 {w0 W:World} {g:Nat} {f0:List Int} {f1:Int} {f2:Int} (h:IsS82 w0 W g f0 f1 f2) (x:Int):IsS82 w0 (W.setCell ⟨g,2,none⟩ (.int .i64 x)) g f0 f1 x:=by
 obtain⟨A0,c0,hb,hg,hr0⟩:=h
 exact⟨A0,c0,by simpa using blk_set hb 2 (.int .i64 x),hg,hr0⟩
theorem IsS82.new (w0 W:World) (A0:Option Addr) (c0:Nat) (f0:List Int) (f1:Int) (f2:Int) (hB:Below w0.heap.size w0 W) (hr0:Kd.C (Kd.int .u8) w0 A0 f0.length f0):IsS82 w0 (W.alloc (.cells #[.slice A0 f0.length c0,.int .i64 f1,.int .i64 f2] 82)) W.heap.size f0 f1 f2:=⟨A0,c0,by simpa using heap_alloc_new W _,hB.size,hr0⟩
def spec_l01New.l0:Nat→List Int→Int→Int→Option (List Int×Int×Int)
 |0,_,_,_=>none
 |k+1,x0,x3,x4=>if x4<(x0.length:Int) then (if x4<4000 then (if 0≤x4 then (spec_l01New.l0 k x0 (Go.bits .and .i64 (wrap64 ((wrap64 ((wrap64 (x3*131))+(wrap64 (rd x0 x4))))+7)) 1073741823) (wrap64 (x4+1))) else (none)) else (some (x0,0,x3))) else (some (x0,0,x3))
def spec_l01New.f (k:Nat) (l0:List Int):Option (List Int×Int×Int):=spec_l01New.l0 k l0 (wrap64 (98347+(l0.length:Int))) 0
theorem spec_l01New.mono_l:∀k,(∀y0 y1 y2,LeO (spec_l01New.l0 k y0 y1 y2) (spec_l01New.l0 (k+1) y0 y1 y2))
 |0=>fun _ _ _ r h=>by simp[spec_l01New.l0] at h
 |k+1=>by
  have ih0:=spec_l01New.mono_l k
  ·intro y0 y1 y2
   unfold spec_l01New.l0
   repeat' first
   |(with_reducible exact ih0 _ _ _)
   |(with_reducible exact Yj _)
   |(with_reducible exact Ya _)
   |(with_reducible refine Zz ?_ ?_)
   |(with_reducible refine Zx ?_ (fun _=> ?_))
   |exact ih0 _ _ _
   |exact Ya _
   |refine Zz ?_ ?_
   |refine Zx ?_ (fun _=> ?_)
theorem spec_l01New.mono:∀a0 k,LeO (spec_l01New.f k a0) (spec_l01New.f (k+1) a0):=by
 intro a0 k
 have ih0:=spec_l01New.mono_l k
 unfold spec_l01New.f
 repeat' first
   |(with_reducible exact ih0 _ _ _)
   |(with_reducible exact Yj _)
   |(with_reducible exact Ya _)
   |(with_reducible refine Zz ?_ ?_)
   |(with_reducible refine Zx ?_ (fun _=> ?_))
   |exact ih0 _ _ _
   |exact Ya _
   |refine Zz ?_ ?_
   |refine Zx ?_ (fun _=> ?_)
set_option maxHeartbeats 8000000 in
set_option maxRecDepth 100000 in
theorem spec_l01New.calls (k:Nat) (A0:Option Addr) (c0:Nat) (l0:List Int) (r1:List Int) (r2:Int) (r3:Int) (w0 w:World) (hB:Below w0.heap.size w0 w) (hr0:Kd.C (Kd.int .u8) w0 A0 l0.length l0) (hc0:l0.length≤c0) (h:spec_l01New.f k l0=some (r1,r2,r3)):
  Calls Tryz.prog 31 #[.slice A0 l0.length c0] w fun e w'=>∃g_:Nat,e= .returned (.pointer (some ⟨g_,0,none⟩))∧IsS82 w0 w' g_ r1 r2 r3∧Below w0.heap.size w0 w'∧Below w.heap.size w w':=by
 have hu82:=Tryz.underlying82
 have HR0:=Za hr0
 have HC0:=Za hc0
 clear hr0 hc0
 have HBW:=Za (Yb w.heap.size w)
 have HW0:=Za hB.size
 have HB:=Za hB
 clear hB
 have H:(spec_l01New.l0 k l0 (wrap64 (98347+(l0.length:Int))) 0)=some (r1,r2,r3):=h
 clear h
 have H':=Za H
 clear H
 go_enter Tryz.func31,Tryz.ntmps31
 go_wp2
 go_loopg [3,4] k (fun kq v3 v4 w'=>∃(x3_1:Int) (x4_1:Int),v3= .int .i64 x3_1∧v4= .int .i64 x4_1∧Aside0 (spec_l01New.l0 kq l0 x3_1 x4_1=some (r1,r2,r3))∧Aside0 (kq≤k)∧Aside0 (Below w0.heap.size w0 w')∧Aside0 (Below w.heap.size w w'))
 case atStart=>exact⟨(wrap64 (98347+(l0.length:Int))),(0),z2_15,z2_15,H',⟨Nat.le_refl _⟩,⟨by repeat(first|(with_reducible first|exact HB.out|apply Zh|apply Zf|apply Ze)|exact HB.out)⟩,⟨by repeat(first|(with_reducible first|exact HBW.out|apply Zh|apply Zf|apply Ze)|exact HBW.out)⟩⟩
 case round=>
  clear H'
  obtain⟨x3_1,x4_1,rfl,rfl,HA,HK1,HB,HBW⟩:=hrel
  cases gk with
  |zero=>exact absurd HA.out (by simp[spec_l01New.l0])
  |succ k1=>
   have H:=HA.out
   clear HA
   simp only[spec_l01New.l0] at H
   by_cases c2:x4_1<(l0.length:Int)
   ·rw[if_pos c2] at H
    have c2b0:decide (x4_1<(l0.length:Int))=true:=Zo c2
    clear c2
    by_cases c3:x4_1<4000
    ·rw[if_pos c3] at H
     have c3b0:decide (x4_1<4000)=true:=Zo c3
     clear c3
     by_cases c4:0≤x4_1
     ·rw[if_pos c4] at H
      have c4b0:decide (0≤x4_1)=true:=Zo c4
      clear c4
      have H':=Za H
      clear H
      have p105:0≤(x4_1:Int):=Zq z2_26
      have q105:x4_1<(l0.length:Int):=Zq z2_26
      obtain⟨ad105,e105,hx105_0⟩:=Kd.at_int HR0.out x4_1 p105 q105
      cases e105
      replace hx105_0:=pw_cell_below HB.out hx105_0
      replace p105:=eq_true p105
      replace q105:=eq_true q105
      go_wp2
      go_roundg k1
      case measure=>have:=HK1.out;omega
      case rel=>exact⟨(Go.bits .and .i64 (wrap64 ((wrap64 ((wrap64 (x3_1*131))+(wrap64 (rd l0 x4_1))))+7)) 1073741823),(wrap64 (x4_1+1)),z2_15,z2_15,H',⟨by have:=HK1.out;omega⟩,⟨by repeat(first|(with_reducible first|exact HB.out|apply Zh|apply Zf|apply Ze)|exact HB.out)⟩,⟨by repeat(first|(with_reducible first|exact HBW.out|apply Zh|apply Zf|apply Ze)|exact HBW.out)⟩⟩
     ·rw[if_neg c4] at H
      exact absurd H (by simp)
    ·rw[if_neg c3] at H
     have c3b0:decide (x4_1<4000)=false:=Yg c3
     clear c3
     simp only[Option.some.injEq,Prod.mk.injEq] at H
     obtain⟨rfl,rfl,rfl⟩:=H
     go_wp2_with (first|((with_reducible refine Zr (N:=31) rfl ?_);refine Zy ?hg (N:=31) ?hd (cs:= #[.slice A0 l0.length c0,.int .i64 0,.int .i64 x3_1]) (t:=82) ?hr ?_;(case hd=>rfl);(case hg=>rfl);(case hr=>exact z2_17);intro gb106 hg w5 hbox hb;replace HB:=Za (Zk (by repeat(first|(with_reducible first|exact HB.out|apply Zh|apply Zf|apply Ze)|exact HB.out)) hb);have BK106:=Za (hbox);have GW106:=Za ((z2_16:w.heap.size≤gb106));have GE106:=Za ((Nat.le_trans HW0.out (z2_16:w.heap.size≤gb106):w0.heap.size≤gb106));replace HBW:=Za (Zk HBW.out hb);clear hb hbox hg))
     go_ret
     exact⟨_,rfl,(show IsS82 w0 _ gb106 l0 0 x3_1 from ⟨_,_,by(with_reducible repeat(first|refine blk_drewN ?_ _|refine blk_drew ?_|refine blk_alloc ?_ _));exact BK106.out,GE106.out,HR0.out⟩),by repeat(first|(with_reducible first|exact HB.out|apply Zh|apply Zf|apply Ze|refine Zd ?_ GE106.out)|exact HB.out),by repeat(first|(with_reducible first|exact HBW.out|apply Zh|apply Zf|apply Ze|refine Zd ?_ GW106.out)|exact HBW.out)⟩
   ·rw[if_neg c2] at H
    have c2b0:decide (x4_1<(l0.length:Int))=false:=Yg c2
    clear c2
    simp only[Option.some.injEq,Prod.mk.injEq] at H
    obtain⟨rfl,rfl,rfl⟩:=H
    go_wp2_with (first|((with_reducible refine Zr (N:=31) rfl ?_);refine Zy ?hg (N:=31) ?hd (cs:= #[.slice A0 l0.length c0,.int .i64 0,.int .i64 x3_1]) (t:=82) ?hr ?_;(case hd=>rfl);(case hg=>rfl);(case hr=>exact z2_17);intro gb107 hg w6 hbox hb;replace HB:=Za (Zk (by repeat(first|(with_reducible first|exact HB.out|apply Zh|apply Zf|apply Ze)|exact HB.out)) hb);have BK107:=Za (hbox);have GW107:=Za ((z2_16:w.heap.size≤gb107));have GE107:=Za ((Nat.le_trans HW0.out (z2_16:w.heap.size≤gb107):w0.heap.size≤gb107));replace HBW:=Za (Zk HBW.out hb);clear hb hbox hg))
    go_ret
    exact⟨_,rfl,(show IsS82 w0 _ gb107 l0 0 x3_1 from ⟨_,_,by(with_reducible repeat(first|refine blk_drewN ?_ _|refine blk_drew ?_|refine blk_alloc ?_ _));exact BK107.out,GE107.out,HR0.out⟩),by repeat(first|(with_reducible first|exact HB.out|apply Zh|apply Zf|apply Ze|refine Zd ?_ GE107.out)|exact HB.out),by repeat(first|(with_reducible first|exact HBW.out|apply Zh|apply Zf|apply Ze|refine Zd ?_ GW107.out)|exact HBW.out)⟩
def spec_l01Byte.f (s0_0:List Int) (s0_1:Int) (s0_2:Int):Option (Int×Int×Int):=if s0_1<(s0_0.length:Int) then (if 0≤s0_1 then (some (Go.bits .and .i64 (wrap64 ((Go.bits .and .i64 (Go.bits .xor .i64 ((wrap64 ((wrap64 (s0_2*6364136223846793005))+1442695040888963407)) / 8589934592) ((wrap64 ((wrap64 (s0_2*6364136223846793005))+1442695040888963407)) / 35184372088832)) 255)+(wrap64 (rd s0_0 s0_1)))) 255,wrap64 (s0_1+1),wrap64 ((wrap64 (s0_2*6364136223846793005))+1442695040888963407))) else (none)) else (some (Go.bits .and .i64 (Go.bits .xor .i64 ((wrap64 ((wrap64 (s0_2*6364136223846793005))+1442695040888963407)) / 8589934592) ((wrap64 ((wrap64 (s0_2*6364136223846793005))+1442695040888963407)) / 35184372088832)) 255,s0_1,wrap64 ((wrap64 (s0_2*6364136223846793005))+1442695040888963407)))
set_option maxHeartbeats 8000000 in
set_option maxRecDepth 100000 in
theorem spec_l01Byte.calls (g:Nat) (s0_0:List Int) (s0_1:Int) (s0_2:Int) (r1:Int) (r2:Int) (r3:Int) (w0 w:World) (hI:IsS82 w0 w g s0_0 s0_1 s0_2) (hB:Below w0.heap.size w0 w) (h:spec_l01Byte.f s0_0 s0_1 s0_2=some (r1,r2,r3)):
  Calls Tryz.prog 72 #[.pointer (some ⟨g,0,none⟩)] w fun e w'=>e= .returned (.int .i64 r1)∧IsS82 w0 w' g s0_0 r2 r3∧Below w0.heap.size w0 w'∧KeepBut w w' g none:=by
 have HI0:=Za hI
 have HK:=Za (KeepBut.refl w g none)
 have HL:=Za hB.size
 clear hI
 have HW0:=Za hB.size
 have HB:=Za hB
 clear hB
 have H:(if s0_1<(s0_0.length:Int) then (if 0≤s0_1 then (some (Go.bits .and .i64 (wrap64 ((Go.bits .and .i64 (Go.bits .xor .i64 ((wrap64 ((wrap64 (s0_2*6364136223846793005))+1442695040888963407)) / 8589934592) ((wrap64 ((wrap64 (s0_2*6364136223846793005))+1442695040888963407)) / 35184372088832)) 255)+(wrap64 (rd s0_0 s0_1)))) 255,wrap64 (s0_1+1),wrap64 ((wrap64 (s0_2*6364136223846793005))+1442695040888963407))) else (none)) else (some (Go.bits .and .i64 (Go.bits .xor .i64 ((wrap64 ((wrap64 (s0_2*6364136223846793005))+1442695040888963407)) / 8589934592) ((wrap64 ((wrap64 (s0_2*6364136223846793005))+1442695040888963407)) / 35184372088832)) 255,s0_1,wrap64 ((wrap64 (s0_2*6364136223846793005))+1442695040888963407))))=some (r1,r2,r3):=h
 clear h
 by_cases c2:s0_1<(s0_0.length:Int)
 ·rw[if_pos c2] at H
  have c2b0:decide (s0_1<(s0_0.length:Int))=true:=Zo c2
  clear c2
  by_cases c3:0≤s0_1
  ·rw[if_pos c3] at H
   have c3b0:decide (0≤s0_1)=true:=Zo c3
   clear c3
   simp only[Option.some.injEq,Prod.mk.injEq] at H
   obtain⟨rfl,rfl,rfl⟩:=H
   obtain⟨ASz4_0,cSz4_0,HGz4,hgz4,HSz4_0⟩:=HI0.out
   have hcz4_0:=cellS82_0 HGz4
   have hcz4_1:=cellS82_1 HGz4
   have hcz4_2:=cellS82_2 HGz4
   have hfz4_1:=Zc HGz4 1
   have hfz4_2:=Zc HGz4 2
   clear HGz4 hgz4
   have p108:0≤(s0_1:Int):=Zq z2_26
   have q108:s0_1<(s0_0.length:Int):=Zq z2_26
   obtain⟨ad108,e108,hx108_0⟩:=Kd.at_int HSz4_0 s0_1 p108 q108
   cases e108
   have hn108_0:ad108.block≠g:=Nat.ne_of_lt (Nat.lt_of_lt_of_le (by have:=Yo _ _ hx108_0;first|rwa [add_block] at this|exact this) (IsS82.ge HI0.out))
   replace hx108_0:=pw_cell_below HB.out hx108_0
   replace hx108_0:=(cell_far (p:=⟨g,2,none⟩) (by first|(rw[add_block];exact hn108_0)|(show(Addr.add _ _).block≠_;rw[add_block];exact hn108_0)|exact hn108_0) (.int .i64 (wrap64 ((wrap64 (s0_2*6364136223846793005))+1442695040888963407)))).trans hx108_0
   (try have hy108_0:=fun (n_:Nat)=>(show(((w.drewN n_).setCell ⟨g,2,none⟩ (.int .i64 (wrap64 ((wrap64 (s0_2*6364136223846793005))+1442695040888963407))))).cell? _=some _ from hx108_0))
   clear hn108_0
   replace p108:=eq_true p108
   replace q108:=eq_true q108
   go_enter Tryz.func72,Tryz.ntmps72
   go_wp2
   repeat(go_quiet (fail);try go_wp2)
   go_ret
   exact⟨by first|rfl|(simp[errW_none,errW_some]<;>rfl)|(simp[*,errW_none,errW_some]<;>rfl)|(simp[*,errW_none,errW_some,i64_w];done),by repeat(first|(with_reducible first|exact HI0.out|apply IsS82.alloc|apply IsS82.drewN|apply IsS82.drew|apply IsS82.set_1|apply IsS82.set_2)|exact HI0.out),by repeat(first|(with_reducible first|exact HB.out|apply Zh|apply Zf|apply Ze|refine Zd ?_ (IsS82.ge HI0.out))|exact HB.out),by repeat(first|(with_reducible first|exact HK.out|apply KeepBut.set_|apply keep_drewN|apply keep_drew|apply keep_alloc)|exact HK.out)⟩
  ·rw[if_neg c3] at H
   exact absurd H (by simp)
 ·rw[if_neg c2] at H
  have c2b0:decide (s0_1<(s0_0.length:Int))=false:=Yg c2
  clear c2
  simp only[Option.some.injEq,Prod.mk.injEq] at H
  obtain⟨rfl,rfl,rfl⟩:=H
  obtain⟨ASz5_0,cSz5_0,HGz5,hgz5,HSz5_0⟩:=HI0.out
  have hcz5_0:=cellS82_0 HGz5
  have hcz5_1:=cellS82_1 HGz5
  have hcz5_2:=cellS82_2 HGz5
  have hfz5_1:=Zc HGz5 1
  have hfz5_2:=Zc HGz5 2
  clear HGz5 hgz5
  go_enter Tryz.func72,Tryz.ntmps72
  go_wp2
  repeat(go_quiet (fail);try go_wp2)
  go_ret
  exact⟨by first|rfl|(simp[errW_none,errW_some]<;>rfl)|(simp[*,errW_none,errW_some]<;>rfl)|(simp[*,errW_none,errW_some,i64_w];done),by repeat(first|(with_reducible first|exact HI0.out|apply IsS82.alloc|apply IsS82.drewN|apply IsS82.drew|apply IsS82.set_1|apply IsS82.set_2)|exact HI0.out),by repeat(first|(with_reducible first|exact HB.out|apply Zh|apply Zf|apply Ze|refine Zd ?_ (IsS82.ge HI0.out))|exact HB.out),by repeat(first|(with_reducible first|exact HK.out|apply KeepBut.set_|apply keep_drewN|apply keep_drew|apply keep_alloc)|exact HK.out)⟩
def spec_l01Below.f (s0_0:List Int) (s0_1:Int) (s0_2:Int) (a1:Int):Option (Int×Int×Int):=if a1≤0 then (some (0,s0_1,s0_2)) else (if a1≤256 then ((spec_l01Byte.f s0_0 s0_1 s0_2).bind fun bt109=>(if a1=0 then (none) else (some (Int.tmod bt109.1 a1,bt109.2.1,bt109.2.2)))) else ((spec_l01Byte.f s0_0 s0_1 s0_2).bind fun bt112=>((spec_l01Byte.f s0_0 bt112.2.1 bt112.2.2).bind fun bt115=>((spec_l01Byte.f s0_0 bt115.2.1 bt115.2.2).bind fun bt118=>((spec_l01Byte.f s0_0 bt118.2.1 bt118.2.2).bind fun bt121=>(if a1=0 then (none) else (some (Int.tmod (wrap64 ((wrap64 ((wrap64 ((wrap64 (bt112.1*16777216))+(wrap64 (bt115.1*65536))))+(wrap64 (bt118.1*256))))+bt121.1)) a1,bt121.2.1,bt121.2.2))))))))
set_option maxHeartbeats 8000000 in
set_option maxRecDepth 100000 in
theorem spec_l01Below.calls (g:Nat) (s0_0:List Int) (s0_1:Int) (s0_2:Int) (a1:Int) (r1:Int) (r2:Int) (r3:Int) (w0 w:World) (hI:IsS82 w0 w g s0_0 s0_1 s0_2) (hB:Below w0.heap.size w0 w) (h:spec_l01Below.f s0_0 s0_1 s0_2 a1=some (r1,r2,r3)):
  Calls Tryz.prog 38 #[.pointer (some ⟨g,0,none⟩),.int .i64 a1] w fun e w'=>e= .returned (.int .i64 r1)∧IsS82 w0 w' g s0_0 r2 r3∧Below w0.heap.size w0 w'∧KeepBut w w' g none:=by
 have HI0:=Za hI
 have HK:=Za (KeepBut.refl w g none)
 have HL:=Za hB.size
 clear hI
 have HW0:=Za hB.size
 have HB:=Za hB
 clear hB
 have H:(if a1≤0 then (some (0,s0_1,s0_2)) else (if a1≤256 then ((spec_l01Byte.f s0_0 s0_1 s0_2).bind fun bt109=>(if a1=0 then (none) else (some (Int.tmod bt109.1 a1,bt109.2.1,bt109.2.2)))) else ((spec_l01Byte.f s0_0 s0_1 s0_2).bind fun bt112=>((spec_l01Byte.f s0_0 bt112.2.1 bt112.2.2).bind fun bt115=>((spec_l01Byte.f s0_0 bt115.2.1 bt115.2.2).bind fun bt118=>((spec_l01Byte.f s0_0 bt118.2.1 bt118.2.2).bind fun bt121=>(if a1=0 then (none) else (some (Int.tmod (wrap64 ((wrap64 ((wrap64 ((wrap64 (bt112.1*16777216))+(wrap64 (bt115.1*65536))))+(wrap64 (bt118.1*256))))+bt121.1)) a1,bt121.2.1,bt121.2.2)))))))))=some (r1,r2,r3):=h
 clear h
 by_cases c3:a1≤0
 ·rw[if_pos c3] at H
  have c3b0:decide (a1≤0)=true:=Zo c3
  clear c3
  simp only[Option.some.injEq,Prod.mk.injEq] at H
  obtain⟨rfl,rfl,rfl⟩:=H
  go_enter Tryz.func38,Tryz.ntmps38
  go_wp2
  go_ret
  exact⟨by first|rfl|(simp[errW_none,errW_some]<;>rfl)|(simp[*,errW_none,errW_some]<;>rfl)|(simp[*,errW_none,errW_some,i64_w];done),by repeat(first|(with_reducible first|exact HI0.out|apply IsS82.alloc|apply IsS82.drewN|apply IsS82.drew|apply IsS82.set_1|apply IsS82.set_2)|exact HI0.out),by repeat(first|(with_reducible first|exact HB.out|apply Zh|apply Zf|apply Ze|refine Zd ?_ (IsS82.ge HI0.out))|exact HB.out),by repeat(first|(with_reducible first|exact HK.out|apply KeepBut.set_|apply keep_drewN|apply keep_drew|apply keep_alloc)|exact HK.out)⟩
 ·rw[if_neg c3] at H
  have c3b0:decide (a1≤0)=false:=Yg c3
  clear c3
  by_cases c4:a1≤256
  ·rw[if_pos c4] at H
   have c4b0:decide (a1≤256)=true:=Zo c4
   clear c4
   replace H:=Zg H
   obtain⟨⟨t109,t110,t111⟩,A50,H⟩:=H
   replace H:(if a1=0 then (none) else (some (Int.tmod t109 a1,t110,t111)))=some (r1,r2,r3):=H
   have A5:=Za A50
   clear A50
   by_cases c6:a1=0
   ·rw[if_pos c6] at H
    exact absurd H (by simp)
   ·rw[if_neg c6] at H
    have c6b0:(a1==0)=false:=beq_eq_false_iff_ne.mpr c6
    have c6b1:(a1 != 0)=true:=bne_iff_ne.mpr c6
    simp only[Option.some.injEq,Prod.mk.injEq] at H
    obtain⟨rfl,rfl,rfl⟩:=H
    go_enter Tryz.func38,Tryz.ntmps38
    go_wp2_with (first|((first|((with_reducible refine gate_callee (f:=72) rfl ?_);refine goesL_ (some 14) rfl rfl Tryz.func72 z2_21 rfl #[.pointer (some ⟨g,0,none⟩)] rfl z2_0 ?_;(with_reducible refine(spec_l01Byte.calls g s0_0 s0_1 s0_2 t109 t110 t111 w0 _ ?side1 ?side2 A5.out).mono ?_))|(go_at_call 72;(with_reducible refine(spec_l01Byte.calls g s0_0 s0_1 s0_2 t109 t110 t111 w0 _ ?side1 ?side2 A5.out).mono ?_)));(case side1=>exact z2_4);(case side2=>exact z2_3);rintro e w7 ⟨rfl,hi,hb,hk⟩;(first|refine⟨_,rfl,?_⟩|skip);replace HK:=Za (KeepBut.trans z2_1 hk (.inl rfl));replace HB:=Za (hb);replace HI0:=Za (hi);(try clear hb);(try clear hb2);(try clear hk);(try clear hi)))
    go_ret
    exact⟨by first|rfl|(simp[errW_none,errW_some]<;>rfl)|(simp[*,errW_none,errW_some]<;>rfl)|(simp[*,errW_none,errW_some,i64_w];done),by repeat(first|(with_reducible first|exact HI0.out|apply IsS82.alloc|apply IsS82.drewN|apply IsS82.drew|apply IsS82.set_1|apply IsS82.set_2)|exact HI0.out),by repeat(first|(with_reducible first|exact HB.out|apply Zh|apply Zf|apply Ze|refine Zd ?_ (IsS82.ge HI0.out))|exact HB.out),by repeat(first|(with_reducible first|exact HK.out|apply KeepBut.set_|apply keep_drewN|apply keep_drew|apply keep_alloc)|exact HK.out)⟩
  ·rw[if_neg c4] at H
   have c4b0:decide (a1≤256)=false:=Yg c4
   clear c4
   replace H:=Zg H
   obtain⟨⟨t112,t113,t114⟩,A80,H⟩:=H
   replace H:((spec_l01Byte.f s0_0 t113 t114).bind fun bt115=>((spec_l01Byte.f s0_0 bt115.2.1 bt115.2.2).bind fun bt118=>((spec_l01Byte.f s0_0 bt118.2.1 bt118.2.2).bind fun bt121=>(if a1=0 then (none) else (some (Int.tmod (wrap64 ((wrap64 ((wrap64 ((wrap64 (t112*16777216))+(wrap64 (bt115.1*65536))))+(wrap64 (bt118.1*256))))+bt121.1)) a1,bt121.2.1,bt121.2.2))))))=some (r1,r2,r3):=H
   have A8:=Za A80
   clear A80
   replace H:=Zg H
   obtain⟨⟨t115,t116,t117⟩,A90,H⟩:=H
   replace H:((spec_l01Byte.f s0_0 t116 t117).bind fun bt118=>((spec_l01Byte.f s0_0 bt118.2.1 bt118.2.2).bind fun bt121=>(if a1=0 then (none) else (some (Int.tmod (wrap64 ((wrap64 ((wrap64 ((wrap64 (t112*16777216))+(wrap64 (t115*65536))))+(wrap64 (bt118.1*256))))+bt121.1)) a1,bt121.2.1,bt121.2.2)))))=some (r1,r2,r3):=H
   have A9:=Za A90
   clear A90
   replace H:=Zg H
   obtain⟨⟨t118,t119,t120⟩,A100,H⟩:=H
   replace H:((spec_l01Byte.f s0_0 t119 t120).bind fun bt121=>(if a1=0 then (none) else (some (Int.tmod (wrap64 ((wrap64 ((wrap64 ((wrap64 (t112*16777216))+(wrap64 (t115*65536))))+(wrap64 (t118*256))))+bt121.1)) a1,bt121.2.1,bt121.2.2))))=some (r1,r2,r3):=H
   have A10:=Za A100
   clear A100
   replace H:=Zg H
   obtain⟨⟨t121,t122,t123⟩,A110,H⟩:=H
   replace H:(if a1=0 then (none) else (some (Int.tmod (wrap64 ((wrap64 ((wrap64 ((wrap64 (t112*16777216))+(wrap64 (t115*65536))))+(wrap64 (t118*256))))+t121)) a1,t122,t123)))=some (r1,r2,r3):=H
   have A11:=Za A110
   clear A110
   by_cases c12:a1=0
   ·rw[if_pos c12] at H
    exact absurd H (by simp)
   ·rw[if_neg c12] at H
    have c12b0:(a1==0)=false:=beq_eq_false_iff_ne.mpr c12
    have c12b1:(a1 != 0)=true:=bne_iff_ne.mpr c12
    simp only[Option.some.injEq,Prod.mk.injEq] at H
    obtain⟨rfl,rfl,rfl⟩:=H
    go_enter Tryz.func38,Tryz.ntmps38
    go_wp2_with (first|((first|((with_reducible refine gate_callee (f:=72) rfl ?_);refine goesL_ (some 18) rfl rfl Tryz.func72 z2_21 rfl #[.pointer (some ⟨g,0,none⟩)] rfl z2_0 ?_;(with_reducible refine(spec_l01Byte.calls g s0_0 s0_1 s0_2 t112 t113 t114 w0 _ ?side1 ?side2 A8.out).mono ?_))|(go_at_call 72;(with_reducible refine(spec_l01Byte.calls g s0_0 s0_1 s0_2 t112 t113 t114 w0 _ ?side1 ?side2 A8.out).mono ?_)));(case side1=>exact z2_4);(case side2=>exact z2_3);rintro e w13 ⟨rfl,hi,hb,hk⟩;(first|refine⟨_,rfl,?_⟩|skip);replace HK:=Za (KeepBut.trans z2_1 hk (.inl rfl));replace HB:=Za (hb);replace HI0:=Za (hi);(try clear hb);(try clear hb2);(try clear hk);(try clear hi))|((first|((with_reducible refine gate_callee (f:=72) rfl ?_);refine goesL_ (some 20) rfl rfl Tryz.func72 z2_21 rfl #[.pointer (some ⟨g,0,none⟩)] rfl z2_0 ?_;(with_reducible refine(spec_l01Byte.calls g s0_0 t113 t114 t115 t116 t117 w0 _ ?side1 ?side2 A9.out).mono ?_))|(go_at_call 72;(with_reducible refine(spec_l01Byte.calls g s0_0 t113 t114 t115 t116 t117 w0 _ ?side1 ?side2 A9.out).mono ?_)));(case side1=>exact z2_4);(case side2=>exact z2_3);rintro e w14 ⟨rfl,hi,hb,hk⟩;(first|refine⟨_,rfl,?_⟩|skip);replace HK:=Za (KeepBut.trans z2_1 hk (.inl rfl));replace HB:=Za (hb);replace HI0:=Za (hi);(try clear hb);(try clear hb2);(try clear hk);(try clear hi))|((first|((with_reducible refine gate_callee (f:=72) rfl ?_);refine goesL_ (some 22) rfl rfl Tryz.func72 z2_21 rfl #[.pointer (some ⟨g,0,none⟩)] rfl z2_0 ?_;(with_reducible refine(spec_l01Byte.calls g s0_0 t116 t117 t118 t119 t120 w0 _ ?side1 ?side2 A10.out).mono ?_))|(go_at_call 72;(with_reducible refine(spec_l01Byte.calls g s0_0 t116 t117 t118 t119 t120 w0 _ ?side1 ?side2 A10.out).mono ?_)));(case side1=>exact z2_4);(case side2=>exact z2_3);rintro e w15 ⟨rfl,hi,hb,hk⟩;(first|refine⟨_,rfl,?_⟩|skip);replace HK:=Za (KeepBut.trans z2_1 hk (.inl rfl));replace HB:=Za (hb);replace HI0:=Za (hi);(try clear hb);(try clear hb2);(try clear hk);(try clear hi))|((first|((with_reducible refine gate_callee (f:=72) rfl ?_);refine goesL_ (some 24) rfl rfl Tryz.func72 z2_21 rfl #[.pointer (some ⟨g,0,none⟩)] rfl z2_0 ?_;(with_reducible refine(spec_l01Byte.calls g s0_0 t119 t120 t121 t122 t123 w0 _ ?side1 ?side2 A11.out).mono ?_))|(go_at_call 72;(with_reducible refine(spec_l01Byte.calls g s0_0 t119 t120 t121 t122 t123 w0 _ ?side1 ?side2 A11.out).mono ?_)));(case side1=>exact z2_4);(case side2=>exact z2_3);rintro e w16 ⟨rfl,hi,hb,hk⟩;(first|refine⟨_,rfl,?_⟩|skip);replace HK:=Za (KeepBut.trans z2_1 hk (.inl rfl));replace HB:=Za (hb);replace HI0:=Za (hi);(try clear hb);(try clear hb2);(try clear hk);(try clear hi)))
    go_ret
    exact⟨by first|rfl|(simp[errW_none,errW_some]<;>rfl)|(simp[*,errW_none,errW_some]<;>rfl)|(simp[*,errW_none,errW_some,i64_w];done),by repeat(first|(with_reducible first|exact HI0.out|apply IsS82.alloc|apply IsS82.drewN|apply IsS82.drew|apply IsS82.set_1|apply IsS82.set_2)|exact HI0.out),by repeat(first|(with_reducible first|exact HB.out|apply Zh|apply Zf|apply Ze|refine Zd ?_ (IsS82.ge HI0.out))|exact HB.out),by repeat(first|(with_reducible first|exact HK.out|apply KeepBut.set_|apply keep_drewN|apply keep_drew|apply keep_alloc)|exact HK.out)⟩
def spec_l01PickInt.f (s0_0:List Int) (s0_1:Int) (s0_2:Int) (l1:List Int):Option (Int×Int×Int):=(spec_l01Below.f s0_0 s0_1 s0_2 (l1.length:Int)).bind fun bt124=>(if 0≤bt124.1 then (if bt124.1<(l1.length:Int) then (some (rd l1 bt124.1,bt124.2.1,bt124.2.2)) else (none)) else (none))
set_option maxHeartbeats 8000000 in
set_option maxRecDepth 100000 in
theorem spec_l01PickInt.calls (g:Nat) (s0_0:List Int) (s0_1:Int) (s0_2:Int) (A1:Option Addr) (c1:Nat) (l1:List Int) (r1:Int) (r2:Int) (r3:Int) (w0 w:World) (hI:IsS82 w0 w g s0_0 s0_1 s0_2) (hB:Below w0.heap.size w0 w) (hr1:Kd.C (Kd.int .i64) w A1 l1.length l1) (hc1:l1.length≤c1) (hf1:∀ad,A1=some ad→0<l1.length→ad.block≠g) (h:spec_l01PickInt.f s0_0 s0_1 s0_2 l1=some (r1,r2,r3)):
  Calls Tryz.prog 93 #[.pointer (some ⟨g,0,none⟩),.slice A1 l1.length c1] w fun e w'=>e= .returned (.int .i64 r1)∧IsS82 w0 w' g s0_0 r2 r3∧Below w0.heap.size w0 w'∧KeepBut w w' g none:=by
 have HR1:=Za hr1
 have HC1:=Za hc1
 clear hr1 hc1
 have HI0:=Za hI
 have HK:=Za (KeepBut.refl w g none)
 have HL:=Za hB.size
 clear hI
 have HW0:=Za hB.size
 have HB:=Za hB
 clear hB
 have H:((spec_l01Below.f s0_0 s0_1 s0_2 (l1.length:Int)).bind fun bt124=>(if 0≤bt124.1 then (if bt124.1<(l1.length:Int) then (some (rd l1 bt124.1,bt124.2.1,bt124.2.2)) else (none)) else (none)))=some (r1,r2,r3):=h
 clear h
 replace H:=Zg H
 obtain⟨⟨t124,t125,t126⟩,A30,H⟩:=H
 replace H:(if 0≤t124 then (if t124<(l1.length:Int) then (some (rd l1 t124,t125,t126)) else (none)) else (none))=some (r1,r2,r3):=H
 have A3:=Za A30
 clear A30
 by_cases c4:0≤t124
 ·rw[if_pos c4] at H
  have c4b0:decide (0≤t124)=true:=Zo c4
  clear c4
  by_cases c5:t124<(l1.length:Int)
  ·rw[if_pos c5] at H
   have c5b0:decide (t124<(l1.length:Int))=true:=Zo c5
   clear c5
   simp only[Option.some.injEq,Prod.mk.injEq] at H
   obtain⟨rfl,rfl,rfl⟩:=H
   go_enter Tryz.func93,Tryz.ntmps93
   go_wp2_with (first|((first|((with_reducible refine gate_callee (f:=38) rfl ?_);refine goesL_ (some 9) rfl rfl Tryz.func38 z2_21 rfl #[.pointer (some ⟨g,0,none⟩),.int .i64 (l1.length:Int)] rfl z2_0 ?_;(with_reducible refine(spec_l01Below.calls g s0_0 s0_1 s0_2 (l1.length:Int) t124 t125 t126 w0 _ ?side1 ?side2 A3.out).mono ?_))|(go_at_call 38;(with_reducible refine(spec_l01Below.calls g s0_0 s0_1 s0_2 (l1.length:Int) t124 t125 t126 w0 _ ?side1 ?side2 A3.out).mono ?_)));(case side1=>exact z2_4);(case side2=>exact z2_3);rintro e w6 ⟨rfl,hi,hb,hk⟩;(first|refine⟨_,rfl,?_⟩|skip);replace HK:=Za (KeepBut.trans z2_1 hk (.inl rfl));replace HB:=Za (hb);replace HI0:=Za (hi);(try clear hb);(try clear hb2);(try clear hk);(try clear hi);have p127:0≤(t124:Int):=Zq z2_26;have q127:t124<(l1.length:Int):=Zq z2_26;obtain⟨ad127,e127,hx127_0⟩:=Kd.at_int HR1.out t124 p127 q127;cases e127;replace hx127_0:=keep_cell HK.out hx127_0 (by first|(rw[add_block];exact hf1 _ rfl (by omega))|exact hf1 _ rfl (by omega)|exact hf1 ad127 rfl (by omega));replace p127:=eq_true p127;replace q127:=eq_true q127))
   go_ret
   exact⟨by first|rfl|(simp[errW_none,errW_some]<;>rfl)|(simp[*,errW_none,errW_some]<;>rfl)|(simp[*,errW_none,errW_some,i64_w];done),by repeat(first|(with_reducible first|exact HI0.out|apply IsS82.alloc|apply IsS82.drewN|apply IsS82.drew|apply IsS82.set_1|apply IsS82.set_2)|exact HI0.out),by repeat(first|(with_reducible first|exact HB.out|apply Zh|apply Zf|apply Ze|refine Zd ?_ (IsS82.ge HI0.out))|exact HB.out),by repeat(first|(with_reducible first|exact HK.out|apply KeepBut.set_|apply keep_drewN|apply keep_drew|apply keep_alloc)|exact HK.out)⟩
  ·rw[if_neg c5] at H
   exact absurd H (by simp)
 ·rw[if_neg c4] at H
  exact absurd H (by simp)
def spec_l01Once.f (s0_0:List Int) (s0_1:Int) (s0_2:Int) (a1:Int):Option (Bool×Int×Int):=(spec_l01Below.f s0_0 s0_1 s0_2 a1).bind fun bt128=>(some ((bt128.1==0),bt128.2.1,bt128.2.2))
set_option maxHeartbeats 8000000 in
set_option maxRecDepth 100000 in
theorem spec_l01Once.calls (g:Nat) (s0_0:List Int) (s0_1:Int) (s0_2:Int) (a1:Int) (r1:Bool) (r2:Int) (r3:Int) (w0 w:World) (hI:IsS82 w0 w g s0_0 s0_1 s0_2) (hB:Below w0.heap.size w0 w) (h:spec_l01Once.f s0_0 s0_1 s0_2 a1=some (r1,r2,r3)):
  Calls Tryz.prog 120 #[.pointer (some ⟨g,0,none⟩),.int .i64 a1] w fun e w'=>e= .returned (.bool r1)∧IsS82 w0 w' g s0_0 r2 r3∧Below w0.heap.size w0 w'∧KeepBut w w' g none:=by
 have HI0:=Za hI
 have HK:=Za (KeepBut.refl w g none)
 have HL:=Za hB.size
 clear hI
 have HW0:=Za hB.size
 have HB:=Za hB
 clear hB
 have H:((spec_l01Below.f s0_0 s0_1 s0_2 a1).bind fun bt128=>(some ((bt128.1==0),bt128.2.1,bt128.2.2)))=some (r1,r2,r3):=h
 clear h
 replace H:=Zg H
 obtain⟨⟨t128,t129,t130⟩,A30,H⟩:=H
 replace H:(some ((t128==0),t129,t130))=some (r1,r2,r3):=H
 have A3:=Za A30
 clear A30
 simp only[Option.some.injEq,Prod.mk.injEq] at H
 obtain⟨rfl,rfl,rfl⟩:=H
 go_enter Tryz.func120,Tryz.ntmps120
 go_wp2_with (first|((first|((with_reducible refine gate_callee (f:=38) rfl ?_);refine goesL_ (some 7) rfl rfl Tryz.func38 z2_21 rfl #[.pointer (some ⟨g,0,none⟩),.int .i64 a1] rfl z2_0 ?_;(with_reducible refine(spec_l01Below.calls g s0_0 s0_1 s0_2 a1 t128 t129 t130 w0 _ ?side1 ?side2 A3.out).mono ?_))|(go_at_call 38;(with_reducible refine(spec_l01Below.calls g s0_0 s0_1 s0_2 a1 t128 t129 t130 w0 _ ?side1 ?side2 A3.out).mono ?_)));(case side1=>exact z2_4);(case side2=>exact z2_3);rintro e w4 ⟨rfl,hi,hb,hk⟩;(first|refine⟨_,rfl,?_⟩|skip);replace HK:=Za (KeepBut.trans z2_1 hk (.inl rfl));replace HB:=Za (hb);replace HI0:=Za (hi);(try clear hb);(try clear hb2);(try clear hk);(try clear hi)))
 go_ret
 exact⟨by first|rfl|(simp[errW_none,errW_some]<;>rfl)|(simp[*,errW_none,errW_some]<;>rfl)|(simp[*,errW_none,errW_some,i64_w];done),by repeat(first|(with_reducible first|exact HI0.out|apply IsS82.alloc|apply IsS82.drewN|apply IsS82.drew|apply IsS82.set_1|apply IsS82.set_2)|exact HI0.out),by repeat(first|(with_reducible first|exact HB.out|apply Zh|apply Zf|apply Ze|refine Zd ?_ (IsS82.ge HI0.out))|exact HB.out),by repeat(first|(with_reducible first|exact HK.out|apply KeepBut.set_|apply keep_drewN|apply keep_drew|apply keep_alloc)|exact HK.out)⟩
def spec_l03Operand.f (s0_0:List Int) (s0_1:Int) (s0_2:Int):Option (Int×Int×Int):=(spec_l01Once.f s0_0 s0_1 s0_2 2).bind fun bt131=>(if bt131.1=true then ((spec_l01Below.f s0_0 bt131.2.1 bt131.2.2 5).bind fun bt134=>(some (wrap64 ((-1) - bt134.1),bt134.2.1,bt134.2.2))) else ((spec_l01PickInt.f s0_0 bt131.2.1 bt131.2.2 (([0,1,2,3,10,999]:List Int))).bind fun bt140=>(some (bt140.1,bt140.2.1,bt140.2.2))))
set_option maxHeartbeats 8000000 in
set_option maxRecDepth 100000 in
theorem spec_l03Operand.calls (g:Nat) (s0_0:List Int) (s0_1:Int) (s0_2:Int) (r1:Int) (r2:Int) (r3:Int) (w0 w:World) (hI:IsS82 w0 w g s0_0 s0_1 s0_2) (hB:Below w0.heap.size w0 w) (h:spec_l03Operand.f s0_0 s0_1 s0_2=some (r1,r2,r3)):
  Calls Tryz.prog 92 #[.pointer (some ⟨g,0,none⟩)] w fun e w'=>e= .returned (.int .i64 r1)∧IsS82 w0 w' g s0_0 r2 r3∧Below w0.heap.size w0 w'∧KeepBut w w' g none:=by
 have HI0:=Za hI
 have HK:=Za (KeepBut.refl w g none)
 have HL:=Za hB.size
 clear hI
 have HW0:=Za hB.size
 have HB:=Za hB
 clear hB
 have H:((spec_l01Once.f s0_0 s0_1 s0_2 2).bind fun bt131=>(if bt131.1=true then ((spec_l01Below.f s0_0 bt131.2.1 bt131.2.2 5).bind fun bt134=>(some (wrap64 ((-1) - bt134.1),bt134.2.1,bt134.2.2))) else ((spec_l01PickInt.f s0_0 bt131.2.1 bt131.2.2 (([0,1,2,3,10,999]:List Int))).bind fun bt140=>(some (bt140.1,bt140.2.1,bt140.2.2)))))=some (r1,r2,r3):=h
 clear h
 replace H:=Zg H
 obtain⟨⟨t131,t132,t133⟩,A20,H⟩:=H
 replace H:(if t131=true then ((spec_l01Below.f s0_0 t132 t133 5).bind fun bt134=>(some (wrap64 ((-1) - bt134.1),bt134.2.1,bt134.2.2))) else ((spec_l01PickInt.f s0_0 t132 t133 (([0,1,2,3,10,999]:List Int))).bind fun bt140=>(some (bt140.1,bt140.2.1,bt140.2.2))))=some (r1,r2,r3):=H
 have A2:=Za A20
 clear A20
 by_cases c3:t131=true
 ·subst c3
  have H1:((spec_l01Below.f s0_0 t132 t133 5).bind fun bt134=>(some (wrap64 ((-1) - bt134.1),bt134.2.1,bt134.2.2)))=some (r1,r2,r3):=by rw[if_pos rfl] at H;exact H
  clear H
  have H:=H1
  clear H1
  replace H:=Zg H
  obtain⟨⟨t134,t135,t136⟩,A40,H⟩:=H
  replace H:(some (wrap64 ((-1) - t134),t135,t136))=some (r1,r2,r3):=H
  have A4:=Za A40
  clear A40
  simp only[Option.some.injEq,Prod.mk.injEq] at H
  obtain⟨rfl,rfl,rfl⟩:=H
  go_enter Tryz.func92,Tryz.ntmps92
  go_wp2_with (first|((first|((with_reducible refine gate_callee (f:=120) rfl ?_);refine goesL_ (some 4) rfl rfl Tryz.func120 z2_21 rfl #[.pointer (some ⟨g,0,none⟩),.int .i64 2] rfl z2_0 ?_;(with_reducible refine(spec_l01Once.calls g s0_0 s0_1 s0_2 2 true t132 t133 w0 _ ?side1 ?side2 A2.out).mono ?_))|(go_at_call 120;(with_reducible refine(spec_l01Once.calls g s0_0 s0_1 s0_2 2 true t132 t133 w0 _ ?side1 ?side2 A2.out).mono ?_)));(case side1=>exact z2_4);(case side2=>exact z2_3);rintro e w5 ⟨rfl,hi,hb,hk⟩;(first|refine⟨_,rfl,?_⟩|skip);replace HK:=Za (KeepBut.trans z2_1 hk (.inl rfl));replace HB:=Za (hb);replace HI0:=Za (hi);(try clear hb);(try clear hb2);(try clear hk);(try clear hi))|((first|((with_reducible refine gate_callee (f:=38) rfl ?_);refine goesL_ (some 6) rfl rfl Tryz.func38 z2_21 rfl #[.pointer (some ⟨g,0,none⟩),.int .i64 5] rfl z2_0 ?_;(with_reducible refine(spec_l01Below.calls g s0_0 t132 t133 5 t134 t135 t136 w0 _ ?side1 ?side2 A4.out).mono ?_))|(go_at_call 38;(with_reducible refine(spec_l01Below.calls g s0_0 t132 t133 5 t134 t135 t136 w0 _ ?side1 ?side2 A4.out).mono ?_)));(case side1=>exact z2_4);(case side2=>exact z2_3);rintro e w6 ⟨rfl,hi,hb,hk⟩;(first|refine⟨_,rfl,?_⟩|skip);replace HK:=Za (KeepBut.trans z2_1 hk (.inl rfl));replace HB:=Za (hb);replace HI0:=Za (hi);(try clear hb);(try clear hb2);(try clear hk);(try clear hi)))
  go_ret
  exact⟨by first|rfl|(simp[errW_none,errW_some]<;>rfl)|(simp[*,errW_none,errW_some]<;>rfl)|(simp[*,errW_none,errW_some,i64_w];done),by repeat(first|(with_reducible first|exact HI0.out|apply IsS82.alloc|apply IsS82.drewN|apply IsS82.drew|apply IsS82.set_1|apply IsS82.set_2)|exact HI0.out),by repeat(first|(with_reducible first|exact HB.out|apply Zh|apply Zf|apply Ze|refine Zd ?_ (IsS82.ge HI0.out))|exact HB.out),by repeat(first|(with_reducible first|exact HK.out|apply KeepBut.set_|apply keep_drewN|apply keep_drew|apply keep_alloc)|exact HK.out)⟩
 ·replace c3:=Bool.eq_false_iff.mpr c3
  subst c3
  have H1:((spec_l01PickInt.f s0_0 t132 t133 (([0,1,2,3,10,999]:List Int))).bind fun bt140=>(some (bt140.1,bt140.2.1,bt140.2.2)))=some (r1,r2,r3):=by rw[if_neg (show ¬(false=true) by decide)] at H;exact H
  clear H
  have H:=H1
  clear H1
  obtain⟨y137,hy137⟩:∃y_:List Int,y_=(([0,1,2,3,10,999]:List Int)):=⟨_,rfl⟩
  replace H:((spec_l01PickInt.f s0_0 t132 t133 y137).bind fun bt140=>(some (bt140.1,bt140.2.1,bt140.2.2)))=some (r1,r2,r3):=by first|(rw[hy137];with_reducible exact H)|(have H2_:=(Yd _ _).symm.trans H;rw[hy137];with_reducible exact H2_)|(have H2_:=(Yd _ _).symm.trans H;with_reducible exact H2_)|with_reducible exact H|(rw[hy137];exact H)|exact H
  have Ny137:=Za hy137
  clear hy137
  replace H:=Zg H
  obtain⟨⟨t140,t141,t142⟩,A70,H⟩:=H
  replace H:(some (t140,t141,t142))=some (r1,r2,r3):=H
  have A7:=Za A70
  clear A70
  simp only[Option.some.injEq,Prod.mk.injEq] at H
  obtain⟨rfl,rfl,rfl⟩:=H
  go_enter Tryz.func92,Tryz.ntmps92
  go_wp2_with (first|((first|((with_reducible refine gate_callee (f:=120) rfl ?_);refine goesL_ (some 4) rfl rfl Tryz.func120 z2_21 rfl #[.pointer (some ⟨g,0,none⟩),.int .i64 2] rfl z2_0 ?_;(with_reducible refine(spec_l01Once.calls g s0_0 s0_1 s0_2 2 false t132 t133 w0 _ ?side1 ?side2 A2.out).mono ?_))|(go_at_call 120;(with_reducible refine(spec_l01Once.calls g s0_0 s0_1 s0_2 2 false t132 t133 w0 _ ?side1 ?side2 A2.out).mono ?_)));(case side1=>exact z2_4);(case side2=>exact z2_3);rintro e w8 ⟨rfl,hi,hb,hk⟩;(first|refine⟨_,rfl,?_⟩|skip);replace HK:=Za (KeepBut.trans z2_1 hk (.inl rfl));replace HB:=Za (hb);replace HI0:=Za (hi);(try clear hb);(try clear hb2);(try clear hk);(try clear hi))|((with_reducible refine Zr (N:=9) rfl ?_);refine Kd.R_lit (Kd.int .i64) _ 3 ?hg (N:=9) ?hd (xs:=([0,1,2,3,10,999]:List Int)) (inner:=[.int .i64 0,.int .i64 1,.int .i64 2,.int .i64 3,.int .i64 10,.int .i64 999]) (ok:=fun _=>True) (okp:=fun _=>True) ?hr ?hp (fun _ hk=>hk) trivial (Yb _ _) (Nat.le_refl _) (by simp) ?_;(case hd=>rfl);(case hg=>rfl);(case hr=>exact z2_17);(case hp=>exact(Reps.one (show Kd.M (Kd.int .i64) _ _ _ 0 [.int .i64 0] from rfl) (Reps.one (show Kd.M (Kd.int .i64) _ _ _ 1 [.int .i64 1] from rfl) (Reps.one (show Kd.M (Kd.int .i64) _ _ _ 2 [.int .i64 2] from rfl) (Reps.one (show Kd.M (Kd.int .i64) _ _ _ 3 [.int .i64 3] from rfl) (Reps.one (show Kd.M (Kd.int .i64) _ _ _ 10 [.int .i64 10] from rfl) (Reps.one (show Kd.M (Kd.int .i64) _ _ _ 999 [.int .i64 999] from rfl) (Reps.none _ _))))))));intro v138 w9 ho10 hb hg_ hnew_;clear hg_ hnew_;(first|rw[←Ny137.out] at ho10|(simp only[Int.reduceToNat] at ho10;rw[←Ny137.out] at ho10));have HO139:=Za (Yr ho10 (keep_size (w:=w) (g:=g) (row:=none) z2_1));replace HK:=Za (KeepBut.trans z2_1 (KeepBut.of_below hb g none) (.inl rfl));replace HB:=Za (Zk z2_3 hb);replace HI0:=Za (IsS82.below z2_4 hb);clear hb ho10;obtain⟨Ao11,co11,eo11⟩:=Yn HO139.out;subst eo11)|((first|((with_reducible refine gate_callee (f:=93) rfl ?_);refine goesL_ (some 10) rfl rfl Tryz.func93 z2_21 rfl #[.pointer (some ⟨g,0,none⟩),.slice Ao11 y137.length co11] rfl z2_0 ?_;(with_reducible refine(spec_l01PickInt.calls g s0_0 t132 t133 _ _ y137 t140 t141 t142 w0 _ ?side1 ?side2 ?side3 ?side4 ?side5 A7.out).mono ?_))|(go_at_call 93;(with_reducible refine(spec_l01PickInt.calls g s0_0 t132 t133 _ _ y137 t140 t141 t142 w0 _ ?side1 ?side2 ?side3 ?side4 ?side5 A7.out).mono ?_)));(case side1=>exact z2_4);(case side2=>exact z2_3);(case side3=>repeat(first|exact(Ym HO139.out).2.2|(with_reducible refine Yk ?_ _)|(with_reducible refine Yi ?_ _)|(with_reducible refine Yl ?_)));(case side4=>exact(Ym HO139.out).2.1);(case side5=>exact far_slice (IsS82.own_ne HI0.out HO139.out (by decide)));rintro e w12 ⟨rfl,hi,hb,hk⟩;(first|refine⟨_,rfl,?_⟩|skip);replace HO139:=Za (Yc (Kd.R_keep (IsS82.apart (show IsS82 w0 _ g s0_0 t132 t133 from by repeat(first|(with_reducible first|exact HI0.out|apply IsS82.alloc|apply IsS82.drewN|apply IsS82.drew|apply IsS82.set_1|apply IsS82.set_2)|exact HI0.out)) (by(with_reducible repeat(first|apply Zm|apply Zl|apply Zj));exact HO139.out) (by decide)) hk (fun _ h=>h.2)) (fun _ h=>h.1));replace HK:=Za (KeepBut.trans z2_1 hk (.inl rfl));replace HB:=Za (hb);replace HI0:=Za (hi);(try clear hb);(try clear hb2);(try clear hk);(try clear hi)))
  go_ret
  exact⟨by first|rfl|(simp[errW_none,errW_some]<;>rfl)|(simp[*,errW_none,errW_some]<;>rfl)|(simp[*,errW_none,errW_some,i64_w];done),by repeat(first|(with_reducible first|exact HI0.out|apply IsS82.alloc|apply IsS82.drewN|apply IsS82.drew|apply IsS82.set_1|apply IsS82.set_2)|exact HI0.out),by repeat(first|(with_reducible first|exact HB.out|apply Zh|apply Zf|apply Ze|refine Zd ?_ (IsS82.ge HI0.out))|exact HB.out),by repeat(first|(with_reducible first|exact HK.out|apply KeepBut.set_|apply keep_drewN|apply keep_drew|apply keep_alloc)|exact HK.out)⟩
def spec_l03Expr.f (s0_0:List Int) (s0_1:Int) (s0_2:Int):Option (Int×Int×Int×Int×Int):=(spec_l01Below.f s0_0 s0_1 s0_2 7).bind fun bt144=>((spec_l03Operand.f s0_0 bt144.2.1 bt144.2.2).bind fun bt147=>((spec_l03Operand.f s0_0 bt147.2.1 bt147.2.2).bind fun bt150=>(some (wrap64 (1+bt144.1),bt147.1,bt150.1,bt150.2.1,bt150.2.2))))
set_option maxHeartbeats 8000000 in
set_option maxRecDepth 100000 in
theorem spec_l03Expr.calls (g:Nat) (s0_0:List Int) (s0_1:Int) (s0_2:Int) (r1:Int) (r2:Int) (r3:Int) (r4:Int) (r5:Int) (w0 w:World) (hI:IsS82 w0 w g s0_0 s0_1 s0_2) (hB:Below w0.heap.size w0 w) (h:spec_l03Expr.f s0_0 s0_1 s0_2=some (r1,r2,r3,r4,r5)):
  Calls Tryz.prog 59 #[.pointer (some ⟨g,0,none⟩)] w fun e w'=>e= .returned (.agg #[.int .i64 r1,.int .i64 r2,.int .i64 r3])∧IsS82 w0 w' g s0_0 r4 r5∧Below w0.heap.size w0 w'∧KeepBut w w' g none:=by
 have hu72:=Tryz.underlying72
 have HI0:=Za hI
 have HK:=Za (KeepBut.refl w g none)
 have HL:=Za hB.size
 clear hI
 have HW0:=Za hB.size
 have HB:=Za hB
 clear hB
 have H:((spec_l01Below.f s0_0 s0_1 s0_2 7).bind fun bt144=>((spec_l03Operand.f s0_0 bt144.2.1 bt144.2.2).bind fun bt147=>((spec_l03Operand.f s0_0 bt147.2.1 bt147.2.2).bind fun bt150=>(some (wrap64 (1+bt144.1),bt147.1,bt150.1,bt150.2.1,bt150.2.2)))))=some (r1,r2,r3,r4,r5):=h
 clear h
 replace H:=Zg H
 obtain⟨⟨t144,t145,t146⟩,A20,H⟩:=H
 replace H:((spec_l03Operand.f s0_0 t145 t146).bind fun bt147=>((spec_l03Operand.f s0_0 bt147.2.1 bt147.2.2).bind fun bt150=>(some (wrap64 (1+t144),bt147.1,bt150.1,bt150.2.1,bt150.2.2))))=some (r1,r2,r3,r4,r5):=H
 have A2:=Za A20
 clear A20
 replace H:=Zg H
 obtain⟨⟨t147,t148,t149⟩,A30,H⟩:=H
 replace H:((spec_l03Operand.f s0_0 t148 t149).bind fun bt150=>(some (wrap64 (1+t144),t147,bt150.1,bt150.2.1,bt150.2.2)))=some (r1,r2,r3,r4,r5):=H
 have A3:=Za A30
 clear A30
 replace H:=Zg H
 obtain⟨⟨t150,t151,t152⟩,A40,H⟩:=H
 replace H:(some (wrap64 (1+t144),t147,t150,t151,t152))=some (r1,r2,r3,r4,r5):=H
 have A4:=Za A40
 clear A40
 simp only[Option.some.injEq,Prod.mk.injEq] at H
 obtain⟨rfl,rfl,rfl,rfl,rfl⟩:=H
 go_enter Tryz.func59,Tryz.ntmps59
 go_wp2_with (first|((with_reducible refine Zr (N:=2) rfl ?_);refine Zy ?hg (N:=2) ?hd (cs:= #[.int .i64 0,.int .i64 0,.int .i64 0]) (t:=72) ?hr ?_;(case hd=>rfl);(case hg=>rfl);(case hr=>exact z2_17);intro gb143 hg w5 hbox hb;replace HB:=Za (Zk z2_3 hb);have BK143:=Za (hbox);have GW143:=Za ((z2_28:w.heap.size≤gb143));have GE143:=Za ((Nat.le_trans HW0.out (z2_28:w.heap.size≤gb143):w0.heap.size≤gb143));replace HK:=Za (KeepBut.trans z2_1 (KeepBut.of_below hb g none) (.inl rfl));have NB0_143:=Za ((z2_23:g≠gb143));have NB143_0:=Za ((z2_25:gb143≠g));replace HI0:=Za (IsS82.below z2_4 hb);clear hb hbox hg)|((first|((with_reducible refine gate_callee (f:=38) rfl ?_);refine goesL_ (some 4) rfl rfl Tryz.func38 z2_21 rfl #[.pointer (some ⟨g,0,none⟩),.int .i64 7] rfl z2_0 ?_;(with_reducible refine(spec_l01Below.calls g s0_0 s0_1 s0_2 7 t144 t145 t146 w0 _ ?side1 ?side2 A2.out).mono ?_))|(go_at_call 38;(with_reducible refine(spec_l01Below.calls g s0_0 s0_1 s0_2 7 t144 t145 t146 w0 _ ?side1 ?side2 A2.out).mono ?_)));(case side1=>exact z2_18);(case side2=>exact z2_19);rintro e w6 ⟨rfl,hi,hb,hk⟩;(first|refine⟨_,rfl,?_⟩|skip);replace BK143:=Za (KeepBut.blk hk (g':=gb143) (o:= .cells #[.int .i64 0,.int .i64 0,.int .i64 0] 72 (0,0)) z2_27 NB143_0.out (by simp));replace HK:=Za (KeepBut.trans z2_20 hk (.inl rfl));replace HB:=Za (hb);replace HI0:=Za (hi);(try clear hb);(try clear hb2);(try clear hk);(try clear hi))|((first|((with_reducible refine gate_callee (f:=92) rfl ?_);refine goesL_ (some 7) rfl rfl Tryz.func92 z2_21 rfl #[.pointer (some ⟨g,0,none⟩)] rfl z2_0 ?_;(with_reducible refine(spec_l03Operand.calls g s0_0 t145 t146 t147 t148 t149 w0 _ ?side1 ?side2 A3.out).mono ?_))|(go_at_call 92;(with_reducible refine(spec_l03Operand.calls g s0_0 t145 t146 t147 t148 t149 w0 _ ?side1 ?side2 A3.out).mono ?_)));(case side1=>exact z2_18);(case side2=>exact z2_19);rintro e w7 ⟨rfl,hi,hb,hk⟩;(first|refine⟨_,rfl,?_⟩|skip);replace BK143:=Za (KeepBut.blk hk (g':=gb143) (o:= .cells #[.int .i64 0,.int .i64 0,.int .i64 0] 72 (0,0)) z2_27 NB143_0.out (by simp));replace HK:=Za (KeepBut.trans z2_20 hk (.inl rfl));replace HB:=Za (hb);replace HI0:=Za (hi);(try clear hb);(try clear hb2);(try clear hk);(try clear hi))|((first|((with_reducible refine gate_callee (f:=92) rfl ?_);refine goesL_ (some 9) rfl rfl Tryz.func92 z2_21 rfl #[.pointer (some ⟨g,0,none⟩)] rfl z2_0 ?_;(with_reducible refine(spec_l03Operand.calls g s0_0 t148 t149 t150 t151 t152 w0 _ ?side1 ?side2 A4.out).mono ?_))|(go_at_call 92;(with_reducible refine(spec_l03Operand.calls g s0_0 t148 t149 t150 t151 t152 w0 _ ?side1 ?side2 A4.out).mono ?_)));(case side1=>exact z2_18);(case side2=>exact z2_19);rintro e w8 ⟨rfl,hi,hb,hk⟩;(first|refine⟨_,rfl,?_⟩|skip);replace BK143:=Za (KeepBut.blk hk (g':=gb143) (o:= .cells #[.int .i64 0,.int .i64 0,.int .i64 0] 72 (0,0)) z2_27 NB143_0.out (by simp));replace HK:=Za (KeepBut.trans z2_20 hk (.inl rfl));replace HB:=Za (hb);replace HI0:=Za (hi);(try clear hb);(try clear hb2);(try clear hk);(try clear hi);have hnb9:=NB143_0.out;have hnc9:=NB0_143.out;have hcz10_0:w8.cell? ⟨gb143,0,none⟩=some (.int .i64 0):=(Zb BK143.out 0).trans rfl;have hcz10_1:w8.cell? ⟨gb143,1,none⟩=some (.int .i64 0):=(Zb BK143.out 1).trans rfl;have hcz10_2:w8.cell? ⟨gb143,2,none⟩=some (.int .i64 0):=(Zb BK143.out 2).trans rfl;have hfz10_0:=Zc BK143.out 0;have hfz10_1:=Zc BK143.out 1;have hfz10_2:=Zc BK143.out 2))
 refine bodyPost_ret (results_cell_row rfl _ _ gb143 72 #[.int .i64 (wrap64 (1+t144)),.int .i64 t147,.int .i64 t150] (0,0) _ rfl (by(with_reducible repeat(first|refine blk_drewN ?_ _|refine blk_drew ?_|refine blk_alloc ?_ _));refine blk_put (cs:= #[.int .i64 (wrap64 (1+t144)),.int .i64 t147,.int .i64 0]) ?_ 2 _ rfl;(with_reducible repeat(first|refine blk_drewN ?_ _|refine blk_drew ?_|refine blk_alloc ?_ _));refine blk_put (cs:= #[.int .i64 (wrap64 (1+t144)),.int .i64 0,.int .i64 0]) ?_ 1 _ rfl;(with_reducible repeat(first|refine blk_drewN ?_ _|refine blk_drew ?_|refine blk_alloc ?_ _));refine blk_put (cs:= #[.int .i64 0,.int .i64 0,.int .i64 0]) ?_ 0 _ rfl;(with_reducible repeat(first|refine blk_drewN ?_ _|refine blk_drew ?_|refine blk_alloc ?_ _));exact BK143.out) Tryz.underlying72 rfl z2_21) rfl ?_
 exact⟨by first|rfl|(simp[errW_none,errW_some]<;>rfl)|(simp[*,errW_none,errW_some]<;>rfl)|(simp[*,errW_none,errW_some,i64_w];done),by repeat(first|(with_reducible first|exact HI0.out|apply IsS82.alloc|apply IsS82.drewN|apply IsS82.drew|apply IsS82.set_1|apply IsS82.set_2|refine IsS82.far ?_ NB0_143.out _)|exact HI0.out),by repeat(first|(with_reducible first|exact HB.out|apply Zh|apply Zf|apply Ze|refine Zd ?_ (IsS82.ge HI0.out)|refine Zd ?_ GE143.out)|exact HB.out),by repeat(first|(with_reducible first|exact HK.out|apply KeepBut.set_|apply keep_drewN|apply keep_drew|apply keep_alloc|refine keep_far ?_ GW143.out _)|exact HK.out)⟩
def spec_l04Stmt.j0:Nat→Int→Bool→List Int→Int→Int→Option (Int×Int×Int×Int×Int×Int×Int×Int)
 |0,_,_,_,_,_=>none
 |k+1,x4,x5,x1000,x1001,x1002=>if x5=true then ((spec_l01Below.f x1000 x1001 x1002 5).bind fun bt157=>((spec_l01Below.f x1000 bt157.2.1 bt157.2.2 4).bind fun bt160=>(some (2,bt157.1,bt160.1,0,0,0,bt160.2.1,bt160.2.2)))) else (if x4=2 then ((spec_l03Expr.f x1000 x1001 x1002).bind fun bt163=>(some (3,0,0,bt163.1,bt163.2.1,bt163.2.2.1,bt163.2.2.2.1,bt163.2.2.2.2))) else ((spec_l01Below.f x1000 x1001 x1002 5).bind fun bt168=>((spec_l03Expr.f x1000 bt168.2.1 bt168.2.2).bind fun bt171=>(some (1,bt168.1,0,bt171.1,bt171.2.1,bt171.2.2.1,bt171.2.2.2.1,bt171.2.2.2.2)))))
def spec_l04Stmt.f (k:Nat) (s0_0:List Int) (s0_1:Int) (s0_2:Int):Option (Int×Int×Int×Int×Int×Int×Int×Int):=(spec_l01Below.f s0_0 s0_1 s0_2 7).bind fun bt154=>(if bt154.1=0 then (spec_l04Stmt.j0 k bt154.1 (bt154.1==0) s0_0 bt154.2.1 bt154.2.2) else (spec_l04Stmt.j0 k bt154.1 (bt154.1==1) s0_0 bt154.2.1 bt154.2.2))
theorem spec_l04Stmt.mono_l:∀k,(∀y0 y1 y2 y3 y4,LeO (spec_l04Stmt.j0 k y0 y1 y2 y3 y4) (spec_l04Stmt.j0 (k+1) y0 y1 y2 y3 y4))
 |0=>fun _ _ _ _ _ r h=>by simp[spec_l04Stmt.j0] at h
 |k+1=>by
  have ih0:=spec_l04Stmt.mono_l k
  ·intro y0 y1 y2 y3 y4
   unfold spec_l04Stmt.j0
   repeat' first
   |(with_reducible exact ih0 _ _ _ _ _)
   |(with_reducible exact Yj _)
   |(with_reducible exact Ya _)
   |(with_reducible refine Zz ?_ ?_)
   |(with_reducible refine Zx ?_ (fun _=> ?_))
   |exact ih0 _ _ _ _ _
   |exact Ya _
   |refine Zz ?_ ?_
   |refine Zx ?_ (fun _=> ?_)
theorem spec_l04Stmt.mono:∀a0 a1 a2 k,LeO (spec_l04Stmt.f k a0 a1 a2) (spec_l04Stmt.f (k+1) a0 a1 a2):=by
 intro a0 a1 a2 k
 have ih0:=spec_l04Stmt.mono_l k
 unfold spec_l04Stmt.f
 repeat' first
   |(with_reducible exact ih0 _ _ _ _ _)
   |(with_reducible exact Yj _)
   |(with_reducible exact Ya _)
   |(with_reducible refine Zz ?_ ?_)
   |(with_reducible refine Zx ?_ (fun _=> ?_))
   |exact ih0 _ _ _ _ _
   |exact Ya _
   |refine Zz ?_ ?_
   |refine Zx ?_ (fun _=> ?_)
set_option maxHeartbeats 8000000 in
set_option maxRecDepth 100000 in
theorem spec_l04Stmt.calls (k:Nat) (g:Nat) (s0_0:List Int) (s0_1:Int) (s0_2:Int) (r1:Int) (r2:Int) (r3:Int) (r4:Int) (r5:Int) (r6:Int) (r7:Int) (r8:Int) (w0 w:World) (hI:IsS82 w0 w g s0_0 s0_1 s0_2) (hB:Below w0.heap.size w0 w) (h:spec_l04Stmt.f k s0_0 s0_1 s0_2=some (r1,r2,r3,r4,r5,r6,r7,r8)):
  Calls Tryz.prog 121 #[.pointer (some ⟨g,0,none⟩)] w fun e w'=>e= .returned (.agg #[.int .i64 r1,.int .i64 r2,.int .i64 r3,.int .i64 r4,.int .i64 r5,.int .i64 r6])∧IsS82 w0 w' g s0_0 r7 r8∧Below w0.heap.size w0 w'∧KeepBut w w' g none:=by
 have hu93:=Tryz.underlying93
 have HI0:=Za hI
 have HK:=Za (KeepBut.refl w g none)
 have HL:=Za hB.size
 clear hI
 have HW0:=Za hB.size
 have HB:=Za hB
 clear hB
 have H:((spec_l01Below.f s0_0 s0_1 s0_2 7).bind fun bt154=>(if bt154.1=0 then (spec_l04Stmt.j0 k bt154.1 (bt154.1==0) s0_0 bt154.2.1 bt154.2.2) else (spec_l04Stmt.j0 k bt154.1 (bt154.1==1) s0_0 bt154.2.1 bt154.2.2)))=some (r1,r2,r3,r4,r5,r6,r7,r8):=h
 clear h
 replace H:=Zg H
 obtain⟨⟨t154,t155,t156⟩,A20,H⟩:=H
 replace H:(if t154=0 then (spec_l04Stmt.j0 k t154 (t154==0) s0_0 t155 t156) else (spec_l04Stmt.j0 k t154 (t154==1) s0_0 t155 t156))=some (r1,r2,r3,r4,r5,r6,r7,r8):=H
 have A2:=Za A20
 clear A20
 have HC3:=Za H
 clear H
 go_enter Tryz.func121,Tryz.ntmps121
 go_upto_if 5 with(first|((with_reducible refine Zr (N:=2) rfl ?_);refine Zy ?hg (N:=2) ?hd (cs:= #[.int .i64 0,.int .i64 0,.int .i64 0,.int .i64 0,.int .i64 0,.int .i64 0]) (t:=93) ?hr ?_;(case hd=>rfl);(case hg=>rfl);(case hr=>exact z2_17);intro gb153 hg w4 hbox hb;replace HB:=Za (Zk z2_3 hb);have BK153:=Za (hbox);have GW153:=Za ((z2_28:w.heap.size≤gb153));have GE153:=Za ((Nat.le_trans HW0.out (z2_28:w.heap.size≤gb153):w0.heap.size≤gb153));replace HK:=Za (KeepBut.trans z2_1 (KeepBut.of_below hb g none) (.inl rfl));have NB0_153:=Za ((z2_23:g≠gb153));have NB153_0:=Za ((z2_25:gb153≠g));replace HI0:=Za (IsS82.below z2_4 hb);clear hb hbox hg)|((first|((with_reducible refine gate_callee (f:=38) rfl ?_);refine goesL_ (some 4) rfl rfl Tryz.func38 z2_21 rfl #[.pointer (some ⟨g,0,none⟩),.int .i64 7] rfl z2_0 ?_;(with_reducible refine(spec_l01Below.calls g s0_0 s0_1 s0_2 7 t154 t155 t156 w0 _ ?side1 ?side2 A2.out).mono ?_))|(go_at_call 38;(with_reducible refine(spec_l01Below.calls g s0_0 s0_1 s0_2 7 t154 t155 t156 w0 _ ?side1 ?side2 A2.out).mono ?_)));(case side1=>exact z2_8);(case side2=>exact z2_9);rintro e w5 ⟨rfl,hi,hb,hk⟩;(first|refine⟨_,rfl,?_⟩|skip);replace BK153:=Za (KeepBut.blk hk (g':=gb153) (o:= .cells #[.int .i64 0,.int .i64 0,.int .i64 0,.int .i64 0,.int .i64 0,.int .i64 0] 93 (0,0)) z2_13 NB153_0.out (by simp));replace HK:=Za (KeepBut.trans z2_11 hk (.inl rfl));replace HB:=Za (hb);replace HI0:=Za (hi);(try clear hb);(try clear hb2);(try clear hk);(try clear hi)))
 (try simp only[Act.put,Zs,Zt,Zu])
 go_cut [5] (fun v5 wc=>∃(kq:Nat) (x5_2:Bool),v5= .bool x5_2∧Aside0 (spec_l04Stmt.j0 kq t154 x5_2 s0_0 t155 t156=some (r1,r2,r3,r4,r5,r6,r7,r8))∧Aside0 (kq≤k)∧Aside0 (wc.heap[gb153]? =some (.cells #[.int .i64 0,.int .i64 0,.int .i64 0,.int .i64 0,.int .i64 0,.int .i64 0] 93 (0,0)))∧Aside0 (IsS82 w0 wc g s0_0 t155 t156)∧Aside0 (KeepBut w wc g none)∧Aside0 (Below w0.heap.size w0 wc))
 case first=>
  have H:=HC3.out
  clear HC3
  by_cases c6:t154=0
  ·rw[if_pos c6] at H
   have c6b0:(t154==0)=true:=beq_iff_eq.mpr c6
   have c6b1:(t154 != 0)=false:=bne_eq_false_iff_eq.mpr c6
   clear c6
   (first|rw[c6b0]|(simp only[i64_w,i32_w];rw[c6b0])|skip)
   have H':=Za H
   clear H
   go_wp2
   go_meet
   case rel=>exact⟨_,((t154==0)),z2_15,H',⟨by first|omega|exact Nat.le_refl _⟩,⟨by(with_reducible repeat(first|refine blk_drewN ?_ _|refine blk_drew ?_|refine blk_alloc ?_ _));exact BK153.out⟩,⟨by repeat(first|(with_reducible first|exact HI0.out|apply IsS82.alloc|apply IsS82.drewN|apply IsS82.drew|apply IsS82.set_1|apply IsS82.set_2|refine IsS82.far ?_ NB0_153.out _)|exact HI0.out)⟩,⟨by repeat(first|(with_reducible first|exact HK.out|apply KeepBut.set_|apply keep_drewN|apply keep_drew|apply keep_alloc|refine keep_far ?_ GW153.out _)|exact HK.out)⟩,⟨by repeat(first|(with_reducible first|exact HB.out|apply Zh|apply Zf|apply Ze|refine Zd ?_ (IsS82.ge HI0.out)|refine Zd ?_ GE153.out)|exact HB.out)⟩⟩
  ·rw[if_neg c6] at H
   have c6b0:(t154==0)=false:=beq_eq_false_iff_ne.mpr c6
   have c6b1:(t154 != 0)=true:=bne_iff_ne.mpr c6
   (first|rw[c6b0]|(simp only[i64_w,i32_w];rw[c6b0])|skip)
   have H':=Za H
   clear H
   go_wp2
   go_meet
   case rel=>exact⟨_,((t154==1)),z2_15,H',⟨by first|omega|exact Nat.le_refl _⟩,⟨by(with_reducible repeat(first|refine blk_drewN ?_ _|refine blk_drew ?_|refine blk_alloc ?_ _));exact BK153.out⟩,⟨by repeat(first|(with_reducible first|exact HI0.out|apply IsS82.alloc|apply IsS82.drewN|apply IsS82.drew|apply IsS82.set_1|apply IsS82.set_2|refine IsS82.far ?_ NB0_153.out _)|exact HI0.out)⟩,⟨by repeat(first|(with_reducible first|exact HK.out|apply KeepBut.set_|apply keep_drewN|apply keep_drew|apply keep_alloc|refine keep_far ?_ GW153.out _)|exact HK.out)⟩,⟨by repeat(first|(with_reducible first|exact HB.out|apply Zh|apply Zf|apply Ze|refine Zd ?_ (IsS82.ge HI0.out)|refine Zd ?_ GE153.out)|exact HB.out)⟩⟩
 case rest=>
  clear HC3
  obtain⟨kq,x5_2,rfl,HA,HJ2,BK153,HI0,HK,HB⟩:=hcut
  cases kq with
  |zero=>exact absurd HA.out (by simp[spec_l04Stmt.j0])
  |succ kj2=>
   have H:=HA.out
   clear HA
   simp only[spec_l04Stmt.j0] at H
   by_cases c7:x5_2=true
   ·subst c7
    have H1:((spec_l01Below.f s0_0 t155 t156 5).bind fun bt157=>((spec_l01Below.f s0_0 bt157.2.1 bt157.2.2 4).bind fun bt160=>(some (2,bt157.1,bt160.1,0,0,0,bt160.2.1,bt160.2.2))))=some (r1,r2,r3,r4,r5,r6,r7,r8):=by rw[if_pos rfl] at H;exact H
    clear H
    have H:=H1
    clear H1
    replace H:=Zg H
    obtain⟨⟨t157,t158,t159⟩,A80,H⟩:=H
    replace H:((spec_l01Below.f s0_0 t158 t159 4).bind fun bt160=>(some (2,t157,bt160.1,0,0,0,bt160.2.1,bt160.2.2)))=some (r1,r2,r3,r4,r5,r6,r7,r8):=H
    have A8:=Za A80
    clear A80
    replace H:=Zg H
    obtain⟨⟨t160,t161,t162⟩,A90,H⟩:=H
    replace H:(some (2,t157,t160,0,0,0,t161,t162))=some (r1,r2,r3,r4,r5,r6,r7,r8):=H
    have A9:=Za A90
    clear A90
    simp only[Option.some.injEq,Prod.mk.injEq] at H
    obtain⟨rfl,rfl,rfl,rfl,rfl,rfl,rfl,rfl⟩:=H
    go_wp2_with (first|((first|((with_reducible refine gate_callee (f:=38) rfl ?_);refine goesL_ (some 9) rfl rfl Tryz.func38 z2_21 rfl #[.pointer (some ⟨g,0,none⟩),.int .i64 5] rfl z2_0 ?_;(with_reducible refine(spec_l01Below.calls g s0_0 t155 t156 5 t157 t158 t159 w0 _ ?side1 ?side2 A8.out).mono ?_))|(go_at_call 38;(with_reducible refine(spec_l01Below.calls g s0_0 t155 t156 5 t157 t158 t159 w0 _ ?side1 ?side2 A8.out).mono ?_)));(case side1=>exact z2_8);(case side2=>exact z2_9);rintro e w10 ⟨rfl,hi,hb,hk⟩;(first|refine⟨_,rfl,?_⟩|skip);replace BK153:=Za (KeepBut.blk hk (g':=gb153) (o:= .cells #[.int .i64 0,.int .i64 0,.int .i64 0,.int .i64 0,.int .i64 0,.int .i64 0] 93 (0,0)) z2_13 NB153_0.out (by simp));replace HK:=Za (KeepBut.trans z2_11 hk (.inl rfl));replace HB:=Za (hb);replace HI0:=Za (hi);(try clear hb);(try clear hb2);(try clear hk);(try clear hi))|((first|((with_reducible refine gate_callee (f:=38) rfl ?_);refine goesL_ (some 11) rfl rfl Tryz.func38 z2_21 rfl #[.pointer (some ⟨g,0,none⟩),.int .i64 4] rfl z2_0 ?_;(with_reducible refine(spec_l01Below.calls g s0_0 t158 t159 4 t160 t161 t162 w0 _ ?side1 ?side2 A9.out).mono ?_))|(go_at_call 38;(with_reducible refine(spec_l01Below.calls g s0_0 t158 t159 4 t160 t161 t162 w0 _ ?side1 ?side2 A9.out).mono ?_)));(case side1=>exact z2_8);(case side2=>exact z2_9);rintro e w11 ⟨rfl,hi,hb,hk⟩;(first|refine⟨_,rfl,?_⟩|skip);replace BK153:=Za (KeepBut.blk hk (g':=gb153) (o:= .cells #[.int .i64 0,.int .i64 0,.int .i64 0,.int .i64 0,.int .i64 0,.int .i64 0] 93 (0,0)) z2_13 NB153_0.out (by simp));replace HK:=Za (KeepBut.trans z2_11 hk (.inl rfl));replace HB:=Za (hb);replace HI0:=Za (hi);(try clear hb);(try clear hb2);(try clear hk);(try clear hi);have hnb12:=NB153_0.out;have hnc12:=NB0_153.out;have hcz13_0:w11.cell? ⟨gb153,0,none⟩=some (.int .i64 0):=(Zb BK153.out 0).trans rfl;have hcz13_1:w11.cell? ⟨gb153,1,none⟩=some (.int .i64 0):=(Zb BK153.out 1).trans rfl;have hcz13_2:w11.cell? ⟨gb153,2,none⟩=some (.int .i64 0):=(Zb BK153.out 2).trans rfl;have hcz13_3:w11.cell? ⟨gb153,3,none⟩=some (.int .i64 0):=(Zb BK153.out 3).trans rfl;have hcz13_4:w11.cell? ⟨gb153,4,none⟩=some (.int .i64 0):=(Zb BK153.out 4).trans rfl;have hcz13_5:w11.cell? ⟨gb153,5,none⟩=some (.int .i64 0):=(Zb BK153.out 5).trans rfl;have hfz13_0:=Zc BK153.out 0;have hfz13_1:=Zc BK153.out 1;have hfz13_2:=Zc BK153.out 2;have hfz13_3:=Zc BK153.out 3;have hfz13_4:=Zc BK153.out 4;have hfz13_5:=Zc BK153.out 5)|((with_reducible refine Yq (t:=93) (p:=2) rfl ?_);refine Yp (t:=93) (p:=2) (v:= ?vo_w14) (w1:=((((((w11.setCell ⟨gb153,0,none⟩ (.int .i64 2)).setCell ⟨gb153,1,none⟩ (.int .i64 t157)).setCell ⟨gb153,2,none⟩ (.int .i64 t160)).setCell ⟨gb153,3,none⟩ (.int .i64 0)).setCell ⟨gb153,4,none⟩ (.int .i64 0)).setCell ⟨gb153,5,none⟩ (.int .i64 0))) ?hg ?ho ?hn ?hr ?_;(case ho=>rfl);(case hg=>rfl);(case hn=>rfl);(case hr=>exact z2_17);intro w14 hw;have n0_:Aside0 (w14.heap[gb153]? =some (.cells #[.int .i64 2,.int .i64 t157,.int .i64 t160,.int .i64 0,.int .i64 0,.int .i64 0] 93 (0,0))):=⟨(by rw[hw];exact(by(with_reducible repeat(first|refine blk_drewN ?_ _|refine blk_drew ?_|refine blk_alloc ?_ _));refine blk_put (cs:= #[.int .i64 2,.int .i64 t157,.int .i64 t160,.int .i64 0,.int .i64 0,.int .i64 0]) ?_ 5 _ rfl;(with_reducible repeat(first|refine blk_drewN ?_ _|refine blk_drew ?_|refine blk_alloc ?_ _));refine blk_put (cs:= #[.int .i64 2,.int .i64 t157,.int .i64 t160,.int .i64 0,.int .i64 0,.int .i64 0]) ?_ 4 _ rfl;(with_reducible repeat(first|refine blk_drewN ?_ _|refine blk_drew ?_|refine blk_alloc ?_ _));refine blk_put (cs:= #[.int .i64 2,.int .i64 t157,.int .i64 t160,.int .i64 0,.int .i64 0,.int .i64 0]) ?_ 3 _ rfl;(with_reducible repeat(first|refine blk_drewN ?_ _|refine blk_drew ?_|refine blk_alloc ?_ _));refine blk_put (cs:= #[.int .i64 2,.int .i64 t157,.int .i64 0,.int .i64 0,.int .i64 0,.int .i64 0]) ?_ 2 _ rfl;(with_reducible repeat(first|refine blk_drewN ?_ _|refine blk_drew ?_|refine blk_alloc ?_ _));refine blk_put (cs:= #[.int .i64 2,.int .i64 0,.int .i64 0,.int .i64 0,.int .i64 0,.int .i64 0]) ?_ 1 _ rfl;(with_reducible repeat(first|refine blk_drewN ?_ _|refine blk_drew ?_|refine blk_alloc ?_ _));refine blk_put (cs:= #[.int .i64 0,.int .i64 0,.int .i64 0,.int .i64 0,.int .i64 0,.int .i64 0]) ?_ 0 _ rfl;(with_reducible repeat(first|refine blk_drewN ?_ _|refine blk_drew ?_|refine blk_alloc ?_ _));exact BK153.out))⟩;have n1_:Aside0 (IsS82 w0 w14 g s0_0 t161 t162):=⟨(by rw[hw];exact z2_8)⟩;have n2_:Aside0 (KeepBut w w14 g none):=⟨(by rw[hw];exact z2_11)⟩;have n3_:Aside0 (Below w0.heap.size w0 w14):=⟨(by rw[hw];exact z2_9)⟩;clear hw;clear BK153;clear HI0;clear HK;clear HB;have BK153:=n0_;have HI0:=n1_;have HK:=n2_;have HB:=n3_;clear n0_ n1_ n2_ n3_))
    refine bodyPost_ret (results_cell_row rfl _ _ gb153 93 #[.int .i64 2,.int .i64 t157,.int .i64 t160,.int .i64 0,.int .i64 0,.int .i64 0] (0,0) _ rfl z2_13 Tryz.underlying93 rfl z2_21) rfl ?_
    exact⟨by first|rfl|(simp[errW_none,errW_some]<;>rfl)|(simp[*,errW_none,errW_some]<;>rfl)|(simp[*,errW_none,errW_some,i64_w];done),by repeat(first|(with_reducible first|exact HI0.out|apply IsS82.alloc|apply IsS82.drewN|apply IsS82.drew|apply IsS82.set_1|apply IsS82.set_2|refine IsS82.far ?_ NB0_153.out _)|exact HI0.out),by repeat(first|(with_reducible first|exact HB.out|apply Zh|apply Zf|apply Ze|refine Zd ?_ (IsS82.ge HI0.out)|refine Zd ?_ GE153.out)|exact HB.out),by repeat(first|(with_reducible first|exact HK.out|apply KeepBut.set_|apply keep_drewN|apply keep_drew|apply keep_alloc|refine keep_far ?_ GW153.out _)|exact HK.out)⟩
   ·replace c7:=Bool.eq_false_iff.mpr c7
    subst c7
    have H1:(if t154=2 then ((spec_l03Expr.f s0_0 t155 t156).bind fun bt163=>(some (3,0,0,bt163.1,bt163.2.1,bt163.2.2.1,bt163.2.2.2.1,bt163.2.2.2.2))) else ((spec_l01Below.f s0_0 t155 t156 5).bind fun bt168=>((spec_l03Expr.f s0_0 bt168.2.1 bt168.2.2).bind fun bt171=>(some (1,bt168.1,0,bt171.1,bt171.2.1,bt171.2.2.1,bt171.2.2.2.1,bt171.2.2.2.2)))))=some (r1,r2,r3,r4,r5,r6,r7,r8):=by rw[if_neg (show ¬(false=true) by decide)] at H;exact H
    clear H
    have H:=H1
    clear H1
    by_cases c15:t154=2
    ·rw[if_pos c15] at H
     have c15b0:(t154==2)=true:=beq_iff_eq.mpr c15
     have c15b1:(t154 != 2)=false:=bne_eq_false_iff_eq.mpr c15
     clear c15
     replace H:=Zg H
     obtain⟨⟨t163,t164,t165,t166,t167⟩,A160,H⟩:=H
     replace H:(some (3,0,0,t163,t164,t165,t166,t167))=some (r1,r2,r3,r4,r5,r6,r7,r8):=H
     have A16:=Za A160
     clear A160
     simp only[Option.some.injEq,Prod.mk.injEq] at H
     obtain⟨rfl,rfl,rfl,rfl,rfl,rfl,rfl,rfl⟩:=H
     go_wp2_with (first|((first|((with_reducible refine gate_callee (f:=59) rfl ?_);refine goesL_ (some 16) rfl rfl Tryz.func59 z2_21 rfl #[.pointer (some ⟨g,0,none⟩)] rfl z2_0 ?_;(with_reducible refine(spec_l03Expr.calls g s0_0 t155 t156 t163 t164 t165 t166 t167 w0 _ ?side1 ?side2 A16.out).mono ?_))|(go_at_call 59;(with_reducible refine(spec_l03Expr.calls g s0_0 t155 t156 t163 t164 t165 t166 t167 w0 _ ?side1 ?side2 A16.out).mono ?_)));(case side1=>exact z2_8);(case side2=>exact z2_9);rintro e w17 ⟨rfl,hi,hb,hk⟩;(first|refine⟨_,rfl,?_⟩|skip);replace BK153:=Za (KeepBut.blk hk (g':=gb153) (o:= .cells #[.int .i64 0,.int .i64 0,.int .i64 0,.int .i64 0,.int .i64 0,.int .i64 0] 93 (0,0)) z2_13 NB153_0.out (by simp));replace HK:=Za (KeepBut.trans z2_11 hk (.inl rfl));replace HB:=Za (hb);replace HI0:=Za (hi);(try clear hb);(try clear hb2);(try clear hk);(try clear hi);have hnb18:=NB153_0.out;have hnc18:=NB0_153.out;have hcz19_0:w17.cell? ⟨gb153,0,none⟩=some (.int .i64 0):=(Zb BK153.out 0).trans rfl;have hcz19_1:w17.cell? ⟨gb153,1,none⟩=some (.int .i64 0):=(Zb BK153.out 1).trans rfl;have hcz19_2:w17.cell? ⟨gb153,2,none⟩=some (.int .i64 0):=(Zb BK153.out 2).trans rfl;have hcz19_3:w17.cell? ⟨gb153,3,none⟩=some (.int .i64 0):=(Zb BK153.out 3).trans rfl;have hcz19_4:w17.cell? ⟨gb153,4,none⟩=some (.int .i64 0):=(Zb BK153.out 4).trans rfl;have hcz19_5:w17.cell? ⟨gb153,5,none⟩=some (.int .i64 0):=(Zb BK153.out 5).trans rfl;have hfz19_0:=Zc BK153.out 0;have hfz19_1:=Zc BK153.out 1;have hfz19_2:=Zc BK153.out 2;have hfz19_3:=Zc BK153.out 3;have hfz19_4:=Zc BK153.out 4;have hfz19_5:=Zc BK153.out 5)|((with_reducible refine Yq (t:=93) (p:=2) rfl ?_);refine Yp (t:=93) (p:=2) (v:= ?vo_w20) (w1:=((((((w17.setCell ⟨gb153,0,none⟩ (.int .i64 3)).setCell ⟨gb153,1,none⟩ (.int .i64 0)).setCell ⟨gb153,2,none⟩ (.int .i64 0)).setCell ⟨gb153,3,none⟩ (.int .i64 t163)).setCell ⟨gb153,4,none⟩ (.int .i64 t164)).setCell ⟨gb153,5,none⟩ (.int .i64 t165))) ?hg ?ho ?hn ?hr ?_;(case ho=>rfl);(case hg=>rfl);(case hn=>rfl);(case hr=>exact z2_17);intro w20 hw;have n0_:Aside0 (w20.heap[gb153]? =some (.cells #[.int .i64 3,.int .i64 0,.int .i64 0,.int .i64 t163,.int .i64 t164,.int .i64 t165] 93 (0,0))):=⟨(by rw[hw];exact(by(with_reducible repeat(first|refine blk_drewN ?_ _|refine blk_drew ?_|refine blk_alloc ?_ _));refine blk_put (cs:= #[.int .i64 3,.int .i64 0,.int .i64 0,.int .i64 t163,.int .i64 t164,.int .i64 0]) ?_ 5 _ rfl;(with_reducible repeat(first|refine blk_drewN ?_ _|refine blk_drew ?_|refine blk_alloc ?_ _));refine blk_put (cs:= #[.int .i64 3,.int .i64 0,.int .i64 0,.int .i64 t163,.int .i64 0,.int .i64 0]) ?_ 4 _ rfl;(with_reducible repeat(first|refine blk_drewN ?_ _|refine blk_drew ?_|refine blk_alloc ?_ _));refine blk_put (cs:= #[.int .i64 3,.int .i64 0,.int .i64 0,.int .i64 0,.int .i64 0,.int .i64 0]) ?_ 3 _ rfl;(with_reducible repeat(first|refine blk_drewN ?_ _|refine blk_drew ?_|refine blk_alloc ?_ _));refine blk_put (cs:= #[.int .i64 3,.int .i64 0,.int .i64 0,.int .i64 0,.int .i64 0,.int .i64 0]) ?_ 2 _ rfl;(with_reducible repeat(first|refine blk_drewN ?_ _|refine blk_drew ?_|refine blk_alloc ?_ _));refine blk_put (cs:= #[.int .i64 3,.int .i64 0,.int .i64 0,.int .i64 0,.int .i64 0,.int .i64 0]) ?_ 1 _ rfl;(with_reducible repeat(first|refine blk_drewN ?_ _|refine blk_drew ?_|refine blk_alloc ?_ _));refine blk_put (cs:= #[.int .i64 0,.int .i64 0,.int .i64 0,.int .i64 0,.int .i64 0,.int .i64 0]) ?_ 0 _ rfl;(with_reducible repeat(first|refine blk_drewN ?_ _|refine blk_drew ?_|refine blk_alloc ?_ _));exact BK153.out))⟩;have n1_:Aside0 (IsS82 w0 w20 g s0_0 t166 t167):=⟨(by rw[hw];exact z2_8)⟩;have n2_:Aside0 (KeepBut w w20 g none):=⟨(by rw[hw];exact z2_11)⟩;have n3_:Aside0 (Below w0.heap.size w0 w20):=⟨(by rw[hw];exact z2_9)⟩;clear hw;clear BK153;clear HI0;clear HK;clear HB;have BK153:=n0_;have HI0:=n1_;have HK:=n2_;have HB:=n3_;clear n0_ n1_ n2_ n3_))
     refine bodyPost_ret (results_cell_row rfl _ _ gb153 93 #[.int .i64 3,.int .i64 0,.int .i64 0,.int .i64 t163,.int .i64 t164,.int .i64 t165] (0,0) _ rfl z2_13 Tryz.underlying93 rfl z2_21) rfl ?_
     exact⟨by first|rfl|(simp[errW_none,errW_some]<;>rfl)|(simp[*,errW_none,errW_some]<;>rfl)|(simp[*,errW_none,errW_some,i64_w];done),by repeat(first|(with_reducible first|exact HI0.out|apply IsS82.alloc|apply IsS82.drewN|apply IsS82.drew|apply IsS82.set_1|apply IsS82.set_2|refine IsS82.far ?_ NB0_153.out _)|exact HI0.out),by repeat(first|(with_reducible first|exact HB.out|apply Zh|apply Zf|apply Ze|refine Zd ?_ (IsS82.ge HI0.out)|refine Zd ?_ GE153.out)|exact HB.out),by repeat(first|(with_reducible first|exact HK.out|apply KeepBut.set_|apply keep_drewN|apply keep_drew|apply keep_alloc|refine keep_far ?_ GW153.out _)|exact HK.out)⟩
    ·rw[if_neg c15] at H
     have c15b0:(t154==2)=false:=beq_eq_false_iff_ne.mpr c15
     have c15b1:(t154 != 2)=true:=bne_iff_ne.mpr c15
     replace H:=Zg H
     obtain⟨⟨t168,t169,t170⟩,A210,H⟩:=H
     replace H:((spec_l03Expr.f s0_0 t169 t170).bind fun bt171=>(some (1,t168,0,bt171.1,bt171.2.1,bt171.2.2.1,bt171.2.2.2.1,bt171.2.2.2.2)))=some (r1,r2,r3,r4,r5,r6,r7,r8):=H
     have A21:=Za A210
     clear A210
     replace H:=Zg H
     obtain⟨⟨t171,t172,t173,t174,t175⟩,A220,H⟩:=H
     replace H:(some (1,t168,0,t171,t172,t173,t174,t175))=some (r1,r2,r3,r4,r5,r6,r7,r8):=H
     have A22:=Za A220
     clear A220
     simp only[Option.some.injEq,Prod.mk.injEq] at H
     obtain⟨rfl,rfl,rfl,rfl,rfl,rfl,rfl,rfl⟩:=H
     go_wp2_with (first|((first|((with_reducible refine gate_callee (f:=38) rfl ?_);refine goesL_ (some 19) rfl rfl Tryz.func38 z2_21 rfl #[.pointer (some ⟨g,0,none⟩),.int .i64 5] rfl z2_0 ?_;(with_reducible refine(spec_l01Below.calls g s0_0 t155 t156 5 t168 t169 t170 w0 _ ?side1 ?side2 A21.out).mono ?_))|(go_at_call 38;(with_reducible refine(spec_l01Below.calls g s0_0 t155 t156 5 t168 t169 t170 w0 _ ?side1 ?side2 A21.out).mono ?_)));(case side1=>exact z2_8);(case side2=>exact z2_9);rintro e w23 ⟨rfl,hi,hb,hk⟩;(first|refine⟨_,rfl,?_⟩|skip);replace BK153:=Za (KeepBut.blk hk (g':=gb153) (o:= .cells #[.int .i64 0,.int .i64 0,.int .i64 0,.int .i64 0,.int .i64 0,.int .i64 0] 93 (0,0)) z2_13 NB153_0.out (by simp));replace HK:=Za (KeepBut.trans z2_11 hk (.inl rfl));replace HB:=Za (hb);replace HI0:=Za (hi);(try clear hb);(try clear hb2);(try clear hk);(try clear hi))|((first|((with_reducible refine gate_callee (f:=59) rfl ?_);refine goesL_ (some 21) rfl rfl Tryz.func59 z2_21 rfl #[.pointer (some ⟨g,0,none⟩)] rfl z2_0 ?_;(with_reducible refine(spec_l03Expr.calls g s0_0 t169 t170 t171 t172 t173 t174 t175 w0 _ ?side1 ?side2 A22.out).mono ?_))|(go_at_call 59;(with_reducible refine(spec_l03Expr.calls g s0_0 t169 t170 t171 t172 t173 t174 t175 w0 _ ?side1 ?side2 A22.out).mono ?_)));(case side1=>exact z2_8);(case side2=>exact z2_9);rintro e w24 ⟨rfl,hi,hb,hk⟩;(first|refine⟨_,rfl,?_⟩|skip);replace BK153:=Za (KeepBut.blk hk (g':=gb153) (o:= .cells #[.int .i64 0,.int .i64 0,.int .i64 0,.int .i64 0,.int .i64 0,.int .i64 0] 93 (0,0)) z2_13 NB153_0.out (by simp));replace HK:=Za (KeepBut.trans z2_11 hk (.inl rfl));replace HB:=Za (hb);replace HI0:=Za (hi);(try clear hb);(try clear hb2);(try clear hk);(try clear hi);have hnb25:=NB153_0.out;have hnc25:=NB0_153.out;have hcz26_0:w24.cell? ⟨gb153,0,none⟩=some (.int .i64 0):=(Zb BK153.out 0).trans rfl;have hcz26_1:w24.cell? ⟨gb153,1,none⟩=some (.int .i64 0):=(Zb BK153.out 1).trans rfl;have hcz26_2:w24.cell? ⟨gb153,2,none⟩=some (.int .i64 0):=(Zb BK153.out 2).trans rfl;have hcz26_3:w24.cell? ⟨gb153,3,none⟩=some (.int .i64 0):=(Zb BK153.out 3).trans rfl;have hcz26_4:w24.cell? ⟨gb153,4,none⟩=some (.int .i64 0):=(Zb BK153.out 4).trans rfl;have hcz26_5:w24.cell? ⟨gb153,5,none⟩=some (.int .i64 0):=(Zb BK153.out 5).trans rfl;have hfz26_0:=Zc BK153.out 0;have hfz26_1:=Zc BK153.out 1;have hfz26_2:=Zc BK153.out 2;have hfz26_3:=Zc BK153.out 3;have hfz26_4:=Zc BK153.out 4;have hfz26_5:=Zc BK153.out 5)|((with_reducible refine Yq (t:=93) (p:=2) rfl ?_);refine Yp (t:=93) (p:=2) (v:= ?vo_w27) (w1:=((((((w24.setCell ⟨gb153,0,none⟩ (.int .i64 1)).setCell ⟨gb153,1,none⟩ (.int .i64 t168)).setCell ⟨gb153,2,none⟩ (.int .i64 0)).setCell ⟨gb153,3,none⟩ (.int .i64 t171)).setCell ⟨gb153,4,none⟩ (.int .i64 t172)).setCell ⟨gb153,5,none⟩ (.int .i64 t173))) ?hg ?ho ?hn ?hr ?_;(case ho=>rfl);(case hg=>rfl);(case hn=>rfl);(case hr=>exact z2_17);intro w27 hw;have n0_:Aside0 (w27.heap[gb153]? =some (.cells #[.int .i64 1,.int .i64 t168,.int .i64 0,.int .i64 t171,.int .i64 t172,.int .i64 t173] 93 (0,0))):=⟨(by rw[hw];exact(by(with_reducible repeat(first|refine blk_drewN ?_ _|refine blk_drew ?_|refine blk_alloc ?_ _));refine blk_put (cs:= #[.int .i64 1,.int .i64 t168,.int .i64 0,.int .i64 t171,.int .i64 t172,.int .i64 0]) ?_ 5 _ rfl;(with_reducible repeat(first|refine blk_drewN ?_ _|refine blk_drew ?_|refine blk_alloc ?_ _));refine blk_put (cs:= #[.int .i64 1,.int .i64 t168,.int .i64 0,.int .i64 t171,.int .i64 0,.int .i64 0]) ?_ 4 _ rfl;(with_reducible repeat(first|refine blk_drewN ?_ _|refine blk_drew ?_|refine blk_alloc ?_ _));refine blk_put (cs:= #[.int .i64 1,.int .i64 t168,.int .i64 0,.int .i64 0,.int .i64 0,.int .i64 0]) ?_ 3 _ rfl;(with_reducible repeat(first|refine blk_drewN ?_ _|refine blk_drew ?_|refine blk_alloc ?_ _));refine blk_put (cs:= #[.int .i64 1,.int .i64 t168,.int .i64 0,.int .i64 0,.int .i64 0,.int .i64 0]) ?_ 2 _ rfl;(with_reducible repeat(first|refine blk_drewN ?_ _|refine blk_drew ?_|refine blk_alloc ?_ _));refine blk_put (cs:= #[.int .i64 1,.int .i64 0,.int .i64 0,.int .i64 0,.int .i64 0,.int .i64 0]) ?_ 1 _ rfl;(with_reducible repeat(first|refine blk_drewN ?_ _|refine blk_drew ?_|refine blk_alloc ?_ _));refine blk_put (cs:= #[.int .i64 0,.int .i64 0,.int .i64 0,.int .i64 0,.int .i64 0,.int .i64 0]) ?_ 0 _ rfl;(with_reducible repeat(first|refine blk_drewN ?_ _|refine blk_drew ?_|refine blk_alloc ?_ _));exact BK153.out))⟩;have n1_:Aside0 (IsS82 w0 w27 g s0_0 t174 t175):=⟨(by rw[hw];exact z2_8)⟩;have n2_:Aside0 (KeepBut w w27 g none):=⟨(by rw[hw];exact z2_11)⟩;have n3_:Aside0 (Below w0.heap.size w0 w27):=⟨(by rw[hw];exact z2_9)⟩;clear hw;clear BK153;clear HI0;clear HK;clear HB;have BK153:=n0_;have HI0:=n1_;have HK:=n2_;have HB:=n3_;clear n0_ n1_ n2_ n3_))
     refine bodyPost_ret (results_cell_row rfl _ _ gb153 93 #[.int .i64 1,.int .i64 t168,.int .i64 0,.int .i64 t171,.int .i64 t172,.int .i64 t173] (0,0) _ rfl z2_13 Tryz.underlying93 rfl z2_21) rfl ?_
     exact⟨by first|rfl|(simp[errW_none,errW_some]<;>rfl)|(simp[*,errW_none,errW_some]<;>rfl)|(simp[*,errW_none,errW_some,i64_w];done),by repeat(first|(with_reducible first|exact HI0.out|apply IsS82.alloc|apply IsS82.drewN|apply IsS82.drew|apply IsS82.set_1|apply IsS82.set_2|refine IsS82.far ?_ NB0_153.out _)|exact HI0.out),by repeat(first|(with_reducible first|exact HB.out|apply Zh|apply Zf|apply Ze|refine Zd ?_ (IsS82.ge HI0.out)|refine Zd ?_ GE153.out)|exact HB.out),by repeat(first|(with_reducible first|exact HK.out|apply KeepBut.set_|apply keep_drewN|apply keep_drew|apply keep_alloc|refine keep_far ?_ GW153.out _)|exact HK.out)⟩
/-! ### spec_l05Block: function 91 -/
mutual
def spec_l05Block.l0:Nat→Int→Int→List (S93)→Int→List Int→Int→Int→Option ((List (S93))×Int×Int)
 |0,_,_,_,_,_,_,_=>none
 |k+1,x1,x2,x7,x8,x1000,x1001,x1002=>if x8<x1 then (if x2<2 then (if (x7.length:Int)<6 then ((spec_l01Once.f x1000 x1001 x1002 5).bind fun bt179=>(spec_l05Block.j1 k x1 x2 x7 x8 bt179.1 x1000 bt179.2.1 bt179.2.2)) else (spec_l05Block.j1 k x1 x2 x7 x8 false x1000 x1001 x1002)) else (spec_l05Block.j1 k x1 x2 x7 x8 false x1000 x1001 x1002)) else (some (x7,x1001,x1002))
def spec_l05Block.j1:Nat→Int→Int→List (S93)→Int→Bool→List Int→Int→Int→Option ((List (S93))×Int×Int)
 |0,_,_,_,_,_,_,_,_=>none
 |k+1,x1,x2,x7,x8,x26,x1000,x1001,x1002=>if x26=true then ((spec_l01Below.f x1000 x1001 x1002 3).bind fun bt182=>((spec_l01Once.f x1000 bt182.2.1 bt182.2.2 2).bind fun bt186=>(if bt186.1=true then ((spec_l03Expr.f x1000 bt186.2.1 bt186.2.2).bind fun bt189=>(if x7.length<2932031007402 then ((some (x7++[(⟨4,0,0,(⟨bt189.1,bt189.2.1,bt189.2.2.1⟩:S72)⟩:S93)]:List (S93))).bind fun y194=>((spec_l01Below.f x1000 bt189.2.2.2.1 bt189.2.2.2.2 2).bind fun bt197=>((spec_l05Block.f k x1000 bt197.2.1 bt197.2.2 (wrap64 (1+bt197.1)) (wrap64 (x2+1))).bind fun bt200=>(if y194.length+bt200.1.length<2932031007402 then ((some (y194++bt200.1:List (S93))).bind fun y205=>(if y205.length<2932031007402 then (spec_l05Block.l0 k x1 x2 (y205++[(⟨6,0,0,(⟨0,0,0⟩:S72)⟩:S93)]) (wrap64 (x8+1)) x1000 bt200.2.1 bt200.2.2) else (none))) else (none))))) else (none))) else (if x7.length<2932031007402 then ((some (x7++[(⟨5,0,wrap64 (1+bt182.1),(⟨0,0,0⟩:S72)⟩:S93)]:List (S93))).bind fun y211=>((spec_l01Below.f x1000 bt186.2.1 bt186.2.2 2).bind fun bt214=>((spec_l05Block.f k x1000 bt214.2.1 bt214.2.2 (wrap64 (1+bt214.1)) (wrap64 (x2+1))).bind fun bt217=>(if y211.length+bt217.1.length<2932031007402 then ((some (y211++bt217.1:List (S93))).bind fun y222=>(if y222.length<2932031007402 then (spec_l05Block.l0 k x1 x2 (y222++[(⟨6,0,0,(⟨0,0,0⟩:S72)⟩:S93)]) (wrap64 (x8+1)) x1000 bt217.2.1 bt217.2.2) else (none))) else (none))))) else (none))))) else ((spec_l04Stmt.f k x1000 x1001 x1002).bind fun bt228=>(if x7.length<2932031007402 then (spec_l05Block.l0 k x1 x2 (x7++[(⟨bt228.1,bt228.2.1,bt228.2.2.1,(⟨bt228.2.2.2.1,bt228.2.2.2.2.1,bt228.2.2.2.2.2.1⟩:S72)⟩:S93)]) (wrap64 (x8+1)) x1000 bt228.2.2.2.2.2.2.1 bt228.2.2.2.2.2.2.2) else (none)))
def spec_l05Block.f:Nat→List Int→Int→Int→Int→Int→Option ((List (S93))×Int×Int)
 |0,_,_,_,_,_=>none
 |k+1,s0_0,s0_1,s0_2,a1,a2=>spec_l05Block.l0 k a1 a2 (([]:List (S93))) 0 s0_0 s0_1 s0_2
end
theorem spec_l05Block.mono_l:∀k,(∀y0 y1 y2 y3 y4,LeO (spec_l05Block.f k y0 y1 y2 y3 y4) (spec_l05Block.f (k+1) y0 y1 y2 y3 y4))∧(∀y0 y1 y2 y3 y4 y5 y6,LeO (spec_l05Block.l0 k y0 y1 y2 y3 y4 y5 y6) (spec_l05Block.l0 (k+1) y0 y1 y2 y3 y4 y5 y6))∧(∀y0 y1 y2 y3 y4 y5 y6 y7,LeO (spec_l05Block.j1 k y0 y1 y2 y3 y4 y5 y6 y7) (spec_l05Block.j1 (k+1) y0 y1 y2 y3 y4 y5 y6 y7))
 |0=>⟨fun _ _ _ _ _ r h=>by simp[spec_l05Block.f] at h,fun _ _ _ _ _ _ _ r h=>by simp[spec_l05Block.l0] at h,fun _ _ _ _ _ _ _ _ r h=>by simp[spec_l05Block.j1] at h⟩
 |k+1=>by
  obtain⟨ih0,ih1,ih2⟩:=spec_l05Block.mono_l k
  refine⟨?_,?_,?_⟩
  ·intro y0 y1 y2 y3 y4
   unfold spec_l05Block.f
   repeat' first
   |(with_reducible exact ih0 _ _ _ _ _)
   |(with_reducible exact ih1 _ _ _ _ _ _ _)
   |(with_reducible exact ih2 _ _ _ _ _ _ _ _)
   |(with_reducible exact spec_l04Stmt.mono _ _ _ _)
   |(with_reducible exact Yj _)
   |(with_reducible exact Ya _)
   |(with_reducible refine Zz ?_ ?_)
   |(with_reducible refine Zx ?_ (fun _=> ?_))
   |exact ih0 _ _ _ _ _
   |exact ih1 _ _ _ _ _ _ _
   |exact ih2 _ _ _ _ _ _ _ _
   |exact spec_l04Stmt.mono _ _ _ _
   |exact Ya _
   |refine Zz ?_ ?_
   |refine Zx ?_ (fun _=> ?_)
  ·intro y0 y1 y2 y3 y4 y5 y6
   unfold spec_l05Block.l0
   repeat' first
   |(with_reducible exact ih0 _ _ _ _ _)
   |(with_reducible exact ih1 _ _ _ _ _ _ _)
   |(with_reducible exact ih2 _ _ _ _ _ _ _ _)
   |(with_reducible exact spec_l04Stmt.mono _ _ _ _)
   |(with_reducible exact Yj _)
   |(with_reducible exact Ya _)
   |(with_reducible refine Zz ?_ ?_)
   |(with_reducible refine Zx ?_ (fun _=> ?_))
   |exact ih0 _ _ _ _ _
   |exact ih1 _ _ _ _ _ _ _
   |exact ih2 _ _ _ _ _ _ _ _
   |exact spec_l04Stmt.mono _ _ _ _
   |exact Ya _
   |refine Zz ?_ ?_
   |refine Zx ?_ (fun _=> ?_)
  ·intro y0 y1 y2 y3 y4 y5 y6 y7
   unfold spec_l05Block.j1
   repeat' first
   |(with_reducible exact ih0 _ _ _ _ _)
   |(with_reducible exact ih1 _ _ _ _ _ _ _)
   |(with_reducible exact ih2 _ _ _ _ _ _ _ _)
   |(with_reducible exact spec_l04Stmt.mono _ _ _ _)
   |(with_reducible exact Yj _)
   |(with_reducible exact Ya _)
   |(with_reducible refine Zz ?_ ?_)
   |(with_reducible refine Zx ?_ (fun _=> ?_))
   |exact ih0 _ _ _ _ _
   |exact ih1 _ _ _ _ _ _ _
   |exact ih2 _ _ _ _ _ _ _ _
   |exact spec_l04Stmt.mono _ _ _ _
   |exact Ya _
   |refine Zz ?_ ?_
   |refine Zx ?_ (fun _=> ?_)
theorem spec_l05Block.mono:∀a0 a1 a2 a3 a4 k,LeO (spec_l05Block.f k a0 a1 a2 a3 a4) (spec_l05Block.f (k+1) a0 a1 a2 a3 a4):=by
 intro a0 a1 a2 a3 a4 k
 obtain⟨ih0,ih1,ih2⟩:=spec_l05Block.mono_l k
 exact ih0 a0 a1 a2 a3 a4
set_option maxHeartbeats 8000000 in
set_option maxRecDepth 100000 in
theorem spec_l05Block.calls (k:Nat):∀(g:Nat) (s0_0:List Int) (s0_1:Int) (s0_2:Int) (a1:Int) (a2:Int) (r1:List (S93)) (r2:Int) (r3:Int) (w0 w:World) (hI:IsS82 w0 w g s0_0 s0_1 s0_2) (hB:Below w0.heap.size w0 w) (h:spec_l05Block.f k s0_0 s0_1 s0_2 a1 a2=some (r1,r2,r3)),
  Calls Tryz.prog 91 #[.pointer (some ⟨g,0,none⟩),.int .i64 a1,.int .i64 a2] w fun e w'=>∃v0_:Value,e= .returned (v0_)∧Kd.R k93 93 w' w.heap.size (fun _=>True) v0_ r1∧IsS82 w0 w' g s0_0 r2 r3∧Below w0.heap.size w0 w'∧KeepBut w w' g none:=by
 induction k using Nat.strongRecOn with
 |_ k ih=>
 intro g s0_0 s0_1 s0_2 a1 a2 r1 r2 r3 w0 w hI hB h
 cases k with
 |zero=>exact absurd h (by simp[spec_l05Block.f])
 |succ k=>
 simp only[spec_l05Block.f] at h
 have hu93:=Tryz.underlying93
 have HI0:=Za hI
 have HK:=Za (KeepBut.refl w g none)
 have HL:=Za hB.size
 clear hI
 have HW0:=Za hB.size
 have HB:=Za hB
 clear hB
 have H:(spec_l05Block.l0 k a1 a2 (([]:List (S93))) 0 s0_0 s0_1 s0_2)=some (r1,r2,r3):=h
 clear h
 obtain⟨y176,hy176⟩:∃y_:List (S93),y_=(([]:List (S93))):=⟨_,rfl⟩
 replace H:(spec_l05Block.l0 k a1 a2 y176 0 s0_0 s0_1 s0_2)=some (r1,r2,r3):=by first|(rw[hy176];with_reducible exact H)|(have H2_:=(Yd _ _).symm.trans H;rw[hy176];with_reducible exact H2_)|(have H2_:=(Yd _ _).symm.trans H;with_reducible exact H2_)|with_reducible exact H|(rw[hy176];exact H)|exact H
 have Ny176:=Za hy176
 clear hy176
 have H':=Za H
 clear H
 go_enter Tryz.func91,Tryz.ntmps91
 go_wp2_with (first|((with_reducible refine Zr (N:=10) rfl ?_);(try(refine gate_guard (by rfl) ?_;dsimp only));refine Kd.R_lit k93 _ 93 ?hg (N:=10) ?hd (xs:=([]:List (S93))) (inner:=[]) (ok:=fun _=>True) (okp:=fun _=>True) ?hr ?hp (fun _ hk=>hk) trivial (Yb _ _) (Nat.le_refl _) (by simp) ?_;(case hd=>rfl);(case hg=>rfl);(case hr=>exact z2_17);(case hp=>exact(Reps.none _ _));intro v177 w4 ho5 hb hg_ hnew_;clear hg_ hnew_;(first|rw[←Ny176.out] at ho5|(simp only[Int.reduceToNat] at ho5;rw[←Ny176.out] at ho5));have HO178:=Za (Yr ho5 (keep_size (w:=w) (g:=g) (row:=none) z2_1));replace HK:=Za (KeepBut.trans z2_1 (KeepBut.of_below hb g none) (.inl rfl));replace HB:=Za (Zk z2_3 hb);replace HI0:=Za (IsS82.below z2_4 hb);clear hb ho5))
 go_loopg [7,8] k (fun kq v7 v8 w'=>∃(x7_1:List (S93)) (x8_1:Int) (x1001_1:Int) (x1002_1:Int),v8= .int .i64 x8_1∧Aside0 (spec_l05Block.l0 kq a1 a2 x7_1 x8_1 s0_0 x1001_1 x1002_1=some (r1,r2,r3))∧Aside0 (kq≤k)∧Aside0 (Kd.R k93 93 w' w.heap.size (fun _=>True) v7 x7_1)∧Aside0 (IsS82 w0 w' g s0_0 x1001_1 x1002_1)∧Aside0 (KeepBut w w' g none)∧Aside0 (Below w0.heap.size w0 w'))
 case atStart=>exact⟨(y176),(0),(s0_1),(s0_2),z2_15,H',⟨Nat.le_refl _⟩,⟨by(with_reducible repeat(first|apply Zm|apply Zl|apply Zj));exact HO178.out⟩,⟨by repeat(first|(with_reducible first|exact HI0.out|apply IsS82.alloc|apply IsS82.drewN|apply IsS82.drew|apply IsS82.set_1|apply IsS82.set_2)|exact HI0.out)⟩,⟨by repeat(first|(with_reducible first|exact HK.out|apply KeepBut.set_|apply keep_drewN|apply keep_drew|apply keep_alloc)|exact HK.out)⟩,⟨by repeat(first|(with_reducible first|exact HB.out|apply Zh|apply Zf|apply Ze|refine Zd ?_ (IsS82.ge HI0.out))|exact HB.out)⟩⟩
 case round=>
  clear H'
  obtain⟨x7_1,x8_1,x1001_1,x1002_1,rfl,HA,HK1,HO_7,HI0,HK,HB⟩:=hrel
  cases gk with
  |zero=>exact absurd HA.out (by simp[spec_l05Block.l0])
  |succ k1=>
   have H:=HA.out
   clear HA
   simp only[spec_l05Block.l0] at H
   by_cases c6:x8_1<a1
   ·rw[if_pos c6] at H
    have c6b0:decide (x8_1<a1)=true:=Zo c6
    clear c6
    have HC7:=Za H
    clear H
    go_upto_region 5 with(fail)
    go_cut [26] (fun v26 wc=>∃(kq:Nat) (x26_6:Bool) (x1001_6:Int) (x1002_6:Int),v26= .bool x26_6∧Aside0 (spec_l05Block.j1 kq a1 a2 x7_1 x8_1 x26_6 s0_0 x1001_6 x1002_6=some (r1,r2,r3))∧Aside0 (kq≤k1)∧Aside0 (Kd.R k93 93 wc w.heap.size (fun _=>True) u7 x7_1)∧Aside0 (IsS82 w0 wc g s0_0 x1001_6 x1002_6)∧Aside0 (KeepBut w wc g none)∧Aside0 (Below w0.heap.size w0 wc))
    case first=>
     have H:=HC7.out
     clear HC7
     by_cases c8:a2<2
     ·rw[if_pos c8] at H
      have c8b0:decide (a2<2)=true:=Zo c8
      clear c8
      (first|rw[c8b0]|(simp only[i64_w,i32_w];rw[c8b0])|skip)
      by_cases c9:(x7_1.length:Int)<6
      ·rw[if_pos c9] at H
       have c9b0:decide ((x7_1.length:Int)<6)=true:=Zo c9
       have c9b1:decide (x7_1.length<6)=true:=Zo (by omega)
       clear c9
       replace H:=Zg H
       obtain⟨⟨t179,t180,t181⟩,A100,H⟩:=H
       replace H:(spec_l05Block.j1 k1 a1 a2 x7_1 x8_1 t179 s0_0 t180 t181)=some (r1,r2,r3):=H
       have A10:=Za A100
       clear A100
       have H':=Za H
       clear H
       obtain⟨Ao11,co11,eo11⟩:=Yn HO_7.out
       subst eo11
       go_wp2_with (first|(go_at_call 120;(with_reducible refine(spec_l01Once.calls g s0_0 x1001_1 x1002_1 5 t179 t180 t181 w0 _ ?side1 ?side2 A10.out).mono ?_);(case side1=>exact z2_4);(case side2=>exact z2_3);rintro e w12 ⟨rfl,hi,hb,hk⟩;replace HO_7:=Za (Yc (Kd.R_keep (IsS82.apart (show IsS82 w0 _ g s0_0 x1001_1 x1002_1 from by repeat(first|(with_reducible first|exact HI0.out|apply IsS82.alloc|apply IsS82.drewN|apply IsS82.drew|apply IsS82.set_1|apply IsS82.set_2)|exact HI0.out)) z2_12 (by decide)) hk (fun _ h=>h.2)) (fun _ h=>h.1));replace HK:=Za (KeepBut.trans z2_1 hk (.inl rfl));replace HB:=Za (hb);replace HI0:=Za (hi);(try clear hb);(try clear hb2);(try clear hk);(try clear hi)))
       go_meet
       case rel=>exact⟨_,(t179),(t180),(t181),z2_15,H',⟨by have:=HK1.out;first|omega|exact Nat.le_refl _⟩,⟨by(with_reducible repeat(first|apply Zm|apply Zl|apply Zj));exact HO_7.out⟩,⟨by repeat(first|(with_reducible first|exact HI0.out|apply IsS82.alloc|apply IsS82.drewN|apply IsS82.drew|apply IsS82.set_1|apply IsS82.set_2)|exact HI0.out)⟩,⟨by repeat(first|(with_reducible first|exact HK.out|apply KeepBut.set_|apply keep_drewN|apply keep_drew|apply keep_alloc)|exact HK.out)⟩,⟨by repeat(first|(with_reducible first|exact HB.out|apply Zh|apply Zf|apply Ze|refine Zd ?_ (IsS82.ge HI0.out))|exact HB.out)⟩⟩
      ·rw[if_neg c9] at H
       have c9b0:decide ((x7_1.length:Int)<6)=false:=Yg c9
       have c9b1:decide (x7_1.length<6)=false:=Yg (by omega)
       clear c9
       have H':=Za H
       clear H
       obtain⟨Ao13,co13,eo13⟩:=Yn HO_7.out
       subst eo13
       go_wp2
       go_meet
       case rel=>exact⟨_,(false),(x1001_1),(x1002_1),z2_15,H',⟨by have:=HK1.out;first|omega|exact Nat.le_refl _⟩,⟨by(with_reducible repeat(first|apply Zm|apply Zl|apply Zj));exact HO_7.out⟩,⟨by repeat(first|(with_reducible first|exact HI0.out|apply IsS82.alloc|apply IsS82.drewN|apply IsS82.drew|apply IsS82.set_1|apply IsS82.set_2)|exact HI0.out)⟩,⟨by repeat(first|(with_reducible first|exact HK.out|apply KeepBut.set_|apply keep_drewN|apply keep_drew|apply keep_alloc)|exact HK.out)⟩,⟨by repeat(first|(with_reducible first|exact HB.out|apply Zh|apply Zf|apply Ze|refine Zd ?_ (IsS82.ge HI0.out))|exact HB.out)⟩⟩
     ·rw[if_neg c8] at H
      have c8b0:decide (a2<2)=false:=Yg c8
      clear c8
      (first|rw[c8b0]|(simp only[i64_w,i32_w];rw[c8b0])|skip)
      have H':=Za H
      clear H
      go_wp2
      go_meet
      case rel=>exact⟨_,(false),(x1001_1),(x1002_1),z2_15,H',⟨by have:=HK1.out;first|omega|exact Nat.le_refl _⟩,⟨by(with_reducible repeat(first|apply Zm|apply Zl|apply Zj));exact HO_7.out⟩,⟨by repeat(first|(with_reducible first|exact HI0.out|apply IsS82.alloc|apply IsS82.drewN|apply IsS82.drew|apply IsS82.set_1|apply IsS82.set_2)|exact HI0.out)⟩,⟨by repeat(first|(with_reducible first|exact HK.out|apply KeepBut.set_|apply keep_drewN|apply keep_drew|apply keep_alloc)|exact HK.out)⟩,⟨by repeat(first|(with_reducible first|exact HB.out|apply Zh|apply Zf|apply Ze|refine Zd ?_ (IsS82.ge HI0.out))|exact HB.out)⟩⟩
    case rest=>
     clear HC7
     (try clear c6);(try clear c6b0)
     obtain⟨kq,x26_6,x1001_6,x1002_6,rfl,HA,HJ6,HO_7,HI0,HK,HB⟩:=hcut
     cases kq with
     |zero=>exact absurd HA.out (by simp[spec_l05Block.j1])
     |succ kj6=>
      have H:=HA.out
      clear HA
      simp only[spec_l05Block.j1] at H
      by_cases c14:x26_6=true
      ·subst c14
       have H1:((spec_l01Below.f s0_0 x1001_6 x1002_6 3).bind fun bt182=>((spec_l01Once.f s0_0 bt182.2.1 bt182.2.2 2).bind fun bt186=>(if bt186.1=true then ((spec_l03Expr.f s0_0 bt186.2.1 bt186.2.2).bind fun bt189=>(if x7_1.length<2932031007402 then ((some (x7_1++[(⟨4,0,0,(⟨bt189.1,bt189.2.1,bt189.2.2.1⟩:S72)⟩:S93)]:List (S93))).bind fun y194=>((spec_l01Below.f s0_0 bt189.2.2.2.1 bt189.2.2.2.2 2).bind fun bt197=>((spec_l05Block.f kj6 s0_0 bt197.2.1 bt197.2.2 (wrap64 (1+bt197.1)) (wrap64 (a2+1))).bind fun bt200=>(if y194.length+bt200.1.length<2932031007402 then ((some (y194++bt200.1:List (S93))).bind fun y205=>(if y205.length<2932031007402 then (spec_l05Block.l0 kj6 a1 a2 (y205++[(⟨6,0,0,(⟨0,0,0⟩:S72)⟩:S93)]) (wrap64 (x8_1+1)) s0_0 bt200.2.1 bt200.2.2) else (none))) else (none))))) else (none))) else (if x7_1.length<2932031007402 then ((some (x7_1++[(⟨5,0,wrap64 (1+bt182.1),(⟨0,0,0⟩:S72)⟩:S93)]:List (S93))).bind fun y211=>((spec_l01Below.f s0_0 bt186.2.1 bt186.2.2 2).bind fun bt214=>((spec_l05Block.f kj6 s0_0 bt214.2.1 bt214.2.2 (wrap64 (1+bt214.1)) (wrap64 (a2+1))).bind fun bt217=>(if y211.length+bt217.1.length<2932031007402 then ((some (y211++bt217.1:List (S93))).bind fun y222=>(if y222.length<2932031007402 then (spec_l05Block.l0 kj6 a1 a2 (y222++[(⟨6,0,0,(⟨0,0,0⟩:S72)⟩:S93)]) (wrap64 (x8_1+1)) s0_0 bt217.2.1 bt217.2.2) else (none))) else (none))))) else (none)))))=some (r1,r2,r3):=by rw[if_pos rfl] at H;exact H
       clear H
       have H:=H1
       clear H1
       replace H:=Zg H
       obtain⟨⟨t182,t183,t184⟩,A150,H⟩:=H
       replace H:((spec_l01Once.f s0_0 t183 t184 2).bind fun bt186=>(if bt186.1=true then ((spec_l03Expr.f s0_0 bt186.2.1 bt186.2.2).bind fun bt189=>(if x7_1.length<2932031007402 then ((some (x7_1++[(⟨4,0,0,(⟨bt189.1,bt189.2.1,bt189.2.2.1⟩:S72)⟩:S93)]:List (S93))).bind fun y194=>((spec_l01Below.f s0_0 bt189.2.2.2.1 bt189.2.2.2.2 2).bind fun bt197=>((spec_l05Block.f kj6 s0_0 bt197.2.1 bt197.2.2 (wrap64 (1+bt197.1)) (wrap64 (a2+1))).bind fun bt200=>(if y194.length+bt200.1.length<2932031007402 then ((some (y194++bt200.1:List (S93))).bind fun y205=>(if y205.length<2932031007402 then (spec_l05Block.l0 kj6 a1 a2 (y205++[(⟨6,0,0,(⟨0,0,0⟩:S72)⟩:S93)]) (wrap64 (x8_1+1)) s0_0 bt200.2.1 bt200.2.2) else (none))) else (none))))) else (none))) else (if x7_1.length<2932031007402 then ((some (x7_1++[(⟨5,0,wrap64 (1+t182),(⟨0,0,0⟩:S72)⟩:S93)]:List (S93))).bind fun y211=>((spec_l01Below.f s0_0 bt186.2.1 bt186.2.2 2).bind fun bt214=>((spec_l05Block.f kj6 s0_0 bt214.2.1 bt214.2.2 (wrap64 (1+bt214.1)) (wrap64 (a2+1))).bind fun bt217=>(if y211.length+bt217.1.length<2932031007402 then ((some (y211++bt217.1:List (S93))).bind fun y222=>(if y222.length<2932031007402 then (spec_l05Block.l0 kj6 a1 a2 (y222++[(⟨6,0,0,(⟨0,0,0⟩:S72)⟩:S93)]) (wrap64 (x8_1+1)) s0_0 bt217.2.1 bt217.2.2) else (none))) else (none))))) else (none))))=some (r1,r2,r3):=H
       have A15:=Za A150
       clear A150
       replace H:=Zg H
       obtain⟨⟨t186,t187,t188⟩,A160,H⟩:=H
       replace H:(if t186=true then ((spec_l03Expr.f s0_0 t187 t188).bind fun bt189=>(if x7_1.length<2932031007402 then ((some (x7_1++[(⟨4,0,0,(⟨bt189.1,bt189.2.1,bt189.2.2.1⟩:S72)⟩:S93)]:List (S93))).bind fun y194=>((spec_l01Below.f s0_0 bt189.2.2.2.1 bt189.2.2.2.2 2).bind fun bt197=>((spec_l05Block.f kj6 s0_0 bt197.2.1 bt197.2.2 (wrap64 (1+bt197.1)) (wrap64 (a2+1))).bind fun bt200=>(if y194.length+bt200.1.length<2932031007402 then ((some (y194++bt200.1:List (S93))).bind fun y205=>(if y205.length<2932031007402 then (spec_l05Block.l0 kj6 a1 a2 (y205++[(⟨6,0,0,(⟨0,0,0⟩:S72)⟩:S93)]) (wrap64 (x8_1+1)) s0_0 bt200.2.1 bt200.2.2) else (none))) else (none))))) else (none))) else (if x7_1.length<2932031007402 then ((some (x7_1++[(⟨5,0,wrap64 (1+t182),(⟨0,0,0⟩:S72)⟩:S93)]:List (S93))).bind fun y211=>((spec_l01Below.f s0_0 t187 t188 2).bind fun bt214=>((spec_l05Block.f kj6 s0_0 bt214.2.1 bt214.2.2 (wrap64 (1+bt214.1)) (wrap64 (a2+1))).bind fun bt217=>(if y211.length+bt217.1.length<2932031007402 then ((some (y211++bt217.1:List (S93))).bind fun y222=>(if y222.length<2932031007402 then (spec_l05Block.l0 kj6 a1 a2 (y222++[(⟨6,0,0,(⟨0,0,0⟩:S72)⟩:S93)]) (wrap64 (x8_1+1)) s0_0 bt217.2.1 bt217.2.2) else (none))) else (none))))) else (none)))=some (r1,r2,r3):=H
       have A16:=Za A160
       clear A160
       by_cases c17:t186=true
       ·subst c17
        have H1:((spec_l03Expr.f s0_0 t187 t188).bind fun bt189=>(if x7_1.length<2932031007402 then ((some (x7_1++[(⟨4,0,0,(⟨bt189.1,bt189.2.1,bt189.2.2.1⟩:S72)⟩:S93)]:List (S93))).bind fun y194=>((spec_l01Below.f s0_0 bt189.2.2.2.1 bt189.2.2.2.2 2).bind fun bt197=>((spec_l05Block.f kj6 s0_0 bt197.2.1 bt197.2.2 (wrap64 (1+bt197.1)) (wrap64 (a2+1))).bind fun bt200=>(if y194.length+bt200.1.length<2932031007402 then ((some (y194++bt200.1:List (S93))).bind fun y205=>(if y205.length<2932031007402 then (spec_l05Block.l0 kj6 a1 a2 (y205++[(⟨6,0,0,(⟨0,0,0⟩:S72)⟩:S93)]) (wrap64 (x8_1+1)) s0_0 bt200.2.1 bt200.2.2) else (none))) else (none))))) else (none)))=some (r1,r2,r3):=by rw[if_pos rfl] at H;exact H
        clear H
        have H:=H1
        clear H1
        replace H:=Zg H
        obtain⟨⟨t189,t190,t191,t192,t193⟩,A180,H⟩:=H
        replace H:(if x7_1.length<2932031007402 then ((some (x7_1++[(⟨4,0,0,(⟨t189,t190,t191⟩:S72)⟩:S93)]:List (S93))).bind fun y194=>((spec_l01Below.f s0_0 t192 t193 2).bind fun bt197=>((spec_l05Block.f kj6 s0_0 bt197.2.1 bt197.2.2 (wrap64 (1+bt197.1)) (wrap64 (a2+1))).bind fun bt200=>(if y194.length+bt200.1.length<2932031007402 then ((some (y194++bt200.1:List (S93))).bind fun y205=>(if y205.length<2932031007402 then (spec_l05Block.l0 kj6 a1 a2 (y205++[(⟨6,0,0,(⟨0,0,0⟩:S72)⟩:S93)]) (wrap64 (x8_1+1)) s0_0 bt200.2.1 bt200.2.2) else (none))) else (none))))) else (none))=some (r1,r2,r3):=H
        have A18:=Za A180
        clear A180
        by_cases c19:x7_1.length<2932031007402
        ·rw[if_pos c19] at H
         have LMc19:=Za c19
         clear c19
         obtain⟨y194,hy194⟩:∃y_:List (S93),y_=(x7_1++[(⟨4,0,0,(⟨t189,t190,t191⟩:S72)⟩:S93)]):=⟨_,rfl⟩
         replace H:((spec_l01Below.f s0_0 t192 t193 2).bind fun bt197=>((spec_l05Block.f kj6 s0_0 bt197.2.1 bt197.2.2 (wrap64 (1+bt197.1)) (wrap64 (a2+1))).bind fun bt200=>(if y194.length+bt200.1.length<2932031007402 then ((some (y194++bt200.1:List (S93))).bind fun y205=>(if y205.length<2932031007402 then (spec_l05Block.l0 kj6 a1 a2 (y205++[(⟨6,0,0,(⟨0,0,0⟩:S72)⟩:S93)]) (wrap64 (x8_1+1)) s0_0 bt200.2.1 bt200.2.2) else (none))) else (none))))=some (r1,r2,r3):=by first|(rw[hy194];with_reducible exact H)|(have H2_:=(Yd _ _).symm.trans H;rw[hy194];with_reducible exact H2_)|(have H2_:=(Yd _ _).symm.trans H;with_reducible exact H2_)|with_reducible exact H|(rw[hy194];exact H)|exact H
         have Ny194:=Za hy194
         clear hy194
         replace H:=Zg H
         obtain⟨⟨t197,t198,t199⟩,A200,H⟩:=H
         replace H:((spec_l05Block.f kj6 s0_0 t198 t199 (wrap64 (1+t197)) (wrap64 (a2+1))).bind fun bt200=>(if y194.length+bt200.1.length<2932031007402 then ((some (y194++bt200.1:List (S93))).bind fun y205=>(if y205.length<2932031007402 then (spec_l05Block.l0 kj6 a1 a2 (y205++[(⟨6,0,0,(⟨0,0,0⟩:S72)⟩:S93)]) (wrap64 (x8_1+1)) s0_0 bt200.2.1 bt200.2.2) else (none))) else (none)))=some (r1,r2,r3):=H
         have A20:=Za A200
         clear A200
         replace H:=Zg H
         obtain⟨⟨t200,t203,t204⟩,A210,H⟩:=H
         replace H:(if y194.length+t200.length<2932031007402 then ((some (y194++t200:List (S93))).bind fun y205=>(if y205.length<2932031007402 then (spec_l05Block.l0 kj6 a1 a2 (y205++[(⟨6,0,0,(⟨0,0,0⟩:S72)⟩:S93)]) (wrap64 (x8_1+1)) s0_0 t203 t204) else (none))) else (none))=some (r1,r2,r3):=H
         have A21:=Za A210
         clear A210
         by_cases c22:y194.length+t200.length<2932031007402
         ·rw[if_pos c22] at H
          have LMc22:=Za c22
          clear c22
          obtain⟨y205,hy205⟩:∃y_:List (S93),y_=(y194++t200):=⟨_,rfl⟩
          replace H:(if y205.length<2932031007402 then (spec_l05Block.l0 kj6 a1 a2 (y205++[(⟨6,0,0,(⟨0,0,0⟩:S72)⟩:S93)]) (wrap64 (x8_1+1)) s0_0 t203 t204) else (none))=some (r1,r2,r3):=by first|(rw[hy205];with_reducible exact H)|(have H2_:=(Yd _ _).symm.trans H;rw[hy205];with_reducible exact H2_)|(have H2_:=(Yd _ _).symm.trans H;with_reducible exact H2_)|with_reducible exact H|(rw[hy205];exact H)|exact H
          have Ny205:=Za hy205
          clear hy205
          by_cases c23:y205.length<2932031007402
          ·rw[if_pos c23] at H
           have LMc23:=Za c23
           clear c23
           obtain⟨y208,hy208⟩:∃y_:List (S93),y_=(y205++[(⟨6,0,0,(⟨0,0,0⟩:S72)⟩:S93)]):=⟨_,rfl⟩
           replace H:(spec_l05Block.l0 kj6 a1 a2 y208 (wrap64 (x8_1+1)) s0_0 t203 t204)=some (r1,r2,r3):=by first|(rw[hy208];with_reducible exact H)|(have H2_:=(Yd _ _).symm.trans H;rw[hy208];with_reducible exact H2_)|(have H2_:=(Yd _ _).symm.trans H;with_reducible exact H2_)|with_reducible exact H|(rw[hy208];exact H)|exact H
           have Ny208:=Za hy208
           clear hy208
           have H':=Za H
           clear H
           go_wp2_with (first|((first|((with_reducible refine gate_callee (f:=38) rfl ?_);refine goesL_ (some 28) rfl rfl Tryz.func38 z2_21 rfl #[.pointer (some ⟨g,0,none⟩),.int .i64 3] rfl z2_0 ?_;(with_reducible refine(spec_l01Below.calls g s0_0 x1001_6 x1002_6 3 t182 t183 t184 w0 _ ?side1 ?side2 A15.out).mono ?_))|(go_at_call 38;(with_reducible refine(spec_l01Below.calls g s0_0 x1001_6 x1002_6 3 t182 t183 t184 w0 _ ?side1 ?side2 A15.out).mono ?_)));(case side1=>exact z2_4);(case side2=>exact z2_3);rintro e w24 ⟨rfl,hi,hb,hk⟩;(first|refine⟨_,rfl,?_⟩|skip);replace HO_7:=Za (Yc (Kd.R_keep (IsS82.apart (show IsS82 w0 _ g s0_0 x1001_6 x1002_6 from by repeat(first|(with_reducible first|exact HI0.out|apply IsS82.alloc|apply IsS82.drewN|apply IsS82.drew|apply IsS82.set_1|apply IsS82.set_2)|exact HI0.out)) z2_12 (by decide)) hk (fun _ h=>h.2)) (fun _ h=>h.1));replace HK:=Za (KeepBut.trans z2_1 hk (.inl rfl));replace HB:=Za (hb);replace HI0:=Za (hi);(try clear hb);(try clear hb2);(try clear hk);(try clear hi))|((with_reducible refine Zr (N:=9) rfl ?_);(try(refine gate_guard (by rfl) ?_;dsimp only));refine Zy ?hg (N:=9) ?hd (cs:= #[.int .i64 0,.int .i64 0,.int .i64 0,.int .i64 0,.int .i64 0,.int .i64 0]) (t:=93) ?hr ?_;(case hd=>rfl);(case hg=>rfl);(case hr=>exact z2_17);intro gb185 hg w25 hbox hb;replace HO_7:=Za (Kd.R_below (Kd.R_elderB z2_12 gb185 (Nat.le_of_eq hg.symm)) hb);replace HB:=Za (Zk z2_3 hb);have BK185:=Za (hbox);have GW185:=Za ((z2_28:w.heap.size≤gb185));have GE185:=Za ((Nat.le_trans HW0.out (z2_28:w.heap.size≤gb185):w0.heap.size≤gb185));replace HK:=Za (KeepBut.trans z2_1 (KeepBut.of_below hb g none) (.inl rfl));have NB0_185:=Za ((z2_22:g≠gb185));have NB185_0:=Za ((z2_24:gb185≠g));replace HI0:=Za (IsS82.below z2_4 hb);clear hb hbox hg;have hnb26:=NB185_0.out;have hnc26:=NB0_185.out;have hcz27_0:w25.cell? ⟨gb185,0,none⟩=some (.int .i64 0):=(Zb BK185.out 0).trans rfl;have hcz27_1:w25.cell? ⟨gb185,1,none⟩=some (.int .i64 0):=(Zb BK185.out 1).trans rfl;have hcz27_2:w25.cell? ⟨gb185,2,none⟩=some (.int .i64 0):=(Zb BK185.out 2).trans rfl;have hcz27_3:w25.cell? ⟨gb185,3,none⟩=some (.int .i64 0):=(Zb BK185.out 3).trans rfl;have hcz27_4:w25.cell? ⟨gb185,4,none⟩=some (.int .i64 0):=(Zb BK185.out 4).trans rfl;have hcz27_5:w25.cell? ⟨gb185,5,none⟩=some (.int .i64 0):=(Zb BK185.out 5).trans rfl;have hfz27_0:=Zc BK185.out 0;have hfz27_1:=Zc BK185.out 1;have hfz27_2:=Zc BK185.out 2;have hfz27_3:=Zc BK185.out 3;have hfz27_4:=Zc BK185.out 4;have hfz27_5:=Zc BK185.out 5)|((with_reducible refine Yq (t:=93) (p:=9) rfl ?_);refine Yp (t:=93) (p:=9) (v:= ?vo_w28) (w1:=((((((w25.setCell ⟨gb185,0,none⟩ (.int .i64 5)).setCell ⟨gb185,1,none⟩ (.int .i64 0)).setCell ⟨gb185,2,none⟩ (.int .i64 (wrap64 (1+t182)))).setCell ⟨gb185,3,none⟩ (.int .i64 0)).setCell ⟨gb185,4,none⟩ (.int .i64 0)).setCell ⟨gb185,5,none⟩ (.int .i64 0))) ?hg ?ho ?hn ?hr ?_;(case ho=>rfl);(case hg=>rfl);(case hn=>rfl);(case hr=>exact z2_17);intro w28 hw;have n0_:Aside0 (Kd.R k93 93 w28 w.heap.size (fun k_=>k_≠gb185) u7 x7_1):=⟨z2_14⟩;have n1_:Aside0 (w28.heap[gb185]? =some (.cells #[.int .i64 5,.int .i64 0,.int .i64 (wrap64 (1+t182)),.int .i64 0,.int .i64 0,.int .i64 0] 93 (0,0))):=⟨z2_10⟩;have n2_:Aside0 (IsS82 w0 w28 g s0_0 t183 t184):=⟨(by rw[hw];exact z2_5)⟩;have n3_:Aside0 (KeepBut w w28 g none):=⟨(by rw[hw];exact z2_2)⟩;have n4_:Aside0 (Below w0.heap.size w0 w28):=⟨(by rw[hw];exact z2_6)⟩;clear hw;clear HO_7;clear BK185;clear HI0;clear HK;clear HB;have HO_7:=n0_;have BK185:=n1_;have HI0:=n2_;have HK:=n3_;have HB:=n4_;clear n0_ n1_ n2_ n3_ n4_)|((first|((with_reducible refine gate_callee (f:=120) rfl ?_);refine goesL_ (some 32) rfl rfl Tryz.func120 z2_21 rfl #[.pointer (some ⟨g,0,none⟩),.int .i64 2] rfl z2_0 ?_;(with_reducible refine(spec_l01Once.calls g s0_0 t183 t184 2 true t187 t188 w0 _ ?side1 ?side2 A16.out).mono ?_))|(go_at_call 120;(with_reducible refine(spec_l01Once.calls g s0_0 t183 t184 2 true t187 t188 w0 _ ?side1 ?side2 A16.out).mono ?_)));(case side1=>exact z2_5);(case side2=>exact z2_6);rintro e w29 ⟨rfl,hi,hb,hk⟩;(first|refine⟨_,rfl,?_⟩|skip);replace HO_7:=Za (Yc (Kd.R_keep (IsS82.apart (show IsS82 w0 _ g s0_0 t183 t184 from by repeat(first|(with_reducible first|exact HI0.out|apply IsS82.alloc|apply IsS82.drewN|apply IsS82.drew|apply IsS82.set_1|apply IsS82.set_2|refine IsS82.far ?_ NB0_185.out _)|exact HI0.out)) z2_12 (by decide)) hk (fun _ h=>h.2)) (fun _ h=>h.1));replace BK185:=Za (KeepBut.blk hk (g':=gb185) (o:= .cells #[.int .i64 5,.int .i64 0,.int .i64 (wrap64 (1+t182)),.int .i64 0,.int .i64 0,.int .i64 0] 93 (0,0)) z2_7 NB185_0.out (by simp));replace HK:=Za (KeepBut.trans z2_2 hk (.inl rfl));replace HB:=Za (hb);replace HI0:=Za (hi);(try clear hb);(try clear hb2);(try clear hk);(try clear hi))|((first|((with_reducible refine gate_callee (f:=59) rfl ?_);refine goesL_ (some 34) rfl rfl Tryz.func59 z2_21 rfl #[.pointer (some ⟨g,0,none⟩)] rfl z2_0 ?_;(with_reducible refine(spec_l03Expr.calls g s0_0 t187 t188 t189 t190 t191 t192 t193 w0 _ ?side1 ?side2 A18.out).mono ?_))|(go_at_call 59;(with_reducible refine(spec_l03Expr.calls g s0_0 t187 t188 t189 t190 t191 t192 t193 w0 _ ?side1 ?side2 A18.out).mono ?_)));(case side1=>exact z2_5);(case side2=>exact z2_6);rintro e w30 ⟨rfl,hi,hb,hk⟩;(first|refine⟨_,rfl,?_⟩|skip);replace HO_7:=Za (Yc (Kd.R_keep (IsS82.apart (show IsS82 w0 _ g s0_0 t187 t188 from by repeat(first|(with_reducible first|exact HI0.out|apply IsS82.alloc|apply IsS82.drewN|apply IsS82.drew|apply IsS82.set_1|apply IsS82.set_2|refine IsS82.far ?_ NB0_185.out _)|exact HI0.out)) z2_12 (by decide)) hk (fun _ h=>h.2)) (fun _ h=>h.1));replace BK185:=Za (KeepBut.blk hk (g':=gb185) (o:= .cells #[.int .i64 5,.int .i64 0,.int .i64 (wrap64 (1+t182)),.int .i64 0,.int .i64 0,.int .i64 0] 93 (0,0)) z2_7 NB185_0.out (by simp));replace HK:=Za (KeepBut.trans z2_2 hk (.inl rfl));replace HB:=Za (hb);replace HI0:=Za (hi);(try clear hb);(try clear hb2);(try clear hk);(try clear hi);have hcz31_0:w30.cell? ⟨gb185,0,none⟩=some (.int .i64 5):=(Zb BK185.out 0).trans rfl;have hcz31_1:w30.cell? ⟨gb185,1,none⟩=some (.int .i64 0):=(Zb BK185.out 1).trans rfl;have hcz31_2:w30.cell? ⟨gb185,2,none⟩=some (.int .i64 (wrap64 (1+t182))):=(Zb BK185.out 2).trans rfl;have hcz31_3:w30.cell? ⟨gb185,3,none⟩=some (.int .i64 0):=(Zb BK185.out 3).trans rfl;have hcz31_4:w30.cell? ⟨gb185,4,none⟩=some (.int .i64 0):=(Zb BK185.out 4).trans rfl;have hcz31_5:w30.cell? ⟨gb185,5,none⟩=some (.int .i64 0):=(Zb BK185.out 5).trans rfl;have hfz31_0:=Zc BK185.out 0;have hfz31_1:=Zc BK185.out 1;have hfz31_2:=Zc BK185.out 2;have hfz31_3:=Zc BK185.out 3;have hfz31_4:=Zc BK185.out 4;have hfz31_5:=Zc BK185.out 5)|((with_reducible refine Yq (t:=93) (p:=9) rfl ?_);refine Yp (t:=93) (p:=9) (v:= ?vo_w32) (w1:=((((((w30.setCell ⟨gb185,0,none⟩ (.int .i64 4)).setCell ⟨gb185,1,none⟩ (.int .i64 0)).setCell ⟨gb185,2,none⟩ (.int .i64 0)).setCell ⟨gb185,3,none⟩ (.int .i64 t189)).setCell ⟨gb185,4,none⟩ (.int .i64 t190)).setCell ⟨gb185,5,none⟩ (.int .i64 t191))) ?hg ?ho ?hn ?hr ?_;(case ho=>rfl);(case hg=>rfl);(case hn=>rfl);(case hr=>exact z2_17);intro w32 hw;have n0_:Aside0 (Kd.R k93 93 w32 w.heap.size (fun k_=>k_≠gb185) u7 x7_1):=⟨(by rw[hw];exact(by(with_reducible repeat(first|apply Zm|apply Zl|apply Zj));exact Yc (Kd.R_far (p:=⟨gb185,5,none⟩) (Kd.R_far (p:=⟨gb185,4,none⟩) (Kd.R_far (p:=⟨gb185,3,none⟩) (Kd.R_far (p:=⟨gb185,2,none⟩) (Kd.R_far (p:=⟨gb185,1,none⟩) (Kd.R_far (p:=⟨gb185,0,none⟩) (Yc HO_7.out (fun k_ hk=>(⟨hk,hk⟩:_∧k_≠gb185))) (fun _ hk=>hk.2) (.int .i64 4)) (fun _ hk=>hk.2) (.int .i64 0)) (fun _ hk=>hk.2) (.int .i64 0)) (fun _ hk=>hk.2) (.int .i64 t189)) (fun _ hk=>hk.2) (.int .i64 t190)) (fun _ hk=>hk.2) (.int .i64 t191)) (fun _ hk=>hk.1)))⟩;have n1_:Aside0 (w32.heap[gb185]? =some (.cells #[.int .i64 4,.int .i64 0,.int .i64 0,.int .i64 t189,.int .i64 t190,.int .i64 t191] 93 (0,0))):=⟨(by rw[hw];exact(by(with_reducible repeat(first|refine blk_drewN ?_ _|refine blk_drew ?_|refine blk_alloc ?_ _));refine blk_put (cs:= #[.int .i64 4,.int .i64 0,.int .i64 0,.int .i64 t189,.int .i64 t190,.int .i64 0]) ?_ 5 _ rfl;(with_reducible repeat(first|refine blk_drewN ?_ _|refine blk_drew ?_|refine blk_alloc ?_ _));refine blk_put (cs:= #[.int .i64 4,.int .i64 0,.int .i64 0,.int .i64 t189,.int .i64 0,.int .i64 0]) ?_ 4 _ rfl;(with_reducible repeat(first|refine blk_drewN ?_ _|refine blk_drew ?_|refine blk_alloc ?_ _));refine blk_put (cs:= #[.int .i64 4,.int .i64 0,.int .i64 0,.int .i64 0,.int .i64 0,.int .i64 0]) ?_ 3 _ rfl;(with_reducible repeat(first|refine blk_drewN ?_ _|refine blk_drew ?_|refine blk_alloc ?_ _));refine blk_put (cs:= #[.int .i64 4,.int .i64 0,.int .i64 (wrap64 (1+t182)),.int .i64 0,.int .i64 0,.int .i64 0]) ?_ 2 _ rfl;(with_reducible repeat(first|refine blk_drewN ?_ _|refine blk_drew ?_|refine blk_alloc ?_ _));refine blk_put (cs:= #[.int .i64 4,.int .i64 0,.int .i64 (wrap64 (1+t182)),.int .i64 0,.int .i64 0,.int .i64 0]) ?_ 1 _ rfl;(with_reducible repeat(first|refine blk_drewN ?_ _|refine blk_drew ?_|refine blk_alloc ?_ _));refine blk_put (cs:= #[.int .i64 5,.int .i64 0,.int .i64 (wrap64 (1+t182)),.int .i64 0,.int .i64 0,.int .i64 0]) ?_ 0 _ rfl;(with_reducible repeat(first|refine blk_drewN ?_ _|refine blk_drew ?_|refine blk_alloc ?_ _));exact BK185.out))⟩;have n2_:Aside0 (IsS82 w0 w32 g s0_0 t192 t193):=⟨(by rw[hw];exact z2_5)⟩;have n3_:Aside0 (KeepBut w w32 g none):=⟨(by rw[hw];exact z2_2)⟩;have n4_:Aside0 (Below w0.heap.size w0 w32):=⟨(by rw[hw];exact z2_6)⟩;clear hw;clear HO_7;clear BK185;clear HI0;clear HK;clear HB;have HO_7:=n0_;have BK185:=n1_;have HI0:=n2_;have HK:=n3_;have HB:=n4_;clear n0_ n1_ n2_ n3_ n4_;have hcz33_0:w32.cell? ⟨gb185,0,none⟩=some (.int .i64 4):=(Zb BK185.out 0).trans rfl;have hcz33_1:w32.cell? ⟨gb185,1,none⟩=some (.int .i64 0):=(Zb BK185.out 1).trans rfl;have hcz33_2:w32.cell? ⟨gb185,2,none⟩=some (.int .i64 0):=(Zb BK185.out 2).trans rfl;have hcz33_3:w32.cell? ⟨gb185,3,none⟩=some (.int .i64 t189):=(Zb BK185.out 3).trans rfl;have hcz33_4:w32.cell? ⟨gb185,4,none⟩=some (.int .i64 t190):=(Zb BK185.out 4).trans rfl;have hcz33_5:w32.cell? ⟨gb185,5,none⟩=some (.int .i64 t191):=(Zb BK185.out 5).trans rfl;have hfz33_0:=Zc BK185.out 0;have hfz33_1:=Zc BK185.out 1;have hfz33_2:=Zc BK185.out 2;have hfz33_3:=Zc BK185.out 3;have hfz33_4:=Zc BK185.out 4;have hfz33_5:=Zc BK185.out 5)|((with_reducible refine gate_builtin (b:= .append) (xs:= #[.tmp 36,.tmp 38]) rfl ?_);(try(refine gate_guard (by rfl) ?_;dsimp only));at_builtin;refine Kd.R_append k93 w.heap.size rfl (.tmp 36) (.tmp 38) 70 93 (.agg #[(.int .i64 0),(.int .i64 0),(.int .i64 0),(.int .i64 0),(.int .i64 0),(.int .i64 0)]) 48 rfl Tryz.underlying70 info93 rfl (by decide) (by omega) u7 x7_1 (⟨4,0,0,(⟨t189,t190,t191⟩:S72)⟩:S93) [.int .i64 4,.int .i64 0,.int .i64 0,.int .i64 t189,.int .i64 t190,.int .i64 t191] (fun k_=>k_≠gb185) (fun _=>False) rfl rfl ?aP (fun _ hk=>hk.elim) ?aF ?aO (Yb _ _) ?aS ?aL ?_;(case aP=>exact k93_mkM _ _ _ (⟨4,0,0,(⟨t189,t190,t191⟩:S72)⟩:S93));(case aF=>exact(fun k_ hk=>Kd.freshB (g:=gb185) (o:= .cells #[.int .i64 4,.int .i64 0,.int .i64 0,.int .i64 t189,.int .i64 t190,.int .i64 t191] 93 (0,0)) z2_7 k_ hk));(case aO=>exact z2_12);(case aS=>exact z2_31);(case aL=>have:=LMc19.out;omega);intro v195 w34 ho hb hg hat;rw[←Ny194.out] at ho;have n0_:=Za (IsS82.grown z2_5 hg (IsS82.own_ne HI0.out HO_7.out (by decide)));have n1_:=Za (blk_grown (g:=gb185) (o:= .cells #[.int .i64 4,.int .i64 0,.int .i64 0,.int .i64 t189,.int .i64 t190,.int .i64 t191] 93 (0,0)) z2_7 hg (Kd.R_away HO_7.out (fun _ hk=>hk)));have n2_:=Za (below_weaken z2_6 HL.out hb);have n3_:=Za (KeepBut.trans z2_2 (KeepBut.of_grown hg g) (Kd.R_base2 HO_7.out));have n4_:=Za (ho);clear HI0;clear BK185;clear HB;clear HK;clear HO_7;have HI0:=n0_;have BK185:=n1_;have HB:=n2_;have HK:=n3_;have HO196:=n4_;clear n0_ n1_ n2_ n3_ n4_;clear ho hb hg hat)|((first|((with_reducible refine gate_callee (f:=38) rfl ?_);refine goesL_ (some 43) rfl rfl Tryz.func38 z2_21 rfl #[.pointer (some ⟨g,0,none⟩),.int .i64 2] rfl z2_0 ?_;(with_reducible refine(spec_l01Below.calls g s0_0 t192 t193 2 t197 t198 t199 w0 _ ?side1 ?side2 A20.out).mono ?_))|(go_at_call 38;(with_reducible refine(spec_l01Below.calls g s0_0 t192 t193 2 t197 t198 t199 w0 _ ?side1 ?side2 A20.out).mono ?_)));(case side1=>exact z2_5);(case side2=>exact z2_6);rintro e w35 ⟨rfl,hi,hb,hk⟩;(first|refine⟨_,rfl,?_⟩|skip);replace BK185:=Za (KeepBut.blk hk (g':=gb185) (o:= .cells #[.int .i64 4,.int .i64 0,.int .i64 0,.int .i64 t189,.int .i64 t190,.int .i64 t191] 93 (0,0)) z2_7 NB185_0.out (by simp));replace HO196:=Za (Yc (Kd.R_keep (IsS82.apart (show IsS82 w0 _ g s0_0 t192 t193 from by repeat(first|(with_reducible first|exact HI0.out|apply IsS82.alloc|apply IsS82.drewN|apply IsS82.drew|apply IsS82.set_1|apply IsS82.set_2|refine IsS82.far ?_ NB0_185.out _)|exact HI0.out)) (by(with_reducible repeat(first|apply Zm|apply Zl|apply Zj));exact HO196.out) (by decide)) hk (fun _ h=>h.2)) (fun _ h=>h.1));replace HK:=Za (KeepBut.trans z2_2 hk (.inl rfl));replace HB:=Za (hb);replace HI0:=Za (hi);(try clear hb);(try clear hb2);(try clear hk);(try clear hi))|((first|((with_reducible refine gate_callee (f:=91) rfl ?_);refine goesL_ (some 47) rfl rfl Tryz.func91 z2_21 rfl #[.pointer (some ⟨g,0,none⟩),.int .i64 (wrap64 (1+t197)),.int .i64 (wrap64 (a2+1))] rfl z2_0 ?_;(with_reducible refine(ih kj6 (by have:=HK1.out;have:=HJ6.out;omega) g s0_0 t198 t199 (wrap64 (1+t197)) (wrap64 (a2+1)) t200 t203 t204 w0 _ ?side1 ?side2 A21.out).mono ?_))|(go_at_call 91;(with_reducible refine(ih kj6 (by have:=HK1.out;have:=HJ6.out;omega) g s0_0 t198 t199 (wrap64 (1+t197)) (wrap64 (a2+1)) t200 t203 t204 w0 _ ?side1 ?side2 A21.out).mono ?_)));(case side1=>exact z2_5);(case side2=>exact z2_6);rintro e w36 ⟨v201,rfl,ho0,hi,hb,hk⟩;(first|refine⟨_,rfl,?_⟩|skip);have HO202:=Za (Yr (Kd.R_newB (Kd.R_new' ho0 (Kd.R_lt (by(with_reducible repeat(first|apply Zm|apply Zl|apply Zj));exact HO196.out))) (g:=gb185) (o:= .cells #[.int .i64 4,.int .i64 0,.int .i64 0,.int .i64 t189,.int .i64 t190,.int .i64 t191] 93 (0,0)) z2_7) (keep_size (w:=w) (g:=g) (row:=none) z2_2));replace BK185:=Za (KeepBut.blk hk (g':=gb185) (o:= .cells #[.int .i64 4,.int .i64 0,.int .i64 0,.int .i64 t189,.int .i64 t190,.int .i64 t191] 93 (0,0)) z2_7 NB185_0.out (by simp));replace HO196:=Za (Yc (Kd.R_told (Kd.R_oldK (IsS82.apart (show IsS82 w0 _ g s0_0 t198 t199 from by repeat(first|(with_reducible first|exact HI0.out|apply IsS82.alloc|apply IsS82.drewN|apply IsS82.drew|apply IsS82.set_1|apply IsS82.set_2|refine IsS82.far ?_ NB0_185.out _)|exact HI0.out)) (by(with_reducible repeat(first|apply Zm|apply Zl|apply Zj));exact HO196.out) (by decide)) hk) (Ye ho0)) (fun _ h_=>h_.1));replace HK:=Za (KeepBut.trans z2_2 hk (.inl rfl));replace HB:=Za (hb);replace HI0:=Za (hi);(try clear hb);(try clear hb2);(try clear hk);(try clear hi);(try clear ho0);obtain⟨Ao38,co38,eo38⟩:=Yn HO202.out;subst eo38)|((with_reducible refine gate_builtin (b:= .append) (xs:= #[.tmp 40,.tmp 47]) rfl ?_);(try(refine gate_guard (by rfl) ?_;dsimp only));at_builtin;refine Kd.R_append_rows k93 w.heap.size rfl (.tmp 40) (.tmp 47) 70 93 (.agg #[(.int .i64 0),(.int .i64 0),(.int .i64 0),(.int .i64 0),(.int .i64 0),(.int .i64 0)]) 48 rfl Tryz.underlying70 info93 rfl (by decide) (by omega) v195 y194 t200 _ _ _ (fun k_=>some k_≠(.slice Ao38 t200.length co38:Value).ownBlock∧k_≠gb185) (fun _=>False) rfl rfl ?aO ?aR (fun _ _ h=>h) (fun _ h=>h.elim) ?aF (Yb _ _) ?aS ?aL ?_;(case aR=>repeat(first|exact(Ym HO202.out).2.2|(with_reducible refine Yk ?_ _)|(with_reducible refine Yi ?_ _)|(with_reducible refine Yl ?_)));(case aF=>exact z2_30);(case aO=>exact(by(with_reducible repeat(first|apply Zm|apply Zl|apply Zj));exact Yc HO196.out (fun _ hk=>⟨hk.2,hk.1⟩)));(case aS=>exact z2_31);(case aL=>have:=LMc22.out;omega);intro v206 w37 ho hb hg hat;rw[←Ny205.out] at ho;have n0_:=Za (IsS82.grown z2_5 hg (IsS82.own_ne HI0.out HO196.out (by decide)));have n1_:=Za (blk_grown (g:=gb185) (o:= .cells #[.int .i64 4,.int .i64 0,.int .i64 0,.int .i64 t189,.int .i64 t190,.int .i64 t191] 93 (0,0)) z2_7 hg (Kd.R_away HO196.out (fun _ hk=>hk.1)));have n2_:=Za (Kd.R_after (ok:=(fun k_=>k_≠gb185)) (by(with_reducible repeat(first|apply Zm|apply Zl|apply Zj));exact Yc HO202.out (fun _ hk=>⟨hk.2,hk.1.2⟩)) hg hat);have n3_:=Za (below_weaken z2_6 HL.out hb);have n4_:=Za (KeepBut.trans z2_2 (KeepBut.of_grown hg g) (Kd.R_base2 HO196.out));have n5_:=Za (ho);clear HI0;clear BK185;clear HO202;clear HB;clear HK;clear HO196;have HI0:=n0_;have BK185:=n1_;have HO202:=n2_;have HB:=n3_;have HK:=n4_;have HO207:=n5_;clear n0_ n1_ n2_ n3_ n4_ n5_;clear ho hb hg hat)|((with_reducible refine gate_builtin (b:= .append) (xs:= #[.tmp 49,.tmp 51]) rfl ?_);(try(refine gate_guard (by rfl) ?_;dsimp only));at_builtin;refine Kd.R_append k93 w.heap.size rfl (.tmp 49) (.tmp 51) 70 93 (.agg #[(.int .i64 0),(.int .i64 0),(.int .i64 0),(.int .i64 0),(.int .i64 0),(.int .i64 0)]) 48 rfl Tryz.underlying70 info93 rfl (by decide) (by omega) v206 y205 (⟨6,0,0,(⟨0,0,0⟩:S72)⟩:S93) [.int .i64 6,.int .i64 0,.int .i64 0,.int .i64 0,.int .i64 0,.int .i64 0] (fun k_=>some k_≠(.slice Ao38 t200.length co38:Value).ownBlock∧k_≠gb185) (fun _=>False) rfl rfl ?aP (fun _ hk=>hk.elim) ?aF ?aO (Yb _ _) ?aS ?aL ?_;(case aP=>exact k93_mkM _ _ _ (⟨6,0,0,(⟨0,0,0⟩:S72)⟩:S93));(case aF=>exact z2_30);(case aO=>exact(by(with_reducible repeat(first|apply Zm|apply Zl|apply Zj));exact HO207.out));(case aS=>exact z2_31);(case aL=>have:=LMc23.out;omega);intro v209 w39 ho hb hg hat;rw[←Ny208.out] at ho;have n0_:=Za (IsS82.grown z2_5 hg (IsS82.own_ne HI0.out HO207.out (by decide)));have n1_:=Za (blk_grown (g:=gb185) (o:= .cells #[.int .i64 4,.int .i64 0,.int .i64 0,.int .i64 t189,.int .i64 t190,.int .i64 t191] 93 (0,0)) z2_7 hg (Kd.R_away HO207.out (fun _ hk=>hk.2)));have n2_:=Za (Kd.R_after (ok:=(fun k_=>k_≠gb185)) (by(with_reducible repeat(first|apply Zm|apply Zl|apply Zj));exact HO202.out) hg hat);have n3_:=Za (below_weaken z2_6 HL.out hb);have n4_:=Za (KeepBut.trans z2_2 (KeepBut.of_grown hg g) (Kd.R_base2 HO207.out));have n5_:=Za (ho);clear HI0;clear BK185;clear HO202;clear HB;clear HK;clear HO207;have HI0:=n0_;have BK185:=n1_;have HO202:=n2_;have HB:=n3_;have HK:=n4_;have HO210:=n5_;clear n0_ n1_ n2_ n3_ n4_ n5_;clear ho hb hg hat))
           go_roundg kj6
           case measure=>have:=HK1.out;have:=HJ6.out;omega
           case rel=>exact⟨(y208),(wrap64 (x8_1+1)),(t203),(t204),z2_15,H',⟨by have:=HK1.out;have:=HJ6.out;omega⟩,⟨by(with_reducible repeat(first|apply Zm|apply Zl|apply Zj));exact Yc HO210.out (fun _ hk=>trivial)⟩,⟨by repeat(first|(with_reducible first|exact HI0.out|apply IsS82.alloc|apply IsS82.drewN|apply IsS82.drew|apply IsS82.set_1|apply IsS82.set_2|refine IsS82.far ?_ NB0_185.out _)|exact HI0.out)⟩,⟨by repeat(first|(with_reducible first|exact HK.out|apply KeepBut.set_|apply keep_drewN|apply keep_drew|apply keep_alloc|refine keep_far ?_ GW185.out _)|exact HK.out)⟩,⟨by repeat(first|(with_reducible first|exact HB.out|apply Zh|apply Zf|apply Ze|refine Zd ?_ (IsS82.ge HI0.out)|refine Zd ?_ GE185.out)|exact HB.out)⟩⟩
          ·rw[if_neg c23] at H
           exact absurd H (by simp)
         ·rw[if_neg c22] at H
          exact absurd H (by simp)
        ·rw[if_neg c19] at H
         exact absurd H (by simp)
       ·replace c17:=Bool.eq_false_iff.mpr c17
        subst c17
        have H1:(if x7_1.length<2932031007402 then ((some (x7_1++[(⟨5,0,wrap64 (1+t182),(⟨0,0,0⟩:S72)⟩:S93)]:List (S93))).bind fun y211=>((spec_l01Below.f s0_0 t187 t188 2).bind fun bt214=>((spec_l05Block.f kj6 s0_0 bt214.2.1 bt214.2.2 (wrap64 (1+bt214.1)) (wrap64 (a2+1))).bind fun bt217=>(if y211.length+bt217.1.length<2932031007402 then ((some (y211++bt217.1:List (S93))).bind fun y222=>(if y222.length<2932031007402 then (spec_l05Block.l0 kj6 a1 a2 (y222++[(⟨6,0,0,(⟨0,0,0⟩:S72)⟩:S93)]) (wrap64 (x8_1+1)) s0_0 bt217.2.1 bt217.2.2) else (none))) else (none))))) else (none))=some (r1,r2,r3):=by rw[if_neg (show ¬(false=true) by decide)] at H;exact H
        clear H
        have H:=H1
        clear H1
        by_cases c40:x7_1.length<2932031007402
        ·rw[if_pos c40] at H
         have LMc40:=Za c40
         clear c40
         obtain⟨y211,hy211⟩:∃y_:List (S93),y_=(x7_1++[(⟨5,0,wrap64 (1+t182),(⟨0,0,0⟩:S72)⟩:S93)]):=⟨_,rfl⟩
         replace H:((spec_l01Below.f s0_0 t187 t188 2).bind fun bt214=>((spec_l05Block.f kj6 s0_0 bt214.2.1 bt214.2.2 (wrap64 (1+bt214.1)) (wrap64 (a2+1))).bind fun bt217=>(if y211.length+bt217.1.length<2932031007402 then ((some (y211++bt217.1:List (S93))).bind fun y222=>(if y222.length<2932031007402 then (spec_l05Block.l0 kj6 a1 a2 (y222++[(⟨6,0,0,(⟨0,0,0⟩:S72)⟩:S93)]) (wrap64 (x8_1+1)) s0_0 bt217.2.1 bt217.2.2) else (none))) else (none))))=some (r1,r2,r3):=by first|(rw[hy211];with_reducible exact H)|(have H2_:=(Yd _ _).symm.trans H;rw[hy211];with_reducible exact H2_)|(have H2_:=(Yd _ _).symm.trans H;with_reducible exact H2_)|with_reducible exact H|(rw[hy211];exact H)|exact H
         have Ny211:=Za hy211
         clear hy211
         replace H:=Zg H
         obtain⟨⟨t214,t215,t216⟩,A410,H⟩:=H
         replace H:((spec_l05Block.f kj6 s0_0 t215 t216 (wrap64 (1+t214)) (wrap64 (a2+1))).bind fun bt217=>(if y211.length+bt217.1.length<2932031007402 then ((some (y211++bt217.1:List (S93))).bind fun y222=>(if y222.length<2932031007402 then (spec_l05Block.l0 kj6 a1 a2 (y222++[(⟨6,0,0,(⟨0,0,0⟩:S72)⟩:S93)]) (wrap64 (x8_1+1)) s0_0 bt217.2.1 bt217.2.2) else (none))) else (none)))=some (r1,r2,r3):=H
         have A41:=Za A410
         clear A410
         replace H:=Zg H
         obtain⟨⟨t217,t220,t221⟩,A420,H⟩:=H
         replace H:(if y211.length+t217.length<2932031007402 then ((some (y211++t217:List (S93))).bind fun y222=>(if y222.length<2932031007402 then (spec_l05Block.l0 kj6 a1 a2 (y222++[(⟨6,0,0,(⟨0,0,0⟩:S72)⟩:S93)]) (wrap64 (x8_1+1)) s0_0 t220 t221) else (none))) else (none))=some (r1,r2,r3):=H
         have A42:=Za A420
         clear A420
         by_cases c43:y211.length+t217.length<2932031007402
         ·rw[if_pos c43] at H
          have LMc43:=Za c43
          clear c43
          obtain⟨y222,hy222⟩:∃y_:List (S93),y_=(y211++t217):=⟨_,rfl⟩
          replace H:(if y222.length<2932031007402 then (spec_l05Block.l0 kj6 a1 a2 (y222++[(⟨6,0,0,(⟨0,0,0⟩:S72)⟩:S93)]) (wrap64 (x8_1+1)) s0_0 t220 t221) else (none))=some (r1,r2,r3):=by first|(rw[hy222];with_reducible exact H)|(have H2_:=(Yd _ _).symm.trans H;rw[hy222];with_reducible exact H2_)|(have H2_:=(Yd _ _).symm.trans H;with_reducible exact H2_)|with_reducible exact H|(rw[hy222];exact H)|exact H
          have Ny222:=Za hy222
          clear hy222
          by_cases c44:y222.length<2932031007402
          ·rw[if_pos c44] at H
           have LMc44:=Za c44
           clear c44
           obtain⟨y225,hy225⟩:∃y_:List (S93),y_=(y222++[(⟨6,0,0,(⟨0,0,0⟩:S72)⟩:S93)]):=⟨_,rfl⟩
           replace H:(spec_l05Block.l0 kj6 a1 a2 y225 (wrap64 (x8_1+1)) s0_0 t220 t221)=some (r1,r2,r3):=by first|(rw[hy225];with_reducible exact H)|(have H2_:=(Yd _ _).symm.trans H;rw[hy225];with_reducible exact H2_)|(have H2_:=(Yd _ _).symm.trans H;with_reducible exact H2_)|with_reducible exact H|(rw[hy225];exact H)|exact H
           have Ny225:=Za hy225
           clear hy225
           have H':=Za H
           clear H
           go_wp2_with (first|((first|((with_reducible refine gate_callee (f:=38) rfl ?_);refine goesL_ (some 28) rfl rfl Tryz.func38 z2_21 rfl #[.pointer (some ⟨g,0,none⟩),.int .i64 3] rfl z2_0 ?_;(with_reducible refine(spec_l01Below.calls g s0_0 x1001_6 x1002_6 3 t182 t183 t184 w0 _ ?side1 ?side2 A15.out).mono ?_))|(go_at_call 38;(with_reducible refine(spec_l01Below.calls g s0_0 x1001_6 x1002_6 3 t182 t183 t184 w0 _ ?side1 ?side2 A15.out).mono ?_)));(case side1=>exact z2_4);(case side2=>exact z2_3);rintro e w45 ⟨rfl,hi,hb,hk⟩;(first|refine⟨_,rfl,?_⟩|skip);replace HO_7:=Za (Yc (Kd.R_keep (IsS82.apart (show IsS82 w0 _ g s0_0 x1001_6 x1002_6 from by repeat(first|(with_reducible first|exact HI0.out|apply IsS82.alloc|apply IsS82.drewN|apply IsS82.drew|apply IsS82.set_1|apply IsS82.set_2)|exact HI0.out)) z2_12 (by decide)) hk (fun _ h=>h.2)) (fun _ h=>h.1));replace HK:=Za (KeepBut.trans z2_1 hk (.inl rfl));replace HB:=Za (hb);replace HI0:=Za (hi);(try clear hb);(try clear hb2);(try clear hk);(try clear hi))|((with_reducible refine Zr (N:=9) rfl ?_);(try(refine gate_guard (by rfl) ?_;dsimp only));refine Zy ?hg (N:=9) ?hd (cs:= #[.int .i64 0,.int .i64 0,.int .i64 0,.int .i64 0,.int .i64 0,.int .i64 0]) (t:=93) ?hr ?_;(case hd=>rfl);(case hg=>rfl);(case hr=>exact z2_17);intro gb185 hg w46 hbox hb;replace HO_7:=Za (Kd.R_below (Kd.R_elderB z2_12 gb185 (Nat.le_of_eq hg.symm)) hb);replace HB:=Za (Zk z2_3 hb);have BK185:=Za (hbox);have GW185:=Za ((z2_28:w.heap.size≤gb185));have GE185:=Za ((Nat.le_trans HW0.out (z2_28:w.heap.size≤gb185):w0.heap.size≤gb185));replace HK:=Za (KeepBut.trans z2_1 (KeepBut.of_below hb g none) (.inl rfl));have NB0_185:=Za ((z2_22:g≠gb185));have NB185_0:=Za ((z2_24:gb185≠g));replace HI0:=Za (IsS82.below z2_4 hb);clear hb hbox hg;have hnb47:=NB185_0.out;have hnc47:=NB0_185.out;have hcz48_0:w46.cell? ⟨gb185,0,none⟩=some (.int .i64 0):=(Zb BK185.out 0).trans rfl;have hcz48_1:w46.cell? ⟨gb185,1,none⟩=some (.int .i64 0):=(Zb BK185.out 1).trans rfl;have hcz48_2:w46.cell? ⟨gb185,2,none⟩=some (.int .i64 0):=(Zb BK185.out 2).trans rfl;have hcz48_3:w46.cell? ⟨gb185,3,none⟩=some (.int .i64 0):=(Zb BK185.out 3).trans rfl;have hcz48_4:w46.cell? ⟨gb185,4,none⟩=some (.int .i64 0):=(Zb BK185.out 4).trans rfl;have hcz48_5:w46.cell? ⟨gb185,5,none⟩=some (.int .i64 0):=(Zb BK185.out 5).trans rfl;have hfz48_0:=Zc BK185.out 0;have hfz48_1:=Zc BK185.out 1;have hfz48_2:=Zc BK185.out 2;have hfz48_3:=Zc BK185.out 3;have hfz48_4:=Zc BK185.out 4;have hfz48_5:=Zc BK185.out 5)|((with_reducible refine Yq (t:=93) (p:=9) rfl ?_);refine Yp (t:=93) (p:=9) (v:= ?vo_w49) (w1:=((((((w46.setCell ⟨gb185,0,none⟩ (.int .i64 5)).setCell ⟨gb185,1,none⟩ (.int .i64 0)).setCell ⟨gb185,2,none⟩ (.int .i64 (wrap64 (1+t182)))).setCell ⟨gb185,3,none⟩ (.int .i64 0)).setCell ⟨gb185,4,none⟩ (.int .i64 0)).setCell ⟨gb185,5,none⟩ (.int .i64 0))) ?hg ?ho ?hn ?hr ?_;(case ho=>rfl);(case hg=>rfl);(case hn=>rfl);(case hr=>exact z2_17);intro w49 hw;have n0_:Aside0 (Kd.R k93 93 w49 w.heap.size (fun k_=>k_≠gb185) u7 x7_1):=⟨z2_14⟩;have n1_:Aside0 (w49.heap[gb185]? =some (.cells #[.int .i64 5,.int .i64 0,.int .i64 (wrap64 (1+t182)),.int .i64 0,.int .i64 0,.int .i64 0] 93 (0,0))):=⟨z2_10⟩;have n2_:Aside0 (IsS82 w0 w49 g s0_0 t183 t184):=⟨(by rw[hw];exact z2_5)⟩;have n3_:Aside0 (KeepBut w w49 g none):=⟨(by rw[hw];exact z2_2)⟩;have n4_:Aside0 (Below w0.heap.size w0 w49):=⟨(by rw[hw];exact z2_6)⟩;clear hw;clear HO_7;clear BK185;clear HI0;clear HK;clear HB;have HO_7:=n0_;have BK185:=n1_;have HI0:=n2_;have HK:=n3_;have HB:=n4_;clear n0_ n1_ n2_ n3_ n4_)|((first|((with_reducible refine gate_callee (f:=120) rfl ?_);refine goesL_ (some 32) rfl rfl Tryz.func120 z2_21 rfl #[.pointer (some ⟨g,0,none⟩),.int .i64 2] rfl z2_0 ?_;(with_reducible refine(spec_l01Once.calls g s0_0 t183 t184 2 false t187 t188 w0 _ ?side1 ?side2 A16.out).mono ?_))|(go_at_call 120;(with_reducible refine(spec_l01Once.calls g s0_0 t183 t184 2 false t187 t188 w0 _ ?side1 ?side2 A16.out).mono ?_)));(case side1=>exact z2_5);(case side2=>exact z2_6);rintro e w50 ⟨rfl,hi,hb,hk⟩;(first|refine⟨_,rfl,?_⟩|skip);replace HO_7:=Za (Yc (Kd.R_keep (IsS82.apart (show IsS82 w0 _ g s0_0 t183 t184 from by repeat(first|(with_reducible first|exact HI0.out|apply IsS82.alloc|apply IsS82.drewN|apply IsS82.drew|apply IsS82.set_1|apply IsS82.set_2|refine IsS82.far ?_ NB0_185.out _)|exact HI0.out)) z2_12 (by decide)) hk (fun _ h=>h.2)) (fun _ h=>h.1));replace BK185:=Za (KeepBut.blk hk (g':=gb185) (o:= .cells #[.int .i64 5,.int .i64 0,.int .i64 (wrap64 (1+t182)),.int .i64 0,.int .i64 0,.int .i64 0] 93 (0,0)) z2_7 NB185_0.out (by simp));replace HK:=Za (KeepBut.trans z2_2 hk (.inl rfl));replace HB:=Za (hb);replace HI0:=Za (hi);(try clear hb);(try clear hb2);(try clear hk);(try clear hi);have hcz51_0:w50.cell? ⟨gb185,0,none⟩=some (.int .i64 5):=(Zb BK185.out 0).trans rfl;have hcz51_1:w50.cell? ⟨gb185,1,none⟩=some (.int .i64 0):=(Zb BK185.out 1).trans rfl;have hcz51_2:w50.cell? ⟨gb185,2,none⟩=some (.int .i64 (wrap64 (1+t182))):=(Zb BK185.out 2).trans rfl;have hcz51_3:w50.cell? ⟨gb185,3,none⟩=some (.int .i64 0):=(Zb BK185.out 3).trans rfl;have hcz51_4:w50.cell? ⟨gb185,4,none⟩=some (.int .i64 0):=(Zb BK185.out 4).trans rfl;have hcz51_5:w50.cell? ⟨gb185,5,none⟩=some (.int .i64 0):=(Zb BK185.out 5).trans rfl;have hfz51_0:=Zc BK185.out 0;have hfz51_1:=Zc BK185.out 1;have hfz51_2:=Zc BK185.out 2;have hfz51_3:=Zc BK185.out 3;have hfz51_4:=Zc BK185.out 4;have hfz51_5:=Zc BK185.out 5)|((with_reducible refine gate_builtin (b:= .append) (xs:= #[.tmp 36,.tmp 38]) rfl ?_);(try(refine gate_guard (by rfl) ?_;dsimp only));at_builtin;refine Kd.R_append k93 w.heap.size rfl (.tmp 36) (.tmp 38) 70 93 (.agg #[(.int .i64 0),(.int .i64 0),(.int .i64 0),(.int .i64 0),(.int .i64 0),(.int .i64 0)]) 48 rfl Tryz.underlying70 info93 rfl (by decide) (by omega) u7 x7_1 (⟨5,0,wrap64 (1+t182),(⟨0,0,0⟩:S72)⟩:S93) [.int .i64 5,.int .i64 0,.int .i64 (wrap64 (1+t182)),.int .i64 0,.int .i64 0,.int .i64 0] (fun k_=>k_≠gb185) (fun _=>False) rfl rfl ?aP (fun _ hk=>hk.elim) ?aF ?aO (Yb _ _) ?aS ?aL ?_;(case aP=>exact k93_mkM _ _ _ (⟨5,0,wrap64 (1+t182),(⟨0,0,0⟩:S72)⟩:S93));(case aF=>exact(fun k_ hk=>Kd.freshB (g:=gb185) (o:= .cells #[.int .i64 5,.int .i64 0,.int .i64 (wrap64 (1+t182)),.int .i64 0,.int .i64 0,.int .i64 0] 93 (0,0)) z2_7 k_ hk));(case aO=>exact z2_12);(case aS=>exact z2_31);(case aL=>have:=LMc40.out;omega);intro v212 w52 ho hb hg hat;rw[←Ny211.out] at ho;have n0_:=Za (IsS82.grown z2_5 hg (IsS82.own_ne HI0.out HO_7.out (by decide)));have n1_:=Za (blk_grown (g:=gb185) (o:= .cells #[.int .i64 5,.int .i64 0,.int .i64 (wrap64 (1+t182)),.int .i64 0,.int .i64 0,.int .i64 0] 93 (0,0)) z2_7 hg (Kd.R_away HO_7.out (fun _ hk=>hk)));have n2_:=Za (below_weaken z2_6 HL.out hb);have n3_:=Za (KeepBut.trans z2_2 (KeepBut.of_grown hg g) (Kd.R_base2 HO_7.out));have n4_:=Za (ho);clear HI0;clear BK185;clear HB;clear HK;clear HO_7;have HI0:=n0_;have BK185:=n1_;have HB:=n2_;have HK:=n3_;have HO213:=n4_;clear n0_ n1_ n2_ n3_ n4_;clear ho hb hg hat)|((first|((with_reducible refine gate_callee (f:=38) rfl ?_);refine goesL_ (some 43) rfl rfl Tryz.func38 z2_21 rfl #[.pointer (some ⟨g,0,none⟩),.int .i64 2] rfl z2_0 ?_;(with_reducible refine(spec_l01Below.calls g s0_0 t187 t188 2 t214 t215 t216 w0 _ ?side1 ?side2 A41.out).mono ?_))|(go_at_call 38;(with_reducible refine(spec_l01Below.calls g s0_0 t187 t188 2 t214 t215 t216 w0 _ ?side1 ?side2 A41.out).mono ?_)));(case side1=>exact z2_5);(case side2=>exact z2_6);rintro e w53 ⟨rfl,hi,hb,hk⟩;(first|refine⟨_,rfl,?_⟩|skip);replace BK185:=Za (KeepBut.blk hk (g':=gb185) (o:= .cells #[.int .i64 5,.int .i64 0,.int .i64 (wrap64 (1+t182)),.int .i64 0,.int .i64 0,.int .i64 0] 93 (0,0)) z2_7 NB185_0.out (by simp));replace HO213:=Za (Yc (Kd.R_keep (IsS82.apart (show IsS82 w0 _ g s0_0 t187 t188 from by repeat(first|(with_reducible first|exact HI0.out|apply IsS82.alloc|apply IsS82.drewN|apply IsS82.drew|apply IsS82.set_1|apply IsS82.set_2|refine IsS82.far ?_ NB0_185.out _)|exact HI0.out)) (by(with_reducible repeat(first|apply Zm|apply Zl|apply Zj));exact HO213.out) (by decide)) hk (fun _ h=>h.2)) (fun _ h=>h.1));replace HK:=Za (KeepBut.trans z2_2 hk (.inl rfl));replace HB:=Za (hb);replace HI0:=Za (hi);(try clear hb);(try clear hb2);(try clear hk);(try clear hi))|((first|((with_reducible refine gate_callee (f:=91) rfl ?_);refine goesL_ (some 47) rfl rfl Tryz.func91 z2_21 rfl #[.pointer (some ⟨g,0,none⟩),.int .i64 (wrap64 (1+t214)),.int .i64 (wrap64 (a2+1))] rfl z2_0 ?_;(with_reducible refine(ih kj6 (by have:=HK1.out;have:=HJ6.out;omega) g s0_0 t215 t216 (wrap64 (1+t214)) (wrap64 (a2+1)) t217 t220 t221 w0 _ ?side1 ?side2 A42.out).mono ?_))|(go_at_call 91;(with_reducible refine(ih kj6 (by have:=HK1.out;have:=HJ6.out;omega) g s0_0 t215 t216 (wrap64 (1+t214)) (wrap64 (a2+1)) t217 t220 t221 w0 _ ?side1 ?side2 A42.out).mono ?_)));(case side1=>exact z2_5);(case side2=>exact z2_6);rintro e w54 ⟨v218,rfl,ho0,hi,hb,hk⟩;(first|refine⟨_,rfl,?_⟩|skip);have HO219:=Za (Yr (Kd.R_newB (Kd.R_new' ho0 (Kd.R_lt (by(with_reducible repeat(first|apply Zm|apply Zl|apply Zj));exact HO213.out))) (g:=gb185) (o:= .cells #[.int .i64 5,.int .i64 0,.int .i64 (wrap64 (1+t182)),.int .i64 0,.int .i64 0,.int .i64 0] 93 (0,0)) z2_7) (keep_size (w:=w) (g:=g) (row:=none) z2_2));replace BK185:=Za (KeepBut.blk hk (g':=gb185) (o:= .cells #[.int .i64 5,.int .i64 0,.int .i64 (wrap64 (1+t182)),.int .i64 0,.int .i64 0,.int .i64 0] 93 (0,0)) z2_7 NB185_0.out (by simp));replace HO213:=Za (Yc (Kd.R_told (Kd.R_oldK (IsS82.apart (show IsS82 w0 _ g s0_0 t215 t216 from by repeat(first|(with_reducible first|exact HI0.out|apply IsS82.alloc|apply IsS82.drewN|apply IsS82.drew|apply IsS82.set_1|apply IsS82.set_2|refine IsS82.far ?_ NB0_185.out _)|exact HI0.out)) (by(with_reducible repeat(first|apply Zm|apply Zl|apply Zj));exact HO213.out) (by decide)) hk) (Ye ho0)) (fun _ h_=>h_.1));replace HK:=Za (KeepBut.trans z2_2 hk (.inl rfl));replace HB:=Za (hb);replace HI0:=Za (hi);(try clear hb);(try clear hb2);(try clear hk);(try clear hi);(try clear ho0);obtain⟨Ao56,co56,eo56⟩:=Yn HO219.out;subst eo56)|((with_reducible refine gate_builtin (b:= .append) (xs:= #[.tmp 40,.tmp 47]) rfl ?_);(try(refine gate_guard (by rfl) ?_;dsimp only));at_builtin;refine Kd.R_append_rows k93 w.heap.size rfl (.tmp 40) (.tmp 47) 70 93 (.agg #[(.int .i64 0),(.int .i64 0),(.int .i64 0),(.int .i64 0),(.int .i64 0),(.int .i64 0)]) 48 rfl Tryz.underlying70 info93 rfl (by decide) (by omega) v212 y211 t217 _ _ _ (fun k_=>some k_≠(.slice Ao56 t217.length co56:Value).ownBlock∧k_≠gb185) (fun _=>False) rfl rfl ?aO ?aR (fun _ _ h=>h) (fun _ h=>h.elim) ?aF (Yb _ _) ?aS ?aL ?_;(case aR=>repeat(first|exact(Ym HO219.out).2.2|(with_reducible refine Yk ?_ _)|(with_reducible refine Yi ?_ _)|(with_reducible refine Yl ?_)));(case aF=>exact z2_29);(case aO=>exact(by(with_reducible repeat(first|apply Zm|apply Zl|apply Zj));exact Yc HO213.out (fun _ hk=>⟨hk.2,hk.1⟩)));(case aS=>exact z2_31);(case aL=>have:=LMc43.out;omega);intro v223 w55 ho hb hg hat;rw[←Ny222.out] at ho;have n0_:=Za (IsS82.grown z2_5 hg (IsS82.own_ne HI0.out HO213.out (by decide)));have n1_:=Za (blk_grown (g:=gb185) (o:= .cells #[.int .i64 5,.int .i64 0,.int .i64 (wrap64 (1+t182)),.int .i64 0,.int .i64 0,.int .i64 0] 93 (0,0)) z2_7 hg (Kd.R_away HO213.out (fun _ hk=>hk.1)));have n2_:=Za (Kd.R_after (ok:=(fun k_=>k_≠gb185)) (by(with_reducible repeat(first|apply Zm|apply Zl|apply Zj));exact Yc HO219.out (fun _ hk=>⟨hk.2,hk.1.2⟩)) hg hat);have n3_:=Za (below_weaken z2_6 HL.out hb);have n4_:=Za (KeepBut.trans z2_2 (KeepBut.of_grown hg g) (Kd.R_base2 HO213.out));have n5_:=Za (ho);clear HI0;clear BK185;clear HO219;clear HB;clear HK;clear HO213;have HI0:=n0_;have BK185:=n1_;have HO219:=n2_;have HB:=n3_;have HK:=n4_;have HO224:=n5_;clear n0_ n1_ n2_ n3_ n4_ n5_;clear ho hb hg hat)|((with_reducible refine gate_builtin (b:= .append) (xs:= #[.tmp 49,.tmp 51]) rfl ?_);(try(refine gate_guard (by rfl) ?_;dsimp only));at_builtin;refine Kd.R_append k93 w.heap.size rfl (.tmp 49) (.tmp 51) 70 93 (.agg #[(.int .i64 0),(.int .i64 0),(.int .i64 0),(.int .i64 0),(.int .i64 0),(.int .i64 0)]) 48 rfl Tryz.underlying70 info93 rfl (by decide) (by omega) v223 y222 (⟨6,0,0,(⟨0,0,0⟩:S72)⟩:S93) [.int .i64 6,.int .i64 0,.int .i64 0,.int .i64 0,.int .i64 0,.int .i64 0] (fun k_=>some k_≠(.slice Ao56 t217.length co56:Value).ownBlock∧k_≠gb185) (fun _=>False) rfl rfl ?aP (fun _ hk=>hk.elim) ?aF ?aO (Yb _ _) ?aS ?aL ?_;(case aP=>exact k93_mkM _ _ _ (⟨6,0,0,(⟨0,0,0⟩:S72)⟩:S93));(case aF=>exact z2_29);(case aO=>exact(by(with_reducible repeat(first|apply Zm|apply Zl|apply Zj));exact HO224.out));(case aS=>exact z2_31);(case aL=>have:=LMc44.out;omega);intro v226 w57 ho hb hg hat;rw[←Ny225.out] at ho;have n0_:=Za (IsS82.grown z2_5 hg (IsS82.own_ne HI0.out HO224.out (by decide)));have n1_:=Za (blk_grown (g:=gb185) (o:= .cells #[.int .i64 5,.int .i64 0,.int .i64 (wrap64 (1+t182)),.int .i64 0,.int .i64 0,.int .i64 0] 93 (0,0)) z2_7 hg (Kd.R_away HO224.out (fun _ hk=>hk.2)));have n2_:=Za (Kd.R_after (ok:=(fun k_=>k_≠gb185)) (by(with_reducible repeat(first|apply Zm|apply Zl|apply Zj));exact HO219.out) hg hat);have n3_:=Za (below_weaken z2_6 HL.out hb);have n4_:=Za (KeepBut.trans z2_2 (KeepBut.of_grown hg g) (Kd.R_base2 HO224.out));have n5_:=Za (ho);clear HI0;clear BK185;clear HO219;clear HB;clear HK;clear HO224;have HI0:=n0_;have BK185:=n1_;have HO219:=n2_;have HB:=n3_;have HK:=n4_;have HO227:=n5_;clear n0_ n1_ n2_ n3_ n4_ n5_;clear ho hb hg hat))
           go_roundg kj6
           case measure=>have:=HK1.out;have:=HJ6.out;omega
           case rel=>exact⟨(y225),(wrap64 (x8_1+1)),(t220),(t221),z2_15,H',⟨by have:=HK1.out;have:=HJ6.out;omega⟩,⟨by(with_reducible repeat(first|apply Zm|apply Zl|apply Zj));exact Yc HO227.out (fun _ hk=>trivial)⟩,⟨by repeat(first|(with_reducible first|exact HI0.out|apply IsS82.alloc|apply IsS82.drewN|apply IsS82.drew|apply IsS82.set_1|apply IsS82.set_2|refine IsS82.far ?_ NB0_185.out _)|exact HI0.out)⟩,⟨by repeat(first|(with_reducible first|exact HK.out|apply KeepBut.set_|apply keep_drewN|apply keep_drew|apply keep_alloc|refine keep_far ?_ GW185.out _)|exact HK.out)⟩,⟨by repeat(first|(with_reducible first|exact HB.out|apply Zh|apply Zf|apply Ze|refine Zd ?_ (IsS82.ge HI0.out)|refine Zd ?_ GE185.out)|exact HB.out)⟩⟩
          ·rw[if_neg c44] at H
           exact absurd H (by simp)
         ·rw[if_neg c43] at H
          exact absurd H (by simp)
        ·rw[if_neg c40] at H
         exact absurd H (by simp)
      ·replace c14:=Bool.eq_false_iff.mpr c14
       subst c14
       have H1:((spec_l04Stmt.f kj6 s0_0 x1001_6 x1002_6).bind fun bt228=>(if x7_1.length<2932031007402 then (spec_l05Block.l0 kj6 a1 a2 (x7_1++[(⟨bt228.1,bt228.2.1,bt228.2.2.1,(⟨bt228.2.2.2.1,bt228.2.2.2.2.1,bt228.2.2.2.2.2.1⟩:S72)⟩:S93)]) (wrap64 (x8_1+1)) s0_0 bt228.2.2.2.2.2.2.1 bt228.2.2.2.2.2.2.2) else (none)))=some (r1,r2,r3):=by rw[if_neg (show ¬(false=true) by decide)] at H;exact H
       clear H
       have H:=H1
       clear H1
       replace H:=Zg H
       obtain⟨⟨t228,t229,t230,t231,t232,t233,t234,t235⟩,A580,H⟩:=H
       replace H:(if x7_1.length<2932031007402 then (spec_l05Block.l0 kj6 a1 a2 (x7_1++[(⟨t228,t229,t230,(⟨t231,t232,t233⟩:S72)⟩:S93)]) (wrap64 (x8_1+1)) s0_0 t234 t235) else (none))=some (r1,r2,r3):=H
       have A58:=Za A580
       clear A580
       by_cases c59:x7_1.length<2932031007402
       ·rw[if_pos c59] at H
        have LMc59:=Za c59
        clear c59
        obtain⟨y236,hy236⟩:∃y_:List (S93),y_=(x7_1++[(⟨t228,t229,t230,(⟨t231,t232,t233⟩:S72)⟩:S93)]):=⟨_,rfl⟩
        replace H:(spec_l05Block.l0 kj6 a1 a2 y236 (wrap64 (x8_1+1)) s0_0 t234 t235)=some (r1,r2,r3):=by first|(rw[hy236];with_reducible exact H)|(have H2_:=(Yd _ _).symm.trans H;rw[hy236];with_reducible exact H2_)|(have H2_:=(Yd _ _).symm.trans H;with_reducible exact H2_)|with_reducible exact H|(rw[hy236];exact H)|exact H
        have Ny236:=Za hy236
        clear hy236
        have H':=Za H
        clear H
        go_wp2_with (first|((first|((with_reducible refine gate_callee (f:=121) rfl ?_);refine goesL_ (some 55) rfl rfl Tryz.func121 z2_21 rfl #[.pointer (some ⟨g,0,none⟩)] rfl z2_0 ?_;(with_reducible refine(spec_l04Stmt.calls kj6 g s0_0 x1001_6 x1002_6 t228 t229 t230 t231 t232 t233 t234 t235 w0 _ ?side1 ?side2 A58.out).mono ?_))|(go_at_call 121;(with_reducible refine(spec_l04Stmt.calls kj6 g s0_0 x1001_6 x1002_6 t228 t229 t230 t231 t232 t233 t234 t235 w0 _ ?side1 ?side2 A58.out).mono ?_)));(case side1=>exact z2_4);(case side2=>exact z2_3);rintro e w60 ⟨rfl,hi,hb,hk⟩;(first|refine⟨_,rfl,?_⟩|skip);replace HO_7:=Za (Yc (Kd.R_keep (IsS82.apart (show IsS82 w0 _ g s0_0 x1001_6 x1002_6 from by repeat(first|(with_reducible first|exact HI0.out|apply IsS82.alloc|apply IsS82.drewN|apply IsS82.drew|apply IsS82.set_1|apply IsS82.set_2)|exact HI0.out)) z2_12 (by decide)) hk (fun _ h=>h.2)) (fun _ h=>h.1));replace HK:=Za (KeepBut.trans z2_1 hk (.inl rfl));replace HB:=Za (hb);replace HI0:=Za (hi);(try clear hb);(try clear hb2);(try clear hk);(try clear hi))|((with_reducible refine gate_builtin (b:= .append) (xs:= #[.tmp 53,.tmp 56]) rfl ?_);(try(refine gate_guard (by rfl) ?_;dsimp only));at_builtin;refine Kd.R_append k93 w.heap.size rfl (.tmp 53) (.tmp 56) 70 93 (.agg #[(.int .i64 0),(.int .i64 0),(.int .i64 0),(.int .i64 0),(.int .i64 0),(.int .i64 0)]) 48 rfl Tryz.underlying70 info93 rfl (by decide) (by omega) u7 x7_1 (⟨t228,t229,t230,(⟨t231,t232,t233⟩:S72)⟩:S93) [.int .i64 t228,.int .i64 t229,.int .i64 t230,.int .i64 t231,.int .i64 t232,.int .i64 t233] (fun _=>True) (fun _=>False) rfl rfl ?aP (fun _ hk=>hk.elim) ?aF ?aO (Yb _ _) ?aS ?aL ?_;(case aP=>exact k93_mkM _ _ _ (⟨t228,t229,t230,(⟨t231,t232,t233⟩:S72)⟩:S93));(case aF=>exact(fun _ _=>trivial));(case aO=>exact z2_12);(case aS=>exact(keep_size (w:=w) (g:=g) (row:=none) z2_1));(case aL=>have:=LMc59.out;omega);intro v237 w61 ho hb hg hat;rw[←Ny236.out] at ho;have n0_:=Za (IsS82.grown z2_4 hg (IsS82.own_ne HI0.out HO_7.out (by decide)));have n1_:=Za (below_weaken z2_3 HL.out hb);have n2_:=Za (KeepBut.trans z2_1 (KeepBut.of_grown hg g) (Kd.R_base2 HO_7.out));have n3_:=Za (ho);clear HI0;clear HB;clear HK;clear HO_7;have HI0:=n0_;have HB:=n1_;have HK:=n2_;have HO238:=n3_;clear n0_ n1_ n2_ n3_;clear ho hb hg hat))
        go_roundg kj6
        case measure=>have:=HK1.out;have:=HJ6.out;omega
        case rel=>exact⟨(y236),(wrap64 (x8_1+1)),(t234),(t235),z2_15,H',⟨by have:=HK1.out;have:=HJ6.out;omega⟩,⟨by(with_reducible repeat(first|apply Zm|apply Zl|apply Zj));exact HO238.out⟩,⟨by repeat(first|(with_reducible first|exact HI0.out|apply IsS82.alloc|apply IsS82.drewN|apply IsS82.drew|apply IsS82.set_1|apply IsS82.set_2)|exact HI0.out)⟩,⟨by repeat(first|(with_reducible first|exact HK.out|apply KeepBut.set_|apply keep_drewN|apply keep_drew|apply keep_alloc)|exact HK.out)⟩,⟨by repeat(first|(with_reducible first|exact HB.out|apply Zh|apply Zf|apply Ze|refine Zd ?_ (IsS82.ge HI0.out))|exact HB.out)⟩⟩
       ·rw[if_neg c59] at H
        exact absurd H (by simp)
   ·rw[if_neg c6] at H
    have c6b0:decide (x8_1<a1)=false:=Yg c6
    clear c6
    simp only[Option.some.injEq,Prod.mk.injEq] at H
    obtain⟨rfl,rfl,rfl⟩:=H
    go_wp2
    go_ret
    exact⟨_,by first|rfl|(simp[errW_none,errW_some]<;>rfl)|(simp[*,errW_none,errW_some]<;>rfl)|(simp[*,errW_none,errW_some,i64_w];done),by(with_reducible repeat(first|apply Zm|apply Zl|apply Zj));exact HO_7.out,by repeat(first|(with_reducible first|exact HI0.out|apply IsS82.alloc|apply IsS82.drewN|apply IsS82.drew|apply IsS82.set_1|apply IsS82.set_2)|exact HI0.out),by repeat(first|(with_reducible first|exact HB.out|apply Zh|apply Zf|apply Ze|refine Zd ?_ (IsS82.ge HI0.out))|exact HB.out),by repeat(first|(with_reducible first|exact HK.out|apply KeepBut.set_|apply keep_drewN|apply keep_drew|apply keep_alloc)|exact HK.out)⟩
def spec_l05Case.f (k:Nat) (s0_0:List Int) (s0_1:Int) (s0_2:Int):Option ((List (S93))×Int×Int):=(spec_l01Below.f s0_0 s0_1 s0_2 6).bind fun bt239=>((spec_l05Block.f k s0_0 bt239.2.1 bt239.2.2 bt239.1 0).bind fun bt242=>(some (bt242.1,bt242.2.1,bt242.2.2)))
theorem spec_l05Case.mono:∀a0 a1 a2 k,LeO (spec_l05Case.f k a0 a1 a2) (spec_l05Case.f (k+1) a0 a1 a2):=by
 intro a0 a1 a2 k
 unfold spec_l05Case.f
 repeat' first
   |(with_reducible exact spec_l05Block.mono _ _ _ _ _ _)
   |(with_reducible exact Yj _)
   |(with_reducible exact Ya _)
   |(with_reducible refine Zz ?_ ?_)
   |(with_reducible refine Zx ?_ (fun _=> ?_))
   |exact spec_l05Block.mono _ _ _ _ _ _
   |exact Ya _
   |refine Zz ?_ ?_
   |refine Zx ?_ (fun _=> ?_)
set_option maxHeartbeats 8000000 in
set_option maxRecDepth 100000 in
theorem spec_l05Case.calls (k:Nat) (g:Nat) (s0_0:List Int) (s0_1:Int) (s0_2:Int) (r1:List (S93)) (r2:Int) (r3:Int) (w0 w:World) (hI:IsS82 w0 w g s0_0 s0_1 s0_2) (hB:Below w0.heap.size w0 w) (h:spec_l05Case.f k s0_0 s0_1 s0_2=some (r1,r2,r3)):
  Calls Tryz.prog 58 #[.pointer (some ⟨g,0,none⟩)] w fun e w'=>∃v0_:Value,e= .returned (v0_)∧Kd.R k93 93 w' w.heap.size (fun _=>True) v0_ r1∧IsS82 w0 w' g s0_0 r2 r3∧Below w0.heap.size w0 w'∧KeepBut w w' g none:=by
 have HI0:=Za hI
 have HK:=Za (KeepBut.refl w g none)
 have HL:=Za hB.size
 clear hI
 have HW0:=Za hB.size
 have HB:=Za hB
 clear hB
 have H:((spec_l01Below.f s0_0 s0_1 s0_2 6).bind fun bt239=>((spec_l05Block.f k s0_0 bt239.2.1 bt239.2.2 bt239.1 0).bind fun bt242=>(some (bt242.1,bt242.2.1,bt242.2.2))))=some (r1,r2,r3):=h
 clear h
 replace H:=Zg H
 obtain⟨⟨t239,t240,t241⟩,A20,H⟩:=H
 replace H:((spec_l05Block.f k s0_0 t240 t241 t239 0).bind fun bt242=>(some (bt242.1,bt242.2.1,bt242.2.2)))=some (r1,r2,r3):=H
 have A2:=Za A20
 clear A20
 replace H:=Zg H
 obtain⟨⟨t242,t245,t246⟩,A30,H⟩:=H
 replace H:(some (t242,t245,t246))=some (r1,r2,r3):=H
 have A3:=Za A30
 clear A30
 simp only[Option.some.injEq,Prod.mk.injEq] at H
 obtain⟨rfl,rfl,rfl⟩:=H
 go_enter Tryz.func58,Tryz.ntmps58
 go_wp2_with (first|((first|((with_reducible refine gate_callee (f:=38) rfl ?_);refine goesL_ (some 5) rfl rfl Tryz.func38 z2_21 rfl #[.pointer (some ⟨g,0,none⟩),.int .i64 6] rfl z2_0 ?_;(with_reducible refine(spec_l01Below.calls g s0_0 s0_1 s0_2 6 t239 t240 t241 w0 _ ?side1 ?side2 A2.out).mono ?_))|(go_at_call 38;(with_reducible refine(spec_l01Below.calls g s0_0 s0_1 s0_2 6 t239 t240 t241 w0 _ ?side1 ?side2 A2.out).mono ?_)));(case side1=>exact z2_4);(case side2=>exact z2_3);rintro e w4 ⟨rfl,hi,hb,hk⟩;(first|refine⟨_,rfl,?_⟩|skip);replace HK:=Za (KeepBut.trans z2_1 hk (.inl rfl));replace HB:=Za (hb);replace HI0:=Za (hi);(try clear hb);(try clear hb2);(try clear hk);(try clear hi))|((first|((with_reducible refine gate_callee (f:=91) rfl ?_);refine goesL_ (some 6) rfl rfl Tryz.func91 z2_21 rfl #[.pointer (some ⟨g,0,none⟩),.int .i64 t239,.int .i64 0] rfl z2_0 ?_;(with_reducible refine(spec_l05Block.calls k g s0_0 t240 t241 t239 0 t242 t245 t246 w0 _ ?side1 ?side2 A3.out).mono ?_))|(go_at_call 91;(with_reducible refine(spec_l05Block.calls k g s0_0 t240 t241 t239 0 t242 t245 t246 w0 _ ?side1 ?side2 A3.out).mono ?_)));(case side1=>exact z2_4);(case side2=>exact z2_3);rintro e w5 ⟨v243,rfl,ho0,hi,hb,hk⟩;(first|refine⟨_,rfl,?_⟩|skip);have HO244:=Za (Yr ho0 (keep_size (w:=w) (g:=g) (row:=none) z2_1));replace HK:=Za (KeepBut.trans z2_1 hk (.inl rfl));replace HB:=Za (hb);replace HI0:=Za (hi);(try clear hb);(try clear hb2);(try clear hk);(try clear hi);(try clear ho0)))
 go_ret
 exact⟨_,by first|rfl|(simp[errW_none,errW_some]<;>rfl)|(simp[*,errW_none,errW_some]<;>rfl)|(simp[*,errW_none,errW_some,i64_w];done),by(with_reducible repeat(first|apply Zm|apply Zl|apply Zj));exact HO244.out,by repeat(first|(with_reducible first|exact HI0.out|apply IsS82.alloc|apply IsS82.drewN|apply IsS82.drew|apply IsS82.set_1|apply IsS82.set_2)|exact HI0.out),by repeat(first|(with_reducible first|exact HB.out|apply Zh|apply Zf|apply Ze|refine Zd ?_ (IsS82.ge HI0.out))|exact HB.out),by repeat(first|(with_reducible first|exact HK.out|apply KeepBut.set_|apply keep_drewN|apply keep_drew|apply keep_alloc)|exact HK.out)⟩
end Go.Proofs.YtjgfldbogjipiaaGreat.G
