/- Functions of the program as plain Lean functions, and that each call comes to its function's answer; written by a program of the session. No condition. -/
import Derived.Test.YtlolppaddphpoaaGx0
import Derived.Test.YtlolppaddphpoaaGx7
import Derived.Test.YtlolppaddphpoaaGx8
namespace Go.Proofs.Ytlolppaddphpoaa.G
open Go.RowKit Go.Proofs.YtlolppaddphpoaaW.PrintWords Go.Proofs.YtlolppaddphpoaaW.PrintLast Go.Proofs.YtlolppaddphpoaaW.PrintMore
attribute [local go_sem] max2_int min2_int max_two min_two max_three min_three max_four min_four   -- for this text's walks alone
set_option linter.unusedVariables false
set_option linter.unusedSimpArgs false
theorem z9_0 {P:Prop} (h:P:=by repeat(first|exact(Yb HR0.out (by repeat(first|(with_reducible first|exact HB.out|apply Zh|apply Ze|apply Zd|refine Zf ?_ GE288.out)|exact HB.out)))|(with_reducible refine Yd ?_ _)|(with_reducible refine Ye ?_ _)|(with_reducible refine Yf ?_))):P:=h
theorem z9_1 {P:Prop} (h:P:=by repeat(first|exact(Yb HR0.out HB.out)|(with_reducible refine Yd ?_ _)|(with_reducible refine Ye ?_ _)|(with_reducible refine Yf ?_))):P:=h
theorem z9_2 {P:Prop} (h:P:=by repeat(first|(with_reducible first|exact HB.out|apply Zh|apply Ze|apply Zd|refine Zf ?_ GE288.out)|exact HB.out)):P:=h
theorem z9_3 {P:Prop} (h:P:=by repeat(first|(with_reducible first|exact HB.out|apply Zh|apply Ze|apply Zd)|exact HB.out)):P:=h
theorem z9_4 {P:Prop} (h:P:=by(try simp only[Yn,List.map_cons,List.map_nil]);first|done|rfl|(simp only[List.length_drop,List.length_take];rfl)):P:=h
theorem z9_5 {P:Prop} (h:P:=by repeat(first|(with_reducible first|exact HB.out|apply Zh|apply Ze|apply Zd|refine Zf ?_ GE298.out)|exact HB.out)):P:=h
theorem z9_6 {P:Prop} (h:P:=by first|(with_reducible assumption)|assumption):P:=h
theorem z9_7 {P:Prop} (h:P:=by exact HC0.out):P:=h
theorem z9_8 {P:Prop} (h:P:=by first|rfl|(simp;done)|(simp[*];done)):P:=h
theorem z9_9 {P:Prop} (h:P:=by first|(go_simp;done)|(go_simp;rfl)):P:=h
theorem z9_10 {P:Prop} (h:P:=by repeat(first|exact(Yb HR0_0.out HB.out)|(with_reducible refine Yd ?_ _)|(with_reducible refine Ye ?_ _)|(with_reducible refine Yf ?_))):P:=h
theorem z9_11 {P:Prop} (h:P:=by(with_reducible repeat(first|refine blk_drewN ?_ _|refine blk_drew ?_|refine blk_alloc ?_ _));exact BK298.out):P:=h
theorem z9_12 {P:Prop} (h:P:=by(with_reducible repeat(first|refine blk_drewN ?_ _|refine blk_drew ?_|refine blk_alloc ?_ _));exact BK288.out):P:=h
theorem z9_13 {P:Prop} (h:P:=by rw[hg];exact(Zw z9_3)):P:=h
def slices_Clone_int_int.f (l0:List Int):Option (List Int):=if l0.length<17592186044416 then some l0 else none
set_option maxHeartbeats 8000000 in
set_option maxRecDepth 100000 in
theorem slices_Clone_int_int.calls (A0:Option Addr) (c0:Nat) (l0:List Int) (r:List Int) (w:World) (hr0:Kd.C (Kd.int .i64) w A0 l0.length l0) (hc0:l0.length≤c0) (h:slices_Clone_int_int.f l0=some r):
  Calls Try.prog 50 #[.slice A0 l0.length c0] w fun e w'=>∃v0_:Value,e= .returned (v0_)∧Kd.R (Kd.int .i64) 3 w' w.heap.size (fun _=>True) v0_ r∧Below w.heap.size w w':=by
 have HR0:=Za hr0
 have HC0:=Za hc0
 have HB:=Za (Ya w.heap.size w)
 unfold slices_Clone_int_int.f at h
 by_cases hl:l0.length<17592186044416
 ·rw[if_pos hl] at h
  obtain rfl:=Zj h
  clear h
  obtain⟨y0,hy0⟩:∃y_:List Int,y_=([]:List Int):=⟨_,rfl⟩
  obtain⟨y1,hy1⟩:∃y_:List Int,y_=y0++l0:=⟨_,rfl⟩
  have hl2:y0.length+l0.length<17592186044416:=by
   rw[hy0]
   simpa using hl
  have e1:y1=l0:=by rw[hy1,hy0,List.nil_append]
  have LM:=Za hl2
  have N0:=Za hy0
  have N1:=Za hy1
  have E1:=Za e1
  clear hl2 hy0 hy1 e1
  cases A0 with
  |none=>
   have l0e:l0=[]:=by
    cases l0 with
    |nil=>rfl
    |cons x t=>
     obtain⟨ad,e,_⟩:=hr0.2.2 (by simp)
     cases e
   subst l0e
   have he:∀w:World,(binOp .eql 25 (.slice none 0 c0) (.slice none 0 0)).run Try.prog w= .ok (.bool true) w:=fun _=>rfl
   go_enter Try.func50,Try.ntmps50
   go_wp2
   go_ret
   exact⟨_,rfl,Kd.R_nil _ _ _ _ _,HB.out⟩
  |some a0=>
   have he:∀w:World,(binOp .eql 25 (.slice (some a0) l0.length c0) (.slice none 0 0)).run Try.prog w= .ok (.bool false) w:=fun _=>rfl
   go_enter Try.func50,Try.ntmps50
   go_wp2_with (first|((with_reducible refine Zp (N:=5) rfl ?_);refine Kd.R_lit (Kd.int .i64) _ 3 ?hg (N:=5) ?hd (xs:=([]:List Int)) (inner:=[]) (ok:=fun _=>True) (okp:=fun _=>True) ?hr ?hp (fun _ hk=>hk) trivial (Ya _ _) (Nat.le_refl _) (by simp) ?_;(case hd=>rfl);(case hg=>rfl);(case hr=>exact z9_9);(case hp=>exact(Reps.none _ _));intro v196 w5 ho6 hb hg_ hnew_;clear hg_ hnew_;rw[←N0.out] at ho6;have HO197:=Za ho6;have n1_:=Za (Zi HB.out hb);clear HB;have HB:=n1_;clear n1_;clear hb ho6)|((with_reducible refine gate_builtin (b:= .append) (xs:= #[.tmp 5,.tmp 6]) rfl ?_);at_builtin;refine Kd.R_append_rows (Kd.int .i64) (w0:=w) w.heap.size rfl (.tmp 5) (.tmp 6) 25 3 (.int .i64 0) 8 rfl Try.underlying25 info3 rfl (by decide) (by omega) v196 y0 l0 _ _ _ (fun _=>True) (fun _=>False) rfl rfl ?aO ?aR (fun _ _ h=>h) (fun _ h=>h.elim) ?aF ?aB ?aS ?aL ?_;(case aR=>exact z9_1);(case aB=>exact z9_3);(case aF=>exact(fun _ _=>trivial));(case aO=>exact(by(with_reducible repeat(first|apply Zy|apply Zz|apply Zx));exact HO197.out));(case aS=>exact(Zw z9_3));(case aL=>have:=LM.out;omega);intro v199 w7 ho hb hg hat;rw[←N1.out] at ho;replace HB:=Za (hb);have HO200:=Za (ho);clear ho hb hg hat))
   go_ret
   exact⟨_,rfl,by rw[←E1.out];repeat(first|exact HO200.out|apply Zy|apply Zz|apply Zx),by repeat(first|(with_reducible first|exact HB.out|apply Zh|apply Ze|apply Zd)|exact HB.out)⟩
 ·rw[if_neg hl] at h
  exact absurd h (by simp)
/-! ### impl_endOf: function 73 -/
mutual
def impl_endOf.l0:Nat→List (S80)→Int→Int→Option (Int)
 |0,_,_,_=>none
 |k+1,x0,x5,x6=>if x6<(x0.length:Int) then (if 0≤x6 then ((impl_isOpening.f ((rd_T80 x0 x6).f0)).bind fun t275=>(if t275=true then (impl_endOf.j1 k x0 (wrap64 (x5+1)) x6) else (impl_endOf.j1 k x0 x5 x6))) else (none)) else (some (-1))
def impl_endOf.j1:Nat→List (S80)→Int→Int→Option (Int)
 |0,_,_,_=>none
 |k+1,x0,x5,x6=>if 0≤x6 then (if x6<(x0.length:Int) then (if ((rd_T80 x0 x6).f0)=6 then (if (wrap64 (x5 - 1))=0 then (some x6) else (impl_endOf.l0 k x0 (wrap64 (x5 - 1)) (wrap64 (x6+1)))) else (if x5=0 then (some x6) else (impl_endOf.l0 k x0 x5 (wrap64 (x6+1))))) else (none)) else (none)
end
def impl_endOf.f (k:Nat) (l0:List (S80)) (a1:Int):Option (Int):=impl_endOf.l0 k l0 0 a1
set_option maxHeartbeats 8000000 in
set_option maxRecDepth 100000 in
theorem impl_endOf.calls (k:Nat) (A0:Option Addr) (c0:Nat) (l0:List (S80)) (a1:Int) (r:Int) (w:World) (hr0:Kd.C k80 w A0 l0.length l0) (hc0:l0.length≤c0) (h:impl_endOf.f k l0 a1=some r):
  Calls Try.prog 73 #[.slice A0 l0.length c0,.int .i64 a1] w fun e w'=>e= .returned (.int .i64 r)∧Drawn0 w w':=by
 have HR0:=Za hr0
 have HC0:=Za hc0
 clear hr0 hc0
 have H:(impl_endOf.l0 k l0 0 a1)=some r:=h
 clear h
 have H':=Za H
 clear H
 go_enter Try.func73,Try.ntmps73
 go_wp2
 go_loopg [5,6] k (fun kq v5 v6 w'=>∃(x5_1:Int) (x6_1:Int),v5= .int .i64 x5_1∧v6= .int .i64 x6_1∧Aside0 (impl_endOf.l0 kq l0 x5_1 x6_1=some r)∧Aside0 (kq≤k)∧Drawn0 w w')
 case atStart=>exact⟨(0),(a1),z9_8,z9_8,H',⟨Nat.le_refl _⟩,by repeat(first|exact Zu _|apply Zv)⟩
 case round=>
  clear H'
  obtain⟨x5_1,x6_1,rfl,rfl,HA,HK1,⟨m1,rfl⟩⟩:=hrel
  cases gk with
  |zero=>exact absurd HA.out (by simp[impl_endOf.l0])
  |succ k1=>
   have H:=HA.out
   clear HA
   simp only[impl_endOf.l0] at H
   by_cases c3:x6_1<(l0.length:Int)
   ·rw[if_pos c3] at H
    have c3b0:decide (x6_1<(l0.length:Int))=true:=Zt c3
    clear c3
    by_cases c4:0≤x6_1
    ·rw[if_pos c4] at H
     have c4b0:decide (0≤x6_1)=true:=Zt c4
     clear c4
     replace H:=Zl H
     obtain⟨t275,A50,H⟩:=H
     replace H:(if t275=true then (impl_endOf.j1 k1 l0 (wrap64 (x5_1+1)) x6_1) else (impl_endOf.j1 k1 l0 x5_1 x6_1))=some r:=H
     have A5:=Za A50
     clear A50
     have HC6:=Za H
     clear H
     have p274:0≤(x6_1:Int):=Zs z9_6
     have q274:x6_1<(l0.length:Int):=Zs z9_6
     obtain⟨ad274,e274,hx274_0,hx274_1,hx274_2,hx274_3,hx274_4,hx274_5⟩:=at_T80 HR0.out x6_1 p274 q274
     cases e274
     replace p274:=eq_true p274
     replace q274:=eq_true q274
     go_upto_if 19 with(first|((first|((with_reducible refine gate_callee (f:=72) rfl ?_);refine goesL_ (some 19) rfl rfl Try.func72 (by kernel_rfl) rfl #[.int .i64 ((rd_T80 l0 x6_1).f0)] rfl z9_4 ?_;(with_reducible refine(impl_isOpening.calls ((rd_T80 l0 x6_1).f0) t275 _ A5.out).mono ?_))|(go_at_call 72;(with_reducible refine(impl_isOpening.calls ((rd_T80 l0 x6_1).f0) t275 _ A5.out).mono ?_)));rintro e w' ⟨rfl,⟨nd,rfl⟩⟩;(first|refine⟨_,rfl,?_⟩|skip)))
     (try simp only[Act.put,Zm,Zn,Zo])
     go_cut [5] (fun v5 wc=>∃(kq:Nat) (x5_5:Int),v5= .int .i64 x5_5∧Aside0 (impl_endOf.j1 kq l0 x5_5 x6_1=some r)∧Aside0 (kq≤k1)∧Drawn0 w wc)
     case first=>
      have H:=HC6.out
      clear HC6
      by_cases c7:t275=true
      ·subst c7
       rw[if_pos rfl] at H
       have H':=Za H
       clear H
       go_wp2
       go_meet
       case rel=>exact⟨_,(wrap64 (x5_1+1)),z9_8,H',⟨by have:=HK1.out;first|omega|exact Nat.le_refl _⟩,by repeat(first|exact Zu _|apply Zv)⟩
      ·replace c7:=Bool.eq_false_iff.mpr c7
       subst c7
       rw[if_neg (show ¬(false=true) by decide)] at H
       have H':=Za H
       clear H
       go_wp2
       go_meet
       case rel=>exact⟨_,(x5_1),z9_8,H',⟨by have:=HK1.out;first|omega|exact Nat.le_refl _⟩,by repeat(first|exact Zu _|apply Zv)⟩
     case rest=>
      clear HC6
      (try clear c3);(try clear c3b0);(try clear c4);(try clear c4b0);(try clear hx274_0);(try clear hx274_1);(try clear hx274_2);(try clear hx274_3);(try clear hx274_4);(try clear hx274_5);(try clear p274);(try clear q274)
      obtain⟨kq,x5_5,rfl,HA,HJ5,⟨mc5,rfl⟩⟩:=hcut
      cases kq with
      |zero=>exact absurd HA.out (by simp[impl_endOf.j1])
      |succ kj5=>
       have H:=HA.out
       clear HA
       simp only[impl_endOf.j1] at H
       by_cases c8:0≤x6_1
       ·rw[if_pos c8] at H
        have c8b0:decide (0≤x6_1)=true:=Zt c8
        clear c8
        by_cases c9:x6_1<(l0.length:Int)
        ·rw[if_pos c9] at H
         have c9b0:decide (x6_1<(l0.length:Int))=true:=Zt c9
         clear c9
         by_cases c10:((rd_T80 l0 x6_1).f0)=6
         ·rw[if_pos c10] at H
          have c10b0:(((rd_T80 l0 x6_1).f0)==6)=true:=beq_iff_eq.mpr c10
          have c10b1:(((rd_T80 l0 x6_1).f0) != 6)=false:=bne_eq_false_iff_eq.mpr c10
          clear c10
          by_cases c11:(wrap64 (x5_5 - 1))=0
          ·rw[if_pos c11] at H
           have c11b0:((wrap64 (x5_5 - 1))==0)=true:=beq_iff_eq.mpr c11
           have c11b1:((wrap64 (x5_5 - 1)) != 0)=false:=bne_eq_false_iff_eq.mpr c11
           clear c11
           obtain rfl:=Zj H
           have p276:0≤(x6_1:Int):=Zs z9_6
           have q276:x6_1<(l0.length:Int):=Zs z9_6
           obtain⟨ad276,e276,hx276_0,hx276_1,hx276_2,hx276_3,hx276_4,hx276_5⟩:=at_T80 HR0.out x6_1 p276 q276
           obtain rfl:ad274=ad276:=(by injection e276)
           replace p276:=eq_true p276
           replace q276:=eq_true q276
           go_wp2
           go_ret
           exact⟨by first|rfl|(simp;done)|(simp[*];done),by repeat(first|exact Zu _|apply Zv)⟩
          ·rw[if_neg c11] at H
           have c11b0:((wrap64 (x5_5 - 1))==0)=false:=beq_eq_false_iff_ne.mpr c11
           have c11b1:((wrap64 (x5_5 - 1)) != 0)=true:=bne_iff_ne.mpr c11
           have H':=Za H
           clear H
           have p276:0≤(x6_1:Int):=Zs z9_6
           have q276:x6_1<(l0.length:Int):=Zs z9_6
           obtain⟨ad276,e276,hx276_0,hx276_1,hx276_2,hx276_3,hx276_4,hx276_5⟩:=at_T80 HR0.out x6_1 p276 q276
           obtain rfl:ad274=ad276:=(by injection e276)
           replace p276:=eq_true p276
           replace q276:=eq_true q276
           go_wp2
           go_roundg kj5
           case measure=>have:=HK1.out;have:=HJ5.out;omega
           case rel=>exact⟨(wrap64 (x5_5 - 1)),(wrap64 (x6_1+1)),z9_8,z9_8,H',⟨by have:=HK1.out;have:=HJ5.out;omega⟩,by repeat(first|exact Zu _|apply Zv)⟩
         ·rw[if_neg c10] at H
          have c10b0:(((rd_T80 l0 x6_1).f0)==6)=false:=beq_eq_false_iff_ne.mpr c10
          have c10b1:(((rd_T80 l0 x6_1).f0) != 6)=true:=bne_iff_ne.mpr c10
          by_cases c12:x5_5=0
          ·rw[if_pos c12] at H
           have c12b0:(x5_5==0)=true:=beq_iff_eq.mpr c12
           have c12b1:(x5_5 != 0)=false:=bne_eq_false_iff_eq.mpr c12
           clear c12
           obtain rfl:=Zj H
           have p276:0≤(x6_1:Int):=Zs z9_6
           have q276:x6_1<(l0.length:Int):=Zs z9_6
           obtain⟨ad276,e276,hx276_0,hx276_1,hx276_2,hx276_3,hx276_4,hx276_5⟩:=at_T80 HR0.out x6_1 p276 q276
           obtain rfl:ad274=ad276:=(by injection e276)
           replace p276:=eq_true p276
           replace q276:=eq_true q276
           go_wp2
           go_ret
           exact⟨by first|rfl|(simp;done)|(simp[*];done),by repeat(first|exact Zu _|apply Zv)⟩
          ·rw[if_neg c12] at H
           have c12b0:(x5_5==0)=false:=beq_eq_false_iff_ne.mpr c12
           have c12b1:(x5_5 != 0)=true:=bne_iff_ne.mpr c12
           have H':=Za H
           clear H
           have p276:0≤(x6_1:Int):=Zs z9_6
           have q276:x6_1<(l0.length:Int):=Zs z9_6
           obtain⟨ad276,e276,hx276_0,hx276_1,hx276_2,hx276_3,hx276_4,hx276_5⟩:=at_T80 HR0.out x6_1 p276 q276
           obtain rfl:ad274=ad276:=(by injection e276)
           replace p276:=eq_true p276
           replace q276:=eq_true q276
           go_wp2
           go_roundg kj5
           case measure=>have:=HK1.out;have:=HJ5.out;omega
           case rel=>exact⟨(x5_5),(wrap64 (x6_1+1)),z9_8,z9_8,H',⟨by have:=HK1.out;have:=HJ5.out;omega⟩,by repeat(first|exact Zu _|apply Zv)⟩
        ·rw[if_neg c9] at H
         exact absurd H (by simp)
       ·rw[if_neg c8] at H
        exact absurd H (by simp)
    ·rw[if_neg c4] at H
     exact absurd H (by simp)
   ·rw[if_neg c3] at H
    have c3b0:decide (x6_1<(l0.length:Int))=false:=Yc c3
    clear c3
    obtain rfl:=Zj H
    go_wp2
    go_ret
    exact⟨by first|rfl|(simp;done)|(simp[*];done),by repeat(first|exact Zu _|apply Zv)⟩
def impl_bit.f (a0:Bool):Option (Int):=if a0=true then (some 1) else (some 0)
set_option maxHeartbeats 8000000 in
set_option maxRecDepth 100000 in
theorem impl_bit.calls (a0:Bool) (r:Int) (w:World) (h:impl_bit.f a0=some r):
  Calls Try.prog 74 #[.bool a0] w fun e w'=>e= .returned (.int .i64 r)∧Drawn0 w w':=by
 have H:(if a0=true then (some 1) else (some 0))=some r:=h
 clear h
 by_cases c2:a0=true
 ·subst c2
  rw[if_pos rfl] at H
  obtain rfl:=Zj H
  go_enter Try.func74,Try.ntmps74
  go_wp2
  go_ret
  exact⟨by first|rfl|(simp;done)|(simp[*];done),by repeat(first|exact Zu _|apply Zv)⟩
 ·replace c2:=Bool.eq_false_iff.mpr c2
  subst c2
  rw[if_neg (show ¬(false=true) by decide)] at H
  obtain rfl:=Zj H
  go_enter Try.func74,Try.ntmps74
  go_wp2
  go_ret
  exact⟨by first|rfl|(simp;done)|(simp[*];done),by repeat(first|exact Zu _|apply Zv)⟩
theorem heapStmt:Kd.Heap k80:=Kd.heap_iso _ (Kd.heap_pair (Kd.heap_int .i64) (Kd.heap_pair (Kd.heap_int .i64) (Kd.heap_pair (Kd.heap_int .i64) (Kd.heap_iso _ (Kd.heap_pair (Kd.heap_int .i64) (Kd.heap_pair (Kd.heap_int .i64) (Kd.heap_int .i64)))))))
def walkRep {σ:Type} (f:σ→Option σ):Nat→σ→Option σ
 |0,s=>some s
 |n+1,s=>(f s).bind (walkRep f n)
mutual
def impl_walk.f {σ:Type} (step:σ→S80→Option (σ×Bool)):Nat→List S80→σ→Option σ
 |0,_,_=>none
 |k+1,l,s=>impl_walk.l0 step k l 0 s
def impl_walk.l0 {σ:Type} (step:σ→S80→Option (σ×Bool)):Nat→List S80→Int→σ→Option σ
 |0,_,_,_=>none
 |k+1,l,i,s=>if i<(l.length:Int) then (if 0≤i then (if (rd_T80 l i).f0=6 then impl_walk.l0 step k l (wrap64 (i+1)) s else
   (step s (rd_T80 l i)).bind fun sb=>(impl_isOpening.f (rd_T80 l i).f0).bind fun o=>if o=true then
    ((impl_endOf.f k l i).bind fun e=>(if (rd_T80 l i).f0=4 then impl_bit.f sb.2 else some (rd_T80 l i).f2).bind fun n=>
     if 0≤wrap64 (i+1)∧wrap64 (i+1)≤e∧e≤(l.length:Int)∧n≤9223372036854775807 then
      ((walkRep (fun s'=>impl_walk.f step k ((l.take e.toNat).drop (wrap64 (i+1)).toNat) s') n.toNat sb.1).bind fun s'=>impl_walk.l0 step k l (wrap64 (e+1)) s') else none)
    else impl_walk.l0 step k l (wrap64 (i+1)) sb.1) else none) else some s
end
set_option maxHeartbeats 8000000 in
set_option maxRecDepth 100000 in
theorem impl_walk.calls {σ:Type} {B:Nat} (step:σ→S80→Option (σ×Bool)) (I:σ→Sep.Asn) (g:Nat) (cb:Array Value) (eg:∀args w,(callFunc g args).run Try.prog w= .ok (.enter g args) w)
  (hL:∀s,Sep.Loc B (I s))
  (hstep:∀s x s' b F w,B≤w.heap.size→step s x=some (s',b)→I s F w→Calls Try.prog g (#[.agg #[.int .i64 x.f0,.int .i64 x.f1,.int .i64 x.f2,.int .i64 x.f3.f0,.int .i64 x.f3.f1,.int .i64 x.f3.f2]]++cb) w fun e w'=>e= .returned (.bool b)∧∃F',I s' F' w'∧Sep.After F w F' w')
  (k:Nat):∀(A0:Option Addr) (c0:Nat) (l0:List S80) (s r:σ) (F:Nat→Prop) (w:World) (hr:∀w',Kept w w' F→Kd.C k80 w' A0 l0.length l0) (hc0:l0.length≤c0) (hB:B≤w.heap.size) (hs:I s F w) (h:impl_walk.f step k l0 s=some r),
  Calls Try.prog 51 #[.slice A0 l0.length c0,.func (.func g) #[] cb] w fun e w'=>e= .returned (.tuple #[])∧∃F',I r F' w'∧Sep.After F w F' w':=by
 have HL:=Za hL
 have HST:=Za hstep
 clear hL hstep
 induction k using Nat.strongRecOn with
 |_ k ih=>
 have IH:=Za ih
 clear ih
 intro A0 c0 l0 s r F w hr hc0 hB hs h
 cases k with
 |zero=>exact absurd h (by simp[impl_walk.f])
 |succ k=>
 simp only[impl_walk.f] at h
 have hu77:=Try.underlying80
 have HR:=Za hr
 have HC0:=Za hc0
 have HBW:=Za hB
 have HS:=Za hs
 have H':=Za h
 clear hr hc0 hB hs h
 go_enter Try.func51,Try.ntmps51
 go_wp2
 go_loopg [4] k (fun kq v4 w'=>∃(i:Int) (s':σ) (F':Nat→Prop),v4= .int .i64 i∧Aside0 (impl_walk.l0 step kq l0 i s'=some r)∧Aside0 (kq≤k)∧Aside0 (I s' F' w')∧Aside0 (Sep.After F w F' w'))
 case atStart=>exact⟨0,s,F,by first|rfl|(simp;done),H',⟨Nat.le_refl _⟩,HS,⟨Sep.After.refl _ _⟩⟩
 case round=>
  clear H' HS
  obtain⟨i,s',F',rfl,HA,HK1,HI,HAF⟩:=hrel
  cases gk with
  |zero=>exact absurd HA.out (by simp[impl_walk.l0])
  |succ k1=>
   have H:=HA.out
   clear HA
   simp only[impl_walk.l0] at H
   by_cases c1:i<(l0.length:Int)
   ·rw[if_pos c1] at H
    have c1b:decide (i<(l0.length:Int))=true:=Zt c1
    by_cases c2:0≤i
    ·rw[if_pos c2] at H
     obtain⟨ad,e,hx0,hx1,hx2,hx3,hx4,hx5⟩:=at_T80 (HR.out _ HAF.out.kept) i c2 c1
     cases e
     have p1:=eq_true c2
     have q1:=eq_true c1
     obtain⟨x,hx⟩:∃x,rd_T80 l0 i=x:=⟨_,rfl⟩
     rw[hx] at H hx0 hx1 hx2 hx3 hx4 hx5
     obtain⟨x0,x1,x2,x3,x4,x5⟩:=x
     simp only at H hx0 hx1 hx2 hx3 hx4 hx5
     by_cases c6:x0=6
     ·rw[if_pos c6] at H
      subst c6
      have H':=Za H
      clear H c1 c2 hx
      go_wp2_with (first|((with_reducible refine Zp (N:=5) rfl ?_);refine Zr ?hg (N:=5) ?hd (cs:= #[.int .i64 0,.int .i64 0,.int .i64 0,.int .i64 0,.int .i64 0,.int .i64 0]) (t:=80) ?hr ?_;(case hd=>rfl);(case hg=>rfl);(case hr=>exact z9_9);intro gb hg w2 hbox hb;have HB:=Za hb;have BK:=Za hbox;have GE:Aside0 (wr.heap.size≤gb):=⟨Nat.le_of_eq hg.symm⟩;obtain⟨⟨_,_,_,_,_,_⟩,⟨_,_,_,_,_,_⟩⟩:=Sep.blk6 hbox;clear hb hbox hg)|((with_reducible refine Yh (t:=80) (p:=5) rfl ?_);refine Yg (t:=80) (p:=5) (v:= ?vo_) (w1:=Sep.put6 w2 gb (.int .i64 6) (.int .i64 x1) (.int .i64 x2) (.int .i64 x3) (.int .i64 x4) (.int .i64 x5)) ?hg ?ho ?hn ?hr ?_;(case ho=>rfl);(case hg=>rfl);(case hn=>rfl);(case hr=>exact z9_9);intro w3 hw;have BK3:=Za (hw ▸ Sep.put6_blk BK.out (.int .i64 6) (.int .i64 x1) (.int .i64 x2) (.int .i64 x3) (.int .i64 x4) (.int .i64 x5));have HB3:=Za (hw ▸ Sep.put6_below HB.out GE.out (.int .i64 6) (.int .i64 x1) (.int .i64 x2) (.int .i64 x3) (.int .i64 x4) (.int .i64 x5));clear hw BK HB;obtain⟨⟨_,_,_,_,_,_⟩,⟨_,_,_,_,_,_⟩⟩:=Sep.blk6 BK3.out))
      go_roundg k1
      case measure=>have:=HK1.out;omega
      case rel=>exact⟨wrap64 (i+1),s',F',by first|rfl|(simp;done)|(simp[*];done),H',⟨by have:=HK1.out;omega⟩,⟨(HL.out s').below (Nat.le_trans HBW.out HAF.out.size) HI.out HB3.out⟩,⟨HAF.out.below HB3.out⟩⟩
     ·rw[if_neg c6] at H
      have c6b:(x0==6)=false:=beq_eq_false_iff_ne.mpr c6
      obtain⟨sb,A1,H1⟩:=Zl H
      obtain⟨s2,b⟩:=sb
      obtain⟨o,A2,H2⟩:=Zl H1
      have HA1:=Za A1
      have HA2:=Za A2
      have H3:=Za H2
      have HX:=Za hx
      clear hx c1 c2 c6 A1 A2 H H1 H2
      go_wp2_with (first|((with_reducible refine Zp (N:=5) rfl ?_);refine Zr ?hg (N:=5) ?hd (cs:= #[.int .i64 0,.int .i64 0,.int .i64 0,.int .i64 0,.int .i64 0,.int .i64 0]) (t:=80) ?hr ?_;(case hd=>rfl);(case hg=>rfl);(case hr=>exact z9_9);intro gb hg w2 hbox hb;have HB:=Za hb;have BK:=Za hbox;have GE:Aside0 (wr.heap.size≤gb):=⟨Nat.le_of_eq hg.symm⟩;obtain⟨⟨_,_,_,_,_,_⟩,⟨_,_,_,_,_,_⟩⟩:=Sep.blk6 hbox;clear hb hbox hg)|((with_reducible refine Yh (t:=80) (p:=5) rfl ?_);refine Yg (t:=80) (p:=5) (v:= ?vo_) (w1:=Sep.put6 w2 gb (.int .i64 x0) (.int .i64 x1) (.int .i64 x2) (.int .i64 x3) (.int .i64 x4) (.int .i64 x5)) ?hg ?ho ?hn ?hr ?_;(case ho=>rfl);(case hg=>rfl);(case hn=>rfl);(case hr=>exact z9_9);intro w3 hw;have BK3:=Za (hw ▸ Sep.put6_blk BK.out (.int .i64 x0) (.int .i64 x1) (.int .i64 x2) (.int .i64 x3) (.int .i64 x4) (.int .i64 x5));have HB3:=Za (hw ▸ Sep.put6_below HB.out GE.out (.int .i64 x0) (.int .i64 x1) (.int .i64 x2) (.int .i64 x3) (.int .i64 x4) (.int .i64 x5));clear hw BK HB;obtain⟨⟨_,_,_,_,_,_⟩,⟨_,_,_,_,_,_⟩⟩:=Sep.blk6 BK3.out))
      refine(HST.out s' ⟨x0,x1,x2,⟨x3,x4,x5⟩⟩ s2 b F' w3 (Nat.le_trans HBW.out (HAF.out.below HB3.out).size) HA1.out ((HL.out s').below (Nat.le_trans HBW.out HAF.out.size) HI.out HB3.out)).mono ?_
      rintro e w4 ⟨rfl,F2,hI2,hA2⟩
      have HI2:=Za hI2
      have NF:Aside0 (¬F' gb):=⟨fun h=>absurd ((HL.out s').lt HI.out gb h).2 (Nat.not_lt.mpr GE.out)⟩
      have BK4:=Za (hA2.blk BK3.out NF.out)
      have NF2:=Za (hA2.out BK3.out NF.out)
      have HA4:=Za ((HAF.out.below HB3.out).trans hA2)
      clear hI2 hA2 BK3 NF
      obtain⟨⟨_,_,_,_,_,_⟩,⟨_,_,_,_,_,_⟩⟩:=Sep.blk6 BK4.out
      cases o with
      |false=>
       have H4:=H3.out
       rw[if_neg (by simp)] at H4
       have H':=Za H4
       clear H4 H3
       go_wp2_with (go_at_call 72;(with_reducible refine(impl_isOpening.calls _ _ _ HA2.out).mono ?_);rintro e w' ⟨rfl,⟨nd,rfl⟩⟩)
       go_roundg k1
       case measure=>have:=HK1.out;omega
       case rel=>exact⟨wrap64 (i+1),s2,F2,by first|rfl|(simp;done)|(simp[*];done),H',⟨by have:=HK1.out;omega⟩,⟨(HL.out s2).below (Nat.le_trans HBW.out HA4.out.size) HI2.out (by repeat(first|exact Ya _ _|apply Ze))⟩,⟨HA4.out.below (by repeat(first|exact Ya _ _|apply Ze))⟩⟩
      |true=>
       have H4:=H3.out
       rw[if_pos rfl] at H4
       obtain⟨en,A3,H5⟩:=Zl H4
       obtain⟨n,A4,H6⟩:=Zl H5
       by_cases c7:0≤wrap64 (i+1)∧wrap64 (i+1)≤en∧en≤(l0.length:Int)∧n≤9223372036854775807
       ·rw[if_pos c7] at H6
        obtain⟨s3,A5,H7⟩:=Zl H6
        have H':=Za H7
        have HA3:=Za A3
        have HA5:=Za A5
        have HN:Aside0 (((x0==4)=true∧impl_bit.f b=some n)∨((x0==4)=false∧n=x2∧True)):=by
         by_cases c4:x0=4
         ·rw[if_pos c4] at A4
          exact⟨.inl ⟨beq_iff_eq.mpr c4,A4⟩⟩
         ·rw[if_neg c4] at A4
          exact⟨.inr ⟨beq_eq_false_iff_ne.mpr c4,(Zj A4).symm,trivial⟩⟩
        clear H4 H3 H5 H6 H7 A3 A4 A5
        obtain⟨ji,hji⟩:∃ji,wrap64 (i+1)=ji:=⟨_,rfl⟩
        rw[hji] at c7
        replace HA5:Aside0 (walkRep (fun s'=>impl_walk.f step k1 ((l0.take en.toNat).drop ji.toNat) s') n.toNat s2=some s3):=by rw[←hji];exact HA5
        obtain⟨y,hy⟩:∃y,(l0.take en.toNat).drop ji.toNat=y:=⟨_,rfl⟩
        rw[hy] at HA5
        obtain⟨i0,hi0,hsz0⟩:=Option.map_eq_some_iff.mp (show(Try.prog.info? 80).map (·.size)=some 6 by kernel_rfl)
        have hcut:=cut_mid (P:=Try.prog) 60 80 .i64 .i64 Try.underlying60 hi0 6 hsz0 (some ad) l0.length c0 ji en c7.1 c7.2.1 c7.2.2.1 HC0.out
        obtain⟨A',hA'⟩:∃A',(if c0=ji.toNat then (some ad) else ((some ad):Option Addr).map (·.add (ji.toNat*6)))=A':=⟨_,rfl⟩
        obtain⟨c',hc'⟩:∃c',c0 - ji.toNat=c':=⟨_,rfl⟩
        have hyl:en.toNat - ji.toNat=y.length:=by rw[←hy,List.length_drop,List.length_take];omega
        rw[hA',hc',hyl] at hcut
        have HRy:Aside0 (∀w',Kept w w' F→Kd.C k80 w' A' y.length y):=⟨fun w' hk=>by
         have:=Kd.C_mid (HR.out w' hk) (lo:=ji.toNat) (hi:=en.toNat) (c:=c0) (by omega) (by omega) HC0.out
         rw[hy] at this
         rw[←hA']
         exact this⟩
        have HCy:Aside0 (y.length≤c'):=⟨by have:=HC0.out;omega⟩
        have hjiw:IntKind.i64.wrap (i+1)=ji:=(i64_w _).trans hji
        have HNB:=Za c7.2.2.2
        clear hy hyl hA' hc' c7 hi0 hsz0
        rcases HN.out with⟨c4b,A4⟩|⟨c4b,rfl,A4⟩
        all_goals
         have HA4':=Za A4
         clear A4 HN
         go_wp2_with (first|(go_at_call 72;(with_reducible refine(impl_isOpening.calls _ _ _ HA2.out).mono ?_);rintro e w' ⟨rfl,⟨nd,rfl⟩⟩)|(go_at_call 73;(with_reducible refine(impl_endOf.calls k1 _ _ l0 i en _ ?sd1 HC0.out HA3.out).mono ?_);(case sd1=>exact HR.out _ (Kept.drewN HA4.out.kept _));rintro e w' ⟨rfl,⟨nd,rfl⟩⟩)|(go_at_call 74;(with_reducible refine(impl_bit.calls _ _ _ HA4'.out).mono ?_);rintro e w' ⟨rfl,⟨nd,rfl⟩⟩))
         go_loopg [40] n.toNat (fun kq v40 w'=>∃(j:Int) (sj:σ) (Fj:Nat→Prop),v40= .int .i64 j∧Aside0 (0≤j∧j+(kq:Int)=(n.toNat:Int))∧Aside0 (walkRep (fun s'=>impl_walk.f step k1 y s') kq sj=some s3)∧Aside0 (I sj Fj w')∧Aside0 (Sep.After F w Fj w'))
         case atStart=>exact⟨0,s2,F2,by first|rfl|(simp;done),⟨by omega,by omega⟩,HA5,⟨(HL.out s2).below (Nat.le_trans HBW.out HA4.out.size) HI2.out (by repeat(first|exact Ya _ _|apply Ze))⟩,⟨HA4.out.below (by repeat(first|exact Ya _ _|apply Ze))⟩⟩
         case round=>
          clear HA5 HI2 HA4
          obtain⟨j,sj,Fj,rfl,HJ,HWJ,HIJ,HAJ⟩:=hrel
          by_cases cj:j<n
          ·have cjb:decide (j<n)=true:=Zt cj
           have hw1:wrap64 (j+1)=j+1:=by have:=HJ.out;have:=HNB.out;unfold wrap64;omega
           cases gk with
           |zero=>have:=HJ.out;omega
           |succ k2=>
            obtain⟨s4,A6,A7⟩:=Zl HWJ.out
            have HA6:=Za A6
            have HA7:=Za A7
            have HW:=Za hw1
            have CJ:=Za cj
            clear A6 A7 hw1 cj HWJ
            go_wp2_with (go_at_call 51;(with_reducible refine(IH.out k1 ?sd1 A' c' y sj s4 Fj _ ?sd2 HCy.out (Nat.le_trans HBW.out HAJ.out.size) HIJ.out HA6.out).mono ?_);(case sd1=>have:=HK1.out;omega);(case sd2=>exact fun w' hk=>HRy.out w' (HAJ.out.kept.then_ hk HAJ.out.sub));rintro e w6 ⟨rfl,F6,hI6,hA6⟩;have HI6:=Za hI6;have HA6':=Za (HAJ.out.trans hA6);clear hI6 hA6)
            go_roundg k2
            case measure=>omega
            case rel=>exact⟨j+1,s4,F6,by first|rfl|(rw[HW.out];done)|(simp[HW.out];done),⟨by have:=HJ.out;omega,by have:=HJ.out;omega⟩,HA7,HI6,HA6'⟩
          ·have cjb:decide (j<n)=false:=Yc cj
           have hk0:gk=0:=by have:=HJ.out;omega
           subst hk0
           obtain rfl:=Zj HWJ.out
           clear cj HWJ
           go_wp2
           go_roundg k1
           case measure=>have:=HK1.out;omega
           case rel=>exact⟨wrap64 (en+1),sj,Fj,by first|rfl|(simp;done)|(simp[*];done),H',⟨by have:=HK1.out;omega⟩,HIJ,HAJ⟩
       ·rw[if_neg c7] at H6
        exact absurd H6 (by simp)
    ·rw[if_neg c2] at H
     exact absurd H (by simp)
   ·rw[if_neg c1] at H
    have c1b:decide (i<(l0.length:Int))=false:=Yc c1
    obtain rfl:=Zj H
    clear H c1
    go_wp2
    go_end0
    exact⟨rfl,F',HI.out,HAF.out⟩
def impl_Clamp.f (a0:Int) (a1:Int) (a2:Int):Option (Int):=if a2<a1 then (some a1) else (some (mn (mx a0 a1) a2))
set_option maxHeartbeats 8000000 in
set_option maxRecDepth 100000 in
theorem impl_Clamp.calls (a0:Int) (a1:Int) (a2:Int) (r:Int) (w:World) (h:impl_Clamp.f a0 a1 a2=some r):
  Calls Try.prog 95 #[.int .i64 a0,.int .i64 a1,.int .i64 a2] w fun e w'=>e= .returned (.int .i64 r)∧Drawn0 w w':=by
 have H:(if a2<a1 then (some a1) else (some (mn (mx a0 a1) a2)))=some r:=h
 clear h
 by_cases c4:a2<a1
 ·rw[if_pos c4] at H
  have c4b0:decide (a2<a1)=true:=Zt c4
  clear c4
  obtain rfl:=Zj H
  go_enter Try.func95,Try.ntmps95
  go_wp2
  go_ret
  exact⟨by first|rfl|(simp;done)|(simp[*];done),by repeat(first|exact Zu _|apply Zv)⟩
 ·rw[if_neg c4] at H
  have c4b0:decide (a2<a1)=false:=Yc c4
  clear c4
  obtain⟨ji5,hji5⟩:∃j_:Int,(mx a0 a1)=j_:=⟨_,rfl⟩
  replace H:(some (mn (ji5) a2))=some r:=by first|(rw[hji5] at H;exact H)|(simp only[hji5] at H ⊢;exact H)
  have hji5_:(if a0<a1 then a1 else a0)=ji5:=hji5
  obtain⟨ji6,hji6⟩:∃j_:Int,(mn (ji5) a2)=j_:=⟨_,rfl⟩
  replace H:(some ji6)=some r:=by first|(rw[hji6] at H;exact H)|(simp only[hji6] at H ⊢;exact H)
  have hji6_:(if a2<(ji5) then a2 else (ji5))=ji6:=hji6
  obtain rfl:=Zj H
  go_enter Try.func95,Try.ntmps95
  go_wp2
  go_ret
  exact⟨by first|rfl|(simp;done)|(simp only[←hji5,←hji6]<;>(first|rfl|simp))|(simp[*];done),by repeat(first|exact Zu _|apply Zv)⟩
def impl_Saturate.f (a0:Int):Option (Int):=(impl_Clamp.f a0 (-1000000) 1000000).bind fun t277=>(some t277)
set_option maxHeartbeats 8000000 in
set_option maxRecDepth 100000 in
theorem impl_Saturate.calls (a0:Int) (r:Int) (w:World) (h:impl_Saturate.f a0=some r):
  Calls Try.prog 87 #[.int .i64 a0] w fun e w'=>e= .returned (.int .i64 r)∧Drawn0 w w':=by
 have H:((impl_Clamp.f a0 (-1000000) 1000000).bind fun t277=>(some t277))=some r:=h
 clear h
 replace H:=Zl H
 obtain⟨t277,A20,H⟩:=H
 replace H:(some t277)=some r:=H
 have A2:=Za A20
 clear A20
 obtain rfl:=Zj H
 go_enter Try.func87,Try.ntmps87
 go_wp2_with (first|((first|((with_reducible refine gate_callee (f:=95) rfl ?_);refine goesL_ (some 4) rfl rfl Try.func95 (by kernel_rfl) rfl #[.int .i64 a0,.int .i64 (-1000000),.int .i64 1000000] rfl z9_4 ?_;(with_reducible refine(impl_Clamp.calls a0 (-1000000) 1000000 t277 _ A2.out).mono ?_))|(go_at_call 95;(with_reducible refine(impl_Clamp.calls a0 (-1000000) 1000000 t277 _ A2.out).mono ?_)));rintro e w' ⟨rfl,⟨nd,rfl⟩⟩;(first|refine⟨_,rfl,?_⟩|skip)))
 go_ret
 exact⟨by first|rfl|(simp;done)|(simp[*];done),by repeat(first|exact Zu _|apply Zv)⟩
def impl_AddValues.f (a0:Int) (a1:Int):Option (Int):=(impl_Saturate.f a0).bind fun t278=>((impl_Saturate.f a1).bind fun t279=>((impl_Saturate.f (wrap64 (t278+t279))).bind fun t280=>(some t280)))
set_option maxHeartbeats 8000000 in
set_option maxRecDepth 100000 in
theorem impl_AddValues.calls (a0:Int) (a1:Int) (r:Int) (w:World) (h:impl_AddValues.f a0 a1=some r):
  Calls Try.prog 62 #[.int .i64 a0,.int .i64 a1] w fun e w'=>e= .returned (.int .i64 r)∧Drawn0 w w':=by
 have H:((impl_Saturate.f a0).bind fun t278=>((impl_Saturate.f a1).bind fun t279=>((impl_Saturate.f (wrap64 (t278+t279))).bind fun t280=>(some t280))))=some r:=h
 clear h
 replace H:=Zl H
 obtain⟨t278,A30,H⟩:=H
 replace H:((impl_Saturate.f a1).bind fun t279=>((impl_Saturate.f (wrap64 (t278+t279))).bind fun t280=>(some t280)))=some r:=H
 have A3:=Za A30
 clear A30
 replace H:=Zl H
 obtain⟨t279,A40,H⟩:=H
 replace H:((impl_Saturate.f (wrap64 (t278+t279))).bind fun t280=>(some t280))=some r:=H
 have A4:=Za A40
 clear A40
 replace H:=Zl H
 obtain⟨t280,A50,H⟩:=H
 replace H:(some t280)=some r:=H
 have A5:=Za A50
 clear A50
 obtain rfl:=Zj H
 go_enter Try.func62,Try.ntmps62
 go_wp2_with (first|((first|((with_reducible refine gate_callee (f:=87) rfl ?_);refine goesL_ (some 6) rfl rfl Try.func87 (by kernel_rfl) rfl #[.int .i64 a0] rfl z9_4 ?_;(with_reducible refine(impl_Saturate.calls a0 t278 _ A3.out).mono ?_))|(go_at_call 87;(with_reducible refine(impl_Saturate.calls a0 t278 _ A3.out).mono ?_)));rintro e w' ⟨rfl,⟨nd,rfl⟩⟩;(first|refine⟨_,rfl,?_⟩|skip))|((first|((with_reducible refine gate_callee (f:=87) rfl ?_);refine goesL_ (some 8) rfl rfl Try.func87 (by kernel_rfl) rfl #[.int .i64 a1] rfl z9_4 ?_;(with_reducible refine(impl_Saturate.calls a1 t279 _ A4.out).mono ?_))|(go_at_call 87;(with_reducible refine(impl_Saturate.calls a1 t279 _ A4.out).mono ?_)));rintro e w' ⟨rfl,⟨nd,rfl⟩⟩;(first|refine⟨_,rfl,?_⟩|skip))|((first|((with_reducible refine gate_callee (f:=87) rfl ?_);refine goesL_ (some 10) rfl rfl Try.func87 (by kernel_rfl) rfl #[.int .i64 (wrap64 (t278+t279))] rfl z9_4 ?_;(with_reducible refine(impl_Saturate.calls (wrap64 (t278+t279)) t280 _ A5.out).mono ?_))|(go_at_call 87;(with_reducible refine(impl_Saturate.calls (wrap64 (t278+t279)) t280 _ A5.out).mono ?_)));rintro e w' ⟨rfl,⟨nd,rfl⟩⟩;(first|refine⟨_,rfl,?_⟩|skip)))
 go_ret
 exact⟨by first|rfl|(simp;done)|(simp[*];done),by repeat(first|exact Zu _|apply Zv)⟩
def impl_operand.f (l0:List Int) (a1:Int):Option (Int):=if a1<0 then (if 0≤(wrap64 ((-1) - a1)) then (if (wrap64 ((-1) - a1))<(l0.length:Int) then (some (rd l0 (wrap64 ((-1) - a1)))) else (none)) else (none)) else (some a1)
set_option maxHeartbeats 8000000 in
set_option maxRecDepth 100000 in
theorem impl_operand.calls (A0:Option Addr) (c0:Nat) (l0:List Int) (a1:Int) (r:Int) (w:World) (hr0:Kd.C (Kd.int .i64) w A0 l0.length l0) (hc0:l0.length≤c0) (h:impl_operand.f l0 a1=some r):
  Calls Try.prog 76 #[.slice A0 l0.length c0,.int .i64 a1] w fun e w'=>e= .returned (.int .i64 r)∧Drawn0 w w':=by
 have HR0:=Za hr0
 have HC0:=Za hc0
 clear hr0 hc0
 have H:(if a1<0 then (if 0≤(wrap64 ((-1) - a1)) then (if (wrap64 ((-1) - a1))<(l0.length:Int) then (some (rd l0 (wrap64 ((-1) - a1)))) else (none)) else (none)) else (some a1))=some r:=h
 clear h
 by_cases c3:a1<0
 ·rw[if_pos c3] at H
  have c3b0:decide (a1<0)=true:=Zt c3
  clear c3
  obtain⟨ji4,hji4⟩:∃j_:Int,(wrap64 ((-1) - a1))=j_:=⟨_,rfl⟩
  replace H:(if 0≤(ji4) then (if (ji4)<(l0.length:Int) then (some (rd l0 (ji4))) else (none)) else (none))=some r:=by first|(rw[hji4] at H;exact H)|(simp only[hji4] at H ⊢;exact H)
  have hji4w:(IntKind.i64.wrap ((-1) - a1))=ji4:=(i64_w _).trans hji4
  by_cases c5:0≤(ji4)
  ·rw[if_pos c5] at H
   have c5b0:decide (0≤(ji4))=true:=Zt c5
   clear c5
   by_cases c6:(ji4)<(l0.length:Int)
   ·rw[if_pos c6] at H
    have c6b0:decide ((ji4)<(l0.length:Int))=true:=Zt c6
    clear c6
    obtain rfl:=Zj H
    have p281:0≤((ji4):Int):=Zs z9_6
    have q281:(ji4)<(l0.length:Int):=Zs z9_6
    obtain⟨ad281,e281,hx281_0⟩:=Kd.at_int HR0.out (ji4) p281 q281
    cases e281
    replace p281:=eq_true p281
    replace q281:=eq_true q281
    go_enter Try.func76,Try.ntmps76
    go_wp2
    go_ret
    exact⟨by first|rfl|(simp;done)|(simp only[←hji4]<;>(first|rfl|simp))|(simp[*];done),by repeat(first|exact Zu _|apply Zv)⟩
   ·rw[if_neg c6] at H
    exact absurd H (by simp)
  ·rw[if_neg c5] at H
   exact absurd H (by simp)
 ·rw[if_neg c3] at H
  have c3b0:decide (a1<0)=false:=Yc c3
  clear c3
  obtain rfl:=Zj H
  go_enter Try.func76,Try.ntmps76
  go_wp2
  go_ret
  exact⟨by first|rfl|(simp;done)|(simp[*];done),by repeat(first|exact Zu _|apply Zv)⟩
def impl_SubValues.f (a0:Int) (a1:Int):Option (Int):=(impl_Saturate.f a0).bind fun t282=>((impl_Saturate.f a1).bind fun t283=>((impl_Saturate.f (wrap64 (t282 - t283))).bind fun t284=>(some t284)))
set_option maxHeartbeats 8000000 in
set_option maxRecDepth 100000 in
theorem impl_SubValues.calls (a0:Int) (a1:Int) (r:Int) (w:World) (h:impl_SubValues.f a0 a1=some r):
  Calls Try.prog 77 #[.int .i64 a0,.int .i64 a1] w fun e w'=>e= .returned (.int .i64 r)∧Drawn0 w w':=by
 have H:((impl_Saturate.f a0).bind fun t282=>((impl_Saturate.f a1).bind fun t283=>((impl_Saturate.f (wrap64 (t282 - t283))).bind fun t284=>(some t284))))=some r:=h
 clear h
 replace H:=Zl H
 obtain⟨t282,A30,H⟩:=H
 replace H:((impl_Saturate.f a1).bind fun t283=>((impl_Saturate.f (wrap64 (t282 - t283))).bind fun t284=>(some t284)))=some r:=H
 have A3:=Za A30
 clear A30
 replace H:=Zl H
 obtain⟨t283,A40,H⟩:=H
 replace H:((impl_Saturate.f (wrap64 (t282 - t283))).bind fun t284=>(some t284))=some r:=H
 have A4:=Za A40
 clear A40
 replace H:=Zl H
 obtain⟨t284,A50,H⟩:=H
 replace H:(some t284)=some r:=H
 have A5:=Za A50
 clear A50
 obtain rfl:=Zj H
 go_enter Try.func77,Try.ntmps77
 go_wp2_with (first|((first|((with_reducible refine gate_callee (f:=87) rfl ?_);refine goesL_ (some 6) rfl rfl Try.func87 (by kernel_rfl) rfl #[.int .i64 a0] rfl z9_4 ?_;(with_reducible refine(impl_Saturate.calls a0 t282 _ A3.out).mono ?_))|(go_at_call 87;(with_reducible refine(impl_Saturate.calls a0 t282 _ A3.out).mono ?_)));rintro e w' ⟨rfl,⟨nd,rfl⟩⟩;(first|refine⟨_,rfl,?_⟩|skip))|((first|((with_reducible refine gate_callee (f:=87) rfl ?_);refine goesL_ (some 8) rfl rfl Try.func87 (by kernel_rfl) rfl #[.int .i64 a1] rfl z9_4 ?_;(with_reducible refine(impl_Saturate.calls a1 t283 _ A4.out).mono ?_))|(go_at_call 87;(with_reducible refine(impl_Saturate.calls a1 t283 _ A4.out).mono ?_)));rintro e w' ⟨rfl,⟨nd,rfl⟩⟩;(first|refine⟨_,rfl,?_⟩|skip))|((first|((with_reducible refine gate_callee (f:=87) rfl ?_);refine goesL_ (some 10) rfl rfl Try.func87 (by kernel_rfl) rfl #[.int .i64 (wrap64 (t282 - t283))] rfl z9_4 ?_;(with_reducible refine(impl_Saturate.calls (wrap64 (t282 - t283)) t284 _ A5.out).mono ?_))|(go_at_call 87;(with_reducible refine(impl_Saturate.calls (wrap64 (t282 - t283)) t284 _ A5.out).mono ?_)));rintro e w' ⟨rfl,⟨nd,rfl⟩⟩;(first|refine⟨_,rfl,?_⟩|skip)))
 go_ret
 exact⟨by first|rfl|(simp;done)|(simp[*];done),by repeat(first|exact Zu _|apply Zv)⟩
def impl_MulValues.f (a0:Int) (a1:Int):Option (Int):=(impl_Saturate.f a0).bind fun t285=>((impl_Saturate.f a1).bind fun t286=>((impl_Saturate.f (wrap64 (t285*t286))).bind fun t287=>(some t287)))
set_option maxHeartbeats 8000000 in
set_option maxRecDepth 100000 in
theorem impl_MulValues.calls (a0:Int) (a1:Int) (r:Int) (w:World) (h:impl_MulValues.f a0 a1=some r):
  Calls Try.prog 78 #[.int .i64 a0,.int .i64 a1] w fun e w'=>e= .returned (.int .i64 r)∧Drawn0 w w':=by
 have H:((impl_Saturate.f a0).bind fun t285=>((impl_Saturate.f a1).bind fun t286=>((impl_Saturate.f (wrap64 (t285*t286))).bind fun t287=>(some t287))))=some r:=h
 clear h
 replace H:=Zl H
 obtain⟨t285,A30,H⟩:=H
 replace H:((impl_Saturate.f a1).bind fun t286=>((impl_Saturate.f (wrap64 (t285*t286))).bind fun t287=>(some t287)))=some r:=H
 have A3:=Za A30
 clear A30
 replace H:=Zl H
 obtain⟨t286,A40,H⟩:=H
 replace H:((impl_Saturate.f (wrap64 (t285*t286))).bind fun t287=>(some t287))=some r:=H
 have A4:=Za A40
 clear A40
 replace H:=Zl H
 obtain⟨t287,A50,H⟩:=H
 replace H:(some t287)=some r:=H
 have A5:=Za A50
 clear A50
 obtain rfl:=Zj H
 go_enter Try.func78,Try.ntmps78
 go_wp2_with (first|((first|((with_reducible refine gate_callee (f:=87) rfl ?_);refine goesL_ (some 6) rfl rfl Try.func87 (by kernel_rfl) rfl #[.int .i64 a0] rfl z9_4 ?_;(with_reducible refine(impl_Saturate.calls a0 t285 _ A3.out).mono ?_))|(go_at_call 87;(with_reducible refine(impl_Saturate.calls a0 t285 _ A3.out).mono ?_)));rintro e w' ⟨rfl,⟨nd,rfl⟩⟩;(first|refine⟨_,rfl,?_⟩|skip))|((first|((with_reducible refine gate_callee (f:=87) rfl ?_);refine goesL_ (some 8) rfl rfl Try.func87 (by kernel_rfl) rfl #[.int .i64 a1] rfl z9_4 ?_;(with_reducible refine(impl_Saturate.calls a1 t286 _ A4.out).mono ?_))|(go_at_call 87;(with_reducible refine(impl_Saturate.calls a1 t286 _ A4.out).mono ?_)));rintro e w' ⟨rfl,⟨nd,rfl⟩⟩;(first|refine⟨_,rfl,?_⟩|skip))|((first|((with_reducible refine gate_callee (f:=87) rfl ?_);refine goesL_ (some 10) rfl rfl Try.func87 (by kernel_rfl) rfl #[.int .i64 (wrap64 (t285*t286))] rfl z9_4 ?_;(with_reducible refine(impl_Saturate.calls (wrap64 (t285*t286)) t287 _ A5.out).mono ?_))|(go_at_call 87;(with_reducible refine(impl_Saturate.calls (wrap64 (t285*t286)) t287 _ A5.out).mono ?_)));rintro e w' ⟨rfl,⟨nd,rfl⟩⟩;(first|refine⟨_,rfl,?_⟩|skip)))
 go_ret
 exact⟨by first|rfl|(simp;done)|(simp[*];done),by repeat(first|exact Zu _|apply Zv)⟩
def impl_EvalExpr.j0:Nat→List Int→Bool→Int→Int→Int→Option (Int)
 |0,_,_,_,_,_=>none
 |k+1,x0,x14,x289000,x289001,x289002=>if x14=true then (some 0) else ((impl_operand.f x0 x289001).bind fun t291=>((impl_operand.f x0 x289002).bind fun t292=>(if x289000=1 then ((impl_AddValues.f t291 t292).bind fun t293=>(some t293)) else (if x289000=2 then ((impl_SubValues.f t291 t292).bind fun t294=>(some t294)) else (if x289000=3 then ((impl_MulValues.f t291 t292).bind fun t295=>(some t295)) else (if x289000=4 then (some (mn t291 t292)) else (if x289000=5 then (some (mx t291 t292)) else (if x289000=6 then ((impl_bit.f (decide (t291<t292))).bind fun t296=>(some t296)) else ((impl_bit.f (t291==t292)).bind fun t297=>(some t297))))))))))
def impl_EvalExpr.f (k:Nat) (l0:List Int) (a1_0:Int) (a1_1:Int) (a1_2:Int):Option (Int):=(impl_VarsOk.f l0).bind fun t289=>(if t289=true then ((impl_ExprOk.f a1_0 a1_1 a1_2).bind fun t290=>(impl_EvalExpr.j0 k l0 (!t290) a1_0 a1_1 a1_2)) else (impl_EvalExpr.j0 k l0 true a1_0 a1_1 a1_2))
set_option maxHeartbeats 8000000 in
set_option maxRecDepth 100000 in
theorem impl_EvalExpr.calls (k:Nat) (A0:Option Addr) (c0:Nat) (l0:List Int) (a1_0:Int) (a1_1:Int) (a1_2:Int) (r:Int) (w:World) (hr0:Kd.C (Kd.int .i64) w A0 l0.length l0) (hc0:l0.length≤c0) (h:impl_EvalExpr.f k l0 a1_0 a1_1 a1_2=some r):
  Calls Try.prog 53 #[.slice A0 l0.length c0,.agg #[.int .i64 a1_0,.int .i64 a1_1,.int .i64 a1_2]] w fun e w'=>e= .returned (.int .i64 r)∧Below w.heap.size w w':=by
 have hu62:=Try.underlying62
 have HR0:=Za hr0
 have HC0:=Za hc0
 clear hr0 hc0
 have HB:=Za (Ya w.heap.size w)
 have H:((impl_VarsOk.f l0).bind fun t289=>(if t289=true then ((impl_ExprOk.f a1_0 a1_1 a1_2).bind fun t290=>(impl_EvalExpr.j0 k l0 (!t290) a1_0 a1_1 a1_2)) else (impl_EvalExpr.j0 k l0 true a1_0 a1_1 a1_2)))=some r:=h
 clear h
 have HC3:=Za H
 clear H
 go_enter Try.func53,Try.ntmps53
 go_upto_region 1 with(first|((with_reducible refine Zp (N:=3) rfl ?_);refine Zr ?hg (N:=3) ?hd (cs:= #[.int .i64 a1_0,.int .i64 a1_1,.int .i64 a1_2]) (t:=62) ?hr ?_;(case hd=>rfl);(case hg=>rfl);(case hr=>exact z9_9);intro gb288 hg w4 hbox hb;have BK288:=Za (hbox);have GW288:=Za ((z9_13:w.heap.size≤gb288));have GE288:=Za ((z9_13:w.heap.size≤gb288));replace HB:=Za (Zi z9_3 hb);clear hb hbox hg))
 repeat(go_quiet (first|((with_reducible refine Zp (N:=3) rfl ?_);refine Zr ?hg (N:=3) ?hd (cs:= #[.int .i64 a1_0,.int .i64 a1_1,.int .i64 a1_2]) (t:=62) ?hr ?_;(case hd=>rfl);(case hg=>rfl);(case hr=>exact z9_9);intro gb288 hg w4 hbox hb;have BK288:=Za (hbox);have GW288:=Za ((z9_13:w.heap.size≤gb288));have GE288:=Za ((z9_13:w.heap.size≤gb288));replace HB:=Za (Zi z9_3 hb);clear hb hbox hg));go_upto_region 1 with(first|((with_reducible refine Zp (N:=3) rfl ?_);refine Zr ?hg (N:=3) ?hd (cs:= #[.int .i64 a1_0,.int .i64 a1_1,.int .i64 a1_2]) (t:=62) ?hr ?_;(case hd=>rfl);(case hg=>rfl);(case hr=>exact z9_9);intro gb288 hg w4 hbox hb;have BK288:=Za (hbox);have GW288:=Za ((z9_13:w.heap.size≤gb288));have GE288:=Za ((z9_13:w.heap.size≤gb288));replace HB:=Za (Zi z9_3 hb);clear hb hbox hg)))
 (try simp only[Act.put,Zm,Zn,Zo])
 go_cut [14] (fun v14 wc=>∃(kq:Nat) (x14_2:Bool),v14= .bool x14_2∧Aside0 (impl_EvalExpr.j0 kq l0 x14_2 a1_0 a1_1 a1_2=some r)∧Aside0 (kq≤k)∧Aside0 (wc.heap[gb288]? =some (.cells #[.int .i64 a1_0,.int .i64 a1_1,.int .i64 a1_2] 62 (0,0)))∧Aside0 (Below w.heap.size w wc))
 case first=>
  have H:=HC3.out
  clear HC3
  replace H:=Zl H
  obtain⟨t289,A50,H⟩:=H
  replace H:(if t289=true then ((impl_ExprOk.f a1_0 a1_1 a1_2).bind fun t290=>(impl_EvalExpr.j0 k l0 (!t290) a1_0 a1_1 a1_2)) else (impl_EvalExpr.j0 k l0 true a1_0 a1_1 a1_2))=some r:=H
  have A5:=Za A50
  clear A50
  by_cases c6:t289=true
  ·subst c6
   rw[if_pos rfl] at H
   replace H:=Zl H
   obtain⟨t290,A70,H⟩:=H
   replace H:(impl_EvalExpr.j0 k l0 (!t290) a1_0 a1_1 a1_2)=some r:=H
   have A7:=Za A70
   clear A70
   have H':=Za H
   clear H
   go_wp2_with (first|(go_at_call 28;(with_reducible refine(impl_VarsOk.calls _ _ l0 true _ ?side1 ?side2 A5.out).mono ?_);(case side1=>exact z9_1);(case side2=>exact z9_7);rintro e w' ⟨rfl,⟨nd,rfl⟩⟩;(try first|exact⟨rfl,_,Zq _ _ _⟩|exact⟨rfl,_,Eq.trans (Zq _ _ _) (congrArg (World.drewN _) (Nat.add_assoc _ _ _))⟩);have hcz8_0:w4.cell? ⟨gb288,0,none⟩=some (.int .i64 a1_0):=(Zb BK288.out 0).trans rfl;have hcz8_1:w4.cell? ⟨gb288,1,none⟩=some (.int .i64 a1_1):=(Zb BK288.out 1).trans rfl;have hcz8_2:w4.cell? ⟨gb288,2,none⟩=some (.int .i64 a1_2):=(Zb BK288.out 2).trans rfl;have hfz8_0:=Zc BK288.out 0;have hfz8_1:=Zc BK288.out 1;have hfz8_2:=Zc BK288.out 2)|(go_at_call 75;(with_reducible refine(impl_ExprOk.calls a1_0 a1_1 a1_2 t290 _ A7.out).mono ?_);rintro e w9 ⟨rfl,hb⟩;replace BK288:=Za (Zk (g:=gb288) (o:= .cells #[.int .i64 a1_0,.int .i64 a1_1,.int .i64 a1_2] 62 (0,0)) z9_12 hb);replace HB:=Za (Zi z9_2 hb);(try clear hb);(try clear hb2);(try clear hk);(try clear hi)))
   repeat(go_quiet (first|(go_at_call 28;(with_reducible refine(impl_VarsOk.calls _ _ l0 true _ ?side1 ?side2 A5.out).mono ?_);(case side1=>exact z9_1);(case side2=>exact z9_7);rintro e w' ⟨rfl,⟨nd,rfl⟩⟩;(try first|exact⟨rfl,_,Zq _ _ _⟩|exact⟨rfl,_,Eq.trans (Zq _ _ _) (congrArg (World.drewN _) (Nat.add_assoc _ _ _))⟩);have hcz8_0:w4.cell? ⟨gb288,0,none⟩=some (.int .i64 a1_0):=(Zb BK288.out 0).trans rfl;have hcz8_1:w4.cell? ⟨gb288,1,none⟩=some (.int .i64 a1_1):=(Zb BK288.out 1).trans rfl;have hcz8_2:w4.cell? ⟨gb288,2,none⟩=some (.int .i64 a1_2):=(Zb BK288.out 2).trans rfl;have hfz8_0:=Zc BK288.out 0;have hfz8_1:=Zc BK288.out 1;have hfz8_2:=Zc BK288.out 2)|(go_at_call 75;(with_reducible refine(impl_ExprOk.calls a1_0 a1_1 a1_2 t290 _ A7.out).mono ?_);rintro e w9 ⟨rfl,hb⟩;replace BK288:=Za (Zk (g:=gb288) (o:= .cells #[.int .i64 a1_0,.int .i64 a1_1,.int .i64 a1_2] 62 (0,0)) z9_12 hb);replace HB:=Za (Zi z9_2 hb);(try clear hb);(try clear hb2);(try clear hk);(try clear hi)));try go_wp2_with (first|(go_at_call 28;(with_reducible refine(impl_VarsOk.calls _ _ l0 true _ ?side1 ?side2 A5.out).mono ?_);(case side1=>exact z9_1);(case side2=>exact z9_7);rintro e w' ⟨rfl,⟨nd,rfl⟩⟩;(try first|exact⟨rfl,_,Zq _ _ _⟩|exact⟨rfl,_,Eq.trans (Zq _ _ _) (congrArg (World.drewN _) (Nat.add_assoc _ _ _))⟩);have hcz8_0:w4.cell? ⟨gb288,0,none⟩=some (.int .i64 a1_0):=(Zb BK288.out 0).trans rfl;have hcz8_1:w4.cell? ⟨gb288,1,none⟩=some (.int .i64 a1_1):=(Zb BK288.out 1).trans rfl;have hcz8_2:w4.cell? ⟨gb288,2,none⟩=some (.int .i64 a1_2):=(Zb BK288.out 2).trans rfl;have hfz8_0:=Zc BK288.out 0;have hfz8_1:=Zc BK288.out 1;have hfz8_2:=Zc BK288.out 2)|(go_at_call 75;(with_reducible refine(impl_ExprOk.calls a1_0 a1_1 a1_2 t290 _ A7.out).mono ?_);rintro e w9 ⟨rfl,hb⟩;replace BK288:=Za (Zk (g:=gb288) (o:= .cells #[.int .i64 a1_0,.int .i64 a1_1,.int .i64 a1_2] 62 (0,0)) z9_12 hb);replace HB:=Za (Zi z9_2 hb);(try clear hb);(try clear hb2);(try clear hk);(try clear hi))))
   go_meet
   case rel=>exact⟨_,(!t290),z9_8,H',⟨by first|omega|exact Nat.le_refl _⟩,⟨by(with_reducible repeat(first|refine blk_drewN ?_ _|refine blk_drew ?_|refine blk_alloc ?_ _));exact BK288.out⟩,⟨by repeat(first|(with_reducible first|exact HB.out|apply Zh|apply Ze|apply Zd|refine Zf ?_ GE288.out)|exact HB.out)⟩⟩
  ·replace c6:=Bool.eq_false_iff.mpr c6
   subst c6
   rw[if_neg (show ¬(false=true) by decide)] at H
   have H':=Za H
   clear H
   go_wp2_with (first|(go_at_call 28;(with_reducible refine(impl_VarsOk.calls _ _ l0 false _ ?side1 ?side2 A5.out).mono ?_);(case side1=>exact z9_1);(case side2=>exact z9_7);rintro e w' ⟨rfl,⟨nd,rfl⟩⟩;(try first|exact⟨rfl,_,Zq _ _ _⟩|exact⟨rfl,_,Eq.trans (Zq _ _ _) (congrArg (World.drewN _) (Nat.add_assoc _ _ _))⟩)))
   repeat(go_quiet (first|(go_at_call 28;(with_reducible refine(impl_VarsOk.calls _ _ l0 false _ ?side1 ?side2 A5.out).mono ?_);(case side1=>exact z9_1);(case side2=>exact z9_7);rintro e w' ⟨rfl,⟨nd,rfl⟩⟩;(try first|exact⟨rfl,_,Zq _ _ _⟩|exact⟨rfl,_,Eq.trans (Zq _ _ _) (congrArg (World.drewN _) (Nat.add_assoc _ _ _))⟩)));try go_wp2_with (first|(go_at_call 28;(with_reducible refine(impl_VarsOk.calls _ _ l0 false _ ?side1 ?side2 A5.out).mono ?_);(case side1=>exact z9_1);(case side2=>exact z9_7);rintro e w' ⟨rfl,⟨nd,rfl⟩⟩;(try first|exact⟨rfl,_,Zq _ _ _⟩|exact⟨rfl,_,Eq.trans (Zq _ _ _) (congrArg (World.drewN _) (Nat.add_assoc _ _ _))⟩))))
   go_meet
   case rel=>exact⟨_,(true),z9_8,H',⟨by first|omega|exact Nat.le_refl _⟩,⟨by(with_reducible repeat(first|refine blk_drewN ?_ _|refine blk_drew ?_|refine blk_alloc ?_ _));exact BK288.out⟩,⟨by repeat(first|(with_reducible first|exact HB.out|apply Zh|apply Ze|apply Zd|refine Zf ?_ GE288.out)|exact HB.out)⟩⟩
 case rest=>
  clear HC3
  obtain⟨kq,x14_2,rfl,HA,HJ2,BK288,HB⟩:=hcut
  cases kq with
  |zero=>exact absurd HA.out (by simp[impl_EvalExpr.j0])
  |succ kj2=>
   have H:=HA.out
   clear HA
   simp only[impl_EvalExpr.j0] at H
   by_cases c10:x14_2=true
   ·subst c10
    rw[if_pos rfl] at H
    obtain rfl:=Zj H
    go_wp2
    repeat(go_quiet (fail);try go_wp2)
    go_ret
    exact⟨by first|rfl|(simp[errW_none,errW_some]<;>rfl)|(simp[*,errW_none,errW_some]<;>rfl)|(simp[*,errW_none,errW_some,i64_w];done),by repeat(first|(with_reducible first|exact HB.out|apply Zh|apply Ze|apply Zd|refine Zf ?_ GE288.out)|exact HB.out)⟩
   ·replace c10:=Bool.eq_false_iff.mpr c10
    subst c10
    rw[if_neg (show ¬(false=true) by decide)] at H
    replace H:=Zl H
    obtain⟨t291,A110,H⟩:=H
    replace H:((impl_operand.f l0 a1_2).bind fun t292=>(if a1_0=1 then ((impl_AddValues.f t291 t292).bind fun t293=>(some t293)) else (if a1_0=2 then ((impl_SubValues.f t291 t292).bind fun t294=>(some t294)) else (if a1_0=3 then ((impl_MulValues.f t291 t292).bind fun t295=>(some t295)) else (if a1_0=4 then (some (mn t291 t292)) else (if a1_0=5 then (some (mx t291 t292)) else (if a1_0=6 then ((impl_bit.f (decide (t291<t292))).bind fun t296=>(some t296)) else ((impl_bit.f (t291==t292)).bind fun t297=>(some t297)))))))))=some r:=H
    have A11:=Za A110
    clear A110
    replace H:=Zl H
    obtain⟨t292,A120,H⟩:=H
    replace H:(if a1_0=1 then ((impl_AddValues.f t291 t292).bind fun t293=>(some t293)) else (if a1_0=2 then ((impl_SubValues.f t291 t292).bind fun t294=>(some t294)) else (if a1_0=3 then ((impl_MulValues.f t291 t292).bind fun t295=>(some t295)) else (if a1_0=4 then (some (mn t291 t292)) else (if a1_0=5 then (some (mx t291 t292)) else (if a1_0=6 then ((impl_bit.f (decide (t291<t292))).bind fun t296=>(some t296)) else ((impl_bit.f (t291==t292)).bind fun t297=>(some t297))))))))=some r:=H
    have A12:=Za A120
    clear A120
    by_cases c13:a1_0=1
    ·rw[if_pos c13] at H
     have c13b0:(a1_0==1)=true:=beq_iff_eq.mpr c13
     have c13b1:(a1_0 != 1)=false:=bne_eq_false_iff_eq.mpr c13
     clear c13
     replace H:=Zl H
     obtain⟨t293,A140,H⟩:=H
     replace H:(some t293)=some r:=H
     have A14:=Za A140
     clear A140
     obtain rfl:=Zj H
     have hcz15_0:wc.cell? ⟨gb288,0,none⟩=some (.int .i64 a1_0):=(Zb BK288.out 0).trans rfl
     have hcz15_1:wc.cell? ⟨gb288,1,none⟩=some (.int .i64 a1_1):=(Zb BK288.out 1).trans rfl
     have hcz15_2:wc.cell? ⟨gb288,2,none⟩=some (.int .i64 a1_2):=(Zb BK288.out 2).trans rfl
     have hfz15_0:=Zc BK288.out 0
     have hfz15_1:=Zc BK288.out 1
     have hfz15_2:=Zc BK288.out 2
     go_wp2_with (first|(go_at_call 76;(with_reducible refine(impl_operand.calls _ _ l0 a1_1 t291 _ ?side1 ?side2 A11.out).mono ?_);(case side1=>exact z9_1);(case side2=>exact z9_7);rintro e w' ⟨rfl,⟨nd,rfl⟩⟩;(try first|exact⟨rfl,_,Zq _ _ _⟩|exact⟨rfl,_,Eq.trans (Zq _ _ _) (congrArg (World.drewN _) (Nat.add_assoc _ _ _))⟩))|(go_at_call 76;(with_reducible refine(impl_operand.calls _ _ l0 a1_2 t292 _ ?side1 ?side2 A12.out).mono ?_);(case side1=>exact z9_0);(case side2=>exact z9_7);rintro e w' ⟨rfl,⟨nd,rfl⟩⟩;(try first|exact⟨rfl,_,Zq _ _ _⟩|exact⟨rfl,_,Eq.trans (Zq _ _ _) (congrArg (World.drewN _) (Nat.add_assoc _ _ _))⟩))|(go_at_call 62;(with_reducible refine(impl_AddValues.calls t291 t292 t293 _ A14.out).mono ?_);rintro e w' ⟨rfl,⟨nd,rfl⟩⟩;(try first|exact⟨rfl,_,Zq _ _ _⟩|exact⟨rfl,_,Eq.trans (Zq _ _ _) (congrArg (World.drewN _) (Nat.add_assoc _ _ _))⟩)))
     repeat(go_quiet (first|(go_at_call 76;(with_reducible refine(impl_operand.calls _ _ l0 a1_1 t291 _ ?side1 ?side2 A11.out).mono ?_);(case side1=>exact z9_1);(case side2=>exact z9_7);rintro e w' ⟨rfl,⟨nd,rfl⟩⟩;(try first|exact⟨rfl,_,Zq _ _ _⟩|exact⟨rfl,_,Eq.trans (Zq _ _ _) (congrArg (World.drewN _) (Nat.add_assoc _ _ _))⟩))|(go_at_call 76;(with_reducible refine(impl_operand.calls _ _ l0 a1_2 t292 _ ?side1 ?side2 A12.out).mono ?_);(case side1=>exact z9_0);(case side2=>exact z9_7);rintro e w' ⟨rfl,⟨nd,rfl⟩⟩;(try first|exact⟨rfl,_,Zq _ _ _⟩|exact⟨rfl,_,Eq.trans (Zq _ _ _) (congrArg (World.drewN _) (Nat.add_assoc _ _ _))⟩))|(go_at_call 62;(with_reducible refine(impl_AddValues.calls t291 t292 t293 _ A14.out).mono ?_);rintro e w' ⟨rfl,⟨nd,rfl⟩⟩;(try first|exact⟨rfl,_,Zq _ _ _⟩|exact⟨rfl,_,Eq.trans (Zq _ _ _) (congrArg (World.drewN _) (Nat.add_assoc _ _ _))⟩)));try go_wp2_with (first|(go_at_call 76;(with_reducible refine(impl_operand.calls _ _ l0 a1_1 t291 _ ?side1 ?side2 A11.out).mono ?_);(case side1=>exact z9_1);(case side2=>exact z9_7);rintro e w' ⟨rfl,⟨nd,rfl⟩⟩;(try first|exact⟨rfl,_,Zq _ _ _⟩|exact⟨rfl,_,Eq.trans (Zq _ _ _) (congrArg (World.drewN _) (Nat.add_assoc _ _ _))⟩))|(go_at_call 76;(with_reducible refine(impl_operand.calls _ _ l0 a1_2 t292 _ ?side1 ?side2 A12.out).mono ?_);(case side1=>exact z9_0);(case side2=>exact z9_7);rintro e w' ⟨rfl,⟨nd,rfl⟩⟩;(try first|exact⟨rfl,_,Zq _ _ _⟩|exact⟨rfl,_,Eq.trans (Zq _ _ _) (congrArg (World.drewN _) (Nat.add_assoc _ _ _))⟩))|(go_at_call 62;(with_reducible refine(impl_AddValues.calls t291 t292 t293 _ A14.out).mono ?_);rintro e w' ⟨rfl,⟨nd,rfl⟩⟩;(try first|exact⟨rfl,_,Zq _ _ _⟩|exact⟨rfl,_,Eq.trans (Zq _ _ _) (congrArg (World.drewN _) (Nat.add_assoc _ _ _))⟩))))
     go_ret
     exact⟨by first|rfl|(simp[errW_none,errW_some]<;>rfl)|(simp[*,errW_none,errW_some]<;>rfl)|(simp[*,errW_none,errW_some,i64_w];done),by repeat(first|(with_reducible first|exact HB.out|apply Zh|apply Ze|apply Zd|refine Zf ?_ GE288.out)|exact HB.out)⟩
    ·rw[if_neg c13] at H
     have c13b0:(a1_0==1)=false:=beq_eq_false_iff_ne.mpr c13
     have c13b1:(a1_0 != 1)=true:=bne_iff_ne.mpr c13
     by_cases c16:a1_0=2
     ·rw[if_pos c16] at H
      have c16b0:(a1_0==2)=true:=beq_iff_eq.mpr c16
      have c16b1:(a1_0 != 2)=false:=bne_eq_false_iff_eq.mpr c16
      clear c16
      replace H:=Zl H
      obtain⟨t294,A170,H⟩:=H
      replace H:(some t294)=some r:=H
      have A17:=Za A170
      clear A170
      obtain rfl:=Zj H
      have hcz18_0:wc.cell? ⟨gb288,0,none⟩=some (.int .i64 a1_0):=(Zb BK288.out 0).trans rfl
      have hcz18_1:wc.cell? ⟨gb288,1,none⟩=some (.int .i64 a1_1):=(Zb BK288.out 1).trans rfl
      have hcz18_2:wc.cell? ⟨gb288,2,none⟩=some (.int .i64 a1_2):=(Zb BK288.out 2).trans rfl
      have hfz18_0:=Zc BK288.out 0
      have hfz18_1:=Zc BK288.out 1
      have hfz18_2:=Zc BK288.out 2
      go_wp2_with (first|(go_at_call 76;(with_reducible refine(impl_operand.calls _ _ l0 a1_1 t291 _ ?side1 ?side2 A11.out).mono ?_);(case side1=>exact z9_1);(case side2=>exact z9_7);rintro e w' ⟨rfl,⟨nd,rfl⟩⟩;(try first|exact⟨rfl,_,Zq _ _ _⟩|exact⟨rfl,_,Eq.trans (Zq _ _ _) (congrArg (World.drewN _) (Nat.add_assoc _ _ _))⟩))|(go_at_call 76;(with_reducible refine(impl_operand.calls _ _ l0 a1_2 t292 _ ?side1 ?side2 A12.out).mono ?_);(case side1=>exact z9_0);(case side2=>exact z9_7);rintro e w' ⟨rfl,⟨nd,rfl⟩⟩;(try first|exact⟨rfl,_,Zq _ _ _⟩|exact⟨rfl,_,Eq.trans (Zq _ _ _) (congrArg (World.drewN _) (Nat.add_assoc _ _ _))⟩))|(go_at_call 77;(with_reducible refine(impl_SubValues.calls t291 t292 t294 _ A17.out).mono ?_);rintro e w' ⟨rfl,⟨nd,rfl⟩⟩;(try first|exact⟨rfl,_,Zq _ _ _⟩|exact⟨rfl,_,Eq.trans (Zq _ _ _) (congrArg (World.drewN _) (Nat.add_assoc _ _ _))⟩)))
      repeat(go_quiet (first|(go_at_call 76;(with_reducible refine(impl_operand.calls _ _ l0 a1_1 t291 _ ?side1 ?side2 A11.out).mono ?_);(case side1=>exact z9_1);(case side2=>exact z9_7);rintro e w' ⟨rfl,⟨nd,rfl⟩⟩;(try first|exact⟨rfl,_,Zq _ _ _⟩|exact⟨rfl,_,Eq.trans (Zq _ _ _) (congrArg (World.drewN _) (Nat.add_assoc _ _ _))⟩))|(go_at_call 76;(with_reducible refine(impl_operand.calls _ _ l0 a1_2 t292 _ ?side1 ?side2 A12.out).mono ?_);(case side1=>exact z9_0);(case side2=>exact z9_7);rintro e w' ⟨rfl,⟨nd,rfl⟩⟩;(try first|exact⟨rfl,_,Zq _ _ _⟩|exact⟨rfl,_,Eq.trans (Zq _ _ _) (congrArg (World.drewN _) (Nat.add_assoc _ _ _))⟩))|(go_at_call 77;(with_reducible refine(impl_SubValues.calls t291 t292 t294 _ A17.out).mono ?_);rintro e w' ⟨rfl,⟨nd,rfl⟩⟩;(try first|exact⟨rfl,_,Zq _ _ _⟩|exact⟨rfl,_,Eq.trans (Zq _ _ _) (congrArg (World.drewN _) (Nat.add_assoc _ _ _))⟩)));try go_wp2_with (first|(go_at_call 76;(with_reducible refine(impl_operand.calls _ _ l0 a1_1 t291 _ ?side1 ?side2 A11.out).mono ?_);(case side1=>exact z9_1);(case side2=>exact z9_7);rintro e w' ⟨rfl,⟨nd,rfl⟩⟩;(try first|exact⟨rfl,_,Zq _ _ _⟩|exact⟨rfl,_,Eq.trans (Zq _ _ _) (congrArg (World.drewN _) (Nat.add_assoc _ _ _))⟩))|(go_at_call 76;(with_reducible refine(impl_operand.calls _ _ l0 a1_2 t292 _ ?side1 ?side2 A12.out).mono ?_);(case side1=>exact z9_0);(case side2=>exact z9_7);rintro e w' ⟨rfl,⟨nd,rfl⟩⟩;(try first|exact⟨rfl,_,Zq _ _ _⟩|exact⟨rfl,_,Eq.trans (Zq _ _ _) (congrArg (World.drewN _) (Nat.add_assoc _ _ _))⟩))|(go_at_call 77;(with_reducible refine(impl_SubValues.calls t291 t292 t294 _ A17.out).mono ?_);rintro e w' ⟨rfl,⟨nd,rfl⟩⟩;(try first|exact⟨rfl,_,Zq _ _ _⟩|exact⟨rfl,_,Eq.trans (Zq _ _ _) (congrArg (World.drewN _) (Nat.add_assoc _ _ _))⟩))))
      go_ret
      exact⟨by first|rfl|(simp[errW_none,errW_some]<;>rfl)|(simp[*,errW_none,errW_some]<;>rfl)|(simp[*,errW_none,errW_some,i64_w];done),by repeat(first|(with_reducible first|exact HB.out|apply Zh|apply Ze|apply Zd|refine Zf ?_ GE288.out)|exact HB.out)⟩
     ·rw[if_neg c16] at H
      have c16b0:(a1_0==2)=false:=beq_eq_false_iff_ne.mpr c16
      have c16b1:(a1_0 != 2)=true:=bne_iff_ne.mpr c16
      by_cases c19:a1_0=3
      ·rw[if_pos c19] at H
       have c19b0:(a1_0==3)=true:=beq_iff_eq.mpr c19
       have c19b1:(a1_0 != 3)=false:=bne_eq_false_iff_eq.mpr c19
       clear c19
       replace H:=Zl H
       obtain⟨t295,A200,H⟩:=H
       replace H:(some t295)=some r:=H
       have A20:=Za A200
       clear A200
       obtain rfl:=Zj H
       have hcz21_0:wc.cell? ⟨gb288,0,none⟩=some (.int .i64 a1_0):=(Zb BK288.out 0).trans rfl
       have hcz21_1:wc.cell? ⟨gb288,1,none⟩=some (.int .i64 a1_1):=(Zb BK288.out 1).trans rfl
       have hcz21_2:wc.cell? ⟨gb288,2,none⟩=some (.int .i64 a1_2):=(Zb BK288.out 2).trans rfl
       have hfz21_0:=Zc BK288.out 0
       have hfz21_1:=Zc BK288.out 1
       have hfz21_2:=Zc BK288.out 2
       go_wp2_with (first|(go_at_call 76;(with_reducible refine(impl_operand.calls _ _ l0 a1_1 t291 _ ?side1 ?side2 A11.out).mono ?_);(case side1=>exact z9_1);(case side2=>exact z9_7);rintro e w' ⟨rfl,⟨nd,rfl⟩⟩;(try first|exact⟨rfl,_,Zq _ _ _⟩|exact⟨rfl,_,Eq.trans (Zq _ _ _) (congrArg (World.drewN _) (Nat.add_assoc _ _ _))⟩))|(go_at_call 76;(with_reducible refine(impl_operand.calls _ _ l0 a1_2 t292 _ ?side1 ?side2 A12.out).mono ?_);(case side1=>exact z9_0);(case side2=>exact z9_7);rintro e w' ⟨rfl,⟨nd,rfl⟩⟩;(try first|exact⟨rfl,_,Zq _ _ _⟩|exact⟨rfl,_,Eq.trans (Zq _ _ _) (congrArg (World.drewN _) (Nat.add_assoc _ _ _))⟩))|(go_at_call 78;(with_reducible refine(impl_MulValues.calls t291 t292 t295 _ A20.out).mono ?_);rintro e w' ⟨rfl,⟨nd,rfl⟩⟩;(try first|exact⟨rfl,_,Zq _ _ _⟩|exact⟨rfl,_,Eq.trans (Zq _ _ _) (congrArg (World.drewN _) (Nat.add_assoc _ _ _))⟩)))
       repeat(go_quiet (first|(go_at_call 76;(with_reducible refine(impl_operand.calls _ _ l0 a1_1 t291 _ ?side1 ?side2 A11.out).mono ?_);(case side1=>exact z9_1);(case side2=>exact z9_7);rintro e w' ⟨rfl,⟨nd,rfl⟩⟩;(try first|exact⟨rfl,_,Zq _ _ _⟩|exact⟨rfl,_,Eq.trans (Zq _ _ _) (congrArg (World.drewN _) (Nat.add_assoc _ _ _))⟩))|(go_at_call 76;(with_reducible refine(impl_operand.calls _ _ l0 a1_2 t292 _ ?side1 ?side2 A12.out).mono ?_);(case side1=>exact z9_0);(case side2=>exact z9_7);rintro e w' ⟨rfl,⟨nd,rfl⟩⟩;(try first|exact⟨rfl,_,Zq _ _ _⟩|exact⟨rfl,_,Eq.trans (Zq _ _ _) (congrArg (World.drewN _) (Nat.add_assoc _ _ _))⟩))|(go_at_call 78;(with_reducible refine(impl_MulValues.calls t291 t292 t295 _ A20.out).mono ?_);rintro e w' ⟨rfl,⟨nd,rfl⟩⟩;(try first|exact⟨rfl,_,Zq _ _ _⟩|exact⟨rfl,_,Eq.trans (Zq _ _ _) (congrArg (World.drewN _) (Nat.add_assoc _ _ _))⟩)));try go_wp2_with (first|(go_at_call 76;(with_reducible refine(impl_operand.calls _ _ l0 a1_1 t291 _ ?side1 ?side2 A11.out).mono ?_);(case side1=>exact z9_1);(case side2=>exact z9_7);rintro e w' ⟨rfl,⟨nd,rfl⟩⟩;(try first|exact⟨rfl,_,Zq _ _ _⟩|exact⟨rfl,_,Eq.trans (Zq _ _ _) (congrArg (World.drewN _) (Nat.add_assoc _ _ _))⟩))|(go_at_call 76;(with_reducible refine(impl_operand.calls _ _ l0 a1_2 t292 _ ?side1 ?side2 A12.out).mono ?_);(case side1=>exact z9_0);(case side2=>exact z9_7);rintro e w' ⟨rfl,⟨nd,rfl⟩⟩;(try first|exact⟨rfl,_,Zq _ _ _⟩|exact⟨rfl,_,Eq.trans (Zq _ _ _) (congrArg (World.drewN _) (Nat.add_assoc _ _ _))⟩))|(go_at_call 78;(with_reducible refine(impl_MulValues.calls t291 t292 t295 _ A20.out).mono ?_);rintro e w' ⟨rfl,⟨nd,rfl⟩⟩;(try first|exact⟨rfl,_,Zq _ _ _⟩|exact⟨rfl,_,Eq.trans (Zq _ _ _) (congrArg (World.drewN _) (Nat.add_assoc _ _ _))⟩))))
       go_ret
       exact⟨by first|rfl|(simp[errW_none,errW_some]<;>rfl)|(simp[*,errW_none,errW_some]<;>rfl)|(simp[*,errW_none,errW_some,i64_w];done),by repeat(first|(with_reducible first|exact HB.out|apply Zh|apply Ze|apply Zd|refine Zf ?_ GE288.out)|exact HB.out)⟩
      ·rw[if_neg c19] at H
       have c19b0:(a1_0==3)=false:=beq_eq_false_iff_ne.mpr c19
       have c19b1:(a1_0 != 3)=true:=bne_iff_ne.mpr c19
       by_cases c22:a1_0=4
       ·rw[if_pos c22] at H
        have c22b0:(a1_0==4)=true:=beq_iff_eq.mpr c22
        have c22b1:(a1_0 != 4)=false:=bne_eq_false_iff_eq.mpr c22
        clear c22
        obtain⟨ji23,hji23⟩:∃j_:Int,(mn t291 t292)=j_:=⟨_,rfl⟩
        replace H:(some ji23)=some r:=by first|(rw[hji23] at H;exact H)|(simp only[hji23] at H ⊢;exact H)
        (try rw[hji23] at A11)
        (try rw[hji23] at A12)
        have hji23_:(if t292<t291 then t292 else t291)=ji23:=hji23
        obtain rfl:=Zj H
        have hcz24_0:wc.cell? ⟨gb288,0,none⟩=some (.int .i64 a1_0):=(Zb BK288.out 0).trans rfl
        have hcz24_1:wc.cell? ⟨gb288,1,none⟩=some (.int .i64 a1_1):=(Zb BK288.out 1).trans rfl
        have hcz24_2:wc.cell? ⟨gb288,2,none⟩=some (.int .i64 a1_2):=(Zb BK288.out 2).trans rfl
        have hfz24_0:=Zc BK288.out 0
        have hfz24_1:=Zc BK288.out 1
        have hfz24_2:=Zc BK288.out 2
        go_wp2_with (first|(go_at_call 76;(with_reducible refine(impl_operand.calls _ _ l0 a1_1 t291 _ ?side1 ?side2 A11.out).mono ?_);(case side1=>exact z9_1);(case side2=>exact z9_7);rintro e w' ⟨rfl,⟨nd,rfl⟩⟩;(try first|exact⟨rfl,_,Zq _ _ _⟩|exact⟨rfl,_,Eq.trans (Zq _ _ _) (congrArg (World.drewN _) (Nat.add_assoc _ _ _))⟩))|(go_at_call 76;(with_reducible refine(impl_operand.calls _ _ l0 a1_2 t292 _ ?side1 ?side2 A12.out).mono ?_);(case side1=>exact z9_0);(case side2=>exact z9_7);rintro e w' ⟨rfl,⟨nd,rfl⟩⟩;(try first|exact⟨rfl,_,Zq _ _ _⟩|exact⟨rfl,_,Eq.trans (Zq _ _ _) (congrArg (World.drewN _) (Nat.add_assoc _ _ _))⟩)))
        repeat(go_quiet (first|(go_at_call 76;(with_reducible refine(impl_operand.calls _ _ l0 a1_1 t291 _ ?side1 ?side2 A11.out).mono ?_);(case side1=>exact z9_1);(case side2=>exact z9_7);rintro e w' ⟨rfl,⟨nd,rfl⟩⟩;(try first|exact⟨rfl,_,Zq _ _ _⟩|exact⟨rfl,_,Eq.trans (Zq _ _ _) (congrArg (World.drewN _) (Nat.add_assoc _ _ _))⟩))|(go_at_call 76;(with_reducible refine(impl_operand.calls _ _ l0 a1_2 t292 _ ?side1 ?side2 A12.out).mono ?_);(case side1=>exact z9_0);(case side2=>exact z9_7);rintro e w' ⟨rfl,⟨nd,rfl⟩⟩;(try first|exact⟨rfl,_,Zq _ _ _⟩|exact⟨rfl,_,Eq.trans (Zq _ _ _) (congrArg (World.drewN _) (Nat.add_assoc _ _ _))⟩)));try go_wp2_with (first|(go_at_call 76;(with_reducible refine(impl_operand.calls _ _ l0 a1_1 t291 _ ?side1 ?side2 A11.out).mono ?_);(case side1=>exact z9_1);(case side2=>exact z9_7);rintro e w' ⟨rfl,⟨nd,rfl⟩⟩;(try first|exact⟨rfl,_,Zq _ _ _⟩|exact⟨rfl,_,Eq.trans (Zq _ _ _) (congrArg (World.drewN _) (Nat.add_assoc _ _ _))⟩))|(go_at_call 76;(with_reducible refine(impl_operand.calls _ _ l0 a1_2 t292 _ ?side1 ?side2 A12.out).mono ?_);(case side1=>exact z9_0);(case side2=>exact z9_7);rintro e w' ⟨rfl,⟨nd,rfl⟩⟩;(try first|exact⟨rfl,_,Zq _ _ _⟩|exact⟨rfl,_,Eq.trans (Zq _ _ _) (congrArg (World.drewN _) (Nat.add_assoc _ _ _))⟩))))
        go_ret
        exact⟨by first|rfl|(simp[errW_none,errW_some]<;>rfl)|(simp only[←hji23];first|rfl|(simp[errW_none,errW_some]<;>rfl))|(simp[*,errW_none,errW_some]<;>rfl)|(simp[*,errW_none,errW_some,i64_w];done),by repeat(first|(with_reducible first|exact HB.out|apply Zh|apply Ze|apply Zd|refine Zf ?_ GE288.out)|exact HB.out)⟩
       ·rw[if_neg c22] at H
        have c22b0:(a1_0==4)=false:=beq_eq_false_iff_ne.mpr c22
        have c22b1:(a1_0 != 4)=true:=bne_iff_ne.mpr c22
        by_cases c25:a1_0=5
        ·rw[if_pos c25] at H
         have c25b0:(a1_0==5)=true:=beq_iff_eq.mpr c25
         have c25b1:(a1_0 != 5)=false:=bne_eq_false_iff_eq.mpr c25
         clear c25
         obtain⟨ji26,hji26⟩:∃j_:Int,(mx t291 t292)=j_:=⟨_,rfl⟩
         replace H:(some ji26)=some r:=by first|(rw[hji26] at H;exact H)|(simp only[hji26] at H ⊢;exact H)
         (try rw[hji26] at A11)
         (try rw[hji26] at A12)
         have hji26_:(if t291<t292 then t292 else t291)=ji26:=hji26
         obtain rfl:=Zj H
         have hcz27_0:wc.cell? ⟨gb288,0,none⟩=some (.int .i64 a1_0):=(Zb BK288.out 0).trans rfl
         have hcz27_1:wc.cell? ⟨gb288,1,none⟩=some (.int .i64 a1_1):=(Zb BK288.out 1).trans rfl
         have hcz27_2:wc.cell? ⟨gb288,2,none⟩=some (.int .i64 a1_2):=(Zb BK288.out 2).trans rfl
         have hfz27_0:=Zc BK288.out 0
         have hfz27_1:=Zc BK288.out 1
         have hfz27_2:=Zc BK288.out 2
         go_wp2_with (first|(go_at_call 76;(with_reducible refine(impl_operand.calls _ _ l0 a1_1 t291 _ ?side1 ?side2 A11.out).mono ?_);(case side1=>exact z9_1);(case side2=>exact z9_7);rintro e w' ⟨rfl,⟨nd,rfl⟩⟩;(try first|exact⟨rfl,_,Zq _ _ _⟩|exact⟨rfl,_,Eq.trans (Zq _ _ _) (congrArg (World.drewN _) (Nat.add_assoc _ _ _))⟩))|(go_at_call 76;(with_reducible refine(impl_operand.calls _ _ l0 a1_2 t292 _ ?side1 ?side2 A12.out).mono ?_);(case side1=>exact z9_0);(case side2=>exact z9_7);rintro e w' ⟨rfl,⟨nd,rfl⟩⟩;(try first|exact⟨rfl,_,Zq _ _ _⟩|exact⟨rfl,_,Eq.trans (Zq _ _ _) (congrArg (World.drewN _) (Nat.add_assoc _ _ _))⟩)))
         repeat(go_quiet (first|(go_at_call 76;(with_reducible refine(impl_operand.calls _ _ l0 a1_1 t291 _ ?side1 ?side2 A11.out).mono ?_);(case side1=>exact z9_1);(case side2=>exact z9_7);rintro e w' ⟨rfl,⟨nd,rfl⟩⟩;(try first|exact⟨rfl,_,Zq _ _ _⟩|exact⟨rfl,_,Eq.trans (Zq _ _ _) (congrArg (World.drewN _) (Nat.add_assoc _ _ _))⟩))|(go_at_call 76;(with_reducible refine(impl_operand.calls _ _ l0 a1_2 t292 _ ?side1 ?side2 A12.out).mono ?_);(case side1=>exact z9_0);(case side2=>exact z9_7);rintro e w' ⟨rfl,⟨nd,rfl⟩⟩;(try first|exact⟨rfl,_,Zq _ _ _⟩|exact⟨rfl,_,Eq.trans (Zq _ _ _) (congrArg (World.drewN _) (Nat.add_assoc _ _ _))⟩)));try go_wp2_with (first|(go_at_call 76;(with_reducible refine(impl_operand.calls _ _ l0 a1_1 t291 _ ?side1 ?side2 A11.out).mono ?_);(case side1=>exact z9_1);(case side2=>exact z9_7);rintro e w' ⟨rfl,⟨nd,rfl⟩⟩;(try first|exact⟨rfl,_,Zq _ _ _⟩|exact⟨rfl,_,Eq.trans (Zq _ _ _) (congrArg (World.drewN _) (Nat.add_assoc _ _ _))⟩))|(go_at_call 76;(with_reducible refine(impl_operand.calls _ _ l0 a1_2 t292 _ ?side1 ?side2 A12.out).mono ?_);(case side1=>exact z9_0);(case side2=>exact z9_7);rintro e w' ⟨rfl,⟨nd,rfl⟩⟩;(try first|exact⟨rfl,_,Zq _ _ _⟩|exact⟨rfl,_,Eq.trans (Zq _ _ _) (congrArg (World.drewN _) (Nat.add_assoc _ _ _))⟩))))
         go_ret
         exact⟨by first|rfl|(simp[errW_none,errW_some]<;>rfl)|(simp only[←hji26];first|rfl|(simp[errW_none,errW_some]<;>rfl))|(simp[*,errW_none,errW_some]<;>rfl)|(simp[*,errW_none,errW_some,i64_w];done),by repeat(first|(with_reducible first|exact HB.out|apply Zh|apply Ze|apply Zd|refine Zf ?_ GE288.out)|exact HB.out)⟩
        ·rw[if_neg c25] at H
         have c25b0:(a1_0==5)=false:=beq_eq_false_iff_ne.mpr c25
         have c25b1:(a1_0 != 5)=true:=bne_iff_ne.mpr c25
         by_cases c28:a1_0=6
         ·rw[if_pos c28] at H
          have c28b0:(a1_0==6)=true:=beq_iff_eq.mpr c28
          have c28b1:(a1_0 != 6)=false:=bne_eq_false_iff_eq.mpr c28
          clear c28
          replace H:=Zl H
          obtain⟨t296,A290,H⟩:=H
          replace H:(some t296)=some r:=H
          have A29:=Za A290
          clear A290
          obtain rfl:=Zj H
          have hcz30_0:wc.cell? ⟨gb288,0,none⟩=some (.int .i64 a1_0):=(Zb BK288.out 0).trans rfl
          have hcz30_1:wc.cell? ⟨gb288,1,none⟩=some (.int .i64 a1_1):=(Zb BK288.out 1).trans rfl
          have hcz30_2:wc.cell? ⟨gb288,2,none⟩=some (.int .i64 a1_2):=(Zb BK288.out 2).trans rfl
          have hfz30_0:=Zc BK288.out 0
          have hfz30_1:=Zc BK288.out 1
          have hfz30_2:=Zc BK288.out 2
          go_wp2_with (first|(go_at_call 76;(with_reducible refine(impl_operand.calls _ _ l0 a1_1 t291 _ ?side1 ?side2 A11.out).mono ?_);(case side1=>exact z9_1);(case side2=>exact z9_7);rintro e w' ⟨rfl,⟨nd,rfl⟩⟩;(try first|exact⟨rfl,_,Zq _ _ _⟩|exact⟨rfl,_,Eq.trans (Zq _ _ _) (congrArg (World.drewN _) (Nat.add_assoc _ _ _))⟩))|(go_at_call 76;(with_reducible refine(impl_operand.calls _ _ l0 a1_2 t292 _ ?side1 ?side2 A12.out).mono ?_);(case side1=>exact z9_0);(case side2=>exact z9_7);rintro e w' ⟨rfl,⟨nd,rfl⟩⟩;(try first|exact⟨rfl,_,Zq _ _ _⟩|exact⟨rfl,_,Eq.trans (Zq _ _ _) (congrArg (World.drewN _) (Nat.add_assoc _ _ _))⟩))|(go_at_call 74;(with_reducible refine(impl_bit.calls (decide (t291<t292)) t296 _ A29.out).mono ?_);rintro e w' ⟨rfl,⟨nd,rfl⟩⟩;(try first|exact⟨rfl,_,Zq _ _ _⟩|exact⟨rfl,_,Eq.trans (Zq _ _ _) (congrArg (World.drewN _) (Nat.add_assoc _ _ _))⟩)))
          repeat(go_quiet (first|(go_at_call 76;(with_reducible refine(impl_operand.calls _ _ l0 a1_1 t291 _ ?side1 ?side2 A11.out).mono ?_);(case side1=>exact z9_1);(case side2=>exact z9_7);rintro e w' ⟨rfl,⟨nd,rfl⟩⟩;(try first|exact⟨rfl,_,Zq _ _ _⟩|exact⟨rfl,_,Eq.trans (Zq _ _ _) (congrArg (World.drewN _) (Nat.add_assoc _ _ _))⟩))|(go_at_call 76;(with_reducible refine(impl_operand.calls _ _ l0 a1_2 t292 _ ?side1 ?side2 A12.out).mono ?_);(case side1=>exact z9_0);(case side2=>exact z9_7);rintro e w' ⟨rfl,⟨nd,rfl⟩⟩;(try first|exact⟨rfl,_,Zq _ _ _⟩|exact⟨rfl,_,Eq.trans (Zq _ _ _) (congrArg (World.drewN _) (Nat.add_assoc _ _ _))⟩))|(go_at_call 74;(with_reducible refine(impl_bit.calls (decide (t291<t292)) t296 _ A29.out).mono ?_);rintro e w' ⟨rfl,⟨nd,rfl⟩⟩;(try first|exact⟨rfl,_,Zq _ _ _⟩|exact⟨rfl,_,Eq.trans (Zq _ _ _) (congrArg (World.drewN _) (Nat.add_assoc _ _ _))⟩)));try go_wp2_with (first|(go_at_call 76;(with_reducible refine(impl_operand.calls _ _ l0 a1_1 t291 _ ?side1 ?side2 A11.out).mono ?_);(case side1=>exact z9_1);(case side2=>exact z9_7);rintro e w' ⟨rfl,⟨nd,rfl⟩⟩;(try first|exact⟨rfl,_,Zq _ _ _⟩|exact⟨rfl,_,Eq.trans (Zq _ _ _) (congrArg (World.drewN _) (Nat.add_assoc _ _ _))⟩))|(go_at_call 76;(with_reducible refine(impl_operand.calls _ _ l0 a1_2 t292 _ ?side1 ?side2 A12.out).mono ?_);(case side1=>exact z9_0);(case side2=>exact z9_7);rintro e w' ⟨rfl,⟨nd,rfl⟩⟩;(try first|exact⟨rfl,_,Zq _ _ _⟩|exact⟨rfl,_,Eq.trans (Zq _ _ _) (congrArg (World.drewN _) (Nat.add_assoc _ _ _))⟩))|(go_at_call 74;(with_reducible refine(impl_bit.calls (decide (t291<t292)) t296 _ A29.out).mono ?_);rintro e w' ⟨rfl,⟨nd,rfl⟩⟩;(try first|exact⟨rfl,_,Zq _ _ _⟩|exact⟨rfl,_,Eq.trans (Zq _ _ _) (congrArg (World.drewN _) (Nat.add_assoc _ _ _))⟩))))
          go_ret
          exact⟨by first|rfl|(simp[errW_none,errW_some]<;>rfl)|(simp[*,errW_none,errW_some]<;>rfl)|(simp[*,errW_none,errW_some,i64_w];done),by repeat(first|(with_reducible first|exact HB.out|apply Zh|apply Ze|apply Zd|refine Zf ?_ GE288.out)|exact HB.out)⟩
         ·rw[if_neg c28] at H
          have c28b0:(a1_0==6)=false:=beq_eq_false_iff_ne.mpr c28
          have c28b1:(a1_0 != 6)=true:=bne_iff_ne.mpr c28
          replace H:=Zl H
          obtain⟨t297,A310,H⟩:=H
          replace H:(some t297)=some r:=H
          have A31:=Za A310
          clear A310
          obtain rfl:=Zj H
          have hcz32_0:wc.cell? ⟨gb288,0,none⟩=some (.int .i64 a1_0):=(Zb BK288.out 0).trans rfl
          have hcz32_1:wc.cell? ⟨gb288,1,none⟩=some (.int .i64 a1_1):=(Zb BK288.out 1).trans rfl
          have hcz32_2:wc.cell? ⟨gb288,2,none⟩=some (.int .i64 a1_2):=(Zb BK288.out 2).trans rfl
          have hfz32_0:=Zc BK288.out 0
          have hfz32_1:=Zc BK288.out 1
          have hfz32_2:=Zc BK288.out 2
          go_wp2_with (first|(go_at_call 76;(with_reducible refine(impl_operand.calls _ _ l0 a1_1 t291 _ ?side1 ?side2 A11.out).mono ?_);(case side1=>exact z9_1);(case side2=>exact z9_7);rintro e w' ⟨rfl,⟨nd,rfl⟩⟩;(try first|exact⟨rfl,_,Zq _ _ _⟩|exact⟨rfl,_,Eq.trans (Zq _ _ _) (congrArg (World.drewN _) (Nat.add_assoc _ _ _))⟩))|(go_at_call 76;(with_reducible refine(impl_operand.calls _ _ l0 a1_2 t292 _ ?side1 ?side2 A12.out).mono ?_);(case side1=>exact z9_0);(case side2=>exact z9_7);rintro e w' ⟨rfl,⟨nd,rfl⟩⟩;(try first|exact⟨rfl,_,Zq _ _ _⟩|exact⟨rfl,_,Eq.trans (Zq _ _ _) (congrArg (World.drewN _) (Nat.add_assoc _ _ _))⟩))|(go_at_call 74;(with_reducible refine(impl_bit.calls (t291==t292) t297 _ A31.out).mono ?_);rintro e w' ⟨rfl,⟨nd,rfl⟩⟩;(try first|exact⟨rfl,_,Zq _ _ _⟩|exact⟨rfl,_,Eq.trans (Zq _ _ _) (congrArg (World.drewN _) (Nat.add_assoc _ _ _))⟩)))
          repeat(go_quiet (first|(go_at_call 76;(with_reducible refine(impl_operand.calls _ _ l0 a1_1 t291 _ ?side1 ?side2 A11.out).mono ?_);(case side1=>exact z9_1);(case side2=>exact z9_7);rintro e w' ⟨rfl,⟨nd,rfl⟩⟩;(try first|exact⟨rfl,_,Zq _ _ _⟩|exact⟨rfl,_,Eq.trans (Zq _ _ _) (congrArg (World.drewN _) (Nat.add_assoc _ _ _))⟩))|(go_at_call 76;(with_reducible refine(impl_operand.calls _ _ l0 a1_2 t292 _ ?side1 ?side2 A12.out).mono ?_);(case side1=>exact z9_0);(case side2=>exact z9_7);rintro e w' ⟨rfl,⟨nd,rfl⟩⟩;(try first|exact⟨rfl,_,Zq _ _ _⟩|exact⟨rfl,_,Eq.trans (Zq _ _ _) (congrArg (World.drewN _) (Nat.add_assoc _ _ _))⟩))|(go_at_call 74;(with_reducible refine(impl_bit.calls (t291==t292) t297 _ A31.out).mono ?_);rintro e w' ⟨rfl,⟨nd,rfl⟩⟩;(try first|exact⟨rfl,_,Zq _ _ _⟩|exact⟨rfl,_,Eq.trans (Zq _ _ _) (congrArg (World.drewN _) (Nat.add_assoc _ _ _))⟩)));try go_wp2_with (first|(go_at_call 76;(with_reducible refine(impl_operand.calls _ _ l0 a1_1 t291 _ ?side1 ?side2 A11.out).mono ?_);(case side1=>exact z9_1);(case side2=>exact z9_7);rintro e w' ⟨rfl,⟨nd,rfl⟩⟩;(try first|exact⟨rfl,_,Zq _ _ _⟩|exact⟨rfl,_,Eq.trans (Zq _ _ _) (congrArg (World.drewN _) (Nat.add_assoc _ _ _))⟩))|(go_at_call 76;(with_reducible refine(impl_operand.calls _ _ l0 a1_2 t292 _ ?side1 ?side2 A12.out).mono ?_);(case side1=>exact z9_0);(case side2=>exact z9_7);rintro e w' ⟨rfl,⟨nd,rfl⟩⟩;(try first|exact⟨rfl,_,Zq _ _ _⟩|exact⟨rfl,_,Eq.trans (Zq _ _ _) (congrArg (World.drewN _) (Nat.add_assoc _ _ _))⟩))|(go_at_call 74;(with_reducible refine(impl_bit.calls (t291==t292) t297 _ A31.out).mono ?_);rintro e w' ⟨rfl,⟨nd,rfl⟩⟩;(try first|exact⟨rfl,_,Zq _ _ _⟩|exact⟨rfl,_,Eq.trans (Zq _ _ _) (congrArg (World.drewN _) (Nat.add_assoc _ _ _))⟩))))
          go_ret
          exact⟨by first|rfl|(simp[errW_none,errW_some]<;>rfl)|(simp[*,errW_none,errW_some]<;>rfl)|(simp[*,errW_none,errW_some,i64_w];done),by repeat(first|(with_reducible first|exact HB.out|apply Zh|apply Ze|apply Zd|refine Zf ?_ GE288.out)|exact HB.out)⟩
-- NOT PRINTED: function 52 (impl_effect_1)
def impl_NextTask.f (k:Nat) (l0_0:List (S64)) (l1:List Int) (a2:Int):Option (Int):=(impl_hasTask.f k l0_0 a2).bind fun t299=>(if t299=true then ((impl_VarsOk.f l1).bind fun t300=>(if t300=true then (if 0≤a2 then (if a2<(l0_0.length:Int) then ((impl_EvalExpr.f k l1 ((rd_T64 l0_0 a2).f1.f0) ((rd_T64 l0_0 a2).f1.f1) ((rd_T64 l0_0 a2).f1.f2)).bind fun t302=>(if (l0_0.length:Int)=0 then (none) else (some (Int.tmod (wrap64 ((Int.tmod t302 (l0_0.length:Int))+(l0_0.length:Int))) (l0_0.length:Int))))) else (none)) else (none)) else (some (-1)))) else (some (-1)))
set_option maxHeartbeats 8000000 in
set_option maxRecDepth 100000 in
theorem impl_NextTask.calls (k:Nat) (A0_0:Option Addr) (c0_0:Nat) (l0_0:List (S64)) (A1:Option Addr) (c1:Nat) (l1:List Int) (a2:Int) (r:Int) (w:World) (hr0_0:Kd.C k64 w A0_0 l0_0.length l0_0) (hc0_0:l0_0.length≤c0_0) (hr1:Kd.C (Kd.int .i64) w A1 l1.length l1) (hc1:l1.length≤c1) (h:impl_NextTask.f k l0_0 l1 a2=some r):
  Calls Try.prog 54 #[.agg #[.slice A0_0 l0_0.length c0_0],.slice A1 l1.length c1,.int .i64 a2] w fun e w'=>e= .returned (.int .i64 r)∧Below w.heap.size w w':=by
 have hu33:=Try.underlying33
 have hu62:=Try.underlying62
 have HR0_0:=Za hr0_0
 have HC0_0:=Za hc0_0
 clear hr0_0 hc0_0
 have HR1:=Za hr1
 have HC1:=Za hc1
 clear hr1 hc1
 have HB:=Za (Ya w.heap.size w)
 have H:((impl_hasTask.f k l0_0 a2).bind fun t299=>(if t299=true then ((impl_VarsOk.f l1).bind fun t300=>(if t300=true then (if 0≤a2 then (if a2<(l0_0.length:Int) then ((impl_EvalExpr.f k l1 ((rd_T64 l0_0 a2).f1.f0) ((rd_T64 l0_0 a2).f1.f1) ((rd_T64 l0_0 a2).f1.f2)).bind fun t302=>(if (l0_0.length:Int)=0 then (none) else (some (Int.tmod (wrap64 ((Int.tmod t302 (l0_0.length:Int))+(l0_0.length:Int))) (l0_0.length:Int))))) else (none)) else (none)) else (some (-1)))) else (some (-1))))=some r:=h
 clear h
 replace H:=Zl H
 obtain⟨t299,A40,H⟩:=H
 replace H:(if t299=true then ((impl_VarsOk.f l1).bind fun t300=>(if t300=true then (if 0≤a2 then (if a2<(l0_0.length:Int) then ((impl_EvalExpr.f k l1 ((rd_T64 l0_0 a2).f1.f0) ((rd_T64 l0_0 a2).f1.f1) ((rd_T64 l0_0 a2).f1.f2)).bind fun t302=>(if (l0_0.length:Int)=0 then (none) else (some (Int.tmod (wrap64 ((Int.tmod t302 (l0_0.length:Int))+(l0_0.length:Int))) (l0_0.length:Int))))) else (none)) else (none)) else (some (-1)))) else (some (-1)))=some r:=H
 have A4:=Za A40
 clear A40
 by_cases c5:t299=true
 ·subst c5
  rw[if_pos rfl] at H
  replace H:=Zl H
  obtain⟨t300,A60,H⟩:=H
  replace H:(if t300=true then (if 0≤a2 then (if a2<(l0_0.length:Int) then ((impl_EvalExpr.f k l1 ((rd_T64 l0_0 a2).f1.f0) ((rd_T64 l0_0 a2).f1.f1) ((rd_T64 l0_0 a2).f1.f2)).bind fun t302=>(if (l0_0.length:Int)=0 then (none) else (some (Int.tmod (wrap64 ((Int.tmod t302 (l0_0.length:Int))+(l0_0.length:Int))) (l0_0.length:Int))))) else (none)) else (none)) else (some (-1)))=some r:=H
  have A6:=Za A60
  clear A60
  by_cases c7:t300=true
  ·subst c7
   rw[if_pos rfl] at H
   by_cases c8:0≤a2
   ·rw[if_pos c8] at H
    have c8b0:decide (0≤a2)=true:=Zt c8
    clear c8
    by_cases c9:a2<(l0_0.length:Int)
    ·rw[if_pos c9] at H
     have c9b0:decide (a2<(l0_0.length:Int))=true:=Zt c9
     clear c9
     replace H:=Zl H
     obtain⟨t302,A100,H⟩:=H
     replace H:(if (l0_0.length:Int)=0 then (none) else (some (Int.tmod (wrap64 ((Int.tmod t302 (l0_0.length:Int))+(l0_0.length:Int))) (l0_0.length:Int))))=some r:=H
     have A10:=Za A100
     clear A100
     by_cases c11:(l0_0.length:Int)=0
     ·rw[if_pos c11] at H
      exact absurd H (by simp)
     ·rw[if_neg c11] at H
      have c11b0:((l0_0.length:Int)==0)=false:=beq_eq_false_iff_ne.mpr c11
      have c11b1:((l0_0.length:Int) != 0)=true:=bne_iff_ne.mpr c11
      have c11b2:¬(l0_0=[]):=fun h_=>c11 (by rw[h_];rfl)
      obtain rfl:=Zj H
      go_enter Try.func54,Try.ntmps54
      go_wp2_with (first|((with_reducible refine Zp (N:=3) rfl ?_);refine Zr ?hg (N:=3) ?hd (cs:= #[.slice A0_0 l0_0.length c0_0]) (t:=33) ?hr ?_;(case hd=>rfl);(case hg=>rfl);(case hr=>exact z9_9);intro gb298 hg w12 hbox hb;have BK298:=Za (hbox);have GW298:=Za ((z9_13:w.heap.size≤gb298));have GE298:=Za ((z9_13:w.heap.size≤gb298));replace HB:=Za (Zi z9_3 hb);clear hb hbox hg;have hcz13_0:w12.cell? ⟨gb298,0,none⟩=some (.slice A0_0 l0_0.length c0_0):=(Zb BK298.out 0).trans rfl;have hfz13_0:=Zc BK298.out 0)|((first|((with_reducible refine gate_callee (f:=27) rfl ?_);refine goesL_ (some 10) rfl rfl Try.func27 (by kernel_rfl) rfl #[.agg #[.slice A0_0 l0_0.length c0_0],.int .i64 a2] rfl z9_4 ?_;(with_reducible refine(impl_hasTask.calls k _ _ l0_0 a2 true _ ?side1 ?side2 A4.out).mono ?_))|(go_at_call 27;(with_reducible refine(impl_hasTask.calls k _ _ l0_0 a2 true _ ?side1 ?side2 A4.out).mono ?_)));(case side1=>exact z9_10);(case side2=>exact HC0_0.out);rintro e w14 ⟨rfl,hb⟩;(first|refine⟨_,rfl,?_⟩|skip);replace BK298:=Za (Zk (g:=gb298) (o:= .cells #[.slice A0_0 l0_0.length c0_0] 33 (0,0)) z9_11 hb);replace HB:=Za (Zi z9_5 hb);(try clear hb);(try clear hb2);(try clear hk);(try clear hi))|(go_at_call 28;(with_reducible refine(impl_VarsOk.calls _ _ l1 true _ ?side1 ?side2 A6.out).mono ?_);(case side1=>repeat(first|exact(Yb HR1.out HB.out)|(with_reducible refine Yd ?_ _)|(with_reducible refine Ye ?_ _)|(with_reducible refine Yf ?_)));(case side2=>exact HC1.out);rintro e w' ⟨rfl,⟨nd,rfl⟩⟩;have hcz15_0:w14.cell? ⟨gb298,0,none⟩=some (.slice A0_0 l0_0.length c0_0):=(Zb BK298.out 0).trans rfl;have hfz15_0:=Zc BK298.out 0;have p301:0≤(a2:Int):=Zs z9_6;have q301:a2<(l0_0.length:Int):=Zs z9_6;obtain⟨ad301,A301_0,c301_0,e301,hx301_0,hx301_1,hx301_2,hx301_3,hl301_0,hi301_0⟩:=at_T64 HR0_0.out a2 p301 q301;cases e301;replace hx301_0:=(HB.out.cell (Zg w _ hx301_0)).trans hx301_0;replace hx301_1:=(HB.out.cell (Zg w _ hx301_1)).trans hx301_1;replace hx301_2:=(HB.out.cell (Zg w _ hx301_2)).trans hx301_2;replace hx301_3:=(HB.out.cell (Zg w _ hx301_3)).trans hx301_3;have HR301_0:=Za hi301_0;have HC301_0:=Za hl301_0;clear hi301_0 hl301_0;replace p301:=eq_true p301;replace q301:=eq_true q301)|((first|((with_reducible refine gate_callee (f:=53) rfl ?_);refine goesL_ (some 27) rfl rfl Try.func53 (by kernel_rfl) rfl #[.slice A1 l1.length c1,.agg #[.int .i64 ((rd_T64 l0_0 a2).f1.f0),.int .i64 ((rd_T64 l0_0 a2).f1.f1),.int .i64 ((rd_T64 l0_0 a2).f1.f2)]] rfl z9_4 ?_;(with_reducible refine(impl_EvalExpr.calls k _ _ l1 ((rd_T64 l0_0 a2).f1.f0) ((rd_T64 l0_0 a2).f1.f1) ((rd_T64 l0_0 a2).f1.f2) t302 _ ?side1 ?side2 A10.out).mono ?_))|(go_at_call 53;(with_reducible refine(impl_EvalExpr.calls k _ _ l1 ((rd_T64 l0_0 a2).f1.f0) ((rd_T64 l0_0 a2).f1.f1) ((rd_T64 l0_0 a2).f1.f2) t302 _ ?side1 ?side2 A10.out).mono ?_)));(case side1=>repeat(first|exact(Yb HR1.out z9_5)|(with_reducible refine Yd ?_ _)|(with_reducible refine Ye ?_ _)|(with_reducible refine Yf ?_)));(case side2=>exact HC1.out);rintro e w16 ⟨rfl,hb⟩;(first|refine⟨_,rfl,?_⟩|skip);replace BK298:=Za (Zk (g:=gb298) (o:= .cells #[.slice (some ad301) l0_0.length c0_0] 33 (0,0)) z9_11 hb);replace HB:=Za (Zi z9_5 hb);(try clear hb);(try clear hb2);(try clear hk);(try clear hi)))
      go_ret
      exact⟨by first|rfl|(simp[errW_none,errW_some]<;>rfl)|(simp[*,errW_none,errW_some]<;>rfl)|(simp[*,errW_none,errW_some,i64_w];done),by repeat(first|(with_reducible first|exact HB.out|apply Zh|apply Ze|apply Zd|refine Zf ?_ GE298.out)|exact HB.out)⟩
    ·rw[if_neg c9] at H
     exact absurd H (by simp)
   ·rw[if_neg c8] at H
    exact absurd H (by simp)
  ·replace c7:=Bool.eq_false_iff.mpr c7
   subst c7
   rw[if_neg (show ¬(false=true) by decide)] at H
   obtain rfl:=Zj H
   go_enter Try.func54,Try.ntmps54
   go_wp2_with (first|((with_reducible refine Zp (N:=3) rfl ?_);refine Zr ?hg (N:=3) ?hd (cs:= #[.slice A0_0 l0_0.length c0_0]) (t:=33) ?hr ?_;(case hd=>rfl);(case hg=>rfl);(case hr=>exact z9_9);intro gb298 hg w17 hbox hb;have BK298:=Za (hbox);have GW298:=Za ((z9_13:w.heap.size≤gb298));have GE298:=Za ((z9_13:w.heap.size≤gb298));replace HB:=Za (Zi z9_3 hb);clear hb hbox hg;have hcz18_0:w17.cell? ⟨gb298,0,none⟩=some (.slice A0_0 l0_0.length c0_0):=(Zb BK298.out 0).trans rfl;have hfz18_0:=Zc BK298.out 0)|((first|((with_reducible refine gate_callee (f:=27) rfl ?_);refine goesL_ (some 10) rfl rfl Try.func27 (by kernel_rfl) rfl #[.agg #[.slice A0_0 l0_0.length c0_0],.int .i64 a2] rfl z9_4 ?_;(with_reducible refine(impl_hasTask.calls k _ _ l0_0 a2 true _ ?side1 ?side2 A4.out).mono ?_))|(go_at_call 27;(with_reducible refine(impl_hasTask.calls k _ _ l0_0 a2 true _ ?side1 ?side2 A4.out).mono ?_)));(case side1=>exact z9_10);(case side2=>exact HC0_0.out);rintro e w19 ⟨rfl,hb⟩;(first|refine⟨_,rfl,?_⟩|skip);replace BK298:=Za (Zk (g:=gb298) (o:= .cells #[.slice A0_0 l0_0.length c0_0] 33 (0,0)) z9_11 hb);replace HB:=Za (Zi z9_5 hb);(try clear hb);(try clear hb2);(try clear hk);(try clear hi))|(go_at_call 28;(with_reducible refine(impl_VarsOk.calls _ _ l1 false _ ?side1 ?side2 A6.out).mono ?_);(case side1=>repeat(first|exact(Yb HR1.out HB.out)|(with_reducible refine Yd ?_ _)|(with_reducible refine Ye ?_ _)|(with_reducible refine Yf ?_)));(case side2=>exact HC1.out);rintro e w' ⟨rfl,⟨nd,rfl⟩⟩))
   go_ret
   exact⟨by first|rfl|(simp[errW_none,errW_some]<;>rfl)|(simp[*,errW_none,errW_some]<;>rfl)|(simp[*,errW_none,errW_some,i64_w];done),by repeat(first|(with_reducible first|exact HB.out|apply Zh|apply Ze|apply Zd|refine Zf ?_ GE298.out)|exact HB.out)⟩
 ·replace c5:=Bool.eq_false_iff.mpr c5
  subst c5
  rw[if_neg (show ¬(false=true) by decide)] at H
  obtain rfl:=Zj H
  go_enter Try.func54,Try.ntmps54
  go_wp2_with (first|((with_reducible refine Zp (N:=3) rfl ?_);refine Zr ?hg (N:=3) ?hd (cs:= #[.slice A0_0 l0_0.length c0_0]) (t:=33) ?hr ?_;(case hd=>rfl);(case hg=>rfl);(case hr=>exact z9_9);intro gb298 hg w20 hbox hb;have BK298:=Za (hbox);have GW298:=Za ((z9_13:w.heap.size≤gb298));have GE298:=Za ((z9_13:w.heap.size≤gb298));replace HB:=Za (Zi z9_3 hb);clear hb hbox hg;have hcz21_0:w20.cell? ⟨gb298,0,none⟩=some (.slice A0_0 l0_0.length c0_0):=(Zb BK298.out 0).trans rfl;have hfz21_0:=Zc BK298.out 0)|((first|((with_reducible refine gate_callee (f:=27) rfl ?_);refine goesL_ (some 10) rfl rfl Try.func27 (by kernel_rfl) rfl #[.agg #[.slice A0_0 l0_0.length c0_0],.int .i64 a2] rfl z9_4 ?_;(with_reducible refine(impl_hasTask.calls k _ _ l0_0 a2 false _ ?side1 ?side2 A4.out).mono ?_))|(go_at_call 27;(with_reducible refine(impl_hasTask.calls k _ _ l0_0 a2 false _ ?side1 ?side2 A4.out).mono ?_)));(case side1=>exact z9_10);(case side2=>exact HC0_0.out);rintro e w22 ⟨rfl,hb⟩;(first|refine⟨_,rfl,?_⟩|skip);replace BK298:=Za (Zk (g:=gb298) (o:= .cells #[.slice A0_0 l0_0.length c0_0] 33 (0,0)) z9_11 hb);replace HB:=Za (Zi z9_5 hb);(try clear hb);(try clear hb2);(try clear hk);(try clear hi)))
  go_ret
  exact⟨by first|rfl|(simp[errW_none,errW_some]<;>rfl)|(simp[*,errW_none,errW_some]<;>rfl)|(simp[*,errW_none,errW_some,i64_w];done),by repeat(first|(with_reducible first|exact HB.out|apply Zh|apply Ze|apply Zd|refine Zf ?_ GE298.out)|exact HB.out)⟩
end Go.Proofs.Ytlolppaddphpoaa.G
