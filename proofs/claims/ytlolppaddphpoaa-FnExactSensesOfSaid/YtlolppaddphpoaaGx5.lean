/- Functions of the program as plain Lean functions, and that each call comes to its function's answer; written by a program of the session. No condition. -/
import Derived.Test.YtlolppaddphpoaaGx0
import Derived.Test.YtlolppaddphpoaaGx2
import Derived.Test.YtlolppaddphpoaaGx4
namespace Go.Proofs.Ytlolppaddphpoaa.G
open Go.RowKit Go.Proofs.YtlolppaddphpoaaW.PrintWords Go.Proofs.YtlolppaddphpoaaW.PrintLast Go.Proofs.YtlolppaddphpoaaW.PrintMore
attribute [local go_sem] max2_int min2_int max_two min_two max_three min_three max_four min_four   -- for this text's walks alone
set_option linter.unusedVariables false
set_option linter.unusedSimpArgs false
attribute [local go_sem high] eqA80
theorem z5_0 {P:Prop} (h:P:=by(try simp only[Yn,List.map_cons,List.map_nil]);first|done|rfl|(simp only[List.length_drop,List.length_take];rfl)):P:=h
theorem z5_1 {P:Prop} (h:P:=by repeat(first|(with_reducible first|exact HB.out|apply Zh|apply Ze|apply Zd)|exact HB.out)):P:=h
theorem z5_2 {P:Prop} (h:P:=by repeat(first|(with_reducible first|exact HB.out|apply Zh|apply Ze|apply Zd|refine Zf ?_ GE187.out)|exact HB.out)):P:=h
theorem z5_3 {P:Prop} (h:P:=by first|(with_reducible assumption)|assumption):P:=h
theorem z5_4 {P:Prop} (h:P:=by(with_reducible repeat(first|refine blk_drewN ?_ _|refine blk_drew ?_|refine blk_alloc ?_ _));exact BK187.out):P:=h
theorem z5_5 {P:Prop} (h:P:=by repeat(first|(with_reducible first|exact HB.out|apply Zh|apply Ze|apply Zd|refine Zf ?_ GE206.out)|exact HB.out)):P:=h
theorem z5_6 {P:Prop} (h:P:=by first|rfl|(simp;done)|(simp[*];done)):P:=h
theorem z5_7 {P:Prop} (h:P:=by kernel_rfl):P:=h
theorem z5_8 {P:Prop} (h:P:=by(with_reducible repeat(first|refine blk_drewN ?_ _|refine blk_drew ?_|refine blk_alloc ?_ _));exact BK206.out):P:=h
theorem z5_9 {P:Prop} (h:P:=by repeat(first|exact(Yb HR208_0.out HB.out)|(with_reducible refine Yd ?_ _)|(with_reducible refine Ye ?_ _)|(with_reducible refine Yf ?_))):P:=h
theorem z5_10 {P:Prop} (h:P:=by first|(go_simp;done)|(go_simp;rfl)):P:=h
theorem z5_11 {P:Prop} (h:P:=by rw[hg];exact(Zw z5_1)):P:=h
def spec_StmtOk.j0:Nat→Int→Bool→Int→Int→Int→Int→Int→Int→Option (Bool)
 |0,_,_,_,_,_,_,_,_=>none
 |k+1,x8,x29,x188000,x188001,x188002,x188003,x188004,x188005=>if x29=true then ((spec_ExprOk.f x188003 x188004 x188005).bind fun t198=>(some t198)) else (if x8=5 then ((spec_l01In.f x188002 1 5).bind fun t199=>(some t199)) else (some (x188000==6)))
def spec_StmtOk.f (k:Nat) (a0_0:Int) (a0_1:Int) (a0_2:Int) (a0_3:Int) (a0_4:Int) (a0_5:Int):Option (Bool):=(spec_l04Plain.f k a0_0 a0_1 a0_2 a0_3 a0_4 a0_5).bind fun bt188=>(if (!(a0_0==bt188.1)||(!(a0_1==bt188.2.1)||(!(a0_2==bt188.2.2.1)||((!(a0_3==bt188.2.2.2.1)||(!(a0_4==bt188.2.2.2.2.1)||(!(a0_5==bt188.2.2.2.2.2))))))))=true then (some false) else (if a0_0=1 then ((spec_l01In.f a0_1 0 7).bind fun t194=>(if t194=true then ((spec_ExprOk.f a0_3 a0_4 a0_5).bind fun t195=>(some t195)) else (some false))) else (if a0_0=2 then ((spec_l01In.f a0_1 0 7).bind fun t196=>(if t196=true then ((spec_l01In.f a0_2 0 3).bind fun t197=>(some t197)) else (some false))) else (if a0_0=3 then (spec_StmtOk.j0 k a0_0 (a0_0==3) a0_0 a0_1 a0_2 a0_3 a0_4 a0_5) else (spec_StmtOk.j0 k a0_0 (a0_0==4) a0_0 a0_1 a0_2 a0_3 a0_4 a0_5)))))
set_option maxHeartbeats 8000000 in
set_option maxRecDepth 100000 in
theorem spec_StmtOk.calls (k:Nat) (a0_0:Int) (a0_1:Int) (a0_2:Int) (a0_3:Int) (a0_4:Int) (a0_5:Int) (r:Bool) (w:World) (h:spec_StmtOk.f k a0_0 a0_1 a0_2 a0_3 a0_4 a0_5=some r):
  Calls Try.prog 64 #[.agg #[.int .i64 a0_0,.int .i64 a0_1,.int .i64 a0_2,.int .i64 a0_3,.int .i64 a0_4,.int .i64 a0_5]] w fun e w'=>e= .returned (.bool r)∧Below w.heap.size w w':=by
 have hu80:=Try.underlying80
 have hu62:=Try.underlying62
 have HB:=Za (Ya w.heap.size w)
 have H:((spec_l04Plain.f k a0_0 a0_1 a0_2 a0_3 a0_4 a0_5).bind fun bt188=>(if (!(a0_0==bt188.1)||(!(a0_1==bt188.2.1)||(!(a0_2==bt188.2.2.1)||((!(a0_3==bt188.2.2.2.1)||(!(a0_4==bt188.2.2.2.2.1)||(!(a0_5==bt188.2.2.2.2.2))))))))=true then (some false) else (if a0_0=1 then ((spec_l01In.f a0_1 0 7).bind fun t194=>(if t194=true then ((spec_ExprOk.f a0_3 a0_4 a0_5).bind fun t195=>(some t195)) else (some false))) else (if a0_0=2 then ((spec_l01In.f a0_1 0 7).bind fun t196=>(if t196=true then ((spec_l01In.f a0_2 0 3).bind fun t197=>(some t197)) else (some false))) else (if a0_0=3 then (spec_StmtOk.j0 k a0_0 (a0_0==3) a0_0 a0_1 a0_2 a0_3 a0_4 a0_5) else (spec_StmtOk.j0 k a0_0 (a0_0==4) a0_0 a0_1 a0_2 a0_3 a0_4 a0_5))))))=some r:=h
 clear h
 replace H:=Zl H
 obtain⟨⟨t188,t189,t190,t191,t192,t193⟩,A20,H⟩:=H
 replace H:(if (!(a0_0==t188)||(!(a0_1==t189)||(!(a0_2==t190)||((!(a0_3==t191)||(!(a0_4==t192)||(!(a0_5==t193))))))))=true then (some false) else (if a0_0=1 then ((spec_l01In.f a0_1 0 7).bind fun t194=>(if t194=true then ((spec_ExprOk.f a0_3 a0_4 a0_5).bind fun t195=>(some t195)) else (some false))) else (if a0_0=2 then ((spec_l01In.f a0_1 0 7).bind fun t196=>(if t196=true then ((spec_l01In.f a0_2 0 3).bind fun t197=>(some t197)) else (some false))) else (if a0_0=3 then (spec_StmtOk.j0 k a0_0 (a0_0==3) a0_0 a0_1 a0_2 a0_3 a0_4 a0_5) else (spec_StmtOk.j0 k a0_0 (a0_0==4) a0_0 a0_1 a0_2 a0_3 a0_4 a0_5)))))=some r:=H
 have A2:=Za A20
 clear A20
 by_cases c3:(!(a0_0==t188)||(!(a0_1==t189)||(!(a0_2==t190)||((!(a0_3==t191)||(!(a0_4==t192)||(!(a0_5==t193))))))))=true
 ·rw[if_pos c3] at H
  have c3b0:(!(a0_0==t188)||(!(a0_1==t189)||(!(a0_2==t190)||((!(a0_3==t191)||(!(a0_4==t192)||(!(a0_5==t193))))))))=true:=c3
  clear c3
  obtain rfl:=Zj H
  go_enter Try.func64,Try.ntmps64
  try go_wp2_with (first|((with_reducible refine Zp (N:=1) rfl ?_);refine Zr ?hg (N:=1) ?hd (cs:= #[.int .i64 a0_0,.int .i64 a0_1,.int .i64 a0_2,.int .i64 a0_3,.int .i64 a0_4,.int .i64 a0_5]) (t:=80) ?hr ?_;(case hd=>rfl);(case hg=>rfl);(case hr=>exact z5_10);intro gb187 hg w4 hbox hb;have BK187:=Za (hbox);have GW187:=Za ((z5_11:w.heap.size≤gb187));have GE187:=Za ((z5_11:w.heap.size≤gb187));replace HB:=Za (Zi z5_1 hb);clear hb hbox hg))
  have n0_:=Za (blk_drew BK187.out)
  have n1_:=Za (Zd HB.out)
  clear BK187
  clear HB
  have BK187:=n0_
  have HB:=n1_
  clear n0_ n1_
  refine start_ (n:=4) (S:=fun w'=>w'.cell? ⟨gb187,0,none⟩=some (.int .i64 a0_0)∧w'.cell? ⟨gb187,1,none⟩=some (.int .i64 a0_1)∧w'.cell? ⟨gb187,2,none⟩=some (.int .i64 a0_2)∧w'.cell? ⟨gb187,3,none⟩=some (.int .i64 a0_3)∧w'.cell? ⟨gb187,4,none⟩=some (.int .i64 a0_4)∧w'.cell? ⟨gb187,5,none⟩=some (.int .i64 a0_5)) (ds:=[]) #[false,false,false,false] z5_7 rfl rfl ⟨(Zb BK187.out 0).trans rfl,(Zb BK187.out 1).trans rfl,(Zb BK187.out 2).trans rfl,(Zb BK187.out 3).trans rfl,(Zb BK187.out 4).trans rfl,(Zb BK187.out 5).trans rfl⟩ (fun hHeld=> ?_)
  generalize w4.drew=w5 at BK187 HB hHeld ⊢
  refine take_ (i:=0) (N:=some 3) (v:= ?_) (a':= ?_) #[true,false,false,false] rfl rfl z5_7 (fun _ _ _ h=>h) (Or.inl ⟨by rfl,?_⟩) hHeld ?_ ?_
  rotate_left
  ·rintro w' ⟨s0,s1,s2,s3,s4,s5⟩
   go_simp
   with_reducible rfl
  rotate_left
  ·simp only[Act.put,Zm,Zn,Zo,i64_w,i32_w]
   rfl
  refine take_ (i:=1) (N:=some 4) (v:= ?_) (a':= ?_) #[true,true,false,false] rfl rfl z5_7 (fun _ _ _ h=>h) (Or.inl ⟨by rfl,?_⟩) hHeld ?_ ?_
  rotate_left
  ·rintro w' ⟨s0,s1,s2,s3,s4,s5⟩
   go_simp
   with_reducible rfl
  rotate_left
  ·simp only[Act.put,Zm,Zn,Zo,i64_w,i32_w]
   rfl
  refine one_ (i:=2) (N:=some 5) #[true,true,true,false] rfl rfl z5_7 (by decide) (fun K hK=> ?_)
  refine goes_ Try.func88 z5_7 rfl #[.agg #[.int .i64 a0_0,.int .i64 a0_1,.int .i64 a0_2,.int .i64 a0_3,.int .i64 a0_4,.int .i64 a0_5]] (by rfl) rfl rfl z5_0 ?_
  with_reducible refine(spec_l04Plain.calls k a0_0 a0_1 a0_2 a0_3 a0_4 a0_5 t188 t189 t190 t191 t192 t193 _ A2.out).mono ?_
  rintro e w6 ⟨rfl,hb⟩
  refine⟨_,rfl,?_⟩
  have n0_:=Za (Zk (g:=gb187) (o:= .cells #[.int .i64 a0_0,.int .i64 a0_1,.int .i64 a0_2,.int .i64 a0_3,.int .i64 a0_4,.int .i64 a0_5] 80 (0,0)) z5_4 hb)
  have n1_:=Za (Zi z5_2 hb)
  clear BK187
  clear HB
  have BK187:=n0_
  have HB:=n1_
  clear n0_ n1_
  (try clear hb)
  (try clear hb2)
  (try clear hk)
  (try clear hi)
  refine hK.out _ _ ⟨(Zb BK187.out 0).trans rfl,(Zb BK187.out 1).trans rfl,(Zb BK187.out 2).trans rfl,(Zb BK187.out 3).trans rfl,(Zb BK187.out 4).trans rfl,(Zb BK187.out 5).trans rfl⟩ (fun hHeld=> ?_)
  clear hK K
  refine norm_ (a':= ?_) ?_ ?_
  rotate_left
  ·show Act.put _ (some 5) _=_
   simp only[Act.put,Zm,Zn,Zo,i64_w,i32_w]
   rfl
  refine pure_ (i:=3) (N:=some 6) (v:= ?_) (a':= ?_) #[true,true,true,true] rfl rfl z5_7 (fun _ _ _ h=>h) (Or.inl ⟨by rfl,?_⟩) ?_ ?_
  rotate_left
  ·intro w'
   go_simp
   with_reducible rfl
  rotate_left
  ·simp only[Act.put,Zm,Zn,Zo,i64_w,i32_w]
   rfl
  refine done_ z5_7 ?_
  try go_wp2
  go_ret
  exact⟨by first|rfl|(simp[errW_none,errW_some]<;>rfl)|(simp[*,errW_none,errW_some]<;>rfl)|(simp[*,errW_none,errW_some,i64_w];done),by repeat(first|(with_reducible first|exact HB.out|apply Zh|apply Ze|apply Zd|refine Zf ?_ GE187.out)|exact HB.out)⟩
 ·rw[if_neg c3] at H
  have c3b0:(!(a0_0==t188)||(!(a0_1==t189)||(!(a0_2==t190)||((!(a0_3==t191)||(!(a0_4==t192)||(!(a0_5==t193))))))))=false:=by simpa using c3
  clear c3
  by_cases c7:a0_0=1
  ·rw[if_pos c7] at H
   have c7b0:(a0_0==1)=true:=beq_iff_eq.mpr c7
   have c7b1:(a0_0 != 1)=false:=bne_eq_false_iff_eq.mpr c7
   clear c7
   replace H:=Zl H
   obtain⟨t194,A80,H⟩:=H
   replace H:(if t194=true then ((spec_ExprOk.f a0_3 a0_4 a0_5).bind fun t195=>(some t195)) else (some false))=some r:=H
   have A8:=Za A80
   clear A80
   by_cases c9:t194=true
   ·subst c9
    rw[if_pos rfl] at H
    replace H:=Zl H
    obtain⟨t195,A100,H⟩:=H
    replace H:(some t195)=some r:=H
    have A10:=Za A100
    clear A100
    obtain rfl:=Zj H
    go_enter Try.func64,Try.ntmps64
    try go_wp2_with (first|((with_reducible refine Zp (N:=1) rfl ?_);refine Zr ?hg (N:=1) ?hd (cs:= #[.int .i64 a0_0,.int .i64 a0_1,.int .i64 a0_2,.int .i64 a0_3,.int .i64 a0_4,.int .i64 a0_5]) (t:=80) ?hr ?_;(case hd=>rfl);(case hg=>rfl);(case hr=>exact z5_10);intro gb187 hg w11 hbox hb;have BK187:=Za (hbox);have GW187:=Za ((z5_11:w.heap.size≤gb187));have GE187:=Za ((z5_11:w.heap.size≤gb187));replace HB:=Za (Zi z5_1 hb);clear hb hbox hg))
    have n0_:=Za (blk_drew BK187.out)
    have n1_:=Za (Zd HB.out)
    clear BK187
    clear HB
    have BK187:=n0_
    have HB:=n1_
    clear n0_ n1_
    refine start_ (n:=4) (S:=fun w'=>w'.cell? ⟨gb187,0,none⟩=some (.int .i64 a0_0)∧w'.cell? ⟨gb187,1,none⟩=some (.int .i64 a0_1)∧w'.cell? ⟨gb187,2,none⟩=some (.int .i64 a0_2)∧w'.cell? ⟨gb187,3,none⟩=some (.int .i64 a0_3)∧w'.cell? ⟨gb187,4,none⟩=some (.int .i64 a0_4)∧w'.cell? ⟨gb187,5,none⟩=some (.int .i64 a0_5)) (ds:=[]) #[false,false,false,false] z5_7 rfl rfl ⟨(Zb BK187.out 0).trans rfl,(Zb BK187.out 1).trans rfl,(Zb BK187.out 2).trans rfl,(Zb BK187.out 3).trans rfl,(Zb BK187.out 4).trans rfl,(Zb BK187.out 5).trans rfl⟩ (fun hHeld=> ?_)
    generalize w11.drew=w12 at BK187 HB hHeld ⊢
    refine take_ (i:=0) (N:=some 3) (v:= ?_) (a':= ?_) #[true,false,false,false] rfl rfl z5_7 (fun _ _ _ h=>h) (Or.inl ⟨by rfl,?_⟩) hHeld ?_ ?_
    rotate_left
    ·rintro w' ⟨s0,s1,s2,s3,s4,s5⟩
     go_simp
     with_reducible rfl
    rotate_left
    ·simp only[Act.put,Zm,Zn,Zo,i64_w,i32_w]
     rfl
    refine take_ (i:=1) (N:=some 4) (v:= ?_) (a':= ?_) #[true,true,false,false] rfl rfl z5_7 (fun _ _ _ h=>h) (Or.inl ⟨by rfl,?_⟩) hHeld ?_ ?_
    rotate_left
    ·rintro w' ⟨s0,s1,s2,s3,s4,s5⟩
     go_simp
     with_reducible rfl
    rotate_left
    ·simp only[Act.put,Zm,Zn,Zo,i64_w,i32_w]
     rfl
    refine one_ (i:=2) (N:=some 5) #[true,true,true,false] rfl rfl z5_7 (by decide) (fun K hK=> ?_)
    refine goes_ Try.func88 z5_7 rfl #[.agg #[.int .i64 a0_0,.int .i64 a0_1,.int .i64 a0_2,.int .i64 a0_3,.int .i64 a0_4,.int .i64 a0_5]] (by rfl) rfl rfl z5_0 ?_
    with_reducible refine(spec_l04Plain.calls k a0_0 a0_1 a0_2 a0_3 a0_4 a0_5 t188 t189 t190 t191 t192 t193 _ A2.out).mono ?_
    rintro e w13 ⟨rfl,hb⟩
    refine⟨_,rfl,?_⟩
    have n0_:=Za (Zk (g:=gb187) (o:= .cells #[.int .i64 a0_0,.int .i64 a0_1,.int .i64 a0_2,.int .i64 a0_3,.int .i64 a0_4,.int .i64 a0_5] 80 (0,0)) z5_4 hb)
    have n1_:=Za (Zi z5_2 hb)
    clear BK187
    clear HB
    have BK187:=n0_
    have HB:=n1_
    clear n0_ n1_
    (try clear hb)
    (try clear hb2)
    (try clear hk)
    (try clear hi)
    refine hK.out _ _ ⟨(Zb BK187.out 0).trans rfl,(Zb BK187.out 1).trans rfl,(Zb BK187.out 2).trans rfl,(Zb BK187.out 3).trans rfl,(Zb BK187.out 4).trans rfl,(Zb BK187.out 5).trans rfl⟩ (fun hHeld=> ?_)
    clear hK K
    refine norm_ (a':= ?_) ?_ ?_
    rotate_left
    ·show Act.put _ (some 5) _=_
     simp only[Act.put,Zm,Zn,Zo,i64_w,i32_w]
     rfl
    refine pure_ (i:=3) (N:=some 6) (v:= ?_) (a':= ?_) #[true,true,true,true] rfl rfl z5_7 (fun _ _ _ h=>h) (Or.inl ⟨by rfl,?_⟩) ?_ ?_
    rotate_left
    ·intro w'
     go_simp
     with_reducible rfl
    rotate_left
    ·simp only[Act.put,Zm,Zn,Zo,i64_w,i32_w]
     rfl
    refine done_ z5_7 ?_
    have hcz14_0:w13.cell? ⟨gb187,0,none⟩=some (.int .i64 a0_0):=(Zb BK187.out 0).trans rfl
    have hcz14_1:w13.cell? ⟨gb187,1,none⟩=some (.int .i64 a0_1):=(Zb BK187.out 1).trans rfl
    have hcz14_2:w13.cell? ⟨gb187,2,none⟩=some (.int .i64 a0_2):=(Zb BK187.out 2).trans rfl
    have hcz14_3:w13.cell? ⟨gb187,3,none⟩=some (.int .i64 a0_3):=(Zb BK187.out 3).trans rfl
    have hcz14_4:w13.cell? ⟨gb187,4,none⟩=some (.int .i64 a0_4):=(Zb BK187.out 4).trans rfl
    have hcz14_5:w13.cell? ⟨gb187,5,none⟩=some (.int .i64 a0_5):=(Zb BK187.out 5).trans rfl
    have hfz14_0:=Zc BK187.out 0
    have hfz14_1:=Zc BK187.out 1
    have hfz14_2:=Zc BK187.out 2
    have hfz14_3:=Zc BK187.out 3
    have hfz14_4:=Zc BK187.out 4
    have hfz14_5:=Zc BK187.out 5
    try go_wp2_with (first|((first|((with_reducible refine gate_callee (f:=23) rfl ?_);refine goesL_ (some 13) rfl rfl Try.func23 z5_7 rfl #[.int .i64 a0_1,.int .i64 0,.int .i64 7] rfl z5_0 ?_;(with_reducible refine(spec_l01In.calls a0_1 0 7 true _ A8.out).mono ?_))|(go_at_call 23;(with_reducible refine(spec_l01In.calls a0_1 0 7 true _ A8.out).mono ?_)));rintro e w' ⟨rfl,⟨nd,rfl⟩⟩;(first|refine⟨_,rfl,?_⟩|skip))|(go_at_call 41;(with_reducible refine(spec_ExprOk.calls a0_3 a0_4 a0_5 t195 _ A10.out).mono ?_);rintro e w15 ⟨rfl,hb⟩;replace BK187:=Za (Zk (g:=gb187) (o:= .cells #[.int .i64 a0_0,.int .i64 a0_1,.int .i64 a0_2,.int .i64 a0_3,.int .i64 a0_4,.int .i64 a0_5] 80 (0,0)) z5_4 hb);replace HB:=Za (Zi z5_2 hb);(try clear hb);(try clear hb2);(try clear hk);(try clear hi)))
    go_ret
    exact⟨by first|rfl|(simp[errW_none,errW_some]<;>rfl)|(simp[*,errW_none,errW_some]<;>rfl)|(simp[*,errW_none,errW_some,i64_w];done),by repeat(first|(with_reducible first|exact HB.out|apply Zh|apply Ze|apply Zd|refine Zf ?_ GE187.out)|exact HB.out)⟩
   ·replace c9:=Bool.eq_false_iff.mpr c9
    subst c9
    rw[if_neg (show ¬(false=true) by decide)] at H
    obtain rfl:=Zj H
    go_enter Try.func64,Try.ntmps64
    try go_wp2_with (first|((with_reducible refine Zp (N:=1) rfl ?_);refine Zr ?hg (N:=1) ?hd (cs:= #[.int .i64 a0_0,.int .i64 a0_1,.int .i64 a0_2,.int .i64 a0_3,.int .i64 a0_4,.int .i64 a0_5]) (t:=80) ?hr ?_;(case hd=>rfl);(case hg=>rfl);(case hr=>exact z5_10);intro gb187 hg w16 hbox hb;have BK187:=Za (hbox);have GW187:=Za ((z5_11:w.heap.size≤gb187));have GE187:=Za ((z5_11:w.heap.size≤gb187));replace HB:=Za (Zi z5_1 hb);clear hb hbox hg))
    have n0_:=Za (blk_drew BK187.out)
    have n1_:=Za (Zd HB.out)
    clear BK187
    clear HB
    have BK187:=n0_
    have HB:=n1_
    clear n0_ n1_
    refine start_ (n:=4) (S:=fun w'=>w'.cell? ⟨gb187,0,none⟩=some (.int .i64 a0_0)∧w'.cell? ⟨gb187,1,none⟩=some (.int .i64 a0_1)∧w'.cell? ⟨gb187,2,none⟩=some (.int .i64 a0_2)∧w'.cell? ⟨gb187,3,none⟩=some (.int .i64 a0_3)∧w'.cell? ⟨gb187,4,none⟩=some (.int .i64 a0_4)∧w'.cell? ⟨gb187,5,none⟩=some (.int .i64 a0_5)) (ds:=[]) #[false,false,false,false] z5_7 rfl rfl ⟨(Zb BK187.out 0).trans rfl,(Zb BK187.out 1).trans rfl,(Zb BK187.out 2).trans rfl,(Zb BK187.out 3).trans rfl,(Zb BK187.out 4).trans rfl,(Zb BK187.out 5).trans rfl⟩ (fun hHeld=> ?_)
    generalize w16.drew=w17 at BK187 HB hHeld ⊢
    refine take_ (i:=0) (N:=some 3) (v:= ?_) (a':= ?_) #[true,false,false,false] rfl rfl z5_7 (fun _ _ _ h=>h) (Or.inl ⟨by rfl,?_⟩) hHeld ?_ ?_
    rotate_left
    ·rintro w' ⟨s0,s1,s2,s3,s4,s5⟩
     go_simp
     with_reducible rfl
    rotate_left
    ·simp only[Act.put,Zm,Zn,Zo,i64_w,i32_w]
     rfl
    refine take_ (i:=1) (N:=some 4) (v:= ?_) (a':= ?_) #[true,true,false,false] rfl rfl z5_7 (fun _ _ _ h=>h) (Or.inl ⟨by rfl,?_⟩) hHeld ?_ ?_
    rotate_left
    ·rintro w' ⟨s0,s1,s2,s3,s4,s5⟩
     go_simp
     with_reducible rfl
    rotate_left
    ·simp only[Act.put,Zm,Zn,Zo,i64_w,i32_w]
     rfl
    refine one_ (i:=2) (N:=some 5) #[true,true,true,false] rfl rfl z5_7 (by decide) (fun K hK=> ?_)
    refine goes_ Try.func88 z5_7 rfl #[.agg #[.int .i64 a0_0,.int .i64 a0_1,.int .i64 a0_2,.int .i64 a0_3,.int .i64 a0_4,.int .i64 a0_5]] (by rfl) rfl rfl z5_0 ?_
    with_reducible refine(spec_l04Plain.calls k a0_0 a0_1 a0_2 a0_3 a0_4 a0_5 t188 t189 t190 t191 t192 t193 _ A2.out).mono ?_
    rintro e w18 ⟨rfl,hb⟩
    refine⟨_,rfl,?_⟩
    have n0_:=Za (Zk (g:=gb187) (o:= .cells #[.int .i64 a0_0,.int .i64 a0_1,.int .i64 a0_2,.int .i64 a0_3,.int .i64 a0_4,.int .i64 a0_5] 80 (0,0)) z5_4 hb)
    have n1_:=Za (Zi z5_2 hb)
    clear BK187
    clear HB
    have BK187:=n0_
    have HB:=n1_
    clear n0_ n1_
    (try clear hb)
    (try clear hb2)
    (try clear hk)
    (try clear hi)
    refine hK.out _ _ ⟨(Zb BK187.out 0).trans rfl,(Zb BK187.out 1).trans rfl,(Zb BK187.out 2).trans rfl,(Zb BK187.out 3).trans rfl,(Zb BK187.out 4).trans rfl,(Zb BK187.out 5).trans rfl⟩ (fun hHeld=> ?_)
    clear hK K
    refine norm_ (a':= ?_) ?_ ?_
    rotate_left
    ·show Act.put _ (some 5) _=_
     simp only[Act.put,Zm,Zn,Zo,i64_w,i32_w]
     rfl
    refine pure_ (i:=3) (N:=some 6) (v:= ?_) (a':= ?_) #[true,true,true,true] rfl rfl z5_7 (fun _ _ _ h=>h) (Or.inl ⟨by rfl,?_⟩) ?_ ?_
    rotate_left
    ·intro w'
     go_simp
     with_reducible rfl
    rotate_left
    ·simp only[Act.put,Zm,Zn,Zo,i64_w,i32_w]
     rfl
    refine done_ z5_7 ?_
    have hcz19_0:w18.cell? ⟨gb187,0,none⟩=some (.int .i64 a0_0):=(Zb BK187.out 0).trans rfl
    have hcz19_1:w18.cell? ⟨gb187,1,none⟩=some (.int .i64 a0_1):=(Zb BK187.out 1).trans rfl
    have hcz19_2:w18.cell? ⟨gb187,2,none⟩=some (.int .i64 a0_2):=(Zb BK187.out 2).trans rfl
    have hcz19_3:w18.cell? ⟨gb187,3,none⟩=some (.int .i64 a0_3):=(Zb BK187.out 3).trans rfl
    have hcz19_4:w18.cell? ⟨gb187,4,none⟩=some (.int .i64 a0_4):=(Zb BK187.out 4).trans rfl
    have hcz19_5:w18.cell? ⟨gb187,5,none⟩=some (.int .i64 a0_5):=(Zb BK187.out 5).trans rfl
    have hfz19_0:=Zc BK187.out 0
    have hfz19_1:=Zc BK187.out 1
    have hfz19_2:=Zc BK187.out 2
    have hfz19_3:=Zc BK187.out 3
    have hfz19_4:=Zc BK187.out 4
    have hfz19_5:=Zc BK187.out 5
    try go_wp2_with (first|((first|((with_reducible refine gate_callee (f:=23) rfl ?_);refine goesL_ (some 13) rfl rfl Try.func23 z5_7 rfl #[.int .i64 a0_1,.int .i64 0,.int .i64 7] rfl z5_0 ?_;(with_reducible refine(spec_l01In.calls a0_1 0 7 false _ A8.out).mono ?_))|(go_at_call 23;(with_reducible refine(spec_l01In.calls a0_1 0 7 false _ A8.out).mono ?_)));rintro e w' ⟨rfl,⟨nd,rfl⟩⟩;(first|refine⟨_,rfl,?_⟩|skip)))
    go_ret
    exact⟨by first|rfl|(simp[errW_none,errW_some]<;>rfl)|(simp[*,errW_none,errW_some]<;>rfl)|(simp[*,errW_none,errW_some,i64_w];done),by repeat(first|(with_reducible first|exact HB.out|apply Zh|apply Ze|apply Zd|refine Zf ?_ GE187.out)|exact HB.out)⟩
  ·rw[if_neg c7] at H
   have c7b0:(a0_0==1)=false:=beq_eq_false_iff_ne.mpr c7
   have c7b1:(a0_0 != 1)=true:=bne_iff_ne.mpr c7
   by_cases c20:a0_0=2
   ·rw[if_pos c20] at H
    have c20b0:(a0_0==2)=true:=beq_iff_eq.mpr c20
    have c20b1:(a0_0 != 2)=false:=bne_eq_false_iff_eq.mpr c20
    clear c20
    replace H:=Zl H
    obtain⟨t196,A210,H⟩:=H
    replace H:(if t196=true then ((spec_l01In.f a0_2 0 3).bind fun t197=>(some t197)) else (some false))=some r:=H
    have A21:=Za A210
    clear A210
    by_cases c22:t196=true
    ·subst c22
     rw[if_pos rfl] at H
     replace H:=Zl H
     obtain⟨t197,A230,H⟩:=H
     replace H:(some t197)=some r:=H
     have A23:=Za A230
     clear A230
     obtain rfl:=Zj H
     go_enter Try.func64,Try.ntmps64
     try go_wp2_with (first|((with_reducible refine Zp (N:=1) rfl ?_);refine Zr ?hg (N:=1) ?hd (cs:= #[.int .i64 a0_0,.int .i64 a0_1,.int .i64 a0_2,.int .i64 a0_3,.int .i64 a0_4,.int .i64 a0_5]) (t:=80) ?hr ?_;(case hd=>rfl);(case hg=>rfl);(case hr=>exact z5_10);intro gb187 hg w24 hbox hb;have BK187:=Za (hbox);have GW187:=Za ((z5_11:w.heap.size≤gb187));have GE187:=Za ((z5_11:w.heap.size≤gb187));replace HB:=Za (Zi z5_1 hb);clear hb hbox hg))
     have n0_:=Za (blk_drew BK187.out)
     have n1_:=Za (Zd HB.out)
     clear BK187
     clear HB
     have BK187:=n0_
     have HB:=n1_
     clear n0_ n1_
     refine start_ (n:=4) (S:=fun w'=>w'.cell? ⟨gb187,0,none⟩=some (.int .i64 a0_0)∧w'.cell? ⟨gb187,1,none⟩=some (.int .i64 a0_1)∧w'.cell? ⟨gb187,2,none⟩=some (.int .i64 a0_2)∧w'.cell? ⟨gb187,3,none⟩=some (.int .i64 a0_3)∧w'.cell? ⟨gb187,4,none⟩=some (.int .i64 a0_4)∧w'.cell? ⟨gb187,5,none⟩=some (.int .i64 a0_5)) (ds:=[]) #[false,false,false,false] z5_7 rfl rfl ⟨(Zb BK187.out 0).trans rfl,(Zb BK187.out 1).trans rfl,(Zb BK187.out 2).trans rfl,(Zb BK187.out 3).trans rfl,(Zb BK187.out 4).trans rfl,(Zb BK187.out 5).trans rfl⟩ (fun hHeld=> ?_)
     generalize w24.drew=w25 at BK187 HB hHeld ⊢
     refine take_ (i:=0) (N:=some 3) (v:= ?_) (a':= ?_) #[true,false,false,false] rfl rfl z5_7 (fun _ _ _ h=>h) (Or.inl ⟨by rfl,?_⟩) hHeld ?_ ?_
     rotate_left
     ·rintro w' ⟨s0,s1,s2,s3,s4,s5⟩
      go_simp
      with_reducible rfl
     rotate_left
     ·simp only[Act.put,Zm,Zn,Zo,i64_w,i32_w]
      rfl
     refine take_ (i:=1) (N:=some 4) (v:= ?_) (a':= ?_) #[true,true,false,false] rfl rfl z5_7 (fun _ _ _ h=>h) (Or.inl ⟨by rfl,?_⟩) hHeld ?_ ?_
     rotate_left
     ·rintro w' ⟨s0,s1,s2,s3,s4,s5⟩
      go_simp
      with_reducible rfl
     rotate_left
     ·simp only[Act.put,Zm,Zn,Zo,i64_w,i32_w]
      rfl
     refine one_ (i:=2) (N:=some 5) #[true,true,true,false] rfl rfl z5_7 (by decide) (fun K hK=> ?_)
     refine goes_ Try.func88 z5_7 rfl #[.agg #[.int .i64 a0_0,.int .i64 a0_1,.int .i64 a0_2,.int .i64 a0_3,.int .i64 a0_4,.int .i64 a0_5]] (by rfl) rfl rfl z5_0 ?_
     with_reducible refine(spec_l04Plain.calls k a0_0 a0_1 a0_2 a0_3 a0_4 a0_5 t188 t189 t190 t191 t192 t193 _ A2.out).mono ?_
     rintro e w26 ⟨rfl,hb⟩
     refine⟨_,rfl,?_⟩
     have n0_:=Za (Zk (g:=gb187) (o:= .cells #[.int .i64 a0_0,.int .i64 a0_1,.int .i64 a0_2,.int .i64 a0_3,.int .i64 a0_4,.int .i64 a0_5] 80 (0,0)) z5_4 hb)
     have n1_:=Za (Zi z5_2 hb)
     clear BK187
     clear HB
     have BK187:=n0_
     have HB:=n1_
     clear n0_ n1_
     (try clear hb)
     (try clear hb2)
     (try clear hk)
     (try clear hi)
     refine hK.out _ _ ⟨(Zb BK187.out 0).trans rfl,(Zb BK187.out 1).trans rfl,(Zb BK187.out 2).trans rfl,(Zb BK187.out 3).trans rfl,(Zb BK187.out 4).trans rfl,(Zb BK187.out 5).trans rfl⟩ (fun hHeld=> ?_)
     clear hK K
     refine norm_ (a':= ?_) ?_ ?_
     rotate_left
     ·show Act.put _ (some 5) _=_
      simp only[Act.put,Zm,Zn,Zo,i64_w,i32_w]
      rfl
     refine pure_ (i:=3) (N:=some 6) (v:= ?_) (a':= ?_) #[true,true,true,true] rfl rfl z5_7 (fun _ _ _ h=>h) (Or.inl ⟨by rfl,?_⟩) ?_ ?_
     rotate_left
     ·intro w'
      go_simp
      with_reducible rfl
     rotate_left
     ·simp only[Act.put,Zm,Zn,Zo,i64_w,i32_w]
      rfl
     refine done_ z5_7 ?_
     have hcz27_0:w26.cell? ⟨gb187,0,none⟩=some (.int .i64 a0_0):=(Zb BK187.out 0).trans rfl
     have hcz27_1:w26.cell? ⟨gb187,1,none⟩=some (.int .i64 a0_1):=(Zb BK187.out 1).trans rfl
     have hcz27_2:w26.cell? ⟨gb187,2,none⟩=some (.int .i64 a0_2):=(Zb BK187.out 2).trans rfl
     have hcz27_3:w26.cell? ⟨gb187,3,none⟩=some (.int .i64 a0_3):=(Zb BK187.out 3).trans rfl
     have hcz27_4:w26.cell? ⟨gb187,4,none⟩=some (.int .i64 a0_4):=(Zb BK187.out 4).trans rfl
     have hcz27_5:w26.cell? ⟨gb187,5,none⟩=some (.int .i64 a0_5):=(Zb BK187.out 5).trans rfl
     have hfz27_0:=Zc BK187.out 0
     have hfz27_1:=Zc BK187.out 1
     have hfz27_2:=Zc BK187.out 2
     have hfz27_3:=Zc BK187.out 3
     have hfz27_4:=Zc BK187.out 4
     have hfz27_5:=Zc BK187.out 5
     try go_wp2_with (first|((first|((with_reducible refine gate_callee (f:=23) rfl ?_);refine goesL_ (some 23) rfl rfl Try.func23 z5_7 rfl #[.int .i64 a0_1,.int .i64 0,.int .i64 7] rfl z5_0 ?_;(with_reducible refine(spec_l01In.calls a0_1 0 7 true _ A21.out).mono ?_))|(go_at_call 23;(with_reducible refine(spec_l01In.calls a0_1 0 7 true _ A21.out).mono ?_)));rintro e w' ⟨rfl,⟨nd,rfl⟩⟩;(first|refine⟨_,rfl,?_⟩|skip))|(go_at_call 23;(with_reducible refine(spec_l01In.calls a0_2 0 3 t197 _ A23.out).mono ?_);rintro e w' ⟨rfl,⟨nd,rfl⟩⟩))
     go_ret
     exact⟨by first|rfl|(simp[errW_none,errW_some]<;>rfl)|(simp[*,errW_none,errW_some]<;>rfl)|(simp[*,errW_none,errW_some,i64_w];done),by repeat(first|(with_reducible first|exact HB.out|apply Zh|apply Ze|apply Zd|refine Zf ?_ GE187.out)|exact HB.out)⟩
    ·replace c22:=Bool.eq_false_iff.mpr c22
     subst c22
     rw[if_neg (show ¬(false=true) by decide)] at H
     obtain rfl:=Zj H
     go_enter Try.func64,Try.ntmps64
     try go_wp2_with (first|((with_reducible refine Zp (N:=1) rfl ?_);refine Zr ?hg (N:=1) ?hd (cs:= #[.int .i64 a0_0,.int .i64 a0_1,.int .i64 a0_2,.int .i64 a0_3,.int .i64 a0_4,.int .i64 a0_5]) (t:=80) ?hr ?_;(case hd=>rfl);(case hg=>rfl);(case hr=>exact z5_10);intro gb187 hg w28 hbox hb;have BK187:=Za (hbox);have GW187:=Za ((z5_11:w.heap.size≤gb187));have GE187:=Za ((z5_11:w.heap.size≤gb187));replace HB:=Za (Zi z5_1 hb);clear hb hbox hg))
     have n0_:=Za (blk_drew BK187.out)
     have n1_:=Za (Zd HB.out)
     clear BK187
     clear HB
     have BK187:=n0_
     have HB:=n1_
     clear n0_ n1_
     refine start_ (n:=4) (S:=fun w'=>w'.cell? ⟨gb187,0,none⟩=some (.int .i64 a0_0)∧w'.cell? ⟨gb187,1,none⟩=some (.int .i64 a0_1)∧w'.cell? ⟨gb187,2,none⟩=some (.int .i64 a0_2)∧w'.cell? ⟨gb187,3,none⟩=some (.int .i64 a0_3)∧w'.cell? ⟨gb187,4,none⟩=some (.int .i64 a0_4)∧w'.cell? ⟨gb187,5,none⟩=some (.int .i64 a0_5)) (ds:=[]) #[false,false,false,false] z5_7 rfl rfl ⟨(Zb BK187.out 0).trans rfl,(Zb BK187.out 1).trans rfl,(Zb BK187.out 2).trans rfl,(Zb BK187.out 3).trans rfl,(Zb BK187.out 4).trans rfl,(Zb BK187.out 5).trans rfl⟩ (fun hHeld=> ?_)
     generalize w28.drew=w29 at BK187 HB hHeld ⊢
     refine take_ (i:=0) (N:=some 3) (v:= ?_) (a':= ?_) #[true,false,false,false] rfl rfl z5_7 (fun _ _ _ h=>h) (Or.inl ⟨by rfl,?_⟩) hHeld ?_ ?_
     rotate_left
     ·rintro w' ⟨s0,s1,s2,s3,s4,s5⟩
      go_simp
      with_reducible rfl
     rotate_left
     ·simp only[Act.put,Zm,Zn,Zo,i64_w,i32_w]
      rfl
     refine take_ (i:=1) (N:=some 4) (v:= ?_) (a':= ?_) #[true,true,false,false] rfl rfl z5_7 (fun _ _ _ h=>h) (Or.inl ⟨by rfl,?_⟩) hHeld ?_ ?_
     rotate_left
     ·rintro w' ⟨s0,s1,s2,s3,s4,s5⟩
      go_simp
      with_reducible rfl
     rotate_left
     ·simp only[Act.put,Zm,Zn,Zo,i64_w,i32_w]
      rfl
     refine one_ (i:=2) (N:=some 5) #[true,true,true,false] rfl rfl z5_7 (by decide) (fun K hK=> ?_)
     refine goes_ Try.func88 z5_7 rfl #[.agg #[.int .i64 a0_0,.int .i64 a0_1,.int .i64 a0_2,.int .i64 a0_3,.int .i64 a0_4,.int .i64 a0_5]] (by rfl) rfl rfl z5_0 ?_
     with_reducible refine(spec_l04Plain.calls k a0_0 a0_1 a0_2 a0_3 a0_4 a0_5 t188 t189 t190 t191 t192 t193 _ A2.out).mono ?_
     rintro e w30 ⟨rfl,hb⟩
     refine⟨_,rfl,?_⟩
     have n0_:=Za (Zk (g:=gb187) (o:= .cells #[.int .i64 a0_0,.int .i64 a0_1,.int .i64 a0_2,.int .i64 a0_3,.int .i64 a0_4,.int .i64 a0_5] 80 (0,0)) z5_4 hb)
     have n1_:=Za (Zi z5_2 hb)
     clear BK187
     clear HB
     have BK187:=n0_
     have HB:=n1_
     clear n0_ n1_
     (try clear hb)
     (try clear hb2)
     (try clear hk)
     (try clear hi)
     refine hK.out _ _ ⟨(Zb BK187.out 0).trans rfl,(Zb BK187.out 1).trans rfl,(Zb BK187.out 2).trans rfl,(Zb BK187.out 3).trans rfl,(Zb BK187.out 4).trans rfl,(Zb BK187.out 5).trans rfl⟩ (fun hHeld=> ?_)
     clear hK K
     refine norm_ (a':= ?_) ?_ ?_
     rotate_left
     ·show Act.put _ (some 5) _=_
      simp only[Act.put,Zm,Zn,Zo,i64_w,i32_w]
      rfl
     refine pure_ (i:=3) (N:=some 6) (v:= ?_) (a':= ?_) #[true,true,true,true] rfl rfl z5_7 (fun _ _ _ h=>h) (Or.inl ⟨by rfl,?_⟩) ?_ ?_
     rotate_left
     ·intro w'
      go_simp
      with_reducible rfl
     rotate_left
     ·simp only[Act.put,Zm,Zn,Zo,i64_w,i32_w]
      rfl
     refine done_ z5_7 ?_
     have hcz31_0:w30.cell? ⟨gb187,0,none⟩=some (.int .i64 a0_0):=(Zb BK187.out 0).trans rfl
     have hcz31_1:w30.cell? ⟨gb187,1,none⟩=some (.int .i64 a0_1):=(Zb BK187.out 1).trans rfl
     have hcz31_2:w30.cell? ⟨gb187,2,none⟩=some (.int .i64 a0_2):=(Zb BK187.out 2).trans rfl
     have hcz31_3:w30.cell? ⟨gb187,3,none⟩=some (.int .i64 a0_3):=(Zb BK187.out 3).trans rfl
     have hcz31_4:w30.cell? ⟨gb187,4,none⟩=some (.int .i64 a0_4):=(Zb BK187.out 4).trans rfl
     have hcz31_5:w30.cell? ⟨gb187,5,none⟩=some (.int .i64 a0_5):=(Zb BK187.out 5).trans rfl
     have hfz31_0:=Zc BK187.out 0
     have hfz31_1:=Zc BK187.out 1
     have hfz31_2:=Zc BK187.out 2
     have hfz31_3:=Zc BK187.out 3
     have hfz31_4:=Zc BK187.out 4
     have hfz31_5:=Zc BK187.out 5
     try go_wp2_with (first|((first|((with_reducible refine gate_callee (f:=23) rfl ?_);refine goesL_ (some 23) rfl rfl Try.func23 z5_7 rfl #[.int .i64 a0_1,.int .i64 0,.int .i64 7] rfl z5_0 ?_;(with_reducible refine(spec_l01In.calls a0_1 0 7 false _ A21.out).mono ?_))|(go_at_call 23;(with_reducible refine(spec_l01In.calls a0_1 0 7 false _ A21.out).mono ?_)));rintro e w' ⟨rfl,⟨nd,rfl⟩⟩;(first|refine⟨_,rfl,?_⟩|skip)))
     go_ret
     exact⟨by first|rfl|(simp[errW_none,errW_some]<;>rfl)|(simp[*,errW_none,errW_some]<;>rfl)|(simp[*,errW_none,errW_some,i64_w];done),by repeat(first|(with_reducible first|exact HB.out|apply Zh|apply Ze|apply Zd|refine Zf ?_ GE187.out)|exact HB.out)⟩
   ·rw[if_neg c20] at H
    have c20b0:(a0_0==2)=false:=beq_eq_false_iff_ne.mpr c20
    have c20b1:(a0_0 != 2)=true:=bne_iff_ne.mpr c20
    have HC32:=Za H
    clear H
    go_enter Try.func64,Try.ntmps64
    try go_wp2_with (first|((with_reducible refine Zp (N:=1) rfl ?_);refine Zr ?hg (N:=1) ?hd (cs:= #[.int .i64 a0_0,.int .i64 a0_1,.int .i64 a0_2,.int .i64 a0_3,.int .i64 a0_4,.int .i64 a0_5]) (t:=80) ?hr ?_;(case hd=>rfl);(case hg=>rfl);(case hr=>exact z5_10);intro gb187 hg w33 hbox hb;have BK187:=Za (hbox);have GW187:=Za ((z5_11:w.heap.size≤gb187));have GE187:=Za ((z5_11:w.heap.size≤gb187));replace HB:=Za (Zi z5_1 hb);clear hb hbox hg))
    have n0_:=Za (blk_drew BK187.out)
    have n1_:=Za (Zd HB.out)
    clear BK187
    clear HB
    have BK187:=n0_
    have HB:=n1_
    clear n0_ n1_
    refine start_ (n:=4) (S:=fun w'=>w'.cell? ⟨gb187,0,none⟩=some (.int .i64 a0_0)∧w'.cell? ⟨gb187,1,none⟩=some (.int .i64 a0_1)∧w'.cell? ⟨gb187,2,none⟩=some (.int .i64 a0_2)∧w'.cell? ⟨gb187,3,none⟩=some (.int .i64 a0_3)∧w'.cell? ⟨gb187,4,none⟩=some (.int .i64 a0_4)∧w'.cell? ⟨gb187,5,none⟩=some (.int .i64 a0_5)) (ds:=[]) #[false,false,false,false] z5_7 rfl rfl ⟨(Zb BK187.out 0).trans rfl,(Zb BK187.out 1).trans rfl,(Zb BK187.out 2).trans rfl,(Zb BK187.out 3).trans rfl,(Zb BK187.out 4).trans rfl,(Zb BK187.out 5).trans rfl⟩ (fun hHeld=> ?_)
    generalize w33.drew=w34 at BK187 HB hHeld ⊢
    refine take_ (i:=0) (N:=some 3) (v:= ?_) (a':= ?_) #[true,false,false,false] rfl rfl z5_7 (fun _ _ _ h=>h) (Or.inl ⟨by rfl,?_⟩) hHeld ?_ ?_
    rotate_left
    ·rintro w' ⟨s0,s1,s2,s3,s4,s5⟩
     go_simp
     with_reducible rfl
    rotate_left
    ·simp only[Act.put,Zm,Zn,Zo,i64_w,i32_w]
     rfl
    refine take_ (i:=1) (N:=some 4) (v:= ?_) (a':= ?_) #[true,true,false,false] rfl rfl z5_7 (fun _ _ _ h=>h) (Or.inl ⟨by rfl,?_⟩) hHeld ?_ ?_
    rotate_left
    ·rintro w' ⟨s0,s1,s2,s3,s4,s5⟩
     go_simp
     with_reducible rfl
    rotate_left
    ·simp only[Act.put,Zm,Zn,Zo,i64_w,i32_w]
     rfl
    refine one_ (i:=2) (N:=some 5) #[true,true,true,false] rfl rfl z5_7 (by decide) (fun K hK=> ?_)
    refine goes_ Try.func88 z5_7 rfl #[.agg #[.int .i64 a0_0,.int .i64 a0_1,.int .i64 a0_2,.int .i64 a0_3,.int .i64 a0_4,.int .i64 a0_5]] (by rfl) rfl rfl z5_0 ?_
    with_reducible refine(spec_l04Plain.calls k a0_0 a0_1 a0_2 a0_3 a0_4 a0_5 t188 t189 t190 t191 t192 t193 _ A2.out).mono ?_
    rintro e w35 ⟨rfl,hb⟩
    refine⟨_,rfl,?_⟩
    have n0_:=Za (Zk (g:=gb187) (o:= .cells #[.int .i64 a0_0,.int .i64 a0_1,.int .i64 a0_2,.int .i64 a0_3,.int .i64 a0_4,.int .i64 a0_5] 80 (0,0)) z5_4 hb)
    have n1_:=Za (Zi z5_2 hb)
    clear BK187
    clear HB
    have BK187:=n0_
    have HB:=n1_
    clear n0_ n1_
    (try clear hb)
    (try clear hb2)
    (try clear hk)
    (try clear hi)
    refine hK.out _ _ ⟨(Zb BK187.out 0).trans rfl,(Zb BK187.out 1).trans rfl,(Zb BK187.out 2).trans rfl,(Zb BK187.out 3).trans rfl,(Zb BK187.out 4).trans rfl,(Zb BK187.out 5).trans rfl⟩ (fun hHeld=> ?_)
    clear hK K
    refine norm_ (a':= ?_) ?_ ?_
    rotate_left
    ·show Act.put _ (some 5) _=_
     simp only[Act.put,Zm,Zn,Zo,i64_w,i32_w]
     rfl
    refine pure_ (i:=3) (N:=some 6) (v:= ?_) (a':= ?_) #[true,true,true,true] rfl rfl z5_7 (fun _ _ _ h=>h) (Or.inl ⟨by rfl,?_⟩) ?_ ?_
    rotate_left
    ·intro w'
     go_simp
     with_reducible rfl
    rotate_left
    ·simp only[Act.put,Zm,Zn,Zo,i64_w,i32_w]
     rfl
    refine done_ z5_7 ?_
    have hcz36_0:w35.cell? ⟨gb187,0,none⟩=some (.int .i64 a0_0):=(Zb BK187.out 0).trans rfl
    have hcz36_1:w35.cell? ⟨gb187,1,none⟩=some (.int .i64 a0_1):=(Zb BK187.out 1).trans rfl
    have hcz36_2:w35.cell? ⟨gb187,2,none⟩=some (.int .i64 a0_2):=(Zb BK187.out 2).trans rfl
    have hcz36_3:w35.cell? ⟨gb187,3,none⟩=some (.int .i64 a0_3):=(Zb BK187.out 3).trans rfl
    have hcz36_4:w35.cell? ⟨gb187,4,none⟩=some (.int .i64 a0_4):=(Zb BK187.out 4).trans rfl
    have hcz36_5:w35.cell? ⟨gb187,5,none⟩=some (.int .i64 a0_5):=(Zb BK187.out 5).trans rfl
    have hfz36_0:=Zc BK187.out 0
    have hfz36_1:=Zc BK187.out 1
    have hfz36_2:=Zc BK187.out 2
    have hfz36_3:=Zc BK187.out 3
    have hfz36_4:=Zc BK187.out 4
    have hfz36_5:=Zc BK187.out 5
    go_upto_if 29 with(fail)
    go_cut [29] (fun v29 wc=>∃(kq:Nat) (x29_31:Bool),v29= .bool x29_31∧Aside0 (spec_StmtOk.j0 kq a0_0 x29_31 a0_0 a0_1 a0_2 a0_3 a0_4 a0_5=some r)∧Aside0 (kq≤k)∧Aside0 (wc.heap[gb187]? =some (.cells #[.int .i64 a0_0,.int .i64 a0_1,.int .i64 a0_2,.int .i64 a0_3,.int .i64 a0_4,.int .i64 a0_5] 80 (0,0)))∧Aside0 (Below w.heap.size w wc))
    case first=>
     have H:=HC32.out
     clear HC32
     by_cases c37:a0_0=3
     ·rw[if_pos c37] at H
      have c37b0:(a0_0==3)=true:=beq_iff_eq.mpr c37
      have c37b1:(a0_0 != 3)=false:=bne_eq_false_iff_eq.mpr c37
      clear c37
      (first|rw[c37b0]|(simp only[i64_w,i32_w];rw[c37b0])|skip)
      have H':=Za H
      clear H
      go_wp2
      go_meet
      case rel=>exact⟨_,((a0_0==3)),z5_6,H',⟨by first|omega|exact Nat.le_refl _⟩,⟨by(with_reducible repeat(first|refine blk_drewN ?_ _|refine blk_drew ?_|refine blk_alloc ?_ _));exact BK187.out⟩,⟨by repeat(first|(with_reducible first|exact HB.out|apply Zh|apply Ze|apply Zd|refine Zf ?_ GE187.out)|exact HB.out)⟩⟩
     ·rw[if_neg c37] at H
      have c37b0:(a0_0==3)=false:=beq_eq_false_iff_ne.mpr c37
      have c37b1:(a0_0 != 3)=true:=bne_iff_ne.mpr c37
      (first|rw[c37b0]|(simp only[i64_w,i32_w];rw[c37b0])|skip)
      have H':=Za H
      clear H
      go_wp2
      go_meet
      case rel=>exact⟨_,((a0_0==4)),z5_6,H',⟨by first|omega|exact Nat.le_refl _⟩,⟨by(with_reducible repeat(first|refine blk_drewN ?_ _|refine blk_drew ?_|refine blk_alloc ?_ _));exact BK187.out⟩,⟨by repeat(first|(with_reducible first|exact HB.out|apply Zh|apply Ze|apply Zd|refine Zf ?_ GE187.out)|exact HB.out)⟩⟩
    case rest=>
     clear HC32
     (try clear c3);(try clear c3b0);(try clear c7);(try clear c7b0);(try clear c7b1);(try clear c20);(try clear c20b0);(try clear c20b1);(try clear hcz36_0);(try clear hcz36_1);(try clear hcz36_2);(try clear hcz36_3);(try clear hcz36_4);(try clear hcz36_5);(try clear hfz36_0);(try clear hfz36_1);(try clear hfz36_2);(try clear hfz36_3);(try clear hfz36_4);(try clear hfz36_5)
     obtain⟨kq,x29_31,rfl,HA,HJ31,BK187,HB⟩:=hcut
     cases kq with
     |zero=>exact absurd HA.out (by simp[spec_StmtOk.j0])
     |succ kj31=>
      have H:=HA.out
      clear HA
      simp only[spec_StmtOk.j0] at H
      by_cases c38:x29_31=true
      ·subst c38
       rw[if_pos rfl] at H
       replace H:=Zl H
       obtain⟨t198,A390,H⟩:=H
       replace H:(some t198)=some r:=H
       have A39:=Za A390
       clear A390
       obtain rfl:=Zj H
       have hcz40_0:wc.cell? ⟨gb187,0,none⟩=some (.int .i64 a0_0):=(Zb BK187.out 0).trans rfl
       have hcz40_1:wc.cell? ⟨gb187,1,none⟩=some (.int .i64 a0_1):=(Zb BK187.out 1).trans rfl
       have hcz40_2:wc.cell? ⟨gb187,2,none⟩=some (.int .i64 a0_2):=(Zb BK187.out 2).trans rfl
       have hcz40_3:wc.cell? ⟨gb187,3,none⟩=some (.int .i64 a0_3):=(Zb BK187.out 3).trans rfl
       have hcz40_4:wc.cell? ⟨gb187,4,none⟩=some (.int .i64 a0_4):=(Zb BK187.out 4).trans rfl
       have hcz40_5:wc.cell? ⟨gb187,5,none⟩=some (.int .i64 a0_5):=(Zb BK187.out 5).trans rfl
       have hfz40_0:=Zc BK187.out 0
       have hfz40_1:=Zc BK187.out 1
       have hfz40_2:=Zc BK187.out 2
       have hfz40_3:=Zc BK187.out 3
       have hfz40_4:=Zc BK187.out 4
       have hfz40_5:=Zc BK187.out 5
       go_wp2_with (first|((first|((with_reducible refine gate_callee (f:=41) rfl ?_);refine goesL_ (some 34) rfl rfl Try.func41 z5_7 rfl #[.agg #[.int .i64 a0_3,.int .i64 a0_4,.int .i64 a0_5]] rfl z5_0 ?_;(with_reducible refine(spec_ExprOk.calls a0_3 a0_4 a0_5 t198 _ A39.out).mono ?_))|(go_at_call 41;(with_reducible refine(spec_ExprOk.calls a0_3 a0_4 a0_5 t198 _ A39.out).mono ?_)));rintro e w41 ⟨rfl,hb⟩;(first|refine⟨_,rfl,?_⟩|skip);replace BK187:=Za (Zk (g:=gb187) (o:= .cells #[.int .i64 a0_0,.int .i64 a0_1,.int .i64 a0_2,.int .i64 a0_3,.int .i64 a0_4,.int .i64 a0_5] 80 (0,0)) z5_4 hb);replace HB:=Za (Zi z5_2 hb);(try clear hb);(try clear hb2);(try clear hk);(try clear hi)))
       go_ret
       exact⟨by first|rfl|(simp[errW_none,errW_some]<;>rfl)|(simp[*,errW_none,errW_some]<;>rfl)|(simp[*,errW_none,errW_some,i64_w];done),by repeat(first|(with_reducible first|exact HB.out|apply Zh|apply Ze|apply Zd|refine Zf ?_ GE187.out)|exact HB.out)⟩
      ·replace c38:=Bool.eq_false_iff.mpr c38
       subst c38
       rw[if_neg (show ¬(false=true) by decide)] at H
       by_cases c42:a0_0=5
       ·rw[if_pos c42] at H
        have c42b0:(a0_0==5)=true:=beq_iff_eq.mpr c42
        have c42b1:(a0_0 != 5)=false:=bne_eq_false_iff_eq.mpr c42
        clear c42
        replace H:=Zl H
        obtain⟨t199,A430,H⟩:=H
        replace H:(some t199)=some r:=H
        have A43:=Za A430
        clear A430
        obtain rfl:=Zj H
        have hcz44_0:wc.cell? ⟨gb187,0,none⟩=some (.int .i64 a0_0):=(Zb BK187.out 0).trans rfl
        have hcz44_1:wc.cell? ⟨gb187,1,none⟩=some (.int .i64 a0_1):=(Zb BK187.out 1).trans rfl
        have hcz44_2:wc.cell? ⟨gb187,2,none⟩=some (.int .i64 a0_2):=(Zb BK187.out 2).trans rfl
        have hcz44_3:wc.cell? ⟨gb187,3,none⟩=some (.int .i64 a0_3):=(Zb BK187.out 3).trans rfl
        have hcz44_4:wc.cell? ⟨gb187,4,none⟩=some (.int .i64 a0_4):=(Zb BK187.out 4).trans rfl
        have hcz44_5:wc.cell? ⟨gb187,5,none⟩=some (.int .i64 a0_5):=(Zb BK187.out 5).trans rfl
        have hfz44_0:=Zc BK187.out 0
        have hfz44_1:=Zc BK187.out 1
        have hfz44_2:=Zc BK187.out 2
        have hfz44_3:=Zc BK187.out 3
        have hfz44_4:=Zc BK187.out 4
        have hfz44_5:=Zc BK187.out 5
        go_wp2_with (first|((first|((with_reducible refine gate_callee (f:=23) rfl ?_);refine goesL_ (some 39) rfl rfl Try.func23 z5_7 rfl #[.int .i64 a0_2,.int .i64 1,.int .i64 5] rfl z5_0 ?_;(with_reducible refine(spec_l01In.calls a0_2 1 5 t199 _ A43.out).mono ?_))|(go_at_call 23;(with_reducible refine(spec_l01In.calls a0_2 1 5 t199 _ A43.out).mono ?_)));rintro e w' ⟨rfl,⟨nd,rfl⟩⟩;(first|refine⟨_,rfl,?_⟩|skip)))
        go_ret
        exact⟨by first|rfl|(simp[errW_none,errW_some]<;>rfl)|(simp[*,errW_none,errW_some]<;>rfl)|(simp[*,errW_none,errW_some,i64_w];done),by repeat(first|(with_reducible first|exact HB.out|apply Zh|apply Ze|apply Zd|refine Zf ?_ GE187.out)|exact HB.out)⟩
       ·rw[if_neg c42] at H
        have c42b0:(a0_0==5)=false:=beq_eq_false_iff_ne.mpr c42
        have c42b1:(a0_0 != 5)=true:=bne_iff_ne.mpr c42
        obtain rfl:=Zj H
        have hcz45_0:wc.cell? ⟨gb187,0,none⟩=some (.int .i64 a0_0):=(Zb BK187.out 0).trans rfl
        have hcz45_1:wc.cell? ⟨gb187,1,none⟩=some (.int .i64 a0_1):=(Zb BK187.out 1).trans rfl
        have hcz45_2:wc.cell? ⟨gb187,2,none⟩=some (.int .i64 a0_2):=(Zb BK187.out 2).trans rfl
        have hcz45_3:wc.cell? ⟨gb187,3,none⟩=some (.int .i64 a0_3):=(Zb BK187.out 3).trans rfl
        have hcz45_4:wc.cell? ⟨gb187,4,none⟩=some (.int .i64 a0_4):=(Zb BK187.out 4).trans rfl
        have hcz45_5:wc.cell? ⟨gb187,5,none⟩=some (.int .i64 a0_5):=(Zb BK187.out 5).trans rfl
        have hfz45_0:=Zc BK187.out 0
        have hfz45_1:=Zc BK187.out 1
        have hfz45_2:=Zc BK187.out 2
        have hfz45_3:=Zc BK187.out 3
        have hfz45_4:=Zc BK187.out 4
        have hfz45_5:=Zc BK187.out 5
        go_wp2
        go_ret
        exact⟨by first|rfl|(simp[errW_none,errW_some]<;>rfl)|(simp[*,errW_none,errW_some]<;>rfl)|(simp[*,errW_none,errW_some,i64_w];done),by repeat(first|(with_reducible first|exact HB.out|apply Zh|apply Ze|apply Zd|refine Zf ?_ GE187.out)|exact HB.out)⟩
/-! ### spec_BlockOk: function 40 -/
mutual
def spec_BlockOk.l0:Nat→List (S80)→Int→Int→Option (Bool)
 |0,_,_,_=>none
 |k+1,x0,x3,x4=>if x4<(x0.length:Int) then (if 0≤x4 then ((spec_StmtOk.f k ((rd_T80 x0 x4).f0) ((rd_T80 x0 x4).f1) ((rd_T80 x0 x4).f2) ((rd_T80 x0 x4).f3.f0) ((rd_T80 x0 x4).f3.f1) ((rd_T80 x0 x4).f3.f2)).bind fun t201=>(if t201=true then (if ((rd_T80 x0 x4).f0)=4 then (spec_BlockOk.j1 k x0 x3 x4 ((rd_T80 x0 x4).f0) (((rd_T80 x0 x4).f0)==4)) else (spec_BlockOk.j1 k x0 x3 x4 ((rd_T80 x0 x4).f0) (((rd_T80 x0 x4).f0)==5))) else (some false))) else (none)) else (if x3=0 then (some (decide ((x0.length:Int)≤24))) else (some false))
def spec_BlockOk.j1:Nat→List (S80)→Int→Int→Int→Bool→Option (Bool)
 |0,_,_,_,_,_=>none
 |k+1,x0,x3,x4,x21,x22=>if x22=true then ((spec_l01In.f (wrap64 (x3+1)) 0 3).bind fun t203=>(if t203=true then (spec_BlockOk.l0 k x0 (wrap64 (x3+1)) (wrap64 (x4+1))) else (some false))) else (if x21=6 then ((spec_l01In.f (wrap64 (x3 - 1)) 0 3).bind fun t204=>(if t204=true then (spec_BlockOk.l0 k x0 (wrap64 (x3 - 1)) (wrap64 (x4+1))) else (some false))) else ((spec_l01In.f x3 0 3).bind fun t205=>(if t205=true then (spec_BlockOk.l0 k x0 x3 (wrap64 (x4+1))) else (some false))))
end
def spec_BlockOk.f (k:Nat) (l0:List (S80)):Option (Bool):=spec_BlockOk.l0 k l0 0 0
set_option maxHeartbeats 8000000 in
set_option maxRecDepth 100000 in
theorem spec_BlockOk.calls (k:Nat) (A0:Option Addr) (c0:Nat) (l0:List (S80)) (r:Bool) (w:World) (hr0:Kd.C k80 w A0 l0.length l0) (hc0:l0.length≤c0) (h:spec_BlockOk.f k l0=some r):
  Calls Try.prog 40 #[.slice A0 l0.length c0] w fun e w'=>e= .returned (.bool r)∧Below w.heap.size w w':=by
 have hu80:=Try.underlying80
 have HR0:=Za hr0
 have HC0:=Za hc0
 clear hr0 hc0
 have HB:=Za (Ya w.heap.size w)
 have H:(spec_BlockOk.l0 k l0 0 0)=some r:=h
 clear h
 have H':=Za H
 clear H
 go_enter Try.func40,Try.ntmps40
 go_wp2
 go_loopg [3,4] k (fun kq v3 v4 w'=>∃(x3_1:Int) (x4_1:Int),v3= .int .i64 x3_1∧v4= .int .i64 x4_1∧Aside0 (spec_BlockOk.l0 kq l0 x3_1 x4_1=some r)∧Aside0 (kq≤k)∧Aside0 (Below w.heap.size w w'))
 case atStart=>exact⟨(0),(0),z5_6,z5_6,H',⟨Nat.le_refl _⟩,⟨by repeat(first|(with_reducible first|exact HB.out|apply Zh|apply Ze|apply Zd)|exact HB.out)⟩⟩
 case round=>
  clear H'
  obtain⟨x3_1,x4_1,rfl,rfl,HA,HK1,HB⟩:=hrel
  cases gk with
  |zero=>exact absurd HA.out (by simp[spec_BlockOk.l0])
  |succ k1=>
   have H:=HA.out
   clear HA
   simp only[spec_BlockOk.l0] at H
   by_cases c2:x4_1<(l0.length:Int)
   ·rw[if_pos c2] at H
    have c2b0:decide (x4_1<(l0.length:Int))=true:=Zt c2
    clear c2
    by_cases c3:0≤x4_1
    ·rw[if_pos c3] at H
     have c3b0:decide (0≤x4_1)=true:=Zt c3
     clear c3
     replace H:=Zl H
     obtain⟨t201,A40,H⟩:=H
     replace H:(if t201=true then (if ((rd_T80 l0 x4_1).f0)=4 then (spec_BlockOk.j1 k1 l0 x3_1 x4_1 ((rd_T80 l0 x4_1).f0) (((rd_T80 l0 x4_1).f0)==4)) else (spec_BlockOk.j1 k1 l0 x3_1 x4_1 ((rd_T80 l0 x4_1).f0) (((rd_T80 l0 x4_1).f0)==5))) else (some false))=some r:=H
     have A4:=Za A40
     clear A40
     by_cases c5:t201=true
     ·subst c5
      rw[if_pos rfl] at H
      have HC6:=Za H
      clear H
      have p200:0≤(x4_1:Int):=Zs z5_3
      have q200:x4_1<(l0.length:Int):=Zs z5_3
      obtain⟨ad200,e200,hx200_0,hx200_1,hx200_2,hx200_3,hx200_4,hx200_5⟩:=at_T80 HR0.out x4_1 p200 q200
      cases e200
      replace hx200_0:=(HB.out.cell (Zg w _ hx200_0)).trans hx200_0
      replace hx200_1:=(HB.out.cell (Zg w _ hx200_1)).trans hx200_1
      replace hx200_2:=(HB.out.cell (Zg w _ hx200_2)).trans hx200_2
      replace hx200_3:=(HB.out.cell (Zg w _ hx200_3)).trans hx200_3
      replace hx200_4:=(HB.out.cell (Zg w _ hx200_4)).trans hx200_4
      replace hx200_5:=(HB.out.cell (Zg w _ hx200_5)).trans hx200_5
      replace p200:=eq_true p200
      replace q200:=eq_true q200
      go_upto_if 22 with(first|((first|((with_reducible refine gate_callee (f:=64) rfl ?_);refine goesL_ (some 15) rfl rfl Try.func64 z5_7 rfl #[.agg #[.int .i64 ((rd_T80 l0 x4_1).f0),.int .i64 ((rd_T80 l0 x4_1).f1),.int .i64 ((rd_T80 l0 x4_1).f2),.int .i64 ((rd_T80 l0 x4_1).f3.f0),.int .i64 ((rd_T80 l0 x4_1).f3.f1),.int .i64 ((rd_T80 l0 x4_1).f3.f2)]] rfl z5_0 ?_;(with_reducible refine(spec_StmtOk.calls k1 ((rd_T80 l0 x4_1).f0) ((rd_T80 l0 x4_1).f1) ((rd_T80 l0 x4_1).f2) ((rd_T80 l0 x4_1).f3.f0) ((rd_T80 l0 x4_1).f3.f1) ((rd_T80 l0 x4_1).f3.f2) true _ A4.out).mono ?_))|(go_at_call 64;(with_reducible refine(spec_StmtOk.calls k1 ((rd_T80 l0 x4_1).f0) ((rd_T80 l0 x4_1).f1) ((rd_T80 l0 x4_1).f2) ((rd_T80 l0 x4_1).f3.f0) ((rd_T80 l0 x4_1).f3.f1) ((rd_T80 l0 x4_1).f3.f2) true _ A4.out).mono ?_)));rintro e w7 ⟨rfl,hb⟩;(first|refine⟨_,rfl,?_⟩|skip);replace HB:=Za (Zi z5_1 hb);(try clear hb);(try clear hb2);(try clear hk);(try clear hi);have p202:0≤(x4_1:Int):=Zs z5_3;have q202:x4_1<(l0.length:Int):=Zs z5_3;obtain⟨ad202,e202,hx202_0,hx202_1,hx202_2,hx202_3,hx202_4,hx202_5⟩:=at_T80 HR0.out x4_1 p202 q202;obtain rfl:ad200=ad202:=(by injection e202);replace hx202_0:=(HB.out.cell (Zg w _ hx202_0)).trans hx202_0;replace hx202_1:=(HB.out.cell (Zg w _ hx202_1)).trans hx202_1;replace hx202_2:=(HB.out.cell (Zg w _ hx202_2)).trans hx202_2;replace hx202_3:=(HB.out.cell (Zg w _ hx202_3)).trans hx202_3;replace hx202_4:=(HB.out.cell (Zg w _ hx202_4)).trans hx202_4;replace hx202_5:=(HB.out.cell (Zg w _ hx202_5)).trans hx202_5;replace p202:=eq_true p202;replace q202:=eq_true q202))
      (try simp only[Act.put,Zm,Zn,Zo])
      go_cut [22] (fun v22 wc=>∃(kq:Nat) (x22_5:Bool),v22= .bool x22_5∧Aside0 (spec_BlockOk.j1 kq l0 x3_1 x4_1 ((rd_T80 l0 x4_1).f0) x22_5=some r)∧Aside0 (kq≤k1)∧Aside0 (Below w.heap.size w wc))
      case first=>
       have H:=HC6.out
       clear HC6
       by_cases c8:((rd_T80 l0 x4_1).f0)=4
       ·rw[if_pos c8] at H
        have c8b0:(((rd_T80 l0 x4_1).f0)==4)=true:=beq_iff_eq.mpr c8
        have c8b1:(((rd_T80 l0 x4_1).f0) != 4)=false:=bne_eq_false_iff_eq.mpr c8
        clear c8
        (first|rw[c8b0]|(simp only[i64_w,i32_w];rw[c8b0])|skip)
        have H':=Za H
        clear H
        go_wp2
        go_meet
        case rel=>exact⟨_,((((rd_T80 l0 x4_1).f0)==4)),z5_6,H',⟨by have:=HK1.out;first|omega|exact Nat.le_refl _⟩,⟨by repeat(first|(with_reducible first|exact HB.out|apply Zh|apply Ze|apply Zd)|exact HB.out)⟩⟩
       ·rw[if_neg c8] at H
        have c8b0:(((rd_T80 l0 x4_1).f0)==4)=false:=beq_eq_false_iff_ne.mpr c8
        have c8b1:(((rd_T80 l0 x4_1).f0) != 4)=true:=bne_iff_ne.mpr c8
        (first|rw[c8b0]|(simp only[i64_w,i32_w];rw[c8b0])|skip)
        have H':=Za H
        clear H
        go_wp2
        go_meet
        case rel=>exact⟨_,((((rd_T80 l0 x4_1).f0)==5)),z5_6,H',⟨by have:=HK1.out;first|omega|exact Nat.le_refl _⟩,⟨by repeat(first|(with_reducible first|exact HB.out|apply Zh|apply Ze|apply Zd)|exact HB.out)⟩⟩
      case rest=>
       clear HC6
       (try clear c2);(try clear c2b0);(try clear c3);(try clear c3b0);(try clear c5);(try clear hx200_0);(try clear hx200_1);(try clear hx200_2);(try clear hx200_3);(try clear hx200_4);(try clear hx200_5);(try clear hx202_0);(try clear hx202_1);(try clear hx202_2);(try clear hx202_3);(try clear hx202_4);(try clear hx202_5);(try clear p200);(try clear p202);(try clear q200);(try clear q202)
       obtain⟨kq,x22_5,rfl,HA,HJ5,HB⟩:=hcut
       cases kq with
       |zero=>exact absurd HA.out (by simp[spec_BlockOk.j1])
       |succ kj5=>
        have H:=HA.out
        clear HA
        simp only[spec_BlockOk.j1] at H
        by_cases c9:x22_5=true
        ·subst c9
         rw[if_pos rfl] at H
         replace H:=Zl H
         obtain⟨t203,A100,H⟩:=H
         replace H:(if t203=true then (spec_BlockOk.l0 kj5 l0 (wrap64 (x3_1+1)) (wrap64 (x4_1+1))) else (some false))=some r:=H
         have A10:=Za A100
         clear A100
         by_cases c11:t203=true
         ·subst c11
          rw[if_pos rfl] at H
          have H':=Za H
          clear H
          go_wp2_with (first|((first|((with_reducible refine gate_callee (f:=23) rfl ?_);refine goesL_ (some 32) rfl rfl Try.func23 z5_7 rfl #[.int .i64 (wrap64 (x3_1+1)),.int .i64 0,.int .i64 3] rfl z5_0 ?_;(with_reducible refine(spec_l01In.calls (wrap64 (x3_1+1)) 0 3 true _ A10.out).mono ?_))|(go_at_call 23;(with_reducible refine(spec_l01In.calls (wrap64 (x3_1+1)) 0 3 true _ A10.out).mono ?_)));rintro e w' ⟨rfl,⟨nd,rfl⟩⟩;(first|refine⟨_,rfl,?_⟩|skip)))
          go_roundg kj5
          case measure=>have:=HK1.out;have:=HJ5.out;omega
          case rel=>exact⟨(wrap64 (x3_1+1)),(wrap64 (x4_1+1)),z5_6,z5_6,H',⟨by have:=HK1.out;have:=HJ5.out;omega⟩,⟨by repeat(first|(with_reducible first|exact HB.out|apply Zh|apply Ze|apply Zd)|exact HB.out)⟩⟩
         ·replace c11:=Bool.eq_false_iff.mpr c11
          subst c11
          rw[if_neg (show ¬(false=true) by decide)] at H
          obtain rfl:=Zj H
          go_wp2_with (first|((first|((with_reducible refine gate_callee (f:=23) rfl ?_);refine goesL_ (some 32) rfl rfl Try.func23 z5_7 rfl #[.int .i64 (wrap64 (x3_1+1)),.int .i64 0,.int .i64 3] rfl z5_0 ?_;(with_reducible refine(spec_l01In.calls (wrap64 (x3_1+1)) 0 3 false _ A10.out).mono ?_))|(go_at_call 23;(with_reducible refine(spec_l01In.calls (wrap64 (x3_1+1)) 0 3 false _ A10.out).mono ?_)));rintro e w' ⟨rfl,⟨nd,rfl⟩⟩;(first|refine⟨_,rfl,?_⟩|skip)))
          go_ret
          exact⟨by first|rfl|(simp[errW_none,errW_some]<;>rfl)|(simp[*,errW_none,errW_some]<;>rfl)|(simp[*,errW_none,errW_some,i64_w];done),by repeat(first|(with_reducible first|exact HB.out|apply Zh|apply Ze|apply Zd)|exact HB.out)⟩
        ·replace c9:=Bool.eq_false_iff.mpr c9
         subst c9
         rw[if_neg (show ¬(false=true) by decide)] at H
         by_cases c12:((rd_T80 l0 x4_1).f0)=6
         ·rw[if_pos c12] at H
          have c12b0:(((rd_T80 l0 x4_1).f0)==6)=true:=beq_iff_eq.mpr c12
          have c12b1:(((rd_T80 l0 x4_1).f0) != 6)=false:=bne_eq_false_iff_eq.mpr c12
          clear c12
          replace H:=Zl H
          obtain⟨t204,A130,H⟩:=H
          replace H:(if t204=true then (spec_BlockOk.l0 kj5 l0 (wrap64 (x3_1 - 1)) (wrap64 (x4_1+1))) else (some false))=some r:=H
          have A13:=Za A130
          clear A130
          by_cases c14:t204=true
          ·subst c14
           rw[if_pos rfl] at H
           have H':=Za H
           clear H
           go_wp2_with (first|((first|((with_reducible refine gate_callee (f:=23) rfl ?_);refine goesL_ (some 32) rfl rfl Try.func23 z5_7 rfl #[.int .i64 (wrap64 (x3_1 - 1)),.int .i64 0,.int .i64 3] rfl z5_0 ?_;(with_reducible refine(spec_l01In.calls (wrap64 (x3_1 - 1)) 0 3 true _ A13.out).mono ?_))|(go_at_call 23;(with_reducible refine(spec_l01In.calls (wrap64 (x3_1 - 1)) 0 3 true _ A13.out).mono ?_)));rintro e w' ⟨rfl,⟨nd,rfl⟩⟩;(first|refine⟨_,rfl,?_⟩|skip)))
           go_roundg kj5
           case measure=>have:=HK1.out;have:=HJ5.out;omega
           case rel=>exact⟨(wrap64 (x3_1 - 1)),(wrap64 (x4_1+1)),z5_6,z5_6,H',⟨by have:=HK1.out;have:=HJ5.out;omega⟩,⟨by repeat(first|(with_reducible first|exact HB.out|apply Zh|apply Ze|apply Zd)|exact HB.out)⟩⟩
          ·replace c14:=Bool.eq_false_iff.mpr c14
           subst c14
           rw[if_neg (show ¬(false=true) by decide)] at H
           obtain rfl:=Zj H
           go_wp2_with (first|((first|((with_reducible refine gate_callee (f:=23) rfl ?_);refine goesL_ (some 32) rfl rfl Try.func23 z5_7 rfl #[.int .i64 (wrap64 (x3_1 - 1)),.int .i64 0,.int .i64 3] rfl z5_0 ?_;(with_reducible refine(spec_l01In.calls (wrap64 (x3_1 - 1)) 0 3 false _ A13.out).mono ?_))|(go_at_call 23;(with_reducible refine(spec_l01In.calls (wrap64 (x3_1 - 1)) 0 3 false _ A13.out).mono ?_)));rintro e w' ⟨rfl,⟨nd,rfl⟩⟩;(first|refine⟨_,rfl,?_⟩|skip)))
           go_ret
           exact⟨by first|rfl|(simp[errW_none,errW_some]<;>rfl)|(simp[*,errW_none,errW_some]<;>rfl)|(simp[*,errW_none,errW_some,i64_w];done),by repeat(first|(with_reducible first|exact HB.out|apply Zh|apply Ze|apply Zd)|exact HB.out)⟩
         ·rw[if_neg c12] at H
          have c12b0:(((rd_T80 l0 x4_1).f0)==6)=false:=beq_eq_false_iff_ne.mpr c12
          have c12b1:(((rd_T80 l0 x4_1).f0) != 6)=true:=bne_iff_ne.mpr c12
          replace H:=Zl H
          obtain⟨t205,A150,H⟩:=H
          replace H:(if t205=true then (spec_BlockOk.l0 kj5 l0 x3_1 (wrap64 (x4_1+1))) else (some false))=some r:=H
          have A15:=Za A150
          clear A150
          by_cases c16:t205=true
          ·subst c16
           rw[if_pos rfl] at H
           have H':=Za H
           clear H
           go_wp2_with (first|((first|((with_reducible refine gate_callee (f:=23) rfl ?_);refine goesL_ (some 32) rfl rfl Try.func23 z5_7 rfl #[.int .i64 x3_1,.int .i64 0,.int .i64 3] rfl z5_0 ?_;(with_reducible refine(spec_l01In.calls x3_1 0 3 true _ A15.out).mono ?_))|(go_at_call 23;(with_reducible refine(spec_l01In.calls x3_1 0 3 true _ A15.out).mono ?_)));rintro e w' ⟨rfl,⟨nd,rfl⟩⟩;(first|refine⟨_,rfl,?_⟩|skip)))
           go_roundg kj5
           case measure=>have:=HK1.out;have:=HJ5.out;omega
           case rel=>exact⟨(x3_1),(wrap64 (x4_1+1)),z5_6,z5_6,H',⟨by have:=HK1.out;have:=HJ5.out;omega⟩,⟨by repeat(first|(with_reducible first|exact HB.out|apply Zh|apply Ze|apply Zd)|exact HB.out)⟩⟩
          ·replace c16:=Bool.eq_false_iff.mpr c16
           subst c16
           rw[if_neg (show ¬(false=true) by decide)] at H
           obtain rfl:=Zj H
           go_wp2_with (first|((first|((with_reducible refine gate_callee (f:=23) rfl ?_);refine goesL_ (some 32) rfl rfl Try.func23 z5_7 rfl #[.int .i64 x3_1,.int .i64 0,.int .i64 3] rfl z5_0 ?_;(with_reducible refine(spec_l01In.calls x3_1 0 3 false _ A15.out).mono ?_))|(go_at_call 23;(with_reducible refine(spec_l01In.calls x3_1 0 3 false _ A15.out).mono ?_)));rintro e w' ⟨rfl,⟨nd,rfl⟩⟩;(first|refine⟨_,rfl,?_⟩|skip)))
           go_ret
           exact⟨by first|rfl|(simp[errW_none,errW_some]<;>rfl)|(simp[*,errW_none,errW_some]<;>rfl)|(simp[*,errW_none,errW_some,i64_w];done),by repeat(first|(with_reducible first|exact HB.out|apply Zh|apply Ze|apply Zd)|exact HB.out)⟩
     ·replace c5:=Bool.eq_false_iff.mpr c5
      subst c5
      rw[if_neg (show ¬(false=true) by decide)] at H
      obtain rfl:=Zj H
      have p200:0≤(x4_1:Int):=Zs z5_3
      have q200:x4_1<(l0.length:Int):=Zs z5_3
      obtain⟨ad200,e200,hx200_0,hx200_1,hx200_2,hx200_3,hx200_4,hx200_5⟩:=at_T80 HR0.out x4_1 p200 q200
      cases e200
      replace hx200_0:=(HB.out.cell (Zg w _ hx200_0)).trans hx200_0
      replace hx200_1:=(HB.out.cell (Zg w _ hx200_1)).trans hx200_1
      replace hx200_2:=(HB.out.cell (Zg w _ hx200_2)).trans hx200_2
      replace hx200_3:=(HB.out.cell (Zg w _ hx200_3)).trans hx200_3
      replace hx200_4:=(HB.out.cell (Zg w _ hx200_4)).trans hx200_4
      replace hx200_5:=(HB.out.cell (Zg w _ hx200_5)).trans hx200_5
      replace p200:=eq_true p200
      replace q200:=eq_true q200
      go_wp2_with (first|((first|((with_reducible refine gate_callee (f:=64) rfl ?_);refine goesL_ (some 15) rfl rfl Try.func64 z5_7 rfl #[.agg #[.int .i64 ((rd_T80 l0 x4_1).f0),.int .i64 ((rd_T80 l0 x4_1).f1),.int .i64 ((rd_T80 l0 x4_1).f2),.int .i64 ((rd_T80 l0 x4_1).f3.f0),.int .i64 ((rd_T80 l0 x4_1).f3.f1),.int .i64 ((rd_T80 l0 x4_1).f3.f2)]] rfl z5_0 ?_;(with_reducible refine(spec_StmtOk.calls k1 ((rd_T80 l0 x4_1).f0) ((rd_T80 l0 x4_1).f1) ((rd_T80 l0 x4_1).f2) ((rd_T80 l0 x4_1).f3.f0) ((rd_T80 l0 x4_1).f3.f1) ((rd_T80 l0 x4_1).f3.f2) false _ A4.out).mono ?_))|(go_at_call 64;(with_reducible refine(spec_StmtOk.calls k1 ((rd_T80 l0 x4_1).f0) ((rd_T80 l0 x4_1).f1) ((rd_T80 l0 x4_1).f2) ((rd_T80 l0 x4_1).f3.f0) ((rd_T80 l0 x4_1).f3.f1) ((rd_T80 l0 x4_1).f3.f2) false _ A4.out).mono ?_)));rintro e w17 ⟨rfl,hb⟩;(first|refine⟨_,rfl,?_⟩|skip);replace HB:=Za (Zi z5_1 hb);(try clear hb);(try clear hb2);(try clear hk);(try clear hi)))
      go_ret
      exact⟨by first|rfl|(simp[errW_none,errW_some]<;>rfl)|(simp[*,errW_none,errW_some]<;>rfl)|(simp[*,errW_none,errW_some,i64_w];done),by repeat(first|(with_reducible first|exact HB.out|apply Zh|apply Ze|apply Zd)|exact HB.out)⟩
    ·rw[if_neg c3] at H
     exact absurd H (by simp)
   ·rw[if_neg c2] at H
    have c2b0:decide (x4_1<(l0.length:Int))=false:=Yc c2
    clear c2
    by_cases c18:x3_1=0
    ·rw[if_pos c18] at H
     have c18b0:(x3_1==0)=true:=beq_iff_eq.mpr c18
     have c18b1:(x3_1 != 0)=false:=bne_eq_false_iff_eq.mpr c18
     clear c18
     obtain rfl:=Zj H
     go_wp2
     go_ret
     exact⟨by first|rfl|(simp[errW_none,errW_some]<;>rfl)|(simp[*,errW_none,errW_some]<;>rfl)|(simp[*,errW_none,errW_some,i64_w];done),by repeat(first|(with_reducible first|exact HB.out|apply Zh|apply Ze|apply Zd)|exact HB.out)⟩
    ·rw[if_neg c18] at H
     have c18b0:(x3_1==0)=false:=beq_eq_false_iff_ne.mpr c18
     have c18b1:(x3_1 != 0)=true:=bne_iff_ne.mpr c18
     obtain rfl:=Zj H
     go_wp2
     go_ret
     exact⟨by first|rfl|(simp[errW_none,errW_some]<;>rfl)|(simp[*,errW_none,errW_some]<;>rfl)|(simp[*,errW_none,errW_some,i64_w];done),by repeat(first|(with_reducible first|exact HB.out|apply Zh|apply Ze|apply Zd)|exact HB.out)⟩
def spec_ProgramOk.l0:Nat→Int→List (S64)→Option (Bool)
 |0,_,_=>none
 |k+1,x3,x207000=>if x3<(x207000.length:Int) then (if 0≤x3 then ((spec_BlockOk.f k ((rd_T64 x207000 x3).f0)).bind fun t209=>(if t209=true then ((spec_ExprOk.f ((rd_T64 x207000 x3).f1.f0) ((rd_T64 x207000 x3).f1.f1) ((rd_T64 x207000 x3).f1.f2)).bind fun t211=>(if t211=true then (spec_ProgramOk.l0 k (wrap64 (x3+1)) x207000) else (some false))) else (some false))) else (none)) else ((spec_l01In.f (x207000.length:Int) 1 6).bind fun t207=>(some t207))
def spec_ProgramOk.f (k:Nat) (l0_0:List (S64)):Option (Bool):=spec_ProgramOk.l0 k 0 l0_0
set_option maxHeartbeats 8000000 in
set_option maxRecDepth 100000 in
theorem spec_ProgramOk.calls (k:Nat) (A0_0:Option Addr) (c0_0:Nat) (l0_0:List (S64)) (r:Bool) (w:World) (hr0_0:Kd.C k64 w A0_0 l0_0.length l0_0) (hc0_0:l0_0.length≤c0_0) (h:spec_ProgramOk.f k l0_0=some r):
  Calls Try.prog 21 #[.agg #[.slice A0_0 l0_0.length c0_0]] w fun e w'=>e= .returned (.bool r)∧Below w.heap.size w w':=by
 have hu33:=Try.underlying33
 have hu62:=Try.underlying62
 have HR0_0:=Za hr0_0
 have HC0_0:=Za hc0_0
 clear hr0_0 hc0_0
 have HB:=Za (Ya w.heap.size w)
 have H:(spec_ProgramOk.l0 k 0 l0_0)=some r:=h
 clear h
 have H':=Za H
 clear H
 go_enter Try.func21,Try.ntmps21
 go_wp2_with (first|((with_reducible refine Zp (N:=1) rfl ?_);refine Zr ?hg (N:=1) ?hd (cs:= #[.slice A0_0 l0_0.length c0_0]) (t:=33) ?hr ?_;(case hd=>rfl);(case hg=>rfl);(case hr=>exact z5_10);intro gb206 hg w2 hbox hb;have BK206:=Za (hbox);have GW206:=Za ((z5_11:w.heap.size≤gb206));have GE206:=Za ((z5_11:w.heap.size≤gb206));replace HB:=Za (Zi z5_1 hb);clear hb hbox hg))
 go_loopg [3] k (fun kq v3 w'=>∃(x3_1:Int),v3= .int .i64 x3_1∧Aside0 (spec_ProgramOk.l0 kq x3_1 l0_0=some r)∧Aside0 (kq≤k)∧Aside0 (w'.heap[gb206]? =some (.cells #[(.slice A0_0 l0_0.length c0_0)] 33 (0,0)))∧Aside0 (Below w.heap.size w w'))
 case atStart=>exact⟨(0),z5_6,H',⟨Nat.le_refl _⟩,⟨by(with_reducible repeat(first|refine blk_drewN ?_ _|refine blk_drew ?_|refine blk_alloc ?_ _));exact BK206.out⟩,⟨by repeat(first|(with_reducible first|exact HB.out|apply Zh|apply Ze|apply Zd|refine Zf ?_ GE206.out)|exact HB.out)⟩⟩
 case round=>
  clear H'
  obtain⟨x3_1,rfl,HA,HK1,BK206,HB⟩:=hrel
  cases gk with
  |zero=>exact absurd HA.out (by simp[spec_ProgramOk.l0])
  |succ k1=>
   have H:=HA.out
   clear HA
   simp only[spec_ProgramOk.l0] at H
   by_cases c3:x3_1<(l0_0.length:Int)
   ·rw[if_pos c3] at H
    have c3b0:decide (x3_1<(l0_0.length:Int))=true:=Zt c3
    clear c3
    by_cases c4:0≤x3_1
    ·rw[if_pos c4] at H
     have c4b0:decide (0≤x3_1)=true:=Zt c4
     clear c4
     replace H:=Zl H
     obtain⟨t209,A50,H⟩:=H
     replace H:(if t209=true then ((spec_ExprOk.f ((rd_T64 l0_0 x3_1).f1.f0) ((rd_T64 l0_0 x3_1).f1.f1) ((rd_T64 l0_0 x3_1).f1.f2)).bind fun t211=>(if t211=true then (spec_ProgramOk.l0 k1 (wrap64 (x3_1+1)) l0_0) else (some false))) else (some false))=some r:=H
     have A5:=Za A50
     clear A50
     by_cases c6:t209=true
     ·subst c6
      rw[if_pos rfl] at H
      replace H:=Zl H
      obtain⟨t211,A70,H⟩:=H
      replace H:(if t211=true then (spec_ProgramOk.l0 k1 (wrap64 (x3_1+1)) l0_0) else (some false))=some r:=H
      have A7:=Za A70
      clear A70
      by_cases c8:t211=true
      ·subst c8
       rw[if_pos rfl] at H
       have H':=Za H
       clear H
       have hcz9_0:wr.cell? ⟨gb206,0,none⟩=some (.slice A0_0 l0_0.length c0_0):=(Zb BK206.out 0).trans rfl
       have hfz9_0:=Zc BK206.out 0
       have p208:0≤(x3_1:Int):=Zs z5_3
       have q208:x3_1<(l0_0.length:Int):=Zs z5_3
       obtain⟨ad208,A208_0,c208_0,e208,hx208_0,hx208_1,hx208_2,hx208_3,hl208_0,hi208_0⟩:=at_T64 HR0_0.out x3_1 p208 q208
       cases e208
       replace hx208_0:=(HB.out.cell (Zg w _ hx208_0)).trans hx208_0
       replace hx208_1:=(HB.out.cell (Zg w _ hx208_1)).trans hx208_1
       replace hx208_2:=(HB.out.cell (Zg w _ hx208_2)).trans hx208_2
       replace hx208_3:=(HB.out.cell (Zg w _ hx208_3)).trans hx208_3
       have HR208_0:=Za hi208_0
       have HC208_0:=Za hl208_0
       clear hi208_0 hl208_0
       replace p208:=eq_true p208
       replace q208:=eq_true q208
       go_wp2_with (first|((first|((with_reducible refine gate_callee (f:=40) rfl ?_);refine goesL_ (some 17) rfl rfl Try.func40 z5_7 rfl #[.slice A208_0 ((rd_T64 l0_0 x3_1).f0).length c208_0] rfl z5_0 ?_;(with_reducible refine(spec_BlockOk.calls k1 _ _ ((rd_T64 l0_0 x3_1).f0) true _ ?side1 ?side2 A5.out).mono ?_))|(go_at_call 40;(with_reducible refine(spec_BlockOk.calls k1 _ _ ((rd_T64 l0_0 x3_1).f0) true _ ?side1 ?side2 A5.out).mono ?_)));(case side1=>exact z5_9);(case side2=>exact HC208_0.out);rintro e w10 ⟨rfl,hb⟩;(first|refine⟨_,rfl,?_⟩|skip);replace BK206:=Za (Zk (g:=gb206) (o:= .cells #[.slice (some ad208) l0_0.length c0_0] 33 (0,0)) z5_8 hb);replace HB:=Za (Zi z5_5 hb);(try clear hb);(try clear hb2);(try clear hk);(try clear hi);have hcz11_0:w10.cell? ⟨gb206,0,none⟩=some (.slice (some ad208) l0_0.length c0_0):=(Zb BK206.out 0).trans rfl;have hfz11_0:=Zc BK206.out 0;have p210:0≤(x3_1:Int):=Zs z5_3;have q210:x3_1<(l0_0.length:Int):=Zs z5_3;obtain⟨ad210,A210_0,c210_0,e210,hx210_0,hx210_1,hx210_2,hx210_3,hl210_0,hi210_0⟩:=at_T64 HR0_0.out x3_1 p210 q210;obtain rfl:ad208=ad210:=(by injection e210);replace hx210_0:=(HB.out.cell (Zg w _ hx210_0)).trans hx210_0;replace hx210_1:=(HB.out.cell (Zg w _ hx210_1)).trans hx210_1;replace hx210_2:=(HB.out.cell (Zg w _ hx210_2)).trans hx210_2;replace hx210_3:=(HB.out.cell (Zg w _ hx210_3)).trans hx210_3;have HR210_0:=Za hi210_0;have HC210_0:=Za hl210_0;clear hi210_0 hl210_0;replace p210:=eq_true p210;replace q210:=eq_true q210)|(go_at_call 41;(with_reducible refine(spec_ExprOk.calls ((rd_T64 l0_0 x3_1).f1.f0) ((rd_T64 l0_0 x3_1).f1.f1) ((rd_T64 l0_0 x3_1).f1.f2) true _ A7.out).mono ?_);rintro e w12 ⟨rfl,hb⟩;replace BK206:=Za (Zk (g:=gb206) (o:= .cells #[.slice (some ad208) l0_0.length c0_0] 33 (0,0)) z5_8 hb);replace HB:=Za (Zi z5_5 hb);(try clear hb);(try clear hb2);(try clear hk);(try clear hi)))
       go_roundg k1
       case measure=>have:=HK1.out;omega
       case rel=>exact⟨(wrap64 (x3_1+1)),z5_6,H',⟨by have:=HK1.out;omega⟩,⟨by(with_reducible repeat(first|refine blk_drewN ?_ _|refine blk_drew ?_|refine blk_alloc ?_ _));exact BK206.out⟩,⟨by repeat(first|(with_reducible first|exact HB.out|apply Zh|apply Ze|apply Zd|refine Zf ?_ GE206.out)|exact HB.out)⟩⟩
      ·replace c8:=Bool.eq_false_iff.mpr c8
       subst c8
       rw[if_neg (show ¬(false=true) by decide)] at H
       obtain rfl:=Zj H
       have hcz13_0:wr.cell? ⟨gb206,0,none⟩=some (.slice A0_0 l0_0.length c0_0):=(Zb BK206.out 0).trans rfl
       have hfz13_0:=Zc BK206.out 0
       have p208:0≤(x3_1:Int):=Zs z5_3
       have q208:x3_1<(l0_0.length:Int):=Zs z5_3
       obtain⟨ad208,A208_0,c208_0,e208,hx208_0,hx208_1,hx208_2,hx208_3,hl208_0,hi208_0⟩:=at_T64 HR0_0.out x3_1 p208 q208
       cases e208
       replace hx208_0:=(HB.out.cell (Zg w _ hx208_0)).trans hx208_0
       replace hx208_1:=(HB.out.cell (Zg w _ hx208_1)).trans hx208_1
       replace hx208_2:=(HB.out.cell (Zg w _ hx208_2)).trans hx208_2
       replace hx208_3:=(HB.out.cell (Zg w _ hx208_3)).trans hx208_3
       have HR208_0:=Za hi208_0
       have HC208_0:=Za hl208_0
       clear hi208_0 hl208_0
       replace p208:=eq_true p208
       replace q208:=eq_true q208
       go_wp2_with (first|((first|((with_reducible refine gate_callee (f:=40) rfl ?_);refine goesL_ (some 17) rfl rfl Try.func40 z5_7 rfl #[.slice A208_0 ((rd_T64 l0_0 x3_1).f0).length c208_0] rfl z5_0 ?_;(with_reducible refine(spec_BlockOk.calls k1 _ _ ((rd_T64 l0_0 x3_1).f0) true _ ?side1 ?side2 A5.out).mono ?_))|(go_at_call 40;(with_reducible refine(spec_BlockOk.calls k1 _ _ ((rd_T64 l0_0 x3_1).f0) true _ ?side1 ?side2 A5.out).mono ?_)));(case side1=>exact z5_9);(case side2=>exact HC208_0.out);rintro e w14 ⟨rfl,hb⟩;(first|refine⟨_,rfl,?_⟩|skip);replace BK206:=Za (Zk (g:=gb206) (o:= .cells #[.slice (some ad208) l0_0.length c0_0] 33 (0,0)) z5_8 hb);replace HB:=Za (Zi z5_5 hb);(try clear hb);(try clear hb2);(try clear hk);(try clear hi);have hcz15_0:w14.cell? ⟨gb206,0,none⟩=some (.slice (some ad208) l0_0.length c0_0):=(Zb BK206.out 0).trans rfl;have hfz15_0:=Zc BK206.out 0;have p210:0≤(x3_1:Int):=Zs z5_3;have q210:x3_1<(l0_0.length:Int):=Zs z5_3;obtain⟨ad210,A210_0,c210_0,e210,hx210_0,hx210_1,hx210_2,hx210_3,hl210_0,hi210_0⟩:=at_T64 HR0_0.out x3_1 p210 q210;obtain rfl:ad208=ad210:=(by injection e210);replace hx210_0:=(HB.out.cell (Zg w _ hx210_0)).trans hx210_0;replace hx210_1:=(HB.out.cell (Zg w _ hx210_1)).trans hx210_1;replace hx210_2:=(HB.out.cell (Zg w _ hx210_2)).trans hx210_2;replace hx210_3:=(HB.out.cell (Zg w _ hx210_3)).trans hx210_3;have HR210_0:=Za hi210_0;have HC210_0:=Za hl210_0;clear hi210_0 hl210_0;replace p210:=eq_true p210;replace q210:=eq_true q210)|(go_at_call 41;(with_reducible refine(spec_ExprOk.calls ((rd_T64 l0_0 x3_1).f1.f0) ((rd_T64 l0_0 x3_1).f1.f1) ((rd_T64 l0_0 x3_1).f1.f2) false _ A7.out).mono ?_);rintro e w16 ⟨rfl,hb⟩;replace BK206:=Za (Zk (g:=gb206) (o:= .cells #[.slice (some ad208) l0_0.length c0_0] 33 (0,0)) z5_8 hb);replace HB:=Za (Zi z5_5 hb);(try clear hb);(try clear hb2);(try clear hk);(try clear hi)))
       go_ret
       exact⟨by first|rfl|(simp[errW_none,errW_some]<;>rfl)|(simp[*,errW_none,errW_some]<;>rfl)|(simp[*,errW_none,errW_some,i64_w];done),by repeat(first|(with_reducible first|exact HB.out|apply Zh|apply Ze|apply Zd|refine Zf ?_ GE206.out)|exact HB.out)⟩
     ·replace c6:=Bool.eq_false_iff.mpr c6
      subst c6
      rw[if_neg (show ¬(false=true) by decide)] at H
      obtain rfl:=Zj H
      have hcz17_0:wr.cell? ⟨gb206,0,none⟩=some (.slice A0_0 l0_0.length c0_0):=(Zb BK206.out 0).trans rfl
      have hfz17_0:=Zc BK206.out 0
      have p208:0≤(x3_1:Int):=Zs z5_3
      have q208:x3_1<(l0_0.length:Int):=Zs z5_3
      obtain⟨ad208,A208_0,c208_0,e208,hx208_0,hx208_1,hx208_2,hx208_3,hl208_0,hi208_0⟩:=at_T64 HR0_0.out x3_1 p208 q208
      cases e208
      replace hx208_0:=(HB.out.cell (Zg w _ hx208_0)).trans hx208_0
      replace hx208_1:=(HB.out.cell (Zg w _ hx208_1)).trans hx208_1
      replace hx208_2:=(HB.out.cell (Zg w _ hx208_2)).trans hx208_2
      replace hx208_3:=(HB.out.cell (Zg w _ hx208_3)).trans hx208_3
      have HR208_0:=Za hi208_0
      have HC208_0:=Za hl208_0
      clear hi208_0 hl208_0
      replace p208:=eq_true p208
      replace q208:=eq_true q208
      go_wp2_with (first|((first|((with_reducible refine gate_callee (f:=40) rfl ?_);refine goesL_ (some 17) rfl rfl Try.func40 z5_7 rfl #[.slice A208_0 ((rd_T64 l0_0 x3_1).f0).length c208_0] rfl z5_0 ?_;(with_reducible refine(spec_BlockOk.calls k1 _ _ ((rd_T64 l0_0 x3_1).f0) false _ ?side1 ?side2 A5.out).mono ?_))|(go_at_call 40;(with_reducible refine(spec_BlockOk.calls k1 _ _ ((rd_T64 l0_0 x3_1).f0) false _ ?side1 ?side2 A5.out).mono ?_)));(case side1=>exact z5_9);(case side2=>exact HC208_0.out);rintro e w18 ⟨rfl,hb⟩;(first|refine⟨_,rfl,?_⟩|skip);replace BK206:=Za (Zk (g:=gb206) (o:= .cells #[.slice (some ad208) l0_0.length c0_0] 33 (0,0)) z5_8 hb);replace HB:=Za (Zi z5_5 hb);(try clear hb);(try clear hb2);(try clear hk);(try clear hi)))
      go_ret
      exact⟨by first|rfl|(simp[errW_none,errW_some]<;>rfl)|(simp[*,errW_none,errW_some]<;>rfl)|(simp[*,errW_none,errW_some,i64_w];done),by repeat(first|(with_reducible first|exact HB.out|apply Zh|apply Ze|apply Zd|refine Zf ?_ GE206.out)|exact HB.out)⟩
    ·rw[if_neg c4] at H
     exact absurd H (by simp)
   ·rw[if_neg c3] at H
    have c3b0:decide (x3_1<(l0_0.length:Int))=false:=Yc c3
    clear c3
    replace H:=Zl H
    obtain⟨t207,A190,H⟩:=H
    replace H:(some t207)=some r:=H
    have A19:=Za A190
    clear A190
    obtain rfl:=Zj H
    have hcz20_0:wr.cell? ⟨gb206,0,none⟩=some (.slice A0_0 l0_0.length c0_0):=(Zb BK206.out 0).trans rfl
    have hfz20_0:=Zc BK206.out 0
    go_wp2_with (first|((first|((with_reducible refine gate_callee (f:=23) rfl ?_);refine goesL_ (some 32) rfl rfl Try.func23 z5_7 rfl #[.int .i64 (l0_0.length:Int),.int .i64 1,.int .i64 6] rfl z5_0 ?_;(with_reducible refine(spec_l01In.calls (l0_0.length:Int) 1 6 t207 _ A19.out).mono ?_))|(go_at_call 23;(with_reducible refine(spec_l01In.calls (l0_0.length:Int) 1 6 t207 _ A19.out).mono ?_)));rintro e w' ⟨rfl,⟨nd,rfl⟩⟩;(first|refine⟨_,rfl,?_⟩|skip)))
    go_ret
    exact⟨by first|rfl|(simp[errW_none,errW_some]<;>rfl)|(simp[*,errW_none,errW_some]<;>rfl)|(simp[*,errW_none,errW_some,i64_w];done),by repeat(first|(with_reducible first|exact HB.out|apply Zh|apply Ze|apply Zd|refine Zf ?_ GE206.out)|exact HB.out)⟩
def spec_IsValue.f (a0:Int):Option (Bool):=(spec_l01In.f a0 (-1000000) 1000000).bind fun t212=>(some t212)
set_option maxHeartbeats 8000000 in
set_option maxRecDepth 100000 in
theorem spec_IsValue.calls (a0:Int) (r:Bool) (w:World) (h:spec_IsValue.f a0=some r):
  Calls Try.prog 42 #[.int .i64 a0] w fun e w'=>e= .returned (.bool r)∧Drawn0 w w':=by
 have H:((spec_l01In.f a0 (-1000000) 1000000).bind fun t212=>(some t212))=some r:=h
 clear h
 replace H:=Zl H
 obtain⟨t212,A20,H⟩:=H
 replace H:(some t212)=some r:=H
 have A2:=Za A20
 clear A20
 obtain rfl:=Zj H
 go_enter Try.func42,Try.ntmps42
 go_wp2_with (first|((first|((with_reducible refine gate_callee (f:=23) rfl ?_);refine goesL_ (some 4) rfl rfl Try.func23 z5_7 rfl #[.int .i64 a0,.int .i64 (-1000000),.int .i64 1000000] rfl z5_0 ?_;(with_reducible refine(spec_l01In.calls a0 (-1000000) 1000000 t212 _ A2.out).mono ?_))|(go_at_call 23;(with_reducible refine(spec_l01In.calls a0 (-1000000) 1000000 t212 _ A2.out).mono ?_)));rintro e w' ⟨rfl,⟨nd,rfl⟩⟩;(first|refine⟨_,rfl,?_⟩|skip)))
 go_ret
 exact⟨by first|rfl|(simp;done)|(simp[*];done),by repeat(first|exact Zu _|apply Zv)⟩
def spec_VarsOk.l0:Nat→List Int→Int→Option (Bool)
 |0,_,_=>none
 |k+1,x0,x3=>if x3<(x0.length:Int) then (if 0≤x3 then ((spec_IsValue.f (rd x0 x3)).bind fun t214=>(if t214=true then (spec_VarsOk.l0 k x0 (wrap64 (x3+1))) else (some false))) else (none)) else (some ((x0.length:Int)==8))
def spec_VarsOk.f (k:Nat) (l0:List Int):Option (Bool):=spec_VarsOk.l0 k l0 0
set_option maxHeartbeats 8000000 in
set_option maxRecDepth 100000 in
theorem spec_VarsOk.calls (k:Nat) (A0:Option Addr) (c0:Nat) (l0:List Int) (r:Bool) (w:World) (hr0:Kd.C (Kd.int .i64) w A0 l0.length l0) (hc0:l0.length≤c0) (h:spec_VarsOk.f k l0=some r):
  Calls Try.prog 22 #[.slice A0 l0.length c0] w fun e w'=>e= .returned (.bool r)∧Drawn0 w w':=by
 have HR0:=Za hr0
 have HC0:=Za hc0
 clear hr0 hc0
 have H:(spec_VarsOk.l0 k l0 0)=some r:=h
 clear h
 have H':=Za H
 clear H
 go_enter Try.func22,Try.ntmps22
 go_wp2
 go_loopg [3] k (fun kq v3 w'=>∃(x3_1:Int),v3= .int .i64 x3_1∧Aside0 (spec_VarsOk.l0 kq l0 x3_1=some r)∧Aside0 (kq≤k)∧Drawn0 w w')
 case atStart=>exact⟨(0),z5_6,H',⟨Nat.le_refl _⟩,by repeat(first|exact Zu _|apply Zv)⟩
 case round=>
  clear H'
  obtain⟨x3_1,rfl,HA,HK1,⟨m1,rfl⟩⟩:=hrel
  cases gk with
  |zero=>exact absurd HA.out (by simp[spec_VarsOk.l0])
  |succ k1=>
   have H:=HA.out
   clear HA
   simp only[spec_VarsOk.l0] at H
   by_cases c2:x3_1<(l0.length:Int)
   ·rw[if_pos c2] at H
    have c2b0:decide (x3_1<(l0.length:Int))=true:=Zt c2
    clear c2
    by_cases c3:0≤x3_1
    ·rw[if_pos c3] at H
     have c3b0:decide (0≤x3_1)=true:=Zt c3
     clear c3
     replace H:=Zl H
     obtain⟨t214,A40,H⟩:=H
     replace H:(if t214=true then (spec_VarsOk.l0 k1 l0 (wrap64 (x3_1+1))) else (some false))=some r:=H
     have A4:=Za A40
     clear A40
     by_cases c5:t214=true
     ·subst c5
      rw[if_pos rfl] at H
      have H':=Za H
      clear H
      have p213:0≤(x3_1:Int):=Zs z5_3
      have q213:x3_1<(l0.length:Int):=Zs z5_3
      obtain⟨ad213,e213,hx213_0⟩:=Kd.at_int HR0.out x3_1 p213 q213
      cases e213
      replace p213:=eq_true p213
      replace q213:=eq_true q213
      go_wp2_with (first|((first|((with_reducible refine gate_callee (f:=42) rfl ?_);refine goesL_ (some 14) rfl rfl Try.func42 z5_7 rfl #[.int .i64 (rd l0 x3_1)] rfl z5_0 ?_;(with_reducible refine(spec_IsValue.calls (rd l0 x3_1) true _ A4.out).mono ?_))|(go_at_call 42;(with_reducible refine(spec_IsValue.calls (rd l0 x3_1) true _ A4.out).mono ?_)));rintro e w' ⟨rfl,⟨nd,rfl⟩⟩;(first|refine⟨_,rfl,?_⟩|skip)))
      go_roundg k1
      case measure=>have:=HK1.out;omega
      case rel=>exact⟨(wrap64 (x3_1+1)),z5_6,H',⟨by have:=HK1.out;omega⟩,by repeat(first|exact Zu _|apply Zv)⟩
     ·replace c5:=Bool.eq_false_iff.mpr c5
      subst c5
      rw[if_neg (show ¬(false=true) by decide)] at H
      obtain rfl:=Zj H
      have p213:0≤(x3_1:Int):=Zs z5_3
      have q213:x3_1<(l0.length:Int):=Zs z5_3
      obtain⟨ad213,e213,hx213_0⟩:=Kd.at_int HR0.out x3_1 p213 q213
      cases e213
      replace p213:=eq_true p213
      replace q213:=eq_true q213
      go_wp2_with (first|((first|((with_reducible refine gate_callee (f:=42) rfl ?_);refine goesL_ (some 14) rfl rfl Try.func42 z5_7 rfl #[.int .i64 (rd l0 x3_1)] rfl z5_0 ?_;(with_reducible refine(spec_IsValue.calls (rd l0 x3_1) false _ A4.out).mono ?_))|(go_at_call 42;(with_reducible refine(spec_IsValue.calls (rd l0 x3_1) false _ A4.out).mono ?_)));rintro e w' ⟨rfl,⟨nd,rfl⟩⟩;(first|refine⟨_,rfl,?_⟩|skip)))
      go_ret
      exact⟨by first|rfl|(simp;done)|(simp[*];done),by repeat(first|exact Zu _|apply Zv)⟩
    ·rw[if_neg c3] at H
     exact absurd H (by simp)
   ·rw[if_neg c2] at H
    have c2b0:decide (x3_1<(l0.length:Int))=false:=Yc c2
    clear c2
    obtain rfl:=Zj H
    go_wp2
    go_ret
    exact⟨by first|rfl|(simp;done)|(simp[*];done),by repeat(first|exact Zu _|apply Zv)⟩
end Go.Proofs.Ytlolppaddphpoaa.G
