/- Functions of the program as plain Lean functions, and that each call comes to its function's answer; written by a program of the session. No condition. -/
import Derived.Test.YtccjlmpeogifkaaGreatGx0
import Derived.Test.YtccjlmpeogifkaaGreatGx2
import Derived.Test.YtccjlmpeogifkaaGreatGx3
namespace Go.Proofs.YtccjlmpeogifkaaGreat.G
open Go.RowKit Go.Proofs.YtccjlmpeogifkaaGreatW.PrintWords Go.Proofs.YtccjlmpeogifkaaGreatW.PrintLast Go.Proofs.YtccjlmpeogifkaaGreatW.PrintMore
attribute [local go_sem] max2_int min2_int max_two min_two max_three min_three max_four min_four   -- for this text's walks alone
set_option linter.unusedVariables false
set_option linter.unusedSimpArgs false
attribute [local go_sem high] eqA77
theorem z4_0 {P:Prop} (h:P:=by(try simp only[Ys,Yt,List.map_nil]);first|done|rfl|(simp only[List.length_drop,List.length_take];rfl)):P:=h
theorem z4_1 {P:Prop} (h:P:=by repeat(first|(with_reducible first|exact HB.out|apply Zh|apply Ze|apply Zd)|exact HB.out)):P:=h
theorem z4_2 {P:Prop} (h:P:=by repeat(first|(with_reducible first|exact HB.out|apply Zh|apply Ze|apply Zd|refine Zg ?_ GE119.out)|exact HB.out)):P:=h
theorem z4_3 {P:Prop} (h:P:=by first|(with_reducible assumption)|assumption):P:=h
theorem z4_4 {P:Prop} (h:P:=by(with_reducible repeat(first|refine blk_drewN ?_ _|refine blk_drew ?_|refine blk_alloc ?_ _));exact BK119.out):P:=h
theorem z4_5 {P:Prop} (h:P:=by repeat(first|(with_reducible first|exact HB.out|apply Zh|apply Ze|apply Zd|refine Zg ?_ GE138.out)|exact HB.out)):P:=h
theorem z4_6 {P:Prop} (h:P:=by first|rfl|(simp;done)|(simp[*];done)):P:=h
theorem z4_7 {P:Prop} (h:P:=by kernel_rfl):P:=h
theorem z4_8 {P:Prop} (h:P:=by(with_reducible repeat(first|refine blk_drewN ?_ _|refine blk_drew ?_|refine blk_alloc ?_ _));exact BK138.out):P:=h
theorem z4_9 {P:Prop} (h:P:=by repeat(first|exact(Yj HR140_0.out HB.out)|(with_reducible refine Yh ?_ _)|(with_reducible refine Ye ?_ _)|(with_reducible refine Yi ?_))):P:=h
theorem z4_10 {P:Prop} (h:P:=by first|(go_simp;done)|(go_simp;rfl)):P:=h
theorem z4_11 {P:Prop} (h:P:=by rw[hg];exact(Zt z4_1)):P:=h
def spec_StmtOk.j0:Nat→Int→Bool→Int→Int→Int→Int→Int→Int→Option (Bool)
 |0,_,_,_,_,_,_,_,_=>none
 |k+1,x8,x29,x120000,x120001,x120002,x120003,x120004,x120005=>if x29=true then ((spec_ExprOk.f x120003 x120004 x120005).bind fun t130=>(some t130)) else (if x8=5 then ((spec_l01In.f x120002 1 5).bind fun t131=>(some t131)) else (some (x120000==6)))
def spec_StmtOk.f (k:Nat) (a0_0:Int) (a0_1:Int) (a0_2:Int) (a0_3:Int) (a0_4:Int) (a0_5:Int):Option (Bool):=(spec_l04Plain.f k a0_0 a0_1 a0_2 a0_3 a0_4 a0_5).bind fun bt120=>(if (!(a0_0==bt120.1)||(!(a0_1==bt120.2.1)||(!(a0_2==bt120.2.2.1)||((!(a0_3==bt120.2.2.2.1)||(!(a0_4==bt120.2.2.2.2.1)||(!(a0_5==bt120.2.2.2.2.2))))))))=true then (some false) else (if a0_0=1 then ((spec_l01In.f a0_1 0 7).bind fun t126=>(if t126=true then ((spec_ExprOk.f a0_3 a0_4 a0_5).bind fun t127=>(some t127)) else (some false))) else (if a0_0=2 then ((spec_l01In.f a0_1 0 7).bind fun t128=>(if t128=true then ((spec_l01In.f a0_2 0 3).bind fun t129=>(some t129)) else (some false))) else (if a0_0=3 then (spec_StmtOk.j0 k a0_0 (a0_0==3) a0_0 a0_1 a0_2 a0_3 a0_4 a0_5) else (spec_StmtOk.j0 k a0_0 (a0_0==4) a0_0 a0_1 a0_2 a0_3 a0_4 a0_5)))))
theorem spec_StmtOk.mono_l:∀k,(∀y0 y1 y2 y3 y4 y5 y6 y7,LeO (spec_StmtOk.j0 k y0 y1 y2 y3 y4 y5 y6 y7) (spec_StmtOk.j0 (k+1) y0 y1 y2 y3 y4 y5 y6 y7))
 |0=>fun _ _ _ _ _ _ _ _ r h=>by simp[spec_StmtOk.j0] at h
 |k+1=>by
  have ih0:=spec_StmtOk.mono_l k
  ·intro y0 y1 y2 y3 y4 y5 y6 y7
   unfold spec_StmtOk.j0
   repeat' first
   |(with_reducible exact ih0 _ _ _ _ _ _ _ _)
   |(with_reducible exact spec_l04Plain.mono _ _ _ _ _ _ _)
   |(with_reducible exact Yn _)
   |(with_reducible exact Yb _)
   |(with_reducible refine Zx ?_ ?_)
   |(with_reducible refine Zy ?_ (fun _=> ?_))
   |exact ih0 _ _ _ _ _ _ _ _
   |exact spec_l04Plain.mono _ _ _ _ _ _ _
   |exact Yb _
   |refine Zx ?_ ?_
   |refine Zy ?_ (fun _=> ?_)
theorem spec_StmtOk.mono:∀a0 a1 a2 a3 a4 a5 k,LeO (spec_StmtOk.f k a0 a1 a2 a3 a4 a5) (spec_StmtOk.f (k+1) a0 a1 a2 a3 a4 a5):=by
 intro a0 a1 a2 a3 a4 a5 k
 have ih0:=spec_StmtOk.mono_l k
 unfold spec_StmtOk.f
 repeat' first
   |(with_reducible exact ih0 _ _ _ _ _ _ _ _)
   |(with_reducible exact spec_l04Plain.mono _ _ _ _ _ _ _)
   |(with_reducible exact Yn _)
   |(with_reducible exact Yb _)
   |(with_reducible refine Zx ?_ ?_)
   |(with_reducible refine Zy ?_ (fun _=> ?_))
   |exact ih0 _ _ _ _ _ _ _ _
   |exact spec_l04Plain.mono _ _ _ _ _ _ _
   |exact Yb _
   |refine Zx ?_ ?_
   |refine Zy ?_ (fun _=> ?_)
set_option maxHeartbeats 8000000 in
set_option maxRecDepth 100000 in
theorem spec_StmtOk.calls (k:Nat) (a0_0:Int) (a0_1:Int) (a0_2:Int) (a0_3:Int) (a0_4:Int) (a0_5:Int) (r:Bool) (w:World) (h:spec_StmtOk.f k a0_0 a0_1 a0_2 a0_3 a0_4 a0_5=some r):
  Calls Tryz.prog 81 #[.agg #[.int .i64 a0_0,.int .i64 a0_1,.int .i64 a0_2,.int .i64 a0_3,.int .i64 a0_4,.int .i64 a0_5]] w fun e w'=>e= .returned (.bool r)∧Below w.heap.size w w':=by
 have hu77:=Tryz.underlying77
 have hu53:=Tryz.underlying53
 have HB:=Za (Yc w.heap.size w)
 have H:((spec_l04Plain.f k a0_0 a0_1 a0_2 a0_3 a0_4 a0_5).bind fun bt120=>(if (!(a0_0==bt120.1)||(!(a0_1==bt120.2.1)||(!(a0_2==bt120.2.2.1)||((!(a0_3==bt120.2.2.2.1)||(!(a0_4==bt120.2.2.2.2.1)||(!(a0_5==bt120.2.2.2.2.2))))))))=true then (some false) else (if a0_0=1 then ((spec_l01In.f a0_1 0 7).bind fun t126=>(if t126=true then ((spec_ExprOk.f a0_3 a0_4 a0_5).bind fun t127=>(some t127)) else (some false))) else (if a0_0=2 then ((spec_l01In.f a0_1 0 7).bind fun t128=>(if t128=true then ((spec_l01In.f a0_2 0 3).bind fun t129=>(some t129)) else (some false))) else (if a0_0=3 then (spec_StmtOk.j0 k a0_0 (a0_0==3) a0_0 a0_1 a0_2 a0_3 a0_4 a0_5) else (spec_StmtOk.j0 k a0_0 (a0_0==4) a0_0 a0_1 a0_2 a0_3 a0_4 a0_5))))))=some r:=h
 clear h
 replace H:=Zl H
 obtain⟨⟨t120,t121,t122,t123,t124,t125⟩,A20,H⟩:=H
 replace H:(if (!(a0_0==t120)||(!(a0_1==t121)||(!(a0_2==t122)||((!(a0_3==t123)||(!(a0_4==t124)||(!(a0_5==t125))))))))=true then (some false) else (if a0_0=1 then ((spec_l01In.f a0_1 0 7).bind fun t126=>(if t126=true then ((spec_ExprOk.f a0_3 a0_4 a0_5).bind fun t127=>(some t127)) else (some false))) else (if a0_0=2 then ((spec_l01In.f a0_1 0 7).bind fun t128=>(if t128=true then ((spec_l01In.f a0_2 0 3).bind fun t129=>(some t129)) else (some false))) else (if a0_0=3 then (spec_StmtOk.j0 k a0_0 (a0_0==3) a0_0 a0_1 a0_2 a0_3 a0_4 a0_5) else (spec_StmtOk.j0 k a0_0 (a0_0==4) a0_0 a0_1 a0_2 a0_3 a0_4 a0_5)))))=some r:=H
 have A2:=Za A20
 clear A20
 by_cases c3:(!(a0_0==t120)||(!(a0_1==t121)||(!(a0_2==t122)||((!(a0_3==t123)||(!(a0_4==t124)||(!(a0_5==t125))))))))=true
 ·rw[if_pos c3] at H
  have c3b0:(!(a0_0==t120)||(!(a0_1==t121)||(!(a0_2==t122)||((!(a0_3==t123)||(!(a0_4==t124)||(!(a0_5==t125))))))))=true:=c3
  clear c3
  obtain rfl:=Zm H
  go_enter Tryz.func81,Tryz.ntmps81
  try go_wp2_with (first|((with_reducible refine Zr (N:=1) rfl ?_);refine Zs ?hg (N:=1) ?hd (cs:= #[.int .i64 a0_0,.int .i64 a0_1,.int .i64 a0_2,.int .i64 a0_3,.int .i64 a0_4,.int .i64 a0_5]) (t:=77) ?hr ?_;(case hd=>rfl);(case hg=>rfl);(case hr=>exact z4_10);intro gb119 hg w4 hbox hb;have BK119:=Za (hbox);have GW119:=Za ((z4_11:w.heap.size≤gb119));have GE119:=Za ((z4_11:w.heap.size≤gb119));replace HB:=Za (Zi z4_1 hb);clear hb hbox hg))
  have n0_:=Za (blk_drew BK119.out)
  have n1_:=Za (Zd HB.out)
  clear BK119
  clear HB
  have BK119:=n0_
  have HB:=n1_
  clear n0_ n1_
  refine start_ (n:=4) (S:=fun w'=>w'.cell? ⟨gb119,0,none⟩=some (.int .i64 a0_0)∧w'.cell? ⟨gb119,1,none⟩=some (.int .i64 a0_1)∧w'.cell? ⟨gb119,2,none⟩=some (.int .i64 a0_2)∧w'.cell? ⟨gb119,3,none⟩=some (.int .i64 a0_3)∧w'.cell? ⟨gb119,4,none⟩=some (.int .i64 a0_4)∧w'.cell? ⟨gb119,5,none⟩=some (.int .i64 a0_5)) (ds:=[]) #[false,false,false,false] z4_7 rfl rfl ⟨(Zb BK119.out 0).trans rfl,(Zb BK119.out 1).trans rfl,(Zb BK119.out 2).trans rfl,(Zb BK119.out 3).trans rfl,(Zb BK119.out 4).trans rfl,(Zb BK119.out 5).trans rfl⟩ (fun hHeld=> ?_)
  generalize w4.drew=w5 at BK119 HB hHeld ⊢
  refine take_ (i:=0) (N:=some 3) (v:= ?_) (a':= ?_) #[true,false,false,false] rfl rfl z4_7 (fun _ _ _ h=>h) (Or.inl ⟨by rfl,?_⟩) hHeld ?_ ?_
  rotate_left
  ·rintro w' ⟨s0,s1,s2,s3,s4,s5⟩
   go_simp
   with_reducible rfl
  rotate_left
  ·simp only[Act.put,Zu,Zv,Zw,i64_w,i32_w]
   rfl
  refine take_ (i:=1) (N:=some 4) (v:= ?_) (a':= ?_) #[true,true,false,false] rfl rfl z4_7 (fun _ _ _ h=>h) (Or.inl ⟨by rfl,?_⟩) hHeld ?_ ?_
  rotate_left
  ·rintro w' ⟨s0,s1,s2,s3,s4,s5⟩
   go_simp
   with_reducible rfl
  rotate_left
  ·simp only[Act.put,Zu,Zv,Zw,i64_w,i32_w]
   rfl
  refine one_ (i:=2) (N:=some 5) #[true,true,true,false] rfl rfl z4_7 (by decide) (fun K hK=> ?_)
  refine goes_ Tryz.func107 z4_7 rfl #[.agg #[.int .i64 a0_0,.int .i64 a0_1,.int .i64 a0_2,.int .i64 a0_3,.int .i64 a0_4,.int .i64 a0_5]] (by rfl) rfl rfl z4_0 ?_
  with_reducible refine(spec_l04Plain.calls k a0_0 a0_1 a0_2 a0_3 a0_4 a0_5 t120 t121 t122 t123 t124 t125 _ A2.out).mono ?_
  rintro e w6 ⟨rfl,hb⟩
  refine⟨_,rfl,?_⟩
  have n0_:=Za (Zk (g:=gb119) (o:= .cells #[.int .i64 a0_0,.int .i64 a0_1,.int .i64 a0_2,.int .i64 a0_3,.int .i64 a0_4,.int .i64 a0_5] 77 (0,0)) z4_4 hb)
  have n1_:=Za (Zi z4_2 hb)
  clear BK119
  clear HB
  have BK119:=n0_
  have HB:=n1_
  clear n0_ n1_
  (try clear hb)
  (try clear hb2)
  (try clear hk)
  (try clear hi)
  refine hK.out _ _ ⟨(Zb BK119.out 0).trans rfl,(Zb BK119.out 1).trans rfl,(Zb BK119.out 2).trans rfl,(Zb BK119.out 3).trans rfl,(Zb BK119.out 4).trans rfl,(Zb BK119.out 5).trans rfl⟩ (fun hHeld=> ?_)
  clear hK K
  refine norm_ (a':= ?_) ?_ ?_
  rotate_left
  ·show Act.put _ (some 5) _=_
   simp only[Act.put,Zu,Zv,Zw,i64_w,i32_w]
   rfl
  refine pure_ (i:=3) (N:=some 6) (v:= ?_) (a':= ?_) #[true,true,true,true] rfl rfl z4_7 (fun _ _ _ h=>h) (Or.inl ⟨by rfl,?_⟩) ?_ ?_
  rotate_left
  ·intro w'
   go_simp
   with_reducible rfl
  rotate_left
  ·simp only[Act.put,Zu,Zv,Zw,i64_w,i32_w]
   rfl
  refine done_ z4_7 ?_
  try go_wp2
  go_ret
  exact⟨by first|rfl|(simp[errW_none,errW_some]<;>rfl)|(simp[*,errW_none,errW_some]<;>rfl)|(simp[*,errW_none,errW_some,i64_w];done),by repeat(first|(with_reducible first|exact HB.out|apply Zh|apply Ze|apply Zd|refine Zg ?_ GE119.out)|exact HB.out)⟩
 ·rw[if_neg c3] at H
  have c3b0:(!(a0_0==t120)||(!(a0_1==t121)||(!(a0_2==t122)||((!(a0_3==t123)||(!(a0_4==t124)||(!(a0_5==t125))))))))=false:=by simpa using c3
  clear c3
  by_cases c7:a0_0=1
  ·rw[if_pos c7] at H
   have c7b0:(a0_0==1)=true:=beq_iff_eq.mpr c7
   have c7b1:(a0_0 != 1)=false:=bne_eq_false_iff_eq.mpr c7
   clear c7
   replace H:=Zl H
   obtain⟨t126,A80,H⟩:=H
   replace H:(if t126=true then ((spec_ExprOk.f a0_3 a0_4 a0_5).bind fun t127=>(some t127)) else (some false))=some r:=H
   have A8:=Za A80
   clear A80
   by_cases c9:t126=true
   ·subst c9
    rw[if_pos rfl] at H
    replace H:=Zl H
    obtain⟨t127,A100,H⟩:=H
    replace H:(some t127)=some r:=H
    have A10:=Za A100
    clear A100
    obtain rfl:=Zm H
    go_enter Tryz.func81,Tryz.ntmps81
    try go_wp2_with (first|((with_reducible refine Zr (N:=1) rfl ?_);refine Zs ?hg (N:=1) ?hd (cs:= #[.int .i64 a0_0,.int .i64 a0_1,.int .i64 a0_2,.int .i64 a0_3,.int .i64 a0_4,.int .i64 a0_5]) (t:=77) ?hr ?_;(case hd=>rfl);(case hg=>rfl);(case hr=>exact z4_10);intro gb119 hg w11 hbox hb;have BK119:=Za (hbox);have GW119:=Za ((z4_11:w.heap.size≤gb119));have GE119:=Za ((z4_11:w.heap.size≤gb119));replace HB:=Za (Zi z4_1 hb);clear hb hbox hg))
    have n0_:=Za (blk_drew BK119.out)
    have n1_:=Za (Zd HB.out)
    clear BK119
    clear HB
    have BK119:=n0_
    have HB:=n1_
    clear n0_ n1_
    refine start_ (n:=4) (S:=fun w'=>w'.cell? ⟨gb119,0,none⟩=some (.int .i64 a0_0)∧w'.cell? ⟨gb119,1,none⟩=some (.int .i64 a0_1)∧w'.cell? ⟨gb119,2,none⟩=some (.int .i64 a0_2)∧w'.cell? ⟨gb119,3,none⟩=some (.int .i64 a0_3)∧w'.cell? ⟨gb119,4,none⟩=some (.int .i64 a0_4)∧w'.cell? ⟨gb119,5,none⟩=some (.int .i64 a0_5)) (ds:=[]) #[false,false,false,false] z4_7 rfl rfl ⟨(Zb BK119.out 0).trans rfl,(Zb BK119.out 1).trans rfl,(Zb BK119.out 2).trans rfl,(Zb BK119.out 3).trans rfl,(Zb BK119.out 4).trans rfl,(Zb BK119.out 5).trans rfl⟩ (fun hHeld=> ?_)
    generalize w11.drew=w12 at BK119 HB hHeld ⊢
    refine take_ (i:=0) (N:=some 3) (v:= ?_) (a':= ?_) #[true,false,false,false] rfl rfl z4_7 (fun _ _ _ h=>h) (Or.inl ⟨by rfl,?_⟩) hHeld ?_ ?_
    rotate_left
    ·rintro w' ⟨s0,s1,s2,s3,s4,s5⟩
     go_simp
     with_reducible rfl
    rotate_left
    ·simp only[Act.put,Zu,Zv,Zw,i64_w,i32_w]
     rfl
    refine take_ (i:=1) (N:=some 4) (v:= ?_) (a':= ?_) #[true,true,false,false] rfl rfl z4_7 (fun _ _ _ h=>h) (Or.inl ⟨by rfl,?_⟩) hHeld ?_ ?_
    rotate_left
    ·rintro w' ⟨s0,s1,s2,s3,s4,s5⟩
     go_simp
     with_reducible rfl
    rotate_left
    ·simp only[Act.put,Zu,Zv,Zw,i64_w,i32_w]
     rfl
    refine one_ (i:=2) (N:=some 5) #[true,true,true,false] rfl rfl z4_7 (by decide) (fun K hK=> ?_)
    refine goes_ Tryz.func107 z4_7 rfl #[.agg #[.int .i64 a0_0,.int .i64 a0_1,.int .i64 a0_2,.int .i64 a0_3,.int .i64 a0_4,.int .i64 a0_5]] (by rfl) rfl rfl z4_0 ?_
    with_reducible refine(spec_l04Plain.calls k a0_0 a0_1 a0_2 a0_3 a0_4 a0_5 t120 t121 t122 t123 t124 t125 _ A2.out).mono ?_
    rintro e w13 ⟨rfl,hb⟩
    refine⟨_,rfl,?_⟩
    have n0_:=Za (Zk (g:=gb119) (o:= .cells #[.int .i64 a0_0,.int .i64 a0_1,.int .i64 a0_2,.int .i64 a0_3,.int .i64 a0_4,.int .i64 a0_5] 77 (0,0)) z4_4 hb)
    have n1_:=Za (Zi z4_2 hb)
    clear BK119
    clear HB
    have BK119:=n0_
    have HB:=n1_
    clear n0_ n1_
    (try clear hb)
    (try clear hb2)
    (try clear hk)
    (try clear hi)
    refine hK.out _ _ ⟨(Zb BK119.out 0).trans rfl,(Zb BK119.out 1).trans rfl,(Zb BK119.out 2).trans rfl,(Zb BK119.out 3).trans rfl,(Zb BK119.out 4).trans rfl,(Zb BK119.out 5).trans rfl⟩ (fun hHeld=> ?_)
    clear hK K
    refine norm_ (a':= ?_) ?_ ?_
    rotate_left
    ·show Act.put _ (some 5) _=_
     simp only[Act.put,Zu,Zv,Zw,i64_w,i32_w]
     rfl
    refine pure_ (i:=3) (N:=some 6) (v:= ?_) (a':= ?_) #[true,true,true,true] rfl rfl z4_7 (fun _ _ _ h=>h) (Or.inl ⟨by rfl,?_⟩) ?_ ?_
    rotate_left
    ·intro w'
     go_simp
     with_reducible rfl
    rotate_left
    ·simp only[Act.put,Zu,Zv,Zw,i64_w,i32_w]
     rfl
    refine done_ z4_7 ?_
    have hcz14_0:w13.cell? ⟨gb119,0,none⟩=some (.int .i64 a0_0):=(Zb BK119.out 0).trans rfl
    have hcz14_1:w13.cell? ⟨gb119,1,none⟩=some (.int .i64 a0_1):=(Zb BK119.out 1).trans rfl
    have hcz14_2:w13.cell? ⟨gb119,2,none⟩=some (.int .i64 a0_2):=(Zb BK119.out 2).trans rfl
    have hcz14_3:w13.cell? ⟨gb119,3,none⟩=some (.int .i64 a0_3):=(Zb BK119.out 3).trans rfl
    have hcz14_4:w13.cell? ⟨gb119,4,none⟩=some (.int .i64 a0_4):=(Zb BK119.out 4).trans rfl
    have hcz14_5:w13.cell? ⟨gb119,5,none⟩=some (.int .i64 a0_5):=(Zb BK119.out 5).trans rfl
    have hfz14_0:=Zc BK119.out 0
    have hfz14_1:=Zc BK119.out 1
    have hfz14_2:=Zc BK119.out 2
    have hfz14_3:=Zc BK119.out 3
    have hfz14_4:=Zc BK119.out 4
    have hfz14_5:=Zc BK119.out 5
    try go_wp2_with (first|((first|((with_reducible refine gate_callee (f:=47) rfl ?_);refine goesL_ (some 13) rfl rfl Tryz.func47 z4_7 rfl #[.int .i64 a0_1,.int .i64 0,.int .i64 7] rfl z4_0 ?_;(with_reducible refine(spec_l01In.calls a0_1 0 7 true _ A8.out).mono ?_))|(go_at_call 47;(with_reducible refine(spec_l01In.calls a0_1 0 7 true _ A8.out).mono ?_)));rintro e w' ⟨rfl,⟨nd,rfl⟩⟩;(first|refine⟨_,rfl,?_⟩|skip))|(go_at_call 80;(with_reducible refine(spec_ExprOk.calls a0_3 a0_4 a0_5 t127 _ A10.out).mono ?_);rintro e w15 ⟨rfl,hb⟩;replace BK119:=Za (Zk (g:=gb119) (o:= .cells #[.int .i64 a0_0,.int .i64 a0_1,.int .i64 a0_2,.int .i64 a0_3,.int .i64 a0_4,.int .i64 a0_5] 77 (0,0)) z4_4 hb);replace HB:=Za (Zi z4_2 hb);(try clear hb);(try clear hb2);(try clear hk);(try clear hi)))
    go_ret
    exact⟨by first|rfl|(simp[errW_none,errW_some]<;>rfl)|(simp[*,errW_none,errW_some]<;>rfl)|(simp[*,errW_none,errW_some,i64_w];done),by repeat(first|(with_reducible first|exact HB.out|apply Zh|apply Ze|apply Zd|refine Zg ?_ GE119.out)|exact HB.out)⟩
   ·replace c9:=Bool.eq_false_iff.mpr c9
    subst c9
    rw[if_neg (show ¬(false=true) by decide)] at H
    obtain rfl:=Zm H
    go_enter Tryz.func81,Tryz.ntmps81
    try go_wp2_with (first|((with_reducible refine Zr (N:=1) rfl ?_);refine Zs ?hg (N:=1) ?hd (cs:= #[.int .i64 a0_0,.int .i64 a0_1,.int .i64 a0_2,.int .i64 a0_3,.int .i64 a0_4,.int .i64 a0_5]) (t:=77) ?hr ?_;(case hd=>rfl);(case hg=>rfl);(case hr=>exact z4_10);intro gb119 hg w16 hbox hb;have BK119:=Za (hbox);have GW119:=Za ((z4_11:w.heap.size≤gb119));have GE119:=Za ((z4_11:w.heap.size≤gb119));replace HB:=Za (Zi z4_1 hb);clear hb hbox hg))
    have n0_:=Za (blk_drew BK119.out)
    have n1_:=Za (Zd HB.out)
    clear BK119
    clear HB
    have BK119:=n0_
    have HB:=n1_
    clear n0_ n1_
    refine start_ (n:=4) (S:=fun w'=>w'.cell? ⟨gb119,0,none⟩=some (.int .i64 a0_0)∧w'.cell? ⟨gb119,1,none⟩=some (.int .i64 a0_1)∧w'.cell? ⟨gb119,2,none⟩=some (.int .i64 a0_2)∧w'.cell? ⟨gb119,3,none⟩=some (.int .i64 a0_3)∧w'.cell? ⟨gb119,4,none⟩=some (.int .i64 a0_4)∧w'.cell? ⟨gb119,5,none⟩=some (.int .i64 a0_5)) (ds:=[]) #[false,false,false,false] z4_7 rfl rfl ⟨(Zb BK119.out 0).trans rfl,(Zb BK119.out 1).trans rfl,(Zb BK119.out 2).trans rfl,(Zb BK119.out 3).trans rfl,(Zb BK119.out 4).trans rfl,(Zb BK119.out 5).trans rfl⟩ (fun hHeld=> ?_)
    generalize w16.drew=w17 at BK119 HB hHeld ⊢
    refine take_ (i:=0) (N:=some 3) (v:= ?_) (a':= ?_) #[true,false,false,false] rfl rfl z4_7 (fun _ _ _ h=>h) (Or.inl ⟨by rfl,?_⟩) hHeld ?_ ?_
    rotate_left
    ·rintro w' ⟨s0,s1,s2,s3,s4,s5⟩
     go_simp
     with_reducible rfl
    rotate_left
    ·simp only[Act.put,Zu,Zv,Zw,i64_w,i32_w]
     rfl
    refine take_ (i:=1) (N:=some 4) (v:= ?_) (a':= ?_) #[true,true,false,false] rfl rfl z4_7 (fun _ _ _ h=>h) (Or.inl ⟨by rfl,?_⟩) hHeld ?_ ?_
    rotate_left
    ·rintro w' ⟨s0,s1,s2,s3,s4,s5⟩
     go_simp
     with_reducible rfl
    rotate_left
    ·simp only[Act.put,Zu,Zv,Zw,i64_w,i32_w]
     rfl
    refine one_ (i:=2) (N:=some 5) #[true,true,true,false] rfl rfl z4_7 (by decide) (fun K hK=> ?_)
    refine goes_ Tryz.func107 z4_7 rfl #[.agg #[.int .i64 a0_0,.int .i64 a0_1,.int .i64 a0_2,.int .i64 a0_3,.int .i64 a0_4,.int .i64 a0_5]] (by rfl) rfl rfl z4_0 ?_
    with_reducible refine(spec_l04Plain.calls k a0_0 a0_1 a0_2 a0_3 a0_4 a0_5 t120 t121 t122 t123 t124 t125 _ A2.out).mono ?_
    rintro e w18 ⟨rfl,hb⟩
    refine⟨_,rfl,?_⟩
    have n0_:=Za (Zk (g:=gb119) (o:= .cells #[.int .i64 a0_0,.int .i64 a0_1,.int .i64 a0_2,.int .i64 a0_3,.int .i64 a0_4,.int .i64 a0_5] 77 (0,0)) z4_4 hb)
    have n1_:=Za (Zi z4_2 hb)
    clear BK119
    clear HB
    have BK119:=n0_
    have HB:=n1_
    clear n0_ n1_
    (try clear hb)
    (try clear hb2)
    (try clear hk)
    (try clear hi)
    refine hK.out _ _ ⟨(Zb BK119.out 0).trans rfl,(Zb BK119.out 1).trans rfl,(Zb BK119.out 2).trans rfl,(Zb BK119.out 3).trans rfl,(Zb BK119.out 4).trans rfl,(Zb BK119.out 5).trans rfl⟩ (fun hHeld=> ?_)
    clear hK K
    refine norm_ (a':= ?_) ?_ ?_
    rotate_left
    ·show Act.put _ (some 5) _=_
     simp only[Act.put,Zu,Zv,Zw,i64_w,i32_w]
     rfl
    refine pure_ (i:=3) (N:=some 6) (v:= ?_) (a':= ?_) #[true,true,true,true] rfl rfl z4_7 (fun _ _ _ h=>h) (Or.inl ⟨by rfl,?_⟩) ?_ ?_
    rotate_left
    ·intro w'
     go_simp
     with_reducible rfl
    rotate_left
    ·simp only[Act.put,Zu,Zv,Zw,i64_w,i32_w]
     rfl
    refine done_ z4_7 ?_
    have hcz19_0:w18.cell? ⟨gb119,0,none⟩=some (.int .i64 a0_0):=(Zb BK119.out 0).trans rfl
    have hcz19_1:w18.cell? ⟨gb119,1,none⟩=some (.int .i64 a0_1):=(Zb BK119.out 1).trans rfl
    have hcz19_2:w18.cell? ⟨gb119,2,none⟩=some (.int .i64 a0_2):=(Zb BK119.out 2).trans rfl
    have hcz19_3:w18.cell? ⟨gb119,3,none⟩=some (.int .i64 a0_3):=(Zb BK119.out 3).trans rfl
    have hcz19_4:w18.cell? ⟨gb119,4,none⟩=some (.int .i64 a0_4):=(Zb BK119.out 4).trans rfl
    have hcz19_5:w18.cell? ⟨gb119,5,none⟩=some (.int .i64 a0_5):=(Zb BK119.out 5).trans rfl
    have hfz19_0:=Zc BK119.out 0
    have hfz19_1:=Zc BK119.out 1
    have hfz19_2:=Zc BK119.out 2
    have hfz19_3:=Zc BK119.out 3
    have hfz19_4:=Zc BK119.out 4
    have hfz19_5:=Zc BK119.out 5
    try go_wp2_with (first|((first|((with_reducible refine gate_callee (f:=47) rfl ?_);refine goesL_ (some 13) rfl rfl Tryz.func47 z4_7 rfl #[.int .i64 a0_1,.int .i64 0,.int .i64 7] rfl z4_0 ?_;(with_reducible refine(spec_l01In.calls a0_1 0 7 false _ A8.out).mono ?_))|(go_at_call 47;(with_reducible refine(spec_l01In.calls a0_1 0 7 false _ A8.out).mono ?_)));rintro e w' ⟨rfl,⟨nd,rfl⟩⟩;(first|refine⟨_,rfl,?_⟩|skip)))
    go_ret
    exact⟨by first|rfl|(simp[errW_none,errW_some]<;>rfl)|(simp[*,errW_none,errW_some]<;>rfl)|(simp[*,errW_none,errW_some,i64_w];done),by repeat(first|(with_reducible first|exact HB.out|apply Zh|apply Ze|apply Zd|refine Zg ?_ GE119.out)|exact HB.out)⟩
  ·rw[if_neg c7] at H
   have c7b0:(a0_0==1)=false:=beq_eq_false_iff_ne.mpr c7
   have c7b1:(a0_0 != 1)=true:=bne_iff_ne.mpr c7
   by_cases c20:a0_0=2
   ·rw[if_pos c20] at H
    have c20b0:(a0_0==2)=true:=beq_iff_eq.mpr c20
    have c20b1:(a0_0 != 2)=false:=bne_eq_false_iff_eq.mpr c20
    clear c20
    replace H:=Zl H
    obtain⟨t128,A210,H⟩:=H
    replace H:(if t128=true then ((spec_l01In.f a0_2 0 3).bind fun t129=>(some t129)) else (some false))=some r:=H
    have A21:=Za A210
    clear A210
    by_cases c22:t128=true
    ·subst c22
     rw[if_pos rfl] at H
     replace H:=Zl H
     obtain⟨t129,A230,H⟩:=H
     replace H:(some t129)=some r:=H
     have A23:=Za A230
     clear A230
     obtain rfl:=Zm H
     go_enter Tryz.func81,Tryz.ntmps81
     try go_wp2_with (first|((with_reducible refine Zr (N:=1) rfl ?_);refine Zs ?hg (N:=1) ?hd (cs:= #[.int .i64 a0_0,.int .i64 a0_1,.int .i64 a0_2,.int .i64 a0_3,.int .i64 a0_4,.int .i64 a0_5]) (t:=77) ?hr ?_;(case hd=>rfl);(case hg=>rfl);(case hr=>exact z4_10);intro gb119 hg w24 hbox hb;have BK119:=Za (hbox);have GW119:=Za ((z4_11:w.heap.size≤gb119));have GE119:=Za ((z4_11:w.heap.size≤gb119));replace HB:=Za (Zi z4_1 hb);clear hb hbox hg))
     have n0_:=Za (blk_drew BK119.out)
     have n1_:=Za (Zd HB.out)
     clear BK119
     clear HB
     have BK119:=n0_
     have HB:=n1_
     clear n0_ n1_
     refine start_ (n:=4) (S:=fun w'=>w'.cell? ⟨gb119,0,none⟩=some (.int .i64 a0_0)∧w'.cell? ⟨gb119,1,none⟩=some (.int .i64 a0_1)∧w'.cell? ⟨gb119,2,none⟩=some (.int .i64 a0_2)∧w'.cell? ⟨gb119,3,none⟩=some (.int .i64 a0_3)∧w'.cell? ⟨gb119,4,none⟩=some (.int .i64 a0_4)∧w'.cell? ⟨gb119,5,none⟩=some (.int .i64 a0_5)) (ds:=[]) #[false,false,false,false] z4_7 rfl rfl ⟨(Zb BK119.out 0).trans rfl,(Zb BK119.out 1).trans rfl,(Zb BK119.out 2).trans rfl,(Zb BK119.out 3).trans rfl,(Zb BK119.out 4).trans rfl,(Zb BK119.out 5).trans rfl⟩ (fun hHeld=> ?_)
     generalize w24.drew=w25 at BK119 HB hHeld ⊢
     refine take_ (i:=0) (N:=some 3) (v:= ?_) (a':= ?_) #[true,false,false,false] rfl rfl z4_7 (fun _ _ _ h=>h) (Or.inl ⟨by rfl,?_⟩) hHeld ?_ ?_
     rotate_left
     ·rintro w' ⟨s0,s1,s2,s3,s4,s5⟩
      go_simp
      with_reducible rfl
     rotate_left
     ·simp only[Act.put,Zu,Zv,Zw,i64_w,i32_w]
      rfl
     refine take_ (i:=1) (N:=some 4) (v:= ?_) (a':= ?_) #[true,true,false,false] rfl rfl z4_7 (fun _ _ _ h=>h) (Or.inl ⟨by rfl,?_⟩) hHeld ?_ ?_
     rotate_left
     ·rintro w' ⟨s0,s1,s2,s3,s4,s5⟩
      go_simp
      with_reducible rfl
     rotate_left
     ·simp only[Act.put,Zu,Zv,Zw,i64_w,i32_w]
      rfl
     refine one_ (i:=2) (N:=some 5) #[true,true,true,false] rfl rfl z4_7 (by decide) (fun K hK=> ?_)
     refine goes_ Tryz.func107 z4_7 rfl #[.agg #[.int .i64 a0_0,.int .i64 a0_1,.int .i64 a0_2,.int .i64 a0_3,.int .i64 a0_4,.int .i64 a0_5]] (by rfl) rfl rfl z4_0 ?_
     with_reducible refine(spec_l04Plain.calls k a0_0 a0_1 a0_2 a0_3 a0_4 a0_5 t120 t121 t122 t123 t124 t125 _ A2.out).mono ?_
     rintro e w26 ⟨rfl,hb⟩
     refine⟨_,rfl,?_⟩
     have n0_:=Za (Zk (g:=gb119) (o:= .cells #[.int .i64 a0_0,.int .i64 a0_1,.int .i64 a0_2,.int .i64 a0_3,.int .i64 a0_4,.int .i64 a0_5] 77 (0,0)) z4_4 hb)
     have n1_:=Za (Zi z4_2 hb)
     clear BK119
     clear HB
     have BK119:=n0_
     have HB:=n1_
     clear n0_ n1_
     (try clear hb)
     (try clear hb2)
     (try clear hk)
     (try clear hi)
     refine hK.out _ _ ⟨(Zb BK119.out 0).trans rfl,(Zb BK119.out 1).trans rfl,(Zb BK119.out 2).trans rfl,(Zb BK119.out 3).trans rfl,(Zb BK119.out 4).trans rfl,(Zb BK119.out 5).trans rfl⟩ (fun hHeld=> ?_)
     clear hK K
     refine norm_ (a':= ?_) ?_ ?_
     rotate_left
     ·show Act.put _ (some 5) _=_
      simp only[Act.put,Zu,Zv,Zw,i64_w,i32_w]
      rfl
     refine pure_ (i:=3) (N:=some 6) (v:= ?_) (a':= ?_) #[true,true,true,true] rfl rfl z4_7 (fun _ _ _ h=>h) (Or.inl ⟨by rfl,?_⟩) ?_ ?_
     rotate_left
     ·intro w'
      go_simp
      with_reducible rfl
     rotate_left
     ·simp only[Act.put,Zu,Zv,Zw,i64_w,i32_w]
      rfl
     refine done_ z4_7 ?_
     have hcz27_0:w26.cell? ⟨gb119,0,none⟩=some (.int .i64 a0_0):=(Zb BK119.out 0).trans rfl
     have hcz27_1:w26.cell? ⟨gb119,1,none⟩=some (.int .i64 a0_1):=(Zb BK119.out 1).trans rfl
     have hcz27_2:w26.cell? ⟨gb119,2,none⟩=some (.int .i64 a0_2):=(Zb BK119.out 2).trans rfl
     have hcz27_3:w26.cell? ⟨gb119,3,none⟩=some (.int .i64 a0_3):=(Zb BK119.out 3).trans rfl
     have hcz27_4:w26.cell? ⟨gb119,4,none⟩=some (.int .i64 a0_4):=(Zb BK119.out 4).trans rfl
     have hcz27_5:w26.cell? ⟨gb119,5,none⟩=some (.int .i64 a0_5):=(Zb BK119.out 5).trans rfl
     have hfz27_0:=Zc BK119.out 0
     have hfz27_1:=Zc BK119.out 1
     have hfz27_2:=Zc BK119.out 2
     have hfz27_3:=Zc BK119.out 3
     have hfz27_4:=Zc BK119.out 4
     have hfz27_5:=Zc BK119.out 5
     try go_wp2_with (first|((first|((with_reducible refine gate_callee (f:=47) rfl ?_);refine goesL_ (some 23) rfl rfl Tryz.func47 z4_7 rfl #[.int .i64 a0_1,.int .i64 0,.int .i64 7] rfl z4_0 ?_;(with_reducible refine(spec_l01In.calls a0_1 0 7 true _ A21.out).mono ?_))|(go_at_call 47;(with_reducible refine(spec_l01In.calls a0_1 0 7 true _ A21.out).mono ?_)));rintro e w' ⟨rfl,⟨nd,rfl⟩⟩;(first|refine⟨_,rfl,?_⟩|skip))|(go_at_call 47;(with_reducible refine(spec_l01In.calls a0_2 0 3 t129 _ A23.out).mono ?_);rintro e w' ⟨rfl,⟨nd,rfl⟩⟩))
     go_ret
     exact⟨by first|rfl|(simp[errW_none,errW_some]<;>rfl)|(simp[*,errW_none,errW_some]<;>rfl)|(simp[*,errW_none,errW_some,i64_w];done),by repeat(first|(with_reducible first|exact HB.out|apply Zh|apply Ze|apply Zd|refine Zg ?_ GE119.out)|exact HB.out)⟩
    ·replace c22:=Bool.eq_false_iff.mpr c22
     subst c22
     rw[if_neg (show ¬(false=true) by decide)] at H
     obtain rfl:=Zm H
     go_enter Tryz.func81,Tryz.ntmps81
     try go_wp2_with (first|((with_reducible refine Zr (N:=1) rfl ?_);refine Zs ?hg (N:=1) ?hd (cs:= #[.int .i64 a0_0,.int .i64 a0_1,.int .i64 a0_2,.int .i64 a0_3,.int .i64 a0_4,.int .i64 a0_5]) (t:=77) ?hr ?_;(case hd=>rfl);(case hg=>rfl);(case hr=>exact z4_10);intro gb119 hg w28 hbox hb;have BK119:=Za (hbox);have GW119:=Za ((z4_11:w.heap.size≤gb119));have GE119:=Za ((z4_11:w.heap.size≤gb119));replace HB:=Za (Zi z4_1 hb);clear hb hbox hg))
     have n0_:=Za (blk_drew BK119.out)
     have n1_:=Za (Zd HB.out)
     clear BK119
     clear HB
     have BK119:=n0_
     have HB:=n1_
     clear n0_ n1_
     refine start_ (n:=4) (S:=fun w'=>w'.cell? ⟨gb119,0,none⟩=some (.int .i64 a0_0)∧w'.cell? ⟨gb119,1,none⟩=some (.int .i64 a0_1)∧w'.cell? ⟨gb119,2,none⟩=some (.int .i64 a0_2)∧w'.cell? ⟨gb119,3,none⟩=some (.int .i64 a0_3)∧w'.cell? ⟨gb119,4,none⟩=some (.int .i64 a0_4)∧w'.cell? ⟨gb119,5,none⟩=some (.int .i64 a0_5)) (ds:=[]) #[false,false,false,false] z4_7 rfl rfl ⟨(Zb BK119.out 0).trans rfl,(Zb BK119.out 1).trans rfl,(Zb BK119.out 2).trans rfl,(Zb BK119.out 3).trans rfl,(Zb BK119.out 4).trans rfl,(Zb BK119.out 5).trans rfl⟩ (fun hHeld=> ?_)
     generalize w28.drew=w29 at BK119 HB hHeld ⊢
     refine take_ (i:=0) (N:=some 3) (v:= ?_) (a':= ?_) #[true,false,false,false] rfl rfl z4_7 (fun _ _ _ h=>h) (Or.inl ⟨by rfl,?_⟩) hHeld ?_ ?_
     rotate_left
     ·rintro w' ⟨s0,s1,s2,s3,s4,s5⟩
      go_simp
      with_reducible rfl
     rotate_left
     ·simp only[Act.put,Zu,Zv,Zw,i64_w,i32_w]
      rfl
     refine take_ (i:=1) (N:=some 4) (v:= ?_) (a':= ?_) #[true,true,false,false] rfl rfl z4_7 (fun _ _ _ h=>h) (Or.inl ⟨by rfl,?_⟩) hHeld ?_ ?_
     rotate_left
     ·rintro w' ⟨s0,s1,s2,s3,s4,s5⟩
      go_simp
      with_reducible rfl
     rotate_left
     ·simp only[Act.put,Zu,Zv,Zw,i64_w,i32_w]
      rfl
     refine one_ (i:=2) (N:=some 5) #[true,true,true,false] rfl rfl z4_7 (by decide) (fun K hK=> ?_)
     refine goes_ Tryz.func107 z4_7 rfl #[.agg #[.int .i64 a0_0,.int .i64 a0_1,.int .i64 a0_2,.int .i64 a0_3,.int .i64 a0_4,.int .i64 a0_5]] (by rfl) rfl rfl z4_0 ?_
     with_reducible refine(spec_l04Plain.calls k a0_0 a0_1 a0_2 a0_3 a0_4 a0_5 t120 t121 t122 t123 t124 t125 _ A2.out).mono ?_
     rintro e w30 ⟨rfl,hb⟩
     refine⟨_,rfl,?_⟩
     have n0_:=Za (Zk (g:=gb119) (o:= .cells #[.int .i64 a0_0,.int .i64 a0_1,.int .i64 a0_2,.int .i64 a0_3,.int .i64 a0_4,.int .i64 a0_5] 77 (0,0)) z4_4 hb)
     have n1_:=Za (Zi z4_2 hb)
     clear BK119
     clear HB
     have BK119:=n0_
     have HB:=n1_
     clear n0_ n1_
     (try clear hb)
     (try clear hb2)
     (try clear hk)
     (try clear hi)
     refine hK.out _ _ ⟨(Zb BK119.out 0).trans rfl,(Zb BK119.out 1).trans rfl,(Zb BK119.out 2).trans rfl,(Zb BK119.out 3).trans rfl,(Zb BK119.out 4).trans rfl,(Zb BK119.out 5).trans rfl⟩ (fun hHeld=> ?_)
     clear hK K
     refine norm_ (a':= ?_) ?_ ?_
     rotate_left
     ·show Act.put _ (some 5) _=_
      simp only[Act.put,Zu,Zv,Zw,i64_w,i32_w]
      rfl
     refine pure_ (i:=3) (N:=some 6) (v:= ?_) (a':= ?_) #[true,true,true,true] rfl rfl z4_7 (fun _ _ _ h=>h) (Or.inl ⟨by rfl,?_⟩) ?_ ?_
     rotate_left
     ·intro w'
      go_simp
      with_reducible rfl
     rotate_left
     ·simp only[Act.put,Zu,Zv,Zw,i64_w,i32_w]
      rfl
     refine done_ z4_7 ?_
     have hcz31_0:w30.cell? ⟨gb119,0,none⟩=some (.int .i64 a0_0):=(Zb BK119.out 0).trans rfl
     have hcz31_1:w30.cell? ⟨gb119,1,none⟩=some (.int .i64 a0_1):=(Zb BK119.out 1).trans rfl
     have hcz31_2:w30.cell? ⟨gb119,2,none⟩=some (.int .i64 a0_2):=(Zb BK119.out 2).trans rfl
     have hcz31_3:w30.cell? ⟨gb119,3,none⟩=some (.int .i64 a0_3):=(Zb BK119.out 3).trans rfl
     have hcz31_4:w30.cell? ⟨gb119,4,none⟩=some (.int .i64 a0_4):=(Zb BK119.out 4).trans rfl
     have hcz31_5:w30.cell? ⟨gb119,5,none⟩=some (.int .i64 a0_5):=(Zb BK119.out 5).trans rfl
     have hfz31_0:=Zc BK119.out 0
     have hfz31_1:=Zc BK119.out 1
     have hfz31_2:=Zc BK119.out 2
     have hfz31_3:=Zc BK119.out 3
     have hfz31_4:=Zc BK119.out 4
     have hfz31_5:=Zc BK119.out 5
     try go_wp2_with (first|((first|((with_reducible refine gate_callee (f:=47) rfl ?_);refine goesL_ (some 23) rfl rfl Tryz.func47 z4_7 rfl #[.int .i64 a0_1,.int .i64 0,.int .i64 7] rfl z4_0 ?_;(with_reducible refine(spec_l01In.calls a0_1 0 7 false _ A21.out).mono ?_))|(go_at_call 47;(with_reducible refine(spec_l01In.calls a0_1 0 7 false _ A21.out).mono ?_)));rintro e w' ⟨rfl,⟨nd,rfl⟩⟩;(first|refine⟨_,rfl,?_⟩|skip)))
     go_ret
     exact⟨by first|rfl|(simp[errW_none,errW_some]<;>rfl)|(simp[*,errW_none,errW_some]<;>rfl)|(simp[*,errW_none,errW_some,i64_w];done),by repeat(first|(with_reducible first|exact HB.out|apply Zh|apply Ze|apply Zd|refine Zg ?_ GE119.out)|exact HB.out)⟩
   ·rw[if_neg c20] at H
    have c20b0:(a0_0==2)=false:=beq_eq_false_iff_ne.mpr c20
    have c20b1:(a0_0 != 2)=true:=bne_iff_ne.mpr c20
    have HC32:=Za H
    clear H
    go_enter Tryz.func81,Tryz.ntmps81
    try go_wp2_with (first|((with_reducible refine Zr (N:=1) rfl ?_);refine Zs ?hg (N:=1) ?hd (cs:= #[.int .i64 a0_0,.int .i64 a0_1,.int .i64 a0_2,.int .i64 a0_3,.int .i64 a0_4,.int .i64 a0_5]) (t:=77) ?hr ?_;(case hd=>rfl);(case hg=>rfl);(case hr=>exact z4_10);intro gb119 hg w33 hbox hb;have BK119:=Za (hbox);have GW119:=Za ((z4_11:w.heap.size≤gb119));have GE119:=Za ((z4_11:w.heap.size≤gb119));replace HB:=Za (Zi z4_1 hb);clear hb hbox hg))
    have n0_:=Za (blk_drew BK119.out)
    have n1_:=Za (Zd HB.out)
    clear BK119
    clear HB
    have BK119:=n0_
    have HB:=n1_
    clear n0_ n1_
    refine start_ (n:=4) (S:=fun w'=>w'.cell? ⟨gb119,0,none⟩=some (.int .i64 a0_0)∧w'.cell? ⟨gb119,1,none⟩=some (.int .i64 a0_1)∧w'.cell? ⟨gb119,2,none⟩=some (.int .i64 a0_2)∧w'.cell? ⟨gb119,3,none⟩=some (.int .i64 a0_3)∧w'.cell? ⟨gb119,4,none⟩=some (.int .i64 a0_4)∧w'.cell? ⟨gb119,5,none⟩=some (.int .i64 a0_5)) (ds:=[]) #[false,false,false,false] z4_7 rfl rfl ⟨(Zb BK119.out 0).trans rfl,(Zb BK119.out 1).trans rfl,(Zb BK119.out 2).trans rfl,(Zb BK119.out 3).trans rfl,(Zb BK119.out 4).trans rfl,(Zb BK119.out 5).trans rfl⟩ (fun hHeld=> ?_)
    generalize w33.drew=w34 at BK119 HB hHeld ⊢
    refine take_ (i:=0) (N:=some 3) (v:= ?_) (a':= ?_) #[true,false,false,false] rfl rfl z4_7 (fun _ _ _ h=>h) (Or.inl ⟨by rfl,?_⟩) hHeld ?_ ?_
    rotate_left
    ·rintro w' ⟨s0,s1,s2,s3,s4,s5⟩
     go_simp
     with_reducible rfl
    rotate_left
    ·simp only[Act.put,Zu,Zv,Zw,i64_w,i32_w]
     rfl
    refine take_ (i:=1) (N:=some 4) (v:= ?_) (a':= ?_) #[true,true,false,false] rfl rfl z4_7 (fun _ _ _ h=>h) (Or.inl ⟨by rfl,?_⟩) hHeld ?_ ?_
    rotate_left
    ·rintro w' ⟨s0,s1,s2,s3,s4,s5⟩
     go_simp
     with_reducible rfl
    rotate_left
    ·simp only[Act.put,Zu,Zv,Zw,i64_w,i32_w]
     rfl
    refine one_ (i:=2) (N:=some 5) #[true,true,true,false] rfl rfl z4_7 (by decide) (fun K hK=> ?_)
    refine goes_ Tryz.func107 z4_7 rfl #[.agg #[.int .i64 a0_0,.int .i64 a0_1,.int .i64 a0_2,.int .i64 a0_3,.int .i64 a0_4,.int .i64 a0_5]] (by rfl) rfl rfl z4_0 ?_
    with_reducible refine(spec_l04Plain.calls k a0_0 a0_1 a0_2 a0_3 a0_4 a0_5 t120 t121 t122 t123 t124 t125 _ A2.out).mono ?_
    rintro e w35 ⟨rfl,hb⟩
    refine⟨_,rfl,?_⟩
    have n0_:=Za (Zk (g:=gb119) (o:= .cells #[.int .i64 a0_0,.int .i64 a0_1,.int .i64 a0_2,.int .i64 a0_3,.int .i64 a0_4,.int .i64 a0_5] 77 (0,0)) z4_4 hb)
    have n1_:=Za (Zi z4_2 hb)
    clear BK119
    clear HB
    have BK119:=n0_
    have HB:=n1_
    clear n0_ n1_
    (try clear hb)
    (try clear hb2)
    (try clear hk)
    (try clear hi)
    refine hK.out _ _ ⟨(Zb BK119.out 0).trans rfl,(Zb BK119.out 1).trans rfl,(Zb BK119.out 2).trans rfl,(Zb BK119.out 3).trans rfl,(Zb BK119.out 4).trans rfl,(Zb BK119.out 5).trans rfl⟩ (fun hHeld=> ?_)
    clear hK K
    refine norm_ (a':= ?_) ?_ ?_
    rotate_left
    ·show Act.put _ (some 5) _=_
     simp only[Act.put,Zu,Zv,Zw,i64_w,i32_w]
     rfl
    refine pure_ (i:=3) (N:=some 6) (v:= ?_) (a':= ?_) #[true,true,true,true] rfl rfl z4_7 (fun _ _ _ h=>h) (Or.inl ⟨by rfl,?_⟩) ?_ ?_
    rotate_left
    ·intro w'
     go_simp
     with_reducible rfl
    rotate_left
    ·simp only[Act.put,Zu,Zv,Zw,i64_w,i32_w]
     rfl
    refine done_ z4_7 ?_
    have hcz36_0:w35.cell? ⟨gb119,0,none⟩=some (.int .i64 a0_0):=(Zb BK119.out 0).trans rfl
    have hcz36_1:w35.cell? ⟨gb119,1,none⟩=some (.int .i64 a0_1):=(Zb BK119.out 1).trans rfl
    have hcz36_2:w35.cell? ⟨gb119,2,none⟩=some (.int .i64 a0_2):=(Zb BK119.out 2).trans rfl
    have hcz36_3:w35.cell? ⟨gb119,3,none⟩=some (.int .i64 a0_3):=(Zb BK119.out 3).trans rfl
    have hcz36_4:w35.cell? ⟨gb119,4,none⟩=some (.int .i64 a0_4):=(Zb BK119.out 4).trans rfl
    have hcz36_5:w35.cell? ⟨gb119,5,none⟩=some (.int .i64 a0_5):=(Zb BK119.out 5).trans rfl
    have hfz36_0:=Zc BK119.out 0
    have hfz36_1:=Zc BK119.out 1
    have hfz36_2:=Zc BK119.out 2
    have hfz36_3:=Zc BK119.out 3
    have hfz36_4:=Zc BK119.out 4
    have hfz36_5:=Zc BK119.out 5
    go_upto_if 29 with(fail)
    go_cut [29] (fun v29 wc=>∃(kq:Nat) (x29_31:Bool),v29= .bool x29_31∧Aside0 (spec_StmtOk.j0 kq a0_0 x29_31 a0_0 a0_1 a0_2 a0_3 a0_4 a0_5=some r)∧Aside0 (kq≤k)∧Aside0 (wc.heap[gb119]? =some (.cells #[.int .i64 a0_0,.int .i64 a0_1,.int .i64 a0_2,.int .i64 a0_3,.int .i64 a0_4,.int .i64 a0_5] 77 (0,0)))∧Aside0 (Below w.heap.size w wc))
    case first=>
     have H:=HC32.out
     clear HC32
     by_cases c37:a0_0=3
     ·rw[if_pos c37] at H
      have c37b0:(a0_0==3)=true:=beq_iff_eq.mpr c37
      have c37b1:(a0_0 != 3)=false:=bne_eq_false_iff_eq.mpr c37
      clear c37
      (first|rw[c37b0]|(simp only[i64_w,i32_w];rw[c37b0])|skip)
      have H':=Za H
      clear H
      go_wp2
      go_meet
      case rel=>exact⟨_,((a0_0==3)),z4_6,H',⟨by first|omega|exact Nat.le_refl _⟩,⟨by(with_reducible repeat(first|refine blk_drewN ?_ _|refine blk_drew ?_|refine blk_alloc ?_ _));exact BK119.out⟩,⟨by repeat(first|(with_reducible first|exact HB.out|apply Zh|apply Ze|apply Zd|refine Zg ?_ GE119.out)|exact HB.out)⟩⟩
     ·rw[if_neg c37] at H
      have c37b0:(a0_0==3)=false:=beq_eq_false_iff_ne.mpr c37
      have c37b1:(a0_0 != 3)=true:=bne_iff_ne.mpr c37
      (first|rw[c37b0]|(simp only[i64_w,i32_w];rw[c37b0])|skip)
      have H':=Za H
      clear H
      go_wp2
      go_meet
      case rel=>exact⟨_,((a0_0==4)),z4_6,H',⟨by first|omega|exact Nat.le_refl _⟩,⟨by(with_reducible repeat(first|refine blk_drewN ?_ _|refine blk_drew ?_|refine blk_alloc ?_ _));exact BK119.out⟩,⟨by repeat(first|(with_reducible first|exact HB.out|apply Zh|apply Ze|apply Zd|refine Zg ?_ GE119.out)|exact HB.out)⟩⟩
    case rest=>
     clear HC32
     (try clear c3);(try clear c3b0);(try clear c7);(try clear c7b0);(try clear c7b1);(try clear c20);(try clear c20b0);(try clear c20b1);(try clear hcz36_0);(try clear hcz36_1);(try clear hcz36_2);(try clear hcz36_3);(try clear hcz36_4);(try clear hcz36_5);(try clear hfz36_0);(try clear hfz36_1);(try clear hfz36_2);(try clear hfz36_3);(try clear hfz36_4);(try clear hfz36_5)
     obtain⟨kq,x29_31,rfl,HA,HJ31,BK119,HB⟩:=hcut
     cases kq with
     |zero=>exact absurd HA.out (by simp[spec_StmtOk.j0])
     |succ kj31=>
      have H:=HA.out
      clear HA
      simp only[spec_StmtOk.j0] at H
      by_cases c38:x29_31=true
      ·subst c38
       rw[if_pos rfl] at H
       replace H:=Zl H
       obtain⟨t130,A390,H⟩:=H
       replace H:(some t130)=some r:=H
       have A39:=Za A390
       clear A390
       obtain rfl:=Zm H
       have hcz40_0:wc.cell? ⟨gb119,0,none⟩=some (.int .i64 a0_0):=(Zb BK119.out 0).trans rfl
       have hcz40_1:wc.cell? ⟨gb119,1,none⟩=some (.int .i64 a0_1):=(Zb BK119.out 1).trans rfl
       have hcz40_2:wc.cell? ⟨gb119,2,none⟩=some (.int .i64 a0_2):=(Zb BK119.out 2).trans rfl
       have hcz40_3:wc.cell? ⟨gb119,3,none⟩=some (.int .i64 a0_3):=(Zb BK119.out 3).trans rfl
       have hcz40_4:wc.cell? ⟨gb119,4,none⟩=some (.int .i64 a0_4):=(Zb BK119.out 4).trans rfl
       have hcz40_5:wc.cell? ⟨gb119,5,none⟩=some (.int .i64 a0_5):=(Zb BK119.out 5).trans rfl
       have hfz40_0:=Zc BK119.out 0
       have hfz40_1:=Zc BK119.out 1
       have hfz40_2:=Zc BK119.out 2
       have hfz40_3:=Zc BK119.out 3
       have hfz40_4:=Zc BK119.out 4
       have hfz40_5:=Zc BK119.out 5
       go_wp2_with (first|((first|((with_reducible refine gate_callee (f:=80) rfl ?_);refine goesL_ (some 34) rfl rfl Tryz.func80 z4_7 rfl #[.agg #[.int .i64 a0_3,.int .i64 a0_4,.int .i64 a0_5]] rfl z4_0 ?_;(with_reducible refine(spec_ExprOk.calls a0_3 a0_4 a0_5 t130 _ A39.out).mono ?_))|(go_at_call 80;(with_reducible refine(spec_ExprOk.calls a0_3 a0_4 a0_5 t130 _ A39.out).mono ?_)));rintro e w41 ⟨rfl,hb⟩;(first|refine⟨_,rfl,?_⟩|skip);replace BK119:=Za (Zk (g:=gb119) (o:= .cells #[.int .i64 a0_0,.int .i64 a0_1,.int .i64 a0_2,.int .i64 a0_3,.int .i64 a0_4,.int .i64 a0_5] 77 (0,0)) z4_4 hb);replace HB:=Za (Zi z4_2 hb);(try clear hb);(try clear hb2);(try clear hk);(try clear hi)))
       go_ret
       exact⟨by first|rfl|(simp[errW_none,errW_some]<;>rfl)|(simp[*,errW_none,errW_some]<;>rfl)|(simp[*,errW_none,errW_some,i64_w];done),by repeat(first|(with_reducible first|exact HB.out|apply Zh|apply Ze|apply Zd|refine Zg ?_ GE119.out)|exact HB.out)⟩
      ·replace c38:=Bool.eq_false_iff.mpr c38
       subst c38
       rw[if_neg (show ¬(false=true) by decide)] at H
       by_cases c42:a0_0=5
       ·rw[if_pos c42] at H
        have c42b0:(a0_0==5)=true:=beq_iff_eq.mpr c42
        have c42b1:(a0_0 != 5)=false:=bne_eq_false_iff_eq.mpr c42
        clear c42
        replace H:=Zl H
        obtain⟨t131,A430,H⟩:=H
        replace H:(some t131)=some r:=H
        have A43:=Za A430
        clear A430
        obtain rfl:=Zm H
        have hcz44_0:wc.cell? ⟨gb119,0,none⟩=some (.int .i64 a0_0):=(Zb BK119.out 0).trans rfl
        have hcz44_1:wc.cell? ⟨gb119,1,none⟩=some (.int .i64 a0_1):=(Zb BK119.out 1).trans rfl
        have hcz44_2:wc.cell? ⟨gb119,2,none⟩=some (.int .i64 a0_2):=(Zb BK119.out 2).trans rfl
        have hcz44_3:wc.cell? ⟨gb119,3,none⟩=some (.int .i64 a0_3):=(Zb BK119.out 3).trans rfl
        have hcz44_4:wc.cell? ⟨gb119,4,none⟩=some (.int .i64 a0_4):=(Zb BK119.out 4).trans rfl
        have hcz44_5:wc.cell? ⟨gb119,5,none⟩=some (.int .i64 a0_5):=(Zb BK119.out 5).trans rfl
        have hfz44_0:=Zc BK119.out 0
        have hfz44_1:=Zc BK119.out 1
        have hfz44_2:=Zc BK119.out 2
        have hfz44_3:=Zc BK119.out 3
        have hfz44_4:=Zc BK119.out 4
        have hfz44_5:=Zc BK119.out 5
        go_wp2_with (first|((first|((with_reducible refine gate_callee (f:=47) rfl ?_);refine goesL_ (some 39) rfl rfl Tryz.func47 z4_7 rfl #[.int .i64 a0_2,.int .i64 1,.int .i64 5] rfl z4_0 ?_;(with_reducible refine(spec_l01In.calls a0_2 1 5 t131 _ A43.out).mono ?_))|(go_at_call 47;(with_reducible refine(spec_l01In.calls a0_2 1 5 t131 _ A43.out).mono ?_)));rintro e w' ⟨rfl,⟨nd,rfl⟩⟩;(first|refine⟨_,rfl,?_⟩|skip)))
        go_ret
        exact⟨by first|rfl|(simp[errW_none,errW_some]<;>rfl)|(simp[*,errW_none,errW_some]<;>rfl)|(simp[*,errW_none,errW_some,i64_w];done),by repeat(first|(with_reducible first|exact HB.out|apply Zh|apply Ze|apply Zd|refine Zg ?_ GE119.out)|exact HB.out)⟩
       ·rw[if_neg c42] at H
        have c42b0:(a0_0==5)=false:=beq_eq_false_iff_ne.mpr c42
        have c42b1:(a0_0 != 5)=true:=bne_iff_ne.mpr c42
        obtain rfl:=Zm H
        have hcz45_0:wc.cell? ⟨gb119,0,none⟩=some (.int .i64 a0_0):=(Zb BK119.out 0).trans rfl
        have hcz45_1:wc.cell? ⟨gb119,1,none⟩=some (.int .i64 a0_1):=(Zb BK119.out 1).trans rfl
        have hcz45_2:wc.cell? ⟨gb119,2,none⟩=some (.int .i64 a0_2):=(Zb BK119.out 2).trans rfl
        have hcz45_3:wc.cell? ⟨gb119,3,none⟩=some (.int .i64 a0_3):=(Zb BK119.out 3).trans rfl
        have hcz45_4:wc.cell? ⟨gb119,4,none⟩=some (.int .i64 a0_4):=(Zb BK119.out 4).trans rfl
        have hcz45_5:wc.cell? ⟨gb119,5,none⟩=some (.int .i64 a0_5):=(Zb BK119.out 5).trans rfl
        have hfz45_0:=Zc BK119.out 0
        have hfz45_1:=Zc BK119.out 1
        have hfz45_2:=Zc BK119.out 2
        have hfz45_3:=Zc BK119.out 3
        have hfz45_4:=Zc BK119.out 4
        have hfz45_5:=Zc BK119.out 5
        go_wp2
        go_ret
        exact⟨by first|rfl|(simp[errW_none,errW_some]<;>rfl)|(simp[*,errW_none,errW_some]<;>rfl)|(simp[*,errW_none,errW_some,i64_w];done),by repeat(first|(with_reducible first|exact HB.out|apply Zh|apply Ze|apply Zd|refine Zg ?_ GE119.out)|exact HB.out)⟩
/-! ### spec_BlockOk: function 50 -/
mutual
def spec_BlockOk.l0:Nat→List (S77)→Int→Int→Option (Bool)
 |0,_,_,_=>none
 |k+1,x0,x3,x4=>if x4<(x0.length:Int) then (if 0≤x4 then ((spec_StmtOk.f k ((rd_T77 x0 x4).f0) ((rd_T77 x0 x4).f1) ((rd_T77 x0 x4).f2) ((rd_T77 x0 x4).f3.f0) ((rd_T77 x0 x4).f3.f1) ((rd_T77 x0 x4).f3.f2)).bind fun t133=>(if t133=true then (if ((rd_T77 x0 x4).f0)=4 then (spec_BlockOk.j1 k x0 x3 x4 ((rd_T77 x0 x4).f0) (((rd_T77 x0 x4).f0)==4)) else (spec_BlockOk.j1 k x0 x3 x4 ((rd_T77 x0 x4).f0) (((rd_T77 x0 x4).f0)==5))) else (some false))) else (none)) else (if x3=0 then (some (decide ((x0.length:Int)≤24))) else (some false))
def spec_BlockOk.j1:Nat→List (S77)→Int→Int→Int→Bool→Option (Bool)
 |0,_,_,_,_,_=>none
 |k+1,x0,x3,x4,x21,x22=>if x22=true then ((spec_l01In.f (wrap64 (x3+1)) 0 3).bind fun t135=>(if t135=true then (spec_BlockOk.l0 k x0 (wrap64 (x3+1)) (wrap64 (x4+1))) else (some false))) else (if x21=6 then ((spec_l01In.f (wrap64 (x3 - 1)) 0 3).bind fun t136=>(if t136=true then (spec_BlockOk.l0 k x0 (wrap64 (x3 - 1)) (wrap64 (x4+1))) else (some false))) else ((spec_l01In.f x3 0 3).bind fun t137=>(if t137=true then (spec_BlockOk.l0 k x0 x3 (wrap64 (x4+1))) else (some false))))
end
def spec_BlockOk.f (k:Nat) (l0:List (S77)):Option (Bool):=spec_BlockOk.l0 k l0 0 0
theorem spec_BlockOk.mono_l:∀k,(∀y0 y1 y2,LeO (spec_BlockOk.l0 k y0 y1 y2) (spec_BlockOk.l0 (k+1) y0 y1 y2))∧(∀y0 y1 y2 y3 y4,LeO (spec_BlockOk.j1 k y0 y1 y2 y3 y4) (spec_BlockOk.j1 (k+1) y0 y1 y2 y3 y4))
 |0=>⟨fun _ _ _ r h=>by simp[spec_BlockOk.l0] at h,fun _ _ _ _ _ r h=>by simp[spec_BlockOk.j1] at h⟩
 |k+1=>by
  obtain⟨ih0,ih1⟩:=spec_BlockOk.mono_l k
  refine⟨?_,?_⟩
  ·intro y0 y1 y2
   unfold spec_BlockOk.l0
   repeat' first
   |(with_reducible exact ih0 _ _ _)
   |(with_reducible exact ih1 _ _ _ _ _)
   |(with_reducible exact spec_StmtOk.mono _ _ _ _ _ _ _)
   |(with_reducible exact Yn _)
   |(with_reducible exact Yb _)
   |(with_reducible refine Zx ?_ ?_)
   |(with_reducible refine Zy ?_ (fun _=> ?_))
   |exact ih0 _ _ _
   |exact ih1 _ _ _ _ _
   |exact spec_StmtOk.mono _ _ _ _ _ _ _
   |exact Yb _
   |refine Zx ?_ ?_
   |refine Zy ?_ (fun _=> ?_)
  ·intro y0 y1 y2 y3 y4
   unfold spec_BlockOk.j1
   repeat' first
   |(with_reducible exact ih0 _ _ _)
   |(with_reducible exact ih1 _ _ _ _ _)
   |(with_reducible exact spec_StmtOk.mono _ _ _ _ _ _ _)
   |(with_reducible exact Yn _)
   |(with_reducible exact Yb _)
   |(with_reducible refine Zx ?_ ?_)
   |(with_reducible refine Zy ?_ (fun _=> ?_))
   |exact ih0 _ _ _
   |exact ih1 _ _ _ _ _
   |exact spec_StmtOk.mono _ _ _ _ _ _ _
   |exact Yb _
   |refine Zx ?_ ?_
   |refine Zy ?_ (fun _=> ?_)
theorem spec_BlockOk.mono:∀a0 k,LeO (spec_BlockOk.f k a0) (spec_BlockOk.f (k+1) a0):=by
 intro a0 k
 obtain⟨ih0,ih1⟩:=spec_BlockOk.mono_l k
 unfold spec_BlockOk.f
 repeat' first
   |(with_reducible exact ih0 _ _ _)
   |(with_reducible exact ih1 _ _ _ _ _)
   |(with_reducible exact spec_StmtOk.mono _ _ _ _ _ _ _)
   |(with_reducible exact Yn _)
   |(with_reducible exact Yb _)
   |(with_reducible refine Zx ?_ ?_)
   |(with_reducible refine Zy ?_ (fun _=> ?_))
   |exact ih0 _ _ _
   |exact ih1 _ _ _ _ _
   |exact spec_StmtOk.mono _ _ _ _ _ _ _
   |exact Yb _
   |refine Zx ?_ ?_
   |refine Zy ?_ (fun _=> ?_)
set_option maxHeartbeats 8000000 in
set_option maxRecDepth 100000 in
theorem spec_BlockOk.calls (k:Nat) (A0:Option Addr) (c0:Nat) (l0:List (S77)) (r:Bool) (w:World) (hr0:Kd.C k77 w A0 l0.length l0) (hc0:l0.length≤c0) (h:spec_BlockOk.f k l0=some r):
  Calls Tryz.prog 50 #[.slice A0 l0.length c0] w fun e w'=>e= .returned (.bool r)∧Below w.heap.size w w':=by
 have hu77:=Tryz.underlying77
 have HR0:=Za hr0
 have HC0:=Za hc0
 clear hr0 hc0
 have HB:=Za (Yc w.heap.size w)
 have H:(spec_BlockOk.l0 k l0 0 0)=some r:=h
 clear h
 have H':=Za H
 clear H
 go_enter Tryz.func50,Tryz.ntmps50
 go_wp2
 go_loopg [3,4] k (fun kq v3 v4 w'=>∃(x3_1:Int) (x4_1:Int),v3= .int .i64 x3_1∧v4= .int .i64 x4_1∧Aside0 (spec_BlockOk.l0 kq l0 x3_1 x4_1=some r)∧Aside0 (kq≤k)∧Aside0 (Below w.heap.size w w'))
 case atStart=>exact⟨(0),(0),z4_6,z4_6,H',⟨Nat.le_refl _⟩,⟨by repeat(first|(with_reducible first|exact HB.out|apply Zh|apply Ze|apply Zd)|exact HB.out)⟩⟩
 case round=>
  clear H'
  obtain⟨x3_1,x4_1,rfl,rfl,HA,HK1,HB⟩:=hrel
  cases gk with
  |zero=>exact absurd HA.out (by simp[spec_BlockOk.l0])
  |succ k1=>
   have H:=HA.out
   clear HA
   simp only[spec_BlockOk.l0] at H
   by_cases c2:x4_1<(l0.length:Int)
   ·rw[if_pos c2] at H
    have c2b0:decide (x4_1<(l0.length:Int))=true:=Zq c2
    clear c2
    by_cases c3:0≤x4_1
    ·rw[if_pos c3] at H
     have c3b0:decide (0≤x4_1)=true:=Zq c3
     clear c3
     replace H:=Zl H
     obtain⟨t133,A40,H⟩:=H
     replace H:(if t133=true then (if ((rd_T77 l0 x4_1).f0)=4 then (spec_BlockOk.j1 k1 l0 x3_1 x4_1 ((rd_T77 l0 x4_1).f0) (((rd_T77 l0 x4_1).f0)==4)) else (spec_BlockOk.j1 k1 l0 x3_1 x4_1 ((rd_T77 l0 x4_1).f0) (((rd_T77 l0 x4_1).f0)==5))) else (some false))=some r:=H
     have A4:=Za A40
     clear A40
     by_cases c5:t133=true
     ·subst c5
      rw[if_pos rfl] at H
      have HC6:=Za H
      clear H
      have p132:0≤(x4_1:Int):=Zj z4_3
      have q132:x4_1<(l0.length:Int):=Zj z4_3
      obtain⟨ad132,e132,hx132_0,hx132_1,hx132_2,hx132_3,hx132_4,hx132_5⟩:=at_T77 HR0.out x4_1 p132 q132
      cases e132
      replace hx132_0:=(HB.out.cell (Zf w _ hx132_0)).trans hx132_0
      replace hx132_1:=(HB.out.cell (Zf w _ hx132_1)).trans hx132_1
      replace hx132_2:=(HB.out.cell (Zf w _ hx132_2)).trans hx132_2
      replace hx132_3:=(HB.out.cell (Zf w _ hx132_3)).trans hx132_3
      replace hx132_4:=(HB.out.cell (Zf w _ hx132_4)).trans hx132_4
      replace hx132_5:=(HB.out.cell (Zf w _ hx132_5)).trans hx132_5
      replace p132:=eq_true p132
      replace q132:=eq_true q132
      go_upto_if 22 with(first|((first|((with_reducible refine gate_callee (f:=81) rfl ?_);refine goesL_ (some 15) rfl rfl Tryz.func81 z4_7 rfl #[.agg #[.int .i64 ((rd_T77 l0 x4_1).f0),.int .i64 ((rd_T77 l0 x4_1).f1),.int .i64 ((rd_T77 l0 x4_1).f2),.int .i64 ((rd_T77 l0 x4_1).f3.f0),.int .i64 ((rd_T77 l0 x4_1).f3.f1),.int .i64 ((rd_T77 l0 x4_1).f3.f2)]] rfl z4_0 ?_;(with_reducible refine(spec_StmtOk.calls k1 ((rd_T77 l0 x4_1).f0) ((rd_T77 l0 x4_1).f1) ((rd_T77 l0 x4_1).f2) ((rd_T77 l0 x4_1).f3.f0) ((rd_T77 l0 x4_1).f3.f1) ((rd_T77 l0 x4_1).f3.f2) true _ A4.out).mono ?_))|(go_at_call 81;(with_reducible refine(spec_StmtOk.calls k1 ((rd_T77 l0 x4_1).f0) ((rd_T77 l0 x4_1).f1) ((rd_T77 l0 x4_1).f2) ((rd_T77 l0 x4_1).f3.f0) ((rd_T77 l0 x4_1).f3.f1) ((rd_T77 l0 x4_1).f3.f2) true _ A4.out).mono ?_)));rintro e w7 ⟨rfl,hb⟩;(first|refine⟨_,rfl,?_⟩|skip);replace HB:=Za (Zi z4_1 hb);(try clear hb);(try clear hb2);(try clear hk);(try clear hi);have p134:0≤(x4_1:Int):=Zj z4_3;have q134:x4_1<(l0.length:Int):=Zj z4_3;obtain⟨ad134,e134,hx134_0,hx134_1,hx134_2,hx134_3,hx134_4,hx134_5⟩:=at_T77 HR0.out x4_1 p134 q134;obtain rfl:ad132=ad134:=(by injection e134);replace hx134_0:=(HB.out.cell (Zf w _ hx134_0)).trans hx134_0;replace hx134_1:=(HB.out.cell (Zf w _ hx134_1)).trans hx134_1;replace hx134_2:=(HB.out.cell (Zf w _ hx134_2)).trans hx134_2;replace hx134_3:=(HB.out.cell (Zf w _ hx134_3)).trans hx134_3;replace hx134_4:=(HB.out.cell (Zf w _ hx134_4)).trans hx134_4;replace hx134_5:=(HB.out.cell (Zf w _ hx134_5)).trans hx134_5;replace p134:=eq_true p134;replace q134:=eq_true q134))
      (try simp only[Act.put,Zu,Zv,Zw])
      go_cut [22] (fun v22 wc=>∃(kq:Nat) (x22_5:Bool),v22= .bool x22_5∧Aside0 (spec_BlockOk.j1 kq l0 x3_1 x4_1 ((rd_T77 l0 x4_1).f0) x22_5=some r)∧Aside0 (kq≤k1)∧Aside0 (Below w.heap.size w wc))
      case first=>
       have H:=HC6.out
       clear HC6
       by_cases c8:((rd_T77 l0 x4_1).f0)=4
       ·rw[if_pos c8] at H
        have c8b0:(((rd_T77 l0 x4_1).f0)==4)=true:=beq_iff_eq.mpr c8
        have c8b1:(((rd_T77 l0 x4_1).f0) != 4)=false:=bne_eq_false_iff_eq.mpr c8
        clear c8
        (first|rw[c8b0]|(simp only[i64_w,i32_w];rw[c8b0])|skip)
        have H':=Za H
        clear H
        go_wp2
        go_meet
        case rel=>exact⟨_,((((rd_T77 l0 x4_1).f0)==4)),z4_6,H',⟨by have:=HK1.out;first|omega|exact Nat.le_refl _⟩,⟨by repeat(first|(with_reducible first|exact HB.out|apply Zh|apply Ze|apply Zd)|exact HB.out)⟩⟩
       ·rw[if_neg c8] at H
        have c8b0:(((rd_T77 l0 x4_1).f0)==4)=false:=beq_eq_false_iff_ne.mpr c8
        have c8b1:(((rd_T77 l0 x4_1).f0) != 4)=true:=bne_iff_ne.mpr c8
        (first|rw[c8b0]|(simp only[i64_w,i32_w];rw[c8b0])|skip)
        have H':=Za H
        clear H
        go_wp2
        go_meet
        case rel=>exact⟨_,((((rd_T77 l0 x4_1).f0)==5)),z4_6,H',⟨by have:=HK1.out;first|omega|exact Nat.le_refl _⟩,⟨by repeat(first|(with_reducible first|exact HB.out|apply Zh|apply Ze|apply Zd)|exact HB.out)⟩⟩
      case rest=>
       clear HC6
       (try clear c2);(try clear c2b0);(try clear c3);(try clear c3b0);(try clear c5);(try clear hx132_0);(try clear hx132_1);(try clear hx132_2);(try clear hx132_3);(try clear hx132_4);(try clear hx132_5);(try clear hx134_0);(try clear hx134_1);(try clear hx134_2);(try clear hx134_3);(try clear hx134_4);(try clear hx134_5);(try clear p132);(try clear p134);(try clear q132);(try clear q134)
       obtain⟨kq,x22_5,rfl,HA,HJ5,HB⟩:=hcut
       cases kq with
       |zero=>exact absurd HA.out (by simp[spec_BlockOk.j1])
       |succ kj5=>
        have H:=HA.out
        clear HA
        simp only[spec_BlockOk.j1] at H
        by_cases c9:x22_5=true
        ·subst c9
         rw[if_pos rfl] at H
         replace H:=Zl H
         obtain⟨t135,A100,H⟩:=H
         replace H:(if t135=true then (spec_BlockOk.l0 kj5 l0 (wrap64 (x3_1+1)) (wrap64 (x4_1+1))) else (some false))=some r:=H
         have A10:=Za A100
         clear A100
         by_cases c11:t135=true
         ·subst c11
          rw[if_pos rfl] at H
          have H':=Za H
          clear H
          go_wp2_with (first|((first|((with_reducible refine gate_callee (f:=47) rfl ?_);refine goesL_ (some 32) rfl rfl Tryz.func47 z4_7 rfl #[.int .i64 (wrap64 (x3_1+1)),.int .i64 0,.int .i64 3] rfl z4_0 ?_;(with_reducible refine(spec_l01In.calls (wrap64 (x3_1+1)) 0 3 true _ A10.out).mono ?_))|(go_at_call 47;(with_reducible refine(spec_l01In.calls (wrap64 (x3_1+1)) 0 3 true _ A10.out).mono ?_)));rintro e w' ⟨rfl,⟨nd,rfl⟩⟩;(first|refine⟨_,rfl,?_⟩|skip)))
          go_roundg kj5
          case measure=>have:=HK1.out;have:=HJ5.out;omega
          case rel=>exact⟨(wrap64 (x3_1+1)),(wrap64 (x4_1+1)),z4_6,z4_6,H',⟨by have:=HK1.out;have:=HJ5.out;omega⟩,⟨by repeat(first|(with_reducible first|exact HB.out|apply Zh|apply Ze|apply Zd)|exact HB.out)⟩⟩
         ·replace c11:=Bool.eq_false_iff.mpr c11
          subst c11
          rw[if_neg (show ¬(false=true) by decide)] at H
          obtain rfl:=Zm H
          go_wp2_with (first|((first|((with_reducible refine gate_callee (f:=47) rfl ?_);refine goesL_ (some 32) rfl rfl Tryz.func47 z4_7 rfl #[.int .i64 (wrap64 (x3_1+1)),.int .i64 0,.int .i64 3] rfl z4_0 ?_;(with_reducible refine(spec_l01In.calls (wrap64 (x3_1+1)) 0 3 false _ A10.out).mono ?_))|(go_at_call 47;(with_reducible refine(spec_l01In.calls (wrap64 (x3_1+1)) 0 3 false _ A10.out).mono ?_)));rintro e w' ⟨rfl,⟨nd,rfl⟩⟩;(first|refine⟨_,rfl,?_⟩|skip)))
          go_ret
          exact⟨by first|rfl|(simp[errW_none,errW_some]<;>rfl)|(simp[*,errW_none,errW_some]<;>rfl)|(simp[*,errW_none,errW_some,i64_w];done),by repeat(first|(with_reducible first|exact HB.out|apply Zh|apply Ze|apply Zd)|exact HB.out)⟩
        ·replace c9:=Bool.eq_false_iff.mpr c9
         subst c9
         rw[if_neg (show ¬(false=true) by decide)] at H
         by_cases c12:((rd_T77 l0 x4_1).f0)=6
         ·rw[if_pos c12] at H
          have c12b0:(((rd_T77 l0 x4_1).f0)==6)=true:=beq_iff_eq.mpr c12
          have c12b1:(((rd_T77 l0 x4_1).f0) != 6)=false:=bne_eq_false_iff_eq.mpr c12
          clear c12
          replace H:=Zl H
          obtain⟨t136,A130,H⟩:=H
          replace H:(if t136=true then (spec_BlockOk.l0 kj5 l0 (wrap64 (x3_1 - 1)) (wrap64 (x4_1+1))) else (some false))=some r:=H
          have A13:=Za A130
          clear A130
          by_cases c14:t136=true
          ·subst c14
           rw[if_pos rfl] at H
           have H':=Za H
           clear H
           go_wp2_with (first|((first|((with_reducible refine gate_callee (f:=47) rfl ?_);refine goesL_ (some 32) rfl rfl Tryz.func47 z4_7 rfl #[.int .i64 (wrap64 (x3_1 - 1)),.int .i64 0,.int .i64 3] rfl z4_0 ?_;(with_reducible refine(spec_l01In.calls (wrap64 (x3_1 - 1)) 0 3 true _ A13.out).mono ?_))|(go_at_call 47;(with_reducible refine(spec_l01In.calls (wrap64 (x3_1 - 1)) 0 3 true _ A13.out).mono ?_)));rintro e w' ⟨rfl,⟨nd,rfl⟩⟩;(first|refine⟨_,rfl,?_⟩|skip)))
           go_roundg kj5
           case measure=>have:=HK1.out;have:=HJ5.out;omega
           case rel=>exact⟨(wrap64 (x3_1 - 1)),(wrap64 (x4_1+1)),z4_6,z4_6,H',⟨by have:=HK1.out;have:=HJ5.out;omega⟩,⟨by repeat(first|(with_reducible first|exact HB.out|apply Zh|apply Ze|apply Zd)|exact HB.out)⟩⟩
          ·replace c14:=Bool.eq_false_iff.mpr c14
           subst c14
           rw[if_neg (show ¬(false=true) by decide)] at H
           obtain rfl:=Zm H
           go_wp2_with (first|((first|((with_reducible refine gate_callee (f:=47) rfl ?_);refine goesL_ (some 32) rfl rfl Tryz.func47 z4_7 rfl #[.int .i64 (wrap64 (x3_1 - 1)),.int .i64 0,.int .i64 3] rfl z4_0 ?_;(with_reducible refine(spec_l01In.calls (wrap64 (x3_1 - 1)) 0 3 false _ A13.out).mono ?_))|(go_at_call 47;(with_reducible refine(spec_l01In.calls (wrap64 (x3_1 - 1)) 0 3 false _ A13.out).mono ?_)));rintro e w' ⟨rfl,⟨nd,rfl⟩⟩;(first|refine⟨_,rfl,?_⟩|skip)))
           go_ret
           exact⟨by first|rfl|(simp[errW_none,errW_some]<;>rfl)|(simp[*,errW_none,errW_some]<;>rfl)|(simp[*,errW_none,errW_some,i64_w];done),by repeat(first|(with_reducible first|exact HB.out|apply Zh|apply Ze|apply Zd)|exact HB.out)⟩
         ·rw[if_neg c12] at H
          have c12b0:(((rd_T77 l0 x4_1).f0)==6)=false:=beq_eq_false_iff_ne.mpr c12
          have c12b1:(((rd_T77 l0 x4_1).f0) != 6)=true:=bne_iff_ne.mpr c12
          replace H:=Zl H
          obtain⟨t137,A150,H⟩:=H
          replace H:(if t137=true then (spec_BlockOk.l0 kj5 l0 x3_1 (wrap64 (x4_1+1))) else (some false))=some r:=H
          have A15:=Za A150
          clear A150
          by_cases c16:t137=true
          ·subst c16
           rw[if_pos rfl] at H
           have H':=Za H
           clear H
           go_wp2_with (first|((first|((with_reducible refine gate_callee (f:=47) rfl ?_);refine goesL_ (some 32) rfl rfl Tryz.func47 z4_7 rfl #[.int .i64 x3_1,.int .i64 0,.int .i64 3] rfl z4_0 ?_;(with_reducible refine(spec_l01In.calls x3_1 0 3 true _ A15.out).mono ?_))|(go_at_call 47;(with_reducible refine(spec_l01In.calls x3_1 0 3 true _ A15.out).mono ?_)));rintro e w' ⟨rfl,⟨nd,rfl⟩⟩;(first|refine⟨_,rfl,?_⟩|skip)))
           go_roundg kj5
           case measure=>have:=HK1.out;have:=HJ5.out;omega
           case rel=>exact⟨(x3_1),(wrap64 (x4_1+1)),z4_6,z4_6,H',⟨by have:=HK1.out;have:=HJ5.out;omega⟩,⟨by repeat(first|(with_reducible first|exact HB.out|apply Zh|apply Ze|apply Zd)|exact HB.out)⟩⟩
          ·replace c16:=Bool.eq_false_iff.mpr c16
           subst c16
           rw[if_neg (show ¬(false=true) by decide)] at H
           obtain rfl:=Zm H
           go_wp2_with (first|((first|((with_reducible refine gate_callee (f:=47) rfl ?_);refine goesL_ (some 32) rfl rfl Tryz.func47 z4_7 rfl #[.int .i64 x3_1,.int .i64 0,.int .i64 3] rfl z4_0 ?_;(with_reducible refine(spec_l01In.calls x3_1 0 3 false _ A15.out).mono ?_))|(go_at_call 47;(with_reducible refine(spec_l01In.calls x3_1 0 3 false _ A15.out).mono ?_)));rintro e w' ⟨rfl,⟨nd,rfl⟩⟩;(first|refine⟨_,rfl,?_⟩|skip)))
           go_ret
           exact⟨by first|rfl|(simp[errW_none,errW_some]<;>rfl)|(simp[*,errW_none,errW_some]<;>rfl)|(simp[*,errW_none,errW_some,i64_w];done),by repeat(first|(with_reducible first|exact HB.out|apply Zh|apply Ze|apply Zd)|exact HB.out)⟩
     ·replace c5:=Bool.eq_false_iff.mpr c5
      subst c5
      rw[if_neg (show ¬(false=true) by decide)] at H
      obtain rfl:=Zm H
      have p132:0≤(x4_1:Int):=Zj z4_3
      have q132:x4_1<(l0.length:Int):=Zj z4_3
      obtain⟨ad132,e132,hx132_0,hx132_1,hx132_2,hx132_3,hx132_4,hx132_5⟩:=at_T77 HR0.out x4_1 p132 q132
      cases e132
      replace hx132_0:=(HB.out.cell (Zf w _ hx132_0)).trans hx132_0
      replace hx132_1:=(HB.out.cell (Zf w _ hx132_1)).trans hx132_1
      replace hx132_2:=(HB.out.cell (Zf w _ hx132_2)).trans hx132_2
      replace hx132_3:=(HB.out.cell (Zf w _ hx132_3)).trans hx132_3
      replace hx132_4:=(HB.out.cell (Zf w _ hx132_4)).trans hx132_4
      replace hx132_5:=(HB.out.cell (Zf w _ hx132_5)).trans hx132_5
      replace p132:=eq_true p132
      replace q132:=eq_true q132
      go_wp2_with (first|((first|((with_reducible refine gate_callee (f:=81) rfl ?_);refine goesL_ (some 15) rfl rfl Tryz.func81 z4_7 rfl #[.agg #[.int .i64 ((rd_T77 l0 x4_1).f0),.int .i64 ((rd_T77 l0 x4_1).f1),.int .i64 ((rd_T77 l0 x4_1).f2),.int .i64 ((rd_T77 l0 x4_1).f3.f0),.int .i64 ((rd_T77 l0 x4_1).f3.f1),.int .i64 ((rd_T77 l0 x4_1).f3.f2)]] rfl z4_0 ?_;(with_reducible refine(spec_StmtOk.calls k1 ((rd_T77 l0 x4_1).f0) ((rd_T77 l0 x4_1).f1) ((rd_T77 l0 x4_1).f2) ((rd_T77 l0 x4_1).f3.f0) ((rd_T77 l0 x4_1).f3.f1) ((rd_T77 l0 x4_1).f3.f2) false _ A4.out).mono ?_))|(go_at_call 81;(with_reducible refine(spec_StmtOk.calls k1 ((rd_T77 l0 x4_1).f0) ((rd_T77 l0 x4_1).f1) ((rd_T77 l0 x4_1).f2) ((rd_T77 l0 x4_1).f3.f0) ((rd_T77 l0 x4_1).f3.f1) ((rd_T77 l0 x4_1).f3.f2) false _ A4.out).mono ?_)));rintro e w17 ⟨rfl,hb⟩;(first|refine⟨_,rfl,?_⟩|skip);replace HB:=Za (Zi z4_1 hb);(try clear hb);(try clear hb2);(try clear hk);(try clear hi)))
      go_ret
      exact⟨by first|rfl|(simp[errW_none,errW_some]<;>rfl)|(simp[*,errW_none,errW_some]<;>rfl)|(simp[*,errW_none,errW_some,i64_w];done),by repeat(first|(with_reducible first|exact HB.out|apply Zh|apply Ze|apply Zd)|exact HB.out)⟩
    ·rw[if_neg c3] at H
     exact absurd H (by simp)
   ·rw[if_neg c2] at H
    have c2b0:decide (x4_1<(l0.length:Int))=false:=Yg c2
    clear c2
    by_cases c18:x3_1=0
    ·rw[if_pos c18] at H
     have c18b0:(x3_1==0)=true:=beq_iff_eq.mpr c18
     have c18b1:(x3_1 != 0)=false:=bne_eq_false_iff_eq.mpr c18
     clear c18
     obtain rfl:=Zm H
     go_wp2
     go_ret
     exact⟨by first|rfl|(simp[errW_none,errW_some]<;>rfl)|(simp[*,errW_none,errW_some]<;>rfl)|(simp[*,errW_none,errW_some,i64_w];done),by repeat(first|(with_reducible first|exact HB.out|apply Zh|apply Ze|apply Zd)|exact HB.out)⟩
    ·rw[if_neg c18] at H
     have c18b0:(x3_1==0)=false:=beq_eq_false_iff_ne.mpr c18
     have c18b1:(x3_1 != 0)=true:=bne_iff_ne.mpr c18
     obtain rfl:=Zm H
     go_wp2
     go_ret
     exact⟨by first|rfl|(simp[errW_none,errW_some]<;>rfl)|(simp[*,errW_none,errW_some]<;>rfl)|(simp[*,errW_none,errW_some,i64_w];done),by repeat(first|(with_reducible first|exact HB.out|apply Zh|apply Ze|apply Zd)|exact HB.out)⟩
def spec_ProgramOk.l0:Nat→Int→List (S55)→Option (Bool)
 |0,_,_=>none
 |k+1,x3,x139000=>if x3<(x139000.length:Int) then (if 0≤x3 then ((spec_BlockOk.f k ((rd_T55 x139000 x3).f0)).bind fun t141=>(if t141=true then ((spec_ExprOk.f ((rd_T55 x139000 x3).f1.f0) ((rd_T55 x139000 x3).f1.f1) ((rd_T55 x139000 x3).f1.f2)).bind fun t143=>(if t143=true then (spec_ProgramOk.l0 k (wrap64 (x3+1)) x139000) else (some false))) else (some false))) else (none)) else ((spec_l01In.f (x139000.length:Int) 1 6).bind fun t139=>(some t139))
def spec_ProgramOk.f (k:Nat) (l0_0:List (S55)):Option (Bool):=spec_ProgramOk.l0 k 0 l0_0
set_option maxHeartbeats 8000000 in
set_option maxRecDepth 100000 in
theorem spec_ProgramOk.calls (k:Nat) (A0_0:Option Addr) (c0_0:Nat) (l0_0:List (S55)) (r:Bool) (w:World) (hr0_0:Kd.C k55 w A0_0 l0_0.length l0_0) (hc0_0:l0_0.length≤c0_0) (h:spec_ProgramOk.f k l0_0=some r):
  Calls Tryz.prog 45 #[.agg #[.slice A0_0 l0_0.length c0_0]] w fun e w'=>e= .returned (.bool r)∧Below w.heap.size w w':=by
 have hu30:=Tryz.underlying30
 have hu53:=Tryz.underlying53
 have HR0_0:=Za hr0_0
 have HC0_0:=Za hc0_0
 clear hr0_0 hc0_0
 have HB:=Za (Yc w.heap.size w)
 have H:(spec_ProgramOk.l0 k 0 l0_0)=some r:=h
 clear h
 have H':=Za H
 clear H
 go_enter Tryz.func45,Tryz.ntmps45
 go_wp2_with (first|((with_reducible refine Zr (N:=1) rfl ?_);refine Zs ?hg (N:=1) ?hd (cs:= #[.slice A0_0 l0_0.length c0_0]) (t:=30) ?hr ?_;(case hd=>rfl);(case hg=>rfl);(case hr=>exact z4_10);intro gb138 hg w2 hbox hb;have BK138:=Za (hbox);have GW138:=Za ((z4_11:w.heap.size≤gb138));have GE138:=Za ((z4_11:w.heap.size≤gb138));replace HB:=Za (Zi z4_1 hb);clear hb hbox hg))
 go_loopg [3] k (fun kq v3 w'=>∃(x3_1:Int),v3= .int .i64 x3_1∧Aside0 (spec_ProgramOk.l0 kq x3_1 l0_0=some r)∧Aside0 (kq≤k)∧Aside0 (w'.heap[gb138]? =some (.cells #[(.slice A0_0 l0_0.length c0_0)] 30 (0,0)))∧Aside0 (Below w.heap.size w w'))
 case atStart=>exact⟨(0),z4_6,H',⟨Nat.le_refl _⟩,⟨by(with_reducible repeat(first|refine blk_drewN ?_ _|refine blk_drew ?_|refine blk_alloc ?_ _));exact BK138.out⟩,⟨by repeat(first|(with_reducible first|exact HB.out|apply Zh|apply Ze|apply Zd|refine Zg ?_ GE138.out)|exact HB.out)⟩⟩
 case round=>
  clear H'
  obtain⟨x3_1,rfl,HA,HK1,BK138,HB⟩:=hrel
  cases gk with
  |zero=>exact absurd HA.out (by simp[spec_ProgramOk.l0])
  |succ k1=>
   have H:=HA.out
   clear HA
   simp only[spec_ProgramOk.l0] at H
   by_cases c3:x3_1<(l0_0.length:Int)
   ·rw[if_pos c3] at H
    have c3b0:decide (x3_1<(l0_0.length:Int))=true:=Zq c3
    clear c3
    by_cases c4:0≤x3_1
    ·rw[if_pos c4] at H
     have c4b0:decide (0≤x3_1)=true:=Zq c4
     clear c4
     replace H:=Zl H
     obtain⟨t141,A50,H⟩:=H
     replace H:(if t141=true then ((spec_ExprOk.f ((rd_T55 l0_0 x3_1).f1.f0) ((rd_T55 l0_0 x3_1).f1.f1) ((rd_T55 l0_0 x3_1).f1.f2)).bind fun t143=>(if t143=true then (spec_ProgramOk.l0 k1 (wrap64 (x3_1+1)) l0_0) else (some false))) else (some false))=some r:=H
     have A5:=Za A50
     clear A50
     by_cases c6:t141=true
     ·subst c6
      rw[if_pos rfl] at H
      replace H:=Zl H
      obtain⟨t143,A70,H⟩:=H
      replace H:(if t143=true then (spec_ProgramOk.l0 k1 (wrap64 (x3_1+1)) l0_0) else (some false))=some r:=H
      have A7:=Za A70
      clear A70
      by_cases c8:t143=true
      ·subst c8
       rw[if_pos rfl] at H
       have H':=Za H
       clear H
       have hcz9_0:wr.cell? ⟨gb138,0,none⟩=some (.slice A0_0 l0_0.length c0_0):=(Zb BK138.out 0).trans rfl
       have hfz9_0:=Zc BK138.out 0
       have p140:0≤(x3_1:Int):=Zj z4_3
       have q140:x3_1<(l0_0.length:Int):=Zj z4_3
       obtain⟨ad140,A140_0,c140_0,e140,hx140_0,hx140_1,hx140_2,hx140_3,hl140_0,hi140_0⟩:=at_T55 HR0_0.out x3_1 p140 q140
       cases e140
       replace hx140_0:=(HB.out.cell (Zf w _ hx140_0)).trans hx140_0
       replace hx140_1:=(HB.out.cell (Zf w _ hx140_1)).trans hx140_1
       replace hx140_2:=(HB.out.cell (Zf w _ hx140_2)).trans hx140_2
       replace hx140_3:=(HB.out.cell (Zf w _ hx140_3)).trans hx140_3
       have HR140_0:=Za hi140_0
       have HC140_0:=Za hl140_0
       clear hi140_0 hl140_0
       replace p140:=eq_true p140
       replace q140:=eq_true q140
       go_wp2_with (first|((first|((with_reducible refine gate_callee (f:=50) rfl ?_);refine goesL_ (some 17) rfl rfl Tryz.func50 z4_7 rfl #[.slice A140_0 ((rd_T55 l0_0 x3_1).f0).length c140_0] rfl z4_0 ?_;(with_reducible refine(spec_BlockOk.calls k1 _ _ ((rd_T55 l0_0 x3_1).f0) true _ ?side1 ?side2 A5.out).mono ?_))|(go_at_call 50;(with_reducible refine(spec_BlockOk.calls k1 _ _ ((rd_T55 l0_0 x3_1).f0) true _ ?side1 ?side2 A5.out).mono ?_)));(case side1=>exact z4_9);(case side2=>exact HC140_0.out);rintro e w10 ⟨rfl,hb⟩;(first|refine⟨_,rfl,?_⟩|skip);replace BK138:=Za (Zk (g:=gb138) (o:= .cells #[.slice (some ad140) l0_0.length c0_0] 30 (0,0)) z4_8 hb);replace HB:=Za (Zi z4_5 hb);(try clear hb);(try clear hb2);(try clear hk);(try clear hi);have hcz11_0:w10.cell? ⟨gb138,0,none⟩=some (.slice (some ad140) l0_0.length c0_0):=(Zb BK138.out 0).trans rfl;have hfz11_0:=Zc BK138.out 0;have p142:0≤(x3_1:Int):=Zj z4_3;have q142:x3_1<(l0_0.length:Int):=Zj z4_3;obtain⟨ad142,A142_0,c142_0,e142,hx142_0,hx142_1,hx142_2,hx142_3,hl142_0,hi142_0⟩:=at_T55 HR0_0.out x3_1 p142 q142;obtain rfl:ad140=ad142:=(by injection e142);replace hx142_0:=(HB.out.cell (Zf w _ hx142_0)).trans hx142_0;replace hx142_1:=(HB.out.cell (Zf w _ hx142_1)).trans hx142_1;replace hx142_2:=(HB.out.cell (Zf w _ hx142_2)).trans hx142_2;replace hx142_3:=(HB.out.cell (Zf w _ hx142_3)).trans hx142_3;have HR142_0:=Za hi142_0;have HC142_0:=Za hl142_0;clear hi142_0 hl142_0;replace p142:=eq_true p142;replace q142:=eq_true q142)|(go_at_call 80;(with_reducible refine(spec_ExprOk.calls ((rd_T55 l0_0 x3_1).f1.f0) ((rd_T55 l0_0 x3_1).f1.f1) ((rd_T55 l0_0 x3_1).f1.f2) true _ A7.out).mono ?_);rintro e w12 ⟨rfl,hb⟩;replace BK138:=Za (Zk (g:=gb138) (o:= .cells #[.slice (some ad140) l0_0.length c0_0] 30 (0,0)) z4_8 hb);replace HB:=Za (Zi z4_5 hb);(try clear hb);(try clear hb2);(try clear hk);(try clear hi)))
       go_roundg k1
       case measure=>have:=HK1.out;omega
       case rel=>exact⟨(wrap64 (x3_1+1)),z4_6,H',⟨by have:=HK1.out;omega⟩,⟨by(with_reducible repeat(first|refine blk_drewN ?_ _|refine blk_drew ?_|refine blk_alloc ?_ _));exact BK138.out⟩,⟨by repeat(first|(with_reducible first|exact HB.out|apply Zh|apply Ze|apply Zd|refine Zg ?_ GE138.out)|exact HB.out)⟩⟩
      ·replace c8:=Bool.eq_false_iff.mpr c8
       subst c8
       rw[if_neg (show ¬(false=true) by decide)] at H
       obtain rfl:=Zm H
       have hcz13_0:wr.cell? ⟨gb138,0,none⟩=some (.slice A0_0 l0_0.length c0_0):=(Zb BK138.out 0).trans rfl
       have hfz13_0:=Zc BK138.out 0
       have p140:0≤(x3_1:Int):=Zj z4_3
       have q140:x3_1<(l0_0.length:Int):=Zj z4_3
       obtain⟨ad140,A140_0,c140_0,e140,hx140_0,hx140_1,hx140_2,hx140_3,hl140_0,hi140_0⟩:=at_T55 HR0_0.out x3_1 p140 q140
       cases e140
       replace hx140_0:=(HB.out.cell (Zf w _ hx140_0)).trans hx140_0
       replace hx140_1:=(HB.out.cell (Zf w _ hx140_1)).trans hx140_1
       replace hx140_2:=(HB.out.cell (Zf w _ hx140_2)).trans hx140_2
       replace hx140_3:=(HB.out.cell (Zf w _ hx140_3)).trans hx140_3
       have HR140_0:=Za hi140_0
       have HC140_0:=Za hl140_0
       clear hi140_0 hl140_0
       replace p140:=eq_true p140
       replace q140:=eq_true q140
       go_wp2_with (first|((first|((with_reducible refine gate_callee (f:=50) rfl ?_);refine goesL_ (some 17) rfl rfl Tryz.func50 z4_7 rfl #[.slice A140_0 ((rd_T55 l0_0 x3_1).f0).length c140_0] rfl z4_0 ?_;(with_reducible refine(spec_BlockOk.calls k1 _ _ ((rd_T55 l0_0 x3_1).f0) true _ ?side1 ?side2 A5.out).mono ?_))|(go_at_call 50;(with_reducible refine(spec_BlockOk.calls k1 _ _ ((rd_T55 l0_0 x3_1).f0) true _ ?side1 ?side2 A5.out).mono ?_)));(case side1=>exact z4_9);(case side2=>exact HC140_0.out);rintro e w14 ⟨rfl,hb⟩;(first|refine⟨_,rfl,?_⟩|skip);replace BK138:=Za (Zk (g:=gb138) (o:= .cells #[.slice (some ad140) l0_0.length c0_0] 30 (0,0)) z4_8 hb);replace HB:=Za (Zi z4_5 hb);(try clear hb);(try clear hb2);(try clear hk);(try clear hi);have hcz15_0:w14.cell? ⟨gb138,0,none⟩=some (.slice (some ad140) l0_0.length c0_0):=(Zb BK138.out 0).trans rfl;have hfz15_0:=Zc BK138.out 0;have p142:0≤(x3_1:Int):=Zj z4_3;have q142:x3_1<(l0_0.length:Int):=Zj z4_3;obtain⟨ad142,A142_0,c142_0,e142,hx142_0,hx142_1,hx142_2,hx142_3,hl142_0,hi142_0⟩:=at_T55 HR0_0.out x3_1 p142 q142;obtain rfl:ad140=ad142:=(by injection e142);replace hx142_0:=(HB.out.cell (Zf w _ hx142_0)).trans hx142_0;replace hx142_1:=(HB.out.cell (Zf w _ hx142_1)).trans hx142_1;replace hx142_2:=(HB.out.cell (Zf w _ hx142_2)).trans hx142_2;replace hx142_3:=(HB.out.cell (Zf w _ hx142_3)).trans hx142_3;have HR142_0:=Za hi142_0;have HC142_0:=Za hl142_0;clear hi142_0 hl142_0;replace p142:=eq_true p142;replace q142:=eq_true q142)|(go_at_call 80;(with_reducible refine(spec_ExprOk.calls ((rd_T55 l0_0 x3_1).f1.f0) ((rd_T55 l0_0 x3_1).f1.f1) ((rd_T55 l0_0 x3_1).f1.f2) false _ A7.out).mono ?_);rintro e w16 ⟨rfl,hb⟩;replace BK138:=Za (Zk (g:=gb138) (o:= .cells #[.slice (some ad140) l0_0.length c0_0] 30 (0,0)) z4_8 hb);replace HB:=Za (Zi z4_5 hb);(try clear hb);(try clear hb2);(try clear hk);(try clear hi)))
       go_ret
       exact⟨by first|rfl|(simp[errW_none,errW_some]<;>rfl)|(simp[*,errW_none,errW_some]<;>rfl)|(simp[*,errW_none,errW_some,i64_w];done),by repeat(first|(with_reducible first|exact HB.out|apply Zh|apply Ze|apply Zd|refine Zg ?_ GE138.out)|exact HB.out)⟩
     ·replace c6:=Bool.eq_false_iff.mpr c6
      subst c6
      rw[if_neg (show ¬(false=true) by decide)] at H
      obtain rfl:=Zm H
      have hcz17_0:wr.cell? ⟨gb138,0,none⟩=some (.slice A0_0 l0_0.length c0_0):=(Zb BK138.out 0).trans rfl
      have hfz17_0:=Zc BK138.out 0
      have p140:0≤(x3_1:Int):=Zj z4_3
      have q140:x3_1<(l0_0.length:Int):=Zj z4_3
      obtain⟨ad140,A140_0,c140_0,e140,hx140_0,hx140_1,hx140_2,hx140_3,hl140_0,hi140_0⟩:=at_T55 HR0_0.out x3_1 p140 q140
      cases e140
      replace hx140_0:=(HB.out.cell (Zf w _ hx140_0)).trans hx140_0
      replace hx140_1:=(HB.out.cell (Zf w _ hx140_1)).trans hx140_1
      replace hx140_2:=(HB.out.cell (Zf w _ hx140_2)).trans hx140_2
      replace hx140_3:=(HB.out.cell (Zf w _ hx140_3)).trans hx140_3
      have HR140_0:=Za hi140_0
      have HC140_0:=Za hl140_0
      clear hi140_0 hl140_0
      replace p140:=eq_true p140
      replace q140:=eq_true q140
      go_wp2_with (first|((first|((with_reducible refine gate_callee (f:=50) rfl ?_);refine goesL_ (some 17) rfl rfl Tryz.func50 z4_7 rfl #[.slice A140_0 ((rd_T55 l0_0 x3_1).f0).length c140_0] rfl z4_0 ?_;(with_reducible refine(spec_BlockOk.calls k1 _ _ ((rd_T55 l0_0 x3_1).f0) false _ ?side1 ?side2 A5.out).mono ?_))|(go_at_call 50;(with_reducible refine(spec_BlockOk.calls k1 _ _ ((rd_T55 l0_0 x3_1).f0) false _ ?side1 ?side2 A5.out).mono ?_)));(case side1=>exact z4_9);(case side2=>exact HC140_0.out);rintro e w18 ⟨rfl,hb⟩;(first|refine⟨_,rfl,?_⟩|skip);replace BK138:=Za (Zk (g:=gb138) (o:= .cells #[.slice (some ad140) l0_0.length c0_0] 30 (0,0)) z4_8 hb);replace HB:=Za (Zi z4_5 hb);(try clear hb);(try clear hb2);(try clear hk);(try clear hi)))
      go_ret
      exact⟨by first|rfl|(simp[errW_none,errW_some]<;>rfl)|(simp[*,errW_none,errW_some]<;>rfl)|(simp[*,errW_none,errW_some,i64_w];done),by repeat(first|(with_reducible first|exact HB.out|apply Zh|apply Ze|apply Zd|refine Zg ?_ GE138.out)|exact HB.out)⟩
    ·rw[if_neg c4] at H
     exact absurd H (by simp)
   ·rw[if_neg c3] at H
    have c3b0:decide (x3_1<(l0_0.length:Int))=false:=Yg c3
    clear c3
    replace H:=Zl H
    obtain⟨t139,A190,H⟩:=H
    replace H:(some t139)=some r:=H
    have A19:=Za A190
    clear A190
    obtain rfl:=Zm H
    have hcz20_0:wr.cell? ⟨gb138,0,none⟩=some (.slice A0_0 l0_0.length c0_0):=(Zb BK138.out 0).trans rfl
    have hfz20_0:=Zc BK138.out 0
    go_wp2_with (first|((first|((with_reducible refine gate_callee (f:=47) rfl ?_);refine goesL_ (some 32) rfl rfl Tryz.func47 z4_7 rfl #[.int .i64 (l0_0.length:Int),.int .i64 1,.int .i64 6] rfl z4_0 ?_;(with_reducible refine(spec_l01In.calls (l0_0.length:Int) 1 6 t139 _ A19.out).mono ?_))|(go_at_call 47;(with_reducible refine(spec_l01In.calls (l0_0.length:Int) 1 6 t139 _ A19.out).mono ?_)));rintro e w' ⟨rfl,⟨nd,rfl⟩⟩;(first|refine⟨_,rfl,?_⟩|skip)))
    go_ret
    exact⟨by first|rfl|(simp[errW_none,errW_some]<;>rfl)|(simp[*,errW_none,errW_some]<;>rfl)|(simp[*,errW_none,errW_some,i64_w];done),by repeat(first|(with_reducible first|exact HB.out|apply Zh|apply Ze|apply Zd|refine Zg ?_ GE138.out)|exact HB.out)⟩
def spec_IsValue.f (a0:Int):Option (Bool):=(spec_l01In.f a0 (-1000000) 1000000).bind fun t144=>(some t144)
set_option maxHeartbeats 8000000 in
set_option maxRecDepth 100000 in
theorem spec_IsValue.calls (a0:Int) (r:Bool) (w:World) (h:spec_IsValue.f a0=some r):
  Calls Tryz.prog 48 #[.int .i64 a0] w fun e w'=>e= .returned (.bool r)∧Drawn0 w w':=by
 have H:((spec_l01In.f a0 (-1000000) 1000000).bind fun t144=>(some t144))=some r:=h
 clear h
 replace H:=Zl H
 obtain⟨t144,A20,H⟩:=H
 replace H:(some t144)=some r:=H
 have A2:=Za A20
 clear A20
 obtain rfl:=Zm H
 go_enter Tryz.func48,Tryz.ntmps48
 go_wp2_with (first|((first|((with_reducible refine gate_callee (f:=47) rfl ?_);refine goesL_ (some 4) rfl rfl Tryz.func47 z4_7 rfl #[.int .i64 a0,.int .i64 (-1000000),.int .i64 1000000] rfl z4_0 ?_;(with_reducible refine(spec_l01In.calls a0 (-1000000) 1000000 t144 _ A2.out).mono ?_))|(go_at_call 47;(with_reducible refine(spec_l01In.calls a0 (-1000000) 1000000 t144 _ A2.out).mono ?_)));rintro e w' ⟨rfl,⟨nd,rfl⟩⟩;(first|refine⟨_,rfl,?_⟩|skip)))
 go_ret
 exact⟨by first|rfl|(simp;done)|(simp[*];done),by repeat(first|exact Zz _|apply Ya)⟩
def spec_l09Values.l0:Nat→List Int→Int→Option (Bool)
 |0,_,_=>none
 |k+1,x0,x3=>if x3<(x0.length:Int) then (if 0≤x3 then ((spec_IsValue.f (rd x0 x3)).bind fun t146=>(if t146=true then (spec_l09Values.l0 k x0 (wrap64 (x3+1))) else (some false))) else (none)) else (some true)
def spec_l09Values.f (k:Nat) (l0:List Int):Option (Bool):=spec_l09Values.l0 k l0 0
set_option maxHeartbeats 8000000 in
set_option maxRecDepth 100000 in
theorem spec_l09Values.calls (k:Nat) (A0:Option Addr) (c0:Nat) (l0:List Int) (r:Bool) (w:World) (hr0:Kd.C (Kd.int .i64) w A0 l0.length l0) (hc0:l0.length≤c0) (h:spec_l09Values.f k l0=some r):
  Calls Tryz.prog 46 #[.slice A0 l0.length c0] w fun e w'=>e= .returned (.bool r)∧Drawn0 w w':=by
 have HR0:=Za hr0
 have HC0:=Za hc0
 clear hr0 hc0
 have H:(spec_l09Values.l0 k l0 0)=some r:=h
 clear h
 have H':=Za H
 clear H
 go_enter Tryz.func46,Tryz.ntmps46
 go_wp2
 go_loopg [3] k (fun kq v3 w'=>∃(x3_1:Int),v3= .int .i64 x3_1∧Aside0 (spec_l09Values.l0 kq l0 x3_1=some r)∧Aside0 (kq≤k)∧Drawn0 w w')
 case atStart=>exact⟨(0),z4_6,H',⟨Nat.le_refl _⟩,by repeat(first|exact Zz _|apply Ya)⟩
 case round=>
  clear H'
  obtain⟨x3_1,rfl,HA,HK1,⟨m1,rfl⟩⟩:=hrel
  cases gk with
  |zero=>exact absurd HA.out (by simp[spec_l09Values.l0])
  |succ k1=>
   have H:=HA.out
   clear HA
   simp only[spec_l09Values.l0] at H
   by_cases c2:x3_1<(l0.length:Int)
   ·rw[if_pos c2] at H
    have c2b0:decide (x3_1<(l0.length:Int))=true:=Zq c2
    clear c2
    by_cases c3:0≤x3_1
    ·rw[if_pos c3] at H
     have c3b0:decide (0≤x3_1)=true:=Zq c3
     clear c3
     replace H:=Zl H
     obtain⟨t146,A40,H⟩:=H
     replace H:(if t146=true then (spec_l09Values.l0 k1 l0 (wrap64 (x3_1+1))) else (some false))=some r:=H
     have A4:=Za A40
     clear A40
     by_cases c5:t146=true
     ·subst c5
      rw[if_pos rfl] at H
      have H':=Za H
      clear H
      have p145:0≤(x3_1:Int):=Zj z4_3
      have q145:x3_1<(l0.length:Int):=Zj z4_3
      obtain⟨ad145,e145,hx145_0⟩:=Kd.at_int HR0.out x3_1 p145 q145
      cases e145
      replace p145:=eq_true p145
      replace q145:=eq_true q145
      go_wp2_with (first|((first|((with_reducible refine gate_callee (f:=48) rfl ?_);refine goesL_ (some 14) rfl rfl Tryz.func48 z4_7 rfl #[.int .i64 (rd l0 x3_1)] rfl z4_0 ?_;(with_reducible refine(spec_IsValue.calls (rd l0 x3_1) true _ A4.out).mono ?_))|(go_at_call 48;(with_reducible refine(spec_IsValue.calls (rd l0 x3_1) true _ A4.out).mono ?_)));rintro e w' ⟨rfl,⟨nd,rfl⟩⟩;(first|refine⟨_,rfl,?_⟩|skip)))
      go_roundg k1
      case measure=>have:=HK1.out;omega
      case rel=>exact⟨(wrap64 (x3_1+1)),z4_6,H',⟨by have:=HK1.out;omega⟩,by repeat(first|exact Zz _|apply Ya)⟩
     ·replace c5:=Bool.eq_false_iff.mpr c5
      subst c5
      rw[if_neg (show ¬(false=true) by decide)] at H
      obtain rfl:=Zm H
      have p145:0≤(x3_1:Int):=Zj z4_3
      have q145:x3_1<(l0.length:Int):=Zj z4_3
      obtain⟨ad145,e145,hx145_0⟩:=Kd.at_int HR0.out x3_1 p145 q145
      cases e145
      replace p145:=eq_true p145
      replace q145:=eq_true q145
      go_wp2_with (first|((first|((with_reducible refine gate_callee (f:=48) rfl ?_);refine goesL_ (some 14) rfl rfl Tryz.func48 z4_7 rfl #[.int .i64 (rd l0 x3_1)] rfl z4_0 ?_;(with_reducible refine(spec_IsValue.calls (rd l0 x3_1) false _ A4.out).mono ?_))|(go_at_call 48;(with_reducible refine(spec_IsValue.calls (rd l0 x3_1) false _ A4.out).mono ?_)));rintro e w' ⟨rfl,⟨nd,rfl⟩⟩;(first|refine⟨_,rfl,?_⟩|skip)))
      go_ret
      exact⟨by first|rfl|(simp;done)|(simp[*];done),by repeat(first|exact Zz _|apply Ya)⟩
    ·rw[if_neg c3] at H
     exact absurd H (by simp)
   ·rw[if_neg c2] at H
    have c2b0:decide (x3_1<(l0.length:Int))=false:=Yg c2
    clear c2
    obtain rfl:=Zm H
    go_wp2
    go_ret
    exact⟨by first|rfl|(simp;done)|(simp[*];done),by repeat(first|exact Zz _|apply Ya)⟩
end Go.Proofs.YtccjlmpeogifkaaGreat.G
