/- Functions of the program as plain Lean functions, and that each call comes to its function's answer; written by a program of the session. No condition. -/
import Derived.Test.YtdkbkkpbdmlmbaaGreatGx0
import Derived.Test.YtdkbkkpbdmlmbaaGreatGx1
import Derived.Test.YtdkbkkpbdmlmbaaGreatGx3
namespace Go.Proofs.YtdkbkkpbdmlmbaaGreat.G
open Go.RowKit Go.Proofs.YtdkbkkpbdmlmbaaGreatW.PrintWords Go.Proofs.YtdkbkkpbdmlmbaaGreatW.PrintLast Go.Proofs.YtdkbkkpbdmlmbaaGreatW.PrintMore
attribute [local go_sem] max2_int min2_int max_two min_two max_three min_three max_four min_four   -- for this text's walks alone
set_option linter.unusedVariables false
set_option linter.unusedSimpArgs false
attribute [local go_sem high] eqA72
theorem z4_0 {P:Prop} (h:P:=by repeat(first|(with_reducible first|exact HB.out|apply Zh|apply Zf|apply Ze)|exact HB.out)):P:=h
theorem z4_1 {P:Prop} (h:P:=by(try simp only[Ys,List.map_cons,List.map_nil]);first|done|rfl|(simp only[List.length_drop,List.length_take];rfl)):P:=h
theorem z4_2 {P:Prop} (h:P:=by rw[hw];exact(by(with_reducible repeat(first|refine blk_drewN ?_ _|refine blk_drew ?_|refine blk_alloc ?_ _));refine blk_put (cs:= #[.int .i64 ((rd_T92 l0 x8_1).f0),.int .i64 ((rd_T92 l0 x8_1).f1),.int .i64 ((rd_T92 l0 x8_1).f2),.int .i64 ((rd_T92 l0 x8_1).f3.f0),.int .i64 ((rd_T92 l0 x8_1).f3.f1),.int .i64 0]) ?_ 5 _ rfl;(with_reducible repeat(first|refine blk_drewN ?_ _|refine blk_drew ?_|refine blk_alloc ?_ _));refine blk_put (cs:= #[.int .i64 ((rd_T92 l0 x8_1).f0),.int .i64 ((rd_T92 l0 x8_1).f1),.int .i64 ((rd_T92 l0 x8_1).f2),.int .i64 ((rd_T92 l0 x8_1).f3.f0),.int .i64 0,.int .i64 0]) ?_ 4 _ rfl;(with_reducible repeat(first|refine blk_drewN ?_ _|refine blk_drew ?_|refine blk_alloc ?_ _));refine blk_put (cs:= #[.int .i64 ((rd_T92 l0 x8_1).f0),.int .i64 ((rd_T92 l0 x8_1).f1),.int .i64 ((rd_T92 l0 x8_1).f2),.int .i64 0,.int .i64 0,.int .i64 0]) ?_ 3 _ rfl;(with_reducible repeat(first|refine blk_drewN ?_ _|refine blk_drew ?_|refine blk_alloc ?_ _));refine blk_put (cs:= #[.int .i64 ((rd_T92 l0 x8_1).f0),.int .i64 ((rd_T92 l0 x8_1).f1),.int .i64 0,.int .i64 0,.int .i64 0,.int .i64 0]) ?_ 2 _ rfl;(with_reducible repeat(first|refine blk_drewN ?_ _|refine blk_drew ?_|refine blk_alloc ?_ _));refine blk_put (cs:= #[.int .i64 ((rd_T92 l0 x8_1).f0),.int .i64 0,.int .i64 0,.int .i64 0,.int .i64 0,.int .i64 0]) ?_ 1 _ rfl;(with_reducible repeat(first|refine blk_drewN ?_ _|refine blk_drew ?_|refine blk_alloc ?_ _));refine blk_put (cs:= #[.int .i64 0,.int .i64 0,.int .i64 0,.int .i64 0,.int .i64 0,.int .i64 0]) ?_ 0 _ rfl;(with_reducible repeat(first|refine blk_drewN ?_ _|refine blk_drew ?_|refine blk_alloc ?_ _));exact BK410.out)):P:=h
theorem z4_3 {P:Prop} (h:P:=by first|rfl|(simp;done)|(simp[*];done)):P:=h
theorem z4_4 {P:Prop} (h:P:=by repeat(first|(with_reducible first|exact HB.out|apply Zh|apply Zf|apply Ze|refine Zd ?_ GE410.out)|exact HB.out)):P:=h
theorem z4_5 {P:Prop} (h:P:=by repeat(first|(with_reducible first|exact HB.out|apply Zh|apply Zf|apply Ze|refine Zd ?_ GE413.out)|exact HB.out)):P:=h
theorem z4_6 {P:Prop} (h:P:=by first|(go_simp;done)|(go_simp;rfl)):P:=h
theorem z4_7 {P:Prop} (h:P:=by(with_reducible repeat(first|refine blk_drewN ?_ _|refine blk_drew ?_|refine blk_alloc ?_ _));exact BK413.out):P:=h
theorem z4_8 {P:Prop} (h:P:=by rw[hg];exact(Yh z4_0)):P:=h
def impl_isSensor.f (a0:Int):Option (Bool):=(impl_within.f a0 0 3).bind fun t396=>(some t396)
set_option maxHeartbeats 8000000 in
set_option maxRecDepth 100000 in
theorem impl_isSensor.calls (a0:Int) (r:Bool) (w:World) (h:impl_isSensor.f a0=some r):
  Calls Tryz.prog 87 #[.int .i64 a0] w fun e w'=>e= .returned (.bool r)∧Drawn0 w w':=by
 have H:((impl_within.f a0 0 3).bind fun t396=>(some t396))=some r:=h
 clear h
 replace H:=Zg H
 obtain⟨t396,A20,H⟩:=H
 replace H:(some t396)=some r:=H
 have A2:=Za A20
 clear A20
 obtain rfl:=Zk H
 go_enter Tryz.func87,Tryz.ntmps87
 go_wp2_with (first|((first|((with_reducible refine gate_callee (f:=30) rfl ?_);refine goesL_ (some 4) rfl rfl Tryz.func30 (by kernel_rfl) rfl #[.int .i64 a0,.int .i64 0,.int .i64 3] rfl z4_1 ?_;(with_reducible refine(impl_within.calls a0 0 3 t396 _ A2.out).mono ?_))|(go_at_call 30;(with_reducible refine(impl_within.calls a0 0 3 t396 _ A2.out).mono ?_)));rintro e w' ⟨rfl,⟨nd,rfl⟩⟩;(first|refine⟨_,rfl,?_⟩|skip)))
 go_ret
 exact⟨by first|rfl|(simp;done)|(simp[*];done),by repeat(first|exact Zv _|apply Zw)⟩
def impl_hasVar.f (a0:Int):Option (Bool):=if a0=1 then (some true) else (some (a0==2))
set_option maxHeartbeats 8000000 in
set_option maxRecDepth 100000 in
theorem impl_hasVar.calls (a0:Int) (r:Bool) (w:World) (h:impl_hasVar.f a0=some r):
  Calls Tryz.prog 104 #[.int .i64 a0] w fun e w'=>e= .returned (.bool r)∧Drawn0 w w':=by
 have H:(if a0=1 then (some true) else (some (a0==2)))=some r:=h
 clear h
 by_cases c2:a0=1
 ·rw[if_pos c2] at H
  have c2b0:(a0==1)=true:=beq_iff_eq.mpr c2
  have c2b1:(a0 != 1)=false:=bne_eq_false_iff_eq.mpr c2
  clear c2
  obtain rfl:=Zk H
  go_enter Tryz.func104,Tryz.ntmps104
  go_wp2
  go_ret
  exact⟨by first|rfl|(simp;done)|(simp[*];done),by repeat(first|exact Zv _|apply Zw)⟩
 ·rw[if_neg c2] at H
  have c2b0:(a0==1)=false:=beq_eq_false_iff_ne.mpr c2
  have c2b1:(a0 != 1)=true:=bne_iff_ne.mpr c2
  obtain rfl:=Zk H
  go_enter Tryz.func104,Tryz.ntmps104
  go_wp2
  go_ret
  exact⟨by first|rfl|(simp;done)|(simp[*];done),by repeat(first|exact Zv _|apply Zw)⟩
def impl_hasExpr.f (a0:Int):Option (Bool):=if a0=1 then (some true) else (if a0=3 then (some true) else (some (a0==4)))
set_option maxHeartbeats 8000000 in
set_option maxRecDepth 100000 in
theorem impl_hasExpr.calls (a0:Int) (r:Bool) (w:World) (h:impl_hasExpr.f a0=some r):
  Calls Tryz.prog 105 #[.int .i64 a0] w fun e w'=>e= .returned (.bool r)∧Drawn0 w w':=by
 have H:(if a0=1 then (some true) else (if a0=3 then (some true) else (some (a0==4))))=some r:=h
 clear h
 by_cases c2:a0=1
 ·rw[if_pos c2] at H
  have c2b0:(a0==1)=true:=beq_iff_eq.mpr c2
  have c2b1:(a0 != 1)=false:=bne_eq_false_iff_eq.mpr c2
  clear c2
  obtain rfl:=Zk H
  go_enter Tryz.func105,Tryz.ntmps105
  go_wp2
  go_ret
  exact⟨by first|rfl|(simp;done)|(simp[*];done),by repeat(first|exact Zv _|apply Zw)⟩
 ·rw[if_neg c2] at H
  have c2b0:(a0==1)=false:=beq_eq_false_iff_ne.mpr c2
  have c2b1:(a0 != 1)=true:=bne_iff_ne.mpr c2
  by_cases c3:a0=3
  ·rw[if_pos c3] at H
   have c3b0:(a0==3)=true:=beq_iff_eq.mpr c3
   have c3b1:(a0 != 3)=false:=bne_eq_false_iff_eq.mpr c3
   clear c3
   obtain rfl:=Zk H
   go_enter Tryz.func105,Tryz.ntmps105
   go_wp2
   go_ret
   exact⟨by first|rfl|(simp;done)|(simp[*];done),by repeat(first|exact Zv _|apply Zw)⟩
  ·rw[if_neg c3] at H
   have c3b0:(a0==3)=false:=beq_eq_false_iff_ne.mpr c3
   have c3b1:(a0 != 3)=true:=bne_iff_ne.mpr c3
   obtain rfl:=Zk H
   go_enter Tryz.func105,Tryz.ntmps105
   go_wp2
   go_ret
   exact⟨by first|rfl|(simp;done)|(simp[*];done),by repeat(first|exact Zv _|apply Zw)⟩
/-! ### impl_StmtOk: function 80 -/
mutual
def impl_StmtOk.j0:Nat→Bool→Int→Int→Int→Int→Int→Int→Option (Bool)
 |0,_,_,_,_,_,_,_=>none
 |k+1,x28,x398000,x398001,x398002,x398003,x398004,x398005=>if x28=true then (some false) else ((impl_hasExpr.f x398000).bind fun t403=>(if t403=true then ((impl_ExprOk.f x398003 x398004 x398005).bind fun t404=>(if t404=true then ((impl_hasExpr.f x398000).bind fun t405=>(if t405=true then (impl_StmtOk.j1 k false x398000 x398001 x398002 x398003 x398004 x398005) else (impl_StmtOk.j1 k (!(x398003==0)||(!(x398004==0)||(!(x398005==0)))) x398000 x398001 x398002 x398003 x398004 x398005))) else (impl_StmtOk.j1 k true x398000 x398001 x398002 x398003 x398004 x398005))) else ((impl_hasExpr.f x398000).bind fun t406=>(if t406=true then (impl_StmtOk.j1 k false x398000 x398001 x398002 x398003 x398004 x398005) else (impl_StmtOk.j1 k (!(x398003==0)||(!(x398004==0)||(!(x398005==0)))) x398000 x398001 x398002 x398003 x398004 x398005)))))
def impl_StmtOk.j1:Nat→Bool→Int→Int→Int→Int→Int→Int→Option (Bool)
 |0,_,_,_,_,_,_,_=>none
 |k+1,x49,x398000,x398001,x398002,x398003,x398004,x398005=>if x49=true then (some false) else (if x398000=2 then ((impl_isSensor.f x398002).bind fun t407=>(some t407)) else (if x398000=5 then ((impl_within.f x398002 1 5).bind fun t408=>(some t408)) else (some (x398002==0))))
end
def impl_StmtOk.f (k:Nat) (a0_0:Int) (a0_1:Int) (a0_2:Int) (a0_3:Int) (a0_4:Int) (a0_5:Int):Option (Bool):=(impl_within.f a0_0 1 6).bind fun t398=>(if t398=true then ((impl_hasVar.f a0_0).bind fun t399=>(if t399=true then ((impl_isVar.f a0_1).bind fun t400=>(if t400=true then ((impl_hasVar.f a0_0).bind fun t401=>(if t401=true then (impl_StmtOk.j0 k false a0_0 a0_1 a0_2 a0_3 a0_4 a0_5) else (impl_StmtOk.j0 k (a0_1 != 0) a0_0 a0_1 a0_2 a0_3 a0_4 a0_5))) else (impl_StmtOk.j0 k true a0_0 a0_1 a0_2 a0_3 a0_4 a0_5))) else ((impl_hasVar.f a0_0).bind fun t402=>(if t402=true then (impl_StmtOk.j0 k false a0_0 a0_1 a0_2 a0_3 a0_4 a0_5) else (impl_StmtOk.j0 k (a0_1 != 0) a0_0 a0_1 a0_2 a0_3 a0_4 a0_5))))) else (impl_StmtOk.j0 k true a0_0 a0_1 a0_2 a0_3 a0_4 a0_5))
theorem impl_StmtOk.mono_l:∀k,(∀y0 y1 y2 y3 y4 y5 y6,LeO (impl_StmtOk.j0 k y0 y1 y2 y3 y4 y5 y6) (impl_StmtOk.j0 (k+1) y0 y1 y2 y3 y4 y5 y6))∧(∀y0 y1 y2 y3 y4 y5 y6,LeO (impl_StmtOk.j1 k y0 y1 y2 y3 y4 y5 y6) (impl_StmtOk.j1 (k+1) y0 y1 y2 y3 y4 y5 y6))
 |0=>⟨fun _ _ _ _ _ _ _ r h=>by simp[impl_StmtOk.j0] at h,fun _ _ _ _ _ _ _ r h=>by simp[impl_StmtOk.j1] at h⟩
 |k+1=>by
  obtain⟨ih0,ih1⟩:=impl_StmtOk.mono_l k
  refine⟨?_,?_⟩
  ·intro y0 y1 y2 y3 y4 y5 y6
   unfold impl_StmtOk.j0
   repeat' first
   |(with_reducible exact ih0 _ _ _ _ _ _ _)
   |(with_reducible exact ih1 _ _ _ _ _ _ _)
   |(with_reducible exact Yn _)
   |(with_reducible exact Zz _)
   |(with_reducible refine Zu ?_ ?_)
   |(with_reducible refine Zt ?_ (fun _=> ?_))
   |exact ih0 _ _ _ _ _ _ _
   |exact ih1 _ _ _ _ _ _ _
   |exact Zz _
   |refine Zu ?_ ?_
   |refine Zt ?_ (fun _=> ?_)
  ·intro y0 y1 y2 y3 y4 y5 y6
   unfold impl_StmtOk.j1
   repeat' first
   |(with_reducible exact ih0 _ _ _ _ _ _ _)
   |(with_reducible exact ih1 _ _ _ _ _ _ _)
   |(with_reducible exact Yn _)
   |(with_reducible exact Zz _)
   |(with_reducible refine Zu ?_ ?_)
   |(with_reducible refine Zt ?_ (fun _=> ?_))
   |exact ih0 _ _ _ _ _ _ _
   |exact ih1 _ _ _ _ _ _ _
   |exact Zz _
   |refine Zu ?_ ?_
   |refine Zt ?_ (fun _=> ?_)
theorem impl_StmtOk.mono:∀a0 a1 a2 a3 a4 a5 k,LeO (impl_StmtOk.f k a0 a1 a2 a3 a4 a5) (impl_StmtOk.f (k+1) a0 a1 a2 a3 a4 a5):=by
 intro a0 a1 a2 a3 a4 a5 k
 obtain⟨ih0,ih1⟩:=impl_StmtOk.mono_l k
 unfold impl_StmtOk.f
 repeat' first
   |(with_reducible exact ih0 _ _ _ _ _ _ _)
   |(with_reducible exact ih1 _ _ _ _ _ _ _)
   |(with_reducible exact Yn _)
   |(with_reducible exact Zz _)
   |(with_reducible refine Zu ?_ ?_)
   |(with_reducible refine Zt ?_ (fun _=> ?_))
   |exact ih0 _ _ _ _ _ _ _
   |exact ih1 _ _ _ _ _ _ _
   |exact Zz _
   |refine Zu ?_ ?_
   |refine Zt ?_ (fun _=> ?_)
set_option maxHeartbeats 8000000 in
set_option maxRecDepth 100000 in
theorem impl_StmtOk.calls (k:Nat) (a0_0:Int) (a0_1:Int) (a0_2:Int) (a0_3:Int) (a0_4:Int) (a0_5:Int) (r:Bool) (w:World) (h:impl_StmtOk.f k a0_0 a0_1 a0_2 a0_3 a0_4 a0_5=some r):
  Calls Tryz.prog 80 #[.agg #[.int .i64 a0_0,.int .i64 a0_1,.int .i64 a0_2,.int .i64 a0_3,.int .i64 a0_4,.int .i64 a0_5]] w fun e w'=>e= .returned (.bool r)∧Below w.heap.size w w':=by
 have hu92:=Tryz.underlying92
 have hu72:=Tryz.underlying72
 have HB:=Za (Zx w.heap.size w)
 have H:((impl_within.f a0_0 1 6).bind fun t398=>(if t398=true then ((impl_hasVar.f a0_0).bind fun t399=>(if t399=true then ((impl_isVar.f a0_1).bind fun t400=>(if t400=true then ((impl_hasVar.f a0_0).bind fun t401=>(if t401=true then (impl_StmtOk.j0 k false a0_0 a0_1 a0_2 a0_3 a0_4 a0_5) else (impl_StmtOk.j0 k (a0_1 != 0) a0_0 a0_1 a0_2 a0_3 a0_4 a0_5))) else (impl_StmtOk.j0 k true a0_0 a0_1 a0_2 a0_3 a0_4 a0_5))) else ((impl_hasVar.f a0_0).bind fun t402=>(if t402=true then (impl_StmtOk.j0 k false a0_0 a0_1 a0_2 a0_3 a0_4 a0_5) else (impl_StmtOk.j0 k (a0_1 != 0) a0_0 a0_1 a0_2 a0_3 a0_4 a0_5))))) else (impl_StmtOk.j0 k true a0_0 a0_1 a0_2 a0_3 a0_4 a0_5)))=some r:=h
 clear h
 have HC2:=Za H
 clear H
 go_enter Tryz.func80,Tryz.ntmps80
 go_upto_region 1 with(first|((with_reducible refine Zp (N:=1) rfl ?_);refine Zr ?hg (N:=1) ?hd (cs:= #[.int .i64 a0_0,.int .i64 a0_1,.int .i64 a0_2,.int .i64 a0_3,.int .i64 a0_4,.int .i64 a0_5]) (t:=92) ?hr ?_;(case hd=>rfl);(case hg=>rfl);(case hr=>exact z4_6);intro gb397 hg w3 hbox hb;have BK397:=Za (hbox);have GW397:=Za ((z4_8:w.heap.size≤gb397));have GE397:=Za ((z4_8:w.heap.size≤gb397));replace HB:=Za (Zj z4_0 hb);clear hb hbox hg))
 (try simp only[Act.put,Zy,Ya,Yb])
 go_cut [28] (fun v28 wc=>∃(kq:Nat) (x28_1:Bool),v28= .bool x28_1∧Aside0 (impl_StmtOk.j0 kq x28_1 a0_0 a0_1 a0_2 a0_3 a0_4 a0_5=some r)∧Aside0 (kq≤k)∧Aside0 (wc.heap[gb397]? =some (.cells #[.int .i64 a0_0,.int .i64 a0_1,.int .i64 a0_2,.int .i64 a0_3,.int .i64 a0_4,.int .i64 a0_5] 92 (0,0)))∧Aside0 (Below w.heap.size w wc))
 case first=>
  have H:=HC2.out
  clear HC2
  replace H:=Zg H
  obtain⟨t398,A40,H⟩:=H
  replace H:(if t398=true then ((impl_hasVar.f a0_0).bind fun t399=>(if t399=true then ((impl_isVar.f a0_1).bind fun t400=>(if t400=true then ((impl_hasVar.f a0_0).bind fun t401=>(if t401=true then (impl_StmtOk.j0 k false a0_0 a0_1 a0_2 a0_3 a0_4 a0_5) else (impl_StmtOk.j0 k (a0_1 != 0) a0_0 a0_1 a0_2 a0_3 a0_4 a0_5))) else (impl_StmtOk.j0 k true a0_0 a0_1 a0_2 a0_3 a0_4 a0_5))) else ((impl_hasVar.f a0_0).bind fun t402=>(if t402=true then (impl_StmtOk.j0 k false a0_0 a0_1 a0_2 a0_3 a0_4 a0_5) else (impl_StmtOk.j0 k (a0_1 != 0) a0_0 a0_1 a0_2 a0_3 a0_4 a0_5))))) else (impl_StmtOk.j0 k true a0_0 a0_1 a0_2 a0_3 a0_4 a0_5))=some r:=H
  have A4:=Za A40
  clear A40
  by_cases c5:t398=true
  ·subst c5
   rw[if_pos rfl] at H
   replace H:=Zg H
   obtain⟨t399,A60,H⟩:=H
   replace H:(if t399=true then ((impl_isVar.f a0_1).bind fun t400=>(if t400=true then ((impl_hasVar.f a0_0).bind fun t401=>(if t401=true then (impl_StmtOk.j0 k false a0_0 a0_1 a0_2 a0_3 a0_4 a0_5) else (impl_StmtOk.j0 k (a0_1 != 0) a0_0 a0_1 a0_2 a0_3 a0_4 a0_5))) else (impl_StmtOk.j0 k true a0_0 a0_1 a0_2 a0_3 a0_4 a0_5))) else ((impl_hasVar.f a0_0).bind fun t402=>(if t402=true then (impl_StmtOk.j0 k false a0_0 a0_1 a0_2 a0_3 a0_4 a0_5) else (impl_StmtOk.j0 k (a0_1 != 0) a0_0 a0_1 a0_2 a0_3 a0_4 a0_5))))=some r:=H
   have A6:=Za A60
   clear A60
   by_cases c7:t399=true
   ·subst c7
    rw[if_pos rfl] at H
    replace H:=Zg H
    obtain⟨t400,A80,H⟩:=H
    replace H:(if t400=true then ((impl_hasVar.f a0_0).bind fun t401=>(if t401=true then (impl_StmtOk.j0 k false a0_0 a0_1 a0_2 a0_3 a0_4 a0_5) else (impl_StmtOk.j0 k (a0_1 != 0) a0_0 a0_1 a0_2 a0_3 a0_4 a0_5))) else (impl_StmtOk.j0 k true a0_0 a0_1 a0_2 a0_3 a0_4 a0_5))=some r:=H
    have A8:=Za A80
    clear A80
    by_cases c9:t400=true
    ·subst c9
     rw[if_pos rfl] at H
     replace H:=Zg H
     obtain⟨t401,A100,H⟩:=H
     replace H:(if t401=true then (impl_StmtOk.j0 k false a0_0 a0_1 a0_2 a0_3 a0_4 a0_5) else (impl_StmtOk.j0 k (a0_1 != 0) a0_0 a0_1 a0_2 a0_3 a0_4 a0_5))=some r:=H
     have A10:=Za A100
     clear A100
     by_cases c11:t401=true
     ·subst c11
      rw[if_pos rfl] at H
      have H':=Za H
      clear H
      have hcz12_0:w3.cell? ⟨gb397,0,none⟩=some (.int .i64 a0_0):=(Zb BK397.out 0).trans rfl
      have hcz12_1:w3.cell? ⟨gb397,1,none⟩=some (.int .i64 a0_1):=(Zb BK397.out 1).trans rfl
      have hcz12_2:w3.cell? ⟨gb397,2,none⟩=some (.int .i64 a0_2):=(Zb BK397.out 2).trans rfl
      have hcz12_3:w3.cell? ⟨gb397,3,none⟩=some (.int .i64 a0_3):=(Zb BK397.out 3).trans rfl
      have hcz12_4:w3.cell? ⟨gb397,4,none⟩=some (.int .i64 a0_4):=(Zb BK397.out 4).trans rfl
      have hcz12_5:w3.cell? ⟨gb397,5,none⟩=some (.int .i64 a0_5):=(Zb BK397.out 5).trans rfl
      have hfz12_0:=Zc BK397.out 0
      have hfz12_1:=Zc BK397.out 1
      have hfz12_2:=Zc BK397.out 2
      have hfz12_3:=Zc BK397.out 3
      have hfz12_4:=Zc BK397.out 4
      have hfz12_5:=Zc BK397.out 5
      go_wp2_with (first|((first|((with_reducible refine gate_callee (f:=30) rfl ?_);refine goesL_ (some 5) rfl rfl Tryz.func30 (by kernel_rfl) rfl #[.int .i64 a0_0,.int .i64 1,.int .i64 6] rfl z4_1 ?_;(with_reducible refine(impl_within.calls a0_0 1 6 true _ A4.out).mono ?_))|(go_at_call 30;(with_reducible refine(impl_within.calls a0_0 1 6 true _ A4.out).mono ?_)));rintro e w' ⟨rfl,⟨nd,rfl⟩⟩;(first|refine⟨_,rfl,?_⟩|skip))|(go_at_call 104;(with_reducible refine(impl_hasVar.calls a0_0 true _ A6.out).mono ?_);rintro e w' ⟨rfl,⟨nd,rfl⟩⟩)|(go_at_call 46;(with_reducible refine(impl_isVar.calls a0_1 true _ A8.out).mono ?_);rintro e w' ⟨rfl,⟨nd,rfl⟩⟩)|(go_at_call 104;(with_reducible refine(impl_hasVar.calls a0_0 true _ A10.out).mono ?_);rintro e w' ⟨rfl,⟨nd,rfl⟩⟩))
      go_meet
      case rel=>exact⟨_,(false),z4_3,H',⟨by first|omega|exact Nat.le_refl _⟩,⟨by(with_reducible repeat(first|refine blk_drewN ?_ _|refine blk_drew ?_|refine blk_alloc ?_ _));exact BK397.out⟩,⟨by repeat(first|(with_reducible first|exact HB.out|apply Zh|apply Zf|apply Ze|refine Zd ?_ GE397.out)|exact HB.out)⟩⟩
     ·replace c11:=Bool.eq_false_iff.mpr c11
      subst c11
      rw[if_neg (show ¬(false=true) by decide)] at H
      exact absurd (A6.out.symm.trans A10.out) (by simp)
    ·replace c9:=Bool.eq_false_iff.mpr c9
     subst c9
     rw[if_neg (show ¬(false=true) by decide)] at H
     have H':=Za H
     clear H
     have hcz13_0:w3.cell? ⟨gb397,0,none⟩=some (.int .i64 a0_0):=(Zb BK397.out 0).trans rfl
     have hcz13_1:w3.cell? ⟨gb397,1,none⟩=some (.int .i64 a0_1):=(Zb BK397.out 1).trans rfl
     have hcz13_2:w3.cell? ⟨gb397,2,none⟩=some (.int .i64 a0_2):=(Zb BK397.out 2).trans rfl
     have hcz13_3:w3.cell? ⟨gb397,3,none⟩=some (.int .i64 a0_3):=(Zb BK397.out 3).trans rfl
     have hcz13_4:w3.cell? ⟨gb397,4,none⟩=some (.int .i64 a0_4):=(Zb BK397.out 4).trans rfl
     have hcz13_5:w3.cell? ⟨gb397,5,none⟩=some (.int .i64 a0_5):=(Zb BK397.out 5).trans rfl
     have hfz13_0:=Zc BK397.out 0
     have hfz13_1:=Zc BK397.out 1
     have hfz13_2:=Zc BK397.out 2
     have hfz13_3:=Zc BK397.out 3
     have hfz13_4:=Zc BK397.out 4
     have hfz13_5:=Zc BK397.out 5
     go_wp2_with (first|((first|((with_reducible refine gate_callee (f:=30) rfl ?_);refine goesL_ (some 5) rfl rfl Tryz.func30 (by kernel_rfl) rfl #[.int .i64 a0_0,.int .i64 1,.int .i64 6] rfl z4_1 ?_;(with_reducible refine(impl_within.calls a0_0 1 6 true _ A4.out).mono ?_))|(go_at_call 30;(with_reducible refine(impl_within.calls a0_0 1 6 true _ A4.out).mono ?_)));rintro e w' ⟨rfl,⟨nd,rfl⟩⟩;(first|refine⟨_,rfl,?_⟩|skip))|(go_at_call 104;(with_reducible refine(impl_hasVar.calls a0_0 true _ A6.out).mono ?_);rintro e w' ⟨rfl,⟨nd,rfl⟩⟩)|(go_at_call 46;(with_reducible refine(impl_isVar.calls a0_1 false _ A8.out).mono ?_);rintro e w' ⟨rfl,⟨nd,rfl⟩⟩))
     go_meet
     case rel=>exact⟨_,(true),z4_3,H',⟨by first|omega|exact Nat.le_refl _⟩,⟨by(with_reducible repeat(first|refine blk_drewN ?_ _|refine blk_drew ?_|refine blk_alloc ?_ _));exact BK397.out⟩,⟨by repeat(first|(with_reducible first|exact HB.out|apply Zh|apply Zf|apply Ze|refine Zd ?_ GE397.out)|exact HB.out)⟩⟩
   ·replace c7:=Bool.eq_false_iff.mpr c7
    subst c7
    rw[if_neg (show ¬(false=true) by decide)] at H
    replace H:=Zg H
    obtain⟨t402,A140,H⟩:=H
    replace H:(if t402=true then (impl_StmtOk.j0 k false a0_0 a0_1 a0_2 a0_3 a0_4 a0_5) else (impl_StmtOk.j0 k (a0_1 != 0) a0_0 a0_1 a0_2 a0_3 a0_4 a0_5))=some r:=H
    have A14:=Za A140
    clear A140
    by_cases c15:t402=true
    ·subst c15
     rw[if_pos rfl] at H
     exact absurd (A6.out.symm.trans A14.out) (by simp)
    ·replace c15:=Bool.eq_false_iff.mpr c15
     subst c15
     rw[if_neg (show ¬(false=true) by decide)] at H
     have H':=Za H
     clear H
     have hcz16_0:w3.cell? ⟨gb397,0,none⟩=some (.int .i64 a0_0):=(Zb BK397.out 0).trans rfl
     have hcz16_1:w3.cell? ⟨gb397,1,none⟩=some (.int .i64 a0_1):=(Zb BK397.out 1).trans rfl
     have hcz16_2:w3.cell? ⟨gb397,2,none⟩=some (.int .i64 a0_2):=(Zb BK397.out 2).trans rfl
     have hcz16_3:w3.cell? ⟨gb397,3,none⟩=some (.int .i64 a0_3):=(Zb BK397.out 3).trans rfl
     have hcz16_4:w3.cell? ⟨gb397,4,none⟩=some (.int .i64 a0_4):=(Zb BK397.out 4).trans rfl
     have hcz16_5:w3.cell? ⟨gb397,5,none⟩=some (.int .i64 a0_5):=(Zb BK397.out 5).trans rfl
     have hfz16_0:=Zc BK397.out 0
     have hfz16_1:=Zc BK397.out 1
     have hfz16_2:=Zc BK397.out 2
     have hfz16_3:=Zc BK397.out 3
     have hfz16_4:=Zc BK397.out 4
     have hfz16_5:=Zc BK397.out 5
     go_wp2_with (first|((first|((with_reducible refine gate_callee (f:=30) rfl ?_);refine goesL_ (some 5) rfl rfl Tryz.func30 (by kernel_rfl) rfl #[.int .i64 a0_0,.int .i64 1,.int .i64 6] rfl z4_1 ?_;(with_reducible refine(impl_within.calls a0_0 1 6 true _ A4.out).mono ?_))|(go_at_call 30;(with_reducible refine(impl_within.calls a0_0 1 6 true _ A4.out).mono ?_)));rintro e w' ⟨rfl,⟨nd,rfl⟩⟩;(first|refine⟨_,rfl,?_⟩|skip))|(go_at_call 104;(with_reducible refine(impl_hasVar.calls a0_0 false _ A6.out).mono ?_);rintro e w' ⟨rfl,⟨nd,rfl⟩⟩)|(go_at_call 104;(with_reducible refine(impl_hasVar.calls a0_0 false _ A14.out).mono ?_);rintro e w' ⟨rfl,⟨nd,rfl⟩⟩))
     go_meet
     case rel=>exact⟨_,((a0_1 != 0)),z4_3,H',⟨by first|omega|exact Nat.le_refl _⟩,⟨by(with_reducible repeat(first|refine blk_drewN ?_ _|refine blk_drew ?_|refine blk_alloc ?_ _));exact BK397.out⟩,⟨by repeat(first|(with_reducible first|exact HB.out|apply Zh|apply Zf|apply Ze|refine Zd ?_ GE397.out)|exact HB.out)⟩⟩
  ·replace c5:=Bool.eq_false_iff.mpr c5
   subst c5
   rw[if_neg (show ¬(false=true) by decide)] at H
   have H':=Za H
   clear H
   have hcz17_0:w3.cell? ⟨gb397,0,none⟩=some (.int .i64 a0_0):=(Zb BK397.out 0).trans rfl
   have hcz17_1:w3.cell? ⟨gb397,1,none⟩=some (.int .i64 a0_1):=(Zb BK397.out 1).trans rfl
   have hcz17_2:w3.cell? ⟨gb397,2,none⟩=some (.int .i64 a0_2):=(Zb BK397.out 2).trans rfl
   have hcz17_3:w3.cell? ⟨gb397,3,none⟩=some (.int .i64 a0_3):=(Zb BK397.out 3).trans rfl
   have hcz17_4:w3.cell? ⟨gb397,4,none⟩=some (.int .i64 a0_4):=(Zb BK397.out 4).trans rfl
   have hcz17_5:w3.cell? ⟨gb397,5,none⟩=some (.int .i64 a0_5):=(Zb BK397.out 5).trans rfl
   have hfz17_0:=Zc BK397.out 0
   have hfz17_1:=Zc BK397.out 1
   have hfz17_2:=Zc BK397.out 2
   have hfz17_3:=Zc BK397.out 3
   have hfz17_4:=Zc BK397.out 4
   have hfz17_5:=Zc BK397.out 5
   go_wp2_with (first|((first|((with_reducible refine gate_callee (f:=30) rfl ?_);refine goesL_ (some 5) rfl rfl Tryz.func30 (by kernel_rfl) rfl #[.int .i64 a0_0,.int .i64 1,.int .i64 6] rfl z4_1 ?_;(with_reducible refine(impl_within.calls a0_0 1 6 false _ A4.out).mono ?_))|(go_at_call 30;(with_reducible refine(impl_within.calls a0_0 1 6 false _ A4.out).mono ?_)));rintro e w' ⟨rfl,⟨nd,rfl⟩⟩;(first|refine⟨_,rfl,?_⟩|skip)))
   go_meet
   case rel=>exact⟨_,(true),z4_3,H',⟨by first|omega|exact Nat.le_refl _⟩,⟨by(with_reducible repeat(first|refine blk_drewN ?_ _|refine blk_drew ?_|refine blk_alloc ?_ _));exact BK397.out⟩,⟨by repeat(first|(with_reducible first|exact HB.out|apply Zh|apply Zf|apply Ze|refine Zd ?_ GE397.out)|exact HB.out)⟩⟩
 case rest=>
  clear HC2
  obtain⟨kq,x28_1,rfl,HA,HJ1,BK397,HB⟩:=hcut
  cases kq with
  |zero=>exact absurd HA.out (by simp[impl_StmtOk.j0])
  |succ kj1=>
   have H:=HA.out
   clear HA
   simp only[impl_StmtOk.j0] at H
   by_cases c18:x28_1=true
   ·subst c18
    rw[if_pos rfl] at H
    obtain rfl:=Zk H
    go_wp2
    go_ret
    exact⟨by first|rfl|(simp[errW_none,errW_some]<;>rfl)|(simp[*,errW_none,errW_some]<;>rfl)|(simp[*,errW_none,errW_some,i64_w];done),by repeat(first|(with_reducible first|exact HB.out|apply Zh|apply Zf|apply Ze|refine Zd ?_ GE397.out)|exact HB.out)⟩
   ·replace c18:=Bool.eq_false_iff.mpr c18
    subst c18
    rw[if_neg (show ¬(false=true) by decide)] at H
    have HC19:=Za H
    clear H
    go_upto_region 3 with(fail)
    go_cut [49] (fun v49 wc=>∃(kq:Nat) (x49_18:Bool),v49= .bool x49_18∧Aside0 (impl_StmtOk.j1 kq x49_18 a0_0 a0_1 a0_2 a0_3 a0_4 a0_5=some r)∧Aside0 (kq≤kj1)∧Aside0 (wc.heap[gb397]? =some (.cells #[.int .i64 a0_0,.int .i64 a0_1,.int .i64 a0_2,.int .i64 a0_3,.int .i64 a0_4,.int .i64 a0_5] 92 (0,0)))∧Aside0 (Below w.heap.size w wc))
    case first=>
     have H:=HC19.out
     clear HC19
     replace H:=Zg H
     obtain⟨t403,A200,H⟩:=H
     replace H:(if t403=true then ((impl_ExprOk.f a0_3 a0_4 a0_5).bind fun t404=>(if t404=true then ((impl_hasExpr.f a0_0).bind fun t405=>(if t405=true then (impl_StmtOk.j1 kj1 false a0_0 a0_1 a0_2 a0_3 a0_4 a0_5) else (impl_StmtOk.j1 kj1 (!(a0_3==0)||(!(a0_4==0)||(!(a0_5==0)))) a0_0 a0_1 a0_2 a0_3 a0_4 a0_5))) else (impl_StmtOk.j1 kj1 true a0_0 a0_1 a0_2 a0_3 a0_4 a0_5))) else ((impl_hasExpr.f a0_0).bind fun t406=>(if t406=true then (impl_StmtOk.j1 kj1 false a0_0 a0_1 a0_2 a0_3 a0_4 a0_5) else (impl_StmtOk.j1 kj1 (!(a0_3==0)||(!(a0_4==0)||(!(a0_5==0)))) a0_0 a0_1 a0_2 a0_3 a0_4 a0_5))))=some r:=H
     have A20:=Za A200
     clear A200
     by_cases c21:t403=true
     ·subst c21
      rw[if_pos rfl] at H
      replace H:=Zg H
      obtain⟨t404,A220,H⟩:=H
      replace H:(if t404=true then ((impl_hasExpr.f a0_0).bind fun t405=>(if t405=true then (impl_StmtOk.j1 kj1 false a0_0 a0_1 a0_2 a0_3 a0_4 a0_5) else (impl_StmtOk.j1 kj1 (!(a0_3==0)||(!(a0_4==0)||(!(a0_5==0)))) a0_0 a0_1 a0_2 a0_3 a0_4 a0_5))) else (impl_StmtOk.j1 kj1 true a0_0 a0_1 a0_2 a0_3 a0_4 a0_5))=some r:=H
      have A22:=Za A220
      clear A220
      by_cases c23:t404=true
      ·subst c23
       rw[if_pos rfl] at H
       replace H:=Zg H
       obtain⟨t405,A240,H⟩:=H
       replace H:(if t405=true then (impl_StmtOk.j1 kj1 false a0_0 a0_1 a0_2 a0_3 a0_4 a0_5) else (impl_StmtOk.j1 kj1 (!(a0_3==0)||(!(a0_4==0)||(!(a0_5==0)))) a0_0 a0_1 a0_2 a0_3 a0_4 a0_5))=some r:=H
       have A24:=Za A240
       clear A240
       by_cases c25:t405=true
       ·subst c25
        rw[if_pos rfl] at H
        have H':=Za H
        clear H
        have hcz26_0:wc.cell? ⟨gb397,0,none⟩=some (.int .i64 a0_0):=(Zb BK397.out 0).trans rfl
        have hcz26_1:wc.cell? ⟨gb397,1,none⟩=some (.int .i64 a0_1):=(Zb BK397.out 1).trans rfl
        have hcz26_2:wc.cell? ⟨gb397,2,none⟩=some (.int .i64 a0_2):=(Zb BK397.out 2).trans rfl
        have hcz26_3:wc.cell? ⟨gb397,3,none⟩=some (.int .i64 a0_3):=(Zb BK397.out 3).trans rfl
        have hcz26_4:wc.cell? ⟨gb397,4,none⟩=some (.int .i64 a0_4):=(Zb BK397.out 4).trans rfl
        have hcz26_5:wc.cell? ⟨gb397,5,none⟩=some (.int .i64 a0_5):=(Zb BK397.out 5).trans rfl
        have hfz26_0:=Zc BK397.out 0
        have hfz26_1:=Zc BK397.out 1
        have hfz26_2:=Zc BK397.out 2
        have hfz26_3:=Zc BK397.out 3
        have hfz26_4:=Zc BK397.out 4
        have hfz26_5:=Zc BK397.out 5
        go_wp2_with (first|((first|((with_reducible refine gate_callee (f:=105) rfl ?_);refine goesL_ (some 31) rfl rfl Tryz.func105 (by kernel_rfl) rfl #[.int .i64 a0_0] rfl z4_1 ?_;(with_reducible refine(impl_hasExpr.calls a0_0 true _ A20.out).mono ?_))|(go_at_call 105;(with_reducible refine(impl_hasExpr.calls a0_0 true _ A20.out).mono ?_)));rintro e w' ⟨rfl,⟨nd,rfl⟩⟩;(first|refine⟨_,rfl,?_⟩|skip))|(go_at_call 82;(with_reducible refine(impl_ExprOk.calls a0_3 a0_4 a0_5 true _ A22.out).mono ?_);rintro e w27 ⟨rfl,hb⟩;replace BK397:=Za (Zi (g:=gb397) (o:= .cells #[.int .i64 a0_0,.int .i64 a0_1,.int .i64 a0_2,.int .i64 a0_3,.int .i64 a0_4,.int .i64 a0_5] 92 (0,0)) (by(with_reducible repeat(first|refine blk_drewN ?_ _|refine blk_drew ?_|refine blk_alloc ?_ _));exact BK397.out) hb);replace HB:=Za (Zj (by repeat(first|(with_reducible first|exact HB.out|apply Zh|apply Zf|apply Ze|refine Zd ?_ GE397.out)|exact HB.out)) hb);(try clear hb);(try clear hb2);(try clear hk);(try clear hi);have hcz28_0:w27.cell? ⟨gb397,0,none⟩=some (.int .i64 a0_0):=(Zb BK397.out 0).trans rfl;have hcz28_1:w27.cell? ⟨gb397,1,none⟩=some (.int .i64 a0_1):=(Zb BK397.out 1).trans rfl;have hcz28_2:w27.cell? ⟨gb397,2,none⟩=some (.int .i64 a0_2):=(Zb BK397.out 2).trans rfl;have hcz28_3:w27.cell? ⟨gb397,3,none⟩=some (.int .i64 a0_3):=(Zb BK397.out 3).trans rfl;have hcz28_4:w27.cell? ⟨gb397,4,none⟩=some (.int .i64 a0_4):=(Zb BK397.out 4).trans rfl;have hcz28_5:w27.cell? ⟨gb397,5,none⟩=some (.int .i64 a0_5):=(Zb BK397.out 5).trans rfl;have hfz28_0:=Zc BK397.out 0;have hfz28_1:=Zc BK397.out 1;have hfz28_2:=Zc BK397.out 2;have hfz28_3:=Zc BK397.out 3;have hfz28_4:=Zc BK397.out 4;have hfz28_5:=Zc BK397.out 5)|(go_at_call 105;(with_reducible refine(impl_hasExpr.calls a0_0 true _ A24.out).mono ?_);rintro e w' ⟨rfl,⟨nd,rfl⟩⟩))
        go_meet
        case rel=>exact⟨_,(false),z4_3,H',⟨by have:=HJ1.out;first|omega|exact Nat.le_refl _⟩,⟨by(with_reducible repeat(first|refine blk_drewN ?_ _|refine blk_drew ?_|refine blk_alloc ?_ _));exact BK397.out⟩,⟨by repeat(first|(with_reducible first|exact HB.out|apply Zh|apply Zf|apply Ze|refine Zd ?_ GE397.out)|exact HB.out)⟩⟩
       ·replace c25:=Bool.eq_false_iff.mpr c25
        subst c25
        rw[if_neg (show ¬(false=true) by decide)] at H
        exact absurd (A20.out.symm.trans A24.out) (by simp)
      ·replace c23:=Bool.eq_false_iff.mpr c23
       subst c23
       rw[if_neg (show ¬(false=true) by decide)] at H
       have H':=Za H
       clear H
       have hcz29_0:wc.cell? ⟨gb397,0,none⟩=some (.int .i64 a0_0):=(Zb BK397.out 0).trans rfl
       have hcz29_1:wc.cell? ⟨gb397,1,none⟩=some (.int .i64 a0_1):=(Zb BK397.out 1).trans rfl
       have hcz29_2:wc.cell? ⟨gb397,2,none⟩=some (.int .i64 a0_2):=(Zb BK397.out 2).trans rfl
       have hcz29_3:wc.cell? ⟨gb397,3,none⟩=some (.int .i64 a0_3):=(Zb BK397.out 3).trans rfl
       have hcz29_4:wc.cell? ⟨gb397,4,none⟩=some (.int .i64 a0_4):=(Zb BK397.out 4).trans rfl
       have hcz29_5:wc.cell? ⟨gb397,5,none⟩=some (.int .i64 a0_5):=(Zb BK397.out 5).trans rfl
       have hfz29_0:=Zc BK397.out 0
       have hfz29_1:=Zc BK397.out 1
       have hfz29_2:=Zc BK397.out 2
       have hfz29_3:=Zc BK397.out 3
       have hfz29_4:=Zc BK397.out 4
       have hfz29_5:=Zc BK397.out 5
       go_wp2_with (first|((first|((with_reducible refine gate_callee (f:=105) rfl ?_);refine goesL_ (some 31) rfl rfl Tryz.func105 (by kernel_rfl) rfl #[.int .i64 a0_0] rfl z4_1 ?_;(with_reducible refine(impl_hasExpr.calls a0_0 true _ A20.out).mono ?_))|(go_at_call 105;(with_reducible refine(impl_hasExpr.calls a0_0 true _ A20.out).mono ?_)));rintro e w' ⟨rfl,⟨nd,rfl⟩⟩;(first|refine⟨_,rfl,?_⟩|skip))|(go_at_call 82;(with_reducible refine(impl_ExprOk.calls a0_3 a0_4 a0_5 false _ A22.out).mono ?_);rintro e w30 ⟨rfl,hb⟩;replace BK397:=Za (Zi (g:=gb397) (o:= .cells #[.int .i64 a0_0,.int .i64 a0_1,.int .i64 a0_2,.int .i64 a0_3,.int .i64 a0_4,.int .i64 a0_5] 92 (0,0)) (by(with_reducible repeat(first|refine blk_drewN ?_ _|refine blk_drew ?_|refine blk_alloc ?_ _));exact BK397.out) hb);replace HB:=Za (Zj (by repeat(first|(with_reducible first|exact HB.out|apply Zh|apply Zf|apply Ze|refine Zd ?_ GE397.out)|exact HB.out)) hb);(try clear hb);(try clear hb2);(try clear hk);(try clear hi)))
       go_meet
       case rel=>exact⟨_,(true),z4_3,H',⟨by have:=HJ1.out;first|omega|exact Nat.le_refl _⟩,⟨by(with_reducible repeat(first|refine blk_drewN ?_ _|refine blk_drew ?_|refine blk_alloc ?_ _));exact BK397.out⟩,⟨by repeat(first|(with_reducible first|exact HB.out|apply Zh|apply Zf|apply Ze|refine Zd ?_ GE397.out)|exact HB.out)⟩⟩
     ·replace c21:=Bool.eq_false_iff.mpr c21
      subst c21
      rw[if_neg (show ¬(false=true) by decide)] at H
      replace H:=Zg H
      obtain⟨t406,A310,H⟩:=H
      replace H:(if t406=true then (impl_StmtOk.j1 kj1 false a0_0 a0_1 a0_2 a0_3 a0_4 a0_5) else (impl_StmtOk.j1 kj1 (!(a0_3==0)||(!(a0_4==0)||(!(a0_5==0)))) a0_0 a0_1 a0_2 a0_3 a0_4 a0_5))=some r:=H
      have A31:=Za A310
      clear A310
      by_cases c32:t406=true
      ·subst c32
       rw[if_pos rfl] at H
       exact absurd (A20.out.symm.trans A31.out) (by simp)
      ·replace c32:=Bool.eq_false_iff.mpr c32
       subst c32
       rw[if_neg (show ¬(false=true) by decide)] at H
       have H':=Za H
       clear H
       have hcz33_0:wc.cell? ⟨gb397,0,none⟩=some (.int .i64 a0_0):=(Zb BK397.out 0).trans rfl
       have hcz33_1:wc.cell? ⟨gb397,1,none⟩=some (.int .i64 a0_1):=(Zb BK397.out 1).trans rfl
       have hcz33_2:wc.cell? ⟨gb397,2,none⟩=some (.int .i64 a0_2):=(Zb BK397.out 2).trans rfl
       have hcz33_3:wc.cell? ⟨gb397,3,none⟩=some (.int .i64 a0_3):=(Zb BK397.out 3).trans rfl
       have hcz33_4:wc.cell? ⟨gb397,4,none⟩=some (.int .i64 a0_4):=(Zb BK397.out 4).trans rfl
       have hcz33_5:wc.cell? ⟨gb397,5,none⟩=some (.int .i64 a0_5):=(Zb BK397.out 5).trans rfl
       have hfz33_0:=Zc BK397.out 0
       have hfz33_1:=Zc BK397.out 1
       have hfz33_2:=Zc BK397.out 2
       have hfz33_3:=Zc BK397.out 3
       have hfz33_4:=Zc BK397.out 4
       have hfz33_5:=Zc BK397.out 5
       go_wp2_with (first|((first|((with_reducible refine gate_callee (f:=105) rfl ?_);refine goesL_ (some 31) rfl rfl Tryz.func105 (by kernel_rfl) rfl #[.int .i64 a0_0] rfl z4_1 ?_;(with_reducible refine(impl_hasExpr.calls a0_0 false _ A20.out).mono ?_))|(go_at_call 105;(with_reducible refine(impl_hasExpr.calls a0_0 false _ A20.out).mono ?_)));rintro e w' ⟨rfl,⟨nd,rfl⟩⟩;(first|refine⟨_,rfl,?_⟩|skip))|(go_at_call 105;(with_reducible refine(impl_hasExpr.calls a0_0 false _ A31.out).mono ?_);rintro e w' ⟨rfl,⟨nd,rfl⟩⟩))
       go_meet
       case rel=>exact⟨_,((!(a0_3==0)||(!(a0_4==0)||(!(a0_5==0))))),z4_3,H',⟨by have:=HJ1.out;first|omega|exact Nat.le_refl _⟩,⟨by(with_reducible repeat(first|refine blk_drewN ?_ _|refine blk_drew ?_|refine blk_alloc ?_ _));exact BK397.out⟩,⟨by repeat(first|(with_reducible first|exact HB.out|apply Zh|apply Zf|apply Ze|refine Zd ?_ GE397.out)|exact HB.out)⟩⟩
    case rest=>
     clear HC19
     (try clear c18)
     obtain⟨kq,x49_18,rfl,HA,HJ18,BK397,HB⟩:=hcut
     cases kq with
     |zero=>exact absurd HA.out (by simp[impl_StmtOk.j1])
     |succ kj18=>
      have H:=HA.out
      clear HA
      simp only[impl_StmtOk.j1] at H
      by_cases c34:x49_18=true
      ·subst c34
       rw[if_pos rfl] at H
       obtain rfl:=Zk H
       go_wp2
       go_ret
       exact⟨by first|rfl|(simp[errW_none,errW_some]<;>rfl)|(simp[*,errW_none,errW_some]<;>rfl)|(simp[*,errW_none,errW_some,i64_w];done),by repeat(first|(with_reducible first|exact HB.out|apply Zh|apply Zf|apply Ze|refine Zd ?_ GE397.out)|exact HB.out)⟩
      ·replace c34:=Bool.eq_false_iff.mpr c34
       subst c34
       rw[if_neg (show ¬(false=true) by decide)] at H
       by_cases c35:a0_0=2
       ·rw[if_pos c35] at H
        have c35b0:(a0_0==2)=true:=beq_iff_eq.mpr c35
        have c35b1:(a0_0 != 2)=false:=bne_eq_false_iff_eq.mpr c35
        clear c35
        replace H:=Zg H
        obtain⟨t407,A360,H⟩:=H
        replace H:(some t407)=some r:=H
        have A36:=Za A360
        clear A360
        obtain rfl:=Zk H
        have hcz37_0:wc.cell? ⟨gb397,0,none⟩=some (.int .i64 a0_0):=(Zb BK397.out 0).trans rfl
        have hcz37_1:wc.cell? ⟨gb397,1,none⟩=some (.int .i64 a0_1):=(Zb BK397.out 1).trans rfl
        have hcz37_2:wc.cell? ⟨gb397,2,none⟩=some (.int .i64 a0_2):=(Zb BK397.out 2).trans rfl
        have hcz37_3:wc.cell? ⟨gb397,3,none⟩=some (.int .i64 a0_3):=(Zb BK397.out 3).trans rfl
        have hcz37_4:wc.cell? ⟨gb397,4,none⟩=some (.int .i64 a0_4):=(Zb BK397.out 4).trans rfl
        have hcz37_5:wc.cell? ⟨gb397,5,none⟩=some (.int .i64 a0_5):=(Zb BK397.out 5).trans rfl
        have hfz37_0:=Zc BK397.out 0
        have hfz37_1:=Zc BK397.out 1
        have hfz37_2:=Zc BK397.out 2
        have hfz37_3:=Zc BK397.out 3
        have hfz37_4:=Zc BK397.out 4
        have hfz37_5:=Zc BK397.out 5
        go_wp2_with (first|((first|((with_reducible refine gate_callee (f:=87) rfl ?_);refine goesL_ (some 56) rfl rfl Tryz.func87 (by kernel_rfl) rfl #[.int .i64 a0_2] rfl z4_1 ?_;(with_reducible refine(impl_isSensor.calls a0_2 t407 _ A36.out).mono ?_))|(go_at_call 87;(with_reducible refine(impl_isSensor.calls a0_2 t407 _ A36.out).mono ?_)));rintro e w' ⟨rfl,⟨nd,rfl⟩⟩;(first|refine⟨_,rfl,?_⟩|skip)))
        go_ret
        exact⟨by first|rfl|(simp[errW_none,errW_some]<;>rfl)|(simp[*,errW_none,errW_some]<;>rfl)|(simp[*,errW_none,errW_some,i64_w];done),by repeat(first|(with_reducible first|exact HB.out|apply Zh|apply Zf|apply Ze|refine Zd ?_ GE397.out)|exact HB.out)⟩
       ·rw[if_neg c35] at H
        have c35b0:(a0_0==2)=false:=beq_eq_false_iff_ne.mpr c35
        have c35b1:(a0_0 != 2)=true:=bne_iff_ne.mpr c35
        by_cases c38:a0_0=5
        ·rw[if_pos c38] at H
         have c38b0:(a0_0==5)=true:=beq_iff_eq.mpr c38
         have c38b1:(a0_0 != 5)=false:=bne_eq_false_iff_eq.mpr c38
         clear c38
         replace H:=Zg H
         obtain⟨t408,A390,H⟩:=H
         replace H:(some t408)=some r:=H
         have A39:=Za A390
         clear A390
         obtain rfl:=Zk H
         have hcz40_0:wc.cell? ⟨gb397,0,none⟩=some (.int .i64 a0_0):=(Zb BK397.out 0).trans rfl
         have hcz40_1:wc.cell? ⟨gb397,1,none⟩=some (.int .i64 a0_1):=(Zb BK397.out 1).trans rfl
         have hcz40_2:wc.cell? ⟨gb397,2,none⟩=some (.int .i64 a0_2):=(Zb BK397.out 2).trans rfl
         have hcz40_3:wc.cell? ⟨gb397,3,none⟩=some (.int .i64 a0_3):=(Zb BK397.out 3).trans rfl
         have hcz40_4:wc.cell? ⟨gb397,4,none⟩=some (.int .i64 a0_4):=(Zb BK397.out 4).trans rfl
         have hcz40_5:wc.cell? ⟨gb397,5,none⟩=some (.int .i64 a0_5):=(Zb BK397.out 5).trans rfl
         have hfz40_0:=Zc BK397.out 0
         have hfz40_1:=Zc BK397.out 1
         have hfz40_2:=Zc BK397.out 2
         have hfz40_3:=Zc BK397.out 3
         have hfz40_4:=Zc BK397.out 4
         have hfz40_5:=Zc BK397.out 5
         go_wp2_with (first|((first|((with_reducible refine gate_callee (f:=30) rfl ?_);refine goesL_ (some 61) rfl rfl Tryz.func30 (by kernel_rfl) rfl #[.int .i64 a0_2,.int .i64 1,.int .i64 5] rfl z4_1 ?_;(with_reducible refine(impl_within.calls a0_2 1 5 t408 _ A39.out).mono ?_))|(go_at_call 30;(with_reducible refine(impl_within.calls a0_2 1 5 t408 _ A39.out).mono ?_)));rintro e w' ⟨rfl,⟨nd,rfl⟩⟩;(first|refine⟨_,rfl,?_⟩|skip)))
         go_ret
         exact⟨by first|rfl|(simp[errW_none,errW_some]<;>rfl)|(simp[*,errW_none,errW_some]<;>rfl)|(simp[*,errW_none,errW_some,i64_w];done),by repeat(first|(with_reducible first|exact HB.out|apply Zh|apply Zf|apply Ze|refine Zd ?_ GE397.out)|exact HB.out)⟩
        ·rw[if_neg c38] at H
         have c38b0:(a0_0==5)=false:=beq_eq_false_iff_ne.mpr c38
         have c38b1:(a0_0 != 5)=true:=bne_iff_ne.mpr c38
         obtain rfl:=Zk H
         have hcz41_0:wc.cell? ⟨gb397,0,none⟩=some (.int .i64 a0_0):=(Zb BK397.out 0).trans rfl
         have hcz41_1:wc.cell? ⟨gb397,1,none⟩=some (.int .i64 a0_1):=(Zb BK397.out 1).trans rfl
         have hcz41_2:wc.cell? ⟨gb397,2,none⟩=some (.int .i64 a0_2):=(Zb BK397.out 2).trans rfl
         have hcz41_3:wc.cell? ⟨gb397,3,none⟩=some (.int .i64 a0_3):=(Zb BK397.out 3).trans rfl
         have hcz41_4:wc.cell? ⟨gb397,4,none⟩=some (.int .i64 a0_4):=(Zb BK397.out 4).trans rfl
         have hcz41_5:wc.cell? ⟨gb397,5,none⟩=some (.int .i64 a0_5):=(Zb BK397.out 5).trans rfl
         have hfz41_0:=Zc BK397.out 0
         have hfz41_1:=Zc BK397.out 1
         have hfz41_2:=Zc BK397.out 2
         have hfz41_3:=Zc BK397.out 3
         have hfz41_4:=Zc BK397.out 4
         have hfz41_5:=Zc BK397.out 5
         go_wp2
         go_ret
         exact⟨by first|rfl|(simp[errW_none,errW_some]<;>rfl)|(simp[*,errW_none,errW_some]<;>rfl)|(simp[*,errW_none,errW_some,i64_w];done),by repeat(first|(with_reducible first|exact HB.out|apply Zh|apply Zf|apply Ze|refine Zd ?_ GE397.out)|exact HB.out)⟩
/-! ### impl_BlockOk: function 97 -/
mutual
def impl_BlockOk.l0:Nat→List (S92)→Int→List (S92)→Int→Int→Option (Bool)
 |0,_,_,_,_,_=>none
 |k+1,x0,x3,x6,x7,x8=>if x8<x7 then (if 0≤x8 then (if x8<(x6.length:Int) then ((impl_StmtOk.f k ((rd_T92 x6 x8).f0) ((rd_T92 x6 x8).f1) ((rd_T92 x6 x8).f2) ((rd_T92 x6 x8).f3.f0) ((rd_T92 x6 x8).f3.f1) ((rd_T92 x6 x8).f3.f2)).bind fun t411=>(if t411=true then ((impl_isOpening.f ((rd_T92 x6 x8).f0)).bind fun t412=>(if t412=true then (impl_BlockOk.j1 k x0 (wrap64 (x3+1)) x6 x7 x8 ((rd_T92 x6 x8).f0) ((rd_T92 x6 x8).f1) ((rd_T92 x6 x8).f2) ((rd_T92 x6 x8).f3.f0) ((rd_T92 x6 x8).f3.f1) ((rd_T92 x6 x8).f3.f2)) else (impl_BlockOk.j1 k x0 x3 x6 x7 x8 ((rd_T92 x6 x8).f0) ((rd_T92 x6 x8).f1) ((rd_T92 x6 x8).f2) ((rd_T92 x6 x8).f3.f0) ((rd_T92 x6 x8).f3.f1) ((rd_T92 x6 x8).f3.f2)))) else (some false))) else (none)) else (none)) else (if x3=0 then (some (decide ((x0.length:Int)≤24))) else (some false))
def impl_BlockOk.j1:Nat→List (S92)→Int→List (S92)→Int→Int→Int→Int→Int→Int→Int→Int→Option (Bool)
 |0,_,_,_,_,_,_,_,_,_,_,_=>none
 |k+1,x0,x3,x6,x7,x8,x411000,x411001,x411002,x411003,x411004,x411005=>if x411000=6 then (if (wrap64 (x3 - 1))<0 then (some false) else (if (wrap64 (x3 - 1)) > 3 then (some false) else (impl_BlockOk.l0 k x0 (wrap64 (x3 - 1)) x6 x7 (wrap64 (x8+1))))) else (if x3<0 then (some false) else (if x3 > 3 then (some false) else (impl_BlockOk.l0 k x0 x3 x6 x7 (wrap64 (x8+1)))))
end
def impl_BlockOk.f (k:Nat) (l0:List (S92)):Option (Bool):=impl_BlockOk.l0 k l0 0 l0 (l0.length:Int) 0
theorem impl_BlockOk.mono_l:∀k,(∀y0 y1 y2 y3 y4,LeO (impl_BlockOk.l0 k y0 y1 y2 y3 y4) (impl_BlockOk.l0 (k+1) y0 y1 y2 y3 y4))∧(∀y0 y1 y2 y3 y4 y5 y6 y7 y8 y9 y10,LeO (impl_BlockOk.j1 k y0 y1 y2 y3 y4 y5 y6 y7 y8 y9 y10) (impl_BlockOk.j1 (k+1) y0 y1 y2 y3 y4 y5 y6 y7 y8 y9 y10))
 |0=>⟨fun _ _ _ _ _ r h=>by simp[impl_BlockOk.l0] at h,fun _ _ _ _ _ _ _ _ _ _ _ r h=>by simp[impl_BlockOk.j1] at h⟩
 |k+1=>by
  obtain⟨ih0,ih1⟩:=impl_BlockOk.mono_l k
  refine⟨?_,?_⟩
  ·intro y0 y1 y2 y3 y4
   unfold impl_BlockOk.l0
   repeat' first
   |(with_reducible exact ih0 _ _ _ _ _)
   |(with_reducible exact ih1 _ _ _ _ _ _ _ _ _ _ _)
   |(with_reducible exact impl_StmtOk.mono _ _ _ _ _ _ _)
   |(with_reducible exact Yn _)
   |(with_reducible exact Zz _)
   |(with_reducible refine Zu ?_ ?_)
   |(with_reducible refine Zt ?_ (fun _=> ?_))
   |exact ih0 _ _ _ _ _
   |exact ih1 _ _ _ _ _ _ _ _ _ _ _
   |exact impl_StmtOk.mono _ _ _ _ _ _ _
   |exact Zz _
   |refine Zu ?_ ?_
   |refine Zt ?_ (fun _=> ?_)
  ·intro y0 y1 y2 y3 y4 y5 y6 y7 y8 y9 y10
   unfold impl_BlockOk.j1
   repeat' first
   |(with_reducible exact ih0 _ _ _ _ _)
   |(with_reducible exact ih1 _ _ _ _ _ _ _ _ _ _ _)
   |(with_reducible exact impl_StmtOk.mono _ _ _ _ _ _ _)
   |(with_reducible exact Yn _)
   |(with_reducible exact Zz _)
   |(with_reducible refine Zu ?_ ?_)
   |(with_reducible refine Zt ?_ (fun _=> ?_))
   |exact ih0 _ _ _ _ _
   |exact ih1 _ _ _ _ _ _ _ _ _ _ _
   |exact impl_StmtOk.mono _ _ _ _ _ _ _
   |exact Zz _
   |refine Zu ?_ ?_
   |refine Zt ?_ (fun _=> ?_)
theorem impl_BlockOk.mono:∀a0 k,LeO (impl_BlockOk.f k a0) (impl_BlockOk.f (k+1) a0):=by
 intro a0 k
 obtain⟨ih0,ih1⟩:=impl_BlockOk.mono_l k
 unfold impl_BlockOk.f
 repeat' first
   |(with_reducible exact ih0 _ _ _ _ _)
   |(with_reducible exact ih1 _ _ _ _ _ _ _ _ _ _ _)
   |(with_reducible exact impl_StmtOk.mono _ _ _ _ _ _ _)
   |(with_reducible exact Yn _)
   |(with_reducible exact Zz _)
   |(with_reducible refine Zu ?_ ?_)
   |(with_reducible refine Zt ?_ (fun _=> ?_))
   |exact ih0 _ _ _ _ _
   |exact ih1 _ _ _ _ _ _ _ _ _ _ _
   |exact impl_StmtOk.mono _ _ _ _ _ _ _
   |exact Zz _
   |refine Zu ?_ ?_
   |refine Zt ?_ (fun _=> ?_)
set_option maxHeartbeats 8000000 in
set_option maxRecDepth 100000 in
theorem impl_BlockOk.calls (k:Nat) (A0:Option Addr) (c0:Nat) (l0:List (S92)) (r:Bool) (w:World) (hr0:Kd.C k92 w A0 l0.length l0) (hc0:l0.length≤c0) (h:impl_BlockOk.f k l0=some r):
  Calls Tryz.prog 97 #[.slice A0 l0.length c0] w fun e w'=>e= .returned (.bool r)∧Below w.heap.size w w':=by
 have hu92:=Tryz.underlying92
 have HR0:=Za hr0
 have HC0:=Za hc0
 clear hr0 hc0
 have HB:=Za (Zx w.heap.size w)
 have H:(impl_BlockOk.l0 k l0 0 l0 (l0.length:Int) 0)=some r:=h
 clear h
 have H':=Za H
 clear H
 go_enter Tryz.func97,Tryz.ntmps97
 go_wp2
 go_loopg [3,8] k (fun kq v3 v8 w'=>∃(x3_1:Int) (x8_1:Int),v3= .int .i64 x3_1∧v8= .int .i64 x8_1∧Aside0 (impl_BlockOk.l0 kq l0 x3_1 l0 (l0.length:Int) x8_1=some r)∧Aside0 (kq≤k)∧Aside0 (Below w.heap.size w w'))
 case atStart=>exact⟨(0),(0),z4_3,z4_3,H',⟨Nat.le_refl _⟩,⟨by repeat(first|(with_reducible first|exact HB.out|apply Zh|apply Zf|apply Ze)|exact HB.out)⟩⟩
 case round=>
  clear H'
  obtain⟨x3_1,x8_1,rfl,rfl,HA,HK1,HB⟩:=hrel
  cases gk with
  |zero=>exact absurd HA.out (by simp[impl_BlockOk.l0])
  |succ k1=>
   have H:=HA.out
   clear HA
   simp only[impl_BlockOk.l0] at H
   by_cases c2:x8_1<(l0.length:Int)
   ·rw[if_pos c2] at H
    have c2b0:decide (x8_1<(l0.length:Int))=true:=Zq c2
    clear c2
    by_cases c3:0≤x8_1
    ·rw[if_pos c3] at H
     have c3b0:decide (0≤x8_1)=true:=Zq c3
     clear c3
     by_cases c4:x8_1<(l0.length:Int)
     ·rw[if_pos c4] at H
      have c4b0:decide (x8_1<(l0.length:Int))=true:=Zq c4
      clear c4
      replace H:=Zg H
      obtain⟨t411,A50,H⟩:=H
      replace H:(if t411=true then ((impl_isOpening.f ((rd_T92 l0 x8_1).f0)).bind fun t412=>(if t412=true then (impl_BlockOk.j1 k1 l0 (wrap64 (x3_1+1)) l0 (l0.length:Int) x8_1 ((rd_T92 l0 x8_1).f0) ((rd_T92 l0 x8_1).f1) ((rd_T92 l0 x8_1).f2) ((rd_T92 l0 x8_1).f3.f0) ((rd_T92 l0 x8_1).f3.f1) ((rd_T92 l0 x8_1).f3.f2)) else (impl_BlockOk.j1 k1 l0 x3_1 l0 (l0.length:Int) x8_1 ((rd_T92 l0 x8_1).f0) ((rd_T92 l0 x8_1).f1) ((rd_T92 l0 x8_1).f2) ((rd_T92 l0 x8_1).f3.f0) ((rd_T92 l0 x8_1).f3.f1) ((rd_T92 l0 x8_1).f3.f2)))) else (some false))=some r:=H
      have A5:=Za A50
      clear A50
      by_cases c6:t411=true
      ·subst c6
       rw[if_pos rfl] at H
       replace H:=Zg H
       obtain⟨t412,A70,H⟩:=H
       replace H:(if t412=true then (impl_BlockOk.j1 k1 l0 (wrap64 (x3_1+1)) l0 (l0.length:Int) x8_1 ((rd_T92 l0 x8_1).f0) ((rd_T92 l0 x8_1).f1) ((rd_T92 l0 x8_1).f2) ((rd_T92 l0 x8_1).f3.f0) ((rd_T92 l0 x8_1).f3.f1) ((rd_T92 l0 x8_1).f3.f2)) else (impl_BlockOk.j1 k1 l0 x3_1 l0 (l0.length:Int) x8_1 ((rd_T92 l0 x8_1).f0) ((rd_T92 l0 x8_1).f1) ((rd_T92 l0 x8_1).f2) ((rd_T92 l0 x8_1).f3.f0) ((rd_T92 l0 x8_1).f3.f1) ((rd_T92 l0 x8_1).f3.f2)))=some r:=H
       have A7:=Za A70
       clear A70
       have HC8:=Za H
       clear H
       have p409:0≤(x8_1:Int):=Zs (by first|(with_reducible assumption)|assumption)
       have q409:x8_1<(l0.length:Int):=Zs (by first|(with_reducible assumption)|assumption)
       obtain⟨ad409,e409,hx409_0,hx409_1,hx409_2,hx409_3,hx409_4,hx409_5⟩:=at_T92 HR0.out x8_1 p409 q409
       cases e409
       replace hx409_0:=(HB.out.cell (Yq w _ hx409_0)).trans hx409_0
       replace hx409_1:=(HB.out.cell (Yq w _ hx409_1)).trans hx409_1
       replace hx409_2:=(HB.out.cell (Yq w _ hx409_2)).trans hx409_2
       replace hx409_3:=(HB.out.cell (Yq w _ hx409_3)).trans hx409_3
       replace hx409_4:=(HB.out.cell (Yq w _ hx409_4)).trans hx409_4
       replace hx409_5:=(HB.out.cell (Yq w _ hx409_5)).trans hx409_5
       replace p409:=eq_true p409
       replace q409:=eq_true q409
       go_upto_if 17 with(first|((with_reducible refine Zp (N:=5) rfl ?_);(try(refine gate_guard (by rfl) ?_;dsimp only));refine Zr ?hg (N:=5) ?hd (cs:= #[.int .i64 0,.int .i64 0,.int .i64 0,.int .i64 0,.int .i64 0,.int .i64 0]) (t:=92) ?hr ?_;(case hd=>rfl);(case hg=>rfl);(case hr=>exact z4_6);intro gb410 hg w9 hbox hb;have BK410:=Za (hbox);have GW410:=Za ((z4_8:w.heap.size≤gb410));have GE410:=Za ((z4_8:w.heap.size≤gb410));replace HB:=Za (Zj z4_0 hb);clear hb hbox hg;have hcz10_0:w9.cell? ⟨gb410,0,none⟩=some (.int .i64 0):=(Zb BK410.out 0).trans rfl;have hcz10_1:w9.cell? ⟨gb410,1,none⟩=some (.int .i64 0):=(Zb BK410.out 1).trans rfl;have hcz10_2:w9.cell? ⟨gb410,2,none⟩=some (.int .i64 0):=(Zb BK410.out 2).trans rfl;have hcz10_3:w9.cell? ⟨gb410,3,none⟩=some (.int .i64 0):=(Zb BK410.out 3).trans rfl;have hcz10_4:w9.cell? ⟨gb410,4,none⟩=some (.int .i64 0):=(Zb BK410.out 4).trans rfl;have hcz10_5:w9.cell? ⟨gb410,5,none⟩=some (.int .i64 0):=(Zb BK410.out 5).trans rfl;have hfz10_0:=Zc BK410.out 0;have hfz10_1:=Zc BK410.out 1;have hfz10_2:=Zc BK410.out 2;have hfz10_3:=Zc BK410.out 3;have hfz10_4:=Zc BK410.out 4;have hfz10_5:=Zc BK410.out 5)|((with_reducible refine Ye (t:=92) (p:=5) rfl ?_);refine Yd (t:=92) (p:=5) (v:= ?vo_w11) (w1:=((((((w9.setCell ⟨gb410,0,none⟩ (.int .i64 ((rd_T92 l0 x8_1).f0))).setCell ⟨gb410,1,none⟩ (.int .i64 ((rd_T92 l0 x8_1).f1))).setCell ⟨gb410,2,none⟩ (.int .i64 ((rd_T92 l0 x8_1).f2))).setCell ⟨gb410,3,none⟩ (.int .i64 ((rd_T92 l0 x8_1).f3.f0))).setCell ⟨gb410,4,none⟩ (.int .i64 ((rd_T92 l0 x8_1).f3.f1))).setCell ⟨gb410,5,none⟩ (.int .i64 ((rd_T92 l0 x8_1).f3.f2)))) ?hg ?ho ?hn ?hr ?_;(case ho=>rfl);(case hg=>rfl);(case hn=>rfl);(case hr=>exact z4_6);intro w11 hw;have n0_:Aside0 (w11.heap[gb410]? =some (.cells #[.int .i64 ((rd_T92 l0 x8_1).f0),.int .i64 ((rd_T92 l0 x8_1).f1),.int .i64 ((rd_T92 l0 x8_1).f2),.int .i64 ((rd_T92 l0 x8_1).f3.f0),.int .i64 ((rd_T92 l0 x8_1).f3.f1),.int .i64 ((rd_T92 l0 x8_1).f3.f2)] 92 (0,0))):=⟨z4_2⟩;have n1_:Aside0 (Below w.heap.size w w11):=⟨(by rw[hw];exact z4_4)⟩;clear hw;clear BK410;clear HB;have BK410:=n0_;have HB:=n1_;clear n0_ n1_;have hcz12_0:w11.cell? ⟨gb410,0,none⟩=some (.int .i64 ((rd_T92 l0 x8_1).f0)):=(Zb BK410.out 0).trans rfl;have hcz12_1:w11.cell? ⟨gb410,1,none⟩=some (.int .i64 ((rd_T92 l0 x8_1).f1)):=(Zb BK410.out 1).trans rfl;have hcz12_2:w11.cell? ⟨gb410,2,none⟩=some (.int .i64 ((rd_T92 l0 x8_1).f2)):=(Zb BK410.out 2).trans rfl;have hcz12_3:w11.cell? ⟨gb410,3,none⟩=some (.int .i64 ((rd_T92 l0 x8_1).f3.f0)):=(Zb BK410.out 3).trans rfl;have hcz12_4:w11.cell? ⟨gb410,4,none⟩=some (.int .i64 ((rd_T92 l0 x8_1).f3.f1)):=(Zb BK410.out 4).trans rfl;have hcz12_5:w11.cell? ⟨gb410,5,none⟩=some (.int .i64 ((rd_T92 l0 x8_1).f3.f2)):=(Zb BK410.out 5).trans rfl;have hfz12_0:=Zc BK410.out 0;have hfz12_1:=Zc BK410.out 1;have hfz12_2:=Zc BK410.out 2;have hfz12_3:=Zc BK410.out 3;have hfz12_4:=Zc BK410.out 4;have hfz12_5:=Zc BK410.out 5)|((first|((with_reducible refine gate_callee (f:=80) rfl ?_);refine goesL_ (some 13) rfl rfl Tryz.func80 (by kernel_rfl) rfl #[.agg #[.int .i64 ((rd_T92 l0 x8_1).f0),.int .i64 ((rd_T92 l0 x8_1).f1),.int .i64 ((rd_T92 l0 x8_1).f2),.int .i64 ((rd_T92 l0 x8_1).f3.f0),.int .i64 ((rd_T92 l0 x8_1).f3.f1),.int .i64 ((rd_T92 l0 x8_1).f3.f2)]] rfl z4_1 ?_;(with_reducible refine(impl_StmtOk.calls k1 ((rd_T92 l0 x8_1).f0) ((rd_T92 l0 x8_1).f1) ((rd_T92 l0 x8_1).f2) ((rd_T92 l0 x8_1).f3.f0) ((rd_T92 l0 x8_1).f3.f1) ((rd_T92 l0 x8_1).f3.f2) true _ A5.out).mono ?_))|(go_at_call 80;(with_reducible refine(impl_StmtOk.calls k1 ((rd_T92 l0 x8_1).f0) ((rd_T92 l0 x8_1).f1) ((rd_T92 l0 x8_1).f2) ((rd_T92 l0 x8_1).f3.f0) ((rd_T92 l0 x8_1).f3.f1) ((rd_T92 l0 x8_1).f3.f2) true _ A5.out).mono ?_)));rintro e w13 ⟨rfl,hb⟩;(first|refine⟨_,rfl,?_⟩|skip);replace BK410:=Za (Zi (g:=gb410) (o:= .cells #[.int .i64 ((rd_T92 l0 x8_1).f0),.int .i64 ((rd_T92 l0 x8_1).f1),.int .i64 ((rd_T92 l0 x8_1).f2),.int .i64 ((rd_T92 l0 x8_1).f3.f0),.int .i64 ((rd_T92 l0 x8_1).f3.f1),.int .i64 ((rd_T92 l0 x8_1).f3.f2)] 92 (0,0)) (by(with_reducible repeat(first|refine blk_drewN ?_ _|refine blk_drew ?_|refine blk_alloc ?_ _));exact BK410.out) hb);replace HB:=Za (Zj z4_4 hb);(try clear hb);(try clear hb2);(try clear hk);(try clear hi);have hcz14_0:w13.cell? ⟨gb410,0,none⟩=some (.int .i64 ((rd_T92 l0 x8_1).f0)):=(Zb BK410.out 0).trans rfl;have hcz14_1:w13.cell? ⟨gb410,1,none⟩=some (.int .i64 ((rd_T92 l0 x8_1).f1)):=(Zb BK410.out 1).trans rfl;have hcz14_2:w13.cell? ⟨gb410,2,none⟩=some (.int .i64 ((rd_T92 l0 x8_1).f2)):=(Zb BK410.out 2).trans rfl;have hcz14_3:w13.cell? ⟨gb410,3,none⟩=some (.int .i64 ((rd_T92 l0 x8_1).f3.f0)):=(Zb BK410.out 3).trans rfl;have hcz14_4:w13.cell? ⟨gb410,4,none⟩=some (.int .i64 ((rd_T92 l0 x8_1).f3.f1)):=(Zb BK410.out 4).trans rfl;have hcz14_5:w13.cell? ⟨gb410,5,none⟩=some (.int .i64 ((rd_T92 l0 x8_1).f3.f2)):=(Zb BK410.out 5).trans rfl;have hfz14_0:=Zc BK410.out 0;have hfz14_1:=Zc BK410.out 1;have hfz14_2:=Zc BK410.out 2;have hfz14_3:=Zc BK410.out 3;have hfz14_4:=Zc BK410.out 4;have hfz14_5:=Zc BK410.out 5)|((first|((with_reducible refine gate_callee (f:=78) rfl ?_);refine goesL_ (some 17) rfl rfl Tryz.func78 (by kernel_rfl) rfl #[.int .i64 ((rd_T92 l0 x8_1).f0)] rfl z4_1 ?_;(with_reducible refine(impl_isOpening.calls ((rd_T92 l0 x8_1).f0) t412 _ A7.out).mono ?_))|(go_at_call 78;(with_reducible refine(impl_isOpening.calls ((rd_T92 l0 x8_1).f0) t412 _ A7.out).mono ?_)));rintro e w' ⟨rfl,⟨nd,rfl⟩⟩;(first|refine⟨_,rfl,?_⟩|skip)))
       (try simp only[Act.put,Zy,Ya,Yb])
       go_cut [3] (fun v3 wc=>∃(kq:Nat) (x3_7:Int),v3= .int .i64 x3_7∧Aside0 (impl_BlockOk.j1 kq l0 x3_7 l0 (l0.length:Int) x8_1 ((rd_T92 l0 x8_1).f0) ((rd_T92 l0 x8_1).f1) ((rd_T92 l0 x8_1).f2) ((rd_T92 l0 x8_1).f3.f0) ((rd_T92 l0 x8_1).f3.f1) ((rd_T92 l0 x8_1).f3.f2)=some r)∧Aside0 (kq≤k1)∧Aside0 (wc.heap[gb410]? =some (.cells #[.int .i64 ((rd_T92 l0 x8_1).f0),.int .i64 ((rd_T92 l0 x8_1).f1),.int .i64 ((rd_T92 l0 x8_1).f2),.int .i64 ((rd_T92 l0 x8_1).f3.f0),.int .i64 ((rd_T92 l0 x8_1).f3.f1),.int .i64 ((rd_T92 l0 x8_1).f3.f2)] 92 (0,0)))∧Aside0 (Below w.heap.size w wc))
       case first=>
        have H:=HC8.out
        clear HC8
        by_cases c15:t412=true
        ·subst c15
         rw[if_pos rfl] at H
         have H':=Za H
         clear H
         go_wp2
         go_meet
         case rel=>exact⟨_,(wrap64 (x3_1+1)),z4_3,H',⟨by have:=HK1.out;first|omega|exact Nat.le_refl _⟩,⟨by(with_reducible repeat(first|refine blk_drewN ?_ _|refine blk_drew ?_|refine blk_alloc ?_ _));exact BK410.out⟩,⟨by repeat(first|(with_reducible first|exact HB.out|apply Zh|apply Zf|apply Ze|refine Zd ?_ GE410.out)|exact HB.out)⟩⟩
        ·replace c15:=Bool.eq_false_iff.mpr c15
         subst c15
         rw[if_neg (show ¬(false=true) by decide)] at H
         have H':=Za H
         clear H
         go_wp2
         go_meet
         case rel=>exact⟨_,(x3_1),z4_3,H',⟨by have:=HK1.out;first|omega|exact Nat.le_refl _⟩,⟨by(with_reducible repeat(first|refine blk_drewN ?_ _|refine blk_drew ?_|refine blk_alloc ?_ _));exact BK410.out⟩,⟨by repeat(first|(with_reducible first|exact HB.out|apply Zh|apply Zf|apply Ze|refine Zd ?_ GE410.out)|exact HB.out)⟩⟩
       case rest=>
        clear HC8
        (try clear c2);(try clear c2b0);(try clear c3);(try clear c3b0);(try clear c4);(try clear c4b0);(try clear c6);(try clear hcz10_0);(try clear hcz10_1);(try clear hcz10_2);(try clear hcz10_3);(try clear hcz10_4);(try clear hcz10_5);(try clear hcz12_0);(try clear hcz12_1);(try clear hcz12_2);(try clear hcz12_3);(try clear hcz12_4);(try clear hcz12_5);(try clear hcz14_0);(try clear hcz14_1);(try clear hcz14_2);(try clear hcz14_3);(try clear hcz14_4);(try clear hcz14_5);(try clear hfz10_0);(try clear hfz10_1);(try clear hfz10_2);(try clear hfz10_3);(try clear hfz10_4);(try clear hfz10_5);(try clear hfz12_0);(try clear hfz12_1);(try clear hfz12_2);(try clear hfz12_3);(try clear hfz12_4);(try clear hfz12_5);(try clear hfz14_0);(try clear hfz14_1);(try clear hfz14_2);(try clear hfz14_3);(try clear hfz14_4);(try clear hfz14_5);(try clear hx409_0);(try clear hx409_1);(try clear hx409_2);(try clear hx409_3);(try clear hx409_4);(try clear hx409_5);(try clear p409);(try clear q409)
        obtain⟨kq,x3_7,rfl,HA,HJ7,BK410,HB⟩:=hcut
        cases kq with
        |zero=>exact absurd HA.out (by simp[impl_BlockOk.j1])
        |succ kj7=>
         have H:=HA.out
         clear HA
         simp only[impl_BlockOk.j1] at H
         by_cases c16:((rd_T92 l0 x8_1).f0)=6
         ·rw[if_pos c16] at H
          have c16b0:(((rd_T92 l0 x8_1).f0)==6)=true:=beq_iff_eq.mpr c16
          have c16b1:(((rd_T92 l0 x8_1).f0) != 6)=false:=bne_eq_false_iff_eq.mpr c16
          clear c16
          by_cases c17:(wrap64 (x3_7 - 1))<0
          ·rw[if_pos c17] at H
           have c17b0:decide ((wrap64 (x3_7 - 1))<0)=true:=Zq c17
           clear c17
           obtain rfl:=Zk H
           have hcz18_0:wc.cell? ⟨gb410,0,none⟩=some (.int .i64 ((rd_T92 l0 x8_1).f0)):=(Zb BK410.out 0).trans rfl
           have hcz18_1:wc.cell? ⟨gb410,1,none⟩=some (.int .i64 ((rd_T92 l0 x8_1).f1)):=(Zb BK410.out 1).trans rfl
           have hcz18_2:wc.cell? ⟨gb410,2,none⟩=some (.int .i64 ((rd_T92 l0 x8_1).f2)):=(Zb BK410.out 2).trans rfl
           have hcz18_3:wc.cell? ⟨gb410,3,none⟩=some (.int .i64 ((rd_T92 l0 x8_1).f3.f0)):=(Zb BK410.out 3).trans rfl
           have hcz18_4:wc.cell? ⟨gb410,4,none⟩=some (.int .i64 ((rd_T92 l0 x8_1).f3.f1)):=(Zb BK410.out 4).trans rfl
           have hcz18_5:wc.cell? ⟨gb410,5,none⟩=some (.int .i64 ((rd_T92 l0 x8_1).f3.f2)):=(Zb BK410.out 5).trans rfl
           have hfz18_0:=Zc BK410.out 0
           have hfz18_1:=Zc BK410.out 1
           have hfz18_2:=Zc BK410.out 2
           have hfz18_3:=Zc BK410.out 3
           have hfz18_4:=Zc BK410.out 4
           have hfz18_5:=Zc BK410.out 5
           go_wp2
           go_ret
           exact⟨by first|rfl|(simp[errW_none,errW_some]<;>rfl)|(simp[*,errW_none,errW_some]<;>rfl)|(simp[*,errW_none,errW_some,i64_w];done),by repeat(first|(with_reducible first|exact HB.out|apply Zh|apply Zf|apply Ze|refine Zd ?_ GE410.out)|exact HB.out)⟩
          ·rw[if_neg c17] at H
           have c17b0:decide ((wrap64 (x3_7 - 1))<0)=false:=Yf c17
           clear c17
           by_cases c19:(wrap64 (x3_7 - 1)) > 3
           ·rw[if_pos c19] at H
            have c19b0:decide (3<(wrap64 (x3_7 - 1)))=true:=Zq c19
            clear c19
            obtain rfl:=Zk H
            have hcz20_0:wc.cell? ⟨gb410,0,none⟩=some (.int .i64 ((rd_T92 l0 x8_1).f0)):=(Zb BK410.out 0).trans rfl
            have hcz20_1:wc.cell? ⟨gb410,1,none⟩=some (.int .i64 ((rd_T92 l0 x8_1).f1)):=(Zb BK410.out 1).trans rfl
            have hcz20_2:wc.cell? ⟨gb410,2,none⟩=some (.int .i64 ((rd_T92 l0 x8_1).f2)):=(Zb BK410.out 2).trans rfl
            have hcz20_3:wc.cell? ⟨gb410,3,none⟩=some (.int .i64 ((rd_T92 l0 x8_1).f3.f0)):=(Zb BK410.out 3).trans rfl
            have hcz20_4:wc.cell? ⟨gb410,4,none⟩=some (.int .i64 ((rd_T92 l0 x8_1).f3.f1)):=(Zb BK410.out 4).trans rfl
            have hcz20_5:wc.cell? ⟨gb410,5,none⟩=some (.int .i64 ((rd_T92 l0 x8_1).f3.f2)):=(Zb BK410.out 5).trans rfl
            have hfz20_0:=Zc BK410.out 0
            have hfz20_1:=Zc BK410.out 1
            have hfz20_2:=Zc BK410.out 2
            have hfz20_3:=Zc BK410.out 3
            have hfz20_4:=Zc BK410.out 4
            have hfz20_5:=Zc BK410.out 5
            go_wp2
            go_ret
            exact⟨by first|rfl|(simp[errW_none,errW_some]<;>rfl)|(simp[*,errW_none,errW_some]<;>rfl)|(simp[*,errW_none,errW_some,i64_w];done),by repeat(first|(with_reducible first|exact HB.out|apply Zh|apply Zf|apply Ze|refine Zd ?_ GE410.out)|exact HB.out)⟩
           ·rw[if_neg c19] at H
            have c19b0:decide (3<(wrap64 (x3_7 - 1)))=false:=Yf c19
            clear c19
            have H':=Za H
            clear H
            have hcz21_0:wc.cell? ⟨gb410,0,none⟩=some (.int .i64 ((rd_T92 l0 x8_1).f0)):=(Zb BK410.out 0).trans rfl
            have hcz21_1:wc.cell? ⟨gb410,1,none⟩=some (.int .i64 ((rd_T92 l0 x8_1).f1)):=(Zb BK410.out 1).trans rfl
            have hcz21_2:wc.cell? ⟨gb410,2,none⟩=some (.int .i64 ((rd_T92 l0 x8_1).f2)):=(Zb BK410.out 2).trans rfl
            have hcz21_3:wc.cell? ⟨gb410,3,none⟩=some (.int .i64 ((rd_T92 l0 x8_1).f3.f0)):=(Zb BK410.out 3).trans rfl
            have hcz21_4:wc.cell? ⟨gb410,4,none⟩=some (.int .i64 ((rd_T92 l0 x8_1).f3.f1)):=(Zb BK410.out 4).trans rfl
            have hcz21_5:wc.cell? ⟨gb410,5,none⟩=some (.int .i64 ((rd_T92 l0 x8_1).f3.f2)):=(Zb BK410.out 5).trans rfl
            have hfz21_0:=Zc BK410.out 0
            have hfz21_1:=Zc BK410.out 1
            have hfz21_2:=Zc BK410.out 2
            have hfz21_3:=Zc BK410.out 3
            have hfz21_4:=Zc BK410.out 4
            have hfz21_5:=Zc BK410.out 5
            go_wp2
            go_roundg kj7
            case measure=>have:=HK1.out;have:=HJ7.out;omega
            case rel=>exact⟨(wrap64 (x3_7 - 1)),(wrap64 (x8_1+1)),z4_3,z4_3,H',⟨by have:=HK1.out;have:=HJ7.out;omega⟩,⟨by repeat(first|(with_reducible first|exact HB.out|apply Zh|apply Zf|apply Ze|refine Zd ?_ GE410.out)|exact HB.out)⟩⟩
         ·rw[if_neg c16] at H
          have c16b0:(((rd_T92 l0 x8_1).f0)==6)=false:=beq_eq_false_iff_ne.mpr c16
          have c16b1:(((rd_T92 l0 x8_1).f0) != 6)=true:=bne_iff_ne.mpr c16
          by_cases c22:x3_7<0
          ·rw[if_pos c22] at H
           have c22b0:decide (x3_7<0)=true:=Zq c22
           clear c22
           obtain rfl:=Zk H
           have hcz23_0:wc.cell? ⟨gb410,0,none⟩=some (.int .i64 ((rd_T92 l0 x8_1).f0)):=(Zb BK410.out 0).trans rfl
           have hcz23_1:wc.cell? ⟨gb410,1,none⟩=some (.int .i64 ((rd_T92 l0 x8_1).f1)):=(Zb BK410.out 1).trans rfl
           have hcz23_2:wc.cell? ⟨gb410,2,none⟩=some (.int .i64 ((rd_T92 l0 x8_1).f2)):=(Zb BK410.out 2).trans rfl
           have hcz23_3:wc.cell? ⟨gb410,3,none⟩=some (.int .i64 ((rd_T92 l0 x8_1).f3.f0)):=(Zb BK410.out 3).trans rfl
           have hcz23_4:wc.cell? ⟨gb410,4,none⟩=some (.int .i64 ((rd_T92 l0 x8_1).f3.f1)):=(Zb BK410.out 4).trans rfl
           have hcz23_5:wc.cell? ⟨gb410,5,none⟩=some (.int .i64 ((rd_T92 l0 x8_1).f3.f2)):=(Zb BK410.out 5).trans rfl
           have hfz23_0:=Zc BK410.out 0
           have hfz23_1:=Zc BK410.out 1
           have hfz23_2:=Zc BK410.out 2
           have hfz23_3:=Zc BK410.out 3
           have hfz23_4:=Zc BK410.out 4
           have hfz23_5:=Zc BK410.out 5
           go_wp2
           go_ret
           exact⟨by first|rfl|(simp[errW_none,errW_some]<;>rfl)|(simp[*,errW_none,errW_some]<;>rfl)|(simp[*,errW_none,errW_some,i64_w];done),by repeat(first|(with_reducible first|exact HB.out|apply Zh|apply Zf|apply Ze|refine Zd ?_ GE410.out)|exact HB.out)⟩
          ·rw[if_neg c22] at H
           have c22b0:decide (x3_7<0)=false:=Yf c22
           clear c22
           by_cases c24:x3_7 > 3
           ·rw[if_pos c24] at H
            have c24b0:decide (3<x3_7)=true:=Zq c24
            clear c24
            obtain rfl:=Zk H
            have hcz25_0:wc.cell? ⟨gb410,0,none⟩=some (.int .i64 ((rd_T92 l0 x8_1).f0)):=(Zb BK410.out 0).trans rfl
            have hcz25_1:wc.cell? ⟨gb410,1,none⟩=some (.int .i64 ((rd_T92 l0 x8_1).f1)):=(Zb BK410.out 1).trans rfl
            have hcz25_2:wc.cell? ⟨gb410,2,none⟩=some (.int .i64 ((rd_T92 l0 x8_1).f2)):=(Zb BK410.out 2).trans rfl
            have hcz25_3:wc.cell? ⟨gb410,3,none⟩=some (.int .i64 ((rd_T92 l0 x8_1).f3.f0)):=(Zb BK410.out 3).trans rfl
            have hcz25_4:wc.cell? ⟨gb410,4,none⟩=some (.int .i64 ((rd_T92 l0 x8_1).f3.f1)):=(Zb BK410.out 4).trans rfl
            have hcz25_5:wc.cell? ⟨gb410,5,none⟩=some (.int .i64 ((rd_T92 l0 x8_1).f3.f2)):=(Zb BK410.out 5).trans rfl
            have hfz25_0:=Zc BK410.out 0
            have hfz25_1:=Zc BK410.out 1
            have hfz25_2:=Zc BK410.out 2
            have hfz25_3:=Zc BK410.out 3
            have hfz25_4:=Zc BK410.out 4
            have hfz25_5:=Zc BK410.out 5
            go_wp2
            go_ret
            exact⟨by first|rfl|(simp[errW_none,errW_some]<;>rfl)|(simp[*,errW_none,errW_some]<;>rfl)|(simp[*,errW_none,errW_some,i64_w];done),by repeat(first|(with_reducible first|exact HB.out|apply Zh|apply Zf|apply Ze|refine Zd ?_ GE410.out)|exact HB.out)⟩
           ·rw[if_neg c24] at H
            have c24b0:decide (3<x3_7)=false:=Yf c24
            clear c24
            have H':=Za H
            clear H
            have hcz26_0:wc.cell? ⟨gb410,0,none⟩=some (.int .i64 ((rd_T92 l0 x8_1).f0)):=(Zb BK410.out 0).trans rfl
            have hcz26_1:wc.cell? ⟨gb410,1,none⟩=some (.int .i64 ((rd_T92 l0 x8_1).f1)):=(Zb BK410.out 1).trans rfl
            have hcz26_2:wc.cell? ⟨gb410,2,none⟩=some (.int .i64 ((rd_T92 l0 x8_1).f2)):=(Zb BK410.out 2).trans rfl
            have hcz26_3:wc.cell? ⟨gb410,3,none⟩=some (.int .i64 ((rd_T92 l0 x8_1).f3.f0)):=(Zb BK410.out 3).trans rfl
            have hcz26_4:wc.cell? ⟨gb410,4,none⟩=some (.int .i64 ((rd_T92 l0 x8_1).f3.f1)):=(Zb BK410.out 4).trans rfl
            have hcz26_5:wc.cell? ⟨gb410,5,none⟩=some (.int .i64 ((rd_T92 l0 x8_1).f3.f2)):=(Zb BK410.out 5).trans rfl
            have hfz26_0:=Zc BK410.out 0
            have hfz26_1:=Zc BK410.out 1
            have hfz26_2:=Zc BK410.out 2
            have hfz26_3:=Zc BK410.out 3
            have hfz26_4:=Zc BK410.out 4
            have hfz26_5:=Zc BK410.out 5
            go_wp2
            go_roundg kj7
            case measure=>have:=HK1.out;have:=HJ7.out;omega
            case rel=>exact⟨(x3_7),(wrap64 (x8_1+1)),z4_3,z4_3,H',⟨by have:=HK1.out;have:=HJ7.out;omega⟩,⟨by repeat(first|(with_reducible first|exact HB.out|apply Zh|apply Zf|apply Ze|refine Zd ?_ GE410.out)|exact HB.out)⟩⟩
      ·replace c6:=Bool.eq_false_iff.mpr c6
       subst c6
       rw[if_neg (show ¬(false=true) by decide)] at H
       obtain rfl:=Zk H
       have p409:0≤(x8_1:Int):=Zs (by first|(with_reducible assumption)|assumption)
       have q409:x8_1<(l0.length:Int):=Zs (by first|(with_reducible assumption)|assumption)
       obtain⟨ad409,e409,hx409_0,hx409_1,hx409_2,hx409_3,hx409_4,hx409_5⟩:=at_T92 HR0.out x8_1 p409 q409
       cases e409
       replace hx409_0:=(HB.out.cell (Yq w _ hx409_0)).trans hx409_0
       replace hx409_1:=(HB.out.cell (Yq w _ hx409_1)).trans hx409_1
       replace hx409_2:=(HB.out.cell (Yq w _ hx409_2)).trans hx409_2
       replace hx409_3:=(HB.out.cell (Yq w _ hx409_3)).trans hx409_3
       replace hx409_4:=(HB.out.cell (Yq w _ hx409_4)).trans hx409_4
       replace hx409_5:=(HB.out.cell (Yq w _ hx409_5)).trans hx409_5
       replace p409:=eq_true p409
       replace q409:=eq_true q409
       go_wp2_with (first|((with_reducible refine Zp (N:=5) rfl ?_);(try(refine gate_guard (by rfl) ?_;dsimp only));refine Zr ?hg (N:=5) ?hd (cs:= #[.int .i64 0,.int .i64 0,.int .i64 0,.int .i64 0,.int .i64 0,.int .i64 0]) (t:=92) ?hr ?_;(case hd=>rfl);(case hg=>rfl);(case hr=>exact z4_6);intro gb410 hg w27 hbox hb;have BK410:=Za (hbox);have GW410:=Za ((z4_8:w.heap.size≤gb410));have GE410:=Za ((z4_8:w.heap.size≤gb410));replace HB:=Za (Zj z4_0 hb);clear hb hbox hg;have hcz28_0:w27.cell? ⟨gb410,0,none⟩=some (.int .i64 0):=(Zb BK410.out 0).trans rfl;have hcz28_1:w27.cell? ⟨gb410,1,none⟩=some (.int .i64 0):=(Zb BK410.out 1).trans rfl;have hcz28_2:w27.cell? ⟨gb410,2,none⟩=some (.int .i64 0):=(Zb BK410.out 2).trans rfl;have hcz28_3:w27.cell? ⟨gb410,3,none⟩=some (.int .i64 0):=(Zb BK410.out 3).trans rfl;have hcz28_4:w27.cell? ⟨gb410,4,none⟩=some (.int .i64 0):=(Zb BK410.out 4).trans rfl;have hcz28_5:w27.cell? ⟨gb410,5,none⟩=some (.int .i64 0):=(Zb BK410.out 5).trans rfl;have hfz28_0:=Zc BK410.out 0;have hfz28_1:=Zc BK410.out 1;have hfz28_2:=Zc BK410.out 2;have hfz28_3:=Zc BK410.out 3;have hfz28_4:=Zc BK410.out 4;have hfz28_5:=Zc BK410.out 5)|((with_reducible refine Ye (t:=92) (p:=5) rfl ?_);refine Yd (t:=92) (p:=5) (v:= ?vo_w29) (w1:=((((((w27.setCell ⟨gb410,0,none⟩ (.int .i64 ((rd_T92 l0 x8_1).f0))).setCell ⟨gb410,1,none⟩ (.int .i64 ((rd_T92 l0 x8_1).f1))).setCell ⟨gb410,2,none⟩ (.int .i64 ((rd_T92 l0 x8_1).f2))).setCell ⟨gb410,3,none⟩ (.int .i64 ((rd_T92 l0 x8_1).f3.f0))).setCell ⟨gb410,4,none⟩ (.int .i64 ((rd_T92 l0 x8_1).f3.f1))).setCell ⟨gb410,5,none⟩ (.int .i64 ((rd_T92 l0 x8_1).f3.f2)))) ?hg ?ho ?hn ?hr ?_;(case ho=>rfl);(case hg=>rfl);(case hn=>rfl);(case hr=>exact z4_6);intro w29 hw;have n0_:Aside0 (w29.heap[gb410]? =some (.cells #[.int .i64 ((rd_T92 l0 x8_1).f0),.int .i64 ((rd_T92 l0 x8_1).f1),.int .i64 ((rd_T92 l0 x8_1).f2),.int .i64 ((rd_T92 l0 x8_1).f3.f0),.int .i64 ((rd_T92 l0 x8_1).f3.f1),.int .i64 ((rd_T92 l0 x8_1).f3.f2)] 92 (0,0))):=⟨z4_2⟩;have n1_:Aside0 (Below w.heap.size w w29):=⟨(by rw[hw];exact z4_4)⟩;clear hw;clear BK410;clear HB;have BK410:=n0_;have HB:=n1_;clear n0_ n1_;have hcz30_0:w29.cell? ⟨gb410,0,none⟩=some (.int .i64 ((rd_T92 l0 x8_1).f0)):=(Zb BK410.out 0).trans rfl;have hcz30_1:w29.cell? ⟨gb410,1,none⟩=some (.int .i64 ((rd_T92 l0 x8_1).f1)):=(Zb BK410.out 1).trans rfl;have hcz30_2:w29.cell? ⟨gb410,2,none⟩=some (.int .i64 ((rd_T92 l0 x8_1).f2)):=(Zb BK410.out 2).trans rfl;have hcz30_3:w29.cell? ⟨gb410,3,none⟩=some (.int .i64 ((rd_T92 l0 x8_1).f3.f0)):=(Zb BK410.out 3).trans rfl;have hcz30_4:w29.cell? ⟨gb410,4,none⟩=some (.int .i64 ((rd_T92 l0 x8_1).f3.f1)):=(Zb BK410.out 4).trans rfl;have hcz30_5:w29.cell? ⟨gb410,5,none⟩=some (.int .i64 ((rd_T92 l0 x8_1).f3.f2)):=(Zb BK410.out 5).trans rfl;have hfz30_0:=Zc BK410.out 0;have hfz30_1:=Zc BK410.out 1;have hfz30_2:=Zc BK410.out 2;have hfz30_3:=Zc BK410.out 3;have hfz30_4:=Zc BK410.out 4;have hfz30_5:=Zc BK410.out 5)|((first|((with_reducible refine gate_callee (f:=80) rfl ?_);refine goesL_ (some 13) rfl rfl Tryz.func80 (by kernel_rfl) rfl #[.agg #[.int .i64 ((rd_T92 l0 x8_1).f0),.int .i64 ((rd_T92 l0 x8_1).f1),.int .i64 ((rd_T92 l0 x8_1).f2),.int .i64 ((rd_T92 l0 x8_1).f3.f0),.int .i64 ((rd_T92 l0 x8_1).f3.f1),.int .i64 ((rd_T92 l0 x8_1).f3.f2)]] rfl z4_1 ?_;(with_reducible refine(impl_StmtOk.calls k1 ((rd_T92 l0 x8_1).f0) ((rd_T92 l0 x8_1).f1) ((rd_T92 l0 x8_1).f2) ((rd_T92 l0 x8_1).f3.f0) ((rd_T92 l0 x8_1).f3.f1) ((rd_T92 l0 x8_1).f3.f2) false _ A5.out).mono ?_))|(go_at_call 80;(with_reducible refine(impl_StmtOk.calls k1 ((rd_T92 l0 x8_1).f0) ((rd_T92 l0 x8_1).f1) ((rd_T92 l0 x8_1).f2) ((rd_T92 l0 x8_1).f3.f0) ((rd_T92 l0 x8_1).f3.f1) ((rd_T92 l0 x8_1).f3.f2) false _ A5.out).mono ?_)));rintro e w31 ⟨rfl,hb⟩;(first|refine⟨_,rfl,?_⟩|skip);replace BK410:=Za (Zi (g:=gb410) (o:= .cells #[.int .i64 ((rd_T92 l0 x8_1).f0),.int .i64 ((rd_T92 l0 x8_1).f1),.int .i64 ((rd_T92 l0 x8_1).f2),.int .i64 ((rd_T92 l0 x8_1).f3.f0),.int .i64 ((rd_T92 l0 x8_1).f3.f1),.int .i64 ((rd_T92 l0 x8_1).f3.f2)] 92 (0,0)) (by(with_reducible repeat(first|refine blk_drewN ?_ _|refine blk_drew ?_|refine blk_alloc ?_ _));exact BK410.out) hb);replace HB:=Za (Zj z4_4 hb);(try clear hb);(try clear hb2);(try clear hk);(try clear hi)))
       go_ret
       exact⟨by first|rfl|(simp[errW_none,errW_some]<;>rfl)|(simp[*,errW_none,errW_some]<;>rfl)|(simp[*,errW_none,errW_some,i64_w];done),by repeat(first|(with_reducible first|exact HB.out|apply Zh|apply Zf|apply Ze|refine Zd ?_ GE410.out)|exact HB.out)⟩
     ·rw[if_neg c4] at H
      exact absurd H (by simp)
    ·rw[if_neg c3] at H
     exact absurd H (by simp)
   ·rw[if_neg c2] at H
    have c2b0:decide (x8_1<(l0.length:Int))=false:=Yf c2
    clear c2
    by_cases c32:x3_1=0
    ·rw[if_pos c32] at H
     have c32b0:(x3_1==0)=true:=beq_iff_eq.mpr c32
     have c32b1:(x3_1 != 0)=false:=bne_eq_false_iff_eq.mpr c32
     clear c32
     obtain rfl:=Zk H
     go_wp2
     go_ret
     exact⟨by first|rfl|(simp[errW_none,errW_some]<;>rfl)|(simp[*,errW_none,errW_some]<;>rfl)|(simp[*,errW_none,errW_some,i64_w];done),by repeat(first|(with_reducible first|exact HB.out|apply Zh|apply Zf|apply Ze)|exact HB.out)⟩
    ·rw[if_neg c32] at H
     have c32b0:(x3_1==0)=false:=beq_eq_false_iff_ne.mpr c32
     have c32b1:(x3_1 != 0)=true:=bne_iff_ne.mpr c32
     obtain rfl:=Zk H
     go_wp2
     go_ret
     exact⟨by first|rfl|(simp[errW_none,errW_some]<;>rfl)|(simp[*,errW_none,errW_some]<;>rfl)|(simp[*,errW_none,errW_some,i64_w];done),by repeat(first|(with_reducible first|exact HB.out|apply Zh|apply Zf|apply Ze)|exact HB.out)⟩
def impl_taskOk.f (k:Nat) (l0_0:List (S92)) (a0_1:Int) (a0_2:Int) (a0_3:Int):Option (Bool):=(impl_BlockOk.f k l0_0).bind fun t414=>(if t414=true then ((impl_ExprOk.f a0_1 a0_2 a0_3).bind fun t415=>(some t415)) else (some false))
theorem impl_taskOk.mono:∀a0 a1 a2 a3 k,LeO (impl_taskOk.f k a0 a1 a2 a3) (impl_taskOk.f (k+1) a0 a1 a2 a3):=by
 intro a0 a1 a2 a3 k
 unfold impl_taskOk.f
 repeat' first
   |(with_reducible exact impl_BlockOk.mono _ _)
   |(with_reducible exact Yn _)
   |(with_reducible exact Zz _)
   |(with_reducible refine Zu ?_ ?_)
   |(with_reducible refine Zt ?_ (fun _=> ?_))
   |exact impl_BlockOk.mono _ _
   |exact Zz _
   |refine Zu ?_ ?_
   |refine Zt ?_ (fun _=> ?_)
set_option maxHeartbeats 8000000 in
set_option maxRecDepth 100000 in
theorem impl_taskOk.calls (k:Nat) (A0_0:Option Addr) (c0_0:Nat) (l0_0:List (S92)) (a0_1:Int) (a0_2:Int) (a0_3:Int) (r:Bool) (w:World) (hr0_0:Kd.C k92 w A0_0 l0_0.length l0_0) (hc0_0:l0_0.length≤c0_0) (h:impl_taskOk.f k l0_0 a0_1 a0_2 a0_3=some r):
  Calls Tryz.prog 71 #[.agg #[.slice A0_0 l0_0.length c0_0,.int .i64 a0_1,.int .i64 a0_2,.int .i64 a0_3]] w fun e w'=>e= .returned (.bool r)∧Below w.heap.size w w':=by
 have hu75:=Tryz.underlying75
 have hu72:=Tryz.underlying72
 have HR0_0:=Za hr0_0
 have HC0_0:=Za hc0_0
 clear hr0_0 hc0_0
 have HB:=Za (Zx w.heap.size w)
 have H:((impl_BlockOk.f k l0_0).bind fun t414=>(if t414=true then ((impl_ExprOk.f a0_1 a0_2 a0_3).bind fun t415=>(some t415)) else (some false)))=some r:=h
 clear h
 replace H:=Zg H
 obtain⟨t414,A20,H⟩:=H
 replace H:(if t414=true then ((impl_ExprOk.f a0_1 a0_2 a0_3).bind fun t415=>(some t415)) else (some false))=some r:=H
 have A2:=Za A20
 clear A20
 by_cases c3:t414=true
 ·subst c3
  rw[if_pos rfl] at H
  replace H:=Zg H
  obtain⟨t415,A40,H⟩:=H
  replace H:(some t415)=some r:=H
  have A4:=Za A40
  clear A40
  obtain rfl:=Zk H
  go_enter Tryz.func71,Tryz.ntmps71
  go_wp2_with (first|((with_reducible refine Zp (N:=1) rfl ?_);refine Zr ?hg (N:=1) ?hd (cs:= #[.slice A0_0 l0_0.length c0_0,.int .i64 a0_1,.int .i64 a0_2,.int .i64 a0_3]) (t:=75) ?hr ?_;(case hd=>rfl);(case hg=>rfl);(case hr=>exact z4_6);intro gb413 hg w5 hbox hb;have BK413:=Za (hbox);have GW413:=Za ((z4_8:w.heap.size≤gb413));have GE413:=Za ((z4_8:w.heap.size≤gb413));replace HB:=Za (Zj z4_0 hb);clear hb hbox hg;have hcz6_0:w5.cell? ⟨gb413,0,none⟩=some (.slice A0_0 l0_0.length c0_0):=(Zb BK413.out 0).trans rfl;have hcz6_1:w5.cell? ⟨gb413,1,none⟩=some (.int .i64 a0_1):=(Zb BK413.out 1).trans rfl;have hcz6_2:w5.cell? ⟨gb413,2,none⟩=some (.int .i64 a0_2):=(Zb BK413.out 2).trans rfl;have hcz6_3:w5.cell? ⟨gb413,3,none⟩=some (.int .i64 a0_3):=(Zb BK413.out 3).trans rfl;have hfz6_0:=Zc BK413.out 0;have hfz6_1:=Zc BK413.out 1;have hfz6_2:=Zc BK413.out 2;have hfz6_3:=Zc BK413.out 3)|((first|((with_reducible refine gate_callee (f:=97) rfl ?_);refine goesL_ (some 5) rfl rfl Tryz.func97 (by kernel_rfl) rfl #[.slice A0_0 l0_0.length c0_0] rfl z4_1 ?_;(with_reducible refine(impl_BlockOk.calls k _ _ l0_0 true _ ?side1 ?side2 A2.out).mono ?_))|(go_at_call 97;(with_reducible refine(impl_BlockOk.calls k _ _ l0_0 true _ ?side1 ?side2 A2.out).mono ?_)));(case side1=>repeat(first|exact(Yl HR0_0.out HB.out)|(with_reducible refine Yi ?_ _)|(with_reducible refine Yg ?_ _)|(with_reducible refine Yj ?_)));(case side2=>exact HC0_0.out);rintro e w7 ⟨rfl,hb⟩;(first|refine⟨_,rfl,?_⟩|skip);replace BK413:=Za (Zi (g:=gb413) (o:= .cells #[.slice A0_0 l0_0.length c0_0,.int .i64 a0_1,.int .i64 a0_2,.int .i64 a0_3] 75 (0,0)) z4_7 hb);replace HB:=Za (Zj z4_5 hb);(try clear hb);(try clear hb2);(try clear hk);(try clear hi);have hcz8_0:w7.cell? ⟨gb413,0,none⟩=some (.slice A0_0 l0_0.length c0_0):=(Zb BK413.out 0).trans rfl;have hcz8_1:w7.cell? ⟨gb413,1,none⟩=some (.int .i64 a0_1):=(Zb BK413.out 1).trans rfl;have hcz8_2:w7.cell? ⟨gb413,2,none⟩=some (.int .i64 a0_2):=(Zb BK413.out 2).trans rfl;have hcz8_3:w7.cell? ⟨gb413,3,none⟩=some (.int .i64 a0_3):=(Zb BK413.out 3).trans rfl;have hfz8_0:=Zc BK413.out 0;have hfz8_1:=Zc BK413.out 1;have hfz8_2:=Zc BK413.out 2;have hfz8_3:=Zc BK413.out 3)|(go_at_call 82;(with_reducible refine(impl_ExprOk.calls a0_1 a0_2 a0_3 t415 _ A4.out).mono ?_);rintro e w9 ⟨rfl,hb⟩;replace BK413:=Za (Zi (g:=gb413) (o:= .cells #[.slice A0_0 l0_0.length c0_0,.int .i64 a0_1,.int .i64 a0_2,.int .i64 a0_3] 75 (0,0)) z4_7 hb);replace HB:=Za (Zj z4_5 hb);(try clear hb);(try clear hb2);(try clear hk);(try clear hi)))
  go_ret
  exact⟨by first|rfl|(simp[errW_none,errW_some]<;>rfl)|(simp[*,errW_none,errW_some]<;>rfl)|(simp[*,errW_none,errW_some,i64_w];done),by repeat(first|(with_reducible first|exact HB.out|apply Zh|apply Zf|apply Ze|refine Zd ?_ GE413.out)|exact HB.out)⟩
 ·replace c3:=Bool.eq_false_iff.mpr c3
  subst c3
  rw[if_neg (show ¬(false=true) by decide)] at H
  obtain rfl:=Zk H
  go_enter Tryz.func71,Tryz.ntmps71
  go_wp2_with (first|((with_reducible refine Zp (N:=1) rfl ?_);refine Zr ?hg (N:=1) ?hd (cs:= #[.slice A0_0 l0_0.length c0_0,.int .i64 a0_1,.int .i64 a0_2,.int .i64 a0_3]) (t:=75) ?hr ?_;(case hd=>rfl);(case hg=>rfl);(case hr=>exact z4_6);intro gb413 hg w10 hbox hb;have BK413:=Za (hbox);have GW413:=Za ((z4_8:w.heap.size≤gb413));have GE413:=Za ((z4_8:w.heap.size≤gb413));replace HB:=Za (Zj z4_0 hb);clear hb hbox hg;have hcz11_0:w10.cell? ⟨gb413,0,none⟩=some (.slice A0_0 l0_0.length c0_0):=(Zb BK413.out 0).trans rfl;have hcz11_1:w10.cell? ⟨gb413,1,none⟩=some (.int .i64 a0_1):=(Zb BK413.out 1).trans rfl;have hcz11_2:w10.cell? ⟨gb413,2,none⟩=some (.int .i64 a0_2):=(Zb BK413.out 2).trans rfl;have hcz11_3:w10.cell? ⟨gb413,3,none⟩=some (.int .i64 a0_3):=(Zb BK413.out 3).trans rfl;have hfz11_0:=Zc BK413.out 0;have hfz11_1:=Zc BK413.out 1;have hfz11_2:=Zc BK413.out 2;have hfz11_3:=Zc BK413.out 3)|((first|((with_reducible refine gate_callee (f:=97) rfl ?_);refine goesL_ (some 5) rfl rfl Tryz.func97 (by kernel_rfl) rfl #[.slice A0_0 l0_0.length c0_0] rfl z4_1 ?_;(with_reducible refine(impl_BlockOk.calls k _ _ l0_0 false _ ?side1 ?side2 A2.out).mono ?_))|(go_at_call 97;(with_reducible refine(impl_BlockOk.calls k _ _ l0_0 false _ ?side1 ?side2 A2.out).mono ?_)));(case side1=>repeat(first|exact(Yl HR0_0.out HB.out)|(with_reducible refine Yi ?_ _)|(with_reducible refine Yg ?_ _)|(with_reducible refine Yj ?_)));(case side2=>exact HC0_0.out);rintro e w12 ⟨rfl,hb⟩;(first|refine⟨_,rfl,?_⟩|skip);replace BK413:=Za (Zi (g:=gb413) (o:= .cells #[.slice A0_0 l0_0.length c0_0,.int .i64 a0_1,.int .i64 a0_2,.int .i64 a0_3] 75 (0,0)) z4_7 hb);replace HB:=Za (Zj z4_5 hb);(try clear hb);(try clear hb2);(try clear hk);(try clear hi)))
  go_ret
  exact⟨by first|rfl|(simp[errW_none,errW_some]<;>rfl)|(simp[*,errW_none,errW_some]<;>rfl)|(simp[*,errW_none,errW_some,i64_w];done),by repeat(first|(with_reducible first|exact HB.out|apply Zh|apply Zf|apply Ze|refine Zd ?_ GE413.out)|exact HB.out)⟩
-- NOT PRINTED: function 108 (impl_Task_108)
-- NOT PRINTED: function 95 (impl_Task_95)
def anyNot (k:Nat):List S75→Option Bool
 |[]=>some false
 |t::r=>(impl_taskOk.f k t.f0 t.f1.f0 t.f1.f1 t.f1.f2).bind fun b=>if b=true then anyNot k r else some true
theorem drop_task {l:List S75} {i:Int} (h0:0≤i) (h:i<(l.length:Int)):l.drop i.toNat=rd_T75 l i::l.drop (i+1).toNat:=by
 have h1:i.toNat<l.length:=by omega
 have h2:(i+1).toNat=i.toNat+1:=by omega
 unfold rd_T75
 rw[h2,List.drop_eq_getElem_cons h1,List.getD_eq_getElem?_getD,List.getElem?_eq_getElem h1]
 rfl
set_option maxHeartbeats 8000000 in
set_option maxRecDepth 100000 in
theorem taskNot_clo (k:Nat) (A:Option Addr) (c:Nat) (l:List S92) (a1 a2 a3:Int) (b:Bool) (w:World) (hr:Kd.C k92 w A l.length l) (hc:l.length≤c) (h:impl_taskOk.f k l a1 a2 a3=some b):
  Calls Tryz.prog 96 #[.agg #[.slice A l.length c,.int .i64 a1,.int .i64 a2,.int .i64 a3]] w fun e w'=>e= .returned (.bool (!b))∧Below w.heap.size w w':=by
 have HR:=Za hr
 have HC:=Za hc
 have Hb:=Za h
 have HB:=Za (Zx w.heap.size w)
 clear hr hc h
 go_enter Tryz.func96,Tryz.ntmps96
 go_wp2_with (go_at_call 71;(with_reducible refine(impl_taskOk.calls k _ _ l a1 a2 a3 b _ ?side1 ?side2 Hb.out).mono ?_);(case side1=>repeat(first|exact(Yl HR.out HB.out)|(with_reducible refine Yi ?_ _)|(with_reducible refine Yg ?_ _)|(with_reducible refine Yj ?_)));(case side2=>exact HC.out);rintro e w10 ⟨rfl,hb⟩;have n1_:=Za (Zj z4_0 hb);clear HB;have HB:=n1_;clear n1_;clear hb)
 go_ret
 exact⟨rfl,by repeat(first|(with_reducible first|exact HB.out|apply Zh|apply Zf|apply Ze)|exact HB.out)⟩
set_option maxHeartbeats 8000000 in
set_option maxRecDepth 100000 in
theorem taskNot_index (k:Nat) (A:Option Addr) (c:Nat) (l:List S75) (r:Bool) (w:World) (hr:Kd.C k75 w A l.length l) (h:anyNot k l=some r):
  Calls Tryz.prog 108 #[.slice A l.length c,.func (.func 96) #[] #[]] w fun e w'=>∃i:Int,e= .returned (.int .i64 i)∧decide (i≥0)=r∧Below w.heap.size w w':=by
 have HR:=Za hr
 have HH:=Za h
 have hlen:l.length≤9223372036854775807:=hr.2.1
 clear hr h
 go_enter Tryz.func108,Tryz.ntmps108
 go_wp2
 go_loopw [8] (fun v8 w'=>∃x:Int,v8= .int .i64 x∧Aside0 (0≤x)∧Aside0 (x≤(l.length:Int))∧Aside0 (anyNot k (l.drop x.toNat)=some r)∧Aside0 (Below w.heap.size w w')) (fun v8 _=>l.length - (intOf v8).toNat)
 case atStart=>exact⟨0,rfl,⟨by omega⟩,⟨by omega⟩,HH,⟨by repeat(first|exact Zx _ _|apply Zh|apply Zf|apply Ze)⟩⟩
 case round=>
  obtain⟨x,rfl,Hx0,Hx1,Hp,HB⟩:=hrel
  by_cases hlt:x<(l.length:Int)
  ·have c1:decide (x<(l.length:Int))=true:=Zq hlt
   have h0:=Hx0.out
   obtain⟨ad,A1,c2,e,hx0,hx1,hx2,hx3,hl1,hi1⟩:=at_T75 HR.out x h0 hlt
   cases e
   replace hx0:=(HB.out.cell (Yq w _ hx0)).trans hx0
   replace hx1:=(HB.out.cell (Yq w _ hx1)).trans hx1
   replace hx2:=(HB.out.cell (Yq w _ hx2)).trans hx2
   replace hx3:=(HB.out.cell (Yq w _ hx3)).trans hx3
   have Hl1:=Za hl1
   have Hi1:=Za hi1
   have hp:=Hp.out
   rw[drop_task h0 hlt,anyNot] at hp
   obtain⟨b,hb,hp2⟩:=Zg hp
   have Hb:=Za hb
   have Hp2:=Za hp2
   have Hlt:=Za hlt
   clear hb hlt hp hp2 hl1 hi1 Hp
   have p1:=eq_true h0
   have q1:=eq_true Hlt.out
   have hsum:wrap64 (x+1)=x+1:=by have:=Hlt.out;unfold wrap64;omega
   have Hs:=Za hsum
   clear hsum h0
   cases b with
   |true=>
    go_wp2_with (go_at_call 96;(with_reducible refine(taskNot_clo k _ _ _ _ _ _ true _ ?side1 ?side2 Hb.out).mono ?_);(case side1=>repeat(first|exact(Yl Hi1.out HB.out)|(with_reducible refine Yi ?_ _)|(with_reducible refine Yg ?_ _)|(with_reducible refine Yj ?_)));(case side2=>exact Hl1.out);rintro e w10 ⟨rfl,hb⟩;have n1_:=Za (Zj z4_0 hb);clear HB;have HB:=n1_;clear n1_;clear hb)
    go_roundw
    case rel=>exact⟨x+1,by rw[Hs.out],⟨by have:=Hx0.out;omega⟩,⟨by have:=Hlt.out;omega⟩,⟨by simpa using Hp2.out⟩,⟨by repeat(first|(with_reducible first|exact HB.out|apply Zh|apply Zf|apply Ze)|exact HB.out)⟩⟩
    case measure=>
     have:=Hlt.out
     have:=Hx0.out
     rw[Hs.out]
     simp[intOf]
     omega
   |false=>
    go_wp2_with (go_at_call 96;(with_reducible refine(taskNot_clo k _ _ _ _ _ _ false _ ?side1 ?side2 Hb.out).mono ?_);(case side1=>repeat(first|exact(Yl Hi1.out HB.out)|(with_reducible refine Yi ?_ _)|(with_reducible refine Yg ?_ _)|(with_reducible refine Yj ?_)));(case side2=>exact Hl1.out);rintro e w10 ⟨rfl,hb⟩;have n1_:=Za (Zj z4_0 hb);clear HB;have HB:=n1_;clear n1_;clear hb)
    go_ret
    exact⟨x,rfl,by
     have:=Hp2.out
     rw[if_neg (by simp)] at this
     have e:=Zk this
     rw[←e]
     simpa using Hx0.out,by repeat(first|(with_reducible first|exact HB.out|apply Zh|apply Zf|apply Ze)|exact HB.out)⟩
  ·have c1:decide (x<(l.length:Int))=false:=Yf hlt
   have hx:x=(l.length:Int):=by have:=Hx1.out;omega
   have hp:=Hp.out
   rw[List.drop_eq_nil_of_le (by omega),anyNot] at hp
   have Hp2:=Za (Zk hp)
   clear hx hlt hp Hp
   go_wp2
   go_ret
   exact⟨-1,rfl,by rw[←Hp2.out];rfl,by repeat(first|(with_reducible first|exact HB.out|apply Zh|apply Zf|apply Ze)|exact HB.out)⟩
set_option maxRecDepth 100000 in
theorem taskNot_contains (k:Nat) (A:Option Addr) (c:Nat) (l:List S75) (r:Bool) (w:World) (hr:Kd.C k75 w A l.length l) (h:anyNot k l=some r):
  Calls Tryz.prog 95 #[.slice A l.length c,.func (.func 96) #[] #[]] w fun e w'=>e= .returned (.bool r)∧Below w.heap.size w w':=by
 have HR:=Za hr
 have HH:=Za h
 clear hr h
 go_enter Tryz.func95,Tryz.ntmps95
 go_wp2_with fail
 refine(taskNot_index k A c l r _ HR.out HH.out).mono ?_
 rintro e w' ⟨i,rfl,hi,hb⟩
 have Hi:=Za hi
 have HB:=Za hb
 clear hi hb
 go_wp2
 go_ret
 exact⟨by first|rfl|(rw[Hi.out];done)|(simp[Hi.out];done)|(have e:=Hi.out;simp at e ⊢;exact e),by repeat(first|(with_reducible first|exact HB.out|apply Zh|apply Zf|apply Ze)|exact HB.out)⟩
def impl_ProgramOk.f (k:Nat) (l0_0:List S75):Option Bool:=(impl_within.f (l0_0.length:Int) 1 6).bind fun t=>if t=true then (anyNot k l0_0).bind fun b=>some (!b) else some false
set_option maxHeartbeats 8000000 in
set_option maxRecDepth 100000 in
theorem impl_ProgramOk.calls (k:Nat) (A0_0:Option Addr) (c0_0:Nat) (l0_0:List S75) (r:Bool) (w:World) (hr0_0:Kd.C k75 w A0_0 l0_0.length l0_0) (hc0_0:l0_0.length≤c0_0) (h:impl_ProgramOk.f k l0_0=some r):
  Calls Tryz.prog 68 #[.agg #[.slice A0_0 l0_0.length c0_0]] w fun e w'=>e= .returned (.bool r)∧Below w.heap.size w w':=by
 have hu53:=Tryz.underlying26
 have HR0:=Za hr0_0
 have HC0:=Za hc0_0
 have HB:=Za (Zx w.heap.size w)
 clear hr0_0 hc0_0
 unfold impl_ProgramOk.f at h
 obtain⟨t,h1,h2⟩:=Zg h
 clear h
 have A1:=Za h1
 clear h1
 cases t with
 |true=>
  rw[if_pos rfl] at h2
  obtain⟨b,h3,h4⟩:=Zg h2
  obtain rfl:=Zk h4
  have A2:=Za h3
  clear h2 h3 h4
  go_enter Tryz.func68,Tryz.ntmps68
  go_wp2_with (first|((with_reducible refine Zp (N:=1) rfl ?_);refine Zr ?hg (N:=1) ?hd (cs:= #[.slice A0_0 l0_0.length c0_0]) (t:=26) ?hr ?_;(case hd=>rfl);(case hg=>rfl);(case hr=>exact z4_6);intro gb hg w2 hbox hb;have n0_:=Za (Zj HB.out hb);have BK:=Za (hbox);clear HB;have HB:=n0_;clear n0_;clear hb hbox hg;have hcz0:w2.cell? ⟨gb,0,none⟩=some (.slice A0_0 l0_0.length c0_0):=(Zb BK.out 0).trans rfl;have hfz0:=Zc BK.out 0)|(go_at_call 30;(with_reducible refine(impl_within.calls _ _ _ true _ A1.out).mono ?_);rintro e w' ⟨rfl,⟨nd,rfl⟩⟩)|(go_at_call 95;(with_reducible refine(taskNot_contains k _ _ l0_0 b _ ?side1 A2.out).mono ?_);(case side1=>repeat(first|exact(Yl HR0.out HB.out)|(with_reducible refine Yi ?_ _)|(with_reducible refine Yg ?_ _)|(with_reducible refine Yj ?_)));rintro e w10 ⟨rfl,hb⟩;have n1_:=Za (Zj z4_0 hb);clear HB;have HB:=n1_;clear n1_;clear hb))
  go_ret
  exact⟨by first|rfl|(simp;done),by repeat(first|(with_reducible first|exact HB.out|apply Zh|apply Zf|apply Ze)|exact HB.out)⟩
 |false=>
  rw[if_neg (by simp)] at h2
  obtain rfl:=Zk h2
  clear h2
  go_enter Tryz.func68,Tryz.ntmps68
  go_wp2_with (first|((with_reducible refine Zp (N:=1) rfl ?_);refine Zr ?hg (N:=1) ?hd (cs:= #[.slice A0_0 l0_0.length c0_0]) (t:=26) ?hr ?_;(case hd=>rfl);(case hg=>rfl);(case hr=>exact z4_6);intro gb hg w2 hbox hb;have n0_:=Za (Zj HB.out hb);have BK:=Za (hbox);clear HB;have HB:=n0_;clear n0_;clear hb hbox hg;have hcz0:w2.cell? ⟨gb,0,none⟩=some (.slice A0_0 l0_0.length c0_0):=(Zb BK.out 0).trans rfl;have hfz0:=Zc BK.out 0)|(go_at_call 30;(with_reducible refine(impl_within.calls _ _ _ false _ A1.out).mono ?_);rintro e w' ⟨rfl,⟨nd,rfl⟩⟩))
  go_ret
  exact⟨by first|rfl|(simp;done),by repeat(first|(with_reducible first|exact HB.out|apply Zh|apply Zf|apply Ze)|exact HB.out)⟩
end Go.Proofs.YtdkbkkpbdmlmbaaGreat.G
