/- Functions of the program as plain Lean functions, and that each call comes to its function's answer; written by a program of the session. No condition. -/
import Derived.Test.YtlolppaddphpoaaGx0
import Derived.Test.YtlolppaddphpoaaGx1
import Derived.Test.YtlolppaddphpoaaGx7
namespace Go.Proofs.Ytlolppaddphpoaa.G
open Go.RowKit Go.Proofs.YtlolppaddphpoaaW.PrintWords Go.Proofs.YtlolppaddphpoaaW.PrintLast Go.Proofs.YtlolppaddphpoaaW.PrintMore
attribute [local go_sem] max2_int min2_int max_two min_two max_three min_three max_four min_four   -- for this text's walks alone
set_option linter.unusedVariables false
set_option linter.unusedSimpArgs false
attribute [local go_sem high] eqA62
theorem z8_0 {P:Prop} (h:P:=by repeat(first|(with_reducible first|exact HB.out|apply Zh|apply Ze|apply Zd)|exact HB.out)):P:=h
theorem z8_1 {P:Prop} (h:P:=by(try simp only[Yn,List.map_cons,List.map_nil]);first|done|rfl|(simp only[List.length_drop,List.length_take];rfl)):P:=h
theorem z8_2 {P:Prop} (h:P:=by rw[hw];exact(by(with_reducible repeat(first|refine blk_drewN ?_ _|refine blk_drew ?_|refine blk_alloc ?_ _));refine blk_put (cs:= #[.int .i64 ((rd_T80 l0 x8_1).f0),.int .i64 ((rd_T80 l0 x8_1).f1),.int .i64 ((rd_T80 l0 x8_1).f2),.int .i64 ((rd_T80 l0 x8_1).f3.f0),.int .i64 ((rd_T80 l0 x8_1).f3.f1),.int .i64 0]) ?_ 5 _ rfl;(with_reducible repeat(first|refine blk_drewN ?_ _|refine blk_drew ?_|refine blk_alloc ?_ _));refine blk_put (cs:= #[.int .i64 ((rd_T80 l0 x8_1).f0),.int .i64 ((rd_T80 l0 x8_1).f1),.int .i64 ((rd_T80 l0 x8_1).f2),.int .i64 ((rd_T80 l0 x8_1).f3.f0),.int .i64 0,.int .i64 0]) ?_ 4 _ rfl;(with_reducible repeat(first|refine blk_drewN ?_ _|refine blk_drew ?_|refine blk_alloc ?_ _));refine blk_put (cs:= #[.int .i64 ((rd_T80 l0 x8_1).f0),.int .i64 ((rd_T80 l0 x8_1).f1),.int .i64 ((rd_T80 l0 x8_1).f2),.int .i64 0,.int .i64 0,.int .i64 0]) ?_ 3 _ rfl;(with_reducible repeat(first|refine blk_drewN ?_ _|refine blk_drew ?_|refine blk_alloc ?_ _));refine blk_put (cs:= #[.int .i64 ((rd_T80 l0 x8_1).f0),.int .i64 ((rd_T80 l0 x8_1).f1),.int .i64 0,.int .i64 0,.int .i64 0,.int .i64 0]) ?_ 2 _ rfl;(with_reducible repeat(first|refine blk_drewN ?_ _|refine blk_drew ?_|refine blk_alloc ?_ _));refine blk_put (cs:= #[.int .i64 ((rd_T80 l0 x8_1).f0),.int .i64 0,.int .i64 0,.int .i64 0,.int .i64 0,.int .i64 0]) ?_ 1 _ rfl;(with_reducible repeat(first|refine blk_drewN ?_ _|refine blk_drew ?_|refine blk_alloc ?_ _));refine blk_put (cs:= #[.int .i64 0,.int .i64 0,.int .i64 0,.int .i64 0,.int .i64 0,.int .i64 0]) ?_ 0 _ rfl;(with_reducible repeat(first|refine blk_drewN ?_ _|refine blk_drew ?_|refine blk_alloc ?_ _));exact BK263.out)):P:=h
theorem z8_3 {P:Prop} (h:P:=by first|rfl|(simp;done)|(simp[*];done)):P:=h
theorem z8_4 {P:Prop} (h:P:=by repeat(first|exact(Yb HR0_0.out HB.out)|(with_reducible refine Yd ?_ _)|(with_reducible refine Ye ?_ _)|(with_reducible refine Yf ?_))):P:=h
theorem z8_5 {P:Prop} (h:P:=by repeat(first|(with_reducible first|exact HB.out|apply Zh|apply Ze|apply Zd|refine Zf ?_ GE263.out)|exact HB.out)):P:=h
theorem z8_6 {P:Prop} (h:P:=by first|(go_simp;done)|(go_simp;rfl)):P:=h
theorem z8_7 {P:Prop} (h:P:=by repeat(first|(with_reducible first|exact HB.out|apply Zh|apply Ze|apply Zd|refine Zf ?_ GE266.out)|exact HB.out)):P:=h
theorem z8_8 {P:Prop} (h:P:=by(with_reducible repeat(first|refine blk_drewN ?_ _|refine blk_drew ?_|refine blk_alloc ?_ _));exact BK266.out):P:=h
theorem z8_9 {P:Prop} (h:P:=by rw[hg];exact(Zw z8_0)):P:=h
/-! ### impl_StmtOk: function 96 -/
mutual
def impl_StmtOk.j0:Nat→Bool→Int→Int→Int→Int→Int→Int→Option (Bool)
 |0,_,_,_,_,_,_,_=>none
 |k+1,x28,x251000,x251001,x251002,x251003,x251004,x251005=>if x28=true then (some false) else ((impl_hasExpr.f x251000).bind fun t256=>(if t256=true then ((impl_ExprOk.f x251003 x251004 x251005).bind fun t257=>(if t257=true then ((impl_hasExpr.f x251000).bind fun t258=>(if t258=true then (impl_StmtOk.j1 k false x251000 x251001 x251002 x251003 x251004 x251005) else (impl_StmtOk.j1 k (!(x251003==0)||(!(x251004==0)||(!(x251005==0)))) x251000 x251001 x251002 x251003 x251004 x251005))) else (impl_StmtOk.j1 k true x251000 x251001 x251002 x251003 x251004 x251005))) else ((impl_hasExpr.f x251000).bind fun t259=>(if t259=true then (impl_StmtOk.j1 k false x251000 x251001 x251002 x251003 x251004 x251005) else (impl_StmtOk.j1 k (!(x251003==0)||(!(x251004==0)||(!(x251005==0)))) x251000 x251001 x251002 x251003 x251004 x251005)))))
def impl_StmtOk.j1:Nat→Bool→Int→Int→Int→Int→Int→Int→Option (Bool)
 |0,_,_,_,_,_,_,_=>none
 |k+1,x49,x251000,x251001,x251002,x251003,x251004,x251005=>if x49=true then (some false) else (if x251000=2 then ((impl_isSensor.f x251002).bind fun t260=>(some t260)) else (if x251000=5 then ((impl_within.f x251002 1 5).bind fun t261=>(some t261)) else (some (x251002==0))))
end
def impl_StmtOk.f (k:Nat) (a0_0:Int) (a0_1:Int) (a0_2:Int) (a0_3:Int) (a0_4:Int) (a0_5:Int):Option (Bool):=(impl_within.f a0_0 1 6).bind fun t251=>(if t251=true then ((impl_hasVar.f a0_0).bind fun t252=>(if t252=true then ((impl_isVar.f a0_1).bind fun t253=>(if t253=true then ((impl_hasVar.f a0_0).bind fun t254=>(if t254=true then (impl_StmtOk.j0 k false a0_0 a0_1 a0_2 a0_3 a0_4 a0_5) else (impl_StmtOk.j0 k (a0_1 != 0) a0_0 a0_1 a0_2 a0_3 a0_4 a0_5))) else (impl_StmtOk.j0 k true a0_0 a0_1 a0_2 a0_3 a0_4 a0_5))) else ((impl_hasVar.f a0_0).bind fun t255=>(if t255=true then (impl_StmtOk.j0 k false a0_0 a0_1 a0_2 a0_3 a0_4 a0_5) else (impl_StmtOk.j0 k (a0_1 != 0) a0_0 a0_1 a0_2 a0_3 a0_4 a0_5))))) else (impl_StmtOk.j0 k true a0_0 a0_1 a0_2 a0_3 a0_4 a0_5))
set_option maxHeartbeats 8000000 in
set_option maxRecDepth 100000 in
theorem impl_StmtOk.calls (k:Nat) (a0_0:Int) (a0_1:Int) (a0_2:Int) (a0_3:Int) (a0_4:Int) (a0_5:Int) (r:Bool) (w:World) (h:impl_StmtOk.f k a0_0 a0_1 a0_2 a0_3 a0_4 a0_5=some r):
  Calls Try.prog 96 #[.agg #[.int .i64 a0_0,.int .i64 a0_1,.int .i64 a0_2,.int .i64 a0_3,.int .i64 a0_4,.int .i64 a0_5]] w fun e w'=>e= .returned (.bool r)∧Below w.heap.size w w':=by
 have hu80:=Try.underlying80
 have hu62:=Try.underlying62
 have HB:=Za (Ya w.heap.size w)
 have H:((impl_within.f a0_0 1 6).bind fun t251=>(if t251=true then ((impl_hasVar.f a0_0).bind fun t252=>(if t252=true then ((impl_isVar.f a0_1).bind fun t253=>(if t253=true then ((impl_hasVar.f a0_0).bind fun t254=>(if t254=true then (impl_StmtOk.j0 k false a0_0 a0_1 a0_2 a0_3 a0_4 a0_5) else (impl_StmtOk.j0 k (a0_1 != 0) a0_0 a0_1 a0_2 a0_3 a0_4 a0_5))) else (impl_StmtOk.j0 k true a0_0 a0_1 a0_2 a0_3 a0_4 a0_5))) else ((impl_hasVar.f a0_0).bind fun t255=>(if t255=true then (impl_StmtOk.j0 k false a0_0 a0_1 a0_2 a0_3 a0_4 a0_5) else (impl_StmtOk.j0 k (a0_1 != 0) a0_0 a0_1 a0_2 a0_3 a0_4 a0_5))))) else (impl_StmtOk.j0 k true a0_0 a0_1 a0_2 a0_3 a0_4 a0_5)))=some r:=h
 clear h
 have HC2:=Za H
 clear H
 go_enter Try.func96,Try.ntmps96
 go_upto_region 1 with(first|((with_reducible refine Zp (N:=1) rfl ?_);refine Zr ?hg (N:=1) ?hd (cs:= #[.int .i64 a0_0,.int .i64 a0_1,.int .i64 a0_2,.int .i64 a0_3,.int .i64 a0_4,.int .i64 a0_5]) (t:=80) ?hr ?_;(case hd=>rfl);(case hg=>rfl);(case hr=>exact z8_6);intro gb250 hg w3 hbox hb;have BK250:=Za (hbox);have GW250:=Za ((z8_9:w.heap.size≤gb250));have GE250:=Za ((z8_9:w.heap.size≤gb250));replace HB:=Za (Zi z8_0 hb);clear hb hbox hg))
 (try simp only[Act.put,Zm,Zn,Zo])
 go_cut [28] (fun v28 wc=>∃(kq:Nat) (x28_1:Bool),v28= .bool x28_1∧Aside0 (impl_StmtOk.j0 kq x28_1 a0_0 a0_1 a0_2 a0_3 a0_4 a0_5=some r)∧Aside0 (kq≤k)∧Aside0 (wc.heap[gb250]? =some (.cells #[.int .i64 a0_0,.int .i64 a0_1,.int .i64 a0_2,.int .i64 a0_3,.int .i64 a0_4,.int .i64 a0_5] 80 (0,0)))∧Aside0 (Below w.heap.size w wc))
 case first=>
  have H:=HC2.out
  clear HC2
  replace H:=Zl H
  obtain⟨t251,A40,H⟩:=H
  replace H:(if t251=true then ((impl_hasVar.f a0_0).bind fun t252=>(if t252=true then ((impl_isVar.f a0_1).bind fun t253=>(if t253=true then ((impl_hasVar.f a0_0).bind fun t254=>(if t254=true then (impl_StmtOk.j0 k false a0_0 a0_1 a0_2 a0_3 a0_4 a0_5) else (impl_StmtOk.j0 k (a0_1 != 0) a0_0 a0_1 a0_2 a0_3 a0_4 a0_5))) else (impl_StmtOk.j0 k true a0_0 a0_1 a0_2 a0_3 a0_4 a0_5))) else ((impl_hasVar.f a0_0).bind fun t255=>(if t255=true then (impl_StmtOk.j0 k false a0_0 a0_1 a0_2 a0_3 a0_4 a0_5) else (impl_StmtOk.j0 k (a0_1 != 0) a0_0 a0_1 a0_2 a0_3 a0_4 a0_5))))) else (impl_StmtOk.j0 k true a0_0 a0_1 a0_2 a0_3 a0_4 a0_5))=some r:=H
  have A4:=Za A40
  clear A40
  by_cases c5:t251=true
  ·subst c5
   rw[if_pos rfl] at H
   replace H:=Zl H
   obtain⟨t252,A60,H⟩:=H
   replace H:(if t252=true then ((impl_isVar.f a0_1).bind fun t253=>(if t253=true then ((impl_hasVar.f a0_0).bind fun t254=>(if t254=true then (impl_StmtOk.j0 k false a0_0 a0_1 a0_2 a0_3 a0_4 a0_5) else (impl_StmtOk.j0 k (a0_1 != 0) a0_0 a0_1 a0_2 a0_3 a0_4 a0_5))) else (impl_StmtOk.j0 k true a0_0 a0_1 a0_2 a0_3 a0_4 a0_5))) else ((impl_hasVar.f a0_0).bind fun t255=>(if t255=true then (impl_StmtOk.j0 k false a0_0 a0_1 a0_2 a0_3 a0_4 a0_5) else (impl_StmtOk.j0 k (a0_1 != 0) a0_0 a0_1 a0_2 a0_3 a0_4 a0_5))))=some r:=H
   have A6:=Za A60
   clear A60
   by_cases c7:t252=true
   ·subst c7
    rw[if_pos rfl] at H
    replace H:=Zl H
    obtain⟨t253,A80,H⟩:=H
    replace H:(if t253=true then ((impl_hasVar.f a0_0).bind fun t254=>(if t254=true then (impl_StmtOk.j0 k false a0_0 a0_1 a0_2 a0_3 a0_4 a0_5) else (impl_StmtOk.j0 k (a0_1 != 0) a0_0 a0_1 a0_2 a0_3 a0_4 a0_5))) else (impl_StmtOk.j0 k true a0_0 a0_1 a0_2 a0_3 a0_4 a0_5))=some r:=H
    have A8:=Za A80
    clear A80
    by_cases c9:t253=true
    ·subst c9
     rw[if_pos rfl] at H
     replace H:=Zl H
     obtain⟨t254,A100,H⟩:=H
     replace H:(if t254=true then (impl_StmtOk.j0 k false a0_0 a0_1 a0_2 a0_3 a0_4 a0_5) else (impl_StmtOk.j0 k (a0_1 != 0) a0_0 a0_1 a0_2 a0_3 a0_4 a0_5))=some r:=H
     have A10:=Za A100
     clear A100
     by_cases c11:t254=true
     ·subst c11
      rw[if_pos rfl] at H
      have H':=Za H
      clear H
      have hcz12_0:w3.cell? ⟨gb250,0,none⟩=some (.int .i64 a0_0):=(Zb BK250.out 0).trans rfl
      have hcz12_1:w3.cell? ⟨gb250,1,none⟩=some (.int .i64 a0_1):=(Zb BK250.out 1).trans rfl
      have hcz12_2:w3.cell? ⟨gb250,2,none⟩=some (.int .i64 a0_2):=(Zb BK250.out 2).trans rfl
      have hcz12_3:w3.cell? ⟨gb250,3,none⟩=some (.int .i64 a0_3):=(Zb BK250.out 3).trans rfl
      have hcz12_4:w3.cell? ⟨gb250,4,none⟩=some (.int .i64 a0_4):=(Zb BK250.out 4).trans rfl
      have hcz12_5:w3.cell? ⟨gb250,5,none⟩=some (.int .i64 a0_5):=(Zb BK250.out 5).trans rfl
      have hfz12_0:=Zc BK250.out 0
      have hfz12_1:=Zc BK250.out 1
      have hfz12_2:=Zc BK250.out 2
      have hfz12_3:=Zc BK250.out 3
      have hfz12_4:=Zc BK250.out 4
      have hfz12_5:=Zc BK250.out 5
      go_wp2_with (first|((first|((with_reducible refine gate_callee (f:=46) rfl ?_);refine goesL_ (some 5) rfl rfl Try.func46 (by kernel_rfl) rfl #[.int .i64 a0_0,.int .i64 1,.int .i64 6] rfl z8_1 ?_;(with_reducible refine(impl_within.calls a0_0 1 6 true _ A4.out).mono ?_))|(go_at_call 46;(with_reducible refine(impl_within.calls a0_0 1 6 true _ A4.out).mono ?_)));rintro e w' ⟨rfl,⟨nd,rfl⟩⟩;(first|refine⟨_,rfl,?_⟩|skip))|(go_at_call 98;(with_reducible refine(impl_hasVar.calls a0_0 true _ A6.out).mono ?_);rintro e w' ⟨rfl,⟨nd,rfl⟩⟩)|(go_at_call 99;(with_reducible refine(impl_isVar.calls a0_1 true _ A8.out).mono ?_);rintro e w' ⟨rfl,⟨nd,rfl⟩⟩)|(go_at_call 98;(with_reducible refine(impl_hasVar.calls a0_0 true _ A10.out).mono ?_);rintro e w' ⟨rfl,⟨nd,rfl⟩⟩))
      go_meet
      case rel=>exact⟨_,(false),z8_3,H',⟨by first|omega|exact Nat.le_refl _⟩,⟨by(with_reducible repeat(first|refine blk_drewN ?_ _|refine blk_drew ?_|refine blk_alloc ?_ _));exact BK250.out⟩,⟨by repeat(first|(with_reducible first|exact HB.out|apply Zh|apply Ze|apply Zd|refine Zf ?_ GE250.out)|exact HB.out)⟩⟩
     ·replace c11:=Bool.eq_false_iff.mpr c11
      subst c11
      rw[if_neg (show ¬(false=true) by decide)] at H
      exact absurd (A6.out.symm.trans A10.out) (by simp)
    ·replace c9:=Bool.eq_false_iff.mpr c9
     subst c9
     rw[if_neg (show ¬(false=true) by decide)] at H
     have H':=Za H
     clear H
     have hcz13_0:w3.cell? ⟨gb250,0,none⟩=some (.int .i64 a0_0):=(Zb BK250.out 0).trans rfl
     have hcz13_1:w3.cell? ⟨gb250,1,none⟩=some (.int .i64 a0_1):=(Zb BK250.out 1).trans rfl
     have hcz13_2:w3.cell? ⟨gb250,2,none⟩=some (.int .i64 a0_2):=(Zb BK250.out 2).trans rfl
     have hcz13_3:w3.cell? ⟨gb250,3,none⟩=some (.int .i64 a0_3):=(Zb BK250.out 3).trans rfl
     have hcz13_4:w3.cell? ⟨gb250,4,none⟩=some (.int .i64 a0_4):=(Zb BK250.out 4).trans rfl
     have hcz13_5:w3.cell? ⟨gb250,5,none⟩=some (.int .i64 a0_5):=(Zb BK250.out 5).trans rfl
     have hfz13_0:=Zc BK250.out 0
     have hfz13_1:=Zc BK250.out 1
     have hfz13_2:=Zc BK250.out 2
     have hfz13_3:=Zc BK250.out 3
     have hfz13_4:=Zc BK250.out 4
     have hfz13_5:=Zc BK250.out 5
     go_wp2_with (first|((first|((with_reducible refine gate_callee (f:=46) rfl ?_);refine goesL_ (some 5) rfl rfl Try.func46 (by kernel_rfl) rfl #[.int .i64 a0_0,.int .i64 1,.int .i64 6] rfl z8_1 ?_;(with_reducible refine(impl_within.calls a0_0 1 6 true _ A4.out).mono ?_))|(go_at_call 46;(with_reducible refine(impl_within.calls a0_0 1 6 true _ A4.out).mono ?_)));rintro e w' ⟨rfl,⟨nd,rfl⟩⟩;(first|refine⟨_,rfl,?_⟩|skip))|(go_at_call 98;(with_reducible refine(impl_hasVar.calls a0_0 true _ A6.out).mono ?_);rintro e w' ⟨rfl,⟨nd,rfl⟩⟩)|(go_at_call 99;(with_reducible refine(impl_isVar.calls a0_1 false _ A8.out).mono ?_);rintro e w' ⟨rfl,⟨nd,rfl⟩⟩))
     go_meet
     case rel=>exact⟨_,(true),z8_3,H',⟨by first|omega|exact Nat.le_refl _⟩,⟨by(with_reducible repeat(first|refine blk_drewN ?_ _|refine blk_drew ?_|refine blk_alloc ?_ _));exact BK250.out⟩,⟨by repeat(first|(with_reducible first|exact HB.out|apply Zh|apply Ze|apply Zd|refine Zf ?_ GE250.out)|exact HB.out)⟩⟩
   ·replace c7:=Bool.eq_false_iff.mpr c7
    subst c7
    rw[if_neg (show ¬(false=true) by decide)] at H
    replace H:=Zl H
    obtain⟨t255,A140,H⟩:=H
    replace H:(if t255=true then (impl_StmtOk.j0 k false a0_0 a0_1 a0_2 a0_3 a0_4 a0_5) else (impl_StmtOk.j0 k (a0_1 != 0) a0_0 a0_1 a0_2 a0_3 a0_4 a0_5))=some r:=H
    have A14:=Za A140
    clear A140
    by_cases c15:t255=true
    ·subst c15
     rw[if_pos rfl] at H
     exact absurd (A6.out.symm.trans A14.out) (by simp)
    ·replace c15:=Bool.eq_false_iff.mpr c15
     subst c15
     rw[if_neg (show ¬(false=true) by decide)] at H
     have H':=Za H
     clear H
     have hcz16_0:w3.cell? ⟨gb250,0,none⟩=some (.int .i64 a0_0):=(Zb BK250.out 0).trans rfl
     have hcz16_1:w3.cell? ⟨gb250,1,none⟩=some (.int .i64 a0_1):=(Zb BK250.out 1).trans rfl
     have hcz16_2:w3.cell? ⟨gb250,2,none⟩=some (.int .i64 a0_2):=(Zb BK250.out 2).trans rfl
     have hcz16_3:w3.cell? ⟨gb250,3,none⟩=some (.int .i64 a0_3):=(Zb BK250.out 3).trans rfl
     have hcz16_4:w3.cell? ⟨gb250,4,none⟩=some (.int .i64 a0_4):=(Zb BK250.out 4).trans rfl
     have hcz16_5:w3.cell? ⟨gb250,5,none⟩=some (.int .i64 a0_5):=(Zb BK250.out 5).trans rfl
     have hfz16_0:=Zc BK250.out 0
     have hfz16_1:=Zc BK250.out 1
     have hfz16_2:=Zc BK250.out 2
     have hfz16_3:=Zc BK250.out 3
     have hfz16_4:=Zc BK250.out 4
     have hfz16_5:=Zc BK250.out 5
     go_wp2_with (first|((first|((with_reducible refine gate_callee (f:=46) rfl ?_);refine goesL_ (some 5) rfl rfl Try.func46 (by kernel_rfl) rfl #[.int .i64 a0_0,.int .i64 1,.int .i64 6] rfl z8_1 ?_;(with_reducible refine(impl_within.calls a0_0 1 6 true _ A4.out).mono ?_))|(go_at_call 46;(with_reducible refine(impl_within.calls a0_0 1 6 true _ A4.out).mono ?_)));rintro e w' ⟨rfl,⟨nd,rfl⟩⟩;(first|refine⟨_,rfl,?_⟩|skip))|(go_at_call 98;(with_reducible refine(impl_hasVar.calls a0_0 false _ A6.out).mono ?_);rintro e w' ⟨rfl,⟨nd,rfl⟩⟩)|(go_at_call 98;(with_reducible refine(impl_hasVar.calls a0_0 false _ A14.out).mono ?_);rintro e w' ⟨rfl,⟨nd,rfl⟩⟩))
     go_meet
     case rel=>exact⟨_,((a0_1 != 0)),z8_3,H',⟨by first|omega|exact Nat.le_refl _⟩,⟨by(with_reducible repeat(first|refine blk_drewN ?_ _|refine blk_drew ?_|refine blk_alloc ?_ _));exact BK250.out⟩,⟨by repeat(first|(with_reducible first|exact HB.out|apply Zh|apply Ze|apply Zd|refine Zf ?_ GE250.out)|exact HB.out)⟩⟩
  ·replace c5:=Bool.eq_false_iff.mpr c5
   subst c5
   rw[if_neg (show ¬(false=true) by decide)] at H
   have H':=Za H
   clear H
   have hcz17_0:w3.cell? ⟨gb250,0,none⟩=some (.int .i64 a0_0):=(Zb BK250.out 0).trans rfl
   have hcz17_1:w3.cell? ⟨gb250,1,none⟩=some (.int .i64 a0_1):=(Zb BK250.out 1).trans rfl
   have hcz17_2:w3.cell? ⟨gb250,2,none⟩=some (.int .i64 a0_2):=(Zb BK250.out 2).trans rfl
   have hcz17_3:w3.cell? ⟨gb250,3,none⟩=some (.int .i64 a0_3):=(Zb BK250.out 3).trans rfl
   have hcz17_4:w3.cell? ⟨gb250,4,none⟩=some (.int .i64 a0_4):=(Zb BK250.out 4).trans rfl
   have hcz17_5:w3.cell? ⟨gb250,5,none⟩=some (.int .i64 a0_5):=(Zb BK250.out 5).trans rfl
   have hfz17_0:=Zc BK250.out 0
   have hfz17_1:=Zc BK250.out 1
   have hfz17_2:=Zc BK250.out 2
   have hfz17_3:=Zc BK250.out 3
   have hfz17_4:=Zc BK250.out 4
   have hfz17_5:=Zc BK250.out 5
   go_wp2_with (first|((first|((with_reducible refine gate_callee (f:=46) rfl ?_);refine goesL_ (some 5) rfl rfl Try.func46 (by kernel_rfl) rfl #[.int .i64 a0_0,.int .i64 1,.int .i64 6] rfl z8_1 ?_;(with_reducible refine(impl_within.calls a0_0 1 6 false _ A4.out).mono ?_))|(go_at_call 46;(with_reducible refine(impl_within.calls a0_0 1 6 false _ A4.out).mono ?_)));rintro e w' ⟨rfl,⟨nd,rfl⟩⟩;(first|refine⟨_,rfl,?_⟩|skip)))
   go_meet
   case rel=>exact⟨_,(true),z8_3,H',⟨by first|omega|exact Nat.le_refl _⟩,⟨by(with_reducible repeat(first|refine blk_drewN ?_ _|refine blk_drew ?_|refine blk_alloc ?_ _));exact BK250.out⟩,⟨by repeat(first|(with_reducible first|exact HB.out|apply Zh|apply Ze|apply Zd|refine Zf ?_ GE250.out)|exact HB.out)⟩⟩
 case rest=>
  clear HC2
  obtain⟨kq,x28_1,rfl,HA,HJ1,BK250,HB⟩:=hcut
  cases kq with
  |zero=>exact absurd HA.out (by simp[impl_StmtOk.j0])
  |succ kj1=>
   have H:=HA.out
   clear HA
   simp only[impl_StmtOk.j0] at H
   by_cases c18:x28_1=true
   ·subst c18
    rw[if_pos rfl] at H
    obtain rfl:=Zj H
    go_wp2
    go_ret
    exact⟨by first|rfl|(simp[errW_none,errW_some]<;>rfl)|(simp[*,errW_none,errW_some]<;>rfl)|(simp[*,errW_none,errW_some,i64_w];done),by repeat(first|(with_reducible first|exact HB.out|apply Zh|apply Ze|apply Zd|refine Zf ?_ GE250.out)|exact HB.out)⟩
   ·replace c18:=Bool.eq_false_iff.mpr c18
    subst c18
    rw[if_neg (show ¬(false=true) by decide)] at H
    have HC19:=Za H
    clear H
    go_upto_region 3 with(fail)
    go_cut [49] (fun v49 wc=>∃(kq:Nat) (x49_18:Bool),v49= .bool x49_18∧Aside0 (impl_StmtOk.j1 kq x49_18 a0_0 a0_1 a0_2 a0_3 a0_4 a0_5=some r)∧Aside0 (kq≤kj1)∧Aside0 (wc.heap[gb250]? =some (.cells #[.int .i64 a0_0,.int .i64 a0_1,.int .i64 a0_2,.int .i64 a0_3,.int .i64 a0_4,.int .i64 a0_5] 80 (0,0)))∧Aside0 (Below w.heap.size w wc))
    case first=>
     have H:=HC19.out
     clear HC19
     replace H:=Zl H
     obtain⟨t256,A200,H⟩:=H
     replace H:(if t256=true then ((impl_ExprOk.f a0_3 a0_4 a0_5).bind fun t257=>(if t257=true then ((impl_hasExpr.f a0_0).bind fun t258=>(if t258=true then (impl_StmtOk.j1 kj1 false a0_0 a0_1 a0_2 a0_3 a0_4 a0_5) else (impl_StmtOk.j1 kj1 (!(a0_3==0)||(!(a0_4==0)||(!(a0_5==0)))) a0_0 a0_1 a0_2 a0_3 a0_4 a0_5))) else (impl_StmtOk.j1 kj1 true a0_0 a0_1 a0_2 a0_3 a0_4 a0_5))) else ((impl_hasExpr.f a0_0).bind fun t259=>(if t259=true then (impl_StmtOk.j1 kj1 false a0_0 a0_1 a0_2 a0_3 a0_4 a0_5) else (impl_StmtOk.j1 kj1 (!(a0_3==0)||(!(a0_4==0)||(!(a0_5==0)))) a0_0 a0_1 a0_2 a0_3 a0_4 a0_5))))=some r:=H
     have A20:=Za A200
     clear A200
     by_cases c21:t256=true
     ·subst c21
      rw[if_pos rfl] at H
      replace H:=Zl H
      obtain⟨t257,A220,H⟩:=H
      replace H:(if t257=true then ((impl_hasExpr.f a0_0).bind fun t258=>(if t258=true then (impl_StmtOk.j1 kj1 false a0_0 a0_1 a0_2 a0_3 a0_4 a0_5) else (impl_StmtOk.j1 kj1 (!(a0_3==0)||(!(a0_4==0)||(!(a0_5==0)))) a0_0 a0_1 a0_2 a0_3 a0_4 a0_5))) else (impl_StmtOk.j1 kj1 true a0_0 a0_1 a0_2 a0_3 a0_4 a0_5))=some r:=H
      have A22:=Za A220
      clear A220
      by_cases c23:t257=true
      ·subst c23
       rw[if_pos rfl] at H
       replace H:=Zl H
       obtain⟨t258,A240,H⟩:=H
       replace H:(if t258=true then (impl_StmtOk.j1 kj1 false a0_0 a0_1 a0_2 a0_3 a0_4 a0_5) else (impl_StmtOk.j1 kj1 (!(a0_3==0)||(!(a0_4==0)||(!(a0_5==0)))) a0_0 a0_1 a0_2 a0_3 a0_4 a0_5))=some r:=H
       have A24:=Za A240
       clear A240
       by_cases c25:t258=true
       ·subst c25
        rw[if_pos rfl] at H
        have H':=Za H
        clear H
        have hcz26_0:wc.cell? ⟨gb250,0,none⟩=some (.int .i64 a0_0):=(Zb BK250.out 0).trans rfl
        have hcz26_1:wc.cell? ⟨gb250,1,none⟩=some (.int .i64 a0_1):=(Zb BK250.out 1).trans rfl
        have hcz26_2:wc.cell? ⟨gb250,2,none⟩=some (.int .i64 a0_2):=(Zb BK250.out 2).trans rfl
        have hcz26_3:wc.cell? ⟨gb250,3,none⟩=some (.int .i64 a0_3):=(Zb BK250.out 3).trans rfl
        have hcz26_4:wc.cell? ⟨gb250,4,none⟩=some (.int .i64 a0_4):=(Zb BK250.out 4).trans rfl
        have hcz26_5:wc.cell? ⟨gb250,5,none⟩=some (.int .i64 a0_5):=(Zb BK250.out 5).trans rfl
        have hfz26_0:=Zc BK250.out 0
        have hfz26_1:=Zc BK250.out 1
        have hfz26_2:=Zc BK250.out 2
        have hfz26_3:=Zc BK250.out 3
        have hfz26_4:=Zc BK250.out 4
        have hfz26_5:=Zc BK250.out 5
        go_wp2_with (first|((first|((with_reducible refine gate_callee (f:=100) rfl ?_);refine goesL_ (some 31) rfl rfl Try.func100 (by kernel_rfl) rfl #[.int .i64 a0_0] rfl z8_1 ?_;(with_reducible refine(impl_hasExpr.calls a0_0 true _ A20.out).mono ?_))|(go_at_call 100;(with_reducible refine(impl_hasExpr.calls a0_0 true _ A20.out).mono ?_)));rintro e w' ⟨rfl,⟨nd,rfl⟩⟩;(first|refine⟨_,rfl,?_⟩|skip))|(go_at_call 75;(with_reducible refine(impl_ExprOk.calls a0_3 a0_4 a0_5 true _ A22.out).mono ?_);rintro e w27 ⟨rfl,hb⟩;replace BK250:=Za (Zk (g:=gb250) (o:= .cells #[.int .i64 a0_0,.int .i64 a0_1,.int .i64 a0_2,.int .i64 a0_3,.int .i64 a0_4,.int .i64 a0_5] 80 (0,0)) (by(with_reducible repeat(first|refine blk_drewN ?_ _|refine blk_drew ?_|refine blk_alloc ?_ _));exact BK250.out) hb);replace HB:=Za (Zi (by repeat(first|(with_reducible first|exact HB.out|apply Zh|apply Ze|apply Zd|refine Zf ?_ GE250.out)|exact HB.out)) hb);(try clear hb);(try clear hb2);(try clear hk);(try clear hi);have hcz28_0:w27.cell? ⟨gb250,0,none⟩=some (.int .i64 a0_0):=(Zb BK250.out 0).trans rfl;have hcz28_1:w27.cell? ⟨gb250,1,none⟩=some (.int .i64 a0_1):=(Zb BK250.out 1).trans rfl;have hcz28_2:w27.cell? ⟨gb250,2,none⟩=some (.int .i64 a0_2):=(Zb BK250.out 2).trans rfl;have hcz28_3:w27.cell? ⟨gb250,3,none⟩=some (.int .i64 a0_3):=(Zb BK250.out 3).trans rfl;have hcz28_4:w27.cell? ⟨gb250,4,none⟩=some (.int .i64 a0_4):=(Zb BK250.out 4).trans rfl;have hcz28_5:w27.cell? ⟨gb250,5,none⟩=some (.int .i64 a0_5):=(Zb BK250.out 5).trans rfl;have hfz28_0:=Zc BK250.out 0;have hfz28_1:=Zc BK250.out 1;have hfz28_2:=Zc BK250.out 2;have hfz28_3:=Zc BK250.out 3;have hfz28_4:=Zc BK250.out 4;have hfz28_5:=Zc BK250.out 5)|(go_at_call 100;(with_reducible refine(impl_hasExpr.calls a0_0 true _ A24.out).mono ?_);rintro e w' ⟨rfl,⟨nd,rfl⟩⟩))
        go_meet
        case rel=>exact⟨_,(false),z8_3,H',⟨by have:=HJ1.out;first|omega|exact Nat.le_refl _⟩,⟨by(with_reducible repeat(first|refine blk_drewN ?_ _|refine blk_drew ?_|refine blk_alloc ?_ _));exact BK250.out⟩,⟨by repeat(first|(with_reducible first|exact HB.out|apply Zh|apply Ze|apply Zd|refine Zf ?_ GE250.out)|exact HB.out)⟩⟩
       ·replace c25:=Bool.eq_false_iff.mpr c25
        subst c25
        rw[if_neg (show ¬(false=true) by decide)] at H
        exact absurd (A20.out.symm.trans A24.out) (by simp)
      ·replace c23:=Bool.eq_false_iff.mpr c23
       subst c23
       rw[if_neg (show ¬(false=true) by decide)] at H
       have H':=Za H
       clear H
       have hcz29_0:wc.cell? ⟨gb250,0,none⟩=some (.int .i64 a0_0):=(Zb BK250.out 0).trans rfl
       have hcz29_1:wc.cell? ⟨gb250,1,none⟩=some (.int .i64 a0_1):=(Zb BK250.out 1).trans rfl
       have hcz29_2:wc.cell? ⟨gb250,2,none⟩=some (.int .i64 a0_2):=(Zb BK250.out 2).trans rfl
       have hcz29_3:wc.cell? ⟨gb250,3,none⟩=some (.int .i64 a0_3):=(Zb BK250.out 3).trans rfl
       have hcz29_4:wc.cell? ⟨gb250,4,none⟩=some (.int .i64 a0_4):=(Zb BK250.out 4).trans rfl
       have hcz29_5:wc.cell? ⟨gb250,5,none⟩=some (.int .i64 a0_5):=(Zb BK250.out 5).trans rfl
       have hfz29_0:=Zc BK250.out 0
       have hfz29_1:=Zc BK250.out 1
       have hfz29_2:=Zc BK250.out 2
       have hfz29_3:=Zc BK250.out 3
       have hfz29_4:=Zc BK250.out 4
       have hfz29_5:=Zc BK250.out 5
       go_wp2_with (first|((first|((with_reducible refine gate_callee (f:=100) rfl ?_);refine goesL_ (some 31) rfl rfl Try.func100 (by kernel_rfl) rfl #[.int .i64 a0_0] rfl z8_1 ?_;(with_reducible refine(impl_hasExpr.calls a0_0 true _ A20.out).mono ?_))|(go_at_call 100;(with_reducible refine(impl_hasExpr.calls a0_0 true _ A20.out).mono ?_)));rintro e w' ⟨rfl,⟨nd,rfl⟩⟩;(first|refine⟨_,rfl,?_⟩|skip))|(go_at_call 75;(with_reducible refine(impl_ExprOk.calls a0_3 a0_4 a0_5 false _ A22.out).mono ?_);rintro e w30 ⟨rfl,hb⟩;replace BK250:=Za (Zk (g:=gb250) (o:= .cells #[.int .i64 a0_0,.int .i64 a0_1,.int .i64 a0_2,.int .i64 a0_3,.int .i64 a0_4,.int .i64 a0_5] 80 (0,0)) (by(with_reducible repeat(first|refine blk_drewN ?_ _|refine blk_drew ?_|refine blk_alloc ?_ _));exact BK250.out) hb);replace HB:=Za (Zi (by repeat(first|(with_reducible first|exact HB.out|apply Zh|apply Ze|apply Zd|refine Zf ?_ GE250.out)|exact HB.out)) hb);(try clear hb);(try clear hb2);(try clear hk);(try clear hi)))
       go_meet
       case rel=>exact⟨_,(true),z8_3,H',⟨by have:=HJ1.out;first|omega|exact Nat.le_refl _⟩,⟨by(with_reducible repeat(first|refine blk_drewN ?_ _|refine blk_drew ?_|refine blk_alloc ?_ _));exact BK250.out⟩,⟨by repeat(first|(with_reducible first|exact HB.out|apply Zh|apply Ze|apply Zd|refine Zf ?_ GE250.out)|exact HB.out)⟩⟩
     ·replace c21:=Bool.eq_false_iff.mpr c21
      subst c21
      rw[if_neg (show ¬(false=true) by decide)] at H
      replace H:=Zl H
      obtain⟨t259,A310,H⟩:=H
      replace H:(if t259=true then (impl_StmtOk.j1 kj1 false a0_0 a0_1 a0_2 a0_3 a0_4 a0_5) else (impl_StmtOk.j1 kj1 (!(a0_3==0)||(!(a0_4==0)||(!(a0_5==0)))) a0_0 a0_1 a0_2 a0_3 a0_4 a0_5))=some r:=H
      have A31:=Za A310
      clear A310
      by_cases c32:t259=true
      ·subst c32
       rw[if_pos rfl] at H
       exact absurd (A20.out.symm.trans A31.out) (by simp)
      ·replace c32:=Bool.eq_false_iff.mpr c32
       subst c32
       rw[if_neg (show ¬(false=true) by decide)] at H
       have H':=Za H
       clear H
       have hcz33_0:wc.cell? ⟨gb250,0,none⟩=some (.int .i64 a0_0):=(Zb BK250.out 0).trans rfl
       have hcz33_1:wc.cell? ⟨gb250,1,none⟩=some (.int .i64 a0_1):=(Zb BK250.out 1).trans rfl
       have hcz33_2:wc.cell? ⟨gb250,2,none⟩=some (.int .i64 a0_2):=(Zb BK250.out 2).trans rfl
       have hcz33_3:wc.cell? ⟨gb250,3,none⟩=some (.int .i64 a0_3):=(Zb BK250.out 3).trans rfl
       have hcz33_4:wc.cell? ⟨gb250,4,none⟩=some (.int .i64 a0_4):=(Zb BK250.out 4).trans rfl
       have hcz33_5:wc.cell? ⟨gb250,5,none⟩=some (.int .i64 a0_5):=(Zb BK250.out 5).trans rfl
       have hfz33_0:=Zc BK250.out 0
       have hfz33_1:=Zc BK250.out 1
       have hfz33_2:=Zc BK250.out 2
       have hfz33_3:=Zc BK250.out 3
       have hfz33_4:=Zc BK250.out 4
       have hfz33_5:=Zc BK250.out 5
       go_wp2_with (first|((first|((with_reducible refine gate_callee (f:=100) rfl ?_);refine goesL_ (some 31) rfl rfl Try.func100 (by kernel_rfl) rfl #[.int .i64 a0_0] rfl z8_1 ?_;(with_reducible refine(impl_hasExpr.calls a0_0 false _ A20.out).mono ?_))|(go_at_call 100;(with_reducible refine(impl_hasExpr.calls a0_0 false _ A20.out).mono ?_)));rintro e w' ⟨rfl,⟨nd,rfl⟩⟩;(first|refine⟨_,rfl,?_⟩|skip))|(go_at_call 100;(with_reducible refine(impl_hasExpr.calls a0_0 false _ A31.out).mono ?_);rintro e w' ⟨rfl,⟨nd,rfl⟩⟩))
       go_meet
       case rel=>exact⟨_,((!(a0_3==0)||(!(a0_4==0)||(!(a0_5==0))))),z8_3,H',⟨by have:=HJ1.out;first|omega|exact Nat.le_refl _⟩,⟨by(with_reducible repeat(first|refine blk_drewN ?_ _|refine blk_drew ?_|refine blk_alloc ?_ _));exact BK250.out⟩,⟨by repeat(first|(with_reducible first|exact HB.out|apply Zh|apply Ze|apply Zd|refine Zf ?_ GE250.out)|exact HB.out)⟩⟩
    case rest=>
     clear HC19
     (try clear c18)
     obtain⟨kq,x49_18,rfl,HA,HJ18,BK250,HB⟩:=hcut
     cases kq with
     |zero=>exact absurd HA.out (by simp[impl_StmtOk.j1])
     |succ kj18=>
      have H:=HA.out
      clear HA
      simp only[impl_StmtOk.j1] at H
      by_cases c34:x49_18=true
      ·subst c34
       rw[if_pos rfl] at H
       obtain rfl:=Zj H
       go_wp2
       go_ret
       exact⟨by first|rfl|(simp[errW_none,errW_some]<;>rfl)|(simp[*,errW_none,errW_some]<;>rfl)|(simp[*,errW_none,errW_some,i64_w];done),by repeat(first|(with_reducible first|exact HB.out|apply Zh|apply Ze|apply Zd|refine Zf ?_ GE250.out)|exact HB.out)⟩
      ·replace c34:=Bool.eq_false_iff.mpr c34
       subst c34
       rw[if_neg (show ¬(false=true) by decide)] at H
       by_cases c35:a0_0=2
       ·rw[if_pos c35] at H
        have c35b0:(a0_0==2)=true:=beq_iff_eq.mpr c35
        have c35b1:(a0_0 != 2)=false:=bne_eq_false_iff_eq.mpr c35
        clear c35
        replace H:=Zl H
        obtain⟨t260,A360,H⟩:=H
        replace H:(some t260)=some r:=H
        have A36:=Za A360
        clear A360
        obtain rfl:=Zj H
        have hcz37_0:wc.cell? ⟨gb250,0,none⟩=some (.int .i64 a0_0):=(Zb BK250.out 0).trans rfl
        have hcz37_1:wc.cell? ⟨gb250,1,none⟩=some (.int .i64 a0_1):=(Zb BK250.out 1).trans rfl
        have hcz37_2:wc.cell? ⟨gb250,2,none⟩=some (.int .i64 a0_2):=(Zb BK250.out 2).trans rfl
        have hcz37_3:wc.cell? ⟨gb250,3,none⟩=some (.int .i64 a0_3):=(Zb BK250.out 3).trans rfl
        have hcz37_4:wc.cell? ⟨gb250,4,none⟩=some (.int .i64 a0_4):=(Zb BK250.out 4).trans rfl
        have hcz37_5:wc.cell? ⟨gb250,5,none⟩=some (.int .i64 a0_5):=(Zb BK250.out 5).trans rfl
        have hfz37_0:=Zc BK250.out 0
        have hfz37_1:=Zc BK250.out 1
        have hfz37_2:=Zc BK250.out 2
        have hfz37_3:=Zc BK250.out 3
        have hfz37_4:=Zc BK250.out 4
        have hfz37_5:=Zc BK250.out 5
        go_wp2_with (first|((first|((with_reducible refine gate_callee (f:=61) rfl ?_);refine goesL_ (some 56) rfl rfl Try.func61 (by kernel_rfl) rfl #[.int .i64 a0_2] rfl z8_1 ?_;(with_reducible refine(impl_isSensor.calls a0_2 t260 _ A36.out).mono ?_))|(go_at_call 61;(with_reducible refine(impl_isSensor.calls a0_2 t260 _ A36.out).mono ?_)));rintro e w' ⟨rfl,⟨nd,rfl⟩⟩;(first|refine⟨_,rfl,?_⟩|skip)))
        go_ret
        exact⟨by first|rfl|(simp[errW_none,errW_some]<;>rfl)|(simp[*,errW_none,errW_some]<;>rfl)|(simp[*,errW_none,errW_some,i64_w];done),by repeat(first|(with_reducible first|exact HB.out|apply Zh|apply Ze|apply Zd|refine Zf ?_ GE250.out)|exact HB.out)⟩
       ·rw[if_neg c35] at H
        have c35b0:(a0_0==2)=false:=beq_eq_false_iff_ne.mpr c35
        have c35b1:(a0_0 != 2)=true:=bne_iff_ne.mpr c35
        by_cases c38:a0_0=5
        ·rw[if_pos c38] at H
         have c38b0:(a0_0==5)=true:=beq_iff_eq.mpr c38
         have c38b1:(a0_0 != 5)=false:=bne_eq_false_iff_eq.mpr c38
         clear c38
         replace H:=Zl H
         obtain⟨t261,A390,H⟩:=H
         replace H:(some t261)=some r:=H
         have A39:=Za A390
         clear A390
         obtain rfl:=Zj H
         have hcz40_0:wc.cell? ⟨gb250,0,none⟩=some (.int .i64 a0_0):=(Zb BK250.out 0).trans rfl
         have hcz40_1:wc.cell? ⟨gb250,1,none⟩=some (.int .i64 a0_1):=(Zb BK250.out 1).trans rfl
         have hcz40_2:wc.cell? ⟨gb250,2,none⟩=some (.int .i64 a0_2):=(Zb BK250.out 2).trans rfl
         have hcz40_3:wc.cell? ⟨gb250,3,none⟩=some (.int .i64 a0_3):=(Zb BK250.out 3).trans rfl
         have hcz40_4:wc.cell? ⟨gb250,4,none⟩=some (.int .i64 a0_4):=(Zb BK250.out 4).trans rfl
         have hcz40_5:wc.cell? ⟨gb250,5,none⟩=some (.int .i64 a0_5):=(Zb BK250.out 5).trans rfl
         have hfz40_0:=Zc BK250.out 0
         have hfz40_1:=Zc BK250.out 1
         have hfz40_2:=Zc BK250.out 2
         have hfz40_3:=Zc BK250.out 3
         have hfz40_4:=Zc BK250.out 4
         have hfz40_5:=Zc BK250.out 5
         go_wp2_with (first|((first|((with_reducible refine gate_callee (f:=46) rfl ?_);refine goesL_ (some 61) rfl rfl Try.func46 (by kernel_rfl) rfl #[.int .i64 a0_2,.int .i64 1,.int .i64 5] rfl z8_1 ?_;(with_reducible refine(impl_within.calls a0_2 1 5 t261 _ A39.out).mono ?_))|(go_at_call 46;(with_reducible refine(impl_within.calls a0_2 1 5 t261 _ A39.out).mono ?_)));rintro e w' ⟨rfl,⟨nd,rfl⟩⟩;(first|refine⟨_,rfl,?_⟩|skip)))
         go_ret
         exact⟨by first|rfl|(simp[errW_none,errW_some]<;>rfl)|(simp[*,errW_none,errW_some]<;>rfl)|(simp[*,errW_none,errW_some,i64_w];done),by repeat(first|(with_reducible first|exact HB.out|apply Zh|apply Ze|apply Zd|refine Zf ?_ GE250.out)|exact HB.out)⟩
        ·rw[if_neg c38] at H
         have c38b0:(a0_0==5)=false:=beq_eq_false_iff_ne.mpr c38
         have c38b1:(a0_0 != 5)=true:=bne_iff_ne.mpr c38
         obtain rfl:=Zj H
         have hcz41_0:wc.cell? ⟨gb250,0,none⟩=some (.int .i64 a0_0):=(Zb BK250.out 0).trans rfl
         have hcz41_1:wc.cell? ⟨gb250,1,none⟩=some (.int .i64 a0_1):=(Zb BK250.out 1).trans rfl
         have hcz41_2:wc.cell? ⟨gb250,2,none⟩=some (.int .i64 a0_2):=(Zb BK250.out 2).trans rfl
         have hcz41_3:wc.cell? ⟨gb250,3,none⟩=some (.int .i64 a0_3):=(Zb BK250.out 3).trans rfl
         have hcz41_4:wc.cell? ⟨gb250,4,none⟩=some (.int .i64 a0_4):=(Zb BK250.out 4).trans rfl
         have hcz41_5:wc.cell? ⟨gb250,5,none⟩=some (.int .i64 a0_5):=(Zb BK250.out 5).trans rfl
         have hfz41_0:=Zc BK250.out 0
         have hfz41_1:=Zc BK250.out 1
         have hfz41_2:=Zc BK250.out 2
         have hfz41_3:=Zc BK250.out 3
         have hfz41_4:=Zc BK250.out 4
         have hfz41_5:=Zc BK250.out 5
         go_wp2
         go_ret
         exact⟨by first|rfl|(simp[errW_none,errW_some]<;>rfl)|(simp[*,errW_none,errW_some]<;>rfl)|(simp[*,errW_none,errW_some,i64_w];done),by repeat(first|(with_reducible first|exact HB.out|apply Zh|apply Ze|apply Zd|refine Zf ?_ GE250.out)|exact HB.out)⟩
/-! ### impl_BlockOk: function 91 -/
mutual
def impl_BlockOk.l0:Nat→List (S80)→Int→List (S80)→Int→Int→Option (Bool)
 |0,_,_,_,_,_=>none
 |k+1,x0,x3,x6,x7,x8=>if x8<x7 then (if 0≤x8 then (if x8<(x6.length:Int) then ((impl_StmtOk.f k ((rd_T80 x6 x8).f0) ((rd_T80 x6 x8).f1) ((rd_T80 x6 x8).f2) ((rd_T80 x6 x8).f3.f0) ((rd_T80 x6 x8).f3.f1) ((rd_T80 x6 x8).f3.f2)).bind fun t264=>(if t264=true then ((impl_isOpening.f ((rd_T80 x6 x8).f0)).bind fun t265=>(if t265=true then (impl_BlockOk.j1 k x0 (wrap64 (x3+1)) x6 x7 x8 ((rd_T80 x6 x8).f0) ((rd_T80 x6 x8).f1) ((rd_T80 x6 x8).f2) ((rd_T80 x6 x8).f3.f0) ((rd_T80 x6 x8).f3.f1) ((rd_T80 x6 x8).f3.f2)) else (impl_BlockOk.j1 k x0 x3 x6 x7 x8 ((rd_T80 x6 x8).f0) ((rd_T80 x6 x8).f1) ((rd_T80 x6 x8).f2) ((rd_T80 x6 x8).f3.f0) ((rd_T80 x6 x8).f3.f1) ((rd_T80 x6 x8).f3.f2)))) else (some false))) else (none)) else (none)) else (if x3=0 then (some (decide ((x0.length:Int)≤24))) else (some false))
def impl_BlockOk.j1:Nat→List (S80)→Int→List (S80)→Int→Int→Int→Int→Int→Int→Int→Int→Option (Bool)
 |0,_,_,_,_,_,_,_,_,_,_,_=>none
 |k+1,x0,x3,x6,x7,x8,x264000,x264001,x264002,x264003,x264004,x264005=>if x264000=6 then (if (wrap64 (x3 - 1))<0 then (some false) else (if (wrap64 (x3 - 1)) > 3 then (some false) else (impl_BlockOk.l0 k x0 (wrap64 (x3 - 1)) x6 x7 (wrap64 (x8+1))))) else (if x3<0 then (some false) else (if x3 > 3 then (some false) else (impl_BlockOk.l0 k x0 x3 x6 x7 (wrap64 (x8+1)))))
end
def impl_BlockOk.f (k:Nat) (l0:List (S80)):Option (Bool):=impl_BlockOk.l0 k l0 0 l0 (l0.length:Int) 0
set_option maxHeartbeats 8000000 in
set_option maxRecDepth 100000 in
theorem impl_BlockOk.calls (k:Nat) (A0:Option Addr) (c0:Nat) (l0:List (S80)) (r:Bool) (w:World) (hr0:Kd.C k80 w A0 l0.length l0) (hc0:l0.length≤c0) (h:impl_BlockOk.f k l0=some r):
  Calls Try.prog 91 #[.slice A0 l0.length c0] w fun e w'=>e= .returned (.bool r)∧Below w.heap.size w w':=by
 have hu80:=Try.underlying80
 have HR0:=Za hr0
 have HC0:=Za hc0
 clear hr0 hc0
 have HB:=Za (Ya w.heap.size w)
 have H:(impl_BlockOk.l0 k l0 0 l0 (l0.length:Int) 0)=some r:=h
 clear h
 have H':=Za H
 clear H
 go_enter Try.func91,Try.ntmps91
 go_wp2
 go_loopg [3,8] k (fun kq v3 v8 w'=>∃(x3_1:Int) (x8_1:Int),v3= .int .i64 x3_1∧v8= .int .i64 x8_1∧Aside0 (impl_BlockOk.l0 kq l0 x3_1 l0 (l0.length:Int) x8_1=some r)∧Aside0 (kq≤k)∧Aside0 (Below w.heap.size w w'))
 case atStart=>exact⟨(0),(0),z8_3,z8_3,H',⟨Nat.le_refl _⟩,⟨by repeat(first|(with_reducible first|exact HB.out|apply Zh|apply Ze|apply Zd)|exact HB.out)⟩⟩
 case round=>
  clear H'
  obtain⟨x3_1,x8_1,rfl,rfl,HA,HK1,HB⟩:=hrel
  cases gk with
  |zero=>exact absurd HA.out (by simp[impl_BlockOk.l0])
  |succ k1=>
   have H:=HA.out
   clear HA
   simp only[impl_BlockOk.l0] at H
   by_cases c2:x8_1<(l0.length:Int)
   ·rw[if_pos c2] at H
    have c2b0:decide (x8_1<(l0.length:Int))=true:=Zt c2
    clear c2
    by_cases c3:0≤x8_1
    ·rw[if_pos c3] at H
     have c3b0:decide (0≤x8_1)=true:=Zt c3
     clear c3
     by_cases c4:x8_1<(l0.length:Int)
     ·rw[if_pos c4] at H
      have c4b0:decide (x8_1<(l0.length:Int))=true:=Zt c4
      clear c4
      replace H:=Zl H
      obtain⟨t264,A50,H⟩:=H
      replace H:(if t264=true then ((impl_isOpening.f ((rd_T80 l0 x8_1).f0)).bind fun t265=>(if t265=true then (impl_BlockOk.j1 k1 l0 (wrap64 (x3_1+1)) l0 (l0.length:Int) x8_1 ((rd_T80 l0 x8_1).f0) ((rd_T80 l0 x8_1).f1) ((rd_T80 l0 x8_1).f2) ((rd_T80 l0 x8_1).f3.f0) ((rd_T80 l0 x8_1).f3.f1) ((rd_T80 l0 x8_1).f3.f2)) else (impl_BlockOk.j1 k1 l0 x3_1 l0 (l0.length:Int) x8_1 ((rd_T80 l0 x8_1).f0) ((rd_T80 l0 x8_1).f1) ((rd_T80 l0 x8_1).f2) ((rd_T80 l0 x8_1).f3.f0) ((rd_T80 l0 x8_1).f3.f1) ((rd_T80 l0 x8_1).f3.f2)))) else (some false))=some r:=H
      have A5:=Za A50
      clear A50
      by_cases c6:t264=true
      ·subst c6
       rw[if_pos rfl] at H
       replace H:=Zl H
       obtain⟨t265,A70,H⟩:=H
       replace H:(if t265=true then (impl_BlockOk.j1 k1 l0 (wrap64 (x3_1+1)) l0 (l0.length:Int) x8_1 ((rd_T80 l0 x8_1).f0) ((rd_T80 l0 x8_1).f1) ((rd_T80 l0 x8_1).f2) ((rd_T80 l0 x8_1).f3.f0) ((rd_T80 l0 x8_1).f3.f1) ((rd_T80 l0 x8_1).f3.f2)) else (impl_BlockOk.j1 k1 l0 x3_1 l0 (l0.length:Int) x8_1 ((rd_T80 l0 x8_1).f0) ((rd_T80 l0 x8_1).f1) ((rd_T80 l0 x8_1).f2) ((rd_T80 l0 x8_1).f3.f0) ((rd_T80 l0 x8_1).f3.f1) ((rd_T80 l0 x8_1).f3.f2)))=some r:=H
       have A7:=Za A70
       clear A70
       have HC8:=Za H
       clear H
       have p262:0≤(x8_1:Int):=Zs (by first|(with_reducible assumption)|assumption)
       have q262:x8_1<(l0.length:Int):=Zs (by first|(with_reducible assumption)|assumption)
       obtain⟨ad262,e262,hx262_0,hx262_1,hx262_2,hx262_3,hx262_4,hx262_5⟩:=at_T80 HR0.out x8_1 p262 q262
       cases e262
       replace hx262_0:=(HB.out.cell (Zg w _ hx262_0)).trans hx262_0
       replace hx262_1:=(HB.out.cell (Zg w _ hx262_1)).trans hx262_1
       replace hx262_2:=(HB.out.cell (Zg w _ hx262_2)).trans hx262_2
       replace hx262_3:=(HB.out.cell (Zg w _ hx262_3)).trans hx262_3
       replace hx262_4:=(HB.out.cell (Zg w _ hx262_4)).trans hx262_4
       replace hx262_5:=(HB.out.cell (Zg w _ hx262_5)).trans hx262_5
       replace p262:=eq_true p262
       replace q262:=eq_true q262
       go_upto_if 17 with(first|((with_reducible refine Zp (N:=5) rfl ?_);(try(refine gate_guard (by rfl) ?_;dsimp only));refine Zr ?hg (N:=5) ?hd (cs:= #[.int .i64 0,.int .i64 0,.int .i64 0,.int .i64 0,.int .i64 0,.int .i64 0]) (t:=80) ?hr ?_;(case hd=>rfl);(case hg=>rfl);(case hr=>exact z8_6);intro gb263 hg w9 hbox hb;have BK263:=Za (hbox);have GW263:=Za ((z8_9:w.heap.size≤gb263));have GE263:=Za ((z8_9:w.heap.size≤gb263));replace HB:=Za (Zi z8_0 hb);clear hb hbox hg;have hcz10_0:w9.cell? ⟨gb263,0,none⟩=some (.int .i64 0):=(Zb BK263.out 0).trans rfl;have hcz10_1:w9.cell? ⟨gb263,1,none⟩=some (.int .i64 0):=(Zb BK263.out 1).trans rfl;have hcz10_2:w9.cell? ⟨gb263,2,none⟩=some (.int .i64 0):=(Zb BK263.out 2).trans rfl;have hcz10_3:w9.cell? ⟨gb263,3,none⟩=some (.int .i64 0):=(Zb BK263.out 3).trans rfl;have hcz10_4:w9.cell? ⟨gb263,4,none⟩=some (.int .i64 0):=(Zb BK263.out 4).trans rfl;have hcz10_5:w9.cell? ⟨gb263,5,none⟩=some (.int .i64 0):=(Zb BK263.out 5).trans rfl;have hfz10_0:=Zc BK263.out 0;have hfz10_1:=Zc BK263.out 1;have hfz10_2:=Zc BK263.out 2;have hfz10_3:=Zc BK263.out 3;have hfz10_4:=Zc BK263.out 4;have hfz10_5:=Zc BK263.out 5)|((with_reducible refine Yh (t:=80) (p:=5) rfl ?_);refine Yg (t:=80) (p:=5) (v:= ?vo_w11) (w1:=((((((w9.setCell ⟨gb263,0,none⟩ (.int .i64 ((rd_T80 l0 x8_1).f0))).setCell ⟨gb263,1,none⟩ (.int .i64 ((rd_T80 l0 x8_1).f1))).setCell ⟨gb263,2,none⟩ (.int .i64 ((rd_T80 l0 x8_1).f2))).setCell ⟨gb263,3,none⟩ (.int .i64 ((rd_T80 l0 x8_1).f3.f0))).setCell ⟨gb263,4,none⟩ (.int .i64 ((rd_T80 l0 x8_1).f3.f1))).setCell ⟨gb263,5,none⟩ (.int .i64 ((rd_T80 l0 x8_1).f3.f2)))) ?hg ?ho ?hn ?hr ?_;(case ho=>rfl);(case hg=>rfl);(case hn=>rfl);(case hr=>exact z8_6);intro w11 hw;have n0_:Aside0 (w11.heap[gb263]? =some (.cells #[.int .i64 ((rd_T80 l0 x8_1).f0),.int .i64 ((rd_T80 l0 x8_1).f1),.int .i64 ((rd_T80 l0 x8_1).f2),.int .i64 ((rd_T80 l0 x8_1).f3.f0),.int .i64 ((rd_T80 l0 x8_1).f3.f1),.int .i64 ((rd_T80 l0 x8_1).f3.f2)] 80 (0,0))):=⟨z8_2⟩;have n1_:Aside0 (Below w.heap.size w w11):=⟨(by rw[hw];exact z8_5)⟩;clear hw;clear BK263;clear HB;have BK263:=n0_;have HB:=n1_;clear n0_ n1_;have hcz12_0:w11.cell? ⟨gb263,0,none⟩=some (.int .i64 ((rd_T80 l0 x8_1).f0)):=(Zb BK263.out 0).trans rfl;have hcz12_1:w11.cell? ⟨gb263,1,none⟩=some (.int .i64 ((rd_T80 l0 x8_1).f1)):=(Zb BK263.out 1).trans rfl;have hcz12_2:w11.cell? ⟨gb263,2,none⟩=some (.int .i64 ((rd_T80 l0 x8_1).f2)):=(Zb BK263.out 2).trans rfl;have hcz12_3:w11.cell? ⟨gb263,3,none⟩=some (.int .i64 ((rd_T80 l0 x8_1).f3.f0)):=(Zb BK263.out 3).trans rfl;have hcz12_4:w11.cell? ⟨gb263,4,none⟩=some (.int .i64 ((rd_T80 l0 x8_1).f3.f1)):=(Zb BK263.out 4).trans rfl;have hcz12_5:w11.cell? ⟨gb263,5,none⟩=some (.int .i64 ((rd_T80 l0 x8_1).f3.f2)):=(Zb BK263.out 5).trans rfl;have hfz12_0:=Zc BK263.out 0;have hfz12_1:=Zc BK263.out 1;have hfz12_2:=Zc BK263.out 2;have hfz12_3:=Zc BK263.out 3;have hfz12_4:=Zc BK263.out 4;have hfz12_5:=Zc BK263.out 5)|((first|((with_reducible refine gate_callee (f:=96) rfl ?_);refine goesL_ (some 13) rfl rfl Try.func96 (by kernel_rfl) rfl #[.agg #[.int .i64 ((rd_T80 l0 x8_1).f0),.int .i64 ((rd_T80 l0 x8_1).f1),.int .i64 ((rd_T80 l0 x8_1).f2),.int .i64 ((rd_T80 l0 x8_1).f3.f0),.int .i64 ((rd_T80 l0 x8_1).f3.f1),.int .i64 ((rd_T80 l0 x8_1).f3.f2)]] rfl z8_1 ?_;(with_reducible refine(impl_StmtOk.calls k1 ((rd_T80 l0 x8_1).f0) ((rd_T80 l0 x8_1).f1) ((rd_T80 l0 x8_1).f2) ((rd_T80 l0 x8_1).f3.f0) ((rd_T80 l0 x8_1).f3.f1) ((rd_T80 l0 x8_1).f3.f2) true _ A5.out).mono ?_))|(go_at_call 96;(with_reducible refine(impl_StmtOk.calls k1 ((rd_T80 l0 x8_1).f0) ((rd_T80 l0 x8_1).f1) ((rd_T80 l0 x8_1).f2) ((rd_T80 l0 x8_1).f3.f0) ((rd_T80 l0 x8_1).f3.f1) ((rd_T80 l0 x8_1).f3.f2) true _ A5.out).mono ?_)));rintro e w13 ⟨rfl,hb⟩;(first|refine⟨_,rfl,?_⟩|skip);replace BK263:=Za (Zk (g:=gb263) (o:= .cells #[.int .i64 ((rd_T80 l0 x8_1).f0),.int .i64 ((rd_T80 l0 x8_1).f1),.int .i64 ((rd_T80 l0 x8_1).f2),.int .i64 ((rd_T80 l0 x8_1).f3.f0),.int .i64 ((rd_T80 l0 x8_1).f3.f1),.int .i64 ((rd_T80 l0 x8_1).f3.f2)] 80 (0,0)) (by(with_reducible repeat(first|refine blk_drewN ?_ _|refine blk_drew ?_|refine blk_alloc ?_ _));exact BK263.out) hb);replace HB:=Za (Zi z8_5 hb);(try clear hb);(try clear hb2);(try clear hk);(try clear hi);have hcz14_0:w13.cell? ⟨gb263,0,none⟩=some (.int .i64 ((rd_T80 l0 x8_1).f0)):=(Zb BK263.out 0).trans rfl;have hcz14_1:w13.cell? ⟨gb263,1,none⟩=some (.int .i64 ((rd_T80 l0 x8_1).f1)):=(Zb BK263.out 1).trans rfl;have hcz14_2:w13.cell? ⟨gb263,2,none⟩=some (.int .i64 ((rd_T80 l0 x8_1).f2)):=(Zb BK263.out 2).trans rfl;have hcz14_3:w13.cell? ⟨gb263,3,none⟩=some (.int .i64 ((rd_T80 l0 x8_1).f3.f0)):=(Zb BK263.out 3).trans rfl;have hcz14_4:w13.cell? ⟨gb263,4,none⟩=some (.int .i64 ((rd_T80 l0 x8_1).f3.f1)):=(Zb BK263.out 4).trans rfl;have hcz14_5:w13.cell? ⟨gb263,5,none⟩=some (.int .i64 ((rd_T80 l0 x8_1).f3.f2)):=(Zb BK263.out 5).trans rfl;have hfz14_0:=Zc BK263.out 0;have hfz14_1:=Zc BK263.out 1;have hfz14_2:=Zc BK263.out 2;have hfz14_3:=Zc BK263.out 3;have hfz14_4:=Zc BK263.out 4;have hfz14_5:=Zc BK263.out 5)|((first|((with_reducible refine gate_callee (f:=72) rfl ?_);refine goesL_ (some 17) rfl rfl Try.func72 (by kernel_rfl) rfl #[.int .i64 ((rd_T80 l0 x8_1).f0)] rfl z8_1 ?_;(with_reducible refine(impl_isOpening.calls ((rd_T80 l0 x8_1).f0) t265 _ A7.out).mono ?_))|(go_at_call 72;(with_reducible refine(impl_isOpening.calls ((rd_T80 l0 x8_1).f0) t265 _ A7.out).mono ?_)));rintro e w' ⟨rfl,⟨nd,rfl⟩⟩;(first|refine⟨_,rfl,?_⟩|skip)))
       (try simp only[Act.put,Zm,Zn,Zo])
       go_cut [3] (fun v3 wc=>∃(kq:Nat) (x3_7:Int),v3= .int .i64 x3_7∧Aside0 (impl_BlockOk.j1 kq l0 x3_7 l0 (l0.length:Int) x8_1 ((rd_T80 l0 x8_1).f0) ((rd_T80 l0 x8_1).f1) ((rd_T80 l0 x8_1).f2) ((rd_T80 l0 x8_1).f3.f0) ((rd_T80 l0 x8_1).f3.f1) ((rd_T80 l0 x8_1).f3.f2)=some r)∧Aside0 (kq≤k1)∧Aside0 (wc.heap[gb263]? =some (.cells #[.int .i64 ((rd_T80 l0 x8_1).f0),.int .i64 ((rd_T80 l0 x8_1).f1),.int .i64 ((rd_T80 l0 x8_1).f2),.int .i64 ((rd_T80 l0 x8_1).f3.f0),.int .i64 ((rd_T80 l0 x8_1).f3.f1),.int .i64 ((rd_T80 l0 x8_1).f3.f2)] 80 (0,0)))∧Aside0 (Below w.heap.size w wc))
       case first=>
        have H:=HC8.out
        clear HC8
        by_cases c15:t265=true
        ·subst c15
         rw[if_pos rfl] at H
         have H':=Za H
         clear H
         go_wp2
         go_meet
         case rel=>exact⟨_,(wrap64 (x3_1+1)),z8_3,H',⟨by have:=HK1.out;first|omega|exact Nat.le_refl _⟩,⟨by(with_reducible repeat(first|refine blk_drewN ?_ _|refine blk_drew ?_|refine blk_alloc ?_ _));exact BK263.out⟩,⟨by repeat(first|(with_reducible first|exact HB.out|apply Zh|apply Ze|apply Zd|refine Zf ?_ GE263.out)|exact HB.out)⟩⟩
        ·replace c15:=Bool.eq_false_iff.mpr c15
         subst c15
         rw[if_neg (show ¬(false=true) by decide)] at H
         have H':=Za H
         clear H
         go_wp2
         go_meet
         case rel=>exact⟨_,(x3_1),z8_3,H',⟨by have:=HK1.out;first|omega|exact Nat.le_refl _⟩,⟨by(with_reducible repeat(first|refine blk_drewN ?_ _|refine blk_drew ?_|refine blk_alloc ?_ _));exact BK263.out⟩,⟨by repeat(first|(with_reducible first|exact HB.out|apply Zh|apply Ze|apply Zd|refine Zf ?_ GE263.out)|exact HB.out)⟩⟩
       case rest=>
        clear HC8
        (try clear c2);(try clear c2b0);(try clear c3);(try clear c3b0);(try clear c4);(try clear c4b0);(try clear c6);(try clear hcz10_0);(try clear hcz10_1);(try clear hcz10_2);(try clear hcz10_3);(try clear hcz10_4);(try clear hcz10_5);(try clear hcz12_0);(try clear hcz12_1);(try clear hcz12_2);(try clear hcz12_3);(try clear hcz12_4);(try clear hcz12_5);(try clear hcz14_0);(try clear hcz14_1);(try clear hcz14_2);(try clear hcz14_3);(try clear hcz14_4);(try clear hcz14_5);(try clear hfz10_0);(try clear hfz10_1);(try clear hfz10_2);(try clear hfz10_3);(try clear hfz10_4);(try clear hfz10_5);(try clear hfz12_0);(try clear hfz12_1);(try clear hfz12_2);(try clear hfz12_3);(try clear hfz12_4);(try clear hfz12_5);(try clear hfz14_0);(try clear hfz14_1);(try clear hfz14_2);(try clear hfz14_3);(try clear hfz14_4);(try clear hfz14_5);(try clear hx262_0);(try clear hx262_1);(try clear hx262_2);(try clear hx262_3);(try clear hx262_4);(try clear hx262_5);(try clear p262);(try clear q262)
        obtain⟨kq,x3_7,rfl,HA,HJ7,BK263,HB⟩:=hcut
        cases kq with
        |zero=>exact absurd HA.out (by simp[impl_BlockOk.j1])
        |succ kj7=>
         have H:=HA.out
         clear HA
         simp only[impl_BlockOk.j1] at H
         by_cases c16:((rd_T80 l0 x8_1).f0)=6
         ·rw[if_pos c16] at H
          have c16b0:(((rd_T80 l0 x8_1).f0)==6)=true:=beq_iff_eq.mpr c16
          have c16b1:(((rd_T80 l0 x8_1).f0) != 6)=false:=bne_eq_false_iff_eq.mpr c16
          clear c16
          by_cases c17:(wrap64 (x3_7 - 1))<0
          ·rw[if_pos c17] at H
           have c17b0:decide ((wrap64 (x3_7 - 1))<0)=true:=Zt c17
           clear c17
           obtain rfl:=Zj H
           have hcz18_0:wc.cell? ⟨gb263,0,none⟩=some (.int .i64 ((rd_T80 l0 x8_1).f0)):=(Zb BK263.out 0).trans rfl
           have hcz18_1:wc.cell? ⟨gb263,1,none⟩=some (.int .i64 ((rd_T80 l0 x8_1).f1)):=(Zb BK263.out 1).trans rfl
           have hcz18_2:wc.cell? ⟨gb263,2,none⟩=some (.int .i64 ((rd_T80 l0 x8_1).f2)):=(Zb BK263.out 2).trans rfl
           have hcz18_3:wc.cell? ⟨gb263,3,none⟩=some (.int .i64 ((rd_T80 l0 x8_1).f3.f0)):=(Zb BK263.out 3).trans rfl
           have hcz18_4:wc.cell? ⟨gb263,4,none⟩=some (.int .i64 ((rd_T80 l0 x8_1).f3.f1)):=(Zb BK263.out 4).trans rfl
           have hcz18_5:wc.cell? ⟨gb263,5,none⟩=some (.int .i64 ((rd_T80 l0 x8_1).f3.f2)):=(Zb BK263.out 5).trans rfl
           have hfz18_0:=Zc BK263.out 0
           have hfz18_1:=Zc BK263.out 1
           have hfz18_2:=Zc BK263.out 2
           have hfz18_3:=Zc BK263.out 3
           have hfz18_4:=Zc BK263.out 4
           have hfz18_5:=Zc BK263.out 5
           go_wp2
           go_ret
           exact⟨by first|rfl|(simp[errW_none,errW_some]<;>rfl)|(simp[*,errW_none,errW_some]<;>rfl)|(simp[*,errW_none,errW_some,i64_w];done),by repeat(first|(with_reducible first|exact HB.out|apply Zh|apply Ze|apply Zd|refine Zf ?_ GE263.out)|exact HB.out)⟩
          ·rw[if_neg c17] at H
           have c17b0:decide ((wrap64 (x3_7 - 1))<0)=false:=Yc c17
           clear c17
           by_cases c19:(wrap64 (x3_7 - 1)) > 3
           ·rw[if_pos c19] at H
            have c19b0:decide (3<(wrap64 (x3_7 - 1)))=true:=Zt c19
            clear c19
            obtain rfl:=Zj H
            have hcz20_0:wc.cell? ⟨gb263,0,none⟩=some (.int .i64 ((rd_T80 l0 x8_1).f0)):=(Zb BK263.out 0).trans rfl
            have hcz20_1:wc.cell? ⟨gb263,1,none⟩=some (.int .i64 ((rd_T80 l0 x8_1).f1)):=(Zb BK263.out 1).trans rfl
            have hcz20_2:wc.cell? ⟨gb263,2,none⟩=some (.int .i64 ((rd_T80 l0 x8_1).f2)):=(Zb BK263.out 2).trans rfl
            have hcz20_3:wc.cell? ⟨gb263,3,none⟩=some (.int .i64 ((rd_T80 l0 x8_1).f3.f0)):=(Zb BK263.out 3).trans rfl
            have hcz20_4:wc.cell? ⟨gb263,4,none⟩=some (.int .i64 ((rd_T80 l0 x8_1).f3.f1)):=(Zb BK263.out 4).trans rfl
            have hcz20_5:wc.cell? ⟨gb263,5,none⟩=some (.int .i64 ((rd_T80 l0 x8_1).f3.f2)):=(Zb BK263.out 5).trans rfl
            have hfz20_0:=Zc BK263.out 0
            have hfz20_1:=Zc BK263.out 1
            have hfz20_2:=Zc BK263.out 2
            have hfz20_3:=Zc BK263.out 3
            have hfz20_4:=Zc BK263.out 4
            have hfz20_5:=Zc BK263.out 5
            go_wp2
            go_ret
            exact⟨by first|rfl|(simp[errW_none,errW_some]<;>rfl)|(simp[*,errW_none,errW_some]<;>rfl)|(simp[*,errW_none,errW_some,i64_w];done),by repeat(first|(with_reducible first|exact HB.out|apply Zh|apply Ze|apply Zd|refine Zf ?_ GE263.out)|exact HB.out)⟩
           ·rw[if_neg c19] at H
            have c19b0:decide (3<(wrap64 (x3_7 - 1)))=false:=Yc c19
            clear c19
            have H':=Za H
            clear H
            have hcz21_0:wc.cell? ⟨gb263,0,none⟩=some (.int .i64 ((rd_T80 l0 x8_1).f0)):=(Zb BK263.out 0).trans rfl
            have hcz21_1:wc.cell? ⟨gb263,1,none⟩=some (.int .i64 ((rd_T80 l0 x8_1).f1)):=(Zb BK263.out 1).trans rfl
            have hcz21_2:wc.cell? ⟨gb263,2,none⟩=some (.int .i64 ((rd_T80 l0 x8_1).f2)):=(Zb BK263.out 2).trans rfl
            have hcz21_3:wc.cell? ⟨gb263,3,none⟩=some (.int .i64 ((rd_T80 l0 x8_1).f3.f0)):=(Zb BK263.out 3).trans rfl
            have hcz21_4:wc.cell? ⟨gb263,4,none⟩=some (.int .i64 ((rd_T80 l0 x8_1).f3.f1)):=(Zb BK263.out 4).trans rfl
            have hcz21_5:wc.cell? ⟨gb263,5,none⟩=some (.int .i64 ((rd_T80 l0 x8_1).f3.f2)):=(Zb BK263.out 5).trans rfl
            have hfz21_0:=Zc BK263.out 0
            have hfz21_1:=Zc BK263.out 1
            have hfz21_2:=Zc BK263.out 2
            have hfz21_3:=Zc BK263.out 3
            have hfz21_4:=Zc BK263.out 4
            have hfz21_5:=Zc BK263.out 5
            go_wp2
            go_roundg kj7
            case measure=>have:=HK1.out;have:=HJ7.out;omega
            case rel=>exact⟨(wrap64 (x3_7 - 1)),(wrap64 (x8_1+1)),z8_3,z8_3,H',⟨by have:=HK1.out;have:=HJ7.out;omega⟩,⟨by repeat(first|(with_reducible first|exact HB.out|apply Zh|apply Ze|apply Zd|refine Zf ?_ GE263.out)|exact HB.out)⟩⟩
         ·rw[if_neg c16] at H
          have c16b0:(((rd_T80 l0 x8_1).f0)==6)=false:=beq_eq_false_iff_ne.mpr c16
          have c16b1:(((rd_T80 l0 x8_1).f0) != 6)=true:=bne_iff_ne.mpr c16
          by_cases c22:x3_7<0
          ·rw[if_pos c22] at H
           have c22b0:decide (x3_7<0)=true:=Zt c22
           clear c22
           obtain rfl:=Zj H
           have hcz23_0:wc.cell? ⟨gb263,0,none⟩=some (.int .i64 ((rd_T80 l0 x8_1).f0)):=(Zb BK263.out 0).trans rfl
           have hcz23_1:wc.cell? ⟨gb263,1,none⟩=some (.int .i64 ((rd_T80 l0 x8_1).f1)):=(Zb BK263.out 1).trans rfl
           have hcz23_2:wc.cell? ⟨gb263,2,none⟩=some (.int .i64 ((rd_T80 l0 x8_1).f2)):=(Zb BK263.out 2).trans rfl
           have hcz23_3:wc.cell? ⟨gb263,3,none⟩=some (.int .i64 ((rd_T80 l0 x8_1).f3.f0)):=(Zb BK263.out 3).trans rfl
           have hcz23_4:wc.cell? ⟨gb263,4,none⟩=some (.int .i64 ((rd_T80 l0 x8_1).f3.f1)):=(Zb BK263.out 4).trans rfl
           have hcz23_5:wc.cell? ⟨gb263,5,none⟩=some (.int .i64 ((rd_T80 l0 x8_1).f3.f2)):=(Zb BK263.out 5).trans rfl
           have hfz23_0:=Zc BK263.out 0
           have hfz23_1:=Zc BK263.out 1
           have hfz23_2:=Zc BK263.out 2
           have hfz23_3:=Zc BK263.out 3
           have hfz23_4:=Zc BK263.out 4
           have hfz23_5:=Zc BK263.out 5
           go_wp2
           go_ret
           exact⟨by first|rfl|(simp[errW_none,errW_some]<;>rfl)|(simp[*,errW_none,errW_some]<;>rfl)|(simp[*,errW_none,errW_some,i64_w];done),by repeat(first|(with_reducible first|exact HB.out|apply Zh|apply Ze|apply Zd|refine Zf ?_ GE263.out)|exact HB.out)⟩
          ·rw[if_neg c22] at H
           have c22b0:decide (x3_7<0)=false:=Yc c22
           clear c22
           by_cases c24:x3_7 > 3
           ·rw[if_pos c24] at H
            have c24b0:decide (3<x3_7)=true:=Zt c24
            clear c24
            obtain rfl:=Zj H
            have hcz25_0:wc.cell? ⟨gb263,0,none⟩=some (.int .i64 ((rd_T80 l0 x8_1).f0)):=(Zb BK263.out 0).trans rfl
            have hcz25_1:wc.cell? ⟨gb263,1,none⟩=some (.int .i64 ((rd_T80 l0 x8_1).f1)):=(Zb BK263.out 1).trans rfl
            have hcz25_2:wc.cell? ⟨gb263,2,none⟩=some (.int .i64 ((rd_T80 l0 x8_1).f2)):=(Zb BK263.out 2).trans rfl
            have hcz25_3:wc.cell? ⟨gb263,3,none⟩=some (.int .i64 ((rd_T80 l0 x8_1).f3.f0)):=(Zb BK263.out 3).trans rfl
            have hcz25_4:wc.cell? ⟨gb263,4,none⟩=some (.int .i64 ((rd_T80 l0 x8_1).f3.f1)):=(Zb BK263.out 4).trans rfl
            have hcz25_5:wc.cell? ⟨gb263,5,none⟩=some (.int .i64 ((rd_T80 l0 x8_1).f3.f2)):=(Zb BK263.out 5).trans rfl
            have hfz25_0:=Zc BK263.out 0
            have hfz25_1:=Zc BK263.out 1
            have hfz25_2:=Zc BK263.out 2
            have hfz25_3:=Zc BK263.out 3
            have hfz25_4:=Zc BK263.out 4
            have hfz25_5:=Zc BK263.out 5
            go_wp2
            go_ret
            exact⟨by first|rfl|(simp[errW_none,errW_some]<;>rfl)|(simp[*,errW_none,errW_some]<;>rfl)|(simp[*,errW_none,errW_some,i64_w];done),by repeat(first|(with_reducible first|exact HB.out|apply Zh|apply Ze|apply Zd|refine Zf ?_ GE263.out)|exact HB.out)⟩
           ·rw[if_neg c24] at H
            have c24b0:decide (3<x3_7)=false:=Yc c24
            clear c24
            have H':=Za H
            clear H
            have hcz26_0:wc.cell? ⟨gb263,0,none⟩=some (.int .i64 ((rd_T80 l0 x8_1).f0)):=(Zb BK263.out 0).trans rfl
            have hcz26_1:wc.cell? ⟨gb263,1,none⟩=some (.int .i64 ((rd_T80 l0 x8_1).f1)):=(Zb BK263.out 1).trans rfl
            have hcz26_2:wc.cell? ⟨gb263,2,none⟩=some (.int .i64 ((rd_T80 l0 x8_1).f2)):=(Zb BK263.out 2).trans rfl
            have hcz26_3:wc.cell? ⟨gb263,3,none⟩=some (.int .i64 ((rd_T80 l0 x8_1).f3.f0)):=(Zb BK263.out 3).trans rfl
            have hcz26_4:wc.cell? ⟨gb263,4,none⟩=some (.int .i64 ((rd_T80 l0 x8_1).f3.f1)):=(Zb BK263.out 4).trans rfl
            have hcz26_5:wc.cell? ⟨gb263,5,none⟩=some (.int .i64 ((rd_T80 l0 x8_1).f3.f2)):=(Zb BK263.out 5).trans rfl
            have hfz26_0:=Zc BK263.out 0
            have hfz26_1:=Zc BK263.out 1
            have hfz26_2:=Zc BK263.out 2
            have hfz26_3:=Zc BK263.out 3
            have hfz26_4:=Zc BK263.out 4
            have hfz26_5:=Zc BK263.out 5
            go_wp2
            go_roundg kj7
            case measure=>have:=HK1.out;have:=HJ7.out;omega
            case rel=>exact⟨(x3_7),(wrap64 (x8_1+1)),z8_3,z8_3,H',⟨by have:=HK1.out;have:=HJ7.out;omega⟩,⟨by repeat(first|(with_reducible first|exact HB.out|apply Zh|apply Ze|apply Zd|refine Zf ?_ GE263.out)|exact HB.out)⟩⟩
      ·replace c6:=Bool.eq_false_iff.mpr c6
       subst c6
       rw[if_neg (show ¬(false=true) by decide)] at H
       obtain rfl:=Zj H
       have p262:0≤(x8_1:Int):=Zs (by first|(with_reducible assumption)|assumption)
       have q262:x8_1<(l0.length:Int):=Zs (by first|(with_reducible assumption)|assumption)
       obtain⟨ad262,e262,hx262_0,hx262_1,hx262_2,hx262_3,hx262_4,hx262_5⟩:=at_T80 HR0.out x8_1 p262 q262
       cases e262
       replace hx262_0:=(HB.out.cell (Zg w _ hx262_0)).trans hx262_0
       replace hx262_1:=(HB.out.cell (Zg w _ hx262_1)).trans hx262_1
       replace hx262_2:=(HB.out.cell (Zg w _ hx262_2)).trans hx262_2
       replace hx262_3:=(HB.out.cell (Zg w _ hx262_3)).trans hx262_3
       replace hx262_4:=(HB.out.cell (Zg w _ hx262_4)).trans hx262_4
       replace hx262_5:=(HB.out.cell (Zg w _ hx262_5)).trans hx262_5
       replace p262:=eq_true p262
       replace q262:=eq_true q262
       go_wp2_with (first|((with_reducible refine Zp (N:=5) rfl ?_);(try(refine gate_guard (by rfl) ?_;dsimp only));refine Zr ?hg (N:=5) ?hd (cs:= #[.int .i64 0,.int .i64 0,.int .i64 0,.int .i64 0,.int .i64 0,.int .i64 0]) (t:=80) ?hr ?_;(case hd=>rfl);(case hg=>rfl);(case hr=>exact z8_6);intro gb263 hg w27 hbox hb;have BK263:=Za (hbox);have GW263:=Za ((z8_9:w.heap.size≤gb263));have GE263:=Za ((z8_9:w.heap.size≤gb263));replace HB:=Za (Zi z8_0 hb);clear hb hbox hg;have hcz28_0:w27.cell? ⟨gb263,0,none⟩=some (.int .i64 0):=(Zb BK263.out 0).trans rfl;have hcz28_1:w27.cell? ⟨gb263,1,none⟩=some (.int .i64 0):=(Zb BK263.out 1).trans rfl;have hcz28_2:w27.cell? ⟨gb263,2,none⟩=some (.int .i64 0):=(Zb BK263.out 2).trans rfl;have hcz28_3:w27.cell? ⟨gb263,3,none⟩=some (.int .i64 0):=(Zb BK263.out 3).trans rfl;have hcz28_4:w27.cell? ⟨gb263,4,none⟩=some (.int .i64 0):=(Zb BK263.out 4).trans rfl;have hcz28_5:w27.cell? ⟨gb263,5,none⟩=some (.int .i64 0):=(Zb BK263.out 5).trans rfl;have hfz28_0:=Zc BK263.out 0;have hfz28_1:=Zc BK263.out 1;have hfz28_2:=Zc BK263.out 2;have hfz28_3:=Zc BK263.out 3;have hfz28_4:=Zc BK263.out 4;have hfz28_5:=Zc BK263.out 5)|((with_reducible refine Yh (t:=80) (p:=5) rfl ?_);refine Yg (t:=80) (p:=5) (v:= ?vo_w29) (w1:=((((((w27.setCell ⟨gb263,0,none⟩ (.int .i64 ((rd_T80 l0 x8_1).f0))).setCell ⟨gb263,1,none⟩ (.int .i64 ((rd_T80 l0 x8_1).f1))).setCell ⟨gb263,2,none⟩ (.int .i64 ((rd_T80 l0 x8_1).f2))).setCell ⟨gb263,3,none⟩ (.int .i64 ((rd_T80 l0 x8_1).f3.f0))).setCell ⟨gb263,4,none⟩ (.int .i64 ((rd_T80 l0 x8_1).f3.f1))).setCell ⟨gb263,5,none⟩ (.int .i64 ((rd_T80 l0 x8_1).f3.f2)))) ?hg ?ho ?hn ?hr ?_;(case ho=>rfl);(case hg=>rfl);(case hn=>rfl);(case hr=>exact z8_6);intro w29 hw;have n0_:Aside0 (w29.heap[gb263]? =some (.cells #[.int .i64 ((rd_T80 l0 x8_1).f0),.int .i64 ((rd_T80 l0 x8_1).f1),.int .i64 ((rd_T80 l0 x8_1).f2),.int .i64 ((rd_T80 l0 x8_1).f3.f0),.int .i64 ((rd_T80 l0 x8_1).f3.f1),.int .i64 ((rd_T80 l0 x8_1).f3.f2)] 80 (0,0))):=⟨z8_2⟩;have n1_:Aside0 (Below w.heap.size w w29):=⟨(by rw[hw];exact z8_5)⟩;clear hw;clear BK263;clear HB;have BK263:=n0_;have HB:=n1_;clear n0_ n1_;have hcz30_0:w29.cell? ⟨gb263,0,none⟩=some (.int .i64 ((rd_T80 l0 x8_1).f0)):=(Zb BK263.out 0).trans rfl;have hcz30_1:w29.cell? ⟨gb263,1,none⟩=some (.int .i64 ((rd_T80 l0 x8_1).f1)):=(Zb BK263.out 1).trans rfl;have hcz30_2:w29.cell? ⟨gb263,2,none⟩=some (.int .i64 ((rd_T80 l0 x8_1).f2)):=(Zb BK263.out 2).trans rfl;have hcz30_3:w29.cell? ⟨gb263,3,none⟩=some (.int .i64 ((rd_T80 l0 x8_1).f3.f0)):=(Zb BK263.out 3).trans rfl;have hcz30_4:w29.cell? ⟨gb263,4,none⟩=some (.int .i64 ((rd_T80 l0 x8_1).f3.f1)):=(Zb BK263.out 4).trans rfl;have hcz30_5:w29.cell? ⟨gb263,5,none⟩=some (.int .i64 ((rd_T80 l0 x8_1).f3.f2)):=(Zb BK263.out 5).trans rfl;have hfz30_0:=Zc BK263.out 0;have hfz30_1:=Zc BK263.out 1;have hfz30_2:=Zc BK263.out 2;have hfz30_3:=Zc BK263.out 3;have hfz30_4:=Zc BK263.out 4;have hfz30_5:=Zc BK263.out 5)|((first|((with_reducible refine gate_callee (f:=96) rfl ?_);refine goesL_ (some 13) rfl rfl Try.func96 (by kernel_rfl) rfl #[.agg #[.int .i64 ((rd_T80 l0 x8_1).f0),.int .i64 ((rd_T80 l0 x8_1).f1),.int .i64 ((rd_T80 l0 x8_1).f2),.int .i64 ((rd_T80 l0 x8_1).f3.f0),.int .i64 ((rd_T80 l0 x8_1).f3.f1),.int .i64 ((rd_T80 l0 x8_1).f3.f2)]] rfl z8_1 ?_;(with_reducible refine(impl_StmtOk.calls k1 ((rd_T80 l0 x8_1).f0) ((rd_T80 l0 x8_1).f1) ((rd_T80 l0 x8_1).f2) ((rd_T80 l0 x8_1).f3.f0) ((rd_T80 l0 x8_1).f3.f1) ((rd_T80 l0 x8_1).f3.f2) false _ A5.out).mono ?_))|(go_at_call 96;(with_reducible refine(impl_StmtOk.calls k1 ((rd_T80 l0 x8_1).f0) ((rd_T80 l0 x8_1).f1) ((rd_T80 l0 x8_1).f2) ((rd_T80 l0 x8_1).f3.f0) ((rd_T80 l0 x8_1).f3.f1) ((rd_T80 l0 x8_1).f3.f2) false _ A5.out).mono ?_)));rintro e w31 ⟨rfl,hb⟩;(first|refine⟨_,rfl,?_⟩|skip);replace BK263:=Za (Zk (g:=gb263) (o:= .cells #[.int .i64 ((rd_T80 l0 x8_1).f0),.int .i64 ((rd_T80 l0 x8_1).f1),.int .i64 ((rd_T80 l0 x8_1).f2),.int .i64 ((rd_T80 l0 x8_1).f3.f0),.int .i64 ((rd_T80 l0 x8_1).f3.f1),.int .i64 ((rd_T80 l0 x8_1).f3.f2)] 80 (0,0)) (by(with_reducible repeat(first|refine blk_drewN ?_ _|refine blk_drew ?_|refine blk_alloc ?_ _));exact BK263.out) hb);replace HB:=Za (Zi z8_5 hb);(try clear hb);(try clear hb2);(try clear hk);(try clear hi)))
       go_ret
       exact⟨by first|rfl|(simp[errW_none,errW_some]<;>rfl)|(simp[*,errW_none,errW_some]<;>rfl)|(simp[*,errW_none,errW_some,i64_w];done),by repeat(first|(with_reducible first|exact HB.out|apply Zh|apply Ze|apply Zd|refine Zf ?_ GE263.out)|exact HB.out)⟩
     ·rw[if_neg c4] at H
      exact absurd H (by simp)
    ·rw[if_neg c3] at H
     exact absurd H (by simp)
   ·rw[if_neg c2] at H
    have c2b0:decide (x8_1<(l0.length:Int))=false:=Yc c2
    clear c2
    by_cases c32:x3_1=0
    ·rw[if_pos c32] at H
     have c32b0:(x3_1==0)=true:=beq_iff_eq.mpr c32
     have c32b1:(x3_1 != 0)=false:=bne_eq_false_iff_eq.mpr c32
     clear c32
     obtain rfl:=Zj H
     go_wp2
     go_ret
     exact⟨by first|rfl|(simp[errW_none,errW_some]<;>rfl)|(simp[*,errW_none,errW_some]<;>rfl)|(simp[*,errW_none,errW_some,i64_w];done),by repeat(first|(with_reducible first|exact HB.out|apply Zh|apply Ze|apply Zd)|exact HB.out)⟩
    ·rw[if_neg c32] at H
     have c32b0:(x3_1==0)=false:=beq_eq_false_iff_ne.mpr c32
     have c32b1:(x3_1 != 0)=true:=bne_iff_ne.mpr c32
     obtain rfl:=Zj H
     go_wp2
     go_ret
     exact⟨by first|rfl|(simp[errW_none,errW_some]<;>rfl)|(simp[*,errW_none,errW_some]<;>rfl)|(simp[*,errW_none,errW_some,i64_w];done),by repeat(first|(with_reducible first|exact HB.out|apply Zh|apply Ze|apply Zd)|exact HB.out)⟩
def impl_taskOk.f (k:Nat) (l0_0:List (S80)) (a0_1:Int) (a0_2:Int) (a0_3:Int):Option (Bool):=(impl_BlockOk.f k l0_0).bind fun t267=>(if t267=true then ((impl_ExprOk.f a0_1 a0_2 a0_3).bind fun t268=>(some t268)) else (some false))
set_option maxHeartbeats 8000000 in
set_option maxRecDepth 100000 in
theorem impl_taskOk.calls (k:Nat) (A0_0:Option Addr) (c0_0:Nat) (l0_0:List (S80)) (a0_1:Int) (a0_2:Int) (a0_3:Int) (r:Bool) (w:World) (hr0_0:Kd.C k80 w A0_0 l0_0.length l0_0) (hc0_0:l0_0.length≤c0_0) (h:impl_taskOk.f k l0_0 a0_1 a0_2 a0_3=some r):
  Calls Try.prog 70 #[.agg #[.slice A0_0 l0_0.length c0_0,.int .i64 a0_1,.int .i64 a0_2,.int .i64 a0_3]] w fun e w'=>e= .returned (.bool r)∧Below w.heap.size w w':=by
 have hu64:=Try.underlying64
 have hu62:=Try.underlying62
 have HR0_0:=Za hr0_0
 have HC0_0:=Za hc0_0
 clear hr0_0 hc0_0
 have HB:=Za (Ya w.heap.size w)
 have H:((impl_BlockOk.f k l0_0).bind fun t267=>(if t267=true then ((impl_ExprOk.f a0_1 a0_2 a0_3).bind fun t268=>(some t268)) else (some false)))=some r:=h
 clear h
 replace H:=Zl H
 obtain⟨t267,A20,H⟩:=H
 replace H:(if t267=true then ((impl_ExprOk.f a0_1 a0_2 a0_3).bind fun t268=>(some t268)) else (some false))=some r:=H
 have A2:=Za A20
 clear A20
 by_cases c3:t267=true
 ·subst c3
  rw[if_pos rfl] at H
  replace H:=Zl H
  obtain⟨t268,A40,H⟩:=H
  replace H:(some t268)=some r:=H
  have A4:=Za A40
  clear A40
  obtain rfl:=Zj H
  go_enter Try.func70,Try.ntmps70
  go_wp2_with (first|((with_reducible refine Zp (N:=1) rfl ?_);refine Zr ?hg (N:=1) ?hd (cs:= #[.slice A0_0 l0_0.length c0_0,.int .i64 a0_1,.int .i64 a0_2,.int .i64 a0_3]) (t:=64) ?hr ?_;(case hd=>rfl);(case hg=>rfl);(case hr=>exact z8_6);intro gb266 hg w5 hbox hb;have BK266:=Za (hbox);have GW266:=Za ((z8_9:w.heap.size≤gb266));have GE266:=Za ((z8_9:w.heap.size≤gb266));replace HB:=Za (Zi z8_0 hb);clear hb hbox hg;have hcz6_0:w5.cell? ⟨gb266,0,none⟩=some (.slice A0_0 l0_0.length c0_0):=(Zb BK266.out 0).trans rfl;have hcz6_1:w5.cell? ⟨gb266,1,none⟩=some (.int .i64 a0_1):=(Zb BK266.out 1).trans rfl;have hcz6_2:w5.cell? ⟨gb266,2,none⟩=some (.int .i64 a0_2):=(Zb BK266.out 2).trans rfl;have hcz6_3:w5.cell? ⟨gb266,3,none⟩=some (.int .i64 a0_3):=(Zb BK266.out 3).trans rfl;have hfz6_0:=Zc BK266.out 0;have hfz6_1:=Zc BK266.out 1;have hfz6_2:=Zc BK266.out 2;have hfz6_3:=Zc BK266.out 3)|((first|((with_reducible refine gate_callee (f:=91) rfl ?_);refine goesL_ (some 5) rfl rfl Try.func91 (by kernel_rfl) rfl #[.slice A0_0 l0_0.length c0_0] rfl z8_1 ?_;(with_reducible refine(impl_BlockOk.calls k _ _ l0_0 true _ ?side1 ?side2 A2.out).mono ?_))|(go_at_call 91;(with_reducible refine(impl_BlockOk.calls k _ _ l0_0 true _ ?side1 ?side2 A2.out).mono ?_)));(case side1=>exact z8_4);(case side2=>exact HC0_0.out);rintro e w7 ⟨rfl,hb⟩;(first|refine⟨_,rfl,?_⟩|skip);replace BK266:=Za (Zk (g:=gb266) (o:= .cells #[.slice A0_0 l0_0.length c0_0,.int .i64 a0_1,.int .i64 a0_2,.int .i64 a0_3] 64 (0,0)) z8_8 hb);replace HB:=Za (Zi z8_7 hb);(try clear hb);(try clear hb2);(try clear hk);(try clear hi);have hcz8_0:w7.cell? ⟨gb266,0,none⟩=some (.slice A0_0 l0_0.length c0_0):=(Zb BK266.out 0).trans rfl;have hcz8_1:w7.cell? ⟨gb266,1,none⟩=some (.int .i64 a0_1):=(Zb BK266.out 1).trans rfl;have hcz8_2:w7.cell? ⟨gb266,2,none⟩=some (.int .i64 a0_2):=(Zb BK266.out 2).trans rfl;have hcz8_3:w7.cell? ⟨gb266,3,none⟩=some (.int .i64 a0_3):=(Zb BK266.out 3).trans rfl;have hfz8_0:=Zc BK266.out 0;have hfz8_1:=Zc BK266.out 1;have hfz8_2:=Zc BK266.out 2;have hfz8_3:=Zc BK266.out 3)|(go_at_call 75;(with_reducible refine(impl_ExprOk.calls a0_1 a0_2 a0_3 t268 _ A4.out).mono ?_);rintro e w9 ⟨rfl,hb⟩;replace BK266:=Za (Zk (g:=gb266) (o:= .cells #[.slice A0_0 l0_0.length c0_0,.int .i64 a0_1,.int .i64 a0_2,.int .i64 a0_3] 64 (0,0)) z8_8 hb);replace HB:=Za (Zi z8_7 hb);(try clear hb);(try clear hb2);(try clear hk);(try clear hi)))
  go_ret
  exact⟨by first|rfl|(simp[errW_none,errW_some]<;>rfl)|(simp[*,errW_none,errW_some]<;>rfl)|(simp[*,errW_none,errW_some,i64_w];done),by repeat(first|(with_reducible first|exact HB.out|apply Zh|apply Ze|apply Zd|refine Zf ?_ GE266.out)|exact HB.out)⟩
 ·replace c3:=Bool.eq_false_iff.mpr c3
  subst c3
  rw[if_neg (show ¬(false=true) by decide)] at H
  obtain rfl:=Zj H
  go_enter Try.func70,Try.ntmps70
  go_wp2_with (first|((with_reducible refine Zp (N:=1) rfl ?_);refine Zr ?hg (N:=1) ?hd (cs:= #[.slice A0_0 l0_0.length c0_0,.int .i64 a0_1,.int .i64 a0_2,.int .i64 a0_3]) (t:=64) ?hr ?_;(case hd=>rfl);(case hg=>rfl);(case hr=>exact z8_6);intro gb266 hg w10 hbox hb;have BK266:=Za (hbox);have GW266:=Za ((z8_9:w.heap.size≤gb266));have GE266:=Za ((z8_9:w.heap.size≤gb266));replace HB:=Za (Zi z8_0 hb);clear hb hbox hg;have hcz11_0:w10.cell? ⟨gb266,0,none⟩=some (.slice A0_0 l0_0.length c0_0):=(Zb BK266.out 0).trans rfl;have hcz11_1:w10.cell? ⟨gb266,1,none⟩=some (.int .i64 a0_1):=(Zb BK266.out 1).trans rfl;have hcz11_2:w10.cell? ⟨gb266,2,none⟩=some (.int .i64 a0_2):=(Zb BK266.out 2).trans rfl;have hcz11_3:w10.cell? ⟨gb266,3,none⟩=some (.int .i64 a0_3):=(Zb BK266.out 3).trans rfl;have hfz11_0:=Zc BK266.out 0;have hfz11_1:=Zc BK266.out 1;have hfz11_2:=Zc BK266.out 2;have hfz11_3:=Zc BK266.out 3)|((first|((with_reducible refine gate_callee (f:=91) rfl ?_);refine goesL_ (some 5) rfl rfl Try.func91 (by kernel_rfl) rfl #[.slice A0_0 l0_0.length c0_0] rfl z8_1 ?_;(with_reducible refine(impl_BlockOk.calls k _ _ l0_0 false _ ?side1 ?side2 A2.out).mono ?_))|(go_at_call 91;(with_reducible refine(impl_BlockOk.calls k _ _ l0_0 false _ ?side1 ?side2 A2.out).mono ?_)));(case side1=>exact z8_4);(case side2=>exact HC0_0.out);rintro e w12 ⟨rfl,hb⟩;(first|refine⟨_,rfl,?_⟩|skip);replace BK266:=Za (Zk (g:=gb266) (o:= .cells #[.slice A0_0 l0_0.length c0_0,.int .i64 a0_1,.int .i64 a0_2,.int .i64 a0_3] 64 (0,0)) z8_8 hb);replace HB:=Za (Zi z8_7 hb);(try clear hb);(try clear hb2);(try clear hk);(try clear hi)))
  go_ret
  exact⟨by first|rfl|(simp[errW_none,errW_some]<;>rfl)|(simp[*,errW_none,errW_some]<;>rfl)|(simp[*,errW_none,errW_some,i64_w];done),by repeat(first|(with_reducible first|exact HB.out|apply Zh|apply Ze|apply Zd|refine Zf ?_ GE266.out)|exact HB.out)⟩
-- NOT PRINTED: function 69 (impl_ProgramOk_1)
def anyNot (k:Nat):List S64→Option Bool
 |[]=>some false
 |t::r=>(impl_taskOk.f k t.f0 t.f1.f0 t.f1.f1 t.f1.f2).bind fun b=>if b=true then anyNot k r else some true
theorem drop_task {l:List S64} {i:Int} (h0:0≤i) (h:i<(l.length:Int)):l.drop i.toNat=rd_T64 l i::l.drop (i+1).toNat:=by
 have h1:i.toNat<l.length:=by omega
 have h2:(i+1).toNat=i.toNat+1:=by omega
 unfold rd_T64
 rw[h2,List.drop_eq_getElem_cons h1,List.getD_eq_getElem?_getD,List.getElem?_eq_getElem h1]
 rfl
set_option maxHeartbeats 8000000 in
set_option maxRecDepth 100000 in
theorem taskNot_clo (k:Nat) (A:Option Addr) (c:Nat) (l:List S80) (a1 a2 a3:Int) (b:Bool) (w:World) (hr:Kd.C k80 w A l.length l) (hc:l.length≤c) (h:impl_taskOk.f k l a1 a2 a3=some b):
  Calls Try.prog 69 #[.agg #[.slice A l.length c,.int .i64 a1,.int .i64 a2,.int .i64 a3]] w fun e w'=>e= .returned (.bool (!b))∧Below w.heap.size w w':=by
 have HR:=Za hr
 have HC:=Za hc
 have Hb:=Za h
 have HB:=Za (Ya w.heap.size w)
 clear hr hc h
 go_enter Try.func69,Try.ntmps69
 go_wp2_with (go_at_call 70;(with_reducible refine(impl_taskOk.calls k _ _ l a1 a2 a3 b _ ?side1 ?side2 Hb.out).mono ?_);(case side1=>repeat(first|exact(Yb HR.out HB.out)|(with_reducible refine Yd ?_ _)|(with_reducible refine Ye ?_ _)|(with_reducible refine Yf ?_)));(case side2=>exact HC.out);rintro e w10 ⟨rfl,hb⟩;have n1_:=Za (Zi z8_0 hb);clear HB;have HB:=n1_;clear n1_;clear hb)
 go_ret
 exact⟨rfl,by repeat(first|(with_reducible first|exact HB.out|apply Zh|apply Ze|apply Zd)|exact HB.out)⟩
set_option maxHeartbeats 8000000 in
set_option maxRecDepth 100000 in
theorem taskNot_index (k:Nat) (A:Option Addr) (c:Nat) (l:List S64) (r:Bool) (w:World) (hr:Kd.C k64 w A l.length l) (h:anyNot k l=some r):
  Calls Try.prog 90 #[.slice A l.length c,.func (.func 69) #[] #[]] w fun e w'=>∃i:Int,e= .returned (.int .i64 i)∧decide (i≥0)=r∧Below w.heap.size w w':=by
 have HR:=Za hr
 have HH:=Za h
 have hlen:l.length≤9223372036854775807:=hr.2.1
 clear hr h
 go_enter Try.func90,Try.ntmps90
 go_wp2
 go_loopw [8] (fun v8 w'=>∃x:Int,v8= .int .i64 x∧Aside0 (0≤x)∧Aside0 (x≤(l.length:Int))∧Aside0 (anyNot k (l.drop x.toNat)=some r)∧Aside0 (Below w.heap.size w w')) (fun v8 _=>l.length - (intOf v8).toNat)
 case atStart=>exact⟨0,rfl,⟨by omega⟩,⟨by omega⟩,HH,⟨by repeat(first|exact Ya _ _|apply Zh|apply Ze|apply Zd)⟩⟩
 case round=>
  obtain⟨x,rfl,Hx0,Hx1,Hp,HB⟩:=hrel
  by_cases hlt:x<(l.length:Int)
  ·have c1:decide (x<(l.length:Int))=true:=Zt hlt
   have h0:=Hx0.out
   obtain⟨ad,A1,c2,e,hx0,hx1,hx2,hx3,hl1,hi1⟩:=at_T64 HR.out x h0 hlt
   cases e
   replace hx0:=(HB.out.cell (Zg w _ hx0)).trans hx0
   replace hx1:=(HB.out.cell (Zg w _ hx1)).trans hx1
   replace hx2:=(HB.out.cell (Zg w _ hx2)).trans hx2
   replace hx3:=(HB.out.cell (Zg w _ hx3)).trans hx3
   have Hl1:=Za hl1
   have Hi1:=Za hi1
   have hp:=Hp.out
   rw[drop_task h0 hlt,anyNot] at hp
   obtain⟨b,hb,hp2⟩:=Zl hp
   have Hb:=Za hb
   have Hp2:=Za hp2
   have Hlt:=Za hlt
   clear hb hlt hp hp2 hl1 hi1 Hp
   have p1:=eq_true h0
   have q1:=eq_true Hlt.out
   have hsum:wrap64 (x+1)=x+1:=by have:=Hlt.out;unfold wrap64;omega
   have Hs:=Za hsum
   clear hsum h0
   cases b with
   |true=>
    go_wp2_with (go_at_call 69;(with_reducible refine(taskNot_clo k _ _ _ _ _ _ true _ ?side1 ?side2 Hb.out).mono ?_);(case side1=>repeat(first|exact(Yb Hi1.out HB.out)|(with_reducible refine Yd ?_ _)|(with_reducible refine Ye ?_ _)|(with_reducible refine Yf ?_)));(case side2=>exact Hl1.out);rintro e w10 ⟨rfl,hb⟩;have n1_:=Za (Zi z8_0 hb);clear HB;have HB:=n1_;clear n1_;clear hb)
    go_roundw
    case rel=>exact⟨x+1,by rw[Hs.out],⟨by have:=Hx0.out;omega⟩,⟨by have:=Hlt.out;omega⟩,⟨by simpa using Hp2.out⟩,⟨by repeat(first|(with_reducible first|exact HB.out|apply Zh|apply Ze|apply Zd)|exact HB.out)⟩⟩
    case measure=>
     have:=Hlt.out
     have:=Hx0.out
     rw[Hs.out]
     simp[intOf]
     omega
   |false=>
    go_wp2_with (go_at_call 69;(with_reducible refine(taskNot_clo k _ _ _ _ _ _ false _ ?side1 ?side2 Hb.out).mono ?_);(case side1=>repeat(first|exact(Yb Hi1.out HB.out)|(with_reducible refine Yd ?_ _)|(with_reducible refine Ye ?_ _)|(with_reducible refine Yf ?_)));(case side2=>exact Hl1.out);rintro e w10 ⟨rfl,hb⟩;have n1_:=Za (Zi z8_0 hb);clear HB;have HB:=n1_;clear n1_;clear hb)
    go_ret
    exact⟨x,rfl,by
     have:=Hp2.out
     rw[if_neg (by simp)] at this
     have e:=Zj this
     rw[←e]
     simpa using Hx0.out,by repeat(first|(with_reducible first|exact HB.out|apply Zh|apply Ze|apply Zd)|exact HB.out)⟩
  ·have c1:decide (x<(l.length:Int))=false:=Yc hlt
   have hx:x=(l.length:Int):=by have:=Hx1.out;omega
   have hp:=Hp.out
   rw[List.drop_eq_nil_of_le (by omega),anyNot] at hp
   have Hp2:=Za (Zj hp)
   clear hx hlt hp Hp
   go_wp2
   go_ret
   exact⟨-1,rfl,by rw[←Hp2.out];rfl,by repeat(first|(with_reducible first|exact HB.out|apply Zh|apply Ze|apply Zd)|exact HB.out)⟩
set_option maxRecDepth 100000 in
theorem taskNot_contains (k:Nat) (A:Option Addr) (c:Nat) (l:List S64) (r:Bool) (w:World) (hr:Kd.C k64 w A l.length l) (h:anyNot k l=some r):
  Calls Try.prog 68 #[.slice A l.length c,.func (.func 69) #[] #[]] w fun e w'=>e= .returned (.bool r)∧Below w.heap.size w w':=by
 have HR:=Za hr
 have HH:=Za h
 clear hr h
 go_enter Try.func68,Try.ntmps68
 go_wp2_with fail
 refine(taskNot_index k A c l r _ HR.out HH.out).mono ?_
 rintro e w' ⟨i,rfl,hi,hb⟩
 have Hi:=Za hi
 have HB:=Za hb
 clear hi hb
 go_wp2
 go_ret
 exact⟨by first|rfl|(rw[Hi.out];done)|(simp[Hi.out];done)|(have e:=Hi.out;simp at e ⊢;exact e),by repeat(first|(with_reducible first|exact HB.out|apply Zh|apply Ze|apply Zd)|exact HB.out)⟩
def impl_ProgramOk.f (k:Nat) (l0_0:List S64):Option Bool:=(impl_within.f (l0_0.length:Int) 1 6).bind fun t=>if t=true then (anyNot k l0_0).bind fun b=>some (!b) else some false
set_option maxHeartbeats 8000000 in
set_option maxRecDepth 100000 in
theorem impl_ProgramOk.calls (k:Nat) (A0_0:Option Addr) (c0_0:Nat) (l0_0:List S64) (r:Bool) (w:World) (hr0_0:Kd.C k64 w A0_0 l0_0.length l0_0) (hc0_0:l0_0.length≤c0_0) (h:impl_ProgramOk.f k l0_0=some r):
  Calls Try.prog 45 #[.agg #[.slice A0_0 l0_0.length c0_0]] w fun e w'=>e= .returned (.bool r)∧Below w.heap.size w w':=by
 have hu53:=Try.underlying33
 have HR0:=Za hr0_0
 have HC0:=Za hc0_0
 have HB:=Za (Ya w.heap.size w)
 clear hr0_0 hc0_0
 unfold impl_ProgramOk.f at h
 obtain⟨t,h1,h2⟩:=Zl h
 clear h
 have A1:=Za h1
 clear h1
 cases t with
 |true=>
  rw[if_pos rfl] at h2
  obtain⟨b,h3,h4⟩:=Zl h2
  obtain rfl:=Zj h4
  have A2:=Za h3
  clear h2 h3 h4
  go_enter Try.func45,Try.ntmps45
  go_wp2_with (first|((with_reducible refine Zp (N:=1) rfl ?_);refine Zr ?hg (N:=1) ?hd (cs:= #[.slice A0_0 l0_0.length c0_0]) (t:=33) ?hr ?_;(case hd=>rfl);(case hg=>rfl);(case hr=>exact z8_6);intro gb hg w2 hbox hb;have n0_:=Za (Zi HB.out hb);have BK:=Za (hbox);clear HB;have HB:=n0_;clear n0_;clear hb hbox hg;have hcz0:w2.cell? ⟨gb,0,none⟩=some (.slice A0_0 l0_0.length c0_0):=(Zb BK.out 0).trans rfl;have hfz0:=Zc BK.out 0)|(go_at_call 46;(with_reducible refine(impl_within.calls _ _ _ true _ A1.out).mono ?_);rintro e w' ⟨rfl,⟨nd,rfl⟩⟩)|(go_at_call 68;(with_reducible refine(taskNot_contains k _ _ l0_0 b _ ?side1 A2.out).mono ?_);(case side1=>repeat(first|exact(Yb HR0.out HB.out)|(with_reducible refine Yd ?_ _)|(with_reducible refine Ye ?_ _)|(with_reducible refine Yf ?_)));rintro e w10 ⟨rfl,hb⟩;have n1_:=Za (Zi z8_0 hb);clear HB;have HB:=n1_;clear n1_;clear hb))
  go_ret
  exact⟨by first|rfl|(simp;done),by repeat(first|(with_reducible first|exact HB.out|apply Zh|apply Ze|apply Zd)|exact HB.out)⟩
 |false=>
  rw[if_neg (by simp)] at h2
  obtain rfl:=Zj h2
  clear h2
  go_enter Try.func45,Try.ntmps45
  go_wp2_with (first|((with_reducible refine Zp (N:=1) rfl ?_);refine Zr ?hg (N:=1) ?hd (cs:= #[.slice A0_0 l0_0.length c0_0]) (t:=33) ?hr ?_;(case hd=>rfl);(case hg=>rfl);(case hr=>exact z8_6);intro gb hg w2 hbox hb;have n0_:=Za (Zi HB.out hb);have BK:=Za (hbox);clear HB;have HB:=n0_;clear n0_;clear hb hbox hg;have hcz0:w2.cell? ⟨gb,0,none⟩=some (.slice A0_0 l0_0.length c0_0):=(Zb BK.out 0).trans rfl;have hfz0:=Zc BK.out 0)|(go_at_call 46;(with_reducible refine(impl_within.calls _ _ _ false _ A1.out).mono ?_);rintro e w' ⟨rfl,⟨nd,rfl⟩⟩))
  go_ret
  exact⟨by first|rfl|(simp;done),by repeat(first|(with_reducible first|exact HB.out|apply Zh|apply Ze|apply Zd)|exact HB.out)⟩
def impl_hasTask.f (k:Nat) (l0_0:List (S64)) (a1:Int):Option (Bool):=(impl_ProgramOk.f k l0_0).bind fun t270=>(if t270=true then ((impl_within.f a1 0 (wrap64 ((l0_0.length:Int) - 1))).bind fun t271=>(some t271)) else (some false))
set_option maxHeartbeats 8000000 in
set_option maxRecDepth 100000 in
theorem impl_hasTask.calls (k:Nat) (A0_0:Option Addr) (c0_0:Nat) (l0_0:List (S64)) (a1:Int) (r:Bool) (w:World) (hr0_0:Kd.C k64 w A0_0 l0_0.length l0_0) (hc0_0:l0_0.length≤c0_0) (h:impl_hasTask.f k l0_0 a1=some r):
  Calls Try.prog 27 #[.agg #[.slice A0_0 l0_0.length c0_0],.int .i64 a1] w fun e w'=>e= .returned (.bool r)∧Below w.heap.size w w':=by
 have hu33:=Try.underlying33
 have HR0_0:=Za hr0_0
 have HC0_0:=Za hc0_0
 clear hr0_0 hc0_0
 have HB:=Za (Ya w.heap.size w)
 have H:((impl_ProgramOk.f k l0_0).bind fun t270=>(if t270=true then ((impl_within.f a1 0 (wrap64 ((l0_0.length:Int) - 1))).bind fun t271=>(some t271)) else (some false)))=some r:=h
 clear h
 replace H:=Zl H
 obtain⟨t270,A30,H⟩:=H
 replace H:(if t270=true then ((impl_within.f a1 0 (wrap64 ((l0_0.length:Int) - 1))).bind fun t271=>(some t271)) else (some false))=some r:=H
 have A3:=Za A30
 clear A30
 by_cases c4:t270=true
 ·subst c4
  rw[if_pos rfl] at H
  replace H:=Zl H
  obtain⟨t271,A50,H⟩:=H
  replace H:(some t271)=some r:=H
  have A5:=Za A50
  clear A50
  obtain rfl:=Zj H
  go_enter Try.func27,Try.ntmps27
  go_wp2_with (first|((with_reducible refine Zp (N:=2) rfl ?_);(try(refine gate_guard (by rfl) ?_;dsimp only));refine Zr ?hg (N:=2) ?hd (cs:= #[.slice A0_0 l0_0.length c0_0]) (t:=33) ?hr ?_;(case hd=>rfl);(case hg=>rfl);(case hr=>exact z8_6);intro gb269 hg w6 hbox hb;have BK269:=Za (hbox);have GW269:=Za ((z8_9:w.heap.size≤gb269));have GE269:=Za ((z8_9:w.heap.size≤gb269));replace HB:=Za (Zi z8_0 hb);clear hb hbox hg;have hcz7_0:w6.cell? ⟨gb269,0,none⟩=some (.slice A0_0 l0_0.length c0_0):=(Zb BK269.out 0).trans rfl;have hfz7_0:=Zc BK269.out 0)|((first|((with_reducible refine gate_callee (f:=45) rfl ?_);refine goesL_ (some 6) rfl rfl Try.func45 (by kernel_rfl) rfl #[.agg #[.slice A0_0 l0_0.length c0_0]] rfl z8_1 ?_;(with_reducible refine(impl_ProgramOk.calls k _ _ l0_0 true _ ?side1 ?side2 A3.out).mono ?_))|(go_at_call 45;(with_reducible refine(impl_ProgramOk.calls k _ _ l0_0 true _ ?side1 ?side2 A3.out).mono ?_)));(case side1=>exact z8_4);(case side2=>exact HC0_0.out);rintro e w8 ⟨rfl,hb⟩;(first|refine⟨_,rfl,?_⟩|skip);replace BK269:=Za (Zk (g:=gb269) (o:= .cells #[.slice A0_0 l0_0.length c0_0] 33 (0,0)) (by(with_reducible repeat(first|refine blk_drewN ?_ _|refine blk_drew ?_|refine blk_alloc ?_ _));exact BK269.out) hb);replace HB:=Za (Zi (by repeat(first|(with_reducible first|exact HB.out|apply Zh|apply Ze|apply Zd|refine Zf ?_ GE269.out)|exact HB.out)) hb);(try clear hb);(try clear hb2);(try clear hk);(try clear hi);have hcz9_0:w8.cell? ⟨gb269,0,none⟩=some (.slice A0_0 l0_0.length c0_0):=(Zb BK269.out 0).trans rfl;have hfz9_0:=Zc BK269.out 0)|(go_at_call 46;(with_reducible refine(impl_within.calls a1 0 (wrap64 ((l0_0.length:Int) - 1)) t271 _ A5.out).mono ?_);rintro e w' ⟨rfl,⟨nd,rfl⟩⟩))
  go_ret
  exact⟨by first|rfl|(simp[errW_none,errW_some]<;>rfl)|(simp[*,errW_none,errW_some]<;>rfl)|(simp[*,errW_none,errW_some,i64_w];done),by repeat(first|(with_reducible first|exact HB.out|apply Zh|apply Ze|apply Zd|refine Zf ?_ GE269.out)|exact HB.out)⟩
 ·replace c4:=Bool.eq_false_iff.mpr c4
  subst c4
  rw[if_neg (show ¬(false=true) by decide)] at H
  obtain rfl:=Zj H
  go_enter Try.func27,Try.ntmps27
  go_wp2_with (first|((with_reducible refine Zp (N:=2) rfl ?_);(try(refine gate_guard (by rfl) ?_;dsimp only));refine Zr ?hg (N:=2) ?hd (cs:= #[.slice A0_0 l0_0.length c0_0]) (t:=33) ?hr ?_;(case hd=>rfl);(case hg=>rfl);(case hr=>exact z8_6);intro gb269 hg w10 hbox hb;have BK269:=Za (hbox);have GW269:=Za ((z8_9:w.heap.size≤gb269));have GE269:=Za ((z8_9:w.heap.size≤gb269));replace HB:=Za (Zi z8_0 hb);clear hb hbox hg;have hcz11_0:w10.cell? ⟨gb269,0,none⟩=some (.slice A0_0 l0_0.length c0_0):=(Zb BK269.out 0).trans rfl;have hfz11_0:=Zc BK269.out 0)|((first|((with_reducible refine gate_callee (f:=45) rfl ?_);refine goesL_ (some 6) rfl rfl Try.func45 (by kernel_rfl) rfl #[.agg #[.slice A0_0 l0_0.length c0_0]] rfl z8_1 ?_;(with_reducible refine(impl_ProgramOk.calls k _ _ l0_0 false _ ?side1 ?side2 A3.out).mono ?_))|(go_at_call 45;(with_reducible refine(impl_ProgramOk.calls k _ _ l0_0 false _ ?side1 ?side2 A3.out).mono ?_)));(case side1=>exact z8_4);(case side2=>exact HC0_0.out);rintro e w12 ⟨rfl,hb⟩;(first|refine⟨_,rfl,?_⟩|skip);replace BK269:=Za (Zk (g:=gb269) (o:= .cells #[.slice A0_0 l0_0.length c0_0] 33 (0,0)) (by(with_reducible repeat(first|refine blk_drewN ?_ _|refine blk_drew ?_|refine blk_alloc ?_ _));exact BK269.out) hb);replace HB:=Za (Zi (by repeat(first|(with_reducible first|exact HB.out|apply Zh|apply Ze|apply Zd|refine Zf ?_ GE269.out)|exact HB.out)) hb);(try clear hb);(try clear hb2);(try clear hk);(try clear hi)))
  go_ret
  exact⟨by first|rfl|(simp[errW_none,errW_some]<;>rfl)|(simp[*,errW_none,errW_some]<;>rfl)|(simp[*,errW_none,errW_some,i64_w];done),by repeat(first|(with_reducible first|exact HB.out|apply Zh|apply Ze|apply Zd|refine Zf ?_ GE269.out)|exact HB.out)⟩
-- NOT PRINTED: function 71 (slices_IndexFunc_int_int)
-- NOT PRINTED: function 47 (slices_ContainsFunc_int_int)
def impl_IsValue.f (a0:Int):Option (Bool):=(impl_within.f a0 (-1000000) 1000000).bind fun t272=>(some t272)
set_option maxHeartbeats 8000000 in
set_option maxRecDepth 100000 in
theorem impl_IsValue.calls (a0:Int) (r:Bool) (w:World) (h:impl_IsValue.f a0=some r):
  Calls Try.prog 49 #[.int .i64 a0] w fun e w'=>e= .returned (.bool r)∧Drawn0 w w':=by
 have H:((impl_within.f a0 (-1000000) 1000000).bind fun t272=>(some t272))=some r:=h
 clear h
 replace H:=Zl H
 obtain⟨t272,A20,H⟩:=H
 replace H:(some t272)=some r:=H
 have A2:=Za A20
 clear A20
 obtain rfl:=Zj H
 go_enter Try.func49,Try.ntmps49
 go_wp2_with (first|((first|((with_reducible refine gate_callee (f:=46) rfl ?_);refine goesL_ (some 4) rfl rfl Try.func46 (by kernel_rfl) rfl #[.int .i64 a0,.int .i64 (-1000000),.int .i64 1000000] rfl z8_1 ?_;(with_reducible refine(impl_within.calls a0 (-1000000) 1000000 t272 _ A2.out).mono ?_))|(go_at_call 46;(with_reducible refine(impl_within.calls a0 (-1000000) 1000000 t272 _ A2.out).mono ?_)));rintro e w' ⟨rfl,⟨nd,rfl⟩⟩;(first|refine⟨_,rfl,?_⟩|skip)))
 go_ret
 exact⟨by first|rfl|(simp;done)|(simp[*];done),by repeat(first|exact Zu _|apply Zv)⟩
-- NOT PRINTED: function 48 (impl_areValues_1)
def valP (x:Int):Bool:=decide (-1000000≤x∧x≤1000000)
theorem valP_eq (x:Int):impl_IsValue.f x=some (valP x):=by
 unfold impl_IsValue.f impl_within.f valP
 by_cases h: -1000000≤x<;>simp[h]
set_option maxRecDepth 100000 in
theorem valP_clo (x:Int) (b:Bool) (w:World) (hb:valP x=b):Calls Try.prog 48 #[.int .i64 x] w fun e w'=>e= .returned (.bool (!b))∧Drawn0 w w':=by
 have Hb:=Za ((valP_eq x).trans (congrArg some hb))
 clear hb
 go_enter Try.func48,Try.ntmps48
 go_wp2_with (go_at_call 49;(with_reducible refine(impl_IsValue.calls x b _ Hb.out).mono ?_);rintro e w' ⟨rfl,⟨nd,rfl⟩⟩)
 go_ret
 exact⟨rfl,by repeat(first|exact Zu _|apply Zv)⟩
theorem valP_none (l:List Int) (h:∀i:Int,0≤i→i<(l.length:Int)→valP (rd l i)=true):l.any (fun x=> !valP x)=false:=by
 rw[List.any_eq_false]
 intro x hx
 obtain⟨i,hi⟩:=List.getElem?_of_mem hx
 have hl:=(List.getElem?_eq_some_iff.1 hi).1
 have:=h (i:Int) (by omega) (by omega)
 unfold rd at this
 rw[Int.toNat_natCast,List.getD_eq_getElem?_getD,hi] at this
 simpa using this
theorem valP_some (l:List Int) (i:Int) (h0:0≤i) (h1:i<(l.length:Int)) (h:valP (rd l i)=false):l.any (fun x=> !valP x)=true:=by
 rw[List.any_eq_true]
 refine⟨rd l i,?_,by simpa using h⟩
 unfold rd
 rw[List.getD_eq_getElem?_getD,List.getElem?_eq_getElem (by omega)]
 exact List.getElem_mem _
set_option maxHeartbeats 8000000 in
set_option maxRecDepth 100000 in
theorem valP_index (A:Option Addr) (c:Nat) (l:List Int) (w:World) (hr:Kd.C (Kd.int .i64) w A l.length l):
  Calls Try.prog 71 #[.slice A l.length c,.func (.func 48) #[] #[]] w fun e w'=>∃i:Int,e= .returned (.int .i64 i)∧decide (i≥0)=l.any (fun x=> !valP x)∧Drawn0 w w':=by
 have HR:=Za hr
 have hlen:l.length≤9223372036854775807:=hr.2.1
 clear hr
 go_enter Try.func71,Try.ntmps71
 go_wp2
 go_loopw [8] (fun v8 w'=>∃x:Int,v8= .int .i64 x∧Aside0 (0≤x)∧Aside0 (x≤(l.length:Int))∧Aside0 (∀i:Int,0≤i→i<x→valP (rd l i)=true)∧Drawn0 w w') (fun v8 _=>l.length - (intOf v8).toNat)
 case atStart=>exact⟨0,rfl,⟨by omega⟩,⟨by omega⟩,⟨fun i h0 h1=>by omega⟩,Zu _⟩
 case round=>
  obtain⟨x,rfl,Hx0,Hx1,Hp,⟨m,rfl⟩⟩:=hrel
  by_cases hlt:x<(l.length:Int)
  ·have c1:decide (x<(l.length:Int))=true:=Zt hlt
   have h0:=Hx0.out
   obtain⟨ad,e,hx⟩:=Kd.at_int HR.out x h0 hlt
   cases e
   obtain⟨b,hb⟩:∃b,valP (rd l x)=b:=⟨_,rfl⟩
   have Hb:=Za hb
   have Hlt:=Za hlt
   clear hb hlt
   have p1:=eq_true h0
   have q1:=eq_true Hlt.out
   have hsum:wrap64 (x+1)=x+1:=by have:=Hlt.out;unfold wrap64;omega
   have Hs:=Za hsum
   clear hsum h0
   cases b with
   |true=>
    go_wp2_with (go_at_call 48;(with_reducible refine(valP_clo (rd l x) true _ Hb.out).mono ?_);rintro e w' ⟨rfl,⟨nd,rfl⟩⟩)
    go_roundw
    case rel=>exact⟨x+1,by rw[Hs.out],⟨by have:=Hx0.out;omega⟩,⟨by have:=Hlt.out;omega⟩,⟨fun i h0 h1=>by
     by_cases e:i=x
     ·rw[e];exact Hb.out
     ·exact Hp.out i h0 (by omega)⟩,by repeat(first|exact Zu _|apply Zv)⟩
    case measure=>
     have:=Hlt.out
     have:=Hx0.out
     rw[Hs.out]
     simp[intOf]
     omega
   |false=>
    go_wp2_with (go_at_call 48;(with_reducible refine(valP_clo (rd l x) false _ Hb.out).mono ?_);rintro e w' ⟨rfl,⟨nd,rfl⟩⟩)
    go_ret
    exact⟨x,rfl,by rw[valP_some l x Hx0.out Hlt.out Hb.out];simpa using Hx0.out,by repeat(first|exact Zu _|apply Zv)⟩
  ·have c1:decide (x<(l.length:Int))=false:=Yc hlt
   have hx:x=(l.length:Int):=by have:=Hx1.out;omega
   have Hx:=Za hx
   clear hx hlt
   go_wp2
   go_ret
   exact⟨-1,rfl,by rw[valP_none l (fun i h0 h1=>Hp.out i h0 (by have:=Hx.out;omega))];rfl,by repeat(first|exact Zu _|apply Zv)⟩
set_option maxRecDepth 100000 in
theorem valP_contains (A:Option Addr) (c:Nat) (l:List Int) (b:Bool) (hb:l.any (fun x=> !valP x)=b) (w:World) (hr:Kd.C (Kd.int .i64) w A l.length l):
  Calls Try.prog 47 #[.slice A l.length c,.func (.func 48) #[] #[]] w fun e w'=>e= .returned (.bool b)∧Drawn0 w w':=by
 have HR:=Za hr
 have Hb:=Za hb
 clear hr hb
 go_enter Try.func47,Try.ntmps47
 go_wp2_with fail
 refine(valP_index A c l _ HR.out).mono ?_
 rintro e w' ⟨i,rfl,hi,⟨nd,rfl⟩⟩
 rw[Hb.out] at hi
 have Hi:=Za hi
 clear hi
 go_wp2
 go_ret
 exact⟨by first|rfl|(rw[Hi.out];done)|(simp[Hi.out];done)|(have e:=Hi.out;simp at e ⊢;exact e),by repeat(first|exact Zu _|apply Zv)⟩
def impl_areValues.f (l0:List Int):Option Bool:=some (!(l0.any fun x=> !valP x))
set_option maxRecDepth 100000 in
theorem impl_areValues.calls (A0:Option Addr) (c0:Nat) (l0:List Int) (r:Bool) (w:World) (hr0:Kd.C (Kd.int .i64) w A0 l0.length l0) (hc0:l0.length≤c0) (h:impl_areValues.f l0=some r):
  Calls Try.prog 29 #[.slice A0 l0.length c0] w fun e w'=>e= .returned (.bool r)∧Drawn0 w w':=by
 obtain⟨b,hb⟩:∃b,l0.any (fun x=> !valP x)=b:=⟨_,rfl⟩
 unfold impl_areValues.f at h
 rw[hb] at h
 obtain rfl:=Zj h
 have HR:=Za hr0
 have Hb:=Za hb
 clear hr0 hb h hc0
 go_enter Try.func29,Try.ntmps29
 go_wp2_with fail
 refine(valP_contains A0 c0 l0 b Hb.out _ HR.out).mono ?_
 rintro e w' ⟨rfl,⟨nd,rfl⟩⟩
 go_wp2
 go_ret
 exact⟨rfl,by repeat(first|exact Zu _|apply Zv)⟩
def impl_VarsOk.f (l0:List Int):Option (Bool):=if (l0.length:Int)=8 then ((impl_areValues.f l0).bind fun t273=>(some t273)) else (some false)
set_option maxHeartbeats 8000000 in
set_option maxRecDepth 100000 in
theorem impl_VarsOk.calls (A0:Option Addr) (c0:Nat) (l0:List Int) (r:Bool) (w:World) (hr0:Kd.C (Kd.int .i64) w A0 l0.length l0) (hc0:l0.length≤c0) (h:impl_VarsOk.f l0=some r):
  Calls Try.prog 28 #[.slice A0 l0.length c0] w fun e w'=>e= .returned (.bool r)∧Drawn0 w w':=by
 have HR0:=Za hr0
 have HC0:=Za hc0
 clear hr0 hc0
 have H:(if (l0.length:Int)=8 then ((impl_areValues.f l0).bind fun t273=>(some t273)) else (some false))=some r:=h
 clear h
 by_cases c2:(l0.length:Int)=8
 ·rw[if_pos c2] at H
  have c2b0:((l0.length:Int)==8)=true:=beq_iff_eq.mpr c2
  have c2b1:((l0.length:Int) != 8)=false:=bne_eq_false_iff_eq.mpr c2
  clear c2
  replace H:=Zl H
  obtain⟨t273,A30,H⟩:=H
  replace H:(some t273)=some r:=H
  have A3:=Za A30
  clear A30
  obtain rfl:=Zj H
  go_enter Try.func28,Try.ntmps28
  go_wp2_with (first|(go_at_call 29;(with_reducible refine(impl_areValues.calls _ _ l0 t273 _ ?side1 ?side2 A3.out).mono ?_);(case side1=>repeat(first|exact HR0.out|(with_reducible refine Yd ?_ _)|(with_reducible refine Ye ?_ _)|(with_reducible refine Yf ?_)));(case side2=>exact HC0.out);rintro e w' ⟨rfl,⟨nd,rfl⟩⟩))
  go_ret
  exact⟨by first|rfl|(simp;done)|(simp[*];done),by repeat(first|exact Zu _|apply Zv)⟩
 ·rw[if_neg c2] at H
  have c2b0:((l0.length:Int)==8)=false:=beq_eq_false_iff_ne.mpr c2
  have c2b1:((l0.length:Int) != 8)=true:=bne_iff_ne.mpr c2
  obtain rfl:=Zj H
  go_enter Try.func28,Try.ntmps28
  go_wp2
  go_ret
  exact⟨by first|rfl|(simp;done)|(simp[*];done),by repeat(first|exact Zu _|apply Zv)⟩
end Go.Proofs.Ytlolppaddphpoaa.G
