/- Functions of the program as plain Lean functions, and that each call comes to its function's answer; written by a program of the session. No condition. -/
import Derived.Test.YtdkbkkpbdmlmbaaGreatGx0
import Derived.Test.YtdkbkkpbdmlmbaaGreatGx3
import Derived.Test.YtdkbkkpbdmlmbaaGreatGx4
namespace Go.Proofs.YtdkbkkpbdmlmbaaGreat.G
open Go.RowKit Go.Proofs.YtdkbkkpbdmlmbaaGreatW.PrintWords Go.Proofs.YtdkbkkpbdmlmbaaGreatW.PrintLast Go.Proofs.YtdkbkkpbdmlmbaaGreatW.PrintMore
attribute [local go_sem] max2_int min2_int max_two min_two max_three min_three max_four min_four   -- for this text's walks alone
set_option linter.unusedVariables false
set_option linter.unusedSimpArgs false
theorem z5_0 {P:Prop} (h:P:=by repeat(first|(with_reducible first|exact HB.out|apply Zh|apply Zf|apply Ze)|exact HB.out)):P:=h
theorem z5_1 {P:Prop} (h:P:=by first|(with_reducible assumption)|assumption):P:=h
theorem z5_2 {P:Prop} (h:P:=by(try simp only[Ys,List.map_cons,List.map_nil]);first|done|rfl|(simp only[List.length_drop,List.length_take];rfl)):P:=h
theorem z5_3 {P:Prop} (h:P:=by first|rfl|(simp;done)|(simp[*];done)):P:=h
theorem z5_4 {P:Prop} (h:P:=by repeat(first|exact(Yl HR0_0.out HB.out)|(with_reducible refine Yi ?_ _)|(with_reducible refine Yg ?_ _)|(with_reducible refine Yj ?_))):P:=h
theorem z5_5 {P:Prop} (h:P:=by first|(go_simp;done)|(go_simp;rfl)):P:=h
theorem z5_6 {P:Prop} (h:P:=by repeat(first|exact(Yl HR1.out HB.out)|(with_reducible refine Yi ?_ _)|(with_reducible refine Yg ?_ _)|(with_reducible refine Yj ?_))):P:=h
theorem z5_7 {P:Prop} (h:P:=by(try simp only[Ys,List.map_cons,List.map_nil]);first|done|(simp only[hji31];rfl)|rfl|(simp only[List.length_drop,List.length_take];rfl)):P:=h
theorem z5_8 {P:Prop} (h:P:=by repeat(first|(with_reducible first|exact HB.out|apply Zh|apply Zf|apply Ze|refine Zd ?_ GE451.out)|exact HB.out)):P:=h
theorem z5_9 {P:Prop} (h:P:=by repeat(first|(with_reducible first|exact HB.out|apply Zh|apply Zf|apply Ze|refine Zd ?_ GE430.out)|exact HB.out)):P:=h
theorem z5_10 {P:Prop} (h:P:=by repeat(first|(with_reducible first|exact HB.out|apply Zh|apply Zf|apply Ze|refine Zd ?_ GE416.out)|exact HB.out)):P:=h
theorem z5_11 {P:Prop} (h:P:=by(with_reducible repeat(first|refine blk_drewN ?_ _|refine blk_drew ?_|refine blk_alloc ?_ _));exact BK451.out):P:=h
theorem z5_12 {P:Prop} (h:P:=by(with_reducible repeat(first|refine blk_drewN ?_ _|refine blk_drew ?_|refine blk_alloc ?_ _));exact BK430.out):P:=h
theorem z5_13 {P:Prop} (h:P:=by(with_reducible repeat(first|refine blk_drewN ?_ _|refine blk_drew ?_|refine blk_alloc ?_ _));exact BK416.out):P:=h
theorem z5_14 {P:Prop} (h:P:=by rw[hg];exact(Yh z5_0)):P:=h
/-! ### impl_MemOk: function 43 -/
mutual
def impl_MemOk.j0:Nat→List Int→Bool→List (S75)→Option (Bool)
 |0,_,_,_=>none
 |k+1,x1,x22,x417000=>if x22=true then (some false) else (if 8<(x1.length:Int) then ((impl_UnpackControl.f (rd x1 8)).bind fun bt421=>(if bt421.1<0 then (impl_MemOk.j1 k x1 bt421.2.1 true) else (if bt421.1≥(x417000.length:Int) then (impl_MemOk.j1 k x1 bt421.2.1 true) else (if 25≤(wrap64 (25+bt421.2.2)) then (if (wrap64 (25+bt421.2.2))≤(x1.length:Int) then ((impl_areValues.f ((x1.take ((wrap64 (25+bt421.2.2)):Int).toNat).drop 25)).bind fun t425=>(impl_MemOk.j1 k x1 bt421.2.1 (!t425))) else (none)) else (none))))) else (none))
def impl_MemOk.j1:Nat→List Int→Int→Bool→Option (Bool)
 |0,_,_,_=>none
 |k+1,x1,x6,x47=>if x47=true then (some false) else (impl_MemOk.l0 k x1 x6 0)
def impl_MemOk.l0:Nat→List Int→Int→Int→Option (Bool)
 |0,_,_,_=>none
 |k+1,x1,x48,x49=>if x49<x48 then (if 0≤(wrap64 (9+(wrap64 (2*x49)))) then (if (wrap64 (9+(wrap64 (2*x49))))<(x1.length:Int) then ((impl_isVar.f (rd x1 (wrap64 (9+(wrap64 (2*x49)))))).bind fun t427=>(if t427=true then (if 0≤(wrap64 ((wrap64 (9+(wrap64 (2*x49))))+1)) then (if (wrap64 ((wrap64 (9+(wrap64 (2*x49))))+1))<(x1.length:Int) then ((impl_IsValue.f (rd x1 (wrap64 ((wrap64 (9+(wrap64 (2*x49))))+1)))).bind fun t429=>(if t429=true then (impl_MemOk.l0 k x1 x48 (wrap64 (x49+1))) else (some false))) else (none)) else (none)) else (some false))) else (none)) else (none)) else (some true)
end
def impl_MemOk.f (k:Nat) (l0_0:List (S75)) (l1:List Int):Option (Bool):=(impl_ProgramOk.f k l0_0).bind fun t417=>(if t417=true then (if (l1.length:Int)=49 then (if 8≤(l1.length:Int) then ((impl_areValues.f (l1.take 8)).bind fun t419=>(impl_MemOk.j0 k l1 (!t419) l0_0)) else (none)) else (impl_MemOk.j0 k l1 true l0_0)) else (impl_MemOk.j0 k l1 true l0_0))
set_option maxHeartbeats 8000000 in
set_option maxRecDepth 100000 in
theorem impl_MemOk.calls (k:Nat) (A0_0:Option Addr) (c0_0:Nat) (l0_0:List (S75)) (A1:Option Addr) (c1:Nat) (l1:List Int) (r:Bool) (w:World) (hr0_0:Kd.C k75 w A0_0 l0_0.length l0_0) (hc0_0:l0_0.length≤c0_0) (hr1:Kd.C (Kd.int .i64) w A1 l1.length l1) (hc1:l1.length≤c1) (h:impl_MemOk.f k l0_0 l1=some r):
  Calls Tryz.prog 43 #[.agg #[.slice A0_0 l0_0.length c0_0],.slice A1 l1.length c1] w fun e w'=>e= .returned (.bool r)∧Below w.heap.size w w':=by
 have hu26:=Tryz.underlying26
 have HR0_0:=Za hr0_0
 have HC0_0:=Za hc0_0
 clear hr0_0 hc0_0
 have HR1:=Za hr1
 have HC1:=Za hc1
 clear hr1 hc1
 have HB:=Za (Zx w.heap.size w)
 have H:((impl_ProgramOk.f k l0_0).bind fun t417=>(if t417=true then (if (l1.length:Int)=49 then (if 8≤(l1.length:Int) then ((impl_areValues.f (l1.take 8)).bind fun t419=>(impl_MemOk.j0 k l1 (!t419) l0_0)) else (none)) else (impl_MemOk.j0 k l1 true l0_0)) else (impl_MemOk.j0 k l1 true l0_0)))=some r:=h
 clear h
 have HC3:=Za H
 clear H
 go_enter Tryz.func43,Tryz.ntmps43
 go_upto_region 1 with(first|((with_reducible refine Zp (N:=2) rfl ?_);(try(refine gate_guard (by rfl) ?_;dsimp only));refine Zr ?hg (N:=2) ?hd (cs:= #[.slice A0_0 l0_0.length c0_0]) (t:=26) ?hr ?_;(case hd=>rfl);(case hg=>rfl);(case hr=>exact z5_5);intro gb416 hg w4 hbox hb;have BK416:=Za (hbox);have GW416:=Za ((z5_14:w.heap.size≤gb416));have GE416:=Za ((z5_14:w.heap.size≤gb416));replace HB:=Za (Zj z5_0 hb);clear hb hbox hg))
 (try simp only[Act.put,Zy,Ya,Yb])
 go_cut [22] (fun v22 wc=>∃(kq:Nat) (x22_2:Bool),v22= .bool x22_2∧Aside0 (impl_MemOk.j0 kq l1 x22_2 l0_0=some r)∧Aside0 (kq≤k)∧Aside0 (wc.heap[gb416]? =some (.cells #[(.slice A0_0 l0_0.length c0_0)] 26 (0,0)))∧Aside0 (Below w.heap.size w wc))
 case first=>
  have H:=HC3.out
  clear HC3
  replace H:=Zg H
  obtain⟨t417,A50,H⟩:=H
  replace H:(if t417=true then (if (l1.length:Int)=49 then (if 8≤(l1.length:Int) then ((impl_areValues.f (l1.take 8)).bind fun t419=>(impl_MemOk.j0 k l1 (!t419) l0_0)) else (none)) else (impl_MemOk.j0 k l1 true l0_0)) else (impl_MemOk.j0 k l1 true l0_0))=some r:=H
  have A5:=Za A50
  clear A50
  by_cases c6:t417=true
  ·subst c6
   rw[if_pos rfl] at H
   by_cases c7:(l1.length:Int)=49
   ·rw[if_pos c7] at H
    have c7b0:((l1.length:Int)==49)=true:=beq_iff_eq.mpr c7
    have c7b1:((l1.length:Int) != 49)=false:=bne_eq_false_iff_eq.mpr c7
    clear c7
    (first|rw[c7b0]|(simp only[i64_w,i32_w];rw[c7b0])|skip)
    by_cases c8:8≤(l1.length:Int)
    ·rw[if_pos c8] at H
     have c8b0:=eq_true c8
     have c8b1:decide (8≤(l1.length:Int))=true:=Zq c8
     clear c8
     replace H:=Zg H
     obtain⟨t419,A90,H⟩:=H
     replace H:(impl_MemOk.j0 k l1 (!t419) l0_0)=some r:=H
     have A9:=Za A90
     clear A90
     have H':=Za H
     clear H
     have hcz10_0:w4.cell? ⟨gb416,0,none⟩=some (.slice A0_0 l0_0.length c0_0):=(Zb BK416.out 0).trans rfl
     have hfz10_0:=Zc BK416.out 0
     go_wp2_with (first|((first|((with_reducible refine gate_callee (f:=68) rfl ?_);refine goesL_ (some 10) rfl rfl Tryz.func68 (by kernel_rfl) rfl #[.agg #[.slice A0_0 l0_0.length c0_0]] rfl z5_2 ?_;(with_reducible refine(impl_ProgramOk.calls k _ _ l0_0 true _ ?side1 ?side2 A5.out).mono ?_))|(go_at_call 68;(with_reducible refine(impl_ProgramOk.calls k _ _ l0_0 true _ ?side1 ?side2 A5.out).mono ?_)));(case side1=>exact z5_4);(case side2=>exact HC0_0.out);rintro e w11 ⟨rfl,hb⟩;(first|refine⟨_,rfl,?_⟩|skip);replace BK416:=Za (Zi (g:=gb416) (o:= .cells #[.slice A0_0 l0_0.length c0_0] 26 (0,0)) z5_13 hb);replace HB:=Za (Zj z5_10 hb);(try clear hb);(try clear hb2);(try clear hk);(try clear hi);obtain⟨i012,hi012,_,hsz12,_⟩:=info_parts info3;obtain⟨hcut12,hA12,hC12⟩:=print_take_of (P:=Tryz.prog) (Value.int .i64) 0 27 3 .i64 Tryz.underlying27 hi012 hsz12 A1 c1 l1 8 (by omega) (Zs z5_1) HC1.out;have HR418:=Za (Kd.C_of_reads (h1:=fun _=>rfl) (hA12 _ (Kd.reads_of_C HR1.out)));have HC418:=Za hC12;clear hA12 hC12 hi012 hsz12)|(go_at_call 44;(try simp only[←List.length_take,←List.length_drop]);(first|(with_reducible refine(impl_areValues.calls _ _ (l1.take 8) t419 _ ?side1 ?side2 A9.out).mono ?_)|(refine calls_len1 ?ln_ ((impl_areValues.calls _ _ (l1.take 8) t419 _ ?side1 ?side2 A9.out).mono ?_);(case ln_=>simp only[List.length_drop,List.length_take];first|omega)));(case side1=>repeat(first|exact(Yl HR418.out HB.out)|(with_reducible refine Yi ?_ _)|(with_reducible refine Yg ?_ _)|(with_reducible refine Yj ?_)));(case side2=>exact HC418.out);rintro e w' ⟨rfl,⟨nd,rfl⟩⟩))
     go_meet
     case rel=>exact⟨_,(!t419),z5_3,H',⟨by first|omega|exact Nat.le_refl _⟩,⟨by(with_reducible repeat(first|refine blk_drewN ?_ _|refine blk_drew ?_|refine blk_alloc ?_ _));exact BK416.out⟩,⟨by repeat(first|(with_reducible first|exact HB.out|apply Zh|apply Zf|apply Ze|refine Zd ?_ GE416.out)|exact HB.out)⟩⟩
    ·rw[if_neg c8] at H
     exact absurd H (by simp)
   ·rw[if_neg c7] at H
    have c7b0:((l1.length:Int)==49)=false:=beq_eq_false_iff_ne.mpr c7
    have c7b1:((l1.length:Int) != 49)=true:=bne_iff_ne.mpr c7
    (first|rw[c7b0]|(simp only[i64_w,i32_w];rw[c7b0])|skip)
    have H':=Za H
    clear H
    have hcz13_0:w4.cell? ⟨gb416,0,none⟩=some (.slice A0_0 l0_0.length c0_0):=(Zb BK416.out 0).trans rfl
    have hfz13_0:=Zc BK416.out 0
    go_wp2_with (first|((first|((with_reducible refine gate_callee (f:=68) rfl ?_);refine goesL_ (some 10) rfl rfl Tryz.func68 (by kernel_rfl) rfl #[.agg #[.slice A0_0 l0_0.length c0_0]] rfl z5_2 ?_;(with_reducible refine(impl_ProgramOk.calls k _ _ l0_0 true _ ?side1 ?side2 A5.out).mono ?_))|(go_at_call 68;(with_reducible refine(impl_ProgramOk.calls k _ _ l0_0 true _ ?side1 ?side2 A5.out).mono ?_)));(case side1=>exact z5_4);(case side2=>exact HC0_0.out);rintro e w14 ⟨rfl,hb⟩;(first|refine⟨_,rfl,?_⟩|skip);replace BK416:=Za (Zi (g:=gb416) (o:= .cells #[.slice A0_0 l0_0.length c0_0] 26 (0,0)) z5_13 hb);replace HB:=Za (Zj z5_10 hb);(try clear hb);(try clear hb2);(try clear hk);(try clear hi)))
    go_meet
    case rel=>exact⟨_,(true),z5_3,H',⟨by first|omega|exact Nat.le_refl _⟩,⟨by(with_reducible repeat(first|refine blk_drewN ?_ _|refine blk_drew ?_|refine blk_alloc ?_ _));exact BK416.out⟩,⟨by repeat(first|(with_reducible first|exact HB.out|apply Zh|apply Zf|apply Ze|refine Zd ?_ GE416.out)|exact HB.out)⟩⟩
  ·replace c6:=Bool.eq_false_iff.mpr c6
   subst c6
   rw[if_neg (show ¬(false=true) by decide)] at H
   have H':=Za H
   clear H
   have hcz15_0:w4.cell? ⟨gb416,0,none⟩=some (.slice A0_0 l0_0.length c0_0):=(Zb BK416.out 0).trans rfl
   have hfz15_0:=Zc BK416.out 0
   go_wp2_with (first|((first|((with_reducible refine gate_callee (f:=68) rfl ?_);refine goesL_ (some 10) rfl rfl Tryz.func68 (by kernel_rfl) rfl #[.agg #[.slice A0_0 l0_0.length c0_0]] rfl z5_2 ?_;(with_reducible refine(impl_ProgramOk.calls k _ _ l0_0 false _ ?side1 ?side2 A5.out).mono ?_))|(go_at_call 68;(with_reducible refine(impl_ProgramOk.calls k _ _ l0_0 false _ ?side1 ?side2 A5.out).mono ?_)));(case side1=>exact z5_4);(case side2=>exact HC0_0.out);rintro e w16 ⟨rfl,hb⟩;(first|refine⟨_,rfl,?_⟩|skip);replace BK416:=Za (Zi (g:=gb416) (o:= .cells #[.slice A0_0 l0_0.length c0_0] 26 (0,0)) z5_13 hb);replace HB:=Za (Zj z5_10 hb);(try clear hb);(try clear hb2);(try clear hk);(try clear hi)))
   go_meet
   case rel=>exact⟨_,(true),z5_3,H',⟨by first|omega|exact Nat.le_refl _⟩,⟨by(with_reducible repeat(first|refine blk_drewN ?_ _|refine blk_drew ?_|refine blk_alloc ?_ _));exact BK416.out⟩,⟨by repeat(first|(with_reducible first|exact HB.out|apply Zh|apply Zf|apply Ze|refine Zd ?_ GE416.out)|exact HB.out)⟩⟩
 case rest=>
  clear HC3
  (try clear c1)
  obtain⟨kq,x22_2,rfl,HA,HJ2,BK416,HB⟩:=hcut
  cases kq with
  |zero=>exact absurd HA.out (by simp[impl_MemOk.j0])
  |succ kj2=>
   have H:=HA.out
   clear HA
   simp only[impl_MemOk.j0] at H
   by_cases c17:x22_2=true
   ·subst c17
    rw[if_pos rfl] at H
    obtain rfl:=Zk H
    go_wp2
    go_ret
    exact⟨by first|rfl|(simp[errW_none,errW_some]<;>rfl)|(simp[*,errW_none,errW_some]<;>rfl)|(simp[*,errW_none,errW_some,i64_w];done),by repeat(first|(with_reducible first|exact HB.out|apply Zh|apply Zf|apply Ze|refine Zd ?_ GE416.out)|exact HB.out)⟩
   ·replace c17:=Bool.eq_false_iff.mpr c17
    subst c17
    rw[if_neg (show ¬(false=true) by decide)] at H
    by_cases c18:8<(l1.length:Int)
    ·rw[if_pos c18] at H
     have c18b0:decide (8<(l1.length:Int))=true:=Zq c18
     have c18b1:decide (8<l1.length)=true:=Zq (by omega)
     clear c18
     replace H:=Zg H
     obtain⟨⟨t421,t422,t423⟩,A190,H⟩:=H
     replace H:(if t421<0 then (impl_MemOk.j1 kj2 l1 t422 true) else (if t421≥(l0_0.length:Int) then (impl_MemOk.j1 kj2 l1 t422 true) else (if 25≤(wrap64 (25+t423)) then (if (wrap64 (25+t423))≤(l1.length:Int) then ((impl_areValues.f ((l1.take ((wrap64 (25+t423)):Int).toNat).drop 25)).bind fun t425=>(impl_MemOk.j1 kj2 l1 t422 (!t425))) else (none)) else (none))))=some r:=H
     have A19:=Za A190
     clear A190
     have HC20:=Za H
     clear H
     have p420:0≤(8:Int):=(by omega)
     have q420:8<(l1.length:Int):=Zs z5_1
     obtain⟨ad420,e420,hx420_0⟩:=Kd.at_int HR1.out 8 p420 q420
     cases e420
     (try simp only[show(8:Int).toNat=8 from rfl,Nat.reduceMul,Nat.reduceEqDiff,Go.Addr.add,↓reduceIte] at hx420_0)
     have qi420:(8<l1.length)=True:=eq_true (by omega)
     (try rw[show((8:Int)).toNat=8 from rfl] at hx420_0)
     replace hx420_0:=(HB.out.cell (Yq w _ hx420_0)).trans hx420_0
     replace p420:=eq_true p420
     replace q420:=eq_true q420
     go_upto_region 4 with(first|((first|((with_reducible refine gate_callee (f:=45) rfl ?_);refine goesL_ (some 27) rfl rfl Tryz.func45 (by kernel_rfl) rfl #[.int .i64 (rd l1 8)] rfl z5_2 ?_;(with_reducible refine(impl_UnpackControl.calls (rd l1 8) t421 t422 t423 _ A19.out).mono ?_))|(go_at_call 45;(with_reducible refine(impl_UnpackControl.calls (rd l1 8) t421 t422 t423 _ A19.out).mono ?_)));rintro e w' ⟨rfl,⟨nd,rfl⟩⟩;(first|refine⟨_,rfl,?_⟩|skip)))
     (try simp only[Act.put,Zy,Ya,Yb])
     go_cut [47] (fun v47 wc=>∃(kq:Nat) (x47_19:Bool),v47= .bool x47_19∧Aside0 (impl_MemOk.j1 kq l1 t422 x47_19=some r)∧Aside0 (kq≤kj2)∧Aside0 (wc.heap[gb416]? =some (.cells #[(.slice A0_0 l0_0.length c0_0)] 26 (0,0)))∧Aside0 (Below w.heap.size w wc))
     case first=>
      have H:=HC20.out
      clear HC20
      by_cases c21:t421<0
      ·rw[if_pos c21] at H
       have c21b0:decide (t421<0)=true:=Zq c21
       clear c21
       (first|rw[c21b0]|(simp only[i64_w,i32_w];rw[c21b0])|skip)
       have H':=Za H
       clear H
       go_wp2
       go_meet
       case rel=>exact⟨_,(true),z5_3,H',⟨by have:=HJ2.out;first|omega|exact Nat.le_refl _⟩,⟨by(with_reducible repeat(first|refine blk_drewN ?_ _|refine blk_drew ?_|refine blk_alloc ?_ _));exact BK416.out⟩,⟨by repeat(first|(with_reducible first|exact HB.out|apply Zh|apply Zf|apply Ze|refine Zd ?_ GE416.out)|exact HB.out)⟩⟩
      ·rw[if_neg c21] at H
       have c21b0:decide (t421<0)=false:=Yf c21
       clear c21
       (first|rw[c21b0]|(simp only[i64_w,i32_w];rw[c21b0])|skip)
       by_cases c22:t421≥(l0_0.length:Int)
       ·rw[if_pos c22] at H
        have c22b0:decide ((l0_0.length:Int)≤t421)=true:=Zq c22
        clear c22
        have H':=Za H
        clear H
        have hcz23_0:wc.cell? ⟨gb416,0,none⟩=some (.slice A0_0 l0_0.length c0_0):=(Zb BK416.out 0).trans rfl
        have hfz23_0:=Zc BK416.out 0
        go_wp2
        go_meet
        case rel=>exact⟨_,(true),z5_3,H',⟨by have:=HJ2.out;first|omega|exact Nat.le_refl _⟩,⟨by(with_reducible repeat(first|refine blk_drewN ?_ _|refine blk_drew ?_|refine blk_alloc ?_ _));exact BK416.out⟩,⟨by repeat(first|(with_reducible first|exact HB.out|apply Zh|apply Zf|apply Ze|refine Zd ?_ GE416.out)|exact HB.out)⟩⟩
       ·rw[if_neg c22] at H
        have c22b0:decide ((l0_0.length:Int)≤t421)=false:=Yf c22
        clear c22
        by_cases c24:25≤(wrap64 (25+t423))
        ·rw[if_pos c24] at H
         have c24b0:=eq_true c24
         have c24b1:decide (25≤(wrap64 (25+t423)))=true:=Zq c24
         by_cases c25:(wrap64 (25+t423))≤(l1.length:Int)
         ·rw[if_pos c25] at H
          have c25b0:=eq_true c25
          have c25b1:decide ((wrap64 (25+t423))≤(l1.length:Int))=true:=Zq c25
          replace H:=Zg H
          obtain⟨t425,A260,H⟩:=H
          replace H:(impl_MemOk.j1 kj2 l1 t422 (!t425))=some r:=H
          have A26:=Za A260
          clear A260
          have H':=Za H
          clear H
          have hcz27_0:wc.cell? ⟨gb416,0,none⟩=some (.slice A0_0 l0_0.length c0_0):=(Zb BK416.out 0).trans rfl
          have hfz27_0:=Zc BK416.out 0
          obtain⟨i028,hi028,_,hsz28,_⟩:=info_parts info3
          obtain⟨A28,hcut28,hA28,hC28⟩:=print_mid_of (P:=Tryz.prog) (Value.int .i64) 0 27 3 .i64 .i64 Tryz.underlying27 hi028 hsz28 (some ad420) c1 l1 25 (wrap64 (25+t423)) (by omega) (by first|omega|exact Zs z5_1) (Zs z5_1) HC1.out
          have HR424:=Za (Kd.C_of_reads (h1:=fun _=>rfl) (hA28 _ (Kd.reads_of_C HR1.out)))
          have HC424:=Za hC28
          clear hA28 hC28 hi028 hsz28
          go_wp2_with (first|(go_at_call 44;(try simp only[←List.length_take,←List.length_drop]);(first|(with_reducible refine(impl_areValues.calls _ _ ((l1.take ((wrap64 (25+t423)):Int).toNat).drop 25) t425 _ ?side1 ?side2 A26.out).mono ?_)|(refine calls_len1 ?ln_ ((impl_areValues.calls _ _ ((l1.take ((wrap64 (25+t423)):Int).toNat).drop 25) t425 _ ?side1 ?side2 A26.out).mono ?_);(case ln_=>simp only[List.length_drop,List.length_take];first|omega|(have h_:(wrap64 (25+t423))≤(l1.length:Int):=Zs (by assumption);omega))));(case side1=>repeat(first|exact(Yl HR424.out HB.out)|(with_reducible refine Yi ?_ _)|(with_reducible refine Yg ?_ _)|(with_reducible refine Yj ?_)));(case side2=>exact HC424.out);rintro e w' ⟨rfl,⟨nd,rfl⟩⟩))
          go_meet
          case rel=>exact⟨_,(!t425),z5_3,H',⟨by have:=HJ2.out;first|omega|exact Nat.le_refl _⟩,⟨by(with_reducible repeat(first|refine blk_drewN ?_ _|refine blk_drew ?_|refine blk_alloc ?_ _));exact BK416.out⟩,⟨by repeat(first|(with_reducible first|exact HB.out|apply Zh|apply Zf|apply Ze|refine Zd ?_ GE416.out)|exact HB.out)⟩⟩
         ·rw[if_neg c25] at H
          exact absurd H (by simp)
        ·rw[if_neg c24] at H
         exact absurd H (by simp)
     case rest=>
      clear HC20
      (try clear c1);(try clear c17);(try clear c18);(try clear c18b0);(try clear c18b1);(try clear hx420_0);(try clear p420);(try clear q420)
      obtain⟨kq,x47_19,rfl,HA,HJ19,BK416,HB⟩:=hcut
      cases kq with
      |zero=>exact absurd HA.out (by simp[impl_MemOk.j1])
      |succ kj19=>
       have H:=HA.out
       clear HA
       simp only[impl_MemOk.j1] at H
       by_cases c29:x47_19=true
       ·subst c29
        rw[if_pos rfl] at H
        obtain rfl:=Zk H
        go_wp2
        go_ret
        exact⟨by first|rfl|(simp[errW_none,errW_some]<;>rfl)|(simp[*,errW_none,errW_some]<;>rfl)|(simp[*,errW_none,errW_some,i64_w];done),by repeat(first|(with_reducible first|exact HB.out|apply Zh|apply Zf|apply Ze|refine Zd ?_ GE416.out)|exact HB.out)⟩
       ·replace c29:=Bool.eq_false_iff.mpr c29
        subst c29
        rw[if_neg (show ¬(false=true) by decide)] at H
        have H':=Za H
        clear H
        go_wp2
        go_loopg [49] kj19 (fun kq v49 w'=>∃(x49_3:Int),v49= .int .i64 x49_3∧Aside0 (impl_MemOk.l0 kq l1 t422 x49_3=some r)∧Aside0 (kq≤kj19)∧Aside0 (w'.heap[gb416]? =some (.cells #[(.slice A0_0 l0_0.length c0_0)] 26 (0,0)))∧Aside0 (Below w.heap.size w w'))
        case atStart=>exact⟨(0),z5_3,H',⟨Nat.le_refl _⟩,⟨by(with_reducible repeat(first|refine blk_drewN ?_ _|refine blk_drew ?_|refine blk_alloc ?_ _));exact BK416.out⟩,⟨by repeat(first|(with_reducible first|exact HB.out|apply Zh|apply Zf|apply Ze|refine Zd ?_ GE416.out)|exact HB.out)⟩⟩
        case round=>
         clear H'
         (try clear c1);(try clear c17);(try clear c18);(try clear c18b0);(try clear c18b1);(try clear c29);(try clear hx420_0);(try clear p420);(try clear q420)
         obtain⟨x49_3,rfl,HA,HK3,BK416,HB⟩:=hrel
         cases gk with
         |zero=>exact absurd HA.out (by simp[impl_MemOk.l0])
         |succ k3=>
          have H:=HA.out
          clear HA
          simp only[impl_MemOk.l0] at H
          by_cases c30:x49_3<t422
          ·rw[if_pos c30] at H
           have c30b0:decide (x49_3<t422)=true:=Zq c30
           clear c30
           obtain⟨ji31,hji31⟩:∃j_:Int,(wrap64 (9+(wrap64 (2*x49_3))))=j_:=⟨_,rfl⟩
           replace H:(if 0≤(ji31) then (if (ji31)<(l1.length:Int) then ((impl_isVar.f (rd l1 (ji31))).bind fun t427=>(if t427=true then (if 0≤(wrap64 ((ji31)+1)) then (if (wrap64 ((ji31)+1))<(l1.length:Int) then ((impl_IsValue.f (rd l1 (wrap64 ((ji31)+1)))).bind fun t429=>(if t429=true then (impl_MemOk.l0 k3 l1 t422 (wrap64 (x49_3+1))) else (some false))) else (none)) else (none)) else (some false))) else (none)) else (none))=some r:=by first|(rw[hji31] at H;exact H)|(simp only[hji31] at H ⊢;exact H)
           have hji31w:(IntKind.i64.wrap (9+(wrap64 (2*x49_3))))=ji31:=(i64_w _).trans hji31
           by_cases c32:0≤(ji31)
           ·rw[if_pos c32] at H
            have c32b0:decide (0≤(ji31))=true:=Zq c32
            clear c32
            by_cases c33:(ji31)<(l1.length:Int)
            ·rw[if_pos c33] at H
             have c33b0:decide ((ji31)<(l1.length:Int))=true:=Zq c33
             clear c33
             replace H:=Zg H
             obtain⟨t427,A340,H⟩:=H
             replace H:(if t427=true then (if 0≤(wrap64 ((ji31)+1)) then (if (wrap64 ((ji31)+1))<(l1.length:Int) then ((impl_IsValue.f (rd l1 (wrap64 ((ji31)+1)))).bind fun t429=>(if t429=true then (impl_MemOk.l0 k3 l1 t422 (wrap64 (x49_3+1))) else (some false))) else (none)) else (none)) else (some false))=some r:=H
             have A34:=Za A340
             clear A340
             by_cases c35:t427=true
             ·subst c35
              rw[if_pos rfl] at H
              obtain⟨ji36,hji36⟩:∃j_:Int,(wrap64 ((ji31)+1))=j_:=⟨_,rfl⟩
              replace H:(if 0≤(ji36) then (if (ji36)<(l1.length:Int) then ((impl_IsValue.f (rd l1 (ji36))).bind fun t429=>(if t429=true then (impl_MemOk.l0 k3 l1 t422 (wrap64 (x49_3+1))) else (some false))) else (none)) else (none))=some r:=by first|(rw[hji36] at H;exact H)|(simp only[hji36] at H ⊢;exact H)
              (try rw[hji36] at A34)
              have hji36w:(IntKind.i64.wrap ((ji31)+1))=ji36:=(i64_w _).trans hji36
              by_cases c37:0≤(ji36)
              ·rw[if_pos c37] at H
               have c37b0:decide (0≤(ji36))=true:=Zq c37
               clear c37
               by_cases c38:(ji36)<(l1.length:Int)
               ·rw[if_pos c38] at H
                have c38b0:decide ((ji36)<(l1.length:Int))=true:=Zq c38
                clear c38
                replace H:=Zg H
                obtain⟨t429,A390,H⟩:=H
                replace H:(if t429=true then (impl_MemOk.l0 k3 l1 t422 (wrap64 (x49_3+1))) else (some false))=some r:=H
                have A39:=Za A390
                clear A390
                by_cases c40:t429=true
                ·subst c40
                 rw[if_pos rfl] at H
                 have H':=Za H
                 clear H
                 have p426:0≤((ji31):Int):=Zs z5_1
                 have q426:(ji31)<(l1.length:Int):=Zs z5_1
                 obtain⟨ad426,e426,hx426_0⟩:=Kd.at_int HR1.out (ji31) p426 q426
                 obtain rfl:ad420=ad426:=(by injection e426)
                 replace hx426_0:=(HB.out.cell (Yq w _ hx426_0)).trans hx426_0
                 replace p426:=eq_true p426
                 replace q426:=eq_true q426
                 go_wp2_with (first|((first|((with_reducible refine gate_callee (f:=46) rfl ?_);refine goesL_ (some 58) rfl rfl Tryz.func46 (by kernel_rfl) rfl #[.int .i64 (rd l1 (ji31))] rfl z5_7 ?_;(with_reducible refine(impl_isVar.calls (rd l1 (ji31)) true _ A34.out).mono ?_))|(go_at_call 46;(with_reducible refine(impl_isVar.calls (rd l1 (ji31)) true _ A34.out).mono ?_)));rintro e w' ⟨rfl,⟨nd,rfl⟩⟩;(first|refine⟨_,rfl,?_⟩|skip);have p428:0≤((ji36):Int):=Zs z5_1;have q428:(ji36)<(l1.length:Int):=Zs z5_1;obtain⟨ad428,e428,hx428_0⟩:=Kd.at_int HR1.out (ji36) p428 q428;obtain rfl:ad420=ad428:=(by injection e428);replace hx428_0:=(HB.out.cell (Yq w _ hx428_0)).trans hx428_0;replace p428:=eq_true p428;replace q428:=eq_true q428)|(go_at_call 69;(with_reducible refine(impl_IsValue.calls (rd l1 (ji36)) true _ A39.out).mono ?_);rintro e w' ⟨rfl,⟨nd,rfl⟩⟩))
                 go_roundg k3
                 case measure=>have:=HJ2.out;have:=HJ19.out;have:=HK3.out;omega
                 case rel=>exact⟨(wrap64 (x49_3+1)),z5_3,H',⟨by have:=HJ2.out;have:=HJ19.out;have:=HK3.out;omega⟩,⟨by(with_reducible repeat(first|refine blk_drewN ?_ _|refine blk_drew ?_|refine blk_alloc ?_ _));exact BK416.out⟩,⟨by repeat(first|(with_reducible first|exact HB.out|apply Zh|apply Zf|apply Ze|refine Zd ?_ GE416.out)|exact HB.out)⟩⟩
                ·replace c40:=Bool.eq_false_iff.mpr c40
                 subst c40
                 rw[if_neg (show ¬(false=true) by decide)] at H
                 obtain rfl:=Zk H
                 have p426:0≤((ji31):Int):=Zs z5_1
                 have q426:(ji31)<(l1.length:Int):=Zs z5_1
                 obtain⟨ad426,e426,hx426_0⟩:=Kd.at_int HR1.out (ji31) p426 q426
                 obtain rfl:ad420=ad426:=(by injection e426)
                 replace hx426_0:=(HB.out.cell (Yq w _ hx426_0)).trans hx426_0
                 replace p426:=eq_true p426
                 replace q426:=eq_true q426
                 go_wp2_with (first|((first|((with_reducible refine gate_callee (f:=46) rfl ?_);refine goesL_ (some 58) rfl rfl Tryz.func46 (by kernel_rfl) rfl #[.int .i64 (rd l1 (ji31))] rfl z5_7 ?_;(with_reducible refine(impl_isVar.calls (rd l1 (ji31)) true _ A34.out).mono ?_))|(go_at_call 46;(with_reducible refine(impl_isVar.calls (rd l1 (ji31)) true _ A34.out).mono ?_)));rintro e w' ⟨rfl,⟨nd,rfl⟩⟩;(first|refine⟨_,rfl,?_⟩|skip);have p428:0≤((ji36):Int):=Zs z5_1;have q428:(ji36)<(l1.length:Int):=Zs z5_1;obtain⟨ad428,e428,hx428_0⟩:=Kd.at_int HR1.out (ji36) p428 q428;obtain rfl:ad420=ad428:=(by injection e428);replace hx428_0:=(HB.out.cell (Yq w _ hx428_0)).trans hx428_0;replace p428:=eq_true p428;replace q428:=eq_true q428)|(go_at_call 69;(with_reducible refine(impl_IsValue.calls (rd l1 (ji36)) false _ A39.out).mono ?_);rintro e w' ⟨rfl,⟨nd,rfl⟩⟩))
                 go_ret
                 exact⟨by first|rfl|(simp[errW_none,errW_some]<;>rfl)|(simp only[←hji31,←hji36];first|rfl|(simp[errW_none,errW_some]<;>rfl))|(simp[*,errW_none,errW_some]<;>rfl)|(simp[*,errW_none,errW_some,i64_w];done),by repeat(first|(with_reducible first|exact HB.out|apply Zh|apply Zf|apply Ze|refine Zd ?_ GE416.out)|exact HB.out)⟩
               ·rw[if_neg c38] at H
                exact absurd H (by simp)
              ·rw[if_neg c37] at H
               exact absurd H (by simp)
             ·replace c35:=Bool.eq_false_iff.mpr c35
              subst c35
              rw[if_neg (show ¬(false=true) by decide)] at H
              obtain rfl:=Zk H
              have p426:0≤((ji31):Int):=Zs z5_1
              have q426:(ji31)<(l1.length:Int):=Zs z5_1
              obtain⟨ad426,e426,hx426_0⟩:=Kd.at_int HR1.out (ji31) p426 q426
              obtain rfl:ad420=ad426:=(by injection e426)
              replace hx426_0:=(HB.out.cell (Yq w _ hx426_0)).trans hx426_0
              replace p426:=eq_true p426
              replace q426:=eq_true q426
              go_wp2_with (first|((first|((with_reducible refine gate_callee (f:=46) rfl ?_);refine goesL_ (some 58) rfl rfl Tryz.func46 (by kernel_rfl) rfl #[.int .i64 (rd l1 (ji31))] rfl z5_7 ?_;(with_reducible refine(impl_isVar.calls (rd l1 (ji31)) false _ A34.out).mono ?_))|(go_at_call 46;(with_reducible refine(impl_isVar.calls (rd l1 (ji31)) false _ A34.out).mono ?_)));rintro e w' ⟨rfl,⟨nd,rfl⟩⟩;(first|refine⟨_,rfl,?_⟩|skip)))
              go_ret
              exact⟨by first|rfl|(simp[errW_none,errW_some]<;>rfl)|(simp only[←hji31];first|rfl|(simp[errW_none,errW_some]<;>rfl))|(simp[*,errW_none,errW_some]<;>rfl)|(simp[*,errW_none,errW_some,i64_w];done),by repeat(first|(with_reducible first|exact HB.out|apply Zh|apply Zf|apply Ze|refine Zd ?_ GE416.out)|exact HB.out)⟩
            ·rw[if_neg c33] at H
             exact absurd H (by simp)
           ·rw[if_neg c32] at H
            exact absurd H (by simp)
          ·rw[if_neg c30] at H
           have c30b0:decide (x49_3<t422)=false:=Yf c30
           clear c30
           obtain rfl:=Zk H
           go_wp2
           go_ret
           exact⟨by first|rfl|(simp[errW_none,errW_some]<;>rfl)|(simp[*,errW_none,errW_some]<;>rfl)|(simp[*,errW_none,errW_some,i64_w];done),by repeat(first|(with_reducible first|exact HB.out|apply Zh|apply Zf|apply Ze|refine Zd ?_ GE416.out)|exact HB.out)⟩
    ·rw[if_neg c18] at H
     exact absurd H (by simp)
def impl_isBootAt.f (k:Nat) (l0_0:List (S75)) (l1:List Int) (l2:List Int) (a3:Int):Option (Bool):=(impl_MemOk.f k l0_0 l1).bind fun t431=>(if t431=true then ((impl_areValues.f l2).bind fun t432=>(if t432=true then ((impl_within.f a3 0 500000).bind fun t433=>(some t433)) else (some false))) else (some false))
set_option maxHeartbeats 8000000 in
set_option maxRecDepth 100000 in
theorem impl_isBootAt.calls (k:Nat) (A0_0:Option Addr) (c0_0:Nat) (l0_0:List (S75)) (A1:Option Addr) (c1:Nat) (l1:List Int) (A2:Option Addr) (c2:Nat) (l2:List Int) (a3:Int) (r:Bool) (w:World) (hr0_0:Kd.C k75 w A0_0 l0_0.length l0_0) (hc0_0:l0_0.length≤c0_0) (hr1:Kd.C (Kd.int .i64) w A1 l1.length l1) (hc1:l1.length≤c1) (hr2:Kd.C (Kd.int .i64) w A2 l2.length l2) (hc2:l2.length≤c2) (h:impl_isBootAt.f k l0_0 l1 l2 a3=some r):
  Calls Tryz.prog 25 #[.agg #[.slice A0_0 l0_0.length c0_0],.slice A1 l1.length c1,.slice A2 l2.length c2,.int .i64 a3] w fun e w'=>e= .returned (.bool r)∧Below w.heap.size w w':=by
 have hu26:=Tryz.underlying26
 have HR0_0:=Za hr0_0
 have HC0_0:=Za hc0_0
 clear hr0_0 hc0_0
 have HR1:=Za hr1
 have HC1:=Za hc1
 clear hr1 hc1
 have HR2:=Za hr2
 have HC2:=Za hc2
 clear hr2 hc2
 have HB:=Za (Zx w.heap.size w)
 have H:((impl_MemOk.f k l0_0 l1).bind fun t431=>(if t431=true then ((impl_areValues.f l2).bind fun t432=>(if t432=true then ((impl_within.f a3 0 500000).bind fun t433=>(some t433)) else (some false))) else (some false)))=some r:=h
 clear h
 replace H:=Zg H
 obtain⟨t431,A50,H⟩:=H
 replace H:(if t431=true then ((impl_areValues.f l2).bind fun t432=>(if t432=true then ((impl_within.f a3 0 500000).bind fun t433=>(some t433)) else (some false))) else (some false))=some r:=H
 have A5:=Za A50
 clear A50
 by_cases c6:t431=true
 ·subst c6
  rw[if_pos rfl] at H
  replace H:=Zg H
  obtain⟨t432,A70,H⟩:=H
  replace H:(if t432=true then ((impl_within.f a3 0 500000).bind fun t433=>(some t433)) else (some false))=some r:=H
  have A7:=Za A70
  clear A70
  by_cases c8:t432=true
  ·subst c8
   rw[if_pos rfl] at H
   replace H:=Zg H
   obtain⟨t433,A90,H⟩:=H
   replace H:(some t433)=some r:=H
   have A9:=Za A90
   clear A90
   obtain rfl:=Zk H
   go_enter Tryz.func25,Tryz.ntmps25
   go_wp2_with (first|((with_reducible refine Zp (N:=4) rfl ?_);refine Zr ?hg (N:=4) ?hd (cs:= #[.slice A0_0 l0_0.length c0_0]) (t:=26) ?hr ?_;(case hd=>rfl);(case hg=>rfl);(case hr=>exact z5_5);intro gb430 hg w10 hbox hb;have BK430:=Za (hbox);have GW430:=Za ((z5_14:w.heap.size≤gb430));have GE430:=Za ((z5_14:w.heap.size≤gb430));replace HB:=Za (Zj z5_0 hb);clear hb hbox hg;have hcz11_0:w10.cell? ⟨gb430,0,none⟩=some (.slice A0_0 l0_0.length c0_0):=(Zb BK430.out 0).trans rfl;have hfz11_0:=Zc BK430.out 0)|((first|((with_reducible refine gate_callee (f:=43) rfl ?_);refine goesL_ (some 11) rfl rfl Tryz.func43 (by kernel_rfl) rfl #[.agg #[.slice A0_0 l0_0.length c0_0],.slice A1 l1.length c1] rfl z5_2 ?_;(with_reducible refine(impl_MemOk.calls k _ _ l0_0 _ _ l1 true _ ?side1 ?side2 ?side3 ?side4 A5.out).mono ?_))|(go_at_call 43;(with_reducible refine(impl_MemOk.calls k _ _ l0_0 _ _ l1 true _ ?side1 ?side2 ?side3 ?side4 A5.out).mono ?_)));(case side1=>exact z5_4);(case side2=>exact HC0_0.out);(case side3=>exact z5_6);(case side4=>exact HC1.out);rintro e w12 ⟨rfl,hb⟩;(first|refine⟨_,rfl,?_⟩|skip);replace BK430:=Za (Zi (g:=gb430) (o:= .cells #[.slice A0_0 l0_0.length c0_0] 26 (0,0)) z5_12 hb);replace HB:=Za (Zj z5_9 hb);(try clear hb);(try clear hb2);(try clear hk);(try clear hi))|(go_at_call 44;(with_reducible refine(impl_areValues.calls _ _ l2 true _ ?side1 ?side2 A7.out).mono ?_);(case side1=>repeat(first|exact(Yl HR2.out HB.out)|(with_reducible refine Yi ?_ _)|(with_reducible refine Yg ?_ _)|(with_reducible refine Yj ?_)));(case side2=>exact HC2.out);rintro e w' ⟨rfl,⟨nd,rfl⟩⟩)|(go_at_call 30;(with_reducible refine(impl_within.calls a3 0 500000 t433 _ A9.out).mono ?_);rintro e w' ⟨rfl,⟨nd,rfl⟩⟩))
   go_ret
   exact⟨by first|rfl|(simp[errW_none,errW_some]<;>rfl)|(simp[*,errW_none,errW_some]<;>rfl)|(simp[*,errW_none,errW_some,i64_w];done),by repeat(first|(with_reducible first|exact HB.out|apply Zh|apply Zf|apply Ze|refine Zd ?_ GE430.out)|exact HB.out)⟩
  ·replace c8:=Bool.eq_false_iff.mpr c8
   subst c8
   rw[if_neg (show ¬(false=true) by decide)] at H
   obtain rfl:=Zk H
   go_enter Tryz.func25,Tryz.ntmps25
   go_wp2_with (first|((with_reducible refine Zp (N:=4) rfl ?_);refine Zr ?hg (N:=4) ?hd (cs:= #[.slice A0_0 l0_0.length c0_0]) (t:=26) ?hr ?_;(case hd=>rfl);(case hg=>rfl);(case hr=>exact z5_5);intro gb430 hg w13 hbox hb;have BK430:=Za (hbox);have GW430:=Za ((z5_14:w.heap.size≤gb430));have GE430:=Za ((z5_14:w.heap.size≤gb430));replace HB:=Za (Zj z5_0 hb);clear hb hbox hg;have hcz14_0:w13.cell? ⟨gb430,0,none⟩=some (.slice A0_0 l0_0.length c0_0):=(Zb BK430.out 0).trans rfl;have hfz14_0:=Zc BK430.out 0)|((first|((with_reducible refine gate_callee (f:=43) rfl ?_);refine goesL_ (some 11) rfl rfl Tryz.func43 (by kernel_rfl) rfl #[.agg #[.slice A0_0 l0_0.length c0_0],.slice A1 l1.length c1] rfl z5_2 ?_;(with_reducible refine(impl_MemOk.calls k _ _ l0_0 _ _ l1 true _ ?side1 ?side2 ?side3 ?side4 A5.out).mono ?_))|(go_at_call 43;(with_reducible refine(impl_MemOk.calls k _ _ l0_0 _ _ l1 true _ ?side1 ?side2 ?side3 ?side4 A5.out).mono ?_)));(case side1=>exact z5_4);(case side2=>exact HC0_0.out);(case side3=>exact z5_6);(case side4=>exact HC1.out);rintro e w15 ⟨rfl,hb⟩;(first|refine⟨_,rfl,?_⟩|skip);replace BK430:=Za (Zi (g:=gb430) (o:= .cells #[.slice A0_0 l0_0.length c0_0] 26 (0,0)) z5_12 hb);replace HB:=Za (Zj z5_9 hb);(try clear hb);(try clear hb2);(try clear hk);(try clear hi))|(go_at_call 44;(with_reducible refine(impl_areValues.calls _ _ l2 false _ ?side1 ?side2 A7.out).mono ?_);(case side1=>repeat(first|exact(Yl HR2.out HB.out)|(with_reducible refine Yi ?_ _)|(with_reducible refine Yg ?_ _)|(with_reducible refine Yj ?_)));(case side2=>exact HC2.out);rintro e w' ⟨rfl,⟨nd,rfl⟩⟩))
   go_ret
   exact⟨by first|rfl|(simp[errW_none,errW_some]<;>rfl)|(simp[*,errW_none,errW_some]<;>rfl)|(simp[*,errW_none,errW_some,i64_w];done),by repeat(first|(with_reducible first|exact HB.out|apply Zh|apply Zf|apply Ze|refine Zd ?_ GE430.out)|exact HB.out)⟩
 ·replace c6:=Bool.eq_false_iff.mpr c6
  subst c6
  rw[if_neg (show ¬(false=true) by decide)] at H
  obtain rfl:=Zk H
  go_enter Tryz.func25,Tryz.ntmps25
  go_wp2_with (first|((with_reducible refine Zp (N:=4) rfl ?_);refine Zr ?hg (N:=4) ?hd (cs:= #[.slice A0_0 l0_0.length c0_0]) (t:=26) ?hr ?_;(case hd=>rfl);(case hg=>rfl);(case hr=>exact z5_5);intro gb430 hg w16 hbox hb;have BK430:=Za (hbox);have GW430:=Za ((z5_14:w.heap.size≤gb430));have GE430:=Za ((z5_14:w.heap.size≤gb430));replace HB:=Za (Zj z5_0 hb);clear hb hbox hg;have hcz17_0:w16.cell? ⟨gb430,0,none⟩=some (.slice A0_0 l0_0.length c0_0):=(Zb BK430.out 0).trans rfl;have hfz17_0:=Zc BK430.out 0)|((first|((with_reducible refine gate_callee (f:=43) rfl ?_);refine goesL_ (some 11) rfl rfl Tryz.func43 (by kernel_rfl) rfl #[.agg #[.slice A0_0 l0_0.length c0_0],.slice A1 l1.length c1] rfl z5_2 ?_;(with_reducible refine(impl_MemOk.calls k _ _ l0_0 _ _ l1 false _ ?side1 ?side2 ?side3 ?side4 A5.out).mono ?_))|(go_at_call 43;(with_reducible refine(impl_MemOk.calls k _ _ l0_0 _ _ l1 false _ ?side1 ?side2 ?side3 ?side4 A5.out).mono ?_)));(case side1=>exact z5_4);(case side2=>exact HC0_0.out);(case side3=>exact z5_6);(case side4=>exact HC1.out);rintro e w18 ⟨rfl,hb⟩;(first|refine⟨_,rfl,?_⟩|skip);replace BK430:=Za (Zi (g:=gb430) (o:= .cells #[.slice A0_0 l0_0.length c0_0] 26 (0,0)) z5_12 hb);replace HB:=Za (Zj z5_9 hb);(try clear hb);(try clear hb2);(try clear hk);(try clear hi)))
  go_ret
  exact⟨by first|rfl|(simp[errW_none,errW_some]<;>rfl)|(simp[*,errW_none,errW_some]<;>rfl)|(simp[*,errW_none,errW_some,i64_w];done),by repeat(first|(with_reducible first|exact HB.out|apply Zh|apply Zf|apply Ze|refine Zd ?_ GE430.out)|exact HB.out)⟩
def impl_RecoveryWrites.l0:Nat→List Int→Int→Int→List (S82)→Int→Option ((List (S82)))
 |0,_,_,_,_,_=>none
 |k+1,x0,x3,x5,x6,x7=>if x7≥0 then (if 0≤(wrap64 (9+(wrap64 (2*x7)))) then (if (wrap64 (9+(wrap64 (2*x7))))<(x0.length:Int) then ((impl_isVar.f (rd x0 (wrap64 (9+(wrap64 (2*x7)))))).bind fun t442=>(if t442=true then (if 0≤(wrap64 ((wrap64 (9+(wrap64 (2*x7))))+1)) then (if (wrap64 ((wrap64 (9+(wrap64 (2*x7))))+1))<(x0.length:Int) then (if x6.length<8796093022208 then (impl_RecoveryWrites.l0 k x0 x3 x5 (x6++[(⟨rd x0 (wrap64 (9+(wrap64 (2*x7)))),rd x0 (wrap64 ((wrap64 (9+(wrap64 (2*x7))))+1))⟩:S82)]) (wrap64 (x7 - 1))) else (none)) else (none)) else (none)) else (some ([]:List (S82))))) else (none)) else (none)) else ((impl_PackControl.f x3 0 x5).bind fun t447=>(if x6.length<8796093022208 then (some (x6++[(⟨8,t447⟩:S82)])) else (none)))
def impl_RecoveryWrites.f (k:Nat) (l0:List Int):Option ((List (S82))):=if (l0.length:Int)=49 then (if 8<(l0.length:Int) then ((impl_UnpackControl.f (rd l0 8)).bind fun bt435=>(if bt435.2.1<1 then (some ([]:List (S82))) else (impl_RecoveryWrites.l0 k l0 bt435.1 bt435.2.2 (([]:List (S82))) (wrap64 (bt435.2.1 - 1))))) else (none)) else (some ([]:List (S82)))
set_option maxHeartbeats 8000000 in
set_option maxRecDepth 100000 in
theorem impl_RecoveryWrites.calls (k:Nat) (A0:Option Addr) (c0:Nat) (l0:List Int) (r:List (S82)) (w:World) (hr0:Kd.C (Kd.int .i64) w A0 l0.length l0) (hc0:l0.length≤c0) (h:impl_RecoveryWrites.f k l0=some r):
  Calls Tryz.prog 26 #[.slice A0 l0.length c0] w fun e w'=>∃v0_:Value,e= .returned (v0_)∧Kd.R k82 82 w' w.heap.size (fun _=>True) v0_ r∧Below w.heap.size w w':=by
 have hu82:=Tryz.underlying82
 have HR0:=Za hr0
 have HC0:=Za hc0
 clear hr0 hc0
 have HB:=Za (Zx w.heap.size w)
 have H:(if (l0.length:Int)=49 then (if 8<(l0.length:Int) then ((impl_UnpackControl.f (rd l0 8)).bind fun bt435=>(if bt435.2.1<1 then (some ([]:List (S82))) else (impl_RecoveryWrites.l0 k l0 bt435.1 bt435.2.2 (([]:List (S82))) (wrap64 (bt435.2.1 - 1))))) else (none)) else (some ([]:List (S82))))=some r:=h
 clear h
 by_cases c2:(l0.length:Int)=49
 ·rw[if_pos c2] at H
  have c2b0:((l0.length:Int)==49)=true:=beq_iff_eq.mpr c2
  have c2b1:((l0.length:Int) != 49)=false:=bne_eq_false_iff_eq.mpr c2
  clear c2
  by_cases c3:8<(l0.length:Int)
  ·rw[if_pos c3] at H
   have c3b0:decide (8<(l0.length:Int))=true:=Zq c3
   have c3b1:decide (8<l0.length)=true:=Zq (by omega)
   clear c3
   replace H:=Zg H
   obtain⟨⟨t435,t436,t437⟩,A40,H⟩:=H
   replace H:(if t436<1 then (some ([]:List (S82))) else (impl_RecoveryWrites.l0 k l0 t435 t437 (([]:List (S82))) (wrap64 (t436 - 1))))=some r:=H
   have A4:=Za A40
   clear A40
   by_cases c5:t436<1
   ·rw[if_pos c5] at H
    have c5b0:decide (t436<1)=true:=Zq c5
    clear c5
    obtain rfl:=Zk H
    have p434:0≤(8:Int):=(by omega)
    have q434:8<(l0.length:Int):=Zs z5_1
    obtain⟨ad434,e434,hx434_0⟩:=Kd.at_int HR0.out 8 p434 q434
    cases e434
    (try simp only[show(8:Int).toNat=8 from rfl,Nat.reduceMul,Nat.reduceEqDiff,Go.Addr.add,↓reduceIte] at hx434_0)
    have qi434:(8<l0.length)=True:=eq_true (by omega)
    (try rw[show((8:Int)).toNat=8 from rfl] at hx434_0)
    replace p434:=eq_true p434
    replace q434:=eq_true q434
    go_enter Tryz.func26,Tryz.ntmps26
    go_wp2_with (first|((first|((with_reducible refine gate_callee (f:=45) rfl ?_);refine goesL_ (some 16) rfl rfl Tryz.func45 (by kernel_rfl) rfl #[.int .i64 (rd l0 8)] rfl z5_2 ?_;(with_reducible refine(impl_UnpackControl.calls (rd l0 8) t435 t436 t437 _ A4.out).mono ?_))|(go_at_call 45;(with_reducible refine(impl_UnpackControl.calls (rd l0 8) t435 t436 t437 _ A4.out).mono ?_)));rintro e w' ⟨rfl,⟨nd,rfl⟩⟩;(first|refine⟨_,rfl,?_⟩|skip)))
    go_ret
    exact⟨_,by first|rfl|(simp[errW_none,errW_some]<;>rfl)|(simp[*,errW_none,errW_some]<;>rfl)|(simp[*,errW_none,errW_some,i64_w];done),by first|exact Kd.R_nil _ _ _ _ _|exact Kd.N_nil _ _ _ _ _|exact Kd.V_nil _ _ _ _ _|exact Kd.Q_nil _ _ _ _ _|exact Kd.S_nil _ _ _ _ _,by repeat(first|(with_reducible first|exact HB.out|apply Zh|apply Zf|apply Ze)|exact HB.out)⟩
   ·rw[if_neg c5] at H
    have c5b0:decide (t436<1)=false:=Yf c5
    clear c5
    obtain⟨y438,hy438⟩:∃y_:List (S82),y_=(([]:List (S82))):=⟨_,rfl⟩
    replace H:(impl_RecoveryWrites.l0 k l0 t435 t437 y438 (wrap64 (t436 - 1)))=some r:=by first|(rw[hy438];with_reducible exact H)|(have H2_:=(Yc _ _).symm.trans H;rw[hy438];with_reducible exact H2_)|(have H2_:=(Yc _ _).symm.trans H;with_reducible exact H2_)|with_reducible exact H|(rw[hy438];exact H)|exact H
    have Ny438:=Za hy438
    clear hy438
    have H':=Za H
    clear H
    have p434:0≤(8:Int):=(by omega)
    have q434:8<(l0.length:Int):=Zs z5_1
    obtain⟨ad434,e434,hx434_0⟩:=Kd.at_int HR0.out 8 p434 q434
    cases e434
    (try simp only[show(8:Int).toNat=8 from rfl,Nat.reduceMul,Nat.reduceEqDiff,Go.Addr.add,↓reduceIte] at hx434_0)
    have qi434:(8<l0.length)=True:=eq_true (by omega)
    (try rw[show((8:Int)).toNat=8 from rfl] at hx434_0)
    replace p434:=eq_true p434
    replace q434:=eq_true q434
    go_enter Tryz.func26,Tryz.ntmps26
    go_wp2_with (first|((first|((with_reducible refine gate_callee (f:=45) rfl ?_);refine goesL_ (some 16) rfl rfl Tryz.func45 (by kernel_rfl) rfl #[.int .i64 (rd l0 8)] rfl z5_2 ?_;(with_reducible refine(impl_UnpackControl.calls (rd l0 8) t435 t436 t437 _ A4.out).mono ?_))|(go_at_call 45;(with_reducible refine(impl_UnpackControl.calls (rd l0 8) t435 t436 t437 _ A4.out).mono ?_)));rintro e w' ⟨rfl,⟨nd,rfl⟩⟩;(first|refine⟨_,rfl,?_⟩|skip))|((with_reducible refine Zp (N:=22) rfl ?_);refine Kd.R_lit k82 _ 82 ?hg (N:=22) ?hd (xs:=([]:List (S82))) (inner:=[]) (ok:=fun _=>True) (okp:=fun _=>True) ?hr ?hp (fun _ hk=>hk) trivial (Zx _ _) (Nat.le_refl _) (by simp) ?_;(case hd=>rfl);(case hg=>rfl);(case hr=>exact z5_5);(case hp=>exact(Reps.none _ _));intro v439 w6 ho7 hb hg_ hnew_;clear hg_ hnew_;(first|rw[←Ny438.out] at ho7|(simp only[Int.reduceToNat] at ho7;rw[←Ny438.out] at ho7));have HO440:=Za (Yr ho7 (Yh z5_0));replace HB:=Za (Zj z5_0 hb);clear hb ho7))
    go_loopg [6,7] k (fun kq v6 v7 w'=>∃(x6_1:List (S82)) (x7_1:Int),v7= .int .i64 x7_1∧Aside0 (impl_RecoveryWrites.l0 kq l0 t435 t437 x6_1 x7_1=some r)∧Aside0 (kq≤k)∧Aside0 (Kd.R k82 82 w' w.heap.size (fun _=>True) v6 x6_1)∧Aside0 (Below w.heap.size w w'))
    case atStart=>exact⟨(y438),(wrap64 (t436 - 1)),z5_3,H',⟨Nat.le_refl _⟩,⟨by(with_reducible repeat(first|apply Zo|apply Zm|apply Zn));exact HO440.out⟩,⟨by repeat(first|(with_reducible first|exact HB.out|apply Zh|apply Zf|apply Ze)|exact HB.out)⟩⟩
    case round=>
     clear H'
     (try clear c2);(try clear c2b0);(try clear c2b1);(try clear c3);(try clear c3b0);(try clear c3b1);(try clear c5);(try clear c5b0);(try clear hx434_0);(try clear p434);(try clear q434)
     obtain⟨x6_1,x7_1,rfl,HA,HK1,HO_6,HB⟩:=hrel
     cases gk with
     |zero=>exact absurd HA.out (by simp[impl_RecoveryWrites.l0])
     |succ k1=>
      have H:=HA.out
      clear HA
      simp only[impl_RecoveryWrites.l0] at H
      by_cases c8:x7_1≥0
      ·rw[if_pos c8] at H
       have c8b0:decide (0≤x7_1)=true:=Zq c8
       clear c8
       obtain⟨ji9,hji9⟩:∃j_:Int,(wrap64 (9+(wrap64 (2*x7_1))))=j_:=⟨_,rfl⟩
       replace H:(if 0≤(ji9) then (if (ji9)<(l0.length:Int) then ((impl_isVar.f (rd l0 (ji9))).bind fun t442=>(if t442=true then (if 0≤(wrap64 ((ji9)+1)) then (if (wrap64 ((ji9)+1))<(l0.length:Int) then (if x6_1.length<8796093022208 then (impl_RecoveryWrites.l0 k1 l0 t435 t437 (x6_1++[(⟨rd l0 (ji9),rd l0 (wrap64 ((ji9)+1))⟩:S82)]) (wrap64 (x7_1 - 1))) else (none)) else (none)) else (none)) else (some ([]:List (S82))))) else (none)) else (none))=some r:=by first|(rw[hji9] at H;exact H)|(simp only[hji9] at H ⊢;exact H)
       have hji9w:(IntKind.i64.wrap (9+(wrap64 (2*x7_1))))=ji9:=(i64_w _).trans hji9
       by_cases c10:0≤(ji9)
       ·rw[if_pos c10] at H
        have c10b0:decide (0≤(ji9))=true:=Zq c10
        clear c10
        by_cases c11:(ji9)<(l0.length:Int)
        ·rw[if_pos c11] at H
         have c11b0:decide ((ji9)<(l0.length:Int))=true:=Zq c11
         clear c11
         replace H:=Zg H
         obtain⟨t442,A120,H⟩:=H
         replace H:(if t442=true then (if 0≤(wrap64 ((ji9)+1)) then (if (wrap64 ((ji9)+1))<(l0.length:Int) then (if x6_1.length<8796093022208 then (impl_RecoveryWrites.l0 k1 l0 t435 t437 (x6_1++[(⟨rd l0 (ji9),rd l0 (wrap64 ((ji9)+1))⟩:S82)]) (wrap64 (x7_1 - 1))) else (none)) else (none)) else (none)) else (some ([]:List (S82))))=some r:=H
         have A12:=Za A120
         clear A120
         by_cases c13:t442=true
         ·subst c13
          rw[if_pos rfl] at H
          obtain⟨ji14,hji14⟩:∃j_:Int,(wrap64 ((ji9)+1))=j_:=⟨_,rfl⟩
          replace H:(if 0≤(ji14) then (if (ji14)<(l0.length:Int) then (if x6_1.length<8796093022208 then (impl_RecoveryWrites.l0 k1 l0 t435 t437 (x6_1++[(⟨rd l0 (ji9),rd l0 (ji14)⟩:S82)]) (wrap64 (x7_1 - 1))) else (none)) else (none)) else (none))=some r:=by first|(rw[hji14] at H;exact H)|(simp only[hji14] at H ⊢;exact H)
          (try rw[hji14] at A12)
          have hji14w:(IntKind.i64.wrap ((ji9)+1))=ji14:=(i64_w _).trans hji14
          by_cases c15:0≤(ji14)
          ·rw[if_pos c15] at H
           have c15b0:decide (0≤(ji14))=true:=Zq c15
           clear c15
           by_cases c16:(ji14)<(l0.length:Int)
           ·rw[if_pos c16] at H
            have c16b0:decide ((ji14)<(l0.length:Int))=true:=Zq c16
            clear c16
            by_cases c17:x6_1.length<8796093022208
            ·rw[if_pos c17] at H
             have LMc17:=Za c17
             clear c17
             obtain⟨y444,hy444⟩:∃y_:List (S82),y_=(x6_1++[(⟨rd l0 (ji9),rd l0 (ji14)⟩:S82)]):=⟨_,rfl⟩
             replace H:(impl_RecoveryWrites.l0 k1 l0 t435 t437 y444 (wrap64 (x7_1 - 1)))=some r:=by first|(rw[hy444];with_reducible exact H)|(have H2_:=(Yc _ _).symm.trans H;rw[hy444];with_reducible exact H2_)|(have H2_:=(Yc _ _).symm.trans H;with_reducible exact H2_)|with_reducible exact H|(rw[hy444];exact H)|exact H
             have Ny444:=Za hy444
             clear hy444
             have H':=Za H
             clear H
             have p441:0≤((ji9):Int):=Zs z5_1
             have q441:(ji9)<(l0.length:Int):=Zs z5_1
             obtain⟨ad441,e441,hx441_0⟩:=Kd.at_int HR0.out (ji9) p441 q441
             obtain rfl:ad434=ad441:=(by injection e441)
             replace hx441_0:=(HB.out.cell (Yq w _ hx441_0)).trans hx441_0
             replace p441:=eq_true p441
             replace q441:=eq_true q441
             go_wp2_with (first|((first|((with_reducible refine gate_callee (f:=46) rfl ?_);refine goesL_ (some 36) rfl rfl Tryz.func46 (by kernel_rfl) rfl #[.int .i64 (rd l0 (ji9))] rfl (by(try simp only[Ys,List.map_cons,List.map_nil]);first|done|(simp only[hji9];rfl)|rfl|(simp only[List.length_drop,List.length_take];rfl)) ?_;(with_reducible refine(impl_isVar.calls (rd l0 (ji9)) true _ A12.out).mono ?_))|(go_at_call 46;(with_reducible refine(impl_isVar.calls (rd l0 (ji9)) true _ A12.out).mono ?_)));rintro e w' ⟨rfl,⟨nd,rfl⟩⟩;(first|refine⟨_,rfl,?_⟩|skip);have p443:0≤((ji14):Int):=Zs z5_1;have q443:(ji14)<(l0.length:Int):=Zs z5_1;obtain⟨ad443,e443,hx443_0⟩:=Kd.at_int HR0.out (ji14) p443 q443;obtain rfl:ad434=ad443:=(by injection e443);replace hx443_0:=(HB.out.cell (Yq w _ hx443_0)).trans hx443_0;replace p443:=eq_true p443;replace q443:=eq_true q443)|((with_reducible refine gate_builtin (b:= .append) (xs:= #[.tmp 38,.tmp 48]) rfl ?_);at_builtin;refine Kd.R_append k82 (w0:=w) w.heap.size rfl (.tmp 38) (.tmp 48) 54 82 (.agg #[(.int .i64 0),(.int .i64 0)]) 16 rfl Tryz.underlying54 info82 rfl (by decide) (by omega) u6 x6_1 (⟨rd l0 (ji9),rd l0 (ji14)⟩:S82) [.int .i64 (rd l0 (ji9)),.int .i64 (rd l0 (ji14))] (fun _=>True) (fun _=>False) rfl rfl ?aP (fun _ hk=>hk.elim) ?aF ?aO ?aB ?aS ?aL ?_;(case aP=>exact k82_mkM _ _ _ (⟨rd l0 (ji9),rd l0 (ji14)⟩:S82));(case aB=>exact z5_0);(case aF=>exact(fun _ _=>trivial));(case aO=>exact(by(with_reducible repeat(first|apply Zo|apply Zm|apply Zn));exact HO_6.out));(case aS=>exact(Yh z5_0));(case aL=>have:=LMc17.out;omega);intro v445 w18 ho hb hg hat;rw[←Ny444.out] at ho;have n0_:=Za (hb);have n1_:=Za (ho);clear HB;clear HO_6;have HB:=n0_;have HO446:=n1_;clear n0_ n1_;clear ho hb hg hat))
             go_roundg k1
             case measure=>have:=HK1.out;omega
             case rel=>exact⟨(y444),(wrap64 (x7_1 - 1)),z5_3,H',⟨by have:=HK1.out;omega⟩,⟨by(with_reducible repeat(first|apply Zo|apply Zm|apply Zn));exact HO446.out⟩,⟨by repeat(first|(with_reducible first|exact HB.out|apply Zh|apply Zf|apply Ze)|exact HB.out)⟩⟩
            ·rw[if_neg c17] at H
             exact absurd H (by simp)
           ·rw[if_neg c16] at H
            exact absurd H (by simp)
          ·rw[if_neg c15] at H
           exact absurd H (by simp)
         ·replace c13:=Bool.eq_false_iff.mpr c13
          subst c13
          rw[if_neg (show ¬(false=true) by decide)] at H
          obtain rfl:=Zk H
          have p441:0≤((ji9):Int):=Zs z5_1
          have q441:(ji9)<(l0.length:Int):=Zs z5_1
          obtain⟨ad441,e441,hx441_0⟩:=Kd.at_int HR0.out (ji9) p441 q441
          obtain rfl:ad434=ad441:=(by injection e441)
          replace hx441_0:=(HB.out.cell (Yq w _ hx441_0)).trans hx441_0
          replace p441:=eq_true p441
          replace q441:=eq_true q441
          go_wp2_with (first|((first|((with_reducible refine gate_callee (f:=46) rfl ?_);refine goesL_ (some 36) rfl rfl Tryz.func46 (by kernel_rfl) rfl #[.int .i64 (rd l0 (ji9))] rfl (by(try simp only[Ys,List.map_cons,List.map_nil]);first|done|(simp only[hji9];rfl)|rfl|(simp only[List.length_drop,List.length_take];rfl)) ?_;(with_reducible refine(impl_isVar.calls (rd l0 (ji9)) false _ A12.out).mono ?_))|(go_at_call 46;(with_reducible refine(impl_isVar.calls (rd l0 (ji9)) false _ A12.out).mono ?_)));rintro e w' ⟨rfl,⟨nd,rfl⟩⟩;(first|refine⟨_,rfl,?_⟩|skip)))
          go_ret
          exact⟨_,by first|rfl|(simp[errW_none,errW_some]<;>rfl)|(simp only[←hji9];first|rfl|(simp[errW_none,errW_some]<;>rfl))|(simp[*,errW_none,errW_some]<;>rfl)|(simp[*,errW_none,errW_some,i64_w];done),by first|exact Kd.R_nil _ _ _ _ _|exact Kd.N_nil _ _ _ _ _|exact Kd.V_nil _ _ _ _ _|exact Kd.Q_nil _ _ _ _ _|exact Kd.S_nil _ _ _ _ _,by repeat(first|(with_reducible first|exact HB.out|apply Zh|apply Zf|apply Ze)|exact HB.out)⟩
        ·rw[if_neg c11] at H
         exact absurd H (by simp)
       ·rw[if_neg c10] at H
        exact absurd H (by simp)
      ·rw[if_neg c8] at H
       have c8b0:decide (0≤x7_1)=false:=Yf c8
       clear c8
       replace H:=Zg H
       obtain⟨t447,A190,H⟩:=H
       replace H:(if x6_1.length<8796093022208 then (some (x6_1++[(⟨8,t447⟩:S82)])) else (none))=some r:=H
       have A19:=Za A190
       clear A190
       by_cases c20:x6_1.length<8796093022208
       ·rw[if_pos c20] at H
        have LMc20:=Za c20
        clear c20
        obtain⟨y448,hy448⟩:∃y_:List (S82),y_=(x6_1++[(⟨8,t447⟩:S82)]):=⟨_,rfl⟩
        replace H:(some y448)=some r:=by first|(rw[hy448];with_reducible exact H)|(have H2_:=(Yc _ _).symm.trans H;rw[hy448];with_reducible exact H2_)|(have H2_:=(Yc _ _).symm.trans H;with_reducible exact H2_)|with_reducible exact H|(rw[hy448];exact H)|exact H
        have Ny448:=Za hy448
        clear hy448
        obtain rfl:=Zk H
        go_wp2_with (first|((first|((with_reducible refine gate_callee (f:=47) rfl ?_);refine goesL_ (some 53) rfl rfl Tryz.func47 (by kernel_rfl) rfl #[.int .i64 t435,.int .i64 0,.int .i64 t437] rfl z5_2 ?_;(with_reducible refine(impl_PackControl.calls t435 0 t437 t447 _ A19.out).mono ?_))|(go_at_call 47;(with_reducible refine(impl_PackControl.calls t435 0 t437 t447 _ A19.out).mono ?_)));rintro e w' ⟨rfl,⟨nd,rfl⟩⟩;(first|refine⟨_,rfl,?_⟩|skip))|((with_reducible refine gate_builtin (b:= .append) (xs:= #[.tmp 50,.tmp 55]) rfl ?_);at_builtin;refine Kd.R_append k82 (w0:=w) w.heap.size rfl (.tmp 50) (.tmp 55) 54 82 (.agg #[(.int .i64 0),(.int .i64 0)]) 16 rfl Tryz.underlying54 info82 rfl (by decide) (by omega) u6 x6_1 (⟨8,t447⟩:S82) [.int .i64 8,.int .i64 t447] (fun _=>True) (fun _=>False) rfl rfl ?aP (fun _ hk=>hk.elim) ?aF ?aO ?aB ?aS ?aL ?_;(case aP=>exact k82_mkM _ _ _ (⟨8,t447⟩:S82));(case aB=>exact z5_0);(case aF=>exact(fun _ _=>trivial));(case aO=>exact(by(with_reducible repeat(first|apply Zo|apply Zm|apply Zn));exact HO_6.out));(case aS=>exact(Yh z5_0));(case aL=>have:=LMc20.out;omega);intro v449 w21 ho hb hg hat;rw[←Ny448.out] at ho;have n0_:=Za (hb);have n1_:=Za (ho);clear HB;clear HO_6;have HB:=n0_;have HO450:=n1_;clear n0_ n1_;clear ho hb hg hat))
        go_ret
        exact⟨_,by first|rfl|(simp[errW_none,errW_some]<;>rfl)|(simp[*,errW_none,errW_some]<;>rfl)|(simp[*,errW_none,errW_some,i64_w];done),by(with_reducible repeat(first|apply Zo|apply Zm|apply Zn));exact HO450.out,by repeat(first|(with_reducible first|exact HB.out|apply Zh|apply Zf|apply Ze)|exact HB.out)⟩
       ·rw[if_neg c20] at H
        exact absurd H (by simp)
  ·rw[if_neg c3] at H
   exact absurd H (by simp)
 ·rw[if_neg c2] at H
  have c2b0:((l0.length:Int)==49)=false:=beq_eq_false_iff_ne.mpr c2
  have c2b1:((l0.length:Int) != 49)=true:=bne_iff_ne.mpr c2
  obtain rfl:=Zk H
  go_enter Tryz.func26,Tryz.ntmps26
  go_wp2
  go_ret
  exact⟨_,by first|rfl|(simp[errW_none,errW_some]<;>rfl)|(simp[*,errW_none,errW_some]<;>rfl)|(simp[*,errW_none,errW_some,i64_w];done),by first|exact Kd.R_nil _ _ _ _ _|exact Kd.N_nil _ _ _ _ _|exact Kd.V_nil _ _ _ _ _|exact Kd.Q_nil _ _ _ _ _|exact Kd.S_nil _ _ _ _ _,by repeat(first|(with_reducible first|exact HB.out|apply Zh|apply Zf|apply Ze)|exact HB.out)⟩
def impl_TraceCost.l0:Nat→Int→List (S84)→Int→Int→Option (Int)
 |0,_,_,_,_=>none
 |k+1,x3,x7,x8,x9=>if x9<x8 then (if 0≤x9 then (if x9<(x7.length:Int) then (impl_TraceCost.l0 k (wrap64 (x3+((rd_T84 x7 x9).f0))) x7 x8 (wrap64 (x9+1))) else (none)) else (none)) else (some x3)
def impl_TraceCost.f (k:Nat) (l0_0:List (S84)) (l0_1:List Int):Option (Int):=impl_TraceCost.l0 k 0 l0_0 (l0_0.length:Int) 0
set_option maxHeartbeats 8000000 in
set_option maxRecDepth 100000 in
theorem impl_TraceCost.calls (k:Nat) (A0_0:Option Addr) (c0_0:Nat) (l0_0:List (S84)) (A0_1:Option Addr) (c0_1:Nat) (l0_1:List Int) (r:Int) (w:World) (hr0_0:Kd.C k84 w A0_0 l0_0.length l0_0) (hc0_0:l0_0.length≤c0_0) (hr0_1:Kd.C (Kd.int .i64) w A0_1 l0_1.length l0_1) (hc0_1:l0_1.length≤c0_1) (h:impl_TraceCost.f k l0_0 l0_1=some r):
  Calls Tryz.prog 27 #[.agg #[.slice A0_0 l0_0.length c0_0,.slice A0_1 l0_1.length c0_1]] w fun e w'=>e= .returned (.int .i64 r)∧Below w.heap.size w w':=by
 have hu59:=Tryz.underlying59
 have hu84:=Tryz.underlying84
 have HR0_0:=Za hr0_0
 have HC0_0:=Za hc0_0
 clear hr0_0 hc0_0
 have HR0_1:=Za hr0_1
 have HC0_1:=Za hc0_1
 clear hr0_1 hc0_1
 have HB:=Za (Zx w.heap.size w)
 have H:(impl_TraceCost.l0 k 0 l0_0 (l0_0.length:Int) 0)=some r:=h
 clear h
 have H':=Za H
 clear H
 go_enter Tryz.func27,Tryz.ntmps27
 go_wp2_with (first|((with_reducible refine Zp (N:=1) rfl ?_);refine Zr ?hg (N:=1) ?hd (cs:= #[.slice A0_0 l0_0.length c0_0,.slice A0_1 l0_1.length c0_1]) (t:=59) ?hr ?_;(case hd=>rfl);(case hg=>rfl);(case hr=>exact z5_5);intro gb451 hg w2 hbox hb;have BK451:=Za (hbox);have GW451:=Za ((z5_14:w.heap.size≤gb451));have GE451:=Za ((z5_14:w.heap.size≤gb451));replace HB:=Za (Zj z5_0 hb);clear hb hbox hg;have hcz3_0:w2.cell? ⟨gb451,0,none⟩=some (.slice A0_0 l0_0.length c0_0):=(Zb BK451.out 0).trans rfl;have hcz3_1:w2.cell? ⟨gb451,1,none⟩=some (.slice A0_1 l0_1.length c0_1):=(Zb BK451.out 1).trans rfl;have hfz3_0:=Zc BK451.out 0;have hfz3_1:=Zc BK451.out 1))
 go_loopg [3,9] k (fun kq v3 v9 w'=>∃(x3_1:Int) (x9_1:Int),v3= .int .i64 x3_1∧v9= .int .i64 x9_1∧Aside0 (impl_TraceCost.l0 kq x3_1 l0_0 (l0_0.length:Int) x9_1=some r)∧Aside0 (kq≤k)∧Aside0 (w'.heap[gb451]? =some (.cells #[(.slice A0_0 l0_0.length c0_0),(.slice A0_1 l0_1.length c0_1)] 59 (0,0)))∧Aside0 (Below w.heap.size w w'))
 case atStart=>exact⟨(0),(0),z5_3,z5_3,H',⟨Nat.le_refl _⟩,⟨by(with_reducible repeat(first|refine blk_drewN ?_ _|refine blk_drew ?_|refine blk_alloc ?_ _));exact BK451.out⟩,⟨by repeat(first|(with_reducible first|exact HB.out|apply Zh|apply Zf|apply Ze|refine Zd ?_ GE451.out)|exact HB.out)⟩⟩
 case round=>
  clear H'
  (try clear hcz3_0);(try clear hcz3_1);(try clear hfz3_0);(try clear hfz3_1)
  obtain⟨x3_1,x9_1,rfl,rfl,HA,HK1,BK451,HB⟩:=hrel
  cases gk with
  |zero=>exact absurd HA.out (by simp[impl_TraceCost.l0])
  |succ k1=>
   have H:=HA.out
   clear HA
   simp only[impl_TraceCost.l0] at H
   by_cases c4:x9_1<(l0_0.length:Int)
   ·rw[if_pos c4] at H
    have c4b0:decide (x9_1<(l0_0.length:Int))=true:=Zq c4
    clear c4
    by_cases c5:0≤x9_1
    ·rw[if_pos c5] at H
     have c5b0:decide (0≤x9_1)=true:=Zq c5
     clear c5
     by_cases c6:x9_1<(l0_0.length:Int)
     ·rw[if_pos c6] at H
      have c6b0:decide (x9_1<(l0_0.length:Int))=true:=Zq c6
      clear c6
      have H':=Za H
      clear H
      have p452:0≤(x9_1:Int):=Zs z5_1
      have q452:x9_1<(l0_0.length:Int):=Zs z5_1
      obtain⟨ad452,e452,hx452_0,hx452_1,hx452_2⟩:=at_T84 HR0_0.out x9_1 p452 q452
      cases e452
      replace hx452_0:=(HB.out.cell (Yq w _ hx452_0)).trans hx452_0
      replace hx452_1:=(HB.out.cell (Yq w _ hx452_1)).trans hx452_1
      replace hx452_2:=(HB.out.cell (Yq w _ hx452_2)).trans hx452_2
      replace p452:=eq_true p452
      replace q452:=eq_true q452
      go_wp2_with (first|((with_reducible refine Zp (N:=5) rfl ?_);refine Zr ?hg (N:=5) ?hd (cs:= #[.int .i64 0,.int .i64 0,.int .i64 0]) (t:=84) ?hr ?_;(case hd=>rfl);(case hg=>rfl);(case hr=>exact z5_5);intro gb453 hg w7 hbox hb;have BK453:=Za (hbox);have GW453:=Za ((by rw[hg];exact(Yh z5_8):w.heap.size≤gb453));have GE453:=Za ((by rw[hg];exact(Yh z5_8):w.heap.size≤gb453));replace HB:=Za (Zj z5_8 hb);have NB451_453:=Za ((by rw[hg];exact Nat.ne_of_lt (blk_lt (g:=gb451) (o:= .cells #[.slice (some ad452) l0_0.length c0_0,.slice A0_1 l0_1.length c0_1] 59 (0,0)) z5_11):gb451≠gb453));have NB453_451:=Za ((by rw[hg];exact Nat.ne_of_gt (blk_lt (g:=gb451) (o:= .cells #[.slice (some ad452) l0_0.length c0_0,.slice A0_1 l0_1.length c0_1] 59 (0,0)) z5_11):gb453≠gb451));replace BK451:=Za (Zi (g:=gb451) (o:= .cells #[.slice (some ad452) l0_0.length c0_0,.slice A0_1 l0_1.length c0_1] 59 (0,0)) z5_11 hb);clear hb hbox hg;have hnb8:=NB453_451.out;have hnc8:=NB451_453.out;have hcz9_0:w7.cell? ⟨gb453,0,none⟩=some (.int .i64 0):=(Zb BK453.out 0).trans rfl;have hcz9_1:w7.cell? ⟨gb453,1,none⟩=some (.int .i64 0):=(Zb BK453.out 1).trans rfl;have hcz9_2:w7.cell? ⟨gb453,2,none⟩=some (.int .i64 0):=(Zb BK453.out 2).trans rfl;have hfz9_0:=Zc BK453.out 0;have hfz9_1:=Zc BK453.out 1;have hfz9_2:=Zc BK453.out 2))
      go_roundg k1
      case measure=>have:=HK1.out;omega
      case rel=>exact⟨(wrap64 (x3_1+((rd_T84 l0_0 x9_1).f0))),(wrap64 (x9_1+1)),z5_3,z5_3,H',⟨by have:=HK1.out;omega⟩,⟨by(with_reducible repeat(first|refine blk_drewN ?_ _|refine blk_drew ?_|refine blk_alloc ?_ _));refine blk_far ?_ NB451_453.out _;(with_reducible repeat(first|refine blk_drewN ?_ _|refine blk_drew ?_|refine blk_alloc ?_ _));refine blk_far ?_ NB451_453.out _;(with_reducible repeat(first|refine blk_drewN ?_ _|refine blk_drew ?_|refine blk_alloc ?_ _));refine blk_far ?_ NB451_453.out _;(with_reducible repeat(first|refine blk_drewN ?_ _|refine blk_drew ?_|refine blk_alloc ?_ _));exact BK451.out⟩,⟨by repeat(first|(with_reducible first|exact HB.out|apply Zh|apply Zf|apply Ze|refine Zd ?_ GE451.out|refine Zd ?_ GE453.out)|exact HB.out)⟩⟩
     ·rw[if_neg c6] at H
      exact absurd H (by simp)
    ·rw[if_neg c5] at H
     exact absurd H (by simp)
   ·rw[if_neg c4] at H
    have c4b0:decide (x9_1<(l0_0.length:Int))=false:=Yf c4
    clear c4
    obtain rfl:=Zk H
    go_wp2
    go_ret
    exact⟨by first|rfl|(simp[errW_none,errW_some]<;>rfl)|(simp[*,errW_none,errW_some]<;>rfl)|(simp[*,errW_none,errW_some,i64_w];done),by repeat(first|(with_reducible first|exact HB.out|apply Zh|apply Zf|apply Ze|refine Zd ?_ GE451.out)|exact HB.out)⟩
def slices_Clone_int_int.f (l0:List Int):Option (List Int):=if l0.length<17592186044416 then some l0 else none
set_option maxHeartbeats 8000000 in
set_option maxRecDepth 100000 in
theorem slices_Clone_int_int.calls (A0:Option Addr) (c0:Nat) (l0:List Int) (r:List Int) (w:World) (hr0:Kd.C (Kd.int .i64) w A0 l0.length l0) (hc0:l0.length≤c0) (h:slices_Clone_int_int.f l0=some r):
  Calls Tryz.prog 35 #[.slice A0 l0.length c0] w fun e w'=>∃v0_:Value,e= .returned (v0_)∧Kd.R (Kd.int .i64) 3 w' w.heap.size (fun _=>True) v0_ r∧Below w.heap.size w w':=by
 have HR0:=Za hr0
 have HC0:=Za hc0
 have HB:=Za (Zx w.heap.size w)
 unfold slices_Clone_int_int.f at h
 by_cases hl:l0.length<17592186044416
 ·rw[if_pos hl] at h
  obtain rfl:=Zk h
  clear h
  obtain⟨y0,hy0⟩:∃y_:List Int,y_=([]:List Int):=⟨_,rfl⟩
  obtain⟨y1,hy1⟩:∃y_:List Int,y_=y0++l0:=⟨_,rfl⟩
  have hl2:y0.length+l0.length<17592186044416:=by
   rw[hy0]
   simpa using hl
  have e1:y1=l0:=by rw[hy1,hy0,List.nil_append]
  have LM:=Za hl2
  have N0:=Za hy0
  have N1:=Za hy1
  have E1:=Za e1
  clear hl2 hy0 hy1 e1
  cases A0 with
  |none=>
   have l0e:l0=[]:=by
    cases l0 with
    |nil=>rfl
    |cons x t=>
     obtain⟨ad,e,_⟩:=hr0.2.2 (by simp)
     cases e
   subst l0e
   have he:∀w:World,(binOp .eql 27 (.slice none 0 c0) (.slice none 0 0)).run Tryz.prog w= .ok (.bool true) w:=fun _=>rfl
   go_enter Tryz.func35,Tryz.ntmps35
   go_wp2
   go_ret
   exact⟨_,rfl,Kd.R_nil _ _ _ _ _,HB.out⟩
  |some a0=>
   have he:∀w:World,(binOp .eql 27 (.slice (some a0) l0.length c0) (.slice none 0 0)).run Tryz.prog w= .ok (.bool false) w:=fun _=>rfl
   go_enter Tryz.func35,Tryz.ntmps35
   go_wp2_with (first|((with_reducible refine Zp (N:=5) rfl ?_);refine Kd.R_lit (Kd.int .i64) _ 3 ?hg (N:=5) ?hd (xs:=([]:List Int)) (inner:=[]) (ok:=fun _=>True) (okp:=fun _=>True) ?hr ?hp (fun _ hk=>hk) trivial (Zx _ _) (Nat.le_refl _) (by simp) ?_;(case hd=>rfl);(case hg=>rfl);(case hr=>exact z5_5);(case hp=>exact(Reps.none _ _));intro v196 w5 ho6 hb hg_ hnew_;clear hg_ hnew_;rw[←N0.out] at ho6;have HO197:=Za ho6;have n1_:=Za (Zj HB.out hb);clear HB;have HB:=n1_;clear n1_;clear hb ho6)|((with_reducible refine gate_builtin (b:= .append) (xs:= #[.tmp 5,.tmp 6]) rfl ?_);at_builtin;refine Kd.R_append_rows (Kd.int .i64) (w0:=w) w.heap.size rfl (.tmp 5) (.tmp 6) 27 3 (.int .i64 0) 8 rfl Tryz.underlying27 info3 rfl (by decide) (by omega) v196 y0 l0 _ _ _ (fun _=>True) (fun _=>False) rfl rfl ?aO ?aR (fun _ _ h=>h) (fun _ h=>h.elim) ?aF ?aB ?aS ?aL ?_;(case aR=>repeat(first|exact(Yl HR0.out HB.out)|(with_reducible refine Yi ?_ _)|(with_reducible refine Yg ?_ _)|(with_reducible refine Yj ?_)));(case aB=>exact z5_0);(case aF=>exact(fun _ _=>trivial));(case aO=>exact(by(with_reducible repeat(first|apply Zo|apply Zm|apply Zn));exact HO197.out));(case aS=>exact(Yh z5_0));(case aL=>have:=LM.out;omega);intro v199 w7 ho hb hg hat;rw[←N1.out] at ho;replace HB:=Za (hb);have HO200:=Za (ho);clear ho hb hg hat))
   go_ret
   exact⟨_,rfl,by rw[←E1.out];repeat(first|exact HO200.out|apply Zo|apply Zm|apply Zn),by repeat(first|(with_reducible first|exact HB.out|apply Zh|apply Zf|apply Ze)|exact HB.out)⟩
 ·rw[if_neg hl] at h
  exact absurd h (by simp)
def impl_MemVars.f (l0:List Int):Option (List Int):=if (l0.length:Int)=49 then (if 8≤(l0.length:Int) then ((slices_Clone_int_int.f (l0.take 8)).bind fun t455=>(some t455)) else (none)) else (some ([]:List Int))
set_option maxHeartbeats 8000000 in
set_option maxRecDepth 100000 in
theorem impl_MemVars.calls (A0:Option Addr) (c0:Nat) (l0:List Int) (r:List Int) (w:World) (hr0:Kd.C (Kd.int .i64) w A0 l0.length l0) (hc0:l0.length≤c0) (h:impl_MemVars.f l0=some r):
  Calls Tryz.prog 48 #[.slice A0 l0.length c0] w fun e w'=>∃v0_:Value,e= .returned (v0_)∧Kd.R (Kd.int .i64) 3 w' w.heap.size (fun _=>True) v0_ r∧Below w.heap.size w w':=by
 have HR0:=Za hr0
 have HC0:=Za hc0
 clear hr0 hc0
 have HB:=Za (Zx w.heap.size w)
 have H:(if (l0.length:Int)=49 then (if 8≤(l0.length:Int) then ((slices_Clone_int_int.f (l0.take 8)).bind fun t455=>(some t455)) else (none)) else (some ([]:List Int)))=some r:=h
 clear h
 by_cases c2:(l0.length:Int)=49
 ·rw[if_pos c2] at H
  have c2b0:((l0.length:Int)==49)=true:=beq_iff_eq.mpr c2
  have c2b1:((l0.length:Int) != 49)=false:=bne_eq_false_iff_eq.mpr c2
  clear c2
  by_cases c3:8≤(l0.length:Int)
  ·rw[if_pos c3] at H
   have c3b0:=eq_true c3
   have c3b1:decide (8≤(l0.length:Int))=true:=Zq c3
   clear c3
   replace H:=Zg H
   obtain⟨t455,A40,H⟩:=H
   replace H:(some t455)=some r:=H
   have A4:=Za A40
   clear A40
   obtain rfl:=Zk H
   obtain⟨i05,hi05,_,hsz5,_⟩:=info_parts info3
   obtain⟨hcut5,hA5,hC5⟩:=print_take_of (P:=Tryz.prog) (Value.int .i64) 0 27 3 .i64 Tryz.underlying27 hi05 hsz5 A0 c0 l0 8 (by omega) (Zs z5_1) HC0.out
   have HR454:=Za (Kd.C_of_reads (h1:=fun _=>rfl) (hA5 _ (Kd.reads_of_C HR0.out)))
   have HC454:=Za hC5
   clear hA5 hC5 hi05 hsz5
   go_enter Tryz.func48,Tryz.ntmps48
   go_wp2_with (first|((first|((with_reducible refine gate_callee (f:=35) rfl ?_);refine goesL_ (some 8) rfl rfl Tryz.func35 (by kernel_rfl) rfl #[.slice A0 (l0.take 8).length c0] rfl (by(try simp only[Ys,List.map_cons,List.map_nil]);first|done|(rw[show(l0.take 8).length=8 from (by rw[List.length_take];have h_:(8:Int)≤(l0.length:Int):=Zs z5_1;omega)]<;>rfl)|rfl|(simp only[List.length_drop,List.length_take];rfl)) ?_;(with_reducible refine(slices_Clone_int_int.calls _ _ (l0.take 8) t455 _ ?side1 ?side2 A4.out).mono ?_))|(go_at_call 35;(try simp only[←List.length_take,←List.length_drop]);(first|(with_reducible refine(slices_Clone_int_int.calls _ _ (l0.take 8) t455 _ ?side1 ?side2 A4.out).mono ?_)|(refine calls_len1 ?ln_ ((slices_Clone_int_int.calls _ _ (l0.take 8) t455 _ ?side1 ?side2 A4.out).mono ?_);(case ln_=>simp only[List.length_drop,List.length_take];first|omega)))));(case side1=>repeat(first|exact HR454.out|(with_reducible refine Yi ?_ _)|(with_reducible refine Yg ?_ _)|(with_reducible refine Yj ?_)));(case side2=>exact HC454.out);rintro e w6 ⟨v456,rfl,ho0,hb⟩;(first|refine⟨_,rfl,?_⟩|skip);have HO457:=Za (Yr ho0 (Yh z5_0));replace HB:=Za (Zj z5_0 hb);(try clear hb);(try clear hb2);(try clear hk);(try clear hi);(try clear ho0)))
   go_ret
   exact⟨_,by first|rfl|(simp[errW_none,errW_some]<;>rfl)|(simp[*,errW_none,errW_some]<;>rfl)|(simp[*,errW_none,errW_some,i64_w];done),by(with_reducible repeat(first|apply Zo|apply Zm|apply Zn));exact HO457.out,by repeat(first|(with_reducible first|exact HB.out|apply Zh|apply Zf|apply Ze)|exact HB.out)⟩
  ·rw[if_neg c3] at H
   exact absurd H (by simp)
 ·rw[if_neg c2] at H
  have c2b0:((l0.length:Int)==49)=false:=beq_eq_false_iff_ne.mpr c2
  have c2b1:((l0.length:Int) != 49)=true:=bne_iff_ne.mpr c2
  obtain rfl:=Zk H
  go_enter Tryz.func48,Tryz.ntmps48
  go_wp2
  go_ret
  exact⟨_,by first|rfl|(simp[errW_none,errW_some]<;>rfl)|(simp[*,errW_none,errW_some]<;>rfl)|(simp[*,errW_none,errW_some,i64_w];done),by first|exact Kd.R_nil _ _ _ _ _|exact Kd.N_nil _ _ _ _ _|exact Kd.V_nil _ _ _ _ _|exact Kd.Q_nil _ _ _ _ _|exact Kd.S_nil _ _ _ _ _,by repeat(first|(with_reducible first|exact HB.out|apply Zh|apply Zf|apply Ze)|exact HB.out)⟩
/-! ### impl_endOf: function 79 -/
mutual
def impl_endOf.l0:Nat→List (S92)→Int→Int→Option (Int)
 |0,_,_,_=>none
 |k+1,x0,x5,x6=>if x6<(x0.length:Int) then (if 0≤x6 then ((impl_isOpening.f ((rd_T92 x0 x6).f0)).bind fun t459=>(if t459=true then (impl_endOf.j1 k x0 (wrap64 (x5+1)) x6) else (impl_endOf.j1 k x0 x5 x6))) else (none)) else (some (-1))
def impl_endOf.j1:Nat→List (S92)→Int→Int→Option (Int)
 |0,_,_,_=>none
 |k+1,x0,x5,x6=>if 0≤x6 then (if x6<(x0.length:Int) then (if ((rd_T92 x0 x6).f0)=6 then (if (wrap64 (x5 - 1))=0 then (some x6) else (impl_endOf.l0 k x0 (wrap64 (x5 - 1)) (wrap64 (x6+1)))) else (if x5=0 then (some x6) else (impl_endOf.l0 k x0 x5 (wrap64 (x6+1))))) else (none)) else (none)
end
def impl_endOf.f (k:Nat) (l0:List (S92)) (a1:Int):Option (Int):=impl_endOf.l0 k l0 0 a1
theorem impl_endOf.mono_l:∀k,(∀y0 y1 y2,LeO (impl_endOf.l0 k y0 y1 y2) (impl_endOf.l0 (k+1) y0 y1 y2))∧(∀y0 y1 y2,LeO (impl_endOf.j1 k y0 y1 y2) (impl_endOf.j1 (k+1) y0 y1 y2))
 |0=>⟨fun _ _ _ r h=>by simp[impl_endOf.l0] at h,fun _ _ _ r h=>by simp[impl_endOf.j1] at h⟩
 |k+1=>by
  obtain⟨ih0,ih1⟩:=impl_endOf.mono_l k
  refine⟨?_,?_⟩
  ·intro y0 y1 y2
   unfold impl_endOf.l0
   repeat' first
   |(with_reducible exact ih0 _ _ _)
   |(with_reducible exact ih1 _ _ _)
   |(with_reducible exact Yn _)
   |(with_reducible exact Zz _)
   |(with_reducible refine Zu ?_ ?_)
   |(with_reducible refine Zt ?_ (fun _=> ?_))
   |exact ih0 _ _ _
   |exact ih1 _ _ _
   |exact Zz _
   |refine Zu ?_ ?_
   |refine Zt ?_ (fun _=> ?_)
  ·intro y0 y1 y2
   unfold impl_endOf.j1
   repeat' first
   |(with_reducible exact ih0 _ _ _)
   |(with_reducible exact ih1 _ _ _)
   |(with_reducible exact Yn _)
   |(with_reducible exact Zz _)
   |(with_reducible refine Zu ?_ ?_)
   |(with_reducible refine Zt ?_ (fun _=> ?_))
   |exact ih0 _ _ _
   |exact ih1 _ _ _
   |exact Zz _
   |refine Zu ?_ ?_
   |refine Zt ?_ (fun _=> ?_)
theorem impl_endOf.mono:∀a0 a1 k,LeO (impl_endOf.f k a0 a1) (impl_endOf.f (k+1) a0 a1):=by
 intro a0 a1 k
 obtain⟨ih0,ih1⟩:=impl_endOf.mono_l k
 unfold impl_endOf.f
 repeat' first
   |(with_reducible exact ih0 _ _ _)
   |(with_reducible exact ih1 _ _ _)
   |(with_reducible exact Yn _)
   |(with_reducible exact Zz _)
   |(with_reducible refine Zu ?_ ?_)
   |(with_reducible refine Zt ?_ (fun _=> ?_))
   |exact ih0 _ _ _
   |exact ih1 _ _ _
   |exact Zz _
   |refine Zu ?_ ?_
   |refine Zt ?_ (fun _=> ?_)
set_option maxHeartbeats 8000000 in
set_option maxRecDepth 100000 in
theorem impl_endOf.calls (k:Nat) (A0:Option Addr) (c0:Nat) (l0:List (S92)) (a1:Int) (r:Int) (w:World) (hr0:Kd.C k92 w A0 l0.length l0) (hc0:l0.length≤c0) (h:impl_endOf.f k l0 a1=some r):
  Calls Tryz.prog 79 #[.slice A0 l0.length c0,.int .i64 a1] w fun e w'=>e= .returned (.int .i64 r)∧Drawn0 w w':=by
 have HR0:=Za hr0
 have HC0:=Za hc0
 clear hr0 hc0
 have H:(impl_endOf.l0 k l0 0 a1)=some r:=h
 clear h
 have H':=Za H
 clear H
 go_enter Tryz.func79,Tryz.ntmps79
 go_wp2
 go_loopg [5,6] k (fun kq v5 v6 w'=>∃(x5_1:Int) (x6_1:Int),v5= .int .i64 x5_1∧v6= .int .i64 x6_1∧Aside0 (impl_endOf.l0 kq l0 x5_1 x6_1=some r)∧Aside0 (kq≤k)∧Drawn0 w w')
 case atStart=>exact⟨(0),(a1),z5_3,z5_3,H',⟨Nat.le_refl _⟩,by repeat(first|exact Zv _|apply Zw)⟩
 case round=>
  clear H'
  obtain⟨x5_1,x6_1,rfl,rfl,HA,HK1,⟨m1,rfl⟩⟩:=hrel
  cases gk with
  |zero=>exact absurd HA.out (by simp[impl_endOf.l0])
  |succ k1=>
   have H:=HA.out
   clear HA
   simp only[impl_endOf.l0] at H
   by_cases c3:x6_1<(l0.length:Int)
   ·rw[if_pos c3] at H
    have c3b0:decide (x6_1<(l0.length:Int))=true:=Zq c3
    clear c3
    by_cases c4:0≤x6_1
    ·rw[if_pos c4] at H
     have c4b0:decide (0≤x6_1)=true:=Zq c4
     clear c4
     replace H:=Zg H
     obtain⟨t459,A50,H⟩:=H
     replace H:(if t459=true then (impl_endOf.j1 k1 l0 (wrap64 (x5_1+1)) x6_1) else (impl_endOf.j1 k1 l0 x5_1 x6_1))=some r:=H
     have A5:=Za A50
     clear A50
     have HC6:=Za H
     clear H
     have p458:0≤(x6_1:Int):=Zs z5_1
     have q458:x6_1<(l0.length:Int):=Zs z5_1
     obtain⟨ad458,e458,hx458_0,hx458_1,hx458_2,hx458_3,hx458_4,hx458_5⟩:=at_T92 HR0.out x6_1 p458 q458
     cases e458
     replace p458:=eq_true p458
     replace q458:=eq_true q458
     go_upto_if 19 with(first|((first|((with_reducible refine gate_callee (f:=78) rfl ?_);refine goesL_ (some 19) rfl rfl Tryz.func78 (by kernel_rfl) rfl #[.int .i64 ((rd_T92 l0 x6_1).f0)] rfl z5_2 ?_;(with_reducible refine(impl_isOpening.calls ((rd_T92 l0 x6_1).f0) t459 _ A5.out).mono ?_))|(go_at_call 78;(with_reducible refine(impl_isOpening.calls ((rd_T92 l0 x6_1).f0) t459 _ A5.out).mono ?_)));rintro e w' ⟨rfl,⟨nd,rfl⟩⟩;(first|refine⟨_,rfl,?_⟩|skip)))
     (try simp only[Act.put,Zy,Ya,Yb])
     go_cut [5] (fun v5 wc=>∃(kq:Nat) (x5_5:Int),v5= .int .i64 x5_5∧Aside0 (impl_endOf.j1 kq l0 x5_5 x6_1=some r)∧Aside0 (kq≤k1)∧Drawn0 w wc)
     case first=>
      have H:=HC6.out
      clear HC6
      by_cases c7:t459=true
      ·subst c7
       rw[if_pos rfl] at H
       have H':=Za H
       clear H
       go_wp2
       go_meet
       case rel=>exact⟨_,(wrap64 (x5_1+1)),z5_3,H',⟨by have:=HK1.out;first|omega|exact Nat.le_refl _⟩,by repeat(first|exact Zv _|apply Zw)⟩
      ·replace c7:=Bool.eq_false_iff.mpr c7
       subst c7
       rw[if_neg (show ¬(false=true) by decide)] at H
       have H':=Za H
       clear H
       go_wp2
       go_meet
       case rel=>exact⟨_,(x5_1),z5_3,H',⟨by have:=HK1.out;first|omega|exact Nat.le_refl _⟩,by repeat(first|exact Zv _|apply Zw)⟩
     case rest=>
      clear HC6
      (try clear c3);(try clear c3b0);(try clear c4);(try clear c4b0);(try clear hx458_0);(try clear hx458_1);(try clear hx458_2);(try clear hx458_3);(try clear hx458_4);(try clear hx458_5);(try clear p458);(try clear q458)
      obtain⟨kq,x5_5,rfl,HA,HJ5,⟨mc5,rfl⟩⟩:=hcut
      cases kq with
      |zero=>exact absurd HA.out (by simp[impl_endOf.j1])
      |succ kj5=>
       have H:=HA.out
       clear HA
       simp only[impl_endOf.j1] at H
       by_cases c8:0≤x6_1
       ·rw[if_pos c8] at H
        have c8b0:decide (0≤x6_1)=true:=Zq c8
        clear c8
        by_cases c9:x6_1<(l0.length:Int)
        ·rw[if_pos c9] at H
         have c9b0:decide (x6_1<(l0.length:Int))=true:=Zq c9
         clear c9
         by_cases c10:((rd_T92 l0 x6_1).f0)=6
         ·rw[if_pos c10] at H
          have c10b0:(((rd_T92 l0 x6_1).f0)==6)=true:=beq_iff_eq.mpr c10
          have c10b1:(((rd_T92 l0 x6_1).f0) != 6)=false:=bne_eq_false_iff_eq.mpr c10
          clear c10
          by_cases c11:(wrap64 (x5_5 - 1))=0
          ·rw[if_pos c11] at H
           have c11b0:((wrap64 (x5_5 - 1))==0)=true:=beq_iff_eq.mpr c11
           have c11b1:((wrap64 (x5_5 - 1)) != 0)=false:=bne_eq_false_iff_eq.mpr c11
           clear c11
           obtain rfl:=Zk H
           have p460:0≤(x6_1:Int):=Zs z5_1
           have q460:x6_1<(l0.length:Int):=Zs z5_1
           obtain⟨ad460,e460,hx460_0,hx460_1,hx460_2,hx460_3,hx460_4,hx460_5⟩:=at_T92 HR0.out x6_1 p460 q460
           obtain rfl:ad458=ad460:=(by injection e460)
           replace p460:=eq_true p460
           replace q460:=eq_true q460
           go_wp2
           go_ret
           exact⟨by first|rfl|(simp;done)|(simp[*];done),by repeat(first|exact Zv _|apply Zw)⟩
          ·rw[if_neg c11] at H
           have c11b0:((wrap64 (x5_5 - 1))==0)=false:=beq_eq_false_iff_ne.mpr c11
           have c11b1:((wrap64 (x5_5 - 1)) != 0)=true:=bne_iff_ne.mpr c11
           have H':=Za H
           clear H
           have p460:0≤(x6_1:Int):=Zs z5_1
           have q460:x6_1<(l0.length:Int):=Zs z5_1
           obtain⟨ad460,e460,hx460_0,hx460_1,hx460_2,hx460_3,hx460_4,hx460_5⟩:=at_T92 HR0.out x6_1 p460 q460
           obtain rfl:ad458=ad460:=(by injection e460)
           replace p460:=eq_true p460
           replace q460:=eq_true q460
           go_wp2
           go_roundg kj5
           case measure=>have:=HK1.out;have:=HJ5.out;omega
           case rel=>exact⟨(wrap64 (x5_5 - 1)),(wrap64 (x6_1+1)),z5_3,z5_3,H',⟨by have:=HK1.out;have:=HJ5.out;omega⟩,by repeat(first|exact Zv _|apply Zw)⟩
         ·rw[if_neg c10] at H
          have c10b0:(((rd_T92 l0 x6_1).f0)==6)=false:=beq_eq_false_iff_ne.mpr c10
          have c10b1:(((rd_T92 l0 x6_1).f0) != 6)=true:=bne_iff_ne.mpr c10
          by_cases c12:x5_5=0
          ·rw[if_pos c12] at H
           have c12b0:(x5_5==0)=true:=beq_iff_eq.mpr c12
           have c12b1:(x5_5 != 0)=false:=bne_eq_false_iff_eq.mpr c12
           clear c12
           obtain rfl:=Zk H
           have p460:0≤(x6_1:Int):=Zs z5_1
           have q460:x6_1<(l0.length:Int):=Zs z5_1
           obtain⟨ad460,e460,hx460_0,hx460_1,hx460_2,hx460_3,hx460_4,hx460_5⟩:=at_T92 HR0.out x6_1 p460 q460
           obtain rfl:ad458=ad460:=(by injection e460)
           replace p460:=eq_true p460
           replace q460:=eq_true q460
           go_wp2
           go_ret
           exact⟨by first|rfl|(simp;done)|(simp[*];done),by repeat(first|exact Zv _|apply Zw)⟩
          ·rw[if_neg c12] at H
           have c12b0:(x5_5==0)=false:=beq_eq_false_iff_ne.mpr c12
           have c12b1:(x5_5 != 0)=true:=bne_iff_ne.mpr c12
           have H':=Za H
           clear H
           have p460:0≤(x6_1:Int):=Zs z5_1
           have q460:x6_1<(l0.length:Int):=Zs z5_1
           obtain⟨ad460,e460,hx460_0,hx460_1,hx460_2,hx460_3,hx460_4,hx460_5⟩:=at_T92 HR0.out x6_1 p460 q460
           obtain rfl:ad458=ad460:=(by injection e460)
           replace p460:=eq_true p460
           replace q460:=eq_true q460
           go_wp2
           go_roundg kj5
           case measure=>have:=HK1.out;have:=HJ5.out;omega
           case rel=>exact⟨(x5_5),(wrap64 (x6_1+1)),z5_3,z5_3,H',⟨by have:=HK1.out;have:=HJ5.out;omega⟩,by repeat(first|exact Zv _|apply Zw)⟩
        ·rw[if_neg c9] at H
         exact absurd H (by simp)
       ·rw[if_neg c8] at H
        exact absurd H (by simp)
    ·rw[if_neg c4] at H
     exact absurd H (by simp)
   ·rw[if_neg c3] at H
    have c3b0:decide (x6_1<(l0.length:Int))=false:=Yf c3
    clear c3
    obtain rfl:=Zk H
    go_wp2
    go_ret
    exact⟨by first|rfl|(simp;done)|(simp[*];done),by repeat(first|exact Zv _|apply Zw)⟩
-- NOT PRINTED: function 110 (slices_Sort_int_int)
-- NOT PRINTED: function 111 (slices_Compact_int_int)
def readsL:List Int→List Int
 |[]=>[]
 |n::r=>if n<0 then wrap64 (-1 - n)::readsL r else readsL r
theorem drop_int {l:List Int} {i:Int} (h0:0≤i) (h:i<(l.length:Int)):l.drop i.toNat=rd l i::l.drop (i+1).toNat:=by
 have h1:i.toNat<l.length:=by omega
 have h2:(i+1).toNat=i.toNat+1:=by omega
 unfold rd
 rw[h2,List.drop_eq_getElem_cons h1,List.getD_eq_getElem?_getD,List.getElem?_eq_getElem h1]
 rfl
def impl_ReadsOf.f (a0 a1 a2:Int):Option (List Int):=(impl_ExprOk.f a0 a1 a2).bind fun b=>if b=true then some (setOf (readsL [a1,a2])) else some []
set_option maxHeartbeats 8000000 in
set_option maxRecDepth 100000 in
theorem impl_ReadsOf.calls (a0 a1 a2:Int) (r:List Int) (w:World) (h:impl_ReadsOf.f a0 a1 a2=some r):
  Calls Tryz.prog 109 #[.agg #[.int .i64 a0,.int .i64 a1,.int .i64 a2]] w fun e w'=>∃v0_:Value,e= .returned (v0_)∧Kd.R (Kd.int .i64) 3 w' w.heap.size (fun _=>True) v0_ r∧Below w.heap.size w w':=by
 unfold impl_ReadsOf.f at h
 obtain⟨b,hb,h⟩:=Zg h
 have TB:=Za hb
 clear hb
 cases b with
 |false=>
  rw[if_neg (by decide)] at h
  cases h
  go_enter Tryz.func109,Tryz.ntmps109
  go_wp2_with (first|((with_reducible refine Zp (N:=1) rfl ?_);refine Zr ?hg (N:=1) ?hd (cs:= #[.int .i64 a0,.int .i64 a1,.int .i64 a2]) (t:=72) ?hr ?_;(case hd=>rfl);(case hg=>rfl);(case hr=>exact z5_5);intro g1 hg1 w1 hp hb;have B1:=Za hp;have HB1:=Za hb;clear hg1 hp hb;obtain⟨⟨_,_,_⟩,⟨_,_,_⟩⟩:=Sep.blk3 B1.out)|(go_at_call 82;(with_reducible refine(impl_ExprOk.calls a0 a1 a2 false _ TB.out).mono ?_);rintro e w2 ⟨rfl,hb2⟩;have B2:=Za (Zi B1.out hb2);have HB2:=Za (Zj HB1.out hb2);clear hb2;obtain⟨⟨_,_,_⟩,⟨_,_,_⟩⟩:=Sep.blk3 B2.out)|fail)
  go_ret
  exact⟨_,rfl,Kd.R_nil _ _ _ _ _,HB2.out⟩
 |true=>
  rw[if_pos rfl] at h
  cases h
  go_enter Tryz.func109,Tryz.ntmps109
  go_wp2_with (first|((with_reducible refine Zp (N:=1) rfl ?_);refine Zr ?hg (N:=1) ?hd (cs:= #[.int .i64 a0,.int .i64 a1,.int .i64 a2]) (t:=72) ?hr ?_;(case hd=>rfl);(case hg=>rfl);(case hr=>exact z5_5);intro g1 hg1 w1 hp hb;have B1:=Za hp;have HB1:=Za hb;clear hg1 hp hb;obtain⟨⟨_,_,_⟩,⟨_,_,_⟩⟩:=Sep.blk3 B1.out)|(go_at_call 82;(with_reducible refine(impl_ExprOk.calls a0 a1 a2 true _ TB.out).mono ?_);rintro e w2 ⟨rfl,hb2⟩;have B2:=Za (Zi B1.out hb2);have HB2:=Za (Zj HB1.out hb2);clear hb2;obtain⟨⟨_,_,_⟩,⟨_,_,_⟩⟩:=Sep.blk3 B2.out)|((with_reducible refine Zp (N:=9) rfl ?_);refine Kd.R_lit (Kd.int .i64) _ 3 ?hg (N:=9) ?hd (xs:=([]:List Int)) (inner:=[]) (ok:=fun _=>True) (okp:=fun _=>True) ?hr ?hp (fun _ hk=>hk) trivial (Zx _ _) (Nat.le_refl _) (by simp) ?_;(case hd=>rfl);(case hg=>rfl);(case hr=>exact z5_5);(case hp=>exact(Reps.none _ _));intro v9 w3 ho hb hg hat;have R3:=Za (Sep.rowI.of_R ho);have V3:Aside0 (∀k,v9.ownBlock=some k→w.heap.size≤k):=⟨fun k hk=>Nat.le_trans HB2.out.size (Yo ho k hk)⟩;have B3:=Za (Zi B2.out hb);have HB3:=Za (Zj HB2.out hb);clear ho hb hg hat;obtain⟨⟨_,_,_⟩,⟨_,_,_⟩⟩:=Sep.blk3 B3.out)|((with_reducible refine Zp (N:=14) rfl ?_);refine Kd.R_lit (Kd.int .i64) _ 3 ?hg (N:=14) ?hd (xs:=([a1,a2]:List Int)) (inner:=[.int .i64 a1,.int .i64 a2]) (ok:=fun _=>True) (okp:=fun _=>True) ?hr ?hp (fun _ hk=>hk) trivial (Zx _ _) (Nat.le_refl _) (by simp) ?_;(case hd=>rfl);(case hg=>rfl);(case hr=>exact z5_5);(case hp=>exact(Reps.one (show Kd.M (Kd.int .i64) _ _ _ a1 [.int .i64 a1] from rfl) (Reps.one (show Kd.M (Kd.int .i64) _ _ _ a2 [.int .i64 a2] from rfl) (Reps.none _ _))));intro v14 w4 ho hb hg hat;have R4:=Za (R3.out.below hb);have HB4:=Za (Zj HB3.out hb);have AP4:Aside0 (∀k,v9.ownBlock=some k→v14.ownBlock=some k→False):=⟨fun k h1 h2=>by have:=R3.out.lt k h1;have:=Yo ho k h2;omega⟩;have RZ4:=Za (Sep.rowI.of_R ho);obtain⟨AZ,cz,ez,-,-⟩:=RZ4.out.open_;subst ez;clear ho hb hg hat)|fail)
  go_loopw [3,16] (fun v3 v16 w'=>∃(x:Int) (xs:List Int),v16= .int .i64 x∧Aside0 (0≤x)∧Aside0 (x≤2)∧Aside0 (xs++readsL ([a1,a2].drop x.toNat)=readsL [a1,a2])∧Aside0 ((xs.length:Int)≤x)∧Aside0 (Sep.rowI 3 w' v3 xs)∧Aside0 (∀k,v3.ownBlock=some k→w.heap.size≤k)∧Aside0 (Sep.rowI 3 w' (.slice AZ [a1,a2].length cz) [a1,a2])∧Aside0 (∀k,v3.ownBlock=some k→(Value.slice AZ [a1,a2].length cz).ownBlock=some k→False)∧Aside0 (Below w.heap.size w w')) (fun _ v16 _=>2 - (intOf v16).toNat)
  case atStart=>exact⟨0,[],rfl,⟨by omega⟩,⟨by omega⟩,⟨rfl⟩,⟨by simp⟩,R4,V3,RZ4,AP4,HB4⟩
  case round=>
   clear R4 V3 RZ4 AP4 HB4 R3 B3 HB3 B2 HB2 B1 HB1
   obtain⟨x,xs,rfl,Hx0,Hx1,HX,LX,RO,VO,RZ,AP,HB⟩:=hrel
   obtain⟨A3,c3,e3,-,-⟩:=RO.out.open_
   subst e3
   by_cases hlt:x<2
   ·have c1:decide (x<2)=true:=Zq hlt
    have hl2:x<(([a1,a2]:List Int).length:Int):=by simpa using hlt
    obtain⟨gz,e,-,hcz,hfz,-⟩:=RZ.out.at_ x Hx0.out hl2
    subst e
    have hs:=drop_int (l:=[a1,a2]) Hx0.out hl2
    have HXT:=HX.out
    rw[hs,readsL] at HXT
    have p1:=eq_true Hx0.out
    have q1:(x<2)=True:=eq_true hlt
    have q2:=eq_true hl2
    have hsum:wrap64 (x+1)=x+1:=by have:=Hx0.out;unfold wrap64;omega
    have Hs:=Za hsum
    have Hlt:=Za hlt
    clear hsum hlt hl2 hs
    by_cases hn:rd [a1,a2] x<0
    ·have n1:decide (rd [a1,a2] x<0)=true:=Zq hn
     have n2:(rd [a1,a2] x<0)=True:=eq_true hn
     have HXV:=Za (show(xs++[wrap64 (-1 - rd [a1,a2] x)])++readsL ([a1,a2].drop (x+1).toNat)=readsL [a1,a2] by rw[if_pos hn] at HXT;rw[List.append_assoc];exact HXT)
     clear HXT hn
     go_wp2_with (first|((with_reducible refine gate_builtin (b:= .append) (xs:= #[.tmp 22,.tmp 25]) rfl ?_);at_builtin;refine Kd.R_append (Kd.int .i64) (w0:=w) w.heap.size rfl (.tmp 22) (.tmp 25) 27 3 (.int .i64 0) 8 rfl Tryz.underlying27 info3 rfl (by decide) (by omega) (.slice A3 xs.length c3) xs (wrap64 (-1 - rd [a1,a2] x)) [.int .i64 (wrap64 (-1 - rd [a1,a2] x))] (fun _=>True) (fun _=>False) rfl rfl ?aP (fun _ hk=>hk.elim) ?aF ?aO ?aB ?aS ?aL ?_;(case aP=>exact rfl);(case aB=>exact HB.out);(case aF=>exact(fun _ _=>trivial));(case aO=>exact(RO.out.to_R (fun k hk=>VO.out k hk) (fun _ _=>trivial)));(case aS=>exact HB.out.size);(case aL=>have:=LX.out;have:=Hlt.out;omega);intro v17 w5 ho hb hg hat;have V5:Aside0 (∀k,v17.ownBlock=some k→w.heap.size≤k):=⟨fun k hk=>Yo ho k hk⟩;have R5:=Za (Sep.rowI.of_R ho);have HB5:=Za hb;have RZ5:=Za (RZ.out.grown hg (fun k hk he=>AP.out k he hk));have AP5:Aside0 (∀k,v17.ownBlock=some k→(Value.slice (some ⟨gz,0,none⟩) [a1,a2].length cz).ownBlock=some k→False):=⟨fun k h1 h2=>hat.elim (fun e=>AP.out k (e ▸ h1) h2) (fun ⟨b,e,hb⟩=>by rw[h1] at e;cases e;have:=RZ.out.lt k h2;omega)⟩;clear ho hb hg hat)|fail)
     go_roundw
     case rel=>exact⟨x+1,xs++[wrap64 (-1 - rd [a1,a2] x)],by rw[Hs.out],⟨by have:=Hx0.out;omega⟩,⟨by have:=Hlt.out;omega⟩,HXV,⟨by have:=LX.out;rw[List.length_append,List.length_singleton];omega⟩,R5,V5,RZ5,AP5,HB5⟩
     case measure=>
      have:=Hlt.out
      have:=Hx0.out
      simp only[intOf,Hs.out]
      omega
    ·have n1:decide (rd [a1,a2] x<0)=false:=Yf hn
     have n2:(rd [a1,a2] x<0)=False:=eq_false hn
     have HXV:=Za (show xs++readsL ([a1,a2].drop (x+1).toNat)=readsL [a1,a2] by rw[if_neg hn] at HXT;exact HXT)
     clear HXT hn
     go_wp2
     go_roundw
     case rel=>exact⟨x+1,xs,by rw[Hs.out],⟨by have:=Hx0.out;omega⟩,⟨by have:=Hlt.out;omega⟩,HXV,⟨by have:=LX.out;omega⟩,RO,VO,RZ,AP,HB⟩
     case measure=>
      have:=Hlt.out
      have:=Hx0.out
      simp only[intOf,Hs.out]
      omega
   ·have c1:decide (x<2)=false:=Yf hlt
    have q1:(x<2)=False:=eq_false hlt
    have ex:=HX.out
    rw[List.drop_eq_nil_of_le (by have:=Hx0.out;simp;omega),readsL,List.append_nil] at ex
    have EX:=Za ex
    have LS:Aside0 (xs.length<4611686018427387904):=⟨by have:=LX.out;have:=Hx1.out;omega⟩
    clear ex hlt HX
    go_wp2_with (first|(go_at_call 110;(with_reducible refine(sort_calls (.slice A3 xs.length c3) xs _ RO.out LS.out).mono ?_);rintro e w5 ⟨rfl,hr5,hg5⟩;have R5:=Za hr5;have HB5:=Za (below_grown HB.out hg5 VO.out);clear hr5 hg5)|(go_at_call 111;(with_reducible refine(compact_calls (.slice A3 xs.length c3) _ _ R5.out).mono ?_);rintro e w6 ⟨v',rfl,hr6,he6,hg6⟩;have R6:=Za hr6;have E6:=Za he6;have HB6:=Za (below_grown HB5.out hg6 VO.out);clear hr6 he6 hg6)|fail)
    go_ret
    refine⟨_,rfl,?_,HB6.out⟩
    rw[←EX.out]
    exact R6.out.to_R (fun k hk=>VO.out k (E6.out ▸ hk)) (fun _ _=>trivial)
-- NOT PRINTED: function 99 (impl_reader_read)
-- NOT PRINTED: function 98 (impl_reader_pass)
end Go.Proofs.YtdkbkkpbdmlmbaaGreat.G
