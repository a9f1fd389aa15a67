/- Functions of the program as plain Lean functions, and that each call comes to its function's answer; written by a program of the session. No condition. -/
import Derived.Test.YtccjlmpeogifkaaGreatGx0
import Derived.Test.YtccjlmpeogifkaaGreatGx7
import Derived.Test.YtccjlmpeogifkaaGreatGx8
namespace Go.Proofs.YtccjlmpeogifkaaGreat.G
open Go.RowKit Go.Proofs.YtccjlmpeogifkaaGreatW.PrintWords Go.Proofs.YtccjlmpeogifkaaGreatW.PrintLast Go.Proofs.YtccjlmpeogifkaaGreatW.PrintMore
attribute [local go_sem] max2_int min2_int max_two min_two max_three min_three max_four min_four   -- for this text's walks alone
set_option linter.unusedVariables false
set_option linter.unusedSimpArgs false
theorem z9_0 {P:Prop} (h:P:=by first|(with_reducible assumption)|assumption):P:=h
theorem z9_1 {P:Prop} (h:P:=by(try simp only[Ys,Yt,List.map_nil]);first|done|rfl|(simp only[List.length_drop,List.length_take];rfl)):P:=h
theorem z9_2 {P:Prop} (h:P:=by repeat(first|(with_reducible first|exact HB.out|apply Zh|apply Ze|apply Zd)|exact HB.out)):P:=h
theorem z9_3 {P:Prop} (h:P:=by kernel_rfl):P:=h
theorem z9_4 {P:Prop} (h:P:=by first|rfl|(simp;done)|(simp[*];done)):P:=h
theorem z9_5 {P:Prop} (h:P:=by repeat(first|exact(Yj HR0_0.out HB.out)|(with_reducible refine Yh ?_ _)|(with_reducible refine Ye ?_ _)|(with_reducible refine Yi ?_))):P:=h
theorem z9_6 {P:Prop} (h:P:=by(with_reducible repeat(first|refine blk_drewN ?_ _|refine blk_drew ?_|refine blk_alloc ?_ _));exact BK402.out):P:=h
theorem z9_7 {P:Prop} (h:P:=by(try simp only[Ys,Yt,List.map_nil]);first|done|(simp only[hji31];rfl)|rfl|(simp only[List.length_drop,List.length_take];rfl)):P:=h
theorem z9_8 {P:Prop} (h:P:=by repeat(first|(with_reducible first|exact HB.out|apply Zh|apply Ze|apply Zd|refine Zg ?_ GE402.out)|exact HB.out)):P:=h
theorem z9_9 {P:Prop} (h:P:=by repeat(first|(with_reducible first|exact HB.out|apply Zh|apply Ze|apply Zd|refine Zg ?_ GE388.out)|exact HB.out)):P:=h
theorem z9_10 {P:Prop} (h:P:=by(with_reducible repeat(first|refine blk_drewN ?_ _|refine blk_drew ?_|refine blk_alloc ?_ _));exact BK388.out):P:=h
/-! ### impl_MemOk: function 27 -/
mutual
def impl_MemOk.j0:Nat→List Int→Bool→List (S55)→Option (Bool)
 |0,_,_,_=>none
 |k+1,x1,x22,x389000=>if x22=true then (some false) else (if 8<(x1.length:Int) then ((impl_UnpackControl.f (rd x1 8)).bind fun bt393=>(if bt393.1<0 then (impl_MemOk.j1 k x1 bt393.2.1 true) else (if bt393.1≥(x389000.length:Int) then (impl_MemOk.j1 k x1 bt393.2.1 true) else (if 25≤(wrap64 (25+bt393.2.2)) then (if (wrap64 (25+bt393.2.2))≤(x1.length:Int) then ((impl_areValues.f ((x1.take ((wrap64 (25+bt393.2.2)):Int).toNat).drop 25)).bind fun t397=>(impl_MemOk.j1 k x1 bt393.2.1 (!t397))) else (none)) else (none))))) else (none))
def impl_MemOk.j1:Nat→List Int→Int→Bool→Option (Bool)
 |0,_,_,_=>none
 |k+1,x1,x6,x47=>if x47=true then (some false) else (impl_MemOk.l0 k x1 x6 0)
def impl_MemOk.l0:Nat→List Int→Int→Int→Option (Bool)
 |0,_,_,_=>none
 |k+1,x1,x48,x49=>if x49<x48 then (if 0≤(wrap64 (9+(wrap64 (2*x49)))) then (if (wrap64 (9+(wrap64 (2*x49))))<(x1.length:Int) then ((impl_isVar.f (rd x1 (wrap64 (9+(wrap64 (2*x49)))))).bind fun t399=>(if t399=true then (if 0≤(wrap64 ((wrap64 (9+(wrap64 (2*x49))))+1)) then (if (wrap64 ((wrap64 (9+(wrap64 (2*x49))))+1))<(x1.length:Int) then ((impl_IsValue.f (rd x1 (wrap64 ((wrap64 (9+(wrap64 (2*x49))))+1)))).bind fun t401=>(if t401=true then (impl_MemOk.l0 k x1 x48 (wrap64 (x49+1))) else (some false))) else (none)) else (none)) else (some false))) else (none)) else (none)) else (some true)
end
def impl_MemOk.f (k:Nat) (l0_0:List (S55)) (l1:List Int):Option (Bool):=(impl_ProgramOk.f k l0_0).bind fun t389=>(if t389=true then (if (l1.length:Int)=49 then (if 8≤(l1.length:Int) then ((impl_areValues.f (l1.take 8)).bind fun t391=>(impl_MemOk.j0 k l1 (!t391) l0_0)) else (none)) else (impl_MemOk.j0 k l1 true l0_0)) else (impl_MemOk.j0 k l1 true l0_0))
set_option maxHeartbeats 8000000 in
set_option maxRecDepth 100000 in
theorem impl_MemOk.calls (k:Nat) (A0_0:Option Addr) (c0_0:Nat) (l0_0:List (S55)) (A1:Option Addr) (c1:Nat) (l1:List Int) (r:Bool) (w:World) (hr0_0:Kd.C k55 w A0_0 l0_0.length l0_0) (hc0_0:l0_0.length≤c0_0) (hr1:Kd.C (Kd.int .i64) w A1 l1.length l1) (hc1:l1.length≤c1) (h:impl_MemOk.f k l0_0 l1=some r):
  Calls Tryz.prog 27 #[.agg #[.slice A0_0 l0_0.length c0_0],.slice A1 l1.length c1] w fun e w'=>e= .returned (.bool r)∧Below w.heap.size w w':=by
 have hu30:=Tryz.underlying30
 have HR0_0:=Za hr0_0
 have HC0_0:=Za hc0_0
 clear hr0_0 hc0_0
 have HR1:=Za hr1
 have HC1:=Za hc1
 clear hr1 hc1
 have HB:=Za (Yc w.heap.size w)
 have H:((impl_ProgramOk.f k l0_0).bind fun t389=>(if t389=true then (if (l1.length:Int)=49 then (if 8≤(l1.length:Int) then ((impl_areValues.f (l1.take 8)).bind fun t391=>(impl_MemOk.j0 k l1 (!t391) l0_0)) else (none)) else (impl_MemOk.j0 k l1 true l0_0)) else (impl_MemOk.j0 k l1 true l0_0)))=some r:=h
 clear h
 have HC3:=Za H
 clear H
 go_enter Tryz.func27,Tryz.ntmps27
 go_upto_region 1 with(first|((with_reducible refine Zr (N:=2) rfl ?_);(try(refine gate_guard (by rfl) ?_;dsimp only));refine Zs ?hg (N:=2) ?hd (cs:= #[.slice A0_0 l0_0.length c0_0]) (t:=30) ?hr ?_;(case hd=>rfl);(case hg=>rfl);(case hr=>first|(go_simp;done)|(go_simp;rfl));intro gb388 hg w4 hbox hb;have BK388:=Za (hbox);have GW388:=Za ((by rw[hg];exact(Zt z9_2):w.heap.size≤gb388));have GE388:=Za ((by rw[hg];exact(Zt z9_2):w.heap.size≤gb388));replace HB:=Za (Zi z9_2 hb);clear hb hbox hg))
 (try simp only[Act.put,Zu,Zv,Zw])
 go_cut [22] (fun v22 wc=>∃(kq:Nat) (x22_2:Bool),v22= .bool x22_2∧Aside0 (impl_MemOk.j0 kq l1 x22_2 l0_0=some r)∧Aside0 (kq≤k)∧Aside0 (wc.heap[gb388]? =some (.cells #[(.slice A0_0 l0_0.length c0_0)] 30 (0,0)))∧Aside0 (Below w.heap.size w wc))
 case first=>
  have H:=HC3.out
  clear HC3
  replace H:=Zl H
  obtain⟨t389,A50,H⟩:=H
  replace H:(if t389=true then (if (l1.length:Int)=49 then (if 8≤(l1.length:Int) then ((impl_areValues.f (l1.take 8)).bind fun t391=>(impl_MemOk.j0 k l1 (!t391) l0_0)) else (none)) else (impl_MemOk.j0 k l1 true l0_0)) else (impl_MemOk.j0 k l1 true l0_0))=some r:=H
  have A5:=Za A50
  clear A50
  by_cases c6:t389=true
  ·subst c6
   rw[if_pos rfl] at H
   by_cases c7:(l1.length:Int)=49
   ·rw[if_pos c7] at H
    have c7b0:((l1.length:Int)==49)=true:=beq_iff_eq.mpr c7
    have c7b1:((l1.length:Int) != 49)=false:=bne_eq_false_iff_eq.mpr c7
    clear c7
    (first|rw[c7b0]|(simp only[i64_w,i32_w];rw[c7b0])|skip)
    by_cases c8:8≤(l1.length:Int)
    ·rw[if_pos c8] at H
     have c8b0:=eq_true c8
     have c8b1:decide (8≤(l1.length:Int))=true:=Zq c8
     clear c8
     replace H:=Zl H
     obtain⟨t391,A90,H⟩:=H
     replace H:(impl_MemOk.j0 k l1 (!t391) l0_0)=some r:=H
     have A9:=Za A90
     clear A90
     have H':=Za H
     clear H
     have hcz10_0:w4.cell? ⟨gb388,0,none⟩=some (.slice A0_0 l0_0.length c0_0):=(Zb BK388.out 0).trans rfl
     have hfz10_0:=Zc BK388.out 0
     go_wp2_with (first|((first|((with_reducible refine gate_callee (f:=57) rfl ?_);refine goesL_ (some 10) rfl rfl Tryz.func57 z9_3 rfl #[.agg #[.slice A0_0 l0_0.length c0_0]] rfl z9_1 ?_;(with_reducible refine(impl_ProgramOk.calls k _ _ l0_0 true _ ?side1 ?side2 A5.out).mono ?_))|(go_at_call 57;(with_reducible refine(impl_ProgramOk.calls k _ _ l0_0 true _ ?side1 ?side2 A5.out).mono ?_)));(case side1=>exact z9_5);(case side2=>exact HC0_0.out);rintro e w11 ⟨rfl,hb⟩;(first|refine⟨_,rfl,?_⟩|skip);replace BK388:=Za (Zk (g:=gb388) (o:= .cells #[.slice A0_0 l0_0.length c0_0] 30 (0,0)) z9_10 hb);replace HB:=Za (Zi z9_9 hb);(try clear hb);(try clear hb2);(try clear hk);(try clear hi);obtain⟨i012,hi012,_,hsz12,_⟩:=info_parts info3;obtain⟨hcut12,hA12,hC12⟩:=print_take_of (P:=Tryz.prog) (Value.int .i64) 0 25 3 .i64 Tryz.underlying25 hi012 hsz12 A1 c1 l1 8 (by omega) (Zj z9_0) HC1.out;have HR390:=Za (Kd.C_of_reads (h1:=fun _=>rfl) (hA12 _ (Kd.reads_of_C HR1.out)));have HC390:=Za hC12;clear hA12 hC12 hi012 hsz12)|(go_at_call 58;(try simp only[←List.length_take,←List.length_drop]);(first|(with_reducible refine(impl_areValues.calls _ _ (l1.take 8) t391 _ ?side1 ?side2 A9.out).mono ?_)|(refine calls_len1 ?ln_ ((impl_areValues.calls _ _ (l1.take 8) t391 _ ?side1 ?side2 A9.out).mono ?_);(case ln_=>simp only[List.length_drop,List.length_take];first|omega)));(case side1=>repeat(first|exact(Yj HR390.out HB.out)|(with_reducible refine Yh ?_ _)|(with_reducible refine Ye ?_ _)|(with_reducible refine Yi ?_)));(case side2=>exact HC390.out);rintro e w' ⟨rfl,⟨nd,rfl⟩⟩))
     go_meet
     case rel=>exact⟨_,(!t391),z9_4,H',⟨by first|omega|exact Nat.le_refl _⟩,⟨by(with_reducible repeat(first|refine blk_drewN ?_ _|refine blk_drew ?_|refine blk_alloc ?_ _));exact BK388.out⟩,⟨by repeat(first|(with_reducible first|exact HB.out|apply Zh|apply Ze|apply Zd|refine Zg ?_ GE388.out)|exact HB.out)⟩⟩
    ·rw[if_neg c8] at H
     exact absurd H (by simp)
   ·rw[if_neg c7] at H
    have c7b0:((l1.length:Int)==49)=false:=beq_eq_false_iff_ne.mpr c7
    have c7b1:((l1.length:Int) != 49)=true:=bne_iff_ne.mpr c7
    (first|rw[c7b0]|(simp only[i64_w,i32_w];rw[c7b0])|skip)
    have H':=Za H
    clear H
    have hcz13_0:w4.cell? ⟨gb388,0,none⟩=some (.slice A0_0 l0_0.length c0_0):=(Zb BK388.out 0).trans rfl
    have hfz13_0:=Zc BK388.out 0
    go_wp2_with (first|((first|((with_reducible refine gate_callee (f:=57) rfl ?_);refine goesL_ (some 10) rfl rfl Tryz.func57 z9_3 rfl #[.agg #[.slice A0_0 l0_0.length c0_0]] rfl z9_1 ?_;(with_reducible refine(impl_ProgramOk.calls k _ _ l0_0 true _ ?side1 ?side2 A5.out).mono ?_))|(go_at_call 57;(with_reducible refine(impl_ProgramOk.calls k _ _ l0_0 true _ ?side1 ?side2 A5.out).mono ?_)));(case side1=>exact z9_5);(case side2=>exact HC0_0.out);rintro e w14 ⟨rfl,hb⟩;(first|refine⟨_,rfl,?_⟩|skip);replace BK388:=Za (Zk (g:=gb388) (o:= .cells #[.slice A0_0 l0_0.length c0_0] 30 (0,0)) z9_10 hb);replace HB:=Za (Zi z9_9 hb);(try clear hb);(try clear hb2);(try clear hk);(try clear hi)))
    go_meet
    case rel=>exact⟨_,(true),z9_4,H',⟨by first|omega|exact Nat.le_refl _⟩,⟨by(with_reducible repeat(first|refine blk_drewN ?_ _|refine blk_drew ?_|refine blk_alloc ?_ _));exact BK388.out⟩,⟨by repeat(first|(with_reducible first|exact HB.out|apply Zh|apply Ze|apply Zd|refine Zg ?_ GE388.out)|exact HB.out)⟩⟩
  ·replace c6:=Bool.eq_false_iff.mpr c6
   subst c6
   rw[if_neg (show ¬(false=true) by decide)] at H
   have H':=Za H
   clear H
   have hcz15_0:w4.cell? ⟨gb388,0,none⟩=some (.slice A0_0 l0_0.length c0_0):=(Zb BK388.out 0).trans rfl
   have hfz15_0:=Zc BK388.out 0
   go_wp2_with (first|((first|((with_reducible refine gate_callee (f:=57) rfl ?_);refine goesL_ (some 10) rfl rfl Tryz.func57 z9_3 rfl #[.agg #[.slice A0_0 l0_0.length c0_0]] rfl z9_1 ?_;(with_reducible refine(impl_ProgramOk.calls k _ _ l0_0 false _ ?side1 ?side2 A5.out).mono ?_))|(go_at_call 57;(with_reducible refine(impl_ProgramOk.calls k _ _ l0_0 false _ ?side1 ?side2 A5.out).mono ?_)));(case side1=>exact z9_5);(case side2=>exact HC0_0.out);rintro e w16 ⟨rfl,hb⟩;(first|refine⟨_,rfl,?_⟩|skip);replace BK388:=Za (Zk (g:=gb388) (o:= .cells #[.slice A0_0 l0_0.length c0_0] 30 (0,0)) z9_10 hb);replace HB:=Za (Zi z9_9 hb);(try clear hb);(try clear hb2);(try clear hk);(try clear hi)))
   go_meet
   case rel=>exact⟨_,(true),z9_4,H',⟨by first|omega|exact Nat.le_refl _⟩,⟨by(with_reducible repeat(first|refine blk_drewN ?_ _|refine blk_drew ?_|refine blk_alloc ?_ _));exact BK388.out⟩,⟨by repeat(first|(with_reducible first|exact HB.out|apply Zh|apply Ze|apply Zd|refine Zg ?_ GE388.out)|exact HB.out)⟩⟩
 case rest=>
  clear HC3
  (try clear c1)
  obtain⟨kq,x22_2,rfl,HA,HJ2,BK388,HB⟩:=hcut
  cases kq with
  |zero=>exact absurd HA.out (by simp[impl_MemOk.j0])
  |succ kj2=>
   have H:=HA.out
   clear HA
   simp only[impl_MemOk.j0] at H
   by_cases c17:x22_2=true
   ·subst c17
    rw[if_pos rfl] at H
    obtain rfl:=Zm H
    go_wp2
    go_ret
    exact⟨by first|rfl|(simp[errW_none,errW_some]<;>rfl)|(simp[*,errW_none,errW_some]<;>rfl)|(simp[*,errW_none,errW_some,i64_w];done),by repeat(first|(with_reducible first|exact HB.out|apply Zh|apply Ze|apply Zd|refine Zg ?_ GE388.out)|exact HB.out)⟩
   ·replace c17:=Bool.eq_false_iff.mpr c17
    subst c17
    rw[if_neg (show ¬(false=true) by decide)] at H
    by_cases c18:8<(l1.length:Int)
    ·rw[if_pos c18] at H
     have c18b0:decide (8<(l1.length:Int))=true:=Zq c18
     have c18b1:decide (8<l1.length)=true:=Zq (by omega)
     clear c18
     replace H:=Zl H
     obtain⟨⟨t393,t394,t395⟩,A190,H⟩:=H
     replace H:(if t393<0 then (impl_MemOk.j1 kj2 l1 t394 true) else (if t393≥(l0_0.length:Int) then (impl_MemOk.j1 kj2 l1 t394 true) else (if 25≤(wrap64 (25+t395)) then (if (wrap64 (25+t395))≤(l1.length:Int) then ((impl_areValues.f ((l1.take ((wrap64 (25+t395)):Int).toNat).drop 25)).bind fun t397=>(impl_MemOk.j1 kj2 l1 t394 (!t397))) else (none)) else (none))))=some r:=H
     have A19:=Za A190
     clear A190
     have HC20:=Za H
     clear H
     have p392:0≤(8:Int):=(by omega)
     have q392:8<(l1.length:Int):=Zj z9_0
     obtain⟨ad392,e392,hx392_0⟩:=Kd.at_int HR1.out 8 p392 q392
     cases e392
     (try simp only[show(8:Int).toNat=8 from rfl,Nat.reduceMul,Nat.reduceEqDiff,Go.Addr.add,↓reduceIte] at hx392_0)
     have qi392:(8<l1.length)=True:=eq_true (by omega)
     (try rw[show((8:Int)).toNat=8 from rfl] at hx392_0)
     replace hx392_0:=(HB.out.cell (Zf w _ hx392_0)).trans hx392_0
     replace p392:=eq_true p392
     replace q392:=eq_true q392
     go_upto_region 4 with(first|((first|((with_reducible refine gate_callee (f:=41) rfl ?_);refine goesL_ (some 27) rfl rfl Tryz.func41 z9_3 rfl #[.int .i64 (rd l1 8)] rfl z9_1 ?_;(with_reducible refine(impl_UnpackControl.calls (rd l1 8) t393 t394 t395 _ A19.out).mono ?_))|(go_at_call 41;(with_reducible refine(impl_UnpackControl.calls (rd l1 8) t393 t394 t395 _ A19.out).mono ?_)));rintro e w' ⟨rfl,⟨nd,rfl⟩⟩;(first|refine⟨_,rfl,?_⟩|skip)))
     (try simp only[Act.put,Zu,Zv,Zw])
     go_cut [47] (fun v47 wc=>∃(kq:Nat) (x47_19:Bool),v47= .bool x47_19∧Aside0 (impl_MemOk.j1 kq l1 t394 x47_19=some r)∧Aside0 (kq≤kj2)∧Aside0 (wc.heap[gb388]? =some (.cells #[(.slice A0_0 l0_0.length c0_0)] 30 (0,0)))∧Aside0 (Below w.heap.size w wc))
     case first=>
      have H:=HC20.out
      clear HC20
      by_cases c21:t393<0
      ·rw[if_pos c21] at H
       have c21b0:decide (t393<0)=true:=Zq c21
       clear c21
       (first|rw[c21b0]|(simp only[i64_w,i32_w];rw[c21b0])|skip)
       have H':=Za H
       clear H
       go_wp2
       go_meet
       case rel=>exact⟨_,(true),z9_4,H',⟨by have:=HJ2.out;first|omega|exact Nat.le_refl _⟩,⟨by(with_reducible repeat(first|refine blk_drewN ?_ _|refine blk_drew ?_|refine blk_alloc ?_ _));exact BK388.out⟩,⟨by repeat(first|(with_reducible first|exact HB.out|apply Zh|apply Ze|apply Zd|refine Zg ?_ GE388.out)|exact HB.out)⟩⟩
      ·rw[if_neg c21] at H
       have c21b0:decide (t393<0)=false:=Yg c21
       clear c21
       (first|rw[c21b0]|(simp only[i64_w,i32_w];rw[c21b0])|skip)
       by_cases c22:t393≥(l0_0.length:Int)
       ·rw[if_pos c22] at H
        have c22b0:decide ((l0_0.length:Int)≤t393)=true:=Zq c22
        clear c22
        have H':=Za H
        clear H
        have hcz23_0:wc.cell? ⟨gb388,0,none⟩=some (.slice A0_0 l0_0.length c0_0):=(Zb BK388.out 0).trans rfl
        have hfz23_0:=Zc BK388.out 0
        go_wp2
        go_meet
        case rel=>exact⟨_,(true),z9_4,H',⟨by have:=HJ2.out;first|omega|exact Nat.le_refl _⟩,⟨by(with_reducible repeat(first|refine blk_drewN ?_ _|refine blk_drew ?_|refine blk_alloc ?_ _));exact BK388.out⟩,⟨by repeat(first|(with_reducible first|exact HB.out|apply Zh|apply Ze|apply Zd|refine Zg ?_ GE388.out)|exact HB.out)⟩⟩
       ·rw[if_neg c22] at H
        have c22b0:decide ((l0_0.length:Int)≤t393)=false:=Yg c22
        clear c22
        by_cases c24:25≤(wrap64 (25+t395))
        ·rw[if_pos c24] at H
         have c24b0:=eq_true c24
         have c24b1:decide (25≤(wrap64 (25+t395)))=true:=Zq c24
         by_cases c25:(wrap64 (25+t395))≤(l1.length:Int)
         ·rw[if_pos c25] at H
          have c25b0:=eq_true c25
          have c25b1:decide ((wrap64 (25+t395))≤(l1.length:Int))=true:=Zq c25
          replace H:=Zl H
          obtain⟨t397,A260,H⟩:=H
          replace H:(impl_MemOk.j1 kj2 l1 t394 (!t397))=some r:=H
          have A26:=Za A260
          clear A260
          have H':=Za H
          clear H
          have hcz27_0:wc.cell? ⟨gb388,0,none⟩=some (.slice A0_0 l0_0.length c0_0):=(Zb BK388.out 0).trans rfl
          have hfz27_0:=Zc BK388.out 0
          obtain⟨i028,hi028,_,hsz28,_⟩:=info_parts info3
          obtain⟨A28,hcut28,hA28,hC28⟩:=print_mid_of (P:=Tryz.prog) (Value.int .i64) 0 25 3 .i64 .i64 Tryz.underlying25 hi028 hsz28 (some ad392) c1 l1 25 (wrap64 (25+t395)) (by omega) (by first|omega|exact Zj z9_0) (Zj z9_0) HC1.out
          have HR396:=Za (Kd.C_of_reads (h1:=fun _=>rfl) (hA28 _ (Kd.reads_of_C HR1.out)))
          have HC396:=Za hC28
          clear hA28 hC28 hi028 hsz28
          go_wp2_with (first|(go_at_call 58;(try simp only[←List.length_take,←List.length_drop]);(first|(with_reducible refine(impl_areValues.calls _ _ ((l1.take ((wrap64 (25+t395)):Int).toNat).drop 25) t397 _ ?side1 ?side2 A26.out).mono ?_)|(refine calls_len1 ?ln_ ((impl_areValues.calls _ _ ((l1.take ((wrap64 (25+t395)):Int).toNat).drop 25) t397 _ ?side1 ?side2 A26.out).mono ?_);(case ln_=>simp only[List.length_drop,List.length_take];first|omega|(have h_:(wrap64 (25+t395))≤(l1.length:Int):=Zj (by assumption);omega))));(case side1=>repeat(first|exact(Yj HR396.out HB.out)|(with_reducible refine Yh ?_ _)|(with_reducible refine Ye ?_ _)|(with_reducible refine Yi ?_)));(case side2=>exact HC396.out);rintro e w' ⟨rfl,⟨nd,rfl⟩⟩))
          go_meet
          case rel=>exact⟨_,(!t397),z9_4,H',⟨by have:=HJ2.out;first|omega|exact Nat.le_refl _⟩,⟨by(with_reducible repeat(first|refine blk_drewN ?_ _|refine blk_drew ?_|refine blk_alloc ?_ _));exact BK388.out⟩,⟨by repeat(first|(with_reducible first|exact HB.out|apply Zh|apply Ze|apply Zd|refine Zg ?_ GE388.out)|exact HB.out)⟩⟩
         ·rw[if_neg c25] at H
          exact absurd H (by simp)
        ·rw[if_neg c24] at H
         exact absurd H (by simp)
     case rest=>
      clear HC20
      (try clear c1);(try clear c17);(try clear c18);(try clear c18b0);(try clear c18b1);(try clear hx392_0);(try clear p392);(try clear q392)
      obtain⟨kq,x47_19,rfl,HA,HJ19,BK388,HB⟩:=hcut
      cases kq with
      |zero=>exact absurd HA.out (by simp[impl_MemOk.j1])
      |succ kj19=>
       have H:=HA.out
       clear HA
       simp only[impl_MemOk.j1] at H
       by_cases c29:x47_19=true
       ·subst c29
        rw[if_pos rfl] at H
        obtain rfl:=Zm H
        go_wp2
        go_ret
        exact⟨by first|rfl|(simp[errW_none,errW_some]<;>rfl)|(simp[*,errW_none,errW_some]<;>rfl)|(simp[*,errW_none,errW_some,i64_w];done),by repeat(first|(with_reducible first|exact HB.out|apply Zh|apply Ze|apply Zd|refine Zg ?_ GE388.out)|exact HB.out)⟩
       ·replace c29:=Bool.eq_false_iff.mpr c29
        subst c29
        rw[if_neg (show ¬(false=true) by decide)] at H
        have H':=Za H
        clear H
        go_wp2
        go_loopg [49] kj19 (fun kq v49 w'=>∃(x49_3:Int),v49= .int .i64 x49_3∧Aside0 (impl_MemOk.l0 kq l1 t394 x49_3=some r)∧Aside0 (kq≤kj19)∧Aside0 (w'.heap[gb388]? =some (.cells #[(.slice A0_0 l0_0.length c0_0)] 30 (0,0)))∧Aside0 (Below w.heap.size w w'))
        case atStart=>exact⟨(0),z9_4,H',⟨Nat.le_refl _⟩,⟨by(with_reducible repeat(first|refine blk_drewN ?_ _|refine blk_drew ?_|refine blk_alloc ?_ _));exact BK388.out⟩,⟨by repeat(first|(with_reducible first|exact HB.out|apply Zh|apply Ze|apply Zd|refine Zg ?_ GE388.out)|exact HB.out)⟩⟩
        case round=>
         clear H'
         (try clear c1);(try clear c17);(try clear c18);(try clear c18b0);(try clear c18b1);(try clear c29);(try clear hx392_0);(try clear p392);(try clear q392)
         obtain⟨x49_3,rfl,HA,HK3,BK388,HB⟩:=hrel
         cases gk with
         |zero=>exact absurd HA.out (by simp[impl_MemOk.l0])
         |succ k3=>
          have H:=HA.out
          clear HA
          simp only[impl_MemOk.l0] at H
          by_cases c30:x49_3<t394
          ·rw[if_pos c30] at H
           have c30b0:decide (x49_3<t394)=true:=Zq c30
           clear c30
           obtain⟨ji31,hji31⟩:∃j_:Int,(wrap64 (9+(wrap64 (2*x49_3))))=j_:=⟨_,rfl⟩
           replace H:(if 0≤(ji31) then (if (ji31)<(l1.length:Int) then ((impl_isVar.f (rd l1 (ji31))).bind fun t399=>(if t399=true then (if 0≤(wrap64 ((ji31)+1)) then (if (wrap64 ((ji31)+1))<(l1.length:Int) then ((impl_IsValue.f (rd l1 (wrap64 ((ji31)+1)))).bind fun t401=>(if t401=true then (impl_MemOk.l0 k3 l1 t394 (wrap64 (x49_3+1))) else (some false))) else (none)) else (none)) else (some false))) else (none)) else (none))=some r:=by first|(rw[hji31] at H;exact H)|(simp only[hji31] at H ⊢;exact H)
           have hji31w:(IntKind.i64.wrap (9+(wrap64 (2*x49_3))))=ji31:=(i64_w _).trans hji31
           by_cases c32:0≤(ji31)
           ·rw[if_pos c32] at H
            have c32b0:decide (0≤(ji31))=true:=Zq c32
            clear c32
            by_cases c33:(ji31)<(l1.length:Int)
            ·rw[if_pos c33] at H
             have c33b0:decide ((ji31)<(l1.length:Int))=true:=Zq c33
             clear c33
             replace H:=Zl H
             obtain⟨t399,A340,H⟩:=H
             replace H:(if t399=true then (if 0≤(wrap64 ((ji31)+1)) then (if (wrap64 ((ji31)+1))<(l1.length:Int) then ((impl_IsValue.f (rd l1 (wrap64 ((ji31)+1)))).bind fun t401=>(if t401=true then (impl_MemOk.l0 k3 l1 t394 (wrap64 (x49_3+1))) else (some false))) else (none)) else (none)) else (some false))=some r:=H
             have A34:=Za A340
             clear A340
             by_cases c35:t399=true
             ·subst c35
              rw[if_pos rfl] at H
              obtain⟨ji36,hji36⟩:∃j_:Int,(wrap64 ((ji31)+1))=j_:=⟨_,rfl⟩
              replace H:(if 0≤(ji36) then (if (ji36)<(l1.length:Int) then ((impl_IsValue.f (rd l1 (ji36))).bind fun t401=>(if t401=true then (impl_MemOk.l0 k3 l1 t394 (wrap64 (x49_3+1))) else (some false))) else (none)) else (none))=some r:=by first|(rw[hji36] at H;exact H)|(simp only[hji36] at H ⊢;exact H)
              (try rw[hji36] at A34)
              have hji36w:(IntKind.i64.wrap ((ji31)+1))=ji36:=(i64_w _).trans hji36
              by_cases c37:0≤(ji36)
              ·rw[if_pos c37] at H
               have c37b0:decide (0≤(ji36))=true:=Zq c37
               clear c37
               by_cases c38:(ji36)<(l1.length:Int)
               ·rw[if_pos c38] at H
                have c38b0:decide ((ji36)<(l1.length:Int))=true:=Zq c38
                clear c38
                replace H:=Zl H
                obtain⟨t401,A390,H⟩:=H
                replace H:(if t401=true then (impl_MemOk.l0 k3 l1 t394 (wrap64 (x49_3+1))) else (some false))=some r:=H
                have A39:=Za A390
                clear A390
                by_cases c40:t401=true
                ·subst c40
                 rw[if_pos rfl] at H
                 have H':=Za H
                 clear H
                 have p398:0≤((ji31):Int):=Zj z9_0
                 have q398:(ji31)<(l1.length:Int):=Zj z9_0
                 obtain⟨ad398,e398,hx398_0⟩:=Kd.at_int HR1.out (ji31) p398 q398
                 obtain rfl:ad392=ad398:=(by injection e398)
                 replace hx398_0:=(HB.out.cell (Zf w _ hx398_0)).trans hx398_0
                 replace p398:=eq_true p398
                 replace q398:=eq_true q398
                 go_wp2_with (first|((first|((with_reducible refine gate_callee (f:=59) rfl ?_);refine goesL_ (some 58) rfl rfl Tryz.func59 z9_3 rfl #[.int .i64 (rd l1 (ji31))] rfl z9_7 ?_;(with_reducible refine(impl_isVar.calls (rd l1 (ji31)) true _ A34.out).mono ?_))|(go_at_call 59;(with_reducible refine(impl_isVar.calls (rd l1 (ji31)) true _ A34.out).mono ?_)));rintro e w' ⟨rfl,⟨nd,rfl⟩⟩;(first|refine⟨_,rfl,?_⟩|skip);have p400:0≤((ji36):Int):=Zj z9_0;have q400:(ji36)<(l1.length:Int):=Zj z9_0;obtain⟨ad400,e400,hx400_0⟩:=Kd.at_int HR1.out (ji36) p400 q400;obtain rfl:ad392=ad400:=(by injection e400);replace hx400_0:=(HB.out.cell (Zf w _ hx400_0)).trans hx400_0;replace p400:=eq_true p400;replace q400:=eq_true q400)|(go_at_call 60;(with_reducible refine(impl_IsValue.calls (rd l1 (ji36)) true _ A39.out).mono ?_);rintro e w' ⟨rfl,⟨nd,rfl⟩⟩))
                 go_roundg k3
                 case measure=>have:=HJ2.out;have:=HJ19.out;have:=HK3.out;omega
                 case rel=>exact⟨(wrap64 (x49_3+1)),z9_4,H',⟨by have:=HJ2.out;have:=HJ19.out;have:=HK3.out;omega⟩,⟨by(with_reducible repeat(first|refine blk_drewN ?_ _|refine blk_drew ?_|refine blk_alloc ?_ _));exact BK388.out⟩,⟨by repeat(first|(with_reducible first|exact HB.out|apply Zh|apply Ze|apply Zd|refine Zg ?_ GE388.out)|exact HB.out)⟩⟩
                ·replace c40:=Bool.eq_false_iff.mpr c40
                 subst c40
                 rw[if_neg (show ¬(false=true) by decide)] at H
                 obtain rfl:=Zm H
                 have p398:0≤((ji31):Int):=Zj z9_0
                 have q398:(ji31)<(l1.length:Int):=Zj z9_0
                 obtain⟨ad398,e398,hx398_0⟩:=Kd.at_int HR1.out (ji31) p398 q398
                 obtain rfl:ad392=ad398:=(by injection e398)
                 replace hx398_0:=(HB.out.cell (Zf w _ hx398_0)).trans hx398_0
                 replace p398:=eq_true p398
                 replace q398:=eq_true q398
                 go_wp2_with (first|((first|((with_reducible refine gate_callee (f:=59) rfl ?_);refine goesL_ (some 58) rfl rfl Tryz.func59 z9_3 rfl #[.int .i64 (rd l1 (ji31))] rfl z9_7 ?_;(with_reducible refine(impl_isVar.calls (rd l1 (ji31)) true _ A34.out).mono ?_))|(go_at_call 59;(with_reducible refine(impl_isVar.calls (rd l1 (ji31)) true _ A34.out).mono ?_)));rintro e w' ⟨rfl,⟨nd,rfl⟩⟩;(first|refine⟨_,rfl,?_⟩|skip);have p400:0≤((ji36):Int):=Zj z9_0;have q400:(ji36)<(l1.length:Int):=Zj z9_0;obtain⟨ad400,e400,hx400_0⟩:=Kd.at_int HR1.out (ji36) p400 q400;obtain rfl:ad392=ad400:=(by injection e400);replace hx400_0:=(HB.out.cell (Zf w _ hx400_0)).trans hx400_0;replace p400:=eq_true p400;replace q400:=eq_true q400)|(go_at_call 60;(with_reducible refine(impl_IsValue.calls (rd l1 (ji36)) false _ A39.out).mono ?_);rintro e w' ⟨rfl,⟨nd,rfl⟩⟩))
                 go_ret
                 exact⟨by first|rfl|(simp[errW_none,errW_some]<;>rfl)|(simp only[←hji31,←hji36];first|rfl|(simp[errW_none,errW_some]<;>rfl))|(simp[*,errW_none,errW_some]<;>rfl)|(simp[*,errW_none,errW_some,i64_w];done),by repeat(first|(with_reducible first|exact HB.out|apply Zh|apply Ze|apply Zd|refine Zg ?_ GE388.out)|exact HB.out)⟩
               ·rw[if_neg c38] at H
                exact absurd H (by simp)
              ·rw[if_neg c37] at H
               exact absurd H (by simp)
             ·replace c35:=Bool.eq_false_iff.mpr c35
              subst c35
              rw[if_neg (show ¬(false=true) by decide)] at H
              obtain rfl:=Zm H
              have p398:0≤((ji31):Int):=Zj z9_0
              have q398:(ji31)<(l1.length:Int):=Zj z9_0
              obtain⟨ad398,e398,hx398_0⟩:=Kd.at_int HR1.out (ji31) p398 q398
              obtain rfl:ad392=ad398:=(by injection e398)
              replace hx398_0:=(HB.out.cell (Zf w _ hx398_0)).trans hx398_0
              replace p398:=eq_true p398
              replace q398:=eq_true q398
              go_wp2_with (first|((first|((with_reducible refine gate_callee (f:=59) rfl ?_);refine goesL_ (some 58) rfl rfl Tryz.func59 z9_3 rfl #[.int .i64 (rd l1 (ji31))] rfl z9_7 ?_;(with_reducible refine(impl_isVar.calls (rd l1 (ji31)) false _ A34.out).mono ?_))|(go_at_call 59;(with_reducible refine(impl_isVar.calls (rd l1 (ji31)) false _ A34.out).mono ?_)));rintro e w' ⟨rfl,⟨nd,rfl⟩⟩;(first|refine⟨_,rfl,?_⟩|skip)))
              go_ret
              exact⟨by first|rfl|(simp[errW_none,errW_some]<;>rfl)|(simp only[←hji31];first|rfl|(simp[errW_none,errW_some]<;>rfl))|(simp[*,errW_none,errW_some]<;>rfl)|(simp[*,errW_none,errW_some,i64_w];done),by repeat(first|(with_reducible first|exact HB.out|apply Zh|apply Ze|apply Zd|refine Zg ?_ GE388.out)|exact HB.out)⟩
            ·rw[if_neg c33] at H
             exact absurd H (by simp)
           ·rw[if_neg c32] at H
            exact absurd H (by simp)
          ·rw[if_neg c30] at H
           have c30b0:decide (x49_3<t394)=false:=Yg c30
           clear c30
           obtain rfl:=Zm H
           go_wp2
           go_ret
           exact⟨by first|rfl|(simp[errW_none,errW_some]<;>rfl)|(simp[*,errW_none,errW_some]<;>rfl)|(simp[*,errW_none,errW_some,i64_w];done),by repeat(first|(with_reducible first|exact HB.out|apply Zh|apply Ze|apply Zd|refine Zg ?_ GE388.out)|exact HB.out)⟩
    ·rw[if_neg c18] at H
     exact absurd H (by simp)
def impl_currentTask.f (l0_0:List (S55)) (l1:List Int):Option ((List (S77))×Int×Int×Int):=if 8<(l1.length:Int) then ((impl_UnpackControl.f (rd l1 8)).bind fun bt405=>(if 0≤bt405.1 then (if bt405.1<(l0_0.length:Int) then (some ((rd_T55 l0_0 bt405.1).f0,(rd_T55 l0_0 bt405.1).f1.f0,(rd_T55 l0_0 bt405.1).f1.f1,(rd_T55 l0_0 bt405.1).f1.f2)) else (none)) else (none))) else (none)
set_option maxHeartbeats 8000000 in
set_option maxRecDepth 100000 in
theorem impl_currentTask.calls (P0_0_:Nat→Prop) (A0_0:Option Addr) (c0_0:Nat) (l0_0:List (S55)) (A1:Option Addr) (c1:Nat) (l1:List Int) (r1:List (S77)) (r2:Int) (r3:Int) (r4:Int) (w:World) (hs0_0:Kd.V k55 55 w w.heap.size (fun k_=>P0_0_ k_) (.slice A0_0 l0_0.length c0_0) l0_0) (hr1:Kd.C (Kd.int .i64) w A1 l1.length l1) (hc1:l1.length≤c1) (h:impl_currentTask.f l0_0 l1=some (r1,r2,r3,r4)):
  Calls Tryz.prog 28 #[.agg #[.slice A0_0 l0_0.length c0_0],.slice A1 l1.length c1] w fun e w'=>∃v0_:Value,e= .returned (.agg #[v0_,.int .i64 r2,.int .i64 r3,.int .i64 r4])∧Kd.V k77 77 w' w.heap.size (fun k_=>(P0_0_ k_∨w.heap.size≤k_)) v0_ r1∧Below w.heap.size w w':=by
 have hu30:=Tryz.underlying30
 have hu55:=Tryz.underlying55
 have HO0_0:=Za (show Kd.V k55 55 w w.heap.size (fun k_=>(P0_0_ k_∨w.heap.size≤k_)) (.slice A0_0 l0_0.length c0_0) l0_0 from Kd.V_mono hs0_0 (fun k_ hk=> .inl hk))
 have HR1:=Za hr1
 have HC1:=Za hc1
 clear hr1 hc1
 have HB:=Za (Yc w.heap.size w)
 have H:(if 8<(l1.length:Int) then ((impl_UnpackControl.f (rd l1 8)).bind fun bt405=>(if 0≤bt405.1 then (if bt405.1<(l0_0.length:Int) then (some ((rd_T55 l0_0 bt405.1).f0,(rd_T55 l0_0 bt405.1).f1.f0,(rd_T55 l0_0 bt405.1).f1.f1,(rd_T55 l0_0 bt405.1).f1.f2)) else (none)) else (none))) else (none))=some (r1,r2,r3,r4):=h
 clear h
 by_cases c3:8<(l1.length:Int)
 ·rw[if_pos c3] at H
  have c3b0:decide (8<(l1.length:Int))=true:=Zq c3
  have c3b1:decide (8<l1.length)=true:=Zq (by omega)
  clear c3
  replace H:=Zl H
  obtain⟨⟨t405,t406,t407⟩,A40,H⟩:=H
  replace H:(if 0≤t405 then (if t405<(l0_0.length:Int) then (some ((rd_T55 l0_0 t405).f0,(rd_T55 l0_0 t405).f1.f0,(rd_T55 l0_0 t405).f1.f1,(rd_T55 l0_0 t405).f1.f2)) else (none)) else (none))=some (r1,r2,r3,r4):=H
  have A4:=Za A40
  clear A40
  by_cases c5:0≤t405
  ·rw[if_pos c5] at H
   have c5b0:decide (0≤t405)=true:=Zq c5
   clear c5
   by_cases c6:t405<(l0_0.length:Int)
   ·rw[if_pos c6] at H
    have c6b0:decide (t405<(l0_0.length:Int))=true:=Zq c6
    clear c6
    simp only[Option.some.injEq,Prod.mk.injEq] at H
    obtain⟨rfl,rfl,rfl,rfl⟩:=H
    go_enter Tryz.func28,Tryz.ntmps28
    go_wp2_with (first|((with_reducible refine Zr (N:=2) rfl ?_);refine Zs ?hg (N:=2) ?hd (cs:= #[.slice A0_0 l0_0.length c0_0]) (t:=30) ?hr ?_;(case hd=>rfl);(case hg=>rfl);(case hr=>first|(go_simp;done)|(go_simp;rfl));intro gb402 hg w7 hbox hb;replace HO0_0:=Za (Kd.V_below (Kd.V_elderB (by(with_reducible repeat(first|apply Kd.V_alloc|apply Kd.V_drewN|apply Kd.V_drew));exact HO0_0.out) gb402 (Nat.le_of_eq hg.symm)) hb);have BK402:=Za (hbox);have GW402:=Za ((by rw[hg];exact(Zt z9_2):w.heap.size≤gb402));have GE402:=Za ((by rw[hg];exact(Zt z9_2):w.heap.size≤gb402));replace HB:=Za (Zi z9_2 hb);clear hb hbox hg)|((with_reducible refine Zr (N:=4) rfl ?_);refine Zs ?hg (N:=4) ?hd (cs:= #[.slice none 0 0,.int .i64 0,.int .i64 0,.int .i64 0]) (t:=55) ?hr ?_;(case hd=>rfl);(case hg=>rfl);(case hr=>first|(go_simp;done)|(go_simp;rfl));intro gb403 hg w8 hbox hb;replace HO0_0:=Za (Kd.V_below (Kd.V_elderB (by(with_reducible repeat(first|apply Kd.V_alloc|apply Kd.V_drewN|apply Kd.V_drew));exact HO0_0.out) gb403 (Nat.le_of_eq hg.symm)) hb);have BK403:=Za (hbox);have GW403:=Za ((by rw[hg];exact(Zt z9_8):w.heap.size≤gb403));have GE403:=Za ((by rw[hg];exact(Zt z9_8):w.heap.size≤gb403));replace HB:=Za (Zi z9_8 hb);have NB402_403:=Za ((by rw[hg];exact Nat.ne_of_lt (blk_lt (g:=gb402) (o:= .cells #[.slice A0_0 l0_0.length c0_0] 30 (0,0)) z9_6):gb402≠gb403));have NB403_402:=Za ((by rw[hg];exact Nat.ne_of_gt (blk_lt (g:=gb402) (o:= .cells #[.slice A0_0 l0_0.length c0_0] 30 (0,0)) z9_6):gb403≠gb402));replace BK402:=Za (Zk (g:=gb402) (o:= .cells #[.slice A0_0 l0_0.length c0_0] 30 (0,0)) z9_6 hb);clear hb hbox hg;have p404:0≤(8:Int):=(by omega);have q404:8<(l1.length:Int):=Zj z9_0;obtain⟨ad404,e404,hx404_0⟩:=Kd.at_int HR1.out 8 p404 q404;cases e404;(try simp only[show(8:Int).toNat=8 from rfl,Nat.reduceMul,Nat.reduceEqDiff,Go.Addr.add,↓reduceIte] at hx404_0);have qi404:(8<l1.length)=True:=eq_true (by omega);(try rw[show((8:Int)).toNat=8 from rfl] at hx404_0);replace hx404_0:=(HB.out.cell (Zf w _ hx404_0)).trans hx404_0;replace p404:=eq_true p404;replace q404:=eq_true q404)|((first|((with_reducible refine gate_callee (f:=41) rfl ?_);refine goesL_ (some 12) rfl rfl Tryz.func41 z9_3 rfl #[.int .i64 (rd l1 8)] rfl z9_1 ?_;(with_reducible refine(impl_UnpackControl.calls (rd l1 8) t405 t406 t407 _ A4.out).mono ?_))|(go_at_call 41;(with_reducible refine(impl_UnpackControl.calls (rd l1 8) t405 t406 t407 _ A4.out).mono ?_)));rintro e w' ⟨rfl,⟨nd,rfl⟩⟩;(first|refine⟨_,rfl,?_⟩|skip);(try(rw[drewN_self w8];generalize hq_:World.drewN w8 _=w8;have n0_:Aside0 (Kd.V k55 55 w8 w.heap.size (fun k_=>(P0_0_ k_∨w.heap.size≤k_)∧k_≠gb402∧k_≠gb403) (.slice A0_0 l0_0.length c0_0) l0_0):=⟨by rw[←hq_];exact(by(with_reducible repeat(first|apply Kd.V_alloc|apply Kd.V_drewN|apply Kd.V_drew));exact Kd.V_mono HO0_0.out (fun _ hk=>⟨hk.1.1,⟨hk.1.2,hk.2⟩⟩))⟩;have n1_:Aside0 (w8.heap[gb402]? =some (.cells #[.slice A0_0 l0_0.length c0_0] 30 (0,0))):=⟨by rw[←hq_];exact z9_6⟩;have n2_:Aside0 (w8.heap[gb403]? =some (.cells #[.slice none 0 0,.int .i64 0,.int .i64 0,.int .i64 0] 55 (0,0))):=⟨by rw[←hq_];exact(by(with_reducible repeat(first|refine blk_drewN ?_ _|refine blk_drew ?_|refine blk_alloc ?_ _));exact BK403.out)⟩;have n3_:Aside0 (Below w.heap.size w w8):=⟨by rw[←hq_];exact(by repeat(first|(with_reducible first|exact HB.out|apply Zh|apply Ze|apply Zd|refine Zg ?_ GE402.out|refine Zg ?_ GE403.out)|exact HB.out))⟩;clear HO0_0 BK402 BK403 HB hq_;have HO0_0:=n0_;have BK402:=n1_;have BK403:=n2_;have HB:=n3_;clear n0_ n1_ n2_ n3_));(try(have hcuz9_0:w8.cell? ⟨gb402,0,none⟩=some (.slice A0_0 l0_0.length c0_0):=(Zb BK402.out 0).trans rfl;have hfuz9_0:=Zc BK402.out 0));(try(have hcuz10_0:w8.cell? ⟨gb403,0,none⟩=some (.slice none 0 0):=(Zb BK403.out 0).trans rfl;have hcuz10_1:w8.cell? ⟨gb403,1,none⟩=some (.int .i64 0):=(Zb BK403.out 1).trans rfl;have hcuz10_2:w8.cell? ⟨gb403,2,none⟩=some (.int .i64 0):=(Zb BK403.out 2).trans rfl;have hcuz10_3:w8.cell? ⟨gb403,3,none⟩=some (.int .i64 0):=(Zb BK403.out 3).trans rfl;have hfuz10_0:=Zc BK403.out 0;have hfuz10_1:=Zc BK403.out 1;have hfuz10_2:=Zc BK403.out 2;have hfuz10_3:=Zc BK403.out 3));have hnb11:=NB402_403.out;have hnc11:=NB403_402.out;have hcz12_0:w8.cell? ⟨gb402,0,none⟩=some (.slice A0_0 l0_0.length c0_0):=(Zb BK402.out 0).trans rfl;have hfz12_0:=Zc BK402.out 0;have p408:0≤(t405:Int):=Zj z9_0;have q408:t405<(l0_0.length:Int):=Zj z9_0;obtain⟨ad408,A408_0,c408_0,e408,hx408_0,hx408_1,hx408_2,hx408_3,hl408_0,hi408_0⟩:=at_T55 (Kd.V_reads' HO0_0.out).2.2 t405 p408 q408;cases e408;obtain⟨ce408,hce408,hMe408,hcc408⟩:=Kd.V_get HO0_0.out z55 t405 p408 (by first|exact q408|exact Zj z9_0|(have e_:=(Kd.V_reads' HO0_0.out).1;omega));obtain⟨ua408_0,uc408_0,rfl,ul408_0,ge408_0⟩:=k55_openF hMe408;have hv408_0:=hcc408 0 _ rfl;rw[Nat.add_zero] at hv408_0;replace hv408_0:=Zm (hv408_0.symm.trans hx408_0);injection hv408_0 with hva_ hvn_ hvc_;rw[hva_] at ge408_0;rw[hvc_] at ul408_0;have HL408_0:=Za (show Kd.V k77 77 _ w.heap.size _ _ ((rd_T55 l0_0 t405).f0) from Kd.V_mk ul408_0 ge408_0);clear hva_ hvn_ hvc_ ge408_0 ul408_0;clear hcc408 hce408;have HR408_0:=Za hi408_0;have HC408_0:=Za hl408_0;clear hi408_0 hl408_0;replace p408:=eq_true p408;replace q408:=eq_true q408;have hcz13_0:w8.cell? ⟨gb403,0,none⟩=some (.slice none 0 0):=(Zb BK403.out 0).trans rfl;have hcz13_1:w8.cell? ⟨gb403,1,none⟩=some (.int .i64 0):=(Zb BK403.out 1).trans rfl;have hcz13_2:w8.cell? ⟨gb403,2,none⟩=some (.int .i64 0):=(Zb BK403.out 2).trans rfl;have hcz13_3:w8.cell? ⟨gb403,3,none⟩=some (.int .i64 0):=(Zb BK403.out 3).trans rfl;have hfz13_0:=Zc BK403.out 0;have hfz13_1:=Zc BK403.out 1;have hfz13_2:=Zc BK403.out 2;have hfz13_3:=Zc BK403.out 3)|((with_reducible refine Ym (t:=55) (p:=4) rfl ?_);refine Yl (t:=55) (p:=4) (v:= ?vo_w14) (w1:=((((w8.setCell ⟨gb403,0,none⟩ (.slice A408_0 ((rd_T55 l0_0 t405).f0).length c408_0)).setCell ⟨gb403,1,none⟩ (.int .i64 ((rd_T55 l0_0 t405).f1.f0))).setCell ⟨gb403,2,none⟩ (.int .i64 ((rd_T55 l0_0 t405).f1.f1))).setCell ⟨gb403,3,none⟩ (.int .i64 ((rd_T55 l0_0 t405).f1.f2)))) ?hg ?ho ?hn ?hr ?_;(case ho=>rfl);(case hg=>rfl);(case hn=>rfl);(case hr=>first|(go_simp;done)|(go_simp;rfl));intro w14 hw;have n0_:Aside0 (Kd.V k55 55 w14 w.heap.size (fun k_=>(P0_0_ k_∨w.heap.size≤k_)∧k_≠gb402∧k_≠gb403) (.slice (some ad408) l0_0.length c0_0) l0_0):=⟨(by rw[hw];exact(by(with_reducible repeat(first|apply Kd.V_alloc|apply Kd.V_drewN|apply Kd.V_drew));exact Kd.V_mono (Kd.V_far (p:=⟨gb403,3,none⟩) (Kd.V_far (p:=⟨gb403,2,none⟩) (Kd.V_far (p:=⟨gb403,1,none⟩) (Kd.V_far (p:=⟨gb403,0,none⟩) (Kd.V_mono HO0_0.out (fun k_ hk=>(⟨hk,hk.2.2⟩:_∧k_≠gb403))) (fun _ hk=>hk.2) (.slice A408_0 ((rd_T55 l0_0 t405).f0).length c408_0)) (fun _ hk=>hk.2) (.int .i64 ((rd_T55 l0_0 t405).f1.f0))) (fun _ hk=>hk.2) (.int .i64 ((rd_T55 l0_0 t405).f1.f1))) (fun _ hk=>hk.2) (.int .i64 ((rd_T55 l0_0 t405).f1.f2))) (fun _ hk=>⟨hk.1.1,⟨hk.1.2.1,hk.1.2.2⟩⟩)))⟩;have n1_:Aside0 (Kd.V k77 77 w14 w.heap.size (fun k_=>(P0_0_ k_∨w.heap.size≤k_)∧k_≠gb402∧k_≠gb403) (.slice A408_0 ((rd_T55 l0_0 t405).f0).length c408_0) ((rd_T55 l0_0 t405).f0)):=⟨(by rw[hw];exact(by(with_reducible repeat(first|apply Kd.V_alloc|apply Kd.V_drewN|apply Kd.V_drew));exact Kd.V_mono (Kd.V_far (p:=⟨gb403,3,none⟩) (Kd.V_far (p:=⟨gb403,2,none⟩) (Kd.V_far (p:=⟨gb403,1,none⟩) (Kd.V_far (p:=⟨gb403,0,none⟩) (Kd.V_mono HL408_0.out (fun k_ hk=>(⟨hk,hk.2.2⟩:_∧k_≠gb403))) (fun _ hk=>hk.2) (.slice A408_0 ((rd_T55 l0_0 t405).f0).length c408_0)) (fun _ hk=>hk.2) (.int .i64 ((rd_T55 l0_0 t405).f1.f0))) (fun _ hk=>hk.2) (.int .i64 ((rd_T55 l0_0 t405).f1.f1))) (fun _ hk=>hk.2) (.int .i64 ((rd_T55 l0_0 t405).f1.f2))) (fun _ hk=>⟨hk.1.1,⟨hk.1.2.1,hk.1.2.2⟩⟩)))⟩;have n2_:Aside0 (w14.heap[gb402]? =some (.cells #[.slice (some ad408) l0_0.length c0_0] 30 (0,0))):=⟨(by rw[hw];exact(by(with_reducible repeat(first|refine blk_drewN ?_ _|refine blk_drew ?_|refine blk_alloc ?_ _));refine blk_far ?_ NB402_403.out _;(with_reducible repeat(first|refine blk_drewN ?_ _|refine blk_drew ?_|refine blk_alloc ?_ _));refine blk_far ?_ NB402_403.out _;(with_reducible repeat(first|refine blk_drewN ?_ _|refine blk_drew ?_|refine blk_alloc ?_ _));refine blk_far ?_ NB402_403.out _;(with_reducible repeat(first|refine blk_drewN ?_ _|refine blk_drew ?_|refine blk_alloc ?_ _));refine blk_far ?_ NB402_403.out _;(with_reducible repeat(first|refine blk_drewN ?_ _|refine blk_drew ?_|refine blk_alloc ?_ _));exact BK402.out))⟩;have n3_:Aside0 (w14.heap[gb403]? =some (.cells #[.slice A408_0 ((rd_T55 l0_0 t405).f0).length c408_0,.int .i64 ((rd_T55 l0_0 t405).f1.f0),.int .i64 ((rd_T55 l0_0 t405).f1.f1),.int .i64 ((rd_T55 l0_0 t405).f1.f2)] 55 (0,0))):=⟨(by rw[hw];exact(by(with_reducible repeat(first|refine blk_drewN ?_ _|refine blk_drew ?_|refine blk_alloc ?_ _));refine blk_put (cs:= #[.slice A408_0 ((rd_T55 l0_0 t405).f0).length c408_0,.int .i64 ((rd_T55 l0_0 t405).f1.f0),.int .i64 ((rd_T55 l0_0 t405).f1.f1),.int .i64 0]) ?_ 3 _ rfl;(with_reducible repeat(first|refine blk_drewN ?_ _|refine blk_drew ?_|refine blk_alloc ?_ _));refine blk_put (cs:= #[.slice A408_0 ((rd_T55 l0_0 t405).f0).length c408_0,.int .i64 ((rd_T55 l0_0 t405).f1.f0),.int .i64 0,.int .i64 0]) ?_ 2 _ rfl;(with_reducible repeat(first|refine blk_drewN ?_ _|refine blk_drew ?_|refine blk_alloc ?_ _));refine blk_put (cs:= #[.slice A408_0 ((rd_T55 l0_0 t405).f0).length c408_0,.int .i64 0,.int .i64 0,.int .i64 0]) ?_ 1 _ rfl;(with_reducible repeat(first|refine blk_drewN ?_ _|refine blk_drew ?_|refine blk_alloc ?_ _));refine blk_put (cs:= #[.slice none 0 0,.int .i64 0,.int .i64 0,.int .i64 0]) ?_ 0 _ rfl;(with_reducible repeat(first|refine blk_drewN ?_ _|refine blk_drew ?_|refine blk_alloc ?_ _));exact BK403.out))⟩;have n4_:Aside0 (Below w.heap.size w w14):=⟨(by rw[hw];exact(by repeat(first|(with_reducible first|exact HB.out|apply Zh|apply Ze|apply Zd|refine Zg ?_ GE402.out|refine Zg ?_ GE403.out)|exact HB.out)))⟩;clear hw;clear HO0_0;clear HL408_0;clear BK402;clear BK403;clear HB;have HO0_0:=n0_;have HL408_0:=n1_;have BK402:=n2_;have BK403:=n3_;have HB:=n4_;clear n0_ n1_ n2_ n3_ n4_))
    refine bodyPost_ret (results_cell_row rfl _ _ gb403 55 #[.slice A408_0 ((rd_T55 l0_0 t405).f0).length c408_0,.int .i64 ((rd_T55 l0_0 t405).f1.f0),.int .i64 ((rd_T55 l0_0 t405).f1.f1),.int .i64 ((rd_T55 l0_0 t405).f1.f2)] (0,0) _ rfl (by(with_reducible repeat(first|refine blk_drewN ?_ _|refine blk_drew ?_|refine blk_alloc ?_ _));exact BK403.out) Tryz.underlying55 rfl z9_3) rfl ?_
    exact⟨_,by first|rfl|(simp[errW_none,errW_some]<;>rfl)|(simp[*,errW_none,errW_some]<;>rfl)|(simp[*,errW_none,errW_some,i64_w];done),by(with_reducible repeat(first|apply Kd.V_alloc|apply Kd.V_drewN|apply Kd.V_drew));exact Kd.V_mono HL408_0.out (fun _ hk=>hk.1),by repeat(first|(with_reducible first|exact HB.out|apply Zh|apply Ze|apply Zd|refine Zg ?_ GE402.out|refine Zg ?_ GE403.out)|exact HB.out)⟩
   ·rw[if_neg c6] at H
    exact absurd H (by simp)
  ·rw[if_neg c5] at H
   exact absurd H (by simp)
 ·rw[if_neg c3] at H
  exact absurd H (by simp)
-- NOT PRINTED: function 30 (slices_DeleteFunc_int_int)
end Go.Proofs.YtccjlmpeogifkaaGreat.G
