/- Functions of the program as plain Lean functions, and that each call comes to its function's answer; written by a program of the session. No condition. -/
import Derived.Test.YtjgfldbogjipiaaGreatGx0
import Derived.Test.YtjgfldbogjipiaaGreatGx3
import Derived.Test.YtjgfldbogjipiaaGreatGx4
namespace Go.Proofs.YtjgfldbogjipiaaGreat.G
open Go.RowKit Go.Proofs.YtjgfldbogjipiaaGreatW.PrintWords Go.Proofs.YtjgfldbogjipiaaGreatW.PrintLast Go.Proofs.YtjgfldbogjipiaaGreatW.PrintMore
attribute [local go_sem] max2_int min2_int max_two min_two max_three min_three max_four min_four   -- for this text's walks alone
set_option linter.unusedVariables false
set_option linter.unusedSimpArgs false
theorem z5_0 {P:Prop} (h:P:=by first|(with_reducible assumption)|assumption):P:=h
theorem z5_1 {P:Prop} (h:P:=by(try simp only[Yt,List.map_cons,List.map_nil]);first|done|rfl|(simp only[List.length_drop,List.length_take];rfl)):P:=h
theorem z5_2 {P:Prop} (h:P:=by repeat(first|(with_reducible first|exact HB.out|apply Zh|apply Zf|apply Ze)|exact HB.out)):P:=h
theorem z5_3 {P:Prop} (h:P:=by first|rfl|(simp;done)|(simp[*];done)):P:=h
theorem z5_4 {P:Prop} (h:P:=by first|(go_simp;done)|(go_simp;rfl)):P:=h
theorem z5_5 {P:Prop} (h:P:=by repeat(first|exact(Yh HR0_0.out HB.out)|(with_reducible refine Yk ?_ _)|(with_reducible refine Yi ?_ _)|(with_reducible refine Yl ?_))):P:=h
theorem z5_6 {P:Prop} (h:P:=by(try simp only[Yt,List.map_cons,List.map_nil]);first|done|(simp only[hji31];rfl)|rfl|(simp only[List.length_drop,List.length_take];rfl)):P:=h
theorem z5_7 {P:Prop} (h:P:=by repeat(first|(with_reducible first|exact HB.out|apply Zh|apply Zf|apply Ze|refine Zd ?_ GE407.out)|exact HB.out)):P:=h
theorem z5_8 {P:Prop} (h:P:=by repeat(first|exact HR0.out|(with_reducible refine Yk ?_ _)|(with_reducible refine Yi ?_ _)|(with_reducible refine Yl ?_))):P:=h
theorem z5_9 {P:Prop} (h:P:=by(with_reducible repeat(first|refine blk_drewN ?_ _|refine blk_drew ?_|refine blk_alloc ?_ _));exact BK407.out):P:=h
/-! ### impl_areValues: function 51 -/
-- leans on 41
def valP (x:Int):Bool:=decide (-1000000≤x∧x≤1000000)
theorem valP_eq (x:Int):impl_IsValue.f x=some (valP x):=by
 unfold impl_IsValue.f impl_within.f valP
 by_cases h: -1000000≤x<;>simp[h]
set_option maxRecDepth 100000 in
theorem valP_clo (x:Int) (b:Bool) (w:World) (hb:valP x=b):Calls Tryz.prog 85 #[.int .i64 x] w fun e w'=>e= .returned (.bool (!b))∧Drawn0 w w':=by
 have Hb:=Za ((valP_eq x).trans (congrArg some hb))
 clear hb
 go_enter Tryz.func85,Tryz.ntmps85
 go_wp2_with (go_at_call 52;(with_reducible refine(impl_IsValue.calls x b _ Hb.out).mono ?_);rintro e w' ⟨rfl,⟨nd,rfl⟩⟩)
 go_ret
 exact⟨rfl,by repeat(first|exact Zv _|apply Zw)⟩
theorem valP_none (l:List Int) (h:∀i:Int,0≤i→i<(l.length:Int)→valP (rd l i)=true):l.any (fun x=> !valP x)=false:=by
 rw[List.any_eq_false]
 intro x hx
 obtain⟨i,hi⟩:=List.getElem?_of_mem hx
 have hl:=(List.getElem?_eq_some_iff.1 hi).1
 have:=h (i:Int) (by omega) (by omega)
 unfold rd at this
 rw[Int.toNat_natCast,List.getD_eq_getElem?_getD,hi] at this
 simpa using this
theorem valP_some (l:List Int) (i:Int) (h0:0≤i) (h1:i<(l.length:Int)) (h:valP (rd l i)=false):l.any (fun x=> !valP x)=true:=by
 rw[List.any_eq_true]
 refine⟨rd l i,?_,by simpa using h⟩
 unfold rd
 rw[List.getD_eq_getElem?_getD,List.getElem?_eq_getElem (by omega)]
 exact List.getElem_mem _
set_option maxHeartbeats 8000000 in
set_option maxRecDepth 100000 in
theorem valP_index (A:Option Addr) (c:Nat) (l:List Int) (w:World) (hr:Kd.C (Kd.int .i64) w A l.length l):
  Calls Tryz.prog 77 #[.slice A l.length c,.func (.func 85) #[] #[]] w fun e w'=>∃i:Int,e= .returned (.int .i64 i)∧decide (i≥0)=l.any (fun x=> !valP x)∧Drawn0 w w':=by
 have HR:=Za hr
 have hlen:l.length≤9223372036854775807:=hr.2.1
 clear hr
 go_enter Tryz.func77,Tryz.ntmps77
 go_wp2
 go_loopw [8] (fun v8 w'=>∃x:Int,v8= .int .i64 x∧Aside0 (0≤x)∧Aside0 (x≤(l.length:Int))∧Aside0 (∀i:Int,0≤i→i<x→valP (rd l i)=true)∧Drawn0 w w') (fun v8 _=>l.length - (intOf v8).toNat)
 case atStart=>exact⟨0,rfl,⟨by omega⟩,⟨by omega⟩,⟨fun i h0 h1=>by omega⟩,Zv _⟩
 case round=>
  obtain⟨x,rfl,Hx0,Hx1,Hp,⟨m,rfl⟩⟩:=hrel
  by_cases hlt:x<(l.length:Int)
  ·have c1:decide (x<(l.length:Int))=true:=Zo hlt
   have h0:=Hx0.out
   obtain⟨ad,e,hx⟩:=Kd.at_int HR.out x h0 hlt
   cases e
   obtain⟨b,hb⟩:∃b,valP (rd l x)=b:=⟨_,rfl⟩
   have Hb:=Za hb
   have Hlt:=Za hlt
   clear hb hlt
   have p1:=eq_true h0
   have q1:=eq_true Hlt.out
   have hsum:wrap64 (x+1)=x+1:=by have:=Hlt.out;unfold wrap64;omega
   have Hs:=Za hsum
   clear hsum h0
   cases b with
   |true=>
    go_wp2_with (go_at_call 85;(with_reducible refine(valP_clo (rd l x) true _ Hb.out).mono ?_);rintro e w' ⟨rfl,⟨nd,rfl⟩⟩)
    go_roundw
    case rel=>exact⟨x+1,by rw[Hs.out],⟨by have:=Hx0.out;omega⟩,⟨by have:=Hlt.out;omega⟩,⟨fun i h0 h1=>by
     by_cases e:i=x
     ·rw[e];exact Hb.out
     ·exact Hp.out i h0 (by omega)⟩,by repeat(first|exact Zv _|apply Zw)⟩
    case measure=>
     have:=Hlt.out
     have:=Hx0.out
     rw[Hs.out]
     simp[intOf]
     omega
   |false=>
    go_wp2_with (go_at_call 85;(with_reducible refine(valP_clo (rd l x) false _ Hb.out).mono ?_);rintro e w' ⟨rfl,⟨nd,rfl⟩⟩)
    go_ret
    exact⟨x,rfl,by rw[valP_some l x Hx0.out Hlt.out Hb.out];simpa using Hx0.out,by repeat(first|exact Zv _|apply Zw)⟩
  ·have c1:decide (x<(l.length:Int))=false:=Yg hlt
   have hx:x=(l.length:Int):=by have:=Hx1.out;omega
   have Hx:=Za hx
   clear hx hlt
   go_wp2
   go_ret
   exact⟨-1,rfl,by rw[valP_none l (fun i h0 h1=>Hp.out i h0 (by have:=Hx.out;omega))];rfl,by repeat(first|exact Zv _|apply Zw)⟩
set_option maxRecDepth 100000 in
theorem valP_contains (A:Option Addr) (c:Nat) (l:List Int) (b:Bool) (hb:l.any (fun x=> !valP x)=b) (w:World) (hr:Kd.C (Kd.int .i64) w A l.length l):
  Calls Tryz.prog 84 #[.slice A l.length c,.func (.func 85) #[] #[]] w fun e w'=>e= .returned (.bool b)∧Drawn0 w w':=by
 have HR:=Za hr
 have Hb:=Za hb
 clear hr hb
 go_enter Tryz.func84,Tryz.ntmps84
 go_wp2_with fail
 refine(valP_index A c l _ HR.out).mono ?_
 rintro e w' ⟨i,rfl,hi,⟨nd,rfl⟩⟩
 rw[Hb.out] at hi
 have Hi:=Za hi
 clear hi
 go_wp2
 go_ret
 exact⟨by first|rfl|(rw[Hi.out];done)|(simp[Hi.out];done)|(have e:=Hi.out;simp at e ⊢;exact e),by repeat(first|exact Zv _|apply Zw)⟩
def impl_areValues.f (l0:List Int):Option Bool:=some (!(l0.any fun x=> !valP x))
set_option maxRecDepth 100000 in
theorem impl_areValues.calls (A0:Option Addr) (c0:Nat) (l0:List Int) (r:Bool) (w:World) (hr0:Kd.C (Kd.int .i64) w A0 l0.length l0) (hc0:l0.length≤c0) (h:impl_areValues.f l0=some r):
  Calls Tryz.prog 51 #[.slice A0 l0.length c0] w fun e w'=>e= .returned (.bool r)∧Drawn0 w w':=by
 obtain⟨b,hb⟩:∃b,l0.any (fun x=> !valP x)=b:=⟨_,rfl⟩
 unfold impl_areValues.f at h
 rw[hb] at h
 obtain rfl:=Zn h
 have HR:=Za hr0
 have Hb:=Za hb
 clear hr0 hb h hc0
 go_enter Tryz.func51,Tryz.ntmps51
 go_wp2_with fail
 refine(valP_contains A0 c0 l0 b Hb.out _ HR.out).mono ?_
 rintro e w' ⟨rfl,⟨nd,rfl⟩⟩
 go_wp2
 go_ret
 exact⟨rfl,by repeat(first|exact Zv _|apply Zw)⟩
/-! ### impl_MemOk: function 23 -/
mutual
def impl_MemOk.j0:Nat→List Int→Bool→List (S74)→Option (Bool)
 |0,_,_,_=>none
 |k+1,x1,x22,x408000=>if x22=true then (some false) else (if 8<(x1.length:Int) then ((impl_UnpackControl.f (rd x1 8)).bind fun bt412=>(if bt412.1<0 then (impl_MemOk.j1 k x1 bt412.2.1 true) else (if bt412.1≥(x408000.length:Int) then (impl_MemOk.j1 k x1 bt412.2.1 true) else (if 25≤(wrap64 (25+bt412.2.2)) then (if (wrap64 (25+bt412.2.2))≤(x1.length:Int) then ((impl_areValues.f ((x1.take ((wrap64 (25+bt412.2.2)):Int).toNat).drop 25)).bind fun t416=>(impl_MemOk.j1 k x1 bt412.2.1 (!t416))) else (none)) else (none))))) else (none))
def impl_MemOk.j1:Nat→List Int→Int→Bool→Option (Bool)
 |0,_,_,_=>none
 |k+1,x1,x6,x47=>if x47=true then (some false) else (impl_MemOk.l0 k x1 x6 0)
def impl_MemOk.l0:Nat→List Int→Int→Int→Option (Bool)
 |0,_,_,_=>none
 |k+1,x1,x48,x49=>if x49<x48 then (if 0≤(wrap64 (9+(wrap64 (2*x49)))) then (if (wrap64 (9+(wrap64 (2*x49))))<(x1.length:Int) then ((impl_isVar.f (rd x1 (wrap64 (9+(wrap64 (2*x49)))))).bind fun t418=>(if t418=true then (if 0≤(wrap64 ((wrap64 (9+(wrap64 (2*x49))))+1)) then (if (wrap64 ((wrap64 (9+(wrap64 (2*x49))))+1))<(x1.length:Int) then ((impl_IsValue.f (rd x1 (wrap64 ((wrap64 (9+(wrap64 (2*x49))))+1)))).bind fun t420=>(if t420=true then (impl_MemOk.l0 k x1 x48 (wrap64 (x49+1))) else (some false))) else (none)) else (none)) else (some false))) else (none)) else (none)) else (some true)
end
def impl_MemOk.f (k:Nat) (l0_0:List (S74)) (l1:List Int):Option (Bool):=(impl_ProgramOk.f k l0_0).bind fun t408=>(if t408=true then (if (l1.length:Int)=49 then (if 8≤(l1.length:Int) then ((impl_areValues.f (l1.take 8)).bind fun t410=>(impl_MemOk.j0 k l1 (!t410) l0_0)) else (none)) else (impl_MemOk.j0 k l1 true l0_0)) else (impl_MemOk.j0 k l1 true l0_0))
set_option maxHeartbeats 8000000 in
set_option maxRecDepth 100000 in
theorem impl_MemOk.calls (k:Nat) (A0_0:Option Addr) (c0_0:Nat) (l0_0:List (S74)) (A1:Option Addr) (c1:Nat) (l1:List Int) (r:Bool) (w:World) (hr0_0:Kd.C k74 w A0_0 l0_0.length l0_0) (hc0_0:l0_0.length≤c0_0) (hr1:Kd.C (Kd.int .i64) w A1 l1.length l1) (hc1:l1.length≤c1) (h:impl_MemOk.f k l0_0 l1=some r):
  Calls Tryz.prog 23 #[.agg #[.slice A0_0 l0_0.length c0_0],.slice A1 l1.length c1] w fun e w'=>e= .returned (.bool r)∧Below w.heap.size w w':=by
 have hu26:=Tryz.underlying26
 have HR0_0:=Za hr0_0
 have HC0_0:=Za hc0_0
 clear hr0_0 hc0_0
 have HR1:=Za hr1
 have HC1:=Za hc1
 clear hr1 hc1
 have HB:=Za (Yb w.heap.size w)
 have H:((impl_ProgramOk.f k l0_0).bind fun t408=>(if t408=true then (if (l1.length:Int)=49 then (if 8≤(l1.length:Int) then ((impl_areValues.f (l1.take 8)).bind fun t410=>(impl_MemOk.j0 k l1 (!t410) l0_0)) else (none)) else (impl_MemOk.j0 k l1 true l0_0)) else (impl_MemOk.j0 k l1 true l0_0)))=some r:=h
 clear h
 have HC3:=Za H
 clear H
 go_enter Tryz.func23,Tryz.ntmps23
 go_upto_region 1 with(first|((with_reducible refine Zr (N:=2) rfl ?_);(try(refine gate_guard (by rfl) ?_;dsimp only));refine Zy ?hg (N:=2) ?hd (cs:= #[.slice A0_0 l0_0.length c0_0]) (t:=26) ?hr ?_;(case hd=>rfl);(case hg=>rfl);(case hr=>exact z5_4);intro gb407 hg w4 hbox hb;have BK407:=Za (hbox);have GW407:=Za ((by rw[hg];exact(Yf z5_2):w.heap.size≤gb407));have GE407:=Za ((by rw[hg];exact(Yf z5_2):w.heap.size≤gb407));replace HB:=Za (Zk z5_2 hb);clear hb hbox hg))
 (try simp only[Act.put,Zs,Zt,Zu])
 go_cut [22] (fun v22 wc=>∃(kq:Nat) (x22_2:Bool),v22= .bool x22_2∧Aside0 (impl_MemOk.j0 kq l1 x22_2 l0_0=some r)∧Aside0 (kq≤k)∧Aside0 (wc.heap[gb407]? =some (.cells #[(.slice A0_0 l0_0.length c0_0)] 26 (0,0)))∧Aside0 (Below w.heap.size w wc))
 case first=>
  have H:=HC3.out
  clear HC3
  replace H:=Zg H
  obtain⟨t408,A50,H⟩:=H
  replace H:(if t408=true then (if (l1.length:Int)=49 then (if 8≤(l1.length:Int) then ((impl_areValues.f (l1.take 8)).bind fun t410=>(impl_MemOk.j0 k l1 (!t410) l0_0)) else (none)) else (impl_MemOk.j0 k l1 true l0_0)) else (impl_MemOk.j0 k l1 true l0_0))=some r:=H
  have A5:=Za A50
  clear A50
  by_cases c6:t408=true
  ·subst c6
   rw[if_pos rfl] at H
   by_cases c7:(l1.length:Int)=49
   ·rw[if_pos c7] at H
    have c7b0:((l1.length:Int)==49)=true:=beq_iff_eq.mpr c7
    have c7b1:((l1.length:Int) != 49)=false:=bne_eq_false_iff_eq.mpr c7
    clear c7
    (first|rw[c7b0]|(simp only[i64_w,i32_w];rw[c7b0])|skip)
    by_cases c8:8≤(l1.length:Int)
    ·rw[if_pos c8] at H
     have c8b0:=eq_true c8
     have c8b1:decide (8≤(l1.length:Int))=true:=Zo c8
     clear c8
     replace H:=Zg H
     obtain⟨t410,A90,H⟩:=H
     replace H:(impl_MemOk.j0 k l1 (!t410) l0_0)=some r:=H
     have A9:=Za A90
     clear A90
     have H':=Za H
     clear H
     have hcz10_0:w4.cell? ⟨gb407,0,none⟩=some (.slice A0_0 l0_0.length c0_0):=(Zb BK407.out 0).trans rfl
     have hfz10_0:=Zc BK407.out 0
     go_wp2_with (first|((first|((with_reducible refine gate_callee (f:=50) rfl ?_);refine goesL_ (some 10) rfl rfl Tryz.func50 (by kernel_rfl) rfl #[.agg #[.slice A0_0 l0_0.length c0_0]] rfl z5_1 ?_;(with_reducible refine(impl_ProgramOk.calls k _ _ l0_0 true _ ?side1 ?side2 A5.out).mono ?_))|(go_at_call 50;(with_reducible refine(impl_ProgramOk.calls k _ _ l0_0 true _ ?side1 ?side2 A5.out).mono ?_)));(case side1=>exact z5_5);(case side2=>exact HC0_0.out);rintro e w11 ⟨rfl,hb⟩;(first|refine⟨_,rfl,?_⟩|skip);replace BK407:=Za (Zi (g:=gb407) (o:= .cells #[.slice A0_0 l0_0.length c0_0] 26 (0,0)) z5_9 hb);replace HB:=Za (Zk z5_7 hb);(try clear hb);(try clear hb2);(try clear hk);(try clear hi);obtain⟨i012,hi012,_,hsz12,_⟩:=info_parts info3;obtain⟨hcut12,hA12,hC12⟩:=print_take_of (P:=Tryz.prog) (Value.int .i64) 0 27 3 .i64 Tryz.underlying27 hi012 hsz12 A1 c1 l1 8 (by omega) (Zq z5_0) HC1.out;have HR409:=Za (Kd.C_of_reads (h1:=fun _=>rfl) (hA12 _ (Kd.reads_of_C HR1.out)));have HC409:=Za hC12;clear hA12 hC12 hi012 hsz12)|(go_at_call 51;(try simp only[←List.length_take,←List.length_drop]);(first|(with_reducible refine(impl_areValues.calls _ _ (l1.take 8) t410 _ ?side1 ?side2 A9.out).mono ?_)|(refine calls_len1 ?ln_ ((impl_areValues.calls _ _ (l1.take 8) t410 _ ?side1 ?side2 A9.out).mono ?_);(case ln_=>simp only[List.length_drop,List.length_take];first|omega)));(case side1=>repeat(first|exact(Yh HR409.out HB.out)|(with_reducible refine Yk ?_ _)|(with_reducible refine Yi ?_ _)|(with_reducible refine Yl ?_)));(case side2=>exact HC409.out);rintro e w' ⟨rfl,⟨nd,rfl⟩⟩))
     go_meet
     case rel=>exact⟨_,(!t410),z5_3,H',⟨by first|omega|exact Nat.le_refl _⟩,⟨by(with_reducible repeat(first|refine blk_drewN ?_ _|refine blk_drew ?_|refine blk_alloc ?_ _));exact BK407.out⟩,⟨by repeat(first|(with_reducible first|exact HB.out|apply Zh|apply Zf|apply Ze|refine Zd ?_ GE407.out)|exact HB.out)⟩⟩
    ·rw[if_neg c8] at H
     exact absurd H (by simp)
   ·rw[if_neg c7] at H
    have c7b0:((l1.length:Int)==49)=false:=beq_eq_false_iff_ne.mpr c7
    have c7b1:((l1.length:Int) != 49)=true:=bne_iff_ne.mpr c7
    (first|rw[c7b0]|(simp only[i64_w,i32_w];rw[c7b0])|skip)
    have H':=Za H
    clear H
    have hcz13_0:w4.cell? ⟨gb407,0,none⟩=some (.slice A0_0 l0_0.length c0_0):=(Zb BK407.out 0).trans rfl
    have hfz13_0:=Zc BK407.out 0
    go_wp2_with (first|((first|((with_reducible refine gate_callee (f:=50) rfl ?_);refine goesL_ (some 10) rfl rfl Tryz.func50 (by kernel_rfl) rfl #[.agg #[.slice A0_0 l0_0.length c0_0]] rfl z5_1 ?_;(with_reducible refine(impl_ProgramOk.calls k _ _ l0_0 true _ ?side1 ?side2 A5.out).mono ?_))|(go_at_call 50;(with_reducible refine(impl_ProgramOk.calls k _ _ l0_0 true _ ?side1 ?side2 A5.out).mono ?_)));(case side1=>exact z5_5);(case side2=>exact HC0_0.out);rintro e w14 ⟨rfl,hb⟩;(first|refine⟨_,rfl,?_⟩|skip);replace BK407:=Za (Zi (g:=gb407) (o:= .cells #[.slice A0_0 l0_0.length c0_0] 26 (0,0)) z5_9 hb);replace HB:=Za (Zk z5_7 hb);(try clear hb);(try clear hb2);(try clear hk);(try clear hi)))
    go_meet
    case rel=>exact⟨_,(true),z5_3,H',⟨by first|omega|exact Nat.le_refl _⟩,⟨by(with_reducible repeat(first|refine blk_drewN ?_ _|refine blk_drew ?_|refine blk_alloc ?_ _));exact BK407.out⟩,⟨by repeat(first|(with_reducible first|exact HB.out|apply Zh|apply Zf|apply Ze|refine Zd ?_ GE407.out)|exact HB.out)⟩⟩
  ·replace c6:=Bool.eq_false_iff.mpr c6
   subst c6
   rw[if_neg (show ¬(false=true) by decide)] at H
   have H':=Za H
   clear H
   have hcz15_0:w4.cell? ⟨gb407,0,none⟩=some (.slice A0_0 l0_0.length c0_0):=(Zb BK407.out 0).trans rfl
   have hfz15_0:=Zc BK407.out 0
   go_wp2_with (first|((first|((with_reducible refine gate_callee (f:=50) rfl ?_);refine goesL_ (some 10) rfl rfl Tryz.func50 (by kernel_rfl) rfl #[.agg #[.slice A0_0 l0_0.length c0_0]] rfl z5_1 ?_;(with_reducible refine(impl_ProgramOk.calls k _ _ l0_0 false _ ?side1 ?side2 A5.out).mono ?_))|(go_at_call 50;(with_reducible refine(impl_ProgramOk.calls k _ _ l0_0 false _ ?side1 ?side2 A5.out).mono ?_)));(case side1=>exact z5_5);(case side2=>exact HC0_0.out);rintro e w16 ⟨rfl,hb⟩;(first|refine⟨_,rfl,?_⟩|skip);replace BK407:=Za (Zi (g:=gb407) (o:= .cells #[.slice A0_0 l0_0.length c0_0] 26 (0,0)) z5_9 hb);replace HB:=Za (Zk z5_7 hb);(try clear hb);(try clear hb2);(try clear hk);(try clear hi)))
   go_meet
   case rel=>exact⟨_,(true),z5_3,H',⟨by first|omega|exact Nat.le_refl _⟩,⟨by(with_reducible repeat(first|refine blk_drewN ?_ _|refine blk_drew ?_|refine blk_alloc ?_ _));exact BK407.out⟩,⟨by repeat(first|(with_reducible first|exact HB.out|apply Zh|apply Zf|apply Ze|refine Zd ?_ GE407.out)|exact HB.out)⟩⟩
 case rest=>
  clear HC3
  (try clear c1)
  obtain⟨kq,x22_2,rfl,HA,HJ2,BK407,HB⟩:=hcut
  cases kq with
  |zero=>exact absurd HA.out (by simp[impl_MemOk.j0])
  |succ kj2=>
   have H:=HA.out
   clear HA
   simp only[impl_MemOk.j0] at H
   by_cases c17:x22_2=true
   ·subst c17
    rw[if_pos rfl] at H
    obtain rfl:=Zn H
    go_wp2
    go_ret
    exact⟨by first|rfl|(simp[errW_none,errW_some]<;>rfl)|(simp[*,errW_none,errW_some]<;>rfl)|(simp[*,errW_none,errW_some,i64_w];done),by repeat(first|(with_reducible first|exact HB.out|apply Zh|apply Zf|apply Ze|refine Zd ?_ GE407.out)|exact HB.out)⟩
   ·replace c17:=Bool.eq_false_iff.mpr c17
    subst c17
    rw[if_neg (show ¬(false=true) by decide)] at H
    by_cases c18:8<(l1.length:Int)
    ·rw[if_pos c18] at H
     have c18b0:decide (8<(l1.length:Int))=true:=Zo c18
     have c18b1:decide (8<l1.length)=true:=Zo (by omega)
     clear c18
     replace H:=Zg H
     obtain⟨⟨t412,t413,t414⟩,A190,H⟩:=H
     replace H:(if t412<0 then (impl_MemOk.j1 kj2 l1 t413 true) else (if t412≥(l0_0.length:Int) then (impl_MemOk.j1 kj2 l1 t413 true) else (if 25≤(wrap64 (25+t414)) then (if (wrap64 (25+t414))≤(l1.length:Int) then ((impl_areValues.f ((l1.take ((wrap64 (25+t414)):Int).toNat).drop 25)).bind fun t416=>(impl_MemOk.j1 kj2 l1 t413 (!t416))) else (none)) else (none))))=some r:=H
     have A19:=Za A190
     clear A190
     have HC20:=Za H
     clear H
     have p411:0≤(8:Int):=(by omega)
     have q411:8<(l1.length:Int):=Zq z5_0
     obtain⟨ad411,e411,hx411_0⟩:=Kd.at_int HR1.out 8 p411 q411
     cases e411
     (try simp only[show(8:Int).toNat=8 from rfl,Nat.reduceMul,Nat.reduceEqDiff,Go.Addr.add,↓reduceIte] at hx411_0)
     have qi411:(8<l1.length)=True:=eq_true (by omega)
     (try rw[show((8:Int)).toNat=8 from rfl] at hx411_0)
     replace hx411_0:=(HB.out.cell (Yo w _ hx411_0)).trans hx411_0
     replace p411:=eq_true p411
     replace q411:=eq_true q411
     go_upto_region 4 with(first|((first|((with_reducible refine gate_callee (f:=29) rfl ?_);refine goesL_ (some 27) rfl rfl Tryz.func29 (by kernel_rfl) rfl #[.int .i64 (rd l1 8)] rfl z5_1 ?_;(with_reducible refine(impl_UnpackControl.calls (rd l1 8) t412 t413 t414 _ A19.out).mono ?_))|(go_at_call 29;(with_reducible refine(impl_UnpackControl.calls (rd l1 8) t412 t413 t414 _ A19.out).mono ?_)));rintro e w' ⟨rfl,⟨nd,rfl⟩⟩;(first|refine⟨_,rfl,?_⟩|skip)))
     (try simp only[Act.put,Zs,Zt,Zu])
     go_cut [47] (fun v47 wc=>∃(kq:Nat) (x47_19:Bool),v47= .bool x47_19∧Aside0 (impl_MemOk.j1 kq l1 t413 x47_19=some r)∧Aside0 (kq≤kj2)∧Aside0 (wc.heap[gb407]? =some (.cells #[(.slice A0_0 l0_0.length c0_0)] 26 (0,0)))∧Aside0 (Below w.heap.size w wc))
     case first=>
      have H:=HC20.out
      clear HC20
      by_cases c21:t412<0
      ·rw[if_pos c21] at H
       have c21b0:decide (t412<0)=true:=Zo c21
       clear c21
       (first|rw[c21b0]|(simp only[i64_w,i32_w];rw[c21b0])|skip)
       have H':=Za H
       clear H
       go_wp2
       go_meet
       case rel=>exact⟨_,(true),z5_3,H',⟨by have:=HJ2.out;first|omega|exact Nat.le_refl _⟩,⟨by(with_reducible repeat(first|refine blk_drewN ?_ _|refine blk_drew ?_|refine blk_alloc ?_ _));exact BK407.out⟩,⟨by repeat(first|(with_reducible first|exact HB.out|apply Zh|apply Zf|apply Ze|refine Zd ?_ GE407.out)|exact HB.out)⟩⟩
      ·rw[if_neg c21] at H
       have c21b0:decide (t412<0)=false:=Yg c21
       clear c21
       (first|rw[c21b0]|(simp only[i64_w,i32_w];rw[c21b0])|skip)
       by_cases c22:t412≥(l0_0.length:Int)
       ·rw[if_pos c22] at H
        have c22b0:decide ((l0_0.length:Int)≤t412)=true:=Zo c22
        clear c22
        have H':=Za H
        clear H
        have hcz23_0:wc.cell? ⟨gb407,0,none⟩=some (.slice A0_0 l0_0.length c0_0):=(Zb BK407.out 0).trans rfl
        have hfz23_0:=Zc BK407.out 0
        go_wp2
        go_meet
        case rel=>exact⟨_,(true),z5_3,H',⟨by have:=HJ2.out;first|omega|exact Nat.le_refl _⟩,⟨by(with_reducible repeat(first|refine blk_drewN ?_ _|refine blk_drew ?_|refine blk_alloc ?_ _));exact BK407.out⟩,⟨by repeat(first|(with_reducible first|exact HB.out|apply Zh|apply Zf|apply Ze|refine Zd ?_ GE407.out)|exact HB.out)⟩⟩
       ·rw[if_neg c22] at H
        have c22b0:decide ((l0_0.length:Int)≤t412)=false:=Yg c22
        clear c22
        by_cases c24:25≤(wrap64 (25+t414))
        ·rw[if_pos c24] at H
         have c24b0:=eq_true c24
         have c24b1:decide (25≤(wrap64 (25+t414)))=true:=Zo c24
         by_cases c25:(wrap64 (25+t414))≤(l1.length:Int)
         ·rw[if_pos c25] at H
          have c25b0:=eq_true c25
          have c25b1:decide ((wrap64 (25+t414))≤(l1.length:Int))=true:=Zo c25
          replace H:=Zg H
          obtain⟨t416,A260,H⟩:=H
          replace H:(impl_MemOk.j1 kj2 l1 t413 (!t416))=some r:=H
          have A26:=Za A260
          clear A260
          have H':=Za H
          clear H
          have hcz27_0:wc.cell? ⟨gb407,0,none⟩=some (.slice A0_0 l0_0.length c0_0):=(Zb BK407.out 0).trans rfl
          have hfz27_0:=Zc BK407.out 0
          obtain⟨i028,hi028,_,hsz28,_⟩:=info_parts info3
          obtain⟨A28,hcut28,hA28,hC28⟩:=print_mid_of (P:=Tryz.prog) (Value.int .i64) 0 27 3 .i64 .i64 Tryz.underlying27 hi028 hsz28 (some ad411) c1 l1 25 (wrap64 (25+t414)) (by omega) (by first|omega|exact Zq z5_0) (Zq z5_0) HC1.out
          have HR415:=Za (Kd.C_of_reads (h1:=fun _=>rfl) (hA28 _ (Kd.reads_of_C HR1.out)))
          have HC415:=Za hC28
          clear hA28 hC28 hi028 hsz28
          go_wp2_with (first|(go_at_call 51;(try simp only[←List.length_take,←List.length_drop]);(first|(with_reducible refine(impl_areValues.calls _ _ ((l1.take ((wrap64 (25+t414)):Int).toNat).drop 25) t416 _ ?side1 ?side2 A26.out).mono ?_)|(refine calls_len1 ?ln_ ((impl_areValues.calls _ _ ((l1.take ((wrap64 (25+t414)):Int).toNat).drop 25) t416 _ ?side1 ?side2 A26.out).mono ?_);(case ln_=>simp only[List.length_drop,List.length_take];first|omega|(have h_:(wrap64 (25+t414))≤(l1.length:Int):=Zq (by assumption);omega))));(case side1=>repeat(first|exact(Yh HR415.out HB.out)|(with_reducible refine Yk ?_ _)|(with_reducible refine Yi ?_ _)|(with_reducible refine Yl ?_)));(case side2=>exact HC415.out);rintro e w' ⟨rfl,⟨nd,rfl⟩⟩))
          go_meet
          case rel=>exact⟨_,(!t416),z5_3,H',⟨by have:=HJ2.out;first|omega|exact Nat.le_refl _⟩,⟨by(with_reducible repeat(first|refine blk_drewN ?_ _|refine blk_drew ?_|refine blk_alloc ?_ _));exact BK407.out⟩,⟨by repeat(first|(with_reducible first|exact HB.out|apply Zh|apply Zf|apply Ze|refine Zd ?_ GE407.out)|exact HB.out)⟩⟩
         ·rw[if_neg c25] at H
          exact absurd H (by simp)
        ·rw[if_neg c24] at H
         exact absurd H (by simp)
     case rest=>
      clear HC20
      (try clear c1);(try clear c17);(try clear c18);(try clear c18b0);(try clear c18b1);(try clear hx411_0);(try clear p411);(try clear q411)
      obtain⟨kq,x47_19,rfl,HA,HJ19,BK407,HB⟩:=hcut
      cases kq with
      |zero=>exact absurd HA.out (by simp[impl_MemOk.j1])
      |succ kj19=>
       have H:=HA.out
       clear HA
       simp only[impl_MemOk.j1] at H
       by_cases c29:x47_19=true
       ·subst c29
        rw[if_pos rfl] at H
        obtain rfl:=Zn H
        go_wp2
        go_ret
        exact⟨by first|rfl|(simp[errW_none,errW_some]<;>rfl)|(simp[*,errW_none,errW_some]<;>rfl)|(simp[*,errW_none,errW_some,i64_w];done),by repeat(first|(with_reducible first|exact HB.out|apply Zh|apply Zf|apply Ze|refine Zd ?_ GE407.out)|exact HB.out)⟩
       ·replace c29:=Bool.eq_false_iff.mpr c29
        subst c29
        rw[if_neg (show ¬(false=true) by decide)] at H
        have H':=Za H
        clear H
        go_wp2
        go_loopg [49] kj19 (fun kq v49 w'=>∃(x49_3:Int),v49= .int .i64 x49_3∧Aside0 (impl_MemOk.l0 kq l1 t413 x49_3=some r)∧Aside0 (kq≤kj19)∧Aside0 (w'.heap[gb407]? =some (.cells #[(.slice A0_0 l0_0.length c0_0)] 26 (0,0)))∧Aside0 (Below w.heap.size w w'))
        case atStart=>exact⟨(0),z5_3,H',⟨Nat.le_refl _⟩,⟨by(with_reducible repeat(first|refine blk_drewN ?_ _|refine blk_drew ?_|refine blk_alloc ?_ _));exact BK407.out⟩,⟨by repeat(first|(with_reducible first|exact HB.out|apply Zh|apply Zf|apply Ze|refine Zd ?_ GE407.out)|exact HB.out)⟩⟩
        case round=>
         clear H'
         (try clear c1);(try clear c17);(try clear c18);(try clear c18b0);(try clear c18b1);(try clear c29);(try clear hx411_0);(try clear p411);(try clear q411)
         obtain⟨x49_3,rfl,HA,HK3,BK407,HB⟩:=hrel
         cases gk with
         |zero=>exact absurd HA.out (by simp[impl_MemOk.l0])
         |succ k3=>
          have H:=HA.out
          clear HA
          simp only[impl_MemOk.l0] at H
          by_cases c30:x49_3<t413
          ·rw[if_pos c30] at H
           have c30b0:decide (x49_3<t413)=true:=Zo c30
           clear c30
           obtain⟨ji31,hji31⟩:∃j_:Int,(wrap64 (9+(wrap64 (2*x49_3))))=j_:=⟨_,rfl⟩
           replace H:(if 0≤(ji31) then (if (ji31)<(l1.length:Int) then ((impl_isVar.f (rd l1 (ji31))).bind fun t418=>(if t418=true then (if 0≤(wrap64 ((ji31)+1)) then (if (wrap64 ((ji31)+1))<(l1.length:Int) then ((impl_IsValue.f (rd l1 (wrap64 ((ji31)+1)))).bind fun t420=>(if t420=true then (impl_MemOk.l0 k3 l1 t413 (wrap64 (x49_3+1))) else (some false))) else (none)) else (none)) else (some false))) else (none)) else (none))=some r:=by first|(rw[hji31] at H;exact H)|(simp only[hji31] at H ⊢;exact H)
           have hji31w:(IntKind.i64.wrap (9+(wrap64 (2*x49_3))))=ji31:=(i64_w _).trans hji31
           by_cases c32:0≤(ji31)
           ·rw[if_pos c32] at H
            have c32b0:decide (0≤(ji31))=true:=Zo c32
            clear c32
            by_cases c33:(ji31)<(l1.length:Int)
            ·rw[if_pos c33] at H
             have c33b0:decide ((ji31)<(l1.length:Int))=true:=Zo c33
             clear c33
             replace H:=Zg H
             obtain⟨t418,A340,H⟩:=H
             replace H:(if t418=true then (if 0≤(wrap64 ((ji31)+1)) then (if (wrap64 ((ji31)+1))<(l1.length:Int) then ((impl_IsValue.f (rd l1 (wrap64 ((ji31)+1)))).bind fun t420=>(if t420=true then (impl_MemOk.l0 k3 l1 t413 (wrap64 (x49_3+1))) else (some false))) else (none)) else (none)) else (some false))=some r:=H
             have A34:=Za A340
             clear A340
             by_cases c35:t418=true
             ·subst c35
              rw[if_pos rfl] at H
              obtain⟨ji36,hji36⟩:∃j_:Int,(wrap64 ((ji31)+1))=j_:=⟨_,rfl⟩
              replace H:(if 0≤(ji36) then (if (ji36)<(l1.length:Int) then ((impl_IsValue.f (rd l1 (ji36))).bind fun t420=>(if t420=true then (impl_MemOk.l0 k3 l1 t413 (wrap64 (x49_3+1))) else (some false))) else (none)) else (none))=some r:=by first|(rw[hji36] at H;exact H)|(simp only[hji36] at H ⊢;exact H)
              (try rw[hji36] at A34)
              have hji36w:(IntKind.i64.wrap ((ji31)+1))=ji36:=(i64_w _).trans hji36
              by_cases c37:0≤(ji36)
              ·rw[if_pos c37] at H
               have c37b0:decide (0≤(ji36))=true:=Zo c37
               clear c37
               by_cases c38:(ji36)<(l1.length:Int)
               ·rw[if_pos c38] at H
                have c38b0:decide ((ji36)<(l1.length:Int))=true:=Zo c38
                clear c38
                replace H:=Zg H
                obtain⟨t420,A390,H⟩:=H
                replace H:(if t420=true then (impl_MemOk.l0 k3 l1 t413 (wrap64 (x49_3+1))) else (some false))=some r:=H
                have A39:=Za A390
                clear A390
                by_cases c40:t420=true
                ·subst c40
                 rw[if_pos rfl] at H
                 have H':=Za H
                 clear H
                 have p417:0≤((ji31):Int):=Zq z5_0
                 have q417:(ji31)<(l1.length:Int):=Zq z5_0
                 obtain⟨ad417,e417,hx417_0⟩:=Kd.at_int HR1.out (ji31) p417 q417
                 obtain rfl:ad411=ad417:=(by injection e417)
                 replace hx417_0:=(HB.out.cell (Yo w _ hx417_0)).trans hx417_0
                 replace p417:=eq_true p417
                 replace q417:=eq_true q417
                 go_wp2_with (first|((first|((with_reducible refine gate_callee (f:=42) rfl ?_);refine goesL_ (some 58) rfl rfl Tryz.func42 (by kernel_rfl) rfl #[.int .i64 (rd l1 (ji31))] rfl z5_6 ?_;(with_reducible refine(impl_isVar.calls (rd l1 (ji31)) true _ A34.out).mono ?_))|(go_at_call 42;(with_reducible refine(impl_isVar.calls (rd l1 (ji31)) true _ A34.out).mono ?_)));rintro e w' ⟨rfl,⟨nd,rfl⟩⟩;(first|refine⟨_,rfl,?_⟩|skip);have p419:0≤((ji36):Int):=Zq z5_0;have q419:(ji36)<(l1.length:Int):=Zq z5_0;obtain⟨ad419,e419,hx419_0⟩:=Kd.at_int HR1.out (ji36) p419 q419;obtain rfl:ad411=ad419:=(by injection e419);replace hx419_0:=(HB.out.cell (Yo w _ hx419_0)).trans hx419_0;replace p419:=eq_true p419;replace q419:=eq_true q419)|(go_at_call 52;(with_reducible refine(impl_IsValue.calls (rd l1 (ji36)) true _ A39.out).mono ?_);rintro e w' ⟨rfl,⟨nd,rfl⟩⟩))
                 go_roundg k3
                 case measure=>have:=HJ2.out;have:=HJ19.out;have:=HK3.out;omega
                 case rel=>exact⟨(wrap64 (x49_3+1)),z5_3,H',⟨by have:=HJ2.out;have:=HJ19.out;have:=HK3.out;omega⟩,⟨by(with_reducible repeat(first|refine blk_drewN ?_ _|refine blk_drew ?_|refine blk_alloc ?_ _));exact BK407.out⟩,⟨by repeat(first|(with_reducible first|exact HB.out|apply Zh|apply Zf|apply Ze|refine Zd ?_ GE407.out)|exact HB.out)⟩⟩
                ·replace c40:=Bool.eq_false_iff.mpr c40
                 subst c40
                 rw[if_neg (show ¬(false=true) by decide)] at H
                 obtain rfl:=Zn H
                 have p417:0≤((ji31):Int):=Zq z5_0
                 have q417:(ji31)<(l1.length:Int):=Zq z5_0
                 obtain⟨ad417,e417,hx417_0⟩:=Kd.at_int HR1.out (ji31) p417 q417
                 obtain rfl:ad411=ad417:=(by injection e417)
                 replace hx417_0:=(HB.out.cell (Yo w _ hx417_0)).trans hx417_0
                 replace p417:=eq_true p417
                 replace q417:=eq_true q417
                 go_wp2_with (first|((first|((with_reducible refine gate_callee (f:=42) rfl ?_);refine goesL_ (some 58) rfl rfl Tryz.func42 (by kernel_rfl) rfl #[.int .i64 (rd l1 (ji31))] rfl z5_6 ?_;(with_reducible refine(impl_isVar.calls (rd l1 (ji31)) true _ A34.out).mono ?_))|(go_at_call 42;(with_reducible refine(impl_isVar.calls (rd l1 (ji31)) true _ A34.out).mono ?_)));rintro e w' ⟨rfl,⟨nd,rfl⟩⟩;(first|refine⟨_,rfl,?_⟩|skip);have p419:0≤((ji36):Int):=Zq z5_0;have q419:(ji36)<(l1.length:Int):=Zq z5_0;obtain⟨ad419,e419,hx419_0⟩:=Kd.at_int HR1.out (ji36) p419 q419;obtain rfl:ad411=ad419:=(by injection e419);replace hx419_0:=(HB.out.cell (Yo w _ hx419_0)).trans hx419_0;replace p419:=eq_true p419;replace q419:=eq_true q419)|(go_at_call 52;(with_reducible refine(impl_IsValue.calls (rd l1 (ji36)) false _ A39.out).mono ?_);rintro e w' ⟨rfl,⟨nd,rfl⟩⟩))
                 go_ret
                 exact⟨by first|rfl|(simp[errW_none,errW_some]<;>rfl)|(simp only[←hji31,←hji36];first|rfl|(simp[errW_none,errW_some]<;>rfl))|(simp[*,errW_none,errW_some]<;>rfl)|(simp[*,errW_none,errW_some,i64_w];done),by repeat(first|(with_reducible first|exact HB.out|apply Zh|apply Zf|apply Ze|refine Zd ?_ GE407.out)|exact HB.out)⟩
               ·rw[if_neg c38] at H
                exact absurd H (by simp)
              ·rw[if_neg c37] at H
               exact absurd H (by simp)
             ·replace c35:=Bool.eq_false_iff.mpr c35
              subst c35
              rw[if_neg (show ¬(false=true) by decide)] at H
              obtain rfl:=Zn H
              have p417:0≤((ji31):Int):=Zq z5_0
              have q417:(ji31)<(l1.length:Int):=Zq z5_0
              obtain⟨ad417,e417,hx417_0⟩:=Kd.at_int HR1.out (ji31) p417 q417
              obtain rfl:ad411=ad417:=(by injection e417)
              replace hx417_0:=(HB.out.cell (Yo w _ hx417_0)).trans hx417_0
              replace p417:=eq_true p417
              replace q417:=eq_true q417
              go_wp2_with (first|((first|((with_reducible refine gate_callee (f:=42) rfl ?_);refine goesL_ (some 58) rfl rfl Tryz.func42 (by kernel_rfl) rfl #[.int .i64 (rd l1 (ji31))] rfl z5_6 ?_;(with_reducible refine(impl_isVar.calls (rd l1 (ji31)) false _ A34.out).mono ?_))|(go_at_call 42;(with_reducible refine(impl_isVar.calls (rd l1 (ji31)) false _ A34.out).mono ?_)));rintro e w' ⟨rfl,⟨nd,rfl⟩⟩;(first|refine⟨_,rfl,?_⟩|skip)))
              go_ret
              exact⟨by first|rfl|(simp[errW_none,errW_some]<;>rfl)|(simp only[←hji31];first|rfl|(simp[errW_none,errW_some]<;>rfl))|(simp[*,errW_none,errW_some]<;>rfl)|(simp[*,errW_none,errW_some,i64_w];done),by repeat(first|(with_reducible first|exact HB.out|apply Zh|apply Zf|apply Ze|refine Zd ?_ GE407.out)|exact HB.out)⟩
            ·rw[if_neg c33] at H
             exact absurd H (by simp)
           ·rw[if_neg c32] at H
            exact absurd H (by simp)
          ·rw[if_neg c30] at H
           have c30b0:decide (x49_3<t413)=false:=Yg c30
           clear c30
           obtain rfl:=Zn H
           go_wp2
           go_ret
           exact⟨by first|rfl|(simp[errW_none,errW_some]<;>rfl)|(simp[*,errW_none,errW_some]<;>rfl)|(simp[*,errW_none,errW_some,i64_w];done),by repeat(first|(with_reducible first|exact HB.out|apply Zh|apply Zf|apply Ze|refine Zd ?_ GE407.out)|exact HB.out)⟩
    ·rw[if_neg c18] at H
     exact absurd H (by simp)
def impl_isReading.f (l0:List Int) (a1:Int):Option (Bool):=(impl_within.f a1 0 1000000).bind fun t421=>(if t421=true then ((impl_areValues.f l0).bind fun t422=>(some t422)) else (some false))
set_option maxHeartbeats 8000000 in
set_option maxRecDepth 100000 in
theorem impl_isReading.calls (A0:Option Addr) (c0:Nat) (l0:List Int) (a1:Int) (r:Bool) (w:World) (hr0:Kd.C (Kd.int .i64) w A0 l0.length l0) (hc0:l0.length≤c0) (h:impl_isReading.f l0 a1=some r):
  Calls Tryz.prog 36 #[.slice A0 l0.length c0,.int .i64 a1] w fun e w'=>e= .returned (.bool r)∧Drawn0 w w':=by
 have HR0:=Za hr0
 have HC0:=Za hc0
 clear hr0 hc0
 have H:((impl_within.f a1 0 1000000).bind fun t421=>(if t421=true then ((impl_areValues.f l0).bind fun t422=>(some t422)) else (some false)))=some r:=h
 clear h
 replace H:=Zg H
 obtain⟨t421,A30,H⟩:=H
 replace H:(if t421=true then ((impl_areValues.f l0).bind fun t422=>(some t422)) else (some false))=some r:=H
 have A3:=Za A30
 clear A30
 by_cases c4:t421=true
 ·subst c4
  rw[if_pos rfl] at H
  replace H:=Zg H
  obtain⟨t422,A50,H⟩:=H
  replace H:(some t422)=some r:=H
  have A5:=Za A50
  clear A50
  obtain rfl:=Zn H
  go_enter Tryz.func36,Tryz.ntmps36
  go_wp2_with (first|((first|((with_reducible refine gate_callee (f:=41) rfl ?_);refine goesL_ (some 6) rfl rfl Tryz.func41 (by kernel_rfl) rfl #[.int .i64 a1,.int .i64 0,.int .i64 1000000] rfl z5_1 ?_;(with_reducible refine(impl_within.calls a1 0 1000000 true _ A3.out).mono ?_))|(go_at_call 41;(with_reducible refine(impl_within.calls a1 0 1000000 true _ A3.out).mono ?_)));rintro e w' ⟨rfl,⟨nd,rfl⟩⟩;(first|refine⟨_,rfl,?_⟩|skip))|(go_at_call 51;(with_reducible refine(impl_areValues.calls _ _ l0 t422 _ ?side1 ?side2 A5.out).mono ?_);(case side1=>exact z5_8);(case side2=>exact HC0.out);rintro e w' ⟨rfl,⟨nd,rfl⟩⟩))
  go_ret
  exact⟨by first|rfl|(simp;done)|(simp[*];done),by repeat(first|exact Zv _|apply Zw)⟩
 ·replace c4:=Bool.eq_false_iff.mpr c4
  subst c4
  rw[if_neg (show ¬(false=true) by decide)] at H
  obtain rfl:=Zn H
  go_enter Tryz.func36,Tryz.ntmps36
  go_wp2_with (first|((first|((with_reducible refine gate_callee (f:=41) rfl ?_);refine goesL_ (some 6) rfl rfl Tryz.func41 (by kernel_rfl) rfl #[.int .i64 a1,.int .i64 0,.int .i64 1000000] rfl z5_1 ?_;(with_reducible refine(impl_within.calls a1 0 1000000 false _ A3.out).mono ?_))|(go_at_call 41;(with_reducible refine(impl_within.calls a1 0 1000000 false _ A3.out).mono ?_)));rintro e w' ⟨rfl,⟨nd,rfl⟩⟩;(first|refine⟨_,rfl,?_⟩|skip)))
  go_ret
  exact⟨by first|rfl|(simp;done)|(simp[*];done),by repeat(first|exact Zv _|apply Zw)⟩
def slices_Clone_int_int.f (l0:List Int):Option (List Int):=if l0.length<17592186044416 then some l0 else none
set_option maxHeartbeats 8000000 in
set_option maxRecDepth 100000 in
theorem slices_Clone_int_int.calls (A0:Option Addr) (c0:Nat) (l0:List Int) (r:List Int) (w:World) (hr0:Kd.C (Kd.int .i64) w A0 l0.length l0) (hc0:l0.length≤c0) (h:slices_Clone_int_int.f l0=some r):
  Calls Tryz.prog 39 #[.slice A0 l0.length c0] w fun e w'=>∃v0_:Value,e= .returned (v0_)∧Kd.R (Kd.int .i64) 3 w' w.heap.size (fun _=>True) v0_ r∧Below w.heap.size w w':=by
 have HR0:=Za hr0
 have HC0:=Za hc0
 have HB:=Za (Yb w.heap.size w)
 unfold slices_Clone_int_int.f at h
 by_cases hl:l0.length<17592186044416
 ·rw[if_pos hl] at h
  obtain rfl:=Zn h
  clear h
  obtain⟨y0,hy0⟩:∃y_:List Int,y_=([]:List Int):=⟨_,rfl⟩
  obtain⟨y1,hy1⟩:∃y_:List Int,y_=y0++l0:=⟨_,rfl⟩
  have hl2:y0.length+l0.length<17592186044416:=by
   rw[hy0]
   simpa using hl
  have e1:y1=l0:=by rw[hy1,hy0,List.nil_append]
  have LM:=Za hl2
  have N0:=Za hy0
  have N1:=Za hy1
  have E1:=Za e1
  clear hl2 hy0 hy1 e1
  cases A0 with
  |none=>
   have l0e:l0=[]:=by
    cases l0 with
    |nil=>rfl
    |cons x t=>
     obtain⟨ad,e,_⟩:=hr0.2.2 (by simp)
     cases e
   subst l0e
   have he:∀w:World,(binOp .eql 27 (.slice none 0 c0) (.slice none 0 0)).run Tryz.prog w= .ok (.bool true) w:=fun _=>rfl
   go_enter Tryz.func39,Tryz.ntmps39
   go_wp2
   go_ret
   exact⟨_,rfl,Kd.R_nil _ _ _ _ _,HB.out⟩
  |some a0=>
   have he:∀w:World,(binOp .eql 27 (.slice (some a0) l0.length c0) (.slice none 0 0)).run Tryz.prog w= .ok (.bool false) w:=fun _=>rfl
   go_enter Tryz.func39,Tryz.ntmps39
   go_wp2_with (first|((with_reducible refine Zr (N:=5) rfl ?_);refine Kd.R_lit (Kd.int .i64) _ 3 ?hg (N:=5) ?hd (xs:=([]:List Int)) (inner:=[]) (ok:=fun _=>True) (okp:=fun _=>True) ?hr ?hp (fun _ hk=>hk) trivial (Yb _ _) (Nat.le_refl _) (by simp) ?_;(case hd=>rfl);(case hg=>rfl);(case hr=>exact z5_4);(case hp=>exact(Reps.none _ _));intro v196 w5 ho6 hb hg_ hnew_;clear hg_ hnew_;rw[←N0.out] at ho6;have HO197:=Za ho6;have n1_:=Za (Zk HB.out hb);clear HB;have HB:=n1_;clear n1_;clear hb ho6)|((with_reducible refine gate_builtin (b:= .append) (xs:= #[.tmp 5,.tmp 6]) rfl ?_);at_builtin;refine Kd.R_append_rows (Kd.int .i64) (w0:=w) w.heap.size rfl (.tmp 5) (.tmp 6) 27 3 (.int .i64 0) 8 rfl Tryz.underlying27 info3 rfl (by decide) (by omega) v196 y0 l0 _ _ _ (fun _=>True) (fun _=>False) rfl rfl ?aO ?aR (fun _ _ h=>h) (fun _ h=>h.elim) ?aF ?aB ?aS ?aL ?_;(case aR=>repeat(first|exact(Yh HR0.out HB.out)|(with_reducible refine Yk ?_ _)|(with_reducible refine Yi ?_ _)|(with_reducible refine Yl ?_)));(case aB=>exact z5_2);(case aF=>exact(fun _ _=>trivial));(case aO=>exact(by(with_reducible repeat(first|apply Zm|apply Zl|apply Zj));exact HO197.out));(case aS=>exact(Yf z5_2));(case aL=>have:=LM.out;omega);intro v199 w7 ho hb hg hat;rw[←N1.out] at ho;replace HB:=Za (hb);have HO200:=Za (ho);clear ho hb hg hat))
   go_ret
   exact⟨_,rfl,by rw[←E1.out];repeat(first|exact HO200.out|apply Zm|apply Zl|apply Zj),by repeat(first|(with_reducible first|exact HB.out|apply Zh|apply Zf|apply Ze)|exact HB.out)⟩
 ·rw[if_neg hl] at h
  exact absurd h (by simp)
def impl_MemVars.f (l0:List Int):Option (List Int):=if (l0.length:Int)=49 then (if 8≤(l0.length:Int) then ((slices_Clone_int_int.f (l0.take 8)).bind fun t424=>(some t424)) else (none)) else (some ([]:List Int))
set_option maxHeartbeats 8000000 in
set_option maxRecDepth 100000 in
theorem impl_MemVars.calls (A0:Option Addr) (c0:Nat) (l0:List Int) (r:List Int) (w:World) (hr0:Kd.C (Kd.int .i64) w A0 l0.length l0) (hc0:l0.length≤c0) (h:impl_MemVars.f l0=some r):
  Calls Tryz.prog 30 #[.slice A0 l0.length c0] w fun e w'=>∃v0_:Value,e= .returned (v0_)∧Kd.R (Kd.int .i64) 3 w' w.heap.size (fun _=>True) v0_ r∧Below w.heap.size w w':=by
 have HR0:=Za hr0
 have HC0:=Za hc0
 clear hr0 hc0
 have HB:=Za (Yb w.heap.size w)
 have H:(if (l0.length:Int)=49 then (if 8≤(l0.length:Int) then ((slices_Clone_int_int.f (l0.take 8)).bind fun t424=>(some t424)) else (none)) else (some ([]:List Int)))=some r:=h
 clear h
 by_cases c2:(l0.length:Int)=49
 ·rw[if_pos c2] at H
  have c2b0:((l0.length:Int)==49)=true:=beq_iff_eq.mpr c2
  have c2b1:((l0.length:Int) != 49)=false:=bne_eq_false_iff_eq.mpr c2
  clear c2
  by_cases c3:8≤(l0.length:Int)
  ·rw[if_pos c3] at H
   have c3b0:=eq_true c3
   have c3b1:decide (8≤(l0.length:Int))=true:=Zo c3
   clear c3
   replace H:=Zg H
   obtain⟨t424,A40,H⟩:=H
   replace H:(some t424)=some r:=H
   have A4:=Za A40
   clear A40
   obtain rfl:=Zn H
   obtain⟨i05,hi05,_,hsz5,_⟩:=info_parts info3
   obtain⟨hcut5,hA5,hC5⟩:=print_take_of (P:=Tryz.prog) (Value.int .i64) 0 27 3 .i64 Tryz.underlying27 hi05 hsz5 A0 c0 l0 8 (by omega) (Zq z5_0) HC0.out
   have HR423:=Za (Kd.C_of_reads (h1:=fun _=>rfl) (hA5 _ (Kd.reads_of_C HR0.out)))
   have HC423:=Za hC5
   clear hA5 hC5 hi05 hsz5
   go_enter Tryz.func30,Tryz.ntmps30
   go_wp2_with (first|((first|((with_reducible refine gate_callee (f:=39) rfl ?_);refine goesL_ (some 8) rfl rfl Tryz.func39 (by kernel_rfl) rfl #[.slice A0 (l0.take 8).length c0] rfl (by(try simp only[Yt,List.map_cons,List.map_nil]);first|done|(rw[show(l0.take 8).length=8 from (by rw[List.length_take];have h_:(8:Int)≤(l0.length:Int):=Zq z5_0;omega)]<;>rfl)|rfl|(simp only[List.length_drop,List.length_take];rfl)) ?_;(with_reducible refine(slices_Clone_int_int.calls _ _ (l0.take 8) t424 _ ?side1 ?side2 A4.out).mono ?_))|(go_at_call 39;(try simp only[←List.length_take,←List.length_drop]);(first|(with_reducible refine(slices_Clone_int_int.calls _ _ (l0.take 8) t424 _ ?side1 ?side2 A4.out).mono ?_)|(refine calls_len1 ?ln_ ((slices_Clone_int_int.calls _ _ (l0.take 8) t424 _ ?side1 ?side2 A4.out).mono ?_);(case ln_=>simp only[List.length_drop,List.length_take];first|omega)))));(case side1=>repeat(first|exact HR423.out|(with_reducible refine Yk ?_ _)|(with_reducible refine Yi ?_ _)|(with_reducible refine Yl ?_)));(case side2=>exact HC423.out);rintro e w6 ⟨v425,rfl,ho0,hb⟩;(first|refine⟨_,rfl,?_⟩|skip);have HO426:=Za (Yr ho0 (Yf z5_2));replace HB:=Za (Zk z5_2 hb);(try clear hb);(try clear hb2);(try clear hk);(try clear hi);(try clear ho0)))
   go_ret
   exact⟨_,by first|rfl|(simp[errW_none,errW_some]<;>rfl)|(simp[*,errW_none,errW_some]<;>rfl)|(simp[*,errW_none,errW_some,i64_w];done),by(with_reducible repeat(first|apply Zm|apply Zl|apply Zj));exact HO426.out,by repeat(first|(with_reducible first|exact HB.out|apply Zh|apply Zf|apply Ze)|exact HB.out)⟩
  ·rw[if_neg c3] at H
   exact absurd H (by simp)
 ·rw[if_neg c2] at H
  have c2b0:((l0.length:Int)==49)=false:=beq_eq_false_iff_ne.mpr c2
  have c2b1:((l0.length:Int) != 49)=true:=bne_iff_ne.mpr c2
  obtain rfl:=Zn H
  go_enter Tryz.func30,Tryz.ntmps30
  go_wp2
  go_ret
  exact⟨_,by first|rfl|(simp[errW_none,errW_some]<;>rfl)|(simp[*,errW_none,errW_some]<;>rfl)|(simp[*,errW_none,errW_some,i64_w];done),by first|exact Kd.R_nil _ _ _ _ _|exact Kd.N_nil _ _ _ _ _|exact Kd.V_nil _ _ _ _ _|exact Kd.Q_nil _ _ _ _ _|exact Kd.S_nil _ _ _ _ _,by repeat(first|(with_reducible first|exact HB.out|apply Zh|apply Zf|apply Ze)|exact HB.out)⟩
-- NOT PRINTED: function 46 (slices_DeleteFunc_int_int)
-- NOT PRINTED: function 110 (slices_Sort_int_int)
-- NOT PRINTED: function 111 (slices_Compact_int_int)
theorem put6_far {w:World} {g k:Nat} (h:k≠g) (v0 v1 v2 v3 v4 v5:Value):(Sep.put6 w g v0 v1 v2 v3 v4 v5).heap[k]? =w.heap[k]? :=by
 unfold Sep.put6
 rw[Below.heap_setCell _ _ _ k h,Below.heap_setCell _ _ _ k h,Below.heap_setCell _ _ _ k h,Below.heap_setCell _ _ _ k h,Below.heap_setCell _ _ _ k h,Below.heap_setCell _ _ _ k h]
def writes (x:S93):Bool:=decide (x.f0=1)||x.f0==2
theorem writes_eq (x:S93):impl_hasVar.f x.f0=some (writes x):=by
 unfold impl_hasVar.f writes
 by_cases h:x.f0=1<;>simp[h]
def writtenL (q:Int→Bool):List S93→Int→List Int
 |[],_=>[]
 |x::r,i=>if writes x=true∧q i=true then x.f1::writtenL q r (i+1) else writtenL q r (i+1)
theorem drop_S77 {l:List S93} {i:Int} (h0:0≤i) (h:i<(l.length:Int)):l.drop i.toNat=rd_T93 l i::l.drop (i+1).toNat:=by
 have h1:i.toNat<l.length:=by omega
 have h2:(i+1).toNat=i.toNat+1:=by omega
 unfold rd_T93
 rw[h2,List.drop_eq_getElem_cons h1,List.getD_eq_getElem?_getD,List.getElem?_eq_getElem h1]
 rfl
set_option maxHeartbeats 8000000 in
set_option maxRecDepth 100000 in
theorem impl_written.calls (q:Int→Bool) (g:Nat) (cb:Array Value) (eg:∀args w,(callFunc g args).run Tryz.prog w= .ok (.enter g args) w) (A0:Option Addr) (c0:Nat) (l0:List S93) (w:World) (hr0:Kd.C k93 w A0 l0.length l0) (hc0:l0.length≤c0) (hl:l0.length<17592186044415)
  (hq:∀(i:Int) (w':World),0≤i→i<(l0.length:Int)→Below w.heap.size w w'→Calls Tryz.prog g (#[.int .i64 i]++cb) w' fun e w''=>e= .returned (.bool (q i))∧Drawn0 w' w''):
  Calls Tryz.prog 79 #[.slice A0 l0.length c0,.func (.func g) #[] cb] w fun e w'=>∃v0_:Value,e= .returned (v0_)∧Kd.R (Kd.int .i64) 3 w' w.heap.size (fun _=>True) v0_ (setOf (writtenL q l0 0))∧Below w.heap.size w w':=by
 have HR0:=Za hr0
 have HC0:=Za hc0
 have HL:=Za hl
 have HQ:=Za hq
 clear hr0 hc0 hl hq
 go_enter Tryz.func79,Tryz.ntmps79
 go_wp2_with (first|((with_reducible refine Zr (N:=8) rfl ?_);refine Kd.R_lit (Kd.int .i64) _ 3 ?hg (N:=8) ?hd (xs:=([]:List Int)) (inner:=[]) (ok:=fun _=>True) (okp:=fun _=>True) ?hr ?hp (fun _ hk=>hk) trivial (Yb _ _) (Nat.le_refl _) (by simp) ?_;(case hd=>rfl);(case hg=>rfl);(case hr=>exact z5_4);(case hp=>exact(Reps.none _ _));intro v6 w1 ho hb hg hat;have R1:=Za ho;have HB1:=Za hb;clear ho hb hg hat)|fail)
 go_loopw [5,11] (fun v5 v11 w'=>∃(x:Int) (xs:List Int),v11= .int .i64 x∧Aside0 (0≤x)∧Aside0 (x≤(l0.length:Int))∧Aside0 (xs++writtenL q (l0.drop x.toNat) x=writtenL q l0 0)∧Aside0 ((xs.length:Int)≤x)∧Aside0 (Sep.rowI 3 w' v5 xs)∧Aside0 (∀k,v5.ownBlock=some k→w.heap.size≤k)∧Aside0 (Below w.heap.size w w')) (fun _ v11 _=>l0.length - (intOf v11).toNat)
 case atStart=>exact⟨0,[],rfl,⟨by omega⟩,⟨by omega⟩,⟨rfl⟩,⟨by simp⟩,⟨Sep.rowI.of_R R1.out⟩,⟨fun k hk=>Ye R1.out k hk⟩,HB1⟩
 case round=>
  clear R1 HB1
  obtain⟨x,xs,rfl,Hx0,Hx1,HX,LX,RO,VO,HB⟩:=hrel
  obtain⟨A3,c3,e3,lc3,kc3⟩:=RO.out.open_
  subst e3
  have LC3:=Za lc3
  have KC3:=Za kc3
  clear lc3 kc3
  by_cases hlt:x<(l0.length:Int)
  ·have c1:decide (x<(l0.length:Int))=true:=Zo hlt
   obtain⟨ad,e,hx0,hx1,hx2,hx3,hx4,hx5⟩:=at_T93 (Yh HR0.out HB.out) x Hx0.out hlt
   cases e
   have HXT:=Za (show xs++writtenL q (rd_T93 l0 x::l0.drop (x+1).toNat) x=writtenL q l0 0 by rw[←drop_S77 Hx0.out hlt];exact HX.out)
   clear HX
   obtain⟨y,hy⟩:∃y,rd_T93 l0 x=y:=⟨_,rfl⟩
   rw[hy] at hx0 hx1 hx2 hx3 hx4 hx5 HXT
   have HV0:=writes_eq y
   obtain⟨x0,x1,x2,x3,x4,x5⟩:=y
   simp only at hx0 hx1 hx2 hx3 hx4 hx5 HV0
   have HXU:=HXT.out
   rw[writtenL] at HXU
   have Hlt:=Za hlt
   have p1:=eq_true Hx0.out
   have q1:=eq_true hlt
   have hsum:wrap64 (x+1)=x+1:=by have:=HL.out;have:=Hx0.out;unfold wrap64;omega
   have Hs:=Za hsum
   clear hsum hlt hy HXT
   generalize writes ⟨x0,x1,x2,⟨x3,x4,x5⟩⟩=bw at HV0 HXU
   have HV:=Za HV0
   cases bw with
   |false=>
    have HXV:=Za (show xs++writtenL q (l0.drop (x+1).toNat) (x+1)=writtenL q l0 0 by rw[if_neg (by simp)] at HXU;exact HXU)
    clear HV0 HXU
    go_wp2_with (first|((with_reducible refine Zr (N:=7) rfl ?_);refine Zy ?hg (N:=7) ?hd (cs:= #[.int .i64 0,.int .i64 0,.int .i64 0,.int .i64 0,.int .i64 0,.int .i64 0]) (t:=93) ?hr ?_;(case hd=>rfl);(case hg=>rfl);(case hr=>exact z5_4);intro g7 hg7 w2 hp hb;have B2:=Za hp;have HB2:=Za (Zk HB.out hb);have RO2:=Za (RO.out.below hb);have G7:Aside0 (w.heap.size≤g7):=⟨by rw[hg7];exact HB.out.size⟩;clear hg7 hp hb;obtain⟨⟨_,_,_,_,_,_⟩,⟨_,_,_,_,_,_⟩⟩:=Sep.blk6 B2.out)|((with_reducible refine Yq (t:=93) (p:=7) rfl ?_);refine Yp (t:=93) (p:=7) (v:= ?vo1_) (w1:=Sep.put6 w2 g7 (.int .i64 x0) (.int .i64 x1) (.int .i64 x2) (.int .i64 x3) (.int .i64 x4) (.int .i64 x5)) ?hg ?ho ?hn ?hr ?_;(case ho=>rfl);(case hg=>rfl);(case hn=>rfl);(case hr=>exact z5_4);intro w3 hw;have B3:Aside0 (w3.heap[g7]? =some (.cells #[.int .i64 x0,.int .i64 x1,.int .i64 x2,.int .i64 x3,.int .i64 x4,.int .i64 x5] 93 (0,0))):=⟨by rw[hw];exact Sep.put6_blk B2.out _ _ _ _ _ _⟩;have HB3:Aside0 (Below w.heap.size w w3):=⟨by rw[hw];exact Sep.put6_below HB2.out G7.out _ _ _ _ _ _⟩;have NG:Aside0 (∀k,(Value.slice A3 xs.length c3).ownBlock=some k→k≠g7):=⟨fun k hk=>RO2.out.ne B2.out (by decide) k hk⟩;have RO3:Aside0 (Sep.rowI 3 w3 (.slice A3 xs.length c3) xs):=⟨RO2.out.keep (fun k hk=>by rw[hw];exact put6_far (NG.out k hk) _ _ _ _ _ _)⟩;clear hw;have hd0:w3.cell? ⟨g7,0,none⟩=some (.int .i64 x0):=(Zb B3.out 0).trans rfl;have hd1:w3.cell? ⟨g7,1,none⟩=some (.int .i64 x1):=(Zb B3.out 1).trans rfl)|(go_at_call 109;(with_reducible refine(impl_hasVar.calls x0 false _ HV.out).mono ?_);rintro e w' ⟨rfl,⟨nd,rfl⟩⟩)|fail)
    go_roundw
    case rel=>exact⟨x+1,xs,by rw[Hs.out],⟨by have:=Hx0.out;omega⟩,⟨by have:=Hlt.out;omega⟩,HXV,⟨by have:=LX.out;omega⟩,⟨Zl RO3.out _⟩,VO,⟨by repeat(first|exact HB3.out|apply Zf|apply Ze)⟩⟩
    case measure=>
     have:=Hlt.out
     have:=Hx0.out
     simp only[intOf,Hs.out]
     omega
   |true=>
    obtain⟨bq,hbq⟩:∃bq,q x=bq:=⟨_,rfl⟩
    rw[hbq] at HXU
    have HBQ:=Za hbq
    clear hbq HV0
    go_wp2_with (first|((with_reducible refine Zr (N:=7) rfl ?_);refine Zy ?hg (N:=7) ?hd (cs:= #[.int .i64 0,.int .i64 0,.int .i64 0,.int .i64 0,.int .i64 0,.int .i64 0]) (t:=93) ?hr ?_;(case hd=>rfl);(case hg=>rfl);(case hr=>exact z5_4);intro g7 hg7 w2 hp hb;have B2:=Za hp;have HB2:=Za (Zk HB.out hb);have RO2:=Za (RO.out.below hb);have G7:Aside0 (w.heap.size≤g7):=⟨by rw[hg7];exact HB.out.size⟩;clear hg7 hp hb;obtain⟨⟨_,_,_,_,_,_⟩,⟨_,_,_,_,_,_⟩⟩:=Sep.blk6 B2.out)|((with_reducible refine Yq (t:=93) (p:=7) rfl ?_);refine Yp (t:=93) (p:=7) (v:= ?vo1_) (w1:=Sep.put6 w2 g7 (.int .i64 x0) (.int .i64 x1) (.int .i64 x2) (.int .i64 x3) (.int .i64 x4) (.int .i64 x5)) ?hg ?ho ?hn ?hr ?_;(case ho=>rfl);(case hg=>rfl);(case hn=>rfl);(case hr=>exact z5_4);intro w3 hw;have B3:Aside0 (w3.heap[g7]? =some (.cells #[.int .i64 x0,.int .i64 x1,.int .i64 x2,.int .i64 x3,.int .i64 x4,.int .i64 x5] 93 (0,0))):=⟨by rw[hw];exact Sep.put6_blk B2.out _ _ _ _ _ _⟩;have HB3:Aside0 (Below w.heap.size w w3):=⟨by rw[hw];exact Sep.put6_below HB2.out G7.out _ _ _ _ _ _⟩;have NG:Aside0 (∀k,(Value.slice A3 xs.length c3).ownBlock=some k→k≠g7):=⟨fun k hk=>RO2.out.ne B2.out (by decide) k hk⟩;have RO3:Aside0 (Sep.rowI 3 w3 (.slice A3 xs.length c3) xs):=⟨RO2.out.keep (fun k hk=>by rw[hw];exact put6_far (NG.out k hk) _ _ _ _ _ _)⟩;clear hw;have hd0:w3.cell? ⟨g7,0,none⟩=some (.int .i64 x0):=(Zb B3.out 0).trans rfl;have hd1:w3.cell? ⟨g7,1,none⟩=some (.int .i64 x1):=(Zb B3.out 1).trans rfl)|(go_at_call 109;(with_reducible refine(impl_hasVar.calls x0 true _ HV.out).mono ?_);rintro e w' ⟨rfl,⟨nd,rfl⟩⟩)|fail)
    refine(HQ.out x _ Hx0.out Hlt.out (by repeat(first|exact HB3.out|apply Zf|apply Ze))).mono ?_
    rintro e w' ⟨rfl,⟨nd2,rfl⟩⟩
    rw[HBQ.out]
    cases bq with
    |false=>
     have HXV:=Za (show xs++writtenL q (l0.drop (x+1).toNat) (x+1)=writtenL q l0 0 by rw[if_neg (by simp)] at HXU;exact HXU)
     clear HXU
     go_wp2
     go_roundw
     case rel=>exact⟨x+1,xs,by rw[Hs.out],⟨by have:=Hx0.out;omega⟩,⟨by have:=Hlt.out;omega⟩,HXV,⟨by have:=LX.out;omega⟩,⟨RO3.out.below (by repeat(first|exact Yb _ _|apply Zf|apply Ze))⟩,VO,⟨by repeat(first|exact HB3.out|apply Zf|apply Ze)⟩⟩
     case measure=>
      have:=Hlt.out
      have:=Hx0.out
      simp only[intOf,Hs.out]
      omega
    |true=>
     have HXV:=Za (show(xs++[x1])++writtenL q (l0.drop (x+1).toNat) (x+1)=writtenL q l0 0 by rw[if_pos (by simp)] at HXU;rw[List.append_assoc];exact HXU)
     clear HXU
     go_wp2_with (first|((with_reducible refine gate_builtin (b:= .append) (xs:= #[.tmp 24,.tmp 27]) rfl ?_);at_builtin;refine Kd.R_append (Kd.int .i64) (w0:=w) w.heap.size rfl (.tmp 24) (.tmp 27) 27 3 (.int .i64 0) 8 rfl Tryz.underlying27 info3 rfl (by decide) (by omega) (.slice A3 xs.length c3) xs x1 [.int .i64 x1] (fun _=>True) (fun _=>False) rfl rfl ?aP (fun _ hk=>hk.elim) ?aF ?aO ?aB ?aS ?aL ?_;(case aP=>exact rfl);(case aB=>exact(by repeat(first|exact HB3.out|apply Zf|apply Ze)));(case aF=>exact(fun _ _=>trivial));(case aO=>exact(by repeat(first|exact(RO3.out.to_R (fun k hk=>VO.out k hk) (fun _ _=>trivial))|apply Zl|apply Zj)));(case aS=>exact HB3.out.size);(case aL=>have:=HL.out;have:=LX.out;have:=Hlt.out;omega);intro v17 w4 ho hb hg hat;have V4:Aside0 (∀k,v17.ownBlock=some k→w.heap.size≤k):=⟨fun k hk=>Ye ho k hk⟩;have R4:=Za (Sep.rowI.of_R ho);have HB4:=Za hb;clear ho hb hg hat)|fail)
     go_roundw
     case rel=>exact⟨x+1,xs++[x1],by rw[Hs.out],⟨by have:=Hx0.out;omega⟩,⟨by have:=Hlt.out;omega⟩,HXV,⟨by have:=LX.out;rw[List.length_append,List.length_singleton];omega⟩,R4,V4,HB4⟩
     case measure=>
      have:=Hlt.out
      have:=Hx0.out
      simp only[intOf,Hs.out]
      omega
  ·have c1:decide (x<(l0.length:Int))=false:=Yg hlt
   have ex:=HX.out
   rw[List.drop_eq_nil_of_le (by have:=Hx0.out;omega),writtenL,List.append_nil] at ex
   have EX:=Za ex
   have LS:Aside0 (xs.length<4611686018427387904):=⟨by have:=HL.out;have:=LX.out;have:=Hx1.out;omega⟩
   clear ex hlt HX
   go_wp2_with (first|(go_at_call 110;(with_reducible refine(sort_calls (.slice A3 xs.length c3) xs _ RO.out LS.out).mono ?_);rintro e w5 ⟨rfl,hr5,hg5⟩;have R5:=Za hr5;have HB5:=Za (below_grown HB.out hg5 VO.out);clear hr5 hg5)|(go_at_call 111;(with_reducible refine(compact_calls (.slice A3 xs.length c3) _ _ R5.out).mono ?_);rintro e w6 ⟨v',rfl,hr6,he6,hg6⟩;have R6:=Za hr6;have E6:=Za he6;have HB6:=Za (below_grown HB5.out hg6 VO.out);clear hr6 he6 hg6)|fail)
   go_ret
   refine⟨_,rfl,?_,HB6.out⟩
   rw[←EX.out]
   exact R6.out.to_R (fun k hk=>VO.out k (E6.out ▸ hk)) (fun _ _=>trivial)
set_option maxRecDepth 100000 in
theorem mayWrite_clo (i:Int) (w:World):Calls Tryz.prog 80 (#[.int .i64 i]++ #[]) w fun e w'=>e= .returned (.bool true)∧Drawn0 w w':=by
 go_enter Tryz.func80,Tryz.ntmps80
 go_wp2
 go_ret
 exact⟨rfl,Zv _⟩
def impl_MayWrite.f (k:Nat) (l0:List S93):Option (List Int):=(impl_BlockOk.f k l0).bind fun b=>if b=true then (if l0.length<17592186044415 then some (setOf (writtenL (fun _=>true) l0 0)) else none) else some []
theorem impl_MayWrite.mono:∀a0 k,LeO (impl_MayWrite.f k a0) (impl_MayWrite.f (k+1) a0):=by
 intro a0 k
 unfold impl_MayWrite.f
 exact Zx (impl_BlockOk.mono _ k) (fun _=>Yj _)
set_option maxHeartbeats 8000000 in
set_option maxRecDepth 100000 in
theorem impl_MayWrite.calls (k:Nat) (A0:Option Addr) (c0:Nat) (l0:List S93) (r:List Int) (w:World) (hr0:Kd.C k93 w A0 l0.length l0) (hc0:l0.length≤c0) (h:impl_MayWrite.f k l0=some r):
  Calls Tryz.prog 47 #[.slice A0 l0.length c0] w fun e w'=>∃v0_:Value,e= .returned (v0_)∧Kd.R (Kd.int .i64) 3 w' w.heap.size (fun _=>True) v0_ r∧Below w.heap.size w w':=by
 unfold impl_MayWrite.f at h
 obtain⟨b,hb,h⟩:=Zg h
 have HR0:=Za hr0
 have HC0:=Za hc0
 have TB:=Za hb
 clear hr0 hc0 hb
 cases b with
 |false=>
  rw[if_neg (by decide)] at h
  cases h
  go_enter Tryz.func47,Tryz.ntmps47
  go_wp2_with (first|(go_at_call 78;(with_reducible refine(impl_BlockOk.calls k _ _ l0 false _ HR0.out HC0.out TB.out).mono ?_);rintro e w1 ⟨rfl,hb1⟩;have HB1:=Za hb1;clear hb1)|fail)
  go_ret
  exact⟨_,rfl,Kd.R_nil _ _ _ _ _,HB1.out⟩
 |true=>
  rw[if_pos rfl] at h
  by_cases hl:l0.length<17592186044415
  ·rw[if_pos hl] at h
   have HL:=Za hl
   clear hl
   cases h
   go_enter Tryz.func47,Tryz.ntmps47
   go_wp2_with (first|(go_at_call 78;(with_reducible refine(impl_BlockOk.calls k _ _ l0 true _ HR0.out HC0.out TB.out).mono ?_);rintro e w1 ⟨rfl,hb1⟩;have HB1:=Za hb1;clear hb1)|(go_at_call 79;(with_reducible refine(impl_written.calls (fun _=>true) 80 #[] (fun args w=>enters_ Tryz.func80 (by kernel_rfl) (by kernel_rfl) args w) _ _ l0 _ (Yh HR0.out HB1.out) HC0.out HL.out (fun i w' _ _ _=>mayWrite_clo i w')).mono ?_);rintro e w2 ⟨v2,rfl,ho,hb⟩;have R2:=Za (Sep.rowI.of_R ho);have B2:Aside0 (∀k,v2.ownBlock=some k→w.heap.size≤k):=⟨fun k hk=>Nat.le_trans HB1.out.size (Ye ho k hk)⟩;have HB2:=Za (Zk HB1.out hb);clear ho hb)|fail)
   go_ret
   exact⟨_,rfl,R2.out.to_R (fun k hk=>B2.out k hk) (fun _ _=>trivial),HB2.out⟩
  ·rw[if_neg hl] at h
   cases h
def slices_Index_int_int.l0:Nat→List Int→Int→Int→Int→Option (Int)
 |0,_,_,_,_=>none
 |k+1,x0,x1,x7,x8=>if x8<x7 then (if 0≤x8 then (if x8<(x0.length:Int) then (if x1=(rd x0 x8) then (some x8) else (slices_Index_int_int.l0 k x0 x1 x7 (wrap64 (x8+1)))) else (none)) else (none)) else (some (-1))
def slices_Index_int_int.f (k:Nat) (l0:List Int) (a1:Int):Option (Int):=slices_Index_int_int.l0 k l0 a1 (l0.length:Int) 0
set_option maxHeartbeats 8000000 in
set_option maxRecDepth 100000 in
theorem slices_Index_int_int.calls (k:Nat) (A0:Option Addr) (c0:Nat) (l0:List Int) (a1:Int) (r:Int) (w:World) (hr0:Kd.C (Kd.int .i64) w A0 l0.length l0) (hc0:l0.length≤c0) (h:slices_Index_int_int.f k l0 a1=some r):
  Calls Tryz.prog 112 #[.slice A0 l0.length c0,.int .i64 a1] w fun e w'=>e= .returned (.int .i64 r)∧Drawn0 w w':=by
 have HR0:=Za hr0
 have HC0:=Za hc0
 clear hr0 hc0
 have H:(slices_Index_int_int.l0 k l0 a1 (l0.length:Int) 0)=some r:=h
 clear h
 have H':=Za H
 clear H
 go_enter Tryz.func112,Tryz.ntmps112
 go_wp2
 go_loopg [8] k (fun kq v8 w'=>∃(x8_1:Int),v8= .int .i64 x8_1∧Aside0 (slices_Index_int_int.l0 kq l0 a1 (l0.length:Int) x8_1=some r)∧Aside0 (kq≤k)∧Drawn0 w w')
 case atStart=>exact⟨(0),z5_3,H',⟨Nat.le_refl _⟩,by repeat(first|exact Zv _|apply Zw)⟩
 case round=>
  clear H'
  obtain⟨x8_1,rfl,HA,HK1,⟨m1,rfl⟩⟩:=hrel
  cases gk with
  |zero=>exact absurd HA.out (by simp[slices_Index_int_int.l0])
  |succ k1=>
   have H:=HA.out
   clear HA
   simp only[slices_Index_int_int.l0] at H
   by_cases c3:x8_1<(l0.length:Int)
   ·rw[if_pos c3] at H
    have c3b0:decide (x8_1<(l0.length:Int))=true:=Zo c3
    clear c3
    by_cases c4:0≤x8_1
    ·rw[if_pos c4] at H
     have c4b0:decide (0≤x8_1)=true:=Zo c4
     clear c4
     by_cases c5:x8_1<(l0.length:Int)
     ·rw[if_pos c5] at H
      have c5b0:decide (x8_1<(l0.length:Int))=true:=Zo c5
      clear c5
      by_cases c6:a1=(rd l0 x8_1)
      ·rw[if_pos c6] at H
       have c6b0:(a1==(rd l0 x8_1))=true:=beq_iff_eq.mpr c6
       have c6b1:(a1 != (rd l0 x8_1))=false:=bne_eq_false_iff_eq.mpr c6
       clear c6
       obtain rfl:=Zn H
       have p441:0≤(x8_1:Int):=Zq z5_0
       have q441:x8_1<(l0.length:Int):=Zq z5_0
       obtain⟨ad441,e441,hx441_0⟩:=Kd.at_int HR0.out x8_1 p441 q441
       cases e441
       replace p441:=eq_true p441
       replace q441:=eq_true q441
       go_wp2
       go_ret
       exact⟨by first|rfl|(simp;done)|(simp[*];done),by repeat(first|exact Zv _|apply Zw)⟩
      ·rw[if_neg c6] at H
       have c6b0:(a1==(rd l0 x8_1))=false:=beq_eq_false_iff_ne.mpr c6
       have c6b1:(a1 != (rd l0 x8_1))=true:=bne_iff_ne.mpr c6
       have H':=Za H
       clear H
       have p441:0≤(x8_1:Int):=Zq z5_0
       have q441:x8_1<(l0.length:Int):=Zq z5_0
       obtain⟨ad441,e441,hx441_0⟩:=Kd.at_int HR0.out x8_1 p441 q441
       cases e441
       replace p441:=eq_true p441
       replace q441:=eq_true q441
       go_wp2
       go_roundg k1
       case measure=>have:=HK1.out;omega
       case rel=>exact⟨(wrap64 (x8_1+1)),z5_3,H',⟨by have:=HK1.out;omega⟩,by repeat(first|exact Zv _|apply Zw)⟩
     ·rw[if_neg c5] at H
      exact absurd H (by simp)
    ·rw[if_neg c4] at H
     exact absurd H (by simp)
   ·rw[if_neg c3] at H
    have c3b0:decide (x8_1<(l0.length:Int))=false:=Yg c3
    clear c3
    obtain rfl:=Zn H
    go_wp2
    go_ret
    exact⟨by first|rfl|(simp;done)|(simp[*];done),by repeat(first|exact Zv _|apply Zw)⟩
def slices_Contains_int_int.f (k:Nat) (l0:List Int) (a1:Int):Option (Bool):=(slices_Index_int_int.f k l0 a1).bind fun t442=>(some (decide (t442≥0)))
set_option maxHeartbeats 8000000 in
set_option maxRecDepth 100000 in
theorem slices_Contains_int_int.calls (k:Nat) (A0:Option Addr) (c0:Nat) (l0:List Int) (a1:Int) (r:Bool) (w:World) (hr0:Kd.C (Kd.int .i64) w A0 l0.length l0) (hc0:l0.length≤c0) (h:slices_Contains_int_int.f k l0 a1=some r):
  Calls Tryz.prog 81 #[.slice A0 l0.length c0,.int .i64 a1] w fun e w'=>e= .returned (.bool r)∧Drawn0 w w':=by
 have HR0:=Za hr0
 have HC0:=Za hc0
 clear hr0 hc0
 have H:((slices_Index_int_int.f k l0 a1).bind fun t442=>(some (decide (t442≥0))))=some r:=h
 clear h
 replace H:=Zg H
 obtain⟨t442,A30,H⟩:=H
 replace H:(some (decide (t442≥0)))=some r:=H
 have A3:=Za A30
 clear A30
 obtain rfl:=Zn H
 go_enter Tryz.func81,Tryz.ntmps81
 go_wp2_with (first|((first|((with_reducible refine gate_callee (f:=112) rfl ?_);refine goesL_ (some 7) rfl rfl Tryz.func112 (by kernel_rfl) rfl #[.slice A0 l0.length c0,.int .i64 a1] rfl z5_1 ?_;(with_reducible refine(slices_Index_int_int.calls k _ _ l0 a1 t442 _ ?side1 ?side2 A3.out).mono ?_))|(go_at_call 112;(with_reducible refine(slices_Index_int_int.calls k _ _ l0 a1 t442 _ ?side1 ?side2 A3.out).mono ?_)));(case side1=>exact z5_8);(case side2=>exact HC0.out);rintro e w' ⟨rfl,⟨nd,rfl⟩⟩;(first|refine⟨_,rfl,?_⟩|skip)))
 go_ret
 exact⟨by first|rfl|(simp;done)|(simp[*];done),by repeat(first|exact Zv _|apply Zw)⟩
def impl_HasVar.f (k:Nat) (l0:List Int) (a1:Int):Option (Bool):=(slices_Contains_int_int.f k l0 a1).bind fun t443=>(some t443)
set_option maxHeartbeats 8000000 in
set_option maxRecDepth 100000 in
theorem impl_HasVar.calls (k:Nat) (A0:Option Addr) (c0:Nat) (l0:List Int) (a1:Int) (r:Bool) (w:World) (hr0:Kd.C (Kd.int .i64) w A0 l0.length l0) (hc0:l0.length≤c0) (h:impl_HasVar.f k l0 a1=some r):
  Calls Tryz.prog 49 #[.slice A0 l0.length c0,.int .i64 a1] w fun e w'=>e= .returned (.bool r)∧Drawn0 w w':=by
 have HR0:=Za hr0
 have HC0:=Za hc0
 clear hr0 hc0
 have H:((slices_Contains_int_int.f k l0 a1).bind fun t443=>(some t443))=some r:=h
 clear h
 replace H:=Zg H
 obtain⟨t443,A30,H⟩:=H
 replace H:(some t443)=some r:=H
 have A3:=Za A30
 clear A30
 obtain rfl:=Zn H
 go_enter Tryz.func49,Tryz.ntmps49
 go_wp2_with (first|((first|((with_reducible refine gate_callee (f:=81) rfl ?_);refine goesL_ (some 7) rfl rfl Tryz.func81 (by kernel_rfl) rfl #[.slice A0 l0.length c0,.int .i64 a1] rfl z5_1 ?_;(with_reducible refine(slices_Contains_int_int.calls k _ _ l0 a1 t443 _ ?side1 ?side2 A3.out).mono ?_))|(go_at_call 81;(with_reducible refine(slices_Contains_int_int.calls k _ _ l0 a1 t443 _ ?side1 ?side2 A3.out).mono ?_)));(case side1=>exact z5_8);(case side2=>exact HC0.out);rintro e w' ⟨rfl,⟨nd,rfl⟩⟩;(first|refine⟨_,rfl,?_⟩|skip)))
 go_ret
 exact⟨by first|rfl|(simp;done)|(simp[*];done),by repeat(first|exact Zv _|apply Zw)⟩
/-! ### impl_endOf: function 95 -/
mutual
def impl_endOf.l0:Nat→List (S93)→Int→Int→Option (Int)
 |0,_,_,_=>none
 |k+1,x0,x5,x6=>if x6<(x0.length:Int) then (if 0≤x6 then ((impl_isOpening.f ((rd_T93 x0 x6).f0)).bind fun t445=>(if t445=true then (impl_endOf.j1 k x0 (wrap64 (x5+1)) x6) else (impl_endOf.j1 k x0 x5 x6))) else (none)) else (some (-1))
def impl_endOf.j1:Nat→List (S93)→Int→Int→Option (Int)
 |0,_,_,_=>none
 |k+1,x0,x5,x6=>if 0≤x6 then (if x6<(x0.length:Int) then (if ((rd_T93 x0 x6).f0)=6 then (if (wrap64 (x5 - 1))=0 then (some x6) else (impl_endOf.l0 k x0 (wrap64 (x5 - 1)) (wrap64 (x6+1)))) else (if x5=0 then (some x6) else (impl_endOf.l0 k x0 x5 (wrap64 (x6+1))))) else (none)) else (none)
end
def impl_endOf.f (k:Nat) (l0:List (S93)) (a1:Int):Option (Int):=impl_endOf.l0 k l0 0 a1
theorem impl_endOf.mono_l:∀k,(∀y0 y1 y2,LeO (impl_endOf.l0 k y0 y1 y2) (impl_endOf.l0 (k+1) y0 y1 y2))∧(∀y0 y1 y2,LeO (impl_endOf.j1 k y0 y1 y2) (impl_endOf.j1 (k+1) y0 y1 y2))
 |0=>⟨fun _ _ _ r h=>by simp[impl_endOf.l0] at h,fun _ _ _ r h=>by simp[impl_endOf.j1] at h⟩
 |k+1=>by
  obtain⟨ih0,ih1⟩:=impl_endOf.mono_l k
  refine⟨?_,?_⟩
  ·intro y0 y1 y2
   unfold impl_endOf.l0
   repeat' first
   |(with_reducible exact ih0 _ _ _)
   |(with_reducible exact ih1 _ _ _)
   |(with_reducible exact Yj _)
   |(with_reducible exact Ya _)
   |(with_reducible refine Zz ?_ ?_)
   |(with_reducible refine Zx ?_ (fun _=> ?_))
   |exact ih0 _ _ _
   |exact ih1 _ _ _
   |exact Ya _
   |refine Zz ?_ ?_
   |refine Zx ?_ (fun _=> ?_)
  ·intro y0 y1 y2
   unfold impl_endOf.j1
   repeat' first
   |(with_reducible exact ih0 _ _ _)
   |(with_reducible exact ih1 _ _ _)
   |(with_reducible exact Yj _)
   |(with_reducible exact Ya _)
   |(with_reducible refine Zz ?_ ?_)
   |(with_reducible refine Zx ?_ (fun _=> ?_))
   |exact ih0 _ _ _
   |exact ih1 _ _ _
   |exact Ya _
   |refine Zz ?_ ?_
   |refine Zx ?_ (fun _=> ?_)
theorem impl_endOf.mono:∀a0 a1 k,LeO (impl_endOf.f k a0 a1) (impl_endOf.f (k+1) a0 a1):=by
 intro a0 a1 k
 obtain⟨ih0,ih1⟩:=impl_endOf.mono_l k
 unfold impl_endOf.f
 repeat' first
   |(with_reducible exact ih0 _ _ _)
   |(with_reducible exact ih1 _ _ _)
   |(with_reducible exact Yj _)
   |(with_reducible exact Ya _)
   |(with_reducible refine Zz ?_ ?_)
   |(with_reducible refine Zx ?_ (fun _=> ?_))
   |exact ih0 _ _ _
   |exact ih1 _ _ _
   |exact Ya _
   |refine Zz ?_ ?_
   |refine Zx ?_ (fun _=> ?_)
set_option maxHeartbeats 8000000 in
set_option maxRecDepth 100000 in
theorem impl_endOf.calls (k:Nat) (A0:Option Addr) (c0:Nat) (l0:List (S93)) (a1:Int) (r:Int) (w:World) (hr0:Kd.C k93 w A0 l0.length l0) (hc0:l0.length≤c0) (h:impl_endOf.f k l0 a1=some r):
  Calls Tryz.prog 95 #[.slice A0 l0.length c0,.int .i64 a1] w fun e w'=>e= .returned (.int .i64 r)∧Drawn0 w w':=by
 have HR0:=Za hr0
 have HC0:=Za hc0
 clear hr0 hc0
 have H:(impl_endOf.l0 k l0 0 a1)=some r:=h
 clear h
 have H':=Za H
 clear H
 go_enter Tryz.func95,Tryz.ntmps95
 go_wp2
 go_loopg [5,6] k (fun kq v5 v6 w'=>∃(x5_1:Int) (x6_1:Int),v5= .int .i64 x5_1∧v6= .int .i64 x6_1∧Aside0 (impl_endOf.l0 kq l0 x5_1 x6_1=some r)∧Aside0 (kq≤k)∧Drawn0 w w')
 case atStart=>exact⟨(0),(a1),z5_3,z5_3,H',⟨Nat.le_refl _⟩,by repeat(first|exact Zv _|apply Zw)⟩
 case round=>
  clear H'
  obtain⟨x5_1,x6_1,rfl,rfl,HA,HK1,⟨m1,rfl⟩⟩:=hrel
  cases gk with
  |zero=>exact absurd HA.out (by simp[impl_endOf.l0])
  |succ k1=>
   have H:=HA.out
   clear HA
   simp only[impl_endOf.l0] at H
   by_cases c3:x6_1<(l0.length:Int)
   ·rw[if_pos c3] at H
    have c3b0:decide (x6_1<(l0.length:Int))=true:=Zo c3
    clear c3
    by_cases c4:0≤x6_1
    ·rw[if_pos c4] at H
     have c4b0:decide (0≤x6_1)=true:=Zo c4
     clear c4
     replace H:=Zg H
     obtain⟨t445,A50,H⟩:=H
     replace H:(if t445=true then (impl_endOf.j1 k1 l0 (wrap64 (x5_1+1)) x6_1) else (impl_endOf.j1 k1 l0 x5_1 x6_1))=some r:=H
     have A5:=Za A50
     clear A50
     have HC6:=Za H
     clear H
     have p444:0≤(x6_1:Int):=Zq z5_0
     have q444:x6_1<(l0.length:Int):=Zq z5_0
     obtain⟨ad444,e444,hx444_0,hx444_1,hx444_2,hx444_3,hx444_4,hx444_5⟩:=at_T93 HR0.out x6_1 p444 q444
     cases e444
     replace p444:=eq_true p444
     replace q444:=eq_true q444
     go_upto_if 19 with(first|((first|((with_reducible refine gate_callee (f:=94) rfl ?_);refine goesL_ (some 19) rfl rfl Tryz.func94 (by kernel_rfl) rfl #[.int .i64 ((rd_T93 l0 x6_1).f0)] rfl z5_1 ?_;(with_reducible refine(impl_isOpening.calls ((rd_T93 l0 x6_1).f0) t445 _ A5.out).mono ?_))|(go_at_call 94;(with_reducible refine(impl_isOpening.calls ((rd_T93 l0 x6_1).f0) t445 _ A5.out).mono ?_)));rintro e w' ⟨rfl,⟨nd,rfl⟩⟩;(first|refine⟨_,rfl,?_⟩|skip)))
     (try simp only[Act.put,Zs,Zt,Zu])
     go_cut [5] (fun v5 wc=>∃(kq:Nat) (x5_5:Int),v5= .int .i64 x5_5∧Aside0 (impl_endOf.j1 kq l0 x5_5 x6_1=some r)∧Aside0 (kq≤k1)∧Drawn0 w wc)
     case first=>
      have H:=HC6.out
      clear HC6
      by_cases c7:t445=true
      ·subst c7
       rw[if_pos rfl] at H
       have H':=Za H
       clear H
       go_wp2
       go_meet
       case rel=>exact⟨_,(wrap64 (x5_1+1)),z5_3,H',⟨by have:=HK1.out;first|omega|exact Nat.le_refl _⟩,by repeat(first|exact Zv _|apply Zw)⟩
      ·replace c7:=Bool.eq_false_iff.mpr c7
       subst c7
       rw[if_neg (show ¬(false=true) by decide)] at H
       have H':=Za H
       clear H
       go_wp2
       go_meet
       case rel=>exact⟨_,(x5_1),z5_3,H',⟨by have:=HK1.out;first|omega|exact Nat.le_refl _⟩,by repeat(first|exact Zv _|apply Zw)⟩
     case rest=>
      clear HC6
      (try clear c3);(try clear c3b0);(try clear c4);(try clear c4b0);(try clear hx444_0);(try clear hx444_1);(try clear hx444_2);(try clear hx444_3);(try clear hx444_4);(try clear hx444_5);(try clear p444);(try clear q444)
      obtain⟨kq,x5_5,rfl,HA,HJ5,⟨mc5,rfl⟩⟩:=hcut
      cases kq with
      |zero=>exact absurd HA.out (by simp[impl_endOf.j1])
      |succ kj5=>
       have H:=HA.out
       clear HA
       simp only[impl_endOf.j1] at H
       by_cases c8:0≤x6_1
       ·rw[if_pos c8] at H
        have c8b0:decide (0≤x6_1)=true:=Zo c8
        clear c8
        by_cases c9:x6_1<(l0.length:Int)
        ·rw[if_pos c9] at H
         have c9b0:decide (x6_1<(l0.length:Int))=true:=Zo c9
         clear c9
         by_cases c10:((rd_T93 l0 x6_1).f0)=6
         ·rw[if_pos c10] at H
          have c10b0:(((rd_T93 l0 x6_1).f0)==6)=true:=beq_iff_eq.mpr c10
          have c10b1:(((rd_T93 l0 x6_1).f0) != 6)=false:=bne_eq_false_iff_eq.mpr c10
          clear c10
          by_cases c11:(wrap64 (x5_5 - 1))=0
          ·rw[if_pos c11] at H
           have c11b0:((wrap64 (x5_5 - 1))==0)=true:=beq_iff_eq.mpr c11
           have c11b1:((wrap64 (x5_5 - 1)) != 0)=false:=bne_eq_false_iff_eq.mpr c11
           clear c11
           obtain rfl:=Zn H
           have p446:0≤(x6_1:Int):=Zq z5_0
           have q446:x6_1<(l0.length:Int):=Zq z5_0
           obtain⟨ad446,e446,hx446_0,hx446_1,hx446_2,hx446_3,hx446_4,hx446_5⟩:=at_T93 HR0.out x6_1 p446 q446
           obtain rfl:ad444=ad446:=(by injection e446)
           replace p446:=eq_true p446
           replace q446:=eq_true q446
           go_wp2
           go_ret
           exact⟨by first|rfl|(simp;done)|(simp[*];done),by repeat(first|exact Zv _|apply Zw)⟩
          ·rw[if_neg c11] at H
           have c11b0:((wrap64 (x5_5 - 1))==0)=false:=beq_eq_false_iff_ne.mpr c11
           have c11b1:((wrap64 (x5_5 - 1)) != 0)=true:=bne_iff_ne.mpr c11
           have H':=Za H
           clear H
           have p446:0≤(x6_1:Int):=Zq z5_0
           have q446:x6_1<(l0.length:Int):=Zq z5_0
           obtain⟨ad446,e446,hx446_0,hx446_1,hx446_2,hx446_3,hx446_4,hx446_5⟩:=at_T93 HR0.out x6_1 p446 q446
           obtain rfl:ad444=ad446:=(by injection e446)
           replace p446:=eq_true p446
           replace q446:=eq_true q446
           go_wp2
           go_roundg kj5
           case measure=>have:=HK1.out;have:=HJ5.out;omega
           case rel=>exact⟨(wrap64 (x5_5 - 1)),(wrap64 (x6_1+1)),z5_3,z5_3,H',⟨by have:=HK1.out;have:=HJ5.out;omega⟩,by repeat(first|exact Zv _|apply Zw)⟩
         ·rw[if_neg c10] at H
          have c10b0:(((rd_T93 l0 x6_1).f0)==6)=false:=beq_eq_false_iff_ne.mpr c10
          have c10b1:(((rd_T93 l0 x6_1).f0) != 6)=true:=bne_iff_ne.mpr c10
          by_cases c12:x5_5=0
          ·rw[if_pos c12] at H
           have c12b0:(x5_5==0)=true:=beq_iff_eq.mpr c12
           have c12b1:(x5_5 != 0)=false:=bne_eq_false_iff_eq.mpr c12
           clear c12
           obtain rfl:=Zn H
           have p446:0≤(x6_1:Int):=Zq z5_0
           have q446:x6_1<(l0.length:Int):=Zq z5_0
           obtain⟨ad446,e446,hx446_0,hx446_1,hx446_2,hx446_3,hx446_4,hx446_5⟩:=at_T93 HR0.out x6_1 p446 q446
           obtain rfl:ad444=ad446:=(by injection e446)
           replace p446:=eq_true p446
           replace q446:=eq_true q446
           go_wp2
           go_ret
           exact⟨by first|rfl|(simp;done)|(simp[*];done),by repeat(first|exact Zv _|apply Zw)⟩
          ·rw[if_neg c12] at H
           have c12b0:(x5_5==0)=false:=beq_eq_false_iff_ne.mpr c12
           have c12b1:(x5_5 != 0)=true:=bne_iff_ne.mpr c12
           have H':=Za H
           clear H
           have p446:0≤(x6_1:Int):=Zq z5_0
           have q446:x6_1<(l0.length:Int):=Zq z5_0
           obtain⟨ad446,e446,hx446_0,hx446_1,hx446_2,hx446_3,hx446_4,hx446_5⟩:=at_T93 HR0.out x6_1 p446 q446
           obtain rfl:ad444=ad446:=(by injection e446)
           replace p446:=eq_true p446
           replace q446:=eq_true q446
           go_wp2
           go_roundg kj5
           case measure=>have:=HK1.out;have:=HJ5.out;omega
           case rel=>exact⟨(x5_5),(wrap64 (x6_1+1)),z5_3,z5_3,H',⟨by have:=HK1.out;have:=HJ5.out;omega⟩,by repeat(first|exact Zv _|apply Zw)⟩
        ·rw[if_neg c9] at H
         exact absurd H (by simp)
       ·rw[if_neg c8] at H
        exact absurd H (by simp)
    ·rw[if_neg c4] at H
     exact absurd H (by simp)
   ·rw[if_neg c3] at H
    have c3b0:decide (x6_1<(l0.length:Int))=false:=Yg c3
    clear c3
    obtain rfl:=Zn H
    go_wp2
    go_ret
    exact⟨by first|rfl|(simp;done)|(simp[*];done),by repeat(first|exact Zv _|apply Zw)⟩
def readsL:List Int→List Int
 |[]=>[]
 |n::r=>if n<0 then wrap64 (-1 - n)::readsL r else readsL r
theorem drop_int {l:List Int} {i:Int} (h0:0≤i) (h:i<(l.length:Int)):l.drop i.toNat=rd l i::l.drop (i+1).toNat:=by
 have h1:i.toNat<l.length:=by omega
 have h2:(i+1).toNat=i.toNat+1:=by omega
 unfold rd
 rw[h2,List.drop_eq_getElem_cons h1,List.getD_eq_getElem?_getD,List.getElem?_eq_getElem h1]
 rfl
def impl_ReadsOf.f (a0 a1 a2:Int):Option (List Int):=(impl_ExprOk.f a0 a1 a2).bind fun b=>if b=true then some (setOf (readsL [a1,a2])) else some []
set_option maxHeartbeats 8000000 in
set_option maxRecDepth 100000 in
theorem impl_ReadsOf.calls (a0 a1 a2:Int) (r:List Int) (w:World) (h:impl_ReadsOf.f a0 a1 a2=some r):
  Calls Tryz.prog 125 #[.agg #[.int .i64 a0,.int .i64 a1,.int .i64 a2]] w fun e w'=>∃v0_:Value,e= .returned (v0_)∧Kd.R (Kd.int .i64) 3 w' w.heap.size (fun _=>True) v0_ r∧Below w.heap.size w w':=by
 unfold impl_ReadsOf.f at h
 obtain⟨b,hb,h⟩:=Zg h
 have TB:=Za hb
 clear hb
 cases b with
 |false=>
  rw[if_neg (by decide)] at h
  cases h
  go_enter Tryz.func125,Tryz.ntmps125
  go_wp2_with (first|((with_reducible refine Zr (N:=1) rfl ?_);refine Zy ?hg (N:=1) ?hd (cs:= #[.int .i64 a0,.int .i64 a1,.int .i64 a2]) (t:=72) ?hr ?_;(case hd=>rfl);(case hg=>rfl);(case hr=>exact z5_4);intro g1 hg1 w1 hp hb;have B1:=Za hp;have HB1:=Za hb;clear hg1 hp hb;obtain⟨⟨_,_,_⟩,⟨_,_,_⟩⟩:=Sep.blk3 B1.out)|(go_at_call 99;(with_reducible refine(impl_ExprOk.calls a0 a1 a2 false _ TB.out).mono ?_);rintro e w2 ⟨rfl,hb2⟩;have B2:=Za (Zi B1.out hb2);have HB2:=Za (Zk HB1.out hb2);clear hb2;obtain⟨⟨_,_,_⟩,⟨_,_,_⟩⟩:=Sep.blk3 B2.out)|fail)
  go_ret
  exact⟨_,rfl,Kd.R_nil _ _ _ _ _,HB2.out⟩
 |true=>
  rw[if_pos rfl] at h
  cases h
  go_enter Tryz.func125,Tryz.ntmps125
  go_wp2_with (first|((with_reducible refine Zr (N:=1) rfl ?_);refine Zy ?hg (N:=1) ?hd (cs:= #[.int .i64 a0,.int .i64 a1,.int .i64 a2]) (t:=72) ?hr ?_;(case hd=>rfl);(case hg=>rfl);(case hr=>exact z5_4);intro g1 hg1 w1 hp hb;have B1:=Za hp;have HB1:=Za hb;clear hg1 hp hb;obtain⟨⟨_,_,_⟩,⟨_,_,_⟩⟩:=Sep.blk3 B1.out)|(go_at_call 99;(with_reducible refine(impl_ExprOk.calls a0 a1 a2 true _ TB.out).mono ?_);rintro e w2 ⟨rfl,hb2⟩;have B2:=Za (Zi B1.out hb2);have HB2:=Za (Zk HB1.out hb2);clear hb2;obtain⟨⟨_,_,_⟩,⟨_,_,_⟩⟩:=Sep.blk3 B2.out)|((with_reducible refine Zr (N:=9) rfl ?_);refine Kd.R_lit (Kd.int .i64) _ 3 ?hg (N:=9) ?hd (xs:=([]:List Int)) (inner:=[]) (ok:=fun _=>True) (okp:=fun _=>True) ?hr ?hp (fun _ hk=>hk) trivial (Yb _ _) (Nat.le_refl _) (by simp) ?_;(case hd=>rfl);(case hg=>rfl);(case hr=>exact z5_4);(case hp=>exact(Reps.none _ _));intro v9 w3 ho hb hg hat;have R3:=Za (Sep.rowI.of_R ho);have V3:Aside0 (∀k,v9.ownBlock=some k→w.heap.size≤k):=⟨fun k hk=>Nat.le_trans HB2.out.size (Ye ho k hk)⟩;have B3:=Za (Zi B2.out hb);have HB3:=Za (Zk HB2.out hb);clear ho hb hg hat;obtain⟨⟨_,_,_⟩,⟨_,_,_⟩⟩:=Sep.blk3 B3.out)|((with_reducible refine Zr (N:=14) rfl ?_);refine Kd.R_lit (Kd.int .i64) _ 3 ?hg (N:=14) ?hd (xs:=([a1,a2]:List Int)) (inner:=[.int .i64 a1,.int .i64 a2]) (ok:=fun _=>True) (okp:=fun _=>True) ?hr ?hp (fun _ hk=>hk) trivial (Yb _ _) (Nat.le_refl _) (by simp) ?_;(case hd=>rfl);(case hg=>rfl);(case hr=>exact z5_4);(case hp=>exact(Reps.one (show Kd.M (Kd.int .i64) _ _ _ a1 [.int .i64 a1] from rfl) (Reps.one (show Kd.M (Kd.int .i64) _ _ _ a2 [.int .i64 a2] from rfl) (Reps.none _ _))));intro v14 w4 ho hb hg hat;have R4:=Za (R3.out.below hb);have HB4:=Za (Zk HB3.out hb);have AP4:Aside0 (∀k,v9.ownBlock=some k→v14.ownBlock=some k→False):=⟨fun k h1 h2=>by have:=R3.out.lt k h1;have:=Ye ho k h2;omega⟩;have RZ4:=Za (Sep.rowI.of_R ho);obtain⟨AZ,cz,ez,-,-⟩:=RZ4.out.open_;subst ez;clear ho hb hg hat)|fail)
  go_loopw [3,16] (fun v3 v16 w'=>∃(x:Int) (xs:List Int),v16= .int .i64 x∧Aside0 (0≤x)∧Aside0 (x≤2)∧Aside0 (xs++readsL ([a1,a2].drop x.toNat)=readsL [a1,a2])∧Aside0 ((xs.length:Int)≤x)∧Aside0 (Sep.rowI 3 w' v3 xs)∧Aside0 (∀k,v3.ownBlock=some k→w.heap.size≤k)∧Aside0 (Sep.rowI 3 w' (.slice AZ [a1,a2].length cz) [a1,a2])∧Aside0 (∀k,v3.ownBlock=some k→(Value.slice AZ [a1,a2].length cz).ownBlock=some k→False)∧Aside0 (Below w.heap.size w w')) (fun _ v16 _=>2 - (intOf v16).toNat)
  case atStart=>exact⟨0,[],rfl,⟨by omega⟩,⟨by omega⟩,⟨rfl⟩,⟨by simp⟩,R4,V3,RZ4,AP4,HB4⟩
  case round=>
   clear R4 V3 RZ4 AP4 HB4 R3 B3 HB3 B2 HB2 B1 HB1
   obtain⟨x,xs,rfl,Hx0,Hx1,HX,LX,RO,VO,RZ,AP,HB⟩:=hrel
   obtain⟨A3,c3,e3,-,-⟩:=RO.out.open_
   subst e3
   by_cases hlt:x<2
   ·have c1:decide (x<2)=true:=Zo hlt
    have hl2:x<(([a1,a2]:List Int).length:Int):=by simpa using hlt
    obtain⟨gz,e,-,hcz,hfz,-⟩:=RZ.out.at_ x Hx0.out hl2
    subst e
    have hs:=drop_int (l:=[a1,a2]) Hx0.out hl2
    have HXT:=HX.out
    rw[hs,readsL] at HXT
    have p1:=eq_true Hx0.out
    have q1:(x<2)=True:=eq_true hlt
    have q2:=eq_true hl2
    have hsum:wrap64 (x+1)=x+1:=by have:=Hx0.out;unfold wrap64;omega
    have Hs:=Za hsum
    have Hlt:=Za hlt
    clear hsum hlt hl2 hs
    by_cases hn:rd [a1,a2] x<0
    ·have n1:decide (rd [a1,a2] x<0)=true:=Zo hn
     have n2:(rd [a1,a2] x<0)=True:=eq_true hn
     have HXV:=Za (show(xs++[wrap64 (-1 - rd [a1,a2] x)])++readsL ([a1,a2].drop (x+1).toNat)=readsL [a1,a2] by rw[if_pos hn] at HXT;rw[List.append_assoc];exact HXT)
     clear HXT hn
     go_wp2_with (first|((with_reducible refine gate_builtin (b:= .append) (xs:= #[.tmp 22,.tmp 25]) rfl ?_);at_builtin;refine Kd.R_append (Kd.int .i64) (w0:=w) w.heap.size rfl (.tmp 22) (.tmp 25) 27 3 (.int .i64 0) 8 rfl Tryz.underlying27 info3 rfl (by decide) (by omega) (.slice A3 xs.length c3) xs (wrap64 (-1 - rd [a1,a2] x)) [.int .i64 (wrap64 (-1 - rd [a1,a2] x))] (fun _=>True) (fun _=>False) rfl rfl ?aP (fun _ hk=>hk.elim) ?aF ?aO ?aB ?aS ?aL ?_;(case aP=>exact rfl);(case aB=>exact HB.out);(case aF=>exact(fun _ _=>trivial));(case aO=>exact(RO.out.to_R (fun k hk=>VO.out k hk) (fun _ _=>trivial)));(case aS=>exact HB.out.size);(case aL=>have:=LX.out;have:=Hlt.out;omega);intro v17 w5 ho hb hg hat;have V5:Aside0 (∀k,v17.ownBlock=some k→w.heap.size≤k):=⟨fun k hk=>Ye ho k hk⟩;have R5:=Za (Sep.rowI.of_R ho);have HB5:=Za hb;have RZ5:=Za (RZ.out.grown hg (fun k hk he=>AP.out k he hk));have AP5:Aside0 (∀k,v17.ownBlock=some k→(Value.slice (some ⟨gz,0,none⟩) [a1,a2].length cz).ownBlock=some k→False):=⟨fun k h1 h2=>hat.elim (fun e=>AP.out k (e ▸ h1) h2) (fun ⟨b,e,hb⟩=>by rw[h1] at e;cases e;have:=RZ.out.lt k h2;omega)⟩;clear ho hb hg hat)|fail)
     go_roundw
     case rel=>exact⟨x+1,xs++[wrap64 (-1 - rd [a1,a2] x)],by rw[Hs.out],⟨by have:=Hx0.out;omega⟩,⟨by have:=Hlt.out;omega⟩,HXV,⟨by have:=LX.out;rw[List.length_append,List.length_singleton];omega⟩,R5,V5,RZ5,AP5,HB5⟩
     case measure=>
      have:=Hlt.out
      have:=Hx0.out
      simp only[intOf,Hs.out]
      omega
    ·have n1:decide (rd [a1,a2] x<0)=false:=Yg hn
     have n2:(rd [a1,a2] x<0)=False:=eq_false hn
     have HXV:=Za (show xs++readsL ([a1,a2].drop (x+1).toNat)=readsL [a1,a2] by rw[if_neg hn] at HXT;exact HXT)
     clear HXT hn
     go_wp2
     go_roundw
     case rel=>exact⟨x+1,xs,by rw[Hs.out],⟨by have:=Hx0.out;omega⟩,⟨by have:=Hlt.out;omega⟩,HXV,⟨by have:=LX.out;omega⟩,RO,VO,RZ,AP,HB⟩
     case measure=>
      have:=Hlt.out
      have:=Hx0.out
      simp only[intOf,Hs.out]
      omega
   ·have c1:decide (x<2)=false:=Yg hlt
    have q1:(x<2)=False:=eq_false hlt
    have ex:=HX.out
    rw[List.drop_eq_nil_of_le (by have:=Hx0.out;simp;omega),readsL,List.append_nil] at ex
    have EX:=Za ex
    have LS:Aside0 (xs.length<4611686018427387904):=⟨by have:=LX.out;have:=Hx1.out;omega⟩
    clear ex hlt HX
    go_wp2_with (first|(go_at_call 110;(with_reducible refine(sort_calls (.slice A3 xs.length c3) xs _ RO.out LS.out).mono ?_);rintro e w5 ⟨rfl,hr5,hg5⟩;have R5:=Za hr5;have HB5:=Za (below_grown HB.out hg5 VO.out);clear hr5 hg5)|(go_at_call 111;(with_reducible refine(compact_calls (.slice A3 xs.length c3) _ _ R5.out).mono ?_);rintro e w6 ⟨v',rfl,hr6,he6,hg6⟩;have R6:=Za hr6;have E6:=Za he6;have HB6:=Za (below_grown HB5.out hg6 VO.out);clear hr6 he6 hg6)|fail)
    go_ret
    refine⟨_,rfl,?_,HB6.out⟩
    rw[←EX.out]
    exact R6.out.to_R (fun k hk=>VO.out k (E6.out ▸ hk)) (fun _ _=>trivial)
-- NOT PRINTED: function 107 (impl_reader_read)
-- NOT PRINTED: function 106 (impl_reader_pass)
end Go.Proofs.YtjgfldbogjipiaaGreat.G
