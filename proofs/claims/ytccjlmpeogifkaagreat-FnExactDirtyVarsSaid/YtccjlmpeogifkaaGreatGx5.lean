/- Functions of the program as plain Lean functions, and that each call comes to its function's answer; written by a program of the session. No condition. -/
import Derived.Test.YtccjlmpeogifkaaGreatGx0
import Derived.Test.YtccjlmpeogifkaaGreatGx3
import Derived.Test.YtccjlmpeogifkaaGreatGx4
namespace Go.Proofs.YtccjlmpeogifkaaGreat.G
open Go.RowKit Go.Proofs.YtccjlmpeogifkaaGreatW.PrintWords Go.Proofs.YtccjlmpeogifkaaGreatW.PrintLast Go.Proofs.YtccjlmpeogifkaaGreatW.PrintMore
attribute [local go_sem] max2_int min2_int max_two min_two max_three min_three max_four min_four   -- for this text's walks alone
set_option linter.unusedVariables false
set_option linter.unusedSimpArgs false
theorem z5_0 {P:Prop} (h:P:=by repeat(first|(with_reducible first|exact HB.out|apply Zh|apply Ze|apply Zd)|exact HB.out)):P:=h
theorem z5_1 {P:Prop} (h:P:=by first|(with_reducible assumption)|assumption):P:=h
theorem z5_2 {P:Prop} (h:P:=by(try simp only[Ys,Yt,List.map_nil]);first|done|rfl|(simp only[List.length_drop,List.length_take];rfl)):P:=h
theorem z5_3 {P:Prop} (h:P:=by first|rfl|(simp;done)|(simp[*];done)):P:=h
theorem z5_4 {P:Prop} (h:P:=by repeat(first|exact(Yj HR0_0.out HB.out)|(with_reducible refine Yh ?_ _)|(with_reducible refine Ye ?_ _)|(with_reducible refine Yi ?_))):P:=h
theorem z5_5 {P:Prop} (h:P:=by(with_reducible repeat(first|apply Zp|apply Zo|apply Zn));exact HO_3.out):P:=h
theorem z5_6 {P:Prop} (h:P:=by(try simp only[Ys,Yt,List.map_nil]);first|done|(simp only[hji31];rfl)|rfl|(simp only[List.length_drop,List.length_take];rfl)):P:=h
theorem z5_7 {P:Prop} (h:P:=by repeat(first|(with_reducible first|exact HB.out|apply Zh|apply Ze|apply Zd|refine Zg ?_ GE181.out)|exact HB.out)):P:=h
theorem z5_8 {P:Prop} (h:P:=by repeat(first|(with_reducible first|exact HB.out|apply Zh|apply Ze|apply Zd|refine Zg ?_ GE147.out)|exact HB.out)):P:=h
theorem z5_9 {P:Prop} (h:P:=by first|(go_simp;done)|(go_simp;rfl)):P:=h
theorem z5_10 {P:Prop} (h:P:=by(with_reducible repeat(first|refine blk_drewN ?_ _|refine blk_drew ?_|refine blk_alloc ?_ _));exact BK181.out):P:=h
theorem z5_11 {P:Prop} (h:P:=by rw[hg];exact(Zt z5_0)):P:=h
/-! ### spec_MemOk: function 21 -/
mutual
def spec_MemOk.j0:Nat→List Int→Bool→List (S55)→Option (Bool)
 |0,_,_,_=>none
 |k+1,x1,x16,x148000=>if x16=true then (some false) else (if 8<(x1.length:Int) then ((spec_UnpackControl.f k (rd x1 8)).bind fun bt150=>(if bt150.1<0 then (spec_MemOk.j1 k x1 bt150.2.1 true) else (if bt150.1≥(x148000.length:Int) then (spec_MemOk.j1 k x1 bt150.2.1 true) else (if 8≤(x1.length:Int) then ((spec_l09Values.f k (x1.take 8)).bind fun t154=>(if t154=true then (if 25≤(wrap64 (25+bt150.2.2)) then (if (wrap64 (25+bt150.2.2))≤(x1.length:Int) then ((spec_l09Values.f k ((x1.take ((wrap64 (25+bt150.2.2)):Int).toNat).drop 25)).bind fun t156=>(spec_MemOk.j1 k x1 bt150.2.1 (!t156))) else (none)) else (none)) else (spec_MemOk.j1 k x1 bt150.2.1 true))) else (none))))) else (none))
def spec_MemOk.j1:Nat→List Int→Int→Bool→Option (Bool)
 |0,_,_,_=>none
 |k+1,x1,x6,x47=>if x47=true then (some false) else (spec_MemOk.l0 k x1 x6 0)
def spec_MemOk.l0:Nat→List Int→Int→Int→Option (Bool)
 |0,_,_,_=>none
 |k+1,x1,x6,x8=>if x8<x6 then (if 0≤(wrap64 (9+(wrap64 (2*x8)))) then (if (wrap64 (9+(wrap64 (2*x8))))<(x1.length:Int) then ((spec_l01In.f (rd x1 (wrap64 (9+(wrap64 (2*x8))))) 0 7).bind fun t158=>(if t158=true then (if 0≤(wrap64 ((wrap64 (9+(wrap64 (2*x8))))+1)) then (if (wrap64 ((wrap64 (9+(wrap64 (2*x8))))+1))<(x1.length:Int) then ((spec_IsValue.f (rd x1 (wrap64 ((wrap64 (9+(wrap64 (2*x8))))+1)))).bind fun t160=>(if t160=true then (spec_MemOk.l0 k x1 x6 (wrap64 (x8+1))) else (some false))) else (none)) else (none)) else (some false))) else (none)) else (none)) else (some true)
end
def spec_MemOk.f (k:Nat) (l0_0:List (S55)) (l1:List Int):Option (Bool):=(spec_ProgramOk.f k l0_0).bind fun t148=>(if t148=true then (spec_MemOk.j0 k l1 ((l1.length:Int) != 49) l0_0) else (spec_MemOk.j0 k l1 true l0_0))
set_option maxHeartbeats 8000000 in
set_option maxRecDepth 100000 in
theorem spec_MemOk.calls (k:Nat) (A0_0:Option Addr) (c0_0:Nat) (l0_0:List (S55)) (A1:Option Addr) (c1:Nat) (l1:List Int) (r:Bool) (w:World) (hr0_0:Kd.C k55 w A0_0 l0_0.length l0_0) (hc0_0:l0_0.length≤c0_0) (hr1:Kd.C (Kd.int .i64) w A1 l1.length l1) (hc1:l1.length≤c1) (h:spec_MemOk.f k l0_0 l1=some r):
  Calls Tryz.prog 21 #[.agg #[.slice A0_0 l0_0.length c0_0],.slice A1 l1.length c1] w fun e w'=>e= .returned (.bool r)∧Below w.heap.size w w':=by
 have hu30:=Tryz.underlying30
 have HR0_0:=Za hr0_0
 have HC0_0:=Za hc0_0
 clear hr0_0 hc0_0
 have HR1:=Za hr1
 have HC1:=Za hc1
 clear hr1 hc1
 have HB:=Za (Yc w.heap.size w)
 have H:((spec_ProgramOk.f k l0_0).bind fun t148=>(if t148=true then (spec_MemOk.j0 k l1 ((l1.length:Int) != 49) l0_0) else (spec_MemOk.j0 k l1 true l0_0)))=some r:=h
 clear h
 have HC3:=Za H
 clear H
 go_enter Tryz.func21,Tryz.ntmps21
 go_upto_region 1 with(first|((with_reducible refine Zr (N:=2) rfl ?_);(try(refine gate_guard (by rfl) ?_;dsimp only));refine Zs ?hg (N:=2) ?hd (cs:= #[.slice A0_0 l0_0.length c0_0]) (t:=30) ?hr ?_;(case hd=>rfl);(case hg=>rfl);(case hr=>exact z5_9);intro gb147 hg w4 hbox hb;have BK147:=Za (hbox);have GW147:=Za ((z5_11:w.heap.size≤gb147));have GE147:=Za ((z5_11:w.heap.size≤gb147));replace HB:=Za (Zi z5_0 hb);clear hb hbox hg))
 (try simp only[Act.put,Zu,Zv,Zw])
 go_cut [16] (fun v16 wc=>∃(kq:Nat) (x16_2:Bool),v16= .bool x16_2∧Aside0 (spec_MemOk.j0 kq l1 x16_2 l0_0=some r)∧Aside0 (kq≤k)∧Aside0 (wc.heap[gb147]? =some (.cells #[(.slice A0_0 l0_0.length c0_0)] 30 (0,0)))∧Aside0 (Below w.heap.size w wc))
 case first=>
  have H:=HC3.out
  clear HC3
  replace H:=Zl H
  obtain⟨t148,A50,H⟩:=H
  replace H:(if t148=true then (spec_MemOk.j0 k l1 ((l1.length:Int) != 49) l0_0) else (spec_MemOk.j0 k l1 true l0_0))=some r:=H
  have A5:=Za A50
  clear A50
  by_cases c6:t148=true
  ·subst c6
   rw[if_pos rfl] at H
   have H':=Za H
   clear H
   have hcz7_0:w4.cell? ⟨gb147,0,none⟩=some (.slice A0_0 l0_0.length c0_0):=(Zb BK147.out 0).trans rfl
   have hfz7_0:=Zc BK147.out 0
   go_wp2_with (first|((first|((with_reducible refine gate_callee (f:=45) rfl ?_);refine goesL_ (some 10) rfl rfl Tryz.func45 (by kernel_rfl) rfl #[.agg #[.slice A0_0 l0_0.length c0_0]] rfl z5_2 ?_;(with_reducible refine(spec_ProgramOk.calls k _ _ l0_0 true _ ?side1 ?side2 A5.out).mono ?_))|(go_at_call 45;(with_reducible refine(spec_ProgramOk.calls k _ _ l0_0 true _ ?side1 ?side2 A5.out).mono ?_)));(case side1=>exact z5_4);(case side2=>exact HC0_0.out);rintro e w8 ⟨rfl,hb⟩;(first|refine⟨_,rfl,?_⟩|skip);replace BK147:=Za (Zk (g:=gb147) (o:= .cells #[.slice A0_0 l0_0.length c0_0] 30 (0,0)) (by(with_reducible repeat(first|refine blk_drewN ?_ _|refine blk_drew ?_|refine blk_alloc ?_ _));exact BK147.out) hb);replace HB:=Za (Zi z5_8 hb);(try clear hb);(try clear hb2);(try clear hk);(try clear hi)))
   go_meet
   case rel=>exact⟨_,(((l1.length:Int) != 49)),z5_3,H',⟨by first|omega|exact Nat.le_refl _⟩,⟨by(with_reducible repeat(first|refine blk_drewN ?_ _|refine blk_drew ?_|refine blk_alloc ?_ _));exact BK147.out⟩,⟨by repeat(first|(with_reducible first|exact HB.out|apply Zh|apply Ze|apply Zd|refine Zg ?_ GE147.out)|exact HB.out)⟩⟩
  ·replace c6:=Bool.eq_false_iff.mpr c6
   subst c6
   rw[if_neg (show ¬(false=true) by decide)] at H
   have H':=Za H
   clear H
   have hcz9_0:w4.cell? ⟨gb147,0,none⟩=some (.slice A0_0 l0_0.length c0_0):=(Zb BK147.out 0).trans rfl
   have hfz9_0:=Zc BK147.out 0
   go_wp2_with (first|((first|((with_reducible refine gate_callee (f:=45) rfl ?_);refine goesL_ (some 10) rfl rfl Tryz.func45 (by kernel_rfl) rfl #[.agg #[.slice A0_0 l0_0.length c0_0]] rfl z5_2 ?_;(with_reducible refine(spec_ProgramOk.calls k _ _ l0_0 false _ ?side1 ?side2 A5.out).mono ?_))|(go_at_call 45;(with_reducible refine(spec_ProgramOk.calls k _ _ l0_0 false _ ?side1 ?side2 A5.out).mono ?_)));(case side1=>exact z5_4);(case side2=>exact HC0_0.out);rintro e w10 ⟨rfl,hb⟩;(first|refine⟨_,rfl,?_⟩|skip);replace BK147:=Za (Zk (g:=gb147) (o:= .cells #[.slice A0_0 l0_0.length c0_0] 30 (0,0)) (by(with_reducible repeat(first|refine blk_drewN ?_ _|refine blk_drew ?_|refine blk_alloc ?_ _));exact BK147.out) hb);replace HB:=Za (Zi z5_8 hb);(try clear hb);(try clear hb2);(try clear hk);(try clear hi)))
   go_meet
   case rel=>exact⟨_,(true),z5_3,H',⟨by first|omega|exact Nat.le_refl _⟩,⟨by(with_reducible repeat(first|refine blk_drewN ?_ _|refine blk_drew ?_|refine blk_alloc ?_ _));exact BK147.out⟩,⟨by repeat(first|(with_reducible first|exact HB.out|apply Zh|apply Ze|apply Zd|refine Zg ?_ GE147.out)|exact HB.out)⟩⟩
 case rest=>
  clear HC3
  (try clear c1)
  obtain⟨kq,x16_2,rfl,HA,HJ2,BK147,HB⟩:=hcut
  cases kq with
  |zero=>exact absurd HA.out (by simp[spec_MemOk.j0])
  |succ kj2=>
   have H:=HA.out
   clear HA
   simp only[spec_MemOk.j0] at H
   by_cases c11:x16_2=true
   ·subst c11
    rw[if_pos rfl] at H
    obtain rfl:=Zm H
    go_wp2
    go_ret
    exact⟨by first|rfl|(simp[errW_none,errW_some]<;>rfl)|(simp[*,errW_none,errW_some]<;>rfl)|(simp[*,errW_none,errW_some,i64_w];done),by repeat(first|(with_reducible first|exact HB.out|apply Zh|apply Ze|apply Zd|refine Zg ?_ GE147.out)|exact HB.out)⟩
   ·replace c11:=Bool.eq_false_iff.mpr c11
    subst c11
    rw[if_neg (show ¬(false=true) by decide)] at H
    by_cases c12:8<(l1.length:Int)
    ·rw[if_pos c12] at H
     have c12b0:decide (8<(l1.length:Int))=true:=Zq c12
     have c12b1:decide (8<l1.length)=true:=Zq (by omega)
     clear c12
     replace H:=Zl H
     obtain⟨⟨t150,t151,t152⟩,A130,H⟩:=H
     replace H:(if t150<0 then (spec_MemOk.j1 kj2 l1 t151 true) else (if t150≥(l0_0.length:Int) then (spec_MemOk.j1 kj2 l1 t151 true) else (if 8≤(l1.length:Int) then ((spec_l09Values.f kj2 (l1.take 8)).bind fun t154=>(if t154=true then (if 25≤(wrap64 (25+t152)) then (if (wrap64 (25+t152))≤(l1.length:Int) then ((spec_l09Values.f kj2 ((l1.take ((wrap64 (25+t152)):Int).toNat).drop 25)).bind fun t156=>(spec_MemOk.j1 kj2 l1 t151 (!t156))) else (none)) else (none)) else (spec_MemOk.j1 kj2 l1 t151 true))) else (none))))=some r:=H
     have A13:=Za A130
     clear A130
     have HC14:=Za H
     clear H
     have p149:0≤(8:Int):=(by omega)
     have q149:8<(l1.length:Int):=Zj z5_1
     obtain⟨ad149,e149,hx149_0⟩:=Kd.at_int HR1.out 8 p149 q149
     cases e149
     (try simp only[show(8:Int).toNat=8 from rfl,Nat.reduceMul,Nat.reduceEqDiff,Go.Addr.add,↓reduceIte] at hx149_0)
     have qi149:(8<l1.length)=True:=eq_true (by omega)
     (try rw[show((8:Int)).toNat=8 from rfl] at hx149_0)
     replace hx149_0:=(HB.out.cell (Zf w _ hx149_0)).trans hx149_0
     replace p149:=eq_true p149
     replace q149:=eq_true q149
     go_upto_region 4 with(first|((first|((with_reducible refine gate_callee (f:=22) rfl ?_);refine goesL_ (some 21) rfl rfl Tryz.func22 (by kernel_rfl) rfl #[.int .i64 (rd l1 8)] rfl z5_2 ?_;(with_reducible refine(spec_UnpackControl.calls kj2 (rd l1 8) t150 t151 t152 _ A13.out).mono ?_))|(go_at_call 22;(with_reducible refine(spec_UnpackControl.calls kj2 (rd l1 8) t150 t151 t152 _ A13.out).mono ?_)));rintro e w' ⟨rfl,⟨nd,rfl⟩⟩;(first|refine⟨_,rfl,?_⟩|skip)))
     (try simp only[Act.put,Zu,Zv,Zw])
     go_cut [47] (fun v47 wc=>∃(kq:Nat) (x47_13:Bool),v47= .bool x47_13∧Aside0 (spec_MemOk.j1 kq l1 t151 x47_13=some r)∧Aside0 (kq≤kj2)∧Aside0 (wc.heap[gb147]? =some (.cells #[(.slice A0_0 l0_0.length c0_0)] 30 (0,0)))∧Aside0 (Below w.heap.size w wc))
     case first=>
      have H:=HC14.out
      clear HC14
      by_cases c15:t150<0
      ·rw[if_pos c15] at H
       have c15b0:decide (t150<0)=true:=Zq c15
       clear c15
       (first|rw[c15b0]|(simp only[i64_w,i32_w];rw[c15b0])|skip)
       have H':=Za H
       clear H
       go_wp2
       go_meet
       case rel=>exact⟨_,(true),z5_3,H',⟨by have:=HJ2.out;first|omega|exact Nat.le_refl _⟩,⟨by(with_reducible repeat(first|refine blk_drewN ?_ _|refine blk_drew ?_|refine blk_alloc ?_ _));exact BK147.out⟩,⟨by repeat(first|(with_reducible first|exact HB.out|apply Zh|apply Ze|apply Zd|refine Zg ?_ GE147.out)|exact HB.out)⟩⟩
      ·rw[if_neg c15] at H
       have c15b0:decide (t150<0)=false:=Yg c15
       clear c15
       (first|rw[c15b0]|(simp only[i64_w,i32_w];rw[c15b0])|skip)
       by_cases c16:t150≥(l0_0.length:Int)
       ·rw[if_pos c16] at H
        have c16b0:decide ((l0_0.length:Int)≤t150)=true:=Zq c16
        clear c16
        have H':=Za H
        clear H
        have hcz17_0:wc.cell? ⟨gb147,0,none⟩=some (.slice A0_0 l0_0.length c0_0):=(Zb BK147.out 0).trans rfl
        have hfz17_0:=Zc BK147.out 0
        go_wp2
        go_meet
        case rel=>exact⟨_,(true),z5_3,H',⟨by have:=HJ2.out;first|omega|exact Nat.le_refl _⟩,⟨by(with_reducible repeat(first|refine blk_drewN ?_ _|refine blk_drew ?_|refine blk_alloc ?_ _));exact BK147.out⟩,⟨by repeat(first|(with_reducible first|exact HB.out|apply Zh|apply Ze|apply Zd|refine Zg ?_ GE147.out)|exact HB.out)⟩⟩
       ·rw[if_neg c16] at H
        have c16b0:decide ((l0_0.length:Int)≤t150)=false:=Yg c16
        clear c16
        by_cases c18:8≤(l1.length:Int)
        ·rw[if_pos c18] at H
         have c18b0:=eq_true c18
         have c18b1:decide (8≤(l1.length:Int))=true:=Zq c18
         clear c18
         replace H:=Zl H
         obtain⟨t154,A190,H⟩:=H
         replace H:(if t154=true then (if 25≤(wrap64 (25+t152)) then (if (wrap64 (25+t152))≤(l1.length:Int) then ((spec_l09Values.f kj2 ((l1.take ((wrap64 (25+t152)):Int).toNat).drop 25)).bind fun t156=>(spec_MemOk.j1 kj2 l1 t151 (!t156))) else (none)) else (none)) else (spec_MemOk.j1 kj2 l1 t151 true))=some r:=H
         have A19:=Za A190
         clear A190
         by_cases c20:t154=true
         ·subst c20
          rw[if_pos rfl] at H
          by_cases c21:25≤(wrap64 (25+t152))
          ·rw[if_pos c21] at H
           have c21b0:=eq_true c21
           have c21b1:decide (25≤(wrap64 (25+t152)))=true:=Zq c21
           by_cases c22:(wrap64 (25+t152))≤(l1.length:Int)
           ·rw[if_pos c22] at H
            have c22b0:=eq_true c22
            have c22b1:decide ((wrap64 (25+t152))≤(l1.length:Int))=true:=Zq c22
            replace H:=Zl H
            obtain⟨t156,A230,H⟩:=H
            replace H:(spec_MemOk.j1 kj2 l1 t151 (!t156))=some r:=H
            have A23:=Za A230
            clear A230
            have H':=Za H
            clear H
            have hcz24_0:wc.cell? ⟨gb147,0,none⟩=some (.slice A0_0 l0_0.length c0_0):=(Zb BK147.out 0).trans rfl
            have hfz24_0:=Zc BK147.out 0
            obtain⟨i025,hi025,_,hsz25,_⟩:=info_parts info3
            obtain⟨hcut25,hA25,hC25⟩:=print_take_of (P:=Tryz.prog) (Value.int .i64) 0 25 3 .i64 Tryz.underlying25 hi025 hsz25 (some ad149) c1 l1 8 (by omega) (Zj z5_1) HC1.out
            have HR153:=Za (Kd.C_of_reads (h1:=fun _=>rfl) (hA25 _ (Kd.reads_of_C HR1.out)))
            have HC153:=Za hC25
            clear hA25 hC25 hi025 hsz25
            go_wp2_with (first|(go_at_call 46;(try simp only[←List.length_take,←List.length_drop]);(first|(with_reducible refine(spec_l09Values.calls kj2 _ _ (l1.take 8) true _ ?side1 ?side2 A19.out).mono ?_)|(refine calls_len1 ?ln_ ((spec_l09Values.calls kj2 _ _ (l1.take 8) true _ ?side1 ?side2 A19.out).mono ?_);(case ln_=>simp only[List.length_drop,List.length_take];first|omega)));(case side1=>repeat(first|exact(Yj HR153.out HB.out)|(with_reducible refine Yh ?_ _)|(with_reducible refine Ye ?_ _)|(with_reducible refine Yi ?_)));(case side2=>exact HC153.out);rintro e w' ⟨rfl,⟨nd,rfl⟩⟩;obtain⟨i026,hi026,_,hsz26,_⟩:=info_parts info3;obtain⟨A26,hcut26,hA26,hC26⟩:=print_mid_of (P:=Tryz.prog) (Value.int .i64) 0 25 3 .i64 .i64 Tryz.underlying25 hi026 hsz26 (some ad149) c1 l1 25 (wrap64 (25+t152)) (by omega) (by first|omega|exact Zj z5_1) (Zj z5_1) HC1.out;have HR155:=Za (Kd.C_of_reads (h1:=fun _=>rfl) (hA26 _ (Kd.reads_of_C HR1.out)));have HC155:=Za hC26;clear hA26 hC26 hi026 hsz26)|(go_at_call 46;(try simp only[←List.length_take,←List.length_drop]);(first|(with_reducible refine(spec_l09Values.calls kj2 _ _ ((l1.take ((wrap64 (25+t152)):Int).toNat).drop 25) t156 _ ?side1 ?side2 A23.out).mono ?_)|(refine calls_len1 ?ln_ ((spec_l09Values.calls kj2 _ _ ((l1.take ((wrap64 (25+t152)):Int).toNat).drop 25) t156 _ ?side1 ?side2 A23.out).mono ?_);(case ln_=>simp only[List.length_drop,List.length_take];first|omega|(have h_:(wrap64 (25+t152))≤(l1.length:Int):=Zj (by assumption);omega))));(case side1=>repeat(first|exact(Yj HR155.out z5_8)|(with_reducible refine Yh ?_ _)|(with_reducible refine Ye ?_ _)|(with_reducible refine Yi ?_)));(case side2=>exact HC155.out);rintro e w' ⟨rfl,⟨nd,rfl⟩⟩))
            go_meet
            case rel=>exact⟨_,(!t156),z5_3,H',⟨by have:=HJ2.out;first|omega|exact Nat.le_refl _⟩,⟨by(with_reducible repeat(first|refine blk_drewN ?_ _|refine blk_drew ?_|refine blk_alloc ?_ _));exact BK147.out⟩,⟨by repeat(first|(with_reducible first|exact HB.out|apply Zh|apply Ze|apply Zd|refine Zg ?_ GE147.out)|exact HB.out)⟩⟩
           ·rw[if_neg c22] at H
            exact absurd H (by simp)
          ·rw[if_neg c21] at H
           exact absurd H (by simp)
         ·replace c20:=Bool.eq_false_iff.mpr c20
          subst c20
          rw[if_neg (show ¬(false=true) by decide)] at H
          have H':=Za H
          clear H
          have hcz27_0:wc.cell? ⟨gb147,0,none⟩=some (.slice A0_0 l0_0.length c0_0):=(Zb BK147.out 0).trans rfl
          have hfz27_0:=Zc BK147.out 0
          obtain⟨i028,hi028,_,hsz28,_⟩:=info_parts info3
          obtain⟨hcut28,hA28,hC28⟩:=print_take_of (P:=Tryz.prog) (Value.int .i64) 0 25 3 .i64 Tryz.underlying25 hi028 hsz28 (some ad149) c1 l1 8 (by omega) (Zj z5_1) HC1.out
          have HR153:=Za (Kd.C_of_reads (h1:=fun _=>rfl) (hA28 _ (Kd.reads_of_C HR1.out)))
          have HC153:=Za hC28
          clear hA28 hC28 hi028 hsz28
          go_wp2_with (first|(go_at_call 46;(try simp only[←List.length_take,←List.length_drop]);(first|(with_reducible refine(spec_l09Values.calls kj2 _ _ (l1.take 8) false _ ?side1 ?side2 A19.out).mono ?_)|(refine calls_len1 ?ln_ ((spec_l09Values.calls kj2 _ _ (l1.take 8) false _ ?side1 ?side2 A19.out).mono ?_);(case ln_=>simp only[List.length_drop,List.length_take];first|omega)));(case side1=>repeat(first|exact(Yj HR153.out HB.out)|(with_reducible refine Yh ?_ _)|(with_reducible refine Ye ?_ _)|(with_reducible refine Yi ?_)));(case side2=>exact HC153.out);rintro e w' ⟨rfl,⟨nd,rfl⟩⟩))
          go_meet
          case rel=>exact⟨_,(true),z5_3,H',⟨by have:=HJ2.out;first|omega|exact Nat.le_refl _⟩,⟨by(with_reducible repeat(first|refine blk_drewN ?_ _|refine blk_drew ?_|refine blk_alloc ?_ _));exact BK147.out⟩,⟨by repeat(first|(with_reducible first|exact HB.out|apply Zh|apply Ze|apply Zd|refine Zg ?_ GE147.out)|exact HB.out)⟩⟩
        ·rw[if_neg c18] at H
         exact absurd H (by simp)
     case rest=>
      clear HC14
      (try clear c1);(try clear c11);(try clear c12);(try clear c12b0);(try clear c12b1);(try clear hx149_0);(try clear p149);(try clear q149)
      obtain⟨kq,x47_13,rfl,HA,HJ13,BK147,HB⟩:=hcut
      cases kq with
      |zero=>exact absurd HA.out (by simp[spec_MemOk.j1])
      |succ kj13=>
       have H:=HA.out
       clear HA
       simp only[spec_MemOk.j1] at H
       by_cases c29:x47_13=true
       ·subst c29
        rw[if_pos rfl] at H
        obtain rfl:=Zm H
        go_wp2
        go_ret
        exact⟨by first|rfl|(simp[errW_none,errW_some]<;>rfl)|(simp[*,errW_none,errW_some]<;>rfl)|(simp[*,errW_none,errW_some,i64_w];done),by repeat(first|(with_reducible first|exact HB.out|apply Zh|apply Ze|apply Zd|refine Zg ?_ GE147.out)|exact HB.out)⟩
       ·replace c29:=Bool.eq_false_iff.mpr c29
        subst c29
        rw[if_neg (show ¬(false=true) by decide)] at H
        have H':=Za H
        clear H
        go_wp2
        go_loopg [8] kj13 (fun kq v8 w'=>∃(x8_3:Int),v8= .int .i64 x8_3∧Aside0 (spec_MemOk.l0 kq l1 t151 x8_3=some r)∧Aside0 (kq≤kj13)∧Aside0 (w'.heap[gb147]? =some (.cells #[(.slice A0_0 l0_0.length c0_0)] 30 (0,0)))∧Aside0 (Below w.heap.size w w'))
        case atStart=>exact⟨(0),z5_3,H',⟨Nat.le_refl _⟩,⟨by(with_reducible repeat(first|refine blk_drewN ?_ _|refine blk_drew ?_|refine blk_alloc ?_ _));exact BK147.out⟩,⟨by repeat(first|(with_reducible first|exact HB.out|apply Zh|apply Ze|apply Zd|refine Zg ?_ GE147.out)|exact HB.out)⟩⟩
        case round=>
         clear H'
         (try clear c1);(try clear c11);(try clear c12);(try clear c12b0);(try clear c12b1);(try clear c29);(try clear hx149_0);(try clear p149);(try clear q149)
         obtain⟨x8_3,rfl,HA,HK3,BK147,HB⟩:=hrel
         cases gk with
         |zero=>exact absurd HA.out (by simp[spec_MemOk.l0])
         |succ k3=>
          have H:=HA.out
          clear HA
          simp only[spec_MemOk.l0] at H
          by_cases c30:x8_3<t151
          ·rw[if_pos c30] at H
           have c30b0:decide (x8_3<t151)=true:=Zq c30
           clear c30
           obtain⟨ji31,hji31⟩:∃j_:Int,(wrap64 (9+(wrap64 (2*x8_3))))=j_:=⟨_,rfl⟩
           replace H:(if 0≤(ji31) then (if (ji31)<(l1.length:Int) then ((spec_l01In.f (rd l1 (ji31)) 0 7).bind fun t158=>(if t158=true then (if 0≤(wrap64 ((ji31)+1)) then (if (wrap64 ((ji31)+1))<(l1.length:Int) then ((spec_IsValue.f (rd l1 (wrap64 ((ji31)+1)))).bind fun t160=>(if t160=true then (spec_MemOk.l0 k3 l1 t151 (wrap64 (x8_3+1))) else (some false))) else (none)) else (none)) else (some false))) else (none)) else (none))=some r:=by first|(rw[hji31] at H;exact H)|(simp only[hji31] at H ⊢;exact H)
           have hji31w:(IntKind.i64.wrap (9+(wrap64 (2*x8_3))))=ji31:=(i64_w _).trans hji31
           by_cases c32:0≤(ji31)
           ·rw[if_pos c32] at H
            have c32b0:decide (0≤(ji31))=true:=Zq c32
            clear c32
            by_cases c33:(ji31)<(l1.length:Int)
            ·rw[if_pos c33] at H
             have c33b0:decide ((ji31)<(l1.length:Int))=true:=Zq c33
             clear c33
             replace H:=Zl H
             obtain⟨t158,A340,H⟩:=H
             replace H:(if t158=true then (if 0≤(wrap64 ((ji31)+1)) then (if (wrap64 ((ji31)+1))<(l1.length:Int) then ((spec_IsValue.f (rd l1 (wrap64 ((ji31)+1)))).bind fun t160=>(if t160=true then (spec_MemOk.l0 k3 l1 t151 (wrap64 (x8_3+1))) else (some false))) else (none)) else (none)) else (some false))=some r:=H
             have A34:=Za A340
             clear A340
             by_cases c35:t158=true
             ·subst c35
              rw[if_pos rfl] at H
              obtain⟨ji36,hji36⟩:∃j_:Int,(wrap64 ((ji31)+1))=j_:=⟨_,rfl⟩
              replace H:(if 0≤(ji36) then (if (ji36)<(l1.length:Int) then ((spec_IsValue.f (rd l1 (ji36))).bind fun t160=>(if t160=true then (spec_MemOk.l0 k3 l1 t151 (wrap64 (x8_3+1))) else (some false))) else (none)) else (none))=some r:=by first|(rw[hji36] at H;exact H)|(simp only[hji36] at H ⊢;exact H)
              (try rw[hji36] at A34)
              have hji36w:(IntKind.i64.wrap ((ji31)+1))=ji36:=(i64_w _).trans hji36
              by_cases c37:0≤(ji36)
              ·rw[if_pos c37] at H
               have c37b0:decide (0≤(ji36))=true:=Zq c37
               clear c37
               by_cases c38:(ji36)<(l1.length:Int)
               ·rw[if_pos c38] at H
                have c38b0:decide ((ji36)<(l1.length:Int))=true:=Zq c38
                clear c38
                replace H:=Zl H
                obtain⟨t160,A390,H⟩:=H
                replace H:(if t160=true then (spec_MemOk.l0 k3 l1 t151 (wrap64 (x8_3+1))) else (some false))=some r:=H
                have A39:=Za A390
                clear A390
                by_cases c40:t160=true
                ·subst c40
                 rw[if_pos rfl] at H
                 have H':=Za H
                 clear H
                 have p157:0≤((ji31):Int):=Zj z5_1
                 have q157:(ji31)<(l1.length:Int):=Zj z5_1
                 obtain⟨ad157,e157,hx157_0⟩:=Kd.at_int HR1.out (ji31) p157 q157
                 obtain rfl:ad149=ad157:=(by injection e157)
                 replace hx157_0:=(HB.out.cell (Zf w _ hx157_0)).trans hx157_0
                 replace p157:=eq_true p157
                 replace q157:=eq_true q157
                 go_wp2_with (first|((first|((with_reducible refine gate_callee (f:=47) rfl ?_);refine goesL_ (some 59) rfl rfl Tryz.func47 (by kernel_rfl) rfl #[.int .i64 (rd l1 (ji31)),.int .i64 0,.int .i64 7] rfl z5_6 ?_;(with_reducible refine(spec_l01In.calls (rd l1 (ji31)) 0 7 true _ A34.out).mono ?_))|(go_at_call 47;(with_reducible refine(spec_l01In.calls (rd l1 (ji31)) 0 7 true _ A34.out).mono ?_)));rintro e w' ⟨rfl,⟨nd,rfl⟩⟩;(first|refine⟨_,rfl,?_⟩|skip);have p159:0≤((ji36):Int):=Zj z5_1;have q159:(ji36)<(l1.length:Int):=Zj z5_1;obtain⟨ad159,e159,hx159_0⟩:=Kd.at_int HR1.out (ji36) p159 q159;obtain rfl:ad149=ad159:=(by injection e159);replace hx159_0:=(HB.out.cell (Zf w _ hx159_0)).trans hx159_0;replace p159:=eq_true p159;replace q159:=eq_true q159)|(go_at_call 48;(with_reducible refine(spec_IsValue.calls (rd l1 (ji36)) true _ A39.out).mono ?_);rintro e w' ⟨rfl,⟨nd,rfl⟩⟩))
                 go_roundg k3
                 case measure=>have:=HJ2.out;have:=HJ13.out;have:=HK3.out;omega
                 case rel=>exact⟨(wrap64 (x8_3+1)),z5_3,H',⟨by have:=HJ2.out;have:=HJ13.out;have:=HK3.out;omega⟩,⟨by(with_reducible repeat(first|refine blk_drewN ?_ _|refine blk_drew ?_|refine blk_alloc ?_ _));exact BK147.out⟩,⟨by repeat(first|(with_reducible first|exact HB.out|apply Zh|apply Ze|apply Zd|refine Zg ?_ GE147.out)|exact HB.out)⟩⟩
                ·replace c40:=Bool.eq_false_iff.mpr c40
                 subst c40
                 rw[if_neg (show ¬(false=true) by decide)] at H
                 obtain rfl:=Zm H
                 have p157:0≤((ji31):Int):=Zj z5_1
                 have q157:(ji31)<(l1.length:Int):=Zj z5_1
                 obtain⟨ad157,e157,hx157_0⟩:=Kd.at_int HR1.out (ji31) p157 q157
                 obtain rfl:ad149=ad157:=(by injection e157)
                 replace hx157_0:=(HB.out.cell (Zf w _ hx157_0)).trans hx157_0
                 replace p157:=eq_true p157
                 replace q157:=eq_true q157
                 go_wp2_with (first|((first|((with_reducible refine gate_callee (f:=47) rfl ?_);refine goesL_ (some 59) rfl rfl Tryz.func47 (by kernel_rfl) rfl #[.int .i64 (rd l1 (ji31)),.int .i64 0,.int .i64 7] rfl z5_6 ?_;(with_reducible refine(spec_l01In.calls (rd l1 (ji31)) 0 7 true _ A34.out).mono ?_))|(go_at_call 47;(with_reducible refine(spec_l01In.calls (rd l1 (ji31)) 0 7 true _ A34.out).mono ?_)));rintro e w' ⟨rfl,⟨nd,rfl⟩⟩;(first|refine⟨_,rfl,?_⟩|skip);have p159:0≤((ji36):Int):=Zj z5_1;have q159:(ji36)<(l1.length:Int):=Zj z5_1;obtain⟨ad159,e159,hx159_0⟩:=Kd.at_int HR1.out (ji36) p159 q159;obtain rfl:ad149=ad159:=(by injection e159);replace hx159_0:=(HB.out.cell (Zf w _ hx159_0)).trans hx159_0;replace p159:=eq_true p159;replace q159:=eq_true q159)|(go_at_call 48;(with_reducible refine(spec_IsValue.calls (rd l1 (ji36)) false _ A39.out).mono ?_);rintro e w' ⟨rfl,⟨nd,rfl⟩⟩))
                 go_ret
                 exact⟨by first|rfl|(simp[errW_none,errW_some]<;>rfl)|(simp only[←hji31,←hji36];first|rfl|(simp[errW_none,errW_some]<;>rfl))|(simp[*,errW_none,errW_some]<;>rfl)|(simp[*,errW_none,errW_some,i64_w];done),by repeat(first|(with_reducible first|exact HB.out|apply Zh|apply Ze|apply Zd|refine Zg ?_ GE147.out)|exact HB.out)⟩
               ·rw[if_neg c38] at H
                exact absurd H (by simp)
              ·rw[if_neg c37] at H
               exact absurd H (by simp)
             ·replace c35:=Bool.eq_false_iff.mpr c35
              subst c35
              rw[if_neg (show ¬(false=true) by decide)] at H
              obtain rfl:=Zm H
              have p157:0≤((ji31):Int):=Zj z5_1
              have q157:(ji31)<(l1.length:Int):=Zj z5_1
              obtain⟨ad157,e157,hx157_0⟩:=Kd.at_int HR1.out (ji31) p157 q157
              obtain rfl:ad149=ad157:=(by injection e157)
              replace hx157_0:=(HB.out.cell (Zf w _ hx157_0)).trans hx157_0
              replace p157:=eq_true p157
              replace q157:=eq_true q157
              go_wp2_with (first|((first|((with_reducible refine gate_callee (f:=47) rfl ?_);refine goesL_ (some 59) rfl rfl Tryz.func47 (by kernel_rfl) rfl #[.int .i64 (rd l1 (ji31)),.int .i64 0,.int .i64 7] rfl z5_6 ?_;(with_reducible refine(spec_l01In.calls (rd l1 (ji31)) 0 7 false _ A34.out).mono ?_))|(go_at_call 47;(with_reducible refine(spec_l01In.calls (rd l1 (ji31)) 0 7 false _ A34.out).mono ?_)));rintro e w' ⟨rfl,⟨nd,rfl⟩⟩;(first|refine⟨_,rfl,?_⟩|skip)))
              go_ret
              exact⟨by first|rfl|(simp[errW_none,errW_some]<;>rfl)|(simp only[←hji31];first|rfl|(simp[errW_none,errW_some]<;>rfl))|(simp[*,errW_none,errW_some]<;>rfl)|(simp[*,errW_none,errW_some,i64_w];done),by repeat(first|(with_reducible first|exact HB.out|apply Zh|apply Ze|apply Zd|refine Zg ?_ GE147.out)|exact HB.out)⟩
            ·rw[if_neg c33] at H
             exact absurd H (by simp)
           ·rw[if_neg c32] at H
            exact absurd H (by simp)
          ·rw[if_neg c30] at H
           have c30b0:decide (x8_3<t151)=false:=Yg c30
           clear c30
           obtain rfl:=Zm H
           go_wp2
           go_ret
           exact⟨by first|rfl|(simp[errW_none,errW_some]<;>rfl)|(simp[*,errW_none,errW_some]<;>rfl)|(simp[*,errW_none,errW_some,i64_w];done),by repeat(first|(with_reducible first|exact HB.out|apply Zh|apply Ze|apply Zd|refine Zg ?_ GE147.out)|exact HB.out)⟩
    ·rw[if_neg c12] at H
     exact absurd H (by simp)
def spec_l07Writes.f (a0_0:Int) (a0_1:Int) (a0_2:Int) (a0_3:Int) (a0_4:Int) (a0_5:Int):Option (Bool):=if a0_0=1 then (some true) else (some (a0_0==2))
set_option maxHeartbeats 8000000 in
set_option maxRecDepth 100000 in
theorem spec_l07Writes.calls (a0_0:Int) (a0_1:Int) (a0_2:Int) (a0_3:Int) (a0_4:Int) (a0_5:Int) (r:Bool) (w:World) (h:spec_l07Writes.f a0_0 a0_1 a0_2 a0_3 a0_4 a0_5=some r):
  Calls Tryz.prog 51 #[.agg #[.int .i64 a0_0,.int .i64 a0_1,.int .i64 a0_2,.int .i64 a0_3,.int .i64 a0_4,.int .i64 a0_5]] w fun e w'=>e= .returned (.bool r)∧Below w.heap.size w w':=by
 have hu77:=Tryz.underlying77
 have HB:=Za (Yc w.heap.size w)
 have H:(if a0_0=1 then (some true) else (some (a0_0==2)))=some r:=h
 clear h
 by_cases c2:a0_0=1
 ·rw[if_pos c2] at H
  have c2b0:(a0_0==1)=true:=beq_iff_eq.mpr c2
  have c2b1:(a0_0 != 1)=false:=bne_eq_false_iff_eq.mpr c2
  clear c2
  obtain rfl:=Zm H
  go_enter Tryz.func51,Tryz.ntmps51
  go_wp2_with (first|((with_reducible refine Zr (N:=1) rfl ?_);refine Zs ?hg (N:=1) ?hd (cs:= #[.int .i64 a0_0,.int .i64 a0_1,.int .i64 a0_2,.int .i64 a0_3,.int .i64 a0_4,.int .i64 a0_5]) (t:=77) ?hr ?_;(case hd=>rfl);(case hg=>rfl);(case hr=>exact z5_9);intro gb161 hg w3 hbox hb;have BK161:=Za (hbox);have GW161:=Za ((z5_11:w.heap.size≤gb161));have GE161:=Za ((z5_11:w.heap.size≤gb161));replace HB:=Za (Zi z5_0 hb);clear hb hbox hg;have hcz4_0:w3.cell? ⟨gb161,0,none⟩=some (.int .i64 a0_0):=(Zb BK161.out 0).trans rfl;have hcz4_1:w3.cell? ⟨gb161,1,none⟩=some (.int .i64 a0_1):=(Zb BK161.out 1).trans rfl;have hcz4_2:w3.cell? ⟨gb161,2,none⟩=some (.int .i64 a0_2):=(Zb BK161.out 2).trans rfl;have hcz4_3:w3.cell? ⟨gb161,3,none⟩=some (.int .i64 a0_3):=(Zb BK161.out 3).trans rfl;have hcz4_4:w3.cell? ⟨gb161,4,none⟩=some (.int .i64 a0_4):=(Zb BK161.out 4).trans rfl;have hcz4_5:w3.cell? ⟨gb161,5,none⟩=some (.int .i64 a0_5):=(Zb BK161.out 5).trans rfl;have hfz4_0:=Zc BK161.out 0;have hfz4_1:=Zc BK161.out 1;have hfz4_2:=Zc BK161.out 2;have hfz4_3:=Zc BK161.out 3;have hfz4_4:=Zc BK161.out 4;have hfz4_5:=Zc BK161.out 5))
  go_ret
  exact⟨by first|rfl|(simp[errW_none,errW_some]<;>rfl)|(simp[*,errW_none,errW_some]<;>rfl)|(simp[*,errW_none,errW_some,i64_w];done),by repeat(first|(with_reducible first|exact HB.out|apply Zh|apply Ze|apply Zd|refine Zg ?_ GE161.out)|exact HB.out)⟩
 ·rw[if_neg c2] at H
  have c2b0:(a0_0==1)=false:=beq_eq_false_iff_ne.mpr c2
  have c2b1:(a0_0 != 1)=true:=bne_iff_ne.mpr c2
  obtain rfl:=Zm H
  go_enter Tryz.func51,Tryz.ntmps51
  go_wp2_with (first|((with_reducible refine Zr (N:=1) rfl ?_);refine Zs ?hg (N:=1) ?hd (cs:= #[.int .i64 a0_0,.int .i64 a0_1,.int .i64 a0_2,.int .i64 a0_3,.int .i64 a0_4,.int .i64 a0_5]) (t:=77) ?hr ?_;(case hd=>rfl);(case hg=>rfl);(case hr=>exact z5_9);intro gb161 hg w5 hbox hb;have BK161:=Za (hbox);have GW161:=Za ((z5_11:w.heap.size≤gb161));have GE161:=Za ((z5_11:w.heap.size≤gb161));replace HB:=Za (Zi z5_0 hb);clear hb hbox hg;have hcz6_0:w5.cell? ⟨gb161,0,none⟩=some (.int .i64 a0_0):=(Zb BK161.out 0).trans rfl;have hcz6_1:w5.cell? ⟨gb161,1,none⟩=some (.int .i64 a0_1):=(Zb BK161.out 1).trans rfl;have hcz6_2:w5.cell? ⟨gb161,2,none⟩=some (.int .i64 a0_2):=(Zb BK161.out 2).trans rfl;have hcz6_3:w5.cell? ⟨gb161,3,none⟩=some (.int .i64 a0_3):=(Zb BK161.out 3).trans rfl;have hcz6_4:w5.cell? ⟨gb161,4,none⟩=some (.int .i64 a0_4):=(Zb BK161.out 4).trans rfl;have hcz6_5:w5.cell? ⟨gb161,5,none⟩=some (.int .i64 a0_5):=(Zb BK161.out 5).trans rfl;have hfz6_0:=Zc BK161.out 0;have hfz6_1:=Zc BK161.out 1;have hfz6_2:=Zc BK161.out 2;have hfz6_3:=Zc BK161.out 3;have hfz6_4:=Zc BK161.out 4;have hfz6_5:=Zc BK161.out 5))
  go_ret
  exact⟨by first|rfl|(simp[errW_none,errW_some]<;>rfl)|(simp[*,errW_none,errW_some]<;>rfl)|(simp[*,errW_none,errW_some,i64_w];done),by repeat(first|(with_reducible first|exact HB.out|apply Zh|apply Ze|apply Zd|refine Zg ?_ GE161.out)|exact HB.out)⟩
def spec_l07List.l0:Nat→List Bool→List Int→Int→Option (List Int)
 |0,_,_,_=>none
 |k+1,x0,x3,x4=>if x4<(x0.length:Int) then (if 0≤x4 then (if rdOf false x0 x4=true then (if x3.length<17592186044416 then (spec_l07List.l0 k x0 (x3++[x4]) (wrap64 (x4+1))) else (none)) else (spec_l07List.l0 k x0 x3 (wrap64 (x4+1)))) else (none)) else (some x3)
def spec_l07List.f (k:Nat) (l0:List Bool):Option (List Int):=spec_l07List.l0 k l0 (([]:List Int)) 0
theorem spec_l07List.mono_l:∀k,(∀y0 y1 y2,LeO (spec_l07List.l0 k y0 y1 y2) (spec_l07List.l0 (k+1) y0 y1 y2))
 |0=>fun _ _ _ r h=>by simp[spec_l07List.l0] at h
 |k+1=>by
  have ih0:=spec_l07List.mono_l k
  ·intro y0 y1 y2
   unfold spec_l07List.l0
   repeat' first
   |(with_reducible exact ih0 _ _ _)
   |(with_reducible exact Yn _)
   |(with_reducible exact Yb _)
   |(with_reducible refine Zx ?_ ?_)
   |(with_reducible refine Zy ?_ (fun _=> ?_))
   |exact ih0 _ _ _
   |exact Yb _
   |refine Zx ?_ ?_
   |refine Zy ?_ (fun _=> ?_)
theorem spec_l07List.mono:∀a0 k,LeO (spec_l07List.f k a0) (spec_l07List.f (k+1) a0):=by
 intro a0 k
 have ih0:=spec_l07List.mono_l k
 unfold spec_l07List.f
 repeat' first
   |(with_reducible exact ih0 _ _ _)
   |(with_reducible exact Yn _)
   |(with_reducible exact Yb _)
   |(with_reducible refine Zx ?_ ?_)
   |(with_reducible refine Zy ?_ (fun _=> ?_))
   |exact ih0 _ _ _
   |exact Yb _
   |refine Zx ?_ ?_
   |refine Zy ?_ (fun _=> ?_)
set_option maxHeartbeats 8000000 in
set_option maxRecDepth 100000 in
theorem spec_l07List.calls (k:Nat) (A0:Option Addr) (c0:Nat) (l0:List Bool) (r:List Int) (w:World) (hr0:Kd.C Kd.bool w A0 l0.length l0) (hc0:l0.length≤c0) (h:spec_l07List.f k l0=some r):
  Calls Tryz.prog 52 #[.slice A0 l0.length c0] w fun e w'=>∃v0_:Value,e= .returned (v0_)∧Kd.R (Kd.int .i64) 3 w' w.heap.size (fun _=>True) v0_ r∧Below w.heap.size w w':=by
 have HR0:=Za hr0
 have HC0:=Za hc0
 clear hr0 hc0
 have HB:=Za (Yc w.heap.size w)
 have H:(spec_l07List.l0 k l0 (([]:List Int)) 0)=some r:=h
 clear h
 obtain⟨y162,hy162⟩:∃y_:List Int,y_=(([]:List Int)):=⟨_,rfl⟩
 replace H:(spec_l07List.l0 k l0 y162 0)=some r:=by first|(rw[hy162];with_reducible exact H)|(have H2_:=(Yk _ _).symm.trans H;rw[hy162];with_reducible exact H2_)|(have H2_:=(Yk _ _).symm.trans H;with_reducible exact H2_)|with_reducible exact H|(rw[hy162];exact H)|exact H
 have Ny162:=Za hy162
 clear hy162
 have H':=Za H
 clear H
 go_enter Tryz.func52,Tryz.ntmps52
 go_wp2_with (first|((with_reducible refine Zr (N:=5) rfl ?_);refine Kd.R_lit (Kd.int .i64) _ 3 ?hg (N:=5) ?hd (xs:=([]:List Int)) (inner:=[]) (ok:=fun _=>True) (okp:=fun _=>True) ?hr ?hp (fun _ hk=>hk) trivial (Yc _ _) (Nat.le_refl _) (by simp) ?_;(case hd=>rfl);(case hg=>rfl);(case hr=>exact z5_9);(case hp=>exact(Reps.none _ _));intro v163 w2 ho3 hb hg_ hnew_;clear hg_ hnew_;(first|rw[←Ny162.out] at ho3|(simp only[Int.reduceToNat] at ho3;rw[←Ny162.out] at ho3));have HO164:=Za (Yq ho3 (Zt z5_0));replace HB:=Za (Zi z5_0 hb);clear hb ho3))
 go_loopg [3,4] k (fun kq v3 v4 w'=>∃(x3_1:List Int) (x4_1:Int),v4= .int .i64 x4_1∧Aside0 (spec_l07List.l0 kq l0 x3_1 x4_1=some r)∧Aside0 (kq≤k)∧Aside0 (Kd.R (Kd.int .i64) 3 w' w.heap.size (fun _=>True) v3 x3_1)∧Aside0 (Below w.heap.size w w'))
 case atStart=>exact⟨(y162),(0),z5_3,H',⟨Nat.le_refl _⟩,⟨by(with_reducible repeat(first|apply Zp|apply Zo|apply Zn));exact HO164.out⟩,⟨by repeat(first|(with_reducible first|exact HB.out|apply Zh|apply Ze|apply Zd)|exact HB.out)⟩⟩
 case round=>
  clear H'
  obtain⟨x3_1,x4_1,rfl,HA,HK1,HO_3,HB⟩:=hrel
  cases gk with
  |zero=>exact absurd HA.out (by simp[spec_l07List.l0])
  |succ k1=>
   have H:=HA.out
   clear HA
   simp only[spec_l07List.l0] at H
   by_cases c4:x4_1<(l0.length:Int)
   ·rw[if_pos c4] at H
    have c4b0:decide (x4_1<(l0.length:Int))=true:=Zq c4
    clear c4
    by_cases c5:0≤x4_1
    ·rw[if_pos c5] at H
     have c5b0:decide (0≤x4_1)=true:=Zq c5
     clear c5
     obtain⟨bq6,hbq6⟩:∃b_:Bool,b_=(rdOf false l0 x4_1):=⟨_,rfl⟩
     replace H:(if bq6=true then (if x3_1.length<17592186044416 then (spec_l07List.l0 k1 l0 (x3_1++[x4_1]) (wrap64 (x4_1+1))) else (none)) else (spec_l07List.l0 k1 l0 x3_1 (wrap64 (x4_1+1))))=some r:=by rw[←hbq6] at H;exact H
     have Nbq6:=Za hbq6
     clear hbq6
     by_cases c7:bq6=true
     ·subst c7
      rw[if_pos rfl] at H
      by_cases c8:x3_1.length<17592186044416
      ·rw[if_pos c8] at H
       have LMc8:=Za c8
       clear c8
       obtain⟨y166,hy166⟩:∃y_:List Int,y_=(x3_1++[x4_1]):=⟨_,rfl⟩
       replace H:(spec_l07List.l0 k1 l0 y166 (wrap64 (x4_1+1)))=some r:=by first|(rw[hy166];with_reducible exact H)|(have H2_:=(Yk _ _).symm.trans H;rw[hy166];with_reducible exact H2_)|(have H2_:=(Yk _ _).symm.trans H;with_reducible exact H2_)|with_reducible exact H|(rw[hy166];exact H)|exact H
       have Ny166:=Za hy166
       clear hy166
       have H':=Za H
       clear H
       have p165:0≤(x4_1:Int):=Zj z5_1
       have q165:x4_1<(l0.length:Int):=Zj z5_1
       obtain⟨ad165,e165,hx165_0⟩:=Kd.at_bool HR0.out x4_1 p165 q165
       (try rw[←Nbq6.out] at hx165_0)
       cases e165
       replace hx165_0:=(HB.out.cell (Zf w _ hx165_0)).trans hx165_0
       replace p165:=eq_true p165
       replace q165:=eq_true q165
       go_wp2_with (first|((with_reducible refine gate_builtin (b:= .append) (xs:= #[.tmp 16,.tmp 18]) rfl ?_);at_builtin;refine Kd.R_append (Kd.int .i64) (w0:=w) w.heap.size rfl (.tmp 16) (.tmp 18) 25 3 (.int .i64 0) 8 rfl Tryz.underlying25 info3 rfl (by decide) (by omega) u3 x3_1 x4_1 [.int .i64 x4_1] (fun _=>True) (fun _=>False) rfl rfl ?aP (fun _ hk=>hk.elim) ?aF ?aO ?aB ?aS ?aL ?_;(case aP=>exact rfl);(case aB=>exact z5_0);(case aF=>exact(fun _ _=>trivial));(case aO=>exact z5_5);(case aS=>exact(Zt z5_0));(case aL=>have:=LMc8.out;omega);intro v167 w9 ho hb hg hat;rw[←Ny166.out] at ho;have n0_:=Za (hb);have n1_:=Za (ho);clear HB;clear HO_3;have HB:=n0_;have HO168:=n1_;clear n0_ n1_;clear ho hb hg hat))
       go_roundg k1
       case measure=>have:=HK1.out;omega
       case rel=>exact⟨(y166),(wrap64 (x4_1+1)),z5_3,H',⟨by have:=HK1.out;omega⟩,⟨by(with_reducible repeat(first|apply Zp|apply Zo|apply Zn));exact HO168.out⟩,⟨by repeat(first|(with_reducible first|exact HB.out|apply Zh|apply Ze|apply Zd)|exact HB.out)⟩⟩
      ·rw[if_neg c8] at H
       exact absurd H (by simp)
     ·replace c7:=Bool.eq_false_iff.mpr c7
      subst c7
      rw[if_neg (show ¬(false=true) by decide)] at H
      have H':=Za H
      clear H
      have p165:0≤(x4_1:Int):=Zj z5_1
      have q165:x4_1<(l0.length:Int):=Zj z5_1
      obtain⟨ad165,e165,hx165_0⟩:=Kd.at_bool HR0.out x4_1 p165 q165
      (try rw[←Nbq6.out] at hx165_0)
      cases e165
      replace hx165_0:=(HB.out.cell (Zf w _ hx165_0)).trans hx165_0
      replace p165:=eq_true p165
      replace q165:=eq_true q165
      go_wp2
      go_roundg k1
      case measure=>have:=HK1.out;omega
      case rel=>exact⟨(x3_1),(wrap64 (x4_1+1)),z5_3,H',⟨by have:=HK1.out;omega⟩,⟨by(with_reducible repeat(first|apply Zp|apply Zo|apply Zn));exact HO_3.out⟩,⟨by repeat(first|(with_reducible first|exact HB.out|apply Zh|apply Ze|apply Zd)|exact HB.out)⟩⟩
    ·rw[if_neg c5] at H
     exact absurd H (by simp)
   ·rw[if_neg c4] at H
    have c4b0:decide (x4_1<(l0.length:Int))=false:=Yg c4
    clear c4
    obtain rfl:=Zm H
    go_wp2
    go_ret
    exact⟨_,by first|rfl|(simp[errW_none,errW_some]<;>rfl)|(simp[*,errW_none,errW_some]<;>rfl)|(simp[*,errW_none,errW_some,i64_w];done),by(with_reducible repeat(first|apply Zp|apply Zo|apply Zn));exact HO_3.out,by repeat(first|(with_reducible first|exact HB.out|apply Zh|apply Ze|apply Zd)|exact HB.out)⟩
/-! ### spec_MayWrite: function 23 -/
mutual
def spec_MayWrite.l0:Nat→List (S77)→List Bool→Int→Option (List Int)
 |0,_,_,_=>none
 |k+1,x0,x3,x4=>if x4<(x0.length:Int) then ((spec_BlockOk.f k x0).bind fun t172=>(spec_MayWrite.j1 k x0 x3 x4 t172)) else (spec_MayWrite.j1 k x0 x3 x4 false)
def spec_MayWrite.j1:Nat→List (S77)→List Bool→Int→Bool→Option (List Int)
 |0,_,_,_,_=>none
 |k+1,x0,x3,x4,x13=>if x13=true then (if 0≤x4 then (if x4<(x0.length:Int) then ((spec_l07Writes.f ((rd_T77 x0 x4).f0) ((rd_T77 x0 x4).f1) ((rd_T77 x0 x4).f2) ((rd_T77 x0 x4).f3.f0) ((rd_T77 x0 x4).f3.f1) ((rd_T77 x0 x4).f3.f2)).bind fun t174=>(if t174=true then (if 0≤((rd_T77 x0 x4).f1) then (if ((rd_T77 x0 x4).f1)<(x3.length:Int) then (spec_MayWrite.l0 k x0 (x3.set (((rd_T77 x0 x4).f1):Int).toNat true) (wrap64 (x4+1))) else (none)) else (none)) else (spec_MayWrite.l0 k x0 x3 (wrap64 (x4+1))))) else (none)) else (none)) else ((spec_l07List.f k x3).bind fun t177=>(some t177))
end
def spec_MayWrite.f (k:Nat) (l0:List (S77)):Option (List Int):=if 8≤281474976710656 then (spec_MayWrite.l0 k l0 (List.replicate 8 false) 0) else (none)
set_option maxHeartbeats 8000000 in
set_option maxRecDepth 100000 in
theorem spec_MayWrite.calls (k:Nat) (A0:Option Addr) (c0:Nat) (l0:List (S77)) (r:List Int) (w:World) (hr0:Kd.C k77 w A0 l0.length l0) (hc0:l0.length≤c0) (h:spec_MayWrite.f k l0=some r):
  Calls Tryz.prog 23 #[.slice A0 l0.length c0] w fun e w'=>∃v0_:Value,e= .returned (v0_)∧Kd.R (Kd.int .i64) 3 w' w.heap.size (fun _=>True) v0_ r∧Below w.heap.size w w':=by
 have hu77:=Tryz.underlying77
 have HR0:=Za hr0
 have HC0:=Za hc0
 clear hr0 hc0
 have HB:=Za (Yc w.heap.size w)
 have H:(if 8≤281474976710656 then (spec_MayWrite.l0 k l0 (List.replicate 8 false) 0) else (none))=some r:=h
 clear h
 by_cases c2:8≤281474976710656
 ·rw[if_pos c2] at H
  have c2b0:=eq_true c2
  have c2b1:decide (8≤281474976710656)=true:=Zq c2
  clear c2
  obtain⟨y169,hy169⟩:∃y_:List Bool,y_=(List.replicate 8 false):=⟨_,rfl⟩
  replace H:(spec_MayWrite.l0 k l0 y169 0)=some r:=by first|(rw[hy169];with_reducible exact H)|(have H2_:=(Yk _ _).symm.trans H;rw[hy169];with_reducible exact H2_)|(have H2_:=(Yk _ _).symm.trans H;with_reducible exact H2_)|with_reducible exact H|(rw[hy169];exact H)|exact H
  have Ny169:=Za hy169
  clear hy169
  have H':=Za H
  clear H
  go_enter Tryz.func23,Tryz.ntmps23
  go_wp2_with (first|((with_reducible refine Zr (N:=5) rfl ?_);refine Kd.R_make Kd.bool _ 4 rfl (N:=5) rfl 73 _ _ rfl 8 rfl rfl Tryz.underlying73 (.bool false) 1 info4 rfl (by decide) (by omega) false (ok:=fun _=>True) (okp:=fun _=>True) rfl (fun _ hk=>hk) trivial (by omega) (by omega) (Yc _ _) (Nat.le_refl _) ?_;intro v170 w3 ho4 hb hg_ hnew_;clear hg_ hnew_;(first|rw[←Ny169.out] at ho4|(simp only[Int.reduceToNat] at ho4;rw[←Ny169.out] at ho4));have HO171:=Za (Yq ho4 (Zt z5_0));replace HB:=Za (Zi z5_0 hb);clear hb ho4))
  go_loopg [4] k (fun kq v4 w'=>∃(x3_1:List Bool) (x4_1:Int),v4= .int .i64 x4_1∧Aside0 (spec_MayWrite.l0 kq l0 x3_1 x4_1=some r)∧Aside0 (kq≤k)∧Aside0 (Kd.R Kd.bool 4 w' w.heap.size (fun _=>True) v170 x3_1)∧Aside0 (Below w.heap.size w w'))
  case atStart=>exact⟨(y169),(0),z5_3,H',⟨Nat.le_refl _⟩,⟨by(with_reducible repeat(first|apply Zp|apply Zo|apply Zn));exact HO171.out⟩,⟨by repeat(first|(with_reducible first|exact HB.out|apply Zh|apply Ze|apply Zd)|exact HB.out)⟩⟩
  case round=>
   clear H'
   (try clear c2);(try clear c2b0);(try clear c2b1)
   obtain⟨x3_1,x4_1,rfl,HA,HK1,HO_3,HB⟩:=hrel
   cases gk with
   |zero=>exact absurd HA.out (by simp[spec_MayWrite.l0])
   |succ k1=>
    have H:=HA.out
    clear HA
    simp only[spec_MayWrite.l0] at H
    have HC5:=Za H
    clear H
    go_upto_region 3 with(fail)
    go_cut [13] (fun v13 wc=>∃(kq:Nat) (x13_4:Bool),v13= .bool x13_4∧Aside0 (spec_MayWrite.j1 kq l0 x3_1 x4_1 x13_4=some r)∧Aside0 (kq≤k1)∧Aside0 (Kd.R Kd.bool 4 wc w.heap.size (fun _=>True) v170 x3_1)∧Aside0 (Below w.heap.size w wc))
    case first=>
     have H:=HC5.out
     clear HC5
     by_cases c6:x4_1<(l0.length:Int)
     ·rw[if_pos c6] at H
      have c6b0:decide (x4_1<(l0.length:Int))=true:=Zq c6
      clear c6
      (first|rw[c6b0]|(simp only[i64_w,i32_w];rw[c6b0])|skip)
      replace H:=Zl H
      obtain⟨t172,A70,H⟩:=H
      replace H:(spec_MayWrite.j1 k1 l0 x3_1 x4_1 t172)=some r:=H
      have A7:=Za A70
      clear A70
      have H':=Za H
      clear H
      go_wp2_with (first|(go_at_call 50;(with_reducible refine(spec_BlockOk.calls k1 _ _ l0 t172 _ ?side1 ?side2 A7.out).mono ?_);(case side1=>repeat(first|exact(Yj HR0.out HB.out)|(with_reducible refine Yh ?_ _)|(with_reducible refine Ye ?_ _)|(with_reducible refine Yi ?_)));(case side2=>exact HC0.out);rintro e w8 ⟨rfl,hb⟩;replace HO_3:=Za (Kd.R_below z5_5 hb);replace HB:=Za (Zi z5_0 hb);(try clear hb);(try clear hb2);(try clear hk);(try clear hi)))
      go_meet
      case rel=>exact⟨_,(t172),z5_3,H',⟨by have:=HK1.out;first|omega|exact Nat.le_refl _⟩,⟨by(with_reducible repeat(first|apply Zp|apply Zo|apply Zn));exact HO_3.out⟩,⟨by repeat(first|(with_reducible first|exact HB.out|apply Zh|apply Ze|apply Zd)|exact HB.out)⟩⟩
     ·rw[if_neg c6] at H
      have c6b0:decide (x4_1<(l0.length:Int))=false:=Yg c6
      clear c6
      (first|rw[c6b0]|(simp only[i64_w,i32_w];rw[c6b0])|skip)
      have H':=Za H
      clear H
      go_wp2
      go_meet
      case rel=>exact⟨_,(false),z5_3,H',⟨by have:=HK1.out;first|omega|exact Nat.le_refl _⟩,⟨by(with_reducible repeat(first|apply Zp|apply Zo|apply Zn));exact HO_3.out⟩,⟨by repeat(first|(with_reducible first|exact HB.out|apply Zh|apply Ze|apply Zd)|exact HB.out)⟩⟩
    case rest=>
     clear HC5
     (try clear c2);(try clear c2b0);(try clear c2b1)
     obtain⟨kq,x13_4,rfl,HA,HJ4,HO_3,HB⟩:=hcut
     cases kq with
     |zero=>exact absurd HA.out (by simp[spec_MayWrite.j1])
     |succ kj4=>
      have H:=HA.out
      clear HA
      simp only[spec_MayWrite.j1] at H
      by_cases c9:x13_4=true
      ·subst c9
       rw[if_pos rfl] at H
       by_cases c10:0≤x4_1
       ·rw[if_pos c10] at H
        have c10b0:decide (0≤x4_1)=true:=Zq c10
        clear c10
        by_cases c11:x4_1<(l0.length:Int)
        ·rw[if_pos c11] at H
         have c11b0:decide (x4_1<(l0.length:Int))=true:=Zq c11
         clear c11
         replace H:=Zl H
         obtain⟨t174,A120,H⟩:=H
         replace H:(if t174=true then (if 0≤((rd_T77 l0 x4_1).f1) then (if ((rd_T77 l0 x4_1).f1)<(x3_1.length:Int) then (spec_MayWrite.l0 kj4 l0 (x3_1.set (((rd_T77 l0 x4_1).f1):Int).toNat true) (wrap64 (x4_1+1))) else (none)) else (none)) else (spec_MayWrite.l0 kj4 l0 x3_1 (wrap64 (x4_1+1))))=some r:=H
         have A12:=Za A120
         clear A120
         by_cases c13:t174=true
         ·subst c13
          rw[if_pos rfl] at H
          by_cases c14:0≤((rd_T77 l0 x4_1).f1)
          ·rw[if_pos c14] at H
           have c14b0:decide (0≤((rd_T77 l0 x4_1).f1))=true:=Zq c14
           clear c14
           by_cases c15:((rd_T77 l0 x4_1).f1)<(x3_1.length:Int)
           ·rw[if_pos c15] at H
            have c15b0:decide (((rd_T77 l0 x4_1).f1)<(x3_1.length:Int))=true:=Zq c15
            clear c15
            obtain⟨y176,hy176⟩:∃y_:List Bool,y_=(x3_1.set (((rd_T77 l0 x4_1).f1):Int).toNat true):=⟨_,rfl⟩
            replace H:(spec_MayWrite.l0 kj4 l0 y176 (wrap64 (x4_1+1)))=some r:=by first|(rw[hy176];with_reducible exact H)|(have H2_:=(Yk _ _).symm.trans H;rw[hy176];with_reducible exact H2_)|(have H2_:=(Yk _ _).symm.trans H;with_reducible exact H2_)|with_reducible exact H|(rw[hy176];exact H)|exact H
            have Ny176:=Za hy176
            clear hy176
            have H':=Za H
            clear H
            have p173:0≤(x4_1:Int):=Zj z5_1
            have q173:x4_1<(l0.length:Int):=Zj z5_1
            obtain⟨ad173,e173,hx173_0,hx173_1,hx173_2,hx173_3,hx173_4,hx173_5⟩:=at_T77 HR0.out x4_1 p173 q173
            cases e173
            replace hx173_0:=(HB.out.cell (Zf w _ hx173_0)).trans hx173_0
            replace hx173_1:=(HB.out.cell (Zf w _ hx173_1)).trans hx173_1
            replace hx173_2:=(HB.out.cell (Zf w _ hx173_2)).trans hx173_2
            replace hx173_3:=(HB.out.cell (Zf w _ hx173_3)).trans hx173_3
            replace hx173_4:=(HB.out.cell (Zf w _ hx173_4)).trans hx173_4
            replace hx173_5:=(HB.out.cell (Zf w _ hx173_5)).trans hx173_5
            replace p173:=eq_true p173
            replace q173:=eq_true q173
            go_wp2_with (first|((first|((with_reducible refine gate_callee (f:=51) rfl ?_);refine goesL_ (some 20) rfl rfl Tryz.func51 (by kernel_rfl) rfl #[.agg #[.int .i64 ((rd_T77 l0 x4_1).f0),.int .i64 ((rd_T77 l0 x4_1).f1),.int .i64 ((rd_T77 l0 x4_1).f2),.int .i64 ((rd_T77 l0 x4_1).f3.f0),.int .i64 ((rd_T77 l0 x4_1).f3.f1),.int .i64 ((rd_T77 l0 x4_1).f3.f2)]] rfl z5_2 ?_;(with_reducible refine(spec_l07Writes.calls ((rd_T77 l0 x4_1).f0) ((rd_T77 l0 x4_1).f1) ((rd_T77 l0 x4_1).f2) ((rd_T77 l0 x4_1).f3.f0) ((rd_T77 l0 x4_1).f3.f1) ((rd_T77 l0 x4_1).f3.f2) true _ A12.out).mono ?_))|(go_at_call 51;(with_reducible refine(spec_l07Writes.calls ((rd_T77 l0 x4_1).f0) ((rd_T77 l0 x4_1).f1) ((rd_T77 l0 x4_1).f2) ((rd_T77 l0 x4_1).f3.f0) ((rd_T77 l0 x4_1).f3.f1) ((rd_T77 l0 x4_1).f3.f2) true _ A12.out).mono ?_)));rintro e w17 ⟨rfl,hb⟩;(first|refine⟨_,rfl,?_⟩|skip);replace HO_3:=Za (Kd.R_below z5_5 hb);replace HB:=Za (Zi z5_0 hb);(try clear hb);(try clear hb2);(try clear hk);(try clear hi);have p175:0≤(x4_1:Int):=Zj z5_1;have q175:x4_1<(l0.length:Int):=Zj z5_1;obtain⟨ad175,e175,hx175_0,hx175_1,hx175_2,hx175_3,hx175_4,hx175_5⟩:=at_T77 HR0.out x4_1 p175 q175;obtain rfl:ad173=ad175:=(by injection e175);replace hx175_0:=(HB.out.cell (Zf w _ hx175_0)).trans hx175_0;replace hx175_1:=(HB.out.cell (Zf w _ hx175_1)).trans hx175_1;replace hx175_2:=(HB.out.cell (Zf w _ hx175_2)).trans hx175_2;replace hx175_3:=(HB.out.cell (Zf w _ hx175_3)).trans hx175_3;replace hx175_4:=(HB.out.cell (Zf w _ hx175_4)).trans hx175_4;replace hx175_5:=(HB.out.cell (Zf w _ hx175_5)).trans hx175_5;replace p175:=eq_true p175;replace q175:=eq_true q175;have p16:0≤(((rd_T77 l0 x4_1).f1):Int):=Zj z5_1;have q16:(((rd_T77 l0 x4_1).f1):Int)<((x3_1.length:Int):Int):=Zj z5_1;obtain⟨go16,co16,eo16,gb16,gl16,cl16,HG16⟩:=Kd.R_form HO_3.out (by omega);(first|cases eo16|(injection eo16 with ea_ en_ ec_;(first|subst ea_|(injection ea_ with ea_;subst ea_));subst ec_;clear en_));have GB16:=Za gb16;have GG16:=Za HG16;clear gb16 gl16 HG16;obtain⟨hx16_0,hf16_0⟩:=Kd.R_celln false HO_3.out (((rd_T77 l0 x4_1).f1):Int) p16 q16;replace p16:=eq_true p16;replace q16:=eq_true q16;obtain⟨hy18_,hz18_⟩:=Kd.R_celln false HO_3.out (((rd_T77 l0 x4_1).f1):Int) (Zj z5_1) (Zj z5_1);have HP18:=Kd.R_putg HO_3.out (((rd_T77 l0 x4_1).f1):Int) true)|((with_reducible refine Ym (t:=4) (p:=27) rfl ?_);refine Yl (t:=4) (p:=27) (v:= ?vo_w19) (w1:=(w17.setCell ⟨go16,(((rd_T77 l0 x4_1).f1):Int).toNat,none⟩ (.bool true))) ?hg ?ho ?hn ?hr ?_;(case ho=>rfl);(case hg=>rfl);(case hn=>rfl);(case hr=>exact z5_9);intro w19 hw;have hg:w17.grownBy w19 (some go16):=(by rw[hw];exact HP18.2);have hp_:Kd.R Kd.bool 4 w19 w.heap.size (fun _=>True) (.slice (some ⟨go16,0,none⟩) x3_1.length co16) y176:=(by rw[hw,Ny176.out];exact HP18.1);clear HP18;replace HO_3:=Za (hp_);replace HB:=Za ((by rw[hw];exact Zg (HB.out) GB16.out:Below w.heap.size w w19));clear hg hw hp_))
            go_roundg kj4
            case measure=>have:=HK1.out;have:=HJ4.out;omega
            case rel=>exact⟨(y176),(wrap64 (x4_1+1)),z5_3,H',⟨by have:=HK1.out;have:=HJ4.out;omega⟩,⟨by(with_reducible repeat(first|apply Zp|apply Zo|apply Zn));exact HO_3.out⟩,⟨by repeat(first|(with_reducible first|exact HB.out|apply Zh|apply Ze|apply Zd)|exact HB.out)⟩⟩
           ·rw[if_neg c15] at H
            exact absurd H (by simp)
          ·rw[if_neg c14] at H
           exact absurd H (by simp)
         ·replace c13:=Bool.eq_false_iff.mpr c13
          subst c13
          rw[if_neg (show ¬(false=true) by decide)] at H
          have H':=Za H
          clear H
          have p173:0≤(x4_1:Int):=Zj z5_1
          have q173:x4_1<(l0.length:Int):=Zj z5_1
          obtain⟨ad173,e173,hx173_0,hx173_1,hx173_2,hx173_3,hx173_4,hx173_5⟩:=at_T77 HR0.out x4_1 p173 q173
          cases e173
          replace hx173_0:=(HB.out.cell (Zf w _ hx173_0)).trans hx173_0
          replace hx173_1:=(HB.out.cell (Zf w _ hx173_1)).trans hx173_1
          replace hx173_2:=(HB.out.cell (Zf w _ hx173_2)).trans hx173_2
          replace hx173_3:=(HB.out.cell (Zf w _ hx173_3)).trans hx173_3
          replace hx173_4:=(HB.out.cell (Zf w _ hx173_4)).trans hx173_4
          replace hx173_5:=(HB.out.cell (Zf w _ hx173_5)).trans hx173_5
          replace p173:=eq_true p173
          replace q173:=eq_true q173
          go_wp2_with (first|((first|((with_reducible refine gate_callee (f:=51) rfl ?_);refine goesL_ (some 20) rfl rfl Tryz.func51 (by kernel_rfl) rfl #[.agg #[.int .i64 ((rd_T77 l0 x4_1).f0),.int .i64 ((rd_T77 l0 x4_1).f1),.int .i64 ((rd_T77 l0 x4_1).f2),.int .i64 ((rd_T77 l0 x4_1).f3.f0),.int .i64 ((rd_T77 l0 x4_1).f3.f1),.int .i64 ((rd_T77 l0 x4_1).f3.f2)]] rfl z5_2 ?_;(with_reducible refine(spec_l07Writes.calls ((rd_T77 l0 x4_1).f0) ((rd_T77 l0 x4_1).f1) ((rd_T77 l0 x4_1).f2) ((rd_T77 l0 x4_1).f3.f0) ((rd_T77 l0 x4_1).f3.f1) ((rd_T77 l0 x4_1).f3.f2) false _ A12.out).mono ?_))|(go_at_call 51;(with_reducible refine(spec_l07Writes.calls ((rd_T77 l0 x4_1).f0) ((rd_T77 l0 x4_1).f1) ((rd_T77 l0 x4_1).f2) ((rd_T77 l0 x4_1).f3.f0) ((rd_T77 l0 x4_1).f3.f1) ((rd_T77 l0 x4_1).f3.f2) false _ A12.out).mono ?_)));rintro e w20 ⟨rfl,hb⟩;(first|refine⟨_,rfl,?_⟩|skip);replace HO_3:=Za (Kd.R_below z5_5 hb);replace HB:=Za (Zi z5_0 hb);(try clear hb);(try clear hb2);(try clear hk);(try clear hi)))
          go_roundg kj4
          case measure=>have:=HK1.out;have:=HJ4.out;omega
          case rel=>exact⟨(x3_1),(wrap64 (x4_1+1)),z5_3,H',⟨by have:=HK1.out;have:=HJ4.out;omega⟩,⟨by(with_reducible repeat(first|apply Zp|apply Zo|apply Zn));exact HO_3.out⟩,⟨by repeat(first|(with_reducible first|exact HB.out|apply Zh|apply Ze|apply Zd)|exact HB.out)⟩⟩
        ·rw[if_neg c11] at H
         exact absurd H (by simp)
       ·rw[if_neg c10] at H
        exact absurd H (by simp)
      ·replace c9:=Bool.eq_false_iff.mpr c9
       subst c9
       rw[if_neg (show ¬(false=true) by decide)] at H
       replace H:=Zl H
       obtain⟨t177,A210,H⟩:=H
       replace H:(some t177)=some r:=H
       have A21:=Za A210
       clear A210
       obtain rfl:=Zm H
       obtain⟨Ao22,co22,eo22⟩:=Yp HO_3.out
       subst eo22
       go_wp2_with (first|((first|((with_reducible refine gate_callee (f:=52) rfl ?_);refine goesL_ (some 29) rfl rfl Tryz.func52 (by kernel_rfl) rfl #[.slice Ao22 x3_1.length co22] rfl z5_2 ?_;(with_reducible refine(spec_l07List.calls kj4 _ _ x3_1 t177 _ ?side1 ?side2 A21.out).mono ?_))|(go_at_call 52;(with_reducible refine(spec_l07List.calls kj4 _ _ x3_1 t177 _ ?side1 ?side2 A21.out).mono ?_)));(case side1=>repeat(first|exact(Yd HO_3.out).2.2|(with_reducible refine Yh ?_ _)|(with_reducible refine Ye ?_ _)|(with_reducible refine Yi ?_)));(case side2=>exact(Yd HO_3.out).2.1);rintro e w23 ⟨v178,rfl,ho0,hb⟩;(first|refine⟨_,rfl,?_⟩|skip);replace HO_3:=Za (Kd.R_below z5_5 hb);have HO179:=Za (Yq ho0 (Zt z5_0));replace HB:=Za (Zi z5_0 hb);(try clear hb);(try clear hb2);(try clear hk);(try clear hi);(try clear ho0)))
       go_ret
       exact⟨_,by first|rfl|(simp[errW_none,errW_some]<;>rfl)|(simp[*,errW_none,errW_some]<;>rfl)|(simp[*,errW_none,errW_some,i64_w];done),by(with_reducible repeat(first|apply Zp|apply Zo|apply Zn));exact HO179.out,by repeat(first|(with_reducible first|exact HB.out|apply Zh|apply Ze|apply Zd)|exact HB.out)⟩
 ·rw[if_neg c2] at H
  exact absurd H (by simp)
def spec_HasVar.l0:Nat→List Int→Int→Int→Option (Bool)
 |0,_,_,_=>none
 |k+1,x0,x1,x5=>if x5<(x0.length:Int) then (if 0≤x5 then (if (rd x0 x5)=x1 then (some true) else (spec_HasVar.l0 k x0 x1 (wrap64 (x5+1)))) else (none)) else (some false)
def spec_HasVar.f (k:Nat) (l0:List Int) (a1:Int):Option (Bool):=spec_HasVar.l0 k l0 a1 0
set_option maxHeartbeats 8000000 in
set_option maxRecDepth 100000 in
theorem spec_HasVar.calls (k:Nat) (A0:Option Addr) (c0:Nat) (l0:List Int) (a1:Int) (r:Bool) (w:World) (hr0:Kd.C (Kd.int .i64) w A0 l0.length l0) (hc0:l0.length≤c0) (h:spec_HasVar.f k l0 a1=some r):
  Calls Tryz.prog 25 #[.slice A0 l0.length c0,.int .i64 a1] w fun e w'=>e= .returned (.bool r)∧Drawn0 w w':=by
 have HR0:=Za hr0
 have HC0:=Za hc0
 clear hr0 hc0
 have H:(spec_HasVar.l0 k l0 a1 0)=some r:=h
 clear h
 have H':=Za H
 clear H
 go_enter Tryz.func25,Tryz.ntmps25
 go_wp2
 go_loopg [5] k (fun kq v5 w'=>∃(x5_1:Int),v5= .int .i64 x5_1∧Aside0 (spec_HasVar.l0 kq l0 a1 x5_1=some r)∧Aside0 (kq≤k)∧Drawn0 w w')
 case atStart=>exact⟨(0),z5_3,H',⟨Nat.le_refl _⟩,by repeat(first|exact Zz _|apply Ya)⟩
 case round=>
  clear H'
  obtain⟨x5_1,rfl,HA,HK1,⟨m1,rfl⟩⟩:=hrel
  cases gk with
  |zero=>exact absurd HA.out (by simp[spec_HasVar.l0])
  |succ k1=>
   have H:=HA.out
   clear HA
   simp only[spec_HasVar.l0] at H
   by_cases c3:x5_1<(l0.length:Int)
   ·rw[if_pos c3] at H
    have c3b0:decide (x5_1<(l0.length:Int))=true:=Zq c3
    clear c3
    by_cases c4:0≤x5_1
    ·rw[if_pos c4] at H
     have c4b0:decide (0≤x5_1)=true:=Zq c4
     clear c4
     by_cases c5:(rd l0 x5_1)=a1
     ·rw[if_pos c5] at H
      have c5b0:((rd l0 x5_1)==a1)=true:=beq_iff_eq.mpr c5
      have c5b1:((rd l0 x5_1) != a1)=false:=bne_eq_false_iff_eq.mpr c5
      clear c5
      obtain rfl:=Zm H
      have p180:0≤(x5_1:Int):=Zj z5_1
      have q180:x5_1<(l0.length:Int):=Zj z5_1
      obtain⟨ad180,e180,hx180_0⟩:=Kd.at_int HR0.out x5_1 p180 q180
      cases e180
      replace p180:=eq_true p180
      replace q180:=eq_true q180
      go_wp2
      go_ret
      exact⟨by first|rfl|(simp;done)|(simp[*];done),by repeat(first|exact Zz _|apply Ya)⟩
     ·rw[if_neg c5] at H
      have c5b0:((rd l0 x5_1)==a1)=false:=beq_eq_false_iff_ne.mpr c5
      have c5b1:((rd l0 x5_1) != a1)=true:=bne_iff_ne.mpr c5
      have H':=Za H
      clear H
      have p180:0≤(x5_1:Int):=Zj z5_1
      have q180:x5_1<(l0.length:Int):=Zj z5_1
      obtain⟨ad180,e180,hx180_0⟩:=Kd.at_int HR0.out x5_1 p180 q180
      cases e180
      replace p180:=eq_true p180
      replace q180:=eq_true q180
      go_wp2
      go_roundg k1
      case measure=>have:=HK1.out;omega
      case rel=>exact⟨(wrap64 (x5_1+1)),z5_3,H',⟨by have:=HK1.out;omega⟩,by repeat(first|exact Zz _|apply Ya)⟩
    ·rw[if_neg c4] at H
     exact absurd H (by simp)
   ·rw[if_neg c3] at H
    have c3b0:decide (x5_1<(l0.length:Int))=false:=Yg c3
    clear c3
    obtain rfl:=Zm H
    go_wp2
    go_ret
    exact⟨by first|rfl|(simp;done)|(simp[*];done),by repeat(first|exact Zz _|apply Ya)⟩
def spec_l08Ok.f (k:Nat) (l0_0:List (S77)) (a0_1:Int) (a0_2:Int) (a0_3:Int):Option (Bool):=(spec_BlockOk.f k l0_0).bind fun t182=>(if t182=true then ((spec_ExprOk.f a0_1 a0_2 a0_3).bind fun t183=>(some t183)) else (some false))
set_option maxHeartbeats 8000000 in
set_option maxRecDepth 100000 in
theorem spec_l08Ok.calls (k:Nat) (A0_0:Option Addr) (c0_0:Nat) (l0_0:List (S77)) (a0_1:Int) (a0_2:Int) (a0_3:Int) (r:Bool) (w:World) (hr0_0:Kd.C k77 w A0_0 l0_0.length l0_0) (hc0_0:l0_0.length≤c0_0) (h:spec_l08Ok.f k l0_0 a0_1 a0_2 a0_3=some r):
  Calls Tryz.prog 53 #[.agg #[.slice A0_0 l0_0.length c0_0,.int .i64 a0_1,.int .i64 a0_2,.int .i64 a0_3]] w fun e w'=>e= .returned (.bool r)∧Below w.heap.size w w':=by
 have hu55:=Tryz.underlying55
 have hu53:=Tryz.underlying53
 have HR0_0:=Za hr0_0
 have HC0_0:=Za hc0_0
 clear hr0_0 hc0_0
 have HB:=Za (Yc w.heap.size w)
 have H:((spec_BlockOk.f k l0_0).bind fun t182=>(if t182=true then ((spec_ExprOk.f a0_1 a0_2 a0_3).bind fun t183=>(some t183)) else (some false)))=some r:=h
 clear h
 replace H:=Zl H
 obtain⟨t182,A20,H⟩:=H
 replace H:(if t182=true then ((spec_ExprOk.f a0_1 a0_2 a0_3).bind fun t183=>(some t183)) else (some false))=some r:=H
 have A2:=Za A20
 clear A20
 by_cases c3:t182=true
 ·subst c3
  rw[if_pos rfl] at H
  replace H:=Zl H
  obtain⟨t183,A40,H⟩:=H
  replace H:(some t183)=some r:=H
  have A4:=Za A40
  clear A40
  obtain rfl:=Zm H
  go_enter Tryz.func53,Tryz.ntmps53
  go_wp2_with (first|((with_reducible refine Zr (N:=1) rfl ?_);refine Zs ?hg (N:=1) ?hd (cs:= #[.slice A0_0 l0_0.length c0_0,.int .i64 a0_1,.int .i64 a0_2,.int .i64 a0_3]) (t:=55) ?hr ?_;(case hd=>rfl);(case hg=>rfl);(case hr=>exact z5_9);intro gb181 hg w5 hbox hb;have BK181:=Za (hbox);have GW181:=Za ((z5_11:w.heap.size≤gb181));have GE181:=Za ((z5_11:w.heap.size≤gb181));replace HB:=Za (Zi z5_0 hb);clear hb hbox hg;have hcz6_0:w5.cell? ⟨gb181,0,none⟩=some (.slice A0_0 l0_0.length c0_0):=(Zb BK181.out 0).trans rfl;have hcz6_1:w5.cell? ⟨gb181,1,none⟩=some (.int .i64 a0_1):=(Zb BK181.out 1).trans rfl;have hcz6_2:w5.cell? ⟨gb181,2,none⟩=some (.int .i64 a0_2):=(Zb BK181.out 2).trans rfl;have hcz6_3:w5.cell? ⟨gb181,3,none⟩=some (.int .i64 a0_3):=(Zb BK181.out 3).trans rfl;have hfz6_0:=Zc BK181.out 0;have hfz6_1:=Zc BK181.out 1;have hfz6_2:=Zc BK181.out 2;have hfz6_3:=Zc BK181.out 3)|((first|((with_reducible refine gate_callee (f:=50) rfl ?_);refine goesL_ (some 5) rfl rfl Tryz.func50 (by kernel_rfl) rfl #[.slice A0_0 l0_0.length c0_0] rfl z5_2 ?_;(with_reducible refine(spec_BlockOk.calls k _ _ l0_0 true _ ?side1 ?side2 A2.out).mono ?_))|(go_at_call 50;(with_reducible refine(spec_BlockOk.calls k _ _ l0_0 true _ ?side1 ?side2 A2.out).mono ?_)));(case side1=>exact z5_4);(case side2=>exact HC0_0.out);rintro e w7 ⟨rfl,hb⟩;(first|refine⟨_,rfl,?_⟩|skip);replace BK181:=Za (Zk (g:=gb181) (o:= .cells #[.slice A0_0 l0_0.length c0_0,.int .i64 a0_1,.int .i64 a0_2,.int .i64 a0_3] 55 (0,0)) z5_10 hb);replace HB:=Za (Zi z5_7 hb);(try clear hb);(try clear hb2);(try clear hk);(try clear hi);have hcz8_0:w7.cell? ⟨gb181,0,none⟩=some (.slice A0_0 l0_0.length c0_0):=(Zb BK181.out 0).trans rfl;have hcz8_1:w7.cell? ⟨gb181,1,none⟩=some (.int .i64 a0_1):=(Zb BK181.out 1).trans rfl;have hcz8_2:w7.cell? ⟨gb181,2,none⟩=some (.int .i64 a0_2):=(Zb BK181.out 2).trans rfl;have hcz8_3:w7.cell? ⟨gb181,3,none⟩=some (.int .i64 a0_3):=(Zb BK181.out 3).trans rfl;have hfz8_0:=Zc BK181.out 0;have hfz8_1:=Zc BK181.out 1;have hfz8_2:=Zc BK181.out 2;have hfz8_3:=Zc BK181.out 3)|(go_at_call 80;(with_reducible refine(spec_ExprOk.calls a0_1 a0_2 a0_3 t183 _ A4.out).mono ?_);rintro e w9 ⟨rfl,hb⟩;replace BK181:=Za (Zk (g:=gb181) (o:= .cells #[.slice A0_0 l0_0.length c0_0,.int .i64 a0_1,.int .i64 a0_2,.int .i64 a0_3] 55 (0,0)) z5_10 hb);replace HB:=Za (Zi z5_7 hb);(try clear hb);(try clear hb2);(try clear hk);(try clear hi)))
  go_ret
  exact⟨by first|rfl|(simp[errW_none,errW_some]<;>rfl)|(simp[*,errW_none,errW_some]<;>rfl)|(simp[*,errW_none,errW_some,i64_w];done),by repeat(first|(with_reducible first|exact HB.out|apply Zh|apply Ze|apply Zd|refine Zg ?_ GE181.out)|exact HB.out)⟩
 ·replace c3:=Bool.eq_false_iff.mpr c3
  subst c3
  rw[if_neg (show ¬(false=true) by decide)] at H
  obtain rfl:=Zm H
  go_enter Tryz.func53,Tryz.ntmps53
  go_wp2_with (first|((with_reducible refine Zr (N:=1) rfl ?_);refine Zs ?hg (N:=1) ?hd (cs:= #[.slice A0_0 l0_0.length c0_0,.int .i64 a0_1,.int .i64 a0_2,.int .i64 a0_3]) (t:=55) ?hr ?_;(case hd=>rfl);(case hg=>rfl);(case hr=>exact z5_9);intro gb181 hg w10 hbox hb;have BK181:=Za (hbox);have GW181:=Za ((z5_11:w.heap.size≤gb181));have GE181:=Za ((z5_11:w.heap.size≤gb181));replace HB:=Za (Zi z5_0 hb);clear hb hbox hg;have hcz11_0:w10.cell? ⟨gb181,0,none⟩=some (.slice A0_0 l0_0.length c0_0):=(Zb BK181.out 0).trans rfl;have hcz11_1:w10.cell? ⟨gb181,1,none⟩=some (.int .i64 a0_1):=(Zb BK181.out 1).trans rfl;have hcz11_2:w10.cell? ⟨gb181,2,none⟩=some (.int .i64 a0_2):=(Zb BK181.out 2).trans rfl;have hcz11_3:w10.cell? ⟨gb181,3,none⟩=some (.int .i64 a0_3):=(Zb BK181.out 3).trans rfl;have hfz11_0:=Zc BK181.out 0;have hfz11_1:=Zc BK181.out 1;have hfz11_2:=Zc BK181.out 2;have hfz11_3:=Zc BK181.out 3)|((first|((with_reducible refine gate_callee (f:=50) rfl ?_);refine goesL_ (some 5) rfl rfl Tryz.func50 (by kernel_rfl) rfl #[.slice A0_0 l0_0.length c0_0] rfl z5_2 ?_;(with_reducible refine(spec_BlockOk.calls k _ _ l0_0 false _ ?side1 ?side2 A2.out).mono ?_))|(go_at_call 50;(with_reducible refine(spec_BlockOk.calls k _ _ l0_0 false _ ?side1 ?side2 A2.out).mono ?_)));(case side1=>exact z5_4);(case side2=>exact HC0_0.out);rintro e w12 ⟨rfl,hb⟩;(first|refine⟨_,rfl,?_⟩|skip);replace BK181:=Za (Zk (g:=gb181) (o:= .cells #[.slice A0_0 l0_0.length c0_0,.int .i64 a0_1,.int .i64 a0_2,.int .i64 a0_3] 55 (0,0)) z5_10 hb);replace HB:=Za (Zi z5_7 hb);(try clear hb);(try clear hb2);(try clear hk);(try clear hi)))
  go_ret
  exact⟨by first|rfl|(simp[errW_none,errW_some]<;>rfl)|(simp[*,errW_none,errW_some]<;>rfl)|(simp[*,errW_none,errW_some,i64_w];done),by repeat(first|(with_reducible first|exact HB.out|apply Zh|apply Ze|apply Zd|refine Zg ?_ GE181.out)|exact HB.out)⟩
def spec_l05Opens.f (a0_0:Int) (a0_1:Int) (a0_2:Int) (a0_3:Int) (a0_4:Int) (a0_5:Int):Option (Bool):=if a0_0=4 then (some true) else (some (a0_0==5))
set_option maxHeartbeats 8000000 in
set_option maxRecDepth 100000 in
theorem spec_l05Opens.calls (a0_0:Int) (a0_1:Int) (a0_2:Int) (a0_3:Int) (a0_4:Int) (a0_5:Int) (r:Bool) (w:World) (h:spec_l05Opens.f a0_0 a0_1 a0_2 a0_3 a0_4 a0_5=some r):
  Calls Tryz.prog 108 #[.agg #[.int .i64 a0_0,.int .i64 a0_1,.int .i64 a0_2,.int .i64 a0_3,.int .i64 a0_4,.int .i64 a0_5]] w fun e w'=>e= .returned (.bool r)∧Below w.heap.size w w':=by
 have hu77:=Tryz.underlying77
 have HB:=Za (Yc w.heap.size w)
 have H:(if a0_0=4 then (some true) else (some (a0_0==5)))=some r:=h
 clear h
 by_cases c2:a0_0=4
 ·rw[if_pos c2] at H
  have c2b0:(a0_0==4)=true:=beq_iff_eq.mpr c2
  have c2b1:(a0_0 != 4)=false:=bne_eq_false_iff_eq.mpr c2
  clear c2
  obtain rfl:=Zm H
  go_enter Tryz.func108,Tryz.ntmps108
  go_wp2_with (first|((with_reducible refine Zr (N:=1) rfl ?_);refine Zs ?hg (N:=1) ?hd (cs:= #[.int .i64 a0_0,.int .i64 a0_1,.int .i64 a0_2,.int .i64 a0_3,.int .i64 a0_4,.int .i64 a0_5]) (t:=77) ?hr ?_;(case hd=>rfl);(case hg=>rfl);(case hr=>exact z5_9);intro gb184 hg w3 hbox hb;have BK184:=Za (hbox);have GW184:=Za ((z5_11:w.heap.size≤gb184));have GE184:=Za ((z5_11:w.heap.size≤gb184));replace HB:=Za (Zi z5_0 hb);clear hb hbox hg;have hcz4_0:w3.cell? ⟨gb184,0,none⟩=some (.int .i64 a0_0):=(Zb BK184.out 0).trans rfl;have hcz4_1:w3.cell? ⟨gb184,1,none⟩=some (.int .i64 a0_1):=(Zb BK184.out 1).trans rfl;have hcz4_2:w3.cell? ⟨gb184,2,none⟩=some (.int .i64 a0_2):=(Zb BK184.out 2).trans rfl;have hcz4_3:w3.cell? ⟨gb184,3,none⟩=some (.int .i64 a0_3):=(Zb BK184.out 3).trans rfl;have hcz4_4:w3.cell? ⟨gb184,4,none⟩=some (.int .i64 a0_4):=(Zb BK184.out 4).trans rfl;have hcz4_5:w3.cell? ⟨gb184,5,none⟩=some (.int .i64 a0_5):=(Zb BK184.out 5).trans rfl;have hfz4_0:=Zc BK184.out 0;have hfz4_1:=Zc BK184.out 1;have hfz4_2:=Zc BK184.out 2;have hfz4_3:=Zc BK184.out 3;have hfz4_4:=Zc BK184.out 4;have hfz4_5:=Zc BK184.out 5))
  go_ret
  exact⟨by first|rfl|(simp[errW_none,errW_some]<;>rfl)|(simp[*,errW_none,errW_some]<;>rfl)|(simp[*,errW_none,errW_some,i64_w];done),by repeat(first|(with_reducible first|exact HB.out|apply Zh|apply Ze|apply Zd|refine Zg ?_ GE184.out)|exact HB.out)⟩
 ·rw[if_neg c2] at H
  have c2b0:(a0_0==4)=false:=beq_eq_false_iff_ne.mpr c2
  have c2b1:(a0_0 != 4)=true:=bne_iff_ne.mpr c2
  obtain rfl:=Zm H
  go_enter Tryz.func108,Tryz.ntmps108
  go_wp2_with (first|((with_reducible refine Zr (N:=1) rfl ?_);refine Zs ?hg (N:=1) ?hd (cs:= #[.int .i64 a0_0,.int .i64 a0_1,.int .i64 a0_2,.int .i64 a0_3,.int .i64 a0_4,.int .i64 a0_5]) (t:=77) ?hr ?_;(case hd=>rfl);(case hg=>rfl);(case hr=>exact z5_9);intro gb184 hg w5 hbox hb;have BK184:=Za (hbox);have GW184:=Za ((z5_11:w.heap.size≤gb184));have GE184:=Za ((z5_11:w.heap.size≤gb184));replace HB:=Za (Zi z5_0 hb);clear hb hbox hg;have hcz6_0:w5.cell? ⟨gb184,0,none⟩=some (.int .i64 a0_0):=(Zb BK184.out 0).trans rfl;have hcz6_1:w5.cell? ⟨gb184,1,none⟩=some (.int .i64 a0_1):=(Zb BK184.out 1).trans rfl;have hcz6_2:w5.cell? ⟨gb184,2,none⟩=some (.int .i64 a0_2):=(Zb BK184.out 2).trans rfl;have hcz6_3:w5.cell? ⟨gb184,3,none⟩=some (.int .i64 a0_3):=(Zb BK184.out 3).trans rfl;have hcz6_4:w5.cell? ⟨gb184,4,none⟩=some (.int .i64 a0_4):=(Zb BK184.out 4).trans rfl;have hcz6_5:w5.cell? ⟨gb184,5,none⟩=some (.int .i64 a0_5):=(Zb BK184.out 5).trans rfl;have hfz6_0:=Zc BK184.out 0;have hfz6_1:=Zc BK184.out 1;have hfz6_2:=Zc BK184.out 2;have hfz6_3:=Zc BK184.out 3;have hfz6_4:=Zc BK184.out 4;have hfz6_5:=Zc BK184.out 5))
  go_ret
  exact⟨by first|rfl|(simp[errW_none,errW_some]<;>rfl)|(simp[*,errW_none,errW_some]<;>rfl)|(simp[*,errW_none,errW_some,i64_w];done),by repeat(first|(with_reducible first|exact HB.out|apply Zh|apply Ze|apply Zd|refine Zg ?_ GE184.out)|exact HB.out)⟩
/-! ### spec_l05End: function 82 -/
mutual
def spec_l05End.l0:Nat→List (S77)→Int→Int→Option (Int)
 |0,_,_,_=>none
 |k+1,x0,x5,x6=>if x6<(x0.length:Int) then (if 0≤x6 then ((spec_l05Opens.f ((rd_T77 x0 x6).f0) ((rd_T77 x0 x6).f1) ((rd_T77 x0 x6).f2) ((rd_T77 x0 x6).f3.f0) ((rd_T77 x0 x6).f3.f1) ((rd_T77 x0 x6).f3.f2)).bind fun t186=>(if t186=true then (spec_l05End.j1 k x0 (wrap64 (x5+1)) x6) else (spec_l05End.j1 k x0 x5 x6))) else (none)) else (some (-1))
def spec_l05End.j1:Nat→List (S77)→Int→Int→Option (Int)
 |0,_,_,_=>none
 |k+1,x0,x5,x6=>if 0≤x6 then (if x6<(x0.length:Int) then (if ((rd_T77 x0 x6).f0)=6 then (if (wrap64 (x5 - 1))=0 then (some x6) else (spec_l05End.l0 k x0 (wrap64 (x5 - 1)) (wrap64 (x6+1)))) else (spec_l05End.l0 k x0 x5 (wrap64 (x6+1)))) else (none)) else (none)
end
def spec_l05End.f (k:Nat) (l0:List (S77)) (a1:Int):Option (Int):=spec_l05End.l0 k l0 0 a1
theorem spec_l05End.mono_l:∀k,(∀y0 y1 y2,LeO (spec_l05End.l0 k y0 y1 y2) (spec_l05End.l0 (k+1) y0 y1 y2))∧(∀y0 y1 y2,LeO (spec_l05End.j1 k y0 y1 y2) (spec_l05End.j1 (k+1) y0 y1 y2))
 |0=>⟨fun _ _ _ r h=>by simp[spec_l05End.l0] at h,fun _ _ _ r h=>by simp[spec_l05End.j1] at h⟩
 |k+1=>by
  obtain⟨ih0,ih1⟩:=spec_l05End.mono_l k
  refine⟨?_,?_⟩
  ·intro y0 y1 y2
   unfold spec_l05End.l0
   repeat' first
   |(with_reducible exact ih0 _ _ _)
   |(with_reducible exact ih1 _ _ _)
   |(with_reducible exact Yn _)
   |(with_reducible exact Yb _)
   |(with_reducible refine Zx ?_ ?_)
   |(with_reducible refine Zy ?_ (fun _=> ?_))
   |exact ih0 _ _ _
   |exact ih1 _ _ _
   |exact Yb _
   |refine Zx ?_ ?_
   |refine Zy ?_ (fun _=> ?_)
  ·intro y0 y1 y2
   unfold spec_l05End.j1
   repeat' first
   |(with_reducible exact ih0 _ _ _)
   |(with_reducible exact ih1 _ _ _)
   |(with_reducible exact Yn _)
   |(with_reducible exact Yb _)
   |(with_reducible refine Zx ?_ ?_)
   |(with_reducible refine Zy ?_ (fun _=> ?_))
   |exact ih0 _ _ _
   |exact ih1 _ _ _
   |exact Yb _
   |refine Zx ?_ ?_
   |refine Zy ?_ (fun _=> ?_)
theorem spec_l05End.mono:∀a0 a1 k,LeO (spec_l05End.f k a0 a1) (spec_l05End.f (k+1) a0 a1):=by
 intro a0 a1 k
 obtain⟨ih0,ih1⟩:=spec_l05End.mono_l k
 unfold spec_l05End.f
 repeat' first
   |(with_reducible exact ih0 _ _ _)
   |(with_reducible exact ih1 _ _ _)
   |(with_reducible exact Yn _)
   |(with_reducible exact Yb _)
   |(with_reducible refine Zx ?_ ?_)
   |(with_reducible refine Zy ?_ (fun _=> ?_))
   |exact ih0 _ _ _
   |exact ih1 _ _ _
   |exact Yb _
   |refine Zx ?_ ?_
   |refine Zy ?_ (fun _=> ?_)
set_option maxHeartbeats 8000000 in
set_option maxRecDepth 100000 in
theorem spec_l05End.calls (k:Nat) (A0:Option Addr) (c0:Nat) (l0:List (S77)) (a1:Int) (r:Int) (w:World) (hr0:Kd.C k77 w A0 l0.length l0) (hc0:l0.length≤c0) (h:spec_l05End.f k l0 a1=some r):
  Calls Tryz.prog 82 #[.slice A0 l0.length c0,.int .i64 a1] w fun e w'=>e= .returned (.int .i64 r)∧Below w.heap.size w w':=by
 have hu77:=Tryz.underlying77
 have HR0:=Za hr0
 have HC0:=Za hc0
 clear hr0 hc0
 have HB:=Za (Yc w.heap.size w)
 have H:(spec_l05End.l0 k l0 0 a1)=some r:=h
 clear h
 have H':=Za H
 clear H
 go_enter Tryz.func82,Tryz.ntmps82
 go_wp2
 go_loopg [5,6] k (fun kq v5 v6 w'=>∃(x5_1:Int) (x6_1:Int),v5= .int .i64 x5_1∧v6= .int .i64 x6_1∧Aside0 (spec_l05End.l0 kq l0 x5_1 x6_1=some r)∧Aside0 (kq≤k)∧Aside0 (Below w.heap.size w w'))
 case atStart=>exact⟨(0),(a1),z5_3,z5_3,H',⟨Nat.le_refl _⟩,⟨by repeat(first|(with_reducible first|exact HB.out|apply Zh|apply Ze|apply Zd)|exact HB.out)⟩⟩
 case round=>
  clear H'
  obtain⟨x5_1,x6_1,rfl,rfl,HA,HK1,HB⟩:=hrel
  cases gk with
  |zero=>exact absurd HA.out (by simp[spec_l05End.l0])
  |succ k1=>
   have H:=HA.out
   clear HA
   simp only[spec_l05End.l0] at H
   by_cases c3:x6_1<(l0.length:Int)
   ·rw[if_pos c3] at H
    have c3b0:decide (x6_1<(l0.length:Int))=true:=Zq c3
    clear c3
    by_cases c4:0≤x6_1
    ·rw[if_pos c4] at H
     have c4b0:decide (0≤x6_1)=true:=Zq c4
     clear c4
     replace H:=Zl H
     obtain⟨t186,A50,H⟩:=H
     replace H:(if t186=true then (spec_l05End.j1 k1 l0 (wrap64 (x5_1+1)) x6_1) else (spec_l05End.j1 k1 l0 x5_1 x6_1))=some r:=H
     have A5:=Za A50
     clear A50
     have HC6:=Za H
     clear H
     have p185:0≤(x6_1:Int):=Zj z5_1
     have q185:x6_1<(l0.length:Int):=Zj z5_1
     obtain⟨ad185,e185,hx185_0,hx185_1,hx185_2,hx185_3,hx185_4,hx185_5⟩:=at_T77 HR0.out x6_1 p185 q185
     cases e185
     replace hx185_0:=(HB.out.cell (Zf w _ hx185_0)).trans hx185_0
     replace hx185_1:=(HB.out.cell (Zf w _ hx185_1)).trans hx185_1
     replace hx185_2:=(HB.out.cell (Zf w _ hx185_2)).trans hx185_2
     replace hx185_3:=(HB.out.cell (Zf w _ hx185_3)).trans hx185_3
     replace hx185_4:=(HB.out.cell (Zf w _ hx185_4)).trans hx185_4
     replace hx185_5:=(HB.out.cell (Zf w _ hx185_5)).trans hx185_5
     replace p185:=eq_true p185
     replace q185:=eq_true q185
     go_upto_if 18 with(first|((first|((with_reducible refine gate_callee (f:=108) rfl ?_);refine goesL_ (some 18) rfl rfl Tryz.func108 (by kernel_rfl) rfl #[.agg #[.int .i64 ((rd_T77 l0 x6_1).f0),.int .i64 ((rd_T77 l0 x6_1).f1),.int .i64 ((rd_T77 l0 x6_1).f2),.int .i64 ((rd_T77 l0 x6_1).f3.f0),.int .i64 ((rd_T77 l0 x6_1).f3.f1),.int .i64 ((rd_T77 l0 x6_1).f3.f2)]] rfl z5_2 ?_;(with_reducible refine(spec_l05Opens.calls ((rd_T77 l0 x6_1).f0) ((rd_T77 l0 x6_1).f1) ((rd_T77 l0 x6_1).f2) ((rd_T77 l0 x6_1).f3.f0) ((rd_T77 l0 x6_1).f3.f1) ((rd_T77 l0 x6_1).f3.f2) t186 _ A5.out).mono ?_))|(go_at_call 108;(with_reducible refine(spec_l05Opens.calls ((rd_T77 l0 x6_1).f0) ((rd_T77 l0 x6_1).f1) ((rd_T77 l0 x6_1).f2) ((rd_T77 l0 x6_1).f3.f0) ((rd_T77 l0 x6_1).f3.f1) ((rd_T77 l0 x6_1).f3.f2) t186 _ A5.out).mono ?_)));rintro e w7 ⟨rfl,hb⟩;(first|refine⟨_,rfl,?_⟩|skip);replace HB:=Za (Zi z5_0 hb);(try clear hb);(try clear hb2);(try clear hk);(try clear hi)))
     (try simp only[Act.put,Zu,Zv,Zw])
     go_cut [5] (fun v5 wc=>∃(kq:Nat) (x5_5:Int),v5= .int .i64 x5_5∧Aside0 (spec_l05End.j1 kq l0 x5_5 x6_1=some r)∧Aside0 (kq≤k1)∧Aside0 (Below w.heap.size w wc))
     case first=>
      have H:=HC6.out
      clear HC6
      by_cases c8:t186=true
      ·subst c8
       rw[if_pos rfl] at H
       have H':=Za H
       clear H
       go_wp2
       go_meet
       case rel=>exact⟨_,(wrap64 (x5_1+1)),z5_3,H',⟨by have:=HK1.out;first|omega|exact Nat.le_refl _⟩,⟨by repeat(first|(with_reducible first|exact HB.out|apply Zh|apply Ze|apply Zd)|exact HB.out)⟩⟩
      ·replace c8:=Bool.eq_false_iff.mpr c8
       subst c8
       rw[if_neg (show ¬(false=true) by decide)] at H
       have H':=Za H
       clear H
       go_wp2
       go_meet
       case rel=>exact⟨_,(x5_1),z5_3,H',⟨by have:=HK1.out;first|omega|exact Nat.le_refl _⟩,⟨by repeat(first|(with_reducible first|exact HB.out|apply Zh|apply Ze|apply Zd)|exact HB.out)⟩⟩
     case rest=>
      clear HC6
      (try clear c3);(try clear c3b0);(try clear c4);(try clear c4b0);(try clear hx185_0);(try clear hx185_1);(try clear hx185_2);(try clear hx185_3);(try clear hx185_4);(try clear hx185_5);(try clear p185);(try clear q185)
      obtain⟨kq,x5_5,rfl,HA,HJ5,HB⟩:=hcut
      cases kq with
      |zero=>exact absurd HA.out (by simp[spec_l05End.j1])
      |succ kj5=>
       have H:=HA.out
       clear HA
       simp only[spec_l05End.j1] at H
       by_cases c9:0≤x6_1
       ·rw[if_pos c9] at H
        have c9b0:decide (0≤x6_1)=true:=Zq c9
        clear c9
        by_cases c10:x6_1<(l0.length:Int)
        ·rw[if_pos c10] at H
         have c10b0:decide (x6_1<(l0.length:Int))=true:=Zq c10
         clear c10
         by_cases c11:((rd_T77 l0 x6_1).f0)=6
         ·rw[if_pos c11] at H
          have c11b0:(((rd_T77 l0 x6_1).f0)==6)=true:=beq_iff_eq.mpr c11
          have c11b1:(((rd_T77 l0 x6_1).f0) != 6)=false:=bne_eq_false_iff_eq.mpr c11
          clear c11
          by_cases c12:(wrap64 (x5_5 - 1))=0
          ·rw[if_pos c12] at H
           have c12b0:((wrap64 (x5_5 - 1))==0)=true:=beq_iff_eq.mpr c12
           have c12b1:((wrap64 (x5_5 - 1)) != 0)=false:=bne_eq_false_iff_eq.mpr c12
           clear c12
           obtain rfl:=Zm H
           have p187:0≤(x6_1:Int):=Zj z5_1
           have q187:x6_1<(l0.length:Int):=Zj z5_1
           obtain⟨ad187,e187,hx187_0,hx187_1,hx187_2,hx187_3,hx187_4,hx187_5⟩:=at_T77 HR0.out x6_1 p187 q187
           obtain rfl:ad185=ad187:=(by injection e187)
           replace hx187_0:=(HB.out.cell (Zf w _ hx187_0)).trans hx187_0
           replace hx187_1:=(HB.out.cell (Zf w _ hx187_1)).trans hx187_1
           replace hx187_2:=(HB.out.cell (Zf w _ hx187_2)).trans hx187_2
           replace hx187_3:=(HB.out.cell (Zf w _ hx187_3)).trans hx187_3
           replace hx187_4:=(HB.out.cell (Zf w _ hx187_4)).trans hx187_4
           replace hx187_5:=(HB.out.cell (Zf w _ hx187_5)).trans hx187_5
           replace p187:=eq_true p187
           replace q187:=eq_true q187
           go_wp2
           go_ret
           exact⟨by first|rfl|(simp[errW_none,errW_some]<;>rfl)|(simp[*,errW_none,errW_some]<;>rfl)|(simp[*,errW_none,errW_some,i64_w];done),by repeat(first|(with_reducible first|exact HB.out|apply Zh|apply Ze|apply Zd)|exact HB.out)⟩
          ·rw[if_neg c12] at H
           have c12b0:((wrap64 (x5_5 - 1))==0)=false:=beq_eq_false_iff_ne.mpr c12
           have c12b1:((wrap64 (x5_5 - 1)) != 0)=true:=bne_iff_ne.mpr c12
           have H':=Za H
           clear H
           have p187:0≤(x6_1:Int):=Zj z5_1
           have q187:x6_1<(l0.length:Int):=Zj z5_1
           obtain⟨ad187,e187,hx187_0,hx187_1,hx187_2,hx187_3,hx187_4,hx187_5⟩:=at_T77 HR0.out x6_1 p187 q187
           obtain rfl:ad185=ad187:=(by injection e187)
           replace hx187_0:=(HB.out.cell (Zf w _ hx187_0)).trans hx187_0
           replace hx187_1:=(HB.out.cell (Zf w _ hx187_1)).trans hx187_1
           replace hx187_2:=(HB.out.cell (Zf w _ hx187_2)).trans hx187_2
           replace hx187_3:=(HB.out.cell (Zf w _ hx187_3)).trans hx187_3
           replace hx187_4:=(HB.out.cell (Zf w _ hx187_4)).trans hx187_4
           replace hx187_5:=(HB.out.cell (Zf w _ hx187_5)).trans hx187_5
           replace p187:=eq_true p187
           replace q187:=eq_true q187
           go_wp2
           go_roundg kj5
           case measure=>have:=HK1.out;have:=HJ5.out;omega
           case rel=>exact⟨(wrap64 (x5_5 - 1)),(wrap64 (x6_1+1)),z5_3,z5_3,H',⟨by have:=HK1.out;have:=HJ5.out;omega⟩,⟨by repeat(first|(with_reducible first|exact HB.out|apply Zh|apply Ze|apply Zd)|exact HB.out)⟩⟩
         ·rw[if_neg c11] at H
          have c11b0:(((rd_T77 l0 x6_1).f0)==6)=false:=beq_eq_false_iff_ne.mpr c11
          have c11b1:(((rd_T77 l0 x6_1).f0) != 6)=true:=bne_iff_ne.mpr c11
          have H':=Za H
          clear H
          have p187:0≤(x6_1:Int):=Zj z5_1
          have q187:x6_1<(l0.length:Int):=Zj z5_1
          obtain⟨ad187,e187,hx187_0,hx187_1,hx187_2,hx187_3,hx187_4,hx187_5⟩:=at_T77 HR0.out x6_1 p187 q187
          obtain rfl:ad185=ad187:=(by injection e187)
          replace hx187_0:=(HB.out.cell (Zf w _ hx187_0)).trans hx187_0
          replace hx187_1:=(HB.out.cell (Zf w _ hx187_1)).trans hx187_1
          replace hx187_2:=(HB.out.cell (Zf w _ hx187_2)).trans hx187_2
          replace hx187_3:=(HB.out.cell (Zf w _ hx187_3)).trans hx187_3
          replace hx187_4:=(HB.out.cell (Zf w _ hx187_4)).trans hx187_4
          replace hx187_5:=(HB.out.cell (Zf w _ hx187_5)).trans hx187_5
          replace p187:=eq_true p187
          replace q187:=eq_true q187
          go_wp2
          go_roundg kj5
          case measure=>have:=HK1.out;have:=HJ5.out;omega
          case rel=>exact⟨(x5_5),(wrap64 (x6_1+1)),z5_3,z5_3,H',⟨by have:=HK1.out;have:=HJ5.out;omega⟩,⟨by repeat(first|(with_reducible first|exact HB.out|apply Zh|apply Ze|apply Zd)|exact HB.out)⟩⟩
        ·rw[if_neg c10] at H
         exact absurd H (by simp)
       ·rw[if_neg c9] at H
        exact absurd H (by simp)
    ·rw[if_neg c4] at H
     exact absurd H (by simp)
   ·rw[if_neg c3] at H
    have c3b0:decide (x6_1<(l0.length:Int))=false:=Yg c3
    clear c3
    obtain rfl:=Zm H
    go_wp2
    go_ret
    exact⟨by first|rfl|(simp[errW_none,errW_some]<;>rfl)|(simp[*,errW_none,errW_some]<;>rfl)|(simp[*,errW_none,errW_some,i64_w];done),by repeat(first|(with_reducible first|exact HB.out|apply Zh|apply Ze|apply Zd)|exact HB.out)⟩
end Go.Proofs.YtccjlmpeogifkaaGreat.G
