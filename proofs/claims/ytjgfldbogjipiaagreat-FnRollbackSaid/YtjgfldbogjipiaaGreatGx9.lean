/- Functions of the program as plain Lean functions, and that each call comes to its function's answer; written by a program of the session. No condition. -/
import Derived.Test.YtjgfldbogjipiaaGreatGx0
import Derived.Test.YtjgfldbogjipiaaGreatGx3
import Derived.Test.YtjgfldbogjipiaaGreatGx5
import Derived.Test.YtjgfldbogjipiaaGreatGx6
import Derived.Test.YtjgfldbogjipiaaGreatGx7
namespace Go.Proofs.YtjgfldbogjipiaaGreat.G
open Go.RowKit Go.Proofs.YtjgfldbogjipiaaGreatW.PrintWords Go.Proofs.YtjgfldbogjipiaaGreatW.PrintLast Go.Proofs.YtjgfldbogjipiaaGreatW.PrintMore
attribute [local go_sem] max2_int min2_int max_two min_two max_three min_three max_four min_four   -- for this text's walks alone
set_option linter.unusedVariables false
set_option linter.unusedSimpArgs false
theorem z9_0 {P:Prop} (h:P:=by repeat(first|(with_reducible first|exact HB.out|apply Zh|apply Zf|apply Ze)|exact HB.out)):P:=h
theorem z9_1 {P:Prop} (h:P:=by first|(with_reducible assumption)|assumption):P:=h
theorem z9_2 {P:Prop} (h:P:=by(try simp only[Yt,List.map_cons,List.map_nil]);first|done|rfl|(simp only[List.length_drop,List.length_take];rfl)):P:=h
theorem z9_3 {P:Prop} (h:P:=by first|(go_simp;done)|(go_simp;rfl)):P:=h
theorem z9_4 {P:Prop} (h:P:=by(with_reducible repeat(first|refine blk_drewN ?_ _|refine blk_drew ?_|refine blk_alloc ?_ _));exact BK556.out):P:=h
theorem z9_5 {P:Prop} (h:P:=by first|rfl|(simp;done)|(simp[*];done)):P:=h
theorem z9_6 {P:Prop} (h:P:=by repeat(first|(with_reducible first|exact HB.out|apply Zh|apply Zf|apply Ze|refine Zd ?_ GE556.out)|exact HB.out)):P:=h
def impl_ApplyWrites.l0:Nat→List Int→List (S66)→Int→Int→Option (List Int)
 |0,_,_,_,_=>none
 |k+1,x7,x17,x18,x19=>if x19<x18 then (if 0≤x19 then (if x19<(x17.length:Int) then ((impl_within.f ((rd_T66 x17 x19).f0) 0 (wrap64 ((x7.length:Int) - 1))).bind fun t529=>(if t529=true then (if 0≤((rd_T66 x17 x19).f0) then (if ((rd_T66 x17 x19).f0)<(x7.length:Int) then (impl_ApplyWrites.l0 k (x7.set (((rd_T66 x17 x19).f0):Int).toNat ((rd_T66 x17 x19).f1)) x17 x18 (wrap64 (x19+1))) else (none)) else (none)) else (impl_ApplyWrites.l0 k x7 x17 x18 (wrap64 (x19+1))))) else (none)) else (none)) else (some x7)
def impl_ApplyWrites.f (k:Nat) (l0:List Int) (l1:List (S66)) (a2:Int):Option (List Int):=(slices_Clone_int_int.f l0).bind fun t519=>((impl_Clamp.f a2 0 (l1.length:Int)).bind fun t522=>(if 0≤t522 then (if t522≤(l1.length:Int) then ((some (l1.take (t522:Int).toNat:List (S66))).bind fun y523=>(impl_ApplyWrites.l0 k t519 y523 (y523.length:Int) 0)) else (none)) else (none)))
set_option maxHeartbeats 8000000 in
set_option maxRecDepth 100000 in
theorem impl_ApplyWrites.calls (k:Nat) (A0:Option Addr) (c0:Nat) (l0:List Int) (A1:Option Addr) (c1:Nat) (l1:List (S66)) (a2:Int) (r:List Int) (w:World) (hr0:Kd.C (Kd.int .i64) w A0 l0.length l0) (hc0:l0.length≤c0) (hr1:Kd.C k66 w A1 l1.length l1) (hc1:l1.length≤c1) (h:impl_ApplyWrites.f k l0 l1 a2=some r):
  Calls Tryz.prog 13 #[.slice A0 l0.length c0,.slice A1 l1.length c1,.int .i64 a2] w fun e w'=>∃v0_:Value,e= .returned (v0_)∧Kd.R (Kd.int .i64) 3 w' w.heap.size (fun _=>True) v0_ r∧Below w.heap.size w w':=by
 have hu66:=Tryz.underlying66
 have HR0:=Za hr0
 have HC0:=Za hc0
 clear hr0 hc0
 have HR1:=Za hr1
 have HC1:=Za hc1
 clear hr1 hc1
 have HB:=Za (Yb w.heap.size w)
 have H:((slices_Clone_int_int.f l0).bind fun t519=>((impl_Clamp.f a2 0 (l1.length:Int)).bind fun t522=>(if 0≤t522 then (if t522≤(l1.length:Int) then ((some (l1.take (t522:Int).toNat:List (S66))).bind fun y523=>(impl_ApplyWrites.l0 k t519 y523 (y523.length:Int) 0)) else (none)) else (none))))=some r:=h
 clear h
 replace H:=Zg H
 obtain⟨t519,A40,H⟩:=H
 replace H:((impl_Clamp.f a2 0 (l1.length:Int)).bind fun t522=>(if 0≤t522 then (if t522≤(l1.length:Int) then ((some (l1.take (t522:Int).toNat:List (S66))).bind fun y523=>(impl_ApplyWrites.l0 k t519 y523 (y523.length:Int) 0)) else (none)) else (none)))=some r:=H
 have A4:=Za A40
 clear A40
 replace H:=Zg H
 obtain⟨t522,A50,H⟩:=H
 replace H:(if 0≤t522 then (if t522≤(l1.length:Int) then ((some (l1.take (t522:Int).toNat:List (S66))).bind fun y523=>(impl_ApplyWrites.l0 k t519 y523 (y523.length:Int) 0)) else (none)) else (none))=some r:=H
 have A5:=Za A50
 clear A50
 by_cases c6:0≤t522
 ·rw[if_pos c6] at H
  have c6b0:=eq_true c6
  have c6b1:decide (0≤t522)=true:=Zo c6
  clear c6
  by_cases c7:t522≤(l1.length:Int)
  ·rw[if_pos c7] at H
   have c7b0:=eq_true c7
   have c7b1:decide (t522≤(l1.length:Int))=true:=Zo c7
   clear c7
   obtain⟨y523,hy523⟩:∃y_:List (S66),y_=(l1.take (t522:Int).toNat):=⟨_,rfl⟩
   replace H:(impl_ApplyWrites.l0 k t519 y523 (y523.length:Int) 0)=some r:=by first|(rw[hy523];with_reducible exact H)|(have H2_:=(Yd _ _).symm.trans H;rw[hy523];with_reducible exact H2_)|(have H2_:=(Yd _ _).symm.trans H;with_reducible exact H2_)|with_reducible exact H|(rw[hy523];exact H)|exact H
   have Ny523:=Za hy523
   clear hy523
   have H':=Za H
   clear H
   go_enter Tryz.func13,Tryz.ntmps13
   go_wp2_with (first|((first|((with_reducible refine gate_callee (f:=39) rfl ?_);refine goesL_ (some 11) rfl rfl Tryz.func39 (by kernel_rfl) rfl #[.slice A0 l0.length c0] rfl z9_2 ?_;(with_reducible refine(slices_Clone_int_int.calls _ _ l0 t519 _ ?side1 ?side2 A4.out).mono ?_))|(go_at_call 39;(with_reducible refine(slices_Clone_int_int.calls _ _ l0 t519 _ ?side1 ?side2 A4.out).mono ?_)));(case side1=>repeat(first|exact HR0.out|(with_reducible refine Yk ?_ _)|(with_reducible refine Yi ?_ _)|(with_reducible refine Yl ?_)));(case side2=>exact HC0.out);rintro e w8 ⟨v520,rfl,ho0,hb⟩;(first|refine⟨_,rfl,?_⟩|skip);have HO521:=Za (Yr ho0 (Yf z9_0));replace HB:=Za (Zk z9_0 hb);(try clear hb);(try clear hb2);(try clear hk);(try clear hi);(try clear ho0))|((first|((with_reducible refine gate_callee (f:=40) rfl ?_);refine goesL_ (some 16) rfl rfl Tryz.func40 (by kernel_rfl) rfl #[.int .i64 a2,.int .i64 0,.int .i64 (l1.length:Int)] rfl z9_2 ?_;(with_reducible refine(impl_Clamp.calls a2 0 (l1.length:Int) t522 _ A5.out).mono ?_))|(go_at_call 40;(with_reducible refine(impl_Clamp.calls a2 0 (l1.length:Int) t522 _ A5.out).mono ?_)));rintro e w' ⟨rfl,⟨nd,rfl⟩⟩;(first|refine⟨_,rfl,?_⟩|skip);have q9:(t522:Int)≤((l1.length:Int):Int):=Zq z9_1;obtain⟨i09,hi09,_,hsz9,_⟩:=info_parts info66;have hroom9:l1.length≤c1:=HC1.out;have hC9:Kd.C k66 _ A1 l1.length l1:=HR1.out;have hcut9:=cut_to (P:=Tryz.prog) 36 66 .i64 Tryz.underlying36 hi09 A1 l1.length c1 t522 (Zq z9_1) q9 hroom9;have hr9:=Kd.C_take (m:=(t522:Int).toNat) hC9 (by omega);have hy9:y523.length=(t522:Int).toNat:=(by rw[Ny523.out,List.length_take];omega);rw[←Ny523.out] at hr9;rw[←hy9] at hcut9;have HR526:=Za hr9;have HC526:=Za (show y523.length≤c1 from by omega);clear hr9 hC9 hroom9 hi09 hsz9;have KY9:=Za hy9;clear hy9;replace q9:=eq_true q9))
   go_loopg [19] k (fun kq v19 w'=>∃(x7_1:List Int) (x19_1:Int),v19= .int .i64 x19_1∧Aside0 (impl_ApplyWrites.l0 kq x7_1 y523 (y523.length:Int) x19_1=some r)∧Aside0 (kq≤k)∧Aside0 (Kd.R (Kd.int .i64) 3 w' w.heap.size (fun _=>True) v520 x7_1)∧Aside0 (Below w.heap.size w w'))
   case atStart=>exact⟨(t519),(0),z9_5,H',⟨Nat.le_refl _⟩,⟨by(with_reducible repeat(first|apply Zm|apply Zl|apply Zj));exact HO521.out⟩,⟨by repeat(first|(with_reducible first|exact HB.out|apply Zh|apply Zf|apply Ze)|exact HB.out)⟩⟩
   case round=>
    clear H'
    (try clear c1);(try clear c6);(try clear c6b0);(try clear c6b1);(try clear c7);(try clear c7b0);(try clear c7b1);(try clear q9);(try clear q9)
    obtain⟨x7_1,x19_1,rfl,HA,HK1,HO_7,HB⟩:=hrel
    cases gk with
    |zero=>exact absurd HA.out (by simp[impl_ApplyWrites.l0])
    |succ k1=>
     have H:=HA.out
     clear HA
     simp only[impl_ApplyWrites.l0] at H
     by_cases c10:x19_1<(y523.length:Int)
     ·rw[if_pos c10] at H
      have c10b0:decide (x19_1<(y523.length:Int))=true:=Zo c10
      clear c10
      by_cases c11:0≤x19_1
      ·rw[if_pos c11] at H
       have c11b0:decide (0≤x19_1)=true:=Zo c11
       clear c11
       by_cases c12:x19_1<(y523.length:Int)
       ·rw[if_pos c12] at H
        have c12b0:decide (x19_1<(y523.length:Int))=true:=Zo c12
        clear c12
        replace H:=Zg H
        obtain⟨t529,A130,H⟩:=H
        replace H:(if t529=true then (if 0≤((rd_T66 y523 x19_1).f0) then (if ((rd_T66 y523 x19_1).f0)<(x7_1.length:Int) then (impl_ApplyWrites.l0 k1 (x7_1.set (((rd_T66 y523 x19_1).f0):Int).toNat ((rd_T66 y523 x19_1).f1)) y523 (y523.length:Int) (wrap64 (x19_1+1))) else (none)) else (none)) else (impl_ApplyWrites.l0 k1 x7_1 y523 (y523.length:Int) (wrap64 (x19_1+1))))=some r:=H
        have A13:=Za A130
        clear A130
        by_cases c14:t529=true
        ·subst c14
         rw[if_pos rfl] at H
         by_cases c15:0≤((rd_T66 y523 x19_1).f0)
         ·rw[if_pos c15] at H
          have c15b0:decide (0≤((rd_T66 y523 x19_1).f0))=true:=Zo c15
          clear c15
          by_cases c16:((rd_T66 y523 x19_1).f0)<(x7_1.length:Int)
          ·rw[if_pos c16] at H
           have c16b0:decide (((rd_T66 y523 x19_1).f0)<(x7_1.length:Int))=true:=Zo c16
           clear c16
           obtain⟨y530,hy530⟩:∃y_:List Int,y_=(x7_1.set (((rd_T66 y523 x19_1).f0):Int).toNat ((rd_T66 y523 x19_1).f1)):=⟨_,rfl⟩
           replace H:(impl_ApplyWrites.l0 k1 y530 y523 (y523.length:Int) (wrap64 (x19_1+1)))=some r:=by first|(rw[hy530];with_reducible exact H)|(have H2_:=(Yd _ _).symm.trans H;rw[hy530];with_reducible exact H2_)|(have H2_:=(Yd _ _).symm.trans H;with_reducible exact H2_)|with_reducible exact H|(rw[hy530];exact H)|exact H
           have Ny530:=Za hy530
           clear hy530
           have H':=Za H
           clear H
           have p527:0≤(x19_1:Int):=Zq z9_1
           have q527:x19_1<(y523.length:Int):=Zq z9_1
           obtain⟨ad527,e527,hx527_0,hx527_1⟩:=at_T66 HR526.out x19_1 p527 q527
           cases e527
           replace hx527_0:=(HB.out.cell (Yo w _ hx527_0)).trans hx527_0
           replace hx527_1:=(HB.out.cell (Yo w _ hx527_1)).trans hx527_1
           replace p527:=eq_true p527
           replace q527:=eq_true q527
           go_wp2_with (first|((with_reducible refine Zr (N:=9) rfl ?_);refine Zy ?hg (N:=9) ?hd (cs:= #[.int .i64 0,.int .i64 0]) (t:=66) ?hr ?_;(case hd=>rfl);(case hg=>rfl);(case hr=>exact z9_3);intro gb528 hg w18 hbox hb;replace HO_7:=Za (Kd.R_below (by(with_reducible repeat(first|apply Zm|apply Zl|apply Zj));exact HO_7.out) hb);have BK528:=Za (hbox);have GW528:=Za ((by rw[hg];exact(Yf z9_0):w.heap.size≤gb528));have GE528:=Za ((by rw[hg];exact(Yf z9_0):w.heap.size≤gb528));replace HB:=Za (Zk z9_0 hb);clear hb hbox hg;have hcz19_0:w18.cell? ⟨gb528,0,none⟩=some (.int .i64 0):=(Zb BK528.out 0).trans rfl;have hcz19_1:w18.cell? ⟨gb528,1,none⟩=some (.int .i64 0):=(Zb BK528.out 1).trans rfl;have hfz19_0:=Zc BK528.out 0;have hfz19_1:=Zc BK528.out 1)|((with_reducible refine Yq (t:=66) (p:=9) rfl ?_);refine Yp (t:=66) (p:=9) (v:= ?vo_w20) (w1:=((w18.setCell ⟨gb528,0,none⟩ (.int .i64 ((rd_T66 y523 x19_1).f0))).setCell ⟨gb528,1,none⟩ (.int .i64 ((rd_T66 y523 x19_1).f1)))) ?hg ?ho ?hn ?hr ?_;(case ho=>rfl);(case hg=>rfl);(case hn=>rfl);(case hr=>exact z9_3);intro w20 hw;have n0_:Aside0 (Kd.R (Kd.int .i64) 3 w20 w.heap.size (fun _=>True) v520 x7_1):=⟨(by rw[hw];exact(by(with_reducible repeat(first|apply Zm|apply Zl|apply Zj));exact Yc (Kd.R_far (p:=⟨gb528,1,none⟩) (Kd.R_far (p:=⟨gb528,0,none⟩) (Kd.R_types HO_7.out BK528.out (by decide)) (fun _ hk=>hk.2) (.int .i64 ((rd_T66 y523 x19_1).f0))) (fun _ hk=>hk.2) (.int .i64 ((rd_T66 y523 x19_1).f1))) (fun _ hk=>trivial)))⟩;have n1_:Aside0 (w20.heap[gb528]? =some (.cells #[.int .i64 ((rd_T66 y523 x19_1).f0),.int .i64 ((rd_T66 y523 x19_1).f1)] 66 (0,0))):=⟨(by rw[hw];exact(by(with_reducible repeat(first|refine blk_drewN ?_ _|refine blk_drew ?_|refine blk_alloc ?_ _));refine blk_put (cs:= #[.int .i64 ((rd_T66 y523 x19_1).f0),.int .i64 0]) ?_ 1 _ rfl;(with_reducible repeat(first|refine blk_drewN ?_ _|refine blk_drew ?_|refine blk_alloc ?_ _));refine blk_put (cs:= #[.int .i64 0,.int .i64 0]) ?_ 0 _ rfl;(with_reducible repeat(first|refine blk_drewN ?_ _|refine blk_drew ?_|refine blk_alloc ?_ _));exact BK528.out))⟩;have n2_:Aside0 (Below w.heap.size w w20):=⟨(by rw[hw];exact(by repeat(first|(with_reducible first|exact HB.out|apply Zh|apply Zf|apply Ze|refine Zd ?_ GE528.out)|exact HB.out)))⟩;clear hw;clear HO_7;clear BK528;clear HB;have HO_7:=n0_;have BK528:=n1_;have HB:=n2_;clear n0_ n1_ n2_;have hcz21_0:w20.cell? ⟨gb528,0,none⟩=some (.int .i64 ((rd_T66 y523 x19_1).f0)):=(Zb BK528.out 0).trans rfl;have hcz21_1:w20.cell? ⟨gb528,1,none⟩=some (.int .i64 ((rd_T66 y523 x19_1).f1)):=(Zb BK528.out 1).trans rfl;have hfz21_0:=Zc BK528.out 0;have hfz21_1:=Zc BK528.out 1;obtain⟨Ao22,co22,eo22⟩:=Yn HO_7.out;subst eo22)|((first|((with_reducible refine gate_callee (f:=41) rfl ?_);refine goesL_ (some 28) rfl rfl Tryz.func41 (by kernel_rfl) rfl #[.int .i64 ((rd_T66 y523 x19_1).f0),.int .i64 0,.int .i64 (wrap64 ((x7_1.length:Int) - 1))] rfl z9_2 ?_;(with_reducible refine(impl_within.calls ((rd_T66 y523 x19_1).f0) 0 (wrap64 ((x7_1.length:Int) - 1)) true _ A13.out).mono ?_))|(go_at_call 41;(with_reducible refine(impl_within.calls ((rd_T66 y523 x19_1).f0) 0 (wrap64 ((x7_1.length:Int) - 1)) true _ A13.out).mono ?_)));rintro e w' ⟨rfl,⟨nd,rfl⟩⟩;(first|refine⟨_,rfl,?_⟩|skip);(try(rw[drewN_self w20];generalize hq_:World.drewN w20 _=w20;have n0_:Aside0 (Kd.R (Kd.int .i64) 3 w20 w.heap.size (fun _=>True) (.slice Ao22 x7_1.length co22) x7_1):=⟨by rw[←hq_];exact(by(with_reducible repeat(first|apply Zm|apply Zl|apply Zj));exact HO_7.out)⟩;have n1_:Aside0 (w20.heap[gb528]? =some (.cells #[.int .i64 ((rd_T66 y523 x19_1).f0),.int .i64 ((rd_T66 y523 x19_1).f1)] 66 (0,0))):=⟨by rw[←hq_];exact(by(with_reducible repeat(first|refine blk_drewN ?_ _|refine blk_drew ?_|refine blk_alloc ?_ _));exact BK528.out)⟩;have n2_:Aside0 (Below w.heap.size w w20):=⟨by rw[←hq_];exact(by repeat(first|(with_reducible first|exact HB.out|apply Zh|apply Zf|apply Ze|refine Zd ?_ GE528.out)|exact HB.out))⟩;clear HO_7 BK528 HB hq_;have HO_7:=n0_;have BK528:=n1_;have HB:=n2_;clear n0_ n1_ n2_));(try(have hcuz23_0:w20.cell? ⟨gb528,0,none⟩=some (.int .i64 ((rd_T66 y523 x19_1).f0)):=(Zb BK528.out 0).trans rfl;have hcuz23_1:w20.cell? ⟨gb528,1,none⟩=some (.int .i64 ((rd_T66 y523 x19_1).f1)):=(Zb BK528.out 1).trans rfl;have hfuz23_0:=Zc BK528.out 0;have hfuz23_1:=Zc BK528.out 1));have p17:0≤(((rd_T66 y523 x19_1).f0):Int):=Zq z9_1;have q17:(((rd_T66 y523 x19_1).f0):Int)<((x7_1.length:Int):Int):=Zq z9_1;obtain⟨go17,co17,eo17,gb17,gl17,cl17,HG17⟩:=Kd.R_form HO_7.out (by omega);(first|cases eo17|(injection eo17 with ea_ en_ ec_;(first|subst ea_|(injection ea_ with ea_;subst ea_));subst ec_;clear en_));have GB17:=Za gb17;have GG17:=Za HG17;clear gb17 gl17 HG17;obtain⟨hx17_0,hf17_0⟩:=Kd.R_celln 0 HO_7.out (((rd_T66 y523 x19_1).f0):Int) p17 q17;replace p17:=eq_true p17;replace q17:=eq_true q17;obtain⟨hy24_,hz24_⟩:=Kd.R_celln 0 HO_7.out (((rd_T66 y523 x19_1).f0):Int) (Zq z9_1) (Zq z9_1);have HP24:=Kd.R_putg HO_7.out (((rd_T66 y523 x19_1).f0):Int) ((rd_T66 y523 x19_1).f1))|((with_reducible refine Yq (t:=3) (p:=34) rfl ?_);refine Yp (t:=3) (p:=34) (v:= ?vo_w25) (w1:=(w20.setCell ⟨go17,(((rd_T66 y523 x19_1).f0):Int).toNat,none⟩ (.int .i64 ((rd_T66 y523 x19_1).f1)))) ?hg ?ho ?hn ?hr ?_;(case ho=>rfl);(case hg=>rfl);(case hn=>rfl);(case hr=>exact z9_3);intro w25 hw;have hg:w20.grownBy w25 (some go17):=(by rw[hw];exact HP24.2);have hp_:Kd.R (Kd.int .i64) 3 w25 w.heap.size (fun _=>True) (.slice (some ⟨go17,0,none⟩) x7_1.length co22) y530:=(by rw[hw,Ny530.out];exact HP24.1);clear HP24;replace BK528:=Za (blk_grown (g:=gb528) (o:= .cells #[.int .i64 ((rd_T66 y523 x19_1).f0),.int .i64 ((rd_T66 y523 x19_1).f1)] 66 (0,0)) (by(with_reducible repeat(first|refine blk_drewN ?_ _|refine blk_drew ?_|refine blk_alloc ?_ _));exact BK528.out) hg (Kd.R_ne HO_7.out BK528.out (by decide)));replace HO_7:=Za (hp_);replace HB:=Za ((by rw[hw];exact Zd (HB.out) GB17.out:Below w.heap.size w w25));clear hg hw hp_))
           go_roundg k1
           case measure=>have:=HK1.out;omega
           case rel=>exact⟨(y530),(wrap64 (x19_1+1)),z9_5,H',⟨by have:=HK1.out;omega⟩,⟨by(with_reducible repeat(first|apply Zm|apply Zl|apply Zj));exact HO_7.out⟩,⟨by repeat(first|(with_reducible first|exact HB.out|apply Zh|apply Zf|apply Ze|refine Zd ?_ GE528.out)|exact HB.out)⟩⟩
          ·rw[if_neg c16] at H
           exact absurd H (by simp)
         ·rw[if_neg c15] at H
          exact absurd H (by simp)
        ·replace c14:=Bool.eq_false_iff.mpr c14
         subst c14
         rw[if_neg (show ¬(false=true) by decide)] at H
         have H':=Za H
         clear H
         have p527:0≤(x19_1:Int):=Zq z9_1
         have q527:x19_1<(y523.length:Int):=Zq z9_1
         obtain⟨ad527,e527,hx527_0,hx527_1⟩:=at_T66 HR526.out x19_1 p527 q527
         cases e527
         replace hx527_0:=(HB.out.cell (Yo w _ hx527_0)).trans hx527_0
         replace hx527_1:=(HB.out.cell (Yo w _ hx527_1)).trans hx527_1
         replace p527:=eq_true p527
         replace q527:=eq_true q527
         go_wp2_with (first|((with_reducible refine Zr (N:=9) rfl ?_);refine Zy ?hg (N:=9) ?hd (cs:= #[.int .i64 0,.int .i64 0]) (t:=66) ?hr ?_;(case hd=>rfl);(case hg=>rfl);(case hr=>exact z9_3);intro gb528 hg w26 hbox hb;replace HO_7:=Za (Kd.R_below (by(with_reducible repeat(first|apply Zm|apply Zl|apply Zj));exact HO_7.out) hb);have BK528:=Za (hbox);have GW528:=Za ((by rw[hg];exact(Yf z9_0):w.heap.size≤gb528));have GE528:=Za ((by rw[hg];exact(Yf z9_0):w.heap.size≤gb528));replace HB:=Za (Zk z9_0 hb);clear hb hbox hg;have hcz27_0:w26.cell? ⟨gb528,0,none⟩=some (.int .i64 0):=(Zb BK528.out 0).trans rfl;have hcz27_1:w26.cell? ⟨gb528,1,none⟩=some (.int .i64 0):=(Zb BK528.out 1).trans rfl;have hfz27_0:=Zc BK528.out 0;have hfz27_1:=Zc BK528.out 1;obtain⟨Ao28,co28,eo28⟩:=Yn HO_7.out;subst eo28)|((first|((with_reducible refine gate_callee (f:=41) rfl ?_);refine goesL_ (some 28) rfl rfl Tryz.func41 (by kernel_rfl) rfl #[.int .i64 ((rd_T66 y523 x19_1).f0),.int .i64 0,.int .i64 (wrap64 ((x7_1.length:Int) - 1))] rfl z9_2 ?_;(with_reducible refine(impl_within.calls ((rd_T66 y523 x19_1).f0) 0 (wrap64 ((x7_1.length:Int) - 1)) false _ A13.out).mono ?_))|(go_at_call 41;(with_reducible refine(impl_within.calls ((rd_T66 y523 x19_1).f0) 0 (wrap64 ((x7_1.length:Int) - 1)) false _ A13.out).mono ?_)));rintro e w' ⟨rfl,⟨nd,rfl⟩⟩;(first|refine⟨_,rfl,?_⟩|skip)))
         go_roundg k1
         case measure=>have:=HK1.out;omega
         case rel=>exact⟨(x7_1),(wrap64 (x19_1+1)),z9_5,H',⟨by have:=HK1.out;omega⟩,⟨by(with_reducible repeat(first|apply Zm|apply Zl|apply Zj));exact Yc (Kd.R_far (p:=⟨gb528,1,none⟩) (Kd.R_far (p:=⟨gb528,0,none⟩) (Kd.R_types HO_7.out BK528.out (by decide)) (fun _ hk=>hk.2) (.int .i64 ((rd_T66 y523 x19_1).f0))) (fun _ hk=>hk.2) (.int .i64 ((rd_T66 y523 x19_1).f1))) (fun _ hk=>trivial)⟩,⟨by repeat(first|(with_reducible first|exact HB.out|apply Zh|apply Zf|apply Ze|refine Zd ?_ GE528.out)|exact HB.out)⟩⟩
       ·rw[if_neg c12] at H
        exact absurd H (by simp)
      ·rw[if_neg c11] at H
       exact absurd H (by simp)
     ·rw[if_neg c10] at H
      have c10b0:decide (x19_1<(y523.length:Int))=false:=Yg c10
      clear c10
      obtain rfl:=Zn H
      go_wp2
      go_ret
      exact⟨_,by first|rfl|(simp[errW_none,errW_some]<;>rfl)|(simp[*,errW_none,errW_some]<;>rfl)|(simp[*,errW_none,errW_some,i64_w];done),by(with_reducible repeat(first|apply Zm|apply Zl|apply Zj));exact HO_7.out,by repeat(first|(with_reducible first|exact HB.out|apply Zh|apply Zf|apply Ze)|exact HB.out)⟩
  ·rw[if_neg c7] at H
   exact absurd H (by simp)
 ·rw[if_neg c6] at H
  exact absurd H (by simp)
def laws_sameInts.l0:Nat→List Int→List Int→Int→Option (Bool)
 |0,_,_,_=>none
 |k+1,x0,x1,x5=>if x5<(x0.length:Int) then (if 0≤x5 then (if x5<(x1.length:Int) then (if (rd x0 x5)=(rd x1 x5) then (laws_sameInts.l0 k x0 x1 (wrap64 (x5+1))) else (some false)) else (none)) else (none)) else (some true)
def laws_sameInts.f (k:Nat) (l0:List Int) (l1:List Int):Option (Bool):=if (l0.length:Int)=(l1.length:Int) then (laws_sameInts.l0 k l0 l1 0) else (some false)
set_option maxHeartbeats 8000000 in
set_option maxRecDepth 100000 in
theorem laws_sameInts.calls (k:Nat) (A0:Option Addr) (c0:Nat) (l0:List Int) (A1:Option Addr) (c1:Nat) (l1:List Int) (r:Bool) (w:World) (hr0:Kd.C (Kd.int .i64) w A0 l0.length l0) (hc0:l0.length≤c0) (hr1:Kd.C (Kd.int .i64) w A1 l1.length l1) (hc1:l1.length≤c1) (h:laws_sameInts.f k l0 l1=some r):
  Calls Tryz.prog 15 #[.slice A0 l0.length c0,.slice A1 l1.length c1] w fun e w'=>e= .returned (.bool r)∧Drawn0 w w':=by
 have HR0:=Za hr0
 have HC0:=Za hc0
 clear hr0 hc0
 have HR1:=Za hr1
 have HC1:=Za hc1
 clear hr1 hc1
 have H:(if (l0.length:Int)=(l1.length:Int) then (laws_sameInts.l0 k l0 l1 0) else (some false))=some r:=h
 clear h
 by_cases c3:(l0.length:Int)=(l1.length:Int)
 ·rw[if_pos c3] at H
  have c3b0:((l0.length:Int)==(l1.length:Int))=true:=beq_iff_eq.mpr c3
  have c3b1:((l0.length:Int) != (l1.length:Int))=false:=bne_eq_false_iff_eq.mpr c3
  have c3b2:(l0.length==l1.length)=true:=by first|simpa using c3|(simp at c3 ⊢;omega)
  clear c3
  have H':=Za H
  clear H
  go_enter Tryz.func15,Tryz.ntmps15
  go_wp2
  repeat(go_quiet (fail);try go_wp2)
  go_loopg [5] k (fun kq v5 w'=>∃(x5_1:Int),v5= .int .i64 x5_1∧Aside0 (laws_sameInts.l0 kq l0 l1 x5_1=some r)∧Aside0 (kq≤k)∧Drawn0 w w')
  case atStart=>exact⟨(0),z9_5,H',⟨Nat.le_refl _⟩,by repeat(first|exact Zv _|apply Zw)⟩
  case round=>
   clear H'
   (try clear c1);(try clear c3);(try clear c3b0);(try clear c3b1);(try clear c3b2)
   obtain⟨x5_1,rfl,HA,HK1,⟨m1,rfl⟩⟩:=hrel
   cases gk with
   |zero=>exact absurd HA.out (by simp[laws_sameInts.l0])
   |succ k1=>
    have H:=HA.out
    clear HA
    simp only[laws_sameInts.l0] at H
    by_cases c4:x5_1<(l0.length:Int)
    ·rw[if_pos c4] at H
     have c4b0:decide (x5_1<(l0.length:Int))=true:=Zo c4
     clear c4
     by_cases c5:0≤x5_1
     ·rw[if_pos c5] at H
      have c5b0:decide (0≤x5_1)=true:=Zo c5
      clear c5
      by_cases c6:x5_1<(l1.length:Int)
      ·rw[if_pos c6] at H
       have c6b0:decide (x5_1<(l1.length:Int))=true:=Zo c6
       clear c6
       by_cases c7:(rd l0 x5_1)=(rd l1 x5_1)
       ·rw[if_pos c7] at H
        have c7b0:((rd l0 x5_1)==(rd l1 x5_1))=true:=beq_iff_eq.mpr c7
        have c7b1:((rd l0 x5_1) != (rd l1 x5_1))=false:=bne_eq_false_iff_eq.mpr c7
        clear c7
        have H':=Za H
        clear H
        have p531:0≤(x5_1:Int):=Zq z9_1
        have q531:x5_1<(l0.length:Int):=Zq z9_1
        obtain⟨ad531,e531,hx531_0⟩:=Kd.at_int HR0.out x5_1 p531 q531
        cases e531
        replace p531:=eq_true p531
        replace q531:=eq_true q531
        have p532:0≤(x5_1:Int):=Zq z9_1
        have q532:x5_1<(l1.length:Int):=Zq z9_1
        obtain⟨ad532,e532,hx532_0⟩:=Kd.at_int HR1.out x5_1 p532 q532
        cases e532
        replace p532:=eq_true p532
        replace q532:=eq_true q532
        go_wp2
        repeat(go_quiet (fail);try go_wp2)
        go_roundg k1
        case measure=>have:=HK1.out;omega
        case rel=>exact⟨(wrap64 (x5_1+1)),z9_5,H',⟨by have:=HK1.out;omega⟩,by repeat(first|exact Zv _|apply Zw)⟩
       ·rw[if_neg c7] at H
        have c7b0:((rd l0 x5_1)==(rd l1 x5_1))=false:=beq_eq_false_iff_ne.mpr c7
        have c7b1:((rd l0 x5_1) != (rd l1 x5_1))=true:=bne_iff_ne.mpr c7
        obtain rfl:=Zn H
        have p531:0≤(x5_1:Int):=Zq z9_1
        have q531:x5_1<(l0.length:Int):=Zq z9_1
        obtain⟨ad531,e531,hx531_0⟩:=Kd.at_int HR0.out x5_1 p531 q531
        cases e531
        replace p531:=eq_true p531
        replace q531:=eq_true q531
        have p532:0≤(x5_1:Int):=Zq z9_1
        have q532:x5_1<(l1.length:Int):=Zq z9_1
        obtain⟨ad532,e532,hx532_0⟩:=Kd.at_int HR1.out x5_1 p532 q532
        cases e532
        replace p532:=eq_true p532
        replace q532:=eq_true q532
        go_wp2
        repeat(go_quiet (fail);try go_wp2)
        go_ret
        exact⟨by first|rfl|(simp;done)|(simp[*];done),by repeat(first|exact Zv _|apply Zw)⟩
      ·rw[if_neg c6] at H
       exact absurd H (by simp)
     ·rw[if_neg c5] at H
      exact absurd H (by simp)
    ·rw[if_neg c4] at H
     have c4b0:decide (x5_1<(l0.length:Int))=false:=Yg c4
     clear c4
     obtain rfl:=Zn H
     go_wp2
     repeat(go_quiet (fail);try go_wp2)
     go_ret
     exact⟨by first|rfl|(simp;done)|(simp[*];done),by repeat(first|exact Zv _|apply Zw)⟩
 ·rw[if_neg c3] at H
  have c3b0:((l0.length:Int)==(l1.length:Int))=false:=beq_eq_false_iff_ne.mpr c3
  have c3b1:((l0.length:Int) != (l1.length:Int))=true:=bne_iff_ne.mpr c3
  have c3b2:(l0.length==l1.length)=false:=by first|simpa using c3|(simp at c3 ⊢;omega)
  obtain rfl:=Zn H
  go_enter Tryz.func15,Tryz.ntmps15
  go_wp2
  repeat(go_quiet (fail);try go_wp2)
  go_ret
  exact⟨by first|rfl|(simp;done)|(simp[*];done),by repeat(first|exact Zv _|apply Zw)⟩
def impl_RecoveryWrites.l0:Nat→List Int→Int→Int→List (S66)→Int→Option ((List (S66)))
 |0,_,_,_,_,_=>none
 |k+1,x0,x3,x5,x6,x7=>if x7≥0 then (if 0≤(wrap64 (9+(wrap64 (2*x7)))) then (if (wrap64 (9+(wrap64 (2*x7))))<(x0.length:Int) then ((impl_isVar.f (rd x0 (wrap64 (9+(wrap64 (2*x7)))))).bind fun t541=>(if t541=true then (if 0≤(wrap64 ((wrap64 (9+(wrap64 (2*x7))))+1)) then (if (wrap64 ((wrap64 (9+(wrap64 (2*x7))))+1))<(x0.length:Int) then (if x6.length<8796093022208 then (impl_RecoveryWrites.l0 k x0 x3 x5 (x6++[(⟨rd x0 (wrap64 (9+(wrap64 (2*x7)))),rd x0 (wrap64 ((wrap64 (9+(wrap64 (2*x7))))+1))⟩:S66)]) (wrap64 (x7 - 1))) else (none)) else (none)) else (none)) else (some ([]:List (S66))))) else (none)) else (none)) else ((impl_PackControl.f x3 0 x5).bind fun t546=>(if x6.length<8796093022208 then (some (x6++[(⟨8,t546⟩:S66)])) else (none)))
def impl_RecoveryWrites.f (k:Nat) (l0:List Int):Option ((List (S66))):=if (l0.length:Int)=49 then (if 8<(l0.length:Int) then ((impl_UnpackControl.f (rd l0 8)).bind fun bt534=>(if bt534.2.1<1 then (some ([]:List (S66))) else (impl_RecoveryWrites.l0 k l0 bt534.1 bt534.2.2 (([]:List (S66))) (wrap64 (bt534.2.1 - 1))))) else (none)) else (some ([]:List (S66)))
set_option maxHeartbeats 8000000 in
set_option maxRecDepth 100000 in
theorem impl_RecoveryWrites.calls (k:Nat) (A0:Option Addr) (c0:Nat) (l0:List Int) (r:List (S66)) (w:World) (hr0:Kd.C (Kd.int .i64) w A0 l0.length l0) (hc0:l0.length≤c0) (h:impl_RecoveryWrites.f k l0=some r):
  Calls Tryz.prog 14 #[.slice A0 l0.length c0] w fun e w'=>∃v0_:Value,e= .returned (v0_)∧Kd.R k66 66 w' w.heap.size (fun _=>True) v0_ r∧Below w.heap.size w w':=by
 have hu66:=Tryz.underlying66
 have HR0:=Za hr0
 have HC0:=Za hc0
 clear hr0 hc0
 have HB:=Za (Yb w.heap.size w)
 have H:(if (l0.length:Int)=49 then (if 8<(l0.length:Int) then ((impl_UnpackControl.f (rd l0 8)).bind fun bt534=>(if bt534.2.1<1 then (some ([]:List (S66))) else (impl_RecoveryWrites.l0 k l0 bt534.1 bt534.2.2 (([]:List (S66))) (wrap64 (bt534.2.1 - 1))))) else (none)) else (some ([]:List (S66))))=some r:=h
 clear h
 by_cases c2:(l0.length:Int)=49
 ·rw[if_pos c2] at H
  have c2b0:((l0.length:Int)==49)=true:=beq_iff_eq.mpr c2
  have c2b1:((l0.length:Int) != 49)=false:=bne_eq_false_iff_eq.mpr c2
  clear c2
  by_cases c3:8<(l0.length:Int)
  ·rw[if_pos c3] at H
   have c3b0:decide (8<(l0.length:Int))=true:=Zo c3
   have c3b1:decide (8<l0.length)=true:=Zo (by omega)
   clear c3
   replace H:=Zg H
   obtain⟨⟨t534,t535,t536⟩,A40,H⟩:=H
   replace H:(if t535<1 then (some ([]:List (S66))) else (impl_RecoveryWrites.l0 k l0 t534 t536 (([]:List (S66))) (wrap64 (t535 - 1))))=some r:=H
   have A4:=Za A40
   clear A40
   by_cases c5:t535<1
   ·rw[if_pos c5] at H
    have c5b0:decide (t535<1)=true:=Zo c5
    clear c5
    obtain rfl:=Zn H
    have p533:0≤(8:Int):=(by omega)
    have q533:8<(l0.length:Int):=Zq z9_1
    obtain⟨ad533,e533,hx533_0⟩:=Kd.at_int HR0.out 8 p533 q533
    cases e533
    (try simp only[show(8:Int).toNat=8 from rfl,Nat.reduceMul,Nat.reduceEqDiff,Go.Addr.add,↓reduceIte] at hx533_0)
    have qi533:(8<l0.length)=True:=eq_true (by omega)
    (try rw[show((8:Int)).toNat=8 from rfl] at hx533_0)
    replace p533:=eq_true p533
    replace q533:=eq_true q533
    go_enter Tryz.func14,Tryz.ntmps14
    go_wp2_with (first|((first|((with_reducible refine gate_callee (f:=29) rfl ?_);refine goesL_ (some 16) rfl rfl Tryz.func29 (by kernel_rfl) rfl #[.int .i64 (rd l0 8)] rfl z9_2 ?_;(with_reducible refine(impl_UnpackControl.calls (rd l0 8) t534 t535 t536 _ A4.out).mono ?_))|(go_at_call 29;(with_reducible refine(impl_UnpackControl.calls (rd l0 8) t534 t535 t536 _ A4.out).mono ?_)));rintro e w' ⟨rfl,⟨nd,rfl⟩⟩;(first|refine⟨_,rfl,?_⟩|skip)))
    go_ret
    exact⟨_,by first|rfl|(simp[errW_none,errW_some]<;>rfl)|(simp[*,errW_none,errW_some]<;>rfl)|(simp[*,errW_none,errW_some,i64_w];done),by first|exact Kd.R_nil _ _ _ _ _|exact Kd.N_nil _ _ _ _ _|exact Kd.V_nil _ _ _ _ _|exact Kd.Q_nil _ _ _ _ _|exact Kd.S_nil _ _ _ _ _,by repeat(first|(with_reducible first|exact HB.out|apply Zh|apply Zf|apply Ze)|exact HB.out)⟩
   ·rw[if_neg c5] at H
    have c5b0:decide (t535<1)=false:=Yg c5
    clear c5
    obtain⟨y537,hy537⟩:∃y_:List (S66),y_=(([]:List (S66))):=⟨_,rfl⟩
    replace H:(impl_RecoveryWrites.l0 k l0 t534 t536 y537 (wrap64 (t535 - 1)))=some r:=by first|(rw[hy537];with_reducible exact H)|(have H2_:=(Yd _ _).symm.trans H;rw[hy537];with_reducible exact H2_)|(have H2_:=(Yd _ _).symm.trans H;with_reducible exact H2_)|with_reducible exact H|(rw[hy537];exact H)|exact H
    have Ny537:=Za hy537
    clear hy537
    have H':=Za H
    clear H
    have p533:0≤(8:Int):=(by omega)
    have q533:8<(l0.length:Int):=Zq z9_1
    obtain⟨ad533,e533,hx533_0⟩:=Kd.at_int HR0.out 8 p533 q533
    cases e533
    (try simp only[show(8:Int).toNat=8 from rfl,Nat.reduceMul,Nat.reduceEqDiff,Go.Addr.add,↓reduceIte] at hx533_0)
    have qi533:(8<l0.length)=True:=eq_true (by omega)
    (try rw[show((8:Int)).toNat=8 from rfl] at hx533_0)
    replace p533:=eq_true p533
    replace q533:=eq_true q533
    go_enter Tryz.func14,Tryz.ntmps14
    go_wp2_with (first|((first|((with_reducible refine gate_callee (f:=29) rfl ?_);refine goesL_ (some 16) rfl rfl Tryz.func29 (by kernel_rfl) rfl #[.int .i64 (rd l0 8)] rfl z9_2 ?_;(with_reducible refine(impl_UnpackControl.calls (rd l0 8) t534 t535 t536 _ A4.out).mono ?_))|(go_at_call 29;(with_reducible refine(impl_UnpackControl.calls (rd l0 8) t534 t535 t536 _ A4.out).mono ?_)));rintro e w' ⟨rfl,⟨nd,rfl⟩⟩;(first|refine⟨_,rfl,?_⟩|skip))|((with_reducible refine Zr (N:=22) rfl ?_);refine Kd.R_lit k66 _ 66 ?hg (N:=22) ?hd (xs:=([]:List (S66))) (inner:=[]) (ok:=fun _=>True) (okp:=fun _=>True) ?hr ?hp (fun _ hk=>hk) trivial (Yb _ _) (Nat.le_refl _) (by simp) ?_;(case hd=>rfl);(case hg=>rfl);(case hr=>exact z9_3);(case hp=>exact(Reps.none _ _));intro v538 w6 ho7 hb hg_ hnew_;clear hg_ hnew_;(first|rw[←Ny537.out] at ho7|(simp only[Int.reduceToNat] at ho7;rw[←Ny537.out] at ho7));have HO539:=Za (Yr ho7 (Yf z9_0));replace HB:=Za (Zk z9_0 hb);clear hb ho7))
    go_loopg [6,7] k (fun kq v6 v7 w'=>∃(x6_1:List (S66)) (x7_1:Int),v7= .int .i64 x7_1∧Aside0 (impl_RecoveryWrites.l0 kq l0 t534 t536 x6_1 x7_1=some r)∧Aside0 (kq≤k)∧Aside0 (Kd.R k66 66 w' w.heap.size (fun _=>True) v6 x6_1)∧Aside0 (Below w.heap.size w w'))
    case atStart=>exact⟨(y537),(wrap64 (t535 - 1)),z9_5,H',⟨Nat.le_refl _⟩,⟨by(with_reducible repeat(first|apply Zm|apply Zl|apply Zj));exact HO539.out⟩,⟨by repeat(first|(with_reducible first|exact HB.out|apply Zh|apply Zf|apply Ze)|exact HB.out)⟩⟩
    case round=>
     clear H'
     (try clear c2);(try clear c2b0);(try clear c2b1);(try clear c3);(try clear c3b0);(try clear c3b1);(try clear c5);(try clear c5b0);(try clear hx533_0);(try clear p533);(try clear q533)
     obtain⟨x6_1,x7_1,rfl,HA,HK1,HO_6,HB⟩:=hrel
     cases gk with
     |zero=>exact absurd HA.out (by simp[impl_RecoveryWrites.l0])
     |succ k1=>
      have H:=HA.out
      clear HA
      simp only[impl_RecoveryWrites.l0] at H
      by_cases c8:x7_1≥0
      ·rw[if_pos c8] at H
       have c8b0:decide (0≤x7_1)=true:=Zo c8
       clear c8
       obtain⟨ji9,hji9⟩:∃j_:Int,(wrap64 (9+(wrap64 (2*x7_1))))=j_:=⟨_,rfl⟩
       replace H:(if 0≤(ji9) then (if (ji9)<(l0.length:Int) then ((impl_isVar.f (rd l0 (ji9))).bind fun t541=>(if t541=true then (if 0≤(wrap64 ((ji9)+1)) then (if (wrap64 ((ji9)+1))<(l0.length:Int) then (if x6_1.length<8796093022208 then (impl_RecoveryWrites.l0 k1 l0 t534 t536 (x6_1++[(⟨rd l0 (ji9),rd l0 (wrap64 ((ji9)+1))⟩:S66)]) (wrap64 (x7_1 - 1))) else (none)) else (none)) else (none)) else (some ([]:List (S66))))) else (none)) else (none))=some r:=by first|(rw[hji9] at H;exact H)|(simp only[hji9] at H ⊢;exact H)
       have hji9w:(IntKind.i64.wrap (9+(wrap64 (2*x7_1))))=ji9:=(i64_w _).trans hji9
       by_cases c10:0≤(ji9)
       ·rw[if_pos c10] at H
        have c10b0:decide (0≤(ji9))=true:=Zo c10
        clear c10
        by_cases c11:(ji9)<(l0.length:Int)
        ·rw[if_pos c11] at H
         have c11b0:decide ((ji9)<(l0.length:Int))=true:=Zo c11
         clear c11
         replace H:=Zg H
         obtain⟨t541,A120,H⟩:=H
         replace H:(if t541=true then (if 0≤(wrap64 ((ji9)+1)) then (if (wrap64 ((ji9)+1))<(l0.length:Int) then (if x6_1.length<8796093022208 then (impl_RecoveryWrites.l0 k1 l0 t534 t536 (x6_1++[(⟨rd l0 (ji9),rd l0 (wrap64 ((ji9)+1))⟩:S66)]) (wrap64 (x7_1 - 1))) else (none)) else (none)) else (none)) else (some ([]:List (S66))))=some r:=H
         have A12:=Za A120
         clear A120
         by_cases c13:t541=true
         ·subst c13
          rw[if_pos rfl] at H
          obtain⟨ji14,hji14⟩:∃j_:Int,(wrap64 ((ji9)+1))=j_:=⟨_,rfl⟩
          replace H:(if 0≤(ji14) then (if (ji14)<(l0.length:Int) then (if x6_1.length<8796093022208 then (impl_RecoveryWrites.l0 k1 l0 t534 t536 (x6_1++[(⟨rd l0 (ji9),rd l0 (ji14)⟩:S66)]) (wrap64 (x7_1 - 1))) else (none)) else (none)) else (none))=some r:=by first|(rw[hji14] at H;exact H)|(simp only[hji14] at H ⊢;exact H)
          (try rw[hji14] at A12)
          have hji14w:(IntKind.i64.wrap ((ji9)+1))=ji14:=(i64_w _).trans hji14
          by_cases c15:0≤(ji14)
          ·rw[if_pos c15] at H
           have c15b0:decide (0≤(ji14))=true:=Zo c15
           clear c15
           by_cases c16:(ji14)<(l0.length:Int)
           ·rw[if_pos c16] at H
            have c16b0:decide ((ji14)<(l0.length:Int))=true:=Zo c16
            clear c16
            by_cases c17:x6_1.length<8796093022208
            ·rw[if_pos c17] at H
             have LMc17:=Za c17
             clear c17
             obtain⟨y543,hy543⟩:∃y_:List (S66),y_=(x6_1++[(⟨rd l0 (ji9),rd l0 (ji14)⟩:S66)]):=⟨_,rfl⟩
             replace H:(impl_RecoveryWrites.l0 k1 l0 t534 t536 y543 (wrap64 (x7_1 - 1)))=some r:=by first|(rw[hy543];with_reducible exact H)|(have H2_:=(Yd _ _).symm.trans H;rw[hy543];with_reducible exact H2_)|(have H2_:=(Yd _ _).symm.trans H;with_reducible exact H2_)|with_reducible exact H|(rw[hy543];exact H)|exact H
             have Ny543:=Za hy543
             clear hy543
             have H':=Za H
             clear H
             have p540:0≤((ji9):Int):=Zq z9_1
             have q540:(ji9)<(l0.length:Int):=Zq z9_1
             obtain⟨ad540,e540,hx540_0⟩:=Kd.at_int HR0.out (ji9) p540 q540
             obtain rfl:ad533=ad540:=(by injection e540)
             replace hx540_0:=(HB.out.cell (Yo w _ hx540_0)).trans hx540_0
             replace p540:=eq_true p540
             replace q540:=eq_true q540
             go_wp2_with (first|((first|((with_reducible refine gate_callee (f:=42) rfl ?_);refine goesL_ (some 36) rfl rfl Tryz.func42 (by kernel_rfl) rfl #[.int .i64 (rd l0 (ji9))] rfl (by(try simp only[Yt,List.map_cons,List.map_nil]);first|done|(simp only[hji9];rfl)|rfl|(simp only[List.length_drop,List.length_take];rfl)) ?_;(with_reducible refine(impl_isVar.calls (rd l0 (ji9)) true _ A12.out).mono ?_))|(go_at_call 42;(with_reducible refine(impl_isVar.calls (rd l0 (ji9)) true _ A12.out).mono ?_)));rintro e w' ⟨rfl,⟨nd,rfl⟩⟩;(first|refine⟨_,rfl,?_⟩|skip);have p542:0≤((ji14):Int):=Zq z9_1;have q542:(ji14)<(l0.length:Int):=Zq z9_1;obtain⟨ad542,e542,hx542_0⟩:=Kd.at_int HR0.out (ji14) p542 q542;obtain rfl:ad533=ad542:=(by injection e542);replace hx542_0:=(HB.out.cell (Yo w _ hx542_0)).trans hx542_0;replace p542:=eq_true p542;replace q542:=eq_true q542)|((with_reducible refine gate_builtin (b:= .append) (xs:= #[.tmp 38,.tmp 48]) rfl ?_);at_builtin;refine Kd.R_append k66 (w0:=w) w.heap.size rfl (.tmp 38) (.tmp 48) 36 66 (.agg #[(.int .i64 0),(.int .i64 0)]) 16 rfl Tryz.underlying36 info66 rfl (by decide) (by omega) u6 x6_1 (⟨rd l0 (ji9),rd l0 (ji14)⟩:S66) [.int .i64 (rd l0 (ji9)),.int .i64 (rd l0 (ji14))] (fun _=>True) (fun _=>False) rfl rfl ?aP (fun _ hk=>hk.elim) ?aF ?aO ?aB ?aS ?aL ?_;(case aP=>exact k66_mkM _ _ _ (⟨rd l0 (ji9),rd l0 (ji14)⟩:S66));(case aB=>exact z9_0);(case aF=>exact(fun _ _=>trivial));(case aO=>exact(by(with_reducible repeat(first|apply Zm|apply Zl|apply Zj));exact HO_6.out));(case aS=>exact(Yf z9_0));(case aL=>have:=LMc17.out;omega);intro v544 w18 ho hb hg hat;rw[←Ny543.out] at ho;have n0_:=Za (hb);have n1_:=Za (ho);clear HB;clear HO_6;have HB:=n0_;have HO545:=n1_;clear n0_ n1_;clear ho hb hg hat))
             go_roundg k1
             case measure=>have:=HK1.out;omega
             case rel=>exact⟨(y543),(wrap64 (x7_1 - 1)),z9_5,H',⟨by have:=HK1.out;omega⟩,⟨by(with_reducible repeat(first|apply Zm|apply Zl|apply Zj));exact HO545.out⟩,⟨by repeat(first|(with_reducible first|exact HB.out|apply Zh|apply Zf|apply Ze)|exact HB.out)⟩⟩
            ·rw[if_neg c17] at H
             exact absurd H (by simp)
           ·rw[if_neg c16] at H
            exact absurd H (by simp)
          ·rw[if_neg c15] at H
           exact absurd H (by simp)
         ·replace c13:=Bool.eq_false_iff.mpr c13
          subst c13
          rw[if_neg (show ¬(false=true) by decide)] at H
          obtain rfl:=Zn H
          have p540:0≤((ji9):Int):=Zq z9_1
          have q540:(ji9)<(l0.length:Int):=Zq z9_1
          obtain⟨ad540,e540,hx540_0⟩:=Kd.at_int HR0.out (ji9) p540 q540
          obtain rfl:ad533=ad540:=(by injection e540)
          replace hx540_0:=(HB.out.cell (Yo w _ hx540_0)).trans hx540_0
          replace p540:=eq_true p540
          replace q540:=eq_true q540
          go_wp2_with (first|((first|((with_reducible refine gate_callee (f:=42) rfl ?_);refine goesL_ (some 36) rfl rfl Tryz.func42 (by kernel_rfl) rfl #[.int .i64 (rd l0 (ji9))] rfl (by(try simp only[Yt,List.map_cons,List.map_nil]);first|done|(simp only[hji9];rfl)|rfl|(simp only[List.length_drop,List.length_take];rfl)) ?_;(with_reducible refine(impl_isVar.calls (rd l0 (ji9)) false _ A12.out).mono ?_))|(go_at_call 42;(with_reducible refine(impl_isVar.calls (rd l0 (ji9)) false _ A12.out).mono ?_)));rintro e w' ⟨rfl,⟨nd,rfl⟩⟩;(first|refine⟨_,rfl,?_⟩|skip)))
          go_ret
          exact⟨_,by first|rfl|(simp[errW_none,errW_some]<;>rfl)|(simp only[←hji9];first|rfl|(simp[errW_none,errW_some]<;>rfl))|(simp[*,errW_none,errW_some]<;>rfl)|(simp[*,errW_none,errW_some,i64_w];done),by first|exact Kd.R_nil _ _ _ _ _|exact Kd.N_nil _ _ _ _ _|exact Kd.V_nil _ _ _ _ _|exact Kd.Q_nil _ _ _ _ _|exact Kd.S_nil _ _ _ _ _,by repeat(first|(with_reducible first|exact HB.out|apply Zh|apply Zf|apply Ze)|exact HB.out)⟩
        ·rw[if_neg c11] at H
         exact absurd H (by simp)
       ·rw[if_neg c10] at H
        exact absurd H (by simp)
      ·rw[if_neg c8] at H
       have c8b0:decide (0≤x7_1)=false:=Yg c8
       clear c8
       replace H:=Zg H
       obtain⟨t546,A190,H⟩:=H
       replace H:(if x6_1.length<8796093022208 then (some (x6_1++[(⟨8,t546⟩:S66)])) else (none))=some r:=H
       have A19:=Za A190
       clear A190
       by_cases c20:x6_1.length<8796093022208
       ·rw[if_pos c20] at H
        have LMc20:=Za c20
        clear c20
        obtain⟨y547,hy547⟩:∃y_:List (S66),y_=(x6_1++[(⟨8,t546⟩:S66)]):=⟨_,rfl⟩
        replace H:(some y547)=some r:=by first|(rw[hy547];with_reducible exact H)|(have H2_:=(Yd _ _).symm.trans H;rw[hy547];with_reducible exact H2_)|(have H2_:=(Yd _ _).symm.trans H;with_reducible exact H2_)|with_reducible exact H|(rw[hy547];exact H)|exact H
        have Ny547:=Za hy547
        clear hy547
        obtain rfl:=Zn H
        go_wp2_with (first|((first|((with_reducible refine gate_callee (f:=43) rfl ?_);refine goesL_ (some 53) rfl rfl Tryz.func43 (by kernel_rfl) rfl #[.int .i64 t534,.int .i64 0,.int .i64 t536] rfl z9_2 ?_;(with_reducible refine(impl_PackControl.calls t534 0 t536 t546 _ A19.out).mono ?_))|(go_at_call 43;(with_reducible refine(impl_PackControl.calls t534 0 t536 t546 _ A19.out).mono ?_)));rintro e w' ⟨rfl,⟨nd,rfl⟩⟩;(first|refine⟨_,rfl,?_⟩|skip))|((with_reducible refine gate_builtin (b:= .append) (xs:= #[.tmp 50,.tmp 55]) rfl ?_);at_builtin;refine Kd.R_append k66 (w0:=w) w.heap.size rfl (.tmp 50) (.tmp 55) 36 66 (.agg #[(.int .i64 0),(.int .i64 0)]) 16 rfl Tryz.underlying36 info66 rfl (by decide) (by omega) u6 x6_1 (⟨8,t546⟩:S66) [.int .i64 8,.int .i64 t546] (fun _=>True) (fun _=>False) rfl rfl ?aP (fun _ hk=>hk.elim) ?aF ?aO ?aB ?aS ?aL ?_;(case aP=>exact k66_mkM _ _ _ (⟨8,t546⟩:S66));(case aB=>exact z9_0);(case aF=>exact(fun _ _=>trivial));(case aO=>exact(by(with_reducible repeat(first|apply Zm|apply Zl|apply Zj));exact HO_6.out));(case aS=>exact(Yf z9_0));(case aL=>have:=LMc20.out;omega);intro v548 w21 ho hb hg hat;rw[←Ny547.out] at ho;have n0_:=Za (hb);have n1_:=Za (ho);clear HB;clear HO_6;have HB:=n0_;have HO549:=n1_;clear n0_ n1_;clear ho hb hg hat))
        go_ret
        exact⟨_,by first|rfl|(simp[errW_none,errW_some]<;>rfl)|(simp[*,errW_none,errW_some]<;>rfl)|(simp[*,errW_none,errW_some,i64_w];done),by(with_reducible repeat(first|apply Zm|apply Zl|apply Zj));exact HO549.out,by repeat(first|(with_reducible first|exact HB.out|apply Zh|apply Zf|apply Ze)|exact HB.out)⟩
       ·rw[if_neg c20] at H
        exact absurd H (by simp)
  ·rw[if_neg c3] at H
   exact absurd H (by simp)
 ·rw[if_neg c2] at H
  have c2b0:((l0.length:Int)==49)=false:=beq_eq_false_iff_ne.mpr c2
  have c2b1:((l0.length:Int) != 49)=true:=bne_iff_ne.mpr c2
  obtain rfl:=Zn H
  go_enter Tryz.func14,Tryz.ntmps14
  go_wp2
  go_ret
  exact⟨_,by first|rfl|(simp[errW_none,errW_some]<;>rfl)|(simp[*,errW_none,errW_some]<;>rfl)|(simp[*,errW_none,errW_some,i64_w];done),by first|exact Kd.R_nil _ _ _ _ _|exact Kd.N_nil _ _ _ _ _|exact Kd.V_nil _ _ _ _ _|exact Kd.Q_nil _ _ _ _ _|exact Kd.S_nil _ _ _ _ _,by repeat(first|(with_reducible first|exact HB.out|apply Zh|apply Zf|apply Ze)|exact HB.out)⟩
def impl_Recovered.f (k:Nat) (l0:List Int):Option (List Int):=(impl_RecoveryWrites.f k l0).bind fun t550=>((impl_ApplyWrites.f k l0 t550 (t550.length:Int)).bind fun t553=>(some t553))
set_option maxHeartbeats 8000000 in
set_option maxRecDepth 100000 in
theorem impl_Recovered.calls (k:Nat) (A0:Option Addr) (c0:Nat) (l0:List Int) (r:List Int) (w:World) (hr0:Kd.C (Kd.int .i64) w A0 l0.length l0) (hc0:l0.length≤c0) (h:impl_Recovered.f k l0=some r):
  Calls Tryz.prog 16 #[.slice A0 l0.length c0] w fun e w'=>∃v0_:Value,e= .returned (v0_)∧Kd.R (Kd.int .i64) 3 w' w.heap.size (fun _=>True) v0_ r∧Below w.heap.size w w':=by
 have HR0:=Za hr0
 have HC0:=Za hc0
 clear hr0 hc0
 have HB:=Za (Yb w.heap.size w)
 have H:((impl_RecoveryWrites.f k l0).bind fun t550=>((impl_ApplyWrites.f k l0 t550 (t550.length:Int)).bind fun t553=>(some t553)))=some r:=h
 clear h
 replace H:=Zg H
 obtain⟨t550,A20,H⟩:=H
 replace H:((impl_ApplyWrites.f k l0 t550 (t550.length:Int)).bind fun t553=>(some t553))=some r:=H
 have A2:=Za A20
 clear A20
 replace H:=Zg H
 obtain⟨t553,A30,H⟩:=H
 replace H:(some t553)=some r:=H
 have A3:=Za A30
 clear A30
 obtain rfl:=Zn H
 go_enter Tryz.func16,Tryz.ntmps16
 go_wp2_with (first|((first|((with_reducible refine gate_callee (f:=14) rfl ?_);refine goesL_ (some 5) rfl rfl Tryz.func14 (by kernel_rfl) rfl #[.slice A0 l0.length c0] rfl z9_2 ?_;(with_reducible refine(impl_RecoveryWrites.calls k _ _ l0 t550 _ ?side1 ?side2 A2.out).mono ?_))|(go_at_call 14;(with_reducible refine(impl_RecoveryWrites.calls k _ _ l0 t550 _ ?side1 ?side2 A2.out).mono ?_)));(case side1=>repeat(first|exact HR0.out|(with_reducible refine Yk ?_ _)|(with_reducible refine Yi ?_ _)|(with_reducible refine Yl ?_)));(case side2=>exact HC0.out);rintro e w4 ⟨v551,rfl,ho0,hb⟩;(first|refine⟨_,rfl,?_⟩|skip);have HO552:=Za (Yr ho0 (Yf z9_0));replace HB:=Za (Zk z9_0 hb);(try clear hb);(try clear hb2);(try clear hk);(try clear hi);(try clear ho0);obtain⟨Ao5,co5,eo5⟩:=Yn HO552.out;subst eo5)|((first|((with_reducible refine gate_callee (f:=13) rfl ?_);refine goesL_ (some 10) rfl rfl Tryz.func13 (by kernel_rfl) rfl #[.slice A0 l0.length c0,.slice Ao5 t550.length co5,.int .i64 (t550.length:Int)] rfl z9_2 ?_;(with_reducible refine(impl_ApplyWrites.calls k _ _ l0 _ _ t550 (t550.length:Int) t553 _ ?side1 ?side2 ?side3 ?side4 A3.out).mono ?_))|(go_at_call 13;(with_reducible refine(impl_ApplyWrites.calls k _ _ l0 _ _ t550 (t550.length:Int) t553 _ ?side1 ?side2 ?side3 ?side4 A3.out).mono ?_)));(case side1=>repeat(first|exact(Yh HR0.out HB.out)|(with_reducible refine Yk ?_ _)|(with_reducible refine Yi ?_ _)|(with_reducible refine Yl ?_)));(case side2=>exact HC0.out);(case side3=>repeat(first|exact(Ym HO552.out).2.2|(with_reducible refine Yk ?_ _)|(with_reducible refine Yi ?_ _)|(with_reducible refine Yl ?_)));(case side4=>exact(Ym HO552.out).2.1);rintro e w6 ⟨v554,rfl,ho0,hb⟩;(first|refine⟨_,rfl,?_⟩|skip);replace HO552:=Za (Kd.R_below (by(with_reducible repeat(first|apply Zm|apply Zl|apply Zj));exact HO552.out) hb);have HO555:=Za (Yr ho0 (Yf z9_0));replace HB:=Za (Zk z9_0 hb);(try clear hb);(try clear hb2);(try clear hk);(try clear hi);(try clear ho0)))
 go_ret
 exact⟨_,by first|rfl|(simp[errW_none,errW_some]<;>rfl)|(simp[*,errW_none,errW_some]<;>rfl)|(simp[*,errW_none,errW_some,i64_w];done),by(with_reducible repeat(first|apply Zm|apply Zl|apply Zj));exact HO555.out,by repeat(first|(with_reducible first|exact HB.out|apply Zh|apply Zf|apply Ze)|exact HB.out)⟩
def impl_currentTask.f (l0_0:List (S74)) (l1:List Int):Option ((List (S93))×Int×Int×Int):=if 8<(l1.length:Int) then ((impl_UnpackControl.f (rd l1 8)).bind fun bt559=>(if 0≤bt559.1 then (if bt559.1<(l0_0.length:Int) then (some ((rd_T74 l0_0 bt559.1).f0,(rd_T74 l0_0 bt559.1).f1.f0,(rd_T74 l0_0 bt559.1).f1.f1,(rd_T74 l0_0 bt559.1).f1.f2)) else (none)) else (none))) else (none)
set_option maxHeartbeats 8000000 in
set_option maxRecDepth 100000 in
theorem impl_currentTask.calls (P0_0_:Nat→Prop) (A0_0:Option Addr) (c0_0:Nat) (l0_0:List (S74)) (A1:Option Addr) (c1:Nat) (l1:List Int) (r1:List (S93)) (r2:Int) (r3:Int) (r4:Int) (w:World) (hs0_0:Kd.V k74 74 w w.heap.size (fun k_=>P0_0_ k_) (.slice A0_0 l0_0.length c0_0) l0_0) (hr1:Kd.C (Kd.int .i64) w A1 l1.length l1) (hc1:l1.length≤c1) (h:impl_currentTask.f l0_0 l1=some (r1,r2,r3,r4)):
  Calls Tryz.prog 44 #[.agg #[.slice A0_0 l0_0.length c0_0],.slice A1 l1.length c1] w fun e w'=>∃v0_:Value,e= .returned (.agg #[v0_,.int .i64 r2,.int .i64 r3,.int .i64 r4])∧Kd.V k93 93 w' w.heap.size (fun k_=>(P0_0_ k_∨w.heap.size≤k_)) v0_ r1∧Below w.heap.size w w':=by
 have hu26:=Tryz.underlying26
 have hu74:=Tryz.underlying74
 have HO0_0:=Za (show Kd.V k74 74 w w.heap.size (fun k_=>(P0_0_ k_∨w.heap.size≤k_)) (.slice A0_0 l0_0.length c0_0) l0_0 from Kd.V_mono hs0_0 (fun k_ hk=> .inl hk))
 have HR1:=Za hr1
 have HC1:=Za hc1
 clear hr1 hc1
 have HB:=Za (Yb w.heap.size w)
 have H:(if 8<(l1.length:Int) then ((impl_UnpackControl.f (rd l1 8)).bind fun bt559=>(if 0≤bt559.1 then (if bt559.1<(l0_0.length:Int) then (some ((rd_T74 l0_0 bt559.1).f0,(rd_T74 l0_0 bt559.1).f1.f0,(rd_T74 l0_0 bt559.1).f1.f1,(rd_T74 l0_0 bt559.1).f1.f2)) else (none)) else (none))) else (none))=some (r1,r2,r3,r4):=h
 clear h
 by_cases c3:8<(l1.length:Int)
 ·rw[if_pos c3] at H
  have c3b0:decide (8<(l1.length:Int))=true:=Zo c3
  have c3b1:decide (8<l1.length)=true:=Zo (by omega)
  clear c3
  replace H:=Zg H
  obtain⟨⟨t559,t560,t561⟩,A40,H⟩:=H
  replace H:(if 0≤t559 then (if t559<(l0_0.length:Int) then (some ((rd_T74 l0_0 t559).f0,(rd_T74 l0_0 t559).f1.f0,(rd_T74 l0_0 t559).f1.f1,(rd_T74 l0_0 t559).f1.f2)) else (none)) else (none))=some (r1,r2,r3,r4):=H
  have A4:=Za A40
  clear A40
  by_cases c5:0≤t559
  ·rw[if_pos c5] at H
   have c5b0:decide (0≤t559)=true:=Zo c5
   clear c5
   by_cases c6:t559<(l0_0.length:Int)
   ·rw[if_pos c6] at H
    have c6b0:decide (t559<(l0_0.length:Int))=true:=Zo c6
    clear c6
    simp only[Option.some.injEq,Prod.mk.injEq] at H
    obtain⟨rfl,rfl,rfl,rfl⟩:=H
    go_enter Tryz.func44,Tryz.ntmps44
    go_wp2_with (first|((with_reducible refine Zr (N:=2) rfl ?_);refine Zy ?hg (N:=2) ?hd (cs:= #[.slice A0_0 l0_0.length c0_0]) (t:=26) ?hr ?_;(case hd=>rfl);(case hg=>rfl);(case hr=>exact z9_3);intro gb556 hg w7 hbox hb;replace HO0_0:=Za (Kd.V_below (Kd.V_elderB (by(with_reducible repeat(first|apply Kd.V_alloc|apply Kd.V_drewN|apply Kd.V_drew));exact HO0_0.out) gb556 (Nat.le_of_eq hg.symm)) hb);have BK556:=Za (hbox);have GW556:=Za ((by rw[hg];exact(Yf z9_0):w.heap.size≤gb556));have GE556:=Za ((by rw[hg];exact(Yf z9_0):w.heap.size≤gb556));replace HB:=Za (Zk z9_0 hb);clear hb hbox hg)|((with_reducible refine Zr (N:=4) rfl ?_);refine Zy ?hg (N:=4) ?hd (cs:= #[.slice none 0 0,.int .i64 0,.int .i64 0,.int .i64 0]) (t:=74) ?hr ?_;(case hd=>rfl);(case hg=>rfl);(case hr=>exact z9_3);intro gb557 hg w8 hbox hb;replace HO0_0:=Za (Kd.V_below (Kd.V_elderB (by(with_reducible repeat(first|apply Kd.V_alloc|apply Kd.V_drewN|apply Kd.V_drew));exact HO0_0.out) gb557 (Nat.le_of_eq hg.symm)) hb);have BK557:=Za (hbox);have GW557:=Za ((by rw[hg];exact(Yf z9_6):w.heap.size≤gb557));have GE557:=Za ((by rw[hg];exact(Yf z9_6):w.heap.size≤gb557));replace HB:=Za (Zk z9_6 hb);have NB556_557:=Za ((by rw[hg];exact Nat.ne_of_lt (blk_lt (g:=gb556) (o:= .cells #[.slice A0_0 l0_0.length c0_0] 26 (0,0)) z9_4):gb556≠gb557));have NB557_556:=Za ((by rw[hg];exact Nat.ne_of_gt (blk_lt (g:=gb556) (o:= .cells #[.slice A0_0 l0_0.length c0_0] 26 (0,0)) z9_4):gb557≠gb556));replace BK556:=Za (Zi (g:=gb556) (o:= .cells #[.slice A0_0 l0_0.length c0_0] 26 (0,0)) z9_4 hb);clear hb hbox hg;have p558:0≤(8:Int):=(by omega);have q558:8<(l1.length:Int):=Zq z9_1;obtain⟨ad558,e558,hx558_0⟩:=Kd.at_int HR1.out 8 p558 q558;cases e558;(try simp only[show(8:Int).toNat=8 from rfl,Nat.reduceMul,Nat.reduceEqDiff,Go.Addr.add,↓reduceIte] at hx558_0);have qi558:(8<l1.length)=True:=eq_true (by omega);(try rw[show((8:Int)).toNat=8 from rfl] at hx558_0);replace hx558_0:=(HB.out.cell (Yo w _ hx558_0)).trans hx558_0;replace p558:=eq_true p558;replace q558:=eq_true q558)|((first|((with_reducible refine gate_callee (f:=29) rfl ?_);refine goesL_ (some 12) rfl rfl Tryz.func29 (by kernel_rfl) rfl #[.int .i64 (rd l1 8)] rfl z9_2 ?_;(with_reducible refine(impl_UnpackControl.calls (rd l1 8) t559 t560 t561 _ A4.out).mono ?_))|(go_at_call 29;(with_reducible refine(impl_UnpackControl.calls (rd l1 8) t559 t560 t561 _ A4.out).mono ?_)));rintro e w' ⟨rfl,⟨nd,rfl⟩⟩;(first|refine⟨_,rfl,?_⟩|skip);(try(rw[drewN_self w8];generalize hq_:World.drewN w8 _=w8;have n0_:Aside0 (Kd.V k74 74 w8 w.heap.size (fun k_=>(P0_0_ k_∨w.heap.size≤k_)∧k_≠gb556∧k_≠gb557) (.slice A0_0 l0_0.length c0_0) l0_0):=⟨by rw[←hq_];exact(by(with_reducible repeat(first|apply Kd.V_alloc|apply Kd.V_drewN|apply Kd.V_drew));exact Kd.V_mono HO0_0.out (fun _ hk=>⟨hk.1.1,⟨hk.1.2,hk.2⟩⟩))⟩;have n1_:Aside0 (w8.heap[gb556]? =some (.cells #[.slice A0_0 l0_0.length c0_0] 26 (0,0))):=⟨by rw[←hq_];exact z9_4⟩;have n2_:Aside0 (w8.heap[gb557]? =some (.cells #[.slice none 0 0,.int .i64 0,.int .i64 0,.int .i64 0] 74 (0,0))):=⟨by rw[←hq_];exact(by(with_reducible repeat(first|refine blk_drewN ?_ _|refine blk_drew ?_|refine blk_alloc ?_ _));exact BK557.out)⟩;have n3_:Aside0 (Below w.heap.size w w8):=⟨by rw[←hq_];exact(by repeat(first|(with_reducible first|exact HB.out|apply Zh|apply Zf|apply Ze|refine Zd ?_ GE556.out|refine Zd ?_ GE557.out)|exact HB.out))⟩;clear HO0_0 BK556 BK557 HB hq_;have HO0_0:=n0_;have BK556:=n1_;have BK557:=n2_;have HB:=n3_;clear n0_ n1_ n2_ n3_));(try(have hcuz9_0:w8.cell? ⟨gb556,0,none⟩=some (.slice A0_0 l0_0.length c0_0):=(Zb BK556.out 0).trans rfl;have hfuz9_0:=Zc BK556.out 0));(try(have hcuz10_0:w8.cell? ⟨gb557,0,none⟩=some (.slice none 0 0):=(Zb BK557.out 0).trans rfl;have hcuz10_1:w8.cell? ⟨gb557,1,none⟩=some (.int .i64 0):=(Zb BK557.out 1).trans rfl;have hcuz10_2:w8.cell? ⟨gb557,2,none⟩=some (.int .i64 0):=(Zb BK557.out 2).trans rfl;have hcuz10_3:w8.cell? ⟨gb557,3,none⟩=some (.int .i64 0):=(Zb BK557.out 3).trans rfl;have hfuz10_0:=Zc BK557.out 0;have hfuz10_1:=Zc BK557.out 1;have hfuz10_2:=Zc BK557.out 2;have hfuz10_3:=Zc BK557.out 3));have hnb11:=NB556_557.out;have hnc11:=NB557_556.out;have hcz12_0:w8.cell? ⟨gb556,0,none⟩=some (.slice A0_0 l0_0.length c0_0):=(Zb BK556.out 0).trans rfl;have hfz12_0:=Zc BK556.out 0;have p562:0≤(t559:Int):=Zq z9_1;have q562:t559<(l0_0.length:Int):=Zq z9_1;obtain⟨ad562,A562_0,c562_0,e562,hx562_0,hx562_1,hx562_2,hx562_3,hl562_0,hi562_0⟩:=at_T74 (Kd.V_reads' HO0_0.out).2.2 t559 p562 q562;cases e562;obtain⟨ce562,hce562,hMe562,hcc562⟩:=Kd.V_get HO0_0.out z74 t559 p562 (by first|exact q562|exact Zq z9_1|(have e_:=(Kd.V_reads' HO0_0.out).1;omega));obtain⟨ua562_0,uc562_0,rfl,ul562_0,ge562_0⟩:=k74_openF hMe562;have hv562_0:=hcc562 0 _ rfl;rw[Nat.add_zero] at hv562_0;replace hv562_0:=Zn (hv562_0.symm.trans hx562_0);injection hv562_0 with hva_ hvn_ hvc_;rw[hva_] at ge562_0;rw[hvc_] at ul562_0;have HL562_0:=Za (show Kd.V k93 93 _ w.heap.size _ _ ((rd_T74 l0_0 t559).f0) from Kd.V_mk ul562_0 ge562_0);clear hva_ hvn_ hvc_ ge562_0 ul562_0;clear hcc562 hce562;have HR562_0:=Za hi562_0;have HC562_0:=Za hl562_0;clear hi562_0 hl562_0;replace p562:=eq_true p562;replace q562:=eq_true q562;have hcz13_0:w8.cell? ⟨gb557,0,none⟩=some (.slice none 0 0):=(Zb BK557.out 0).trans rfl;have hcz13_1:w8.cell? ⟨gb557,1,none⟩=some (.int .i64 0):=(Zb BK557.out 1).trans rfl;have hcz13_2:w8.cell? ⟨gb557,2,none⟩=some (.int .i64 0):=(Zb BK557.out 2).trans rfl;have hcz13_3:w8.cell? ⟨gb557,3,none⟩=some (.int .i64 0):=(Zb BK557.out 3).trans rfl;have hfz13_0:=Zc BK557.out 0;have hfz13_1:=Zc BK557.out 1;have hfz13_2:=Zc BK557.out 2;have hfz13_3:=Zc BK557.out 3)|((with_reducible refine Yq (t:=74) (p:=4) rfl ?_);refine Yp (t:=74) (p:=4) (v:= ?vo_w14) (w1:=((((w8.setCell ⟨gb557,0,none⟩ (.slice A562_0 ((rd_T74 l0_0 t559).f0).length c562_0)).setCell ⟨gb557,1,none⟩ (.int .i64 ((rd_T74 l0_0 t559).f1.f0))).setCell ⟨gb557,2,none⟩ (.int .i64 ((rd_T74 l0_0 t559).f1.f1))).setCell ⟨gb557,3,none⟩ (.int .i64 ((rd_T74 l0_0 t559).f1.f2)))) ?hg ?ho ?hn ?hr ?_;(case ho=>rfl);(case hg=>rfl);(case hn=>rfl);(case hr=>exact z9_3);intro w14 hw;have n0_:Aside0 (Kd.V k74 74 w14 w.heap.size (fun k_=>(P0_0_ k_∨w.heap.size≤k_)∧k_≠gb556∧k_≠gb557) (.slice (some ad562) l0_0.length c0_0) l0_0):=⟨(by rw[hw];exact(by(with_reducible repeat(first|apply Kd.V_alloc|apply Kd.V_drewN|apply Kd.V_drew));exact Kd.V_mono (Kd.V_far (p:=⟨gb557,3,none⟩) (Kd.V_far (p:=⟨gb557,2,none⟩) (Kd.V_far (p:=⟨gb557,1,none⟩) (Kd.V_far (p:=⟨gb557,0,none⟩) (Kd.V_mono HO0_0.out (fun k_ hk=>(⟨hk,hk.2.2⟩:_∧k_≠gb557))) (fun _ hk=>hk.2) (.slice A562_0 ((rd_T74 l0_0 t559).f0).length c562_0)) (fun _ hk=>hk.2) (.int .i64 ((rd_T74 l0_0 t559).f1.f0))) (fun _ hk=>hk.2) (.int .i64 ((rd_T74 l0_0 t559).f1.f1))) (fun _ hk=>hk.2) (.int .i64 ((rd_T74 l0_0 t559).f1.f2))) (fun _ hk=>⟨hk.1.1,⟨hk.1.2.1,hk.1.2.2⟩⟩)))⟩;have n1_:Aside0 (Kd.V k93 93 w14 w.heap.size (fun k_=>(P0_0_ k_∨w.heap.size≤k_)∧k_≠gb556∧k_≠gb557) (.slice A562_0 ((rd_T74 l0_0 t559).f0).length c562_0) ((rd_T74 l0_0 t559).f0)):=⟨(by rw[hw];exact(by(with_reducible repeat(first|apply Kd.V_alloc|apply Kd.V_drewN|apply Kd.V_drew));exact Kd.V_mono (Kd.V_far (p:=⟨gb557,3,none⟩) (Kd.V_far (p:=⟨gb557,2,none⟩) (Kd.V_far (p:=⟨gb557,1,none⟩) (Kd.V_far (p:=⟨gb557,0,none⟩) (Kd.V_mono HL562_0.out (fun k_ hk=>(⟨hk,hk.2.2⟩:_∧k_≠gb557))) (fun _ hk=>hk.2) (.slice A562_0 ((rd_T74 l0_0 t559).f0).length c562_0)) (fun _ hk=>hk.2) (.int .i64 ((rd_T74 l0_0 t559).f1.f0))) (fun _ hk=>hk.2) (.int .i64 ((rd_T74 l0_0 t559).f1.f1))) (fun _ hk=>hk.2) (.int .i64 ((rd_T74 l0_0 t559).f1.f2))) (fun _ hk=>⟨hk.1.1,⟨hk.1.2.1,hk.1.2.2⟩⟩)))⟩;have n2_:Aside0 (w14.heap[gb556]? =some (.cells #[.slice (some ad562) l0_0.length c0_0] 26 (0,0))):=⟨(by rw[hw];exact(by(with_reducible repeat(first|refine blk_drewN ?_ _|refine blk_drew ?_|refine blk_alloc ?_ _));refine blk_far ?_ NB556_557.out _;(with_reducible repeat(first|refine blk_drewN ?_ _|refine blk_drew ?_|refine blk_alloc ?_ _));refine blk_far ?_ NB556_557.out _;(with_reducible repeat(first|refine blk_drewN ?_ _|refine blk_drew ?_|refine blk_alloc ?_ _));refine blk_far ?_ NB556_557.out _;(with_reducible repeat(first|refine blk_drewN ?_ _|refine blk_drew ?_|refine blk_alloc ?_ _));refine blk_far ?_ NB556_557.out _;(with_reducible repeat(first|refine blk_drewN ?_ _|refine blk_drew ?_|refine blk_alloc ?_ _));exact BK556.out))⟩;have n3_:Aside0 (w14.heap[gb557]? =some (.cells #[.slice A562_0 ((rd_T74 l0_0 t559).f0).length c562_0,.int .i64 ((rd_T74 l0_0 t559).f1.f0),.int .i64 ((rd_T74 l0_0 t559).f1.f1),.int .i64 ((rd_T74 l0_0 t559).f1.f2)] 74 (0,0))):=⟨(by rw[hw];exact(by(with_reducible repeat(first|refine blk_drewN ?_ _|refine blk_drew ?_|refine blk_alloc ?_ _));refine blk_put (cs:= #[.slice A562_0 ((rd_T74 l0_0 t559).f0).length c562_0,.int .i64 ((rd_T74 l0_0 t559).f1.f0),.int .i64 ((rd_T74 l0_0 t559).f1.f1),.int .i64 0]) ?_ 3 _ rfl;(with_reducible repeat(first|refine blk_drewN ?_ _|refine blk_drew ?_|refine blk_alloc ?_ _));refine blk_put (cs:= #[.slice A562_0 ((rd_T74 l0_0 t559).f0).length c562_0,.int .i64 ((rd_T74 l0_0 t559).f1.f0),.int .i64 0,.int .i64 0]) ?_ 2 _ rfl;(with_reducible repeat(first|refine blk_drewN ?_ _|refine blk_drew ?_|refine blk_alloc ?_ _));refine blk_put (cs:= #[.slice A562_0 ((rd_T74 l0_0 t559).f0).length c562_0,.int .i64 0,.int .i64 0,.int .i64 0]) ?_ 1 _ rfl;(with_reducible repeat(first|refine blk_drewN ?_ _|refine blk_drew ?_|refine blk_alloc ?_ _));refine blk_put (cs:= #[.slice none 0 0,.int .i64 0,.int .i64 0,.int .i64 0]) ?_ 0 _ rfl;(with_reducible repeat(first|refine blk_drewN ?_ _|refine blk_drew ?_|refine blk_alloc ?_ _));exact BK557.out))⟩;have n4_:Aside0 (Below w.heap.size w w14):=⟨(by rw[hw];exact(by repeat(first|(with_reducible first|exact HB.out|apply Zh|apply Zf|apply Ze|refine Zd ?_ GE556.out|refine Zd ?_ GE557.out)|exact HB.out)))⟩;clear hw;clear HO0_0;clear HL562_0;clear BK556;clear BK557;clear HB;have HO0_0:=n0_;have HL562_0:=n1_;have BK556:=n2_;have BK557:=n3_;have HB:=n4_;clear n0_ n1_ n2_ n3_ n4_))
    refine bodyPost_ret (results_cell_row rfl _ _ gb557 74 #[.slice A562_0 ((rd_T74 l0_0 t559).f0).length c562_0,.int .i64 ((rd_T74 l0_0 t559).f1.f0),.int .i64 ((rd_T74 l0_0 t559).f1.f1),.int .i64 ((rd_T74 l0_0 t559).f1.f2)] (0,0) _ rfl (by(with_reducible repeat(first|refine blk_drewN ?_ _|refine blk_drew ?_|refine blk_alloc ?_ _));exact BK557.out) Tryz.underlying74 rfl (by kernel_rfl)) rfl ?_
    exact⟨_,by first|rfl|(simp[errW_none,errW_some]<;>rfl)|(simp[*,errW_none,errW_some]<;>rfl)|(simp[*,errW_none,errW_some,i64_w];done),by(with_reducible repeat(first|apply Kd.V_alloc|apply Kd.V_drewN|apply Kd.V_drew));exact Kd.V_mono HL562_0.out (fun _ hk=>hk.1),by repeat(first|(with_reducible first|exact HB.out|apply Zh|apply Zf|apply Ze|refine Zd ?_ GE556.out|refine Zd ?_ GE557.out)|exact HB.out)⟩
   ·rw[if_neg c6] at H
    exact absurd H (by simp)
  ·rw[if_neg c5] at H
   exact absurd H (by simp)
 ·rw[if_neg c3] at H
  exact absurd H (by simp)
theorem heapTaskD:Kd.Heap k74:=Kd.heap_iso _ (Kd.heap_pair (Kd.heap_slice _ (Kd.heap_iso _ (Kd.heap_pair (Kd.heap_int .i64) (Kd.heap_pair (Kd.heap_int .i64) (Kd.heap_pair (Kd.heap_int .i64) (Kd.heap_iso _ (Kd.heap_pair (Kd.heap_int .i64) (Kd.heap_pair (Kd.heap_int .i64) (Kd.heap_int .i64))))))))) (Kd.heap_iso _ (Kd.heap_pair (Kd.heap_int .i64) (Kd.heap_pair (Kd.heap_int .i64) (Kd.heap_int .i64)))))
set_option maxHeartbeats 2000000 in
set_option maxRecDepth 100000 in
theorem dirty_clo (g6:Nat) (v15:Value) (ms:List Int) (x:Int) (w:World) (l1:ms.length≤1048576) (h6:w.heap[g6]? =some (.cells #[v15] 27 (0,0))) (r15:Sep.rowI 3 w v15 ms):
  Calls Tryz.prog 48 (#[.int .i64 x]++ #[.pointer (some ⟨g6,0,none⟩)]) w fun e w'=>e= .returned (.bool (decide (x∈ms)))∧Drawn0 w w':=by
 obtain⟨A15,c15,rfl,lc15,kc15⟩:=r15.open_
 have hc6:=Sep.blk1 h6
 have K15:=Za kc15
 have C15:=Za lc15
 have e2:=hasVar_some ms l1 x
 generalize decide (x∈ms)=b2 at e2 ⊢
 have T2:=Za e2
 clear h6 r15 kc15 lc15 e2 l1
 go_enter Tryz.func48,Tryz.ntmps48
 go_wp2_with (first|(go_at_call 49;refine(impl_HasVar.calls _ _ _ ms x b2 _ K15.out C15.out T2.out).mono ?_;rintro e w' ⟨rfl,⟨nd,rfl⟩⟩)|fail)
 go_ret
 exact⟨rfl,by repeat(first|exact Zv _|apply Zw)⟩
def impl_DirtyVars.f (k:Nat) (l0:List S74) (l1:List Int):Option (List Int):=(impl_MemOk.f k l0 l1).bind fun b=>if b=true then (impl_currentTask.f l0 l1).bind fun t=>(impl_MustLog.f k t.1 t.2.1 t.2.2.1 t.2.2.2).bind fun ms=>(impl_MayWrite.f k t.1).bind fun ws=>if ms.length≤1048576 then some (ws.filter fun x=> !decide (x∈ms)) else none else some []
set_option maxHeartbeats 8000000 in
set_option maxRecDepth 100000 in
theorem impl_DirtyVars.calls (k:Nat) (A0:Option Addr) (c0:Nat) (l0:List S74) (A1:Option Addr) (c1:Nat) (l1:List Int) (r:List Int) (w:World) (hr0:Kd.C k74 w A0 l0.length l0) (hc0:l0.length≤c0) (hr1:Kd.C (Kd.int .i64) w A1 l1.length l1) (hc1:l1.length≤c1) (h:impl_DirtyVars.f k l0 l1=some r):
  Calls Tryz.prog 19 #[.agg #[.slice A0 l0.length c0],.slice A1 l1.length c1] w fun e w'=>∃v0_:Value,e= .returned (v0_)∧Kd.R (Kd.int .i64) 3 w' w.heap.size (fun _=>True) v0_ r∧Below w.heap.size w w':=by
 unfold impl_DirtyVars.f at h
 obtain⟨b,hb,h⟩:=Zg h
 have HR0:=Za hr0
 have HC0:=Za hc0
 have HR1:=Za hr1
 have HC1:=Za hc1
 have TB:=Za hb
 clear hr0 hc0 hr1 hc1 hb
 cases b with
 |false=>
  rw[if_neg (by decide)] at h
  cases h
  go_enter Tryz.func19,Tryz.ntmps19
  go_wp2_with (first|((with_reducible refine Zr (N:=2) rfl ?_);refine Zy ?hg (N:=2) ?hd (cs:= #[.slice A0 l0.length c0]) (t:=26) ?hr ?_;(case hd=>rfl);(case hg=>rfl);(case hr=>exact z9_3);intro gp hgp w1 hp hb;have BP1:=Za hp;have HB1:=Za hb;clear hgp hp hb;have hP1:w1.cell? ⟨gp,0,none⟩=some (.slice A0 l0.length c0):=(Zb BP1.out 0).trans rfl)|(go_at_call 23;(with_reducible refine(impl_MemOk.calls k _ _ l0 _ _ l1 false _ ?sd1 HC0.out ?sd2 HC1.out TB.out).mono ?_);(case sd1=>exact Yh HR0.out HB1.out);(case sd2=>exact Yh HR1.out HB1.out);rintro e w2 ⟨rfl,hb2⟩;have BP2:=Za (Zi BP1.out hb2);have HB2:=Za (Zk HB1.out hb2);clear hb2;have hP2:w2.cell? ⟨gp,0,none⟩=some (.slice A0 l0.length c0):=(Zb BP2.out 0).trans rfl)|fail)
  go_ret
  exact⟨_,rfl,Kd.R_nil _ _ _ _ _,HB2.out⟩
 |true=>
  rw[if_pos rfl] at h
  obtain⟨⟨r1,r2,r3,r4⟩,ht,h⟩:=Zg h
  obtain⟨ms,hm,h⟩:=Zg h
  obtain⟨ws,hw,h⟩:=Zg h
  by_cases hl:ms.length≤1048576
  ·rw[if_pos hl] at h
   cases h
   have TT:=Za ht
   have TM:=Za hm
   have TW:=Za hw
   have HL:=Za hl
   clear ht hm hw hl
   go_enter Tryz.func19,Tryz.ntmps19
   have HV0:=Za (show ∀w2:World,Below w.heap.size w w2→Kd.V k74 74 w2 w2.heap.size (fun q=>q<w.heap.size) (.slice A0 l0.length c0) l0 from fun w2 hB=>Kd.V_mk HC0.out (fun W' hW=>heapTaskD.C (fun q hq=>(hW q hq (Nat.lt_of_lt_of_le hq hB.size)).trans (hB.block q hq)) HR0.out))
   go_wp2_with (first|((with_reducible refine Zr (N:=2) rfl ?_);refine Zy ?hg (N:=2) ?hd (cs:= #[.slice A0 l0.length c0]) (t:=26) ?hr ?_;(case hd=>rfl);(case hg=>rfl);(case hr=>exact z9_3);intro gp hgp w1 hp hb;have BP1:=Za hp;have HB1:=Za hb;clear hgp hp hb;have hP1:w1.cell? ⟨gp,0,none⟩=some (.slice A0 l0.length c0):=(Zb BP1.out 0).trans rfl)|(go_at_call 23;(with_reducible refine(impl_MemOk.calls k _ _ l0 _ _ l1 true _ ?sd1 HC0.out ?sd2 HC1.out TB.out).mono ?_);(case sd1=>exact Yh HR0.out HB1.out);(case sd2=>exact Yh HR1.out HB1.out);rintro e w2 ⟨rfl,hb2⟩;have BP2:=Za (Zi BP1.out hb2);have HB2:=Za (Zk HB1.out hb2);clear hb2;have hP2:w2.cell? ⟨gp,0,none⟩=some (.slice A0 l0.length c0):=(Zb BP2.out 0).trans rfl)|(go_at_call 44;(with_reducible refine(impl_currentTask.calls (fun q=>q<w.heap.size) _ _ l0 _ _ l1 r1 r2 r3 r4 _ (HV0.out _ HB2.out) (Yh HR1.out HB2.out) HC1.out TT.out).mono ?_);rintro e w3 ⟨v9,rfl,ho,hb⟩;obtain⟨A9,c9,rfl,lc9,hf9⟩:=ho;have LC9:=Za lc9;have F3:=Za (Kd.F_bound hf9);have HB3:=Za (Zk HB2.out hb);clear lc9 hf9 hb)|((with_reducible refine Zr (N:=5) rfl ?_);refine Zy ?hg (N:=5) ?hd (cs:= #[.slice none 0 0,.int .i64 0,.int .i64 0,.int .i64 0]) (t:=74) ?hr ?_;(case hd=>rfl);(case hg=>rfl);(case hr=>exact z9_3);intro g5 hg5 w4 hp hb;have G5:=Za hg5;have Z4:=Za hp;have B34:=Za hb;have HB4:=Za (Zk HB3.out hb);clear hg5 hp hb;obtain⟨⟨_,_,_,_⟩,⟨_,_,_,_⟩⟩:=Sep.blk4 Z4.out)|((with_reducible refine Yq (t:=74) (p:=5) rfl ?_);refine Yp (t:=74) (p:=5) (v:= ?vo_w5) (w1:=Sep.put4 w4 g5 (.slice A9 r1.length c9) (.int .i64 r2) (.int .i64 r3) (.int .i64 r4)) ?hg ?ho ?hn ?hr ?_;(case ho=>rfl);(case hg=>rfl);(case hn=>rfl);(case hr=>exact z9_3);intro w5 hw;have S5:Aside0 (w5.heap[g5]? =some (.cells #[.slice A9 r1.length c9,.int .i64 r2,.int .i64 r3,.int .i64 r4] 74 (0,0))):=⟨by rw[hw];exact Sep.put4_blk Z4.out _ _ _ _⟩;have HB5:Aside0 (Below w.heap.size w w5):=⟨by rw[hw];exact Sep.put4_below HB4.out (by rw[G5.out];exact HB3.out.size) _ _ _ _⟩;have C5:Aside0 (Kd.C k93 w5 A9 r1.length r1):=⟨Kd.F_now (Kd.F_step F3.out (fun q hq hl=>by rw[hw];exact(Sep.put4_far (by rw[G5.out];omega) _ _ _ _).trans (B34.out.block q hl)))⟩;clear hw;obtain⟨⟨_,_,_,_⟩,⟨_,_,_,_⟩⟩:=Sep.blk4 S5.out)|(go_at_call 45;(with_reducible refine(impl_MustLog.calls k _ _ r1 r2 r3 r4 ms _ C5.out LC9.out TM.out).mono ?_);rintro e w6 ⟨v15,rfl,ho,hb⟩;obtain⟨A15,c15,rfl,lc15,kc15⟩:=(Sep.rowI.of_R ho).open_;have R6:=Za (Sep.rowI.of_R ho);have S6:=Za (Zi S5.out hb);have HB6:=Za (Zk HB5.out hb);have C6:=Za (Yh C5.out hb);clear ho hb lc15 kc15;obtain⟨⟨_,_,_,_⟩,⟨_,_,_,_⟩⟩:=Sep.blk4 S6.out)|((with_reducible refine Zr (N:=6) rfl ?_);refine Zy ?hg (N:=6) ?hd (cs:= #[.slice none 0 0]) (t:=27) ?hr ?_;(case hd=>rfl);(case hg=>rfl);(case hr=>exact z9_3);intro g6 hg6 w7 hp hb;have G6:=Za hg6;have Z7:=Za hp;have B67:=Za hb;have HB7:=Za (Zk HB6.out hb);clear hg6 hp hb;have hz7:=Sep.blk1 Z7.out;have hfz7:=Zc Z7.out 0)|((with_reducible refine Yq (t:=27) (p:=6) rfl ?_);refine Yp (t:=27) (p:=6) (v:= ?vo_w8) (w1:=(w7.setCell ⟨g6,0,none⟩ (.slice A15 ms.length c15))) ?hg ?ho ?hn ?hr ?_;(case ho=>rfl);(case hg=>rfl);(case hn=>rfl);(case hr=>exact z9_3);intro w8 hw;have B68:Aside0 (Below w6.heap.size w6 w8):=⟨by rw[hw];exact Zd B67.out (by rw[G6.out];exact Nat.le_refl _)⟩;have M8:Aside0 (w8.heap[g6]? =some (.cells #[.slice A15 ms.length c15] 27 (0,0))):=⟨by rw[hw];exact blk_put Z7.out 0 _ rfl⟩;have R8:=Za (R6.out.below B68.out);have S8:=Za (Zi S6.out B68.out);have HB8:=Za (Zk HB6.out B68.out);have C8:=Za (Yh C6.out B68.out);clear hw;obtain⟨⟨_,_,_,_⟩,⟨_,_,_,_⟩⟩:=Sep.blk4 S8.out)|(go_at_call 47;(with_reducible refine(impl_MayWrite.calls k _ _ r1 ws _ (Yh C8.out (by repeat(first|exact Yb _ _|apply Zf))) LC9.out TW.out).mono ?_);rintro e w9 ⟨v7,rfl,ho,hb⟩;have R7:=Za (Sep.rowI.of_R ho);have V7:Aside0 (∀q,v7.ownBlock=some q→w8.heap.size≤q):=⟨fun q hq=>Ye ho q hq⟩;have M9:=Za (Zi M8.out hb);have R9:=Za (R8.out.below hb);have HB9:=Za (Zk HB8.out hb);clear ho hb)|(go_at_call 46;(with_reducible refine(delete_calls (fun x=>decide (x∈ms)) 48 #[.pointer (some ⟨g6,0,none⟩)] (fun args w=>enters_ Tryz.func48 (by kernel_rfl) (by kernel_rfl) args w) v7 ws _ R7.out ?sdq).mono ?_);(case sdq=>exact fun x w' hk=>dirty_clo g6 _ ms x w' HL.out ((hk g6 (blk_lt M9.out) (fun e=>by have:=V7.out g6 e;have:=blk_lt M8.out;omega)).trans M9.out) (R9.out.keep (fun q hq=>hk q (R9.out.lt q hq) (fun e=>by have:=V7.out q e;have:=R8.out.lt q hq;omega))));rintro e wa ⟨v8,rfl,hr8,he8,hg8⟩;have RA:=Za hr8;have EA:=Za he8;have VA:Aside0 (∀q,v7.ownBlock=some q→w.heap.size≤q):=⟨fun q hq=>Nat.le_trans HB8.out.size (V7.out q hq)⟩;have HBA:=Za (below_grown HB9.out hg8 VA.out);clear hr8 he8 hg8)|fail)
   go_ret
   exact⟨_,rfl,RA.out.to_R (fun q hq=>VA.out q (EA.out ▸ hq)) (fun _ _=>trivial),HBA.out⟩
  ·rw[if_neg hl] at h
   cases h
def laws_has.l0:Nat→List Int→Int→Int→Option (Bool)
 |0,_,_,_=>none
 |k+1,x0,x1,x5=>if x5<(x0.length:Int) then (if 0≤x5 then (if (rd x0 x5)=x1 then (some true) else (laws_has.l0 k x0 x1 (wrap64 (x5+1)))) else (none)) else (some false)
def laws_has.f (k:Nat) (l0:List Int) (a1:Int):Option (Bool):=laws_has.l0 k l0 a1 0
set_option maxHeartbeats 8000000 in
set_option maxRecDepth 100000 in
theorem laws_has.calls (k:Nat) (A0:Option Addr) (c0:Nat) (l0:List Int) (a1:Int) (r:Bool) (w:World) (hr0:Kd.C (Kd.int .i64) w A0 l0.length l0) (hc0:l0.length≤c0) (h:laws_has.f k l0 a1=some r):
  Calls Tryz.prog 20 #[.slice A0 l0.length c0,.int .i64 a1] w fun e w'=>e= .returned (.bool r)∧Drawn0 w w':=by
 have HR0:=Za hr0
 have HC0:=Za hc0
 clear hr0 hc0
 have H:(laws_has.l0 k l0 a1 0)=some r:=h
 clear h
 have H':=Za H
 clear H
 go_enter Tryz.func20,Tryz.ntmps20
 go_wp2
 go_loopg [5] k (fun kq v5 w'=>∃(x5_1:Int),v5= .int .i64 x5_1∧Aside0 (laws_has.l0 kq l0 a1 x5_1=some r)∧Aside0 (kq≤k)∧Drawn0 w w')
 case atStart=>exact⟨(0),z9_5,H',⟨Nat.le_refl _⟩,by repeat(first|exact Zv _|apply Zw)⟩
 case round=>
  clear H'
  obtain⟨x5_1,rfl,HA,HK1,⟨m1,rfl⟩⟩:=hrel
  cases gk with
  |zero=>exact absurd HA.out (by simp[laws_has.l0])
  |succ k1=>
   have H:=HA.out
   clear HA
   simp only[laws_has.l0] at H
   by_cases c3:x5_1<(l0.length:Int)
   ·rw[if_pos c3] at H
    have c3b0:decide (x5_1<(l0.length:Int))=true:=Zo c3
    clear c3
    by_cases c4:0≤x5_1
    ·rw[if_pos c4] at H
     have c4b0:decide (0≤x5_1)=true:=Zo c4
     clear c4
     by_cases c5:(rd l0 x5_1)=a1
     ·rw[if_pos c5] at H
      have c5b0:((rd l0 x5_1)==a1)=true:=beq_iff_eq.mpr c5
      have c5b1:((rd l0 x5_1) != a1)=false:=bne_eq_false_iff_eq.mpr c5
      clear c5
      obtain rfl:=Zn H
      have p563:0≤(x5_1:Int):=Zq z9_1
      have q563:x5_1<(l0.length:Int):=Zq z9_1
      obtain⟨ad563,e563,hx563_0⟩:=Kd.at_int HR0.out x5_1 p563 q563
      cases e563
      replace p563:=eq_true p563
      replace q563:=eq_true q563
      go_wp2
      go_ret
      exact⟨by first|rfl|(simp;done)|(simp[*];done),by repeat(first|exact Zv _|apply Zw)⟩
     ·rw[if_neg c5] at H
      have c5b0:((rd l0 x5_1)==a1)=false:=beq_eq_false_iff_ne.mpr c5
      have c5b1:((rd l0 x5_1) != a1)=true:=bne_iff_ne.mpr c5
      have H':=Za H
      clear H
      have p563:0≤(x5_1:Int):=Zq z9_1
      have q563:x5_1<(l0.length:Int):=Zq z9_1
      obtain⟨ad563,e563,hx563_0⟩:=Kd.at_int HR0.out x5_1 p563 q563
      cases e563
      replace p563:=eq_true p563
      replace q563:=eq_true q563
      go_wp2
      go_roundg k1
      case measure=>have:=HK1.out;omega
      case rel=>exact⟨(wrap64 (x5_1+1)),z9_5,H',⟨by have:=HK1.out;omega⟩,by repeat(first|exact Zv _|apply Zw)⟩
    ·rw[if_neg c4] at H
     exact absurd H (by simp)
   ·rw[if_neg c3] at H
    have c3b0:decide (x5_1<(l0.length:Int))=false:=Yg c3
    clear c3
    obtain rfl:=Zn H
    go_wp2
    go_ret
    exact⟨by first|rfl|(simp;done)|(simp[*];done),by repeat(first|exact Zv _|apply Zw)⟩
def impl_MemSent.f (l0:List Int):Option (List Int):=if (l0.length:Int)=49 then (if 8<(l0.length:Int) then ((impl_UnpackControl.f (rd l0 8)).bind fun bt565=>(if bt565.2.2<0 then (some ([]:List Int)) else (if 25≤(wrap64 (25+bt565.2.2)) then (if (wrap64 (25+bt565.2.2))≤(l0.length:Int) then ((slices_Clone_int_int.f ((l0.take ((wrap64 (25+bt565.2.2)):Int).toNat).drop 25)).bind fun t569=>(some t569)) else (none)) else (none)))) else (none)) else (some ([]:List Int))
set_option maxHeartbeats 8000000 in
set_option maxRecDepth 100000 in
theorem impl_MemSent.calls (A0:Option Addr) (c0:Nat) (l0:List Int) (r:List Int) (w:World) (hr0:Kd.C (Kd.int .i64) w A0 l0.length l0) (hc0:l0.length≤c0) (h:impl_MemSent.f l0=some r):
  Calls Tryz.prog 22 #[.slice A0 l0.length c0] w fun e w'=>∃v0_:Value,e= .returned (v0_)∧Kd.R (Kd.int .i64) 3 w' w.heap.size (fun _=>True) v0_ r∧Below w.heap.size w w':=by
 have HR0:=Za hr0
 have HC0:=Za hc0
 clear hr0 hc0
 have HB:=Za (Yb w.heap.size w)
 have H:(if (l0.length:Int)=49 then (if 8<(l0.length:Int) then ((impl_UnpackControl.f (rd l0 8)).bind fun bt565=>(if bt565.2.2<0 then (some ([]:List Int)) else (if 25≤(wrap64 (25+bt565.2.2)) then (if (wrap64 (25+bt565.2.2))≤(l0.length:Int) then ((slices_Clone_int_int.f ((l0.take ((wrap64 (25+bt565.2.2)):Int).toNat).drop 25)).bind fun t569=>(some t569)) else (none)) else (none)))) else (none)) else (some ([]:List Int)))=some r:=h
 clear h
 by_cases c2:(l0.length:Int)=49
 ·rw[if_pos c2] at H
  have c2b0:((l0.length:Int)==49)=true:=beq_iff_eq.mpr c2
  have c2b1:((l0.length:Int) != 49)=false:=bne_eq_false_iff_eq.mpr c2
  clear c2
  by_cases c3:8<(l0.length:Int)
  ·rw[if_pos c3] at H
   have c3b0:decide (8<(l0.length:Int))=true:=Zo c3
   have c3b1:decide (8<l0.length)=true:=Zo (by omega)
   clear c3
   replace H:=Zg H
   obtain⟨⟨t565,t566,t567⟩,A40,H⟩:=H
   replace H:(if t567<0 then (some ([]:List Int)) else (if 25≤(wrap64 (25+t567)) then (if (wrap64 (25+t567))≤(l0.length:Int) then ((slices_Clone_int_int.f ((l0.take ((wrap64 (25+t567)):Int).toNat).drop 25)).bind fun t569=>(some t569)) else (none)) else (none)))=some r:=H
   have A4:=Za A40
   clear A40
   by_cases c5:t567<0
   ·rw[if_pos c5] at H
    have c5b0:decide (t567<0)=true:=Zo c5
    clear c5
    obtain rfl:=Zn H
    have p564:0≤(8:Int):=(by omega)
    have q564:8<(l0.length:Int):=Zq z9_1
    obtain⟨ad564,e564,hx564_0⟩:=Kd.at_int HR0.out 8 p564 q564
    cases e564
    (try simp only[show(8:Int).toNat=8 from rfl,Nat.reduceMul,Nat.reduceEqDiff,Go.Addr.add,↓reduceIte] at hx564_0)
    have qi564:(8<l0.length)=True:=eq_true (by omega)
    (try rw[show((8:Int)).toNat=8 from rfl] at hx564_0)
    replace p564:=eq_true p564
    replace q564:=eq_true q564
    go_enter Tryz.func22,Tryz.ntmps22
    go_wp2_with (first|((first|((with_reducible refine gate_callee (f:=29) rfl ?_);refine goesL_ (some 13) rfl rfl Tryz.func29 (by kernel_rfl) rfl #[.int .i64 (rd l0 8)] rfl z9_2 ?_;(with_reducible refine(impl_UnpackControl.calls (rd l0 8) t565 t566 t567 _ A4.out).mono ?_))|(go_at_call 29;(with_reducible refine(impl_UnpackControl.calls (rd l0 8) t565 t566 t567 _ A4.out).mono ?_)));rintro e w' ⟨rfl,⟨nd,rfl⟩⟩;(first|refine⟨_,rfl,?_⟩|skip)))
    go_ret
    exact⟨_,by first|rfl|(simp[errW_none,errW_some]<;>rfl)|(simp[*,errW_none,errW_some]<;>rfl)|(simp[*,errW_none,errW_some,i64_w];done),by first|exact Kd.R_nil _ _ _ _ _|exact Kd.N_nil _ _ _ _ _|exact Kd.V_nil _ _ _ _ _|exact Kd.Q_nil _ _ _ _ _|exact Kd.S_nil _ _ _ _ _,by repeat(first|(with_reducible first|exact HB.out|apply Zh|apply Zf|apply Ze)|exact HB.out)⟩
   ·rw[if_neg c5] at H
    have c5b0:decide (t567<0)=false:=Yg c5
    clear c5
    by_cases c6:25≤(wrap64 (25+t567))
    ·rw[if_pos c6] at H
     have c6b0:=eq_true c6
     have c6b1:decide (25≤(wrap64 (25+t567)))=true:=Zo c6
     by_cases c7:(wrap64 (25+t567))≤(l0.length:Int)
     ·rw[if_pos c7] at H
      have c7b0:=eq_true c7
      have c7b1:decide ((wrap64 (25+t567))≤(l0.length:Int))=true:=Zo c7
      replace H:=Zg H
      obtain⟨t569,A80,H⟩:=H
      replace H:(some t569)=some r:=H
      have A8:=Za A80
      clear A80
      obtain rfl:=Zn H
      have p564:0≤(8:Int):=(by omega)
      have q564:8<(l0.length:Int):=Zq z9_1
      obtain⟨ad564,e564,hx564_0⟩:=Kd.at_int HR0.out 8 p564 q564
      cases e564
      (try simp only[show(8:Int).toNat=8 from rfl,Nat.reduceMul,Nat.reduceEqDiff,Go.Addr.add,↓reduceIte] at hx564_0)
      have qi564:(8<l0.length)=True:=eq_true (by omega)
      (try rw[show((8:Int)).toNat=8 from rfl] at hx564_0)
      replace p564:=eq_true p564
      replace q564:=eq_true q564
      go_enter Tryz.func22,Tryz.ntmps22
      go_wp2_with (first|((first|((with_reducible refine gate_callee (f:=29) rfl ?_);refine goesL_ (some 13) rfl rfl Tryz.func29 (by kernel_rfl) rfl #[.int .i64 (rd l0 8)] rfl z9_2 ?_;(with_reducible refine(impl_UnpackControl.calls (rd l0 8) t565 t566 t567 _ A4.out).mono ?_))|(go_at_call 29;(with_reducible refine(impl_UnpackControl.calls (rd l0 8) t565 t566 t567 _ A4.out).mono ?_)));rintro e w' ⟨rfl,⟨nd,rfl⟩⟩;(first|refine⟨_,rfl,?_⟩|skip);obtain⟨i09,hi09,_,hsz9,_⟩:=info_parts info3;obtain⟨A9,hcut9,hA9,hC9⟩:=print_mid_of (P:=Tryz.prog) (Value.int .i64) 0 27 3 .i64 .i64 Tryz.underlying27 hi09 hsz9 (some ad564) c0 l0 25 (wrap64 (25+t567)) (by omega) (by first|omega|exact Zq z9_1) (Zq z9_1) HC0.out;have HR568:=Za (Kd.C_of_reads (h1:=fun _=>rfl) (hA9 _ (Kd.reads_of_C HR0.out)));have HC568:=Za hC9;clear hA9 hC9 hi09 hsz9)|((first|((with_reducible refine gate_callee (f:=39) rfl ?_);refine goesL_ (some 23) rfl rfl Tryz.func39 (by kernel_rfl) rfl #[.slice A9 ((l0.take ((wrap64 (25+t567)):Int).toNat).drop 25).length (c0 - 25)] rfl (by(try simp only[Yt,List.map_cons,List.map_nil]);first|done|(rw[show((l0.take ((wrap64 (25+t567)):Int).toNat).drop 25).length=((wrap64 (25+t567)).toNat - 25) from (by rw[List.length_drop,List.length_take];have h_:((wrap64 (25+t567)):Int)≤(l0.length:Int):=Zq z9_1;omega)]<;>rfl)|rfl|(simp only[List.length_drop,List.length_take];rfl)) ?_;(with_reducible refine(slices_Clone_int_int.calls _ _ ((l0.take ((wrap64 (25+t567)):Int).toNat).drop 25) t569 _ ?side1 ?side2 A8.out).mono ?_))|(go_at_call 39;(try simp only[←List.length_take,←List.length_drop]);(first|(with_reducible refine(slices_Clone_int_int.calls _ _ ((l0.take ((wrap64 (25+t567)):Int).toNat).drop 25) t569 _ ?side1 ?side2 A8.out).mono ?_)|(refine calls_len1 ?ln_ ((slices_Clone_int_int.calls _ _ ((l0.take ((wrap64 (25+t567)):Int).toNat).drop 25) t569 _ ?side1 ?side2 A8.out).mono ?_);(case ln_=>simp only[List.length_drop,List.length_take];first|omega|(have h_:(wrap64 (25+t567))≤(l0.length:Int):=Zq (by assumption);omega))))));(case side1=>repeat(first|exact HR568.out|(with_reducible refine Yk ?_ _)|(with_reducible refine Yi ?_ _)|(with_reducible refine Yl ?_)));(case side2=>exact HC568.out);rintro e w10 ⟨v570,rfl,ho0,hb⟩;(first|refine⟨_,rfl,?_⟩|skip);have HO571:=Za (Yr ho0 (Yf z9_0));replace HB:=Za (Zk z9_0 hb);(try clear hb);(try clear hb2);(try clear hk);(try clear hi);(try clear ho0)))
      go_ret
      exact⟨_,by first|rfl|(simp[errW_none,errW_some]<;>rfl)|(simp[*,errW_none,errW_some]<;>rfl)|(simp[*,errW_none,errW_some,i64_w];done),by(with_reducible repeat(first|apply Zm|apply Zl|apply Zj));exact HO571.out,by repeat(first|(with_reducible first|exact HB.out|apply Zh|apply Zf|apply Ze)|exact HB.out)⟩
     ·rw[if_neg c7] at H
      exact absurd H (by simp)
    ·rw[if_neg c6] at H
     exact absurd H (by simp)
  ·rw[if_neg c3] at H
   exact absurd H (by simp)
 ·rw[if_neg c2] at H
  have c2b0:((l0.length:Int)==49)=false:=beq_eq_false_iff_ne.mpr c2
  have c2b1:((l0.length:Int) != 49)=true:=bne_iff_ne.mpr c2
  obtain rfl:=Zn H
  go_enter Tryz.func22,Tryz.ntmps22
  go_wp2
  go_ret
  exact⟨_,by first|rfl|(simp[errW_none,errW_some]<;>rfl)|(simp[*,errW_none,errW_some]<;>rfl)|(simp[*,errW_none,errW_some,i64_w];done),by first|exact Kd.R_nil _ _ _ _ _|exact Kd.N_nil _ _ _ _ _|exact Kd.V_nil _ _ _ _ _|exact Kd.Q_nil _ _ _ _ _|exact Kd.S_nil _ _ _ _ _,by repeat(first|(with_reducible first|exact HB.out|apply Zh|apply Zf|apply Ze)|exact HB.out)⟩
end Go.Proofs.YtjgfldbogjipiaaGreat.G
