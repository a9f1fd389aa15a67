/- Functions of the program as plain Lean functions, and that each call comes to its function's answer; written by a program of the session. No condition. -/
import Derived.Test.YtjgfldbogjipiaaGreatGx0
import Derived.Test.YtjgfldbogjipiaaGreatGx2
import Derived.Test.YtjgfldbogjipiaaGreatGx3
import Derived.Test.YtjgfldbogjipiaaGreatGx5
import Derived.Test.YtjgfldbogjipiaaGreatGx7
import Derived.Test.YtjgfldbogjipiaaGreatGx8
namespace Go.Proofs.YtjgfldbogjipiaaGreat.G
open Go.RowKit Go.Proofs.YtjgfldbogjipiaaGreatW.PrintWords Go.Proofs.YtjgfldbogjipiaaGreatW.PrintLast Go.Proofs.YtjgfldbogjipiaaGreatW.PrintMore
attribute [local go_sem] max2_int min2_int max_two min_two max_three min_three max_four min_four   -- for this text's walks alone
set_option linter.unusedVariables false
set_option linter.unusedSimpArgs false
theorem z9_0 {P:Prop} (h:P:=by repeat(first|(with_reducible first|exact HB.out|apply Zh|apply Zf|apply Ze)|exact HB.out)):P:=h
theorem z9_1 {P:Prop} (h:P:=by(try simp only[Yt,List.map_cons,List.map_nil]);first|done|rfl|(simp only[List.length_drop,List.length_take];rfl)):P:=h
theorem z9_2 {P:Prop} (h:P:=by repeat(first|(with_reducible first|exact HB.out|apply Zh|apply Zf|apply Ze|refine Zd ?_ GE570.out|refine Zd ?_ GE581.out)|exact HB.out)):P:=h
theorem z9_3 {P:Prop} (h:P:=by repeat(first|(with_reducible first|exact HB.out|apply Zh|apply Zf|apply Ze|refine Zd ?_ GE570.out)|exact HB.out)):P:=h
theorem z9_4 {P:Prop} (h:P:=by first|(with_reducible assumption)|assumption):P:=h
theorem z9_5 {P:Prop} (h:P:=by(with_reducible repeat(first|refine blk_drewN ?_ _|refine blk_drew ?_|refine blk_alloc ?_ _));exact BK570.out):P:=h
theorem z9_6 {P:Prop} (h:P:=by(with_reducible repeat(first|apply Zm|apply Zk|apply Zl));exact HO_582001.out):P:=h
theorem z9_7 {P:Prop} (h:P:=by(with_reducible repeat(first|apply Zm|apply Zk|apply Zl));exact HO_9.out):P:=h
theorem z9_8 {P:Prop} (h:P:=by(with_reducible repeat(first|apply Zm|apply Zk|apply Zl));exact HO_4.out):P:=h
theorem z9_9 {P:Prop} (h:P:=by(with_reducible repeat(first|apply Zm|apply Zk|apply Zl));exact HO591.out):P:=h
theorem z9_10 {P:Prop} (h:P:=by(with_reducible repeat(first|refine blk_drewN ?_ _|refine blk_drew ?_|refine blk_alloc ?_ _));exact BK581.out):P:=h
theorem z9_11 {P:Prop} (h:P:=by(with_reducible repeat(first|apply Zm|apply Zk|apply Zl));exact HO_8.out):P:=h
theorem z9_12 {P:Prop} (h:P:=by(with_reducible repeat(first|apply Kd.S_alloc|apply Kd.S_drewN|apply Kd.S_drew));exact HO_571000.out):P:=h
theorem z9_13 {P:Prop} (h:P:=by(with_reducible repeat(first|apply Zm|apply Zk|apply Zl));exact HO_582000.out):P:=h
theorem z9_14 {P:Prop} (h:P:=by repeat(first|exact(Yn HO591.out).2.2|(with_reducible refine Yj ?_ _)|(with_reducible refine Yf ?_ _)|(with_reducible refine Yk ?_))):P:=h
theorem z9_15 {P:Prop} (h:P:=by(with_reducible repeat(first|apply Zm|apply Zk|apply Zl));exact HO569.out):P:=h
theorem z9_16 {P:Prop} (h:P:=by(with_reducible repeat(first|apply Zm|apply Zk|apply Zl));exact HO598.out):P:=h
theorem z9_17 {P:Prop} (h:P:=by(with_reducible repeat(first|apply Zm|apply Zk|apply Zl));exact HO573.out):P:=h
theorem z9_18 {P:Prop} (h:P:=by first|rfl|(simp;done)|(simp[*];done)):P:=h
theorem z9_19 {P:Prop} (h:P:=by repeat(first|exact(Yi HR0.out HB.out)|(with_reducible refine Yj ?_ _)|(with_reducible refine Yf ?_ _)|(with_reducible refine Yk ?_))):P:=h
theorem z9_20 {P:Prop} (h:P:=by(with_reducible repeat(first|apply Zm|apply Zk|apply Zl));exact(Ya (Kd.R_far (p:=⟨gb581,1,none⟩) (Kd.R_far (p:=⟨gb581,0,none⟩) (Kd.R_types HO579.out BK581.out (by decide)) (fun _ hk=>hk.2) (.slice Ao21 t574.length co21)) (fun _ hk=>hk.2) (.slice Ao24 t577.length co24)) (fun _ h_=>h_.1))):P:=h
theorem z9_21 {P:Prop} (h:P:=by(with_reducible repeat(first|apply Zm|apply Zk|apply Zl));exact(Ya (Kd.R_far (p:=⟨gb581,1,none⟩) (Kd.R_far (p:=⟨gb581,0,none⟩) (Kd.R_types HO576.out BK581.out (by decide)) (fun _ hk=>hk.2) (.slice Ao21 t574.length co21)) (fun _ hk=>hk.2) (.slice Ao24 t577.length co24)) (fun _ h_=>h_.1))):P:=h
theorem z9_22 {P:Prop} (h:P:=by(with_reducible repeat(first|apply Kd.S_alloc|apply Kd.S_drewN|apply Kd.S_drew));exact HO566.out):P:=h
theorem z9_23 {P:Prop} (h:P:=by(with_reducible repeat(first|apply Zm|apply Zk|apply Zl));exact HO594.out):P:=h
theorem z9_24 {P:Prop} (h:P:=by first|(go_simp;done)|(go_simp;rfl)):P:=h
theorem z9_25 {P:Prop} (h:P:=by repeat(first|exact HR0.out|(with_reducible refine Yj ?_ _)|(with_reducible refine Yf ?_ _)|(with_reducible refine Yk ?_))):P:=h
theorem z9_26 {P:Prop} (h:P:=by(with_reducible repeat(first|apply Zm|apply Zk|apply Zl));exact(Ya (Kd.R_far (p:=⟨gb570,0,none⟩) (Kd.R_types HO569.out BK570.out (by decide)) (fun _ hk=>hk.2) (.slice Ao13 t564.length co13)) (fun _ h_=>h_.1))):P:=h
theorem z9_27 {P:Prop} (h:P:=by kernel_rfl):P:=h
theorem z9_28 {P:Prop} (h:P:=by rw[hg];exact(Ye z9_0)):P:=h
def impl_ApplyWrites.l0:Nat→List Int→List (S66)→Int→Int→Option (List Int)
 |0,_,_,_,_=>none
 |k+1,x7,x17,x18,x19=>if x19<x18 then (if 0≤x19 then (if x19<(x17.length:Int) then ((impl_within.f ((rd_T66 x17 x19).f0) 0 (wrap64 ((x7.length:Int) - 1))).bind fun t529=>(if t529=true then (if 0≤((rd_T66 x17 x19).f0) then (if ((rd_T66 x17 x19).f0)<(x7.length:Int) then (impl_ApplyWrites.l0 k (x7.set (((rd_T66 x17 x19).f0):Int).toNat ((rd_T66 x17 x19).f1)) x17 x18 (wrap64 (x19+1))) else (none)) else (none)) else (impl_ApplyWrites.l0 k x7 x17 x18 (wrap64 (x19+1))))) else (none)) else (none)) else (some x7)
def impl_ApplyWrites.f (k:Nat) (l0:List Int) (l1:List (S66)) (a2:Int):Option (List Int):=(slices_Clone_int_int.f l0).bind fun t519=>((impl_Clamp.f a2 0 (l1.length:Int)).bind fun t522=>(if 0≤t522 then (if t522≤(l1.length:Int) then ((some (l1.take (t522:Int).toNat:List (S66))).bind fun y523=>(impl_ApplyWrites.l0 k t519 y523 (y523.length:Int) 0)) else (none)) else (none)))
set_option maxHeartbeats 8000000 in
set_option maxRecDepth 100000 in
theorem impl_ApplyWrites.calls (k:Nat) (A0:Option Addr) (c0:Nat) (l0:List Int) (A1:Option Addr) (c1:Nat) (l1:List (S66)) (a2:Int) (r:List Int) (w:World) (hr0:Kd.C (Kd.int .i64) w A0 l0.length l0) (hc0:l0.length≤c0) (hr1:Kd.C k66 w A1 l1.length l1) (hc1:l1.length≤c1) (h:impl_ApplyWrites.f k l0 l1 a2=some r):
  Calls Tryz.prog 13 #[.slice A0 l0.length c0,.slice A1 l1.length c1,.int .i64 a2] w fun e w'=>∃v0_:Value,e= .returned (v0_)∧Kd.R (Kd.int .i64) 3 w' w.heap.size (fun _=>True) v0_ r∧Below w.heap.size w w':=by
 have hu66:=Tryz.underlying66
 have HR0:=Za hr0
 have HC0:=Za hc0
 clear hr0 hc0
 have HR1:=Za hr1
 have HC1:=Za hc1
 clear hr1 hc1
 have HB:=Za (Zz w.heap.size w)
 have H:((slices_Clone_int_int.f l0).bind fun t519=>((impl_Clamp.f a2 0 (l1.length:Int)).bind fun t522=>(if 0≤t522 then (if t522≤(l1.length:Int) then ((some (l1.take (t522:Int).toNat:List (S66))).bind fun y523=>(impl_ApplyWrites.l0 k t519 y523 (y523.length:Int) 0)) else (none)) else (none))))=some r:=h
 clear h
 replace H:=Zg H
 obtain⟨t519,A40,H⟩:=H
 replace H:((impl_Clamp.f a2 0 (l1.length:Int)).bind fun t522=>(if 0≤t522 then (if t522≤(l1.length:Int) then ((some (l1.take (t522:Int).toNat:List (S66))).bind fun y523=>(impl_ApplyWrites.l0 k t519 y523 (y523.length:Int) 0)) else (none)) else (none)))=some r:=H
 have A4:=Za A40
 clear A40
 replace H:=Zg H
 obtain⟨t522,A50,H⟩:=H
 replace H:(if 0≤t522 then (if t522≤(l1.length:Int) then ((some (l1.take (t522:Int).toNat:List (S66))).bind fun y523=>(impl_ApplyWrites.l0 k t519 y523 (y523.length:Int) 0)) else (none)) else (none))=some r:=H
 have A5:=Za A50
 clear A50
 by_cases c6:0≤t522
 ·rw[if_pos c6] at H
  have c6b0:=eq_true c6
  have c6b1:decide (0≤t522)=true:=Zp c6
  clear c6
  by_cases c7:t522≤(l1.length:Int)
  ·rw[if_pos c7] at H
   have c7b0:=eq_true c7
   have c7b1:decide (t522≤(l1.length:Int))=true:=Zp c7
   clear c7
   obtain⟨y523,hy523⟩:∃y_:List (S66),y_=(l1.take (t522:Int).toNat):=⟨_,rfl⟩
   replace H:(impl_ApplyWrites.l0 k t519 y523 (y523.length:Int) 0)=some r:=by first|(rw[hy523];with_reducible exact H)|(have H2_:=(Zy _ _).symm.trans H;rw[hy523];with_reducible exact H2_)|(have H2_:=(Zy _ _).symm.trans H;with_reducible exact H2_)|with_reducible exact H|(rw[hy523];exact H)|exact H
   have Ny523:=Za hy523
   clear hy523
   have H':=Za H
   clear H
   go_enter Tryz.func13,Tryz.ntmps13
   go_wp2_with (first|((first|((with_reducible refine gate_callee (f:=39) rfl ?_);refine goesL_ (some 11) rfl rfl Tryz.func39 z9_27 rfl #[.slice A0 l0.length c0] rfl z9_1 ?_;(with_reducible refine(slices_Clone_int_int.calls _ _ l0 t519 _ ?side1 ?side2 A4.out).mono ?_))|(go_at_call 39;(with_reducible refine(slices_Clone_int_int.calls _ _ l0 t519 _ ?side1 ?side2 A4.out).mono ?_)));(case side1=>exact z9_25);(case side2=>exact HC0.out);rintro e w8 ⟨v520,rfl,ho0,hb⟩;(first|refine⟨_,rfl,?_⟩|skip);have HO521:=Za (Yr ho0 (Ye z9_0));replace HB:=Za (Zj z9_0 hb);(try clear hb);(try clear hb2);(try clear hk);(try clear hi);(try clear ho0))|((first|((with_reducible refine gate_callee (f:=40) rfl ?_);refine goesL_ (some 16) rfl rfl Tryz.func40 z9_27 rfl #[.int .i64 a2,.int .i64 0,.int .i64 (l1.length:Int)] rfl z9_1 ?_;(with_reducible refine(impl_Clamp.calls a2 0 (l1.length:Int) t522 _ A5.out).mono ?_))|(go_at_call 40;(with_reducible refine(impl_Clamp.calls a2 0 (l1.length:Int) t522 _ A5.out).mono ?_)));rintro e w' ⟨rfl,⟨nd,rfl⟩⟩;(first|refine⟨_,rfl,?_⟩|skip);have q9:(t522:Int)≤((l1.length:Int):Int):=Zq z9_4;obtain⟨i09,hi09,_,hsz9,_⟩:=info_parts info66;have hroom9:l1.length≤c1:=HC1.out;have hC9:Kd.C k66 _ A1 l1.length l1:=HR1.out;have hcut9:=cut_to (P:=Tryz.prog) 36 66 .i64 Tryz.underlying36 hi09 A1 l1.length c1 t522 (Zq z9_4) q9 hroom9;have hr9:=Kd.C_take (m:=(t522:Int).toNat) hC9 (by omega);have hy9:y523.length=(t522:Int).toNat:=(by rw[Ny523.out,List.length_take];omega);rw[←Ny523.out] at hr9;rw[←hy9] at hcut9;have HR526:=Za hr9;have HC526:=Za (show y523.length≤c1 from by omega);clear hr9 hC9 hroom9 hi09 hsz9;have KY9:=Za hy9;clear hy9;replace q9:=eq_true q9))
   go_loopg [19] k (fun kq v19 w'=>∃(x7_1:List Int) (x19_1:Int),v19= .int .i64 x19_1∧Aside0 (impl_ApplyWrites.l0 kq x7_1 y523 (y523.length:Int) x19_1=some r)∧Aside0 (kq≤k)∧Aside0 (Kd.R (Kd.int .i64) 3 w' w.heap.size (fun _=>True) v520 x7_1)∧Aside0 (Below w.heap.size w w'))
   case atStart=>exact⟨(t519),(0),z9_18,H',⟨Nat.le_refl _⟩,⟨by(with_reducible repeat(first|apply Zm|apply Zk|apply Zl));exact HO521.out⟩,⟨by repeat(first|(with_reducible first|exact HB.out|apply Zh|apply Zf|apply Ze)|exact HB.out)⟩⟩
   case round=>
    clear H'
    (try clear c1);(try clear c6);(try clear c6b0);(try clear c6b1);(try clear c7);(try clear c7b0);(try clear c7b1);(try clear q9);(try clear q9)
    obtain⟨x7_1,x19_1,rfl,HA,HK1,HO_7,HB⟩:=hrel
    cases gk with
    |zero=>exact absurd HA.out (by simp[impl_ApplyWrites.l0])
    |succ k1=>
     have H:=HA.out
     clear HA
     simp only[impl_ApplyWrites.l0] at H
     by_cases c10:x19_1<(y523.length:Int)
     ·rw[if_pos c10] at H
      have c10b0:decide (x19_1<(y523.length:Int))=true:=Zp c10
      clear c10
      by_cases c11:0≤x19_1
      ·rw[if_pos c11] at H
       have c11b0:decide (0≤x19_1)=true:=Zp c11
       clear c11
       by_cases c12:x19_1<(y523.length:Int)
       ·rw[if_pos c12] at H
        have c12b0:decide (x19_1<(y523.length:Int))=true:=Zp c12
        clear c12
        replace H:=Zg H
        obtain⟨t529,A130,H⟩:=H
        replace H:(if t529=true then (if 0≤((rd_T66 y523 x19_1).f0) then (if ((rd_T66 y523 x19_1).f0)<(x7_1.length:Int) then (impl_ApplyWrites.l0 k1 (x7_1.set (((rd_T66 y523 x19_1).f0):Int).toNat ((rd_T66 y523 x19_1).f1)) y523 (y523.length:Int) (wrap64 (x19_1+1))) else (none)) else (none)) else (impl_ApplyWrites.l0 k1 x7_1 y523 (y523.length:Int) (wrap64 (x19_1+1))))=some r:=H
        have A13:=Za A130
        clear A130
        by_cases c14:t529=true
        ·subst c14
         rw[if_pos rfl] at H
         by_cases c15:0≤((rd_T66 y523 x19_1).f0)
         ·rw[if_pos c15] at H
          have c15b0:decide (0≤((rd_T66 y523 x19_1).f0))=true:=Zp c15
          clear c15
          by_cases c16:((rd_T66 y523 x19_1).f0)<(x7_1.length:Int)
          ·rw[if_pos c16] at H
           have c16b0:decide (((rd_T66 y523 x19_1).f0)<(x7_1.length:Int))=true:=Zp c16
           clear c16
           obtain⟨y530,hy530⟩:∃y_:List Int,y_=(x7_1.set (((rd_T66 y523 x19_1).f0):Int).toNat ((rd_T66 y523 x19_1).f1)):=⟨_,rfl⟩
           replace H:(impl_ApplyWrites.l0 k1 y530 y523 (y523.length:Int) (wrap64 (x19_1+1)))=some r:=by first|(rw[hy530];with_reducible exact H)|(have H2_:=(Zy _ _).symm.trans H;rw[hy530];with_reducible exact H2_)|(have H2_:=(Zy _ _).symm.trans H;with_reducible exact H2_)|with_reducible exact H|(rw[hy530];exact H)|exact H
           have Ny530:=Za hy530
           clear hy530
           have H':=Za H
           clear H
           have p527:0≤(x19_1:Int):=Zq z9_4
           have q527:x19_1<(y523.length:Int):=Zq z9_4
           obtain⟨ad527,e527,hx527_0,hx527_1⟩:=at_T66 HR526.out x19_1 p527 q527
           cases e527
           replace hx527_0:=(HB.out.cell (Yq w _ hx527_0)).trans hx527_0
           replace hx527_1:=(HB.out.cell (Yq w _ hx527_1)).trans hx527_1
           replace p527:=eq_true p527
           replace q527:=eq_true q527
           go_wp2_with (first|((with_reducible refine Zr (N:=9) rfl ?_);refine Zw ?hg (N:=9) ?hd (cs:= #[.int .i64 0,.int .i64 0]) (t:=66) ?hr ?_;(case hd=>rfl);(case hg=>rfl);(case hr=>exact z9_24);intro gb528 hg w18 hbox hb;replace HO_7:=Za (Kd.R_below (by(with_reducible repeat(first|apply Zm|apply Zk|apply Zl));exact HO_7.out) hb);have BK528:=Za (hbox);have GW528:=Za ((z9_28:w.heap.size≤gb528));have GE528:=Za ((z9_28:w.heap.size≤gb528));replace HB:=Za (Zj z9_0 hb);clear hb hbox hg;have hcz19_0:w18.cell? ⟨gb528,0,none⟩=some (.int .i64 0):=(Zb BK528.out 0).trans rfl;have hcz19_1:w18.cell? ⟨gb528,1,none⟩=some (.int .i64 0):=(Zb BK528.out 1).trans rfl;have hfz19_0:=Zc BK528.out 0;have hfz19_1:=Zc BK528.out 1)|((with_reducible refine Yp (t:=66) (p:=9) rfl ?_);refine Yo (t:=66) (p:=9) (v:= ?vo_w20) (w1:=((w18.setCell ⟨gb528,0,none⟩ (.int .i64 ((rd_T66 y523 x19_1).f0))).setCell ⟨gb528,1,none⟩ (.int .i64 ((rd_T66 y523 x19_1).f1)))) ?hg ?ho ?hn ?hr ?_;(case ho=>rfl);(case hg=>rfl);(case hn=>rfl);(case hr=>exact z9_24);intro w20 hw;have n0_:Aside0 (Kd.R (Kd.int .i64) 3 w20 w.heap.size (fun _=>True) v520 x7_1):=⟨(by rw[hw];exact(by(with_reducible repeat(first|apply Zm|apply Zk|apply Zl));exact Ya (Kd.R_far (p:=⟨gb528,1,none⟩) (Kd.R_far (p:=⟨gb528,0,none⟩) (Kd.R_types HO_7.out BK528.out (by decide)) (fun _ hk=>hk.2) (.int .i64 ((rd_T66 y523 x19_1).f0))) (fun _ hk=>hk.2) (.int .i64 ((rd_T66 y523 x19_1).f1))) (fun _ hk=>trivial)))⟩;have n1_:Aside0 (w20.heap[gb528]? =some (.cells #[.int .i64 ((rd_T66 y523 x19_1).f0),.int .i64 ((rd_T66 y523 x19_1).f1)] 66 (0,0))):=⟨(by rw[hw];exact(by(with_reducible repeat(first|refine blk_drewN ?_ _|refine blk_drew ?_|refine blk_alloc ?_ _));refine blk_put (cs:= #[.int .i64 ((rd_T66 y523 x19_1).f0),.int .i64 0]) ?_ 1 _ rfl;(with_reducible repeat(first|refine blk_drewN ?_ _|refine blk_drew ?_|refine blk_alloc ?_ _));refine blk_put (cs:= #[.int .i64 0,.int .i64 0]) ?_ 0 _ rfl;(with_reducible repeat(first|refine blk_drewN ?_ _|refine blk_drew ?_|refine blk_alloc ?_ _));exact BK528.out))⟩;have n2_:Aside0 (Below w.heap.size w w20):=⟨(by rw[hw];exact(by repeat(first|(with_reducible first|exact HB.out|apply Zh|apply Zf|apply Ze|refine Zd ?_ GE528.out)|exact HB.out)))⟩;clear hw;clear HO_7;clear BK528;clear HB;have HO_7:=n0_;have BK528:=n1_;have HB:=n2_;clear n0_ n1_ n2_;have hcz21_0:w20.cell? ⟨gb528,0,none⟩=some (.int .i64 ((rd_T66 y523 x19_1).f0)):=(Zb BK528.out 0).trans rfl;have hcz21_1:w20.cell? ⟨gb528,1,none⟩=some (.int .i64 ((rd_T66 y523 x19_1).f1)):=(Zb BK528.out 1).trans rfl;have hfz21_0:=Zc BK528.out 0;have hfz21_1:=Zc BK528.out 1;obtain⟨Ao22,co22,eo22⟩:=Yg HO_7.out;subst eo22)|((first|((with_reducible refine gate_callee (f:=41) rfl ?_);refine goesL_ (some 28) rfl rfl Tryz.func41 z9_27 rfl #[.int .i64 ((rd_T66 y523 x19_1).f0),.int .i64 0,.int .i64 (wrap64 ((x7_1.length:Int) - 1))] rfl z9_1 ?_;(with_reducible refine(impl_within.calls ((rd_T66 y523 x19_1).f0) 0 (wrap64 ((x7_1.length:Int) - 1)) true _ A13.out).mono ?_))|(go_at_call 41;(with_reducible refine(impl_within.calls ((rd_T66 y523 x19_1).f0) 0 (wrap64 ((x7_1.length:Int) - 1)) true _ A13.out).mono ?_)));rintro e w' ⟨rfl,⟨nd,rfl⟩⟩;(first|refine⟨_,rfl,?_⟩|skip);(try(rw[drewN_self w20];generalize hq_:World.drewN w20 _=w20;have n0_:Aside0 (Kd.R (Kd.int .i64) 3 w20 w.heap.size (fun _=>True) (.slice Ao22 x7_1.length co22) x7_1):=⟨by rw[←hq_];exact(by(with_reducible repeat(first|apply Zm|apply Zk|apply Zl));exact HO_7.out)⟩;have n1_:Aside0 (w20.heap[gb528]? =some (.cells #[.int .i64 ((rd_T66 y523 x19_1).f0),.int .i64 ((rd_T66 y523 x19_1).f1)] 66 (0,0))):=⟨by rw[←hq_];exact(by(with_reducible repeat(first|refine blk_drewN ?_ _|refine blk_drew ?_|refine blk_alloc ?_ _));exact BK528.out)⟩;have n2_:Aside0 (Below w.heap.size w w20):=⟨by rw[←hq_];exact(by repeat(first|(with_reducible first|exact HB.out|apply Zh|apply Zf|apply Ze|refine Zd ?_ GE528.out)|exact HB.out))⟩;clear HO_7 BK528 HB hq_;have HO_7:=n0_;have BK528:=n1_;have HB:=n2_;clear n0_ n1_ n2_));(try(have hcuz23_0:w20.cell? ⟨gb528,0,none⟩=some (.int .i64 ((rd_T66 y523 x19_1).f0)):=(Zb BK528.out 0).trans rfl;have hcuz23_1:w20.cell? ⟨gb528,1,none⟩=some (.int .i64 ((rd_T66 y523 x19_1).f1)):=(Zb BK528.out 1).trans rfl;have hfuz23_0:=Zc BK528.out 0;have hfuz23_1:=Zc BK528.out 1));have p17:0≤(((rd_T66 y523 x19_1).f0):Int):=Zq z9_4;have q17:(((rd_T66 y523 x19_1).f0):Int)<((x7_1.length:Int):Int):=Zq z9_4;obtain⟨go17,co17,eo17,gb17,gl17,cl17,HG17⟩:=Kd.R_form HO_7.out (by omega);(first|cases eo17|(injection eo17 with ea_ en_ ec_;(first|subst ea_|(injection ea_ with ea_;subst ea_));subst ec_;clear en_));have GB17:=Za gb17;have GG17:=Za HG17;clear gb17 gl17 HG17;obtain⟨hx17_0,hf17_0⟩:=Kd.R_celln 0 HO_7.out (((rd_T66 y523 x19_1).f0):Int) p17 q17;replace p17:=eq_true p17;replace q17:=eq_true q17;obtain⟨hy24_,hz24_⟩:=Kd.R_celln 0 HO_7.out (((rd_T66 y523 x19_1).f0):Int) (Zq z9_4) (Zq z9_4);have HP24:=Kd.R_putg HO_7.out (((rd_T66 y523 x19_1).f0):Int) ((rd_T66 y523 x19_1).f1))|((with_reducible refine Yp (t:=3) (p:=34) rfl ?_);refine Yo (t:=3) (p:=34) (v:= ?vo_w25) (w1:=(w20.setCell ⟨go17,(((rd_T66 y523 x19_1).f0):Int).toNat,none⟩ (.int .i64 ((rd_T66 y523 x19_1).f1)))) ?hg ?ho ?hn ?hr ?_;(case ho=>rfl);(case hg=>rfl);(case hn=>rfl);(case hr=>exact z9_24);intro w25 hw;have hg:w20.grownBy w25 (some go17):=(by rw[hw];exact HP24.2);have hp_:Kd.R (Kd.int .i64) 3 w25 w.heap.size (fun _=>True) (.slice (some ⟨go17,0,none⟩) x7_1.length co22) y530:=(by rw[hw,Ny530.out];exact HP24.1);clear HP24;replace BK528:=Za (blk_grown (g:=gb528) (o:= .cells #[.int .i64 ((rd_T66 y523 x19_1).f0),.int .i64 ((rd_T66 y523 x19_1).f1)] 66 (0,0)) (by(with_reducible repeat(first|refine blk_drewN ?_ _|refine blk_drew ?_|refine blk_alloc ?_ _));exact BK528.out) hg (Kd.R_ne HO_7.out BK528.out (by decide)));replace HO_7:=Za (hp_);replace HB:=Za ((by rw[hw];exact Zd (HB.out) GB17.out:Below w.heap.size w w25));clear hg hw hp_))
           go_roundg k1
           case measure=>have:=HK1.out;omega
           case rel=>exact⟨(y530),(wrap64 (x19_1+1)),z9_18,H',⟨by have:=HK1.out;omega⟩,⟨by(with_reducible repeat(first|apply Zm|apply Zk|apply Zl));exact HO_7.out⟩,⟨by repeat(first|(with_reducible first|exact HB.out|apply Zh|apply Zf|apply Ze|refine Zd ?_ GE528.out)|exact HB.out)⟩⟩
          ·rw[if_neg c16] at H
           exact absurd H (by simp)
         ·rw[if_neg c15] at H
          exact absurd H (by simp)
        ·replace c14:=Bool.eq_false_iff.mpr c14
         subst c14
         rw[if_neg (show ¬(false=true) by decide)] at H
         have H':=Za H
         clear H
         have p527:0≤(x19_1:Int):=Zq z9_4
         have q527:x19_1<(y523.length:Int):=Zq z9_4
         obtain⟨ad527,e527,hx527_0,hx527_1⟩:=at_T66 HR526.out x19_1 p527 q527
         cases e527
         replace hx527_0:=(HB.out.cell (Yq w _ hx527_0)).trans hx527_0
         replace hx527_1:=(HB.out.cell (Yq w _ hx527_1)).trans hx527_1
         replace p527:=eq_true p527
         replace q527:=eq_true q527
         go_wp2_with (first|((with_reducible refine Zr (N:=9) rfl ?_);refine Zw ?hg (N:=9) ?hd (cs:= #[.int .i64 0,.int .i64 0]) (t:=66) ?hr ?_;(case hd=>rfl);(case hg=>rfl);(case hr=>exact z9_24);intro gb528 hg w26 hbox hb;replace HO_7:=Za (Kd.R_below (by(with_reducible repeat(first|apply Zm|apply Zk|apply Zl));exact HO_7.out) hb);have BK528:=Za (hbox);have GW528:=Za ((z9_28:w.heap.size≤gb528));have GE528:=Za ((z9_28:w.heap.size≤gb528));replace HB:=Za (Zj z9_0 hb);clear hb hbox hg;have hcz27_0:w26.cell? ⟨gb528,0,none⟩=some (.int .i64 0):=(Zb BK528.out 0).trans rfl;have hcz27_1:w26.cell? ⟨gb528,1,none⟩=some (.int .i64 0):=(Zb BK528.out 1).trans rfl;have hfz27_0:=Zc BK528.out 0;have hfz27_1:=Zc BK528.out 1;obtain⟨Ao28,co28,eo28⟩:=Yg HO_7.out;subst eo28)|((first|((with_reducible refine gate_callee (f:=41) rfl ?_);refine goesL_ (some 28) rfl rfl Tryz.func41 z9_27 rfl #[.int .i64 ((rd_T66 y523 x19_1).f0),.int .i64 0,.int .i64 (wrap64 ((x7_1.length:Int) - 1))] rfl z9_1 ?_;(with_reducible refine(impl_within.calls ((rd_T66 y523 x19_1).f0) 0 (wrap64 ((x7_1.length:Int) - 1)) false _ A13.out).mono ?_))|(go_at_call 41;(with_reducible refine(impl_within.calls ((rd_T66 y523 x19_1).f0) 0 (wrap64 ((x7_1.length:Int) - 1)) false _ A13.out).mono ?_)));rintro e w' ⟨rfl,⟨nd,rfl⟩⟩;(first|refine⟨_,rfl,?_⟩|skip)))
         go_roundg k1
         case measure=>have:=HK1.out;omega
         case rel=>exact⟨(x7_1),(wrap64 (x19_1+1)),z9_18,H',⟨by have:=HK1.out;omega⟩,⟨by(with_reducible repeat(first|apply Zm|apply Zk|apply Zl));exact Ya (Kd.R_far (p:=⟨gb528,1,none⟩) (Kd.R_far (p:=⟨gb528,0,none⟩) (Kd.R_types HO_7.out BK528.out (by decide)) (fun _ hk=>hk.2) (.int .i64 ((rd_T66 y523 x19_1).f0))) (fun _ hk=>hk.2) (.int .i64 ((rd_T66 y523 x19_1).f1))) (fun _ hk=>trivial)⟩,⟨by repeat(first|(with_reducible first|exact HB.out|apply Zh|apply Zf|apply Ze|refine Zd ?_ GE528.out)|exact HB.out)⟩⟩
       ·rw[if_neg c12] at H
        exact absurd H (by simp)
      ·rw[if_neg c11] at H
       exact absurd H (by simp)
     ·rw[if_neg c10] at H
      have c10b0:decide (x19_1<(y523.length:Int))=false:=Yd c10
      clear c10
      obtain rfl:=Zn H
      go_wp2
      go_ret
      exact⟨_,by first|rfl|(simp[errW_none,errW_some]<;>rfl)|(simp[*,errW_none,errW_some]<;>rfl)|(simp[*,errW_none,errW_some,i64_w];done),by(with_reducible repeat(first|apply Zm|apply Zk|apply Zl));exact HO_7.out,by repeat(first|(with_reducible first|exact HB.out|apply Zh|apply Zf|apply Ze)|exact HB.out)⟩
  ·rw[if_neg c7] at H
   exact absurd H (by simp)
 ·rw[if_neg c6] at H
  exact absurd H (by simp)
def impl_RecoveryWrites.l0:Nat→List Int→Int→Int→List (S66)→Int→Option ((List (S66)))
 |0,_,_,_,_,_=>none
 |k+1,x0,x3,x5,x6,x7=>if x7≥0 then (if 0≤(wrap64 (9+(wrap64 (2*x7)))) then (if (wrap64 (9+(wrap64 (2*x7))))<(x0.length:Int) then ((impl_isVar.f (rd x0 (wrap64 (9+(wrap64 (2*x7)))))).bind fun t539=>(if t539=true then (if 0≤(wrap64 ((wrap64 (9+(wrap64 (2*x7))))+1)) then (if (wrap64 ((wrap64 (9+(wrap64 (2*x7))))+1))<(x0.length:Int) then (if x6.length<8796093022208 then (impl_RecoveryWrites.l0 k x0 x3 x5 (x6++[(⟨rd x0 (wrap64 (9+(wrap64 (2*x7)))),rd x0 (wrap64 ((wrap64 (9+(wrap64 (2*x7))))+1))⟩:S66)]) (wrap64 (x7 - 1))) else (none)) else (none)) else (none)) else (some ([]:List (S66))))) else (none)) else (none)) else ((impl_PackControl.f x3 0 x5).bind fun t544=>(if x6.length<8796093022208 then (some (x6++[(⟨8,t544⟩:S66)])) else (none)))
def impl_RecoveryWrites.f (k:Nat) (l0:List Int):Option ((List (S66))):=if (l0.length:Int)=49 then (if 8<(l0.length:Int) then ((impl_UnpackControl.f (rd l0 8)).bind fun bt532=>(if bt532.2.1<1 then (some ([]:List (S66))) else (impl_RecoveryWrites.l0 k l0 bt532.1 bt532.2.2 (([]:List (S66))) (wrap64 (bt532.2.1 - 1))))) else (none)) else (some ([]:List (S66)))
set_option maxHeartbeats 8000000 in
set_option maxRecDepth 100000 in
theorem impl_RecoveryWrites.calls (k:Nat) (A0:Option Addr) (c0:Nat) (l0:List Int) (r:List (S66)) (w:World) (hr0:Kd.C (Kd.int .i64) w A0 l0.length l0) (hc0:l0.length≤c0) (h:impl_RecoveryWrites.f k l0=some r):
  Calls Tryz.prog 14 #[.slice A0 l0.length c0] w fun e w'=>∃v0_:Value,e= .returned (v0_)∧Kd.R k66 66 w' w.heap.size (fun _=>True) v0_ r∧Below w.heap.size w w':=by
 have hu66:=Tryz.underlying66
 have HR0:=Za hr0
 have HC0:=Za hc0
 clear hr0 hc0
 have HB:=Za (Zz w.heap.size w)
 have H:(if (l0.length:Int)=49 then (if 8<(l0.length:Int) then ((impl_UnpackControl.f (rd l0 8)).bind fun bt532=>(if bt532.2.1<1 then (some ([]:List (S66))) else (impl_RecoveryWrites.l0 k l0 bt532.1 bt532.2.2 (([]:List (S66))) (wrap64 (bt532.2.1 - 1))))) else (none)) else (some ([]:List (S66))))=some r:=h
 clear h
 by_cases c2:(l0.length:Int)=49
 ·rw[if_pos c2] at H
  have c2b0:((l0.length:Int)==49)=true:=beq_iff_eq.mpr c2
  have c2b1:((l0.length:Int) != 49)=false:=bne_eq_false_iff_eq.mpr c2
  clear c2
  by_cases c3:8<(l0.length:Int)
  ·rw[if_pos c3] at H
   have c3b0:decide (8<(l0.length:Int))=true:=Zp c3
   have c3b1:decide (8<l0.length)=true:=Zp (by omega)
   clear c3
   replace H:=Zg H
   obtain⟨⟨t532,t533,t534⟩,A40,H⟩:=H
   replace H:(if t533<1 then (some ([]:List (S66))) else (impl_RecoveryWrites.l0 k l0 t532 t534 (([]:List (S66))) (wrap64 (t533 - 1))))=some r:=H
   have A4:=Za A40
   clear A40
   by_cases c5:t533<1
   ·rw[if_pos c5] at H
    have c5b0:decide (t533<1)=true:=Zp c5
    clear c5
    obtain rfl:=Zn H
    have p531:0≤(8:Int):=(by omega)
    have q531:8<(l0.length:Int):=Zq z9_4
    obtain⟨ad531,e531,hx531_0⟩:=Kd.at_int HR0.out 8 p531 q531
    cases e531
    (try simp only[show(8:Int).toNat=8 from rfl,Nat.reduceMul,Nat.reduceEqDiff,Go.Addr.add,↓reduceIte] at hx531_0)
    have qi531:(8<l0.length)=True:=eq_true (by omega)
    (try rw[show((8:Int)).toNat=8 from rfl] at hx531_0)
    replace p531:=eq_true p531
    replace q531:=eq_true q531
    go_enter Tryz.func14,Tryz.ntmps14
    go_wp2_with (first|((first|((with_reducible refine gate_callee (f:=29) rfl ?_);refine goesL_ (some 16) rfl rfl Tryz.func29 z9_27 rfl #[.int .i64 (rd l0 8)] rfl z9_1 ?_;(with_reducible refine(impl_UnpackControl.calls (rd l0 8) t532 t533 t534 _ A4.out).mono ?_))|(go_at_call 29;(with_reducible refine(impl_UnpackControl.calls (rd l0 8) t532 t533 t534 _ A4.out).mono ?_)));rintro e w' ⟨rfl,⟨nd,rfl⟩⟩;(first|refine⟨_,rfl,?_⟩|skip)))
    go_ret
    exact⟨_,by first|rfl|(simp[errW_none,errW_some]<;>rfl)|(simp[*,errW_none,errW_some]<;>rfl)|(simp[*,errW_none,errW_some,i64_w];done),by first|exact Kd.R_nil _ _ _ _ _|exact Kd.N_nil _ _ _ _ _|exact Kd.V_nil _ _ _ _ _|exact Kd.Q_nil _ _ _ _ _|exact Kd.S_nil _ _ _ _ _,by repeat(first|(with_reducible first|exact HB.out|apply Zh|apply Zf|apply Ze)|exact HB.out)⟩
   ·rw[if_neg c5] at H
    have c5b0:decide (t533<1)=false:=Yd c5
    clear c5
    obtain⟨y535,hy535⟩:∃y_:List (S66),y_=(([]:List (S66))):=⟨_,rfl⟩
    replace H:(impl_RecoveryWrites.l0 k l0 t532 t534 y535 (wrap64 (t533 - 1)))=some r:=by first|(rw[hy535];with_reducible exact H)|(have H2_:=(Zy _ _).symm.trans H;rw[hy535];with_reducible exact H2_)|(have H2_:=(Zy _ _).symm.trans H;with_reducible exact H2_)|with_reducible exact H|(rw[hy535];exact H)|exact H
    have Ny535:=Za hy535
    clear hy535
    have H':=Za H
    clear H
    have p531:0≤(8:Int):=(by omega)
    have q531:8<(l0.length:Int):=Zq z9_4
    obtain⟨ad531,e531,hx531_0⟩:=Kd.at_int HR0.out 8 p531 q531
    cases e531
    (try simp only[show(8:Int).toNat=8 from rfl,Nat.reduceMul,Nat.reduceEqDiff,Go.Addr.add,↓reduceIte] at hx531_0)
    have qi531:(8<l0.length)=True:=eq_true (by omega)
    (try rw[show((8:Int)).toNat=8 from rfl] at hx531_0)
    replace p531:=eq_true p531
    replace q531:=eq_true q531
    go_enter Tryz.func14,Tryz.ntmps14
    go_wp2_with (first|((first|((with_reducible refine gate_callee (f:=29) rfl ?_);refine goesL_ (some 16) rfl rfl Tryz.func29 z9_27 rfl #[.int .i64 (rd l0 8)] rfl z9_1 ?_;(with_reducible refine(impl_UnpackControl.calls (rd l0 8) t532 t533 t534 _ A4.out).mono ?_))|(go_at_call 29;(with_reducible refine(impl_UnpackControl.calls (rd l0 8) t532 t533 t534 _ A4.out).mono ?_)));rintro e w' ⟨rfl,⟨nd,rfl⟩⟩;(first|refine⟨_,rfl,?_⟩|skip))|((with_reducible refine Zr (N:=22) rfl ?_);refine Kd.R_lit k66 _ 66 ?hg (N:=22) ?hd (xs:=([]:List (S66))) (inner:=[]) (ok:=fun _=>True) (okp:=fun _=>True) ?hr ?hp (fun _ hk=>hk) trivial (Zz _ _) (Nat.le_refl _) (by simp) ?_;(case hd=>rfl);(case hg=>rfl);(case hr=>exact z9_24);(case hp=>exact(Reps.none _ _));intro v536 w6 ho7 hb hg_ hnew_;clear hg_ hnew_;(first|rw[←Ny535.out] at ho7|(simp only[Int.reduceToNat] at ho7;rw[←Ny535.out] at ho7));have HO537:=Za (Yr ho7 (Ye z9_0));replace HB:=Za (Zj z9_0 hb);clear hb ho7))
    go_loopg [6,7] k (fun kq v6 v7 w'=>∃(x6_1:List (S66)) (x7_1:Int),v7= .int .i64 x7_1∧Aside0 (impl_RecoveryWrites.l0 kq l0 t532 t534 x6_1 x7_1=some r)∧Aside0 (kq≤k)∧Aside0 (Kd.R k66 66 w' w.heap.size (fun _=>True) v6 x6_1)∧Aside0 (Below w.heap.size w w'))
    case atStart=>exact⟨(y535),(wrap64 (t533 - 1)),z9_18,H',⟨Nat.le_refl _⟩,⟨by(with_reducible repeat(first|apply Zm|apply Zk|apply Zl));exact HO537.out⟩,⟨by repeat(first|(with_reducible first|exact HB.out|apply Zh|apply Zf|apply Ze)|exact HB.out)⟩⟩
    case round=>
     clear H'
     (try clear c2);(try clear c2b0);(try clear c2b1);(try clear c3);(try clear c3b0);(try clear c3b1);(try clear c5);(try clear c5b0);(try clear hx531_0);(try clear p531);(try clear q531)
     obtain⟨x6_1,x7_1,rfl,HA,HK1,HO_6,HB⟩:=hrel
     cases gk with
     |zero=>exact absurd HA.out (by simp[impl_RecoveryWrites.l0])
     |succ k1=>
      have H:=HA.out
      clear HA
      simp only[impl_RecoveryWrites.l0] at H
      by_cases c8:x7_1≥0
      ·rw[if_pos c8] at H
       have c8b0:decide (0≤x7_1)=true:=Zp c8
       clear c8
       obtain⟨ji9,hji9⟩:∃j_:Int,(wrap64 (9+(wrap64 (2*x7_1))))=j_:=⟨_,rfl⟩
       replace H:(if 0≤(ji9) then (if (ji9)<(l0.length:Int) then ((impl_isVar.f (rd l0 (ji9))).bind fun t539=>(if t539=true then (if 0≤(wrap64 ((ji9)+1)) then (if (wrap64 ((ji9)+1))<(l0.length:Int) then (if x6_1.length<8796093022208 then (impl_RecoveryWrites.l0 k1 l0 t532 t534 (x6_1++[(⟨rd l0 (ji9),rd l0 (wrap64 ((ji9)+1))⟩:S66)]) (wrap64 (x7_1 - 1))) else (none)) else (none)) else (none)) else (some ([]:List (S66))))) else (none)) else (none))=some r:=by first|(rw[hji9] at H;exact H)|(simp only[hji9] at H ⊢;exact H)
       have hji9w:(IntKind.i64.wrap (9+(wrap64 (2*x7_1))))=ji9:=(i64_w _).trans hji9
       by_cases c10:0≤(ji9)
       ·rw[if_pos c10] at H
        have c10b0:decide (0≤(ji9))=true:=Zp c10
        clear c10
        by_cases c11:(ji9)<(l0.length:Int)
        ·rw[if_pos c11] at H
         have c11b0:decide ((ji9)<(l0.length:Int))=true:=Zp c11
         clear c11
         replace H:=Zg H
         obtain⟨t539,A120,H⟩:=H
         replace H:(if t539=true then (if 0≤(wrap64 ((ji9)+1)) then (if (wrap64 ((ji9)+1))<(l0.length:Int) then (if x6_1.length<8796093022208 then (impl_RecoveryWrites.l0 k1 l0 t532 t534 (x6_1++[(⟨rd l0 (ji9),rd l0 (wrap64 ((ji9)+1))⟩:S66)]) (wrap64 (x7_1 - 1))) else (none)) else (none)) else (none)) else (some ([]:List (S66))))=some r:=H
         have A12:=Za A120
         clear A120
         by_cases c13:t539=true
         ·subst c13
          rw[if_pos rfl] at H
          obtain⟨ji14,hji14⟩:∃j_:Int,(wrap64 ((ji9)+1))=j_:=⟨_,rfl⟩
          replace H:(if 0≤(ji14) then (if (ji14)<(l0.length:Int) then (if x6_1.length<8796093022208 then (impl_RecoveryWrites.l0 k1 l0 t532 t534 (x6_1++[(⟨rd l0 (ji9),rd l0 (ji14)⟩:S66)]) (wrap64 (x7_1 - 1))) else (none)) else (none)) else (none))=some r:=by first|(rw[hji14] at H;exact H)|(simp only[hji14] at H ⊢;exact H)
          (try rw[hji14] at A12)
          have hji14w:(IntKind.i64.wrap ((ji9)+1))=ji14:=(i64_w _).trans hji14
          by_cases c15:0≤(ji14)
          ·rw[if_pos c15] at H
           have c15b0:decide (0≤(ji14))=true:=Zp c15
           clear c15
           by_cases c16:(ji14)<(l0.length:Int)
           ·rw[if_pos c16] at H
            have c16b0:decide ((ji14)<(l0.length:Int))=true:=Zp c16
            clear c16
            by_cases c17:x6_1.length<8796093022208
            ·rw[if_pos c17] at H
             have LMc17:=Za c17
             clear c17
             obtain⟨y541,hy541⟩:∃y_:List (S66),y_=(x6_1++[(⟨rd l0 (ji9),rd l0 (ji14)⟩:S66)]):=⟨_,rfl⟩
             replace H:(impl_RecoveryWrites.l0 k1 l0 t532 t534 y541 (wrap64 (x7_1 - 1)))=some r:=by first|(rw[hy541];with_reducible exact H)|(have H2_:=(Zy _ _).symm.trans H;rw[hy541];with_reducible exact H2_)|(have H2_:=(Zy _ _).symm.trans H;with_reducible exact H2_)|with_reducible exact H|(rw[hy541];exact H)|exact H
             have Ny541:=Za hy541
             clear hy541
             have H':=Za H
             clear H
             have p538:0≤((ji9):Int):=Zq z9_4
             have q538:(ji9)<(l0.length:Int):=Zq z9_4
             obtain⟨ad538,e538,hx538_0⟩:=Kd.at_int HR0.out (ji9) p538 q538
             obtain rfl:ad531=ad538:=(by injection e538)
             replace hx538_0:=(HB.out.cell (Yq w _ hx538_0)).trans hx538_0
             replace p538:=eq_true p538
             replace q538:=eq_true q538
             go_wp2_with (first|((first|((with_reducible refine gate_callee (f:=42) rfl ?_);refine goesL_ (some 36) rfl rfl Tryz.func42 z9_27 rfl #[.int .i64 (rd l0 (ji9))] rfl (by(try simp only[Yt,List.map_cons,List.map_nil]);first|done|(simp only[hji9];rfl)|rfl|(simp only[List.length_drop,List.length_take];rfl)) ?_;(with_reducible refine(impl_isVar.calls (rd l0 (ji9)) true _ A12.out).mono ?_))|(go_at_call 42;(with_reducible refine(impl_isVar.calls (rd l0 (ji9)) true _ A12.out).mono ?_)));rintro e w' ⟨rfl,⟨nd,rfl⟩⟩;(first|refine⟨_,rfl,?_⟩|skip);have p540:0≤((ji14):Int):=Zq z9_4;have q540:(ji14)<(l0.length:Int):=Zq z9_4;obtain⟨ad540,e540,hx540_0⟩:=Kd.at_int HR0.out (ji14) p540 q540;obtain rfl:ad531=ad540:=(by injection e540);replace hx540_0:=(HB.out.cell (Yq w _ hx540_0)).trans hx540_0;replace p540:=eq_true p540;replace q540:=eq_true q540)|((with_reducible refine gate_builtin (b:= .append) (xs:= #[.tmp 38,.tmp 48]) rfl ?_);at_builtin;refine Kd.R_append k66 (w0:=w) w.heap.size rfl (.tmp 38) (.tmp 48) 36 66 (.agg #[(.int .i64 0),(.int .i64 0)]) 16 rfl Tryz.underlying36 info66 rfl (by decide) (by omega) u6 x6_1 (⟨rd l0 (ji9),rd l0 (ji14)⟩:S66) [.int .i64 (rd l0 (ji9)),.int .i64 (rd l0 (ji14))] (fun _=>True) (fun _=>False) rfl rfl ?aP (fun _ hk=>hk.elim) ?aF ?aO ?aB ?aS ?aL ?_;(case aP=>exact k66_mkM _ _ _ (⟨rd l0 (ji9),rd l0 (ji14)⟩:S66));(case aB=>exact z9_0);(case aF=>exact(fun _ _=>trivial));(case aO=>exact(by(with_reducible repeat(first|apply Zm|apply Zk|apply Zl));exact HO_6.out));(case aS=>exact(Ye z9_0));(case aL=>have:=LMc17.out;omega);intro v542 w18 ho hb hg hat;rw[←Ny541.out] at ho;have n0_:=Za (hb);have n1_:=Za (ho);clear HB;clear HO_6;have HB:=n0_;have HO543:=n1_;clear n0_ n1_;clear ho hb hg hat))
             go_roundg k1
             case measure=>have:=HK1.out;omega
             case rel=>exact⟨(y541),(wrap64 (x7_1 - 1)),z9_18,H',⟨by have:=HK1.out;omega⟩,⟨by(with_reducible repeat(first|apply Zm|apply Zk|apply Zl));exact HO543.out⟩,⟨by repeat(first|(with_reducible first|exact HB.out|apply Zh|apply Zf|apply Ze)|exact HB.out)⟩⟩
            ·rw[if_neg c17] at H
             exact absurd H (by simp)
           ·rw[if_neg c16] at H
            exact absurd H (by simp)
          ·rw[if_neg c15] at H
           exact absurd H (by simp)
         ·replace c13:=Bool.eq_false_iff.mpr c13
          subst c13
          rw[if_neg (show ¬(false=true) by decide)] at H
          obtain rfl:=Zn H
          have p538:0≤((ji9):Int):=Zq z9_4
          have q538:(ji9)<(l0.length:Int):=Zq z9_4
          obtain⟨ad538,e538,hx538_0⟩:=Kd.at_int HR0.out (ji9) p538 q538
          obtain rfl:ad531=ad538:=(by injection e538)
          replace hx538_0:=(HB.out.cell (Yq w _ hx538_0)).trans hx538_0
          replace p538:=eq_true p538
          replace q538:=eq_true q538
          go_wp2_with (first|((first|((with_reducible refine gate_callee (f:=42) rfl ?_);refine goesL_ (some 36) rfl rfl Tryz.func42 z9_27 rfl #[.int .i64 (rd l0 (ji9))] rfl (by(try simp only[Yt,List.map_cons,List.map_nil]);first|done|(simp only[hji9];rfl)|rfl|(simp only[List.length_drop,List.length_take];rfl)) ?_;(with_reducible refine(impl_isVar.calls (rd l0 (ji9)) false _ A12.out).mono ?_))|(go_at_call 42;(with_reducible refine(impl_isVar.calls (rd l0 (ji9)) false _ A12.out).mono ?_)));rintro e w' ⟨rfl,⟨nd,rfl⟩⟩;(first|refine⟨_,rfl,?_⟩|skip)))
          go_ret
          exact⟨_,by first|rfl|(simp[errW_none,errW_some]<;>rfl)|(simp only[←hji9];first|rfl|(simp[errW_none,errW_some]<;>rfl))|(simp[*,errW_none,errW_some]<;>rfl)|(simp[*,errW_none,errW_some,i64_w];done),by first|exact Kd.R_nil _ _ _ _ _|exact Kd.N_nil _ _ _ _ _|exact Kd.V_nil _ _ _ _ _|exact Kd.Q_nil _ _ _ _ _|exact Kd.S_nil _ _ _ _ _,by repeat(first|(with_reducible first|exact HB.out|apply Zh|apply Zf|apply Ze)|exact HB.out)⟩
        ·rw[if_neg c11] at H
         exact absurd H (by simp)
       ·rw[if_neg c10] at H
        exact absurd H (by simp)
      ·rw[if_neg c8] at H
       have c8b0:decide (0≤x7_1)=false:=Yd c8
       clear c8
       replace H:=Zg H
       obtain⟨t544,A190,H⟩:=H
       replace H:(if x6_1.length<8796093022208 then (some (x6_1++[(⟨8,t544⟩:S66)])) else (none))=some r:=H
       have A19:=Za A190
       clear A190
       by_cases c20:x6_1.length<8796093022208
       ·rw[if_pos c20] at H
        have LMc20:=Za c20
        clear c20
        obtain⟨y545,hy545⟩:∃y_:List (S66),y_=(x6_1++[(⟨8,t544⟩:S66)]):=⟨_,rfl⟩
        replace H:(some y545)=some r:=by first|(rw[hy545];with_reducible exact H)|(have H2_:=(Zy _ _).symm.trans H;rw[hy545];with_reducible exact H2_)|(have H2_:=(Zy _ _).symm.trans H;with_reducible exact H2_)|with_reducible exact H|(rw[hy545];exact H)|exact H
        have Ny545:=Za hy545
        clear hy545
        obtain rfl:=Zn H
        go_wp2_with (first|((first|((with_reducible refine gate_callee (f:=43) rfl ?_);refine goesL_ (some 53) rfl rfl Tryz.func43 z9_27 rfl #[.int .i64 t532,.int .i64 0,.int .i64 t534] rfl z9_1 ?_;(with_reducible refine(impl_PackControl.calls t532 0 t534 t544 _ A19.out).mono ?_))|(go_at_call 43;(with_reducible refine(impl_PackControl.calls t532 0 t534 t544 _ A19.out).mono ?_)));rintro e w' ⟨rfl,⟨nd,rfl⟩⟩;(first|refine⟨_,rfl,?_⟩|skip))|((with_reducible refine gate_builtin (b:= .append) (xs:= #[.tmp 50,.tmp 55]) rfl ?_);at_builtin;refine Kd.R_append k66 (w0:=w) w.heap.size rfl (.tmp 50) (.tmp 55) 36 66 (.agg #[(.int .i64 0),(.int .i64 0)]) 16 rfl Tryz.underlying36 info66 rfl (by decide) (by omega) u6 x6_1 (⟨8,t544⟩:S66) [.int .i64 8,.int .i64 t544] (fun _=>True) (fun _=>False) rfl rfl ?aP (fun _ hk=>hk.elim) ?aF ?aO ?aB ?aS ?aL ?_;(case aP=>exact k66_mkM _ _ _ (⟨8,t544⟩:S66));(case aB=>exact z9_0);(case aF=>exact(fun _ _=>trivial));(case aO=>exact(by(with_reducible repeat(first|apply Zm|apply Zk|apply Zl));exact HO_6.out));(case aS=>exact(Ye z9_0));(case aL=>have:=LMc20.out;omega);intro v546 w21 ho hb hg hat;rw[←Ny545.out] at ho;have n0_:=Za (hb);have n1_:=Za (ho);clear HB;clear HO_6;have HB:=n0_;have HO547:=n1_;clear n0_ n1_;clear ho hb hg hat))
        go_ret
        exact⟨_,by first|rfl|(simp[errW_none,errW_some]<;>rfl)|(simp[*,errW_none,errW_some]<;>rfl)|(simp[*,errW_none,errW_some,i64_w];done),by(with_reducible repeat(first|apply Zm|apply Zk|apply Zl));exact HO547.out,by repeat(first|(with_reducible first|exact HB.out|apply Zh|apply Zf|apply Ze)|exact HB.out)⟩
       ·rw[if_neg c20] at H
        exact absurd H (by simp)
  ·rw[if_neg c3] at H
   exact absurd H (by simp)
 ·rw[if_neg c2] at H
  have c2b0:((l0.length:Int)==49)=false:=beq_eq_false_iff_ne.mpr c2
  have c2b1:((l0.length:Int) != 49)=true:=bne_iff_ne.mpr c2
  obtain rfl:=Zn H
  go_enter Tryz.func14,Tryz.ntmps14
  go_wp2
  go_ret
  exact⟨_,by first|rfl|(simp[errW_none,errW_some]<;>rfl)|(simp[*,errW_none,errW_some]<;>rfl)|(simp[*,errW_none,errW_some,i64_w];done),by first|exact Kd.R_nil _ _ _ _ _|exact Kd.N_nil _ _ _ _ _|exact Kd.V_nil _ _ _ _ _|exact Kd.Q_nil _ _ _ _ _|exact Kd.S_nil _ _ _ _ _,by repeat(first|(with_reducible first|exact HB.out|apply Zh|apply Zf|apply Ze)|exact HB.out)⟩
def laws_sameInts.l0:Nat→List Int→List Int→Int→Option (Bool)
 |0,_,_,_=>none
 |k+1,x0,x1,x5=>if x5<(x0.length:Int) then (if 0≤x5 then (if x5<(x1.length:Int) then (if (rd x0 x5)=(rd x1 x5) then (laws_sameInts.l0 k x0 x1 (wrap64 (x5+1))) else (some false)) else (none)) else (none)) else (some true)
def laws_sameInts.f (k:Nat) (l0:List Int) (l1:List Int):Option (Bool):=if (l0.length:Int)=(l1.length:Int) then (laws_sameInts.l0 k l0 l1 0) else (some false)
set_option maxHeartbeats 8000000 in
set_option maxRecDepth 100000 in
theorem laws_sameInts.calls (k:Nat) (A0:Option Addr) (c0:Nat) (l0:List Int) (A1:Option Addr) (c1:Nat) (l1:List Int) (r:Bool) (w:World) (hr0:Kd.C (Kd.int .i64) w A0 l0.length l0) (hc0:l0.length≤c0) (hr1:Kd.C (Kd.int .i64) w A1 l1.length l1) (hc1:l1.length≤c1) (h:laws_sameInts.f k l0 l1=some r):
  Calls Tryz.prog 15 #[.slice A0 l0.length c0,.slice A1 l1.length c1] w fun e w'=>e= .returned (.bool r)∧Drawn0 w w':=by
 have HR0:=Za hr0
 have HC0:=Za hc0
 clear hr0 hc0
 have HR1:=Za hr1
 have HC1:=Za hc1
 clear hr1 hc1
 have H:(if (l0.length:Int)=(l1.length:Int) then (laws_sameInts.l0 k l0 l1 0) else (some false))=some r:=h
 clear h
 by_cases c3:(l0.length:Int)=(l1.length:Int)
 ·rw[if_pos c3] at H
  have c3b0:((l0.length:Int)==(l1.length:Int))=true:=beq_iff_eq.mpr c3
  have c3b1:((l0.length:Int) != (l1.length:Int))=false:=bne_eq_false_iff_eq.mpr c3
  have c3b2:(l0.length==l1.length)=true:=by first|simpa using c3|(simp at c3 ⊢;omega)
  clear c3
  have H':=Za H
  clear H
  go_enter Tryz.func15,Tryz.ntmps15
  go_wp2
  repeat(go_quiet (fail);try go_wp2)
  go_loopg [5] k (fun kq v5 w'=>∃(x5_1:Int),v5= .int .i64 x5_1∧Aside0 (laws_sameInts.l0 kq l0 l1 x5_1=some r)∧Aside0 (kq≤k)∧Drawn0 w w')
  case atStart=>exact⟨(0),z9_18,H',⟨Nat.le_refl _⟩,by repeat(first|exact Zs _|apply Zt)⟩
  case round=>
   clear H'
   (try clear c1);(try clear c3);(try clear c3b0);(try clear c3b1);(try clear c3b2)
   obtain⟨x5_1,rfl,HA,HK1,⟨m1,rfl⟩⟩:=hrel
   cases gk with
   |zero=>exact absurd HA.out (by simp[laws_sameInts.l0])
   |succ k1=>
    have H:=HA.out
    clear HA
    simp only[laws_sameInts.l0] at H
    by_cases c4:x5_1<(l0.length:Int)
    ·rw[if_pos c4] at H
     have c4b0:decide (x5_1<(l0.length:Int))=true:=Zp c4
     clear c4
     by_cases c5:0≤x5_1
     ·rw[if_pos c5] at H
      have c5b0:decide (0≤x5_1)=true:=Zp c5
      clear c5
      by_cases c6:x5_1<(l1.length:Int)
      ·rw[if_pos c6] at H
       have c6b0:decide (x5_1<(l1.length:Int))=true:=Zp c6
       clear c6
       by_cases c7:(rd l0 x5_1)=(rd l1 x5_1)
       ·rw[if_pos c7] at H
        have c7b0:((rd l0 x5_1)==(rd l1 x5_1))=true:=beq_iff_eq.mpr c7
        have c7b1:((rd l0 x5_1) != (rd l1 x5_1))=false:=bne_eq_false_iff_eq.mpr c7
        clear c7
        have H':=Za H
        clear H
        have p548:0≤(x5_1:Int):=Zq z9_4
        have q548:x5_1<(l0.length:Int):=Zq z9_4
        obtain⟨ad548,e548,hx548_0⟩:=Kd.at_int HR0.out x5_1 p548 q548
        cases e548
        replace p548:=eq_true p548
        replace q548:=eq_true q548
        have p549:0≤(x5_1:Int):=Zq z9_4
        have q549:x5_1<(l1.length:Int):=Zq z9_4
        obtain⟨ad549,e549,hx549_0⟩:=Kd.at_int HR1.out x5_1 p549 q549
        cases e549
        replace p549:=eq_true p549
        replace q549:=eq_true q549
        go_wp2
        repeat(go_quiet (fail);try go_wp2)
        go_roundg k1
        case measure=>have:=HK1.out;omega
        case rel=>exact⟨(wrap64 (x5_1+1)),z9_18,H',⟨by have:=HK1.out;omega⟩,by repeat(first|exact Zs _|apply Zt)⟩
       ·rw[if_neg c7] at H
        have c7b0:((rd l0 x5_1)==(rd l1 x5_1))=false:=beq_eq_false_iff_ne.mpr c7
        have c7b1:((rd l0 x5_1) != (rd l1 x5_1))=true:=bne_iff_ne.mpr c7
        obtain rfl:=Zn H
        have p548:0≤(x5_1:Int):=Zq z9_4
        have q548:x5_1<(l0.length:Int):=Zq z9_4
        obtain⟨ad548,e548,hx548_0⟩:=Kd.at_int HR0.out x5_1 p548 q548
        cases e548
        replace p548:=eq_true p548
        replace q548:=eq_true q548
        have p549:0≤(x5_1:Int):=Zq z9_4
        have q549:x5_1<(l1.length:Int):=Zq z9_4
        obtain⟨ad549,e549,hx549_0⟩:=Kd.at_int HR1.out x5_1 p549 q549
        cases e549
        replace p549:=eq_true p549
        replace q549:=eq_true q549
        go_wp2
        repeat(go_quiet (fail);try go_wp2)
        go_ret
        exact⟨by first|rfl|(simp;done)|(simp[*];done),by repeat(first|exact Zs _|apply Zt)⟩
      ·rw[if_neg c6] at H
       exact absurd H (by simp)
     ·rw[if_neg c5] at H
      exact absurd H (by simp)
    ·rw[if_neg c4] at H
     have c4b0:decide (x5_1<(l0.length:Int))=false:=Yd c4
     clear c4
     obtain rfl:=Zn H
     go_wp2
     repeat(go_quiet (fail);try go_wp2)
     go_ret
     exact⟨by first|rfl|(simp;done)|(simp[*];done),by repeat(first|exact Zs _|apply Zt)⟩
 ·rw[if_neg c3] at H
  have c3b0:((l0.length:Int)==(l1.length:Int))=false:=beq_eq_false_iff_ne.mpr c3
  have c3b1:((l0.length:Int) != (l1.length:Int))=true:=bne_iff_ne.mpr c3
  have c3b2:(l0.length==l1.length)=false:=by first|simpa using c3|(simp at c3 ⊢;omega)
  obtain rfl:=Zn H
  go_enter Tryz.func15,Tryz.ntmps15
  go_wp2
  repeat(go_quiet (fail);try go_wp2)
  go_ret
  exact⟨by first|rfl|(simp;done)|(simp[*];done),by repeat(first|exact Zs _|apply Zt)⟩
def impl_Recovered.f (k:Nat) (l0:List Int):Option (List Int):=(impl_RecoveryWrites.f k l0).bind fun t550=>((impl_ApplyWrites.f k l0 t550 (t550.length:Int)).bind fun t553=>(some t553))
set_option maxHeartbeats 8000000 in
set_option maxRecDepth 100000 in
theorem impl_Recovered.calls (k:Nat) (A0:Option Addr) (c0:Nat) (l0:List Int) (r:List Int) (w:World) (hr0:Kd.C (Kd.int .i64) w A0 l0.length l0) (hc0:l0.length≤c0) (h:impl_Recovered.f k l0=some r):
  Calls Tryz.prog 16 #[.slice A0 l0.length c0] w fun e w'=>∃v0_:Value,e= .returned (v0_)∧Kd.R (Kd.int .i64) 3 w' w.heap.size (fun _=>True) v0_ r∧Below w.heap.size w w':=by
 have HR0:=Za hr0
 have HC0:=Za hc0
 clear hr0 hc0
 have HB:=Za (Zz w.heap.size w)
 have H:((impl_RecoveryWrites.f k l0).bind fun t550=>((impl_ApplyWrites.f k l0 t550 (t550.length:Int)).bind fun t553=>(some t553)))=some r:=h
 clear h
 replace H:=Zg H
 obtain⟨t550,A20,H⟩:=H
 replace H:((impl_ApplyWrites.f k l0 t550 (t550.length:Int)).bind fun t553=>(some t553))=some r:=H
 have A2:=Za A20
 clear A20
 replace H:=Zg H
 obtain⟨t553,A30,H⟩:=H
 replace H:(some t553)=some r:=H
 have A3:=Za A30
 clear A30
 obtain rfl:=Zn H
 go_enter Tryz.func16,Tryz.ntmps16
 go_wp2_with (first|((first|((with_reducible refine gate_callee (f:=14) rfl ?_);refine goesL_ (some 5) rfl rfl Tryz.func14 z9_27 rfl #[.slice A0 l0.length c0] rfl z9_1 ?_;(with_reducible refine(impl_RecoveryWrites.calls k _ _ l0 t550 _ ?side1 ?side2 A2.out).mono ?_))|(go_at_call 14;(with_reducible refine(impl_RecoveryWrites.calls k _ _ l0 t550 _ ?side1 ?side2 A2.out).mono ?_)));(case side1=>exact z9_25);(case side2=>exact HC0.out);rintro e w4 ⟨v551,rfl,ho0,hb⟩;(first|refine⟨_,rfl,?_⟩|skip);have HO552:=Za (Yr ho0 (Ye z9_0));replace HB:=Za (Zj z9_0 hb);(try clear hb);(try clear hb2);(try clear hk);(try clear hi);(try clear ho0);obtain⟨Ao5,co5,eo5⟩:=Yg HO552.out;subst eo5)|((first|((with_reducible refine gate_callee (f:=13) rfl ?_);refine goesL_ (some 10) rfl rfl Tryz.func13 z9_27 rfl #[.slice A0 l0.length c0,.slice Ao5 t550.length co5,.int .i64 (t550.length:Int)] rfl z9_1 ?_;(with_reducible refine(impl_ApplyWrites.calls k _ _ l0 _ _ t550 (t550.length:Int) t553 _ ?side1 ?side2 ?side3 ?side4 A3.out).mono ?_))|(go_at_call 13;(with_reducible refine(impl_ApplyWrites.calls k _ _ l0 _ _ t550 (t550.length:Int) t553 _ ?side1 ?side2 ?side3 ?side4 A3.out).mono ?_)));(case side1=>exact z9_19);(case side2=>exact HC0.out);(case side3=>repeat(first|exact(Yn HO552.out).2.2|(with_reducible refine Yj ?_ _)|(with_reducible refine Yf ?_ _)|(with_reducible refine Yk ?_)));(case side4=>exact(Yn HO552.out).2.1);rintro e w6 ⟨v554,rfl,ho0,hb⟩;(first|refine⟨_,rfl,?_⟩|skip);replace HO552:=Za (Kd.R_below (by(with_reducible repeat(first|apply Zm|apply Zk|apply Zl));exact HO552.out) hb);have HO555:=Za (Yr ho0 (Ye z9_0));replace HB:=Za (Zj z9_0 hb);(try clear hb);(try clear hb2);(try clear hk);(try clear hi);(try clear ho0)))
 go_ret
 exact⟨_,by first|rfl|(simp[errW_none,errW_some]<;>rfl)|(simp[*,errW_none,errW_some]<;>rfl)|(simp[*,errW_none,errW_some,i64_w];done),by(with_reducible repeat(first|apply Zm|apply Zk|apply Zl));exact HO555.out,by repeat(first|(with_reducible first|exact HB.out|apply Zh|apply Zf|apply Ze)|exact HB.out)⟩
def impl_RecoveryCost.f (a0:Int):Option (Int):=(impl_within.f a0 0 8).bind fun t556=>(if t556=true then (if a0=0 then (some 0) else (some (wrap64 (3*(wrap64 (a0+1)))))) else (some (-1)))
set_option maxHeartbeats 8000000 in
set_option maxRecDepth 100000 in
theorem impl_RecoveryCost.calls (a0:Int) (r:Int) (w:World) (h:impl_RecoveryCost.f a0=some r):
  Calls Tryz.prog 17 #[.int .i64 a0] w fun e w'=>e= .returned (.int .i64 r)∧Drawn0 w w':=by
 have H:((impl_within.f a0 0 8).bind fun t556=>(if t556=true then (if a0=0 then (some 0) else (some (wrap64 (3*(wrap64 (a0+1)))))) else (some (-1))))=some r:=h
 clear h
 replace H:=Zg H
 obtain⟨t556,A20,H⟩:=H
 replace H:(if t556=true then (if a0=0 then (some 0) else (some (wrap64 (3*(wrap64 (a0+1)))))) else (some (-1)))=some r:=H
 have A2:=Za A20
 clear A20
 by_cases c3:t556=true
 ·subst c3
  rw[if_pos rfl] at H
  by_cases c4:a0=0
  ·rw[if_pos c4] at H
   have c4b0:(a0==0)=true:=beq_iff_eq.mpr c4
   have c4b1:(a0 != 0)=false:=bne_eq_false_iff_eq.mpr c4
   clear c4
   obtain rfl:=Zn H
   go_enter Tryz.func17,Tryz.ntmps17
   go_wp2_with (first|((first|((with_reducible refine gate_callee (f:=41) rfl ?_);refine goesL_ (some 5) rfl rfl Tryz.func41 z9_27 rfl #[.int .i64 a0,.int .i64 0,.int .i64 8] rfl z9_1 ?_;(with_reducible refine(impl_within.calls a0 0 8 true _ A2.out).mono ?_))|(go_at_call 41;(with_reducible refine(impl_within.calls a0 0 8 true _ A2.out).mono ?_)));rintro e w' ⟨rfl,⟨nd,rfl⟩⟩;(first|refine⟨_,rfl,?_⟩|skip)))
   go_ret
   exact⟨by first|rfl|(simp;done)|(simp[*];done),by repeat(first|exact Zs _|apply Zt)⟩
  ·rw[if_neg c4] at H
   have c4b0:(a0==0)=false:=beq_eq_false_iff_ne.mpr c4
   have c4b1:(a0 != 0)=true:=bne_iff_ne.mpr c4
   obtain rfl:=Zn H
   go_enter Tryz.func17,Tryz.ntmps17
   go_wp2_with (first|((first|((with_reducible refine gate_callee (f:=41) rfl ?_);refine goesL_ (some 5) rfl rfl Tryz.func41 z9_27 rfl #[.int .i64 a0,.int .i64 0,.int .i64 8] rfl z9_1 ?_;(with_reducible refine(impl_within.calls a0 0 8 true _ A2.out).mono ?_))|(go_at_call 41;(with_reducible refine(impl_within.calls a0 0 8 true _ A2.out).mono ?_)));rintro e w' ⟨rfl,⟨nd,rfl⟩⟩;(first|refine⟨_,rfl,?_⟩|skip)))
   go_ret
   exact⟨by first|rfl|(simp;done)|(simp[*];done),by repeat(first|exact Zs _|apply Zt)⟩
 ·replace c3:=Bool.eq_false_iff.mpr c3
  subst c3
  rw[if_neg (show ¬(false=true) by decide)] at H
  obtain rfl:=Zn H
  go_enter Tryz.func17,Tryz.ntmps17
  go_wp2_with (first|((first|((with_reducible refine gate_callee (f:=41) rfl ?_);refine goesL_ (some 5) rfl rfl Tryz.func41 z9_27 rfl #[.int .i64 a0,.int .i64 0,.int .i64 8] rfl z9_1 ?_;(with_reducible refine(impl_within.calls a0 0 8 false _ A2.out).mono ?_))|(go_at_call 41;(with_reducible refine(impl_within.calls a0 0 8 false _ A2.out).mono ?_)));rintro e w' ⟨rfl,⟨nd,rfl⟩⟩;(first|refine⟨_,rfl,?_⟩|skip)))
  go_ret
  exact⟨by first|rfl|(simp;done)|(simp[*];done),by repeat(first|exact Zs _|apply Zt)⟩
def impl_LostWork.f (k:Nat) (l0_0:List (S74)) (l1:List Int):Option (Int):=(impl_MemOk.f k l0_0 l1).bind fun t558=>(if t558=true then (if 8<(l1.length:Int) then ((impl_UnpackControl.f (rd l1 8)).bind fun bt560=>(some bt560.2.1)) else (none)) else (some (-1)))
set_option maxHeartbeats 8000000 in
set_option maxRecDepth 100000 in
theorem impl_LostWork.calls (k:Nat) (A0_0:Option Addr) (c0_0:Nat) (l0_0:List (S74)) (A1:Option Addr) (c1:Nat) (l1:List Int) (r:Int) (w:World) (hr0_0:Kd.C k74 w A0_0 l0_0.length l0_0) (hc0_0:l0_0.length≤c0_0) (hr1:Kd.C (Kd.int .i64) w A1 l1.length l1) (hc1:l1.length≤c1) (h:impl_LostWork.f k l0_0 l1=some r):
  Calls Tryz.prog 18 #[.agg #[.slice A0_0 l0_0.length c0_0],.slice A1 l1.length c1] w fun e w'=>e= .returned (.int .i64 r)∧Below w.heap.size w w':=by
 have hu26:=Tryz.underlying26
 have HR0_0:=Za hr0_0
 have HC0_0:=Za hc0_0
 clear hr0_0 hc0_0
 have HR1:=Za hr1
 have HC1:=Za hc1
 clear hr1 hc1
 have HB:=Za (Zz w.heap.size w)
 have H:((impl_MemOk.f k l0_0 l1).bind fun t558=>(if t558=true then (if 8<(l1.length:Int) then ((impl_UnpackControl.f (rd l1 8)).bind fun bt560=>(some bt560.2.1)) else (none)) else (some (-1))))=some r:=h
 clear h
 replace H:=Zg H
 obtain⟨t558,A30,H⟩:=H
 replace H:(if t558=true then (if 8<(l1.length:Int) then ((impl_UnpackControl.f (rd l1 8)).bind fun bt560=>(some bt560.2.1)) else (none)) else (some (-1)))=some r:=H
 have A3:=Za A30
 clear A30
 by_cases c4:t558=true
 ·subst c4
  rw[if_pos rfl] at H
  by_cases c5:8<(l1.length:Int)
  ·rw[if_pos c5] at H
   have c5b0:decide (8<(l1.length:Int))=true:=Zp c5
   have c5b1:decide (8<l1.length)=true:=Zp (by omega)
   clear c5
   replace H:=Zg H
   obtain⟨⟨t560,t561,t562⟩,A60,H⟩:=H
   replace H:(some t561)=some r:=H
   have A6:=Za A60
   clear A60
   obtain rfl:=Zn H
   go_enter Tryz.func18,Tryz.ntmps18
   go_wp2_with (first|((with_reducible refine Zr (N:=2) rfl ?_);refine Zw ?hg (N:=2) ?hd (cs:= #[.slice A0_0 l0_0.length c0_0]) (t:=26) ?hr ?_;(case hd=>rfl);(case hg=>rfl);(case hr=>exact z9_24);intro gb557 hg w7 hbox hb;have BK557:=Za (hbox);have GW557:=Za ((z9_28:w.heap.size≤gb557));have GE557:=Za ((z9_28:w.heap.size≤gb557));replace HB:=Za (Zj z9_0 hb);clear hb hbox hg;have hcz8_0:w7.cell? ⟨gb557,0,none⟩=some (.slice A0_0 l0_0.length c0_0):=(Zb BK557.out 0).trans rfl;have hfz8_0:=Zc BK557.out 0)|((first|((with_reducible refine gate_callee (f:=23) rfl ?_);refine goesL_ (some 10) rfl rfl Tryz.func23 z9_27 rfl #[.agg #[.slice A0_0 l0_0.length c0_0],.slice A1 l1.length c1] rfl z9_1 ?_;(with_reducible refine(impl_MemOk.calls k _ _ l0_0 _ _ l1 true _ ?side1 ?side2 ?side3 ?side4 A3.out).mono ?_))|(go_at_call 23;(with_reducible refine(impl_MemOk.calls k _ _ l0_0 _ _ l1 true _ ?side1 ?side2 ?side3 ?side4 A3.out).mono ?_)));(case side1=>repeat(first|exact(Yi HR0_0.out HB.out)|(with_reducible refine Yj ?_ _)|(with_reducible refine Yf ?_ _)|(with_reducible refine Yk ?_)));(case side2=>exact HC0_0.out);(case side3=>repeat(first|exact(Yi HR1.out HB.out)|(with_reducible refine Yj ?_ _)|(with_reducible refine Yf ?_ _)|(with_reducible refine Yk ?_)));(case side4=>exact HC1.out);rintro e w9 ⟨rfl,hb⟩;(first|refine⟨_,rfl,?_⟩|skip);replace BK557:=Za (Zi (g:=gb557) (o:= .cells #[.slice A0_0 l0_0.length c0_0] 26 (0,0)) (by(with_reducible repeat(first|refine blk_drewN ?_ _|refine blk_drew ?_|refine blk_alloc ?_ _));exact BK557.out) hb);replace HB:=Za (Zj (by repeat(first|(with_reducible first|exact HB.out|apply Zh|apply Zf|apply Ze|refine Zd ?_ GE557.out)|exact HB.out)) hb);(try clear hb);(try clear hb2);(try clear hk);(try clear hi);have p559:0≤(8:Int):=(by omega);have q559:8<(l1.length:Int):=Zq z9_4;obtain⟨ad559,e559,hx559_0⟩:=Kd.at_int HR1.out 8 p559 q559;cases e559;(try simp only[show(8:Int).toNat=8 from rfl,Nat.reduceMul,Nat.reduceEqDiff,Go.Addr.add,↓reduceIte] at hx559_0);have qi559:(8<l1.length)=True:=eq_true (by omega);(try rw[show((8:Int)).toNat=8 from rfl] at hx559_0);replace hx559_0:=(HB.out.cell (Yq w _ hx559_0)).trans hx559_0;replace p559:=eq_true p559;replace q559:=eq_true q559)|((first|((with_reducible refine gate_callee (f:=29) rfl ?_);refine goesL_ (some 16) rfl rfl Tryz.func29 z9_27 rfl #[.int .i64 (rd l1 8)] rfl z9_1 ?_;(with_reducible refine(impl_UnpackControl.calls (rd l1 8) t560 t561 t562 _ A6.out).mono ?_))|(go_at_call 29;(with_reducible refine(impl_UnpackControl.calls (rd l1 8) t560 t561 t562 _ A6.out).mono ?_)));rintro e w' ⟨rfl,⟨nd,rfl⟩⟩;(first|refine⟨_,rfl,?_⟩|skip)))
   go_ret
   exact⟨by first|rfl|(simp[errW_none,errW_some]<;>rfl)|(simp[*,errW_none,errW_some]<;>rfl)|(simp[*,errW_none,errW_some,i64_w];done),by repeat(first|(with_reducible first|exact HB.out|apply Zh|apply Zf|apply Ze|refine Zd ?_ GE557.out)|exact HB.out)⟩
  ·rw[if_neg c5] at H
   exact absurd H (by simp)
 ·replace c4:=Bool.eq_false_iff.mpr c4
  subst c4
  rw[if_neg (show ¬(false=true) by decide)] at H
  obtain rfl:=Zn H
  go_enter Tryz.func18,Tryz.ntmps18
  go_wp2_with (first|((with_reducible refine Zr (N:=2) rfl ?_);refine Zw ?hg (N:=2) ?hd (cs:= #[.slice A0_0 l0_0.length c0_0]) (t:=26) ?hr ?_;(case hd=>rfl);(case hg=>rfl);(case hr=>exact z9_24);intro gb557 hg w10 hbox hb;have BK557:=Za (hbox);have GW557:=Za ((z9_28:w.heap.size≤gb557));have GE557:=Za ((z9_28:w.heap.size≤gb557));replace HB:=Za (Zj z9_0 hb);clear hb hbox hg;have hcz11_0:w10.cell? ⟨gb557,0,none⟩=some (.slice A0_0 l0_0.length c0_0):=(Zb BK557.out 0).trans rfl;have hfz11_0:=Zc BK557.out 0)|((first|((with_reducible refine gate_callee (f:=23) rfl ?_);refine goesL_ (some 10) rfl rfl Tryz.func23 z9_27 rfl #[.agg #[.slice A0_0 l0_0.length c0_0],.slice A1 l1.length c1] rfl z9_1 ?_;(with_reducible refine(impl_MemOk.calls k _ _ l0_0 _ _ l1 false _ ?side1 ?side2 ?side3 ?side4 A3.out).mono ?_))|(go_at_call 23;(with_reducible refine(impl_MemOk.calls k _ _ l0_0 _ _ l1 false _ ?side1 ?side2 ?side3 ?side4 A3.out).mono ?_)));(case side1=>repeat(first|exact(Yi HR0_0.out HB.out)|(with_reducible refine Yj ?_ _)|(with_reducible refine Yf ?_ _)|(with_reducible refine Yk ?_)));(case side2=>exact HC0_0.out);(case side3=>repeat(first|exact(Yi HR1.out HB.out)|(with_reducible refine Yj ?_ _)|(with_reducible refine Yf ?_ _)|(with_reducible refine Yk ?_)));(case side4=>exact HC1.out);rintro e w12 ⟨rfl,hb⟩;(first|refine⟨_,rfl,?_⟩|skip);replace BK557:=Za (Zi (g:=gb557) (o:= .cells #[.slice A0_0 l0_0.length c0_0] 26 (0,0)) (by(with_reducible repeat(first|refine blk_drewN ?_ _|refine blk_drew ?_|refine blk_alloc ?_ _));exact BK557.out) hb);replace HB:=Za (Zj (by repeat(first|(with_reducible first|exact HB.out|apply Zh|apply Zf|apply Ze|refine Zd ?_ GE557.out)|exact HB.out)) hb);(try clear hb);(try clear hb2);(try clear hk);(try clear hi)))
  go_ret
  exact⟨by first|rfl|(simp[errW_none,errW_some]<;>rfl)|(simp[*,errW_none,errW_some]<;>rfl)|(simp[*,errW_none,errW_some,i64_w];done),by repeat(first|(with_reducible first|exact HB.out|apply Zh|apply Zf|apply Ze|refine Zd ?_ GE557.out)|exact HB.out)⟩
/-! ### laws_FnRecoverAgain: function 3 -/
mutual
def laws_FnRecoverAgain.j0:Nat→List Int→Option (Bool)
 |0,_=>none
 |k+1,x0=>(spec_DrawMemory.f k x0).bind fun bt564=>((spec_DrawReadings.f k x0).bind fun t571=>((impl_TraceOf.f k bt564.1 bt564.2 t571 0).bind fun bt574=>((impl_WritesOf.f k bt574.1 bt574.2.1).bind fun t582=>((spec_DrawPlaces.f k x0).bind fun t585=>(if bt574.2.2=true then (laws_FnRecoverAgain.j1 k bt564.2 t582 t585 ((t582.length:Int)==0) bt564.1) else (laws_FnRecoverAgain.j1 k bt564.2 t582 t585 true bt564.1))))))
def laws_FnRecoverAgain.j1:Nat→List Int→List (S66)→List Int→Bool→List (S74)→Option (Bool)
 |0,_,_,_,_,_=>none
 |k+1,x4,x8,x9,x39,x571000=>if x39=true then (some false) else (laws_FnRecoverAgain.j2 k x4 x8 x9 x571000)
def laws_FnRecoverAgain.j2:Nat→List Int→List (S66)→List Int→List (S74)→Option (Bool)
 |0,_,_,_,_=>none
 |k+1,x4,x8,x9,x571000=>if 0<(x9.length:Int) then (if (x8.length:Int)=0 then (none) else ((impl_ApplyWrites.f k x4 x8 (Int.tmod (rd x9 0) (x8.length:Int))).bind fun t589=>((impl_RecoveryWrites.f k t589).bind fun t592=>(if 1<(x9.length:Int) then (if (wrap64 ((t592.length:Int)+1))=0 then (none) else ((impl_ApplyWrites.f k t589 t592 (Int.tmod (rd x9 1) (wrap64 ((t592.length:Int)+1)))).bind fun t596=>((impl_Recovered.f k t596).bind fun t599=>((impl_Recovered.f k t589).bind fun t602=>((laws_sameInts.f k t599 t602).bind fun t605=>(if t605=true then ((impl_LostWork.f k x571000 t589).bind fun t606=>((impl_RecoveryCost.f t606).bind fun t607=>(some ((wrap64 (3*(t592.length:Int)))==t607)))) else (some false))))))) else (none))))) else (none)
end
def laws_FnRecoverAgain.f (k:Nat) (l0:List Int):Option (Bool):=(laws_big.f l0).bind fun t563=>(if t563=true then (some true) else (laws_FnRecoverAgain.j0 k l0))
set_option maxHeartbeats 8000000 in
set_option maxRecDepth 100000 in
theorem laws_FnRecoverAgain.calls (k:Nat) (A0:Option Addr) (c0:Nat) (l0:List Int) (r:Bool) (w:World) (hr0:Kd.C (Kd.int .u8) w A0 l0.length l0) (hc0:l0.length≤c0) (h:laws_FnRecoverAgain.f k l0=some r) (hT:Aside0 (r=true)):
  Calls Tryz.prog 3 #[.slice A0 l0.length c0] w fun e w'=>e= .returned (.bool r)∧Below w.heap.size w w':=by
 have hu26:=Tryz.underlying26
 have hu33:=Tryz.underlying33
 have HR0:=Za hr0
 have HC0:=Za hc0
 clear hr0 hc0
 have HB:=Za (Zz w.heap.size w)
 have H:((laws_big.f l0).bind fun t563=>(if t563=true then (some true) else (laws_FnRecoverAgain.j0 k l0)))=some r:=h
 clear h
 replace H:=Zg H
 obtain⟨t563,A20,H⟩:=H
 replace H:(if t563=true then (some true) else (laws_FnRecoverAgain.j0 k l0))=some r:=H
 have A2:=Za A20
 clear A20
 have HC3:=Za H
 clear H
 go_enter Tryz.func3,Tryz.ntmps3
 go_upto_if 14 with(first|((first|((with_reducible refine gate_callee (f:=7) rfl ?_);refine goesL_ (some 14) rfl rfl Tryz.func7 z9_27 rfl #[.slice A0 l0.length c0] rfl z9_1 ?_;(with_reducible refine(laws_big.calls _ _ l0 t563 _ ?side1 ?side2 A2.out).mono ?_))|(go_at_call 7;(with_reducible refine(laws_big.calls _ _ l0 t563 _ ?side1 ?side2 A2.out).mono ?_)));(case side1=>exact z9_25);(case side2=>exact HC0.out);rintro e w' ⟨rfl,⟨nd,rfl⟩⟩;(first|refine⟨_,rfl,?_⟩|skip)))
 (try simp only[Act.put,Yh,Yl,Ym])
 go_cut [] (fun wc=>∃(kq:Nat),Aside0 (laws_FnRecoverAgain.j0 kq l0=some r)∧Aside0 (kq≤k)∧Aside0 (Below w.heap.size w wc))
 case first=>
  have H:=HC3.out
  clear HC3
  by_cases c4:t563=true
  ·subst c4
   rw[if_pos rfl] at H
   obtain rfl:=Zn H
   go_wp2
   go_ret
   exact⟨by first|rfl|(simp[errW_none,errW_some]<;>rfl)|(simp[*,errW_none,errW_some]<;>rfl)|(simp[*,errW_none,errW_some,i64_w];done),by repeat(first|(with_reducible first|exact HB.out|apply Zh|apply Zf|apply Ze)|exact HB.out)⟩
  ·replace c4:=Bool.eq_false_iff.mpr c4
   subst c4
   rw[if_neg (show ¬(false=true) by decide)] at H
   have H':=Za H
   clear H
   go_wp2
   go_meet
   case rel=>exact⟨_,H',⟨by first|omega|exact Nat.le_refl _⟩,⟨by repeat(first|(with_reducible first|exact HB.out|apply Zh|apply Zf|apply Ze)|exact HB.out)⟩⟩
 case rest=>
  clear HC3
  obtain⟨kq,HA,HJ2,HB⟩:=hcut
  cases kq with
  |zero=>exact absurd HA.out (by simp[laws_FnRecoverAgain.j0])
  |succ kj2=>
   have H:=HA.out
   clear HA
   simp only[laws_FnRecoverAgain.j0] at H
   replace H:=Zg H
   obtain⟨⟨t564,t567⟩,A50,H⟩:=H
   replace H:((spec_DrawReadings.f kj2 l0).bind fun t571=>((impl_TraceOf.f kj2 t564 t567 t571 0).bind fun bt574=>((impl_WritesOf.f kj2 bt574.1 bt574.2.1).bind fun t582=>((spec_DrawPlaces.f kj2 l0).bind fun t585=>(if bt574.2.2=true then (laws_FnRecoverAgain.j1 kj2 t567 t582 t585 ((t582.length:Int)==0) t564) else (laws_FnRecoverAgain.j1 kj2 t567 t582 t585 true t564))))))=some r:=H
   have A5:=Za A50
   clear A50
   replace H:=Zg H
   obtain⟨t571,A60,H⟩:=H
   replace H:((impl_TraceOf.f kj2 t564 t567 t571 0).bind fun bt574=>((impl_WritesOf.f kj2 bt574.1 bt574.2.1).bind fun t582=>((spec_DrawPlaces.f kj2 l0).bind fun t585=>(if bt574.2.2=true then (laws_FnRecoverAgain.j1 kj2 t567 t582 t585 ((t582.length:Int)==0) t564) else (laws_FnRecoverAgain.j1 kj2 t567 t582 t585 true t564)))))=some r:=H
   have A6:=Za A60
   clear A60
   replace H:=Zg H
   obtain⟨⟨t574,t577,t580⟩,A70,H⟩:=H
   replace H:((impl_WritesOf.f kj2 t574 t577).bind fun t582=>((spec_DrawPlaces.f kj2 l0).bind fun t585=>(if t580=true then (laws_FnRecoverAgain.j1 kj2 t567 t582 t585 ((t582.length:Int)==0) t564) else (laws_FnRecoverAgain.j1 kj2 t567 t582 t585 true t564))))=some r:=H
   have A7:=Za A70
   clear A70
   replace H:=Zg H
   obtain⟨t582,A80,H⟩:=H
   replace H:((spec_DrawPlaces.f kj2 l0).bind fun t585=>(if t580=true then (laws_FnRecoverAgain.j1 kj2 t567 t582 t585 ((t582.length:Int)==0) t564) else (laws_FnRecoverAgain.j1 kj2 t567 t582 t585 true t564)))=some r:=H
   have A8:=Za A80
   clear A80
   replace H:=Zg H
   obtain⟨t585,A90,H⟩:=H
   replace H:(if t580=true then (laws_FnRecoverAgain.j1 kj2 t567 t582 t585 ((t582.length:Int)==0) t564) else (laws_FnRecoverAgain.j1 kj2 t567 t582 t585 true t564))=some r:=H
   have A9:=Za A90
   clear A90
   have HC10:=Za H
   clear H
   go_upto_region 8 with(first|((first|((with_reducible refine gate_callee (f:=8) rfl ?_);refine goesL_ (some 17) rfl rfl Tryz.func8 z9_27 rfl #[.slice A0 l0.length c0] rfl z9_1 ?_;(with_reducible refine(spec_DrawMemory.calls kj2 _ _ l0 t564 t567 _ ?side1 ?side2 A5.out).mono ?_))|(go_at_call 8;(with_reducible refine(spec_DrawMemory.calls kj2 _ _ l0 t564 t567 _ ?side1 ?side2 A5.out).mono ?_)));(case side1=>exact z9_19);(case side2=>exact HC0.out);rintro e w11 ⟨v565,v568,rfl,ho0,ho1,hb⟩;(first|refine⟨_,rfl,?_⟩|skip);have HO566:=Za (Kd.S_lower ho0 (Ye z9_0));have HO569:=Za (Yr ho1 (Ye z9_0));replace HB:=Za (Zj z9_0 hb);(try clear hb);(try clear hb2);(try clear hk);(try clear hi);(try clear ho0);(try clear ho1))|((with_reducible refine Zr (N:=3) rfl ?_);(try(refine gate_guard (by rfl) ?_;dsimp only));refine Zw ?hg (N:=3) ?hd (cs:= #[.slice none 0 0]) (t:=26) ?hr ?_;(case hd=>rfl);(case hg=>rfl);(case hr=>exact z9_24);intro gb570 hg w12 hbox hb;replace HO566:=Za (Kd.S_below z9_22 hb);replace HO569:=Za (Kd.R_below z9_15 hb);have BK570:=Za (hbox);have GW570:=Za ((z9_28:w.heap.size≤gb570));have GE570:=Za ((z9_28:w.heap.size≤gb570));replace HB:=Za (Zj z9_0 hb);clear hb hbox hg;obtain⟨Ao13,co13,eo13⟩:=Kd.S_slice HO566.out;subst eo13;have hcz14_0:w12.cell? ⟨gb570,0,none⟩=some (.slice none 0 0):=(Zb BK570.out 0).trans rfl;have hfz14_0:=Zc BK570.out 0)|((first|((with_reducible refine gate_callee (f:=9) rfl ?_);refine goesL_ (some 21) rfl rfl Tryz.func9 z9_27 rfl #[.slice A0 l0.length c0] rfl z9_1 ?_;(with_reducible refine(spec_DrawReadings.calls kj2 _ _ l0 t571 _ ?side1 ?side2 A6.out).mono ?_))|(go_at_call 9;(with_reducible refine(spec_DrawReadings.calls kj2 _ _ l0 t571 _ ?side1 ?side2 A6.out).mono ?_)));(case side1=>exact Yi HR0.out z9_3);(case side2=>exact HC0.out);rintro e w15 ⟨v572,rfl,ho0,hb⟩;(first|refine⟨_,rfl,?_⟩|skip);replace HO566:=Za (Kd.S_below (by(with_reducible repeat(first|apply Kd.S_alloc|apply Kd.S_drewN|apply Kd.S_drew));exact(Kd.S_mono (Kd.S_far (p:=⟨gb570,0,none⟩) (Kd.S_types HO566.out BK570.out (by decide)) (fun _ hk=>hk.2) (.slice Ao13 t564.length co13)) (fun _ h_=>h_.1))) hb);have HO573:=Za (Yr (Kd.R_new' ho0 (Kd.R_lt z9_26)) (Ye z9_3));replace HO569:=Za (Ys z9_26 (Yb ho0) hb);replace BK570:=Za (Zi (g:=gb570) (o:= .cells #[.slice Ao13 t564.length co13] 26 (0,0)) (by(with_reducible repeat(first|refine blk_drewN ?_ _|refine blk_drew ?_|refine blk_alloc ?_ _));refine blk_put (cs:= #[.slice none 0 0]) ?_ 0 _ rfl;(with_reducible repeat(first|refine blk_drewN ?_ _|refine blk_drew ?_|refine blk_alloc ?_ _));exact BK570.out) hb);replace HB:=Za (Zj z9_3 hb);(try clear hb);(try clear hb2);(try clear hk);(try clear hi);(try clear ho0);have hcz16_0:w15.cell? ⟨gb570,0,none⟩=some (.slice Ao13 t564.length co13):=(Zb BK570.out 0).trans rfl;have hfz16_0:=Zc BK570.out 0;obtain⟨Ao17,co17,eo17⟩:=Yg HO569.out;subst eo17;obtain⟨Ao18,co18,eo18⟩:=Yg HO573.out;subst eo18)|((first|((with_reducible refine gate_callee (f:=10) rfl ?_);refine goesL_ (some 26) rfl rfl Tryz.func10 z9_27 rfl #[.agg #[.slice Ao13 t564.length co13],.slice Ao17 t567.length co17,.slice Ao18 t571.length co18,.int .i64 0] rfl z9_1 ?_;(with_reducible refine(impl_TraceOf.calls kj2 _ _ t564 _ _ t567 _ _ t571 0 t574 t577 t580 _ ?side1 ?side2 ?side3 ?side4 ?side5 ?side6 A7.out).mono ?_))|(go_at_call 10;(with_reducible refine(impl_TraceOf.calls kj2 _ _ t564 _ _ t567 _ _ t571 0 t574 t577 t580 _ ?side1 ?side2 ?side3 ?side4 ?side5 ?side6 A7.out).mono ?_)));(case side1=>repeat(first|exact(Kd.S_reads' HO566.out).2.2|(with_reducible refine Yj ?_ _)|(with_reducible refine Yf ?_ _)|(with_reducible refine Yk ?_)));(case side2=>exact(Kd.S_reads' HO566.out).2.1);(case side3=>repeat(first|exact(Yn HO569.out).2.2|(with_reducible refine Yj ?_ _)|(with_reducible refine Yf ?_ _)|(with_reducible refine Yk ?_)));(case side4=>exact(Yn HO569.out).2.1);(case side5=>repeat(first|exact(Yn HO573.out).2.2|(with_reducible refine Yj ?_ _)|(with_reducible refine Yf ?_ _)|(with_reducible refine Yk ?_)));(case side6=>exact(Yn HO573.out).2.1);rintro e w19 ⟨v575,v578,rfl,ho0,ho1,hb⟩;(first|refine⟨_,rfl,?_⟩|skip);replace HO566:=Za (Kd.S_below z9_22 hb);have HO576:=Za (Yr ho0 (Ye z9_3));have HO579:=Za (Yr (Kd.R_new' (Kd.R_new' ho1 (Kd.R_lt z9_15)) (Kd.R_lt z9_17)) (Ye z9_3));replace HO569:=Za (Ys z9_15 (Yb ho1) hb);replace HO573:=Za (Ys z9_17 (Yb ho1) hb);replace BK570:=Za (Zi (g:=gb570) (o:= .cells #[.slice Ao13 t564.length co13] 26 (0,0)) z9_5 hb);replace HB:=Za (Zj z9_3 hb);(try clear hb);(try clear hb2);(try clear hk);(try clear hi);(try clear ho0);(try clear ho1))|((with_reducible refine Zr (N:=6) rfl ?_);(try(refine gate_guard (by rfl) ?_;dsimp only));refine Zw ?hg (N:=6) ?hd (cs:= #[.slice none 0 0,.slice none 0 0]) (t:=33) ?hr ?_;(case hd=>rfl);(case hg=>rfl);(case hr=>exact z9_24);intro gb581 hg w20 hbox hb;replace HO566:=Za (Kd.S_below z9_22 hb);replace HO569:=Za (Kd.R_below z9_15 hb);replace HO573:=Za (Kd.R_below z9_17 hb);replace HO576:=Za (Kd.R_below (by(with_reducible repeat(first|apply Zm|apply Zk|apply Zl));exact HO576.out) hb);replace HO579:=Za (Kd.R_below (by(with_reducible repeat(first|apply Zm|apply Zk|apply Zl));exact HO579.out) hb);have BK581:=Za (hbox);have GW581:=Za ((by rw[hg];exact(Ye z9_3):w.heap.size≤gb581));have GE581:=Za ((by rw[hg];exact(Ye z9_3):w.heap.size≤gb581));replace HB:=Za (Zj z9_3 hb);have NB570_581:=Za ((by rw[hg];exact Nat.ne_of_lt (blk_lt (g:=gb570) (o:= .cells #[.slice Ao13 t564.length co13] 26 (0,0)) z9_5):gb570≠gb581));have NB581_570:=Za ((by rw[hg];exact Nat.ne_of_gt (blk_lt (g:=gb570) (o:= .cells #[.slice Ao13 t564.length co13] 26 (0,0)) z9_5):gb581≠gb570));replace BK570:=Za (Zi (g:=gb570) (o:= .cells #[.slice Ao13 t564.length co13] 26 (0,0)) z9_5 hb);clear hb hbox hg;obtain⟨Ao21,co21,eo21⟩:=Yg HO576.out;subst eo21;have hnb22:=NB581_570.out;have hnc22:=NB570_581.out;have hcz23_0:w20.cell? ⟨gb581,0,none⟩=some (.slice none 0 0):=(Zb BK581.out 0).trans rfl;have hcz23_1:w20.cell? ⟨gb581,1,none⟩=some (.slice none 0 0):=(Zb BK581.out 1).trans rfl;have hfz23_0:=Zc BK581.out 0;have hfz23_1:=Zc BK581.out 1;obtain⟨Ao24,co24,eo24⟩:=Yg HO579.out;subst eo24)|((first|((with_reducible refine gate_callee (f:=11) rfl ?_);refine goesL_ (some 30) rfl rfl Tryz.func11 z9_27 rfl #[.agg #[.slice Ao21 t574.length co21,.slice Ao24 t577.length co24]] rfl z9_1 ?_;(with_reducible refine(impl_WritesOf.calls kj2 _ _ t574 _ _ t577 t582 _ ?side1 ?side2 ?side3 ?side4 A8.out).mono ?_))|(go_at_call 11;(with_reducible refine(impl_WritesOf.calls kj2 _ _ t574 _ _ t577 t582 _ ?side1 ?side2 ?side3 ?side4 A8.out).mono ?_)));(case side1=>refine(Yn (e:=64) (base:=w.heap.size) (ok:=fun k_=>True) (n:=t574.length) (c:=co21) ?_).2.2;exact z9_21);(case side2=>exact(Yn HO576.out).2.1);(case side3=>refine(Yn (e:=3) (base:=w.heap.size) (ok:=fun k_=>((True∧some k_≠(.slice Ao17 t567.length co17:Value).ownBlock)∧some k_≠(.slice Ao18 t571.length co18:Value).ownBlock)) (n:=t577.length) (c:=co24) ?_).2.2;exact z9_20);(case side4=>exact(Yn HO579.out).2.1);rintro e w25 ⟨v583,rfl,ho0,hb⟩;(first|refine⟨_,rfl,?_⟩|skip);replace HO566:=Za (Kd.S_below (by(with_reducible repeat(first|apply Kd.S_alloc|apply Kd.S_drewN|apply Kd.S_drew));exact(Kd.S_mono (Kd.S_far (p:=⟨gb581,1,none⟩) (Kd.S_far (p:=⟨gb581,0,none⟩) (Kd.S_types HO566.out BK581.out (by decide)) (fun _ hk=>hk.2) (.slice Ao21 t574.length co21)) (fun _ hk=>hk.2) (.slice Ao24 t577.length co24)) (fun _ h_=>h_.1))) hb);replace HO569:=Za (Kd.R_below (by(with_reducible repeat(first|apply Zm|apply Zk|apply Zl));exact(Ya (Kd.R_far (p:=⟨gb581,1,none⟩) (Kd.R_far (p:=⟨gb581,0,none⟩) (Kd.R_types HO569.out BK581.out (by decide)) (fun _ hk=>hk.2) (.slice Ao21 t574.length co21)) (fun _ hk=>hk.2) (.slice Ao24 t577.length co24)) (fun _ h_=>h_.1))) hb);replace HO573:=Za (Kd.R_below (by(with_reducible repeat(first|apply Zm|apply Zk|apply Zl));exact(Ya (Kd.R_far (p:=⟨gb581,1,none⟩) (Kd.R_far (p:=⟨gb581,0,none⟩) (Kd.R_types HO573.out BK581.out (by decide)) (fun _ hk=>hk.2) (.slice Ao21 t574.length co21)) (fun _ hk=>hk.2) (.slice Ao24 t577.length co24)) (fun _ h_=>h_.1))) hb);replace HO576:=Za (Kd.R_below z9_21 hb);replace HO579:=Za (Kd.R_below z9_20 hb);have HO584:=Za (Yr ho0 (Ye z9_2));replace BK570:=Za (Zi (g:=gb570) (o:= .cells #[.slice Ao13 t564.length co13] 26 (0,0)) (by(with_reducible repeat(first|refine blk_drewN ?_ _|refine blk_drew ?_|refine blk_alloc ?_ _));refine blk_far ?_ NB570_581.out _;(with_reducible repeat(first|refine blk_drewN ?_ _|refine blk_drew ?_|refine blk_alloc ?_ _));refine blk_far ?_ NB570_581.out _;(with_reducible repeat(first|refine blk_drewN ?_ _|refine blk_drew ?_|refine blk_alloc ?_ _));exact BK570.out) hb);replace BK581:=Za (Zi (g:=gb581) (o:= .cells #[.slice Ao21 t574.length co21,.slice Ao24 t577.length co24] 33 (0,0)) (by(with_reducible repeat(first|refine blk_drewN ?_ _|refine blk_drew ?_|refine blk_alloc ?_ _));refine blk_put (cs:= #[.slice Ao21 t574.length co21,.slice none 0 0]) ?_ 1 _ rfl;(with_reducible repeat(first|refine blk_drewN ?_ _|refine blk_drew ?_|refine blk_alloc ?_ _));refine blk_put (cs:= #[.slice none 0 0,.slice none 0 0]) ?_ 0 _ rfl;(with_reducible repeat(first|refine blk_drewN ?_ _|refine blk_drew ?_|refine blk_alloc ?_ _));exact BK581.out) hb);replace HB:=Za (Zj z9_2 hb);(try clear hb);(try clear hb2);(try clear hk);(try clear hi);(try clear ho0))|((first|((with_reducible refine gate_callee (f:=12) rfl ?_);refine goesL_ (some 32) rfl rfl Tryz.func12 z9_27 rfl #[.slice A0 l0.length c0] rfl z9_1 ?_;(with_reducible refine(spec_DrawPlaces.calls kj2 _ _ l0 t585 _ ?side1 ?side2 A9.out).mono ?_))|(go_at_call 12;(with_reducible refine(spec_DrawPlaces.calls kj2 _ _ l0 t585 _ ?side1 ?side2 A9.out).mono ?_)));(case side1=>exact z9_19);(case side2=>exact HC0.out);rintro e w26 ⟨v586,rfl,ho0,hb⟩;(first|refine⟨_,rfl,?_⟩|skip);replace HO566:=Za (Kd.S_below z9_22 hb);replace HO576:=Za (Kd.R_below (by(with_reducible repeat(first|apply Zm|apply Zk|apply Zl));exact HO576.out) hb);replace HO584:=Za (Kd.R_below (by(with_reducible repeat(first|apply Zm|apply Zk|apply Zl));exact HO584.out) hb);have HO587:=Za (Yr (Kd.R_new' (Kd.R_new' (Kd.R_new' ho0 (Kd.R_lt z9_15)) (Kd.R_lt z9_17)) (Kd.R_lt (by(with_reducible repeat(first|apply Zm|apply Zk|apply Zl));exact HO579.out))) (Ye z9_2));replace HO569:=Za (Ys z9_15 (Yb ho0) hb);replace HO573:=Za (Ys z9_17 (Yb ho0) hb);replace HO579:=Za (Ys (by(with_reducible repeat(first|apply Zm|apply Zk|apply Zl));exact HO579.out) (Yb ho0) hb);replace BK570:=Za (Zi (g:=gb570) (o:= .cells #[.slice Ao13 t564.length co13] 26 (0,0)) z9_5 hb);replace BK581:=Za (Zi (g:=gb581) (o:= .cells #[.slice Ao21 t574.length co21,.slice Ao24 t577.length co24] 33 (0,0)) z9_10 hb);replace HB:=Za (Zj z9_2 hb);(try clear hb);(try clear hb2);(try clear hk);(try clear hi);(try clear ho0)))
   (try simp only[Act.put,Yh,Yl,Ym])
   go_cut [39] (fun v39 wc=>∃(kq:Nat) (x39_9:Bool),v39= .bool x39_9∧Aside0 (laws_FnRecoverAgain.j1 kq t567 t582 t585 x39_9 t564=some r)∧Aside0 (kq≤kj2)∧Aside0 (Kd.R (Kd.int .i64) 3 wc w.heap.size (fun k_=>some k_≠(v586:Value).ownBlock∧some k_≠((.slice Ao24 t577.length co24):Value).ownBlock) (.slice Ao17 t567.length co17) t567)∧Aside0 (Kd.R k66 66 wc w.heap.size (fun _=>True) v583 t582)∧Aside0 (Kd.R (Kd.int .i64) 3 wc w.heap.size (fun k_=>some k_≠((.slice Ao17 t567.length co17):Value).ownBlock∧some k_≠((.slice Ao24 t577.length co24):Value).ownBlock) v586 t585)∧Aside0 (Kd.S k74 74 wc w.heap.size (fun _=>True) (.slice Ao13 t564.length co13) t564)∧Aside0 (Kd.R k64 64 wc w.heap.size (fun _=>True) (.slice Ao21 t574.length co21) t574)∧Aside0 (Kd.R (Kd.int .i64) 3 wc w.heap.size (fun k_=>some k_≠((.slice Ao17 t567.length co17):Value).ownBlock∧some k_≠(v586:Value).ownBlock) (.slice Ao24 t577.length co24) t577)∧Aside0 (wc.heap[gb570]? =some (.cells #[(.slice Ao13 t564.length co13)] 26 (0,0)))∧Aside0 (wc.heap[gb581]? =some (.cells #[(.slice Ao21 t574.length co21),(.slice Ao24 t577.length co24)] 33 (0,0)))∧Aside0 (Below w.heap.size w wc))
   case first=>
    have H:=HC10.out
    clear HC10
    by_cases c27:t580=true
    ·subst c27
     rw[if_pos rfl] at H
     have H':=Za H
     clear H
     obtain⟨Ao28,co28,eo28⟩:=Yg HO584.out
     subst eo28
     go_wp2
     go_meet
     case rel=>exact⟨_,(((t582.length:Int)==0)),z9_18,H',⟨by have:=HJ2.out;first|omega|exact Nat.le_refl _⟩,⟨by(with_reducible repeat(first|apply Zm|apply Zk|apply Zl));exact Ya HO569.out (fun _ hk=>⟨hk.2,hk.1.2⟩)⟩,⟨by(with_reducible repeat(first|apply Zm|apply Zk|apply Zl));exact HO584.out⟩,⟨by(with_reducible repeat(first|apply Zm|apply Zk|apply Zl));exact Ya HO587.out (fun _ hk=>⟨hk.1.1.2,hk.2⟩)⟩,⟨by(with_reducible repeat(first|apply Kd.S_alloc|apply Kd.S_drewN|apply Kd.S_drew));exact HO566.out⟩,⟨by(with_reducible repeat(first|apply Zm|apply Zk|apply Zl));exact HO576.out⟩,⟨by(with_reducible repeat(first|apply Zm|apply Zk|apply Zl));exact Ya HO579.out (fun _ hk=>⟨hk.1.1.2,hk.2⟩)⟩,⟨by(with_reducible repeat(first|refine blk_drewN ?_ _|refine blk_drew ?_|refine blk_alloc ?_ _));exact BK570.out⟩,⟨by(with_reducible repeat(first|refine blk_drewN ?_ _|refine blk_drew ?_|refine blk_alloc ?_ _));exact BK581.out⟩,⟨by repeat(first|(with_reducible first|exact HB.out|apply Zh|apply Zf|apply Ze|refine Zd ?_ GE570.out|refine Zd ?_ GE581.out)|exact HB.out)⟩⟩
    ·replace c27:=Bool.eq_false_iff.mpr c27
     subst c27
     rw[if_neg (show ¬(false=true) by decide)] at H
     have H':=Za H
     clear H
     go_wp2
     go_meet
     case rel=>exact⟨_,(true),z9_18,H',⟨by have:=HJ2.out;first|omega|exact Nat.le_refl _⟩,⟨by(with_reducible repeat(first|apply Zm|apply Zk|apply Zl));exact Ya HO569.out (fun _ hk=>⟨hk.2,hk.1.2⟩)⟩,⟨by(with_reducible repeat(first|apply Zm|apply Zk|apply Zl));exact HO584.out⟩,⟨by(with_reducible repeat(first|apply Zm|apply Zk|apply Zl));exact Ya HO587.out (fun _ hk=>⟨hk.1.1.2,hk.2⟩)⟩,⟨by(with_reducible repeat(first|apply Kd.S_alloc|apply Kd.S_drewN|apply Kd.S_drew));exact HO566.out⟩,⟨by(with_reducible repeat(first|apply Zm|apply Zk|apply Zl));exact HO576.out⟩,⟨by(with_reducible repeat(first|apply Zm|apply Zk|apply Zl));exact Ya HO579.out (fun _ hk=>⟨hk.1.1.2,hk.2⟩)⟩,⟨by(with_reducible repeat(first|refine blk_drewN ?_ _|refine blk_drew ?_|refine blk_alloc ?_ _));exact BK570.out⟩,⟨by(with_reducible repeat(first|refine blk_drewN ?_ _|refine blk_drew ?_|refine blk_alloc ?_ _));exact BK581.out⟩,⟨by repeat(first|(with_reducible first|exact HB.out|apply Zh|apply Zf|apply Ze|refine Zd ?_ GE570.out|refine Zd ?_ GE581.out)|exact HB.out)⟩⟩
   case rest=>
    clear HC10
    (try clear hcz14_0);(try clear hcz16_0);(try clear hcz23_0);(try clear hcz23_1);(try clear hfz14_0);(try clear hfz16_0);(try clear hfz23_0);(try clear hfz23_1)
    obtain⟨kq,x39_9,rfl,HA,HJ9,HO_4,HO_8,HO_9,HO_571000,HO_582000,HO_582001,BK570,BK581,HB⟩:=hcut
    cases kq with
    |zero=>exact absurd HA.out (by simp[laws_FnRecoverAgain.j1])
    |succ kj9=>
     have H:=HA.out
     clear HA
     simp only[laws_FnRecoverAgain.j1] at H
     have HC29:=Za H
     clear H
     go_upto_if 39 with(fail)
     go_cut [] (fun wc=>∃(kq:Nat),Aside0 (laws_FnRecoverAgain.j2 kq t567 t582 t585 t564=some r)∧Aside0 (kq≤kj9)∧Aside0 (Kd.R (Kd.int .i64) 3 wc w.heap.size (fun k_=>some k_≠(v586:Value).ownBlock∧some k_≠((.slice Ao24 t577.length co24):Value).ownBlock) (.slice Ao17 t567.length co17) t567)∧Aside0 (Kd.R k66 66 wc w.heap.size (fun _=>True) v583 t582)∧Aside0 (Kd.R (Kd.int .i64) 3 wc w.heap.size (fun k_=>some k_≠((.slice Ao17 t567.length co17):Value).ownBlock∧some k_≠((.slice Ao24 t577.length co24):Value).ownBlock) v586 t585)∧Aside0 (Kd.S k74 74 wc w.heap.size (fun _=>True) (.slice Ao13 t564.length co13) t564)∧Aside0 (Kd.R k64 64 wc w.heap.size (fun _=>True) (.slice Ao21 t574.length co21) t574)∧Aside0 (Kd.R (Kd.int .i64) 3 wc w.heap.size (fun k_=>some k_≠((.slice Ao17 t567.length co17):Value).ownBlock∧some k_≠(v586:Value).ownBlock) (.slice Ao24 t577.length co24) t577)∧Aside0 (wc.heap[gb570]? =some (.cells #[(.slice Ao13 t564.length co13)] 26 (0,0)))∧Aside0 (wc.heap[gb581]? =some (.cells #[(.slice Ao21 t574.length co21),(.slice Ao24 t577.length co24)] 33 (0,0)))∧Aside0 (Below w.heap.size w wc))
     case first=>
      have H:=HC29.out
      clear HC29
      by_cases c30:x39_9=true
      ·subst c30
       rw[if_pos rfl] at H
       exact absurd (hT.out.symm.trans (Zn H).symm) (by decide)
      ·replace c30:=Bool.eq_false_iff.mpr c30
       subst c30
       rw[if_neg (show ¬(false=true) by decide)] at H
       have H':=Za H
       clear H
       go_wp2
       go_meet
       case rel=>exact⟨_,H',⟨by have:=HJ2.out;have:=HJ9.out;first|omega|exact Nat.le_refl _⟩,⟨by(with_reducible repeat(first|apply Zm|apply Zk|apply Zl));exact HO_4.out⟩,⟨by(with_reducible repeat(first|apply Zm|apply Zk|apply Zl));exact HO_8.out⟩,⟨by(with_reducible repeat(first|apply Zm|apply Zk|apply Zl));exact HO_9.out⟩,⟨by(with_reducible repeat(first|apply Kd.S_alloc|apply Kd.S_drewN|apply Kd.S_drew));exact HO_571000.out⟩,⟨by(with_reducible repeat(first|apply Zm|apply Zk|apply Zl));exact HO_582000.out⟩,⟨by(with_reducible repeat(first|apply Zm|apply Zk|apply Zl));exact HO_582001.out⟩,⟨by(with_reducible repeat(first|refine blk_drewN ?_ _|refine blk_drew ?_|refine blk_alloc ?_ _));exact BK570.out⟩,⟨by(with_reducible repeat(first|refine blk_drewN ?_ _|refine blk_drew ?_|refine blk_alloc ?_ _));exact BK581.out⟩,⟨by repeat(first|(with_reducible first|exact HB.out|apply Zh|apply Zf|apply Ze|refine Zd ?_ GE570.out|refine Zd ?_ GE581.out)|exact HB.out)⟩⟩
     case rest=>
      clear HC29
      (try clear hcz14_0);(try clear hcz16_0);(try clear hcz23_0);(try clear hcz23_1);(try clear hfz14_0);(try clear hfz16_0);(try clear hfz23_0);(try clear hfz23_1)
      obtain⟨kq,HA,HJ28,HO_4,HO_8,HO_9,HO_571000,HO_582000,HO_582001,BK570,BK581,HB⟩:=hcut
      cases kq with
      |zero=>exact absurd HA.out (by simp[laws_FnRecoverAgain.j2])
      |succ kj28=>
       have H:=HA.out
       clear HA
       simp only[laws_FnRecoverAgain.j2] at H
       by_cases c31:0<(t585.length:Int)
       ·rw[if_pos c31] at H
        have c31b0:decide (0<(t585.length:Int))=true:=Zp c31
        have c31b1:decide (0<t585.length)=true:=Zp (by omega)
        clear c31
        by_cases c32:(t582.length:Int)=0
        ·rw[if_pos c32] at H
         exact absurd H (by simp)
        ·rw[if_neg c32] at H
         have c32b0:((t582.length:Int)==0)=false:=beq_eq_false_iff_ne.mpr c32
         have c32b1:((t582.length:Int) != 0)=true:=bne_iff_ne.mpr c32
         have c32b2:¬(t582=[]):=fun h_=>c32 (by rw[h_];rfl)
         replace H:=Zg H
         obtain⟨t589,A330,H⟩:=H
         replace H:((impl_RecoveryWrites.f kj28 t589).bind fun t592=>(if 1<(t585.length:Int) then (if (wrap64 ((t592.length:Int)+1))=0 then (none) else ((impl_ApplyWrites.f kj28 t589 t592 (Int.tmod (rd t585 1) (wrap64 ((t592.length:Int)+1)))).bind fun t596=>((impl_Recovered.f kj28 t596).bind fun t599=>((impl_Recovered.f kj28 t589).bind fun t602=>((laws_sameInts.f kj28 t599 t602).bind fun t605=>(if t605=true then ((impl_LostWork.f kj28 t564 t589).bind fun t606=>((impl_RecoveryCost.f t606).bind fun t607=>(some ((wrap64 (3*(t592.length:Int)))==t607)))) else (some false))))))) else (none)))=some r:=H
         have A33:=Za A330
         clear A330
         replace H:=Zg H
         obtain⟨t592,A340,H⟩:=H
         replace H:(if 1<(t585.length:Int) then (if (wrap64 ((t592.length:Int)+1))=0 then (none) else ((impl_ApplyWrites.f kj28 t589 t592 (Int.tmod (rd t585 1) (wrap64 ((t592.length:Int)+1)))).bind fun t596=>((impl_Recovered.f kj28 t596).bind fun t599=>((impl_Recovered.f kj28 t589).bind fun t602=>((laws_sameInts.f kj28 t599 t602).bind fun t605=>(if t605=true then ((impl_LostWork.f kj28 t564 t589).bind fun t606=>((impl_RecoveryCost.f t606).bind fun t607=>(some ((wrap64 (3*(t592.length:Int)))==t607)))) else (some false))))))) else (none))=some r:=H
         have A34:=Za A340
         clear A340
         by_cases c35:1<(t585.length:Int)
         ·rw[if_pos c35] at H
          have c35b0:decide (1<(t585.length:Int))=true:=Zp c35
          have c35b1:decide (1<t585.length)=true:=Zp (by omega)
          clear c35
          by_cases c36:(wrap64 ((t592.length:Int)+1))=0
          ·rw[if_pos c36] at H
           exact absurd H (by simp)
          ·rw[if_neg c36] at H
           have c36b0:((wrap64 ((t592.length:Int)+1))==0)=false:=beq_eq_false_iff_ne.mpr c36
           have c36b1:((wrap64 ((t592.length:Int)+1)) != 0)=true:=bne_iff_ne.mpr c36
           replace H:=Zg H
           obtain⟨t596,A370,H⟩:=H
           replace H:((impl_Recovered.f kj28 t596).bind fun t599=>((impl_Recovered.f kj28 t589).bind fun t602=>((laws_sameInts.f kj28 t599 t602).bind fun t605=>(if t605=true then ((impl_LostWork.f kj28 t564 t589).bind fun t606=>((impl_RecoveryCost.f t606).bind fun t607=>(some ((wrap64 (3*(t592.length:Int)))==t607)))) else (some false)))))=some r:=H
           have A37:=Za A370
           clear A370
           replace H:=Zg H
           obtain⟨t599,A380,H⟩:=H
           replace H:((impl_Recovered.f kj28 t589).bind fun t602=>((laws_sameInts.f kj28 t599 t602).bind fun t605=>(if t605=true then ((impl_LostWork.f kj28 t564 t589).bind fun t606=>((impl_RecoveryCost.f t606).bind fun t607=>(some ((wrap64 (3*(t592.length:Int)))==t607)))) else (some false))))=some r:=H
           have A38:=Za A380
           clear A380
           replace H:=Zg H
           obtain⟨t602,A390,H⟩:=H
           replace H:((laws_sameInts.f kj28 t599 t602).bind fun t605=>(if t605=true then ((impl_LostWork.f kj28 t564 t589).bind fun t606=>((impl_RecoveryCost.f t606).bind fun t607=>(some ((wrap64 (3*(t592.length:Int)))==t607)))) else (some false)))=some r:=H
           have A39:=Za A390
           clear A390
           replace H:=Zg H
           obtain⟨t605,A400,H⟩:=H
           replace H:(if t605=true then ((impl_LostWork.f kj28 t564 t589).bind fun t606=>((impl_RecoveryCost.f t606).bind fun t607=>(some ((wrap64 (3*(t592.length:Int)))==t607)))) else (some false))=some r:=H
           have A40:=Za A400
           clear A400
           by_cases c41:t605=true
           ·subst c41
            rw[if_pos rfl] at H
            replace H:=Zg H
            obtain⟨t606,A420,H⟩:=H
            replace H:((impl_RecoveryCost.f t606).bind fun t607=>(some ((wrap64 (3*(t592.length:Int)))==t607)))=some r:=H
            have A42:=Za A420
            clear A420
            replace H:=Zg H
            obtain⟨t607,A430,H⟩:=H
            replace H:(some ((wrap64 (3*(t592.length:Int)))==t607))=some r:=H
            have A43:=Za A430
            clear A430
            obtain rfl:=Zn H
            obtain⟨Ao44,co44,eo44⟩:=Yg HO_9.out
            subst eo44
            have p588:0≤(0:Int):=(by omega)
            have q588:0<(t585.length:Int):=Zq z9_4
            obtain⟨ad588,e588,hx588_0⟩:=Kd.at_int (Yn HO_9.out).2.2 0 p588 q588
            cases e588
            have qi588:(0<t585.length)=True:=eq_true (by omega)
            (try rw[show((0:Int)).toNat=0 from rfl] at hx588_0)
            (try rw[Addr.add_zero'] at hx588_0)
            replace p588:=eq_true p588
            replace q588:=eq_true q588
            obtain⟨Ao45,co45,eo45⟩:=Yg HO_8.out
            subst eo45
            go_wp2_with (first|((first|((with_reducible refine gate_callee (f:=13) rfl ?_);refine goesL_ (some 48) rfl rfl Tryz.func13 z9_27 rfl #[.slice Ao17 t567.length co17,.slice Ao45 t582.length co45,.int .i64 (Int.tmod (rd t585 0) (t582.length:Int))] rfl z9_1 ?_;(with_reducible refine(impl_ApplyWrites.calls kj28 _ _ t567 _ _ t582 (Int.tmod (rd t585 0) (t582.length:Int)) t589 _ ?side1 ?side2 ?side3 ?side4 A33.out).mono ?_))|(go_at_call 13;(with_reducible refine(impl_ApplyWrites.calls kj28 _ _ t567 _ _ t582 (Int.tmod (rd t585 0) (t582.length:Int)) t589 _ ?side1 ?side2 ?side3 ?side4 A33.out).mono ?_)));(case side1=>repeat(first|exact(Yn HO_4.out).2.2|(with_reducible refine Yj ?_ _)|(with_reducible refine Yf ?_ _)|(with_reducible refine Yk ?_)));(case side2=>exact(Yn HO_4.out).2.1);(case side3=>repeat(first|exact(Yn HO_8.out).2.2|(with_reducible refine Yj ?_ _)|(with_reducible refine Yf ?_ _)|(with_reducible refine Yk ?_)));(case side4=>exact(Yn HO_8.out).2.1);rintro e w46 ⟨v590,rfl,ho0,hb⟩;(first|refine⟨_,rfl,?_⟩|skip);replace HO_8:=Za (Kd.R_below z9_11 hb);replace HO_571000:=Za (Kd.S_below z9_12 hb);replace HO_582000:=Za (Kd.R_below z9_13 hb);have HO591:=Za (Yr (Kd.R_new' (Kd.R_new' (Kd.R_new' ho0 (Kd.R_lt z9_8)) (Kd.R_lt z9_7)) (Kd.R_lt z9_6)) (Ye z9_2));replace HO_4:=Za (Ys z9_8 (Yb ho0) hb);replace HO_9:=Za (Ys z9_7 (Yb ho0) hb);replace HO_582001:=Za (Ys z9_6 (Yb ho0) hb);replace BK570:=Za (Zi (g:=gb570) (o:= .cells #[.slice Ao13 t564.length co13] 26 (0,0)) z9_5 hb);replace BK581:=Za (Zi (g:=gb581) (o:= .cells #[.slice Ao21 t574.length co21,.slice Ao24 t577.length co24] 33 (0,0)) z9_10 hb);replace HB:=Za (Zj z9_2 hb);(try clear hb);(try clear hb2);(try clear hk);(try clear hi);(try clear ho0);obtain⟨Ao47,co47,eo47⟩:=Yg HO591.out;subst eo47)|((first|((with_reducible refine gate_callee (f:=14) rfl ?_);refine goesL_ (some 50) rfl rfl Tryz.func14 z9_27 rfl #[.slice Ao47 t589.length co47] rfl z9_1 ?_;(with_reducible refine(impl_RecoveryWrites.calls kj28 _ _ t589 t592 _ ?side1 ?side2 A34.out).mono ?_))|(go_at_call 14;(with_reducible refine(impl_RecoveryWrites.calls kj28 _ _ t589 t592 _ ?side1 ?side2 A34.out).mono ?_)));(case side1=>exact z9_14);(case side2=>exact(Yn HO591.out).2.1);rintro e w48 ⟨v593,rfl,ho0,hb⟩;(first|refine⟨_,rfl,?_⟩|skip);replace HO_4:=Za (Kd.R_below z9_8 hb);replace HO_9:=Za (Kd.R_below z9_7 hb);replace HO_571000:=Za (Kd.S_below z9_12 hb);replace HO_582000:=Za (Kd.R_below z9_13 hb);replace HO_582001:=Za (Kd.R_below z9_6 hb);replace HO591:=Za (Kd.R_below z9_9 hb);have HO594:=Za (Yr (Kd.R_new' ho0 (Kd.R_lt z9_11)) (Ye z9_2));replace HO_8:=Za (Ys z9_11 (Yb ho0) hb);replace BK570:=Za (Zi (g:=gb570) (o:= .cells #[.slice Ao13 t564.length co13] 26 (0,0)) z9_5 hb);replace BK581:=Za (Zi (g:=gb581) (o:= .cells #[.slice Ao21 t574.length co21,.slice Ao24 t577.length co24] 33 (0,0)) z9_10 hb);replace HB:=Za (Zj z9_2 hb);(try clear hb);(try clear hb2);(try clear hk);(try clear hi);(try clear ho0);have p595:0≤(1:Int):=(by omega);have q595:1<(t585.length:Int):=Zq z9_4;obtain⟨ad595,e595,hx595_0⟩:=Kd.at_int (Yn HO_9.out).2.2 1 p595 q595;obtain rfl:ad588=ad595:=(by injection e595);(try simp only[show(1:Int).toNat=1 from rfl,Nat.reduceMul,Nat.reduceEqDiff,Go.Addr.add,↓reduceIte] at hx595_0);have qi595:(1<t585.length)=True:=eq_true (by omega);(try rw[show((1:Int)).toNat=1 from rfl] at hx595_0);replace p595:=eq_true p595;replace q595:=eq_true q595;obtain⟨Ao49,co49,eo49⟩:=Yg HO594.out;subst eo49)|((first|((with_reducible refine gate_callee (f:=13) rfl ?_);refine goesL_ (some 60) rfl rfl Tryz.func13 z9_27 rfl #[.slice Ao47 t589.length co47,.slice Ao49 t592.length co49,.int .i64 (Int.tmod (rd t585 1) (wrap64 ((t592.length:Int)+1)))] rfl z9_1 ?_;(with_reducible refine(impl_ApplyWrites.calls kj28 _ _ t589 _ _ t592 (Int.tmod (rd t585 1) (wrap64 ((t592.length:Int)+1))) t596 _ ?side1 ?side2 ?side3 ?side4 A37.out).mono ?_))|(go_at_call 13;(with_reducible refine(impl_ApplyWrites.calls kj28 _ _ t589 _ _ t592 (Int.tmod (rd t585 1) (wrap64 ((t592.length:Int)+1))) t596 _ ?side1 ?side2 ?side3 ?side4 A37.out).mono ?_)));(case side1=>exact z9_14);(case side2=>exact(Yn HO591.out).2.1);(case side3=>repeat(first|exact(Yn HO594.out).2.2|(with_reducible refine Yj ?_ _)|(with_reducible refine Yf ?_ _)|(with_reducible refine Yk ?_)));(case side4=>exact(Yn HO594.out).2.1);rintro e w50 ⟨v597,rfl,ho0,hb⟩;(first|refine⟨_,rfl,?_⟩|skip);replace HO_8:=Za (Kd.R_below z9_11 hb);replace HO_571000:=Za (Kd.S_below z9_12 hb);replace HO_582000:=Za (Kd.R_below z9_13 hb);replace HO594:=Za (Kd.R_below z9_23 hb);have HO598:=Za (Yr (Kd.R_new' (Kd.R_new' (Kd.R_new' (Kd.R_new' ho0 (Kd.R_lt z9_8)) (Kd.R_lt z9_7)) (Kd.R_lt z9_6)) (Kd.R_lt z9_9)) (Ye z9_2));replace HO_4:=Za (Ys z9_8 (Yb ho0) hb);replace HO_9:=Za (Ys z9_7 (Yb ho0) hb);replace HO_582001:=Za (Ys z9_6 (Yb ho0) hb);replace HO591:=Za (Ys z9_9 (Yb ho0) hb);replace BK570:=Za (Zi (g:=gb570) (o:= .cells #[.slice Ao13 t564.length co13] 26 (0,0)) z9_5 hb);replace BK581:=Za (Zi (g:=gb581) (o:= .cells #[.slice Ao21 t574.length co21,.slice Ao24 t577.length co24] 33 (0,0)) z9_10 hb);replace HB:=Za (Zj z9_2 hb);(try clear hb);(try clear hb2);(try clear hk);(try clear hi);(try clear ho0);obtain⟨Ao51,co51,eo51⟩:=Yg HO598.out;subst eo51)|((first|((with_reducible refine gate_callee (f:=16) rfl ?_);refine goesL_ (some 62) rfl rfl Tryz.func16 z9_27 rfl #[.slice Ao51 t596.length co51] rfl z9_1 ?_;(with_reducible refine(impl_Recovered.calls kj28 _ _ t596 t599 _ ?side1 ?side2 A38.out).mono ?_))|(go_at_call 16;(with_reducible refine(impl_Recovered.calls kj28 _ _ t596 t599 _ ?side1 ?side2 A38.out).mono ?_)));(case side1=>repeat(first|exact(Yn HO598.out).2.2|(with_reducible refine Yj ?_ _)|(with_reducible refine Yf ?_ _)|(with_reducible refine Yk ?_)));(case side2=>exact(Yn HO598.out).2.1);rintro e w52 ⟨v600,rfl,ho0,hb⟩;(first|refine⟨_,rfl,?_⟩|skip);replace HO_8:=Za (Kd.R_below z9_11 hb);replace HO_571000:=Za (Kd.S_below z9_12 hb);replace HO_582000:=Za (Kd.R_below z9_13 hb);replace HO594:=Za (Kd.R_below z9_23 hb);have HO601:=Za (Yr (Kd.R_new' (Kd.R_new' (Kd.R_new' (Kd.R_new' (Kd.R_new' ho0 (Kd.R_lt z9_8)) (Kd.R_lt z9_7)) (Kd.R_lt z9_6)) (Kd.R_lt z9_9)) (Kd.R_lt z9_16)) (Ye z9_2));replace HO_4:=Za (Ys z9_8 (Yb ho0) hb);replace HO_9:=Za (Ys z9_7 (Yb ho0) hb);replace HO_582001:=Za (Ys z9_6 (Yb ho0) hb);replace HO591:=Za (Ys z9_9 (Yb ho0) hb);replace HO598:=Za (Ys z9_16 (Yb ho0) hb);replace BK570:=Za (Zi (g:=gb570) (o:= .cells #[.slice Ao13 t564.length co13] 26 (0,0)) z9_5 hb);replace BK581:=Za (Zi (g:=gb581) (o:= .cells #[.slice Ao21 t574.length co21,.slice Ao24 t577.length co24] 33 (0,0)) z9_10 hb);replace HB:=Za (Zj z9_2 hb);(try clear hb);(try clear hb2);(try clear hk);(try clear hi);(try clear ho0))|((first|((with_reducible refine gate_callee (f:=16) rfl ?_);refine goesL_ (some 64) rfl rfl Tryz.func16 z9_27 rfl #[.slice Ao47 t589.length co47] rfl z9_1 ?_;(with_reducible refine(impl_Recovered.calls kj28 _ _ t589 t602 _ ?side1 ?side2 A39.out).mono ?_))|(go_at_call 16;(with_reducible refine(impl_Recovered.calls kj28 _ _ t589 t602 _ ?side1 ?side2 A39.out).mono ?_)));(case side1=>exact z9_14);(case side2=>exact(Yn HO591.out).2.1);rintro e w53 ⟨v603,rfl,ho0,hb⟩;(first|refine⟨_,rfl,?_⟩|skip);replace HO_8:=Za (Kd.R_below z9_11 hb);replace HO_571000:=Za (Kd.S_below z9_12 hb);replace HO_582000:=Za (Kd.R_below z9_13 hb);replace HO594:=Za (Kd.R_below z9_23 hb);have HO604:=Za (Yr (Kd.R_new' (Kd.R_new' (Kd.R_new' (Kd.R_new' (Kd.R_new' (Kd.R_new' ho0 (Kd.R_lt z9_8)) (Kd.R_lt z9_7)) (Kd.R_lt z9_6)) (Kd.R_lt z9_9)) (Kd.R_lt z9_16)) (Kd.R_lt (by(with_reducible repeat(first|apply Zm|apply Zk|apply Zl));exact HO601.out))) (Ye z9_2));replace HO_4:=Za (Ys z9_8 (Yb ho0) hb);replace HO_9:=Za (Ys z9_7 (Yb ho0) hb);replace HO_582001:=Za (Ys z9_6 (Yb ho0) hb);replace HO591:=Za (Ys z9_9 (Yb ho0) hb);replace HO598:=Za (Ys z9_16 (Yb ho0) hb);replace HO601:=Za (Ys (by(with_reducible repeat(first|apply Zm|apply Zk|apply Zl));exact HO601.out) (Yb ho0) hb);replace BK570:=Za (Zi (g:=gb570) (o:= .cells #[.slice Ao13 t564.length co13] 26 (0,0)) z9_5 hb);replace BK581:=Za (Zi (g:=gb581) (o:= .cells #[.slice Ao21 t574.length co21,.slice Ao24 t577.length co24] 33 (0,0)) z9_10 hb);replace HB:=Za (Zj z9_2 hb);(try clear hb);(try clear hb2);(try clear hk);(try clear hi);(try clear ho0);obtain⟨Ao54,co54,eo54⟩:=Yg HO601.out;subst eo54;obtain⟨Ao55,co55,eo55⟩:=Yg HO604.out;subst eo55)|((first|((with_reducible refine gate_callee (f:=15) rfl ?_);refine goesL_ (some 65) rfl rfl Tryz.func15 z9_27 rfl #[.slice Ao54 t599.length co54,.slice Ao55 t602.length co55] rfl z9_1 ?_;(with_reducible refine(laws_sameInts.calls kj28 _ _ t599 _ _ t602 true _ ?side1 ?side2 ?side3 ?side4 A40.out).mono ?_))|(go_at_call 15;(with_reducible refine(laws_sameInts.calls kj28 _ _ t599 _ _ t602 true _ ?side1 ?side2 ?side3 ?side4 A40.out).mono ?_)));(case side1=>repeat(first|exact(Yn HO601.out).2.2|(with_reducible refine Yj ?_ _)|(with_reducible refine Yf ?_ _)|(with_reducible refine Yk ?_)));(case side2=>exact(Yn HO601.out).2.1);(case side3=>repeat(first|exact(Yn HO604.out).2.2|(with_reducible refine Yj ?_ _)|(with_reducible refine Yf ?_ _)|(with_reducible refine Yk ?_)));(case side4=>exact(Yn HO604.out).2.1);rintro e w' ⟨rfl,⟨nd,rfl⟩⟩;(first|refine⟨_,rfl,?_⟩|skip);have hnb56:=NB570_581.out;have hnc56:=NB581_570.out;have hcz57_0:w53.cell? ⟨gb570,0,none⟩=some (.slice Ao13 t564.length co13):=(Zb BK570.out 0).trans rfl;have hfz57_0:=Zc BK570.out 0)|(go_at_call 18;(with_reducible refine(impl_LostWork.calls kj28 _ _ t564 _ _ t589 t606 _ ?side1 ?side2 ?side3 ?side4 A42.out).mono ?_);(case side1=>repeat(first|exact(Kd.S_reads' HO_571000.out).2.2|(with_reducible refine Yj ?_ _)|(with_reducible refine Yf ?_ _)|(with_reducible refine Yk ?_)));(case side2=>exact(Kd.S_reads' HO_571000.out).2.1);(case side3=>exact z9_14);(case side4=>exact(Yn HO591.out).2.1);rintro e w58 ⟨rfl,hb⟩;replace HO_4:=Za (Kd.R_below z9_8 hb);replace HO_8:=Za (Kd.R_below z9_11 hb);replace HO_9:=Za (Kd.R_below z9_7 hb);replace HO_571000:=Za (Kd.S_below z9_12 hb);replace HO_582000:=Za (Kd.R_below z9_13 hb);replace HO_582001:=Za (Kd.R_below z9_6 hb);replace HO591:=Za (Kd.R_below z9_9 hb);replace HO594:=Za (Kd.R_below z9_23 hb);replace HO598:=Za (Kd.R_below z9_16 hb);replace HO601:=Za (Kd.R_below (by(with_reducible repeat(first|apply Zm|apply Zk|apply Zl));exact HO601.out) hb);replace HO604:=Za (Kd.R_below (by(with_reducible repeat(first|apply Zm|apply Zk|apply Zl));exact HO604.out) hb);replace BK570:=Za (Zi (g:=gb570) (o:= .cells #[.slice Ao13 t564.length co13] 26 (0,0)) z9_5 hb);replace BK581:=Za (Zi (g:=gb581) (o:= .cells #[.slice Ao21 t574.length co21,.slice Ao24 t577.length co24] 33 (0,0)) z9_10 hb);replace HB:=Za (Zj z9_2 hb);(try clear hb);(try clear hb2);(try clear hk);(try clear hi))|(go_at_call 17;(with_reducible refine(impl_RecoveryCost.calls t606 t607 _ A43.out).mono ?_);rintro e w' ⟨rfl,⟨nd,rfl⟩⟩))
            go_ret
            exact⟨by first|rfl|(simp[errW_none,errW_some]<;>rfl)|(simp[*,errW_none,errW_some]<;>rfl)|(simp[*,errW_none,errW_some,i64_w];done),by repeat(first|(with_reducible first|exact HB.out|apply Zh|apply Zf|apply Ze|refine Zd ?_ GE570.out|refine Zd ?_ GE581.out)|exact HB.out)⟩
           ·replace c41:=Bool.eq_false_iff.mpr c41
            subst c41
            rw[if_neg (show ¬(false=true) by decide)] at H
            exact absurd (hT.out.symm.trans (Zn H).symm) (by decide)
         ·rw[if_neg c35] at H
          exact absurd H (by simp)
       ·rw[if_neg c31] at H
        exact absurd H (by simp)
def laws_FnRecoverAgain.Pure:Prop:=∀(l0:List Int),l0.length≤maxLen→l0.length*1≤140737488351232→(∀x∈l0,(Lit.int .u8 x).wf=true)→∃k,laws_FnRecoverAgain.f k l0=some true
theorem laws_FnRecoverAgain.walk (P:laws_FnRecoverAgain.Pure) (a0:Option Addr) (len0 cap0:Nat) (z0:List Int) (w:World) (w0:(a0=none∧len0=0∧cap0=0∧z0=[])∨∃x,a0=some x∧len0≤cap0∧cap0≤maxLen∧z0.length=cap0∧(∀i,i<z0.length→w.cell? (x.add i)=some (.int .u8 (z0.getD i 0)))∧∀n∈z0,(Lit.int .u8 n).wf=true) (y0:len0*1≤140737488351232):
  Calls Tryz.prog 3 #[.slice a0 len0 cap0] w fun e w'=>e= .returned (.bool true)∧Below w.heap.size w w':=by
 obtain⟨l0,rfl,hr0,hm0,hw0,hc0⟩:=ReadsInt.ofRowC w0
 obtain⟨k,h⟩:=P l0 hm0 y0 hw0
 refine(laws_FnRecoverAgain.calls k _ _ l0 true w (Kd.C_of_reads (d:=(0:Int)) (h1:=fun _=>rfl) hr0) hc0 h ⟨rfl⟩).mono ?_
 rintro e w' ⟨rfl,hd⟩
 exact⟨rfl,hd⟩
end Go.Proofs.YtjgfldbogjipiaaGreat.G
