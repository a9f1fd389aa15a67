/- Functions of the program as plain Lean functions, and that each call comes to its function's answer; written by a program of the session. No condition. -/
import Derived.Test.YtlolppaddphpoaaGx0
import Derived.Test.YtlolppaddphpoaaGx10
namespace Go.Proofs.Ytlolppaddphpoaa.G
open Go.RowKit Go.Proofs.YtlolppaddphpoaaW.PrintWords Go.Proofs.YtlolppaddphpoaaW.PrintLast Go.Proofs.YtlolppaddphpoaaW.PrintMore
attribute [local go_sem] max2_int min2_int max_two min_two max_three min_three max_four min_four   -- for this text's walks alone
set_option linter.unusedVariables false
set_option linter.unusedSimpArgs false
theorem z11_0 {P:Prop} (h:P:=by repeat(first|(with_reducible first|exact HB.out|apply Zh|apply Zf|apply Ze)|exact HB.out)):P:=h
theorem z11_1 {P:Prop} (h:P:=by(try simp only[List.map_toArray,List.map_cons,List.map_nil]);first|done|rfl|(simp only[List.length_drop,List.length_take];rfl)):P:=h
theorem z11_2 {P:Prop} (h:P:=by repeat(first|exact(Yg HR0_0.out HB.out)|(with_reducible refine Yc ?_ _)|(with_reducible refine Yd ?_ _)|(with_reducible refine Ye ?_))):P:=h
theorem z11_3 {P:Prop} (h:P:=by repeat(first|exact(Yg HR0_1.out (by repeat(first|(with_reducible first|exact HB.out|apply Zh|apply Zf|apply Ze|refine Zd ?_ GE331.out)|exact HB.out)))|(with_reducible refine Yc ?_ _)|(with_reducible refine Yd ?_ _)|(with_reducible refine Ye ?_))):P:=h
def laws_markEffect.f (k:Nat) (l0_0:List Int) (l0_1:List Int) (a0_2:Int) (a0_3:Int) (a1:Int):Option (Int×List Int×List Int):=(laws_markIntS.f k l0_0 a1).bind fun bt326=>((laws_markIntS.f k l0_1 bt326.1).bind fun bt328=>(some (bt328.1,bt326.2,bt328.2)))
set_option maxHeartbeats 8000000 in
set_option maxRecDepth 100000 in
theorem laws_markEffect.calls (k:Nat) (P0_0_:Nat→Prop) (u9000_:Value) (l0_0:List Int) (P0_1_:Nat→Prop) (u9001_:Value) (l0_1:List Int) (a0_2:Int) (a0_3:Int) (a1:Int) (r1:Int) (r2:List Int) (r3:List Int) (w0 w:World) (hB:Below w0.heap.size w0 w) (ho0_0:Kd.R (Kd.int .i64) 3 w w0.heap.size P0_0_ u9000_ l0_0) (hp0_0_0_1:∀k_,P0_0_ k_→¬P0_1_ k_) (ho0_1:Kd.R (Kd.int .i64) 3 w w0.heap.size P0_1_ u9001_ l0_1) (hp0_1_0_0:∀k_,P0_1_ k_→¬P0_0_ k_) (h:laws_markEffect.f k l0_0 l0_1 a0_2 a0_3 a1=some (r1,r2,r3)):
  Calls Try.prog 15 #[.agg #[u9000_,u9001_,.int .i64 a0_2,.int .i64 a0_3],.int .i64 a1] w fun e w'=>e= .returned (.int .i64 r1)∧Kd.R (Kd.int .i64) 3 w' w0.heap.size (fun k_=>((P0_0_ k_∨P0_1_ k_)∨w.heap.size≤k_)) u9000_ r2∧Kd.R (Kd.int .i64) 3 w' w0.heap.size (fun k_=>((P0_0_ k_∨P0_1_ k_)∨w.heap.size≤k_)) u9001_ r3∧Below w0.heap.size w0 w'∧Kept w w' (fun k_=>P0_0_ k_∨P0_1_ k_):=by
 have hu28:=Try.underlying28
 have HO0_0:=Za (show Kd.R (Kd.int .i64) 3 w w0.heap.size (fun k_=>((P0_0_ k_∨P0_1_ k_)∨w.heap.size≤k_)∧some k_≠(u9001_:Value).ownBlock) u9000_ l0_0 from Zw ho0_0 (fun k_ hk=>⟨(.inl (.inl hk)),fun e_=>hp0_0_0_1 k_ hk (ho0_1.1 k_ e_.symm)⟩))
 have HO0_1:=Za (show Kd.R (Kd.int .i64) 3 w w0.heap.size (fun k_=>((P0_0_ k_∨P0_1_ k_)∨w.heap.size≤k_)∧some k_≠(u9000_:Value).ownBlock) u9001_ l0_1 from Zw ho0_1 (fun k_ hk=>⟨(.inl (.inr hk)),fun e_=>hp0_1_0_0 k_ hk (ho0_0.1 k_ e_.symm)⟩))
 have HK:=Za (Kept.refl w (fun k_=>P0_0_ k_∨P0_1_ k_))
 have HW0:=Za hB.size
 have HB:=Za hB
 clear hB
 have H:((laws_markIntS.f k l0_0 a1).bind fun bt326=>((laws_markIntS.f k l0_1 bt326.1).bind fun bt328=>(some (bt328.1,bt326.2,bt328.2))))=some (r1,r2,r3):=h
 clear h
 replace H:=Zl H
 obtain⟨⟨t326,t327⟩,A30,H⟩:=H
 replace H:((laws_markIntS.f k l0_1 t326).bind fun bt328=>(some (bt328.1,t327,bt328.2)))=some (r1,r2,r3):=H
 have A3:=Za A30
 clear A30
 replace H:=Zl H
 obtain⟨⟨t328,t329⟩,A40,H⟩:=H
 replace H:(some (t328,t327,t329))=some (r1,r2,r3):=H
 have A4:=Za A40
 clear A40
 simp only[Option.some.injEq,Prod.mk.injEq] at H
 obtain⟨rfl,rfl,rfl⟩:=H
 obtain⟨Ao5,co5,eo5⟩:=Yn HO0_0.out
 subst eo5
 obtain⟨Ao6,co6,eo6⟩:=Yn HO0_1.out
 subst eo6
 go_enter Try.func15,Try.ntmps15
 go_wp2_with (first|((with_reducible refine Zp (N:=2) rfl ?_);refine Zt ?hg (N:=2) ?hd (cs:= #[.slice Ao5 l0_0.length co5,.slice Ao6 l0_1.length co6,.int .i64 a0_2,.int .i64 a0_3]) (t:=28) ?hr ?_;(case hd=>rfl);(case hg=>rfl);(case hr=>first|(go_simp;done)|(go_simp;rfl));intro gb325 hg w7 hbox hb;replace HO0_0:=Za (Kd.R_below (by(with_reducible repeat(first|apply Zn|apply Zo|apply Zm));exact HO0_0.out) hb);replace HO0_1:=Za (Kd.R_below (by(with_reducible repeat(first|apply Zn|apply Zo|apply Zm));exact HO0_1.out) hb);have BK325:=Za (hbox);have GW325:=Za ((by rw[hg];exact(by first|exact HK.out.1|exact(show Kept w _ (fun k_=>P0_0_ k_∨P0_1_ k_) from by repeat(first|(with_reducible first|exact HK.out|apply Kept.alloc|apply Kept.drewN|apply Kept.drew)|exact HK.out)).1):w.heap.size≤gb325));replace HK:=Za (Kept.below (S:=(fun k_=>P0_0_ k_∨P0_1_ k_)) (by repeat(first|(with_reducible first|exact HK.out|apply Kept.alloc|apply Kept.drewN|apply Kept.drew)|exact HK.out)) hb);have GE325:=Za ((by rw[hg];exact(Zy z11_0):w0.heap.size≤gb325));replace HB:=Za (Zj z11_0 hb);clear hb hbox hg;have hcz8_0:w7.cell? ⟨gb325,0,none⟩=some (.slice Ao5 l0_0.length co5):=(Zb BK325.out 0).trans rfl;have hcz8_1:w7.cell? ⟨gb325,1,none⟩=some (.slice Ao6 l0_1.length co6):=(Zb BK325.out 1).trans rfl;have hcz8_2:w7.cell? ⟨gb325,2,none⟩=some (.int .i64 a0_2):=(Zb BK325.out 2).trans rfl;have hcz8_3:w7.cell? ⟨gb325,3,none⟩=some (.int .i64 a0_3):=(Zb BK325.out 3).trans rfl;have hfz8_0:=Zc BK325.out 0;have hfz8_1:=Zc BK325.out 1;have hfz8_2:=Zc BK325.out 2;have hfz8_3:=Zc BK325.out 3)|((first|((with_reducible refine gate_callee (f:=14) rfl ?_);refine goesL_ (some 8) rfl rfl Try.func14 (by kernel_rfl) rfl #[.slice Ao5 l0_0.length co5,.int .i64 a1] rfl z11_1 ?_;(with_reducible refine(laws_markIntS.calls k (fun k_=>some k_=(.slice Ao5 l0_0.length co5:Value).ownBlock) (.slice Ao5 l0_0.length co5) l0_0 a1 t326 t327 w0 _ ?side1 ?side2 A3.out).mono ?_))|(go_at_call 14;(with_reducible refine(laws_markIntS.calls k (fun k_=>some k_=(.slice Ao5 l0_0.length co5:Value).ownBlock) (.slice Ao5 l0_0.length co5) l0_0 a1 t326 t327 w0 _ ?side1 ?side2 A3.out).mono ?_)));(case side1=>repeat(first|(with_reducible first|exact HB.out|apply Zh|apply Zf|apply Ze|refine Zd ?_ GE325.out)|exact HB.out));(case side2=>exact Kd.R_tight rfl HO0_0.out);rintro e w9 ⟨rfl,hy0,hb,hkp⟩;(first|refine⟨_,rfl,?_⟩|skip);replace HO0_1:=Za (Zw (ok':=fun k_=>((P0_0_ k_∨P0_1_ k_)∨w.heap.size≤k_)∧some k_≠(.slice Ao5 l0_0.length co5:Value).ownBlock) (Kd.R_keptB (HO0_1.out) hkp (fun k_ hk_ hs_=>(hk_.2) hs_)) (fun k_ hk_=>⟨hk_.1.1,hk_.1.2⟩));replace BK325:=Za (blk_kept (by(with_reducible repeat(first|refine blk_drewN ?_ _|refine blk_drew ?_|refine blk_alloc ?_ _));exact BK325.out) hkp (fun hs_=>(fun e_=>(Kd.R_ne HO0_0.out BK325.out (by decide)) e_) hs_));replace HK:=Za (Kept.then_ (S:=(fun k_=>P0_0_ k_∨P0_1_ k_)) (by repeat(first|(with_reducible first|exact HK.out|apply Kept.alloc|apply Kept.drewN|apply Kept.drew|refine Kept.setCell ?_ (.inr GW325.out) _)|exact HK.out)) hkp (fun k_ hs_=>(fun e_=>(HO0_0.out.1 k_ e_.symm).1) hs_));replace HO0_0:=Za (Kd.R_reok rfl hy0 (fun k_ e_=>HO0_0.out.1 k_ e_));replace HB:=Za (hb);(try clear hb);(try clear hkp);(try clear hy0);have hcz10_0:w9.cell? ⟨gb325,0,none⟩=some (.slice Ao5 l0_0.length co5):=(Zb BK325.out 0).trans rfl;have hcz10_1:w9.cell? ⟨gb325,1,none⟩=some (.slice Ao6 l0_1.length co6):=(Zb BK325.out 1).trans rfl;have hcz10_2:w9.cell? ⟨gb325,2,none⟩=some (.int .i64 a0_2):=(Zb BK325.out 2).trans rfl;have hcz10_3:w9.cell? ⟨gb325,3,none⟩=some (.int .i64 a0_3):=(Zb BK325.out 3).trans rfl;have hfz10_0:=Zc BK325.out 0;have hfz10_1:=Zc BK325.out 1;have hfz10_2:=Zc BK325.out 2;have hfz10_3:=Zc BK325.out 3)|((first|((with_reducible refine gate_callee (f:=14) rfl ?_);refine goesL_ (some 12) rfl rfl Try.func14 (by kernel_rfl) rfl #[.slice Ao6 l0_1.length co6,.int .i64 t326] rfl z11_1 ?_;(with_reducible refine(laws_markIntS.calls k (fun k_=>some k_=(.slice Ao6 l0_1.length co6:Value).ownBlock) (.slice Ao6 l0_1.length co6) l0_1 t326 t328 t329 w0 _ ?side1 ?side2 A4.out).mono ?_))|(go_at_call 14;(with_reducible refine(laws_markIntS.calls k (fun k_=>some k_=(.slice Ao6 l0_1.length co6:Value).ownBlock) (.slice Ao6 l0_1.length co6) l0_1 t326 t328 t329 w0 _ ?side1 ?side2 A4.out).mono ?_)));(case side1=>repeat(first|(with_reducible first|exact HB.out|apply Zh|apply Zf|apply Ze|refine Zd ?_ GE325.out)|exact HB.out));(case side2=>exact Kd.R_tight rfl HO0_1.out);rintro e w11 ⟨rfl,hy0,hb,hkp⟩;(first|refine⟨_,rfl,?_⟩|skip);replace HO0_0:=Za (Zw (ok':=fun k_=>((P0_0_ k_∨P0_1_ k_)∨w.heap.size≤k_)∧some k_≠(.slice Ao6 l0_1.length co6:Value).ownBlock) (Kd.R_keptB (HO0_0.out) hkp (fun k_ hk_ hs_=>(hk_.2) hs_)) (fun k_ hk_=>⟨hk_.1.1,hk_.1.2⟩));replace BK325:=Za (blk_kept (by(with_reducible repeat(first|refine blk_drewN ?_ _|refine blk_drew ?_|refine blk_alloc ?_ _));exact BK325.out) hkp (fun hs_=>(fun e_=>(Kd.R_ne HO0_1.out BK325.out (by decide)) e_) hs_));replace HK:=Za (Kept.then_ (S:=(fun k_=>P0_0_ k_∨P0_1_ k_)) (by repeat(first|(with_reducible first|exact HK.out|apply Kept.alloc|apply Kept.drewN|apply Kept.drew|refine Kept.setCell ?_ (.inr GW325.out) _)|exact HK.out)) hkp (fun k_ hs_=>(fun e_=>(HO0_1.out.1 k_ e_.symm).1) hs_));replace HO0_1:=Za (Kd.R_reok rfl hy0 (fun k_ e_=>HO0_1.out.1 k_ e_));replace HB:=Za (hb);(try clear hb);(try clear hkp);(try clear hy0)))
 go_ret
 exact⟨by first|rfl|(simp[errW_none,errW_some]<;>rfl)|(simp[*,errW_none,errW_some]<;>rfl)|(simp[*,errW_none,errW_some,i64_w];done),by(with_reducible repeat(first|apply Zn|apply Zo|apply Zm));exact Zw HO0_0.out (fun _ hk=>hk.1),by(with_reducible repeat(first|apply Zn|apply Zo|apply Zm));exact Zw HO0_1.out (fun _ hk=>hk.1),by repeat(first|(with_reducible first|exact HB.out|apply Zh|apply Zf|apply Ze|refine Zd ?_ GE325.out)|exact HB.out),by repeat(first|(with_reducible first|exact HK.out|apply Kept.alloc|apply Kept.drewN|apply Kept.drew|refine Kept.setCell ?_ (.inr GW325.out) _)|exact HK.out)⟩
def laws_heldIntS.l0:Nat→List Int→Int→Int→Option (Int)
 |0,_,_,_=>none
 |k+1,x0,x1,x5=>if x5<(x0.length:Int) then (if 0≤x5 then (if (rd x0 x5)=x1 then (laws_heldIntS.l0 k x0 (wrap64 (x1+1)) (wrap64 (x5+1))) else (some (-1))) else (none)) else (some x1)
def laws_heldIntS.f (k:Nat) (l0:List Int) (a1:Int):Option (Int):=laws_heldIntS.l0 k l0 a1 0
set_option maxHeartbeats 8000000 in
set_option maxRecDepth 100000 in
theorem laws_heldIntS.calls (k:Nat) (A0:Option Addr) (c0:Nat) (l0:List Int) (a1:Int) (r:Int) (w:World) (hr0:Kd.C (Kd.int .i64) w A0 l0.length l0) (hc0:l0.length≤c0) (h:laws_heldIntS.f k l0 a1=some r):
  Calls Try.prog 19 #[.slice A0 l0.length c0,.int .i64 a1] w fun e w'=>e= .returned (.int .i64 r)∧Drawn0 w w':=by
 have HR0:=Za hr0
 have HC0:=Za hc0
 clear hr0 hc0
 have H:(laws_heldIntS.l0 k l0 a1 0)=some r:=h
 clear h
 have H':=Za H
 clear H
 go_enter Try.func19,Try.ntmps19
 go_wp2
 go_loopg [1,5] k (fun kq v1 v5 w'=>∃(x1_1:Int) (x5_1:Int),v1= .int .i64 x1_1∧v5= .int .i64 x5_1∧Aside0 (laws_heldIntS.l0 kq l0 x1_1 x5_1=some r)∧Aside0 (kq≤k)∧Drawn0 w w')
 case atStart=>exact⟨(a1),(0),(by first|rfl|(simp;done)|(simp[*];done)),(by first|rfl|(simp;done)|(simp[*];done)),H',⟨Nat.le_refl _⟩,by repeat(first|exact Zz _|apply Ya)⟩
 case round=>
  clear H'
  obtain⟨x1_1,x5_1,rfl,rfl,HA,HK1,⟨m1,rfl⟩⟩:=hrel
  cases gk with
  |zero=>exact absurd HA.out (by simp[laws_heldIntS.l0])
  |succ k1=>
   have H:=HA.out
   clear HA
   simp only[laws_heldIntS.l0] at H
   by_cases c3:x5_1<(l0.length:Int)
   ·rw[if_pos c3] at H
    have c3b0:decide (x5_1<(l0.length:Int))=true:=Zx c3
    clear c3
    by_cases c4:0≤x5_1
    ·rw[if_pos c4] at H
     have c4b0:decide (0≤x5_1)=true:=Zx c4
     clear c4
     by_cases c5:(rd l0 x5_1)=x1_1
     ·rw[if_pos c5] at H
      have c5b0:((rd l0 x5_1)==x1_1)=true:=beq_iff_eq.mpr c5
      have c5b1:((rd l0 x5_1) != x1_1)=false:=bne_eq_false_iff_eq.mpr c5
      clear c5
      have H':=Za H
      clear H
      have p330:0≤(x5_1:Int):=Zv (by first|(with_reducible assumption)|assumption)
      have q330:x5_1<(l0.length:Int):=Zv (by first|(with_reducible assumption)|assumption)
      obtain⟨ad330,e330,hx330_0⟩:=Kd.at_int HR0.out x5_1 p330 q330
      cases e330
      replace p330:=eq_true p330
      replace q330:=eq_true q330
      go_wp2
      go_roundg k1
      case measure=>have:=HK1.out;omega
      case rel=>exact⟨(wrap64 (x1_1+1)),(wrap64 (x5_1+1)),(by first|rfl|(simp;done)|(simp[*];done)),(by first|rfl|(simp;done)|(simp[*];done)),H',⟨by have:=HK1.out;omega⟩,by repeat(first|exact Zz _|apply Ya)⟩
     ·rw[if_neg c5] at H
      have c5b0:((rd l0 x5_1)==x1_1)=false:=beq_eq_false_iff_ne.mpr c5
      have c5b1:((rd l0 x5_1) != x1_1)=true:=bne_iff_ne.mpr c5
      obtain rfl:=Zk H
      have p330:0≤(x5_1:Int):=Zv (by first|(with_reducible assumption)|assumption)
      have q330:x5_1<(l0.length:Int):=Zv (by first|(with_reducible assumption)|assumption)
      obtain⟨ad330,e330,hx330_0⟩:=Kd.at_int HR0.out x5_1 p330 q330
      cases e330
      replace p330:=eq_true p330
      replace q330:=eq_true q330
      go_wp2
      go_ret
      exact⟨by first|rfl|(simp;done)|(simp[*];done),by repeat(first|exact Zz _|apply Ya)⟩
    ·rw[if_neg c4] at H
     exact absurd H (by simp)
   ·rw[if_neg c3] at H
    have c3b0:decide (x5_1<(l0.length:Int))=false:=Yi c3
    clear c3
    obtain rfl:=Zk H
    go_wp2
    go_ret
    exact⟨by first|rfl|(simp;done)|(simp[*];done),by repeat(first|exact Zz _|apply Ya)⟩
def laws_heldEffect.f (k:Nat) (l0_0:List Int) (l0_1:List Int) (a0_2:Int) (a0_3:Int) (a1:Int):Option (Int):=(laws_heldIntS.f k l0_0 a1).bind fun t332=>(if t332<0 then (some (-1)) else ((laws_heldIntS.f k l0_1 t332).bind fun t333=>(if t333<0 then (some (-1)) else (some t333))))
set_option maxHeartbeats 8000000 in
set_option maxRecDepth 100000 in
theorem laws_heldEffect.calls (k:Nat) (A0_0:Option Addr) (c0_0:Nat) (l0_0:List Int) (A0_1:Option Addr) (c0_1:Nat) (l0_1:List Int) (a0_2:Int) (a0_3:Int) (a1:Int) (r:Int) (w:World) (hr0_0:Kd.C (Kd.int .i64) w A0_0 l0_0.length l0_0) (hc0_0:l0_0.length≤c0_0) (hr0_1:Kd.C (Kd.int .i64) w A0_1 l0_1.length l0_1) (hc0_1:l0_1.length≤c0_1) (h:laws_heldEffect.f k l0_0 l0_1 a0_2 a0_3 a1=some r):
  Calls Try.prog 16 #[.agg #[.slice A0_0 l0_0.length c0_0,.slice A0_1 l0_1.length c0_1,.int .i64 a0_2,.int .i64 a0_3],.int .i64 a1] w fun e w'=>e= .returned (.int .i64 r)∧Below w.heap.size w w':=by
 have hu28:=Try.underlying28
 have HR0_0:=Za hr0_0
 have HC0_0:=Za hc0_0
 clear hr0_0 hc0_0
 have HR0_1:=Za hr0_1
 have HC0_1:=Za hc0_1
 clear hr0_1 hc0_1
 have HB:=Za (Yh w.heap.size w)
 have H:((laws_heldIntS.f k l0_0 a1).bind fun t332=>(if t332<0 then (some (-1)) else ((laws_heldIntS.f k l0_1 t332).bind fun t333=>(if t333<0 then (some (-1)) else (some t333)))))=some r:=h
 clear h
 replace H:=Zl H
 obtain⟨t332,A30,H⟩:=H
 replace H:(if t332<0 then (some (-1)) else ((laws_heldIntS.f k l0_1 t332).bind fun t333=>(if t333<0 then (some (-1)) else (some t333))))=some r:=H
 have A3:=Za A30
 clear A30
 by_cases c4:t332<0
 ·rw[if_pos c4] at H
  have c4b0:decide (t332<0)=true:=Zx c4
  clear c4
  obtain rfl:=Zk H
  go_enter Try.func16,Try.ntmps16
  go_wp2_with (first|((with_reducible refine Zp (N:=2) rfl ?_);refine Zt ?hg (N:=2) ?hd (cs:= #[.slice A0_0 l0_0.length c0_0,.slice A0_1 l0_1.length c0_1,.int .i64 a0_2,.int .i64 a0_3]) (t:=28) ?hr ?_;(case hd=>rfl);(case hg=>rfl);(case hr=>first|(go_simp;done)|(go_simp;rfl));intro gb331 hg w5 hbox hb;have BK331:=Za (hbox);have GW331:=Za ((by rw[hg];exact(Zy z11_0):w.heap.size≤gb331));have GE331:=Za ((by rw[hg];exact(Zy z11_0):w.heap.size≤gb331));replace HB:=Za (Zj z11_0 hb);clear hb hbox hg;have hcz6_0:w5.cell? ⟨gb331,0,none⟩=some (.slice A0_0 l0_0.length c0_0):=(Zb BK331.out 0).trans rfl;have hcz6_1:w5.cell? ⟨gb331,1,none⟩=some (.slice A0_1 l0_1.length c0_1):=(Zb BK331.out 1).trans rfl;have hcz6_2:w5.cell? ⟨gb331,2,none⟩=some (.int .i64 a0_2):=(Zb BK331.out 2).trans rfl;have hcz6_3:w5.cell? ⟨gb331,3,none⟩=some (.int .i64 a0_3):=(Zb BK331.out 3).trans rfl;have hfz6_0:=Zc BK331.out 0;have hfz6_1:=Zc BK331.out 1;have hfz6_2:=Zc BK331.out 2;have hfz6_3:=Zc BK331.out 3)|((first|((with_reducible refine gate_callee (f:=19) rfl ?_);refine goesL_ (some 8) rfl rfl Try.func19 (by kernel_rfl) rfl #[.slice A0_0 l0_0.length c0_0,.int .i64 a1] rfl z11_1 ?_;(with_reducible refine(laws_heldIntS.calls k _ _ l0_0 a1 t332 _ ?side1 ?side2 A3.out).mono ?_))|(go_at_call 19;(with_reducible refine(laws_heldIntS.calls k _ _ l0_0 a1 t332 _ ?side1 ?side2 A3.out).mono ?_)));(case side1=>exact z11_2);(case side2=>exact HC0_0.out);rintro e w' ⟨rfl,⟨nd,rfl⟩⟩;(first|refine⟨_,rfl,?_⟩|skip)))
  go_ret
  exact⟨by first|rfl|(simp[errW_none,errW_some]<;>rfl)|(simp[*,errW_none,errW_some]<;>rfl)|(simp[*,errW_none,errW_some,i64_w];done),by repeat(first|(with_reducible first|exact HB.out|apply Zh|apply Zf|apply Ze|refine Zd ?_ GE331.out)|exact HB.out)⟩
 ·rw[if_neg c4] at H
  have c4b0:decide (t332<0)=false:=Yi c4
  clear c4
  replace H:=Zl H
  obtain⟨t333,A70,H⟩:=H
  replace H:(if t333<0 then (some (-1)) else (some t333))=some r:=H
  have A7:=Za A70
  clear A70
  by_cases c8:t333<0
  ·rw[if_pos c8] at H
   have c8b0:decide (t333<0)=true:=Zx c8
   clear c8
   obtain rfl:=Zk H
   go_enter Try.func16,Try.ntmps16
   go_wp2_with (first|((with_reducible refine Zp (N:=2) rfl ?_);refine Zt ?hg (N:=2) ?hd (cs:= #[.slice A0_0 l0_0.length c0_0,.slice A0_1 l0_1.length c0_1,.int .i64 a0_2,.int .i64 a0_3]) (t:=28) ?hr ?_;(case hd=>rfl);(case hg=>rfl);(case hr=>first|(go_simp;done)|(go_simp;rfl));intro gb331 hg w9 hbox hb;have BK331:=Za (hbox);have GW331:=Za ((by rw[hg];exact(Zy z11_0):w.heap.size≤gb331));have GE331:=Za ((by rw[hg];exact(Zy z11_0):w.heap.size≤gb331));replace HB:=Za (Zj z11_0 hb);clear hb hbox hg;have hcz10_0:w9.cell? ⟨gb331,0,none⟩=some (.slice A0_0 l0_0.length c0_0):=(Zb BK331.out 0).trans rfl;have hcz10_1:w9.cell? ⟨gb331,1,none⟩=some (.slice A0_1 l0_1.length c0_1):=(Zb BK331.out 1).trans rfl;have hcz10_2:w9.cell? ⟨gb331,2,none⟩=some (.int .i64 a0_2):=(Zb BK331.out 2).trans rfl;have hcz10_3:w9.cell? ⟨gb331,3,none⟩=some (.int .i64 a0_3):=(Zb BK331.out 3).trans rfl;have hfz10_0:=Zc BK331.out 0;have hfz10_1:=Zc BK331.out 1;have hfz10_2:=Zc BK331.out 2;have hfz10_3:=Zc BK331.out 3)|((first|((with_reducible refine gate_callee (f:=19) rfl ?_);refine goesL_ (some 8) rfl rfl Try.func19 (by kernel_rfl) rfl #[.slice A0_0 l0_0.length c0_0,.int .i64 a1] rfl z11_1 ?_;(with_reducible refine(laws_heldIntS.calls k _ _ l0_0 a1 t332 _ ?side1 ?side2 A3.out).mono ?_))|(go_at_call 19;(with_reducible refine(laws_heldIntS.calls k _ _ l0_0 a1 t332 _ ?side1 ?side2 A3.out).mono ?_)));(case side1=>exact z11_2);(case side2=>exact HC0_0.out);rintro e w' ⟨rfl,⟨nd,rfl⟩⟩;(first|refine⟨_,rfl,?_⟩|skip))|((first|((with_reducible refine gate_callee (f:=19) rfl ?_);refine goesL_ (some 14) rfl rfl Try.func19 (by kernel_rfl) rfl #[.slice A0_1 l0_1.length c0_1,.int .i64 t332] rfl z11_1 ?_;(with_reducible refine(laws_heldIntS.calls k _ _ l0_1 t332 t333 _ ?side1 ?side2 A7.out).mono ?_))|(go_at_call 19;(with_reducible refine(laws_heldIntS.calls k _ _ l0_1 t332 t333 _ ?side1 ?side2 A7.out).mono ?_)));(case side1=>exact z11_3);(case side2=>exact HC0_1.out);rintro e w' ⟨rfl,⟨nd,rfl⟩⟩;(first|refine⟨_,rfl,?_⟩|skip)))
   go_ret
   exact⟨by first|rfl|(simp[errW_none,errW_some]<;>rfl)|(simp[*,errW_none,errW_some]<;>rfl)|(simp[*,errW_none,errW_some,i64_w];done),by repeat(first|(with_reducible first|exact HB.out|apply Zh|apply Zf|apply Ze|refine Zd ?_ GE331.out)|exact HB.out)⟩
  ·rw[if_neg c8] at H
   have c8b0:decide (t333<0)=false:=Yi c8
   clear c8
   obtain rfl:=Zk H
   go_enter Try.func16,Try.ntmps16
   go_wp2_with (first|((with_reducible refine Zp (N:=2) rfl ?_);refine Zt ?hg (N:=2) ?hd (cs:= #[.slice A0_0 l0_0.length c0_0,.slice A0_1 l0_1.length c0_1,.int .i64 a0_2,.int .i64 a0_3]) (t:=28) ?hr ?_;(case hd=>rfl);(case hg=>rfl);(case hr=>first|(go_simp;done)|(go_simp;rfl));intro gb331 hg w11 hbox hb;have BK331:=Za (hbox);have GW331:=Za ((by rw[hg];exact(Zy z11_0):w.heap.size≤gb331));have GE331:=Za ((by rw[hg];exact(Zy z11_0):w.heap.size≤gb331));replace HB:=Za (Zj z11_0 hb);clear hb hbox hg;have hcz12_0:w11.cell? ⟨gb331,0,none⟩=some (.slice A0_0 l0_0.length c0_0):=(Zb BK331.out 0).trans rfl;have hcz12_1:w11.cell? ⟨gb331,1,none⟩=some (.slice A0_1 l0_1.length c0_1):=(Zb BK331.out 1).trans rfl;have hcz12_2:w11.cell? ⟨gb331,2,none⟩=some (.int .i64 a0_2):=(Zb BK331.out 2).trans rfl;have hcz12_3:w11.cell? ⟨gb331,3,none⟩=some (.int .i64 a0_3):=(Zb BK331.out 3).trans rfl;have hfz12_0:=Zc BK331.out 0;have hfz12_1:=Zc BK331.out 1;have hfz12_2:=Zc BK331.out 2;have hfz12_3:=Zc BK331.out 3)|((first|((with_reducible refine gate_callee (f:=19) rfl ?_);refine goesL_ (some 8) rfl rfl Try.func19 (by kernel_rfl) rfl #[.slice A0_0 l0_0.length c0_0,.int .i64 a1] rfl z11_1 ?_;(with_reducible refine(laws_heldIntS.calls k _ _ l0_0 a1 t332 _ ?side1 ?side2 A3.out).mono ?_))|(go_at_call 19;(with_reducible refine(laws_heldIntS.calls k _ _ l0_0 a1 t332 _ ?side1 ?side2 A3.out).mono ?_)));(case side1=>exact z11_2);(case side2=>exact HC0_0.out);rintro e w' ⟨rfl,⟨nd,rfl⟩⟩;(first|refine⟨_,rfl,?_⟩|skip))|((first|((with_reducible refine gate_callee (f:=19) rfl ?_);refine goesL_ (some 14) rfl rfl Try.func19 (by kernel_rfl) rfl #[.slice A0_1 l0_1.length c0_1,.int .i64 t332] rfl z11_1 ?_;(with_reducible refine(laws_heldIntS.calls k _ _ l0_1 t332 t333 _ ?side1 ?side2 A7.out).mono ?_))|(go_at_call 19;(with_reducible refine(laws_heldIntS.calls k _ _ l0_1 t332 t333 _ ?side1 ?side2 A7.out).mono ?_)));(case side1=>exact z11_3);(case side2=>exact HC0_1.out);rintro e w' ⟨rfl,⟨nd,rfl⟩⟩;(first|refine⟨_,rfl,?_⟩|skip)))
   go_ret
   exact⟨by first|rfl|(simp[errW_none,errW_some]<;>rfl)|(simp[*,errW_none,errW_some]<;>rfl)|(simp[*,errW_none,errW_some,i64_w];done),by repeat(first|(with_reducible first|exact HB.out|apply Zh|apply Zf|apply Ze|refine Zd ?_ GE331.out)|exact HB.out)⟩
end Go.Proofs.Ytlolppaddphpoaa.G
