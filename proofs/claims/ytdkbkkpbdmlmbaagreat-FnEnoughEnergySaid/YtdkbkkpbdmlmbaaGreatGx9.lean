/- Functions of the program as plain Lean functions, and that each call comes to its function's answer; written by a program of the session. No condition. -/
import Derived.Test.YtdkbkkpbdmlmbaaGreatGx0
import Derived.Test.YtdkbkkpbdmlmbaaGreatGx3
import Derived.Test.YtdkbkkpbdmlmbaaGreatGx5
import Derived.Test.YtdkbkkpbdmlmbaaGreatGx6
import Derived.Test.YtdkbkkpbdmlmbaaGreatGx8
namespace Go.Proofs.YtdkbkkpbdmlmbaaGreat.G
open Go.RowKit Go.Proofs.YtdkbkkpbdmlmbaaGreatW.PrintWords Go.Proofs.YtdkbkkpbdmlmbaaGreatW.PrintLast Go.Proofs.YtdkbkkpbdmlmbaaGreatW.PrintMore
attribute [local go_sem] max2_int min2_int max_two min_two max_three min_three max_four min_four   -- for this text's walks alone
set_option linter.unusedVariables false
set_option linter.unusedSimpArgs false
theorem z9_0 {P:Prop} (h:P:=by repeat(first|(with_reducible first|exact HB.out|apply Zh|apply Zf|apply Ze)|exact HB.out)):P:=h
theorem z9_1 {P:Prop} (h:P:=by repeat(first|(with_reducible first|exact HB.out|apply Zh|apply Zf|apply Ze|refine Zd ?_ GE551.out|refine Zd ?_ GE552.out)|exact HB.out)):P:=h
theorem z9_2 {P:Prop} (h:P:=by(with_reducible repeat(first|refine blk_drewN ?_ _|refine blk_drew ?_|refine blk_alloc ?_ _));exact BK551.out):P:=h
theorem z9_3 {P:Prop} (h:P:=by repeat(first|(with_reducible first|exact HB.out|apply Zh|apply Zf|apply Ze|refine Zd ?_ GE535.out)|exact HB.out)):P:=h
theorem z9_4 {P:Prop} (h:P:=by rw[hw];exact(by(with_reducible repeat(first|refine blk_drewN ?_ _|refine blk_drew ?_|refine blk_alloc ?_ _));refine blk_far ?_ NB551_552.out _;(with_reducible repeat(first|refine blk_drewN ?_ _|refine blk_drew ?_|refine blk_alloc ?_ _));refine blk_far ?_ NB551_552.out _;(with_reducible repeat(first|refine blk_drewN ?_ _|refine blk_drew ?_|refine blk_alloc ?_ _));refine blk_far ?_ NB551_552.out _;(with_reducible repeat(first|refine blk_drewN ?_ _|refine blk_drew ?_|refine blk_alloc ?_ _));refine blk_far ?_ NB551_552.out _;(with_reducible repeat(first|refine blk_drewN ?_ _|refine blk_drew ?_|refine blk_alloc ?_ _));exact BK551.out)):P:=h
theorem z9_5 {P:Prop} (h:P:=by first|(go_simp;done)|(go_simp;rfl)):P:=h
theorem z9_6 {P:Prop} (h:P:=by repeat(first|(with_reducible first|exact HB.out|apply Zh|apply Zf|apply Ze|refine Zd ?_ GE551.out)|exact HB.out)):P:=h
theorem z9_7 {P:Prop} (h:P:=by(try simp only[Ys,List.map_cons,List.map_nil]);first|done|rfl|(simp only[List.length_drop,List.length_take];rfl)):P:=h
theorem z9_8 {P:Prop} (h:P:=by repeat(first|exact(Yl HR1.out HB.out)|(with_reducible refine Yi ?_ _)|(with_reducible refine Yg ?_ _)|(with_reducible refine Yj ?_))):P:=h
theorem z9_9 {P:Prop} (h:P:=by repeat(first|exact(Yl HR0_0.out HB.out)|(with_reducible refine Yi ?_ _)|(with_reducible refine Yg ?_ _)|(with_reducible refine Yj ?_))):P:=h
theorem z9_10 {P:Prop} (h:P:=by repeat(first|exact(Yl HR2.out HB.out)|(with_reducible refine Yi ?_ _)|(with_reducible refine Yg ?_ _)|(with_reducible refine Yj ?_))):P:=h
theorem z9_11 {P:Prop} (h:P:=by rw[hw];exact(by(with_reducible repeat(first|refine blk_drewN ?_ _|refine blk_drew ?_|refine blk_alloc ?_ _));refine blk_put (cs:= #[.slice none 0 0,.int .i64 0,.slice none 0 0,.int .i64 0]) ?_ 3 _ rfl;(with_reducible repeat(first|refine blk_drewN ?_ _|refine blk_drew ?_|refine blk_alloc ?_ _));refine blk_put (cs:= #[.slice none 0 0,.int .i64 0,.slice none 0 0,.int .i64 0]) ?_ 2 _ rfl;(with_reducible repeat(first|refine blk_drewN ?_ _|refine blk_drew ?_|refine blk_alloc ?_ _));refine blk_put (cs:= #[.slice none 0 0,.int .i64 0,.slice none 0 0,.int .i64 0]) ?_ 1 _ rfl;(with_reducible repeat(first|refine blk_drewN ?_ _|refine blk_drew ?_|refine blk_alloc ?_ _));refine blk_put (cs:= #[.slice none 0 0,.int .i64 0,.slice none 0 0,.int .i64 0]) ?_ 0 _ rfl;(with_reducible repeat(first|refine blk_drewN ?_ _|refine blk_drew ?_|refine blk_alloc ?_ _));exact BK552.out)):P:=h
theorem z9_12 {P:Prop} (h:P:=by(with_reducible repeat(first|refine blk_drewN ?_ _|refine blk_drew ?_|refine blk_alloc ?_ _));exact BK552.out):P:=h
theorem z9_13 {P:Prop} (h:P:=by(with_reducible repeat(first|refine blk_drewN ?_ _|refine blk_drew ?_|refine blk_alloc ?_ _));exact BK535.out):P:=h
theorem z9_14 {P:Prop} (h:P:=by repeat(first|exact Zx _ _|apply Zf|apply Ze|apply Zh)):P:=h
theorem z9_15 {P:Prop} (h:P:=by kernel_rfl):P:=h
theorem z9_16 {P:Prop} (h:P:=by first|rfl|(simp;done)|(simp[*];done)):P:=h
theorem z9_17 {P:Prop} (h:P:=by rw[hg];exact(Yh z9_0)):P:=h
theorem z9_18 {P:Prop} (h:P:=by rw[hg];exact Nat.ne_of_lt (blk_lt (g:=gb551) (o:= .cells #[.slice A0_0 l0_0.length c0_0] 26 (0,0)) z9_2)):P:=h
theorem z9_19 {P:Prop} (h:P:=by rw[hg];exact Nat.ne_of_gt (blk_lt (g:=gb551) (o:= .cells #[.slice A0_0 l0_0.length c0_0] 26 (0,0)) z9_2)):P:=h
def impl_NeedsEnergy.f (k:Nat) (l0_0:List (S75)) (l1:List Int) (l2:List Int) (a3:Int):Option (Int):=(impl_isBootAt.f k l0_0 l1 l2 a3).bind fun t536=>(if t536=true then ((impl_RecoveryWrites.f k l1).bind fun t537=>((impl_Recovered.f k l1).bind fun t540=>((impl_traceOf.f k l0_0 t540 l2 a3).bind fun bt543=>((impl_TraceCost.f k bt543.1 bt543.2).bind fun t549=>(some (wrap64 ((wrap64 (3*(t537.length:Int)))+t549))))))) else (some (-1)))
def impl_NeedsEnergy.T3:Bool×List (List Nat×List Nat):=(true,[([],[]),([0],[0]),([1],[1]),([2],[2]),([],[]),([],[]),([5,1],[5]),([],[]),([],[]),([4,6,7,8,6],[4,6,7,8]),([9,9],[9]),([3,10],[3,10]),([11,10,0,1,2,3,4,5,6,7,8,9,10,11],[11])])
def impl_NeedsEnergy.B3:List Nat:=[0,1,3,7,0,0,35,0,0,499,1011,2047,4095]
theorem impl_NeedsEnergy.tab3:rtab .any (opsOf Tryz.f9 3)=impl_NeedsEnergy.T3:=by kernel_rfl
theorem impl_NeedsEnergy.bits3:waitsOk impl_NeedsEnergy.T3.2 impl_NeedsEnergy.B3=true:=by kernel_rfl
set_option maxHeartbeats 8000000 in
set_option maxRecDepth 100000 in
theorem impl_NeedsEnergy.calls (k:Nat) (A0_0:Option Addr) (c0_0:Nat) (l0_0:List (S75)) (A1:Option Addr) (c1:Nat) (l1:List Int) (A2:Option Addr) (c2:Nat) (l2:List Int) (a3:Int) (r:Int) (w:World) (hr0_0:Kd.C k75 w A0_0 l0_0.length l0_0) (hc0_0:l0_0.length≤c0_0) (hr1:Kd.C (Kd.int .i64) w A1 l1.length l1) (hc1:l1.length≤c1) (hr2:Kd.C (Kd.int .i64) w A2 l2.length l2) (hc2:l2.length≤c2) (h:impl_NeedsEnergy.f k l0_0 l1 l2 a3=some r):
  Calls Tryz.prog 9 #[.agg #[.slice A0_0 l0_0.length c0_0],.slice A1 l1.length c1,.slice A2 l2.length c2,.int .i64 a3] w fun e w'=>e= .returned (.int .i64 r)∧Below w.heap.size w w':=by
 have hu26:=Tryz.underlying26
 have HR0_0:=Za hr0_0
 have HC0_0:=Za hc0_0
 clear hr0_0 hc0_0
 have HR1:=Za hr1
 have HC1:=Za hc1
 clear hr1 hc1
 have HR2:=Za hr2
 have HC2:=Za hc2
 clear hr2 hc2
 have HB:=Za (Zx w.heap.size w)
 have H:((impl_isBootAt.f k l0_0 l1 l2 a3).bind fun t536=>(if t536=true then ((impl_RecoveryWrites.f k l1).bind fun t537=>((impl_Recovered.f k l1).bind fun t540=>((impl_traceOf.f k l0_0 t540 l2 a3).bind fun bt543=>((impl_TraceCost.f k bt543.1 bt543.2).bind fun t549=>(some (wrap64 ((wrap64 (3*(t537.length:Int)))+t549))))))) else (some (-1))))=some r:=h
 clear h
 replace H:=Zg H
 obtain⟨t536,A50,H⟩:=H
 replace H:(if t536=true then ((impl_RecoveryWrites.f k l1).bind fun t537=>((impl_Recovered.f k l1).bind fun t540=>((impl_traceOf.f k l0_0 t540 l2 a3).bind fun bt543=>((impl_TraceCost.f k bt543.1 bt543.2).bind fun t549=>(some (wrap64 ((wrap64 (3*(t537.length:Int)))+t549))))))) else (some (-1)))=some r:=H
 have A5:=Za A50
 clear A50
 by_cases c6:t536=true
 ·subst c6
  rw[if_pos rfl] at H
  replace H:=Zg H
  obtain⟨t537,A70,H⟩:=H
  replace H:((impl_Recovered.f k l1).bind fun t540=>((impl_traceOf.f k l0_0 t540 l2 a3).bind fun bt543=>((impl_TraceCost.f k bt543.1 bt543.2).bind fun t549=>(some (wrap64 ((wrap64 (3*(t537.length:Int)))+t549))))))=some r:=H
  have A7:=Za A70
  clear A70
  replace H:=Zg H
  obtain⟨t540,A80,H⟩:=H
  replace H:((impl_traceOf.f k l0_0 t540 l2 a3).bind fun bt543=>((impl_TraceCost.f k bt543.1 bt543.2).bind fun t549=>(some (wrap64 ((wrap64 (3*(t537.length:Int)))+t549)))))=some r:=H
  have A8:=Za A80
  clear A80
  replace H:=Zg H
  obtain⟨⟨t543,t546⟩,A90,H⟩:=H
  replace H:((impl_TraceCost.f k t543 t546).bind fun t549=>(some (wrap64 ((wrap64 (3*(t537.length:Int)))+t549))))=some r:=H
  have A9:=Za A90
  clear A90
  replace H:=Zg H
  obtain⟨t549,A100,H⟩:=H
  replace H:(some (wrap64 ((wrap64 (3*(t537.length:Int)))+t549)))=some r:=H
  have A10:=Za A100
  clear A100
  obtain rfl:=Zk H
  go_enter Tryz.func9,Tryz.ntmps9
  try go_wp2_with (first|((with_reducible refine Zp (N:=4) rfl ?_);refine Zr ?hg (N:=4) ?hd (cs:= #[.slice A0_0 l0_0.length c0_0]) (t:=26) ?hr ?_;(case hd=>rfl);(case hg=>rfl);(case hr=>exact z9_5);intro gb535 hg w11 hbox hb;have BK535:=Za (hbox);have GW535:=Za ((z9_17:w.heap.size≤gb535));have GE535:=Za ((z9_17:w.heap.size≤gb535));replace HB:=Za (Zj z9_0 hb);clear hb hbox hg;have hcz12_0:w11.cell? ⟨gb535,0,none⟩=some (.slice A0_0 l0_0.length c0_0):=(Zb BK535.out 0).trans rfl;have hfz12_0:=Zc BK535.out 0)|((first|((with_reducible refine gate_callee (f:=25) rfl ?_);refine goesL_ (some 13) rfl rfl Tryz.func25 z9_15 rfl #[.agg #[.slice A0_0 l0_0.length c0_0],.slice A1 l1.length c1,.slice A2 l2.length c2,.int .i64 a3] rfl z9_7 ?_;(with_reducible refine(impl_isBootAt.calls k _ _ l0_0 _ _ l1 _ _ l2 a3 true _ ?side1 ?side2 ?side3 ?side4 ?side5 ?side6 A5.out).mono ?_))|(go_at_call 25;(with_reducible refine(impl_isBootAt.calls k _ _ l0_0 _ _ l1 _ _ l2 a3 true _ ?side1 ?side2 ?side3 ?side4 ?side5 ?side6 A5.out).mono ?_)));(case side1=>exact z9_9);(case side2=>exact HC0_0.out);(case side3=>exact z9_8);(case side4=>exact HC1.out);(case side5=>exact z9_10);(case side6=>exact HC2.out);rintro e w13 ⟨rfl,hb⟩;(first|refine⟨_,rfl,?_⟩|skip);replace BK535:=Za (Zi (g:=gb535) (o:= .cells #[.slice A0_0 l0_0.length c0_0] 26 (0,0)) z9_13 hb);replace HB:=Za (Zj z9_3 hb);(try clear hb);(try clear hb2);(try clear hk);(try clear hi)))
  have n0_:=Za (blk_drew BK535.out)
  have n1_:=Za (Ze HB.out)
  clear BK535
  clear HB
  have BK535:=n0_
  have HB:=n1_
  clear n0_ n1_
  refine start_ (n:=13) (S:=fun w'=>w'.cell? ⟨gb535,0,none⟩=some (.slice A0_0 l0_0.length c0_0)) (ds:=[]) #[false,false,false,false,false,false,false,false,false,false,false,false,false] z9_15 rfl rfl ((Zb BK535.out 0).trans rfl) (fun hHeld=> ?_);refine with_tabW impl_NeedsEnergy.tab3 impl_NeedsEnergy.bits3 (fun HT_ HW_=> ?_)
  generalize w13.drew=w14 at BK535 HB hHeld ⊢
  refine pure_ (i:=0) (N:=some 15) (v:= ?_) (a':= ?_) #[true,false,false,false,false,false,false,false,false,false,false,false,false] rfl rfl (any_of HT_.out z9_15) (fun _ _ _ h=>h) (Or.inl ⟨by rfl,?_⟩) ?_ ?_
  rotate_left
  ·intro w'
   go_simp
   with_reducible rfl
  rotate_left
  ·simp only[Act.put,Zy,Ya,Yb,i64_w,i32_w]
   rfl
  refine pure_ (i:=5) (N:=some 20) (v:= ?_) (a':= ?_) #[true,false,false,false,false,true,false,false,false,false,false,false,false] rfl rfl (any_of HT_.out z9_15) (fun _ _ _ h=>h) (Or.inl ⟨by rfl,?_⟩) ?_ ?_
  rotate_left
  ·intro w'
   go_simp
   with_reducible rfl
  rotate_left
  ·simp only[Act.put,Zy,Ya,Yb,i64_w,i32_w]
   rfl
  refine pure_ (i:=7) (N:=some 22) (v:= ?_) (a':= ?_) #[true,false,false,false,false,true,false,true,false,false,false,false,false] rfl rfl (any_of HT_.out z9_15) (fun _ _ _ h=>h) (Or.inl ⟨by rfl,?_⟩) ?_ ?_
  rotate_left
  ·intro w'
   go_simp
   with_reducible rfl
  rotate_left
  ·simp only[Act.put,Zy,Ya,Yb,i64_w,i32_w]
   rfl
  refine pure_ (i:=8) (N:=some 23) (v:= ?_) (a':= ?_) #[true,false,false,false,false,true,false,true,true,false,false,false,false] rfl rfl (any_of HT_.out z9_15) (fun _ _ _ h=>h) (Or.inl ⟨by rfl,?_⟩) ?_ ?_
  rotate_left
  ·intro w'
   go_simp
   with_reducible rfl
  rotate_left
  ·simp only[Act.put,Zy,Ya,Yb,i64_w,i32_w]
   rfl
  refine take_ (i:=4) (N:=some 19) (v:= ?_) (a':= ?_) #[true,false,false,false,true,true,false,true,true,false,false,false,false] rfl rfl (take_ofW HT_.out HW_.out z9_15) (fun _ _ _ h=>h) (Or.inl ⟨by rfl,?_⟩) hHeld ?_ ?_
  rotate_left
  ·intro w' s0
   go_simp
   with_reducible rfl
  rotate_left
  ·simp only[Act.put,Zy,Ya,Yb,i64_w,i32_w]
   rfl
  refine one_ (i:=1) (N:=some 16) #[true,true,false,false,true,true,false,true,true,false,false,false,false] rfl rfl (one_of HT_.out z9_15) (by decide) (fun K hK=> ?_)
  refine goes_ Tryz.func26 z9_15 rfl #[.slice A1 l1.length c1] (by rfl) rfl rfl z9_7 ?_
  with_reducible refine(impl_RecoveryWrites.calls k _ _ l1 t537 _ ?side1 ?side2 A7.out).mono ?_
  (case side1=>exact z9_8)
  (case side2=>exact HC1.out)
  rintro e w15 ⟨v538,rfl,ho0,hb⟩
  refine⟨_,rfl,?_⟩
  have n0_:=Za (Yr ho0 (Yh z9_3))
  have n1_:=Za (Zi (g:=gb535) (o:= .cells #[.slice A0_0 l0_0.length c0_0] 26 (0,0)) z9_13 hb)
  have n2_:=Za (Zj z9_3 hb)
  clear BK535
  clear HB
  have HO539:=n0_
  have BK535:=n1_
  have HB:=n2_
  clear n0_ n1_ n2_
  (try clear hb)
  (try clear hb2)
  (try clear hk)
  (try clear hi)
  (try clear ho0)
  obtain⟨Ao16,co16,eo16⟩:=Ym HO539.out
  (first|subst eo16|(injection eo16 with f1_ f2_ f3_;have f4_:=f1_.symm;have f5_:=f3_.symm;clear f1_ f2_ f3_;subst f4_;subst f5_))
  refine hK.out _ _ ((Zb BK535.out 0).trans rfl) (fun hHeld=> ?_)
  clear hK K
  refine norm_ (a':= ?_) ?_ ?_
  rotate_left
  ·show Act.put _ (some 16) _=_
   simp only[Act.put,Zy,Ya,Yb,i64_w,i32_w]
   rfl
  refine pure_ (i:=2) (N:=some 17) (v:= ?_) (a':= ?_) #[true,true,true,false,true,true,false,true,true,false,false,false,false] rfl rfl (any_of HT_.out z9_15) (fun _ _ _ h=>h) (Or.inl ⟨by rfl,?_⟩) ?_ ?_
  rotate_left
  ·intro w'
   go_simp
   with_reducible rfl
  rotate_left
  ·simp only[Act.put,Zy,Ya,Yb,i64_w,i32_w]
   rfl
  refine pure_ (i:=3) (N:=some 18) (v:= ?_) (a':= ?_) #[true,true,true,true,true,true,false,true,true,false,false,false,false] rfl rfl (any_of HT_.out z9_15) (fun _ _ _ h=>h) (Or.inl ⟨by rfl,?_⟩) ?_ ?_
  rotate_left
  ·intro w'
   go_simp
   with_reducible rfl
  rotate_left
  ·simp only[Act.put,Zy,Ya,Yb,i64_w,i32_w]
   rfl
  refine one_ (i:=6) (N:=some 21) #[true,true,true,true,true,true,true,true,true,false,false,false,false] rfl rfl (one_of HT_.out z9_15) (by decide) (fun K hK=> ?_)
  refine goes_ Tryz.func29 z9_15 rfl #[.slice A1 l1.length c1] (by rfl) rfl rfl z9_7 ?_
  with_reducible refine(impl_Recovered.calls k _ _ l1 t540 _ ?side1 ?side2 A8.out).mono ?_
  (case side1=>exact z9_8)
  (case side2=>exact HC1.out)
  rintro e w17 ⟨v541,rfl,ho0,hb⟩
  refine⟨_,rfl,?_⟩
  have n0_:=Za (Kd.R_below (by(with_reducible repeat(first|apply Zo|apply Zm|apply Zn));exact HO539.out) hb)
  have n1_:=Za (Yr ho0 (Yh z9_3))
  have n2_:=Za (Zi (g:=gb535) (o:= .cells #[.slice A0_0 l0_0.length c0_0] 26 (0,0)) z9_13 hb)
  have n3_:=Za (Zj z9_3 hb)
  clear HO539
  clear BK535
  clear HB
  have HO539:=n0_
  have HO542:=n1_
  have BK535:=n2_
  have HB:=n3_
  clear n0_ n1_ n2_ n3_
  (try clear hb)
  (try clear hb2)
  (try clear hk)
  (try clear hi)
  (try clear ho0)
  obtain⟨Ao18,co18,eo18⟩:=Ym HO542.out
  (first|subst eo18|(injection eo18 with f1_ f2_ f3_;have f4_:=f1_.symm;have f5_:=f3_.symm;clear f1_ f2_ f3_;subst f4_;subst f5_))
  refine hK.out _ _ ((Zb BK535.out 0).trans rfl) (fun hHeld=> ?_)
  clear hK K
  refine norm_ (a':= ?_) ?_ ?_
  rotate_left
  ·show Act.put _ (some 21) _=_
   simp only[Act.put,Zy,Ya,Yb,i64_w,i32_w]
   rfl
  refine one_ (i:=9) (N:=some 24) #[true,true,true,true,true,true,true,true,true,true,false,false,false] rfl rfl (one_of HT_.out z9_15) (by decide) (fun K hK=> ?_)
  refine goes_ Tryz.func28 z9_15 rfl #[.agg #[.slice A0_0 l0_0.length c0_0],.slice Ao18 t540.length co18,.slice A2 l2.length c2,.int .i64 a3] (by rfl) rfl rfl z9_7 ?_
  with_reducible refine(impl_traceOf.calls k _ _ l0_0 _ _ t540 _ _ l2 a3 t543 t546 _ ?side1 ?side2 ?side3 ?side4 ?side5 ?side6 A9.out).mono ?_
  (case side1=>exact z9_9)
  (case side2=>exact HC0_0.out)
  (case side3=>repeat(first|exact(Yp HO542.out).2.2|(with_reducible refine Yi ?_ _)|(with_reducible refine Yg ?_ _)|(with_reducible refine Yj ?_)))
  (case side4=>exact(Yp HO542.out).2.1)
  (case side5=>exact z9_10)
  (case side6=>exact HC2.out)
  rintro e w19 ⟨v544,v547,rfl,ho0,ho1,hb⟩
  refine⟨_,rfl,?_⟩
  have n0_:=Za (Kd.R_below (by(with_reducible repeat(first|apply Zo|apply Zm|apply Zn));exact HO539.out) hb)
  have n1_:=Za (Kd.R_elder' (by(with_reducible repeat(first|apply Zo|apply Zm|apply Zn));exact HO542.out) (Yo ho1) hb)
  have n2_:=Za (Yr ho0 (Yh z9_3))
  have n3_:=Za (Yr (Kd.R_new' ho1 (Kd.R_lt (by(with_reducible repeat(first|apply Zo|apply Zm|apply Zn));exact HO542.out))) (Yh z9_3))
  have n4_:=Za (Zi (g:=gb535) (o:= .cells #[.slice A0_0 l0_0.length c0_0] 26 (0,0)) z9_13 hb)
  have n5_:=Za (Zj z9_3 hb)
  clear HO539
  clear HO542
  clear BK535
  clear HB
  have HO539:=n0_
  have HO542:=n1_
  have HO545:=n2_
  have HO548:=n3_
  have BK535:=n4_
  have HB:=n5_
  clear n0_ n1_ n2_ n3_ n4_ n5_
  (try clear hb)
  (try clear hb2)
  (try clear hk)
  (try clear hi)
  (try clear ho0)
  (try clear ho1)
  obtain⟨Ao20,co20,eo20⟩:=Ym HO545.out
  (first|subst eo20|(injection eo20 with f1_ f2_ f3_;have f4_:=f1_.symm;have f5_:=f3_.symm;clear f1_ f2_ f3_;subst f4_;subst f5_))
  obtain⟨Ao21,co21,eo21⟩:=Ym HO548.out
  (first|subst eo21|(injection eo21 with f1_ f2_ f3_;have f4_:=f1_.symm;have f5_:=f3_.symm;clear f1_ f2_ f3_;subst f4_;subst f5_))
  refine hK.out _ _ ((Zb BK535.out 0).trans rfl) (fun hHeld=> ?_)
  clear hK K
  refine norm_ (a':= ?_) ?_ ?_
  rotate_left
  ·show Act.put _ (some 24) _=_
   simp only[Act.put,Zy,Ya,Yb,i64_w,i32_w]
   rfl
  refine one_ (i:=10) (N:=some 25) #[true,true,true,true,true,true,true,true,true,true,true,false,false] rfl rfl (one_of HT_.out z9_15) (by decide) (fun K hK=> ?_)
  refine goes_ Tryz.func27 z9_15 rfl #[.agg #[.slice Ao20 t543.length co20,.slice Ao21 t546.length co21]] (by rfl) rfl rfl z9_7 ?_
  with_reducible refine(impl_TraceCost.calls k _ _ t543 _ _ t546 t549 _ ?side1 ?side2 ?side3 ?side4 A10.out).mono ?_
  (case side1=>repeat(first|exact(Yp HO545.out).2.2|(with_reducible refine Yi ?_ _)|(with_reducible refine Yg ?_ _)|(with_reducible refine Yj ?_)))
  (case side2=>exact(Yp HO545.out).2.1)
  (case side3=>repeat(first|exact(Yp HO548.out).2.2|(with_reducible refine Yi ?_ _)|(with_reducible refine Yg ?_ _)|(with_reducible refine Yj ?_)))
  (case side4=>exact(Yp HO548.out).2.1)
  rintro e w22 ⟨rfl,hb⟩
  refine⟨_,rfl,?_⟩
  have n0_:=Za (Kd.R_below (by(with_reducible repeat(first|apply Zo|apply Zm|apply Zn));exact HO539.out) hb)
  have n1_:=Za (Kd.R_below (by(with_reducible repeat(first|apply Zo|apply Zm|apply Zn));exact HO542.out) hb)
  have n2_:=Za (Kd.R_below (by(with_reducible repeat(first|apply Zo|apply Zm|apply Zn));exact HO545.out) hb)
  have n3_:=Za (Kd.R_below (by(with_reducible repeat(first|apply Zo|apply Zm|apply Zn));exact HO548.out) hb)
  have n4_:=Za (Zi (g:=gb535) (o:= .cells #[.slice A0_0 l0_0.length c0_0] 26 (0,0)) z9_13 hb)
  have n5_:=Za (Zj z9_3 hb)
  clear HO539
  clear HO542
  clear HO545
  clear HO548
  clear BK535
  clear HB
  have HO539:=n0_
  have HO542:=n1_
  have HO545:=n2_
  have HO548:=n3_
  have BK535:=n4_
  have HB:=n5_
  clear n0_ n1_ n2_ n3_ n4_ n5_
  (try clear hb)
  (try clear hb2)
  (try clear hk)
  (try clear hi)
  refine hK.out _ _ ((Zb BK535.out 0).trans rfl) (fun hHeld=> ?_)
  clear hK K
  refine norm_ (a':= ?_) ?_ ?_
  rotate_left
  ·show Act.put _ (some 25) _=_
   simp only[Act.put,Zy,Ya,Yb,i64_w,i32_w]
   rfl
  refine pure_ (i:=11) (N:=some 26) (v:= ?_) (a':= ?_) #[true,true,true,true,true,true,true,true,true,true,true,true,false] rfl rfl (any_of HT_.out z9_15) (fun _ _ _ h=>h) (Or.inl ⟨by rfl,?_⟩) ?_ ?_
  rotate_left
  ·intro w'
   go_simp
   with_reducible rfl
  rotate_left
  ·simp only[Act.put,Zy,Ya,Yb,i64_w,i32_w]
   rfl
  refine pure_ (i:=12) (N:=some 8) (v:= ?_) (a':= ?_) #[true,true,true,true,true,true,true,true,true,true,true,true,true] rfl rfl (any_of HT_.out z9_15) (fun _ _ _ h=>h) (Or.inl ⟨by rfl,?_⟩) ?_ ?_
  rotate_left
  ·intro w'
   go_simp
   with_reducible rfl
  rotate_left
  ·simp only[Act.put,Zy,Ya,Yb,i64_w,i32_w]
   rfl
  refine done_ (done_of HT_.out z9_15) ?_
  try go_wp2
  go_ret
  exact⟨by first|rfl|(simp[errW_none,errW_some]<;>rfl)|(simp[*,errW_none,errW_some]<;>rfl)|(simp[*,errW_none,errW_some,i64_w];done),by repeat(first|(with_reducible first|exact HB.out|apply Zh|apply Zf|apply Ze|refine Zd ?_ GE535.out)|exact HB.out)⟩
 ·replace c6:=Bool.eq_false_iff.mpr c6
  subst c6
  rw[if_neg (show ¬(false=true) by decide)] at H
  obtain rfl:=Zk H
  go_enter Tryz.func9,Tryz.ntmps9
  go_wp2_with (first|((with_reducible refine Zp (N:=4) rfl ?_);refine Zr ?hg (N:=4) ?hd (cs:= #[.slice A0_0 l0_0.length c0_0]) (t:=26) ?hr ?_;(case hd=>rfl);(case hg=>rfl);(case hr=>exact z9_5);intro gb535 hg w23 hbox hb;have BK535:=Za (hbox);have GW535:=Za ((z9_17:w.heap.size≤gb535));have GE535:=Za ((z9_17:w.heap.size≤gb535));replace HB:=Za (Zj z9_0 hb);clear hb hbox hg;have hcz24_0:w23.cell? ⟨gb535,0,none⟩=some (.slice A0_0 l0_0.length c0_0):=(Zb BK535.out 0).trans rfl;have hfz24_0:=Zc BK535.out 0)|((first|((with_reducible refine gate_callee (f:=25) rfl ?_);refine goesL_ (some 13) rfl rfl Tryz.func25 z9_15 rfl #[.agg #[.slice A0_0 l0_0.length c0_0],.slice A1 l1.length c1,.slice A2 l2.length c2,.int .i64 a3] rfl z9_7 ?_;(with_reducible refine(impl_isBootAt.calls k _ _ l0_0 _ _ l1 _ _ l2 a3 false _ ?side1 ?side2 ?side3 ?side4 ?side5 ?side6 A5.out).mono ?_))|(go_at_call 25;(with_reducible refine(impl_isBootAt.calls k _ _ l0_0 _ _ l1 _ _ l2 a3 false _ ?side1 ?side2 ?side3 ?side4 ?side5 ?side6 A5.out).mono ?_)));(case side1=>exact z9_9);(case side2=>exact HC0_0.out);(case side3=>exact z9_8);(case side4=>exact HC1.out);(case side5=>exact z9_10);(case side6=>exact HC2.out);rintro e w25 ⟨rfl,hb⟩;(first|refine⟨_,rfl,?_⟩|skip);replace BK535:=Za (Zi (g:=gb535) (o:= .cells #[.slice A0_0 l0_0.length c0_0] 26 (0,0)) z9_13 hb);replace HB:=Za (Zj z9_3 hb);(try clear hb);(try clear hb2);(try clear hk);(try clear hi)))
  go_ret
  exact⟨by first|rfl|(simp[errW_none,errW_some]<;>rfl)|(simp[*,errW_none,errW_some]<;>rfl)|(simp[*,errW_none,errW_some,i64_w];done),by repeat(first|(with_reducible first|exact HB.out|apply Zh|apply Zf|apply Ze|refine Zd ?_ GE535.out)|exact HB.out)⟩
def impl_isSenseStep.f (a0_0:Int) (a0_1:Int) (a0_2:Int):Option (Bool):=if a0_1=(-1) then (some (a0_0==5)) else (some false)
set_option maxHeartbeats 8000000 in
set_option maxRecDepth 100000 in
theorem impl_isSenseStep.calls (a0_0:Int) (a0_1:Int) (a0_2:Int) (r:Bool) (w:World) (h:impl_isSenseStep.f a0_0 a0_1 a0_2=some r):
  Calls Tryz.prog 91 #[.agg #[.int .i64 a0_0,.int .i64 a0_1,.int .i64 a0_2]] w fun e w'=>e= .returned (.bool r)∧Below w.heap.size w w':=by
 have hu84:=Tryz.underlying84
 have HB:=Za (Zx w.heap.size w)
 have H:(if a0_1=(-1) then (some (a0_0==5)) else (some false))=some r:=h
 clear h
 by_cases c2:a0_1=(-1)
 ·rw[if_pos c2] at H
  have c2b0:(a0_1==(-1))=true:=beq_iff_eq.mpr c2
  have c2b1:(a0_1 != (-1))=false:=bne_eq_false_iff_eq.mpr c2
  clear c2
  obtain rfl:=Zk H
  go_enter Tryz.func91,Tryz.ntmps91
  go_wp2_with (first|((with_reducible refine Zp (N:=1) rfl ?_);refine Zr ?hg (N:=1) ?hd (cs:= #[.int .i64 a0_0,.int .i64 a0_1,.int .i64 a0_2]) (t:=84) ?hr ?_;(case hd=>rfl);(case hg=>rfl);(case hr=>exact z9_5);intro gb550 hg w3 hbox hb;have BK550:=Za (hbox);have GW550:=Za ((z9_17:w.heap.size≤gb550));have GE550:=Za ((z9_17:w.heap.size≤gb550));replace HB:=Za (Zj z9_0 hb);clear hb hbox hg;have hcz4_0:w3.cell? ⟨gb550,0,none⟩=some (.int .i64 a0_0):=(Zb BK550.out 0).trans rfl;have hcz4_1:w3.cell? ⟨gb550,1,none⟩=some (.int .i64 a0_1):=(Zb BK550.out 1).trans rfl;have hcz4_2:w3.cell? ⟨gb550,2,none⟩=some (.int .i64 a0_2):=(Zb BK550.out 2).trans rfl;have hfz4_0:=Zc BK550.out 0;have hfz4_1:=Zc BK550.out 1;have hfz4_2:=Zc BK550.out 2))
  go_ret
  exact⟨by first|rfl|(simp[errW_none,errW_some]<;>rfl)|(simp[*,errW_none,errW_some]<;>rfl)|(simp[*,errW_none,errW_some,i64_w];done),by repeat(first|(with_reducible first|exact HB.out|apply Zh|apply Zf|apply Ze|refine Zd ?_ GE550.out)|exact HB.out)⟩
 ·rw[if_neg c2] at H
  have c2b0:(a0_1==(-1))=false:=beq_eq_false_iff_ne.mpr c2
  have c2b1:(a0_1 != (-1))=true:=bne_iff_ne.mpr c2
  obtain rfl:=Zk H
  go_enter Tryz.func91,Tryz.ntmps91
  go_wp2_with (first|((with_reducible refine Zp (N:=1) rfl ?_);refine Zr ?hg (N:=1) ?hd (cs:= #[.int .i64 a0_0,.int .i64 a0_1,.int .i64 a0_2]) (t:=84) ?hr ?_;(case hd=>rfl);(case hg=>rfl);(case hr=>exact z9_5);intro gb550 hg w5 hbox hb;have BK550:=Za (hbox);have GW550:=Za ((z9_17:w.heap.size≤gb550));have GE550:=Za ((z9_17:w.heap.size≤gb550));replace HB:=Za (Zj z9_0 hb);clear hb hbox hg;have hcz6_0:w5.cell? ⟨gb550,0,none⟩=some (.int .i64 a0_0):=(Zb BK550.out 0).trans rfl;have hcz6_1:w5.cell? ⟨gb550,1,none⟩=some (.int .i64 a0_1):=(Zb BK550.out 1).trans rfl;have hcz6_2:w5.cell? ⟨gb550,2,none⟩=some (.int .i64 a0_2):=(Zb BK550.out 2).trans rfl;have hfz6_0:=Zc BK550.out 0;have hfz6_1:=Zc BK550.out 1;have hfz6_2:=Zc BK550.out 2))
  go_ret
  exact⟨by first|rfl|(simp[errW_none,errW_some]<;>rfl)|(simp[*,errW_none,errW_some]<;>rfl)|(simp[*,errW_none,errW_some,i64_w];done),by repeat(first|(with_reducible first|exact HB.out|apply Zh|apply Zf|apply Ze|refine Zd ?_ GE550.out)|exact HB.out)⟩
structure Bo where
 mem:List Int
 at_:Int
 us:List (List Int)
 lf:Int
abbrev kRR:Kd (List Int):=Kd.slice 3 (Kd.int .i64)
abbrev boC (v0 v2:Value) (s:Bo):Array Value:= #[v0,.int .i64 s.at_,v2,.int .i64 s.lf]
def boP (B g:Nat) (v0:Value) (s:Bo):Sep.Asn:=fun F w=>∃(v2:Value) (P:Nat→Prop),w.heap[g]? =some (.cells (boC v0 v2 s) 34 (0,0))∧trRow (Kd.int .i64) 3 B w v0 s.mem∧Kd.S kRR 27 w B P v2 s.us∧
 ((∀k,P k→(B≤k∧k<w.heap.size)∧k≠g∧v0.ownBlock≠some k)∧B≤g)∧∀k,F k↔k=g∨v0.ownBlock=some k∨P k
theorem boP_loc (B g:Nat) (v0:Value) (s:Bo):Sep.Loc B (boP B g v0 s) where
 lt:=by
  rintro F w ⟨v2,P,hb,hm,hu,D,hF⟩ k hk
  rcases (hF k).1 hk with rfl|h|h
  ·exact⟨D.2,blk_lt hb⟩
  ·exact⟨Yo hm k h,Kd.R_lt hm k h⟩
  ·exact(D.1 k h).1
 keep:=by
  rintro F w w' ⟨v2,P,hb,hm,hu,D,hF⟩ hB hs hk
  exact⟨v2,P,(hk g (.inr ((hF g).2 (by simp)))).trans hb,hm.keep (fun k h=>hk k (.inr ((hF k).2 (by simp[h])))),Kd.S_step hu (fun k h _=>hk k (.inr ((hF k).2 (by simp[h])))),⟨fun k h=>⟨⟨(D.1 k h).1.1,Nat.lt_of_lt_of_le (D.1 k h).1.2 hs⟩,(D.1 k h).2⟩,D.2⟩,hF⟩
theorem boB {w:World} {g:Nat} {v0 v2:Value} {s:Bo} (h:w.heap[g]? =some (.cells (boC v0 v2 s) 34 (0,0))):
  w.cell? ⟨g,0,none⟩=some v0∧w.cell? ⟨g,1,none⟩=some (.int .i64 s.at_)∧w.cell? ⟨g,2,none⟩=some v2∧w.cell? ⟨g,3,none⟩=some (.int .i64 s.lf):=
 ⟨(Zb h 0).trans rfl,(Zb h 1).trans rfl,(Zb h 2).trans rfl,(Zb h 3).trans rfl⟩
section
variable {B g:Nat} {v0 v2:Value} {s s':Bo} {P F:Nat→Prop} {w:World}
theorem boP_cell {i:Nat} {u:Value} (hb:w.heap[g]? =some (.cells (boC v0 v2 s) 34 (0,0))) (hm:trRow (Kd.int .i64) 3 B w v0 s.mem) (hu:Kd.S kRR 27 w B P v2 s.us)
  (D:(∀k,P k→(B≤k∧k<w.heap.size)∧k≠g∧v0.ownBlock≠some k)∧B≤g) (hF:∀k,F k↔k=g∨v0.ownBlock=some k∨P k)
  (e:(boC v0 v2 s).setIfInBounds i u=boC v0 v2 s') (e0:s'.mem=s.mem) (e1:s'.us=s.us):
  ∃F',boP B g v0 s' F' (w.setCell ⟨g,i,none⟩ u)∧Sep.After F w F' (w.setCell ⟨g,i,none⟩ u):=by
 have far:∀k,k≠g→(w.setCell ⟨g,i,none⟩ u).heap[k]? =w.heap[k]? :=fun k hk=>Below.heap_setCell w ⟨g,i,none⟩ u k hk
 have hz:(w.setCell ⟨g,i,none⟩ u).heap.size=w.heap.size:=by simp[World.setCell]
 refine⟨F,⟨v2,P,blk_put hb i u e,?_,?_,?_,hF⟩,⟨⟨by rw[hz];exact Nat.le_refl _,fun k hk hn=>far k (fun h=>hn ((hF k).2 (.inl h)))⟩,fun k h=> .inl h,rfl,rfl,rfl⟩⟩
 ·rw[e0]
  exact hm.keep (fun k hk=>far k (hm.ne hb (by decide) k hk))
 ·rw[e1]
  exact Kd.S_step hu (fun k hk _=>far k (D.1 k hk).2.1)
 ·rw[hz]
  exact D
theorem boP_mem {i g3:Nat} {u:Value} {ys:List Int} (hb:w.heap[g]? =some (.cells (boC v0 v2 s) 34 (0,0))) (hm:trRow (Kd.int .i64) 3 B w v0 s.mem) (hu:Kd.S kRR 27 w B P v2 s.us)
  (D:(∀k,P k→(B≤k∧k<w.heap.size)∧k≠g∧v0.ownBlock≠some k)∧B≤g) (hF:∀k,F k↔k=g∨v0.ownBlock=some k∨P k)
  (ho:v0.ownBlock=some g3) (hp:trRow (Kd.int .i64) 3 B (w.setCell ⟨g3,i,none⟩ u) v0 ys):
  ∃F',boP B g v0 {s with mem:=ys} F' (w.setCell ⟨g3,i,none⟩ u)∧Sep.After F w F' (w.setCell ⟨g3,i,none⟩ u):=by
 have far:∀k,k≠g3→(w.setCell ⟨g3,i,none⟩ u).heap[k]? =w.heap[k]? :=fun k hk=>Below.heap_setCell w ⟨g3,i,none⟩ u k hk
 have hz:(w.setCell ⟨g3,i,none⟩ u).heap.size=w.heap.size:=by simp[World.setCell]
 refine⟨F,⟨v2,P,(far g (fun h=>hm.ne hb (by decide) g3 ho h.symm)).trans hb,hp,?_,?_,hF⟩,⟨⟨by rw[hz];exact Nat.le_refl _,fun k hk hn=>far k (fun h=>hn ((hF k).2 (.inr (.inl (h ▸ ho)))))⟩,fun k h=> .inl h,rfl,rfl,rfl⟩⟩
 ·exact Kd.S_step hu (fun k hk _=>far k (fun h=>(D.1 k hk).2.2 (h ▸ ho)))
 ·rw[hz]
  exact D
end
def Bo.spend (s:Bo) (c:Int):Bool×Bo:=if s.lf<c then (false,s) else (true,{s with lf:=wrap64 (s.lf - c)})
set_option maxHeartbeats 8000000 in
set_option maxRecDepth 100000 in
theorem bo_spend (B g:Nat) (v0:Value) (s:Bo) (c:Int) (F:Nat→Prop) (w:World) (hI:boP B g v0 s F w):
  Calls Tryz.prog 90 #[.pointer (some ⟨g,0,none⟩),.int .i64 c] w fun e w'=>e= .returned (.bool (s.spend c).1)∧∃F',boP B g v0 (s.spend c).2 F' w'∧Sep.After F w F' w':=by
 have HI:=Za hI
 obtain⟨v2,P,hb,hm,hu,hD,hF⟩:=hI
 have HB:=Za hb
 have HM:=Za hm
 have HU:=Za hu
 have HD:=Za hD
 have HF:=Za hF
 clear hb hm hu hD hF
 obtain⟨_,_,_,_⟩:=boB HB.out
 have hf3:=Zc HB.out 3
 unfold Bo.spend
 by_cases q:s.lf<c
 ·rw[if_pos q]
  have qt:=eq_true q
  clear q
  go_enter Tryz.func90,Tryz.ntmps90
  go_wp2
  go_ret
  exact⟨rfl,F,HI.out,Sep.After.refl F w⟩
 ·rw[if_neg q]
  have qt:=eq_false q
  clear q
  go_enter Tryz.func90,Tryz.ntmps90
  go_wp2_with (first
   |((with_reducible refine Ye (t:=3) (p:=18) rfl ?_);refine Yd (t:=3) (p:=18) (v:= .tmp 16) (w1:=w.setCell ⟨g,3,none⟩ (.int .i64 (wrap64 (s.lf - c)))) ?hg ?ho ?hn ?hr ?_;(case ho=>rfl);(case hg=>rfl);(case hn=>rfl);(case hr=>exact z9_5);intro w2 hw;have E2:=boP_cell (i:=3) (u:= .int .i64 (wrap64 (s.lf - c))) (s':={s with lf:=wrap64 (s.lf - c)}) HB.out HM.out HU.out HD.out HF.out rfl rfl rfl;rw[←hw] at E2;have EE:=Za E2;clear E2 hw)
   |fail)
  go_ret
  exact⟨rfl,EE.out⟩
def recGo:List S82→Bo→Option (Bool×Bo)
 |[],s=>some (true,s)
 |x::t,s=>if s.lf<3 then some (false,s) else if 0≤x.f0∧x.f0<(s.mem.length:Int) then recGo t {s with mem:=s.mem.set x.f0.toNat x.f1,lf:=wrap64 (s.lf - 3)} else none
theorem trRow.of_wri {e B:Nat} {w:World} {v:Value} {xs:List S82} {ok:Nat→Prop} (h:k82.R e w B ok v xs):trRow k82 e B w v xs:=Kd.R_flat (fun h=>h) h (fun _ hk _=>hk)
theorem boP_len {B g n c:Nat} {A:Option Addr} {s:Bo} {F:Nat→Prop} {w:World} (h:boP B g (.slice A n c) s F w):n=s.mem.length∧n≤c∧Kd.C (Kd.int .i64) w A s.mem.length s.mem:=by
 obtain⟨_,_,_,hm,_⟩:=h
 exact Yp hm
theorem drop_at {α:Type} (z:α) {l:List α} {i:Int} (h0:0≤i) (h:i<(l.length:Int)):l.drop i.toNat=l.getD i.toNat z::l.drop (i+1).toNat:=by
 have h1:i.toNat<l.length:=by omega
 have h2:(i+1).toNat=i.toNat+1:=by omega
 rw[h2,List.drop_eq_getElem_cons h1,List.getD_eq_getElem?_getD,List.getElem?_eq_getElem h1]
 rfl
set_option maxHeartbeats 8000000 in
set_option maxRecDepth 100000 in
theorem bo_recover (k:Nat) (B g:Nat) (Am:Option Addr) (n cm:Nat) (s r:Bo) (b:Bool) (l:List S82) (hll:l.length<1000000) (hl:impl_RecoveryWrites.f k s.mem=some l) (hr:recGo l s=some (b,r)) (F:Nat→Prop) (w:World) (hB:B≤w.heap.size) (hI:boP B g (.slice Am n cm) s F w):
  Calls Tryz.prog 61 #[.pointer (some ⟨g,0,none⟩)] w fun e w'=>e= .returned (.bool b)∧∃F',boP B g (.slice Am n cm) r F' w'∧Sep.After F w F' w':=by
 obtain⟨en,hcm,hC⟩:=boP_len hI
 subst en
 have BWC:=Za hB
 have HI:=Za hI
 have HL:=Za hl
 have HR:=Za hr
 have HCM:=Za hcm
 have HLL:=Za hll
 have HC:=Za hC
 obtain⟨v2,P,hb,-,-,-,-⟩:=hI
 have HB:=Za hb
 clear hb hB hl hr hcm hC hll
 obtain⟨_,_,_,_⟩:=boB HB.out
 clear HB
 go_enter Tryz.func61,Tryz.ntmps61
 go_wp2_with (first
  |(go_at_call 26;(with_reducible refine(impl_RecoveryWrites.calls k _ _ s.mem l _ HC.out HCM.out HL.out).mono ?_);rintro e w1 ⟨v_,rfl,ho,hb⟩;obtain⟨Al,cl,el⟩:=Ym ho;subst el;have RL:=Za (trRow.of_wri ho);have NL:Aside0 (∀k,(Value.slice Al l.length cl).ownBlock=some k→¬F k):=⟨fun k hk hf=>by have:=Yo ho k hk;have:=((boP_loc _ _ _ _).lt HI.out k hf).2;omega⟩;have HA:=Za (Sep.After.of_below hb F);have BW1:=Za (Nat.le_trans BWC.out hb.size);have HI1:=Za ((boP_loc _ _ _ _).below BWC.out HI.out hb);clear ho hb)
  |fail)
 go_loopg [11] (l.length+1) (fun kq v11 w'=>∃(i:Int) (sj:Bo) (Fj:Nat→Prop),v11= .int .i64 i∧Aside0 ((0≤i∧i≤(l.length:Int))∧kq+i.toNat=l.length+1)∧Aside0 (recGo (l.drop i.toNat) sj=some (b,r))∧Aside0 (boP B g (.slice Am s.mem.length cm) sj Fj w')∧Aside0 (Sep.After F w1 Fj w'))
 case atStart=>exact⟨0,s,F,z9_16,⟨⟨by omega,by omega⟩,by simp⟩,⟨by simpa using HR.out⟩,HI1,⟨Sep.After.refl F w1⟩⟩
 case round=>
  obtain⟨i,sj,Fj,rfl,HX,HG,HJ,HAJ⟩:=hrel
  have BWR:Aside0 (B≤wr.heap.size):=⟨Nat.le_trans BW1.out HAJ.out.size⟩
  cases gk with
  |zero=>have:=HX.out;omega
  |succ k1=>
   by_cases c3:i<(l.length:Int)
   ·have c3b0:decide (i<(l.length:Int))=true:=Zq c3
    have hg:=HG.out
    rw[drop_at z82 HX.out.1.1 c3] at hg
    change recGo (rd_T82 l i::l.drop (i+1).toNat) sj=some (b,r) at hg
    have RLW:=Za (RL.out.keep (w1:=wr) (fun k hk=>HAJ.out.kept.2 k (Kd.R_lt RL.out k hk) (NL.out k hk)))
    obtain⟨ad,eA,hx0,hx1⟩:=at_T82 (Yp RLW.out).2.2 i HX.out.1.1 c3
    subst eA
    obtain⟨x,ex⟩:∃x,x=rd_T82 l i:=⟨_,rfl⟩
    rw[←ex] at hx0 hx1 hg
    have HX0:=Za hx0
    have HX1:=Za hx1
    have p5:=eq_true HX.out.1.1
    have q5:=eq_true c3
    have N1:Aside0 (wrap64 (i+1)=i+1):=⟨by have:=HX.out;have:=HLL.out;unfold wrap64;omega⟩
    clear ex c3
    unfold recGo at hg
    by_cases c4:sj.lf<3
    ·rw[if_pos c4] at hg
     obtain⟨eb,er⟩:=Prod.mk.inj (Zk hg)
     subst eb er
     have ES:Aside0 (sj.spend 3=(false,sj)):=⟨if_pos c4⟩
     clear c4
     go_wp2_with (first|((with_reducible refine Zp (N:=4) rfl ?_);refine Zr ?hg (N:=4) ?hd (cs:= #[.int .i64 0,.int .i64 0]) (t:=82) ?hr ?_;(case hd=>rfl);(case hg=>rfl);(case hr=>exact z9_5);intro gv hgv wv hcs hb;have LE_:Aside0 (wr.heap.size≤gv):=⟨Nat.le_of_eq hgv.symm⟩;have HBm:=Za hb;have BV:=Za hcs;clear hgv hb hcs;have hc0_:wv.cell? ⟨gv,0,none⟩=some (.int .i64 0):=(Zb BV.out 0).trans rfl;have hc1_:wv.cell? ⟨gv,1,none⟩=some (.int .i64 0):=(Zb BV.out 1).trans rfl;have hf0_:=Zc BV.out 0;have hf1_:=Zc BV.out 1;have hx0:=pw_cell_below HBm.out HX0.out;have hx1:=pw_cell_below HBm.out HX1.out)|((with_reducible refine Ye (t:=82) (p:=4) rfl ?_);refine Yd (t:=82) (p:=4) (v:= .tmp 14) (w1:=(wv.setCell ⟨gv,0,none⟩ (.int .i64 x.f0)).setCell ⟨gv,1,none⟩ (.int .i64 x.f1)) ?hg ?ho ?hn ?hr ?_;(case ho=>rfl);(case hg=>rfl);(case hn=>rfl);(case hr=>exact z9_5);intro w2 hw;have hb:Below wr.heap.size wr w2:=hw ▸ Zd (Zd HBm.out LE_.out) LE_.out;have BV2:Aside0 (w2.heap[gv]? =some (.cells #[.int .i64 x.f0,.int .i64 x.f1] 82 (0,0))):=⟨by rw[hw];exact blk_put (blk_put BV.out 0 _ rfl) 1 _ rfl⟩;have HJ2:=Za ((boP_loc _ _ _ _).below BWR.out HJ.out hb);have HA2:=Za (HAJ.out.trans (Sep.After.of_below hb Fj));have NV:Aside0 (¬Fj gv):=⟨fun h=>by have:=((boP_loc _ _ _ _).lt HJ.out gv h).2;have:=LE_.out;omega⟩;clear hw hb)|(go_at_call 90;(with_reducible refine(bo_spend B g _ sj 3 Fj _ HJ2.out).mono ?_);rintro e w3 ⟨he,F3,hI3,hA3⟩;rw[ES.out] at he hI3;dsimp only at he hI3;subst he;have HJ3:=Za hI3;have HA3:=Za (HA2.out.trans hA3);have BV3:=Za (hA3.blk BV2.out NV.out);clear hI3 hA3;have hv0_:w3.cell? ⟨gv,0,none⟩=some (.int .i64 x.f0):=(Zb BV3.out 0).trans rfl;have hv1_:w3.cell? ⟨gv,1,none⟩=some (.int .i64 x.f1):=(Zb BV3.out 1).trans rfl)|fail)
     go_ret
     exact⟨rfl,_,HJ3.out,HA.out.trans HA3.out⟩
    ·rw[if_neg c4] at hg
     by_cases c5:0≤x.f0∧x.f0<(sj.mem.length:Int)
     case neg=>rw[if_neg c5] at hg;cases hg
     rw[if_pos c5] at hg
     have HG2:=Za hg
     have C5:=Za c5
     have ES:Aside0 (sj.spend 3=(true,{sj with lf:=wrap64 (sj.lf - 3)})):=⟨if_neg c4⟩
     clear c4 c5 hg
     go_wp2_with (first|((with_reducible refine Zp (N:=4) rfl ?_);refine Zr ?hg (N:=4) ?hd (cs:= #[.int .i64 0,.int .i64 0]) (t:=82) ?hr ?_;(case hd=>rfl);(case hg=>rfl);(case hr=>exact z9_5);intro gv hgv wv hcs hb;have LE_:Aside0 (wr.heap.size≤gv):=⟨Nat.le_of_eq hgv.symm⟩;have HBm:=Za hb;have BV:=Za hcs;clear hgv hb hcs;have hc0_:wv.cell? ⟨gv,0,none⟩=some (.int .i64 0):=(Zb BV.out 0).trans rfl;have hc1_:wv.cell? ⟨gv,1,none⟩=some (.int .i64 0):=(Zb BV.out 1).trans rfl;have hf0_:=Zc BV.out 0;have hf1_:=Zc BV.out 1;have hx0:=pw_cell_below HBm.out HX0.out;have hx1:=pw_cell_below HBm.out HX1.out)|((with_reducible refine Ye (t:=82) (p:=4) rfl ?_);refine Yd (t:=82) (p:=4) (v:= .tmp 14) (w1:=(wv.setCell ⟨gv,0,none⟩ (.int .i64 x.f0)).setCell ⟨gv,1,none⟩ (.int .i64 x.f1)) ?hg ?ho ?hn ?hr ?_;(case ho=>rfl);(case hg=>rfl);(case hn=>rfl);(case hr=>exact z9_5);intro w2 hw;have hb:Below wr.heap.size wr w2:=hw ▸ Zd (Zd HBm.out LE_.out) LE_.out;have BV2:Aside0 (w2.heap[gv]? =some (.cells #[.int .i64 x.f0,.int .i64 x.f1] 82 (0,0))):=⟨by rw[hw];exact blk_put (blk_put BV.out 0 _ rfl) 1 _ rfl⟩;have HJ2:=Za ((boP_loc _ _ _ _).below BWR.out HJ.out hb);have HA2:=Za (HAJ.out.trans (Sep.After.of_below hb Fj));have NV:Aside0 (¬Fj gv):=⟨fun h=>by have:=((boP_loc _ _ _ _).lt HJ.out gv h).2;have:=LE_.out;omega⟩;clear hw hb)|(go_at_call 90;(with_reducible refine(bo_spend B g _ sj 3 Fj _ HJ2.out).mono ?_);rintro e w3 ⟨he,F3,hI3,hA3⟩;rw[ES.out] at he hI3;dsimp only at he hI3;subst he;have HJ3:=Za hI3;have HA3:=Za (HA2.out.trans hA3);have BV3:=Za (hA3.blk BV2.out NV.out);clear hI3 hA3;have hv0_:w3.cell? ⟨gv,0,none⟩=some (.int .i64 x.f0):=(Zb BV3.out 0).trans rfl;have hv1_:w3.cell? ⟨gv,1,none⟩=some (.int .i64 x.f1):=(Zb BV3.out 1).trans rfl)|fail)
     obtain⟨v2,P,hb,hm,hu,hD,hF⟩:=HJ3.out
     obtain⟨g0,eg,en,hcell,hfr,hput⟩:=(Sep.rowI.of_R hm).at_ x.f0 C5.out.1 C5.out.2
     cases eg
     have hne1:g0≠g:=hm.ne hb (by decide) g0 rfl
     have hne2:g≠g0:=fun h=>hne1 h.symm
     have hne3:g0≠gv:=hm.ne BV3.out (by decide) g0 rfl
     have hne4:gv≠g0:=fun h=>hne3 h.symm
     have p6:=eq_true C5.out.1
     have q6:(x.f0<(s.mem.length:Int))=True:=eq_true (by rw[en];exact C5.out.2)
     have HB3:=Za hb
     have HM3:=Za hm
     have HU3:=Za hu
     have HD3:=Za hD
     have HF3:=Za hF
     have HP3:=Za (hput x.f1)
     clear hb hm hu hD hF hput en
     obtain⟨_,_,_,_⟩:=boB HB3.out
     go_region_held3 (fun w'=>w'.cell? ⟨g,0,none⟩=some (.slice (some ⟨g0,0,none⟩) s.mem.length cm)∧w'.cell? ⟨gv,0,none⟩=some (.int .i64 x.f0)∧w'.cell? ⟨gv,1,none⟩=some (.int .i64 x.f1)) (go_keep) (fail)
     go_wp2
     obtain⟨F4,i4,a4⟩:=boP_mem (w:=w3.drew) (i:=x.f0.toNat) (g3:=g0) (u:= .int .i64 x.f1) HB3.out HM3.out HU3.out HD3.out HF3.out rfl (Sep.rowI.to_R HP3.out (fun k hk=>Yo HM3.out k hk) (fun _ hk=>hk))
     have HI4:=Za i4
     have HA4:=Za (HA3.out.trans ((Sep.After.of_below (by repeat(first|exact Zx _ _|apply Zf|apply Ze):Below w3.heap.size w3 w3.drew) _).trans a4))
     clear i4 a4
     go_roundg k1
     case measure=>omega
     case rel=>exact⟨wrap64 (i+1),_,F4,z9_16,⟨by rw[N1.out];have:=HX.out;have:=of_eq_true q5;omega,by rw[N1.out];have:=HX.out;omega⟩,⟨by rw[N1.out];exact HG2.out⟩,⟨HI4.out⟩,⟨HA4.out⟩⟩
   ·have c3b0:decide (i<(l.length:Int))=false:=Yf c3
    have hg:=HG.out
    rw[List.drop_eq_nil_of_le (by have:=HX.out;omega)] at hg
    obtain⟨eb,er⟩:=Prod.mk.inj (Zk hg)
    subst eb er
    clear c3
    go_wp2
    go_ret
    exact⟨rfl,_,HJ.out,HA.out.trans HAJ.out⟩
def taskGo:List S84→Bo→Option (Bool×Bo)
 |[],s=>some (true,s)
 |x::t,s=>if s.lf<x.f0 then some (false,s) else
   if x.f1= -1 then taskGo t {s with lf:=wrap64 (s.lf - x.f0),at_:=if x.f0=5 then wrap64 (s.at_+1) else s.at_}
   else if 0≤x.f1∧x.f1<(s.mem.length:Int) then taskGo t {s with lf:=wrap64 (s.lf - x.f0),mem:=s.mem.set x.f1.toNat x.f2} else none
def boTask (k:Nat) (l0:List S75) (rs:List Int) (s:Bo):Option (Bool×Bo):=
 (impl_traceOf.f k l0 s.mem rs s.at_).bind fun t=>if t.1.length<5000000000000 then (taskGo t.1 s).bind fun y=>if y.1=true then (if y.2.us.length<1000000 then some (true,{y.2 with us:=y.2.us++[t.2]}) else none) else some (false,y.2) else none
theorem boP_us {B g:Nat} {v0 v2 v9:Value} {s:Bo} {P Q F:Nat→Prop} {w w9:World} {u:List Int}
  (hb:w.heap[g]? =some (.cells (boC v0 v2 s) 34 (0,0))) (hm:trRow (Kd.int .i64) 3 B w v0 s.mem) (hu:Kd.S kRR 27 w B P v2 s.us)
  (D:(∀k,P k→(B≤k∧k<w.heap.size)∧k≠g∧v0.ownBlock≠some k)∧B≤g) (hF:∀k,F k↔k=g∨v0.ownBlock=some k∨P k)
  (hQ:∀k,Q k→k≠g∧v0.ownBlock≠some k) (ho:Kd.S kRR 27 w9 B (fun k=>P k∨Q k∨w.heap.size≤k) v9 (s.us++[u])) (hg:w.grownBy w9 v2.ownBlock) (hne:∀k,v2.ownBlock=some k→P k):
  ∃F',boP B g v0 {s with us:=s.us++[u]} F' (w9.setCell ⟨g,2,none⟩ v9)∧(∀k,F' k→F k∨Q k∨w.heap.size≤k)∧(w.heap.size≤(w9.setCell ⟨g,2,none⟩ v9).heap.size∧∀k,k<w.heap.size→¬F k→(w9.setCell ⟨g,2,none⟩ v9).heap[k]? =w.heap[k]?)∧(w9.setCell ⟨g,2,none⟩ v9).os=w.os∧(w9.setCell ⟨g,2,none⟩ v9).tape=w.tape∧(w9.setCell ⟨g,2,none⟩ v9).output=w.output:=by
 have hgp:v2.ownBlock≠some g:=fun h=>(D.1 g (hne g h)).2.1 rfl
 have b9:=blk_grown hb hg (fun h=>hgp h.symm)
 have hz:(w9.setCell ⟨g,2,none⟩ v9).heap.size=w9.heap.size:=by simp[World.setCell]
 have far:∀k,k≠g→(w9.setCell ⟨g,2,none⟩ v9).heap[k]? =w9.heap[k]? :=fun k hk=>Below.heap_setCell w9 ⟨g,2,none⟩ v9 k hk
 have lg:=blk_lt hb
 have out:∀k,(P k∨Q k∨w.heap.size≤k)→k≠g∧v0.ownBlock≠some k:=fun k h=>by
  rcases h with h|h|h
  ·exact(D.1 k h).2
  ·exact hQ k h
  ·exact⟨by omega,fun e=>by have:=Kd.R_lt hm k e;omega⟩
 refine⟨fun k=>k=g∨v0.ownBlock=some k∨((P k∨Q k∨w.heap.size≤k)∧B≤k∧k<w9.heap.size),⟨v9,fun k=>(P k∨Q k∨w.heap.size≤k)∧B≤k∧k<w9.heap.size,blk_put (cs:=boC v0 v2 s) b9 2 v9 rfl,?_,?_,⟨fun k h=>⟨⟨h.2.1,by rw[hz];exact h.2.2⟩,out k h.1⟩,D.2⟩,fun k=>Iff.rfl⟩,?_,⟨by rw[hz];exact hg.size,fun k hk hn=> ?_⟩,hg.os,hg.tape,hg.output⟩
 ·exact hm.keep (fun k hk=>(far k (hm.ne hb (by decide) k hk)).trans (hg.block k (Kd.R_lt hm k hk) (fun h=>(D.1 k (hne k h.symm)).2.2 hk)))
 ·have:=Kd.S_bound ho
  exact Kd.S_step (Kd.S_mono this (fun k h=>⟨h.1,h.2.1,h.2.2.1⟩)) (fun k h _=>far k (out k h.1).1)
 ·rintro k (h|h|h)
  ·exact .inl ((hF k).2 (.inl h))
  ·exact .inl ((hF k).2 (.inr (.inl h)))
  ·rcases h.1 with q|q|q
   ·exact .inl ((hF k).2 (.inr (.inr q)))
   ·exact .inr (.inl q)
   ·exact .inr (.inr q)
 ·rw[hF] at hn
  simp only[not_or] at hn
  exact(far k hn.1).trans (hg.block k hk (fun h=>hn.2.2 (hne k h.symm)))
theorem sense_eq (a b c:Int) (r:Bool) (h:decide (b= -1∧a=5)=r):impl_isSenseStep.f a b c=some r:=by
 subst h
 unfold impl_isSenseStep.f
 by_cases q:b= -1
 ·rw[if_pos q]
  by_cases q2:a=5
  ·simp[q,q2]
  ·simp[q,q2]
 ·rw[if_neg q]
  simp[q]
set_option maxHeartbeats 16000000 in
set_option maxRecDepth 100000 in
theorem bo_task (k:Nat) (B g:Nat) (Am:Option Addr) (n cm:Nat) (A0:Option Addr) (c0:Nat) (l0:List S75) (Ar:Option Addr) (cr:Nat) (rs:List Int) (s r:Bo) (b:Bool) (h:boTask k l0 rs s=some (b,r)) (F:Nat→Prop) (w:World) (hB:B≤w.heap.size) (hI:boP B g (.slice Am n cm) s F w)
  (hr0:Kd.C k75 w A0 l0.length l0) (hc0:l0.length≤c0) (hrr:Kd.C (Kd.int .i64) w Ar rs.length rs) (hcr:rs.length≤cr):
  Calls Tryz.prog 62 #[.pointer (some ⟨g,0,none⟩),.agg #[.slice A0 l0.length c0],.slice Ar rs.length cr] w fun e w'=>e= .returned (.bool b)∧∃F',boP B g (.slice Am n cm) r F' w'∧Sep.After F w F' w':=by
 unfold boTask at h
 obtain⟨⟨T,u⟩,ht,h⟩:=Zg h
 by_cases cl:T.length<5000000000000
 case neg=>rw[if_neg cl] at h;cases h
 rw[if_pos cl] at h
 obtain⟨⟨b2,r2⟩,hgo,hend⟩:=Zg h
 simp only at hgo hend
 obtain⟨en,hcm,hC⟩:=boP_len hI
 subst en
 have BWC:=Za hB
 have HI:=Za hI
 have HT:=Za ht
 have HGO:=Za hgo
 have HEND:=Za hend
 have HTL:=Za cl
 have HCM:=Za hcm
 have HC:=Za hC
 have HR0:=Za hr0
 have HC0:=Za hc0
 have HRR:=Za hrr
 have HCR:=Za hcr
 clear hB ht hcm hC hr0 hc0 hrr hcr hI h hgo hend cl
 go_enter Tryz.func62,Tryz.ntmps62
 go_wp2_with (first
  |((with_reducible refine Zp (N:=4) rfl ?_);refine Zr ?hg (N:=4) ?hd (cs:= #[.slice A0 l0.length c0]) (t:=26) ?hr ?_;(case hd=>rfl);(case hg=>rfl);(case hr=>exact z9_5);intro gp hgp w1 hcs hb;have HB1:=Za hb;have BP:=Za hcs;have HI1:=Za ((boP_loc _ _ _ _).below BWC.out HI.out hb);have NP:Aside0 (¬F gp):=⟨fun h=>by have:=((boP_loc _ _ _ _).lt HI.out gp h).2;omega⟩;clear hgp hcs hb;obtain⟨v2,P,hb,-,-,-,-⟩:=HI1.out;have HBg:=Za hb;clear hb;obtain⟨hg0,hg1,_,_⟩:=boB HBg.out;have hp1:w1.cell? ⟨gp,0,none⟩=some (.slice A0 l0.length c0):=(Zb BP.out 0).trans rfl)
  |fail)
 have nw1:=World.new_ne w1 _ hp1
 have nw2:=World.new_ne w1 _ hg0
 have nw3:=World.new_ne w1 _ hg1
 go_region_held3 (fun w'=>w'.cell? ⟨gp,0,none⟩=some (.slice A0 l0.length c0)∧w'.cell? ⟨g,0,none⟩=some (.slice Am s.mem.length cm)∧w'.cell? ⟨g,1,none⟩=some (.int .i64 s.at_)) (go_keep) ((first|(go_at_call 28;(with_reducible refine(impl_traceOf.calls k _ _ l0 _ _ s.mem _ _ rs s.at_ T u _ ?c1_ HC0.out ?c2_ HCM.out ?c3_ HCR.out HT.out).mono ?_);(case c1_=>exact Yl (Yl HR0.out HB1.out) z9_14);(case c2_=>exact Yl (Yl HC.out HB1.out) z9_14);(case c3_=>exact Yl (Yl HRR.out HB1.out) z9_14);rintro e w2 ⟨v0_,v1_,rfl,ho0,ho1,hb⟩;obtain⟨S0,d0,e0⟩:=Ym ho0;obtain⟨m0,hm0⟩:∃m,m=T.length:=⟨_,rfl⟩;rw[←hm0] at e0;obtain⟨S1,d1,e1⟩:=Ym ho1;obtain⟨m1,hm1⟩:∃m,m=u.length:=⟨_,rfl⟩;rw[←hm1] at e1;subst e0 e1;have HM0:=Za hm0;have HM1:=Za hm1;have RT:=Za ho0;have RU:=Za ho1;have hbp:=Zj (z9_14:Below w1.heap.size w1 _) hb;have HB2:=Za hbp;have HBX:=Za hb;have BP2:=Za (Zi BP.out hbp);have HBg2:=Za (Zi HBg.out hbp);clear hm0 hm1 ho0 ho1 hb hbp;obtain⟨hk0,hk1,_,_⟩:=boB HBg2.out;have hk2:w2.cell? ⟨gp,0,none⟩=some (.slice A0 l0.length c0):=(Zb BP2.out 0).trans rfl;have nk0:=World.new_ne w2 _ hk0;have nk1:=World.new_ne w2 _ hk1;have nk2:=World.new_ne w2 _ hk2;(first|(have hq_:w2.heap[w1.heap.size]? =some (.cells #[.slice none 0 0,.slice none 0 0] 59 (0,0)):=(HBX.out.block w1.heap.size (show w1.heap.size<(w1.heap.push (.cells #[.slice none 0 0,.slice none 0 0] 59 (0,0))).size by simp)).trans (show(w1.heap.push (.cells #[.slice none 0 0,.slice none 0 0] 59 (0,0)))[w1.heap.size]? =some (.cells #[.slice none 0 0,.slice none 0 0] 59 (0,0)) by simp);have HQ:=Za hq_;clear hq_;have hq0:w2.cell? ⟨w1.heap.size,0,none⟩=some (.slice none 0 0):=(Zb HQ.out 0).trans rfl;have hq1:w2.cell? ⟨w1.heap.size,1,none⟩=some (.slice none 0 0):=(Zb HQ.out 1).trans rfl;have hq2:=Zc HQ.out 0;have hq3:=Zc HQ.out 1)|skip))))
 all_goals
  first
   |(have BT_:(w2.alloc (.cells #[.slice S0 m0 d0,.slice S1 m1 d1] 59 (0,0))).heap[w2.heap.size]? =some (.cells #[.slice S0 m0 d0,.slice S1 m1 d1] 59 (0,0)):=(show(w2.heap.push (.cells #[.slice S0 m0 d0,.slice S1 m1 d1] 59 (0,0)))[w2.heap.size]? =some (.cells #[.slice S0 m0 d0,.slice S1 m1 d1] 59 (0,0)) by simp);have HBa:Below w2.heap.size w2 (w2.alloc (.cells #[.slice S0 m0 d0,.slice S1 m1 d1] 59 (0,0))):=(by repeat(first|exact Zx _ _|apply Zh));have HB3:=Za (Zj HB2.out HBa);have BT:=Za BT_;have RT3:=Za (Kd.R_below RT.out HBa);have RU3:=Za (Kd.R_below RU.out HBa);have GT:Aside0 (w1.heap.size≤w2.heap.size):=⟨HB2.out.size⟩;clear BT_ HBa;obtain⟨gt,hgt⟩:∃x,x=w2.heap.size:=⟨_,rfl⟩;rw[←hgt] at BT GT ⊢;generalize w2.alloc (.cells #[.slice S0 m0 d0,.slice S1 m1 d1] 59 (0,0))=w3 at*)
   |(have HB3:Aside0 (Below w1.heap.size w1 ((w2.setCell ⟨w1.heap.size,0,none⟩ (.slice S0 m0 d0)).setCell ⟨w1.heap.size,1,none⟩ (.slice S1 m1 d1))):=⟨Zd (Zd HB2.out (Nat.le_refl _)) (Nat.le_refl _)⟩;have BT:Aside0 (((w2.setCell ⟨w1.heap.size,0,none⟩ (.slice S0 m0 d0)).setCell ⟨w1.heap.size,1,none⟩ (.slice S1 m1 d1)).heap[w1.heap.size]? =some (.cells #[.slice S0 m0 d0,.slice S1 m1 d1] 59 (0,0))):=⟨blk_put (blk_put HQ.out 0 _ rfl) 1 _ rfl⟩;have FAR_:∀k,k≠w1.heap.size→((w2.setCell ⟨w1.heap.size,0,none⟩ (.slice S0 m0 d0)).setCell ⟨w1.heap.size,1,none⟩ (.slice S1 m1 d1)).heap[k]? =w2.heap[k]? :=fun k hk=>(Below.heap_setCell _ _ _ k hk).trans (Below.heap_setCell _ _ _ k hk);have RT3:=Za ((trRow.of_mic RT.out).keep (w1:=((w2.setCell ⟨w1.heap.size,0,none⟩ (.slice S0 m0 d0)).setCell ⟨w1.heap.size,1,none⟩ (.slice S1 m1 d1))) (fun k hk=>FAR_ k ((trRow.of_mic RT.out).ne HQ.out (by decide) k hk)));have RU3:=Za ((trRow.of_int RU.out).keep (w1:=((w2.setCell ⟨w1.heap.size,0,none⟩ (.slice S0 m0 d0)).setCell ⟨w1.heap.size,1,none⟩ (.slice S1 m1 d1))) (fun k hk=>FAR_ k ((trRow.of_int RU.out).ne HQ.out (by decide) k hk)));have GT:Aside0 (w1.heap.size≤w1.heap.size):=⟨Nat.le_refl _⟩;clear FAR_;obtain⟨gt,hgt⟩:∃x,x=w1.heap.size:=⟨_,rfl⟩;generalize ((w2.setCell ⟨w1.heap.size,0,none⟩ (.slice S0 m0 d0)).setCell ⟨w1.heap.size,1,none⟩ (.slice S1 m1 d1))=w3 at*;rw[←hgt] at BT ⊢;have GT_:Aside0 (w1.heap.size≤gt):=⟨by rw[hgt];exact Nat.le_refl _⟩;clear GT;have GT:=GT_;clear GT_)
  have RTm:=Za (trRow.of_mic RT3.out)
  have U1:Aside0 (∀k,(Value.slice S1 m1 d1).ownBlock=some k→w1.heap.size≤k):=⟨fun k hk=>Nat.le_trans (by first|exact Nat.le_refl _|(show w1.heap.size≤(w1.heap.push _).size;simp)) (Yo RU.out k hk)⟩
  have U0:Aside0 (∀k,(Value.slice S0 m0 d0).ownBlock=some k→w1.heap.size≤k):=⟨fun k hk=>Nat.le_trans (by first|exact Nat.le_refl _|(show w1.heap.size≤(w1.heap.push _).size;simp)) (Yo RT.out k hk)⟩
  have RUi:=Za (trRow.of_int RU3.out)
  have HI3:=Za ((boP_loc _ _ _ _).below (Nat.le_trans BWC.out HB1.out.size) HI1.out HB3.out)
  have HA0:=Za (Sep.After.of_below (Zj HB1.out HB3.out) F)
  have BW3:=Za (Nat.le_trans (Nat.le_trans BWC.out HB1.out.size) HB3.out.size)
  have FL:Aside0 (∀k,F k→k<w1.heap.size):=⟨fun k hk=>((boP_loc _ _ _ _).lt HI1.out k hk).2⟩
  have FG:Aside0 (F g∧∀k,(Value.slice Am s.mem.length cm).ownBlock=some k→F k):=⟨by
   obtain⟨_,_,_,_,_,_,hF⟩:=HI.out
   exact⟨(hF g).2 (.inl rfl),fun k hk=>(hF k).2 (.inr (.inl hk))⟩⟩
  have NGT0:Aside0 (¬F gt):=⟨fun h=>by have:=FL.out gt h;have:=GT.out;omega⟩
  clear RT RU RT3 HBX HB2 BP2 HBg2 HBg hgt
  (try clear hq0 hq1 hq2 hq3 HQ)
  clear hk0 hk1 hk2 nk0 nk1 nk2 nw1 nw2 nw3 hg0 hg1 hp1
  have ht0:w3.cell? ⟨gt,0,none⟩=some (.slice S0 m0 d0):=(Zb BT.out 0).trans rfl
  have ht1:w3.cell? ⟨gt,1,none⟩=some (.slice S1 m1 d1):=(Zb BT.out 1).trans rfl
  go_wp2
  go_loopg [24] (m0+1) (fun kq v24 w'=>∃(i:Int) (sj:Bo) (Fj:Nat→Prop),v24= .int .i64 i∧Aside0 ((0≤i∧i≤(m0:Int))∧kq+i.toNat=m0+1)∧Aside0 (taskGo (T.drop i.toNat) sj=some (b2,r2))∧Aside0 (boP B g (.slice Am s.mem.length cm) sj Fj w')∧Aside0 (Sep.After F w3 Fj w'))
  case atStart=>exact⟨0,s,F,z9_16,⟨⟨by omega,by omega⟩,by simp⟩,⟨by simpa using HGO.out⟩,HI3,⟨Sep.After.refl F w3⟩⟩
  case round=>
   obtain⟨i,sj,Fj,rfl,HX,HG,HJ,HAJ⟩:=hrel
   have BWR:Aside0 (B≤wr.heap.size):=⟨Nat.le_trans BW3.out HAJ.out.size⟩
   cases gk with
   |zero=>have:=HX.out;omega
   |succ k1=>
   by_cases c3:i<(m0:Int)
   ·have c3b0:decide (i<(m0:Int))=true:=Zq c3
    have hg:=HG.out
    rw[drop_at z84 HX.out.1.1 (by rw[←HM0.out];exact c3)] at hg
    change taskGo (rd_T84 T i::T.drop (i+1).toNat) sj=some (b2,r2) at hg
    have RLW:=Za (RTm.out.keep (w1:=wr) (fun k hk=>HAJ.out.kept.2 k (Kd.R_lt RTm.out k hk) (fun h=>by have:=FL.out k h;have:=U0.out k hk;omega)))
    obtain⟨ad,eA,hx0,hx1,hx2⟩:=at_T84 (Yp RLW.out).2.2 i HX.out.1.1 (by rw[←HM0.out];exact c3)
    subst eA
    obtain⟨x,ex⟩:∃x,x=rd_T84 T i:=⟨_,rfl⟩
    rw[←ex] at hx0 hx1 hx2 hg
    have HX0:=Za hx0
    have HX1:=Za hx1
    have HX2:=Za hx2
    have p5:=eq_true HX.out.1.1
    have q5:=eq_true c3
    have N1:Aside0 (wrap64 (i+1)=i+1):=⟨by have:=HX.out;have:=HTL.out;have:=HM0.out;unfold wrap64;omega⟩
    clear ex c3
    unfold taskGo at hg
    by_cases c4:sj.lf<x.f0
    ·rw[if_pos c4] at hg
     obtain⟨eb,er⟩:=Prod.mk.inj (Zk hg)
     subst eb er
     have ES:Aside0 (sj.spend x.f0=(false,sj)):=⟨if_pos c4⟩
     clear c4
     have he:=HEND.out
     rw[if_neg (by decide)] at he
     obtain⟨eb,er⟩:=Prod.mk.inj (Zk he)
     subst eb er
     go_wp2_with (first|((with_reducible refine Zp (N:=9) rfl ?_);refine Zr ?hg (N:=9) ?hd (cs:= #[.int .i64 0,.int .i64 0,.int .i64 0]) (t:=84) ?hr ?_;(case hd=>rfl);(case hg=>rfl);(case hr=>exact z9_5);intro gv hgv wv hcs hb;have LE_:Aside0 (wr.heap.size≤gv):=⟨Nat.le_of_eq hgv.symm⟩;have HBm:=Za hb;have BV:=Za hcs;clear hgv hb hcs;obtain⟨⟨_,_,_⟩,⟨_,_,_⟩⟩:=Sep.blk3 BV.out;have hx0:=pw_cell_below HBm.out HX0.out;have hx1:=pw_cell_below HBm.out HX1.out;have hx2:=pw_cell_below HBm.out HX2.out)|((with_reducible refine Ye (t:=84) (p:=9) rfl ?_);refine Yd (t:=84) (p:=9) (v:= .tmp 27) (w1:=Sep.put3 wv gv (.int .i64 x.f0) (.int .i64 x.f1) (.int .i64 x.f2)) ?hg ?ho ?hn ?hr ?_;(case ho=>rfl);(case hg=>rfl);(case hn=>rfl);(case hr=>exact z9_5);intro w4 hw;have hb:Below wr.heap.size wr w4:=hw ▸ Sep.put3_below HBm.out LE_.out (.int .i64 x.f0) (.int .i64 x.f1) (.int .i64 x.f2);have BV2:Aside0 (w4.heap[gv]? =some (.cells #[.int .i64 x.f0,.int .i64 x.f1,.int .i64 x.f2] 84 (0,0))):=⟨by rw[hw];exact Sep.put3_blk BV.out (.int .i64 x.f0) (.int .i64 x.f1) (.int .i64 x.f2)⟩;have HJ2:=Za ((boP_loc _ _ _ _).below BWR.out HJ.out hb);have HA2:=Za (HAJ.out.trans (Sep.After.of_below hb Fj));have NV:Aside0 (¬Fj gv):=⟨fun h=>by have:=((boP_loc _ _ _ _).lt HJ.out gv h).2;have:=LE_.out;omega⟩;have HZ4:Aside0 (wv.heap.size≤w4.heap.size):=⟨by rw[hw,Sep.put3_size];exact Nat.le_refl _⟩;clear hw hb;obtain⟨⟨_,_,_⟩,-⟩:=Sep.blk3 BV2.out)|(go_at_call 90;(with_reducible refine(bo_spend B g _ sj x.f0 Fj _ HJ2.out).mono ?_);rintro e w5 ⟨he,F3,hI3,hA3⟩;rw[ES.out] at he hI3;dsimp only at he hI3;subst he;have HJ3:=Za hI3;have HA3:=Za (HA2.out.trans hA3);have BV3:=Za (hA3.blk BV2.out NV.out);have NV3:=Za (hA3.out BV2.out NV.out);have HA23:=Za (show wr.heap.size≤w5.heap.size from Nat.le_trans (Nat.le_trans HBm.out.size (by exact HZ4.out)) hA3.size);clear hI3 hA3;obtain⟨⟨_,_,_⟩,-⟩:=Sep.blk3 BV3.out)|fail)
     go_ret
     exact⟨rfl,_,HJ3.out,HA0.out.trans HA3.out⟩
    rw[if_neg c4] at hg
    have ES:Aside0 (sj.spend x.f0=(true,{sj with lf:=wrap64 (sj.lf - x.f0)})):=⟨if_neg c4⟩
    clear c4
    by_cases c6:x.f1= -1
    ·rw[if_pos c6] at hg
     have C6:=Za c6
     by_cases c7:x.f0=5
     ·rw[if_pos c7] at hg
      have C7:=Za c7
      have HG2:=Za hg
      have e6:(x.f1 != -1)=false:=bne_eq_false_iff_eq.mpr c6
      clear c6 c7 hg
      go_wp2_with (first|((with_reducible refine Zp (N:=9) rfl ?_);refine Zr ?hg (N:=9) ?hd (cs:= #[.int .i64 0,.int .i64 0,.int .i64 0]) (t:=84) ?hr ?_;(case hd=>rfl);(case hg=>rfl);(case hr=>exact z9_5);intro gv hgv wv hcs hb;have LE_:Aside0 (wr.heap.size≤gv):=⟨Nat.le_of_eq hgv.symm⟩;have HBm:=Za hb;have BV:=Za hcs;clear hgv hb hcs;obtain⟨⟨_,_,_⟩,⟨_,_,_⟩⟩:=Sep.blk3 BV.out;have hx0:=pw_cell_below HBm.out HX0.out;have hx1:=pw_cell_below HBm.out HX1.out;have hx2:=pw_cell_below HBm.out HX2.out)|((with_reducible refine Ye (t:=84) (p:=9) rfl ?_);refine Yd (t:=84) (p:=9) (v:= .tmp 27) (w1:=Sep.put3 wv gv (.int .i64 x.f0) (.int .i64 x.f1) (.int .i64 x.f2)) ?hg ?ho ?hn ?hr ?_;(case ho=>rfl);(case hg=>rfl);(case hn=>rfl);(case hr=>exact z9_5);intro w4 hw;have hb:Below wr.heap.size wr w4:=hw ▸ Sep.put3_below HBm.out LE_.out (.int .i64 x.f0) (.int .i64 x.f1) (.int .i64 x.f2);have BV2:Aside0 (w4.heap[gv]? =some (.cells #[.int .i64 x.f0,.int .i64 x.f1,.int .i64 x.f2] 84 (0,0))):=⟨by rw[hw];exact Sep.put3_blk BV.out (.int .i64 x.f0) (.int .i64 x.f1) (.int .i64 x.f2)⟩;have HJ2:=Za ((boP_loc _ _ _ _).below BWR.out HJ.out hb);have HA2:=Za (HAJ.out.trans (Sep.After.of_below hb Fj));have NV:Aside0 (¬Fj gv):=⟨fun h=>by have:=((boP_loc _ _ _ _).lt HJ.out gv h).2;have:=LE_.out;omega⟩;have HZ4:Aside0 (wv.heap.size≤w4.heap.size):=⟨by rw[hw,Sep.put3_size];exact Nat.le_refl _⟩;clear hw hb;obtain⟨⟨_,_,_⟩,-⟩:=Sep.blk3 BV2.out)|(go_at_call 90;(with_reducible refine(bo_spend B g _ sj x.f0 Fj _ HJ2.out).mono ?_);rintro e w5 ⟨he,F3,hI3,hA3⟩;rw[ES.out] at he hI3;dsimp only at he hI3;subst he;have HJ3:=Za hI3;have HA3:=Za (HA2.out.trans hA3);have BV3:=Za (hA3.blk BV2.out NV.out);have NV3:=Za (hA3.out BV2.out NV.out);have HA23:=Za (show wr.heap.size≤w5.heap.size from Nat.le_trans (Nat.le_trans HBm.out.size (by exact HZ4.out)) hA3.size);clear hI3 hA3;obtain⟨⟨_,_,_⟩,-⟩:=Sep.blk3 BV3.out)|(go_at_call 91;(with_reducible refine(impl_isSenseStep.calls _ _ _ true _ (sense_eq _ _ _ true (by first|(simp[C6.out,C7.out];done)|(simp[C6.out];done)))).mono ?_);rintro e w6 ⟨rfl,hb⟩;have HJ4:=Za ((boP_loc _ _ _ _).below (Nat.le_trans BWR.out (by have:=HA3.out.size;have:=HAJ.out.size;have:=HA23.out;omega)) HJ3.out hb);have HA4:=Za (HA3.out.trans (Sep.After.of_below hb F3));have BV4:=Za (Zi BV3.out hb);clear hb;obtain⟨⟨_,_,_⟩,-⟩:=Sep.blk3 BV4.out;obtain⟨v5,P5,hb5,hm5,hu5,hD5,hF5⟩:=HJ4.out;have HB5:=Za hb5;have HM5:=Za hm5;have HU5:=Za hu5;have HD5:=Za hD5;have HF5:=Za hF5;clear hb5 hm5 hu5 hD5 hF5;obtain⟨_,_,_,_⟩:=boB HB5.out;have hf51:=Zc HB5.out 1)|((with_reducible refine Ye (t:=3) (p:=41) rfl ?_);refine Yd (t:=3) (p:=41) (v:= .tmp 39) (w1:=w6.setCell ⟨g,1,none⟩ (.int .i64 (wrap64 (sj.at_+1)))) ?hg ?ho ?hn ?hr ?_;(case ho=>rfl);(case hg=>rfl);(case hn=>rfl);(case hr=>exact z9_5);intro w7 hw;obtain⟨F7,i7,a7⟩:=boP_cell (i:=1) (u:= .int .i64 (wrap64 (sj.at_+1))) (s':={sj with lf:=wrap64 (sj.lf - x.f0),at_:=wrap64 (sj.at_+1)}) HB5.out HM5.out HU5.out HD5.out HF5.out rfl rfl rfl;rw[←hw] at i7 a7;have HJ7:=Za i7;have HA7:=Za (HA4.out.trans a7);have NVg:w7.heap[gv]? =some (.cells #[.int .i64 x.f0,.int .i64 x.f1,.int .i64 x.f2] 84 (0,0)):=(by rw[hw];exact(Below.heap_setCell _ _ _ gv (blk_ne BV4.out HB5.out (by decide))).trans BV4.out);clear i7 a7 hw;obtain⟨⟨_,_,_⟩,-⟩:=Sep.blk3 NVg)|fail)
      go_roundg k1
      case measure=>omega
      case rel=>exact⟨wrap64 (i+1),_,F7,z9_16,⟨by rw[N1.out];have:=HX.out;have:=of_eq_true q5;omega,by rw[N1.out];have:=HX.out;omega⟩,⟨by rw[N1.out];exact HG2.out⟩,⟨HJ7.out⟩,⟨HA7.out⟩⟩
     ·rw[if_neg c7] at hg
      have C7:=Za c7
      have HG2:=Za hg
      have e6:(x.f1 != -1)=false:=bne_eq_false_iff_eq.mpr c6
      clear c6 c7 hg
      go_wp2_with (first|((with_reducible refine Zp (N:=9) rfl ?_);refine Zr ?hg (N:=9) ?hd (cs:= #[.int .i64 0,.int .i64 0,.int .i64 0]) (t:=84) ?hr ?_;(case hd=>rfl);(case hg=>rfl);(case hr=>exact z9_5);intro gv hgv wv hcs hb;have LE_:Aside0 (wr.heap.size≤gv):=⟨Nat.le_of_eq hgv.symm⟩;have HBm:=Za hb;have BV:=Za hcs;clear hgv hb hcs;obtain⟨⟨_,_,_⟩,⟨_,_,_⟩⟩:=Sep.blk3 BV.out;have hx0:=pw_cell_below HBm.out HX0.out;have hx1:=pw_cell_below HBm.out HX1.out;have hx2:=pw_cell_below HBm.out HX2.out)|((with_reducible refine Ye (t:=84) (p:=9) rfl ?_);refine Yd (t:=84) (p:=9) (v:= .tmp 27) (w1:=Sep.put3 wv gv (.int .i64 x.f0) (.int .i64 x.f1) (.int .i64 x.f2)) ?hg ?ho ?hn ?hr ?_;(case ho=>rfl);(case hg=>rfl);(case hn=>rfl);(case hr=>exact z9_5);intro w4 hw;have hb:Below wr.heap.size wr w4:=hw ▸ Sep.put3_below HBm.out LE_.out (.int .i64 x.f0) (.int .i64 x.f1) (.int .i64 x.f2);have BV2:Aside0 (w4.heap[gv]? =some (.cells #[.int .i64 x.f0,.int .i64 x.f1,.int .i64 x.f2] 84 (0,0))):=⟨by rw[hw];exact Sep.put3_blk BV.out (.int .i64 x.f0) (.int .i64 x.f1) (.int .i64 x.f2)⟩;have HJ2:=Za ((boP_loc _ _ _ _).below BWR.out HJ.out hb);have HA2:=Za (HAJ.out.trans (Sep.After.of_below hb Fj));have NV:Aside0 (¬Fj gv):=⟨fun h=>by have:=((boP_loc _ _ _ _).lt HJ.out gv h).2;have:=LE_.out;omega⟩;have HZ4:Aside0 (wv.heap.size≤w4.heap.size):=⟨by rw[hw,Sep.put3_size];exact Nat.le_refl _⟩;clear hw hb;obtain⟨⟨_,_,_⟩,-⟩:=Sep.blk3 BV2.out)|(go_at_call 90;(with_reducible refine(bo_spend B g _ sj x.f0 Fj _ HJ2.out).mono ?_);rintro e w5 ⟨he,F3,hI3,hA3⟩;rw[ES.out] at he hI3;dsimp only at he hI3;subst he;have HJ3:=Za hI3;have HA3:=Za (HA2.out.trans hA3);have BV3:=Za (hA3.blk BV2.out NV.out);have NV3:=Za (hA3.out BV2.out NV.out);have HA23:=Za (show wr.heap.size≤w5.heap.size from Nat.le_trans (Nat.le_trans HBm.out.size (by exact HZ4.out)) hA3.size);clear hI3 hA3;obtain⟨⟨_,_,_⟩,-⟩:=Sep.blk3 BV3.out)|(go_at_call 91;(with_reducible refine(impl_isSenseStep.calls _ _ _ false _ (sense_eq _ _ _ false (by first|(simp[C6.out,C7.out];done)|(simp[C6.out];done)))).mono ?_);rintro e w6 ⟨rfl,hb⟩;have HJ4:=Za ((boP_loc _ _ _ _).below (Nat.le_trans BWR.out (by have:=HA3.out.size;have:=HAJ.out.size;have:=HA23.out;omega)) HJ3.out hb);have HA4:=Za (HA3.out.trans (Sep.After.of_below hb F3));have BV4:=Za (Zi BV3.out hb);clear hb;obtain⟨⟨_,_,_⟩,-⟩:=Sep.blk3 BV4.out;obtain⟨v5,P5,hb5,hm5,hu5,hD5,hF5⟩:=HJ4.out;have HB5:=Za hb5;have HM5:=Za hm5;have HU5:=Za hu5;have HD5:=Za hD5;have HF5:=Za hF5;clear hb5 hm5 hu5 hD5 hF5;obtain⟨_,_,_,_⟩:=boB HB5.out;have hf51:=Zc HB5.out 1)|fail)
      go_roundg k1
      case measure=>omega
      case rel=>exact⟨wrap64 (i+1),_,F3,z9_16,⟨by rw[N1.out];have:=HX.out;have:=of_eq_true q5;omega,by rw[N1.out];have:=HX.out;omega⟩,⟨by rw[N1.out];exact HG2.out⟩,⟨HJ4.out⟩,⟨HA4.out⟩⟩
    ·rw[if_neg c6] at hg
     by_cases c5:0≤x.f1∧x.f1<(sj.mem.length:Int)
     case neg=>rw[if_neg c5] at hg;cases hg
     rw[if_pos c5] at hg
     have C6:=Za c6
     have C5:=Za c5
     have HG2:=Za hg
     have e6:(x.f1 != -1)=true:=bne_iff_ne.mpr c6
     clear c6 c5 hg
     go_wp2_with (first|((with_reducible refine Zp (N:=9) rfl ?_);refine Zr ?hg (N:=9) ?hd (cs:= #[.int .i64 0,.int .i64 0,.int .i64 0]) (t:=84) ?hr ?_;(case hd=>rfl);(case hg=>rfl);(case hr=>exact z9_5);intro gv hgv wv hcs hb;have LE_:Aside0 (wr.heap.size≤gv):=⟨Nat.le_of_eq hgv.symm⟩;have HBm:=Za hb;have BV:=Za hcs;clear hgv hb hcs;obtain⟨⟨_,_,_⟩,⟨_,_,_⟩⟩:=Sep.blk3 BV.out;have hx0:=pw_cell_below HBm.out HX0.out;have hx1:=pw_cell_below HBm.out HX1.out;have hx2:=pw_cell_below HBm.out HX2.out)|((with_reducible refine Ye (t:=84) (p:=9) rfl ?_);refine Yd (t:=84) (p:=9) (v:= .tmp 27) (w1:=Sep.put3 wv gv (.int .i64 x.f0) (.int .i64 x.f1) (.int .i64 x.f2)) ?hg ?ho ?hn ?hr ?_;(case ho=>rfl);(case hg=>rfl);(case hn=>rfl);(case hr=>exact z9_5);intro w4 hw;have hb:Below wr.heap.size wr w4:=hw ▸ Sep.put3_below HBm.out LE_.out (.int .i64 x.f0) (.int .i64 x.f1) (.int .i64 x.f2);have BV2:Aside0 (w4.heap[gv]? =some (.cells #[.int .i64 x.f0,.int .i64 x.f1,.int .i64 x.f2] 84 (0,0))):=⟨by rw[hw];exact Sep.put3_blk BV.out (.int .i64 x.f0) (.int .i64 x.f1) (.int .i64 x.f2)⟩;have HJ2:=Za ((boP_loc _ _ _ _).below BWR.out HJ.out hb);have HA2:=Za (HAJ.out.trans (Sep.After.of_below hb Fj));have NV:Aside0 (¬Fj gv):=⟨fun h=>by have:=((boP_loc _ _ _ _).lt HJ.out gv h).2;have:=LE_.out;omega⟩;have HZ4:Aside0 (wv.heap.size≤w4.heap.size):=⟨by rw[hw,Sep.put3_size];exact Nat.le_refl _⟩;clear hw hb;obtain⟨⟨_,_,_⟩,-⟩:=Sep.blk3 BV2.out)|(go_at_call 90;(with_reducible refine(bo_spend B g _ sj x.f0 Fj _ HJ2.out).mono ?_);rintro e w5 ⟨he,F3,hI3,hA3⟩;rw[ES.out] at he hI3;dsimp only at he hI3;subst he;have HJ3:=Za hI3;have HA3:=Za (HA2.out.trans hA3);have BV3:=Za (hA3.blk BV2.out NV.out);have NV3:=Za (hA3.out BV2.out NV.out);have HA23:=Za (show wr.heap.size≤w5.heap.size from Nat.le_trans (Nat.le_trans HBm.out.size (by exact HZ4.out)) hA3.size);clear hI3 hA3;obtain⟨⟨_,_,_⟩,-⟩:=Sep.blk3 BV3.out)|(go_at_call 91;(with_reducible refine(impl_isSenseStep.calls _ _ _ false _ (sense_eq _ _ _ false (by first|(simp[C6.out,C7.out];done)|(simp[C6.out];done)))).mono ?_);rintro e w6 ⟨rfl,hb⟩;have HJ4:=Za ((boP_loc _ _ _ _).below (Nat.le_trans BWR.out (by have:=HA3.out.size;have:=HAJ.out.size;have:=HA23.out;omega)) HJ3.out hb);have HA4:=Za (HA3.out.trans (Sep.After.of_below hb F3));have BV4:=Za (Zi BV3.out hb);clear hb;obtain⟨⟨_,_,_⟩,-⟩:=Sep.blk3 BV4.out;obtain⟨v5,P5,hb5,hm5,hu5,hD5,hF5⟩:=HJ4.out;have HB5:=Za hb5;have HM5:=Za hm5;have HU5:=Za hu5;have HD5:=Za hD5;have HF5:=Za hF5;clear hb5 hm5 hu5 hD5 hF5;obtain⟨_,_,_,_⟩:=boB HB5.out;have hf51:=Zc HB5.out 1)|fail)
     obtain⟨g0,eg,en,hcell,hfr,hput⟩:=(Sep.rowI.of_R HM5.out).at_ x.f1 C5.out.1 C5.out.2
     cases eg
     have hne1:g0≠g:=HM5.out.ne HB5.out (by decide) g0 rfl
     have hne2:g≠g0:=fun h=>hne1 h.symm
     have hne3:g0≠gv:=HM5.out.ne BV4.out (by decide) g0 rfl
     have hne4:gv≠g0:=fun h=>hne3 h.symm
     have p6:=eq_true C5.out.1
     have q6:(x.f1<(s.mem.length:Int))=True:=eq_true (by rw[en];exact C5.out.2)
     have HP3:=Za (hput x.f2)
     clear hput en
     go_region_held3 (fun w'=>w'.cell? ⟨g,0,none⟩=some (.slice (some ⟨g0,0,none⟩) s.mem.length cm)∧w'.cell? ⟨gv,1,none⟩=some (.int .i64 x.f1)∧w'.cell? ⟨gv,2,none⟩=some (.int .i64 x.f2)) (go_keep) (fail)
     go_wp2
     obtain⟨F8,i8,a8⟩:=boP_mem (w:=w6.drew) (i:=x.f1.toNat) (g3:=g0) (u:= .int .i64 x.f2) HB5.out HM5.out HU5.out HD5.out HF5.out rfl (Sep.rowI.to_R HP3.out (fun k hk=>Yo HM5.out k hk) (fun _ hk=>hk))
     have HI8:=Za i8
     have HA8:=Za (HA4.out.trans ((Sep.After.of_below (by repeat(first|exact Zx _ _|apply Zf|apply Ze):Below w6.heap.size w6 w6.drew) _).trans a8))
     clear i8 a8
     go_roundg k1
     case measure=>omega
     case rel=>exact⟨wrap64 (i+1),_,F8,z9_16,⟨by rw[N1.out];have:=HX.out;have:=of_eq_true q5;omega,by rw[N1.out];have:=HX.out;omega⟩,⟨by rw[N1.out];exact HG2.out⟩,⟨HI8.out⟩,⟨HA8.out⟩⟩
   ·have c3b0:decide (i<(m0:Int))=false:=Yf c3
    have hg:=HG.out
    rw[List.drop_eq_nil_of_le (by have:=HX.out;have:=HM0.out;omega)] at hg
    obtain⟨eb,er⟩:=Prod.mk.inj (Zk hg)
    subst eb er
    clear c3
    have he:=HEND.out
    rw[if_pos rfl] at he
    by_cases cu:sj.us.length<1000000
    case neg=>rw[if_neg cu] at he;cases he
    rw[if_pos cu] at he
    obtain⟨eb,er⟩:=Prod.mk.inj (Zk he)
    subst eb er
    have HUL:=Za cu
    obtain⟨v2,P,hb,hm,hu,hD,hF⟩:=HJ.out
    obtain⟨A2,c2,e2⟩:=Ym (Kd.S_R hu)
    subst e2
    have HBe:=Za hb
    have HMe:=Za hm
    have HUe:=Za hu
    have HDe:=Za hD
    have HFe:=Za hF
    have NE2:Aside0 (∀k,(Value.slice A2 sj.us.length c2).ownBlock=some k→P k):=⟨fun k hk=>(Kd.S_R hu).1 k hk⟩
    have BTe:=Za (HAJ.out.blk BT.out NGT0.out)
    have NGT:Aside0 (¬P gt):=⟨fun h=>HAJ.out.out BT.out NGT0.out ((hF gt).2 (.inr (.inr h)))⟩
    have RUk:=Za (RUi.out.keep (w1:=wr) (fun k hk=>HAJ.out.kept.2 k (Kd.R_lt RUi.out k hk) (fun h=>by have:=FL.out k h;have:=U1.out k hk;omega)))
    have RUe:Aside0 (trRow (Kd.int .i64) 3 B wr (.slice S1 m1 d1) u):=⟨Kd.R_of_own (own_less (Kd.own_of_R RUk.out) (Nat.le_trans BWC.out (Nat.le_trans HB1.out.size (by first|exact Nat.le_refl _|(show w1.heap.size≤(w1.heap.push _).size;simp))))) (fun _ hk=>hk)⟩
    have UN:Aside0 (∀k,(Value.slice S1 m1 d1).ownBlock=some k→¬P k):=⟨fun k hk h=>(HAJ.out.sub k ((hF k).2 (.inr (.inr h)))).elim (fun h=>by have:=FL.out k h;have:=U1.out k hk;omega) (fun h=>by have:=Kd.R_lt RUi.out k hk;omega)⟩
    have HQ9:Aside0 (∀k,(Value.slice S1 m1 d1).ownBlock=some k→k≠g∧(Value.slice Am s.mem.length cm).ownBlock≠some k):=⟨fun k hk=>⟨fun e=>by have:=FL.out g FG.out.1;have:=U1.out k hk;omega,fun e=>by have:=FL.out k (FG.out.2 k e);have:=U1.out k hk;omega⟩⟩
    have HAF:=Za (HA0.out.trans HAJ.out)
    clear cu he hb hm hu hD hF RUk
    go_wp2
    refine start_ (n:=12) (S:=fun w'=>w'.cell? ⟨g,2,none⟩=some (.slice A2 sj.us.length c2)∧w'.cell? ⟨gt,1,none⟩=some (.slice S1 m1 d1)) (ds:=[11]) #[false,false,false,false,false,false,false,false,false,false,false,false] z9_15 rfl rfl ⟨(Zb (HBe.out) 2).trans rfl,(Zb (BTe.out) 1).trans rfl⟩ (fun hHeld=> ?_)
    refine pure_ (i:=0) (N:=some 55) (v:= ?_) (a':= ?_) #[true,false,false,false,false,false,false,false,false,false,false,false] rfl rfl z9_15 (fun _ _ _ h=>h) (Or.inl ⟨by rfl,?_⟩) ?_ ?_
    rotate_left
    ·intro w'
     go_simp
     with_reducible rfl
    rotate_left
    ·simp only[Act.put,Zy,Ya,Yb,i64_w,i32_w]
     rfl
    refine pure_ (i:=1) (N:=some 56) (v:= ?_) (a':= ?_) #[true,true,false,false,false,false,false,false,false,false,false,false] rfl rfl z9_15 (fun _ _ _ h=>h) (Or.inl ⟨by rfl,?_⟩) ?_ ?_
    rotate_left
    ·intro w'
     go_simp
     with_reducible rfl
    rotate_left
    ·simp only[Act.put,Zy,Ya,Yb,i64_w,i32_w]
     rfl
    refine pure_ (i:=2) (N:=some 57) (v:= ?_) (a':= ?_) #[true,true,true,false,false,false,false,false,false,false,false,false] rfl rfl z9_15 (fun _ _ _ h=>h) (Or.inl ⟨by rfl,?_⟩) ?_ ?_
    rotate_left
    ·intro w'
     go_simp
     with_reducible rfl
    rotate_left
    ·simp only[Act.put,Zy,Ya,Yb,i64_w,i32_w]
     rfl
    refine pure_ (i:=3) (N:=some 58) (v:= ?_) (a':= ?_) #[true,true,true,true,false,false,false,false,false,false,false,false] rfl rfl z9_15 (fun _ _ _ h=>h) (Or.inl ⟨by rfl,?_⟩) ?_ ?_
    rotate_left
    ·intro w'
     go_simp
     with_reducible rfl
    rotate_left
    ·simp only[Act.put,Zy,Ya,Yb,i64_w,i32_w]
     rfl
    refine take_ (i:=4) (N:=some 59) (v:= ?_) (a':= ?_) #[true,true,true,true,true,false,false,false,false,false,false,false] rfl rfl z9_15 (fun _ _ _ h=>h) (Or.inl ⟨by rfl,?_⟩) hHeld ?_ ?_
    rotate_left
    ·intro w' s0
     obtain⟨_,_⟩:=s0
     go_simp
     with_reducible rfl
    rotate_left
    ·simp only[Act.put,Zy,Ya,Yb,i64_w,i32_w]
     rfl
    refine pure_ (i:=5) (N:=some 60) (v:= ?_) (a':= ?_) #[true,true,true,true,true,true,false,false,false,false,false,false] rfl rfl z9_15 (fun _ _ _ h=>h) (Or.inl ⟨by rfl,?_⟩) ?_ ?_
    rotate_left
    ·intro w'
     go_simp
     with_reducible rfl
    rotate_left
    ·simp only[Act.put,Zy,Ya,Yb,i64_w,i32_w]
     rfl
    refine take_ (i:=6) (N:=some 61) (v:= ?_) (a':= ?_) #[true,true,true,true,true,true,true,false,false,false,false,false] rfl rfl z9_15 (fun _ _ _ h=>h) (Or.inl ⟨by rfl,?_⟩) hHeld ?_ ?_
    rotate_left
    ·intro w' s0
     obtain⟨_,_⟩:=s0
     go_simp
     with_reducible rfl
    rotate_left
    ·simp only[Act.put,Zy,Ya,Yb,i64_w,i32_w]
     rfl
    refine one_ (i:=7) (N:=some 62) #[true,true,true,true,true,true,true,true,false,false,false,false] rfl rfl z9_15 (by decide) (fun K hK=> ?_)
    refine value_ (w1:= ?_) (v:= ?_) (by rfl) rfl ?_ ?_
    rotate_left 2
    ·go_simp
     constructor
     ·rfl
     ·rfl
    refine hK _ _ ⟨(Zb (blk_alloc (w:=wr) HBe.out _) 2).trans rfl,(Zb (blk_alloc (w:=wr) BTe.out _) 1).trans rfl⟩ (fun hHeld=> ?_)
    clear hK K
    refine norm_ (a':= ?_) ?_ ?_
    rotate_left
    ·show Act.put _ (some 62) _=_
     simp only[Act.put,Zy,Ya,Yb,i64_w,i32_w]
     rfl
    refine one_ (i:=8) (N:=some 63) #[true,true,true,true,true,true,true,true,true,false,false,false] rfl rfl z9_15 (by decide) (fun K hK=> ?_)
    refine Kd.S_append_step (w0:=wr) (W:=wr.drew) kRR B (by rfl) (.tmp 59) (.tmp 62) 32 27 (.slice none 0 0) 24 rfl Tryz.underlying32 info27 rfl (by decide) (by decide) (.slice A2 sj.us.length c2) sj.us u [.slice S1 m1 d1] (fun k=>P k∨(Value.slice S1 m1 d1).ownBlock=some k∨wr.heap.size≤k) (fun k=>(Value.slice S1 m1 d1).ownBlock=some k) rfl rfl (Kd.M_row RUe.out) (fun k hk=>⟨.inr (.inl hk),fun h=>UN.out k hk (NE2.out k h.symm)⟩) (fun k hk=> .inr (.inr hk)) (Kd.S_mono HUe.out (fun k hk=>⟨.inl hk,fun h=>UN.out k h hk⟩)) z9_14 BWR.out (by have:=HUL.out;omega) ?_
    intro v9 w9 ho9 hb9 hg9 hat9
    obtain⟨A9,c9,e9⟩:=Ym (Kd.S_R ho9)
    rw[List.length_append,List.length_singleton] at e9
    subst e9
    have HO9:=Za ho9
    have HG9:Aside0 (wr.grownBy w9 (Value.slice A2 sj.us.length c2).ownBlock):=⟨⟨hg9.os,hg9.tape,hg9.output,hg9.size,hg9.block⟩⟩
    have HBe9:=Za (blk_grown (w:=wr) HBe.out HG9.out (fun h=>(HDe.out.1 g (NE2.out g h.symm)).2.1 rfl))
    have BTe9:=Za (blk_grown (w:=wr) BTe.out HG9.out (fun h=>NGT.out (NE2.out gt h.symm)))
    clear ho9 hb9 hg9 hat9
    refine hK _ _ ⟨(Zb (HBe9.out) 2).trans rfl,(Zb (BTe9.out) 1).trans rfl⟩ (fun hHeld=> ?_)
    clear hK K
    refine norm_ (a':= ?_) ?_ ?_
    rotate_left
    ·show Act.put _ (some 63) _=_
     simp only[Act.put,Zy,Ya,Yb,i64_w,i32_w]
     rfl
    refine pure_ (i:=9) (N:=some 64) (v:= ?_) (a':= ?_) #[true,true,true,true,true,true,true,true,true,true,false,false] rfl rfl z9_15 (fun _ _ _ h=>h) (Or.inl ⟨by rfl,?_⟩) ?_ ?_
    rotate_left
    ·intro w'
     go_simp
     with_reducible rfl
    rotate_left
    ·simp only[Act.put,Zy,Ya,Yb,i64_w,i32_w]
     rfl
    refine pure_ (i:=10) (N:=some 65) (v:= ?_) (a':= ?_) #[true,true,true,true,true,true,true,true,true,true,true,false] rfl rfl z9_15 (fun _ _ _ h=>h) (Or.inl ⟨by rfl,?_⟩) ?_ ?_
    rotate_left
    ·intro w'
     go_simp
     with_reducible rfl
    rotate_left
    ·simp only[Act.put,Zy,Ya,Yb,i64_w,i32_w]
     rfl
    refine last_ (i:=11) (N:=none) #[true,true,true,true,true,true,true,true,true,true,true,true] rfl rfl z9_15 (by decide) (fun K hK=> ?_)
    have hU9:w9.cell? ⟨g,2,none⟩=some (.slice A2 sj.us.length c2):=(Zb HBe9.out 2).trans rfl
    have hfU:=Zc HBe9.out 2
    refine skip_ (w1:= ?_) (by rfl) rfl ?_ ?_
    rotate_left
    ·go_simp
     rfl
    refine hK _ _ ?_
    clear hK K
    refine done_ z9_15 ?_
    obtain⟨F9,i9,s9,k9,o9⟩:=boP_us HBe.out HMe.out HUe.out HDe.out HFe.out HQ9.out HO9.out HG9.out NE2.out
    clear hHeld hU9 hfU
    generalize w9.setCell ⟨g,2,none⟩ (.slice A9 (sj.us.length+1) c9)=wf at*
    have I9:=Za i9
    have S9:=Za s9
    have K9:=Za k9
    have O9:=Za o9
    clear i9 s9 k9 o9
    go_wp2
    go_ret
    have hz:=HAF.out.size
    refine⟨rfl,F9,I9.out,⟨⟨Nat.le_trans hz K9.out.1,fun k hk hn=> ?_⟩,fun k hk=> ?_,O9.out.1.trans HAF.out.io.1,O9.out.2.1.trans HAF.out.io.2.1,O9.out.2.2.trans HAF.out.io.2.2⟩⟩
    ·rw[K9.out.2 k (by omega) (fun h=>(HAF.out.sub k h).elim hn (fun h=>by omega))]
     exact HAF.out.kept.2 k hk hn
    ·rcases S9.out k hk with h|h|h
     ·exact HAF.out.sub k h
     ·exact .inr (Nat.le_trans HB1.out.size (U1.out k h))
     ·exact .inr (by omega)
def bootGo (k:Nat) (l0:List S75) (rs:List Int):Nat→Bo→Option Bo
 |0,_=>none
 |n+1,s=>if (s.us.length:Int)<10 then (boTask k l0 rs s).bind fun y=>if y.1=true then bootGo k l0 rs n y.2 else some y.2 else some s
def impl_boot.f (k:Nat) (l0:List S75) (l1 l2:List Int) (a3 a4:Int):Option (List Int×Int×List (List Int)×Int):=
 (slices_Clone_int_int.f l1).bind fun m=>(impl_RecoveryWrites.f k m).bind fun l=>if l.length<1000000 then (recGo l ⟨m,a3,[],a4⟩).bind fun y=>if y.1=true then (bootGo k l0 l2 12 y.2).bind fun s=>some (s.mem,s.at_,s.us,s.lf) else some (y.2.mem,y.2.at_,y.2.us,y.2.lf) else none
set_option maxHeartbeats 8000000 in
set_option maxRecDepth 100000 in
theorem impl_boot.calls (k:Nat) (A0_0:Option Addr) (c0_0:Nat) (l0_0:List S75) (A1:Option Addr) (c1:Nat) (l1:List Int) (A2:Option Addr) (c2:Nat) (l2:List Int) (a3:Int) (a4:Int) (r1:List Int) (r2:Int) (r3:List (List Int)) (r4:Int) (w:World)
  (hr0_0:Kd.C k75 w A0_0 l0_0.length l0_0) (hc0_0:l0_0.length≤c0_0) (hr1:Kd.C (Kd.int .i64) w A1 l1.length l1) (hc1:l1.length≤c1) (hr2:Kd.C (Kd.int .i64) w A2 l2.length l2) (hc2:l2.length≤c2) (h:impl_boot.f k l0_0 l1 l2 a3 a4=some (r1,r2,r3,r4)):
  Calls Tryz.prog 31 #[.agg #[.slice A0_0 l0_0.length c0_0],.slice A1 l1.length c1,.slice A2 l2.length c2,.int .i64 a3,.int .i64 a4] w fun e w'=>∃v0_ v2_:Value,e= .returned (.agg #[v0_,.int .i64 r2,v2_,.int .i64 r4])∧Kd.R (Kd.int .i64) 3 w' w.heap.size (fun _=>True) v0_ r1∧Kd.S (Kd.slice 3 (Kd.int .i64)) 27 w' w.heap.size (fun k_=>some k_≠(v0_:Value).ownBlock) v2_ r3∧Below w.heap.size w w':=by
 unfold impl_boot.f at h
 obtain⟨m,hm,h⟩:=Zg h
 obtain⟨l,hl,h⟩:=Zg h
 by_cases cl:l.length<1000000
 case neg=>rw[if_neg cl] at h;cases h
 rw[if_pos cl] at h
 obtain⟨⟨b1,s1⟩,hg,h⟩:=Zg h
 simp only at h
 have HR0:=Za hr0_0
 have HC0:=Za hc0_0
 have HR1:=Za hr1
 have HC1:=Za hc1
 have HR2:=Za hr2
 have HC2:=Za hc2
 have HM:=Za hm
 have HL:=Za hl
 have HCL:=Za cl
 have HG:=Za hg
 have HEND:=Za h
 clear hr0_0 hc0_0 hr1 hc1 hr2 hc2 hm hl cl hg h
 go_enter Tryz.func31,Tryz.ntmps31
 go_wp2_with (first|((with_reducible refine Zp (N:=5) rfl ?_);refine Zr ?hg (N:=5) ?hd (cs:= #[.slice A0_0 l0_0.length c0_0]) (t:=26) ?hr ?_;(case hd=>rfl);(case hg=>rfl);(case hr=>exact z9_5);intro gp hgv w1 hcs hb;have GP:Aside0 (w.heap.size≤gp):=⟨Nat.le_of_eq hgv.symm⟩;have HW:=Za hb;have BP:=Za hcs;clear hgv hb hcs)|((with_reducible refine Zp (N:=10) rfl ?_);refine Zr ?hg (N:=10) ?hd (cs:= #[.slice none 0 0,.int .i64 0,.slice none 0 0,.int .i64 0]) (t:=34) ?hr ?_;(case hd=>rfl);(case hg=>rfl);(case hr=>exact z9_5);intro g8 hgv w2 hcs hb;have G8:Aside0 (w.heap.size≤g8):=⟨by rw[hgv];exact HW.out.size⟩;have HW2:=Za (Zj HW.out hb);have BP2:=Za (Zi BP.out hb);clear HW BP;have HW:=HW2;have BP:=BP2;have B8:=Za hcs;clear hgv hb hcs HW2 BP2)|(go_at_call 35;(with_reducible refine(slices_Clone_int_int.calls _ _ l1 m _ (Yl HR1.out HW.out) HC1.out HM.out).mono ?_);rintro e w3 ⟨v_,rfl,ho,hb⟩;obtain⟨Am,cm,em⟩:=Ym ho;subst em;have MR:Aside0 (trRow (Kd.int .i64) 3 w.heap.size w3 (.slice Am m.length cm) m):=⟨Kd.R_of_own (own_less (Kd.own_of_R ho) HW.out.size) (fun _ hk=>hk)⟩;have HW3:=Za (Zj HW.out hb);have BP3:=Za (Zi BP.out hb);have B83:=Za (Zi B8.out hb);have MN:Aside0 (∀k,(Value.slice Am m.length cm).ownBlock=some k→k≠g8∧k≠gp):=⟨fun k hk=>⟨fun e=>by have:=Yo ho k hk;have:=blk_lt B8.out;omega,fun e=>by have:=Yo ho k hk;have:=blk_lt BP.out;omega⟩⟩;clear HW BP B8 ho hb;have HW:=HW3;have BP:=BP3;have B8:=B83;clear HW3 BP3 B83)|((with_reducible refine Zp (N:=11) rfl ?_);refine Zr ?hg (N:=11) ?hd (cs:= #[.slice none 0 0,.int .i64 0,.slice none 0 0,.int .i64 0]) (t:=34) ?hr ?_;(case hd=>rfl);(case hg=>rfl);(case hr=>exact z9_5);intro g hgv w4 hcs hb;have GG:Aside0 (w.heap.size≤g):=⟨by rw[hgv];exact HW.out.size⟩;have LE_:Aside0 (w3.heap.size≤g):=⟨Nat.le_of_eq hgv.symm⟩;have HBm:=Za hb;have BG:=Za hcs;clear hgv hb hcs;obtain⟨⟨_,_,_,_⟩,⟨_,_,_,_⟩⟩:=Sep.blk4 BG.out)|((with_reducible refine Ye (t:=34) (p:=11) rfl ?_);refine Yd (t:=34) (p:=11) (v:= .tmp 16) (w1:=Sep.put4 w4 g (.slice Am m.length cm) (.int .i64 a3) (.slice none 0 0) (.int .i64 a4)) ?hg ?ho ?hn ?hr ?_;(case ho=>rfl);(case hg=>rfl);(case hn=>rfl);(case hr=>exact z9_5);intro w5 hw;have hb:Below w3.heap.size w3 w5:=hw ▸ Sep.put4_below HBm.out LE_.out (.slice Am m.length cm) (.int .i64 a3) (.slice none 0 0) (.int .i64 a4);have BG5:=Za (hw ▸ Sep.put4_blk BG.out (.slice Am m.length cm) (.int .i64 a3) (.slice none 0 0) (.int .i64 a4));have HW5:=Za (Zj HW.out hb);have BP5:=Za (Zi BP.out hb);have B85:=Za (Zi B8.out hb);have MR5:=Za (MR.out.keep (w1:=w5) (fun k hk=>hb.block k (Kd.R_lt MR.out k hk)));have NE8:Aside0 (g8≠g∧gp≠g):=⟨by have:=blk_lt B8.out;have:=blk_lt BP.out;have:=LE_.out;omega⟩;clear hw HBm LE_ hb BG HW BP B8 MR)|fail)
 obtain⟨F0,hF0⟩:∃F0:Nat→Prop,∀k,F0 k↔k=g∨(Value.slice Am m.length cm).ownBlock=some k∨(fun _:Nat=>False) k:=⟨_,fun _=>Iff.rfl⟩
 have HI0:Aside0 (boP w.heap.size g (.slice Am m.length cm) ⟨m,a3,[],a4⟩ F0 w5):=⟨.slice none 0 0,fun _=>False,BG5.out,MR5.out,Kd.S_nil _ _ _ _ _,⟨fun k h=>h.elim,GG.out⟩,hF0⟩
 have FB:Aside0 (∀k,F0 k→w.heap.size≤k):=⟨fun k h=>((boP_loc _ _ _ _).lt HI0.out k h).1⟩
 have NF8:Aside0 (¬F0 g8):=⟨fun h=>by
  rcases (hF0 g8).1 h with h|h|h
  ·exact NE8.out.1 h
  ·exact(MN.out g8 h).1 rfl
  ·exact h⟩
 have NFP:Aside0 (¬F0 gp):=⟨fun h=>by
  rcases (hF0 gp).1 h with h|h|h
  ·exact NE8.out.2 h
  ·exact(MN.out gp h).2 rfl
  ·exact h⟩
 clear hF0
 cases b1 with
 |false=>
  have he:=HEND.out
  rw[if_neg (by decide)] at he
  simp only[Option.some.injEq,Prod.mk.injEq] at he
  obtain⟨rfl,rfl,rfl,rfl⟩:=he
  go_wp2_with (first|(go_at_call 61;(with_reducible refine(bo_recover k w.heap.size g _ _ _ ⟨m,a3,[],a4⟩ s1 _ l HCL.out HL.out HG.out F0 _ HW5.out.size HI0.out).mono ?_);rintro e w6 ⟨rfl,F6,hI6,hA6⟩;have HI6:=Za hI6;have HA6:=Za hA6;clear hI6 hA6;have B8x:=Za (HA6.out.blk B85.out NF8.out);obtain⟨v2,P,hb,hm,hu,hD,hF⟩:=HI6.out;obtain⟨A2_,c2_,e2_⟩:=Ym (Kd.S_R hu);obtain⟨n2,hn2⟩:∃x,x=s1.us.length:=⟨_,rfl⟩;rw[←hn2] at e2_;subst e2_;have HBx:=Za hb;have HMx:=Za hm;have HUx:=Za hu;have HDx:=Za hD;have NPx:Aside0 (∀k,P k→k≠g8):=⟨fun k hk e=>HA6.out.out B85.out NF8.out ((hF g8).2 (.inr (.inr (e ▸ hk))))⟩;have HN2x:=Za hn2;clear hb hm hu hD hF hn2;obtain⟨_,_,_,_⟩:=boB HBx.out;obtain⟨⟨_,_,_,_⟩,⟨_,_,_,_⟩⟩:=Sep.blk4 B8x.out)|((with_reducible refine Ye (t:=34) (p:=10) rfl ?_);refine Yd (t:=34) (p:=10) (v:= .tmp 19) (w1:=Sep.put4 w6 g8 (.slice Am m.length cm) (.int .i64 s1.at_) (.slice A2_ n2 c2_) (.int .i64 s1.lf)) ?hg ?ho ?hn ?hr ?_;(case ho=>rfl);(case hg=>rfl);(case hn=>rfl);(case hr=>exact z9_5);intro wy hw;have B8y:=Za (hw ▸ Sep.put4_blk B8x.out (.slice Am m.length cm) (.int .i64 s1.at_) (.slice A2_ n2 c2_) (.int .i64 s1.lf));have FARy:Aside0 ((w6.heap.size≤wy.heap.size∧∀k,k≠g8→wy.heap[k]? =w6.heap[k]?)∧wy.os=w6.os∧wy.tape=w6.tape∧wy.output=w6.output):=⟨by rw[hw];exact⟨⟨by rw[Sep.put4_size];exact Nat.le_refl _,fun k hk=>Sep.put4_far hk _ _ _ _⟩,rfl,rfl,rfl⟩⟩;clear hw)|fail)
  refine bodyPost_ret (results_cell_row rfl _ _ g8 34 #[.slice Am m.length cm,.int .i64 s1.at_,.slice A2_ n2 c2_,.int .i64 s1.lf] (0,0) _ rfl B8y.out Tryz.underlying34 rfl z9_15) rfl ?_
  have HBz:=HA6.out.to_below (w0:=w) FB.out HW5.out
  refine⟨_,_,rfl,(HMx.out.keep (w1:=wy) (fun k hk=>FARy.out.1.2 k (HMx.out.ne B8x.out (by decide) k hk))).int (fun _ _=>trivial),Kd.S_mono (Kd.S_step HUx.out (fun k hk _=>FARy.out.1.2 k (NPx.out k hk))) (fun k hk h=>(HDx.out.1 k hk).2.2 h.symm),FARy.out.2.1.trans HBz.os,FARy.out.2.2.1.trans HBz.tape,FARy.out.2.2.2.trans HBz.output,Nat.le_trans HBz.size FARy.out.1.1,fun k hk=>(FARy.out.1.2 k (by have:=G8.out;omega)).trans (HBz.block k hk)⟩
 |true=>
  have he:=HEND.out
  rw[if_pos rfl] at he
  obtain⟨sr,hgo,he⟩:=Zg he
  simp only[Option.some.injEq,Prod.mk.injEq] at he
  obtain⟨rfl,rfl,rfl,rfl⟩:=he
  have HGO:=Za hgo
  clear hgo
  go_wp2_with (first|(go_at_call 61;(with_reducible refine(bo_recover k w.heap.size g _ _ _ ⟨m,a3,[],a4⟩ s1 _ l HCL.out HL.out HG.out F0 _ HW5.out.size HI0.out).mono ?_);rintro e w6 ⟨rfl,F6,hI6,hA6⟩;have HI6:=Za hI6;have HA6:=Za hA6;clear hI6 hA6)|fail)
  go_loopg [] 12 (fun kq w'=>∃(sj:Bo) (Fj:Nat→Prop),Aside0 (bootGo k l0_0 l2 kq sj=some sr)∧Aside0 (boP w.heap.size g (.slice Am m.length cm) sj Fj w')∧Aside0 (Sep.After F0 w5 Fj w'))
  case atStart=>exact⟨s1,F6,HGO,HI6,HA6⟩
  case round=>
   obtain⟨sj,Fj,HGJ,HJ,HAJ⟩:=hrel
   cases gk with
   |zero=>exact absurd HGJ.out (by simp[bootGo])
   |succ k1=>
   have hj:=HGJ.out
   simp only[bootGo] at hj
   have BWR:Aside0 (w.heap.size≤wr.heap.size):=⟨Nat.le_trans HW5.out.size HAJ.out.size⟩
   have OLD:Aside0 (∀k,k<w.heap.size→wr.heap[k]? =w.heap[k]?):=⟨fun k hk=>(HAJ.out.kept.2 k (Nat.lt_of_lt_of_le hk HW5.out.size) (fun h=>by have:=FB.out k h;omega)).trans (HW5.out.block k hk)⟩
   have BPr:=Za (HAJ.out.blk BP5.out NFP.out)
   have hpr:wr.cell? ⟨gp,0,none⟩=some (.slice A0_0 l0_0.length c0_0):=(Zb BPr.out 0).trans rfl
   have B8x:=Za (HAJ.out.blk B85.out NF8.out)
   obtain⟨v2,P,hb,hm,hu,hD,hF⟩:=HJ.out
   obtain⟨A2_,c2_,e2_⟩:=Ym (Kd.S_R hu)
   obtain⟨n2,hn2⟩:∃x,x=sj.us.length:=⟨_,rfl⟩
   rw[←hn2] at e2_
   subst e2_
   have HBx:=Za hb
   have HMx:=Za hm
   have HUx:=Za hu
   have HDx:=Za hD
   have NPx:Aside0 (∀k,P k→k≠g8):=⟨fun k hk e=>HAJ.out.out B85.out NF8.out ((hF g8).2 (.inr (.inr (e ▸ hk))))⟩
   have HN2x:=Za hn2
   clear hb hm hu hD hF hn2
   obtain⟨_,_,_,_⟩:=boB HBx.out
   obtain⟨⟨_,_,_,_⟩,⟨_,_,_,_⟩⟩:=Sep.blk4 B8x.out
   by_cases c:(sj.us.length:Int)<10
   ·rw[if_pos c] at hj
    obtain⟨⟨bj,rj⟩,ht,hj⟩:=Zg hj
    simp only at hj
    have HT:=Za ht
    have cj:((n2:Int)<10)=True:=eq_true (by rw[HN2x.out];exact c)
    have cj2:decide ((n2:Int)<10)=true:=Zq (of_eq_true cj)
    have cj3:decide (n2<10)=true:=Zq (by have:=of_eq_true cj;omega)
    clear ht c
    cases bj with
    |true=>
     rw[if_pos rfl] at hj
     have HJ2:=Za hj
     clear hj
     go_wp2_with (first|(go_at_call 62;(with_reducible refine(bo_task k w.heap.size g _ _ _ _ _ l0_0 _ _ l2 sj rj _ HT.out Fj _ BWR.out HJ.out (heapTaskT.C (fun k hk=>OLD.out k hk) HR0.out) HC0.out ((Kd.heap_int .i64).C (fun k hk=>OLD.out k hk) HR2.out) HC2.out).mono ?_);rintro e w8 ⟨rfl,F8,hI8,hA8⟩;have HI8:=Za hI8;have HA8:=Za (HAJ.out.trans hA8);clear hI8 hA8;obtain⟨v28,P8,hb8,-,-,-,-⟩:=HI8.out;have HB8:=Za hb8;clear hb8;obtain⟨_,_,_,_⟩:=boB HB8.out)|fail)
     go_roundg k1
     case measure=>omega
     case rel=>exact⟨rj,F8,HJ2,HI8,HA8⟩
    |false=>
     rw[if_neg (by decide)] at hj
     obtain rfl:=Zk hj
     clear hj
     go_wp2_with (first|(go_at_call 62;(with_reducible refine(bo_task k w.heap.size g _ _ _ _ _ l0_0 _ _ l2 sj rj _ HT.out Fj _ BWR.out HJ.out (heapTaskT.C (fun k hk=>OLD.out k hk) HR0.out) HC0.out ((Kd.heap_int .i64).C (fun k hk=>OLD.out k hk) HR2.out) HC2.out).mono ?_);rintro e w8 ⟨rfl,F8,hI8,hA8⟩;have HI8:=Za hI8;have HA8:=Za (HAJ.out.trans hA8);clear hI8 hA8;have B8x:=Za (HA8.out.blk B85.out NF8.out);obtain⟨v2,P,hb,hm,hu,hD,hF⟩:=HI8.out;obtain⟨A2_,c2_,e2_⟩:=Ym (Kd.S_R hu);obtain⟨n2,hn2⟩:∃x,x=rj.us.length:=⟨_,rfl⟩;rw[←hn2] at e2_;subst e2_;have HBx:=Za hb;have HMx:=Za hm;have HUx:=Za hu;have HDx:=Za hD;have NPx:Aside0 (∀k,P k→k≠g8):=⟨fun k hk e=>HA8.out.out B85.out NF8.out ((hF g8).2 (.inr (.inr (e ▸ hk))))⟩;have HN2x:=Za hn2;clear hb hm hu hD hF hn2;obtain⟨_,_,_,_⟩:=boB HBx.out;obtain⟨⟨_,_,_,_⟩,⟨_,_,_,_⟩⟩:=Sep.blk4 B8x.out;obtain⟨v28,P8,hb8,-,-,-,-⟩:=HI8.out;have HB8:=Za hb8;clear hb8;obtain⟨_,_,_,_⟩:=boB HB8.out)|((with_reducible refine Ye (t:=34) (p:=10) rfl ?_);refine Yd (t:=34) (p:=10) (v:= .tmp 29) (w1:=Sep.put4 w8 g8 (.slice Am m.length cm) (.int .i64 rj.at_) (.slice A2_ n2 c2_) (.int .i64 rj.lf)) ?hg ?ho ?hn ?hr ?_;(case ho=>rfl);(case hg=>rfl);(case hn=>rfl);(case hr=>exact z9_5);intro wy hw;have B8y:=Za (hw ▸ Sep.put4_blk B8x.out (.slice Am m.length cm) (.int .i64 rj.at_) (.slice A2_ n2 c2_) (.int .i64 rj.lf));have FARy:Aside0 ((w8.heap.size≤wy.heap.size∧∀k,k≠g8→wy.heap[k]? =w8.heap[k]?)∧wy.os=w8.os∧wy.tape=w8.tape∧wy.output=w8.output):=⟨by rw[hw];exact⟨⟨by rw[Sep.put4_size];exact Nat.le_refl _,fun k hk=>Sep.put4_far hk _ _ _ _⟩,rfl,rfl,rfl⟩⟩;clear hw)|fail)
     refine bodyPost_ret (results_cell_row rfl _ _ g8 34 #[.slice Am m.length cm,.int .i64 rj.at_,.slice A2_ n2 c2_,.int .i64 rj.lf] (0,0) _ rfl B8y.out Tryz.underlying34 rfl z9_15) rfl ?_
     have HBz:=HA8.out.to_below (w0:=w) FB.out HW5.out
     refine⟨_,_,rfl,(HMx.out.keep (w1:=wy) (fun k hk=>FARy.out.1.2 k (HMx.out.ne B8x.out (by decide) k hk))).int (fun _ _=>trivial),Kd.S_mono (Kd.S_step HUx.out (fun k hk _=>FARy.out.1.2 k (NPx.out k hk))) (fun k hk h=>(HDx.out.1 k hk).2.2 h.symm),FARy.out.2.1.trans HBz.os,FARy.out.2.2.1.trans HBz.tape,FARy.out.2.2.2.trans HBz.output,Nat.le_trans HBz.size FARy.out.1.1,fun k hk=>(FARy.out.1.2 k (by have:=G8.out;omega)).trans (HBz.block k hk)⟩
   ·rw[if_neg c] at hj
    obtain rfl:=Zk hj
    have cj:((n2:Int)<10)=False:=eq_false (by rw[HN2x.out];exact c)
    have cj2:decide ((n2:Int)<10)=false:=Yf (of_eq_false cj)
    have cj3:decide (n2<10)=false:=Yf (by have:=of_eq_false cj;omega)
    clear c hj
    go_wp2_with (first|((with_reducible refine Ye (t:=34) (p:=10) rfl ?_);refine Yd (t:=34) (p:=10) (v:= .tmp 29) (w1:=Sep.put4 wr g8 (.slice Am m.length cm) (.int .i64 sj.at_) (.slice A2_ n2 c2_) (.int .i64 sj.lf)) ?hg ?ho ?hn ?hr ?_;(case ho=>rfl);(case hg=>rfl);(case hn=>rfl);(case hr=>exact z9_5);intro wy hw;have B8y:=Za (hw ▸ Sep.put4_blk B8x.out (.slice Am m.length cm) (.int .i64 sj.at_) (.slice A2_ n2 c2_) (.int .i64 sj.lf));have FARy:Aside0 ((wr.heap.size≤wy.heap.size∧∀k,k≠g8→wy.heap[k]? =wr.heap[k]?)∧wy.os=wr.os∧wy.tape=wr.tape∧wy.output=wr.output):=⟨by rw[hw];exact⟨⟨by rw[Sep.put4_size];exact Nat.le_refl _,fun k hk=>Sep.put4_far hk _ _ _ _⟩,rfl,rfl,rfl⟩⟩;clear hw)|fail)
    refine bodyPost_ret (results_cell_row rfl _ _ g8 34 #[.slice Am m.length cm,.int .i64 sj.at_,.slice A2_ n2 c2_,.int .i64 sj.lf] (0,0) _ rfl B8y.out Tryz.underlying34 rfl z9_15) rfl ?_
    have HBz:=HAJ.out.to_below (w0:=w) FB.out HW5.out
    refine⟨_,_,rfl,(HMx.out.keep (w1:=wy) (fun k hk=>FARy.out.1.2 k (HMx.out.ne B8x.out (by decide) k hk))).int (fun _ _=>trivial),Kd.S_mono (Kd.S_step HUx.out (fun k hk _=>FARy.out.1.2 k (NPx.out k hk))) (fun k hk h=>(HDx.out.1 k hk).2.2 h.symm),FARy.out.2.1.trans HBz.os,FARy.out.2.2.1.trans HBz.tape,FARy.out.2.2.2.trans HBz.output,Nat.le_trans HBz.size FARy.out.1.1,fun k hk=>(FARy.out.1.2 k (by have:=G8.out;omega)).trans (HBz.block k hk)⟩
def impl_BootOnce.f (k:Nat) (l0_0:List (S75)) (l1:List Int) (l2:List Int) (a3:Int) (a4:Int):Option (List Int×Int×(List (List Int))×Int×Bool):=(impl_isBootAt.f k l0_0 l1 l2 a3).bind fun t553=>(if t553=true then ((impl_within.f a4 0 100000).bind fun t554=>(if t554=true then ((impl_boot.f k l0_0 l1 l2 a3 a4).bind fun bt555=>(some (bt555.1,bt555.2.1,bt555.2.2.1,bt555.2.2.2,true))) else (some (([]:List Int),0,([]:List (List Int)),0,false)))) else (some (([]:List Int),0,([]:List (List Int)),0,false)))
set_option maxHeartbeats 8000000 in
set_option maxRecDepth 100000 in
theorem impl_BootOnce.calls (k:Nat) (A0_0:Option Addr) (c0_0:Nat) (l0_0:List (S75)) (A1:Option Addr) (c1:Nat) (l1:List Int) (A2:Option Addr) (c2:Nat) (l2:List Int) (a3:Int) (a4:Int) (r1:List Int) (r2:Int) (r3:List (List Int)) (r4:Int) (r5:Bool) (w:World) (hr0_0:Kd.C k75 w A0_0 l0_0.length l0_0) (hc0_0:l0_0.length≤c0_0) (hr1:Kd.C (Kd.int .i64) w A1 l1.length l1) (hc1:l1.length≤c1) (hr2:Kd.C (Kd.int .i64) w A2 l2.length l2) (hc2:l2.length≤c2) (h:impl_BootOnce.f k l0_0 l1 l2 a3 a4=some (r1,r2,r3,r4,r5)):
  Calls Tryz.prog 10 #[.agg #[.slice A0_0 l0_0.length c0_0],.slice A1 l1.length c1,.slice A2 l2.length c2,.int .i64 a3,.int .i64 a4] w fun e w'=>∃v0_ v2_:Value,e= .returned (.tuple #[.agg #[v0_,.int .i64 r2,v2_,.int .i64 r4],.bool r5])∧Kd.R (Kd.int .i64) 3 w' w.heap.size (fun _=>True) v0_ r1∧Kd.S (Kd.slice 3 (Kd.int .i64)) 27 w' w.heap.size (fun k_=>some k_≠(v0_:Value).ownBlock) v2_ r3∧Below w.heap.size w w':=by
 have hu26:=Tryz.underlying26
 have hu34:=Tryz.underlying34
 have HR0_0:=Za hr0_0
 have HC0_0:=Za hc0_0
 clear hr0_0 hc0_0
 have HR1:=Za hr1
 have HC1:=Za hc1
 clear hr1 hc1
 have HR2:=Za hr2
 have HC2:=Za hc2
 clear hr2 hc2
 have HB:=Za (Zx w.heap.size w)
 have H:((impl_isBootAt.f k l0_0 l1 l2 a3).bind fun t553=>(if t553=true then ((impl_within.f a4 0 100000).bind fun t554=>(if t554=true then ((impl_boot.f k l0_0 l1 l2 a3 a4).bind fun bt555=>(some (bt555.1,bt555.2.1,bt555.2.2.1,bt555.2.2.2,true))) else (some (([]:List Int),0,([]:List (List Int)),0,false)))) else (some (([]:List Int),0,([]:List (List Int)),0,false))))=some (r1,r2,r3,r4,r5):=h
 clear h
 replace H:=Zg H
 obtain⟨t553,A60,H⟩:=H
 replace H:(if t553=true then ((impl_within.f a4 0 100000).bind fun t554=>(if t554=true then ((impl_boot.f k l0_0 l1 l2 a3 a4).bind fun bt555=>(some (bt555.1,bt555.2.1,bt555.2.2.1,bt555.2.2.2,true))) else (some (([]:List Int),0,([]:List (List Int)),0,false)))) else (some (([]:List Int),0,([]:List (List Int)),0,false)))=some (r1,r2,r3,r4,r5):=H
 have A6:=Za A60
 clear A60
 by_cases c7:t553=true
 ·subst c7
  have H1:((impl_within.f a4 0 100000).bind fun t554=>(if t554=true then ((impl_boot.f k l0_0 l1 l2 a3 a4).bind fun bt555=>(some (bt555.1,bt555.2.1,bt555.2.2.1,bt555.2.2.2,true))) else (some (([]:List Int),0,([]:List (List Int)),0,false))))=some (r1,r2,r3,r4,r5):=by rw[if_pos rfl] at H;exact H
  clear H
  have H:=H1
  clear H1
  replace H:=Zg H
  obtain⟨t554,A80,H⟩:=H
  replace H:(if t554=true then ((impl_boot.f k l0_0 l1 l2 a3 a4).bind fun bt555=>(some (bt555.1,bt555.2.1,bt555.2.2.1,bt555.2.2.2,true))) else (some (([]:List Int),0,([]:List (List Int)),0,false)))=some (r1,r2,r3,r4,r5):=H
  have A8:=Za A80
  clear A80
  by_cases c9:t554=true
  ·subst c9
   have H1:((impl_boot.f k l0_0 l1 l2 a3 a4).bind fun bt555=>(some (bt555.1,bt555.2.1,bt555.2.2.1,bt555.2.2.2,true)))=some (r1,r2,r3,r4,r5):=by rw[if_pos rfl] at H;exact H
   clear H
   have H:=H1
   clear H1
   replace H:=Zg H
   obtain⟨⟨t555,t558,t559,t562⟩,A100,H⟩:=H
   replace H:(some (t555,t558,t559,t562,true))=some (r1,r2,r3,r4,r5):=H
   have A10:=Za A100
   clear A100
   simp only[Option.some.injEq,Prod.mk.injEq] at H
   obtain⟨rfl,rfl,rfl,rfl,rfl⟩:=H
   go_enter Tryz.func10,Tryz.ntmps10
   go_wp2_with (first|((with_reducible refine Zp (N:=5) rfl ?_);refine Zr ?hg (N:=5) ?hd (cs:= #[.slice A0_0 l0_0.length c0_0]) (t:=26) ?hr ?_;(case hd=>rfl);(case hg=>rfl);(case hr=>exact z9_5);intro gb551 hg w11 hbox hb;have BK551:=Za (hbox);have GW551:=Za ((z9_17:w.heap.size≤gb551));have GE551:=Za ((z9_17:w.heap.size≤gb551));replace HB:=Za (Zj z9_0 hb);clear hb hbox hg)|((with_reducible refine Zp (N:=10) rfl ?_);refine Zr ?hg (N:=10) ?hd (cs:= #[.slice none 0 0,.int .i64 0,.slice none 0 0,.int .i64 0]) (t:=34) ?hr ?_;(case hd=>rfl);(case hg=>rfl);(case hr=>exact z9_5);intro gb552 hg w12 hbox hb;have BK552:=Za (hbox);have GW552:=Za ((by rw[hg];exact(Yh z9_6):w.heap.size≤gb552));have GE552:=Za ((by rw[hg];exact(Yh z9_6):w.heap.size≤gb552));replace HB:=Za (Zj z9_6 hb);have NB551_552:=Za ((z9_18:gb551≠gb552));have NB552_551:=Za ((z9_19:gb552≠gb551));replace BK551:=Za (Zi (g:=gb551) (o:= .cells #[.slice A0_0 l0_0.length c0_0] 26 (0,0)) z9_2 hb);clear hb hbox hg;have hnb13:=NB551_552.out;have hnc13:=NB552_551.out;have hcz14_0:w12.cell? ⟨gb551,0,none⟩=some (.slice A0_0 l0_0.length c0_0):=(Zb BK551.out 0).trans rfl;have hfz14_0:=Zc BK551.out 0)|((first|((with_reducible refine gate_callee (f:=25) rfl ?_);refine goesL_ (some 16) rfl rfl Tryz.func25 z9_15 rfl #[.agg #[.slice A0_0 l0_0.length c0_0],.slice A1 l1.length c1,.slice A2 l2.length c2,.int .i64 a3] rfl z9_7 ?_;(with_reducible refine(impl_isBootAt.calls k _ _ l0_0 _ _ l1 _ _ l2 a3 true _ ?side1 ?side2 ?side3 ?side4 ?side5 ?side6 A6.out).mono ?_))|(go_at_call 25;(with_reducible refine(impl_isBootAt.calls k _ _ l0_0 _ _ l1 _ _ l2 a3 true _ ?side1 ?side2 ?side3 ?side4 ?side5 ?side6 A6.out).mono ?_)));(case side1=>exact z9_9);(case side2=>exact HC0_0.out);(case side3=>exact z9_8);(case side4=>exact HC1.out);(case side5=>exact z9_10);(case side6=>exact HC2.out);rintro e w15 ⟨rfl,hb⟩;(first|refine⟨_,rfl,?_⟩|skip);replace BK551:=Za (Zi (g:=gb551) (o:= .cells #[.slice A0_0 l0_0.length c0_0] 26 (0,0)) z9_2 hb);replace BK552:=Za (Zi (g:=gb552) (o:= .cells #[.slice none 0 0,.int .i64 0,.slice none 0 0,.int .i64 0] 34 (0,0)) z9_12 hb);replace HB:=Za (Zj z9_1 hb);(try clear hb);(try clear hb2);(try clear hk);(try clear hi))|(go_at_call 30;(with_reducible refine(impl_within.calls a4 0 100000 true _ A8.out).mono ?_);rintro e w' ⟨rfl,⟨nd,rfl⟩⟩;(try(rw[drewN_self w15];generalize hq_:World.drewN w15 _=w15;have n0_:Aside0 (w15.heap[gb551]? =some (.cells #[.slice A0_0 l0_0.length c0_0] 26 (0,0))):=⟨by rw[←hq_];exact z9_2⟩;have n1_:Aside0 (w15.heap[gb552]? =some (.cells #[.slice none 0 0,.int .i64 0,.slice none 0 0,.int .i64 0] 34 (0,0))):=⟨by rw[←hq_];exact z9_12⟩;have n2_:Aside0 (Below w.heap.size w w15):=⟨by rw[←hq_];exact z9_1⟩;clear BK551 BK552 HB hq_;have BK551:=n0_;have BK552:=n1_;have HB:=n2_;clear n0_ n1_ n2_));(try(have hcuz16_0:w15.cell? ⟨gb551,0,none⟩=some (.slice A0_0 l0_0.length c0_0):=(Zb BK551.out 0).trans rfl;have hfuz16_0:=Zc BK551.out 0));(try(have hcuz17_0:w15.cell? ⟨gb552,0,none⟩=some (.slice none 0 0):=(Zb BK552.out 0).trans rfl;have hcuz17_1:w15.cell? ⟨gb552,1,none⟩=some (.int .i64 0):=(Zb BK552.out 1).trans rfl;have hcuz17_2:w15.cell? ⟨gb552,2,none⟩=some (.slice none 0 0):=(Zb BK552.out 2).trans rfl;have hcuz17_3:w15.cell? ⟨gb552,3,none⟩=some (.int .i64 0):=(Zb BK552.out 3).trans rfl;have hfuz17_0:=Zc BK552.out 0;have hfuz17_1:=Zc BK552.out 1;have hfuz17_2:=Zc BK552.out 2;have hfuz17_3:=Zc BK552.out 3));have hcz18_0:w15.cell? ⟨gb551,0,none⟩=some (.slice A0_0 l0_0.length c0_0):=(Zb BK551.out 0).trans rfl;have hfz18_0:=Zc BK551.out 0)|((first|((with_reducible refine gate_callee (f:=31) rfl ?_);refine goesL_ (some 29) rfl rfl Tryz.func31 z9_15 rfl #[.agg #[.slice A0_0 l0_0.length c0_0],.slice A1 l1.length c1,.slice A2 l2.length c2,.int .i64 a3,.int .i64 a4] rfl z9_7 ?_;(with_reducible refine(impl_boot.calls k _ _ l0_0 _ _ l1 _ _ l2 a3 a4 t555 t558 t559 t562 _ ?side1 ?side2 ?side3 ?side4 ?side5 ?side6 A10.out).mono ?_))|(go_at_call 31;(with_reducible refine(impl_boot.calls k _ _ l0_0 _ _ l1 _ _ l2 a3 a4 t555 t558 t559 t562 _ ?side1 ?side2 ?side3 ?side4 ?side5 ?side6 A10.out).mono ?_)));(case side1=>exact z9_9);(case side2=>exact HC0_0.out);(case side3=>exact z9_8);(case side4=>exact HC1.out);(case side5=>exact z9_10);(case side6=>exact HC2.out);rintro e w19 ⟨v556,v560,rfl,ho0,ho1,hb⟩;(first|refine⟨_,rfl,?_⟩|skip);have HO557:=Za (Yr ho0 (Yh z9_1));have HO561:=Za (Kd.S_lower ho1 (Yh z9_1));replace BK551:=Za (Zi (g:=gb551) (o:= .cells #[.slice A0_0 l0_0.length c0_0] 26 (0,0)) z9_2 hb);replace BK552:=Za (Zi (g:=gb552) (o:= .cells #[.slice none 0 0,.int .i64 0,.slice none 0 0,.int .i64 0] 34 (0,0)) z9_12 hb);replace HB:=Za (Zj z9_1 hb);(try clear hb);(try clear hb2);(try clear hk);(try clear hi);(try clear ho0);(try clear ho1);obtain⟨Ao20,co20,eo20⟩:=Ym HO557.out;subst eo20;have hcz21_0:w19.cell? ⟨gb552,0,none⟩=some (.slice none 0 0):=(Zb BK552.out 0).trans rfl;have hcz21_1:w19.cell? ⟨gb552,1,none⟩=some (.int .i64 0):=(Zb BK552.out 1).trans rfl;have hcz21_2:w19.cell? ⟨gb552,2,none⟩=some (.slice none 0 0):=(Zb BK552.out 2).trans rfl;have hcz21_3:w19.cell? ⟨gb552,3,none⟩=some (.int .i64 0):=(Zb BK552.out 3).trans rfl;have hfz21_0:=Zc BK552.out 0;have hfz21_1:=Zc BK552.out 1;have hfz21_2:=Zc BK552.out 2;have hfz21_3:=Zc BK552.out 3;obtain⟨Ao22,co22,eo22⟩:=Kd.S_slice HO561.out;subst eo22)|((with_reducible refine Ye (t:=34) (p:=10) rfl ?_);refine Yd (t:=34) (p:=10) (v:= ?vo_w23) (w1:=((((w19.setCell ⟨gb552,0,none⟩ (.slice Ao20 t555.length co20)).setCell ⟨gb552,1,none⟩ (.int .i64 t558)).setCell ⟨gb552,2,none⟩ (.slice Ao22 t559.length co22)).setCell ⟨gb552,3,none⟩ (.int .i64 t562))) ?hg ?ho ?hn ?hr ?_;(case ho=>rfl);(case hg=>rfl);(case hn=>rfl);(case hr=>exact z9_5);intro w23 hw;have n0_:Aside0 (Kd.R (Kd.int .i64) 3 w23 w.heap.size (fun _=>True) (.slice Ao20 t555.length co20) t555):=⟨(by rw[hw];exact(by(with_reducible repeat(first|apply Zo|apply Zm|apply Zn));exact Yk (Kd.R_far (p:=⟨gb552,3,none⟩) (Kd.R_far (p:=⟨gb552,2,none⟩) (Kd.R_far (p:=⟨gb552,1,none⟩) (Kd.R_far (p:=⟨gb552,0,none⟩) (Kd.R_types HO557.out BK552.out (by decide)) (fun _ hk=>hk.2) (.slice Ao20 t555.length co20)) (fun _ hk=>hk.2) (.int .i64 t558)) (fun _ hk=>hk.2) (.slice Ao22 t559.length co22)) (fun _ hk=>hk.2) (.int .i64 t562)) (fun _ hk=>trivial)))⟩;have n1_:Aside0 (Kd.S (Kd.slice 3 (Kd.int .i64)) 27 w23 w.heap.size (fun k_=>some k_≠(.slice Ao20 t555.length co20:Value).ownBlock) (.slice Ao22 t559.length co22) t559):=⟨(by rw[hw];exact(by(with_reducible repeat(first|apply Kd.S_alloc|apply Kd.S_drewN|apply Kd.S_drew));exact Kd.S_mono (Kd.S_far (p:=⟨gb552,3,none⟩) (Kd.S_far (p:=⟨gb552,2,none⟩) (Kd.S_far (p:=⟨gb552,1,none⟩) (Kd.S_far (p:=⟨gb552,0,none⟩) (Kd.S_types HO561.out BK552.out (by decide)) (fun _ hk=>hk.2) (.slice Ao20 t555.length co20)) (fun _ hk=>hk.2) (.int .i64 t558)) (fun _ hk=>hk.2) (.slice Ao22 t559.length co22)) (fun _ hk=>hk.2) (.int .i64 t562)) (fun _ hk=>hk.1)))⟩;have n2_:Aside0 (w23.heap[gb551]? =some (.cells #[.slice A0_0 l0_0.length c0_0] 26 (0,0))):=⟨z9_4⟩;have n3_:Aside0 (w23.heap[gb552]? =some (.cells #[.slice Ao20 t555.length co20,.int .i64 t558,.slice Ao22 t559.length co22,.int .i64 t562] 34 (0,0))):=⟨(by rw[hw];exact(by(with_reducible repeat(first|refine blk_drewN ?_ _|refine blk_drew ?_|refine blk_alloc ?_ _));refine blk_put (cs:= #[.slice Ao20 t555.length co20,.int .i64 t558,.slice Ao22 t559.length co22,.int .i64 0]) ?_ 3 _ rfl;(with_reducible repeat(first|refine blk_drewN ?_ _|refine blk_drew ?_|refine blk_alloc ?_ _));refine blk_put (cs:= #[.slice Ao20 t555.length co20,.int .i64 t558,.slice none 0 0,.int .i64 0]) ?_ 2 _ rfl;(with_reducible repeat(first|refine blk_drewN ?_ _|refine blk_drew ?_|refine blk_alloc ?_ _));refine blk_put (cs:= #[.slice Ao20 t555.length co20,.int .i64 0,.slice none 0 0,.int .i64 0]) ?_ 1 _ rfl;(with_reducible repeat(first|refine blk_drewN ?_ _|refine blk_drew ?_|refine blk_alloc ?_ _));refine blk_put (cs:= #[.slice none 0 0,.int .i64 0,.slice none 0 0,.int .i64 0]) ?_ 0 _ rfl;(with_reducible repeat(first|refine blk_drewN ?_ _|refine blk_drew ?_|refine blk_alloc ?_ _));exact BK552.out))⟩;have n4_:Aside0 (Below w.heap.size w w23):=⟨(by rw[hw];exact z9_1)⟩;clear hw;clear HO557;clear HO561;clear BK551;clear BK552;clear HB;have HO557:=n0_;have HO561:=n1_;have BK551:=n2_;have BK552:=n3_;have HB:=n4_;clear n0_ n1_ n2_ n3_ n4_))
   refine bodyPost_ret (results_ct rfl _ _ gb552 34 #[.slice Ao20 t555.length co20,.int .i64 t558,.slice Ao22 t559.length co22,.int .i64 t562] (0,0) _ rfl z9_12 Tryz.underlying34 rfl z9_15) rfl ?_
   exact⟨_,_,by first|rfl|(simp[errW_none,errW_some]<;>rfl)|(simp[*,errW_none,errW_some]<;>rfl)|(simp[*,errW_none,errW_some,i64_w];done),by(with_reducible repeat(first|apply Zo|apply Zm|apply Zn));exact HO557.out,by(with_reducible repeat(first|apply Kd.S_alloc|apply Kd.S_drewN|apply Kd.S_drew));exact HO561.out,by repeat(first|(with_reducible first|exact HB.out|apply Zh|apply Zf|apply Ze|refine Zd ?_ GE551.out|refine Zd ?_ GE552.out)|exact HB.out)⟩
  ·replace c9:=Bool.eq_false_iff.mpr c9
   subst c9
   have H1:(some (([]:List Int),0,([]:List (List Int)),0,false))=some (r1,r2,r3,r4,r5):=by rw[if_neg (show ¬(false=true) by decide)] at H;exact H
   clear H
   have H:=H1
   clear H1
   simp only[Option.some.injEq,Prod.mk.injEq] at H
   obtain⟨rfl,rfl,rfl,rfl,rfl⟩:=H
   go_enter Tryz.func10,Tryz.ntmps10
   go_wp2_with (first|((with_reducible refine Zp (N:=5) rfl ?_);refine Zr ?hg (N:=5) ?hd (cs:= #[.slice A0_0 l0_0.length c0_0]) (t:=26) ?hr ?_;(case hd=>rfl);(case hg=>rfl);(case hr=>exact z9_5);intro gb551 hg w24 hbox hb;have BK551:=Za (hbox);have GW551:=Za ((z9_17:w.heap.size≤gb551));have GE551:=Za ((z9_17:w.heap.size≤gb551));replace HB:=Za (Zj z9_0 hb);clear hb hbox hg)|((with_reducible refine Zp (N:=10) rfl ?_);refine Zr ?hg (N:=10) ?hd (cs:= #[.slice none 0 0,.int .i64 0,.slice none 0 0,.int .i64 0]) (t:=34) ?hr ?_;(case hd=>rfl);(case hg=>rfl);(case hr=>exact z9_5);intro gb552 hg w25 hbox hb;have BK552:=Za (hbox);have GW552:=Za ((by rw[hg];exact(Yh z9_6):w.heap.size≤gb552));have GE552:=Za ((by rw[hg];exact(Yh z9_6):w.heap.size≤gb552));replace HB:=Za (Zj z9_6 hb);have NB551_552:=Za ((z9_18:gb551≠gb552));have NB552_551:=Za ((z9_19:gb552≠gb551));replace BK551:=Za (Zi (g:=gb551) (o:= .cells #[.slice A0_0 l0_0.length c0_0] 26 (0,0)) z9_2 hb);clear hb hbox hg;have hnb26:=NB551_552.out;have hnc26:=NB552_551.out;have hcz27_0:w25.cell? ⟨gb551,0,none⟩=some (.slice A0_0 l0_0.length c0_0):=(Zb BK551.out 0).trans rfl;have hfz27_0:=Zc BK551.out 0)|((first|((with_reducible refine gate_callee (f:=25) rfl ?_);refine goesL_ (some 16) rfl rfl Tryz.func25 z9_15 rfl #[.agg #[.slice A0_0 l0_0.length c0_0],.slice A1 l1.length c1,.slice A2 l2.length c2,.int .i64 a3] rfl z9_7 ?_;(with_reducible refine(impl_isBootAt.calls k _ _ l0_0 _ _ l1 _ _ l2 a3 true _ ?side1 ?side2 ?side3 ?side4 ?side5 ?side6 A6.out).mono ?_))|(go_at_call 25;(with_reducible refine(impl_isBootAt.calls k _ _ l0_0 _ _ l1 _ _ l2 a3 true _ ?side1 ?side2 ?side3 ?side4 ?side5 ?side6 A6.out).mono ?_)));(case side1=>exact z9_9);(case side2=>exact HC0_0.out);(case side3=>exact z9_8);(case side4=>exact HC1.out);(case side5=>exact z9_10);(case side6=>exact HC2.out);rintro e w28 ⟨rfl,hb⟩;(first|refine⟨_,rfl,?_⟩|skip);replace BK551:=Za (Zi (g:=gb551) (o:= .cells #[.slice A0_0 l0_0.length c0_0] 26 (0,0)) z9_2 hb);replace BK552:=Za (Zi (g:=gb552) (o:= .cells #[.slice none 0 0,.int .i64 0,.slice none 0 0,.int .i64 0] 34 (0,0)) z9_12 hb);replace HB:=Za (Zj z9_1 hb);(try clear hb);(try clear hb2);(try clear hk);(try clear hi))|(go_at_call 30;(with_reducible refine(impl_within.calls a4 0 100000 false _ A8.out).mono ?_);rintro e w' ⟨rfl,⟨nd,rfl⟩⟩;(try(rw[drewN_self w28];generalize hq_:World.drewN w28 _=w28;have n0_:Aside0 (w28.heap[gb551]? =some (.cells #[.slice A0_0 l0_0.length c0_0] 26 (0,0))):=⟨by rw[←hq_];exact z9_2⟩;have n1_:Aside0 (w28.heap[gb552]? =some (.cells #[.slice none 0 0,.int .i64 0,.slice none 0 0,.int .i64 0] 34 (0,0))):=⟨by rw[←hq_];exact z9_12⟩;have n2_:Aside0 (Below w.heap.size w w28):=⟨by rw[←hq_];exact z9_1⟩;clear BK551 BK552 HB hq_;have BK551:=n0_;have BK552:=n1_;have HB:=n2_;clear n0_ n1_ n2_));(try(have hcuz29_0:w28.cell? ⟨gb551,0,none⟩=some (.slice A0_0 l0_0.length c0_0):=(Zb BK551.out 0).trans rfl;have hfuz29_0:=Zc BK551.out 0));(try(have hcuz30_0:w28.cell? ⟨gb552,0,none⟩=some (.slice none 0 0):=(Zb BK552.out 0).trans rfl;have hcuz30_1:w28.cell? ⟨gb552,1,none⟩=some (.int .i64 0):=(Zb BK552.out 1).trans rfl;have hcuz30_2:w28.cell? ⟨gb552,2,none⟩=some (.slice none 0 0):=(Zb BK552.out 2).trans rfl;have hcuz30_3:w28.cell? ⟨gb552,3,none⟩=some (.int .i64 0):=(Zb BK552.out 3).trans rfl;have hfuz30_0:=Zc BK552.out 0;have hfuz30_1:=Zc BK552.out 1;have hfuz30_2:=Zc BK552.out 2;have hfuz30_3:=Zc BK552.out 3));have hcz31_0:w28.cell? ⟨gb552,0,none⟩=some (.slice none 0 0):=(Zb BK552.out 0).trans rfl;have hcz31_1:w28.cell? ⟨gb552,1,none⟩=some (.int .i64 0):=(Zb BK552.out 1).trans rfl;have hcz31_2:w28.cell? ⟨gb552,2,none⟩=some (.slice none 0 0):=(Zb BK552.out 2).trans rfl;have hcz31_3:w28.cell? ⟨gb552,3,none⟩=some (.int .i64 0):=(Zb BK552.out 3).trans rfl;have hfz31_0:=Zc BK552.out 0;have hfz31_1:=Zc BK552.out 1;have hfz31_2:=Zc BK552.out 2;have hfz31_3:=Zc BK552.out 3)|((with_reducible refine Ye (t:=34) (p:=10) rfl ?_);refine Yd (t:=34) (p:=10) (v:= ?vo_w32) (w1:=((((w28.setCell ⟨gb552,0,none⟩ (.slice none 0 0)).setCell ⟨gb552,1,none⟩ (.int .i64 0)).setCell ⟨gb552,2,none⟩ (.slice none 0 0)).setCell ⟨gb552,3,none⟩ (.int .i64 0))) ?hg ?ho ?hn ?hr ?_;(case ho=>rfl);(case hg=>rfl);(case hn=>rfl);(case hr=>exact z9_5);intro w32 hw;have n0_:Aside0 (w32.heap[gb551]? =some (.cells #[.slice A0_0 l0_0.length c0_0] 26 (0,0))):=⟨z9_4⟩;have n1_:Aside0 (w32.heap[gb552]? =some (.cells #[.slice none 0 0,.int .i64 0,.slice none 0 0,.int .i64 0] 34 (0,0))):=⟨z9_11⟩;have n2_:Aside0 (Below w.heap.size w w32):=⟨(by rw[hw];exact z9_1)⟩;clear hw;clear BK551;clear BK552;clear HB;have BK551:=n0_;have BK552:=n1_;have HB:=n2_;clear n0_ n1_ n2_))
   refine bodyPost_ret (results_ct rfl _ _ gb552 34 #[.slice none 0 0,.int .i64 0,.slice none 0 0,.int .i64 0] (0,0) _ rfl z9_12 Tryz.underlying34 rfl z9_15) rfl ?_
   exact⟨_,_,by first|rfl|(simp[errW_none,errW_some]<;>rfl)|(simp[*,errW_none,errW_some]<;>rfl)|(simp[*,errW_none,errW_some,i64_w];done),by first|exact Kd.R_nil _ _ _ _ _|exact Kd.N_nil _ _ _ _ _|exact Kd.V_nil _ _ _ _ _|exact Kd.Q_nil _ _ _ _ _|exact Kd.S_nil _ _ _ _ _,by first|exact Kd.S_nil _ _ _ _ _|exact Kd.N_nil _ _ _ _ _|exact Kd.V_nil _ _ _ _ _|exact Kd.Q_nil _ _ _ _ _|exact Kd.R_nil _ _ _ _ _,by repeat(first|(with_reducible first|exact HB.out|apply Zh|apply Zf|apply Ze|refine Zd ?_ GE551.out|refine Zd ?_ GE552.out)|exact HB.out)⟩
 ·replace c7:=Bool.eq_false_iff.mpr c7
  subst c7
  have H1:(some (([]:List Int),0,([]:List (List Int)),0,false))=some (r1,r2,r3,r4,r5):=by rw[if_neg (show ¬(false=true) by decide)] at H;exact H
  clear H
  have H:=H1
  clear H1
  simp only[Option.some.injEq,Prod.mk.injEq] at H
  obtain⟨rfl,rfl,rfl,rfl,rfl⟩:=H
  go_enter Tryz.func10,Tryz.ntmps10
  go_wp2_with (first|((with_reducible refine Zp (N:=5) rfl ?_);refine Zr ?hg (N:=5) ?hd (cs:= #[.slice A0_0 l0_0.length c0_0]) (t:=26) ?hr ?_;(case hd=>rfl);(case hg=>rfl);(case hr=>exact z9_5);intro gb551 hg w33 hbox hb;have BK551:=Za (hbox);have GW551:=Za ((z9_17:w.heap.size≤gb551));have GE551:=Za ((z9_17:w.heap.size≤gb551));replace HB:=Za (Zj z9_0 hb);clear hb hbox hg)|((with_reducible refine Zp (N:=10) rfl ?_);refine Zr ?hg (N:=10) ?hd (cs:= #[.slice none 0 0,.int .i64 0,.slice none 0 0,.int .i64 0]) (t:=34) ?hr ?_;(case hd=>rfl);(case hg=>rfl);(case hr=>exact z9_5);intro gb552 hg w34 hbox hb;have BK552:=Za (hbox);have GW552:=Za ((by rw[hg];exact(Yh z9_6):w.heap.size≤gb552));have GE552:=Za ((by rw[hg];exact(Yh z9_6):w.heap.size≤gb552));replace HB:=Za (Zj z9_6 hb);have NB551_552:=Za ((z9_18:gb551≠gb552));have NB552_551:=Za ((z9_19:gb552≠gb551));replace BK551:=Za (Zi (g:=gb551) (o:= .cells #[.slice A0_0 l0_0.length c0_0] 26 (0,0)) z9_2 hb);clear hb hbox hg;have hnb35:=NB551_552.out;have hnc35:=NB552_551.out;have hcz36_0:w34.cell? ⟨gb551,0,none⟩=some (.slice A0_0 l0_0.length c0_0):=(Zb BK551.out 0).trans rfl;have hfz36_0:=Zc BK551.out 0)|((first|((with_reducible refine gate_callee (f:=25) rfl ?_);refine goesL_ (some 16) rfl rfl Tryz.func25 z9_15 rfl #[.agg #[.slice A0_0 l0_0.length c0_0],.slice A1 l1.length c1,.slice A2 l2.length c2,.int .i64 a3] rfl z9_7 ?_;(with_reducible refine(impl_isBootAt.calls k _ _ l0_0 _ _ l1 _ _ l2 a3 false _ ?side1 ?side2 ?side3 ?side4 ?side5 ?side6 A6.out).mono ?_))|(go_at_call 25;(with_reducible refine(impl_isBootAt.calls k _ _ l0_0 _ _ l1 _ _ l2 a3 false _ ?side1 ?side2 ?side3 ?side4 ?side5 ?side6 A6.out).mono ?_)));(case side1=>exact z9_9);(case side2=>exact HC0_0.out);(case side3=>exact z9_8);(case side4=>exact HC1.out);(case side5=>exact z9_10);(case side6=>exact HC2.out);rintro e w37 ⟨rfl,hb⟩;(first|refine⟨_,rfl,?_⟩|skip);replace BK551:=Za (Zi (g:=gb551) (o:= .cells #[.slice A0_0 l0_0.length c0_0] 26 (0,0)) z9_2 hb);replace BK552:=Za (Zi (g:=gb552) (o:= .cells #[.slice none 0 0,.int .i64 0,.slice none 0 0,.int .i64 0] 34 (0,0)) z9_12 hb);replace HB:=Za (Zj z9_1 hb);(try clear hb);(try clear hb2);(try clear hk);(try clear hi);have hcz38_0:w37.cell? ⟨gb552,0,none⟩=some (.slice none 0 0):=(Zb BK552.out 0).trans rfl;have hcz38_1:w37.cell? ⟨gb552,1,none⟩=some (.int .i64 0):=(Zb BK552.out 1).trans rfl;have hcz38_2:w37.cell? ⟨gb552,2,none⟩=some (.slice none 0 0):=(Zb BK552.out 2).trans rfl;have hcz38_3:w37.cell? ⟨gb552,3,none⟩=some (.int .i64 0):=(Zb BK552.out 3).trans rfl;have hfz38_0:=Zc BK552.out 0;have hfz38_1:=Zc BK552.out 1;have hfz38_2:=Zc BK552.out 2;have hfz38_3:=Zc BK552.out 3)|((with_reducible refine Ye (t:=34) (p:=10) rfl ?_);refine Yd (t:=34) (p:=10) (v:= ?vo_w39) (w1:=((((w37.setCell ⟨gb552,0,none⟩ (.slice none 0 0)).setCell ⟨gb552,1,none⟩ (.int .i64 0)).setCell ⟨gb552,2,none⟩ (.slice none 0 0)).setCell ⟨gb552,3,none⟩ (.int .i64 0))) ?hg ?ho ?hn ?hr ?_;(case ho=>rfl);(case hg=>rfl);(case hn=>rfl);(case hr=>exact z9_5);intro w39 hw;have n0_:Aside0 (w39.heap[gb551]? =some (.cells #[.slice A0_0 l0_0.length c0_0] 26 (0,0))):=⟨z9_4⟩;have n1_:Aside0 (w39.heap[gb552]? =some (.cells #[.slice none 0 0,.int .i64 0,.slice none 0 0,.int .i64 0] 34 (0,0))):=⟨z9_11⟩;have n2_:Aside0 (Below w.heap.size w w39):=⟨(by rw[hw];exact z9_1)⟩;clear hw;clear BK551;clear BK552;clear HB;have BK551:=n0_;have BK552:=n1_;have HB:=n2_;clear n0_ n1_ n2_))
  refine bodyPost_ret (results_ct rfl _ _ gb552 34 #[.slice none 0 0,.int .i64 0,.slice none 0 0,.int .i64 0] (0,0) _ rfl z9_12 Tryz.underlying34 rfl z9_15) rfl ?_
  exact⟨_,_,by first|rfl|(simp[errW_none,errW_some]<;>rfl)|(simp[*,errW_none,errW_some]<;>rfl)|(simp[*,errW_none,errW_some,i64_w];done),by first|exact Kd.R_nil _ _ _ _ _|exact Kd.N_nil _ _ _ _ _|exact Kd.V_nil _ _ _ _ _|exact Kd.Q_nil _ _ _ _ _|exact Kd.S_nil _ _ _ _ _,by first|exact Kd.S_nil _ _ _ _ _|exact Kd.N_nil _ _ _ _ _|exact Kd.V_nil _ _ _ _ _|exact Kd.Q_nil _ _ _ _ _|exact Kd.R_nil _ _ _ _ _,by repeat(first|(with_reducible first|exact HB.out|apply Zh|apply Zf|apply Ze|refine Zd ?_ GE551.out|refine Zd ?_ GE552.out)|exact HB.out)⟩
def impl_BootTasks.f (l0_0:List Int) (a0_1:Int) (l0_2:List (List Int)) (a0_3:Int):Option (Int):=some (l0_2.length:Int)
set_option maxHeartbeats 8000000 in
set_option maxRecDepth 100000 in
theorem impl_BootTasks.calls (A0_0:Option Addr) (c0_0:Nat) (l0_0:List Int) (a0_1:Int) (A0_2:Option Addr) (c0_2:Nat) (l0_2:List (List Int)) (a0_3:Int) (r:Int) (w:World) (hr0_0:Kd.C (Kd.int .i64) w A0_0 l0_0.length l0_0) (hc0_0:l0_0.length≤c0_0) (hr0_2:Kd.C (Kd.slice 3 (Kd.int .i64)) w A0_2 l0_2.length l0_2) (hc0_2:l0_2.length≤c0_2) (h:impl_BootTasks.f l0_0 a0_1 l0_2 a0_3=some r):
  Calls Tryz.prog 11 #[.agg #[.slice A0_0 l0_0.length c0_0,.int .i64 a0_1,.slice A0_2 l0_2.length c0_2,.int .i64 a0_3]] w fun e w'=>e= .returned (.int .i64 r)∧Below w.heap.size w w':=by
 have hu34:=Tryz.underlying34
 have HR0_0:=Za hr0_0
 have HC0_0:=Za hc0_0
 clear hr0_0 hc0_0
 have HR0_2:=Za hr0_2
 have HC0_2:=Za hc0_2
 clear hr0_2 hc0_2
 have HB:=Za (Zx w.heap.size w)
 have H:(some (l0_2.length:Int))=some r:=h
 clear h
 obtain rfl:=Zk H
 go_enter Tryz.func11,Tryz.ntmps11
 go_wp2_with (first|((with_reducible refine Zp (N:=1) rfl ?_);refine Zr ?hg (N:=1) ?hd (cs:= #[.slice A0_0 l0_0.length c0_0,.int .i64 a0_1,.slice A0_2 l0_2.length c0_2,.int .i64 a0_3]) (t:=34) ?hr ?_;(case hd=>rfl);(case hg=>rfl);(case hr=>exact z9_5);intro gb563 hg w2 hbox hb;have BK563:=Za (hbox);have GW563:=Za ((z9_17:w.heap.size≤gb563));have GE563:=Za ((z9_17:w.heap.size≤gb563));replace HB:=Za (Zj z9_0 hb);clear hb hbox hg;have hcz3_0:w2.cell? ⟨gb563,0,none⟩=some (.slice A0_0 l0_0.length c0_0):=(Zb BK563.out 0).trans rfl;have hcz3_1:w2.cell? ⟨gb563,1,none⟩=some (.int .i64 a0_1):=(Zb BK563.out 1).trans rfl;have hcz3_2:w2.cell? ⟨gb563,2,none⟩=some (.slice A0_2 l0_2.length c0_2):=(Zb BK563.out 2).trans rfl;have hcz3_3:w2.cell? ⟨gb563,3,none⟩=some (.int .i64 a0_3):=(Zb BK563.out 3).trans rfl;have hfz3_0:=Zc BK563.out 0;have hfz3_1:=Zc BK563.out 1;have hfz3_2:=Zc BK563.out 2;have hfz3_3:=Zc BK563.out 3))
 go_ret
 exact⟨by first|rfl|(simp[errW_none,errW_some]<;>rfl)|(simp[*,errW_none,errW_some]<;>rfl)|(simp[*,errW_none,errW_some,i64_w];done),by repeat(first|(with_reducible first|exact HB.out|apply Zh|apply Zf|apply Ze|refine Zd ?_ GE563.out)|exact HB.out)⟩
end Go.Proofs.YtdkbkkpbdmlmbaaGreat.G
