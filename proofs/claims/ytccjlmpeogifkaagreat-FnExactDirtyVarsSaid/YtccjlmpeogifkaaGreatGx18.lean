/- Functions of the program as plain Lean functions, and that each call comes to its function's answer; written by a program of the session. No condition. -/
import Derived.Test.YtccjlmpeogifkaaGreatGx0
import Derived.Test.YtccjlmpeogifkaaGreatGx3
import Derived.Test.YtccjlmpeogifkaaGreatGx7
import Derived.Test.YtccjlmpeogifkaaGreatGx16
import Derived.Test.YtccjlmpeogifkaaGreatGx17
namespace Go.Proofs.YtccjlmpeogifkaaGreat.G
open Go.RowKit Go.Proofs.YtccjlmpeogifkaaGreatW.PrintWords Go.Proofs.YtccjlmpeogifkaaGreatW.PrintLast Go.Proofs.YtccjlmpeogifkaaGreatW.PrintMore
attribute [local go_sem] max2_int min2_int max_two min_two max_three min_three max_four min_four   -- for this text's walks alone
set_option linter.unusedVariables false
set_option linter.unusedSimpArgs false
theorem z18_0 {P:Prop} (h:P:=by repeat(first|(with_reducible first|exact HB.out|apply Zh|apply Ze|apply Zd|refine Zg ?_ GE571.out)|exact HB.out)):P:=h
theorem z18_1 {P:Prop} (h:P:=by(try simp only[Ys,Yt,List.map_nil]);first|done|rfl|(simp only[List.length_drop,List.length_take];rfl)):P:=h
theorem z18_2 {P:Prop} (h:P:=by repeat(first|(with_reducible first|exact HB.out|apply Zh|apply Ze|apply Zd|refine Zg ?_ GE571.out|refine Zg ?_ GE585.out)|exact HB.out)):P:=h
theorem z18_3 {P:Prop} (h:P:=by(with_reducible repeat(first|refine blk_drewN ?_ _|refine blk_drew ?_|refine blk_alloc ?_ _));exact BK571.out):P:=h
theorem z18_4 {P:Prop} (h:P:=by(with_reducible repeat(first|apply Zp|apply Zo|apply Zn));exact HO_9.out):P:=h
theorem z18_5 {P:Prop} (h:P:=by(with_reducible repeat(first|apply Zp|apply Zo|apply Zn));exact HO_6.out):P:=h
theorem z18_6 {P:Prop} (h:P:=by repeat(first|exact(Yj HR0_0.out HB.out)|(with_reducible refine Yh ?_ _)|(with_reducible refine Ye ?_ _)|(with_reducible refine Yi ?_))):P:=h
theorem z18_7 {P:Prop} (h:P:=by(with_reducible repeat(first|refine blk_drewN ?_ _|refine blk_drew ?_|refine blk_alloc ?_ _));exact BK585.out):P:=h
theorem z18_8 {P:Prop} (h:P:=by(with_reducible repeat(first|apply Kd.S_alloc|apply Kd.S_drewN|apply Kd.S_drew));exact HO575.out):P:=h
theorem z18_9 {P:Prop} (h:P:=by(with_reducible repeat(first|apply Zp|apply Zo|apply Zn));exact HO578.out):P:=h
theorem z18_10 {P:Prop} (h:P:=by repeat(first|exact(Yj HR1.out HB.out)|(with_reducible refine Yh ?_ _)|(with_reducible refine Ye ?_ _)|(with_reducible refine Yi ?_))):P:=h
theorem z18_11 {P:Prop} (h:P:=by repeat(first|exact(Yd HO_9.out).2.2|(with_reducible refine Yh ?_ _)|(with_reducible refine Ye ?_ _)|(with_reducible refine Yi ?_))):P:=h
theorem z18_12 {P:Prop} (h:P:=by(with_reducible repeat(first|apply Kd.S_alloc|apply Kd.S_drewN|apply Kd.S_drew));exact HO_586000.out):P:=h
theorem z18_13 {P:Prop} (h:P:=by(with_reducible repeat(first|apply Zp|apply Zo|apply Zn));exact HO581.out):P:=h
theorem z18_14 {P:Prop} (h:P:=by(with_reducible repeat(first|apply Zp|apply Zo|apply Zn));exact HO_8.out):P:=h
theorem z18_15 {P:Prop} (h:P:=by repeat(first|(with_reducible first|exact HB.out|apply Zh|apply Ze|apply Zd)|exact HB.out)):P:=h
theorem z18_16 {P:Prop} (h:P:=by(with_reducible repeat(first|apply Zp|apply Zo|apply Zn));exact(Yf (Kd.R_far (p:=⟨gb585,0,none⟩) (Kd.R_types HO581.out BK585.out (by decide)) (fun _ hk=>hk.2) (.slice Ao28 t582.length co28)) (fun _ h_=>h_.1))):P:=h
theorem z18_17 {P:Prop} (h:P:=by(with_reducible repeat(first|apply Zp|apply Zo|apply Zn));exact(Yf (Kd.R_far (p:=⟨gb585,0,none⟩) (Kd.R_types HO578.out BK585.out (by decide)) (fun _ hk=>hk.2) (.slice Ao28 t582.length co28)) (fun _ h_=>h_.1))):P:=h
theorem z18_18 {P:Prop} (h:P:=by kernel_rfl):P:=h
/-! ### laws_FnExactDirtyVars: function 3 -/
mutual
def laws_FnExactDirtyVars.j0:Nat→List Int→List (S68)→Option (Bool)
 |0,_,_=>none
 |k+1,x1,x572000=>(laws_szProgram.f k x572000 1048576).bind fun t572=>(if t572<0 then (some true) else (laws_FnExactDirtyVars.j1 k x1 x572000))
def laws_FnExactDirtyVars.j1:Nat→List Int→List (S68)→Option (Bool)
 |0,_,_=>none
 |k+1,x1,x572000=>(laws_toProgram.f k x572000).bind fun t573=>((laws_toIntS.f k x1).bind fun t576=>((spec_DirtyVars.f k t573 t576).bind fun t579=>((laws_toProgram.f k x572000).bind fun t582=>((laws_toIntS.f k x1).bind fun t586=>((impl_DirtyVars.f k t582 t586).bind fun t589=>((laws_eqIntS.f k t589 t579).bind fun t592=>(if t592=true then (laws_FnExactDirtyVars.j2 k x1 t579 t586 t589 x572000 t582) else (some false))))))))
def laws_FnExactDirtyVars.j2:Nat→List Int→List Int→List Int→List Int→List (S68)→List (S55)→Option (Bool)
 |0,_,_,_,_,_,_=>none
 |k+1,x1,x6,x8,x9,x572000,x586000=>(laws_toProgram.f k x572000).bind fun t593=>((laws_eqProgram.f k x586000 t593).bind fun t596=>(if t596=true then (laws_FnExactDirtyVars.j3 k x1 x6 x8 x9 x572000 x586000) else (some false)))
def laws_FnExactDirtyVars.j3:Nat→List Int→List Int→List Int→List Int→List (S68)→List (S55)→Option (Bool)
 |0,_,_,_,_,_,_=>none
 |k+1,x1,x6,x8,x9,x572000,x586000=>(laws_toIntS.f k x1).bind fun t597=>((laws_eqIntS.f k x8 t597).bind fun t600=>(if t600=true then (laws_FnExactDirtyVars.j4 k x1 x6 x8 x9 x572000 x586000) else (some false)))
def laws_FnExactDirtyVars.j4:Nat→List Int→List Int→List Int→List Int→List (S68)→List (S55)→Option (Bool)
 |0,_,_,_,_,_,_=>none
 |k+1,x1,x6,x8,x9,x572000,x586000=>(laws_markProgram.f x586000 1).bind fun t601=>((laws_markIntS.f k x8 t601).bind fun bt602=>(if bt602.1<0 then (laws_FnExactDirtyVars.j5 k x1 x6 x9 true x572000) else ((laws_eqIntS.f k x9 x6).bind fun t604=>(laws_FnExactDirtyVars.j5 k x1 x6 x9 (!t604) x572000))))
def laws_FnExactDirtyVars.j5:Nat→List Int→List Int→List Int→Bool→List (S68)→Option (Bool)
 |0,_,_,_,_,_=>none
 |k+1,x1,x6,x9,x61,x572000=>if x61=true then (some false) else (laws_FnExactDirtyVars.j6 k x1 x6 x9 x572000)
def laws_FnExactDirtyVars.j6:Nat→List Int→List Int→List Int→List (S68)→Option (Bool)
 |0,_,_,_,_=>none
 |k+1,x1,x6,x9,x572000=>(laws_markIntS.f k x9 1).bind fun bt605=>((laws_heldIntS.f k bt605.2 1).bind fun t607=>(if t607<0 then (some false) else (laws_FnExactDirtyVars.j7 k x1 x6 bt605.2 bt605.1 t607 x572000)))
def laws_FnExactDirtyVars.j7:Nat→List Int→List Int→List Int→Int→Int→List (S68)→Option (Bool)
 |0,_,_,_,_,_,_=>none
 |k+1,x1,x6,x9,x11,x12,x572000=>if x12=x11 then (laws_FnExactDirtyVars.j8 k x1 x6 x9 x11 x572000) else (some false)
def laws_FnExactDirtyVars.j8:Nat→List Int→List Int→List Int→Int→List (S68)→Option (Bool)
 |0,_,_,_,_,_=>none
 |k+1,x1,x6,x9,x11,x572000=>(laws_toProgram.f k x572000).bind fun t608=>((laws_toIntS.f k x1).bind fun t611=>((impl_DirtyVars.f k t608 t611).bind fun t614=>((laws_eqIntS.f k t614 x6).bind fun t617=>(if t617=true then (laws_FnExactDirtyVars.j9 k x9 x11) else (some false)))))
def laws_FnExactDirtyVars.j9:Nat→List Int→Int→Option (Bool)
 |0,_,_=>none
 |k+1,x9,x11=>(laws_heldIntS.f k x9 1).bind fun t618=>(if t618<0 then (some false) else (if t618=x11 then (some true) else (some false)))
end
def laws_FnExactDirtyVars.f (k:Nat) (l0_0:List (S68)) (l1:List Int):Option (Bool):=if (l1.length:Int) > 1048576 then (some true) else (laws_FnExactDirtyVars.j0 k l1 l0_0)
set_option maxHeartbeats 8000000 in
set_option maxRecDepth 100000 in
theorem laws_FnExactDirtyVars.calls (k:Nat) (A0_0:Option Addr) (c0_0:Nat) (l0_0:List (S68)) (A1:Option Addr) (c1:Nat) (l1:List Int) (r:Bool) (w:World) (hr0_0:Kd.C k68 w A0_0 l0_0.length l0_0) (hc0_0:l0_0.length≤c0_0) (hr1:Kd.C (Kd.int .i64) w A1 l1.length l1) (hc1:l1.length≤c1) (h:laws_FnExactDirtyVars.f k l0_0 l1=some r) (hT:Aside0 (r=true)):
  Calls Tryz.prog 3 #[.agg #[.slice A0_0 l0_0.length c0_0],.slice A1 l1.length c1] w fun e w'=>e= .returned (.bool r)∧Below w.heap.size w w':=by
 have hu24:=Tryz.underlying24
 have hu30:=Tryz.underlying30
 have HR0_0:=Za hr0_0
 have HC0_0:=Za hc0_0
 clear hr0_0 hc0_0
 have HR1:=Za hr1
 have HC1:=Za hc1
 clear hr1 hc1
 have HB:=Za (Yc w.heap.size w)
 have H:(if (l1.length:Int) > 1048576 then (some true) else (laws_FnExactDirtyVars.j0 k l1 l0_0))=some r:=h
 clear h
 have HC3:=Za H
 clear H
 go_enter Tryz.func3,Tryz.ntmps3
 go_upto_if 16 with(first|((with_reducible refine Zr (N:=2) rfl ?_);refine Zs ?hg (N:=2) ?hd (cs:= #[.slice A0_0 l0_0.length c0_0]) (t:=24) ?hr ?_;(case hd=>rfl);(case hg=>rfl);(case hr=>first|(go_simp;done)|(go_simp;rfl));intro gb571 hg w4 hbox hb;have BK571:=Za (hbox);have GW571:=Za ((by rw[hg];exact(Zt z18_15):w.heap.size≤gb571));have GE571:=Za ((by rw[hg];exact(Zt z18_15):w.heap.size≤gb571));replace HB:=Za (Zi z18_15 hb);clear hb hbox hg))
 (try simp only[Act.put,Zu,Zv,Zw])
 go_cut [] (fun wc=>∃(kq:Nat),Aside0 (laws_FnExactDirtyVars.j0 kq l1 l0_0=some r)∧Aside0 (kq≤k)∧Aside0 (wc.heap[gb571]? =some (.cells #[(.slice A0_0 l0_0.length c0_0)] 24 (0,0)))∧Aside0 (Below w.heap.size w wc))
 case first=>
  have H:=HC3.out
  clear HC3
  by_cases c5:(l1.length:Int) > 1048576
  ·rw[if_pos c5] at H
   have c5b0:decide (1048576<(l1.length:Int))=true:=Zq c5
   have c5b1:decide (1048576<l1.length)=true:=Zq (by omega)
   clear c5
   (first|rw[c5b0]|(simp only[i64_w,i32_w];rw[c5b0])|skip)
   obtain rfl:=Zm H
   go_wp2
   go_ret
   exact⟨by first|rfl|(simp[errW_none,errW_some]<;>rfl)|(simp[*,errW_none,errW_some]<;>rfl)|(simp[*,errW_none,errW_some,i64_w];done),by repeat(first|(with_reducible first|exact HB.out|apply Zh|apply Ze|apply Zd|refine Zg ?_ GE571.out)|exact HB.out)⟩
  ·rw[if_neg c5] at H
   have c5b0:decide (1048576<(l1.length:Int))=false:=Yg c5
   have c5b1:decide (1048576<l1.length)=false:=Yg (by omega)
   clear c5
   (first|rw[c5b0]|(simp only[i64_w,i32_w];rw[c5b0])|skip)
   have H':=Za H
   clear H
   go_wp2
   go_meet
   case rel=>exact⟨_,H',⟨by first|omega|exact Nat.le_refl _⟩,⟨by(with_reducible repeat(first|refine blk_drewN ?_ _|refine blk_drew ?_|refine blk_alloc ?_ _));exact BK571.out⟩,⟨by repeat(first|(with_reducible first|exact HB.out|apply Zh|apply Ze|apply Zd|refine Zg ?_ GE571.out)|exact HB.out)⟩⟩
 case rest=>
  clear HC3
  (try clear c1)
  obtain⟨kq,HA,HJ2,BK571,HB⟩:=hcut
  cases kq with
  |zero=>exact absurd HA.out (by simp[laws_FnExactDirtyVars.j0])
  |succ kj2=>
   have H:=HA.out
   clear HA
   simp only[laws_FnExactDirtyVars.j0] at H
   replace H:=Zl H
   obtain⟨t572,A60,H⟩:=H
   replace H:(if t572<0 then (some true) else (laws_FnExactDirtyVars.j1 kj2 l1 l0_0))=some r:=H
   have A6:=Za A60
   clear A60
   have HC7:=Za H
   clear H
   have hcz8_0:wc.cell? ⟨gb571,0,none⟩=some (.slice A0_0 l0_0.length c0_0):=(Zb BK571.out 0).trans rfl
   have hfz8_0:=Zc BK571.out 0
   go_upto_if 21 with(first|((first|((with_reducible refine gate_callee (f:=5) rfl ?_);refine goesL_ (some 19) rfl rfl Tryz.func5 z18_18 rfl #[.agg #[.slice A0_0 l0_0.length c0_0],.int .i64 1048576] rfl z18_1 ?_;(with_reducible refine(laws_szProgram.calls kj2 _ _ l0_0 1048576 t572 _ ?side1 ?side2 A6.out).mono ?_))|(go_at_call 5;(with_reducible refine(laws_szProgram.calls kj2 _ _ l0_0 1048576 t572 _ ?side1 ?side2 A6.out).mono ?_)));(case side1=>exact z18_6);(case side2=>exact HC0_0.out);rintro e w9 ⟨rfl,hb⟩;(first|refine⟨_,rfl,?_⟩|skip);replace BK571:=Za (Zk (g:=gb571) (o:= .cells #[.slice A0_0 l0_0.length c0_0] 24 (0,0)) z18_3 hb);replace HB:=Za (Zi z18_0 hb);(try clear hb);(try clear hb2);(try clear hk);(try clear hi)))
   (try simp only[Act.put,Zu,Zv,Zw])
   go_cut [] (fun wc=>∃(kq:Nat),Aside0 (laws_FnExactDirtyVars.j1 kq l1 l0_0=some r)∧Aside0 (kq≤kj2)∧Aside0 (wc.heap[gb571]? =some (.cells #[(.slice A0_0 l0_0.length c0_0)] 24 (0,0)))∧Aside0 (Below w.heap.size w wc))
   case first=>
    have H:=HC7.out
    clear HC7
    by_cases c10:t572<0
    ·rw[if_pos c10] at H
     have c10b0:decide (t572<0)=true:=Zq c10
     clear c10
     (first|rw[c10b0]|(simp only[i64_w,i32_w];rw[c10b0])|skip)
     obtain rfl:=Zm H
     go_wp2
     go_ret
     exact⟨by first|rfl|(simp[errW_none,errW_some]<;>rfl)|(simp[*,errW_none,errW_some]<;>rfl)|(simp[*,errW_none,errW_some,i64_w];done),by repeat(first|(with_reducible first|exact HB.out|apply Zh|apply Ze|apply Zd|refine Zg ?_ GE571.out)|exact HB.out)⟩
    ·rw[if_neg c10] at H
     have c10b0:decide (t572<0)=false:=Yg c10
     clear c10
     (first|rw[c10b0]|(simp only[i64_w,i32_w];rw[c10b0])|skip)
     have H':=Za H
     clear H
     go_wp2
     go_meet
     case rel=>exact⟨_,H',⟨by have:=HJ2.out;first|omega|exact Nat.le_refl _⟩,⟨by(with_reducible repeat(first|refine blk_drewN ?_ _|refine blk_drew ?_|refine blk_alloc ?_ _));exact BK571.out⟩,⟨by repeat(first|(with_reducible first|exact HB.out|apply Zh|apply Ze|apply Zd|refine Zg ?_ GE571.out)|exact HB.out)⟩⟩
   case rest=>
    clear HC7
    (try clear c1);(try clear hcz8_0);(try clear hfz8_0)
    obtain⟨kq,HA,HJ6,BK571,HB⟩:=hcut
    cases kq with
    |zero=>exact absurd HA.out (by simp[laws_FnExactDirtyVars.j1])
    |succ kj6=>
     have H:=HA.out
     clear HA
     simp only[laws_FnExactDirtyVars.j1] at H
     replace H:=Zl H
     obtain⟨t573,A110,H⟩:=H
     replace H:((laws_toIntS.f kj6 l1).bind fun t576=>((spec_DirtyVars.f kj6 t573 t576).bind fun t579=>((laws_toProgram.f kj6 l0_0).bind fun t582=>((laws_toIntS.f kj6 l1).bind fun t586=>((impl_DirtyVars.f kj6 t582 t586).bind fun t589=>((laws_eqIntS.f kj6 t589 t579).bind fun t592=>(if t592=true then (laws_FnExactDirtyVars.j2 kj6 l1 t579 t586 t589 l0_0 t582) else (some false))))))))=some r:=H
     have A11:=Za A110
     clear A110
     replace H:=Zl H
     obtain⟨t576,A120,H⟩:=H
     replace H:((spec_DirtyVars.f kj6 t573 t576).bind fun t579=>((laws_toProgram.f kj6 l0_0).bind fun t582=>((laws_toIntS.f kj6 l1).bind fun t586=>((impl_DirtyVars.f kj6 t582 t586).bind fun t589=>((laws_eqIntS.f kj6 t589 t579).bind fun t592=>(if t592=true then (laws_FnExactDirtyVars.j2 kj6 l1 t579 t586 t589 l0_0 t582) else (some false)))))))=some r:=H
     have A12:=Za A120
     clear A120
     replace H:=Zl H
     obtain⟨t579,A130,H⟩:=H
     replace H:((laws_toProgram.f kj6 l0_0).bind fun t582=>((laws_toIntS.f kj6 l1).bind fun t586=>((impl_DirtyVars.f kj6 t582 t586).bind fun t589=>((laws_eqIntS.f kj6 t589 t579).bind fun t592=>(if t592=true then (laws_FnExactDirtyVars.j2 kj6 l1 t579 t586 t589 l0_0 t582) else (some false))))))=some r:=H
     have A13:=Za A130
     clear A130
     replace H:=Zl H
     obtain⟨t582,A140,H⟩:=H
     replace H:((laws_toIntS.f kj6 l1).bind fun t586=>((impl_DirtyVars.f kj6 t582 t586).bind fun t589=>((laws_eqIntS.f kj6 t589 t579).bind fun t592=>(if t592=true then (laws_FnExactDirtyVars.j2 kj6 l1 t579 t586 t589 l0_0 t582) else (some false)))))=some r:=H
     have A14:=Za A140
     clear A140
     replace H:=Zl H
     obtain⟨t586,A150,H⟩:=H
     replace H:((impl_DirtyVars.f kj6 t582 t586).bind fun t589=>((laws_eqIntS.f kj6 t589 t579).bind fun t592=>(if t592=true then (laws_FnExactDirtyVars.j2 kj6 l1 t579 t586 t589 l0_0 t582) else (some false))))=some r:=H
     have A15:=Za A150
     clear A150
     replace H:=Zl H
     obtain⟨t589,A160,H⟩:=H
     replace H:((laws_eqIntS.f kj6 t589 t579).bind fun t592=>(if t592=true then (laws_FnExactDirtyVars.j2 kj6 l1 t579 t586 t589 l0_0 t582) else (some false)))=some r:=H
     have A16:=Za A160
     clear A160
     replace H:=Zl H
     obtain⟨t592,A170,H⟩:=H
     replace H:(if t592=true then (laws_FnExactDirtyVars.j2 kj6 l1 t579 t586 t589 l0_0 t582) else (some false))=some r:=H
     have A17:=Za A170
     clear A170
     have HC18:=Za H
     clear H
     have hcz19_0:wc.cell? ⟨gb571,0,none⟩=some (.slice A0_0 l0_0.length c0_0):=(Zb BK571.out 0).trans rfl
     have hfz19_0:=Zc BK571.out 0
     go_upto_if 37 with(first|((first|((with_reducible refine gate_callee (f:=7) rfl ?_);refine goesL_ (some 23) rfl rfl Tryz.func7 z18_18 rfl #[.agg #[.slice A0_0 l0_0.length c0_0]] rfl z18_1 ?_;(with_reducible refine(laws_toProgram.calls kj6 _ _ l0_0 t573 _ ?side1 ?side2 A11.out).mono ?_))|(go_at_call 7;(with_reducible refine(laws_toProgram.calls kj6 _ _ l0_0 t573 _ ?side1 ?side2 A11.out).mono ?_)));(case side1=>exact z18_6);(case side2=>exact HC0_0.out);rintro e w20 ⟨v574,rfl,ho0,hb⟩;(first|refine⟨_,rfl,?_⟩|skip);have HO575:=Za (Kd.S_lower ho0 (Zt z18_0));replace BK571:=Za (Zk (g:=gb571) (o:= .cells #[.slice A0_0 l0_0.length c0_0] 24 (0,0)) z18_3 hb);replace HB:=Za (Zi z18_0 hb);(try clear hb);(try clear hb2);(try clear hk);(try clear hi);(try clear ho0))|((first|((with_reducible refine gate_callee (f:=8) rfl ?_);refine goesL_ (some 25) rfl rfl Tryz.func8 z18_18 rfl #[.slice A1 l1.length c1] rfl z18_1 ?_;(with_reducible refine(laws_toIntS.calls kj6 _ _ l1 t576 _ ?side1 ?side2 A12.out).mono ?_))|(go_at_call 8;(with_reducible refine(laws_toIntS.calls kj6 _ _ l1 t576 _ ?side1 ?side2 A12.out).mono ?_)));(case side1=>exact z18_10);(case side2=>exact HC1.out);rintro e w21 ⟨v577,rfl,ho0,hb⟩;(first|refine⟨_,rfl,?_⟩|skip);replace HO575:=Za (Kd.S_below z18_8 hb);have HO578:=Za (Yq ho0 (Zt z18_0));replace BK571:=Za (Zk (g:=gb571) (o:= .cells #[.slice A0_0 l0_0.length c0_0] 24 (0,0)) z18_3 hb);replace HB:=Za (Zi z18_0 hb);(try clear hb);(try clear hb2);(try clear hk);(try clear hi);(try clear ho0);obtain⟨Ao22,co22,eo22⟩:=Kd.S_slice HO575.out;subst eo22;obtain⟨Ao23,co23,eo23⟩:=Yp HO578.out;subst eo23)|((first|((with_reducible refine gate_callee (f:=6) rfl ?_);refine goesL_ (some 26) rfl rfl Tryz.func6 z18_18 rfl #[.agg #[.slice Ao22 t573.length co22],.slice Ao23 t576.length co23] rfl z18_1 ?_;(with_reducible refine(spec_DirtyVars.calls kj6 _ _ t573 _ _ t576 t579 _ ?side1 ?side2 ?side3 ?side4 A13.out).mono ?_))|(go_at_call 6;(with_reducible refine(spec_DirtyVars.calls kj6 _ _ t573 _ _ t576 t579 _ ?side1 ?side2 ?side3 ?side4 A13.out).mono ?_)));(case side1=>repeat(first|exact(Kd.S_reads' HO575.out).2.2|(with_reducible refine Yh ?_ _)|(with_reducible refine Ye ?_ _)|(with_reducible refine Yi ?_)));(case side2=>exact(Kd.S_reads' HO575.out).2.1);(case side3=>repeat(first|exact(Yd HO578.out).2.2|(with_reducible refine Yh ?_ _)|(with_reducible refine Ye ?_ _)|(with_reducible refine Yi ?_)));(case side4=>exact(Yd HO578.out).2.1);rintro e w24 ⟨v580,rfl,ho0,hb⟩;(first|refine⟨_,rfl,?_⟩|skip);replace HO575:=Za (Kd.S_below z18_8 hb);have HO581:=Za (Yq (Kd.R_new' ho0 (Kd.R_lt z18_9)) (Zt z18_0));replace HO578:=Za (Yr z18_9 (Yo ho0) hb);replace BK571:=Za (Zk (g:=gb571) (o:= .cells #[.slice A0_0 l0_0.length c0_0] 24 (0,0)) z18_3 hb);replace HB:=Za (Zi z18_0 hb);(try clear hb);(try clear hb2);(try clear hk);(try clear hi);(try clear ho0);have hcz25_0:w24.cell? ⟨gb571,0,none⟩=some (.slice A0_0 l0_0.length c0_0):=(Zb BK571.out 0).trans rfl;have hfz25_0:=Zc BK571.out 0)|((first|((with_reducible refine gate_callee (f:=7) rfl ?_);refine goesL_ (some 28) rfl rfl Tryz.func7 z18_18 rfl #[.agg #[.slice A0_0 l0_0.length c0_0]] rfl z18_1 ?_;(with_reducible refine(laws_toProgram.calls kj6 _ _ l0_0 t582 _ ?side1 ?side2 A14.out).mono ?_))|(go_at_call 7;(with_reducible refine(laws_toProgram.calls kj6 _ _ l0_0 t582 _ ?side1 ?side2 A14.out).mono ?_)));(case side1=>exact z18_6);(case side2=>exact HC0_0.out);rintro e w26 ⟨v583,rfl,ho0,hb⟩;(first|refine⟨_,rfl,?_⟩|skip);replace HO578:=Za (Kd.R_below z18_9 hb);replace HO581:=Za (Kd.R_below z18_13 hb);have HO584:=Za (Kd.S_lower (Kd.S_new' ho0 (Kd.S_lt z18_8)) (Zt z18_0));replace HO575:=Za (Kd.S_elder' z18_8 (Kd.S_base ho0) hb);replace BK571:=Za (Zk (g:=gb571) (o:= .cells #[.slice A0_0 l0_0.length c0_0] 24 (0,0)) z18_3 hb);replace HB:=Za (Zi z18_0 hb);(try clear hb);(try clear hb2);(try clear hk);(try clear hi);(try clear ho0))|((with_reducible refine Zr (N:=7) rfl ?_);refine Zs ?hg (N:=7) ?hd (cs:= #[.slice none 0 0]) (t:=30) ?hr ?_;(case hd=>rfl);(case hg=>rfl);(case hr=>first|(go_simp;done)|(go_simp;rfl));intro gb585 hg w27 hbox hb;replace HO575:=Za (Kd.S_below z18_8 hb);replace HO578:=Za (Kd.R_below z18_9 hb);replace HO581:=Za (Kd.R_below z18_13 hb);replace HO584:=Za (Kd.S_below (by(with_reducible repeat(first|apply Kd.S_alloc|apply Kd.S_drewN|apply Kd.S_drew));exact HO584.out) hb);have BK585:=Za (hbox);have GW585:=Za ((by rw[hg];exact(Zt z18_0):w.heap.size≤gb585));have GE585:=Za ((by rw[hg];exact(Zt z18_0):w.heap.size≤gb585));replace HB:=Za (Zi z18_0 hb);have NB571_585:=Za ((by rw[hg];exact Nat.ne_of_lt (blk_lt (g:=gb571) (o:= .cells #[.slice A0_0 l0_0.length c0_0] 24 (0,0)) z18_3):gb571≠gb585));have NB585_571:=Za ((by rw[hg];exact Nat.ne_of_gt (blk_lt (g:=gb571) (o:= .cells #[.slice A0_0 l0_0.length c0_0] 24 (0,0)) z18_3):gb585≠gb571));replace BK571:=Za (Zk (g:=gb571) (o:= .cells #[.slice A0_0 l0_0.length c0_0] 24 (0,0)) z18_3 hb);clear hb hbox hg;obtain⟨Ao28,co28,eo28⟩:=Kd.S_slice HO584.out;subst eo28;have hnb29:=NB585_571.out;have hnc29:=NB571_585.out;have hcz30_0:w27.cell? ⟨gb585,0,none⟩=some (.slice none 0 0):=(Zb BK585.out 0).trans rfl;have hfz30_0:=Zc BK585.out 0)|((first|((with_reducible refine gate_callee (f:=8) rfl ?_);refine goesL_ (some 30) rfl rfl Tryz.func8 z18_18 rfl #[.slice A1 l1.length c1] rfl z18_1 ?_;(with_reducible refine(laws_toIntS.calls kj6 _ _ l1 t586 _ ?side1 ?side2 A15.out).mono ?_))|(go_at_call 8;(with_reducible refine(laws_toIntS.calls kj6 _ _ l1 t586 _ ?side1 ?side2 A15.out).mono ?_)));(case side1=>exact Yj HR1.out z18_2);(case side2=>exact HC1.out);rintro e w31 ⟨v587,rfl,ho0,hb⟩;(first|refine⟨_,rfl,?_⟩|skip);replace HO575:=Za (Kd.S_below (by(with_reducible repeat(first|apply Kd.S_alloc|apply Kd.S_drewN|apply Kd.S_drew));exact(Kd.S_mono (Kd.S_far (p:=⟨gb585,0,none⟩) (Kd.S_types HO575.out BK585.out (by decide)) (fun _ hk=>hk.2) (.slice Ao28 t582.length co28)) (fun _ h_=>h_.1))) hb);replace HO584:=Za (Kd.S_below (by(with_reducible repeat(first|apply Kd.S_alloc|apply Kd.S_drewN|apply Kd.S_drew));exact(Kd.S_mono (Kd.S_far (p:=⟨gb585,0,none⟩) (Kd.S_types HO584.out BK585.out (by decide)) (fun _ hk=>hk.2) (.slice Ao28 t582.length co28)) (fun _ h_=>h_.1))) hb);have HO588:=Za (Yq (Kd.R_new' (Kd.R_new' ho0 (Kd.R_lt z18_17)) (Kd.R_lt z18_16)) (Zt z18_2));replace HO578:=Za (Yr z18_17 (Yo ho0) hb);replace HO581:=Za (Yr z18_16 (Yo ho0) hb);replace BK571:=Za (Zk (g:=gb571) (o:= .cells #[.slice A0_0 l0_0.length c0_0] 24 (0,0)) (by(with_reducible repeat(first|refine blk_drewN ?_ _|refine blk_drew ?_|refine blk_alloc ?_ _));refine blk_far ?_ NB571_585.out _;(with_reducible repeat(first|refine blk_drewN ?_ _|refine blk_drew ?_|refine blk_alloc ?_ _));exact BK571.out) hb);replace BK585:=Za (Zk (g:=gb585) (o:= .cells #[.slice Ao28 t582.length co28] 30 (0,0)) (by(with_reducible repeat(first|refine blk_drewN ?_ _|refine blk_drew ?_|refine blk_alloc ?_ _));refine blk_put (cs:= #[.slice none 0 0]) ?_ 0 _ rfl;(with_reducible repeat(first|refine blk_drewN ?_ _|refine blk_drew ?_|refine blk_alloc ?_ _));exact BK585.out) hb);replace HB:=Za (Zi z18_2 hb);(try clear hb);(try clear hb2);(try clear hk);(try clear hi);(try clear ho0);have hcz32_0:w31.cell? ⟨gb585,0,none⟩=some (.slice Ao28 t582.length co28):=(Zb BK585.out 0).trans rfl;have hfz32_0:=Zc BK585.out 0;obtain⟨Ao33,co33,eo33⟩:=Yp HO588.out;subst eo33)|((first|((with_reducible refine gate_callee (f:=9) rfl ?_);refine goesL_ (some 33) rfl rfl Tryz.func9 z18_18 rfl #[.agg #[.slice Ao28 t582.length co28],.slice Ao33 t586.length co33] rfl z18_1 ?_;(with_reducible refine(impl_DirtyVars.calls kj6 _ _ t582 _ _ t586 t589 _ ?side1 ?side2 ?side3 ?side4 A16.out).mono ?_))|(go_at_call 9;(with_reducible refine(impl_DirtyVars.calls kj6 _ _ t582 _ _ t586 t589 _ ?side1 ?side2 ?side3 ?side4 A16.out).mono ?_)));(case side1=>repeat(first|exact(Kd.S_reads' HO584.out).2.2|(with_reducible refine Yh ?_ _)|(with_reducible refine Ye ?_ _)|(with_reducible refine Yi ?_)));(case side2=>exact(Kd.S_reads' HO584.out).2.1);(case side3=>repeat(first|exact(Yd HO588.out).2.2|(with_reducible refine Yh ?_ _)|(with_reducible refine Ye ?_ _)|(with_reducible refine Yi ?_)));(case side4=>exact(Yd HO588.out).2.1);rintro e w34 ⟨v590,rfl,ho0,hb⟩;(first|refine⟨_,rfl,?_⟩|skip);replace HO575:=Za (Kd.S_below z18_8 hb);replace HO584:=Za (Kd.S_below (by(with_reducible repeat(first|apply Kd.S_alloc|apply Kd.S_drewN|apply Kd.S_drew));exact HO584.out) hb);have HO591:=Za (Yq (Kd.R_new' (Kd.R_new' (Kd.R_new' ho0 (Kd.R_lt z18_9)) (Kd.R_lt z18_13)) (Kd.R_lt (by(with_reducible repeat(first|apply Zp|apply Zo|apply Zn));exact HO588.out))) (Zt z18_2));replace HO578:=Za (Yr z18_9 (Yo ho0) hb);replace HO581:=Za (Yr z18_13 (Yo ho0) hb);replace HO588:=Za (Yr (by(with_reducible repeat(first|apply Zp|apply Zo|apply Zn));exact HO588.out) (Yo ho0) hb);replace BK571:=Za (Zk (g:=gb571) (o:= .cells #[.slice A0_0 l0_0.length c0_0] 24 (0,0)) z18_3 hb);replace BK585:=Za (Zk (g:=gb585) (o:= .cells #[.slice Ao28 t582.length co28] 30 (0,0)) z18_7 hb);replace HB:=Za (Zi z18_2 hb);(try clear hb);(try clear hb2);(try clear hk);(try clear hi);(try clear ho0);obtain⟨Ao35,co35,eo35⟩:=Yp HO591.out;subst eo35;obtain⟨Ao36,co36,eo36⟩:=Yp HO581.out;subst eo36)|((first|((with_reducible refine gate_callee (f:=10) rfl ?_);refine goesL_ (some 36) rfl rfl Tryz.func10 z18_18 rfl #[.slice Ao35 t589.length co35,.slice Ao36 t579.length co36] rfl z18_1 ?_;(with_reducible refine(laws_eqIntS.calls kj6 _ _ t589 _ _ t579 t592 _ ?side1 ?side2 ?side3 ?side4 A17.out).mono ?_))|(go_at_call 10;(with_reducible refine(laws_eqIntS.calls kj6 _ _ t589 _ _ t579 t592 _ ?side1 ?side2 ?side3 ?side4 A17.out).mono ?_)));(case side1=>repeat(first|exact(Yd HO591.out).2.2|(with_reducible refine Yh ?_ _)|(with_reducible refine Ye ?_ _)|(with_reducible refine Yi ?_)));(case side2=>exact(Yd HO591.out).2.1);(case side3=>repeat(first|exact(Yd HO581.out).2.2|(with_reducible refine Yh ?_ _)|(with_reducible refine Ye ?_ _)|(with_reducible refine Yi ?_)));(case side4=>exact(Yd HO581.out).2.1);rintro e w' ⟨rfl,⟨nd,rfl⟩⟩;(first|refine⟨_,rfl,?_⟩|skip)))
     (try simp only[Act.put,Zu,Zv,Zw])
     go_cut [] (fun wc=>∃(kq:Nat),Aside0 (laws_FnExactDirtyVars.j2 kq l1 t579 t586 t589 l0_0 t582=some r)∧Aside0 (kq≤kj6)∧Aside0 (Kd.R (Kd.int .i64) 3 wc w.heap.size (fun k_=>some k_≠((.slice Ao33 t586.length co33):Value).ownBlock∧some k_≠((.slice Ao35 t589.length co35):Value).ownBlock) (.slice Ao36 t579.length co36) t579)∧Aside0 (Kd.R (Kd.int .i64) 3 wc w.heap.size (fun k_=>some k_≠((.slice Ao36 t579.length co36):Value).ownBlock∧some k_≠((.slice Ao35 t589.length co35):Value).ownBlock) (.slice Ao33 t586.length co33) t586)∧Aside0 (Kd.R (Kd.int .i64) 3 wc w.heap.size (fun k_=>some k_≠((.slice Ao36 t579.length co36):Value).ownBlock∧some k_≠((.slice Ao33 t586.length co33):Value).ownBlock) (.slice Ao35 t589.length co35) t589)∧Aside0 (Kd.S k55 55 wc w.heap.size (fun _=>True) (.slice Ao28 t582.length co28) t582)∧Aside0 (wc.heap[gb571]? =some (.cells #[(.slice A0_0 l0_0.length c0_0)] 24 (0,0)))∧Aside0 (wc.heap[gb585]? =some (.cells #[(.slice Ao28 t582.length co28)] 30 (0,0)))∧Aside0 (Below w.heap.size w wc))
     case first=>
      have H:=HC18.out
      clear HC18
      by_cases c37:t592=true
      ·subst c37
       rw[if_pos rfl] at H
       have H':=Za H
       clear H
       go_wp2
       go_meet
       case rel=>exact⟨_,H',⟨by have:=HJ2.out;have:=HJ6.out;first|omega|exact Nat.le_refl _⟩,⟨by(with_reducible repeat(first|apply Zp|apply Zo|apply Zn));exact Yf HO581.out (fun _ hk=>⟨hk.1.2,hk.2⟩)⟩,⟨by(with_reducible repeat(first|apply Zp|apply Zo|apply Zn));exact Yf HO588.out (fun _ hk=>⟨hk.1.2,hk.2⟩)⟩,⟨by(with_reducible repeat(first|apply Zp|apply Zo|apply Zn));exact Yf HO591.out (fun _ hk=>⟨hk.1.2,hk.2⟩)⟩,⟨by(with_reducible repeat(first|apply Kd.S_alloc|apply Kd.S_drewN|apply Kd.S_drew));exact Kd.S_mono HO584.out (fun _ hk=>trivial)⟩,⟨by(with_reducible repeat(first|refine blk_drewN ?_ _|refine blk_drew ?_|refine blk_alloc ?_ _));exact BK571.out⟩,⟨by(with_reducible repeat(first|refine blk_drewN ?_ _|refine blk_drew ?_|refine blk_alloc ?_ _));exact BK585.out⟩,⟨by repeat(first|(with_reducible first|exact HB.out|apply Zh|apply Ze|apply Zd|refine Zg ?_ GE571.out|refine Zg ?_ GE585.out)|exact HB.out)⟩⟩
      ·replace c37:=Bool.eq_false_iff.mpr c37
       subst c37
       rw[if_neg (show ¬(false=true) by decide)] at H
       exact absurd (hT.out.symm.trans (Zm H).symm) (by decide)
     case rest=>
      clear HC18
      (try clear c1);(try clear hcz19_0);(try clear hcz25_0);(try clear hcz30_0);(try clear hcz32_0);(try clear hcz8_0);(try clear hfz19_0);(try clear hfz25_0);(try clear hfz30_0);(try clear hfz32_0);(try clear hfz8_0)
      obtain⟨kq,HA,HJ17,HO_6,HO_8,HO_9,HO_586000,BK571,BK585,HB⟩:=hcut
      cases kq with
      |zero=>exact absurd HA.out (by simp[laws_FnExactDirtyVars.j2])
      |succ kj17=>
       have H:=HA.out
       clear HA
       simp only[laws_FnExactDirtyVars.j2] at H
       replace H:=Zl H
       obtain⟨t593,A380,H⟩:=H
       replace H:((laws_eqProgram.f kj17 t582 t593).bind fun t596=>(if t596=true then (laws_FnExactDirtyVars.j3 kj17 l1 t579 t586 t589 l0_0 t582) else (some false)))=some r:=H
       have A38:=Za A380
       clear A380
       replace H:=Zl H
       obtain⟨t596,A390,H⟩:=H
       replace H:(if t596=true then (laws_FnExactDirtyVars.j3 kj17 l1 t579 t586 t589 l0_0 t582) else (some false))=some r:=H
       have A39:=Za A390
       clear A390
       have HC40:=Za H
       clear H
       try go_wp2
       have n0_:=Za (Zn HO_6.out)
       have n1_:=Za (Zn HO_8.out)
       have n2_:=Za (Zn HO_9.out)
       have n3_:=Za (Kd.S_drew HO_586000.out)
       have n4_:=Za (blk_drew BK571.out)
       have n5_:=Za (blk_drew BK585.out)
       have n6_:=Za (Zd HB.out)
       clear HO_6
       clear HO_8
       clear HO_9
       clear HO_586000
       clear BK571
       clear BK585
       clear HB
       have HO_6:=n0_
       have HO_8:=n1_
       have HO_9:=n2_
       have HO_586000:=n3_
       have BK571:=n4_
       have BK585:=n5_
       have HB:=n6_
       clear n0_ n1_ n2_ n3_ n4_ n5_ n6_
       refine start_ (n:=5) (S:=fun w'=>w'.cell? ⟨gb585,0,none⟩=some (.slice Ao28 t582.length co28)∧w'.cell? ⟨gb571,0,none⟩=some (.slice A0_0 l0_0.length c0_0)) (ds:=[]) #[false,false,false,false,false] z18_18 rfl rfl ⟨(Zb BK585.out 0).trans rfl,(Zb BK571.out 0).trans rfl⟩ (fun hHeld=> ?_)
       generalize wc.drew=w41 at HO_6 HO_8 HO_9 HO_586000 BK571 BK585 HB hHeld ⊢
       refine take_ (i:=0) (N:=some 38) (v:= ?_) (a':= ?_) #[true,false,false,false,false] rfl rfl z18_18 (fun _ _ _ h=>h) (Or.inl ⟨by rfl,?_⟩) hHeld ?_ ?_
       rotate_left
       ·rintro w' ⟨s0,s1⟩
        go_simp
        with_reducible rfl
       rotate_left
       ·simp only[Act.put,Zu,Zv,Zw,i64_w,i32_w]
        rfl
       refine take_ (i:=1) (N:=some 39) (v:= ?_) (a':= ?_) #[true,true,false,false,false] rfl rfl z18_18 (fun _ _ _ h=>h) (Or.inl ⟨by rfl,?_⟩) hHeld ?_ ?_
       rotate_left
       ·rintro w' ⟨s0,s1⟩
        go_simp
        with_reducible rfl
       rotate_left
       ·simp only[Act.put,Zu,Zv,Zw,i64_w,i32_w]
        rfl
       refine one_ (i:=2) (N:=some 40) #[true,true,true,false,false] rfl rfl z18_18 (by decide) (fun K hK=> ?_)
       refine goes_ Tryz.func7 z18_18 rfl #[.agg #[.slice A0_0 l0_0.length c0_0]] (by rfl) rfl rfl z18_1 ?_
       with_reducible refine(laws_toProgram.calls kj17 _ _ l0_0 t593 _ ?side1 ?side2 A38.out).mono ?_
       (case side1=>exact z18_6)
       (case side2=>exact HC0_0.out)
       rintro e w42 ⟨v594,rfl,ho0,hb⟩
       refine⟨_,rfl,?_⟩
       have n0_:=Za (Kd.R_below z18_5 hb)
       have n1_:=Za (Kd.R_below z18_14 hb)
       have n2_:=Za (Kd.R_below z18_4 hb)
       have n3_:=Za (Kd.S_elder' z18_12 (Kd.S_base ho0) hb)
       have n4_:=Za (Kd.S_lower (Kd.S_new' ho0 (Kd.S_lt z18_12)) (Zt z18_2))
       have n5_:=Za (Zk (g:=gb571) (o:= .cells #[.slice A0_0 l0_0.length c0_0] 24 (0,0)) z18_3 hb)
       have n6_:=Za (Zk (g:=gb585) (o:= .cells #[.slice Ao28 t582.length co28] 30 (0,0)) z18_7 hb)
       have n7_:=Za (Zi z18_2 hb)
       clear HO_6
       clear HO_8
       clear HO_9
       clear HO_586000
       clear BK571
       clear BK585
       clear HB
       have HO_6:=n0_
       have HO_8:=n1_
       have HO_9:=n2_
       have HO_586000:=n3_
       have HO595:=n4_
       have BK571:=n5_
       have BK585:=n6_
       have HB:=n7_
       clear n0_ n1_ n2_ n3_ n4_ n5_ n6_ n7_
       (try clear hb)
       (try clear hb2)
       (try clear hk)
       (try clear hi)
       (try clear ho0)
       obtain⟨Ao43,co43,eo43⟩:=Kd.S_slice HO595.out
       (first|subst eo43|(injection eo43 with f1_ f2_ f3_;have f4_:=f1_.symm;have f5_:=f3_.symm;clear f1_ f2_ f3_;subst f4_;subst f5_))
       refine hK.out _ _ ⟨(Zb BK585.out 0).trans rfl,(Zb BK571.out 0).trans rfl⟩ (fun hHeld=> ?_)
       clear hK K
       refine norm_ (a':= ?_) ?_ ?_
       rotate_left
       ·show Act.put _ (some 40) _=_
        simp only[Act.put,Zu,Zv,Zw,i64_w,i32_w]
        rfl
       refine one_ (i:=3) (N:=some 41) #[true,true,true,true,false] rfl rfl z18_18 (by decide) (fun K hK=> ?_)
       refine goes_ Tryz.func11 z18_18 rfl #[.agg #[.slice Ao28 t582.length co28],.agg #[.slice Ao43 t593.length co43]] (by rfl) rfl rfl z18_1 ?_
       with_reducible refine(laws_eqProgram.calls kj17 _ _ t582 _ _ t593 t596 _ ?side1 ?side2 ?side3 ?side4 A39.out).mono ?_
       (case side1=>repeat(first|exact(Kd.S_reads' HO_586000.out).2.2|(with_reducible refine Yh ?_ _)|(with_reducible refine Ye ?_ _)|(with_reducible refine Yi ?_)))
       (case side2=>exact(Kd.S_reads' HO_586000.out).2.1)
       (case side3=>repeat(first|exact(Kd.S_reads' HO595.out).2.2|(with_reducible refine Yh ?_ _)|(with_reducible refine Ye ?_ _)|(with_reducible refine Yi ?_)))
       (case side4=>exact(Kd.S_reads' HO595.out).2.1)
       rintro e w44 ⟨rfl,hb⟩
       refine⟨_,rfl,?_⟩
       have n0_:=Za (Kd.R_below z18_5 hb)
       have n1_:=Za (Kd.R_below z18_14 hb)
       have n2_:=Za (Kd.R_below z18_4 hb)
       have n3_:=Za (Kd.S_below z18_12 hb)
       have n4_:=Za (Kd.S_below (by(with_reducible repeat(first|apply Kd.S_alloc|apply Kd.S_drewN|apply Kd.S_drew));exact HO595.out) hb)
       have n5_:=Za (Zk (g:=gb571) (o:= .cells #[.slice A0_0 l0_0.length c0_0] 24 (0,0)) z18_3 hb)
       have n6_:=Za (Zk (g:=gb585) (o:= .cells #[.slice Ao28 t582.length co28] 30 (0,0)) z18_7 hb)
       have n7_:=Za (Zi z18_2 hb)
       clear HO_6
       clear HO_8
       clear HO_9
       clear HO_586000
       clear HO595
       clear BK571
       clear BK585
       clear HB
       have HO_6:=n0_
       have HO_8:=n1_
       have HO_9:=n2_
       have HO_586000:=n3_
       have HO595:=n4_
       have BK571:=n5_
       have BK585:=n6_
       have HB:=n7_
       clear n0_ n1_ n2_ n3_ n4_ n5_ n6_ n7_
       (try clear hb)
       (try clear hb2)
       (try clear hk)
       (try clear hi)
       refine hK.out _ _ ⟨(Zb BK585.out 0).trans rfl,(Zb BK571.out 0).trans rfl⟩ (fun hHeld=> ?_)
       clear hK K
       refine norm_ (a':= ?_) ?_ ?_
       rotate_left
       ·show Act.put _ (some 41) _=_
        simp only[Act.put,Zu,Zv,Zw,i64_w,i32_w]
        rfl
       refine pure_ (i:=4) (N:=some 42) (v:= ?_) (a':= ?_) #[true,true,true,true,true] rfl rfl z18_18 (fun _ _ _ h=>h) (Or.inl ⟨by rfl,?_⟩) ?_ ?_
       rotate_left
       ·intro w'
        go_simp
        with_reducible rfl
       rotate_left
       ·simp only[Act.put,Zu,Zv,Zw,i64_w,i32_w]
        rfl
       refine done_ z18_18 ?_
       go_upto_if 42 with(fail)
       go_cut [] (fun wc=>∃(kq:Nat),Aside0 (laws_FnExactDirtyVars.j3 kq l1 t579 t586 t589 l0_0 t582=some r)∧Aside0 (kq≤kj17)∧Aside0 (Kd.R (Kd.int .i64) 3 wc w.heap.size (fun k_=>some k_≠((.slice Ao33 t586.length co33):Value).ownBlock∧some k_≠((.slice Ao35 t589.length co35):Value).ownBlock) (.slice Ao36 t579.length co36) t579)∧Aside0 (Kd.R (Kd.int .i64) 3 wc w.heap.size (fun k_=>some k_≠((.slice Ao36 t579.length co36):Value).ownBlock∧some k_≠((.slice Ao35 t589.length co35):Value).ownBlock) (.slice Ao33 t586.length co33) t586)∧Aside0 (Kd.R (Kd.int .i64) 3 wc w.heap.size (fun k_=>some k_≠((.slice Ao36 t579.length co36):Value).ownBlock∧some k_≠((.slice Ao33 t586.length co33):Value).ownBlock) (.slice Ao35 t589.length co35) t589)∧Aside0 (Kd.S k55 55 wc w.heap.size (fun _=>True) (.slice Ao28 t582.length co28) t582)∧Aside0 (wc.heap[gb571]? =some (.cells #[(.slice A0_0 l0_0.length c0_0)] 24 (0,0)))∧Aside0 (wc.heap[gb585]? =some (.cells #[(.slice Ao28 t582.length co28)] 30 (0,0)))∧Aside0 (Below w.heap.size w wc))
       case first=>
        have H:=HC40.out
        clear HC40
        by_cases c45:t596=true
        ·subst c45
         rw[if_pos rfl] at H
         have H':=Za H
         clear H
         go_wp2
         go_meet
         case rel=>exact⟨_,H',⟨by have:=HJ2.out;have:=HJ6.out;have:=HJ17.out;first|omega|exact Nat.le_refl _⟩,⟨by(with_reducible repeat(first|apply Zp|apply Zo|apply Zn));exact HO_6.out⟩,⟨by(with_reducible repeat(first|apply Zp|apply Zo|apply Zn));exact HO_8.out⟩,⟨by(with_reducible repeat(first|apply Zp|apply Zo|apply Zn));exact HO_9.out⟩,⟨by(with_reducible repeat(first|apply Kd.S_alloc|apply Kd.S_drewN|apply Kd.S_drew));exact Kd.S_mono HO_586000.out (fun _ hk=>trivial)⟩,⟨by(with_reducible repeat(first|refine blk_drewN ?_ _|refine blk_drew ?_|refine blk_alloc ?_ _));exact BK571.out⟩,⟨by(with_reducible repeat(first|refine blk_drewN ?_ _|refine blk_drew ?_|refine blk_alloc ?_ _));exact BK585.out⟩,⟨by repeat(first|(with_reducible first|exact HB.out|apply Zh|apply Ze|apply Zd|refine Zg ?_ GE571.out|refine Zg ?_ GE585.out)|exact HB.out)⟩⟩
        ·replace c45:=Bool.eq_false_iff.mpr c45
         subst c45
         rw[if_neg (show ¬(false=true) by decide)] at H
         exact absurd (hT.out.symm.trans (Zm H).symm) (by decide)
       case rest=>
        clear HC40
        (try clear c1);(try clear hcz19_0);(try clear hcz25_0);(try clear hcz30_0);(try clear hcz32_0);(try clear hcz8_0);(try clear hfz19_0);(try clear hfz25_0);(try clear hfz30_0);(try clear hfz32_0);(try clear hfz8_0)
        obtain⟨kq,HA,HJ39,HO_6,HO_8,HO_9,HO_586000,BK571,BK585,HB⟩:=hcut
        cases kq with
        |zero=>exact absurd HA.out (by simp[laws_FnExactDirtyVars.j3])
        |succ kj39=>
         have H:=HA.out
         clear HA
         simp only[laws_FnExactDirtyVars.j3] at H
         replace H:=Zl H
         obtain⟨t597,A460,H⟩:=H
         replace H:((laws_eqIntS.f kj39 t586 t597).bind fun t600=>(if t600=true then (laws_FnExactDirtyVars.j4 kj39 l1 t579 t586 t589 l0_0 t582) else (some false)))=some r:=H
         have A46:=Za A460
         clear A460
         replace H:=Zl H
         obtain⟨t600,A470,H⟩:=H
         replace H:(if t600=true then (laws_FnExactDirtyVars.j4 kj39 l1 t579 t586 t589 l0_0 t582) else (some false))=some r:=H
         have A47:=Za A470
         clear A470
         have HC48:=Za H
         clear H
         go_upto_if 47 with(first|((first|((with_reducible refine gate_callee (f:=8) rfl ?_);refine goesL_ (some 45) rfl rfl Tryz.func8 z18_18 rfl #[.slice A1 l1.length c1] rfl z18_1 ?_;(with_reducible refine(laws_toIntS.calls kj39 _ _ l1 t597 _ ?side1 ?side2 A46.out).mono ?_))|(go_at_call 8;(with_reducible refine(laws_toIntS.calls kj39 _ _ l1 t597 _ ?side1 ?side2 A46.out).mono ?_)));(case side1=>exact z18_10);(case side2=>exact HC1.out);rintro e w49 ⟨v598,rfl,ho0,hb⟩;(first|refine⟨_,rfl,?_⟩|skip);replace HO_586000:=Za (Kd.S_below z18_12 hb);have HO599:=Za (Yq (Kd.R_new' (Kd.R_new' (Kd.R_new' ho0 (Kd.R_lt z18_5)) (Kd.R_lt z18_14)) (Kd.R_lt z18_4)) (Zt z18_2));replace HO_6:=Za (Yr z18_5 (Yo ho0) hb);replace HO_8:=Za (Yr z18_14 (Yo ho0) hb);replace HO_9:=Za (Yr z18_4 (Yo ho0) hb);replace BK571:=Za (Zk (g:=gb571) (o:= .cells #[.slice A0_0 l0_0.length c0_0] 24 (0,0)) z18_3 hb);replace BK585:=Za (Zk (g:=gb585) (o:= .cells #[.slice Ao28 t582.length co28] 30 (0,0)) z18_7 hb);replace HB:=Za (Zi z18_2 hb);(try clear hb);(try clear hb2);(try clear hk);(try clear hi);(try clear ho0);obtain⟨Ao50,co50,eo50⟩:=Yp HO599.out;subst eo50)|((first|((with_reducible refine gate_callee (f:=10) rfl ?_);refine goesL_ (some 46) rfl rfl Tryz.func10 z18_18 rfl #[.slice Ao33 t586.length co33,.slice Ao50 t597.length co50] rfl z18_1 ?_;(with_reducible refine(laws_eqIntS.calls kj39 _ _ t586 _ _ t597 t600 _ ?side1 ?side2 ?side3 ?side4 A47.out).mono ?_))|(go_at_call 10;(with_reducible refine(laws_eqIntS.calls kj39 _ _ t586 _ _ t597 t600 _ ?side1 ?side2 ?side3 ?side4 A47.out).mono ?_)));(case side1=>repeat(first|exact(Yd HO_8.out).2.2|(with_reducible refine Yh ?_ _)|(with_reducible refine Ye ?_ _)|(with_reducible refine Yi ?_)));(case side2=>exact(Yd HO_8.out).2.1);(case side3=>repeat(first|exact(Yd HO599.out).2.2|(with_reducible refine Yh ?_ _)|(with_reducible refine Ye ?_ _)|(with_reducible refine Yi ?_)));(case side4=>exact(Yd HO599.out).2.1);rintro e w' ⟨rfl,⟨nd,rfl⟩⟩;(first|refine⟨_,rfl,?_⟩|skip)))
         (try simp only[Act.put,Zu,Zv,Zw])
         go_cut [] (fun wc=>∃(kq:Nat),Aside0 (laws_FnExactDirtyVars.j4 kq l1 t579 t586 t589 l0_0 t582=some r)∧Aside0 (kq≤kj39)∧Aside0 (Kd.R (Kd.int .i64) 3 wc w.heap.size (fun k_=>some k_≠((.slice Ao33 t586.length co33):Value).ownBlock∧some k_≠((.slice Ao35 t589.length co35):Value).ownBlock) (.slice Ao36 t579.length co36) t579)∧Aside0 (Kd.R (Kd.int .i64) 3 wc w.heap.size (fun k_=>some k_≠((.slice Ao36 t579.length co36):Value).ownBlock∧some k_≠((.slice Ao35 t589.length co35):Value).ownBlock) (.slice Ao33 t586.length co33) t586)∧Aside0 (Kd.R (Kd.int .i64) 3 wc w.heap.size (fun k_=>some k_≠((.slice Ao36 t579.length co36):Value).ownBlock∧some k_≠((.slice Ao33 t586.length co33):Value).ownBlock) (.slice Ao35 t589.length co35) t589)∧Aside0 (Kd.S k55 55 wc w.heap.size (fun _=>True) (.slice Ao28 t582.length co28) t582)∧Aside0 (wc.heap[gb571]? =some (.cells #[(.slice A0_0 l0_0.length c0_0)] 24 (0,0)))∧Aside0 (wc.heap[gb585]? =some (.cells #[(.slice Ao28 t582.length co28)] 30 (0,0)))∧Aside0 (Below w.heap.size w wc))
         case first=>
          have H:=HC48.out
          clear HC48
          by_cases c51:t600=true
          ·subst c51
           rw[if_pos rfl] at H
           have H':=Za H
           clear H
           go_wp2
           go_meet
           case rel=>exact⟨_,H',⟨by have:=HJ2.out;have:=HJ6.out;have:=HJ17.out;have:=HJ39.out;first|omega|exact Nat.le_refl _⟩,⟨by(with_reducible repeat(first|apply Zp|apply Zo|apply Zn));exact Yf HO_6.out (fun _ hk=>⟨hk.1.1,hk.1.2⟩)⟩,⟨by(with_reducible repeat(first|apply Zp|apply Zo|apply Zn));exact Yf HO_8.out (fun _ hk=>⟨hk.1.1,hk.1.2⟩)⟩,⟨by(with_reducible repeat(first|apply Zp|apply Zo|apply Zn));exact Yf HO_9.out (fun _ hk=>⟨hk.1.1,hk.1.2⟩)⟩,⟨by(with_reducible repeat(first|apply Kd.S_alloc|apply Kd.S_drewN|apply Kd.S_drew));exact HO_586000.out⟩,⟨by(with_reducible repeat(first|refine blk_drewN ?_ _|refine blk_drew ?_|refine blk_alloc ?_ _));exact BK571.out⟩,⟨by(with_reducible repeat(first|refine blk_drewN ?_ _|refine blk_drew ?_|refine blk_alloc ?_ _));exact BK585.out⟩,⟨by repeat(first|(with_reducible first|exact HB.out|apply Zh|apply Ze|apply Zd|refine Zg ?_ GE571.out|refine Zg ?_ GE585.out)|exact HB.out)⟩⟩
          ·replace c51:=Bool.eq_false_iff.mpr c51
           subst c51
           rw[if_neg (show ¬(false=true) by decide)] at H
           exact absurd (hT.out.symm.trans (Zm H).symm) (by decide)
         case rest=>
          clear HC48
          (try clear c1);(try clear hcz19_0);(try clear hcz25_0);(try clear hcz30_0);(try clear hcz32_0);(try clear hcz8_0);(try clear hfz19_0);(try clear hfz25_0);(try clear hfz30_0);(try clear hfz32_0);(try clear hfz8_0)
          obtain⟨kq,HA,HJ47,HO_6,HO_8,HO_9,HO_586000,BK571,BK585,HB⟩:=hcut
          cases kq with
          |zero=>exact absurd HA.out (by simp[laws_FnExactDirtyVars.j4])
          |succ kj47=>
           have H:=HA.out
           clear HA
           simp only[laws_FnExactDirtyVars.j4] at H
           replace H:=Zl H
           obtain⟨t601,A520,H⟩:=H
           replace H:((laws_markIntS.f kj47 t586 t601).bind fun bt602=>(if bt602.1<0 then (laws_FnExactDirtyVars.j5 kj47 l1 t579 t589 true l0_0) else ((laws_eqIntS.f kj47 t589 t579).bind fun t604=>(laws_FnExactDirtyVars.j5 kj47 l1 t579 t589 (!t604) l0_0))))=some r:=H
           have A52:=Za A520
           clear A520
           replace H:=Zl H
           obtain⟨⟨t602,t603⟩,A530,H⟩:=H
           replace H:(if t602<0 then (laws_FnExactDirtyVars.j5 kj47 l1 t579 t589 true l0_0) else ((laws_eqIntS.f kj47 t589 t579).bind fun t604=>(laws_FnExactDirtyVars.j5 kj47 l1 t579 t589 (!t604) l0_0)))=some r:=H
           have A53:=Za A530
           clear A530
           have HC54:=Za H
           clear H
           have hnb55:=NB585_571.out
           have hnc55:=NB571_585.out
           have hcz56_0:wc.cell? ⟨gb585,0,none⟩=some (.slice Ao28 t582.length co28):=(Zb BK585.out 0).trans rfl
           have hfz56_0:=Zc BK585.out 0
           go_upto_region 20 with(first|((first|((with_reducible refine gate_callee (f:=12) rfl ?_);refine goesL_ (some 50) rfl rfl Tryz.func12 z18_18 rfl #[.agg #[.slice Ao28 t582.length co28],.int .i64 1] rfl z18_1 ?_;(with_reducible refine(laws_markProgram.calls _ t582 1 t601 _ _ _ HO_586000.out A52.out).mono ?_))|(go_at_call 12;(with_reducible refine(laws_markProgram.calls _ t582 1 t601 _ _ _ HO_586000.out A52.out).mono ?_)));rintro e w57 ⟨rfl,hmk⟩;(first|refine⟨_,rfl,?_⟩|skip);have n0_:=Za (Yf (ok':=fun k_=>some k_≠(.slice Ao33 t586.length co33:Value).ownBlock∧some k_≠(.slice Ao35 t589.length co35:Value).ownBlock) (Sep.MK.row hmk HO_6.out (by decide)) (fun k_ hk_=>⟨hk_.1,hk_.2⟩));have n1_:=Za (Yf (ok':=fun k_=>some k_≠(.slice Ao36 t579.length co36:Value).ownBlock∧some k_≠(.slice Ao35 t589.length co35:Value).ownBlock) (Sep.MK.row hmk HO_8.out (by decide)) (fun k_ hk_=>⟨hk_.1,hk_.2⟩));have n2_:=Za (Yf (ok':=fun k_=>some k_≠(.slice Ao36 t579.length co36:Value).ownBlock∧some k_≠(.slice Ao33 t586.length co33:Value).ownBlock) (Sep.MK.row hmk HO_9.out (by decide)) (fun k_ hk_=>⟨hk_.1,hk_.2⟩));have n3_:=Za (Sep.MK.blk hmk z18_3 (by decide));have n4_:=Za (Sep.MK.blk hmk z18_7 (by decide));have n5_:=Za (Sep.MK.to_below hmk z18_2 (Nat.le_refl _));clear HO_6;clear HO_8;clear HO_9;clear BK571;clear BK585;clear HB;clear HO_586000;have HO_6:=n0_;have HO_8:=n1_;have HO_9:=n2_;have BK571:=n3_;have BK585:=n4_;have HB:=n5_;clear n0_ n1_ n2_ n3_ n4_ n5_;(try clear hmk))|((first|((with_reducible refine gate_callee (f:=13) rfl ?_);refine goesL_ (some 53) rfl rfl Tryz.func13 z18_18 rfl #[.slice Ao33 t586.length co33,.int .i64 t601] rfl z18_1 ?_;(with_reducible refine(laws_markIntS.calls kj47 (fun k_=>some k_=(.slice Ao33 t586.length co33:Value).ownBlock) (.slice Ao33 t586.length co33) t586 t601 t602 t603 w _ ?side1 ?side2 A53.out).mono ?_))|(go_at_call 13;(with_reducible refine(laws_markIntS.calls kj47 (fun k_=>some k_=(.slice Ao33 t586.length co33:Value).ownBlock) (.slice Ao33 t586.length co33) t586 t601 t602 t603 w _ ?side1 ?side2 A53.out).mono ?_)));(case side1=>exact z18_2);(case side2=>exact Kd.R_tight rfl HO_8.out);rintro e w58 ⟨rfl,hy0,hb,hkp⟩;(first|refine⟨_,rfl,?_⟩|skip);replace HO_6:=Za (Yf (ok':=fun k_=>some k_≠(.slice Ao33 t586.length co33:Value).ownBlock∧some k_≠(.slice Ao35 t589.length co35:Value).ownBlock) (Kd.R_keptB (HO_6.out) hkp (fun k_ hk_ hs_=>(hk_.1) hs_)) (fun k_ hk_=>⟨hk_.1.1,hk_.1.2⟩));replace HO_9:=Za (Yf (ok':=fun k_=>some k_≠(.slice Ao36 t579.length co36:Value).ownBlock∧some k_≠(.slice Ao33 t586.length co33:Value).ownBlock) (Kd.R_keptB (HO_9.out) hkp (fun k_ hk_ hs_=>(hk_.2) hs_)) (fun k_ hk_=>⟨hk_.1.1,hk_.1.2⟩));replace BK571:=Za (blk_kept z18_3 hkp (fun hs_=>(fun e_=>(Kd.R_ne HO_8.out BK571.out (by decide)) e_) hs_));replace BK585:=Za (blk_kept z18_7 hkp (fun hs_=>(fun e_=>(Kd.R_ne HO_8.out BK585.out (by decide)) e_) hs_));replace HO_8:=Za (Kd.R_reok rfl hy0 (fun k_ e_=>HO_8.out.1 k_ e_));replace HB:=Za (hb);(try clear hb);(try clear hkp);(try clear hy0)))
           (try simp only[Act.put,Zu,Zv,Zw])
           go_cut [61] (fun v61 wc=>∃(kq:Nat) (x61_53:Bool),v61= .bool x61_53∧Aside0 (laws_FnExactDirtyVars.j5 kq l1 t579 t589 x61_53 l0_0=some r)∧Aside0 (kq≤kj47)∧Aside0 (Kd.R (Kd.int .i64) 3 wc w.heap.size (fun k_=>some k_≠((.slice Ao35 t589.length co35):Value).ownBlock) (.slice Ao36 t579.length co36) t579)∧Aside0 (Kd.R (Kd.int .i64) 3 wc w.heap.size (fun k_=>some k_≠((.slice Ao36 t579.length co36):Value).ownBlock) (.slice Ao35 t589.length co35) t589)∧Aside0 (wc.heap[gb571]? =some (.cells #[(.slice A0_0 l0_0.length c0_0)] 24 (0,0)))∧Aside0 (Below w.heap.size w wc))
           case first=>
            have H:=HC54.out
            clear HC54
            by_cases c59:t602<0
            ·rw[if_pos c59] at H
             have c59b0:decide (t602<0)=true:=Zq c59
             clear c59
             (first|rw[c59b0]|(simp only[i64_w,i32_w];rw[c59b0])|skip)
             have H':=Za H
             clear H
             go_wp2
             go_meet
             case rel=>exact⟨_,(true),(by first|rfl|(simp;done)|(simp[*];done)),H',⟨by have:=HJ2.out;have:=HJ6.out;have:=HJ17.out;have:=HJ39.out;have:=HJ47.out;first|omega|exact Nat.le_refl _⟩,⟨by(with_reducible repeat(first|apply Zp|apply Zo|apply Zn));exact Yf HO_6.out (fun _ hk=>hk.2)⟩,⟨by(with_reducible repeat(first|apply Zp|apply Zo|apply Zn));exact Yf HO_9.out (fun _ hk=>hk.1)⟩,⟨by(with_reducible repeat(first|refine blk_drewN ?_ _|refine blk_drew ?_|refine blk_alloc ?_ _));exact BK571.out⟩,⟨by repeat(first|(with_reducible first|exact HB.out|apply Zh|apply Ze|apply Zd|refine Zg ?_ GE571.out|refine Zg ?_ GE585.out)|exact HB.out)⟩⟩
            ·rw[if_neg c59] at H
             have c59b0:decide (t602<0)=false:=Yg c59
             clear c59
             (first|rw[c59b0]|(simp only[i64_w,i32_w];rw[c59b0])|skip)
             replace H:=Zl H
             obtain⟨t604,A600,H⟩:=H
             replace H:(laws_FnExactDirtyVars.j5 kj47 l1 t579 t589 (!t604) l0_0)=some r:=H
             have A60:=Za A600
             clear A600
             have H':=Za H
             clear H
             go_wp2_with (first|(go_at_call 10;(with_reducible refine(laws_eqIntS.calls kj47 _ _ t589 _ _ t579 t604 _ ?side1 ?side2 ?side3 ?side4 A60.out).mono ?_);(case side1=>exact z18_11);(case side2=>exact(Yd HO_9.out).2.1);(case side3=>repeat(first|exact(Yd HO_6.out).2.2|(with_reducible refine Yh ?_ _)|(with_reducible refine Ye ?_ _)|(with_reducible refine Yi ?_)));(case side4=>exact(Yd HO_6.out).2.1);rintro e w' ⟨rfl,⟨nd,rfl⟩⟩))
             go_meet
             case rel=>exact⟨_,(!t604),(by first|rfl|(simp;done)|(simp[*];done)),H',⟨by have:=HJ2.out;have:=HJ6.out;have:=HJ17.out;have:=HJ39.out;have:=HJ47.out;first|omega|exact Nat.le_refl _⟩,⟨by(with_reducible repeat(first|apply Zp|apply Zo|apply Zn));exact Yf HO_6.out (fun _ hk=>hk.2)⟩,⟨by(with_reducible repeat(first|apply Zp|apply Zo|apply Zn));exact Yf HO_9.out (fun _ hk=>hk.1)⟩,⟨by(with_reducible repeat(first|refine blk_drewN ?_ _|refine blk_drew ?_|refine blk_alloc ?_ _));exact BK571.out⟩,⟨by repeat(first|(with_reducible first|exact HB.out|apply Zh|apply Ze|apply Zd|refine Zg ?_ GE571.out|refine Zg ?_ GE585.out)|exact HB.out)⟩⟩
           case rest=>
            clear HC54
            (try clear c1);(try clear hcz19_0);(try clear hcz25_0);(try clear hcz30_0);(try clear hcz32_0);(try clear hcz56_0);(try clear hcz8_0);(try clear hfz19_0);(try clear hfz25_0);(try clear hfz30_0);(try clear hfz32_0);(try clear hfz56_0);(try clear hfz8_0)
            obtain⟨kq,x61_53,rfl,HA,HJ53,HO_6,HO_9,BK571,HB⟩:=hcut
            cases kq with
            |zero=>exact absurd HA.out (by simp[laws_FnExactDirtyVars.j5])
            |succ kj53=>
             have H:=HA.out
             clear HA
             simp only[laws_FnExactDirtyVars.j5] at H
             have HC61:=Za H
             clear H
             go_upto_if 61 with(fail)
             go_cut [] (fun wc=>∃(kq:Nat),Aside0 (laws_FnExactDirtyVars.j6 kq l1 t579 t589 l0_0=some r)∧Aside0 (kq≤kj53)∧Aside0 (Kd.R (Kd.int .i64) 3 wc w.heap.size (fun k_=>some k_≠((.slice Ao35 t589.length co35):Value).ownBlock) (.slice Ao36 t579.length co36) t579)∧Aside0 (Kd.R (Kd.int .i64) 3 wc w.heap.size (fun k_=>some k_≠((.slice Ao36 t579.length co36):Value).ownBlock) (.slice Ao35 t589.length co35) t589)∧Aside0 (wc.heap[gb571]? =some (.cells #[(.slice A0_0 l0_0.length c0_0)] 24 (0,0)))∧Aside0 (Below w.heap.size w wc))
             case first=>
              have H:=HC61.out
              clear HC61
              by_cases c62:x61_53=true
              ·subst c62
               rw[if_pos rfl] at H
               exact absurd (hT.out.symm.trans (Zm H).symm) (by decide)
              ·replace c62:=Bool.eq_false_iff.mpr c62
               subst c62
               rw[if_neg (show ¬(false=true) by decide)] at H
               have H':=Za H
               clear H
               go_wp2
               go_meet
               case rel=>exact⟨_,H',⟨by have:=HJ2.out;have:=HJ6.out;have:=HJ17.out;have:=HJ39.out;have:=HJ47.out;have:=HJ53.out;first|omega|exact Nat.le_refl _⟩,⟨by(with_reducible repeat(first|apply Zp|apply Zo|apply Zn));exact HO_6.out⟩,⟨by(with_reducible repeat(first|apply Zp|apply Zo|apply Zn));exact HO_9.out⟩,⟨by(with_reducible repeat(first|refine blk_drewN ?_ _|refine blk_drew ?_|refine blk_alloc ?_ _));exact BK571.out⟩,⟨by repeat(first|(with_reducible first|exact HB.out|apply Zh|apply Ze|apply Zd|refine Zg ?_ GE571.out)|exact HB.out)⟩⟩
             case rest=>
              clear HC61
              (try clear c1);(try clear hcz19_0);(try clear hcz25_0);(try clear hcz30_0);(try clear hcz32_0);(try clear hcz56_0);(try clear hcz8_0);(try clear hfz19_0);(try clear hfz25_0);(try clear hfz30_0);(try clear hfz32_0);(try clear hfz56_0);(try clear hfz8_0)
              obtain⟨kq,HA,HJ60,HO_6,HO_9,BK571,HB⟩:=hcut
              cases kq with
              |zero=>exact absurd HA.out (by simp[laws_FnExactDirtyVars.j6])
              |succ kj60=>
               have H:=HA.out
               clear HA
               simp only[laws_FnExactDirtyVars.j6] at H
               replace H:=Zl H
               obtain⟨⟨t605,t606⟩,A630,H⟩:=H
               replace H:((laws_heldIntS.f kj60 t606 1).bind fun t607=>(if t607<0 then (some false) else (laws_FnExactDirtyVars.j7 kj60 l1 t579 t606 t605 t607 l0_0)))=some r:=H
               have A63:=Za A630
               clear A630
               replace H:=Zl H
               obtain⟨t607,A640,H⟩:=H
               replace H:(if t607<0 then (some false) else (laws_FnExactDirtyVars.j7 kj60 l1 t579 t606 t605 t607 l0_0))=some r:=H
               have A64:=Za A640
               clear A640
               have HC65:=Za H
               clear H
               go_upto_if 69 with(first|((first|((with_reducible refine gate_callee (f:=13) rfl ?_);refine goesL_ (some 64) rfl rfl Tryz.func13 z18_18 rfl #[.slice Ao35 t589.length co35,.int .i64 1] rfl z18_1 ?_;(with_reducible refine(laws_markIntS.calls kj60 (fun k_=>some k_=(.slice Ao35 t589.length co35:Value).ownBlock) (.slice Ao35 t589.length co35) t589 1 t605 t606 w _ ?side1 ?side2 A63.out).mono ?_))|(go_at_call 13;(with_reducible refine(laws_markIntS.calls kj60 (fun k_=>some k_=(.slice Ao35 t589.length co35:Value).ownBlock) (.slice Ao35 t589.length co35) t589 1 t605 t606 w _ ?side1 ?side2 A63.out).mono ?_)));(case side1=>exact z18_0);(case side2=>exact Kd.R_tight rfl HO_9.out);rintro e w66 ⟨rfl,hy0,hb,hkp⟩;(first|refine⟨_,rfl,?_⟩|skip);replace HO_6:=Za (Yf (ok':=fun k_=>some k_≠(.slice Ao35 t589.length co35:Value).ownBlock) (Kd.R_keptB (HO_6.out) hkp (fun k_ hk_ hs_=>(hk_) hs_)) (fun k_ hk_=>hk_.1));replace BK571:=Za (blk_kept z18_3 hkp (fun hs_=>(fun e_=>(Kd.R_ne HO_9.out BK571.out (by decide)) e_) hs_));replace HO_9:=Za (Kd.R_reok rfl hy0 (fun k_ e_=>HO_9.out.1 k_ e_));replace HB:=Za (hb);(try clear hb);(try clear hkp);(try clear hy0))|((first|((with_reducible refine gate_callee (f:=14) rfl ?_);refine goesL_ (some 67) rfl rfl Tryz.func14 z18_18 rfl #[.slice Ao35 t606.length co35,.int .i64 1] rfl (by(try simp only[Ys,Yt,List.map_nil]);first|done|(rw[show t606.length=t589.length from (Yd HO_9.out).1.symm]<;>rfl)|rfl|(simp only[List.length_drop,List.length_take];rfl)) ?_;(with_reducible refine(laws_heldIntS.calls kj60 _ _ t606 1 t607 _ ?side1 ?side2 A64.out).mono ?_))|(go_at_call 14;(with_reducible refine(laws_heldIntS.calls kj60 _ _ t606 1 t607 _ ?side1 ?side2 A64.out).mono ?_)));(case side1=>exact z18_11);(case side2=>rw[show t606.length=t589.length from (Yd HO_9.out).1.symm];exact(Yd HO_9.out).2.1);rintro e w' ⟨rfl,⟨nd,rfl⟩⟩;(first|refine⟨_,rfl,?_⟩|skip)))
               (try simp only[Act.put,Zu,Zv,Zw])
               go_cut [] (fun wc=>∃(kq:Nat),Aside0 (laws_FnExactDirtyVars.j7 kq l1 t579 t606 t605 t607 l0_0=some r)∧Aside0 (kq≤kj60)∧Aside0 (Kd.R (Kd.int .i64) 3 wc w.heap.size (fun k_=>some k_≠((.slice Ao35 t589.length co35):Value).ownBlock) (.slice Ao36 t579.length co36) t579)∧Aside0 (Kd.R (Kd.int .i64) 3 wc w.heap.size (fun k_=>some k_≠((.slice Ao36 t579.length co36):Value).ownBlock) (.slice Ao35 t589.length co35) t606)∧Aside0 (wc.heap[gb571]? =some (.cells #[(.slice A0_0 l0_0.length c0_0)] 24 (0,0)))∧Aside0 (Below w.heap.size w wc))
               case first=>
                have H:=HC65.out
                clear HC65
                by_cases c67:t607<0
                ·rw[if_pos c67] at H
                 have c67b0:decide (t607<0)=true:=Zq c67
                 clear c67
                 (first|rw[c67b0]|(simp only[i64_w,i32_w];rw[c67b0])|skip)
                 exact absurd (hT.out.symm.trans (Zm H).symm) (by decide)
                ·rw[if_neg c67] at H
                 have c67b0:decide (t607<0)=false:=Yg c67
                 clear c67
                 (first|rw[c67b0]|(simp only[i64_w,i32_w];rw[c67b0])|skip)
                 have H':=Za H
                 clear H
                 go_wp2
                 go_meet
                 case rel=>exact⟨_,H',⟨by have:=HJ2.out;have:=HJ6.out;have:=HJ17.out;have:=HJ39.out;have:=HJ47.out;have:=HJ53.out;have:=HJ60.out;first|omega|exact Nat.le_refl _⟩,⟨by(with_reducible repeat(first|apply Zp|apply Zo|apply Zn));exact HO_6.out⟩,⟨by(with_reducible repeat(first|apply Zp|apply Zo|apply Zn));exact HO_9.out⟩,⟨by(with_reducible repeat(first|refine blk_drewN ?_ _|refine blk_drew ?_|refine blk_alloc ?_ _));exact BK571.out⟩,⟨by repeat(first|(with_reducible first|exact HB.out|apply Zh|apply Ze|apply Zd|refine Zg ?_ GE571.out)|exact HB.out)⟩⟩
               case rest=>
                clear HC65
                (try clear c1);(try clear hcz19_0);(try clear hcz25_0);(try clear hcz30_0);(try clear hcz32_0);(try clear hcz56_0);(try clear hcz8_0);(try clear hfz19_0);(try clear hfz25_0);(try clear hfz30_0);(try clear hfz32_0);(try clear hfz56_0);(try clear hfz8_0)
                obtain⟨kq,HA,HJ64,HO_6,HO_9,BK571,HB⟩:=hcut
                have hl9_64:=(Yd HO_9.out).1
                rw[hl9_64] at HO_9
                (try simp only[hl9_64])
                (try simp only[hl9_64] at BK571)
                (try simp only[hl9_64] at HO_6)
                cases kq with
                |zero=>exact absurd HA.out (by simp[laws_FnExactDirtyVars.j7])
                |succ kj64=>
                 have H:=HA.out
                 clear HA
                 simp only[laws_FnExactDirtyVars.j7] at H
                 have HC68:=Za H
                 clear H
                 go_upto_if 72 with(fail)
                 go_cut [] (fun wc=>∃(kq:Nat),Aside0 (laws_FnExactDirtyVars.j8 kq l1 t579 t606 t605 l0_0=some r)∧Aside0 (kq≤kj64)∧Aside0 (Kd.R (Kd.int .i64) 3 wc w.heap.size (fun k_=>some k_≠((.slice Ao35 t606.length co35):Value).ownBlock) (.slice Ao36 t579.length co36) t579)∧Aside0 (Kd.R (Kd.int .i64) 3 wc w.heap.size (fun k_=>some k_≠((.slice Ao36 t579.length co36):Value).ownBlock) (.slice Ao35 t606.length co35) t606)∧Aside0 (wc.heap[gb571]? =some (.cells #[(.slice A0_0 l0_0.length c0_0)] 24 (0,0)))∧Aside0 (Below w.heap.size w wc))
                 case first=>
                  have H:=HC68.out
                  clear HC68
                  by_cases c69:t607=t605
                  ·rw[if_pos c69] at H
                   have c69b0:(t607==t605)=true:=beq_iff_eq.mpr c69
                   have c69b1:(t607 != t605)=false:=bne_eq_false_iff_eq.mpr c69
                   clear c69
                   (first|rw[c69b0]|(simp only[i64_w,i32_w];rw[c69b0])|skip)
                   have H':=Za H
                   clear H
                   go_wp2
                   go_meet
                   case rel=>exact⟨_,H',⟨by have:=HJ2.out;have:=HJ6.out;have:=HJ17.out;have:=HJ39.out;have:=HJ47.out;have:=HJ53.out;have:=HJ60.out;have:=HJ64.out;first|omega|exact Nat.le_refl _⟩,⟨by(try simp only[hl9_64]);(with_reducible repeat(first|apply Zp|apply Zo|apply Zn));exact HO_6.out⟩,⟨by(try simp only[hl9_64]);(with_reducible repeat(first|apply Zp|apply Zo|apply Zn));exact HO_9.out⟩,⟨by(try simp only[hl9_64]);(with_reducible repeat(first|refine blk_drewN ?_ _|refine blk_drew ?_|refine blk_alloc ?_ _));exact BK571.out⟩,⟨by repeat(first|(with_reducible first|exact HB.out|apply Zh|apply Ze|apply Zd|refine Zg ?_ GE571.out)|exact HB.out)⟩⟩
                  ·rw[if_neg c69] at H
                   have c69b0:(t607==t605)=false:=beq_eq_false_iff_ne.mpr c69
                   have c69b1:(t607 != t605)=true:=bne_iff_ne.mpr c69
                   (first|rw[c69b0]|(simp only[i64_w,i32_w];rw[c69b0])|skip)
                   exact absurd (hT.out.symm.trans (Zm H).symm) (by decide)
                 case rest=>
                  clear HC68
                  (try clear c1);(try clear hcz19_0);(try clear hcz25_0);(try clear hcz30_0);(try clear hcz32_0);(try clear hcz56_0);(try clear hcz8_0);(try clear hfz19_0);(try clear hfz25_0);(try clear hfz30_0);(try clear hfz32_0);(try clear hfz56_0);(try clear hfz8_0)
                  obtain⟨kq,HA,HJ67,HO_6,HO_9,BK571,HB⟩:=hcut
                  cases kq with
                  |zero=>exact absurd HA.out (by simp[laws_FnExactDirtyVars.j8])
                  |succ kj67=>
                   have H:=HA.out
                   clear HA
                   simp only[laws_FnExactDirtyVars.j8] at H
                   replace H:=Zl H
                   obtain⟨t608,A700,H⟩:=H
                   replace H:((laws_toIntS.f kj67 l1).bind fun t611=>((impl_DirtyVars.f kj67 t608 t611).bind fun t614=>((laws_eqIntS.f kj67 t614 t579).bind fun t617=>(if t617=true then (laws_FnExactDirtyVars.j9 kj67 t606 t605) else (some false)))))=some r:=H
                   have A70:=Za A700
                   clear A700
                   replace H:=Zl H
                   obtain⟨t611,A710,H⟩:=H
                   replace H:((impl_DirtyVars.f kj67 t608 t611).bind fun t614=>((laws_eqIntS.f kj67 t614 t579).bind fun t617=>(if t617=true then (laws_FnExactDirtyVars.j9 kj67 t606 t605) else (some false))))=some r:=H
                   have A71:=Za A710
                   clear A710
                   replace H:=Zl H
                   obtain⟨t614,A720,H⟩:=H
                   replace H:((laws_eqIntS.f kj67 t614 t579).bind fun t617=>(if t617=true then (laws_FnExactDirtyVars.j9 kj67 t606 t605) else (some false)))=some r:=H
                   have A72:=Za A720
                   clear A720
                   replace H:=Zl H
                   obtain⟨t617,A730,H⟩:=H
                   replace H:(if t617=true then (laws_FnExactDirtyVars.j9 kj67 t606 t605) else (some false))=some r:=H
                   have A73:=Za A730
                   clear A730
                   have HC74:=Za H
                   clear H
                   have hcz75_0:wc.cell? ⟨gb571,0,none⟩=some (.slice A0_0 l0_0.length c0_0):=(Zb BK571.out 0).trans rfl
                   have hfz75_0:=Zc BK571.out 0
                   go_upto_if 81 with(first|((first|((with_reducible refine gate_callee (f:=7) rfl ?_);refine goesL_ (some 74) rfl rfl Tryz.func7 z18_18 rfl #[.agg #[.slice A0_0 l0_0.length c0_0]] rfl z18_1 ?_;(with_reducible refine(laws_toProgram.calls kj67 _ _ l0_0 t608 _ ?side1 ?side2 A70.out).mono ?_))|(go_at_call 7;(with_reducible refine(laws_toProgram.calls kj67 _ _ l0_0 t608 _ ?side1 ?side2 A70.out).mono ?_)));(case side1=>exact z18_6);(case side2=>exact HC0_0.out);rintro e w76 ⟨v609,rfl,ho0,hb⟩;(first|refine⟨_,rfl,?_⟩|skip);replace HO_6:=Za (Kd.R_below z18_5 hb);replace HO_9:=Za (Kd.R_below z18_4 hb);have HO610:=Za (Kd.S_lower ho0 (Zt z18_0));replace BK571:=Za (Zk (g:=gb571) (o:= .cells #[.slice A0_0 l0_0.length c0_0] 24 (0,0)) z18_3 hb);replace HB:=Za (Zi z18_0 hb);(try clear hb);(try clear hb2);(try clear hk);(try clear hi);(try clear ho0))|((first|((with_reducible refine gate_callee (f:=8) rfl ?_);refine goesL_ (some 76) rfl rfl Tryz.func8 z18_18 rfl #[.slice A1 l1.length c1] rfl z18_1 ?_;(with_reducible refine(laws_toIntS.calls kj67 _ _ l1 t611 _ ?side1 ?side2 A71.out).mono ?_))|(go_at_call 8;(with_reducible refine(laws_toIntS.calls kj67 _ _ l1 t611 _ ?side1 ?side2 A71.out).mono ?_)));(case side1=>exact z18_10);(case side2=>exact HC1.out);rintro e w77 ⟨v612,rfl,ho0,hb⟩;(first|refine⟨_,rfl,?_⟩|skip);replace HO610:=Za (Kd.S_below (by(with_reducible repeat(first|apply Kd.S_alloc|apply Kd.S_drewN|apply Kd.S_drew));exact HO610.out) hb);have HO613:=Za (Yq (Kd.R_new' (Kd.R_new' ho0 (Kd.R_lt z18_5)) (Kd.R_lt z18_4)) (Zt z18_0));replace HO_6:=Za (Yr z18_5 (Yo ho0) hb);replace HO_9:=Za (Yr z18_4 (Yo ho0) hb);replace BK571:=Za (Zk (g:=gb571) (o:= .cells #[.slice A0_0 l0_0.length c0_0] 24 (0,0)) z18_3 hb);replace HB:=Za (Zi z18_0 hb);(try clear hb);(try clear hb2);(try clear hk);(try clear hi);(try clear ho0);obtain⟨Ao78,co78,eo78⟩:=Kd.S_slice HO610.out;subst eo78;obtain⟨Ao79,co79,eo79⟩:=Yp HO613.out;subst eo79)|((first|((with_reducible refine gate_callee (f:=9) rfl ?_);refine goesL_ (some 77) rfl rfl Tryz.func9 z18_18 rfl #[.agg #[.slice Ao78 t608.length co78],.slice Ao79 t611.length co79] rfl z18_1 ?_;(with_reducible refine(impl_DirtyVars.calls kj67 _ _ t608 _ _ t611 t614 _ ?side1 ?side2 ?side3 ?side4 A72.out).mono ?_))|(go_at_call 9;(with_reducible refine(impl_DirtyVars.calls kj67 _ _ t608 _ _ t611 t614 _ ?side1 ?side2 ?side3 ?side4 A72.out).mono ?_)));(case side1=>repeat(first|exact(Kd.S_reads' HO610.out).2.2|(with_reducible refine Yh ?_ _)|(with_reducible refine Ye ?_ _)|(with_reducible refine Yi ?_)));(case side2=>exact(Kd.S_reads' HO610.out).2.1);(case side3=>repeat(first|exact(Yd HO613.out).2.2|(with_reducible refine Yh ?_ _)|(with_reducible refine Ye ?_ _)|(with_reducible refine Yi ?_)));(case side4=>exact(Yd HO613.out).2.1);rintro e w80 ⟨v615,rfl,ho0,hb⟩;(first|refine⟨_,rfl,?_⟩|skip);replace HO610:=Za (Kd.S_below (by(with_reducible repeat(first|apply Kd.S_alloc|apply Kd.S_drewN|apply Kd.S_drew));exact HO610.out) hb);have HO616:=Za (Yq (Kd.R_new' (Kd.R_new' (Kd.R_new' ho0 (Kd.R_lt z18_5)) (Kd.R_lt z18_4)) (Kd.R_lt (by(with_reducible repeat(first|apply Zp|apply Zo|apply Zn));exact HO613.out))) (Zt z18_0));replace HO_6:=Za (Yr z18_5 (Yo ho0) hb);replace HO_9:=Za (Yr z18_4 (Yo ho0) hb);replace HO613:=Za (Yr (by(with_reducible repeat(first|apply Zp|apply Zo|apply Zn));exact HO613.out) (Yo ho0) hb);replace BK571:=Za (Zk (g:=gb571) (o:= .cells #[.slice A0_0 l0_0.length c0_0] 24 (0,0)) z18_3 hb);replace HB:=Za (Zi z18_0 hb);(try clear hb);(try clear hb2);(try clear hk);(try clear hi);(try clear ho0);obtain⟨Ao81,co81,eo81⟩:=Yp HO616.out;subst eo81)|((first|((with_reducible refine gate_callee (f:=10) rfl ?_);refine goesL_ (some 80) rfl rfl Tryz.func10 z18_18 rfl #[.slice Ao81 t614.length co81,.slice Ao36 t579.length co36] rfl z18_1 ?_;(with_reducible refine(laws_eqIntS.calls kj67 _ _ t614 _ _ t579 t617 _ ?side1 ?side2 ?side3 ?side4 A73.out).mono ?_))|(go_at_call 10;(with_reducible refine(laws_eqIntS.calls kj67 _ _ t614 _ _ t579 t617 _ ?side1 ?side2 ?side3 ?side4 A73.out).mono ?_)));(case side1=>repeat(first|exact(Yd HO616.out).2.2|(with_reducible refine Yh ?_ _)|(with_reducible refine Ye ?_ _)|(with_reducible refine Yi ?_)));(case side2=>exact(Yd HO616.out).2.1);(case side3=>repeat(first|exact(Yd HO_6.out).2.2|(with_reducible refine Yh ?_ _)|(with_reducible refine Ye ?_ _)|(with_reducible refine Yi ?_)));(case side4=>exact(Yd HO_6.out).2.1);rintro e w' ⟨rfl,⟨nd,rfl⟩⟩;(first|refine⟨_,rfl,?_⟩|skip)))
                   (try simp only[Act.put,Zu,Zv,Zw])
                   go_cut [] (fun wc=>∃(kq:Nat),Aside0 (laws_FnExactDirtyVars.j9 kq t606 t605=some r)∧Aside0 (kq≤kj67)∧Aside0 (Kd.R (Kd.int .i64) 3 wc w.heap.size (fun _=>True) (.slice Ao35 t606.length co35) t606)∧Aside0 (wc.heap[gb571]? =some (.cells #[(.slice A0_0 l0_0.length c0_0)] 24 (0,0)))∧Aside0 (Below w.heap.size w wc))
                   case first=>
                    have H:=HC74.out
                    clear HC74
                    by_cases c82:t617=true
                    ·subst c82
                     rw[if_pos rfl] at H
                     have H':=Za H
                     clear H
                     go_wp2
                     go_meet
                     case rel=>exact⟨_,H',⟨by have:=HJ2.out;have:=HJ6.out;have:=HJ17.out;have:=HJ39.out;have:=HJ47.out;have:=HJ53.out;have:=HJ60.out;have:=HJ64.out;have:=HJ67.out;first|omega|exact Nat.le_refl _⟩,⟨by(try simp only[hl9_64]);(with_reducible repeat(first|apply Zp|apply Zo|apply Zn));exact Yf HO_9.out (fun _ hk=>trivial)⟩,⟨by(try simp only[hl9_64]);(with_reducible repeat(first|refine blk_drewN ?_ _|refine blk_drew ?_|refine blk_alloc ?_ _));exact BK571.out⟩,⟨by repeat(first|(with_reducible first|exact HB.out|apply Zh|apply Ze|apply Zd|refine Zg ?_ GE571.out)|exact HB.out)⟩⟩
                    ·replace c82:=Bool.eq_false_iff.mpr c82
                     subst c82
                     rw[if_neg (show ¬(false=true) by decide)] at H
                     exact absurd (hT.out.symm.trans (Zm H).symm) (by decide)
                   case rest=>
                    clear HC74
                    (try clear c1);(try clear hcz19_0);(try clear hcz25_0);(try clear hcz30_0);(try clear hcz32_0);(try clear hcz56_0);(try clear hcz75_0);(try clear hcz8_0);(try clear hfz19_0);(try clear hfz25_0);(try clear hfz30_0);(try clear hfz32_0);(try clear hfz56_0);(try clear hfz75_0);(try clear hfz8_0)
                    obtain⟨kq,HA,HJ73,HO_9,BK571,HB⟩:=hcut
                    cases kq with
                    |zero=>exact absurd HA.out (by simp[laws_FnExactDirtyVars.j9])
                    |succ kj73=>
                     have H:=HA.out
                     clear HA
                     simp only[laws_FnExactDirtyVars.j9] at H
                     replace H:=Zl H
                     obtain⟨t618,A830,H⟩:=H
                     replace H:(if t618<0 then (some false) else (if t618=t605 then (some true) else (some false)))=some r:=H
                     have A83:=Za A830
                     clear A830
                     by_cases c84:t618<0
                     ·rw[if_pos c84] at H
                      have c84b0:decide (t618<0)=true:=Zq c84
                      clear c84
                      exact absurd (hT.out.symm.trans (Zm H).symm) (by decide)
                     ·rw[if_neg c84] at H
                      have c84b0:decide (t618<0)=false:=Yg c84
                      clear c84
                      by_cases c85:t618=t605
                      ·rw[if_pos c85] at H
                       have c85b0:(t618==t605)=true:=beq_iff_eq.mpr c85
                       have c85b1:(t618 != t605)=false:=bne_eq_false_iff_eq.mpr c85
                       clear c85
                       obtain rfl:=Zm H
                       go_wp2_with (first|((first|((with_reducible refine gate_callee (f:=14) rfl ?_);refine goesL_ (some 84) rfl rfl Tryz.func14 z18_18 rfl #[.slice Ao35 t606.length co35,.int .i64 1] rfl z18_1 ?_;(with_reducible refine(laws_heldIntS.calls kj73 _ _ t606 1 t618 _ ?side1 ?side2 A83.out).mono ?_))|(go_at_call 14;(with_reducible refine(laws_heldIntS.calls kj73 _ _ t606 1 t618 _ ?side1 ?side2 A83.out).mono ?_)));(case side1=>exact z18_11);(case side2=>exact(Yd HO_9.out).2.1);rintro e w' ⟨rfl,⟨nd,rfl⟩⟩;(first|refine⟨_,rfl,?_⟩|skip)))
                       go_ret
                       exact⟨by first|rfl|(simp[errW_none,errW_some]<;>rfl)|(simp[*,errW_none,errW_some]<;>rfl)|(simp[*,errW_none,errW_some,i64_w];done),by repeat(first|(with_reducible first|exact HB.out|apply Zh|apply Ze|apply Zd|refine Zg ?_ GE571.out)|exact HB.out)⟩
                      ·rw[if_neg c85] at H
                       have c85b0:(t618==t605)=false:=beq_eq_false_iff_ne.mpr c85
                       have c85b1:(t618 != t605)=true:=bne_iff_ne.mpr c85
                       exact absurd (hT.out.symm.trans (Zm H).symm) (by decide)
def laws_FnExactDirtyVars.Pure:Prop:=∀(x0:S24) (x1:List Int),gd24 x0→(x1.length≤maxLen∧∀y0∈x1,(Lit.int .i64 y0).wf=true)→∃k,laws_FnExactDirtyVars.f k x0.f0 x1=some true
theorem laws_FnExactDirtyVars.walk (P:laws_FnExactDirtyVars.Pure) (x0:S24) (c0:Array Value) (x1:List Int) (a1:Option Addr) (n1 m1:Nat) (w:World) (K0:k24.K w x0 c0.toList) (G0:gd24 x0) (K1:(Kd.slice 3 (Kd.int .i64)).K w x1 [.slice a1 n1 m1]) (G1:(x1.length≤maxLen∧∀y0∈x1,(Lit.int .i64 y0).wf=true)):
  Calls Tryz.prog 3 #[.agg c0,.slice a1 n1 m1] w fun e w'=>e= .returned (.bool true)∧Below w.heap.size w w':=by
 obtain⟨A0_0,c0_0,e0,l0_0,g0_0⟩:=k24_open K0
 have e0':c0= #[.slice A0_0 x0.f0.length c0_0]:=by rw[←Array.toList_inj];exact e0
 subst e0'
 obtain⟨A1_0,c1_0,e1,l1_0,g1_0⟩:=K1
 injection e1 with e1 _
 injection e1 with e1a e1b e1c
 subst e1a
 subst e1b
 subst e1c
 obtain⟨k,h⟩:=P x0 x1 G0 G1
 refine(laws_FnExactDirtyVars.calls k _ _ x0.f0 _ _ x1 true w g0_0 l0_0 g1_0 l1_0 h ⟨rfl⟩).mono ?_
 rintro e w' ⟨rfl,hd⟩
 exact⟨rfl,hd⟩
end Go.Proofs.YtccjlmpeogifkaaGreat.G
