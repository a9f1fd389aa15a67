/- Functions of the program as plain Lean functions, and that each call comes to its function's answer; written by a program of the session. No condition. -/
import Derived.Test.YtlolppaddphpoaaGx0
import Derived.Test.YtlolppaddphpoaaGx3
import Derived.Test.YtlolppaddphpoaaGx4
import Derived.Test.YtlolppaddphpoaaGx7
import Derived.Test.YtlolppaddphpoaaGx10
namespace Go.Proofs.Ytlolppaddphpoaa.G
open Go.RowKit Go.Proofs.YtlolppaddphpoaaW.PrintWords Go.Proofs.YtlolppaddphpoaaW.PrintLast Go.Proofs.YtlolppaddphpoaaW.PrintMore
attribute [local go_sem] max2_int min2_int max_two min_two max_three min_three max_four min_four   -- for this text's walks alone
set_option linter.unusedVariables false
set_option linter.unusedSimpArgs false
theorem z11_0 {P:Prop} (h:P:=by repeat(first|(with_reducible first|exact HB.out|apply Zh|apply Ze|apply Zd|refine Zf ?_ GE309.out)|exact HB.out)):P:=h
theorem z11_1 {P:Prop} (h:P:=by(try simp only[Yn,List.map_cons,List.map_nil]);first|done|rfl|(simp only[List.length_drop,List.length_take];rfl)):P:=h
theorem z11_2 {P:Prop} (h:P:=by repeat(first|(with_reducible first|exact HB.out|apply Zh|apply Ze|apply Zd|refine Zf ?_ GE309.out|refine Zf ?_ GE326.out)|exact HB.out)):P:=h
theorem z11_3 {P:Prop} (h:P:=by(with_reducible repeat(first|refine blk_drewN ?_ _|refine blk_drew ?_|refine blk_alloc ?_ _));exact BK309.out):P:=h
theorem z11_4 {P:Prop} (h:P:=by(with_reducible repeat(first|apply Zy|apply Zz|apply Zx));exact HO_16.out):P:=h
theorem z11_5 {P:Prop} (h:P:=by(with_reducible repeat(first|apply Zy|apply Zz|apply Zx));exact HO_12.out):P:=h
theorem z11_6 {P:Prop} (h:P:=by(with_reducible repeat(first|refine blk_drewN ?_ _|refine blk_drew ?_|refine blk_alloc ?_ _));exact BK326.out):P:=h
theorem z11_7 {P:Prop} (h:P:=by(with_reducible repeat(first|apply Zy|apply Zz|apply Zx));exact HO316.out):P:=h
theorem z11_8 {P:Prop} (h:P:=by(with_reducible repeat(first|apply Kd.S_alloc|apply Kd.S_drewN|apply Kd.S_drew));exact HO313.out):P:=h
theorem z11_9 {P:Prop} (h:P:=by(with_reducible repeat(first|apply Zy|apply Zz|apply Zx));exact HO319.out):P:=h
theorem z11_10 {P:Prop} (h:P:=by repeat(first|exact(Yb HR0_0.out HB.out)|(with_reducible refine Yd ?_ _)|(with_reducible refine Ye ?_ _)|(with_reducible refine Yf ?_))):P:=h
theorem z11_11 {P:Prop} (h:P:=by repeat(first|exact(Yb HR3.out HB.out)|(with_reducible refine Yd ?_ _)|(with_reducible refine Ye ?_ _)|(with_reducible refine Yf ?_))):P:=h
theorem z11_12 {P:Prop} (h:P:=by(with_reducible repeat(first|apply Zy|apply Zz|apply Zx));exact HO_15.out):P:=h
theorem z11_13 {P:Prop} (h:P:=by(with_reducible repeat(first|apply Zy|apply Zz|apply Zx));exact HO_14.out):P:=h
theorem z11_14 {P:Prop} (h:P:=by(with_reducible repeat(first|apply Zy|apply Zz|apply Zx));exact HO322.out):P:=h
theorem z11_15 {P:Prop} (h:P:=by(with_reducible repeat(first|apply Kd.S_alloc|apply Kd.S_drewN|apply Kd.S_drew));exact HO_327000.out):P:=h
theorem z11_16 {P:Prop} (h:P:=by repeat(first|exact(Yi HO_16.out).2.2|(with_reducible refine Yd ?_ _)|(with_reducible refine Ye ?_ _)|(with_reducible refine Yf ?_))):P:=h
theorem z11_17 {P:Prop} (h:P:=by repeat(first|exact(Yb HR2.out HB.out)|(with_reducible refine Yd ?_ _)|(with_reducible refine Ye ?_ _)|(with_reducible refine Yf ?_))):P:=h
theorem z11_18 {P:Prop} (h:P:=by(with_reducible repeat(first|apply Zy|apply Zz|apply Zx));exact HO363.out):P:=h
theorem z11_19 {P:Prop} (h:P:=by(with_reducible repeat(first|apply Zy|apply Zz|apply Zx));exact HO329.out):P:=h
theorem z11_20 {P:Prop} (h:P:=by kernel_rfl):P:=h
theorem z11_21 {P:Prop} (h:P:=by repeat(first|(with_reducible first|exact HB.out|apply Zh|apply Ze|apply Zd)|exact HB.out)):P:=h
theorem z11_22 {P:Prop} (h:P:=by(with_reducible repeat(first|apply Zy|apply Zz|apply Zx));exact(Yk (Kd.R_far (p:=⟨gb326,0,none⟩) (Kd.R_types HO322.out BK326.out (by decide)) (fun _ hk=>hk.2) (.slice Ao37 t323.length co37)) (fun _ h_=>h_.1))):P:=h
theorem z11_23 {P:Prop} (h:P:=by(with_reducible repeat(first|apply Zy|apply Zz|apply Zx));exact(Yk (Kd.R_far (p:=⟨gb326,0,none⟩) (Kd.R_types HO319.out BK326.out (by decide)) (fun _ hk=>hk.2) (.slice Ao37 t323.length co37)) (fun _ h_=>h_.1))):P:=h
theorem z11_24 {P:Prop} (h:P:=by(with_reducible repeat(first|apply Zy|apply Zz|apply Zx));exact(Yk (Kd.R_far (p:=⟨gb326,0,none⟩) (Kd.R_types HO316.out BK326.out (by decide)) (fun _ hk=>hk.2) (.slice Ao37 t323.length co37)) (fun _ h_=>h_.1))):P:=h
/-! ### laws_FnExactSensesOf: function 4 -/
mutual
def laws_FnExactSensesOf.j0:Nat→Int→List Int→List Int→Int→List (S71)→Option (Bool)
 |0,_,_,_,_,_=>none
 |k+1,x1,x2,x3,x4,x310000=>if (x3.length:Int) > 1048576 then (some true) else (laws_FnExactSensesOf.j1 k x1 x2 x3 x4 x310000)
def laws_FnExactSensesOf.j1:Nat→Int→List Int→List Int→Int→List (S71)→Option (Bool)
 |0,_,_,_,_,_=>none
 |k+1,x1,x2,x3,x4,x310000=>(laws_szProgram.f k x310000 1048576).bind fun t310=>(if t310<0 then (some true) else (laws_FnExactSensesOf.j2 k x1 x2 x3 x4 x310000))
def laws_FnExactSensesOf.j2:Nat→Int→List Int→List Int→Int→List (S71)→Option (Bool)
 |0,_,_,_,_,_=>none
 |k+1,x1,x2,x3,x4,x310000=>(laws_toProgram.f k x310000).bind fun t311=>((laws_toIntS.f k x2).bind fun t314=>((laws_toIntS.f k x3).bind fun t317=>((spec_SensesOf.f k t311 x1 t314 t317 x4).bind fun t320=>((laws_toProgram.f k x310000).bind fun t323=>((laws_toIntS.f k x2).bind fun t327=>((laws_toIntS.f k x3).bind fun t330=>((impl_SensesOf.f k t323 x1 t327 t330 x4).bind fun t333=>((laws_eqIntS.f k t333 t320).bind fun t336=>(if t336=true then (laws_FnExactSensesOf.j3 k x1 x2 x3 x4 t320 t327 t330 t333 x310000 t323) else (some false))))))))))
def laws_FnExactSensesOf.j3:Nat→Int→List Int→List Int→Int→List Int→List Int→List Int→List Int→List (S71)→List (S64)→Option (Bool)
 |0,_,_,_,_,_,_,_,_,_,_=>none
 |k+1,x1,x2,x3,x4,x12,x14,x15,x16,x310000,x327000=>(laws_toProgram.f k x310000).bind fun t337=>((laws_eqProgram.f k x327000 t337).bind fun t340=>(if t340=true then (laws_FnExactSensesOf.j4 k x1 x2 x3 x4 x12 x14 x15 x16 x310000 x327000) else (some false)))
def laws_FnExactSensesOf.j4:Nat→Int→List Int→List Int→Int→List Int→List Int→List Int→List Int→List (S71)→List (S64)→Option (Bool)
 |0,_,_,_,_,_,_,_,_,_,_=>none
 |k+1,x1,x2,x3,x4,x12,x14,x15,x16,x310000,x327000=>(laws_toIntS.f k x2).bind fun t341=>((laws_eqIntS.f k x14 t341).bind fun t344=>(if t344=true then (laws_FnExactSensesOf.j5 k x1 x2 x3 x4 x12 x14 x15 x16 x310000 x327000) else (some false)))
def laws_FnExactSensesOf.j5:Nat→Int→List Int→List Int→Int→List Int→List Int→List Int→List Int→List (S71)→List (S64)→Option (Bool)
 |0,_,_,_,_,_,_,_,_,_,_=>none
 |k+1,x1,x2,x3,x4,x12,x14,x15,x16,x310000,x327000=>(laws_toIntS.f k x3).bind fun t345=>((laws_eqIntS.f k x15 t345).bind fun t348=>(if t348=true then (laws_FnExactSensesOf.j6 k x1 x2 x3 x4 x12 x14 x15 x16 x310000 x327000) else (some false)))
def laws_FnExactSensesOf.j6:Nat→Int→List Int→List Int→Int→List Int→List Int→List Int→List Int→List (S71)→List (S64)→Option (Bool)
 |0,_,_,_,_,_,_,_,_,_,_=>none
 |k+1,x1,x2,x3,x4,x12,x14,x15,x16,x310000,x327000=>(laws_markProgram.f x327000 1).bind fun t349=>((laws_markIntS.f k x14 t349).bind fun bt350=>((laws_markIntS.f k x15 bt350.1).bind fun bt352=>(if bt352.1<0 then (laws_FnExactSensesOf.j7 k x1 x2 x3 x4 x12 x16 true x310000) else ((laws_eqIntS.f k x16 x12).bind fun t354=>(laws_FnExactSensesOf.j7 k x1 x2 x3 x4 x12 x16 (!t354) x310000)))))
def laws_FnExactSensesOf.j7:Nat→Int→List Int→List Int→Int→List Int→List Int→Bool→List (S71)→Option (Bool)
 |0,_,_,_,_,_,_,_,_=>none
 |k+1,x1,x2,x3,x4,x12,x16,x88,x310000=>if x88=true then (some false) else (laws_FnExactSensesOf.j8 k x1 x2 x3 x4 x12 x16 x310000)
def laws_FnExactSensesOf.j8:Nat→Int→List Int→List Int→Int→List Int→List Int→List (S71)→Option (Bool)
 |0,_,_,_,_,_,_,_=>none
 |k+1,x1,x2,x3,x4,x12,x16,x310000=>(laws_markIntS.f k x16 1).bind fun bt355=>((laws_heldIntS.f k bt355.2 1).bind fun t357=>(if t357<0 then (some false) else (laws_FnExactSensesOf.j9 k x1 x2 x3 x4 x12 bt355.2 bt355.1 t357 x310000)))
def laws_FnExactSensesOf.j9:Nat→Int→List Int→List Int→Int→List Int→List Int→Int→Int→List (S71)→Option (Bool)
 |0,_,_,_,_,_,_,_,_,_=>none
 |k+1,x1,x2,x3,x4,x12,x16,x18,x19,x310000=>if x19=x18 then (laws_FnExactSensesOf.j10 k x1 x2 x3 x4 x12 x16 x18 x310000) else (some false)
def laws_FnExactSensesOf.j10:Nat→Int→List Int→List Int→Int→List Int→List Int→Int→List (S71)→Option (Bool)
 |0,_,_,_,_,_,_,_,_=>none
 |k+1,x1,x2,x3,x4,x12,x16,x18,x310000=>(laws_toProgram.f k x310000).bind fun t358=>((laws_toIntS.f k x2).bind fun t361=>((laws_toIntS.f k x3).bind fun t364=>((impl_SensesOf.f k t358 x1 t361 t364 x4).bind fun t367=>((laws_eqIntS.f k t367 x12).bind fun t370=>(if t370=true then (laws_FnExactSensesOf.j11 k x16 x18) else (some false))))))
def laws_FnExactSensesOf.j11:Nat→List Int→Int→Option (Bool)
 |0,_,_=>none
 |k+1,x16,x18=>(laws_heldIntS.f k x16 1).bind fun t371=>(if t371<0 then (some false) else (if t371=x18 then (some true) else (some false)))
end
def laws_FnExactSensesOf.f (k:Nat) (l0_0:List (S71)) (a1:Int) (l2:List Int) (l3:List Int) (a4:Int):Option (Bool):=if (l2.length:Int) > 1048576 then (some true) else (laws_FnExactSensesOf.j0 k a1 l2 l3 a4 l0_0)
set_option maxHeartbeats 8000000 in
set_option maxRecDepth 100000 in
theorem laws_FnExactSensesOf.calls (k:Nat) (A0_0:Option Addr) (c0_0:Nat) (l0_0:List (S71)) (a1:Int) (A2:Option Addr) (c2:Nat) (l2:List Int) (A3:Option Addr) (c3:Nat) (l3:List Int) (a4:Int) (r:Bool) (w:World) (hr0_0:Kd.C k71 w A0_0 l0_0.length l0_0) (hc0_0:l0_0.length≤c0_0) (hr2:Kd.C (Kd.int .i64) w A2 l2.length l2) (hc2:l2.length≤c2) (hr3:Kd.C (Kd.int .i64) w A3 l3.length l3) (hc3:l3.length≤c3) (h:laws_FnExactSensesOf.f k l0_0 a1 l2 l3 a4=some r) (hT:Aside0 (r=true)):
  Calls Try.prog 4 #[.agg #[.slice A0_0 l0_0.length c0_0],.int .i64 a1,.slice A2 l2.length c2,.slice A3 l3.length c3,.int .i64 a4] w fun e w'=>e= .returned (.bool r)∧Below w.heap.size w w':=by
 have hu24:=Try.underlying24
 have hu33:=Try.underlying33
 have HR0_0:=Za hr0_0
 have HC0_0:=Za hc0_0
 clear hr0_0 hc0_0
 have HR2:=Za hr2
 have HC2:=Za hc2
 clear hr2 hc2
 have HR3:=Za hr3
 have HC3:=Za hc3
 clear hr3 hc3
 have HB:=Za (Ya w.heap.size w)
 have H:(if (l2.length:Int) > 1048576 then (some true) else (laws_FnExactSensesOf.j0 k a1 l2 l3 a4 l0_0))=some r:=h
 clear h
 have HC6:=Za H
 clear H
 go_enter Try.func4,Try.ntmps4
 go_upto_if 23 with(first|((with_reducible refine Zp (N:=5) rfl ?_);refine Zr ?hg (N:=5) ?hd (cs:= #[.slice A0_0 l0_0.length c0_0]) (t:=24) ?hr ?_;(case hd=>rfl);(case hg=>rfl);(case hr=>first|(go_simp;done)|(go_simp;rfl));intro gb309 hg w7 hbox hb;have BK309:=Za (hbox);have GW309:=Za ((by rw[hg];exact(Zw z11_21):w.heap.size≤gb309));have GE309:=Za ((by rw[hg];exact(Zw z11_21):w.heap.size≤gb309));replace HB:=Za (Zi z11_21 hb);clear hb hbox hg))
 (try simp only[Act.put,Zm,Zn,Zo])
 go_cut [] (fun wc=>∃(kq:Nat),Aside0 (laws_FnExactSensesOf.j0 kq a1 l2 l3 a4 l0_0=some r)∧Aside0 (kq≤k)∧Aside0 (wc.heap[gb309]? =some (.cells #[(.slice A0_0 l0_0.length c0_0)] 24 (0,0)))∧Aside0 (Below w.heap.size w wc))
 case first=>
  have H:=HC6.out
  clear HC6
  by_cases c8:(l2.length:Int) > 1048576
  ·rw[if_pos c8] at H
   have c8b0:decide (1048576<(l2.length:Int))=true:=Zt c8
   have c8b1:decide (1048576<l2.length)=true:=Zt (by omega)
   clear c8
   (first|rw[c8b0]|(simp only[i64_w,i32_w];rw[c8b0])|skip)
   obtain rfl:=Zj H
   go_wp2
   go_ret
   exact⟨by first|rfl|(simp[errW_none,errW_some]<;>rfl)|(simp[*,errW_none,errW_some]<;>rfl)|(simp[*,errW_none,errW_some,i64_w];done),by repeat(first|(with_reducible first|exact HB.out|apply Zh|apply Ze|apply Zd|refine Zf ?_ GE309.out)|exact HB.out)⟩
  ·rw[if_neg c8] at H
   have c8b0:decide (1048576<(l2.length:Int))=false:=Yc c8
   have c8b1:decide (1048576<l2.length)=false:=Yc (by omega)
   clear c8
   (first|rw[c8b0]|(simp only[i64_w,i32_w];rw[c8b0])|skip)
   have H':=Za H
   clear H
   go_wp2
   go_meet
   case rel=>exact⟨_,H',⟨by first|omega|exact Nat.le_refl _⟩,⟨by(with_reducible repeat(first|refine blk_drewN ?_ _|refine blk_drew ?_|refine blk_alloc ?_ _));exact BK309.out⟩,⟨by repeat(first|(with_reducible first|exact HB.out|apply Zh|apply Ze|apply Zd|refine Zf ?_ GE309.out)|exact HB.out)⟩⟩
 case rest=>
  clear HC6
  (try clear c2);(try clear c3)
  obtain⟨kq,HA,HJ5,BK309,HB⟩:=hcut
  cases kq with
  |zero=>exact absurd HA.out (by simp[laws_FnExactSensesOf.j0])
  |succ kj5=>
   have H:=HA.out
   clear HA
   simp only[laws_FnExactSensesOf.j0] at H
   have HC9:=Za H
   clear H
   go_upto_if 26 with(fail)
   go_cut [] (fun wc=>∃(kq:Nat),Aside0 (laws_FnExactSensesOf.j1 kq a1 l2 l3 a4 l0_0=some r)∧Aside0 (kq≤kj5)∧Aside0 (wc.heap[gb309]? =some (.cells #[(.slice A0_0 l0_0.length c0_0)] 24 (0,0)))∧Aside0 (Below w.heap.size w wc))
   case first=>
    have H:=HC9.out
    clear HC9
    by_cases c10:(l3.length:Int) > 1048576
    ·rw[if_pos c10] at H
     have c10b0:decide (1048576<(l3.length:Int))=true:=Zt c10
     have c10b1:decide (1048576<l3.length)=true:=Zt (by omega)
     clear c10
     (first|rw[c10b0]|(simp only[i64_w,i32_w];rw[c10b0])|skip)
     obtain rfl:=Zj H
     go_wp2
     go_ret
     exact⟨by first|rfl|(simp[errW_none,errW_some]<;>rfl)|(simp[*,errW_none,errW_some]<;>rfl)|(simp[*,errW_none,errW_some,i64_w];done),by repeat(first|(with_reducible first|exact HB.out|apply Zh|apply Ze|apply Zd|refine Zf ?_ GE309.out)|exact HB.out)⟩
    ·rw[if_neg c10] at H
     have c10b0:decide (1048576<(l3.length:Int))=false:=Yc c10
     have c10b1:decide (1048576<l3.length)=false:=Yc (by omega)
     clear c10
     (first|rw[c10b0]|(simp only[i64_w,i32_w];rw[c10b0])|skip)
     have H':=Za H
     clear H
     go_wp2
     go_meet
     case rel=>exact⟨_,H',⟨by have:=HJ5.out;first|omega|exact Nat.le_refl _⟩,⟨by(with_reducible repeat(first|refine blk_drewN ?_ _|refine blk_drew ?_|refine blk_alloc ?_ _));exact BK309.out⟩,⟨by repeat(first|(with_reducible first|exact HB.out|apply Zh|apply Ze|apply Zd|refine Zf ?_ GE309.out)|exact HB.out)⟩⟩
   case rest=>
    clear HC9
    (try clear c2);(try clear c3)
    obtain⟨kq,HA,HJ8,BK309,HB⟩:=hcut
    cases kq with
    |zero=>exact absurd HA.out (by simp[laws_FnExactSensesOf.j1])
    |succ kj8=>
     have H:=HA.out
     clear HA
     simp only[laws_FnExactSensesOf.j1] at H
     replace H:=Zl H
     obtain⟨t310,A110,H⟩:=H
     replace H:(if t310<0 then (some true) else (laws_FnExactSensesOf.j2 kj8 a1 l2 l3 a4 l0_0))=some r:=H
     have A11:=Za A110
     clear A110
     have HC12:=Za H
     clear H
     have hcz13_0:wc.cell? ⟨gb309,0,none⟩=some (.slice A0_0 l0_0.length c0_0):=(Zb BK309.out 0).trans rfl
     have hfz13_0:=Zc BK309.out 0
     go_upto_if 31 with(first|((first|((with_reducible refine gate_callee (f:=5) rfl ?_);refine goesL_ (some 29) rfl rfl Try.func5 z11_20 rfl #[.agg #[.slice A0_0 l0_0.length c0_0],.int .i64 1048576] rfl z11_1 ?_;(with_reducible refine(laws_szProgram.calls kj8 _ _ l0_0 1048576 t310 _ ?side1 ?side2 A11.out).mono ?_))|(go_at_call 5;(with_reducible refine(laws_szProgram.calls kj8 _ _ l0_0 1048576 t310 _ ?side1 ?side2 A11.out).mono ?_)));(case side1=>exact z11_10);(case side2=>exact HC0_0.out);rintro e w14 ⟨rfl,hb⟩;(first|refine⟨_,rfl,?_⟩|skip);replace BK309:=Za (Zk (g:=gb309) (o:= .cells #[.slice A0_0 l0_0.length c0_0] 24 (0,0)) z11_3 hb);replace HB:=Za (Zi z11_0 hb);(try clear hb);(try clear hb2);(try clear hk);(try clear hi)))
     (try simp only[Act.put,Zm,Zn,Zo])
     go_cut [] (fun wc=>∃(kq:Nat),Aside0 (laws_FnExactSensesOf.j2 kq a1 l2 l3 a4 l0_0=some r)∧Aside0 (kq≤kj8)∧Aside0 (wc.heap[gb309]? =some (.cells #[(.slice A0_0 l0_0.length c0_0)] 24 (0,0)))∧Aside0 (Below w.heap.size w wc))
     case first=>
      have H:=HC12.out
      clear HC12
      by_cases c15:t310<0
      ·rw[if_pos c15] at H
       have c15b0:decide (t310<0)=true:=Zt c15
       clear c15
       (first|rw[c15b0]|(simp only[i64_w,i32_w];rw[c15b0])|skip)
       obtain rfl:=Zj H
       go_wp2
       go_ret
       exact⟨by first|rfl|(simp[errW_none,errW_some]<;>rfl)|(simp[*,errW_none,errW_some]<;>rfl)|(simp[*,errW_none,errW_some,i64_w];done),by repeat(first|(with_reducible first|exact HB.out|apply Zh|apply Ze|apply Zd|refine Zf ?_ GE309.out)|exact HB.out)⟩
      ·rw[if_neg c15] at H
       have c15b0:decide (t310<0)=false:=Yc c15
       clear c15
       (first|rw[c15b0]|(simp only[i64_w,i32_w];rw[c15b0])|skip)
       have H':=Za H
       clear H
       go_wp2
       go_meet
       case rel=>exact⟨_,H',⟨by have:=HJ5.out;have:=HJ8.out;first|omega|exact Nat.le_refl _⟩,⟨by(with_reducible repeat(first|refine blk_drewN ?_ _|refine blk_drew ?_|refine blk_alloc ?_ _));exact BK309.out⟩,⟨by repeat(first|(with_reducible first|exact HB.out|apply Zh|apply Ze|apply Zd|refine Zf ?_ GE309.out)|exact HB.out)⟩⟩
     case rest=>
      clear HC12
      (try clear c2);(try clear c3);(try clear hcz13_0);(try clear hfz13_0)
      obtain⟨kq,HA,HJ11,BK309,HB⟩:=hcut
      cases kq with
      |zero=>exact absurd HA.out (by simp[laws_FnExactSensesOf.j2])
      |succ kj11=>
       have H:=HA.out
       clear HA
       simp only[laws_FnExactSensesOf.j2] at H
       replace H:=Zl H
       obtain⟨t311,A160,H⟩:=H
       replace H:((laws_toIntS.f kj11 l2).bind fun t314=>((laws_toIntS.f kj11 l3).bind fun t317=>((spec_SensesOf.f kj11 t311 a1 t314 t317 a4).bind fun t320=>((laws_toProgram.f kj11 l0_0).bind fun t323=>((laws_toIntS.f kj11 l2).bind fun t327=>((laws_toIntS.f kj11 l3).bind fun t330=>((impl_SensesOf.f kj11 t323 a1 t327 t330 a4).bind fun t333=>((laws_eqIntS.f kj11 t333 t320).bind fun t336=>(if t336=true then (laws_FnExactSensesOf.j3 kj11 a1 l2 l3 a4 t320 t327 t330 t333 l0_0 t323) else (some false))))))))))=some r:=H
       have A16:=Za A160
       clear A160
       replace H:=Zl H
       obtain⟨t314,A170,H⟩:=H
       replace H:((laws_toIntS.f kj11 l3).bind fun t317=>((spec_SensesOf.f kj11 t311 a1 t314 t317 a4).bind fun t320=>((laws_toProgram.f kj11 l0_0).bind fun t323=>((laws_toIntS.f kj11 l2).bind fun t327=>((laws_toIntS.f kj11 l3).bind fun t330=>((impl_SensesOf.f kj11 t323 a1 t327 t330 a4).bind fun t333=>((laws_eqIntS.f kj11 t333 t320).bind fun t336=>(if t336=true then (laws_FnExactSensesOf.j3 kj11 a1 l2 l3 a4 t320 t327 t330 t333 l0_0 t323) else (some false)))))))))=some r:=H
       have A17:=Za A170
       clear A170
       replace H:=Zl H
       obtain⟨t317,A180,H⟩:=H
       replace H:((spec_SensesOf.f kj11 t311 a1 t314 t317 a4).bind fun t320=>((laws_toProgram.f kj11 l0_0).bind fun t323=>((laws_toIntS.f kj11 l2).bind fun t327=>((laws_toIntS.f kj11 l3).bind fun t330=>((impl_SensesOf.f kj11 t323 a1 t327 t330 a4).bind fun t333=>((laws_eqIntS.f kj11 t333 t320).bind fun t336=>(if t336=true then (laws_FnExactSensesOf.j3 kj11 a1 l2 l3 a4 t320 t327 t330 t333 l0_0 t323) else (some false))))))))=some r:=H
       have A18:=Za A180
       clear A180
       replace H:=Zl H
       obtain⟨t320,A190,H⟩:=H
       replace H:((laws_toProgram.f kj11 l0_0).bind fun t323=>((laws_toIntS.f kj11 l2).bind fun t327=>((laws_toIntS.f kj11 l3).bind fun t330=>((impl_SensesOf.f kj11 t323 a1 t327 t330 a4).bind fun t333=>((laws_eqIntS.f kj11 t333 t320).bind fun t336=>(if t336=true then (laws_FnExactSensesOf.j3 kj11 a1 l2 l3 a4 t320 t327 t330 t333 l0_0 t323) else (some false)))))))=some r:=H
       have A19:=Za A190
       clear A190
       replace H:=Zl H
       obtain⟨t323,A200,H⟩:=H
       replace H:((laws_toIntS.f kj11 l2).bind fun t327=>((laws_toIntS.f kj11 l3).bind fun t330=>((impl_SensesOf.f kj11 t323 a1 t327 t330 a4).bind fun t333=>((laws_eqIntS.f kj11 t333 t320).bind fun t336=>(if t336=true then (laws_FnExactSensesOf.j3 kj11 a1 l2 l3 a4 t320 t327 t330 t333 l0_0 t323) else (some false))))))=some r:=H
       have A20:=Za A200
       clear A200
       replace H:=Zl H
       obtain⟨t327,A210,H⟩:=H
       replace H:((laws_toIntS.f kj11 l3).bind fun t330=>((impl_SensesOf.f kj11 t323 a1 t327 t330 a4).bind fun t333=>((laws_eqIntS.f kj11 t333 t320).bind fun t336=>(if t336=true then (laws_FnExactSensesOf.j3 kj11 a1 l2 l3 a4 t320 t327 t330 t333 l0_0 t323) else (some false)))))=some r:=H
       have A21:=Za A210
       clear A210
       replace H:=Zl H
       obtain⟨t330,A220,H⟩:=H
       replace H:((impl_SensesOf.f kj11 t323 a1 t327 t330 a4).bind fun t333=>((laws_eqIntS.f kj11 t333 t320).bind fun t336=>(if t336=true then (laws_FnExactSensesOf.j3 kj11 a1 l2 l3 a4 t320 t327 t330 t333 l0_0 t323) else (some false))))=some r:=H
       have A22:=Za A220
       clear A220
       replace H:=Zl H
       obtain⟨t333,A230,H⟩:=H
       replace H:((laws_eqIntS.f kj11 t333 t320).bind fun t336=>(if t336=true then (laws_FnExactSensesOf.j3 kj11 a1 l2 l3 a4 t320 t327 t330 t333 l0_0 t323) else (some false)))=some r:=H
       have A23:=Za A230
       clear A230
       replace H:=Zl H
       obtain⟨t336,A240,H⟩:=H
       replace H:(if t336=true then (laws_FnExactSensesOf.j3 kj11 a1 l2 l3 a4 t320 t327 t330 t333 l0_0 t323) else (some false))=some r:=H
       have A24:=Za A240
       clear A240
       have HC25:=Za H
       clear H
       have hcz26_0:wc.cell? ⟨gb309,0,none⟩=some (.slice A0_0 l0_0.length c0_0):=(Zb BK309.out 0).trans rfl
       have hfz26_0:=Zc BK309.out 0
       go_upto_if 56 with(first|((first|((with_reducible refine gate_callee (f:=7) rfl ?_);refine goesL_ (some 33) rfl rfl Try.func7 z11_20 rfl #[.agg #[.slice A0_0 l0_0.length c0_0]] rfl z11_1 ?_;(with_reducible refine(laws_toProgram.calls kj11 _ _ l0_0 t311 _ ?side1 ?side2 A16.out).mono ?_))|(go_at_call 7;(with_reducible refine(laws_toProgram.calls kj11 _ _ l0_0 t311 _ ?side1 ?side2 A16.out).mono ?_)));(case side1=>exact z11_10);(case side2=>exact HC0_0.out);rintro e w27 ⟨v312,rfl,ho0,hb⟩;(first|refine⟨_,rfl,?_⟩|skip);have HO313:=Za (Kd.S_lower ho0 (Zw z11_0));replace BK309:=Za (Zk (g:=gb309) (o:= .cells #[.slice A0_0 l0_0.length c0_0] 24 (0,0)) z11_3 hb);replace HB:=Za (Zi z11_0 hb);(try clear hb);(try clear hb2);(try clear hk);(try clear hi);(try clear ho0))|((first|((with_reducible refine gate_callee (f:=8) rfl ?_);refine goesL_ (some 36) rfl rfl Try.func8 z11_20 rfl #[.slice A2 l2.length c2] rfl z11_1 ?_;(with_reducible refine(laws_toIntS.calls kj11 _ _ l2 t314 _ ?side1 ?side2 A17.out).mono ?_))|(go_at_call 8;(with_reducible refine(laws_toIntS.calls kj11 _ _ l2 t314 _ ?side1 ?side2 A17.out).mono ?_)));(case side1=>exact z11_17);(case side2=>exact HC2.out);rintro e w28 ⟨v315,rfl,ho0,hb⟩;(first|refine⟨_,rfl,?_⟩|skip);replace HO313:=Za (Kd.S_below z11_8 hb);have HO316:=Za (Kd.R_lower ho0 (Zw z11_0));replace BK309:=Za (Zk (g:=gb309) (o:= .cells #[.slice A0_0 l0_0.length c0_0] 24 (0,0)) z11_3 hb);replace HB:=Za (Zi z11_0 hb);(try clear hb);(try clear hb2);(try clear hk);(try clear hi);(try clear ho0))|((first|((with_reducible refine gate_callee (f:=8) rfl ?_);refine goesL_ (some 38) rfl rfl Try.func8 z11_20 rfl #[.slice A3 l3.length c3] rfl z11_1 ?_;(with_reducible refine(laws_toIntS.calls kj11 _ _ l3 t317 _ ?side1 ?side2 A18.out).mono ?_))|(go_at_call 8;(with_reducible refine(laws_toIntS.calls kj11 _ _ l3 t317 _ ?side1 ?side2 A18.out).mono ?_)));(case side1=>exact z11_11);(case side2=>exact HC3.out);rintro e w29 ⟨v318,rfl,ho0,hb⟩;(first|refine⟨_,rfl,?_⟩|skip);replace HO313:=Za (Kd.S_below z11_8 hb);have HO319:=Za (Kd.R_lower (Kd.R_new' ho0 (Kd.R_lt z11_7)) (Zw z11_0));replace HO316:=Za (Ym z11_7 (Yl ho0) hb);replace BK309:=Za (Zk (g:=gb309) (o:= .cells #[.slice A0_0 l0_0.length c0_0] 24 (0,0)) z11_3 hb);replace HB:=Za (Zi z11_0 hb);(try clear hb);(try clear hb2);(try clear hk);(try clear hi);(try clear ho0);obtain⟨Ao30,co30,eo30⟩:=Kd.S_slice HO313.out;subst eo30;obtain⟨Ao31,co31,eo31⟩:=Kd.R_slice HO316.out;subst eo31;obtain⟨Ao32,co32,eo32⟩:=Kd.R_slice HO319.out;subst eo32)|((first|((with_reducible refine gate_callee (f:=17) rfl ?_);refine goesL_ (some 40) rfl rfl Try.func17 z11_20 rfl #[.agg #[.slice Ao30 t311.length co30],.int .i64 a1,.slice Ao31 t314.length co31,.slice Ao32 t317.length co32,.int .i64 a4] rfl z11_1 ?_;(with_reducible refine(spec_SensesOf.calls kj11 _ _ t311 a1 _ _ t314 _ _ t317 a4 t320 _ ?side1 ?side2 ?side3 ?side4 ?side5 ?side6 A19.out).mono ?_))|(go_at_call 17;(with_reducible refine(spec_SensesOf.calls kj11 _ _ t311 a1 _ _ t314 _ _ t317 a4 t320 _ ?side1 ?side2 ?side3 ?side4 ?side5 ?side6 A19.out).mono ?_)));(case side1=>repeat(first|exact(Kd.S_reads' HO313.out).2.2|(with_reducible refine Yd ?_ _)|(with_reducible refine Ye ?_ _)|(with_reducible refine Yf ?_)));(case side2=>exact(Kd.S_reads' HO313.out).2.1);(case side3=>repeat(first|exact(Yi HO316.out).2.2|(with_reducible refine Yd ?_ _)|(with_reducible refine Ye ?_ _)|(with_reducible refine Yf ?_)));(case side4=>exact(Yi HO316.out).2.1);(case side5=>repeat(first|exact(Yi HO319.out).2.2|(with_reducible refine Yd ?_ _)|(with_reducible refine Ye ?_ _)|(with_reducible refine Yf ?_)));(case side6=>exact(Yi HO319.out).2.1);rintro e w33 ⟨v321,rfl,ho0,hb⟩;(first|refine⟨_,rfl,?_⟩|skip);replace HO313:=Za (Kd.S_below z11_8 hb);have HO322:=Za (Kd.R_lower (Kd.R_new' (Kd.R_new' ho0 (Kd.R_lt z11_7)) (Kd.R_lt z11_9)) (Zw z11_0));replace HO316:=Za (Ym z11_7 (Yl ho0) hb);replace HO319:=Za (Ym z11_9 (Yl ho0) hb);replace BK309:=Za (Zk (g:=gb309) (o:= .cells #[.slice A0_0 l0_0.length c0_0] 24 (0,0)) z11_3 hb);replace HB:=Za (Zi z11_0 hb);(try clear hb);(try clear hb2);(try clear hk);(try clear hi);(try clear ho0);have hcz34_0:w33.cell? ⟨gb309,0,none⟩=some (.slice A0_0 l0_0.length c0_0):=(Zb BK309.out 0).trans rfl;have hfz34_0:=Zc BK309.out 0)|((first|((with_reducible refine gate_callee (f:=7) rfl ?_);refine goesL_ (some 42) rfl rfl Try.func7 z11_20 rfl #[.agg #[.slice A0_0 l0_0.length c0_0]] rfl z11_1 ?_;(with_reducible refine(laws_toProgram.calls kj11 _ _ l0_0 t323 _ ?side1 ?side2 A20.out).mono ?_))|(go_at_call 7;(with_reducible refine(laws_toProgram.calls kj11 _ _ l0_0 t323 _ ?side1 ?side2 A20.out).mono ?_)));(case side1=>exact z11_10);(case side2=>exact HC0_0.out);rintro e w35 ⟨v324,rfl,ho0,hb⟩;(first|refine⟨_,rfl,?_⟩|skip);replace HO316:=Za (Kd.R_below z11_7 hb);replace HO319:=Za (Kd.R_below z11_9 hb);replace HO322:=Za (Kd.R_below z11_14 hb);have HO325:=Za (Kd.S_lower (Kd.S_new' ho0 (Kd.S_lt z11_8)) (Zw z11_0));replace HO313:=Za (Kd.S_elder' z11_8 (Kd.S_base ho0) hb);replace BK309:=Za (Zk (g:=gb309) (o:= .cells #[.slice A0_0 l0_0.length c0_0] 24 (0,0)) z11_3 hb);replace HB:=Za (Zi z11_0 hb);(try clear hb);(try clear hb2);(try clear hk);(try clear hi);(try clear ho0))|((with_reducible refine Zp (N:=13) rfl ?_);refine Zr ?hg (N:=13) ?hd (cs:= #[.slice none 0 0]) (t:=33) ?hr ?_;(case hd=>rfl);(case hg=>rfl);(case hr=>first|(go_simp;done)|(go_simp;rfl));intro gb326 hg w36 hbox hb;replace HO313:=Za (Kd.S_below z11_8 hb);replace HO316:=Za (Kd.R_below z11_7 hb);replace HO319:=Za (Kd.R_below z11_9 hb);replace HO322:=Za (Kd.R_below z11_14 hb);replace HO325:=Za (Kd.S_below (by(with_reducible repeat(first|apply Kd.S_alloc|apply Kd.S_drewN|apply Kd.S_drew));exact HO325.out) hb);have BK326:=Za (hbox);have GW326:=Za ((by rw[hg];exact(Zw z11_0):w.heap.size≤gb326));have GE326:=Za ((by rw[hg];exact(Zw z11_0):w.heap.size≤gb326));replace HB:=Za (Zi z11_0 hb);have NB309_326:=Za ((by rw[hg];exact Nat.ne_of_lt (blk_lt (g:=gb309) (o:= .cells #[.slice A0_0 l0_0.length c0_0] 24 (0,0)) z11_3):gb309≠gb326));have NB326_309:=Za ((by rw[hg];exact Nat.ne_of_gt (blk_lt (g:=gb309) (o:= .cells #[.slice A0_0 l0_0.length c0_0] 24 (0,0)) z11_3):gb326≠gb309));replace BK309:=Za (Zk (g:=gb309) (o:= .cells #[.slice A0_0 l0_0.length c0_0] 24 (0,0)) z11_3 hb);clear hb hbox hg;obtain⟨Ao37,co37,eo37⟩:=Kd.S_slice HO325.out;subst eo37;have hnb38:=NB326_309.out;have hnc38:=NB309_326.out;have hcz39_0:w36.cell? ⟨gb326,0,none⟩=some (.slice none 0 0):=(Zb BK326.out 0).trans rfl;have hfz39_0:=Zc BK326.out 0)|((first|((with_reducible refine gate_callee (f:=8) rfl ?_);refine goesL_ (some 44) rfl rfl Try.func8 z11_20 rfl #[.slice A2 l2.length c2] rfl z11_1 ?_;(with_reducible refine(laws_toIntS.calls kj11 _ _ l2 t327 _ ?side1 ?side2 A21.out).mono ?_))|(go_at_call 8;(with_reducible refine(laws_toIntS.calls kj11 _ _ l2 t327 _ ?side1 ?side2 A21.out).mono ?_)));(case side1=>exact Yb HR2.out z11_2);(case side2=>exact HC2.out);rintro e w40 ⟨v328,rfl,ho0,hb⟩;(first|refine⟨_,rfl,?_⟩|skip);replace HO313:=Za (Kd.S_below (by(with_reducible repeat(first|apply Kd.S_alloc|apply Kd.S_drewN|apply Kd.S_drew));exact(Kd.S_mono (Kd.S_far (p:=⟨gb326,0,none⟩) (Kd.S_types HO313.out BK326.out (by decide)) (fun _ hk=>hk.2) (.slice Ao37 t323.length co37)) (fun _ h_=>h_.1))) hb);replace HO325:=Za (Kd.S_below (by(with_reducible repeat(first|apply Kd.S_alloc|apply Kd.S_drewN|apply Kd.S_drew));exact(Kd.S_mono (Kd.S_far (p:=⟨gb326,0,none⟩) (Kd.S_types HO325.out BK326.out (by decide)) (fun _ hk=>hk.2) (.slice Ao37 t323.length co37)) (fun _ h_=>h_.1))) hb);have HO329:=Za (Kd.R_lower (Kd.R_new' (Kd.R_new' (Kd.R_new' ho0 (Kd.R_lt z11_24)) (Kd.R_lt z11_23)) (Kd.R_lt z11_22)) (Zw z11_2));replace HO316:=Za (Ym z11_24 (Yl ho0) hb);replace HO319:=Za (Ym z11_23 (Yl ho0) hb);replace HO322:=Za (Ym z11_22 (Yl ho0) hb);replace BK309:=Za (Zk (g:=gb309) (o:= .cells #[.slice A0_0 l0_0.length c0_0] 24 (0,0)) (by(with_reducible repeat(first|refine blk_drewN ?_ _|refine blk_drew ?_|refine blk_alloc ?_ _));refine blk_far ?_ NB309_326.out _;(with_reducible repeat(first|refine blk_drewN ?_ _|refine blk_drew ?_|refine blk_alloc ?_ _));exact BK309.out) hb);replace BK326:=Za (Zk (g:=gb326) (o:= .cells #[.slice Ao37 t323.length co37] 33 (0,0)) (by(with_reducible repeat(first|refine blk_drewN ?_ _|refine blk_drew ?_|refine blk_alloc ?_ _));refine blk_put (cs:= #[.slice none 0 0]) ?_ 0 _ rfl;(with_reducible repeat(first|refine blk_drewN ?_ _|refine blk_drew ?_|refine blk_alloc ?_ _));exact BK326.out) hb);replace HB:=Za (Zi z11_2 hb);(try clear hb);(try clear hb2);(try clear hk);(try clear hi);(try clear ho0))|((first|((with_reducible refine gate_callee (f:=8) rfl ?_);refine goesL_ (some 46) rfl rfl Try.func8 z11_20 rfl #[.slice A3 l3.length c3] rfl z11_1 ?_;(with_reducible refine(laws_toIntS.calls kj11 _ _ l3 t330 _ ?side1 ?side2 A22.out).mono ?_))|(go_at_call 8;(with_reducible refine(laws_toIntS.calls kj11 _ _ l3 t330 _ ?side1 ?side2 A22.out).mono ?_)));(case side1=>exact z11_11);(case side2=>exact HC3.out);rintro e w41 ⟨v331,rfl,ho0,hb⟩;(first|refine⟨_,rfl,?_⟩|skip);replace HO313:=Za (Kd.S_below z11_8 hb);replace HO325:=Za (Kd.S_below (by(with_reducible repeat(first|apply Kd.S_alloc|apply Kd.S_drewN|apply Kd.S_drew));exact HO325.out) hb);have HO332:=Za (Kd.R_lower (Kd.R_new' (Kd.R_new' (Kd.R_new' (Kd.R_new' ho0 (Kd.R_lt z11_7)) (Kd.R_lt z11_9)) (Kd.R_lt z11_14)) (Kd.R_lt z11_19)) (Zw z11_2));replace HO316:=Za (Ym z11_7 (Yl ho0) hb);replace HO319:=Za (Ym z11_9 (Yl ho0) hb);replace HO322:=Za (Ym z11_14 (Yl ho0) hb);replace HO329:=Za (Ym z11_19 (Yl ho0) hb);replace BK309:=Za (Zk (g:=gb309) (o:= .cells #[.slice A0_0 l0_0.length c0_0] 24 (0,0)) z11_3 hb);replace BK326:=Za (Zk (g:=gb326) (o:= .cells #[.slice Ao37 t323.length co37] 33 (0,0)) z11_6 hb);replace HB:=Za (Zi z11_2 hb);(try clear hb);(try clear hb2);(try clear hk);(try clear hi);(try clear ho0);have hcz42_0:w41.cell? ⟨gb326,0,none⟩=some (.slice Ao37 t323.length co37):=(Zb BK326.out 0).trans rfl;have hfz42_0:=Zc BK326.out 0;obtain⟨Ao43,co43,eo43⟩:=Kd.R_slice HO329.out;subst eo43;obtain⟨Ao44,co44,eo44⟩:=Kd.R_slice HO332.out;subst eo44)|((first|((with_reducible refine gate_callee (f:=18) rfl ?_);refine goesL_ (some 52) rfl rfl Try.func18 z11_20 rfl #[.agg #[.slice Ao37 t323.length co37],.int .i64 a1,.slice Ao43 t327.length co43,.slice Ao44 t330.length co44,.int .i64 a4] rfl z11_1 ?_;(with_reducible refine(impl_SensesOf.calls kj11 _ _ t323 a1 _ _ t327 _ _ t330 a4 t333 _ ?side1 ?side2 ?side3 ?side4 ?side5 ?side6 A23.out).mono ?_))|(go_at_call 18;(with_reducible refine(impl_SensesOf.calls kj11 _ _ t323 a1 _ _ t327 _ _ t330 a4 t333 _ ?side1 ?side2 ?side3 ?side4 ?side5 ?side6 A23.out).mono ?_)));(case side1=>repeat(first|exact(Kd.S_reads' HO325.out).2.2|(with_reducible refine Yd ?_ _)|(with_reducible refine Ye ?_ _)|(with_reducible refine Yf ?_)));(case side2=>exact(Kd.S_reads' HO325.out).2.1);(case side3=>repeat(first|exact(Yi HO329.out).2.2|(with_reducible refine Yd ?_ _)|(with_reducible refine Ye ?_ _)|(with_reducible refine Yf ?_)));(case side4=>exact(Yi HO329.out).2.1);(case side5=>repeat(first|exact(Yi HO332.out).2.2|(with_reducible refine Yd ?_ _)|(with_reducible refine Ye ?_ _)|(with_reducible refine Yf ?_)));(case side6=>exact(Yi HO332.out).2.1);rintro e w45 ⟨v334,rfl,ho0,hb⟩;(first|refine⟨_,rfl,?_⟩|skip);replace HO313:=Za (Kd.S_below z11_8 hb);replace HO325:=Za (Kd.S_below (by(with_reducible repeat(first|apply Kd.S_alloc|apply Kd.S_drewN|apply Kd.S_drew));exact HO325.out) hb);have HO335:=Za (Kd.R_lower (Kd.R_new' (Kd.R_new' (Kd.R_new' (Kd.R_new' (Kd.R_new' ho0 (Kd.R_lt z11_7)) (Kd.R_lt z11_9)) (Kd.R_lt z11_14)) (Kd.R_lt z11_19)) (Kd.R_lt (by(with_reducible repeat(first|apply Zy|apply Zz|apply Zx));exact HO332.out))) (Zw z11_2));replace HO316:=Za (Ym z11_7 (Yl ho0) hb);replace HO319:=Za (Ym z11_9 (Yl ho0) hb);replace HO322:=Za (Ym z11_14 (Yl ho0) hb);replace HO329:=Za (Ym z11_19 (Yl ho0) hb);replace HO332:=Za (Ym (by(with_reducible repeat(first|apply Zy|apply Zz|apply Zx));exact HO332.out) (Yl ho0) hb);replace BK309:=Za (Zk (g:=gb309) (o:= .cells #[.slice A0_0 l0_0.length c0_0] 24 (0,0)) z11_3 hb);replace BK326:=Za (Zk (g:=gb326) (o:= .cells #[.slice Ao37 t323.length co37] 33 (0,0)) z11_6 hb);replace HB:=Za (Zi z11_2 hb);(try clear hb);(try clear hb2);(try clear hk);(try clear hi);(try clear ho0);obtain⟨Ao46,co46,eo46⟩:=Kd.R_slice HO335.out;subst eo46;obtain⟨Ao47,co47,eo47⟩:=Kd.R_slice HO322.out;subst eo47)|((first|((with_reducible refine gate_callee (f:=12) rfl ?_);refine goesL_ (some 55) rfl rfl Try.func12 z11_20 rfl #[.slice Ao46 t333.length co46,.slice Ao47 t320.length co47] rfl z11_1 ?_;(with_reducible refine(laws_eqIntS.calls kj11 _ _ t333 _ _ t320 t336 _ ?side1 ?side2 ?side3 ?side4 A24.out).mono ?_))|(go_at_call 12;(with_reducible refine(laws_eqIntS.calls kj11 _ _ t333 _ _ t320 t336 _ ?side1 ?side2 ?side3 ?side4 A24.out).mono ?_)));(case side1=>repeat(first|exact(Yi HO335.out).2.2|(with_reducible refine Yd ?_ _)|(with_reducible refine Ye ?_ _)|(with_reducible refine Yf ?_)));(case side2=>exact(Yi HO335.out).2.1);(case side3=>repeat(first|exact(Yi HO322.out).2.2|(with_reducible refine Yd ?_ _)|(with_reducible refine Ye ?_ _)|(with_reducible refine Yf ?_)));(case side4=>exact(Yi HO322.out).2.1);rintro e w' ⟨rfl,⟨nd,rfl⟩⟩;(first|refine⟨_,rfl,?_⟩|skip)))
       (try simp only[Act.put,Zm,Zn,Zo])
       go_cut [] (fun wc=>∃(kq:Nat),Aside0 (laws_FnExactSensesOf.j3 kq a1 l2 l3 a4 t320 t327 t330 t333 l0_0 t323=some r)∧Aside0 (kq≤kj11)∧Aside0 (Kd.R (Kd.int .i64) 3 wc w.heap.size (fun k_=>some k_≠((.slice Ao43 t327.length co43):Value).ownBlock∧some k_≠((.slice Ao44 t330.length co44):Value).ownBlock∧some k_≠((.slice Ao46 t333.length co46):Value).ownBlock) (.slice Ao47 t320.length co47) t320)∧Aside0 (Kd.R (Kd.int .i64) 3 wc w.heap.size (fun k_=>some k_≠((.slice Ao47 t320.length co47):Value).ownBlock∧some k_≠((.slice Ao44 t330.length co44):Value).ownBlock∧some k_≠((.slice Ao46 t333.length co46):Value).ownBlock) (.slice Ao43 t327.length co43) t327)∧Aside0 (Kd.R (Kd.int .i64) 3 wc w.heap.size (fun k_=>some k_≠((.slice Ao47 t320.length co47):Value).ownBlock∧some k_≠((.slice Ao43 t327.length co43):Value).ownBlock∧some k_≠((.slice Ao46 t333.length co46):Value).ownBlock) (.slice Ao44 t330.length co44) t330)∧Aside0 (Kd.R (Kd.int .i64) 3 wc w.heap.size (fun k_=>some k_≠((.slice Ao47 t320.length co47):Value).ownBlock∧some k_≠((.slice Ao43 t327.length co43):Value).ownBlock∧some k_≠((.slice Ao44 t330.length co44):Value).ownBlock) (.slice Ao46 t333.length co46) t333)∧Aside0 (Kd.S k64 64 wc w.heap.size (fun _=>True) (.slice Ao37 t323.length co37) t323)∧Aside0 (wc.heap[gb309]? =some (.cells #[(.slice A0_0 l0_0.length c0_0)] 24 (0,0)))∧Aside0 (wc.heap[gb326]? =some (.cells #[(.slice Ao37 t323.length co37)] 33 (0,0)))∧Aside0 (Below w.heap.size w wc))
       case first=>
        have H:=HC25.out
        clear HC25
        by_cases c48:t336=true
        ·subst c48
         rw[if_pos rfl] at H
         have H':=Za H
         clear H
         go_wp2
         go_meet
         case rel=>exact⟨_,H',⟨by have:=HJ5.out;have:=HJ8.out;have:=HJ11.out;first|omega|exact Nat.le_refl _⟩,⟨by(with_reducible repeat(first|apply Zy|apply Zz|apply Zx));exact Yk HO322.out (fun _ hk=>⟨hk.1.1.2,⟨hk.1.2,hk.2⟩⟩)⟩,⟨by(with_reducible repeat(first|apply Zy|apply Zz|apply Zx));exact Yk HO329.out (fun _ hk=>⟨hk.1.1.2,⟨hk.1.2,hk.2⟩⟩)⟩,⟨by(with_reducible repeat(first|apply Zy|apply Zz|apply Zx));exact Yk HO332.out (fun _ hk=>⟨hk.1.1.2,⟨hk.1.2,hk.2⟩⟩)⟩,⟨by(with_reducible repeat(first|apply Zy|apply Zz|apply Zx));exact Yk HO335.out (fun _ hk=>⟨hk.1.1.2,⟨hk.1.2,hk.2⟩⟩)⟩,⟨by(with_reducible repeat(first|apply Kd.S_alloc|apply Kd.S_drewN|apply Kd.S_drew));exact Kd.S_mono HO325.out (fun _ hk=>trivial)⟩,⟨by(with_reducible repeat(first|refine blk_drewN ?_ _|refine blk_drew ?_|refine blk_alloc ?_ _));exact BK309.out⟩,⟨by(with_reducible repeat(first|refine blk_drewN ?_ _|refine blk_drew ?_|refine blk_alloc ?_ _));exact BK326.out⟩,⟨by repeat(first|(with_reducible first|exact HB.out|apply Zh|apply Ze|apply Zd|refine Zf ?_ GE309.out|refine Zf ?_ GE326.out)|exact HB.out)⟩⟩
        ·replace c48:=Bool.eq_false_iff.mpr c48
         subst c48
         rw[if_neg (show ¬(false=true) by decide)] at H
         exact absurd (hT.out.symm.trans (Zj H).symm) (by decide)
       case rest=>
        clear HC25
        (try clear c2);(try clear c3);(try clear hcz13_0);(try clear hcz26_0);(try clear hcz34_0);(try clear hcz39_0);(try clear hcz42_0);(try clear hfz13_0);(try clear hfz26_0);(try clear hfz34_0);(try clear hfz39_0);(try clear hfz42_0)
        obtain⟨kq,HA,HJ24,HO_12,HO_14,HO_15,HO_16,HO_327000,BK309,BK326,HB⟩:=hcut
        cases kq with
        |zero=>exact absurd HA.out (by simp[laws_FnExactSensesOf.j3])
        |succ kj24=>
         have H:=HA.out
         clear HA
         simp only[laws_FnExactSensesOf.j3] at H
         replace H:=Zl H
         obtain⟨t337,A490,H⟩:=H
         replace H:((laws_eqProgram.f kj24 t323 t337).bind fun t340=>(if t340=true then (laws_FnExactSensesOf.j4 kj24 a1 l2 l3 a4 t320 t327 t330 t333 l0_0 t323) else (some false)))=some r:=H
         have A49:=Za A490
         clear A490
         replace H:=Zl H
         obtain⟨t340,A500,H⟩:=H
         replace H:(if t340=true then (laws_FnExactSensesOf.j4 kj24 a1 l2 l3 a4 t320 t327 t330 t333 l0_0 t323) else (some false))=some r:=H
         have A50:=Za A500
         clear A500
         have HC51:=Za H
         clear H
         try go_wp2
         have n0_:=Za (Zx HO_12.out)
         have n1_:=Za (Zx HO_14.out)
         have n2_:=Za (Zx HO_15.out)
         have n3_:=Za (Zx HO_16.out)
         have n4_:=Za (Kd.S_drew HO_327000.out)
         have n5_:=Za (blk_drew BK309.out)
         have n6_:=Za (blk_drew BK326.out)
         have n7_:=Za (Zd HB.out)
         clear HO_12
         clear HO_14
         clear HO_15
         clear HO_16
         clear HO_327000
         clear BK309
         clear BK326
         clear HB
         have HO_12:=n0_
         have HO_14:=n1_
         have HO_15:=n2_
         have HO_16:=n3_
         have HO_327000:=n4_
         have BK309:=n5_
         have BK326:=n6_
         have HB:=n7_
         clear n0_ n1_ n2_ n3_ n4_ n5_ n6_ n7_
         refine start_ (n:=5) (S:=fun w'=>w'.cell? ⟨gb326,0,none⟩=some (.slice Ao37 t323.length co37)∧w'.cell? ⟨gb309,0,none⟩=some (.slice A0_0 l0_0.length c0_0)) (ds:=[]) #[false,false,false,false,false] z11_20 rfl rfl ⟨(Zb BK326.out 0).trans rfl,(Zb BK309.out 0).trans rfl⟩ (fun hHeld=> ?_)
         generalize wc.drew=w52 at HO_12 HO_14 HO_15 HO_16 HO_327000 BK309 BK326 HB hHeld ⊢
         refine take_ (i:=0) (N:=some 57) (v:= ?_) (a':= ?_) #[true,false,false,false,false] rfl rfl z11_20 (fun _ _ _ h=>h) (Or.inl ⟨by rfl,?_⟩) hHeld ?_ ?_
         rotate_left
         ·rintro w' ⟨s0,s1⟩
          go_simp
          with_reducible rfl
         rotate_left
         ·simp only[Act.put,Zm,Zn,Zo,i64_w,i32_w]
          rfl
         refine take_ (i:=1) (N:=some 58) (v:= ?_) (a':= ?_) #[true,true,false,false,false] rfl rfl z11_20 (fun _ _ _ h=>h) (Or.inl ⟨by rfl,?_⟩) hHeld ?_ ?_
         rotate_left
         ·rintro w' ⟨s0,s1⟩
          go_simp
          with_reducible rfl
         rotate_left
         ·simp only[Act.put,Zm,Zn,Zo,i64_w,i32_w]
          rfl
         refine one_ (i:=2) (N:=some 59) #[true,true,true,false,false] rfl rfl z11_20 (by decide) (fun K hK=> ?_)
         refine goes_ Try.func7 z11_20 rfl #[.agg #[.slice A0_0 l0_0.length c0_0]] (by rfl) rfl rfl z11_1 ?_
         with_reducible refine(laws_toProgram.calls kj24 _ _ l0_0 t337 _ ?side1 ?side2 A49.out).mono ?_
         (case side1=>exact z11_10)
         (case side2=>exact HC0_0.out)
         rintro e w53 ⟨v338,rfl,ho0,hb⟩
         refine⟨_,rfl,?_⟩
         have n0_:=Za (Kd.R_below z11_5 hb)
         have n1_:=Za (Kd.R_below z11_13 hb)
         have n2_:=Za (Kd.R_below z11_12 hb)
         have n3_:=Za (Kd.R_below z11_4 hb)
         have n4_:=Za (Kd.S_elder' z11_15 (Kd.S_base ho0) hb)
         have n5_:=Za (Kd.S_lower (Kd.S_new' ho0 (Kd.S_lt z11_15)) (Zw z11_2))
         have n6_:=Za (Zk (g:=gb309) (o:= .cells #[.slice A0_0 l0_0.length c0_0] 24 (0,0)) z11_3 hb)
         have n7_:=Za (Zk (g:=gb326) (o:= .cells #[.slice Ao37 t323.length co37] 33 (0,0)) z11_6 hb)
         have n8_:=Za (Zi z11_2 hb)
         clear HO_12
         clear HO_14
         clear HO_15
         clear HO_16
         clear HO_327000
         clear BK309
         clear BK326
         clear HB
         have HO_12:=n0_
         have HO_14:=n1_
         have HO_15:=n2_
         have HO_16:=n3_
         have HO_327000:=n4_
         have HO339:=n5_
         have BK309:=n6_
         have BK326:=n7_
         have HB:=n8_
         clear n0_ n1_ n2_ n3_ n4_ n5_ n6_ n7_ n8_
         (try clear hb)
         (try clear hb2)
         (try clear hk)
         (try clear hi)
         (try clear ho0)
         obtain⟨Ao54,co54,eo54⟩:=Kd.S_slice HO339.out
         (first|subst eo54|(injection eo54 with f1_ f2_ f3_;have f4_:=f1_.symm;have f5_:=f3_.symm;clear f1_ f2_ f3_;subst f4_;subst f5_))
         refine hK.out _ _ ⟨(Zb BK326.out 0).trans rfl,(Zb BK309.out 0).trans rfl⟩ (fun hHeld=> ?_)
         clear hK K
         refine norm_ (a':= ?_) ?_ ?_
         rotate_left
         ·show Act.put _ (some 59) _=_
          simp only[Act.put,Zm,Zn,Zo,i64_w,i32_w]
          rfl
         refine one_ (i:=3) (N:=some 60) #[true,true,true,true,false] rfl rfl z11_20 (by decide) (fun K hK=> ?_)
         refine goes_ Try.func11 z11_20 rfl #[.agg #[.slice Ao37 t323.length co37],.agg #[.slice Ao54 t337.length co54]] (by rfl) rfl rfl z11_1 ?_
         with_reducible refine(laws_eqProgram.calls kj24 _ _ t323 _ _ t337 t340 _ ?side1 ?side2 ?side3 ?side4 A50.out).mono ?_
         (case side1=>repeat(first|exact(Kd.S_reads' HO_327000.out).2.2|(with_reducible refine Yd ?_ _)|(with_reducible refine Ye ?_ _)|(with_reducible refine Yf ?_)))
         (case side2=>exact(Kd.S_reads' HO_327000.out).2.1)
         (case side3=>repeat(first|exact(Kd.S_reads' HO339.out).2.2|(with_reducible refine Yd ?_ _)|(with_reducible refine Ye ?_ _)|(with_reducible refine Yf ?_)))
         (case side4=>exact(Kd.S_reads' HO339.out).2.1)
         rintro e w55 ⟨rfl,hb⟩
         refine⟨_,rfl,?_⟩
         have n0_:=Za (Kd.R_below z11_5 hb)
         have n1_:=Za (Kd.R_below z11_13 hb)
         have n2_:=Za (Kd.R_below z11_12 hb)
         have n3_:=Za (Kd.R_below z11_4 hb)
         have n4_:=Za (Kd.S_below z11_15 hb)
         have n5_:=Za (Kd.S_below (by(with_reducible repeat(first|apply Kd.S_alloc|apply Kd.S_drewN|apply Kd.S_drew));exact HO339.out) hb)
         have n6_:=Za (Zk (g:=gb309) (o:= .cells #[.slice A0_0 l0_0.length c0_0] 24 (0,0)) z11_3 hb)
         have n7_:=Za (Zk (g:=gb326) (o:= .cells #[.slice Ao37 t323.length co37] 33 (0,0)) z11_6 hb)
         have n8_:=Za (Zi z11_2 hb)
         clear HO_12
         clear HO_14
         clear HO_15
         clear HO_16
         clear HO_327000
         clear HO339
         clear BK309
         clear BK326
         clear HB
         have HO_12:=n0_
         have HO_14:=n1_
         have HO_15:=n2_
         have HO_16:=n3_
         have HO_327000:=n4_
         have HO339:=n5_
         have BK309:=n6_
         have BK326:=n7_
         have HB:=n8_
         clear n0_ n1_ n2_ n3_ n4_ n5_ n6_ n7_ n8_
         (try clear hb)
         (try clear hb2)
         (try clear hk)
         (try clear hi)
         refine hK.out _ _ ⟨(Zb BK326.out 0).trans rfl,(Zb BK309.out 0).trans rfl⟩ (fun hHeld=> ?_)
         clear hK K
         refine norm_ (a':= ?_) ?_ ?_
         rotate_left
         ·show Act.put _ (some 60) _=_
          simp only[Act.put,Zm,Zn,Zo,i64_w,i32_w]
          rfl
         refine pure_ (i:=4) (N:=some 61) (v:= ?_) (a':= ?_) #[true,true,true,true,true] rfl rfl z11_20 (fun _ _ _ h=>h) (Or.inl ⟨by rfl,?_⟩) ?_ ?_
         rotate_left
         ·intro w'
          go_simp
          with_reducible rfl
         rotate_left
         ·simp only[Act.put,Zm,Zn,Zo,i64_w,i32_w]
          rfl
         refine done_ z11_20 ?_
         go_upto_if 61 with(fail)
         go_cut [] (fun wc=>∃(kq:Nat),Aside0 (laws_FnExactSensesOf.j4 kq a1 l2 l3 a4 t320 t327 t330 t333 l0_0 t323=some r)∧Aside0 (kq≤kj24)∧Aside0 (Kd.R (Kd.int .i64) 3 wc w.heap.size (fun k_=>some k_≠((.slice Ao43 t327.length co43):Value).ownBlock∧some k_≠((.slice Ao44 t330.length co44):Value).ownBlock∧some k_≠((.slice Ao46 t333.length co46):Value).ownBlock) (.slice Ao47 t320.length co47) t320)∧Aside0 (Kd.R (Kd.int .i64) 3 wc w.heap.size (fun k_=>some k_≠((.slice Ao47 t320.length co47):Value).ownBlock∧some k_≠((.slice Ao44 t330.length co44):Value).ownBlock∧some k_≠((.slice Ao46 t333.length co46):Value).ownBlock) (.slice Ao43 t327.length co43) t327)∧Aside0 (Kd.R (Kd.int .i64) 3 wc w.heap.size (fun k_=>some k_≠((.slice Ao47 t320.length co47):Value).ownBlock∧some k_≠((.slice Ao43 t327.length co43):Value).ownBlock∧some k_≠((.slice Ao46 t333.length co46):Value).ownBlock) (.slice Ao44 t330.length co44) t330)∧Aside0 (Kd.R (Kd.int .i64) 3 wc w.heap.size (fun k_=>some k_≠((.slice Ao47 t320.length co47):Value).ownBlock∧some k_≠((.slice Ao43 t327.length co43):Value).ownBlock∧some k_≠((.slice Ao44 t330.length co44):Value).ownBlock) (.slice Ao46 t333.length co46) t333)∧Aside0 (Kd.S k64 64 wc w.heap.size (fun _=>True) (.slice Ao37 t323.length co37) t323)∧Aside0 (wc.heap[gb309]? =some (.cells #[(.slice A0_0 l0_0.length c0_0)] 24 (0,0)))∧Aside0 (wc.heap[gb326]? =some (.cells #[(.slice Ao37 t323.length co37)] 33 (0,0)))∧Aside0 (Below w.heap.size w wc))
         case first=>
          have H:=HC51.out
          clear HC51
          by_cases c56:t340=true
          ·subst c56
           rw[if_pos rfl] at H
           have H':=Za H
           clear H
           go_wp2
           go_meet
           case rel=>exact⟨_,H',⟨by have:=HJ5.out;have:=HJ8.out;have:=HJ11.out;have:=HJ24.out;first|omega|exact Nat.le_refl _⟩,⟨by(with_reducible repeat(first|apply Zy|apply Zz|apply Zx));exact HO_12.out⟩,⟨by(with_reducible repeat(first|apply Zy|apply Zz|apply Zx));exact HO_14.out⟩,⟨by(with_reducible repeat(first|apply Zy|apply Zz|apply Zx));exact HO_15.out⟩,⟨by(with_reducible repeat(first|apply Zy|apply Zz|apply Zx));exact HO_16.out⟩,⟨by(with_reducible repeat(first|apply Kd.S_alloc|apply Kd.S_drewN|apply Kd.S_drew));exact Kd.S_mono HO_327000.out (fun _ hk=>trivial)⟩,⟨by(with_reducible repeat(first|refine blk_drewN ?_ _|refine blk_drew ?_|refine blk_alloc ?_ _));exact BK309.out⟩,⟨by(with_reducible repeat(first|refine blk_drewN ?_ _|refine blk_drew ?_|refine blk_alloc ?_ _));exact BK326.out⟩,⟨by repeat(first|(with_reducible first|exact HB.out|apply Zh|apply Ze|apply Zd|refine Zf ?_ GE309.out|refine Zf ?_ GE326.out)|exact HB.out)⟩⟩
          ·replace c56:=Bool.eq_false_iff.mpr c56
           subst c56
           rw[if_neg (show ¬(false=true) by decide)] at H
           exact absurd (hT.out.symm.trans (Zj H).symm) (by decide)
         case rest=>
          clear HC51
          (try clear c2);(try clear c3);(try clear hcz13_0);(try clear hcz26_0);(try clear hcz34_0);(try clear hcz39_0);(try clear hcz42_0);(try clear hfz13_0);(try clear hfz26_0);(try clear hfz34_0);(try clear hfz39_0);(try clear hfz42_0)
          obtain⟨kq,HA,HJ50,HO_12,HO_14,HO_15,HO_16,HO_327000,BK309,BK326,HB⟩:=hcut
          cases kq with
          |zero=>exact absurd HA.out (by simp[laws_FnExactSensesOf.j4])
          |succ kj50=>
           have H:=HA.out
           clear HA
           simp only[laws_FnExactSensesOf.j4] at H
           replace H:=Zl H
           obtain⟨t341,A570,H⟩:=H
           replace H:((laws_eqIntS.f kj50 t327 t341).bind fun t344=>(if t344=true then (laws_FnExactSensesOf.j5 kj50 a1 l2 l3 a4 t320 t327 t330 t333 l0_0 t323) else (some false)))=some r:=H
           have A57:=Za A570
           clear A570
           replace H:=Zl H
           obtain⟨t344,A580,H⟩:=H
           replace H:(if t344=true then (laws_FnExactSensesOf.j5 kj50 a1 l2 l3 a4 t320 t327 t330 t333 l0_0 t323) else (some false))=some r:=H
           have A58:=Za A580
           clear A580
           have HC59:=Za H
           clear H
           go_upto_if 66 with(first|((first|((with_reducible refine gate_callee (f:=8) rfl ?_);refine goesL_ (some 64) rfl rfl Try.func8 z11_20 rfl #[.slice A2 l2.length c2] rfl z11_1 ?_;(with_reducible refine(laws_toIntS.calls kj50 _ _ l2 t341 _ ?side1 ?side2 A57.out).mono ?_))|(go_at_call 8;(with_reducible refine(laws_toIntS.calls kj50 _ _ l2 t341 _ ?side1 ?side2 A57.out).mono ?_)));(case side1=>exact z11_17);(case side2=>exact HC2.out);rintro e w60 ⟨v342,rfl,ho0,hb⟩;(first|refine⟨_,rfl,?_⟩|skip);replace HO_327000:=Za (Kd.S_below z11_15 hb);have HO343:=Za (Kd.R_lower (Kd.R_new' (Kd.R_new' (Kd.R_new' (Kd.R_new' ho0 (Kd.R_lt z11_5)) (Kd.R_lt z11_13)) (Kd.R_lt z11_12)) (Kd.R_lt z11_4)) (Zw z11_2));replace HO_12:=Za (Ym z11_5 (Yl ho0) hb);replace HO_14:=Za (Ym z11_13 (Yl ho0) hb);replace HO_15:=Za (Ym z11_12 (Yl ho0) hb);replace HO_16:=Za (Ym z11_4 (Yl ho0) hb);replace BK309:=Za (Zk (g:=gb309) (o:= .cells #[.slice A0_0 l0_0.length c0_0] 24 (0,0)) z11_3 hb);replace BK326:=Za (Zk (g:=gb326) (o:= .cells #[.slice Ao37 t323.length co37] 33 (0,0)) z11_6 hb);replace HB:=Za (Zi z11_2 hb);(try clear hb);(try clear hb2);(try clear hk);(try clear hi);(try clear ho0);obtain⟨Ao61,co61,eo61⟩:=Kd.R_slice HO343.out;subst eo61)|((first|((with_reducible refine gate_callee (f:=12) rfl ?_);refine goesL_ (some 65) rfl rfl Try.func12 z11_20 rfl #[.slice Ao43 t327.length co43,.slice Ao61 t341.length co61] rfl z11_1 ?_;(with_reducible refine(laws_eqIntS.calls kj50 _ _ t327 _ _ t341 t344 _ ?side1 ?side2 ?side3 ?side4 A58.out).mono ?_))|(go_at_call 12;(with_reducible refine(laws_eqIntS.calls kj50 _ _ t327 _ _ t341 t344 _ ?side1 ?side2 ?side3 ?side4 A58.out).mono ?_)));(case side1=>repeat(first|exact(Yi HO_14.out).2.2|(with_reducible refine Yd ?_ _)|(with_reducible refine Ye ?_ _)|(with_reducible refine Yf ?_)));(case side2=>exact(Yi HO_14.out).2.1);(case side3=>repeat(first|exact(Yi HO343.out).2.2|(with_reducible refine Yd ?_ _)|(with_reducible refine Ye ?_ _)|(with_reducible refine Yf ?_)));(case side4=>exact(Yi HO343.out).2.1);rintro e w' ⟨rfl,⟨nd,rfl⟩⟩;(first|refine⟨_,rfl,?_⟩|skip)))
           (try simp only[Act.put,Zm,Zn,Zo])
           go_cut [] (fun wc=>∃(kq:Nat),Aside0 (laws_FnExactSensesOf.j5 kq a1 l2 l3 a4 t320 t327 t330 t333 l0_0 t323=some r)∧Aside0 (kq≤kj50)∧Aside0 (Kd.R (Kd.int .i64) 3 wc w.heap.size (fun k_=>some k_≠((.slice Ao43 t327.length co43):Value).ownBlock∧some k_≠((.slice Ao44 t330.length co44):Value).ownBlock∧some k_≠((.slice Ao46 t333.length co46):Value).ownBlock) (.slice Ao47 t320.length co47) t320)∧Aside0 (Kd.R (Kd.int .i64) 3 wc w.heap.size (fun k_=>some k_≠((.slice Ao47 t320.length co47):Value).ownBlock∧some k_≠((.slice Ao44 t330.length co44):Value).ownBlock∧some k_≠((.slice Ao46 t333.length co46):Value).ownBlock) (.slice Ao43 t327.length co43) t327)∧Aside0 (Kd.R (Kd.int .i64) 3 wc w.heap.size (fun k_=>some k_≠((.slice Ao47 t320.length co47):Value).ownBlock∧some k_≠((.slice Ao43 t327.length co43):Value).ownBlock∧some k_≠((.slice Ao46 t333.length co46):Value).ownBlock) (.slice Ao44 t330.length co44) t330)∧Aside0 (Kd.R (Kd.int .i64) 3 wc w.heap.size (fun k_=>some k_≠((.slice Ao47 t320.length co47):Value).ownBlock∧some k_≠((.slice Ao43 t327.length co43):Value).ownBlock∧some k_≠((.slice Ao44 t330.length co44):Value).ownBlock) (.slice Ao46 t333.length co46) t333)∧Aside0 (Kd.S k64 64 wc w.heap.size (fun _=>True) (.slice Ao37 t323.length co37) t323)∧Aside0 (wc.heap[gb309]? =some (.cells #[(.slice A0_0 l0_0.length c0_0)] 24 (0,0)))∧Aside0 (wc.heap[gb326]? =some (.cells #[(.slice Ao37 t323.length co37)] 33 (0,0)))∧Aside0 (Below w.heap.size w wc))
           case first=>
            have H:=HC59.out
            clear HC59
            by_cases c62:t344=true
            ·subst c62
             rw[if_pos rfl] at H
             have H':=Za H
             clear H
             go_wp2
             go_meet
             case rel=>exact⟨_,H',⟨by have:=HJ5.out;have:=HJ8.out;have:=HJ11.out;have:=HJ24.out;have:=HJ50.out;first|omega|exact Nat.le_refl _⟩,⟨by(with_reducible repeat(first|apply Zy|apply Zz|apply Zx));exact Yk HO_12.out (fun _ hk=>⟨hk.1.1,⟨hk.1.2.1,hk.1.2.2⟩⟩)⟩,⟨by(with_reducible repeat(first|apply Zy|apply Zz|apply Zx));exact Yk HO_14.out (fun _ hk=>⟨hk.1.1,⟨hk.1.2.1,hk.1.2.2⟩⟩)⟩,⟨by(with_reducible repeat(first|apply Zy|apply Zz|apply Zx));exact Yk HO_15.out (fun _ hk=>⟨hk.1.1,⟨hk.1.2.1,hk.1.2.2⟩⟩)⟩,⟨by(with_reducible repeat(first|apply Zy|apply Zz|apply Zx));exact Yk HO_16.out (fun _ hk=>⟨hk.1.1,⟨hk.1.2.1,hk.1.2.2⟩⟩)⟩,⟨by(with_reducible repeat(first|apply Kd.S_alloc|apply Kd.S_drewN|apply Kd.S_drew));exact HO_327000.out⟩,⟨by(with_reducible repeat(first|refine blk_drewN ?_ _|refine blk_drew ?_|refine blk_alloc ?_ _));exact BK309.out⟩,⟨by(with_reducible repeat(first|refine blk_drewN ?_ _|refine blk_drew ?_|refine blk_alloc ?_ _));exact BK326.out⟩,⟨by repeat(first|(with_reducible first|exact HB.out|apply Zh|apply Ze|apply Zd|refine Zf ?_ GE309.out|refine Zf ?_ GE326.out)|exact HB.out)⟩⟩
            ·replace c62:=Bool.eq_false_iff.mpr c62
             subst c62
             rw[if_neg (show ¬(false=true) by decide)] at H
             exact absurd (hT.out.symm.trans (Zj H).symm) (by decide)
           case rest=>
            clear HC59
            (try clear c2);(try clear c3);(try clear hcz13_0);(try clear hcz26_0);(try clear hcz34_0);(try clear hcz39_0);(try clear hcz42_0);(try clear hfz13_0);(try clear hfz26_0);(try clear hfz34_0);(try clear hfz39_0);(try clear hfz42_0)
            obtain⟨kq,HA,HJ58,HO_12,HO_14,HO_15,HO_16,HO_327000,BK309,BK326,HB⟩:=hcut
            cases kq with
            |zero=>exact absurd HA.out (by simp[laws_FnExactSensesOf.j5])
            |succ kj58=>
             have H:=HA.out
             clear HA
             simp only[laws_FnExactSensesOf.j5] at H
             replace H:=Zl H
             obtain⟨t345,A630,H⟩:=H
             replace H:((laws_eqIntS.f kj58 t330 t345).bind fun t348=>(if t348=true then (laws_FnExactSensesOf.j6 kj58 a1 l2 l3 a4 t320 t327 t330 t333 l0_0 t323) else (some false)))=some r:=H
             have A63:=Za A630
             clear A630
             replace H:=Zl H
             obtain⟨t348,A640,H⟩:=H
             replace H:(if t348=true then (laws_FnExactSensesOf.j6 kj58 a1 l2 l3 a4 t320 t327 t330 t333 l0_0 t323) else (some false))=some r:=H
             have A64:=Za A640
             clear A640
             have HC65:=Za H
             clear H
             go_upto_if 71 with(first|((first|((with_reducible refine gate_callee (f:=8) rfl ?_);refine goesL_ (some 69) rfl rfl Try.func8 z11_20 rfl #[.slice A3 l3.length c3] rfl z11_1 ?_;(with_reducible refine(laws_toIntS.calls kj58 _ _ l3 t345 _ ?side1 ?side2 A63.out).mono ?_))|(go_at_call 8;(with_reducible refine(laws_toIntS.calls kj58 _ _ l3 t345 _ ?side1 ?side2 A63.out).mono ?_)));(case side1=>exact z11_11);(case side2=>exact HC3.out);rintro e w66 ⟨v346,rfl,ho0,hb⟩;(first|refine⟨_,rfl,?_⟩|skip);replace HO_327000:=Za (Kd.S_below z11_15 hb);have HO347:=Za (Kd.R_lower (Kd.R_new' (Kd.R_new' (Kd.R_new' (Kd.R_new' ho0 (Kd.R_lt z11_5)) (Kd.R_lt z11_13)) (Kd.R_lt z11_12)) (Kd.R_lt z11_4)) (Zw z11_2));replace HO_12:=Za (Ym z11_5 (Yl ho0) hb);replace HO_14:=Za (Ym z11_13 (Yl ho0) hb);replace HO_15:=Za (Ym z11_12 (Yl ho0) hb);replace HO_16:=Za (Ym z11_4 (Yl ho0) hb);replace BK309:=Za (Zk (g:=gb309) (o:= .cells #[.slice A0_0 l0_0.length c0_0] 24 (0,0)) z11_3 hb);replace BK326:=Za (Zk (g:=gb326) (o:= .cells #[.slice Ao37 t323.length co37] 33 (0,0)) z11_6 hb);replace HB:=Za (Zi z11_2 hb);(try clear hb);(try clear hb2);(try clear hk);(try clear hi);(try clear ho0);obtain⟨Ao67,co67,eo67⟩:=Kd.R_slice HO347.out;subst eo67)|((first|((with_reducible refine gate_callee (f:=12) rfl ?_);refine goesL_ (some 70) rfl rfl Try.func12 z11_20 rfl #[.slice Ao44 t330.length co44,.slice Ao67 t345.length co67] rfl z11_1 ?_;(with_reducible refine(laws_eqIntS.calls kj58 _ _ t330 _ _ t345 t348 _ ?side1 ?side2 ?side3 ?side4 A64.out).mono ?_))|(go_at_call 12;(with_reducible refine(laws_eqIntS.calls kj58 _ _ t330 _ _ t345 t348 _ ?side1 ?side2 ?side3 ?side4 A64.out).mono ?_)));(case side1=>repeat(first|exact(Yi HO_15.out).2.2|(with_reducible refine Yd ?_ _)|(with_reducible refine Ye ?_ _)|(with_reducible refine Yf ?_)));(case side2=>exact(Yi HO_15.out).2.1);(case side3=>repeat(first|exact(Yi HO347.out).2.2|(with_reducible refine Yd ?_ _)|(with_reducible refine Ye ?_ _)|(with_reducible refine Yf ?_)));(case side4=>exact(Yi HO347.out).2.1);rintro e w' ⟨rfl,⟨nd,rfl⟩⟩;(first|refine⟨_,rfl,?_⟩|skip)))
             (try simp only[Act.put,Zm,Zn,Zo])
             go_cut [] (fun wc=>∃(kq:Nat),Aside0 (laws_FnExactSensesOf.j6 kq a1 l2 l3 a4 t320 t327 t330 t333 l0_0 t323=some r)∧Aside0 (kq≤kj58)∧Aside0 (Kd.R (Kd.int .i64) 3 wc w.heap.size (fun k_=>some k_≠((.slice Ao43 t327.length co43):Value).ownBlock∧some k_≠((.slice Ao44 t330.length co44):Value).ownBlock∧some k_≠((.slice Ao46 t333.length co46):Value).ownBlock) (.slice Ao47 t320.length co47) t320)∧Aside0 (Kd.R (Kd.int .i64) 3 wc w.heap.size (fun k_=>some k_≠((.slice Ao47 t320.length co47):Value).ownBlock∧some k_≠((.slice Ao44 t330.length co44):Value).ownBlock∧some k_≠((.slice Ao46 t333.length co46):Value).ownBlock) (.slice Ao43 t327.length co43) t327)∧Aside0 (Kd.R (Kd.int .i64) 3 wc w.heap.size (fun k_=>some k_≠((.slice Ao47 t320.length co47):Value).ownBlock∧some k_≠((.slice Ao43 t327.length co43):Value).ownBlock∧some k_≠((.slice Ao46 t333.length co46):Value).ownBlock) (.slice Ao44 t330.length co44) t330)∧Aside0 (Kd.R (Kd.int .i64) 3 wc w.heap.size (fun k_=>some k_≠((.slice Ao47 t320.length co47):Value).ownBlock∧some k_≠((.slice Ao43 t327.length co43):Value).ownBlock∧some k_≠((.slice Ao44 t330.length co44):Value).ownBlock) (.slice Ao46 t333.length co46) t333)∧Aside0 (Kd.S k64 64 wc w.heap.size (fun _=>True) (.slice Ao37 t323.length co37) t323)∧Aside0 (wc.heap[gb309]? =some (.cells #[(.slice A0_0 l0_0.length c0_0)] 24 (0,0)))∧Aside0 (wc.heap[gb326]? =some (.cells #[(.slice Ao37 t323.length co37)] 33 (0,0)))∧Aside0 (Below w.heap.size w wc))
             case first=>
              have H:=HC65.out
              clear HC65
              by_cases c68:t348=true
              ·subst c68
               rw[if_pos rfl] at H
               have H':=Za H
               clear H
               go_wp2
               go_meet
               case rel=>exact⟨_,H',⟨by have:=HJ5.out;have:=HJ8.out;have:=HJ11.out;have:=HJ24.out;have:=HJ50.out;have:=HJ58.out;first|omega|exact Nat.le_refl _⟩,⟨by(with_reducible repeat(first|apply Zy|apply Zz|apply Zx));exact Yk HO_12.out (fun _ hk=>⟨hk.1.1,⟨hk.1.2.1,hk.1.2.2⟩⟩)⟩,⟨by(with_reducible repeat(first|apply Zy|apply Zz|apply Zx));exact Yk HO_14.out (fun _ hk=>⟨hk.1.1,⟨hk.1.2.1,hk.1.2.2⟩⟩)⟩,⟨by(with_reducible repeat(first|apply Zy|apply Zz|apply Zx));exact Yk HO_15.out (fun _ hk=>⟨hk.1.1,⟨hk.1.2.1,hk.1.2.2⟩⟩)⟩,⟨by(with_reducible repeat(first|apply Zy|apply Zz|apply Zx));exact Yk HO_16.out (fun _ hk=>⟨hk.1.1,⟨hk.1.2.1,hk.1.2.2⟩⟩)⟩,⟨by(with_reducible repeat(first|apply Kd.S_alloc|apply Kd.S_drewN|apply Kd.S_drew));exact HO_327000.out⟩,⟨by(with_reducible repeat(first|refine blk_drewN ?_ _|refine blk_drew ?_|refine blk_alloc ?_ _));exact BK309.out⟩,⟨by(with_reducible repeat(first|refine blk_drewN ?_ _|refine blk_drew ?_|refine blk_alloc ?_ _));exact BK326.out⟩,⟨by repeat(first|(with_reducible first|exact HB.out|apply Zh|apply Ze|apply Zd|refine Zf ?_ GE309.out|refine Zf ?_ GE326.out)|exact HB.out)⟩⟩
              ·replace c68:=Bool.eq_false_iff.mpr c68
               subst c68
               rw[if_neg (show ¬(false=true) by decide)] at H
               exact absurd (hT.out.symm.trans (Zj H).symm) (by decide)
             case rest=>
              clear HC65
              (try clear c2);(try clear c3);(try clear hcz13_0);(try clear hcz26_0);(try clear hcz34_0);(try clear hcz39_0);(try clear hcz42_0);(try clear hfz13_0);(try clear hfz26_0);(try clear hfz34_0);(try clear hfz39_0);(try clear hfz42_0)
              obtain⟨kq,HA,HJ64,HO_12,HO_14,HO_15,HO_16,HO_327000,BK309,BK326,HB⟩:=hcut
              cases kq with
              |zero=>exact absurd HA.out (by simp[laws_FnExactSensesOf.j6])
              |succ kj64=>
               have H:=HA.out
               clear HA
               simp only[laws_FnExactSensesOf.j6] at H
               replace H:=Zl H
               obtain⟨t349,A690,H⟩:=H
               replace H:((laws_markIntS.f kj64 t327 t349).bind fun bt350=>((laws_markIntS.f kj64 t330 bt350.1).bind fun bt352=>(if bt352.1<0 then (laws_FnExactSensesOf.j7 kj64 a1 l2 l3 a4 t320 t333 true l0_0) else ((laws_eqIntS.f kj64 t333 t320).bind fun t354=>(laws_FnExactSensesOf.j7 kj64 a1 l2 l3 a4 t320 t333 (!t354) l0_0)))))=some r:=H
               have A69:=Za A690
               clear A690
               replace H:=Zl H
               obtain⟨⟨t350,t351⟩,A700,H⟩:=H
               replace H:((laws_markIntS.f kj64 t330 t350).bind fun bt352=>(if bt352.1<0 then (laws_FnExactSensesOf.j7 kj64 a1 l2 l3 a4 t320 t333 true l0_0) else ((laws_eqIntS.f kj64 t333 t320).bind fun t354=>(laws_FnExactSensesOf.j7 kj64 a1 l2 l3 a4 t320 t333 (!t354) l0_0))))=some r:=H
               have A70:=Za A700
               clear A700
               replace H:=Zl H
               obtain⟨⟨t352,t353⟩,A710,H⟩:=H
               replace H:(if t352<0 then (laws_FnExactSensesOf.j7 kj64 a1 l2 l3 a4 t320 t333 true l0_0) else ((laws_eqIntS.f kj64 t333 t320).bind fun t354=>(laws_FnExactSensesOf.j7 kj64 a1 l2 l3 a4 t320 t333 (!t354) l0_0)))=some r:=H
               have A71:=Za A710
               clear A710
               have HC72:=Za H
               clear H
               have hnb73:=NB326_309.out
               have hnc73:=NB309_326.out
               have hcz74_0:wc.cell? ⟨gb326,0,none⟩=some (.slice Ao37 t323.length co37):=(Zb BK326.out 0).trans rfl
               have hfz74_0:=Zc BK326.out 0
               go_upto_region 26 with(first|((first|((with_reducible refine gate_callee (f:=13) rfl ?_);refine goesL_ (some 74) rfl rfl Try.func13 z11_20 rfl #[.agg #[.slice Ao37 t323.length co37],.int .i64 1] rfl z11_1 ?_;(with_reducible refine(laws_markProgram.calls _ t323 1 t349 _ _ _ HO_327000.out A69.out).mono ?_))|(go_at_call 13;(with_reducible refine(laws_markProgram.calls _ t323 1 t349 _ _ _ HO_327000.out A69.out).mono ?_)));rintro e w75 ⟨rfl,hmk⟩;(first|refine⟨_,rfl,?_⟩|skip);have n0_:=Za (Yk (ok':=fun k_=>some k_≠(.slice Ao43 t327.length co43:Value).ownBlock∧some k_≠(.slice Ao44 t330.length co44:Value).ownBlock∧some k_≠(.slice Ao46 t333.length co46:Value).ownBlock) (Sep.MK.row hmk HO_12.out (by decide)) (fun k_ hk_=>⟨hk_.1,hk_.2.1,hk_.2.2⟩));have n1_:=Za (Yk (ok':=fun k_=>some k_≠(.slice Ao47 t320.length co47:Value).ownBlock∧some k_≠(.slice Ao44 t330.length co44:Value).ownBlock∧some k_≠(.slice Ao46 t333.length co46:Value).ownBlock) (Sep.MK.row hmk HO_14.out (by decide)) (fun k_ hk_=>⟨hk_.1,hk_.2.1,hk_.2.2⟩));have n2_:=Za (Yk (ok':=fun k_=>some k_≠(.slice Ao47 t320.length co47:Value).ownBlock∧some k_≠(.slice Ao43 t327.length co43:Value).ownBlock∧some k_≠(.slice Ao46 t333.length co46:Value).ownBlock) (Sep.MK.row hmk HO_15.out (by decide)) (fun k_ hk_=>⟨hk_.1,hk_.2.1,hk_.2.2⟩));have n3_:=Za (Yk (ok':=fun k_=>some k_≠(.slice Ao47 t320.length co47:Value).ownBlock∧some k_≠(.slice Ao43 t327.length co43:Value).ownBlock∧some k_≠(.slice Ao44 t330.length co44:Value).ownBlock) (Sep.MK.row hmk HO_16.out (by decide)) (fun k_ hk_=>⟨hk_.1,hk_.2.1,hk_.2.2⟩));have n4_:=Za (Sep.MK.blk hmk z11_3 (by decide));have n5_:=Za (Sep.MK.blk hmk z11_6 (by decide));have n6_:=Za (Sep.MK.to_below hmk z11_2 (Nat.le_refl _));clear HO_12;clear HO_14;clear HO_15;clear HO_16;clear BK309;clear BK326;clear HB;clear HO_327000;have HO_12:=n0_;have HO_14:=n1_;have HO_15:=n2_;have HO_16:=n3_;have BK309:=n4_;have BK326:=n5_;have HB:=n6_;clear n0_ n1_ n2_ n3_ n4_ n5_ n6_;(try clear hmk))|((first|((with_reducible refine gate_callee (f:=14) rfl ?_);refine goesL_ (some 77) rfl rfl Try.func14 z11_20 rfl #[.slice Ao43 t327.length co43,.int .i64 t349] rfl z11_1 ?_;(with_reducible refine(laws_markIntS.calls kj64 (fun k_=>some k_=(.slice Ao43 t327.length co43:Value).ownBlock) (.slice Ao43 t327.length co43) t327 t349 t350 t351 w _ ?side1 ?side2 A70.out).mono ?_))|(go_at_call 14;(with_reducible refine(laws_markIntS.calls kj64 (fun k_=>some k_=(.slice Ao43 t327.length co43:Value).ownBlock) (.slice Ao43 t327.length co43) t327 t349 t350 t351 w _ ?side1 ?side2 A70.out).mono ?_)));(case side1=>exact z11_2);(case side2=>exact Kd.R_tight rfl HO_14.out);rintro e w76 ⟨rfl,hy0,hb,hkp⟩;(first|refine⟨_,rfl,?_⟩|skip);replace HO_12:=Za (Yk (ok':=fun k_=>some k_≠(.slice Ao43 t327.length co43:Value).ownBlock∧some k_≠(.slice Ao44 t330.length co44:Value).ownBlock∧some k_≠(.slice Ao46 t333.length co46:Value).ownBlock) (Kd.R_keptB (HO_12.out) hkp (fun k_ hk_ hs_=>(hk_.1) hs_)) (fun k_ hk_=>⟨hk_.1.1,hk_.1.2.1,hk_.1.2.2⟩));replace HO_15:=Za (Yk (ok':=fun k_=>some k_≠(.slice Ao47 t320.length co47:Value).ownBlock∧some k_≠(.slice Ao43 t327.length co43:Value).ownBlock∧some k_≠(.slice Ao46 t333.length co46:Value).ownBlock) (Kd.R_keptB (HO_15.out) hkp (fun k_ hk_ hs_=>(hk_.2.1) hs_)) (fun k_ hk_=>⟨hk_.1.1,hk_.1.2.1,hk_.1.2.2⟩));replace HO_16:=Za (Yk (ok':=fun k_=>some k_≠(.slice Ao47 t320.length co47:Value).ownBlock∧some k_≠(.slice Ao43 t327.length co43:Value).ownBlock∧some k_≠(.slice Ao44 t330.length co44:Value).ownBlock) (Kd.R_keptB (HO_16.out) hkp (fun k_ hk_ hs_=>(hk_.2.1) hs_)) (fun k_ hk_=>⟨hk_.1.1,hk_.1.2.1,hk_.1.2.2⟩));replace BK309:=Za (blk_kept z11_3 hkp (fun hs_=>(fun e_=>(Kd.R_ne HO_14.out BK309.out (by decide)) e_) hs_));replace BK326:=Za (blk_kept z11_6 hkp (fun hs_=>(fun e_=>(Kd.R_ne HO_14.out BK326.out (by decide)) e_) hs_));replace HO_14:=Za (Kd.R_reok rfl hy0 (fun k_ e_=>HO_14.out.1 k_ e_));replace HB:=Za (hb);(try clear hb);(try clear hkp);(try clear hy0))|((first|((with_reducible refine gate_callee (f:=14) rfl ?_);refine goesL_ (some 80) rfl rfl Try.func14 z11_20 rfl #[.slice Ao44 t330.length co44,.int .i64 t350] rfl z11_1 ?_;(with_reducible refine(laws_markIntS.calls kj64 (fun k_=>some k_=(.slice Ao44 t330.length co44:Value).ownBlock) (.slice Ao44 t330.length co44) t330 t350 t352 t353 w _ ?side1 ?side2 A71.out).mono ?_))|(go_at_call 14;(with_reducible refine(laws_markIntS.calls kj64 (fun k_=>some k_=(.slice Ao44 t330.length co44:Value).ownBlock) (.slice Ao44 t330.length co44) t330 t350 t352 t353 w _ ?side1 ?side2 A71.out).mono ?_)));(case side1=>exact z11_2);(case side2=>exact Kd.R_tight rfl HO_15.out);rintro e w77 ⟨rfl,hy0,hb,hkp⟩;(first|refine⟨_,rfl,?_⟩|skip);replace HO_12:=Za (Yk (ok':=fun k_=>some k_≠(.slice Ao43 t327.length co43:Value).ownBlock∧some k_≠(.slice Ao44 t330.length co44:Value).ownBlock∧some k_≠(.slice Ao46 t333.length co46:Value).ownBlock) (Kd.R_keptB (HO_12.out) hkp (fun k_ hk_ hs_=>(hk_.2.1) hs_)) (fun k_ hk_=>⟨hk_.1.1,hk_.1.2.1,hk_.1.2.2⟩));replace HO_14:=Za (Yk (ok':=fun k_=>some k_≠(.slice Ao47 t320.length co47:Value).ownBlock∧some k_≠(.slice Ao44 t330.length co44:Value).ownBlock∧some k_≠(.slice Ao46 t333.length co46:Value).ownBlock) (Kd.R_keptB (HO_14.out) hkp (fun k_ hk_ hs_=>(hk_.2.1) hs_)) (fun k_ hk_=>⟨hk_.1.1,hk_.1.2.1,hk_.1.2.2⟩));replace HO_16:=Za (Yk (ok':=fun k_=>some k_≠(.slice Ao47 t320.length co47:Value).ownBlock∧some k_≠(.slice Ao43 t327.length co43:Value).ownBlock∧some k_≠(.slice Ao44 t330.length co44:Value).ownBlock) (Kd.R_keptB (HO_16.out) hkp (fun k_ hk_ hs_=>(hk_.2.2) hs_)) (fun k_ hk_=>⟨hk_.1.1,hk_.1.2.1,hk_.1.2.2⟩));replace BK309:=Za (blk_kept z11_3 hkp (fun hs_=>(fun e_=>(Kd.R_ne HO_15.out BK309.out (by decide)) e_) hs_));replace BK326:=Za (blk_kept z11_6 hkp (fun hs_=>(fun e_=>(Kd.R_ne HO_15.out BK326.out (by decide)) e_) hs_));replace HO_15:=Za (Kd.R_reok rfl hy0 (fun k_ e_=>HO_15.out.1 k_ e_));replace HB:=Za (hb);(try clear hb);(try clear hkp);(try clear hy0)))
               (try simp only[Act.put,Zm,Zn,Zo])
               go_cut [88] (fun v88 wc=>∃(kq:Nat) (x88_71:Bool),v88= .bool x88_71∧Aside0 (laws_FnExactSensesOf.j7 kq a1 l2 l3 a4 t320 t333 x88_71 l0_0=some r)∧Aside0 (kq≤kj64)∧Aside0 (Kd.R (Kd.int .i64) 3 wc w.heap.size (fun k_=>some k_≠((.slice Ao46 t333.length co46):Value).ownBlock) (.slice Ao47 t320.length co47) t320)∧Aside0 (Kd.R (Kd.int .i64) 3 wc w.heap.size (fun k_=>some k_≠((.slice Ao47 t320.length co47):Value).ownBlock) (.slice Ao46 t333.length co46) t333)∧Aside0 (wc.heap[gb309]? =some (.cells #[(.slice A0_0 l0_0.length c0_0)] 24 (0,0)))∧Aside0 (Below w.heap.size w wc))
               case first=>
                have H:=HC72.out
                clear HC72
                by_cases c78:t352<0
                ·rw[if_pos c78] at H
                 have c78b0:decide (t352<0)=true:=Zt c78
                 clear c78
                 (first|rw[c78b0]|(simp only[i64_w,i32_w];rw[c78b0])|skip)
                 have H':=Za H
                 clear H
                 go_wp2
                 go_meet
                 case rel=>exact⟨_,(true),(by first|rfl|(simp;done)|(simp[*];done)),H',⟨by have:=HJ5.out;have:=HJ8.out;have:=HJ11.out;have:=HJ24.out;have:=HJ50.out;have:=HJ58.out;have:=HJ64.out;first|omega|exact Nat.le_refl _⟩,⟨by(with_reducible repeat(first|apply Zy|apply Zz|apply Zx));exact Yk HO_12.out (fun _ hk=>hk.2.2)⟩,⟨by(with_reducible repeat(first|apply Zy|apply Zz|apply Zx));exact Yk HO_16.out (fun _ hk=>hk.1)⟩,⟨by(with_reducible repeat(first|refine blk_drewN ?_ _|refine blk_drew ?_|refine blk_alloc ?_ _));exact BK309.out⟩,⟨by repeat(first|(with_reducible first|exact HB.out|apply Zh|apply Ze|apply Zd|refine Zf ?_ GE309.out|refine Zf ?_ GE326.out)|exact HB.out)⟩⟩
                ·rw[if_neg c78] at H
                 have c78b0:decide (t352<0)=false:=Yc c78
                 clear c78
                 (first|rw[c78b0]|(simp only[i64_w,i32_w];rw[c78b0])|skip)
                 replace H:=Zl H
                 obtain⟨t354,A790,H⟩:=H
                 replace H:(laws_FnExactSensesOf.j7 kj64 a1 l2 l3 a4 t320 t333 (!t354) l0_0)=some r:=H
                 have A79:=Za A790
                 clear A790
                 have H':=Za H
                 clear H
                 go_wp2_with (first|(go_at_call 12;(with_reducible refine(laws_eqIntS.calls kj64 _ _ t333 _ _ t320 t354 _ ?side1 ?side2 ?side3 ?side4 A79.out).mono ?_);(case side1=>exact z11_16);(case side2=>exact(Yi HO_16.out).2.1);(case side3=>repeat(first|exact(Yi HO_12.out).2.2|(with_reducible refine Yd ?_ _)|(with_reducible refine Ye ?_ _)|(with_reducible refine Yf ?_)));(case side4=>exact(Yi HO_12.out).2.1);rintro e w' ⟨rfl,⟨nd,rfl⟩⟩))
                 go_meet
                 case rel=>exact⟨_,(!t354),(by first|rfl|(simp;done)|(simp[*];done)),H',⟨by have:=HJ5.out;have:=HJ8.out;have:=HJ11.out;have:=HJ24.out;have:=HJ50.out;have:=HJ58.out;have:=HJ64.out;first|omega|exact Nat.le_refl _⟩,⟨by(with_reducible repeat(first|apply Zy|apply Zz|apply Zx));exact Yk HO_12.out (fun _ hk=>hk.2.2)⟩,⟨by(with_reducible repeat(first|apply Zy|apply Zz|apply Zx));exact Yk HO_16.out (fun _ hk=>hk.1)⟩,⟨by(with_reducible repeat(first|refine blk_drewN ?_ _|refine blk_drew ?_|refine blk_alloc ?_ _));exact BK309.out⟩,⟨by repeat(first|(with_reducible first|exact HB.out|apply Zh|apply Ze|apply Zd|refine Zf ?_ GE309.out|refine Zf ?_ GE326.out)|exact HB.out)⟩⟩
               case rest=>
                clear HC72
                (try clear c2);(try clear c3);(try clear hcz13_0);(try clear hcz26_0);(try clear hcz34_0);(try clear hcz39_0);(try clear hcz42_0);(try clear hcz74_0);(try clear hfz13_0);(try clear hfz26_0);(try clear hfz34_0);(try clear hfz39_0);(try clear hfz42_0);(try clear hfz74_0)
                obtain⟨kq,x88_71,rfl,HA,HJ71,HO_12,HO_16,BK309,HB⟩:=hcut
                cases kq with
                |zero=>exact absurd HA.out (by simp[laws_FnExactSensesOf.j7])
                |succ kj71=>
                 have H:=HA.out
                 clear HA
                 simp only[laws_FnExactSensesOf.j7] at H
                 have HC80:=Za H
                 clear H
                 go_upto_if 88 with(fail)
                 go_cut [] (fun wc=>∃(kq:Nat),Aside0 (laws_FnExactSensesOf.j8 kq a1 l2 l3 a4 t320 t333 l0_0=some r)∧Aside0 (kq≤kj71)∧Aside0 (Kd.R (Kd.int .i64) 3 wc w.heap.size (fun k_=>some k_≠((.slice Ao46 t333.length co46):Value).ownBlock) (.slice Ao47 t320.length co47) t320)∧Aside0 (Kd.R (Kd.int .i64) 3 wc w.heap.size (fun k_=>some k_≠((.slice Ao47 t320.length co47):Value).ownBlock) (.slice Ao46 t333.length co46) t333)∧Aside0 (wc.heap[gb309]? =some (.cells #[(.slice A0_0 l0_0.length c0_0)] 24 (0,0)))∧Aside0 (Below w.heap.size w wc))
                 case first=>
                  have H:=HC80.out
                  clear HC80
                  by_cases c81:x88_71=true
                  ·subst c81
                   rw[if_pos rfl] at H
                   exact absurd (hT.out.symm.trans (Zj H).symm) (by decide)
                  ·replace c81:=Bool.eq_false_iff.mpr c81
                   subst c81
                   rw[if_neg (show ¬(false=true) by decide)] at H
                   have H':=Za H
                   clear H
                   go_wp2
                   go_meet
                   case rel=>exact⟨_,H',⟨by have:=HJ5.out;have:=HJ8.out;have:=HJ11.out;have:=HJ24.out;have:=HJ50.out;have:=HJ58.out;have:=HJ64.out;have:=HJ71.out;first|omega|exact Nat.le_refl _⟩,⟨by(with_reducible repeat(first|apply Zy|apply Zz|apply Zx));exact HO_12.out⟩,⟨by(with_reducible repeat(first|apply Zy|apply Zz|apply Zx));exact HO_16.out⟩,⟨by(with_reducible repeat(first|refine blk_drewN ?_ _|refine blk_drew ?_|refine blk_alloc ?_ _));exact BK309.out⟩,⟨by repeat(first|(with_reducible first|exact HB.out|apply Zh|apply Ze|apply Zd|refine Zf ?_ GE309.out)|exact HB.out)⟩⟩
                 case rest=>
                  clear HC80
                  (try clear c2);(try clear c3);(try clear hcz13_0);(try clear hcz26_0);(try clear hcz34_0);(try clear hcz39_0);(try clear hcz42_0);(try clear hcz74_0);(try clear hfz13_0);(try clear hfz26_0);(try clear hfz34_0);(try clear hfz39_0);(try clear hfz42_0);(try clear hfz74_0)
                  obtain⟨kq,HA,HJ79,HO_12,HO_16,BK309,HB⟩:=hcut
                  cases kq with
                  |zero=>exact absurd HA.out (by simp[laws_FnExactSensesOf.j8])
                  |succ kj79=>
                   have H:=HA.out
                   clear HA
                   simp only[laws_FnExactSensesOf.j8] at H
                   replace H:=Zl H
                   obtain⟨⟨t355,t356⟩,A820,H⟩:=H
                   replace H:((laws_heldIntS.f kj79 t356 1).bind fun t357=>(if t357<0 then (some false) else (laws_FnExactSensesOf.j9 kj79 a1 l2 l3 a4 t320 t356 t355 t357 l0_0)))=some r:=H
                   have A82:=Za A820
                   clear A820
                   replace H:=Zl H
                   obtain⟨t357,A830,H⟩:=H
                   replace H:(if t357<0 then (some false) else (laws_FnExactSensesOf.j9 kj79 a1 l2 l3 a4 t320 t356 t355 t357 l0_0))=some r:=H
                   have A83:=Za A830
                   clear A830
                   have HC84:=Za H
                   clear H
                   go_upto_if 96 with(first|((first|((with_reducible refine gate_callee (f:=14) rfl ?_);refine goesL_ (some 91) rfl rfl Try.func14 z11_20 rfl #[.slice Ao46 t333.length co46,.int .i64 1] rfl z11_1 ?_;(with_reducible refine(laws_markIntS.calls kj79 (fun k_=>some k_=(.slice Ao46 t333.length co46:Value).ownBlock) (.slice Ao46 t333.length co46) t333 1 t355 t356 w _ ?side1 ?side2 A82.out).mono ?_))|(go_at_call 14;(with_reducible refine(laws_markIntS.calls kj79 (fun k_=>some k_=(.slice Ao46 t333.length co46:Value).ownBlock) (.slice Ao46 t333.length co46) t333 1 t355 t356 w _ ?side1 ?side2 A82.out).mono ?_)));(case side1=>exact z11_0);(case side2=>exact Kd.R_tight rfl HO_16.out);rintro e w85 ⟨rfl,hy0,hb,hkp⟩;(first|refine⟨_,rfl,?_⟩|skip);replace HO_12:=Za (Yk (ok':=fun k_=>some k_≠(.slice Ao46 t333.length co46:Value).ownBlock) (Kd.R_keptB (HO_12.out) hkp (fun k_ hk_ hs_=>(hk_) hs_)) (fun k_ hk_=>hk_.1));replace BK309:=Za (blk_kept z11_3 hkp (fun hs_=>(fun e_=>(Kd.R_ne HO_16.out BK309.out (by decide)) e_) hs_));replace HO_16:=Za (Kd.R_reok rfl hy0 (fun k_ e_=>HO_16.out.1 k_ e_));replace HB:=Za (hb);(try clear hb);(try clear hkp);(try clear hy0))|((first|((with_reducible refine gate_callee (f:=19) rfl ?_);refine goesL_ (some 94) rfl rfl Try.func19 z11_20 rfl #[.slice Ao46 t356.length co46,.int .i64 1] rfl (by(try simp only[Yn,List.map_cons,List.map_nil]);first|done|(rw[show t356.length=t333.length from (Yi HO_16.out).1.symm]<;>rfl)|rfl|(simp only[List.length_drop,List.length_take];rfl)) ?_;(with_reducible refine(laws_heldIntS.calls kj79 _ _ t356 1 t357 _ ?side1 ?side2 A83.out).mono ?_))|(go_at_call 19;(with_reducible refine(laws_heldIntS.calls kj79 _ _ t356 1 t357 _ ?side1 ?side2 A83.out).mono ?_)));(case side1=>exact z11_16);(case side2=>rw[show t356.length=t333.length from (Yi HO_16.out).1.symm];exact(Yi HO_16.out).2.1);rintro e w' ⟨rfl,⟨nd,rfl⟩⟩;(first|refine⟨_,rfl,?_⟩|skip)))
                   (try simp only[Act.put,Zm,Zn,Zo])
                   go_cut [] (fun wc=>∃(kq:Nat),Aside0 (laws_FnExactSensesOf.j9 kq a1 l2 l3 a4 t320 t356 t355 t357 l0_0=some r)∧Aside0 (kq≤kj79)∧Aside0 (Kd.R (Kd.int .i64) 3 wc w.heap.size (fun k_=>some k_≠((.slice Ao46 t333.length co46):Value).ownBlock) (.slice Ao47 t320.length co47) t320)∧Aside0 (Kd.R (Kd.int .i64) 3 wc w.heap.size (fun k_=>some k_≠((.slice Ao47 t320.length co47):Value).ownBlock) (.slice Ao46 t333.length co46) t356)∧Aside0 (wc.heap[gb309]? =some (.cells #[(.slice A0_0 l0_0.length c0_0)] 24 (0,0)))∧Aside0 (Below w.heap.size w wc))
                   case first=>
                    have H:=HC84.out
                    clear HC84
                    by_cases c86:t357<0
                    ·rw[if_pos c86] at H
                     have c86b0:decide (t357<0)=true:=Zt c86
                     clear c86
                     (first|rw[c86b0]|(simp only[i64_w,i32_w];rw[c86b0])|skip)
                     exact absurd (hT.out.symm.trans (Zj H).symm) (by decide)
                    ·rw[if_neg c86] at H
                     have c86b0:decide (t357<0)=false:=Yc c86
                     clear c86
                     (first|rw[c86b0]|(simp only[i64_w,i32_w];rw[c86b0])|skip)
                     have H':=Za H
                     clear H
                     go_wp2
                     go_meet
                     case rel=>exact⟨_,H',⟨by have:=HJ5.out;have:=HJ8.out;have:=HJ11.out;have:=HJ24.out;have:=HJ50.out;have:=HJ58.out;have:=HJ64.out;have:=HJ71.out;have:=HJ79.out;first|omega|exact Nat.le_refl _⟩,⟨by(with_reducible repeat(first|apply Zy|apply Zz|apply Zx));exact HO_12.out⟩,⟨by(with_reducible repeat(first|apply Zy|apply Zz|apply Zx));exact HO_16.out⟩,⟨by(with_reducible repeat(first|refine blk_drewN ?_ _|refine blk_drew ?_|refine blk_alloc ?_ _));exact BK309.out⟩,⟨by repeat(first|(with_reducible first|exact HB.out|apply Zh|apply Ze|apply Zd|refine Zf ?_ GE309.out)|exact HB.out)⟩⟩
                   case rest=>
                    clear HC84
                    (try clear c2);(try clear c3);(try clear hcz13_0);(try clear hcz26_0);(try clear hcz34_0);(try clear hcz39_0);(try clear hcz42_0);(try clear hcz74_0);(try clear hfz13_0);(try clear hfz26_0);(try clear hfz34_0);(try clear hfz39_0);(try clear hfz42_0);(try clear hfz74_0)
                    obtain⟨kq,HA,HJ83,HO_12,HO_16,BK309,HB⟩:=hcut
                    have hl16_83:=(Yi HO_16.out).1
                    rw[hl16_83] at HO_16
                    (try simp only[hl16_83])
                    (try simp only[hl16_83] at BK309)
                    (try simp only[hl16_83] at HO_12)
                    cases kq with
                    |zero=>exact absurd HA.out (by simp[laws_FnExactSensesOf.j9])
                    |succ kj83=>
                     have H:=HA.out
                     clear HA
                     simp only[laws_FnExactSensesOf.j9] at H
                     have HC87:=Za H
                     clear H
                     go_upto_if 99 with(fail)
                     go_cut [] (fun wc=>∃(kq:Nat),Aside0 (laws_FnExactSensesOf.j10 kq a1 l2 l3 a4 t320 t356 t355 l0_0=some r)∧Aside0 (kq≤kj83)∧Aside0 (Kd.R (Kd.int .i64) 3 wc w.heap.size (fun k_=>some k_≠((.slice Ao46 t356.length co46):Value).ownBlock) (.slice Ao47 t320.length co47) t320)∧Aside0 (Kd.R (Kd.int .i64) 3 wc w.heap.size (fun k_=>some k_≠((.slice Ao47 t320.length co47):Value).ownBlock) (.slice Ao46 t356.length co46) t356)∧Aside0 (wc.heap[gb309]? =some (.cells #[(.slice A0_0 l0_0.length c0_0)] 24 (0,0)))∧Aside0 (Below w.heap.size w wc))
                     case first=>
                      have H:=HC87.out
                      clear HC87
                      by_cases c88:t357=t355
                      ·rw[if_pos c88] at H
                       have c88b0:(t357==t355)=true:=beq_iff_eq.mpr c88
                       have c88b1:(t357 != t355)=false:=bne_eq_false_iff_eq.mpr c88
                       clear c88
                       (first|rw[c88b0]|(simp only[i64_w,i32_w];rw[c88b0])|skip)
                       have H':=Za H
                       clear H
                       go_wp2
                       go_meet
                       case rel=>exact⟨_,H',⟨by have:=HJ5.out;have:=HJ8.out;have:=HJ11.out;have:=HJ24.out;have:=HJ50.out;have:=HJ58.out;have:=HJ64.out;have:=HJ71.out;have:=HJ79.out;have:=HJ83.out;first|omega|exact Nat.le_refl _⟩,⟨by(try simp only[hl16_83]);(with_reducible repeat(first|apply Zy|apply Zz|apply Zx));exact HO_12.out⟩,⟨by(try simp only[hl16_83]);(with_reducible repeat(first|apply Zy|apply Zz|apply Zx));exact HO_16.out⟩,⟨by(try simp only[hl16_83]);(with_reducible repeat(first|refine blk_drewN ?_ _|refine blk_drew ?_|refine blk_alloc ?_ _));exact BK309.out⟩,⟨by repeat(first|(with_reducible first|exact HB.out|apply Zh|apply Ze|apply Zd|refine Zf ?_ GE309.out)|exact HB.out)⟩⟩
                      ·rw[if_neg c88] at H
                       have c88b0:(t357==t355)=false:=beq_eq_false_iff_ne.mpr c88
                       have c88b1:(t357 != t355)=true:=bne_iff_ne.mpr c88
                       (first|rw[c88b0]|(simp only[i64_w,i32_w];rw[c88b0])|skip)
                       exact absurd (hT.out.symm.trans (Zj H).symm) (by decide)
                     case rest=>
                      clear HC87
                      (try clear c2);(try clear c3);(try clear hcz13_0);(try clear hcz26_0);(try clear hcz34_0);(try clear hcz39_0);(try clear hcz42_0);(try clear hcz74_0);(try clear hfz13_0);(try clear hfz26_0);(try clear hfz34_0);(try clear hfz39_0);(try clear hfz42_0);(try clear hfz74_0)
                      obtain⟨kq,HA,HJ86,HO_12,HO_16,BK309,HB⟩:=hcut
                      cases kq with
                      |zero=>exact absurd HA.out (by simp[laws_FnExactSensesOf.j10])
                      |succ kj86=>
                       have H:=HA.out
                       clear HA
                       simp only[laws_FnExactSensesOf.j10] at H
                       replace H:=Zl H
                       obtain⟨t358,A890,H⟩:=H
                       replace H:((laws_toIntS.f kj86 l2).bind fun t361=>((laws_toIntS.f kj86 l3).bind fun t364=>((impl_SensesOf.f kj86 t358 a1 t361 t364 a4).bind fun t367=>((laws_eqIntS.f kj86 t367 t320).bind fun t370=>(if t370=true then (laws_FnExactSensesOf.j11 kj86 t356 t355) else (some false))))))=some r:=H
                       have A89:=Za A890
                       clear A890
                       replace H:=Zl H
                       obtain⟨t361,A900,H⟩:=H
                       replace H:((laws_toIntS.f kj86 l3).bind fun t364=>((impl_SensesOf.f kj86 t358 a1 t361 t364 a4).bind fun t367=>((laws_eqIntS.f kj86 t367 t320).bind fun t370=>(if t370=true then (laws_FnExactSensesOf.j11 kj86 t356 t355) else (some false)))))=some r:=H
                       have A90:=Za A900
                       clear A900
                       replace H:=Zl H
                       obtain⟨t364,A910,H⟩:=H
                       replace H:((impl_SensesOf.f kj86 t358 a1 t361 t364 a4).bind fun t367=>((laws_eqIntS.f kj86 t367 t320).bind fun t370=>(if t370=true then (laws_FnExactSensesOf.j11 kj86 t356 t355) else (some false))))=some r:=H
                       have A91:=Za A910
                       clear A910
                       replace H:=Zl H
                       obtain⟨t367,A920,H⟩:=H
                       replace H:((laws_eqIntS.f kj86 t367 t320).bind fun t370=>(if t370=true then (laws_FnExactSensesOf.j11 kj86 t356 t355) else (some false)))=some r:=H
                       have A92:=Za A920
                       clear A920
                       replace H:=Zl H
                       obtain⟨t370,A930,H⟩:=H
                       replace H:(if t370=true then (laws_FnExactSensesOf.j11 kj86 t356 t355) else (some false))=some r:=H
                       have A93:=Za A930
                       clear A930
                       have HC94:=Za H
                       clear H
                       have hcz95_0:wc.cell? ⟨gb309,0,none⟩=some (.slice A0_0 l0_0.length c0_0):=(Zb BK309.out 0).trans rfl
                       have hfz95_0:=Zc BK309.out 0
                       go_upto_if 112 with(first|((first|((with_reducible refine gate_callee (f:=7) rfl ?_);refine goesL_ (some 101) rfl rfl Try.func7 z11_20 rfl #[.agg #[.slice A0_0 l0_0.length c0_0]] rfl z11_1 ?_;(with_reducible refine(laws_toProgram.calls kj86 _ _ l0_0 t358 _ ?side1 ?side2 A89.out).mono ?_))|(go_at_call 7;(with_reducible refine(laws_toProgram.calls kj86 _ _ l0_0 t358 _ ?side1 ?side2 A89.out).mono ?_)));(case side1=>exact z11_10);(case side2=>exact HC0_0.out);rintro e w96 ⟨v359,rfl,ho0,hb⟩;(first|refine⟨_,rfl,?_⟩|skip);replace HO_12:=Za (Kd.R_below z11_5 hb);replace HO_16:=Za (Kd.R_below z11_4 hb);have HO360:=Za (Kd.S_lower ho0 (Zw z11_0));replace BK309:=Za (Zk (g:=gb309) (o:= .cells #[.slice A0_0 l0_0.length c0_0] 24 (0,0)) z11_3 hb);replace HB:=Za (Zi z11_0 hb);(try clear hb);(try clear hb2);(try clear hk);(try clear hi);(try clear ho0))|((first|((with_reducible refine gate_callee (f:=8) rfl ?_);refine goesL_ (some 104) rfl rfl Try.func8 z11_20 rfl #[.slice A2 l2.length c2] rfl z11_1 ?_;(with_reducible refine(laws_toIntS.calls kj86 _ _ l2 t361 _ ?side1 ?side2 A90.out).mono ?_))|(go_at_call 8;(with_reducible refine(laws_toIntS.calls kj86 _ _ l2 t361 _ ?side1 ?side2 A90.out).mono ?_)));(case side1=>exact z11_17);(case side2=>exact HC2.out);rintro e w97 ⟨v362,rfl,ho0,hb⟩;(first|refine⟨_,rfl,?_⟩|skip);replace HO360:=Za (Kd.S_below (by(with_reducible repeat(first|apply Kd.S_alloc|apply Kd.S_drewN|apply Kd.S_drew));exact HO360.out) hb);have HO363:=Za (Kd.R_lower (Kd.R_new' (Kd.R_new' ho0 (Kd.R_lt z11_5)) (Kd.R_lt z11_4)) (Zw z11_0));replace HO_12:=Za (Ym z11_5 (Yl ho0) hb);replace HO_16:=Za (Ym z11_4 (Yl ho0) hb);replace BK309:=Za (Zk (g:=gb309) (o:= .cells #[.slice A0_0 l0_0.length c0_0] 24 (0,0)) z11_3 hb);replace HB:=Za (Zi z11_0 hb);(try clear hb);(try clear hb2);(try clear hk);(try clear hi);(try clear ho0))|((first|((with_reducible refine gate_callee (f:=8) rfl ?_);refine goesL_ (some 106) rfl rfl Try.func8 z11_20 rfl #[.slice A3 l3.length c3] rfl z11_1 ?_;(with_reducible refine(laws_toIntS.calls kj86 _ _ l3 t364 _ ?side1 ?side2 A91.out).mono ?_))|(go_at_call 8;(with_reducible refine(laws_toIntS.calls kj86 _ _ l3 t364 _ ?side1 ?side2 A91.out).mono ?_)));(case side1=>exact z11_11);(case side2=>exact HC3.out);rintro e w98 ⟨v365,rfl,ho0,hb⟩;(first|refine⟨_,rfl,?_⟩|skip);replace HO360:=Za (Kd.S_below (by(with_reducible repeat(first|apply Kd.S_alloc|apply Kd.S_drewN|apply Kd.S_drew));exact HO360.out) hb);have HO366:=Za (Kd.R_lower (Kd.R_new' (Kd.R_new' (Kd.R_new' ho0 (Kd.R_lt z11_5)) (Kd.R_lt z11_4)) (Kd.R_lt z11_18)) (Zw z11_0));replace HO_12:=Za (Ym z11_5 (Yl ho0) hb);replace HO_16:=Za (Ym z11_4 (Yl ho0) hb);replace HO363:=Za (Ym z11_18 (Yl ho0) hb);replace BK309:=Za (Zk (g:=gb309) (o:= .cells #[.slice A0_0 l0_0.length c0_0] 24 (0,0)) z11_3 hb);replace HB:=Za (Zi z11_0 hb);(try clear hb);(try clear hb2);(try clear hk);(try clear hi);(try clear ho0);obtain⟨Ao99,co99,eo99⟩:=Kd.S_slice HO360.out;subst eo99;obtain⟨Ao100,co100,eo100⟩:=Kd.R_slice HO363.out;subst eo100;obtain⟨Ao101,co101,eo101⟩:=Kd.R_slice HO366.out;subst eo101)|((first|((with_reducible refine gate_callee (f:=18) rfl ?_);refine goesL_ (some 108) rfl rfl Try.func18 z11_20 rfl #[.agg #[.slice Ao99 t358.length co99],.int .i64 a1,.slice Ao100 t361.length co100,.slice Ao101 t364.length co101,.int .i64 a4] rfl z11_1 ?_;(with_reducible refine(impl_SensesOf.calls kj86 _ _ t358 a1 _ _ t361 _ _ t364 a4 t367 _ ?side1 ?side2 ?side3 ?side4 ?side5 ?side6 A92.out).mono ?_))|(go_at_call 18;(with_reducible refine(impl_SensesOf.calls kj86 _ _ t358 a1 _ _ t361 _ _ t364 a4 t367 _ ?side1 ?side2 ?side3 ?side4 ?side5 ?side6 A92.out).mono ?_)));(case side1=>repeat(first|exact(Kd.S_reads' HO360.out).2.2|(with_reducible refine Yd ?_ _)|(with_reducible refine Ye ?_ _)|(with_reducible refine Yf ?_)));(case side2=>exact(Kd.S_reads' HO360.out).2.1);(case side3=>repeat(first|exact(Yi HO363.out).2.2|(with_reducible refine Yd ?_ _)|(with_reducible refine Ye ?_ _)|(with_reducible refine Yf ?_)));(case side4=>exact(Yi HO363.out).2.1);(case side5=>repeat(first|exact(Yi HO366.out).2.2|(with_reducible refine Yd ?_ _)|(with_reducible refine Ye ?_ _)|(with_reducible refine Yf ?_)));(case side6=>exact(Yi HO366.out).2.1);rintro e w102 ⟨v368,rfl,ho0,hb⟩;(first|refine⟨_,rfl,?_⟩|skip);replace HO360:=Za (Kd.S_below (by(with_reducible repeat(first|apply Kd.S_alloc|apply Kd.S_drewN|apply Kd.S_drew));exact HO360.out) hb);have HO369:=Za (Kd.R_lower (Kd.R_new' (Kd.R_new' (Kd.R_new' (Kd.R_new' ho0 (Kd.R_lt z11_5)) (Kd.R_lt z11_4)) (Kd.R_lt z11_18)) (Kd.R_lt (by(with_reducible repeat(first|apply Zy|apply Zz|apply Zx));exact HO366.out))) (Zw z11_0));replace HO_12:=Za (Ym z11_5 (Yl ho0) hb);replace HO_16:=Za (Ym z11_4 (Yl ho0) hb);replace HO363:=Za (Ym z11_18 (Yl ho0) hb);replace HO366:=Za (Ym (by(with_reducible repeat(first|apply Zy|apply Zz|apply Zx));exact HO366.out) (Yl ho0) hb);replace BK309:=Za (Zk (g:=gb309) (o:= .cells #[.slice A0_0 l0_0.length c0_0] 24 (0,0)) z11_3 hb);replace HB:=Za (Zi z11_0 hb);(try clear hb);(try clear hb2);(try clear hk);(try clear hi);(try clear ho0);obtain⟨Ao103,co103,eo103⟩:=Kd.R_slice HO369.out;subst eo103)|((first|((with_reducible refine gate_callee (f:=12) rfl ?_);refine goesL_ (some 111) rfl rfl Try.func12 z11_20 rfl #[.slice Ao103 t367.length co103,.slice Ao47 t320.length co47] rfl z11_1 ?_;(with_reducible refine(laws_eqIntS.calls kj86 _ _ t367 _ _ t320 t370 _ ?side1 ?side2 ?side3 ?side4 A93.out).mono ?_))|(go_at_call 12;(with_reducible refine(laws_eqIntS.calls kj86 _ _ t367 _ _ t320 t370 _ ?side1 ?side2 ?side3 ?side4 A93.out).mono ?_)));(case side1=>repeat(first|exact(Yi HO369.out).2.2|(with_reducible refine Yd ?_ _)|(with_reducible refine Ye ?_ _)|(with_reducible refine Yf ?_)));(case side2=>exact(Yi HO369.out).2.1);(case side3=>repeat(first|exact(Yi HO_12.out).2.2|(with_reducible refine Yd ?_ _)|(with_reducible refine Ye ?_ _)|(with_reducible refine Yf ?_)));(case side4=>exact(Yi HO_12.out).2.1);rintro e w' ⟨rfl,⟨nd,rfl⟩⟩;(first|refine⟨_,rfl,?_⟩|skip)))
                       (try simp only[Act.put,Zm,Zn,Zo])
                       go_cut [] (fun wc=>∃(kq:Nat),Aside0 (laws_FnExactSensesOf.j11 kq t356 t355=some r)∧Aside0 (kq≤kj86)∧Aside0 (Kd.R (Kd.int .i64) 3 wc w.heap.size (fun _=>True) (.slice Ao46 t356.length co46) t356)∧Aside0 (wc.heap[gb309]? =some (.cells #[(.slice A0_0 l0_0.length c0_0)] 24 (0,0)))∧Aside0 (Below w.heap.size w wc))
                       case first=>
                        have H:=HC94.out
                        clear HC94
                        by_cases c104:t370=true
                        ·subst c104
                         rw[if_pos rfl] at H
                         have H':=Za H
                         clear H
                         go_wp2
                         go_meet
                         case rel=>exact⟨_,H',⟨by have:=HJ5.out;have:=HJ8.out;have:=HJ11.out;have:=HJ24.out;have:=HJ50.out;have:=HJ58.out;have:=HJ64.out;have:=HJ71.out;have:=HJ79.out;have:=HJ83.out;have:=HJ86.out;first|omega|exact Nat.le_refl _⟩,⟨by(try simp only[hl16_83]);(with_reducible repeat(first|apply Zy|apply Zz|apply Zx));exact Yk HO_16.out (fun _ hk=>trivial)⟩,⟨by(try simp only[hl16_83]);(with_reducible repeat(first|refine blk_drewN ?_ _|refine blk_drew ?_|refine blk_alloc ?_ _));exact BK309.out⟩,⟨by repeat(first|(with_reducible first|exact HB.out|apply Zh|apply Ze|apply Zd|refine Zf ?_ GE309.out)|exact HB.out)⟩⟩
                        ·replace c104:=Bool.eq_false_iff.mpr c104
                         subst c104
                         rw[if_neg (show ¬(false=true) by decide)] at H
                         exact absurd (hT.out.symm.trans (Zj H).symm) (by decide)
                       case rest=>
                        clear HC94
                        (try clear c2);(try clear c3);(try clear hcz13_0);(try clear hcz26_0);(try clear hcz34_0);(try clear hcz39_0);(try clear hcz42_0);(try clear hcz74_0);(try clear hcz95_0);(try clear hfz13_0);(try clear hfz26_0);(try clear hfz34_0);(try clear hfz39_0);(try clear hfz42_0);(try clear hfz74_0);(try clear hfz95_0)
                        obtain⟨kq,HA,HJ93,HO_16,BK309,HB⟩:=hcut
                        cases kq with
                        |zero=>exact absurd HA.out (by simp[laws_FnExactSensesOf.j11])
                        |succ kj93=>
                         have H:=HA.out
                         clear HA
                         simp only[laws_FnExactSensesOf.j11] at H
                         replace H:=Zl H
                         obtain⟨t371,A1050,H⟩:=H
                         replace H:(if t371<0 then (some false) else (if t371=t355 then (some true) else (some false)))=some r:=H
                         have A105:=Za A1050
                         clear A1050
                         by_cases c106:t371<0
                         ·rw[if_pos c106] at H
                          have c106b0:decide (t371<0)=true:=Zt c106
                          clear c106
                          exact absurd (hT.out.symm.trans (Zj H).symm) (by decide)
                         ·rw[if_neg c106] at H
                          have c106b0:decide (t371<0)=false:=Yc c106
                          clear c106
                          by_cases c107:t371=t355
                          ·rw[if_pos c107] at H
                           have c107b0:(t371==t355)=true:=beq_iff_eq.mpr c107
                           have c107b1:(t371 != t355)=false:=bne_eq_false_iff_eq.mpr c107
                           clear c107
                           obtain rfl:=Zj H
                           go_wp2_with (first|((first|((with_reducible refine gate_callee (f:=19) rfl ?_);refine goesL_ (some 115) rfl rfl Try.func19 z11_20 rfl #[.slice Ao46 t356.length co46,.int .i64 1] rfl z11_1 ?_;(with_reducible refine(laws_heldIntS.calls kj93 _ _ t356 1 t371 _ ?side1 ?side2 A105.out).mono ?_))|(go_at_call 19;(with_reducible refine(laws_heldIntS.calls kj93 _ _ t356 1 t371 _ ?side1 ?side2 A105.out).mono ?_)));(case side1=>exact z11_16);(case side2=>exact(Yi HO_16.out).2.1);rintro e w' ⟨rfl,⟨nd,rfl⟩⟩;(first|refine⟨_,rfl,?_⟩|skip)))
                           go_ret
                           exact⟨by first|rfl|(simp[errW_none,errW_some]<;>rfl)|(simp[*,errW_none,errW_some]<;>rfl)|(simp[*,errW_none,errW_some,i64_w];done),by repeat(first|(with_reducible first|exact HB.out|apply Zh|apply Ze|apply Zd|refine Zf ?_ GE309.out)|exact HB.out)⟩
                          ·rw[if_neg c107] at H
                           have c107b0:(t371==t355)=false:=beq_eq_false_iff_ne.mpr c107
                           have c107b1:(t371 != t355)=true:=bne_iff_ne.mpr c107
                           exact absurd (hT.out.symm.trans (Zj H).symm) (by decide)
def laws_FnExactSensesOf.Pure:Prop:=∀(x0:S24) (x1:Int) (x2:List Int) (x3:List Int) (x4:Int),gd24 x0→(Lit.int .i64 x1).wf=true→(x2.length≤maxLen∧∀y0∈x2,(Lit.int .i64 y0).wf=true)→(x3.length≤maxLen∧∀y0∈x3,(Lit.int .i64 y0).wf=true)→(Lit.int .i64 x4).wf=true→∃k,laws_FnExactSensesOf.f k x0.f0 x1 x2 x3 x4=some true
theorem laws_FnExactSensesOf.walk (P:laws_FnExactSensesOf.Pure) (x0:S24) (c0:Array Value) (x1:Int) (x2:List Int) (a2:Option Addr) (n2 m2:Nat) (x3:List Int) (a3:Option Addr) (n3 m3:Nat) (x4:Int) (w:World) (K0:k24.K w x0 c0.toList) (G0:gd24 x0) (G1:(Lit.int .i64 x1).wf=true) (K2:(Kd.slice 3 (Kd.int .i64)).K w x2 [.slice a2 n2 m2]) (G2:(x2.length≤maxLen∧∀y0∈x2,(Lit.int .i64 y0).wf=true)) (K3:(Kd.slice 3 (Kd.int .i64)).K w x3 [.slice a3 n3 m3]) (G3:(x3.length≤maxLen∧∀y0∈x3,(Lit.int .i64 y0).wf=true)) (G4:(Lit.int .i64 x4).wf=true):
  Calls Try.prog 4 #[.agg c0,.int .i64 x1,.slice a2 n2 m2,.slice a3 n3 m3,.int .i64 x4] w fun e w'=>e= .returned (.bool true)∧Below w.heap.size w w':=by
 obtain⟨A0_0,c0_0,e0,l0_0,g0_0⟩:=k24_open K0
 have e0':c0= #[.slice A0_0 x0.f0.length c0_0]:=by rw[←Array.toList_inj];exact e0
 subst e0'
 obtain⟨A2_0,c2_0,e2,l2_0,g2_0⟩:=K2
 injection e2 with e2 _
 injection e2 with e2a e2b e2c
 subst e2a
 subst e2b
 subst e2c
 obtain⟨A3_0,c3_0,e3,l3_0,g3_0⟩:=K3
 injection e3 with e3 _
 injection e3 with e3a e3b e3c
 subst e3a
 subst e3b
 subst e3c
 obtain⟨k,h⟩:=P x0 x1 x2 x3 x4 G0 G1 G2 G3 G4
 refine(laws_FnExactSensesOf.calls k _ _ x0.f0 x1 _ _ x2 _ _ x3 x4 true w g0_0 l0_0 g2_0 l2_0 g3_0 l3_0 h ⟨rfl⟩).mono ?_
 rintro e w' ⟨rfl,hd⟩
 exact⟨rfl,hd⟩
end Go.Proofs.Ytlolppaddphpoaa.G
