/- Functions of the program as plain Lean functions, and that each call comes to its function's answer; written by a program of the session. No condition. -/
import Derived.Test.YtjgfldbogjipiaaGreatGx0
import Derived.Test.YtjgfldbogjipiaaGreatGx2
import Derived.Test.YtjgfldbogjipiaaGreatGx3
import Derived.Test.YtjgfldbogjipiaaGreatGx5
import Derived.Test.YtjgfldbogjipiaaGreatGx8
import Derived.Test.YtjgfldbogjipiaaGreatGx9
namespace Go.Proofs.YtjgfldbogjipiaaGreat.G
open Go.RowKit Go.Proofs.YtjgfldbogjipiaaGreatW.PrintWords Go.Proofs.YtjgfldbogjipiaaGreatW.PrintLast Go.Proofs.YtjgfldbogjipiaaGreatW.PrintMore
attribute [local go_sem] max2_int min2_int max_two min_two max_three min_three max_four min_four   -- for this text's walks alone
set_option linter.unusedVariables false
set_option linter.unusedSimpArgs false
theorem z10_0 {P:Prop} (h:P:=by repeat(first|(with_reducible first|exact HB.out|apply Zh|apply Zf|apply Ze|refine Zd ?_ GE579.out|refine Zd ?_ GE590.out)|exact HB.out)):P:=h
theorem z10_1 {P:Prop} (h:P:=by(try simp only[Yt,List.map_cons,List.map_nil]);first|done|rfl|(simp only[List.length_drop,List.length_take];rfl)):P:=h
theorem z10_2 {P:Prop} (h:P:=by repeat(first|(with_reducible first|exact HB.out|apply Zh|apply Zf|apply Ze|refine Zd ?_ GE579.out)|exact HB.out)):P:=h
theorem z10_3 {P:Prop} (h:P:=by(with_reducible repeat(first|refine blk_drewN ?_ _|refine blk_drew ?_|refine blk_alloc ?_ _));exact BK579.out):P:=h
theorem z10_4 {P:Prop} (h:P:=by(with_reducible repeat(first|apply Zm|apply Zl|apply Zj));exact HO_591001.out):P:=h
theorem z10_5 {P:Prop} (h:P:=by(with_reducible repeat(first|apply Zm|apply Zl|apply Zj));exact HO_4.out):P:=h
theorem z10_6 {P:Prop} (h:P:=by(with_reducible repeat(first|refine blk_drewN ?_ _|refine blk_drew ?_|refine blk_alloc ?_ _));exact BK590.out):P:=h
theorem z10_7 {P:Prop} (h:P:=by repeat(first|(with_reducible first|exact HB.out|apply Zh|apply Zf|apply Ze)|exact HB.out)):P:=h
theorem z10_8 {P:Prop} (h:P:=by(with_reducible repeat(first|apply Zm|apply Zl|apply Zj));exact HO_12.out):P:=h
theorem z10_9 {P:Prop} (h:P:=by(with_reducible repeat(first|apply Zm|apply Zl|apply Zj));exact HO_11.out):P:=h
theorem z10_10 {P:Prop} (h:P:=by kernel_rfl):P:=h
theorem z10_11 {P:Prop} (h:P:=by(with_reducible repeat(first|apply Kd.S_alloc|apply Kd.S_drewN|apply Kd.S_drew));exact HO_580000.out):P:=h
theorem z10_12 {P:Prop} (h:P:=by(with_reducible repeat(first|apply Zm|apply Zl|apply Zj));exact HO_591000.out):P:=h
theorem z10_13 {P:Prop} (h:P:=by(with_reducible repeat(first|apply Zm|apply Zl|apply Zj));exact HO578.out):P:=h
theorem z10_14 {P:Prop} (h:P:=by(with_reducible repeat(first|apply Zm|apply Zl|apply Zj));exact HO_13.out):P:=h
theorem z10_15 {P:Prop} (h:P:=by(with_reducible repeat(first|apply Zm|apply Zl|apply Zj));exact HO582.out):P:=h
theorem z10_16 {P:Prop} (h:P:=by repeat(first|exact(Ym HO_4.out).2.2|(with_reducible refine Yk ?_ _)|(with_reducible refine Yi ?_ _)|(with_reducible refine Yl ?_))):P:=h
theorem z10_17 {P:Prop} (h:P:=by(with_reducible repeat(first|apply Zm|apply Zl|apply Zj));exact(Yc (Kd.R_far (p:=⟨gb590,1,none⟩) (Kd.R_far (p:=⟨gb590,0,none⟩) (Kd.R_types HO588.out BK590.out (by decide)) (fun _ hk=>hk.2) (.slice Ao21 t583.length co21)) (fun _ hk=>hk.2) (.slice Ao24 t586.length co24)) (fun _ h_=>h_.1))):P:=h
theorem z10_18 {P:Prop} (h:P:=by(with_reducible repeat(first|apply Zm|apply Zl|apply Zj));exact(Yc (Kd.R_far (p:=⟨gb590,1,none⟩) (Kd.R_far (p:=⟨gb590,0,none⟩) (Kd.R_types HO585.out BK590.out (by decide)) (fun _ hk=>hk.2) (.slice Ao21 t583.length co21)) (fun _ hk=>hk.2) (.slice Ao24 t586.length co24)) (fun _ h_=>h_.1))):P:=h
theorem z10_19 {P:Prop} (h:P:=by(with_reducible repeat(first|apply Kd.S_alloc|apply Kd.S_drewN|apply Kd.S_drew));exact HO575.out):P:=h
theorem z10_20 {P:Prop} (h:P:=by(with_reducible repeat(first|apply Zm|apply Zl|apply Zj));exact HO_9.out):P:=h
theorem z10_21 {P:Prop} (h:P:=by first|(with_reducible assumption)|assumption):P:=h
theorem z10_22 {P:Prop} (h:P:=by(with_reducible repeat(first|apply Zm|apply Zl|apply Zj));exact(Yc (Kd.R_far (p:=⟨gb579,0,none⟩) (Kd.R_types HO578.out BK579.out (by decide)) (fun _ hk=>hk.2) (.slice Ao13 t573.length co13)) (fun _ h_=>h_.1))):P:=h
/-! ### laws_FnRollback: function 4 -/
mutual
def laws_FnRollback.j0:Nat→List Int→Option (Bool)
 |0,_=>none
 |k+1,x0=>(spec_DrawMemory.f k x0).bind fun bt573=>((spec_DrawReadings.f k x0).bind fun t580=>((impl_TraceOf.f k bt573.1 bt573.2 t580 0).bind fun bt583=>((impl_WritesOf.f k bt583.1 bt583.2.1).bind fun t591=>((spec_DrawPlaces.f k x0).bind fun t594=>(if bt583.2.2=true then (laws_FnRollback.j1 k bt573.2 t591 t594 ((t591.length:Int)==0) bt573.1) else (laws_FnRollback.j1 k bt573.2 t591 t594 true bt573.1))))))
def laws_FnRollback.j1:Nat→List Int→List (S66)→List Int→Bool→List (S74)→Option (Bool)
 |0,_,_,_,_,_=>none
 |k+1,x4,x8,x9,x41,x580000=>if x41=true then (some false) else (laws_FnRollback.j2 k x4 x8 x9 x580000)
def laws_FnRollback.j2:Nat→List Int→List (S66)→List Int→List (S74)→Option (Bool)
 |0,_,_,_,_=>none
 |k+1,x4,x8,x9,x580000=>if 0<(x9.length:Int) then (if (x8.length:Int)=0 then (none) else ((impl_ApplyWrites.f k x4 x8 (Int.tmod (rd x9 0) (x8.length:Int))).bind fun t598=>((impl_Recovered.f k t598).bind fun t601=>(if (t601.length:Int)=49 then (laws_FnRollback.j3 k x4 t598 t601 x580000) else (some false))))) else (none)
def laws_FnRollback.j3:Nat→List Int→List Int→List Int→List (S74)→Option (Bool)
 |0,_,_,_,_=>none
 |k+1,x4,x11,x12,x580000=>(impl_DirtyVars.f k x580000 x4).bind fun t604=>(laws_FnRollback.l0 k x4 x11 x12 t604 0 x580000)
def laws_FnRollback.l0:Nat→List Int→List Int→List Int→List Int→Int→List (S74)→Option (Bool)
 |0,_,_,_,_,_,_=>none
 |k+1,x4,x11,x12,x13,x14,x580000=>if x14<8 then ((laws_has.f k x13 x14).bind fun t607=>(if t607=true then (laws_FnRollback.l0 k x4 x11 x12 x13 (wrap64 (x14+1)) x580000) else (if 0≤x14 then (if x14<(x12.length:Int) then (if x14<(x4.length:Int) then (if (rd x12 x14)=(rd x4 x14) then (laws_FnRollback.l0 k x4 x11 x12 x13 (wrap64 (x14+1)) x580000) else (some false)) else (none)) else (none)) else (none)))) else ((impl_IsClean.f x12).bind fun t610=>(if t610=true then (if 8<(x12.length:Int) then (if 8<(x4.length:Int) then (if (rd x12 8)=(rd x4 8) then ((impl_MemSent.f x12).bind fun t613=>((impl_MemSent.f x4).bind fun t616=>((laws_sameInts.f k t613 t616).bind fun t619=>(if t619=true then ((impl_MemOk.f k x580000 x11).bind fun t620=>(some t620)) else (some false))))) else (some false)) else (none)) else (none)) else (some false)))
end
def laws_FnRollback.f (k:Nat) (l0:List Int):Option (Bool):=(laws_big.f l0).bind fun t572=>(if t572=true then (some true) else (laws_FnRollback.j0 k l0))
def laws_FnRollback.T19:Bool×List (List Nat×List Nat):=(true,[([],[]),([],[]),([0,1],[0,1]),([2],[2]),([3,2],[3]),([4],[4]),([4],[4]),([5,6,4],[4,5,6]),([7,4],[4,7]),([4],[4]),([4],[4]),([9,10,4],[4,9,10]),([11,4],[4,11]),([8,12,4],[4,8,12]),([4,13],[4,13])])
def laws_FnRollback.B19:List Nat:=[0,0,3,7,15,31,31,127,255,31,31,1567,3615,8191,16383]
theorem laws_FnRollback.tab19:rtab .any (opsOf Tryz.f4 19)=laws_FnRollback.T19:=by kernel_rfl
theorem laws_FnRollback.bits19:waitsOk laws_FnRollback.T19.2 laws_FnRollback.B19=true:=by kernel_rfl
def laws_FnRollback.T21:Bool×List (List Nat×List Nat):=(true,[([],[]),([0],[0]),([1,1],[1]),([2],[2]),([3,2],[2,3]),([4,2],[2,4]),([2],[2]),([6,2],[2,6]),([7,2],[2,7]),([5,8,2],[2,5,8]),([2,9],[2,9]),([10,2],[10]),([11],[11]),([12,11,11],[11,12]),([11],[11]),([14,13,11],[11,14]),([13,15,15,11],[11,13,15]),([11,16],[11,16]),([17,16],[17]),([18],[18]),([18],[18]),([19,20,18,18],[18,19,20]),([18,21],[18,21]),([22,21,0,1,2,3,4,5,6,7,8,9,10,11,12,13,14,15,16,17,18,19,20,21,22],[22])])
def laws_FnRollback.B21:List Nat:=[0,1,3,7,15,31,7,71,199,511,1023,2047,4095,8191,4095,32767,65535,131071,262143,524287,524287,2097151,4194303,8388607]
theorem laws_FnRollback.tab21:rtab .any (opsOf Tryz.f4 21)=laws_FnRollback.T21:=by kernel_rfl
theorem laws_FnRollback.bits21:waitsOk laws_FnRollback.T21.2 laws_FnRollback.B21=true:=by kernel_rfl
set_option maxHeartbeats 8000000 in
set_option maxRecDepth 100000 in
theorem laws_FnRollback.calls (k:Nat) (A0:Option Addr) (c0:Nat) (l0:List Int) (r:Bool) (w:World) (hr0:Kd.C (Kd.int .u8) w A0 l0.length l0) (hc0:l0.length≤c0) (h:laws_FnRollback.f k l0=some r) (hT:Aside0 (r=true)):
  Calls Tryz.prog 4 #[.slice A0 l0.length c0] w fun e w'=>e= .returned (.bool r)∧Below w.heap.size w w':=by
 have hu26:=Tryz.underlying26
 have hu33:=Tryz.underlying33
 have HR0:=Za hr0
 have HC0:=Za hc0
 clear hr0 hc0
 have HB:=Za (Yb w.heap.size w)
 have H:((laws_big.f l0).bind fun t572=>(if t572=true then (some true) else (laws_FnRollback.j0 k l0)))=some r:=h
 clear h
 replace H:=Zg H
 obtain⟨t572,A20,H⟩:=H
 replace H:(if t572=true then (some true) else (laws_FnRollback.j0 k l0))=some r:=H
 have A2:=Za A20
 clear A20
 have HC3:=Za H
 clear H
 go_enter Tryz.func4,Tryz.ntmps4
 go_upto_if 16 with(first|((first|((with_reducible refine gate_callee (f:=7) rfl ?_);refine goesL_ (some 16) rfl rfl Tryz.func7 z10_10 rfl #[.slice A0 l0.length c0] rfl z10_1 ?_;(with_reducible refine(laws_big.calls _ _ l0 t572 _ ?side1 ?side2 A2.out).mono ?_))|(go_at_call 7;(with_reducible refine(laws_big.calls _ _ l0 t572 _ ?side1 ?side2 A2.out).mono ?_)));(case side1=>repeat(first|exact HR0.out|(with_reducible refine Yk ?_ _)|(with_reducible refine Yi ?_ _)|(with_reducible refine Yl ?_)));(case side2=>exact HC0.out);rintro e w' ⟨rfl,⟨nd,rfl⟩⟩;(first|refine⟨_,rfl,?_⟩|skip)))
 (try simp only[Act.put,Zs,Zt,Zu])
 go_cut [] (fun wc=>∃(kq:Nat),Aside0 (laws_FnRollback.j0 kq l0=some r)∧Aside0 (kq≤k)∧Aside0 (Below w.heap.size w wc))
 case first=>
  have H:=HC3.out
  clear HC3
  by_cases c4:t572=true
  ·subst c4
   rw[if_pos rfl] at H
   obtain rfl:=Zn H
   go_wp2
   go_ret
   exact⟨by first|rfl|(simp[errW_none,errW_some]<;>rfl)|(simp[*,errW_none,errW_some]<;>rfl)|(simp[*,errW_none,errW_some,i64_w];done),by repeat(first|(with_reducible first|exact HB.out|apply Zh|apply Zf|apply Ze)|exact HB.out)⟩
  ·replace c4:=Bool.eq_false_iff.mpr c4
   subst c4
   rw[if_neg (show ¬(false=true) by decide)] at H
   have H':=Za H
   clear H
   go_wp2
   go_meet
   case rel=>exact⟨_,H',⟨by first|omega|exact Nat.le_refl _⟩,⟨by repeat(first|(with_reducible first|exact HB.out|apply Zh|apply Zf|apply Ze)|exact HB.out)⟩⟩
 case rest=>
  clear HC3
  obtain⟨kq,HA,HJ2,HB⟩:=hcut
  cases kq with
  |zero=>exact absurd HA.out (by simp[laws_FnRollback.j0])
  |succ kj2=>
   have H:=HA.out
   clear HA
   simp only[laws_FnRollback.j0] at H
   replace H:=Zg H
   obtain⟨⟨t573,t576⟩,A50,H⟩:=H
   replace H:((spec_DrawReadings.f kj2 l0).bind fun t580=>((impl_TraceOf.f kj2 t573 t576 t580 0).bind fun bt583=>((impl_WritesOf.f kj2 bt583.1 bt583.2.1).bind fun t591=>((spec_DrawPlaces.f kj2 l0).bind fun t594=>(if bt583.2.2=true then (laws_FnRollback.j1 kj2 t576 t591 t594 ((t591.length:Int)==0) t573) else (laws_FnRollback.j1 kj2 t576 t591 t594 true t573))))))=some r:=H
   have A5:=Za A50
   clear A50
   replace H:=Zg H
   obtain⟨t580,A60,H⟩:=H
   replace H:((impl_TraceOf.f kj2 t573 t576 t580 0).bind fun bt583=>((impl_WritesOf.f kj2 bt583.1 bt583.2.1).bind fun t591=>((spec_DrawPlaces.f kj2 l0).bind fun t594=>(if bt583.2.2=true then (laws_FnRollback.j1 kj2 t576 t591 t594 ((t591.length:Int)==0) t573) else (laws_FnRollback.j1 kj2 t576 t591 t594 true t573)))))=some r:=H
   have A6:=Za A60
   clear A60
   replace H:=Zg H
   obtain⟨⟨t583,t586,t589⟩,A70,H⟩:=H
   replace H:((impl_WritesOf.f kj2 t583 t586).bind fun t591=>((spec_DrawPlaces.f kj2 l0).bind fun t594=>(if t589=true then (laws_FnRollback.j1 kj2 t576 t591 t594 ((t591.length:Int)==0) t573) else (laws_FnRollback.j1 kj2 t576 t591 t594 true t573))))=some r:=H
   have A7:=Za A70
   clear A70
   replace H:=Zg H
   obtain⟨t591,A80,H⟩:=H
   replace H:((spec_DrawPlaces.f kj2 l0).bind fun t594=>(if t589=true then (laws_FnRollback.j1 kj2 t576 t591 t594 ((t591.length:Int)==0) t573) else (laws_FnRollback.j1 kj2 t576 t591 t594 true t573)))=some r:=H
   have A8:=Za A80
   clear A80
   replace H:=Zg H
   obtain⟨t594,A90,H⟩:=H
   replace H:(if t589=true then (laws_FnRollback.j1 kj2 t576 t591 t594 ((t591.length:Int)==0) t573) else (laws_FnRollback.j1 kj2 t576 t591 t594 true t573))=some r:=H
   have A9:=Za A90
   clear A90
   have HC10:=Za H
   clear H
   go_upto_region 8 with(first|((first|((with_reducible refine gate_callee (f:=8) rfl ?_);refine goesL_ (some 19) rfl rfl Tryz.func8 z10_10 rfl #[.slice A0 l0.length c0] rfl z10_1 ?_;(with_reducible refine(spec_DrawMemory.calls kj2 _ _ l0 t573 t576 _ ?side1 ?side2 A5.out).mono ?_))|(go_at_call 8;(with_reducible refine(spec_DrawMemory.calls kj2 _ _ l0 t573 t576 _ ?side1 ?side2 A5.out).mono ?_)));(case side1=>repeat(first|exact(Yh HR0.out HB.out)|(with_reducible refine Yk ?_ _)|(with_reducible refine Yi ?_ _)|(with_reducible refine Yl ?_)));(case side2=>exact HC0.out);rintro e w11 ⟨v574,v577,rfl,ho0,ho1,hb⟩;(first|refine⟨_,rfl,?_⟩|skip);have HO575:=Za (Kd.S_lower ho0 (Yf z10_7));have HO578:=Za (Yr ho1 (Yf z10_7));replace HB:=Za (Zk z10_7 hb);(try clear hb);(try clear hb2);(try clear hk);(try clear hi);(try clear ho0);(try clear ho1))|((with_reducible refine Zr (N:=3) rfl ?_);(try(refine gate_guard (by rfl) ?_;dsimp only));refine Zy ?hg (N:=3) ?hd (cs:= #[.slice none 0 0]) (t:=26) ?hr ?_;(case hd=>rfl);(case hg=>rfl);(case hr=>first|(go_simp;done)|(go_simp;rfl));intro gb579 hg w12 hbox hb;replace HO575:=Za (Kd.S_below z10_19 hb);replace HO578:=Za (Kd.R_below z10_13 hb);have BK579:=Za (hbox);have GW579:=Za ((by rw[hg];exact(Yf z10_7):w.heap.size≤gb579));have GE579:=Za ((by rw[hg];exact(Yf z10_7):w.heap.size≤gb579));replace HB:=Za (Zk z10_7 hb);clear hb hbox hg;obtain⟨Ao13,co13,eo13⟩:=Kd.S_slice HO575.out;subst eo13;have hcz14_0:w12.cell? ⟨gb579,0,none⟩=some (.slice none 0 0):=(Zb BK579.out 0).trans rfl;have hfz14_0:=Zc BK579.out 0)|((first|((with_reducible refine gate_callee (f:=9) rfl ?_);refine goesL_ (some 23) rfl rfl Tryz.func9 z10_10 rfl #[.slice A0 l0.length c0] rfl z10_1 ?_;(with_reducible refine(spec_DrawReadings.calls kj2 _ _ l0 t580 _ ?side1 ?side2 A6.out).mono ?_))|(go_at_call 9;(with_reducible refine(spec_DrawReadings.calls kj2 _ _ l0 t580 _ ?side1 ?side2 A6.out).mono ?_)));(case side1=>exact Yh HR0.out z10_2);(case side2=>exact HC0.out);rintro e w15 ⟨v581,rfl,ho0,hb⟩;(first|refine⟨_,rfl,?_⟩|skip);replace HO575:=Za (Kd.S_below (by(with_reducible repeat(first|apply Kd.S_alloc|apply Kd.S_drewN|apply Kd.S_drew));exact(Kd.S_mono (Kd.S_far (p:=⟨gb579,0,none⟩) (Kd.S_types HO575.out BK579.out (by decide)) (fun _ hk=>hk.2) (.slice Ao13 t573.length co13)) (fun _ h_=>h_.1))) hb);have HO582:=Za (Yr (Kd.R_new' ho0 (Kd.R_lt z10_22)) (Yf z10_2));replace HO578:=Za (Ys z10_22 (Ye ho0) hb);replace BK579:=Za (Zi (g:=gb579) (o:= .cells #[.slice Ao13 t573.length co13] 26 (0,0)) (by(with_reducible repeat(first|refine blk_drewN ?_ _|refine blk_drew ?_|refine blk_alloc ?_ _));refine blk_put (cs:= #[.slice none 0 0]) ?_ 0 _ rfl;(with_reducible repeat(first|refine blk_drewN ?_ _|refine blk_drew ?_|refine blk_alloc ?_ _));exact BK579.out) hb);replace HB:=Za (Zk z10_2 hb);(try clear hb);(try clear hb2);(try clear hk);(try clear hi);(try clear ho0);have hcz16_0:w15.cell? ⟨gb579,0,none⟩=some (.slice Ao13 t573.length co13):=(Zb BK579.out 0).trans rfl;have hfz16_0:=Zc BK579.out 0;obtain⟨Ao17,co17,eo17⟩:=Yn HO578.out;subst eo17;obtain⟨Ao18,co18,eo18⟩:=Yn HO582.out;subst eo18)|((first|((with_reducible refine gate_callee (f:=10) rfl ?_);refine goesL_ (some 28) rfl rfl Tryz.func10 z10_10 rfl #[.agg #[.slice Ao13 t573.length co13],.slice Ao17 t576.length co17,.slice Ao18 t580.length co18,.int .i64 0] rfl z10_1 ?_;(with_reducible refine(impl_TraceOf.calls kj2 _ _ t573 _ _ t576 _ _ t580 0 t583 t586 t589 _ ?side1 ?side2 ?side3 ?side4 ?side5 ?side6 A7.out).mono ?_))|(go_at_call 10;(with_reducible refine(impl_TraceOf.calls kj2 _ _ t573 _ _ t576 _ _ t580 0 t583 t586 t589 _ ?side1 ?side2 ?side3 ?side4 ?side5 ?side6 A7.out).mono ?_)));(case side1=>repeat(first|exact(Kd.S_reads' HO575.out).2.2|(with_reducible refine Yk ?_ _)|(with_reducible refine Yi ?_ _)|(with_reducible refine Yl ?_)));(case side2=>exact(Kd.S_reads' HO575.out).2.1);(case side3=>repeat(first|exact(Ym HO578.out).2.2|(with_reducible refine Yk ?_ _)|(with_reducible refine Yi ?_ _)|(with_reducible refine Yl ?_)));(case side4=>exact(Ym HO578.out).2.1);(case side5=>repeat(first|exact(Ym HO582.out).2.2|(with_reducible refine Yk ?_ _)|(with_reducible refine Yi ?_ _)|(with_reducible refine Yl ?_)));(case side6=>exact(Ym HO582.out).2.1);rintro e w19 ⟨v584,v587,rfl,ho0,ho1,hb⟩;(first|refine⟨_,rfl,?_⟩|skip);replace HO575:=Za (Kd.S_below z10_19 hb);have HO585:=Za (Yr ho0 (Yf z10_2));have HO588:=Za (Yr (Kd.R_new' (Kd.R_new' ho1 (Kd.R_lt z10_13)) (Kd.R_lt z10_15)) (Yf z10_2));replace HO578:=Za (Ys z10_13 (Ye ho1) hb);replace HO582:=Za (Ys z10_15 (Ye ho1) hb);replace BK579:=Za (Zi (g:=gb579) (o:= .cells #[.slice Ao13 t573.length co13] 26 (0,0)) z10_3 hb);replace HB:=Za (Zk z10_2 hb);(try clear hb);(try clear hb2);(try clear hk);(try clear hi);(try clear ho0);(try clear ho1))|((with_reducible refine Zr (N:=6) rfl ?_);(try(refine gate_guard (by rfl) ?_;dsimp only));refine Zy ?hg (N:=6) ?hd (cs:= #[.slice none 0 0,.slice none 0 0]) (t:=33) ?hr ?_;(case hd=>rfl);(case hg=>rfl);(case hr=>first|(go_simp;done)|(go_simp;rfl));intro gb590 hg w20 hbox hb;replace HO575:=Za (Kd.S_below z10_19 hb);replace HO578:=Za (Kd.R_below z10_13 hb);replace HO582:=Za (Kd.R_below z10_15 hb);replace HO585:=Za (Kd.R_below (by(with_reducible repeat(first|apply Zm|apply Zl|apply Zj));exact HO585.out) hb);replace HO588:=Za (Kd.R_below (by(with_reducible repeat(first|apply Zm|apply Zl|apply Zj));exact HO588.out) hb);have BK590:=Za (hbox);have GW590:=Za ((by rw[hg];exact(Yf z10_2):w.heap.size≤gb590));have GE590:=Za ((by rw[hg];exact(Yf z10_2):w.heap.size≤gb590));replace HB:=Za (Zk z10_2 hb);have NB579_590:=Za ((by rw[hg];exact Nat.ne_of_lt (blk_lt (g:=gb579) (o:= .cells #[.slice Ao13 t573.length co13] 26 (0,0)) z10_3):gb579≠gb590));have NB590_579:=Za ((by rw[hg];exact Nat.ne_of_gt (blk_lt (g:=gb579) (o:= .cells #[.slice Ao13 t573.length co13] 26 (0,0)) z10_3):gb590≠gb579));replace BK579:=Za (Zi (g:=gb579) (o:= .cells #[.slice Ao13 t573.length co13] 26 (0,0)) z10_3 hb);clear hb hbox hg;obtain⟨Ao21,co21,eo21⟩:=Yn HO585.out;subst eo21;have hnb22:=NB590_579.out;have hnc22:=NB579_590.out;have hcz23_0:w20.cell? ⟨gb590,0,none⟩=some (.slice none 0 0):=(Zb BK590.out 0).trans rfl;have hcz23_1:w20.cell? ⟨gb590,1,none⟩=some (.slice none 0 0):=(Zb BK590.out 1).trans rfl;have hfz23_0:=Zc BK590.out 0;have hfz23_1:=Zc BK590.out 1;obtain⟨Ao24,co24,eo24⟩:=Yn HO588.out;subst eo24)|((first|((with_reducible refine gate_callee (f:=11) rfl ?_);refine goesL_ (some 32) rfl rfl Tryz.func11 z10_10 rfl #[.agg #[.slice Ao21 t583.length co21,.slice Ao24 t586.length co24]] rfl z10_1 ?_;(with_reducible refine(impl_WritesOf.calls kj2 _ _ t583 _ _ t586 t591 _ ?side1 ?side2 ?side3 ?side4 A8.out).mono ?_))|(go_at_call 11;(with_reducible refine(impl_WritesOf.calls kj2 _ _ t583 _ _ t586 t591 _ ?side1 ?side2 ?side3 ?side4 A8.out).mono ?_)));(case side1=>refine(Ym (e:=64) (base:=w.heap.size) (ok:=fun k_=>True) (n:=t583.length) (c:=co21) ?_).2.2;exact z10_18);(case side2=>exact(Ym HO585.out).2.1);(case side3=>refine(Ym (e:=3) (base:=w.heap.size) (ok:=fun k_=>((True∧some k_≠(.slice Ao17 t576.length co17:Value).ownBlock)∧some k_≠(.slice Ao18 t580.length co18:Value).ownBlock)) (n:=t586.length) (c:=co24) ?_).2.2;exact z10_17);(case side4=>exact(Ym HO588.out).2.1);rintro e w25 ⟨v592,rfl,ho0,hb⟩;(first|refine⟨_,rfl,?_⟩|skip);replace HO575:=Za (Kd.S_below (by(with_reducible repeat(first|apply Kd.S_alloc|apply Kd.S_drewN|apply Kd.S_drew));exact(Kd.S_mono (Kd.S_far (p:=⟨gb590,1,none⟩) (Kd.S_far (p:=⟨gb590,0,none⟩) (Kd.S_types HO575.out BK590.out (by decide)) (fun _ hk=>hk.2) (.slice Ao21 t583.length co21)) (fun _ hk=>hk.2) (.slice Ao24 t586.length co24)) (fun _ h_=>h_.1))) hb);replace HO578:=Za (Kd.R_below (by(with_reducible repeat(first|apply Zm|apply Zl|apply Zj));exact(Yc (Kd.R_far (p:=⟨gb590,1,none⟩) (Kd.R_far (p:=⟨gb590,0,none⟩) (Kd.R_types HO578.out BK590.out (by decide)) (fun _ hk=>hk.2) (.slice Ao21 t583.length co21)) (fun _ hk=>hk.2) (.slice Ao24 t586.length co24)) (fun _ h_=>h_.1))) hb);replace HO582:=Za (Kd.R_below (by(with_reducible repeat(first|apply Zm|apply Zl|apply Zj));exact(Yc (Kd.R_far (p:=⟨gb590,1,none⟩) (Kd.R_far (p:=⟨gb590,0,none⟩) (Kd.R_types HO582.out BK590.out (by decide)) (fun _ hk=>hk.2) (.slice Ao21 t583.length co21)) (fun _ hk=>hk.2) (.slice Ao24 t586.length co24)) (fun _ h_=>h_.1))) hb);replace HO585:=Za (Kd.R_below z10_18 hb);replace HO588:=Za (Kd.R_below z10_17 hb);have HO593:=Za (Yr ho0 (Yf z10_0));replace BK579:=Za (Zi (g:=gb579) (o:= .cells #[.slice Ao13 t573.length co13] 26 (0,0)) (by(with_reducible repeat(first|refine blk_drewN ?_ _|refine blk_drew ?_|refine blk_alloc ?_ _));refine blk_far ?_ NB579_590.out _;(with_reducible repeat(first|refine blk_drewN ?_ _|refine blk_drew ?_|refine blk_alloc ?_ _));refine blk_far ?_ NB579_590.out _;(with_reducible repeat(first|refine blk_drewN ?_ _|refine blk_drew ?_|refine blk_alloc ?_ _));exact BK579.out) hb);replace BK590:=Za (Zi (g:=gb590) (o:= .cells #[.slice Ao21 t583.length co21,.slice Ao24 t586.length co24] 33 (0,0)) (by(with_reducible repeat(first|refine blk_drewN ?_ _|refine blk_drew ?_|refine blk_alloc ?_ _));refine blk_put (cs:= #[.slice Ao21 t583.length co21,.slice none 0 0]) ?_ 1 _ rfl;(with_reducible repeat(first|refine blk_drewN ?_ _|refine blk_drew ?_|refine blk_alloc ?_ _));refine blk_put (cs:= #[.slice none 0 0,.slice none 0 0]) ?_ 0 _ rfl;(with_reducible repeat(first|refine blk_drewN ?_ _|refine blk_drew ?_|refine blk_alloc ?_ _));exact BK590.out) hb);replace HB:=Za (Zk z10_0 hb);(try clear hb);(try clear hb2);(try clear hk);(try clear hi);(try clear ho0))|((first|((with_reducible refine gate_callee (f:=12) rfl ?_);refine goesL_ (some 34) rfl rfl Tryz.func12 z10_10 rfl #[.slice A0 l0.length c0] rfl z10_1 ?_;(with_reducible refine(spec_DrawPlaces.calls kj2 _ _ l0 t594 _ ?side1 ?side2 A9.out).mono ?_))|(go_at_call 12;(with_reducible refine(spec_DrawPlaces.calls kj2 _ _ l0 t594 _ ?side1 ?side2 A9.out).mono ?_)));(case side1=>repeat(first|exact(Yh HR0.out HB.out)|(with_reducible refine Yk ?_ _)|(with_reducible refine Yi ?_ _)|(with_reducible refine Yl ?_)));(case side2=>exact HC0.out);rintro e w26 ⟨v595,rfl,ho0,hb⟩;(first|refine⟨_,rfl,?_⟩|skip);replace HO575:=Za (Kd.S_below z10_19 hb);replace HO585:=Za (Kd.R_below (by(with_reducible repeat(first|apply Zm|apply Zl|apply Zj));exact HO585.out) hb);replace HO593:=Za (Kd.R_below (by(with_reducible repeat(first|apply Zm|apply Zl|apply Zj));exact HO593.out) hb);have HO596:=Za (Yr (Kd.R_new' (Kd.R_new' (Kd.R_new' ho0 (Kd.R_lt z10_13)) (Kd.R_lt z10_15)) (Kd.R_lt (by(with_reducible repeat(first|apply Zm|apply Zl|apply Zj));exact HO588.out))) (Yf z10_0));replace HO578:=Za (Ys z10_13 (Ye ho0) hb);replace HO582:=Za (Ys z10_15 (Ye ho0) hb);replace HO588:=Za (Ys (by(with_reducible repeat(first|apply Zm|apply Zl|apply Zj));exact HO588.out) (Ye ho0) hb);replace BK579:=Za (Zi (g:=gb579) (o:= .cells #[.slice Ao13 t573.length co13] 26 (0,0)) z10_3 hb);replace BK590:=Za (Zi (g:=gb590) (o:= .cells #[.slice Ao21 t583.length co21,.slice Ao24 t586.length co24] 33 (0,0)) z10_6 hb);replace HB:=Za (Zk z10_0 hb);(try clear hb);(try clear hb2);(try clear hk);(try clear hi);(try clear ho0)))
   (try simp only[Act.put,Zs,Zt,Zu])
   go_cut [41] (fun v41 wc=>∃(kq:Nat) (x41_9:Bool),v41= .bool x41_9∧Aside0 (laws_FnRollback.j1 kq t576 t591 t594 x41_9 t573=some r)∧Aside0 (kq≤kj2)∧Aside0 (Kd.R (Kd.int .i64) 3 wc w.heap.size (fun k_=>some k_≠(v595:Value).ownBlock∧some k_≠((.slice Ao24 t586.length co24):Value).ownBlock) (.slice Ao17 t576.length co17) t576)∧Aside0 (Kd.R k66 66 wc w.heap.size (fun _=>True) v592 t591)∧Aside0 (Kd.R (Kd.int .i64) 3 wc w.heap.size (fun k_=>some k_≠((.slice Ao17 t576.length co17):Value).ownBlock∧some k_≠((.slice Ao24 t586.length co24):Value).ownBlock) v595 t594)∧Aside0 (Kd.S k74 74 wc w.heap.size (fun _=>True) (.slice Ao13 t573.length co13) t573)∧Aside0 (Kd.R k64 64 wc w.heap.size (fun _=>True) (.slice Ao21 t583.length co21) t583)∧Aside0 (Kd.R (Kd.int .i64) 3 wc w.heap.size (fun k_=>some k_≠((.slice Ao17 t576.length co17):Value).ownBlock∧some k_≠(v595:Value).ownBlock) (.slice Ao24 t586.length co24) t586)∧Aside0 (wc.heap[gb579]? =some (.cells #[(.slice Ao13 t573.length co13)] 26 (0,0)))∧Aside0 (wc.heap[gb590]? =some (.cells #[(.slice Ao21 t583.length co21),(.slice Ao24 t586.length co24)] 33 (0,0)))∧Aside0 (Below w.heap.size w wc))
   case first=>
    have H:=HC10.out
    clear HC10
    by_cases c27:t589=true
    ·subst c27
     rw[if_pos rfl] at H
     have H':=Za H
     clear H
     obtain⟨Ao28,co28,eo28⟩:=Yn HO593.out
     subst eo28
     go_wp2
     go_meet
     case rel=>exact⟨_,(((t591.length:Int)==0)),(by first|rfl|(simp;done)|(simp[*];done)),H',⟨by have:=HJ2.out;first|omega|exact Nat.le_refl _⟩,⟨by(with_reducible repeat(first|apply Zm|apply Zl|apply Zj));exact Yc HO578.out (fun _ hk=>⟨hk.2,hk.1.2⟩)⟩,⟨by(with_reducible repeat(first|apply Zm|apply Zl|apply Zj));exact HO593.out⟩,⟨by(with_reducible repeat(first|apply Zm|apply Zl|apply Zj));exact Yc HO596.out (fun _ hk=>⟨hk.1.1.2,hk.2⟩)⟩,⟨by(with_reducible repeat(first|apply Kd.S_alloc|apply Kd.S_drewN|apply Kd.S_drew));exact HO575.out⟩,⟨by(with_reducible repeat(first|apply Zm|apply Zl|apply Zj));exact HO585.out⟩,⟨by(with_reducible repeat(first|apply Zm|apply Zl|apply Zj));exact Yc HO588.out (fun _ hk=>⟨hk.1.1.2,hk.2⟩)⟩,⟨by(with_reducible repeat(first|refine blk_drewN ?_ _|refine blk_drew ?_|refine blk_alloc ?_ _));exact BK579.out⟩,⟨by(with_reducible repeat(first|refine blk_drewN ?_ _|refine blk_drew ?_|refine blk_alloc ?_ _));exact BK590.out⟩,⟨by repeat(first|(with_reducible first|exact HB.out|apply Zh|apply Zf|apply Ze|refine Zd ?_ GE579.out|refine Zd ?_ GE590.out)|exact HB.out)⟩⟩
    ·replace c27:=Bool.eq_false_iff.mpr c27
     subst c27
     rw[if_neg (show ¬(false=true) by decide)] at H
     have H':=Za H
     clear H
     go_wp2
     go_meet
     case rel=>exact⟨_,(true),(by first|rfl|(simp;done)|(simp[*];done)),H',⟨by have:=HJ2.out;first|omega|exact Nat.le_refl _⟩,⟨by(with_reducible repeat(first|apply Zm|apply Zl|apply Zj));exact Yc HO578.out (fun _ hk=>⟨hk.2,hk.1.2⟩)⟩,⟨by(with_reducible repeat(first|apply Zm|apply Zl|apply Zj));exact HO593.out⟩,⟨by(with_reducible repeat(first|apply Zm|apply Zl|apply Zj));exact Yc HO596.out (fun _ hk=>⟨hk.1.1.2,hk.2⟩)⟩,⟨by(with_reducible repeat(first|apply Kd.S_alloc|apply Kd.S_drewN|apply Kd.S_drew));exact HO575.out⟩,⟨by(with_reducible repeat(first|apply Zm|apply Zl|apply Zj));exact HO585.out⟩,⟨by(with_reducible repeat(first|apply Zm|apply Zl|apply Zj));exact Yc HO588.out (fun _ hk=>⟨hk.1.1.2,hk.2⟩)⟩,⟨by(with_reducible repeat(first|refine blk_drewN ?_ _|refine blk_drew ?_|refine blk_alloc ?_ _));exact BK579.out⟩,⟨by(with_reducible repeat(first|refine blk_drewN ?_ _|refine blk_drew ?_|refine blk_alloc ?_ _));exact BK590.out⟩,⟨by repeat(first|(with_reducible first|exact HB.out|apply Zh|apply Zf|apply Ze|refine Zd ?_ GE579.out|refine Zd ?_ GE590.out)|exact HB.out)⟩⟩
   case rest=>
    clear HC10
    (try clear hcz14_0);(try clear hcz16_0);(try clear hcz23_0);(try clear hcz23_1);(try clear hfz14_0);(try clear hfz16_0);(try clear hfz23_0);(try clear hfz23_1)
    obtain⟨kq,x41_9,rfl,HA,HJ9,HO_4,HO_8,HO_9,HO_580000,HO_591000,HO_591001,BK579,BK590,HB⟩:=hcut
    cases kq with
    |zero=>exact absurd HA.out (by simp[laws_FnRollback.j1])
    |succ kj9=>
     have H:=HA.out
     clear HA
     simp only[laws_FnRollback.j1] at H
     have HC29:=Za H
     clear H
     go_upto_if 41 with(fail)
     go_cut [] (fun wc=>∃(kq:Nat),Aside0 (laws_FnRollback.j2 kq t576 t591 t594 t573=some r)∧Aside0 (kq≤kj9)∧Aside0 (Kd.R (Kd.int .i64) 3 wc w.heap.size (fun k_=>some k_≠(v595:Value).ownBlock∧some k_≠((.slice Ao24 t586.length co24):Value).ownBlock) (.slice Ao17 t576.length co17) t576)∧Aside0 (Kd.R k66 66 wc w.heap.size (fun _=>True) v592 t591)∧Aside0 (Kd.R (Kd.int .i64) 3 wc w.heap.size (fun k_=>some k_≠((.slice Ao17 t576.length co17):Value).ownBlock∧some k_≠((.slice Ao24 t586.length co24):Value).ownBlock) v595 t594)∧Aside0 (Kd.S k74 74 wc w.heap.size (fun _=>True) (.slice Ao13 t573.length co13) t573)∧Aside0 (Kd.R k64 64 wc w.heap.size (fun _=>True) (.slice Ao21 t583.length co21) t583)∧Aside0 (Kd.R (Kd.int .i64) 3 wc w.heap.size (fun k_=>some k_≠((.slice Ao17 t576.length co17):Value).ownBlock∧some k_≠(v595:Value).ownBlock) (.slice Ao24 t586.length co24) t586)∧Aside0 (wc.heap[gb579]? =some (.cells #[(.slice Ao13 t573.length co13)] 26 (0,0)))∧Aside0 (wc.heap[gb590]? =some (.cells #[(.slice Ao21 t583.length co21),(.slice Ao24 t586.length co24)] 33 (0,0)))∧Aside0 (Below w.heap.size w wc))
     case first=>
      have H:=HC29.out
      clear HC29
      by_cases c30:x41_9=true
      ·subst c30
       rw[if_pos rfl] at H
       exact absurd (hT.out.symm.trans (Zn H).symm) (by decide)
      ·replace c30:=Bool.eq_false_iff.mpr c30
       subst c30
       rw[if_neg (show ¬(false=true) by decide)] at H
       have H':=Za H
       clear H
       go_wp2
       go_meet
       case rel=>exact⟨_,H',⟨by have:=HJ2.out;have:=HJ9.out;first|omega|exact Nat.le_refl _⟩,⟨by(with_reducible repeat(first|apply Zm|apply Zl|apply Zj));exact HO_4.out⟩,⟨by(with_reducible repeat(first|apply Zm|apply Zl|apply Zj));exact HO_8.out⟩,⟨by(with_reducible repeat(first|apply Zm|apply Zl|apply Zj));exact HO_9.out⟩,⟨by(with_reducible repeat(first|apply Kd.S_alloc|apply Kd.S_drewN|apply Kd.S_drew));exact HO_580000.out⟩,⟨by(with_reducible repeat(first|apply Zm|apply Zl|apply Zj));exact HO_591000.out⟩,⟨by(with_reducible repeat(first|apply Zm|apply Zl|apply Zj));exact HO_591001.out⟩,⟨by(with_reducible repeat(first|refine blk_drewN ?_ _|refine blk_drew ?_|refine blk_alloc ?_ _));exact BK579.out⟩,⟨by(with_reducible repeat(first|refine blk_drewN ?_ _|refine blk_drew ?_|refine blk_alloc ?_ _));exact BK590.out⟩,⟨by repeat(first|(with_reducible first|exact HB.out|apply Zh|apply Zf|apply Ze|refine Zd ?_ GE579.out|refine Zd ?_ GE590.out)|exact HB.out)⟩⟩
     case rest=>
      clear HC29
      (try clear hcz14_0);(try clear hcz16_0);(try clear hcz23_0);(try clear hcz23_1);(try clear hfz14_0);(try clear hfz16_0);(try clear hfz23_0);(try clear hfz23_1)
      obtain⟨kq,HA,HJ28,HO_4,HO_8,HO_9,HO_580000,HO_591000,HO_591001,BK579,BK590,HB⟩:=hcut
      cases kq with
      |zero=>exact absurd HA.out (by simp[laws_FnRollback.j2])
      |succ kj28=>
       have H:=HA.out
       clear HA
       simp only[laws_FnRollback.j2] at H
       by_cases c31:0<(t594.length:Int)
       ·rw[if_pos c31] at H
        have c31b0:decide (0<(t594.length:Int))=true:=Zo c31
        have c31b1:decide (0<t594.length)=true:=Zo (by omega)
        clear c31
        by_cases c32:(t591.length:Int)=0
        ·rw[if_pos c32] at H
         exact absurd H (by simp)
        ·rw[if_neg c32] at H
         have c32b0:((t591.length:Int)==0)=false:=beq_eq_false_iff_ne.mpr c32
         have c32b1:((t591.length:Int) != 0)=true:=bne_iff_ne.mpr c32
         have c32b2:¬(t591=[]):=fun h_=>c32 (by rw[h_];rfl)
         replace H:=Zg H
         obtain⟨t598,A330,H⟩:=H
         replace H:((impl_Recovered.f kj28 t598).bind fun t601=>(if (t601.length:Int)=49 then (laws_FnRollback.j3 kj28 t576 t598 t601 t573) else (some false)))=some r:=H
         have A33:=Za A330
         clear A330
         replace H:=Zg H
         obtain⟨t601,A340,H⟩:=H
         replace H:(if (t601.length:Int)=49 then (laws_FnRollback.j3 kj28 t576 t598 t601 t573) else (some false))=some r:=H
         have A34:=Za A340
         clear A340
         have HC35:=Za H
         clear H
         obtain⟨Ao36,co36,eo36⟩:=Yn HO_9.out
         subst eo36
         have p597:0≤(0:Int):=(by omega)
         have q597:0<(t594.length:Int):=Zq z10_21
         obtain⟨ad597,e597,hx597_0⟩:=Kd.at_int (Ym HO_9.out).2.2 0 p597 q597
         cases e597
         have qi597:(0<t594.length)=True:=eq_true (by omega)
         (try rw[show((0:Int)).toNat=0 from rfl] at hx597_0)
         (try rw[Addr.add_zero'] at hx597_0)
         replace p597:=eq_true p597
         replace q597:=eq_true q597
         obtain⟨Ao37,co37,eo37⟩:=Yn HO_8.out
         subst eo37
         go_upto_if 56 with(first|((first|((with_reducible refine gate_callee (f:=13) rfl ?_);refine goesL_ (some 51) rfl rfl Tryz.func13 z10_10 rfl #[.slice Ao17 t576.length co17,.slice Ao37 t591.length co37,.int .i64 (Int.tmod (rd t594 0) (t591.length:Int))] rfl z10_1 ?_;(with_reducible refine(impl_ApplyWrites.calls kj28 _ _ t576 _ _ t591 (Int.tmod (rd t594 0) (t591.length:Int)) t598 _ ?side1 ?side2 ?side3 ?side4 A33.out).mono ?_))|(go_at_call 13;(with_reducible refine(impl_ApplyWrites.calls kj28 _ _ t576 _ _ t591 (Int.tmod (rd t594 0) (t591.length:Int)) t598 _ ?side1 ?side2 ?side3 ?side4 A33.out).mono ?_)));(case side1=>exact z10_16);(case side2=>exact(Ym HO_4.out).2.1);(case side3=>repeat(first|exact(Ym HO_8.out).2.2|(with_reducible refine Yk ?_ _)|(with_reducible refine Yi ?_ _)|(with_reducible refine Yl ?_)));(case side4=>exact(Ym HO_8.out).2.1);rintro e w38 ⟨v599,rfl,ho0,hb⟩;(first|refine⟨_,rfl,?_⟩|skip);replace HO_8:=Za (Kd.R_below (by(with_reducible repeat(first|apply Zm|apply Zl|apply Zj));exact HO_8.out) hb);replace HO_580000:=Za (Kd.S_below z10_11 hb);replace HO_591000:=Za (Kd.R_below z10_12 hb);have HO600:=Za (Yr (Kd.R_new' (Kd.R_new' (Kd.R_new' ho0 (Kd.R_lt z10_5)) (Kd.R_lt z10_20)) (Kd.R_lt z10_4)) (Yf z10_0));replace HO_4:=Za (Ys z10_5 (Ye ho0) hb);replace HO_9:=Za (Ys z10_20 (Ye ho0) hb);replace HO_591001:=Za (Ys z10_4 (Ye ho0) hb);replace BK579:=Za (Zi (g:=gb579) (o:= .cells #[.slice Ao13 t573.length co13] 26 (0,0)) z10_3 hb);replace BK590:=Za (Zi (g:=gb590) (o:= .cells #[.slice Ao21 t583.length co21,.slice Ao24 t586.length co24] 33 (0,0)) z10_6 hb);replace HB:=Za (Zk z10_0 hb);(try clear hb);(try clear hb2);(try clear hk);(try clear hi);(try clear ho0);obtain⟨Ao39,co39,eo39⟩:=Yn HO600.out;subst eo39)|((first|((with_reducible refine gate_callee (f:=16) rfl ?_);refine goesL_ (some 53) rfl rfl Tryz.func16 z10_10 rfl #[.slice Ao39 t598.length co39] rfl z10_1 ?_;(with_reducible refine(impl_Recovered.calls kj28 _ _ t598 t601 _ ?side1 ?side2 A34.out).mono ?_))|(go_at_call 16;(with_reducible refine(impl_Recovered.calls kj28 _ _ t598 t601 _ ?side1 ?side2 A34.out).mono ?_)));(case side1=>repeat(first|exact(Ym HO600.out).2.2|(with_reducible refine Yk ?_ _)|(with_reducible refine Yi ?_ _)|(with_reducible refine Yl ?_)));(case side2=>exact(Ym HO600.out).2.1);rintro e w40 ⟨v602,rfl,ho0,hb⟩;(first|refine⟨_,rfl,?_⟩|skip);replace HO_8:=Za (Kd.R_below (by(with_reducible repeat(first|apply Zm|apply Zl|apply Zj));exact HO_8.out) hb);replace HO_580000:=Za (Kd.S_below z10_11 hb);replace HO_591000:=Za (Kd.R_below z10_12 hb);have HO603:=Za (Yr (Kd.R_new' (Kd.R_new' (Kd.R_new' (Kd.R_new' ho0 (Kd.R_lt z10_5)) (Kd.R_lt z10_20)) (Kd.R_lt z10_4)) (Kd.R_lt (by(with_reducible repeat(first|apply Zm|apply Zl|apply Zj));exact HO600.out))) (Yf z10_0));replace HO_4:=Za (Ys z10_5 (Ye ho0) hb);replace HO_9:=Za (Ys z10_20 (Ye ho0) hb);replace HO_591001:=Za (Ys z10_4 (Ye ho0) hb);replace HO600:=Za (Ys (by(with_reducible repeat(first|apply Zm|apply Zl|apply Zj));exact HO600.out) (Ye ho0) hb);replace BK579:=Za (Zi (g:=gb579) (o:= .cells #[.slice Ao13 t573.length co13] 26 (0,0)) z10_3 hb);replace BK590:=Za (Zi (g:=gb590) (o:= .cells #[.slice Ao21 t583.length co21,.slice Ao24 t586.length co24] 33 (0,0)) z10_6 hb);replace HB:=Za (Zk z10_0 hb);(try clear hb);(try clear hb2);(try clear hk);(try clear hi);(try clear ho0);obtain⟨Ao41,co41,eo41⟩:=Yn HO603.out;subst eo41))
         (try simp only[Act.put,Zs,Zt,Zu])
         go_cut [] (fun wc=>∃(kq:Nat),Aside0 (laws_FnRollback.j3 kq t576 t598 t601 t573=some r)∧Aside0 (kq≤kj28)∧Aside0 (Kd.R (Kd.int .i64) 3 wc w.heap.size (fun k_=>some k_≠((.slice Ao39 t598.length co39):Value).ownBlock∧some k_≠((.slice Ao41 t601.length co41):Value).ownBlock∧some k_≠((.slice Ao24 t586.length co24):Value).ownBlock) (.slice Ao17 t576.length co17) t576)∧Aside0 (Kd.R (Kd.int .i64) 3 wc w.heap.size (fun k_=>some k_≠((.slice Ao17 t576.length co17):Value).ownBlock∧some k_≠((.slice Ao41 t601.length co41):Value).ownBlock∧some k_≠((.slice Ao24 t586.length co24):Value).ownBlock) (.slice Ao39 t598.length co39) t598)∧Aside0 (Kd.R (Kd.int .i64) 3 wc w.heap.size (fun k_=>some k_≠((.slice Ao17 t576.length co17):Value).ownBlock∧some k_≠((.slice Ao39 t598.length co39):Value).ownBlock∧some k_≠((.slice Ao24 t586.length co24):Value).ownBlock) (.slice Ao41 t601.length co41) t601)∧Aside0 (Kd.S k74 74 wc w.heap.size (fun _=>True) (.slice Ao13 t573.length co13) t573)∧Aside0 (Kd.R k64 64 wc w.heap.size (fun _=>True) (.slice Ao21 t583.length co21) t583)∧Aside0 (Kd.R (Kd.int .i64) 3 wc w.heap.size (fun k_=>some k_≠((.slice Ao17 t576.length co17):Value).ownBlock∧some k_≠((.slice Ao39 t598.length co39):Value).ownBlock∧some k_≠((.slice Ao41 t601.length co41):Value).ownBlock) (.slice Ao24 t586.length co24) t586)∧Aside0 (wc.heap[gb579]? =some (.cells #[(.slice Ao13 t573.length co13)] 26 (0,0)))∧Aside0 (wc.heap[gb590]? =some (.cells #[(.slice Ao21 t583.length co21),(.slice Ao24 t586.length co24)] 33 (0,0)))∧Aside0 (Below w.heap.size w wc))
         case first=>
          have H:=HC35.out
          clear HC35
          by_cases c42:(t601.length:Int)=49
          ·rw[if_pos c42] at H
           have c42b0:((t601.length:Int)==49)=true:=beq_iff_eq.mpr c42
           have c42b1:((t601.length:Int) != 49)=false:=bne_eq_false_iff_eq.mpr c42
           clear c42
           (first|rw[c42b0]|(simp only[i64_w,i32_w];rw[c42b0])|skip)
           have H':=Za H
           clear H
           go_wp2
           go_meet
           case rel=>exact⟨_,H',⟨by have:=HJ2.out;have:=HJ9.out;have:=HJ28.out;first|omega|exact Nat.le_refl _⟩,⟨by(with_reducible repeat(first|apply Zm|apply Zl|apply Zj));exact Yc HO_4.out (fun _ hk=>⟨hk.1.2,⟨hk.2,hk.1.1.2⟩⟩)⟩,⟨by(with_reducible repeat(first|apply Zm|apply Zl|apply Zj));exact Yc HO600.out (fun _ hk=>⟨hk.1.1.1.2,⟨hk.2,hk.1.2⟩⟩)⟩,⟨by(with_reducible repeat(first|apply Zm|apply Zl|apply Zj));exact Yc HO603.out (fun _ hk=>⟨hk.1.1.1.2,⟨hk.2,hk.1.2⟩⟩)⟩,⟨by(with_reducible repeat(first|apply Kd.S_alloc|apply Kd.S_drewN|apply Kd.S_drew));exact HO_580000.out⟩,⟨by(with_reducible repeat(first|apply Zm|apply Zl|apply Zj));exact HO_591000.out⟩,⟨by(with_reducible repeat(first|apply Zm|apply Zl|apply Zj));exact Yc HO_591001.out (fun _ hk=>⟨hk.1.1.1,⟨hk.1.2,hk.2⟩⟩)⟩,⟨by(with_reducible repeat(first|refine blk_drewN ?_ _|refine blk_drew ?_|refine blk_alloc ?_ _));exact BK579.out⟩,⟨by(with_reducible repeat(first|refine blk_drewN ?_ _|refine blk_drew ?_|refine blk_alloc ?_ _));exact BK590.out⟩,⟨by repeat(first|(with_reducible first|exact HB.out|apply Zh|apply Zf|apply Ze|refine Zd ?_ GE579.out|refine Zd ?_ GE590.out)|exact HB.out)⟩⟩
          ·rw[if_neg c42] at H
           have c42b0:((t601.length:Int)==49)=false:=beq_eq_false_iff_ne.mpr c42
           have c42b1:((t601.length:Int) != 49)=true:=bne_iff_ne.mpr c42
           (first|rw[c42b0]|(simp only[i64_w,i32_w];rw[c42b0])|skip)
           exact absurd (hT.out.symm.trans (Zn H).symm) (by decide)
         case rest=>
          clear HC35
          (try clear c31);(try clear c31b0);(try clear c31b1);(try clear c32);(try clear c32b0);(try clear c32b1);(try clear c32b2);(try clear hcz14_0);(try clear hcz16_0);(try clear hcz23_0);(try clear hcz23_1);(try clear hfz14_0);(try clear hfz16_0);(try clear hfz23_0);(try clear hfz23_1);(try clear hx597_0);(try clear p597);(try clear q597)
          obtain⟨kq,HA,HJ34,HO_4,HO_11,HO_12,HO_580000,HO_591000,HO_591001,BK579,BK590,HB⟩:=hcut
          cases kq with
          |zero=>exact absurd HA.out (by simp[laws_FnRollback.j3])
          |succ kj34=>
           have H:=HA.out
           clear HA
           simp only[laws_FnRollback.j3] at H
           replace H:=Zg H
           obtain⟨t604,A430,H⟩:=H
           replace H:(laws_FnRollback.l0 kj34 t576 t598 t601 t604 0 t573)=some r:=H
           have A43:=Za A430
           clear A430
           have H':=Za H
           clear H
           have hnb44:=NB579_590.out
           have hnc44:=NB590_579.out
           have hcz45_0:wc.cell? ⟨gb579,0,none⟩=some (.slice Ao13 t573.length co13):=(Zb BK579.out 0).trans rfl
           have hfz45_0:=Zc BK579.out 0
           go_wp2_with (first|((first|((with_reducible refine gate_callee (f:=19) rfl ?_);refine goesL_ (some 59) rfl rfl Tryz.func19 z10_10 rfl #[.agg #[.slice Ao13 t573.length co13],.slice Ao17 t576.length co17] rfl z10_1 ?_;(with_reducible refine(impl_DirtyVars.calls kj34 _ _ t573 _ _ t576 t604 _ ?side1 ?side2 ?side3 ?side4 A43.out).mono ?_))|(go_at_call 19;(with_reducible refine(impl_DirtyVars.calls kj34 _ _ t573 _ _ t576 t604 _ ?side1 ?side2 ?side3 ?side4 A43.out).mono ?_)));(case side1=>repeat(first|exact(Kd.S_reads' HO_580000.out).2.2|(with_reducible refine Yk ?_ _)|(with_reducible refine Yi ?_ _)|(with_reducible refine Yl ?_)));(case side2=>exact(Kd.S_reads' HO_580000.out).2.1);(case side3=>exact z10_16);(case side4=>exact(Ym HO_4.out).2.1);rintro e w46 ⟨v605,rfl,ho0,hb⟩;(first|refine⟨_,rfl,?_⟩|skip);replace HO_580000:=Za (Kd.S_below z10_11 hb);replace HO_591000:=Za (Kd.R_below z10_12 hb);have HO606:=Za (Yr (Kd.R_new' (Kd.R_new' (Kd.R_new' (Kd.R_new' ho0 (Kd.R_lt z10_5)) (Kd.R_lt z10_9)) (Kd.R_lt z10_8)) (Kd.R_lt z10_4)) (Yf z10_0));replace HO_4:=Za (Ys z10_5 (Ye ho0) hb);replace HO_11:=Za (Ys z10_9 (Ye ho0) hb);replace HO_12:=Za (Ys z10_8 (Ye ho0) hb);replace HO_591001:=Za (Ys z10_4 (Ye ho0) hb);replace BK579:=Za (Zi (g:=gb579) (o:= .cells #[.slice Ao13 t573.length co13] 26 (0,0)) z10_3 hb);replace BK590:=Za (Zi (g:=gb590) (o:= .cells #[.slice Ao21 t583.length co21,.slice Ao24 t586.length co24] 33 (0,0)) z10_6 hb);replace HB:=Za (Zk z10_0 hb);(try clear hb);(try clear hb2);(try clear hk);(try clear hi);(try clear ho0)))
           go_loopg [14] kj34 (fun kq v14 w'=>∃(x14_5:Int),v14= .int .i64 x14_5∧Aside0 (laws_FnRollback.l0 kq t576 t598 t601 t604 x14_5 t573=some r)∧Aside0 (kq≤kj34)∧Aside0 (Kd.R (Kd.int .i64) 3 w' w.heap.size (fun k_=>some k_≠((.slice Ao39 t598.length co39):Value).ownBlock∧some k_≠((.slice Ao41 t601.length co41):Value).ownBlock∧some k_≠(v605:Value).ownBlock∧some k_≠((.slice Ao24 t586.length co24):Value).ownBlock) (.slice Ao17 t576.length co17) t576)∧Aside0 (Kd.R (Kd.int .i64) 3 w' w.heap.size (fun k_=>some k_≠((.slice Ao17 t576.length co17):Value).ownBlock∧some k_≠((.slice Ao41 t601.length co41):Value).ownBlock∧some k_≠(v605:Value).ownBlock∧some k_≠((.slice Ao24 t586.length co24):Value).ownBlock) (.slice Ao39 t598.length co39) t598)∧Aside0 (Kd.R (Kd.int .i64) 3 w' w.heap.size (fun k_=>some k_≠((.slice Ao17 t576.length co17):Value).ownBlock∧some k_≠((.slice Ao39 t598.length co39):Value).ownBlock∧some k_≠(v605:Value).ownBlock∧some k_≠((.slice Ao24 t586.length co24):Value).ownBlock) (.slice Ao41 t601.length co41) t601)∧Aside0 (Kd.R (Kd.int .i64) 3 w' w.heap.size (fun k_=>some k_≠((.slice Ao17 t576.length co17):Value).ownBlock∧some k_≠((.slice Ao39 t598.length co39):Value).ownBlock∧some k_≠((.slice Ao41 t601.length co41):Value).ownBlock∧some k_≠((.slice Ao24 t586.length co24):Value).ownBlock) v605 t604)∧Aside0 (Kd.S k74 74 w' w.heap.size (fun _=>True) (.slice Ao13 t573.length co13) t573)∧Aside0 (Kd.R k64 64 w' w.heap.size (fun _=>True) (.slice Ao21 t583.length co21) t583)∧Aside0 (Kd.R (Kd.int .i64) 3 w' w.heap.size (fun k_=>some k_≠((.slice Ao17 t576.length co17):Value).ownBlock∧some k_≠((.slice Ao39 t598.length co39):Value).ownBlock∧some k_≠((.slice Ao41 t601.length co41):Value).ownBlock∧some k_≠(v605:Value).ownBlock) (.slice Ao24 t586.length co24) t586)∧Aside0 (w'.heap[gb579]? =some (.cells #[(.slice Ao13 t573.length co13)] 26 (0,0)))∧Aside0 (w'.heap[gb590]? =some (.cells #[(.slice Ao21 t583.length co21),(.slice Ao24 t586.length co24)] 33 (0,0)))∧Aside0 (Below w.heap.size w w'))
           case atStart=>exact⟨(0),(by first|rfl|(simp;done)|(simp[*];done)),H',⟨Nat.le_refl _⟩,⟨by(with_reducible repeat(first|apply Zm|apply Zl|apply Zj));exact Yc HO_4.out (fun _ hk=>⟨hk.1.1,⟨hk.1.2.1,⟨hk.2,hk.1.2.2⟩⟩⟩)⟩,⟨by(with_reducible repeat(first|apply Zm|apply Zl|apply Zj));exact Yc HO_11.out (fun _ hk=>⟨hk.1.1,⟨hk.1.2.1,⟨hk.2,hk.1.2.2⟩⟩⟩)⟩,⟨by(with_reducible repeat(first|apply Zm|apply Zl|apply Zj));exact Yc HO_12.out (fun _ hk=>⟨hk.1.1,⟨hk.1.2.1,⟨hk.2,hk.1.2.2⟩⟩⟩)⟩,⟨by(with_reducible repeat(first|apply Zm|apply Zl|apply Zj));exact Yc HO606.out (fun _ hk=>⟨hk.1.1.1.2,⟨hk.1.1.2,⟨hk.1.2,hk.2⟩⟩⟩)⟩,⟨by(with_reducible repeat(first|apply Kd.S_alloc|apply Kd.S_drewN|apply Kd.S_drew));exact HO_580000.out⟩,⟨by(with_reducible repeat(first|apply Zm|apply Zl|apply Zj));exact HO_591000.out⟩,⟨by(with_reducible repeat(first|apply Zm|apply Zl|apply Zj));exact Yc HO_591001.out (fun _ hk=>⟨hk.1.1,⟨hk.1.2.1,⟨hk.1.2.2,hk.2⟩⟩⟩)⟩,⟨by(with_reducible repeat(first|refine blk_drewN ?_ _|refine blk_drew ?_|refine blk_alloc ?_ _));exact BK579.out⟩,⟨by(with_reducible repeat(first|refine blk_drewN ?_ _|refine blk_drew ?_|refine blk_alloc ?_ _));exact BK590.out⟩,⟨by repeat(first|(with_reducible first|exact HB.out|apply Zh|apply Zf|apply Ze|refine Zd ?_ GE579.out|refine Zd ?_ GE590.out)|exact HB.out)⟩⟩
           case round=>
            clear H'
            (try clear c31);(try clear c31b0);(try clear c31b1);(try clear c32);(try clear c32b0);(try clear c32b1);(try clear c32b2);(try clear hcz14_0);(try clear hcz16_0);(try clear hcz23_0);(try clear hcz23_1);(try clear hcz45_0);(try clear hfz14_0);(try clear hfz16_0);(try clear hfz23_0);(try clear hfz23_1);(try clear hfz45_0);(try clear hx597_0);(try clear p597);(try clear q597)
            obtain⟨x14_5,rfl,HA,HK5,HO_4,HO_11,HO_12,HO_13,HO_580000,HO_591000,HO_591001,BK579,BK590,HB⟩:=hrel
            cases gk with
            |zero=>exact absurd HA.out (by simp[laws_FnRollback.l0])
            |succ k5=>
             have H:=HA.out
             clear HA
             simp only[laws_FnRollback.l0] at H
             by_cases c47:x14_5<8
             ·rw[if_pos c47] at H
              have c47b0:decide (x14_5<8)=true:=Zo c47
              clear c47
              replace H:=Zg H
              obtain⟨t607,A480,H⟩:=H
              replace H:(if t607=true then (laws_FnRollback.l0 k5 t576 t598 t601 t604 (wrap64 (x14_5+1)) t573) else (if 0≤x14_5 then (if x14_5<(t601.length:Int) then (if x14_5<(t576.length:Int) then (if (rd t601 x14_5)=(rd t576 x14_5) then (laws_FnRollback.l0 k5 t576 t598 t601 t604 (wrap64 (x14_5+1)) t573) else (some false)) else (none)) else (none)) else (none)))=some r:=H
              have A48:=Za A480
              clear A480
              by_cases c49:t607=true
              ·subst c49
               rw[if_pos rfl] at H
               have H':=Za H
               clear H
               try go_wp2
               have n0_:=Za (Zj HO_4.out)
               have n1_:=Za (Zj HO_11.out)
               have n2_:=Za (Zj HO_12.out)
               have n3_:=Za (Zj HO_13.out)
               have n4_:=Za (Kd.S_drew HO_580000.out)
               have n5_:=Za (Zj HO_591000.out)
               have n6_:=Za (Zj HO_591001.out)
               have n7_:=Za (blk_drew BK579.out)
               have n8_:=Za (blk_drew BK590.out)
               have n9_:=Za (Ze HB.out)
               clear HO_4
               clear HO_11
               clear HO_12
               clear HO_13
               clear HO_580000
               clear HO_591000
               clear HO_591001
               clear BK579
               clear BK590
               clear HB
               have HO_4:=n0_
               have HO_11:=n1_
               have HO_12:=n2_
               have HO_13:=n3_
               have HO_580000:=n4_
               have HO_591000:=n5_
               have HO_591001:=n6_
               have BK579:=n7_
               have BK590:=n8_
               have HB:=n9_
               clear n0_ n1_ n2_ n3_ n4_ n5_ n6_ n7_ n8_ n9_
               obtain⟨Ao51,co51,eo51⟩:=Yn HO_13.out
               (first|subst eo51|(injection eo51 with f1_ f2_ f3_;have f4_:=f1_.symm;have f5_:=f3_.symm;clear f1_ f2_ f3_;subst f4_;subst f5_))
               refine start_ (n:=15) (S:=fun w'=>True) (ds:=[]) #[false,false,false,false,false,false,false,false,false,false,false,false,false,false,false] z10_10 rfl rfl trivial (fun hHeld=> ?_);refine with_tabW laws_FnRollback.tab19 laws_FnRollback.bits19 (fun HT_ HW_=> ?_)
               generalize wr.drew=w50 at HO_4 HO_11 HO_12 HO_13 HO_580000 HO_591000 HO_591001 BK579 BK590 HB hHeld ⊢
               refine pure_ (i:=0) (N:=some 64) (v:= ?_) (a':= ?_) #[true,false,false,false,false,false,false,false,false,false,false,false,false,false,false] rfl rfl (any_of HT_.out z10_10) (fun _ _ _ h=>h) (Or.inl ⟨by rfl,?_⟩) ?_ ?_
               rotate_left
               ·intro w'
                go_simp
                with_reducible rfl
               rotate_left
               ·simp only[Act.put,Zs,Zt,Zu,i64_w,i32_w]
                rfl
               refine pure_ (i:=1) (N:=some 65) (v:= ?_) (a':= ?_) #[true,true,false,false,false,false,false,false,false,false,false,false,false,false,false] rfl rfl (any_of HT_.out z10_10) (fun _ _ _ h=>h) (Or.inl ⟨by rfl,?_⟩) ?_ ?_
               rotate_left
               ·intro w'
                go_simp
                with_reducible rfl
               rotate_left
               ·simp only[Act.put,Zs,Zt,Zu,i64_w,i32_w]
                rfl
               refine one_ (i:=2) (N:=some 66) #[true,true,true,false,false,false,false,false,false,false,false,false,false,false,false] rfl rfl (one_of HT_.out z10_10) (by decide) (fun K hK=> ?_)
               refine goes_ Tryz.func20 z10_10 rfl #[.slice Ao51 t604.length co51,.int .i64 x14_5] (by rfl) rfl rfl z10_1 ?_
               with_reducible refine(laws_has.calls k5 _ _ t604 x14_5 true _ ?side1 ?side2 A48.out).mono ?_
               (case side1=>repeat(first|exact(Ym HO_13.out).2.2|(with_reducible refine Yk ?_ _)|(with_reducible refine Yi ?_ _)|(with_reducible refine Yl ?_)))
               (case side2=>exact(Ym HO_13.out).2.1)
               rintro e w' ⟨rfl,⟨nd,rfl⟩⟩
               refine⟨_,rfl,?_⟩
               refine hK.out _ _ trivial (fun hHeld=> ?_)
               clear hK K
               refine norm_ (a':= ?_) ?_ ?_
               rotate_left
               ·show Act.put _ (some 66) _=_
                simp only[Act.put,Zs,Zt,Zu,i64_w,i32_w]
                rfl
               refine pure_ (i:=3) (N:=some 67) (v:= ?_) (a':= ?_) #[true,true,true,true,false,false,false,false,false,false,false,false,false,false,false] rfl rfl (any_of HT_.out z10_10) (fun _ _ _ h=>h) (Or.inl ⟨by rfl,?_⟩) ?_ ?_
               rotate_left
               ·intro w'
                go_simp
                with_reducible rfl
               rotate_left
               ·simp only[Act.put,Zs,Zt,Zu,i64_w,i32_w]
                rfl
               refine pure_ (i:=4) (N:=some 68) (v:= ?_) (a':= ?_) #[true,true,true,true,true,false,false,false,false,false,false,false,false,false,false] rfl rfl (any_of HT_.out z10_10) (fun _ _ _ h=>h) (Or.inl ⟨by rfl,?_⟩) ?_ ?_
               rotate_left
               ·intro w'
                go_simp
                with_reducible rfl
               rotate_left
               ·simp only[Act.put,Zs,Zt,Zu,i64_w,i32_w]
                rfl
               refine pure_ (i:=5) (N:=some 69) (v:=undef) (a':= ?_) #[true,true,true,true,true,true,false,false,false,false,false,false,false,false,false] rfl rfl (any_of HT_.out z10_10) (fun _ _ _ h=>h) (Or.inr ⟨by rfl,rfl⟩) ?_ ?_
               rotate_left
               ·simp only[Act.put,Zs,Zt,Zu,i64_w,i32_w]
                rfl
               refine pure_ (i:=6) (N:=some 70) (v:=undef) (a':= ?_) #[true,true,true,true,true,true,true,false,false,false,false,false,false,false,false] rfl rfl (any_of HT_.out z10_10) (fun _ _ _ h=>h) (Or.inr ⟨by rfl,rfl⟩) ?_ ?_
               rotate_left
               ·simp only[Act.put,Zs,Zt,Zu,i64_w,i32_w]
                rfl
               refine pure_ (i:=7) (N:=some 71) (v:=undef) (a':= ?_) #[true,true,true,true,true,true,true,true,false,false,false,false,false,false,false] rfl rfl (any_of HT_.out z10_10) (fun _ _ _ h=>h) (Or.inr ⟨by rfl,rfl⟩) ?_ ?_
               rotate_left
               ·simp only[Act.put,Zs,Zt,Zu,i64_w,i32_w]
                rfl
               refine pure_ (i:=8) (N:=some 72) (v:=undef) (a':= ?_) #[true,true,true,true,true,true,true,true,true,false,false,false,false,false,false] rfl rfl (any_of HT_.out z10_10) (fun _ _ _ h=>h) (Or.inr ⟨by rfl,rfl⟩) ?_ ?_
               rotate_left
               ·simp only[Act.put,Zs,Zt,Zu,i64_w,i32_w]
                rfl
               refine pure_ (i:=9) (N:=some 73) (v:=undef) (a':= ?_) #[true,true,true,true,true,true,true,true,true,true,false,false,false,false,false] rfl rfl (any_of HT_.out z10_10) (fun _ _ _ h=>h) (Or.inr ⟨by rfl,rfl⟩) ?_ ?_
               rotate_left
               ·simp only[Act.put,Zs,Zt,Zu,i64_w,i32_w]
                rfl
               refine pure_ (i:=10) (N:=some 74) (v:=undef) (a':= ?_) #[true,true,true,true,true,true,true,true,true,true,true,false,false,false,false] rfl rfl (any_of HT_.out z10_10) (fun _ _ _ h=>h) (Or.inr ⟨by rfl,rfl⟩) ?_ ?_
               rotate_left
               ·simp only[Act.put,Zs,Zt,Zu,i64_w,i32_w]
                rfl
               refine pure_ (i:=11) (N:=some 75) (v:=undef) (a':= ?_) #[true,true,true,true,true,true,true,true,true,true,true,true,false,false,false] rfl rfl (any_of HT_.out z10_10) (fun _ _ _ h=>h) (Or.inr ⟨by rfl,rfl⟩) ?_ ?_
               rotate_left
               ·simp only[Act.put,Zs,Zt,Zu,i64_w,i32_w]
                rfl
               refine pure_ (i:=12) (N:=some 76) (v:=undef) (a':= ?_) #[true,true,true,true,true,true,true,true,true,true,true,true,true,false,false] rfl rfl (any_of HT_.out z10_10) (fun _ _ _ h=>h) (Or.inr ⟨by rfl,rfl⟩) ?_ ?_
               rotate_left
               ·simp only[Act.put,Zs,Zt,Zu,i64_w,i32_w]
                rfl
               refine pure_ (i:=13) (N:=some 77) (v:=undef) (a':= ?_) #[true,true,true,true,true,true,true,true,true,true,true,true,true,true,false] rfl rfl (any_of HT_.out z10_10) (fun _ _ _ h=>h) (Or.inr ⟨by rfl,rfl⟩) ?_ ?_
               rotate_left
               ·simp only[Act.put,Zs,Zt,Zu,i64_w,i32_w]
                rfl
               refine pure_ (i:=14) (N:=some 78) (v:= ?_) (a':= ?_) #[true,true,true,true,true,true,true,true,true,true,true,true,true,true,true] rfl rfl (any_of HT_.out z10_10) (fun _ _ _ h=>h) (Or.inl ⟨by rfl,?_⟩) ?_ ?_
               rotate_left
               ·intro w'
                go_simp
                with_reducible rfl
               rotate_left
               ·simp only[Act.put,Zs,Zt,Zu,i64_w,i32_w]
                rfl
               refine done_ (done_of HT_.out z10_10) ?_
               try go_wp2
               go_roundg k5
               case measure=>have:=HJ2.out;have:=HJ9.out;have:=HJ28.out;have:=HJ34.out;have:=HK5.out;omega
               case rel=>exact⟨(wrap64 (x14_5+1)),(by first|rfl|(simp;done)|(simp[*];done)),H',⟨by have:=HJ2.out;have:=HJ9.out;have:=HJ28.out;have:=HJ34.out;have:=HK5.out;omega⟩,⟨by(with_reducible repeat(first|apply Zm|apply Zl|apply Zj));exact HO_4.out⟩,⟨by(with_reducible repeat(first|apply Zm|apply Zl|apply Zj));exact HO_11.out⟩,⟨by(with_reducible repeat(first|apply Zm|apply Zl|apply Zj));exact HO_12.out⟩,⟨by(with_reducible repeat(first|apply Zm|apply Zl|apply Zj));exact HO_13.out⟩,⟨by(with_reducible repeat(first|apply Kd.S_alloc|apply Kd.S_drewN|apply Kd.S_drew));exact HO_580000.out⟩,⟨by(with_reducible repeat(first|apply Zm|apply Zl|apply Zj));exact HO_591000.out⟩,⟨by(with_reducible repeat(first|apply Zm|apply Zl|apply Zj));exact HO_591001.out⟩,⟨by(with_reducible repeat(first|refine blk_drewN ?_ _|refine blk_drew ?_|refine blk_alloc ?_ _));exact BK579.out⟩,⟨by(with_reducible repeat(first|refine blk_drewN ?_ _|refine blk_drew ?_|refine blk_alloc ?_ _));exact BK590.out⟩,⟨by repeat(first|(with_reducible first|exact HB.out|apply Zh|apply Zf|apply Ze|refine Zd ?_ GE579.out|refine Zd ?_ GE590.out)|exact HB.out)⟩⟩
              ·replace c49:=Bool.eq_false_iff.mpr c49
               subst c49
               rw[if_neg (show ¬(false=true) by decide)] at H
               by_cases c52:0≤x14_5
               ·rw[if_pos c52] at H
                have c52b0:decide (0≤x14_5)=true:=Zo c52
                clear c52
                by_cases c53:x14_5<(t601.length:Int)
                ·rw[if_pos c53] at H
                 have c53b0:decide (x14_5<(t601.length:Int))=true:=Zo c53
                 clear c53
                 by_cases c54:x14_5<(t576.length:Int)
                 ·rw[if_pos c54] at H
                  have c54b0:decide (x14_5<(t576.length:Int))=true:=Zo c54
                  clear c54
                  by_cases c55:(rd t601 x14_5)=(rd t576 x14_5)
                  ·rw[if_pos c55] at H
                   have c55b0:((rd t601 x14_5)==(rd t576 x14_5))=true:=beq_iff_eq.mpr c55
                   have c55b1:((rd t601 x14_5) != (rd t576 x14_5))=false:=bne_eq_false_iff_eq.mpr c55
                   clear c55
                   have H':=Za H
                   clear H
                   try go_wp2
                   have n0_:=Za (Zj HO_4.out)
                   have n1_:=Za (Zj HO_11.out)
                   have n2_:=Za (Zj HO_12.out)
                   have n3_:=Za (Zj HO_13.out)
                   have n4_:=Za (Kd.S_drew HO_580000.out)
                   have n5_:=Za (Zj HO_591000.out)
                   have n6_:=Za (Zj HO_591001.out)
                   have n7_:=Za (blk_drew BK579.out)
                   have n8_:=Za (blk_drew BK590.out)
                   have n9_:=Za (Ze HB.out)
                   clear HO_4
                   clear HO_11
                   clear HO_12
                   clear HO_13
                   clear HO_580000
                   clear HO_591000
                   clear HO_591001
                   clear BK579
                   clear BK590
                   clear HB
                   have HO_4:=n0_
                   have HO_11:=n1_
                   have HO_12:=n2_
                   have HO_13:=n3_
                   have HO_580000:=n4_
                   have HO_591000:=n5_
                   have HO_591001:=n6_
                   have BK579:=n7_
                   have BK590:=n8_
                   have HB:=n9_
                   clear n0_ n1_ n2_ n3_ n4_ n5_ n6_ n7_ n8_ n9_
                   obtain⟨Ao57,co57,eo57⟩:=Yn HO_13.out
                   (first|subst eo57|(injection eo57 with f1_ f2_ f3_;have f4_:=f1_.symm;have f5_:=f3_.symm;clear f1_ f2_ f3_;subst f4_;subst f5_))
                   have p608:0≤(x14_5:Int):=Zq z10_21
                   have q608:x14_5<(t601.length:Int):=Zq z10_21
                   obtain⟨ad608,e608,hx608_0⟩:=Kd.at_int (Ym HO_12.out).2.2 x14_5 p608 q608
                   cases e608
                   replace p608:=eq_true p608
                   replace q608:=eq_true q608
                   have p609:0≤(x14_5:Int):=Zq z10_21
                   have q609:x14_5<(t576.length:Int):=Zq z10_21
                   obtain⟨ad609,e609,hx609_0⟩:=Kd.at_int (Ym HO_4.out).2.2 x14_5 p609 q609
                   cases e609
                   replace p609:=eq_true p609
                   replace q609:=eq_true q609
                   refine start_ (n:=15) (S:=fun w'=>w'.cell? (ad608.add (x14_5).toNat)=some (.int .i64 (rd t601 x14_5))∧w'.cell? (ad609.add (x14_5).toNat)=some (.int .i64 (rd t576 x14_5))) (ds:=[]) #[false,false,false,false,false,false,false,false,false,false,false,false,false,false,false] z10_10 rfl rfl ⟨hx608_0,hx609_0⟩ (fun hHeld=> ?_);refine with_tabW laws_FnRollback.tab19 laws_FnRollback.bits19 (fun HT_ HW_=> ?_)
                   generalize wr.drew=w56 at HO_4 HO_11 HO_12 HO_13 HO_580000 HO_591000 HO_591001 BK579 BK590 HB hx608_0 hx609_0 hHeld ⊢
                   refine pure_ (i:=0) (N:=some 64) (v:= ?_) (a':= ?_) #[true,false,false,false,false,false,false,false,false,false,false,false,false,false,false] rfl rfl (any_of HT_.out z10_10) (fun _ _ _ h=>h) (Or.inl ⟨by rfl,?_⟩) ?_ ?_
                   rotate_left
                   ·intro w'
                    go_simp
                    with_reducible rfl
                   rotate_left
                   ·simp only[Act.put,Zs,Zt,Zu,i64_w,i32_w]
                    rfl
                   refine pure_ (i:=1) (N:=some 65) (v:= ?_) (a':= ?_) #[true,true,false,false,false,false,false,false,false,false,false,false,false,false,false] rfl rfl (any_of HT_.out z10_10) (fun _ _ _ h=>h) (Or.inl ⟨by rfl,?_⟩) ?_ ?_
                   rotate_left
                   ·intro w'
                    go_simp
                    with_reducible rfl
                   rotate_left
                   ·simp only[Act.put,Zs,Zt,Zu,i64_w,i32_w]
                    rfl
                   refine one_ (i:=2) (N:=some 66) #[true,true,true,false,false,false,false,false,false,false,false,false,false,false,false] rfl rfl (one_of HT_.out z10_10) (by decide) (fun K hK=> ?_)
                   refine goes_ Tryz.func20 z10_10 rfl #[.slice Ao57 t604.length co57,.int .i64 x14_5] (by rfl) rfl rfl z10_1 ?_
                   with_reducible refine(laws_has.calls k5 _ _ t604 x14_5 false _ ?side1 ?side2 A48.out).mono ?_
                   (case side1=>repeat(first|exact(Ym HO_13.out).2.2|(with_reducible refine Yk ?_ _)|(with_reducible refine Yi ?_ _)|(with_reducible refine Yl ?_)))
                   (case side2=>exact(Ym HO_13.out).2.1)
                   rintro e w' ⟨rfl,⟨nd,rfl⟩⟩
                   refine⟨_,rfl,?_⟩
                   refine hK.out _ _ ⟨hHeld.1,hHeld.2⟩ (fun hHeld=> ?_)
                   clear hK K
                   refine norm_ (a':= ?_) ?_ ?_
                   rotate_left
                   ·show Act.put _ (some 66) _=_
                    simp only[Act.put,Zs,Zt,Zu,i64_w,i32_w]
                    rfl
                   refine pure_ (i:=3) (N:=some 67) (v:= ?_) (a':= ?_) #[true,true,true,true,false,false,false,false,false,false,false,false,false,false,false] rfl rfl (any_of HT_.out z10_10) (fun _ _ _ h=>h) (Or.inl ⟨by rfl,?_⟩) ?_ ?_
                   rotate_left
                   ·intro w'
                    go_simp
                    with_reducible rfl
                   rotate_left
                   ·simp only[Act.put,Zs,Zt,Zu,i64_w,i32_w]
                    rfl
                   refine pure_ (i:=4) (N:=some 68) (v:= ?_) (a':= ?_) #[true,true,true,true,true,false,false,false,false,false,false,false,false,false,false] rfl rfl (any_of HT_.out z10_10) (fun _ _ _ h=>h) (Or.inl ⟨by rfl,?_⟩) ?_ ?_
                   rotate_left
                   ·intro w'
                    go_simp
                    with_reducible rfl
                   rotate_left
                   ·simp only[Act.put,Zs,Zt,Zu,i64_w,i32_w]
                    rfl
                   refine pure_ (i:=5) (N:=some 69) (v:= ?_) (a':= ?_) #[true,true,true,true,true,true,false,false,false,false,false,false,false,false,false] rfl rfl (any_of HT_.out z10_10) (fun _ _ _ h=>h) (Or.inl ⟨by rfl,?_⟩) ?_ ?_
                   rotate_left
                   ·intro w'
                    go_simp
                    with_reducible rfl
                   rotate_left
                   ·simp only[Act.put,Zs,Zt,Zu,i64_w,i32_w]
                    rfl
                   refine pure_ (i:=6) (N:=some 70) (v:= ?_) (a':= ?_) #[true,true,true,true,true,true,true,false,false,false,false,false,false,false,false] rfl rfl (any_of HT_.out z10_10) (fun _ _ _ h=>h) (Or.inl ⟨by rfl,?_⟩) ?_ ?_
                   rotate_left
                   ·intro w'
                    go_simp
                    with_reducible rfl
                   rotate_left
                   ·simp only[Act.put,Zs,Zt,Zu,i64_w,i32_w]
                    rfl
                   refine pure_ (i:=7) (N:=some 71) (v:= ?_) (a':= ?_) #[true,true,true,true,true,true,true,true,false,false,false,false,false,false,false] rfl rfl (any_of HT_.out z10_10) (fun _ _ _ h=>h) (Or.inl ⟨by rfl,?_⟩) ?_ ?_
                   rotate_left
                   ·intro w'
                    go_simp
                    with_reducible rfl
                   rotate_left
                   ·simp only[Act.put,Zs,Zt,Zu,i64_w,i32_w]
                    rfl
                   refine pure_ (i:=9) (N:=some 73) (v:= ?_) (a':= ?_) #[true,true,true,true,true,true,true,true,false,true,false,false,false,false,false] rfl rfl (any_of HT_.out z10_10) (fun _ _ _ h=>h) (Or.inl ⟨by rfl,?_⟩) ?_ ?_
                   rotate_left
                   ·intro w'
                    go_simp
                    with_reducible rfl
                   rotate_left
                   ·simp only[Act.put,Zs,Zt,Zu,i64_w,i32_w]
                    rfl
                   refine pure_ (i:=10) (N:=some 74) (v:= ?_) (a':= ?_) #[true,true,true,true,true,true,true,true,false,true,true,false,false,false,false] rfl rfl (any_of HT_.out z10_10) (fun _ _ _ h=>h) (Or.inl ⟨by rfl,?_⟩) ?_ ?_
                   rotate_left
                   ·intro w'
                    go_simp
                    with_reducible rfl
                   rotate_left
                   ·simp only[Act.put,Zs,Zt,Zu,i64_w,i32_w]
                    rfl
                   refine pure_ (i:=11) (N:=some 75) (v:= ?_) (a':= ?_) #[true,true,true,true,true,true,true,true,false,true,true,true,false,false,false] rfl rfl (any_of HT_.out z10_10) (fun _ _ _ h=>h) (Or.inl ⟨by rfl,?_⟩) ?_ ?_
                   rotate_left
                   ·intro w'
                    go_simp
                    with_reducible rfl
                   rotate_left
                   ·simp only[Act.put,Zs,Zt,Zu,i64_w,i32_w]
                    rfl
                   refine take_ (i:=8) (N:=some 72) (v:= ?_) (a':= ?_) #[true,true,true,true,true,true,true,true,true,true,true,true,false,false,false] rfl rfl (take_ofW HT_.out HW_.out z10_10) (fun _ _ _ h=>h) (Or.inl ⟨by rfl,?_⟩) hHeld ?_ ?_
                   rotate_left
                   ·rintro w' ⟨s0,s1⟩
                    go_simp
                    with_reducible rfl
                   rotate_left
                   ·simp only[Act.put,Zs,Zt,Zu,i64_w,i32_w]
                    rfl
                   refine take_ (i:=12) (N:=some 76) (v:= ?_) (a':= ?_) #[true,true,true,true,true,true,true,true,true,true,true,true,true,false,false] rfl rfl (take_ofW HT_.out HW_.out z10_10) (fun _ _ _ h=>h) (Or.inl ⟨by rfl,?_⟩) hHeld ?_ ?_
                   rotate_left
                   ·rintro w' ⟨s0,s1⟩
                    go_simp
                    with_reducible rfl
                   rotate_left
                   ·simp only[Act.put,Zs,Zt,Zu,i64_w,i32_w]
                    rfl
                   refine pure_ (i:=13) (N:=some 77) (v:= ?_) (a':= ?_) #[true,true,true,true,true,true,true,true,true,true,true,true,true,true,false] rfl rfl (any_of HT_.out z10_10) (fun _ _ _ h=>h) (Or.inl ⟨by rfl,?_⟩) ?_ ?_
                   rotate_left
                   ·intro w'
                    go_simp
                    with_reducible rfl
                   rotate_left
                   ·simp only[Act.put,Zs,Zt,Zu,i64_w,i32_w]
                    rfl
                   refine pure_ (i:=14) (N:=some 78) (v:= ?_) (a':= ?_) #[true,true,true,true,true,true,true,true,true,true,true,true,true,true,true] rfl rfl (any_of HT_.out z10_10) (fun _ _ _ h=>h) (Or.inl ⟨by rfl,?_⟩) ?_ ?_
                   rotate_left
                   ·intro w'
                    go_simp
                    with_reducible rfl
                   rotate_left
                   ·simp only[Act.put,Zs,Zt,Zu,i64_w,i32_w]
                    rfl
                   refine done_ (done_of HT_.out z10_10) ?_
                   try go_wp2
                   go_roundg k5
                   case measure=>have:=HJ2.out;have:=HJ9.out;have:=HJ28.out;have:=HJ34.out;have:=HK5.out;omega
                   case rel=>exact⟨(wrap64 (x14_5+1)),(by first|rfl|(simp;done)|(simp[*];done)),H',⟨by have:=HJ2.out;have:=HJ9.out;have:=HJ28.out;have:=HJ34.out;have:=HK5.out;omega⟩,⟨by(with_reducible repeat(first|apply Zm|apply Zl|apply Zj));exact HO_4.out⟩,⟨by(with_reducible repeat(first|apply Zm|apply Zl|apply Zj));exact HO_11.out⟩,⟨by(with_reducible repeat(first|apply Zm|apply Zl|apply Zj));exact HO_12.out⟩,⟨by(with_reducible repeat(first|apply Zm|apply Zl|apply Zj));exact HO_13.out⟩,⟨by(with_reducible repeat(first|apply Kd.S_alloc|apply Kd.S_drewN|apply Kd.S_drew));exact HO_580000.out⟩,⟨by(with_reducible repeat(first|apply Zm|apply Zl|apply Zj));exact HO_591000.out⟩,⟨by(with_reducible repeat(first|apply Zm|apply Zl|apply Zj));exact HO_591001.out⟩,⟨by(with_reducible repeat(first|refine blk_drewN ?_ _|refine blk_drew ?_|refine blk_alloc ?_ _));exact BK579.out⟩,⟨by(with_reducible repeat(first|refine blk_drewN ?_ _|refine blk_drew ?_|refine blk_alloc ?_ _));exact BK590.out⟩,⟨by repeat(first|(with_reducible first|exact HB.out|apply Zh|apply Zf|apply Ze|refine Zd ?_ GE579.out|refine Zd ?_ GE590.out)|exact HB.out)⟩⟩
                  ·rw[if_neg c55] at H
                   have c55b0:((rd t601 x14_5)==(rd t576 x14_5))=false:=beq_eq_false_iff_ne.mpr c55
                   have c55b1:((rd t601 x14_5) != (rd t576 x14_5))=true:=bne_iff_ne.mpr c55
                   exact absurd (hT.out.symm.trans (Zn H).symm) (by decide)
                 ·rw[if_neg c54] at H
                  exact absurd H (by simp)
                ·rw[if_neg c53] at H
                 exact absurd H (by simp)
               ·rw[if_neg c52] at H
                exact absurd H (by simp)
             ·rw[if_neg c47] at H
              have c47b0:decide (x14_5<8)=false:=Yg c47
              clear c47
              replace H:=Zg H
              obtain⟨t610,A580,H⟩:=H
              replace H:(if t610=true then (if 8<(t601.length:Int) then (if 8<(t576.length:Int) then (if (rd t601 8)=(rd t576 8) then ((impl_MemSent.f t601).bind fun t613=>((impl_MemSent.f t576).bind fun t616=>((laws_sameInts.f k5 t613 t616).bind fun t619=>(if t619=true then ((impl_MemOk.f k5 t573 t598).bind fun t620=>(some t620)) else (some false))))) else (some false)) else (none)) else (none)) else (some false))=some r:=H
              have A58:=Za A580
              clear A580
              by_cases c59:t610=true
              ·subst c59
               rw[if_pos rfl] at H
               by_cases c60:8<(t601.length:Int)
               ·rw[if_pos c60] at H
                have c60b0:decide (8<(t601.length:Int))=true:=Zo c60
                have c60b1:decide (8<t601.length)=true:=Zo (by omega)
                clear c60
                by_cases c61:8<(t576.length:Int)
                ·rw[if_pos c61] at H
                 have c61b0:decide (8<(t576.length:Int))=true:=Zo c61
                 have c61b1:decide (8<t576.length)=true:=Zo (by omega)
                 clear c61
                 by_cases c62:(rd t601 8)=(rd t576 8)
                 ·rw[if_pos c62] at H
                  have c62b0:((rd t601 8)==(rd t576 8))=true:=beq_iff_eq.mpr c62
                  have c62b1:((rd t601 8) != (rd t576 8))=false:=bne_eq_false_iff_eq.mpr c62
                  clear c62
                  replace H:=Zg H
                  obtain⟨t613,A630,H⟩:=H
                  replace H:((impl_MemSent.f t576).bind fun t616=>((laws_sameInts.f k5 t613 t616).bind fun t619=>(if t619=true then ((impl_MemOk.f k5 t573 t598).bind fun t620=>(some t620)) else (some false))))=some r:=H
                  have A63:=Za A630
                  clear A630
                  replace H:=Zg H
                  obtain⟨t616,A640,H⟩:=H
                  replace H:((laws_sameInts.f k5 t613 t616).bind fun t619=>(if t619=true then ((impl_MemOk.f k5 t573 t598).bind fun t620=>(some t620)) else (some false)))=some r:=H
                  have A64:=Za A640
                  clear A640
                  replace H:=Zg H
                  obtain⟨t619,A650,H⟩:=H
                  replace H:(if t619=true then ((impl_MemOk.f k5 t573 t598).bind fun t620=>(some t620)) else (some false))=some r:=H
                  have A65:=Za A650
                  clear A650
                  by_cases c66:t619=true
                  ·subst c66
                   rw[if_pos rfl] at H
                   replace H:=Zg H
                   obtain⟨t620,A670,H⟩:=H
                   replace H:(some t620)=some r:=H
                   have A67:=Za A670
                   clear A670
                   obtain rfl:=Zn H
                   try go_wp2
                   have n0_:=Za (Zj HO_4.out)
                   have n1_:=Za (Zj HO_11.out)
                   have n2_:=Za (Zj HO_12.out)
                   have n3_:=Za (Zj HO_13.out)
                   have n4_:=Za (Kd.S_drew HO_580000.out)
                   have n5_:=Za (Zj HO_591000.out)
                   have n6_:=Za (Zj HO_591001.out)
                   have n7_:=Za (blk_drew BK579.out)
                   have n8_:=Za (blk_drew BK590.out)
                   have n9_:=Za (Ze HB.out)
                   clear HO_4
                   clear HO_11
                   clear HO_12
                   clear HO_13
                   clear HO_580000
                   clear HO_591000
                   clear HO_591001
                   clear BK579
                   clear BK590
                   clear HB
                   have HO_4:=n0_
                   have HO_11:=n1_
                   have HO_12:=n2_
                   have HO_13:=n3_
                   have HO_580000:=n4_
                   have HO_591000:=n5_
                   have HO_591001:=n6_
                   have BK579:=n7_
                   have BK590:=n8_
                   have HB:=n9_
                   clear n0_ n1_ n2_ n3_ n4_ n5_ n6_ n7_ n8_ n9_
                   have p611:0≤(8:Int):=(by omega)
                   have q611:8<(t601.length:Int):=Zq z10_21
                   obtain⟨ad611,e611,hx611_0⟩:=Kd.at_int (Ym HO_12.out).2.2 8 p611 q611
                   cases e611
                   (try simp only[show(8:Int).toNat=8 from rfl,Nat.reduceMul,Nat.reduceEqDiff,Go.Addr.add,↓reduceIte] at hx611_0)
                   have qi611:(8<t601.length)=True:=eq_true (by omega)
                   (try rw[show((8:Int)).toNat=8 from rfl] at hx611_0)
                   replace p611:=eq_true p611
                   replace q611:=eq_true q611
                   have p612:0≤(8:Int):=(by omega)
                   have q612:8<(t576.length:Int):=Zq z10_21
                   obtain⟨ad612,e612,hx612_0⟩:=Kd.at_int (Ym HO_4.out).2.2 8 p612 q612
                   cases e612
                   (try simp only[show(8:Int).toNat=8 from rfl,Nat.reduceMul,Nat.reduceEqDiff,Go.Addr.add,↓reduceIte] at hx612_0)
                   have qi612:(8<t576.length)=True:=eq_true (by omega)
                   (try rw[show((8:Int)).toNat=8 from rfl] at hx612_0)
                   replace p612:=eq_true p612
                   replace q612:=eq_true q612
                   refine start_ (n:=24) (S:=fun w'=>w'.cell? ⟨gb579,0,none⟩=some (.slice Ao13 t573.length co13)∧w'.cell? ⟨ad611.block,ad611.off+8,none⟩=some (.int .i64 (rd t601 8))∧w'.cell? ⟨ad612.block,ad612.off+8,none⟩=some (.int .i64 (rd t576 8))) (ds:=[]) #[false,false,false,false,false,false,false,false,false,false,false,false,false,false,false,false,false,false,false,false,false,false,false,false] z10_10 rfl rfl ⟨(Zb BK579.out 0).trans rfl,hx611_0,hx612_0⟩ (fun hHeld=> ?_);refine with_tabW laws_FnRollback.tab21 laws_FnRollback.bits21 (fun HT_ HW_=> ?_)
                   generalize wr.drew=w68 at HO_4 HO_11 HO_12 HO_13 HO_580000 HO_591000 HO_591001 BK579 BK590 HB hx611_0 hx612_0 hHeld ⊢
                   refine pure_ (i:=0) (N:=some 79) (v:= ?_) (a':= ?_) #[true,false,false,false,false,false,false,false,false,false,false,false,false,false,false,false,false,false,false,false,false,false,false,false] rfl rfl (any_of HT_.out z10_10) (fun _ _ _ h=>h) (Or.inl ⟨by rfl,?_⟩) ?_ ?_
                   rotate_left
                   ·intro w'
                    go_simp
                    with_reducible rfl
                   rotate_left
                   ·simp only[Act.put,Zs,Zt,Zu,i64_w,i32_w]
                    rfl
                   refine one_ (i:=1) (N:=some 80) #[true,true,false,false,false,false,false,false,false,false,false,false,false,false,false,false,false,false,false,false,false,false,false,false] rfl rfl (one_of HT_.out z10_10) (by decide) (fun K hK=> ?_)
                   refine goes_ Tryz.func21 z10_10 rfl #[.slice (some ad611) t601.length co41] (by rfl) rfl rfl z10_1 ?_
                   with_reducible refine(impl_IsClean.calls _ _ t601 true _ ?side1 ?side2 A58.out).mono ?_
                   (case side1=>repeat(first|exact(Ym HO_12.out).2.2|(with_reducible refine Yk ?_ _)|(with_reducible refine Yi ?_ _)|(with_reducible refine Yl ?_)))
                   (case side2=>exact(Ym HO_12.out).2.1)
                   rintro e w' ⟨rfl,⟨nd,rfl⟩⟩
                   refine⟨_,rfl,?_⟩
                   refine hK.out _ _ ⟨(Zb BK579.out 0).trans rfl,hHeld.2.1,hHeld.2.2⟩ (fun hHeld=> ?_)
                   clear hK K
                   refine norm_ (a':= ?_) ?_ ?_
                   rotate_left
                   ·show Act.put _ (some 80) _=_
                    simp only[Act.put,Zs,Zt,Zu,i64_w,i32_w]
                    rfl
                   refine pure_ (i:=2) (N:=some 81) (v:= ?_) (a':= ?_) #[true,true,true,false,false,false,false,false,false,false,false,false,false,false,false,false,false,false,false,false,false,false,false,false] rfl rfl (any_of HT_.out z10_10) (fun _ _ _ h=>h) (Or.inl ⟨by rfl,?_⟩) ?_ ?_
                   rotate_left
                   ·intro w'
                    go_simp
                    with_reducible rfl
                   rotate_left
                   ·simp only[Act.put,Zs,Zt,Zu,i64_w,i32_w]
                    rfl
                   refine pure_ (i:=3) (N:=some 82) (v:= ?_) (a':= ?_) #[true,true,true,true,false,false,false,false,false,false,false,false,false,false,false,false,false,false,false,false,false,false,false,false] rfl rfl (any_of HT_.out z10_10) (fun _ _ _ h=>h) (Or.inl ⟨by rfl,?_⟩) ?_ ?_
                   rotate_left
                   ·intro w'
                    go_simp
                    with_reducible rfl
                   rotate_left
                   ·simp only[Act.put,Zs,Zt,Zu,i64_w,i32_w]
                    rfl
                   refine pure_ (i:=4) (N:=some 83) (v:= ?_) (a':= ?_) #[true,true,true,true,true,false,false,false,false,false,false,false,false,false,false,false,false,false,false,false,false,false,false,false] rfl rfl (any_of HT_.out z10_10) (fun _ _ _ h=>h) (Or.inl ⟨by rfl,?_⟩) ?_ ?_
                   rotate_left
                   ·intro w'
                    go_simp
                    with_reducible rfl
                   rotate_left
                   ·simp only[Act.put,Zs,Zt,Zu,i64_w,i32_w]
                    rfl
                   refine pure_ (i:=6) (N:=some 85) (v:= ?_) (a':= ?_) #[true,true,true,true,true,false,true,false,false,false,false,false,false,false,false,false,false,false,false,false,false,false,false,false] rfl rfl (any_of HT_.out z10_10) (fun _ _ _ h=>h) (Or.inl ⟨by rfl,?_⟩) ?_ ?_
                   rotate_left
                   ·intro w'
                    go_simp
                    with_reducible rfl
                   rotate_left
                   ·simp only[Act.put,Zs,Zt,Zu,i64_w,i32_w]
                    rfl
                   refine pure_ (i:=7) (N:=some 86) (v:= ?_) (a':= ?_) #[true,true,true,true,true,false,true,true,false,false,false,false,false,false,false,false,false,false,false,false,false,false,false,false] rfl rfl (any_of HT_.out z10_10) (fun _ _ _ h=>h) (Or.inl ⟨by rfl,?_⟩) ?_ ?_
                   rotate_left
                   ·intro w'
                    go_simp
                    with_reducible rfl
                   rotate_left
                   ·simp only[Act.put,Zs,Zt,Zu,i64_w,i32_w]
                    rfl
                   refine take_ (i:=5) (N:=some 84) (v:= ?_) (a':= ?_) #[true,true,true,true,true,true,true,true,false,false,false,false,false,false,false,false,false,false,false,false,false,false,false,false] rfl rfl (take_ofW HT_.out HW_.out z10_10) (fun _ _ _ h=>h) (Or.inl ⟨by rfl,?_⟩) hHeld ?_ ?_
                   rotate_left
                   ·rintro w' ⟨s0,s1,s2⟩
                    go_simp
                    with_reducible rfl
                   rotate_left
                   ·simp only[Act.put,Zs,Zt,Zu,i64_w,i32_w]
                    rfl
                   refine take_ (i:=8) (N:=some 87) (v:= ?_) (a':= ?_) #[true,true,true,true,true,true,true,true,true,false,false,false,false,false,false,false,false,false,false,false,false,false,false,false] rfl rfl (take_ofW HT_.out HW_.out z10_10) (fun _ _ _ h=>h) (Or.inl ⟨by rfl,?_⟩) hHeld ?_ ?_
                   rotate_left
                   ·rintro w' ⟨s0,s1,s2⟩
                    go_simp
                    with_reducible rfl
                   rotate_left
                   ·simp only[Act.put,Zs,Zt,Zu,i64_w,i32_w]
                    rfl
                   refine pure_ (i:=9) (N:=some 88) (v:= ?_) (a':= ?_) #[true,true,true,true,true,true,true,true,true,true,false,false,false,false,false,false,false,false,false,false,false,false,false,false] rfl rfl (any_of HT_.out z10_10) (fun _ _ _ h=>h) (Or.inl ⟨by rfl,?_⟩) ?_ ?_
                   rotate_left
                   ·intro w'
                    go_simp
                    with_reducible rfl
                   rotate_left
                   ·simp only[Act.put,Zs,Zt,Zu,i64_w,i32_w]
                    rfl
                   refine pure_ (i:=10) (N:=some 89) (v:= ?_) (a':= ?_) #[true,true,true,true,true,true,true,true,true,true,true,false,false,false,false,false,false,false,false,false,false,false,false,false] rfl rfl (any_of HT_.out z10_10) (fun _ _ _ h=>h) (Or.inl ⟨by rfl,?_⟩) ?_ ?_
                   rotate_left
                   ·intro w'
                    go_simp
                    with_reducible rfl
                   rotate_left
                   ·simp only[Act.put,Zs,Zt,Zu,i64_w,i32_w]
                    rfl
                   refine pure_ (i:=11) (N:=some 90) (v:= ?_) (a':= ?_) #[true,true,true,true,true,true,true,true,true,true,true,true,false,false,false,false,false,false,false,false,false,false,false,false] rfl rfl (any_of HT_.out z10_10) (fun _ _ _ h=>h) (Or.inl ⟨by rfl,?_⟩) ?_ ?_
                   rotate_left
                   ·intro w'
                    go_simp
                    with_reducible rfl
                   rotate_left
                   ·simp only[Act.put,Zs,Zt,Zu,i64_w,i32_w]
                    rfl
                   refine pure_ (i:=12) (N:=some 91) (v:= ?_) (a':= ?_) #[true,true,true,true,true,true,true,true,true,true,true,true,true,false,false,false,false,false,false,false,false,false,false,false] rfl rfl (any_of HT_.out z10_10) (fun _ _ _ h=>h) (Or.inl ⟨by rfl,?_⟩) ?_ ?_
                   rotate_left
                   ·intro w'
                    go_simp
                    with_reducible rfl
                   rotate_left
                   ·simp only[Act.put,Zs,Zt,Zu,i64_w,i32_w]
                    rfl
                   refine pure_ (i:=14) (N:=some 93) (v:= ?_) (a':= ?_) #[true,true,true,true,true,true,true,true,true,true,true,true,true,false,true,false,false,false,false,false,false,false,false,false] rfl rfl (any_of HT_.out z10_10) (fun _ _ _ h=>h) (Or.inl ⟨by rfl,?_⟩) ?_ ?_
                   rotate_left
                   ·intro w'
                    go_simp
                    with_reducible rfl
                   rotate_left
                   ·simp only[Act.put,Zs,Zt,Zu,i64_w,i32_w]
                    rfl
                   refine one_ (i:=13) (N:=some 92) #[true,true,true,true,true,true,true,true,true,true,true,true,true,true,true,false,false,false,false,false,false,false,false,false] rfl rfl (one_of HT_.out z10_10) (by decide) (fun K hK=> ?_)
                   refine goes_ Tryz.func22 z10_10 rfl #[.slice (some ad611) t601.length co41] (by rfl) rfl rfl z10_1 ?_
                   with_reducible refine(impl_MemSent.calls _ _ t601 t613 _ ?side1 ?side2 A63.out).mono ?_
                   (case side1=>repeat(first|exact(Ym HO_12.out).2.2|(with_reducible refine Yk ?_ _)|(with_reducible refine Yi ?_ _)|(with_reducible refine Yl ?_)))
                   (case side2=>exact(Ym HO_12.out).2.1)
                   rintro e w69 ⟨v614,rfl,ho0,hb⟩
                   have HS1_:=(hb.cell (Yo _ _ (hHeld.2.1))).trans (hHeld.2.1)
                   have HS2_:=(hb.cell (Yo _ _ (hHeld.2.2))).trans (hHeld.2.2)
                   refine⟨_,rfl,?_⟩
                   have n0_:=Za (Ys z10_5 (Ye ho0) hb)
                   have n1_:=Za (Ys z10_9 (Ye ho0) hb)
                   have n2_:=Za (Ys z10_8 (Ye ho0) hb)
                   have n3_:=Za (Ys z10_14 (Ye ho0) hb)
                   have n4_:=Za (Kd.S_below z10_11 hb)
                   have n5_:=Za (Kd.R_below z10_12 hb)
                   have n6_:=Za (Ys z10_4 (Ye ho0) hb)
                   have n7_:=Za (Yr (Kd.R_new' (Kd.R_new' (Kd.R_new' (Kd.R_new' (Kd.R_new' ho0 (Kd.R_lt z10_5)) (Kd.R_lt z10_9)) (Kd.R_lt z10_8)) (Kd.R_lt z10_14)) (Kd.R_lt z10_4)) (Yf z10_0))
                   have n8_:=Za (Zi (g:=gb579) (o:= .cells #[.slice Ao13 t573.length co13] 26 (0,0)) z10_3 hb)
                   have n9_:=Za (Zi (g:=gb590) (o:= .cells #[.slice Ao21 t583.length co21,.slice Ao24 t586.length co24] 33 (0,0)) z10_6 hb)
                   have n10_:=Za (Zk z10_0 hb)
                   clear HO_4
                   clear HO_11
                   clear HO_12
                   clear HO_13
                   clear HO_580000
                   clear HO_591000
                   clear HO_591001
                   clear BK579
                   clear BK590
                   clear HB
                   have HO_4:=n0_
                   have HO_11:=n1_
                   have HO_12:=n2_
                   have HO_13:=n3_
                   have HO_580000:=n4_
                   have HO_591000:=n5_
                   have HO_591001:=n6_
                   have HO615:=n7_
                   have BK579:=n8_
                   have BK590:=n9_
                   have HB:=n10_
                   clear n0_ n1_ n2_ n3_ n4_ n5_ n6_ n7_ n8_ n9_ n10_
                   (try clear hb)
                   (try clear hb2)
                   (try clear hk)
                   (try clear hi)
                   (try clear ho0)
                   refine hK.out _ _ ⟨(Zb BK579.out 0).trans rfl,HS1_,HS2_⟩ (fun hHeld=> ?_)
                   clear hK K
                   refine norm_ (a':= ?_) ?_ ?_
                   rotate_left
                   ·show Act.put _ (some 92) _=_
                    simp only[Act.put,Zs,Zt,Zu,i64_w,i32_w]
                    rfl
                   refine one_ (i:=15) (N:=some 94) #[true,true,true,true,true,true,true,true,true,true,true,true,true,true,true,true,false,false,false,false,false,false,false,false] rfl rfl (one_of HT_.out z10_10) (by decide) (fun K hK=> ?_)
                   refine goes_ Tryz.func22 z10_10 rfl #[.slice (some ad612) t576.length co17] (by rfl) rfl rfl z10_1 ?_
                   with_reducible refine(impl_MemSent.calls _ _ t576 t616 _ ?side1 ?side2 A64.out).mono ?_
                   (case side1=>exact z10_16)
                   (case side2=>exact(Ym HO_4.out).2.1)
                   rintro e w70 ⟨v617,rfl,ho0,hb⟩
                   have HS1_:=(hb.cell (Yo _ _ (hHeld.2.1))).trans (hHeld.2.1)
                   have HS2_:=(hb.cell (Yo _ _ (hHeld.2.2))).trans (hHeld.2.2)
                   refine⟨_,rfl,?_⟩
                   have n0_:=Za (Ys z10_5 (Ye ho0) hb)
                   have n1_:=Za (Ys z10_9 (Ye ho0) hb)
                   have n2_:=Za (Ys z10_8 (Ye ho0) hb)
                   have n3_:=Za (Ys z10_14 (Ye ho0) hb)
                   have n4_:=Za (Kd.S_below z10_11 hb)
                   have n5_:=Za (Kd.R_below z10_12 hb)
                   have n6_:=Za (Ys z10_4 (Ye ho0) hb)
                   have n7_:=Za (Ys (by(with_reducible repeat(first|apply Zm|apply Zl|apply Zj));exact HO615.out) (Ye ho0) hb)
                   have n8_:=Za (Yr (Kd.R_new' (Kd.R_new' (Kd.R_new' (Kd.R_new' (Kd.R_new' (Kd.R_new' ho0 (Kd.R_lt z10_5)) (Kd.R_lt z10_9)) (Kd.R_lt z10_8)) (Kd.R_lt z10_14)) (Kd.R_lt z10_4)) (Kd.R_lt (by(with_reducible repeat(first|apply Zm|apply Zl|apply Zj));exact HO615.out))) (Yf z10_0))
                   have n9_:=Za (Zi (g:=gb579) (o:= .cells #[.slice Ao13 t573.length co13] 26 (0,0)) z10_3 hb)
                   have n10_:=Za (Zi (g:=gb590) (o:= .cells #[.slice Ao21 t583.length co21,.slice Ao24 t586.length co24] 33 (0,0)) z10_6 hb)
                   have n11_:=Za (Zk z10_0 hb)
                   clear HO_4
                   clear HO_11
                   clear HO_12
                   clear HO_13
                   clear HO_580000
                   clear HO_591000
                   clear HO_591001
                   clear HO615
                   clear BK579
                   clear BK590
                   clear HB
                   have HO_4:=n0_
                   have HO_11:=n1_
                   have HO_12:=n2_
                   have HO_13:=n3_
                   have HO_580000:=n4_
                   have HO_591000:=n5_
                   have HO_591001:=n6_
                   have HO615:=n7_
                   have HO618:=n8_
                   have BK579:=n9_
                   have BK590:=n10_
                   have HB:=n11_
                   clear n0_ n1_ n2_ n3_ n4_ n5_ n6_ n7_ n8_ n9_ n10_ n11_
                   (try clear hb)
                   (try clear hb2)
                   (try clear hk)
                   (try clear hi)
                   (try clear ho0)
                   obtain⟨Ao71,co71,eo71⟩:=Yn HO615.out
                   (first|subst eo71|(injection eo71 with f1_ f2_ f3_;have f4_:=f1_.symm;have f5_:=f3_.symm;clear f1_ f2_ f3_;subst f4_;subst f5_))
                   obtain⟨Ao72,co72,eo72⟩:=Yn HO618.out
                   (first|subst eo72|(injection eo72 with f1_ f2_ f3_;have f4_:=f1_.symm;have f5_:=f3_.symm;clear f1_ f2_ f3_;subst f4_;subst f5_))
                   refine hK.out _ _ ⟨(Zb BK579.out 0).trans rfl,HS1_,HS2_⟩ (fun hHeld=> ?_)
                   clear hK K
                   refine norm_ (a':= ?_) ?_ ?_
                   rotate_left
                   ·show Act.put _ (some 94) _=_
                    simp only[Act.put,Zs,Zt,Zu,i64_w,i32_w]
                    rfl
                   refine one_ (i:=16) (N:=some 95) #[true,true,true,true,true,true,true,true,true,true,true,true,true,true,true,true,true,false,false,false,false,false,false,false] rfl rfl (one_of HT_.out z10_10) (by decide) (fun K hK=> ?_)
                   refine goes_ Tryz.func15 z10_10 rfl #[.slice Ao71 t613.length co71,.slice Ao72 t616.length co72] (by rfl) rfl rfl z10_1 ?_
                   with_reducible refine(laws_sameInts.calls k5 _ _ t613 _ _ t616 true _ ?side1 ?side2 ?side3 ?side4 A65.out).mono ?_
                   (case side1=>repeat(first|exact(Ym HO615.out).2.2|(with_reducible refine Yk ?_ _)|(with_reducible refine Yi ?_ _)|(with_reducible refine Yl ?_)))
                   (case side2=>exact(Ym HO615.out).2.1)
                   (case side3=>repeat(first|exact(Ym HO618.out).2.2|(with_reducible refine Yk ?_ _)|(with_reducible refine Yi ?_ _)|(with_reducible refine Yl ?_)))
                   (case side4=>exact(Ym HO618.out).2.1)
                   rintro e w' ⟨rfl,⟨nd,rfl⟩⟩
                   refine⟨_,rfl,?_⟩
                   refine hK.out _ _ ⟨(Zb BK579.out 0).trans rfl,hHeld.2.1,hHeld.2.2⟩ (fun hHeld=> ?_)
                   clear hK K
                   refine norm_ (a':= ?_) ?_ ?_
                   rotate_left
                   ·show Act.put _ (some 95) _=_
                    simp only[Act.put,Zs,Zt,Zu,i64_w,i32_w]
                    rfl
                   refine pure_ (i:=17) (N:=some 96) (v:= ?_) (a':= ?_) #[true,true,true,true,true,true,true,true,true,true,true,true,true,true,true,true,true,true,false,false,false,false,false,false] rfl rfl (any_of HT_.out z10_10) (fun _ _ _ h=>h) (Or.inl ⟨by rfl,?_⟩) ?_ ?_
                   rotate_left
                   ·intro w'
                    go_simp
                    with_reducible rfl
                   rotate_left
                   ·simp only[Act.put,Zs,Zt,Zu,i64_w,i32_w]
                    rfl
                   refine pure_ (i:=18) (N:=some 97) (v:= ?_) (a':= ?_) #[true,true,true,true,true,true,true,true,true,true,true,true,true,true,true,true,true,true,true,false,false,false,false,false] rfl rfl (any_of HT_.out z10_10) (fun _ _ _ h=>h) (Or.inl ⟨by rfl,?_⟩) ?_ ?_
                   rotate_left
                   ·intro w'
                    go_simp
                    with_reducible rfl
                   rotate_left
                   ·simp only[Act.put,Zs,Zt,Zu,i64_w,i32_w]
                    rfl
                   refine pure_ (i:=20) (N:=some 99) (v:= ?_) (a':= ?_) #[true,true,true,true,true,true,true,true,true,true,true,true,true,true,true,true,true,true,true,false,true,false,false,false] rfl rfl (any_of HT_.out z10_10) (fun _ _ _ h=>h) (Or.inl ⟨by rfl,?_⟩) ?_ ?_
                   rotate_left
                   ·intro w'
                    go_simp
                    with_reducible rfl
                   rotate_left
                   ·simp only[Act.put,Zs,Zt,Zu,i64_w,i32_w]
                    rfl
                   refine take_ (i:=19) (N:=some 98) (v:= ?_) (a':= ?_) #[true,true,true,true,true,true,true,true,true,true,true,true,true,true,true,true,true,true,true,true,true,false,false,false] rfl rfl (take_ofW HT_.out HW_.out z10_10) (fun _ _ _ h=>h) (Or.inl ⟨by rfl,?_⟩) hHeld ?_ ?_
                   rotate_left
                   ·rintro w' ⟨s0,s1,s2⟩
                    go_simp
                    with_reducible rfl
                   rotate_left
                   ·simp only[Act.put,Zs,Zt,Zu,i64_w,i32_w]
                    rfl
                   refine one_ (i:=21) (N:=some 100) #[true,true,true,true,true,true,true,true,true,true,true,true,true,true,true,true,true,true,true,true,true,true,false,false] rfl rfl (one_of HT_.out z10_10) (by decide) (fun K hK=> ?_)
                   refine goes_ Tryz.func23 z10_10 rfl #[.agg #[.slice Ao13 t573.length co13],.slice Ao39 t598.length co39] (by rfl) rfl rfl z10_1 ?_
                   with_reducible refine(impl_MemOk.calls k5 _ _ t573 _ _ t598 t620 _ ?side1 ?side2 ?side3 ?side4 A67.out).mono ?_
                   (case side1=>repeat(first|exact(Kd.S_reads' HO_580000.out).2.2|(with_reducible refine Yk ?_ _)|(with_reducible refine Yi ?_ _)|(with_reducible refine Yl ?_)))
                   (case side2=>exact(Kd.S_reads' HO_580000.out).2.1)
                   (case side3=>repeat(first|exact(Ym HO_11.out).2.2|(with_reducible refine Yk ?_ _)|(with_reducible refine Yi ?_ _)|(with_reducible refine Yl ?_)))
                   (case side4=>exact(Ym HO_11.out).2.1)
                   rintro e w73 ⟨rfl,hb⟩
                   have HS1_:=(hb.cell (Yo _ _ (hHeld.2.1))).trans (hHeld.2.1)
                   have HS2_:=(hb.cell (Yo _ _ (hHeld.2.2))).trans (hHeld.2.2)
                   refine⟨_,rfl,?_⟩
                   have n0_:=Za (Kd.R_below z10_5 hb)
                   have n1_:=Za (Kd.R_below z10_9 hb)
                   have n2_:=Za (Kd.R_below z10_8 hb)
                   have n3_:=Za (Kd.R_below z10_14 hb)
                   have n4_:=Za (Kd.S_below z10_11 hb)
                   have n5_:=Za (Kd.R_below z10_12 hb)
                   have n6_:=Za (Kd.R_below z10_4 hb)
                   have n7_:=Za (Kd.R_below (by(with_reducible repeat(first|apply Zm|apply Zl|apply Zj));exact HO615.out) hb)
                   have n8_:=Za (Kd.R_below (by(with_reducible repeat(first|apply Zm|apply Zl|apply Zj));exact HO618.out) hb)
                   have n9_:=Za (Zi (g:=gb579) (o:= .cells #[.slice Ao13 t573.length co13] 26 (0,0)) z10_3 hb)
                   have n10_:=Za (Zi (g:=gb590) (o:= .cells #[.slice Ao21 t583.length co21,.slice Ao24 t586.length co24] 33 (0,0)) z10_6 hb)
                   have n11_:=Za (Zk z10_0 hb)
                   clear HO_4
                   clear HO_11
                   clear HO_12
                   clear HO_13
                   clear HO_580000
                   clear HO_591000
                   clear HO_591001
                   clear HO615
                   clear HO618
                   clear BK579
                   clear BK590
                   clear HB
                   have HO_4:=n0_
                   have HO_11:=n1_
                   have HO_12:=n2_
                   have HO_13:=n3_
                   have HO_580000:=n4_
                   have HO_591000:=n5_
                   have HO_591001:=n6_
                   have HO615:=n7_
                   have HO618:=n8_
                   have BK579:=n9_
                   have BK590:=n10_
                   have HB:=n11_
                   clear n0_ n1_ n2_ n3_ n4_ n5_ n6_ n7_ n8_ n9_ n10_ n11_
                   (try clear hb)
                   (try clear hb2)
                   (try clear hk)
                   (try clear hi)
                   refine hK.out _ _ ⟨(Zb BK579.out 0).trans rfl,HS1_,HS2_⟩ (fun hHeld=> ?_)
                   clear hK K
                   refine norm_ (a':= ?_) ?_ ?_
                   rotate_left
                   ·show Act.put _ (some 100) _=_
                    simp only[Act.put,Zs,Zt,Zu,i64_w,i32_w]
                    rfl
                   refine pure_ (i:=22) (N:=some 101) (v:= ?_) (a':= ?_) #[true,true,true,true,true,true,true,true,true,true,true,true,true,true,true,true,true,true,true,true,true,true,true,false] rfl rfl (any_of HT_.out z10_10) (fun _ _ _ h=>h) (Or.inl ⟨by rfl,?_⟩) ?_ ?_
                   rotate_left
                   ·intro w'
                    go_simp
                    with_reducible rfl
                   rotate_left
                   ·simp only[Act.put,Zs,Zt,Zu,i64_w,i32_w]
                    rfl
                   refine pure_ (i:=23) (N:=some 2) (v:= ?_) (a':= ?_) #[true,true,true,true,true,true,true,true,true,true,true,true,true,true,true,true,true,true,true,true,true,true,true,true] rfl rfl (any_of HT_.out z10_10) (fun _ _ _ h=>h) (Or.inl ⟨by rfl,?_⟩) ?_ ?_
                   rotate_left
                   ·intro w'
                    go_simp
                    with_reducible rfl
                   rotate_left
                   ·simp only[Act.put,Zs,Zt,Zu,i64_w,i32_w]
                    rfl
                   refine done_ (done_of HT_.out z10_10) ?_
                   try go_wp2
                   go_ret
                   exact⟨by first|rfl|(simp[errW_none,errW_some]<;>rfl)|(simp[*,errW_none,errW_some]<;>rfl)|(simp[*,errW_none,errW_some,i64_w];done),by repeat(first|(with_reducible first|exact HB.out|apply Zh|apply Zf|apply Ze|refine Zd ?_ GE579.out|refine Zd ?_ GE590.out)|exact HB.out)⟩
                  ·replace c66:=Bool.eq_false_iff.mpr c66
                   subst c66
                   rw[if_neg (show ¬(false=true) by decide)] at H
                   exact absurd (hT.out.symm.trans (Zn H).symm) (by decide)
                 ·rw[if_neg c62] at H
                  have c62b0:((rd t601 8)==(rd t576 8))=false:=beq_eq_false_iff_ne.mpr c62
                  have c62b1:((rd t601 8) != (rd t576 8))=true:=bne_iff_ne.mpr c62
                  exact absurd (hT.out.symm.trans (Zn H).symm) (by decide)
                ·rw[if_neg c61] at H
                 exact absurd H (by simp)
               ·rw[if_neg c60] at H
                exact absurd H (by simp)
              ·replace c59:=Bool.eq_false_iff.mpr c59
               subst c59
               rw[if_neg (show ¬(false=true) by decide)] at H
               exact absurd (hT.out.symm.trans (Zn H).symm) (by decide)
       ·rw[if_neg c31] at H
        exact absurd H (by simp)
def laws_FnRollback.Pure:Prop:=∀(l0:List Int),l0.length≤maxLen→l0.length*1≤140737488351232→(∀x∈l0,(Lit.int .u8 x).wf=true)→∃k,laws_FnRollback.f k l0=some true
theorem laws_FnRollback.walk (P:laws_FnRollback.Pure) (a0:Option Addr) (len0 cap0:Nat) (z0:List Int) (w:World) (w0:(a0=none∧len0=0∧cap0=0∧z0=[])∨∃x,a0=some x∧len0≤cap0∧cap0≤maxLen∧z0.length=cap0∧(∀i,i<z0.length→w.cell? (x.add i)=some (.int .u8 (z0.getD i 0)))∧∀n∈z0,(Lit.int .u8 n).wf=true) (y0:len0*1≤140737488351232):
  Calls Tryz.prog 4 #[.slice a0 len0 cap0] w fun e w'=>e= .returned (.bool true)∧Below w.heap.size w w':=by
 obtain⟨l0,rfl,hr0,hm0,hw0,hc0⟩:=ReadsInt.ofRowC w0
 obtain⟨k,h⟩:=P l0 hm0 y0 hw0
 refine(laws_FnRollback.calls k _ _ l0 true w (Kd.C_of_reads (d:=(0:Int)) (h1:=fun _=>rfl) hr0) hc0 h ⟨rfl⟩).mono ?_
 rintro e w' ⟨rfl,hd⟩
 exact⟨rfl,hd⟩
end Go.Proofs.YtjgfldbogjipiaaGreat.G
