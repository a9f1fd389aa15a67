/- Functions of the program as plain Lean functions, and that each call comes to its function's answer; written by a program of the session. No condition. -/
import Derived.Test.YtjgfldbogjipiaaGreatGx0
import Derived.Test.YtjgfldbogjipiaaGreatGx2
import Derived.Test.YtjgfldbogjipiaaGreatGx3
import Derived.Test.YtjgfldbogjipiaaGreatGx8
namespace Go.Proofs.YtjgfldbogjipiaaGreat.G
open Go.RowKit Go.Proofs.YtjgfldbogjipiaaGreatW.PrintWords Go.Proofs.YtjgfldbogjipiaaGreatW.PrintLast Go.Proofs.YtjgfldbogjipiaaGreatW.PrintMore
attribute [local go_sem] max2_int min2_int max_two min_two max_three min_three max_four min_four   -- for this text's walks alone
set_option linter.unusedVariables false
set_option linter.unusedSimpArgs false
theorem z9_0 {P:Prop} (h:P:=by repeat(first|(with_reducible first|exact HB.out|apply Zi|apply Zf|apply Ze|refine Zd ?_ GE523.out)|exact HB.out)):P:=h
theorem z9_1 {P:Prop} (h:P:=by(try simp only[List.map_toArray,List.map_cons,List.map_nil]);first|done|rfl|(simp only[List.length_drop,List.length_take];rfl)):P:=h
theorem z9_2 {P:Prop} (h:P:=by(with_reducible repeat(first|refine blk_drewN ?_ _|refine blk_drew ?_|refine blk_alloc ?_ _));exact BK523.out):P:=h
theorem z9_3 {P:Prop} (h:P:=by(with_reducible repeat(first|apply Zw|apply Zu|apply Zr));exact HO522.out):P:=h
theorem z9_4 {P:Prop} (h:P:=by repeat(first|(with_reducible first|exact HB.out|apply Zi|apply Zf|apply Ze)|exact HB.out)):P:=h
theorem z9_5 {P:Prop} (h:P:=by repeat(first|(with_reducible first|exact HB.out|apply Zi|apply Zf|apply Ze|refine Zd ?_ GE523.out|refine Zd ?_ GE537.out)|exact HB.out)):P:=h
theorem z9_6 {P:Prop} (h:P:=by(with_reducible repeat(first|apply Zw|apply Zu|apply Zr));exact HO526.out):P:=h
theorem z9_7 {P:Prop} (h:P:=by(with_reducible repeat(first|apply Kd.S_alloc|apply Kd.S_drewN|apply Kd.S_drew));exact HO519.out):P:=h
theorem z9_8 {P:Prop} (h:P:=by(with_reducible repeat(first|apply Zw|apply Zu|apply Zr));exact HO529.out):P:=h
theorem z9_9 {P:Prop} (h:P:=by repeat(first|exact(Yq HO535.out).2.2|(with_reducible refine Yo ?_ _)|(with_reducible refine Yn ?_ _)|(with_reducible refine Yp ?_))):P:=h
theorem z9_10 {P:Prop} (h:P:=by repeat(first|exact(Yq HO532.out).2.2|(with_reducible refine Yo ?_ _)|(with_reducible refine Yn ?_ _)|(with_reducible refine Yp ?_))):P:=h
theorem z9_11 {P:Prop} (h:P:=by(with_reducible repeat(first|apply Zw|apply Zu|apply Zr));exact HO535.out):P:=h
theorem z9_12 {P:Prop} (h:P:=by(with_reducible repeat(first|apply Zw|apply Zu|apply Zr));exact HO532.out):P:=h
theorem z9_13 {P:Prop} (h:P:=by kernel_rfl):P:=h
theorem z9_14 {P:Prop} (h:P:=by(with_reducible repeat(first|refine blk_drewN ?_ _|refine blk_drew ?_|refine blk_alloc ?_ _));exact BK537.out):P:=h
theorem z9_15 {P:Prop} (h:P:=by repeat(first|exact(Yj HR0.out HB.out)|(with_reducible refine Yo ?_ _)|(with_reducible refine Yn ?_ _)|(with_reducible refine Yp ?_))):P:=h
theorem z9_16 {P:Prop} (h:P:=by(with_reducible repeat(first|refine blk_drewN ?_ _|refine blk_drew ?_|refine blk_alloc ?_ _));refine blk_far ?_ NB523_537.out _;(with_reducible repeat(first|refine blk_drewN ?_ _|refine blk_drew ?_|refine blk_alloc ?_ _));refine blk_far ?_ NB523_537.out _;(with_reducible repeat(first|refine blk_drewN ?_ _|refine blk_drew ?_|refine blk_alloc ?_ _));exact BK523.out):P:=h
theorem z9_17 {P:Prop} (h:P:=by(with_reducible repeat(first|apply Zw|apply Zu|apply Zr));exact(Yd (Kd.R_far (p:=⟨gb537,1,none⟩) (Kd.R_far (p:=⟨gb537,0,none⟩) (Kd.R_types HO535.out BK537.out (by decide)) (fun _ hk=>hk.2) (.slice Ao54 t530.length co54)) (fun _ hk=>hk.2) (.slice Ao57 t533.length co57)) (fun _ h_=>h_.1))):P:=h
theorem z9_18 {P:Prop} (h:P:=by(with_reducible repeat(first|apply Zw|apply Zu|apply Zr));exact(Yd (Kd.R_far (p:=⟨gb537,1,none⟩) (Kd.R_far (p:=⟨gb537,0,none⟩) (Kd.R_types HO535.out BK537.out (by decide)) (fun _ hk=>hk.2) (.slice Ao31 t530.length co31)) (fun _ hk=>hk.2) (.slice Ao34 t533.length co34)) (fun _ h_=>h_.1))):P:=h
theorem z9_19 {P:Prop} (h:P:=by(with_reducible repeat(first|apply Zw|apply Zu|apply Zr));exact(Yd (Kd.R_far (p:=⟨gb537,1,none⟩) (Kd.R_far (p:=⟨gb537,0,none⟩) (Kd.R_types HO532.out BK537.out (by decide)) (fun _ hk=>hk.2) (.slice Ao54 t530.length co54)) (fun _ hk=>hk.2) (.slice Ao57 t533.length co57)) (fun _ h_=>h_.1))):P:=h
theorem z9_20 {P:Prop} (h:P:=by(with_reducible repeat(first|apply Zw|apply Zu|apply Zr));exact(Yd (Kd.R_far (p:=⟨gb537,1,none⟩) (Kd.R_far (p:=⟨gb537,0,none⟩) (Kd.R_types HO532.out BK537.out (by decide)) (fun _ hk=>hk.2) (.slice Ao31 t530.length co31)) (fun _ hk=>hk.2) (.slice Ao34 t533.length co34)) (fun _ h_=>h_.1))):P:=h
theorem z9_21 {P:Prop} (h:P:=by repeat(first|(with_reducible first|exact HB.out|apply Zi|apply Zf|apply Ze|refine Zd ?_ GE513.out)|exact HB.out)):P:=h
theorem z9_22 {P:Prop} (h:P:=by exact(Yq HO535.out).2.1):P:=h
theorem z9_23 {P:Prop} (h:P:=by exact(Yq HO532.out).2.1):P:=h
theorem z9_24 {P:Prop} (h:P:=by(with_reducible repeat(first|refine blk_drewN ?_ _|refine blk_drew ?_|refine blk_alloc ?_ _));refine blk_put (cs:= #[.slice none 0 0]) ?_ 0 _ rfl;(with_reducible repeat(first|refine blk_drewN ?_ _|refine blk_drew ?_|refine blk_alloc ?_ _));exact BK523.out):P:=h
theorem z9_25 {P:Prop} (h:P:=by(with_reducible repeat(first|apply Zw|apply Zu|apply Zr));exact(Yd (Kd.R_far (p:=⟨gb523,0,none⟩) (Kd.R_types HO522.out BK523.out (by decide)) (fun _ hk=>hk.2) (.slice Ao45 t517.length co45)) (fun _ h_=>h_.1))):P:=h
theorem z9_26 {P:Prop} (h:P:=by(with_reducible repeat(first|apply Zw|apply Zu|apply Zr));exact(Yd (Kd.R_far (p:=⟨gb523,0,none⟩) (Kd.R_types HO522.out BK523.out (by decide)) (fun _ hk=>hk.2) (.slice Ao22 t517.length co22)) (fun _ h_=>h_.1))):P:=h
theorem z9_27 {P:Prop} (h:P:=by(with_reducible repeat(first|refine blk_drewN ?_ _|refine blk_drew ?_|refine blk_alloc ?_ _));exact BK513.out):P:=h
def impl_TraceCost.l0:Nat→Int→List (S64)→Int→Int→Option (Int)
 |0,_,_,_,_=>none
 |k+1,x3,x7,x8,x9=>if x9<x8 then (if 0≤x9 then (if x9<(x7.length:Int) then (impl_TraceCost.l0 k (wrap64 (x3+((rd_T64 x7 x9).f0))) x7 x8 (wrap64 (x9+1))) else (none)) else (none)) else (some x3)
def impl_TraceCost.f (k:Nat) (l0_0:List (S64)) (l0_1:List Int):Option (Int):=impl_TraceCost.l0 k 0 l0_0 (l0_0.length:Int) 0
set_option maxHeartbeats 8000000 in
set_option maxRecDepth 100000 in
theorem impl_TraceCost.calls (k:Nat) (A0_0:Option Addr) (c0_0:Nat) (l0_0:List (S64)) (A0_1:Option Addr) (c0_1:Nat) (l0_1:List Int) (r:Int) (w:World) (hr0_0:Kd.C k64 w A0_0 l0_0.length l0_0) (hc0_0:l0_0.length≤c0_0) (hr0_1:Kd.C (Kd.int .i64) w A0_1 l0_1.length l0_1) (hc0_1:l0_1.length≤c0_1) (h:impl_TraceCost.f k l0_0 l0_1=some r):
  Calls Tryz.prog 25 #[.agg #[.slice A0_0 l0_0.length c0_0,.slice A0_1 l0_1.length c0_1]] w fun e w'=>e= .returned (.int .i64 r)∧Below w.heap.size w w':=by
 have hu33:=Tryz.underlying33
 have hu64:=Tryz.underlying64
 have HR0_0:=Za hr0_0
 have HC0_0:=Za hc0_0
 clear hr0_0 hc0_0
 have HR0_1:=Za hr0_1
 have HC0_1:=Za hc0_1
 clear hr0_1 hc0_1
 have HB:=Za (Yb w.heap.size w)
 have H:(impl_TraceCost.l0 k 0 l0_0 (l0_0.length:Int) 0)=some r:=h
 clear h
 have H':=Za H
 clear H
 go_enter Tryz.func25,Tryz.ntmps25
 go_wp2_with (first|((with_reducible refine Zq (N:=1) rfl ?_);refine Zs ?hg (N:=1) ?hd (cs:= #[.slice A0_0 l0_0.length c0_0,.slice A0_1 l0_1.length c0_1]) (t:=33) ?hr ?_;(case hd=>rfl);(case hg=>rfl);(case hr=>first|(go_simp;done)|(go_simp;rfl));intro gb513 hg w2 hbox hb;have BK513:=Za (hbox);have GW513:=Za ((by rw[hg];exact(Yh z9_4):w.heap.size≤gb513));have GE513:=Za ((by rw[hg];exact(Yh z9_4):w.heap.size≤gb513));replace HB:=Za (Zj z9_4 hb);clear hb hbox hg;have hcz3_0:w2.cell? ⟨gb513,0,none⟩=some (.slice A0_0 l0_0.length c0_0):=(Zb BK513.out 0).trans rfl;have hcz3_1:w2.cell? ⟨gb513,1,none⟩=some (.slice A0_1 l0_1.length c0_1):=(Zb BK513.out 1).trans rfl;have hfz3_0:=Zc BK513.out 0;have hfz3_1:=Zc BK513.out 1))
 go_loopg [3,9] k (fun kq v3 v9 w'=>∃(x3_1:Int) (x9_1:Int),v3= .int .i64 x3_1∧v9= .int .i64 x9_1∧Aside0 (impl_TraceCost.l0 kq x3_1 l0_0 (l0_0.length:Int) x9_1=some r)∧Aside0 (kq≤k)∧Aside0 (w'.heap[gb513]? =some (.cells #[(.slice A0_0 l0_0.length c0_0),(.slice A0_1 l0_1.length c0_1)] 33 (0,0)))∧Aside0 (Below w.heap.size w w'))
 case atStart=>exact⟨(0),(0),(by first|rfl|(simp;done)|(simp[*];done)),(by first|rfl|(simp;done)|(simp[*];done)),H',⟨Nat.le_refl _⟩,⟨by(with_reducible repeat(first|refine blk_drewN ?_ _|refine blk_drew ?_|refine blk_alloc ?_ _));exact BK513.out⟩,⟨by repeat(first|(with_reducible first|exact HB.out|apply Zi|apply Zf|apply Ze|refine Zd ?_ GE513.out)|exact HB.out)⟩⟩
 case round=>
  clear H'
  (try clear hcz3_0);(try clear hcz3_1);(try clear hfz3_0);(try clear hfz3_1)
  obtain⟨x3_1,x9_1,rfl,rfl,HA,HK1,BK513,HB⟩:=hrel
  cases gk with
  |zero=>exact absurd HA.out (by simp[impl_TraceCost.l0])
  |succ k1=>
   have H:=HA.out
   clear HA
   simp only[impl_TraceCost.l0] at H
   by_cases c4:x9_1<(l0_0.length:Int)
   ·rw[if_pos c4] at H
    have c4b0:decide (x9_1<(l0_0.length:Int))=true:=Zp c4
    clear c4
    by_cases c5:0≤x9_1
    ·rw[if_pos c5] at H
     have c5b0:decide (0≤x9_1)=true:=Zp c5
     clear c5
     by_cases c6:x9_1<(l0_0.length:Int)
     ·rw[if_pos c6] at H
      have c6b0:decide (x9_1<(l0_0.length:Int))=true:=Zp c6
      clear c6
      have H':=Za H
      clear H
      have p514:0≤(x9_1:Int):=Zt (by first|(with_reducible assumption)|assumption)
      have q514:x9_1<(l0_0.length:Int):=Zt (by first|(with_reducible assumption)|assumption)
      obtain⟨ad514,e514,hx514_0,hx514_1,hx514_2⟩:=at_T64 HR0_0.out x9_1 p514 q514
      cases e514
      replace hx514_0:=(HB.out.cell (Yf w _ hx514_0)).trans hx514_0
      replace hx514_1:=(HB.out.cell (Yf w _ hx514_1)).trans hx514_1
      replace hx514_2:=(HB.out.cell (Yf w _ hx514_2)).trans hx514_2
      replace p514:=eq_true p514
      replace q514:=eq_true q514
      go_wp2_with (first|((with_reducible refine Zq (N:=5) rfl ?_);refine Zs ?hg (N:=5) ?hd (cs:= #[.int .i64 0,.int .i64 0,.int .i64 0]) (t:=64) ?hr ?_;(case hd=>rfl);(case hg=>rfl);(case hr=>first|(go_simp;done)|(go_simp;rfl));intro gb515 hg w7 hbox hb;have BK515:=Za (hbox);have GW515:=Za ((by rw[hg];exact(Yh z9_21):w.heap.size≤gb515));have GE515:=Za ((by rw[hg];exact(Yh z9_21):w.heap.size≤gb515));replace HB:=Za (Zj z9_21 hb);have NB513_515:=Za ((by rw[hg];exact Nat.ne_of_lt (blk_lt (g:=gb513) (o:= .cells #[.slice (some ad514) l0_0.length c0_0,.slice A0_1 l0_1.length c0_1] 33 (0,0)) z9_27):gb513≠gb515));have NB515_513:=Za ((by rw[hg];exact Nat.ne_of_gt (blk_lt (g:=gb513) (o:= .cells #[.slice (some ad514) l0_0.length c0_0,.slice A0_1 l0_1.length c0_1] 33 (0,0)) z9_27):gb515≠gb513));replace BK513:=Za (Zg (g:=gb513) (o:= .cells #[.slice (some ad514) l0_0.length c0_0,.slice A0_1 l0_1.length c0_1] 33 (0,0)) z9_27 hb);clear hb hbox hg;have hnb8:=NB515_513.out;have hnc8:=NB513_515.out;have hcz9_0:w7.cell? ⟨gb515,0,none⟩=some (.int .i64 0):=(Zb BK515.out 0).trans rfl;have hcz9_1:w7.cell? ⟨gb515,1,none⟩=some (.int .i64 0):=(Zb BK515.out 1).trans rfl;have hcz9_2:w7.cell? ⟨gb515,2,none⟩=some (.int .i64 0):=(Zb BK515.out 2).trans rfl;have hfz9_0:=Zc BK515.out 0;have hfz9_1:=Zc BK515.out 1;have hfz9_2:=Zc BK515.out 2))
      go_roundg k1
      case measure=>have:=HK1.out;omega
      case rel=>exact⟨(wrap64 (x3_1+((rd_T64 l0_0 x9_1).f0))),(wrap64 (x9_1+1)),(by first|rfl|(simp;done)|(simp[*];done)),(by first|rfl|(simp;done)|(simp[*];done)),H',⟨by have:=HK1.out;omega⟩,⟨by(with_reducible repeat(first|refine blk_drewN ?_ _|refine blk_drew ?_|refine blk_alloc ?_ _));refine blk_far ?_ NB513_515.out _;(with_reducible repeat(first|refine blk_drewN ?_ _|refine blk_drew ?_|refine blk_alloc ?_ _));refine blk_far ?_ NB513_515.out _;(with_reducible repeat(first|refine blk_drewN ?_ _|refine blk_drew ?_|refine blk_alloc ?_ _));refine blk_far ?_ NB513_515.out _;(with_reducible repeat(first|refine blk_drewN ?_ _|refine blk_drew ?_|refine blk_alloc ?_ _));exact BK513.out⟩,⟨by repeat(first|(with_reducible first|exact HB.out|apply Zi|apply Zf|apply Ze|refine Zd ?_ GE513.out|refine Zd ?_ GE515.out)|exact HB.out)⟩⟩
     ·rw[if_neg c6] at H
      exact absurd H (by simp)
    ·rw[if_neg c5] at H
     exact absurd H (by simp)
   ·rw[if_neg c4] at H
    have c4b0:decide (x9_1<(l0_0.length:Int))=false:=Yc c4
    clear c4
    obtain rfl:=Zo H
    go_wp2
    go_ret
    exact⟨by first|rfl|(simp[errW_none,errW_some]<;>rfl)|(simp[*,errW_none,errW_some]<;>rfl)|(simp[*,errW_none,errW_some,i64_w];done),by repeat(first|(with_reducible first|exact HB.out|apply Zi|apply Zf|apply Ze|refine Zd ?_ GE513.out)|exact HB.out)⟩
def laws_FnCounted.j0:Nat→List Int→Option (Bool)
 |0,_=>none
 |k+1,x0=>(spec_DrawMemory.f k x0).bind fun bt517=>((spec_DrawReadings.f k x0).bind fun t524=>((spec_DrawPlaces.f k x0).bind fun t527=>((impl_TraceOf.f k bt517.1 bt517.2 t524 0).bind fun bt530=>(if 0<(t527.length:Int) then ((impl_CountSteps.f k bt530.1 bt530.2.1 (Int.tmod (rd t527 0) 200)).bind fun t539=>((impl_TraceCost.f k bt530.1 bt530.2.1).bind fun t540=>(if bt530.2.2=true then ((impl_CountSteps.f k bt530.1 bt530.2.1 (wrap64 ((Int.tmod (rd t527 0) 200)+1))).bind fun t541=>(if t539≤t541 then ((impl_CountSteps.f k bt530.1 bt530.2.1 t540).bind fun t542=>(if t542=(bt530.1.length:Int) then ((impl_CountSteps.f k bt530.1 bt530.2.1 (wrap64 (t540 - 1))).bind fun t543=>(if t543<(bt530.1.length:Int) then (if (Int.tmod (rd t527 0) 200)<t540 then (some true) else (some (t539==(bt530.1.length:Int)))) else (some false))) else (some false))) else (some false))) else (some false)))) else (none)))))
def laws_FnCounted.f (k:Nat) (l0:List Int):Option (Bool):=(laws_big.f l0).bind fun t516=>(if t516=true then (some true) else (laws_FnCounted.j0 k l0))
def laws_FnCounted.T10:Bool×List (List Nat×List Nat):=(true,[([],[]),([0],[0]),([1],[1]),([1],[1]),([1],[1]),([4,1],[1,4]),([3,5,1,1],[1,3,5]),([2,6,1],[1,2,6]),([1,7],[1,7]),([8,6],[8]),([9],[9]),([9],[9]),([10,11,9,9],[9,10,11]),([9],[9]),([13,9],[9,13]),([14,9],[9,14]),([12,15,9],[9,12,15]),([9,16],[9,16]),([17,12],[17]),([18],[18]),([18],[18]),([20,18],[18,20]),([19,21,18,18],[18,19,21]),([18],[18]),([23,18],[18,23]),([24,18],[18,24]),([22,25,18],[18,22,25]),([18,26],[18,26]),([27,22],[27]),([28],[28]),([28],[28]),([29,30,28],[28,29,30]),([31,28,28],[28,31]),([32],[32]),([32],[32]),([34,32],[32,34]),([35,32],[32,35]),([33,36,32],[32,33,36]),([32,37,28],[28,32,37]),([28,38],[28,38]),([39,32,0,1,2,3,4,5,6,7,8,9,10,11,12,13,14,15,16,17,18,19,20,21,22,23,24,25,26,27,28,29,30,31,32,33,34,35,36,37,38,39],[39])])
def laws_FnCounted.B10:List Nat:=[0,1,3,3,3,19,59,127,255,511,1023,1023,4095,1023,9215,25599,65535,131071,262143,524287,524287,1572863,4194303,524287,8912895,25690111,67108863,134217727,268435455,536870911,536870911,2147483647,4294967295,8589934591,8589934591,25769803775,60129542143,137438953471,274877906943,549755813887,1099511627775]
theorem laws_FnCounted.tab10:rtab .any (opsOf Tryz.f5 10)=laws_FnCounted.T10:=by kernel_rfl
theorem laws_FnCounted.bits10:waitsOk laws_FnCounted.T10.2 laws_FnCounted.B10=true:=by kernel_rfl
set_option maxHeartbeats 8000000 in
set_option maxRecDepth 100000 in
theorem laws_FnCounted.calls (k:Nat) (A0:Option Addr) (c0:Nat) (l0:List Int) (r:Bool) (w:World) (hr0:Kd.C (Kd.int .u8) w A0 l0.length l0) (hc0:l0.length≤c0) (h:laws_FnCounted.f k l0=some r) (hT:Aside0 (r=true)):
  Calls Tryz.prog 5 #[.slice A0 l0.length c0] w fun e w'=>e= .returned (.bool r)∧Below w.heap.size w w':=by
 have hu26:=Tryz.underlying26
 have hu33:=Tryz.underlying33
 have HR0:=Za hr0
 have HC0:=Za hc0
 clear hr0 hc0
 have HB:=Za (Yb w.heap.size w)
 have H:((laws_big.f l0).bind fun t516=>(if t516=true then (some true) else (laws_FnCounted.j0 k l0)))=some r:=h
 clear h
 replace H:=Zh H
 obtain⟨t516,A20,H⟩:=H
 replace H:(if t516=true then (some true) else (laws_FnCounted.j0 k l0))=some r:=H
 have A2:=Za A20
 clear A20
 have HC3:=Za H
 clear H
 go_enter Tryz.func5,Tryz.ntmps5
 go_upto_if 13 with(first|((first|((with_reducible refine gate_callee (f:=7) rfl ?_);refine goesL_ (some 13) rfl rfl Tryz.func7 z9_13 rfl #[.slice A0 l0.length c0] rfl z9_1 ?_;(with_reducible refine(laws_big.calls _ _ l0 t516 _ ?side1 ?side2 A2.out).mono ?_))|(go_at_call 7;(with_reducible refine(laws_big.calls _ _ l0 t516 _ ?side1 ?side2 A2.out).mono ?_)));(case side1=>repeat(first|exact HR0.out|(with_reducible refine Yo ?_ _)|(with_reducible refine Yn ?_ _)|(with_reducible refine Yp ?_)));(case side2=>exact HC0.out);rintro e w' ⟨rfl,⟨nd,rfl⟩⟩;(first|refine⟨_,rfl,?_⟩|skip)))
 (try simp only[Act.put,Zk,Zl,Zm])
 go_cut [] (fun wc=>∃(kq:Nat),Aside0 (laws_FnCounted.j0 kq l0=some r)∧Aside0 (kq≤k)∧Aside0 (Below w.heap.size w wc))
 case first=>
  have H:=HC3.out
  clear HC3
  by_cases c4:t516=true
  ·subst c4
   rw[if_pos rfl] at H
   obtain rfl:=Zo H
   go_wp2
   go_ret
   exact⟨by first|rfl|(simp[errW_none,errW_some]<;>rfl)|(simp[*,errW_none,errW_some]<;>rfl)|(simp[*,errW_none,errW_some,i64_w];done),by repeat(first|(with_reducible first|exact HB.out|apply Zi|apply Zf|apply Ze)|exact HB.out)⟩
  ·replace c4:=Bool.eq_false_iff.mpr c4
   subst c4
   rw[if_neg (show ¬(false=true) by decide)] at H
   have H':=Za H
   clear H
   go_wp2
   go_meet
   case rel=>exact⟨_,H',⟨by first|omega|exact Nat.le_refl _⟩,⟨by repeat(first|(with_reducible first|exact HB.out|apply Zi|apply Zf|apply Ze)|exact HB.out)⟩⟩
 case rest=>
  clear HC3
  obtain⟨kq,HA,HJ2,HB⟩:=hcut
  cases kq with
  |zero=>exact absurd HA.out (by simp[laws_FnCounted.j0])
  |succ kj2=>
   have H:=HA.out
   clear HA
   simp only[laws_FnCounted.j0] at H
   replace H:=Zh H
   obtain⟨⟨t517,t520⟩,A50,H⟩:=H
   replace H:((spec_DrawReadings.f kj2 l0).bind fun t524=>((spec_DrawPlaces.f kj2 l0).bind fun t527=>((impl_TraceOf.f kj2 t517 t520 t524 0).bind fun bt530=>(if 0<(t527.length:Int) then ((impl_CountSteps.f kj2 bt530.1 bt530.2.1 (Int.tmod (rd t527 0) 200)).bind fun t539=>((impl_TraceCost.f kj2 bt530.1 bt530.2.1).bind fun t540=>(if bt530.2.2=true then ((impl_CountSteps.f kj2 bt530.1 bt530.2.1 (wrap64 ((Int.tmod (rd t527 0) 200)+1))).bind fun t541=>(if t539≤t541 then ((impl_CountSteps.f kj2 bt530.1 bt530.2.1 t540).bind fun t542=>(if t542=(bt530.1.length:Int) then ((impl_CountSteps.f kj2 bt530.1 bt530.2.1 (wrap64 (t540 - 1))).bind fun t543=>(if t543<(bt530.1.length:Int) then (if (Int.tmod (rd t527 0) 200)<t540 then (some true) else (some (t539==(bt530.1.length:Int)))) else (some false))) else (some false))) else (some false))) else (some false)))) else (none)))))=some r:=H
   have A5:=Za A50
   clear A50
   replace H:=Zh H
   obtain⟨t524,A60,H⟩:=H
   replace H:((spec_DrawPlaces.f kj2 l0).bind fun t527=>((impl_TraceOf.f kj2 t517 t520 t524 0).bind fun bt530=>(if 0<(t527.length:Int) then ((impl_CountSteps.f kj2 bt530.1 bt530.2.1 (Int.tmod (rd t527 0) 200)).bind fun t539=>((impl_TraceCost.f kj2 bt530.1 bt530.2.1).bind fun t540=>(if bt530.2.2=true then ((impl_CountSteps.f kj2 bt530.1 bt530.2.1 (wrap64 ((Int.tmod (rd t527 0) 200)+1))).bind fun t541=>(if t539≤t541 then ((impl_CountSteps.f kj2 bt530.1 bt530.2.1 t540).bind fun t542=>(if t542=(bt530.1.length:Int) then ((impl_CountSteps.f kj2 bt530.1 bt530.2.1 (wrap64 (t540 - 1))).bind fun t543=>(if t543<(bt530.1.length:Int) then (if (Int.tmod (rd t527 0) 200)<t540 then (some true) else (some (t539==(bt530.1.length:Int)))) else (some false))) else (some false))) else (some false))) else (some false)))) else (none))))=some r:=H
   have A6:=Za A60
   clear A60
   replace H:=Zh H
   obtain⟨t527,A70,H⟩:=H
   replace H:((impl_TraceOf.f kj2 t517 t520 t524 0).bind fun bt530=>(if 0<(t527.length:Int) then ((impl_CountSteps.f kj2 bt530.1 bt530.2.1 (Int.tmod (rd t527 0) 200)).bind fun t539=>((impl_TraceCost.f kj2 bt530.1 bt530.2.1).bind fun t540=>(if bt530.2.2=true then ((impl_CountSteps.f kj2 bt530.1 bt530.2.1 (wrap64 ((Int.tmod (rd t527 0) 200)+1))).bind fun t541=>(if t539≤t541 then ((impl_CountSteps.f kj2 bt530.1 bt530.2.1 t540).bind fun t542=>(if t542=(bt530.1.length:Int) then ((impl_CountSteps.f kj2 bt530.1 bt530.2.1 (wrap64 (t540 - 1))).bind fun t543=>(if t543<(bt530.1.length:Int) then (if (Int.tmod (rd t527 0) 200)<t540 then (some true) else (some (t539==(bt530.1.length:Int)))) else (some false))) else (some false))) else (some false))) else (some false)))) else (none)))=some r:=H
   have A7:=Za A70
   clear A70
   replace H:=Zh H
   obtain⟨⟨t530,t533,t536⟩,A80,H⟩:=H
   replace H:(if 0<(t527.length:Int) then ((impl_CountSteps.f kj2 t530 t533 (Int.tmod (rd t527 0) 200)).bind fun t539=>((impl_TraceCost.f kj2 t530 t533).bind fun t540=>(if t536=true then ((impl_CountSteps.f kj2 t530 t533 (wrap64 ((Int.tmod (rd t527 0) 200)+1))).bind fun t541=>(if t539≤t541 then ((impl_CountSteps.f kj2 t530 t533 t540).bind fun t542=>(if t542=(t530.length:Int) then ((impl_CountSteps.f kj2 t530 t533 (wrap64 (t540 - 1))).bind fun t543=>(if t543<(t530.length:Int) then (if (Int.tmod (rd t527 0) 200)<t540 then (some true) else (some (t539==(t530.length:Int)))) else (some false))) else (some false))) else (some false))) else (some false)))) else (none))=some r:=H
   have A8:=Za A80
   clear A80
   by_cases c9:0<(t527.length:Int)
   ·rw[if_pos c9] at H
    have c9b0:decide (0<(t527.length:Int))=true:=Zp c9
    have c9b1:decide (0<t527.length)=true:=Zp (by omega)
    clear c9
    replace H:=Zh H
    obtain⟨t539,A100,H⟩:=H
    replace H:((impl_TraceCost.f kj2 t530 t533).bind fun t540=>(if t536=true then ((impl_CountSteps.f kj2 t530 t533 (wrap64 ((Int.tmod (rd t527 0) 200)+1))).bind fun t541=>(if t539≤t541 then ((impl_CountSteps.f kj2 t530 t533 t540).bind fun t542=>(if t542=(t530.length:Int) then ((impl_CountSteps.f kj2 t530 t533 (wrap64 (t540 - 1))).bind fun t543=>(if t543<(t530.length:Int) then (if (Int.tmod (rd t527 0) 200)<t540 then (some true) else (some (t539==(t530.length:Int)))) else (some false))) else (some false))) else (some false))) else (some false)))=some r:=H
    have A10:=Za A100
    clear A100
    replace H:=Zh H
    obtain⟨t540,A110,H⟩:=H
    replace H:(if t536=true then ((impl_CountSteps.f kj2 t530 t533 (wrap64 ((Int.tmod (rd t527 0) 200)+1))).bind fun t541=>(if t539≤t541 then ((impl_CountSteps.f kj2 t530 t533 t540).bind fun t542=>(if t542=(t530.length:Int) then ((impl_CountSteps.f kj2 t530 t533 (wrap64 (t540 - 1))).bind fun t543=>(if t543<(t530.length:Int) then (if (Int.tmod (rd t527 0) 200)<t540 then (some true) else (some (t539==(t530.length:Int)))) else (some false))) else (some false))) else (some false))) else (some false))=some r:=H
    have A11:=Za A110
    clear A110
    by_cases c12:t536=true
    ·subst c12
     rw[if_pos rfl] at H
     replace H:=Zh H
     obtain⟨t541,A130,H⟩:=H
     replace H:(if t539≤t541 then ((impl_CountSteps.f kj2 t530 t533 t540).bind fun t542=>(if t542=(t530.length:Int) then ((impl_CountSteps.f kj2 t530 t533 (wrap64 (t540 - 1))).bind fun t543=>(if t543<(t530.length:Int) then (if (Int.tmod (rd t527 0) 200)<t540 then (some true) else (some (t539==(t530.length:Int)))) else (some false))) else (some false))) else (some false))=some r:=H
     have A13:=Za A130
     clear A130
     by_cases c14:t539≤t541
     ·rw[if_pos c14] at H
      have c14b0:decide (t539≤t541)=true:=Zp c14
      clear c14
      replace H:=Zh H
      obtain⟨t542,A150,H⟩:=H
      replace H:(if t542=(t530.length:Int) then ((impl_CountSteps.f kj2 t530 t533 (wrap64 (t540 - 1))).bind fun t543=>(if t543<(t530.length:Int) then (if (Int.tmod (rd t527 0) 200)<t540 then (some true) else (some (t539==(t530.length:Int)))) else (some false))) else (some false))=some r:=H
      have A15:=Za A150
      clear A150
      by_cases c16:t542=(t530.length:Int)
      ·rw[if_pos c16] at H
       have c16b0:(t542==(t530.length:Int))=true:=beq_iff_eq.mpr c16
       have c16b1:(t542 != (t530.length:Int))=false:=bne_eq_false_iff_eq.mpr c16
       clear c16
       replace H:=Zh H
       obtain⟨t543,A170,H⟩:=H
       replace H:(if t543<(t530.length:Int) then (if (Int.tmod (rd t527 0) 200)<t540 then (some true) else (some (t539==(t530.length:Int)))) else (some false))=some r:=H
       have A17:=Za A170
       clear A170
       by_cases c18:t543<(t530.length:Int)
       ·rw[if_pos c18] at H
        have c18b0:decide (t543<(t530.length:Int))=true:=Zp c18
        clear c18
        by_cases c19:(Int.tmod (rd t527 0) 200)<t540
        ·rw[if_pos c19] at H
         have c19b0:decide ((Int.tmod (rd t527 0) 200)<t540)=true:=Zp c19
         clear c19
         obtain rfl:=Zo H
         try go_wp2_with (first|((first|((with_reducible refine gate_callee (f:=8) rfl ?_);refine goesL_ (some 16) rfl rfl Tryz.func8 z9_13 rfl #[.slice A0 l0.length c0] rfl z9_1 ?_;(with_reducible refine(spec_DrawMemory.calls kj2 _ _ l0 t517 t520 _ ?side1 ?side2 A5.out).mono ?_))|(go_at_call 8;(with_reducible refine(spec_DrawMemory.calls kj2 _ _ l0 t517 t520 _ ?side1 ?side2 A5.out).mono ?_)));(case side1=>exact z9_15);(case side2=>exact HC0.out);rintro e w20 ⟨v518,v521,rfl,ho0,ho1,hb⟩;(first|refine⟨_,rfl,?_⟩|skip);have HO519:=Za (Kd.S_lower ho0 (Yh z9_4));have HO522:=Za (Yr ho1 (Yh z9_4));replace HB:=Za (Zj z9_4 hb);(try clear hb);(try clear hb2);(try clear hk);(try clear hi);(try clear ho0);(try clear ho1))|((with_reducible refine Zq (N:=3) rfl ?_);(try(refine gate_guard (by rfl) ?_;dsimp only));refine Zs ?hg (N:=3) ?hd (cs:= #[.slice none 0 0]) (t:=26) ?hr ?_;(case hd=>rfl);(case hg=>rfl);(case hr=>first|(go_simp;done)|(go_simp;rfl));intro gb523 hg w21 hbox hb;replace HO519:=Za (Kd.S_below z9_7 hb);replace HO522:=Za (Kd.R_below z9_3 hb);have BK523:=Za (hbox);have GW523:=Za ((by rw[hg];exact(Yh z9_4):w.heap.size≤gb523));have GE523:=Za ((by rw[hg];exact(Yh z9_4):w.heap.size≤gb523));replace HB:=Za (Zj z9_4 hb);clear hb hbox hg;obtain⟨Ao22,co22,eo22⟩:=Kd.S_slice HO519.out;subst eo22;have hcz23_0:w21.cell? ⟨gb523,0,none⟩=some (.slice none 0 0):=(Zb BK523.out 0).trans rfl;have hfz23_0:=Zc BK523.out 0)|((first|((with_reducible refine gate_callee (f:=9) rfl ?_);refine goesL_ (some 20) rfl rfl Tryz.func9 z9_13 rfl #[.slice A0 l0.length c0] rfl z9_1 ?_;(with_reducible refine(spec_DrawReadings.calls kj2 _ _ l0 t524 _ ?side1 ?side2 A6.out).mono ?_))|(go_at_call 9;(with_reducible refine(spec_DrawReadings.calls kj2 _ _ l0 t524 _ ?side1 ?side2 A6.out).mono ?_)));(case side1=>exact Yj HR0.out z9_0);(case side2=>exact HC0.out);rintro e w24 ⟨v525,rfl,ho0,hb⟩;(first|refine⟨_,rfl,?_⟩|skip);replace HO519:=Za (Kd.S_below (by(with_reducible repeat(first|apply Kd.S_alloc|apply Kd.S_drewN|apply Kd.S_drew));exact(Kd.S_mono (Kd.S_far (p:=⟨gb523,0,none⟩) (Kd.S_types HO519.out BK523.out (by decide)) (fun _ hk=>hk.2) (.slice Ao22 t517.length co22)) (fun _ h_=>h_.1))) hb);have HO526:=Za (Yr (Kd.R_new' ho0 (Kd.R_lt z9_26)) (Yh z9_0));replace HO522:=Za (Kd.R_elder' z9_26 (Yi ho0) hb);replace BK523:=Za (Zg (g:=gb523) (o:= .cells #[.slice Ao22 t517.length co22] 26 (0,0)) z9_24 hb);replace HB:=Za (Zj z9_0 hb);(try clear hb);(try clear hb2);(try clear hk);(try clear hi);(try clear ho0))|((first|((with_reducible refine gate_callee (f:=12) rfl ?_);refine goesL_ (some 22) rfl rfl Tryz.func12 z9_13 rfl #[.slice A0 l0.length c0] rfl z9_1 ?_;(with_reducible refine(spec_DrawPlaces.calls kj2 _ _ l0 t527 _ ?side1 ?side2 A7.out).mono ?_))|(go_at_call 12;(with_reducible refine(spec_DrawPlaces.calls kj2 _ _ l0 t527 _ ?side1 ?side2 A7.out).mono ?_)));(case side1=>exact z9_15);(case side2=>exact HC0.out);rintro e w25 ⟨v528,rfl,ho0,hb⟩;(first|refine⟨_,rfl,?_⟩|skip);replace HO519:=Za (Kd.S_below z9_7 hb);have HO529:=Za (Yr (Kd.R_new' (Kd.R_new' ho0 (Kd.R_lt z9_3)) (Kd.R_lt z9_6)) (Yh z9_0));replace HO522:=Za (Kd.R_elder' z9_3 (Yi ho0) hb);replace HO526:=Za (Kd.R_elder' z9_6 (Yi ho0) hb);replace BK523:=Za (Zg (g:=gb523) (o:= .cells #[.slice Ao22 t517.length co22] 26 (0,0)) z9_2 hb);replace HB:=Za (Zj z9_0 hb);(try clear hb);(try clear hb2);(try clear hk);(try clear hi);(try clear ho0);have hcz26_0:w25.cell? ⟨gb523,0,none⟩=some (.slice Ao22 t517.length co22):=(Zb BK523.out 0).trans rfl;have hfz26_0:=Zc BK523.out 0;obtain⟨Ao27,co27,eo27⟩:=Yk HO522.out;subst eo27;obtain⟨Ao28,co28,eo28⟩:=Yk HO526.out;subst eo28)|((first|((with_reducible refine gate_callee (f:=10) rfl ?_);refine goesL_ (some 27) rfl rfl Tryz.func10 z9_13 rfl #[.agg #[.slice Ao22 t517.length co22],.slice Ao27 t520.length co27,.slice Ao28 t524.length co28,.int .i64 0] rfl z9_1 ?_;(with_reducible refine(impl_TraceOf.calls kj2 _ _ t517 _ _ t520 _ _ t524 0 t530 t533 true _ ?side1 ?side2 ?side3 ?side4 ?side5 ?side6 A8.out).mono ?_))|(go_at_call 10;(with_reducible refine(impl_TraceOf.calls kj2 _ _ t517 _ _ t520 _ _ t524 0 t530 t533 true _ ?side1 ?side2 ?side3 ?side4 ?side5 ?side6 A8.out).mono ?_)));(case side1=>repeat(first|exact(Kd.S_reads' HO519.out).2.2|(with_reducible refine Yo ?_ _)|(with_reducible refine Yn ?_ _)|(with_reducible refine Yp ?_)));(case side2=>exact(Kd.S_reads' HO519.out).2.1);(case side3=>repeat(first|exact(Yq HO522.out).2.2|(with_reducible refine Yo ?_ _)|(with_reducible refine Yn ?_ _)|(with_reducible refine Yp ?_)));(case side4=>exact(Yq HO522.out).2.1);(case side5=>repeat(first|exact(Yq HO526.out).2.2|(with_reducible refine Yo ?_ _)|(with_reducible refine Yn ?_ _)|(with_reducible refine Yp ?_)));(case side6=>exact(Yq HO526.out).2.1);rintro e w29 ⟨v531,v534,rfl,ho0,ho1,hb⟩;(first|refine⟨_,rfl,?_⟩|skip);replace HO519:=Za (Kd.S_below z9_7 hb);have HO532:=Za (Yr ho0 (Yh z9_0));have HO535:=Za (Yr (Kd.R_new' (Kd.R_new' (Kd.R_new' ho1 (Kd.R_lt z9_3)) (Kd.R_lt z9_6)) (Kd.R_lt z9_8)) (Yh z9_0));replace HO522:=Za (Kd.R_elder' z9_3 (Yi ho1) hb);replace HO526:=Za (Kd.R_elder' z9_6 (Yi ho1) hb);replace HO529:=Za (Kd.R_elder' z9_8 (Yi ho1) hb);replace BK523:=Za (Zg (g:=gb523) (o:= .cells #[.slice Ao22 t517.length co22] 26 (0,0)) z9_2 hb);replace HB:=Za (Zj z9_0 hb);(try clear hb);(try clear hb2);(try clear hk);(try clear hi);(try clear ho0);(try clear ho1))|((with_reducible refine Zq (N:=7) rfl ?_);(try(refine gate_guard (by rfl) ?_;dsimp only));refine Zs ?hg (N:=7) ?hd (cs:= #[.slice none 0 0,.slice none 0 0]) (t:=33) ?hr ?_;(case hd=>rfl);(case hg=>rfl);(case hr=>first|(go_simp;done)|(go_simp;rfl));intro gb537 hg w30 hbox hb;replace HO519:=Za (Kd.S_below z9_7 hb);replace HO522:=Za (Kd.R_below z9_3 hb);replace HO526:=Za (Kd.R_below z9_6 hb);replace HO529:=Za (Kd.R_below z9_8 hb);replace HO532:=Za (Kd.R_below z9_12 hb);replace HO535:=Za (Kd.R_below z9_11 hb);have BK537:=Za (hbox);have GW537:=Za ((by rw[hg];exact(Yh z9_0):w.heap.size≤gb537));have GE537:=Za ((by rw[hg];exact(Yh z9_0):w.heap.size≤gb537));replace HB:=Za (Zj z9_0 hb);have NB523_537:=Za ((by rw[hg];exact Nat.ne_of_lt (blk_lt (g:=gb523) (o:= .cells #[.slice Ao22 t517.length co22] 26 (0,0)) z9_2):gb523≠gb537));have NB537_523:=Za ((by rw[hg];exact Nat.ne_of_gt (blk_lt (g:=gb523) (o:= .cells #[.slice Ao22 t517.length co22] 26 (0,0)) z9_2):gb537≠gb523));replace BK523:=Za (Zg (g:=gb523) (o:= .cells #[.slice Ao22 t517.length co22] 26 (0,0)) z9_2 hb);clear hb hbox hg;obtain⟨Ao31,co31,eo31⟩:=Yk HO532.out;subst eo31;have hnb32:=NB537_523.out;have hnc32:=NB523_537.out;have hcz33_0:w30.cell? ⟨gb537,0,none⟩=some (.slice none 0 0):=(Zb BK537.out 0).trans rfl;have hcz33_1:w30.cell? ⟨gb537,1,none⟩=some (.slice none 0 0):=(Zb BK537.out 1).trans rfl;have hfz33_0:=Zc BK537.out 0;have hfz33_1:=Zc BK537.out 1;obtain⟨Ao34,co34,eo34⟩:=Yk HO535.out;subst eo34;obtain⟨Ao35,co35,eo35⟩:=Yk HO529.out;subst eo35;have p538:0≤(0:Int):=(by omega);have q538:0<(t527.length:Int):=Zt (by first|(with_reducible assumption)|assumption);obtain⟨ad538,e538,hx538_0⟩:=Kd.at_int (Yq HO529.out).2.2 0 p538 q538;cases e538;have qi538:(0<t527.length)=True:=eq_true (by omega);(try rw[show((0:Int)).toNat=0 from rfl] at hx538_0);(try rw[Addr.add_zero'] at hx538_0);have hn538_0:ad538.block≠gb537:=Kd.own_blk (Kd.R_ne HO529.out BK537.out (by decide));have hn538_1:ad538.block≠gb537:=Kd.own_blk (Kd.R_ne HO529.out BK537.out (by decide));replace hx538_0:=(cell_far (p:=⟨gb537,0,none⟩) (by first|(rw[add_block];exact hn538_0)|(show(Addr.add _ _).block≠_;rw[add_block];exact hn538_0)|exact hn538_0) (.slice Ao31 t530.length co31)).trans hx538_0;replace hx538_0:=(cell_far (p:=⟨gb537,1,none⟩) (by first|(rw[add_block];exact hn538_1)|(show(Addr.add _ _).block≠_;rw[add_block];exact hn538_1)|exact hn538_1) (.slice Ao34 t533.length co34)).trans hx538_0;clear hn538_0;clear hn538_1;replace p538:=eq_true p538;replace q538:=eq_true q538)|((first|((with_reducible refine gate_callee (f:=24) rfl ?_);refine goesL_ (some 36) rfl rfl Tryz.func24 z9_13 rfl #[.agg #[.slice Ao31 t530.length co31,.slice Ao34 t533.length co34],.int .i64 (Int.tmod (rd t527 0) 200)] rfl z9_1 ?_;(with_reducible refine(impl_CountSteps.calls kj2 _ _ t530 _ _ t533 (Int.tmod (rd t527 0) 200) t539 _ ?side1 ?side2 ?side3 ?side4 A10.out).mono ?_))|(go_at_call 24;(with_reducible refine(impl_CountSteps.calls kj2 _ _ t530 _ _ t533 (Int.tmod (rd t527 0) 200) t539 _ ?side1 ?side2 ?side3 ?side4 A10.out).mono ?_)));(case side1=>refine(Yq (e:=64) (base:=w.heap.size) (ok:=fun k_=>True) (n:=t530.length) (c:=co31) ?_).2.2;exact z9_20);(case side2=>exact z9_23);(case side3=>refine(Yq (e:=3) (base:=w.heap.size) (ok:=fun k_=>(((True∧some k_≠(.slice Ao27 t520.length co27:Value).ownBlock)∧some k_≠(.slice Ao28 t524.length co28:Value).ownBlock)∧some k_≠(.slice (some ad538) t527.length co35:Value).ownBlock)) (n:=t533.length) (c:=co34) ?_).2.2;exact z9_18);(case side4=>exact z9_22);rintro e w36 ⟨rfl,hb⟩;(first|refine⟨_,rfl,?_⟩|skip);replace HO519:=Za (Kd.S_below (by(with_reducible repeat(first|apply Kd.S_alloc|apply Kd.S_drewN|apply Kd.S_drew));exact(Kd.S_mono (Kd.S_far (p:=⟨gb537,1,none⟩) (Kd.S_far (p:=⟨gb537,0,none⟩) (Kd.S_types HO519.out BK537.out (by decide)) (fun _ hk=>hk.2) (.slice Ao31 t530.length co31)) (fun _ hk=>hk.2) (.slice Ao34 t533.length co34)) (fun _ h_=>h_.1))) hb);replace HO522:=Za (Kd.R_below (by(with_reducible repeat(first|apply Zw|apply Zu|apply Zr));exact(Yd (Kd.R_far (p:=⟨gb537,1,none⟩) (Kd.R_far (p:=⟨gb537,0,none⟩) (Kd.R_types HO522.out BK537.out (by decide)) (fun _ hk=>hk.2) (.slice Ao31 t530.length co31)) (fun _ hk=>hk.2) (.slice Ao34 t533.length co34)) (fun _ h_=>h_.1))) hb);replace HO526:=Za (Kd.R_below (by(with_reducible repeat(first|apply Zw|apply Zu|apply Zr));exact(Yd (Kd.R_far (p:=⟨gb537,1,none⟩) (Kd.R_far (p:=⟨gb537,0,none⟩) (Kd.R_types HO526.out BK537.out (by decide)) (fun _ hk=>hk.2) (.slice Ao31 t530.length co31)) (fun _ hk=>hk.2) (.slice Ao34 t533.length co34)) (fun _ h_=>h_.1))) hb);replace HO529:=Za (Kd.R_below (by(with_reducible repeat(first|apply Zw|apply Zu|apply Zr));exact(Yd (Kd.R_far (p:=⟨gb537,1,none⟩) (Kd.R_far (p:=⟨gb537,0,none⟩) (Kd.R_types HO529.out BK537.out (by decide)) (fun _ hk=>hk.2) (.slice Ao31 t530.length co31)) (fun _ hk=>hk.2) (.slice Ao34 t533.length co34)) (fun _ h_=>h_.1))) hb);replace HO532:=Za (Kd.R_below z9_20 hb);replace HO535:=Za (Kd.R_below z9_18 hb);replace BK523:=Za (Zg (g:=gb523) (o:= .cells #[.slice Ao22 t517.length co22] 26 (0,0)) z9_16 hb);replace BK537:=Za (Zg (g:=gb537) (o:= .cells #[.slice Ao31 t530.length co31,.slice Ao34 t533.length co34] 33 (0,0)) (by(with_reducible repeat(first|refine blk_drewN ?_ _|refine blk_drew ?_|refine blk_alloc ?_ _));refine blk_put (cs:= #[.slice Ao31 t530.length co31,.slice none 0 0]) ?_ 1 _ rfl;(with_reducible repeat(first|refine blk_drewN ?_ _|refine blk_drew ?_|refine blk_alloc ?_ _));refine blk_put (cs:= #[.slice none 0 0,.slice none 0 0]) ?_ 0 _ rfl;(with_reducible repeat(first|refine blk_drewN ?_ _|refine blk_drew ?_|refine blk_alloc ?_ _));exact BK537.out) hb);replace HB:=Za (Zj z9_5 hb);(try clear hb);(try clear hb2);(try clear hk);(try clear hi);have hcz37_0:w36.cell? ⟨gb537,0,none⟩=some (.slice Ao31 t530.length co31):=(Zb BK537.out 0).trans rfl;have hcz37_1:w36.cell? ⟨gb537,1,none⟩=some (.slice Ao34 t533.length co34):=(Zb BK537.out 1).trans rfl;have hfz37_0:=Zc BK537.out 0;have hfz37_1:=Zc BK537.out 1)|((first|((with_reducible refine gate_callee (f:=25) rfl ?_);refine goesL_ (some 38) rfl rfl Tryz.func25 z9_13 rfl #[.agg #[.slice Ao31 t530.length co31,.slice Ao34 t533.length co34]] rfl z9_1 ?_;(with_reducible refine(impl_TraceCost.calls kj2 _ _ t530 _ _ t533 t540 _ ?side1 ?side2 ?side3 ?side4 A11.out).mono ?_))|(go_at_call 25;(with_reducible refine(impl_TraceCost.calls kj2 _ _ t530 _ _ t533 t540 _ ?side1 ?side2 ?side3 ?side4 A11.out).mono ?_)));(case side1=>exact z9_10);(case side2=>exact z9_23);(case side3=>exact z9_9);(case side4=>exact z9_22);rintro e w38 ⟨rfl,hb⟩;(first|refine⟨_,rfl,?_⟩|skip);replace HO519:=Za (Kd.S_below z9_7 hb);replace HO522:=Za (Kd.R_below z9_3 hb);replace HO526:=Za (Kd.R_below z9_6 hb);replace HO529:=Za (Kd.R_below z9_8 hb);replace HO532:=Za (Kd.R_below z9_12 hb);replace HO535:=Za (Kd.R_below z9_11 hb);replace BK523:=Za (Zg (g:=gb523) (o:= .cells #[.slice Ao22 t517.length co22] 26 (0,0)) z9_2 hb);replace BK537:=Za (Zg (g:=gb537) (o:= .cells #[.slice Ao31 t530.length co31,.slice Ao34 t533.length co34] 33 (0,0)) z9_14 hb);replace HB:=Za (Zj z9_5 hb);(try clear hb);(try clear hb2);(try clear hk);(try clear hi)))
         have n0_:=Za (Kd.S_drew HO519.out)
         have n1_:=Za (Zr HO522.out)
         have n2_:=Za (Zr HO526.out)
         have n3_:=Za (Zr HO529.out)
         have n4_:=Za (Zr HO532.out)
         have n5_:=Za (Zr HO535.out)
         have n6_:=Za (blk_drew BK523.out)
         have n7_:=Za (blk_drew BK537.out)
         have n8_:=Za (Ze HB.out)
         clear HO519
         clear HO522
         clear HO526
         clear HO529
         clear HO532
         clear HO535
         clear BK523
         clear BK537
         clear HB
         have HO519:=n0_
         have HO522:=n1_
         have HO526:=n2_
         have HO529:=n3_
         have HO532:=n4_
         have HO535:=n5_
         have BK523:=n6_
         have BK537:=n7_
         have HB:=n8_
         clear n0_ n1_ n2_ n3_ n4_ n5_ n6_ n7_ n8_
         refine start_ (n:=41) (S:=fun w'=>w'.cell? ⟨gb537,0,none⟩=some (.slice Ao31 t530.length co31)∧w'.cell? ⟨gb537,1,none⟩=some (.slice Ao34 t533.length co34)) (ds:=[]) #[false,false,false,false,false,false,false,false,false,false,false,false,false,false,false,false,false,false,false,false,false,false,false,false,false,false,false,false,false,false,false,false,false,false,false,false,false,false,false,false,false] z9_13 rfl rfl ⟨(Zb BK537.out 0).trans rfl,(Zb BK537.out 1).trans rfl⟩ (fun hHeld=> ?_);refine with_tabW laws_FnCounted.tab10 laws_FnCounted.bits10 (fun HT_ HW_=> ?_)
         generalize w38.drew=w39 at HO519 HO522 HO526 HO529 HO532 HO535 BK523 BK537 HB hHeld ⊢
         refine pure_ (i:=0) (N:=some 39) (v:= ?_) (a':= ?_) #[true,false,false,false,false,false,false,false,false,false,false,false,false,false,false,false,false,false,false,false,false,false,false,false,false,false,false,false,false,false,false,false,false,false,false,false,false,false,false,false,false] rfl rfl (any_of HT_.out z9_13) (fun _ _ _ h=>h) (Or.inl ⟨by rfl,?_⟩) ?_ ?_
         rotate_left
         ·intro w'
          go_simp
          with_reducible rfl
         rotate_left
         ·simp only[Act.put,Zk,Zl,Zm,i64_w,i32_w]
          rfl
         refine pure_ (i:=1) (N:=some 40) (v:= ?_) (a':= ?_) #[true,true,false,false,false,false,false,false,false,false,false,false,false,false,false,false,false,false,false,false,false,false,false,false,false,false,false,false,false,false,false,false,false,false,false,false,false,false,false,false,false] rfl rfl (any_of HT_.out z9_13) (fun _ _ _ h=>h) (Or.inl ⟨by rfl,?_⟩) ?_ ?_
         rotate_left
         ·intro w'
          go_simp
          with_reducible rfl
         rotate_left
         ·simp only[Act.put,Zk,Zl,Zm,i64_w,i32_w]
          rfl
         refine pure_ (i:=2) (N:=some 41) (v:= ?_) (a':= ?_) #[true,true,true,false,false,false,false,false,false,false,false,false,false,false,false,false,false,false,false,false,false,false,false,false,false,false,false,false,false,false,false,false,false,false,false,false,false,false,false,false,false] rfl rfl (any_of HT_.out z9_13) (fun _ _ _ h=>h) (Or.inl ⟨by rfl,?_⟩) ?_ ?_
         rotate_left
         ·intro w'
          go_simp
          with_reducible rfl
         rotate_left
         ·simp only[Act.put,Zk,Zl,Zm,i64_w,i32_w]
          rfl
         refine pure_ (i:=4) (N:=some 43) (v:= ?_) (a':= ?_) #[true,true,true,false,true,false,false,false,false,false,false,false,false,false,false,false,false,false,false,false,false,false,false,false,false,false,false,false,false,false,false,false,false,false,false,false,false,false,false,false,false] rfl rfl (any_of HT_.out z9_13) (fun _ _ _ h=>h) (Or.inl ⟨by rfl,?_⟩) ?_ ?_
         rotate_left
         ·intro w'
          go_simp
          with_reducible rfl
         rotate_left
         ·simp only[Act.put,Zk,Zl,Zm,i64_w,i32_w]
          rfl
         refine pure_ (i:=5) (N:=some 44) (v:= ?_) (a':= ?_) #[true,true,true,false,true,true,false,false,false,false,false,false,false,false,false,false,false,false,false,false,false,false,false,false,false,false,false,false,false,false,false,false,false,false,false,false,false,false,false,false,false] rfl rfl (any_of HT_.out z9_13) (fun _ _ _ h=>h) (Or.inl ⟨by rfl,?_⟩) ?_ ?_
         rotate_left
         ·intro w'
          go_simp
          with_reducible rfl
         rotate_left
         ·simp only[Act.put,Zk,Zl,Zm,i64_w,i32_w]
          rfl
         refine take_ (i:=3) (N:=some 42) (v:= ?_) (a':= ?_) #[true,true,true,true,true,true,false,false,false,false,false,false,false,false,false,false,false,false,false,false,false,false,false,false,false,false,false,false,false,false,false,false,false,false,false,false,false,false,false,false,false] rfl rfl (take_ofW HT_.out HW_.out z9_13) (fun _ _ _ h=>h) (Or.inl ⟨by rfl,?_⟩) hHeld ?_ ?_
         rotate_left
         ·rintro w' ⟨s0,s1⟩
          go_simp
          with_reducible rfl
         rotate_left
         ·simp only[Act.put,Zk,Zl,Zm,i64_w,i32_w]
          rfl
         refine one_ (i:=6) (N:=some 45) #[true,true,true,true,true,true,true,false,false,false,false,false,false,false,false,false,false,false,false,false,false,false,false,false,false,false,false,false,false,false,false,false,false,false,false,false,false,false,false,false,false] rfl rfl (one_of HT_.out z9_13) (by decide) (fun K hK=> ?_)
         refine goes_ Tryz.func24 z9_13 rfl #[.agg #[.slice Ao31 t530.length co31,.slice Ao34 t533.length co34],.int .i64 (wrap64 ((Int.tmod (rd t527 0) 200)+1))] (by rfl) rfl rfl z9_1 ?_
         with_reducible refine(impl_CountSteps.calls kj2 _ _ t530 _ _ t533 (wrap64 ((Int.tmod (rd t527 0) 200)+1)) t541 _ ?side1 ?side2 ?side3 ?side4 A13.out).mono ?_
         (case side1=>exact z9_10)
         (case side2=>exact z9_23)
         (case side3=>exact z9_9)
         (case side4=>exact z9_22)
         rintro e w40 ⟨rfl,hb⟩
         refine⟨_,rfl,?_⟩
         have n0_:=Za (Kd.S_below z9_7 hb)
         have n1_:=Za (Kd.R_below z9_3 hb)
         have n2_:=Za (Kd.R_below z9_6 hb)
         have n3_:=Za (Kd.R_below z9_8 hb)
         have n4_:=Za (Kd.R_below z9_12 hb)
         have n5_:=Za (Kd.R_below z9_11 hb)
         have n6_:=Za (Zg (g:=gb523) (o:= .cells #[.slice Ao22 t517.length co22] 26 (0,0)) z9_2 hb)
         have n7_:=Za (Zg (g:=gb537) (o:= .cells #[.slice Ao31 t530.length co31,.slice Ao34 t533.length co34] 33 (0,0)) z9_14 hb)
         have n8_:=Za (Zj z9_5 hb)
         clear HO519
         clear HO522
         clear HO526
         clear HO529
         clear HO532
         clear HO535
         clear BK523
         clear BK537
         clear HB
         have HO519:=n0_
         have HO522:=n1_
         have HO526:=n2_
         have HO529:=n3_
         have HO532:=n4_
         have HO535:=n5_
         have BK523:=n6_
         have BK537:=n7_
         have HB:=n8_
         clear n0_ n1_ n2_ n3_ n4_ n5_ n6_ n7_ n8_
         (try clear hb)
         (try clear hb2)
         (try clear hk)
         (try clear hi)
         refine hK.out _ _ ⟨(Zb BK537.out 0).trans rfl,(Zb BK537.out 1).trans rfl⟩ (fun hHeld=> ?_)
         clear hK K
         refine norm_ (a':= ?_) ?_ ?_
         rotate_left
         ·show Act.put _ (some 45) _=_
          simp only[Act.put,Zk,Zl,Zm,i64_w,i32_w]
          rfl
         refine pure_ (i:=7) (N:=some 46) (v:= ?_) (a':= ?_) #[true,true,true,true,true,true,true,true,false,false,false,false,false,false,false,false,false,false,false,false,false,false,false,false,false,false,false,false,false,false,false,false,false,false,false,false,false,false,false,false,false] rfl rfl (any_of HT_.out z9_13) (fun _ _ _ h=>h) (Or.inl ⟨by rfl,?_⟩) ?_ ?_
         rotate_left
         ·intro w'
          go_simp
          with_reducible rfl
         rotate_left
         ·simp only[Act.put,Zk,Zl,Zm,i64_w,i32_w]
          rfl
         refine pure_ (i:=8) (N:=some 47) (v:= ?_) (a':= ?_) #[true,true,true,true,true,true,true,true,true,false,false,false,false,false,false,false,false,false,false,false,false,false,false,false,false,false,false,false,false,false,false,false,false,false,false,false,false,false,false,false,false] rfl rfl (any_of HT_.out z9_13) (fun _ _ _ h=>h) (Or.inl ⟨by rfl,?_⟩) ?_ ?_
         rotate_left
         ·intro w'
          go_simp
          with_reducible rfl
         rotate_left
         ·simp only[Act.put,Zk,Zl,Zm,i64_w,i32_w]
          rfl
         refine pure_ (i:=9) (N:=some 48) (v:= ?_) (a':= ?_) #[true,true,true,true,true,true,true,true,true,true,false,false,false,false,false,false,false,false,false,false,false,false,false,false,false,false,false,false,false,false,false,false,false,false,false,false,false,false,false,false,false] rfl rfl (any_of HT_.out z9_13) (fun _ _ _ h=>h) (Or.inl ⟨by rfl,?_⟩) ?_ ?_
         rotate_left
         ·intro w'
          go_simp
          with_reducible rfl
         rotate_left
         ·simp only[Act.put,Zk,Zl,Zm,i64_w,i32_w]
          rfl
         refine pure_ (i:=11) (N:=some 50) (v:= ?_) (a':= ?_) #[true,true,true,true,true,true,true,true,true,true,false,true,false,false,false,false,false,false,false,false,false,false,false,false,false,false,false,false,false,false,false,false,false,false,false,false,false,false,false,false,false] rfl rfl (any_of HT_.out z9_13) (fun _ _ _ h=>h) (Or.inl ⟨by rfl,?_⟩) ?_ ?_
         rotate_left
         ·intro w'
          go_simp
          with_reducible rfl
         rotate_left
         ·simp only[Act.put,Zk,Zl,Zm,i64_w,i32_w]
          rfl
         refine pure_ (i:=13) (N:=some 52) (v:= ?_) (a':= ?_) #[true,true,true,true,true,true,true,true,true,true,false,true,false,true,false,false,false,false,false,false,false,false,false,false,false,false,false,false,false,false,false,false,false,false,false,false,false,false,false,false,false] rfl rfl (any_of HT_.out z9_13) (fun _ _ _ h=>h) (Or.inl ⟨by rfl,?_⟩) ?_ ?_
         rotate_left
         ·intro w'
          go_simp
          with_reducible rfl
         rotate_left
         ·simp only[Act.put,Zk,Zl,Zm,i64_w,i32_w]
          rfl
         refine take_ (i:=10) (N:=some 49) (v:= ?_) (a':= ?_) #[true,true,true,true,true,true,true,true,true,true,true,true,false,true,false,false,false,false,false,false,false,false,false,false,false,false,false,false,false,false,false,false,false,false,false,false,false,false,false,false,false] rfl rfl (take_ofW HT_.out HW_.out z9_13) (fun _ _ _ h=>h) (Or.inl ⟨by rfl,?_⟩) hHeld ?_ ?_
         rotate_left
         ·rintro w' ⟨s0,s1⟩
          go_simp
          with_reducible rfl
         rotate_left
         ·simp only[Act.put,Zk,Zl,Zm,i64_w,i32_w]
          rfl
         refine take_ (i:=14) (N:=some 53) (v:= ?_) (a':= ?_) #[true,true,true,true,true,true,true,true,true,true,true,true,false,true,true,false,false,false,false,false,false,false,false,false,false,false,false,false,false,false,false,false,false,false,false,false,false,false,false,false,false] rfl rfl (take_ofW HT_.out HW_.out z9_13) (fun _ _ _ h=>h) (Or.inl ⟨by rfl,?_⟩) hHeld ?_ ?_
         rotate_left
         ·rintro w' ⟨s0,s1⟩
          go_simp
          with_reducible rfl
         rotate_left
         ·simp only[Act.put,Zk,Zl,Zm,i64_w,i32_w]
          rfl
         refine pure_ (i:=15) (N:=some 54) (v:= ?_) (a':= ?_) #[true,true,true,true,true,true,true,true,true,true,true,true,false,true,true,true,false,false,false,false,false,false,false,false,false,false,false,false,false,false,false,false,false,false,false,false,false,false,false,false,false] rfl rfl (any_of HT_.out z9_13) (fun _ _ _ h=>h) (Or.inl ⟨by rfl,?_⟩) ?_ ?_
         rotate_left
         ·intro w'
          go_simp
          with_reducible rfl
         rotate_left
         ·simp only[Act.put,Zk,Zl,Zm,i64_w,i32_w]
          rfl
         refine one_ (i:=12) (N:=some 51) #[true,true,true,true,true,true,true,true,true,true,true,true,true,true,true,true,false,false,false,false,false,false,false,false,false,false,false,false,false,false,false,false,false,false,false,false,false,false,false,false,false] rfl rfl (one_of HT_.out z9_13) (by decide) (fun K hK=> ?_)
         refine goes_ Tryz.func24 z9_13 rfl #[.agg #[.slice Ao31 t530.length co31,.slice Ao34 t533.length co34],.int .i64 t540] (by rfl) rfl rfl z9_1 ?_
         with_reducible refine(impl_CountSteps.calls kj2 _ _ t530 _ _ t533 t540 t542 _ ?side1 ?side2 ?side3 ?side4 A15.out).mono ?_
         (case side1=>exact z9_10)
         (case side2=>exact z9_23)
         (case side3=>exact z9_9)
         (case side4=>exact z9_22)
         rintro e w41 ⟨rfl,hb⟩
         refine⟨_,rfl,?_⟩
         have n0_:=Za (Kd.S_below z9_7 hb)
         have n1_:=Za (Kd.R_below z9_3 hb)
         have n2_:=Za (Kd.R_below z9_6 hb)
         have n3_:=Za (Kd.R_below z9_8 hb)
         have n4_:=Za (Kd.R_below z9_12 hb)
         have n5_:=Za (Kd.R_below z9_11 hb)
         have n6_:=Za (Zg (g:=gb523) (o:= .cells #[.slice Ao22 t517.length co22] 26 (0,0)) z9_2 hb)
         have n7_:=Za (Zg (g:=gb537) (o:= .cells #[.slice Ao31 t530.length co31,.slice Ao34 t533.length co34] 33 (0,0)) z9_14 hb)
         have n8_:=Za (Zj z9_5 hb)
         clear HO519
         clear HO522
         clear HO526
         clear HO529
         clear HO532
         clear HO535
         clear BK523
         clear BK537
         clear HB
         have HO519:=n0_
         have HO522:=n1_
         have HO526:=n2_
         have HO529:=n3_
         have HO532:=n4_
         have HO535:=n5_
         have BK523:=n6_
         have BK537:=n7_
         have HB:=n8_
         clear n0_ n1_ n2_ n3_ n4_ n5_ n6_ n7_ n8_
         (try clear hb)
         (try clear hb2)
         (try clear hk)
         (try clear hi)
         refine hK.out _ _ ⟨(Zb BK537.out 0).trans rfl,(Zb BK537.out 1).trans rfl⟩ (fun hHeld=> ?_)
         clear hK K
         refine norm_ (a':= ?_) ?_ ?_
         rotate_left
         ·show Act.put _ (some 51) _=_
          simp only[Act.put,Zk,Zl,Zm,i64_w,i32_w]
          rfl
         refine pure_ (i:=16) (N:=some 55) (v:= ?_) (a':= ?_) #[true,true,true,true,true,true,true,true,true,true,true,true,true,true,true,true,true,false,false,false,false,false,false,false,false,false,false,false,false,false,false,false,false,false,false,false,false,false,false,false,false] rfl rfl (any_of HT_.out z9_13) (fun _ _ _ h=>h) (Or.inl ⟨by rfl,?_⟩) ?_ ?_
         rotate_left
         ·intro w'
          go_simp
          with_reducible rfl
         rotate_left
         ·simp only[Act.put,Zk,Zl,Zm,i64_w,i32_w]
          rfl
         refine pure_ (i:=17) (N:=some 56) (v:= ?_) (a':= ?_) #[true,true,true,true,true,true,true,true,true,true,true,true,true,true,true,true,true,true,false,false,false,false,false,false,false,false,false,false,false,false,false,false,false,false,false,false,false,false,false,false,false] rfl rfl (any_of HT_.out z9_13) (fun _ _ _ h=>h) (Or.inl ⟨by rfl,?_⟩) ?_ ?_
         rotate_left
         ·intro w'
          go_simp
          with_reducible rfl
         rotate_left
         ·simp only[Act.put,Zk,Zl,Zm,i64_w,i32_w]
          rfl
         refine pure_ (i:=18) (N:=some 57) (v:= ?_) (a':= ?_) #[true,true,true,true,true,true,true,true,true,true,true,true,true,true,true,true,true,true,true,false,false,false,false,false,false,false,false,false,false,false,false,false,false,false,false,false,false,false,false,false,false] rfl rfl (any_of HT_.out z9_13) (fun _ _ _ h=>h) (Or.inl ⟨by rfl,?_⟩) ?_ ?_
         rotate_left
         ·intro w'
          go_simp
          with_reducible rfl
         rotate_left
         ·simp only[Act.put,Zk,Zl,Zm,i64_w,i32_w]
          rfl
         refine pure_ (i:=20) (N:=some 59) (v:= ?_) (a':= ?_) #[true,true,true,true,true,true,true,true,true,true,true,true,true,true,true,true,true,true,true,false,true,false,false,false,false,false,false,false,false,false,false,false,false,false,false,false,false,false,false,false,false] rfl rfl (any_of HT_.out z9_13) (fun _ _ _ h=>h) (Or.inl ⟨by rfl,?_⟩) ?_ ?_
         rotate_left
         ·intro w'
          go_simp
          with_reducible rfl
         rotate_left
         ·simp only[Act.put,Zk,Zl,Zm,i64_w,i32_w]
          rfl
         refine pure_ (i:=21) (N:=some 60) (v:= ?_) (a':= ?_) #[true,true,true,true,true,true,true,true,true,true,true,true,true,true,true,true,true,true,true,false,true,true,false,false,false,false,false,false,false,false,false,false,false,false,false,false,false,false,false,false,false] rfl rfl (any_of HT_.out z9_13) (fun _ _ _ h=>h) (Or.inl ⟨by rfl,?_⟩) ?_ ?_
         rotate_left
         ·intro w'
          go_simp
          with_reducible rfl
         rotate_left
         ·simp only[Act.put,Zk,Zl,Zm,i64_w,i32_w]
          rfl
         refine pure_ (i:=23) (N:=some 62) (v:= ?_) (a':= ?_) #[true,true,true,true,true,true,true,true,true,true,true,true,true,true,true,true,true,true,true,false,true,true,false,true,false,false,false,false,false,false,false,false,false,false,false,false,false,false,false,false,false] rfl rfl (any_of HT_.out z9_13) (fun _ _ _ h=>h) (Or.inl ⟨by rfl,?_⟩) ?_ ?_
         rotate_left
         ·intro w'
          go_simp
          with_reducible rfl
         rotate_left
         ·simp only[Act.put,Zk,Zl,Zm,i64_w,i32_w]
          rfl
         refine take_ (i:=19) (N:=some 58) (v:= ?_) (a':= ?_) #[true,true,true,true,true,true,true,true,true,true,true,true,true,true,true,true,true,true,true,true,true,true,false,true,false,false,false,false,false,false,false,false,false,false,false,false,false,false,false,false,false] rfl rfl (take_ofW HT_.out HW_.out z9_13) (fun _ _ _ h=>h) (Or.inl ⟨by rfl,?_⟩) hHeld ?_ ?_
         rotate_left
         ·rintro w' ⟨s0,s1⟩
          go_simp
          with_reducible rfl
         rotate_left
         ·simp only[Act.put,Zk,Zl,Zm,i64_w,i32_w]
          rfl
         refine take_ (i:=24) (N:=some 63) (v:= ?_) (a':= ?_) #[true,true,true,true,true,true,true,true,true,true,true,true,true,true,true,true,true,true,true,true,true,true,false,true,true,false,false,false,false,false,false,false,false,false,false,false,false,false,false,false,false] rfl rfl (take_ofW HT_.out HW_.out z9_13) (fun _ _ _ h=>h) (Or.inl ⟨by rfl,?_⟩) hHeld ?_ ?_
         rotate_left
         ·rintro w' ⟨s0,s1⟩
          go_simp
          with_reducible rfl
         rotate_left
         ·simp only[Act.put,Zk,Zl,Zm,i64_w,i32_w]
          rfl
         refine pure_ (i:=25) (N:=some 64) (v:= ?_) (a':= ?_) #[true,true,true,true,true,true,true,true,true,true,true,true,true,true,true,true,true,true,true,true,true,true,false,true,true,true,false,false,false,false,false,false,false,false,false,false,false,false,false,false,false] rfl rfl (any_of HT_.out z9_13) (fun _ _ _ h=>h) (Or.inl ⟨by rfl,?_⟩) ?_ ?_
         rotate_left
         ·intro w'
          go_simp
          with_reducible rfl
         rotate_left
         ·simp only[Act.put,Zk,Zl,Zm,i64_w,i32_w]
          rfl
         refine one_ (i:=22) (N:=some 61) #[true,true,true,true,true,true,true,true,true,true,true,true,true,true,true,true,true,true,true,true,true,true,true,true,true,true,false,false,false,false,false,false,false,false,false,false,false,false,false,false,false] rfl rfl (one_of HT_.out z9_13) (by decide) (fun K hK=> ?_)
         refine goes_ Tryz.func24 z9_13 rfl #[.agg #[.slice Ao31 t530.length co31,.slice Ao34 t533.length co34],.int .i64 (wrap64 (t540 - 1))] (by rfl) rfl rfl z9_1 ?_
         with_reducible refine(impl_CountSteps.calls kj2 _ _ t530 _ _ t533 (wrap64 (t540 - 1)) t543 _ ?side1 ?side2 ?side3 ?side4 A17.out).mono ?_
         (case side1=>exact z9_10)
         (case side2=>exact z9_23)
         (case side3=>exact z9_9)
         (case side4=>exact z9_22)
         rintro e w42 ⟨rfl,hb⟩
         refine⟨_,rfl,?_⟩
         have n0_:=Za (Kd.S_below z9_7 hb)
         have n1_:=Za (Kd.R_below z9_3 hb)
         have n2_:=Za (Kd.R_below z9_6 hb)
         have n3_:=Za (Kd.R_below z9_8 hb)
         have n4_:=Za (Kd.R_below z9_12 hb)
         have n5_:=Za (Kd.R_below z9_11 hb)
         have n6_:=Za (Zg (g:=gb523) (o:= .cells #[.slice Ao22 t517.length co22] 26 (0,0)) z9_2 hb)
         have n7_:=Za (Zg (g:=gb537) (o:= .cells #[.slice Ao31 t530.length co31,.slice Ao34 t533.length co34] 33 (0,0)) z9_14 hb)
         have n8_:=Za (Zj z9_5 hb)
         clear HO519
         clear HO522
         clear HO526
         clear HO529
         clear HO532
         clear HO535
         clear BK523
         clear BK537
         clear HB
         have HO519:=n0_
         have HO522:=n1_
         have HO526:=n2_
         have HO529:=n3_
         have HO532:=n4_
         have HO535:=n5_
         have BK523:=n6_
         have BK537:=n7_
         have HB:=n8_
         clear n0_ n1_ n2_ n3_ n4_ n5_ n6_ n7_ n8_
         (try clear hb)
         (try clear hb2)
         (try clear hk)
         (try clear hi)
         refine hK.out _ _ ⟨(Zb BK537.out 0).trans rfl,(Zb BK537.out 1).trans rfl⟩ (fun hHeld=> ?_)
         clear hK K
         refine norm_ (a':= ?_) ?_ ?_
         rotate_left
         ·show Act.put _ (some 61) _=_
          simp only[Act.put,Zk,Zl,Zm,i64_w,i32_w]
          rfl
         refine pure_ (i:=26) (N:=some 65) (v:= ?_) (a':= ?_) #[true,true,true,true,true,true,true,true,true,true,true,true,true,true,true,true,true,true,true,true,true,true,true,true,true,true,true,false,false,false,false,false,false,false,false,false,false,false,false,false,false] rfl rfl (any_of HT_.out z9_13) (fun _ _ _ h=>h) (Or.inl ⟨by rfl,?_⟩) ?_ ?_
         rotate_left
         ·intro w'
          go_simp
          with_reducible rfl
         rotate_left
         ·simp only[Act.put,Zk,Zl,Zm,i64_w,i32_w]
          rfl
         refine pure_ (i:=27) (N:=some 66) (v:= ?_) (a':= ?_) #[true,true,true,true,true,true,true,true,true,true,true,true,true,true,true,true,true,true,true,true,true,true,true,true,true,true,true,true,false,false,false,false,false,false,false,false,false,false,false,false,false] rfl rfl (any_of HT_.out z9_13) (fun _ _ _ h=>h) (Or.inl ⟨by rfl,?_⟩) ?_ ?_
         rotate_left
         ·intro w'
          go_simp
          with_reducible rfl
         rotate_left
         ·simp only[Act.put,Zk,Zl,Zm,i64_w,i32_w]
          rfl
         refine pure_ (i:=28) (N:=some 67) (v:= ?_) (a':= ?_) #[true,true,true,true,true,true,true,true,true,true,true,true,true,true,true,true,true,true,true,true,true,true,true,true,true,true,true,true,true,false,false,false,false,false,false,false,false,false,false,false,false] rfl rfl (any_of HT_.out z9_13) (fun _ _ _ h=>h) (Or.inl ⟨by rfl,?_⟩) ?_ ?_
         rotate_left
         ·intro w'
          go_simp
          with_reducible rfl
         rotate_left
         ·simp only[Act.put,Zk,Zl,Zm,i64_w,i32_w]
          rfl
         refine pure_ (i:=29) (N:=some 68) (v:= ?_) (a':= ?_) #[true,true,true,true,true,true,true,true,true,true,true,true,true,true,true,true,true,true,true,true,true,true,true,true,true,true,true,true,true,true,false,false,false,false,false,false,false,false,false,false,false] rfl rfl (any_of HT_.out z9_13) (fun _ _ _ h=>h) (Or.inl ⟨by rfl,?_⟩) ?_ ?_
         rotate_left
         ·intro w'
          go_simp
          with_reducible rfl
         rotate_left
         ·simp only[Act.put,Zk,Zl,Zm,i64_w,i32_w]
          rfl
         refine pure_ (i:=30) (N:=some 69) (v:= ?_) (a':= ?_) #[true,true,true,true,true,true,true,true,true,true,true,true,true,true,true,true,true,true,true,true,true,true,true,true,true,true,true,true,true,true,true,false,false,false,false,false,false,false,false,false,false] rfl rfl (any_of HT_.out z9_13) (fun _ _ _ h=>h) (Or.inl ⟨by rfl,?_⟩) ?_ ?_
         rotate_left
         ·intro w'
          go_simp
          with_reducible rfl
         rotate_left
         ·simp only[Act.put,Zk,Zl,Zm,i64_w,i32_w]
          rfl
         refine pure_ (i:=31) (N:=some 70) (v:= ?_) (a':= ?_) #[true,true,true,true,true,true,true,true,true,true,true,true,true,true,true,true,true,true,true,true,true,true,true,true,true,true,true,true,true,true,true,true,false,false,false,false,false,false,false,false,false] rfl rfl (any_of HT_.out z9_13) (fun _ _ _ h=>h) (Or.inl ⟨by rfl,?_⟩) ?_ ?_
         rotate_left
         ·intro w'
          go_simp
          with_reducible rfl
         rotate_left
         ·simp only[Act.put,Zk,Zl,Zm,i64_w,i32_w]
          rfl
         refine pure_ (i:=32) (N:=some 71) (v:= ?_) (a':= ?_) #[true,true,true,true,true,true,true,true,true,true,true,true,true,true,true,true,true,true,true,true,true,true,true,true,true,true,true,true,true,true,true,true,true,false,false,false,false,false,false,false,false] rfl rfl (any_of HT_.out z9_13) (fun _ _ _ h=>h) (Or.inl ⟨by rfl,?_⟩) ?_ ?_
         rotate_left
         ·intro w'
          go_simp
          with_reducible rfl
         rotate_left
         ·simp only[Act.put,Zk,Zl,Zm,i64_w,i32_w]
          rfl
         refine pure_ (i:=33) (N:=some 72) (v:=undef) (a':= ?_) #[true,true,true,true,true,true,true,true,true,true,true,true,true,true,true,true,true,true,true,true,true,true,true,true,true,true,true,true,true,true,true,true,true,true,false,false,false,false,false,false,false] rfl rfl (any_of HT_.out z9_13) (fun _ _ _ h=>h) (Or.inr ⟨by rfl,rfl⟩) ?_ ?_
         rotate_left
         ·simp only[Act.put,Zk,Zl,Zm,i64_w,i32_w]
          rfl
         refine pure_ (i:=34) (N:=some 73) (v:=undef) (a':= ?_) #[true,true,true,true,true,true,true,true,true,true,true,true,true,true,true,true,true,true,true,true,true,true,true,true,true,true,true,true,true,true,true,true,true,true,true,false,false,false,false,false,false] rfl rfl (any_of HT_.out z9_13) (fun _ _ _ h=>h) (Or.inr ⟨by rfl,rfl⟩) ?_ ?_
         rotate_left
         ·simp only[Act.put,Zk,Zl,Zm,i64_w,i32_w]
          rfl
         refine pure_ (i:=35) (N:=some 74) (v:=undef) (a':= ?_) #[true,true,true,true,true,true,true,true,true,true,true,true,true,true,true,true,true,true,true,true,true,true,true,true,true,true,true,true,true,true,true,true,true,true,true,true,false,false,false,false,false] rfl rfl (any_of HT_.out z9_13) (fun _ _ _ h=>h) (Or.inr ⟨by rfl,rfl⟩) ?_ ?_
         rotate_left
         ·simp only[Act.put,Zk,Zl,Zm,i64_w,i32_w]
          rfl
         refine pure_ (i:=36) (N:=some 75) (v:=undef) (a':= ?_) #[true,true,true,true,true,true,true,true,true,true,true,true,true,true,true,true,true,true,true,true,true,true,true,true,true,true,true,true,true,true,true,true,true,true,true,true,true,false,false,false,false] rfl rfl (any_of HT_.out z9_13) (fun _ _ _ h=>h) (Or.inr ⟨by rfl,rfl⟩) ?_ ?_
         rotate_left
         ·simp only[Act.put,Zk,Zl,Zm,i64_w,i32_w]
          rfl
         refine pure_ (i:=37) (N:=some 76) (v:=undef) (a':= ?_) #[true,true,true,true,true,true,true,true,true,true,true,true,true,true,true,true,true,true,true,true,true,true,true,true,true,true,true,true,true,true,true,true,true,true,true,true,true,true,false,false,false] rfl rfl (any_of HT_.out z9_13) (fun _ _ _ h=>h) (Or.inr ⟨by rfl,rfl⟩) ?_ ?_
         rotate_left
         ·simp only[Act.put,Zk,Zl,Zm,i64_w,i32_w]
          rfl
         refine pure_ (i:=38) (N:=some 77) (v:= ?_) (a':= ?_) #[true,true,true,true,true,true,true,true,true,true,true,true,true,true,true,true,true,true,true,true,true,true,true,true,true,true,true,true,true,true,true,true,true,true,true,true,true,true,true,false,false] rfl rfl (any_of HT_.out z9_13) (fun _ _ _ h=>h) (Or.inl ⟨by rfl,?_⟩) ?_ ?_
         rotate_left
         ·intro w'
          go_simp
          with_reducible rfl
         rotate_left
         ·simp only[Act.put,Zk,Zl,Zm,i64_w,i32_w]
          rfl
         refine pure_ (i:=39) (N:=some 78) (v:= ?_) (a':= ?_) #[true,true,true,true,true,true,true,true,true,true,true,true,true,true,true,true,true,true,true,true,true,true,true,true,true,true,true,true,true,true,true,true,true,true,true,true,true,true,true,true,false] rfl rfl (any_of HT_.out z9_13) (fun _ _ _ h=>h) (Or.inl ⟨by rfl,?_⟩) ?_ ?_
         rotate_left
         ·intro w'
          go_simp
          with_reducible rfl
         rotate_left
         ·simp only[Act.put,Zk,Zl,Zm,i64_w,i32_w]
          rfl
         refine pure_ (i:=40) (N:=some 2) (v:= ?_) (a':= ?_) #[true,true,true,true,true,true,true,true,true,true,true,true,true,true,true,true,true,true,true,true,true,true,true,true,true,true,true,true,true,true,true,true,true,true,true,true,true,true,true,true,true] rfl rfl (any_of HT_.out z9_13) (fun _ _ _ h=>h) (Or.inl ⟨by rfl,?_⟩) ?_ ?_
         rotate_left
         ·intro w'
          go_simp
          with_reducible rfl
         rotate_left
         ·simp only[Act.put,Zk,Zl,Zm,i64_w,i32_w]
          rfl
         refine done_ (done_of HT_.out z9_13) ?_
         try go_wp2
         go_ret
         exact⟨by first|rfl|(simp[errW_none,errW_some]<;>rfl)|(simp[*,errW_none,errW_some]<;>rfl)|(simp[*,errW_none,errW_some,i64_w];done),by repeat(first|(with_reducible first|exact HB.out|apply Zi|apply Zf|apply Ze|refine Zd ?_ GE523.out|refine Zd ?_ GE537.out)|exact HB.out)⟩
        ·rw[if_neg c19] at H
         have c19b0:decide ((Int.tmod (rd t527 0) 200)<t540)=false:=Yc c19
         clear c19
         obtain rfl:=Zo H
         try go_wp2_with (first|((first|((with_reducible refine gate_callee (f:=8) rfl ?_);refine goesL_ (some 16) rfl rfl Tryz.func8 z9_13 rfl #[.slice A0 l0.length c0] rfl z9_1 ?_;(with_reducible refine(spec_DrawMemory.calls kj2 _ _ l0 t517 t520 _ ?side1 ?side2 A5.out).mono ?_))|(go_at_call 8;(with_reducible refine(spec_DrawMemory.calls kj2 _ _ l0 t517 t520 _ ?side1 ?side2 A5.out).mono ?_)));(case side1=>exact z9_15);(case side2=>exact HC0.out);rintro e w43 ⟨v518,v521,rfl,ho0,ho1,hb⟩;(first|refine⟨_,rfl,?_⟩|skip);have HO519:=Za (Kd.S_lower ho0 (Yh z9_4));have HO522:=Za (Yr ho1 (Yh z9_4));replace HB:=Za (Zj z9_4 hb);(try clear hb);(try clear hb2);(try clear hk);(try clear hi);(try clear ho0);(try clear ho1))|((with_reducible refine Zq (N:=3) rfl ?_);(try(refine gate_guard (by rfl) ?_;dsimp only));refine Zs ?hg (N:=3) ?hd (cs:= #[.slice none 0 0]) (t:=26) ?hr ?_;(case hd=>rfl);(case hg=>rfl);(case hr=>first|(go_simp;done)|(go_simp;rfl));intro gb523 hg w44 hbox hb;replace HO519:=Za (Kd.S_below z9_7 hb);replace HO522:=Za (Kd.R_below z9_3 hb);have BK523:=Za (hbox);have GW523:=Za ((by rw[hg];exact(Yh z9_4):w.heap.size≤gb523));have GE523:=Za ((by rw[hg];exact(Yh z9_4):w.heap.size≤gb523));replace HB:=Za (Zj z9_4 hb);clear hb hbox hg;obtain⟨Ao45,co45,eo45⟩:=Kd.S_slice HO519.out;subst eo45;have hcz46_0:w44.cell? ⟨gb523,0,none⟩=some (.slice none 0 0):=(Zb BK523.out 0).trans rfl;have hfz46_0:=Zc BK523.out 0)|((first|((with_reducible refine gate_callee (f:=9) rfl ?_);refine goesL_ (some 20) rfl rfl Tryz.func9 z9_13 rfl #[.slice A0 l0.length c0] rfl z9_1 ?_;(with_reducible refine(spec_DrawReadings.calls kj2 _ _ l0 t524 _ ?side1 ?side2 A6.out).mono ?_))|(go_at_call 9;(with_reducible refine(spec_DrawReadings.calls kj2 _ _ l0 t524 _ ?side1 ?side2 A6.out).mono ?_)));(case side1=>exact Yj HR0.out z9_0);(case side2=>exact HC0.out);rintro e w47 ⟨v525,rfl,ho0,hb⟩;(first|refine⟨_,rfl,?_⟩|skip);replace HO519:=Za (Kd.S_below (by(with_reducible repeat(first|apply Kd.S_alloc|apply Kd.S_drewN|apply Kd.S_drew));exact(Kd.S_mono (Kd.S_far (p:=⟨gb523,0,none⟩) (Kd.S_types HO519.out BK523.out (by decide)) (fun _ hk=>hk.2) (.slice Ao45 t517.length co45)) (fun _ h_=>h_.1))) hb);have HO526:=Za (Yr (Kd.R_new' ho0 (Kd.R_lt z9_25)) (Yh z9_0));replace HO522:=Za (Kd.R_elder' z9_25 (Yi ho0) hb);replace BK523:=Za (Zg (g:=gb523) (o:= .cells #[.slice Ao45 t517.length co45] 26 (0,0)) z9_24 hb);replace HB:=Za (Zj z9_0 hb);(try clear hb);(try clear hb2);(try clear hk);(try clear hi);(try clear ho0))|((first|((with_reducible refine gate_callee (f:=12) rfl ?_);refine goesL_ (some 22) rfl rfl Tryz.func12 z9_13 rfl #[.slice A0 l0.length c0] rfl z9_1 ?_;(with_reducible refine(spec_DrawPlaces.calls kj2 _ _ l0 t527 _ ?side1 ?side2 A7.out).mono ?_))|(go_at_call 12;(with_reducible refine(spec_DrawPlaces.calls kj2 _ _ l0 t527 _ ?side1 ?side2 A7.out).mono ?_)));(case side1=>exact z9_15);(case side2=>exact HC0.out);rintro e w48 ⟨v528,rfl,ho0,hb⟩;(first|refine⟨_,rfl,?_⟩|skip);replace HO519:=Za (Kd.S_below z9_7 hb);have HO529:=Za (Yr (Kd.R_new' (Kd.R_new' ho0 (Kd.R_lt z9_3)) (Kd.R_lt z9_6)) (Yh z9_0));replace HO522:=Za (Kd.R_elder' z9_3 (Yi ho0) hb);replace HO526:=Za (Kd.R_elder' z9_6 (Yi ho0) hb);replace BK523:=Za (Zg (g:=gb523) (o:= .cells #[.slice Ao45 t517.length co45] 26 (0,0)) z9_2 hb);replace HB:=Za (Zj z9_0 hb);(try clear hb);(try clear hb2);(try clear hk);(try clear hi);(try clear ho0);have hcz49_0:w48.cell? ⟨gb523,0,none⟩=some (.slice Ao45 t517.length co45):=(Zb BK523.out 0).trans rfl;have hfz49_0:=Zc BK523.out 0;obtain⟨Ao50,co50,eo50⟩:=Yk HO522.out;subst eo50;obtain⟨Ao51,co51,eo51⟩:=Yk HO526.out;subst eo51)|((first|((with_reducible refine gate_callee (f:=10) rfl ?_);refine goesL_ (some 27) rfl rfl Tryz.func10 z9_13 rfl #[.agg #[.slice Ao45 t517.length co45],.slice Ao50 t520.length co50,.slice Ao51 t524.length co51,.int .i64 0] rfl z9_1 ?_;(with_reducible refine(impl_TraceOf.calls kj2 _ _ t517 _ _ t520 _ _ t524 0 t530 t533 true _ ?side1 ?side2 ?side3 ?side4 ?side5 ?side6 A8.out).mono ?_))|(go_at_call 10;(with_reducible refine(impl_TraceOf.calls kj2 _ _ t517 _ _ t520 _ _ t524 0 t530 t533 true _ ?side1 ?side2 ?side3 ?side4 ?side5 ?side6 A8.out).mono ?_)));(case side1=>repeat(first|exact(Kd.S_reads' HO519.out).2.2|(with_reducible refine Yo ?_ _)|(with_reducible refine Yn ?_ _)|(with_reducible refine Yp ?_)));(case side2=>exact(Kd.S_reads' HO519.out).2.1);(case side3=>repeat(first|exact(Yq HO522.out).2.2|(with_reducible refine Yo ?_ _)|(with_reducible refine Yn ?_ _)|(with_reducible refine Yp ?_)));(case side4=>exact(Yq HO522.out).2.1);(case side5=>repeat(first|exact(Yq HO526.out).2.2|(with_reducible refine Yo ?_ _)|(with_reducible refine Yn ?_ _)|(with_reducible refine Yp ?_)));(case side6=>exact(Yq HO526.out).2.1);rintro e w52 ⟨v531,v534,rfl,ho0,ho1,hb⟩;(first|refine⟨_,rfl,?_⟩|skip);replace HO519:=Za (Kd.S_below z9_7 hb);have HO532:=Za (Yr ho0 (Yh z9_0));have HO535:=Za (Yr (Kd.R_new' (Kd.R_new' (Kd.R_new' ho1 (Kd.R_lt z9_3)) (Kd.R_lt z9_6)) (Kd.R_lt z9_8)) (Yh z9_0));replace HO522:=Za (Kd.R_elder' z9_3 (Yi ho1) hb);replace HO526:=Za (Kd.R_elder' z9_6 (Yi ho1) hb);replace HO529:=Za (Kd.R_elder' z9_8 (Yi ho1) hb);replace BK523:=Za (Zg (g:=gb523) (o:= .cells #[.slice Ao45 t517.length co45] 26 (0,0)) z9_2 hb);replace HB:=Za (Zj z9_0 hb);(try clear hb);(try clear hb2);(try clear hk);(try clear hi);(try clear ho0);(try clear ho1))|((with_reducible refine Zq (N:=7) rfl ?_);(try(refine gate_guard (by rfl) ?_;dsimp only));refine Zs ?hg (N:=7) ?hd (cs:= #[.slice none 0 0,.slice none 0 0]) (t:=33) ?hr ?_;(case hd=>rfl);(case hg=>rfl);(case hr=>first|(go_simp;done)|(go_simp;rfl));intro gb537 hg w53 hbox hb;replace HO519:=Za (Kd.S_below z9_7 hb);replace HO522:=Za (Kd.R_below z9_3 hb);replace HO526:=Za (Kd.R_below z9_6 hb);replace HO529:=Za (Kd.R_below z9_8 hb);replace HO532:=Za (Kd.R_below z9_12 hb);replace HO535:=Za (Kd.R_below z9_11 hb);have BK537:=Za (hbox);have GW537:=Za ((by rw[hg];exact(Yh z9_0):w.heap.size≤gb537));have GE537:=Za ((by rw[hg];exact(Yh z9_0):w.heap.size≤gb537));replace HB:=Za (Zj z9_0 hb);have NB523_537:=Za ((by rw[hg];exact Nat.ne_of_lt (blk_lt (g:=gb523) (o:= .cells #[.slice Ao45 t517.length co45] 26 (0,0)) z9_2):gb523≠gb537));have NB537_523:=Za ((by rw[hg];exact Nat.ne_of_gt (blk_lt (g:=gb523) (o:= .cells #[.slice Ao45 t517.length co45] 26 (0,0)) z9_2):gb537≠gb523));replace BK523:=Za (Zg (g:=gb523) (o:= .cells #[.slice Ao45 t517.length co45] 26 (0,0)) z9_2 hb);clear hb hbox hg;obtain⟨Ao54,co54,eo54⟩:=Yk HO532.out;subst eo54;have hnb55:=NB537_523.out;have hnc55:=NB523_537.out;have hcz56_0:w53.cell? ⟨gb537,0,none⟩=some (.slice none 0 0):=(Zb BK537.out 0).trans rfl;have hcz56_1:w53.cell? ⟨gb537,1,none⟩=some (.slice none 0 0):=(Zb BK537.out 1).trans rfl;have hfz56_0:=Zc BK537.out 0;have hfz56_1:=Zc BK537.out 1;obtain⟨Ao57,co57,eo57⟩:=Yk HO535.out;subst eo57;obtain⟨Ao58,co58,eo58⟩:=Yk HO529.out;subst eo58;have p538:0≤(0:Int):=(by omega);have q538:0<(t527.length:Int):=Zt (by first|(with_reducible assumption)|assumption);obtain⟨ad538,e538,hx538_0⟩:=Kd.at_int (Yq HO529.out).2.2 0 p538 q538;cases e538;have qi538:(0<t527.length)=True:=eq_true (by omega);(try rw[show((0:Int)).toNat=0 from rfl] at hx538_0);(try rw[Addr.add_zero'] at hx538_0);have hn538_0:ad538.block≠gb537:=Kd.own_blk (Kd.R_ne HO529.out BK537.out (by decide));have hn538_1:ad538.block≠gb537:=Kd.own_blk (Kd.R_ne HO529.out BK537.out (by decide));replace hx538_0:=(cell_far (p:=⟨gb537,0,none⟩) (by first|(rw[add_block];exact hn538_0)|(show(Addr.add _ _).block≠_;rw[add_block];exact hn538_0)|exact hn538_0) (.slice Ao54 t530.length co54)).trans hx538_0;replace hx538_0:=(cell_far (p:=⟨gb537,1,none⟩) (by first|(rw[add_block];exact hn538_1)|(show(Addr.add _ _).block≠_;rw[add_block];exact hn538_1)|exact hn538_1) (.slice Ao57 t533.length co57)).trans hx538_0;clear hn538_0;clear hn538_1;replace p538:=eq_true p538;replace q538:=eq_true q538)|((first|((with_reducible refine gate_callee (f:=24) rfl ?_);refine goesL_ (some 36) rfl rfl Tryz.func24 z9_13 rfl #[.agg #[.slice Ao54 t530.length co54,.slice Ao57 t533.length co57],.int .i64 (Int.tmod (rd t527 0) 200)] rfl z9_1 ?_;(with_reducible refine(impl_CountSteps.calls kj2 _ _ t530 _ _ t533 (Int.tmod (rd t527 0) 200) t539 _ ?side1 ?side2 ?side3 ?side4 A10.out).mono ?_))|(go_at_call 24;(with_reducible refine(impl_CountSteps.calls kj2 _ _ t530 _ _ t533 (Int.tmod (rd t527 0) 200) t539 _ ?side1 ?side2 ?side3 ?side4 A10.out).mono ?_)));(case side1=>refine(Yq (e:=64) (base:=w.heap.size) (ok:=fun k_=>True) (n:=t530.length) (c:=co54) ?_).2.2;exact z9_19);(case side2=>exact z9_23);(case side3=>refine(Yq (e:=3) (base:=w.heap.size) (ok:=fun k_=>(((True∧some k_≠(.slice Ao50 t520.length co50:Value).ownBlock)∧some k_≠(.slice Ao51 t524.length co51:Value).ownBlock)∧some k_≠(.slice (some ad538) t527.length co58:Value).ownBlock)) (n:=t533.length) (c:=co57) ?_).2.2;exact z9_17);(case side4=>exact z9_22);rintro e w59 ⟨rfl,hb⟩;(first|refine⟨_,rfl,?_⟩|skip);replace HO519:=Za (Kd.S_below (by(with_reducible repeat(first|apply Kd.S_alloc|apply Kd.S_drewN|apply Kd.S_drew));exact(Kd.S_mono (Kd.S_far (p:=⟨gb537,1,none⟩) (Kd.S_far (p:=⟨gb537,0,none⟩) (Kd.S_types HO519.out BK537.out (by decide)) (fun _ hk=>hk.2) (.slice Ao54 t530.length co54)) (fun _ hk=>hk.2) (.slice Ao57 t533.length co57)) (fun _ h_=>h_.1))) hb);replace HO522:=Za (Kd.R_below (by(with_reducible repeat(first|apply Zw|apply Zu|apply Zr));exact(Yd (Kd.R_far (p:=⟨gb537,1,none⟩) (Kd.R_far (p:=⟨gb537,0,none⟩) (Kd.R_types HO522.out BK537.out (by decide)) (fun _ hk=>hk.2) (.slice Ao54 t530.length co54)) (fun _ hk=>hk.2) (.slice Ao57 t533.length co57)) (fun _ h_=>h_.1))) hb);replace HO526:=Za (Kd.R_below (by(with_reducible repeat(first|apply Zw|apply Zu|apply Zr));exact(Yd (Kd.R_far (p:=⟨gb537,1,none⟩) (Kd.R_far (p:=⟨gb537,0,none⟩) (Kd.R_types HO526.out BK537.out (by decide)) (fun _ hk=>hk.2) (.slice Ao54 t530.length co54)) (fun _ hk=>hk.2) (.slice Ao57 t533.length co57)) (fun _ h_=>h_.1))) hb);replace HO529:=Za (Kd.R_below (by(with_reducible repeat(first|apply Zw|apply Zu|apply Zr));exact(Yd (Kd.R_far (p:=⟨gb537,1,none⟩) (Kd.R_far (p:=⟨gb537,0,none⟩) (Kd.R_types HO529.out BK537.out (by decide)) (fun _ hk=>hk.2) (.slice Ao54 t530.length co54)) (fun _ hk=>hk.2) (.slice Ao57 t533.length co57)) (fun _ h_=>h_.1))) hb);replace HO532:=Za (Kd.R_below z9_19 hb);replace HO535:=Za (Kd.R_below z9_17 hb);replace BK523:=Za (Zg (g:=gb523) (o:= .cells #[.slice Ao45 t517.length co45] 26 (0,0)) z9_16 hb);replace BK537:=Za (Zg (g:=gb537) (o:= .cells #[.slice Ao54 t530.length co54,.slice Ao57 t533.length co57] 33 (0,0)) (by(with_reducible repeat(first|refine blk_drewN ?_ _|refine blk_drew ?_|refine blk_alloc ?_ _));refine blk_put (cs:= #[.slice Ao54 t530.length co54,.slice none 0 0]) ?_ 1 _ rfl;(with_reducible repeat(first|refine blk_drewN ?_ _|refine blk_drew ?_|refine blk_alloc ?_ _));refine blk_put (cs:= #[.slice none 0 0,.slice none 0 0]) ?_ 0 _ rfl;(with_reducible repeat(first|refine blk_drewN ?_ _|refine blk_drew ?_|refine blk_alloc ?_ _));exact BK537.out) hb);replace HB:=Za (Zj z9_5 hb);(try clear hb);(try clear hb2);(try clear hk);(try clear hi);have hcz60_0:w59.cell? ⟨gb537,0,none⟩=some (.slice Ao54 t530.length co54):=(Zb BK537.out 0).trans rfl;have hcz60_1:w59.cell? ⟨gb537,1,none⟩=some (.slice Ao57 t533.length co57):=(Zb BK537.out 1).trans rfl;have hfz60_0:=Zc BK537.out 0;have hfz60_1:=Zc BK537.out 1)|((first|((with_reducible refine gate_callee (f:=25) rfl ?_);refine goesL_ (some 38) rfl rfl Tryz.func25 z9_13 rfl #[.agg #[.slice Ao54 t530.length co54,.slice Ao57 t533.length co57]] rfl z9_1 ?_;(with_reducible refine(impl_TraceCost.calls kj2 _ _ t530 _ _ t533 t540 _ ?side1 ?side2 ?side3 ?side4 A11.out).mono ?_))|(go_at_call 25;(with_reducible refine(impl_TraceCost.calls kj2 _ _ t530 _ _ t533 t540 _ ?side1 ?side2 ?side3 ?side4 A11.out).mono ?_)));(case side1=>exact z9_10);(case side2=>exact z9_23);(case side3=>exact z9_9);(case side4=>exact z9_22);rintro e w61 ⟨rfl,hb⟩;(first|refine⟨_,rfl,?_⟩|skip);replace HO519:=Za (Kd.S_below z9_7 hb);replace HO522:=Za (Kd.R_below z9_3 hb);replace HO526:=Za (Kd.R_below z9_6 hb);replace HO529:=Za (Kd.R_below z9_8 hb);replace HO532:=Za (Kd.R_below z9_12 hb);replace HO535:=Za (Kd.R_below z9_11 hb);replace BK523:=Za (Zg (g:=gb523) (o:= .cells #[.slice Ao45 t517.length co45] 26 (0,0)) z9_2 hb);replace BK537:=Za (Zg (g:=gb537) (o:= .cells #[.slice Ao54 t530.length co54,.slice Ao57 t533.length co57] 33 (0,0)) z9_14 hb);replace HB:=Za (Zj z9_5 hb);(try clear hb);(try clear hb2);(try clear hk);(try clear hi)))
         have n0_:=Za (Kd.S_drew HO519.out)
         have n1_:=Za (Zr HO522.out)
         have n2_:=Za (Zr HO526.out)
         have n3_:=Za (Zr HO529.out)
         have n4_:=Za (Zr HO532.out)
         have n5_:=Za (Zr HO535.out)
         have n6_:=Za (blk_drew BK523.out)
         have n7_:=Za (blk_drew BK537.out)
         have n8_:=Za (Ze HB.out)
         clear HO519
         clear HO522
         clear HO526
         clear HO529
         clear HO532
         clear HO535
         clear BK523
         clear BK537
         clear HB
         have HO519:=n0_
         have HO522:=n1_
         have HO526:=n2_
         have HO529:=n3_
         have HO532:=n4_
         have HO535:=n5_
         have BK523:=n6_
         have BK537:=n7_
         have HB:=n8_
         clear n0_ n1_ n2_ n3_ n4_ n5_ n6_ n7_ n8_
         refine start_ (n:=41) (S:=fun w'=>w'.cell? ⟨gb537,0,none⟩=some (.slice Ao54 t530.length co54)∧w'.cell? ⟨gb537,1,none⟩=some (.slice Ao57 t533.length co57)) (ds:=[]) #[false,false,false,false,false,false,false,false,false,false,false,false,false,false,false,false,false,false,false,false,false,false,false,false,false,false,false,false,false,false,false,false,false,false,false,false,false,false,false,false,false] z9_13 rfl rfl ⟨(Zb BK537.out 0).trans rfl,(Zb BK537.out 1).trans rfl⟩ (fun hHeld=> ?_);refine with_tabW laws_FnCounted.tab10 laws_FnCounted.bits10 (fun HT_ HW_=> ?_)
         generalize w61.drew=w62 at HO519 HO522 HO526 HO529 HO532 HO535 BK523 BK537 HB hHeld ⊢
         refine pure_ (i:=0) (N:=some 39) (v:= ?_) (a':= ?_) #[true,false,false,false,false,false,false,false,false,false,false,false,false,false,false,false,false,false,false,false,false,false,false,false,false,false,false,false,false,false,false,false,false,false,false,false,false,false,false,false,false] rfl rfl (any_of HT_.out z9_13) (fun _ _ _ h=>h) (Or.inl ⟨by rfl,?_⟩) ?_ ?_
         rotate_left
         ·intro w'
          go_simp
          with_reducible rfl
         rotate_left
         ·simp only[Act.put,Zk,Zl,Zm,i64_w,i32_w]
          rfl
         refine pure_ (i:=1) (N:=some 40) (v:= ?_) (a':= ?_) #[true,true,false,false,false,false,false,false,false,false,false,false,false,false,false,false,false,false,false,false,false,false,false,false,false,false,false,false,false,false,false,false,false,false,false,false,false,false,false,false,false] rfl rfl (any_of HT_.out z9_13) (fun _ _ _ h=>h) (Or.inl ⟨by rfl,?_⟩) ?_ ?_
         rotate_left
         ·intro w'
          go_simp
          with_reducible rfl
         rotate_left
         ·simp only[Act.put,Zk,Zl,Zm,i64_w,i32_w]
          rfl
         refine pure_ (i:=2) (N:=some 41) (v:= ?_) (a':= ?_) #[true,true,true,false,false,false,false,false,false,false,false,false,false,false,false,false,false,false,false,false,false,false,false,false,false,false,false,false,false,false,false,false,false,false,false,false,false,false,false,false,false] rfl rfl (any_of HT_.out z9_13) (fun _ _ _ h=>h) (Or.inl ⟨by rfl,?_⟩) ?_ ?_
         rotate_left
         ·intro w'
          go_simp
          with_reducible rfl
         rotate_left
         ·simp only[Act.put,Zk,Zl,Zm,i64_w,i32_w]
          rfl
         refine pure_ (i:=4) (N:=some 43) (v:= ?_) (a':= ?_) #[true,true,true,false,true,false,false,false,false,false,false,false,false,false,false,false,false,false,false,false,false,false,false,false,false,false,false,false,false,false,false,false,false,false,false,false,false,false,false,false,false] rfl rfl (any_of HT_.out z9_13) (fun _ _ _ h=>h) (Or.inl ⟨by rfl,?_⟩) ?_ ?_
         rotate_left
         ·intro w'
          go_simp
          with_reducible rfl
         rotate_left
         ·simp only[Act.put,Zk,Zl,Zm,i64_w,i32_w]
          rfl
         refine pure_ (i:=5) (N:=some 44) (v:= ?_) (a':= ?_) #[true,true,true,false,true,true,false,false,false,false,false,false,false,false,false,false,false,false,false,false,false,false,false,false,false,false,false,false,false,false,false,false,false,false,false,false,false,false,false,false,false] rfl rfl (any_of HT_.out z9_13) (fun _ _ _ h=>h) (Or.inl ⟨by rfl,?_⟩) ?_ ?_
         rotate_left
         ·intro w'
          go_simp
          with_reducible rfl
         rotate_left
         ·simp only[Act.put,Zk,Zl,Zm,i64_w,i32_w]
          rfl
         refine take_ (i:=3) (N:=some 42) (v:= ?_) (a':= ?_) #[true,true,true,true,true,true,false,false,false,false,false,false,false,false,false,false,false,false,false,false,false,false,false,false,false,false,false,false,false,false,false,false,false,false,false,false,false,false,false,false,false] rfl rfl (take_ofW HT_.out HW_.out z9_13) (fun _ _ _ h=>h) (Or.inl ⟨by rfl,?_⟩) hHeld ?_ ?_
         rotate_left
         ·rintro w' ⟨s0,s1⟩
          go_simp
          with_reducible rfl
         rotate_left
         ·simp only[Act.put,Zk,Zl,Zm,i64_w,i32_w]
          rfl
         refine one_ (i:=6) (N:=some 45) #[true,true,true,true,true,true,true,false,false,false,false,false,false,false,false,false,false,false,false,false,false,false,false,false,false,false,false,false,false,false,false,false,false,false,false,false,false,false,false,false,false] rfl rfl (one_of HT_.out z9_13) (by decide) (fun K hK=> ?_)
         refine goes_ Tryz.func24 z9_13 rfl #[.agg #[.slice Ao54 t530.length co54,.slice Ao57 t533.length co57],.int .i64 (wrap64 ((Int.tmod (rd t527 0) 200)+1))] (by rfl) rfl rfl z9_1 ?_
         with_reducible refine(impl_CountSteps.calls kj2 _ _ t530 _ _ t533 (wrap64 ((Int.tmod (rd t527 0) 200)+1)) t541 _ ?side1 ?side2 ?side3 ?side4 A13.out).mono ?_
         (case side1=>exact z9_10)
         (case side2=>exact z9_23)
         (case side3=>exact z9_9)
         (case side4=>exact z9_22)
         rintro e w63 ⟨rfl,hb⟩
         refine⟨_,rfl,?_⟩
         have n0_:=Za (Kd.S_below z9_7 hb)
         have n1_:=Za (Kd.R_below z9_3 hb)
         have n2_:=Za (Kd.R_below z9_6 hb)
         have n3_:=Za (Kd.R_below z9_8 hb)
         have n4_:=Za (Kd.R_below z9_12 hb)
         have n5_:=Za (Kd.R_below z9_11 hb)
         have n6_:=Za (Zg (g:=gb523) (o:= .cells #[.slice Ao45 t517.length co45] 26 (0,0)) z9_2 hb)
         have n7_:=Za (Zg (g:=gb537) (o:= .cells #[.slice Ao54 t530.length co54,.slice Ao57 t533.length co57] 33 (0,0)) z9_14 hb)
         have n8_:=Za (Zj z9_5 hb)
         clear HO519
         clear HO522
         clear HO526
         clear HO529
         clear HO532
         clear HO535
         clear BK523
         clear BK537
         clear HB
         have HO519:=n0_
         have HO522:=n1_
         have HO526:=n2_
         have HO529:=n3_
         have HO532:=n4_
         have HO535:=n5_
         have BK523:=n6_
         have BK537:=n7_
         have HB:=n8_
         clear n0_ n1_ n2_ n3_ n4_ n5_ n6_ n7_ n8_
         (try clear hb)
         (try clear hb2)
         (try clear hk)
         (try clear hi)
         refine hK.out _ _ ⟨(Zb BK537.out 0).trans rfl,(Zb BK537.out 1).trans rfl⟩ (fun hHeld=> ?_)
         clear hK K
         refine norm_ (a':= ?_) ?_ ?_
         rotate_left
         ·show Act.put _ (some 45) _=_
          simp only[Act.put,Zk,Zl,Zm,i64_w,i32_w]
          rfl
         refine pure_ (i:=7) (N:=some 46) (v:= ?_) (a':= ?_) #[true,true,true,true,true,true,true,true,false,false,false,false,false,false,false,false,false,false,false,false,false,false,false,false,false,false,false,false,false,false,false,false,false,false,false,false,false,false,false,false,false] rfl rfl (any_of HT_.out z9_13) (fun _ _ _ h=>h) (Or.inl ⟨by rfl,?_⟩) ?_ ?_
         rotate_left
         ·intro w'
          go_simp
          with_reducible rfl
         rotate_left
         ·simp only[Act.put,Zk,Zl,Zm,i64_w,i32_w]
          rfl
         refine pure_ (i:=8) (N:=some 47) (v:= ?_) (a':= ?_) #[true,true,true,true,true,true,true,true,true,false,false,false,false,false,false,false,false,false,false,false,false,false,false,false,false,false,false,false,false,false,false,false,false,false,false,false,false,false,false,false,false] rfl rfl (any_of HT_.out z9_13) (fun _ _ _ h=>h) (Or.inl ⟨by rfl,?_⟩) ?_ ?_
         rotate_left
         ·intro w'
          go_simp
          with_reducible rfl
         rotate_left
         ·simp only[Act.put,Zk,Zl,Zm,i64_w,i32_w]
          rfl
         refine pure_ (i:=9) (N:=some 48) (v:= ?_) (a':= ?_) #[true,true,true,true,true,true,true,true,true,true,false,false,false,false,false,false,false,false,false,false,false,false,false,false,false,false,false,false,false,false,false,false,false,false,false,false,false,false,false,false,false] rfl rfl (any_of HT_.out z9_13) (fun _ _ _ h=>h) (Or.inl ⟨by rfl,?_⟩) ?_ ?_
         rotate_left
         ·intro w'
          go_simp
          with_reducible rfl
         rotate_left
         ·simp only[Act.put,Zk,Zl,Zm,i64_w,i32_w]
          rfl
         refine pure_ (i:=11) (N:=some 50) (v:= ?_) (a':= ?_) #[true,true,true,true,true,true,true,true,true,true,false,true,false,false,false,false,false,false,false,false,false,false,false,false,false,false,false,false,false,false,false,false,false,false,false,false,false,false,false,false,false] rfl rfl (any_of HT_.out z9_13) (fun _ _ _ h=>h) (Or.inl ⟨by rfl,?_⟩) ?_ ?_
         rotate_left
         ·intro w'
          go_simp
          with_reducible rfl
         rotate_left
         ·simp only[Act.put,Zk,Zl,Zm,i64_w,i32_w]
          rfl
         refine pure_ (i:=13) (N:=some 52) (v:= ?_) (a':= ?_) #[true,true,true,true,true,true,true,true,true,true,false,true,false,true,false,false,false,false,false,false,false,false,false,false,false,false,false,false,false,false,false,false,false,false,false,false,false,false,false,false,false] rfl rfl (any_of HT_.out z9_13) (fun _ _ _ h=>h) (Or.inl ⟨by rfl,?_⟩) ?_ ?_
         rotate_left
         ·intro w'
          go_simp
          with_reducible rfl
         rotate_left
         ·simp only[Act.put,Zk,Zl,Zm,i64_w,i32_w]
          rfl
         refine take_ (i:=10) (N:=some 49) (v:= ?_) (a':= ?_) #[true,true,true,true,true,true,true,true,true,true,true,true,false,true,false,false,false,false,false,false,false,false,false,false,false,false,false,false,false,false,false,false,false,false,false,false,false,false,false,false,false] rfl rfl (take_ofW HT_.out HW_.out z9_13) (fun _ _ _ h=>h) (Or.inl ⟨by rfl,?_⟩) hHeld ?_ ?_
         rotate_left
         ·rintro w' ⟨s0,s1⟩
          go_simp
          with_reducible rfl
         rotate_left
         ·simp only[Act.put,Zk,Zl,Zm,i64_w,i32_w]
          rfl
         refine take_ (i:=14) (N:=some 53) (v:= ?_) (a':= ?_) #[true,true,true,true,true,true,true,true,true,true,true,true,false,true,true,false,false,false,false,false,false,false,false,false,false,false,false,false,false,false,false,false,false,false,false,false,false,false,false,false,false] rfl rfl (take_ofW HT_.out HW_.out z9_13) (fun _ _ _ h=>h) (Or.inl ⟨by rfl,?_⟩) hHeld ?_ ?_
         rotate_left
         ·rintro w' ⟨s0,s1⟩
          go_simp
          with_reducible rfl
         rotate_left
         ·simp only[Act.put,Zk,Zl,Zm,i64_w,i32_w]
          rfl
         refine pure_ (i:=15) (N:=some 54) (v:= ?_) (a':= ?_) #[true,true,true,true,true,true,true,true,true,true,true,true,false,true,true,true,false,false,false,false,false,false,false,false,false,false,false,false,false,false,false,false,false,false,false,false,false,false,false,false,false] rfl rfl (any_of HT_.out z9_13) (fun _ _ _ h=>h) (Or.inl ⟨by rfl,?_⟩) ?_ ?_
         rotate_left
         ·intro w'
          go_simp
          with_reducible rfl
         rotate_left
         ·simp only[Act.put,Zk,Zl,Zm,i64_w,i32_w]
          rfl
         refine one_ (i:=12) (N:=some 51) #[true,true,true,true,true,true,true,true,true,true,true,true,true,true,true,true,false,false,false,false,false,false,false,false,false,false,false,false,false,false,false,false,false,false,false,false,false,false,false,false,false] rfl rfl (one_of HT_.out z9_13) (by decide) (fun K hK=> ?_)
         refine goes_ Tryz.func24 z9_13 rfl #[.agg #[.slice Ao54 t530.length co54,.slice Ao57 t533.length co57],.int .i64 t540] (by rfl) rfl rfl z9_1 ?_
         with_reducible refine(impl_CountSteps.calls kj2 _ _ t530 _ _ t533 t540 t542 _ ?side1 ?side2 ?side3 ?side4 A15.out).mono ?_
         (case side1=>exact z9_10)
         (case side2=>exact z9_23)
         (case side3=>exact z9_9)
         (case side4=>exact z9_22)
         rintro e w64 ⟨rfl,hb⟩
         refine⟨_,rfl,?_⟩
         have n0_:=Za (Kd.S_below z9_7 hb)
         have n1_:=Za (Kd.R_below z9_3 hb)
         have n2_:=Za (Kd.R_below z9_6 hb)
         have n3_:=Za (Kd.R_below z9_8 hb)
         have n4_:=Za (Kd.R_below z9_12 hb)
         have n5_:=Za (Kd.R_below z9_11 hb)
         have n6_:=Za (Zg (g:=gb523) (o:= .cells #[.slice Ao45 t517.length co45] 26 (0,0)) z9_2 hb)
         have n7_:=Za (Zg (g:=gb537) (o:= .cells #[.slice Ao54 t530.length co54,.slice Ao57 t533.length co57] 33 (0,0)) z9_14 hb)
         have n8_:=Za (Zj z9_5 hb)
         clear HO519
         clear HO522
         clear HO526
         clear HO529
         clear HO532
         clear HO535
         clear BK523
         clear BK537
         clear HB
         have HO519:=n0_
         have HO522:=n1_
         have HO526:=n2_
         have HO529:=n3_
         have HO532:=n4_
         have HO535:=n5_
         have BK523:=n6_
         have BK537:=n7_
         have HB:=n8_
         clear n0_ n1_ n2_ n3_ n4_ n5_ n6_ n7_ n8_
         (try clear hb)
         (try clear hb2)
         (try clear hk)
         (try clear hi)
         refine hK.out _ _ ⟨(Zb BK537.out 0).trans rfl,(Zb BK537.out 1).trans rfl⟩ (fun hHeld=> ?_)
         clear hK K
         refine norm_ (a':= ?_) ?_ ?_
         rotate_left
         ·show Act.put _ (some 51) _=_
          simp only[Act.put,Zk,Zl,Zm,i64_w,i32_w]
          rfl
         refine pure_ (i:=16) (N:=some 55) (v:= ?_) (a':= ?_) #[true,true,true,true,true,true,true,true,true,true,true,true,true,true,true,true,true,false,false,false,false,false,false,false,false,false,false,false,false,false,false,false,false,false,false,false,false,false,false,false,false] rfl rfl (any_of HT_.out z9_13) (fun _ _ _ h=>h) (Or.inl ⟨by rfl,?_⟩) ?_ ?_
         rotate_left
         ·intro w'
          go_simp
          with_reducible rfl
         rotate_left
         ·simp only[Act.put,Zk,Zl,Zm,i64_w,i32_w]
          rfl
         refine pure_ (i:=17) (N:=some 56) (v:= ?_) (a':= ?_) #[true,true,true,true,true,true,true,true,true,true,true,true,true,true,true,true,true,true,false,false,false,false,false,false,false,false,false,false,false,false,false,false,false,false,false,false,false,false,false,false,false] rfl rfl (any_of HT_.out z9_13) (fun _ _ _ h=>h) (Or.inl ⟨by rfl,?_⟩) ?_ ?_
         rotate_left
         ·intro w'
          go_simp
          with_reducible rfl
         rotate_left
         ·simp only[Act.put,Zk,Zl,Zm,i64_w,i32_w]
          rfl
         refine pure_ (i:=18) (N:=some 57) (v:= ?_) (a':= ?_) #[true,true,true,true,true,true,true,true,true,true,true,true,true,true,true,true,true,true,true,false,false,false,false,false,false,false,false,false,false,false,false,false,false,false,false,false,false,false,false,false,false] rfl rfl (any_of HT_.out z9_13) (fun _ _ _ h=>h) (Or.inl ⟨by rfl,?_⟩) ?_ ?_
         rotate_left
         ·intro w'
          go_simp
          with_reducible rfl
         rotate_left
         ·simp only[Act.put,Zk,Zl,Zm,i64_w,i32_w]
          rfl
         refine pure_ (i:=20) (N:=some 59) (v:= ?_) (a':= ?_) #[true,true,true,true,true,true,true,true,true,true,true,true,true,true,true,true,true,true,true,false,true,false,false,false,false,false,false,false,false,false,false,false,false,false,false,false,false,false,false,false,false] rfl rfl (any_of HT_.out z9_13) (fun _ _ _ h=>h) (Or.inl ⟨by rfl,?_⟩) ?_ ?_
         rotate_left
         ·intro w'
          go_simp
          with_reducible rfl
         rotate_left
         ·simp only[Act.put,Zk,Zl,Zm,i64_w,i32_w]
          rfl
         refine pure_ (i:=21) (N:=some 60) (v:= ?_) (a':= ?_) #[true,true,true,true,true,true,true,true,true,true,true,true,true,true,true,true,true,true,true,false,true,true,false,false,false,false,false,false,false,false,false,false,false,false,false,false,false,false,false,false,false] rfl rfl (any_of HT_.out z9_13) (fun _ _ _ h=>h) (Or.inl ⟨by rfl,?_⟩) ?_ ?_
         rotate_left
         ·intro w'
          go_simp
          with_reducible rfl
         rotate_left
         ·simp only[Act.put,Zk,Zl,Zm,i64_w,i32_w]
          rfl
         refine pure_ (i:=23) (N:=some 62) (v:= ?_) (a':= ?_) #[true,true,true,true,true,true,true,true,true,true,true,true,true,true,true,true,true,true,true,false,true,true,false,true,false,false,false,false,false,false,false,false,false,false,false,false,false,false,false,false,false] rfl rfl (any_of HT_.out z9_13) (fun _ _ _ h=>h) (Or.inl ⟨by rfl,?_⟩) ?_ ?_
         rotate_left
         ·intro w'
          go_simp
          with_reducible rfl
         rotate_left
         ·simp only[Act.put,Zk,Zl,Zm,i64_w,i32_w]
          rfl
         refine take_ (i:=19) (N:=some 58) (v:= ?_) (a':= ?_) #[true,true,true,true,true,true,true,true,true,true,true,true,true,true,true,true,true,true,true,true,true,true,false,true,false,false,false,false,false,false,false,false,false,false,false,false,false,false,false,false,false] rfl rfl (take_ofW HT_.out HW_.out z9_13) (fun _ _ _ h=>h) (Or.inl ⟨by rfl,?_⟩) hHeld ?_ ?_
         rotate_left
         ·rintro w' ⟨s0,s1⟩
          go_simp
          with_reducible rfl
         rotate_left
         ·simp only[Act.put,Zk,Zl,Zm,i64_w,i32_w]
          rfl
         refine take_ (i:=24) (N:=some 63) (v:= ?_) (a':= ?_) #[true,true,true,true,true,true,true,true,true,true,true,true,true,true,true,true,true,true,true,true,true,true,false,true,true,false,false,false,false,false,false,false,false,false,false,false,false,false,false,false,false] rfl rfl (take_ofW HT_.out HW_.out z9_13) (fun _ _ _ h=>h) (Or.inl ⟨by rfl,?_⟩) hHeld ?_ ?_
         rotate_left
         ·rintro w' ⟨s0,s1⟩
          go_simp
          with_reducible rfl
         rotate_left
         ·simp only[Act.put,Zk,Zl,Zm,i64_w,i32_w]
          rfl
         refine pure_ (i:=25) (N:=some 64) (v:= ?_) (a':= ?_) #[true,true,true,true,true,true,true,true,true,true,true,true,true,true,true,true,true,true,true,true,true,true,false,true,true,true,false,false,false,false,false,false,false,false,false,false,false,false,false,false,false] rfl rfl (any_of HT_.out z9_13) (fun _ _ _ h=>h) (Or.inl ⟨by rfl,?_⟩) ?_ ?_
         rotate_left
         ·intro w'
          go_simp
          with_reducible rfl
         rotate_left
         ·simp only[Act.put,Zk,Zl,Zm,i64_w,i32_w]
          rfl
         refine one_ (i:=22) (N:=some 61) #[true,true,true,true,true,true,true,true,true,true,true,true,true,true,true,true,true,true,true,true,true,true,true,true,true,true,false,false,false,false,false,false,false,false,false,false,false,false,false,false,false] rfl rfl (one_of HT_.out z9_13) (by decide) (fun K hK=> ?_)
         refine goes_ Tryz.func24 z9_13 rfl #[.agg #[.slice Ao54 t530.length co54,.slice Ao57 t533.length co57],.int .i64 (wrap64 (t540 - 1))] (by rfl) rfl rfl z9_1 ?_
         with_reducible refine(impl_CountSteps.calls kj2 _ _ t530 _ _ t533 (wrap64 (t540 - 1)) t543 _ ?side1 ?side2 ?side3 ?side4 A17.out).mono ?_
         (case side1=>exact z9_10)
         (case side2=>exact z9_23)
         (case side3=>exact z9_9)
         (case side4=>exact z9_22)
         rintro e w65 ⟨rfl,hb⟩
         refine⟨_,rfl,?_⟩
         have n0_:=Za (Kd.S_below z9_7 hb)
         have n1_:=Za (Kd.R_below z9_3 hb)
         have n2_:=Za (Kd.R_below z9_6 hb)
         have n3_:=Za (Kd.R_below z9_8 hb)
         have n4_:=Za (Kd.R_below z9_12 hb)
         have n5_:=Za (Kd.R_below z9_11 hb)
         have n6_:=Za (Zg (g:=gb523) (o:= .cells #[.slice Ao45 t517.length co45] 26 (0,0)) z9_2 hb)
         have n7_:=Za (Zg (g:=gb537) (o:= .cells #[.slice Ao54 t530.length co54,.slice Ao57 t533.length co57] 33 (0,0)) z9_14 hb)
         have n8_:=Za (Zj z9_5 hb)
         clear HO519
         clear HO522
         clear HO526
         clear HO529
         clear HO532
         clear HO535
         clear BK523
         clear BK537
         clear HB
         have HO519:=n0_
         have HO522:=n1_
         have HO526:=n2_
         have HO529:=n3_
         have HO532:=n4_
         have HO535:=n5_
         have BK523:=n6_
         have BK537:=n7_
         have HB:=n8_
         clear n0_ n1_ n2_ n3_ n4_ n5_ n6_ n7_ n8_
         (try clear hb)
         (try clear hb2)
         (try clear hk)
         (try clear hi)
         refine hK.out _ _ ⟨(Zb BK537.out 0).trans rfl,(Zb BK537.out 1).trans rfl⟩ (fun hHeld=> ?_)
         clear hK K
         refine norm_ (a':= ?_) ?_ ?_
         rotate_left
         ·show Act.put _ (some 61) _=_
          simp only[Act.put,Zk,Zl,Zm,i64_w,i32_w]
          rfl
         refine pure_ (i:=26) (N:=some 65) (v:= ?_) (a':= ?_) #[true,true,true,true,true,true,true,true,true,true,true,true,true,true,true,true,true,true,true,true,true,true,true,true,true,true,true,false,false,false,false,false,false,false,false,false,false,false,false,false,false] rfl rfl (any_of HT_.out z9_13) (fun _ _ _ h=>h) (Or.inl ⟨by rfl,?_⟩) ?_ ?_
         rotate_left
         ·intro w'
          go_simp
          with_reducible rfl
         rotate_left
         ·simp only[Act.put,Zk,Zl,Zm,i64_w,i32_w]
          rfl
         refine pure_ (i:=27) (N:=some 66) (v:= ?_) (a':= ?_) #[true,true,true,true,true,true,true,true,true,true,true,true,true,true,true,true,true,true,true,true,true,true,true,true,true,true,true,true,false,false,false,false,false,false,false,false,false,false,false,false,false] rfl rfl (any_of HT_.out z9_13) (fun _ _ _ h=>h) (Or.inl ⟨by rfl,?_⟩) ?_ ?_
         rotate_left
         ·intro w'
          go_simp
          with_reducible rfl
         rotate_left
         ·simp only[Act.put,Zk,Zl,Zm,i64_w,i32_w]
          rfl
         refine pure_ (i:=28) (N:=some 67) (v:= ?_) (a':= ?_) #[true,true,true,true,true,true,true,true,true,true,true,true,true,true,true,true,true,true,true,true,true,true,true,true,true,true,true,true,true,false,false,false,false,false,false,false,false,false,false,false,false] rfl rfl (any_of HT_.out z9_13) (fun _ _ _ h=>h) (Or.inl ⟨by rfl,?_⟩) ?_ ?_
         rotate_left
         ·intro w'
          go_simp
          with_reducible rfl
         rotate_left
         ·simp only[Act.put,Zk,Zl,Zm,i64_w,i32_w]
          rfl
         refine pure_ (i:=29) (N:=some 68) (v:= ?_) (a':= ?_) #[true,true,true,true,true,true,true,true,true,true,true,true,true,true,true,true,true,true,true,true,true,true,true,true,true,true,true,true,true,true,false,false,false,false,false,false,false,false,false,false,false] rfl rfl (any_of HT_.out z9_13) (fun _ _ _ h=>h) (Or.inl ⟨by rfl,?_⟩) ?_ ?_
         rotate_left
         ·intro w'
          go_simp
          with_reducible rfl
         rotate_left
         ·simp only[Act.put,Zk,Zl,Zm,i64_w,i32_w]
          rfl
         refine pure_ (i:=30) (N:=some 69) (v:= ?_) (a':= ?_) #[true,true,true,true,true,true,true,true,true,true,true,true,true,true,true,true,true,true,true,true,true,true,true,true,true,true,true,true,true,true,true,false,false,false,false,false,false,false,false,false,false] rfl rfl (any_of HT_.out z9_13) (fun _ _ _ h=>h) (Or.inl ⟨by rfl,?_⟩) ?_ ?_
         rotate_left
         ·intro w'
          go_simp
          with_reducible rfl
         rotate_left
         ·simp only[Act.put,Zk,Zl,Zm,i64_w,i32_w]
          rfl
         refine pure_ (i:=31) (N:=some 70) (v:= ?_) (a':= ?_) #[true,true,true,true,true,true,true,true,true,true,true,true,true,true,true,true,true,true,true,true,true,true,true,true,true,true,true,true,true,true,true,true,false,false,false,false,false,false,false,false,false] rfl rfl (any_of HT_.out z9_13) (fun _ _ _ h=>h) (Or.inl ⟨by rfl,?_⟩) ?_ ?_
         rotate_left
         ·intro w'
          go_simp
          with_reducible rfl
         rotate_left
         ·simp only[Act.put,Zk,Zl,Zm,i64_w,i32_w]
          rfl
         refine pure_ (i:=32) (N:=some 71) (v:= ?_) (a':= ?_) #[true,true,true,true,true,true,true,true,true,true,true,true,true,true,true,true,true,true,true,true,true,true,true,true,true,true,true,true,true,true,true,true,true,false,false,false,false,false,false,false,false] rfl rfl (any_of HT_.out z9_13) (fun _ _ _ h=>h) (Or.inl ⟨by rfl,?_⟩) ?_ ?_
         rotate_left
         ·intro w'
          go_simp
          with_reducible rfl
         rotate_left
         ·simp only[Act.put,Zk,Zl,Zm,i64_w,i32_w]
          rfl
         refine pure_ (i:=33) (N:=some 72) (v:= ?_) (a':= ?_) #[true,true,true,true,true,true,true,true,true,true,true,true,true,true,true,true,true,true,true,true,true,true,true,true,true,true,true,true,true,true,true,true,true,true,false,false,false,false,false,false,false] rfl rfl (any_of HT_.out z9_13) (fun _ _ _ h=>h) (Or.inl ⟨by rfl,?_⟩) ?_ ?_
         rotate_left
         ·intro w'
          go_simp
          with_reducible rfl
         rotate_left
         ·simp only[Act.put,Zk,Zl,Zm,i64_w,i32_w]
          rfl
         refine pure_ (i:=34) (N:=some 73) (v:= ?_) (a':= ?_) #[true,true,true,true,true,true,true,true,true,true,true,true,true,true,true,true,true,true,true,true,true,true,true,true,true,true,true,true,true,true,true,true,true,true,true,false,false,false,false,false,false] rfl rfl (any_of HT_.out z9_13) (fun _ _ _ h=>h) (Or.inl ⟨by rfl,?_⟩) ?_ ?_
         rotate_left
         ·intro w'
          go_simp
          with_reducible rfl
         rotate_left
         ·simp only[Act.put,Zk,Zl,Zm,i64_w,i32_w]
          rfl
         refine take_ (i:=35) (N:=some 74) (v:= ?_) (a':= ?_) #[true,true,true,true,true,true,true,true,true,true,true,true,true,true,true,true,true,true,true,true,true,true,true,true,true,true,true,true,true,true,true,true,true,true,true,true,false,false,false,false,false] rfl rfl (take_ofW HT_.out HW_.out z9_13) (fun _ _ _ h=>h) (Or.inl ⟨by rfl,?_⟩) hHeld ?_ ?_
         rotate_left
         ·rintro w' ⟨s0,s1⟩
          go_simp
          with_reducible rfl
         rotate_left
         ·simp only[Act.put,Zk,Zl,Zm,i64_w,i32_w]
          rfl
         refine pure_ (i:=36) (N:=some 75) (v:= ?_) (a':= ?_) #[true,true,true,true,true,true,true,true,true,true,true,true,true,true,true,true,true,true,true,true,true,true,true,true,true,true,true,true,true,true,true,true,true,true,true,true,true,false,false,false,false] rfl rfl (any_of HT_.out z9_13) (fun _ _ _ h=>h) (Or.inl ⟨by rfl,?_⟩) ?_ ?_
         rotate_left
         ·intro w'
          go_simp
          with_reducible rfl
         rotate_left
         ·simp only[Act.put,Zk,Zl,Zm,i64_w,i32_w]
          rfl
         refine pure_ (i:=37) (N:=some 76) (v:= ?_) (a':= ?_) #[true,true,true,true,true,true,true,true,true,true,true,true,true,true,true,true,true,true,true,true,true,true,true,true,true,true,true,true,true,true,true,true,true,true,true,true,true,true,false,false,false] rfl rfl (any_of HT_.out z9_13) (fun _ _ _ h=>h) (Or.inl ⟨by rfl,?_⟩) ?_ ?_
         rotate_left
         ·intro w'
          go_simp
          with_reducible rfl
         rotate_left
         ·simp only[Act.put,Zk,Zl,Zm,i64_w,i32_w]
          rfl
         refine pure_ (i:=38) (N:=some 77) (v:= ?_) (a':= ?_) #[true,true,true,true,true,true,true,true,true,true,true,true,true,true,true,true,true,true,true,true,true,true,true,true,true,true,true,true,true,true,true,true,true,true,true,true,true,true,true,false,false] rfl rfl (any_of HT_.out z9_13) (fun _ _ _ h=>h) (Or.inl ⟨by rfl,?_⟩) ?_ ?_
         rotate_left
         ·intro w'
          go_simp
          with_reducible rfl
         rotate_left
         ·simp only[Act.put,Zk,Zl,Zm,i64_w,i32_w]
          rfl
         refine pure_ (i:=39) (N:=some 78) (v:= ?_) (a':= ?_) #[true,true,true,true,true,true,true,true,true,true,true,true,true,true,true,true,true,true,true,true,true,true,true,true,true,true,true,true,true,true,true,true,true,true,true,true,true,true,true,true,false] rfl rfl (any_of HT_.out z9_13) (fun _ _ _ h=>h) (Or.inl ⟨by rfl,?_⟩) ?_ ?_
         rotate_left
         ·intro w'
          go_simp
          with_reducible rfl
         rotate_left
         ·simp only[Act.put,Zk,Zl,Zm,i64_w,i32_w]
          rfl
         refine pure_ (i:=40) (N:=some 2) (v:= ?_) (a':= ?_) #[true,true,true,true,true,true,true,true,true,true,true,true,true,true,true,true,true,true,true,true,true,true,true,true,true,true,true,true,true,true,true,true,true,true,true,true,true,true,true,true,true] rfl rfl (any_of HT_.out z9_13) (fun _ _ _ h=>h) (Or.inl ⟨by rfl,?_⟩) ?_ ?_
         rotate_left
         ·intro w'
          go_simp
          with_reducible rfl
         rotate_left
         ·simp only[Act.put,Zk,Zl,Zm,i64_w,i32_w]
          rfl
         refine done_ (done_of HT_.out z9_13) ?_
         try go_wp2
         go_ret
         exact⟨by first|rfl|(simp[errW_none,errW_some]<;>rfl)|(simp[*,errW_none,errW_some]<;>rfl)|(simp[*,errW_none,errW_some,i64_w];done),by repeat(first|(with_reducible first|exact HB.out|apply Zi|apply Zf|apply Ze|refine Zd ?_ GE523.out|refine Zd ?_ GE537.out)|exact HB.out)⟩
       ·rw[if_neg c18] at H
        have c18b0:decide (t543<(t530.length:Int))=false:=Yc c18
        clear c18
        exact absurd (hT.out.symm.trans (Zo H).symm) (by decide)
      ·rw[if_neg c16] at H
       have c16b0:(t542==(t530.length:Int))=false:=beq_eq_false_iff_ne.mpr c16
       have c16b1:(t542 != (t530.length:Int))=true:=bne_iff_ne.mpr c16
       exact absurd (hT.out.symm.trans (Zo H).symm) (by decide)
     ·rw[if_neg c14] at H
      have c14b0:decide (t539≤t541)=false:=Yc c14
      clear c14
      exact absurd (hT.out.symm.trans (Zo H).symm) (by decide)
    ·replace c12:=Bool.eq_false_iff.mpr c12
     subst c12
     rw[if_neg (show ¬(false=true) by decide)] at H
     exact absurd (hT.out.symm.trans (Zo H).symm) (by decide)
   ·rw[if_neg c9] at H
    exact absurd H (by simp)
def laws_FnCounted.Pure:Prop:=∀(l0:List Int),l0.length≤maxLen→l0.length*1≤140737488351232→(∀x∈l0,(Lit.int .u8 x).wf=true)→∃k,laws_FnCounted.f k l0=some true
theorem laws_FnCounted.walk (P:laws_FnCounted.Pure) (a0:Option Addr) (len0 cap0:Nat) (z0:List Int) (w:World) (w0:(a0=none∧len0=0∧cap0=0∧z0=[])∨∃x,a0=some x∧len0≤cap0∧cap0≤maxLen∧z0.length=cap0∧(∀i,i<z0.length→w.cell? (x.add i)=some (.int .u8 (z0.getD i 0)))∧∀n∈z0,(Lit.int .u8 n).wf=true) (y0:len0*1≤140737488351232):
  Calls Tryz.prog 5 #[.slice a0 len0 cap0] w fun e w'=>e= .returned (.bool true)∧Below w.heap.size w w':=by
 obtain⟨l0,rfl,hr0,hm0,hw0,hc0⟩:=ReadsInt.ofRowC w0
 obtain⟨k,h⟩:=P l0 hm0 y0 hw0
 refine(laws_FnCounted.calls k _ _ l0 true w (Kd.C_of_reads (d:=(0:Int)) (h1:=fun _=>rfl) hr0) hc0 h ⟨rfl⟩).mono ?_
 rintro e w' ⟨rfl,hd⟩
 exact⟨rfl,hd⟩
end Go.Proofs.YtjgfldbogjipiaaGreat.G
