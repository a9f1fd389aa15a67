/- Functions of the program as plain Lean functions, and that each call comes to its function's answer; written by a program of the session. No condition. -/
import Derived.Test.YtccjlmpeogifkaaGreatGx0
import Derived.Test.YtccjlmpeogifkaaGreatGx3
import Derived.Test.YtccjlmpeogifkaaGreatGx4
import Derived.Test.YtccjlmpeogifkaaGreatGx5
namespace Go.Proofs.YtccjlmpeogifkaaGreat.G
open Go.RowKit Go.Proofs.YtccjlmpeogifkaaGreatW.PrintWords Go.Proofs.YtccjlmpeogifkaaGreatW.PrintLast Go.Proofs.YtccjlmpeogifkaaGreatW.PrintMore
attribute [local go_sem] max2_int min2_int max_two min_two max_three min_three max_four min_four   -- for this text's walks alone
set_option linter.unusedVariables false
set_option linter.unusedSimpArgs false
theorem z6_0 {P:Prop} (h:P:=by rw[hw];exact(by(with_reducible repeat(first|refine blk_drewN ?_ _|refine blk_drew ?_|refine blk_alloc ?_ _));refine blk_put (cs:= #[.int .i64 ((rd_T77 l0 x10_1).f0),.int .i64 ((rd_T77 l0 x10_1).f1),.int .i64 ((rd_T77 l0 x10_1).f2),.int .i64 ((rd_T77 l0 x10_1).f3.f0),.int .i64 ((rd_T77 l0 x10_1).f3.f1),.int .i64 0]) ?_ 5 _ rfl;(with_reducible repeat(first|refine blk_drewN ?_ _|refine blk_drew ?_|refine blk_alloc ?_ _));refine blk_put (cs:= #[.int .i64 ((rd_T77 l0 x10_1).f0),.int .i64 ((rd_T77 l0 x10_1).f1),.int .i64 ((rd_T77 l0 x10_1).f2),.int .i64 ((rd_T77 l0 x10_1).f3.f0),.int .i64 0,.int .i64 0]) ?_ 4 _ rfl;(with_reducible repeat(first|refine blk_drewN ?_ _|refine blk_drew ?_|refine blk_alloc ?_ _));refine blk_put (cs:= #[.int .i64 ((rd_T77 l0 x10_1).f0),.int .i64 ((rd_T77 l0 x10_1).f1),.int .i64 ((rd_T77 l0 x10_1).f2),.int .i64 0,.int .i64 0,.int .i64 0]) ?_ 3 _ rfl;(with_reducible repeat(first|refine blk_drewN ?_ _|refine blk_drew ?_|refine blk_alloc ?_ _));refine blk_put (cs:= #[.int .i64 ((rd_T77 l0 x10_1).f0),.int .i64 ((rd_T77 l0 x10_1).f1),.int .i64 0,.int .i64 0,.int .i64 0,.int .i64 0]) ?_ 2 _ rfl;(with_reducible repeat(first|refine blk_drewN ?_ _|refine blk_drew ?_|refine blk_alloc ?_ _));refine blk_put (cs:= #[.int .i64 ((rd_T77 l0 x10_1).f0),.int .i64 0,.int .i64 0,.int .i64 0,.int .i64 0,.int .i64 0]) ?_ 1 _ rfl;(with_reducible repeat(first|refine blk_drewN ?_ _|refine blk_drew ?_|refine blk_alloc ?_ _));refine blk_put (cs:= #[.int .i64 0,.int .i64 0,.int .i64 0,.int .i64 0,.int .i64 0,.int .i64 0]) ?_ 0 _ rfl;(with_reducible repeat(first|refine blk_drewN ?_ _|refine blk_drew ?_|refine blk_alloc ?_ _));exact BK221.out)):P:=h
theorem z6_1 {P:Prop} (h:P:=by rw[hw];exact(by(with_reducible repeat(first|apply Zp|apply Zo|apply Zn));exact Yf (Kd.R_far (p:=⟨gb221,5,none⟩) (Kd.R_far (p:=⟨gb221,4,none⟩) (Kd.R_far (p:=⟨gb221,3,none⟩) (Kd.R_far (p:=⟨gb221,2,none⟩) (Kd.R_far (p:=⟨gb221,1,none⟩) (Kd.R_far (p:=⟨gb221,0,none⟩) (Kd.R_types HO_4.out BK221.out (by decide)) (fun _ hk=>hk.2) (.int .i64 ((rd_T77 l0 x10_1).f0))) (fun _ hk=>hk.2) (.int .i64 ((rd_T77 l0 x10_1).f1))) (fun _ hk=>hk.2) (.int .i64 ((rd_T77 l0 x10_1).f2))) (fun _ hk=>hk.2) (.int .i64 ((rd_T77 l0 x10_1).f3.f0))) (fun _ hk=>hk.2) (.int .i64 ((rd_T77 l0 x10_1).f3.f1))) (fun _ hk=>hk.2) (.int .i64 ((rd_T77 l0 x10_1).f3.f2))) (fun _ hk=>⟨hk.1.1,hk.1.2⟩))):P:=h
theorem z6_2 {P:Prop} (h:P:=by rw[hw];exact(by(with_reducible repeat(first|apply Zp|apply Zo|apply Zn));exact Yf (Kd.R_far (p:=⟨gb221,5,none⟩) (Kd.R_far (p:=⟨gb221,4,none⟩) (Kd.R_far (p:=⟨gb221,3,none⟩) (Kd.R_far (p:=⟨gb221,2,none⟩) (Kd.R_far (p:=⟨gb221,1,none⟩) (Kd.R_far (p:=⟨gb221,0,none⟩) (Kd.R_types HO_3.out BK221.out (by decide)) (fun _ hk=>hk.2) (.int .i64 ((rd_T77 l0 x10_1).f0))) (fun _ hk=>hk.2) (.int .i64 ((rd_T77 l0 x10_1).f1))) (fun _ hk=>hk.2) (.int .i64 ((rd_T77 l0 x10_1).f2))) (fun _ hk=>hk.2) (.int .i64 ((rd_T77 l0 x10_1).f3.f0))) (fun _ hk=>hk.2) (.int .i64 ((rd_T77 l0 x10_1).f3.f1))) (fun _ hk=>hk.2) (.int .i64 ((rd_T77 l0 x10_1).f3.f2))) (fun _ hk=>⟨hk.1.1,hk.1.2⟩))):P:=h
theorem z6_3 {P:Prop} (h:P:=by repeat(first|(with_reducible first|exact HB.out|apply Zh|apply Ze|apply Zd)|exact HB.out)):P:=h
theorem z6_4 {P:Prop} (h:P:=by repeat(first|(with_reducible first|exact HK.out|apply Kept.alloc|apply Kept.drewN|apply Kept.drew|refine Kept.setCell ?_ (.inr GW221.out) _)|exact HK.out)):P:=h
theorem z6_5 {P:Prop} (h:P:=by repeat(first|(with_reducible first|exact HB.out|apply Zh|apply Ze|apply Zd|refine Zg ?_ GE221.out)|exact HB.out)):P:=h
theorem z6_6 {P:Prop} (h:P:=by(with_reducible repeat(first|apply Zp|apply Zo|apply Zn));exact HO_3.out):P:=h
theorem z6_7 {P:Prop} (h:P:=by first|(with_reducible assumption)|assumption):P:=h
theorem z6_8 {P:Prop} (h:P:=by repeat(first|(with_reducible first|exact HB.out|apply Zh|apply Ze|apply Zd|refine Zg ?_ GE239.out)|exact HB.out)):P:=h
theorem z6_9 {P:Prop} (h:P:=by(try simp only[Ys,Yt,List.map_nil]);first|done|rfl|(simp only[List.length_drop,List.length_take];rfl)):P:=h
theorem z6_10 {P:Prop} (h:P:=by(with_reducible repeat(first|apply Zp|apply Zo|apply Zn));exact HO_4.out):P:=h
theorem z6_11 {P:Prop} (h:P:=by(with_reducible repeat(first|refine blk_drewN ?_ _|refine blk_drew ?_|refine blk_alloc ?_ _));exact BK221.out):P:=h
theorem z6_12 {P:Prop} (h:P:=by rw[hg];exact(by first|exact HK.out.1|exact(show Kept w _ (fun k_=>P3_ k_∨P4_ k_) from by repeat(first|(with_reducible first|exact HK.out|apply Kept.alloc|apply Kept.drewN|apply Kept.drew)|exact HK.out)).1)):P:=h
theorem z6_13 {P:Prop} (h:P:=by first|rfl|(simp;done)|(simp[*];done)):P:=h
theorem z6_14 {P:Prop} (h:P:=by repeat(first|(with_reducible first|exact HB.out|apply Zh|apply Ze|apply Zd|refine Zg ?_ GE201.out)|exact HB.out)):P:=h
theorem z6_15 {P:Prop} (h:P:=by(with_reducible repeat(first|refine blk_drewN ?_ _|refine blk_drew ?_|refine blk_alloc ?_ _));exact BK239.out):P:=h
theorem z6_16 {P:Prop} (h:P:=by first|(go_simp;done)|(go_simp;rfl)):P:=h
theorem z6_17 {P:Prop} (h:P:=by repeat(first|(with_reducible first|exact HK.out|apply Kept.alloc|apply Kept.drewN|apply Kept.drew)|exact HK.out)):P:=h
theorem z6_18 {P:Prop} (h:P:=by repeat(first|exact(Yd HO_3.out).2.2|(with_reducible refine Yh ?_ _)|(with_reducible refine Ye ?_ _)|(with_reducible refine Yi ?_))):P:=h
theorem z6_19 {P:Prop} (h:P:=by first|exact Kd.C_kept_own (HO_3.out) (fun k_ hk_ hs_=>(hk_.2) hs_)|(have h_:=HO_3.out;rw[(Yd HO_3.out).1] at h_;exact Kd.C_kept_own h_ (fun k_ hk_ hs_=>(hk_.2) hs_))):P:=h
theorem z6_20 {P:Prop} (h:P:=by(with_reducible repeat(first|refine blk_drewN ?_ _|refine blk_drew ?_|refine blk_alloc ?_ _));exact BK201.out):P:=h
theorem z6_21 {P:Prop} (h:P:=by first|exact HK.out.1|exact(show Kept w _ (fun k_=>P3_ k_∨P4_ k_) from by repeat(first|(with_reducible first|exact HK.out|apply Kept.alloc|apply Kept.drewN|apply Kept.drew|refine Kept.setCell ?_ (.inr GW221.out) _)|exact HK.out)).1):P:=h
theorem z6_22 {P:Prop} (h:P:=by rw[hg];exact(Zt z6_3)):P:=h
/-! ### spec_MustWrite: function 54 -/
mutual
def spec_MustWrite.l0:Nat→List (S77)→List Bool→Int→Option (List Int)
 |0,_,_,_=>none
 |k+1,x0,x3,x4=>if x4<(x0.length:Int) then ((spec_BlockOk.f k x0).bind fun t191=>(spec_MustWrite.j1 k x0 x3 x4 t191)) else (spec_MustWrite.j1 k x0 x3 x4 false)
def spec_MustWrite.j1:Nat→List (S77)→List Bool→Int→Bool→Option (List Int)
 |0,_,_,_,_=>none
 |k+1,x0,x3,x4,x13=>if x13=true then (if 0≤x4 then (if x4<(x0.length:Int) then (if ((rd_T77 x0 x4).f0)=4 then ((spec_l05End.f k x0 x4).bind fun t196=>(spec_MustWrite.l0 k x0 x3 (wrap64 (t196+1)))) else ((spec_l07Writes.f ((rd_T77 x0 x4).f0) ((rd_T77 x0 x4).f1) ((rd_T77 x0 x4).f2) ((rd_T77 x0 x4).f3.f0) ((rd_T77 x0 x4).f3.f1) ((rd_T77 x0 x4).f3.f2)).bind fun t198=>(if t198=true then (if 0≤((rd_T77 x0 x4).f1) then (if ((rd_T77 x0 x4).f1)<(x3.length:Int) then (spec_MustWrite.l0 k x0 (x3.set (((rd_T77 x0 x4).f1):Int).toNat true) (wrap64 (x4+1))) else (none)) else (none)) else (spec_MustWrite.l0 k x0 x3 (wrap64 (x4+1)))))) else (none)) else (none)) else ((spec_l07List.f k x3).bind fun t192=>(some t192))
end
def spec_MustWrite.f (k:Nat) (l0:List (S77)):Option (List Int):=if 8≤281474976710656 then (spec_MustWrite.l0 k l0 (List.replicate 8 false) 0) else (none)
theorem spec_MustWrite.mono_l:∀k,(∀y0 y1 y2,LeO (spec_MustWrite.l0 k y0 y1 y2) (spec_MustWrite.l0 (k+1) y0 y1 y2))∧(∀y0 y1 y2 y3,LeO (spec_MustWrite.j1 k y0 y1 y2 y3) (spec_MustWrite.j1 (k+1) y0 y1 y2 y3))
 |0=>⟨fun _ _ _ r h=>by simp[spec_MustWrite.l0] at h,fun _ _ _ _ r h=>by simp[spec_MustWrite.j1] at h⟩
 |k+1=>by
  obtain⟨ih0,ih1⟩:=spec_MustWrite.mono_l k
  refine⟨?_,?_⟩
  ·intro y0 y1 y2
   unfold spec_MustWrite.l0
   repeat' first
   |(with_reducible exact ih0 _ _ _)
   |(with_reducible exact ih1 _ _ _ _)
   |(with_reducible exact spec_BlockOk.mono _ _)
   |(with_reducible exact spec_l05End.mono _ _ _)
   |(with_reducible exact spec_l07List.mono _ _)
   |(with_reducible exact Yn _)
   |(with_reducible exact Yb _)
   |(with_reducible refine Zx ?_ ?_)
   |(with_reducible refine Zy ?_ (fun _=> ?_))
   |exact ih0 _ _ _
   |exact ih1 _ _ _ _
   |exact spec_BlockOk.mono _ _
   |exact spec_l05End.mono _ _ _
   |exact spec_l07List.mono _ _
   |exact Yb _
   |refine Zx ?_ ?_
   |refine Zy ?_ (fun _=> ?_)
  ·intro y0 y1 y2 y3
   unfold spec_MustWrite.j1
   repeat' first
   |(with_reducible exact ih0 _ _ _)
   |(with_reducible exact ih1 _ _ _ _)
   |(with_reducible exact spec_BlockOk.mono _ _)
   |(with_reducible exact spec_l05End.mono _ _ _)
   |(with_reducible exact spec_l07List.mono _ _)
   |(with_reducible exact Yn _)
   |(with_reducible exact Yb _)
   |(with_reducible refine Zx ?_ ?_)
   |(with_reducible refine Zy ?_ (fun _=> ?_))
   |exact ih0 _ _ _
   |exact ih1 _ _ _ _
   |exact spec_BlockOk.mono _ _
   |exact spec_l05End.mono _ _ _
   |exact spec_l07List.mono _ _
   |exact Yb _
   |refine Zx ?_ ?_
   |refine Zy ?_ (fun _=> ?_)
theorem spec_MustWrite.mono:∀a0 k,LeO (spec_MustWrite.f k a0) (spec_MustWrite.f (k+1) a0):=by
 intro a0 k
 obtain⟨ih0,ih1⟩:=spec_MustWrite.mono_l k
 unfold spec_MustWrite.f
 repeat' first
   |(with_reducible exact ih0 _ _ _)
   |(with_reducible exact ih1 _ _ _ _)
   |(with_reducible exact spec_BlockOk.mono _ _)
   |(with_reducible exact spec_l05End.mono _ _ _)
   |(with_reducible exact spec_l07List.mono _ _)
   |(with_reducible exact Yn _)
   |(with_reducible exact Yb _)
   |(with_reducible refine Zx ?_ ?_)
   |(with_reducible refine Zy ?_ (fun _=> ?_))
   |exact ih0 _ _ _
   |exact ih1 _ _ _ _
   |exact spec_BlockOk.mono _ _
   |exact spec_l05End.mono _ _ _
   |exact spec_l07List.mono _ _
   |exact Yb _
   |refine Zx ?_ ?_
   |refine Zy ?_ (fun _=> ?_)
set_option maxHeartbeats 8000000 in
set_option maxRecDepth 100000 in
theorem spec_MustWrite.calls (k:Nat) (A0:Option Addr) (c0:Nat) (l0:List (S77)) (r:List Int) (w:World) (hr0:Kd.C k77 w A0 l0.length l0) (hc0:l0.length≤c0) (h:spec_MustWrite.f k l0=some r):
  Calls Tryz.prog 54 #[.slice A0 l0.length c0] w fun e w'=>∃v0_:Value,e= .returned (v0_)∧Kd.R (Kd.int .i64) 3 w' w.heap.size (fun _=>True) v0_ r∧Below w.heap.size w w':=by
 have hu77:=Tryz.underlying77
 have HR0:=Za hr0
 have HC0:=Za hc0
 clear hr0 hc0
 have HB:=Za (Yc w.heap.size w)
 have H:(if 8≤281474976710656 then (spec_MustWrite.l0 k l0 (List.replicate 8 false) 0) else (none))=some r:=h
 clear h
 by_cases c2:8≤281474976710656
 ·rw[if_pos c2] at H
  have c2b0:=eq_true c2
  have c2b1:decide (8≤281474976710656)=true:=Zq c2
  clear c2
  obtain⟨y188,hy188⟩:∃y_:List Bool,y_=(List.replicate 8 false):=⟨_,rfl⟩
  replace H:(spec_MustWrite.l0 k l0 y188 0)=some r:=by first|(rw[hy188];with_reducible exact H)|(have H2_:=(Yk _ _).symm.trans H;rw[hy188];with_reducible exact H2_)|(have H2_:=(Yk _ _).symm.trans H;with_reducible exact H2_)|with_reducible exact H|(rw[hy188];exact H)|exact H
  have Ny188:=Za hy188
  clear hy188
  have H':=Za H
  clear H
  go_enter Tryz.func54,Tryz.ntmps54
  go_wp2_with (first|((with_reducible refine Zr (N:=5) rfl ?_);refine Kd.R_make Kd.bool _ 4 rfl (N:=5) rfl 73 _ _ rfl 8 rfl rfl Tryz.underlying73 (.bool false) 1 info4 rfl (by decide) (by omega) false (ok:=fun _=>True) (okp:=fun _=>True) rfl (fun _ hk=>hk) trivial (by omega) (by omega) (Yc _ _) (Nat.le_refl _) ?_;intro v189 w3 ho4 hb hg_ hnew_;clear hg_ hnew_;(first|rw[←Ny188.out] at ho4|(simp only[Int.reduceToNat] at ho4;rw[←Ny188.out] at ho4));have HO190:=Za (Yq ho4 (Zt z6_3));replace HB:=Za (Zi z6_3 hb);clear hb ho4))
  go_loopg [4] k (fun kq v4 w'=>∃(x3_1:List Bool) (x4_1:Int),v4= .int .i64 x4_1∧Aside0 (spec_MustWrite.l0 kq l0 x3_1 x4_1=some r)∧Aside0 (kq≤k)∧Aside0 (Kd.R Kd.bool 4 w' w.heap.size (fun _=>True) v189 x3_1)∧Aside0 (Below w.heap.size w w'))
  case atStart=>exact⟨(y188),(0),z6_13,H',⟨Nat.le_refl _⟩,⟨by(with_reducible repeat(first|apply Zp|apply Zo|apply Zn));exact HO190.out⟩,⟨by repeat(first|(with_reducible first|exact HB.out|apply Zh|apply Ze|apply Zd)|exact HB.out)⟩⟩
  case round=>
   clear H'
   (try clear c2);(try clear c2b0);(try clear c2b1)
   obtain⟨x3_1,x4_1,rfl,HA,HK1,HO_3,HB⟩:=hrel
   cases gk with
   |zero=>exact absurd HA.out (by simp[spec_MustWrite.l0])
   |succ k1=>
    have H:=HA.out
    clear HA
    simp only[spec_MustWrite.l0] at H
    have HC5:=Za H
    clear H
    go_upto_region 3 with(fail)
    go_cut [13] (fun v13 wc=>∃(kq:Nat) (x13_4:Bool),v13= .bool x13_4∧Aside0 (spec_MustWrite.j1 kq l0 x3_1 x4_1 x13_4=some r)∧Aside0 (kq≤k1)∧Aside0 (Kd.R Kd.bool 4 wc w.heap.size (fun _=>True) v189 x3_1)∧Aside0 (Below w.heap.size w wc))
    case first=>
     have H:=HC5.out
     clear HC5
     by_cases c6:x4_1<(l0.length:Int)
     ·rw[if_pos c6] at H
      have c6b0:decide (x4_1<(l0.length:Int))=true:=Zq c6
      clear c6
      (first|rw[c6b0]|(simp only[i64_w,i32_w];rw[c6b0])|skip)
      replace H:=Zl H
      obtain⟨t191,A70,H⟩:=H
      replace H:(spec_MustWrite.j1 k1 l0 x3_1 x4_1 t191)=some r:=H
      have A7:=Za A70
      clear A70
      have H':=Za H
      clear H
      go_wp2_with (first|(go_at_call 50;(with_reducible refine(spec_BlockOk.calls k1 _ _ l0 t191 _ ?side1 ?side2 A7.out).mono ?_);(case side1=>repeat(first|exact(Yj HR0.out HB.out)|(with_reducible refine Yh ?_ _)|(with_reducible refine Ye ?_ _)|(with_reducible refine Yi ?_)));(case side2=>exact HC0.out);rintro e w8 ⟨rfl,hb⟩;replace HO_3:=Za (Kd.R_below z6_6 hb);replace HB:=Za (Zi z6_3 hb);(try clear hb);(try clear hb2);(try clear hk);(try clear hi)))
      go_meet
      case rel=>exact⟨_,(t191),z6_13,H',⟨by have:=HK1.out;first|omega|exact Nat.le_refl _⟩,⟨by(with_reducible repeat(first|apply Zp|apply Zo|apply Zn));exact HO_3.out⟩,⟨by repeat(first|(with_reducible first|exact HB.out|apply Zh|apply Ze|apply Zd)|exact HB.out)⟩⟩
     ·rw[if_neg c6] at H
      have c6b0:decide (x4_1<(l0.length:Int))=false:=Yg c6
      clear c6
      (first|rw[c6b0]|(simp only[i64_w,i32_w];rw[c6b0])|skip)
      have H':=Za H
      clear H
      go_wp2
      go_meet
      case rel=>exact⟨_,(false),z6_13,H',⟨by have:=HK1.out;first|omega|exact Nat.le_refl _⟩,⟨by(with_reducible repeat(first|apply Zp|apply Zo|apply Zn));exact HO_3.out⟩,⟨by repeat(first|(with_reducible first|exact HB.out|apply Zh|apply Ze|apply Zd)|exact HB.out)⟩⟩
    case rest=>
     clear HC5
     (try clear c2);(try clear c2b0);(try clear c2b1)
     obtain⟨kq,x13_4,rfl,HA,HJ4,HO_3,HB⟩:=hcut
     cases kq with
     |zero=>exact absurd HA.out (by simp[spec_MustWrite.j1])
     |succ kj4=>
      have H:=HA.out
      clear HA
      simp only[spec_MustWrite.j1] at H
      by_cases c9:x13_4=true
      ·subst c9
       rw[if_pos rfl] at H
       by_cases c10:0≤x4_1
       ·rw[if_pos c10] at H
        have c10b0:decide (0≤x4_1)=true:=Zq c10
        clear c10
        by_cases c11:x4_1<(l0.length:Int)
        ·rw[if_pos c11] at H
         have c11b0:decide (x4_1<(l0.length:Int))=true:=Zq c11
         clear c11
         by_cases c12:((rd_T77 l0 x4_1).f0)=4
         ·rw[if_pos c12] at H
          have c12b0:(((rd_T77 l0 x4_1).f0)==4)=true:=beq_iff_eq.mpr c12
          have c12b1:(((rd_T77 l0 x4_1).f0) != 4)=false:=bne_eq_false_iff_eq.mpr c12
          clear c12
          replace H:=Zl H
          obtain⟨t196,A130,H⟩:=H
          replace H:(spec_MustWrite.l0 kj4 l0 x3_1 (wrap64 (t196+1)))=some r:=H
          have A13:=Za A130
          clear A130
          have H':=Za H
          clear H
          have p195:0≤(x4_1:Int):=Zj z6_7
          have q195:x4_1<(l0.length:Int):=Zj z6_7
          obtain⟨ad195,e195,hx195_0,hx195_1,hx195_2,hx195_3,hx195_4,hx195_5⟩:=at_T77 HR0.out x4_1 p195 q195
          cases e195
          replace hx195_0:=(HB.out.cell (Zf w _ hx195_0)).trans hx195_0
          replace hx195_1:=(HB.out.cell (Zf w _ hx195_1)).trans hx195_1
          replace hx195_2:=(HB.out.cell (Zf w _ hx195_2)).trans hx195_2
          replace hx195_3:=(HB.out.cell (Zf w _ hx195_3)).trans hx195_3
          replace hx195_4:=(HB.out.cell (Zf w _ hx195_4)).trans hx195_4
          replace hx195_5:=(HB.out.cell (Zf w _ hx195_5)).trans hx195_5
          replace p195:=eq_true p195
          replace q195:=eq_true q195
          go_wp2_with (first|((first|((with_reducible refine gate_callee (f:=82) rfl ?_);refine goesL_ (some 24) rfl rfl Tryz.func82 (by kernel_rfl) rfl #[.slice (some ad195) l0.length c0,.int .i64 x4_1] rfl z6_9 ?_;(with_reducible refine(spec_l05End.calls kj4 _ _ l0 x4_1 t196 _ ?side1 ?side2 A13.out).mono ?_))|(go_at_call 82;(with_reducible refine(spec_l05End.calls kj4 _ _ l0 x4_1 t196 _ ?side1 ?side2 A13.out).mono ?_)));(case side1=>repeat(first|exact(Yj HR0.out HB.out)|(with_reducible refine Yh ?_ _)|(with_reducible refine Ye ?_ _)|(with_reducible refine Yi ?_)));(case side2=>exact HC0.out);rintro e w14 ⟨rfl,hb⟩;(first|refine⟨_,rfl,?_⟩|skip);replace HO_3:=Za (Kd.R_below z6_6 hb);replace HB:=Za (Zi z6_3 hb);(try clear hb);(try clear hb2);(try clear hk);(try clear hi)))
          go_roundg kj4
          case measure=>have:=HK1.out;have:=HJ4.out;omega
          case rel=>exact⟨(x3_1),(wrap64 (t196+1)),z6_13,H',⟨by have:=HK1.out;have:=HJ4.out;omega⟩,⟨by(with_reducible repeat(first|apply Zp|apply Zo|apply Zn));exact HO_3.out⟩,⟨by repeat(first|(with_reducible first|exact HB.out|apply Zh|apply Ze|apply Zd)|exact HB.out)⟩⟩
         ·rw[if_neg c12] at H
          have c12b0:(((rd_T77 l0 x4_1).f0)==4)=false:=beq_eq_false_iff_ne.mpr c12
          have c12b1:(((rd_T77 l0 x4_1).f0) != 4)=true:=bne_iff_ne.mpr c12
          replace H:=Zl H
          obtain⟨t198,A150,H⟩:=H
          replace H:(if t198=true then (if 0≤((rd_T77 l0 x4_1).f1) then (if ((rd_T77 l0 x4_1).f1)<(x3_1.length:Int) then (spec_MustWrite.l0 kj4 l0 (x3_1.set (((rd_T77 l0 x4_1).f1):Int).toNat true) (wrap64 (x4_1+1))) else (none)) else (none)) else (spec_MustWrite.l0 kj4 l0 x3_1 (wrap64 (x4_1+1))))=some r:=H
          have A15:=Za A150
          clear A150
          by_cases c16:t198=true
          ·subst c16
           rw[if_pos rfl] at H
           by_cases c17:0≤((rd_T77 l0 x4_1).f1)
           ·rw[if_pos c17] at H
            have c17b0:decide (0≤((rd_T77 l0 x4_1).f1))=true:=Zq c17
            clear c17
            by_cases c18:((rd_T77 l0 x4_1).f1)<(x3_1.length:Int)
            ·rw[if_pos c18] at H
             have c18b0:decide (((rd_T77 l0 x4_1).f1)<(x3_1.length:Int))=true:=Zq c18
             clear c18
             obtain⟨y200,hy200⟩:∃y_:List Bool,y_=(x3_1.set (((rd_T77 l0 x4_1).f1):Int).toNat true):=⟨_,rfl⟩
             replace H:(spec_MustWrite.l0 kj4 l0 y200 (wrap64 (x4_1+1)))=some r:=by first|(rw[hy200];with_reducible exact H)|(have H2_:=(Yk _ _).symm.trans H;rw[hy200];with_reducible exact H2_)|(have H2_:=(Yk _ _).symm.trans H;with_reducible exact H2_)|with_reducible exact H|(rw[hy200];exact H)|exact H
             have Ny200:=Za hy200
             clear hy200
             have H':=Za H
             clear H
             have p195:0≤(x4_1:Int):=Zj z6_7
             have q195:x4_1<(l0.length:Int):=Zj z6_7
             obtain⟨ad195,e195,hx195_0,hx195_1,hx195_2,hx195_3,hx195_4,hx195_5⟩:=at_T77 HR0.out x4_1 p195 q195
             cases e195
             replace hx195_0:=(HB.out.cell (Zf w _ hx195_0)).trans hx195_0
             replace hx195_1:=(HB.out.cell (Zf w _ hx195_1)).trans hx195_1
             replace hx195_2:=(HB.out.cell (Zf w _ hx195_2)).trans hx195_2
             replace hx195_3:=(HB.out.cell (Zf w _ hx195_3)).trans hx195_3
             replace hx195_4:=(HB.out.cell (Zf w _ hx195_4)).trans hx195_4
             replace hx195_5:=(HB.out.cell (Zf w _ hx195_5)).trans hx195_5
             replace p195:=eq_true p195
             replace q195:=eq_true q195
             have p197:0≤(x4_1:Int):=Zj z6_7
             have q197:x4_1<(l0.length:Int):=Zj z6_7
             obtain⟨ad197,e197,hx197_0,hx197_1,hx197_2,hx197_3,hx197_4,hx197_5⟩:=at_T77 HR0.out x4_1 p197 q197
             obtain rfl:ad195=ad197:=(by injection e197)
             replace hx197_0:=(HB.out.cell (Zf w _ hx197_0)).trans hx197_0
             replace hx197_1:=(HB.out.cell (Zf w _ hx197_1)).trans hx197_1
             replace hx197_2:=(HB.out.cell (Zf w _ hx197_2)).trans hx197_2
             replace hx197_3:=(HB.out.cell (Zf w _ hx197_3)).trans hx197_3
             replace hx197_4:=(HB.out.cell (Zf w _ hx197_4)).trans hx197_4
             replace hx197_5:=(HB.out.cell (Zf w _ hx197_5)).trans hx197_5
             replace p197:=eq_true p197
             replace q197:=eq_true q197
             go_wp2_with (first|((first|((with_reducible refine gate_callee (f:=51) rfl ?_);refine goesL_ (some 29) rfl rfl Tryz.func51 (by kernel_rfl) rfl #[.agg #[.int .i64 ((rd_T77 l0 x4_1).f0),.int .i64 ((rd_T77 l0 x4_1).f1),.int .i64 ((rd_T77 l0 x4_1).f2),.int .i64 ((rd_T77 l0 x4_1).f3.f0),.int .i64 ((rd_T77 l0 x4_1).f3.f1),.int .i64 ((rd_T77 l0 x4_1).f3.f2)]] rfl z6_9 ?_;(with_reducible refine(spec_l07Writes.calls ((rd_T77 l0 x4_1).f0) ((rd_T77 l0 x4_1).f1) ((rd_T77 l0 x4_1).f2) ((rd_T77 l0 x4_1).f3.f0) ((rd_T77 l0 x4_1).f3.f1) ((rd_T77 l0 x4_1).f3.f2) true _ A15.out).mono ?_))|(go_at_call 51;(with_reducible refine(spec_l07Writes.calls ((rd_T77 l0 x4_1).f0) ((rd_T77 l0 x4_1).f1) ((rd_T77 l0 x4_1).f2) ((rd_T77 l0 x4_1).f3.f0) ((rd_T77 l0 x4_1).f3.f1) ((rd_T77 l0 x4_1).f3.f2) true _ A15.out).mono ?_)));rintro e w20 ⟨rfl,hb⟩;(first|refine⟨_,rfl,?_⟩|skip);replace HO_3:=Za (Kd.R_below z6_6 hb);replace HB:=Za (Zi z6_3 hb);(try clear hb);(try clear hb2);(try clear hk);(try clear hi);have p199:0≤(x4_1:Int):=Zj z6_7;have q199:x4_1<(l0.length:Int):=Zj z6_7;obtain⟨ad199,e199,hx199_0,hx199_1,hx199_2,hx199_3,hx199_4,hx199_5⟩:=at_T77 HR0.out x4_1 p199 q199;obtain rfl:ad195=ad199:=(by injection e199);replace hx199_0:=(HB.out.cell (Zf w _ hx199_0)).trans hx199_0;replace hx199_1:=(HB.out.cell (Zf w _ hx199_1)).trans hx199_1;replace hx199_2:=(HB.out.cell (Zf w _ hx199_2)).trans hx199_2;replace hx199_3:=(HB.out.cell (Zf w _ hx199_3)).trans hx199_3;replace hx199_4:=(HB.out.cell (Zf w _ hx199_4)).trans hx199_4;replace hx199_5:=(HB.out.cell (Zf w _ hx199_5)).trans hx199_5;replace p199:=eq_true p199;replace q199:=eq_true q199;have p19:0≤(((rd_T77 l0 x4_1).f1):Int):=Zj z6_7;have q19:(((rd_T77 l0 x4_1).f1):Int)<((x3_1.length:Int):Int):=Zj z6_7;obtain⟨go19,co19,eo19,gb19,gl19,cl19,HG19⟩:=Kd.R_form HO_3.out (by omega);(first|cases eo19|(injection eo19 with ea_ en_ ec_;(first|subst ea_|(injection ea_ with ea_;subst ea_));subst ec_;clear en_));have GB19:=Za gb19;have GG19:=Za HG19;clear gb19 gl19 HG19;obtain⟨hx19_0,hf19_0⟩:=Kd.R_celln false HO_3.out (((rd_T77 l0 x4_1).f1):Int) p19 q19;replace p19:=eq_true p19;replace q19:=eq_true q19;obtain⟨hy21_,hz21_⟩:=Kd.R_celln false HO_3.out (((rd_T77 l0 x4_1).f1):Int) (Zj z6_7) (Zj z6_7);have HP21:=Kd.R_putg HO_3.out (((rd_T77 l0 x4_1).f1):Int) true)|((with_reducible refine Ym (t:=4) (p:=36) rfl ?_);refine Yl (t:=4) (p:=36) (v:= ?vo_w22) (w1:=(w20.setCell ⟨go19,(((rd_T77 l0 x4_1).f1):Int).toNat,none⟩ (.bool true))) ?hg ?ho ?hn ?hr ?_;(case ho=>rfl);(case hg=>rfl);(case hn=>rfl);(case hr=>exact z6_16);intro w22 hw;have hg:w20.grownBy w22 (some go19):=(by rw[hw];exact HP21.2);have hp_:Kd.R Kd.bool 4 w22 w.heap.size (fun _=>True) (.slice (some ⟨go19,0,none⟩) x3_1.length co19) y200:=(by rw[hw,Ny200.out];exact HP21.1);clear HP21;replace HO_3:=Za (hp_);replace HB:=Za ((by rw[hw];exact Zg (HB.out) GB19.out:Below w.heap.size w w22));clear hg hw hp_))
             go_roundg kj4
             case measure=>have:=HK1.out;have:=HJ4.out;omega
             case rel=>exact⟨(y200),(wrap64 (x4_1+1)),z6_13,H',⟨by have:=HK1.out;have:=HJ4.out;omega⟩,⟨by(with_reducible repeat(first|apply Zp|apply Zo|apply Zn));exact HO_3.out⟩,⟨by repeat(first|(with_reducible first|exact HB.out|apply Zh|apply Ze|apply Zd)|exact HB.out)⟩⟩
            ·rw[if_neg c18] at H
             exact absurd H (by simp)
           ·rw[if_neg c17] at H
            exact absurd H (by simp)
          ·replace c16:=Bool.eq_false_iff.mpr c16
           subst c16
           rw[if_neg (show ¬(false=true) by decide)] at H
           have H':=Za H
           clear H
           have p195:0≤(x4_1:Int):=Zj z6_7
           have q195:x4_1<(l0.length:Int):=Zj z6_7
           obtain⟨ad195,e195,hx195_0,hx195_1,hx195_2,hx195_3,hx195_4,hx195_5⟩:=at_T77 HR0.out x4_1 p195 q195
           cases e195
           replace hx195_0:=(HB.out.cell (Zf w _ hx195_0)).trans hx195_0
           replace hx195_1:=(HB.out.cell (Zf w _ hx195_1)).trans hx195_1
           replace hx195_2:=(HB.out.cell (Zf w _ hx195_2)).trans hx195_2
           replace hx195_3:=(HB.out.cell (Zf w _ hx195_3)).trans hx195_3
           replace hx195_4:=(HB.out.cell (Zf w _ hx195_4)).trans hx195_4
           replace hx195_5:=(HB.out.cell (Zf w _ hx195_5)).trans hx195_5
           replace p195:=eq_true p195
           replace q195:=eq_true q195
           have p197:0≤(x4_1:Int):=Zj z6_7
           have q197:x4_1<(l0.length:Int):=Zj z6_7
           obtain⟨ad197,e197,hx197_0,hx197_1,hx197_2,hx197_3,hx197_4,hx197_5⟩:=at_T77 HR0.out x4_1 p197 q197
           obtain rfl:ad195=ad197:=(by injection e197)
           replace hx197_0:=(HB.out.cell (Zf w _ hx197_0)).trans hx197_0
           replace hx197_1:=(HB.out.cell (Zf w _ hx197_1)).trans hx197_1
           replace hx197_2:=(HB.out.cell (Zf w _ hx197_2)).trans hx197_2
           replace hx197_3:=(HB.out.cell (Zf w _ hx197_3)).trans hx197_3
           replace hx197_4:=(HB.out.cell (Zf w _ hx197_4)).trans hx197_4
           replace hx197_5:=(HB.out.cell (Zf w _ hx197_5)).trans hx197_5
           replace p197:=eq_true p197
           replace q197:=eq_true q197
           go_wp2_with (first|((first|((with_reducible refine gate_callee (f:=51) rfl ?_);refine goesL_ (some 29) rfl rfl Tryz.func51 (by kernel_rfl) rfl #[.agg #[.int .i64 ((rd_T77 l0 x4_1).f0),.int .i64 ((rd_T77 l0 x4_1).f1),.int .i64 ((rd_T77 l0 x4_1).f2),.int .i64 ((rd_T77 l0 x4_1).f3.f0),.int .i64 ((rd_T77 l0 x4_1).f3.f1),.int .i64 ((rd_T77 l0 x4_1).f3.f2)]] rfl z6_9 ?_;(with_reducible refine(spec_l07Writes.calls ((rd_T77 l0 x4_1).f0) ((rd_T77 l0 x4_1).f1) ((rd_T77 l0 x4_1).f2) ((rd_T77 l0 x4_1).f3.f0) ((rd_T77 l0 x4_1).f3.f1) ((rd_T77 l0 x4_1).f3.f2) false _ A15.out).mono ?_))|(go_at_call 51;(with_reducible refine(spec_l07Writes.calls ((rd_T77 l0 x4_1).f0) ((rd_T77 l0 x4_1).f1) ((rd_T77 l0 x4_1).f2) ((rd_T77 l0 x4_1).f3.f0) ((rd_T77 l0 x4_1).f3.f1) ((rd_T77 l0 x4_1).f3.f2) false _ A15.out).mono ?_)));rintro e w23 ⟨rfl,hb⟩;(first|refine⟨_,rfl,?_⟩|skip);replace HO_3:=Za (Kd.R_below z6_6 hb);replace HB:=Za (Zi z6_3 hb);(try clear hb);(try clear hb2);(try clear hk);(try clear hi)))
           go_roundg kj4
           case measure=>have:=HK1.out;have:=HJ4.out;omega
           case rel=>exact⟨(x3_1),(wrap64 (x4_1+1)),z6_13,H',⟨by have:=HK1.out;have:=HJ4.out;omega⟩,⟨by(with_reducible repeat(first|apply Zp|apply Zo|apply Zn));exact HO_3.out⟩,⟨by repeat(first|(with_reducible first|exact HB.out|apply Zh|apply Ze|apply Zd)|exact HB.out)⟩⟩
        ·rw[if_neg c11] at H
         exact absurd H (by simp)
       ·rw[if_neg c10] at H
        exact absurd H (by simp)
      ·replace c9:=Bool.eq_false_iff.mpr c9
       subst c9
       rw[if_neg (show ¬(false=true) by decide)] at H
       replace H:=Zl H
       obtain⟨t192,A240,H⟩:=H
       replace H:(some t192)=some r:=H
       have A24:=Za A240
       clear A240
       obtain rfl:=Zm H
       obtain⟨Ao25,co25,eo25⟩:=Yp HO_3.out
       subst eo25
       go_wp2_with (first|((first|((with_reducible refine gate_callee (f:=52) rfl ?_);refine goesL_ (some 38) rfl rfl Tryz.func52 (by kernel_rfl) rfl #[.slice Ao25 x3_1.length co25] rfl z6_9 ?_;(with_reducible refine(spec_l07List.calls kj4 _ _ x3_1 t192 _ ?side1 ?side2 A24.out).mono ?_))|(go_at_call 52;(with_reducible refine(spec_l07List.calls kj4 _ _ x3_1 t192 _ ?side1 ?side2 A24.out).mono ?_)));(case side1=>exact z6_18);(case side2=>exact(Yd HO_3.out).2.1);rintro e w26 ⟨v193,rfl,ho0,hb⟩;(first|refine⟨_,rfl,?_⟩|skip);replace HO_3:=Za (Kd.R_below z6_6 hb);have HO194:=Za (Yq ho0 (Zt z6_3));replace HB:=Za (Zi z6_3 hb);(try clear hb);(try clear hb2);(try clear hk);(try clear hi);(try clear ho0)))
       go_ret
       exact⟨_,by first|rfl|(simp[errW_none,errW_some]<;>rfl)|(simp[*,errW_none,errW_some]<;>rfl)|(simp[*,errW_none,errW_some,i64_w];done),by(with_reducible repeat(first|apply Zp|apply Zo|apply Zn));exact HO194.out,by repeat(first|(with_reducible first|exact HB.out|apply Zh|apply Ze|apply Zd)|exact HB.out)⟩
 ·rw[if_neg c2] at H
  exact absurd H (by simp)
/-! ### spec_ReadsOf: function 109 -/
mutual
def spec_ReadsOf.l0:Nat→List Int→Int→Int→Int→Int→Option (List Int)
 |0,_,_,_,_,_=>none
 |k+1,x3,x4,x202000,x202001,x202002=>if x4<8 then ((spec_ExprOk.f x202000 x202001 x202002).bind fun t205=>(spec_ReadsOf.j1 k x3 x4 t205 x202000 x202001 x202002)) else (spec_ReadsOf.j1 k x3 x4 false x202000 x202001 x202002)
def spec_ReadsOf.j1:Nat→List Int→Int→Bool→Int→Int→Int→Option (List Int)
 |0,_,_,_,_,_,_=>none
 |k+1,x3,x4,x11,x202000,x202001,x202002=>if x11=true then (if x202001=(wrap64 ((-1) - x4)) then (if x3.length<17592186044416 then (spec_ReadsOf.l0 k (x3++[x4]) (wrap64 (x4+1)) x202000 x202001 x202002) else (none)) else (if x202002=(wrap64 ((-1) - x4)) then (if x3.length<17592186044416 then (spec_ReadsOf.l0 k (x3++[x4]) (wrap64 (x4+1)) x202000 x202001 x202002) else (none)) else (spec_ReadsOf.l0 k x3 (wrap64 (x4+1)) x202000 x202001 x202002))) else (some x3)
end
def spec_ReadsOf.f (k:Nat) (a0_0:Int) (a0_1:Int) (a0_2:Int):Option (List Int):=spec_ReadsOf.l0 k (([]:List Int)) 0 a0_0 a0_1 a0_2
theorem spec_ReadsOf.mono_l:∀k,(∀y0 y1 y2 y3 y4,LeO (spec_ReadsOf.l0 k y0 y1 y2 y3 y4) (spec_ReadsOf.l0 (k+1) y0 y1 y2 y3 y4))∧(∀y0 y1 y2 y3 y4 y5,LeO (spec_ReadsOf.j1 k y0 y1 y2 y3 y4 y5) (spec_ReadsOf.j1 (k+1) y0 y1 y2 y3 y4 y5))
 |0=>⟨fun _ _ _ _ _ r h=>by simp[spec_ReadsOf.l0] at h,fun _ _ _ _ _ _ r h=>by simp[spec_ReadsOf.j1] at h⟩
 |k+1=>by
  obtain⟨ih0,ih1⟩:=spec_ReadsOf.mono_l k
  refine⟨?_,?_⟩
  ·intro y0 y1 y2 y3 y4
   unfold spec_ReadsOf.l0
   repeat' first
   |(with_reducible exact ih0 _ _ _ _ _)
   |(with_reducible exact ih1 _ _ _ _ _ _)
   |(with_reducible exact Yn _)
   |(with_reducible exact Yb _)
   |(with_reducible refine Zx ?_ ?_)
   |(with_reducible refine Zy ?_ (fun _=> ?_))
   |exact ih0 _ _ _ _ _
   |exact ih1 _ _ _ _ _ _
   |exact Yb _
   |refine Zx ?_ ?_
   |refine Zy ?_ (fun _=> ?_)
  ·intro y0 y1 y2 y3 y4 y5
   unfold spec_ReadsOf.j1
   repeat' first
   |(with_reducible exact ih0 _ _ _ _ _)
   |(with_reducible exact ih1 _ _ _ _ _ _)
   |(with_reducible exact Yn _)
   |(with_reducible exact Yb _)
   |(with_reducible refine Zx ?_ ?_)
   |(with_reducible refine Zy ?_ (fun _=> ?_))
   |exact ih0 _ _ _ _ _
   |exact ih1 _ _ _ _ _ _
   |exact Yb _
   |refine Zx ?_ ?_
   |refine Zy ?_ (fun _=> ?_)
theorem spec_ReadsOf.mono:∀a0 a1 a2 k,LeO (spec_ReadsOf.f k a0 a1 a2) (spec_ReadsOf.f (k+1) a0 a1 a2):=by
 intro a0 a1 a2 k
 obtain⟨ih0,ih1⟩:=spec_ReadsOf.mono_l k
 unfold spec_ReadsOf.f
 repeat' first
   |(with_reducible exact ih0 _ _ _ _ _)
   |(with_reducible exact ih1 _ _ _ _ _ _)
   |(with_reducible exact Yn _)
   |(with_reducible exact Yb _)
   |(with_reducible refine Zx ?_ ?_)
   |(with_reducible refine Zy ?_ (fun _=> ?_))
   |exact ih0 _ _ _ _ _
   |exact ih1 _ _ _ _ _ _
   |exact Yb _
   |refine Zx ?_ ?_
   |refine Zy ?_ (fun _=> ?_)
set_option maxHeartbeats 8000000 in
set_option maxRecDepth 100000 in
theorem spec_ReadsOf.calls (k:Nat) (a0_0:Int) (a0_1:Int) (a0_2:Int) (r:List Int) (w:World) (h:spec_ReadsOf.f k a0_0 a0_1 a0_2=some r):
  Calls Tryz.prog 109 #[.agg #[.int .i64 a0_0,.int .i64 a0_1,.int .i64 a0_2]] w fun e w'=>∃v0_:Value,e= .returned (v0_)∧Kd.R (Kd.int .i64) 3 w' w.heap.size (fun _=>True) v0_ r∧Below w.heap.size w w':=by
 have hu53:=Tryz.underlying53
 have HB:=Za (Yc w.heap.size w)
 have H:(spec_ReadsOf.l0 k (([]:List Int)) 0 a0_0 a0_1 a0_2)=some r:=h
 clear h
 obtain⟨y202,hy202⟩:∃y_:List Int,y_=(([]:List Int)):=⟨_,rfl⟩
 replace H:(spec_ReadsOf.l0 k y202 0 a0_0 a0_1 a0_2)=some r:=by first|(rw[hy202];with_reducible exact H)|(have H2_:=(Yk _ _).symm.trans H;rw[hy202];with_reducible exact H2_)|(have H2_:=(Yk _ _).symm.trans H;with_reducible exact H2_)|with_reducible exact H|(rw[hy202];exact H)|exact H
 have Ny202:=Za hy202
 clear hy202
 have H':=Za H
 clear H
 go_enter Tryz.func109,Tryz.ntmps109
 go_wp2_with (first|((with_reducible refine Zr (N:=1) rfl ?_);refine Zs ?hg (N:=1) ?hd (cs:= #[.int .i64 a0_0,.int .i64 a0_1,.int .i64 a0_2]) (t:=53) ?hr ?_;(case hd=>rfl);(case hg=>rfl);(case hr=>exact z6_16);intro gb201 hg w2 hbox hb;have BK201:=Za (hbox);have GW201:=Za ((z6_22:w.heap.size≤gb201));have GE201:=Za ((z6_22:w.heap.size≤gb201));replace HB:=Za (Zi z6_3 hb);clear hb hbox hg)|((with_reducible refine Zr (N:=5) rfl ?_);refine Kd.R_lit (Kd.int .i64) _ 3 ?hg (N:=5) ?hd (xs:=([]:List Int)) (inner:=[]) (ok:=fun _=>True) (okp:=fun _=>True) ?hr ?hp (fun _ hk=>hk) trivial (Yc _ _) (Nat.le_refl _) (by simp) ?_;(case hd=>rfl);(case hg=>rfl);(case hr=>exact z6_16);(case hp=>exact(Reps.none _ _));intro v203 w3 ho4 hb hg_ hnew_;clear hg_ hnew_;(first|rw[←Ny202.out] at ho4|(simp only[Int.reduceToNat] at ho4;rw[←Ny202.out] at ho4));have HO204:=Za (Yq ho4 (Zt z6_14));replace BK201:=Za (Zk (g:=gb201) (o:= .cells #[.int .i64 a0_0,.int .i64 a0_1,.int .i64 a0_2] 53 (0,0)) z6_20 hb);replace HB:=Za (Zi z6_14 hb);clear hb ho4))
 go_loopg [3,4] k (fun kq v3 v4 w'=>∃(x3_1:List Int) (x4_1:Int),v4= .int .i64 x4_1∧Aside0 (spec_ReadsOf.l0 kq x3_1 x4_1 a0_0 a0_1 a0_2=some r)∧Aside0 (kq≤k)∧Aside0 (Kd.R (Kd.int .i64) 3 w' w.heap.size (fun _=>True) v3 x3_1)∧Aside0 (w'.heap[gb201]? =some (.cells #[.int .i64 a0_0,.int .i64 a0_1,.int .i64 a0_2] 53 (0,0)))∧Aside0 (Below w.heap.size w w'))
 case atStart=>exact⟨(y202),(0),z6_13,H',⟨Nat.le_refl _⟩,⟨by(with_reducible repeat(first|apply Zp|apply Zo|apply Zn));exact HO204.out⟩,⟨by(with_reducible repeat(first|refine blk_drewN ?_ _|refine blk_drew ?_|refine blk_alloc ?_ _));exact BK201.out⟩,⟨by repeat(first|(with_reducible first|exact HB.out|apply Zh|apply Ze|apply Zd|refine Zg ?_ GE201.out)|exact HB.out)⟩⟩
 case round=>
  clear H'
  obtain⟨x3_1,x4_1,rfl,HA,HK1,HO_3,BK201,HB⟩:=hrel
  cases gk with
  |zero=>exact absurd HA.out (by simp[spec_ReadsOf.l0])
  |succ k1=>
   have H:=HA.out
   clear HA
   simp only[spec_ReadsOf.l0] at H
   have HC5:=Za H
   clear H
   go_upto_region 3 with(fail)
   go_cut [11] (fun v11 wc=>∃(kq:Nat) (x11_4:Bool),v11= .bool x11_4∧Aside0 (spec_ReadsOf.j1 kq x3_1 x4_1 x11_4 a0_0 a0_1 a0_2=some r)∧Aside0 (kq≤k1)∧Aside0 (Kd.R (Kd.int .i64) 3 wc w.heap.size (fun _=>True) u3 x3_1)∧Aside0 (wc.heap[gb201]? =some (.cells #[.int .i64 a0_0,.int .i64 a0_1,.int .i64 a0_2] 53 (0,0)))∧Aside0 (Below w.heap.size w wc))
   case first=>
    have H:=HC5.out
    clear HC5
    by_cases c6:x4_1<8
    ·rw[if_pos c6] at H
     have c6b0:decide (x4_1<8)=true:=Zq c6
     clear c6
     (first|rw[c6b0]|(simp only[i64_w,i32_w];rw[c6b0])|skip)
     replace H:=Zl H
     obtain⟨t205,A70,H⟩:=H
     replace H:(spec_ReadsOf.j1 k1 x3_1 x4_1 t205 a0_0 a0_1 a0_2)=some r:=H
     have A7:=Za A70
     clear A70
     have H':=Za H
     clear H
     have hcz8_0:wr.cell? ⟨gb201,0,none⟩=some (.int .i64 a0_0):=(Zb BK201.out 0).trans rfl
     have hcz8_1:wr.cell? ⟨gb201,1,none⟩=some (.int .i64 a0_1):=(Zb BK201.out 1).trans rfl
     have hcz8_2:wr.cell? ⟨gb201,2,none⟩=some (.int .i64 a0_2):=(Zb BK201.out 2).trans rfl
     have hfz8_0:=Zc BK201.out 0
     have hfz8_1:=Zc BK201.out 1
     have hfz8_2:=Zc BK201.out 2
     go_wp2_with (first|(go_at_call 80;(with_reducible refine(spec_ExprOk.calls a0_0 a0_1 a0_2 t205 _ A7.out).mono ?_);rintro e w9 ⟨rfl,hb⟩;replace HO_3:=Za (Kd.R_below z6_6 hb);replace BK201:=Za (Zk (g:=gb201) (o:= .cells #[.int .i64 a0_0,.int .i64 a0_1,.int .i64 a0_2] 53 (0,0)) z6_20 hb);replace HB:=Za (Zi z6_14 hb);(try clear hb);(try clear hb2);(try clear hk);(try clear hi)))
     go_meet
     case rel=>exact⟨_,(t205),z6_13,H',⟨by have:=HK1.out;first|omega|exact Nat.le_refl _⟩,⟨by(with_reducible repeat(first|apply Zp|apply Zo|apply Zn));exact HO_3.out⟩,⟨by(with_reducible repeat(first|refine blk_drewN ?_ _|refine blk_drew ?_|refine blk_alloc ?_ _));exact BK201.out⟩,⟨by repeat(first|(with_reducible first|exact HB.out|apply Zh|apply Ze|apply Zd|refine Zg ?_ GE201.out)|exact HB.out)⟩⟩
    ·rw[if_neg c6] at H
     have c6b0:decide (x4_1<8)=false:=Yg c6
     clear c6
     (first|rw[c6b0]|(simp only[i64_w,i32_w];rw[c6b0])|skip)
     have H':=Za H
     clear H
     go_wp2
     go_meet
     case rel=>exact⟨_,(false),z6_13,H',⟨by have:=HK1.out;first|omega|exact Nat.le_refl _⟩,⟨by(with_reducible repeat(first|apply Zp|apply Zo|apply Zn));exact HO_3.out⟩,⟨by(with_reducible repeat(first|refine blk_drewN ?_ _|refine blk_drew ?_|refine blk_alloc ?_ _));exact BK201.out⟩,⟨by repeat(first|(with_reducible first|exact HB.out|apply Zh|apply Ze|apply Zd|refine Zg ?_ GE201.out)|exact HB.out)⟩⟩
   case rest=>
    clear HC5
    obtain⟨kq,x11_4,rfl,HA,HJ4,HO_3,BK201,HB⟩:=hcut
    cases kq with
    |zero=>exact absurd HA.out (by simp[spec_ReadsOf.j1])
    |succ kj4=>
     have H:=HA.out
     clear HA
     simp only[spec_ReadsOf.j1] at H
     by_cases c10:x11_4=true
     ·subst c10
      rw[if_pos rfl] at H
      by_cases c11:a0_1=(wrap64 ((-1) - x4_1))
      ·rw[if_pos c11] at H
       have c11b0:(a0_1==(wrap64 ((-1) - x4_1)))=true:=beq_iff_eq.mpr c11
       have c11b1:(a0_1 != (wrap64 ((-1) - x4_1)))=false:=bne_eq_false_iff_eq.mpr c11
       clear c11
       by_cases c12:x3_1.length<17592186044416
       ·rw[if_pos c12] at H
        have LMc12:=Za c12
        clear c12
        obtain⟨y206,hy206⟩:∃y_:List Int,y_=(x3_1++[x4_1]):=⟨_,rfl⟩
        replace H:(spec_ReadsOf.l0 kj4 y206 (wrap64 (x4_1+1)) a0_0 a0_1 a0_2)=some r:=by first|(rw[hy206];with_reducible exact H)|(have H2_:=(Yk _ _).symm.trans H;rw[hy206];with_reducible exact H2_)|(have H2_:=(Yk _ _).symm.trans H;with_reducible exact H2_)|with_reducible exact H|(rw[hy206];exact H)|exact H
        have Ny206:=Za hy206
        clear hy206
        have H':=Za H
        clear H
        have hcz13_0:wc.cell? ⟨gb201,0,none⟩=some (.int .i64 a0_0):=(Zb BK201.out 0).trans rfl
        have hcz13_1:wc.cell? ⟨gb201,1,none⟩=some (.int .i64 a0_1):=(Zb BK201.out 1).trans rfl
        have hcz13_2:wc.cell? ⟨gb201,2,none⟩=some (.int .i64 a0_2):=(Zb BK201.out 2).trans rfl
        have hfz13_0:=Zc BK201.out 0
        have hfz13_1:=Zc BK201.out 1
        have hfz13_2:=Zc BK201.out 2
        go_wp2_with (first|((with_reducible refine gate_builtin (b:= .append) (xs:= #[.tmp 26,.tmp 28]) rfl ?_);at_builtin;refine Kd.R_append (Kd.int .i64) (w0:=w) w.heap.size rfl (.tmp 26) (.tmp 28) 25 3 (.int .i64 0) 8 rfl Tryz.underlying25 info3 rfl (by decide) (by omega) u3 x3_1 x4_1 [.int .i64 x4_1] (fun _=>True) (fun _=>False) rfl rfl ?aP (fun _ hk=>hk.elim) ?aF ?aO ?aB ?aS ?aL ?_;(case aP=>exact rfl);(case aB=>exact z6_14);(case aF=>exact(fun _ _=>trivial));(case aO=>exact z6_6);(case aS=>exact(Zt z6_14));(case aL=>have:=LMc12.out;omega);intro v207 w14 ho hb hg hat;rw[←Ny206.out] at ho;have n0_:=Za (blk_grown (g:=gb201) (o:= .cells #[.int .i64 a0_0,.int .i64 a0_1,.int .i64 a0_2] 53 (0,0)) z6_20 hg (Kd.R_ne HO_3.out BK201.out (by decide)));have n1_:=Za (hb);have n2_:=Za (ho);clear BK201;clear HB;clear HO_3;have BK201:=n0_;have HB:=n1_;have HO208:=n2_;clear n0_ n1_ n2_;clear ho hb hg hat))
        go_roundg kj4
        case measure=>have:=HK1.out;have:=HJ4.out;omega
        case rel=>exact⟨(y206),(wrap64 (x4_1+1)),z6_13,H',⟨by have:=HK1.out;have:=HJ4.out;omega⟩,⟨by(with_reducible repeat(first|apply Zp|apply Zo|apply Zn));exact HO208.out⟩,⟨by(with_reducible repeat(first|refine blk_drewN ?_ _|refine blk_drew ?_|refine blk_alloc ?_ _));exact BK201.out⟩,⟨by repeat(first|(with_reducible first|exact HB.out|apply Zh|apply Ze|apply Zd|refine Zg ?_ GE201.out)|exact HB.out)⟩⟩
       ·rw[if_neg c12] at H
        exact absurd H (by simp)
      ·rw[if_neg c11] at H
       have c11b0:(a0_1==(wrap64 ((-1) - x4_1)))=false:=beq_eq_false_iff_ne.mpr c11
       have c11b1:(a0_1 != (wrap64 ((-1) - x4_1)))=true:=bne_iff_ne.mpr c11
       by_cases c15:a0_2=(wrap64 ((-1) - x4_1))
       ·rw[if_pos c15] at H
        have c15b0:(a0_2==(wrap64 ((-1) - x4_1)))=true:=beq_iff_eq.mpr c15
        have c15b1:(a0_2 != (wrap64 ((-1) - x4_1)))=false:=bne_eq_false_iff_eq.mpr c15
        clear c15
        by_cases c16:x3_1.length<17592186044416
        ·rw[if_pos c16] at H
         have LMc16:=Za c16
         clear c16
         obtain⟨y209,hy209⟩:∃y_:List Int,y_=(x3_1++[x4_1]):=⟨_,rfl⟩
         replace H:(spec_ReadsOf.l0 kj4 y209 (wrap64 (x4_1+1)) a0_0 a0_1 a0_2)=some r:=by first|(rw[hy209];with_reducible exact H)|(have H2_:=(Yk _ _).symm.trans H;rw[hy209];with_reducible exact H2_)|(have H2_:=(Yk _ _).symm.trans H;with_reducible exact H2_)|with_reducible exact H|(rw[hy209];exact H)|exact H
         have Ny209:=Za hy209
         clear hy209
         have H':=Za H
         clear H
         have hcz17_0:wc.cell? ⟨gb201,0,none⟩=some (.int .i64 a0_0):=(Zb BK201.out 0).trans rfl
         have hcz17_1:wc.cell? ⟨gb201,1,none⟩=some (.int .i64 a0_1):=(Zb BK201.out 1).trans rfl
         have hcz17_2:wc.cell? ⟨gb201,2,none⟩=some (.int .i64 a0_2):=(Zb BK201.out 2).trans rfl
         have hfz17_0:=Zc BK201.out 0
         have hfz17_1:=Zc BK201.out 1
         have hfz17_2:=Zc BK201.out 2
         go_wp2_with (first|((with_reducible refine gate_builtin (b:= .append) (xs:= #[.tmp 26,.tmp 28]) rfl ?_);at_builtin;refine Kd.R_append (Kd.int .i64) (w0:=w) w.heap.size rfl (.tmp 26) (.tmp 28) 25 3 (.int .i64 0) 8 rfl Tryz.underlying25 info3 rfl (by decide) (by omega) u3 x3_1 x4_1 [.int .i64 x4_1] (fun _=>True) (fun _=>False) rfl rfl ?aP (fun _ hk=>hk.elim) ?aF ?aO ?aB ?aS ?aL ?_;(case aP=>exact rfl);(case aB=>exact z6_14);(case aF=>exact(fun _ _=>trivial));(case aO=>exact z6_6);(case aS=>exact(Zt z6_14));(case aL=>have:=LMc16.out;omega);intro v210 w18 ho hb hg hat;rw[←Ny209.out] at ho;have n0_:=Za (blk_grown (g:=gb201) (o:= .cells #[.int .i64 a0_0,.int .i64 a0_1,.int .i64 a0_2] 53 (0,0)) z6_20 hg (Kd.R_ne HO_3.out BK201.out (by decide)));have n1_:=Za (hb);have n2_:=Za (ho);clear BK201;clear HB;clear HO_3;have BK201:=n0_;have HB:=n1_;have HO211:=n2_;clear n0_ n1_ n2_;clear ho hb hg hat))
         go_roundg kj4
         case measure=>have:=HK1.out;have:=HJ4.out;omega
         case rel=>exact⟨(y209),(wrap64 (x4_1+1)),z6_13,H',⟨by have:=HK1.out;have:=HJ4.out;omega⟩,⟨by(with_reducible repeat(first|apply Zp|apply Zo|apply Zn));exact HO211.out⟩,⟨by(with_reducible repeat(first|refine blk_drewN ?_ _|refine blk_drew ?_|refine blk_alloc ?_ _));exact BK201.out⟩,⟨by repeat(first|(with_reducible first|exact HB.out|apply Zh|apply Ze|apply Zd|refine Zg ?_ GE201.out)|exact HB.out)⟩⟩
        ·rw[if_neg c16] at H
         exact absurd H (by simp)
       ·rw[if_neg c15] at H
        have c15b0:(a0_2==(wrap64 ((-1) - x4_1)))=false:=beq_eq_false_iff_ne.mpr c15
        have c15b1:(a0_2 != (wrap64 ((-1) - x4_1)))=true:=bne_iff_ne.mpr c15
        have H':=Za H
        clear H
        have hcz19_0:wc.cell? ⟨gb201,0,none⟩=some (.int .i64 a0_0):=(Zb BK201.out 0).trans rfl
        have hcz19_1:wc.cell? ⟨gb201,1,none⟩=some (.int .i64 a0_1):=(Zb BK201.out 1).trans rfl
        have hcz19_2:wc.cell? ⟨gb201,2,none⟩=some (.int .i64 a0_2):=(Zb BK201.out 2).trans rfl
        have hfz19_0:=Zc BK201.out 0
        have hfz19_1:=Zc BK201.out 1
        have hfz19_2:=Zc BK201.out 2
        go_wp2
        go_roundg kj4
        case measure=>have:=HK1.out;have:=HJ4.out;omega
        case rel=>exact⟨(x3_1),(wrap64 (x4_1+1)),z6_13,H',⟨by have:=HK1.out;have:=HJ4.out;omega⟩,⟨by(with_reducible repeat(first|apply Zp|apply Zo|apply Zn));exact HO_3.out⟩,⟨by(with_reducible repeat(first|refine blk_drewN ?_ _|refine blk_drew ?_|refine blk_alloc ?_ _));exact BK201.out⟩,⟨by repeat(first|(with_reducible first|exact HB.out|apply Zh|apply Ze|apply Zd|refine Zg ?_ GE201.out)|exact HB.out)⟩⟩
     ·replace c10:=Bool.eq_false_iff.mpr c10
      subst c10
      rw[if_neg (show ¬(false=true) by decide)] at H
      obtain rfl:=Zm H
      go_wp2
      go_ret
      exact⟨_,by first|rfl|(simp[errW_none,errW_some]<;>rfl)|(simp[*,errW_none,errW_some]<;>rfl)|(simp[*,errW_none,errW_some,i64_w];done),by(with_reducible repeat(first|apply Zp|apply Zo|apply Zn));exact HO_3.out,by repeat(first|(with_reducible first|exact HB.out|apply Zh|apply Ze|apply Zd|refine Zg ?_ GE201.out)|exact HB.out)⟩
def spec_l07Note.l0:Nat→List Bool→List Bool→List Int→Int→Option (List Bool)
 |0,_,_,_,_=>none
 |k+1,x0,x1,x6,x7=>if x7<(x6.length:Int) then (if 0≤x7 then (if 0≤(rd x6 x7) then (if (rd x6 x7)<(x1.length:Int) then (if (rdOf false x1 (rd x6 x7)=true) then (spec_l07Note.l0 k x0 x1 x6 (wrap64 (x7+1))) else (if (rd x6 x7)<(x0.length:Int) then (spec_l07Note.l0 k (x0.set ((rd x6 x7):Int).toNat true) x1 x6 (wrap64 (x7+1))) else (none))) else (none)) else (none)) else (none)) else (some x0)
def spec_l07Note.f (k:Nat) (l0:List Bool) (l1:List Bool) (a2_0:Int) (a2_1:Int) (a2_2:Int):Option (List Bool):=(spec_ReadsOf.f k a2_0 a2_1 a2_2).bind fun t213=>(spec_l07Note.l0 k l0 l1 t213 0)
theorem spec_l07Note.mono_l:∀k,(∀y0 y1 y2 y3,LeO (spec_l07Note.l0 k y0 y1 y2 y3) (spec_l07Note.l0 (k+1) y0 y1 y2 y3))
 |0=>fun _ _ _ _ r h=>by simp[spec_l07Note.l0] at h
 |k+1=>by
  have ih0:=spec_l07Note.mono_l k
  ·intro y0 y1 y2 y3
   unfold spec_l07Note.l0
   repeat' first
   |(with_reducible exact ih0 _ _ _ _)
   |(with_reducible exact spec_ReadsOf.mono _ _ _ _)
   |(with_reducible exact Yn _)
   |(with_reducible exact Yb _)
   |(with_reducible refine Zx ?_ ?_)
   |(with_reducible refine Zy ?_ (fun _=> ?_))
   |exact ih0 _ _ _ _
   |exact spec_ReadsOf.mono _ _ _ _
   |exact Yb _
   |refine Zx ?_ ?_
   |refine Zy ?_ (fun _=> ?_)
theorem spec_l07Note.mono:∀a0 a1 a2 a3 a4 k,LeO (spec_l07Note.f k a0 a1 a2 a3 a4) (spec_l07Note.f (k+1) a0 a1 a2 a3 a4):=by
 intro a0 a1 a2 a3 a4 k
 have ih0:=spec_l07Note.mono_l k
 unfold spec_l07Note.f
 repeat' first
   |(with_reducible exact ih0 _ _ _ _)
   |(with_reducible exact spec_ReadsOf.mono _ _ _ _)
   |(with_reducible exact Yn _)
   |(with_reducible exact Yb _)
   |(with_reducible refine Zx ?_ ?_)
   |(with_reducible refine Zy ?_ (fun _=> ?_))
   |exact ih0 _ _ _ _
   |exact spec_ReadsOf.mono _ _ _ _
   |exact Yb _
   |refine Zx ?_ ?_
   |refine Zy ?_ (fun _=> ?_)
set_option maxHeartbeats 8000000 in
set_option maxRecDepth 100000 in
theorem spec_l07Note.calls (k:Nat) (P0_:Nat→Prop) (u9000_:Value) (l0:List Bool) (A1:Option Addr) (c1:Nat) (l1:List Bool) (a2_0:Int) (a2_1:Int) (a2_2:Int) (r:List Bool) (w0 w:World) (hB:Below w0.heap.size w0 w) (ho0:Kd.R Kd.bool 4 w w0.heap.size P0_ u9000_ l0) (hr1:∀W_,Kept w W_ (fun k_=>P0_ k_)→Kd.C Kd.bool W_ A1 l1.length l1) (hc1:l1.length≤c1) (h:spec_l07Note.f k l0 l1 a2_0 a2_1 a2_2=some r):
  Calls Tryz.prog 84 #[u9000_,.slice A1 l1.length c1,.agg #[.int .i64 a2_0,.int .i64 a2_1,.int .i64 a2_2]] w fun e w'=>e= .returned (.tuple #[])∧Kd.R Kd.bool 4 w' w0.heap.size (fun k_=>(P0_ k_∨w.heap.size≤k_)) u9000_ r∧Below w0.heap.size w0 w'∧Kept w w' (fun k_=>P0_ k_):=by
 have hu53:=Tryz.underlying53
 have HO0:=Za (show Kd.R Kd.bool 4 w w0.heap.size (fun k_=>(P0_ k_∨w.heap.size≤k_)) u9000_ l0 from Yf ho0 (fun k_ hk=>(.inl hk)))
 have HR1:=Za hr1
 have HC1:=Za hc1
 clear hr1 hc1
 have HK:=Za (Kept.refl w (fun k_=>P0_ k_))
 have HW0:=Za hB.size
 have HB:=Za hB
 clear hB
 have H:((spec_ReadsOf.f k a2_0 a2_1 a2_2).bind fun t213=>(spec_l07Note.l0 k l0 l1 t213 0))=some r:=h
 clear h
 replace H:=Zl H
 obtain⟨t213,A40,H⟩:=H
 replace H:(spec_l07Note.l0 k l0 l1 t213 0)=some r:=H
 have A4:=Za A40
 clear A40
 have H':=Za H
 clear H
 go_enter Tryz.func84,Tryz.ntmps84
 go_wp2_with (first|((with_reducible refine Zr (N:=5) rfl ?_);refine Zs ?hg (N:=5) ?hd (cs:= #[.int .i64 a2_0,.int .i64 a2_1,.int .i64 a2_2]) (t:=53) ?hr ?_;(case hd=>rfl);(case hg=>rfl);(case hr=>exact z6_16);intro gb212 hg w5 hbox hb;replace HO0:=Za (Kd.R_below (by(with_reducible repeat(first|apply Zp|apply Zo|apply Zn));exact HO0.out) hb);have BK212:=Za (hbox);have GW212:=Za ((by rw[hg];exact(by first|exact HK.out.1|exact(show Kept w _ (fun k_=>P0_ k_) from by repeat(first|(with_reducible first|exact HK.out|apply Kept.alloc|apply Kept.drewN|apply Kept.drew)|exact HK.out)).1):w.heap.size≤gb212));replace HK:=Za (Kept.below (S:=(fun k_=>P0_ k_)) z6_17 hb);have GE212:=Za ((z6_22:w0.heap.size≤gb212));replace HB:=Za (Zi z6_3 hb);clear hb hbox hg;have hcz6_0:w5.cell? ⟨gb212,0,none⟩=some (.int .i64 a2_0):=(Zb BK212.out 0).trans rfl;have hcz6_1:w5.cell? ⟨gb212,1,none⟩=some (.int .i64 a2_1):=(Zb BK212.out 1).trans rfl;have hcz6_2:w5.cell? ⟨gb212,2,none⟩=some (.int .i64 a2_2):=(Zb BK212.out 2).trans rfl;have hfz6_0:=Zc BK212.out 0;have hfz6_1:=Zc BK212.out 1;have hfz6_2:=Zc BK212.out 2)|((first|((with_reducible refine gate_callee (f:=109) rfl ?_);refine goesL_ (some 9) rfl rfl Tryz.func109 (by kernel_rfl) rfl #[.agg #[.int .i64 a2_0,.int .i64 a2_1,.int .i64 a2_2]] rfl z6_9 ?_;(with_reducible refine(spec_ReadsOf.calls k a2_0 a2_1 a2_2 t213 _ A4.out).mono ?_))|(go_at_call 109;(with_reducible refine(spec_ReadsOf.calls k a2_0 a2_1 a2_2 t213 _ A4.out).mono ?_)));rintro e w7 ⟨v214,rfl,ho0,hb⟩;(first|refine⟨_,rfl,?_⟩|skip);replace HO0:=Za (Kd.R_below (by(with_reducible repeat(first|apply Zp|apply Zo|apply Zn));exact HO0.out) hb);have HO215:=Za (Yq (Kd.R_newM (M:=fun k_=>(P0_ k_∨w.heap.size≤k_)) ho0 (by first|exact HK.out.1|exact(show Kept w _ (fun k_=>P0_ k_) from by repeat(first|(with_reducible first|exact HK.out|apply Kept.alloc|apply Kept.drewN|apply Kept.drew|refine Kept.setCell ?_ (.inr GW212.out) _)|exact HK.out)).1) (fun k_ h_=> .inr h_)) (Zt (by repeat(first|(with_reducible first|exact HB.out|apply Zh|apply Ze|apply Zd|refine Zg ?_ GE212.out)|exact HB.out))));replace BK212:=Za (Zk (g:=gb212) (o:= .cells #[.int .i64 a2_0,.int .i64 a2_1,.int .i64 a2_2] 53 (0,0)) (by(with_reducible repeat(first|refine blk_drewN ?_ _|refine blk_drew ?_|refine blk_alloc ?_ _));exact BK212.out) hb);replace HK:=Za (Kept.below (S:=(fun k_=>P0_ k_)) (by repeat(first|(with_reducible first|exact HK.out|apply Kept.alloc|apply Kept.drewN|apply Kept.drew|refine Kept.setCell ?_ (.inr GW212.out) _)|exact HK.out)) hb);replace HB:=Za (Zi (by repeat(first|(with_reducible first|exact HB.out|apply Zh|apply Ze|apply Zd|refine Zg ?_ GE212.out)|exact HB.out)) hb);(try clear hb);(try clear hb2);(try clear hk);(try clear hi);(try clear ho0)))
 go_loopg [7] k (fun kq v7 w'=>∃(x0_1:List Bool) (x7_1:Int),v7= .int .i64 x7_1∧Aside0 (spec_l07Note.l0 kq x0_1 l1 t213 x7_1=some r)∧Aside0 (kq≤k)∧Aside0 (Kd.R Kd.bool 4 w' w0.heap.size (fun k_=>(P0_ k_∨w.heap.size≤k_)) u9000_ x0_1)∧Aside0 (Kd.R (Kd.int .i64) 3 w' w0.heap.size (fun k_=>(P0_ k_∨w.heap.size≤k_)) v214 t213)∧Aside0 (w'.heap[gb212]? =some (.cells #[.int .i64 a2_0,.int .i64 a2_1,.int .i64 a2_2] 53 (0,0)))∧Aside0 (Kept w w' (fun k_=>P0_ k_))∧Aside0 (Below w0.heap.size w0 w'))
 case atStart=>exact⟨(l0),(0),z6_13,H',⟨Nat.le_refl _⟩,⟨by(with_reducible repeat(first|apply Zp|apply Zo|apply Zn));exact HO0.out⟩,⟨by(with_reducible repeat(first|apply Zp|apply Zo|apply Zn));exact Yf HO215.out (fun _ hk=>hk.1)⟩,⟨by(with_reducible repeat(first|refine blk_drewN ?_ _|refine blk_drew ?_|refine blk_alloc ?_ _));exact BK212.out⟩,⟨by repeat(first|(with_reducible first|exact HK.out|apply Kept.alloc|apply Kept.drewN|apply Kept.drew|refine Kept.setCell ?_ (.inr GW212.out) _)|exact HK.out)⟩,⟨by repeat(first|(with_reducible first|exact HB.out|apply Zh|apply Ze|apply Zd|refine Zg ?_ GE212.out)|exact HB.out)⟩⟩
 case round=>
  clear H'
  (try clear c1);(try clear hcz6_0);(try clear hcz6_1);(try clear hcz6_2);(try clear hfz6_0);(try clear hfz6_1);(try clear hfz6_2)
  obtain⟨x0_1,x7_1,rfl,HA,HK1,HO_0,HO_6,BK212,HK,HB⟩:=hrel
  cases gk with
  |zero=>exact absurd HA.out (by simp[spec_l07Note.l0])
  |succ k1=>
   have H:=HA.out
   clear HA
   simp only[spec_l07Note.l0] at H
   by_cases c8:x7_1<(t213.length:Int)
   ·rw[if_pos c8] at H
    have c8b0:decide (x7_1<(t213.length:Int))=true:=Zq c8
    clear c8
    by_cases c9:0≤x7_1
    ·rw[if_pos c9] at H
     have c9b0:decide (0≤x7_1)=true:=Zq c9
     clear c9
     by_cases c10:0≤(rd t213 x7_1)
     ·rw[if_pos c10] at H
      have c10b0:decide (0≤(rd t213 x7_1))=true:=Zq c10
      clear c10
      by_cases c11:(rd t213 x7_1)<(l1.length:Int)
      ·rw[if_pos c11] at H
       have c11b0:decide ((rd t213 x7_1)<(l1.length:Int))=true:=Zq c11
       clear c11
       obtain⟨bq12,hbq12⟩:∃b_:Bool,b_=(rdOf false l1 (rd t213 x7_1)):=⟨_,rfl⟩
       replace H:(if (bq12=true) then (spec_l07Note.l0 k1 x0_1 l1 t213 (wrap64 (x7_1+1))) else (if (rd t213 x7_1)<(x0_1.length:Int) then (spec_l07Note.l0 k1 (x0_1.set ((rd t213 x7_1):Int).toNat true) l1 t213 (wrap64 (x7_1+1))) else (none)))=some r:=by rw[←hbq12] at H;exact H
       have Nbq12:=Za hbq12
       clear hbq12
       by_cases c13:(bq12=true)
       ·subst c13
        rw[if_pos rfl] at H
        have H':=Za H
        clear H
        obtain⟨Ao14,co14,eo14⟩:=Yp HO_6.out
        subst eo14
        have p216:0≤(x7_1:Int):=Zj z6_7
        have q216:x7_1<(t213.length:Int):=Zj z6_7
        obtain⟨ad216,e216,hx216_0⟩:=Kd.at_int (Yd HO_6.out).2.2 x7_1 p216 q216
        cases e216
        replace p216:=eq_true p216
        replace q216:=eq_true q216
        have p217:0≤((rd t213 x7_1):Int):=Zj z6_7
        have q217:(rd t213 x7_1)<(l1.length:Int):=Zj z6_7
        obtain⟨ad217,e217,hx217_0⟩:=Kd.at_bool (Kd.C_kept_now HR1.out HK.out) (rd t213 x7_1) p217 q217
        (try rw[←Nbq12.out] at hx217_0)
        cases e217
        replace p217:=eq_true p217
        replace q217:=eq_true q217
        go_wp2
        go_roundg k1
        case measure=>have:=HK1.out;omega
        case rel=>exact⟨(x0_1),(wrap64 (x7_1+1)),z6_13,H',⟨by have:=HK1.out;omega⟩,⟨by(with_reducible repeat(first|apply Zp|apply Zo|apply Zn));exact HO_0.out⟩,⟨by(with_reducible repeat(first|apply Zp|apply Zo|apply Zn));exact HO_6.out⟩,⟨by(with_reducible repeat(first|refine blk_drewN ?_ _|refine blk_drew ?_|refine blk_alloc ?_ _));exact BK212.out⟩,⟨by repeat(first|(with_reducible first|exact HK.out|apply Kept.alloc|apply Kept.drewN|apply Kept.drew|refine Kept.setCell ?_ (.inr GW212.out) _)|exact HK.out)⟩,⟨by repeat(first|(with_reducible first|exact HB.out|apply Zh|apply Ze|apply Zd|refine Zg ?_ GE212.out)|exact HB.out)⟩⟩
       ·replace c13:=Bool.eq_false_iff.mpr c13
        subst c13
        rw[if_neg (show ¬(false=true) by decide)] at H
        by_cases c15:(rd t213 x7_1)<(x0_1.length:Int)
        ·rw[if_pos c15] at H
         have c15b0:decide ((rd t213 x7_1)<(x0_1.length:Int))=true:=Zq c15
         clear c15
         obtain⟨y219,hy219⟩:∃y_:List Bool,y_=(x0_1.set ((rd t213 x7_1):Int).toNat true):=⟨_,rfl⟩
         replace H:(spec_l07Note.l0 k1 y219 l1 t213 (wrap64 (x7_1+1)))=some r:=by first|(rw[hy219];with_reducible exact H)|(have H2_:=(Yk _ _).symm.trans H;rw[hy219];with_reducible exact H2_)|(have H2_:=(Yk _ _).symm.trans H;with_reducible exact H2_)|with_reducible exact H|(rw[hy219];exact H)|exact H
         have Ny219:=Za hy219
         clear hy219
         have H':=Za H
         clear H
         obtain⟨Ao17,co17,eo17⟩:=Yp HO_6.out
         subst eo17
         have p216:0≤(x7_1:Int):=Zj z6_7
         have q216:x7_1<(t213.length:Int):=Zj z6_7
         obtain⟨ad216,e216,hx216_0⟩:=Kd.at_int (Yd HO_6.out).2.2 x7_1 p216 q216
         cases e216
         replace p216:=eq_true p216
         replace q216:=eq_true q216
         have p217:0≤((rd t213 x7_1):Int):=Zj z6_7
         have q217:(rd t213 x7_1)<(l1.length:Int):=Zj z6_7
         obtain⟨ad217,e217,hx217_0⟩:=Kd.at_bool (Kd.C_kept_now HR1.out HK.out) (rd t213 x7_1) p217 q217
         (try rw[←Nbq12.out] at hx217_0)
         cases e217
         replace p217:=eq_true p217
         replace q217:=eq_true q217
         have p218:0≤(x7_1:Int):=Zj z6_7
         have q218:x7_1<(t213.length:Int):=Zj z6_7
         obtain⟨ad218,e218,hx218_0⟩:=Kd.at_int (Yd HO_6.out).2.2 x7_1 p218 q218
         obtain rfl:ad216=ad218:=(by injection e218)
         replace p218:=eq_true p218
         replace q218:=eq_true q218
         have p16:0≤((rd t213 x7_1):Int):=Zj z6_7
         have q16:((rd t213 x7_1):Int)<((x0_1.length:Int):Int):=Zj z6_7
         obtain⟨go16,co16,eo16,gb16,gl16,cl16,HG16⟩:=Kd.R_form HO_0.out (by omega)
         (first|cases eo16|(injection eo16 with ea_ en_ ec_;(first|subst ea_|(injection ea_ with ea_;subst ea_));subst ec_;clear en_))
         have GB16:=Za gb16
         have GG16:=Za HG16
         clear gb16 gl16 HG16
         have HMgo16:=Za (show(P0_ go16∨w.heap.size≤go16) from (HO_0.out.1 _ rfl))
         obtain⟨hx16_0,hf16_0⟩:=Kd.R_celln false HO_0.out ((rd t213 x7_1):Int) p16 q16
         replace p16:=eq_true p16
         replace q16:=eq_true q16
         have HP18:=Kd.R_putg HO_0.out ((rd t213 x7_1):Int) true
         go_wp2_with (first|((with_reducible refine Ym (t:=4) (p:=29) rfl ?_);refine Yl (t:=4) (p:=29) (v:= ?vo_w19) (w1:=(wr.setCell ⟨go16,((rd t213 x7_1):Int).toNat,none⟩ (.bool true))) ?hg ?ho ?hn ?hr ?_;(case ho=>rfl);(case hg=>rfl);(case hn=>rfl);(case hr=>exact z6_16);intro w19 hw;have hg:wr.grownBy w19 (some go16):=(by rw[hw];exact HP18.2);have hp_:Kd.R Kd.bool 4 w19 w0.heap.size (fun k_=>(P0_ k_∨w.heap.size≤k_)) (.slice (some ⟨go16,0,none⟩) x0_1.length co16) y219:=(by rw[hw,Ny219.out];exact HP18.1);clear HP18;replace HO_6:=Za (Kd.R_over' (v:=(.slice (some ⟨go16,0,none⟩) x0_1.length co16)) (by(with_reducible repeat(first|apply Zp|apply Zo|apply Zn));exact HO_6.out) (Kd.R_typed HO_0.out) (by decide) hg);replace BK212:=Za (blk_grown (g:=gb212) (o:= .cells #[.int .i64 a2_0,.int .i64 a2_1,.int .i64 a2_2] 53 (0,0)) (by(with_reducible repeat(first|refine blk_drewN ?_ _|refine blk_drew ?_|refine blk_alloc ?_ _));exact BK212.out) hg (Kd.R_ne HO_0.out BK212.out (by decide)));replace HB:=Za ((by rw[hw];exact Zg (HB.out) GB16.out:Below w0.heap.size w0 w19));replace HK:=Za (Kept.of_grown (S:=(fun k_=>P0_ k_)) hg (by repeat(first|(with_reducible first|exact HK.out|apply Kept.alloc|apply Kept.drewN|apply Kept.drew|refine Kept.setCell ?_ (.inr GW212.out) _)|exact HK.out)) (fun k_ e_=>(HO_0.out.1 k_ e_)));replace HO_0:=Za (hp_);clear hg hw hp_))
         go_roundg k1
         case measure=>have:=HK1.out;omega
         case rel=>exact⟨(y219),(wrap64 (x7_1+1)),z6_13,H',⟨by have:=HK1.out;omega⟩,⟨by(with_reducible repeat(first|apply Zp|apply Zo|apply Zn));exact HO_0.out⟩,⟨by(with_reducible repeat(first|apply Zp|apply Zo|apply Zn));exact HO_6.out⟩,⟨by(with_reducible repeat(first|refine blk_drewN ?_ _|refine blk_drew ?_|refine blk_alloc ?_ _));exact BK212.out⟩,⟨by repeat(first|(with_reducible first|exact HK.out|apply Kept.alloc|apply Kept.drewN|apply Kept.drew|refine Kept.setCell ?_ (.inr GW212.out) _)|exact HK.out)⟩,⟨by repeat(first|(with_reducible first|exact HB.out|apply Zh|apply Ze|apply Zd|refine Zg ?_ GE212.out)|exact HB.out)⟩⟩
        ·rw[if_neg c15] at H
         exact absurd H (by simp)
      ·rw[if_neg c11] at H
       exact absurd H (by simp)
     ·rw[if_neg c10] at H
      exact absurd H (by simp)
    ·rw[if_neg c9] at H
     exact absurd H (by simp)
   ·rw[if_neg c8] at H
    have c8b0:decide (x7_1<(t213.length:Int))=false:=Yg c8
    clear c8
    obtain rfl:=Zm H
    obtain⟨Ao20,co20,eo20⟩:=Yp HO_6.out
    subst eo20
    go_wp2
    first|go_end0|((try simp only[Exit.inBlock,Exit.then]);refine bodyPost_ret (results_none rfl _ _ _) rfl ?_)
    exact⟨by first|rfl|(simp[errW_none,errW_some]<;>rfl)|(simp[*,errW_none,errW_some]<;>rfl)|(simp[*,errW_none,errW_some,i64_w];done),by(with_reducible repeat(first|apply Zp|apply Zo|apply Zn));exact HO_0.out,by repeat(first|(with_reducible first|exact HB.out|apply Zh|apply Ze|apply Zd|refine Zg ?_ GE212.out)|exact HB.out),by repeat(first|(with_reducible first|exact HK.out|apply Kept.alloc|apply Kept.drewN|apply Kept.drew|refine Kept.setCell ?_ (.inr GW212.out) _)|exact HK.out)⟩
/-! ### spec_l07Pass: function 83 -/
mutual
def spec_l07Pass.l0:Nat→List (S77)→Int→List Bool→List Bool→Int→Option (List Bool×List Bool)
 |0,_,_,_,_,_=>none
 |k+1,x0,x2,x3,x4,x10=>if x10<x2 then (if 0≤x10 then (if x10<(x0.length:Int) then (if ((rd_T77 x0 x10).f0)=1 then ((spec_l07Note.f k x4 x3 ((rd_T77 x0 x10).f3.f0) ((rd_T77 x0 x10).f3.f1) ((rd_T77 x0 x10).f3.f2)).bind fun t222=>(if 0≤((rd_T77 x0 x10).f1) then (if ((rd_T77 x0 x10).f1)<(x3.length:Int) then (spec_l07Pass.l0 k x0 x2 (x3.set (((rd_T77 x0 x10).f1):Int).toNat true) t222 (wrap64 (x10+1))) else (none)) else (none))) else (if ((rd_T77 x0 x10).f0)=2 then (if 0≤((rd_T77 x0 x10).f1) then (if ((rd_T77 x0 x10).f1)<(x3.length:Int) then (spec_l07Pass.l0 k x0 x2 (x3.set (((rd_T77 x0 x10).f1):Int).toNat true) x4 (wrap64 (x10+1))) else (none)) else (none)) else (if ((rd_T77 x0 x10).f0)=3 then ((spec_l07Note.f k x4 x3 ((rd_T77 x0 x10).f3.f0) ((rd_T77 x0 x10).f3.f1) ((rd_T77 x0 x10).f3.f2)).bind fun t225=>(spec_l07Pass.l0 k x0 x2 x3 t225 (wrap64 (x10+1)))) else (if ((rd_T77 x0 x10).f0)=4 then ((spec_l07Note.f k x4 x3 ((rd_T77 x0 x10).f3.f0) ((rd_T77 x0 x10).f3.f1) ((rd_T77 x0 x10).f3.f2)).bind fun t226=>((spec_l05End.f k x0 x10).bind fun t227=>((some (([]:List Bool):List Bool)).bind fun y228=>(if y228.length+x3.length<140737488355328 then ((spec_l07Pass.f k x0 (wrap64 (x10+1)) t227 (y228++x3) t226).bind fun bt234=>(spec_l07Pass.l0 k x0 x2 x3 bt234.2 (wrap64 (t227+1)))) else (none))))) else (if ((rd_T77 x0 x10).f0)=5 then ((spec_l05End.f k x0 x10).bind fun t236=>((spec_l07Pass.f k x0 (wrap64 (x10+1)) t236 x3 x4).bind fun bt237=>(spec_l07Pass.l0 k x0 x2 bt237.1 bt237.2 (wrap64 (t236+1))))) else (spec_l07Pass.l0 k x0 x2 x3 x4 (wrap64 (x10+1)))))))) else (none)) else (none)) else (some (x3,x4))
def spec_l07Pass.f:Nat→List (S77)→Int→Int→List Bool→List Bool→Option (List Bool×List Bool)
 |0,_,_,_,_,_=>none
 |k+1,l0,a1,a2,l3,l4=>spec_l07Pass.l0 k l0 a2 l3 l4 a1
end
theorem spec_l07Pass.mono_l:∀k,(∀y0 y1 y2 y3 y4,LeO (spec_l07Pass.f k y0 y1 y2 y3 y4) (spec_l07Pass.f (k+1) y0 y1 y2 y3 y4))∧(∀y0 y1 y2 y3 y4,LeO (spec_l07Pass.l0 k y0 y1 y2 y3 y4) (spec_l07Pass.l0 (k+1) y0 y1 y2 y3 y4))
 |0=>⟨fun _ _ _ _ _ r h=>by simp[spec_l07Pass.f] at h,fun _ _ _ _ _ r h=>by simp[spec_l07Pass.l0] at h⟩
 |k+1=>by
  obtain⟨ih0,ih1⟩:=spec_l07Pass.mono_l k
  refine⟨?_,?_⟩
  ·intro y0 y1 y2 y3 y4
   unfold spec_l07Pass.f
   repeat' first
   |(with_reducible exact ih0 _ _ _ _ _)
   |(with_reducible exact ih1 _ _ _ _ _)
   |(with_reducible exact spec_l05End.mono _ _ _)
   |(with_reducible exact spec_l07Note.mono _ _ _ _ _ _)
   |(with_reducible exact Yn _)
   |(with_reducible exact Yb _)
   |(with_reducible refine Zx ?_ ?_)
   |(with_reducible refine Zy ?_ (fun _=> ?_))
   |exact ih0 _ _ _ _ _
   |exact ih1 _ _ _ _ _
   |exact spec_l05End.mono _ _ _
   |exact spec_l07Note.mono _ _ _ _ _ _
   |exact Yb _
   |refine Zx ?_ ?_
   |refine Zy ?_ (fun _=> ?_)
  ·intro y0 y1 y2 y3 y4
   unfold spec_l07Pass.l0
   repeat' first
   |(with_reducible exact ih0 _ _ _ _ _)
   |(with_reducible exact ih1 _ _ _ _ _)
   |(with_reducible exact spec_l05End.mono _ _ _)
   |(with_reducible exact spec_l07Note.mono _ _ _ _ _ _)
   |(with_reducible exact Yn _)
   |(with_reducible exact Yb _)
   |(with_reducible refine Zx ?_ ?_)
   |(with_reducible refine Zy ?_ (fun _=> ?_))
   |exact ih0 _ _ _ _ _
   |exact ih1 _ _ _ _ _
   |exact spec_l05End.mono _ _ _
   |exact spec_l07Note.mono _ _ _ _ _ _
   |exact Yb _
   |refine Zx ?_ ?_
   |refine Zy ?_ (fun _=> ?_)
theorem spec_l07Pass.mono:∀a0 a1 a2 a3 a4 k,LeO (spec_l07Pass.f k a0 a1 a2 a3 a4) (spec_l07Pass.f (k+1) a0 a1 a2 a3 a4):=by
 intro a0 a1 a2 a3 a4 k
 obtain⟨ih0,ih1⟩:=spec_l07Pass.mono_l k
 exact ih0 a0 a1 a2 a3 a4
set_option maxHeartbeats 8000000 in
set_option maxRecDepth 100000 in
theorem spec_l07Pass.calls (k:Nat):∀(A0:Option Addr) (c0:Nat) (l0:List (S77)) (a1:Int) (a2:Int) (P3_:Nat→Prop) (u9000_:Value) (l3:List Bool) (P4_:Nat→Prop) (u9001_:Value) (l4:List Bool) (r1:List Bool) (r2:List Bool) (w0 w:World) (hB:Below w0.heap.size w0 w) (hr0:∀W_,Kept w W_ (fun k_=>P3_ k_∨P4_ k_)→Kd.C k77 W_ A0 l0.length l0) (hc0:l0.length≤c0) (ho3:Kd.R Kd.bool 4 w w0.heap.size P3_ u9000_ l3) (hp3_4:∀k_,P3_ k_→¬P4_ k_) (ho4:Kd.R Kd.bool 4 w w0.heap.size P4_ u9001_ l4) (hp4_3:∀k_,P4_ k_→¬P3_ k_) (h:spec_l07Pass.f k l0 a1 a2 l3 l4=some (r1,r2)),
  Calls Tryz.prog 83 #[.slice A0 l0.length c0,.int .i64 a1,.int .i64 a2,u9000_,u9001_] w fun e w'=>e= .returned (.tuple #[])∧Kd.R Kd.bool 4 w' w0.heap.size (fun k_=>((P3_ k_∨P4_ k_)∨w.heap.size≤k_)) u9000_ r1∧Kd.R Kd.bool 4 w' w0.heap.size (fun k_=>((P3_ k_∨P4_ k_)∨w.heap.size≤k_)) u9001_ r2∧Below w0.heap.size w0 w'∧Kept w w' (fun k_=>P3_ k_∨P4_ k_):=by
 induction k using Nat.strongRecOn with
 |_ k ih=>
 intro A0 c0 l0 a1 a2 P3_ u9000_ l3 P4_ u9001_ l4 r1 r2 w0 w hB hr0 hc0 ho3 hp3_4 ho4 hp4_3 h
 cases k with
 |zero=>exact absurd h (by simp[spec_l07Pass.f])
 |succ k=>
 simp only[spec_l07Pass.f] at h
 have hu77:=Tryz.underlying77
 have hu53:=Tryz.underlying53
 have HR0:=Za hr0
 have HC0:=Za hc0
 clear hr0 hc0
 have HO3:=Za (show Kd.R Kd.bool 4 w w0.heap.size (fun k_=>((P3_ k_∨P4_ k_)∨w.heap.size≤k_)∧some k_≠(u9001_:Value).ownBlock) u9000_ l3 from Yf ho3 (fun k_ hk=>⟨(.inl (.inl hk)),fun e_=>hp3_4 k_ hk (ho4.1 k_ e_.symm)⟩))
 have HO4:=Za (show Kd.R Kd.bool 4 w w0.heap.size (fun k_=>((P3_ k_∨P4_ k_)∨w.heap.size≤k_)∧some k_≠(u9000_:Value).ownBlock) u9001_ l4 from Yf ho4 (fun k_ hk=>⟨(.inl (.inr hk)),fun e_=>hp4_3 k_ hk (ho3.1 k_ e_.symm)⟩))
 have HK:=Za (Kept.refl w (fun k_=>P3_ k_∨P4_ k_))
 have HW0:=Za hB.size
 have HB:=Za hB
 clear hB
 have H:(spec_l07Pass.l0 k l0 a2 l3 l4 a1)=some (r1,r2):=h
 clear h
 have H':=Za H
 clear H
 go_enter Tryz.func83,Tryz.ntmps83
 go_wp2
 go_loopg [10] k (fun kq v10 w'=>∃(x3_1:List Bool) (x4_1:List Bool) (x10_1:Int),v10= .int .i64 x10_1∧Aside0 (spec_l07Pass.l0 kq l0 a2 x3_1 x4_1 x10_1=some (r1,r2))∧Aside0 (kq≤k)∧Aside0 (Kd.R Kd.bool 4 w' w0.heap.size (fun k_=>((P3_ k_∨P4_ k_)∨w.heap.size≤k_)∧some k_≠(u9001_:Value).ownBlock) u9000_ x3_1)∧Aside0 (Kd.R Kd.bool 4 w' w0.heap.size (fun k_=>((P3_ k_∨P4_ k_)∨w.heap.size≤k_)∧some k_≠(u9000_:Value).ownBlock) u9001_ x4_1)∧Aside0 (Kept w w' (fun k_=>P3_ k_∨P4_ k_))∧Aside0 (Below w0.heap.size w0 w'))
 case atStart=>exact⟨(l3),(l4),(a1),z6_13,H',⟨Nat.le_refl _⟩,⟨by(with_reducible repeat(first|apply Zp|apply Zo|apply Zn));exact HO3.out⟩,⟨by(with_reducible repeat(first|apply Zp|apply Zo|apply Zn));exact HO4.out⟩,⟨by repeat(first|(with_reducible first|exact HK.out|apply Kept.alloc|apply Kept.drewN|apply Kept.drew)|exact HK.out)⟩,⟨by repeat(first|(with_reducible first|exact HB.out|apply Zh|apply Ze|apply Zd)|exact HB.out)⟩⟩
 case round=>
  clear H'
  obtain⟨x3_1,x4_1,x10_1,rfl,HA,HK1,HO_3,HO_4,HK,HB⟩:=hrel
  cases gk with
  |zero=>exact absurd HA.out (by simp[spec_l07Pass.l0])
  |succ k1=>
   have H:=HA.out
   clear HA
   simp only[spec_l07Pass.l0] at H
   by_cases c6:x10_1<a2
   ·rw[if_pos c6] at H
    have c6b0:decide (x10_1<a2)=true:=Zq c6
    clear c6
    by_cases c7:0≤x10_1
    ·rw[if_pos c7] at H
     have c7b0:decide (0≤x10_1)=true:=Zq c7
     clear c7
     by_cases c8:x10_1<(l0.length:Int)
     ·rw[if_pos c8] at H
      have c8b0:decide (x10_1<(l0.length:Int))=true:=Zq c8
      clear c8
      by_cases c9:((rd_T77 l0 x10_1).f0)=1
      ·rw[if_pos c9] at H
       have c9b0:(((rd_T77 l0 x10_1).f0)==1)=true:=beq_iff_eq.mpr c9
       have c9b1:(((rd_T77 l0 x10_1).f0) != 1)=false:=bne_eq_false_iff_eq.mpr c9
       clear c9
       replace H:=Zl H
       obtain⟨t222,A100,H⟩:=H
       replace H:(if 0≤((rd_T77 l0 x10_1).f1) then (if ((rd_T77 l0 x10_1).f1)<(x3_1.length:Int) then (spec_l07Pass.l0 k1 l0 a2 (x3_1.set (((rd_T77 l0 x10_1).f1):Int).toNat true) t222 (wrap64 (x10_1+1))) else (none)) else (none))=some (r1,r2):=H
       have A10:=Za A100
       clear A100
       by_cases c11:0≤((rd_T77 l0 x10_1).f1)
       ·rw[if_pos c11] at H
        have c11b0:decide (0≤((rd_T77 l0 x10_1).f1))=true:=Zq c11
        clear c11
        by_cases c12:((rd_T77 l0 x10_1).f1)<(x3_1.length:Int)
        ·rw[if_pos c12] at H
         have c12b0:decide (((rd_T77 l0 x10_1).f1)<(x3_1.length:Int))=true:=Zq c12
         clear c12
         obtain⟨y223,hy223⟩:∃y_:List Bool,y_=(x3_1.set (((rd_T77 l0 x10_1).f1):Int).toNat true):=⟨_,rfl⟩
         replace H:(spec_l07Pass.l0 k1 l0 a2 y223 t222 (wrap64 (x10_1+1)))=some (r1,r2):=by first|(rw[hy223];with_reducible exact H)|(have H2_:=(Yk _ _).symm.trans H;rw[hy223];with_reducible exact H2_)|(have H2_:=(Yk _ _).symm.trans H;with_reducible exact H2_)|with_reducible exact H|(rw[hy223];exact H)|exact H
         have Ny223:=Za hy223
         clear hy223
         have H':=Za H
         clear H
         have p220:0≤(x10_1:Int):=Zj z6_7
         have q220:x10_1<(l0.length:Int):=Zj z6_7
         obtain⟨ad220,e220,hx220_0,hx220_1,hx220_2,hx220_3,hx220_4,hx220_5⟩:=at_T77 (Kd.C_kept_now HR0.out HK.out) x10_1 p220 q220
         cases e220
         replace p220:=eq_true p220
         replace q220:=eq_true q220
         go_wp2_with (first|((with_reducible refine Zr (N:=11) rfl ?_);refine Zs ?hg (N:=11) ?hd (cs:= #[.int .i64 0,.int .i64 0,.int .i64 0,.int .i64 0,.int .i64 0,.int .i64 0]) (t:=77) ?hr ?_;(case hd=>rfl);(case hg=>rfl);(case hr=>exact z6_16);intro gb221 hg w14 hbox hb;replace HO_3:=Za (Kd.R_below z6_6 hb);replace HO_4:=Za (Kd.R_below z6_10 hb);have BK221:=Za (hbox);have GW221:=Za ((z6_12:w.heap.size≤gb221));replace HK:=Za (Kept.below (S:=(fun k_=>P3_ k_∨P4_ k_)) z6_17 hb);have GE221:=Za ((z6_22:w0.heap.size≤gb221));replace HB:=Za (Zi z6_3 hb);clear hb hbox hg;have hcz15_0:w14.cell? ⟨gb221,0,none⟩=some (.int .i64 0):=(Zb BK221.out 0).trans rfl;have hcz15_1:w14.cell? ⟨gb221,1,none⟩=some (.int .i64 0):=(Zb BK221.out 1).trans rfl;have hcz15_2:w14.cell? ⟨gb221,2,none⟩=some (.int .i64 0):=(Zb BK221.out 2).trans rfl;have hcz15_3:w14.cell? ⟨gb221,3,none⟩=some (.int .i64 0):=(Zb BK221.out 3).trans rfl;have hcz15_4:w14.cell? ⟨gb221,4,none⟩=some (.int .i64 0):=(Zb BK221.out 4).trans rfl;have hcz15_5:w14.cell? ⟨gb221,5,none⟩=some (.int .i64 0):=(Zb BK221.out 5).trans rfl;have hfz15_0:=Zc BK221.out 0;have hfz15_1:=Zc BK221.out 1;have hfz15_2:=Zc BK221.out 2;have hfz15_3:=Zc BK221.out 3;have hfz15_4:=Zc BK221.out 4;have hfz15_5:=Zc BK221.out 5)|((with_reducible refine Ym (t:=77) (p:=11) rfl ?_);refine Yl (t:=77) (p:=11) (v:= ?vo_w16) (w1:=((((((w14.setCell ⟨gb221,0,none⟩ (.int .i64 ((rd_T77 l0 x10_1).f0))).setCell ⟨gb221,1,none⟩ (.int .i64 ((rd_T77 l0 x10_1).f1))).setCell ⟨gb221,2,none⟩ (.int .i64 ((rd_T77 l0 x10_1).f2))).setCell ⟨gb221,3,none⟩ (.int .i64 ((rd_T77 l0 x10_1).f3.f0))).setCell ⟨gb221,4,none⟩ (.int .i64 ((rd_T77 l0 x10_1).f3.f1))).setCell ⟨gb221,5,none⟩ (.int .i64 ((rd_T77 l0 x10_1).f3.f2)))) ?hg ?ho ?hn ?hr ?_;(case ho=>rfl);(case hg=>rfl);(case hn=>rfl);(case hr=>exact z6_16);intro w16 hw;have n0_:Aside0 (Kd.R Kd.bool 4 w16 w0.heap.size (fun k_=>((P3_ k_∨P4_ k_)∨w.heap.size≤k_)∧some k_≠(u9001_:Value).ownBlock) u9000_ x3_1):=⟨z6_2⟩;have n1_:Aside0 (Kd.R Kd.bool 4 w16 w0.heap.size (fun k_=>((P3_ k_∨P4_ k_)∨w.heap.size≤k_)∧some k_≠(u9000_:Value).ownBlock) u9001_ x4_1):=⟨z6_1⟩;have n2_:Aside0 (w16.heap[gb221]? =some (.cells #[.int .i64 ((rd_T77 l0 x10_1).f0),.int .i64 ((rd_T77 l0 x10_1).f1),.int .i64 ((rd_T77 l0 x10_1).f2),.int .i64 ((rd_T77 l0 x10_1).f3.f0),.int .i64 ((rd_T77 l0 x10_1).f3.f1),.int .i64 ((rd_T77 l0 x10_1).f3.f2)] 77 (0,0))):=⟨z6_0⟩;have n3_:Aside0 (Kept w w16 (fun k_=>P3_ k_∨P4_ k_)):=⟨(by rw[hw];exact z6_4)⟩;have n4_:Aside0 (Below w0.heap.size w0 w16):=⟨(by rw[hw];exact z6_5)⟩;clear hw;clear HO_3;clear HO_4;clear BK221;clear HK;clear HB;have HO_3:=n0_;have HO_4:=n1_;have BK221:=n2_;have HK:=n3_;have HB:=n4_;clear n0_ n1_ n2_ n3_ n4_;have hcz17_0:w16.cell? ⟨gb221,0,none⟩=some (.int .i64 ((rd_T77 l0 x10_1).f0)):=(Zb BK221.out 0).trans rfl;have hcz17_1:w16.cell? ⟨gb221,1,none⟩=some (.int .i64 ((rd_T77 l0 x10_1).f1)):=(Zb BK221.out 1).trans rfl;have hcz17_2:w16.cell? ⟨gb221,2,none⟩=some (.int .i64 ((rd_T77 l0 x10_1).f2)):=(Zb BK221.out 2).trans rfl;have hcz17_3:w16.cell? ⟨gb221,3,none⟩=some (.int .i64 ((rd_T77 l0 x10_1).f3.f0)):=(Zb BK221.out 3).trans rfl;have hcz17_4:w16.cell? ⟨gb221,4,none⟩=some (.int .i64 ((rd_T77 l0 x10_1).f3.f1)):=(Zb BK221.out 4).trans rfl;have hcz17_5:w16.cell? ⟨gb221,5,none⟩=some (.int .i64 ((rd_T77 l0 x10_1).f3.f2)):=(Zb BK221.out 5).trans rfl;have hfz17_0:=Zc BK221.out 0;have hfz17_1:=Zc BK221.out 1;have hfz17_2:=Zc BK221.out 2;have hfz17_3:=Zc BK221.out 3;have hfz17_4:=Zc BK221.out 4;have hfz17_5:=Zc BK221.out 5;obtain⟨Ao18,co18,eo18⟩:=Yp HO_4.out;subst eo18;obtain⟨Ao19,co19,eo19⟩:=Yp HO_3.out;subst eo19)|((first|((with_reducible refine gate_callee (f:=84) rfl ?_);refine goesL_ (some 32) rfl rfl Tryz.func84 (by kernel_rfl) rfl #[.slice Ao18 x4_1.length co18,.slice Ao19 x3_1.length co19,.agg #[.int .i64 ((rd_T77 l0 x10_1).f3.f0),.int .i64 ((rd_T77 l0 x10_1).f3.f1),.int .i64 ((rd_T77 l0 x10_1).f3.f2)]] rfl z6_9 ?_;(with_reducible refine(spec_l07Note.calls k1 (fun k_=>some k_=(.slice Ao18 x4_1.length co18:Value).ownBlock) (.slice Ao18 x4_1.length co18) x4_1 _ _ x3_1 ((rd_T77 l0 x10_1).f3.f0) ((rd_T77 l0 x10_1).f3.f1) ((rd_T77 l0 x10_1).f3.f2) t222 w0 _ ?side1 ?side2 ?side3 ?side4 A10.out).mono ?_))|(go_at_call 84;(with_reducible refine(spec_l07Note.calls k1 (fun k_=>some k_=(.slice Ao18 x4_1.length co18:Value).ownBlock) (.slice Ao18 x4_1.length co18) x4_1 _ _ x3_1 ((rd_T77 l0 x10_1).f3.f0) ((rd_T77 l0 x10_1).f3.f1) ((rd_T77 l0 x10_1).f3.f2) t222 w0 _ ?side1 ?side2 ?side3 ?side4 A10.out).mono ?_)));(case side1=>exact z6_5);(case side2=>exact Kd.R_tight rfl HO_4.out);(case side3=>exact z6_19);(case side4=>exact(Yd HO_3.out).2.1);rintro e w20 ⟨rfl,hy0,hb,hkp⟩;(first|refine⟨_,rfl,?_⟩|skip);replace HO_3:=Za (Yf (ok':=fun k_=>((P3_ k_∨P4_ k_)∨w.heap.size≤k_)∧some k_≠(.slice Ao18 x4_1.length co18:Value).ownBlock) (Kd.R_keptB (HO_3.out) hkp (fun k_ hk_ hs_=>(hk_.2) hs_)) (fun k_ hk_=>⟨hk_.1.1,hk_.1.2⟩));replace BK221:=Za (blk_kept z6_11 hkp (fun hs_=>(fun e_=>(Kd.R_ne HO_4.out BK221.out (by decide)) e_) hs_));replace HK:=Za (Kept.then_ (S:=(fun k_=>P3_ k_∨P4_ k_)) z6_4 hkp (fun k_ hs_=>(fun e_=>(HO_4.out.1 k_ e_.symm).1) hs_));replace HO_4:=Za (Kd.R_reok rfl hy0 (fun k_ e_=>HO_4.out.1 k_ e_));replace HB:=Za (hb);(try clear hb);(try clear hkp);(try clear hy0);have hcz21_0:w20.cell? ⟨gb221,0,none⟩=some (.int .i64 ((rd_T77 l0 x10_1).f0)):=(Zb BK221.out 0).trans rfl;have hcz21_1:w20.cell? ⟨gb221,1,none⟩=some (.int .i64 ((rd_T77 l0 x10_1).f1)):=(Zb BK221.out 1).trans rfl;have hcz21_2:w20.cell? ⟨gb221,2,none⟩=some (.int .i64 ((rd_T77 l0 x10_1).f2)):=(Zb BK221.out 2).trans rfl;have hcz21_3:w20.cell? ⟨gb221,3,none⟩=some (.int .i64 ((rd_T77 l0 x10_1).f3.f0)):=(Zb BK221.out 3).trans rfl;have hcz21_4:w20.cell? ⟨gb221,4,none⟩=some (.int .i64 ((rd_T77 l0 x10_1).f3.f1)):=(Zb BK221.out 4).trans rfl;have hcz21_5:w20.cell? ⟨gb221,5,none⟩=some (.int .i64 ((rd_T77 l0 x10_1).f3.f2)):=(Zb BK221.out 5).trans rfl;have hfz21_0:=Zc BK221.out 0;have hfz21_1:=Zc BK221.out 1;have hfz21_2:=Zc BK221.out 2;have hfz21_3:=Zc BK221.out 3;have hfz21_4:=Zc BK221.out 4;have hfz21_5:=Zc BK221.out 5;have p13:0≤(((rd_T77 l0 x10_1).f1):Int):=Zj z6_7;have q13:(((rd_T77 l0 x10_1).f1):Int)<((x3_1.length:Int):Int):=Zj z6_7;obtain⟨go13,co13,eo13,gb13,gl13,cl13,HG13⟩:=Kd.R_form HO_3.out (by omega);(first|cases eo13|(injection eo13 with ea_ en_ ec_;(first|subst ea_|(injection ea_ with ea_;subst ea_));subst ec_;clear en_));have GB13:=Za gb13;have GG13:=Za HG13;clear gb13 gl13 HG13;have HMgo13:=Za (show((P3_ go13∨P4_ go13)∨w.heap.size≤go13) from (HO_3.out.1 _ rfl).1);obtain⟨hx13_0,hf13_0⟩:=Kd.R_celln false HO_3.out (((rd_T77 l0 x10_1).f1):Int) p13 q13;replace p13:=eq_true p13;replace q13:=eq_true q13;obtain⟨hy22_,hz22_⟩:=Kd.R_celln false HO_3.out (((rd_T77 l0 x10_1).f1):Int) (Zj z6_7) (Zj z6_7);have HP22:=Kd.R_putg HO_3.out (((rd_T77 l0 x10_1).f1):Int) true)|((with_reducible refine Ym (t:=4) (p:=36) rfl ?_);refine Yl (t:=4) (p:=36) (v:= ?vo_w23) (w1:=(w20.setCell ⟨go13,(((rd_T77 l0 x10_1).f1):Int).toNat,none⟩ (.bool true))) ?hg ?ho ?hn ?hr ?_;(case ho=>rfl);(case hg=>rfl);(case hn=>rfl);(case hr=>exact z6_16);intro w23 hw;have hg:w20.grownBy w23 (some go13):=(by rw[hw];exact HP22.2);have hp_:Kd.R Kd.bool 4 w23 w0.heap.size (fun k_=>((P3_ k_∨P4_ k_)∨w.heap.size≤k_)∧some k_≠(.slice Ao18 x4_1.length co18:Value).ownBlock) (.slice (some ⟨go13,0,none⟩) x3_1.length co19) y223:=(by rw[hw,Ny223.out];exact HP22.1);clear HP22;replace HO_4:=Za (Kd.R_after (v:=(.slice (some ⟨go13,0,none⟩) x3_1.length co19)) (v1:=(.slice (some ⟨go13,0,none⟩) x3_1.length co19)) (ok:=(fun k_=>((P3_ k_∨P4_ k_)∨w.heap.size≤k_))) z6_10 hg (.inl rfl));replace BK221:=Za (blk_grown (g:=gb221) (o:= .cells #[.int .i64 ((rd_T77 l0 x10_1).f0),.int .i64 ((rd_T77 l0 x10_1).f1),.int .i64 ((rd_T77 l0 x10_1).f2),.int .i64 ((rd_T77 l0 x10_1).f3.f0),.int .i64 ((rd_T77 l0 x10_1).f3.f1),.int .i64 ((rd_T77 l0 x10_1).f3.f2)] 77 (0,0)) z6_11 hg (Kd.R_ne HO_3.out BK221.out (by decide)));replace HB:=Za ((by rw[hw];exact Zg (HB.out) GB13.out:Below w0.heap.size w0 w23));replace HK:=Za (Kept.of_grown (S:=(fun k_=>P3_ k_∨P4_ k_)) hg z6_4 (fun k_ e_=>(HO_3.out.1 k_ e_).1));replace HO_3:=Za (hp_);clear hg hw hp_))
         go_roundg k1
         case measure=>have:=HK1.out;omega
         case rel=>exact⟨(y223),(t222),(wrap64 (x10_1+1)),z6_13,H',⟨by have:=HK1.out;omega⟩,⟨by(with_reducible repeat(first|apply Zp|apply Zo|apply Zn));exact HO_3.out⟩,⟨by(with_reducible repeat(first|apply Zp|apply Zo|apply Zn));exact HO_4.out⟩,⟨by repeat(first|(with_reducible first|exact HK.out|apply Kept.alloc|apply Kept.drewN|apply Kept.drew|refine Kept.setCell ?_ (.inr GW221.out) _)|exact HK.out)⟩,⟨by repeat(first|(with_reducible first|exact HB.out|apply Zh|apply Ze|apply Zd|refine Zg ?_ GE221.out)|exact HB.out)⟩⟩
        ·rw[if_neg c12] at H
         exact absurd H (by simp)
       ·rw[if_neg c11] at H
        exact absurd H (by simp)
      ·rw[if_neg c9] at H
       have c9b0:(((rd_T77 l0 x10_1).f0)==1)=false:=beq_eq_false_iff_ne.mpr c9
       have c9b1:(((rd_T77 l0 x10_1).f0) != 1)=true:=bne_iff_ne.mpr c9
       by_cases c24:((rd_T77 l0 x10_1).f0)=2
       ·rw[if_pos c24] at H
        have c24b0:(((rd_T77 l0 x10_1).f0)==2)=true:=beq_iff_eq.mpr c24
        have c24b1:(((rd_T77 l0 x10_1).f0) != 2)=false:=bne_eq_false_iff_eq.mpr c24
        clear c24
        by_cases c25:0≤((rd_T77 l0 x10_1).f1)
        ·rw[if_pos c25] at H
         have c25b0:decide (0≤((rd_T77 l0 x10_1).f1))=true:=Zq c25
         clear c25
         by_cases c26:((rd_T77 l0 x10_1).f1)<(x3_1.length:Int)
         ·rw[if_pos c26] at H
          have c26b0:decide (((rd_T77 l0 x10_1).f1)<(x3_1.length:Int))=true:=Zq c26
          clear c26
          obtain⟨y224,hy224⟩:∃y_:List Bool,y_=(x3_1.set (((rd_T77 l0 x10_1).f1):Int).toNat true):=⟨_,rfl⟩
          replace H:(spec_l07Pass.l0 k1 l0 a2 y224 x4_1 (wrap64 (x10_1+1)))=some (r1,r2):=by first|(rw[hy224];with_reducible exact H)|(have H2_:=(Yk _ _).symm.trans H;rw[hy224];with_reducible exact H2_)|(have H2_:=(Yk _ _).symm.trans H;with_reducible exact H2_)|with_reducible exact H|(rw[hy224];exact H)|exact H
          have Ny224:=Za hy224
          clear hy224
          have H':=Za H
          clear H
          have p220:0≤(x10_1:Int):=Zj z6_7
          have q220:x10_1<(l0.length:Int):=Zj z6_7
          obtain⟨ad220,e220,hx220_0,hx220_1,hx220_2,hx220_3,hx220_4,hx220_5⟩:=at_T77 (Kd.C_kept_now HR0.out HK.out) x10_1 p220 q220
          cases e220
          replace p220:=eq_true p220
          replace q220:=eq_true q220
          go_wp2_with (first|((with_reducible refine Zr (N:=11) rfl ?_);refine Zs ?hg (N:=11) ?hd (cs:= #[.int .i64 0,.int .i64 0,.int .i64 0,.int .i64 0,.int .i64 0,.int .i64 0]) (t:=77) ?hr ?_;(case hd=>rfl);(case hg=>rfl);(case hr=>exact z6_16);intro gb221 hg w28 hbox hb;replace HO_3:=Za (Kd.R_below z6_6 hb);replace HO_4:=Za (Kd.R_below z6_10 hb);have BK221:=Za (hbox);have GW221:=Za ((z6_12:w.heap.size≤gb221));replace HK:=Za (Kept.below (S:=(fun k_=>P3_ k_∨P4_ k_)) z6_17 hb);have GE221:=Za ((z6_22:w0.heap.size≤gb221));replace HB:=Za (Zi z6_3 hb);clear hb hbox hg;have hcz29_0:w28.cell? ⟨gb221,0,none⟩=some (.int .i64 0):=(Zb BK221.out 0).trans rfl;have hcz29_1:w28.cell? ⟨gb221,1,none⟩=some (.int .i64 0):=(Zb BK221.out 1).trans rfl;have hcz29_2:w28.cell? ⟨gb221,2,none⟩=some (.int .i64 0):=(Zb BK221.out 2).trans rfl;have hcz29_3:w28.cell? ⟨gb221,3,none⟩=some (.int .i64 0):=(Zb BK221.out 3).trans rfl;have hcz29_4:w28.cell? ⟨gb221,4,none⟩=some (.int .i64 0):=(Zb BK221.out 4).trans rfl;have hcz29_5:w28.cell? ⟨gb221,5,none⟩=some (.int .i64 0):=(Zb BK221.out 5).trans rfl;have hfz29_0:=Zc BK221.out 0;have hfz29_1:=Zc BK221.out 1;have hfz29_2:=Zc BK221.out 2;have hfz29_3:=Zc BK221.out 3;have hfz29_4:=Zc BK221.out 4;have hfz29_5:=Zc BK221.out 5)|((with_reducible refine Ym (t:=77) (p:=11) rfl ?_);refine Yl (t:=77) (p:=11) (v:= ?vo_w30) (w1:=((((((w28.setCell ⟨gb221,0,none⟩ (.int .i64 ((rd_T77 l0 x10_1).f0))).setCell ⟨gb221,1,none⟩ (.int .i64 ((rd_T77 l0 x10_1).f1))).setCell ⟨gb221,2,none⟩ (.int .i64 ((rd_T77 l0 x10_1).f2))).setCell ⟨gb221,3,none⟩ (.int .i64 ((rd_T77 l0 x10_1).f3.f0))).setCell ⟨gb221,4,none⟩ (.int .i64 ((rd_T77 l0 x10_1).f3.f1))).setCell ⟨gb221,5,none⟩ (.int .i64 ((rd_T77 l0 x10_1).f3.f2)))) ?hg ?ho ?hn ?hr ?_;(case ho=>rfl);(case hg=>rfl);(case hn=>rfl);(case hr=>exact z6_16);intro w30 hw;have n0_:Aside0 (Kd.R Kd.bool 4 w30 w0.heap.size (fun k_=>((P3_ k_∨P4_ k_)∨w.heap.size≤k_)∧some k_≠(u9001_:Value).ownBlock) u9000_ x3_1):=⟨z6_2⟩;have n1_:Aside0 (Kd.R Kd.bool 4 w30 w0.heap.size (fun k_=>((P3_ k_∨P4_ k_)∨w.heap.size≤k_)∧some k_≠(u9000_:Value).ownBlock) u9001_ x4_1):=⟨z6_1⟩;have n2_:Aside0 (w30.heap[gb221]? =some (.cells #[.int .i64 ((rd_T77 l0 x10_1).f0),.int .i64 ((rd_T77 l0 x10_1).f1),.int .i64 ((rd_T77 l0 x10_1).f2),.int .i64 ((rd_T77 l0 x10_1).f3.f0),.int .i64 ((rd_T77 l0 x10_1).f3.f1),.int .i64 ((rd_T77 l0 x10_1).f3.f2)] 77 (0,0))):=⟨z6_0⟩;have n3_:Aside0 (Kept w w30 (fun k_=>P3_ k_∨P4_ k_)):=⟨(by rw[hw];exact z6_4)⟩;have n4_:Aside0 (Below w0.heap.size w0 w30):=⟨(by rw[hw];exact z6_5)⟩;clear hw;clear HO_3;clear HO_4;clear BK221;clear HK;clear HB;have HO_3:=n0_;have HO_4:=n1_;have BK221:=n2_;have HK:=n3_;have HB:=n4_;clear n0_ n1_ n2_ n3_ n4_;have hcz31_0:w30.cell? ⟨gb221,0,none⟩=some (.int .i64 ((rd_T77 l0 x10_1).f0)):=(Zb BK221.out 0).trans rfl;have hcz31_1:w30.cell? ⟨gb221,1,none⟩=some (.int .i64 ((rd_T77 l0 x10_1).f1)):=(Zb BK221.out 1).trans rfl;have hcz31_2:w30.cell? ⟨gb221,2,none⟩=some (.int .i64 ((rd_T77 l0 x10_1).f2)):=(Zb BK221.out 2).trans rfl;have hcz31_3:w30.cell? ⟨gb221,3,none⟩=some (.int .i64 ((rd_T77 l0 x10_1).f3.f0)):=(Zb BK221.out 3).trans rfl;have hcz31_4:w30.cell? ⟨gb221,4,none⟩=some (.int .i64 ((rd_T77 l0 x10_1).f3.f1)):=(Zb BK221.out 4).trans rfl;have hcz31_5:w30.cell? ⟨gb221,5,none⟩=some (.int .i64 ((rd_T77 l0 x10_1).f3.f2)):=(Zb BK221.out 5).trans rfl;have hfz31_0:=Zc BK221.out 0;have hfz31_1:=Zc BK221.out 1;have hfz31_2:=Zc BK221.out 2;have hfz31_3:=Zc BK221.out 3;have hfz31_4:=Zc BK221.out 4;have hfz31_5:=Zc BK221.out 5;have p27:0≤(((rd_T77 l0 x10_1).f1):Int):=Zj z6_7;have q27:(((rd_T77 l0 x10_1).f1):Int)<((x3_1.length:Int):Int):=Zj z6_7;obtain⟨go27,co27,eo27,gb27,gl27,cl27,HG27⟩:=Kd.R_form HO_3.out (by omega);(first|cases eo27|(injection eo27 with ea_ en_ ec_;(first|subst ea_|(injection ea_ with ea_;subst ea_));subst ec_;clear en_));have GB27:=Za gb27;have GG27:=Za HG27;clear gb27 gl27 HG27;have HMgo27:=Za (show((P3_ go27∨P4_ go27)∨w.heap.size≤go27) from (HO_3.out.1 _ rfl).1);obtain⟨hx27_0,hf27_0⟩:=Kd.R_celln false HO_3.out (((rd_T77 l0 x10_1).f1):Int) p27 q27;replace p27:=eq_true p27;replace q27:=eq_true q27;obtain⟨hy32_,hz32_⟩:=Kd.R_celln false HO_3.out (((rd_T77 l0 x10_1).f1):Int) (Zj z6_7) (Zj z6_7);have HP32:=Kd.R_putg HO_3.out (((rd_T77 l0 x10_1).f1):Int) true)|((with_reducible refine Ym (t:=4) (p:=42) rfl ?_);refine Yl (t:=4) (p:=42) (v:= ?vo_w33) (w1:=(w30.setCell ⟨go27,(((rd_T77 l0 x10_1).f1):Int).toNat,none⟩ (.bool true))) ?hg ?ho ?hn ?hr ?_;(case ho=>rfl);(case hg=>rfl);(case hn=>rfl);(case hr=>exact z6_16);intro w33 hw;have hg:w30.grownBy w33 (some go27):=(by rw[hw];exact HP32.2);have hp_:Kd.R Kd.bool 4 w33 w0.heap.size (fun k_=>((P3_ k_∨P4_ k_)∨w.heap.size≤k_)∧some k_≠(u9001_:Value).ownBlock) (.slice (some ⟨go27,0,none⟩) x3_1.length co27) y224:=(by rw[hw,Ny224.out];exact HP32.1);clear HP32;replace HO_4:=Za (Kd.R_after (v:=(.slice (some ⟨go27,0,none⟩) x3_1.length co27)) (v1:=(.slice (some ⟨go27,0,none⟩) x3_1.length co27)) (ok:=(fun k_=>((P3_ k_∨P4_ k_)∨w.heap.size≤k_))) z6_10 hg (.inl rfl));replace BK221:=Za (blk_grown (g:=gb221) (o:= .cells #[.int .i64 ((rd_T77 l0 x10_1).f0),.int .i64 ((rd_T77 l0 x10_1).f1),.int .i64 ((rd_T77 l0 x10_1).f2),.int .i64 ((rd_T77 l0 x10_1).f3.f0),.int .i64 ((rd_T77 l0 x10_1).f3.f1),.int .i64 ((rd_T77 l0 x10_1).f3.f2)] 77 (0,0)) z6_11 hg (Kd.R_ne HO_3.out BK221.out (by decide)));replace HB:=Za ((by rw[hw];exact Zg (HB.out) GB27.out:Below w0.heap.size w0 w33));replace HK:=Za (Kept.of_grown (S:=(fun k_=>P3_ k_∨P4_ k_)) hg z6_4 (fun k_ e_=>(HO_3.out.1 k_ e_).1));replace HO_3:=Za (hp_);clear hg hw hp_))
          go_roundg k1
          case measure=>have:=HK1.out;omega
          case rel=>exact⟨(y224),(x4_1),(wrap64 (x10_1+1)),z6_13,H',⟨by have:=HK1.out;omega⟩,⟨by(with_reducible repeat(first|apply Zp|apply Zo|apply Zn));exact HO_3.out⟩,⟨by(with_reducible repeat(first|apply Zp|apply Zo|apply Zn));exact HO_4.out⟩,⟨by repeat(first|(with_reducible first|exact HK.out|apply Kept.alloc|apply Kept.drewN|apply Kept.drew|refine Kept.setCell ?_ (.inr GW221.out) _)|exact HK.out)⟩,⟨by repeat(first|(with_reducible first|exact HB.out|apply Zh|apply Ze|apply Zd|refine Zg ?_ GE221.out)|exact HB.out)⟩⟩
         ·rw[if_neg c26] at H
          exact absurd H (by simp)
        ·rw[if_neg c25] at H
         exact absurd H (by simp)
       ·rw[if_neg c24] at H
        have c24b0:(((rd_T77 l0 x10_1).f0)==2)=false:=beq_eq_false_iff_ne.mpr c24
        have c24b1:(((rd_T77 l0 x10_1).f0) != 2)=true:=bne_iff_ne.mpr c24
        by_cases c34:((rd_T77 l0 x10_1).f0)=3
        ·rw[if_pos c34] at H
         have c34b0:(((rd_T77 l0 x10_1).f0)==3)=true:=beq_iff_eq.mpr c34
         have c34b1:(((rd_T77 l0 x10_1).f0) != 3)=false:=bne_eq_false_iff_eq.mpr c34
         clear c34
         replace H:=Zl H
         obtain⟨t225,A350,H⟩:=H
         replace H:(spec_l07Pass.l0 k1 l0 a2 x3_1 t225 (wrap64 (x10_1+1)))=some (r1,r2):=H
         have A35:=Za A350
         clear A350
         have H':=Za H
         clear H
         have p220:0≤(x10_1:Int):=Zj z6_7
         have q220:x10_1<(l0.length:Int):=Zj z6_7
         obtain⟨ad220,e220,hx220_0,hx220_1,hx220_2,hx220_3,hx220_4,hx220_5⟩:=at_T77 (Kd.C_kept_now HR0.out HK.out) x10_1 p220 q220
         cases e220
         replace p220:=eq_true p220
         replace q220:=eq_true q220
         go_wp2_with (first|((with_reducible refine Zr (N:=11) rfl ?_);refine Zs ?hg (N:=11) ?hd (cs:= #[.int .i64 0,.int .i64 0,.int .i64 0,.int .i64 0,.int .i64 0,.int .i64 0]) (t:=77) ?hr ?_;(case hd=>rfl);(case hg=>rfl);(case hr=>exact z6_16);intro gb221 hg w36 hbox hb;replace HO_3:=Za (Kd.R_below z6_6 hb);replace HO_4:=Za (Kd.R_below z6_10 hb);have BK221:=Za (hbox);have GW221:=Za ((z6_12:w.heap.size≤gb221));replace HK:=Za (Kept.below (S:=(fun k_=>P3_ k_∨P4_ k_)) z6_17 hb);have GE221:=Za ((z6_22:w0.heap.size≤gb221));replace HB:=Za (Zi z6_3 hb);clear hb hbox hg;have hcz37_0:w36.cell? ⟨gb221,0,none⟩=some (.int .i64 0):=(Zb BK221.out 0).trans rfl;have hcz37_1:w36.cell? ⟨gb221,1,none⟩=some (.int .i64 0):=(Zb BK221.out 1).trans rfl;have hcz37_2:w36.cell? ⟨gb221,2,none⟩=some (.int .i64 0):=(Zb BK221.out 2).trans rfl;have hcz37_3:w36.cell? ⟨gb221,3,none⟩=some (.int .i64 0):=(Zb BK221.out 3).trans rfl;have hcz37_4:w36.cell? ⟨gb221,4,none⟩=some (.int .i64 0):=(Zb BK221.out 4).trans rfl;have hcz37_5:w36.cell? ⟨gb221,5,none⟩=some (.int .i64 0):=(Zb BK221.out 5).trans rfl;have hfz37_0:=Zc BK221.out 0;have hfz37_1:=Zc BK221.out 1;have hfz37_2:=Zc BK221.out 2;have hfz37_3:=Zc BK221.out 3;have hfz37_4:=Zc BK221.out 4;have hfz37_5:=Zc BK221.out 5)|((with_reducible refine Ym (t:=77) (p:=11) rfl ?_);refine Yl (t:=77) (p:=11) (v:= ?vo_w38) (w1:=((((((w36.setCell ⟨gb221,0,none⟩ (.int .i64 ((rd_T77 l0 x10_1).f0))).setCell ⟨gb221,1,none⟩ (.int .i64 ((rd_T77 l0 x10_1).f1))).setCell ⟨gb221,2,none⟩ (.int .i64 ((rd_T77 l0 x10_1).f2))).setCell ⟨gb221,3,none⟩ (.int .i64 ((rd_T77 l0 x10_1).f3.f0))).setCell ⟨gb221,4,none⟩ (.int .i64 ((rd_T77 l0 x10_1).f3.f1))).setCell ⟨gb221,5,none⟩ (.int .i64 ((rd_T77 l0 x10_1).f3.f2)))) ?hg ?ho ?hn ?hr ?_;(case ho=>rfl);(case hg=>rfl);(case hn=>rfl);(case hr=>exact z6_16);intro w38 hw;have n0_:Aside0 (Kd.R Kd.bool 4 w38 w0.heap.size (fun k_=>((P3_ k_∨P4_ k_)∨w.heap.size≤k_)∧some k_≠(u9001_:Value).ownBlock) u9000_ x3_1):=⟨z6_2⟩;have n1_:Aside0 (Kd.R Kd.bool 4 w38 w0.heap.size (fun k_=>((P3_ k_∨P4_ k_)∨w.heap.size≤k_)∧some k_≠(u9000_:Value).ownBlock) u9001_ x4_1):=⟨z6_1⟩;have n2_:Aside0 (w38.heap[gb221]? =some (.cells #[.int .i64 ((rd_T77 l0 x10_1).f0),.int .i64 ((rd_T77 l0 x10_1).f1),.int .i64 ((rd_T77 l0 x10_1).f2),.int .i64 ((rd_T77 l0 x10_1).f3.f0),.int .i64 ((rd_T77 l0 x10_1).f3.f1),.int .i64 ((rd_T77 l0 x10_1).f3.f2)] 77 (0,0))):=⟨z6_0⟩;have n3_:Aside0 (Kept w w38 (fun k_=>P3_ k_∨P4_ k_)):=⟨(by rw[hw];exact z6_4)⟩;have n4_:Aside0 (Below w0.heap.size w0 w38):=⟨(by rw[hw];exact z6_5)⟩;clear hw;clear HO_3;clear HO_4;clear BK221;clear HK;clear HB;have HO_3:=n0_;have HO_4:=n1_;have BK221:=n2_;have HK:=n3_;have HB:=n4_;clear n0_ n1_ n2_ n3_ n4_;have hcz39_0:w38.cell? ⟨gb221,0,none⟩=some (.int .i64 ((rd_T77 l0 x10_1).f0)):=(Zb BK221.out 0).trans rfl;have hcz39_1:w38.cell? ⟨gb221,1,none⟩=some (.int .i64 ((rd_T77 l0 x10_1).f1)):=(Zb BK221.out 1).trans rfl;have hcz39_2:w38.cell? ⟨gb221,2,none⟩=some (.int .i64 ((rd_T77 l0 x10_1).f2)):=(Zb BK221.out 2).trans rfl;have hcz39_3:w38.cell? ⟨gb221,3,none⟩=some (.int .i64 ((rd_T77 l0 x10_1).f3.f0)):=(Zb BK221.out 3).trans rfl;have hcz39_4:w38.cell? ⟨gb221,4,none⟩=some (.int .i64 ((rd_T77 l0 x10_1).f3.f1)):=(Zb BK221.out 4).trans rfl;have hcz39_5:w38.cell? ⟨gb221,5,none⟩=some (.int .i64 ((rd_T77 l0 x10_1).f3.f2)):=(Zb BK221.out 5).trans rfl;have hfz39_0:=Zc BK221.out 0;have hfz39_1:=Zc BK221.out 1;have hfz39_2:=Zc BK221.out 2;have hfz39_3:=Zc BK221.out 3;have hfz39_4:=Zc BK221.out 4;have hfz39_5:=Zc BK221.out 5;obtain⟨Ao40,co40,eo40⟩:=Yp HO_4.out;subst eo40;obtain⟨Ao41,co41,eo41⟩:=Yp HO_3.out;subst eo41)|((first|((with_reducible refine gate_callee (f:=84) rfl ?_);refine goesL_ (some 49) rfl rfl Tryz.func84 (by kernel_rfl) rfl #[.slice Ao40 x4_1.length co40,.slice Ao41 x3_1.length co41,.agg #[.int .i64 ((rd_T77 l0 x10_1).f3.f0),.int .i64 ((rd_T77 l0 x10_1).f3.f1),.int .i64 ((rd_T77 l0 x10_1).f3.f2)]] rfl z6_9 ?_;(with_reducible refine(spec_l07Note.calls k1 (fun k_=>some k_=(.slice Ao40 x4_1.length co40:Value).ownBlock) (.slice Ao40 x4_1.length co40) x4_1 _ _ x3_1 ((rd_T77 l0 x10_1).f3.f0) ((rd_T77 l0 x10_1).f3.f1) ((rd_T77 l0 x10_1).f3.f2) t225 w0 _ ?side1 ?side2 ?side3 ?side4 A35.out).mono ?_))|(go_at_call 84;(with_reducible refine(spec_l07Note.calls k1 (fun k_=>some k_=(.slice Ao40 x4_1.length co40:Value).ownBlock) (.slice Ao40 x4_1.length co40) x4_1 _ _ x3_1 ((rd_T77 l0 x10_1).f3.f0) ((rd_T77 l0 x10_1).f3.f1) ((rd_T77 l0 x10_1).f3.f2) t225 w0 _ ?side1 ?side2 ?side3 ?side4 A35.out).mono ?_)));(case side1=>exact z6_5);(case side2=>exact Kd.R_tight rfl HO_4.out);(case side3=>exact z6_19);(case side4=>exact(Yd HO_3.out).2.1);rintro e w42 ⟨rfl,hy0,hb,hkp⟩;(first|refine⟨_,rfl,?_⟩|skip);replace HO_3:=Za (Yf (ok':=fun k_=>((P3_ k_∨P4_ k_)∨w.heap.size≤k_)∧some k_≠(.slice Ao40 x4_1.length co40:Value).ownBlock) (Kd.R_keptB (HO_3.out) hkp (fun k_ hk_ hs_=>(hk_.2) hs_)) (fun k_ hk_=>⟨hk_.1.1,hk_.1.2⟩));replace BK221:=Za (blk_kept z6_11 hkp (fun hs_=>(fun e_=>(Kd.R_ne HO_4.out BK221.out (by decide)) e_) hs_));replace HK:=Za (Kept.then_ (S:=(fun k_=>P3_ k_∨P4_ k_)) z6_4 hkp (fun k_ hs_=>(fun e_=>(HO_4.out.1 k_ e_.symm).1) hs_));replace HO_4:=Za (Kd.R_reok rfl hy0 (fun k_ e_=>HO_4.out.1 k_ e_));replace HB:=Za (hb);(try clear hb);(try clear hkp);(try clear hy0)))
         go_roundg k1
         case measure=>have:=HK1.out;omega
         case rel=>exact⟨(x3_1),(t225),(wrap64 (x10_1+1)),z6_13,H',⟨by have:=HK1.out;omega⟩,⟨by(with_reducible repeat(first|apply Zp|apply Zo|apply Zn));exact HO_3.out⟩,⟨by(with_reducible repeat(first|apply Zp|apply Zo|apply Zn));exact HO_4.out⟩,⟨by repeat(first|(with_reducible first|exact HK.out|apply Kept.alloc|apply Kept.drewN|apply Kept.drew|refine Kept.setCell ?_ (.inr GW221.out) _)|exact HK.out)⟩,⟨by repeat(first|(with_reducible first|exact HB.out|apply Zh|apply Ze|apply Zd|refine Zg ?_ GE221.out)|exact HB.out)⟩⟩
        ·rw[if_neg c34] at H
         have c34b0:(((rd_T77 l0 x10_1).f0)==3)=false:=beq_eq_false_iff_ne.mpr c34
         have c34b1:(((rd_T77 l0 x10_1).f0) != 3)=true:=bne_iff_ne.mpr c34
         by_cases c43:((rd_T77 l0 x10_1).f0)=4
         ·rw[if_pos c43] at H
          have c43b0:(((rd_T77 l0 x10_1).f0)==4)=true:=beq_iff_eq.mpr c43
          have c43b1:(((rd_T77 l0 x10_1).f0) != 4)=false:=bne_eq_false_iff_eq.mpr c43
          clear c43
          replace H:=Zl H
          obtain⟨t226,A440,H⟩:=H
          replace H:((spec_l05End.f k1 l0 x10_1).bind fun t227=>((some (([]:List Bool):List Bool)).bind fun y228=>(if y228.length+x3_1.length<140737488355328 then ((spec_l07Pass.f k1 l0 (wrap64 (x10_1+1)) t227 (y228++x3_1) t226).bind fun bt234=>(spec_l07Pass.l0 k1 l0 a2 x3_1 bt234.2 (wrap64 (t227+1)))) else (none))))=some (r1,r2):=H
          have A44:=Za A440
          clear A440
          replace H:=Zl H
          obtain⟨t227,A450,H⟩:=H
          replace H:((some (([]:List Bool):List Bool)).bind fun y228=>(if y228.length+x3_1.length<140737488355328 then ((spec_l07Pass.f k1 l0 (wrap64 (x10_1+1)) t227 (y228++x3_1) t226).bind fun bt234=>(spec_l07Pass.l0 k1 l0 a2 x3_1 bt234.2 (wrap64 (t227+1)))) else (none)))=some (r1,r2):=H
          have A45:=Za A450
          clear A450
          obtain⟨y228,hy228⟩:∃y_:List Bool,y_=(([]:List Bool)):=⟨_,rfl⟩
          replace H:(if y228.length+x3_1.length<140737488355328 then ((spec_l07Pass.f k1 l0 (wrap64 (x10_1+1)) t227 (y228++x3_1) t226).bind fun bt234=>(spec_l07Pass.l0 k1 l0 a2 x3_1 bt234.2 (wrap64 (t227+1)))) else (none))=some (r1,r2):=by first|(rw[hy228];with_reducible exact H)|(have H2_:=(Yk _ _).symm.trans H;rw[hy228];with_reducible exact H2_)|(have H2_:=(Yk _ _).symm.trans H;with_reducible exact H2_)|with_reducible exact H|(rw[hy228];exact H)|exact H
          have Ny228:=Za hy228
          clear hy228
          by_cases c46:y228.length+x3_1.length<140737488355328
          ·rw[if_pos c46] at H
           have LMc46:=Za c46
           clear c46
           obtain⟨y231,hy231⟩:∃y_:List Bool,y_=(y228++x3_1):=⟨_,rfl⟩
           replace H:((spec_l07Pass.f k1 l0 (wrap64 (x10_1+1)) t227 y231 t226).bind fun bt234=>(spec_l07Pass.l0 k1 l0 a2 x3_1 bt234.2 (wrap64 (t227+1))))=some (r1,r2):=by first|(rw[hy231];with_reducible exact H)|(have H2_:=(Yk _ _).symm.trans H;rw[hy231];with_reducible exact H2_)|(have H2_:=(Yk _ _).symm.trans H;with_reducible exact H2_)|with_reducible exact H|(rw[hy231];exact H)|exact H
           have Ny231:=Za hy231
           clear hy231
           replace H:=Zl H
           obtain⟨⟨t234,t235⟩,A470,H⟩:=H
           replace H:(spec_l07Pass.l0 k1 l0 a2 x3_1 t235 (wrap64 (t227+1)))=some (r1,r2):=H
           have A47:=Za A470
           clear A470
           have H':=Za H
           clear H
           have p220:0≤(x10_1:Int):=Zj z6_7
           have q220:x10_1<(l0.length:Int):=Zj z6_7
           obtain⟨ad220,e220,hx220_0,hx220_1,hx220_2,hx220_3,hx220_4,hx220_5⟩:=at_T77 (Kd.C_kept_now HR0.out HK.out) x10_1 p220 q220
           cases e220
           replace p220:=eq_true p220
           replace q220:=eq_true q220
           go_wp2_with (first|((with_reducible refine Zr (N:=11) rfl ?_);refine Zs ?hg (N:=11) ?hd (cs:= #[.int .i64 0,.int .i64 0,.int .i64 0,.int .i64 0,.int .i64 0,.int .i64 0]) (t:=77) ?hr ?_;(case hd=>rfl);(case hg=>rfl);(case hr=>exact z6_16);intro gb221 hg w48 hbox hb;replace HO_3:=Za (Kd.R_below z6_6 hb);replace HO_4:=Za (Kd.R_below z6_10 hb);have BK221:=Za (hbox);have GW221:=Za ((z6_12:w.heap.size≤gb221));replace HK:=Za (Kept.below (S:=(fun k_=>P3_ k_∨P4_ k_)) z6_17 hb);have GE221:=Za ((z6_22:w0.heap.size≤gb221));replace HB:=Za (Zi z6_3 hb);clear hb hbox hg;have hcz49_0:w48.cell? ⟨gb221,0,none⟩=some (.int .i64 0):=(Zb BK221.out 0).trans rfl;have hcz49_1:w48.cell? ⟨gb221,1,none⟩=some (.int .i64 0):=(Zb BK221.out 1).trans rfl;have hcz49_2:w48.cell? ⟨gb221,2,none⟩=some (.int .i64 0):=(Zb BK221.out 2).trans rfl;have hcz49_3:w48.cell? ⟨gb221,3,none⟩=some (.int .i64 0):=(Zb BK221.out 3).trans rfl;have hcz49_4:w48.cell? ⟨gb221,4,none⟩=some (.int .i64 0):=(Zb BK221.out 4).trans rfl;have hcz49_5:w48.cell? ⟨gb221,5,none⟩=some (.int .i64 0):=(Zb BK221.out 5).trans rfl;have hfz49_0:=Zc BK221.out 0;have hfz49_1:=Zc BK221.out 1;have hfz49_2:=Zc BK221.out 2;have hfz49_3:=Zc BK221.out 3;have hfz49_4:=Zc BK221.out 4;have hfz49_5:=Zc BK221.out 5)|((with_reducible refine Ym (t:=77) (p:=11) rfl ?_);refine Yl (t:=77) (p:=11) (v:= ?vo_w50) (w1:=((((((w48.setCell ⟨gb221,0,none⟩ (.int .i64 ((rd_T77 l0 x10_1).f0))).setCell ⟨gb221,1,none⟩ (.int .i64 ((rd_T77 l0 x10_1).f1))).setCell ⟨gb221,2,none⟩ (.int .i64 ((rd_T77 l0 x10_1).f2))).setCell ⟨gb221,3,none⟩ (.int .i64 ((rd_T77 l0 x10_1).f3.f0))).setCell ⟨gb221,4,none⟩ (.int .i64 ((rd_T77 l0 x10_1).f3.f1))).setCell ⟨gb221,5,none⟩ (.int .i64 ((rd_T77 l0 x10_1).f3.f2)))) ?hg ?ho ?hn ?hr ?_;(case ho=>rfl);(case hg=>rfl);(case hn=>rfl);(case hr=>exact z6_16);intro w50 hw;have n0_:Aside0 (Kd.R Kd.bool 4 w50 w0.heap.size (fun k_=>((P3_ k_∨P4_ k_)∨w.heap.size≤k_)∧some k_≠(u9001_:Value).ownBlock) u9000_ x3_1):=⟨z6_2⟩;have n1_:Aside0 (Kd.R Kd.bool 4 w50 w0.heap.size (fun k_=>((P3_ k_∨P4_ k_)∨w.heap.size≤k_)∧some k_≠(u9000_:Value).ownBlock) u9001_ x4_1):=⟨z6_1⟩;have n2_:Aside0 (w50.heap[gb221]? =some (.cells #[.int .i64 ((rd_T77 l0 x10_1).f0),.int .i64 ((rd_T77 l0 x10_1).f1),.int .i64 ((rd_T77 l0 x10_1).f2),.int .i64 ((rd_T77 l0 x10_1).f3.f0),.int .i64 ((rd_T77 l0 x10_1).f3.f1),.int .i64 ((rd_T77 l0 x10_1).f3.f2)] 77 (0,0))):=⟨z6_0⟩;have n3_:Aside0 (Kept w w50 (fun k_=>P3_ k_∨P4_ k_)):=⟨(by rw[hw];exact z6_4)⟩;have n4_:Aside0 (Below w0.heap.size w0 w50):=⟨(by rw[hw];exact z6_5)⟩;clear hw;clear HO_3;clear HO_4;clear BK221;clear HK;clear HB;have HO_3:=n0_;have HO_4:=n1_;have BK221:=n2_;have HK:=n3_;have HB:=n4_;clear n0_ n1_ n2_ n3_ n4_;have hcz51_0:w50.cell? ⟨gb221,0,none⟩=some (.int .i64 ((rd_T77 l0 x10_1).f0)):=(Zb BK221.out 0).trans rfl;have hcz51_1:w50.cell? ⟨gb221,1,none⟩=some (.int .i64 ((rd_T77 l0 x10_1).f1)):=(Zb BK221.out 1).trans rfl;have hcz51_2:w50.cell? ⟨gb221,2,none⟩=some (.int .i64 ((rd_T77 l0 x10_1).f2)):=(Zb BK221.out 2).trans rfl;have hcz51_3:w50.cell? ⟨gb221,3,none⟩=some (.int .i64 ((rd_T77 l0 x10_1).f3.f0)):=(Zb BK221.out 3).trans rfl;have hcz51_4:w50.cell? ⟨gb221,4,none⟩=some (.int .i64 ((rd_T77 l0 x10_1).f3.f1)):=(Zb BK221.out 4).trans rfl;have hcz51_5:w50.cell? ⟨gb221,5,none⟩=some (.int .i64 ((rd_T77 l0 x10_1).f3.f2)):=(Zb BK221.out 5).trans rfl;have hfz51_0:=Zc BK221.out 0;have hfz51_1:=Zc BK221.out 1;have hfz51_2:=Zc BK221.out 2;have hfz51_3:=Zc BK221.out 3;have hfz51_4:=Zc BK221.out 4;have hfz51_5:=Zc BK221.out 5;obtain⟨Ao52,co52,eo52⟩:=Yp HO_4.out;subst eo52;obtain⟨Ao53,co53,eo53⟩:=Yp HO_3.out;subst eo53)|((first|((with_reducible refine gate_callee (f:=84) rfl ?_);refine goesL_ (some 56) rfl rfl Tryz.func84 (by kernel_rfl) rfl #[.slice Ao52 x4_1.length co52,.slice Ao53 x3_1.length co53,.agg #[.int .i64 ((rd_T77 l0 x10_1).f3.f0),.int .i64 ((rd_T77 l0 x10_1).f3.f1),.int .i64 ((rd_T77 l0 x10_1).f3.f2)]] rfl z6_9 ?_;(with_reducible refine(spec_l07Note.calls k1 (fun k_=>some k_=(.slice Ao52 x4_1.length co52:Value).ownBlock) (.slice Ao52 x4_1.length co52) x4_1 _ _ x3_1 ((rd_T77 l0 x10_1).f3.f0) ((rd_T77 l0 x10_1).f3.f1) ((rd_T77 l0 x10_1).f3.f2) t226 w0 _ ?side1 ?side2 ?side3 ?side4 A44.out).mono ?_))|(go_at_call 84;(with_reducible refine(spec_l07Note.calls k1 (fun k_=>some k_=(.slice Ao52 x4_1.length co52:Value).ownBlock) (.slice Ao52 x4_1.length co52) x4_1 _ _ x3_1 ((rd_T77 l0 x10_1).f3.f0) ((rd_T77 l0 x10_1).f3.f1) ((rd_T77 l0 x10_1).f3.f2) t226 w0 _ ?side1 ?side2 ?side3 ?side4 A44.out).mono ?_)));(case side1=>exact z6_5);(case side2=>exact Kd.R_tight rfl HO_4.out);(case side3=>exact z6_19);(case side4=>exact(Yd HO_3.out).2.1);rintro e w54 ⟨rfl,hy0,hb,hkp⟩;(first|refine⟨_,rfl,?_⟩|skip);replace HO_3:=Za (Yf (ok':=fun k_=>((P3_ k_∨P4_ k_)∨w.heap.size≤k_)∧some k_≠(.slice Ao52 x4_1.length co52:Value).ownBlock) (Kd.R_keptB (HO_3.out) hkp (fun k_ hk_ hs_=>(hk_.2) hs_)) (fun k_ hk_=>⟨hk_.1.1,hk_.1.2⟩));replace BK221:=Za (blk_kept z6_11 hkp (fun hs_=>(fun e_=>(Kd.R_ne HO_4.out BK221.out (by decide)) e_) hs_));replace HK:=Za (Kept.then_ (S:=(fun k_=>P3_ k_∨P4_ k_)) z6_4 hkp (fun k_ hs_=>(fun e_=>(HO_4.out.1 k_ e_.symm).1) hs_));replace HO_4:=Za (Kd.R_reok rfl hy0 (fun k_ e_=>HO_4.out.1 k_ e_));replace HB:=Za (hb);(try clear hb);(try clear hkp);(try clear hy0))|((first|((with_reducible refine gate_callee (f:=82) rfl ?_);refine goesL_ (some 59) rfl rfl Tryz.func82 (by kernel_rfl) rfl #[.slice (some ad220) l0.length c0,.int .i64 x10_1] rfl z6_9 ?_;(with_reducible refine(spec_l05End.calls k1 _ _ l0 x10_1 t227 _ ?side1 ?side2 A45.out).mono ?_))|(go_at_call 82;(with_reducible refine(spec_l05End.calls k1 _ _ l0 x10_1 t227 _ ?side1 ?side2 A45.out).mono ?_)));(case side1=>exact Kd.C_kept_now HR0.out z6_4);(case side2=>exact HC0.out);rintro e w55 ⟨rfl,hb⟩;(first|refine⟨_,rfl,?_⟩|skip);replace HO_3:=Za (Kd.R_below z6_6 hb);replace HO_4:=Za (Kd.R_below z6_10 hb);replace BK221:=Za (Zk (g:=gb221) (o:= .cells #[.int .i64 ((rd_T77 l0 x10_1).f0),.int .i64 ((rd_T77 l0 x10_1).f1),.int .i64 ((rd_T77 l0 x10_1).f2),.int .i64 ((rd_T77 l0 x10_1).f3.f0),.int .i64 ((rd_T77 l0 x10_1).f3.f1),.int .i64 ((rd_T77 l0 x10_1).f3.f2)] 77 (0,0)) z6_11 hb);replace HK:=Za (Kept.below (S:=(fun k_=>P3_ k_∨P4_ k_)) z6_4 hb);replace HB:=Za (Zi z6_5 hb);(try clear hb);(try clear hb2);(try clear hk);(try clear hi))|((with_reducible refine Zr (N:=64) rfl ?_);refine Kd.R_lit Kd.bool _ 4 ?hg (N:=64) ?hd (xs:=([]:List Bool)) (inner:=[]) (ok:=fun _=>True) (okp:=fun _=>True) ?hr ?hp (fun _ hk=>hk) trivial (Yc _ _) (Nat.le_refl _) (by simp) ?_;(case hd=>rfl);(case hg=>rfl);(case hr=>exact z6_16);(case hp=>exact(Reps.none _ _));intro v229 w56 ho57 hb hg_ hnew_;clear hg_ hnew_;(first|rw[←Ny228.out] at ho57|(simp only[Int.reduceToNat] at ho57;rw[←Ny228.out] at ho57));have HO230:=Za (Yq (Kd.R_new' (Kd.R_new' (Kd.R_newM (M:=fun k_=>((P3_ k_∨P4_ k_)∨w.heap.size≤k_)) ho57 z6_21 (fun k_ h_=> .inr h_)) (Kd.R_lt z6_6)) (Kd.R_lt z6_10)) (Zt z6_5));replace HO_3:=Za (Yr z6_6 (Yo ho57) hb);replace HO_4:=Za (Yr z6_10 (Yo ho57) hb);replace BK221:=Za (Zk (g:=gb221) (o:= .cells #[.int .i64 ((rd_T77 l0 x10_1).f0),.int .i64 ((rd_T77 l0 x10_1).f1),.int .i64 ((rd_T77 l0 x10_1).f2),.int .i64 ((rd_T77 l0 x10_1).f3.f0),.int .i64 ((rd_T77 l0 x10_1).f3.f1),.int .i64 ((rd_T77 l0 x10_1).f3.f2)] 77 (0,0)) z6_11 hb);replace HK:=Za (Kept.below (S:=(fun k_=>P3_ k_∨P4_ k_)) z6_4 hb);replace HB:=Za (Zi z6_5 hb);clear hb ho57)|((with_reducible refine gate_builtin (b:= .append) (xs:= #[.tmp 64,.tmp 65]) rfl ?_);at_builtin;refine Kd.R_append_rows Kd.bool (w0:=w0) w0.heap.size rfl (.tmp 64) (.tmp 65) 73 4 (.bool false) 1 rfl Tryz.underlying73 info4 rfl (by decide) (by omega) v229 y228 x3_1 _ _ _ (fun k_=>((P3_ k_∨P4_ k_)∨w.heap.size≤k_)∧some k_≠(.slice Ao53 x3_1.length co53:Value).ownBlock∧some k_≠(.slice Ao52 x4_1.length co52:Value).ownBlock) (fun _=>False) rfl rfl ?aO ?aR (fun _ _ h=>h) (fun _ h=>h.elim) ?aF ?aB ?aS ?aL ?_;(case aR=>exact z6_18);(case aB=>exact z6_5);(case aF=>exact(fun k_ hk=>⟨(.inr (Nat.le_trans z6_21 hk)),Kd.fresh' (Kd.R_lt z6_6) k_ hk,Kd.fresh' (Kd.R_lt z6_10) k_ hk⟩));(case aO=>exact(by(with_reducible repeat(first|apply Zp|apply Zo|apply Zn));exact Yf HO230.out (fun _ hk=>⟨hk.1.1.1,⟨hk.1.2,hk.2⟩⟩)));(case aS=>exact(Zt z6_5));(case aL=>have:=LMc46.out;omega);intro v232 w58 ho hb hg hat;rw[←Ny231.out] at ho;have n0_:=Za (Kd.R_after (ok:=(fun k_=>((P3_ k_∨P4_ k_)∨w.heap.size≤k_)∧some k_≠(.slice Ao52 x4_1.length co52:Value).ownBlock)) z6_6 hg hat);have n1_:=Za (Kd.R_after (ok:=(fun k_=>((P3_ k_∨P4_ k_)∨w.heap.size≤k_)∧some k_≠(.slice Ao53 x3_1.length co53:Value).ownBlock)) z6_10 hg hat);have n2_:=Za (blk_grown (g:=gb221) (o:= .cells #[.int .i64 ((rd_T77 l0 x10_1).f0),.int .i64 ((rd_T77 l0 x10_1).f1),.int .i64 ((rd_T77 l0 x10_1).f2),.int .i64 ((rd_T77 l0 x10_1).f3.f0),.int .i64 ((rd_T77 l0 x10_1).f3.f1),.int .i64 ((rd_T77 l0 x10_1).f3.f2)] 77 (0,0)) z6_11 hg (Kd.R_ne HO230.out BK221.out (by decide)));have n3_:=Za (hb);have n4_:=Za (Kept.of_grown (S:=(fun k_=>P3_ k_∨P4_ k_)) hg z6_4 (fun k_ e_=>(HO230.out.1 k_ e_).1.1.1));have n5_:=Za (ho);clear HO_3;clear HO_4;clear BK221;clear HB;clear HK;clear HO230;have HO_3:=n0_;have HO_4:=n1_;have BK221:=n2_;have HB:=n3_;have HK:=n4_;have HO233:=n5_;clear n0_ n1_ n2_ n3_ n4_ n5_;clear ho hb hg hat;obtain⟨Ao59,co59,eo59⟩:=Yp HO233.out;subst eo59)|((first|((with_reducible refine gate_callee (f:=83) rfl ?_);refine goesL_ (some 68) rfl rfl Tryz.func83 (by kernel_rfl) rfl #[.slice (some ad220) l0.length c0,.int .i64 (wrap64 (x10_1+1)),.int .i64 t227,.slice Ao59 y231.length co59,.slice Ao52 x4_1.length co52] rfl z6_9 ?_;(with_reducible refine(ih k1 (by have:=HK1.out;omega) _ _ l0 (wrap64 (x10_1+1)) t227 (fun k_=>some k_=(.slice Ao59 y231.length co59:Value).ownBlock) (.slice Ao59 y231.length co59) y231 (fun k_=>some k_=(.slice Ao52 x4_1.length co52:Value).ownBlock) (.slice Ao52 x4_1.length co52) t226 t234 t235 w0 _ ?side1 ?side2 ?side3 ?side4 ?side5 ?side6 ?side7 A47.out).mono ?_))|(go_at_call 83;(with_reducible refine(ih k1 (by have:=HK1.out;omega) _ _ l0 (wrap64 (x10_1+1)) t227 (fun k_=>some k_=(.slice Ao59 y231.length co59:Value).ownBlock) (.slice Ao59 y231.length co59) y231 (fun k_=>some k_=(.slice Ao52 x4_1.length co52:Value).ownBlock) (.slice Ao52 x4_1.length co52) t226 t234 t235 w0 _ ?side1 ?side2 ?side3 ?side4 ?side5 ?side6 ?side7 A47.out).mono ?_)));(case side1=>exact z6_5);(case side2=>exact Kd.C_kept_call HR0.out z6_4 (fun k_ hs_=>Or.elim hs_ (fun e_=>(fun e_=>(HO233.out.1 k_ e_.symm).1) e_) (fun e_=>(fun e_=>(HO_4.out.1 k_ e_.symm).1.1) e_)));(case side3=>exact HC0.out);(case side4=>exact Kd.R_tight rfl HO233.out);(case side5=>exact fun k_ e_=>(HO233.out.1 k_ e_.symm).2.2);(case side6=>exact Kd.R_tight rfl HO_4.out);(case side7=>exact fun k_ e_=>(HO_4.out.1 k_ e_.symm).2);rintro e w60 ⟨rfl,hy0,hy1,hb,hkp⟩;(first|refine⟨_,rfl,?_⟩|skip);replace HO_3:=Za (Yf (ok':=fun k_=>((P3_ k_∨P4_ k_)∨w.heap.size≤k_)∧some k_≠(.slice Ao52 x4_1.length co52:Value).ownBlock∧some k_≠(.slice Ao59 y231.length co59:Value).ownBlock) (Kd.R_keptB (HO_3.out) hkp (fun k_ hk_ hs_=>Or.elim hs_ (fun e_=>(hk_.2) e_) (fun e_=>(hk_.1.2) e_))) (fun k_ hk_=>⟨hk_.1.1.1,hk_.1.1.2,hk_.1.2⟩));replace BK221:=Za (blk_kept z6_11 hkp (fun hs_=>Or.elim hs_ (fun e_=>(fun e_=>(Kd.R_ne HO233.out BK221.out (by decide)) e_) e_) (fun e_=>(fun e_=>(Kd.R_ne HO_4.out BK221.out (by decide)) e_) e_)));replace HK:=Za (Kept.then_ (S:=(fun k_=>P3_ k_∨P4_ k_)) z6_4 hkp (fun k_ hs_=>Or.elim hs_ (fun e_=>(fun e_=>(HO233.out.1 k_ e_.symm).1) e_) (fun e_=>(fun e_=>(HO_4.out.1 k_ e_.symm).1.1) e_)));replace HO_4:=Za (Kd.R_reok rfl hy1 (fun k_ e_=>HO_4.out.1 k_ e_));replace HO233:=Za (Kd.R_reok rfl hy0 (fun k_ e_=>HO233.out.1 k_ e_));replace HB:=Za (hb);(try clear hb);(try clear hkp);(try clear hy0);(try clear hy1)))
           go_roundg k1
           case measure=>have:=HK1.out;omega
           case rel=>exact⟨(x3_1),(t235),(wrap64 (t227+1)),z6_13,H',⟨by have:=HK1.out;omega⟩,⟨by(with_reducible repeat(first|apply Zp|apply Zo|apply Zn));exact Yf HO_3.out (fun _ hk=>⟨hk.1,hk.2.1⟩)⟩,⟨by(with_reducible repeat(first|apply Zp|apply Zo|apply Zn));exact Yf HO_4.out (fun _ hk=>⟨hk.1.1,hk.1.2⟩)⟩,⟨by repeat(first|(with_reducible first|exact HK.out|apply Kept.alloc|apply Kept.drewN|apply Kept.drew|refine Kept.setCell ?_ (.inr GW221.out) _)|exact HK.out)⟩,⟨by repeat(first|(with_reducible first|exact HB.out|apply Zh|apply Ze|apply Zd|refine Zg ?_ GE221.out)|exact HB.out)⟩⟩
          ·rw[if_neg c46] at H
           exact absurd H (by simp)
         ·rw[if_neg c43] at H
          have c43b0:(((rd_T77 l0 x10_1).f0)==4)=false:=beq_eq_false_iff_ne.mpr c43
          have c43b1:(((rd_T77 l0 x10_1).f0) != 4)=true:=bne_iff_ne.mpr c43
          by_cases c61:((rd_T77 l0 x10_1).f0)=5
          ·rw[if_pos c61] at H
           have c61b0:(((rd_T77 l0 x10_1).f0)==5)=true:=beq_iff_eq.mpr c61
           have c61b1:(((rd_T77 l0 x10_1).f0) != 5)=false:=bne_eq_false_iff_eq.mpr c61
           clear c61
           replace H:=Zl H
           obtain⟨t236,A620,H⟩:=H
           replace H:((spec_l07Pass.f k1 l0 (wrap64 (x10_1+1)) t236 x3_1 x4_1).bind fun bt237=>(spec_l07Pass.l0 k1 l0 a2 bt237.1 bt237.2 (wrap64 (t236+1))))=some (r1,r2):=H
           have A62:=Za A620
           clear A620
           replace H:=Zl H
           obtain⟨⟨t237,t238⟩,A630,H⟩:=H
           replace H:(spec_l07Pass.l0 k1 l0 a2 t237 t238 (wrap64 (t236+1)))=some (r1,r2):=H
           have A63:=Za A630
           clear A630
           have H':=Za H
           clear H
           have p220:0≤(x10_1:Int):=Zj z6_7
           have q220:x10_1<(l0.length:Int):=Zj z6_7
           obtain⟨ad220,e220,hx220_0,hx220_1,hx220_2,hx220_3,hx220_4,hx220_5⟩:=at_T77 (Kd.C_kept_now HR0.out HK.out) x10_1 p220 q220
           cases e220
           replace p220:=eq_true p220
           replace q220:=eq_true q220
           go_wp2_with (first|((with_reducible refine Zr (N:=11) rfl ?_);refine Zs ?hg (N:=11) ?hd (cs:= #[.int .i64 0,.int .i64 0,.int .i64 0,.int .i64 0,.int .i64 0,.int .i64 0]) (t:=77) ?hr ?_;(case hd=>rfl);(case hg=>rfl);(case hr=>exact z6_16);intro gb221 hg w64 hbox hb;replace HO_3:=Za (Kd.R_below z6_6 hb);replace HO_4:=Za (Kd.R_below z6_10 hb);have BK221:=Za (hbox);have GW221:=Za ((z6_12:w.heap.size≤gb221));replace HK:=Za (Kept.below (S:=(fun k_=>P3_ k_∨P4_ k_)) z6_17 hb);have GE221:=Za ((z6_22:w0.heap.size≤gb221));replace HB:=Za (Zi z6_3 hb);clear hb hbox hg;have hcz65_0:w64.cell? ⟨gb221,0,none⟩=some (.int .i64 0):=(Zb BK221.out 0).trans rfl;have hcz65_1:w64.cell? ⟨gb221,1,none⟩=some (.int .i64 0):=(Zb BK221.out 1).trans rfl;have hcz65_2:w64.cell? ⟨gb221,2,none⟩=some (.int .i64 0):=(Zb BK221.out 2).trans rfl;have hcz65_3:w64.cell? ⟨gb221,3,none⟩=some (.int .i64 0):=(Zb BK221.out 3).trans rfl;have hcz65_4:w64.cell? ⟨gb221,4,none⟩=some (.int .i64 0):=(Zb BK221.out 4).trans rfl;have hcz65_5:w64.cell? ⟨gb221,5,none⟩=some (.int .i64 0):=(Zb BK221.out 5).trans rfl;have hfz65_0:=Zc BK221.out 0;have hfz65_1:=Zc BK221.out 1;have hfz65_2:=Zc BK221.out 2;have hfz65_3:=Zc BK221.out 3;have hfz65_4:=Zc BK221.out 4;have hfz65_5:=Zc BK221.out 5)|((with_reducible refine Ym (t:=77) (p:=11) rfl ?_);refine Yl (t:=77) (p:=11) (v:= ?vo_w66) (w1:=((((((w64.setCell ⟨gb221,0,none⟩ (.int .i64 ((rd_T77 l0 x10_1).f0))).setCell ⟨gb221,1,none⟩ (.int .i64 ((rd_T77 l0 x10_1).f1))).setCell ⟨gb221,2,none⟩ (.int .i64 ((rd_T77 l0 x10_1).f2))).setCell ⟨gb221,3,none⟩ (.int .i64 ((rd_T77 l0 x10_1).f3.f0))).setCell ⟨gb221,4,none⟩ (.int .i64 ((rd_T77 l0 x10_1).f3.f1))).setCell ⟨gb221,5,none⟩ (.int .i64 ((rd_T77 l0 x10_1).f3.f2)))) ?hg ?ho ?hn ?hr ?_;(case ho=>rfl);(case hg=>rfl);(case hn=>rfl);(case hr=>exact z6_16);intro w66 hw;have n0_:Aside0 (Kd.R Kd.bool 4 w66 w0.heap.size (fun k_=>((P3_ k_∨P4_ k_)∨w.heap.size≤k_)∧some k_≠(u9001_:Value).ownBlock) u9000_ x3_1):=⟨z6_2⟩;have n1_:Aside0 (Kd.R Kd.bool 4 w66 w0.heap.size (fun k_=>((P3_ k_∨P4_ k_)∨w.heap.size≤k_)∧some k_≠(u9000_:Value).ownBlock) u9001_ x4_1):=⟨z6_1⟩;have n2_:Aside0 (w66.heap[gb221]? =some (.cells #[.int .i64 ((rd_T77 l0 x10_1).f0),.int .i64 ((rd_T77 l0 x10_1).f1),.int .i64 ((rd_T77 l0 x10_1).f2),.int .i64 ((rd_T77 l0 x10_1).f3.f0),.int .i64 ((rd_T77 l0 x10_1).f3.f1),.int .i64 ((rd_T77 l0 x10_1).f3.f2)] 77 (0,0))):=⟨z6_0⟩;have n3_:Aside0 (Kept w w66 (fun k_=>P3_ k_∨P4_ k_)):=⟨(by rw[hw];exact z6_4)⟩;have n4_:Aside0 (Below w0.heap.size w0 w66):=⟨(by rw[hw];exact z6_5)⟩;clear hw;clear HO_3;clear HO_4;clear BK221;clear HK;clear HB;have HO_3:=n0_;have HO_4:=n1_;have BK221:=n2_;have HK:=n3_;have HB:=n4_;clear n0_ n1_ n2_ n3_ n4_;have hcz67_0:w66.cell? ⟨gb221,0,none⟩=some (.int .i64 ((rd_T77 l0 x10_1).f0)):=(Zb BK221.out 0).trans rfl;have hcz67_1:w66.cell? ⟨gb221,1,none⟩=some (.int .i64 ((rd_T77 l0 x10_1).f1)):=(Zb BK221.out 1).trans rfl;have hcz67_2:w66.cell? ⟨gb221,2,none⟩=some (.int .i64 ((rd_T77 l0 x10_1).f2)):=(Zb BK221.out 2).trans rfl;have hcz67_3:w66.cell? ⟨gb221,3,none⟩=some (.int .i64 ((rd_T77 l0 x10_1).f3.f0)):=(Zb BK221.out 3).trans rfl;have hcz67_4:w66.cell? ⟨gb221,4,none⟩=some (.int .i64 ((rd_T77 l0 x10_1).f3.f1)):=(Zb BK221.out 4).trans rfl;have hcz67_5:w66.cell? ⟨gb221,5,none⟩=some (.int .i64 ((rd_T77 l0 x10_1).f3.f2)):=(Zb BK221.out 5).trans rfl;have hfz67_0:=Zc BK221.out 0;have hfz67_1:=Zc BK221.out 1;have hfz67_2:=Zc BK221.out 2;have hfz67_3:=Zc BK221.out 3;have hfz67_4:=Zc BK221.out 4;have hfz67_5:=Zc BK221.out 5)|((first|((with_reducible refine gate_callee (f:=82) rfl ?_);refine goesL_ (some 74) rfl rfl Tryz.func82 (by kernel_rfl) rfl #[.slice (some ad220) l0.length c0,.int .i64 x10_1] rfl z6_9 ?_;(with_reducible refine(spec_l05End.calls k1 _ _ l0 x10_1 t236 _ ?side1 ?side2 A62.out).mono ?_))|(go_at_call 82;(with_reducible refine(spec_l05End.calls k1 _ _ l0 x10_1 t236 _ ?side1 ?side2 A62.out).mono ?_)));(case side1=>exact Kd.C_kept_now HR0.out z6_4);(case side2=>exact HC0.out);rintro e w68 ⟨rfl,hb⟩;(first|refine⟨_,rfl,?_⟩|skip);replace HO_3:=Za (Kd.R_below z6_6 hb);replace HO_4:=Za (Kd.R_below z6_10 hb);replace BK221:=Za (Zk (g:=gb221) (o:= .cells #[.int .i64 ((rd_T77 l0 x10_1).f0),.int .i64 ((rd_T77 l0 x10_1).f1),.int .i64 ((rd_T77 l0 x10_1).f2),.int .i64 ((rd_T77 l0 x10_1).f3.f0),.int .i64 ((rd_T77 l0 x10_1).f3.f1),.int .i64 ((rd_T77 l0 x10_1).f3.f2)] 77 (0,0)) z6_11 hb);replace HK:=Za (Kept.below (S:=(fun k_=>P3_ k_∨P4_ k_)) z6_4 hb);replace HB:=Za (Zi z6_5 hb);(try clear hb);(try clear hb2);(try clear hk);(try clear hi);obtain⟨Ao69,co69,eo69⟩:=Yp HO_3.out;subst eo69;obtain⟨Ao70,co70,eo70⟩:=Yp HO_4.out;subst eo70)|((first|((with_reducible refine gate_callee (f:=83) rfl ?_);refine goesL_ (some 81) rfl rfl Tryz.func83 (by kernel_rfl) rfl #[.slice (some ad220) l0.length c0,.int .i64 (wrap64 (x10_1+1)),.int .i64 t236,.slice Ao69 x3_1.length co69,.slice Ao70 x4_1.length co70] rfl z6_9 ?_;(with_reducible refine(ih k1 (by have:=HK1.out;omega) _ _ l0 (wrap64 (x10_1+1)) t236 (fun k_=>some k_=(.slice Ao69 x3_1.length co69:Value).ownBlock) (.slice Ao69 x3_1.length co69) x3_1 (fun k_=>some k_=(.slice Ao70 x4_1.length co70:Value).ownBlock) (.slice Ao70 x4_1.length co70) x4_1 t237 t238 w0 _ ?side1 ?side2 ?side3 ?side4 ?side5 ?side6 ?side7 A63.out).mono ?_))|(go_at_call 83;(with_reducible refine(ih k1 (by have:=HK1.out;omega) _ _ l0 (wrap64 (x10_1+1)) t236 (fun k_=>some k_=(.slice Ao69 x3_1.length co69:Value).ownBlock) (.slice Ao69 x3_1.length co69) x3_1 (fun k_=>some k_=(.slice Ao70 x4_1.length co70:Value).ownBlock) (.slice Ao70 x4_1.length co70) x4_1 t237 t238 w0 _ ?side1 ?side2 ?side3 ?side4 ?side5 ?side6 ?side7 A63.out).mono ?_)));(case side1=>exact z6_5);(case side2=>exact Kd.C_kept_call HR0.out z6_4 (fun k_ hs_=>Or.elim hs_ (fun e_=>(fun e_=>(HO_3.out.1 k_ e_.symm).1) e_) (fun e_=>(fun e_=>(HO_4.out.1 k_ e_.symm).1) e_)));(case side3=>exact HC0.out);(case side4=>exact Kd.R_tight rfl HO_3.out);(case side5=>exact fun k_ e_=>(HO_3.out.1 k_ e_.symm).2);(case side6=>exact Kd.R_tight rfl HO_4.out);(case side7=>exact fun k_ e_=>(HO_4.out.1 k_ e_.symm).2);rintro e w71 ⟨rfl,hy0,hy1,hb,hkp⟩;(first|refine⟨_,rfl,?_⟩|skip);replace BK221:=Za (blk_kept z6_11 hkp (fun hs_=>Or.elim hs_ (fun e_=>(fun e_=>(Kd.R_ne HO_3.out BK221.out (by decide)) e_) e_) (fun e_=>(fun e_=>(Kd.R_ne HO_4.out BK221.out (by decide)) e_) e_)));replace HK:=Za (Kept.then_ (S:=(fun k_=>P3_ k_∨P4_ k_)) z6_4 hkp (fun k_ hs_=>Or.elim hs_ (fun e_=>(fun e_=>(HO_3.out.1 k_ e_.symm).1) e_) (fun e_=>(fun e_=>(HO_4.out.1 k_ e_.symm).1) e_)));replace HO_3:=Za (Kd.R_reok rfl hy0 (fun k_ e_=>HO_3.out.1 k_ e_));replace HO_4:=Za (Kd.R_reok rfl hy1 (fun k_ e_=>HO_4.out.1 k_ e_));replace HB:=Za (hb);(try clear hb);(try clear hkp);(try clear hy0);(try clear hy1)))
           go_roundg k1
           case measure=>have:=HK1.out;omega
           case rel=>exact⟨(t237),(t238),(wrap64 (t236+1)),z6_13,H',⟨by have:=HK1.out;omega⟩,⟨by(with_reducible repeat(first|apply Zp|apply Zo|apply Zn));exact HO_3.out⟩,⟨by(with_reducible repeat(first|apply Zp|apply Zo|apply Zn));exact HO_4.out⟩,⟨by repeat(first|(with_reducible first|exact HK.out|apply Kept.alloc|apply Kept.drewN|apply Kept.drew|refine Kept.setCell ?_ (.inr GW221.out) _)|exact HK.out)⟩,⟨by repeat(first|(with_reducible first|exact HB.out|apply Zh|apply Ze|apply Zd|refine Zg ?_ GE221.out)|exact HB.out)⟩⟩
          ·rw[if_neg c61] at H
           have c61b0:(((rd_T77 l0 x10_1).f0)==5)=false:=beq_eq_false_iff_ne.mpr c61
           have c61b1:(((rd_T77 l0 x10_1).f0) != 5)=true:=bne_iff_ne.mpr c61
           have H':=Za H
           clear H
           have p220:0≤(x10_1:Int):=Zj z6_7
           have q220:x10_1<(l0.length:Int):=Zj z6_7
           obtain⟨ad220,e220,hx220_0,hx220_1,hx220_2,hx220_3,hx220_4,hx220_5⟩:=at_T77 (Kd.C_kept_now HR0.out HK.out) x10_1 p220 q220
           cases e220
           replace p220:=eq_true p220
           replace q220:=eq_true q220
           go_wp2_with (first|((with_reducible refine Zr (N:=11) rfl ?_);refine Zs ?hg (N:=11) ?hd (cs:= #[.int .i64 0,.int .i64 0,.int .i64 0,.int .i64 0,.int .i64 0,.int .i64 0]) (t:=77) ?hr ?_;(case hd=>rfl);(case hg=>rfl);(case hr=>exact z6_16);intro gb221 hg w72 hbox hb;replace HO_3:=Za (Kd.R_below z6_6 hb);replace HO_4:=Za (Kd.R_below z6_10 hb);have BK221:=Za (hbox);have GW221:=Za ((z6_12:w.heap.size≤gb221));replace HK:=Za (Kept.below (S:=(fun k_=>P3_ k_∨P4_ k_)) z6_17 hb);have GE221:=Za ((z6_22:w0.heap.size≤gb221));replace HB:=Za (Zi z6_3 hb);clear hb hbox hg;have hcz73_0:w72.cell? ⟨gb221,0,none⟩=some (.int .i64 0):=(Zb BK221.out 0).trans rfl;have hcz73_1:w72.cell? ⟨gb221,1,none⟩=some (.int .i64 0):=(Zb BK221.out 1).trans rfl;have hcz73_2:w72.cell? ⟨gb221,2,none⟩=some (.int .i64 0):=(Zb BK221.out 2).trans rfl;have hcz73_3:w72.cell? ⟨gb221,3,none⟩=some (.int .i64 0):=(Zb BK221.out 3).trans rfl;have hcz73_4:w72.cell? ⟨gb221,4,none⟩=some (.int .i64 0):=(Zb BK221.out 4).trans rfl;have hcz73_5:w72.cell? ⟨gb221,5,none⟩=some (.int .i64 0):=(Zb BK221.out 5).trans rfl;have hfz73_0:=Zc BK221.out 0;have hfz73_1:=Zc BK221.out 1;have hfz73_2:=Zc BK221.out 2;have hfz73_3:=Zc BK221.out 3;have hfz73_4:=Zc BK221.out 4;have hfz73_5:=Zc BK221.out 5)|((with_reducible refine Ym (t:=77) (p:=11) rfl ?_);refine Yl (t:=77) (p:=11) (v:= ?vo_w74) (w1:=((((((w72.setCell ⟨gb221,0,none⟩ (.int .i64 ((rd_T77 l0 x10_1).f0))).setCell ⟨gb221,1,none⟩ (.int .i64 ((rd_T77 l0 x10_1).f1))).setCell ⟨gb221,2,none⟩ (.int .i64 ((rd_T77 l0 x10_1).f2))).setCell ⟨gb221,3,none⟩ (.int .i64 ((rd_T77 l0 x10_1).f3.f0))).setCell ⟨gb221,4,none⟩ (.int .i64 ((rd_T77 l0 x10_1).f3.f1))).setCell ⟨gb221,5,none⟩ (.int .i64 ((rd_T77 l0 x10_1).f3.f2)))) ?hg ?ho ?hn ?hr ?_;(case ho=>rfl);(case hg=>rfl);(case hn=>rfl);(case hr=>exact z6_16);intro w74 hw;have n0_:Aside0 (Kd.R Kd.bool 4 w74 w0.heap.size (fun k_=>((P3_ k_∨P4_ k_)∨w.heap.size≤k_)∧some k_≠(u9001_:Value).ownBlock) u9000_ x3_1):=⟨z6_2⟩;have n1_:Aside0 (Kd.R Kd.bool 4 w74 w0.heap.size (fun k_=>((P3_ k_∨P4_ k_)∨w.heap.size≤k_)∧some k_≠(u9000_:Value).ownBlock) u9001_ x4_1):=⟨z6_1⟩;have n2_:Aside0 (w74.heap[gb221]? =some (.cells #[.int .i64 ((rd_T77 l0 x10_1).f0),.int .i64 ((rd_T77 l0 x10_1).f1),.int .i64 ((rd_T77 l0 x10_1).f2),.int .i64 ((rd_T77 l0 x10_1).f3.f0),.int .i64 ((rd_T77 l0 x10_1).f3.f1),.int .i64 ((rd_T77 l0 x10_1).f3.f2)] 77 (0,0))):=⟨z6_0⟩;have n3_:Aside0 (Kept w w74 (fun k_=>P3_ k_∨P4_ k_)):=⟨(by rw[hw];exact z6_4)⟩;have n4_:Aside0 (Below w0.heap.size w0 w74):=⟨(by rw[hw];exact z6_5)⟩;clear hw;clear HO_3;clear HO_4;clear BK221;clear HK;clear HB;have HO_3:=n0_;have HO_4:=n1_;have BK221:=n2_;have HK:=n3_;have HB:=n4_;clear n0_ n1_ n2_ n3_ n4_;have hcz75_0:w74.cell? ⟨gb221,0,none⟩=some (.int .i64 ((rd_T77 l0 x10_1).f0)):=(Zb BK221.out 0).trans rfl;have hcz75_1:w74.cell? ⟨gb221,1,none⟩=some (.int .i64 ((rd_T77 l0 x10_1).f1)):=(Zb BK221.out 1).trans rfl;have hcz75_2:w74.cell? ⟨gb221,2,none⟩=some (.int .i64 ((rd_T77 l0 x10_1).f2)):=(Zb BK221.out 2).trans rfl;have hcz75_3:w74.cell? ⟨gb221,3,none⟩=some (.int .i64 ((rd_T77 l0 x10_1).f3.f0)):=(Zb BK221.out 3).trans rfl;have hcz75_4:w74.cell? ⟨gb221,4,none⟩=some (.int .i64 ((rd_T77 l0 x10_1).f3.f1)):=(Zb BK221.out 4).trans rfl;have hcz75_5:w74.cell? ⟨gb221,5,none⟩=some (.int .i64 ((rd_T77 l0 x10_1).f3.f2)):=(Zb BK221.out 5).trans rfl;have hfz75_0:=Zc BK221.out 0;have hfz75_1:=Zc BK221.out 1;have hfz75_2:=Zc BK221.out 2;have hfz75_3:=Zc BK221.out 3;have hfz75_4:=Zc BK221.out 4;have hfz75_5:=Zc BK221.out 5))
           go_roundg k1
           case measure=>have:=HK1.out;omega
           case rel=>exact⟨(x3_1),(x4_1),(wrap64 (x10_1+1)),z6_13,H',⟨by have:=HK1.out;omega⟩,⟨by(with_reducible repeat(first|apply Zp|apply Zo|apply Zn));exact HO_3.out⟩,⟨by(with_reducible repeat(first|apply Zp|apply Zo|apply Zn));exact HO_4.out⟩,⟨by repeat(first|(with_reducible first|exact HK.out|apply Kept.alloc|apply Kept.drewN|apply Kept.drew|refine Kept.setCell ?_ (.inr GW221.out) _)|exact HK.out)⟩,⟨by repeat(first|(with_reducible first|exact HB.out|apply Zh|apply Ze|apply Zd|refine Zg ?_ GE221.out)|exact HB.out)⟩⟩
     ·rw[if_neg c8] at H
      exact absurd H (by simp)
    ·rw[if_neg c7] at H
     exact absurd H (by simp)
   ·rw[if_neg c6] at H
    have c6b0:decide (x10_1<a2)=false:=Yg c6
    clear c6
    simp only[Option.some.injEq,Prod.mk.injEq] at H
    obtain⟨rfl,rfl⟩:=H
    go_wp2
    first|go_end0|((try simp only[Exit.inBlock,Exit.then]);refine bodyPost_ret (results_none rfl _ _ _) rfl ?_)
    exact⟨by first|rfl|(simp[errW_none,errW_some]<;>rfl)|(simp[*,errW_none,errW_some]<;>rfl)|(simp[*,errW_none,errW_some,i64_w];done),by(with_reducible repeat(first|apply Zp|apply Zo|apply Zn));exact Yf HO_3.out (fun _ hk=>hk.1),by(with_reducible repeat(first|apply Zp|apply Zo|apply Zn));exact Yf HO_4.out (fun _ hk=>hk.1),by repeat(first|(with_reducible first|exact HB.out|apply Zh|apply Ze|apply Zd)|exact HB.out),by repeat(first|(with_reducible first|exact HK.out|apply Kept.alloc|apply Kept.drewN|apply Kept.drew)|exact HK.out)⟩
def spec_MayReadFirst.j0:Nat→List Bool→Bool→List (S77)→Int→Int→Int→Option (List Int)
 |0,_,_,_,_,_,_=>none
 |k+1,x3,x13,x240000,x240001,x240002,x240003=>if x13=true then (if 8≤281474976710656 then ((spec_l07Pass.f k x240000 0 (x240000.length:Int) (List.replicate 8 false) x3).bind fun bt248=>((spec_l07Note.f k bt248.2 bt248.1 x240001 x240002 x240003).bind fun t250=>((spec_l07List.f k t250).bind fun t251=>(some t251)))) else (none)) else ((spec_l07List.f k x3).bind fun t254=>(some t254))
def spec_MayReadFirst.f (k:Nat) (l0_0:List (S77)) (a0_1:Int) (a0_2:Int) (a0_3:Int):Option (List Int):=if 8≤281474976710656 then ((some (List.replicate 8 false:List Bool)).bind fun y240=>((spec_BlockOk.f k l0_0).bind fun t243=>(if t243=true then ((spec_ExprOk.f a0_1 a0_2 a0_3).bind fun t244=>(spec_MayReadFirst.j0 k y240 t244 l0_0 a0_1 a0_2 a0_3)) else (spec_MayReadFirst.j0 k y240 false l0_0 a0_1 a0_2 a0_3)))) else (none)
theorem spec_MayReadFirst.mono_l:∀k,(∀y0 y1 y2 y3 y4 y5,LeO (spec_MayReadFirst.j0 k y0 y1 y2 y3 y4 y5) (spec_MayReadFirst.j0 (k+1) y0 y1 y2 y3 y4 y5))
 |0=>fun _ _ _ _ _ _ r h=>by simp[spec_MayReadFirst.j0] at h
 |k+1=>by
  have ih0:=spec_MayReadFirst.mono_l k
  ·intro y0 y1 y2 y3 y4 y5
   unfold spec_MayReadFirst.j0
   repeat' first
   |(with_reducible exact ih0 _ _ _ _ _ _)
   |(with_reducible exact spec_BlockOk.mono _ _)
   |(with_reducible exact spec_l07List.mono _ _)
   |(with_reducible exact spec_l07Note.mono _ _ _ _ _ _)
   |(with_reducible exact spec_l07Pass.mono _ _ _ _ _ _)
   |(with_reducible exact Yn _)
   |(with_reducible exact Yb _)
   |(with_reducible refine Zx ?_ ?_)
   |(with_reducible refine Zy ?_ (fun _=> ?_))
   |exact ih0 _ _ _ _ _ _
   |exact spec_BlockOk.mono _ _
   |exact spec_l07List.mono _ _
   |exact spec_l07Note.mono _ _ _ _ _ _
   |exact spec_l07Pass.mono _ _ _ _ _ _
   |exact Yb _
   |refine Zx ?_ ?_
   |refine Zy ?_ (fun _=> ?_)
theorem spec_MayReadFirst.mono:∀a0 a1 a2 a3 k,LeO (spec_MayReadFirst.f k a0 a1 a2 a3) (spec_MayReadFirst.f (k+1) a0 a1 a2 a3):=by
 intro a0 a1 a2 a3 k
 have ih0:=spec_MayReadFirst.mono_l k
 unfold spec_MayReadFirst.f
 repeat' first
   |(with_reducible exact ih0 _ _ _ _ _ _)
   |(with_reducible exact spec_BlockOk.mono _ _)
   |(with_reducible exact spec_l07List.mono _ _)
   |(with_reducible exact spec_l07Note.mono _ _ _ _ _ _)
   |(with_reducible exact spec_l07Pass.mono _ _ _ _ _ _)
   |(with_reducible exact Yn _)
   |(with_reducible exact Yb _)
   |(with_reducible refine Zx ?_ ?_)
   |(with_reducible refine Zy ?_ (fun _=> ?_))
   |exact ih0 _ _ _ _ _ _
   |exact spec_BlockOk.mono _ _
   |exact spec_l07List.mono _ _
   |exact spec_l07Note.mono _ _ _ _ _ _
   |exact spec_l07Pass.mono _ _ _ _ _ _
   |exact Yb _
   |refine Zx ?_ ?_
   |refine Zy ?_ (fun _=> ?_)
set_option maxHeartbeats 8000000 in
set_option maxRecDepth 100000 in
theorem spec_MayReadFirst.calls (k:Nat) (A0_0:Option Addr) (c0_0:Nat) (l0_0:List (S77)) (a0_1:Int) (a0_2:Int) (a0_3:Int) (r:List Int) (w:World) (hr0_0:Kd.C k77 w A0_0 l0_0.length l0_0) (hc0_0:l0_0.length≤c0_0) (h:spec_MayReadFirst.f k l0_0 a0_1 a0_2 a0_3=some r):
  Calls Tryz.prog 55 #[.agg #[.slice A0_0 l0_0.length c0_0,.int .i64 a0_1,.int .i64 a0_2,.int .i64 a0_3]] w fun e w'=>∃v0_:Value,e= .returned (v0_)∧Kd.R (Kd.int .i64) 3 w' w.heap.size (fun _=>True) v0_ r∧Below w.heap.size w w':=by
 have hu55:=Tryz.underlying55
 have hu53:=Tryz.underlying53
 have HR0_0:=Za hr0_0
 have HC0_0:=Za hc0_0
 clear hr0_0 hc0_0
 have HB:=Za (Yc w.heap.size w)
 have H:(if 8≤281474976710656 then ((some (List.replicate 8 false:List Bool)).bind fun y240=>((spec_BlockOk.f k l0_0).bind fun t243=>(if t243=true then ((spec_ExprOk.f a0_1 a0_2 a0_3).bind fun t244=>(spec_MayReadFirst.j0 k y240 t244 l0_0 a0_1 a0_2 a0_3)) else (spec_MayReadFirst.j0 k y240 false l0_0 a0_1 a0_2 a0_3)))) else (none))=some r:=h
 clear h
 by_cases c2:8≤281474976710656
 ·rw[if_pos c2] at H
  have c2b0:=eq_true c2
  have c2b1:decide (8≤281474976710656)=true:=Zq c2
  clear c2
  obtain⟨y240,hy240⟩:∃y_:List Bool,y_=(List.replicate 8 false):=⟨_,rfl⟩
  replace H:((spec_BlockOk.f k l0_0).bind fun t243=>(if t243=true then ((spec_ExprOk.f a0_1 a0_2 a0_3).bind fun t244=>(spec_MayReadFirst.j0 k y240 t244 l0_0 a0_1 a0_2 a0_3)) else (spec_MayReadFirst.j0 k y240 false l0_0 a0_1 a0_2 a0_3)))=some r:=by first|(rw[hy240];with_reducible exact H)|(have H2_:=(Yk _ _).symm.trans H;rw[hy240];with_reducible exact H2_)|(have H2_:=(Yk _ _).symm.trans H;with_reducible exact H2_)|with_reducible exact H|(rw[hy240];exact H)|exact H
  have Ny240:=Za hy240
  clear hy240
  have HC3:=Za H
  clear H
  go_enter Tryz.func55,Tryz.ntmps55
  go_upto_region 2 with(first|((with_reducible refine Zr (N:=1) rfl ?_);refine Zs ?hg (N:=1) ?hd (cs:= #[.slice A0_0 l0_0.length c0_0,.int .i64 a0_1,.int .i64 a0_2,.int .i64 a0_3]) (t:=55) ?hr ?_;(case hd=>rfl);(case hg=>rfl);(case hr=>exact z6_16);intro gb239 hg w4 hbox hb;have BK239:=Za (hbox);have GW239:=Za ((z6_22:w.heap.size≤gb239));have GE239:=Za ((z6_22:w.heap.size≤gb239));replace HB:=Za (Zi z6_3 hb);clear hb hbox hg)|((with_reducible refine Zr (N:=5) rfl ?_);refine Kd.R_make Kd.bool _ 4 rfl (N:=5) rfl 73 _ _ rfl 8 rfl rfl Tryz.underlying73 (.bool false) 1 info4 rfl (by decide) (by omega) false (ok:=fun _=>True) (okp:=fun _=>True) rfl (fun _ hk=>hk) trivial (by omega) (by omega) (Yc _ _) (Nat.le_refl _) ?_;intro v241 w5 ho6 hb hg_ hnew_;clear hg_ hnew_;(first|rw[←Ny240.out] at ho6|(simp only[Int.reduceToNat] at ho6;rw[←Ny240.out] at ho6));have HO242:=Za (Yq ho6 (Zt z6_8));replace BK239:=Za (Zk (g:=gb239) (o:= .cells #[.slice A0_0 l0_0.length c0_0,.int .i64 a0_1,.int .i64 a0_2,.int .i64 a0_3] 55 (0,0)) z6_15 hb);replace HB:=Za (Zi z6_8 hb);clear hb ho6))
  (try simp only[Act.put,Zu,Zv,Zw])
  go_cut [13] (fun v13 wc=>∃(kq:Nat) (x13_2:Bool),v13= .bool x13_2∧Aside0 (spec_MayReadFirst.j0 kq y240 x13_2 l0_0 a0_1 a0_2 a0_3=some r)∧Aside0 (kq≤k)∧Aside0 (Kd.R Kd.bool 4 wc w.heap.size (fun _=>True) v241 y240)∧Aside0 (wc.heap[gb239]? =some (.cells #[(.slice A0_0 l0_0.length c0_0),.int .i64 a0_1,.int .i64 a0_2,.int .i64 a0_3] 55 (0,0)))∧Aside0 (Below w.heap.size w wc))
  case first=>
   have H:=HC3.out
   clear HC3
   replace H:=Zl H
   obtain⟨t243,A70,H⟩:=H
   replace H:(if t243=true then ((spec_ExprOk.f a0_1 a0_2 a0_3).bind fun t244=>(spec_MayReadFirst.j0 k y240 t244 l0_0 a0_1 a0_2 a0_3)) else (spec_MayReadFirst.j0 k y240 false l0_0 a0_1 a0_2 a0_3))=some r:=H
   have A7:=Za A70
   clear A70
   by_cases c8:t243=true
   ·subst c8
    rw[if_pos rfl] at H
    replace H:=Zl H
    obtain⟨t244,A90,H⟩:=H
    replace H:(spec_MayReadFirst.j0 k y240 t244 l0_0 a0_1 a0_2 a0_3)=some r:=H
    have A9:=Za A90
    clear A90
    have H':=Za H
    clear H
    have hcz10_0:w5.cell? ⟨gb239,0,none⟩=some (.slice A0_0 l0_0.length c0_0):=(Zb BK239.out 0).trans rfl
    have hcz10_1:w5.cell? ⟨gb239,1,none⟩=some (.int .i64 a0_1):=(Zb BK239.out 1).trans rfl
    have hcz10_2:w5.cell? ⟨gb239,2,none⟩=some (.int .i64 a0_2):=(Zb BK239.out 2).trans rfl
    have hcz10_3:w5.cell? ⟨gb239,3,none⟩=some (.int .i64 a0_3):=(Zb BK239.out 3).trans rfl
    have hfz10_0:=Zc BK239.out 0
    have hfz10_1:=Zc BK239.out 1
    have hfz10_2:=Zc BK239.out 2
    have hfz10_3:=Zc BK239.out 3
    go_wp2_with (first|((first|((with_reducible refine gate_callee (f:=50) rfl ?_);refine goesL_ (some 8) rfl rfl Tryz.func50 (by kernel_rfl) rfl #[.slice A0_0 l0_0.length c0_0] rfl z6_9 ?_;(with_reducible refine(spec_BlockOk.calls k _ _ l0_0 true _ ?side1 ?side2 A7.out).mono ?_))|(go_at_call 50;(with_reducible refine(spec_BlockOk.calls k _ _ l0_0 true _ ?side1 ?side2 A7.out).mono ?_)));(case side1=>repeat(first|exact(Yj HR0_0.out HB.out)|(with_reducible refine Yh ?_ _)|(with_reducible refine Ye ?_ _)|(with_reducible refine Yi ?_)));(case side2=>exact HC0_0.out);rintro e w11 ⟨rfl,hb⟩;(first|refine⟨_,rfl,?_⟩|skip);replace HO242:=Za (Kd.R_below (by(with_reducible repeat(first|apply Zp|apply Zo|apply Zn));exact HO242.out) hb);replace BK239:=Za (Zk (g:=gb239) (o:= .cells #[.slice A0_0 l0_0.length c0_0,.int .i64 a0_1,.int .i64 a0_2,.int .i64 a0_3] 55 (0,0)) z6_15 hb);replace HB:=Za (Zi z6_8 hb);(try clear hb);(try clear hb2);(try clear hk);(try clear hi);have hcz12_0:w11.cell? ⟨gb239,0,none⟩=some (.slice A0_0 l0_0.length c0_0):=(Zb BK239.out 0).trans rfl;have hcz12_1:w11.cell? ⟨gb239,1,none⟩=some (.int .i64 a0_1):=(Zb BK239.out 1).trans rfl;have hcz12_2:w11.cell? ⟨gb239,2,none⟩=some (.int .i64 a0_2):=(Zb BK239.out 2).trans rfl;have hcz12_3:w11.cell? ⟨gb239,3,none⟩=some (.int .i64 a0_3):=(Zb BK239.out 3).trans rfl;have hfz12_0:=Zc BK239.out 0;have hfz12_1:=Zc BK239.out 1;have hfz12_2:=Zc BK239.out 2;have hfz12_3:=Zc BK239.out 3)|(go_at_call 80;(with_reducible refine(spec_ExprOk.calls a0_1 a0_2 a0_3 t244 _ A9.out).mono ?_);rintro e w13 ⟨rfl,hb⟩;replace HO242:=Za (Kd.R_below (by(with_reducible repeat(first|apply Zp|apply Zo|apply Zn));exact HO242.out) hb);replace BK239:=Za (Zk (g:=gb239) (o:= .cells #[.slice A0_0 l0_0.length c0_0,.int .i64 a0_1,.int .i64 a0_2,.int .i64 a0_3] 55 (0,0)) z6_15 hb);replace HB:=Za (Zi z6_8 hb);(try clear hb);(try clear hb2);(try clear hk);(try clear hi)))
    go_meet
    case rel=>exact⟨_,(t244),z6_13,H',⟨by first|omega|exact Nat.le_refl _⟩,⟨by(with_reducible repeat(first|apply Zp|apply Zo|apply Zn));exact HO242.out⟩,⟨by(with_reducible repeat(first|refine blk_drewN ?_ _|refine blk_drew ?_|refine blk_alloc ?_ _));exact BK239.out⟩,⟨by repeat(first|(with_reducible first|exact HB.out|apply Zh|apply Ze|apply Zd|refine Zg ?_ GE239.out)|exact HB.out)⟩⟩
   ·replace c8:=Bool.eq_false_iff.mpr c8
    subst c8
    rw[if_neg (show ¬(false=true) by decide)] at H
    have H':=Za H
    clear H
    have hcz14_0:w5.cell? ⟨gb239,0,none⟩=some (.slice A0_0 l0_0.length c0_0):=(Zb BK239.out 0).trans rfl
    have hcz14_1:w5.cell? ⟨gb239,1,none⟩=some (.int .i64 a0_1):=(Zb BK239.out 1).trans rfl
    have hcz14_2:w5.cell? ⟨gb239,2,none⟩=some (.int .i64 a0_2):=(Zb BK239.out 2).trans rfl
    have hcz14_3:w5.cell? ⟨gb239,3,none⟩=some (.int .i64 a0_3):=(Zb BK239.out 3).trans rfl
    have hfz14_0:=Zc BK239.out 0
    have hfz14_1:=Zc BK239.out 1
    have hfz14_2:=Zc BK239.out 2
    have hfz14_3:=Zc BK239.out 3
    go_wp2_with (first|((first|((with_reducible refine gate_callee (f:=50) rfl ?_);refine goesL_ (some 8) rfl rfl Tryz.func50 (by kernel_rfl) rfl #[.slice A0_0 l0_0.length c0_0] rfl z6_9 ?_;(with_reducible refine(spec_BlockOk.calls k _ _ l0_0 false _ ?side1 ?side2 A7.out).mono ?_))|(go_at_call 50;(with_reducible refine(spec_BlockOk.calls k _ _ l0_0 false _ ?side1 ?side2 A7.out).mono ?_)));(case side1=>repeat(first|exact(Yj HR0_0.out HB.out)|(with_reducible refine Yh ?_ _)|(with_reducible refine Ye ?_ _)|(with_reducible refine Yi ?_)));(case side2=>exact HC0_0.out);rintro e w15 ⟨rfl,hb⟩;(first|refine⟨_,rfl,?_⟩|skip);replace HO242:=Za (Kd.R_below (by(with_reducible repeat(first|apply Zp|apply Zo|apply Zn));exact HO242.out) hb);replace BK239:=Za (Zk (g:=gb239) (o:= .cells #[.slice A0_0 l0_0.length c0_0,.int .i64 a0_1,.int .i64 a0_2,.int .i64 a0_3] 55 (0,0)) z6_15 hb);replace HB:=Za (Zi z6_8 hb);(try clear hb);(try clear hb2);(try clear hk);(try clear hi)))
    go_meet
    case rel=>exact⟨_,(false),z6_13,H',⟨by first|omega|exact Nat.le_refl _⟩,⟨by(with_reducible repeat(first|apply Zp|apply Zo|apply Zn));exact HO242.out⟩,⟨by(with_reducible repeat(first|refine blk_drewN ?_ _|refine blk_drew ?_|refine blk_alloc ?_ _));exact BK239.out⟩,⟨by repeat(first|(with_reducible first|exact HB.out|apply Zh|apply Ze|apply Zd|refine Zg ?_ GE239.out)|exact HB.out)⟩⟩
  case rest=>
   clear HC3
   (try clear c2);(try clear c2b0);(try clear c2b1)
   obtain⟨kq,x13_2,rfl,HA,HJ2,HO_3,BK239,HB⟩:=hcut
   cases kq with
   |zero=>exact absurd HA.out (by simp[spec_MayReadFirst.j0])
   |succ kj2=>
    have H:=HA.out
    clear HA
    simp only[spec_MayReadFirst.j0] at H
    by_cases c16:x13_2=true
    ·subst c16
     rw[if_pos rfl] at H
     by_cases c17:8≤281474976710656
     ·rw[if_pos c17] at H
      have c17b0:=eq_true c17
      have c17b1:decide (8≤281474976710656)=true:=Zq c17
      clear c17
      obtain⟨y245,hy245⟩:∃y_:List Bool,y_=(List.replicate 8 false):=⟨_,rfl⟩
      replace H:((spec_l07Pass.f kj2 l0_0 0 (l0_0.length:Int) y245 y240).bind fun bt248=>((spec_l07Note.f kj2 bt248.2 bt248.1 a0_1 a0_2 a0_3).bind fun t250=>((spec_l07List.f kj2 t250).bind fun t251=>(some t251))))=some r:=by first|(rw[hy245];with_reducible exact H)|(have H2_:=(Yk _ _).symm.trans H;rw[hy245];with_reducible exact H2_)|(have H2_:=(Yk _ _).symm.trans H;with_reducible exact H2_)|with_reducible exact H|(rw[hy245];exact H)|exact H
      have Ny245:=Za hy245
      clear hy245
      replace H:=Zl H
      obtain⟨⟨t248,t249⟩,A180,H⟩:=H
      replace H:((spec_l07Note.f kj2 t249 t248 a0_1 a0_2 a0_3).bind fun t250=>((spec_l07List.f kj2 t250).bind fun t251=>(some t251)))=some r:=H
      have A18:=Za A180
      clear A180
      replace H:=Zl H
      obtain⟨t250,A190,H⟩:=H
      replace H:((spec_l07List.f kj2 t250).bind fun t251=>(some t251))=some r:=H
      have A19:=Za A190
      clear A190
      replace H:=Zl H
      obtain⟨t251,A200,H⟩:=H
      replace H:(some t251)=some r:=H
      have A20:=Za A200
      clear A200
      obtain rfl:=Zm H
      go_wp2_with (first|((with_reducible refine Zr (N:=14) rfl ?_);refine Kd.R_make Kd.bool _ 4 rfl (N:=14) rfl 73 _ _ rfl 8 rfl rfl Tryz.underlying73 (.bool false) 1 info4 rfl (by decide) (by omega) false (ok:=fun _=>True) (okp:=fun _=>True) rfl (fun _ hk=>hk) trivial (by omega) (by omega) (Yc _ _) (Nat.le_refl _) ?_;intro v246 w21 ho22 hb hg_ hnew_;clear hg_ hnew_;(first|rw[←Ny245.out] at ho22|(simp only[Int.reduceToNat] at ho22;rw[←Ny245.out] at ho22));have HO247:=Za (Yq (Kd.R_new' ho22 (Kd.R_lt z6_6)) (Zt z6_8));replace HO_3:=Za (Yr z6_6 (Yo ho22) hb);replace BK239:=Za (Zk (g:=gb239) (o:= .cells #[.slice A0_0 l0_0.length c0_0,.int .i64 a0_1,.int .i64 a0_2,.int .i64 a0_3] 55 (0,0)) z6_15 hb);replace HB:=Za (Zi z6_8 hb);clear hb ho22;have hcz23_0:w21.cell? ⟨gb239,0,none⟩=some (.slice A0_0 l0_0.length c0_0):=(Zb BK239.out 0).trans rfl;have hcz23_1:w21.cell? ⟨gb239,1,none⟩=some (.int .i64 a0_1):=(Zb BK239.out 1).trans rfl;have hcz23_2:w21.cell? ⟨gb239,2,none⟩=some (.int .i64 a0_2):=(Zb BK239.out 2).trans rfl;have hcz23_3:w21.cell? ⟨gb239,3,none⟩=some (.int .i64 a0_3):=(Zb BK239.out 3).trans rfl;have hfz23_0:=Zc BK239.out 0;have hfz23_1:=Zc BK239.out 1;have hfz23_2:=Zc BK239.out 2;have hfz23_3:=Zc BK239.out 3;obtain⟨Ao24,co24,eo24⟩:=Yp HO247.out;subst eo24;obtain⟨Ao25,co25,eo25⟩:=Yp HO_3.out;subst eo25)|((first|((with_reducible refine gate_callee (f:=83) rfl ?_);refine goesL_ (some 22) rfl rfl Tryz.func83 (by kernel_rfl) rfl #[.slice A0_0 l0_0.length c0_0,.int .i64 0,.int .i64 (l0_0.length:Int),.slice Ao24 y245.length co24,.slice Ao25 y240.length co25] rfl z6_9 ?_;(with_reducible refine(spec_l07Pass.calls kj2 _ _ l0_0 0 (l0_0.length:Int) (fun k_=>some k_=(.slice Ao24 y245.length co24:Value).ownBlock) (.slice Ao24 y245.length co24) y245 (fun k_=>some k_=(.slice Ao25 y240.length co25:Value).ownBlock) (.slice Ao25 y240.length co25) y240 t248 t249 w _ ?side1 ?side2 ?side3 ?side4 ?side5 ?side6 ?side7 A18.out).mono ?_))|(go_at_call 83;(with_reducible refine(spec_l07Pass.calls kj2 _ _ l0_0 0 (l0_0.length:Int) (fun k_=>some k_=(.slice Ao24 y245.length co24:Value).ownBlock) (.slice Ao24 y245.length co24) y245 (fun k_=>some k_=(.slice Ao25 y240.length co25:Value).ownBlock) (.slice Ao25 y240.length co25) y240 t248 t249 w _ ?side1 ?side2 ?side3 ?side4 ?side5 ?side6 ?side7 A18.out).mono ?_)));(case side1=>exact z6_8);(case side2=>exact Kd.C_kept_came k77_heap HR0_0.out z6_8 (fun k_ hs_=>Or.elim hs_ (fun e_=>(fun e_=>Yo HO247.out k_ e_.symm) e_) (fun e_=>(fun e_=>Yo HO_3.out k_ e_.symm) e_)));(case side3=>exact HC0_0.out);(case side4=>exact Kd.R_tight rfl HO247.out);(case side5=>exact fun k_ e_=>(HO247.out.1 k_ e_.symm).2);(case side6=>exact Kd.R_tight rfl HO_3.out);(case side7=>exact fun k_ e_=>(HO_3.out.1 k_ e_.symm).2);rintro e w26 ⟨rfl,hy0,hy1,hb,hkp⟩;(first|refine⟨_,rfl,?_⟩|skip);replace BK239:=Za (blk_kept z6_15 hkp (fun hs_=>Or.elim hs_ (fun e_=>(fun e_=>(Kd.R_ne HO247.out BK239.out (by decide)) e_) e_) (fun e_=>(fun e_=>(Kd.R_ne HO_3.out BK239.out (by decide)) e_) e_)));replace HO_3:=Za (Kd.R_reok rfl hy1 (fun k_ e_=>HO_3.out.1 k_ e_));replace HO247:=Za (Kd.R_reok rfl hy0 (fun k_ e_=>HO247.out.1 k_ e_));replace HB:=Za (hb);(try clear hb);(try clear hkp);(try clear hy0);(try clear hy1);have hcz27_0:w26.cell? ⟨gb239,0,none⟩=some (.slice A0_0 l0_0.length c0_0):=(Zb BK239.out 0).trans rfl;have hcz27_1:w26.cell? ⟨gb239,1,none⟩=some (.int .i64 a0_1):=(Zb BK239.out 1).trans rfl;have hcz27_2:w26.cell? ⟨gb239,2,none⟩=some (.int .i64 a0_2):=(Zb BK239.out 2).trans rfl;have hcz27_3:w26.cell? ⟨gb239,3,none⟩=some (.int .i64 a0_3):=(Zb BK239.out 3).trans rfl;have hfz27_0:=Zc BK239.out 0;have hfz27_1:=Zc BK239.out 1;have hfz27_2:=Zc BK239.out 2;have hfz27_3:=Zc BK239.out 3)|((first|((with_reducible refine gate_callee (f:=84) rfl ?_);refine goesL_ (some 27) rfl rfl Tryz.func84 (by kernel_rfl) rfl #[.slice Ao25 y240.length co25,.slice Ao24 t248.length co24,.agg #[.int .i64 a0_1,.int .i64 a0_2,.int .i64 a0_3]] rfl (by(try simp only[Ys,Yt,List.map_nil]);first|done|(rw[show t248.length=y245.length from (Yd HO247.out).1.symm]<;>rfl)|rfl|(simp only[List.length_drop,List.length_take];rfl)) ?_;(with_reducible refine(spec_l07Note.calls kj2 (fun k_=>some k_=(.slice Ao25 y240.length co25:Value).ownBlock) (.slice Ao25 y240.length co25) t249 _ _ t248 a0_1 a0_2 a0_3 t250 w _ ?side1 ?side2 ?side3 ?side4 A19.out).mono ?_))|(go_at_call 84;(with_reducible refine(spec_l07Note.calls kj2 (fun k_=>some k_=(.slice Ao25 y240.length co25:Value).ownBlock) (.slice Ao25 y240.length co25) t249 _ _ t248 a0_1 a0_2 a0_3 t250 w _ ?side1 ?side2 ?side3 ?side4 A19.out).mono ?_)));(case side1=>exact z6_8);(case side2=>exact Kd.R_tight rfl HO_3.out);(case side3=>first|exact Kd.C_kept_own (HO247.out) (fun k_ hk_ hs_=>(hk_.2) hs_)|(have h_:=HO247.out;rw[(Yd HO247.out).1] at h_;exact Kd.C_kept_own h_ (fun k_ hk_ hs_=>(hk_.2) hs_)));(case side4=>rw[show t248.length=y245.length from (Yd HO247.out).1.symm];exact(Yd HO247.out).2.1);rintro e w28 ⟨rfl,hy0,hb,hkp⟩;(first|refine⟨_,rfl,?_⟩|skip);replace BK239:=Za (blk_kept z6_15 hkp (fun hs_=>(fun e_=>(Kd.R_ne HO_3.out BK239.out (by decide)) e_) hs_));replace HO_3:=Za (Kd.R_reok rfl hy0 (fun k_ e_=>HO_3.out.1 k_ e_));replace HO247:=Za (Yf (ok':=fun k_=>some k_≠(.slice Ao25 y240.length co25:Value).ownBlock) (Kd.R_keptB (HO247.out) hkp (fun k_ hk_ hs_=>(hk_.2) hs_)) (fun k_ hk_=>hk_.1.2));replace HB:=Za (hb);(try clear hb);(try clear hkp);(try clear hy0))|((first|((with_reducible refine gate_callee (f:=52) rfl ?_);refine goesL_ (some 29) rfl rfl Tryz.func52 (by kernel_rfl) rfl #[.slice Ao25 t250.length co25] rfl (by(try simp only[Ys,Yt,List.map_nil]);first|done|(rw[show t250.length=y240.length from (Yd HO_3.out).1.symm]<;>rfl)|rfl|(simp only[List.length_drop,List.length_take];rfl)) ?_;(with_reducible refine(spec_l07List.calls kj2 _ _ t250 t251 _ ?side1 ?side2 A20.out).mono ?_))|(go_at_call 52;(with_reducible refine(spec_l07List.calls kj2 _ _ t250 t251 _ ?side1 ?side2 A20.out).mono ?_)));(case side1=>exact z6_18);(case side2=>rw[show t250.length=y240.length from (Yd HO_3.out).1.symm];exact(Yd HO_3.out).2.1);rintro e w29 ⟨v252,rfl,ho0,hb⟩;(first|refine⟨_,rfl,?_⟩|skip);replace HO_3:=Za (Kd.R_below z6_6 hb);replace HO247:=Za (Kd.R_below (by(with_reducible repeat(first|apply Zp|apply Zo|apply Zn));exact HO247.out) hb);have HO253:=Za (Yq ho0 (Zt z6_8));replace BK239:=Za (Zk (g:=gb239) (o:= .cells #[.slice A0_0 l0_0.length c0_0,.int .i64 a0_1,.int .i64 a0_2,.int .i64 a0_3] 55 (0,0)) z6_15 hb);replace HB:=Za (Zi z6_8 hb);(try clear hb);(try clear hb2);(try clear hk);(try clear hi);(try clear ho0)))
      go_ret
      exact⟨_,by first|rfl|(simp[errW_none,errW_some]<;>rfl)|(simp[*,errW_none,errW_some]<;>rfl)|(simp[*,errW_none,errW_some,i64_w];done),by(with_reducible repeat(first|apply Zp|apply Zo|apply Zn));exact HO253.out,by repeat(first|(with_reducible first|exact HB.out|apply Zh|apply Ze|apply Zd|refine Zg ?_ GE239.out)|exact HB.out)⟩
     ·rw[if_neg c17] at H
      exact absurd H (by simp)
    ·replace c16:=Bool.eq_false_iff.mpr c16
     subst c16
     rw[if_neg (show ¬(false=true) by decide)] at H
     replace H:=Zl H
     obtain⟨t254,A300,H⟩:=H
     replace H:(some t254)=some r:=H
     have A30:=Za A300
     clear A300
     obtain rfl:=Zm H
     obtain⟨Ao31,co31,eo31⟩:=Yp HO_3.out
     subst eo31
     go_wp2_with (first|((first|((with_reducible refine gate_callee (f:=52) rfl ?_);refine goesL_ (some 29) rfl rfl Tryz.func52 (by kernel_rfl) rfl #[.slice Ao31 y240.length co31] rfl z6_9 ?_;(with_reducible refine(spec_l07List.calls kj2 _ _ y240 t254 _ ?side1 ?side2 A30.out).mono ?_))|(go_at_call 52;(with_reducible refine(spec_l07List.calls kj2 _ _ y240 t254 _ ?side1 ?side2 A30.out).mono ?_)));(case side1=>exact z6_18);(case side2=>exact(Yd HO_3.out).2.1);rintro e w32 ⟨v255,rfl,ho0,hb⟩;(first|refine⟨_,rfl,?_⟩|skip);replace HO_3:=Za (Kd.R_below z6_6 hb);have HO256:=Za (Yq ho0 (Zt z6_8));replace BK239:=Za (Zk (g:=gb239) (o:= .cells #[.slice A0_0 l0_0.length c0_0,.int .i64 a0_1,.int .i64 a0_2,.int .i64 a0_3] 55 (0,0)) z6_15 hb);replace HB:=Za (Zi z6_8 hb);(try clear hb);(try clear hb2);(try clear hk);(try clear hi);(try clear ho0)))
     go_ret
     exact⟨_,by first|rfl|(simp[errW_none,errW_some]<;>rfl)|(simp[*,errW_none,errW_some]<;>rfl)|(simp[*,errW_none,errW_some,i64_w];done),by(with_reducible repeat(first|apply Zp|apply Zo|apply Zn));exact HO256.out,by repeat(first|(with_reducible first|exact HB.out|apply Zh|apply Ze|apply Zd|refine Zg ?_ GE239.out)|exact HB.out)⟩
 ·rw[if_neg c2] at H
  exact absurd H (by simp)
end Go.Proofs.YtccjlmpeogifkaaGreat.G
