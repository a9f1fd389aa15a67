/- Functions of the program as plain Lean functions, and that each call comes to its function's answer; written by a program of the session. No condition. -/
import Derived.Test.YtdkbkkpbdmlmbaaGreatGx0
namespace Go.Proofs.YtdkbkkpbdmlmbaaGreat.G
open Go.RowKit Go.Proofs.YtdkbkkpbdmlmbaaGreatW.PrintWords Go.Proofs.YtdkbkkpbdmlmbaaGreatW.PrintLast Go.Proofs.YtdkbkkpbdmlmbaaGreatW.PrintMore
attribute [local go_sem] max2_int min2_int max_two min_two max_three min_three max_four min_four   -- for this text's walks alone
set_option linter.unusedVariables false
set_option linter.unusedSimpArgs false
theorem z2_0 {P:Prop} (h:P:=by repeat(first|(with_reducible first|exact HK.out|apply KeepBut.set_|apply keep_drewN|apply keep_drew|apply keep_alloc)|exact HK.out)):P:=h
theorem z2_1 {P:Prop} (h:P:=by(try simp only[Ys,List.map_cons,List.map_nil]);first|done|rfl|(simp only[List.length_drop,List.length_take];rfl)):P:=h
theorem z2_2 {P:Prop} (h:P:=by repeat(first|(with_reducible first|exact HB.out|apply Zh|apply Zf|apply Ze|refine Zd ?_ (IsS68.ge HI0.out))|exact HB.out)):P:=h
theorem z2_3 {P:Prop} (h:P:=by repeat(first|(with_reducible first|exact HK.out|apply KeepBut.set_|apply keep_drewN|apply keep_drew|apply keep_alloc|refine keep_far ?_ GW181.out _)|exact HK.out)):P:=h
theorem z2_4 {P:Prop} (h:P:=by repeat(first|(with_reducible first|exact HI0.out|apply IsS68.alloc|apply IsS68.drewN|apply IsS68.drew|apply IsS68.set_1|apply IsS68.set_2)|exact HI0.out)):P:=h
theorem z2_5 {P:Prop} (h:P:=by repeat(first|(with_reducible first|exact HI0.out|apply IsS68.alloc|apply IsS68.drewN|apply IsS68.drew|apply IsS68.set_1|apply IsS68.set_2|refine IsS68.far ?_ NB0_181.out _)|exact HI0.out)):P:=h
theorem z2_6 {P:Prop} (h:P:=by repeat(first|(with_reducible first|exact HB.out|apply Zh|apply Zf|apply Ze|refine Zd ?_ (IsS68.ge HI0.out)|refine Zd ?_ GE181.out)|exact HB.out)):P:=h
theorem z2_7 {P:Prop} (h:P:=by(with_reducible repeat(first|refine blk_drewN ?_ _|refine blk_drew ?_|refine blk_alloc ?_ _));exact BK181.out):P:=h
theorem z2_8 {P:Prop} (h:P:=by repeat(first|(with_reducible first|exact HI0.out|apply IsS68.alloc|apply IsS68.drewN|apply IsS68.drew|apply IsS68.set_1|apply IsS68.set_2|refine IsS68.far ?_ NB0_149.out _)|exact HI0.out)):P:=h
theorem z2_9 {P:Prop} (h:P:=by repeat(first|(with_reducible first|exact HB.out|apply Zh|apply Zf|apply Ze|refine Zd ?_ (IsS68.ge HI0.out)|refine Zd ?_ GE149.out)|exact HB.out)):P:=h
theorem z2_10 {P:Prop} (h:P:=by rw[hw];exact(by(with_reducible repeat(first|refine blk_drewN ?_ _|refine blk_drew ?_|refine blk_alloc ?_ _));refine blk_put (cs:= #[.int .i64 5,.int .i64 0,.int .i64 (wrap64 (1+t178)),.int .i64 0,.int .i64 0,.int .i64 0]) ?_ 5 _ rfl;(with_reducible repeat(first|refine blk_drewN ?_ _|refine blk_drew ?_|refine blk_alloc ?_ _));refine blk_put (cs:= #[.int .i64 5,.int .i64 0,.int .i64 (wrap64 (1+t178)),.int .i64 0,.int .i64 0,.int .i64 0]) ?_ 4 _ rfl;(with_reducible repeat(first|refine blk_drewN ?_ _|refine blk_drew ?_|refine blk_alloc ?_ _));refine blk_put (cs:= #[.int .i64 5,.int .i64 0,.int .i64 (wrap64 (1+t178)),.int .i64 0,.int .i64 0,.int .i64 0]) ?_ 3 _ rfl;(with_reducible repeat(first|refine blk_drewN ?_ _|refine blk_drew ?_|refine blk_alloc ?_ _));refine blk_put (cs:= #[.int .i64 5,.int .i64 0,.int .i64 0,.int .i64 0,.int .i64 0,.int .i64 0]) ?_ 2 _ rfl;(with_reducible repeat(first|refine blk_drewN ?_ _|refine blk_drew ?_|refine blk_alloc ?_ _));refine blk_put (cs:= #[.int .i64 5,.int .i64 0,.int .i64 0,.int .i64 0,.int .i64 0,.int .i64 0]) ?_ 1 _ rfl;(with_reducible repeat(first|refine blk_drewN ?_ _|refine blk_drew ?_|refine blk_alloc ?_ _));refine blk_put (cs:= #[.int .i64 0,.int .i64 0,.int .i64 0,.int .i64 0,.int .i64 0,.int .i64 0]) ?_ 0 _ rfl;(with_reducible repeat(first|refine blk_drewN ?_ _|refine blk_drew ?_|refine blk_alloc ?_ _));exact BK181.out)):P:=h
theorem z2_11 {P:Prop} (h:P:=by repeat(first|(with_reducible first|exact HK.out|apply KeepBut.set_|apply keep_drewN|apply keep_drew|apply keep_alloc|refine keep_far ?_ GW149.out _)|exact HK.out)):P:=h
theorem z2_12 {P:Prop} (h:P:=by repeat(first|(with_reducible first|exact HK.out|apply KeepBut.set_|apply keep_drewN|apply keep_drew|apply keep_alloc|refine keep_far ?_ GW243.out _|refine keep_far ?_ GW244.out _)|exact HK.out)):P:=h
theorem z2_13 {P:Prop} (h:P:=by(with_reducible repeat(first|apply Zo|apply Zm|apply Zn));exact HO_7.out):P:=h
theorem z2_14 {P:Prop} (h:P:=by repeat(first|(with_reducible first|exact HI0.out|apply IsS68.alloc|apply IsS68.drewN|apply IsS68.drew|apply IsS68.set_1|apply IsS68.set_2|refine IsS68.far ?_ NB0_243.out _|refine IsS68.far ?_ NB0_244.out _)|exact HI0.out)):P:=h
theorem z2_15 {P:Prop} (h:P:=by repeat(first|(with_reducible first|exact HB.out|apply Zh|apply Zf|apply Ze|refine Zd ?_ (IsS68.ge HI0.out)|refine Zd ?_ GE243.out|refine Zd ?_ GE244.out)|exact HB.out)):P:=h
theorem z2_16 {P:Prop} (h:P:=by(with_reducible repeat(first|refine blk_drewN ?_ _|refine blk_drew ?_|refine blk_alloc ?_ _));exact BK149.out):P:=h
theorem z2_17 {P:Prop} (h:P:=by(with_reducible repeat(first|refine blk_drewN ?_ _|refine blk_drew ?_|refine blk_alloc ?_ _));exact BK243.out):P:=h
theorem z2_18 {P:Prop} (h:P:=by rw[hw];exact(by(with_reducible repeat(first|apply Zo|apply Zm|apply Zn));exact Yk (Kd.R_far (p:=⟨gb181,5,none⟩) (Kd.R_far (p:=⟨gb181,4,none⟩) (Kd.R_far (p:=⟨gb181,3,none⟩) (Kd.R_far (p:=⟨gb181,2,none⟩) (Kd.R_far (p:=⟨gb181,1,none⟩) (Kd.R_far (p:=⟨gb181,0,none⟩) (Yk HO_7.out (fun k_ hk=>(⟨hk,hk.2⟩:_∧k_≠gb181))) (fun _ hk=>hk.2) (.int .i64 5)) (fun _ hk=>hk.2) (.int .i64 0)) (fun _ hk=>hk.2) (.int .i64 (wrap64 (1+t178)))) (fun _ hk=>hk.2) (.int .i64 0)) (fun _ hk=>hk.2) (.int .i64 0)) (fun _ hk=>hk.2) (.int .i64 0)) (fun _ hk=>hk.1.2))):P:=h
theorem z2_19 {P:Prop} (h:P:=by first|rfl|(simp;done)|(simp[*];done)):P:=h
theorem z2_20 {P:Prop} (h:P:=by first|(go_simp;done)|(go_simp;rfl)):P:=h
theorem z2_21 {P:Prop} (h:P:=by rw[hg];exact Nat.ne_of_lt (IsS68.lt (show IsS68 w0 _ g s0_0 s0_1 s0_2 from by repeat(first|(with_reducible first|exact HI0.out|apply IsS68.alloc|apply IsS68.drewN|apply IsS68.drew|apply IsS68.set_1|apply IsS68.set_2)|exact HI0.out)))):P:=h
theorem z2_22 {P:Prop} (h:P:=by rw[hg];exact Nat.ne_of_gt (IsS68.lt (show IsS68 w0 _ g s0_0 s0_1 s0_2 from by repeat(first|(with_reducible first|exact HI0.out|apply IsS68.alloc|apply IsS68.drewN|apply IsS68.drew|apply IsS68.set_1|apply IsS68.set_2)|exact HI0.out)))):P:=h
theorem z2_23 {P:Prop} (h:P:=by rw[hg];exact(Yh (by repeat(first|(with_reducible first|exact HBW.out|apply Zh|apply Zf|apply Ze)|exact HBW.out)))):P:=h
theorem z2_24 {P:Prop} (h:P:=by(with_reducible repeat(first|refine blk_drewN ?_ _|refine blk_drew ?_|refine blk_alloc ?_ _));exact BK244.out):P:=h
theorem z2_25 {P:Prop} (h:P:=by kernel_rfl):P:=h
theorem z2_26 {P:Prop} (h:P:=by repeat(first|(with_reducible first|exact HI0.out|apply IsS68.alloc|apply IsS68.drewN|apply IsS68.drew|apply IsS68.set_1|apply IsS68.set_2|refine IsS68.far ?_ NB0_139.out _)|exact HI0.out)):P:=h
theorem z2_27 {P:Prop} (h:P:=by repeat(first|(with_reducible first|exact HB.out|apply Zh|apply Zf|apply Ze|refine Zd ?_ (IsS68.ge HI0.out)|refine Zd ?_ GE139.out)|exact HB.out)):P:=h
theorem z2_28 {P:Prop} (h:P:=by repeat(first|(with_reducible first|exact HK.out|apply KeepBut.set_|apply keep_drewN|apply keep_drew|apply keep_alloc|refine keep_far ?_ GW243.out _)|exact HK.out)):P:=h
theorem z2_29 {P:Prop} (h:P:=by repeat(first|(with_reducible first|exact HK.out|apply KeepBut.set_|apply keep_drewN|apply keep_drew|apply keep_alloc|refine keep_far ?_ GW139.out _)|exact HK.out)):P:=h
theorem z2_30 {P:Prop} (h:P:=by(with_reducible repeat(first|apply Kd.S_alloc|apply Kd.S_drewN|apply Kd.S_drew));exact HO_245000.out):P:=h
theorem z2_31 {P:Prop} (h:P:=by rw[hg];exact Nat.ne_of_lt (IsS68.lt (show IsS68 w0 _ g s0_0 t179 t180 from by repeat(first|(with_reducible first|exact HI0.out|apply IsS68.alloc|apply IsS68.drewN|apply IsS68.drew|apply IsS68.set_1|apply IsS68.set_2)|exact HI0.out)))):P:=h
theorem z2_32 {P:Prop} (h:P:=by rw[hg];exact Nat.ne_of_gt (IsS68.lt (show IsS68 w0 _ g s0_0 t179 t180 from by repeat(first|(with_reducible first|exact HI0.out|apply IsS68.alloc|apply IsS68.drewN|apply IsS68.drew|apply IsS68.set_1|apply IsS68.set_2)|exact HI0.out)))):P:=h
theorem z2_33 {P:Prop} (h:P:=by first|(with_reducible assumption)|assumption):P:=h
theorem z2_34 {P:Prop} (h:P:=by(with_reducible repeat(first|refine blk_drewN ?_ _|refine blk_drew ?_|refine blk_alloc ?_ _));exact BK139.out):P:=h
theorem z2_35 {P:Prop} (h:P:=by rw[hg];exact(keep_size (w:=w) (g:=g) (row:=none) z2_0)):P:=h
theorem z2_36 {P:Prop} (h:P:=by exact(fun k_ hk=>⟨Kd.fresh' (Kd.R_lt (by(with_reducible repeat(first|apply Zo|apply Zm|apply Zn));exact HO215.out)) k_ hk,Kd.freshB (g:=gb181) (o:= .cells #[.int .i64 5,.int .i64 0,.int .i64 (wrap64 (1+t178)),.int .i64 0,.int .i64 0,.int .i64 0] 92 (0,0)) z2_7 k_ hk⟩)):P:=h
theorem z2_37 {P:Prop} (h:P:=by exact(fun k_ hk=>⟨Kd.fresh' (Kd.R_lt (by(with_reducible repeat(first|apply Zo|apply Zm|apply Zn));exact HO198.out)) k_ hk,Kd.freshB (g:=gb181) (o:= .cells #[.int .i64 4,.int .i64 0,.int .i64 0,.int .i64 t185,.int .i64 t186,.int .i64 t187] 92 (0,0)) z2_7 k_ hk⟩)):P:=h
theorem z2_38 {P:Prop} (h:P:=by exact(keep_size (w:=w) (g:=g) (row:=none) z2_3)):P:=h
def laws_big.f (l0:List Int):Option (Bool):=some (decide ((l0.length:Int) > 1048576))
set_option maxHeartbeats 8000000 in
set_option maxRecDepth 100000 in
theorem laws_big.calls (A0:Option Addr) (c0:Nat) (l0:List Int) (r:Bool) (w:World) (hr0:Kd.C (Kd.int .u8) w A0 l0.length l0) (hc0:l0.length≤c0) (h:laws_big.f l0=some r):
  Calls Tryz.prog 5 #[.slice A0 l0.length c0] w fun e w'=>e= .returned (.bool r)∧Drawn0 w w':=by
 have HR0:=Za hr0
 have HC0:=Za hc0
 clear hr0 hc0
 have H:(some (decide ((l0.length:Int) > 1048576)))=some r:=h
 clear h
 obtain rfl:=Zk H
 go_enter Tryz.func5,Tryz.ntmps5
 go_wp2
 go_ret
 exact⟨by first|rfl|(simp;done)|(simp[*];done),by repeat(first|exact Zv _|apply Zw)⟩
def IsS68 (w0 W:World) (g:Nat) (f0:List Int) (f1:Int) (f2:Int):Prop:=∃A0 c0,W.heap[g]? =some (.cells #[.slice A0 f0.length c0,.int .i64 f1,.int .i64 f2] 68 (0,0))∧w0.heap.size≤g∧Kd.C (Kd.int .u8) w0 A0 f0.length f0
theorem IsS68.grown {w0 W:World} {g:Nat} {f0:List Int} {f1:Int} {f2:Int} {W1:World} {row:Option Nat} (h:IsS68 w0 W g f0 f1 f2) (hw:W.grownBy W1 row) (hne:some g≠row):IsS68 w0 W1 g f0 f1 f2:=by
 obtain⟨A0,c0,hb,hg,hr0⟩:=h
 exact⟨A0,c0,blk_grown hb hw hne,hg,hr0⟩
theorem IsS68.kept {w0 W:World} {g:Nat} {f0:List Int} {f1:Int} {f2:Int} {W1:World} {S:Nat→Prop} (h:IsS68 w0 W g f0 f1 f2) (hk:Kept W W1 S) (hne:¬S g):IsS68 w0 W1 g f0 f1 f2:=by
 obtain⟨A0,c0,hb,hg,hr0⟩:=h
 exact⟨A0,c0,blk_kept hb hk hne,hg,hr0⟩
theorem IsS68.below {w0 W:World} {g:Nat} {f0:List Int} {f1:Int} {f2:Int} {W1:World} (h:IsS68 w0 W g f0 f1 f2) (hw:Below W.heap.size W W1):IsS68 w0 W1 g f0 f1 f2:=h.grown (grown_of_below hw none) (by simp)
theorem IsS68.alloc {w0 W:World} {g:Nat} {f0:List Int} {f1:Int} {f2:Int} (h:IsS68 w0 W g f0 f1 f2) (o:Obj):IsS68 w0 (W.alloc o) g f0 f1 f2:=h.below (Zh (Zx _ _) o)
theorem IsS68.drewN {w0 W:World} {g:Nat} {f0:List Int} {f1:Int} {f2:Int} (h:IsS68 w0 W g f0 f1 f2) (m:Nat):IsS68 w0 (W.drewN m) g f0 f1 f2:=h
theorem IsS68.drew {w0 W:World} {g:Nat} {f0:List Int} {f1:Int} {f2:Int} (h:IsS68 w0 W g f0 f1 f2):IsS68 w0 W.drew g f0 f1 f2:=h
theorem IsS68.at_ {w0 W:World} {g:Nat} {f0:List Int} {f1:Int} {f2:Int} {w':World} {m:Nat} (hq:W.drewN m=w') (h:IsS68 w0 W g f0 f1 f2):IsS68 w0 w' g f0 f1 f2:=by subst hq;exact IsS68.drewN h m
theorem IsS68.apart {w0 W:World} {g:Nat} {f0:List Int} {f1:Int} {f2:Int} {α:Type} {d:Kd α} {e:Nat} {base:Nat} {ok:Nat→Prop} {v:Value} {xs:List α} (h:IsS68 w0 W g f0 f1 f2) (ho:d.R e W base ok v xs) (ht:∀q,q∈e::d.E→q≠68):d.R e W base (fun k=>ok k∧k≠g) v xs:=by
 obtain⟨A0,c0,hb,hg,hr0⟩:=h
 exact Kd.R_types ho hb ht
theorem IsS68.own_ne {w0 W:World} {g:Nat} {f0:List Int} {f1:Int} {f2:Int} {α:Type} {d:Kd α} {e:Nat} {base:Nat} {ok:Nat→Prop} {v:Value} {xs:List α} (h:IsS68 w0 W g f0 f1 f2) (ho:d.R e W base ok v xs) (ht:e≠68):some g≠v.ownBlock:=by
 obtain⟨A0,c0,hb,hg,hr0⟩:=h
 exact Kd.R_ne ho hb ht
theorem IsS68.apartS {w0 W:World} {g:Nat} {f0:List Int} {f1:Int} {f2:Int} {α:Type} {d:Kd α} {e:Nat} {base:Nat} {ok:Nat→Prop} {v:Value} {xs:List α} (h:IsS68 w0 W g f0 f1 f2) (ho:d.S e W base ok v xs) (ht:∀q,q∈e::d.E→q≠68):d.S e W base (fun k=>ok k∧k≠g) v xs:=by
 obtain⟨A0,c0,hb,hg,hr0⟩:=h
 exact Kd.S_types ho hb ht
theorem IsS68.own_neS {w0 W:World} {g:Nat} {f0:List Int} {f1:Int} {f2:Int} {α:Type} {d:Kd α} {e:Nat} {base:Nat} {ok:Nat→Prop} {v:Value} {xs:List α} (h:IsS68 w0 W g f0 f1 f2) (ho:d.S e W base ok v xs) (ht:e≠68):some g≠v.ownBlock:=by
 obtain⟨A0,c0,hb,hg,hr0⟩:=h
 exact Kd.S_ne ho hb ht
theorem IsS68.lt {w0 W:World} {g:Nat} {f0:List Int} {f1:Int} {f2:Int} (h:IsS68 w0 W g f0 f1 f2):g<W.heap.size:=by
 obtain⟨A0,c0,hb,hg,hr0⟩:=h
 exact blk_lt hb
theorem IsS68.ge {w0 W:World} {g:Nat} {f0:List Int} {f1:Int} {f2:Int} (h:IsS68 w0 W g f0 f1 f2):w0.heap.size≤g:=by
 obtain⟨A0,c0,hb,hg,hr0⟩:=h
 exact hg
theorem IsS68.ne_blk {w0 W:World} {g:Nat} {f0:List Int} {f1:Int} {f2:Int} {a:Nat} {cs:Array Value} {t:TypeId} {fr:Nat×Nat} (h:IsS68 w0 W g f0 f1 f2) (hb2:W.heap[a]? =some (.cells cs t fr)) (ht:t≠68):g≠a:=by
 obtain⟨A0,c0,hb,hg,hr0⟩:=h
 rintro rfl
 rw[hb] at hb2
 injection hb2 with hb2
 injection hb2 with _ ht2
 exact ht ht2.symm
theorem IsS68.far {w0 W:World} {g:Nat} {f0:List Int} {f1:Int} {f2:Int} {p:Addr} (h:IsS68 w0 W g f0 f1 f2) (hne:g≠p.block) (u:Value):IsS68 w0 (W.setCell p u) g f0 f1 f2:=by
 obtain⟨A0,c0,hb,hg,hr0⟩:=h
 exact⟨A0,c0,blk_far hb hne u,hg,hr0⟩
theorem cellS68_0 {W:World} {g:Nat} {A0:Option Addr} {c0:Nat} {f0:List Int} {f1:Int} {f2:Int} (h:W.heap[g]? =some (.cells #[.slice A0 f0.length c0,.int .i64 f1,.int .i64 f2] 68 (0,0))):W.cell? ⟨g,0,none⟩=some (.slice A0 f0.length c0):=(Zb h 0).trans rfl
theorem cellS68_1 {W:World} {g:Nat} {A0:Option Addr} {c0:Nat} {f0:List Int} {f1:Int} {f2:Int} (h:W.heap[g]? =some (.cells #[.slice A0 f0.length c0,.int .i64 f1,.int .i64 f2] 68 (0,0))):W.cell? ⟨g,1,none⟩=some (.int .i64 f1):=(Zb h 1).trans rfl
theorem IsS68.set_1 {w0 W:World} {g:Nat} {f0:List Int} {f1:Int} {f2:Int} (h:IsS68 w0 W g f0 f1 f2) (x:Int):IsS68 w0 (W.setCell ⟨g,1,none⟩ (.int .i64 x)) g f0 x f2:=by
 obtain⟨A0,c0,hb,hg,hr0⟩:=h
 exact⟨A0,c0,by simpa using blk_set hb 1 (.int .i64 x),hg,hr0⟩
theorem cellS68_2 {W:World} {g:Nat} {A0:Option Addr} {c0:Nat} {f0:List Int} {f1:Int} {f2:Int} (h:W.heap[g]? =some (.cells #[.slice A0 f0.length c0,.int .i64 f1,.int .i64 f2] 68 (0,0))):W.cell? ⟨g,2,none⟩=some (.int .i64 f2):=(Zb h 2).trans rfl
theorem IsS68.set_2 {w0 W:World} {g:Nat} {f0:List Int} {f1:Int} {f2:Int} (h:IsS68 w0 W g f0 f1 f2) (x:Int):IsS68 w0 (W.setCell ⟨g,2,none⟩ (.int .i64 x)) g f0 f1 x:=by
 obtain⟨A0,c0,hb,hg,hr0⟩:=h
 exact⟨A0,c0,by simpa using blk_set hb 2 (.int .i64 x),hg,hr0⟩
theorem IsS68.new (w0 W:World) (A0:Option Addr) (c0:Nat) (f0:List Int) (f1:Int) (f2:Int) (hB:Below w0.heap.size w0 W) (hr0:Kd.C (Kd.int .u8) w0 A0 f0.length f0):IsS68 w0 (W.alloc (.cells #[.slice A0 f0.length c0,.int .i64 f1,.int .i64 f2] 68)) W.heap.size f0 f1 f2:=⟨A0,c0,by simpa using heap_alloc_new W _,hB.size,hr0⟩
def spec_l01New.l0:Nat→List Int→Int→Int→Option (List Int×Int×Int)
 |0,_,_,_=>none
 |k+1,x0,x3,x4=>if x4<(x0.length:Int) then (if x4<4000 then (if 0≤x4 then (spec_l01New.l0 k x0 (Go.bits .and .i64 (wrap64 ((wrap64 ((wrap64 (x3*131))+(wrap64 (rd x0 x4))))+7)) 1073741823) (wrap64 (x4+1))) else (none)) else (some (x0,0,x3))) else (some (x0,0,x3))
def spec_l01New.f (k:Nat) (l0:List Int):Option (List Int×Int×Int):=spec_l01New.l0 k l0 (wrap64 (98347+(l0.length:Int))) 0
theorem spec_l01New.mono_l:∀k,(∀y0 y1 y2,LeO (spec_l01New.l0 k y0 y1 y2) (spec_l01New.l0 (k+1) y0 y1 y2))
 |0=>fun _ _ _ r h=>by simp[spec_l01New.l0] at h
 |k+1=>by
  have ih0:=spec_l01New.mono_l k
  ·intro y0 y1 y2
   unfold spec_l01New.l0
   repeat' first
   |(with_reducible exact ih0 _ _ _)
   |(with_reducible exact Yn _)
   |(with_reducible exact Zz _)
   |(with_reducible refine Zu ?_ ?_)
   |(with_reducible refine Zt ?_ (fun _=> ?_))
   |exact ih0 _ _ _
   |exact Zz _
   |refine Zu ?_ ?_
   |refine Zt ?_ (fun _=> ?_)
theorem spec_l01New.mono:∀a0 k,LeO (spec_l01New.f k a0) (spec_l01New.f (k+1) a0):=by
 intro a0 k
 have ih0:=spec_l01New.mono_l k
 unfold spec_l01New.f
 repeat' first
   |(with_reducible exact ih0 _ _ _)
   |(with_reducible exact Yn _)
   |(with_reducible exact Zz _)
   |(with_reducible refine Zu ?_ ?_)
   |(with_reducible refine Zt ?_ (fun _=> ?_))
   |exact ih0 _ _ _
   |exact Zz _
   |refine Zu ?_ ?_
   |refine Zt ?_ (fun _=> ?_)
set_option maxHeartbeats 8000000 in
set_option maxRecDepth 100000 in
theorem spec_l01New.calls (k:Nat) (A0:Option Addr) (c0:Nat) (l0:List Int) (r1:List Int) (r2:Int) (r3:Int) (w0 w:World) (hB:Below w0.heap.size w0 w) (hr0:Kd.C (Kd.int .u8) w0 A0 l0.length l0) (hc0:l0.length≤c0) (h:spec_l01New.f k l0=some (r1,r2,r3)):
  Calls Tryz.prog 18 #[.slice A0 l0.length c0] w fun e w'=>∃g_:Nat,e= .returned (.pointer (some ⟨g_,0,none⟩))∧IsS68 w0 w' g_ r1 r2 r3∧Below w0.heap.size w0 w'∧Below w.heap.size w w':=by
 have hu68:=Tryz.underlying68
 have HR0:=Za hr0
 have HC0:=Za hc0
 clear hr0 hc0
 have HBW:=Za (Zx w.heap.size w)
 have HW0:=Za hB.size
 have HB:=Za hB
 clear hB
 have H:(spec_l01New.l0 k l0 (wrap64 (98347+(l0.length:Int))) 0)=some (r1,r2,r3):=h
 clear h
 have H':=Za H
 clear H
 go_enter Tryz.func18,Tryz.ntmps18
 go_wp2
 go_loopg [3,4] k (fun kq v3 v4 w'=>∃(x3_1:Int) (x4_1:Int),v3= .int .i64 x3_1∧v4= .int .i64 x4_1∧Aside0 (spec_l01New.l0 kq l0 x3_1 x4_1=some (r1,r2,r3))∧Aside0 (kq≤k)∧Aside0 (Below w0.heap.size w0 w')∧Aside0 (Below w.heap.size w w'))
 case atStart=>exact⟨(wrap64 (98347+(l0.length:Int))),(0),z2_19,z2_19,H',⟨Nat.le_refl _⟩,⟨by repeat(first|(with_reducible first|exact HB.out|apply Zh|apply Zf|apply Ze)|exact HB.out)⟩,⟨by repeat(first|(with_reducible first|exact HBW.out|apply Zh|apply Zf|apply Ze)|exact HBW.out)⟩⟩
 case round=>
  clear H'
  obtain⟨x3_1,x4_1,rfl,rfl,HA,HK1,HB,HBW⟩:=hrel
  cases gk with
  |zero=>exact absurd HA.out (by simp[spec_l01New.l0])
  |succ k1=>
   have H:=HA.out
   clear HA
   simp only[spec_l01New.l0] at H
   by_cases c2:x4_1<(l0.length:Int)
   ·rw[if_pos c2] at H
    have c2b0:decide (x4_1<(l0.length:Int))=true:=Zq c2
    clear c2
    by_cases c3:x4_1<4000
    ·rw[if_pos c3] at H
     have c3b0:decide (x4_1<4000)=true:=Zq c3
     clear c3
     by_cases c4:0≤x4_1
     ·rw[if_pos c4] at H
      have c4b0:decide (0≤x4_1)=true:=Zq c4
      clear c4
      have H':=Za H
      clear H
      have p101:0≤(x4_1:Int):=Zs z2_33
      have q101:x4_1<(l0.length:Int):=Zs z2_33
      obtain⟨ad101,e101,hx101_0⟩:=Kd.at_int HR0.out x4_1 p101 q101
      cases e101
      replace hx101_0:=pw_cell_below HB.out hx101_0
      replace p101:=eq_true p101
      replace q101:=eq_true q101
      go_wp2
      go_roundg k1
      case measure=>have:=HK1.out;omega
      case rel=>exact⟨(Go.bits .and .i64 (wrap64 ((wrap64 ((wrap64 (x3_1*131))+(wrap64 (rd l0 x4_1))))+7)) 1073741823),(wrap64 (x4_1+1)),z2_19,z2_19,H',⟨by have:=HK1.out;omega⟩,⟨by repeat(first|(with_reducible first|exact HB.out|apply Zh|apply Zf|apply Ze)|exact HB.out)⟩,⟨by repeat(first|(with_reducible first|exact HBW.out|apply Zh|apply Zf|apply Ze)|exact HBW.out)⟩⟩
     ·rw[if_neg c4] at H
      exact absurd H (by simp)
    ·rw[if_neg c3] at H
     have c3b0:decide (x4_1<4000)=false:=Yf c3
     clear c3
     simp only[Option.some.injEq,Prod.mk.injEq] at H
     obtain⟨rfl,rfl,rfl⟩:=H
     go_wp2_with (first|((with_reducible refine Zp (N:=31) rfl ?_);refine Zr ?hg (N:=31) ?hd (cs:= #[.slice A0 l0.length c0,.int .i64 0,.int .i64 x3_1]) (t:=68) ?hr ?_;(case hd=>rfl);(case hg=>rfl);(case hr=>exact z2_20);intro gb102 hg w5 hbox hb;replace HB:=Za (Zj (by repeat(first|(with_reducible first|exact HB.out|apply Zh|apply Zf|apply Ze)|exact HB.out)) hb);have BK102:=Za (hbox);have GW102:=Za ((z2_23:w.heap.size≤gb102));have GE102:=Za ((Nat.le_trans HW0.out (z2_23:w.heap.size≤gb102):w0.heap.size≤gb102));replace HBW:=Za (Zj HBW.out hb);clear hb hbox hg))
     go_ret
     exact⟨_,rfl,(show IsS68 w0 _ gb102 l0 0 x3_1 from ⟨_,_,by(with_reducible repeat(first|refine blk_drewN ?_ _|refine blk_drew ?_|refine blk_alloc ?_ _));exact BK102.out,GE102.out,HR0.out⟩),by repeat(first|(with_reducible first|exact HB.out|apply Zh|apply Zf|apply Ze|refine Zd ?_ GE102.out)|exact HB.out),by repeat(first|(with_reducible first|exact HBW.out|apply Zh|apply Zf|apply Ze|refine Zd ?_ GW102.out)|exact HBW.out)⟩
   ·rw[if_neg c2] at H
    have c2b0:decide (x4_1<(l0.length:Int))=false:=Yf c2
    clear c2
    simp only[Option.some.injEq,Prod.mk.injEq] at H
    obtain⟨rfl,rfl,rfl⟩:=H
    go_wp2_with (first|((with_reducible refine Zp (N:=31) rfl ?_);refine Zr ?hg (N:=31) ?hd (cs:= #[.slice A0 l0.length c0,.int .i64 0,.int .i64 x3_1]) (t:=68) ?hr ?_;(case hd=>rfl);(case hg=>rfl);(case hr=>exact z2_20);intro gb103 hg w6 hbox hb;replace HB:=Za (Zj (by repeat(first|(with_reducible first|exact HB.out|apply Zh|apply Zf|apply Ze)|exact HB.out)) hb);have BK103:=Za (hbox);have GW103:=Za ((z2_23:w.heap.size≤gb103));have GE103:=Za ((Nat.le_trans HW0.out (z2_23:w.heap.size≤gb103):w0.heap.size≤gb103));replace HBW:=Za (Zj HBW.out hb);clear hb hbox hg))
    go_ret
    exact⟨_,rfl,(show IsS68 w0 _ gb103 l0 0 x3_1 from ⟨_,_,by(with_reducible repeat(first|refine blk_drewN ?_ _|refine blk_drew ?_|refine blk_alloc ?_ _));exact BK103.out,GE103.out,HR0.out⟩),by repeat(first|(with_reducible first|exact HB.out|apply Zh|apply Zf|apply Ze|refine Zd ?_ GE103.out)|exact HB.out),by repeat(first|(with_reducible first|exact HBW.out|apply Zh|apply Zf|apply Ze|refine Zd ?_ GW103.out)|exact HBW.out)⟩
def spec_l01Byte.f (s0_0:List Int) (s0_1:Int) (s0_2:Int):Option (Int×Int×Int):=if s0_1<(s0_0.length:Int) then (if 0≤s0_1 then (some (Go.bits .and .i64 (wrap64 ((Go.bits .and .i64 (Go.bits .xor .i64 ((wrap64 ((wrap64 (s0_2*6364136223846793005))+1442695040888963407)) / 8589934592) ((wrap64 ((wrap64 (s0_2*6364136223846793005))+1442695040888963407)) / 35184372088832)) 255)+(wrap64 (rd s0_0 s0_1)))) 255,wrap64 (s0_1+1),wrap64 ((wrap64 (s0_2*6364136223846793005))+1442695040888963407))) else (none)) else (some (Go.bits .and .i64 (Go.bits .xor .i64 ((wrap64 ((wrap64 (s0_2*6364136223846793005))+1442695040888963407)) / 8589934592) ((wrap64 ((wrap64 (s0_2*6364136223846793005))+1442695040888963407)) / 35184372088832)) 255,s0_1,wrap64 ((wrap64 (s0_2*6364136223846793005))+1442695040888963407)))
set_option maxHeartbeats 8000000 in
set_option maxRecDepth 100000 in
theorem spec_l01Byte.calls (g:Nat) (s0_0:List Int) (s0_1:Int) (s0_2:Int) (r1:Int) (r2:Int) (r3:Int) (w0 w:World) (hI:IsS68 w0 w g s0_0 s0_1 s0_2) (hB:Below w0.heap.size w0 w) (h:spec_l01Byte.f s0_0 s0_1 s0_2=some (r1,r2,r3)):
  Calls Tryz.prog 42 #[.pointer (some ⟨g,0,none⟩)] w fun e w'=>e= .returned (.int .i64 r1)∧IsS68 w0 w' g s0_0 r2 r3∧Below w0.heap.size w0 w'∧KeepBut w w' g none:=by
 have HI0:=Za hI
 have HK:=Za (KeepBut.refl w g none)
 have HL:=Za hB.size
 clear hI
 have HW0:=Za hB.size
 have HB:=Za hB
 clear hB
 have H:(if s0_1<(s0_0.length:Int) then (if 0≤s0_1 then (some (Go.bits .and .i64 (wrap64 ((Go.bits .and .i64 (Go.bits .xor .i64 ((wrap64 ((wrap64 (s0_2*6364136223846793005))+1442695040888963407)) / 8589934592) ((wrap64 ((wrap64 (s0_2*6364136223846793005))+1442695040888963407)) / 35184372088832)) 255)+(wrap64 (rd s0_0 s0_1)))) 255,wrap64 (s0_1+1),wrap64 ((wrap64 (s0_2*6364136223846793005))+1442695040888963407))) else (none)) else (some (Go.bits .and .i64 (Go.bits .xor .i64 ((wrap64 ((wrap64 (s0_2*6364136223846793005))+1442695040888963407)) / 8589934592) ((wrap64 ((wrap64 (s0_2*6364136223846793005))+1442695040888963407)) / 35184372088832)) 255,s0_1,wrap64 ((wrap64 (s0_2*6364136223846793005))+1442695040888963407))))=some (r1,r2,r3):=h
 clear h
 by_cases c2:s0_1<(s0_0.length:Int)
 ·rw[if_pos c2] at H
  have c2b0:decide (s0_1<(s0_0.length:Int))=true:=Zq c2
  clear c2
  by_cases c3:0≤s0_1
  ·rw[if_pos c3] at H
   have c3b0:decide (0≤s0_1)=true:=Zq c3
   clear c3
   simp only[Option.some.injEq,Prod.mk.injEq] at H
   obtain⟨rfl,rfl,rfl⟩:=H
   obtain⟨ASz4_0,cSz4_0,HGz4,hgz4,HSz4_0⟩:=HI0.out
   have hcz4_0:=cellS68_0 HGz4
   have hcz4_1:=cellS68_1 HGz4
   have hcz4_2:=cellS68_2 HGz4
   have hfz4_1:=Zc HGz4 1
   have hfz4_2:=Zc HGz4 2
   clear HGz4 hgz4
   have p104:0≤(s0_1:Int):=Zs z2_33
   have q104:s0_1<(s0_0.length:Int):=Zs z2_33
   obtain⟨ad104,e104,hx104_0⟩:=Kd.at_int HSz4_0 s0_1 p104 q104
   cases e104
   have hn104_0:ad104.block≠g:=Nat.ne_of_lt (Nat.lt_of_lt_of_le (by have:=Yq _ _ hx104_0;first|rwa [add_block] at this|exact this) (IsS68.ge HI0.out))
   replace hx104_0:=pw_cell_below HB.out hx104_0
   replace hx104_0:=(cell_far (p:=⟨g,2,none⟩) (by first|(rw[add_block];exact hn104_0)|(show(Addr.add _ _).block≠_;rw[add_block];exact hn104_0)|exact hn104_0) (.int .i64 (wrap64 ((wrap64 (s0_2*6364136223846793005))+1442695040888963407)))).trans hx104_0
   (try have hy104_0:=fun (n_:Nat)=>(show(((w.drewN n_).setCell ⟨g,2,none⟩ (.int .i64 (wrap64 ((wrap64 (s0_2*6364136223846793005))+1442695040888963407))))).cell? _=some _ from hx104_0))
   clear hn104_0
   replace p104:=eq_true p104
   replace q104:=eq_true q104
   go_enter Tryz.func42,Tryz.ntmps42
   go_wp2
   repeat(go_quiet (fail);try go_wp2)
   go_ret
   exact⟨by first|rfl|(simp[errW_none,errW_some]<;>rfl)|(simp[*,errW_none,errW_some]<;>rfl)|(simp[*,errW_none,errW_some,i64_w];done),by repeat(first|(with_reducible first|exact HI0.out|apply IsS68.alloc|apply IsS68.drewN|apply IsS68.drew|apply IsS68.set_1|apply IsS68.set_2)|exact HI0.out),by repeat(first|(with_reducible first|exact HB.out|apply Zh|apply Zf|apply Ze|refine Zd ?_ (IsS68.ge HI0.out))|exact HB.out),by repeat(first|(with_reducible first|exact HK.out|apply KeepBut.set_|apply keep_drewN|apply keep_drew|apply keep_alloc)|exact HK.out)⟩
  ·rw[if_neg c3] at H
   exact absurd H (by simp)
 ·rw[if_neg c2] at H
  have c2b0:decide (s0_1<(s0_0.length:Int))=false:=Yf c2
  clear c2
  simp only[Option.some.injEq,Prod.mk.injEq] at H
  obtain⟨rfl,rfl,rfl⟩:=H
  obtain⟨ASz5_0,cSz5_0,HGz5,hgz5,HSz5_0⟩:=HI0.out
  have hcz5_0:=cellS68_0 HGz5
  have hcz5_1:=cellS68_1 HGz5
  have hcz5_2:=cellS68_2 HGz5
  have hfz5_1:=Zc HGz5 1
  have hfz5_2:=Zc HGz5 2
  clear HGz5 hgz5
  go_enter Tryz.func42,Tryz.ntmps42
  go_wp2
  repeat(go_quiet (fail);try go_wp2)
  go_ret
  exact⟨by first|rfl|(simp[errW_none,errW_some]<;>rfl)|(simp[*,errW_none,errW_some]<;>rfl)|(simp[*,errW_none,errW_some,i64_w];done),by repeat(first|(with_reducible first|exact HI0.out|apply IsS68.alloc|apply IsS68.drewN|apply IsS68.drew|apply IsS68.set_1|apply IsS68.set_2)|exact HI0.out),by repeat(first|(with_reducible first|exact HB.out|apply Zh|apply Zf|apply Ze|refine Zd ?_ (IsS68.ge HI0.out))|exact HB.out),by repeat(first|(with_reducible first|exact HK.out|apply KeepBut.set_|apply keep_drewN|apply keep_drew|apply keep_alloc)|exact HK.out)⟩
def spec_l01Below.f (s0_0:List Int) (s0_1:Int) (s0_2:Int) (a1:Int):Option (Int×Int×Int):=if a1≤0 then (some (0,s0_1,s0_2)) else (if a1≤256 then ((spec_l01Byte.f s0_0 s0_1 s0_2).bind fun bt105=>(if a1=0 then (none) else (some (Int.tmod bt105.1 a1,bt105.2.1,bt105.2.2)))) else ((spec_l01Byte.f s0_0 s0_1 s0_2).bind fun bt108=>((spec_l01Byte.f s0_0 bt108.2.1 bt108.2.2).bind fun bt111=>((spec_l01Byte.f s0_0 bt111.2.1 bt111.2.2).bind fun bt114=>((spec_l01Byte.f s0_0 bt114.2.1 bt114.2.2).bind fun bt117=>(if a1=0 then (none) else (some (Int.tmod (wrap64 ((wrap64 ((wrap64 ((wrap64 (bt108.1*16777216))+(wrap64 (bt111.1*65536))))+(wrap64 (bt114.1*256))))+bt117.1)) a1,bt117.2.1,bt117.2.2))))))))
set_option maxHeartbeats 8000000 in
set_option maxRecDepth 100000 in
theorem spec_l01Below.calls (g:Nat) (s0_0:List Int) (s0_1:Int) (s0_2:Int) (a1:Int) (r1:Int) (r2:Int) (r3:Int) (w0 w:World) (hI:IsS68 w0 w g s0_0 s0_1 s0_2) (hB:Below w0.heap.size w0 w) (h:spec_l01Below.f s0_0 s0_1 s0_2 a1=some (r1,r2,r3)):
  Calls Tryz.prog 24 #[.pointer (some ⟨g,0,none⟩),.int .i64 a1] w fun e w'=>e= .returned (.int .i64 r1)∧IsS68 w0 w' g s0_0 r2 r3∧Below w0.heap.size w0 w'∧KeepBut w w' g none:=by
 have HI0:=Za hI
 have HK:=Za (KeepBut.refl w g none)
 have HL:=Za hB.size
 clear hI
 have HW0:=Za hB.size
 have HB:=Za hB
 clear hB
 have H:(if a1≤0 then (some (0,s0_1,s0_2)) else (if a1≤256 then ((spec_l01Byte.f s0_0 s0_1 s0_2).bind fun bt105=>(if a1=0 then (none) else (some (Int.tmod bt105.1 a1,bt105.2.1,bt105.2.2)))) else ((spec_l01Byte.f s0_0 s0_1 s0_2).bind fun bt108=>((spec_l01Byte.f s0_0 bt108.2.1 bt108.2.2).bind fun bt111=>((spec_l01Byte.f s0_0 bt111.2.1 bt111.2.2).bind fun bt114=>((spec_l01Byte.f s0_0 bt114.2.1 bt114.2.2).bind fun bt117=>(if a1=0 then (none) else (some (Int.tmod (wrap64 ((wrap64 ((wrap64 ((wrap64 (bt108.1*16777216))+(wrap64 (bt111.1*65536))))+(wrap64 (bt114.1*256))))+bt117.1)) a1,bt117.2.1,bt117.2.2)))))))))=some (r1,r2,r3):=h
 clear h
 by_cases c3:a1≤0
 ·rw[if_pos c3] at H
  have c3b0:decide (a1≤0)=true:=Zq c3
  clear c3
  simp only[Option.some.injEq,Prod.mk.injEq] at H
  obtain⟨rfl,rfl,rfl⟩:=H
  go_enter Tryz.func24,Tryz.ntmps24
  go_wp2
  go_ret
  exact⟨by first|rfl|(simp[errW_none,errW_some]<;>rfl)|(simp[*,errW_none,errW_some]<;>rfl)|(simp[*,errW_none,errW_some,i64_w];done),by repeat(first|(with_reducible first|exact HI0.out|apply IsS68.alloc|apply IsS68.drewN|apply IsS68.drew|apply IsS68.set_1|apply IsS68.set_2)|exact HI0.out),by repeat(first|(with_reducible first|exact HB.out|apply Zh|apply Zf|apply Ze|refine Zd ?_ (IsS68.ge HI0.out))|exact HB.out),by repeat(first|(with_reducible first|exact HK.out|apply KeepBut.set_|apply keep_drewN|apply keep_drew|apply keep_alloc)|exact HK.out)⟩
 ·rw[if_neg c3] at H
  have c3b0:decide (a1≤0)=false:=Yf c3
  clear c3
  by_cases c4:a1≤256
  ·rw[if_pos c4] at H
   have c4b0:decide (a1≤256)=true:=Zq c4
   clear c4
   replace H:=Zg H
   obtain⟨⟨t105,t106,t107⟩,A50,H⟩:=H
   replace H:(if a1=0 then (none) else (some (Int.tmod t105 a1,t106,t107)))=some (r1,r2,r3):=H
   have A5:=Za A50
   clear A50
   by_cases c6:a1=0
   ·rw[if_pos c6] at H
    exact absurd H (by simp)
   ·rw[if_neg c6] at H
    have c6b0:(a1==0)=false:=beq_eq_false_iff_ne.mpr c6
    have c6b1:(a1 != 0)=true:=bne_iff_ne.mpr c6
    simp only[Option.some.injEq,Prod.mk.injEq] at H
    obtain⟨rfl,rfl,rfl⟩:=H
    go_enter Tryz.func24,Tryz.ntmps24
    go_wp2_with (first|((first|((with_reducible refine gate_callee (f:=42) rfl ?_);refine goesL_ (some 14) rfl rfl Tryz.func42 z2_25 rfl #[.pointer (some ⟨g,0,none⟩)] rfl z2_1 ?_;(with_reducible refine(spec_l01Byte.calls g s0_0 s0_1 s0_2 t105 t106 t107 w0 _ ?side1 ?side2 A5.out).mono ?_))|(go_at_call 42;(with_reducible refine(spec_l01Byte.calls g s0_0 s0_1 s0_2 t105 t106 t107 w0 _ ?side1 ?side2 A5.out).mono ?_)));(case side1=>exact z2_4);(case side2=>exact z2_2);rintro e w7 ⟨rfl,hi,hb,hk⟩;(first|refine⟨_,rfl,?_⟩|skip);replace HK:=Za (KeepBut.trans z2_0 hk (.inl rfl));replace HB:=Za (hb);replace HI0:=Za (hi);(try clear hb);(try clear hb2);(try clear hk);(try clear hi)))
    go_ret
    exact⟨by first|rfl|(simp[errW_none,errW_some]<;>rfl)|(simp[*,errW_none,errW_some]<;>rfl)|(simp[*,errW_none,errW_some,i64_w];done),by repeat(first|(with_reducible first|exact HI0.out|apply IsS68.alloc|apply IsS68.drewN|apply IsS68.drew|apply IsS68.set_1|apply IsS68.set_2)|exact HI0.out),by repeat(first|(with_reducible first|exact HB.out|apply Zh|apply Zf|apply Ze|refine Zd ?_ (IsS68.ge HI0.out))|exact HB.out),by repeat(first|(with_reducible first|exact HK.out|apply KeepBut.set_|apply keep_drewN|apply keep_drew|apply keep_alloc)|exact HK.out)⟩
  ·rw[if_neg c4] at H
   have c4b0:decide (a1≤256)=false:=Yf c4
   clear c4
   replace H:=Zg H
   obtain⟨⟨t108,t109,t110⟩,A80,H⟩:=H
   replace H:((spec_l01Byte.f s0_0 t109 t110).bind fun bt111=>((spec_l01Byte.f s0_0 bt111.2.1 bt111.2.2).bind fun bt114=>((spec_l01Byte.f s0_0 bt114.2.1 bt114.2.2).bind fun bt117=>(if a1=0 then (none) else (some (Int.tmod (wrap64 ((wrap64 ((wrap64 ((wrap64 (t108*16777216))+(wrap64 (bt111.1*65536))))+(wrap64 (bt114.1*256))))+bt117.1)) a1,bt117.2.1,bt117.2.2))))))=some (r1,r2,r3):=H
   have A8:=Za A80
   clear A80
   replace H:=Zg H
   obtain⟨⟨t111,t112,t113⟩,A90,H⟩:=H
   replace H:((spec_l01Byte.f s0_0 t112 t113).bind fun bt114=>((spec_l01Byte.f s0_0 bt114.2.1 bt114.2.2).bind fun bt117=>(if a1=0 then (none) else (some (Int.tmod (wrap64 ((wrap64 ((wrap64 ((wrap64 (t108*16777216))+(wrap64 (t111*65536))))+(wrap64 (bt114.1*256))))+bt117.1)) a1,bt117.2.1,bt117.2.2)))))=some (r1,r2,r3):=H
   have A9:=Za A90
   clear A90
   replace H:=Zg H
   obtain⟨⟨t114,t115,t116⟩,A100,H⟩:=H
   replace H:((spec_l01Byte.f s0_0 t115 t116).bind fun bt117=>(if a1=0 then (none) else (some (Int.tmod (wrap64 ((wrap64 ((wrap64 ((wrap64 (t108*16777216))+(wrap64 (t111*65536))))+(wrap64 (t114*256))))+bt117.1)) a1,bt117.2.1,bt117.2.2))))=some (r1,r2,r3):=H
   have A10:=Za A100
   clear A100
   replace H:=Zg H
   obtain⟨⟨t117,t118,t119⟩,A110,H⟩:=H
   replace H:(if a1=0 then (none) else (some (Int.tmod (wrap64 ((wrap64 ((wrap64 ((wrap64 (t108*16777216))+(wrap64 (t111*65536))))+(wrap64 (t114*256))))+t117)) a1,t118,t119)))=some (r1,r2,r3):=H
   have A11:=Za A110
   clear A110
   by_cases c12:a1=0
   ·rw[if_pos c12] at H
    exact absurd H (by simp)
   ·rw[if_neg c12] at H
    have c12b0:(a1==0)=false:=beq_eq_false_iff_ne.mpr c12
    have c12b1:(a1 != 0)=true:=bne_iff_ne.mpr c12
    simp only[Option.some.injEq,Prod.mk.injEq] at H
    obtain⟨rfl,rfl,rfl⟩:=H
    go_enter Tryz.func24,Tryz.ntmps24
    go_wp2_with (first|((first|((with_reducible refine gate_callee (f:=42) rfl ?_);refine goesL_ (some 18) rfl rfl Tryz.func42 z2_25 rfl #[.pointer (some ⟨g,0,none⟩)] rfl z2_1 ?_;(with_reducible refine(spec_l01Byte.calls g s0_0 s0_1 s0_2 t108 t109 t110 w0 _ ?side1 ?side2 A8.out).mono ?_))|(go_at_call 42;(with_reducible refine(spec_l01Byte.calls g s0_0 s0_1 s0_2 t108 t109 t110 w0 _ ?side1 ?side2 A8.out).mono ?_)));(case side1=>exact z2_4);(case side2=>exact z2_2);rintro e w13 ⟨rfl,hi,hb,hk⟩;(first|refine⟨_,rfl,?_⟩|skip);replace HK:=Za (KeepBut.trans z2_0 hk (.inl rfl));replace HB:=Za (hb);replace HI0:=Za (hi);(try clear hb);(try clear hb2);(try clear hk);(try clear hi))|((first|((with_reducible refine gate_callee (f:=42) rfl ?_);refine goesL_ (some 20) rfl rfl Tryz.func42 z2_25 rfl #[.pointer (some ⟨g,0,none⟩)] rfl z2_1 ?_;(with_reducible refine(spec_l01Byte.calls g s0_0 t109 t110 t111 t112 t113 w0 _ ?side1 ?side2 A9.out).mono ?_))|(go_at_call 42;(with_reducible refine(spec_l01Byte.calls g s0_0 t109 t110 t111 t112 t113 w0 _ ?side1 ?side2 A9.out).mono ?_)));(case side1=>exact z2_4);(case side2=>exact z2_2);rintro e w14 ⟨rfl,hi,hb,hk⟩;(first|refine⟨_,rfl,?_⟩|skip);replace HK:=Za (KeepBut.trans z2_0 hk (.inl rfl));replace HB:=Za (hb);replace HI0:=Za (hi);(try clear hb);(try clear hb2);(try clear hk);(try clear hi))|((first|((with_reducible refine gate_callee (f:=42) rfl ?_);refine goesL_ (some 22) rfl rfl Tryz.func42 z2_25 rfl #[.pointer (some ⟨g,0,none⟩)] rfl z2_1 ?_;(with_reducible refine(spec_l01Byte.calls g s0_0 t112 t113 t114 t115 t116 w0 _ ?side1 ?side2 A10.out).mono ?_))|(go_at_call 42;(with_reducible refine(spec_l01Byte.calls g s0_0 t112 t113 t114 t115 t116 w0 _ ?side1 ?side2 A10.out).mono ?_)));(case side1=>exact z2_4);(case side2=>exact z2_2);rintro e w15 ⟨rfl,hi,hb,hk⟩;(first|refine⟨_,rfl,?_⟩|skip);replace HK:=Za (KeepBut.trans z2_0 hk (.inl rfl));replace HB:=Za (hb);replace HI0:=Za (hi);(try clear hb);(try clear hb2);(try clear hk);(try clear hi))|((first|((with_reducible refine gate_callee (f:=42) rfl ?_);refine goesL_ (some 24) rfl rfl Tryz.func42 z2_25 rfl #[.pointer (some ⟨g,0,none⟩)] rfl z2_1 ?_;(with_reducible refine(spec_l01Byte.calls g s0_0 t115 t116 t117 t118 t119 w0 _ ?side1 ?side2 A11.out).mono ?_))|(go_at_call 42;(with_reducible refine(spec_l01Byte.calls g s0_0 t115 t116 t117 t118 t119 w0 _ ?side1 ?side2 A11.out).mono ?_)));(case side1=>exact z2_4);(case side2=>exact z2_2);rintro e w16 ⟨rfl,hi,hb,hk⟩;(first|refine⟨_,rfl,?_⟩|skip);replace HK:=Za (KeepBut.trans z2_0 hk (.inl rfl));replace HB:=Za (hb);replace HI0:=Za (hi);(try clear hb);(try clear hb2);(try clear hk);(try clear hi)))
    go_ret
    exact⟨by first|rfl|(simp[errW_none,errW_some]<;>rfl)|(simp[*,errW_none,errW_some]<;>rfl)|(simp[*,errW_none,errW_some,i64_w];done),by repeat(first|(with_reducible first|exact HI0.out|apply IsS68.alloc|apply IsS68.drewN|apply IsS68.drew|apply IsS68.set_1|apply IsS68.set_2)|exact HI0.out),by repeat(first|(with_reducible first|exact HB.out|apply Zh|apply Zf|apply Ze|refine Zd ?_ (IsS68.ge HI0.out))|exact HB.out),by repeat(first|(with_reducible first|exact HK.out|apply KeepBut.set_|apply keep_drewN|apply keep_drew|apply keep_alloc)|exact HK.out)⟩
def spec_l01PickInt.f (s0_0:List Int) (s0_1:Int) (s0_2:Int) (l1:List Int):Option (Int×Int×Int):=(spec_l01Below.f s0_0 s0_1 s0_2 (l1.length:Int)).bind fun bt120=>(if 0≤bt120.1 then (if bt120.1<(l1.length:Int) then (some (rd l1 bt120.1,bt120.2.1,bt120.2.2)) else (none)) else (none))
set_option maxHeartbeats 8000000 in
set_option maxRecDepth 100000 in
theorem spec_l01PickInt.calls (g:Nat) (s0_0:List Int) (s0_1:Int) (s0_2:Int) (A1:Option Addr) (c1:Nat) (l1:List Int) (r1:Int) (r2:Int) (r3:Int) (w0 w:World) (hI:IsS68 w0 w g s0_0 s0_1 s0_2) (hB:Below w0.heap.size w0 w) (hr1:Kd.C (Kd.int .i64) w A1 l1.length l1) (hc1:l1.length≤c1) (hf1:∀ad,A1=some ad→0<l1.length→ad.block≠g) (h:spec_l01PickInt.f s0_0 s0_1 s0_2 l1=some (r1,r2,r3)):
  Calls Tryz.prog 63 #[.pointer (some ⟨g,0,none⟩),.slice A1 l1.length c1] w fun e w'=>e= .returned (.int .i64 r1)∧IsS68 w0 w' g s0_0 r2 r3∧Below w0.heap.size w0 w'∧KeepBut w w' g none:=by
 have HR1:=Za hr1
 have HC1:=Za hc1
 clear hr1 hc1
 have HI0:=Za hI
 have HK:=Za (KeepBut.refl w g none)
 have HL:=Za hB.size
 clear hI
 have HW0:=Za hB.size
 have HB:=Za hB
 clear hB
 have H:((spec_l01Below.f s0_0 s0_1 s0_2 (l1.length:Int)).bind fun bt120=>(if 0≤bt120.1 then (if bt120.1<(l1.length:Int) then (some (rd l1 bt120.1,bt120.2.1,bt120.2.2)) else (none)) else (none)))=some (r1,r2,r3):=h
 clear h
 replace H:=Zg H
 obtain⟨⟨t120,t121,t122⟩,A30,H⟩:=H
 replace H:(if 0≤t120 then (if t120<(l1.length:Int) then (some (rd l1 t120,t121,t122)) else (none)) else (none))=some (r1,r2,r3):=H
 have A3:=Za A30
 clear A30
 by_cases c4:0≤t120
 ·rw[if_pos c4] at H
  have c4b0:decide (0≤t120)=true:=Zq c4
  clear c4
  by_cases c5:t120<(l1.length:Int)
  ·rw[if_pos c5] at H
   have c5b0:decide (t120<(l1.length:Int))=true:=Zq c5
   clear c5
   simp only[Option.some.injEq,Prod.mk.injEq] at H
   obtain⟨rfl,rfl,rfl⟩:=H
   go_enter Tryz.func63,Tryz.ntmps63
   go_wp2_with (first|((first|((with_reducible refine gate_callee (f:=24) rfl ?_);refine goesL_ (some 9) rfl rfl Tryz.func24 z2_25 rfl #[.pointer (some ⟨g,0,none⟩),.int .i64 (l1.length:Int)] rfl z2_1 ?_;(with_reducible refine(spec_l01Below.calls g s0_0 s0_1 s0_2 (l1.length:Int) t120 t121 t122 w0 _ ?side1 ?side2 A3.out).mono ?_))|(go_at_call 24;(with_reducible refine(spec_l01Below.calls g s0_0 s0_1 s0_2 (l1.length:Int) t120 t121 t122 w0 _ ?side1 ?side2 A3.out).mono ?_)));(case side1=>exact z2_4);(case side2=>exact z2_2);rintro e w6 ⟨rfl,hi,hb,hk⟩;(first|refine⟨_,rfl,?_⟩|skip);replace HK:=Za (KeepBut.trans z2_0 hk (.inl rfl));replace HB:=Za (hb);replace HI0:=Za (hi);(try clear hb);(try clear hb2);(try clear hk);(try clear hi);have p123:0≤(t120:Int):=Zs z2_33;have q123:t120<(l1.length:Int):=Zs z2_33;obtain⟨ad123,e123,hx123_0⟩:=Kd.at_int HR1.out t120 p123 q123;cases e123;replace hx123_0:=keep_cell HK.out hx123_0 (by first|(rw[add_block];exact hf1 _ rfl (by omega))|exact hf1 _ rfl (by omega)|exact hf1 ad123 rfl (by omega));replace p123:=eq_true p123;replace q123:=eq_true q123))
   go_ret
   exact⟨by first|rfl|(simp[errW_none,errW_some]<;>rfl)|(simp[*,errW_none,errW_some]<;>rfl)|(simp[*,errW_none,errW_some,i64_w];done),by repeat(first|(with_reducible first|exact HI0.out|apply IsS68.alloc|apply IsS68.drewN|apply IsS68.drew|apply IsS68.set_1|apply IsS68.set_2)|exact HI0.out),by repeat(first|(with_reducible first|exact HB.out|apply Zh|apply Zf|apply Ze|refine Zd ?_ (IsS68.ge HI0.out))|exact HB.out),by repeat(first|(with_reducible first|exact HK.out|apply KeepBut.set_|apply keep_drewN|apply keep_drew|apply keep_alloc)|exact HK.out)⟩
  ·rw[if_neg c5] at H
   exact absurd H (by simp)
 ·rw[if_neg c4] at H
  exact absurd H (by simp)
def spec_l01Once.f (s0_0:List Int) (s0_1:Int) (s0_2:Int) (a1:Int):Option (Bool×Int×Int):=(spec_l01Below.f s0_0 s0_1 s0_2 a1).bind fun bt124=>(some ((bt124.1==0),bt124.2.1,bt124.2.2))
set_option maxHeartbeats 8000000 in
set_option maxRecDepth 100000 in
theorem spec_l01Once.calls (g:Nat) (s0_0:List Int) (s0_1:Int) (s0_2:Int) (a1:Int) (r1:Bool) (r2:Int) (r3:Int) (w0 w:World) (hI:IsS68 w0 w g s0_0 s0_1 s0_2) (hB:Below w0.heap.size w0 w) (h:spec_l01Once.f s0_0 s0_1 s0_2 a1=some (r1,r2,r3)):
  Calls Tryz.prog 92 #[.pointer (some ⟨g,0,none⟩),.int .i64 a1] w fun e w'=>e= .returned (.bool r1)∧IsS68 w0 w' g s0_0 r2 r3∧Below w0.heap.size w0 w'∧KeepBut w w' g none:=by
 have HI0:=Za hI
 have HK:=Za (KeepBut.refl w g none)
 have HL:=Za hB.size
 clear hI
 have HW0:=Za hB.size
 have HB:=Za hB
 clear hB
 have H:((spec_l01Below.f s0_0 s0_1 s0_2 a1).bind fun bt124=>(some ((bt124.1==0),bt124.2.1,bt124.2.2)))=some (r1,r2,r3):=h
 clear h
 replace H:=Zg H
 obtain⟨⟨t124,t125,t126⟩,A30,H⟩:=H
 replace H:(some ((t124==0),t125,t126))=some (r1,r2,r3):=H
 have A3:=Za A30
 clear A30
 simp only[Option.some.injEq,Prod.mk.injEq] at H
 obtain⟨rfl,rfl,rfl⟩:=H
 go_enter Tryz.func92,Tryz.ntmps92
 go_wp2_with (first|((first|((with_reducible refine gate_callee (f:=24) rfl ?_);refine goesL_ (some 7) rfl rfl Tryz.func24 z2_25 rfl #[.pointer (some ⟨g,0,none⟩),.int .i64 a1] rfl z2_1 ?_;(with_reducible refine(spec_l01Below.calls g s0_0 s0_1 s0_2 a1 t124 t125 t126 w0 _ ?side1 ?side2 A3.out).mono ?_))|(go_at_call 24;(with_reducible refine(spec_l01Below.calls g s0_0 s0_1 s0_2 a1 t124 t125 t126 w0 _ ?side1 ?side2 A3.out).mono ?_)));(case side1=>exact z2_4);(case side2=>exact z2_2);rintro e w4 ⟨rfl,hi,hb,hk⟩;(first|refine⟨_,rfl,?_⟩|skip);replace HK:=Za (KeepBut.trans z2_0 hk (.inl rfl));replace HB:=Za (hb);replace HI0:=Za (hi);(try clear hb);(try clear hb2);(try clear hk);(try clear hi)))
 go_ret
 exact⟨by first|rfl|(simp[errW_none,errW_some]<;>rfl)|(simp[*,errW_none,errW_some]<;>rfl)|(simp[*,errW_none,errW_some,i64_w];done),by repeat(first|(with_reducible first|exact HI0.out|apply IsS68.alloc|apply IsS68.drewN|apply IsS68.drew|apply IsS68.set_1|apply IsS68.set_2)|exact HI0.out),by repeat(first|(with_reducible first|exact HB.out|apply Zh|apply Zf|apply Ze|refine Zd ?_ (IsS68.ge HI0.out))|exact HB.out),by repeat(first|(with_reducible first|exact HK.out|apply KeepBut.set_|apply keep_drewN|apply keep_drew|apply keep_alloc)|exact HK.out)⟩
def spec_l03Operand.f (s0_0:List Int) (s0_1:Int) (s0_2:Int):Option (Int×Int×Int):=(spec_l01Once.f s0_0 s0_1 s0_2 2).bind fun bt127=>(if bt127.1=true then ((spec_l01Below.f s0_0 bt127.2.1 bt127.2.2 5).bind fun bt130=>(some (wrap64 ((-1) - bt130.1),bt130.2.1,bt130.2.2))) else ((spec_l01PickInt.f s0_0 bt127.2.1 bt127.2.2 (([0,1,2,3,10,999]:List Int))).bind fun bt136=>(some (bt136.1,bt136.2.1,bt136.2.2))))
set_option maxHeartbeats 8000000 in
set_option maxRecDepth 100000 in
theorem spec_l03Operand.calls (g:Nat) (s0_0:List Int) (s0_1:Int) (s0_2:Int) (r1:Int) (r2:Int) (r3:Int) (w0 w:World) (hI:IsS68 w0 w g s0_0 s0_1 s0_2) (hB:Below w0.heap.size w0 w) (h:spec_l03Operand.f s0_0 s0_1 s0_2=some (r1,r2,r3)):
  Calls Tryz.prog 66 #[.pointer (some ⟨g,0,none⟩)] w fun e w'=>e= .returned (.int .i64 r1)∧IsS68 w0 w' g s0_0 r2 r3∧Below w0.heap.size w0 w'∧KeepBut w w' g none:=by
 have HI0:=Za hI
 have HK:=Za (KeepBut.refl w g none)
 have HL:=Za hB.size
 clear hI
 have HW0:=Za hB.size
 have HB:=Za hB
 clear hB
 have H:((spec_l01Once.f s0_0 s0_1 s0_2 2).bind fun bt127=>(if bt127.1=true then ((spec_l01Below.f s0_0 bt127.2.1 bt127.2.2 5).bind fun bt130=>(some (wrap64 ((-1) - bt130.1),bt130.2.1,bt130.2.2))) else ((spec_l01PickInt.f s0_0 bt127.2.1 bt127.2.2 (([0,1,2,3,10,999]:List Int))).bind fun bt136=>(some (bt136.1,bt136.2.1,bt136.2.2)))))=some (r1,r2,r3):=h
 clear h
 replace H:=Zg H
 obtain⟨⟨t127,t128,t129⟩,A20,H⟩:=H
 replace H:(if t127=true then ((spec_l01Below.f s0_0 t128 t129 5).bind fun bt130=>(some (wrap64 ((-1) - bt130.1),bt130.2.1,bt130.2.2))) else ((spec_l01PickInt.f s0_0 t128 t129 (([0,1,2,3,10,999]:List Int))).bind fun bt136=>(some (bt136.1,bt136.2.1,bt136.2.2))))=some (r1,r2,r3):=H
 have A2:=Za A20
 clear A20
 by_cases c3:t127=true
 ·subst c3
  have H1:((spec_l01Below.f s0_0 t128 t129 5).bind fun bt130=>(some (wrap64 ((-1) - bt130.1),bt130.2.1,bt130.2.2)))=some (r1,r2,r3):=by rw[if_pos rfl] at H;exact H
  clear H
  have H:=H1
  clear H1
  replace H:=Zg H
  obtain⟨⟨t130,t131,t132⟩,A40,H⟩:=H
  replace H:(some (wrap64 ((-1) - t130),t131,t132))=some (r1,r2,r3):=H
  have A4:=Za A40
  clear A40
  simp only[Option.some.injEq,Prod.mk.injEq] at H
  obtain⟨rfl,rfl,rfl⟩:=H
  go_enter Tryz.func66,Tryz.ntmps66
  go_wp2_with (first|((first|((with_reducible refine gate_callee (f:=92) rfl ?_);refine goesL_ (some 4) rfl rfl Tryz.func92 z2_25 rfl #[.pointer (some ⟨g,0,none⟩),.int .i64 2] rfl z2_1 ?_;(with_reducible refine(spec_l01Once.calls g s0_0 s0_1 s0_2 2 true t128 t129 w0 _ ?side1 ?side2 A2.out).mono ?_))|(go_at_call 92;(with_reducible refine(spec_l01Once.calls g s0_0 s0_1 s0_2 2 true t128 t129 w0 _ ?side1 ?side2 A2.out).mono ?_)));(case side1=>exact z2_4);(case side2=>exact z2_2);rintro e w5 ⟨rfl,hi,hb,hk⟩;(first|refine⟨_,rfl,?_⟩|skip);replace HK:=Za (KeepBut.trans z2_0 hk (.inl rfl));replace HB:=Za (hb);replace HI0:=Za (hi);(try clear hb);(try clear hb2);(try clear hk);(try clear hi))|((first|((with_reducible refine gate_callee (f:=24) rfl ?_);refine goesL_ (some 6) rfl rfl Tryz.func24 z2_25 rfl #[.pointer (some ⟨g,0,none⟩),.int .i64 5] rfl z2_1 ?_;(with_reducible refine(spec_l01Below.calls g s0_0 t128 t129 5 t130 t131 t132 w0 _ ?side1 ?side2 A4.out).mono ?_))|(go_at_call 24;(with_reducible refine(spec_l01Below.calls g s0_0 t128 t129 5 t130 t131 t132 w0 _ ?side1 ?side2 A4.out).mono ?_)));(case side1=>exact z2_4);(case side2=>exact z2_2);rintro e w6 ⟨rfl,hi,hb,hk⟩;(first|refine⟨_,rfl,?_⟩|skip);replace HK:=Za (KeepBut.trans z2_0 hk (.inl rfl));replace HB:=Za (hb);replace HI0:=Za (hi);(try clear hb);(try clear hb2);(try clear hk);(try clear hi)))
  go_ret
  exact⟨by first|rfl|(simp[errW_none,errW_some]<;>rfl)|(simp[*,errW_none,errW_some]<;>rfl)|(simp[*,errW_none,errW_some,i64_w];done),by repeat(first|(with_reducible first|exact HI0.out|apply IsS68.alloc|apply IsS68.drewN|apply IsS68.drew|apply IsS68.set_1|apply IsS68.set_2)|exact HI0.out),by repeat(first|(with_reducible first|exact HB.out|apply Zh|apply Zf|apply Ze|refine Zd ?_ (IsS68.ge HI0.out))|exact HB.out),by repeat(first|(with_reducible first|exact HK.out|apply KeepBut.set_|apply keep_drewN|apply keep_drew|apply keep_alloc)|exact HK.out)⟩
 ·replace c3:=Bool.eq_false_iff.mpr c3
  subst c3
  have H1:((spec_l01PickInt.f s0_0 t128 t129 (([0,1,2,3,10,999]:List Int))).bind fun bt136=>(some (bt136.1,bt136.2.1,bt136.2.2)))=some (r1,r2,r3):=by rw[if_neg (show ¬(false=true) by decide)] at H;exact H
  clear H
  have H:=H1
  clear H1
  obtain⟨y133,hy133⟩:∃y_:List Int,y_=(([0,1,2,3,10,999]:List Int)):=⟨_,rfl⟩
  replace H:((spec_l01PickInt.f s0_0 t128 t129 y133).bind fun bt136=>(some (bt136.1,bt136.2.1,bt136.2.2)))=some (r1,r2,r3):=by first|(rw[hy133];with_reducible exact H)|(have H2_:=(Yc _ _).symm.trans H;rw[hy133];with_reducible exact H2_)|(have H2_:=(Yc _ _).symm.trans H;with_reducible exact H2_)|with_reducible exact H|(rw[hy133];exact H)|exact H
  have Ny133:=Za hy133
  clear hy133
  replace H:=Zg H
  obtain⟨⟨t136,t137,t138⟩,A70,H⟩:=H
  replace H:(some (t136,t137,t138))=some (r1,r2,r3):=H
  have A7:=Za A70
  clear A70
  simp only[Option.some.injEq,Prod.mk.injEq] at H
  obtain⟨rfl,rfl,rfl⟩:=H
  go_enter Tryz.func66,Tryz.ntmps66
  go_wp2_with (first|((first|((with_reducible refine gate_callee (f:=92) rfl ?_);refine goesL_ (some 4) rfl rfl Tryz.func92 z2_25 rfl #[.pointer (some ⟨g,0,none⟩),.int .i64 2] rfl z2_1 ?_;(with_reducible refine(spec_l01Once.calls g s0_0 s0_1 s0_2 2 false t128 t129 w0 _ ?side1 ?side2 A2.out).mono ?_))|(go_at_call 92;(with_reducible refine(spec_l01Once.calls g s0_0 s0_1 s0_2 2 false t128 t129 w0 _ ?side1 ?side2 A2.out).mono ?_)));(case side1=>exact z2_4);(case side2=>exact z2_2);rintro e w8 ⟨rfl,hi,hb,hk⟩;(first|refine⟨_,rfl,?_⟩|skip);replace HK:=Za (KeepBut.trans z2_0 hk (.inl rfl));replace HB:=Za (hb);replace HI0:=Za (hi);(try clear hb);(try clear hb2);(try clear hk);(try clear hi))|((with_reducible refine Zp (N:=9) rfl ?_);refine Kd.R_lit (Kd.int .i64) _ 3 ?hg (N:=9) ?hd (xs:=([0,1,2,3,10,999]:List Int)) (inner:=[.int .i64 0,.int .i64 1,.int .i64 2,.int .i64 3,.int .i64 10,.int .i64 999]) (ok:=fun _=>True) (okp:=fun _=>True) ?hr ?hp (fun _ hk=>hk) trivial (Zx _ _) (Nat.le_refl _) (by simp) ?_;(case hd=>rfl);(case hg=>rfl);(case hr=>exact z2_20);(case hp=>exact(Reps.one (show Kd.M (Kd.int .i64) _ _ _ 0 [.int .i64 0] from rfl) (Reps.one (show Kd.M (Kd.int .i64) _ _ _ 1 [.int .i64 1] from rfl) (Reps.one (show Kd.M (Kd.int .i64) _ _ _ 2 [.int .i64 2] from rfl) (Reps.one (show Kd.M (Kd.int .i64) _ _ _ 3 [.int .i64 3] from rfl) (Reps.one (show Kd.M (Kd.int .i64) _ _ _ 10 [.int .i64 10] from rfl) (Reps.one (show Kd.M (Kd.int .i64) _ _ _ 999 [.int .i64 999] from rfl) (Reps.none _ _))))))));intro v134 w9 ho10 hb hg_ hnew_;clear hg_ hnew_;(first|rw[←Ny133.out] at ho10|(simp only[Int.reduceToNat] at ho10;rw[←Ny133.out] at ho10));have HO135:=Za (Yr ho10 (keep_size (w:=w) (g:=g) (row:=none) z2_0));replace HK:=Za (KeepBut.trans z2_0 (KeepBut.of_below hb g none) (.inl rfl));replace HB:=Za (Zj z2_2 hb);replace HI0:=Za (IsS68.below z2_4 hb);clear hb ho10;obtain⟨Ao11,co11,eo11⟩:=Ym HO135.out;subst eo11)|((first|((with_reducible refine gate_callee (f:=63) rfl ?_);refine goesL_ (some 10) rfl rfl Tryz.func63 z2_25 rfl #[.pointer (some ⟨g,0,none⟩),.slice Ao11 y133.length co11] rfl z2_1 ?_;(with_reducible refine(spec_l01PickInt.calls g s0_0 t128 t129 _ _ y133 t136 t137 t138 w0 _ ?side1 ?side2 ?side3 ?side4 ?side5 A7.out).mono ?_))|(go_at_call 63;(with_reducible refine(spec_l01PickInt.calls g s0_0 t128 t129 _ _ y133 t136 t137 t138 w0 _ ?side1 ?side2 ?side3 ?side4 ?side5 A7.out).mono ?_)));(case side1=>exact z2_4);(case side2=>exact z2_2);(case side3=>repeat(first|exact(Yp HO135.out).2.2|(with_reducible refine Yi ?_ _)|(with_reducible refine Yg ?_ _)|(with_reducible refine Yj ?_)));(case side4=>exact(Yp HO135.out).2.1);(case side5=>exact far_slice (IsS68.own_ne HI0.out HO135.out (by decide)));rintro e w12 ⟨rfl,hi,hb,hk⟩;(first|refine⟨_,rfl,?_⟩|skip);replace HO135:=Za (Yk (Kd.R_keep (IsS68.apart (show IsS68 w0 _ g s0_0 t128 t129 from by repeat(first|(with_reducible first|exact HI0.out|apply IsS68.alloc|apply IsS68.drewN|apply IsS68.drew|apply IsS68.set_1|apply IsS68.set_2)|exact HI0.out)) (by(with_reducible repeat(first|apply Zo|apply Zm|apply Zn));exact HO135.out) (by decide)) hk (fun _ h=>h.2)) (fun _ h=>h.1));replace HK:=Za (KeepBut.trans z2_0 hk (.inl rfl));replace HB:=Za (hb);replace HI0:=Za (hi);(try clear hb);(try clear hb2);(try clear hk);(try clear hi)))
  go_ret
  exact⟨by first|rfl|(simp[errW_none,errW_some]<;>rfl)|(simp[*,errW_none,errW_some]<;>rfl)|(simp[*,errW_none,errW_some,i64_w];done),by repeat(first|(with_reducible first|exact HI0.out|apply IsS68.alloc|apply IsS68.drewN|apply IsS68.drew|apply IsS68.set_1|apply IsS68.set_2)|exact HI0.out),by repeat(first|(with_reducible first|exact HB.out|apply Zh|apply Zf|apply Ze|refine Zd ?_ (IsS68.ge HI0.out))|exact HB.out),by repeat(first|(with_reducible first|exact HK.out|apply KeepBut.set_|apply keep_drewN|apply keep_drew|apply keep_alloc)|exact HK.out)⟩
def spec_l03Expr.f (s0_0:List Int) (s0_1:Int) (s0_2:Int):Option (Int×Int×Int×Int×Int):=(spec_l01Below.f s0_0 s0_1 s0_2 7).bind fun bt140=>((spec_l03Operand.f s0_0 bt140.2.1 bt140.2.2).bind fun bt143=>((spec_l03Operand.f s0_0 bt143.2.1 bt143.2.2).bind fun bt146=>(some (wrap64 (1+bt140.1),bt143.1,bt146.1,bt146.2.1,bt146.2.2))))
set_option maxHeartbeats 8000000 in
set_option maxRecDepth 100000 in
theorem spec_l03Expr.calls (g:Nat) (s0_0:List Int) (s0_1:Int) (s0_2:Int) (r1:Int) (r2:Int) (r3:Int) (r4:Int) (r5:Int) (w0 w:World) (hI:IsS68 w0 w g s0_0 s0_1 s0_2) (hB:Below w0.heap.size w0 w) (h:spec_l03Expr.f s0_0 s0_1 s0_2=some (r1,r2,r3,r4,r5)):
  Calls Tryz.prog 38 #[.pointer (some ⟨g,0,none⟩)] w fun e w'=>e= .returned (.agg #[.int .i64 r1,.int .i64 r2,.int .i64 r3])∧IsS68 w0 w' g s0_0 r4 r5∧Below w0.heap.size w0 w'∧KeepBut w w' g none:=by
 have hu72:=Tryz.underlying72
 have HI0:=Za hI
 have HK:=Za (KeepBut.refl w g none)
 have HL:=Za hB.size
 clear hI
 have HW0:=Za hB.size
 have HB:=Za hB
 clear hB
 have H:((spec_l01Below.f s0_0 s0_1 s0_2 7).bind fun bt140=>((spec_l03Operand.f s0_0 bt140.2.1 bt140.2.2).bind fun bt143=>((spec_l03Operand.f s0_0 bt143.2.1 bt143.2.2).bind fun bt146=>(some (wrap64 (1+bt140.1),bt143.1,bt146.1,bt146.2.1,bt146.2.2)))))=some (r1,r2,r3,r4,r5):=h
 clear h
 replace H:=Zg H
 obtain⟨⟨t140,t141,t142⟩,A20,H⟩:=H
 replace H:((spec_l03Operand.f s0_0 t141 t142).bind fun bt143=>((spec_l03Operand.f s0_0 bt143.2.1 bt143.2.2).bind fun bt146=>(some (wrap64 (1+t140),bt143.1,bt146.1,bt146.2.1,bt146.2.2))))=some (r1,r2,r3,r4,r5):=H
 have A2:=Za A20
 clear A20
 replace H:=Zg H
 obtain⟨⟨t143,t144,t145⟩,A30,H⟩:=H
 replace H:((spec_l03Operand.f s0_0 t144 t145).bind fun bt146=>(some (wrap64 (1+t140),t143,bt146.1,bt146.2.1,bt146.2.2)))=some (r1,r2,r3,r4,r5):=H
 have A3:=Za A30
 clear A30
 replace H:=Zg H
 obtain⟨⟨t146,t147,t148⟩,A40,H⟩:=H
 replace H:(some (wrap64 (1+t140),t143,t146,t147,t148))=some (r1,r2,r3,r4,r5):=H
 have A4:=Za A40
 clear A40
 simp only[Option.some.injEq,Prod.mk.injEq] at H
 obtain⟨rfl,rfl,rfl,rfl,rfl⟩:=H
 go_enter Tryz.func38,Tryz.ntmps38
 go_wp2_with (first|((with_reducible refine Zp (N:=2) rfl ?_);refine Zr ?hg (N:=2) ?hd (cs:= #[.int .i64 0,.int .i64 0,.int .i64 0]) (t:=72) ?hr ?_;(case hd=>rfl);(case hg=>rfl);(case hr=>exact z2_20);intro gb139 hg w5 hbox hb;replace HB:=Za (Zj z2_2 hb);have BK139:=Za (hbox);have GW139:=Za ((z2_35:w.heap.size≤gb139));have GE139:=Za ((Nat.le_trans HW0.out (z2_35:w.heap.size≤gb139):w0.heap.size≤gb139));replace HK:=Za (KeepBut.trans z2_0 (KeepBut.of_below hb g none) (.inl rfl));have NB0_139:=Za ((z2_21:g≠gb139));have NB139_0:=Za ((z2_22:gb139≠g));replace HI0:=Za (IsS68.below z2_4 hb);clear hb hbox hg)|((first|((with_reducible refine gate_callee (f:=24) rfl ?_);refine goesL_ (some 4) rfl rfl Tryz.func24 z2_25 rfl #[.pointer (some ⟨g,0,none⟩),.int .i64 7] rfl z2_1 ?_;(with_reducible refine(spec_l01Below.calls g s0_0 s0_1 s0_2 7 t140 t141 t142 w0 _ ?side1 ?side2 A2.out).mono ?_))|(go_at_call 24;(with_reducible refine(spec_l01Below.calls g s0_0 s0_1 s0_2 7 t140 t141 t142 w0 _ ?side1 ?side2 A2.out).mono ?_)));(case side1=>exact z2_26);(case side2=>exact z2_27);rintro e w6 ⟨rfl,hi,hb,hk⟩;(first|refine⟨_,rfl,?_⟩|skip);replace BK139:=Za (KeepBut.blk hk (g':=gb139) (o:= .cells #[.int .i64 0,.int .i64 0,.int .i64 0] 72 (0,0)) z2_34 NB139_0.out (by simp));replace HK:=Za (KeepBut.trans z2_29 hk (.inl rfl));replace HB:=Za (hb);replace HI0:=Za (hi);(try clear hb);(try clear hb2);(try clear hk);(try clear hi))|((first|((with_reducible refine gate_callee (f:=66) rfl ?_);refine goesL_ (some 7) rfl rfl Tryz.func66 z2_25 rfl #[.pointer (some ⟨g,0,none⟩)] rfl z2_1 ?_;(with_reducible refine(spec_l03Operand.calls g s0_0 t141 t142 t143 t144 t145 w0 _ ?side1 ?side2 A3.out).mono ?_))|(go_at_call 66;(with_reducible refine(spec_l03Operand.calls g s0_0 t141 t142 t143 t144 t145 w0 _ ?side1 ?side2 A3.out).mono ?_)));(case side1=>exact z2_26);(case side2=>exact z2_27);rintro e w7 ⟨rfl,hi,hb,hk⟩;(first|refine⟨_,rfl,?_⟩|skip);replace BK139:=Za (KeepBut.blk hk (g':=gb139) (o:= .cells #[.int .i64 0,.int .i64 0,.int .i64 0] 72 (0,0)) z2_34 NB139_0.out (by simp));replace HK:=Za (KeepBut.trans z2_29 hk (.inl rfl));replace HB:=Za (hb);replace HI0:=Za (hi);(try clear hb);(try clear hb2);(try clear hk);(try clear hi))|((first|((with_reducible refine gate_callee (f:=66) rfl ?_);refine goesL_ (some 9) rfl rfl Tryz.func66 z2_25 rfl #[.pointer (some ⟨g,0,none⟩)] rfl z2_1 ?_;(with_reducible refine(spec_l03Operand.calls g s0_0 t144 t145 t146 t147 t148 w0 _ ?side1 ?side2 A4.out).mono ?_))|(go_at_call 66;(with_reducible refine(spec_l03Operand.calls g s0_0 t144 t145 t146 t147 t148 w0 _ ?side1 ?side2 A4.out).mono ?_)));(case side1=>exact z2_26);(case side2=>exact z2_27);rintro e w8 ⟨rfl,hi,hb,hk⟩;(first|refine⟨_,rfl,?_⟩|skip);replace BK139:=Za (KeepBut.blk hk (g':=gb139) (o:= .cells #[.int .i64 0,.int .i64 0,.int .i64 0] 72 (0,0)) z2_34 NB139_0.out (by simp));replace HK:=Za (KeepBut.trans z2_29 hk (.inl rfl));replace HB:=Za (hb);replace HI0:=Za (hi);(try clear hb);(try clear hb2);(try clear hk);(try clear hi);have hnb9:=NB139_0.out;have hnc9:=NB0_139.out;have hcz10_0:w8.cell? ⟨gb139,0,none⟩=some (.int .i64 0):=(Zb BK139.out 0).trans rfl;have hcz10_1:w8.cell? ⟨gb139,1,none⟩=some (.int .i64 0):=(Zb BK139.out 1).trans rfl;have hcz10_2:w8.cell? ⟨gb139,2,none⟩=some (.int .i64 0):=(Zb BK139.out 2).trans rfl;have hfz10_0:=Zc BK139.out 0;have hfz10_1:=Zc BK139.out 1;have hfz10_2:=Zc BK139.out 2))
 refine bodyPost_ret (results_cell_row rfl _ _ gb139 72 #[.int .i64 (wrap64 (1+t140)),.int .i64 t143,.int .i64 t146] (0,0) _ rfl (by(with_reducible repeat(first|refine blk_drewN ?_ _|refine blk_drew ?_|refine blk_alloc ?_ _));refine blk_put (cs:= #[.int .i64 (wrap64 (1+t140)),.int .i64 t143,.int .i64 0]) ?_ 2 _ rfl;(with_reducible repeat(first|refine blk_drewN ?_ _|refine blk_drew ?_|refine blk_alloc ?_ _));refine blk_put (cs:= #[.int .i64 (wrap64 (1+t140)),.int .i64 0,.int .i64 0]) ?_ 1 _ rfl;(with_reducible repeat(first|refine blk_drewN ?_ _|refine blk_drew ?_|refine blk_alloc ?_ _));refine blk_put (cs:= #[.int .i64 0,.int .i64 0,.int .i64 0]) ?_ 0 _ rfl;(with_reducible repeat(first|refine blk_drewN ?_ _|refine blk_drew ?_|refine blk_alloc ?_ _));exact BK139.out) Tryz.underlying72 rfl z2_25) rfl ?_
 exact⟨by first|rfl|(simp[errW_none,errW_some]<;>rfl)|(simp[*,errW_none,errW_some]<;>rfl)|(simp[*,errW_none,errW_some,i64_w];done),by repeat(first|(with_reducible first|exact HI0.out|apply IsS68.alloc|apply IsS68.drewN|apply IsS68.drew|apply IsS68.set_1|apply IsS68.set_2|refine IsS68.far ?_ NB0_139.out _)|exact HI0.out),by repeat(first|(with_reducible first|exact HB.out|apply Zh|apply Zf|apply Ze|refine Zd ?_ (IsS68.ge HI0.out)|refine Zd ?_ GE139.out)|exact HB.out),by repeat(first|(with_reducible first|exact HK.out|apply KeepBut.set_|apply keep_drewN|apply keep_drew|apply keep_alloc|refine keep_far ?_ GW139.out _)|exact HK.out)⟩
def spec_l04Stmt.j0:Nat→Int→Bool→List Int→Int→Int→Option (Int×Int×Int×Int×Int×Int×Int×Int)
 |0,_,_,_,_,_=>none
 |k+1,x4,x5,x1000,x1001,x1002=>if x5=true then ((spec_l01Below.f x1000 x1001 x1002 5).bind fun bt153=>((spec_l01Below.f x1000 bt153.2.1 bt153.2.2 4).bind fun bt156=>(some (2,bt153.1,bt156.1,0,0,0,bt156.2.1,bt156.2.2)))) else (if x4=2 then ((spec_l03Expr.f x1000 x1001 x1002).bind fun bt159=>(some (3,0,0,bt159.1,bt159.2.1,bt159.2.2.1,bt159.2.2.2.1,bt159.2.2.2.2))) else ((spec_l01Below.f x1000 x1001 x1002 5).bind fun bt164=>((spec_l03Expr.f x1000 bt164.2.1 bt164.2.2).bind fun bt167=>(some (1,bt164.1,0,bt167.1,bt167.2.1,bt167.2.2.1,bt167.2.2.2.1,bt167.2.2.2.2)))))
def spec_l04Stmt.f (k:Nat) (s0_0:List Int) (s0_1:Int) (s0_2:Int):Option (Int×Int×Int×Int×Int×Int×Int×Int):=(spec_l01Below.f s0_0 s0_1 s0_2 7).bind fun bt150=>(if bt150.1=0 then (spec_l04Stmt.j0 k bt150.1 (bt150.1==0) s0_0 bt150.2.1 bt150.2.2) else (spec_l04Stmt.j0 k bt150.1 (bt150.1==1) s0_0 bt150.2.1 bt150.2.2))
theorem spec_l04Stmt.mono_l:∀k,(∀y0 y1 y2 y3 y4,LeO (spec_l04Stmt.j0 k y0 y1 y2 y3 y4) (spec_l04Stmt.j0 (k+1) y0 y1 y2 y3 y4))
 |0=>fun _ _ _ _ _ r h=>by simp[spec_l04Stmt.j0] at h
 |k+1=>by
  have ih0:=spec_l04Stmt.mono_l k
  ·intro y0 y1 y2 y3 y4
   unfold spec_l04Stmt.j0
   repeat' first
   |(with_reducible exact ih0 _ _ _ _ _)
   |(with_reducible exact Yn _)
   |(with_reducible exact Zz _)
   |(with_reducible refine Zu ?_ ?_)
   |(with_reducible refine Zt ?_ (fun _=> ?_))
   |exact ih0 _ _ _ _ _
   |exact Zz _
   |refine Zu ?_ ?_
   |refine Zt ?_ (fun _=> ?_)
theorem spec_l04Stmt.mono:∀a0 a1 a2 k,LeO (spec_l04Stmt.f k a0 a1 a2) (spec_l04Stmt.f (k+1) a0 a1 a2):=by
 intro a0 a1 a2 k
 have ih0:=spec_l04Stmt.mono_l k
 unfold spec_l04Stmt.f
 repeat' first
   |(with_reducible exact ih0 _ _ _ _ _)
   |(with_reducible exact Yn _)
   |(with_reducible exact Zz _)
   |(with_reducible refine Zu ?_ ?_)
   |(with_reducible refine Zt ?_ (fun _=> ?_))
   |exact ih0 _ _ _ _ _
   |exact Zz _
   |refine Zu ?_ ?_
   |refine Zt ?_ (fun _=> ?_)
set_option maxHeartbeats 8000000 in
set_option maxRecDepth 100000 in
theorem spec_l04Stmt.calls (k:Nat) (g:Nat) (s0_0:List Int) (s0_1:Int) (s0_2:Int) (r1:Int) (r2:Int) (r3:Int) (r4:Int) (r5:Int) (r6:Int) (r7:Int) (r8:Int) (w0 w:World) (hI:IsS68 w0 w g s0_0 s0_1 s0_2) (hB:Below w0.heap.size w0 w) (h:spec_l04Stmt.f k s0_0 s0_1 s0_2=some (r1,r2,r3,r4,r5,r6,r7,r8)):
  Calls Tryz.prog 93 #[.pointer (some ⟨g,0,none⟩)] w fun e w'=>e= .returned (.agg #[.int .i64 r1,.int .i64 r2,.int .i64 r3,.int .i64 r4,.int .i64 r5,.int .i64 r6])∧IsS68 w0 w' g s0_0 r7 r8∧Below w0.heap.size w0 w'∧KeepBut w w' g none:=by
 have hu92:=Tryz.underlying92
 have HI0:=Za hI
 have HK:=Za (KeepBut.refl w g none)
 have HL:=Za hB.size
 clear hI
 have HW0:=Za hB.size
 have HB:=Za hB
 clear hB
 have H:((spec_l01Below.f s0_0 s0_1 s0_2 7).bind fun bt150=>(if bt150.1=0 then (spec_l04Stmt.j0 k bt150.1 (bt150.1==0) s0_0 bt150.2.1 bt150.2.2) else (spec_l04Stmt.j0 k bt150.1 (bt150.1==1) s0_0 bt150.2.1 bt150.2.2)))=some (r1,r2,r3,r4,r5,r6,r7,r8):=h
 clear h
 replace H:=Zg H
 obtain⟨⟨t150,t151,t152⟩,A20,H⟩:=H
 replace H:(if t150=0 then (spec_l04Stmt.j0 k t150 (t150==0) s0_0 t151 t152) else (spec_l04Stmt.j0 k t150 (t150==1) s0_0 t151 t152))=some (r1,r2,r3,r4,r5,r6,r7,r8):=H
 have A2:=Za A20
 clear A20
 have HC3:=Za H
 clear H
 go_enter Tryz.func93,Tryz.ntmps93
 go_upto_if 5 with(first|((with_reducible refine Zp (N:=2) rfl ?_);refine Zr ?hg (N:=2) ?hd (cs:= #[.int .i64 0,.int .i64 0,.int .i64 0,.int .i64 0,.int .i64 0,.int .i64 0]) (t:=92) ?hr ?_;(case hd=>rfl);(case hg=>rfl);(case hr=>exact z2_20);intro gb149 hg w4 hbox hb;replace HB:=Za (Zj z2_2 hb);have BK149:=Za (hbox);have GW149:=Za ((z2_35:w.heap.size≤gb149));have GE149:=Za ((Nat.le_trans HW0.out (z2_35:w.heap.size≤gb149):w0.heap.size≤gb149));replace HK:=Za (KeepBut.trans z2_0 (KeepBut.of_below hb g none) (.inl rfl));have NB0_149:=Za ((z2_21:g≠gb149));have NB149_0:=Za ((z2_22:gb149≠g));replace HI0:=Za (IsS68.below z2_4 hb);clear hb hbox hg)|((first|((with_reducible refine gate_callee (f:=24) rfl ?_);refine goesL_ (some 4) rfl rfl Tryz.func24 z2_25 rfl #[.pointer (some ⟨g,0,none⟩),.int .i64 7] rfl z2_1 ?_;(with_reducible refine(spec_l01Below.calls g s0_0 s0_1 s0_2 7 t150 t151 t152 w0 _ ?side1 ?side2 A2.out).mono ?_))|(go_at_call 24;(with_reducible refine(spec_l01Below.calls g s0_0 s0_1 s0_2 7 t150 t151 t152 w0 _ ?side1 ?side2 A2.out).mono ?_)));(case side1=>exact z2_8);(case side2=>exact z2_9);rintro e w5 ⟨rfl,hi,hb,hk⟩;(first|refine⟨_,rfl,?_⟩|skip);replace BK149:=Za (KeepBut.blk hk (g':=gb149) (o:= .cells #[.int .i64 0,.int .i64 0,.int .i64 0,.int .i64 0,.int .i64 0,.int .i64 0] 92 (0,0)) z2_16 NB149_0.out (by simp));replace HK:=Za (KeepBut.trans z2_11 hk (.inl rfl));replace HB:=Za (hb);replace HI0:=Za (hi);(try clear hb);(try clear hb2);(try clear hk);(try clear hi)))
 (try simp only[Act.put,Zy,Ya,Yb])
 go_cut [5] (fun v5 wc=>∃(kq:Nat) (x5_2:Bool),v5= .bool x5_2∧Aside0 (spec_l04Stmt.j0 kq t150 x5_2 s0_0 t151 t152=some (r1,r2,r3,r4,r5,r6,r7,r8))∧Aside0 (kq≤k)∧Aside0 (wc.heap[gb149]? =some (.cells #[.int .i64 0,.int .i64 0,.int .i64 0,.int .i64 0,.int .i64 0,.int .i64 0] 92 (0,0)))∧Aside0 (IsS68 w0 wc g s0_0 t151 t152)∧Aside0 (KeepBut w wc g none)∧Aside0 (Below w0.heap.size w0 wc))
 case first=>
  have H:=HC3.out
  clear HC3
  by_cases c6:t150=0
  ·rw[if_pos c6] at H
   have c6b0:(t150==0)=true:=beq_iff_eq.mpr c6
   have c6b1:(t150 != 0)=false:=bne_eq_false_iff_eq.mpr c6
   clear c6
   (first|rw[c6b0]|(simp only[i64_w,i32_w];rw[c6b0])|skip)
   have H':=Za H
   clear H
   go_wp2
   go_meet
   case rel=>exact⟨_,((t150==0)),z2_19,H',⟨by first|omega|exact Nat.le_refl _⟩,⟨by(with_reducible repeat(first|refine blk_drewN ?_ _|refine blk_drew ?_|refine blk_alloc ?_ _));exact BK149.out⟩,⟨by repeat(first|(with_reducible first|exact HI0.out|apply IsS68.alloc|apply IsS68.drewN|apply IsS68.drew|apply IsS68.set_1|apply IsS68.set_2|refine IsS68.far ?_ NB0_149.out _)|exact HI0.out)⟩,⟨by repeat(first|(with_reducible first|exact HK.out|apply KeepBut.set_|apply keep_drewN|apply keep_drew|apply keep_alloc|refine keep_far ?_ GW149.out _)|exact HK.out)⟩,⟨by repeat(first|(with_reducible first|exact HB.out|apply Zh|apply Zf|apply Ze|refine Zd ?_ (IsS68.ge HI0.out)|refine Zd ?_ GE149.out)|exact HB.out)⟩⟩
  ·rw[if_neg c6] at H
   have c6b0:(t150==0)=false:=beq_eq_false_iff_ne.mpr c6
   have c6b1:(t150 != 0)=true:=bne_iff_ne.mpr c6
   (first|rw[c6b0]|(simp only[i64_w,i32_w];rw[c6b0])|skip)
   have H':=Za H
   clear H
   go_wp2
   go_meet
   case rel=>exact⟨_,((t150==1)),z2_19,H',⟨by first|omega|exact Nat.le_refl _⟩,⟨by(with_reducible repeat(first|refine blk_drewN ?_ _|refine blk_drew ?_|refine blk_alloc ?_ _));exact BK149.out⟩,⟨by repeat(first|(with_reducible first|exact HI0.out|apply IsS68.alloc|apply IsS68.drewN|apply IsS68.drew|apply IsS68.set_1|apply IsS68.set_2|refine IsS68.far ?_ NB0_149.out _)|exact HI0.out)⟩,⟨by repeat(first|(with_reducible first|exact HK.out|apply KeepBut.set_|apply keep_drewN|apply keep_drew|apply keep_alloc|refine keep_far ?_ GW149.out _)|exact HK.out)⟩,⟨by repeat(first|(with_reducible first|exact HB.out|apply Zh|apply Zf|apply Ze|refine Zd ?_ (IsS68.ge HI0.out)|refine Zd ?_ GE149.out)|exact HB.out)⟩⟩
 case rest=>
  clear HC3
  obtain⟨kq,x5_2,rfl,HA,HJ2,BK149,HI0,HK,HB⟩:=hcut
  cases kq with
  |zero=>exact absurd HA.out (by simp[spec_l04Stmt.j0])
  |succ kj2=>
   have H:=HA.out
   clear HA
   simp only[spec_l04Stmt.j0] at H
   by_cases c7:x5_2=true
   ·subst c7
    have H1:((spec_l01Below.f s0_0 t151 t152 5).bind fun bt153=>((spec_l01Below.f s0_0 bt153.2.1 bt153.2.2 4).bind fun bt156=>(some (2,bt153.1,bt156.1,0,0,0,bt156.2.1,bt156.2.2))))=some (r1,r2,r3,r4,r5,r6,r7,r8):=by rw[if_pos rfl] at H;exact H
    clear H
    have H:=H1
    clear H1
    replace H:=Zg H
    obtain⟨⟨t153,t154,t155⟩,A80,H⟩:=H
    replace H:((spec_l01Below.f s0_0 t154 t155 4).bind fun bt156=>(some (2,t153,bt156.1,0,0,0,bt156.2.1,bt156.2.2)))=some (r1,r2,r3,r4,r5,r6,r7,r8):=H
    have A8:=Za A80
    clear A80
    replace H:=Zg H
    obtain⟨⟨t156,t157,t158⟩,A90,H⟩:=H
    replace H:(some (2,t153,t156,0,0,0,t157,t158))=some (r1,r2,r3,r4,r5,r6,r7,r8):=H
    have A9:=Za A90
    clear A90
    simp only[Option.some.injEq,Prod.mk.injEq] at H
    obtain⟨rfl,rfl,rfl,rfl,rfl,rfl,rfl,rfl⟩:=H
    go_wp2_with (first|((first|((with_reducible refine gate_callee (f:=24) rfl ?_);refine goesL_ (some 9) rfl rfl Tryz.func24 z2_25 rfl #[.pointer (some ⟨g,0,none⟩),.int .i64 5] rfl z2_1 ?_;(with_reducible refine(spec_l01Below.calls g s0_0 t151 t152 5 t153 t154 t155 w0 _ ?side1 ?side2 A8.out).mono ?_))|(go_at_call 24;(with_reducible refine(spec_l01Below.calls g s0_0 t151 t152 5 t153 t154 t155 w0 _ ?side1 ?side2 A8.out).mono ?_)));(case side1=>exact z2_8);(case side2=>exact z2_9);rintro e w10 ⟨rfl,hi,hb,hk⟩;(first|refine⟨_,rfl,?_⟩|skip);replace BK149:=Za (KeepBut.blk hk (g':=gb149) (o:= .cells #[.int .i64 0,.int .i64 0,.int .i64 0,.int .i64 0,.int .i64 0,.int .i64 0] 92 (0,0)) z2_16 NB149_0.out (by simp));replace HK:=Za (KeepBut.trans z2_11 hk (.inl rfl));replace HB:=Za (hb);replace HI0:=Za (hi);(try clear hb);(try clear hb2);(try clear hk);(try clear hi))|((first|((with_reducible refine gate_callee (f:=24) rfl ?_);refine goesL_ (some 11) rfl rfl Tryz.func24 z2_25 rfl #[.pointer (some ⟨g,0,none⟩),.int .i64 4] rfl z2_1 ?_;(with_reducible refine(spec_l01Below.calls g s0_0 t154 t155 4 t156 t157 t158 w0 _ ?side1 ?side2 A9.out).mono ?_))|(go_at_call 24;(with_reducible refine(spec_l01Below.calls g s0_0 t154 t155 4 t156 t157 t158 w0 _ ?side1 ?side2 A9.out).mono ?_)));(case side1=>exact z2_8);(case side2=>exact z2_9);rintro e w11 ⟨rfl,hi,hb,hk⟩;(first|refine⟨_,rfl,?_⟩|skip);replace BK149:=Za (KeepBut.blk hk (g':=gb149) (o:= .cells #[.int .i64 0,.int .i64 0,.int .i64 0,.int .i64 0,.int .i64 0,.int .i64 0] 92 (0,0)) z2_16 NB149_0.out (by simp));replace HK:=Za (KeepBut.trans z2_11 hk (.inl rfl));replace HB:=Za (hb);replace HI0:=Za (hi);(try clear hb);(try clear hb2);(try clear hk);(try clear hi);have hnb12:=NB149_0.out;have hnc12:=NB0_149.out;have hcz13_0:w11.cell? ⟨gb149,0,none⟩=some (.int .i64 0):=(Zb BK149.out 0).trans rfl;have hcz13_1:w11.cell? ⟨gb149,1,none⟩=some (.int .i64 0):=(Zb BK149.out 1).trans rfl;have hcz13_2:w11.cell? ⟨gb149,2,none⟩=some (.int .i64 0):=(Zb BK149.out 2).trans rfl;have hcz13_3:w11.cell? ⟨gb149,3,none⟩=some (.int .i64 0):=(Zb BK149.out 3).trans rfl;have hcz13_4:w11.cell? ⟨gb149,4,none⟩=some (.int .i64 0):=(Zb BK149.out 4).trans rfl;have hcz13_5:w11.cell? ⟨gb149,5,none⟩=some (.int .i64 0):=(Zb BK149.out 5).trans rfl;have hfz13_0:=Zc BK149.out 0;have hfz13_1:=Zc BK149.out 1;have hfz13_2:=Zc BK149.out 2;have hfz13_3:=Zc BK149.out 3;have hfz13_4:=Zc BK149.out 4;have hfz13_5:=Zc BK149.out 5)|((with_reducible refine Ye (t:=92) (p:=2) rfl ?_);refine Yd (t:=92) (p:=2) (v:= ?vo_w14) (w1:=((((((w11.setCell ⟨gb149,0,none⟩ (.int .i64 2)).setCell ⟨gb149,1,none⟩ (.int .i64 t153)).setCell ⟨gb149,2,none⟩ (.int .i64 t156)).setCell ⟨gb149,3,none⟩ (.int .i64 0)).setCell ⟨gb149,4,none⟩ (.int .i64 0)).setCell ⟨gb149,5,none⟩ (.int .i64 0))) ?hg ?ho ?hn ?hr ?_;(case ho=>rfl);(case hg=>rfl);(case hn=>rfl);(case hr=>exact z2_20);intro w14 hw;have n0_:Aside0 (w14.heap[gb149]? =some (.cells #[.int .i64 2,.int .i64 t153,.int .i64 t156,.int .i64 0,.int .i64 0,.int .i64 0] 92 (0,0))):=⟨(by rw[hw];exact(by(with_reducible repeat(first|refine blk_drewN ?_ _|refine blk_drew ?_|refine blk_alloc ?_ _));refine blk_put (cs:= #[.int .i64 2,.int .i64 t153,.int .i64 t156,.int .i64 0,.int .i64 0,.int .i64 0]) ?_ 5 _ rfl;(with_reducible repeat(first|refine blk_drewN ?_ _|refine blk_drew ?_|refine blk_alloc ?_ _));refine blk_put (cs:= #[.int .i64 2,.int .i64 t153,.int .i64 t156,.int .i64 0,.int .i64 0,.int .i64 0]) ?_ 4 _ rfl;(with_reducible repeat(first|refine blk_drewN ?_ _|refine blk_drew ?_|refine blk_alloc ?_ _));refine blk_put (cs:= #[.int .i64 2,.int .i64 t153,.int .i64 t156,.int .i64 0,.int .i64 0,.int .i64 0]) ?_ 3 _ rfl;(with_reducible repeat(first|refine blk_drewN ?_ _|refine blk_drew ?_|refine blk_alloc ?_ _));refine blk_put (cs:= #[.int .i64 2,.int .i64 t153,.int .i64 0,.int .i64 0,.int .i64 0,.int .i64 0]) ?_ 2 _ rfl;(with_reducible repeat(first|refine blk_drewN ?_ _|refine blk_drew ?_|refine blk_alloc ?_ _));refine blk_put (cs:= #[.int .i64 2,.int .i64 0,.int .i64 0,.int .i64 0,.int .i64 0,.int .i64 0]) ?_ 1 _ rfl;(with_reducible repeat(first|refine blk_drewN ?_ _|refine blk_drew ?_|refine blk_alloc ?_ _));refine blk_put (cs:= #[.int .i64 0,.int .i64 0,.int .i64 0,.int .i64 0,.int .i64 0,.int .i64 0]) ?_ 0 _ rfl;(with_reducible repeat(first|refine blk_drewN ?_ _|refine blk_drew ?_|refine blk_alloc ?_ _));exact BK149.out))⟩;have n1_:Aside0 (IsS68 w0 w14 g s0_0 t157 t158):=⟨(by rw[hw];exact z2_8)⟩;have n2_:Aside0 (KeepBut w w14 g none):=⟨(by rw[hw];exact z2_11)⟩;have n3_:Aside0 (Below w0.heap.size w0 w14):=⟨(by rw[hw];exact z2_9)⟩;clear hw;clear BK149;clear HI0;clear HK;clear HB;have BK149:=n0_;have HI0:=n1_;have HK:=n2_;have HB:=n3_;clear n0_ n1_ n2_ n3_))
    refine bodyPost_ret (results_cell_row rfl _ _ gb149 92 #[.int .i64 2,.int .i64 t153,.int .i64 t156,.int .i64 0,.int .i64 0,.int .i64 0] (0,0) _ rfl z2_16 Tryz.underlying92 rfl z2_25) rfl ?_
    exact⟨by first|rfl|(simp[errW_none,errW_some]<;>rfl)|(simp[*,errW_none,errW_some]<;>rfl)|(simp[*,errW_none,errW_some,i64_w];done),by repeat(first|(with_reducible first|exact HI0.out|apply IsS68.alloc|apply IsS68.drewN|apply IsS68.drew|apply IsS68.set_1|apply IsS68.set_2|refine IsS68.far ?_ NB0_149.out _)|exact HI0.out),by repeat(first|(with_reducible first|exact HB.out|apply Zh|apply Zf|apply Ze|refine Zd ?_ (IsS68.ge HI0.out)|refine Zd ?_ GE149.out)|exact HB.out),by repeat(first|(with_reducible first|exact HK.out|apply KeepBut.set_|apply keep_drewN|apply keep_drew|apply keep_alloc|refine keep_far ?_ GW149.out _)|exact HK.out)⟩
   ·replace c7:=Bool.eq_false_iff.mpr c7
    subst c7
    have H1:(if t150=2 then ((spec_l03Expr.f s0_0 t151 t152).bind fun bt159=>(some (3,0,0,bt159.1,bt159.2.1,bt159.2.2.1,bt159.2.2.2.1,bt159.2.2.2.2))) else ((spec_l01Below.f s0_0 t151 t152 5).bind fun bt164=>((spec_l03Expr.f s0_0 bt164.2.1 bt164.2.2).bind fun bt167=>(some (1,bt164.1,0,bt167.1,bt167.2.1,bt167.2.2.1,bt167.2.2.2.1,bt167.2.2.2.2)))))=some (r1,r2,r3,r4,r5,r6,r7,r8):=by rw[if_neg (show ¬(false=true) by decide)] at H;exact H
    clear H
    have H:=H1
    clear H1
    by_cases c15:t150=2
    ·rw[if_pos c15] at H
     have c15b0:(t150==2)=true:=beq_iff_eq.mpr c15
     have c15b1:(t150 != 2)=false:=bne_eq_false_iff_eq.mpr c15
     clear c15
     replace H:=Zg H
     obtain⟨⟨t159,t160,t161,t162,t163⟩,A160,H⟩:=H
     replace H:(some (3,0,0,t159,t160,t161,t162,t163))=some (r1,r2,r3,r4,r5,r6,r7,r8):=H
     have A16:=Za A160
     clear A160
     simp only[Option.some.injEq,Prod.mk.injEq] at H
     obtain⟨rfl,rfl,rfl,rfl,rfl,rfl,rfl,rfl⟩:=H
     go_wp2_with (first|((first|((with_reducible refine gate_callee (f:=38) rfl ?_);refine goesL_ (some 16) rfl rfl Tryz.func38 z2_25 rfl #[.pointer (some ⟨g,0,none⟩)] rfl z2_1 ?_;(with_reducible refine(spec_l03Expr.calls g s0_0 t151 t152 t159 t160 t161 t162 t163 w0 _ ?side1 ?side2 A16.out).mono ?_))|(go_at_call 38;(with_reducible refine(spec_l03Expr.calls g s0_0 t151 t152 t159 t160 t161 t162 t163 w0 _ ?side1 ?side2 A16.out).mono ?_)));(case side1=>exact z2_8);(case side2=>exact z2_9);rintro e w17 ⟨rfl,hi,hb,hk⟩;(first|refine⟨_,rfl,?_⟩|skip);replace BK149:=Za (KeepBut.blk hk (g':=gb149) (o:= .cells #[.int .i64 0,.int .i64 0,.int .i64 0,.int .i64 0,.int .i64 0,.int .i64 0] 92 (0,0)) z2_16 NB149_0.out (by simp));replace HK:=Za (KeepBut.trans z2_11 hk (.inl rfl));replace HB:=Za (hb);replace HI0:=Za (hi);(try clear hb);(try clear hb2);(try clear hk);(try clear hi);have hnb18:=NB149_0.out;have hnc18:=NB0_149.out;have hcz19_0:w17.cell? ⟨gb149,0,none⟩=some (.int .i64 0):=(Zb BK149.out 0).trans rfl;have hcz19_1:w17.cell? ⟨gb149,1,none⟩=some (.int .i64 0):=(Zb BK149.out 1).trans rfl;have hcz19_2:w17.cell? ⟨gb149,2,none⟩=some (.int .i64 0):=(Zb BK149.out 2).trans rfl;have hcz19_3:w17.cell? ⟨gb149,3,none⟩=some (.int .i64 0):=(Zb BK149.out 3).trans rfl;have hcz19_4:w17.cell? ⟨gb149,4,none⟩=some (.int .i64 0):=(Zb BK149.out 4).trans rfl;have hcz19_5:w17.cell? ⟨gb149,5,none⟩=some (.int .i64 0):=(Zb BK149.out 5).trans rfl;have hfz19_0:=Zc BK149.out 0;have hfz19_1:=Zc BK149.out 1;have hfz19_2:=Zc BK149.out 2;have hfz19_3:=Zc BK149.out 3;have hfz19_4:=Zc BK149.out 4;have hfz19_5:=Zc BK149.out 5)|((with_reducible refine Ye (t:=92) (p:=2) rfl ?_);refine Yd (t:=92) (p:=2) (v:= ?vo_w20) (w1:=((((((w17.setCell ⟨gb149,0,none⟩ (.int .i64 3)).setCell ⟨gb149,1,none⟩ (.int .i64 0)).setCell ⟨gb149,2,none⟩ (.int .i64 0)).setCell ⟨gb149,3,none⟩ (.int .i64 t159)).setCell ⟨gb149,4,none⟩ (.int .i64 t160)).setCell ⟨gb149,5,none⟩ (.int .i64 t161))) ?hg ?ho ?hn ?hr ?_;(case ho=>rfl);(case hg=>rfl);(case hn=>rfl);(case hr=>exact z2_20);intro w20 hw;have n0_:Aside0 (w20.heap[gb149]? =some (.cells #[.int .i64 3,.int .i64 0,.int .i64 0,.int .i64 t159,.int .i64 t160,.int .i64 t161] 92 (0,0))):=⟨(by rw[hw];exact(by(with_reducible repeat(first|refine blk_drewN ?_ _|refine blk_drew ?_|refine blk_alloc ?_ _));refine blk_put (cs:= #[.int .i64 3,.int .i64 0,.int .i64 0,.int .i64 t159,.int .i64 t160,.int .i64 0]) ?_ 5 _ rfl;(with_reducible repeat(first|refine blk_drewN ?_ _|refine blk_drew ?_|refine blk_alloc ?_ _));refine blk_put (cs:= #[.int .i64 3,.int .i64 0,.int .i64 0,.int .i64 t159,.int .i64 0,.int .i64 0]) ?_ 4 _ rfl;(with_reducible repeat(first|refine blk_drewN ?_ _|refine blk_drew ?_|refine blk_alloc ?_ _));refine blk_put (cs:= #[.int .i64 3,.int .i64 0,.int .i64 0,.int .i64 0,.int .i64 0,.int .i64 0]) ?_ 3 _ rfl;(with_reducible repeat(first|refine blk_drewN ?_ _|refine blk_drew ?_|refine blk_alloc ?_ _));refine blk_put (cs:= #[.int .i64 3,.int .i64 0,.int .i64 0,.int .i64 0,.int .i64 0,.int .i64 0]) ?_ 2 _ rfl;(with_reducible repeat(first|refine blk_drewN ?_ _|refine blk_drew ?_|refine blk_alloc ?_ _));refine blk_put (cs:= #[.int .i64 3,.int .i64 0,.int .i64 0,.int .i64 0,.int .i64 0,.int .i64 0]) ?_ 1 _ rfl;(with_reducible repeat(first|refine blk_drewN ?_ _|refine blk_drew ?_|refine blk_alloc ?_ _));refine blk_put (cs:= #[.int .i64 0,.int .i64 0,.int .i64 0,.int .i64 0,.int .i64 0,.int .i64 0]) ?_ 0 _ rfl;(with_reducible repeat(first|refine blk_drewN ?_ _|refine blk_drew ?_|refine blk_alloc ?_ _));exact BK149.out))⟩;have n1_:Aside0 (IsS68 w0 w20 g s0_0 t162 t163):=⟨(by rw[hw];exact z2_8)⟩;have n2_:Aside0 (KeepBut w w20 g none):=⟨(by rw[hw];exact z2_11)⟩;have n3_:Aside0 (Below w0.heap.size w0 w20):=⟨(by rw[hw];exact z2_9)⟩;clear hw;clear BK149;clear HI0;clear HK;clear HB;have BK149:=n0_;have HI0:=n1_;have HK:=n2_;have HB:=n3_;clear n0_ n1_ n2_ n3_))
     refine bodyPost_ret (results_cell_row rfl _ _ gb149 92 #[.int .i64 3,.int .i64 0,.int .i64 0,.int .i64 t159,.int .i64 t160,.int .i64 t161] (0,0) _ rfl z2_16 Tryz.underlying92 rfl z2_25) rfl ?_
     exact⟨by first|rfl|(simp[errW_none,errW_some]<;>rfl)|(simp[*,errW_none,errW_some]<;>rfl)|(simp[*,errW_none,errW_some,i64_w];done),by repeat(first|(with_reducible first|exact HI0.out|apply IsS68.alloc|apply IsS68.drewN|apply IsS68.drew|apply IsS68.set_1|apply IsS68.set_2|refine IsS68.far ?_ NB0_149.out _)|exact HI0.out),by repeat(first|(with_reducible first|exact HB.out|apply Zh|apply Zf|apply Ze|refine Zd ?_ (IsS68.ge HI0.out)|refine Zd ?_ GE149.out)|exact HB.out),by repeat(first|(with_reducible first|exact HK.out|apply KeepBut.set_|apply keep_drewN|apply keep_drew|apply keep_alloc|refine keep_far ?_ GW149.out _)|exact HK.out)⟩
    ·rw[if_neg c15] at H
     have c15b0:(t150==2)=false:=beq_eq_false_iff_ne.mpr c15
     have c15b1:(t150 != 2)=true:=bne_iff_ne.mpr c15
     replace H:=Zg H
     obtain⟨⟨t164,t165,t166⟩,A210,H⟩:=H
     replace H:((spec_l03Expr.f s0_0 t165 t166).bind fun bt167=>(some (1,t164,0,bt167.1,bt167.2.1,bt167.2.2.1,bt167.2.2.2.1,bt167.2.2.2.2)))=some (r1,r2,r3,r4,r5,r6,r7,r8):=H
     have A21:=Za A210
     clear A210
     replace H:=Zg H
     obtain⟨⟨t167,t168,t169,t170,t171⟩,A220,H⟩:=H
     replace H:(some (1,t164,0,t167,t168,t169,t170,t171))=some (r1,r2,r3,r4,r5,r6,r7,r8):=H
     have A22:=Za A220
     clear A220
     simp only[Option.some.injEq,Prod.mk.injEq] at H
     obtain⟨rfl,rfl,rfl,rfl,rfl,rfl,rfl,rfl⟩:=H
     go_wp2_with (first|((first|((with_reducible refine gate_callee (f:=24) rfl ?_);refine goesL_ (some 19) rfl rfl Tryz.func24 z2_25 rfl #[.pointer (some ⟨g,0,none⟩),.int .i64 5] rfl z2_1 ?_;(with_reducible refine(spec_l01Below.calls g s0_0 t151 t152 5 t164 t165 t166 w0 _ ?side1 ?side2 A21.out).mono ?_))|(go_at_call 24;(with_reducible refine(spec_l01Below.calls g s0_0 t151 t152 5 t164 t165 t166 w0 _ ?side1 ?side2 A21.out).mono ?_)));(case side1=>exact z2_8);(case side2=>exact z2_9);rintro e w23 ⟨rfl,hi,hb,hk⟩;(first|refine⟨_,rfl,?_⟩|skip);replace BK149:=Za (KeepBut.blk hk (g':=gb149) (o:= .cells #[.int .i64 0,.int .i64 0,.int .i64 0,.int .i64 0,.int .i64 0,.int .i64 0] 92 (0,0)) z2_16 NB149_0.out (by simp));replace HK:=Za (KeepBut.trans z2_11 hk (.inl rfl));replace HB:=Za (hb);replace HI0:=Za (hi);(try clear hb);(try clear hb2);(try clear hk);(try clear hi))|((first|((with_reducible refine gate_callee (f:=38) rfl ?_);refine goesL_ (some 21) rfl rfl Tryz.func38 z2_25 rfl #[.pointer (some ⟨g,0,none⟩)] rfl z2_1 ?_;(with_reducible refine(spec_l03Expr.calls g s0_0 t165 t166 t167 t168 t169 t170 t171 w0 _ ?side1 ?side2 A22.out).mono ?_))|(go_at_call 38;(with_reducible refine(spec_l03Expr.calls g s0_0 t165 t166 t167 t168 t169 t170 t171 w0 _ ?side1 ?side2 A22.out).mono ?_)));(case side1=>exact z2_8);(case side2=>exact z2_9);rintro e w24 ⟨rfl,hi,hb,hk⟩;(first|refine⟨_,rfl,?_⟩|skip);replace BK149:=Za (KeepBut.blk hk (g':=gb149) (o:= .cells #[.int .i64 0,.int .i64 0,.int .i64 0,.int .i64 0,.int .i64 0,.int .i64 0] 92 (0,0)) z2_16 NB149_0.out (by simp));replace HK:=Za (KeepBut.trans z2_11 hk (.inl rfl));replace HB:=Za (hb);replace HI0:=Za (hi);(try clear hb);(try clear hb2);(try clear hk);(try clear hi);have hnb25:=NB149_0.out;have hnc25:=NB0_149.out;have hcz26_0:w24.cell? ⟨gb149,0,none⟩=some (.int .i64 0):=(Zb BK149.out 0).trans rfl;have hcz26_1:w24.cell? ⟨gb149,1,none⟩=some (.int .i64 0):=(Zb BK149.out 1).trans rfl;have hcz26_2:w24.cell? ⟨gb149,2,none⟩=some (.int .i64 0):=(Zb BK149.out 2).trans rfl;have hcz26_3:w24.cell? ⟨gb149,3,none⟩=some (.int .i64 0):=(Zb BK149.out 3).trans rfl;have hcz26_4:w24.cell? ⟨gb149,4,none⟩=some (.int .i64 0):=(Zb BK149.out 4).trans rfl;have hcz26_5:w24.cell? ⟨gb149,5,none⟩=some (.int .i64 0):=(Zb BK149.out 5).trans rfl;have hfz26_0:=Zc BK149.out 0;have hfz26_1:=Zc BK149.out 1;have hfz26_2:=Zc BK149.out 2;have hfz26_3:=Zc BK149.out 3;have hfz26_4:=Zc BK149.out 4;have hfz26_5:=Zc BK149.out 5)|((with_reducible refine Ye (t:=92) (p:=2) rfl ?_);refine Yd (t:=92) (p:=2) (v:= ?vo_w27) (w1:=((((((w24.setCell ⟨gb149,0,none⟩ (.int .i64 1)).setCell ⟨gb149,1,none⟩ (.int .i64 t164)).setCell ⟨gb149,2,none⟩ (.int .i64 0)).setCell ⟨gb149,3,none⟩ (.int .i64 t167)).setCell ⟨gb149,4,none⟩ (.int .i64 t168)).setCell ⟨gb149,5,none⟩ (.int .i64 t169))) ?hg ?ho ?hn ?hr ?_;(case ho=>rfl);(case hg=>rfl);(case hn=>rfl);(case hr=>exact z2_20);intro w27 hw;have n0_:Aside0 (w27.heap[gb149]? =some (.cells #[.int .i64 1,.int .i64 t164,.int .i64 0,.int .i64 t167,.int .i64 t168,.int .i64 t169] 92 (0,0))):=⟨(by rw[hw];exact(by(with_reducible repeat(first|refine blk_drewN ?_ _|refine blk_drew ?_|refine blk_alloc ?_ _));refine blk_put (cs:= #[.int .i64 1,.int .i64 t164,.int .i64 0,.int .i64 t167,.int .i64 t168,.int .i64 0]) ?_ 5 _ rfl;(with_reducible repeat(first|refine blk_drewN ?_ _|refine blk_drew ?_|refine blk_alloc ?_ _));refine blk_put (cs:= #[.int .i64 1,.int .i64 t164,.int .i64 0,.int .i64 t167,.int .i64 0,.int .i64 0]) ?_ 4 _ rfl;(with_reducible repeat(first|refine blk_drewN ?_ _|refine blk_drew ?_|refine blk_alloc ?_ _));refine blk_put (cs:= #[.int .i64 1,.int .i64 t164,.int .i64 0,.int .i64 0,.int .i64 0,.int .i64 0]) ?_ 3 _ rfl;(with_reducible repeat(first|refine blk_drewN ?_ _|refine blk_drew ?_|refine blk_alloc ?_ _));refine blk_put (cs:= #[.int .i64 1,.int .i64 t164,.int .i64 0,.int .i64 0,.int .i64 0,.int .i64 0]) ?_ 2 _ rfl;(with_reducible repeat(first|refine blk_drewN ?_ _|refine blk_drew ?_|refine blk_alloc ?_ _));refine blk_put (cs:= #[.int .i64 1,.int .i64 0,.int .i64 0,.int .i64 0,.int .i64 0,.int .i64 0]) ?_ 1 _ rfl;(with_reducible repeat(first|refine blk_drewN ?_ _|refine blk_drew ?_|refine blk_alloc ?_ _));refine blk_put (cs:= #[.int .i64 0,.int .i64 0,.int .i64 0,.int .i64 0,.int .i64 0,.int .i64 0]) ?_ 0 _ rfl;(with_reducible repeat(first|refine blk_drewN ?_ _|refine blk_drew ?_|refine blk_alloc ?_ _));exact BK149.out))⟩;have n1_:Aside0 (IsS68 w0 w27 g s0_0 t170 t171):=⟨(by rw[hw];exact z2_8)⟩;have n2_:Aside0 (KeepBut w w27 g none):=⟨(by rw[hw];exact z2_11)⟩;have n3_:Aside0 (Below w0.heap.size w0 w27):=⟨(by rw[hw];exact z2_9)⟩;clear hw;clear BK149;clear HI0;clear HK;clear HB;have BK149:=n0_;have HI0:=n1_;have HK:=n2_;have HB:=n3_;clear n0_ n1_ n2_ n3_))
     refine bodyPost_ret (results_cell_row rfl _ _ gb149 92 #[.int .i64 1,.int .i64 t164,.int .i64 0,.int .i64 t167,.int .i64 t168,.int .i64 t169] (0,0) _ rfl z2_16 Tryz.underlying92 rfl z2_25) rfl ?_
     exact⟨by first|rfl|(simp[errW_none,errW_some]<;>rfl)|(simp[*,errW_none,errW_some]<;>rfl)|(simp[*,errW_none,errW_some,i64_w];done),by repeat(first|(with_reducible first|exact HI0.out|apply IsS68.alloc|apply IsS68.drewN|apply IsS68.drew|apply IsS68.set_1|apply IsS68.set_2|refine IsS68.far ?_ NB0_149.out _)|exact HI0.out),by repeat(first|(with_reducible first|exact HB.out|apply Zh|apply Zf|apply Ze|refine Zd ?_ (IsS68.ge HI0.out)|refine Zd ?_ GE149.out)|exact HB.out),by repeat(first|(with_reducible first|exact HK.out|apply KeepBut.set_|apply keep_drewN|apply keep_drew|apply keep_alloc|refine keep_far ?_ GW149.out _)|exact HK.out)⟩
/-! ### spec_l05Block: function 65 -/
mutual
def spec_l05Block.l0:Nat→Int→Int→List (S92)→Int→List Int→Int→Int→Option ((List (S92))×Int×Int)
 |0,_,_,_,_,_,_,_=>none
 |k+1,x1,x2,x7,x8,x1000,x1001,x1002=>if x8<x1 then (if x2<2 then (if (x7.length:Int)<6 then ((spec_l01Once.f x1000 x1001 x1002 5).bind fun bt175=>(spec_l05Block.j1 k x1 x2 x7 x8 bt175.1 x1000 bt175.2.1 bt175.2.2)) else (spec_l05Block.j1 k x1 x2 x7 x8 false x1000 x1001 x1002)) else (spec_l05Block.j1 k x1 x2 x7 x8 false x1000 x1001 x1002)) else (some (x7,x1001,x1002))
def spec_l05Block.j1:Nat→Int→Int→List (S92)→Int→Bool→List Int→Int→Int→Option ((List (S92))×Int×Int)
 |0,_,_,_,_,_,_,_,_=>none
 |k+1,x1,x2,x7,x8,x26,x1000,x1001,x1002=>if x26=true then ((spec_l01Below.f x1000 x1001 x1002 3).bind fun bt178=>((spec_l01Once.f x1000 bt178.2.1 bt178.2.2 2).bind fun bt182=>(if bt182.1=true then ((spec_l03Expr.f x1000 bt182.2.1 bt182.2.2).bind fun bt185=>(if x7.length<2932031007402 then ((some (x7++[(⟨4,0,0,(⟨bt185.1,bt185.2.1,bt185.2.2.1⟩:S72)⟩:S92)]:List (S92))).bind fun y190=>((spec_l01Below.f x1000 bt185.2.2.2.1 bt185.2.2.2.2 2).bind fun bt193=>((spec_l05Block.f k x1000 bt193.2.1 bt193.2.2 (wrap64 (1+bt193.1)) (wrap64 (x2+1))).bind fun bt196=>(if y190.length+bt196.1.length<2932031007402 then ((some (y190++bt196.1:List (S92))).bind fun y201=>(if y201.length<2932031007402 then (spec_l05Block.l0 k x1 x2 (y201++[(⟨6,0,0,(⟨0,0,0⟩:S72)⟩:S92)]) (wrap64 (x8+1)) x1000 bt196.2.1 bt196.2.2) else (none))) else (none))))) else (none))) else (if x7.length<2932031007402 then ((some (x7++[(⟨5,0,wrap64 (1+bt178.1),(⟨0,0,0⟩:S72)⟩:S92)]:List (S92))).bind fun y207=>((spec_l01Below.f x1000 bt182.2.1 bt182.2.2 2).bind fun bt210=>((spec_l05Block.f k x1000 bt210.2.1 bt210.2.2 (wrap64 (1+bt210.1)) (wrap64 (x2+1))).bind fun bt213=>(if y207.length+bt213.1.length<2932031007402 then ((some (y207++bt213.1:List (S92))).bind fun y218=>(if y218.length<2932031007402 then (spec_l05Block.l0 k x1 x2 (y218++[(⟨6,0,0,(⟨0,0,0⟩:S72)⟩:S92)]) (wrap64 (x8+1)) x1000 bt213.2.1 bt213.2.2) else (none))) else (none))))) else (none))))) else ((spec_l04Stmt.f k x1000 x1001 x1002).bind fun bt224=>(if x7.length<2932031007402 then (spec_l05Block.l0 k x1 x2 (x7++[(⟨bt224.1,bt224.2.1,bt224.2.2.1,(⟨bt224.2.2.2.1,bt224.2.2.2.2.1,bt224.2.2.2.2.2.1⟩:S72)⟩:S92)]) (wrap64 (x8+1)) x1000 bt224.2.2.2.2.2.2.1 bt224.2.2.2.2.2.2.2) else (none)))
def spec_l05Block.f:Nat→List Int→Int→Int→Int→Int→Option ((List (S92))×Int×Int)
 |0,_,_,_,_,_=>none
 |k+1,s0_0,s0_1,s0_2,a1,a2=>spec_l05Block.l0 k a1 a2 (([]:List (S92))) 0 s0_0 s0_1 s0_2
end
theorem spec_l05Block.mono_l:∀k,(∀y0 y1 y2 y3 y4,LeO (spec_l05Block.f k y0 y1 y2 y3 y4) (spec_l05Block.f (k+1) y0 y1 y2 y3 y4))∧(∀y0 y1 y2 y3 y4 y5 y6,LeO (spec_l05Block.l0 k y0 y1 y2 y3 y4 y5 y6) (spec_l05Block.l0 (k+1) y0 y1 y2 y3 y4 y5 y6))∧(∀y0 y1 y2 y3 y4 y5 y6 y7,LeO (spec_l05Block.j1 k y0 y1 y2 y3 y4 y5 y6 y7) (spec_l05Block.j1 (k+1) y0 y1 y2 y3 y4 y5 y6 y7))
 |0=>⟨fun _ _ _ _ _ r h=>by simp[spec_l05Block.f] at h,fun _ _ _ _ _ _ _ r h=>by simp[spec_l05Block.l0] at h,fun _ _ _ _ _ _ _ _ r h=>by simp[spec_l05Block.j1] at h⟩
 |k+1=>by
  obtain⟨ih0,ih1,ih2⟩:=spec_l05Block.mono_l k
  refine⟨?_,?_,?_⟩
  ·intro y0 y1 y2 y3 y4
   unfold spec_l05Block.f
   repeat' first
   |(with_reducible exact ih0 _ _ _ _ _)
   |(with_reducible exact ih1 _ _ _ _ _ _ _)
   |(with_reducible exact ih2 _ _ _ _ _ _ _ _)
   |(with_reducible exact spec_l04Stmt.mono _ _ _ _)
   |(with_reducible exact Yn _)
   |(with_reducible exact Zz _)
   |(with_reducible refine Zu ?_ ?_)
   |(with_reducible refine Zt ?_ (fun _=> ?_))
   |exact ih0 _ _ _ _ _
   |exact ih1 _ _ _ _ _ _ _
   |exact ih2 _ _ _ _ _ _ _ _
   |exact spec_l04Stmt.mono _ _ _ _
   |exact Zz _
   |refine Zu ?_ ?_
   |refine Zt ?_ (fun _=> ?_)
  ·intro y0 y1 y2 y3 y4 y5 y6
   unfold spec_l05Block.l0
   repeat' first
   |(with_reducible exact ih0 _ _ _ _ _)
   |(with_reducible exact ih1 _ _ _ _ _ _ _)
   |(with_reducible exact ih2 _ _ _ _ _ _ _ _)
   |(with_reducible exact spec_l04Stmt.mono _ _ _ _)
   |(with_reducible exact Yn _)
   |(with_reducible exact Zz _)
   |(with_reducible refine Zu ?_ ?_)
   |(with_reducible refine Zt ?_ (fun _=> ?_))
   |exact ih0 _ _ _ _ _
   |exact ih1 _ _ _ _ _ _ _
   |exact ih2 _ _ _ _ _ _ _ _
   |exact spec_l04Stmt.mono _ _ _ _
   |exact Zz _
   |refine Zu ?_ ?_
   |refine Zt ?_ (fun _=> ?_)
  ·intro y0 y1 y2 y3 y4 y5 y6 y7
   unfold spec_l05Block.j1
   repeat' first
   |(with_reducible exact ih0 _ _ _ _ _)
   |(with_reducible exact ih1 _ _ _ _ _ _ _)
   |(with_reducible exact ih2 _ _ _ _ _ _ _ _)
   |(with_reducible exact spec_l04Stmt.mono _ _ _ _)
   |(with_reducible exact Yn _)
   |(with_reducible exact Zz _)
   |(with_reducible refine Zu ?_ ?_)
   |(with_reducible refine Zt ?_ (fun _=> ?_))
   |exact ih0 _ _ _ _ _
   |exact ih1 _ _ _ _ _ _ _
   |exact ih2 _ _ _ _ _ _ _ _
   |exact spec_l04Stmt.mono _ _ _ _
   |exact Zz _
   |refine Zu ?_ ?_
   |refine Zt ?_ (fun _=> ?_)
theorem spec_l05Block.mono:∀a0 a1 a2 a3 a4 k,LeO (spec_l05Block.f k a0 a1 a2 a3 a4) (spec_l05Block.f (k+1) a0 a1 a2 a3 a4):=by
 intro a0 a1 a2 a3 a4 k
 obtain⟨ih0,ih1,ih2⟩:=spec_l05Block.mono_l k
 exact ih0 a0 a1 a2 a3 a4
set_option maxHeartbeats 8000000 in
set_option maxRecDepth 100000 in
theorem spec_l05Block.calls (k:Nat):∀(g:Nat) (s0_0:List Int) (s0_1:Int) (s0_2:Int) (a1:Int) (a2:Int) (r1:List (S92)) (r2:Int) (r3:Int) (w0 w:World) (hI:IsS68 w0 w g s0_0 s0_1 s0_2) (hB:Below w0.heap.size w0 w) (h:spec_l05Block.f k s0_0 s0_1 s0_2 a1 a2=some (r1,r2,r3)),
  Calls Tryz.prog 65 #[.pointer (some ⟨g,0,none⟩),.int .i64 a1,.int .i64 a2] w fun e w'=>∃v0_:Value,e= .returned (v0_)∧Kd.R k92 92 w' w.heap.size (fun _=>True) v0_ r1∧IsS68 w0 w' g s0_0 r2 r3∧Below w0.heap.size w0 w'∧KeepBut w w' g none:=by
 induction k using Nat.strongRecOn with
 |_ k ih=>
 intro g s0_0 s0_1 s0_2 a1 a2 r1 r2 r3 w0 w hI hB h
 cases k with
 |zero=>exact absurd h (by simp[spec_l05Block.f])
 |succ k=>
 simp only[spec_l05Block.f] at h
 have hu92:=Tryz.underlying92
 have HI0:=Za hI
 have HK:=Za (KeepBut.refl w g none)
 have HL:=Za hB.size
 clear hI
 have HW0:=Za hB.size
 have HB:=Za hB
 clear hB
 have H:(spec_l05Block.l0 k a1 a2 (([]:List (S92))) 0 s0_0 s0_1 s0_2)=some (r1,r2,r3):=h
 clear h
 obtain⟨y172,hy172⟩:∃y_:List (S92),y_=(([]:List (S92))):=⟨_,rfl⟩
 replace H:(spec_l05Block.l0 k a1 a2 y172 0 s0_0 s0_1 s0_2)=some (r1,r2,r3):=by first|(rw[hy172];with_reducible exact H)|(have H2_:=(Yc _ _).symm.trans H;rw[hy172];with_reducible exact H2_)|(have H2_:=(Yc _ _).symm.trans H;with_reducible exact H2_)|with_reducible exact H|(rw[hy172];exact H)|exact H
 have Ny172:=Za hy172
 clear hy172
 have H':=Za H
 clear H
 go_enter Tryz.func65,Tryz.ntmps65
 go_wp2_with (first|((with_reducible refine Zp (N:=10) rfl ?_);(try(refine gate_guard (by rfl) ?_;dsimp only));refine Kd.R_lit k92 _ 92 ?hg (N:=10) ?hd (xs:=([]:List (S92))) (inner:=[]) (ok:=fun _=>True) (okp:=fun _=>True) ?hr ?hp (fun _ hk=>hk) trivial (Zx _ _) (Nat.le_refl _) (by simp) ?_;(case hd=>rfl);(case hg=>rfl);(case hr=>exact z2_20);(case hp=>exact(Reps.none _ _));intro v173 w4 ho5 hb hg_ hnew_;clear hg_ hnew_;(first|rw[←Ny172.out] at ho5|(simp only[Int.reduceToNat] at ho5;rw[←Ny172.out] at ho5));have HO174:=Za (Yr ho5 (keep_size (w:=w) (g:=g) (row:=none) z2_0));replace HK:=Za (KeepBut.trans z2_0 (KeepBut.of_below hb g none) (.inl rfl));replace HB:=Za (Zj z2_2 hb);replace HI0:=Za (IsS68.below z2_4 hb);clear hb ho5))
 go_loopg [7,8] k (fun kq v7 v8 w'=>∃(x7_1:List (S92)) (x8_1:Int) (x1001_1:Int) (x1002_1:Int),v8= .int .i64 x8_1∧Aside0 (spec_l05Block.l0 kq a1 a2 x7_1 x8_1 s0_0 x1001_1 x1002_1=some (r1,r2,r3))∧Aside0 (kq≤k)∧Aside0 (Kd.R k92 92 w' w.heap.size (fun _=>True) v7 x7_1)∧Aside0 (IsS68 w0 w' g s0_0 x1001_1 x1002_1)∧Aside0 (KeepBut w w' g none)∧Aside0 (Below w0.heap.size w0 w'))
 case atStart=>exact⟨(y172),(0),(s0_1),(s0_2),z2_19,H',⟨Nat.le_refl _⟩,⟨by(with_reducible repeat(first|apply Zo|apply Zm|apply Zn));exact HO174.out⟩,⟨by repeat(first|(with_reducible first|exact HI0.out|apply IsS68.alloc|apply IsS68.drewN|apply IsS68.drew|apply IsS68.set_1|apply IsS68.set_2)|exact HI0.out)⟩,⟨by repeat(first|(with_reducible first|exact HK.out|apply KeepBut.set_|apply keep_drewN|apply keep_drew|apply keep_alloc)|exact HK.out)⟩,⟨by repeat(first|(with_reducible first|exact HB.out|apply Zh|apply Zf|apply Ze|refine Zd ?_ (IsS68.ge HI0.out))|exact HB.out)⟩⟩
 case round=>
  clear H'
  obtain⟨x7_1,x8_1,x1001_1,x1002_1,rfl,HA,HK1,HO_7,HI0,HK,HB⟩:=hrel
  cases gk with
  |zero=>exact absurd HA.out (by simp[spec_l05Block.l0])
  |succ k1=>
   have H:=HA.out
   clear HA
   simp only[spec_l05Block.l0] at H
   by_cases c6:x8_1<a1
   ·rw[if_pos c6] at H
    have c6b0:decide (x8_1<a1)=true:=Zq c6
    clear c6
    have HC7:=Za H
    clear H
    go_upto_region 5 with(fail)
    go_cut [26] (fun v26 wc=>∃(kq:Nat) (x26_6:Bool) (x1001_6:Int) (x1002_6:Int),v26= .bool x26_6∧Aside0 (spec_l05Block.j1 kq a1 a2 x7_1 x8_1 x26_6 s0_0 x1001_6 x1002_6=some (r1,r2,r3))∧Aside0 (kq≤k1)∧Aside0 (Kd.R k92 92 wc w.heap.size (fun _=>True) u7 x7_1)∧Aside0 (IsS68 w0 wc g s0_0 x1001_6 x1002_6)∧Aside0 (KeepBut w wc g none)∧Aside0 (Below w0.heap.size w0 wc))
    case first=>
     have H:=HC7.out
     clear HC7
     by_cases c8:a2<2
     ·rw[if_pos c8] at H
      have c8b0:decide (a2<2)=true:=Zq c8
      clear c8
      (first|rw[c8b0]|(simp only[i64_w,i32_w];rw[c8b0])|skip)
      by_cases c9:(x7_1.length:Int)<6
      ·rw[if_pos c9] at H
       have c9b0:decide ((x7_1.length:Int)<6)=true:=Zq c9
       have c9b1:decide (x7_1.length<6)=true:=Zq (by omega)
       clear c9
       replace H:=Zg H
       obtain⟨⟨t175,t176,t177⟩,A100,H⟩:=H
       replace H:(spec_l05Block.j1 k1 a1 a2 x7_1 x8_1 t175 s0_0 t176 t177)=some (r1,r2,r3):=H
       have A10:=Za A100
       clear A100
       have H':=Za H
       clear H
       obtain⟨Ao11,co11,eo11⟩:=Ym HO_7.out
       subst eo11
       go_wp2_with (first|(go_at_call 92;(with_reducible refine(spec_l01Once.calls g s0_0 x1001_1 x1002_1 5 t175 t176 t177 w0 _ ?side1 ?side2 A10.out).mono ?_);(case side1=>exact z2_4);(case side2=>exact z2_2);rintro e w12 ⟨rfl,hi,hb,hk⟩;replace HO_7:=Za (Yk (Kd.R_keep (IsS68.apart (show IsS68 w0 _ g s0_0 x1001_1 x1002_1 from by repeat(first|(with_reducible first|exact HI0.out|apply IsS68.alloc|apply IsS68.drewN|apply IsS68.drew|apply IsS68.set_1|apply IsS68.set_2)|exact HI0.out)) z2_13 (by decide)) hk (fun _ h=>h.2)) (fun _ h=>h.1));replace HK:=Za (KeepBut.trans z2_0 hk (.inl rfl));replace HB:=Za (hb);replace HI0:=Za (hi);(try clear hb);(try clear hb2);(try clear hk);(try clear hi)))
       go_meet
       case rel=>exact⟨_,(t175),(t176),(t177),z2_19,H',⟨by have:=HK1.out;first|omega|exact Nat.le_refl _⟩,⟨by(with_reducible repeat(first|apply Zo|apply Zm|apply Zn));exact HO_7.out⟩,⟨by repeat(first|(with_reducible first|exact HI0.out|apply IsS68.alloc|apply IsS68.drewN|apply IsS68.drew|apply IsS68.set_1|apply IsS68.set_2)|exact HI0.out)⟩,⟨by repeat(first|(with_reducible first|exact HK.out|apply KeepBut.set_|apply keep_drewN|apply keep_drew|apply keep_alloc)|exact HK.out)⟩,⟨by repeat(first|(with_reducible first|exact HB.out|apply Zh|apply Zf|apply Ze|refine Zd ?_ (IsS68.ge HI0.out))|exact HB.out)⟩⟩
      ·rw[if_neg c9] at H
       have c9b0:decide ((x7_1.length:Int)<6)=false:=Yf c9
       have c9b1:decide (x7_1.length<6)=false:=Yf (by omega)
       clear c9
       have H':=Za H
       clear H
       obtain⟨Ao13,co13,eo13⟩:=Ym HO_7.out
       subst eo13
       go_wp2
       go_meet
       case rel=>exact⟨_,(false),(x1001_1),(x1002_1),z2_19,H',⟨by have:=HK1.out;first|omega|exact Nat.le_refl _⟩,⟨by(with_reducible repeat(first|apply Zo|apply Zm|apply Zn));exact HO_7.out⟩,⟨by repeat(first|(with_reducible first|exact HI0.out|apply IsS68.alloc|apply IsS68.drewN|apply IsS68.drew|apply IsS68.set_1|apply IsS68.set_2)|exact HI0.out)⟩,⟨by repeat(first|(with_reducible first|exact HK.out|apply KeepBut.set_|apply keep_drewN|apply keep_drew|apply keep_alloc)|exact HK.out)⟩,⟨by repeat(first|(with_reducible first|exact HB.out|apply Zh|apply Zf|apply Ze|refine Zd ?_ (IsS68.ge HI0.out))|exact HB.out)⟩⟩
     ·rw[if_neg c8] at H
      have c8b0:decide (a2<2)=false:=Yf c8
      clear c8
      (first|rw[c8b0]|(simp only[i64_w,i32_w];rw[c8b0])|skip)
      have H':=Za H
      clear H
      go_wp2
      go_meet
      case rel=>exact⟨_,(false),(x1001_1),(x1002_1),z2_19,H',⟨by have:=HK1.out;first|omega|exact Nat.le_refl _⟩,⟨by(with_reducible repeat(first|apply Zo|apply Zm|apply Zn));exact HO_7.out⟩,⟨by repeat(first|(with_reducible first|exact HI0.out|apply IsS68.alloc|apply IsS68.drewN|apply IsS68.drew|apply IsS68.set_1|apply IsS68.set_2)|exact HI0.out)⟩,⟨by repeat(first|(with_reducible first|exact HK.out|apply KeepBut.set_|apply keep_drewN|apply keep_drew|apply keep_alloc)|exact HK.out)⟩,⟨by repeat(first|(with_reducible first|exact HB.out|apply Zh|apply Zf|apply Ze|refine Zd ?_ (IsS68.ge HI0.out))|exact HB.out)⟩⟩
    case rest=>
     clear HC7
     (try clear c6);(try clear c6b0)
     obtain⟨kq,x26_6,x1001_6,x1002_6,rfl,HA,HJ6,HO_7,HI0,HK,HB⟩:=hcut
     cases kq with
     |zero=>exact absurd HA.out (by simp[spec_l05Block.j1])
     |succ kj6=>
      have H:=HA.out
      clear HA
      simp only[spec_l05Block.j1] at H
      by_cases c14:x26_6=true
      ·subst c14
       have H1:((spec_l01Below.f s0_0 x1001_6 x1002_6 3).bind fun bt178=>((spec_l01Once.f s0_0 bt178.2.1 bt178.2.2 2).bind fun bt182=>(if bt182.1=true then ((spec_l03Expr.f s0_0 bt182.2.1 bt182.2.2).bind fun bt185=>(if x7_1.length<2932031007402 then ((some (x7_1++[(⟨4,0,0,(⟨bt185.1,bt185.2.1,bt185.2.2.1⟩:S72)⟩:S92)]:List (S92))).bind fun y190=>((spec_l01Below.f s0_0 bt185.2.2.2.1 bt185.2.2.2.2 2).bind fun bt193=>((spec_l05Block.f kj6 s0_0 bt193.2.1 bt193.2.2 (wrap64 (1+bt193.1)) (wrap64 (a2+1))).bind fun bt196=>(if y190.length+bt196.1.length<2932031007402 then ((some (y190++bt196.1:List (S92))).bind fun y201=>(if y201.length<2932031007402 then (spec_l05Block.l0 kj6 a1 a2 (y201++[(⟨6,0,0,(⟨0,0,0⟩:S72)⟩:S92)]) (wrap64 (x8_1+1)) s0_0 bt196.2.1 bt196.2.2) else (none))) else (none))))) else (none))) else (if x7_1.length<2932031007402 then ((some (x7_1++[(⟨5,0,wrap64 (1+bt178.1),(⟨0,0,0⟩:S72)⟩:S92)]:List (S92))).bind fun y207=>((spec_l01Below.f s0_0 bt182.2.1 bt182.2.2 2).bind fun bt210=>((spec_l05Block.f kj6 s0_0 bt210.2.1 bt210.2.2 (wrap64 (1+bt210.1)) (wrap64 (a2+1))).bind fun bt213=>(if y207.length+bt213.1.length<2932031007402 then ((some (y207++bt213.1:List (S92))).bind fun y218=>(if y218.length<2932031007402 then (spec_l05Block.l0 kj6 a1 a2 (y218++[(⟨6,0,0,(⟨0,0,0⟩:S72)⟩:S92)]) (wrap64 (x8_1+1)) s0_0 bt213.2.1 bt213.2.2) else (none))) else (none))))) else (none)))))=some (r1,r2,r3):=by rw[if_pos rfl] at H;exact H
       clear H
       have H:=H1
       clear H1
       replace H:=Zg H
       obtain⟨⟨t178,t179,t180⟩,A150,H⟩:=H
       replace H:((spec_l01Once.f s0_0 t179 t180 2).bind fun bt182=>(if bt182.1=true then ((spec_l03Expr.f s0_0 bt182.2.1 bt182.2.2).bind fun bt185=>(if x7_1.length<2932031007402 then ((some (x7_1++[(⟨4,0,0,(⟨bt185.1,bt185.2.1,bt185.2.2.1⟩:S72)⟩:S92)]:List (S92))).bind fun y190=>((spec_l01Below.f s0_0 bt185.2.2.2.1 bt185.2.2.2.2 2).bind fun bt193=>((spec_l05Block.f kj6 s0_0 bt193.2.1 bt193.2.2 (wrap64 (1+bt193.1)) (wrap64 (a2+1))).bind fun bt196=>(if y190.length+bt196.1.length<2932031007402 then ((some (y190++bt196.1:List (S92))).bind fun y201=>(if y201.length<2932031007402 then (spec_l05Block.l0 kj6 a1 a2 (y201++[(⟨6,0,0,(⟨0,0,0⟩:S72)⟩:S92)]) (wrap64 (x8_1+1)) s0_0 bt196.2.1 bt196.2.2) else (none))) else (none))))) else (none))) else (if x7_1.length<2932031007402 then ((some (x7_1++[(⟨5,0,wrap64 (1+t178),(⟨0,0,0⟩:S72)⟩:S92)]:List (S92))).bind fun y207=>((spec_l01Below.f s0_0 bt182.2.1 bt182.2.2 2).bind fun bt210=>((spec_l05Block.f kj6 s0_0 bt210.2.1 bt210.2.2 (wrap64 (1+bt210.1)) (wrap64 (a2+1))).bind fun bt213=>(if y207.length+bt213.1.length<2932031007402 then ((some (y207++bt213.1:List (S92))).bind fun y218=>(if y218.length<2932031007402 then (spec_l05Block.l0 kj6 a1 a2 (y218++[(⟨6,0,0,(⟨0,0,0⟩:S72)⟩:S92)]) (wrap64 (x8_1+1)) s0_0 bt213.2.1 bt213.2.2) else (none))) else (none))))) else (none))))=some (r1,r2,r3):=H
       have A15:=Za A150
       clear A150
       replace H:=Zg H
       obtain⟨⟨t182,t183,t184⟩,A160,H⟩:=H
       replace H:(if t182=true then ((spec_l03Expr.f s0_0 t183 t184).bind fun bt185=>(if x7_1.length<2932031007402 then ((some (x7_1++[(⟨4,0,0,(⟨bt185.1,bt185.2.1,bt185.2.2.1⟩:S72)⟩:S92)]:List (S92))).bind fun y190=>((spec_l01Below.f s0_0 bt185.2.2.2.1 bt185.2.2.2.2 2).bind fun bt193=>((spec_l05Block.f kj6 s0_0 bt193.2.1 bt193.2.2 (wrap64 (1+bt193.1)) (wrap64 (a2+1))).bind fun bt196=>(if y190.length+bt196.1.length<2932031007402 then ((some (y190++bt196.1:List (S92))).bind fun y201=>(if y201.length<2932031007402 then (spec_l05Block.l0 kj6 a1 a2 (y201++[(⟨6,0,0,(⟨0,0,0⟩:S72)⟩:S92)]) (wrap64 (x8_1+1)) s0_0 bt196.2.1 bt196.2.2) else (none))) else (none))))) else (none))) else (if x7_1.length<2932031007402 then ((some (x7_1++[(⟨5,0,wrap64 (1+t178),(⟨0,0,0⟩:S72)⟩:S92)]:List (S92))).bind fun y207=>((spec_l01Below.f s0_0 t183 t184 2).bind fun bt210=>((spec_l05Block.f kj6 s0_0 bt210.2.1 bt210.2.2 (wrap64 (1+bt210.1)) (wrap64 (a2+1))).bind fun bt213=>(if y207.length+bt213.1.length<2932031007402 then ((some (y207++bt213.1:List (S92))).bind fun y218=>(if y218.length<2932031007402 then (spec_l05Block.l0 kj6 a1 a2 (y218++[(⟨6,0,0,(⟨0,0,0⟩:S72)⟩:S92)]) (wrap64 (x8_1+1)) s0_0 bt213.2.1 bt213.2.2) else (none))) else (none))))) else (none)))=some (r1,r2,r3):=H
       have A16:=Za A160
       clear A160
       by_cases c17:t182=true
       ·subst c17
        have H1:((spec_l03Expr.f s0_0 t183 t184).bind fun bt185=>(if x7_1.length<2932031007402 then ((some (x7_1++[(⟨4,0,0,(⟨bt185.1,bt185.2.1,bt185.2.2.1⟩:S72)⟩:S92)]:List (S92))).bind fun y190=>((spec_l01Below.f s0_0 bt185.2.2.2.1 bt185.2.2.2.2 2).bind fun bt193=>((spec_l05Block.f kj6 s0_0 bt193.2.1 bt193.2.2 (wrap64 (1+bt193.1)) (wrap64 (a2+1))).bind fun bt196=>(if y190.length+bt196.1.length<2932031007402 then ((some (y190++bt196.1:List (S92))).bind fun y201=>(if y201.length<2932031007402 then (spec_l05Block.l0 kj6 a1 a2 (y201++[(⟨6,0,0,(⟨0,0,0⟩:S72)⟩:S92)]) (wrap64 (x8_1+1)) s0_0 bt196.2.1 bt196.2.2) else (none))) else (none))))) else (none)))=some (r1,r2,r3):=by rw[if_pos rfl] at H;exact H
        clear H
        have H:=H1
        clear H1
        replace H:=Zg H
        obtain⟨⟨t185,t186,t187,t188,t189⟩,A180,H⟩:=H
        replace H:(if x7_1.length<2932031007402 then ((some (x7_1++[(⟨4,0,0,(⟨t185,t186,t187⟩:S72)⟩:S92)]:List (S92))).bind fun y190=>((spec_l01Below.f s0_0 t188 t189 2).bind fun bt193=>((spec_l05Block.f kj6 s0_0 bt193.2.1 bt193.2.2 (wrap64 (1+bt193.1)) (wrap64 (a2+1))).bind fun bt196=>(if y190.length+bt196.1.length<2932031007402 then ((some (y190++bt196.1:List (S92))).bind fun y201=>(if y201.length<2932031007402 then (spec_l05Block.l0 kj6 a1 a2 (y201++[(⟨6,0,0,(⟨0,0,0⟩:S72)⟩:S92)]) (wrap64 (x8_1+1)) s0_0 bt196.2.1 bt196.2.2) else (none))) else (none))))) else (none))=some (r1,r2,r3):=H
        have A18:=Za A180
        clear A180
        by_cases c19:x7_1.length<2932031007402
        ·rw[if_pos c19] at H
         have LMc19:=Za c19
         clear c19
         obtain⟨y190,hy190⟩:∃y_:List (S92),y_=(x7_1++[(⟨4,0,0,(⟨t185,t186,t187⟩:S72)⟩:S92)]):=⟨_,rfl⟩
         replace H:((spec_l01Below.f s0_0 t188 t189 2).bind fun bt193=>((spec_l05Block.f kj6 s0_0 bt193.2.1 bt193.2.2 (wrap64 (1+bt193.1)) (wrap64 (a2+1))).bind fun bt196=>(if y190.length+bt196.1.length<2932031007402 then ((some (y190++bt196.1:List (S92))).bind fun y201=>(if y201.length<2932031007402 then (spec_l05Block.l0 kj6 a1 a2 (y201++[(⟨6,0,0,(⟨0,0,0⟩:S72)⟩:S92)]) (wrap64 (x8_1+1)) s0_0 bt196.2.1 bt196.2.2) else (none))) else (none))))=some (r1,r2,r3):=by first|(rw[hy190];with_reducible exact H)|(have H2_:=(Yc _ _).symm.trans H;rw[hy190];with_reducible exact H2_)|(have H2_:=(Yc _ _).symm.trans H;with_reducible exact H2_)|with_reducible exact H|(rw[hy190];exact H)|exact H
         have Ny190:=Za hy190
         clear hy190
         replace H:=Zg H
         obtain⟨⟨t193,t194,t195⟩,A200,H⟩:=H
         replace H:((spec_l05Block.f kj6 s0_0 t194 t195 (wrap64 (1+t193)) (wrap64 (a2+1))).bind fun bt196=>(if y190.length+bt196.1.length<2932031007402 then ((some (y190++bt196.1:List (S92))).bind fun y201=>(if y201.length<2932031007402 then (spec_l05Block.l0 kj6 a1 a2 (y201++[(⟨6,0,0,(⟨0,0,0⟩:S72)⟩:S92)]) (wrap64 (x8_1+1)) s0_0 bt196.2.1 bt196.2.2) else (none))) else (none)))=some (r1,r2,r3):=H
         have A20:=Za A200
         clear A200
         replace H:=Zg H
         obtain⟨⟨t196,t199,t200⟩,A210,H⟩:=H
         replace H:(if y190.length+t196.length<2932031007402 then ((some (y190++t196:List (S92))).bind fun y201=>(if y201.length<2932031007402 then (spec_l05Block.l0 kj6 a1 a2 (y201++[(⟨6,0,0,(⟨0,0,0⟩:S72)⟩:S92)]) (wrap64 (x8_1+1)) s0_0 t199 t200) else (none))) else (none))=some (r1,r2,r3):=H
         have A21:=Za A210
         clear A210
         by_cases c22:y190.length+t196.length<2932031007402
         ·rw[if_pos c22] at H
          have LMc22:=Za c22
          clear c22
          obtain⟨y201,hy201⟩:∃y_:List (S92),y_=(y190++t196):=⟨_,rfl⟩
          replace H:(if y201.length<2932031007402 then (spec_l05Block.l0 kj6 a1 a2 (y201++[(⟨6,0,0,(⟨0,0,0⟩:S72)⟩:S92)]) (wrap64 (x8_1+1)) s0_0 t199 t200) else (none))=some (r1,r2,r3):=by first|(rw[hy201];with_reducible exact H)|(have H2_:=(Yc _ _).symm.trans H;rw[hy201];with_reducible exact H2_)|(have H2_:=(Yc _ _).symm.trans H;with_reducible exact H2_)|with_reducible exact H|(rw[hy201];exact H)|exact H
          have Ny201:=Za hy201
          clear hy201
          by_cases c23:y201.length<2932031007402
          ·rw[if_pos c23] at H
           have LMc23:=Za c23
           clear c23
           obtain⟨y204,hy204⟩:∃y_:List (S92),y_=(y201++[(⟨6,0,0,(⟨0,0,0⟩:S72)⟩:S92)]):=⟨_,rfl⟩
           replace H:(spec_l05Block.l0 kj6 a1 a2 y204 (wrap64 (x8_1+1)) s0_0 t199 t200)=some (r1,r2,r3):=by first|(rw[hy204];with_reducible exact H)|(have H2_:=(Yc _ _).symm.trans H;rw[hy204];with_reducible exact H2_)|(have H2_:=(Yc _ _).symm.trans H;with_reducible exact H2_)|with_reducible exact H|(rw[hy204];exact H)|exact H
           have Ny204:=Za hy204
           clear hy204
           have H':=Za H
           clear H
           go_wp2_with (first|((first|((with_reducible refine gate_callee (f:=24) rfl ?_);refine goesL_ (some 28) rfl rfl Tryz.func24 z2_25 rfl #[.pointer (some ⟨g,0,none⟩),.int .i64 3] rfl z2_1 ?_;(with_reducible refine(spec_l01Below.calls g s0_0 x1001_6 x1002_6 3 t178 t179 t180 w0 _ ?side1 ?side2 A15.out).mono ?_))|(go_at_call 24;(with_reducible refine(spec_l01Below.calls g s0_0 x1001_6 x1002_6 3 t178 t179 t180 w0 _ ?side1 ?side2 A15.out).mono ?_)));(case side1=>exact z2_4);(case side2=>exact z2_2);rintro e w24 ⟨rfl,hi,hb,hk⟩;(first|refine⟨_,rfl,?_⟩|skip);replace HO_7:=Za (Yk (Kd.R_keep (IsS68.apart (show IsS68 w0 _ g s0_0 x1001_6 x1002_6 from by repeat(first|(with_reducible first|exact HI0.out|apply IsS68.alloc|apply IsS68.drewN|apply IsS68.drew|apply IsS68.set_1|apply IsS68.set_2)|exact HI0.out)) z2_13 (by decide)) hk (fun _ h=>h.2)) (fun _ h=>h.1));replace HK:=Za (KeepBut.trans z2_0 hk (.inl rfl));replace HB:=Za (hb);replace HI0:=Za (hi);(try clear hb);(try clear hb2);(try clear hk);(try clear hi))|((with_reducible refine Zp (N:=9) rfl ?_);(try(refine gate_guard (by rfl) ?_;dsimp only));refine Zr ?hg (N:=9) ?hd (cs:= #[.int .i64 0,.int .i64 0,.int .i64 0,.int .i64 0,.int .i64 0,.int .i64 0]) (t:=92) ?hr ?_;(case hd=>rfl);(case hg=>rfl);(case hr=>exact z2_20);intro gb181 hg w25 hbox hb;replace HO_7:=Za (Kd.R_below (Kd.R_elderB z2_13 gb181 (Nat.le_of_eq hg.symm)) hb);replace HB:=Za (Zj z2_2 hb);have BK181:=Za (hbox);have GW181:=Za ((z2_35:w.heap.size≤gb181));have GE181:=Za ((Nat.le_trans HW0.out (z2_35:w.heap.size≤gb181):w0.heap.size≤gb181));replace HK:=Za (KeepBut.trans z2_0 (KeepBut.of_below hb g none) (.inl rfl));have NB0_181:=Za ((z2_31:g≠gb181));have NB181_0:=Za ((z2_32:gb181≠g));replace HI0:=Za (IsS68.below z2_4 hb);clear hb hbox hg;have hnb26:=NB181_0.out;have hnc26:=NB0_181.out;have hcz27_0:w25.cell? ⟨gb181,0,none⟩=some (.int .i64 0):=(Zb BK181.out 0).trans rfl;have hcz27_1:w25.cell? ⟨gb181,1,none⟩=some (.int .i64 0):=(Zb BK181.out 1).trans rfl;have hcz27_2:w25.cell? ⟨gb181,2,none⟩=some (.int .i64 0):=(Zb BK181.out 2).trans rfl;have hcz27_3:w25.cell? ⟨gb181,3,none⟩=some (.int .i64 0):=(Zb BK181.out 3).trans rfl;have hcz27_4:w25.cell? ⟨gb181,4,none⟩=some (.int .i64 0):=(Zb BK181.out 4).trans rfl;have hcz27_5:w25.cell? ⟨gb181,5,none⟩=some (.int .i64 0):=(Zb BK181.out 5).trans rfl;have hfz27_0:=Zc BK181.out 0;have hfz27_1:=Zc BK181.out 1;have hfz27_2:=Zc BK181.out 2;have hfz27_3:=Zc BK181.out 3;have hfz27_4:=Zc BK181.out 4;have hfz27_5:=Zc BK181.out 5)|((with_reducible refine Ye (t:=92) (p:=9) rfl ?_);refine Yd (t:=92) (p:=9) (v:= ?vo_w28) (w1:=((((((w25.setCell ⟨gb181,0,none⟩ (.int .i64 5)).setCell ⟨gb181,1,none⟩ (.int .i64 0)).setCell ⟨gb181,2,none⟩ (.int .i64 (wrap64 (1+t178)))).setCell ⟨gb181,3,none⟩ (.int .i64 0)).setCell ⟨gb181,4,none⟩ (.int .i64 0)).setCell ⟨gb181,5,none⟩ (.int .i64 0))) ?hg ?ho ?hn ?hr ?_;(case ho=>rfl);(case hg=>rfl);(case hn=>rfl);(case hr=>exact z2_20);intro w28 hw;have n0_:Aside0 (Kd.R k92 92 w28 w.heap.size (fun k_=>k_≠gb181) u7 x7_1):=⟨z2_18⟩;have n1_:Aside0 (w28.heap[gb181]? =some (.cells #[.int .i64 5,.int .i64 0,.int .i64 (wrap64 (1+t178)),.int .i64 0,.int .i64 0,.int .i64 0] 92 (0,0))):=⟨z2_10⟩;have n2_:Aside0 (IsS68 w0 w28 g s0_0 t179 t180):=⟨(by rw[hw];exact z2_5)⟩;have n3_:Aside0 (KeepBut w w28 g none):=⟨(by rw[hw];exact z2_3)⟩;have n4_:Aside0 (Below w0.heap.size w0 w28):=⟨(by rw[hw];exact z2_6)⟩;clear hw;clear HO_7;clear BK181;clear HI0;clear HK;clear HB;have HO_7:=n0_;have BK181:=n1_;have HI0:=n2_;have HK:=n3_;have HB:=n4_;clear n0_ n1_ n2_ n3_ n4_)|((first|((with_reducible refine gate_callee (f:=92) rfl ?_);refine goesL_ (some 32) rfl rfl Tryz.func92 z2_25 rfl #[.pointer (some ⟨g,0,none⟩),.int .i64 2] rfl z2_1 ?_;(with_reducible refine(spec_l01Once.calls g s0_0 t179 t180 2 true t183 t184 w0 _ ?side1 ?side2 A16.out).mono ?_))|(go_at_call 92;(with_reducible refine(spec_l01Once.calls g s0_0 t179 t180 2 true t183 t184 w0 _ ?side1 ?side2 A16.out).mono ?_)));(case side1=>exact z2_5);(case side2=>exact z2_6);rintro e w29 ⟨rfl,hi,hb,hk⟩;(first|refine⟨_,rfl,?_⟩|skip);replace HO_7:=Za (Yk (Kd.R_keep (IsS68.apart (show IsS68 w0 _ g s0_0 t179 t180 from by repeat(first|(with_reducible first|exact HI0.out|apply IsS68.alloc|apply IsS68.drewN|apply IsS68.drew|apply IsS68.set_1|apply IsS68.set_2|refine IsS68.far ?_ NB0_181.out _)|exact HI0.out)) z2_13 (by decide)) hk (fun _ h=>h.2)) (fun _ h=>h.1));replace BK181:=Za (KeepBut.blk hk (g':=gb181) (o:= .cells #[.int .i64 5,.int .i64 0,.int .i64 (wrap64 (1+t178)),.int .i64 0,.int .i64 0,.int .i64 0] 92 (0,0)) z2_7 NB181_0.out (by simp));replace HK:=Za (KeepBut.trans z2_3 hk (.inl rfl));replace HB:=Za (hb);replace HI0:=Za (hi);(try clear hb);(try clear hb2);(try clear hk);(try clear hi))|((first|((with_reducible refine gate_callee (f:=38) rfl ?_);refine goesL_ (some 34) rfl rfl Tryz.func38 z2_25 rfl #[.pointer (some ⟨g,0,none⟩)] rfl z2_1 ?_;(with_reducible refine(spec_l03Expr.calls g s0_0 t183 t184 t185 t186 t187 t188 t189 w0 _ ?side1 ?side2 A18.out).mono ?_))|(go_at_call 38;(with_reducible refine(spec_l03Expr.calls g s0_0 t183 t184 t185 t186 t187 t188 t189 w0 _ ?side1 ?side2 A18.out).mono ?_)));(case side1=>exact z2_5);(case side2=>exact z2_6);rintro e w30 ⟨rfl,hi,hb,hk⟩;(first|refine⟨_,rfl,?_⟩|skip);replace HO_7:=Za (Yk (Kd.R_keep (IsS68.apart (show IsS68 w0 _ g s0_0 t183 t184 from by repeat(first|(with_reducible first|exact HI0.out|apply IsS68.alloc|apply IsS68.drewN|apply IsS68.drew|apply IsS68.set_1|apply IsS68.set_2|refine IsS68.far ?_ NB0_181.out _)|exact HI0.out)) z2_13 (by decide)) hk (fun _ h=>h.2)) (fun _ h=>h.1));replace BK181:=Za (KeepBut.blk hk (g':=gb181) (o:= .cells #[.int .i64 5,.int .i64 0,.int .i64 (wrap64 (1+t178)),.int .i64 0,.int .i64 0,.int .i64 0] 92 (0,0)) z2_7 NB181_0.out (by simp));replace HK:=Za (KeepBut.trans z2_3 hk (.inl rfl));replace HB:=Za (hb);replace HI0:=Za (hi);(try clear hb);(try clear hb2);(try clear hk);(try clear hi);have hcz31_0:w30.cell? ⟨gb181,0,none⟩=some (.int .i64 5):=(Zb BK181.out 0).trans rfl;have hcz31_1:w30.cell? ⟨gb181,1,none⟩=some (.int .i64 0):=(Zb BK181.out 1).trans rfl;have hcz31_2:w30.cell? ⟨gb181,2,none⟩=some (.int .i64 (wrap64 (1+t178))):=(Zb BK181.out 2).trans rfl;have hcz31_3:w30.cell? ⟨gb181,3,none⟩=some (.int .i64 0):=(Zb BK181.out 3).trans rfl;have hcz31_4:w30.cell? ⟨gb181,4,none⟩=some (.int .i64 0):=(Zb BK181.out 4).trans rfl;have hcz31_5:w30.cell? ⟨gb181,5,none⟩=some (.int .i64 0):=(Zb BK181.out 5).trans rfl;have hfz31_0:=Zc BK181.out 0;have hfz31_1:=Zc BK181.out 1;have hfz31_2:=Zc BK181.out 2;have hfz31_3:=Zc BK181.out 3;have hfz31_4:=Zc BK181.out 4;have hfz31_5:=Zc BK181.out 5)|((with_reducible refine Ye (t:=92) (p:=9) rfl ?_);refine Yd (t:=92) (p:=9) (v:= ?vo_w32) (w1:=((((((w30.setCell ⟨gb181,0,none⟩ (.int .i64 4)).setCell ⟨gb181,1,none⟩ (.int .i64 0)).setCell ⟨gb181,2,none⟩ (.int .i64 0)).setCell ⟨gb181,3,none⟩ (.int .i64 t185)).setCell ⟨gb181,4,none⟩ (.int .i64 t186)).setCell ⟨gb181,5,none⟩ (.int .i64 t187))) ?hg ?ho ?hn ?hr ?_;(case ho=>rfl);(case hg=>rfl);(case hn=>rfl);(case hr=>exact z2_20);intro w32 hw;have n0_:Aside0 (Kd.R k92 92 w32 w.heap.size (fun k_=>k_≠gb181) u7 x7_1):=⟨(by rw[hw];exact(by(with_reducible repeat(first|apply Zo|apply Zm|apply Zn));exact Yk (Kd.R_far (p:=⟨gb181,5,none⟩) (Kd.R_far (p:=⟨gb181,4,none⟩) (Kd.R_far (p:=⟨gb181,3,none⟩) (Kd.R_far (p:=⟨gb181,2,none⟩) (Kd.R_far (p:=⟨gb181,1,none⟩) (Kd.R_far (p:=⟨gb181,0,none⟩) (Yk HO_7.out (fun k_ hk=>(⟨hk,hk⟩:_∧k_≠gb181))) (fun _ hk=>hk.2) (.int .i64 4)) (fun _ hk=>hk.2) (.int .i64 0)) (fun _ hk=>hk.2) (.int .i64 0)) (fun _ hk=>hk.2) (.int .i64 t185)) (fun _ hk=>hk.2) (.int .i64 t186)) (fun _ hk=>hk.2) (.int .i64 t187)) (fun _ hk=>hk.1)))⟩;have n1_:Aside0 (w32.heap[gb181]? =some (.cells #[.int .i64 4,.int .i64 0,.int .i64 0,.int .i64 t185,.int .i64 t186,.int .i64 t187] 92 (0,0))):=⟨(by rw[hw];exact(by(with_reducible repeat(first|refine blk_drewN ?_ _|refine blk_drew ?_|refine blk_alloc ?_ _));refine blk_put (cs:= #[.int .i64 4,.int .i64 0,.int .i64 0,.int .i64 t185,.int .i64 t186,.int .i64 0]) ?_ 5 _ rfl;(with_reducible repeat(first|refine blk_drewN ?_ _|refine blk_drew ?_|refine blk_alloc ?_ _));refine blk_put (cs:= #[.int .i64 4,.int .i64 0,.int .i64 0,.int .i64 t185,.int .i64 0,.int .i64 0]) ?_ 4 _ rfl;(with_reducible repeat(first|refine blk_drewN ?_ _|refine blk_drew ?_|refine blk_alloc ?_ _));refine blk_put (cs:= #[.int .i64 4,.int .i64 0,.int .i64 0,.int .i64 0,.int .i64 0,.int .i64 0]) ?_ 3 _ rfl;(with_reducible repeat(first|refine blk_drewN ?_ _|refine blk_drew ?_|refine blk_alloc ?_ _));refine blk_put (cs:= #[.int .i64 4,.int .i64 0,.int .i64 (wrap64 (1+t178)),.int .i64 0,.int .i64 0,.int .i64 0]) ?_ 2 _ rfl;(with_reducible repeat(first|refine blk_drewN ?_ _|refine blk_drew ?_|refine blk_alloc ?_ _));refine blk_put (cs:= #[.int .i64 4,.int .i64 0,.int .i64 (wrap64 (1+t178)),.int .i64 0,.int .i64 0,.int .i64 0]) ?_ 1 _ rfl;(with_reducible repeat(first|refine blk_drewN ?_ _|refine blk_drew ?_|refine blk_alloc ?_ _));refine blk_put (cs:= #[.int .i64 5,.int .i64 0,.int .i64 (wrap64 (1+t178)),.int .i64 0,.int .i64 0,.int .i64 0]) ?_ 0 _ rfl;(with_reducible repeat(first|refine blk_drewN ?_ _|refine blk_drew ?_|refine blk_alloc ?_ _));exact BK181.out))⟩;have n2_:Aside0 (IsS68 w0 w32 g s0_0 t188 t189):=⟨(by rw[hw];exact z2_5)⟩;have n3_:Aside0 (KeepBut w w32 g none):=⟨(by rw[hw];exact z2_3)⟩;have n4_:Aside0 (Below w0.heap.size w0 w32):=⟨(by rw[hw];exact z2_6)⟩;clear hw;clear HO_7;clear BK181;clear HI0;clear HK;clear HB;have HO_7:=n0_;have BK181:=n1_;have HI0:=n2_;have HK:=n3_;have HB:=n4_;clear n0_ n1_ n2_ n3_ n4_;have hcz33_0:w32.cell? ⟨gb181,0,none⟩=some (.int .i64 4):=(Zb BK181.out 0).trans rfl;have hcz33_1:w32.cell? ⟨gb181,1,none⟩=some (.int .i64 0):=(Zb BK181.out 1).trans rfl;have hcz33_2:w32.cell? ⟨gb181,2,none⟩=some (.int .i64 0):=(Zb BK181.out 2).trans rfl;have hcz33_3:w32.cell? ⟨gb181,3,none⟩=some (.int .i64 t185):=(Zb BK181.out 3).trans rfl;have hcz33_4:w32.cell? ⟨gb181,4,none⟩=some (.int .i64 t186):=(Zb BK181.out 4).trans rfl;have hcz33_5:w32.cell? ⟨gb181,5,none⟩=some (.int .i64 t187):=(Zb BK181.out 5).trans rfl;have hfz33_0:=Zc BK181.out 0;have hfz33_1:=Zc BK181.out 1;have hfz33_2:=Zc BK181.out 2;have hfz33_3:=Zc BK181.out 3;have hfz33_4:=Zc BK181.out 4;have hfz33_5:=Zc BK181.out 5)|((with_reducible refine gate_builtin (b:= .append) (xs:= #[.tmp 36,.tmp 38]) rfl ?_);(try(refine gate_guard (by rfl) ?_;dsimp only));at_builtin;refine Kd.R_append k92 w.heap.size rfl (.tmp 36) (.tmp 38) 69 92 (.agg #[(.int .i64 0),(.int .i64 0),(.int .i64 0),(.int .i64 0),(.int .i64 0),(.int .i64 0)]) 48 rfl Tryz.underlying69 info92 rfl (by decide) (by omega) u7 x7_1 (⟨4,0,0,(⟨t185,t186,t187⟩:S72)⟩:S92) [.int .i64 4,.int .i64 0,.int .i64 0,.int .i64 t185,.int .i64 t186,.int .i64 t187] (fun k_=>k_≠gb181) (fun _=>False) rfl rfl ?aP (fun _ hk=>hk.elim) ?aF ?aO (Zx _ _) ?aS ?aL ?_;(case aP=>exact k92_mkM _ _ _ (⟨4,0,0,(⟨t185,t186,t187⟩:S72)⟩:S92));(case aF=>exact(fun k_ hk=>Kd.freshB (g:=gb181) (o:= .cells #[.int .i64 4,.int .i64 0,.int .i64 0,.int .i64 t185,.int .i64 t186,.int .i64 t187] 92 (0,0)) z2_7 k_ hk));(case aO=>exact z2_13);(case aS=>exact z2_38);(case aL=>have:=LMc19.out;omega);intro v191 w34 ho hb hg hat;rw[←Ny190.out] at ho;have n0_:=Za (IsS68.grown z2_5 hg (IsS68.own_ne HI0.out HO_7.out (by decide)));have n1_:=Za (blk_grown (g:=gb181) (o:= .cells #[.int .i64 4,.int .i64 0,.int .i64 0,.int .i64 t185,.int .i64 t186,.int .i64 t187] 92 (0,0)) z2_7 hg (Kd.R_away HO_7.out (fun _ hk=>hk)));have n2_:=Za (below_weaken z2_6 HL.out hb);have n3_:=Za (KeepBut.trans z2_3 (KeepBut.of_grown hg g) (Kd.R_base2 HO_7.out));have n4_:=Za (ho);clear HI0;clear BK181;clear HB;clear HK;clear HO_7;have HI0:=n0_;have BK181:=n1_;have HB:=n2_;have HK:=n3_;have HO192:=n4_;clear n0_ n1_ n2_ n3_ n4_;clear ho hb hg hat)|((first|((with_reducible refine gate_callee (f:=24) rfl ?_);refine goesL_ (some 43) rfl rfl Tryz.func24 z2_25 rfl #[.pointer (some ⟨g,0,none⟩),.int .i64 2] rfl z2_1 ?_;(with_reducible refine(spec_l01Below.calls g s0_0 t188 t189 2 t193 t194 t195 w0 _ ?side1 ?side2 A20.out).mono ?_))|(go_at_call 24;(with_reducible refine(spec_l01Below.calls g s0_0 t188 t189 2 t193 t194 t195 w0 _ ?side1 ?side2 A20.out).mono ?_)));(case side1=>exact z2_5);(case side2=>exact z2_6);rintro e w35 ⟨rfl,hi,hb,hk⟩;(first|refine⟨_,rfl,?_⟩|skip);replace BK181:=Za (KeepBut.blk hk (g':=gb181) (o:= .cells #[.int .i64 4,.int .i64 0,.int .i64 0,.int .i64 t185,.int .i64 t186,.int .i64 t187] 92 (0,0)) z2_7 NB181_0.out (by simp));replace HO192:=Za (Yk (Kd.R_keep (IsS68.apart (show IsS68 w0 _ g s0_0 t188 t189 from by repeat(first|(with_reducible first|exact HI0.out|apply IsS68.alloc|apply IsS68.drewN|apply IsS68.drew|apply IsS68.set_1|apply IsS68.set_2|refine IsS68.far ?_ NB0_181.out _)|exact HI0.out)) (by(with_reducible repeat(first|apply Zo|apply Zm|apply Zn));exact HO192.out) (by decide)) hk (fun _ h=>h.2)) (fun _ h=>h.1));replace HK:=Za (KeepBut.trans z2_3 hk (.inl rfl));replace HB:=Za (hb);replace HI0:=Za (hi);(try clear hb);(try clear hb2);(try clear hk);(try clear hi))|((first|((with_reducible refine gate_callee (f:=65) rfl ?_);refine goesL_ (some 47) rfl rfl Tryz.func65 z2_25 rfl #[.pointer (some ⟨g,0,none⟩),.int .i64 (wrap64 (1+t193)),.int .i64 (wrap64 (a2+1))] rfl z2_1 ?_;(with_reducible refine(ih kj6 (by have:=HK1.out;have:=HJ6.out;omega) g s0_0 t194 t195 (wrap64 (1+t193)) (wrap64 (a2+1)) t196 t199 t200 w0 _ ?side1 ?side2 A21.out).mono ?_))|(go_at_call 65;(with_reducible refine(ih kj6 (by have:=HK1.out;have:=HJ6.out;omega) g s0_0 t194 t195 (wrap64 (1+t193)) (wrap64 (a2+1)) t196 t199 t200 w0 _ ?side1 ?side2 A21.out).mono ?_)));(case side1=>exact z2_5);(case side2=>exact z2_6);rintro e w36 ⟨v197,rfl,ho0,hi,hb,hk⟩;(first|refine⟨_,rfl,?_⟩|skip);have HO198:=Za (Yr (Kd.R_newB (Kd.R_new' ho0 (Kd.R_lt (by(with_reducible repeat(first|apply Zo|apply Zm|apply Zn));exact HO192.out))) (g:=gb181) (o:= .cells #[.int .i64 4,.int .i64 0,.int .i64 0,.int .i64 t185,.int .i64 t186,.int .i64 t187] 92 (0,0)) z2_7) (keep_size (w:=w) (g:=g) (row:=none) z2_3));replace BK181:=Za (KeepBut.blk hk (g':=gb181) (o:= .cells #[.int .i64 4,.int .i64 0,.int .i64 0,.int .i64 t185,.int .i64 t186,.int .i64 t187] 92 (0,0)) z2_7 NB181_0.out (by simp));replace HO192:=Za (Yk (Kd.R_told (Kd.R_oldK (IsS68.apart (show IsS68 w0 _ g s0_0 t194 t195 from by repeat(first|(with_reducible first|exact HI0.out|apply IsS68.alloc|apply IsS68.drewN|apply IsS68.drew|apply IsS68.set_1|apply IsS68.set_2|refine IsS68.far ?_ NB0_181.out _)|exact HI0.out)) (by(with_reducible repeat(first|apply Zo|apply Zm|apply Zn));exact HO192.out) (by decide)) hk) (Yo ho0)) (fun _ h_=>h_.1));replace HK:=Za (KeepBut.trans z2_3 hk (.inl rfl));replace HB:=Za (hb);replace HI0:=Za (hi);(try clear hb);(try clear hb2);(try clear hk);(try clear hi);(try clear ho0);obtain⟨Ao38,co38,eo38⟩:=Ym HO198.out;subst eo38)|((with_reducible refine gate_builtin (b:= .append) (xs:= #[.tmp 40,.tmp 47]) rfl ?_);(try(refine gate_guard (by rfl) ?_;dsimp only));at_builtin;refine Kd.R_append_rows k92 w.heap.size rfl (.tmp 40) (.tmp 47) 69 92 (.agg #[(.int .i64 0),(.int .i64 0),(.int .i64 0),(.int .i64 0),(.int .i64 0),(.int .i64 0)]) 48 rfl Tryz.underlying69 info92 rfl (by decide) (by omega) v191 y190 t196 _ _ _ (fun k_=>some k_≠(.slice Ao38 t196.length co38:Value).ownBlock∧k_≠gb181) (fun _=>False) rfl rfl ?aO ?aR (fun _ _ h=>h) (fun _ h=>h.elim) ?aF (Zx _ _) ?aS ?aL ?_;(case aR=>repeat(first|exact(Yp HO198.out).2.2|(with_reducible refine Yi ?_ _)|(with_reducible refine Yg ?_ _)|(with_reducible refine Yj ?_)));(case aF=>exact z2_37);(case aO=>exact(by(with_reducible repeat(first|apply Zo|apply Zm|apply Zn));exact Yk HO192.out (fun _ hk=>⟨hk.2,hk.1⟩)));(case aS=>exact z2_38);(case aL=>have:=LMc22.out;omega);intro v202 w37 ho hb hg hat;rw[←Ny201.out] at ho;have n0_:=Za (IsS68.grown z2_5 hg (IsS68.own_ne HI0.out HO192.out (by decide)));have n1_:=Za (blk_grown (g:=gb181) (o:= .cells #[.int .i64 4,.int .i64 0,.int .i64 0,.int .i64 t185,.int .i64 t186,.int .i64 t187] 92 (0,0)) z2_7 hg (Kd.R_away HO192.out (fun _ hk=>hk.1)));have n2_:=Za (Kd.R_after (ok:=(fun k_=>k_≠gb181)) (by(with_reducible repeat(first|apply Zo|apply Zm|apply Zn));exact Yk HO198.out (fun _ hk=>⟨hk.2,hk.1.2⟩)) hg hat);have n3_:=Za (below_weaken z2_6 HL.out hb);have n4_:=Za (KeepBut.trans z2_3 (KeepBut.of_grown hg g) (Kd.R_base2 HO192.out));have n5_:=Za (ho);clear HI0;clear BK181;clear HO198;clear HB;clear HK;clear HO192;have HI0:=n0_;have BK181:=n1_;have HO198:=n2_;have HB:=n3_;have HK:=n4_;have HO203:=n5_;clear n0_ n1_ n2_ n3_ n4_ n5_;clear ho hb hg hat)|((with_reducible refine gate_builtin (b:= .append) (xs:= #[.tmp 49,.tmp 51]) rfl ?_);(try(refine gate_guard (by rfl) ?_;dsimp only));at_builtin;refine Kd.R_append k92 w.heap.size rfl (.tmp 49) (.tmp 51) 69 92 (.agg #[(.int .i64 0),(.int .i64 0),(.int .i64 0),(.int .i64 0),(.int .i64 0),(.int .i64 0)]) 48 rfl Tryz.underlying69 info92 rfl (by decide) (by omega) v202 y201 (⟨6,0,0,(⟨0,0,0⟩:S72)⟩:S92) [.int .i64 6,.int .i64 0,.int .i64 0,.int .i64 0,.int .i64 0,.int .i64 0] (fun k_=>some k_≠(.slice Ao38 t196.length co38:Value).ownBlock∧k_≠gb181) (fun _=>False) rfl rfl ?aP (fun _ hk=>hk.elim) ?aF ?aO (Zx _ _) ?aS ?aL ?_;(case aP=>exact k92_mkM _ _ _ (⟨6,0,0,(⟨0,0,0⟩:S72)⟩:S92));(case aF=>exact z2_37);(case aO=>exact(by(with_reducible repeat(first|apply Zo|apply Zm|apply Zn));exact HO203.out));(case aS=>exact z2_38);(case aL=>have:=LMc23.out;omega);intro v205 w39 ho hb hg hat;rw[←Ny204.out] at ho;have n0_:=Za (IsS68.grown z2_5 hg (IsS68.own_ne HI0.out HO203.out (by decide)));have n1_:=Za (blk_grown (g:=gb181) (o:= .cells #[.int .i64 4,.int .i64 0,.int .i64 0,.int .i64 t185,.int .i64 t186,.int .i64 t187] 92 (0,0)) z2_7 hg (Kd.R_away HO203.out (fun _ hk=>hk.2)));have n2_:=Za (Kd.R_after (ok:=(fun k_=>k_≠gb181)) (by(with_reducible repeat(first|apply Zo|apply Zm|apply Zn));exact HO198.out) hg hat);have n3_:=Za (below_weaken z2_6 HL.out hb);have n4_:=Za (KeepBut.trans z2_3 (KeepBut.of_grown hg g) (Kd.R_base2 HO203.out));have n5_:=Za (ho);clear HI0;clear BK181;clear HO198;clear HB;clear HK;clear HO203;have HI0:=n0_;have BK181:=n1_;have HO198:=n2_;have HB:=n3_;have HK:=n4_;have HO206:=n5_;clear n0_ n1_ n2_ n3_ n4_ n5_;clear ho hb hg hat))
           go_roundg kj6
           case measure=>have:=HK1.out;have:=HJ6.out;omega
           case rel=>exact⟨(y204),(wrap64 (x8_1+1)),(t199),(t200),z2_19,H',⟨by have:=HK1.out;have:=HJ6.out;omega⟩,⟨by(with_reducible repeat(first|apply Zo|apply Zm|apply Zn));exact Yk HO206.out (fun _ hk=>trivial)⟩,⟨by repeat(first|(with_reducible first|exact HI0.out|apply IsS68.alloc|apply IsS68.drewN|apply IsS68.drew|apply IsS68.set_1|apply IsS68.set_2|refine IsS68.far ?_ NB0_181.out _)|exact HI0.out)⟩,⟨by repeat(first|(with_reducible first|exact HK.out|apply KeepBut.set_|apply keep_drewN|apply keep_drew|apply keep_alloc|refine keep_far ?_ GW181.out _)|exact HK.out)⟩,⟨by repeat(first|(with_reducible first|exact HB.out|apply Zh|apply Zf|apply Ze|refine Zd ?_ (IsS68.ge HI0.out)|refine Zd ?_ GE181.out)|exact HB.out)⟩⟩
          ·rw[if_neg c23] at H
           exact absurd H (by simp)
         ·rw[if_neg c22] at H
          exact absurd H (by simp)
        ·rw[if_neg c19] at H
         exact absurd H (by simp)
       ·replace c17:=Bool.eq_false_iff.mpr c17
        subst c17
        have H1:(if x7_1.length<2932031007402 then ((some (x7_1++[(⟨5,0,wrap64 (1+t178),(⟨0,0,0⟩:S72)⟩:S92)]:List (S92))).bind fun y207=>((spec_l01Below.f s0_0 t183 t184 2).bind fun bt210=>((spec_l05Block.f kj6 s0_0 bt210.2.1 bt210.2.2 (wrap64 (1+bt210.1)) (wrap64 (a2+1))).bind fun bt213=>(if y207.length+bt213.1.length<2932031007402 then ((some (y207++bt213.1:List (S92))).bind fun y218=>(if y218.length<2932031007402 then (spec_l05Block.l0 kj6 a1 a2 (y218++[(⟨6,0,0,(⟨0,0,0⟩:S72)⟩:S92)]) (wrap64 (x8_1+1)) s0_0 bt213.2.1 bt213.2.2) else (none))) else (none))))) else (none))=some (r1,r2,r3):=by rw[if_neg (show ¬(false=true) by decide)] at H;exact H
        clear H
        have H:=H1
        clear H1
        by_cases c40:x7_1.length<2932031007402
        ·rw[if_pos c40] at H
         have LMc40:=Za c40
         clear c40
         obtain⟨y207,hy207⟩:∃y_:List (S92),y_=(x7_1++[(⟨5,0,wrap64 (1+t178),(⟨0,0,0⟩:S72)⟩:S92)]):=⟨_,rfl⟩
         replace H:((spec_l01Below.f s0_0 t183 t184 2).bind fun bt210=>((spec_l05Block.f kj6 s0_0 bt210.2.1 bt210.2.2 (wrap64 (1+bt210.1)) (wrap64 (a2+1))).bind fun bt213=>(if y207.length+bt213.1.length<2932031007402 then ((some (y207++bt213.1:List (S92))).bind fun y218=>(if y218.length<2932031007402 then (spec_l05Block.l0 kj6 a1 a2 (y218++[(⟨6,0,0,(⟨0,0,0⟩:S72)⟩:S92)]) (wrap64 (x8_1+1)) s0_0 bt213.2.1 bt213.2.2) else (none))) else (none))))=some (r1,r2,r3):=by first|(rw[hy207];with_reducible exact H)|(have H2_:=(Yc _ _).symm.trans H;rw[hy207];with_reducible exact H2_)|(have H2_:=(Yc _ _).symm.trans H;with_reducible exact H2_)|with_reducible exact H|(rw[hy207];exact H)|exact H
         have Ny207:=Za hy207
         clear hy207
         replace H:=Zg H
         obtain⟨⟨t210,t211,t212⟩,A410,H⟩:=H
         replace H:((spec_l05Block.f kj6 s0_0 t211 t212 (wrap64 (1+t210)) (wrap64 (a2+1))).bind fun bt213=>(if y207.length+bt213.1.length<2932031007402 then ((some (y207++bt213.1:List (S92))).bind fun y218=>(if y218.length<2932031007402 then (spec_l05Block.l0 kj6 a1 a2 (y218++[(⟨6,0,0,(⟨0,0,0⟩:S72)⟩:S92)]) (wrap64 (x8_1+1)) s0_0 bt213.2.1 bt213.2.2) else (none))) else (none)))=some (r1,r2,r3):=H
         have A41:=Za A410
         clear A410
         replace H:=Zg H
         obtain⟨⟨t213,t216,t217⟩,A420,H⟩:=H
         replace H:(if y207.length+t213.length<2932031007402 then ((some (y207++t213:List (S92))).bind fun y218=>(if y218.length<2932031007402 then (spec_l05Block.l0 kj6 a1 a2 (y218++[(⟨6,0,0,(⟨0,0,0⟩:S72)⟩:S92)]) (wrap64 (x8_1+1)) s0_0 t216 t217) else (none))) else (none))=some (r1,r2,r3):=H
         have A42:=Za A420
         clear A420
         by_cases c43:y207.length+t213.length<2932031007402
         ·rw[if_pos c43] at H
          have LMc43:=Za c43
          clear c43
          obtain⟨y218,hy218⟩:∃y_:List (S92),y_=(y207++t213):=⟨_,rfl⟩
          replace H:(if y218.length<2932031007402 then (spec_l05Block.l0 kj6 a1 a2 (y218++[(⟨6,0,0,(⟨0,0,0⟩:S72)⟩:S92)]) (wrap64 (x8_1+1)) s0_0 t216 t217) else (none))=some (r1,r2,r3):=by first|(rw[hy218];with_reducible exact H)|(have H2_:=(Yc _ _).symm.trans H;rw[hy218];with_reducible exact H2_)|(have H2_:=(Yc _ _).symm.trans H;with_reducible exact H2_)|with_reducible exact H|(rw[hy218];exact H)|exact H
          have Ny218:=Za hy218
          clear hy218
          by_cases c44:y218.length<2932031007402
          ·rw[if_pos c44] at H
           have LMc44:=Za c44
           clear c44
           obtain⟨y221,hy221⟩:∃y_:List (S92),y_=(y218++[(⟨6,0,0,(⟨0,0,0⟩:S72)⟩:S92)]):=⟨_,rfl⟩
           replace H:(spec_l05Block.l0 kj6 a1 a2 y221 (wrap64 (x8_1+1)) s0_0 t216 t217)=some (r1,r2,r3):=by first|(rw[hy221];with_reducible exact H)|(have H2_:=(Yc _ _).symm.trans H;rw[hy221];with_reducible exact H2_)|(have H2_:=(Yc _ _).symm.trans H;with_reducible exact H2_)|with_reducible exact H|(rw[hy221];exact H)|exact H
           have Ny221:=Za hy221
           clear hy221
           have H':=Za H
           clear H
           go_wp2_with (first|((first|((with_reducible refine gate_callee (f:=24) rfl ?_);refine goesL_ (some 28) rfl rfl Tryz.func24 z2_25 rfl #[.pointer (some ⟨g,0,none⟩),.int .i64 3] rfl z2_1 ?_;(with_reducible refine(spec_l01Below.calls g s0_0 x1001_6 x1002_6 3 t178 t179 t180 w0 _ ?side1 ?side2 A15.out).mono ?_))|(go_at_call 24;(with_reducible refine(spec_l01Below.calls g s0_0 x1001_6 x1002_6 3 t178 t179 t180 w0 _ ?side1 ?side2 A15.out).mono ?_)));(case side1=>exact z2_4);(case side2=>exact z2_2);rintro e w45 ⟨rfl,hi,hb,hk⟩;(first|refine⟨_,rfl,?_⟩|skip);replace HO_7:=Za (Yk (Kd.R_keep (IsS68.apart (show IsS68 w0 _ g s0_0 x1001_6 x1002_6 from by repeat(first|(with_reducible first|exact HI0.out|apply IsS68.alloc|apply IsS68.drewN|apply IsS68.drew|apply IsS68.set_1|apply IsS68.set_2)|exact HI0.out)) z2_13 (by decide)) hk (fun _ h=>h.2)) (fun _ h=>h.1));replace HK:=Za (KeepBut.trans z2_0 hk (.inl rfl));replace HB:=Za (hb);replace HI0:=Za (hi);(try clear hb);(try clear hb2);(try clear hk);(try clear hi))|((with_reducible refine Zp (N:=9) rfl ?_);(try(refine gate_guard (by rfl) ?_;dsimp only));refine Zr ?hg (N:=9) ?hd (cs:= #[.int .i64 0,.int .i64 0,.int .i64 0,.int .i64 0,.int .i64 0,.int .i64 0]) (t:=92) ?hr ?_;(case hd=>rfl);(case hg=>rfl);(case hr=>exact z2_20);intro gb181 hg w46 hbox hb;replace HO_7:=Za (Kd.R_below (Kd.R_elderB z2_13 gb181 (Nat.le_of_eq hg.symm)) hb);replace HB:=Za (Zj z2_2 hb);have BK181:=Za (hbox);have GW181:=Za ((z2_35:w.heap.size≤gb181));have GE181:=Za ((Nat.le_trans HW0.out (z2_35:w.heap.size≤gb181):w0.heap.size≤gb181));replace HK:=Za (KeepBut.trans z2_0 (KeepBut.of_below hb g none) (.inl rfl));have NB0_181:=Za ((z2_31:g≠gb181));have NB181_0:=Za ((z2_32:gb181≠g));replace HI0:=Za (IsS68.below z2_4 hb);clear hb hbox hg;have hnb47:=NB181_0.out;have hnc47:=NB0_181.out;have hcz48_0:w46.cell? ⟨gb181,0,none⟩=some (.int .i64 0):=(Zb BK181.out 0).trans rfl;have hcz48_1:w46.cell? ⟨gb181,1,none⟩=some (.int .i64 0):=(Zb BK181.out 1).trans rfl;have hcz48_2:w46.cell? ⟨gb181,2,none⟩=some (.int .i64 0):=(Zb BK181.out 2).trans rfl;have hcz48_3:w46.cell? ⟨gb181,3,none⟩=some (.int .i64 0):=(Zb BK181.out 3).trans rfl;have hcz48_4:w46.cell? ⟨gb181,4,none⟩=some (.int .i64 0):=(Zb BK181.out 4).trans rfl;have hcz48_5:w46.cell? ⟨gb181,5,none⟩=some (.int .i64 0):=(Zb BK181.out 5).trans rfl;have hfz48_0:=Zc BK181.out 0;have hfz48_1:=Zc BK181.out 1;have hfz48_2:=Zc BK181.out 2;have hfz48_3:=Zc BK181.out 3;have hfz48_4:=Zc BK181.out 4;have hfz48_5:=Zc BK181.out 5)|((with_reducible refine Ye (t:=92) (p:=9) rfl ?_);refine Yd (t:=92) (p:=9) (v:= ?vo_w49) (w1:=((((((w46.setCell ⟨gb181,0,none⟩ (.int .i64 5)).setCell ⟨gb181,1,none⟩ (.int .i64 0)).setCell ⟨gb181,2,none⟩ (.int .i64 (wrap64 (1+t178)))).setCell ⟨gb181,3,none⟩ (.int .i64 0)).setCell ⟨gb181,4,none⟩ (.int .i64 0)).setCell ⟨gb181,5,none⟩ (.int .i64 0))) ?hg ?ho ?hn ?hr ?_;(case ho=>rfl);(case hg=>rfl);(case hn=>rfl);(case hr=>exact z2_20);intro w49 hw;have n0_:Aside0 (Kd.R k92 92 w49 w.heap.size (fun k_=>k_≠gb181) u7 x7_1):=⟨z2_18⟩;have n1_:Aside0 (w49.heap[gb181]? =some (.cells #[.int .i64 5,.int .i64 0,.int .i64 (wrap64 (1+t178)),.int .i64 0,.int .i64 0,.int .i64 0] 92 (0,0))):=⟨z2_10⟩;have n2_:Aside0 (IsS68 w0 w49 g s0_0 t179 t180):=⟨(by rw[hw];exact z2_5)⟩;have n3_:Aside0 (KeepBut w w49 g none):=⟨(by rw[hw];exact z2_3)⟩;have n4_:Aside0 (Below w0.heap.size w0 w49):=⟨(by rw[hw];exact z2_6)⟩;clear hw;clear HO_7;clear BK181;clear HI0;clear HK;clear HB;have HO_7:=n0_;have BK181:=n1_;have HI0:=n2_;have HK:=n3_;have HB:=n4_;clear n0_ n1_ n2_ n3_ n4_)|((first|((with_reducible refine gate_callee (f:=92) rfl ?_);refine goesL_ (some 32) rfl rfl Tryz.func92 z2_25 rfl #[.pointer (some ⟨g,0,none⟩),.int .i64 2] rfl z2_1 ?_;(with_reducible refine(spec_l01Once.calls g s0_0 t179 t180 2 false t183 t184 w0 _ ?side1 ?side2 A16.out).mono ?_))|(go_at_call 92;(with_reducible refine(spec_l01Once.calls g s0_0 t179 t180 2 false t183 t184 w0 _ ?side1 ?side2 A16.out).mono ?_)));(case side1=>exact z2_5);(case side2=>exact z2_6);rintro e w50 ⟨rfl,hi,hb,hk⟩;(first|refine⟨_,rfl,?_⟩|skip);replace HO_7:=Za (Yk (Kd.R_keep (IsS68.apart (show IsS68 w0 _ g s0_0 t179 t180 from by repeat(first|(with_reducible first|exact HI0.out|apply IsS68.alloc|apply IsS68.drewN|apply IsS68.drew|apply IsS68.set_1|apply IsS68.set_2|refine IsS68.far ?_ NB0_181.out _)|exact HI0.out)) z2_13 (by decide)) hk (fun _ h=>h.2)) (fun _ h=>h.1));replace BK181:=Za (KeepBut.blk hk (g':=gb181) (o:= .cells #[.int .i64 5,.int .i64 0,.int .i64 (wrap64 (1+t178)),.int .i64 0,.int .i64 0,.int .i64 0] 92 (0,0)) z2_7 NB181_0.out (by simp));replace HK:=Za (KeepBut.trans z2_3 hk (.inl rfl));replace HB:=Za (hb);replace HI0:=Za (hi);(try clear hb);(try clear hb2);(try clear hk);(try clear hi);have hcz51_0:w50.cell? ⟨gb181,0,none⟩=some (.int .i64 5):=(Zb BK181.out 0).trans rfl;have hcz51_1:w50.cell? ⟨gb181,1,none⟩=some (.int .i64 0):=(Zb BK181.out 1).trans rfl;have hcz51_2:w50.cell? ⟨gb181,2,none⟩=some (.int .i64 (wrap64 (1+t178))):=(Zb BK181.out 2).trans rfl;have hcz51_3:w50.cell? ⟨gb181,3,none⟩=some (.int .i64 0):=(Zb BK181.out 3).trans rfl;have hcz51_4:w50.cell? ⟨gb181,4,none⟩=some (.int .i64 0):=(Zb BK181.out 4).trans rfl;have hcz51_5:w50.cell? ⟨gb181,5,none⟩=some (.int .i64 0):=(Zb BK181.out 5).trans rfl;have hfz51_0:=Zc BK181.out 0;have hfz51_1:=Zc BK181.out 1;have hfz51_2:=Zc BK181.out 2;have hfz51_3:=Zc BK181.out 3;have hfz51_4:=Zc BK181.out 4;have hfz51_5:=Zc BK181.out 5)|((with_reducible refine gate_builtin (b:= .append) (xs:= #[.tmp 36,.tmp 38]) rfl ?_);(try(refine gate_guard (by rfl) ?_;dsimp only));at_builtin;refine Kd.R_append k92 w.heap.size rfl (.tmp 36) (.tmp 38) 69 92 (.agg #[(.int .i64 0),(.int .i64 0),(.int .i64 0),(.int .i64 0),(.int .i64 0),(.int .i64 0)]) 48 rfl Tryz.underlying69 info92 rfl (by decide) (by omega) u7 x7_1 (⟨5,0,wrap64 (1+t178),(⟨0,0,0⟩:S72)⟩:S92) [.int .i64 5,.int .i64 0,.int .i64 (wrap64 (1+t178)),.int .i64 0,.int .i64 0,.int .i64 0] (fun k_=>k_≠gb181) (fun _=>False) rfl rfl ?aP (fun _ hk=>hk.elim) ?aF ?aO (Zx _ _) ?aS ?aL ?_;(case aP=>exact k92_mkM _ _ _ (⟨5,0,wrap64 (1+t178),(⟨0,0,0⟩:S72)⟩:S92));(case aF=>exact(fun k_ hk=>Kd.freshB (g:=gb181) (o:= .cells #[.int .i64 5,.int .i64 0,.int .i64 (wrap64 (1+t178)),.int .i64 0,.int .i64 0,.int .i64 0] 92 (0,0)) z2_7 k_ hk));(case aO=>exact z2_13);(case aS=>exact z2_38);(case aL=>have:=LMc40.out;omega);intro v208 w52 ho hb hg hat;rw[←Ny207.out] at ho;have n0_:=Za (IsS68.grown z2_5 hg (IsS68.own_ne HI0.out HO_7.out (by decide)));have n1_:=Za (blk_grown (g:=gb181) (o:= .cells #[.int .i64 5,.int .i64 0,.int .i64 (wrap64 (1+t178)),.int .i64 0,.int .i64 0,.int .i64 0] 92 (0,0)) z2_7 hg (Kd.R_away HO_7.out (fun _ hk=>hk)));have n2_:=Za (below_weaken z2_6 HL.out hb);have n3_:=Za (KeepBut.trans z2_3 (KeepBut.of_grown hg g) (Kd.R_base2 HO_7.out));have n4_:=Za (ho);clear HI0;clear BK181;clear HB;clear HK;clear HO_7;have HI0:=n0_;have BK181:=n1_;have HB:=n2_;have HK:=n3_;have HO209:=n4_;clear n0_ n1_ n2_ n3_ n4_;clear ho hb hg hat)|((first|((with_reducible refine gate_callee (f:=24) rfl ?_);refine goesL_ (some 43) rfl rfl Tryz.func24 z2_25 rfl #[.pointer (some ⟨g,0,none⟩),.int .i64 2] rfl z2_1 ?_;(with_reducible refine(spec_l01Below.calls g s0_0 t183 t184 2 t210 t211 t212 w0 _ ?side1 ?side2 A41.out).mono ?_))|(go_at_call 24;(with_reducible refine(spec_l01Below.calls g s0_0 t183 t184 2 t210 t211 t212 w0 _ ?side1 ?side2 A41.out).mono ?_)));(case side1=>exact z2_5);(case side2=>exact z2_6);rintro e w53 ⟨rfl,hi,hb,hk⟩;(first|refine⟨_,rfl,?_⟩|skip);replace BK181:=Za (KeepBut.blk hk (g':=gb181) (o:= .cells #[.int .i64 5,.int .i64 0,.int .i64 (wrap64 (1+t178)),.int .i64 0,.int .i64 0,.int .i64 0] 92 (0,0)) z2_7 NB181_0.out (by simp));replace HO209:=Za (Yk (Kd.R_keep (IsS68.apart (show IsS68 w0 _ g s0_0 t183 t184 from by repeat(first|(with_reducible first|exact HI0.out|apply IsS68.alloc|apply IsS68.drewN|apply IsS68.drew|apply IsS68.set_1|apply IsS68.set_2|refine IsS68.far ?_ NB0_181.out _)|exact HI0.out)) (by(with_reducible repeat(first|apply Zo|apply Zm|apply Zn));exact HO209.out) (by decide)) hk (fun _ h=>h.2)) (fun _ h=>h.1));replace HK:=Za (KeepBut.trans z2_3 hk (.inl rfl));replace HB:=Za (hb);replace HI0:=Za (hi);(try clear hb);(try clear hb2);(try clear hk);(try clear hi))|((first|((with_reducible refine gate_callee (f:=65) rfl ?_);refine goesL_ (some 47) rfl rfl Tryz.func65 z2_25 rfl #[.pointer (some ⟨g,0,none⟩),.int .i64 (wrap64 (1+t210)),.int .i64 (wrap64 (a2+1))] rfl z2_1 ?_;(with_reducible refine(ih kj6 (by have:=HK1.out;have:=HJ6.out;omega) g s0_0 t211 t212 (wrap64 (1+t210)) (wrap64 (a2+1)) t213 t216 t217 w0 _ ?side1 ?side2 A42.out).mono ?_))|(go_at_call 65;(with_reducible refine(ih kj6 (by have:=HK1.out;have:=HJ6.out;omega) g s0_0 t211 t212 (wrap64 (1+t210)) (wrap64 (a2+1)) t213 t216 t217 w0 _ ?side1 ?side2 A42.out).mono ?_)));(case side1=>exact z2_5);(case side2=>exact z2_6);rintro e w54 ⟨v214,rfl,ho0,hi,hb,hk⟩;(first|refine⟨_,rfl,?_⟩|skip);have HO215:=Za (Yr (Kd.R_newB (Kd.R_new' ho0 (Kd.R_lt (by(with_reducible repeat(first|apply Zo|apply Zm|apply Zn));exact HO209.out))) (g:=gb181) (o:= .cells #[.int .i64 5,.int .i64 0,.int .i64 (wrap64 (1+t178)),.int .i64 0,.int .i64 0,.int .i64 0] 92 (0,0)) z2_7) (keep_size (w:=w) (g:=g) (row:=none) z2_3));replace BK181:=Za (KeepBut.blk hk (g':=gb181) (o:= .cells #[.int .i64 5,.int .i64 0,.int .i64 (wrap64 (1+t178)),.int .i64 0,.int .i64 0,.int .i64 0] 92 (0,0)) z2_7 NB181_0.out (by simp));replace HO209:=Za (Yk (Kd.R_told (Kd.R_oldK (IsS68.apart (show IsS68 w0 _ g s0_0 t211 t212 from by repeat(first|(with_reducible first|exact HI0.out|apply IsS68.alloc|apply IsS68.drewN|apply IsS68.drew|apply IsS68.set_1|apply IsS68.set_2|refine IsS68.far ?_ NB0_181.out _)|exact HI0.out)) (by(with_reducible repeat(first|apply Zo|apply Zm|apply Zn));exact HO209.out) (by decide)) hk) (Yo ho0)) (fun _ h_=>h_.1));replace HK:=Za (KeepBut.trans z2_3 hk (.inl rfl));replace HB:=Za (hb);replace HI0:=Za (hi);(try clear hb);(try clear hb2);(try clear hk);(try clear hi);(try clear ho0);obtain⟨Ao56,co56,eo56⟩:=Ym HO215.out;subst eo56)|((with_reducible refine gate_builtin (b:= .append) (xs:= #[.tmp 40,.tmp 47]) rfl ?_);(try(refine gate_guard (by rfl) ?_;dsimp only));at_builtin;refine Kd.R_append_rows k92 w.heap.size rfl (.tmp 40) (.tmp 47) 69 92 (.agg #[(.int .i64 0),(.int .i64 0),(.int .i64 0),(.int .i64 0),(.int .i64 0),(.int .i64 0)]) 48 rfl Tryz.underlying69 info92 rfl (by decide) (by omega) v208 y207 t213 _ _ _ (fun k_=>some k_≠(.slice Ao56 t213.length co56:Value).ownBlock∧k_≠gb181) (fun _=>False) rfl rfl ?aO ?aR (fun _ _ h=>h) (fun _ h=>h.elim) ?aF (Zx _ _) ?aS ?aL ?_;(case aR=>repeat(first|exact(Yp HO215.out).2.2|(with_reducible refine Yi ?_ _)|(with_reducible refine Yg ?_ _)|(with_reducible refine Yj ?_)));(case aF=>exact z2_36);(case aO=>exact(by(with_reducible repeat(first|apply Zo|apply Zm|apply Zn));exact Yk HO209.out (fun _ hk=>⟨hk.2,hk.1⟩)));(case aS=>exact z2_38);(case aL=>have:=LMc43.out;omega);intro v219 w55 ho hb hg hat;rw[←Ny218.out] at ho;have n0_:=Za (IsS68.grown z2_5 hg (IsS68.own_ne HI0.out HO209.out (by decide)));have n1_:=Za (blk_grown (g:=gb181) (o:= .cells #[.int .i64 5,.int .i64 0,.int .i64 (wrap64 (1+t178)),.int .i64 0,.int .i64 0,.int .i64 0] 92 (0,0)) z2_7 hg (Kd.R_away HO209.out (fun _ hk=>hk.1)));have n2_:=Za (Kd.R_after (ok:=(fun k_=>k_≠gb181)) (by(with_reducible repeat(first|apply Zo|apply Zm|apply Zn));exact Yk HO215.out (fun _ hk=>⟨hk.2,hk.1.2⟩)) hg hat);have n3_:=Za (below_weaken z2_6 HL.out hb);have n4_:=Za (KeepBut.trans z2_3 (KeepBut.of_grown hg g) (Kd.R_base2 HO209.out));have n5_:=Za (ho);clear HI0;clear BK181;clear HO215;clear HB;clear HK;clear HO209;have HI0:=n0_;have BK181:=n1_;have HO215:=n2_;have HB:=n3_;have HK:=n4_;have HO220:=n5_;clear n0_ n1_ n2_ n3_ n4_ n5_;clear ho hb hg hat)|((with_reducible refine gate_builtin (b:= .append) (xs:= #[.tmp 49,.tmp 51]) rfl ?_);(try(refine gate_guard (by rfl) ?_;dsimp only));at_builtin;refine Kd.R_append k92 w.heap.size rfl (.tmp 49) (.tmp 51) 69 92 (.agg #[(.int .i64 0),(.int .i64 0),(.int .i64 0),(.int .i64 0),(.int .i64 0),(.int .i64 0)]) 48 rfl Tryz.underlying69 info92 rfl (by decide) (by omega) v219 y218 (⟨6,0,0,(⟨0,0,0⟩:S72)⟩:S92) [.int .i64 6,.int .i64 0,.int .i64 0,.int .i64 0,.int .i64 0,.int .i64 0] (fun k_=>some k_≠(.slice Ao56 t213.length co56:Value).ownBlock∧k_≠gb181) (fun _=>False) rfl rfl ?aP (fun _ hk=>hk.elim) ?aF ?aO (Zx _ _) ?aS ?aL ?_;(case aP=>exact k92_mkM _ _ _ (⟨6,0,0,(⟨0,0,0⟩:S72)⟩:S92));(case aF=>exact z2_36);(case aO=>exact(by(with_reducible repeat(first|apply Zo|apply Zm|apply Zn));exact HO220.out));(case aS=>exact z2_38);(case aL=>have:=LMc44.out;omega);intro v222 w57 ho hb hg hat;rw[←Ny221.out] at ho;have n0_:=Za (IsS68.grown z2_5 hg (IsS68.own_ne HI0.out HO220.out (by decide)));have n1_:=Za (blk_grown (g:=gb181) (o:= .cells #[.int .i64 5,.int .i64 0,.int .i64 (wrap64 (1+t178)),.int .i64 0,.int .i64 0,.int .i64 0] 92 (0,0)) z2_7 hg (Kd.R_away HO220.out (fun _ hk=>hk.2)));have n2_:=Za (Kd.R_after (ok:=(fun k_=>k_≠gb181)) (by(with_reducible repeat(first|apply Zo|apply Zm|apply Zn));exact HO215.out) hg hat);have n3_:=Za (below_weaken z2_6 HL.out hb);have n4_:=Za (KeepBut.trans z2_3 (KeepBut.of_grown hg g) (Kd.R_base2 HO220.out));have n5_:=Za (ho);clear HI0;clear BK181;clear HO215;clear HB;clear HK;clear HO220;have HI0:=n0_;have BK181:=n1_;have HO215:=n2_;have HB:=n3_;have HK:=n4_;have HO223:=n5_;clear n0_ n1_ n2_ n3_ n4_ n5_;clear ho hb hg hat))
           go_roundg kj6
           case measure=>have:=HK1.out;have:=HJ6.out;omega
           case rel=>exact⟨(y221),(wrap64 (x8_1+1)),(t216),(t217),z2_19,H',⟨by have:=HK1.out;have:=HJ6.out;omega⟩,⟨by(with_reducible repeat(first|apply Zo|apply Zm|apply Zn));exact Yk HO223.out (fun _ hk=>trivial)⟩,⟨by repeat(first|(with_reducible first|exact HI0.out|apply IsS68.alloc|apply IsS68.drewN|apply IsS68.drew|apply IsS68.set_1|apply IsS68.set_2|refine IsS68.far ?_ NB0_181.out _)|exact HI0.out)⟩,⟨by repeat(first|(with_reducible first|exact HK.out|apply KeepBut.set_|apply keep_drewN|apply keep_drew|apply keep_alloc|refine keep_far ?_ GW181.out _)|exact HK.out)⟩,⟨by repeat(first|(with_reducible first|exact HB.out|apply Zh|apply Zf|apply Ze|refine Zd ?_ (IsS68.ge HI0.out)|refine Zd ?_ GE181.out)|exact HB.out)⟩⟩
          ·rw[if_neg c44] at H
           exact absurd H (by simp)
         ·rw[if_neg c43] at H
          exact absurd H (by simp)
        ·rw[if_neg c40] at H
         exact absurd H (by simp)
      ·replace c14:=Bool.eq_false_iff.mpr c14
       subst c14
       have H1:((spec_l04Stmt.f kj6 s0_0 x1001_6 x1002_6).bind fun bt224=>(if x7_1.length<2932031007402 then (spec_l05Block.l0 kj6 a1 a2 (x7_1++[(⟨bt224.1,bt224.2.1,bt224.2.2.1,(⟨bt224.2.2.2.1,bt224.2.2.2.2.1,bt224.2.2.2.2.2.1⟩:S72)⟩:S92)]) (wrap64 (x8_1+1)) s0_0 bt224.2.2.2.2.2.2.1 bt224.2.2.2.2.2.2.2) else (none)))=some (r1,r2,r3):=by rw[if_neg (show ¬(false=true) by decide)] at H;exact H
       clear H
       have H:=H1
       clear H1
       replace H:=Zg H
       obtain⟨⟨t224,t225,t226,t227,t228,t229,t230,t231⟩,A580,H⟩:=H
       replace H:(if x7_1.length<2932031007402 then (spec_l05Block.l0 kj6 a1 a2 (x7_1++[(⟨t224,t225,t226,(⟨t227,t228,t229⟩:S72)⟩:S92)]) (wrap64 (x8_1+1)) s0_0 t230 t231) else (none))=some (r1,r2,r3):=H
       have A58:=Za A580
       clear A580
       by_cases c59:x7_1.length<2932031007402
       ·rw[if_pos c59] at H
        have LMc59:=Za c59
        clear c59
        obtain⟨y232,hy232⟩:∃y_:List (S92),y_=(x7_1++[(⟨t224,t225,t226,(⟨t227,t228,t229⟩:S72)⟩:S92)]):=⟨_,rfl⟩
        replace H:(spec_l05Block.l0 kj6 a1 a2 y232 (wrap64 (x8_1+1)) s0_0 t230 t231)=some (r1,r2,r3):=by first|(rw[hy232];with_reducible exact H)|(have H2_:=(Yc _ _).symm.trans H;rw[hy232];with_reducible exact H2_)|(have H2_:=(Yc _ _).symm.trans H;with_reducible exact H2_)|with_reducible exact H|(rw[hy232];exact H)|exact H
        have Ny232:=Za hy232
        clear hy232
        have H':=Za H
        clear H
        go_wp2_with (first|((first|((with_reducible refine gate_callee (f:=93) rfl ?_);refine goesL_ (some 55) rfl rfl Tryz.func93 z2_25 rfl #[.pointer (some ⟨g,0,none⟩)] rfl z2_1 ?_;(with_reducible refine(spec_l04Stmt.calls kj6 g s0_0 x1001_6 x1002_6 t224 t225 t226 t227 t228 t229 t230 t231 w0 _ ?side1 ?side2 A58.out).mono ?_))|(go_at_call 93;(with_reducible refine(spec_l04Stmt.calls kj6 g s0_0 x1001_6 x1002_6 t224 t225 t226 t227 t228 t229 t230 t231 w0 _ ?side1 ?side2 A58.out).mono ?_)));(case side1=>exact z2_4);(case side2=>exact z2_2);rintro e w60 ⟨rfl,hi,hb,hk⟩;(first|refine⟨_,rfl,?_⟩|skip);replace HO_7:=Za (Yk (Kd.R_keep (IsS68.apart (show IsS68 w0 _ g s0_0 x1001_6 x1002_6 from by repeat(first|(with_reducible first|exact HI0.out|apply IsS68.alloc|apply IsS68.drewN|apply IsS68.drew|apply IsS68.set_1|apply IsS68.set_2)|exact HI0.out)) z2_13 (by decide)) hk (fun _ h=>h.2)) (fun _ h=>h.1));replace HK:=Za (KeepBut.trans z2_0 hk (.inl rfl));replace HB:=Za (hb);replace HI0:=Za (hi);(try clear hb);(try clear hb2);(try clear hk);(try clear hi))|((with_reducible refine gate_builtin (b:= .append) (xs:= #[.tmp 53,.tmp 56]) rfl ?_);(try(refine gate_guard (by rfl) ?_;dsimp only));at_builtin;refine Kd.R_append k92 w.heap.size rfl (.tmp 53) (.tmp 56) 69 92 (.agg #[(.int .i64 0),(.int .i64 0),(.int .i64 0),(.int .i64 0),(.int .i64 0),(.int .i64 0)]) 48 rfl Tryz.underlying69 info92 rfl (by decide) (by omega) u7 x7_1 (⟨t224,t225,t226,(⟨t227,t228,t229⟩:S72)⟩:S92) [.int .i64 t224,.int .i64 t225,.int .i64 t226,.int .i64 t227,.int .i64 t228,.int .i64 t229] (fun _=>True) (fun _=>False) rfl rfl ?aP (fun _ hk=>hk.elim) ?aF ?aO (Zx _ _) ?aS ?aL ?_;(case aP=>exact k92_mkM _ _ _ (⟨t224,t225,t226,(⟨t227,t228,t229⟩:S72)⟩:S92));(case aF=>exact(fun _ _=>trivial));(case aO=>exact z2_13);(case aS=>exact(keep_size (w:=w) (g:=g) (row:=none) z2_0));(case aL=>have:=LMc59.out;omega);intro v233 w61 ho hb hg hat;rw[←Ny232.out] at ho;have n0_:=Za (IsS68.grown z2_4 hg (IsS68.own_ne HI0.out HO_7.out (by decide)));have n1_:=Za (below_weaken z2_2 HL.out hb);have n2_:=Za (KeepBut.trans z2_0 (KeepBut.of_grown hg g) (Kd.R_base2 HO_7.out));have n3_:=Za (ho);clear HI0;clear HB;clear HK;clear HO_7;have HI0:=n0_;have HB:=n1_;have HK:=n2_;have HO234:=n3_;clear n0_ n1_ n2_ n3_;clear ho hb hg hat))
        go_roundg kj6
        case measure=>have:=HK1.out;have:=HJ6.out;omega
        case rel=>exact⟨(y232),(wrap64 (x8_1+1)),(t230),(t231),z2_19,H',⟨by have:=HK1.out;have:=HJ6.out;omega⟩,⟨by(with_reducible repeat(first|apply Zo|apply Zm|apply Zn));exact HO234.out⟩,⟨by repeat(first|(with_reducible first|exact HI0.out|apply IsS68.alloc|apply IsS68.drewN|apply IsS68.drew|apply IsS68.set_1|apply IsS68.set_2)|exact HI0.out)⟩,⟨by repeat(first|(with_reducible first|exact HK.out|apply KeepBut.set_|apply keep_drewN|apply keep_drew|apply keep_alloc)|exact HK.out)⟩,⟨by repeat(first|(with_reducible first|exact HB.out|apply Zh|apply Zf|apply Ze|refine Zd ?_ (IsS68.ge HI0.out))|exact HB.out)⟩⟩
       ·rw[if_neg c59] at H
        exact absurd H (by simp)
   ·rw[if_neg c6] at H
    have c6b0:decide (x8_1<a1)=false:=Yf c6
    clear c6
    simp only[Option.some.injEq,Prod.mk.injEq] at H
    obtain⟨rfl,rfl,rfl⟩:=H
    go_wp2
    go_ret
    exact⟨_,by first|rfl|(simp[errW_none,errW_some]<;>rfl)|(simp[*,errW_none,errW_some]<;>rfl)|(simp[*,errW_none,errW_some,i64_w];done),by(with_reducible repeat(first|apply Zo|apply Zm|apply Zn));exact HO_7.out,by repeat(first|(with_reducible first|exact HI0.out|apply IsS68.alloc|apply IsS68.drewN|apply IsS68.drew|apply IsS68.set_1|apply IsS68.set_2)|exact HI0.out),by repeat(first|(with_reducible first|exact HB.out|apply Zh|apply Zf|apply Ze|refine Zd ?_ (IsS68.ge HI0.out))|exact HB.out),by repeat(first|(with_reducible first|exact HK.out|apply KeepBut.set_|apply keep_drewN|apply keep_drew|apply keep_alloc)|exact HK.out)⟩
def spec_l05Case.f (k:Nat) (s0_0:List Int) (s0_1:Int) (s0_2:Int):Option ((List (S92))×Int×Int):=(spec_l01Below.f s0_0 s0_1 s0_2 6).bind fun bt235=>((spec_l05Block.f k s0_0 bt235.2.1 bt235.2.2 bt235.1 0).bind fun bt238=>(some (bt238.1,bt238.2.1,bt238.2.2)))
theorem spec_l05Case.mono:∀a0 a1 a2 k,LeO (spec_l05Case.f k a0 a1 a2) (spec_l05Case.f (k+1) a0 a1 a2):=by
 intro a0 a1 a2 k
 unfold spec_l05Case.f
 repeat' first
   |(with_reducible exact spec_l05Block.mono _ _ _ _ _ _)
   |(with_reducible exact Yn _)
   |(with_reducible exact Zz _)
   |(with_reducible refine Zu ?_ ?_)
   |(with_reducible refine Zt ?_ (fun _=> ?_))
   |exact spec_l05Block.mono _ _ _ _ _ _
   |exact Zz _
   |refine Zu ?_ ?_
   |refine Zt ?_ (fun _=> ?_)
set_option maxHeartbeats 8000000 in
set_option maxRecDepth 100000 in
theorem spec_l05Case.calls (k:Nat) (g:Nat) (s0_0:List Int) (s0_1:Int) (s0_2:Int) (r1:List (S92)) (r2:Int) (r3:Int) (w0 w:World) (hI:IsS68 w0 w g s0_0 s0_1 s0_2) (hB:Below w0.heap.size w0 w) (h:spec_l05Case.f k s0_0 s0_1 s0_2=some (r1,r2,r3)):
  Calls Tryz.prog 37 #[.pointer (some ⟨g,0,none⟩)] w fun e w'=>∃v0_:Value,e= .returned (v0_)∧Kd.R k92 92 w' w.heap.size (fun _=>True) v0_ r1∧IsS68 w0 w' g s0_0 r2 r3∧Below w0.heap.size w0 w'∧KeepBut w w' g none:=by
 have HI0:=Za hI
 have HK:=Za (KeepBut.refl w g none)
 have HL:=Za hB.size
 clear hI
 have HW0:=Za hB.size
 have HB:=Za hB
 clear hB
 have H:((spec_l01Below.f s0_0 s0_1 s0_2 6).bind fun bt235=>((spec_l05Block.f k s0_0 bt235.2.1 bt235.2.2 bt235.1 0).bind fun bt238=>(some (bt238.1,bt238.2.1,bt238.2.2))))=some (r1,r2,r3):=h
 clear h
 replace H:=Zg H
 obtain⟨⟨t235,t236,t237⟩,A20,H⟩:=H
 replace H:((spec_l05Block.f k s0_0 t236 t237 t235 0).bind fun bt238=>(some (bt238.1,bt238.2.1,bt238.2.2)))=some (r1,r2,r3):=H
 have A2:=Za A20
 clear A20
 replace H:=Zg H
 obtain⟨⟨t238,t241,t242⟩,A30,H⟩:=H
 replace H:(some (t238,t241,t242))=some (r1,r2,r3):=H
 have A3:=Za A30
 clear A30
 simp only[Option.some.injEq,Prod.mk.injEq] at H
 obtain⟨rfl,rfl,rfl⟩:=H
 go_enter Tryz.func37,Tryz.ntmps37
 go_wp2_with (first|((first|((with_reducible refine gate_callee (f:=24) rfl ?_);refine goesL_ (some 5) rfl rfl Tryz.func24 z2_25 rfl #[.pointer (some ⟨g,0,none⟩),.int .i64 6] rfl z2_1 ?_;(with_reducible refine(spec_l01Below.calls g s0_0 s0_1 s0_2 6 t235 t236 t237 w0 _ ?side1 ?side2 A2.out).mono ?_))|(go_at_call 24;(with_reducible refine(spec_l01Below.calls g s0_0 s0_1 s0_2 6 t235 t236 t237 w0 _ ?side1 ?side2 A2.out).mono ?_)));(case side1=>exact z2_4);(case side2=>exact z2_2);rintro e w4 ⟨rfl,hi,hb,hk⟩;(first|refine⟨_,rfl,?_⟩|skip);replace HK:=Za (KeepBut.trans z2_0 hk (.inl rfl));replace HB:=Za (hb);replace HI0:=Za (hi);(try clear hb);(try clear hb2);(try clear hk);(try clear hi))|((first|((with_reducible refine gate_callee (f:=65) rfl ?_);refine goesL_ (some 6) rfl rfl Tryz.func65 z2_25 rfl #[.pointer (some ⟨g,0,none⟩),.int .i64 t235,.int .i64 0] rfl z2_1 ?_;(with_reducible refine(spec_l05Block.calls k g s0_0 t236 t237 t235 0 t238 t241 t242 w0 _ ?side1 ?side2 A3.out).mono ?_))|(go_at_call 65;(with_reducible refine(spec_l05Block.calls k g s0_0 t236 t237 t235 0 t238 t241 t242 w0 _ ?side1 ?side2 A3.out).mono ?_)));(case side1=>exact z2_4);(case side2=>exact z2_2);rintro e w5 ⟨v239,rfl,ho0,hi,hb,hk⟩;(first|refine⟨_,rfl,?_⟩|skip);have HO240:=Za (Yr ho0 (keep_size (w:=w) (g:=g) (row:=none) z2_0));replace HK:=Za (KeepBut.trans z2_0 hk (.inl rfl));replace HB:=Za (hb);replace HI0:=Za (hi);(try clear hb);(try clear hb2);(try clear hk);(try clear hi);(try clear ho0)))
 go_ret
 exact⟨_,by first|rfl|(simp[errW_none,errW_some]<;>rfl)|(simp[*,errW_none,errW_some]<;>rfl)|(simp[*,errW_none,errW_some,i64_w];done),by(with_reducible repeat(first|apply Zo|apply Zm|apply Zn));exact HO240.out,by repeat(first|(with_reducible first|exact HI0.out|apply IsS68.alloc|apply IsS68.drewN|apply IsS68.drew|apply IsS68.set_1|apply IsS68.set_2)|exact HI0.out),by repeat(first|(with_reducible first|exact HB.out|apply Zh|apply Zf|apply Ze|refine Zd ?_ (IsS68.ge HI0.out))|exact HB.out),by repeat(first|(with_reducible first|exact HK.out|apply KeepBut.set_|apply keep_drewN|apply keep_drew|apply keep_alloc)|exact HK.out)⟩
def spec_l06Program.l0:Nat→Int→List Int→Int→Int→List (S75)→Option ((List (S75))×Int×Int)
 |0,_,_,_,_,_=>none
 |k+1,x4,x1000,x1001,x1002,x245000=>(spec_l01Below.f x1000 x1001 x1002 3).bind fun bt245=>(if x4<(wrap64 (1+bt245.1)) then ((spec_l05Case.f k x1000 bt245.2.1 bt245.2.2).bind fun bt248=>((spec_l03Expr.f x1000 bt248.2.1 bt248.2.2).bind fun bt253=>(if x245000.length<2932031007402 then (spec_l06Program.l0 k (wrap64 (x4+1)) x1000 bt253.2.2.2.1 bt253.2.2.2.2 (x245000++[(⟨bt248.1,(⟨bt253.1,bt253.2.1,bt253.2.2.1⟩:S72)⟩:S75)])) else (none)))) else (some (x245000,bt245.2.1,bt245.2.2)))
def spec_l06Program.f (k:Nat) (s0_0:List Int) (s0_1:Int) (s0_2:Int):Option ((List (S75))×Int×Int):=spec_l06Program.l0 k 0 s0_0 s0_1 s0_2 ([]:List (S75))
theorem spec_l06Program.mono_l:∀k,(∀y0 y1 y2 y3 y4,LeO (spec_l06Program.l0 k y0 y1 y2 y3 y4) (spec_l06Program.l0 (k+1) y0 y1 y2 y3 y4))
 |0=>fun _ _ _ _ _ r h=>by simp[spec_l06Program.l0] at h
 |k+1=>by
  have ih0:=spec_l06Program.mono_l k
  ·intro y0 y1 y2 y3 y4
   unfold spec_l06Program.l0
   repeat' first
   |(with_reducible exact ih0 _ _ _ _ _)
   |(with_reducible exact spec_l05Case.mono _ _ _ _)
   |(with_reducible exact Yn _)
   |(with_reducible exact Zz _)
   |(with_reducible refine Zu ?_ ?_)
   |(with_reducible refine Zt ?_ (fun _=> ?_))
   |exact ih0 _ _ _ _ _
   |exact spec_l05Case.mono _ _ _ _
   |exact Zz _
   |refine Zu ?_ ?_
   |refine Zt ?_ (fun _=> ?_)
theorem spec_l06Program.mono:∀a0 a1 a2 k,LeO (spec_l06Program.f k a0 a1 a2) (spec_l06Program.f (k+1) a0 a1 a2):=by
 intro a0 a1 a2 k
 have ih0:=spec_l06Program.mono_l k
 unfold spec_l06Program.f
 repeat' first
   |(with_reducible exact ih0 _ _ _ _ _)
   |(with_reducible exact spec_l05Case.mono _ _ _ _)
   |(with_reducible exact Yn _)
   |(with_reducible exact Zz _)
   |(with_reducible refine Zu ?_ ?_)
   |(with_reducible refine Zt ?_ (fun _=> ?_))
   |exact ih0 _ _ _ _ _
   |exact spec_l05Case.mono _ _ _ _
   |exact Zz _
   |refine Zu ?_ ?_
   |refine Zt ?_ (fun _=> ?_)
def spec_l06Program.T5:Bool×List (List Nat×List Nat):=(true,[([],[]),([0],[0]),([],[]),([2],[2]),([],[]),([4,3],[4]),([3,5],[3,5]),([6],[6]),([1,7,5],[1,7]),([0,1,2,3,4,5,6,7,8],[]),([9,8,8,0,1,2,3,4,5,6,7,8],[8,9])])
def spec_l06Program.B5:List Nat:=[0,1,0,4,0,28,60,124,255,511,1023]
theorem spec_l06Program.tab5:rtab .any (opsOf Tryz.f19 5)=spec_l06Program.T5:=by kernel_rfl
theorem spec_l06Program.bits5:waitsOk spec_l06Program.T5.2 spec_l06Program.B5=true:=by kernel_rfl
set_option maxHeartbeats 8000000 in
set_option maxRecDepth 100000 in
theorem spec_l06Program.calls (k:Nat) (g:Nat) (s0_0:List Int) (s0_1:Int) (s0_2:Int) (r1:List (S75)) (r2:Int) (r3:Int) (w0 w:World) (hI:IsS68 w0 w g s0_0 s0_1 s0_2) (hB:Below w0.heap.size w0 w) (h:spec_l06Program.f k s0_0 s0_1 s0_2=some (r1,r2,r3)):
  Calls Tryz.prog 19 #[.pointer (some ⟨g,0,none⟩)] w fun e w'=>∃v0_:Value,e= .returned (.agg #[v0_])∧Kd.S k75 75 w' w.heap.size (fun _=>True) v0_ r1∧IsS68 w0 w' g s0_0 r2 r3∧Below w0.heap.size w0 w'∧KeepBut w w' g none:=by
 have hu26:=Tryz.underlying26
 have hu75:=Tryz.underlying75
 have HI0:=Za hI
 have HK:=Za (KeepBut.refl w g none)
 have HL:=Za hB.size
 clear hI
 have HW0:=Za hB.size
 have HB:=Za hB
 clear hB
 have H:(spec_l06Program.l0 k 0 s0_0 s0_1 s0_2 ([]:List (S75)))=some (r1,r2,r3):=h
 clear h
 have H':=Za H
 clear H
 go_enter Tryz.func19,Tryz.ntmps19
 go_wp2_with (first|((with_reducible refine Zp (N:=2) rfl ?_);refine Zr ?hg (N:=2) ?hd (cs:= #[.slice none 0 0]) (t:=26) ?hr ?_;(case hd=>rfl);(case hg=>rfl);(case hr=>exact z2_20);intro gb243 hg w2 hbox hb;replace HB:=Za (Zj z2_2 hb);have BK243:=Za (hbox);have GW243:=Za ((z2_35:w.heap.size≤gb243));have GE243:=Za ((Nat.le_trans HW0.out (z2_35:w.heap.size≤gb243):w0.heap.size≤gb243));replace HK:=Za (KeepBut.trans z2_0 (KeepBut.of_below hb g none) (.inl rfl));have NB0_243:=Za ((z2_21:g≠gb243));have NB243_0:=Za ((z2_22:gb243≠g));replace HI0:=Za (IsS68.below z2_4 hb);clear hb hbox hg)|((with_reducible refine Zp (N:=3) rfl ?_);refine Zr ?hg (N:=3) ?hd (cs:= #[.slice none 0 0]) (t:=26) ?hr ?_;(case hd=>rfl);(case hg=>rfl);(case hr=>exact z2_20);intro gb244 hg w3 hbox hb;replace HB:=Za (Zj (by repeat(first|(with_reducible first|exact HB.out|apply Zh|apply Zf|apply Ze|refine Zd ?_ (IsS68.ge HI0.out)|refine Zd ?_ GE243.out)|exact HB.out)) hb);have BK244:=Za (hbox);have GW244:=Za ((by rw[hg];exact(keep_size (w:=w) (g:=g) (row:=none) z2_28):w.heap.size≤gb244));have GE244:=Za ((Nat.le_trans HW0.out (by rw[hg];exact(keep_size (w:=w) (g:=g) (row:=none) z2_28):w.heap.size≤gb244):w0.heap.size≤gb244));replace HK:=Za (KeepBut.trans z2_28 (KeepBut.of_below hb g none) (.inl rfl));have NB243_244:=Za ((by rw[hg];exact Nat.ne_of_lt (blk_lt (g:=gb243) (o:= .cells #[.slice none 0 0] 26 (0,0)) z2_17):gb243≠gb244));have NB244_243:=Za ((by rw[hg];exact Nat.ne_of_gt (blk_lt (g:=gb243) (o:= .cells #[.slice none 0 0] 26 (0,0)) z2_17):gb244≠gb243));replace BK243:=Za (Zi (g:=gb243) (o:= .cells #[.slice none 0 0] 26 (0,0)) z2_17 hb);have NB0_244:=Za ((by rw[hg];exact Nat.ne_of_lt (IsS68.lt (show IsS68 w0 _ g s0_0 s0_1 s0_2 from by repeat(first|(with_reducible first|exact HI0.out|apply IsS68.alloc|apply IsS68.drewN|apply IsS68.drew|apply IsS68.set_1|apply IsS68.set_2|refine IsS68.far ?_ NB0_243.out _)|exact HI0.out))):g≠gb244));have NB244_0:=Za ((by rw[hg];exact Nat.ne_of_gt (IsS68.lt (show IsS68 w0 _ g s0_0 s0_1 s0_2 from by repeat(first|(with_reducible first|exact HI0.out|apply IsS68.alloc|apply IsS68.drewN|apply IsS68.drew|apply IsS68.set_1|apply IsS68.set_2|refine IsS68.far ?_ NB0_243.out _)|exact HI0.out))):gb244≠g));replace HI0:=Za (IsS68.below (by repeat(first|(with_reducible first|exact HI0.out|apply IsS68.alloc|apply IsS68.drewN|apply IsS68.drew|apply IsS68.set_1|apply IsS68.set_2|refine IsS68.far ?_ NB0_243.out _)|exact HI0.out)) hb);clear hb hbox hg;have hnb4:=NB244_243.out;have hnc4:=NB243_244.out;have hnb5:=NB244_0.out;have hnc5:=NB0_244.out;have hcz6_0:w3.cell? ⟨gb244,0,none⟩=some (.slice none 0 0):=(Zb BK244.out 0).trans rfl;have hfz6_0:=Zc BK244.out 0))
 go_loopg [4] k (fun kq v4 w'=>∃(x4_1:Int) (x1001_1:Int) (x1002_1:Int) (x245000_1:List (S75)) (u245000:Value),v4= .int .i64 x4_1∧Aside0 (spec_l06Program.l0 kq x4_1 s0_0 x1001_1 x1002_1 x245000_1=some (r1,r2,r3))∧Aside0 (kq≤k)∧Aside0 (Kd.S k75 75 w' w.heap.size (fun _=>True) u245000 x245000_1)∧Aside0 (w'.heap[gb243]? =some (.cells #[(.slice none 0 0)] 26 (0,0)))∧Aside0 (w'.heap[gb244]? =some (.cells #[u245000] 26 (0,0)))∧Aside0 (IsS68 w0 w' g s0_0 x1001_1 x1002_1)∧Aside0 (KeepBut w w' g none)∧Aside0 (Below w0.heap.size w0 w'))
 case atStart=>exact⟨(0),(s0_1),(s0_2),(([]:List (S75))),(.slice none 0 0),z2_19,H',⟨Nat.le_refl _⟩,⟨by first|exact Kd.S_nil _ _ _ _ _|exact Kd.N_nil _ _ _ _ _|exact Kd.V_nil _ _ _ _ _|exact Kd.Q_nil _ _ _ _ _|exact Kd.R_nil _ _ _ _ _⟩,⟨by(with_reducible repeat(first|refine blk_drewN ?_ _|refine blk_drew ?_|refine blk_alloc ?_ _));refine blk_far ?_ NB243_244.out _;(with_reducible repeat(first|refine blk_drewN ?_ _|refine blk_drew ?_|refine blk_alloc ?_ _));exact BK243.out⟩,⟨by(with_reducible repeat(first|refine blk_drewN ?_ _|refine blk_drew ?_|refine blk_alloc ?_ _));refine blk_put (cs:= #[.slice none 0 0]) ?_ 0 _ rfl;(with_reducible repeat(first|refine blk_drewN ?_ _|refine blk_drew ?_|refine blk_alloc ?_ _));exact BK244.out⟩,⟨by repeat(first|(with_reducible first|exact HI0.out|apply IsS68.alloc|apply IsS68.drewN|apply IsS68.drew|apply IsS68.set_1|apply IsS68.set_2|refine IsS68.far ?_ NB0_243.out _|refine IsS68.far ?_ NB0_244.out _)|exact HI0.out)⟩,⟨by repeat(first|(with_reducible first|exact HK.out|apply KeepBut.set_|apply keep_drewN|apply keep_drew|apply keep_alloc|refine keep_far ?_ GW243.out _|refine keep_far ?_ GW244.out _)|exact HK.out)⟩,⟨by repeat(first|(with_reducible first|exact HB.out|apply Zh|apply Zf|apply Ze|refine Zd ?_ (IsS68.ge HI0.out)|refine Zd ?_ GE243.out|refine Zd ?_ GE244.out)|exact HB.out)⟩⟩
 case round=>
  clear H'
  (try clear hcz6_0);(try clear hfz6_0)
  obtain⟨x4_1,x1001_1,x1002_1,x245000_1,u245000,rfl,HA,HK1,HO_245000,BK243,BK244,HI0,HK,HB⟩:=hrel
  cases gk with
  |zero=>exact absurd HA.out (by simp[spec_l06Program.l0])
  |succ k1=>
   have H:=HA.out
   clear HA
   simp only[spec_l06Program.l0] at H
   replace H:=Zg H
   obtain⟨⟨t245,t246,t247⟩,A70,H⟩:=H
   replace H:(if x4_1<(wrap64 (1+t245)) then ((spec_l05Case.f k1 s0_0 t246 t247).bind fun bt248=>((spec_l03Expr.f s0_0 bt248.2.1 bt248.2.2).bind fun bt253=>(if x245000_1.length<2932031007402 then (spec_l06Program.l0 k1 (wrap64 (x4_1+1)) s0_0 bt253.2.2.2.1 bt253.2.2.2.2 (x245000_1++[(⟨bt248.1,(⟨bt253.1,bt253.2.1,bt253.2.2.1⟩:S72)⟩:S75)])) else (none)))) else (some (x245000_1,t246,t247)))=some (r1,r2,r3):=H
   have A7:=Za A70
   clear A70
   by_cases c8:x4_1<(wrap64 (1+t245))
   ·rw[if_pos c8] at H
    have c8b0:decide (x4_1<(wrap64 (1+t245)))=true:=Zq c8
    clear c8
    replace H:=Zg H
    obtain⟨⟨t248,t251,t252⟩,A90,H⟩:=H
    replace H:((spec_l03Expr.f s0_0 t251 t252).bind fun bt253=>(if x245000_1.length<2932031007402 then (spec_l06Program.l0 k1 (wrap64 (x4_1+1)) s0_0 bt253.2.2.2.1 bt253.2.2.2.2 (x245000_1++[(⟨t248,(⟨bt253.1,bt253.2.1,bt253.2.2.1⟩:S72)⟩:S75)])) else (none)))=some (r1,r2,r3):=H
    have A9:=Za A90
    clear A90
    replace H:=Zg H
    obtain⟨⟨t253,t254,t255,t256,t257⟩,A100,H⟩:=H
    replace H:(if x245000_1.length<2932031007402 then (spec_l06Program.l0 k1 (wrap64 (x4_1+1)) s0_0 t256 t257 (x245000_1++[(⟨t248,(⟨t253,t254,t255⟩:S72)⟩:S75)])) else (none))=some (r1,r2,r3):=H
    have A10:=Za A100
    clear A100
    by_cases c11:x245000_1.length<2932031007402
    ·rw[if_pos c11] at H
     have LMc11:=Za c11
     clear c11
     obtain⟨y258,hy258⟩:∃y_:List (S75),y_=(x245000_1++[(⟨t248,(⟨t253,t254,t255⟩:S72)⟩:S75)]):=⟨_,rfl⟩
     replace H:(spec_l06Program.l0 k1 (wrap64 (x4_1+1)) s0_0 t256 t257 y258)=some (r1,r2,r3):=by first|(rw[hy258];with_reducible exact H)|(have H2_:=(Yc _ _).symm.trans H;rw[hy258];with_reducible exact H2_)|(have H2_:=(Yc _ _).symm.trans H;with_reducible exact H2_)|with_reducible exact H|(rw[hy258];exact H)|exact H
     have Ny258:=Za hy258
     clear hy258
     have H':=Za H
     clear H
     try go_wp2_with (first|((first|((with_reducible refine gate_callee (f:=24) rfl ?_);refine goesL_ (some 8) rfl rfl Tryz.func24 z2_25 rfl #[.pointer (some ⟨g,0,none⟩),.int .i64 3] rfl z2_1 ?_;(with_reducible refine(spec_l01Below.calls g s0_0 x1001_1 x1002_1 3 t245 t246 t247 w0 _ ?side1 ?side2 A7.out).mono ?_))|(go_at_call 24;(with_reducible refine(spec_l01Below.calls g s0_0 x1001_1 x1002_1 3 t245 t246 t247 w0 _ ?side1 ?side2 A7.out).mono ?_)));(case side1=>exact z2_14);(case side2=>exact z2_15);rintro e w12 ⟨rfl,hi,hb,hk⟩;(first|refine⟨_,rfl,?_⟩|skip);replace HO_245000:=Za (Kd.S_mono (Kd.S_keep (IsS68.apartS (show IsS68 w0 _ g s0_0 x1001_1 x1002_1 from by repeat(first|(with_reducible first|exact HI0.out|apply IsS68.alloc|apply IsS68.drewN|apply IsS68.drew|apply IsS68.set_1|apply IsS68.set_2|refine IsS68.far ?_ NB0_243.out _|refine IsS68.far ?_ NB0_244.out _)|exact HI0.out)) z2_30 (by decide)) hk (fun _ h=>h.2)) (fun _ h=>h.1));replace BK243:=Za (KeepBut.blk hk (g':=gb243) (o:= .cells #[.slice none 0 0] 26 (0,0)) z2_17 NB243_0.out (by simp));replace BK244:=Za (KeepBut.blk hk (g':=gb244) (o:= .cells #[u245000] 26 (0,0)) z2_24 NB244_0.out (by simp));replace HK:=Za (KeepBut.trans z2_12 hk (.inl rfl));replace HB:=Za (hb);replace HI0:=Za (hi);(try clear hb);(try clear hb2);(try clear hk);(try clear hi)))
     have n0_:=Za (Kd.S_drew HO_245000.out)
     have n1_:=Za (blk_drew BK243.out)
     have n2_:=Za (blk_drew BK244.out)
     have n3_:=Za (IsS68.drew HI0.out)
     have n4_:=Za (keep_drew HK.out)
     have n5_:=Za (Ze HB.out)
     clear HO_245000
     clear BK243
     clear BK244
     clear HI0
     clear HK
     clear HB
     have HO_245000:=n0_
     have BK243:=n1_
     have BK244:=n2_
     have HI0:=n3_
     have HK:=n4_
     have HB:=n5_
     clear n0_ n1_ n2_ n3_ n4_ n5_
     refine start_ (n:=11) (S:=fun w'=>w'.cell? ⟨gb244,0,none⟩=some (u245000)) (ds:=[10]) #[false,false,false,false,false,false,false,false,false,false,false] z2_25 rfl rfl ((Zb BK244.out 0).trans rfl) (fun hHeld=> ?_);refine with_tabW spec_l06Program.tab5 spec_l06Program.bits5 (fun HT_ HW_=> ?_)
     generalize w12.drew=w13 at HO_245000 BK243 BK244 HI0 HK HB hHeld ⊢
     refine pure_ (i:=0) (N:=some 13) (v:= ?_) (a':= ?_) #[true,false,false,false,false,false,false,false,false,false,false] rfl rfl (any_of HT_.out z2_25) (fun _ _ _ h=>h) (Or.inl ⟨by rfl,?_⟩) ?_ ?_
     rotate_left
     ·intro w'
      go_simp
      with_reducible rfl
     rotate_left
     ·simp only[Act.put,Zy,Ya,Yb,i64_w,i32_w]
      rfl
     refine pure_ (i:=2) (N:=some 15) (v:= ?_) (a':= ?_) #[true,false,true,false,false,false,false,false,false,false,false] rfl rfl (any_of HT_.out z2_25) (fun _ _ _ h=>h) (Or.inl ⟨by rfl,?_⟩) ?_ ?_
     rotate_left
     ·intro w'
      go_simp
      with_reducible rfl
     rotate_left
     ·simp only[Act.put,Zy,Ya,Yb,i64_w,i32_w]
      rfl
     refine pure_ (i:=4) (N:=some 17) (v:= ?_) (a':= ?_) #[true,false,true,false,true,false,false,false,false,false,false] rfl rfl (any_of HT_.out z2_25) (fun _ _ _ h=>h) (Or.inl ⟨by rfl,?_⟩) ?_ ?_
     rotate_left
     ·intro w'
      go_simp
      with_reducible rfl
     rotate_left
     ·simp only[Act.put,Zy,Ya,Yb,i64_w,i32_w]
      rfl
     refine take_ (i:=1) (N:=some 14) (v:= ?_) (a':= ?_) #[true,true,true,false,true,false,false,false,false,false,false] rfl rfl (take_ofW HT_.out HW_.out z2_25) (fun _ _ _ h=>h) (Or.inl ⟨by rfl,?_⟩) hHeld ?_ ?_
     rotate_left
     ·intro w' s0
      go_simp
      with_reducible rfl
     rotate_left
     ·simp only[Act.put,Zy,Ya,Yb,i64_w,i32_w]
      rfl
     refine one_ (i:=3) (N:=some 16) #[true,true,true,true,true,false,false,false,false,false,false] rfl rfl (one_of HT_.out z2_25) (by decide) (fun K hK=> ?_)
     refine goes_ Tryz.func37 z2_25 rfl #[.pointer (some ⟨g,0,none⟩)] (by rfl) rfl rfl z2_1 ?_
     with_reducible refine(spec_l05Case.calls k1 g s0_0 t246 t247 t248 t251 t252 w0 _ ?side1 ?side2 A9.out).mono ?_
     (case side1=>exact z2_14)
     (case side2=>exact z2_15)
     rintro e w14 ⟨v249,rfl,ho0,hi,hb,hk⟩
     refine⟨_,rfl,?_⟩
     have n0_:=Za (Kd.S_mono (Kd.S_told (Kd.S_oldK (IsS68.apartS (show IsS68 w0 _ g s0_0 t246 t247 from by repeat(first|(with_reducible first|exact HI0.out|apply IsS68.alloc|apply IsS68.drewN|apply IsS68.drew|apply IsS68.set_1|apply IsS68.set_2|refine IsS68.far ?_ NB0_243.out _|refine IsS68.far ?_ NB0_244.out _)|exact HI0.out)) z2_30 (by decide)) hk) (Yo ho0)) (fun _ h_=>h_.1))
     have n1_:=Za (KeepBut.blk hk (g':=gb243) (o:= .cells #[.slice none 0 0] 26 (0,0)) z2_17 NB243_0.out (by simp))
     have n2_:=Za (KeepBut.blk hk (g':=gb244) (o:= .cells #[u245000] 26 (0,0)) z2_24 NB244_0.out (by simp))
     have n3_:=Za (Yr ho0 (keep_size (w:=w) (g:=g) (row:=none) z2_12))
     have n4_:=Za (KeepBut.trans z2_12 hk (.inl rfl))
     have n5_:=Za (hb)
     have n6_:=Za (hi)
     clear HO_245000
     clear BK243
     clear BK244
     clear HK
     clear HB
     clear HI0
     have HO_245000:=n0_
     have BK243:=n1_
     have BK244:=n2_
     have HO250:=n3_
     have HK:=n4_
     have HB:=n5_
     have HI0:=n6_
     clear n0_ n1_ n2_ n3_ n4_ n5_ n6_
     (try clear hb)
     (try clear hb2)
     (try clear hk)
     (try clear hi)
     (try clear ho0)
     refine hK.out _ _ ((Zb BK244.out 0).trans rfl) (fun hHeld=> ?_)
     clear hK K
     refine norm_ (a':= ?_) ?_ ?_
     rotate_left
     ·show Act.put _ (some 16) _=_
      simp only[Act.put,Zy,Ya,Yb,i64_w,i32_w]
      rfl
     refine one_ (i:=5) (N:=some 18) #[true,true,true,true,true,true,false,false,false,false,false] rfl rfl (one_of HT_.out z2_25) (by decide) (fun K hK=> ?_)
     refine goes_ Tryz.func38 z2_25 rfl #[.pointer (some ⟨g,0,none⟩)] (by rfl) rfl rfl z2_1 ?_
     with_reducible refine(spec_l03Expr.calls g s0_0 t251 t252 t253 t254 t255 t256 t257 w0 _ ?side1 ?side2 A10.out).mono ?_
     (case side1=>exact z2_14)
     (case side2=>exact z2_15)
     rintro e w15 ⟨rfl,hi,hb,hk⟩
     refine⟨_,rfl,?_⟩
     have n0_:=Za (Kd.S_mono (Kd.S_keep (IsS68.apartS (show IsS68 w0 _ g s0_0 t251 t252 from by repeat(first|(with_reducible first|exact HI0.out|apply IsS68.alloc|apply IsS68.drewN|apply IsS68.drew|apply IsS68.set_1|apply IsS68.set_2|refine IsS68.far ?_ NB0_243.out _|refine IsS68.far ?_ NB0_244.out _)|exact HI0.out)) z2_30 (by decide)) hk (fun _ h=>h.2)) (fun _ h=>h.1))
     have n1_:=Za (KeepBut.blk hk (g':=gb243) (o:= .cells #[.slice none 0 0] 26 (0,0)) z2_17 NB243_0.out (by simp))
     have n2_:=Za (KeepBut.blk hk (g':=gb244) (o:= .cells #[u245000] 26 (0,0)) z2_24 NB244_0.out (by simp))
     have n3_:=Za (Yk (Kd.R_keep (IsS68.apart (show IsS68 w0 _ g s0_0 t251 t252 from by repeat(first|(with_reducible first|exact HI0.out|apply IsS68.alloc|apply IsS68.drewN|apply IsS68.drew|apply IsS68.set_1|apply IsS68.set_2|refine IsS68.far ?_ NB0_243.out _|refine IsS68.far ?_ NB0_244.out _)|exact HI0.out)) (by(with_reducible repeat(first|apply Zo|apply Zm|apply Zn));exact HO250.out) (by decide)) hk (fun _ h=>h.2)) (fun _ h=>h.1))
     have n4_:=Za (KeepBut.trans z2_12 hk (.inl rfl))
     have n5_:=Za (hb)
     have n6_:=Za (hi)
     clear HO_245000
     clear BK243
     clear BK244
     clear HO250
     clear HK
     clear HB
     clear HI0
     have HO_245000:=n0_
     have BK243:=n1_
     have BK244:=n2_
     have HO250:=n3_
     have HK:=n4_
     have HB:=n5_
     have HI0:=n6_
     clear n0_ n1_ n2_ n3_ n4_ n5_ n6_
     (try clear hb)
     (try clear hb2)
     (try clear hk)
     (try clear hi)
     obtain⟨Ao16,co16,eo16⟩:=Ym HO250.out
     (first|subst eo16|(injection eo16 with f1_ f2_ f3_;have f4_:=f1_.symm;have f5_:=f3_.symm;clear f1_ f2_ f3_;subst f4_;subst f5_))
     refine hK.out _ _ ((Zb BK244.out 0).trans rfl) (fun hHeld=> ?_)
     clear hK K
     refine norm_ (a':= ?_) ?_ ?_
     rotate_left
     ·show Act.put _ (some 18) _=_
      simp only[Act.put,Zy,Ya,Yb,i64_w,i32_w]
      rfl
     refine pure_ (i:=6) (N:=some 19) (v:= ?_) (a':= ?_) #[true,true,true,true,true,true,true,false,false,false,false] rfl rfl (any_of HT_.out z2_25) (fun _ _ _ h=>h) (Or.inl ⟨by rfl,?_⟩) ?_ ?_
     rotate_left
     ·intro w'
      go_simp
      with_reducible rfl
     rotate_left
     ·simp only[Act.put,Zy,Ya,Yb,i64_w,i32_w]
      rfl
     refine one_ (i:=7) (N:=some 20) #[true,true,true,true,true,true,true,true,false,false,false] rfl rfl (one_of HT_.out z2_25) (by decide) (fun K hK=> ?_)
     refine value_ (w1:= ?_) (v:= ?_) (by rfl) rfl ?_ ?_
     rotate_left 2
     ·go_simp
      constructor
      ·rfl
      ·rfl
     refine hK.out _ _ ((Zb (blk_alloc BK244.out _) 0).trans rfl) (fun hHeld=> ?_)
     clear hK K
     refine norm_ (a':= ?_) ?_ ?_
     rotate_left
     ·show Act.put _ (some 20) _=_
      simp only[Act.put,Zy,Ya,Yb,i64_w,i32_w]
      rfl
     refine one_ (i:=8) (N:=some 21) #[true,true,true,true,true,true,true,true,true,false,false] rfl rfl (one_of HT_.out z2_25) (by decide) (fun K hK=> ?_)
     refine Kd.S_append_step k75 w.heap.size (by rfl) (.tmp 14) (.tmp 20) 24 75 (.agg #[(.slice none 0 0),(.int .i64 0),(.int .i64 0),(.int .i64 0)]) 48 rfl Tryz.underlying24 info75 rfl (by decide) (by omega) u245000 x245000_1 (⟨t248,(⟨t253,t254,t255⟩:S72)⟩:S75) [.slice Ao16 t248.length co16,.int .i64 t253,.int .i64 t254,.int .i64 t255] (fun _=>True) (fun k_=>some k_=(.slice Ao16 t248.length co16:Value).ownBlock) rfl rfl ?aP (fun k_ hk_=>((Yk (ok':=fun k_=>((fun _=>True)) k_∧some k_≠(u245000:Value).ownBlock) (Kd.R_apart' (HO250.out) (Kd.S_typed HO_245000.out) (by decide)) (fun k_ hk=>⟨trivial,hk.2⟩))).1 k_ hk_.symm) ?aF ?aO (Zx _ _) ?aS ?aL ?_
     (case aP=>exact k75_mkM _ _ _ (⟨t248,(⟨t253,t254,t255⟩:S72)⟩:S75) (Yk (Kd.R_tight rfl (Yk (ok':=fun k_=>((fun _=>True)) k_∧some k_≠(u245000:Value).ownBlock) (Kd.R_apart' (HO250.out) (Kd.S_typed HO_245000.out) (by decide)) (fun k_ hk=>⟨trivial,hk.2⟩))) (fun _ h_=>h_)))
     (case aF=>exact(fun _ _=>trivial))
     (case aO=>exact(by(with_reducible repeat(first|apply Kd.S_alloc|apply Kd.S_drewN|apply Kd.S_drew));exact Kd.S_mono HO_245000.out (fun k_ hk=>⟨trivial,fun e_=>hk.2 e_⟩)))
     (case aS=>exact(keep_size (w:=w) (g:=g) (row:=none) z2_12))
     (case aL=>have:=LMc11.out;omega)
     intro v259 w17 ho hb hg hat
     rw[←Ny258.out] at ho
     have n0_:=Za (blk_grown (g:=gb243) (o:= .cells #[.slice none 0 0] 26 (0,0)) z2_17 hg (Kd.S_ne HO_245000.out BK243.out (by decide)))
     have n1_:=Za (blk_grown (g:=gb244) (o:= .cells #[u245000] 26 (0,0)) z2_24 hg (Kd.S_ne HO_245000.out BK244.out (by decide)))
     have n2_:=Za (IsS68.grown z2_14 hg (IsS68.own_neS HI0.out HO_245000.out (by decide)))
     have n3_:=Za (below_weaken z2_15 HL.out hb)
     have n4_:=Za (KeepBut.trans z2_12 (KeepBut.of_grown hg g) (Kd.S_base2 HO_245000.out))
     have n5_:=Za (ho)
     clear BK243
     clear BK244
     clear HI0
     clear HB
     clear HK
     clear HO_245000
     clear HO250
     have BK243:=n0_
     have BK244:=n1_
     have HI0:=n2_
     have HB:=n3_
     have HK:=n4_
     have HO260:=n5_
     clear n0_ n1_ n2_ n3_ n4_ n5_
     clear ho hb hg hat
     obtain⟨Ao18,co18,eo18⟩:=Kd.S_slice HO260.out
     (first|subst eo18|(injection eo18 with f1_ f2_ f3_;have f4_:=f1_.symm;have f5_:=f3_.symm;clear f1_ f2_ f3_;subst f4_;subst f5_))
     refine hK.out _ _ ((Zb BK244.out 0).trans rfl) (fun hHeld=> ?_)
     clear hK K
     refine norm_ (a':= ?_) ?_ ?_
     rotate_left
     ·show Act.put _ (some 21) _=_
      simp only[Act.put,Zy,Ya,Yb,i64_w,i32_w]
      rfl
     refine pure_ (i:=9) (N:=some 22) (v:= ?_) (a':= ?_) #[true,true,true,true,true,true,true,true,true,true,false] rfl rfl (any_of HT_.out z2_25) (fun _ _ _ h=>h) (Or.inl ⟨by rfl,?_⟩) ?_ ?_
     rotate_left
     ·intro w'
      go_simp
      with_reducible rfl
     rotate_left
     ·simp only[Act.put,Zy,Ya,Yb,i64_w,i32_w]
      rfl
     refine last_ (i:=10) (N:=none) #[true,true,true,true,true,true,true,true,true,true,true] rfl rfl (one_of HT_.out z2_25) (by decide) (fun K hK=> ?_)
     have hs19:w17.cell? ⟨gb244,0,none⟩=some (u245000):=(Zb BK244.out 0).trans rfl
     have hfs19:=Zc BK244.out 0
     have hns19_0:=NB243_244.out
     have hms19_0:=NB244_243.out
     refine skip_ (w1:= ?_) (by rfl) rfl ?_ ?_
     rotate_left
     ·go_simp
      rfl
     refine hK.out _ _ ?_
     clear hK K
     refine done_ (done_of HT_.out z2_25) ?_
     try go_wp2
     go_roundg k1
     case measure=>have:=HK1.out;omega
     case rel=>exact⟨(wrap64 (x4_1+1)),(t256),(t257),(y258),(.slice Ao18 y258.length co18),z2_19,H',⟨by have:=HK1.out;omega⟩,⟨by(with_reducible repeat(first|apply Kd.S_alloc|apply Kd.S_drewN|apply Kd.S_drew));exact Kd.S_mono (Kd.S_far (p:=⟨gb244,0,none⟩) (Kd.S_types HO260.out BK244.out (by decide)) (fun _ hk=>hk.2) (.slice Ao18 y258.length co18)) (fun _ hk=>trivial)⟩,⟨by(with_reducible repeat(first|refine blk_drewN ?_ _|refine blk_drew ?_|refine blk_alloc ?_ _));refine blk_far ?_ NB243_244.out _;(with_reducible repeat(first|refine blk_drewN ?_ _|refine blk_drew ?_|refine blk_alloc ?_ _));exact BK243.out⟩,⟨by(with_reducible repeat(first|refine blk_drewN ?_ _|refine blk_drew ?_|refine blk_alloc ?_ _));refine blk_put (cs:= #[u245000]) ?_ 0 _ rfl;(with_reducible repeat(first|refine blk_drewN ?_ _|refine blk_drew ?_|refine blk_alloc ?_ _));exact BK244.out⟩,⟨by repeat(first|(with_reducible first|exact HI0.out|apply IsS68.alloc|apply IsS68.drewN|apply IsS68.drew|apply IsS68.set_1|apply IsS68.set_2|refine IsS68.far ?_ NB0_243.out _|refine IsS68.far ?_ NB0_244.out _)|exact HI0.out)⟩,⟨by repeat(first|(with_reducible first|exact HK.out|apply KeepBut.set_|apply keep_drewN|apply keep_drew|apply keep_alloc|refine keep_far ?_ GW243.out _|refine keep_far ?_ GW244.out _)|exact HK.out)⟩,⟨by repeat(first|(with_reducible first|exact HB.out|apply Zh|apply Zf|apply Ze|refine Zd ?_ (IsS68.ge HI0.out)|refine Zd ?_ GE243.out|refine Zd ?_ GE244.out)|exact HB.out)⟩⟩
    ·rw[if_neg c11] at H
     exact absurd H (by simp)
   ·rw[if_neg c8] at H
    have c8b0:decide (x4_1<(wrap64 (1+t245)))=false:=Yf c8
    clear c8
    simp only[Option.some.injEq,Prod.mk.injEq] at H
    obtain⟨rfl,rfl,rfl⟩:=H
    go_wp2_with (first|((first|((with_reducible refine gate_callee (f:=24) rfl ?_);refine goesL_ (some 8) rfl rfl Tryz.func24 z2_25 rfl #[.pointer (some ⟨g,0,none⟩),.int .i64 3] rfl z2_1 ?_;(with_reducible refine(spec_l01Below.calls g s0_0 x1001_1 x1002_1 3 t245 t246 t247 w0 _ ?side1 ?side2 A7.out).mono ?_))|(go_at_call 24;(with_reducible refine(spec_l01Below.calls g s0_0 x1001_1 x1002_1 3 t245 t246 t247 w0 _ ?side1 ?side2 A7.out).mono ?_)));(case side1=>exact z2_14);(case side2=>exact z2_15);rintro e w20 ⟨rfl,hi,hb,hk⟩;(first|refine⟨_,rfl,?_⟩|skip);replace HO_245000:=Za (Kd.S_mono (Kd.S_keep (IsS68.apartS (show IsS68 w0 _ g s0_0 x1001_1 x1002_1 from by repeat(first|(with_reducible first|exact HI0.out|apply IsS68.alloc|apply IsS68.drewN|apply IsS68.drew|apply IsS68.set_1|apply IsS68.set_2|refine IsS68.far ?_ NB0_243.out _|refine IsS68.far ?_ NB0_244.out _)|exact HI0.out)) z2_30 (by decide)) hk (fun _ h=>h.2)) (fun _ h=>h.1));replace BK243:=Za (KeepBut.blk hk (g':=gb243) (o:= .cells #[.slice none 0 0] 26 (0,0)) z2_17 NB243_0.out (by simp));replace BK244:=Za (KeepBut.blk hk (g':=gb244) (o:= .cells #[u245000] 26 (0,0)) z2_24 NB244_0.out (by simp));replace HK:=Za (KeepBut.trans z2_12 hk (.inl rfl));replace HB:=Za (hb);replace HI0:=Za (hi);(try clear hb);(try clear hb2);(try clear hk);(try clear hi);have hnb21:=NB244_243.out;have hnc21:=NB243_244.out;have hnb22:=NB244_0.out;have hnc22:=NB0_244.out;have hcz23_0:w20.cell? ⟨gb244,0,none⟩=some (u245000):=(Zb BK244.out 0).trans rfl;have hfz23_0:=Zc BK244.out 0;obtain⟨Ao24,co24,eo24⟩:=Kd.S_slice HO_245000.out;subst eo24;have hnb25:=NB243_0.out;have hnc25:=NB0_243.out;have hcz26_0:w20.cell? ⟨gb243,0,none⟩=some (.slice none 0 0):=(Zb BK243.out 0).trans rfl;have hfz26_0:=Zc BK243.out 0))
    refine bodyPost_ret (results_cell_row rfl _ _ gb243 26 #[.slice Ao24 x245000_1.length co24] (0,0) _ rfl (by(with_reducible repeat(first|refine blk_drewN ?_ _|refine blk_drew ?_|refine blk_alloc ?_ _));refine blk_put (cs:= #[.slice none 0 0]) ?_ 0 _ rfl;(with_reducible repeat(first|refine blk_drewN ?_ _|refine blk_drew ?_|refine blk_alloc ?_ _));exact BK243.out) Tryz.underlying26 rfl z2_25) rfl ?_
    exact⟨_,by first|rfl|(simp[errW_none,errW_some]<;>rfl)|(simp[*,errW_none,errW_some]<;>rfl)|(simp[*,errW_none,errW_some,i64_w];done),by(with_reducible repeat(first|apply Kd.S_alloc|apply Kd.S_drewN|apply Kd.S_drew));exact Kd.S_mono (Kd.S_far (p:=⟨gb243,0,none⟩) (Kd.S_types HO_245000.out BK243.out (by decide)) (fun _ hk=>hk.2) (.slice Ao24 x245000_1.length co24)) (fun _ hk=>trivial),by repeat(first|(with_reducible first|exact HI0.out|apply IsS68.alloc|apply IsS68.drewN|apply IsS68.drew|apply IsS68.set_1|apply IsS68.set_2|refine IsS68.far ?_ NB0_243.out _|refine IsS68.far ?_ NB0_244.out _)|exact HI0.out),by repeat(first|(with_reducible first|exact HB.out|apply Zh|apply Zf|apply Ze|refine Zd ?_ (IsS68.ge HI0.out)|refine Zd ?_ GE243.out|refine Zd ?_ GE244.out)|exact HB.out),by repeat(first|(with_reducible first|exact HK.out|apply KeepBut.set_|apply keep_drewN|apply keep_drew|apply keep_alloc|refine keep_far ?_ GW243.out _|refine keep_far ?_ GW244.out _)|exact HK.out)⟩
def spec_l01In.f (a0:Int) (a1:Int) (a2:Int):Option (Bool):=if a0≥a1 then (some (decide (a0≤a2))) else (some false)
set_option maxHeartbeats 8000000 in
set_option maxRecDepth 100000 in
theorem spec_l01In.calls (a0:Int) (a1:Int) (a2:Int) (r:Bool) (w:World) (h:spec_l01In.f a0 a1 a2=some r):
  Calls Tryz.prog 41 #[.int .i64 a0,.int .i64 a1,.int .i64 a2] w fun e w'=>e= .returned (.bool r)∧Drawn0 w w':=by
 have H:(if a0≥a1 then (some (decide (a0≤a2))) else (some false))=some r:=h
 clear h
 by_cases c4:a0≥a1
 ·rw[if_pos c4] at H
  have c4b0:decide (a1≤a0)=true:=Zq c4
  clear c4
  obtain rfl:=Zk H
  go_enter Tryz.func41,Tryz.ntmps41
  go_wp2
  go_ret
  exact⟨by first|rfl|(simp;done)|(simp[*];done),by repeat(first|exact Zv _|apply Zw)⟩
 ·rw[if_neg c4] at H
  have c4b0:decide (a1≤a0)=false:=Yf c4
  clear c4
  obtain rfl:=Zk H
  go_enter Tryz.func41,Tryz.ntmps41
  go_wp2
  go_ret
  exact⟨by first|rfl|(simp;done)|(simp[*];done),by repeat(first|exact Zv _|apply Zw)⟩
def spec_PackControl.f (a0:Int) (a1:Int) (a2:Int):Option (Int):=(spec_l01In.f a0 0 5).bind fun t261=>(if t261=true then ((spec_l01In.f a1 0 8).bind fun t262=>(if t262=true then ((spec_l01In.f a2 0 24).bind fun t263=>(if t263=true then (some (wrap64 (a0+(wrap64 (8*(wrap64 (a1+(wrap64 (16*a2))))))))) else (some (-1)))) else (some (-1)))) else (some (-1)))
set_option maxHeartbeats 8000000 in
set_option maxRecDepth 100000 in
theorem spec_PackControl.calls (a0:Int) (a1:Int) (a2:Int) (r:Int) (w:World) (h:spec_PackControl.f a0 a1 a2=some r):
  Calls Tryz.prog 22 #[.int .i64 a0,.int .i64 a1,.int .i64 a2] w fun e w'=>e= .returned (.int .i64 r)∧Drawn0 w w':=by
 have H:((spec_l01In.f a0 0 5).bind fun t261=>(if t261=true then ((spec_l01In.f a1 0 8).bind fun t262=>(if t262=true then ((spec_l01In.f a2 0 24).bind fun t263=>(if t263=true then (some (wrap64 (a0+(wrap64 (8*(wrap64 (a1+(wrap64 (16*a2))))))))) else (some (-1)))) else (some (-1)))) else (some (-1))))=some r:=h
 clear h
 replace H:=Zg H
 obtain⟨t261,A40,H⟩:=H
 replace H:(if t261=true then ((spec_l01In.f a1 0 8).bind fun t262=>(if t262=true then ((spec_l01In.f a2 0 24).bind fun t263=>(if t263=true then (some (wrap64 (a0+(wrap64 (8*(wrap64 (a1+(wrap64 (16*a2))))))))) else (some (-1)))) else (some (-1)))) else (some (-1)))=some r:=H
 have A4:=Za A40
 clear A40
 by_cases c5:t261=true
 ·subst c5
  rw[if_pos rfl] at H
  replace H:=Zg H
  obtain⟨t262,A60,H⟩:=H
  replace H:(if t262=true then ((spec_l01In.f a2 0 24).bind fun t263=>(if t263=true then (some (wrap64 (a0+(wrap64 (8*(wrap64 (a1+(wrap64 (16*a2))))))))) else (some (-1)))) else (some (-1)))=some r:=H
  have A6:=Za A60
  clear A60
  by_cases c7:t262=true
  ·subst c7
   rw[if_pos rfl] at H
   replace H:=Zg H
   obtain⟨t263,A80,H⟩:=H
   replace H:(if t263=true then (some (wrap64 (a0+(wrap64 (8*(wrap64 (a1+(wrap64 (16*a2))))))))) else (some (-1)))=some r:=H
   have A8:=Za A80
   clear A80
   by_cases c9:t263=true
   ·subst c9
    rw[if_pos rfl] at H
    obtain rfl:=Zk H
    go_enter Tryz.func22,Tryz.ntmps22
    go_wp2_with (first|((first|((with_reducible refine gate_callee (f:=41) rfl ?_);refine goesL_ (some 8) rfl rfl Tryz.func41 z2_25 rfl #[.int .i64 a0,.int .i64 0,.int .i64 5] rfl z2_1 ?_;(with_reducible refine(spec_l01In.calls a0 0 5 true _ A4.out).mono ?_))|(go_at_call 41;(with_reducible refine(spec_l01In.calls a0 0 5 true _ A4.out).mono ?_)));rintro e w' ⟨rfl,⟨nd,rfl⟩⟩;(first|refine⟨_,rfl,?_⟩|skip))|(go_at_call 41;(with_reducible refine(spec_l01In.calls a1 0 8 true _ A6.out).mono ?_);rintro e w' ⟨rfl,⟨nd,rfl⟩⟩)|(go_at_call 41;(with_reducible refine(spec_l01In.calls a2 0 24 true _ A8.out).mono ?_);rintro e w' ⟨rfl,⟨nd,rfl⟩⟩))
    go_ret
    exact⟨by first|rfl|(simp;done)|(simp[*];done),by repeat(first|exact Zv _|apply Zw)⟩
   ·replace c9:=Bool.eq_false_iff.mpr c9
    subst c9
    rw[if_neg (show ¬(false=true) by decide)] at H
    obtain rfl:=Zk H
    go_enter Tryz.func22,Tryz.ntmps22
    go_wp2_with (first|((first|((with_reducible refine gate_callee (f:=41) rfl ?_);refine goesL_ (some 8) rfl rfl Tryz.func41 z2_25 rfl #[.int .i64 a0,.int .i64 0,.int .i64 5] rfl z2_1 ?_;(with_reducible refine(spec_l01In.calls a0 0 5 true _ A4.out).mono ?_))|(go_at_call 41;(with_reducible refine(spec_l01In.calls a0 0 5 true _ A4.out).mono ?_)));rintro e w' ⟨rfl,⟨nd,rfl⟩⟩;(first|refine⟨_,rfl,?_⟩|skip))|(go_at_call 41;(with_reducible refine(spec_l01In.calls a1 0 8 true _ A6.out).mono ?_);rintro e w' ⟨rfl,⟨nd,rfl⟩⟩)|(go_at_call 41;(with_reducible refine(spec_l01In.calls a2 0 24 false _ A8.out).mono ?_);rintro e w' ⟨rfl,⟨nd,rfl⟩⟩))
    go_ret
    exact⟨by first|rfl|(simp;done)|(simp[*];done),by repeat(first|exact Zv _|apply Zw)⟩
  ·replace c7:=Bool.eq_false_iff.mpr c7
   subst c7
   rw[if_neg (show ¬(false=true) by decide)] at H
   obtain rfl:=Zk H
   go_enter Tryz.func22,Tryz.ntmps22
   go_wp2_with (first|((first|((with_reducible refine gate_callee (f:=41) rfl ?_);refine goesL_ (some 8) rfl rfl Tryz.func41 z2_25 rfl #[.int .i64 a0,.int .i64 0,.int .i64 5] rfl z2_1 ?_;(with_reducible refine(spec_l01In.calls a0 0 5 true _ A4.out).mono ?_))|(go_at_call 41;(with_reducible refine(spec_l01In.calls a0 0 5 true _ A4.out).mono ?_)));rintro e w' ⟨rfl,⟨nd,rfl⟩⟩;(first|refine⟨_,rfl,?_⟩|skip))|(go_at_call 41;(with_reducible refine(spec_l01In.calls a1 0 8 false _ A6.out).mono ?_);rintro e w' ⟨rfl,⟨nd,rfl⟩⟩))
   go_ret
   exact⟨by first|rfl|(simp;done)|(simp[*];done),by repeat(first|exact Zv _|apply Zw)⟩
 ·replace c5:=Bool.eq_false_iff.mpr c5
  subst c5
  rw[if_neg (show ¬(false=true) by decide)] at H
  obtain rfl:=Zk H
  go_enter Tryz.func22,Tryz.ntmps22
  go_wp2_with (first|((first|((with_reducible refine gate_callee (f:=41) rfl ?_);refine goesL_ (some 8) rfl rfl Tryz.func41 z2_25 rfl #[.int .i64 a0,.int .i64 0,.int .i64 5] rfl z2_1 ?_;(with_reducible refine(spec_l01In.calls a0 0 5 false _ A4.out).mono ?_))|(go_at_call 41;(with_reducible refine(spec_l01In.calls a0 0 5 false _ A4.out).mono ?_)));rintro e w' ⟨rfl,⟨nd,rfl⟩⟩;(first|refine⟨_,rfl,?_⟩|skip)))
  go_ret
  exact⟨by first|rfl|(simp;done)|(simp[*];done),by repeat(first|exact Zv _|apply Zw)⟩
end Go.Proofs.YtdkbkkpbdmlmbaaGreat.G
