/- Functions of the program as plain Lean functions, and that each call comes to its function's answer; written by a program of the session. No condition. -/
import Derived.Test.YtccjlmpeogifkaaGreatGx0
import Derived.Test.YtccjlmpeogifkaaGreatGx8
import Derived.Test.YtccjlmpeogifkaaGreatGx9
import Derived.Test.YtccjlmpeogifkaaGreatGx15
namespace Go.Proofs.YtccjlmpeogifkaaGreat.G
open Go.RowKit Go.Proofs.YtccjlmpeogifkaaGreatW.PrintWords Go.Proofs.YtccjlmpeogifkaaGreatW.PrintLast Go.Proofs.YtccjlmpeogifkaaGreatW.PrintMore
attribute [local go_sem] max2_int min2_int max_two min_two max_three min_three max_four min_four   -- for this text's walks alone
set_option linter.unusedVariables false
set_option linter.unusedSimpArgs false
theorem z16_0 {P:Prop} (h:P:=by repeat(first|(with_reducible first|exact HB.out|apply Zh|apply Ze|apply Zd)|exact HB.out)):P:=h
theorem z16_1 {P:Prop} (h:P:=by repeat(first|(with_reducible first|exact HB.out|apply Zh|apply Ze|apply Zd|refine Zg ?_ GE553.out)|exact HB.out)):P:=h
theorem z16_2 {P:Prop} (h:P:=by(with_reducible repeat(first|refine blk_drewN ?_ _|refine blk_drew ?_|refine blk_alloc ?_ _));exact BK553.out):P:=h
theorem z16_3 {P:Prop} (h:P:=by repeat(first|(with_reducible first|exact HB.out|apply Zh|apply Ze|apply Zd|refine Zg ?_ GE551.out)|exact HB.out)):P:=h
theorem z16_4 {P:Prop} (h:P:=by(with_reducible repeat(first|refine blk_drewN ?_ _|refine blk_drew ?_|refine blk_alloc ?_ _));exact BK559.out):P:=h
theorem z16_5 {P:Prop} (h:P:=by first|(go_simp;done)|(go_simp;rfl)):P:=h
theorem z16_6 {P:Prop} (h:P:=by repeat(first|(with_reducible first|exact HB.out|apply Zh|apply Ze|apply Zd|refine Zg ?_ GE559.out)|exact HB.out)):P:=h
theorem z16_7 {P:Prop} (h:P:=by(with_reducible repeat(first|refine blk_drewN ?_ _|refine blk_drew ?_|refine blk_alloc ?_ _));exact BK551.out):P:=h
theorem z16_8 {P:Prop} (h:P:=by(try simp only[Ys,Yt,List.map_nil]);first|done|rfl|(simp only[List.length_drop,List.length_take];rfl)):P:=h
theorem z16_9 {P:Prop} (h:P:=by kernel_rfl):P:=h
theorem z16_10 {P:Prop} (h:P:=by repeat(first|(with_reducible first|exact HB.out|apply Zh|apply Ze|apply Zd|refine Zg ?_ GE559.out|refine Zg ?_ GE560.out)|exact HB.out)):P:=h
theorem z16_11 {P:Prop} (h:P:=by first|(with_reducible assumption)|assumption):P:=h
theorem z16_12 {P:Prop} (h:P:=by(with_reducible repeat(first|refine blk_drewN ?_ _|refine blk_drew ?_|refine blk_alloc ?_ _));exact BK560.out):P:=h
theorem z16_13 {P:Prop} (h:P:=by repeat(first|exact(Yj HR1_0.out HB.out)|(with_reducible refine Yh ?_ _)|(with_reducible refine Ye ?_ _)|(with_reducible refine Yi ?_))):P:=h
theorem z16_14 {P:Prop} (h:P:=by repeat(first|exact(Yj HR0_0.out HB.out)|(with_reducible refine Yh ?_ _)|(with_reducible refine Ye ?_ _)|(with_reducible refine Yi ?_))):P:=h
theorem z16_15 {P:Prop} (h:P:=by rw[hg];exact(Zt z16_0)):P:=h
theorem z16_16 {P:Prop} (h:P:=by rw[hg];exact Nat.ne_of_lt (blk_lt (g:=gb553) (o:= .cells #[.int .i64 a0_0,.int .i64 a0_1,.int .i64 a0_2,.int .i64 a0_3,.int .i64 a0_4,.int .i64 a0_5] 77 (0,0)) z16_2)):P:=h
theorem z16_17 {P:Prop} (h:P:=by rw[hg];exact Nat.ne_of_gt (blk_lt (g:=gb553) (o:= .cells #[.int .i64 a0_0,.int .i64 a0_1,.int .i64 a0_2,.int .i64 a0_3,.int .i64 a0_4,.int .i64 a0_5] 77 (0,0)) z16_2)):P:=h
theorem z16_18 {P:Prop} (h:P:=by rw[hg];exact Nat.ne_of_lt (blk_lt (g:=gb551) (o:= .cells #[.int .i64 a0_0,.int .i64 a0_1,.int .i64 a0_2] 53 (0,0)) z16_7)):P:=h
theorem z16_19 {P:Prop} (h:P:=by rw[hg];exact Nat.ne_of_gt (blk_lt (g:=gb551) (o:= .cells #[.int .i64 a0_0,.int .i64 a0_1,.int .i64 a0_2] 53 (0,0)) z16_7)):P:=h
theorem z16_20 {P:Prop} (h:P:=by rw[hg];exact Nat.ne_of_lt (blk_lt (g:=gb559) (o:= .cells #[.slice A0_0 l0_0.length c0_0,.int .i64 a0_1,.int .i64 a0_2,.int .i64 a0_3] 55 (0,0)) z16_4)):P:=h
theorem z16_21 {P:Prop} (h:P:=by rw[hg];exact Nat.ne_of_gt (blk_lt (g:=gb559) (o:= .cells #[.slice A0_0 l0_0.length c0_0,.int .i64 a0_1,.int .i64 a0_2,.int .i64 a0_3] 55 (0,0)) z16_4)):P:=h
theorem z16_22 {P:Prop} (h:P:=by rw[hg];exact(Zt z16_1)):P:=h
theorem z16_23 {P:Prop} (h:P:=by rw[hg];exact(Zt z16_3)):P:=h
def rowB (w:World) (v:Value) (xs:List Bool):Prop:=Kd.bool.R 4 w 0 (fun k=>v.ownBlock=some k) v xs
section
variable {w w1:World} {v:Value} {xs:List Bool}
theorem rowB.of_R {base:Nat} {ok:Nat→Prop} (h:Kd.bool.R 4 w base ok v xs):rowB w v xs:=Kd.R_of_own (own_less (Kd.own_of_R h) (Nat.zero_le _)) (fun _ hk=>hk)
theorem rowB.keep (h:rowB w v xs) (hm:∀k,v.ownBlock=some k→w1.heap[k]? =w.heap[k]?):rowB w1 v xs:=Kd.R_step h (fun k hk _=>hm k hk)
theorem rowB.below (h:rowB w v xs) (hb:Below w.heap.size w w1):rowB w1 v xs:=Kd.R_below h hb
theorem rowB.ne {g t:Nat} {cs:Array Value} (h:rowB w v xs) (hg:w.heap[g]? =some (.cells cs t (0,0))) (hne:4≠t):∀k,v.ownBlock=some k→k≠g:=by
 intro k hk he
 subst he
 obtain⟨c,hc⟩:=Kd.R_typed h _ hk
 rw[hc] at hg
 injection hg with hg
 injection hg with _ hg _
 exact hne hg
def rdB (xs:List Bool) (i:Int):Bool:=rdOf false xs i
theorem rowB.at_ {A:Option Addr} {n c:Nat} (h:rowB w (.slice A n c) xs) (i:Int) (h0:0≤i) (h1:i<(n:Int)):
  ∃g,A=some ⟨g,0,none⟩∧n=xs.length∧w.cell? ⟨g,i.toNat,none⟩=some (.bool (rdB xs i))∧w.frozen? ⟨g,i.toNat,none⟩=false∧rowB (w.setCell ⟨g,i.toNat,none⟩ (.bool true)) (.slice (some ⟨g,0,none⟩) n c) (xs.set i.toNat true):=by
 obtain⟨rfl,hn,_⟩:=Yd h
 obtain⟨g,cap,he,_⟩:=Kd.R_form h (by omega)
 injection he with e1 e2 e3
 subst e1 e3
 have:=own_at_of (d:=false) (Kd.own_of_R h) i h0 (by omega)
 exact⟨g,rfl,rfl,this.1,this.2,(Kd.R_putg h i true).1⟩
end
def markN (g:List Bool) (a:Nat):Nat→List Bool
 |0=>g
 |m+1=>(markN g a m).set (a+m) true
theorem markN_len (g:List Bool) (a:Nat):∀m,(markN g a m).length=g.length
 |0=>rfl
 |m+1=>by rw[markN,List.length_set,markN_len g a m]
def guardL (k:Nat) (l:List S77):Nat→Int→List Bool→Option (List Bool)
 |0,_,g=>some g
 |d+1,i,g=>if (rd_T77 l i).f0=4 then (impl_endOf.f k l i).bind fun e=>if e<(l.length:Int) then guardL k l d (i+1) (markN g i.toNat (e+1 - i).toNat) else none else guardL k l d (i+1) g
theorem guardL_mono (k:Nat) (l:List S77):∀(d:Nat) (i:Int) (g:List Bool),LeO (guardL k l d i g) (guardL (k+1) l d i g)
 |0,_,_=>Yn _
 |d+1,i,g=>Zx (Zy (impl_endOf.mono _ _ k) (fun e=>Zx (guardL_mono k l d _ _) (Yn _))) (guardL_mono k l d _ _)
def impl_MustWrite.f (k:Nat) (l0:List S77):Option (List Int):=(impl_BlockOk.f k l0).bind fun b=>if b=true then (if l0.length<17592186044415 then (guardL k l0 l0.length 0 (List.replicate l0.length false)).bind fun g=>some (setOf (writtenL (fun i=> !rdB g i) l0 0)) else none) else some []
theorem impl_MustWrite.mono:∀a0 k,LeO (impl_MustWrite.f k a0) (impl_MustWrite.f (k+1) a0):=by
 intro a0 k
 unfold impl_MustWrite.f
 exact Zy (impl_BlockOk.mono _ k) (fun _=>Zx (Zx (Zy (guardL_mono k _ _ _ _) (fun _=>Yn _)) (Yn _)) (Yn _))
set_option maxHeartbeats 8000000 in
set_option maxRecDepth 100000 in
theorem mustWrite_clo (A3:Option Addr) (c3 gp n:Nat) (g:List Bool) (i:Int) (w:World) (hb:w.heap[gp]? =some (.cells #[.slice A3 n c3] 73 (0,0))) (hr:rowB w (.slice A3 n c3) g) (h0:0≤i) (h1:i<(n:Int)):
  Calls Tryz.prog 96 (#[.int .i64 i]++ #[.pointer (some ⟨gp,0,none⟩)]) w fun e w'=>e= .returned (.bool (!rdB g i))∧Drawn0 w w':=by
 obtain⟨ga,rfl,hn,hc,hf,_⟩:=hr.at_ i h0 h1
 have hc0:=Sep.blk1 hb
 have p1:=eq_true h0
 have q1:=eq_true h1
 clear hb hr
 go_enter Tryz.func96,Tryz.ntmps96
 go_wp2
 go_ret
 exact⟨rfl,by repeat(first|exact Zz _|apply Ya)⟩
set_option maxHeartbeats 8000000 in
set_option maxRecDepth 100000 in
theorem impl_MustWrite.calls (k:Nat) (A0:Option Addr) (c0:Nat) (l0:List S77) (r:List Int) (w:World) (hr0:Kd.C k77 w A0 l0.length l0) (hc0:l0.length≤c0) (h:impl_MustWrite.f k l0=some r):
  Calls Tryz.prog 63 #[.slice A0 l0.length c0] w fun e w'=>∃v0_:Value,e= .returned (v0_)∧Kd.R (Kd.int .i64) 3 w' w.heap.size (fun _=>True) v0_ r∧Below w.heap.size w w':=by
 unfold impl_MustWrite.f at h
 obtain⟨b,hb,h⟩:=Zl h
 have HR0:=Za hr0
 have HC0:=Za hc0
 have TB:=Za hb
 clear hr0 hc0 hb
 cases b with
 |false=>
  rw[if_neg (by decide)] at h
  cases h
  go_enter Tryz.func63,Tryz.ntmps63
  go_wp2_with (first|(go_at_call 66;(with_reducible refine(impl_BlockOk.calls k _ _ l0 false _ HR0.out HC0.out TB.out).mono ?_);rintro e w1 ⟨rfl,hb1⟩;have HB1:=Za hb1;clear hb1)|fail)
  go_ret
  exact⟨_,rfl,Kd.R_nil _ _ _ _ _,HB1.out⟩
 |true=>
  rw[if_pos rfl] at h
  by_cases hl:l0.length<17592186044415
  ·rw[if_pos hl] at h
   have HL:=Za hl
   clear hl
   obtain⟨G,hG,h⟩:=Zl h
   cases h
   have TG:=Za hG
   clear hG
   go_enter Tryz.func63,Tryz.ntmps63
   go_wp2_with (first|(go_at_call 66;(with_reducible refine(impl_BlockOk.calls k _ _ l0 true _ HR0.out HC0.out TB.out).mono ?_);rintro e w1 ⟨rfl,hb1⟩;have HB1:=Za hb1;clear hb1)|((with_reducible refine Zr (N:=12) rfl ?_);refine Kd.R_make Kd.bool (w0:=w1) w1.heap.size 4 rfl (N:=12) rfl 73 (.tmp 11) (.tmp 11) rfl (l0.length:Int) rfl rfl Tryz.underlying73 (.bool false) 1 z16_9 rfl (by decide) (by decide) false (ok:=fun _=>True) (okp:=fun _=>False) rfl (fun _ h=>h.elim) trivial (by omega) (by have:=HL.out;omega) (Yc _ _) (Nat.le_refl _) ?_;intro v12 w2 ho hb hg hat;obtain⟨A3,c3,e3⟩:=Yp ho;rw[List.length_replicate,Int.toNat_natCast] at e3;subst e3;have RG2:Aside0 (rowB w2 (.slice A3 l0.length c3) (List.replicate l0.length false)):=⟨by rw[Int.toNat_natCast] at ho;exact rowB.of_R ho⟩;have VG:Aside0 (∀k,(Value.slice A3 l0.length c3).ownBlock=some k→w.heap.size≤k):=⟨fun k hk=>Nat.le_trans HB1.out.size (Yo ho k hk)⟩;have HB2:=Za (Zi HB1.out hb);clear ho hb hg hat)|((with_reducible refine Zr (N:=3) rfl ?_);refine Zs ?hg (N:=3) ?hd (cs:= #[.slice none 0 0]) (t:=73) ?hr ?_;(case hd=>rfl);(case hg=>rfl);(case hr=>exact z16_5);intro gp hgp w3 hp hb;have B3:=Za hp;have HB3:=Za (Zi HB2.out hb);have RG3:=Za (RG2.out.below hb);have GP:Aside0 (w.heap.size≤gp):=⟨by rw[hgp];exact HB2.out.size⟩;clear hgp hp hb;have hc0:=Sep.blk1 B3.out;have hf0:=Zc B3.out 0)|((with_reducible refine Ym (t:=73) (p:=3) rfl ?_);refine Yl (t:=73) (p:=3) (v:= ?vo1_) (w1:=w3.setCell ⟨gp,0,none⟩ (.slice A3 l0.length c3)) ?hg ?ho ?hn ?hr ?_;(case ho=>rfl);(case hg=>rfl);(case hn=>rfl);(case hr=>exact z16_5);intro w4 hw;have B4:Aside0 (w4.heap[gp]? =some (.cells #[.slice A3 l0.length c3] 73 (0,0))):=⟨by rw[hw];exact blk_put B3.out 0 _ rfl⟩;have HB4:Aside0 (Below w.heap.size w w4):=⟨by rw[hw];exact Zg HB3.out GP.out⟩;have RG4:Aside0 (rowB w4 (.slice A3 l0.length c3) (List.replicate l0.length false)):=⟨RG3.out.keep (fun k hk=>by rw[hw,Below.heap_setCell _ _ _ k (RG3.out.ne B3.out (by decide) k hk)])⟩;clear hw hc0 hf0)|fail)
   go_loopw [15] (fun v15 w'=>∃(x:Int) (d:Nat) (gd:List Bool),v15= .int .i64 x∧Aside0 (0≤x)∧Aside0 (x+(d:Int)=(l0.length:Int))∧Aside0 (guardL k l0 d x gd=some G)∧Aside0 (rowB w' (.slice A3 l0.length c3) gd)∧Aside0 (w'.heap[gp]? =some (.cells #[.slice A3 l0.length c3] 73 (0,0)))∧Aside0 (Below w.heap.size w w')) (fun v15 _=>l0.length - (intOf v15).toNat)
   case atStart=>exact⟨0,l0.length,_,rfl,⟨by omega⟩,⟨by omega⟩,TG,RG4,B4,HB4⟩
   case round=>
    clear TG RG4 B4 HB4 RG3 B3 HB3 RG2 HB2 HB1
    obtain⟨x,d,gd,rfl,Hx0,Hx1,TG,RG,BG,HB⟩:=hrel
    have hsum:wrap64 (x+1)=x+1:=by have:=HL.out;have:=Hx0.out;have:=Hx1.out;unfold wrap64;omega
    have Hs:=Za hsum
    clear hsum
    cases d with
    |zero=>
     have c1:decide (x<(l0.length:Int))=false:=Yg (by have:=Hx1.out;omega)
     have eg:=TG.out
     rw[guardL] at eg
     cases eg
     go_wp2_with (first|(go_at_call 67;(with_reducible refine(impl_written.calls (fun i=> !rdB G i) 96 #[.pointer (some ⟨gp,0,none⟩)] (fun args w=>enters_ Tryz.func96 z16_9 z16_9 args w) _ _ l0 _ (Yj HR0.out HB.out) HC0.out HL.out (fun i w' h0 h1 hb=>mustWrite_clo A3 c3 gp l0.length G i w' (Zk BG.out hb) (RG.out.below hb) h0 h1)).mono ?_);rintro e w9 ⟨v9,rfl,ho,hb⟩;have R9:=Za (Sep.rowI.of_R ho);have B9:Aside0 (∀k,v9.ownBlock=some k→w.heap.size≤k):=⟨fun k hk=>Nat.le_trans HB.out.size (Yo ho k hk)⟩;have HB9:=Za (Zi HB.out hb);clear ho hb)|fail)
     go_ret
     exact⟨_,rfl,R9.out.to_R (fun k hk=>B9.out k hk) (fun _ _=>trivial),HB9.out⟩
    |succ d=>
     have hlt:x<(l0.length:Int):=by have:=Hx1.out;omega
     have Hlt:=Za hlt
     have c1:decide (x<(l0.length:Int))=true:=Zq hlt
     obtain⟨ad,e,hx0,hx1,hx2,hx3,hx4,hx5⟩:=at_T77 (Yj HR0.out HB.out) x Hx0.out hlt
     cases e
     have TH:=TG.out
     clear TG
     rw[guardL] at TH
     obtain⟨y,hy⟩:∃y,rd_T77 l0 x=y:=⟨_,rfl⟩
     rw[hy] at hx0 hx1 hx2 hx3 hx4 hx5 TH
     obtain⟨x0,x1,x2,x3,x4,x5⟩:=y
     simp only at hx0 hx1 hx2 hx3 hx4 hx5 TH
     have p1:=eq_true Hx0.out
     have q1:=eq_true hlt
     clear hy hlt
     by_cases h4:x0=4
     ·rw[if_pos h4] at TH
      subst h4
      obtain⟨en,he,TH⟩:=Zl TH
      by_cases hen:en<(l0.length:Int)
      ·rw[if_pos hen] at TH
       have TE:=Za he
       have HEN:=Za hen
       have TI:=Za TH
       clear he hen TH
       go_wp2_with (first|((with_reducible refine Zr (N:=5) rfl ?_);refine Zs ?hg (N:=5) ?hd (cs:= #[.int .i64 0,.int .i64 0,.int .i64 0,.int .i64 0,.int .i64 0,.int .i64 0]) (t:=77) ?hr ?_;(case hd=>rfl);(case hg=>rfl);(case hr=>exact z16_5);intro g5 hg5 w5 hp hb;have B5:=Za hp;have HB5:=Za (Zi HB.out hb);have RG5:=Za (RG.out.below hb);have BG5:=Za (Zk BG.out hb);have G5:Aside0 (w.heap.size≤g5):=⟨by rw[hg5];exact HB.out.size⟩;clear hg5 hp hb;obtain⟨⟨_,_,_,_,_,_⟩,⟨_,_,_,_,_,_⟩⟩:=Sep.blk6 B5.out)|((with_reducible refine Ym (t:=77) (p:=5) rfl ?_);refine Yl (t:=77) (p:=5) (v:= ?vo5_) (w1:=Sep.put6 w5 g5 (.int .i64 4) (.int .i64 x1) (.int .i64 x2) (.int .i64 x3) (.int .i64 x4) (.int .i64 x5)) ?hg ?ho ?hn ?hr ?_;(case ho=>rfl);(case hg=>rfl);(case hn=>rfl);(case hr=>exact z16_5);intro w6 hw;have B6:Aside0 (w6.heap[g5]? =some (.cells #[.int .i64 4,.int .i64 x1,.int .i64 x2,.int .i64 x3,.int .i64 x4,.int .i64 x5] 77 (0,0))):=⟨by rw[hw];exact Sep.put6_blk B5.out _ _ _ _ _ _⟩;have HB6:Aside0 (Below w.heap.size w w6):=⟨by rw[hw];exact Sep.put6_below HB5.out G5.out _ _ _ _ _ _⟩;have RG6:Aside0 (rowB w6 (.slice A3 l0.length c3) gd):=⟨RG5.out.keep (fun k hk=>by rw[hw];exact put6_far (RG5.out.ne B5.out (by decide) k hk) _ _ _ _ _ _)⟩;have BG6:Aside0 (w6.heap[gp]? =some (.cells #[.slice A3 l0.length c3] 73 (0,0))):=⟨by rw[hw,put6_far (blk_ne BG5.out B5.out (by decide))];exact BG5.out⟩;clear hw;have hd0:w6.cell? ⟨g5,0,none⟩=some (.int .i64 4):=(Zb B6.out 0).trans rfl)|fail)
       go_loopw [6] (fun v6 w'=>∃(kk:Int) (m:Nat),v6= .int .i64 kk∧Aside0 (kk=x+(m:Int))∧Aside0 (m=0∨kk≤en+1)∧Aside0 (rowB w' (.slice A3 l0.length c3) (markN gd x.toNat m))∧Aside0 (w'.heap[gp]? =some (.cells #[.slice A3 l0.length c3] 73 (0,0)))∧Aside0 (Below w.heap.size w w')) (fun v6 _=>(en+1 - intOf v6).toNat)
       case atStart=>exact⟨x,0,rfl,⟨by simp⟩,⟨.inl rfl⟩,RG6,BG6,HB6⟩
       case round=>
        clear RG6 BG6 HB6
        obtain⟨kk,m,rfl,Hk,Hk1,RGk,BGk,HBk⟩:=hrel
        by_cases hke:kk≤en
        ·have c2:decide (kk≤en)=true:=Zq hke
         have HKE:=Za hke
         have hk0:0≤kk:=by have:=Hk.out;have:=Hx0.out;omega
         have hkl:kk<(l0.length:Int):=by have:=HEN.out;omega
         have K0:=Za hk0
         have KL:=Za hkl
         have p2:=eq_true hk0
         have q2:=eq_true hkl
         have hks:wrap64 (kk+1)=kk+1:=by have:=HL.out;unfold wrap64;omega
         have Hks:=Za hks
         clear hke hk0 hkl hks
         go_wp2_with (first|(go_at_call 95;(with_reducible refine(impl_endOf.calls k _ _ l0 x en _ ?_ HC0.out TE.out).mono ?_);(exact Yj HR0.out HBk.out);rintro e wq ⟨rfl,hd⟩;have hbq:Below wr.heap.size wr wq:=(by obtain⟨nd,rfl⟩:=hd;exact Ze (Yc _ _) _);clear hd;have BGq:=Za (Zk BGk.out hbq);have HBq:=Za (Zi HBk.out hbq);have RGq:=Za (RGk.out.below hbq);clear hbq;obtain⟨gr,e,hn,hcell,hfr,hput⟩:=RGq.out.at_ kk K0.out KL.out;subst e;have PUT:=Za hput;have NGR:Aside0 (gp≠gr):=⟨fun h=>RGq.out.ne BGq.out (by decide) gr rfl h.symm⟩;have hcq:=Sep.blk1 BGq.out;clear hput hn)|((with_reducible refine Ym (t:=4) (p:=33) rfl ?_);refine Yl (t:=4) (p:=33) (v:= ?vo33_) (w1:=(wq.setCell ⟨gr,kk.toNat,none⟩ (.bool true))) ?hg ?ho ?hn ?hr ?_;(case ho=>rfl);(case hg=>rfl);(case hn=>rfl);(case hr=>exact z16_5);intro w8 hw;have HB8:Aside0 (Below w.heap.size w w8):=⟨by rw[hw];exact Zg HBq.out (VG.out gr rfl)⟩;have BG8:Aside0 (w8.heap[gp]? =some (.cells #[.slice (some ⟨gr,0,none⟩) l0.length c3] 73 (0,0))):=⟨by rw[hw,Below.heap_setCell _ _ _ gp NGR.out];exact BGq.out⟩;have RG8:Aside0 (rowB w8 (.slice (some ⟨gr,0,none⟩) l0.length c3) ((markN gd x.toNat m).set kk.toNat true)):=⟨by rw[hw];exact PUT.out⟩;clear hw)|fail)
         go_roundw
         case rel=>exact⟨kk+1,m+1,by rw[Hks.out],⟨by have:=Hk.out;push_cast;omega⟩,⟨.inr (by have:=HKE.out;omega)⟩,⟨by rw[markN,show x.toNat+m=kk.toNat by have:=Hk.out;have:=Hx0.out;omega];exact RG8.out⟩,BG8,HB8⟩
         case measure=>
          have:=HKE.out
          simp only[intOf,Hks.out]
          omega
        ·have c2:decide (kk≤en)=false:=Yg hke
         have em:m=(en+1 - x).toNat:=by have:=Hk.out;have:=Hk1.out;omega
         subst em
         clear hke
         go_wp2_with (first|(go_at_call 95;(with_reducible refine(impl_endOf.calls k _ _ l0 x en _ ?_ HC0.out TE.out).mono ?_);(exact Yj HR0.out HBk.out);rintro e w' ⟨rfl,⟨nd,rfl⟩⟩)|fail)
         go_roundw
         case rel=>exact⟨x+1,d,_,by rw[Hs.out],⟨by have:=Hx0.out;omega⟩,⟨by have:=Hx1.out;omega⟩,TI,⟨RGk.out.below (by repeat(first|exact Yc _ _|apply Ze))⟩,⟨BGk.out⟩,⟨by repeat(first|exact HBk.out|apply Ze)⟩⟩
         case measure=>
          have:=Hlt.out
          have:=Hx0.out
          simp only[intOf,Hs.out]
          omega
      ·rw[if_neg hen] at TH
       cases TH
     ·rw[if_neg h4] at TH
      have TI:=Za TH
      have h4n:(x0==4)=false:=by simp[h4]
      have h4m:decide (x0=4)=false:=by simp[h4]
      clear TH
      go_wp2_with (first|((with_reducible refine Zr (N:=5) rfl ?_);refine Zs ?hg (N:=5) ?hd (cs:= #[.int .i64 0,.int .i64 0,.int .i64 0,.int .i64 0,.int .i64 0,.int .i64 0]) (t:=77) ?hr ?_;(case hd=>rfl);(case hg=>rfl);(case hr=>exact z16_5);intro g5 hg5 w5 hp hb;have B5:=Za hp;have HB5:=Za (Zi HB.out hb);have RG5:=Za (RG.out.below hb);have BG5:=Za (Zk BG.out hb);have G5:Aside0 (w.heap.size≤g5):=⟨by rw[hg5];exact HB.out.size⟩;clear hg5 hp hb;obtain⟨⟨_,_,_,_,_,_⟩,⟨_,_,_,_,_,_⟩⟩:=Sep.blk6 B5.out)|((with_reducible refine Ym (t:=77) (p:=5) rfl ?_);refine Yl (t:=77) (p:=5) (v:= ?vo5_) (w1:=Sep.put6 w5 g5 (.int .i64 x0) (.int .i64 x1) (.int .i64 x2) (.int .i64 x3) (.int .i64 x4) (.int .i64 x5)) ?hg ?ho ?hn ?hr ?_;(case ho=>rfl);(case hg=>rfl);(case hn=>rfl);(case hr=>exact z16_5);intro w6 hw;have B6:Aside0 (w6.heap[g5]? =some (.cells #[.int .i64 x0,.int .i64 x1,.int .i64 x2,.int .i64 x3,.int .i64 x4,.int .i64 x5] 77 (0,0))):=⟨by rw[hw];exact Sep.put6_blk B5.out _ _ _ _ _ _⟩;have HB6:Aside0 (Below w.heap.size w w6):=⟨by rw[hw];exact Sep.put6_below HB5.out G5.out _ _ _ _ _ _⟩;have RG6:Aside0 (rowB w6 (.slice A3 l0.length c3) gd):=⟨RG5.out.keep (fun k hk=>by rw[hw];exact put6_far (RG5.out.ne B5.out (by decide) k hk) _ _ _ _ _ _)⟩;have BG6:Aside0 (w6.heap[gp]? =some (.cells #[.slice A3 l0.length c3] 73 (0,0))):=⟨by rw[hw,put6_far (blk_ne BG5.out B5.out (by decide))];exact BG5.out⟩;clear hw;have hd0:w6.cell? ⟨g5,0,none⟩=some (.int .i64 x0):=(Zb B6.out 0).trans rfl)|fail)
      go_roundw
      case rel=>exact⟨x+1,d,gd,by rw[Hs.out],⟨by have:=Hx0.out;omega⟩,⟨by have:=Hx1.out;omega⟩,TI,RG6,BG6,HB6⟩
      case measure=>
       have:=Hlt.out
       have:=Hx0.out
       simp only[intOf,Hs.out]
       omega
  ·rw[if_neg hl] at h
   cases h
-- NOT PRINTED: function 64 (impl_MustLog_1)
theorem slIndex_some (l:List Int) (hl:l.length≤1048576) (x:Int) (d:Nat):∀(k:Nat) (i:Int),0≤i→i+(d:Int)=(l.length:Int)→d<k→
  ∃r,slices_Index_int_int.l0 k l x (l.length:Int) i=some r∧decide (r≥0)=decide (x∈l.drop i.toNat):=by
 induction d with
 |zero=>
  intro k i h0 hi hk
  obtain⟨k,rfl⟩:∃m,k=m+1:=⟨k - 1,by omega⟩
  rw[slices_Index_int_int.l0,if_neg (by omega),List.drop_eq_nil_of_le (by omega)]
  exact⟨_,rfl,by simp⟩
 |succ d ih=>
  intro k i h0 hi hk
  obtain⟨k,rfl⟩:∃m,k=m+1:=⟨k - 1,by omega⟩
  rw[slices_Index_int_int.l0,if_pos (by omega),if_pos h0,if_pos (by omega),drop_int h0 (by omega)]
  by_cases e:x=rd l i
  ·rw[if_pos e]
   exact⟨_,rfl,by simp[e,h0]⟩
  ·rw[if_neg e,show wrap64 (i+1)=i+1 by unfold wrap64;omega]
   obtain⟨r,h1,h2⟩:=ih k (i+1) (by omega) (by omega) (by omega)
   exact⟨r,h1,by rw[h2];simp[e]⟩
theorem hasVar_some (l:List Int) (hl:l.length≤1048576) (x:Int):impl_HasVar.f (l.length+1) l x=some (decide (x∈l)):=by
 unfold impl_HasVar.f slices_Contains_int_int.f slices_Index_int_int.f
 obtain⟨r,h1,h2⟩:=slIndex_some l hl x l.length (l.length+1) 0 (by omega) (by omega) (by omega)
 rw[h1]
 simp only[Yk,h2]
 simp
set_option maxHeartbeats 2000000 in
set_option maxRecDepth 100000 in
theorem mustLog_clo (g3 g4:Nat) (v9 v12:Value) (fs ms:List Int) (x:Int) (w:World) (l1:fs.length≤1048576) (l2:ms.length≤1048576) (h3:w.heap[g3]? =some (.cells #[v9] 25 (0,0))) (h4:w.heap[g4]? =some (.cells #[v12] 25 (0,0))) (r9:Sep.rowI 3 w v9 fs) (r12:Sep.rowI 3 w v12 ms):
  Calls Tryz.prog 64 (#[.int .i64 x]++ #[.pointer (some ⟨g3,0,none⟩),.pointer (some ⟨g4,0,none⟩)]) w fun e w'=>e= .returned (.bool (!decide (x∈fs)&&decide (x∈ms)))∧Drawn0 w w':=by
 obtain⟨A9,c9,rfl,lc9,kc9⟩:=r9.open_
 obtain⟨A12,c12,rfl,lc12,kc12⟩:=r12.open_
 have hc3:=Sep.blk1 h3
 have hc4:=Sep.blk1 h4
 have K9:=Za kc9
 have K12:=Za kc12
 have C9:=Za lc9
 have C12:=Za lc12
 have e1:=hasVar_some fs l1 x
 have e2:=hasVar_some ms l2 x
 generalize decide (x∈fs)=b1 at e1 ⊢
 generalize decide (x∈ms)=b2 at e2 ⊢
 have T1:=Za e1
 have T2:=Za e2
 clear h3 h4 r9 r12 kc9 kc12 lc9 lc12 e1 e2 l1 l2
 cases b1
 ·go_enter Tryz.func64,Tryz.ntmps64
  go_wp2_with (first|(go_at_call 33;refine(impl_HasVar.calls _ _ _ fs x false _ K9.out C9.out T1.out).mono ?_;rintro e w' ⟨rfl,⟨nd,rfl⟩⟩)|(go_at_call 33;refine(impl_HasVar.calls _ _ _ ms x b2 _ ?sd C12.out T2.out).mono ?_;(case sd=>repeat(first|exact K12.out|apply Ye));rintro e w' ⟨rfl,⟨nd2,rfl⟩⟩)|fail)
  go_ret
  exact⟨by cases b2<;>rfl,by repeat(first|exact Zz _|apply Ya)⟩
 ·go_enter Tryz.func64,Tryz.ntmps64
  go_wp2_with (go_at_call 33;refine(impl_HasVar.calls _ _ _ fs x true _ K9.out C9.out T1.out).mono ?_;rintro e w' ⟨rfl,⟨nd,rfl⟩⟩)
  go_ret
  exact⟨rfl,by repeat(first|exact Zz _|apply Ya)⟩
def impl_MustLog.T3:Bool×List (List Nat×List Nat):=(true,[([],[]),([0],[0]),([],[]),([2],[2]),([3,1],[3]),([],[]),([],[]),([5,1,4,0,1,5,6],[1,5]),([6,4,7,0,1,2,3,4,5,6,7],[4,6])])
def impl_MustLog.B3:List Nat:=[0,1,0,4,15,0,0,127,255]
theorem impl_MustLog.tab3:rtab .any (opsOf Tryz.f29 3)=impl_MustLog.T3:=by kernel_rfl
theorem impl_MustLog.bits3:waitsOk impl_MustLog.T3.2 impl_MustLog.B3=true:=by kernel_rfl
def impl_MustLog.f (k:Nat) (l0:List S77) (a1 a2 a3:Int):Option (List Int):=(impl_taskOk.f k l0 a1 a2 a3).bind fun b=>if b=true then (impl_MayReadFirst.f k l0 a1 a2 a3).bind fun fs=>(impl_MustWrite.f k l0).bind fun ms=>(impl_MayWrite.f k l0).bind fun ws=>if fs.length≤1048576∧ms.length≤1048576 then some (ws.filter fun x=> !(!decide (x∈fs)&&decide (x∈ms))) else none else some []
set_option maxHeartbeats 8000000 in
set_option maxRecDepth 100000 in
theorem impl_MustLog.calls (k:Nat) (A0:Option Addr) (c0:Nat) (l0:List S77) (a1 a2 a3:Int) (r:List Int) (w:World) (hr0:Kd.C k77 w A0 l0.length l0) (hc0:l0.length≤c0) (h:impl_MustLog.f k l0 a1 a2 a3=some r):
  Calls Tryz.prog 29 #[.agg #[.slice A0 l0.length c0,.int .i64 a1,.int .i64 a2,.int .i64 a3]] w fun e w'=>∃v0_:Value,e= .returned (v0_)∧Kd.R (Kd.int .i64) 3 w' w.heap.size (fun _=>True) v0_ r∧Below w.heap.size w w':=by
 unfold impl_MustLog.f at h
 obtain⟨b,hb,h⟩:=Zl h
 have HR0:=Za hr0
 have HC0:=Za hc0
 have TB:=Za hb
 clear hr0 hc0 hb
 cases b with
 |false=>
  rw[if_neg (by decide)] at h
  cases h
  go_enter Tryz.func29,Tryz.ntmps29
  go_wp2_with (first|((with_reducible refine Zr (N:=1) rfl ?_);refine Zs ?hg (N:=1) ?hd (cs:= #[.slice A0 l0.length c0,.int .i64 a1,.int .i64 a2,.int .i64 a3]) (t:=55) ?hr ?_;(case hd=>rfl);(case hg=>rfl);(case hr=>exact z16_5);intro g1 hg1 w1 hp hb;have B1:=Za hp;have HB1:=Za hb;clear hg1 hp hb;obtain⟨⟨_,_,_,_⟩,⟨_,_,_,_⟩⟩:=Sep.blk4 B1.out)|(go_at_call 61;(with_reducible refine(impl_taskOk.calls k _ _ l0 a1 a2 a3 false _ ?sd1 HC0.out TB.out).mono ?_);(case sd1=>exact Yj HR0.out HB1.out);rintro e w2 ⟨rfl,hb2⟩;have B2:=Za (Zk B1.out hb2);have HB2:=Za (Zi HB1.out hb2);clear hb2;obtain⟨⟨_,_,_,_⟩,⟨_,_,_,_⟩⟩:=Sep.blk4 B2.out)|fail)
  go_ret
  exact⟨_,rfl,Kd.R_nil _ _ _ _ _,HB2.out⟩
 |true=>
  rw[if_pos rfl] at h
  obtain⟨fs,hf,h⟩:=Zl h
  obtain⟨ms,hm,h⟩:=Zl h
  obtain⟨ws,hw,h⟩:=Zl h
  by_cases hl:fs.length≤1048576∧ms.length≤1048576
  ·rw[if_pos hl] at h
   cases h
   have TF:=Za hf
   have TM:=Za hm
   have TW:=Za hw
   have HL:=Za hl
   clear hf hm hw hl
   go_enter Tryz.func29,Tryz.ntmps29
   go_wp2_with (first|((with_reducible refine Zr (N:=1) rfl ?_);refine Zs ?hg (N:=1) ?hd (cs:= #[.slice A0 l0.length c0,.int .i64 a1,.int .i64 a2,.int .i64 a3]) (t:=55) ?hr ?_;(case hd=>rfl);(case hg=>rfl);(case hr=>exact z16_5);intro g1 hg1 w1 hp hb;have B1:=Za hp;have HB1:=Za hb;clear hg1 hp hb;obtain⟨⟨_,_,_,_⟩,⟨_,_,_,_⟩⟩:=Sep.blk4 B1.out)|(go_at_call 61;(with_reducible refine(impl_taskOk.calls k _ _ l0 a1 a2 a3 true _ ?sd1 HC0.out TB.out).mono ?_);(case sd1=>exact Yj HR0.out HB1.out);rintro e w2 ⟨rfl,hb2⟩;have B2:=Za (Zk B1.out hb2);have HB2:=Za (Zi HB1.out hb2);clear hb2;obtain⟨⟨_,_,_,_⟩,⟨_,_,_,_⟩⟩:=Sep.blk4 B2.out)|fail)
   have HR2:=Za (Yj HR0.out HB2.out)
   refine start_ (n:=9) (S:=fun w'=>True) (ds:=[]) #[false,false,false,false,false,false,false,false,false] z16_9 rfl rfl trivial (fun hHeld=> ?_)
   refine with_tabW impl_MustLog.tab3 impl_MustLog.bits3 (fun HT_ HW_=> ?_)
   refine pure_ (i:=2) (N:=some 10) (v:= ?_) (a':= ?_) #[false,false,true,false,false,false,false,false,false] rfl rfl z16_9 (fun _ _ _ h=>h) (Or.inl ⟨by rfl,?_⟩) ?_ ?_
   rotate_left
   ·intro w'
    go_simp
    with_reducible rfl
   rotate_left
   ·simp only[Act.put,Zu,Zv,Zw,i64_w,i32_w]
    rfl
   refine inv_at [0,1,3,4,5,6,7,8] (fun a0_ b a w'=>∃(v9:Value) (v12:Value) (g3:Nat) (g4:Nat) (m5_:Value) (m6_:Value),a=putSel a0_ b [(0,8,.agg #[.slice A0 l0.length c0,.int .i64 a1,.int .i64 a2,.int .i64 a3]),(1,9,v9),(3,11,.slice A0 l0.length c0),(4,12,v12),(5,3,m5_),(6,4,m6_)]∧(Below w2.heap.size w2 w')∧(b 1=true→Sep.rowI 3 w' v9 fs)∧(b 4=true→Sep.rowI 3 w' v12 ms)∧(b 5=true→w2.heap.size≤g3)∧(b 6=true→w2.heap.size≤g4)∧(b 5=true→g3<w'.heap.size)∧(b 6=true→g4<w'.heap.size)∧(b 5=true→b 6=true→g3≠g4)∧(b 5=true→b 7=false→w'.heap[g3]? =some (.cells #[.slice none 0 0] 25 (0,0)))∧(b 6=true→b 8=false→w'.heap[g4]? =some (.cells #[.slice none 0 0] 25 (0,0)))∧(b 7=true→w'.heap[g3]? =some (.cells #[v9] 25 (0,0)))∧(b 8=true→w'.heap[g4]? =some (.cells #[v12] 25 (0,0)))∧(b 5=true→(m5_:Value)= .pointer (some ⟨g3,0,none⟩))∧(b 6=true→(m6_:Value)= .pointer (some ⟨g4,0,none⟩))) HT_.out HW_.out z16_9 z16_9 ?_ ?_ ?_
   ·exact⟨.bool false,.bool false,0,0,.bool false,.bool false,by simp only[putSel,Bool.false_eq_true,if_false],(Zi (Yc _ _) (by repeat(first|exact Yc _ _|apply Zd))),fun h_=>absurd h_ (by decide),fun h_=>absurd h_ (by decide),fun h_=>absurd h_ (by decide),fun h_=>absurd h_ (by decide),fun h_=>absurd h_ (by decide),fun h_=>absurd h_ (by decide),fun h_=>absurd h_ (by decide),fun h_=>absurd h_ (by decide),fun h_=>absurd h_ (by decide),fun h_=>absurd h_ (by decide),fun h_=>absurd h_ (by decide),fun h_=>absurd h_ (by decide),fun h_=>absurd h_ (by decide)⟩
   ·skip
    refine steps_cons ?_ ?_
    ·rintro b a w' ⟨v9,v12,g3,g4,m5_,m6_,ha,Q_KB,Q_R9,Q_R12,Q_G3,Q_G4,Q_L3,Q_L4,Q_NE,Q_B3,Q_B4,Q_S3,Q_S4,Q_X5_,Q_X6_⟩ hb_ hon hoff
     refine⟨_,rfl,fun K hK=> ?_⟩
     have e1:a.tmps[1]? =some (.pointer (some ⟨g1,0,none⟩)):=by rw[ha];exact(putSel_off rfl).trans rfl
     replace ha:=Za ha
     have KB:=Za Q_KB
     have hB_:=Sep.blk4 (Zk B2.out KB.out)
     obtain⟨⟨_,_,_,_⟩,-⟩:=hB_
     refine value_ (w1:=w') (v:= .agg #[.slice A0 l0.length c0,.int .i64 a1,.int .i64 a2,.int .i64 a3]) (by rfl) rfl ?_ ?_
     ·go_simp
      (try simp only[i64_w])
      try rfl
     refine hK.out _ _ ⟨v9,v12,g3,g4,m5_,m6_,(by rw[ha.out];exact putSel_upk 0 hb_ rfl rfl rfl),Q_KB,fun h0_=>absurd ((hoff 1 z16_9).symm.trans h0_) (by decide),fun h0_=>absurd ((hoff 4 z16_9).symm.trans h0_) (by decide),Q_G3,Q_G4,Q_L3,Q_L4,Q_NE,Q_B3,Q_B4,fun h0_=>absurd ((hoff 7 z16_9).symm.trans h0_) (by decide),fun h0_=>absurd ((hoff 8 z16_9).symm.trans h0_) (by decide),Q_X5_,Q_X6_⟩
    refine steps_cons ?_ ?_
    ·rintro b a w' ⟨v9,v12,g3,g4,m5_,m6_,ha,Q_KB,Q_R9,Q_R12,Q_G3,Q_G4,Q_L3,Q_L4,Q_NE,Q_B3,Q_B4,Q_S3,Q_S4,Q_X5_,Q_X6_⟩ hb_ hon hoff
     refine⟨_,rfl,fun K hK=> ?_⟩
     have e8:a.tmps[8]? =some (.agg #[.slice A0 l0.length c0,.int .i64 a1,.int .i64 a2,.int .i64 a3]):=by rw[ha];exact putSel_on (e:=(0,8,.agg #[.slice A0 l0.length c0,.int .i64 a1,.int .i64 a2,.int .i64 a3])) 0 rfl rfl (hon 0 z16_9) rfl
     replace ha:=Za ha
     have KB:=Za Q_KB
     refine goes_ Tryz.func62 z16_9 rfl #[.agg #[.slice A0 l0.length c0,.int .i64 a1,.int .i64 a2,.int .i64 a3]] (by rfl) rfl rfl (by first|(simp only[Ys,Yt,List.map_nil,Act.eval,Array.getD_eq_getD_getElem?,Option.getD_some,e8];done)|(simp only[Ys,Yt,List.map_nil,Act.eval,Array.getD_eq_getD_getElem?,Option.getD_some,e8];rfl)) ?_
     refine(impl_MayReadFirst.calls k _ _ l0 a1 a2 a3 fs _ (Yj HR2.out KB.out) HC0.out TF.out).mono ?_
     rintro e w1_ ⟨v_,rfl,ho,hb⟩
     refine⟨_,rfl,?_⟩
     refine hK.out _ _ ⟨v_,v12,g3,g4,m5_,m6_,(by rw[ha.out];exact putSel_upk 1 hb_ rfl rfl rfl),Zi KB.out hb,fun _=>Sep.rowI.of_R ho,fun h0_=>absurd ((hoff 4 z16_9).symm.trans h0_) (by decide),Q_G3,Q_G4,fun h0_=>(Nat.lt_of_lt_of_le (Q_L3 h0_) hb.size),fun h0_=>(Nat.lt_of_lt_of_le (Q_L4 h0_) hb.size),Q_NE,fun h0_ h1_=>Zk (Q_B3 h0_ h1_) hb,fun h0_ h1_=>Zk (Q_B4 h0_ h1_) hb,fun h0_=>absurd ((hoff 7 z16_9).symm.trans h0_) (by decide),fun h0_=>absurd ((hoff 8 z16_9).symm.trans h0_) (by decide),Q_X5_,Q_X6_⟩
    refine steps_cons ?_ ?_
    ·rintro b a w' ⟨v9,v12,g3,g4,m5_,m6_,ha,Q_KB,Q_R9,Q_R12,Q_G3,Q_G4,Q_L3,Q_L4,Q_NE,Q_B3,Q_B4,Q_S3,Q_S4,Q_X5_,Q_X6_⟩ hb_ hon hoff
     refine⟨_,rfl,fun K hK=> ?_⟩
     have e10:a.tmps[10]? =some (.pointer (some ⟨g1,0,none⟩)):=by rw[ha];exact(putSel_off rfl).trans rfl
     replace ha:=Za ha
     have KB:=Za Q_KB
     have hB_:w'.cell? ⟨g1,0,none⟩=some (.slice A0 l0.length c0):=(Zb (Zk B2.out KB.out) 0).trans rfl
     refine value_ (w1:=w') (v:= .slice A0 l0.length c0) (by rfl) rfl ?_ ?_
     ·go_simp
      (try simp only[i64_w])
      try rfl
     refine hK.out _ _ ⟨v9,v12,g3,g4,m5_,m6_,(by rw[ha.out];exact putSel_upk 2 hb_ rfl rfl rfl),Q_KB,Q_R9,fun h0_=>absurd ((hoff 4 z16_9).symm.trans h0_) (by decide),Q_G3,Q_G4,Q_L3,Q_L4,Q_NE,Q_B3,Q_B4,fun h0_=>absurd ((hoff 7 z16_9).symm.trans h0_) (by decide),fun h0_=>absurd ((hoff 8 z16_9).symm.trans h0_) (by decide),Q_X5_,Q_X6_⟩
    refine steps_cons ?_ ?_
    ·rintro b a w' ⟨v9,v12,g3,g4,m5_,m6_,ha,Q_KB,Q_R9,Q_R12,Q_G3,Q_G4,Q_L3,Q_L4,Q_NE,Q_B3,Q_B4,Q_S3,Q_S4,Q_X5_,Q_X6_⟩ hb_ hon hoff
     refine⟨_,rfl,fun K hK=> ?_⟩
     have e11:a.tmps[11]? =some (.slice A0 l0.length c0):=by rw[ha];exact putSel_on (e:=(3,11,.slice A0 l0.length c0)) 2 rfl rfl (hon 3 z16_9) rfl
     replace ha:=Za ha
     have KB:=Za Q_KB
     have R9:=Za (Q_R9 (hon 1 z16_9))
     refine goes_ Tryz.func63 z16_9 rfl #[.slice A0 l0.length c0] (by rfl) rfl rfl (by first|(simp only[Ys,Yt,List.map_nil,Act.eval,Array.getD_eq_getD_getElem?,Option.getD_some,e11];done)|(simp only[Ys,Yt,List.map_nil,Act.eval,Array.getD_eq_getD_getElem?,Option.getD_some,e11];rfl)) ?_
     refine(impl_MustWrite.calls k _ _ l0 ms _ (Yj HR2.out KB.out) HC0.out TM.out).mono ?_
     rintro e w1_ ⟨v_,rfl,ho,hb⟩
     refine⟨_,rfl,?_⟩
     refine hK.out _ _ ⟨v9,v_,g3,g4,m5_,m6_,(by rw[ha.out];exact putSel_upk 3 hb_ rfl rfl rfl),Zi KB.out hb,fun _=>R9.out.below hb,fun _=>Sep.rowI.of_R ho,Q_G3,Q_G4,fun h0_=>(Nat.lt_of_lt_of_le (Q_L3 h0_) hb.size),fun h0_=>(Nat.lt_of_lt_of_le (Q_L4 h0_) hb.size),Q_NE,fun h0_ h1_=>Zk (Q_B3 h0_ h1_) hb,fun h0_ h1_=>Zk (Q_B4 h0_ h1_) hb,fun h0_=>absurd ((hoff 7 z16_9).symm.trans h0_) (by decide),fun h0_=>absurd ((hoff 8 z16_9).symm.trans h0_) (by decide),Q_X5_,Q_X6_⟩
    refine steps_cons ?_ ?_
    ·rintro b a w' ⟨v9,v12,g3,g4,m5_,m6_,ha,Q_KB,Q_R9,Q_R12,Q_G3,Q_G4,Q_L3,Q_L4,Q_NE,Q_B3,Q_B4,Q_S3,Q_S4,Q_X5_,Q_X6_⟩ hb_ hon hoff
     refine⟨_,rfl,fun K hK=> ?_⟩
     replace ha:=Za ha
     have KB:=Za Q_KB
     refine box_step (by rfl) (N:=3) rfl (cs:= #[.slice none 0 0]) (t:=25) ?_ ?_
     ·first|(go_simp;done)|(go_simp;rfl)
     intro g_ hg_ w1_ hblk hb
     have z_L4:=fun (h_:up b 5 6=true)=>(show g4<w'.heap.size from Q_L4 h_)
     have hgs_:g_=w'.heap.size:=hg_
     refine hK.out _ _ ⟨v9,v12,g_,g4,(.pointer (some ⟨g_,0,none⟩)),m6_,(by rw[ha.out];exact putSel_upk 4 hb_ rfl rfl rfl),Zi KB.out hb,fun h0_=>(Q_R9 h0_).below hb,fun h0_=>(Q_R12 h0_).below hb,fun _=>(hg_ ▸ KB.out.size),Q_G4,fun _=>(blk_lt hblk),fun h0_=>(Nat.lt_of_lt_of_le (Q_L4 h0_) hb.size),fun _ _=>(fun e_=>by have:=z_L4 (by assumption);omega),fun _ _=>hblk,fun h0_ h1_=>Zk (Q_B4 h0_ h1_) hb,fun h0_=>absurd ((hoff 7 z16_9).symm.trans h0_) (by decide),fun h0_=>absurd ((hoff 8 z16_9).symm.trans h0_) (by decide),fun _=>rfl,Q_X6_⟩
    refine steps_cons ?_ ?_
    ·rintro b a w' ⟨v9,v12,g3,g4,m5_,m6_,ha,Q_KB,Q_R9,Q_R12,Q_G3,Q_G4,Q_L3,Q_L4,Q_NE,Q_B3,Q_B4,Q_S3,Q_S4,Q_X5_,Q_X6_⟩ hb_ hon hoff
     refine⟨_,rfl,fun K hK=> ?_⟩
     replace ha:=Za ha
     have KB:=Za Q_KB
     refine box_step (by rfl) (N:=4) rfl (cs:= #[.slice none 0 0]) (t:=25) ?_ ?_
     ·first|(go_simp;done)|(go_simp;rfl)
     intro g_ hg_ w1_ hblk hb
     have z_L3:=fun (h_:up b 6 5=true)=>(show g3<w'.heap.size from Q_L3 h_)
     have hgs_:g_=w'.heap.size:=hg_
     refine hK.out _ _ ⟨v9,v12,g3,g_,m5_,(.pointer (some ⟨g_,0,none⟩)),(by rw[ha.out];exact putSel_upk 5 hb_ rfl rfl rfl),Zi KB.out hb,fun h0_=>(Q_R9 h0_).below hb,fun h0_=>(Q_R12 h0_).below hb,Q_G3,fun _=>(hg_ ▸ KB.out.size),fun h0_=>(Nat.lt_of_lt_of_le (Q_L3 h0_) hb.size),fun _=>(blk_lt hblk),fun _ _=>(fun e_=>by have:=z_L3 (by assumption);omega),fun h0_ h1_=>Zk (Q_B3 h0_ h1_) hb,fun _ _=>hblk,fun h0_=>absurd ((hoff 7 z16_9).symm.trans h0_) (by decide),fun h0_=>absurd ((hoff 8 z16_9).symm.trans h0_) (by decide),Q_X5_,fun _=>rfl⟩
    refine steps_cons ?_ ?_
    ·rintro b a w' ⟨v9,v12,g3,g4,m5_,m6_,ha,Q_KB,Q_R9,Q_R12,Q_G3,Q_G4,Q_L3,Q_L4,Q_NE,Q_B3,Q_B4,Q_S3,Q_S4,Q_X5_,Q_X6_⟩ hb_ hon hoff
     refine⟨_,rfl,fun K hK=> ?_⟩
     have e3:a.tmps[3]? =some (m5_):=by rw[ha];exact putSel_on (e:=(5,3,m5_)) 4 rfl rfl (hon 5 z16_9) rfl
     rw[Q_X5_ (hon 5 z16_9)] at e3
     have e9:a.tmps[9]? =some (v9):=by rw[ha];exact putSel_on (e:=(1,9,v9)) 1 rfl rfl (hon 1 z16_9) rfl
     replace ha:=Za ha
     have KB:=Za Q_KB
     have R9:=Za (Q_R9 (hon 1 z16_9))
     have R12:=Za (Q_R12 (hon 4 z16_9))
     have G3:=Za (Q_G3 (hon 5 z16_9))
     have G4:=Za (Q_G4 (hon 6 z16_9))
     have L3:=Za (Q_L3 (hon 5 z16_9))
     have L4:=Za (Q_L4 (hon 6 z16_9))
     have NE:=Za (Q_NE (hon 5 z16_9) (hon 6 z16_9))
     have B3:=Za (Q_B3 (hon 5 z16_9) hb_)
     have B4:=Za (Q_B4 (hon 6 z16_9) (hoff 8 z16_9))
     obtain⟨Aq_,cq_,Eq_,lq_,kq_⟩:=R9.out.open_
     rw[Eq_] at e9
     have hcb_:=Sep.blk1 B3.out
     have hfb_:=Zc B3.out 0
     refine skip_ (w1:=w'.setCell ⟨g3,0,none⟩ (.slice Aq_ fs.length cq_)) (by rfl) rfl ?_ ?_
     ·first|(go_simp;done)|(go_simp;rfl)
     refine hK.out _ _ ⟨v9,v12,g3,g4,m5_,m6_,(by rw[ha.out];exact putSel_none (v:=undef) rfl),Zg KB.out G3.out,fun _=>R9.out.keep (fun q_ hq_=>Below.heap_setCell _ _ _ q_ (R9.out.ne B3.out (by decide) q_ hq_)),fun _=>R12.out.keep (fun q_ hq_=>Below.heap_setCell _ _ _ q_ (R12.out.ne B3.out (by decide) q_ hq_)),Q_G3,Q_G4,fun _=>(by have:=L3.out;simpa [World.setCell] using this),fun _=>(by have:=L4.out;simpa [World.setCell] using this),Q_NE,fun _ h1_=>absurd ((up_self b 7).symm.trans h1_) (by decide),fun _ _=>(Below.heap_setCell w' ⟨g3,0,none⟩ _ g4 (fun e_=>NE.out e_.symm)).trans B4.out,fun _=>(by rw[Eq_];exact blk_put B3.out 0 _ rfl),fun h0_=>absurd ((hoff 8 z16_9).symm.trans h0_) (by decide),Q_X5_,Q_X6_⟩
    refine steps_cons ?_ ?_
    ·rintro b a w' ⟨v9,v12,g3,g4,m5_,m6_,ha,Q_KB,Q_R9,Q_R12,Q_G3,Q_G4,Q_L3,Q_L4,Q_NE,Q_B3,Q_B4,Q_S3,Q_S4,Q_X5_,Q_X6_⟩ hb_ hon hoff
     refine⟨_,rfl,fun K hK=> ?_⟩
     have e4:a.tmps[4]? =some (m6_):=by rw[ha];exact putSel_on (e:=(6,4,m6_)) 5 rfl rfl (hon 6 z16_9) rfl
     rw[Q_X6_ (hon 6 z16_9)] at e4
     have e12:a.tmps[12]? =some (v12):=by rw[ha];exact putSel_on (e:=(4,12,v12)) 3 rfl rfl (hon 4 z16_9) rfl
     replace ha:=Za ha
     have KB:=Za Q_KB
     have R9:=Za (Q_R9 (hon 1 z16_9))
     have R12:=Za (Q_R12 (hon 4 z16_9))
     have G3:=Za (Q_G3 (hon 5 z16_9))
     have G4:=Za (Q_G4 (hon 6 z16_9))
     have L3:=Za (Q_L3 (hon 5 z16_9))
     have L4:=Za (Q_L4 (hon 6 z16_9))
     have NE:=Za (Q_NE (hon 5 z16_9) (hon 6 z16_9))
     have B4:=Za (Q_B4 (hon 6 z16_9) hb_)
     have S3:=Za (Q_S3 (hon 7 z16_9))
     obtain⟨Aq_,cq_,Eq_,lq_,kq_⟩:=R12.out.open_
     rw[Eq_] at e12
     have hcb_:=Sep.blk1 B4.out
     have hfb_:=Zc B4.out 0
     refine skip_ (w1:=w'.setCell ⟨g4,0,none⟩ (.slice Aq_ ms.length cq_)) (by rfl) rfl ?_ ?_
     ·first|(go_simp;done)|(go_simp;rfl)
     refine hK.out _ _ ⟨v9,v12,g3,g4,m5_,m6_,(by rw[ha.out];exact putSel_none (v:=undef) rfl),Zg KB.out G4.out,fun _=>R9.out.keep (fun q_ hq_=>Below.heap_setCell _ _ _ q_ (R9.out.ne B4.out (by decide) q_ hq_)),fun _=>R12.out.keep (fun q_ hq_=>Below.heap_setCell _ _ _ q_ (R12.out.ne B4.out (by decide) q_ hq_)),Q_G3,Q_G4,fun _=>(by have:=L3.out;simpa [World.setCell] using this),fun _=>(by have:=L4.out;simpa [World.setCell] using this),Q_NE,fun _ h1_=>absurd ((hon 7 z16_9).symm.trans h1_) (by decide),fun _ h1_=>absurd ((up_self b 8).symm.trans h1_) (by decide),fun _=>(Below.heap_setCell w' ⟨g4,0,none⟩ _ g3 NE.out).trans S3.out,fun _=>(by rw[Eq_];exact blk_put B4.out 0 _ rfl),Q_X5_,Q_X6_⟩
    exact steps_nil
   rintro b a w6 hall ⟨v9,v12,g3,g4,m5_,m6_,ha,Q_KB,Q_R9,Q_R12,Q_G3,Q_G4,Q_L3,Q_L4,Q_NE,Q_B3,Q_B4,Q_S3,Q_S4,Q_X5_,Q_X6_⟩
   have hb0_:=hall 0 z16_9
   have hb1_:=hall 1 z16_9
   have hb3_:=hall 3 z16_9
   have hb4_:=hall 4 z16_9
   have hb5_:=hall 5 z16_9
   have hb6_:=hall 6 z16_9
   have hb7_:=hall 7 z16_9
   have hb8_:=hall 8 z16_9
   subst ha
   obtain rfl:=Q_X5_ hb5_
   obtain rfl:=Q_X6_ hb6_
   simp only[putSel,hb0_,hb1_,hb3_,hb4_,hb5_,hb6_,hb7_,hb8_,if_true,Act.put,Zu,Zv,Zw]
   have KB:=Za Q_KB
   clear Q_KB
   have R9:=Za (Q_R9 hb1_)
   clear Q_R9
   have R12:=Za (Q_R12 hb4_)
   clear Q_R12
   have G3:=Za (Q_G3 hb5_)
   clear Q_G3
   have G4:=Za (Q_G4 hb6_)
   clear Q_G4
   have L3:=Za (Q_L3 hb5_)
   clear Q_L3
   have L4:=Za (Q_L4 hb6_)
   clear Q_L4
   have NE:=Za (Q_NE hb5_ hb6_)
   clear Q_NE
   clear Q_B3
   clear Q_B4
   have S3:=Za (Q_S3 hb7_)
   clear Q_S3
   have S4:=Za (Q_S4 hb8_)
   clear Q_S4
   clear hall hb0_ hb1_ hb3_ hb4_ hb5_ hb6_ hb7_ hb8_
   have HB6:=Za (Zi HB2.out KB.out)
   have HR6:=Za (Yj HR2.out KB.out)
   have B6:=Za (Zk B2.out KB.out)
   obtain⟨⟨_,_,_,_⟩,⟨_,_,_,_⟩⟩:=Sep.blk4 B6.out
   clear HT_ HW_ KB
   go_wp2_with (first|(go_at_call 31;(with_reducible refine(impl_MayWrite.calls k _ _ l0 ws _ (Yj HR6.out (by repeat(first|exact Yc _ _|apply Ze))) HC0.out TW.out).mono ?_);rintro e w7 ⟨v7,rfl,ho,hb⟩;have R7:=Za (Sep.rowI.of_R ho);have V7:Aside0 (∀q,v7.ownBlock=some q→w6.heap.size≤q):=⟨fun q hq=>Yo ho q hq⟩;have SA7:=Za (Zk S3.out hb);have SB7:=Za (Zk S4.out hb);have R97:=Za (R9.out.below hb);have R127:=Za (R12.out.below hb);have HB7:=Za (Zi HB6.out hb);clear ho hb)|(go_at_call 30;(with_reducible refine(delete_calls (fun x=> !decide (x∈fs)&&decide (x∈ms)) 64 #[.pointer (some ⟨g3,0,none⟩),.pointer (some ⟨g4,0,none⟩)] (fun args w=>enters_ Tryz.func64 z16_9 z16_9 args w) v7 ws _ R7.out ?sdq).mono ?_);(case sdq=>exact fun x w' hk=>mustLog_clo g3 g4 v9 v12 fs ms x w' HL.out.1 HL.out.2 ((hk g3 (blk_lt SA7.out) (fun e=>by have:=V7.out g3 e;have:=blk_lt S3.out;omega)).trans SA7.out) ((hk g4 (blk_lt SB7.out) (fun e=>by have:=V7.out g4 e;have:=blk_lt S4.out;omega)).trans SB7.out) (R97.out.keep (fun q hq=>hk q (R97.out.lt q hq) (fun e=>by have:=V7.out q e;have:=R9.out.lt q hq;omega))) (R127.out.keep (fun q hq=>hk q (R127.out.lt q hq) (fun e=>by have:=V7.out q e;have:=R12.out.lt q hq;omega))));rintro e w8 ⟨v8,rfl,hr8,he8,hg8⟩;have R8:=Za hr8;have E8:=Za he8;have V8:Aside0 (∀q,v7.ownBlock=some q→w.heap.size≤q):=⟨fun q hq=>Nat.le_trans HB6.out.size (V7.out q hq)⟩;have HB8:=Za (below_grown HB7.out hg8 V8.out);clear hr8 he8 hg8)|fail)
   go_ret
   exact⟨_,rfl,R8.out.to_R (fun q hq=>V8.out q (E8.out ▸ hq)) (fun _ _=>trivial),HB8.out⟩
  ·rw[if_neg hl] at h
   cases h
-- NOT PRINTED: function 32 (impl_DirtyVars_1)
set_option maxHeartbeats 2000000 in
set_option maxRecDepth 100000 in
theorem dirty_clo (g6:Nat) (v15:Value) (ms:List Int) (x:Int) (w:World) (l1:ms.length≤1048576) (h6:w.heap[g6]? =some (.cells #[v15] 25 (0,0))) (r15:Sep.rowI 3 w v15 ms):
  Calls Tryz.prog 32 (#[.int .i64 x]++ #[.pointer (some ⟨g6,0,none⟩)]) w fun e w'=>e= .returned (.bool (decide (x∈ms)))∧Drawn0 w w':=by
 obtain⟨A15,c15,rfl,lc15,kc15⟩:=r15.open_
 have hc6:=Sep.blk1 h6
 have K15:=Za kc15
 have C15:=Za lc15
 have e2:=hasVar_some ms l1 x
 generalize decide (x∈ms)=b2 at e2 ⊢
 have T2:=Za e2
 clear h6 r15 kc15 lc15 e2 l1
 go_enter Tryz.func32,Tryz.ntmps32
 go_wp2_with (first|(go_at_call 33;refine(impl_HasVar.calls _ _ _ ms x b2 _ K15.out C15.out T2.out).mono ?_;rintro e w' ⟨rfl,⟨nd,rfl⟩⟩)|fail)
 go_ret
 exact⟨rfl,by repeat(first|exact Zz _|apply Ya)⟩
def impl_DirtyVars.f (k:Nat) (l0:List S55) (l1:List Int):Option (List Int):=(impl_MemOk.f k l0 l1).bind fun b=>if b=true then (impl_currentTask.f l0 l1).bind fun t=>(impl_MustLog.f k t.1 t.2.1 t.2.2.1 t.2.2.2).bind fun ms=>(impl_MayWrite.f k t.1).bind fun ws=>if ms.length≤1048576 then some (ws.filter fun x=> !decide (x∈ms)) else none else some []
set_option maxHeartbeats 8000000 in
set_option maxRecDepth 100000 in
theorem impl_DirtyVars.calls (k:Nat) (A0:Option Addr) (c0:Nat) (l0:List S55) (A1:Option Addr) (c1:Nat) (l1:List Int) (r:List Int) (w:World) (hr0:Kd.C k55 w A0 l0.length l0) (hc0:l0.length≤c0) (hr1:Kd.C (Kd.int .i64) w A1 l1.length l1) (hc1:l1.length≤c1) (h:impl_DirtyVars.f k l0 l1=some r):
  Calls Tryz.prog 9 #[.agg #[.slice A0 l0.length c0],.slice A1 l1.length c1] w fun e w'=>∃v0_:Value,e= .returned (v0_)∧Kd.R (Kd.int .i64) 3 w' w.heap.size (fun _=>True) v0_ r∧Below w.heap.size w w':=by
 unfold impl_DirtyVars.f at h
 obtain⟨b,hb,h⟩:=Zl h
 have HR0:=Za hr0
 have HC0:=Za hc0
 have HR1:=Za hr1
 have HC1:=Za hc1
 have TB:=Za hb
 clear hr0 hc0 hr1 hc1 hb
 cases b with
 |false=>
  rw[if_neg (by decide)] at h
  cases h
  go_enter Tryz.func9,Tryz.ntmps9
  go_wp2_with (first|((with_reducible refine Zr (N:=2) rfl ?_);refine Zs ?hg (N:=2) ?hd (cs:= #[.slice A0 l0.length c0]) (t:=30) ?hr ?_;(case hd=>rfl);(case hg=>rfl);(case hr=>exact z16_5);intro gp hgp w1 hp hb;have BP1:=Za hp;have HB1:=Za hb;clear hgp hp hb;have hP1:w1.cell? ⟨gp,0,none⟩=some (.slice A0 l0.length c0):=(Zb BP1.out 0).trans rfl)|(go_at_call 27;(with_reducible refine(impl_MemOk.calls k _ _ l0 _ _ l1 false _ ?sd1 HC0.out ?sd2 HC1.out TB.out).mono ?_);(case sd1=>exact Yj HR0.out HB1.out);(case sd2=>exact Yj HR1.out HB1.out);rintro e w2 ⟨rfl,hb2⟩;have BP2:=Za (Zk BP1.out hb2);have HB2:=Za (Zi HB1.out hb2);clear hb2;have hP2:w2.cell? ⟨gp,0,none⟩=some (.slice A0 l0.length c0):=(Zb BP2.out 0).trans rfl)|fail)
  go_ret
  exact⟨_,rfl,Kd.R_nil _ _ _ _ _,HB2.out⟩
 |true=>
  rw[if_pos rfl] at h
  obtain⟨⟨r1,r2,r3,r4⟩,ht,h⟩:=Zl h
  obtain⟨ms,hm,h⟩:=Zl h
  obtain⟨ws,hw,h⟩:=Zl h
  by_cases hl:ms.length≤1048576
  ·rw[if_pos hl] at h
   cases h
   have TT:=Za ht
   have TM:=Za hm
   have TW:=Za hw
   have HL:=Za hl
   clear ht hm hw hl
   go_enter Tryz.func9,Tryz.ntmps9
   have HV0:=Za (show ∀w2:World,Below w.heap.size w w2→Kd.V k55 55 w2 w2.heap.size (fun q=>q<w.heap.size) (.slice A0 l0.length c0) l0 from fun w2 hB=>Kd.V_mk HC0.out (fun W' hW=>k55_heap.C (fun q hq=>(hW q hq (Nat.lt_of_lt_of_le hq hB.size)).trans (hB.block q hq)) HR0.out))
   go_wp2_with (first|((with_reducible refine Zr (N:=2) rfl ?_);refine Zs ?hg (N:=2) ?hd (cs:= #[.slice A0 l0.length c0]) (t:=30) ?hr ?_;(case hd=>rfl);(case hg=>rfl);(case hr=>exact z16_5);intro gp hgp w1 hp hb;have BP1:=Za hp;have HB1:=Za hb;clear hgp hp hb;have hP1:w1.cell? ⟨gp,0,none⟩=some (.slice A0 l0.length c0):=(Zb BP1.out 0).trans rfl)|(go_at_call 27;(with_reducible refine(impl_MemOk.calls k _ _ l0 _ _ l1 true _ ?sd1 HC0.out ?sd2 HC1.out TB.out).mono ?_);(case sd1=>exact Yj HR0.out HB1.out);(case sd2=>exact Yj HR1.out HB1.out);rintro e w2 ⟨rfl,hb2⟩;have BP2:=Za (Zk BP1.out hb2);have HB2:=Za (Zi HB1.out hb2);clear hb2;have hP2:w2.cell? ⟨gp,0,none⟩=some (.slice A0 l0.length c0):=(Zb BP2.out 0).trans rfl)|(go_at_call 28;(with_reducible refine(impl_currentTask.calls (fun q=>q<w.heap.size) _ _ l0 _ _ l1 r1 r2 r3 r4 _ (HV0.out _ HB2.out) (Yj HR1.out HB2.out) HC1.out TT.out).mono ?_);rintro e w3 ⟨v9,rfl,ho,hb⟩;obtain⟨A9,c9,rfl,lc9,hf9⟩:=ho;have LC9:=Za lc9;have F3:=Za (Kd.F_bound hf9);have HB3:=Za (Zi HB2.out hb);clear lc9 hf9 hb)|((with_reducible refine Zr (N:=5) rfl ?_);refine Zs ?hg (N:=5) ?hd (cs:= #[.slice none 0 0,.int .i64 0,.int .i64 0,.int .i64 0]) (t:=55) ?hr ?_;(case hd=>rfl);(case hg=>rfl);(case hr=>exact z16_5);intro g5 hg5 w4 hp hb;have G5:=Za hg5;have Z4:=Za hp;have B34:=Za hb;have HB4:=Za (Zi HB3.out hb);clear hg5 hp hb;obtain⟨⟨_,_,_,_⟩,⟨_,_,_,_⟩⟩:=Sep.blk4 Z4.out)|((with_reducible refine Ym (t:=55) (p:=5) rfl ?_);refine Yl (t:=55) (p:=5) (v:= ?vo_w5) (w1:=Sep.put4 w4 g5 (.slice A9 r1.length c9) (.int .i64 r2) (.int .i64 r3) (.int .i64 r4)) ?hg ?ho ?hn ?hr ?_;(case ho=>rfl);(case hg=>rfl);(case hn=>rfl);(case hr=>exact z16_5);intro w5 hw;have S5:Aside0 (w5.heap[g5]? =some (.cells #[.slice A9 r1.length c9,.int .i64 r2,.int .i64 r3,.int .i64 r4] 55 (0,0))):=⟨by rw[hw];exact Sep.put4_blk Z4.out _ _ _ _⟩;have HB5:Aside0 (Below w.heap.size w w5):=⟨by rw[hw];exact Sep.put4_below HB4.out (by rw[G5.out];exact HB3.out.size) _ _ _ _⟩;have C5:Aside0 (Kd.C k77 w5 A9 r1.length r1):=⟨Kd.F_now (Kd.F_step F3.out (fun q hq hl=>by rw[hw];exact(Sep.put4_far (by rw[G5.out];omega) _ _ _ _).trans (B34.out.block q hl)))⟩;clear hw;obtain⟨⟨_,_,_,_⟩,⟨_,_,_,_⟩⟩:=Sep.blk4 S5.out)|(go_at_call 29;(with_reducible refine(impl_MustLog.calls k _ _ r1 r2 r3 r4 ms _ C5.out LC9.out TM.out).mono ?_);rintro e w6 ⟨v15,rfl,ho,hb⟩;obtain⟨A15,c15,rfl,lc15,kc15⟩:=(Sep.rowI.of_R ho).open_;have R6:=Za (Sep.rowI.of_R ho);have S6:=Za (Zk S5.out hb);have HB6:=Za (Zi HB5.out hb);have C6:=Za (Yj C5.out hb);clear ho hb lc15 kc15;obtain⟨⟨_,_,_,_⟩,⟨_,_,_,_⟩⟩:=Sep.blk4 S6.out)|((with_reducible refine Zr (N:=6) rfl ?_);refine Zs ?hg (N:=6) ?hd (cs:= #[.slice none 0 0]) (t:=25) ?hr ?_;(case hd=>rfl);(case hg=>rfl);(case hr=>exact z16_5);intro g6 hg6 w7 hp hb;have G6:=Za hg6;have Z7:=Za hp;have B67:=Za hb;have HB7:=Za (Zi HB6.out hb);clear hg6 hp hb;have hz7:=Sep.blk1 Z7.out;have hfz7:=Zc Z7.out 0)|((with_reducible refine Ym (t:=25) (p:=6) rfl ?_);refine Yl (t:=25) (p:=6) (v:= ?vo_w8) (w1:=(w7.setCell ⟨g6,0,none⟩ (.slice A15 ms.length c15))) ?hg ?ho ?hn ?hr ?_;(case ho=>rfl);(case hg=>rfl);(case hn=>rfl);(case hr=>exact z16_5);intro w8 hw;have B68:Aside0 (Below w6.heap.size w6 w8):=⟨by rw[hw];exact Zg B67.out (by rw[G6.out];exact Nat.le_refl _)⟩;have M8:Aside0 (w8.heap[g6]? =some (.cells #[.slice A15 ms.length c15] 25 (0,0))):=⟨by rw[hw];exact blk_put Z7.out 0 _ rfl⟩;have R8:=Za (R6.out.below B68.out);have S8:=Za (Zk S6.out B68.out);have HB8:=Za (Zi HB6.out B68.out);have C8:=Za (Yj C6.out B68.out);clear hw;obtain⟨⟨_,_,_,_⟩,⟨_,_,_,_⟩⟩:=Sep.blk4 S8.out)|(go_at_call 31;(with_reducible refine(impl_MayWrite.calls k _ _ r1 ws _ (Yj C8.out (by repeat(first|exact Yc _ _|apply Ze))) LC9.out TW.out).mono ?_);rintro e w9 ⟨v7,rfl,ho,hb⟩;have R7:=Za (Sep.rowI.of_R ho);have V7:Aside0 (∀q,v7.ownBlock=some q→w8.heap.size≤q):=⟨fun q hq=>Yo ho q hq⟩;have M9:=Za (Zk M8.out hb);have R9:=Za (R8.out.below hb);have HB9:=Za (Zi HB8.out hb);clear ho hb)|(go_at_call 30;(with_reducible refine(delete_calls (fun x=>decide (x∈ms)) 32 #[.pointer (some ⟨g6,0,none⟩)] (fun args w=>enters_ Tryz.func32 z16_9 z16_9 args w) v7 ws _ R7.out ?sdq).mono ?_);(case sdq=>exact fun x w' hk=>dirty_clo g6 _ ms x w' HL.out ((hk g6 (blk_lt M9.out) (fun e=>by have:=V7.out g6 e;have:=blk_lt M8.out;omega)).trans M9.out) (R9.out.keep (fun q hq=>hk q (R9.out.lt q hq) (fun e=>by have:=V7.out q e;have:=R8.out.lt q hq;omega))));rintro e wa ⟨v8,rfl,hr8,he8,hg8⟩;have RA:=Za hr8;have EA:=Za he8;have VA:Aside0 (∀q,v7.ownBlock=some q→w.heap.size≤q):=⟨fun q hq=>Nat.le_trans HB8.out.size (V7.out q hq)⟩;have HBA:=Za (below_grown HB9.out hg8 VA.out);clear hr8 he8 hg8)|fail)
   go_ret
   exact⟨_,rfl,RA.out.to_R (fun q hq=>VA.out q (EA.out ▸ hq)) (fun _ _=>trivial),HBA.out⟩
  ·rw[if_neg hl] at h
   cases h
def laws_eqIntS.l0:Nat→List Int→List Int→Int→Option (Bool)
 |0,_,_,_=>none
 |k+1,x0,x1,x5=>if x5<(x0.length:Int) then (if 0≤x5 then (if x5<(x1.length:Int) then (if (rd x0 x5)=(rd x1 x5) then (laws_eqIntS.l0 k x0 x1 (wrap64 (x5+1))) else (some false)) else (none)) else (none)) else (some true)
def laws_eqIntS.f (k:Nat) (l0:List Int) (l1:List Int):Option (Bool):=if (l0.length:Int)=(l1.length:Int) then (laws_eqIntS.l0 k l0 l1 0) else (some false)
set_option maxHeartbeats 8000000 in
set_option maxRecDepth 100000 in
theorem laws_eqIntS.calls (k:Nat) (A0:Option Addr) (c0:Nat) (l0:List Int) (A1:Option Addr) (c1:Nat) (l1:List Int) (r:Bool) (w:World) (hr0:Kd.C (Kd.int .i64) w A0 l0.length l0) (hc0:l0.length≤c0) (hr1:Kd.C (Kd.int .i64) w A1 l1.length l1) (hc1:l1.length≤c1) (h:laws_eqIntS.f k l0 l1=some r):
  Calls Tryz.prog 10 #[.slice A0 l0.length c0,.slice A1 l1.length c1] w fun e w'=>e= .returned (.bool r)∧Drawn0 w w':=by
 have HR0:=Za hr0
 have HC0:=Za hc0
 clear hr0 hc0
 have HR1:=Za hr1
 have HC1:=Za hc1
 clear hr1 hc1
 have H:(if (l0.length:Int)=(l1.length:Int) then (laws_eqIntS.l0 k l0 l1 0) else (some false))=some r:=h
 clear h
 by_cases c3:(l0.length:Int)=(l1.length:Int)
 ·rw[if_pos c3] at H
  have c3b0:((l0.length:Int)==(l1.length:Int))=true:=beq_iff_eq.mpr c3
  have c3b1:((l0.length:Int) != (l1.length:Int))=false:=bne_eq_false_iff_eq.mpr c3
  have c3b2:(l0.length==l1.length)=true:=by first|simpa using c3|(simp at c3 ⊢;omega)
  clear c3
  have H':=Za H
  clear H
  go_enter Tryz.func10,Tryz.ntmps10
  go_wp2
  repeat(go_quiet (fail);try go_wp2)
  go_loopg [5] k (fun kq v5 w'=>∃(x5_1:Int),v5= .int .i64 x5_1∧Aside0 (laws_eqIntS.l0 kq l0 l1 x5_1=some r)∧Aside0 (kq≤k)∧Drawn0 w w')
  case atStart=>exact⟨(0),(by first|rfl|(simp;done)|(simp[*];done)),H',⟨Nat.le_refl _⟩,by repeat(first|exact Zz _|apply Ya)⟩
  case round=>
   clear H'
   (try clear c1);(try clear c3);(try clear c3b0);(try clear c3b1);(try clear c3b2)
   obtain⟨x5_1,rfl,HA,HK1,⟨m1,rfl⟩⟩:=hrel
   cases gk with
   |zero=>exact absurd HA.out (by simp[laws_eqIntS.l0])
   |succ k1=>
    have H:=HA.out
    clear HA
    simp only[laws_eqIntS.l0] at H
    by_cases c4:x5_1<(l0.length:Int)
    ·rw[if_pos c4] at H
     have c4b0:decide (x5_1<(l0.length:Int))=true:=Zq c4
     clear c4
     by_cases c5:0≤x5_1
     ·rw[if_pos c5] at H
      have c5b0:decide (0≤x5_1)=true:=Zq c5
      clear c5
      by_cases c6:x5_1<(l1.length:Int)
      ·rw[if_pos c6] at H
       have c6b0:decide (x5_1<(l1.length:Int))=true:=Zq c6
       clear c6
       by_cases c7:(rd l0 x5_1)=(rd l1 x5_1)
       ·rw[if_pos c7] at H
        have c7b0:((rd l0 x5_1)==(rd l1 x5_1))=true:=beq_iff_eq.mpr c7
        have c7b1:((rd l0 x5_1) != (rd l1 x5_1))=false:=bne_eq_false_iff_eq.mpr c7
        clear c7
        have H':=Za H
        clear H
        have p549:0≤(x5_1:Int):=Zj z16_11
        have q549:x5_1<(l0.length:Int):=Zj z16_11
        obtain⟨ad549,e549,hx549_0⟩:=Kd.at_int HR0.out x5_1 p549 q549
        cases e549
        replace p549:=eq_true p549
        replace q549:=eq_true q549
        have p550:0≤(x5_1:Int):=Zj z16_11
        have q550:x5_1<(l1.length:Int):=Zj z16_11
        obtain⟨ad550,e550,hx550_0⟩:=Kd.at_int HR1.out x5_1 p550 q550
        cases e550
        replace p550:=eq_true p550
        replace q550:=eq_true q550
        go_wp2
        repeat(go_quiet (fail);try go_wp2)
        go_roundg k1
        case measure=>have:=HK1.out;omega
        case rel=>exact⟨(wrap64 (x5_1+1)),(by first|rfl|(simp;done)|(simp[*];done)),H',⟨by have:=HK1.out;omega⟩,by repeat(first|exact Zz _|apply Ya)⟩
       ·rw[if_neg c7] at H
        have c7b0:((rd l0 x5_1)==(rd l1 x5_1))=false:=beq_eq_false_iff_ne.mpr c7
        have c7b1:((rd l0 x5_1) != (rd l1 x5_1))=true:=bne_iff_ne.mpr c7
        obtain rfl:=Zm H
        have p549:0≤(x5_1:Int):=Zj z16_11
        have q549:x5_1<(l0.length:Int):=Zj z16_11
        obtain⟨ad549,e549,hx549_0⟩:=Kd.at_int HR0.out x5_1 p549 q549
        cases e549
        replace p549:=eq_true p549
        replace q549:=eq_true q549
        have p550:0≤(x5_1:Int):=Zj z16_11
        have q550:x5_1<(l1.length:Int):=Zj z16_11
        obtain⟨ad550,e550,hx550_0⟩:=Kd.at_int HR1.out x5_1 p550 q550
        cases e550
        replace p550:=eq_true p550
        replace q550:=eq_true q550
        go_wp2
        repeat(go_quiet (fail);try go_wp2)
        go_ret
        exact⟨by first|rfl|(simp;done)|(simp[*];done),by repeat(first|exact Zz _|apply Ya)⟩
      ·rw[if_neg c6] at H
       exact absurd H (by simp)
     ·rw[if_neg c5] at H
      exact absurd H (by simp)
    ·rw[if_neg c4] at H
     have c4b0:decide (x5_1<(l0.length:Int))=false:=Yg c4
     clear c4
     obtain rfl:=Zm H
     go_wp2
     repeat(go_quiet (fail);try go_wp2)
     go_ret
     exact⟨by first|rfl|(simp;done)|(simp[*];done),by repeat(first|exact Zz _|apply Ya)⟩
 ·rw[if_neg c3] at H
  have c3b0:((l0.length:Int)==(l1.length:Int))=false:=beq_eq_false_iff_ne.mpr c3
  have c3b1:((l0.length:Int) != (l1.length:Int))=true:=bne_iff_ne.mpr c3
  have c3b2:(l0.length==l1.length)=false:=by first|simpa using c3|(simp at c3 ⊢;omega)
  obtain rfl:=Zm H
  go_enter Tryz.func10,Tryz.ntmps10
  go_wp2
  repeat(go_quiet (fail);try go_wp2)
  go_ret
  exact⟨by first|rfl|(simp;done)|(simp[*];done),by repeat(first|exact Zz _|apply Ya)⟩
def laws_eqExpr.f (a0_0:Int) (a0_1:Int) (a0_2:Int) (a1_0:Int) (a1_1:Int) (a1_2:Int):Option (Bool):=if a0_0=a1_0 then (if a0_1=a1_1 then (if a0_2=a1_2 then (some true) else (some false)) else (some false)) else (some false)
set_option maxHeartbeats 8000000 in
set_option maxRecDepth 100000 in
theorem laws_eqExpr.calls (a0_0:Int) (a0_1:Int) (a0_2:Int) (a1_0:Int) (a1_1:Int) (a1_2:Int) (r:Bool) (w:World) (h:laws_eqExpr.f a0_0 a0_1 a0_2 a1_0 a1_1 a1_2=some r):
  Calls Tryz.prog 104 #[.agg #[.int .i64 a0_0,.int .i64 a0_1,.int .i64 a0_2],.agg #[.int .i64 a1_0,.int .i64 a1_1,.int .i64 a1_2]] w fun e w'=>e= .returned (.bool r)∧Below w.heap.size w w':=by
 have hu53:=Tryz.underlying53
 have HB:=Za (Yc w.heap.size w)
 have H:(if a0_0=a1_0 then (if a0_1=a1_1 then (if a0_2=a1_2 then (some true) else (some false)) else (some false)) else (some false))=some r:=h
 clear h
 by_cases c3:a0_0=a1_0
 ·rw[if_pos c3] at H
  have c3b0:(a0_0==a1_0)=true:=beq_iff_eq.mpr c3
  have c3b1:(a0_0 != a1_0)=false:=bne_eq_false_iff_eq.mpr c3
  clear c3
  by_cases c4:a0_1=a1_1
  ·rw[if_pos c4] at H
   have c4b0:(a0_1==a1_1)=true:=beq_iff_eq.mpr c4
   have c4b1:(a0_1 != a1_1)=false:=bne_eq_false_iff_eq.mpr c4
   clear c4
   by_cases c5:a0_2=a1_2
   ·rw[if_pos c5] at H
    have c5b0:(a0_2==a1_2)=true:=beq_iff_eq.mpr c5
    have c5b1:(a0_2 != a1_2)=false:=bne_eq_false_iff_eq.mpr c5
    clear c5
    obtain rfl:=Zm H
    go_enter Tryz.func104,Tryz.ntmps104
    go_wp2_with (first|((with_reducible refine Zr (N:=2) rfl ?_);refine Zs ?hg (N:=2) ?hd (cs:= #[.int .i64 a0_0,.int .i64 a0_1,.int .i64 a0_2]) (t:=53) ?hr ?_;(case hd=>rfl);(case hg=>rfl);(case hr=>exact z16_5);intro gb551 hg w6 hbox hb;have BK551:=Za (hbox);have GW551:=Za ((z16_15:w.heap.size≤gb551));have GE551:=Za ((z16_15:w.heap.size≤gb551));replace HB:=Za (Zi z16_0 hb);clear hb hbox hg)|((with_reducible refine Zr (N:=3) rfl ?_);refine Zs ?hg (N:=3) ?hd (cs:= #[.int .i64 a1_0,.int .i64 a1_1,.int .i64 a1_2]) (t:=53) ?hr ?_;(case hd=>rfl);(case hg=>rfl);(case hr=>exact z16_5);intro gb552 hg w7 hbox hb;have BK552:=Za (hbox);have GW552:=Za ((z16_23:w.heap.size≤gb552));have GE552:=Za ((z16_23:w.heap.size≤gb552));replace HB:=Za (Zi z16_3 hb);have NB551_552:=Za ((z16_18:gb551≠gb552));have NB552_551:=Za ((z16_19:gb552≠gb551));replace BK551:=Za (Zk (g:=gb551) (o:= .cells #[.int .i64 a0_0,.int .i64 a0_1,.int .i64 a0_2] 53 (0,0)) z16_7 hb);clear hb hbox hg;have hnb8:=NB551_552.out;have hnc8:=NB552_551.out;have hcz9_0:w7.cell? ⟨gb551,0,none⟩=some (.int .i64 a0_0):=(Zb BK551.out 0).trans rfl;have hcz9_1:w7.cell? ⟨gb551,1,none⟩=some (.int .i64 a0_1):=(Zb BK551.out 1).trans rfl;have hcz9_2:w7.cell? ⟨gb551,2,none⟩=some (.int .i64 a0_2):=(Zb BK551.out 2).trans rfl;have hfz9_0:=Zc BK551.out 0;have hfz9_1:=Zc BK551.out 1;have hfz9_2:=Zc BK551.out 2;have hcz10_0:w7.cell? ⟨gb552,0,none⟩=some (.int .i64 a1_0):=(Zb BK552.out 0).trans rfl;have hcz10_1:w7.cell? ⟨gb552,1,none⟩=some (.int .i64 a1_1):=(Zb BK552.out 1).trans rfl;have hcz10_2:w7.cell? ⟨gb552,2,none⟩=some (.int .i64 a1_2):=(Zb BK552.out 2).trans rfl;have hfz10_0:=Zc BK552.out 0;have hfz10_1:=Zc BK552.out 1;have hfz10_2:=Zc BK552.out 2))
    go_ret
    exact⟨by first|rfl|(simp[errW_none,errW_some]<;>rfl)|(simp[*,errW_none,errW_some]<;>rfl)|(simp[*,errW_none,errW_some,i64_w];done),by repeat(first|(with_reducible first|exact HB.out|apply Zh|apply Ze|apply Zd|refine Zg ?_ GE551.out|refine Zg ?_ GE552.out)|exact HB.out)⟩
   ·rw[if_neg c5] at H
    have c5b0:(a0_2==a1_2)=false:=beq_eq_false_iff_ne.mpr c5
    have c5b1:(a0_2 != a1_2)=true:=bne_iff_ne.mpr c5
    obtain rfl:=Zm H
    go_enter Tryz.func104,Tryz.ntmps104
    go_wp2_with (first|((with_reducible refine Zr (N:=2) rfl ?_);refine Zs ?hg (N:=2) ?hd (cs:= #[.int .i64 a0_0,.int .i64 a0_1,.int .i64 a0_2]) (t:=53) ?hr ?_;(case hd=>rfl);(case hg=>rfl);(case hr=>exact z16_5);intro gb551 hg w11 hbox hb;have BK551:=Za (hbox);have GW551:=Za ((z16_15:w.heap.size≤gb551));have GE551:=Za ((z16_15:w.heap.size≤gb551));replace HB:=Za (Zi z16_0 hb);clear hb hbox hg)|((with_reducible refine Zr (N:=3) rfl ?_);refine Zs ?hg (N:=3) ?hd (cs:= #[.int .i64 a1_0,.int .i64 a1_1,.int .i64 a1_2]) (t:=53) ?hr ?_;(case hd=>rfl);(case hg=>rfl);(case hr=>exact z16_5);intro gb552 hg w12 hbox hb;have BK552:=Za (hbox);have GW552:=Za ((z16_23:w.heap.size≤gb552));have GE552:=Za ((z16_23:w.heap.size≤gb552));replace HB:=Za (Zi z16_3 hb);have NB551_552:=Za ((z16_18:gb551≠gb552));have NB552_551:=Za ((z16_19:gb552≠gb551));replace BK551:=Za (Zk (g:=gb551) (o:= .cells #[.int .i64 a0_0,.int .i64 a0_1,.int .i64 a0_2] 53 (0,0)) z16_7 hb);clear hb hbox hg;have hnb13:=NB551_552.out;have hnc13:=NB552_551.out;have hcz14_0:w12.cell? ⟨gb551,0,none⟩=some (.int .i64 a0_0):=(Zb BK551.out 0).trans rfl;have hcz14_1:w12.cell? ⟨gb551,1,none⟩=some (.int .i64 a0_1):=(Zb BK551.out 1).trans rfl;have hcz14_2:w12.cell? ⟨gb551,2,none⟩=some (.int .i64 a0_2):=(Zb BK551.out 2).trans rfl;have hfz14_0:=Zc BK551.out 0;have hfz14_1:=Zc BK551.out 1;have hfz14_2:=Zc BK551.out 2;have hcz15_0:w12.cell? ⟨gb552,0,none⟩=some (.int .i64 a1_0):=(Zb BK552.out 0).trans rfl;have hcz15_1:w12.cell? ⟨gb552,1,none⟩=some (.int .i64 a1_1):=(Zb BK552.out 1).trans rfl;have hcz15_2:w12.cell? ⟨gb552,2,none⟩=some (.int .i64 a1_2):=(Zb BK552.out 2).trans rfl;have hfz15_0:=Zc BK552.out 0;have hfz15_1:=Zc BK552.out 1;have hfz15_2:=Zc BK552.out 2))
    go_ret
    exact⟨by first|rfl|(simp[errW_none,errW_some]<;>rfl)|(simp[*,errW_none,errW_some]<;>rfl)|(simp[*,errW_none,errW_some,i64_w];done),by repeat(first|(with_reducible first|exact HB.out|apply Zh|apply Ze|apply Zd|refine Zg ?_ GE551.out|refine Zg ?_ GE552.out)|exact HB.out)⟩
  ·rw[if_neg c4] at H
   have c4b0:(a0_1==a1_1)=false:=beq_eq_false_iff_ne.mpr c4
   have c4b1:(a0_1 != a1_1)=true:=bne_iff_ne.mpr c4
   obtain rfl:=Zm H
   go_enter Tryz.func104,Tryz.ntmps104
   go_wp2_with (first|((with_reducible refine Zr (N:=2) rfl ?_);refine Zs ?hg (N:=2) ?hd (cs:= #[.int .i64 a0_0,.int .i64 a0_1,.int .i64 a0_2]) (t:=53) ?hr ?_;(case hd=>rfl);(case hg=>rfl);(case hr=>exact z16_5);intro gb551 hg w16 hbox hb;have BK551:=Za (hbox);have GW551:=Za ((z16_15:w.heap.size≤gb551));have GE551:=Za ((z16_15:w.heap.size≤gb551));replace HB:=Za (Zi z16_0 hb);clear hb hbox hg)|((with_reducible refine Zr (N:=3) rfl ?_);refine Zs ?hg (N:=3) ?hd (cs:= #[.int .i64 a1_0,.int .i64 a1_1,.int .i64 a1_2]) (t:=53) ?hr ?_;(case hd=>rfl);(case hg=>rfl);(case hr=>exact z16_5);intro gb552 hg w17 hbox hb;have BK552:=Za (hbox);have GW552:=Za ((z16_23:w.heap.size≤gb552));have GE552:=Za ((z16_23:w.heap.size≤gb552));replace HB:=Za (Zi z16_3 hb);have NB551_552:=Za ((z16_18:gb551≠gb552));have NB552_551:=Za ((z16_19:gb552≠gb551));replace BK551:=Za (Zk (g:=gb551) (o:= .cells #[.int .i64 a0_0,.int .i64 a0_1,.int .i64 a0_2] 53 (0,0)) z16_7 hb);clear hb hbox hg;have hnb18:=NB551_552.out;have hnc18:=NB552_551.out;have hcz19_0:w17.cell? ⟨gb551,0,none⟩=some (.int .i64 a0_0):=(Zb BK551.out 0).trans rfl;have hcz19_1:w17.cell? ⟨gb551,1,none⟩=some (.int .i64 a0_1):=(Zb BK551.out 1).trans rfl;have hcz19_2:w17.cell? ⟨gb551,2,none⟩=some (.int .i64 a0_2):=(Zb BK551.out 2).trans rfl;have hfz19_0:=Zc BK551.out 0;have hfz19_1:=Zc BK551.out 1;have hfz19_2:=Zc BK551.out 2;have hcz20_0:w17.cell? ⟨gb552,0,none⟩=some (.int .i64 a1_0):=(Zb BK552.out 0).trans rfl;have hcz20_1:w17.cell? ⟨gb552,1,none⟩=some (.int .i64 a1_1):=(Zb BK552.out 1).trans rfl;have hcz20_2:w17.cell? ⟨gb552,2,none⟩=some (.int .i64 a1_2):=(Zb BK552.out 2).trans rfl;have hfz20_0:=Zc BK552.out 0;have hfz20_1:=Zc BK552.out 1;have hfz20_2:=Zc BK552.out 2))
   go_ret
   exact⟨by first|rfl|(simp[errW_none,errW_some]<;>rfl)|(simp[*,errW_none,errW_some]<;>rfl)|(simp[*,errW_none,errW_some,i64_w];done),by repeat(first|(with_reducible first|exact HB.out|apply Zh|apply Ze|apply Zd|refine Zg ?_ GE551.out|refine Zg ?_ GE552.out)|exact HB.out)⟩
 ·rw[if_neg c3] at H
  have c3b0:(a0_0==a1_0)=false:=beq_eq_false_iff_ne.mpr c3
  have c3b1:(a0_0 != a1_0)=true:=bne_iff_ne.mpr c3
  obtain rfl:=Zm H
  go_enter Tryz.func104,Tryz.ntmps104
  go_wp2_with (first|((with_reducible refine Zr (N:=2) rfl ?_);refine Zs ?hg (N:=2) ?hd (cs:= #[.int .i64 a0_0,.int .i64 a0_1,.int .i64 a0_2]) (t:=53) ?hr ?_;(case hd=>rfl);(case hg=>rfl);(case hr=>exact z16_5);intro gb551 hg w21 hbox hb;have BK551:=Za (hbox);have GW551:=Za ((z16_15:w.heap.size≤gb551));have GE551:=Za ((z16_15:w.heap.size≤gb551));replace HB:=Za (Zi z16_0 hb);clear hb hbox hg)|((with_reducible refine Zr (N:=3) rfl ?_);refine Zs ?hg (N:=3) ?hd (cs:= #[.int .i64 a1_0,.int .i64 a1_1,.int .i64 a1_2]) (t:=53) ?hr ?_;(case hd=>rfl);(case hg=>rfl);(case hr=>exact z16_5);intro gb552 hg w22 hbox hb;have BK552:=Za (hbox);have GW552:=Za ((z16_23:w.heap.size≤gb552));have GE552:=Za ((z16_23:w.heap.size≤gb552));replace HB:=Za (Zi z16_3 hb);have NB551_552:=Za ((z16_18:gb551≠gb552));have NB552_551:=Za ((z16_19:gb552≠gb551));replace BK551:=Za (Zk (g:=gb551) (o:= .cells #[.int .i64 a0_0,.int .i64 a0_1,.int .i64 a0_2] 53 (0,0)) z16_7 hb);clear hb hbox hg;have hnb23:=NB551_552.out;have hnc23:=NB552_551.out;have hcz24_0:w22.cell? ⟨gb551,0,none⟩=some (.int .i64 a0_0):=(Zb BK551.out 0).trans rfl;have hcz24_1:w22.cell? ⟨gb551,1,none⟩=some (.int .i64 a0_1):=(Zb BK551.out 1).trans rfl;have hcz24_2:w22.cell? ⟨gb551,2,none⟩=some (.int .i64 a0_2):=(Zb BK551.out 2).trans rfl;have hfz24_0:=Zc BK551.out 0;have hfz24_1:=Zc BK551.out 1;have hfz24_2:=Zc BK551.out 2;have hcz25_0:w22.cell? ⟨gb552,0,none⟩=some (.int .i64 a1_0):=(Zb BK552.out 0).trans rfl;have hcz25_1:w22.cell? ⟨gb552,1,none⟩=some (.int .i64 a1_1):=(Zb BK552.out 1).trans rfl;have hcz25_2:w22.cell? ⟨gb552,2,none⟩=some (.int .i64 a1_2):=(Zb BK552.out 2).trans rfl;have hfz25_0:=Zc BK552.out 0;have hfz25_1:=Zc BK552.out 1;have hfz25_2:=Zc BK552.out 2))
  go_ret
  exact⟨by first|rfl|(simp[errW_none,errW_some]<;>rfl)|(simp[*,errW_none,errW_some]<;>rfl)|(simp[*,errW_none,errW_some,i64_w];done),by repeat(first|(with_reducible first|exact HB.out|apply Zh|apply Ze|apply Zd|refine Zg ?_ GE551.out|refine Zg ?_ GE552.out)|exact HB.out)⟩
def laws_eqStmt.f (a0_0:Int) (a0_1:Int) (a0_2:Int) (a0_3:Int) (a0_4:Int) (a0_5:Int) (a1_0:Int) (a1_1:Int) (a1_2:Int) (a1_3:Int) (a1_4:Int) (a1_5:Int):Option (Bool):=if a0_0=a1_0 then (if a0_1=a1_1 then (if a0_2=a1_2 then ((laws_eqExpr.f a0_3 a0_4 a0_5 a1_3 a1_4 a1_5).bind fun t555=>(if t555=true then (some true) else (some false))) else (some false)) else (some false)) else (some false)
set_option maxHeartbeats 8000000 in
set_option maxRecDepth 100000 in
theorem laws_eqStmt.calls (a0_0:Int) (a0_1:Int) (a0_2:Int) (a0_3:Int) (a0_4:Int) (a0_5:Int) (a1_0:Int) (a1_1:Int) (a1_2:Int) (a1_3:Int) (a1_4:Int) (a1_5:Int) (r:Bool) (w:World) (h:laws_eqStmt.f a0_0 a0_1 a0_2 a0_3 a0_4 a0_5 a1_0 a1_1 a1_2 a1_3 a1_4 a1_5=some r):
  Calls Tryz.prog 118 #[.agg #[.int .i64 a0_0,.int .i64 a0_1,.int .i64 a0_2,.int .i64 a0_3,.int .i64 a0_4,.int .i64 a0_5],.agg #[.int .i64 a1_0,.int .i64 a1_1,.int .i64 a1_2,.int .i64 a1_3,.int .i64 a1_4,.int .i64 a1_5]] w fun e w'=>e= .returned (.bool r)∧Below w.heap.size w w':=by
 have hu77:=Tryz.underlying77
 have hu53:=Tryz.underlying53
 have HB:=Za (Yc w.heap.size w)
 have H:(if a0_0=a1_0 then (if a0_1=a1_1 then (if a0_2=a1_2 then ((laws_eqExpr.f a0_3 a0_4 a0_5 a1_3 a1_4 a1_5).bind fun t555=>(if t555=true then (some true) else (some false))) else (some false)) else (some false)) else (some false))=some r:=h
 clear h
 by_cases c3:a0_0=a1_0
 ·rw[if_pos c3] at H
  have c3b0:(a0_0==a1_0)=true:=beq_iff_eq.mpr c3
  have c3b1:(a0_0 != a1_0)=false:=bne_eq_false_iff_eq.mpr c3
  clear c3
  by_cases c4:a0_1=a1_1
  ·rw[if_pos c4] at H
   have c4b0:(a0_1==a1_1)=true:=beq_iff_eq.mpr c4
   have c4b1:(a0_1 != a1_1)=false:=bne_eq_false_iff_eq.mpr c4
   clear c4
   by_cases c5:a0_2=a1_2
   ·rw[if_pos c5] at H
    have c5b0:(a0_2==a1_2)=true:=beq_iff_eq.mpr c5
    have c5b1:(a0_2 != a1_2)=false:=bne_eq_false_iff_eq.mpr c5
    clear c5
    replace H:=Zl H
    obtain⟨t555,A60,H⟩:=H
    replace H:(if t555=true then (some true) else (some false))=some r:=H
    have A6:=Za A60
    clear A60
    by_cases c7:t555=true
    ·subst c7
     rw[if_pos rfl] at H
     obtain rfl:=Zm H
     go_enter Tryz.func118,Tryz.ntmps118
     go_wp2_with (first|((with_reducible refine Zr (N:=2) rfl ?_);refine Zs ?hg (N:=2) ?hd (cs:= #[.int .i64 a0_0,.int .i64 a0_1,.int .i64 a0_2,.int .i64 a0_3,.int .i64 a0_4,.int .i64 a0_5]) (t:=77) ?hr ?_;(case hd=>rfl);(case hg=>rfl);(case hr=>exact z16_5);intro gb553 hg w8 hbox hb;have BK553:=Za (hbox);have GW553:=Za ((z16_15:w.heap.size≤gb553));have GE553:=Za ((z16_15:w.heap.size≤gb553));replace HB:=Za (Zi z16_0 hb);clear hb hbox hg)|((with_reducible refine Zr (N:=3) rfl ?_);refine Zs ?hg (N:=3) ?hd (cs:= #[.int .i64 a1_0,.int .i64 a1_1,.int .i64 a1_2,.int .i64 a1_3,.int .i64 a1_4,.int .i64 a1_5]) (t:=77) ?hr ?_;(case hd=>rfl);(case hg=>rfl);(case hr=>exact z16_5);intro gb554 hg w9 hbox hb;have BK554:=Za (hbox);have GW554:=Za ((z16_22:w.heap.size≤gb554));have GE554:=Za ((z16_22:w.heap.size≤gb554));replace HB:=Za (Zi z16_1 hb);have NB553_554:=Za ((z16_16:gb553≠gb554));have NB554_553:=Za ((z16_17:gb554≠gb553));replace BK553:=Za (Zk (g:=gb553) (o:= .cells #[.int .i64 a0_0,.int .i64 a0_1,.int .i64 a0_2,.int .i64 a0_3,.int .i64 a0_4,.int .i64 a0_5] 77 (0,0)) z16_2 hb);clear hb hbox hg;have hnb10:=NB553_554.out;have hnc10:=NB554_553.out;have hcz11_0:w9.cell? ⟨gb553,0,none⟩=some (.int .i64 a0_0):=(Zb BK553.out 0).trans rfl;have hcz11_1:w9.cell? ⟨gb553,1,none⟩=some (.int .i64 a0_1):=(Zb BK553.out 1).trans rfl;have hcz11_2:w9.cell? ⟨gb553,2,none⟩=some (.int .i64 a0_2):=(Zb BK553.out 2).trans rfl;have hcz11_3:w9.cell? ⟨gb553,3,none⟩=some (.int .i64 a0_3):=(Zb BK553.out 3).trans rfl;have hcz11_4:w9.cell? ⟨gb553,4,none⟩=some (.int .i64 a0_4):=(Zb BK553.out 4).trans rfl;have hcz11_5:w9.cell? ⟨gb553,5,none⟩=some (.int .i64 a0_5):=(Zb BK553.out 5).trans rfl;have hfz11_0:=Zc BK553.out 0;have hfz11_1:=Zc BK553.out 1;have hfz11_2:=Zc BK553.out 2;have hfz11_3:=Zc BK553.out 3;have hfz11_4:=Zc BK553.out 4;have hfz11_5:=Zc BK553.out 5;have hcz12_0:w9.cell? ⟨gb554,0,none⟩=some (.int .i64 a1_0):=(Zb BK554.out 0).trans rfl;have hcz12_1:w9.cell? ⟨gb554,1,none⟩=some (.int .i64 a1_1):=(Zb BK554.out 1).trans rfl;have hcz12_2:w9.cell? ⟨gb554,2,none⟩=some (.int .i64 a1_2):=(Zb BK554.out 2).trans rfl;have hcz12_3:w9.cell? ⟨gb554,3,none⟩=some (.int .i64 a1_3):=(Zb BK554.out 3).trans rfl;have hcz12_4:w9.cell? ⟨gb554,4,none⟩=some (.int .i64 a1_4):=(Zb BK554.out 4).trans rfl;have hcz12_5:w9.cell? ⟨gb554,5,none⟩=some (.int .i64 a1_5):=(Zb BK554.out 5).trans rfl;have hfz12_0:=Zc BK554.out 0;have hfz12_1:=Zc BK554.out 1;have hfz12_2:=Zc BK554.out 2;have hfz12_3:=Zc BK554.out 3;have hfz12_4:=Zc BK554.out 4;have hfz12_5:=Zc BK554.out 5)|((first|((with_reducible refine gate_callee (f:=104) rfl ?_);refine goesL_ (some 24) rfl rfl Tryz.func104 z16_9 rfl #[.agg #[.int .i64 a0_3,.int .i64 a0_4,.int .i64 a0_5],.agg #[.int .i64 a1_3,.int .i64 a1_4,.int .i64 a1_5]] rfl z16_8 ?_;(with_reducible refine(laws_eqExpr.calls a0_3 a0_4 a0_5 a1_3 a1_4 a1_5 true _ A6.out).mono ?_))|(go_at_call 104;(with_reducible refine(laws_eqExpr.calls a0_3 a0_4 a0_5 a1_3 a1_4 a1_5 true _ A6.out).mono ?_)));rintro e w13 ⟨rfl,hb⟩;(first|refine⟨_,rfl,?_⟩|skip);replace BK553:=Za (Zk (g:=gb553) (o:= .cells #[.int .i64 a0_0,.int .i64 a0_1,.int .i64 a0_2,.int .i64 a0_3,.int .i64 a0_4,.int .i64 a0_5] 77 (0,0)) z16_2 hb);replace BK554:=Za (Zk (g:=gb554) (o:= .cells #[.int .i64 a1_0,.int .i64 a1_1,.int .i64 a1_2,.int .i64 a1_3,.int .i64 a1_4,.int .i64 a1_5] 77 (0,0)) (by(with_reducible repeat(first|refine blk_drewN ?_ _|refine blk_drew ?_|refine blk_alloc ?_ _));exact BK554.out) hb);replace HB:=Za (Zi (by repeat(first|(with_reducible first|exact HB.out|apply Zh|apply Ze|apply Zd|refine Zg ?_ GE553.out|refine Zg ?_ GE554.out)|exact HB.out)) hb);(try clear hb);(try clear hb2);(try clear hk);(try clear hi)))
     go_ret
     exact⟨by first|rfl|(simp[errW_none,errW_some]<;>rfl)|(simp[*,errW_none,errW_some]<;>rfl)|(simp[*,errW_none,errW_some,i64_w];done),by repeat(first|(with_reducible first|exact HB.out|apply Zh|apply Ze|apply Zd|refine Zg ?_ GE553.out|refine Zg ?_ GE554.out)|exact HB.out)⟩
    ·replace c7:=Bool.eq_false_iff.mpr c7
     subst c7
     rw[if_neg (show ¬(false=true) by decide)] at H
     obtain rfl:=Zm H
     go_enter Tryz.func118,Tryz.ntmps118
     go_wp2_with (first|((with_reducible refine Zr (N:=2) rfl ?_);refine Zs ?hg (N:=2) ?hd (cs:= #[.int .i64 a0_0,.int .i64 a0_1,.int .i64 a0_2,.int .i64 a0_3,.int .i64 a0_4,.int .i64 a0_5]) (t:=77) ?hr ?_;(case hd=>rfl);(case hg=>rfl);(case hr=>exact z16_5);intro gb553 hg w14 hbox hb;have BK553:=Za (hbox);have GW553:=Za ((z16_15:w.heap.size≤gb553));have GE553:=Za ((z16_15:w.heap.size≤gb553));replace HB:=Za (Zi z16_0 hb);clear hb hbox hg)|((with_reducible refine Zr (N:=3) rfl ?_);refine Zs ?hg (N:=3) ?hd (cs:= #[.int .i64 a1_0,.int .i64 a1_1,.int .i64 a1_2,.int .i64 a1_3,.int .i64 a1_4,.int .i64 a1_5]) (t:=77) ?hr ?_;(case hd=>rfl);(case hg=>rfl);(case hr=>exact z16_5);intro gb554 hg w15 hbox hb;have BK554:=Za (hbox);have GW554:=Za ((z16_22:w.heap.size≤gb554));have GE554:=Za ((z16_22:w.heap.size≤gb554));replace HB:=Za (Zi z16_1 hb);have NB553_554:=Za ((z16_16:gb553≠gb554));have NB554_553:=Za ((z16_17:gb554≠gb553));replace BK553:=Za (Zk (g:=gb553) (o:= .cells #[.int .i64 a0_0,.int .i64 a0_1,.int .i64 a0_2,.int .i64 a0_3,.int .i64 a0_4,.int .i64 a0_5] 77 (0,0)) z16_2 hb);clear hb hbox hg;have hnb16:=NB553_554.out;have hnc16:=NB554_553.out;have hcz17_0:w15.cell? ⟨gb553,0,none⟩=some (.int .i64 a0_0):=(Zb BK553.out 0).trans rfl;have hcz17_1:w15.cell? ⟨gb553,1,none⟩=some (.int .i64 a0_1):=(Zb BK553.out 1).trans rfl;have hcz17_2:w15.cell? ⟨gb553,2,none⟩=some (.int .i64 a0_2):=(Zb BK553.out 2).trans rfl;have hcz17_3:w15.cell? ⟨gb553,3,none⟩=some (.int .i64 a0_3):=(Zb BK553.out 3).trans rfl;have hcz17_4:w15.cell? ⟨gb553,4,none⟩=some (.int .i64 a0_4):=(Zb BK553.out 4).trans rfl;have hcz17_5:w15.cell? ⟨gb553,5,none⟩=some (.int .i64 a0_5):=(Zb BK553.out 5).trans rfl;have hfz17_0:=Zc BK553.out 0;have hfz17_1:=Zc BK553.out 1;have hfz17_2:=Zc BK553.out 2;have hfz17_3:=Zc BK553.out 3;have hfz17_4:=Zc BK553.out 4;have hfz17_5:=Zc BK553.out 5;have hcz18_0:w15.cell? ⟨gb554,0,none⟩=some (.int .i64 a1_0):=(Zb BK554.out 0).trans rfl;have hcz18_1:w15.cell? ⟨gb554,1,none⟩=some (.int .i64 a1_1):=(Zb BK554.out 1).trans rfl;have hcz18_2:w15.cell? ⟨gb554,2,none⟩=some (.int .i64 a1_2):=(Zb BK554.out 2).trans rfl;have hcz18_3:w15.cell? ⟨gb554,3,none⟩=some (.int .i64 a1_3):=(Zb BK554.out 3).trans rfl;have hcz18_4:w15.cell? ⟨gb554,4,none⟩=some (.int .i64 a1_4):=(Zb BK554.out 4).trans rfl;have hcz18_5:w15.cell? ⟨gb554,5,none⟩=some (.int .i64 a1_5):=(Zb BK554.out 5).trans rfl;have hfz18_0:=Zc BK554.out 0;have hfz18_1:=Zc BK554.out 1;have hfz18_2:=Zc BK554.out 2;have hfz18_3:=Zc BK554.out 3;have hfz18_4:=Zc BK554.out 4;have hfz18_5:=Zc BK554.out 5)|((first|((with_reducible refine gate_callee (f:=104) rfl ?_);refine goesL_ (some 24) rfl rfl Tryz.func104 z16_9 rfl #[.agg #[.int .i64 a0_3,.int .i64 a0_4,.int .i64 a0_5],.agg #[.int .i64 a1_3,.int .i64 a1_4,.int .i64 a1_5]] rfl z16_8 ?_;(with_reducible refine(laws_eqExpr.calls a0_3 a0_4 a0_5 a1_3 a1_4 a1_5 false _ A6.out).mono ?_))|(go_at_call 104;(with_reducible refine(laws_eqExpr.calls a0_3 a0_4 a0_5 a1_3 a1_4 a1_5 false _ A6.out).mono ?_)));rintro e w19 ⟨rfl,hb⟩;(first|refine⟨_,rfl,?_⟩|skip);replace BK553:=Za (Zk (g:=gb553) (o:= .cells #[.int .i64 a0_0,.int .i64 a0_1,.int .i64 a0_2,.int .i64 a0_3,.int .i64 a0_4,.int .i64 a0_5] 77 (0,0)) z16_2 hb);replace BK554:=Za (Zk (g:=gb554) (o:= .cells #[.int .i64 a1_0,.int .i64 a1_1,.int .i64 a1_2,.int .i64 a1_3,.int .i64 a1_4,.int .i64 a1_5] 77 (0,0)) (by(with_reducible repeat(first|refine blk_drewN ?_ _|refine blk_drew ?_|refine blk_alloc ?_ _));exact BK554.out) hb);replace HB:=Za (Zi (by repeat(first|(with_reducible first|exact HB.out|apply Zh|apply Ze|apply Zd|refine Zg ?_ GE553.out|refine Zg ?_ GE554.out)|exact HB.out)) hb);(try clear hb);(try clear hb2);(try clear hk);(try clear hi)))
     go_ret
     exact⟨by first|rfl|(simp[errW_none,errW_some]<;>rfl)|(simp[*,errW_none,errW_some]<;>rfl)|(simp[*,errW_none,errW_some,i64_w];done),by repeat(first|(with_reducible first|exact HB.out|apply Zh|apply Ze|apply Zd|refine Zg ?_ GE553.out|refine Zg ?_ GE554.out)|exact HB.out)⟩
   ·rw[if_neg c5] at H
    have c5b0:(a0_2==a1_2)=false:=beq_eq_false_iff_ne.mpr c5
    have c5b1:(a0_2 != a1_2)=true:=bne_iff_ne.mpr c5
    obtain rfl:=Zm H
    go_enter Tryz.func118,Tryz.ntmps118
    go_wp2_with (first|((with_reducible refine Zr (N:=2) rfl ?_);refine Zs ?hg (N:=2) ?hd (cs:= #[.int .i64 a0_0,.int .i64 a0_1,.int .i64 a0_2,.int .i64 a0_3,.int .i64 a0_4,.int .i64 a0_5]) (t:=77) ?hr ?_;(case hd=>rfl);(case hg=>rfl);(case hr=>exact z16_5);intro gb553 hg w20 hbox hb;have BK553:=Za (hbox);have GW553:=Za ((z16_15:w.heap.size≤gb553));have GE553:=Za ((z16_15:w.heap.size≤gb553));replace HB:=Za (Zi z16_0 hb);clear hb hbox hg)|((with_reducible refine Zr (N:=3) rfl ?_);refine Zs ?hg (N:=3) ?hd (cs:= #[.int .i64 a1_0,.int .i64 a1_1,.int .i64 a1_2,.int .i64 a1_3,.int .i64 a1_4,.int .i64 a1_5]) (t:=77) ?hr ?_;(case hd=>rfl);(case hg=>rfl);(case hr=>exact z16_5);intro gb554 hg w21 hbox hb;have BK554:=Za (hbox);have GW554:=Za ((z16_22:w.heap.size≤gb554));have GE554:=Za ((z16_22:w.heap.size≤gb554));replace HB:=Za (Zi z16_1 hb);have NB553_554:=Za ((z16_16:gb553≠gb554));have NB554_553:=Za ((z16_17:gb554≠gb553));replace BK553:=Za (Zk (g:=gb553) (o:= .cells #[.int .i64 a0_0,.int .i64 a0_1,.int .i64 a0_2,.int .i64 a0_3,.int .i64 a0_4,.int .i64 a0_5] 77 (0,0)) z16_2 hb);clear hb hbox hg;have hnb22:=NB553_554.out;have hnc22:=NB554_553.out;have hcz23_0:w21.cell? ⟨gb553,0,none⟩=some (.int .i64 a0_0):=(Zb BK553.out 0).trans rfl;have hcz23_1:w21.cell? ⟨gb553,1,none⟩=some (.int .i64 a0_1):=(Zb BK553.out 1).trans rfl;have hcz23_2:w21.cell? ⟨gb553,2,none⟩=some (.int .i64 a0_2):=(Zb BK553.out 2).trans rfl;have hcz23_3:w21.cell? ⟨gb553,3,none⟩=some (.int .i64 a0_3):=(Zb BK553.out 3).trans rfl;have hcz23_4:w21.cell? ⟨gb553,4,none⟩=some (.int .i64 a0_4):=(Zb BK553.out 4).trans rfl;have hcz23_5:w21.cell? ⟨gb553,5,none⟩=some (.int .i64 a0_5):=(Zb BK553.out 5).trans rfl;have hfz23_0:=Zc BK553.out 0;have hfz23_1:=Zc BK553.out 1;have hfz23_2:=Zc BK553.out 2;have hfz23_3:=Zc BK553.out 3;have hfz23_4:=Zc BK553.out 4;have hfz23_5:=Zc BK553.out 5;have hcz24_0:w21.cell? ⟨gb554,0,none⟩=some (.int .i64 a1_0):=(Zb BK554.out 0).trans rfl;have hcz24_1:w21.cell? ⟨gb554,1,none⟩=some (.int .i64 a1_1):=(Zb BK554.out 1).trans rfl;have hcz24_2:w21.cell? ⟨gb554,2,none⟩=some (.int .i64 a1_2):=(Zb BK554.out 2).trans rfl;have hcz24_3:w21.cell? ⟨gb554,3,none⟩=some (.int .i64 a1_3):=(Zb BK554.out 3).trans rfl;have hcz24_4:w21.cell? ⟨gb554,4,none⟩=some (.int .i64 a1_4):=(Zb BK554.out 4).trans rfl;have hcz24_5:w21.cell? ⟨gb554,5,none⟩=some (.int .i64 a1_5):=(Zb BK554.out 5).trans rfl;have hfz24_0:=Zc BK554.out 0;have hfz24_1:=Zc BK554.out 1;have hfz24_2:=Zc BK554.out 2;have hfz24_3:=Zc BK554.out 3;have hfz24_4:=Zc BK554.out 4;have hfz24_5:=Zc BK554.out 5))
    go_ret
    exact⟨by first|rfl|(simp[errW_none,errW_some]<;>rfl)|(simp[*,errW_none,errW_some]<;>rfl)|(simp[*,errW_none,errW_some,i64_w];done),by repeat(first|(with_reducible first|exact HB.out|apply Zh|apply Ze|apply Zd|refine Zg ?_ GE553.out|refine Zg ?_ GE554.out)|exact HB.out)⟩
  ·rw[if_neg c4] at H
   have c4b0:(a0_1==a1_1)=false:=beq_eq_false_iff_ne.mpr c4
   have c4b1:(a0_1 != a1_1)=true:=bne_iff_ne.mpr c4
   obtain rfl:=Zm H
   go_enter Tryz.func118,Tryz.ntmps118
   go_wp2_with (first|((with_reducible refine Zr (N:=2) rfl ?_);refine Zs ?hg (N:=2) ?hd (cs:= #[.int .i64 a0_0,.int .i64 a0_1,.int .i64 a0_2,.int .i64 a0_3,.int .i64 a0_4,.int .i64 a0_5]) (t:=77) ?hr ?_;(case hd=>rfl);(case hg=>rfl);(case hr=>exact z16_5);intro gb553 hg w25 hbox hb;have BK553:=Za (hbox);have GW553:=Za ((z16_15:w.heap.size≤gb553));have GE553:=Za ((z16_15:w.heap.size≤gb553));replace HB:=Za (Zi z16_0 hb);clear hb hbox hg)|((with_reducible refine Zr (N:=3) rfl ?_);refine Zs ?hg (N:=3) ?hd (cs:= #[.int .i64 a1_0,.int .i64 a1_1,.int .i64 a1_2,.int .i64 a1_3,.int .i64 a1_4,.int .i64 a1_5]) (t:=77) ?hr ?_;(case hd=>rfl);(case hg=>rfl);(case hr=>exact z16_5);intro gb554 hg w26 hbox hb;have BK554:=Za (hbox);have GW554:=Za ((z16_22:w.heap.size≤gb554));have GE554:=Za ((z16_22:w.heap.size≤gb554));replace HB:=Za (Zi z16_1 hb);have NB553_554:=Za ((z16_16:gb553≠gb554));have NB554_553:=Za ((z16_17:gb554≠gb553));replace BK553:=Za (Zk (g:=gb553) (o:= .cells #[.int .i64 a0_0,.int .i64 a0_1,.int .i64 a0_2,.int .i64 a0_3,.int .i64 a0_4,.int .i64 a0_5] 77 (0,0)) z16_2 hb);clear hb hbox hg;have hnb27:=NB553_554.out;have hnc27:=NB554_553.out;have hcz28_0:w26.cell? ⟨gb553,0,none⟩=some (.int .i64 a0_0):=(Zb BK553.out 0).trans rfl;have hcz28_1:w26.cell? ⟨gb553,1,none⟩=some (.int .i64 a0_1):=(Zb BK553.out 1).trans rfl;have hcz28_2:w26.cell? ⟨gb553,2,none⟩=some (.int .i64 a0_2):=(Zb BK553.out 2).trans rfl;have hcz28_3:w26.cell? ⟨gb553,3,none⟩=some (.int .i64 a0_3):=(Zb BK553.out 3).trans rfl;have hcz28_4:w26.cell? ⟨gb553,4,none⟩=some (.int .i64 a0_4):=(Zb BK553.out 4).trans rfl;have hcz28_5:w26.cell? ⟨gb553,5,none⟩=some (.int .i64 a0_5):=(Zb BK553.out 5).trans rfl;have hfz28_0:=Zc BK553.out 0;have hfz28_1:=Zc BK553.out 1;have hfz28_2:=Zc BK553.out 2;have hfz28_3:=Zc BK553.out 3;have hfz28_4:=Zc BK553.out 4;have hfz28_5:=Zc BK553.out 5;have hcz29_0:w26.cell? ⟨gb554,0,none⟩=some (.int .i64 a1_0):=(Zb BK554.out 0).trans rfl;have hcz29_1:w26.cell? ⟨gb554,1,none⟩=some (.int .i64 a1_1):=(Zb BK554.out 1).trans rfl;have hcz29_2:w26.cell? ⟨gb554,2,none⟩=some (.int .i64 a1_2):=(Zb BK554.out 2).trans rfl;have hcz29_3:w26.cell? ⟨gb554,3,none⟩=some (.int .i64 a1_3):=(Zb BK554.out 3).trans rfl;have hcz29_4:w26.cell? ⟨gb554,4,none⟩=some (.int .i64 a1_4):=(Zb BK554.out 4).trans rfl;have hcz29_5:w26.cell? ⟨gb554,5,none⟩=some (.int .i64 a1_5):=(Zb BK554.out 5).trans rfl;have hfz29_0:=Zc BK554.out 0;have hfz29_1:=Zc BK554.out 1;have hfz29_2:=Zc BK554.out 2;have hfz29_3:=Zc BK554.out 3;have hfz29_4:=Zc BK554.out 4;have hfz29_5:=Zc BK554.out 5))
   go_ret
   exact⟨by first|rfl|(simp[errW_none,errW_some]<;>rfl)|(simp[*,errW_none,errW_some]<;>rfl)|(simp[*,errW_none,errW_some,i64_w];done),by repeat(first|(with_reducible first|exact HB.out|apply Zh|apply Ze|apply Zd|refine Zg ?_ GE553.out|refine Zg ?_ GE554.out)|exact HB.out)⟩
 ·rw[if_neg c3] at H
  have c3b0:(a0_0==a1_0)=false:=beq_eq_false_iff_ne.mpr c3
  have c3b1:(a0_0 != a1_0)=true:=bne_iff_ne.mpr c3
  obtain rfl:=Zm H
  go_enter Tryz.func118,Tryz.ntmps118
  go_wp2_with (first|((with_reducible refine Zr (N:=2) rfl ?_);refine Zs ?hg (N:=2) ?hd (cs:= #[.int .i64 a0_0,.int .i64 a0_1,.int .i64 a0_2,.int .i64 a0_3,.int .i64 a0_4,.int .i64 a0_5]) (t:=77) ?hr ?_;(case hd=>rfl);(case hg=>rfl);(case hr=>exact z16_5);intro gb553 hg w30 hbox hb;have BK553:=Za (hbox);have GW553:=Za ((z16_15:w.heap.size≤gb553));have GE553:=Za ((z16_15:w.heap.size≤gb553));replace HB:=Za (Zi z16_0 hb);clear hb hbox hg)|((with_reducible refine Zr (N:=3) rfl ?_);refine Zs ?hg (N:=3) ?hd (cs:= #[.int .i64 a1_0,.int .i64 a1_1,.int .i64 a1_2,.int .i64 a1_3,.int .i64 a1_4,.int .i64 a1_5]) (t:=77) ?hr ?_;(case hd=>rfl);(case hg=>rfl);(case hr=>exact z16_5);intro gb554 hg w31 hbox hb;have BK554:=Za (hbox);have GW554:=Za ((z16_22:w.heap.size≤gb554));have GE554:=Za ((z16_22:w.heap.size≤gb554));replace HB:=Za (Zi z16_1 hb);have NB553_554:=Za ((z16_16:gb553≠gb554));have NB554_553:=Za ((z16_17:gb554≠gb553));replace BK553:=Za (Zk (g:=gb553) (o:= .cells #[.int .i64 a0_0,.int .i64 a0_1,.int .i64 a0_2,.int .i64 a0_3,.int .i64 a0_4,.int .i64 a0_5] 77 (0,0)) z16_2 hb);clear hb hbox hg;have hnb32:=NB553_554.out;have hnc32:=NB554_553.out;have hcz33_0:w31.cell? ⟨gb553,0,none⟩=some (.int .i64 a0_0):=(Zb BK553.out 0).trans rfl;have hcz33_1:w31.cell? ⟨gb553,1,none⟩=some (.int .i64 a0_1):=(Zb BK553.out 1).trans rfl;have hcz33_2:w31.cell? ⟨gb553,2,none⟩=some (.int .i64 a0_2):=(Zb BK553.out 2).trans rfl;have hcz33_3:w31.cell? ⟨gb553,3,none⟩=some (.int .i64 a0_3):=(Zb BK553.out 3).trans rfl;have hcz33_4:w31.cell? ⟨gb553,4,none⟩=some (.int .i64 a0_4):=(Zb BK553.out 4).trans rfl;have hcz33_5:w31.cell? ⟨gb553,5,none⟩=some (.int .i64 a0_5):=(Zb BK553.out 5).trans rfl;have hfz33_0:=Zc BK553.out 0;have hfz33_1:=Zc BK553.out 1;have hfz33_2:=Zc BK553.out 2;have hfz33_3:=Zc BK553.out 3;have hfz33_4:=Zc BK553.out 4;have hfz33_5:=Zc BK553.out 5;have hcz34_0:w31.cell? ⟨gb554,0,none⟩=some (.int .i64 a1_0):=(Zb BK554.out 0).trans rfl;have hcz34_1:w31.cell? ⟨gb554,1,none⟩=some (.int .i64 a1_1):=(Zb BK554.out 1).trans rfl;have hcz34_2:w31.cell? ⟨gb554,2,none⟩=some (.int .i64 a1_2):=(Zb BK554.out 2).trans rfl;have hcz34_3:w31.cell? ⟨gb554,3,none⟩=some (.int .i64 a1_3):=(Zb BK554.out 3).trans rfl;have hcz34_4:w31.cell? ⟨gb554,4,none⟩=some (.int .i64 a1_4):=(Zb BK554.out 4).trans rfl;have hcz34_5:w31.cell? ⟨gb554,5,none⟩=some (.int .i64 a1_5):=(Zb BK554.out 5).trans rfl;have hfz34_0:=Zc BK554.out 0;have hfz34_1:=Zc BK554.out 1;have hfz34_2:=Zc BK554.out 2;have hfz34_3:=Zc BK554.out 3;have hfz34_4:=Zc BK554.out 4;have hfz34_5:=Zc BK554.out 5))
  go_ret
  exact⟨by first|rfl|(simp[errW_none,errW_some]<;>rfl)|(simp[*,errW_none,errW_some]<;>rfl)|(simp[*,errW_none,errW_some,i64_w];done),by repeat(first|(with_reducible first|exact HB.out|apply Zh|apply Ze|apply Zd|refine Zg ?_ GE553.out|refine Zg ?_ GE554.out)|exact HB.out)⟩
def laws_eqStmtS.l0:Nat→List (S77)→List (S77)→Int→Option (Bool)
 |0,_,_,_=>none
 |k+1,x0,x1,x5=>if x5<(x0.length:Int) then (if 0≤x5 then (if x5<(x1.length:Int) then ((laws_eqStmt.f ((rd_T77 x0 x5).f0) ((rd_T77 x0 x5).f1) ((rd_T77 x0 x5).f2) ((rd_T77 x0 x5).f3.f0) ((rd_T77 x0 x5).f3.f1) ((rd_T77 x0 x5).f3.f2) ((rd_T77 x1 x5).f0) ((rd_T77 x1 x5).f1) ((rd_T77 x1 x5).f2) ((rd_T77 x1 x5).f3.f0) ((rd_T77 x1 x5).f3.f1) ((rd_T77 x1 x5).f3.f2)).bind fun t558=>(if t558=true then (laws_eqStmtS.l0 k x0 x1 (wrap64 (x5+1))) else (some false))) else (none)) else (none)) else (some true)
def laws_eqStmtS.f (k:Nat) (l0:List (S77)) (l1:List (S77)):Option (Bool):=if (l0.length:Int)=(l1.length:Int) then (laws_eqStmtS.l0 k l0 l1 0) else (some false)
def laws_eqStmtS.T6:Bool×List (List Nat×List Nat):=(true,[([],[]),([],[]),([0,1],[0,1]),([2],[2]),([],[]),([],[]),([4,5],[4,5]),([6],[6]),([3,7],[3,7]),([8],[8])])
def laws_eqStmtS.B6:List Nat:=[0,0,3,7,0,0,48,112,255,511]
theorem laws_eqStmtS.tab6:rtab .any (opsOf Tryz.f103 6)=laws_eqStmtS.T6:=by kernel_rfl
theorem laws_eqStmtS.bits6:waitsOk laws_eqStmtS.T6.2 laws_eqStmtS.B6=true:=by kernel_rfl
set_option maxHeartbeats 8000000 in
set_option maxRecDepth 100000 in
theorem laws_eqStmtS.calls (k:Nat) (A0:Option Addr) (c0:Nat) (l0:List (S77)) (A1:Option Addr) (c1:Nat) (l1:List (S77)) (r:Bool) (w:World) (hr0:Kd.C k77 w A0 l0.length l0) (hc0:l0.length≤c0) (hr1:Kd.C k77 w A1 l1.length l1) (hc1:l1.length≤c1) (h:laws_eqStmtS.f k l0 l1=some r):
  Calls Tryz.prog 103 #[.slice A0 l0.length c0,.slice A1 l1.length c1] w fun e w'=>e= .returned (.bool r)∧Below w.heap.size w w':=by
 have hu77:=Tryz.underlying77
 have HR0:=Za hr0
 have HC0:=Za hc0
 clear hr0 hc0
 have HR1:=Za hr1
 have HC1:=Za hc1
 clear hr1 hc1
 have HB:=Za (Yc w.heap.size w)
 have H:(if (l0.length:Int)=(l1.length:Int) then (laws_eqStmtS.l0 k l0 l1 0) else (some false))=some r:=h
 clear h
 by_cases c3:(l0.length:Int)=(l1.length:Int)
 ·rw[if_pos c3] at H
  have c3b0:((l0.length:Int)==(l1.length:Int))=true:=beq_iff_eq.mpr c3
  have c3b1:((l0.length:Int) != (l1.length:Int))=false:=bne_eq_false_iff_eq.mpr c3
  have c3b2:(l0.length==l1.length)=true:=by first|simpa using c3|(simp at c3 ⊢;omega)
  clear c3
  have H':=Za H
  clear H
  go_enter Tryz.func103,Tryz.ntmps103
  go_wp2
  go_loopg [5] k (fun kq v5 w'=>∃(x5_1:Int),v5= .int .i64 x5_1∧Aside0 (laws_eqStmtS.l0 kq l0 l1 x5_1=some r)∧Aside0 (kq≤k)∧Aside0 (Below w.heap.size w w'))
  case atStart=>exact⟨(0),(by first|rfl|(simp;done)|(simp[*];done)),H',⟨Nat.le_refl _⟩,⟨by repeat(first|(with_reducible first|exact HB.out|apply Zh|apply Ze|apply Zd)|exact HB.out)⟩⟩
  case round=>
   clear H'
   (try clear c1);(try clear c3);(try clear c3b0);(try clear c3b1);(try clear c3b2)
   obtain⟨x5_1,rfl,HA,HK1,HB⟩:=hrel
   cases gk with
   |zero=>exact absurd HA.out (by simp[laws_eqStmtS.l0])
   |succ k1=>
    have H:=HA.out
    clear HA
    simp only[laws_eqStmtS.l0] at H
    by_cases c4:x5_1<(l0.length:Int)
    ·rw[if_pos c4] at H
     have c4b0:decide (x5_1<(l0.length:Int))=true:=Zq c4
     clear c4
     by_cases c5:0≤x5_1
     ·rw[if_pos c5] at H
      have c5b0:decide (0≤x5_1)=true:=Zq c5
      clear c5
      by_cases c6:x5_1<(l1.length:Int)
      ·rw[if_pos c6] at H
       have c6b0:decide (x5_1<(l1.length:Int))=true:=Zq c6
       clear c6
       replace H:=Zl H
       obtain⟨t558,A70,H⟩:=H
       replace H:(if t558=true then (laws_eqStmtS.l0 k1 l0 l1 (wrap64 (x5_1+1))) else (some false))=some r:=H
       have A7:=Za A70
       clear A70
       by_cases c8:t558=true
       ·subst c8
        rw[if_pos rfl] at H
        have H':=Za H
        clear H
        try go_wp2
        have n0_:=Za (Zd HB.out)
        clear HB
        have HB:=n0_
        clear n0_
        have p556:0≤(x5_1:Int):=Zj z16_11
        have q556:x5_1<(l0.length:Int):=Zj z16_11
        obtain⟨ad556,e556,hx556_0,hx556_1,hx556_2,hx556_3,hx556_4,hx556_5⟩:=at_T77 HR0.out x5_1 p556 q556
        have hw556_5:=hx556_5
        have hw556_4:=hx556_4
        have hw556_3:=hx556_3
        have hw556_2:=hx556_2
        have hw556_1:=hx556_1
        have hw556_0:=hx556_0
        cases e556
        replace hx556_0:=(HB.out.cell (Zf w _ hx556_0)).trans hx556_0
        replace hx556_1:=(HB.out.cell (Zf w _ hx556_1)).trans hx556_1
        replace hx556_2:=(HB.out.cell (Zf w _ hx556_2)).trans hx556_2
        replace hx556_3:=(HB.out.cell (Zf w _ hx556_3)).trans hx556_3
        replace hx556_4:=(HB.out.cell (Zf w _ hx556_4)).trans hx556_4
        replace hx556_5:=(HB.out.cell (Zf w _ hx556_5)).trans hx556_5
        replace p556:=eq_true p556
        replace q556:=eq_true q556
        have p557:0≤(x5_1:Int):=Zj z16_11
        have q557:x5_1<(l1.length:Int):=Zj z16_11
        obtain⟨ad557,e557,hx557_0,hx557_1,hx557_2,hx557_3,hx557_4,hx557_5⟩:=at_T77 HR1.out x5_1 p557 q557
        have hw557_5:=hx557_5
        have hw557_4:=hx557_4
        have hw557_3:=hx557_3
        have hw557_2:=hx557_2
        have hw557_1:=hx557_1
        have hw557_0:=hx557_0
        cases e557
        replace hx557_0:=(HB.out.cell (Zf w _ hx557_0)).trans hx557_0
        replace hx557_1:=(HB.out.cell (Zf w _ hx557_1)).trans hx557_1
        replace hx557_2:=(HB.out.cell (Zf w _ hx557_2)).trans hx557_2
        replace hx557_3:=(HB.out.cell (Zf w _ hx557_3)).trans hx557_3
        replace hx557_4:=(HB.out.cell (Zf w _ hx557_4)).trans hx557_4
        replace hx557_5:=(HB.out.cell (Zf w _ hx557_5)).trans hx557_5
        replace p557:=eq_true p557
        replace q557:=eq_true q557
        refine start_ (n:=10) (S:=fun w'=>w'.cell? (ad556.add ((x5_1).toNat*6))=some (.int .i64 ((rd_T77 l0 x5_1).f0))∧w'.cell? ⟨(ad556.add ((x5_1).toNat*6)).block,(ad556.add ((x5_1).toNat*6)).off+1,none⟩=some (.int .i64 ((rd_T77 l0 x5_1).f1))∧w'.cell? ⟨(ad556.add ((x5_1).toNat*6)).block,(ad556.add ((x5_1).toNat*6)).off+2,none⟩=some (.int .i64 ((rd_T77 l0 x5_1).f2))∧w'.cell? ⟨(ad556.add ((x5_1).toNat*6)).block,(ad556.add ((x5_1).toNat*6)).off+3,none⟩=some (.int .i64 ((rd_T77 l0 x5_1).f3.f0))∧w'.cell? ⟨(ad556.add ((x5_1).toNat*6)).block,(ad556.add ((x5_1).toNat*6)).off+4,none⟩=some (.int .i64 ((rd_T77 l0 x5_1).f3.f1))∧w'.cell? ⟨(ad556.add ((x5_1).toNat*6)).block,(ad556.add ((x5_1).toNat*6)).off+5,none⟩=some (.int .i64 ((rd_T77 l0 x5_1).f3.f2))∧w'.cell? (ad557.add ((x5_1).toNat*6))=some (.int .i64 ((rd_T77 l1 x5_1).f0))∧w'.cell? ⟨(ad557.add ((x5_1).toNat*6)).block,(ad557.add ((x5_1).toNat*6)).off+1,none⟩=some (.int .i64 ((rd_T77 l1 x5_1).f1))∧w'.cell? ⟨(ad557.add ((x5_1).toNat*6)).block,(ad557.add ((x5_1).toNat*6)).off+2,none⟩=some (.int .i64 ((rd_T77 l1 x5_1).f2))∧w'.cell? ⟨(ad557.add ((x5_1).toNat*6)).block,(ad557.add ((x5_1).toNat*6)).off+3,none⟩=some (.int .i64 ((rd_T77 l1 x5_1).f3.f0))∧w'.cell? ⟨(ad557.add ((x5_1).toNat*6)).block,(ad557.add ((x5_1).toNat*6)).off+4,none⟩=some (.int .i64 ((rd_T77 l1 x5_1).f3.f1))∧w'.cell? ⟨(ad557.add ((x5_1).toNat*6)).block,(ad557.add ((x5_1).toNat*6)).off+5,none⟩=some (.int .i64 ((rd_T77 l1 x5_1).f3.f2))) (ds:=[]) #[false,false,false,false,false,false,false,false,false,false] z16_9 rfl rfl ⟨((HB.out.cell (Zf w _ hw556_0)).trans hw556_0),((HB.out.cell (Zf w _ hw556_1)).trans hw556_1),((HB.out.cell (Zf w _ hw556_2)).trans hw556_2),((HB.out.cell (Zf w _ hw556_3)).trans hw556_3),((HB.out.cell (Zf w _ hw556_4)).trans hw556_4),((HB.out.cell (Zf w _ hw556_5)).trans hw556_5),((HB.out.cell (Zf w _ hw557_0)).trans hw557_0),((HB.out.cell (Zf w _ hw557_1)).trans hw557_1),((HB.out.cell (Zf w _ hw557_2)).trans hw557_2),((HB.out.cell (Zf w _ hw557_3)).trans hw557_3),((HB.out.cell (Zf w _ hw557_4)).trans hw557_4),((HB.out.cell (Zf w _ hw557_5)).trans hw557_5)⟩ (fun hHeld=> ?_);refine with_tabW laws_eqStmtS.tab6 laws_eqStmtS.bits6 (fun HT_ HW_=> ?_)
        generalize wr.drew=w9 at HB hx556_0 hx556_1 hx556_2 hx556_3 hx556_4 hx556_5 hx557_0 hx557_1 hx557_2 hx557_3 hx557_4 hx557_5 hHeld ⊢
        refine pure_ (i:=0) (N:=some 17) (v:= ?_) (a':= ?_) #[true,false,false,false,false,false,false,false,false,false] rfl rfl (any_of HT_.out z16_9) (fun _ _ _ h=>h) (Or.inl ⟨by rfl,?_⟩) ?_ ?_
        rotate_left
        ·intro w'
         go_simp
         with_reducible rfl
        rotate_left
        ·simp only[Act.put,Zu,Zv,Zw,i64_w,i32_w]
         rfl
        refine pure_ (i:=1) (N:=some 18) (v:= ?_) (a':= ?_) #[true,true,false,false,false,false,false,false,false,false] rfl rfl (any_of HT_.out z16_9) (fun _ _ _ h=>h) (Or.inl ⟨by rfl,?_⟩) ?_ ?_
        rotate_left
        ·intro w'
         go_simp
         with_reducible rfl
        rotate_left
        ·simp only[Act.put,Zu,Zv,Zw,i64_w,i32_w]
         rfl
        refine pure_ (i:=2) (N:=some 19) (v:= ?_) (a':= ?_) #[true,true,true,false,false,false,false,false,false,false] rfl rfl (any_of HT_.out z16_9) (fun _ _ _ h=>h) (Or.inl ⟨by rfl,?_⟩) ?_ ?_
        rotate_left
        ·intro w'
         go_simp
         with_reducible rfl
        rotate_left
        ·simp only[Act.put,Zu,Zv,Zw,i64_w,i32_w]
         rfl
        refine pure_ (i:=4) (N:=some 21) (v:= ?_) (a':= ?_) #[true,true,true,false,true,false,false,false,false,false] rfl rfl (any_of HT_.out z16_9) (fun _ _ _ h=>h) (Or.inl ⟨by rfl,?_⟩) ?_ ?_
        rotate_left
        ·intro w'
         go_simp
         with_reducible rfl
        rotate_left
        ·simp only[Act.put,Zu,Zv,Zw,i64_w,i32_w]
         rfl
        refine pure_ (i:=5) (N:=some 22) (v:= ?_) (a':= ?_) #[true,true,true,false,true,true,false,false,false,false] rfl rfl (any_of HT_.out z16_9) (fun _ _ _ h=>h) (Or.inl ⟨by rfl,?_⟩) ?_ ?_
        rotate_left
        ·intro w'
         go_simp
         with_reducible rfl
        rotate_left
        ·simp only[Act.put,Zu,Zv,Zw,i64_w,i32_w]
         rfl
        refine pure_ (i:=6) (N:=some 23) (v:= ?_) (a':= ?_) #[true,true,true,false,true,true,true,false,false,false] rfl rfl (any_of HT_.out z16_9) (fun _ _ _ h=>h) (Or.inl ⟨by rfl,?_⟩) ?_ ?_
        rotate_left
        ·intro w'
         go_simp
         with_reducible rfl
        rotate_left
        ·simp only[Act.put,Zu,Zv,Zw,i64_w,i32_w]
         rfl
        refine take_ (i:=3) (N:=some 20) (v:= ?_) (a':= ?_) #[true,true,true,true,true,true,true,false,false,false] rfl rfl (take_ofW HT_.out HW_.out z16_9) (fun _ _ _ h=>h) (Or.inl ⟨by rfl,?_⟩) hHeld ?_ ?_
        rotate_left
        ·rintro w' ⟨s0,s1,s2,s3,s4,s5,s6,s7,s8,s9,s10,s11⟩
         go_simp
         with_reducible rfl
        rotate_left
        ·simp only[Act.put,Zu,Zv,Zw,i64_w,i32_w]
         rfl
        refine take_ (i:=7) (N:=some 24) (v:= ?_) (a':= ?_) #[true,true,true,true,true,true,true,true,false,false] rfl rfl (take_ofW HT_.out HW_.out z16_9) (fun _ _ _ h=>h) (Or.inl ⟨by rfl,?_⟩) hHeld ?_ ?_
        rotate_left
        ·rintro w' ⟨s0,s1,s2,s3,s4,s5,s6,s7,s8,s9,s10,s11⟩
         go_simp
         with_reducible rfl
        rotate_left
        ·simp only[Act.put,Zu,Zv,Zw,i64_w,i32_w]
         rfl
        refine one_ (i:=8) (N:=some 25) #[true,true,true,true,true,true,true,true,true,false] rfl rfl (one_of HT_.out z16_9) (by decide) (fun K hK=> ?_)
        refine goes_ Tryz.func118 z16_9 rfl #[.agg #[.int .i64 ((rd_T77 l0 x5_1).f0),.int .i64 ((rd_T77 l0 x5_1).f1),.int .i64 ((rd_T77 l0 x5_1).f2),.int .i64 ((rd_T77 l0 x5_1).f3.f0),.int .i64 ((rd_T77 l0 x5_1).f3.f1),.int .i64 ((rd_T77 l0 x5_1).f3.f2)],.agg #[.int .i64 ((rd_T77 l1 x5_1).f0),.int .i64 ((rd_T77 l1 x5_1).f1),.int .i64 ((rd_T77 l1 x5_1).f2),.int .i64 ((rd_T77 l1 x5_1).f3.f0),.int .i64 ((rd_T77 l1 x5_1).f3.f1),.int .i64 ((rd_T77 l1 x5_1).f3.f2)]] (by rfl) rfl rfl z16_8 ?_
        with_reducible refine(laws_eqStmt.calls ((rd_T77 l0 x5_1).f0) ((rd_T77 l0 x5_1).f1) ((rd_T77 l0 x5_1).f2) ((rd_T77 l0 x5_1).f3.f0) ((rd_T77 l0 x5_1).f3.f1) ((rd_T77 l0 x5_1).f3.f2) ((rd_T77 l1 x5_1).f0) ((rd_T77 l1 x5_1).f1) ((rd_T77 l1 x5_1).f2) ((rd_T77 l1 x5_1).f3.f0) ((rd_T77 l1 x5_1).f3.f1) ((rd_T77 l1 x5_1).f3.f2) true _ A7.out).mono ?_
        rintro e w10 ⟨rfl,hb⟩
        refine⟨_,rfl,?_⟩
        have n0_:=Za (Zi z16_0 hb)
        clear HB
        have HB:=n0_
        clear n0_
        (try clear hb)
        (try clear hb2)
        (try clear hk)
        (try clear hi)
        refine hK.out _ _ ⟨((HB.out.cell (Zf w _ hw556_0)).trans hw556_0),((HB.out.cell (Zf w _ hw556_1)).trans hw556_1),((HB.out.cell (Zf w _ hw556_2)).trans hw556_2),((HB.out.cell (Zf w _ hw556_3)).trans hw556_3),((HB.out.cell (Zf w _ hw556_4)).trans hw556_4),((HB.out.cell (Zf w _ hw556_5)).trans hw556_5),((HB.out.cell (Zf w _ hw557_0)).trans hw557_0),((HB.out.cell (Zf w _ hw557_1)).trans hw557_1),((HB.out.cell (Zf w _ hw557_2)).trans hw557_2),((HB.out.cell (Zf w _ hw557_3)).trans hw557_3),((HB.out.cell (Zf w _ hw557_4)).trans hw557_4),((HB.out.cell (Zf w _ hw557_5)).trans hw557_5)⟩ (fun hHeld=> ?_)
        clear hK K
        refine norm_ (a':= ?_) ?_ ?_
        rotate_left
        ·show Act.put _ (some 25) _=_
         simp only[Act.put,Zu,Zv,Zw,i64_w,i32_w]
         rfl
        refine pure_ (i:=9) (N:=some 26) (v:= ?_) (a':= ?_) #[true,true,true,true,true,true,true,true,true,true] rfl rfl (any_of HT_.out z16_9) (fun _ _ _ h=>h) (Or.inl ⟨by rfl,?_⟩) ?_ ?_
        rotate_left
        ·intro w'
         go_simp
         with_reducible rfl
        rotate_left
        ·simp only[Act.put,Zu,Zv,Zw,i64_w,i32_w]
         rfl
        refine done_ (done_of HT_.out z16_9) ?_
        try go_wp2
        go_roundg k1
        case measure=>have:=HK1.out;omega
        case rel=>exact⟨(wrap64 (x5_1+1)),(by first|rfl|(simp;done)|(simp[*];done)),H',⟨by have:=HK1.out;omega⟩,⟨by repeat(first|(with_reducible first|exact HB.out|apply Zh|apply Ze|apply Zd)|exact HB.out)⟩⟩
       ·replace c8:=Bool.eq_false_iff.mpr c8
        subst c8
        rw[if_neg (show ¬(false=true) by decide)] at H
        obtain rfl:=Zm H
        try go_wp2
        have n0_:=Za (Zd HB.out)
        clear HB
        have HB:=n0_
        clear n0_
        have p556:0≤(x5_1:Int):=Zj z16_11
        have q556:x5_1<(l0.length:Int):=Zj z16_11
        obtain⟨ad556,e556,hx556_0,hx556_1,hx556_2,hx556_3,hx556_4,hx556_5⟩:=at_T77 HR0.out x5_1 p556 q556
        have hw556_5:=hx556_5
        have hw556_4:=hx556_4
        have hw556_3:=hx556_3
        have hw556_2:=hx556_2
        have hw556_1:=hx556_1
        have hw556_0:=hx556_0
        cases e556
        replace hx556_0:=(HB.out.cell (Zf w _ hx556_0)).trans hx556_0
        replace hx556_1:=(HB.out.cell (Zf w _ hx556_1)).trans hx556_1
        replace hx556_2:=(HB.out.cell (Zf w _ hx556_2)).trans hx556_2
        replace hx556_3:=(HB.out.cell (Zf w _ hx556_3)).trans hx556_3
        replace hx556_4:=(HB.out.cell (Zf w _ hx556_4)).trans hx556_4
        replace hx556_5:=(HB.out.cell (Zf w _ hx556_5)).trans hx556_5
        replace p556:=eq_true p556
        replace q556:=eq_true q556
        have p557:0≤(x5_1:Int):=Zj z16_11
        have q557:x5_1<(l1.length:Int):=Zj z16_11
        obtain⟨ad557,e557,hx557_0,hx557_1,hx557_2,hx557_3,hx557_4,hx557_5⟩:=at_T77 HR1.out x5_1 p557 q557
        have hw557_5:=hx557_5
        have hw557_4:=hx557_4
        have hw557_3:=hx557_3
        have hw557_2:=hx557_2
        have hw557_1:=hx557_1
        have hw557_0:=hx557_0
        cases e557
        replace hx557_0:=(HB.out.cell (Zf w _ hx557_0)).trans hx557_0
        replace hx557_1:=(HB.out.cell (Zf w _ hx557_1)).trans hx557_1
        replace hx557_2:=(HB.out.cell (Zf w _ hx557_2)).trans hx557_2
        replace hx557_3:=(HB.out.cell (Zf w _ hx557_3)).trans hx557_3
        replace hx557_4:=(HB.out.cell (Zf w _ hx557_4)).trans hx557_4
        replace hx557_5:=(HB.out.cell (Zf w _ hx557_5)).trans hx557_5
        replace p557:=eq_true p557
        replace q557:=eq_true q557
        refine start_ (n:=10) (S:=fun w'=>w'.cell? (ad556.add ((x5_1).toNat*6))=some (.int .i64 ((rd_T77 l0 x5_1).f0))∧w'.cell? ⟨(ad556.add ((x5_1).toNat*6)).block,(ad556.add ((x5_1).toNat*6)).off+1,none⟩=some (.int .i64 ((rd_T77 l0 x5_1).f1))∧w'.cell? ⟨(ad556.add ((x5_1).toNat*6)).block,(ad556.add ((x5_1).toNat*6)).off+2,none⟩=some (.int .i64 ((rd_T77 l0 x5_1).f2))∧w'.cell? ⟨(ad556.add ((x5_1).toNat*6)).block,(ad556.add ((x5_1).toNat*6)).off+3,none⟩=some (.int .i64 ((rd_T77 l0 x5_1).f3.f0))∧w'.cell? ⟨(ad556.add ((x5_1).toNat*6)).block,(ad556.add ((x5_1).toNat*6)).off+4,none⟩=some (.int .i64 ((rd_T77 l0 x5_1).f3.f1))∧w'.cell? ⟨(ad556.add ((x5_1).toNat*6)).block,(ad556.add ((x5_1).toNat*6)).off+5,none⟩=some (.int .i64 ((rd_T77 l0 x5_1).f3.f2))∧w'.cell? (ad557.add ((x5_1).toNat*6))=some (.int .i64 ((rd_T77 l1 x5_1).f0))∧w'.cell? ⟨(ad557.add ((x5_1).toNat*6)).block,(ad557.add ((x5_1).toNat*6)).off+1,none⟩=some (.int .i64 ((rd_T77 l1 x5_1).f1))∧w'.cell? ⟨(ad557.add ((x5_1).toNat*6)).block,(ad557.add ((x5_1).toNat*6)).off+2,none⟩=some (.int .i64 ((rd_T77 l1 x5_1).f2))∧w'.cell? ⟨(ad557.add ((x5_1).toNat*6)).block,(ad557.add ((x5_1).toNat*6)).off+3,none⟩=some (.int .i64 ((rd_T77 l1 x5_1).f3.f0))∧w'.cell? ⟨(ad557.add ((x5_1).toNat*6)).block,(ad557.add ((x5_1).toNat*6)).off+4,none⟩=some (.int .i64 ((rd_T77 l1 x5_1).f3.f1))∧w'.cell? ⟨(ad557.add ((x5_1).toNat*6)).block,(ad557.add ((x5_1).toNat*6)).off+5,none⟩=some (.int .i64 ((rd_T77 l1 x5_1).f3.f2))) (ds:=[]) #[false,false,false,false,false,false,false,false,false,false] z16_9 rfl rfl ⟨((HB.out.cell (Zf w _ hw556_0)).trans hw556_0),((HB.out.cell (Zf w _ hw556_1)).trans hw556_1),((HB.out.cell (Zf w _ hw556_2)).trans hw556_2),((HB.out.cell (Zf w _ hw556_3)).trans hw556_3),((HB.out.cell (Zf w _ hw556_4)).trans hw556_4),((HB.out.cell (Zf w _ hw556_5)).trans hw556_5),((HB.out.cell (Zf w _ hw557_0)).trans hw557_0),((HB.out.cell (Zf w _ hw557_1)).trans hw557_1),((HB.out.cell (Zf w _ hw557_2)).trans hw557_2),((HB.out.cell (Zf w _ hw557_3)).trans hw557_3),((HB.out.cell (Zf w _ hw557_4)).trans hw557_4),((HB.out.cell (Zf w _ hw557_5)).trans hw557_5)⟩ (fun hHeld=> ?_);refine with_tabW laws_eqStmtS.tab6 laws_eqStmtS.bits6 (fun HT_ HW_=> ?_)
        generalize wr.drew=w11 at HB hx556_0 hx556_1 hx556_2 hx556_3 hx556_4 hx556_5 hx557_0 hx557_1 hx557_2 hx557_3 hx557_4 hx557_5 hHeld ⊢
        refine pure_ (i:=0) (N:=some 17) (v:= ?_) (a':= ?_) #[true,false,false,false,false,false,false,false,false,false] rfl rfl (any_of HT_.out z16_9) (fun _ _ _ h=>h) (Or.inl ⟨by rfl,?_⟩) ?_ ?_
        rotate_left
        ·intro w'
         go_simp
         with_reducible rfl
        rotate_left
        ·simp only[Act.put,Zu,Zv,Zw,i64_w,i32_w]
         rfl
        refine pure_ (i:=1) (N:=some 18) (v:= ?_) (a':= ?_) #[true,true,false,false,false,false,false,false,false,false] rfl rfl (any_of HT_.out z16_9) (fun _ _ _ h=>h) (Or.inl ⟨by rfl,?_⟩) ?_ ?_
        rotate_left
        ·intro w'
         go_simp
         with_reducible rfl
        rotate_left
        ·simp only[Act.put,Zu,Zv,Zw,i64_w,i32_w]
         rfl
        refine pure_ (i:=2) (N:=some 19) (v:= ?_) (a':= ?_) #[true,true,true,false,false,false,false,false,false,false] rfl rfl (any_of HT_.out z16_9) (fun _ _ _ h=>h) (Or.inl ⟨by rfl,?_⟩) ?_ ?_
        rotate_left
        ·intro w'
         go_simp
         with_reducible rfl
        rotate_left
        ·simp only[Act.put,Zu,Zv,Zw,i64_w,i32_w]
         rfl
        refine pure_ (i:=4) (N:=some 21) (v:= ?_) (a':= ?_) #[true,true,true,false,true,false,false,false,false,false] rfl rfl (any_of HT_.out z16_9) (fun _ _ _ h=>h) (Or.inl ⟨by rfl,?_⟩) ?_ ?_
        rotate_left
        ·intro w'
         go_simp
         with_reducible rfl
        rotate_left
        ·simp only[Act.put,Zu,Zv,Zw,i64_w,i32_w]
         rfl
        refine pure_ (i:=5) (N:=some 22) (v:= ?_) (a':= ?_) #[true,true,true,false,true,true,false,false,false,false] rfl rfl (any_of HT_.out z16_9) (fun _ _ _ h=>h) (Or.inl ⟨by rfl,?_⟩) ?_ ?_
        rotate_left
        ·intro w'
         go_simp
         with_reducible rfl
        rotate_left
        ·simp only[Act.put,Zu,Zv,Zw,i64_w,i32_w]
         rfl
        refine pure_ (i:=6) (N:=some 23) (v:= ?_) (a':= ?_) #[true,true,true,false,true,true,true,false,false,false] rfl rfl (any_of HT_.out z16_9) (fun _ _ _ h=>h) (Or.inl ⟨by rfl,?_⟩) ?_ ?_
        rotate_left
        ·intro w'
         go_simp
         with_reducible rfl
        rotate_left
        ·simp only[Act.put,Zu,Zv,Zw,i64_w,i32_w]
         rfl
        refine take_ (i:=3) (N:=some 20) (v:= ?_) (a':= ?_) #[true,true,true,true,true,true,true,false,false,false] rfl rfl (take_ofW HT_.out HW_.out z16_9) (fun _ _ _ h=>h) (Or.inl ⟨by rfl,?_⟩) hHeld ?_ ?_
        rotate_left
        ·rintro w' ⟨s0,s1,s2,s3,s4,s5,s6,s7,s8,s9,s10,s11⟩
         go_simp
         with_reducible rfl
        rotate_left
        ·simp only[Act.put,Zu,Zv,Zw,i64_w,i32_w]
         rfl
        refine take_ (i:=7) (N:=some 24) (v:= ?_) (a':= ?_) #[true,true,true,true,true,true,true,true,false,false] rfl rfl (take_ofW HT_.out HW_.out z16_9) (fun _ _ _ h=>h) (Or.inl ⟨by rfl,?_⟩) hHeld ?_ ?_
        rotate_left
        ·rintro w' ⟨s0,s1,s2,s3,s4,s5,s6,s7,s8,s9,s10,s11⟩
         go_simp
         with_reducible rfl
        rotate_left
        ·simp only[Act.put,Zu,Zv,Zw,i64_w,i32_w]
         rfl
        refine one_ (i:=8) (N:=some 25) #[true,true,true,true,true,true,true,true,true,false] rfl rfl (one_of HT_.out z16_9) (by decide) (fun K hK=> ?_)
        refine goes_ Tryz.func118 z16_9 rfl #[.agg #[.int .i64 ((rd_T77 l0 x5_1).f0),.int .i64 ((rd_T77 l0 x5_1).f1),.int .i64 ((rd_T77 l0 x5_1).f2),.int .i64 ((rd_T77 l0 x5_1).f3.f0),.int .i64 ((rd_T77 l0 x5_1).f3.f1),.int .i64 ((rd_T77 l0 x5_1).f3.f2)],.agg #[.int .i64 ((rd_T77 l1 x5_1).f0),.int .i64 ((rd_T77 l1 x5_1).f1),.int .i64 ((rd_T77 l1 x5_1).f2),.int .i64 ((rd_T77 l1 x5_1).f3.f0),.int .i64 ((rd_T77 l1 x5_1).f3.f1),.int .i64 ((rd_T77 l1 x5_1).f3.f2)]] (by rfl) rfl rfl z16_8 ?_
        with_reducible refine(laws_eqStmt.calls ((rd_T77 l0 x5_1).f0) ((rd_T77 l0 x5_1).f1) ((rd_T77 l0 x5_1).f2) ((rd_T77 l0 x5_1).f3.f0) ((rd_T77 l0 x5_1).f3.f1) ((rd_T77 l0 x5_1).f3.f2) ((rd_T77 l1 x5_1).f0) ((rd_T77 l1 x5_1).f1) ((rd_T77 l1 x5_1).f2) ((rd_T77 l1 x5_1).f3.f0) ((rd_T77 l1 x5_1).f3.f1) ((rd_T77 l1 x5_1).f3.f2) false _ A7.out).mono ?_
        rintro e w12 ⟨rfl,hb⟩
        refine⟨_,rfl,?_⟩
        have n0_:=Za (Zi z16_0 hb)
        clear HB
        have HB:=n0_
        clear n0_
        (try clear hb)
        (try clear hb2)
        (try clear hk)
        (try clear hi)
        refine hK.out _ _ ⟨((HB.out.cell (Zf w _ hw556_0)).trans hw556_0),((HB.out.cell (Zf w _ hw556_1)).trans hw556_1),((HB.out.cell (Zf w _ hw556_2)).trans hw556_2),((HB.out.cell (Zf w _ hw556_3)).trans hw556_3),((HB.out.cell (Zf w _ hw556_4)).trans hw556_4),((HB.out.cell (Zf w _ hw556_5)).trans hw556_5),((HB.out.cell (Zf w _ hw557_0)).trans hw557_0),((HB.out.cell (Zf w _ hw557_1)).trans hw557_1),((HB.out.cell (Zf w _ hw557_2)).trans hw557_2),((HB.out.cell (Zf w _ hw557_3)).trans hw557_3),((HB.out.cell (Zf w _ hw557_4)).trans hw557_4),((HB.out.cell (Zf w _ hw557_5)).trans hw557_5)⟩ (fun hHeld=> ?_)
        clear hK K
        refine norm_ (a':= ?_) ?_ ?_
        rotate_left
        ·show Act.put _ (some 25) _=_
         simp only[Act.put,Zu,Zv,Zw,i64_w,i32_w]
         rfl
        refine pure_ (i:=9) (N:=some 26) (v:= ?_) (a':= ?_) #[true,true,true,true,true,true,true,true,true,true] rfl rfl (any_of HT_.out z16_9) (fun _ _ _ h=>h) (Or.inl ⟨by rfl,?_⟩) ?_ ?_
        rotate_left
        ·intro w'
         go_simp
         with_reducible rfl
        rotate_left
        ·simp only[Act.put,Zu,Zv,Zw,i64_w,i32_w]
         rfl
        refine done_ (done_of HT_.out z16_9) ?_
        try go_wp2
        go_ret
        exact⟨by first|rfl|(simp[errW_none,errW_some]<;>rfl)|(simp[*,errW_none,errW_some]<;>rfl)|(simp[*,errW_none,errW_some,i64_w];done),by repeat(first|(with_reducible first|exact HB.out|apply Zh|apply Ze|apply Zd)|exact HB.out)⟩
      ·rw[if_neg c6] at H
       exact absurd H (by simp)
     ·rw[if_neg c5] at H
      exact absurd H (by simp)
    ·rw[if_neg c4] at H
     have c4b0:decide (x5_1<(l0.length:Int))=false:=Yg c4
     clear c4
     obtain rfl:=Zm H
     go_wp2
     go_ret
     exact⟨by first|rfl|(simp[errW_none,errW_some]<;>rfl)|(simp[*,errW_none,errW_some]<;>rfl)|(simp[*,errW_none,errW_some,i64_w];done),by repeat(first|(with_reducible first|exact HB.out|apply Zh|apply Ze|apply Zd)|exact HB.out)⟩
 ·rw[if_neg c3] at H
  have c3b0:((l0.length:Int)==(l1.length:Int))=false:=beq_eq_false_iff_ne.mpr c3
  have c3b1:((l0.length:Int) != (l1.length:Int))=true:=bne_iff_ne.mpr c3
  have c3b2:(l0.length==l1.length)=false:=by first|simpa using c3|(simp at c3 ⊢;omega)
  obtain rfl:=Zm H
  go_enter Tryz.func103,Tryz.ntmps103
  go_wp2
  go_ret
  exact⟨by first|rfl|(simp[errW_none,errW_some]<;>rfl)|(simp[*,errW_none,errW_some]<;>rfl)|(simp[*,errW_none,errW_some,i64_w];done),by repeat(first|(with_reducible first|exact HB.out|apply Zh|apply Ze|apply Zd)|exact HB.out)⟩
def laws_eqTask.f (k:Nat) (l0_0:List (S77)) (a0_1:Int) (a0_2:Int) (a0_3:Int) (l1_0:List (S77)) (a1_1:Int) (a1_2:Int) (a1_3:Int):Option (Bool):=(laws_eqStmtS.f k l0_0 l1_0).bind fun t561=>(if t561=true then ((laws_eqExpr.f a0_1 a0_2 a0_3 a1_1 a1_2 a1_3).bind fun t562=>(if t562=true then (some true) else (some false))) else (some false))
set_option maxHeartbeats 8000000 in
set_option maxRecDepth 100000 in
theorem laws_eqTask.calls (k:Nat) (A0_0:Option Addr) (c0_0:Nat) (l0_0:List (S77)) (a0_1:Int) (a0_2:Int) (a0_3:Int) (A1_0:Option Addr) (c1_0:Nat) (l1_0:List (S77)) (a1_1:Int) (a1_2:Int) (a1_3:Int) (r:Bool) (w:World) (hr0_0:Kd.C k77 w A0_0 l0_0.length l0_0) (hc0_0:l0_0.length≤c0_0) (hr1_0:Kd.C k77 w A1_0 l1_0.length l1_0) (hc1_0:l1_0.length≤c1_0) (h:laws_eqTask.f k l0_0 a0_1 a0_2 a0_3 l1_0 a1_1 a1_2 a1_3=some r):
  Calls Tryz.prog 70 #[.agg #[.slice A0_0 l0_0.length c0_0,.int .i64 a0_1,.int .i64 a0_2,.int .i64 a0_3],.agg #[.slice A1_0 l1_0.length c1_0,.int .i64 a1_1,.int .i64 a1_2,.int .i64 a1_3]] w fun e w'=>e= .returned (.bool r)∧Below w.heap.size w w':=by
 have hu55:=Tryz.underlying55
 have hu53:=Tryz.underlying53
 have HR0_0:=Za hr0_0
 have HC0_0:=Za hc0_0
 clear hr0_0 hc0_0
 have HR1_0:=Za hr1_0
 have HC1_0:=Za hc1_0
 clear hr1_0 hc1_0
 have HB:=Za (Yc w.heap.size w)
 have H:((laws_eqStmtS.f k l0_0 l1_0).bind fun t561=>(if t561=true then ((laws_eqExpr.f a0_1 a0_2 a0_3 a1_1 a1_2 a1_3).bind fun t562=>(if t562=true then (some true) else (some false))) else (some false)))=some r:=h
 clear h
 replace H:=Zl H
 obtain⟨t561,A30,H⟩:=H
 replace H:(if t561=true then ((laws_eqExpr.f a0_1 a0_2 a0_3 a1_1 a1_2 a1_3).bind fun t562=>(if t562=true then (some true) else (some false))) else (some false))=some r:=H
 have A3:=Za A30
 clear A30
 by_cases c4:t561=true
 ·subst c4
  rw[if_pos rfl] at H
  replace H:=Zl H
  obtain⟨t562,A50,H⟩:=H
  replace H:(if t562=true then (some true) else (some false))=some r:=H
  have A5:=Za A50
  clear A50
  by_cases c6:t562=true
  ·subst c6
   rw[if_pos rfl] at H
   obtain rfl:=Zm H
   go_enter Tryz.func70,Tryz.ntmps70
   go_wp2_with (first|((with_reducible refine Zr (N:=2) rfl ?_);refine Zs ?hg (N:=2) ?hd (cs:= #[.slice A0_0 l0_0.length c0_0,.int .i64 a0_1,.int .i64 a0_2,.int .i64 a0_3]) (t:=55) ?hr ?_;(case hd=>rfl);(case hg=>rfl);(case hr=>exact z16_5);intro gb559 hg w7 hbox hb;have BK559:=Za (hbox);have GW559:=Za ((z16_15:w.heap.size≤gb559));have GE559:=Za ((z16_15:w.heap.size≤gb559));replace HB:=Za (Zi z16_0 hb);clear hb hbox hg)|((with_reducible refine Zr (N:=3) rfl ?_);refine Zs ?hg (N:=3) ?hd (cs:= #[.slice A1_0 l1_0.length c1_0,.int .i64 a1_1,.int .i64 a1_2,.int .i64 a1_3]) (t:=55) ?hr ?_;(case hd=>rfl);(case hg=>rfl);(case hr=>exact z16_5);intro gb560 hg w8 hbox hb;have BK560:=Za (hbox);have GW560:=Za ((by rw[hg];exact(Zt z16_6):w.heap.size≤gb560));have GE560:=Za ((by rw[hg];exact(Zt z16_6):w.heap.size≤gb560));replace HB:=Za (Zi z16_6 hb);have NB559_560:=Za ((z16_20:gb559≠gb560));have NB560_559:=Za ((z16_21:gb560≠gb559));replace BK559:=Za (Zk (g:=gb559) (o:= .cells #[.slice A0_0 l0_0.length c0_0,.int .i64 a0_1,.int .i64 a0_2,.int .i64 a0_3] 55 (0,0)) z16_4 hb);clear hb hbox hg;have hnb9:=NB559_560.out;have hnc9:=NB560_559.out;have hcz10_0:w8.cell? ⟨gb559,0,none⟩=some (.slice A0_0 l0_0.length c0_0):=(Zb BK559.out 0).trans rfl;have hcz10_1:w8.cell? ⟨gb559,1,none⟩=some (.int .i64 a0_1):=(Zb BK559.out 1).trans rfl;have hcz10_2:w8.cell? ⟨gb559,2,none⟩=some (.int .i64 a0_2):=(Zb BK559.out 2).trans rfl;have hcz10_3:w8.cell? ⟨gb559,3,none⟩=some (.int .i64 a0_3):=(Zb BK559.out 3).trans rfl;have hfz10_0:=Zc BK559.out 0;have hfz10_1:=Zc BK559.out 1;have hfz10_2:=Zc BK559.out 2;have hfz10_3:=Zc BK559.out 3;have hcz11_0:w8.cell? ⟨gb560,0,none⟩=some (.slice A1_0 l1_0.length c1_0):=(Zb BK560.out 0).trans rfl;have hcz11_1:w8.cell? ⟨gb560,1,none⟩=some (.int .i64 a1_1):=(Zb BK560.out 1).trans rfl;have hcz11_2:w8.cell? ⟨gb560,2,none⟩=some (.int .i64 a1_2):=(Zb BK560.out 2).trans rfl;have hcz11_3:w8.cell? ⟨gb560,3,none⟩=some (.int .i64 a1_3):=(Zb BK560.out 3).trans rfl;have hfz11_0:=Zc BK560.out 0;have hfz11_1:=Zc BK560.out 1;have hfz11_2:=Zc BK560.out 2;have hfz11_3:=Zc BK560.out 3)|((first|((with_reducible refine gate_callee (f:=103) rfl ?_);refine goesL_ (some 9) rfl rfl Tryz.func103 z16_9 rfl #[.slice A0_0 l0_0.length c0_0,.slice A1_0 l1_0.length c1_0] rfl z16_8 ?_;(with_reducible refine(laws_eqStmtS.calls k _ _ l0_0 _ _ l1_0 true _ ?side1 ?side2 ?side3 ?side4 A3.out).mono ?_))|(go_at_call 103;(with_reducible refine(laws_eqStmtS.calls k _ _ l0_0 _ _ l1_0 true _ ?side1 ?side2 ?side3 ?side4 A3.out).mono ?_)));(case side1=>exact z16_14);(case side2=>exact HC0_0.out);(case side3=>exact z16_13);(case side4=>exact HC1_0.out);rintro e w12 ⟨rfl,hb⟩;(first|refine⟨_,rfl,?_⟩|skip);replace BK559:=Za (Zk (g:=gb559) (o:= .cells #[.slice A0_0 l0_0.length c0_0,.int .i64 a0_1,.int .i64 a0_2,.int .i64 a0_3] 55 (0,0)) z16_4 hb);replace BK560:=Za (Zk (g:=gb560) (o:= .cells #[.slice A1_0 l1_0.length c1_0,.int .i64 a1_1,.int .i64 a1_2,.int .i64 a1_3] 55 (0,0)) z16_12 hb);replace HB:=Za (Zi z16_10 hb);(try clear hb);(try clear hb2);(try clear hk);(try clear hi);have hcz13_0:w12.cell? ⟨gb559,0,none⟩=some (.slice A0_0 l0_0.length c0_0):=(Zb BK559.out 0).trans rfl;have hcz13_1:w12.cell? ⟨gb559,1,none⟩=some (.int .i64 a0_1):=(Zb BK559.out 1).trans rfl;have hcz13_2:w12.cell? ⟨gb559,2,none⟩=some (.int .i64 a0_2):=(Zb BK559.out 2).trans rfl;have hcz13_3:w12.cell? ⟨gb559,3,none⟩=some (.int .i64 a0_3):=(Zb BK559.out 3).trans rfl;have hfz13_0:=Zc BK559.out 0;have hfz13_1:=Zc BK559.out 1;have hfz13_2:=Zc BK559.out 2;have hfz13_3:=Zc BK559.out 3;have hcz14_0:w12.cell? ⟨gb560,0,none⟩=some (.slice A1_0 l1_0.length c1_0):=(Zb BK560.out 0).trans rfl;have hcz14_1:w12.cell? ⟨gb560,1,none⟩=some (.int .i64 a1_1):=(Zb BK560.out 1).trans rfl;have hcz14_2:w12.cell? ⟨gb560,2,none⟩=some (.int .i64 a1_2):=(Zb BK560.out 2).trans rfl;have hcz14_3:w12.cell? ⟨gb560,3,none⟩=some (.int .i64 a1_3):=(Zb BK560.out 3).trans rfl;have hfz14_0:=Zc BK560.out 0;have hfz14_1:=Zc BK560.out 1;have hfz14_2:=Zc BK560.out 2;have hfz14_3:=Zc BK560.out 3)|((first|((with_reducible refine gate_callee (f:=104) rfl ?_);refine goesL_ (some 15) rfl rfl Tryz.func104 z16_9 rfl #[.agg #[.int .i64 a0_1,.int .i64 a0_2,.int .i64 a0_3],.agg #[.int .i64 a1_1,.int .i64 a1_2,.int .i64 a1_3]] rfl z16_8 ?_;(with_reducible refine(laws_eqExpr.calls a0_1 a0_2 a0_3 a1_1 a1_2 a1_3 true _ A5.out).mono ?_))|(go_at_call 104;(with_reducible refine(laws_eqExpr.calls a0_1 a0_2 a0_3 a1_1 a1_2 a1_3 true _ A5.out).mono ?_)));rintro e w15 ⟨rfl,hb⟩;(first|refine⟨_,rfl,?_⟩|skip);replace BK559:=Za (Zk (g:=gb559) (o:= .cells #[.slice A0_0 l0_0.length c0_0,.int .i64 a0_1,.int .i64 a0_2,.int .i64 a0_3] 55 (0,0)) z16_4 hb);replace BK560:=Za (Zk (g:=gb560) (o:= .cells #[.slice A1_0 l1_0.length c1_0,.int .i64 a1_1,.int .i64 a1_2,.int .i64 a1_3] 55 (0,0)) z16_12 hb);replace HB:=Za (Zi z16_10 hb);(try clear hb);(try clear hb2);(try clear hk);(try clear hi)))
   go_ret
   exact⟨by first|rfl|(simp[errW_none,errW_some]<;>rfl)|(simp[*,errW_none,errW_some]<;>rfl)|(simp[*,errW_none,errW_some,i64_w];done),by repeat(first|(with_reducible first|exact HB.out|apply Zh|apply Ze|apply Zd|refine Zg ?_ GE559.out|refine Zg ?_ GE560.out)|exact HB.out)⟩
  ·replace c6:=Bool.eq_false_iff.mpr c6
   subst c6
   rw[if_neg (show ¬(false=true) by decide)] at H
   obtain rfl:=Zm H
   go_enter Tryz.func70,Tryz.ntmps70
   go_wp2_with (first|((with_reducible refine Zr (N:=2) rfl ?_);refine Zs ?hg (N:=2) ?hd (cs:= #[.slice A0_0 l0_0.length c0_0,.int .i64 a0_1,.int .i64 a0_2,.int .i64 a0_3]) (t:=55) ?hr ?_;(case hd=>rfl);(case hg=>rfl);(case hr=>exact z16_5);intro gb559 hg w16 hbox hb;have BK559:=Za (hbox);have GW559:=Za ((z16_15:w.heap.size≤gb559));have GE559:=Za ((z16_15:w.heap.size≤gb559));replace HB:=Za (Zi z16_0 hb);clear hb hbox hg)|((with_reducible refine Zr (N:=3) rfl ?_);refine Zs ?hg (N:=3) ?hd (cs:= #[.slice A1_0 l1_0.length c1_0,.int .i64 a1_1,.int .i64 a1_2,.int .i64 a1_3]) (t:=55) ?hr ?_;(case hd=>rfl);(case hg=>rfl);(case hr=>exact z16_5);intro gb560 hg w17 hbox hb;have BK560:=Za (hbox);have GW560:=Za ((by rw[hg];exact(Zt z16_6):w.heap.size≤gb560));have GE560:=Za ((by rw[hg];exact(Zt z16_6):w.heap.size≤gb560));replace HB:=Za (Zi z16_6 hb);have NB559_560:=Za ((z16_20:gb559≠gb560));have NB560_559:=Za ((z16_21:gb560≠gb559));replace BK559:=Za (Zk (g:=gb559) (o:= .cells #[.slice A0_0 l0_0.length c0_0,.int .i64 a0_1,.int .i64 a0_2,.int .i64 a0_3] 55 (0,0)) z16_4 hb);clear hb hbox hg;have hnb18:=NB559_560.out;have hnc18:=NB560_559.out;have hcz19_0:w17.cell? ⟨gb559,0,none⟩=some (.slice A0_0 l0_0.length c0_0):=(Zb BK559.out 0).trans rfl;have hcz19_1:w17.cell? ⟨gb559,1,none⟩=some (.int .i64 a0_1):=(Zb BK559.out 1).trans rfl;have hcz19_2:w17.cell? ⟨gb559,2,none⟩=some (.int .i64 a0_2):=(Zb BK559.out 2).trans rfl;have hcz19_3:w17.cell? ⟨gb559,3,none⟩=some (.int .i64 a0_3):=(Zb BK559.out 3).trans rfl;have hfz19_0:=Zc BK559.out 0;have hfz19_1:=Zc BK559.out 1;have hfz19_2:=Zc BK559.out 2;have hfz19_3:=Zc BK559.out 3;have hcz20_0:w17.cell? ⟨gb560,0,none⟩=some (.slice A1_0 l1_0.length c1_0):=(Zb BK560.out 0).trans rfl;have hcz20_1:w17.cell? ⟨gb560,1,none⟩=some (.int .i64 a1_1):=(Zb BK560.out 1).trans rfl;have hcz20_2:w17.cell? ⟨gb560,2,none⟩=some (.int .i64 a1_2):=(Zb BK560.out 2).trans rfl;have hcz20_3:w17.cell? ⟨gb560,3,none⟩=some (.int .i64 a1_3):=(Zb BK560.out 3).trans rfl;have hfz20_0:=Zc BK560.out 0;have hfz20_1:=Zc BK560.out 1;have hfz20_2:=Zc BK560.out 2;have hfz20_3:=Zc BK560.out 3)|((first|((with_reducible refine gate_callee (f:=103) rfl ?_);refine goesL_ (some 9) rfl rfl Tryz.func103 z16_9 rfl #[.slice A0_0 l0_0.length c0_0,.slice A1_0 l1_0.length c1_0] rfl z16_8 ?_;(with_reducible refine(laws_eqStmtS.calls k _ _ l0_0 _ _ l1_0 true _ ?side1 ?side2 ?side3 ?side4 A3.out).mono ?_))|(go_at_call 103;(with_reducible refine(laws_eqStmtS.calls k _ _ l0_0 _ _ l1_0 true _ ?side1 ?side2 ?side3 ?side4 A3.out).mono ?_)));(case side1=>exact z16_14);(case side2=>exact HC0_0.out);(case side3=>exact z16_13);(case side4=>exact HC1_0.out);rintro e w21 ⟨rfl,hb⟩;(first|refine⟨_,rfl,?_⟩|skip);replace BK559:=Za (Zk (g:=gb559) (o:= .cells #[.slice A0_0 l0_0.length c0_0,.int .i64 a0_1,.int .i64 a0_2,.int .i64 a0_3] 55 (0,0)) z16_4 hb);replace BK560:=Za (Zk (g:=gb560) (o:= .cells #[.slice A1_0 l1_0.length c1_0,.int .i64 a1_1,.int .i64 a1_2,.int .i64 a1_3] 55 (0,0)) z16_12 hb);replace HB:=Za (Zi z16_10 hb);(try clear hb);(try clear hb2);(try clear hk);(try clear hi);have hcz22_0:w21.cell? ⟨gb559,0,none⟩=some (.slice A0_0 l0_0.length c0_0):=(Zb BK559.out 0).trans rfl;have hcz22_1:w21.cell? ⟨gb559,1,none⟩=some (.int .i64 a0_1):=(Zb BK559.out 1).trans rfl;have hcz22_2:w21.cell? ⟨gb559,2,none⟩=some (.int .i64 a0_2):=(Zb BK559.out 2).trans rfl;have hcz22_3:w21.cell? ⟨gb559,3,none⟩=some (.int .i64 a0_3):=(Zb BK559.out 3).trans rfl;have hfz22_0:=Zc BK559.out 0;have hfz22_1:=Zc BK559.out 1;have hfz22_2:=Zc BK559.out 2;have hfz22_3:=Zc BK559.out 3;have hcz23_0:w21.cell? ⟨gb560,0,none⟩=some (.slice A1_0 l1_0.length c1_0):=(Zb BK560.out 0).trans rfl;have hcz23_1:w21.cell? ⟨gb560,1,none⟩=some (.int .i64 a1_1):=(Zb BK560.out 1).trans rfl;have hcz23_2:w21.cell? ⟨gb560,2,none⟩=some (.int .i64 a1_2):=(Zb BK560.out 2).trans rfl;have hcz23_3:w21.cell? ⟨gb560,3,none⟩=some (.int .i64 a1_3):=(Zb BK560.out 3).trans rfl;have hfz23_0:=Zc BK560.out 0;have hfz23_1:=Zc BK560.out 1;have hfz23_2:=Zc BK560.out 2;have hfz23_3:=Zc BK560.out 3)|((first|((with_reducible refine gate_callee (f:=104) rfl ?_);refine goesL_ (some 15) rfl rfl Tryz.func104 z16_9 rfl #[.agg #[.int .i64 a0_1,.int .i64 a0_2,.int .i64 a0_3],.agg #[.int .i64 a1_1,.int .i64 a1_2,.int .i64 a1_3]] rfl z16_8 ?_;(with_reducible refine(laws_eqExpr.calls a0_1 a0_2 a0_3 a1_1 a1_2 a1_3 false _ A5.out).mono ?_))|(go_at_call 104;(with_reducible refine(laws_eqExpr.calls a0_1 a0_2 a0_3 a1_1 a1_2 a1_3 false _ A5.out).mono ?_)));rintro e w24 ⟨rfl,hb⟩;(first|refine⟨_,rfl,?_⟩|skip);replace BK559:=Za (Zk (g:=gb559) (o:= .cells #[.slice A0_0 l0_0.length c0_0,.int .i64 a0_1,.int .i64 a0_2,.int .i64 a0_3] 55 (0,0)) z16_4 hb);replace BK560:=Za (Zk (g:=gb560) (o:= .cells #[.slice A1_0 l1_0.length c1_0,.int .i64 a1_1,.int .i64 a1_2,.int .i64 a1_3] 55 (0,0)) z16_12 hb);replace HB:=Za (Zi z16_10 hb);(try clear hb);(try clear hb2);(try clear hk);(try clear hi)))
   go_ret
   exact⟨by first|rfl|(simp[errW_none,errW_some]<;>rfl)|(simp[*,errW_none,errW_some]<;>rfl)|(simp[*,errW_none,errW_some,i64_w];done),by repeat(first|(with_reducible first|exact HB.out|apply Zh|apply Ze|apply Zd|refine Zg ?_ GE559.out|refine Zg ?_ GE560.out)|exact HB.out)⟩
 ·replace c4:=Bool.eq_false_iff.mpr c4
  subst c4
  rw[if_neg (show ¬(false=true) by decide)] at H
  obtain rfl:=Zm H
  go_enter Tryz.func70,Tryz.ntmps70
  go_wp2_with (first|((with_reducible refine Zr (N:=2) rfl ?_);refine Zs ?hg (N:=2) ?hd (cs:= #[.slice A0_0 l0_0.length c0_0,.int .i64 a0_1,.int .i64 a0_2,.int .i64 a0_3]) (t:=55) ?hr ?_;(case hd=>rfl);(case hg=>rfl);(case hr=>exact z16_5);intro gb559 hg w25 hbox hb;have BK559:=Za (hbox);have GW559:=Za ((z16_15:w.heap.size≤gb559));have GE559:=Za ((z16_15:w.heap.size≤gb559));replace HB:=Za (Zi z16_0 hb);clear hb hbox hg)|((with_reducible refine Zr (N:=3) rfl ?_);refine Zs ?hg (N:=3) ?hd (cs:= #[.slice A1_0 l1_0.length c1_0,.int .i64 a1_1,.int .i64 a1_2,.int .i64 a1_3]) (t:=55) ?hr ?_;(case hd=>rfl);(case hg=>rfl);(case hr=>exact z16_5);intro gb560 hg w26 hbox hb;have BK560:=Za (hbox);have GW560:=Za ((by rw[hg];exact(Zt z16_6):w.heap.size≤gb560));have GE560:=Za ((by rw[hg];exact(Zt z16_6):w.heap.size≤gb560));replace HB:=Za (Zi z16_6 hb);have NB559_560:=Za ((z16_20:gb559≠gb560));have NB560_559:=Za ((z16_21:gb560≠gb559));replace BK559:=Za (Zk (g:=gb559) (o:= .cells #[.slice A0_0 l0_0.length c0_0,.int .i64 a0_1,.int .i64 a0_2,.int .i64 a0_3] 55 (0,0)) z16_4 hb);clear hb hbox hg;have hnb27:=NB559_560.out;have hnc27:=NB560_559.out;have hcz28_0:w26.cell? ⟨gb559,0,none⟩=some (.slice A0_0 l0_0.length c0_0):=(Zb BK559.out 0).trans rfl;have hcz28_1:w26.cell? ⟨gb559,1,none⟩=some (.int .i64 a0_1):=(Zb BK559.out 1).trans rfl;have hcz28_2:w26.cell? ⟨gb559,2,none⟩=some (.int .i64 a0_2):=(Zb BK559.out 2).trans rfl;have hcz28_3:w26.cell? ⟨gb559,3,none⟩=some (.int .i64 a0_3):=(Zb BK559.out 3).trans rfl;have hfz28_0:=Zc BK559.out 0;have hfz28_1:=Zc BK559.out 1;have hfz28_2:=Zc BK559.out 2;have hfz28_3:=Zc BK559.out 3;have hcz29_0:w26.cell? ⟨gb560,0,none⟩=some (.slice A1_0 l1_0.length c1_0):=(Zb BK560.out 0).trans rfl;have hcz29_1:w26.cell? ⟨gb560,1,none⟩=some (.int .i64 a1_1):=(Zb BK560.out 1).trans rfl;have hcz29_2:w26.cell? ⟨gb560,2,none⟩=some (.int .i64 a1_2):=(Zb BK560.out 2).trans rfl;have hcz29_3:w26.cell? ⟨gb560,3,none⟩=some (.int .i64 a1_3):=(Zb BK560.out 3).trans rfl;have hfz29_0:=Zc BK560.out 0;have hfz29_1:=Zc BK560.out 1;have hfz29_2:=Zc BK560.out 2;have hfz29_3:=Zc BK560.out 3)|((first|((with_reducible refine gate_callee (f:=103) rfl ?_);refine goesL_ (some 9) rfl rfl Tryz.func103 z16_9 rfl #[.slice A0_0 l0_0.length c0_0,.slice A1_0 l1_0.length c1_0] rfl z16_8 ?_;(with_reducible refine(laws_eqStmtS.calls k _ _ l0_0 _ _ l1_0 false _ ?side1 ?side2 ?side3 ?side4 A3.out).mono ?_))|(go_at_call 103;(with_reducible refine(laws_eqStmtS.calls k _ _ l0_0 _ _ l1_0 false _ ?side1 ?side2 ?side3 ?side4 A3.out).mono ?_)));(case side1=>exact z16_14);(case side2=>exact HC0_0.out);(case side3=>exact z16_13);(case side4=>exact HC1_0.out);rintro e w30 ⟨rfl,hb⟩;(first|refine⟨_,rfl,?_⟩|skip);replace BK559:=Za (Zk (g:=gb559) (o:= .cells #[.slice A0_0 l0_0.length c0_0,.int .i64 a0_1,.int .i64 a0_2,.int .i64 a0_3] 55 (0,0)) z16_4 hb);replace BK560:=Za (Zk (g:=gb560) (o:= .cells #[.slice A1_0 l1_0.length c1_0,.int .i64 a1_1,.int .i64 a1_2,.int .i64 a1_3] 55 (0,0)) z16_12 hb);replace HB:=Za (Zi z16_10 hb);(try clear hb);(try clear hb2);(try clear hk);(try clear hi)))
  go_ret
  exact⟨by first|rfl|(simp[errW_none,errW_some]<;>rfl)|(simp[*,errW_none,errW_some]<;>rfl)|(simp[*,errW_none,errW_some,i64_w];done),by repeat(first|(with_reducible first|exact HB.out|apply Zh|apply Ze|apply Zd|refine Zg ?_ GE559.out|refine Zg ?_ GE560.out)|exact HB.out)⟩
end Go.Proofs.YtccjlmpeogifkaaGreat.G
