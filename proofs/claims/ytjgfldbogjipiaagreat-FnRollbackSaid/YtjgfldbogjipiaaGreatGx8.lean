/- Functions of the program as plain Lean functions, and that each call comes to its function's answer; written by a program of the session. No condition. -/
import Derived.Test.YtjgfldbogjipiaaGreatGx0
import Derived.Test.YtjgfldbogjipiaaGreatGx2
import Derived.Test.YtjgfldbogjipiaaGreatGx3
import Derived.Test.YtjgfldbogjipiaaGreatGx5
import Derived.Test.YtjgfldbogjipiaaGreatGx6
import Derived.Test.YtjgfldbogjipiaaGreatGx7
namespace Go.Proofs.YtjgfldbogjipiaaGreat.G
open Go.RowKit Go.Proofs.YtjgfldbogjipiaaGreatW.PrintWords Go.Proofs.YtjgfldbogjipiaaGreatW.PrintLast Go.Proofs.YtjgfldbogjipiaaGreatW.PrintMore
attribute [local go_sem] max2_int min2_int max_two min_two max_three min_three max_four min_four   -- for this text's walks alone
set_option linter.unusedVariables false
set_option linter.unusedSimpArgs false
theorem z8_0 {P:Prop} (h:P:=by repeat(first|exact Yb _ _|apply Zf|apply Ze)):P:=h
theorem z8_1 {P:Prop} (h:P:=by(with_reducible repeat(first|refine blk_drewN ?_ _|refine blk_drew ?_|refine blk_alloc ?_ _));exact BK486.out):P:=h
theorem z8_2 {P:Prop} (h:P:=by repeat(first|(with_reducible first|exact HB.out|apply Zh|apply Zf|apply Ze|refine Zd ?_ GE486.out|refine Zd ?_ GE487.out)|exact HB.out)):P:=h
theorem z8_3 {P:Prop} (h:P:=by repeat(first|(with_reducible first|exact HB.out|apply Zh|apply Zf|apply Ze)|exact HB.out)):P:=h
theorem z8_4 {P:Prop} (h:P:=by repeat(first|(with_reducible first|exact HB.out|apply Zh|apply Zf|apply Ze|refine Zd ?_ GE486.out)|exact HB.out)):P:=h
theorem z8_5 {P:Prop} (h:P:=by first|(go_simp;done)|(go_simp;rfl)):P:=h
theorem z8_6 {P:Prop} (h:P:=by repeat(first|exact(Yh HR1.out HB.out)|(with_reducible refine Yk ?_ _)|(with_reducible refine Yi ?_ _)|(with_reducible refine Yl ?_))):P:=h
theorem z8_7 {P:Prop} (h:P:=by repeat(first|(with_reducible first|exact HB.out|apply Zh|apply Zf|apply Ze|refine Zd ?_ GE497.out)|exact HB.out)):P:=h
theorem z8_8 {P:Prop} (h:P:=by(with_reducible repeat(first|refine blk_drewN ?_ _|refine blk_drew ?_|refine blk_alloc ?_ _));exact BK487.out):P:=h
theorem z8_9 {P:Prop} (h:P:=by(with_reducible repeat(first|refine blk_drewN ?_ _|refine blk_drew ?_|refine blk_alloc ?_ _));refine blk_put (cs:= #[.slice none 0 0,.slice none 0 0]) ?_ 1 _ rfl;(with_reducible repeat(first|refine blk_drewN ?_ _|refine blk_drew ?_|refine blk_alloc ?_ _));refine blk_put (cs:= #[.slice none 0 0,.slice none 0 0]) ?_ 0 _ rfl;(with_reducible repeat(first|refine blk_drewN ?_ _|refine blk_drew ?_|refine blk_alloc ?_ _));exact BK487.out):P:=h
theorem z8_10 {P:Prop} (h:P:=by(try simp only[Yt,List.map_cons,List.map_nil]);first|done|rfl|(simp only[List.length_drop,List.length_take];rfl)):P:=h
theorem z8_11 {P:Prop} (h:P:=by repeat(first|exact(Yh HR0_0.out HB.out)|(with_reducible refine Yk ?_ _)|(with_reducible refine Yi ?_ _)|(with_reducible refine Yl ?_))):P:=h
theorem z8_12 {P:Prop} (h:P:=by repeat(first|(with_reducible first|exact HB.out|apply Zh|apply Zf|apply Ze|refine Zd ?_ (IsS82.ge HI509.out))|exact HB.out)):P:=h
theorem z8_13 {P:Prop} (h:P:=by(with_reducible repeat(first|refine blk_drewN ?_ _|refine blk_drew ?_|refine blk_alloc ?_ _));exact BK497.out):P:=h
theorem z8_14 {P:Prop} (h:P:=by repeat(first|(with_reducible first|exact HI509.out|apply IsS82.alloc|apply IsS82.drewN|apply IsS82.drew|apply IsS82.set_1|apply IsS82.set_2)|exact HI509.out)):P:=h
theorem z8_15 {P:Prop} (h:P:=by repeat(first|exact(Yh HR2.out HB.out)|(with_reducible refine Yk ?_ _)|(with_reducible refine Yi ?_ _)|(with_reducible refine Yl ?_))):P:=h
theorem z8_16 {P:Prop} (h:P:=by((try simp only[List.length_append,List.length_singleton]);have:=HL.out;omega)):P:=h
theorem z8_17 {P:Prop} (h:P:=by decide):P:=h
theorem z8_18 {P:Prop} (h:P:=by kernel_rfl):P:=h
theorem z8_19 {P:Prop} (h:P:=by rw[hg];exact Nat.ne_of_lt (blk_lt (g:=gb486) (o:= .cells #[.slice A0_0 l0_0.length c0_0] 26 (0,0)) z8_1)):P:=h
theorem z8_20 {P:Prop} (h:P:=by rw[hg];exact Nat.ne_of_gt (blk_lt (g:=gb486) (o:= .cells #[.slice A0_0 l0_0.length c0_0] 26 (0,0)) z8_1)):P:=h
theorem z8_21 {P:Prop} (h:P:=by rw[hg];exact(Yf z8_3)):P:=h
theorem z8_22 {P:Prop} (h:P:=by rw[hg];exact(Yf z8_4)):P:=h
/-! ### impl_traceOf: function 37 -/
-- leans on 62
structure Tr where
 st:List S64
 us:List Int
 sn:Int
 lg:List Int
 fr:Nat→Bool
 vs:List Int
def trRow {α:Type} (d:Kd α) (e B:Nat) (w:World) (v:Value) (xs:List α):Prop:=d.R e w B (fun k=>v.ownBlock=some k) v xs
section
variable {α:Type} {d:Kd α} {e B:Nat} {w w1:World} {v:Value} {xs:List α}
theorem trRow.keep (h:trRow d e B w v xs) (hm:∀k,v.ownBlock=some k→w1.heap[k]? =w.heap[k]?):trRow d e B w1 v xs:=Kd.R_step h (fun k hk _=>hm k hk)
theorem trRow.ne {g t:Nat} {cs:Array Value} (h:trRow d e B w v xs) (hg:w.heap[g]? =some (.cells cs t (0,0))) (hne:e≠t):∀k,v.ownBlock=some k→k≠g:=by
 intro k hk he
 subst he
 obtain⟨c,hc⟩:=Kd.R_typed h _ hk
 rw[hc] at hg
 injection hg with hg
 injection hg with _ hg _
 exact hne hg
theorem trRow.far {β:Type} {d2:Kd β} {e2:Nat} {v2:Value} {ys:List β} (h:trRow d e B w v xs) (h2:trRow d2 e2 B w v2 ys) (hne:e≠e2):∀k,v.ownBlock=some k→v2.ownBlock≠some k:=by
 intro k hk hk2
 obtain⟨c,hc⟩:=Kd.R_typed h2 _ hk2
 exact h.ne hc hne k hk rfl
end
theorem trRow.of_int {e B:Nat} {w:World} {v:Value} {xs:List Int} {ok:Nat→Prop} (h:(Kd.int .i64).R e w B ok v xs):trRow (Kd.int .i64) e B w v xs:=Kd.R_of_own (Kd.own_of_R h) (fun _ hk=>hk)
theorem trRow.int {e B:Nat} {w:World} {v:Value} {xs:List Int} (h:trRow (Kd.int .i64) e B w v xs) {ok:Nat→Prop} (hok:∀k,v.ownBlock=some k→ok k):(Kd.int .i64).R e w B ok v xs:=Kd.R_of_own (Kd.own_of_R h) hok
theorem trRow.of_mic {e B:Nat} {w:World} {v:Value} {xs:List S64} {ok:Nat→Prop} (h:k64.R e w B ok v xs):trRow k64 e B w v xs:=Kd.R_flat (fun h=>h) h (fun _ hk _=>hk)
theorem trRow.mic {e B:Nat} {w:World} {v:Value} {xs:List S64} (h:trRow k64 e B w v xs) {ok:Nat→Prop} (hok:∀k,v.ownBlock=some k→ok k):k64.R e w B ok v xs:=Kd.R_flat (fun h=>h) h (fun k hk _=>hok k hk)
abbrev trC (v0 v1 v2 v3:Value) (task tail:Int) (s:Tr):Array Value:= #[v0,v1,.int .i64 task,.int .i64 tail,.int .i64 s.sn,v2,.bool (s.fr 0),.bool (s.fr 1),.bool (s.fr 2),.bool (s.fr 3),.bool (s.fr 4),.bool (s.fr 5),.bool (s.fr 6),.bool (s.fr 7),v3]
def trP (B g:Nat) (task tail:Int) (v3:Value) (s:Tr):Sep.Asn:=fun F w=>∃v0 v1 v2:Value,w.heap[g]? =some (.cells (trC v0 v1 v2 v3 task tail s) 90 (0,0))∧
 (trRow k64 64 B w v0 s.st∧trRow (Kd.int .i64) 3 B w v1 s.us∧trRow (Kd.int .i64) 3 B w v2 s.lg∧trRow (Kd.int .i64) 3 B w v3 s.vs)∧
 ((∀k,v1.ownBlock=some k→v2.ownBlock≠some k∧v3.ownBlock≠some k)∧(∀k,v2.ownBlock=some k→v3.ownBlock≠some k)∧B≤g)∧
 ∀k,F k↔k=g∨v0.ownBlock=some k∨v1.ownBlock=some k∨v2.ownBlock=some k∨v3.ownBlock=some k
theorem trP_loc (B g:Nat) (task tail:Int) (v3:Value) (s:Tr):Sep.Loc B (trP B g task tail v3 s) where
 lt:=by
  rintro F w ⟨v0,v1,v2,hb,⟨h0,h1,h2,h3⟩,D,hF⟩ k hk
  rcases (hF k).1 hk with rfl|h|h|h|h
  ·exact⟨D.2.2,blk_lt hb⟩
  ·exact⟨Ye h0 k h,Kd.R_lt h0 k h⟩
  ·exact⟨Ye h1 k h,Kd.R_lt h1 k h⟩
  ·exact⟨Ye h2 k h,Kd.R_lt h2 k h⟩
  ·exact⟨Ye h3 k h,Kd.R_lt h3 k h⟩
 keep:=by
  rintro F w w' ⟨v0,v1,v2,hb,⟨h0,h1,h2,h3⟩,D,hF⟩ hB hs hk
  exact⟨v0,v1,v2,(hk g (.inr ((hF g).2 (by simp)))).trans hb,⟨h0.keep (fun k h=>hk k (.inr ((hF k).2 (by simp[h])))),h1.keep (fun k h=>hk k (.inr ((hF k).2 (by simp[h])))),h2.keep (fun k h=>hk k (.inr ((hF k).2 (by simp[h])))),h3.keep (fun k h=>hk k (.inr ((hF k).2 (by simp[h]))))⟩,D,hF⟩
theorem trP_next {B g:Nat} {task tail:Int} {s s':Tr} {F:Nat→Prop} {w wf:World} {v0 v1 v2 v3 v0' v1' v2' v3':Value}
  (hb:w.heap[g]? =some (.cells (trC v0 v1 v2 v3 task tail s) 90 (0,0))) (hBg:B≤g)
  (hF:∀k,F k↔k=g∨v0.ownBlock=some k∨v1.ownBlock=some k∨v2.ownBlock=some k∨v3.ownBlock=some k)
  (hio:wf.os=w.os∧wf.tape=w.tape∧wf.output=w.output) (hs:w.heap.size≤wf.heap.size)
  (HF:∀k,k<w.heap.size→k≠g→v0.ownBlock≠some k→v1.ownBlock≠some k→v2.ownBlock≠some k→v3.ownBlock≠some k→wf.heap[k]? =w.heap[k]?)
  (bo:wf.heap[g]? =some (.cells (trC v0' v1' v2' v3' task tail s') 90 (0,0)))
  (r0:trRow k64 64 B wf v0' s'.st) (r1:trRow (Kd.int .i64) 3 B wf v1' s'.us) (r2:trRow (Kd.int .i64) 3 B wf v2' s'.lg) (r3:trRow (Kd.int .i64) 3 B wf v3' s'.vs)
  (o0:∀k,v0'.ownBlock=some k→v0.ownBlock=some k∨w.heap.size≤k) (o1:∀k,v1'.ownBlock=some k→v1.ownBlock=some k∨w.heap.size≤k) (o2:∀k,v2'.ownBlock=some k→v2.ownBlock=some k∨w.heap.size≤k) (o3:∀k,v3'.ownBlock=some k→v3.ownBlock=some k∨w.heap.size≤k)
  (D:(∀k,v1'.ownBlock=some k→v2'.ownBlock≠some k∧v3'.ownBlock≠some k)∧(∀k,v2'.ownBlock=some k→v3'.ownBlock≠some k)):
  ∃F',trP B g task tail v3' s' F' wf∧Sep.After F w F' wf:=by
 refine⟨fun k=>k=g∨v0'.ownBlock=some k∨v1'.ownBlock=some k∨v2'.ownBlock=some k∨v3'.ownBlock=some k,⟨v0',v1',v2',bo,⟨r0,r1,r2,r3⟩,⟨D.1,D.2,hBg⟩,fun k=>Iff.rfl⟩,⟨⟨hs,fun k hk hn=> ?_⟩,fun k hk=> ?_,hio⟩⟩
 ·rw[hF] at hn
  simp only[not_or] at hn
  exact HF k hk hn.1 hn.2.1 hn.2.2.1 hn.2.2.2.1 hn.2.2.2.2
 ·rw[hF]
  rcases hk with h|h|h|h|h
  ·exact .inl (.inl h)
  ·exact(o0 k h).imp (fun h=> .inr (.inl h)) id
  ·exact(o1 k h).imp (fun h=> .inr (.inr (.inl h))) id
  ·exact(o2 k h).imp (fun h=> .inr (.inr (.inr (.inl h)))) id
  ·exact(o3 k h).imp (fun h=> .inr (.inr (.inr (.inr h)))) id
theorem trB {w:World} {g:Nat} {v0 v1 v2 v3:Value} {task tail:Int} {s:Tr} (h:w.heap[g]? =some (.cells (trC v0 v1 v2 v3 task tail s) 90 (0,0))):
  w.cell? ⟨g,0,none⟩=some v0∧w.cell? ⟨g,1,none⟩=some v1∧w.cell? ⟨g,2,none⟩=some (.int .i64 task)∧w.cell? ⟨g,3,none⟩=some (.int .i64 tail)∧w.cell? ⟨g,4,none⟩=some (.int .i64 s.sn)∧w.cell? ⟨g,5,none⟩=some v2∧w.cell? ⟨g,14,none⟩=some v3:=
 ⟨(Zb h 0).trans rfl,(Zb h 1).trans rfl,(Zb h 2).trans rfl,(Zb h 3).trans rfl,(Zb h 4).trans rfl,(Zb h 5).trans rfl,(Zb h 14).trans rfl⟩
abbrev Tr.write (s:Tr) (c at_ v:Int):Tr:={s with st:=s.st++[⟨c,at_,v⟩]}
theorem trP_st {B g:Nat} {task tail:Int} {s:Tr} {F:Nat→Prop} {w w9:World} {v0 v1 v2 v3 v9:Value} {c at_ v:Int}
  (hb:w.heap[g]? =some (.cells (trC v0 v1 v2 v3 task tail s) 90 (0,0)))
  (h0:trRow k64 64 B w v0 s.st) (h1:trRow (Kd.int .i64) 3 B w v1 s.us) (h2:trRow (Kd.int .i64) 3 B w v2 s.lg) (h3:trRow (Kd.int .i64) 3 B w v3 s.vs)
  (D:(∀k,v1.ownBlock=some k→v2.ownBlock≠some k∧v3.ownBlock≠some k)∧(∀k,v2.ownBlock=some k→v3.ownBlock≠some k)∧B≤g)
  (hF:∀k,F k↔k=g∨v0.ownBlock=some k∨v1.ownBlock=some k∨v2.ownBlock=some k∨v3.ownBlock=some k)
  (ho:k64.R 64 w9 B (fun _=>True) v9 (s.st++[⟨c,at_,v⟩])) (hg:w.grownBy w9 v0.ownBlock) (hat:v9.ownBlock=v0.ownBlock∨∃b,v9.ownBlock=some b∧w.heap.size≤b):
  ∃F',trP B g task tail v3 (s.write c at_ v) F' (w9.setCell ⟨g,0,none⟩ v9)∧Sep.After F w F' (w9.setCell ⟨g,0,none⟩ v9):=by
 have b9:=blk_grown hb hg (fun h=>h0.ne hb z8_17 g h.symm rfl)
 have far:∀k,k≠g→(w9.setCell ⟨g,0,none⟩ v9).heap[k]? =w9.heap[k]? :=fun k hk=>Below.heap_setCell w9 ⟨g,0,none⟩ v9 k hk
 have r9:=trRow.of_mic ho
 have row:∀ {v':Value} {xs:List Int},trRow (Kd.int .i64) 3 B w v' xs→trRow (Kd.int .i64) 3 B (w9.setCell ⟨g,0,none⟩ v9) v' xs:=fun hr=>hr.keep (fun k hk=>(far k (hr.ne hb z8_17 k hk)).trans (hg.block k (Kd.R_lt hr k hk) (fun h=>h0.far hr z8_17 k h.symm hk)))
 refine trP_next (v0':=v9) hb D.2.2 hF ⟨hg.os,hg.tape,hg.output⟩ (by rw[show(w9.setCell ⟨g,0,none⟩ v9).heap.size=w9.heap.size by simp[World.setCell]];exact hg.size) (fun k hk hkg n0 _ _ _=>(far k hkg).trans (hg.block k hk (fun h=>n0 h.symm))) (blk_put (cs:=trC v0 v1 v2 v3 task tail s) b9 0 v9 rfl)
  (r9.keep (fun k hk=>far k (r9.ne b9 z8_17 k hk))) (row h1) (row h2) (row h3) (fun k hk=> ?_) (fun k hk=> .inl hk) (fun k hk=> .inl hk) (fun k hk=> .inl hk) ⟨D.1,D.2.1⟩
 rcases hat with hat|⟨b,hb9,hle⟩
 ·exact .inl (hat ▸ hk)
 ·rw[hb9] at hk
  injection hk with hk
  exact .inr (by omega)
set_option maxHeartbeats 8000000 in
set_option maxRecDepth 100000 in
theorem tr_write (B g:Nat) (task tail:Int) (v3:Value) (s:Tr) (at_ v:Int) (hl:s.st.length<5000000000000) (F:Nat→Prop) (w:World) (hB:B≤w.heap.size) (hI:trP B g task tail v3 s F w):
  Calls Tryz.prog 70 #[.pointer (some ⟨g,0,none⟩),.int .i64 at_,.int .i64 v] w fun e w'=>e= .returned (.tuple #[])∧∃F',trP B g task tail v3 (s.write 3 at_ v) F' w'∧Sep.After F w F' w'∧w'.cell? ⟨g,5,none⟩=w.cell? ⟨g,5,none⟩:=by
 obtain⟨v0,v1,v2,hb,⟨h0,h1,h2,h3⟩,D,hF⟩:=hI
 obtain⟨A0,c0,rfl⟩:=Yn h0
 have HB:=Za hb
 have R0:=Za h0
 have R1:=Za h1
 have R2:=Za h2
 have R3:=Za h3
 have DD:=Za D
 have HF:=Za hF
 have HL:=Za hl
 have BW:=Za hB
 clear hb h0 h1 h2 h3 D hF hl hB
 obtain⟨_,_,_,_,_,_,_⟩:=trB HB.out
 have hf0:=Zc HB.out 0
 go_enter Tryz.func70,Tryz.ntmps70
 go_wp2_with (first
  |((with_reducible refine gate_builtin (b:= .append) (xs:= #[.tmp 11,.tmp 15]) rfl ?_);at_builtin;refine Kd.R_append (w0:=w) k64 B rfl (.tmp 11) (.tmp 15) 31 64 (.agg #[.int .i64 0,.int .i64 0,.int .i64 0]) 24 rfl Tryz.underlying31 info64 rfl z8_17 (by omega) (.slice A0 s.st.length c0) s.st ⟨3,at_,v⟩ [.int .i64 3,.int .i64 at_,.int .i64 v] (fun _=>True) (fun _=>False) rfl rfl (k64_mkM _ _ _ _) (fun _ hk=>hk.elim) (fun _ _=>trivial) (R0.out.mic (fun _ _=>trivial)) (Yb _ _) BW.out (by have:=HL.out;omega) ?_;intro v9 w9 ho hb hg hat;obtain⟨A9,c9,e9⟩:=Yn ho;rw[List.length_append,List.length_singleton] at e9;subst e9;have HO:=Za ho;have HG:Aside0 (w.grownBy w9 (Value.slice A0 s.st.length c0).ownBlock):=⟨⟨hg.os,hg.tape,hg.output,hg.size,hg.block⟩⟩;have AT:=Za hat;have B9:=Za (blk_grown (w:=w) HB.out HG.out (fun h=>R0.out.ne HB.out z8_17 g h.symm rfl));clear ho hb hg hat;obtain⟨_,_,_,_,_,_,_⟩:=trB B9.out;have hf9:=Zc B9.out 0)
  |((with_reducible refine Yq (t:=31) (p:=19) rfl ?_);refine Yp (t:=31) (p:=19) (v:= ?vo1_) (w1:=w9.setCell ⟨g,0,none⟩ (.slice A9 (s.st.length+1) c9)) ?hg ?ho ?hn ?hr ?_;(case ho=>rfl);(case hg=>rfl);(case hn=>rfl);(case hr=>exact z8_5);intro w10 hw;have E10:=trP_st HB.out R0.out R1.out R2.out R3.out DD.out HF.out HO.out HG.out AT.out;have C5:Aside0 (w10.cell? ⟨g,5,none⟩=w.cell? ⟨g,5,none⟩):=⟨by rw[hw];exact((Zb (blk_put (cs:=trC _ _ _ _ task tail s) B9.out 0 _ rfl) 5).trans rfl).trans ((Zb HB.out 5).trans rfl).symm⟩;rw[←hw] at E10;have EE:=Za E10;clear E10 hw)
  |fail)
 go_end0
 obtain⟨F2,e1,e2⟩:=EE.out
 exact⟨rfl,F2,e1,e2,C5.out⟩
set_option maxHeartbeats 8000000 in
set_option maxRecDepth 100000 in
theorem tr_work (B g:Nat) (task tail:Int) (v3:Value) (s:Tr) (c:Int) (hl:s.st.length<5000000000000) (F:Nat→Prop) (w:World) (hB:B≤w.heap.size) (hI:trP B g task tail v3 s F w):
  Calls Tryz.prog 64 #[.pointer (some ⟨g,0,none⟩),.int .i64 c] w fun e w'=>e= .returned (.tuple #[])∧∃F',trP B g task tail v3 (s.write c (-1) 0) F' w'∧Sep.After F w F' w':=by
 obtain⟨v0,v1,v2,hb,⟨h0,h1,h2,h3⟩,D,hF⟩:=hI
 obtain⟨A0,c0,rfl⟩:=Yn h0
 have HB:=Za hb
 have R0:=Za h0
 have R1:=Za h1
 have R2:=Za h2
 have R3:=Za h3
 have DD:=Za D
 have HF:=Za hF
 have HL:=Za hl
 have BW:=Za hB
 clear hb h0 h1 h2 h3 D hF hl hB
 obtain⟨_,_,_,_,_,_,_⟩:=trB HB.out
 have hf0:=Zc HB.out 0
 go_enter Tryz.func64,Tryz.ntmps64
 go_wp2_with (first
  |((with_reducible refine gate_builtin (b:= .append) (xs:= #[.tmp 9,.tmp 12]) rfl ?_);at_builtin;refine Kd.R_append (w0:=w) k64 B rfl (.tmp 9) (.tmp 12) 31 64 (.agg #[.int .i64 0,.int .i64 0,.int .i64 0]) 24 rfl Tryz.underlying31 info64 rfl z8_17 (by omega) (.slice A0 s.st.length c0) s.st ⟨c,-1,0⟩ [.int .i64 c,.int .i64 (-1),.int .i64 0] (fun _=>True) (fun _=>False) rfl rfl (k64_mkM _ _ _ _) (fun _ hk=>hk.elim) (fun _ _=>trivial) (R0.out.mic (fun _ _=>trivial)) (Yb _ _) BW.out (by have:=HL.out;omega) ?_;intro v9 w9 ho hb hg hat;obtain⟨A9,c9,e9⟩:=Yn ho;rw[List.length_append,List.length_singleton] at e9;subst e9;have HO:=Za ho;have HG:Aside0 (w.grownBy w9 (Value.slice A0 s.st.length c0).ownBlock):=⟨⟨hg.os,hg.tape,hg.output,hg.size,hg.block⟩⟩;have AT:=Za hat;have B9:=Za (blk_grown (w:=w) HB.out HG.out (fun h=>R0.out.ne HB.out z8_17 g h.symm rfl));clear ho hb hg hat;obtain⟨_,_,_,_,_,_,_⟩:=trB B9.out;have hf9:=Zc B9.out 0)
  |((with_reducible refine Yq (t:=31) (p:=16) rfl ?_);refine Yp (t:=31) (p:=16) (v:= ?vo1_) (w1:=w9.setCell ⟨g,0,none⟩ (.slice A9 (s.st.length+1) c9)) ?hg ?ho ?hn ?hr ?_;(case ho=>rfl);(case hg=>rfl);(case hn=>rfl);(case hr=>exact z8_5);intro w10 hw;have E10:=trP_st HB.out R0.out R1.out R2.out R3.out DD.out HF.out HO.out HG.out AT.out;rw[←hw] at E10;have EE:=Za E10;clear E10 hw)
  |fail)
 go_end0
 exact⟨rfl,EE.out⟩
theorem trP_cell {B g:Nat} {task tail:Int} {s s':Tr} {F:Nat→Prop} {w:World} {v0 v1 v2 v3 u:Value} {i:Nat}
  (hb:w.heap[g]? =some (.cells (trC v0 v1 v2 v3 task tail s) 90 (0,0)))
  (h0:trRow k64 64 B w v0 s.st) (h1:trRow (Kd.int .i64) 3 B w v1 s.us) (h2:trRow (Kd.int .i64) 3 B w v2 s.lg) (h3:trRow (Kd.int .i64) 3 B w v3 s.vs)
  (D:(∀k,v1.ownBlock=some k→v2.ownBlock≠some k∧v3.ownBlock≠some k)∧(∀k,v2.ownBlock=some k→v3.ownBlock≠some k)∧B≤g)
  (hF:∀k,F k↔k=g∨v0.ownBlock=some k∨v1.ownBlock=some k∨v2.ownBlock=some k∨v3.ownBlock=some k)
  (e:(trC v0 v1 v2 v3 task tail s).setIfInBounds i u=trC v0 v1 v2 v3 task tail s') (e0:s'.st=s.st) (e1:s'.us=s.us) (e2:s'.lg=s.lg) (e3:s'.vs=s.vs):
  ∃F',trP B g task tail v3 s' F' (w.setCell ⟨g,i,none⟩ u)∧Sep.After F w F' (w.setCell ⟨g,i,none⟩ u):=by
 have far:∀k,k≠g→(w.setCell ⟨g,i,none⟩ u).heap[k]? =w.heap[k]? :=fun k hk=>Below.heap_setCell w ⟨g,i,none⟩ u k hk
 have row:∀ {α:Type} {d:Kd α} {e:Nat} {v':Value} {xs xs':List α},xs'=xs→e≠90→trRow d e B w v' xs→trRow d e B (w.setCell ⟨g,i,none⟩ u) v' xs':=fun hx hne hr=>by
  subst hx
  exact hr.keep (fun k hk=>far k (hr.ne hb hne k hk))
 exact trP_next hb D.2.2 hF ⟨rfl,rfl,rfl⟩ (by simp[World.setCell]) (fun k hk hkg _ _ _ _=>far k hkg) (blk_put hb i u e) (row e0 z8_17 h0) (row e1 z8_17 h1) (row e2 z8_17 h2) (row e3 z8_17 h3) (fun k hk=> .inl hk) (fun k hk=> .inl hk) (fun k hk=> .inl hk) (fun k hk=> .inl hk) ⟨D.1,D.2.1⟩
def Tr.sendB (tail:Int) (s:Tr) (v:Int):Tr:={(if wrap64 (tail+s.sn)<24 then s.write 3 (wrap64 (25+wrap64 (tail+s.sn))) v else s) with sn:=wrap64 (s.sn+1)}
set_option maxHeartbeats 8000000 in
set_option maxRecDepth 100000 in
theorem tr_send (B g:Nat) (task tail:Int) (v3:Value) (s:Tr) (v:Int) (hl:s.st.length<5000000000000) (F:Nat→Prop) (w:World) (hB:B≤w.heap.size) (hI:trP B g task tail v3 s F w):
  Calls Tryz.prog 69 #[.pointer (some ⟨g,0,none⟩),.int .i64 v] w fun e w'=>e= .returned (.tuple #[])∧∃F',trP B g task tail v3 (s.sendB tail v) F' w'∧Sep.After F w F' w':=by
 have BW:=Za hB
 have HI:=Za hI
 have HL:=Za hl
 obtain⟨v0,v1,v2,hb,-,-,-⟩:=hI
 have HB:=Za hb
 clear hb hl hB
 obtain⟨_,_,_,_,_,_,_⟩:=trB HB.out
 unfold Tr.sendB
 by_cases c:wrap64 (tail+s.sn)<24
 ·rw[if_pos c]
  have ct:=eq_true c
  have cn:(24≤wrap64 (tail+s.sn))=False:=eq_false (by omega)
  clear c
  go_enter Tryz.func69,Tryz.ntmps69
  go_wp2
  go_region_held3 (fun w'=>w'.cell? ⟨g,3,none⟩=some (.int .i64 tail)∧w'.cell? ⟨g,4,none⟩=some (.int .i64 s.sn)) (go_keep) (fail)
  go_wp2_with (first
   |(exact False.elim (cn.mp ‹24≤wrap64 (tail+s.sn)›))
   |(go_at_call 70;(with_reducible refine(tr_write B g task tail v3 s _ v HL.out F _ ?q1_ ?q2_).mono ?_);(case q1_=>exact BW.out);(case q2_=>exact(trP_loc B g task tail v3 s).below BW.out HI.out z8_0);rintro e w1 ⟨rfl,F1,hI1,hA1,-⟩;have HI1:=Za hI1;have HA1:=Za ((Sep.After.of_below (F:=F) (z8_0:Below w.heap.size w _)).trans hA1);clear hI1 hA1;obtain⟨u0,u1,u2,hb1,hr1,hD1,hF1⟩:=HI1.out;have HB1:=Za hb1;have HR1:=Za hr1;have HD1:=Za hD1;have HF1:=Za hF1;clear hb1 hr1 hD1 hF1;obtain⟨_,_,_,_,_,_,_⟩:=trB HB1.out;have hf4:=Zc HB1.out 4)
   |((with_reducible refine Yq (t:=3) (p:=27) rfl ?_);refine Yp (t:=3) (p:=27) (v:= ?vo1_) (w1:=w1.setCell ⟨g,4,none⟩ (.int .i64 (wrap64 (s.sn+1)))) ?hg ?ho ?hn ?hr ?_;(case ho=>rfl);(case hg=>rfl);(case hn=>rfl);(case hr=>exact z8_5);intro w2 hw;have E2:=trP_cell (i:=4) (u:= .int .i64 (wrap64 (s.sn+1))) (s':={s.write 3 (wrap64 (25+wrap64 (tail+s.sn))) v with sn:=wrap64 (s.sn+1)}) HB1.out HR1.out.1 HR1.out.2.1 HR1.out.2.2.1 HR1.out.2.2.2 HD1.out HF1.out rfl rfl rfl rfl rfl;rw[←hw] at E2;have EE:=Za E2;clear E2 hw)
   |fail)
  go_end0
  obtain⟨F2,e1,e2⟩:=EE.out
  exact⟨rfl,F2,e1,HA1.out.trans e2⟩
 ·rw[if_neg c]
  have ct:=eq_false c
  have cn:(24≤wrap64 (tail+s.sn))=True:=eq_true (by omega)
  clear c
  have hbd:Below w.heap.size w w.drew:=by repeat(first|exact Yb _ _|apply Zf|apply Ze)
  obtain⟨u0,u1,u2,hb1,hr1,hD1,hF1⟩:=(trP_loc B g task tail v3 s).below BW.out HI.out hbd
  have HBD:=Za hbd
  have HB1:=Za hb1
  have HR1:=Za hr1
  have HD1:=Za hD1
  have HF1:=Za hF1
  clear hb1 hr1 hD1 hF1 hbd
  have hf4:=Zc HB.out 4
  go_enter Tryz.func69,Tryz.ntmps69
  go_wp2
  go_region_held3 (fun w'=>w'.cell? ⟨g,3,none⟩=some (.int .i64 tail)∧w'.cell? ⟨g,4,none⟩=some (.int .i64 s.sn)) (go_keep) (fail)
  go_wp2_with (first
   |(exact False.elim (ct.mp ‹wrap64 (tail+s.sn)<24›))
   |((with_reducible refine Yq (t:=3) (p:=27) rfl ?_);refine Yp (t:=3) (p:=27) (v:= ?vo1_) (w1:=w.drew.setCell ⟨g,4,none⟩ (.int .i64 (wrap64 (s.sn+1)))) ?hg ?ho ?hn ?hr ?_;(case ho=>rfl);(case hg=>rfl);(case hn=>rfl);(case hr=>exact z8_5);intro w2 hw;have E2:=trP_cell (i:=4) (u:= .int .i64 (wrap64 (s.sn+1))) (s':={s with sn:=wrap64 (s.sn+1)}) HB1.out HR1.out.1 HR1.out.2.1 HR1.out.2.2.1 HR1.out.2.2.2 HD1.out HF1.out rfl rfl rfl rfl rfl;rw[←hw] at E2;have EE:=Za E2;clear E2 hw)
   |fail)
  go_end0
  obtain⟨F2,e1,e2⟩:=EE.out
  exact⟨rfl,F2,e1,(Sep.After.of_below HBD.out F).trans e2⟩
theorem trP_lg {B g:Nat} {task tail:Int} {s:Tr} {F:Nat→Prop} {w w9:World} {v0 v1 v2 v3 v9:Value} {y:Int}
  (hb:w.heap[g]? =some (.cells (trC v0 v1 v2 v3 task tail s) 90 (0,0)))
  (h0:trRow k64 64 B w v0 s.st) (h1:trRow (Kd.int .i64) 3 B w v1 s.us) (h2:trRow (Kd.int .i64) 3 B w v2 s.lg) (h3:trRow (Kd.int .i64) 3 B w v3 s.vs)
  (D:(∀k,v1.ownBlock=some k→v2.ownBlock≠some k∧v3.ownBlock≠some k)∧(∀k,v2.ownBlock=some k→v3.ownBlock≠some k)∧B≤g)
  (hF:∀k,F k↔k=g∨v0.ownBlock=some k∨v1.ownBlock=some k∨v2.ownBlock=some k∨v3.ownBlock=some k)
  (ho:(Kd.int .i64).R 3 w9 B (fun _=>True) v9 (s.lg++[y])) (hg:w.grownBy w9 v2.ownBlock) (hat:v9.ownBlock=v2.ownBlock∨∃b,v9.ownBlock=some b∧w.heap.size≤b):
  ∃F',trP B g task tail v3 {s with lg:=s.lg++[y]} F' (w9.setCell ⟨g,5,none⟩ v9)∧Sep.After F w F' (w9.setCell ⟨g,5,none⟩ v9):=by
 have b9:=blk_grown hb hg (fun h=>h2.ne hb z8_17 g h.symm rfl)
 have far:∀k,k≠g→(w9.setCell ⟨g,5,none⟩ v9).heap[k]? =w9.heap[k]? :=fun k hk=>Below.heap_setCell w9 ⟨g,5,none⟩ v9 k hk
 have r9:=trRow.of_int ho
 have r9':trRow (Kd.int .i64) 3 B (w9.setCell ⟨g,5,none⟩ v9) v9 (s.lg++[y]):=r9.keep (fun k hk=>far k (r9.ne b9 z8_17 k hk))
 have own:∀k,v9.ownBlock=some k→v2.ownBlock=some k∨w.heap.size≤k:=fun k hk=>by
  rcases hat with hat|⟨b,hb9,hle⟩
  ·exact .inl (hat ▸ hk)
  ·rw[hb9] at hk
   injection hk with hk
   exact .inr (by omega)
 have row:∀ {α:Type} {d:Kd α} {e:Nat} {v':Value} {xs:List α},trRow d e B w v' xs→e≠90→(∀k,v2.ownBlock=some k→v'.ownBlock≠some k)→trRow d e B (w9.setCell ⟨g,5,none⟩ v9) v' xs:=fun hr hne hn=>hr.keep (fun k hk=>(far k (hr.ne hb hne k hk)).trans (hg.block k (Kd.R_lt hr k hk) (fun h=>hn k h.symm hk)))
 exact trP_next hb D.2.2 hF ⟨hg.os,hg.tape,hg.output⟩ (by rw[show(w9.setCell ⟨g,5,none⟩ v9).heap.size=w9.heap.size by simp[World.setCell]];exact hg.size) (fun k hk hkg _ n1 n2 n3=>(far k hkg).trans (hg.block k hk (fun h=>n2 h.symm))) (blk_put (cs:=trC v0 v1 v2 v3 task tail s) b9 5 v9 rfl)
  (row h0 z8_17 (fun k hk h=>h0.far h2 z8_17 k h hk)) (row h1 z8_17 (fun k hk h=>(D.1 k h).1 hk)) r9' (row h3 z8_17 (fun k hk h=>D.2.1 k hk h)) (fun k hk=> .inl hk) (fun k hk=> .inl hk) own (fun k hk=> .inl hk) ⟨fun k hk=>⟨fun h=>(own k h).elim (fun h'=>(D.1 k hk).1 h') (fun h'=>by have:=Kd.R_lt h1 k hk;omega),(D.1 k hk).2⟩,fun k hk h=>(own k hk).elim (fun h'=>D.2.1 k h' h) (fun h'=>by have:=Kd.R_lt h3 k h;omega)⟩
theorem trP_us {B g:Nat} {task tail:Int} {s:Tr} {F:Nat→Prop} {w w9:World} {v0 v1 v2 v3 v9:Value} {y:Int}
  (hb:w.heap[g]? =some (.cells (trC v0 v1 v2 v3 task tail s) 90 (0,0)))
  (h0:trRow k64 64 B w v0 s.st) (h1:trRow (Kd.int .i64) 3 B w v1 s.us) (h2:trRow (Kd.int .i64) 3 B w v2 s.lg) (h3:trRow (Kd.int .i64) 3 B w v3 s.vs)
  (D:(∀k,v1.ownBlock=some k→v2.ownBlock≠some k∧v3.ownBlock≠some k)∧(∀k,v2.ownBlock=some k→v3.ownBlock≠some k)∧B≤g)
  (hF:∀k,F k↔k=g∨v0.ownBlock=some k∨v1.ownBlock=some k∨v2.ownBlock=some k∨v3.ownBlock=some k)
  (ho:(Kd.int .i64).R 3 w9 B (fun _=>True) v9 (s.us++[y])) (hg:w.grownBy w9 v1.ownBlock) (hat:v9.ownBlock=v1.ownBlock∨∃b,v9.ownBlock=some b∧w.heap.size≤b):
  ∃F',trP B g task tail v3 {s with us:=s.us++[y]} F' (w9.setCell ⟨g,1,none⟩ v9)∧Sep.After F w F' (w9.setCell ⟨g,1,none⟩ v9):=by
 have b9:=blk_grown hb hg (fun h=>h1.ne hb z8_17 g h.symm rfl)
 have far:∀k,k≠g→(w9.setCell ⟨g,1,none⟩ v9).heap[k]? =w9.heap[k]? :=fun k hk=>Below.heap_setCell w9 ⟨g,1,none⟩ v9 k hk
 have r9:=trRow.of_int ho
 have r9':trRow (Kd.int .i64) 3 B (w9.setCell ⟨g,1,none⟩ v9) v9 (s.us++[y]):=r9.keep (fun k hk=>far k (r9.ne b9 z8_17 k hk))
 have own:∀k,v9.ownBlock=some k→v1.ownBlock=some k∨w.heap.size≤k:=fun k hk=>by
  rcases hat with hat|⟨b,hb9,hle⟩
  ·exact .inl (hat ▸ hk)
  ·rw[hb9] at hk
   injection hk with hk
   exact .inr (by omega)
 have row:∀ {α:Type} {d:Kd α} {e:Nat} {v':Value} {xs:List α},trRow d e B w v' xs→e≠90→(∀k,v1.ownBlock=some k→v'.ownBlock≠some k)→trRow d e B (w9.setCell ⟨g,1,none⟩ v9) v' xs:=fun hr hne hn=>hr.keep (fun k hk=>(far k (hr.ne hb hne k hk)).trans (hg.block k (Kd.R_lt hr k hk) (fun h=>hn k h.symm hk)))
 exact trP_next hb D.2.2 hF ⟨hg.os,hg.tape,hg.output⟩ (by rw[show(w9.setCell ⟨g,1,none⟩ v9).heap.size=w9.heap.size by simp[World.setCell]];exact hg.size) (fun k hk hkg _ n1 n2 n3=>(far k hkg).trans (hg.block k hk (fun h=>n1 h.symm))) (blk_put (cs:=trC v0 v1 v2 v3 task tail s) b9 1 v9 rfl)
  (row h0 z8_17 (fun k hk h=>h0.far h1 z8_17 k h hk)) r9' (row h2 z8_17 (fun k hk h=>(D.1 k hk).1 h)) (row h3 z8_17 (fun k hk h=>(D.1 k hk).2 h)) (fun k hk=> .inl hk) own (fun k hk=> .inl hk) (fun k hk=> .inl hk) ⟨fun k hk=>⟨fun h=>(own k hk).elim (fun h'=>(D.1 k h').1 h) (fun h'=>by have:=Kd.R_lt h2 k h;omega),fun h=>(own k hk).elim (fun h'=>(D.1 k h').2 h) (fun h'=>by have:=Kd.R_lt h3 k h;omega)⟩,D.2.1⟩
theorem trP_vs {B g g3:Nat} {task tail:Int} {s:Tr} {F:Nat→Prop} {w:World} {v0 v1 v2 v3 u:Value} {i:Nat} {ys:List Int}
  (hb:w.heap[g]? =some (.cells (trC v0 v1 v2 v3 task tail s) 90 (0,0)))
  (h0:trRow k64 64 B w v0 s.st) (h1:trRow (Kd.int .i64) 3 B w v1 s.us) (h2:trRow (Kd.int .i64) 3 B w v2 s.lg) (h3:trRow (Kd.int .i64) 3 B w v3 s.vs)
  (D:(∀k,v1.ownBlock=some k→v2.ownBlock≠some k∧v3.ownBlock≠some k)∧(∀k,v2.ownBlock=some k→v3.ownBlock≠some k)∧B≤g)
  (hF:∀k,F k↔k=g∨v0.ownBlock=some k∨v1.ownBlock=some k∨v2.ownBlock=some k∨v3.ownBlock=some k)
  (ho:v3.ownBlock=some g3) (hp:trRow (Kd.int .i64) 3 B (w.setCell ⟨g3,i,none⟩ u) v3 ys):
  ∃F',trP B g task tail v3 {s with vs:=ys} F' (w.setCell ⟨g3,i,none⟩ u)∧Sep.After F w F' (w.setCell ⟨g3,i,none⟩ u):=by
 have far:∀k,k≠g3→(w.setCell ⟨g3,i,none⟩ u).heap[k]? =w.heap[k]? :=fun k hk=>Below.heap_setCell w ⟨g3,i,none⟩ u k hk
 have row:∀ {α:Type} {d:Kd α} {e:Nat} {v':Value} {xs:List α},trRow d e B w v' xs→v'.ownBlock≠some g3→trRow d e B (w.setCell ⟨g3,i,none⟩ u) v' xs:=fun hr hn=>hr.keep (fun k hk=>far k (fun e=>hn (e ▸ hk)))
 exact trP_next hb D.2.2 hF ⟨rfl,rfl,rfl⟩ (by simp[World.setCell]) (fun k hk _ _ _ _ n3=>far k (fun e=>n3 (e ▸ ho))) ((far g (fun e=>h3.ne hb z8_17 g3 ho e.symm)).trans hb)
  (row h0 (fun h=>h0.far h3 z8_17 g3 h ho)) (row h1 (fun h=>(D.1 g3 h).2 ho)) (row h2 (fun h=>D.2.1 g3 h ho)) hp (fun k hk=> .inl hk) (fun k hk=> .inl hk) (fun k hk=> .inl hk) (fun k hk=> .inl hk) ⟨D.1,D.2.1⟩
theorem trF {w:World} {g:Nat} {v0 v1 v2 v3:Value} {task tail:Int} {s:Tr} (h:w.heap[g]? =some (.cells (trC v0 v1 v2 v3 task tail s) 90 (0,0))):∀j,j<8→w.cell? ⟨g,6+j,none⟩=some (.bool (s.fr j))∧w.frozen? ⟨g,6+j,none⟩=false
 |0,_=>⟨(Zb h 6).trans rfl,Zc h 6⟩
 |1,_=>⟨(Zb h 7).trans rfl,Zc h 7⟩
 |2,_=>⟨(Zb h 8).trans rfl,Zc h 8⟩
 |3,_=>⟨(Zb h 9).trans rfl,Zc h 9⟩
 |4,_=>⟨(Zb h 10).trans rfl,Zc h 10⟩
 |5,_=>⟨(Zb h 11).trans rfl,Zc h 11⟩
 |6,_=>⟨(Zb h 12).trans rfl,Zc h 12⟩
 |7,_=>⟨(Zb h 13).trans rfl,Zc h 13⟩
 |n+8,h=>absurd h (by omega)
theorem trF_set (v0 v1 v2 v3:Value) (task tail:Int) (s:Tr):∀j,j<8→(trC v0 v1 v2 v3 task tail s).setIfInBounds (6+j) (.bool true)=trC v0 v1 v2 v3 task tail {s with fr:=fun i=>if i=j then true else s.fr i}
 |0,_=>rfl
 |1,_=>rfl
 |2,_=>rfl
 |3,_=>rfl
 |4,_=>rfl
 |5,_=>rfl
 |6,_=>rfl
 |7,_=>rfl
 |n+8,h=>absurd h (by omega)
def Tr.put (s:Tr) (k v:Int):Tr:=({s with fr:=fun j=>if j=k.toNat then true else s.fr j,vs:=s.vs.set k.toNat v}:Tr).write 3 k v
def Tr.log (s:Tr) (k c:Int):Tr:=({(s.write 3 (wrap64 (9+wrap64 (2*(s.lg.length:Int)))) k).write 3 (wrap64 (wrap64 (9+wrap64 (2*(s.lg.length:Int)))+1)) (rd s.vs k) with lg:=s.lg++[k]}:Tr).write 3 8 c
def Tr.assign (kf:Nat) (task tail:Int) (must:List Int) (s:Tr) (k v:Int):Option Tr:=
 if 0≤k∧k<8∧k<(s.vs.length:Int)∧s.st.length<4999999999000∧s.lg.length<17592186044415 then
  (impl_HasVar.f kf must k).bind fun h=>if (h&& !(s.fr k.toNat))=true then (impl_PackControl.f task ((s.lg.length:Int)+1) tail).bind fun c=>some ((s.log k c).put k v) else some (s.put k v)
 else none
set_option maxHeartbeats 8000000 in
set_option maxRecDepth 100000 in
theorem tr_assign_no (kf:Nat) (B g:Nat) (task tail:Int) (v3:Value) (must:List Int) (Am:Option Addr) (cm:Nat) (s:Tr) (k v:Int) (hv b:Bool) (F:Nat→Prop) (w:World) (hB:B≤w.heap.size) (hI:trP B g task tail v3 s F w) (hm:Kd.C (Kd.int .i64) w Am must.length must) (hcm:must.length≤cm)
  (c:0≤k∧k<8∧k<(s.vs.length:Int)∧s.st.length<4999999999000∧s.lg.length<17592186044415) (h1:impl_HasVar.f kf must k=some hv) (hbf:s.fr k.toNat=b) (hn:(hv&& !b)=false):
  Calls Tryz.prog 66 #[.pointer (some ⟨g,0,none⟩),.slice Am must.length cm,.int .i64 k,.int .i64 v] w fun e w'=>e= .returned (.tuple #[])∧∃F',trP B g task tail v3 (s.put k v) F' w'∧Sep.After F w F' w':=by
 obtain⟨A3,c3,e3⟩:∃A3 c3,v3= .slice A3 s.vs.length c3:=by
  obtain⟨_,_,_,_,⟨_,_,_,q3⟩,_,_⟩:=hI
  exact Yn q3
 subst e3
 have BWC:=Za hB
 have HI:=Za hI
 have HA:=Za (Sep.After.refl F w)
 have HM:=Za hm
 have HCM:=Za hcm
 have H1:=Za h1
 have HBF:=Za hbf
 have HK0:=Za c.1
 have HK1:=Za c.2.2.1
 have HK8:Aside0 (k.toNat<8):=⟨by omega⟩
 have HL:=Za c.2.2.2.1
 have HG:=Za c.2.2.2.2
 have p0:=eq_true c.1
 have p8:=eq_true c.2.1
 have pv:=eq_true c.2.2.1
 clear hB hI hm hcm h1 c hbf
 cases hv<;>cases b<;>first|exact absurd hn z8_17|skip
 all_goals
  clear hn
  go_enter Tryz.func66,Tryz.ntmps66
  go_wp2_with (first
   |(go_at_call 49;(with_reducible refine(impl_HasVar.calls kf _ _ must k _ _ HM.out HCM.out H1.out).mono ?_);rintro e wc ⟨rfl,hd⟩;have hA1:=Sep.After.of_below hd.below F;have hI1:=(trP_loc B g task tail _ s).below BWC.out HI.out hd.below;have hI_:=Za hI1;have hA_:=Za (HA.out.trans hA1);have hW_:=Za (Nat.le_trans BWC.out hA1.size);clear HI HA BWC;have HI:=hI_;have HA:=hA_;have BWC:=hW_;clear hI_ hA_ hW_;clear hd;obtain⟨u0,u1,u2,hb,⟨q0,q1,q2,q3⟩,hD,hF⟩:=HI.out;obtain⟨A2,c2,e2⟩:=Yn q2;subst e2;obtain⟨g3,eg,-,hcell,hfr,hput⟩:=(Sep.rowI.of_R q3).at_ k HK0.out HK1.out;cases eg;have HB:=Za hb;have Q0:=Za q0;have Q1:=Za q1;have Q2:=Za q2;have Q3:=Za q3;have HD:=Za hD;have HF:=Za hF;have HP:=Za hput;clear hb q0 q1 q2 q3 hD hF hput;obtain⟨_,_,_,_,_,_,_⟩:=trB HB.out;obtain⟨hfk,hff⟩:=trF HB.out k.toNat HK8.out;have hf5:=Zc HB.out 5;rw[HBF.out] at hfk)
   |(have la_:=LAST.out;clear la_;go_at_call 70;(with_reducible refine(tr_write B g task tail _ _ _ _ ?hl_ _ _ ?q1_ HI.out).mono ?_);(case hl_=>exact z8_16);(case q1_=>exact BWC.out);rintro e wc ⟨rfl,F2,hI2,hA2,-⟩;have hI_:=Za hI2;have hA_:=Za (HA.out.trans hA2);have hW_:=Za (Nat.le_trans BWC.out hA2.size);clear HI HA BWC;have HI:=hI_;have HA:=hA_;have BWC:=hW_;clear hI_ hA_ hW_;clear hI2 hA2)
   |(go_at_call 70;(with_reducible refine(tr_write B g task tail _ _ _ _ ?hl_ _ _ ?q1_ HI.out).mono ?_);(case hl_=>exact z8_16);(case q1_=>exact BWC.out);rintro e wc ⟨rfl,F2,hI2,hA2,-⟩;have hI_:=Za hI2;have hA_:=Za (HA.out.trans hA2);have hW_:=Za (Nat.le_trans BWC.out hA2.size);clear HI HA BWC;have HI:=hI_;have HA:=hA_;have BWC:=hW_;clear hI_ hA_ hW_;clear hI2 hA2;obtain⟨u0,u1,u2,hb,⟨q0,q1,q2,q3⟩,hD,hF⟩:=HI.out;obtain⟨A2,c2,e2⟩:=Yn q2;subst e2;obtain⟨g3,eg,-,hcell,hfr,hput⟩:=(Sep.rowI.of_R q3).at_ k HK0.out HK1.out;cases eg;have HB:=Za hb;have Q0:=Za q0;have Q1:=Za q1;have Q2:=Za q2;have Q3:=Za q3;have HD:=Za hD;have HF:=Za hF;have HP:=Za hput;clear hb q0 q1 q2 q3 hD hF hput;obtain⟨_,_,_,_,_,_,_⟩:=trB HB.out;obtain⟨hfk,hff⟩:=trF HB.out k.toNat HK8.out;have hf5:=Zc HB.out 5)
   |((with_reducible refine Yq (t:=4) (p:=73) rfl ?_);refine Yp (t:=4) (p:=73) (v:= .const (.bool true)) (w1:=wc.setCell ⟨g,6+k.toNat,none⟩ (.bool true)) ?hg ?ho ?hn ?hr ?_;(case ho=>rfl);(case hg=>rfl);(case hn=>rfl);(case hr=>exact z8_5);intro wc' hw;obtain⟨F5,i5,a5⟩:=trP_cell (i:=6+k.toNat) (u:= .bool true) HB.out Q0.out Q1.out Q2.out Q3.out HD.out HF.out (trF_set _ _ _ _ _ _ _ k.toNat HK8.out) rfl rfl rfl rfl;rw[←hw] at i5 a5;have hI_:=Za i5;have hA_:=Za (HA.out.trans a5);have hW_:=Za (Nat.le_trans BWC.out a5.size);clear HI HA BWC;have HI:=hI_;have HA:=hA_;have BWC:=hW_;clear hI_ hA_ hW_;clear i5 a5 hw;obtain⟨u0,u1,u2,hb,⟨q0,q1,q2,q3⟩,hD,hF⟩:=HI.out;obtain⟨A2,c2,e2⟩:=Yn q2;subst e2;obtain⟨g3,eg,-,hcell,hfr,hput⟩:=(Sep.rowI.of_R q3).at_ k HK0.out HK1.out;cases eg;have HB:=Za hb;have Q0:=Za q0;have Q1:=Za q1;have Q2:=Za q2;have Q3:=Za q3;have HD:=Za hD;have HF:=Za hF;have HP:=Za hput;clear hb q0 q1 q2 q3 hD hF hput;obtain⟨_,_,_,_,_,_,_⟩:=trB HB.out;obtain⟨hfk,hff⟩:=trF HB.out k.toNat HK8.out;have hf5:=Zc HB.out 5)
   |((with_reducible refine Yq (t:=3) (p:=80) rfl ?_);refine Yp (t:=3) (p:=80) (v:= .tmp 79) (w1:=wc'.setCell ⟨g3,k.toNat,none⟩ (.int .i64 v)) ?hg ?ho ?hn ?hr ?_;(case ho=>rfl);(case hg=>rfl);(case hn=>rfl);(case hr=>exact z8_5);intro wd hw;obtain⟨F6,i6,a6⟩:=trP_vs (g3:=g3) (i:=k.toNat) (u:= .int .i64 v) HB.out Q0.out Q1.out Q2.out Q3.out HD.out HF.out rfl (trRow.of_int (B:=B) ((HP.out v).to_R (fun k' hk'=>Ye Q3.out k' hk') (fun _ _=>trivial)));rw[←hw] at i6 a6;have hI_:=Za i6;have hA_:=Za (HA.out.trans a6);have hW_:=Za (Nat.le_trans BWC.out a6.size);clear HI HA BWC;have HI:=hI_;have HA:=hA_;have BWC:=hW_;clear hI_ hA_ hW_;clear i6 a6 hw;have LAST:Aside0 True:=⟨trivial⟩)
   |fail)
  go_end0
  exact⟨rfl,_,HI.out,HA.out⟩
set_option maxHeartbeats 8000000 in
set_option maxRecDepth 100000 in
theorem tr_assign_yes (kf:Nat) (B g:Nat) (task tail:Int) (v3:Value) (must:List Int) (Am:Option Addr) (cm:Nat) (s:Tr) (k v c5:Int) (F:Nat→Prop) (w:World) (hB:B≤w.heap.size) (hI:trP B g task tail v3 s F w) (hm:Kd.C (Kd.int .i64) w Am must.length must) (hcm:must.length≤cm)
  (c:0≤k∧k<8∧k<(s.vs.length:Int)∧s.st.length<4999999999000∧s.lg.length<17592186044415) (h1:impl_HasVar.f kf must k=some true) (hbf:s.fr k.toNat=false) (h5:impl_PackControl.f task ((s.lg.length:Int)+1) tail=some c5):
  Calls Tryz.prog 66 #[.pointer (some ⟨g,0,none⟩),.slice Am must.length cm,.int .i64 k,.int .i64 v] w fun e w'=>e= .returned (.tuple #[])∧∃F',trP B g task tail v3 ((s.log k c5).put k v) F' w'∧Sep.After F w F' w':=by
 obtain⟨A3,c3,e3⟩:∃A3 c3,v3= .slice A3 s.vs.length c3:=by
  obtain⟨_,_,_,_,⟨_,_,_,q3⟩,_,_⟩:=hI
  exact Yn q3
 subst e3
 have BWC:=Za hB
 have HI:=Za hI
 have HA:=Za (Sep.After.refl F w)
 have HM:=Za hm
 have HCM:=Za hcm
 have H1:=Za h1
 have HBF:=Za hbf
 have HK0:=Za c.1
 have HK1:=Za c.2.2.1
 have HK8:Aside0 (k.toNat<8):=⟨by omega⟩
 have HL:=Za c.2.2.2.1
 have HG:=Za c.2.2.2.2
 have p0:=eq_true c.1
 have p8:=eq_true c.2.1
 have pv:=eq_true c.2.2.1
 have H5:=Za h5
 clear hB hI hm hcm h1 c hbf h5
 go_enter Tryz.func66,Tryz.ntmps66
 go_wp2_with (first
  |(go_at_call 49;(with_reducible refine(impl_HasVar.calls kf _ _ must k _ _ HM.out HCM.out H1.out).mono ?_);rintro e wc ⟨rfl,hd⟩;have hA1:=Sep.After.of_below hd.below F;have hI1:=(trP_loc B g task tail _ s).below BWC.out HI.out hd.below;have hI_:=Za hI1;have hA_:=Za (HA.out.trans hA1);have hW_:=Za (Nat.le_trans BWC.out hA1.size);clear HI HA BWC;have HI:=hI_;have HA:=hA_;have BWC:=hW_;clear hI_ hA_ hW_;clear hd;obtain⟨u0,u1,u2,hb,⟨q0,q1,q2,q3⟩,hD,hF⟩:=HI.out;obtain⟨A2,c2,e2⟩:=Yn q2;subst e2;obtain⟨g3,eg,-,hcell,hfr,hput⟩:=(Sep.rowI.of_R q3).at_ k HK0.out HK1.out;cases eg;have HB:=Za hb;have Q0:=Za q0;have Q1:=Za q1;have Q2:=Za q2;have Q3:=Za q3;have HD:=Za hD;have HF:=Za hF;have HP:=Za hput;clear hb q0 q1 q2 q3 hD hF hput;obtain⟨_,_,_,_,_,_,_⟩:=trB HB.out;obtain⟨hfk,hff⟩:=trF HB.out k.toNat HK8.out;have hf5:=Zc HB.out 5;rw[HBF.out] at hfk)
  |(go_at_call 70;(with_reducible refine(tr_write B g task tail _ _ _ _ ?hl_ _ _ ?q1_ HI.out).mono ?_);(case hl_=>exact z8_16);(case q1_=>exact BWC.out);rintro e wc ⟨rfl,F2,hI2,hA2,-⟩;have hI_:=Za hI2;have hA_:=Za (HA.out.trans hA2);have hW_:=Za (Nat.le_trans BWC.out hA2.size);clear HI HA BWC;have HI:=hI_;have HA:=hA_;have BWC:=hW_;clear hI_ hA_ hW_;clear hI2 hA2;obtain⟨u0,u1,u2,hb,⟨q0,q1,q2,q3⟩,hD,hF⟩:=HI.out;obtain⟨A2,c2,e2⟩:=Yn q2;subst e2;obtain⟨g3,eg,-,hcell,hfr,hput⟩:=(Sep.rowI.of_R q3).at_ k HK0.out HK1.out;cases eg;have HB:=Za hb;have Q0:=Za q0;have Q1:=Za q1;have Q2:=Za q2;have Q3:=Za q3;have HD:=Za hD;have HF:=Za hF;have HP:=Za hput;clear hb q0 q1 q2 q3 hD hF hput;obtain⟨_,_,_,_,_,_,_⟩:=trB HB.out;obtain⟨hfk,hff⟩:=trF HB.out k.toNat HK8.out;have hf5:=Zc HB.out 5)
  |((with_reducible refine gate_builtin (b:= .append) (xs:= #[.tmp 47,.tmp 49]) rfl ?_);at_builtin;refine Kd.R_append (w0:=wc) (Kd.int .i64) B rfl (.tmp 47) (.tmp 49) 27 3 (.int .i64 0) 8 rfl Tryz.underlying27 info3 rfl z8_17 (by omega) _ s.lg k [.int .i64 k] (fun _=>True) (fun _=>False) rfl rfl rfl (fun _ hk=>hk.elim) (fun _ _=>trivial) (Q2.out.int (fun _ _=>trivial)) (Yb _ _) BWC.out (by have:=HG.out;omega) ?_;intro v9 w9 ho hb hg hat;obtain⟨A9,c9,e9⟩:=Yn ho;subst e9;have HO:=Za ho;have HG9:Aside0 (wc.grownBy w9 (Value.slice A2 s.lg.length c2).ownBlock):=⟨⟨hg.os,hg.tape,hg.output,hg.size,hg.block⟩⟩;have AT:=Za hat;have B9:=Za (blk_grown (w:=wc) HB.out HG9.out (fun h=>Q2.out.ne HB.out z8_17 g h.symm rfl));clear ho hb hg hat;obtain⟨_,_,_,_,_,_,_⟩:=trB B9.out;have hf9:=Zc B9.out 5)
  |((with_reducible refine Yq (t:=27) (p:=52) rfl ?_);refine Yp (t:=27) (p:=52) (v:= .tmp 50) (w1:=w9.setCell ⟨g,5,none⟩ (.slice A9 (s.lg++[k]).length c9)) ?hg ?ho ?hn ?hr ?_;(case ho=>rfl);(case hg=>rfl);(case hn=>rfl);(case hr=>exact z8_5);intro wc hw;obtain⟨F5,i5,a5⟩:=trP_lg HB.out Q0.out Q1.out Q2.out Q3.out HD.out HF.out HO.out HG9.out AT.out;rw[←hw] at i5 a5;have hI_:=Za i5;have hA_:=Za (HA.out.trans a5);have hW_:=Za (Nat.le_trans BWC.out a5.size);clear HI HA BWC;have HI:=hI_;have HA:=hA_;have BWC:=hW_;clear hI_ hA_ hW_;clear i5 a5 hw;obtain⟨u0,u1,u2,hb,⟨q0,q1,q2,q3⟩,hD,hF⟩:=HI.out;obtain⟨A2,c2,e2⟩:=Yn q2;subst e2;obtain⟨g3,eg,-,hcell,hfr,hput⟩:=(Sep.rowI.of_R q3).at_ k HK0.out HK1.out;cases eg;have HB:=Za hb;have Q0:=Za q0;have Q1:=Za q1;have Q2:=Za q2;have Q3:=Za q3;have HD:=Za hD;have HF:=Za hF;have HP:=Za hput;clear hb q0 q1 q2 q3 hD hF hput;obtain⟨_,_,_,_,_,_,_⟩:=trB HB.out;obtain⟨hfk,hff⟩:=trF HB.out k.toNat HK8.out;have hf5:=Zc HB.out 5;have hc5:wc.cell? ⟨g,5,none⟩=some (.slice A2 (s.lg++[k]).length c2):=(Zb HB.out 5).trans rfl)
  |fail)
 go_region_held3 (fun w'=>w'.cell? ⟨g,2,none⟩=some (.int .i64 task)∧w'.cell? ⟨g,5,none⟩=some (.slice A2 (s.lg++[k]).length c2)∧w'.cell? ⟨g,3,none⟩=some (.int .i64 tail)) (go_keep) ((first|(go_at_call 43;(with_reducible refine(impl_PackControl.calls _ _ _ c5 _ H5.out).mono ?_);rintro e wp ⟨rfl,hd⟩;have hbp:=Zk (z8_0:Below wc.heap.size wc _) hd.below;have BP:=Za (Zi HB.out hbp);have hI1:=(trP_loc B g task tail _ _).below BWC.out HI.out hbp;have hI_:=Za hI1;have hA_:=Za (HA.out.trans (Sep.After.of_below hbp _));have hW_:=Za (Nat.le_trans BWC.out hbp.size);clear HI HA BWC;have HI:=hI_;have HA:=hA_;have BWC:=hW_;clear hI_ hA_ hW_;clear hd hbp;have hp2:wp.cell? ⟨g,2,none⟩=some (.int .i64 task):=(Zb BP.out 2).trans rfl;have hp3:wp.cell? ⟨g,3,none⟩=some (.int .i64 tail):=(Zb BP.out 3).trans rfl;have hp5:wp.cell? ⟨g,5,none⟩=some (.slice A2 (s.lg++[k]).length c2):=(Zb BP.out 5).trans rfl)|(go_at_call 70;(with_reducible refine(tr_write B g task tail (.slice (some ⟨g3,0,none⟩) s.vs.length c3) ({(s.write 3 (wrap64 (9+wrap64 (2*(s.lg.length:Int)))) k).write 3 (wrap64 (wrap64 (9+wrap64 (2*(s.lg.length:Int)))+1)) (rd s.vs k) with lg:=s.lg++[k]}:Tr) _ _ ?hl_ F5 _ ?q1_ ?q2_).mono ?_);(case q2_=>exact(trP_loc B g task tail _ _).below BWC.out HI.out z8_0);(case hl_=>exact z8_16);(case q1_=>exact BWC.out);rintro e wc ⟨rfl,F2,hI2,hA2,hc5⟩;have hw5:=hc5.trans hp5;clear hc5;have hA3:=(Sep.After.of_below (z8_0:Below wp.heap.size wp _) _).trans hA2;have hI_:=Za hI2;have hA_:=Za (HA.out.trans hA3);have hW_:=Za (Nat.le_trans BWC.out hA3.size);clear HI HA BWC;have HI:=hI_;have HA:=hA_;have BWC:=hW_;clear hI_ hA_ hW_;clear hI2 hA2;obtain⟨u0,u1,u2,hb,⟨q0,q1,q2,q3⟩,hD,hF⟩:=HI.out;obtain⟨A2,c2,e2⟩:=Yn q2;subst e2;obtain⟨g3,eg,-,hcell,hfr,hput⟩:=(Sep.rowI.of_R q3).at_ k HK0.out HK1.out;cases eg;have HB:=Za hb;have Q0:=Za q0;have Q1:=Za q1;have Q2:=Za q2;have Q3:=Za q3;have HD:=Za hD;have HF:=Za hF;have HP:=Za hput;clear hb q0 q1 q2 q3 hD hF hput;obtain⟨_,_,_,_,_,_,_⟩:=trB HB.out;obtain⟨hfk,hff⟩:=trF HB.out k.toNat HK8.out;have hf5:=Zc HB.out 5)))
 go_wp2_with (first
  |(have la_:=LAST.out;clear la_;go_at_call 70;(with_reducible refine(tr_write B g task tail _ _ _ _ ?hl_ _ _ ?q1_ HI.out).mono ?_);(case hl_=>exact z8_16);(case q1_=>exact BWC.out);rintro e wc ⟨rfl,F2,hI2,hA2,-⟩;have hI_:=Za hI2;have hA_:=Za (HA.out.trans hA2);have hW_:=Za (Nat.le_trans BWC.out hA2.size);clear HI HA BWC;have HI:=hI_;have HA:=hA_;have BWC:=hW_;clear hI_ hA_ hW_;clear hI2 hA2)
  |((with_reducible refine Yq (t:=4) (p:=73) rfl ?_);refine Yp (t:=4) (p:=73) (v:= .const (.bool true)) (w1:=wc.setCell ⟨g,6+k.toNat,none⟩ (.bool true)) ?hg ?ho ?hn ?hr ?_;(case ho=>rfl);(case hg=>rfl);(case hn=>rfl);(case hr=>exact z8_5);intro wc' hw;obtain⟨F5,i5,a5⟩:=trP_cell (i:=6+k.toNat) (u:= .bool true) HB.out Q0.out Q1.out Q2.out Q3.out HD.out HF.out (trF_set _ _ _ _ _ _ _ k.toNat HK8.out) rfl rfl rfl rfl;rw[←hw] at i5 a5;have hI_:=Za i5;have hA_:=Za (HA.out.trans a5);have hW_:=Za (Nat.le_trans BWC.out a5.size);clear HI HA BWC;have HI:=hI_;have HA:=hA_;have BWC:=hW_;clear hI_ hA_ hW_;clear i5 a5 hw;obtain⟨u0,u1,u2,hb,⟨q0,q1,q2,q3⟩,hD,hF⟩:=HI.out;obtain⟨A2,c2,e2⟩:=Yn q2;subst e2;obtain⟨g3,eg,-,hcell,hfr,hput⟩:=(Sep.rowI.of_R q3).at_ k HK0.out HK1.out;cases eg;have HB:=Za hb;have Q0:=Za q0;have Q1:=Za q1;have Q2:=Za q2;have Q3:=Za q3;have HD:=Za hD;have HF:=Za hF;have HP:=Za hput;clear hb q0 q1 q2 q3 hD hF hput;obtain⟨_,_,_,_,_,_,_⟩:=trB HB.out;obtain⟨hfk,hff⟩:=trF HB.out k.toNat HK8.out;have hf5:=Zc HB.out 5)
  |((with_reducible refine Yq (t:=3) (p:=80) rfl ?_);refine Yp (t:=3) (p:=80) (v:= .tmp 79) (w1:=wc'.setCell ⟨g3,k.toNat,none⟩ (.int .i64 v)) ?hg ?ho ?hn ?hr ?_;(case ho=>rfl);(case hg=>rfl);(case hn=>rfl);(case hr=>exact z8_5);intro wd hw;obtain⟨F6,i6,a6⟩:=trP_vs (g3:=g3) (i:=k.toNat) (u:= .int .i64 v) HB.out Q0.out Q1.out Q2.out Q3.out HD.out HF.out rfl (trRow.of_int (B:=B) ((HP.out v).to_R (fun k' hk'=>Ye Q3.out k' hk') (fun _ _=>trivial)));rw[←hw] at i6 a6;have hI_:=Za i6;have hA_:=Za (HA.out.trans a6);have hW_:=Za (Nat.le_trans BWC.out a6.size);clear HI HA BWC;have HI:=hI_;have HA:=hA_;have BWC:=hW_;clear hI_ hA_ hW_;clear i6 a6 hw;have LAST:Aside0 True:=⟨trivial⟩)
  |fail)
 go_end0
 exact⟨rfl,_,HI.out,HA.out⟩
theorem tr_assign (kf:Nat) (B g:Nat) (task tail:Int) (v3:Value) (must:List Int) (Am:Option Addr) (cm:Nat) (s s':Tr) (k v:Int) (h:s.assign kf task tail must k v=some s') (F:Nat→Prop) (w:World) (hB:B≤w.heap.size) (hI:trP B g task tail v3 s F w) (hm:Kd.C (Kd.int .i64) w Am must.length must) (hcm:must.length≤cm):
  Calls Tryz.prog 66 #[.pointer (some ⟨g,0,none⟩),.slice Am must.length cm,.int .i64 k,.int .i64 v] w fun e w'=>e= .returned (.tuple #[])∧∃F',trP B g task tail v3 s' F' w'∧Sep.After F w F' w':=by
 unfold Tr.assign at h
 by_cases c:0≤k∧k<8∧k<(s.vs.length:Int)∧s.st.length<4999999999000∧s.lg.length<17592186044415
 ·rw[if_pos c] at h
  obtain⟨hv,h1,h2⟩:=Zg h
  by_cases c2:(hv&& !(s.fr k.toNat))=true
  ·rw[if_pos c2] at h2
   obtain⟨c5,h3,h4⟩:=Zg h2
   rw[Bool.and_eq_true,Bool.not_eq_true'] at c2
   obtain⟨rfl,hf⟩:=c2
   cases h4
   exact tr_assign_yes kf B g task tail v3 must Am cm s k v c5 F w hB hI hm hcm c h1 hf h3
  ·rw[if_neg c2] at h2
   cases h2
   exact tr_assign_no kf B g task tail v3 must Am cm s k v hv (s.fr k.toNat) F w hB hI hm hcm c h1 rfl (by simpa using c2)
 ·rw[if_neg c] at h
  cases h
def trQ (w5:World) (F0:Nat→Prop) (B g:Nat) (task tail:Int) (v3:Value) (s:Tr):Sep.Asn:=fun F w=>∃Fx:Nat→Prop,trP B g task tail v3 s Fx w∧(∀k,Fx k→F0 k∨w5.heap.size≤k)∧(∀k,k<w5.heap.size→¬F0 k→w.heap[k]? =w5.heap[k]?)∧w5.heap.size≤w.heap.size∧∀k,F k↔Fx k∨(B≤k∧k<w5.heap.size)
theorem trQ_loc (w5:World) (F0:Nat→Prop) (B g:Nat) (task tail:Int) (v3:Value) (s:Tr):Sep.Loc B (trQ w5 F0 B g task tail v3 s) where
 lt:=by
  rintro F w ⟨Fx,h1,h2,h3,h4,hF⟩ k hk
  rcases (hF k).1 hk with h|h
  ·exact(trP_loc B g task tail v3 s).lt h1 k h
  ·exact⟨h.1,by omega⟩
 keep:=by
  rintro F w w' ⟨Fx,h1,h2,h3,h4,hF⟩ hB hs hk
  refine⟨Fx,(trP_loc B g task tail v3 s).keep h1 hB hs (fun k h=>hk k (h.imp id (fun h=>(hF k).2 (.inl h)))),h2,fun k hk5 hn=> ?_,Nat.le_trans h4 hs,hF⟩
  rw[←h3 k hk5 hn]
  exact hk k (if h:k<B then .inl h else .inr ((hF k).2 (.inr ⟨by omega,hk5⟩)))
section
variable {w5:World} {F0:Nat→Prop} {B g:Nat} {task tail:Int} {v3:Value} {s s':Tr} {F:Nat→Prop} {w w':World}
theorem trQ_next {Fx F':Nat→Prop} (h2:∀k,Fx k→F0 k∨w5.heap.size≤k) (h3:∀k,k<w5.heap.size→¬F0 k→w.heap[k]? =w5.heap[k]?) (h4:w5.heap.size≤w.heap.size) (hF:∀k,F k↔Fx k∨(B≤k∧k<w5.heap.size))
  (h':trP B g task tail v3 s' F' w') (ha:Sep.After Fx w F' w'):∃F2,trQ w5 F0 B g task tail v3 s' F2 w'∧Sep.After F w F2 w':=by
 refine⟨fun k=>F' k∨(B≤k∧k<w5.heap.size),⟨F',h',fun k hk=> ?_,fun k hk hn=> ?_,Nat.le_trans h4 ha.size,fun k=>Iff.rfl⟩,⟨⟨ha.size,fun k hk hn=>ha.kept.2 k hk (fun h=>hn ((hF k).2 (.inl h)))⟩,fun k hk=> ?_,ha.io⟩⟩
 ·exact(ha.sub k hk).elim (h2 k) (fun h=> .inr (Nat.le_trans h4 h))
 ·rw[←h3 k hk hn]
  exact ha.kept.2 k (by omega) (fun h=>(h2 k h).elim hn (fun h=>by omega))
 ·rcases hk with h|h
  ·exact(ha.sub k h).imp (fun h=>(hF k).2 (.inl h)) id
  ·exact .inl ((hF k).2 (.inr h))
theorem tq_calls {f:Nat} {args:Array Value} {r:Ending} (h:trQ w5 F0 B g task tail v3 s F w) (hc:∀Fx,trP B g task tail v3 s Fx w→Calls Tryz.prog f args w fun e w'=>e=r∧∃F',trP B g task tail v3 s' F' w'∧Sep.After Fx w F' w'):
  Calls Tryz.prog f args w fun e w'=>e=r∧∃F2,trQ w5 F0 B g task tail v3 s' F2 w'∧Sep.After F w F2 w':=by
 obtain⟨Fx,h1,h2,h3,h4,hF⟩:=h
 refine(hc Fx h1).mono ?_
 rintro e w' ⟨rfl,F',i,a⟩
 exact⟨rfl,trQ_next h2 h3 h4 hF i a⟩
theorem trQ_blk (h:trQ w5 F0 B g task tail v3 s F w) {k:Nat} {o:Obj} (hb:w5.heap[k]? =some o) (hn:¬F0 k):w.heap[k]? =some o:=by
 obtain⟨_,_,_,h3,_,_⟩:=h
 exact(h3 k (blk_lt hb) hn).trans hb
theorem trQ_row {α:Type} {d:Kd α} {e:Nat} {v:Value} {xs:List α} (h:trQ w5 F0 B g task tail v3 s F w) (hm:trRow d e B w5 v xs) (hn:∀k,v.ownBlock=some k→¬F0 k):trRow d e B w v xs:=by
 obtain⟨_,_,_,h3,_,_⟩:=h
 exact hm.keep (fun k hk=>h3 k (Kd.R_lt hm k hk) (hn k hk))
theorem trQ_vs {A3:Option Addr} {n3 c3:Nat} (h:trQ w5 F0 B g task tail (.slice A3 n3 c3) s F w):n3=s.vs.length∧n3≤c3∧(Kd.int .i64).C w A3 s.vs.length s.vs:=by
 obtain⟨_,⟨_,_,_,_,⟨_,_,_,q3⟩,_,_⟩,_⟩:=h
 exact Ym q3
theorem trQ_sn (h:trQ w5 F0 B g task tail v3 s F w):w.cell? ⟨g,4,none⟩=some (.int .i64 s.sn):=by
 obtain⟨_,⟨_,_,_,hb,_⟩,_⟩:=h
 exact(trB hb).2.2.2.2.1
structure TrX (w5:World) (F0:Nat→Prop) (g gx gm gr ga:Nat) (vm vr:Value) (at_:Int):Prop where
 x:w5.heap[gx]? =some (.cells #[.pointer (some ⟨g,0,none⟩)] 87 (0,0))
 m:w5.heap[gm]? =some (.cells #[vm] 27 (0,0))
 r:w5.heap[gr]? =some (.cells #[vr] 27 (0,0))
 a:w5.heap[ga]? =some (.cells #[.int .i64 at_] 3 (0,0))
 nx:¬F0 gx
 nm:¬F0 gm
 nr:¬F0 gr
 na:¬F0 ga
theorem trQ_cells {gx gm gr ga:Nat} {vm vr:Value} {at_:Int} (h:trQ w5 F0 B g task tail v3 s F w) (X:TrX w5 F0 g gx gm gr ga vm vr at_):
  w.cell? ⟨gx,0,none⟩=some (.pointer (some ⟨g,0,none⟩))∧w.cell? ⟨gm,0,none⟩=some vm∧w.cell? ⟨gr,0,none⟩=some vr∧w.cell? ⟨ga,0,none⟩=some (.int .i64 at_)∧w.cell? ⟨g,14,none⟩=some v3:=by
 refine⟨(Zb (trQ_blk h X.x X.nx) 0).trans rfl,(Zb (trQ_blk h X.m X.nm) 0).trans rfl,(Zb (trQ_blk h X.r X.nr) 0).trans rfl,(Zb (trQ_blk h X.a X.na) 0).trans rfl,?_⟩
 obtain⟨_,⟨_,_,_,hb,_⟩,_⟩:=h
 exact(trB hb).2.2.2.2.2.2
end
theorem tq_work (w5:World) (F0:Nat→Prop) (B g:Nat) (task tail:Int) (v3:Value) (s:Tr) (c:Int) (hl:s.st.length<5000000000000) (F:Nat→Prop) (w:World) (hB:B≤w.heap.size) (hI:trQ w5 F0 B g task tail v3 s F w):
  Calls Tryz.prog 64 #[.pointer (some ⟨g,0,none⟩),.int .i64 c] w fun e w'=>e= .returned (.tuple #[])∧∃F',trQ w5 F0 B g task tail v3 (s.write c (-1) 0) F' w'∧Sep.After F w F' w':=
 tq_calls hI (fun Fx h=>tr_work B g task tail v3 s c hl Fx w hB h)
theorem tq_send (w5:World) (F0:Nat→Prop) (B g:Nat) (task tail:Int) (v3:Value) (s:Tr) (v:Int) (hl:s.st.length<5000000000000) (F:Nat→Prop) (w:World) (hB:B≤w.heap.size) (hI:trQ w5 F0 B g task tail v3 s F w):
  Calls Tryz.prog 69 #[.pointer (some ⟨g,0,none⟩),.int .i64 v] w fun e w'=>e= .returned (.tuple #[])∧∃F',trQ w5 F0 B g task tail v3 (s.sendB tail v) F' w'∧Sep.After F w F' w':=
 tq_calls hI (fun Fx h=>tr_send B g task tail v3 s v hl Fx w hB h)
theorem tq_assign (kf:Nat) (w5:World) (F0:Nat→Prop) (B g:Nat) (task tail:Int) (v3:Value) (must:List Int) (Am:Option Addr) (cm:Nat) (s s':Tr) (k v:Int) (h:s.assign kf task tail must k v=some s') (F:Nat→Prop) (w:World) (hB:B≤w.heap.size) (hI:trQ w5 F0 B g task tail v3 s F w) (hm:Kd.C (Kd.int .i64) w Am must.length must) (hcm:must.length≤cm):
  Calls Tryz.prog 66 #[.pointer (some ⟨g,0,none⟩),.slice Am must.length cm,.int .i64 k,.int .i64 v] w fun e w'=>e= .returned (.tuple #[])∧∃F',trQ w5 F0 B g task tail v3 s' F' w'∧Sep.After F w F' w':=
 tq_calls hI (fun Fx hx=>tr_assign kf B g task tail v3 must Am cm s s' k v h Fx w hB hx hm hcm)
set_option maxHeartbeats 8000000 in
set_option maxRecDepth 100000 in
theorem tq_step1 (kf:Nat) (w5:World) (F0:Nat→Prop) (B g gx gm gr ga:Nat) (task tail:Int) (A3:Option Addr) (n3 c3:Nat) (must rs:List Int) (Am Ar:Option Addr) (cm cr:Nat) (at_:Int) (X:TrX w5 F0 g gx gm gr ga (.slice Am must.length cm) (.slice Ar rs.length cr) at_)
  (hM:∀s F w,trQ w5 F0 B g task tail (.slice A3 n3 c3) s F w→Kd.C (Kd.int .i64) w Am must.length must) (hcm:must.length≤cm) (hR:∀s F w,trQ w5 F0 B g task tail (.slice A3 n3 c3) s F w→Kd.C (Kd.int .i64) w Ar rs.length rs) (hcr:rs.length≤cr)
  (s s':Tr) (x0 x1 x2 x3 x4 x5 c y:Int) (bo:Bool) (F:Nat→Prop) (w:World) (hB:B≤w.heap.size) (hI:trQ w5 F0 B g task tail (.slice A3 n3 c3) s F w) (hc:impl_StmtCost.f kf x0 x1 x2 x3 x4 x5=some c) (hl:s.st.length<4999999998000) (hx:x0=1) (hy:impl_EvalExpr.f kf s.vs x3 x4 x5=some y) (ha:(s.write c (-1) 0).assign kf task tail must x1 y=some s'):
  Calls Tryz.prog 63 #[.agg #[.int .i64 x0,.int .i64 x1,.int .i64 x2,.int .i64 x3,.int .i64 x4,.int .i64 x5],.pointer (some ⟨gx,0,none⟩),.pointer (some ⟨gm,0,none⟩),.pointer (some ⟨gr,0,none⟩),.pointer (some ⟨ga,0,none⟩)] w fun e w'=>e= .returned (.bool true)∧∃F',trQ w5 F0 B g task tail (.slice A3 n3 c3) s' F' w'∧Sep.After F w F' w':=by
 obtain⟨e3,hc3,-⟩:=trQ_vs hI
 subst e3
 have HX:=Za X
 have HM:=Za hM
 have HR:=Za hR
 have HCM:=Za hcm
 have HCR:=Za hcr
 have HC3:=Za hc3
 have BWC:=Za hB
 have HI:=Za hI
 have HC:=Za hc
 have HL:=Za hl
 have HY:=Za hy
 have HS:=Za ha
 subst hx
 clear X hM hcm hR hcr hc3 hB hI hc hl hy ha
 go_enter Tryz.func63,Tryz.ntmps63
 go_wp2_with (first
  |((with_reducible refine Zr (N:=5) rfl ?_);refine Zy ?hg (N:=5) ?hd (cs:= #[.int .i64 1,.int .i64 x1,.int .i64 x2,.int .i64 x3,.int .i64 x4,.int .i64 x5]) (t:=93) ?hr ?_;(case hd=>rfl);(case hg=>rfl);(case hr=>exact z8_5);intro gs hgs w1 hs hb1;have HB1:=Za hb1;have BS:=Za hs;have NF:Aside0 (¬F gs):=⟨fun h=>by have:=((trQ_loc w5 F0 B g task tail (.slice A3 s.vs.length c3) s).lt HI.out gs h).2;omega⟩;have hI1:=(trQ_loc w5 F0 B g task tail (.slice A3 s.vs.length c3) s).below BWC.out HI.out hb1;have hW1:=Nat.le_trans BWC.out hb1.size;clear HI BWC;have HI:=Za hI1;have BWC:=Za hW1;have HA:=Za (Sep.After.refl F w1);clear hI1 hW1 hgs hs hb1;obtain⟨hx1,hm1,hr1,ha1,hv1⟩:=trQ_cells HI.out HX.out;obtain⟨⟨_,_,_,_,_,_⟩,-⟩:=Sep.blk6 BS.out)
  |fail)
 have BS1:=BS
 go_region_held3 (fun w'=>w'.cell? ⟨gx,0,none⟩=some (.pointer (some ⟨g,0,none⟩))∧w'.cell? ⟨gs,0,none⟩=some (.int .i64 1)∧w'.cell? ⟨gs,1,none⟩=some (.int .i64 x1)∧w'.cell? ⟨gs,2,none⟩=some (.int .i64 x2)∧w'.cell? ⟨gs,3,none⟩=some (.int .i64 x3)∧w'.cell? ⟨gs,4,none⟩=some (.int .i64 x4)∧w'.cell? ⟨gs,5,none⟩=some (.int .i64 x5)) (go_keep) ((first|(go_at_call 65;(with_reducible refine(impl_StmtCost.calls kf _ _ _ _ _ _ c _ HC.out).mono ?_);rintro e wp ⟨rfl,hd⟩;have hbp:=Zk (z8_0:Below w1.heap.size w1 _) hd;clear hd;have hI_:=Za ((trQ_loc w5 F0 B g task tail _ _).below BWC.out HI.out hbp);have hA_:=Za (HA.out.trans (Sep.After.of_below hbp _));have hW_:=Za (Nat.le_trans BWC.out hbp.size);have hS_:=Za (Zi BS.out hbp);clear HI HA BWC BS;have HI:=hI_;have HA:=hA_;have BWC:=hW_;have BS:=hS_;clear hI_ hA_ hW_ hS_ hbp;obtain⟨_,_,_,_,_⟩:=trQ_cells HI.out HX.out;obtain⟨⟨_,_,_,_,_,_⟩,-⟩:=Sep.blk6 BS.out)|(go_at_call 64;(with_reducible refine(tq_work w5 F0 B g task tail _ s _ ?hl_ F _ ?q1_ ((trQ_loc w5 F0 B g task tail _ s).below BWC.out HI.out z8_0)).mono ?_);(case hl_=>(have:=HL.out;omega));(case q1_=>exact BWC.out);rintro e wc ⟨rfl,F2,hI2,hA2⟩;have hA3_:=(Sep.After.of_below (z8_0:Below wp.heap.size wp _) _).trans hA2;have hI_:=Za hI2;have hA_:=Za (HA.out.trans hA3_);have hW_:=Za (Nat.le_trans BWC.out hA3_.size);have hS_:=Za (hA3_.blk BS.out (HA.out.out BS1.out NF.out));clear HI HA BWC BS;have HI:=hI_;have HA:=hA_;have BWC:=hW_;have BS:=hS_;clear hI_ hA_ hW_ hS_ hI2 hA2 hA3_;obtain⟨_,_,_,_,_⟩:=trQ_cells HI.out HX.out;obtain⟨⟨_,_,_,_,_,_⟩,-⟩:=Sep.blk6 BS.out)))
 go_wp2
 go_region_held3 (fun w'=>w'.cell? ⟨gx,0,none⟩=some (.pointer (some ⟨g,0,none⟩))∧w'.cell? ⟨gm,0,none⟩=some (.slice Am must.length cm)∧w'.cell? ⟨g,14,none⟩=some (.slice A3 s.vs.length c3)∧w'.cell? ⟨gs,0,none⟩=some (.int .i64 1)∧w'.cell? ⟨gs,1,none⟩=some (.int .i64 x1)∧w'.cell? ⟨gs,2,none⟩=some (.int .i64 x2)∧w'.cell? ⟨gs,3,none⟩=some (.int .i64 x3)∧w'.cell? ⟨gs,4,none⟩=some (.int .i64 x4)∧w'.cell? ⟨gs,5,none⟩=some (.int .i64 x5)) (go_keep) ((first|(go_at_call 67;(with_reducible refine(impl_EvalExpr.calls kf _ _ s.vs _ _ _ y _ (Yh (trQ_vs HI.out).2.2 z8_0) HC3.out HY.out).mono ?_);rintro e wq ⟨rfl,hd⟩;have hbp:=Zk (z8_0:Below wc.heap.size wc _) hd;clear hd;have hI_:=Za ((trQ_loc w5 F0 B g task tail _ _).below BWC.out HI.out hbp);have hA_:=Za (HA.out.trans (Sep.After.of_below hbp _));have hW_:=Za (Nat.le_trans BWC.out hbp.size);have hS_:=Za (Zi BS.out hbp);clear HI HA BWC BS;have HI:=hI_;have HA:=hA_;have BWC:=hW_;have BS:=hS_;clear hI_ hA_ hW_ hS_ hbp;obtain⟨_,_,_,_,_⟩:=trQ_cells HI.out HX.out;obtain⟨⟨_,_,_,_,_,_⟩,-⟩:=Sep.blk6 BS.out)|(go_at_call 66;(with_reducible refine(tq_assign kf w5 F0 B g task tail _ must _ _ (s.write c (-1) 0) s' _ _ HS.out F2 _ ?q1_ ((trQ_loc w5 F0 B g task tail _ (s.write c (-1) 0)).below BWC.out HI.out z8_0) (HM.out _ _ _ ((trQ_loc w5 F0 B g task tail _ (s.write c (-1) 0)).below BWC.out HI.out z8_0)) HCM.out).mono ?_);(case q1_=>exact BWC.out);rintro e wd ⟨rfl,F3,hI2,hA2⟩;have hA3_:=(Sep.After.of_below (z8_0:Below wq.heap.size wq _) _).trans hA2;have hI_:=Za hI2;have hA_:=Za (HA.out.trans hA3_);have hW_:=Za (Nat.le_trans BWC.out hA3_.size);have hS_:=Za (hA3_.blk BS.out (HA.out.out BS1.out NF.out));clear HI HA BWC BS;have HI:=hI_;have HA:=hA_;have BWC:=hW_;have BS:=hS_;clear hI_ hA_ hW_ hS_ hI2 hA2 hA3_;obtain⟨_,_,_,_,_⟩:=trQ_cells HI.out HX.out;obtain⟨⟨_,_,_,_,_,_⟩,-⟩:=Sep.blk6 BS.out)))
 go_wp2
 go_ret
 exact⟨rfl,_,HI.out,(Sep.After.of_below HB1.out F).trans HA.out⟩
set_option maxHeartbeats 8000000 in
set_option maxRecDepth 100000 in
theorem tq_step3 (kf:Nat) (w5:World) (F0:Nat→Prop) (B g gx gm gr ga:Nat) (task tail:Int) (A3:Option Addr) (n3 c3:Nat) (must rs:List Int) (Am Ar:Option Addr) (cm cr:Nat) (at_:Int) (X:TrX w5 F0 g gx gm gr ga (.slice Am must.length cm) (.slice Ar rs.length cr) at_)
  (hM:∀s F w,trQ w5 F0 B g task tail (.slice A3 n3 c3) s F w→Kd.C (Kd.int .i64) w Am must.length must) (hcm:must.length≤cm) (hR:∀s F w,trQ w5 F0 B g task tail (.slice A3 n3 c3) s F w→Kd.C (Kd.int .i64) w Ar rs.length rs) (hcr:rs.length≤cr)
  (s s':Tr) (x0 x1 x2 x3 x4 x5 c y:Int) (bo:Bool) (F:Nat→Prop) (w:World) (hB:B≤w.heap.size) (hI:trQ w5 F0 B g task tail (.slice A3 n3 c3) s F w) (hc:impl_StmtCost.f kf x0 x1 x2 x3 x4 x5=some c) (hl:s.st.length<4999999998000) (hx:x0=3) (hy:impl_EvalExpr.f kf s.vs x3 x4 x5=some y):
  Calls Tryz.prog 63 #[.agg #[.int .i64 x0,.int .i64 x1,.int .i64 x2,.int .i64 x3,.int .i64 x4,.int .i64 x5],.pointer (some ⟨gx,0,none⟩),.pointer (some ⟨gm,0,none⟩),.pointer (some ⟨gr,0,none⟩),.pointer (some ⟨ga,0,none⟩)] w fun e w'=>e= .returned (.bool true)∧∃F',trQ w5 F0 B g task tail (.slice A3 n3 c3) ((s.write c (-1) 0).sendB tail y) F' w'∧Sep.After F w F' w':=by
 obtain⟨e3,hc3,-⟩:=trQ_vs hI
 subst e3
 have HX:=Za X
 have HM:=Za hM
 have HR:=Za hR
 have HCM:=Za hcm
 have HCR:=Za hcr
 have HC3:=Za hc3
 have BWC:=Za hB
 have HI:=Za hI
 have HC:=Za hc
 have HL:=Za hl
 have HY:=Za hy
 subst hx
 clear X hM hcm hR hcr hc3 hB hI hc hl hy
 go_enter Tryz.func63,Tryz.ntmps63
 go_wp2_with (first
  |((with_reducible refine Zr (N:=5) rfl ?_);refine Zy ?hg (N:=5) ?hd (cs:= #[.int .i64 3,.int .i64 x1,.int .i64 x2,.int .i64 x3,.int .i64 x4,.int .i64 x5]) (t:=93) ?hr ?_;(case hd=>rfl);(case hg=>rfl);(case hr=>exact z8_5);intro gs hgs w1 hs hb1;have HB1:=Za hb1;have BS:=Za hs;have NF:Aside0 (¬F gs):=⟨fun h=>by have:=((trQ_loc w5 F0 B g task tail (.slice A3 s.vs.length c3) s).lt HI.out gs h).2;omega⟩;have hI1:=(trQ_loc w5 F0 B g task tail (.slice A3 s.vs.length c3) s).below BWC.out HI.out hb1;have hW1:=Nat.le_trans BWC.out hb1.size;clear HI BWC;have HI:=Za hI1;have BWC:=Za hW1;have HA:=Za (Sep.After.refl F w1);clear hI1 hW1 hgs hs hb1;obtain⟨hx1,hm1,hr1,ha1,hv1⟩:=trQ_cells HI.out HX.out;obtain⟨⟨_,_,_,_,_,_⟩,-⟩:=Sep.blk6 BS.out)
  |fail)
 have BS1:=BS
 go_region_held3 (fun w'=>w'.cell? ⟨gx,0,none⟩=some (.pointer (some ⟨g,0,none⟩))∧w'.cell? ⟨gs,0,none⟩=some (.int .i64 3)∧w'.cell? ⟨gs,1,none⟩=some (.int .i64 x1)∧w'.cell? ⟨gs,2,none⟩=some (.int .i64 x2)∧w'.cell? ⟨gs,3,none⟩=some (.int .i64 x3)∧w'.cell? ⟨gs,4,none⟩=some (.int .i64 x4)∧w'.cell? ⟨gs,5,none⟩=some (.int .i64 x5)) (go_keep) ((first|(go_at_call 65;(with_reducible refine(impl_StmtCost.calls kf _ _ _ _ _ _ c _ HC.out).mono ?_);rintro e wp ⟨rfl,hd⟩;have hbp:=Zk (z8_0:Below w1.heap.size w1 _) hd;clear hd;have hI_:=Za ((trQ_loc w5 F0 B g task tail _ _).below BWC.out HI.out hbp);have hA_:=Za (HA.out.trans (Sep.After.of_below hbp _));have hW_:=Za (Nat.le_trans BWC.out hbp.size);have hS_:=Za (Zi BS.out hbp);clear HI HA BWC BS;have HI:=hI_;have HA:=hA_;have BWC:=hW_;have BS:=hS_;clear hI_ hA_ hW_ hS_ hbp;obtain⟨_,_,_,_,_⟩:=trQ_cells HI.out HX.out;obtain⟨⟨_,_,_,_,_,_⟩,-⟩:=Sep.blk6 BS.out)|(go_at_call 64;(with_reducible refine(tq_work w5 F0 B g task tail _ s _ ?hl_ F _ ?q1_ ((trQ_loc w5 F0 B g task tail _ s).below BWC.out HI.out z8_0)).mono ?_);(case hl_=>(have:=HL.out;omega));(case q1_=>exact BWC.out);rintro e wc ⟨rfl,F2,hI2,hA2⟩;have hA3_:=(Sep.After.of_below (z8_0:Below wp.heap.size wp _) _).trans hA2;have hI_:=Za hI2;have hA_:=Za (HA.out.trans hA3_);have hW_:=Za (Nat.le_trans BWC.out hA3_.size);have hS_:=Za (hA3_.blk BS.out (HA.out.out BS1.out NF.out));clear HI HA BWC BS;have HI:=hI_;have HA:=hA_;have BWC:=hW_;have BS:=hS_;clear hI_ hA_ hW_ hS_ hI2 hA2 hA3_;obtain⟨_,_,_,_,_⟩:=trQ_cells HI.out HX.out;obtain⟨⟨_,_,_,_,_,_⟩,-⟩:=Sep.blk6 BS.out)))
 go_wp2
 go_region_held3 (fun w'=>w'.cell? ⟨gx,0,none⟩=some (.pointer (some ⟨g,0,none⟩))∧w'.cell? ⟨g,14,none⟩=some (.slice A3 s.vs.length c3)∧w'.cell? ⟨gs,0,none⟩=some (.int .i64 3)∧w'.cell? ⟨gs,1,none⟩=some (.int .i64 x1)∧w'.cell? ⟨gs,2,none⟩=some (.int .i64 x2)∧w'.cell? ⟨gs,3,none⟩=some (.int .i64 x3)∧w'.cell? ⟨gs,4,none⟩=some (.int .i64 x4)∧w'.cell? ⟨gs,5,none⟩=some (.int .i64 x5)) (go_keep) ((first|(go_at_call 67;(with_reducible refine(impl_EvalExpr.calls kf _ _ s.vs _ _ _ y _ (Yh (trQ_vs HI.out).2.2 z8_0) HC3.out HY.out).mono ?_);rintro e wq ⟨rfl,hd⟩;have hbp:=Zk (z8_0:Below wc.heap.size wc _) hd;clear hd;have hI_:=Za ((trQ_loc w5 F0 B g task tail _ _).below BWC.out HI.out hbp);have hA_:=Za (HA.out.trans (Sep.After.of_below hbp _));have hW_:=Za (Nat.le_trans BWC.out hbp.size);have hS_:=Za (Zi BS.out hbp);clear HI HA BWC BS;have HI:=hI_;have HA:=hA_;have BWC:=hW_;have BS:=hS_;clear hI_ hA_ hW_ hS_ hbp;obtain⟨_,_,_,_,_⟩:=trQ_cells HI.out HX.out;obtain⟨⟨_,_,_,_,_,_⟩,-⟩:=Sep.blk6 BS.out)|(go_at_call 69;(with_reducible refine(tq_send w5 F0 B g task tail _ (s.write c (-1) 0) y ?hl_ F2 _ ?q1_ ((trQ_loc w5 F0 B g task tail _ (s.write c (-1) 0)).below BWC.out HI.out z8_0)).mono ?_);(case hl_=>((try simp only[Tr.write,List.length_append,List.length_singleton]);have:=HL.out;omega));(case q1_=>exact BWC.out);rintro e wd ⟨rfl,F3,hI2,hA2⟩;have hA3_:=(Sep.After.of_below (z8_0:Below wq.heap.size wq _) _).trans hA2;have hI_:=Za hI2;have hA_:=Za (HA.out.trans hA3_);have hW_:=Za (Nat.le_trans BWC.out hA3_.size);have hS_:=Za (hA3_.blk BS.out (HA.out.out BS1.out NF.out));clear HI HA BWC BS;have HI:=hI_;have HA:=hA_;have BWC:=hW_;have BS:=hS_;clear hI_ hA_ hW_ hS_ hI2 hA2 hA3_;obtain⟨_,_,_,_,_⟩:=trQ_cells HI.out HX.out;obtain⟨⟨_,_,_,_,_,_⟩,-⟩:=Sep.blk6 BS.out)))
 go_wp2
 go_ret
 exact⟨rfl,_,HI.out,(Sep.After.of_below HB1.out F).trans HA.out⟩
set_option maxHeartbeats 8000000 in
set_option maxRecDepth 100000 in
theorem tq_step4 (kf:Nat) (w5:World) (F0:Nat→Prop) (B g gx gm gr ga:Nat) (task tail:Int) (A3:Option Addr) (n3 c3:Nat) (must rs:List Int) (Am Ar:Option Addr) (cm cr:Nat) (at_:Int) (X:TrX w5 F0 g gx gm gr ga (.slice Am must.length cm) (.slice Ar rs.length cr) at_)
  (hM:∀s F w,trQ w5 F0 B g task tail (.slice A3 n3 c3) s F w→Kd.C (Kd.int .i64) w Am must.length must) (hcm:must.length≤cm) (hR:∀s F w,trQ w5 F0 B g task tail (.slice A3 n3 c3) s F w→Kd.C (Kd.int .i64) w Ar rs.length rs) (hcr:rs.length≤cr)
  (s s':Tr) (x0 x1 x2 x3 x4 x5 c y:Int) (bo:Bool) (F:Nat→Prop) (w:World) (hB:B≤w.heap.size) (hI:trQ w5 F0 B g task tail (.slice A3 n3 c3) s F w) (hc:impl_StmtCost.f kf x0 x1 x2 x3 x4 x5=some c) (hl:s.st.length<4999999998000) (hx:x0=4) (hy:impl_EvalExpr.f kf s.vs x3 x4 x5=some y):
  Calls Tryz.prog 63 #[.agg #[.int .i64 x0,.int .i64 x1,.int .i64 x2,.int .i64 x3,.int .i64 x4,.int .i64 x5],.pointer (some ⟨gx,0,none⟩),.pointer (some ⟨gm,0,none⟩),.pointer (some ⟨gr,0,none⟩),.pointer (some ⟨ga,0,none⟩)] w fun e w'=>e= .returned (.bool (y != 0))∧∃F',trQ w5 F0 B g task tail (.slice A3 n3 c3) (s.write c (-1) 0) F' w'∧Sep.After F w F' w':=by
 obtain⟨e3,hc3,-⟩:=trQ_vs hI
 subst e3
 have HX:=Za X
 have HM:=Za hM
 have HR:=Za hR
 have HCM:=Za hcm
 have HCR:=Za hcr
 have HC3:=Za hc3
 have BWC:=Za hB
 have HI:=Za hI
 have HC:=Za hc
 have HL:=Za hl
 have HY:=Za hy
 subst hx
 clear X hM hcm hR hcr hc3 hB hI hc hl hy
 go_enter Tryz.func63,Tryz.ntmps63
 go_wp2_with (first
  |((with_reducible refine Zr (N:=5) rfl ?_);refine Zy ?hg (N:=5) ?hd (cs:= #[.int .i64 4,.int .i64 x1,.int .i64 x2,.int .i64 x3,.int .i64 x4,.int .i64 x5]) (t:=93) ?hr ?_;(case hd=>rfl);(case hg=>rfl);(case hr=>exact z8_5);intro gs hgs w1 hs hb1;have HB1:=Za hb1;have BS:=Za hs;have NF:Aside0 (¬F gs):=⟨fun h=>by have:=((trQ_loc w5 F0 B g task tail (.slice A3 s.vs.length c3) s).lt HI.out gs h).2;omega⟩;have hI1:=(trQ_loc w5 F0 B g task tail (.slice A3 s.vs.length c3) s).below BWC.out HI.out hb1;have hW1:=Nat.le_trans BWC.out hb1.size;clear HI BWC;have HI:=Za hI1;have BWC:=Za hW1;have HA:=Za (Sep.After.refl F w1);clear hI1 hW1 hgs hs hb1;obtain⟨hx1,hm1,hr1,ha1,hv1⟩:=trQ_cells HI.out HX.out;obtain⟨⟨_,_,_,_,_,_⟩,-⟩:=Sep.blk6 BS.out)
  |fail)
 have BS1:=BS
 go_region_held3 (fun w'=>w'.cell? ⟨gx,0,none⟩=some (.pointer (some ⟨g,0,none⟩))∧w'.cell? ⟨gs,0,none⟩=some (.int .i64 4)∧w'.cell? ⟨gs,1,none⟩=some (.int .i64 x1)∧w'.cell? ⟨gs,2,none⟩=some (.int .i64 x2)∧w'.cell? ⟨gs,3,none⟩=some (.int .i64 x3)∧w'.cell? ⟨gs,4,none⟩=some (.int .i64 x4)∧w'.cell? ⟨gs,5,none⟩=some (.int .i64 x5)) (go_keep) ((first|(go_at_call 65;(with_reducible refine(impl_StmtCost.calls kf _ _ _ _ _ _ c _ HC.out).mono ?_);rintro e wp ⟨rfl,hd⟩;have hbp:=Zk (z8_0:Below w1.heap.size w1 _) hd;clear hd;have hI_:=Za ((trQ_loc w5 F0 B g task tail _ _).below BWC.out HI.out hbp);have hA_:=Za (HA.out.trans (Sep.After.of_below hbp _));have hW_:=Za (Nat.le_trans BWC.out hbp.size);have hS_:=Za (Zi BS.out hbp);clear HI HA BWC BS;have HI:=hI_;have HA:=hA_;have BWC:=hW_;have BS:=hS_;clear hI_ hA_ hW_ hS_ hbp;obtain⟨_,_,_,_,_⟩:=trQ_cells HI.out HX.out;obtain⟨⟨_,_,_,_,_,_⟩,-⟩:=Sep.blk6 BS.out)|(go_at_call 64;(with_reducible refine(tq_work w5 F0 B g task tail _ s _ ?hl_ F _ ?q1_ ((trQ_loc w5 F0 B g task tail _ s).below BWC.out HI.out z8_0)).mono ?_);(case hl_=>(have:=HL.out;omega));(case q1_=>exact BWC.out);rintro e wc ⟨rfl,F2,hI2,hA2⟩;have hA3_:=(Sep.After.of_below (z8_0:Below wp.heap.size wp _) _).trans hA2;have hI_:=Za hI2;have hA_:=Za (HA.out.trans hA3_);have hW_:=Za (Nat.le_trans BWC.out hA3_.size);have hS_:=Za (hA3_.blk BS.out (HA.out.out BS1.out NF.out));clear HI HA BWC BS;have HI:=hI_;have HA:=hA_;have BWC:=hW_;have BS:=hS_;clear hI_ hA_ hW_ hS_ hI2 hA2 hA3_;obtain⟨_,_,_,_,_⟩:=trQ_cells HI.out HX.out;obtain⟨⟨_,_,_,_,_,_⟩,-⟩:=Sep.blk6 BS.out)))
 go_wp2
 go_region_held3 (fun w'=>w'.cell? ⟨gx,0,none⟩=some (.pointer (some ⟨g,0,none⟩))∧w'.cell? ⟨g,14,none⟩=some (.slice A3 s.vs.length c3)∧w'.cell? ⟨gs,0,none⟩=some (.int .i64 4)∧w'.cell? ⟨gs,1,none⟩=some (.int .i64 x1)∧w'.cell? ⟨gs,2,none⟩=some (.int .i64 x2)∧w'.cell? ⟨gs,3,none⟩=some (.int .i64 x3)∧w'.cell? ⟨gs,4,none⟩=some (.int .i64 x4)∧w'.cell? ⟨gs,5,none⟩=some (.int .i64 x5)) (go_keep) ((first|(go_at_call 67;(with_reducible refine(impl_EvalExpr.calls kf _ _ s.vs _ _ _ y _ (Yh (trQ_vs HI.out).2.2 z8_0) HC3.out HY.out).mono ?_);rintro e wq ⟨rfl,hd⟩;have hbp:=Zk (z8_0:Below wc.heap.size wc _) hd;clear hd;have hI_:=Za ((trQ_loc w5 F0 B g task tail _ _).below BWC.out HI.out hbp);have hA_:=Za (HA.out.trans (Sep.After.of_below hbp _));have hW_:=Za (Nat.le_trans BWC.out hbp.size);have hS_:=Za (Zi BS.out hbp);clear HI HA BWC BS;have HI:=hI_;have HA:=hA_;have BWC:=hW_;have BS:=hS_;clear hI_ hA_ hW_ hS_ hbp;obtain⟨_,_,_,_,_⟩:=trQ_cells HI.out HX.out;obtain⟨⟨_,_,_,_,_,_⟩,-⟩:=Sep.blk6 BS.out)))
 go_wp2
 go_ret
 exact⟨rfl,_,HI.out,(Sep.After.of_below HB1.out F).trans HA.out⟩
set_option maxHeartbeats 8000000 in
set_option maxRecDepth 100000 in
theorem tq_step5 (kf:Nat) (w5:World) (F0:Nat→Prop) (B g gx gm gr ga:Nat) (task tail:Int) (A3:Option Addr) (n3 c3:Nat) (must rs:List Int) (Am Ar:Option Addr) (cm cr:Nat) (at_:Int) (X:TrX w5 F0 g gx gm gr ga (.slice Am must.length cm) (.slice Ar rs.length cr) at_)
  (hM:∀s F w,trQ w5 F0 B g task tail (.slice A3 n3 c3) s F w→Kd.C (Kd.int .i64) w Am must.length must) (hcm:must.length≤cm) (hR:∀s F w,trQ w5 F0 B g task tail (.slice A3 n3 c3) s F w→Kd.C (Kd.int .i64) w Ar rs.length rs) (hcr:rs.length≤cr)
  (s s':Tr) (x0 x1 x2 x3 x4 x5 c y:Int) (bo:Bool) (F:Nat→Prop) (w:World) (hB:B≤w.heap.size) (hI:trQ w5 F0 B g task tail (.slice A3 n3 c3) s F w) (hc:impl_StmtCost.f kf x0 x1 x2 x3 x4 x5=some c) (hl:s.st.length<4999999998000) (n1:¬x0=1) (n2:¬x0=2) (n3':¬x0=3) (n4:¬x0=4):
  Calls Tryz.prog 63 #[.agg #[.int .i64 x0,.int .i64 x1,.int .i64 x2,.int .i64 x3,.int .i64 x4,.int .i64 x5],.pointer (some ⟨gx,0,none⟩),.pointer (some ⟨gm,0,none⟩),.pointer (some ⟨gr,0,none⟩),.pointer (some ⟨ga,0,none⟩)] w fun e w'=>e= .returned (.bool true)∧∃F',trQ w5 F0 B g task tail (.slice A3 n3 c3) (s.write c (-1) 0) F' w'∧Sep.After F w F' w':=by
 obtain⟨e3,hc3,-⟩:=trQ_vs hI
 subst e3
 have HX:=Za X
 have HM:=Za hM
 have HR:=Za hR
 have HCM:=Za hcm
 have HCR:=Za hcr
 have HC3:=Za hc3
 have BWC:=Za hB
 have HI:=Za hI
 have HC:=Za hc
 have HL:=Za hl
 have e1:(x0==1)=false:=by simp[n1]
 have e2:(x0==2)=false:=by simp[n2]
 have e3:(x0==3)=false:=by simp[n3']
 have e4:(x0==4)=false:=by simp[n4]
 clear X hM hcm hR hcr hc3 hB hI hc hl n1 n2 n3' n4
 go_enter Tryz.func63,Tryz.ntmps63
 go_wp2_with (first
  |((with_reducible refine Zr (N:=5) rfl ?_);refine Zy ?hg (N:=5) ?hd (cs:= #[.int .i64 x0,.int .i64 x1,.int .i64 x2,.int .i64 x3,.int .i64 x4,.int .i64 x5]) (t:=93) ?hr ?_;(case hd=>rfl);(case hg=>rfl);(case hr=>exact z8_5);intro gs hgs w1 hs hb1;have HB1:=Za hb1;have BS:=Za hs;have NF:Aside0 (¬F gs):=⟨fun h=>by have:=((trQ_loc w5 F0 B g task tail (.slice A3 s.vs.length c3) s).lt HI.out gs h).2;omega⟩;have hI1:=(trQ_loc w5 F0 B g task tail (.slice A3 s.vs.length c3) s).below BWC.out HI.out hb1;have hW1:=Nat.le_trans BWC.out hb1.size;clear HI BWC;have HI:=Za hI1;have BWC:=Za hW1;have HA:=Za (Sep.After.refl F w1);clear hI1 hW1 hgs hs hb1;obtain⟨hx1,hm1,hr1,ha1,hv1⟩:=trQ_cells HI.out HX.out;obtain⟨⟨_,_,_,_,_,_⟩,-⟩:=Sep.blk6 BS.out)
  |fail)
 have BS1:=BS
 go_region_held3 (fun w'=>w'.cell? ⟨gx,0,none⟩=some (.pointer (some ⟨g,0,none⟩))∧w'.cell? ⟨gs,0,none⟩=some (.int .i64 x0)∧w'.cell? ⟨gs,1,none⟩=some (.int .i64 x1)∧w'.cell? ⟨gs,2,none⟩=some (.int .i64 x2)∧w'.cell? ⟨gs,3,none⟩=some (.int .i64 x3)∧w'.cell? ⟨gs,4,none⟩=some (.int .i64 x4)∧w'.cell? ⟨gs,5,none⟩=some (.int .i64 x5)) (go_keep) ((first|(go_at_call 65;(with_reducible refine(impl_StmtCost.calls kf _ _ _ _ _ _ c _ HC.out).mono ?_);rintro e wp ⟨rfl,hd⟩;have hbp:=Zk (z8_0:Below w1.heap.size w1 _) hd;clear hd;have hI_:=Za ((trQ_loc w5 F0 B g task tail _ _).below BWC.out HI.out hbp);have hA_:=Za (HA.out.trans (Sep.After.of_below hbp _));have hW_:=Za (Nat.le_trans BWC.out hbp.size);have hS_:=Za (Zi BS.out hbp);clear HI HA BWC BS;have HI:=hI_;have HA:=hA_;have BWC:=hW_;have BS:=hS_;clear hI_ hA_ hW_ hS_ hbp;obtain⟨_,_,_,_,_⟩:=trQ_cells HI.out HX.out;obtain⟨⟨_,_,_,_,_,_⟩,-⟩:=Sep.blk6 BS.out)|(go_at_call 64;(with_reducible refine(tq_work w5 F0 B g task tail _ s _ ?hl_ F _ ?q1_ ((trQ_loc w5 F0 B g task tail _ s).below BWC.out HI.out z8_0)).mono ?_);(case hl_=>(have:=HL.out;omega));(case q1_=>exact BWC.out);rintro e wc ⟨rfl,F2,hI2,hA2⟩;have hA3_:=(Sep.After.of_below (z8_0:Below wp.heap.size wp _) _).trans hA2;have hI_:=Za hI2;have hA_:=Za (HA.out.trans hA3_);have hW_:=Za (Nat.le_trans BWC.out hA3_.size);have hS_:=Za (hA3_.blk BS.out (HA.out.out BS1.out NF.out));clear HI HA BWC BS;have HI:=hI_;have HA:=hA_;have BWC:=hW_;have BS:=hS_;clear hI_ hA_ hW_ hS_ hI2 hA2 hA3_;obtain⟨_,_,_,_,_⟩:=trQ_cells HI.out HX.out;obtain⟨⟨_,_,_,_,_,_⟩,-⟩:=Sep.blk6 BS.out)))
 go_wp2
 all_goals first|(exact absurd ‹(x0==1)=true› (by rw[e1];decide))|(exact absurd ‹(x0==2)=true› (by rw[e2];decide))|(exact absurd ‹(x0==3)=true› (by rw[e3];decide))|(exact absurd ‹(x0==4)=true› (by rw[e4];decide))|skip
 go_ret
 exact⟨rfl,_,HI.out,(Sep.After.of_below HB1.out F).trans HA.out⟩
set_option maxHeartbeats 8000000 in
set_option maxRecDepth 100000 in
theorem tq_step2 (kf:Nat) (w5:World) (F0:Nat→Prop) (B g gx gm gr ga:Nat) (task tail:Int) (A3:Option Addr) (n3 c3:Nat) (must rs:List Int) (Am Ar:Option Addr) (cm cr:Nat) (at_:Int) (X:TrX w5 F0 g gx gm gr ga (.slice Am must.length cm) (.slice Ar rs.length cr) at_)
  (hM:∀s F w,trQ w5 F0 B g task tail (.slice A3 n3 c3) s F w→Kd.C (Kd.int .i64) w Am must.length must) (hcm:must.length≤cm) (hR:∀s F w,trQ w5 F0 B g task tail (.slice A3 n3 c3) s F w→Kd.C (Kd.int .i64) w Ar rs.length rs) (hcr:rs.length≤cr)
  (s s':Tr) (x0 x1 x2 x3 x4 x5 c y:Int) (bo:Bool) (F:Nat→Prop) (w:World) (hB:B≤w.heap.size) (hI:trQ w5 F0 B g task tail (.slice A3 n3 c3) s F w) (hc:impl_StmtCost.f kf x0 x1 x2 x3 x4 x5=some c) (hl:s.st.length<4999999998000) (hu:s.us.length<17592186044415) (hx:x0=2) (hy:impl_ReadSensor.f rs x2 (wrap64 (at_+(s.us.length:Int)))=some y) (ha:({(s.write c (-1) 0) with us:=s.us++[y]}:Tr).assign kf task tail must x1 y=some s'):
  Calls Tryz.prog 63 #[.agg #[.int .i64 x0,.int .i64 x1,.int .i64 x2,.int .i64 x3,.int .i64 x4,.int .i64 x5],.pointer (some ⟨gx,0,none⟩),.pointer (some ⟨gm,0,none⟩),.pointer (some ⟨gr,0,none⟩),.pointer (some ⟨ga,0,none⟩)] w fun e w'=>e= .returned (.bool true)∧∃F',trQ w5 F0 B g task tail (.slice A3 n3 c3) s' F' w'∧Sep.After F w F' w':=by
 obtain⟨e3,hc3,-⟩:=trQ_vs hI
 subst e3
 have HX:=Za X
 have HM:=Za hM
 have HR:=Za hR
 have HCM:=Za hcm
 have HCR:=Za hcr
 have HC3:=Za hc3
 have BWC:=Za hB
 have HI:=Za hI
 have HC:=Za hc
 have HL:=Za hl
 have HY:Aside0 (impl_ReadSensor.f rs x2 (IntKind.i64.wrap (at_+(s.us.length:Int)))=some y):=⟨by rw[i64_w];exact hy⟩
 have HS:=Za ha
 have HUL:=Za hu
 subst hx
 clear X hM hcm hR hcr hc3 hB hI hc hl hy ha hu
 go_enter Tryz.func63,Tryz.ntmps63
 go_wp2_with (first
  |((with_reducible refine Zr (N:=5) rfl ?_);refine Zy ?hg (N:=5) ?hd (cs:= #[.int .i64 2,.int .i64 x1,.int .i64 x2,.int .i64 x3,.int .i64 x4,.int .i64 x5]) (t:=93) ?hr ?_;(case hd=>rfl);(case hg=>rfl);(case hr=>exact z8_5);intro gs hgs w1 hs hb1;have HB1:=Za hb1;have BS:=Za hs;have NF:Aside0 (¬F gs):=⟨fun h=>by have:=((trQ_loc w5 F0 B g task tail (.slice A3 s.vs.length c3) s).lt HI.out gs h).2;omega⟩;have hI1:=(trQ_loc w5 F0 B g task tail (.slice A3 s.vs.length c3) s).below BWC.out HI.out hb1;have hW1:=Nat.le_trans BWC.out hb1.size;clear HI BWC;have HI:=Za hI1;have BWC:=Za hW1;have HA:=Za (Sep.After.refl F w1);clear hI1 hW1 hgs hs hb1;obtain⟨hx1,hm1,hr1,ha1,hv1⟩:=trQ_cells HI.out HX.out;obtain⟨⟨_,_,_,_,_,_⟩,-⟩:=Sep.blk6 BS.out)
  |fail)
 have BS1:=BS
 go_region_held3 (fun w'=>w'.cell? ⟨gx,0,none⟩=some (.pointer (some ⟨g,0,none⟩))∧w'.cell? ⟨gs,0,none⟩=some (.int .i64 2)∧w'.cell? ⟨gs,1,none⟩=some (.int .i64 x1)∧w'.cell? ⟨gs,2,none⟩=some (.int .i64 x2)∧w'.cell? ⟨gs,3,none⟩=some (.int .i64 x3)∧w'.cell? ⟨gs,4,none⟩=some (.int .i64 x4)∧w'.cell? ⟨gs,5,none⟩=some (.int .i64 x5)) (go_keep) ((first|(go_at_call 65;(with_reducible refine(impl_StmtCost.calls kf _ _ _ _ _ _ c _ HC.out).mono ?_);rintro e wp ⟨rfl,hd⟩;have hbp:=Zk (z8_0:Below w1.heap.size w1 _) hd;clear hd;have hI_:=Za ((trQ_loc w5 F0 B g task tail _ _).below BWC.out HI.out hbp);have hA_:=Za (HA.out.trans (Sep.After.of_below hbp _));have hW_:=Za (Nat.le_trans BWC.out hbp.size);have hS_:=Za (Zi BS.out hbp);clear HI HA BWC BS;have HI:=hI_;have HA:=hA_;have BWC:=hW_;have BS:=hS_;clear hI_ hA_ hW_ hS_ hbp;obtain⟨_,_,_,_,_⟩:=trQ_cells HI.out HX.out;obtain⟨⟨_,_,_,_,_,_⟩,-⟩:=Sep.blk6 BS.out)|(go_at_call 64;(with_reducible refine(tq_work w5 F0 B g task tail _ s _ ?hl_ F _ ?q1_ ((trQ_loc w5 F0 B g task tail _ s).below BWC.out HI.out z8_0)).mono ?_);(case hl_=>(have:=HL.out;omega));(case q1_=>exact BWC.out);rintro e wc ⟨rfl,F2,hI2,hA2⟩;have hA3_:=(Sep.After.of_below (z8_0:Below wp.heap.size wp _) _).trans hA2;have hI_:=Za hI2;have hA_:=Za (HA.out.trans hA3_);have hW_:=Za (Nat.le_trans BWC.out hA3_.size);have hS_:=Za (hA3_.blk BS.out (HA.out.out BS1.out NF.out));clear HI HA BWC BS;have HI:=hI_;have HA:=hA_;have BWC:=hW_;have BS:=hS_;clear hI_ hA_ hW_ hS_ hI2 hA2 hA3_;obtain⟨_,_,_,_,_⟩:=trQ_cells HI.out HX.out;obtain⟨⟨_,_,_,_,_,_⟩,-⟩:=Sep.blk6 BS.out)))
 go_wp2
 obtain⟨Fx,⟨v0,v1,v2,hb,⟨q0,q1,q2,q3⟩,hD,hF⟩,h2,h3,h4,hFF⟩:=HI.out;obtain⟨A1,c1,e1⟩:=Yn q1;subst e1;have HBg:=Za hb;have Q0:=Za q0;have Q1:=Za q1;have Q2:=Za q2;have Q3:=Za q3;have HD:=Za hD;have HF:=Za hF;have H2:=Za h2;have H3:=Za h3;have H4:=Za h4;have HFF:=Za hFF;clear hb q0 q1 q2 q3 hD hF h2 h3 h4 hFF
 have hu1:wc.cell? ⟨g,1,none⟩=some (.slice A1 s.us.length c1):=(Zb HBg.out 1).trans rfl
 go_region_held3 (fun w'=>w'.cell? ⟨gx,0,none⟩=some (.pointer (some ⟨g,0,none⟩))∧w'.cell? ⟨gr,0,none⟩=some (.slice Ar rs.length cr)∧w'.cell? ⟨ga,0,none⟩=some (.int .i64 at_)∧w'.cell? ⟨g,1,none⟩=some (.slice A1 s.us.length c1)∧w'.cell? ⟨gs,0,none⟩=some (.int .i64 2)∧w'.cell? ⟨gs,1,none⟩=some (.int .i64 x1)∧w'.cell? ⟨gs,2,none⟩=some (.int .i64 x2)∧w'.cell? ⟨gs,3,none⟩=some (.int .i64 x3)∧w'.cell? ⟨gs,4,none⟩=some (.int .i64 x4)∧w'.cell? ⟨gs,5,none⟩=some (.int .i64 x5)) (go_keep) ((first|(go_at_call 68;(with_reducible refine(impl_ReadSensor.calls _ _ rs _ _ y _ (Yh (HR.out _ _ _ HI.out) z8_0) HCR.out HY.out).mono ?_);rintro e wr ⟨rfl,hd⟩;have hbp:=Zk (z8_0:Below wc.heap.size wc _) hd.below;clear hd;have hg_:=Za (Zi HBg.out hbp);have q0_:=Za (Q0.out.keep (w1:=wr) (fun k hk=>hbp.block k (Kd.R_lt Q0.out k hk)));have q1_:=Za (Q1.out.keep (w1:=wr) (fun k hk=>hbp.block k (Kd.R_lt Q1.out k hk)));have q2_:=Za (Q2.out.keep (w1:=wr) (fun k hk=>hbp.block k (Kd.R_lt Q2.out k hk)));have q3_:=Za (Q3.out.keep (w1:=wr) (fun k hk=>hbp.block k (Kd.R_lt Q3.out k hk)));have h3_:Aside0 (∀k,k<w5.heap.size→¬F0 k→wr.heap[k]? =w5.heap[k]?):=⟨fun k hk hn=>(hbp.block k (Nat.lt_of_lt_of_le hk H4.out)).trans (H3.out k hk hn)⟩;have h4_:=Za (Nat.le_trans H4.out hbp.size);clear HBg Q0 Q1 Q2 Q3 H3 H4;have HBg:=hg_;have Q0:=q0_;have Q1:=q1_;have Q2:=q2_;have Q3:=q3_;have H3:=h3_;have H4:=h4_;clear hg_ q0_ q1_ q2_ q3_ h3_ h4_;have hI_:=Za ((trQ_loc w5 F0 B g task tail _ _).below BWC.out HI.out hbp);have hA_:=Za (HA.out.trans (Sep.After.of_below hbp _));have hW_:=Za (Nat.le_trans BWC.out hbp.size);have hS_:=Za (Zi BS.out hbp);clear HI HA BWC BS;have HI:=hI_;have HA:=hA_;have BWC:=hW_;have BS:=hS_;clear hI_ hA_ hW_ hS_ hbp;obtain⟨_,_,_,_,_⟩:=trQ_cells HI.out HX.out;obtain⟨⟨_,_,_,_,_,_⟩,-⟩:=Sep.blk6 BS.out;have hu_:wr.cell? ⟨g,1,none⟩=some (.slice A1 s.us.length c1):=(Zb HBg.out 1).trans rfl)))
 go_wp2
 have BX:=Za (trQ_blk HI.out HX.out.x HX.out.nx)
 refine start_ (n:=13) (S:=fun w'=>w'.cell? ⟨gx,0,none⟩=some (.pointer (some ⟨g,0,none⟩))∧w'.cell? ⟨g,1,none⟩=some (.slice A1 s.us.length c1)) (ds:=[12]) #[false,false,false,false,false,false,false,false,false,false,false,false,false] z8_18 rfl rfl ⟨(Zb (BX.out) 0).trans rfl,(Zb (HBg.out) 1).trans rfl⟩ (fun hHeld=> ?_)
 refine take_ (i:=0) (N:=some 42) (v:= ?_) (a':= ?_) #[true,false,false,false,false,false,false,false,false,false,false,false,false] rfl rfl z8_18 (fun _ _ _ h=>h) (Or.inl ⟨by rfl,?_⟩) hHeld ?_ ?_
 rotate_left
 ·intro w' s0
  obtain⟨_,_⟩:=s0
  go_simp
  with_reducible rfl
 rotate_left
 ·simp only[Act.put,Zs,Zt,Zu,i64_w,i32_w]
  rfl
 refine take_ (i:=1) (N:=some 43) (v:= ?_) (a':= ?_) #[true,true,false,false,false,false,false,false,false,false,false,false,false] rfl rfl z8_18 (fun _ _ _ h=>h) (Or.inl ⟨by rfl,?_⟩) hHeld ?_ ?_
 rotate_left
 ·intro w' s0
  obtain⟨_,_⟩:=s0
  go_simp
  with_reducible rfl
 rotate_left
 ·simp only[Act.put,Zs,Zt,Zu,i64_w,i32_w]
  rfl
 refine pure_ (i:=2) (N:=some 44) (v:= ?_) (a':= ?_) #[true,true,true,false,false,false,false,false,false,false,false,false,false] rfl rfl z8_18 (fun _ _ _ h=>h) (Or.inl ⟨by rfl,?_⟩) ?_ ?_
 rotate_left
 ·intro w'
  go_simp
  with_reducible rfl
 rotate_left
 ·simp only[Act.put,Zs,Zt,Zu,i64_w,i32_w]
  rfl
 refine pure_ (i:=3) (N:=some 45) (v:= ?_) (a':= ?_) #[true,true,true,true,false,false,false,false,false,false,false,false,false] rfl rfl z8_18 (fun _ _ _ h=>h) (Or.inl ⟨by rfl,?_⟩) ?_ ?_
 rotate_left
 ·intro w'
  go_simp
  with_reducible rfl
 rotate_left
 ·simp only[Act.put,Zs,Zt,Zu,i64_w,i32_w]
  rfl
 refine pure_ (i:=4) (N:=some 46) (v:= ?_) (a':= ?_) #[true,true,true,true,true,false,false,false,false,false,false,false,false] rfl rfl z8_18 (fun _ _ _ h=>h) (Or.inl ⟨by rfl,?_⟩) ?_ ?_
 rotate_left
 ·intro w'
  go_simp
  with_reducible rfl
 rotate_left
 ·simp only[Act.put,Zs,Zt,Zu,i64_w,i32_w]
  rfl
 refine take_ (i:=5) (N:=some 47) (v:= ?_) (a':= ?_) #[true,true,true,true,true,true,false,false,false,false,false,false,false] rfl rfl z8_18 (fun _ _ _ h=>h) (Or.inl ⟨by rfl,?_⟩) hHeld ?_ ?_
 rotate_left
 ·intro w' s0
  obtain⟨_,_⟩:=s0
  go_simp
  with_reducible rfl
 rotate_left
 ·simp only[Act.put,Zs,Zt,Zu,i64_w,i32_w]
  rfl
 refine pure_ (i:=6) (N:=some 48) (v:= ?_) (a':= ?_) #[true,true,true,true,true,true,true,false,false,false,false,false,false] rfl rfl z8_18 (fun _ _ _ h=>h) (Or.inl ⟨by rfl,?_⟩) ?_ ?_
 rotate_left
 ·intro w'
  go_simp
  with_reducible rfl
 rotate_left
 ·simp only[Act.put,Zs,Zt,Zu,i64_w,i32_w]
  rfl
 refine one_ (i:=7) (N:=some 49) #[true,true,true,true,true,true,true,true,false,false,false,false,false] rfl rfl z8_18 z8_17 (fun K hK=> ?_)
 refine value_ (w1:= ?_) (v:= ?_) (by rfl) rfl ?_ ?_
 rotate_left 2
 ·go_simp
  constructor
  ·rfl
  ·rfl
 refine hK _ _ ⟨(Zb (blk_alloc (w:=wr) BX.out _) 0).trans rfl,(Zb (blk_alloc (w:=wr) HBg.out _) 1).trans rfl⟩ (fun hHeld=> ?_)
 clear hK K
 refine norm_ (a':= ?_) ?_ ?_
 rotate_left
 ·show Act.put _ (some 49) _=_
  simp only[Act.put,Zs,Zt,Zu,i64_w,i32_w]
  rfl
 refine one_ (i:=8) (N:=some 50) #[true,true,true,true,true,true,true,true,true,false,false,false,false] rfl rfl z8_18 z8_17 (fun K hK=> ?_)
 refine Kd.R_append_step (w0:=wr) (W:=wr.drew) (Kd.int .i64) B (by rfl) (.tmp 47) (.tmp 49) 27 3 (.int .i64 0) 8 rfl Tryz.underlying27 info3 rfl z8_17 z8_17 (.slice A1 s.us.length c1) s.us y [.int .i64 y] (fun _=>True) (fun _=>False) rfl rfl rfl (fun _ hk=>hk.elim) (fun _ _=>trivial) (Q1.out.int (fun _ _=>trivial)) (by repeat(first|exact Yb _ _|apply Zf|apply Ze|apply Zh)) BWC.out (by have:=HUL.out;omega) ?_
 intro v9 w9 ho9 hb9 hg9 hat9
 obtain⟨A9,c9,e9⟩:=Yn ho9
 rw[List.length_append,List.length_singleton] at e9
 subst e9
 have HO9:=Za ho9
 have HG9:Aside0 (wr.grownBy w9 (Value.slice A1 s.us.length c1).ownBlock):=⟨⟨hg9.os,hg9.tape,hg9.output,hg9.size,hg9.block⟩⟩
 have AT9:=Za hat9
 have HBg9:=Za (blk_grown (w:=wr) HBg.out HG9.out (fun h=>Q1.out.ne HBg.out z8_17 g h.symm rfl))
 have BX9:=Za (blk_grown (w:=wr) BX.out HG9.out (fun h=>Q1.out.ne BX.out z8_17 gx h.symm rfl))
 clear ho9 hb9 hg9 hat9
 refine hK _ _ ⟨(Zb (BX9.out) 0).trans rfl,(Zb (HBg9.out) 1).trans rfl⟩ (fun hHeld=> ?_)
 clear hK K
 refine norm_ (a':= ?_) ?_ ?_
 rotate_left
 ·show Act.put _ (some 50) _=_
  simp only[Act.put,Zs,Zt,Zu,i64_w,i32_w]
  rfl
 refine pure_ (i:=9) (N:=some 51) (v:= ?_) (a':= ?_) #[true,true,true,true,true,true,true,true,true,true,false,false,false] rfl rfl z8_18 (fun _ _ _ h=>h) (Or.inl ⟨by rfl,?_⟩) ?_ ?_
 rotate_left
 ·intro w'
  go_simp
  with_reducible rfl
 rotate_left
 ·simp only[Act.put,Zs,Zt,Zu,i64_w,i32_w]
  rfl
 refine pure_ (i:=10) (N:=some 52) (v:= ?_) (a':= ?_) #[true,true,true,true,true,true,true,true,true,true,true,false,false] rfl rfl z8_18 (fun _ _ _ h=>h) (Or.inl ⟨by rfl,?_⟩) ?_ ?_
 rotate_left
 ·intro w'
  go_simp
  with_reducible rfl
 rotate_left
 ·simp only[Act.put,Zs,Zt,Zu,i64_w,i32_w]
  rfl
 refine pure_ (i:=11) (N:=some 53) (v:= ?_) (a':= ?_) #[true,true,true,true,true,true,true,true,true,true,true,true,false] rfl rfl z8_18 (fun _ _ _ h=>h) (Or.inl ⟨by rfl,?_⟩) ?_ ?_
 rotate_left
 ·intro w'
  go_simp
  with_reducible rfl
 rotate_left
 ·simp only[Act.put,Zs,Zt,Zu,i64_w,i32_w]
  rfl
 refine last_ (i:=12) (N:=none) #[true,true,true,true,true,true,true,true,true,true,true,true,true] rfl rfl z8_18 z8_17 (fun K hK=> ?_)
 have hU9:w9.cell? ⟨g,1,none⟩=some (.slice A1 s.us.length c1):=(Zb HBg9.out 1).trans rfl
 have hfU:=Zc HBg9.out 1
 refine skip_ (w1:= ?_) (by rfl) rfl ?_ ?_
 rotate_left
 ·go_simp
  rfl
 refine hK _ _ ?_
 clear hK K
 refine done_ z8_18 ?_
 obtain⟨F7,i7,a7⟩:=trP_us HBg.out Q0.out Q1.out Q2.out Q3.out HD.out HF.out HO9.out HG9.out AT9.out
 obtain⟨F8,i8,a8⟩:=trQ_next H2.out H3.out H4.out HFF.out i7 a7
 clear hHeld i7 a7 hU9 hfU
 generalize w9.setCell ⟨g,1,none⟩ (.slice A9 (s.us.length+1) c9)=w8 at*
 have HI8:=Za i8
 have HA8:=Za (HA.out.trans a8)
 have BW8:=Za (Nat.le_trans BWC.out a8.size)
 have BS8:=Za (a8.blk BS.out (HA.out.out BS1.out NF.out))
 clear i8 a8 HI HA BWC BS
 have HI:=HI8
 have HA:=HA8
 have BWC:=BW8
 have BS:=BS8
 clear HI8 HA8 BW8 BS8
 obtain⟨_,_,_,_,_⟩:=trQ_cells HI.out HX.out
 obtain⟨⟨_,_,_,_,_,_⟩,-⟩:=Sep.blk6 BS.out
 go_wp2_with (first
  |(go_at_call 66;(with_reducible refine(tq_assign kf w5 F0 B g task tail _ must _ _ ({(s.write c (-1) 0) with us:=s.us++[y]}:Tr) s' _ _ HS.out F8 _ BWC.out HI.out (HM.out _ _ _ HI.out) HCM.out).mono ?_);rintro e wd ⟨rfl,F9,hI2,hA2⟩;have hA_:=Za (HA.out.trans hA2);have HI9:=Za hI2;clear HA;have HA:=hA_;clear hA_ hI2 hA2)
  |fail)
 go_ret
 exact⟨rfl,_,HI9.out,(Sep.After.of_below HB1.out F).trans HA.out⟩
def trStep (kf:Nat) (task tail:Int) (must rs:List Int) (at_:Int) (s:Tr) (x:S93):Option (Tr×Bool):=
 (impl_StmtCost.f kf x.f0 x.f1 x.f2 x.f3.f0 x.f3.f1 x.f3.f2).bind fun c=>if s.st.length<4999999998000∧s.us.length<17592186044415 then
  (if x.f0=1 then (impl_EvalExpr.f kf s.vs x.f3.f0 x.f3.f1 x.f3.f2).bind fun y=>((s.write c (-1) 0).assign kf task tail must x.f1 y).bind fun s'=>some (s',true)
  else if x.f0=2 then (impl_ReadSensor.f rs x.f2 (wrap64 (at_+(s.us.length:Int)))).bind fun y=>(({s.write c (-1) 0 with us:=s.us++[y]}:Tr).assign kf task tail must x.f1 y).bind fun s'=>some (s',true)
  else if x.f0=3 then (impl_EvalExpr.f kf s.vs x.f3.f0 x.f3.f1 x.f3.f2).bind fun y=>some ((s.write c (-1) 0).sendB tail y,true)
  else if x.f0=4 then (impl_EvalExpr.f kf s.vs x.f3.f0 x.f3.f1 x.f3.f2).bind fun y=>some (s.write c (-1) 0,y != 0)
  else some (s.write c (-1) 0,true)) else none
def Tr.zero (vs:List Int):Tr:=⟨[],[],0,[],fun _=>false,vs⟩
def impl_traceOf.f (k:Nat) (l0:List S74) (l1 l2:List Int) (a3:Int):Option (List S64×List Int):=
 if 8<(l1.length:Int) then (impl_UnpackControl.f (rd l1 8)).bind fun u=>(impl_MemVars.f l1).bind fun vs=>if 0≤u.1∧u.1<(l0.length:Int) then
  (impl_MustLog.f k (rd_T74 l0 u.1).f0 (rd_T74 l0 u.1).f1.f0 (rd_T74 l0 u.1).f1.f1 (rd_T74 l0 u.1).f1.f2).bind fun must=>
  (impl_walk.f (trStep k u.1 u.2.2 must l2 a3) k (rd_T74 l0 u.1).f0 (Tr.zero vs)).bind fun s=>
  (impl_NextTask.f k l0 s.vs u.1).bind fun n=>(impl_PackControl.f n 0 (min 24 (wrap64 (u.2.2+s.sn)))).bind fun c=>if s.st.length<4999999999000 then some (((s.write 1 (-1) 0).write 3 8 c).st,s.us) else none
  else none else none
theorem tq_write (w5:World) (F0:Nat→Prop) (B g:Nat) (task tail:Int) (v3:Value) (s:Tr) (at_ v:Int) (hl:s.st.length<5000000000000) (F:Nat→Prop) (w:World) (hB:B≤w.heap.size) (hI:trQ w5 F0 B g task tail v3 s F w):
  Calls Tryz.prog 70 #[.pointer (some ⟨g,0,none⟩),.int .i64 at_,.int .i64 v] w fun e w'=>e= .returned (.tuple #[])∧∃F',trQ w5 F0 B g task tail v3 (s.write 3 at_ v) F' w'∧Sep.After F w F' w':=
 tq_calls hI (fun Fx h=>(tr_write B g task tail v3 s at_ v hl Fx w hB h).mono (fun e w' ⟨h1,F',h2,h3,_⟩=>⟨h1,F',h2,h3⟩))
theorem tq_step (kf:Nat) (w5:World) (F0:Nat→Prop) (B g gx gm gr ga:Nat) (task tail:Int) (A3:Option Addr) (n3 c3:Nat) (must rs:List Int) (Am Ar:Option Addr) (cm cr:Nat) (at_:Int) (X:TrX w5 F0 g gx gm gr ga (.slice Am must.length cm) (.slice Ar rs.length cr) at_)
  (hM:∀s F w,trQ w5 F0 B g task tail (.slice A3 n3 c3) s F w→Kd.C (Kd.int .i64) w Am must.length must) (hcm:must.length≤cm) (hR:∀s F w,trQ w5 F0 B g task tail (.slice A3 n3 c3) s F w→Kd.C (Kd.int .i64) w Ar rs.length rs) (hcr:rs.length≤cr)
  (s:Tr) (x:S93) (s':Tr) (b:Bool) (F:Nat→Prop) (w:World) (hB:B≤w.heap.size) (h:trStep kf task tail must rs at_ s x=some (s',b)) (hI:trQ w5 F0 B g task tail (.slice A3 n3 c3) s F w):
  Calls Tryz.prog 63 (#[.agg #[.int .i64 x.f0,.int .i64 x.f1,.int .i64 x.f2,.int .i64 x.f3.f0,.int .i64 x.f3.f1,.int .i64 x.f3.f2]]++ #[.pointer (some ⟨gx,0,none⟩),.pointer (some ⟨gm,0,none⟩),.pointer (some ⟨gr,0,none⟩),.pointer (some ⟨ga,0,none⟩)]) w fun e w'=>e= .returned (.bool b)∧∃F',trQ w5 F0 B g task tail (.slice A3 n3 c3) s' F' w'∧Sep.After F w F' w':=by
 unfold trStep at h
 obtain⟨c,hc,h⟩:=Zg h
 by_cases cl:s.st.length<4999999998000∧s.us.length<17592186044415
 ·rw[if_pos cl] at h
  by_cases k1:x.f0=1
  ·rw[if_pos k1] at h
   obtain⟨y,hy,h⟩:=Zg h
   obtain⟨s2,ha,h⟩:=Zg h
   cases h
   exact tq_step1 kf w5 F0 B g gx gm gr ga task tail A3 n3 c3 must rs Am Ar cm cr at_ X hM hcm hR hcr s s' _ _ _ _ _ _ c y true F w hB hI hc cl.1 k1 hy ha
  rw[if_neg k1] at h
  by_cases k2:x.f0=2
  ·rw[if_pos k2] at h
   obtain⟨y,hy,h⟩:=Zg h
   obtain⟨s2,ha,h⟩:=Zg h
   cases h
   exact tq_step2 kf w5 F0 B g gx gm gr ga task tail A3 n3 c3 must rs Am Ar cm cr at_ X hM hcm hR hcr s s' _ _ _ _ _ _ c y true F w hB hI hc cl.1 cl.2 k2 hy ha
  rw[if_neg k2] at h
  by_cases k3:x.f0=3
  ·rw[if_pos k3] at h
   obtain⟨y,hy,h⟩:=Zg h
   cases h
   exact tq_step3 kf w5 F0 B g gx gm gr ga task tail A3 n3 c3 must rs Am Ar cm cr at_ X hM hcm hR hcr s s _ _ _ _ _ _ c y true F w hB hI hc cl.1 k3 hy
  rw[if_neg k3] at h
  by_cases k4:x.f0=4
  ·rw[if_pos k4] at h
   obtain⟨y,hy,h⟩:=Zg h
   cases h
   exact tq_step4 kf w5 F0 B g gx gm gr ga task tail A3 n3 c3 must rs Am Ar cm cr at_ X hM hcm hR hcr s s _ _ _ _ _ _ c y true F w hB hI hc cl.1 k4 hy
  rw[if_neg k4] at h
  cases h
  exact tq_step5 kf w5 F0 B g gx gm gr ga task tail A3 n3 c3 must rs Am Ar cm cr at_ X hM hcm hR hcr s s _ _ _ _ _ _ c 0 true F w hB hI hc cl.1 k1 k2 k3 k4
 ·rw[if_neg cl] at h
  cases h
theorem heapTaskT:Kd.Heap k74:=Kd.heap_iso _ (Kd.heap_pair (Kd.heap_slice _ heapStmt) (Kd.heap_iso _ (Kd.heap_pair (Kd.heap_int .i64) (Kd.heap_pair (Kd.heap_int .i64) (Kd.heap_int .i64)))))
set_option maxHeartbeats 8000000 in
set_option maxRecDepth 100000 in
theorem impl_traceOf.calls (k:Nat) (A0_0:Option Addr) (c0_0:Nat) (l0_0:List S74) (A1:Option Addr) (c1:Nat) (l1:List Int) (A2:Option Addr) (c2:Nat) (l2:List Int) (a3:Int) (r1:List S64) (r2:List Int) (w:World)
  (hr0_0:Kd.C k74 w A0_0 l0_0.length l0_0) (hc0_0:l0_0.length≤c0_0) (hr1:Kd.C (Kd.int .i64) w A1 l1.length l1) (hc1:l1.length≤c1) (hr2:Kd.C (Kd.int .i64) w A2 l2.length l2) (hc2:l2.length≤c2) (h:impl_traceOf.f k l0_0 l1 l2 a3=some (r1,r2)):
  Calls Tryz.prog 37 #[.agg #[.slice A0_0 l0_0.length c0_0],.slice A1 l1.length c1,.slice A2 l2.length c2,.int .i64 a3] w fun e w'=>∃v0_ v1_:Value,e= .returned (.agg #[v0_,v1_])∧Kd.R k64 64 w' w.heap.size (fun _=>True) v0_ r1∧Kd.R (Kd.int .i64) 3 w' w.heap.size (fun _=>True) v1_ r2∧Below w.heap.size w w':=by
 unfold impl_traceOf.f at h
 by_cases cl:8<(l1.length:Int)
 case neg=>rw[if_neg cl] at h;cases h
 rw[if_pos cl] at h
 obtain⟨⟨task,cnt,tail⟩,hu,h⟩:=Zg h
 obtain⟨vs,hv,h⟩:=Zg h
 by_cases ct:0≤task∧task<(l0_0.length:Int)
 case neg=>rw[if_neg ct] at h;cases h
 rw[if_pos ct] at h
 obtain⟨must,hm,h⟩:=Zg h
 obtain⟨s,hs,h⟩:=Zg h
 obtain⟨nx,hn,h⟩:=Zg h
 obtain⟨pc,hp,h⟩:=Zg h
 by_cases cs:s.st.length<4999999999000
 case neg=>rw[if_neg cs] at h;cases h
 rw[if_pos cs] at h
 obtain⟨he1,he2⟩:=Prod.mk.inj (Zn h)
 have HE1:=Za he1
 have HE2:=Za he2
 clear h he1 he2
 simp only at hu hv hm hs hn hp ct
 obtain⟨ad1,e1,h8⟩:=Kd.at_int hr1 8 (by omega) cl
 have CT1:=ct
 obtain⟨ad,At,ct_,e,hx0,hx1,hx2,hx3,hl1,hi1⟩:=at_T74 hr0_0 task ct.1 ct.2
 cases e
 cases e1
 simp only[show(8:Int).toNat=8 from rfl,Nat.reduceMul,Nat.reduceEqDiff,Go.Addr.add,↓reduceIte] at h8
 clear ct
 obtain⟨ct,hct⟩:∃c,c=ct_:=⟨_,rfl⟩
 subst hct
 have HR0:=Za hr0_0
 have HC0:=Za hc0_0
 have HR1:=Za hr1
 have HC1:=Za hc1
 have HR2:=Za hr2
 have HC2:=Za hc2
 have HU:=Za hu
 have HV:=Za hv
 have HM:=Za hm
 have HS:=Za hs
 have HNX:=Za hn
 have HPC:=Za hp
 have HCS:=Za cs
 have H8:=Za h8
 have HX0:=Za hx0
 have HX1:=Za hx1
 have HX2:=Za hx2
 have HX3:=Za hx3
 have HL1:=Za hl1
 have HI1:=Za hi1
 have HW:=Za (Yb w.heap.size w)
 have c8:=eq_true cl
 have c8n:(8<l1.length)=True:=eq_true (by omega)
 have t0:=eq_true CT1.1
 have t1:=eq_true CT1.2
 clear hr0_0 hc0_0 hr1 hc1 hr2 hc2 hu hv hm hs hn hp cs h8 hx0 hx1 hx2 hx3 hl1 hi1 cl CT1
 go_enter Tryz.func37,Tryz.ntmps37
 go_wp2_with (first
  |((with_reducible refine Zr (N:=4) rfl ?_);refine Zy ?hg (N:=4) ?hd (cs:= #[.slice (some ad) l0_0.length c0_0]) (t:=26) ?hr ?_;(case hd=>rfl);(case hg=>rfl);(case hr=>exact z8_5);intro gp hgv w1 hcs hb;have GP:Aside0 (w.heap.size≤gp):=⟨by rw[hgv];exact HW.out.size⟩;clear hgv;replace HW:=Za (Zk HW.out hb);clear hb;have BP:=Za hcs;clear hcs)
  |((with_reducible refine Zr (N:=6) rfl ?_);refine Zy ?hg (N:=6) ?hd (cs:= #[.slice A2 l2.length c2]) (t:=27) ?hr ?_;(case hd=>rfl);(case hg=>rfl);(case hr=>exact z8_5);intro gr hgv w2 hcs hb;have GR:Aside0 (w.heap.size≤gr):=⟨by rw[hgv];exact HW.out.size⟩;clear hgv;replace BP:=Za (Zi BP.out hb);replace HW:=Za (Zk HW.out hb);clear hb;have BR:=Za hcs;clear hcs)
  |((with_reducible refine Zr (N:=7) rfl ?_);refine Zy ?hg (N:=7) ?hd (cs:= #[.int .i64 a3]) (t:=3) ?hr ?_;(case hd=>rfl);(case hg=>rfl);(case hr=>exact z8_5);intro ga hgv w3 hcs hb;have GA:Aside0 (w.heap.size≤ga):=⟨by rw[hgv];exact HW.out.size⟩;clear hgv;replace BP:=Za (Zi BP.out hb);replace BR:=Za (Zi BR.out hb);replace HW:=Za (Zk HW.out hb);clear hb;have BA:=Za hcs;clear hcs)
  |((with_reducible refine Zr (N:=8) rfl ?_);refine Zy ?hg (N:=8) ?hd (cs:= #[.slice none 0 0,.slice none 0 0]) (t:=33) ?hr ?_;(case hd=>rfl);(case hg=>rfl);(case hr=>exact z8_5);intro g8 hgv w4 hcs hb;have G8:Aside0 (w.heap.size≤g8):=⟨by rw[hgv];exact HW.out.size⟩;clear hgv;replace BP:=Za (Zi BP.out hb);replace BR:=Za (Zi BR.out hb);replace BA:=Za (Zi BA.out hb);replace HW:=Za (Zk HW.out hb);clear hb;have B8:=Za hcs;clear hcs;have hm8:=pw_cell_below HW.out H8.out)
  |(go_at_call 29;(with_reducible refine(impl_UnpackControl.calls _ task cnt tail _ HU.out).mono ?_);rintro e w5 ⟨rfl,hd⟩;have hb:=hd.below;clear hd;replace BP:=Za (Zi BP.out hb);replace BR:=Za (Zi BR.out hb);replace BA:=Za (Zi BA.out hb);replace B8:=Za (Zi B8.out hb);replace HW:=Za (Zk HW.out hb);clear hb)
  |(go_at_call 30;(with_reducible refine(impl_MemVars.calls _ _ l1 vs _ (Yh HR1.out HW.out) HC1.out HV.out).mono ?_);rintro e w6 ⟨v_,rfl,ho,hb⟩;obtain⟨A3,c3,e3⟩:=Yn ho;subst e3;obtain⟨n3,hn3⟩:∃n,n=vs.length:=⟨_,rfl⟩;rw[←hn3] at ho ⊢;have HN3:=Za hn3;clear hn3;have VR:Aside0 (trRow (Kd.int .i64) 3 w.heap.size w6 (.slice A3 n3 c3) vs):=⟨Kd.R_of_own (own_less (Kd.own_of_R ho) HW.out.size) (fun _ hk=>hk)⟩;have VN:Aside0 (∀k,(Value.slice A3 n3 c3).ownBlock=some k→k≠ga):=⟨fun k hk h=>by have:=Ye ho k hk;have:=blk_lt BA.out;omega⟩;clear ho;replace BP:=Za (Zi BP.out hb);replace BR:=Za (Zi BR.out hb);replace BA:=Za (Zi BA.out hb);replace B8:=Za (Zi B8.out hb);replace HW:=Za (Zk HW.out hb);clear hb)
  |((with_reducible refine Zr (N:=28) rfl ?_);refine Zy ?hg (N:=28) ?hd (cs:= #[.slice none 0 0,.slice none 0 0,.int .i64 task,.int .i64 tail,.int .i64 0,.slice none 0 0,.bool false,.bool false,.bool false,.bool false,.bool false,.bool false,.bool false,.bool false,.slice A3 n3 c3]) (t:=90) ?hr ?_;(case hd=>rfl);(case hg=>rfl);(case hr=>exact z8_5);intro g hgv w7 hcs hb;have GG:Aside0 (w.heap.size≤g):=⟨by rw[hgv];exact HW.out.size⟩;clear hgv;replace BP:=Za (Zi BP.out hb);replace BR:=Za (Zi BR.out hb);replace BA:=Za (Zi BA.out hb);replace B8:=Za (Zi B8.out hb);replace VR:=Za (VR.out.keep (w1:=w7) (fun k hk=>hb.block k (Kd.R_lt VR.out k hk)));replace HW:=Za (Zk HW.out hb);clear hb;have BG:=Za hcs;clear hcs)
  |((with_reducible refine Zr (N:=12) rfl ?_);refine Zy ?hg (N:=12) ?hd (cs:= #[.pointer none]) (t:=87) ?hr ?_;(case hd=>rfl);(case hg=>rfl);(case hr=>exact z8_5);intro gx hgv w8 hcs hb;have GX:Aside0 (w.heap.size≤gx):=⟨by rw[hgv];exact HW.out.size⟩;have LE_:Aside0 (w7.heap.size≤gx):=⟨Nat.le_of_eq hgv.symm⟩;have HBm:=Za hb;have BX:=Za hcs;clear hgv hb hcs;have hc_:=Zb BX.out 0;have hf_:=Zc BX.out 0)
  |((with_reducible refine Yq (t:=87) (p:=12) rfl ?_);refine Yp (t:=87) (p:=12) (v:= .tmp 28) (w1:=w8.setCell ⟨gx,0,none⟩ (.pointer (some ⟨g,0,none⟩))) ?hg ?ho ?hn ?hr ?_;(case ho=>rfl);(case hg=>rfl);(case hn=>rfl);(case hr=>exact z8_5);intro w9 hw;have hb:Below w7.heap.size w7 w9:=hw ▸ Zd HBm.out LE_.out;replace BX:=Za (hw ▸ blk_put BX.out 0 (.pointer (some ⟨g,0,none⟩)) rfl);clear hw HBm LE_;replace BP:=Za (Zi BP.out hb);replace BR:=Za (Zi BR.out hb);replace BA:=Za (Zi BA.out hb);replace B8:=Za (Zi B8.out hb);replace BG:=Za (Zi BG.out hb);replace VR:=Za (VR.out.keep (w1:=w9) (fun k hk=>hb.block k (Kd.R_lt VR.out k hk)));replace HW:=Za (Zk HW.out hb);clear hb;have hp9:w9.cell? ⟨gp,0,none⟩=some (.slice (some ad) l0_0.length c0_0):=(Zb BP.out 0).trans rfl;have hx0:=pw_cell_below HW.out HX0.out;have hx1:=pw_cell_below HW.out HX1.out;have hx2:=pw_cell_below HW.out HX2.out;have hx3:=pw_cell_below HW.out HX3.out)
  |((with_reducible refine Zr (N:=13) rfl ?_);refine Zy ?hg (N:=13) ?hd (cs:= #[.slice none 0 0,.int .i64 0,.int .i64 0,.int .i64 0]) (t:=74) ?hr ?_;(case hd=>rfl);(case hg=>rfl);(case hr=>exact z8_5);intro gt hgv w10 hcs hb;have GT:Aside0 (w.heap.size≤gt):=⟨by rw[hgv];exact HW.out.size⟩;have LE_:Aside0 (w9.heap.size≤gt):=⟨Nat.le_of_eq hgv.symm⟩;have HBm:=Za hb;have BT:=Za hcs;clear hgv hb hcs;obtain⟨⟨_,_,_,_⟩,⟨_,_,_,_⟩⟩:=Sep.blk4 BT.out)
  |((with_reducible refine Yq (t:=74) (p:=13) rfl ?_);refine Yp (t:=74) (p:=13) (v:= .tmp 33) (w1:=Sep.put4 w10 gt (.slice At (rd_T74 l0_0 task).f0.length ct) (.int .i64 (rd_T74 l0_0 task).f1.f0) (.int .i64 (rd_T74 l0_0 task).f1.f1) (.int .i64 (rd_T74 l0_0 task).f1.f2)) ?hg ?ho ?hn ?hr ?_;(case ho=>rfl);(case hg=>rfl);(case hn=>rfl);(case hr=>exact z8_5);intro w11 hw;have hb:Below w9.heap.size w9 w11:=hw ▸ Sep.put4_below HBm.out LE_.out (.slice At (rd_T74 l0_0 task).f0.length ct) (.int .i64 (rd_T74 l0_0 task).f1.f0) (.int .i64 (rd_T74 l0_0 task).f1.f1) (.int .i64 (rd_T74 l0_0 task).f1.f2);replace BT:=Za (hw ▸ Sep.put4_blk BT.out (.slice At (rd_T74 l0_0 task).f0.length ct) (.int .i64 (rd_T74 l0_0 task).f1.f0) (.int .i64 (rd_T74 l0_0 task).f1.f1) (.int .i64 (rd_T74 l0_0 task).f1.f2));clear hw HBm LE_;replace BP:=Za (Zi BP.out hb);replace BR:=Za (Zi BR.out hb);replace BA:=Za (Zi BA.out hb);replace B8:=Za (Zi B8.out hb);replace BG:=Za (Zi BG.out hb);replace BX:=Za (Zi BX.out hb);replace VR:=Za (VR.out.keep (w1:=w11) (fun k hk=>hb.block k (Kd.R_lt VR.out k hk)));replace HW:=Za (Zk HW.out hb);clear hb;obtain⟨⟨_,_,_,_⟩,⟨_,_,_,_⟩⟩:=Sep.blk4 BT.out)
  |(go_at_call 45;(with_reducible refine(impl_MustLog.calls k _ _ (rd_T74 l0_0 task).f0 _ _ _ must _ (heapStmt.C (fun k hk=>HW.out.block k hk) HI1.out) HL1.out HM.out).mono ?_);rintro e w12 ⟨v_,rfl,ho,hb⟩;obtain⟨Am,cm,em⟩:=Yn ho;subst em;have MU:Aside0 (trRow (Kd.int .i64) 3 w.heap.size w12 (.slice Am must.length cm) must):=⟨Kd.R_of_own (own_less (Kd.own_of_R ho) HW.out.size) (fun _ hk=>hk)⟩;have MN:Aside0 (∀k,(Value.slice Am must.length cm).ownBlock=some k→¬(k=g∨(Value.slice A3 n3 c3).ownBlock=some k)):=⟨fun k hk h=>h.elim (fun e=>by have:=Ye ho k hk;have:=blk_lt BG.out;omega) (fun e=>by have:=Ye ho k hk;have:=Kd.R_lt VR.out k e;omega)⟩;clear ho;replace BP:=Za (Zi BP.out hb);replace BR:=Za (Zi BR.out hb);replace BA:=Za (Zi BA.out hb);replace B8:=Za (Zi B8.out hb);replace BG:=Za (Zi BG.out hb);replace BX:=Za (Zi BX.out hb);replace BT:=Za (Zi BT.out hb);replace VR:=Za (VR.out.keep (w1:=w12) (fun k hk=>hb.block k (Kd.R_lt VR.out k hk)));replace HW:=Za (Zk HW.out hb);clear hb)
  |((with_reducible refine Zr (N:=14) rfl ?_);refine Zy ?hg (N:=14) ?hd (cs:= #[.slice none 0 0]) (t:=27) ?hr ?_;(case hd=>rfl);(case hg=>rfl);(case hr=>exact z8_5);intro gm hgv w13 hcs hb;have GM:Aside0 (w.heap.size≤gm):=⟨by rw[hgv];exact HW.out.size⟩;have LE_:Aside0 (w12.heap.size≤gm):=⟨Nat.le_of_eq hgv.symm⟩;have HBm:=Za hb;have BM:=Za hcs;clear hgv hb hcs;have hc_:=Zb BM.out 0;have hf_:=Zc BM.out 0)
  |((with_reducible refine Yq (t:=27) (p:=14) rfl ?_);refine Yp (t:=27) (p:=14) (v:= .tmp 35) (w1:=w13.setCell ⟨gm,0,none⟩ (.slice Am must.length cm)) ?hg ?ho ?hn ?hr ?_;(case ho=>rfl);(case hg=>rfl);(case hn=>rfl);(case hr=>exact z8_5);intro w14 hw;have hb:Below w12.heap.size w12 w14:=hw ▸ Zd HBm.out LE_.out;replace BM:=Za (hw ▸ blk_put BM.out 0 (.slice Am must.length cm) rfl);clear hw HBm LE_;replace BP:=Za (Zi BP.out hb);replace BR:=Za (Zi BR.out hb);replace BA:=Za (Zi BA.out hb);replace B8:=Za (Zi B8.out hb);replace BG:=Za (Zi BG.out hb);replace BX:=Za (Zi BX.out hb);replace BT:=Za (Zi BT.out hb);replace VR:=Za (VR.out.keep (w1:=w14) (fun k hk=>hb.block k (Kd.R_lt VR.out k hk)));replace MU:=Za (MU.out.keep (w1:=w14) (fun k hk=>hb.block k (Kd.R_lt MU.out k hk)));replace HW:=Za (Zk HW.out hb);clear hb;obtain⟨⟨_,_,_,_⟩,⟨_,_,_,_⟩⟩:=Sep.blk4 BT.out)
  |fail)
 obtain⟨F0,hF0⟩:∃F0:Nat→Prop,∀k,F0 k↔k=g∨(Value.slice none 0 0).ownBlock=some k∨(Value.slice none 0 0).ownBlock=some k∨(Value.slice none 0 0).ownBlock=some k∨(Value.slice A3 n3 c3).ownBlock=some k:=⟨_,fun _=>Iff.rfl⟩
 have F0':∀k,F0 k→k=g∨(Value.slice A3 n3 c3).ownBlock=some k:=fun k h=>by
  rcases (hF0 k).1 h with h|h|h|h|h
  ·exact .inl h
  ·simp[Value.ownBlock] at h
  ·simp[Value.ownBlock] at h
  ·simp[Value.ownBlock] at h
  ·exact .inr h
 have ng:∀(q:Nat) (cs:Array Value) (t:TypeId),w14.heap[q]? =some (.cells cs t (0,0))→90≠t→(3≠t∨q=ga)→¬F0 q:=fun q cs t hb h1 h2 h=>(F0' q h).elim (fun e=>blk_ne hb BG.out (fun e=>h1 e.symm) e) (fun e=>h2.elim (fun h2=>VR.out.ne hb h2 q e rfl) (fun h2=>VN.out q e h2))
 have HX:Aside0 (TrX w14 F0 g gx gm gr ga (.slice Am must.length cm) (.slice A2 l2.length c2) a3):=⟨⟨BX.out,BM.out,BR.out,BA.out,ng gx _ _ BX.out z8_17 (.inl z8_17),ng gm _ _ BM.out z8_17 (.inl z8_17),ng gr _ _ BR.out z8_17 (.inl z8_17),ng ga _ _ BA.out z8_17 (.inr rfl)⟩⟩
 have NGP:Aside0 (¬F0 gp):=⟨ng gp _ _ BP.out z8_17 (.inl z8_17)⟩
 have NG8:Aside0 (¬F0 g8):=⟨ng g8 _ _ B8.out z8_17 (.inl z8_17)⟩
 have FB:Aside0 (∀k,F0 k→w.heap.size≤k):=⟨fun k h=>(F0' k h).elim (fun e=>e ▸ GG.out) (fun e=>Ye VR.out k e)⟩
 have OQ:Aside0 (∀s F w',trQ w14 F0 w.heap.size g task tail (.slice A3 n3 c3) s F w'→∀k,k<w.heap.size→w'.heap[k]? =w.heap[k]?):=⟨fun s F w' h k hk=>by
  obtain⟨_,_,_,h3,_,_⟩:=h
  rw[h3 k (Nat.lt_of_lt_of_le hk HW.out.size) (fun h=>by have:=FB.out k h;omega)]
  exact HW.out.block k hk⟩
 have HMQ:Aside0 (∀s F w',trQ w14 F0 w.heap.size g task tail (.slice A3 n3 c3) s F w'→Kd.C (Kd.int .i64) w' Am must.length must):=⟨fun s F w' h=>(Ym (trQ_row h MU.out (fun k hk hf=>MN.out k hk (F0' k hf)))).2.2⟩
 have HRQ:Aside0 (∀s F w',trQ w14 F0 w.heap.size g task tail (.slice A3 n3 c3) s F w'→Kd.C (Kd.int .i64) w' A2 l2.length l2):=⟨fun s F w' h=>(Kd.heap_int .i64).C (fun k hk=>OQ.out s F w' h k hk) HR2.out⟩
 have HCM:=Za (Ym MU.out).2.1
 have hP:trP w.heap.size g task tail (.slice A3 n3 c3) (Tr.zero vs) F0 w14:=⟨.slice none 0 0,.slice none 0 0,.slice none 0 0,BG.out,⟨Kd.R_nil _ _ _ _ _,Kd.R_nil _ _ _ _ _,Kd.R_nil _ _ _ _ _,VR.out⟩,⟨fun k h=>by simp[Value.ownBlock] at h,fun k h=>by simp[Value.ownBlock] at h,GG.out⟩,hF0⟩
 obtain⟨FF,hFF⟩:∃FF:Nat→Prop,∀k,FF k↔F0 k∨(w.heap.size≤k∧k<w14.heap.size):=⟨_,fun _=>Iff.rfl⟩
 have HQ:Aside0 (trQ w14 F0 w.heap.size g task tail (.slice A3 n3 c3) (Tr.zero vs) FF w14):=⟨⟨F0,hP,fun k h=> .inl h,fun k _ _=>rfl,Nat.le_refl _,hFF⟩⟩
 have FFB:Aside0 (∀k,FF k→w.heap.size≤k):=⟨fun k h=>((hFF k).1 h).elim (FB.out k) (fun h=>h.1)⟩
 clear hF0 F0' ng hP hFF
 refine(impl_walk.calls (B:=w.heap.size) (trStep k task tail must l2 a3) (trQ w14 F0 w.heap.size g task tail (.slice A3 n3 c3)) 63 _ (fun args w=>enters_ Tryz.func63 z8_18 z8_18 args w) (fun s=>trQ_loc w14 F0 w.heap.size g task tail _ s)
  (fun s x s' b F' w' hB' hs' hi'=>tq_step k w14 F0 w.heap.size g gx gm gr ga task tail A3 n3 c3 must l2 Am A2 cm c2 a3 HX.out HMQ.out HCM.out HRQ.out HC2.out s x s' b F' w' hB' hs' hi') k At ct _ (Tr.zero vs) s FF w14 (fun w' hk=>heapStmt.C (fun k h=>(hk.2 k (Nat.lt_of_lt_of_le h HW.out.size) (fun hf=>by have:=FFB.out k hf;omega)).trans (HW.out.block k h)) HI1.out) HL1.out HW.out.size HQ.out HS.out).mono ?_
 rintro e w15 ⟨rfl,F15,hI15,hA15⟩
 obtain⟨e3,hc3,-⟩:=trQ_vs hI15
 subst e3
 have HC3:=Za hc3
 have HI:=Za hI15
 have HA:=Za hA15
 have BWC:=Za (Nat.le_trans HW.out.size hA15.size)
 clear hc3 hI15 hA15
 have HPW:Aside0 (impl_PackControl.f nx 0 (min 24 (IntKind.i64.wrap (tail+s.sn)))=some pc):=⟨by rw[i64_w];exact HPC.out⟩
 obtain⟨_,_,_,_,_⟩:=trQ_cells HI.out HX.out;have hpw15:w15.cell? ⟨gp,0,none⟩=some (.slice (some ad) l0_0.length c0_0):=(Zb (trQ_blk HI.out BP.out NGP.out) 0).trans rfl;have hn_:=trQ_sn HI.out;have hnw15:w15.cell? ⟨g,4,none⟩=some (.int .i64 s.sn):=hn_;clear hn_
 go_wp2_with (first
  |(go_at_call 64;(with_reducible refine(tq_work w14 F0 w.heap.size g task tail _ s _ ?hl_ F15 _ ?q1_ HI.out).mono ?_);(case hl_=>(have:=HCS.out;omega));(case q1_=>exact BWC.out);rintro e w16 ⟨rfl,F16,hI2,hA2⟩;have hI_:=Za hI2;have hA_:=Za (HA.out.trans ((Sep.After.refl _ _).trans hA2));have hW_:=Za (Nat.le_trans BWC.out (Sep.After.size ((Sep.After.refl _ _).trans hA2)));clear HI HA BWC;have HI:=hI_;have HA:=hA_;have BWC:=hW_;clear hI_ hA_ hW_ hI2 hA2;obtain⟨_,_,_,_,_⟩:=trQ_cells HI.out HX.out;have hpw16:w16.cell? ⟨gp,0,none⟩=some (.slice (some ad) l0_0.length c0_0):=(Zb (trQ_blk HI.out BP.out NGP.out) 0).trans rfl;have hn_:=trQ_sn HI.out;have hnw16:w16.cell? ⟨g,4,none⟩=some (.int .i64 s.sn):=hn_;clear hn_)
  |fail)
 have HPX:Aside0 ((IntKind.i64.wrap (tail+s.sn)<24→impl_PackControl.f nx 0 (IntKind.i64.wrap (tail+s.sn))=some pc)∧(¬IntKind.i64.wrap (tail+s.sn)<24→impl_PackControl.f nx 0 24=some pc)):=⟨fun c=>by have:=HPW.out;rwa [Int.min_eq_right (by omega)] at this,fun c=>by have:=HPW.out;rwa [Int.min_eq_left (by omega)] at this⟩
 by_cases cm:IntKind.i64.wrap (tail+s.sn)<24
 case' pos=>have HPY:=Za (HPX.out.1 cm);have ce:=eq_true cm
 case' neg=>have HPY:=Za (HPX.out.2 cm);have ce:=eq_false cm
 all_goals
  clear HPX cm
  go_region_held3 (fun w'=>w'.cell? ⟨gx,0,none⟩=some (.pointer (some ⟨g,0,none⟩))∧w'.cell? ⟨gp,0,none⟩=some (.slice (some ad) l0_0.length c0_0)∧w'.cell? ⟨g,14,none⟩=some (.slice A3 s.vs.length c3)∧w'.cell? ⟨g,4,none⟩=some (.int .i64 s.sn)) (go_keep) ((first
   |(go_at_call 71;(with_reducible refine(impl_NextTask.calls k _ _ l0_0 _ _ s.vs task nx _ (Yh (heapTaskT.C (fun k hk=>OQ.out _ _ _ HI.out k hk) HR0.out) z8_0) HC0.out (Yh (trQ_vs HI.out).2.2 z8_0) HC3.out HNX.out).mono ?_);rintro e w17 ⟨rfl,hd⟩;have hbp:=Zk (z8_0:Below w16.heap.size w16 _) hd;clear hd;have hI_:=Za ((trQ_loc w14 F0 w.heap.size g task tail _ _).below BWC.out HI.out hbp);have hA_:=Za (HA.out.trans (Sep.After.of_below hbp _));have hW_:=Za (Nat.le_trans BWC.out hbp.size);clear HI HA BWC;have HI:=hI_;have HA:=hA_;have BWC:=hW_;clear hI_ hA_ hW_ hbp;obtain⟨_,_,_,_,_⟩:=trQ_cells HI.out HX.out;have hpw17:w17.cell? ⟨gp,0,none⟩=some (.slice (some ad) l0_0.length c0_0):=(Zb (trQ_blk HI.out BP.out NGP.out) 0).trans rfl;have hn_:=trQ_sn HI.out;have hnw17:w17.cell? ⟨g,4,none⟩=some (.int .i64 s.sn):=hn_;clear hn_)
   |(go_at_call 43;(first|(with_reducible refine(impl_PackControl.calls _ _ _ pc _ HPY.out).mono ?_)|(with_reducible refine(impl_PackControl.calls _ _ _ pc _ HPW.out).mono ?_));rintro e w18 ⟨rfl,hd⟩;have hbp:=Zk (z8_0:Below w17.heap.size w17 _) hd.below;clear hd;have hI_:=Za ((trQ_loc w14 F0 w.heap.size g task tail _ _).below BWC.out HI.out hbp);have hA_:=Za (HA.out.trans (Sep.After.of_below hbp _));have hW_:=Za (Nat.le_trans BWC.out hbp.size);clear HI HA BWC;have HI:=hI_;have HA:=hA_;have BWC:=hW_;clear hI_ hA_ hW_ hbp;obtain⟨_,_,_,_,_⟩:=trQ_cells HI.out HX.out;have hpw18:w18.cell? ⟨gp,0,none⟩=some (.slice (some ad) l0_0.length c0_0):=(Zb (trQ_blk HI.out BP.out NGP.out) 0).trans rfl;have hn_:=trQ_sn HI.out;have hnw18:w18.cell? ⟨g,4,none⟩=some (.int .i64 s.sn):=hn_;clear hn_)
   |(go_at_call 70;(with_reducible refine(tq_write w14 F0 w.heap.size g task tail (.slice A3 s.vs.length c3) (s.write 1 (-1) 0) _ _ ?hl_ F16 _ ?q1_ ((trQ_loc w14 F0 w.heap.size g task tail _ _).below BWC.out HI.out z8_0)).mono ?_);(case hl_=>((try simp only[Tr.write,List.length_append,List.length_singleton]);have:=HCS.out;omega));(case q1_=>exact BWC.out);rintro e w19 ⟨rfl,F19,hI2,hA2⟩;have hI_:=Za hI2;have hA_:=Za (HA.out.trans ((Sep.After.of_below (z8_0:Below w18.heap.size w18 _) _).trans hA2));have hW_:=Za (Nat.le_trans BWC.out (Sep.After.size ((Sep.After.of_below (z8_0:Below w18.heap.size w18 _) _).trans hA2)));clear HI HA BWC;have HI:=hI_;have HA:=hA_;have BWC:=hW_;clear hI_ hA_ hW_ hI2 hA2;obtain⟨_,_,_,_,_⟩:=trQ_cells HI.out HX.out;have hpw19:w19.cell? ⟨gp,0,none⟩=some (.slice (some ad) l0_0.length c0_0):=(Zb (trQ_blk HI.out BP.out NGP.out) 0).trans rfl;have hn_:=trQ_sn HI.out;have hnw19:w19.cell? ⟨g,4,none⟩=some (.int .i64 s.sn):=hn_;clear hn_;have B89:=Za (trQ_blk HI.out B8.out NG8.out);have HI9:=HI.out;obtain⟨Fx,⟨v0,v1,v2,hb,⟨q0,q1,q2,q3⟩,hD,hF⟩,-,-,-,-⟩:=HI9;obtain⟨S0,d0,e0⟩:=Yn q0;obtain⟨m0,hm0⟩:∃m,m=((s.write 1 (-1) 0).write 3 8 pc).st.length:=⟨_,rfl⟩;rw[←hm0] at e0;obtain⟨S1,d1,e1⟩:=Yn q1;obtain⟨m1,hm1⟩:∃m,m=((s.write 1 (-1) 0).write 3 8 pc).us.length:=⟨_,rfl⟩;rw[←hm1] at e1;subst e0 e1;clear hm0 hm1;have HBg:=Za hb;have Q0:=Za q0;have Q1:=Za q1;clear hb q0 q1 q2 q3 hD hF;obtain⟨_,_,_,_,_,_,_⟩:=trB HBg.out;have h80:w19.cell? ⟨g8,0,none⟩=some (.slice none 0 0):=(Zb B89.out 0).trans rfl;have h81:w19.cell? ⟨g8,1,none⟩=some (.slice none 0 0):=(Zb B89.out 1).trans rfl;have hf80:=Zc B89.out 0;have hf81:=Zc B89.out 1)))
  go_wp2_with (first
   |((with_reducible refine Yq (t:=33) (p:=8) rfl ?_);refine Yp (t:=33) (p:=8) (v:= .tmp 62) (w1:=(w19.setCell ⟨g8,0,none⟩ (.slice S0 m0 d0)).setCell ⟨g8,1,none⟩ (.slice S1 m1 d1)) ?hg ?ho ?hn ?hr ?_;(case ho=>rfl);(case hg=>rfl);(case hn=>rfl);(case hr=>exact z8_5);intro w20 hw;have B20:Aside0 (w20.heap[g8]? =some (.cells #[.slice S0 m0 d0,.slice S1 m1 d1] 33 (0,0))):=⟨by rw[hw];exact blk_put (blk_put B89.out 0 _ rfl) 1 _ rfl⟩;have FAR:Aside0 (w19.heap.size≤w20.heap.size∧(∀k,k≠g8→w20.heap[k]? =w19.heap[k]?)∧w20.os=w19.os∧w20.tape=w19.tape∧w20.output=w19.output):=⟨by rw[hw];exact⟨by simp[World.setCell],fun k hk=>(Below.heap_setCell _ _ _ k hk).trans (Below.heap_setCell _ _ _ k hk),rfl,rfl,rfl⟩⟩;clear hw)
   |fail)
  all_goals
   refine bodyPost_ret (results_cell_row rfl _ _ g8 33 #[.slice S0 m0 d0,.slice S1 m1 d1] (0,0) _ rfl B20.out Tryz.underlying33 rfl z8_18) rfl ?_
   have HB9:Below w.heap.size w w19:=HA.out.to_below (w0:=w) FFB.out HW.out
   refine⟨_,_,rfl,HE1.out ▸ (Q0.out.keep (w1:=w20) (fun k hk=>FAR.out.2.1 k (Q0.out.ne B89.out z8_17 k hk))).mic (fun _ _=>trivial),HE2.out ▸ (Q1.out.keep (w1:=w20) (fun k hk=>FAR.out.2.1 k (Q1.out.ne B89.out z8_17 k hk))).int (fun _ _=>trivial),FAR.out.2.2.1.trans HB9.os,FAR.out.2.2.2.1.trans HB9.tape,FAR.out.2.2.2.2.trans HB9.output,Nat.le_trans HB9.size FAR.out.1,fun k hk=>(FAR.out.2.1 k (by have:=G8.out;omega)).trans (HB9.block k hk)⟩
def impl_TraceOf.f (k:Nat) (l0_0:List (S74)) (l1:List Int) (l2:List Int) (a3:Int):Option ((List (S64))×List Int×Bool):=(impl_MemOk.f k l0_0 l1).bind fun t488=>(if t488=true then ((impl_IsClean.f l1).bind fun t489=>(if t489=true then ((impl_isReading.f l2 a3).bind fun t490=>(if t490=true then ((impl_traceOf.f k l0_0 l1 l2 a3).bind fun bt491=>(some (bt491.1,bt491.2,true))) else (some (([]:List (S64)),([]:List Int),false)))) else (some (([]:List (S64)),([]:List Int),false)))) else (some (([]:List (S64)),([]:List Int),false)))
set_option maxHeartbeats 8000000 in
set_option maxRecDepth 100000 in
theorem impl_TraceOf.calls (k:Nat) (A0_0:Option Addr) (c0_0:Nat) (l0_0:List (S74)) (A1:Option Addr) (c1:Nat) (l1:List Int) (A2:Option Addr) (c2:Nat) (l2:List Int) (a3:Int) (r1:List (S64)) (r2:List Int) (r3:Bool) (w:World) (hr0_0:Kd.C k74 w A0_0 l0_0.length l0_0) (hc0_0:l0_0.length≤c0_0) (hr1:Kd.C (Kd.int .i64) w A1 l1.length l1) (hc1:l1.length≤c1) (hr2:Kd.C (Kd.int .i64) w A2 l2.length l2) (hc2:l2.length≤c2) (h:impl_TraceOf.f k l0_0 l1 l2 a3=some (r1,r2,r3)):
  Calls Tryz.prog 10 #[.agg #[.slice A0_0 l0_0.length c0_0],.slice A1 l1.length c1,.slice A2 l2.length c2,.int .i64 a3] w fun e w'=>∃v0_ v1_:Value,e= .returned (.tuple #[.agg #[v0_,v1_],.bool r3])∧Kd.R k64 64 w' w.heap.size (fun _=>True) v0_ r1∧Kd.R (Kd.int .i64) 3 w' w.heap.size (fun _=>True) v1_ r2∧Below w.heap.size w w':=by
 have hu26:=Tryz.underlying26
 have hu33:=Tryz.underlying33
 have HR0_0:=Za hr0_0
 have HC0_0:=Za hc0_0
 clear hr0_0 hc0_0
 have HR1:=Za hr1
 have HC1:=Za hc1
 clear hr1 hc1
 have HR2:=Za hr2
 have HC2:=Za hc2
 clear hr2 hc2
 have HB:=Za (Yb w.heap.size w)
 have H:((impl_MemOk.f k l0_0 l1).bind fun t488=>(if t488=true then ((impl_IsClean.f l1).bind fun t489=>(if t489=true then ((impl_isReading.f l2 a3).bind fun t490=>(if t490=true then ((impl_traceOf.f k l0_0 l1 l2 a3).bind fun bt491=>(some (bt491.1,bt491.2,true))) else (some (([]:List (S64)),([]:List Int),false)))) else (some (([]:List (S64)),([]:List Int),false)))) else (some (([]:List (S64)),([]:List Int),false))))=some (r1,r2,r3):=h
 clear h
 replace H:=Zg H
 obtain⟨t488,A50,H⟩:=H
 replace H:(if t488=true then ((impl_IsClean.f l1).bind fun t489=>(if t489=true then ((impl_isReading.f l2 a3).bind fun t490=>(if t490=true then ((impl_traceOf.f k l0_0 l1 l2 a3).bind fun bt491=>(some (bt491.1,bt491.2,true))) else (some (([]:List (S64)),([]:List Int),false)))) else (some (([]:List (S64)),([]:List Int),false)))) else (some (([]:List (S64)),([]:List Int),false)))=some (r1,r2,r3):=H
 have A5:=Za A50
 clear A50
 by_cases c6:t488=true
 ·subst c6
  have H1:((impl_IsClean.f l1).bind fun t489=>(if t489=true then ((impl_isReading.f l2 a3).bind fun t490=>(if t490=true then ((impl_traceOf.f k l0_0 l1 l2 a3).bind fun bt491=>(some (bt491.1,bt491.2,true))) else (some (([]:List (S64)),([]:List Int),false)))) else (some (([]:List (S64)),([]:List Int),false))))=some (r1,r2,r3):=by rw[if_pos rfl] at H;exact H
  clear H
  have H:=H1
  clear H1
  replace H:=Zg H
  obtain⟨t489,A70,H⟩:=H
  replace H:(if t489=true then ((impl_isReading.f l2 a3).bind fun t490=>(if t490=true then ((impl_traceOf.f k l0_0 l1 l2 a3).bind fun bt491=>(some (bt491.1,bt491.2,true))) else (some (([]:List (S64)),([]:List Int),false)))) else (some (([]:List (S64)),([]:List Int),false)))=some (r1,r2,r3):=H
  have A7:=Za A70
  clear A70
  by_cases c8:t489=true
  ·subst c8
   have H1:((impl_isReading.f l2 a3).bind fun t490=>(if t490=true then ((impl_traceOf.f k l0_0 l1 l2 a3).bind fun bt491=>(some (bt491.1,bt491.2,true))) else (some (([]:List (S64)),([]:List Int),false))))=some (r1,r2,r3):=by rw[if_pos rfl] at H;exact H
   clear H
   have H:=H1
   clear H1
   replace H:=Zg H
   obtain⟨t490,A90,H⟩:=H
   replace H:(if t490=true then ((impl_traceOf.f k l0_0 l1 l2 a3).bind fun bt491=>(some (bt491.1,bt491.2,true))) else (some (([]:List (S64)),([]:List Int),false)))=some (r1,r2,r3):=H
   have A9:=Za A90
   clear A90
   by_cases c10:t490=true
   ·subst c10
    have H1:((impl_traceOf.f k l0_0 l1 l2 a3).bind fun bt491=>(some (bt491.1,bt491.2,true)))=some (r1,r2,r3):=by rw[if_pos rfl] at H;exact H
    clear H
    have H:=H1
    clear H1
    replace H:=Zg H
    obtain⟨⟨t491,t494⟩,A110,H⟩:=H
    replace H:(some (t491,t494,true))=some (r1,r2,r3):=H
    have A11:=Za A110
    clear A110
    simp only[Option.some.injEq,Prod.mk.injEq] at H
    obtain⟨rfl,rfl,rfl⟩:=H
    go_enter Tryz.func10,Tryz.ntmps10
    go_wp2_with (first|((with_reducible refine Zr (N:=4) rfl ?_);refine Zy ?hg (N:=4) ?hd (cs:= #[.slice A0_0 l0_0.length c0_0]) (t:=26) ?hr ?_;(case hd=>rfl);(case hg=>rfl);(case hr=>exact z8_5);intro gb486 hg w12 hbox hb;have BK486:=Za (hbox);have GW486:=Za ((z8_21:w.heap.size≤gb486));have GE486:=Za ((z8_21:w.heap.size≤gb486));replace HB:=Za (Zk z8_3 hb);clear hb hbox hg)|((with_reducible refine Zr (N:=8) rfl ?_);refine Zy ?hg (N:=8) ?hd (cs:= #[.slice none 0 0,.slice none 0 0]) (t:=33) ?hr ?_;(case hd=>rfl);(case hg=>rfl);(case hr=>exact z8_5);intro gb487 hg w13 hbox hb;have BK487:=Za (hbox);have GW487:=Za ((z8_22:w.heap.size≤gb487));have GE487:=Za ((z8_22:w.heap.size≤gb487));replace HB:=Za (Zk z8_4 hb);have NB486_487:=Za ((z8_19:gb486≠gb487));have NB487_486:=Za ((z8_20:gb487≠gb486));replace BK486:=Za (Zi (g:=gb486) (o:= .cells #[.slice A0_0 l0_0.length c0_0] 26 (0,0)) z8_1 hb);clear hb hbox hg;have hnb14:=NB486_487.out;have hnc14:=NB487_486.out;have hcz15_0:w13.cell? ⟨gb486,0,none⟩=some (.slice A0_0 l0_0.length c0_0):=(Zb BK486.out 0).trans rfl;have hfz15_0:=Zc BK486.out 0)|((first|((with_reducible refine gate_callee (f:=23) rfl ?_);refine goesL_ (some 12) rfl rfl Tryz.func23 z8_18 rfl #[.agg #[.slice A0_0 l0_0.length c0_0],.slice A1 l1.length c1] rfl z8_10 ?_;(with_reducible refine(impl_MemOk.calls k _ _ l0_0 _ _ l1 true _ ?side1 ?side2 ?side3 ?side4 A5.out).mono ?_))|(go_at_call 23;(with_reducible refine(impl_MemOk.calls k _ _ l0_0 _ _ l1 true _ ?side1 ?side2 ?side3 ?side4 A5.out).mono ?_)));(case side1=>exact z8_11);(case side2=>exact HC0_0.out);(case side3=>exact z8_6);(case side4=>exact HC1.out);rintro e w16 ⟨rfl,hb⟩;(first|refine⟨_,rfl,?_⟩|skip);replace BK486:=Za (Zi (g:=gb486) (o:= .cells #[.slice A0_0 l0_0.length c0_0] 26 (0,0)) z8_1 hb);replace BK487:=Za (Zi (g:=gb487) (o:= .cells #[.slice none 0 0,.slice none 0 0] 33 (0,0)) z8_8 hb);replace HB:=Za (Zk z8_2 hb);(try clear hb);(try clear hb2);(try clear hk);(try clear hi))|(go_at_call 21;(with_reducible refine(impl_IsClean.calls _ _ l1 true _ ?side1 ?side2 A7.out).mono ?_);(case side1=>exact z8_6);(case side2=>exact HC1.out);rintro e w' ⟨rfl,⟨nd,rfl⟩⟩;(try(rw[drewN_self w16];generalize hq_:World.drewN w16 _=w16;have n0_:Aside0 (w16.heap[gb486]? =some (.cells #[.slice A0_0 l0_0.length c0_0] 26 (0,0))):=⟨by rw[←hq_];exact z8_1⟩;have n1_:Aside0 (w16.heap[gb487]? =some (.cells #[.slice none 0 0,.slice none 0 0] 33 (0,0))):=⟨by rw[←hq_];exact z8_8⟩;have n2_:Aside0 (Below w.heap.size w w16):=⟨by rw[←hq_];exact z8_2⟩;clear BK486 BK487 HB hq_;have BK486:=n0_;have BK487:=n1_;have HB:=n2_;clear n0_ n1_ n2_));(try(have hcuz17_0:w16.cell? ⟨gb486,0,none⟩=some (.slice A0_0 l0_0.length c0_0):=(Zb BK486.out 0).trans rfl;have hfuz17_0:=Zc BK486.out 0));(try(have hcuz18_0:w16.cell? ⟨gb487,0,none⟩=some (.slice none 0 0):=(Zb BK487.out 0).trans rfl;have hcuz18_1:w16.cell? ⟨gb487,1,none⟩=some (.slice none 0 0):=(Zb BK487.out 1).trans rfl;have hfuz18_0:=Zc BK487.out 0;have hfuz18_1:=Zc BK487.out 1)))|(go_at_call 36;(with_reducible refine(impl_isReading.calls _ _ l2 a3 true _ ?side1 ?side2 A9.out).mono ?_);(case side1=>exact z8_15);(case side2=>exact HC2.out);rintro e w' ⟨rfl,⟨nd,rfl⟩⟩;(try(rw[drewN_self w16];generalize hq_:World.drewN w16 _=w16;have n0_:Aside0 (w16.heap[gb486]? =some (.cells #[.slice A0_0 l0_0.length c0_0] 26 (0,0))):=⟨by rw[←hq_];exact z8_1⟩;have n1_:Aside0 (w16.heap[gb487]? =some (.cells #[.slice none 0 0,.slice none 0 0] 33 (0,0))):=⟨by rw[←hq_];exact z8_8⟩;have n2_:Aside0 (Below w.heap.size w w16):=⟨by rw[←hq_];exact z8_2⟩;clear BK486 BK487 HB hq_;have BK486:=n0_;have BK487:=n1_;have HB:=n2_;clear n0_ n1_ n2_));(try(have hcuz19_0:w16.cell? ⟨gb486,0,none⟩=some (.slice A0_0 l0_0.length c0_0):=(Zb BK486.out 0).trans rfl;have hfuz19_0:=Zc BK486.out 0));(try(have hcuz20_0:w16.cell? ⟨gb487,0,none⟩=some (.slice none 0 0):=(Zb BK487.out 0).trans rfl;have hcuz20_1:w16.cell? ⟨gb487,1,none⟩=some (.slice none 0 0):=(Zb BK487.out 1).trans rfl;have hfuz20_0:=Zc BK487.out 0;have hfuz20_1:=Zc BK487.out 1));have hcz21_0:w16.cell? ⟨gb486,0,none⟩=some (.slice A0_0 l0_0.length c0_0):=(Zb BK486.out 0).trans rfl;have hfz21_0:=Zc BK486.out 0)|((first|((with_reducible refine gate_callee (f:=37) rfl ?_);refine goesL_ (some 30) rfl rfl Tryz.func37 z8_18 rfl #[.agg #[.slice A0_0 l0_0.length c0_0],.slice A1 l1.length c1,.slice A2 l2.length c2,.int .i64 a3] rfl z8_10 ?_;(with_reducible refine(impl_traceOf.calls k _ _ l0_0 _ _ l1 _ _ l2 a3 t491 t494 _ ?side1 ?side2 ?side3 ?side4 ?side5 ?side6 A11.out).mono ?_))|(go_at_call 37;(with_reducible refine(impl_traceOf.calls k _ _ l0_0 _ _ l1 _ _ l2 a3 t491 t494 _ ?side1 ?side2 ?side3 ?side4 ?side5 ?side6 A11.out).mono ?_)));(case side1=>exact z8_11);(case side2=>exact HC0_0.out);(case side3=>exact z8_6);(case side4=>exact HC1.out);(case side5=>exact z8_15);(case side6=>exact HC2.out);rintro e w22 ⟨v492,v495,rfl,ho0,ho1,hb⟩;(first|refine⟨_,rfl,?_⟩|skip);have HO493:=Za (Yr ho0 (Yf z8_2));have HO496:=Za (Yr ho1 (Yf z8_2));replace BK486:=Za (Zi (g:=gb486) (o:= .cells #[.slice A0_0 l0_0.length c0_0] 26 (0,0)) z8_1 hb);replace BK487:=Za (Zi (g:=gb487) (o:= .cells #[.slice none 0 0,.slice none 0 0] 33 (0,0)) z8_8 hb);replace HB:=Za (Zk z8_2 hb);(try clear hb);(try clear hb2);(try clear hk);(try clear hi);(try clear ho0);(try clear ho1);obtain⟨Ao23,co23,eo23⟩:=Yn HO493.out;subst eo23;have hcz24_0:w22.cell? ⟨gb487,0,none⟩=some (.slice none 0 0):=(Zb BK487.out 0).trans rfl;have hcz24_1:w22.cell? ⟨gb487,1,none⟩=some (.slice none 0 0):=(Zb BK487.out 1).trans rfl;have hfz24_0:=Zc BK487.out 0;have hfz24_1:=Zc BK487.out 1;obtain⟨Ao25,co25,eo25⟩:=Yn HO496.out;subst eo25))
    refine bodyPost_ret (results_ct rfl _ _ gb487 33 #[.slice Ao23 t491.length co23,.slice Ao25 t494.length co25] (0,0) _ rfl (by(with_reducible repeat(first|refine blk_drewN ?_ _|refine blk_drew ?_|refine blk_alloc ?_ _));refine blk_put (cs:= #[.slice Ao23 t491.length co23,.slice none 0 0]) ?_ 1 _ rfl;(with_reducible repeat(first|refine blk_drewN ?_ _|refine blk_drew ?_|refine blk_alloc ?_ _));refine blk_put (cs:= #[.slice none 0 0,.slice none 0 0]) ?_ 0 _ rfl;(with_reducible repeat(first|refine blk_drewN ?_ _|refine blk_drew ?_|refine blk_alloc ?_ _));exact BK487.out) Tryz.underlying33 rfl z8_18) rfl ?_
    exact⟨_,_,by first|rfl|(simp[errW_none,errW_some]<;>rfl)|(simp[*,errW_none,errW_some]<;>rfl)|(simp[*,errW_none,errW_some,i64_w];done),by(with_reducible repeat(first|apply Zm|apply Zl|apply Zj));exact Yc (Kd.R_far (p:=⟨gb487,1,none⟩) (Kd.R_far (p:=⟨gb487,0,none⟩) (Kd.R_types HO493.out BK487.out z8_17) (fun _ hk=>hk.2) (.slice Ao23 t491.length co23)) (fun _ hk=>hk.2) (.slice Ao25 t494.length co25)) (fun _ hk=>trivial),by(with_reducible repeat(first|apply Zm|apply Zl|apply Zj));exact Yc (Kd.R_far (p:=⟨gb487,1,none⟩) (Kd.R_far (p:=⟨gb487,0,none⟩) (Kd.R_types HO496.out BK487.out z8_17) (fun _ hk=>hk.2) (.slice Ao23 t491.length co23)) (fun _ hk=>hk.2) (.slice Ao25 t494.length co25)) (fun _ hk=>trivial),by repeat(first|(with_reducible first|exact HB.out|apply Zh|apply Zf|apply Ze|refine Zd ?_ GE486.out|refine Zd ?_ GE487.out)|exact HB.out)⟩
   ·replace c10:=Bool.eq_false_iff.mpr c10
    subst c10
    have H1:(some (([]:List (S64)),([]:List Int),false))=some (r1,r2,r3):=by rw[if_neg (show ¬(false=true) by decide)] at H;exact H
    clear H
    have H:=H1
    clear H1
    simp only[Option.some.injEq,Prod.mk.injEq] at H
    obtain⟨rfl,rfl,rfl⟩:=H
    go_enter Tryz.func10,Tryz.ntmps10
    go_wp2_with (first|((with_reducible refine Zr (N:=4) rfl ?_);refine Zy ?hg (N:=4) ?hd (cs:= #[.slice A0_0 l0_0.length c0_0]) (t:=26) ?hr ?_;(case hd=>rfl);(case hg=>rfl);(case hr=>exact z8_5);intro gb486 hg w26 hbox hb;have BK486:=Za (hbox);have GW486:=Za ((z8_21:w.heap.size≤gb486));have GE486:=Za ((z8_21:w.heap.size≤gb486));replace HB:=Za (Zk z8_3 hb);clear hb hbox hg)|((with_reducible refine Zr (N:=8) rfl ?_);refine Zy ?hg (N:=8) ?hd (cs:= #[.slice none 0 0,.slice none 0 0]) (t:=33) ?hr ?_;(case hd=>rfl);(case hg=>rfl);(case hr=>exact z8_5);intro gb487 hg w27 hbox hb;have BK487:=Za (hbox);have GW487:=Za ((z8_22:w.heap.size≤gb487));have GE487:=Za ((z8_22:w.heap.size≤gb487));replace HB:=Za (Zk z8_4 hb);have NB486_487:=Za ((z8_19:gb486≠gb487));have NB487_486:=Za ((z8_20:gb487≠gb486));replace BK486:=Za (Zi (g:=gb486) (o:= .cells #[.slice A0_0 l0_0.length c0_0] 26 (0,0)) z8_1 hb);clear hb hbox hg;have hnb28:=NB486_487.out;have hnc28:=NB487_486.out;have hcz29_0:w27.cell? ⟨gb486,0,none⟩=some (.slice A0_0 l0_0.length c0_0):=(Zb BK486.out 0).trans rfl;have hfz29_0:=Zc BK486.out 0)|((first|((with_reducible refine gate_callee (f:=23) rfl ?_);refine goesL_ (some 12) rfl rfl Tryz.func23 z8_18 rfl #[.agg #[.slice A0_0 l0_0.length c0_0],.slice A1 l1.length c1] rfl z8_10 ?_;(with_reducible refine(impl_MemOk.calls k _ _ l0_0 _ _ l1 true _ ?side1 ?side2 ?side3 ?side4 A5.out).mono ?_))|(go_at_call 23;(with_reducible refine(impl_MemOk.calls k _ _ l0_0 _ _ l1 true _ ?side1 ?side2 ?side3 ?side4 A5.out).mono ?_)));(case side1=>exact z8_11);(case side2=>exact HC0_0.out);(case side3=>exact z8_6);(case side4=>exact HC1.out);rintro e w30 ⟨rfl,hb⟩;(first|refine⟨_,rfl,?_⟩|skip);replace BK486:=Za (Zi (g:=gb486) (o:= .cells #[.slice A0_0 l0_0.length c0_0] 26 (0,0)) z8_1 hb);replace BK487:=Za (Zi (g:=gb487) (o:= .cells #[.slice none 0 0,.slice none 0 0] 33 (0,0)) z8_8 hb);replace HB:=Za (Zk z8_2 hb);(try clear hb);(try clear hb2);(try clear hk);(try clear hi))|(go_at_call 21;(with_reducible refine(impl_IsClean.calls _ _ l1 true _ ?side1 ?side2 A7.out).mono ?_);(case side1=>exact z8_6);(case side2=>exact HC1.out);rintro e w' ⟨rfl,⟨nd,rfl⟩⟩;(try(rw[drewN_self w30];generalize hq_:World.drewN w30 _=w30;have n0_:Aside0 (w30.heap[gb486]? =some (.cells #[.slice A0_0 l0_0.length c0_0] 26 (0,0))):=⟨by rw[←hq_];exact z8_1⟩;have n1_:Aside0 (w30.heap[gb487]? =some (.cells #[.slice none 0 0,.slice none 0 0] 33 (0,0))):=⟨by rw[←hq_];exact z8_8⟩;have n2_:Aside0 (Below w.heap.size w w30):=⟨by rw[←hq_];exact z8_2⟩;clear BK486 BK487 HB hq_;have BK486:=n0_;have BK487:=n1_;have HB:=n2_;clear n0_ n1_ n2_));(try(have hcuz31_0:w30.cell? ⟨gb486,0,none⟩=some (.slice A0_0 l0_0.length c0_0):=(Zb BK486.out 0).trans rfl;have hfuz31_0:=Zc BK486.out 0));(try(have hcuz32_0:w30.cell? ⟨gb487,0,none⟩=some (.slice none 0 0):=(Zb BK487.out 0).trans rfl;have hcuz32_1:w30.cell? ⟨gb487,1,none⟩=some (.slice none 0 0):=(Zb BK487.out 1).trans rfl;have hfuz32_0:=Zc BK487.out 0;have hfuz32_1:=Zc BK487.out 1)))|(go_at_call 36;(with_reducible refine(impl_isReading.calls _ _ l2 a3 false _ ?side1 ?side2 A9.out).mono ?_);(case side1=>exact z8_15);(case side2=>exact HC2.out);rintro e w' ⟨rfl,⟨nd,rfl⟩⟩;(try(rw[drewN_self w30];generalize hq_:World.drewN w30 _=w30;have n0_:Aside0 (w30.heap[gb486]? =some (.cells #[.slice A0_0 l0_0.length c0_0] 26 (0,0))):=⟨by rw[←hq_];exact z8_1⟩;have n1_:Aside0 (w30.heap[gb487]? =some (.cells #[.slice none 0 0,.slice none 0 0] 33 (0,0))):=⟨by rw[←hq_];exact z8_8⟩;have n2_:Aside0 (Below w.heap.size w w30):=⟨by rw[←hq_];exact z8_2⟩;clear BK486 BK487 HB hq_;have BK486:=n0_;have BK487:=n1_;have HB:=n2_;clear n0_ n1_ n2_));(try(have hcuz33_0:w30.cell? ⟨gb486,0,none⟩=some (.slice A0_0 l0_0.length c0_0):=(Zb BK486.out 0).trans rfl;have hfuz33_0:=Zc BK486.out 0));(try(have hcuz34_0:w30.cell? ⟨gb487,0,none⟩=some (.slice none 0 0):=(Zb BK487.out 0).trans rfl;have hcuz34_1:w30.cell? ⟨gb487,1,none⟩=some (.slice none 0 0):=(Zb BK487.out 1).trans rfl;have hfuz34_0:=Zc BK487.out 0;have hfuz34_1:=Zc BK487.out 1));have hcz35_0:w30.cell? ⟨gb487,0,none⟩=some (.slice none 0 0):=(Zb BK487.out 0).trans rfl;have hcz35_1:w30.cell? ⟨gb487,1,none⟩=some (.slice none 0 0):=(Zb BK487.out 1).trans rfl;have hfz35_0:=Zc BK487.out 0;have hfz35_1:=Zc BK487.out 1))
    refine bodyPost_ret (results_ct rfl _ _ gb487 33 #[.slice none 0 0,.slice none 0 0] (0,0) _ rfl z8_9 Tryz.underlying33 rfl z8_18) rfl ?_
    exact⟨_,_,by first|rfl|(simp[errW_none,errW_some]<;>rfl)|(simp[*,errW_none,errW_some]<;>rfl)|(simp[*,errW_none,errW_some,i64_w];done),by first|exact Kd.R_nil _ _ _ _ _|exact Kd.N_nil _ _ _ _ _|exact Kd.V_nil _ _ _ _ _|exact Kd.Q_nil _ _ _ _ _|exact Kd.S_nil _ _ _ _ _,by first|exact Kd.R_nil _ _ _ _ _|exact Kd.N_nil _ _ _ _ _|exact Kd.V_nil _ _ _ _ _|exact Kd.Q_nil _ _ _ _ _|exact Kd.S_nil _ _ _ _ _,by repeat(first|(with_reducible first|exact HB.out|apply Zh|apply Zf|apply Ze|refine Zd ?_ GE486.out|refine Zd ?_ GE487.out)|exact HB.out)⟩
  ·replace c8:=Bool.eq_false_iff.mpr c8
   subst c8
   have H1:(some (([]:List (S64)),([]:List Int),false))=some (r1,r2,r3):=by rw[if_neg (show ¬(false=true) by decide)] at H;exact H
   clear H
   have H:=H1
   clear H1
   simp only[Option.some.injEq,Prod.mk.injEq] at H
   obtain⟨rfl,rfl,rfl⟩:=H
   go_enter Tryz.func10,Tryz.ntmps10
   go_wp2_with (first|((with_reducible refine Zr (N:=4) rfl ?_);refine Zy ?hg (N:=4) ?hd (cs:= #[.slice A0_0 l0_0.length c0_0]) (t:=26) ?hr ?_;(case hd=>rfl);(case hg=>rfl);(case hr=>exact z8_5);intro gb486 hg w36 hbox hb;have BK486:=Za (hbox);have GW486:=Za ((z8_21:w.heap.size≤gb486));have GE486:=Za ((z8_21:w.heap.size≤gb486));replace HB:=Za (Zk z8_3 hb);clear hb hbox hg)|((with_reducible refine Zr (N:=8) rfl ?_);refine Zy ?hg (N:=8) ?hd (cs:= #[.slice none 0 0,.slice none 0 0]) (t:=33) ?hr ?_;(case hd=>rfl);(case hg=>rfl);(case hr=>exact z8_5);intro gb487 hg w37 hbox hb;have BK487:=Za (hbox);have GW487:=Za ((z8_22:w.heap.size≤gb487));have GE487:=Za ((z8_22:w.heap.size≤gb487));replace HB:=Za (Zk z8_4 hb);have NB486_487:=Za ((z8_19:gb486≠gb487));have NB487_486:=Za ((z8_20:gb487≠gb486));replace BK486:=Za (Zi (g:=gb486) (o:= .cells #[.slice A0_0 l0_0.length c0_0] 26 (0,0)) z8_1 hb);clear hb hbox hg;have hnb38:=NB486_487.out;have hnc38:=NB487_486.out;have hcz39_0:w37.cell? ⟨gb486,0,none⟩=some (.slice A0_0 l0_0.length c0_0):=(Zb BK486.out 0).trans rfl;have hfz39_0:=Zc BK486.out 0)|((first|((with_reducible refine gate_callee (f:=23) rfl ?_);refine goesL_ (some 12) rfl rfl Tryz.func23 z8_18 rfl #[.agg #[.slice A0_0 l0_0.length c0_0],.slice A1 l1.length c1] rfl z8_10 ?_;(with_reducible refine(impl_MemOk.calls k _ _ l0_0 _ _ l1 true _ ?side1 ?side2 ?side3 ?side4 A5.out).mono ?_))|(go_at_call 23;(with_reducible refine(impl_MemOk.calls k _ _ l0_0 _ _ l1 true _ ?side1 ?side2 ?side3 ?side4 A5.out).mono ?_)));(case side1=>exact z8_11);(case side2=>exact HC0_0.out);(case side3=>exact z8_6);(case side4=>exact HC1.out);rintro e w40 ⟨rfl,hb⟩;(first|refine⟨_,rfl,?_⟩|skip);replace BK486:=Za (Zi (g:=gb486) (o:= .cells #[.slice A0_0 l0_0.length c0_0] 26 (0,0)) z8_1 hb);replace BK487:=Za (Zi (g:=gb487) (o:= .cells #[.slice none 0 0,.slice none 0 0] 33 (0,0)) z8_8 hb);replace HB:=Za (Zk z8_2 hb);(try clear hb);(try clear hb2);(try clear hk);(try clear hi))|(go_at_call 21;(with_reducible refine(impl_IsClean.calls _ _ l1 false _ ?side1 ?side2 A7.out).mono ?_);(case side1=>exact z8_6);(case side2=>exact HC1.out);rintro e w' ⟨rfl,⟨nd,rfl⟩⟩;(try(rw[drewN_self w40];generalize hq_:World.drewN w40 _=w40;have n0_:Aside0 (w40.heap[gb486]? =some (.cells #[.slice A0_0 l0_0.length c0_0] 26 (0,0))):=⟨by rw[←hq_];exact z8_1⟩;have n1_:Aside0 (w40.heap[gb487]? =some (.cells #[.slice none 0 0,.slice none 0 0] 33 (0,0))):=⟨by rw[←hq_];exact z8_8⟩;have n2_:Aside0 (Below w.heap.size w w40):=⟨by rw[←hq_];exact z8_2⟩;clear BK486 BK487 HB hq_;have BK486:=n0_;have BK487:=n1_;have HB:=n2_;clear n0_ n1_ n2_));(try(have hcuz41_0:w40.cell? ⟨gb486,0,none⟩=some (.slice A0_0 l0_0.length c0_0):=(Zb BK486.out 0).trans rfl;have hfuz41_0:=Zc BK486.out 0));(try(have hcuz42_0:w40.cell? ⟨gb487,0,none⟩=some (.slice none 0 0):=(Zb BK487.out 0).trans rfl;have hcuz42_1:w40.cell? ⟨gb487,1,none⟩=some (.slice none 0 0):=(Zb BK487.out 1).trans rfl;have hfuz42_0:=Zc BK487.out 0;have hfuz42_1:=Zc BK487.out 1));have hcz43_0:w40.cell? ⟨gb487,0,none⟩=some (.slice none 0 0):=(Zb BK487.out 0).trans rfl;have hcz43_1:w40.cell? ⟨gb487,1,none⟩=some (.slice none 0 0):=(Zb BK487.out 1).trans rfl;have hfz43_0:=Zc BK487.out 0;have hfz43_1:=Zc BK487.out 1))
   refine bodyPost_ret (results_ct rfl _ _ gb487 33 #[.slice none 0 0,.slice none 0 0] (0,0) _ rfl z8_9 Tryz.underlying33 rfl z8_18) rfl ?_
   exact⟨_,_,by first|rfl|(simp[errW_none,errW_some]<;>rfl)|(simp[*,errW_none,errW_some]<;>rfl)|(simp[*,errW_none,errW_some,i64_w];done),by first|exact Kd.R_nil _ _ _ _ _|exact Kd.N_nil _ _ _ _ _|exact Kd.V_nil _ _ _ _ _|exact Kd.Q_nil _ _ _ _ _|exact Kd.S_nil _ _ _ _ _,by first|exact Kd.R_nil _ _ _ _ _|exact Kd.N_nil _ _ _ _ _|exact Kd.V_nil _ _ _ _ _|exact Kd.Q_nil _ _ _ _ _|exact Kd.S_nil _ _ _ _ _,by repeat(first|(with_reducible first|exact HB.out|apply Zh|apply Zf|apply Ze|refine Zd ?_ GE486.out|refine Zd ?_ GE487.out)|exact HB.out)⟩
 ·replace c6:=Bool.eq_false_iff.mpr c6
  subst c6
  have H1:(some (([]:List (S64)),([]:List Int),false))=some (r1,r2,r3):=by rw[if_neg (show ¬(false=true) by decide)] at H;exact H
  clear H
  have H:=H1
  clear H1
  simp only[Option.some.injEq,Prod.mk.injEq] at H
  obtain⟨rfl,rfl,rfl⟩:=H
  go_enter Tryz.func10,Tryz.ntmps10
  go_wp2_with (first|((with_reducible refine Zr (N:=4) rfl ?_);refine Zy ?hg (N:=4) ?hd (cs:= #[.slice A0_0 l0_0.length c0_0]) (t:=26) ?hr ?_;(case hd=>rfl);(case hg=>rfl);(case hr=>exact z8_5);intro gb486 hg w44 hbox hb;have BK486:=Za (hbox);have GW486:=Za ((z8_21:w.heap.size≤gb486));have GE486:=Za ((z8_21:w.heap.size≤gb486));replace HB:=Za (Zk z8_3 hb);clear hb hbox hg)|((with_reducible refine Zr (N:=8) rfl ?_);refine Zy ?hg (N:=8) ?hd (cs:= #[.slice none 0 0,.slice none 0 0]) (t:=33) ?hr ?_;(case hd=>rfl);(case hg=>rfl);(case hr=>exact z8_5);intro gb487 hg w45 hbox hb;have BK487:=Za (hbox);have GW487:=Za ((z8_22:w.heap.size≤gb487));have GE487:=Za ((z8_22:w.heap.size≤gb487));replace HB:=Za (Zk z8_4 hb);have NB486_487:=Za ((z8_19:gb486≠gb487));have NB487_486:=Za ((z8_20:gb487≠gb486));replace BK486:=Za (Zi (g:=gb486) (o:= .cells #[.slice A0_0 l0_0.length c0_0] 26 (0,0)) z8_1 hb);clear hb hbox hg;have hnb46:=NB486_487.out;have hnc46:=NB487_486.out;have hcz47_0:w45.cell? ⟨gb486,0,none⟩=some (.slice A0_0 l0_0.length c0_0):=(Zb BK486.out 0).trans rfl;have hfz47_0:=Zc BK486.out 0)|((first|((with_reducible refine gate_callee (f:=23) rfl ?_);refine goesL_ (some 12) rfl rfl Tryz.func23 z8_18 rfl #[.agg #[.slice A0_0 l0_0.length c0_0],.slice A1 l1.length c1] rfl z8_10 ?_;(with_reducible refine(impl_MemOk.calls k _ _ l0_0 _ _ l1 false _ ?side1 ?side2 ?side3 ?side4 A5.out).mono ?_))|(go_at_call 23;(with_reducible refine(impl_MemOk.calls k _ _ l0_0 _ _ l1 false _ ?side1 ?side2 ?side3 ?side4 A5.out).mono ?_)));(case side1=>exact z8_11);(case side2=>exact HC0_0.out);(case side3=>exact z8_6);(case side4=>exact HC1.out);rintro e w48 ⟨rfl,hb⟩;(first|refine⟨_,rfl,?_⟩|skip);replace BK486:=Za (Zi (g:=gb486) (o:= .cells #[.slice A0_0 l0_0.length c0_0] 26 (0,0)) z8_1 hb);replace BK487:=Za (Zi (g:=gb487) (o:= .cells #[.slice none 0 0,.slice none 0 0] 33 (0,0)) z8_8 hb);replace HB:=Za (Zk z8_2 hb);(try clear hb);(try clear hb2);(try clear hk);(try clear hi);have hcz49_0:w48.cell? ⟨gb487,0,none⟩=some (.slice none 0 0):=(Zb BK487.out 0).trans rfl;have hcz49_1:w48.cell? ⟨gb487,1,none⟩=some (.slice none 0 0):=(Zb BK487.out 1).trans rfl;have hfz49_0:=Zc BK487.out 0;have hfz49_1:=Zc BK487.out 1))
  refine bodyPost_ret (results_ct rfl _ _ gb487 33 #[.slice none 0 0,.slice none 0 0] (0,0) _ rfl z8_9 Tryz.underlying33 rfl z8_18) rfl ?_
  exact⟨_,_,by first|rfl|(simp[errW_none,errW_some]<;>rfl)|(simp[*,errW_none,errW_some]<;>rfl)|(simp[*,errW_none,errW_some,i64_w];done),by first|exact Kd.R_nil _ _ _ _ _|exact Kd.N_nil _ _ _ _ _|exact Kd.V_nil _ _ _ _ _|exact Kd.Q_nil _ _ _ _ _|exact Kd.S_nil _ _ _ _ _,by first|exact Kd.R_nil _ _ _ _ _|exact Kd.N_nil _ _ _ _ _|exact Kd.V_nil _ _ _ _ _|exact Kd.Q_nil _ _ _ _ _|exact Kd.S_nil _ _ _ _ _,by repeat(first|(with_reducible first|exact HB.out|apply Zh|apply Zf|apply Ze|refine Zd ?_ GE486.out|refine Zd ?_ GE487.out)|exact HB.out)⟩
def impl_WritesOf.l0:Nat→List (S66)→List (S64)→Int→Int→Option ((List (S66)))
 |0,_,_,_,_=>none
 |k+1,x3,x8,x9,x10=>if x10<x9 then (if 0≤x10 then (if x10<(x8.length:Int) then (if ((rd_T64 x8 x10).f1)=(-1) then (impl_WritesOf.l0 k x3 x8 x9 (wrap64 (x10+1))) else (if x3.length<8796093022208 then (impl_WritesOf.l0 k (x3++[(⟨(rd_T64 x8 x10).f1,(rd_T64 x8 x10).f2⟩:S66)]) x8 x9 (wrap64 (x10+1))) else (none))) else (none)) else (none)) else (some x3)
def impl_WritesOf.f (k:Nat) (l0_0:List (S64)) (l0_1:List Int):Option ((List (S66))):=impl_WritesOf.l0 k (([]:List (S66))) l0_0 (l0_0.length:Int) 0
set_option maxHeartbeats 8000000 in
set_option maxRecDepth 100000 in
theorem impl_WritesOf.calls (k:Nat) (A0_0:Option Addr) (c0_0:Nat) (l0_0:List (S64)) (A0_1:Option Addr) (c0_1:Nat) (l0_1:List Int) (r:List (S66)) (w:World) (hr0_0:Kd.C k64 w A0_0 l0_0.length l0_0) (hc0_0:l0_0.length≤c0_0) (hr0_1:Kd.C (Kd.int .i64) w A0_1 l0_1.length l0_1) (hc0_1:l0_1.length≤c0_1) (h:impl_WritesOf.f k l0_0 l0_1=some r):
  Calls Tryz.prog 11 #[.agg #[.slice A0_0 l0_0.length c0_0,.slice A0_1 l0_1.length c0_1]] w fun e w'=>∃v0_:Value,e= .returned (v0_)∧Kd.R k66 66 w' w.heap.size (fun _=>True) v0_ r∧Below w.heap.size w w':=by
 have hu33:=Tryz.underlying33
 have hu64:=Tryz.underlying64
 have hu66:=Tryz.underlying66
 have HR0_0:=Za hr0_0
 have HC0_0:=Za hc0_0
 clear hr0_0 hc0_0
 have HR0_1:=Za hr0_1
 have HC0_1:=Za hc0_1
 clear hr0_1 hc0_1
 have HB:=Za (Yb w.heap.size w)
 have H:(impl_WritesOf.l0 k (([]:List (S66))) l0_0 (l0_0.length:Int) 0)=some r:=h
 clear h
 obtain⟨y498,hy498⟩:∃y_:List (S66),y_=(([]:List (S66))):=⟨_,rfl⟩
 replace H:(impl_WritesOf.l0 k y498 l0_0 (l0_0.length:Int) 0)=some r:=by first|(rw[hy498];with_reducible exact H)|(have H2_:=(Yd _ _).symm.trans H;rw[hy498];with_reducible exact H2_)|(have H2_:=(Yd _ _).symm.trans H;with_reducible exact H2_)|with_reducible exact H|(rw[hy498];exact H)|exact H
 have Ny498:=Za hy498
 clear hy498
 have H':=Za H
 clear H
 go_enter Tryz.func11,Tryz.ntmps11
 go_wp2_with (first|((with_reducible refine Zr (N:=1) rfl ?_);refine Zy ?hg (N:=1) ?hd (cs:= #[.slice A0_0 l0_0.length c0_0,.slice A0_1 l0_1.length c0_1]) (t:=33) ?hr ?_;(case hd=>rfl);(case hg=>rfl);(case hr=>exact z8_5);intro gb497 hg w2 hbox hb;have BK497:=Za (hbox);have GW497:=Za ((z8_21:w.heap.size≤gb497));have GE497:=Za ((z8_21:w.heap.size≤gb497));replace HB:=Za (Zk z8_3 hb);clear hb hbox hg)|((with_reducible refine Zr (N:=6) rfl ?_);refine Kd.R_lit k66 _ 66 ?hg (N:=6) ?hd (xs:=([]:List (S66))) (inner:=[]) (ok:=fun _=>True) (okp:=fun _=>True) ?hr ?hp (fun _ hk=>hk) trivial (Yb _ _) (Nat.le_refl _) (by simp) ?_;(case hd=>rfl);(case hg=>rfl);(case hr=>exact z8_5);(case hp=>exact(Reps.none _ _));intro v499 w3 ho4 hb hg_ hnew_;clear hg_ hnew_;(first|rw[←Ny498.out] at ho4|(simp only[Int.reduceToNat] at ho4;rw[←Ny498.out] at ho4));have HO500:=Za (Yr ho4 (Yf z8_7));replace BK497:=Za (Zi (g:=gb497) (o:= .cells #[.slice A0_0 l0_0.length c0_0,.slice A0_1 l0_1.length c0_1] 33 (0,0)) z8_13 hb);replace HB:=Za (Zk z8_7 hb);clear hb ho4;have hcz5_0:w3.cell? ⟨gb497,0,none⟩=some (.slice A0_0 l0_0.length c0_0):=(Zb BK497.out 0).trans rfl;have hcz5_1:w3.cell? ⟨gb497,1,none⟩=some (.slice A0_1 l0_1.length c0_1):=(Zb BK497.out 1).trans rfl;have hfz5_0:=Zc BK497.out 0;have hfz5_1:=Zc BK497.out 1))
 go_loopg [3,10] k (fun kq v3 v10 w'=>∃(x3_1:List (S66)) (x10_1:Int),v10= .int .i64 x10_1∧Aside0 (impl_WritesOf.l0 kq x3_1 l0_0 (l0_0.length:Int) x10_1=some r)∧Aside0 (kq≤k)∧Aside0 (Kd.R k66 66 w' w.heap.size (fun _=>True) v3 x3_1)∧Aside0 (w'.heap[gb497]? =some (.cells #[(.slice A0_0 l0_0.length c0_0),(.slice A0_1 l0_1.length c0_1)] 33 (0,0)))∧Aside0 (Below w.heap.size w w'))
 case atStart=>exact⟨(y498),(0),(by first|rfl|(simp;done)|(simp[*];done)),H',⟨Nat.le_refl _⟩,⟨by(with_reducible repeat(first|apply Zm|apply Zl|apply Zj));exact HO500.out⟩,⟨by(with_reducible repeat(first|refine blk_drewN ?_ _|refine blk_drew ?_|refine blk_alloc ?_ _));exact BK497.out⟩,⟨by repeat(first|(with_reducible first|exact HB.out|apply Zh|apply Zf|apply Ze|refine Zd ?_ GE497.out)|exact HB.out)⟩⟩
 case round=>
  clear H'
  (try clear hcz5_0);(try clear hcz5_1);(try clear hfz5_0);(try clear hfz5_1)
  obtain⟨x3_1,x10_1,rfl,HA,HK1,HO_3,BK497,HB⟩:=hrel
  cases gk with
  |zero=>exact absurd HA.out (by simp[impl_WritesOf.l0])
  |succ k1=>
   have H:=HA.out
   clear HA
   simp only[impl_WritesOf.l0] at H
   by_cases c6:x10_1<(l0_0.length:Int)
   ·rw[if_pos c6] at H
    have c6b0:decide (x10_1<(l0_0.length:Int))=true:=Zo c6
    clear c6
    by_cases c7:0≤x10_1
    ·rw[if_pos c7] at H
     have c7b0:decide (0≤x10_1)=true:=Zo c7
     clear c7
     by_cases c8:x10_1<(l0_0.length:Int)
     ·rw[if_pos c8] at H
      have c8b0:decide (x10_1<(l0_0.length:Int))=true:=Zo c8
      clear c8
      by_cases c9:((rd_T64 l0_0 x10_1).f1)=(-1)
      ·rw[if_pos c9] at H
       have c9b0:(((rd_T64 l0_0 x10_1).f1)==(-1))=true:=beq_iff_eq.mpr c9
       have c9b1:(((rd_T64 l0_0 x10_1).f1) != (-1))=false:=bne_eq_false_iff_eq.mpr c9
       clear c9
       have H':=Za H
       clear H
       have p501:0≤(x10_1:Int):=Zq (by first|(with_reducible assumption)|assumption)
       have q501:x10_1<(l0_0.length:Int):=Zq (by first|(with_reducible assumption)|assumption)
       obtain⟨ad501,e501,hx501_0,hx501_1,hx501_2⟩:=at_T64 HR0_0.out x10_1 p501 q501
       cases e501
       replace hx501_0:=(HB.out.cell (Yo w _ hx501_0)).trans hx501_0
       replace hx501_1:=(HB.out.cell (Yo w _ hx501_1)).trans hx501_1
       replace hx501_2:=(HB.out.cell (Yo w _ hx501_2)).trans hx501_2
       replace p501:=eq_true p501
       replace q501:=eq_true q501
       go_wp2_with (first|((with_reducible refine Zr (N:=5) rfl ?_);refine Zy ?hg (N:=5) ?hd (cs:= #[.int .i64 0,.int .i64 0,.int .i64 0]) (t:=64) ?hr ?_;(case hd=>rfl);(case hg=>rfl);(case hr=>exact z8_5);intro gb502 hg w10 hbox hb;replace HO_3:=Za (Kd.R_below (by(with_reducible repeat(first|apply Zm|apply Zl|apply Zj));exact HO_3.out) hb);have BK502:=Za (hbox);have GW502:=Za ((by rw[hg];exact(Yf z8_7):w.heap.size≤gb502));have GE502:=Za ((by rw[hg];exact(Yf z8_7):w.heap.size≤gb502));replace HB:=Za (Zk z8_7 hb);have NB497_502:=Za ((by rw[hg];exact Nat.ne_of_lt (blk_lt (g:=gb497) (o:= .cells #[.slice (some ad501) l0_0.length c0_0,.slice A0_1 l0_1.length c0_1] 33 (0,0)) z8_13):gb497≠gb502));have NB502_497:=Za ((by rw[hg];exact Nat.ne_of_gt (blk_lt (g:=gb497) (o:= .cells #[.slice (some ad501) l0_0.length c0_0,.slice A0_1 l0_1.length c0_1] 33 (0,0)) z8_13):gb502≠gb497));replace BK497:=Za (Zi (g:=gb497) (o:= .cells #[.slice (some ad501) l0_0.length c0_0,.slice A0_1 l0_1.length c0_1] 33 (0,0)) z8_13 hb);clear hb hbox hg;have hnb11:=NB502_497.out;have hnc11:=NB497_502.out;have hcz12_0:w10.cell? ⟨gb502,0,none⟩=some (.int .i64 0):=(Zb BK502.out 0).trans rfl;have hcz12_1:w10.cell? ⟨gb502,1,none⟩=some (.int .i64 0):=(Zb BK502.out 1).trans rfl;have hcz12_2:w10.cell? ⟨gb502,2,none⟩=some (.int .i64 0):=(Zb BK502.out 2).trans rfl;have hfz12_0:=Zc BK502.out 0;have hfz12_1:=Zc BK502.out 1;have hfz12_2:=Zc BK502.out 2))
       go_roundg k1
       case measure=>have:=HK1.out;omega
       case rel=>exact⟨(x3_1),(wrap64 (x10_1+1)),(by first|rfl|(simp;done)|(simp[*];done)),H',⟨by have:=HK1.out;omega⟩,⟨by(with_reducible repeat(first|apply Zm|apply Zl|apply Zj));exact Yc (Kd.R_far (p:=⟨gb502,2,none⟩) (Kd.R_far (p:=⟨gb502,1,none⟩) (Kd.R_far (p:=⟨gb502,0,none⟩) (Kd.R_types HO_3.out BK502.out z8_17) (fun _ hk=>hk.2) (.int .i64 ((rd_T64 l0_0 x10_1).f0))) (fun _ hk=>hk.2) (.int .i64 ((rd_T64 l0_0 x10_1).f1))) (fun _ hk=>hk.2) (.int .i64 ((rd_T64 l0_0 x10_1).f2))) (fun _ hk=>trivial)⟩,⟨by(with_reducible repeat(first|refine blk_drewN ?_ _|refine blk_drew ?_|refine blk_alloc ?_ _));refine blk_far ?_ NB497_502.out _;(with_reducible repeat(first|refine blk_drewN ?_ _|refine blk_drew ?_|refine blk_alloc ?_ _));refine blk_far ?_ NB497_502.out _;(with_reducible repeat(first|refine blk_drewN ?_ _|refine blk_drew ?_|refine blk_alloc ?_ _));refine blk_far ?_ NB497_502.out _;(with_reducible repeat(first|refine blk_drewN ?_ _|refine blk_drew ?_|refine blk_alloc ?_ _));exact BK497.out⟩,⟨by repeat(first|(with_reducible first|exact HB.out|apply Zh|apply Zf|apply Ze|refine Zd ?_ GE497.out|refine Zd ?_ GE502.out)|exact HB.out)⟩⟩
      ·rw[if_neg c9] at H
       have c9b0:(((rd_T64 l0_0 x10_1).f1)==(-1))=false:=beq_eq_false_iff_ne.mpr c9
       have c9b1:(((rd_T64 l0_0 x10_1).f1) != (-1))=true:=bne_iff_ne.mpr c9
       by_cases c13:x3_1.length<8796093022208
       ·rw[if_pos c13] at H
        have LMc13:=Za c13
        clear c13
        obtain⟨y503,hy503⟩:∃y_:List (S66),y_=(x3_1++[(⟨(rd_T64 l0_0 x10_1).f1,(rd_T64 l0_0 x10_1).f2⟩:S66)]):=⟨_,rfl⟩
        replace H:(impl_WritesOf.l0 k1 y503 l0_0 (l0_0.length:Int) (wrap64 (x10_1+1)))=some r:=by first|(rw[hy503];with_reducible exact H)|(have H2_:=(Yd _ _).symm.trans H;rw[hy503];with_reducible exact H2_)|(have H2_:=(Yd _ _).symm.trans H;with_reducible exact H2_)|with_reducible exact H|(rw[hy503];exact H)|exact H
        have Ny503:=Za hy503
        clear hy503
        have H':=Za H
        clear H
        have p501:0≤(x10_1:Int):=Zq (by first|(with_reducible assumption)|assumption)
        have q501:x10_1<(l0_0.length:Int):=Zq (by first|(with_reducible assumption)|assumption)
        obtain⟨ad501,e501,hx501_0,hx501_1,hx501_2⟩:=at_T64 HR0_0.out x10_1 p501 q501
        cases e501
        replace hx501_0:=(HB.out.cell (Yo w _ hx501_0)).trans hx501_0
        replace hx501_1:=(HB.out.cell (Yo w _ hx501_1)).trans hx501_1
        replace hx501_2:=(HB.out.cell (Yo w _ hx501_2)).trans hx501_2
        replace p501:=eq_true p501
        replace q501:=eq_true q501
        go_wp2_with (first|((with_reducible refine Zr (N:=5) rfl ?_);refine Zy ?hg (N:=5) ?hd (cs:= #[.int .i64 0,.int .i64 0,.int .i64 0]) (t:=64) ?hr ?_;(case hd=>rfl);(case hg=>rfl);(case hr=>exact z8_5);intro gb502 hg w14 hbox hb;replace HO_3:=Za (Kd.R_below (by(with_reducible repeat(first|apply Zm|apply Zl|apply Zj));exact HO_3.out) hb);have BK502:=Za (hbox);have GW502:=Za ((by rw[hg];exact(Yf z8_7):w.heap.size≤gb502));have GE502:=Za ((by rw[hg];exact(Yf z8_7):w.heap.size≤gb502));replace HB:=Za (Zk z8_7 hb);have NB497_502:=Za ((by rw[hg];exact Nat.ne_of_lt (blk_lt (g:=gb497) (o:= .cells #[.slice (some ad501) l0_0.length c0_0,.slice A0_1 l0_1.length c0_1] 33 (0,0)) z8_13):gb497≠gb502));have NB502_497:=Za ((by rw[hg];exact Nat.ne_of_gt (blk_lt (g:=gb497) (o:= .cells #[.slice (some ad501) l0_0.length c0_0,.slice A0_1 l0_1.length c0_1] 33 (0,0)) z8_13):gb502≠gb497));replace BK497:=Za (Zi (g:=gb497) (o:= .cells #[.slice (some ad501) l0_0.length c0_0,.slice A0_1 l0_1.length c0_1] 33 (0,0)) z8_13 hb);clear hb hbox hg;have hnb15:=NB502_497.out;have hnc15:=NB497_502.out;have hcz16_0:w14.cell? ⟨gb502,0,none⟩=some (.int .i64 0):=(Zb BK502.out 0).trans rfl;have hcz16_1:w14.cell? ⟨gb502,1,none⟩=some (.int .i64 0):=(Zb BK502.out 1).trans rfl;have hcz16_2:w14.cell? ⟨gb502,2,none⟩=some (.int .i64 0):=(Zb BK502.out 2).trans rfl;have hfz16_0:=Zc BK502.out 0;have hfz16_1:=Zc BK502.out 1;have hfz16_2:=Zc BK502.out 2)|((with_reducible refine gate_builtin (b:= .append) (xs:= #[.tmp 17,.tmp 23]) rfl ?_);at_builtin;refine Kd.R_append k66 (w0:=w) w.heap.size rfl (.tmp 17) (.tmp 23) 36 66 (.agg #[(.int .i64 0),(.int .i64 0)]) 16 rfl Tryz.underlying36 info66 rfl z8_17 (by omega) u3 x3_1 (⟨(rd_T64 l0_0 x10_1).f1,(rd_T64 l0_0 x10_1).f2⟩:S66) [.int .i64 ((rd_T64 l0_0 x10_1).f1),.int .i64 ((rd_T64 l0_0 x10_1).f2)] (fun _=>True) (fun _=>False) rfl z8_5 ?aP (fun _ hk=>hk.elim) ?aF ?aO ?aB ?aS ?aL ?_;(case aP=>exact k66_mkM _ _ _ (⟨(rd_T64 l0_0 x10_1).f1,(rd_T64 l0_0 x10_1).f2⟩:S66));(case aB=>exact(by repeat(first|(with_reducible first|exact HB.out|apply Zh|apply Zf|apply Ze|refine Zd ?_ GE497.out|refine Zd ?_ GE502.out)|exact HB.out)));(case aF=>exact(fun _ _=>trivial));(case aO=>exact(by(with_reducible repeat(first|apply Zm|apply Zl|apply Zj));exact Yc (Kd.R_far (p:=⟨gb502,2,none⟩) (Kd.R_far (p:=⟨gb502,1,none⟩) (Kd.R_far (p:=⟨gb502,0,none⟩) (Kd.R_types HO_3.out BK502.out z8_17) (fun _ hk=>hk.2) (.int .i64 ((rd_T64 l0_0 x10_1).f0))) (fun _ hk=>hk.2) (.int .i64 ((rd_T64 l0_0 x10_1).f1))) (fun _ hk=>hk.2) (.int .i64 ((rd_T64 l0_0 x10_1).f2))) (fun _ hk=>trivial)));(case aS=>exact(Yf (by repeat(first|(with_reducible first|exact HB.out|apply Zh|apply Zf|apply Ze|refine Zd ?_ GE497.out|refine Zd ?_ GE502.out)|exact HB.out))));(case aL=>have:=LMc13.out;omega);intro v504 w17 ho hb hg hat;rw[←Ny503.out] at ho;have n0_:=Za (blk_grown (g:=gb497) (o:= .cells #[.slice (some ad501) l0_0.length c0_0,.slice A0_1 l0_1.length c0_1] 33 (0,0)) (by(with_reducible repeat(first|refine blk_drewN ?_ _|refine blk_drew ?_|refine blk_alloc ?_ _));refine blk_far ?_ NB497_502.out _;(with_reducible repeat(first|refine blk_drewN ?_ _|refine blk_drew ?_|refine blk_alloc ?_ _));refine blk_far ?_ NB497_502.out _;(with_reducible repeat(first|refine blk_drewN ?_ _|refine blk_drew ?_|refine blk_alloc ?_ _));refine blk_far ?_ NB497_502.out _;(with_reducible repeat(first|refine blk_drewN ?_ _|refine blk_drew ?_|refine blk_alloc ?_ _));exact BK497.out) hg (Kd.R_ne HO_3.out BK497.out z8_17));have n1_:=Za (blk_grown (g:=gb502) (o:= .cells #[.int .i64 ((rd_T64 l0_0 x10_1).f0),.int .i64 ((rd_T64 l0_0 x10_1).f1),.int .i64 ((rd_T64 l0_0 x10_1).f2)] 64 (0,0)) (by(with_reducible repeat(first|refine blk_drewN ?_ _|refine blk_drew ?_|refine blk_alloc ?_ _));refine blk_put (cs:= #[.int .i64 ((rd_T64 l0_0 x10_1).f0),.int .i64 ((rd_T64 l0_0 x10_1).f1),.int .i64 0]) ?_ 2 _ rfl;(with_reducible repeat(first|refine blk_drewN ?_ _|refine blk_drew ?_|refine blk_alloc ?_ _));refine blk_put (cs:= #[.int .i64 ((rd_T64 l0_0 x10_1).f0),.int .i64 0,.int .i64 0]) ?_ 1 _ rfl;(with_reducible repeat(first|refine blk_drewN ?_ _|refine blk_drew ?_|refine blk_alloc ?_ _));refine blk_put (cs:= #[.int .i64 0,.int .i64 0,.int .i64 0]) ?_ 0 _ rfl;(with_reducible repeat(first|refine blk_drewN ?_ _|refine blk_drew ?_|refine blk_alloc ?_ _));exact BK502.out) hg (Kd.R_ne HO_3.out BK502.out z8_17));have n2_:=Za (hb);have n3_:=Za (ho);clear BK497;clear BK502;clear HB;clear HO_3;have BK497:=n0_;have BK502:=n1_;have HB:=n2_;have HO505:=n3_;clear n0_ n1_ n2_ n3_;clear ho hb hg hat))
        go_roundg k1
        case measure=>have:=HK1.out;omega
        case rel=>exact⟨(y503),(wrap64 (x10_1+1)),(by first|rfl|(simp;done)|(simp[*];done)),H',⟨by have:=HK1.out;omega⟩,⟨by(with_reducible repeat(first|apply Zm|apply Zl|apply Zj));exact HO505.out⟩,⟨by(with_reducible repeat(first|refine blk_drewN ?_ _|refine blk_drew ?_|refine blk_alloc ?_ _));exact BK497.out⟩,⟨by repeat(first|(with_reducible first|exact HB.out|apply Zh|apply Zf|apply Ze|refine Zd ?_ GE497.out|refine Zd ?_ GE502.out)|exact HB.out)⟩⟩
       ·rw[if_neg c13] at H
        exact absurd H (by simp)
     ·rw[if_neg c8] at H
      exact absurd H (by simp)
    ·rw[if_neg c7] at H
     exact absurd H (by simp)
   ·rw[if_neg c6] at H
    have c6b0:decide (x10_1<(l0_0.length:Int))=false:=Yg c6
    clear c6
    obtain rfl:=Zn H
    go_wp2
    go_ret
    exact⟨_,by first|rfl|(simp[errW_none,errW_some]<;>rfl)|(simp[*,errW_none,errW_some]<;>rfl)|(simp[*,errW_none,errW_some,i64_w];done),by(with_reducible repeat(first|apply Zm|apply Zl|apply Zj));exact HO_3.out,by repeat(first|(with_reducible first|exact HB.out|apply Zh|apply Zf|apply Ze|refine Zd ?_ GE497.out)|exact HB.out)⟩
def spec_DrawPlaces.l0:Nat→List Int→Int→List Int→Int→Int→Option (List Int)
 |0,_,_,_,_,_=>none
 |k+1,x4,x5,x510000,x510001,x510002=>if x5<12 then ((spec_l01Below.f x510000 x510001 x510002 10000).bind fun bt513=>(if x4.length<17592186044416 then (spec_DrawPlaces.l0 k (x4++[bt513.1]) (wrap64 (x5+1)) x510000 bt513.2.1 bt513.2.2) else (none))) else (some x4)
def spec_DrawPlaces.f (k:Nat) (l0:List Int):Option (List Int):=(spec_l01New.f k l0).bind fun bt506=>(spec_DrawPlaces.l0 k (([]:List Int)) 0 bt506.1 bt506.2.1 bt506.2.2)
theorem spec_DrawPlaces.mono_l:∀k,(∀y0 y1 y2 y3 y4,LeO (spec_DrawPlaces.l0 k y0 y1 y2 y3 y4) (spec_DrawPlaces.l0 (k+1) y0 y1 y2 y3 y4))
 |0=>fun _ _ _ _ _ r h=>by simp[spec_DrawPlaces.l0] at h
 |k+1=>by
  have ih0:=spec_DrawPlaces.mono_l k
  ·intro y0 y1 y2 y3 y4
   unfold spec_DrawPlaces.l0
   repeat' first
   |(with_reducible exact ih0 _ _ _ _ _)
   |(with_reducible exact spec_l01New.mono _ _)
   |(with_reducible exact Yj _)
   |(with_reducible exact Ya _)
   |(with_reducible refine Zz ?_ ?_)
   |(with_reducible refine Zx ?_ (fun _=> ?_))
   |exact ih0 _ _ _ _ _
   |exact spec_l01New.mono _ _
   |exact Ya _
   |refine Zz ?_ ?_
   |refine Zx ?_ (fun _=> ?_)
theorem spec_DrawPlaces.mono:∀a0 k,LeO (spec_DrawPlaces.f k a0) (spec_DrawPlaces.f (k+1) a0):=by
 intro a0 k
 have ih0:=spec_DrawPlaces.mono_l k
 unfold spec_DrawPlaces.f
 repeat' first
   |(with_reducible exact ih0 _ _ _ _ _)
   |(with_reducible exact spec_l01New.mono _ _)
   |(with_reducible exact Yj _)
   |(with_reducible exact Ya _)
   |(with_reducible refine Zz ?_ ?_)
   |(with_reducible refine Zx ?_ (fun _=> ?_))
   |exact ih0 _ _ _ _ _
   |exact spec_l01New.mono _ _
   |exact Ya _
   |refine Zz ?_ ?_
   |refine Zx ?_ (fun _=> ?_)
set_option maxHeartbeats 8000000 in
set_option maxRecDepth 100000 in
theorem spec_DrawPlaces.calls (k:Nat) (A0:Option Addr) (c0:Nat) (l0:List Int) (r:List Int) (w:World) (hr0:Kd.C (Kd.int .u8) w A0 l0.length l0) (hc0:l0.length≤c0) (h:spec_DrawPlaces.f k l0=some r):
  Calls Tryz.prog 12 #[.slice A0 l0.length c0] w fun e w'=>∃v0_:Value,e= .returned (v0_)∧Kd.R (Kd.int .i64) 3 w' w.heap.size (fun _=>True) v0_ r∧Below w.heap.size w w':=by
 have HR0:=Za hr0
 have HC0:=Za hc0
 clear hr0 hc0
 have HB:=Za (Yb w.heap.size w)
 have H:((spec_l01New.f k l0).bind fun bt506=>(spec_DrawPlaces.l0 k (([]:List Int)) 0 bt506.1 bt506.2.1 bt506.2.2))=some r:=h
 clear h
 replace H:=Zg H
 obtain⟨⟨t506,t507,t508⟩,A20,H⟩:=H
 replace H:(spec_DrawPlaces.l0 k (([]:List Int)) 0 t506 t507 t508)=some r:=H
 have A2:=Za A20
 clear A20
 obtain⟨y510,hy510⟩:∃y_:List Int,y_=(([]:List Int)):=⟨_,rfl⟩
 replace H:(spec_DrawPlaces.l0 k y510 0 t506 t507 t508)=some r:=by first|(rw[hy510];with_reducible exact H)|(have H2_:=(Yd _ _).symm.trans H;rw[hy510];with_reducible exact H2_)|(have H2_:=(Yd _ _).symm.trans H;with_reducible exact H2_)|with_reducible exact H|(rw[hy510];exact H)|exact H
 have Ny510:=Za hy510
 clear hy510
 have H':=Za H
 clear H
 go_enter Tryz.func12,Tryz.ntmps12
 go_wp2_with (first|((first|((with_reducible refine gate_callee (f:=31) rfl ?_);refine goesL_ (some 7) rfl rfl Tryz.func31 z8_18 rfl #[.slice A0 l0.length c0] rfl z8_10 ?_;(with_reducible refine(spec_l01New.calls k _ _ l0 t506 t507 t508 w _ ?side1 ?side2 ?side3 A2.out).mono ?_))|(go_at_call 31;(with_reducible refine(spec_l01New.calls k _ _ l0 t506 t507 t508 w _ ?side1 ?side2 ?side3 A2.out).mono ?_)));(case side1=>exact z8_3);(case side2=>exact HR0.out);(case side3=>exact HC0.out);rintro e w3 ⟨g509,rfl,hi,hb,hb2⟩;(first|refine⟨_,rfl,?_⟩|skip);replace HB:=Za (hb);have HI509:=Za (hi);(try clear hb);(try clear hb2);(try clear hk);(try clear hi))|((with_reducible refine Zr (N:=8) rfl ?_);refine Kd.R_lit (Kd.int .i64) _ 3 ?hg (N:=8) ?hd (xs:=([]:List Int)) (inner:=[]) (ok:=fun _=>True) (okp:=fun _=>True) ?hr ?hp (fun _ hk=>hk) trivial (Yb _ _) (Nat.le_refl _) (by simp) ?_;(case hd=>rfl);(case hg=>rfl);(case hr=>exact z8_5);(case hp=>exact(Reps.none _ _));intro v511 w4 ho5 hb hg_ hnew_;clear hg_ hnew_;(first|rw[←Ny510.out] at ho5|(simp only[Int.reduceToNat] at ho5;rw[←Ny510.out] at ho5));have HO512:=Za (Yr ho5 (Yf z8_12));replace HB:=Za (Zk z8_12 hb);replace HI509:=Za (IsS82.below z8_14 hb);clear hb ho5))
 go_loopg [4,5] k (fun kq v4 v5 w'=>∃(x4_1:List Int) (x5_1:Int) (x510001_1:Int) (x510002_1:Int),v5= .int .i64 x5_1∧Aside0 (spec_DrawPlaces.l0 kq x4_1 x5_1 t506 x510001_1 x510002_1=some r)∧Aside0 (kq≤k)∧Aside0 (Kd.R (Kd.int .i64) 3 w' w.heap.size (fun _=>True) v4 x4_1)∧Aside0 (IsS82 w w' g509 t506 x510001_1 x510002_1)∧Aside0 (Below w.heap.size w w'))
 case atStart=>exact⟨(y510),(0),(t507),(t508),(by first|rfl|(simp;done)|(simp[*];done)),H',⟨Nat.le_refl _⟩,⟨by(with_reducible repeat(first|apply Zm|apply Zl|apply Zj));exact HO512.out⟩,⟨by repeat(first|(with_reducible first|exact HI509.out|apply IsS82.alloc|apply IsS82.drewN|apply IsS82.drew|apply IsS82.set_1|apply IsS82.set_2)|exact HI509.out)⟩,⟨by repeat(first|(with_reducible first|exact HB.out|apply Zh|apply Zf|apply Ze|refine Zd ?_ (IsS82.ge HI509.out))|exact HB.out)⟩⟩
 case round=>
  clear H'
  obtain⟨x4_1,x5_1,x510001_1,x510002_1,rfl,HA,HK1,HO_4,HI509,HB⟩:=hrel
  cases gk with
  |zero=>exact absurd HA.out (by simp[spec_DrawPlaces.l0])
  |succ k1=>
   have H:=HA.out
   clear HA
   simp only[spec_DrawPlaces.l0] at H
   by_cases c6:x5_1<12
   ·rw[if_pos c6] at H
    have c6b0:decide (x5_1<12)=true:=Zo c6
    clear c6
    replace H:=Zg H
    obtain⟨⟨t513,t514,t515⟩,A70,H⟩:=H
    replace H:(if x4_1.length<17592186044416 then (spec_DrawPlaces.l0 k1 (x4_1++[t513]) (wrap64 (x5_1+1)) t506 t514 t515) else (none))=some r:=H
    have A7:=Za A70
    clear A70
    by_cases c8:x4_1.length<17592186044416
    ·rw[if_pos c8] at H
     have LMc8:=Za c8
     clear c8
     obtain⟨y516,hy516⟩:∃y_:List Int,y_=(x4_1++[t513]):=⟨_,rfl⟩
     replace H:(spec_DrawPlaces.l0 k1 y516 (wrap64 (x5_1+1)) t506 t514 t515)=some r:=by first|(rw[hy516];with_reducible exact H)|(have H2_:=(Yd _ _).symm.trans H;rw[hy516];with_reducible exact H2_)|(have H2_:=(Yd _ _).symm.trans H;with_reducible exact H2_)|with_reducible exact H|(rw[hy516];exact H)|exact H
     have Ny516:=Za hy516
     clear hy516
     have H':=Za H
     clear H
     go_wp2_with (first|((first|((with_reducible refine gate_callee (f:=38) rfl ?_);refine goesL_ (some 15) rfl rfl Tryz.func38 z8_18 rfl #[.pointer (some ⟨g509,0,none⟩),.int .i64 10000] rfl z8_10 ?_;(with_reducible refine(spec_l01Below.calls g509 t506 x510001_1 x510002_1 10000 t513 t514 t515 w _ ?side1 ?side2 A7.out).mono ?_))|(go_at_call 38;(with_reducible refine(spec_l01Below.calls g509 t506 x510001_1 x510002_1 10000 t513 t514 t515 w _ ?side1 ?side2 A7.out).mono ?_)));(case side1=>exact z8_14);(case side2=>exact z8_12);rintro e w9 ⟨rfl,hi,hb,hk⟩;(first|refine⟨_,rfl,?_⟩|skip);replace HO_4:=Za (Yc (Kd.R_keep (IsS82.apart (show IsS82 w _ g509 t506 x510001_1 x510002_1 from by repeat(first|(with_reducible first|exact HI509.out|apply IsS82.alloc|apply IsS82.drewN|apply IsS82.drew|apply IsS82.set_1|apply IsS82.set_2)|exact HI509.out)) (by(with_reducible repeat(first|apply Zm|apply Zl|apply Zj));exact HO_4.out) z8_17) hk (fun _ h=>h.2)) (fun _ h=>h.1));replace HB:=Za (hb);replace HI509:=Za (hi);(try clear hb);(try clear hb2);(try clear hk);(try clear hi))|((with_reducible refine gate_builtin (b:= .append) (xs:= #[.tmp 13,.tmp 16]) rfl ?_);at_builtin;refine Kd.R_append (Kd.int .i64) (w0:=w) w.heap.size rfl (.tmp 13) (.tmp 16) 27 3 (.int .i64 0) 8 rfl Tryz.underlying27 info3 rfl z8_17 (by omega) u4 x4_1 t513 [.int .i64 t513] (fun _=>True) (fun _=>False) rfl rfl ?aP (fun _ hk=>hk.elim) ?aF ?aO ?aB ?aS ?aL ?_;(case aP=>exact rfl);(case aB=>exact z8_12);(case aF=>exact(fun _ _=>trivial));(case aO=>exact(by(with_reducible repeat(first|apply Zm|apply Zl|apply Zj));exact HO_4.out));(case aS=>exact(Yf z8_12));(case aL=>have:=LMc8.out;omega);intro v517 w10 ho hb hg hat;rw[←Ny516.out] at ho;have n0_:=Za (IsS82.grown z8_14 hg (IsS82.own_ne HI509.out HO_4.out z8_17));have n1_:=Za (hb);have n2_:=Za (ho);clear HI509;clear HB;clear HO_4;have HI509:=n0_;have HB:=n1_;have HO518:=n2_;clear n0_ n1_ n2_;clear ho hb hg hat))
     go_roundg k1
     case measure=>have:=HK1.out;omega
     case rel=>exact⟨(y516),(wrap64 (x5_1+1)),(t514),(t515),(by first|rfl|(simp;done)|(simp[*];done)),H',⟨by have:=HK1.out;omega⟩,⟨by(with_reducible repeat(first|apply Zm|apply Zl|apply Zj));exact HO518.out⟩,⟨by repeat(first|(with_reducible first|exact HI509.out|apply IsS82.alloc|apply IsS82.drewN|apply IsS82.drew|apply IsS82.set_1|apply IsS82.set_2)|exact HI509.out)⟩,⟨by repeat(first|(with_reducible first|exact HB.out|apply Zh|apply Zf|apply Ze|refine Zd ?_ (IsS82.ge HI509.out))|exact HB.out)⟩⟩
    ·rw[if_neg c8] at H
     exact absurd H (by simp)
   ·rw[if_neg c6] at H
    have c6b0:decide (x5_1<12)=false:=Yg c6
    clear c6
    obtain rfl:=Zn H
    go_wp2
    go_ret
    exact⟨_,by first|rfl|(simp[errW_none,errW_some]<;>rfl)|(simp[*,errW_none,errW_some]<;>rfl)|(simp[*,errW_none,errW_some,i64_w];done),by(with_reducible repeat(first|apply Zm|apply Zl|apply Zj));exact HO_4.out,by repeat(first|(with_reducible first|exact HB.out|apply Zh|apply Zf|apply Ze|refine Zd ?_ (IsS82.ge HI509.out))|exact HB.out)⟩
end Go.Proofs.YtjgfldbogjipiaaGreat.G
