/- Functions of the program as plain Lean functions, and that each call comes to its function's answer; written by a program of the session. No condition. -/
import Derived.Test.YtdkbkkpbdmlmbaaGreatGx0
import Derived.Test.YtdkbkkpbdmlmbaaGreatGx3
import Derived.Test.YtdkbkkpbdmlmbaaGreatGx5
import Derived.Test.YtdkbkkpbdmlmbaaGreatGx6
import Derived.Test.YtdkbkkpbdmlmbaaGreatGx7
namespace Go.Proofs.YtdkbkkpbdmlmbaaGreat.G
open Go.RowKit Go.Proofs.YtdkbkkpbdmlmbaaGreatW.PrintWords Go.Proofs.YtdkbkkpbdmlmbaaGreatW.PrintLast Go.Proofs.YtdkbkkpbdmlmbaaGreatW.PrintMore
attribute [local go_sem] max2_int min2_int max_two min_two max_three min_three max_four min_four   -- for this text's walks alone
set_option linter.unusedVariables false
set_option linter.unusedSimpArgs false
theorem z8_0 {P:Prop} (h:P:=by repeat(first|exact Zx _ _|apply Zf|apply Ze)):P:=h
theorem z8_1 {P:Prop} (h:P:=by repeat(first|(with_reducible first|exact HB.out|apply Zh|apply Zf|apply Ze)|exact HB.out)):P:=h
theorem z8_2 {P:Prop} (h:P:=by first|(go_simp;done)|(go_simp;rfl)):P:=h
theorem z8_3 {P:Prop} (h:P:=by(try simp only[Ys,List.map_cons,List.map_nil]);first|done|rfl|(simp only[List.length_drop,List.length_take];rfl)):P:=h
theorem z8_4 {P:Prop} (h:P:=by first|(with_reducible assumption)|assumption):P:=h
theorem z8_5 {P:Prop} (h:P:=by((try simp only[List.length_append,List.length_singleton]);have:=HL.out;omega)):P:=h
/-! ### impl_traceOf: function 28 -/
-- leans on 50
structure Tr where
 st:List S84
 us:List Int
 sn:Int
 lg:List Int
 fr:Nat→Bool
 vs:List Int
def trRow {α:Type} (d:Kd α) (e B:Nat) (w:World) (v:Value) (xs:List α):Prop:=d.R e w B (fun k=>v.ownBlock=some k) v xs
section
variable {α:Type} {d:Kd α} {e B:Nat} {w w1:World} {v:Value} {xs:List α}
theorem trRow.keep (h:trRow d e B w v xs) (hm:∀k,v.ownBlock=some k→w1.heap[k]? =w.heap[k]?):trRow d e B w1 v xs:=Kd.R_step h (fun k hk _=>hm k hk)
theorem trRow.ne {g t:Nat} {cs:Array Value} (h:trRow d e B w v xs) (hg:w.heap[g]? =some (.cells cs t (0,0))) (hne:e≠t):∀k,v.ownBlock=some k→k≠g:=by
 intro k hk he
 subst he
 obtain⟨c,hc⟩:=Kd.R_typed h _ hk
 rw[hc] at hg
 injection hg with hg
 injection hg with _ hg _
 exact hne hg
theorem trRow.far {β:Type} {d2:Kd β} {e2:Nat} {v2:Value} {ys:List β} (h:trRow d e B w v xs) (h2:trRow d2 e2 B w v2 ys) (hne:e≠e2):∀k,v.ownBlock=some k→v2.ownBlock≠some k:=by
 intro k hk hk2
 obtain⟨c,hc⟩:=Kd.R_typed h2 _ hk2
 exact h.ne hc hne k hk rfl
end
theorem trRow.of_int {e B:Nat} {w:World} {v:Value} {xs:List Int} {ok:Nat→Prop} (h:(Kd.int .i64).R e w B ok v xs):trRow (Kd.int .i64) e B w v xs:=Kd.R_of_own (Kd.own_of_R h) (fun _ hk=>hk)
theorem trRow.int {e B:Nat} {w:World} {v:Value} {xs:List Int} (h:trRow (Kd.int .i64) e B w v xs) {ok:Nat→Prop} (hok:∀k,v.ownBlock=some k→ok k):(Kd.int .i64).R e w B ok v xs:=Kd.R_of_own (Kd.own_of_R h) hok
theorem trRow.of_mic {e B:Nat} {w:World} {v:Value} {xs:List S84} {ok:Nat→Prop} (h:k84.R e w B ok v xs):trRow k84 e B w v xs:=Kd.R_flat (fun h=>h) h (fun _ hk _=>hk)
theorem trRow.mic {e B:Nat} {w:World} {v:Value} {xs:List S84} (h:trRow k84 e B w v xs) {ok:Nat→Prop} (hok:∀k,v.ownBlock=some k→ok k):k84.R e w B ok v xs:=Kd.R_flat (fun h=>h) h (fun k hk _=>hok k hk)
abbrev trC (v0 v1 v2 v3:Value) (task tail:Int) (s:Tr):Array Value:= #[v0,v1,.int .i64 task,.int .i64 tail,.int .i64 s.sn,v2,.bool (s.fr 0),.bool (s.fr 1),.bool (s.fr 2),.bool (s.fr 3),.bool (s.fr 4),.bool (s.fr 5),.bool (s.fr 6),.bool (s.fr 7),v3]
def trP (B g:Nat) (task tail:Int) (v3:Value) (s:Tr):Sep.Asn:=fun F w=>∃v0 v1 v2:Value,w.heap[g]? =some (.cells (trC v0 v1 v2 v3 task tail s) 88 (0,0))∧
 (trRow k84 84 B w v0 s.st∧trRow (Kd.int .i64) 3 B w v1 s.us∧trRow (Kd.int .i64) 3 B w v2 s.lg∧trRow (Kd.int .i64) 3 B w v3 s.vs)∧
 ((∀k,v1.ownBlock=some k→v2.ownBlock≠some k∧v3.ownBlock≠some k)∧(∀k,v2.ownBlock=some k→v3.ownBlock≠some k)∧B≤g)∧
 ∀k,F k↔k=g∨v0.ownBlock=some k∨v1.ownBlock=some k∨v2.ownBlock=some k∨v3.ownBlock=some k
theorem trP_loc (B g:Nat) (task tail:Int) (v3:Value) (s:Tr):Sep.Loc B (trP B g task tail v3 s) where
 lt:=by
  rintro F w ⟨v0,v1,v2,hb,⟨h0,h1,h2,h3⟩,D,hF⟩ k hk
  rcases (hF k).1 hk with rfl|h|h|h|h
  ·exact⟨D.2.2,blk_lt hb⟩
  ·exact⟨Yo h0 k h,Kd.R_lt h0 k h⟩
  ·exact⟨Yo h1 k h,Kd.R_lt h1 k h⟩
  ·exact⟨Yo h2 k h,Kd.R_lt h2 k h⟩
  ·exact⟨Yo h3 k h,Kd.R_lt h3 k h⟩
 keep:=by
  rintro F w w' ⟨v0,v1,v2,hb,⟨h0,h1,h2,h3⟩,D,hF⟩ hB hs hk
  exact⟨v0,v1,v2,(hk g (.inr ((hF g).2 (by simp)))).trans hb,⟨h0.keep (fun k h=>hk k (.inr ((hF k).2 (by simp[h])))),h1.keep (fun k h=>hk k (.inr ((hF k).2 (by simp[h])))),h2.keep (fun k h=>hk k (.inr ((hF k).2 (by simp[h])))),h3.keep (fun k h=>hk k (.inr ((hF k).2 (by simp[h]))))⟩,D,hF⟩
theorem trP_next {B g:Nat} {task tail:Int} {s s':Tr} {F:Nat→Prop} {w wf:World} {v0 v1 v2 v3 v0' v1' v2' v3':Value}
  (hb:w.heap[g]? =some (.cells (trC v0 v1 v2 v3 task tail s) 88 (0,0))) (hBg:B≤g)
  (hF:∀k,F k↔k=g∨v0.ownBlock=some k∨v1.ownBlock=some k∨v2.ownBlock=some k∨v3.ownBlock=some k)
  (hio:wf.os=w.os∧wf.tape=w.tape∧wf.output=w.output) (hs:w.heap.size≤wf.heap.size)
  (HF:∀k,k<w.heap.size→k≠g→v0.ownBlock≠some k→v1.ownBlock≠some k→v2.ownBlock≠some k→v3.ownBlock≠some k→wf.heap[k]? =w.heap[k]?)
  (bo:wf.heap[g]? =some (.cells (trC v0' v1' v2' v3' task tail s') 88 (0,0)))
  (r0:trRow k84 84 B wf v0' s'.st) (r1:trRow (Kd.int .i64) 3 B wf v1' s'.us) (r2:trRow (Kd.int .i64) 3 B wf v2' s'.lg) (r3:trRow (Kd.int .i64) 3 B wf v3' s'.vs)
  (o0:∀k,v0'.ownBlock=some k→v0.ownBlock=some k∨w.heap.size≤k) (o1:∀k,v1'.ownBlock=some k→v1.ownBlock=some k∨w.heap.size≤k) (o2:∀k,v2'.ownBlock=some k→v2.ownBlock=some k∨w.heap.size≤k) (o3:∀k,v3'.ownBlock=some k→v3.ownBlock=some k∨w.heap.size≤k)
  (D:(∀k,v1'.ownBlock=some k→v2'.ownBlock≠some k∧v3'.ownBlock≠some k)∧(∀k,v2'.ownBlock=some k→v3'.ownBlock≠some k)):
  ∃F',trP B g task tail v3' s' F' wf∧Sep.After F w F' wf:=by
 refine⟨fun k=>k=g∨v0'.ownBlock=some k∨v1'.ownBlock=some k∨v2'.ownBlock=some k∨v3'.ownBlock=some k,⟨v0',v1',v2',bo,⟨r0,r1,r2,r3⟩,⟨D.1,D.2,hBg⟩,fun k=>Iff.rfl⟩,⟨⟨hs,fun k hk hn=> ?_⟩,fun k hk=> ?_,hio⟩⟩
 ·rw[hF] at hn
  simp only[not_or] at hn
  exact HF k hk hn.1 hn.2.1 hn.2.2.1 hn.2.2.2.1 hn.2.2.2.2
 ·rw[hF]
  rcases hk with h|h|h|h|h
  ·exact .inl (.inl h)
  ·exact(o0 k h).imp (fun h=> .inr (.inl h)) id
  ·exact(o1 k h).imp (fun h=> .inr (.inr (.inl h))) id
  ·exact(o2 k h).imp (fun h=> .inr (.inr (.inr (.inl h)))) id
  ·exact(o3 k h).imp (fun h=> .inr (.inr (.inr (.inr h)))) id
theorem trB {w:World} {g:Nat} {v0 v1 v2 v3:Value} {task tail:Int} {s:Tr} (h:w.heap[g]? =some (.cells (trC v0 v1 v2 v3 task tail s) 88 (0,0))):
  w.cell? ⟨g,0,none⟩=some v0∧w.cell? ⟨g,1,none⟩=some v1∧w.cell? ⟨g,2,none⟩=some (.int .i64 task)∧w.cell? ⟨g,3,none⟩=some (.int .i64 tail)∧w.cell? ⟨g,4,none⟩=some (.int .i64 s.sn)∧w.cell? ⟨g,5,none⟩=some v2∧w.cell? ⟨g,14,none⟩=some v3:=
 ⟨(Zb h 0).trans rfl,(Zb h 1).trans rfl,(Zb h 2).trans rfl,(Zb h 3).trans rfl,(Zb h 4).trans rfl,(Zb h 5).trans rfl,(Zb h 14).trans rfl⟩
abbrev Tr.write (s:Tr) (c at_ v:Int):Tr:={s with st:=s.st++[⟨c,at_,v⟩]}
theorem trP_st {B g:Nat} {task tail:Int} {s:Tr} {F:Nat→Prop} {w w9:World} {v0 v1 v2 v3 v9:Value} {c at_ v:Int}
  (hb:w.heap[g]? =some (.cells (trC v0 v1 v2 v3 task tail s) 88 (0,0)))
  (h0:trRow k84 84 B w v0 s.st) (h1:trRow (Kd.int .i64) 3 B w v1 s.us) (h2:trRow (Kd.int .i64) 3 B w v2 s.lg) (h3:trRow (Kd.int .i64) 3 B w v3 s.vs)
  (D:(∀k,v1.ownBlock=some k→v2.ownBlock≠some k∧v3.ownBlock≠some k)∧(∀k,v2.ownBlock=some k→v3.ownBlock≠some k)∧B≤g)
  (hF:∀k,F k↔k=g∨v0.ownBlock=some k∨v1.ownBlock=some k∨v2.ownBlock=some k∨v3.ownBlock=some k)
  (ho:k84.R 84 w9 B (fun _=>True) v9 (s.st++[⟨c,at_,v⟩])) (hg:w.grownBy w9 v0.ownBlock) (hat:v9.ownBlock=v0.ownBlock∨∃b,v9.ownBlock=some b∧w.heap.size≤b):
  ∃F',trP B g task tail v3 (s.write c at_ v) F' (w9.setCell ⟨g,0,none⟩ v9)∧Sep.After F w F' (w9.setCell ⟨g,0,none⟩ v9):=by
 have b9:=blk_grown hb hg (fun h=>h0.ne hb (by decide) g h.symm rfl)
 have far:∀k,k≠g→(w9.setCell ⟨g,0,none⟩ v9).heap[k]? =w9.heap[k]? :=fun k hk=>Below.heap_setCell w9 ⟨g,0,none⟩ v9 k hk
 have r9:=trRow.of_mic ho
 have row:∀ {v':Value} {xs:List Int},trRow (Kd.int .i64) 3 B w v' xs→trRow (Kd.int .i64) 3 B (w9.setCell ⟨g,0,none⟩ v9) v' xs:=fun hr=>hr.keep (fun k hk=>(far k (hr.ne hb (by decide) k hk)).trans (hg.block k (Kd.R_lt hr k hk) (fun h=>h0.far hr (by decide) k h.symm hk)))
 refine trP_next (v0':=v9) hb D.2.2 hF ⟨hg.os,hg.tape,hg.output⟩ (by rw[show(w9.setCell ⟨g,0,none⟩ v9).heap.size=w9.heap.size by simp[World.setCell]];exact hg.size) (fun k hk hkg n0 _ _ _=>(far k hkg).trans (hg.block k hk (fun h=>n0 h.symm))) (blk_put (cs:=trC v0 v1 v2 v3 task tail s) b9 0 v9 rfl)
  (r9.keep (fun k hk=>far k (r9.ne b9 (by decide) k hk))) (row h1) (row h2) (row h3) (fun k hk=> ?_) (fun k hk=> .inl hk) (fun k hk=> .inl hk) (fun k hk=> .inl hk) ⟨D.1,D.2.1⟩
 rcases hat with hat|⟨b,hb9,hle⟩
 ·exact .inl (hat ▸ hk)
 ·rw[hb9] at hk
  injection hk with hk
  exact .inr (by omega)
set_option maxHeartbeats 8000000 in
set_option maxRecDepth 100000 in
theorem tr_write (B g:Nat) (task tail:Int) (v3:Value) (s:Tr) (at_ v:Int) (hl:s.st.length<5000000000000) (F:Nat→Prop) (w:World) (hB:B≤w.heap.size) (hI:trP B g task tail v3 s F w):
  Calls Tryz.prog 58 #[.pointer (some ⟨g,0,none⟩),.int .i64 at_,.int .i64 v] w fun e w'=>e= .returned (.tuple #[])∧∃F',trP B g task tail v3 (s.write 3 at_ v) F' w'∧Sep.After F w F' w'∧w'.cell? ⟨g,5,none⟩=w.cell? ⟨g,5,none⟩:=by
 obtain⟨v0,v1,v2,hb,⟨h0,h1,h2,h3⟩,D,hF⟩:=hI
 obtain⟨A0,c0,rfl⟩:=Ym h0
 have HB:=Za hb
 have R0:=Za h0
 have R1:=Za h1
 have R2:=Za h2
 have R3:=Za h3
 have DD:=Za D
 have HF:=Za hF
 have HL:=Za hl
 have BW:=Za hB
 clear hb h0 h1 h2 h3 D hF hl hB
 obtain⟨_,_,_,_,_,_,_⟩:=trB HB.out
 have hf0:=Zc HB.out 0
 go_enter Tryz.func58,Tryz.ntmps58
 go_wp2_with (first
  |((with_reducible refine gate_builtin (b:= .append) (xs:= #[.tmp 11,.tmp 15]) rfl ?_);at_builtin;refine Kd.R_append (w0:=w) k84 B rfl (.tmp 11) (.tmp 15) 57 84 (.agg #[.int .i64 0,.int .i64 0,.int .i64 0]) 24 rfl Tryz.underlying57 info84 rfl (by decide) (by omega) (.slice A0 s.st.length c0) s.st ⟨3,at_,v⟩ [.int .i64 3,.int .i64 at_,.int .i64 v] (fun _=>True) (fun _=>False) rfl rfl (k84_mkM _ _ _ _) (fun _ hk=>hk.elim) (fun _ _=>trivial) (R0.out.mic (fun _ _=>trivial)) (Zx _ _) BW.out (by have:=HL.out;omega) ?_;intro v9 w9 ho hb hg hat;obtain⟨A9,c9,e9⟩:=Ym ho;rw[List.length_append,List.length_singleton] at e9;subst e9;have HO:=Za ho;have HG:Aside0 (w.grownBy w9 (Value.slice A0 s.st.length c0).ownBlock):=⟨⟨hg.os,hg.tape,hg.output,hg.size,hg.block⟩⟩;have AT:=Za hat;have B9:=Za (blk_grown (w:=w) HB.out HG.out (fun h=>R0.out.ne HB.out (by decide) g h.symm rfl));clear ho hb hg hat;obtain⟨_,_,_,_,_,_,_⟩:=trB B9.out;have hf9:=Zc B9.out 0)
  |((with_reducible refine Ye (t:=57) (p:=19) rfl ?_);refine Yd (t:=57) (p:=19) (v:= ?vo1_) (w1:=w9.setCell ⟨g,0,none⟩ (.slice A9 (s.st.length+1) c9)) ?hg ?ho ?hn ?hr ?_;(case ho=>rfl);(case hg=>rfl);(case hn=>rfl);(case hr=>exact z8_2);intro w10 hw;have E10:=trP_st HB.out R0.out R1.out R2.out R3.out DD.out HF.out HO.out HG.out AT.out;have C5:Aside0 (w10.cell? ⟨g,5,none⟩=w.cell? ⟨g,5,none⟩):=⟨by rw[hw];exact((Zb (blk_put (cs:=trC _ _ _ _ task tail s) B9.out 0 _ rfl) 5).trans rfl).trans ((Zb HB.out 5).trans rfl).symm⟩;rw[←hw] at E10;have EE:=Za E10;clear E10 hw)
  |fail)
 go_end0
 obtain⟨F2,e1,e2⟩:=EE.out
 exact⟨rfl,F2,e1,e2,C5.out⟩
set_option maxHeartbeats 8000000 in
set_option maxRecDepth 100000 in
theorem tr_work (B g:Nat) (task tail:Int) (v3:Value) (s:Tr) (c:Int) (hl:s.st.length<5000000000000) (F:Nat→Prop) (w:World) (hB:B≤w.heap.size) (hI:trP B g task tail v3 s F w):
  Calls Tryz.prog 52 #[.pointer (some ⟨g,0,none⟩),.int .i64 c] w fun e w'=>e= .returned (.tuple #[])∧∃F',trP B g task tail v3 (s.write c (-1) 0) F' w'∧Sep.After F w F' w':=by
 obtain⟨v0,v1,v2,hb,⟨h0,h1,h2,h3⟩,D,hF⟩:=hI
 obtain⟨A0,c0,rfl⟩:=Ym h0
 have HB:=Za hb
 have R0:=Za h0
 have R1:=Za h1
 have R2:=Za h2
 have R3:=Za h3
 have DD:=Za D
 have HF:=Za hF
 have HL:=Za hl
 have BW:=Za hB
 clear hb h0 h1 h2 h3 D hF hl hB
 obtain⟨_,_,_,_,_,_,_⟩:=trB HB.out
 have hf0:=Zc HB.out 0
 go_enter Tryz.func52,Tryz.ntmps52
 go_wp2_with (first
  |((with_reducible refine gate_builtin (b:= .append) (xs:= #[.tmp 9,.tmp 12]) rfl ?_);at_builtin;refine Kd.R_append (w0:=w) k84 B rfl (.tmp 9) (.tmp 12) 57 84 (.agg #[.int .i64 0,.int .i64 0,.int .i64 0]) 24 rfl Tryz.underlying57 info84 rfl (by decide) (by omega) (.slice A0 s.st.length c0) s.st ⟨c,-1,0⟩ [.int .i64 c,.int .i64 (-1),.int .i64 0] (fun _=>True) (fun _=>False) rfl rfl (k84_mkM _ _ _ _) (fun _ hk=>hk.elim) (fun _ _=>trivial) (R0.out.mic (fun _ _=>trivial)) (Zx _ _) BW.out (by have:=HL.out;omega) ?_;intro v9 w9 ho hb hg hat;obtain⟨A9,c9,e9⟩:=Ym ho;rw[List.length_append,List.length_singleton] at e9;subst e9;have HO:=Za ho;have HG:Aside0 (w.grownBy w9 (Value.slice A0 s.st.length c0).ownBlock):=⟨⟨hg.os,hg.tape,hg.output,hg.size,hg.block⟩⟩;have AT:=Za hat;have B9:=Za (blk_grown (w:=w) HB.out HG.out (fun h=>R0.out.ne HB.out (by decide) g h.symm rfl));clear ho hb hg hat;obtain⟨_,_,_,_,_,_,_⟩:=trB B9.out;have hf9:=Zc B9.out 0)
  |((with_reducible refine Ye (t:=57) (p:=16) rfl ?_);refine Yd (t:=57) (p:=16) (v:= ?vo1_) (w1:=w9.setCell ⟨g,0,none⟩ (.slice A9 (s.st.length+1) c9)) ?hg ?ho ?hn ?hr ?_;(case ho=>rfl);(case hg=>rfl);(case hn=>rfl);(case hr=>exact z8_2);intro w10 hw;have E10:=trP_st HB.out R0.out R1.out R2.out R3.out DD.out HF.out HO.out HG.out AT.out;rw[←hw] at E10;have EE:=Za E10;clear E10 hw)
  |fail)
 go_end0
 exact⟨rfl,EE.out⟩
theorem trP_cell {B g:Nat} {task tail:Int} {s s':Tr} {F:Nat→Prop} {w:World} {v0 v1 v2 v3 u:Value} {i:Nat}
  (hb:w.heap[g]? =some (.cells (trC v0 v1 v2 v3 task tail s) 88 (0,0)))
  (h0:trRow k84 84 B w v0 s.st) (h1:trRow (Kd.int .i64) 3 B w v1 s.us) (h2:trRow (Kd.int .i64) 3 B w v2 s.lg) (h3:trRow (Kd.int .i64) 3 B w v3 s.vs)
  (D:(∀k,v1.ownBlock=some k→v2.ownBlock≠some k∧v3.ownBlock≠some k)∧(∀k,v2.ownBlock=some k→v3.ownBlock≠some k)∧B≤g)
  (hF:∀k,F k↔k=g∨v0.ownBlock=some k∨v1.ownBlock=some k∨v2.ownBlock=some k∨v3.ownBlock=some k)
  (e:(trC v0 v1 v2 v3 task tail s).setIfInBounds i u=trC v0 v1 v2 v3 task tail s') (e0:s'.st=s.st) (e1:s'.us=s.us) (e2:s'.lg=s.lg) (e3:s'.vs=s.vs):
  ∃F',trP B g task tail v3 s' F' (w.setCell ⟨g,i,none⟩ u)∧Sep.After F w F' (w.setCell ⟨g,i,none⟩ u):=by
 have far:∀k,k≠g→(w.setCell ⟨g,i,none⟩ u).heap[k]? =w.heap[k]? :=fun k hk=>Below.heap_setCell w ⟨g,i,none⟩ u k hk
 have row:∀ {α:Type} {d:Kd α} {e:Nat} {v':Value} {xs xs':List α},xs'=xs→e≠88→trRow d e B w v' xs→trRow d e B (w.setCell ⟨g,i,none⟩ u) v' xs':=fun hx hne hr=>by
  subst hx
  exact hr.keep (fun k hk=>far k (hr.ne hb hne k hk))
 exact trP_next hb D.2.2 hF ⟨rfl,rfl,rfl⟩ (by simp[World.setCell]) (fun k hk hkg _ _ _ _=>far k hkg) (blk_put hb i u e) (row e0 (by decide) h0) (row e1 (by decide) h1) (row e2 (by decide) h2) (row e3 (by decide) h3) (fun k hk=> .inl hk) (fun k hk=> .inl hk) (fun k hk=> .inl hk) (fun k hk=> .inl hk) ⟨D.1,D.2.1⟩
def Tr.sendB (tail:Int) (s:Tr) (v:Int):Tr:={(if wrap64 (tail+s.sn)<24 then s.write 3 (wrap64 (25+wrap64 (tail+s.sn))) v else s) with sn:=wrap64 (s.sn+1)}
set_option maxHeartbeats 8000000 in
set_option maxRecDepth 100000 in
theorem tr_send (B g:Nat) (task tail:Int) (v3:Value) (s:Tr) (v:Int) (hl:s.st.length<5000000000000) (F:Nat→Prop) (w:World) (hB:B≤w.heap.size) (hI:trP B g task tail v3 s F w):
  Calls Tryz.prog 57 #[.pointer (some ⟨g,0,none⟩),.int .i64 v] w fun e w'=>e= .returned (.tuple #[])∧∃F',trP B g task tail v3 (s.sendB tail v) F' w'∧Sep.After F w F' w':=by
 have BW:=Za hB
 have HI:=Za hI
 have HL:=Za hl
 obtain⟨v0,v1,v2,hb,-,-,-⟩:=hI
 have HB:=Za hb
 clear hb hl hB
 obtain⟨_,_,_,_,_,_,_⟩:=trB HB.out
 unfold Tr.sendB
 by_cases c:wrap64 (tail+s.sn)<24
 ·rw[if_pos c]
  have ct:=eq_true c
  have cn:(24≤wrap64 (tail+s.sn))=False:=eq_false (by omega)
  clear c
  go_enter Tryz.func57,Tryz.ntmps57
  go_wp2
  go_region_held3 (fun w'=>w'.cell? ⟨g,3,none⟩=some (.int .i64 tail)∧w'.cell? ⟨g,4,none⟩=some (.int .i64 s.sn)) (go_keep) (fail)
  go_wp2_with (first
   |(exact False.elim (cn.mp ‹24≤wrap64 (tail+s.sn)›))
   |(go_at_call 58;(with_reducible refine(tr_write B g task tail v3 s _ v HL.out F _ ?q1_ ?q2_).mono ?_);(case q1_=>exact BW.out);(case q2_=>exact(trP_loc B g task tail v3 s).below BW.out HI.out z8_0);rintro e w1 ⟨rfl,F1,hI1,hA1,-⟩;have HI1:=Za hI1;have HA1:=Za ((Sep.After.of_below (F:=F) (z8_0:Below w.heap.size w _)).trans hA1);clear hI1 hA1;obtain⟨u0,u1,u2,hb1,hr1,hD1,hF1⟩:=HI1.out;have HB1:=Za hb1;have HR1:=Za hr1;have HD1:=Za hD1;have HF1:=Za hF1;clear hb1 hr1 hD1 hF1;obtain⟨_,_,_,_,_,_,_⟩:=trB HB1.out;have hf4:=Zc HB1.out 4)
   |((with_reducible refine Ye (t:=3) (p:=27) rfl ?_);refine Yd (t:=3) (p:=27) (v:= ?vo1_) (w1:=w1.setCell ⟨g,4,none⟩ (.int .i64 (wrap64 (s.sn+1)))) ?hg ?ho ?hn ?hr ?_;(case ho=>rfl);(case hg=>rfl);(case hn=>rfl);(case hr=>exact z8_2);intro w2 hw;have E2:=trP_cell (i:=4) (u:= .int .i64 (wrap64 (s.sn+1))) (s':={s.write 3 (wrap64 (25+wrap64 (tail+s.sn))) v with sn:=wrap64 (s.sn+1)}) HB1.out HR1.out.1 HR1.out.2.1 HR1.out.2.2.1 HR1.out.2.2.2 HD1.out HF1.out rfl rfl rfl rfl rfl;rw[←hw] at E2;have EE:=Za E2;clear E2 hw)
   |fail)
  go_end0
  obtain⟨F2,e1,e2⟩:=EE.out
  exact⟨rfl,F2,e1,HA1.out.trans e2⟩
 ·rw[if_neg c]
  have ct:=eq_false c
  have cn:(24≤wrap64 (tail+s.sn))=True:=eq_true (by omega)
  clear c
  have hbd:Below w.heap.size w w.drew:=by repeat(first|exact Zx _ _|apply Zf|apply Ze)
  obtain⟨u0,u1,u2,hb1,hr1,hD1,hF1⟩:=(trP_loc B g task tail v3 s).below BW.out HI.out hbd
  have HBD:=Za hbd
  have HB1:=Za hb1
  have HR1:=Za hr1
  have HD1:=Za hD1
  have HF1:=Za hF1
  clear hb1 hr1 hD1 hF1 hbd
  have hf4:=Zc HB.out 4
  go_enter Tryz.func57,Tryz.ntmps57
  go_wp2
  go_region_held3 (fun w'=>w'.cell? ⟨g,3,none⟩=some (.int .i64 tail)∧w'.cell? ⟨g,4,none⟩=some (.int .i64 s.sn)) (go_keep) (fail)
  go_wp2_with (first
   |(exact False.elim (ct.mp ‹wrap64 (tail+s.sn)<24›))
   |((with_reducible refine Ye (t:=3) (p:=27) rfl ?_);refine Yd (t:=3) (p:=27) (v:= ?vo1_) (w1:=w.drew.setCell ⟨g,4,none⟩ (.int .i64 (wrap64 (s.sn+1)))) ?hg ?ho ?hn ?hr ?_;(case ho=>rfl);(case hg=>rfl);(case hn=>rfl);(case hr=>exact z8_2);intro w2 hw;have E2:=trP_cell (i:=4) (u:= .int .i64 (wrap64 (s.sn+1))) (s':={s with sn:=wrap64 (s.sn+1)}) HB1.out HR1.out.1 HR1.out.2.1 HR1.out.2.2.1 HR1.out.2.2.2 HD1.out HF1.out rfl rfl rfl rfl rfl;rw[←hw] at E2;have EE:=Za E2;clear E2 hw)
   |fail)
  go_end0
  obtain⟨F2,e1,e2⟩:=EE.out
  exact⟨rfl,F2,e1,(Sep.After.of_below HBD.out F).trans e2⟩
theorem trP_lg {B g:Nat} {task tail:Int} {s:Tr} {F:Nat→Prop} {w w9:World} {v0 v1 v2 v3 v9:Value} {y:Int}
  (hb:w.heap[g]? =some (.cells (trC v0 v1 v2 v3 task tail s) 88 (0,0)))
  (h0:trRow k84 84 B w v0 s.st) (h1:trRow (Kd.int .i64) 3 B w v1 s.us) (h2:trRow (Kd.int .i64) 3 B w v2 s.lg) (h3:trRow (Kd.int .i64) 3 B w v3 s.vs)
  (D:(∀k,v1.ownBlock=some k→v2.ownBlock≠some k∧v3.ownBlock≠some k)∧(∀k,v2.ownBlock=some k→v3.ownBlock≠some k)∧B≤g)
  (hF:∀k,F k↔k=g∨v0.ownBlock=some k∨v1.ownBlock=some k∨v2.ownBlock=some k∨v3.ownBlock=some k)
  (ho:(Kd.int .i64).R 3 w9 B (fun _=>True) v9 (s.lg++[y])) (hg:w.grownBy w9 v2.ownBlock) (hat:v9.ownBlock=v2.ownBlock∨∃b,v9.ownBlock=some b∧w.heap.size≤b):
  ∃F',trP B g task tail v3 {s with lg:=s.lg++[y]} F' (w9.setCell ⟨g,5,none⟩ v9)∧Sep.After F w F' (w9.setCell ⟨g,5,none⟩ v9):=by
 have b9:=blk_grown hb hg (fun h=>h2.ne hb (by decide) g h.symm rfl)
 have far:∀k,k≠g→(w9.setCell ⟨g,5,none⟩ v9).heap[k]? =w9.heap[k]? :=fun k hk=>Below.heap_setCell w9 ⟨g,5,none⟩ v9 k hk
 have r9:=trRow.of_int ho
 have r9':trRow (Kd.int .i64) 3 B (w9.setCell ⟨g,5,none⟩ v9) v9 (s.lg++[y]):=r9.keep (fun k hk=>far k (r9.ne b9 (by decide) k hk))
 have own:∀k,v9.ownBlock=some k→v2.ownBlock=some k∨w.heap.size≤k:=fun k hk=>by
  rcases hat with hat|⟨b,hb9,hle⟩
  ·exact .inl (hat ▸ hk)
  ·rw[hb9] at hk
   injection hk with hk
   exact .inr (by omega)
 have row:∀ {α:Type} {d:Kd α} {e:Nat} {v':Value} {xs:List α},trRow d e B w v' xs→e≠88→(∀k,v2.ownBlock=some k→v'.ownBlock≠some k)→trRow d e B (w9.setCell ⟨g,5,none⟩ v9) v' xs:=fun hr hne hn=>hr.keep (fun k hk=>(far k (hr.ne hb hne k hk)).trans (hg.block k (Kd.R_lt hr k hk) (fun h=>hn k h.symm hk)))
 exact trP_next hb D.2.2 hF ⟨hg.os,hg.tape,hg.output⟩ (by rw[show(w9.setCell ⟨g,5,none⟩ v9).heap.size=w9.heap.size by simp[World.setCell]];exact hg.size) (fun k hk hkg _ n1 n2 n3=>(far k hkg).trans (hg.block k hk (fun h=>n2 h.symm))) (blk_put (cs:=trC v0 v1 v2 v3 task tail s) b9 5 v9 rfl)
  (row h0 (by decide) (fun k hk h=>h0.far h2 (by decide) k h hk)) (row h1 (by decide) (fun k hk h=>(D.1 k h).1 hk)) r9' (row h3 (by decide) (fun k hk h=>D.2.1 k hk h)) (fun k hk=> .inl hk) (fun k hk=> .inl hk) own (fun k hk=> .inl hk) ⟨fun k hk=>⟨fun h=>(own k h).elim (fun h'=>(D.1 k hk).1 h') (fun h'=>by have:=Kd.R_lt h1 k hk;omega),(D.1 k hk).2⟩,fun k hk h=>(own k hk).elim (fun h'=>D.2.1 k h' h) (fun h'=>by have:=Kd.R_lt h3 k h;omega)⟩
theorem trP_us {B g:Nat} {task tail:Int} {s:Tr} {F:Nat→Prop} {w w9:World} {v0 v1 v2 v3 v9:Value} {y:Int}
  (hb:w.heap[g]? =some (.cells (trC v0 v1 v2 v3 task tail s) 88 (0,0)))
  (h0:trRow k84 84 B w v0 s.st) (h1:trRow (Kd.int .i64) 3 B w v1 s.us) (h2:trRow (Kd.int .i64) 3 B w v2 s.lg) (h3:trRow (Kd.int .i64) 3 B w v3 s.vs)
  (D:(∀k,v1.ownBlock=some k→v2.ownBlock≠some k∧v3.ownBlock≠some k)∧(∀k,v2.ownBlock=some k→v3.ownBlock≠some k)∧B≤g)
  (hF:∀k,F k↔k=g∨v0.ownBlock=some k∨v1.ownBlock=some k∨v2.ownBlock=some k∨v3.ownBlock=some k)
  (ho:(Kd.int .i64).R 3 w9 B (fun _=>True) v9 (s.us++[y])) (hg:w.grownBy w9 v1.ownBlock) (hat:v9.ownBlock=v1.ownBlock∨∃b,v9.ownBlock=some b∧w.heap.size≤b):
  ∃F',trP B g task tail v3 {s with us:=s.us++[y]} F' (w9.setCell ⟨g,1,none⟩ v9)∧Sep.After F w F' (w9.setCell ⟨g,1,none⟩ v9):=by
 have b9:=blk_grown hb hg (fun h=>h1.ne hb (by decide) g h.symm rfl)
 have far:∀k,k≠g→(w9.setCell ⟨g,1,none⟩ v9).heap[k]? =w9.heap[k]? :=fun k hk=>Below.heap_setCell w9 ⟨g,1,none⟩ v9 k hk
 have r9:=trRow.of_int ho
 have r9':trRow (Kd.int .i64) 3 B (w9.setCell ⟨g,1,none⟩ v9) v9 (s.us++[y]):=r9.keep (fun k hk=>far k (r9.ne b9 (by decide) k hk))
 have own:∀k,v9.ownBlock=some k→v1.ownBlock=some k∨w.heap.size≤k:=fun k hk=>by
  rcases hat with hat|⟨b,hb9,hle⟩
  ·exact .inl (hat ▸ hk)
  ·rw[hb9] at hk
   injection hk with hk
   exact .inr (by omega)
 have row:∀ {α:Type} {d:Kd α} {e:Nat} {v':Value} {xs:List α},trRow d e B w v' xs→e≠88→(∀k,v1.ownBlock=some k→v'.ownBlock≠some k)→trRow d e B (w9.setCell ⟨g,1,none⟩ v9) v' xs:=fun hr hne hn=>hr.keep (fun k hk=>(far k (hr.ne hb hne k hk)).trans (hg.block k (Kd.R_lt hr k hk) (fun h=>hn k h.symm hk)))
 exact trP_next hb D.2.2 hF ⟨hg.os,hg.tape,hg.output⟩ (by rw[show(w9.setCell ⟨g,1,none⟩ v9).heap.size=w9.heap.size by simp[World.setCell]];exact hg.size) (fun k hk hkg _ n1 n2 n3=>(far k hkg).trans (hg.block k hk (fun h=>n1 h.symm))) (blk_put (cs:=trC v0 v1 v2 v3 task tail s) b9 1 v9 rfl)
  (row h0 (by decide) (fun k hk h=>h0.far h1 (by decide) k h hk)) r9' (row h2 (by decide) (fun k hk h=>(D.1 k hk).1 h)) (row h3 (by decide) (fun k hk h=>(D.1 k hk).2 h)) (fun k hk=> .inl hk) own (fun k hk=> .inl hk) (fun k hk=> .inl hk) ⟨fun k hk=>⟨fun h=>(own k hk).elim (fun h'=>(D.1 k h').1 h) (fun h'=>by have:=Kd.R_lt h2 k h;omega),fun h=>(own k hk).elim (fun h'=>(D.1 k h').2 h) (fun h'=>by have:=Kd.R_lt h3 k h;omega)⟩,D.2.1⟩
theorem trP_vs {B g g3:Nat} {task tail:Int} {s:Tr} {F:Nat→Prop} {w:World} {v0 v1 v2 v3 u:Value} {i:Nat} {ys:List Int}
  (hb:w.heap[g]? =some (.cells (trC v0 v1 v2 v3 task tail s) 88 (0,0)))
  (h0:trRow k84 84 B w v0 s.st) (h1:trRow (Kd.int .i64) 3 B w v1 s.us) (h2:trRow (Kd.int .i64) 3 B w v2 s.lg) (h3:trRow (Kd.int .i64) 3 B w v3 s.vs)
  (D:(∀k,v1.ownBlock=some k→v2.ownBlock≠some k∧v3.ownBlock≠some k)∧(∀k,v2.ownBlock=some k→v3.ownBlock≠some k)∧B≤g)
  (hF:∀k,F k↔k=g∨v0.ownBlock=some k∨v1.ownBlock=some k∨v2.ownBlock=some k∨v3.ownBlock=some k)
  (ho:v3.ownBlock=some g3) (hp:trRow (Kd.int .i64) 3 B (w.setCell ⟨g3,i,none⟩ u) v3 ys):
  ∃F',trP B g task tail v3 {s with vs:=ys} F' (w.setCell ⟨g3,i,none⟩ u)∧Sep.After F w F' (w.setCell ⟨g3,i,none⟩ u):=by
 have far:∀k,k≠g3→(w.setCell ⟨g3,i,none⟩ u).heap[k]? =w.heap[k]? :=fun k hk=>Below.heap_setCell w ⟨g3,i,none⟩ u k hk
 have row:∀ {α:Type} {d:Kd α} {e:Nat} {v':Value} {xs:List α},trRow d e B w v' xs→v'.ownBlock≠some g3→trRow d e B (w.setCell ⟨g3,i,none⟩ u) v' xs:=fun hr hn=>hr.keep (fun k hk=>far k (fun e=>hn (e ▸ hk)))
 exact trP_next hb D.2.2 hF ⟨rfl,rfl,rfl⟩ (by simp[World.setCell]) (fun k hk _ _ _ _ n3=>far k (fun e=>n3 (e ▸ ho))) ((far g (fun e=>h3.ne hb (by decide) g3 ho e.symm)).trans hb)
  (row h0 (fun h=>h0.far h3 (by decide) g3 h ho)) (row h1 (fun h=>(D.1 g3 h).2 ho)) (row h2 (fun h=>D.2.1 g3 h ho)) hp (fun k hk=> .inl hk) (fun k hk=> .inl hk) (fun k hk=> .inl hk) (fun k hk=> .inl hk) ⟨D.1,D.2.1⟩
theorem trF {w:World} {g:Nat} {v0 v1 v2 v3:Value} {task tail:Int} {s:Tr} (h:w.heap[g]? =some (.cells (trC v0 v1 v2 v3 task tail s) 88 (0,0))):∀j,j<8→w.cell? ⟨g,6+j,none⟩=some (.bool (s.fr j))∧w.frozen? ⟨g,6+j,none⟩=false
 |0,_=>⟨(Zb h 6).trans rfl,Zc h 6⟩
 |1,_=>⟨(Zb h 7).trans rfl,Zc h 7⟩
 |2,_=>⟨(Zb h 8).trans rfl,Zc h 8⟩
 |3,_=>⟨(Zb h 9).trans rfl,Zc h 9⟩
 |4,_=>⟨(Zb h 10).trans rfl,Zc h 10⟩
 |5,_=>⟨(Zb h 11).trans rfl,Zc h 11⟩
 |6,_=>⟨(Zb h 12).trans rfl,Zc h 12⟩
 |7,_=>⟨(Zb h 13).trans rfl,Zc h 13⟩
 |n+8,h=>absurd h (by omega)
theorem trF_set (v0 v1 v2 v3:Value) (task tail:Int) (s:Tr):∀j,j<8→(trC v0 v1 v2 v3 task tail s).setIfInBounds (6+j) (.bool true)=trC v0 v1 v2 v3 task tail {s with fr:=fun i=>if i=j then true else s.fr i}
 |0,_=>rfl
 |1,_=>rfl
 |2,_=>rfl
 |3,_=>rfl
 |4,_=>rfl
 |5,_=>rfl
 |6,_=>rfl
 |7,_=>rfl
 |n+8,h=>absurd h (by omega)
def Tr.put (s:Tr) (k v:Int):Tr:=({s with fr:=fun j=>if j=k.toNat then true else s.fr j,vs:=s.vs.set k.toNat v}:Tr).write 3 k v
def Tr.log (s:Tr) (k c:Int):Tr:=({(s.write 3 (wrap64 (9+wrap64 (2*(s.lg.length:Int)))) k).write 3 (wrap64 (wrap64 (9+wrap64 (2*(s.lg.length:Int)))+1)) (rd s.vs k) with lg:=s.lg++[k]}:Tr).write 3 8 c
def Tr.assign (kf:Nat) (task tail:Int) (must:List Int) (s:Tr) (k v:Int):Option Tr:=
 if 0≤k∧k<8∧k<(s.vs.length:Int)∧s.st.length<4999999999000∧s.lg.length<17592186044415 then
  (impl_HasVar.f kf must k).bind fun h=>if (h&& !(s.fr k.toNat))=true then (impl_PackControl.f task ((s.lg.length:Int)+1) tail).bind fun c=>some ((s.log k c).put k v) else some (s.put k v)
 else none
set_option maxHeartbeats 8000000 in
set_option maxRecDepth 100000 in
theorem tr_assign_no (kf:Nat) (B g:Nat) (task tail:Int) (v3:Value) (must:List Int) (Am:Option Addr) (cm:Nat) (s:Tr) (k v:Int) (hv b:Bool) (F:Nat→Prop) (w:World) (hB:B≤w.heap.size) (hI:trP B g task tail v3 s F w) (hm:Kd.C (Kd.int .i64) w Am must.length must) (hcm:must.length≤cm)
  (c:0≤k∧k<8∧k<(s.vs.length:Int)∧s.st.length<4999999999000∧s.lg.length<17592186044415) (h1:impl_HasVar.f kf must k=some hv) (hbf:s.fr k.toNat=b) (hn:(hv&& !b)=false):
  Calls Tryz.prog 54 #[.pointer (some ⟨g,0,none⟩),.slice Am must.length cm,.int .i64 k,.int .i64 v] w fun e w'=>e= .returned (.tuple #[])∧∃F',trP B g task tail v3 (s.put k v) F' w'∧Sep.After F w F' w':=by
 obtain⟨A3,c3,e3⟩:∃A3 c3,v3= .slice A3 s.vs.length c3:=by
  obtain⟨_,_,_,_,⟨_,_,_,q3⟩,_,_⟩:=hI
  exact Ym q3
 subst e3
 have BWC:=Za hB
 have HI:=Za hI
 have HA:=Za (Sep.After.refl F w)
 have HM:=Za hm
 have HCM:=Za hcm
 have H1:=Za h1
 have HBF:=Za hbf
 have HK0:=Za c.1
 have HK1:=Za c.2.2.1
 have HK8:Aside0 (k.toNat<8):=⟨by omega⟩
 have HL:=Za c.2.2.2.1
 have HG:=Za c.2.2.2.2
 have p0:=eq_true c.1
 have p8:=eq_true c.2.1
 have pv:=eq_true c.2.2.1
 clear hB hI hm hcm h1 c hbf
 cases hv<;>cases b<;>first|exact absurd hn (by decide)|skip
 all_goals
  clear hn
  go_enter Tryz.func54,Tryz.ntmps54
  go_wp2_with (first
   |(go_at_call 77;(with_reducible refine(impl_HasVar.calls kf _ _ must k _ _ HM.out HCM.out H1.out).mono ?_);rintro e wc ⟨rfl,hd⟩;have hA1:=Sep.After.of_below hd.below F;have hI1:=(trP_loc B g task tail _ s).below BWC.out HI.out hd.below;have hI_:=Za hI1;have hA_:=Za (HA.out.trans hA1);have hW_:=Za (Nat.le_trans BWC.out hA1.size);clear HI HA BWC;have HI:=hI_;have HA:=hA_;have BWC:=hW_;clear hI_ hA_ hW_;clear hd;obtain⟨u0,u1,u2,hb,⟨q0,q1,q2,q3⟩,hD,hF⟩:=HI.out;obtain⟨A2,c2,e2⟩:=Ym q2;subst e2;obtain⟨g3,eg,-,hcell,hfr,hput⟩:=(Sep.rowI.of_R q3).at_ k HK0.out HK1.out;cases eg;have HB:=Za hb;have Q0:=Za q0;have Q1:=Za q1;have Q2:=Za q2;have Q3:=Za q3;have HD:=Za hD;have HF:=Za hF;have HP:=Za hput;clear hb q0 q1 q2 q3 hD hF hput;obtain⟨_,_,_,_,_,_,_⟩:=trB HB.out;obtain⟨hfk,hff⟩:=trF HB.out k.toNat HK8.out;have hf5:=Zc HB.out 5;rw[HBF.out] at hfk)
   |(have la_:=LAST.out;clear la_;go_at_call 58;(with_reducible refine(tr_write B g task tail _ _ _ _ ?hl_ _ _ ?q1_ HI.out).mono ?_);(case hl_=>exact z8_5);(case q1_=>exact BWC.out);rintro e wc ⟨rfl,F2,hI2,hA2,-⟩;have hI_:=Za hI2;have hA_:=Za (HA.out.trans hA2);have hW_:=Za (Nat.le_trans BWC.out hA2.size);clear HI HA BWC;have HI:=hI_;have HA:=hA_;have BWC:=hW_;clear hI_ hA_ hW_;clear hI2 hA2)
   |(go_at_call 58;(with_reducible refine(tr_write B g task tail _ _ _ _ ?hl_ _ _ ?q1_ HI.out).mono ?_);(case hl_=>exact z8_5);(case q1_=>exact BWC.out);rintro e wc ⟨rfl,F2,hI2,hA2,-⟩;have hI_:=Za hI2;have hA_:=Za (HA.out.trans hA2);have hW_:=Za (Nat.le_trans BWC.out hA2.size);clear HI HA BWC;have HI:=hI_;have HA:=hA_;have BWC:=hW_;clear hI_ hA_ hW_;clear hI2 hA2;obtain⟨u0,u1,u2,hb,⟨q0,q1,q2,q3⟩,hD,hF⟩:=HI.out;obtain⟨A2,c2,e2⟩:=Ym q2;subst e2;obtain⟨g3,eg,-,hcell,hfr,hput⟩:=(Sep.rowI.of_R q3).at_ k HK0.out HK1.out;cases eg;have HB:=Za hb;have Q0:=Za q0;have Q1:=Za q1;have Q2:=Za q2;have Q3:=Za q3;have HD:=Za hD;have HF:=Za hF;have HP:=Za hput;clear hb q0 q1 q2 q3 hD hF hput;obtain⟨_,_,_,_,_,_,_⟩:=trB HB.out;obtain⟨hfk,hff⟩:=trF HB.out k.toNat HK8.out;have hf5:=Zc HB.out 5)
   |((with_reducible refine Ye (t:=4) (p:=73) rfl ?_);refine Yd (t:=4) (p:=73) (v:= .const (.bool true)) (w1:=wc.setCell ⟨g,6+k.toNat,none⟩ (.bool true)) ?hg ?ho ?hn ?hr ?_;(case ho=>rfl);(case hg=>rfl);(case hn=>rfl);(case hr=>exact z8_2);intro wc' hw;obtain⟨F5,i5,a5⟩:=trP_cell (i:=6+k.toNat) (u:= .bool true) HB.out Q0.out Q1.out Q2.out Q3.out HD.out HF.out (trF_set _ _ _ _ _ _ _ k.toNat HK8.out) rfl rfl rfl rfl;rw[←hw] at i5 a5;have hI_:=Za i5;have hA_:=Za (HA.out.trans a5);have hW_:=Za (Nat.le_trans BWC.out a5.size);clear HI HA BWC;have HI:=hI_;have HA:=hA_;have BWC:=hW_;clear hI_ hA_ hW_;clear i5 a5 hw;obtain⟨u0,u1,u2,hb,⟨q0,q1,q2,q3⟩,hD,hF⟩:=HI.out;obtain⟨A2,c2,e2⟩:=Ym q2;subst e2;obtain⟨g3,eg,-,hcell,hfr,hput⟩:=(Sep.rowI.of_R q3).at_ k HK0.out HK1.out;cases eg;have HB:=Za hb;have Q0:=Za q0;have Q1:=Za q1;have Q2:=Za q2;have Q3:=Za q3;have HD:=Za hD;have HF:=Za hF;have HP:=Za hput;clear hb q0 q1 q2 q3 hD hF hput;obtain⟨_,_,_,_,_,_,_⟩:=trB HB.out;obtain⟨hfk,hff⟩:=trF HB.out k.toNat HK8.out;have hf5:=Zc HB.out 5)
   |((with_reducible refine Ye (t:=3) (p:=80) rfl ?_);refine Yd (t:=3) (p:=80) (v:= .tmp 79) (w1:=wc'.setCell ⟨g3,k.toNat,none⟩ (.int .i64 v)) ?hg ?ho ?hn ?hr ?_;(case ho=>rfl);(case hg=>rfl);(case hn=>rfl);(case hr=>exact z8_2);intro wd hw;obtain⟨F6,i6,a6⟩:=trP_vs (g3:=g3) (i:=k.toNat) (u:= .int .i64 v) HB.out Q0.out Q1.out Q2.out Q3.out HD.out HF.out rfl (trRow.of_int (B:=B) ((HP.out v).to_R (fun k' hk'=>Yo Q3.out k' hk') (fun _ _=>trivial)));rw[←hw] at i6 a6;have hI_:=Za i6;have hA_:=Za (HA.out.trans a6);have hW_:=Za (Nat.le_trans BWC.out a6.size);clear HI HA BWC;have HI:=hI_;have HA:=hA_;have BWC:=hW_;clear hI_ hA_ hW_;clear i6 a6 hw;have LAST:Aside0 True:=⟨trivial⟩)
   |fail)
  go_end0
  exact⟨rfl,_,HI.out,HA.out⟩
set_option maxHeartbeats 8000000 in
set_option maxRecDepth 100000 in
theorem tr_assign_yes (kf:Nat) (B g:Nat) (task tail:Int) (v3:Value) (must:List Int) (Am:Option Addr) (cm:Nat) (s:Tr) (k v c5:Int) (F:Nat→Prop) (w:World) (hB:B≤w.heap.size) (hI:trP B g task tail v3 s F w) (hm:Kd.C (Kd.int .i64) w Am must.length must) (hcm:must.length≤cm)
  (c:0≤k∧k<8∧k<(s.vs.length:Int)∧s.st.length<4999999999000∧s.lg.length<17592186044415) (h1:impl_HasVar.f kf must k=some true) (hbf:s.fr k.toNat=false) (h5:impl_PackControl.f task ((s.lg.length:Int)+1) tail=some c5):
  Calls Tryz.prog 54 #[.pointer (some ⟨g,0,none⟩),.slice Am must.length cm,.int .i64 k,.int .i64 v] w fun e w'=>e= .returned (.tuple #[])∧∃F',trP B g task tail v3 ((s.log k c5).put k v) F' w'∧Sep.After F w F' w':=by
 obtain⟨A3,c3,e3⟩:∃A3 c3,v3= .slice A3 s.vs.length c3:=by
  obtain⟨_,_,_,_,⟨_,_,_,q3⟩,_,_⟩:=hI
  exact Ym q3
 subst e3
 have BWC:=Za hB
 have HI:=Za hI
 have HA:=Za (Sep.After.refl F w)
 have HM:=Za hm
 have HCM:=Za hcm
 have H1:=Za h1
 have HBF:=Za hbf
 have HK0:=Za c.1
 have HK1:=Za c.2.2.1
 have HK8:Aside0 (k.toNat<8):=⟨by omega⟩
 have HL:=Za c.2.2.2.1
 have HG:=Za c.2.2.2.2
 have p0:=eq_true c.1
 have p8:=eq_true c.2.1
 have pv:=eq_true c.2.2.1
 have H5:=Za h5
 clear hB hI hm hcm h1 c hbf h5
 go_enter Tryz.func54,Tryz.ntmps54
 go_wp2_with (first
  |(go_at_call 77;(with_reducible refine(impl_HasVar.calls kf _ _ must k _ _ HM.out HCM.out H1.out).mono ?_);rintro e wc ⟨rfl,hd⟩;have hA1:=Sep.After.of_below hd.below F;have hI1:=(trP_loc B g task tail _ s).below BWC.out HI.out hd.below;have hI_:=Za hI1;have hA_:=Za (HA.out.trans hA1);have hW_:=Za (Nat.le_trans BWC.out hA1.size);clear HI HA BWC;have HI:=hI_;have HA:=hA_;have BWC:=hW_;clear hI_ hA_ hW_;clear hd;obtain⟨u0,u1,u2,hb,⟨q0,q1,q2,q3⟩,hD,hF⟩:=HI.out;obtain⟨A2,c2,e2⟩:=Ym q2;subst e2;obtain⟨g3,eg,-,hcell,hfr,hput⟩:=(Sep.rowI.of_R q3).at_ k HK0.out HK1.out;cases eg;have HB:=Za hb;have Q0:=Za q0;have Q1:=Za q1;have Q2:=Za q2;have Q3:=Za q3;have HD:=Za hD;have HF:=Za hF;have HP:=Za hput;clear hb q0 q1 q2 q3 hD hF hput;obtain⟨_,_,_,_,_,_,_⟩:=trB HB.out;obtain⟨hfk,hff⟩:=trF HB.out k.toNat HK8.out;have hf5:=Zc HB.out 5;rw[HBF.out] at hfk)
  |(go_at_call 58;(with_reducible refine(tr_write B g task tail _ _ _ _ ?hl_ _ _ ?q1_ HI.out).mono ?_);(case hl_=>exact z8_5);(case q1_=>exact BWC.out);rintro e wc ⟨rfl,F2,hI2,hA2,-⟩;have hI_:=Za hI2;have hA_:=Za (HA.out.trans hA2);have hW_:=Za (Nat.le_trans BWC.out hA2.size);clear HI HA BWC;have HI:=hI_;have HA:=hA_;have BWC:=hW_;clear hI_ hA_ hW_;clear hI2 hA2;obtain⟨u0,u1,u2,hb,⟨q0,q1,q2,q3⟩,hD,hF⟩:=HI.out;obtain⟨A2,c2,e2⟩:=Ym q2;subst e2;obtain⟨g3,eg,-,hcell,hfr,hput⟩:=(Sep.rowI.of_R q3).at_ k HK0.out HK1.out;cases eg;have HB:=Za hb;have Q0:=Za q0;have Q1:=Za q1;have Q2:=Za q2;have Q3:=Za q3;have HD:=Za hD;have HF:=Za hF;have HP:=Za hput;clear hb q0 q1 q2 q3 hD hF hput;obtain⟨_,_,_,_,_,_,_⟩:=trB HB.out;obtain⟨hfk,hff⟩:=trF HB.out k.toNat HK8.out;have hf5:=Zc HB.out 5)
  |((with_reducible refine gate_builtin (b:= .append) (xs:= #[.tmp 47,.tmp 49]) rfl ?_);at_builtin;refine Kd.R_append (w0:=wc) (Kd.int .i64) B rfl (.tmp 47) (.tmp 49) 27 3 (.int .i64 0) 8 rfl Tryz.underlying27 info3 rfl (by decide) (by omega) _ s.lg k [.int .i64 k] (fun _=>True) (fun _=>False) rfl rfl rfl (fun _ hk=>hk.elim) (fun _ _=>trivial) (Q2.out.int (fun _ _=>trivial)) (Zx _ _) BWC.out (by have:=HG.out;omega) ?_;intro v9 w9 ho hb hg hat;obtain⟨A9,c9,e9⟩:=Ym ho;subst e9;have HO:=Za ho;have HG9:Aside0 (wc.grownBy w9 (Value.slice A2 s.lg.length c2).ownBlock):=⟨⟨hg.os,hg.tape,hg.output,hg.size,hg.block⟩⟩;have AT:=Za hat;have B9:=Za (blk_grown (w:=wc) HB.out HG9.out (fun h=>Q2.out.ne HB.out (by decide) g h.symm rfl));clear ho hb hg hat;obtain⟨_,_,_,_,_,_,_⟩:=trB B9.out;have hf9:=Zc B9.out 5)
  |((with_reducible refine Ye (t:=27) (p:=52) rfl ?_);refine Yd (t:=27) (p:=52) (v:= .tmp 50) (w1:=w9.setCell ⟨g,5,none⟩ (.slice A9 (s.lg++[k]).length c9)) ?hg ?ho ?hn ?hr ?_;(case ho=>rfl);(case hg=>rfl);(case hn=>rfl);(case hr=>exact z8_2);intro wc hw;obtain⟨F5,i5,a5⟩:=trP_lg HB.out Q0.out Q1.out Q2.out Q3.out HD.out HF.out HO.out HG9.out AT.out;rw[←hw] at i5 a5;have hI_:=Za i5;have hA_:=Za (HA.out.trans a5);have hW_:=Za (Nat.le_trans BWC.out a5.size);clear HI HA BWC;have HI:=hI_;have HA:=hA_;have BWC:=hW_;clear hI_ hA_ hW_;clear i5 a5 hw;obtain⟨u0,u1,u2,hb,⟨q0,q1,q2,q3⟩,hD,hF⟩:=HI.out;obtain⟨A2,c2,e2⟩:=Ym q2;subst e2;obtain⟨g3,eg,-,hcell,hfr,hput⟩:=(Sep.rowI.of_R q3).at_ k HK0.out HK1.out;cases eg;have HB:=Za hb;have Q0:=Za q0;have Q1:=Za q1;have Q2:=Za q2;have Q3:=Za q3;have HD:=Za hD;have HF:=Za hF;have HP:=Za hput;clear hb q0 q1 q2 q3 hD hF hput;obtain⟨_,_,_,_,_,_,_⟩:=trB HB.out;obtain⟨hfk,hff⟩:=trF HB.out k.toNat HK8.out;have hf5:=Zc HB.out 5;have hc5:wc.cell? ⟨g,5,none⟩=some (.slice A2 (s.lg++[k]).length c2):=(Zb HB.out 5).trans rfl)
  |fail)
 go_region_held3 (fun w'=>w'.cell? ⟨g,2,none⟩=some (.int .i64 task)∧w'.cell? ⟨g,5,none⟩=some (.slice A2 (s.lg++[k]).length c2)∧w'.cell? ⟨g,3,none⟩=some (.int .i64 tail)) (go_keep) ((first|(go_at_call 47;(with_reducible refine(impl_PackControl.calls _ _ _ c5 _ H5.out).mono ?_);rintro e wp ⟨rfl,hd⟩;have hbp:=Zj (z8_0:Below wc.heap.size wc _) hd.below;have BP:=Za (Zi HB.out hbp);have hI1:=(trP_loc B g task tail _ _).below BWC.out HI.out hbp;have hI_:=Za hI1;have hA_:=Za (HA.out.trans (Sep.After.of_below hbp _));have hW_:=Za (Nat.le_trans BWC.out hbp.size);clear HI HA BWC;have HI:=hI_;have HA:=hA_;have BWC:=hW_;clear hI_ hA_ hW_;clear hd hbp;have hp2:wp.cell? ⟨g,2,none⟩=some (.int .i64 task):=(Zb BP.out 2).trans rfl;have hp3:wp.cell? ⟨g,3,none⟩=some (.int .i64 tail):=(Zb BP.out 3).trans rfl;have hp5:wp.cell? ⟨g,5,none⟩=some (.slice A2 (s.lg++[k]).length c2):=(Zb BP.out 5).trans rfl)|(go_at_call 58;(with_reducible refine(tr_write B g task tail (.slice (some ⟨g3,0,none⟩) s.vs.length c3) ({(s.write 3 (wrap64 (9+wrap64 (2*(s.lg.length:Int)))) k).write 3 (wrap64 (wrap64 (9+wrap64 (2*(s.lg.length:Int)))+1)) (rd s.vs k) with lg:=s.lg++[k]}:Tr) _ _ ?hl_ F5 _ ?q1_ ?q2_).mono ?_);(case q2_=>exact(trP_loc B g task tail _ _).below BWC.out HI.out z8_0);(case hl_=>exact z8_5);(case q1_=>exact BWC.out);rintro e wc ⟨rfl,F2,hI2,hA2,hc5⟩;have hw5:=hc5.trans hp5;clear hc5;have hA3:=(Sep.After.of_below (z8_0:Below wp.heap.size wp _) _).trans hA2;have hI_:=Za hI2;have hA_:=Za (HA.out.trans hA3);have hW_:=Za (Nat.le_trans BWC.out hA3.size);clear HI HA BWC;have HI:=hI_;have HA:=hA_;have BWC:=hW_;clear hI_ hA_ hW_;clear hI2 hA2;obtain⟨u0,u1,u2,hb,⟨q0,q1,q2,q3⟩,hD,hF⟩:=HI.out;obtain⟨A2,c2,e2⟩:=Ym q2;subst e2;obtain⟨g3,eg,-,hcell,hfr,hput⟩:=(Sep.rowI.of_R q3).at_ k HK0.out HK1.out;cases eg;have HB:=Za hb;have Q0:=Za q0;have Q1:=Za q1;have Q2:=Za q2;have Q3:=Za q3;have HD:=Za hD;have HF:=Za hF;have HP:=Za hput;clear hb q0 q1 q2 q3 hD hF hput;obtain⟨_,_,_,_,_,_,_⟩:=trB HB.out;obtain⟨hfk,hff⟩:=trF HB.out k.toNat HK8.out;have hf5:=Zc HB.out 5)))
 go_wp2_with (first
  |(have la_:=LAST.out;clear la_;go_at_call 58;(with_reducible refine(tr_write B g task tail _ _ _ _ ?hl_ _ _ ?q1_ HI.out).mono ?_);(case hl_=>exact z8_5);(case q1_=>exact BWC.out);rintro e wc ⟨rfl,F2,hI2,hA2,-⟩;have hI_:=Za hI2;have hA_:=Za (HA.out.trans hA2);have hW_:=Za (Nat.le_trans BWC.out hA2.size);clear HI HA BWC;have HI:=hI_;have HA:=hA_;have BWC:=hW_;clear hI_ hA_ hW_;clear hI2 hA2)
  |((with_reducible refine Ye (t:=4) (p:=73) rfl ?_);refine Yd (t:=4) (p:=73) (v:= .const (.bool true)) (w1:=wc.setCell ⟨g,6+k.toNat,none⟩ (.bool true)) ?hg ?ho ?hn ?hr ?_;(case ho=>rfl);(case hg=>rfl);(case hn=>rfl);(case hr=>exact z8_2);intro wc' hw;obtain⟨F5,i5,a5⟩:=trP_cell (i:=6+k.toNat) (u:= .bool true) HB.out Q0.out Q1.out Q2.out Q3.out HD.out HF.out (trF_set _ _ _ _ _ _ _ k.toNat HK8.out) rfl rfl rfl rfl;rw[←hw] at i5 a5;have hI_:=Za i5;have hA_:=Za (HA.out.trans a5);have hW_:=Za (Nat.le_trans BWC.out a5.size);clear HI HA BWC;have HI:=hI_;have HA:=hA_;have BWC:=hW_;clear hI_ hA_ hW_;clear i5 a5 hw;obtain⟨u0,u1,u2,hb,⟨q0,q1,q2,q3⟩,hD,hF⟩:=HI.out;obtain⟨A2,c2,e2⟩:=Ym q2;subst e2;obtain⟨g3,eg,-,hcell,hfr,hput⟩:=(Sep.rowI.of_R q3).at_ k HK0.out HK1.out;cases eg;have HB:=Za hb;have Q0:=Za q0;have Q1:=Za q1;have Q2:=Za q2;have Q3:=Za q3;have HD:=Za hD;have HF:=Za hF;have HP:=Za hput;clear hb q0 q1 q2 q3 hD hF hput;obtain⟨_,_,_,_,_,_,_⟩:=trB HB.out;obtain⟨hfk,hff⟩:=trF HB.out k.toNat HK8.out;have hf5:=Zc HB.out 5)
  |((with_reducible refine Ye (t:=3) (p:=80) rfl ?_);refine Yd (t:=3) (p:=80) (v:= .tmp 79) (w1:=wc'.setCell ⟨g3,k.toNat,none⟩ (.int .i64 v)) ?hg ?ho ?hn ?hr ?_;(case ho=>rfl);(case hg=>rfl);(case hn=>rfl);(case hr=>exact z8_2);intro wd hw;obtain⟨F6,i6,a6⟩:=trP_vs (g3:=g3) (i:=k.toNat) (u:= .int .i64 v) HB.out Q0.out Q1.out Q2.out Q3.out HD.out HF.out rfl (trRow.of_int (B:=B) ((HP.out v).to_R (fun k' hk'=>Yo Q3.out k' hk') (fun _ _=>trivial)));rw[←hw] at i6 a6;have hI_:=Za i6;have hA_:=Za (HA.out.trans a6);have hW_:=Za (Nat.le_trans BWC.out a6.size);clear HI HA BWC;have HI:=hI_;have HA:=hA_;have BWC:=hW_;clear hI_ hA_ hW_;clear i6 a6 hw;have LAST:Aside0 True:=⟨trivial⟩)
  |fail)
 go_end0
 exact⟨rfl,_,HI.out,HA.out⟩
theorem tr_assign (kf:Nat) (B g:Nat) (task tail:Int) (v3:Value) (must:List Int) (Am:Option Addr) (cm:Nat) (s s':Tr) (k v:Int) (h:s.assign kf task tail must k v=some s') (F:Nat→Prop) (w:World) (hB:B≤w.heap.size) (hI:trP B g task tail v3 s F w) (hm:Kd.C (Kd.int .i64) w Am must.length must) (hcm:must.length≤cm):
  Calls Tryz.prog 54 #[.pointer (some ⟨g,0,none⟩),.slice Am must.length cm,.int .i64 k,.int .i64 v] w fun e w'=>e= .returned (.tuple #[])∧∃F',trP B g task tail v3 s' F' w'∧Sep.After F w F' w':=by
 unfold Tr.assign at h
 by_cases c:0≤k∧k<8∧k<(s.vs.length:Int)∧s.st.length<4999999999000∧s.lg.length<17592186044415
 ·rw[if_pos c] at h
  obtain⟨hv,h1,h2⟩:=Zg h
  by_cases c2:(hv&& !(s.fr k.toNat))=true
  ·rw[if_pos c2] at h2
   obtain⟨c5,h3,h4⟩:=Zg h2
   rw[Bool.and_eq_true,Bool.not_eq_true'] at c2
   obtain⟨rfl,hf⟩:=c2
   cases h4
   exact tr_assign_yes kf B g task tail v3 must Am cm s k v c5 F w hB hI hm hcm c h1 hf h3
  ·rw[if_neg c2] at h2
   cases h2
   exact tr_assign_no kf B g task tail v3 must Am cm s k v hv (s.fr k.toNat) F w hB hI hm hcm c h1 rfl (by simpa using c2)
 ·rw[if_neg c] at h
  cases h
def trQ (w5:World) (F0:Nat→Prop) (B g:Nat) (task tail:Int) (v3:Value) (s:Tr):Sep.Asn:=fun F w=>∃Fx:Nat→Prop,trP B g task tail v3 s Fx w∧(∀k,Fx k→F0 k∨w5.heap.size≤k)∧(∀k,k<w5.heap.size→¬F0 k→w.heap[k]? =w5.heap[k]?)∧w5.heap.size≤w.heap.size∧∀k,F k↔Fx k∨(B≤k∧k<w5.heap.size)
theorem trQ_loc (w5:World) (F0:Nat→Prop) (B g:Nat) (task tail:Int) (v3:Value) (s:Tr):Sep.Loc B (trQ w5 F0 B g task tail v3 s) where
 lt:=by
  rintro F w ⟨Fx,h1,h2,h3,h4,hF⟩ k hk
  rcases (hF k).1 hk with h|h
  ·exact(trP_loc B g task tail v3 s).lt h1 k h
  ·exact⟨h.1,by omega⟩
 keep:=by
  rintro F w w' ⟨Fx,h1,h2,h3,h4,hF⟩ hB hs hk
  refine⟨Fx,(trP_loc B g task tail v3 s).keep h1 hB hs (fun k h=>hk k (h.imp id (fun h=>(hF k).2 (.inl h)))),h2,fun k hk5 hn=> ?_,Nat.le_trans h4 hs,hF⟩
  rw[←h3 k hk5 hn]
  exact hk k (if h:k<B then .inl h else .inr ((hF k).2 (.inr ⟨by omega,hk5⟩)))
section
variable {w5:World} {F0:Nat→Prop} {B g:Nat} {task tail:Int} {v3:Value} {s s':Tr} {F:Nat→Prop} {w w':World}
theorem trQ_next {Fx F':Nat→Prop} (h2:∀k,Fx k→F0 k∨w5.heap.size≤k) (h3:∀k,k<w5.heap.size→¬F0 k→w.heap[k]? =w5.heap[k]?) (h4:w5.heap.size≤w.heap.size) (hF:∀k,F k↔Fx k∨(B≤k∧k<w5.heap.size))
  (h':trP B g task tail v3 s' F' w') (ha:Sep.After Fx w F' w'):∃F2,trQ w5 F0 B g task tail v3 s' F2 w'∧Sep.After F w F2 w':=by
 refine⟨fun k=>F' k∨(B≤k∧k<w5.heap.size),⟨F',h',fun k hk=> ?_,fun k hk hn=> ?_,Nat.le_trans h4 ha.size,fun k=>Iff.rfl⟩,⟨⟨ha.size,fun k hk hn=>ha.kept.2 k hk (fun h=>hn ((hF k).2 (.inl h)))⟩,fun k hk=> ?_,ha.io⟩⟩
 ·exact(ha.sub k hk).elim (h2 k) (fun h=> .inr (Nat.le_trans h4 h))
 ·rw[←h3 k hk hn]
  exact ha.kept.2 k (by omega) (fun h=>(h2 k h).elim hn (fun h=>by omega))
 ·rcases hk with h|h
  ·exact(ha.sub k h).imp (fun h=>(hF k).2 (.inl h)) id
  ·exact .inl ((hF k).2 (.inr h))
theorem tq_calls {f:Nat} {args:Array Value} {r:Ending} (h:trQ w5 F0 B g task tail v3 s F w) (hc:∀Fx,trP B g task tail v3 s Fx w→Calls Tryz.prog f args w fun e w'=>e=r∧∃F',trP B g task tail v3 s' F' w'∧Sep.After Fx w F' w'):
  Calls Tryz.prog f args w fun e w'=>e=r∧∃F2,trQ w5 F0 B g task tail v3 s' F2 w'∧Sep.After F w F2 w':=by
 obtain⟨Fx,h1,h2,h3,h4,hF⟩:=h
 refine(hc Fx h1).mono ?_
 rintro e w' ⟨rfl,F',i,a⟩
 exact⟨rfl,trQ_next h2 h3 h4 hF i a⟩
theorem trQ_blk (h:trQ w5 F0 B g task tail v3 s F w) {k:Nat} {o:Obj} (hb:w5.heap[k]? =some o) (hn:¬F0 k):w.heap[k]? =some o:=by
 obtain⟨_,_,_,h3,_,_⟩:=h
 exact(h3 k (blk_lt hb) hn).trans hb
theorem trQ_row {α:Type} {d:Kd α} {e:Nat} {v:Value} {xs:List α} (h:trQ w5 F0 B g task tail v3 s F w) (hm:trRow d e B w5 v xs) (hn:∀k,v.ownBlock=some k→¬F0 k):trRow d e B w v xs:=by
 obtain⟨_,_,_,h3,_,_⟩:=h
 exact hm.keep (fun k hk=>h3 k (Kd.R_lt hm k hk) (hn k hk))
theorem trQ_vs {A3:Option Addr} {n3 c3:Nat} (h:trQ w5 F0 B g task tail (.slice A3 n3 c3) s F w):n3=s.vs.length∧n3≤c3∧(Kd.int .i64).C w A3 s.vs.length s.vs:=by
 obtain⟨_,⟨_,_,_,_,⟨_,_,_,q3⟩,_,_⟩,_⟩:=h
 exact Yp q3
theorem trQ_sn (h:trQ w5 F0 B g task tail v3 s F w):w.cell? ⟨g,4,none⟩=some (.int .i64 s.sn):=by
 obtain⟨_,⟨_,_,_,hb,_⟩,_⟩:=h
 exact(trB hb).2.2.2.2.1
structure TrX (w5:World) (F0:Nat→Prop) (g gx gm gr ga:Nat) (vm vr:Value) (at_:Int):Prop where
 x:w5.heap[gx]? =some (.cells #[.pointer (some ⟨g,0,none⟩)] 85 (0,0))
 m:w5.heap[gm]? =some (.cells #[vm] 27 (0,0))
 r:w5.heap[gr]? =some (.cells #[vr] 27 (0,0))
 a:w5.heap[ga]? =some (.cells #[.int .i64 at_] 3 (0,0))
 nx:¬F0 gx
 nm:¬F0 gm
 nr:¬F0 gr
 na:¬F0 ga
theorem trQ_cells {gx gm gr ga:Nat} {vm vr:Value} {at_:Int} (h:trQ w5 F0 B g task tail v3 s F w) (X:TrX w5 F0 g gx gm gr ga vm vr at_):
  w.cell? ⟨gx,0,none⟩=some (.pointer (some ⟨g,0,none⟩))∧w.cell? ⟨gm,0,none⟩=some vm∧w.cell? ⟨gr,0,none⟩=some vr∧w.cell? ⟨ga,0,none⟩=some (.int .i64 at_)∧w.cell? ⟨g,14,none⟩=some v3:=by
 refine⟨(Zb (trQ_blk h X.x X.nx) 0).trans rfl,(Zb (trQ_blk h X.m X.nm) 0).trans rfl,(Zb (trQ_blk h X.r X.nr) 0).trans rfl,(Zb (trQ_blk h X.a X.na) 0).trans rfl,?_⟩
 obtain⟨_,⟨_,_,_,hb,_⟩,_⟩:=h
 exact(trB hb).2.2.2.2.2.2
end
theorem tq_work (w5:World) (F0:Nat→Prop) (B g:Nat) (task tail:Int) (v3:Value) (s:Tr) (c:Int) (hl:s.st.length<5000000000000) (F:Nat→Prop) (w:World) (hB:B≤w.heap.size) (hI:trQ w5 F0 B g task tail v3 s F w):
  Calls Tryz.prog 52 #[.pointer (some ⟨g,0,none⟩),.int .i64 c] w fun e w'=>e= .returned (.tuple #[])∧∃F',trQ w5 F0 B g task tail v3 (s.write c (-1) 0) F' w'∧Sep.After F w F' w':=
 tq_calls hI (fun Fx h=>tr_work B g task tail v3 s c hl Fx w hB h)
theorem tq_send (w5:World) (F0:Nat→Prop) (B g:Nat) (task tail:Int) (v3:Value) (s:Tr) (v:Int) (hl:s.st.length<5000000000000) (F:Nat→Prop) (w:World) (hB:B≤w.heap.size) (hI:trQ w5 F0 B g task tail v3 s F w):
  Calls Tryz.prog 57 #[.pointer (some ⟨g,0,none⟩),.int .i64 v] w fun e w'=>e= .returned (.tuple #[])∧∃F',trQ w5 F0 B g task tail v3 (s.sendB tail v) F' w'∧Sep.After F w F' w':=
 tq_calls hI (fun Fx h=>tr_send B g task tail v3 s v hl Fx w hB h)
theorem tq_assign (kf:Nat) (w5:World) (F0:Nat→Prop) (B g:Nat) (task tail:Int) (v3:Value) (must:List Int) (Am:Option Addr) (cm:Nat) (s s':Tr) (k v:Int) (h:s.assign kf task tail must k v=some s') (F:Nat→Prop) (w:World) (hB:B≤w.heap.size) (hI:trQ w5 F0 B g task tail v3 s F w) (hm:Kd.C (Kd.int .i64) w Am must.length must) (hcm:must.length≤cm):
  Calls Tryz.prog 54 #[.pointer (some ⟨g,0,none⟩),.slice Am must.length cm,.int .i64 k,.int .i64 v] w fun e w'=>e= .returned (.tuple #[])∧∃F',trQ w5 F0 B g task tail v3 s' F' w'∧Sep.After F w F' w':=
 tq_calls hI (fun Fx hx=>tr_assign kf B g task tail v3 must Am cm s s' k v h Fx w hB hx hm hcm)
set_option maxHeartbeats 8000000 in
set_option maxRecDepth 100000 in
theorem tq_step1 (kf:Nat) (w5:World) (F0:Nat→Prop) (B g gx gm gr ga:Nat) (task tail:Int) (A3:Option Addr) (n3 c3:Nat) (must rs:List Int) (Am Ar:Option Addr) (cm cr:Nat) (at_:Int) (X:TrX w5 F0 g gx gm gr ga (.slice Am must.length cm) (.slice Ar rs.length cr) at_)
  (hM:∀s F w,trQ w5 F0 B g task tail (.slice A3 n3 c3) s F w→Kd.C (Kd.int .i64) w Am must.length must) (hcm:must.length≤cm) (hR:∀s F w,trQ w5 F0 B g task tail (.slice A3 n3 c3) s F w→Kd.C (Kd.int .i64) w Ar rs.length rs) (hcr:rs.length≤cr)
  (s s':Tr) (x0 x1 x2 x3 x4 x5 c y:Int) (bo:Bool) (F:Nat→Prop) (w:World) (hB:B≤w.heap.size) (hI:trQ w5 F0 B g task tail (.slice A3 n3 c3) s F w) (hc:impl_StmtCost.f kf x0 x1 x2 x3 x4 x5=some c) (hl:s.st.length<4999999998000) (hx:x0=1) (hy:impl_EvalExpr.f kf s.vs x3 x4 x5=some y) (ha:(s.write c (-1) 0).assign kf task tail must x1 y=some s'):
  Calls Tryz.prog 51 #[.agg #[.int .i64 x0,.int .i64 x1,.int .i64 x2,.int .i64 x3,.int .i64 x4,.int .i64 x5],.pointer (some ⟨gx,0,none⟩),.pointer (some ⟨gm,0,none⟩),.pointer (some ⟨gr,0,none⟩),.pointer (some ⟨ga,0,none⟩)] w fun e w'=>e= .returned (.bool true)∧∃F',trQ w5 F0 B g task tail (.slice A3 n3 c3) s' F' w'∧Sep.After F w F' w':=by
 obtain⟨e3,hc3,-⟩:=trQ_vs hI
 subst e3
 have HX:=Za X
 have HM:=Za hM
 have HR:=Za hR
 have HCM:=Za hcm
 have HCR:=Za hcr
 have HC3:=Za hc3
 have BWC:=Za hB
 have HI:=Za hI
 have HC:=Za hc
 have HL:=Za hl
 have HY:=Za hy
 have HS:=Za ha
 subst hx
 clear X hM hcm hR hcr hc3 hB hI hc hl hy ha
 go_enter Tryz.func51,Tryz.ntmps51
 go_wp2_with (first
  |((with_reducible refine Zp (N:=5) rfl ?_);refine Zr ?hg (N:=5) ?hd (cs:= #[.int .i64 1,.int .i64 x1,.int .i64 x2,.int .i64 x3,.int .i64 x4,.int .i64 x5]) (t:=92) ?hr ?_;(case hd=>rfl);(case hg=>rfl);(case hr=>exact z8_2);intro gs hgs w1 hs hb1;have HB1:=Za hb1;have BS:=Za hs;have NF:Aside0 (¬F gs):=⟨fun h=>by have:=((trQ_loc w5 F0 B g task tail (.slice A3 s.vs.length c3) s).lt HI.out gs h).2;omega⟩;have hI1:=(trQ_loc w5 F0 B g task tail (.slice A3 s.vs.length c3) s).below BWC.out HI.out hb1;have hW1:=Nat.le_trans BWC.out hb1.size;clear HI BWC;have HI:=Za hI1;have BWC:=Za hW1;have HA:=Za (Sep.After.refl F w1);clear hI1 hW1 hgs hs hb1;obtain⟨hx1,hm1,hr1,ha1,hv1⟩:=trQ_cells HI.out HX.out;obtain⟨⟨_,_,_,_,_,_⟩,-⟩:=Sep.blk6 BS.out)
  |fail)
 have BS1:=BS
 go_region_held3 (fun w'=>w'.cell? ⟨gx,0,none⟩=some (.pointer (some ⟨g,0,none⟩))∧w'.cell? ⟨gs,0,none⟩=some (.int .i64 1)∧w'.cell? ⟨gs,1,none⟩=some (.int .i64 x1)∧w'.cell? ⟨gs,2,none⟩=some (.int .i64 x2)∧w'.cell? ⟨gs,3,none⟩=some (.int .i64 x3)∧w'.cell? ⟨gs,4,none⟩=some (.int .i64 x4)∧w'.cell? ⟨gs,5,none⟩=some (.int .i64 x5)) (go_keep) ((first|(go_at_call 53;(with_reducible refine(impl_StmtCost.calls kf _ _ _ _ _ _ c _ HC.out).mono ?_);rintro e wp ⟨rfl,hd⟩;have hbp:=Zj (z8_0:Below w1.heap.size w1 _) hd;clear hd;have hI_:=Za ((trQ_loc w5 F0 B g task tail _ _).below BWC.out HI.out hbp);have hA_:=Za (HA.out.trans (Sep.After.of_below hbp _));have hW_:=Za (Nat.le_trans BWC.out hbp.size);have hS_:=Za (Zi BS.out hbp);clear HI HA BWC BS;have HI:=hI_;have HA:=hA_;have BWC:=hW_;have BS:=hS_;clear hI_ hA_ hW_ hS_ hbp;obtain⟨_,_,_,_,_⟩:=trQ_cells HI.out HX.out;obtain⟨⟨_,_,_,_,_,_⟩,-⟩:=Sep.blk6 BS.out)|(go_at_call 52;(with_reducible refine(tq_work w5 F0 B g task tail _ s _ ?hl_ F _ ?q1_ ((trQ_loc w5 F0 B g task tail _ s).below BWC.out HI.out z8_0)).mono ?_);(case hl_=>(have:=HL.out;omega));(case q1_=>exact BWC.out);rintro e wc ⟨rfl,F2,hI2,hA2⟩;have hA3_:=(Sep.After.of_below (z8_0:Below wp.heap.size wp _) _).trans hA2;have hI_:=Za hI2;have hA_:=Za (HA.out.trans hA3_);have hW_:=Za (Nat.le_trans BWC.out hA3_.size);have hS_:=Za (hA3_.blk BS.out (HA.out.out BS1.out NF.out));clear HI HA BWC BS;have HI:=hI_;have HA:=hA_;have BWC:=hW_;have BS:=hS_;clear hI_ hA_ hW_ hS_ hI2 hA2 hA3_;obtain⟨_,_,_,_,_⟩:=trQ_cells HI.out HX.out;obtain⟨⟨_,_,_,_,_,_⟩,-⟩:=Sep.blk6 BS.out)))
 go_wp2
 go_region_held3 (fun w'=>w'.cell? ⟨gx,0,none⟩=some (.pointer (some ⟨g,0,none⟩))∧w'.cell? ⟨gm,0,none⟩=some (.slice Am must.length cm)∧w'.cell? ⟨g,14,none⟩=some (.slice A3 s.vs.length c3)∧w'.cell? ⟨gs,0,none⟩=some (.int .i64 1)∧w'.cell? ⟨gs,1,none⟩=some (.int .i64 x1)∧w'.cell? ⟨gs,2,none⟩=some (.int .i64 x2)∧w'.cell? ⟨gs,3,none⟩=some (.int .i64 x3)∧w'.cell? ⟨gs,4,none⟩=some (.int .i64 x4)∧w'.cell? ⟨gs,5,none⟩=some (.int .i64 x5)) (go_keep) ((first|(go_at_call 55;(with_reducible refine(impl_EvalExpr.calls kf _ _ s.vs _ _ _ y _ (Yl (trQ_vs HI.out).2.2 z8_0) HC3.out HY.out).mono ?_);rintro e wq ⟨rfl,hd⟩;have hbp:=Zj (z8_0:Below wc.heap.size wc _) hd;clear hd;have hI_:=Za ((trQ_loc w5 F0 B g task tail _ _).below BWC.out HI.out hbp);have hA_:=Za (HA.out.trans (Sep.After.of_below hbp _));have hW_:=Za (Nat.le_trans BWC.out hbp.size);have hS_:=Za (Zi BS.out hbp);clear HI HA BWC BS;have HI:=hI_;have HA:=hA_;have BWC:=hW_;have BS:=hS_;clear hI_ hA_ hW_ hS_ hbp;obtain⟨_,_,_,_,_⟩:=trQ_cells HI.out HX.out;obtain⟨⟨_,_,_,_,_,_⟩,-⟩:=Sep.blk6 BS.out)|(go_at_call 54;(with_reducible refine(tq_assign kf w5 F0 B g task tail _ must _ _ (s.write c (-1) 0) s' _ _ HS.out F2 _ ?q1_ ((trQ_loc w5 F0 B g task tail _ (s.write c (-1) 0)).below BWC.out HI.out z8_0) (HM.out _ _ _ ((trQ_loc w5 F0 B g task tail _ (s.write c (-1) 0)).below BWC.out HI.out z8_0)) HCM.out).mono ?_);(case q1_=>exact BWC.out);rintro e wd ⟨rfl,F3,hI2,hA2⟩;have hA3_:=(Sep.After.of_below (z8_0:Below wq.heap.size wq _) _).trans hA2;have hI_:=Za hI2;have hA_:=Za (HA.out.trans hA3_);have hW_:=Za (Nat.le_trans BWC.out hA3_.size);have hS_:=Za (hA3_.blk BS.out (HA.out.out BS1.out NF.out));clear HI HA BWC BS;have HI:=hI_;have HA:=hA_;have BWC:=hW_;have BS:=hS_;clear hI_ hA_ hW_ hS_ hI2 hA2 hA3_;obtain⟨_,_,_,_,_⟩:=trQ_cells HI.out HX.out;obtain⟨⟨_,_,_,_,_,_⟩,-⟩:=Sep.blk6 BS.out)))
 go_wp2
 go_ret
 exact⟨rfl,_,HI.out,(Sep.After.of_below HB1.out F).trans HA.out⟩
set_option maxHeartbeats 8000000 in
set_option maxRecDepth 100000 in
theorem tq_step3 (kf:Nat) (w5:World) (F0:Nat→Prop) (B g gx gm gr ga:Nat) (task tail:Int) (A3:Option Addr) (n3 c3:Nat) (must rs:List Int) (Am Ar:Option Addr) (cm cr:Nat) (at_:Int) (X:TrX w5 F0 g gx gm gr ga (.slice Am must.length cm) (.slice Ar rs.length cr) at_)
  (hM:∀s F w,trQ w5 F0 B g task tail (.slice A3 n3 c3) s F w→Kd.C (Kd.int .i64) w Am must.length must) (hcm:must.length≤cm) (hR:∀s F w,trQ w5 F0 B g task tail (.slice A3 n3 c3) s F w→Kd.C (Kd.int .i64) w Ar rs.length rs) (hcr:rs.length≤cr)
  (s s':Tr) (x0 x1 x2 x3 x4 x5 c y:Int) (bo:Bool) (F:Nat→Prop) (w:World) (hB:B≤w.heap.size) (hI:trQ w5 F0 B g task tail (.slice A3 n3 c3) s F w) (hc:impl_StmtCost.f kf x0 x1 x2 x3 x4 x5=some c) (hl:s.st.length<4999999998000) (hx:x0=3) (hy:impl_EvalExpr.f kf s.vs x3 x4 x5=some y):
  Calls Tryz.prog 51 #[.agg #[.int .i64 x0,.int .i64 x1,.int .i64 x2,.int .i64 x3,.int .i64 x4,.int .i64 x5],.pointer (some ⟨gx,0,none⟩),.pointer (some ⟨gm,0,none⟩),.pointer (some ⟨gr,0,none⟩),.pointer (some ⟨ga,0,none⟩)] w fun e w'=>e= .returned (.bool true)∧∃F',trQ w5 F0 B g task tail (.slice A3 n3 c3) ((s.write c (-1) 0).sendB tail y) F' w'∧Sep.After F w F' w':=by
 obtain⟨e3,hc3,-⟩:=trQ_vs hI
 subst e3
 have HX:=Za X
 have HM:=Za hM
 have HR:=Za hR
 have HCM:=Za hcm
 have HCR:=Za hcr
 have HC3:=Za hc3
 have BWC:=Za hB
 have HI:=Za hI
 have HC:=Za hc
 have HL:=Za hl
 have HY:=Za hy
 subst hx
 clear X hM hcm hR hcr hc3 hB hI hc hl hy
 go_enter Tryz.func51,Tryz.ntmps51
 go_wp2_with (first
  |((with_reducible refine Zp (N:=5) rfl ?_);refine Zr ?hg (N:=5) ?hd (cs:= #[.int .i64 3,.int .i64 x1,.int .i64 x2,.int .i64 x3,.int .i64 x4,.int .i64 x5]) (t:=92) ?hr ?_;(case hd=>rfl);(case hg=>rfl);(case hr=>exact z8_2);intro gs hgs w1 hs hb1;have HB1:=Za hb1;have BS:=Za hs;have NF:Aside0 (¬F gs):=⟨fun h=>by have:=((trQ_loc w5 F0 B g task tail (.slice A3 s.vs.length c3) s).lt HI.out gs h).2;omega⟩;have hI1:=(trQ_loc w5 F0 B g task tail (.slice A3 s.vs.length c3) s).below BWC.out HI.out hb1;have hW1:=Nat.le_trans BWC.out hb1.size;clear HI BWC;have HI:=Za hI1;have BWC:=Za hW1;have HA:=Za (Sep.After.refl F w1);clear hI1 hW1 hgs hs hb1;obtain⟨hx1,hm1,hr1,ha1,hv1⟩:=trQ_cells HI.out HX.out;obtain⟨⟨_,_,_,_,_,_⟩,-⟩:=Sep.blk6 BS.out)
  |fail)
 have BS1:=BS
 go_region_held3 (fun w'=>w'.cell? ⟨gx,0,none⟩=some (.pointer (some ⟨g,0,none⟩))∧w'.cell? ⟨gs,0,none⟩=some (.int .i64 3)∧w'.cell? ⟨gs,1,none⟩=some (.int .i64 x1)∧w'.cell? ⟨gs,2,none⟩=some (.int .i64 x2)∧w'.cell? ⟨gs,3,none⟩=some (.int .i64 x3)∧w'.cell? ⟨gs,4,none⟩=some (.int .i64 x4)∧w'.cell? ⟨gs,5,none⟩=some (.int .i64 x5)) (go_keep) ((first|(go_at_call 53;(with_reducible refine(impl_StmtCost.calls kf _ _ _ _ _ _ c _ HC.out).mono ?_);rintro e wp ⟨rfl,hd⟩;have hbp:=Zj (z8_0:Below w1.heap.size w1 _) hd;clear hd;have hI_:=Za ((trQ_loc w5 F0 B g task tail _ _).below BWC.out HI.out hbp);have hA_:=Za (HA.out.trans (Sep.After.of_below hbp _));have hW_:=Za (Nat.le_trans BWC.out hbp.size);have hS_:=Za (Zi BS.out hbp);clear HI HA BWC BS;have HI:=hI_;have HA:=hA_;have BWC:=hW_;have BS:=hS_;clear hI_ hA_ hW_ hS_ hbp;obtain⟨_,_,_,_,_⟩:=trQ_cells HI.out HX.out;obtain⟨⟨_,_,_,_,_,_⟩,-⟩:=Sep.blk6 BS.out)|(go_at_call 52;(with_reducible refine(tq_work w5 F0 B g task tail _ s _ ?hl_ F _ ?q1_ ((trQ_loc w5 F0 B g task tail _ s).below BWC.out HI.out z8_0)).mono ?_);(case hl_=>(have:=HL.out;omega));(case q1_=>exact BWC.out);rintro e wc ⟨rfl,F2,hI2,hA2⟩;have hA3_:=(Sep.After.of_below (z8_0:Below wp.heap.size wp _) _).trans hA2;have hI_:=Za hI2;have hA_:=Za (HA.out.trans hA3_);have hW_:=Za (Nat.le_trans BWC.out hA3_.size);have hS_:=Za (hA3_.blk BS.out (HA.out.out BS1.out NF.out));clear HI HA BWC BS;have HI:=hI_;have HA:=hA_;have BWC:=hW_;have BS:=hS_;clear hI_ hA_ hW_ hS_ hI2 hA2 hA3_;obtain⟨_,_,_,_,_⟩:=trQ_cells HI.out HX.out;obtain⟨⟨_,_,_,_,_,_⟩,-⟩:=Sep.blk6 BS.out)))
 go_wp2
 go_region_held3 (fun w'=>w'.cell? ⟨gx,0,none⟩=some (.pointer (some ⟨g,0,none⟩))∧w'.cell? ⟨g,14,none⟩=some (.slice A3 s.vs.length c3)∧w'.cell? ⟨gs,0,none⟩=some (.int .i64 3)∧w'.cell? ⟨gs,1,none⟩=some (.int .i64 x1)∧w'.cell? ⟨gs,2,none⟩=some (.int .i64 x2)∧w'.cell? ⟨gs,3,none⟩=some (.int .i64 x3)∧w'.cell? ⟨gs,4,none⟩=some (.int .i64 x4)∧w'.cell? ⟨gs,5,none⟩=some (.int .i64 x5)) (go_keep) ((first|(go_at_call 55;(with_reducible refine(impl_EvalExpr.calls kf _ _ s.vs _ _ _ y _ (Yl (trQ_vs HI.out).2.2 z8_0) HC3.out HY.out).mono ?_);rintro e wq ⟨rfl,hd⟩;have hbp:=Zj (z8_0:Below wc.heap.size wc _) hd;clear hd;have hI_:=Za ((trQ_loc w5 F0 B g task tail _ _).below BWC.out HI.out hbp);have hA_:=Za (HA.out.trans (Sep.After.of_below hbp _));have hW_:=Za (Nat.le_trans BWC.out hbp.size);have hS_:=Za (Zi BS.out hbp);clear HI HA BWC BS;have HI:=hI_;have HA:=hA_;have BWC:=hW_;have BS:=hS_;clear hI_ hA_ hW_ hS_ hbp;obtain⟨_,_,_,_,_⟩:=trQ_cells HI.out HX.out;obtain⟨⟨_,_,_,_,_,_⟩,-⟩:=Sep.blk6 BS.out)|(go_at_call 57;(with_reducible refine(tq_send w5 F0 B g task tail _ (s.write c (-1) 0) y ?hl_ F2 _ ?q1_ ((trQ_loc w5 F0 B g task tail _ (s.write c (-1) 0)).below BWC.out HI.out z8_0)).mono ?_);(case hl_=>((try simp only[Tr.write,List.length_append,List.length_singleton]);have:=HL.out;omega));(case q1_=>exact BWC.out);rintro e wd ⟨rfl,F3,hI2,hA2⟩;have hA3_:=(Sep.After.of_below (z8_0:Below wq.heap.size wq _) _).trans hA2;have hI_:=Za hI2;have hA_:=Za (HA.out.trans hA3_);have hW_:=Za (Nat.le_trans BWC.out hA3_.size);have hS_:=Za (hA3_.blk BS.out (HA.out.out BS1.out NF.out));clear HI HA BWC BS;have HI:=hI_;have HA:=hA_;have BWC:=hW_;have BS:=hS_;clear hI_ hA_ hW_ hS_ hI2 hA2 hA3_;obtain⟨_,_,_,_,_⟩:=trQ_cells HI.out HX.out;obtain⟨⟨_,_,_,_,_,_⟩,-⟩:=Sep.blk6 BS.out)))
 go_wp2
 go_ret
 exact⟨rfl,_,HI.out,(Sep.After.of_below HB1.out F).trans HA.out⟩
set_option maxHeartbeats 8000000 in
set_option maxRecDepth 100000 in
theorem tq_step4 (kf:Nat) (w5:World) (F0:Nat→Prop) (B g gx gm gr ga:Nat) (task tail:Int) (A3:Option Addr) (n3 c3:Nat) (must rs:List Int) (Am Ar:Option Addr) (cm cr:Nat) (at_:Int) (X:TrX w5 F0 g gx gm gr ga (.slice Am must.length cm) (.slice Ar rs.length cr) at_)
  (hM:∀s F w,trQ w5 F0 B g task tail (.slice A3 n3 c3) s F w→Kd.C (Kd.int .i64) w Am must.length must) (hcm:must.length≤cm) (hR:∀s F w,trQ w5 F0 B g task tail (.slice A3 n3 c3) s F w→Kd.C (Kd.int .i64) w Ar rs.length rs) (hcr:rs.length≤cr)
  (s s':Tr) (x0 x1 x2 x3 x4 x5 c y:Int) (bo:Bool) (F:Nat→Prop) (w:World) (hB:B≤w.heap.size) (hI:trQ w5 F0 B g task tail (.slice A3 n3 c3) s F w) (hc:impl_StmtCost.f kf x0 x1 x2 x3 x4 x5=some c) (hl:s.st.length<4999999998000) (hx:x0=4) (hy:impl_EvalExpr.f kf s.vs x3 x4 x5=some y):
  Calls Tryz.prog 51 #[.agg #[.int .i64 x0,.int .i64 x1,.int .i64 x2,.int .i64 x3,.int .i64 x4,.int .i64 x5],.pointer (some ⟨gx,0,none⟩),.pointer (some ⟨gm,0,none⟩),.pointer (some ⟨gr,0,none⟩),.pointer (some ⟨ga,0,none⟩)] w fun e w'=>e= .returned (.bool (y != 0))∧∃F',trQ w5 F0 B g task tail (.slice A3 n3 c3) (s.write c (-1) 0) F' w'∧Sep.After F w F' w':=by
 obtain⟨e3,hc3,-⟩:=trQ_vs hI
 subst e3
 have HX:=Za X
 have HM:=Za hM
 have HR:=Za hR
 have HCM:=Za hcm
 have HCR:=Za hcr
 have HC3:=Za hc3
 have BWC:=Za hB
 have HI:=Za hI
 have HC:=Za hc
 have HL:=Za hl
 have HY:=Za hy
 subst hx
 clear X hM hcm hR hcr hc3 hB hI hc hl hy
 go_enter Tryz.func51,Tryz.ntmps51
 go_wp2_with (first
  |((with_reducible refine Zp (N:=5) rfl ?_);refine Zr ?hg (N:=5) ?hd (cs:= #[.int .i64 4,.int .i64 x1,.int .i64 x2,.int .i64 x3,.int .i64 x4,.int .i64 x5]) (t:=92) ?hr ?_;(case hd=>rfl);(case hg=>rfl);(case hr=>exact z8_2);intro gs hgs w1 hs hb1;have HB1:=Za hb1;have BS:=Za hs;have NF:Aside0 (¬F gs):=⟨fun h=>by have:=((trQ_loc w5 F0 B g task tail (.slice A3 s.vs.length c3) s).lt HI.out gs h).2;omega⟩;have hI1:=(trQ_loc w5 F0 B g task tail (.slice A3 s.vs.length c3) s).below BWC.out HI.out hb1;have hW1:=Nat.le_trans BWC.out hb1.size;clear HI BWC;have HI:=Za hI1;have BWC:=Za hW1;have HA:=Za (Sep.After.refl F w1);clear hI1 hW1 hgs hs hb1;obtain⟨hx1,hm1,hr1,ha1,hv1⟩:=trQ_cells HI.out HX.out;obtain⟨⟨_,_,_,_,_,_⟩,-⟩:=Sep.blk6 BS.out)
  |fail)
 have BS1:=BS
 go_region_held3 (fun w'=>w'.cell? ⟨gx,0,none⟩=some (.pointer (some ⟨g,0,none⟩))∧w'.cell? ⟨gs,0,none⟩=some (.int .i64 4)∧w'.cell? ⟨gs,1,none⟩=some (.int .i64 x1)∧w'.cell? ⟨gs,2,none⟩=some (.int .i64 x2)∧w'.cell? ⟨gs,3,none⟩=some (.int .i64 x3)∧w'.cell? ⟨gs,4,none⟩=some (.int .i64 x4)∧w'.cell? ⟨gs,5,none⟩=some (.int .i64 x5)) (go_keep) ((first|(go_at_call 53;(with_reducible refine(impl_StmtCost.calls kf _ _ _ _ _ _ c _ HC.out).mono ?_);rintro e wp ⟨rfl,hd⟩;have hbp:=Zj (z8_0:Below w1.heap.size w1 _) hd;clear hd;have hI_:=Za ((trQ_loc w5 F0 B g task tail _ _).below BWC.out HI.out hbp);have hA_:=Za (HA.out.trans (Sep.After.of_below hbp _));have hW_:=Za (Nat.le_trans BWC.out hbp.size);have hS_:=Za (Zi BS.out hbp);clear HI HA BWC BS;have HI:=hI_;have HA:=hA_;have BWC:=hW_;have BS:=hS_;clear hI_ hA_ hW_ hS_ hbp;obtain⟨_,_,_,_,_⟩:=trQ_cells HI.out HX.out;obtain⟨⟨_,_,_,_,_,_⟩,-⟩:=Sep.blk6 BS.out)|(go_at_call 52;(with_reducible refine(tq_work w5 F0 B g task tail _ s _ ?hl_ F _ ?q1_ ((trQ_loc w5 F0 B g task tail _ s).below BWC.out HI.out z8_0)).mono ?_);(case hl_=>(have:=HL.out;omega));(case q1_=>exact BWC.out);rintro e wc ⟨rfl,F2,hI2,hA2⟩;have hA3_:=(Sep.After.of_below (z8_0:Below wp.heap.size wp _) _).trans hA2;have hI_:=Za hI2;have hA_:=Za (HA.out.trans hA3_);have hW_:=Za (Nat.le_trans BWC.out hA3_.size);have hS_:=Za (hA3_.blk BS.out (HA.out.out BS1.out NF.out));clear HI HA BWC BS;have HI:=hI_;have HA:=hA_;have BWC:=hW_;have BS:=hS_;clear hI_ hA_ hW_ hS_ hI2 hA2 hA3_;obtain⟨_,_,_,_,_⟩:=trQ_cells HI.out HX.out;obtain⟨⟨_,_,_,_,_,_⟩,-⟩:=Sep.blk6 BS.out)))
 go_wp2
 go_region_held3 (fun w'=>w'.cell? ⟨gx,0,none⟩=some (.pointer (some ⟨g,0,none⟩))∧w'.cell? ⟨g,14,none⟩=some (.slice A3 s.vs.length c3)∧w'.cell? ⟨gs,0,none⟩=some (.int .i64 4)∧w'.cell? ⟨gs,1,none⟩=some (.int .i64 x1)∧w'.cell? ⟨gs,2,none⟩=some (.int .i64 x2)∧w'.cell? ⟨gs,3,none⟩=some (.int .i64 x3)∧w'.cell? ⟨gs,4,none⟩=some (.int .i64 x4)∧w'.cell? ⟨gs,5,none⟩=some (.int .i64 x5)) (go_keep) ((first|(go_at_call 55;(with_reducible refine(impl_EvalExpr.calls kf _ _ s.vs _ _ _ y _ (Yl (trQ_vs HI.out).2.2 z8_0) HC3.out HY.out).mono ?_);rintro e wq ⟨rfl,hd⟩;have hbp:=Zj (z8_0:Below wc.heap.size wc _) hd;clear hd;have hI_:=Za ((trQ_loc w5 F0 B g task tail _ _).below BWC.out HI.out hbp);have hA_:=Za (HA.out.trans (Sep.After.of_below hbp _));have hW_:=Za (Nat.le_trans BWC.out hbp.size);have hS_:=Za (Zi BS.out hbp);clear HI HA BWC BS;have HI:=hI_;have HA:=hA_;have BWC:=hW_;have BS:=hS_;clear hI_ hA_ hW_ hS_ hbp;obtain⟨_,_,_,_,_⟩:=trQ_cells HI.out HX.out;obtain⟨⟨_,_,_,_,_,_⟩,-⟩:=Sep.blk6 BS.out)))
 go_wp2
 go_ret
 exact⟨rfl,_,HI.out,(Sep.After.of_below HB1.out F).trans HA.out⟩
set_option maxHeartbeats 8000000 in
set_option maxRecDepth 100000 in
theorem tq_step5 (kf:Nat) (w5:World) (F0:Nat→Prop) (B g gx gm gr ga:Nat) (task tail:Int) (A3:Option Addr) (n3 c3:Nat) (must rs:List Int) (Am Ar:Option Addr) (cm cr:Nat) (at_:Int) (X:TrX w5 F0 g gx gm gr ga (.slice Am must.length cm) (.slice Ar rs.length cr) at_)
  (hM:∀s F w,trQ w5 F0 B g task tail (.slice A3 n3 c3) s F w→Kd.C (Kd.int .i64) w Am must.length must) (hcm:must.length≤cm) (hR:∀s F w,trQ w5 F0 B g task tail (.slice A3 n3 c3) s F w→Kd.C (Kd.int .i64) w Ar rs.length rs) (hcr:rs.length≤cr)
  (s s':Tr) (x0 x1 x2 x3 x4 x5 c y:Int) (bo:Bool) (F:Nat→Prop) (w:World) (hB:B≤w.heap.size) (hI:trQ w5 F0 B g task tail (.slice A3 n3 c3) s F w) (hc:impl_StmtCost.f kf x0 x1 x2 x3 x4 x5=some c) (hl:s.st.length<4999999998000) (n1:¬x0=1) (n2:¬x0=2) (n3':¬x0=3) (n4:¬x0=4):
  Calls Tryz.prog 51 #[.agg #[.int .i64 x0,.int .i64 x1,.int .i64 x2,.int .i64 x3,.int .i64 x4,.int .i64 x5],.pointer (some ⟨gx,0,none⟩),.pointer (some ⟨gm,0,none⟩),.pointer (some ⟨gr,0,none⟩),.pointer (some ⟨ga,0,none⟩)] w fun e w'=>e= .returned (.bool true)∧∃F',trQ w5 F0 B g task tail (.slice A3 n3 c3) (s.write c (-1) 0) F' w'∧Sep.After F w F' w':=by
 obtain⟨e3,hc3,-⟩:=trQ_vs hI
 subst e3
 have HX:=Za X
 have HM:=Za hM
 have HR:=Za hR
 have HCM:=Za hcm
 have HCR:=Za hcr
 have HC3:=Za hc3
 have BWC:=Za hB
 have HI:=Za hI
 have HC:=Za hc
 have HL:=Za hl
 have e1:(x0==1)=false:=by simp[n1]
 have e2:(x0==2)=false:=by simp[n2]
 have e3:(x0==3)=false:=by simp[n3']
 have e4:(x0==4)=false:=by simp[n4]
 clear X hM hcm hR hcr hc3 hB hI hc hl n1 n2 n3' n4
 go_enter Tryz.func51,Tryz.ntmps51
 go_wp2_with (first
  |((with_reducible refine Zp (N:=5) rfl ?_);refine Zr ?hg (N:=5) ?hd (cs:= #[.int .i64 x0,.int .i64 x1,.int .i64 x2,.int .i64 x3,.int .i64 x4,.int .i64 x5]) (t:=92) ?hr ?_;(case hd=>rfl);(case hg=>rfl);(case hr=>exact z8_2);intro gs hgs w1 hs hb1;have HB1:=Za hb1;have BS:=Za hs;have NF:Aside0 (¬F gs):=⟨fun h=>by have:=((trQ_loc w5 F0 B g task tail (.slice A3 s.vs.length c3) s).lt HI.out gs h).2;omega⟩;have hI1:=(trQ_loc w5 F0 B g task tail (.slice A3 s.vs.length c3) s).below BWC.out HI.out hb1;have hW1:=Nat.le_trans BWC.out hb1.size;clear HI BWC;have HI:=Za hI1;have BWC:=Za hW1;have HA:=Za (Sep.After.refl F w1);clear hI1 hW1 hgs hs hb1;obtain⟨hx1,hm1,hr1,ha1,hv1⟩:=trQ_cells HI.out HX.out;obtain⟨⟨_,_,_,_,_,_⟩,-⟩:=Sep.blk6 BS.out)
  |fail)
 have BS1:=BS
 go_region_held3 (fun w'=>w'.cell? ⟨gx,0,none⟩=some (.pointer (some ⟨g,0,none⟩))∧w'.cell? ⟨gs,0,none⟩=some (.int .i64 x0)∧w'.cell? ⟨gs,1,none⟩=some (.int .i64 x1)∧w'.cell? ⟨gs,2,none⟩=some (.int .i64 x2)∧w'.cell? ⟨gs,3,none⟩=some (.int .i64 x3)∧w'.cell? ⟨gs,4,none⟩=some (.int .i64 x4)∧w'.cell? ⟨gs,5,none⟩=some (.int .i64 x5)) (go_keep) ((first|(go_at_call 53;(with_reducible refine(impl_StmtCost.calls kf _ _ _ _ _ _ c _ HC.out).mono ?_);rintro e wp ⟨rfl,hd⟩;have hbp:=Zj (z8_0:Below w1.heap.size w1 _) hd;clear hd;have hI_:=Za ((trQ_loc w5 F0 B g task tail _ _).below BWC.out HI.out hbp);have hA_:=Za (HA.out.trans (Sep.After.of_below hbp _));have hW_:=Za (Nat.le_trans BWC.out hbp.size);have hS_:=Za (Zi BS.out hbp);clear HI HA BWC BS;have HI:=hI_;have HA:=hA_;have BWC:=hW_;have BS:=hS_;clear hI_ hA_ hW_ hS_ hbp;obtain⟨_,_,_,_,_⟩:=trQ_cells HI.out HX.out;obtain⟨⟨_,_,_,_,_,_⟩,-⟩:=Sep.blk6 BS.out)|(go_at_call 52;(with_reducible refine(tq_work w5 F0 B g task tail _ s _ ?hl_ F _ ?q1_ ((trQ_loc w5 F0 B g task tail _ s).below BWC.out HI.out z8_0)).mono ?_);(case hl_=>(have:=HL.out;omega));(case q1_=>exact BWC.out);rintro e wc ⟨rfl,F2,hI2,hA2⟩;have hA3_:=(Sep.After.of_below (z8_0:Below wp.heap.size wp _) _).trans hA2;have hI_:=Za hI2;have hA_:=Za (HA.out.trans hA3_);have hW_:=Za (Nat.le_trans BWC.out hA3_.size);have hS_:=Za (hA3_.blk BS.out (HA.out.out BS1.out NF.out));clear HI HA BWC BS;have HI:=hI_;have HA:=hA_;have BWC:=hW_;have BS:=hS_;clear hI_ hA_ hW_ hS_ hI2 hA2 hA3_;obtain⟨_,_,_,_,_⟩:=trQ_cells HI.out HX.out;obtain⟨⟨_,_,_,_,_,_⟩,-⟩:=Sep.blk6 BS.out)))
 go_wp2
 all_goals first|(exact absurd ‹(x0==1)=true› (by rw[e1];decide))|(exact absurd ‹(x0==2)=true› (by rw[e2];decide))|(exact absurd ‹(x0==3)=true› (by rw[e3];decide))|(exact absurd ‹(x0==4)=true› (by rw[e4];decide))|skip
 go_ret
 exact⟨rfl,_,HI.out,(Sep.After.of_below HB1.out F).trans HA.out⟩
set_option maxHeartbeats 8000000 in
set_option maxRecDepth 100000 in
theorem tq_step2 (kf:Nat) (w5:World) (F0:Nat→Prop) (B g gx gm gr ga:Nat) (task tail:Int) (A3:Option Addr) (n3 c3:Nat) (must rs:List Int) (Am Ar:Option Addr) (cm cr:Nat) (at_:Int) (X:TrX w5 F0 g gx gm gr ga (.slice Am must.length cm) (.slice Ar rs.length cr) at_)
  (hM:∀s F w,trQ w5 F0 B g task tail (.slice A3 n3 c3) s F w→Kd.C (Kd.int .i64) w Am must.length must) (hcm:must.length≤cm) (hR:∀s F w,trQ w5 F0 B g task tail (.slice A3 n3 c3) s F w→Kd.C (Kd.int .i64) w Ar rs.length rs) (hcr:rs.length≤cr)
  (s s':Tr) (x0 x1 x2 x3 x4 x5 c y:Int) (bo:Bool) (F:Nat→Prop) (w:World) (hB:B≤w.heap.size) (hI:trQ w5 F0 B g task tail (.slice A3 n3 c3) s F w) (hc:impl_StmtCost.f kf x0 x1 x2 x3 x4 x5=some c) (hl:s.st.length<4999999998000) (hu:s.us.length<17592186044415) (hx:x0=2) (hy:impl_ReadSensor.f rs x2 (wrap64 (at_+(s.us.length:Int)))=some y) (ha:({(s.write c (-1) 0) with us:=s.us++[y]}:Tr).assign kf task tail must x1 y=some s'):
  Calls Tryz.prog 51 #[.agg #[.int .i64 x0,.int .i64 x1,.int .i64 x2,.int .i64 x3,.int .i64 x4,.int .i64 x5],.pointer (some ⟨gx,0,none⟩),.pointer (some ⟨gm,0,none⟩),.pointer (some ⟨gr,0,none⟩),.pointer (some ⟨ga,0,none⟩)] w fun e w'=>e= .returned (.bool true)∧∃F',trQ w5 F0 B g task tail (.slice A3 n3 c3) s' F' w'∧Sep.After F w F' w':=by
 obtain⟨e3,hc3,-⟩:=trQ_vs hI
 subst e3
 have HX:=Za X
 have HM:=Za hM
 have HR:=Za hR
 have HCM:=Za hcm
 have HCR:=Za hcr
 have HC3:=Za hc3
 have BWC:=Za hB
 have HI:=Za hI
 have HC:=Za hc
 have HL:=Za hl
 have HY:Aside0 (impl_ReadSensor.f rs x2 (IntKind.i64.wrap (at_+(s.us.length:Int)))=some y):=⟨by rw[i64_w];exact hy⟩
 have HS:=Za ha
 have HUL:=Za hu
 subst hx
 clear X hM hcm hR hcr hc3 hB hI hc hl hy ha hu
 go_enter Tryz.func51,Tryz.ntmps51
 go_wp2_with (first
  |((with_reducible refine Zp (N:=5) rfl ?_);refine Zr ?hg (N:=5) ?hd (cs:= #[.int .i64 2,.int .i64 x1,.int .i64 x2,.int .i64 x3,.int .i64 x4,.int .i64 x5]) (t:=92) ?hr ?_;(case hd=>rfl);(case hg=>rfl);(case hr=>exact z8_2);intro gs hgs w1 hs hb1;have HB1:=Za hb1;have BS:=Za hs;have NF:Aside0 (¬F gs):=⟨fun h=>by have:=((trQ_loc w5 F0 B g task tail (.slice A3 s.vs.length c3) s).lt HI.out gs h).2;omega⟩;have hI1:=(trQ_loc w5 F0 B g task tail (.slice A3 s.vs.length c3) s).below BWC.out HI.out hb1;have hW1:=Nat.le_trans BWC.out hb1.size;clear HI BWC;have HI:=Za hI1;have BWC:=Za hW1;have HA:=Za (Sep.After.refl F w1);clear hI1 hW1 hgs hs hb1;obtain⟨hx1,hm1,hr1,ha1,hv1⟩:=trQ_cells HI.out HX.out;obtain⟨⟨_,_,_,_,_,_⟩,-⟩:=Sep.blk6 BS.out)
  |fail)
 have BS1:=BS
 go_region_held3 (fun w'=>w'.cell? ⟨gx,0,none⟩=some (.pointer (some ⟨g,0,none⟩))∧w'.cell? ⟨gs,0,none⟩=some (.int .i64 2)∧w'.cell? ⟨gs,1,none⟩=some (.int .i64 x1)∧w'.cell? ⟨gs,2,none⟩=some (.int .i64 x2)∧w'.cell? ⟨gs,3,none⟩=some (.int .i64 x3)∧w'.cell? ⟨gs,4,none⟩=some (.int .i64 x4)∧w'.cell? ⟨gs,5,none⟩=some (.int .i64 x5)) (go_keep) ((first|(go_at_call 53;(with_reducible refine(impl_StmtCost.calls kf _ _ _ _ _ _ c _ HC.out).mono ?_);rintro e wp ⟨rfl,hd⟩;have hbp:=Zj (z8_0:Below w1.heap.size w1 _) hd;clear hd;have hI_:=Za ((trQ_loc w5 F0 B g task tail _ _).below BWC.out HI.out hbp);have hA_:=Za (HA.out.trans (Sep.After.of_below hbp _));have hW_:=Za (Nat.le_trans BWC.out hbp.size);have hS_:=Za (Zi BS.out hbp);clear HI HA BWC BS;have HI:=hI_;have HA:=hA_;have BWC:=hW_;have BS:=hS_;clear hI_ hA_ hW_ hS_ hbp;obtain⟨_,_,_,_,_⟩:=trQ_cells HI.out HX.out;obtain⟨⟨_,_,_,_,_,_⟩,-⟩:=Sep.blk6 BS.out)|(go_at_call 52;(with_reducible refine(tq_work w5 F0 B g task tail _ s _ ?hl_ F _ ?q1_ ((trQ_loc w5 F0 B g task tail _ s).below BWC.out HI.out z8_0)).mono ?_);(case hl_=>(have:=HL.out;omega));(case q1_=>exact BWC.out);rintro e wc ⟨rfl,F2,hI2,hA2⟩;have hA3_:=(Sep.After.of_below (z8_0:Below wp.heap.size wp _) _).trans hA2;have hI_:=Za hI2;have hA_:=Za (HA.out.trans hA3_);have hW_:=Za (Nat.le_trans BWC.out hA3_.size);have hS_:=Za (hA3_.blk BS.out (HA.out.out BS1.out NF.out));clear HI HA BWC BS;have HI:=hI_;have HA:=hA_;have BWC:=hW_;have BS:=hS_;clear hI_ hA_ hW_ hS_ hI2 hA2 hA3_;obtain⟨_,_,_,_,_⟩:=trQ_cells HI.out HX.out;obtain⟨⟨_,_,_,_,_,_⟩,-⟩:=Sep.blk6 BS.out)))
 go_wp2
 obtain⟨Fx,⟨v0,v1,v2,hb,⟨q0,q1,q2,q3⟩,hD,hF⟩,h2,h3,h4,hFF⟩:=HI.out;obtain⟨A1,c1,e1⟩:=Ym q1;subst e1;have HBg:=Za hb;have Q0:=Za q0;have Q1:=Za q1;have Q2:=Za q2;have Q3:=Za q3;have HD:=Za hD;have HF:=Za hF;have H2:=Za h2;have H3:=Za h3;have H4:=Za h4;have HFF:=Za hFF;clear hb q0 q1 q2 q3 hD hF h2 h3 h4 hFF
 have hu1:wc.cell? ⟨g,1,none⟩=some (.slice A1 s.us.length c1):=(Zb HBg.out 1).trans rfl
 go_region_held3 (fun w'=>w'.cell? ⟨gx,0,none⟩=some (.pointer (some ⟨g,0,none⟩))∧w'.cell? ⟨gr,0,none⟩=some (.slice Ar rs.length cr)∧w'.cell? ⟨ga,0,none⟩=some (.int .i64 at_)∧w'.cell? ⟨g,1,none⟩=some (.slice A1 s.us.length c1)∧w'.cell? ⟨gs,0,none⟩=some (.int .i64 2)∧w'.cell? ⟨gs,1,none⟩=some (.int .i64 x1)∧w'.cell? ⟨gs,2,none⟩=some (.int .i64 x2)∧w'.cell? ⟨gs,3,none⟩=some (.int .i64 x3)∧w'.cell? ⟨gs,4,none⟩=some (.int .i64 x4)∧w'.cell? ⟨gs,5,none⟩=some (.int .i64 x5)) (go_keep) ((first|(go_at_call 56;(with_reducible refine(impl_ReadSensor.calls _ _ rs _ _ y _ (Yl (HR.out _ _ _ HI.out) z8_0) HCR.out HY.out).mono ?_);rintro e wr ⟨rfl,hd⟩;have hbp:=Zj (z8_0:Below wc.heap.size wc _) hd.below;clear hd;have hg_:=Za (Zi HBg.out hbp);have q0_:=Za (Q0.out.keep (w1:=wr) (fun k hk=>hbp.block k (Kd.R_lt Q0.out k hk)));have q1_:=Za (Q1.out.keep (w1:=wr) (fun k hk=>hbp.block k (Kd.R_lt Q1.out k hk)));have q2_:=Za (Q2.out.keep (w1:=wr) (fun k hk=>hbp.block k (Kd.R_lt Q2.out k hk)));have q3_:=Za (Q3.out.keep (w1:=wr) (fun k hk=>hbp.block k (Kd.R_lt Q3.out k hk)));have h3_:Aside0 (∀k,k<w5.heap.size→¬F0 k→wr.heap[k]? =w5.heap[k]?):=⟨fun k hk hn=>(hbp.block k (Nat.lt_of_lt_of_le hk H4.out)).trans (H3.out k hk hn)⟩;have h4_:=Za (Nat.le_trans H4.out hbp.size);clear HBg Q0 Q1 Q2 Q3 H3 H4;have HBg:=hg_;have Q0:=q0_;have Q1:=q1_;have Q2:=q2_;have Q3:=q3_;have H3:=h3_;have H4:=h4_;clear hg_ q0_ q1_ q2_ q3_ h3_ h4_;have hI_:=Za ((trQ_loc w5 F0 B g task tail _ _).below BWC.out HI.out hbp);have hA_:=Za (HA.out.trans (Sep.After.of_below hbp _));have hW_:=Za (Nat.le_trans BWC.out hbp.size);have hS_:=Za (Zi BS.out hbp);clear HI HA BWC BS;have HI:=hI_;have HA:=hA_;have BWC:=hW_;have BS:=hS_;clear hI_ hA_ hW_ hS_ hbp;obtain⟨_,_,_,_,_⟩:=trQ_cells HI.out HX.out;obtain⟨⟨_,_,_,_,_,_⟩,-⟩:=Sep.blk6 BS.out;have hu_:wr.cell? ⟨g,1,none⟩=some (.slice A1 s.us.length c1):=(Zb HBg.out 1).trans rfl)))
 go_wp2
 have BX:=Za (trQ_blk HI.out HX.out.x HX.out.nx)
 refine start_ (n:=13) (S:=fun w'=>w'.cell? ⟨gx,0,none⟩=some (.pointer (some ⟨g,0,none⟩))∧w'.cell? ⟨g,1,none⟩=some (.slice A1 s.us.length c1)) (ds:=[12]) #[false,false,false,false,false,false,false,false,false,false,false,false,false] (by kernel_rfl) rfl rfl ⟨(Zb (BX.out) 0).trans rfl,(Zb (HBg.out) 1).trans rfl⟩ (fun hHeld=> ?_)
 refine take_ (i:=0) (N:=some 42) (v:= ?_) (a':= ?_) #[true,false,false,false,false,false,false,false,false,false,false,false,false] rfl rfl (by kernel_rfl) (fun _ _ _ h=>h) (Or.inl ⟨by rfl,?_⟩) hHeld ?_ ?_
 rotate_left
 ·intro w' s0
  obtain⟨_,_⟩:=s0
  go_simp
  with_reducible rfl
 rotate_left
 ·simp only[Act.put,Zy,Ya,Yb,i64_w,i32_w]
  rfl
 refine take_ (i:=1) (N:=some 43) (v:= ?_) (a':= ?_) #[true,true,false,false,false,false,false,false,false,false,false,false,false] rfl rfl (by kernel_rfl) (fun _ _ _ h=>h) (Or.inl ⟨by rfl,?_⟩) hHeld ?_ ?_
 rotate_left
 ·intro w' s0
  obtain⟨_,_⟩:=s0
  go_simp
  with_reducible rfl
 rotate_left
 ·simp only[Act.put,Zy,Ya,Yb,i64_w,i32_w]
  rfl
 refine pure_ (i:=2) (N:=some 44) (v:= ?_) (a':= ?_) #[true,true,true,false,false,false,false,false,false,false,false,false,false] rfl rfl (by kernel_rfl) (fun _ _ _ h=>h) (Or.inl ⟨by rfl,?_⟩) ?_ ?_
 rotate_left
 ·intro w'
  go_simp
  with_reducible rfl
 rotate_left
 ·simp only[Act.put,Zy,Ya,Yb,i64_w,i32_w]
  rfl
 refine pure_ (i:=3) (N:=some 45) (v:= ?_) (a':= ?_) #[true,true,true,true,false,false,false,false,false,false,false,false,false] rfl rfl (by kernel_rfl) (fun _ _ _ h=>h) (Or.inl ⟨by rfl,?_⟩) ?_ ?_
 rotate_left
 ·intro w'
  go_simp
  with_reducible rfl
 rotate_left
 ·simp only[Act.put,Zy,Ya,Yb,i64_w,i32_w]
  rfl
 refine pure_ (i:=4) (N:=some 46) (v:= ?_) (a':= ?_) #[true,true,true,true,true,false,false,false,false,false,false,false,false] rfl rfl (by kernel_rfl) (fun _ _ _ h=>h) (Or.inl ⟨by rfl,?_⟩) ?_ ?_
 rotate_left
 ·intro w'
  go_simp
  with_reducible rfl
 rotate_left
 ·simp only[Act.put,Zy,Ya,Yb,i64_w,i32_w]
  rfl
 refine take_ (i:=5) (N:=some 47) (v:= ?_) (a':= ?_) #[true,true,true,true,true,true,false,false,false,false,false,false,false] rfl rfl (by kernel_rfl) (fun _ _ _ h=>h) (Or.inl ⟨by rfl,?_⟩) hHeld ?_ ?_
 rotate_left
 ·intro w' s0
  obtain⟨_,_⟩:=s0
  go_simp
  with_reducible rfl
 rotate_left
 ·simp only[Act.put,Zy,Ya,Yb,i64_w,i32_w]
  rfl
 refine pure_ (i:=6) (N:=some 48) (v:= ?_) (a':= ?_) #[true,true,true,true,true,true,true,false,false,false,false,false,false] rfl rfl (by kernel_rfl) (fun _ _ _ h=>h) (Or.inl ⟨by rfl,?_⟩) ?_ ?_
 rotate_left
 ·intro w'
  go_simp
  with_reducible rfl
 rotate_left
 ·simp only[Act.put,Zy,Ya,Yb,i64_w,i32_w]
  rfl
 refine one_ (i:=7) (N:=some 49) #[true,true,true,true,true,true,true,true,false,false,false,false,false] rfl rfl (by kernel_rfl) (by decide) (fun K hK=> ?_)
 refine value_ (w1:= ?_) (v:= ?_) (by rfl) rfl ?_ ?_
 rotate_left 2
 ·go_simp
  constructor
  ·rfl
  ·rfl
 refine hK _ _ ⟨(Zb (blk_alloc (w:=wr) BX.out _) 0).trans rfl,(Zb (blk_alloc (w:=wr) HBg.out _) 1).trans rfl⟩ (fun hHeld=> ?_)
 clear hK K
 refine norm_ (a':= ?_) ?_ ?_
 rotate_left
 ·show Act.put _ (some 49) _=_
  simp only[Act.put,Zy,Ya,Yb,i64_w,i32_w]
  rfl
 refine one_ (i:=8) (N:=some 50) #[true,true,true,true,true,true,true,true,true,false,false,false,false] rfl rfl (by kernel_rfl) (by decide) (fun K hK=> ?_)
 refine Kd.R_append_step (w0:=wr) (W:=wr.drew) (Kd.int .i64) B (by rfl) (.tmp 47) (.tmp 49) 27 3 (.int .i64 0) 8 rfl Tryz.underlying27 info3 rfl (by decide) (by decide) (.slice A1 s.us.length c1) s.us y [.int .i64 y] (fun _=>True) (fun _=>False) rfl rfl rfl (fun _ hk=>hk.elim) (fun _ _=>trivial) (Q1.out.int (fun _ _=>trivial)) (by repeat(first|exact Zx _ _|apply Zf|apply Ze|apply Zh)) BWC.out (by have:=HUL.out;omega) ?_
 intro v9 w9 ho9 hb9 hg9 hat9
 obtain⟨A9,c9,e9⟩:=Ym ho9
 rw[List.length_append,List.length_singleton] at e9
 subst e9
 have HO9:=Za ho9
 have HG9:Aside0 (wr.grownBy w9 (Value.slice A1 s.us.length c1).ownBlock):=⟨⟨hg9.os,hg9.tape,hg9.output,hg9.size,hg9.block⟩⟩
 have AT9:=Za hat9
 have HBg9:=Za (blk_grown (w:=wr) HBg.out HG9.out (fun h=>Q1.out.ne HBg.out (by decide) g h.symm rfl))
 have BX9:=Za (blk_grown (w:=wr) BX.out HG9.out (fun h=>Q1.out.ne BX.out (by decide) gx h.symm rfl))
 clear ho9 hb9 hg9 hat9
 refine hK _ _ ⟨(Zb (BX9.out) 0).trans rfl,(Zb (HBg9.out) 1).trans rfl⟩ (fun hHeld=> ?_)
 clear hK K
 refine norm_ (a':= ?_) ?_ ?_
 rotate_left
 ·show Act.put _ (some 50) _=_
  simp only[Act.put,Zy,Ya,Yb,i64_w,i32_w]
  rfl
 refine pure_ (i:=9) (N:=some 51) (v:= ?_) (a':= ?_) #[true,true,true,true,true,true,true,true,true,true,false,false,false] rfl rfl (by kernel_rfl) (fun _ _ _ h=>h) (Or.inl ⟨by rfl,?_⟩) ?_ ?_
 rotate_left
 ·intro w'
  go_simp
  with_reducible rfl
 rotate_left
 ·simp only[Act.put,Zy,Ya,Yb,i64_w,i32_w]
  rfl
 refine pure_ (i:=10) (N:=some 52) (v:= ?_) (a':= ?_) #[true,true,true,true,true,true,true,true,true,true,true,false,false] rfl rfl (by kernel_rfl) (fun _ _ _ h=>h) (Or.inl ⟨by rfl,?_⟩) ?_ ?_
 rotate_left
 ·intro w'
  go_simp
  with_reducible rfl
 rotate_left
 ·simp only[Act.put,Zy,Ya,Yb,i64_w,i32_w]
  rfl
 refine pure_ (i:=11) (N:=some 53) (v:= ?_) (a':= ?_) #[true,true,true,true,true,true,true,true,true,true,true,true,false] rfl rfl (by kernel_rfl) (fun _ _ _ h=>h) (Or.inl ⟨by rfl,?_⟩) ?_ ?_
 rotate_left
 ·intro w'
  go_simp
  with_reducible rfl
 rotate_left
 ·simp only[Act.put,Zy,Ya,Yb,i64_w,i32_w]
  rfl
 refine last_ (i:=12) (N:=none) #[true,true,true,true,true,true,true,true,true,true,true,true,true] rfl rfl (by kernel_rfl) (by decide) (fun K hK=> ?_)
 have hU9:w9.cell? ⟨g,1,none⟩=some (.slice A1 s.us.length c1):=(Zb HBg9.out 1).trans rfl
 have hfU:=Zc HBg9.out 1
 refine skip_ (w1:= ?_) (by rfl) rfl ?_ ?_
 rotate_left
 ·go_simp
  rfl
 refine hK _ _ ?_
 clear hK K
 refine done_ (by kernel_rfl) ?_
 obtain⟨F7,i7,a7⟩:=trP_us HBg.out Q0.out Q1.out Q2.out Q3.out HD.out HF.out HO9.out HG9.out AT9.out
 obtain⟨F8,i8,a8⟩:=trQ_next H2.out H3.out H4.out HFF.out i7 a7
 clear hHeld i7 a7 hU9 hfU
 generalize w9.setCell ⟨g,1,none⟩ (.slice A9 (s.us.length+1) c9)=w8 at*
 have HI8:=Za i8
 have HA8:=Za (HA.out.trans a8)
 have BW8:=Za (Nat.le_trans BWC.out a8.size)
 have BS8:=Za (a8.blk BS.out (HA.out.out BS1.out NF.out))
 clear i8 a8 HI HA BWC BS
 have HI:=HI8
 have HA:=HA8
 have BWC:=BW8
 have BS:=BS8
 clear HI8 HA8 BW8 BS8
 obtain⟨_,_,_,_,_⟩:=trQ_cells HI.out HX.out
 obtain⟨⟨_,_,_,_,_,_⟩,-⟩:=Sep.blk6 BS.out
 go_wp2_with (first
  |(go_at_call 54;(with_reducible refine(tq_assign kf w5 F0 B g task tail _ must _ _ ({(s.write c (-1) 0) with us:=s.us++[y]}:Tr) s' _ _ HS.out F8 _ BWC.out HI.out (HM.out _ _ _ HI.out) HCM.out).mono ?_);rintro e wd ⟨rfl,F9,hI2,hA2⟩;have hA_:=Za (HA.out.trans hA2);have HI9:=Za hI2;clear HA;have HA:=hA_;clear hA_ hI2 hA2)
  |fail)
 go_ret
 exact⟨rfl,_,HI9.out,(Sep.After.of_below HB1.out F).trans HA.out⟩
def trStep (kf:Nat) (task tail:Int) (must rs:List Int) (at_:Int) (s:Tr) (x:S92):Option (Tr×Bool):=
 (impl_StmtCost.f kf x.f0 x.f1 x.f2 x.f3.f0 x.f3.f1 x.f3.f2).bind fun c=>if s.st.length<4999999998000∧s.us.length<17592186044415 then
  (if x.f0=1 then (impl_EvalExpr.f kf s.vs x.f3.f0 x.f3.f1 x.f3.f2).bind fun y=>((s.write c (-1) 0).assign kf task tail must x.f1 y).bind fun s'=>some (s',true)
  else if x.f0=2 then (impl_ReadSensor.f rs x.f2 (wrap64 (at_+(s.us.length:Int)))).bind fun y=>(({s.write c (-1) 0 with us:=s.us++[y]}:Tr).assign kf task tail must x.f1 y).bind fun s'=>some (s',true)
  else if x.f0=3 then (impl_EvalExpr.f kf s.vs x.f3.f0 x.f3.f1 x.f3.f2).bind fun y=>some ((s.write c (-1) 0).sendB tail y,true)
  else if x.f0=4 then (impl_EvalExpr.f kf s.vs x.f3.f0 x.f3.f1 x.f3.f2).bind fun y=>some (s.write c (-1) 0,y != 0)
  else some (s.write c (-1) 0,true)) else none
def Tr.zero (vs:List Int):Tr:=⟨[],[],0,[],fun _=>false,vs⟩
def impl_traceOf.f (k:Nat) (l0:List S75) (l1 l2:List Int) (a3:Int):Option (List S84×List Int):=
 if 8<(l1.length:Int) then (impl_UnpackControl.f (rd l1 8)).bind fun u=>(impl_MemVars.f l1).bind fun vs=>if 0≤u.1∧u.1<(l0.length:Int) then
  (impl_MustLog.f k (rd_T75 l0 u.1).f0 (rd_T75 l0 u.1).f1.f0 (rd_T75 l0 u.1).f1.f1 (rd_T75 l0 u.1).f1.f2).bind fun must=>
  (impl_walk.f (trStep k u.1 u.2.2 must l2 a3) k (rd_T75 l0 u.1).f0 (Tr.zero vs)).bind fun s=>
  (impl_NextTask.f k l0 s.vs u.1).bind fun n=>(impl_PackControl.f n 0 (min 24 (wrap64 (u.2.2+s.sn)))).bind fun c=>if s.st.length<4999999999000 then some (((s.write 1 (-1) 0).write 3 8 c).st,s.us) else none
  else none else none
theorem tq_write (w5:World) (F0:Nat→Prop) (B g:Nat) (task tail:Int) (v3:Value) (s:Tr) (at_ v:Int) (hl:s.st.length<5000000000000) (F:Nat→Prop) (w:World) (hB:B≤w.heap.size) (hI:trQ w5 F0 B g task tail v3 s F w):
  Calls Tryz.prog 58 #[.pointer (some ⟨g,0,none⟩),.int .i64 at_,.int .i64 v] w fun e w'=>e= .returned (.tuple #[])∧∃F',trQ w5 F0 B g task tail v3 (s.write 3 at_ v) F' w'∧Sep.After F w F' w':=
 tq_calls hI (fun Fx h=>(tr_write B g task tail v3 s at_ v hl Fx w hB h).mono (fun e w' ⟨h1,F',h2,h3,_⟩=>⟨h1,F',h2,h3⟩))
theorem tq_step (kf:Nat) (w5:World) (F0:Nat→Prop) (B g gx gm gr ga:Nat) (task tail:Int) (A3:Option Addr) (n3 c3:Nat) (must rs:List Int) (Am Ar:Option Addr) (cm cr:Nat) (at_:Int) (X:TrX w5 F0 g gx gm gr ga (.slice Am must.length cm) (.slice Ar rs.length cr) at_)
  (hM:∀s F w,trQ w5 F0 B g task tail (.slice A3 n3 c3) s F w→Kd.C (Kd.int .i64) w Am must.length must) (hcm:must.length≤cm) (hR:∀s F w,trQ w5 F0 B g task tail (.slice A3 n3 c3) s F w→Kd.C (Kd.int .i64) w Ar rs.length rs) (hcr:rs.length≤cr)
  (s:Tr) (x:S92) (s':Tr) (b:Bool) (F:Nat→Prop) (w:World) (hB:B≤w.heap.size) (h:trStep kf task tail must rs at_ s x=some (s',b)) (hI:trQ w5 F0 B g task tail (.slice A3 n3 c3) s F w):
  Calls Tryz.prog 51 (#[.agg #[.int .i64 x.f0,.int .i64 x.f1,.int .i64 x.f2,.int .i64 x.f3.f0,.int .i64 x.f3.f1,.int .i64 x.f3.f2]]++ #[.pointer (some ⟨gx,0,none⟩),.pointer (some ⟨gm,0,none⟩),.pointer (some ⟨gr,0,none⟩),.pointer (some ⟨ga,0,none⟩)]) w fun e w'=>e= .returned (.bool b)∧∃F',trQ w5 F0 B g task tail (.slice A3 n3 c3) s' F' w'∧Sep.After F w F' w':=by
 unfold trStep at h
 obtain⟨c,hc,h⟩:=Zg h
 by_cases cl:s.st.length<4999999998000∧s.us.length<17592186044415
 ·rw[if_pos cl] at h
  by_cases k1:x.f0=1
  ·rw[if_pos k1] at h
   obtain⟨y,hy,h⟩:=Zg h
   obtain⟨s2,ha,h⟩:=Zg h
   cases h
   exact tq_step1 kf w5 F0 B g gx gm gr ga task tail A3 n3 c3 must rs Am Ar cm cr at_ X hM hcm hR hcr s s' _ _ _ _ _ _ c y true F w hB hI hc cl.1 k1 hy ha
  rw[if_neg k1] at h
  by_cases k2:x.f0=2
  ·rw[if_pos k2] at h
   obtain⟨y,hy,h⟩:=Zg h
   obtain⟨s2,ha,h⟩:=Zg h
   cases h
   exact tq_step2 kf w5 F0 B g gx gm gr ga task tail A3 n3 c3 must rs Am Ar cm cr at_ X hM hcm hR hcr s s' _ _ _ _ _ _ c y true F w hB hI hc cl.1 cl.2 k2 hy ha
  rw[if_neg k2] at h
  by_cases k3:x.f0=3
  ·rw[if_pos k3] at h
   obtain⟨y,hy,h⟩:=Zg h
   cases h
   exact tq_step3 kf w5 F0 B g gx gm gr ga task tail A3 n3 c3 must rs Am Ar cm cr at_ X hM hcm hR hcr s s _ _ _ _ _ _ c y true F w hB hI hc cl.1 k3 hy
  rw[if_neg k3] at h
  by_cases k4:x.f0=4
  ·rw[if_pos k4] at h
   obtain⟨y,hy,h⟩:=Zg h
   cases h
   exact tq_step4 kf w5 F0 B g gx gm gr ga task tail A3 n3 c3 must rs Am Ar cm cr at_ X hM hcm hR hcr s s _ _ _ _ _ _ c y true F w hB hI hc cl.1 k4 hy
  rw[if_neg k4] at h
  cases h
  exact tq_step5 kf w5 F0 B g gx gm gr ga task tail A3 n3 c3 must rs Am Ar cm cr at_ X hM hcm hR hcr s s _ _ _ _ _ _ c 0 true F w hB hI hc cl.1 k1 k2 k3 k4
 ·rw[if_neg cl] at h
  cases h
theorem heapTaskT:Kd.Heap k75:=Kd.heap_iso _ (Kd.heap_pair (Kd.heap_slice _ heapStmt) (Kd.heap_iso _ (Kd.heap_pair (Kd.heap_int .i64) (Kd.heap_pair (Kd.heap_int .i64) (Kd.heap_int .i64)))))
set_option maxHeartbeats 8000000 in
set_option maxRecDepth 100000 in
theorem impl_traceOf.calls (k:Nat) (A0_0:Option Addr) (c0_0:Nat) (l0_0:List S75) (A1:Option Addr) (c1:Nat) (l1:List Int) (A2:Option Addr) (c2:Nat) (l2:List Int) (a3:Int) (r1:List S84) (r2:List Int) (w:World)
  (hr0_0:Kd.C k75 w A0_0 l0_0.length l0_0) (hc0_0:l0_0.length≤c0_0) (hr1:Kd.C (Kd.int .i64) w A1 l1.length l1) (hc1:l1.length≤c1) (hr2:Kd.C (Kd.int .i64) w A2 l2.length l2) (hc2:l2.length≤c2) (h:impl_traceOf.f k l0_0 l1 l2 a3=some (r1,r2)):
  Calls Tryz.prog 28 #[.agg #[.slice A0_0 l0_0.length c0_0],.slice A1 l1.length c1,.slice A2 l2.length c2,.int .i64 a3] w fun e w'=>∃v0_ v1_:Value,e= .returned (.agg #[v0_,v1_])∧Kd.R k84 84 w' w.heap.size (fun _=>True) v0_ r1∧Kd.R (Kd.int .i64) 3 w' w.heap.size (fun _=>True) v1_ r2∧Below w.heap.size w w':=by
 unfold impl_traceOf.f at h
 by_cases cl:8<(l1.length:Int)
 case neg=>rw[if_neg cl] at h;cases h
 rw[if_pos cl] at h
 obtain⟨⟨task,cnt,tail⟩,hu,h⟩:=Zg h
 obtain⟨vs,hv,h⟩:=Zg h
 by_cases ct:0≤task∧task<(l0_0.length:Int)
 case neg=>rw[if_neg ct] at h;cases h
 rw[if_pos ct] at h
 obtain⟨must,hm,h⟩:=Zg h
 obtain⟨s,hs,h⟩:=Zg h
 obtain⟨nx,hn,h⟩:=Zg h
 obtain⟨pc,hp,h⟩:=Zg h
 by_cases cs:s.st.length<4999999999000
 case neg=>rw[if_neg cs] at h;cases h
 rw[if_pos cs] at h
 obtain⟨he1,he2⟩:=Prod.mk.inj (Zk h)
 have HE1:=Za he1
 have HE2:=Za he2
 clear h he1 he2
 simp only at hu hv hm hs hn hp ct
 obtain⟨ad1,e1,h8⟩:=Kd.at_int hr1 8 (by omega) cl
 have CT1:=ct
 obtain⟨ad,At,ct_,e,hx0,hx1,hx2,hx3,hl1,hi1⟩:=at_T75 hr0_0 task ct.1 ct.2
 cases e
 cases e1
 simp only[show(8:Int).toNat=8 from rfl,Nat.reduceMul,Nat.reduceEqDiff,Go.Addr.add,↓reduceIte] at h8
 clear ct
 obtain⟨ct,hct⟩:∃c,c=ct_:=⟨_,rfl⟩
 subst hct
 have HR0:=Za hr0_0
 have HC0:=Za hc0_0
 have HR1:=Za hr1
 have HC1:=Za hc1
 have HR2:=Za hr2
 have HC2:=Za hc2
 have HU:=Za hu
 have HV:=Za hv
 have HM:=Za hm
 have HS:=Za hs
 have HNX:=Za hn
 have HPC:=Za hp
 have HCS:=Za cs
 have H8:=Za h8
 have HX0:=Za hx0
 have HX1:=Za hx1
 have HX2:=Za hx2
 have HX3:=Za hx3
 have HL1:=Za hl1
 have HI1:=Za hi1
 have HW:=Za (Zx w.heap.size w)
 have c8:=eq_true cl
 have c8n:(8<l1.length)=True:=eq_true (by omega)
 have t0:=eq_true CT1.1
 have t1:=eq_true CT1.2
 clear hr0_0 hc0_0 hr1 hc1 hr2 hc2 hu hv hm hs hn hp cs h8 hx0 hx1 hx2 hx3 hl1 hi1 cl CT1
 go_enter Tryz.func28,Tryz.ntmps28
 go_wp2_with (first
  |((with_reducible refine Zp (N:=4) rfl ?_);refine Zr ?hg (N:=4) ?hd (cs:= #[.slice (some ad) l0_0.length c0_0]) (t:=26) ?hr ?_;(case hd=>rfl);(case hg=>rfl);(case hr=>exact z8_2);intro gp hgv w1 hcs hb;have GP:Aside0 (w.heap.size≤gp):=⟨by rw[hgv];exact HW.out.size⟩;clear hgv;replace HW:=Za (Zj HW.out hb);clear hb;have BP:=Za hcs;clear hcs)
  |((with_reducible refine Zp (N:=6) rfl ?_);refine Zr ?hg (N:=6) ?hd (cs:= #[.slice A2 l2.length c2]) (t:=27) ?hr ?_;(case hd=>rfl);(case hg=>rfl);(case hr=>exact z8_2);intro gr hgv w2 hcs hb;have GR:Aside0 (w.heap.size≤gr):=⟨by rw[hgv];exact HW.out.size⟩;clear hgv;replace BP:=Za (Zi BP.out hb);replace HW:=Za (Zj HW.out hb);clear hb;have BR:=Za hcs;clear hcs)
  |((with_reducible refine Zp (N:=7) rfl ?_);refine Zr ?hg (N:=7) ?hd (cs:= #[.int .i64 a3]) (t:=3) ?hr ?_;(case hd=>rfl);(case hg=>rfl);(case hr=>exact z8_2);intro ga hgv w3 hcs hb;have GA:Aside0 (w.heap.size≤ga):=⟨by rw[hgv];exact HW.out.size⟩;clear hgv;replace BP:=Za (Zi BP.out hb);replace BR:=Za (Zi BR.out hb);replace HW:=Za (Zj HW.out hb);clear hb;have BA:=Za hcs;clear hcs)
  |((with_reducible refine Zp (N:=8) rfl ?_);refine Zr ?hg (N:=8) ?hd (cs:= #[.slice none 0 0,.slice none 0 0]) (t:=59) ?hr ?_;(case hd=>rfl);(case hg=>rfl);(case hr=>exact z8_2);intro g8 hgv w4 hcs hb;have G8:Aside0 (w.heap.size≤g8):=⟨by rw[hgv];exact HW.out.size⟩;clear hgv;replace BP:=Za (Zi BP.out hb);replace BR:=Za (Zi BR.out hb);replace BA:=Za (Zi BA.out hb);replace HW:=Za (Zj HW.out hb);clear hb;have B8:=Za hcs;clear hcs;have hm8:=pw_cell_below HW.out H8.out)
  |(go_at_call 45;(with_reducible refine(impl_UnpackControl.calls _ task cnt tail _ HU.out).mono ?_);rintro e w5 ⟨rfl,hd⟩;have hb:=hd.below;clear hd;replace BP:=Za (Zi BP.out hb);replace BR:=Za (Zi BR.out hb);replace BA:=Za (Zi BA.out hb);replace B8:=Za (Zi B8.out hb);replace HW:=Za (Zj HW.out hb);clear hb)
  |(go_at_call 48;(with_reducible refine(impl_MemVars.calls _ _ l1 vs _ (Yl HR1.out HW.out) HC1.out HV.out).mono ?_);rintro e w6 ⟨v_,rfl,ho,hb⟩;obtain⟨A3,c3,e3⟩:=Ym ho;subst e3;obtain⟨n3,hn3⟩:∃n,n=vs.length:=⟨_,rfl⟩;rw[←hn3] at ho ⊢;have HN3:=Za hn3;clear hn3;have VR:Aside0 (trRow (Kd.int .i64) 3 w.heap.size w6 (.slice A3 n3 c3) vs):=⟨Kd.R_of_own (own_less (Kd.own_of_R ho) HW.out.size) (fun _ hk=>hk)⟩;have VN:Aside0 (∀k,(Value.slice A3 n3 c3).ownBlock=some k→k≠ga):=⟨fun k hk h=>by have:=Yo ho k hk;have:=blk_lt BA.out;omega⟩;clear ho;replace BP:=Za (Zi BP.out hb);replace BR:=Za (Zi BR.out hb);replace BA:=Za (Zi BA.out hb);replace B8:=Za (Zi B8.out hb);replace HW:=Za (Zj HW.out hb);clear hb)
  |((with_reducible refine Zp (N:=28) rfl ?_);refine Zr ?hg (N:=28) ?hd (cs:= #[.slice none 0 0,.slice none 0 0,.int .i64 task,.int .i64 tail,.int .i64 0,.slice none 0 0,.bool false,.bool false,.bool false,.bool false,.bool false,.bool false,.bool false,.bool false,.slice A3 n3 c3]) (t:=88) ?hr ?_;(case hd=>rfl);(case hg=>rfl);(case hr=>exact z8_2);intro g hgv w7 hcs hb;have GG:Aside0 (w.heap.size≤g):=⟨by rw[hgv];exact HW.out.size⟩;clear hgv;replace BP:=Za (Zi BP.out hb);replace BR:=Za (Zi BR.out hb);replace BA:=Za (Zi BA.out hb);replace B8:=Za (Zi B8.out hb);replace VR:=Za (VR.out.keep (w1:=w7) (fun k hk=>hb.block k (Kd.R_lt VR.out k hk)));replace HW:=Za (Zj HW.out hb);clear hb;have BG:=Za hcs;clear hcs)
  |((with_reducible refine Zp (N:=12) rfl ?_);refine Zr ?hg (N:=12) ?hd (cs:= #[.pointer none]) (t:=85) ?hr ?_;(case hd=>rfl);(case hg=>rfl);(case hr=>exact z8_2);intro gx hgv w8 hcs hb;have GX:Aside0 (w.heap.size≤gx):=⟨by rw[hgv];exact HW.out.size⟩;have LE_:Aside0 (w7.heap.size≤gx):=⟨Nat.le_of_eq hgv.symm⟩;have HBm:=Za hb;have BX:=Za hcs;clear hgv hb hcs;have hc_:=Zb BX.out 0;have hf_:=Zc BX.out 0)
  |((with_reducible refine Ye (t:=85) (p:=12) rfl ?_);refine Yd (t:=85) (p:=12) (v:= .tmp 28) (w1:=w8.setCell ⟨gx,0,none⟩ (.pointer (some ⟨g,0,none⟩))) ?hg ?ho ?hn ?hr ?_;(case ho=>rfl);(case hg=>rfl);(case hn=>rfl);(case hr=>exact z8_2);intro w9 hw;have hb:Below w7.heap.size w7 w9:=hw ▸ Zd HBm.out LE_.out;replace BX:=Za (hw ▸ blk_put BX.out 0 (.pointer (some ⟨g,0,none⟩)) rfl);clear hw HBm LE_;replace BP:=Za (Zi BP.out hb);replace BR:=Za (Zi BR.out hb);replace BA:=Za (Zi BA.out hb);replace B8:=Za (Zi B8.out hb);replace BG:=Za (Zi BG.out hb);replace VR:=Za (VR.out.keep (w1:=w9) (fun k hk=>hb.block k (Kd.R_lt VR.out k hk)));replace HW:=Za (Zj HW.out hb);clear hb;have hp9:w9.cell? ⟨gp,0,none⟩=some (.slice (some ad) l0_0.length c0_0):=(Zb BP.out 0).trans rfl;have hx0:=pw_cell_below HW.out HX0.out;have hx1:=pw_cell_below HW.out HX1.out;have hx2:=pw_cell_below HW.out HX2.out;have hx3:=pw_cell_below HW.out HX3.out)
  |((with_reducible refine Zp (N:=13) rfl ?_);refine Zr ?hg (N:=13) ?hd (cs:= #[.slice none 0 0,.int .i64 0,.int .i64 0,.int .i64 0]) (t:=75) ?hr ?_;(case hd=>rfl);(case hg=>rfl);(case hr=>exact z8_2);intro gt hgv w10 hcs hb;have GT:Aside0 (w.heap.size≤gt):=⟨by rw[hgv];exact HW.out.size⟩;have LE_:Aside0 (w9.heap.size≤gt):=⟨Nat.le_of_eq hgv.symm⟩;have HBm:=Za hb;have BT:=Za hcs;clear hgv hb hcs;obtain⟨⟨_,_,_,_⟩,⟨_,_,_,_⟩⟩:=Sep.blk4 BT.out)
  |((with_reducible refine Ye (t:=75) (p:=13) rfl ?_);refine Yd (t:=75) (p:=13) (v:= .tmp 33) (w1:=Sep.put4 w10 gt (.slice At (rd_T75 l0_0 task).f0.length ct) (.int .i64 (rd_T75 l0_0 task).f1.f0) (.int .i64 (rd_T75 l0_0 task).f1.f1) (.int .i64 (rd_T75 l0_0 task).f1.f2)) ?hg ?ho ?hn ?hr ?_;(case ho=>rfl);(case hg=>rfl);(case hn=>rfl);(case hr=>exact z8_2);intro w11 hw;have hb:Below w9.heap.size w9 w11:=hw ▸ Sep.put4_below HBm.out LE_.out (.slice At (rd_T75 l0_0 task).f0.length ct) (.int .i64 (rd_T75 l0_0 task).f1.f0) (.int .i64 (rd_T75 l0_0 task).f1.f1) (.int .i64 (rd_T75 l0_0 task).f1.f2);replace BT:=Za (hw ▸ Sep.put4_blk BT.out (.slice At (rd_T75 l0_0 task).f0.length ct) (.int .i64 (rd_T75 l0_0 task).f1.f0) (.int .i64 (rd_T75 l0_0 task).f1.f1) (.int .i64 (rd_T75 l0_0 task).f1.f2));clear hw HBm LE_;replace BP:=Za (Zi BP.out hb);replace BR:=Za (Zi BR.out hb);replace BA:=Za (Zi BA.out hb);replace B8:=Za (Zi B8.out hb);replace BG:=Za (Zi BG.out hb);replace BX:=Za (Zi BX.out hb);replace VR:=Za (VR.out.keep (w1:=w11) (fun k hk=>hb.block k (Kd.R_lt VR.out k hk)));replace HW:=Za (Zj HW.out hb);clear hb;obtain⟨⟨_,_,_,_⟩,⟨_,_,_,_⟩⟩:=Sep.blk4 BT.out)
  |(go_at_call 49;(with_reducible refine(impl_MustLog.calls k _ _ (rd_T75 l0_0 task).f0 _ _ _ must _ (heapStmt.C (fun k hk=>HW.out.block k hk) HI1.out) HL1.out HM.out).mono ?_);rintro e w12 ⟨v_,rfl,ho,hb⟩;obtain⟨Am,cm,em⟩:=Ym ho;subst em;have MU:Aside0 (trRow (Kd.int .i64) 3 w.heap.size w12 (.slice Am must.length cm) must):=⟨Kd.R_of_own (own_less (Kd.own_of_R ho) HW.out.size) (fun _ hk=>hk)⟩;have MN:Aside0 (∀k,(Value.slice Am must.length cm).ownBlock=some k→¬(k=g∨(Value.slice A3 n3 c3).ownBlock=some k)):=⟨fun k hk h=>h.elim (fun e=>by have:=Yo ho k hk;have:=blk_lt BG.out;omega) (fun e=>by have:=Yo ho k hk;have:=Kd.R_lt VR.out k e;omega)⟩;clear ho;replace BP:=Za (Zi BP.out hb);replace BR:=Za (Zi BR.out hb);replace BA:=Za (Zi BA.out hb);replace B8:=Za (Zi B8.out hb);replace BG:=Za (Zi BG.out hb);replace BX:=Za (Zi BX.out hb);replace BT:=Za (Zi BT.out hb);replace VR:=Za (VR.out.keep (w1:=w12) (fun k hk=>hb.block k (Kd.R_lt VR.out k hk)));replace HW:=Za (Zj HW.out hb);clear hb)
  |((with_reducible refine Zp (N:=14) rfl ?_);refine Zr ?hg (N:=14) ?hd (cs:= #[.slice none 0 0]) (t:=27) ?hr ?_;(case hd=>rfl);(case hg=>rfl);(case hr=>exact z8_2);intro gm hgv w13 hcs hb;have GM:Aside0 (w.heap.size≤gm):=⟨by rw[hgv];exact HW.out.size⟩;have LE_:Aside0 (w12.heap.size≤gm):=⟨Nat.le_of_eq hgv.symm⟩;have HBm:=Za hb;have BM:=Za hcs;clear hgv hb hcs;have hc_:=Zb BM.out 0;have hf_:=Zc BM.out 0)
  |((with_reducible refine Ye (t:=27) (p:=14) rfl ?_);refine Yd (t:=27) (p:=14) (v:= .tmp 35) (w1:=w13.setCell ⟨gm,0,none⟩ (.slice Am must.length cm)) ?hg ?ho ?hn ?hr ?_;(case ho=>rfl);(case hg=>rfl);(case hn=>rfl);(case hr=>exact z8_2);intro w14 hw;have hb:Below w12.heap.size w12 w14:=hw ▸ Zd HBm.out LE_.out;replace BM:=Za (hw ▸ blk_put BM.out 0 (.slice Am must.length cm) rfl);clear hw HBm LE_;replace BP:=Za (Zi BP.out hb);replace BR:=Za (Zi BR.out hb);replace BA:=Za (Zi BA.out hb);replace B8:=Za (Zi B8.out hb);replace BG:=Za (Zi BG.out hb);replace BX:=Za (Zi BX.out hb);replace BT:=Za (Zi BT.out hb);replace VR:=Za (VR.out.keep (w1:=w14) (fun k hk=>hb.block k (Kd.R_lt VR.out k hk)));replace MU:=Za (MU.out.keep (w1:=w14) (fun k hk=>hb.block k (Kd.R_lt MU.out k hk)));replace HW:=Za (Zj HW.out hb);clear hb;obtain⟨⟨_,_,_,_⟩,⟨_,_,_,_⟩⟩:=Sep.blk4 BT.out)
  |fail)
 obtain⟨F0,hF0⟩:∃F0:Nat→Prop,∀k,F0 k↔k=g∨(Value.slice none 0 0).ownBlock=some k∨(Value.slice none 0 0).ownBlock=some k∨(Value.slice none 0 0).ownBlock=some k∨(Value.slice A3 n3 c3).ownBlock=some k:=⟨_,fun _=>Iff.rfl⟩
 have F0':∀k,F0 k→k=g∨(Value.slice A3 n3 c3).ownBlock=some k:=fun k h=>by
  rcases (hF0 k).1 h with h|h|h|h|h
  ·exact .inl h
  ·simp[Value.ownBlock] at h
  ·simp[Value.ownBlock] at h
  ·simp[Value.ownBlock] at h
  ·exact .inr h
 have ng:∀(q:Nat) (cs:Array Value) (t:TypeId),w14.heap[q]? =some (.cells cs t (0,0))→88≠t→(3≠t∨q=ga)→¬F0 q:=fun q cs t hb h1 h2 h=>(F0' q h).elim (fun e=>blk_ne hb BG.out (fun e=>h1 e.symm) e) (fun e=>h2.elim (fun h2=>VR.out.ne hb h2 q e rfl) (fun h2=>VN.out q e h2))
 have HX:Aside0 (TrX w14 F0 g gx gm gr ga (.slice Am must.length cm) (.slice A2 l2.length c2) a3):=⟨⟨BX.out,BM.out,BR.out,BA.out,ng gx _ _ BX.out (by decide) (.inl (by decide)),ng gm _ _ BM.out (by decide) (.inl (by decide)),ng gr _ _ BR.out (by decide) (.inl (by decide)),ng ga _ _ BA.out (by decide) (.inr rfl)⟩⟩
 have NGP:Aside0 (¬F0 gp):=⟨ng gp _ _ BP.out (by decide) (.inl (by decide))⟩
 have NG8:Aside0 (¬F0 g8):=⟨ng g8 _ _ B8.out (by decide) (.inl (by decide))⟩
 have FB:Aside0 (∀k,F0 k→w.heap.size≤k):=⟨fun k h=>(F0' k h).elim (fun e=>e ▸ GG.out) (fun e=>Yo VR.out k e)⟩
 have OQ:Aside0 (∀s F w',trQ w14 F0 w.heap.size g task tail (.slice A3 n3 c3) s F w'→∀k,k<w.heap.size→w'.heap[k]? =w.heap[k]?):=⟨fun s F w' h k hk=>by
  obtain⟨_,_,_,h3,_,_⟩:=h
  rw[h3 k (Nat.lt_of_lt_of_le hk HW.out.size) (fun h=>by have:=FB.out k h;omega)]
  exact HW.out.block k hk⟩
 have HMQ:Aside0 (∀s F w',trQ w14 F0 w.heap.size g task tail (.slice A3 n3 c3) s F w'→Kd.C (Kd.int .i64) w' Am must.length must):=⟨fun s F w' h=>(Yp (trQ_row h MU.out (fun k hk hf=>MN.out k hk (F0' k hf)))).2.2⟩
 have HRQ:Aside0 (∀s F w',trQ w14 F0 w.heap.size g task tail (.slice A3 n3 c3) s F w'→Kd.C (Kd.int .i64) w' A2 l2.length l2):=⟨fun s F w' h=>(Kd.heap_int .i64).C (fun k hk=>OQ.out s F w' h k hk) HR2.out⟩
 have HCM:=Za (Yp MU.out).2.1
 have hP:trP w.heap.size g task tail (.slice A3 n3 c3) (Tr.zero vs) F0 w14:=⟨.slice none 0 0,.slice none 0 0,.slice none 0 0,BG.out,⟨Kd.R_nil _ _ _ _ _,Kd.R_nil _ _ _ _ _,Kd.R_nil _ _ _ _ _,VR.out⟩,⟨fun k h=>by simp[Value.ownBlock] at h,fun k h=>by simp[Value.ownBlock] at h,GG.out⟩,hF0⟩
 obtain⟨FF,hFF⟩:∃FF:Nat→Prop,∀k,FF k↔F0 k∨(w.heap.size≤k∧k<w14.heap.size):=⟨_,fun _=>Iff.rfl⟩
 have HQ:Aside0 (trQ w14 F0 w.heap.size g task tail (.slice A3 n3 c3) (Tr.zero vs) FF w14):=⟨⟨F0,hP,fun k h=> .inl h,fun k _ _=>rfl,Nat.le_refl _,hFF⟩⟩
 have FFB:Aside0 (∀k,FF k→w.heap.size≤k):=⟨fun k h=>((hFF k).1 h).elim (FB.out k) (fun h=>h.1)⟩
 clear hF0 F0' ng hP hFF
 refine(impl_walk.calls (B:=w.heap.size) (trStep k task tail must l2 a3) (trQ w14 F0 w.heap.size g task tail (.slice A3 n3 c3)) 51 _ (fun args w=>enters_ Tryz.func51 (by kernel_rfl) (by kernel_rfl) args w) (fun s=>trQ_loc w14 F0 w.heap.size g task tail _ s)
  (fun s x s' b F' w' hB' hs' hi'=>tq_step k w14 F0 w.heap.size g gx gm gr ga task tail A3 n3 c3 must l2 Am A2 cm c2 a3 HX.out HMQ.out HCM.out HRQ.out HC2.out s x s' b F' w' hB' hs' hi') k At ct _ (Tr.zero vs) s FF w14 (fun w' hk=>heapStmt.C (fun k h=>(hk.2 k (Nat.lt_of_lt_of_le h HW.out.size) (fun hf=>by have:=FFB.out k hf;omega)).trans (HW.out.block k h)) HI1.out) HL1.out HW.out.size HQ.out HS.out).mono ?_
 rintro e w15 ⟨rfl,F15,hI15,hA15⟩
 obtain⟨e3,hc3,-⟩:=trQ_vs hI15
 subst e3
 have HC3:=Za hc3
 have HI:=Za hI15
 have HA:=Za hA15
 have BWC:=Za (Nat.le_trans HW.out.size hA15.size)
 clear hc3 hI15 hA15
 have HPW:Aside0 (impl_PackControl.f nx 0 (min 24 (IntKind.i64.wrap (tail+s.sn)))=some pc):=⟨by rw[i64_w];exact HPC.out⟩
 obtain⟨_,_,_,_,_⟩:=trQ_cells HI.out HX.out;have hpw15:w15.cell? ⟨gp,0,none⟩=some (.slice (some ad) l0_0.length c0_0):=(Zb (trQ_blk HI.out BP.out NGP.out) 0).trans rfl;have hn_:=trQ_sn HI.out;have hnw15:w15.cell? ⟨g,4,none⟩=some (.int .i64 s.sn):=hn_;clear hn_
 go_wp2_with (first
  |(go_at_call 52;(with_reducible refine(tq_work w14 F0 w.heap.size g task tail _ s _ ?hl_ F15 _ ?q1_ HI.out).mono ?_);(case hl_=>(have:=HCS.out;omega));(case q1_=>exact BWC.out);rintro e w16 ⟨rfl,F16,hI2,hA2⟩;have hI_:=Za hI2;have hA_:=Za (HA.out.trans ((Sep.After.refl _ _).trans hA2));have hW_:=Za (Nat.le_trans BWC.out (Sep.After.size ((Sep.After.refl _ _).trans hA2)));clear HI HA BWC;have HI:=hI_;have HA:=hA_;have BWC:=hW_;clear hI_ hA_ hW_ hI2 hA2;obtain⟨_,_,_,_,_⟩:=trQ_cells HI.out HX.out;have hpw16:w16.cell? ⟨gp,0,none⟩=some (.slice (some ad) l0_0.length c0_0):=(Zb (trQ_blk HI.out BP.out NGP.out) 0).trans rfl;have hn_:=trQ_sn HI.out;have hnw16:w16.cell? ⟨g,4,none⟩=some (.int .i64 s.sn):=hn_;clear hn_)
  |fail)
 have HPX:Aside0 ((IntKind.i64.wrap (tail+s.sn)<24→impl_PackControl.f nx 0 (IntKind.i64.wrap (tail+s.sn))=some pc)∧(¬IntKind.i64.wrap (tail+s.sn)<24→impl_PackControl.f nx 0 24=some pc)):=⟨fun c=>by have:=HPW.out;rwa [Int.min_eq_right (by omega)] at this,fun c=>by have:=HPW.out;rwa [Int.min_eq_left (by omega)] at this⟩
 by_cases cm:IntKind.i64.wrap (tail+s.sn)<24
 case' pos=>have HPY:=Za (HPX.out.1 cm);have ce:=eq_true cm
 case' neg=>have HPY:=Za (HPX.out.2 cm);have ce:=eq_false cm
 all_goals
  clear HPX cm
  go_region_held3 (fun w'=>w'.cell? ⟨gx,0,none⟩=some (.pointer (some ⟨g,0,none⟩))∧w'.cell? ⟨gp,0,none⟩=some (.slice (some ad) l0_0.length c0_0)∧w'.cell? ⟨g,14,none⟩=some (.slice A3 s.vs.length c3)∧w'.cell? ⟨g,4,none⟩=some (.int .i64 s.sn)) (go_keep) ((first
   |(go_at_call 59;(with_reducible refine(impl_NextTask.calls k _ _ l0_0 _ _ s.vs task nx _ (Yl (heapTaskT.C (fun k hk=>OQ.out _ _ _ HI.out k hk) HR0.out) z8_0) HC0.out (Yl (trQ_vs HI.out).2.2 z8_0) HC3.out HNX.out).mono ?_);rintro e w17 ⟨rfl,hd⟩;have hbp:=Zj (z8_0:Below w16.heap.size w16 _) hd;clear hd;have hI_:=Za ((trQ_loc w14 F0 w.heap.size g task tail _ _).below BWC.out HI.out hbp);have hA_:=Za (HA.out.trans (Sep.After.of_below hbp _));have hW_:=Za (Nat.le_trans BWC.out hbp.size);clear HI HA BWC;have HI:=hI_;have HA:=hA_;have BWC:=hW_;clear hI_ hA_ hW_ hbp;obtain⟨_,_,_,_,_⟩:=trQ_cells HI.out HX.out;have hpw17:w17.cell? ⟨gp,0,none⟩=some (.slice (some ad) l0_0.length c0_0):=(Zb (trQ_blk HI.out BP.out NGP.out) 0).trans rfl;have hn_:=trQ_sn HI.out;have hnw17:w17.cell? ⟨g,4,none⟩=some (.int .i64 s.sn):=hn_;clear hn_)
   |(go_at_call 47;(first|(with_reducible refine(impl_PackControl.calls _ _ _ pc _ HPY.out).mono ?_)|(with_reducible refine(impl_PackControl.calls _ _ _ pc _ HPW.out).mono ?_));rintro e w18 ⟨rfl,hd⟩;have hbp:=Zj (z8_0:Below w17.heap.size w17 _) hd.below;clear hd;have hI_:=Za ((trQ_loc w14 F0 w.heap.size g task tail _ _).below BWC.out HI.out hbp);have hA_:=Za (HA.out.trans (Sep.After.of_below hbp _));have hW_:=Za (Nat.le_trans BWC.out hbp.size);clear HI HA BWC;have HI:=hI_;have HA:=hA_;have BWC:=hW_;clear hI_ hA_ hW_ hbp;obtain⟨_,_,_,_,_⟩:=trQ_cells HI.out HX.out;have hpw18:w18.cell? ⟨gp,0,none⟩=some (.slice (some ad) l0_0.length c0_0):=(Zb (trQ_blk HI.out BP.out NGP.out) 0).trans rfl;have hn_:=trQ_sn HI.out;have hnw18:w18.cell? ⟨g,4,none⟩=some (.int .i64 s.sn):=hn_;clear hn_)
   |(go_at_call 58;(with_reducible refine(tq_write w14 F0 w.heap.size g task tail (.slice A3 s.vs.length c3) (s.write 1 (-1) 0) _ _ ?hl_ F16 _ ?q1_ ((trQ_loc w14 F0 w.heap.size g task tail _ _).below BWC.out HI.out z8_0)).mono ?_);(case hl_=>((try simp only[Tr.write,List.length_append,List.length_singleton]);have:=HCS.out;omega));(case q1_=>exact BWC.out);rintro e w19 ⟨rfl,F19,hI2,hA2⟩;have hI_:=Za hI2;have hA_:=Za (HA.out.trans ((Sep.After.of_below (z8_0:Below w18.heap.size w18 _) _).trans hA2));have hW_:=Za (Nat.le_trans BWC.out (Sep.After.size ((Sep.After.of_below (z8_0:Below w18.heap.size w18 _) _).trans hA2)));clear HI HA BWC;have HI:=hI_;have HA:=hA_;have BWC:=hW_;clear hI_ hA_ hW_ hI2 hA2;obtain⟨_,_,_,_,_⟩:=trQ_cells HI.out HX.out;have hpw19:w19.cell? ⟨gp,0,none⟩=some (.slice (some ad) l0_0.length c0_0):=(Zb (trQ_blk HI.out BP.out NGP.out) 0).trans rfl;have hn_:=trQ_sn HI.out;have hnw19:w19.cell? ⟨g,4,none⟩=some (.int .i64 s.sn):=hn_;clear hn_;have B89:=Za (trQ_blk HI.out B8.out NG8.out);have HI9:=HI.out;obtain⟨Fx,⟨v0,v1,v2,hb,⟨q0,q1,q2,q3⟩,hD,hF⟩,-,-,-,-⟩:=HI9;obtain⟨S0,d0,e0⟩:=Ym q0;obtain⟨m0,hm0⟩:∃m,m=((s.write 1 (-1) 0).write 3 8 pc).st.length:=⟨_,rfl⟩;rw[←hm0] at e0;obtain⟨S1,d1,e1⟩:=Ym q1;obtain⟨m1,hm1⟩:∃m,m=((s.write 1 (-1) 0).write 3 8 pc).us.length:=⟨_,rfl⟩;rw[←hm1] at e1;subst e0 e1;clear hm0 hm1;have HBg:=Za hb;have Q0:=Za q0;have Q1:=Za q1;clear hb q0 q1 q2 q3 hD hF;obtain⟨_,_,_,_,_,_,_⟩:=trB HBg.out;have h80:w19.cell? ⟨g8,0,none⟩=some (.slice none 0 0):=(Zb B89.out 0).trans rfl;have h81:w19.cell? ⟨g8,1,none⟩=some (.slice none 0 0):=(Zb B89.out 1).trans rfl;have hf80:=Zc B89.out 0;have hf81:=Zc B89.out 1)))
  go_wp2_with (first
   |((with_reducible refine Ye (t:=59) (p:=8) rfl ?_);refine Yd (t:=59) (p:=8) (v:= .tmp 62) (w1:=(w19.setCell ⟨g8,0,none⟩ (.slice S0 m0 d0)).setCell ⟨g8,1,none⟩ (.slice S1 m1 d1)) ?hg ?ho ?hn ?hr ?_;(case ho=>rfl);(case hg=>rfl);(case hn=>rfl);(case hr=>exact z8_2);intro w20 hw;have B20:Aside0 (w20.heap[g8]? =some (.cells #[.slice S0 m0 d0,.slice S1 m1 d1] 59 (0,0))):=⟨by rw[hw];exact blk_put (blk_put B89.out 0 _ rfl) 1 _ rfl⟩;have FAR:Aside0 (w19.heap.size≤w20.heap.size∧(∀k,k≠g8→w20.heap[k]? =w19.heap[k]?)∧w20.os=w19.os∧w20.tape=w19.tape∧w20.output=w19.output):=⟨by rw[hw];exact⟨by simp[World.setCell],fun k hk=>(Below.heap_setCell _ _ _ k hk).trans (Below.heap_setCell _ _ _ k hk),rfl,rfl,rfl⟩⟩;clear hw)
   |fail)
  all_goals
   refine bodyPost_ret (results_cell_row rfl _ _ g8 59 #[.slice S0 m0 d0,.slice S1 m1 d1] (0,0) _ rfl B20.out Tryz.underlying59 rfl (by kernel_rfl)) rfl ?_
   have HB9:Below w.heap.size w w19:=HA.out.to_below (w0:=w) FFB.out HW.out
   refine⟨_,_,rfl,HE1.out ▸ (Q0.out.keep (w1:=w20) (fun k hk=>FAR.out.2.1 k (Q0.out.ne B89.out (by decide) k hk))).mic (fun _ _=>trivial),HE2.out ▸ (Q1.out.keep (w1:=w20) (fun k hk=>FAR.out.2.1 k (Q1.out.ne B89.out (by decide) k hk))).int (fun _ _=>trivial),FAR.out.2.2.1.trans HB9.os,FAR.out.2.2.2.1.trans HB9.tape,FAR.out.2.2.2.2.trans HB9.output,Nat.le_trans HB9.size FAR.out.1,fun k hk=>(FAR.out.2.1 k (by have:=G8.out;omega)).trans (HB9.block k hk)⟩
def impl_ApplyWrites.l0:Nat→List Int→List (S82)→Int→Int→Option (List Int)
 |0,_,_,_,_=>none
 |k+1,x7,x17,x18,x19=>if x19<x18 then (if 0≤x19 then (if x19<(x17.length:Int) then ((impl_within.f ((rd_T82 x17 x19).f0) 0 (wrap64 ((x7.length:Int) - 1))).bind fun t527=>(if t527=true then (if 0≤((rd_T82 x17 x19).f0) then (if ((rd_T82 x17 x19).f0)<(x7.length:Int) then (impl_ApplyWrites.l0 k (x7.set (((rd_T82 x17 x19).f0):Int).toNat ((rd_T82 x17 x19).f1)) x17 x18 (wrap64 (x19+1))) else (none)) else (none)) else (impl_ApplyWrites.l0 k x7 x17 x18 (wrap64 (x19+1))))) else (none)) else (none)) else (some x7)
def impl_ApplyWrites.f (k:Nat) (l0:List Int) (l1:List (S82)) (a2:Int):Option (List Int):=(slices_Clone_int_int.f l0).bind fun t517=>((impl_Clamp.f a2 0 (l1.length:Int)).bind fun t520=>(if 0≤t520 then (if t520≤(l1.length:Int) then ((some (l1.take (t520:Int).toNat:List (S82))).bind fun y521=>(impl_ApplyWrites.l0 k t517 y521 (y521.length:Int) 0)) else (none)) else (none)))
set_option maxHeartbeats 8000000 in
set_option maxRecDepth 100000 in
theorem impl_ApplyWrites.calls (k:Nat) (A0:Option Addr) (c0:Nat) (l0:List Int) (A1:Option Addr) (c1:Nat) (l1:List (S82)) (a2:Int) (r:List Int) (w:World) (hr0:Kd.C (Kd.int .i64) w A0 l0.length l0) (hc0:l0.length≤c0) (hr1:Kd.C k82 w A1 l1.length l1) (hc1:l1.length≤c1) (h:impl_ApplyWrites.f k l0 l1 a2=some r):
  Calls Tryz.prog 60 #[.slice A0 l0.length c0,.slice A1 l1.length c1,.int .i64 a2] w fun e w'=>∃v0_:Value,e= .returned (v0_)∧Kd.R (Kd.int .i64) 3 w' w.heap.size (fun _=>True) v0_ r∧Below w.heap.size w w':=by
 have hu82:=Tryz.underlying82
 have HR0:=Za hr0
 have HC0:=Za hc0
 clear hr0 hc0
 have HR1:=Za hr1
 have HC1:=Za hc1
 clear hr1 hc1
 have HB:=Za (Zx w.heap.size w)
 have H:((slices_Clone_int_int.f l0).bind fun t517=>((impl_Clamp.f a2 0 (l1.length:Int)).bind fun t520=>(if 0≤t520 then (if t520≤(l1.length:Int) then ((some (l1.take (t520:Int).toNat:List (S82))).bind fun y521=>(impl_ApplyWrites.l0 k t517 y521 (y521.length:Int) 0)) else (none)) else (none))))=some r:=h
 clear h
 replace H:=Zg H
 obtain⟨t517,A40,H⟩:=H
 replace H:((impl_Clamp.f a2 0 (l1.length:Int)).bind fun t520=>(if 0≤t520 then (if t520≤(l1.length:Int) then ((some (l1.take (t520:Int).toNat:List (S82))).bind fun y521=>(impl_ApplyWrites.l0 k t517 y521 (y521.length:Int) 0)) else (none)) else (none)))=some r:=H
 have A4:=Za A40
 clear A40
 replace H:=Zg H
 obtain⟨t520,A50,H⟩:=H
 replace H:(if 0≤t520 then (if t520≤(l1.length:Int) then ((some (l1.take (t520:Int).toNat:List (S82))).bind fun y521=>(impl_ApplyWrites.l0 k t517 y521 (y521.length:Int) 0)) else (none)) else (none))=some r:=H
 have A5:=Za A50
 clear A50
 by_cases c6:0≤t520
 ·rw[if_pos c6] at H
  have c6b0:=eq_true c6
  have c6b1:decide (0≤t520)=true:=Zq c6
  clear c6
  by_cases c7:t520≤(l1.length:Int)
  ·rw[if_pos c7] at H
   have c7b0:=eq_true c7
   have c7b1:decide (t520≤(l1.length:Int))=true:=Zq c7
   clear c7
   obtain⟨y521,hy521⟩:∃y_:List (S82),y_=(l1.take (t520:Int).toNat):=⟨_,rfl⟩
   replace H:(impl_ApplyWrites.l0 k t517 y521 (y521.length:Int) 0)=some r:=by first|(rw[hy521];with_reducible exact H)|(have H2_:=(Yc _ _).symm.trans H;rw[hy521];with_reducible exact H2_)|(have H2_:=(Yc _ _).symm.trans H;with_reducible exact H2_)|with_reducible exact H|(rw[hy521];exact H)|exact H
   have Ny521:=Za hy521
   clear hy521
   have H':=Za H
   clear H
   go_enter Tryz.func60,Tryz.ntmps60
   go_wp2_with (first|((first|((with_reducible refine gate_callee (f:=35) rfl ?_);refine goesL_ (some 11) rfl rfl Tryz.func35 (by kernel_rfl) rfl #[.slice A0 l0.length c0] rfl z8_3 ?_;(with_reducible refine(slices_Clone_int_int.calls _ _ l0 t517 _ ?side1 ?side2 A4.out).mono ?_))|(go_at_call 35;(with_reducible refine(slices_Clone_int_int.calls _ _ l0 t517 _ ?side1 ?side2 A4.out).mono ?_)));(case side1=>repeat(first|exact HR0.out|(with_reducible refine Yi ?_ _)|(with_reducible refine Yg ?_ _)|(with_reducible refine Yj ?_)));(case side2=>exact HC0.out);rintro e w8 ⟨v518,rfl,ho0,hb⟩;(first|refine⟨_,rfl,?_⟩|skip);have HO519:=Za (Yr ho0 (Yh z8_1));replace HB:=Za (Zj z8_1 hb);(try clear hb);(try clear hb2);(try clear hk);(try clear hi);(try clear ho0))|((first|((with_reducible refine gate_callee (f:=89) rfl ?_);refine goesL_ (some 16) rfl rfl Tryz.func89 (by kernel_rfl) rfl #[.int .i64 a2,.int .i64 0,.int .i64 (l1.length:Int)] rfl z8_3 ?_;(with_reducible refine(impl_Clamp.calls a2 0 (l1.length:Int) t520 _ A5.out).mono ?_))|(go_at_call 89;(with_reducible refine(impl_Clamp.calls a2 0 (l1.length:Int) t520 _ A5.out).mono ?_)));rintro e w' ⟨rfl,⟨nd,rfl⟩⟩;(first|refine⟨_,rfl,?_⟩|skip);have q9:(t520:Int)≤((l1.length:Int):Int):=Zs z8_4;obtain⟨i09,hi09,_,hsz9,_⟩:=info_parts info82;have hroom9:l1.length≤c1:=HC1.out;have hC9:Kd.C k82 _ A1 l1.length l1:=HR1.out;have hcut9:=cut_to (P:=Tryz.prog) 54 82 .i64 Tryz.underlying54 hi09 A1 l1.length c1 t520 (Zs z8_4) q9 hroom9;have hr9:=Kd.C_take (m:=(t520:Int).toNat) hC9 (by omega);have hy9:y521.length=(t520:Int).toNat:=(by rw[Ny521.out,List.length_take];omega);rw[←Ny521.out] at hr9;rw[←hy9] at hcut9;have HR524:=Za hr9;have HC524:=Za (show y521.length≤c1 from by omega);clear hr9 hC9 hroom9 hi09 hsz9;have KY9:=Za hy9;clear hy9;replace q9:=eq_true q9))
   go_loopg [19] k (fun kq v19 w'=>∃(x7_1:List Int) (x19_1:Int),v19= .int .i64 x19_1∧Aside0 (impl_ApplyWrites.l0 kq x7_1 y521 (y521.length:Int) x19_1=some r)∧Aside0 (kq≤k)∧Aside0 (Kd.R (Kd.int .i64) 3 w' w.heap.size (fun _=>True) v518 x7_1)∧Aside0 (Below w.heap.size w w'))
   case atStart=>exact⟨(t517),(0),(by first|rfl|(simp;done)|(simp[*];done)),H',⟨Nat.le_refl _⟩,⟨by(with_reducible repeat(first|apply Zo|apply Zm|apply Zn));exact HO519.out⟩,⟨by repeat(first|(with_reducible first|exact HB.out|apply Zh|apply Zf|apply Ze)|exact HB.out)⟩⟩
   case round=>
    clear H'
    (try clear c1);(try clear c6);(try clear c6b0);(try clear c6b1);(try clear c7);(try clear c7b0);(try clear c7b1);(try clear q9);(try clear q9)
    obtain⟨x7_1,x19_1,rfl,HA,HK1,HO_7,HB⟩:=hrel
    cases gk with
    |zero=>exact absurd HA.out (by simp[impl_ApplyWrites.l0])
    |succ k1=>
     have H:=HA.out
     clear HA
     simp only[impl_ApplyWrites.l0] at H
     by_cases c10:x19_1<(y521.length:Int)
     ·rw[if_pos c10] at H
      have c10b0:decide (x19_1<(y521.length:Int))=true:=Zq c10
      clear c10
      by_cases c11:0≤x19_1
      ·rw[if_pos c11] at H
       have c11b0:decide (0≤x19_1)=true:=Zq c11
       clear c11
       by_cases c12:x19_1<(y521.length:Int)
       ·rw[if_pos c12] at H
        have c12b0:decide (x19_1<(y521.length:Int))=true:=Zq c12
        clear c12
        replace H:=Zg H
        obtain⟨t527,A130,H⟩:=H
        replace H:(if t527=true then (if 0≤((rd_T82 y521 x19_1).f0) then (if ((rd_T82 y521 x19_1).f0)<(x7_1.length:Int) then (impl_ApplyWrites.l0 k1 (x7_1.set (((rd_T82 y521 x19_1).f0):Int).toNat ((rd_T82 y521 x19_1).f1)) y521 (y521.length:Int) (wrap64 (x19_1+1))) else (none)) else (none)) else (impl_ApplyWrites.l0 k1 x7_1 y521 (y521.length:Int) (wrap64 (x19_1+1))))=some r:=H
        have A13:=Za A130
        clear A130
        by_cases c14:t527=true
        ·subst c14
         rw[if_pos rfl] at H
         by_cases c15:0≤((rd_T82 y521 x19_1).f0)
         ·rw[if_pos c15] at H
          have c15b0:decide (0≤((rd_T82 y521 x19_1).f0))=true:=Zq c15
          clear c15
          by_cases c16:((rd_T82 y521 x19_1).f0)<(x7_1.length:Int)
          ·rw[if_pos c16] at H
           have c16b0:decide (((rd_T82 y521 x19_1).f0)<(x7_1.length:Int))=true:=Zq c16
           clear c16
           obtain⟨y528,hy528⟩:∃y_:List Int,y_=(x7_1.set (((rd_T82 y521 x19_1).f0):Int).toNat ((rd_T82 y521 x19_1).f1)):=⟨_,rfl⟩
           replace H:(impl_ApplyWrites.l0 k1 y528 y521 (y521.length:Int) (wrap64 (x19_1+1)))=some r:=by first|(rw[hy528];with_reducible exact H)|(have H2_:=(Yc _ _).symm.trans H;rw[hy528];with_reducible exact H2_)|(have H2_:=(Yc _ _).symm.trans H;with_reducible exact H2_)|with_reducible exact H|(rw[hy528];exact H)|exact H
           have Ny528:=Za hy528
           clear hy528
           have H':=Za H
           clear H
           have p525:0≤(x19_1:Int):=Zs z8_4
           have q525:x19_1<(y521.length:Int):=Zs z8_4
           obtain⟨ad525,e525,hx525_0,hx525_1⟩:=at_T82 HR524.out x19_1 p525 q525
           cases e525
           replace hx525_0:=(HB.out.cell (Yq w _ hx525_0)).trans hx525_0
           replace hx525_1:=(HB.out.cell (Yq w _ hx525_1)).trans hx525_1
           replace p525:=eq_true p525
           replace q525:=eq_true q525
           go_wp2_with (first|((with_reducible refine Zp (N:=9) rfl ?_);refine Zr ?hg (N:=9) ?hd (cs:= #[.int .i64 0,.int .i64 0]) (t:=82) ?hr ?_;(case hd=>rfl);(case hg=>rfl);(case hr=>exact z8_2);intro gb526 hg w18 hbox hb;replace HO_7:=Za (Kd.R_below (by(with_reducible repeat(first|apply Zo|apply Zm|apply Zn));exact HO_7.out) hb);have BK526:=Za (hbox);have GW526:=Za ((by rw[hg];exact(Yh z8_1):w.heap.size≤gb526));have GE526:=Za ((by rw[hg];exact(Yh z8_1):w.heap.size≤gb526));replace HB:=Za (Zj z8_1 hb);clear hb hbox hg;have hcz19_0:w18.cell? ⟨gb526,0,none⟩=some (.int .i64 0):=(Zb BK526.out 0).trans rfl;have hcz19_1:w18.cell? ⟨gb526,1,none⟩=some (.int .i64 0):=(Zb BK526.out 1).trans rfl;have hfz19_0:=Zc BK526.out 0;have hfz19_1:=Zc BK526.out 1)|((with_reducible refine Ye (t:=82) (p:=9) rfl ?_);refine Yd (t:=82) (p:=9) (v:= ?vo_w20) (w1:=((w18.setCell ⟨gb526,0,none⟩ (.int .i64 ((rd_T82 y521 x19_1).f0))).setCell ⟨gb526,1,none⟩ (.int .i64 ((rd_T82 y521 x19_1).f1)))) ?hg ?ho ?hn ?hr ?_;(case ho=>rfl);(case hg=>rfl);(case hn=>rfl);(case hr=>exact z8_2);intro w20 hw;have n0_:Aside0 (Kd.R (Kd.int .i64) 3 w20 w.heap.size (fun _=>True) v518 x7_1):=⟨(by rw[hw];exact(by(with_reducible repeat(first|apply Zo|apply Zm|apply Zn));exact Yk (Kd.R_far (p:=⟨gb526,1,none⟩) (Kd.R_far (p:=⟨gb526,0,none⟩) (Kd.R_types HO_7.out BK526.out (by decide)) (fun _ hk=>hk.2) (.int .i64 ((rd_T82 y521 x19_1).f0))) (fun _ hk=>hk.2) (.int .i64 ((rd_T82 y521 x19_1).f1))) (fun _ hk=>trivial)))⟩;have n1_:Aside0 (w20.heap[gb526]? =some (.cells #[.int .i64 ((rd_T82 y521 x19_1).f0),.int .i64 ((rd_T82 y521 x19_1).f1)] 82 (0,0))):=⟨(by rw[hw];exact(by(with_reducible repeat(first|refine blk_drewN ?_ _|refine blk_drew ?_|refine blk_alloc ?_ _));refine blk_put (cs:= #[.int .i64 ((rd_T82 y521 x19_1).f0),.int .i64 0]) ?_ 1 _ rfl;(with_reducible repeat(first|refine blk_drewN ?_ _|refine blk_drew ?_|refine blk_alloc ?_ _));refine blk_put (cs:= #[.int .i64 0,.int .i64 0]) ?_ 0 _ rfl;(with_reducible repeat(first|refine blk_drewN ?_ _|refine blk_drew ?_|refine blk_alloc ?_ _));exact BK526.out))⟩;have n2_:Aside0 (Below w.heap.size w w20):=⟨(by rw[hw];exact(by repeat(first|(with_reducible first|exact HB.out|apply Zh|apply Zf|apply Ze|refine Zd ?_ GE526.out)|exact HB.out)))⟩;clear hw;clear HO_7;clear BK526;clear HB;have HO_7:=n0_;have BK526:=n1_;have HB:=n2_;clear n0_ n1_ n2_;have hcz21_0:w20.cell? ⟨gb526,0,none⟩=some (.int .i64 ((rd_T82 y521 x19_1).f0)):=(Zb BK526.out 0).trans rfl;have hcz21_1:w20.cell? ⟨gb526,1,none⟩=some (.int .i64 ((rd_T82 y521 x19_1).f1)):=(Zb BK526.out 1).trans rfl;have hfz21_0:=Zc BK526.out 0;have hfz21_1:=Zc BK526.out 1;obtain⟨Ao22,co22,eo22⟩:=Ym HO_7.out;subst eo22)|((first|((with_reducible refine gate_callee (f:=30) rfl ?_);refine goesL_ (some 28) rfl rfl Tryz.func30 (by kernel_rfl) rfl #[.int .i64 ((rd_T82 y521 x19_1).f0),.int .i64 0,.int .i64 (wrap64 ((x7_1.length:Int) - 1))] rfl z8_3 ?_;(with_reducible refine(impl_within.calls ((rd_T82 y521 x19_1).f0) 0 (wrap64 ((x7_1.length:Int) - 1)) true _ A13.out).mono ?_))|(go_at_call 30;(with_reducible refine(impl_within.calls ((rd_T82 y521 x19_1).f0) 0 (wrap64 ((x7_1.length:Int) - 1)) true _ A13.out).mono ?_)));rintro e w' ⟨rfl,⟨nd,rfl⟩⟩;(first|refine⟨_,rfl,?_⟩|skip);(try(rw[drewN_self w20];generalize hq_:World.drewN w20 _=w20;have n0_:Aside0 (Kd.R (Kd.int .i64) 3 w20 w.heap.size (fun _=>True) (.slice Ao22 x7_1.length co22) x7_1):=⟨by rw[←hq_];exact(by(with_reducible repeat(first|apply Zo|apply Zm|apply Zn));exact HO_7.out)⟩;have n1_:Aside0 (w20.heap[gb526]? =some (.cells #[.int .i64 ((rd_T82 y521 x19_1).f0),.int .i64 ((rd_T82 y521 x19_1).f1)] 82 (0,0))):=⟨by rw[←hq_];exact(by(with_reducible repeat(first|refine blk_drewN ?_ _|refine blk_drew ?_|refine blk_alloc ?_ _));exact BK526.out)⟩;have n2_:Aside0 (Below w.heap.size w w20):=⟨by rw[←hq_];exact(by repeat(first|(with_reducible first|exact HB.out|apply Zh|apply Zf|apply Ze|refine Zd ?_ GE526.out)|exact HB.out))⟩;clear HO_7 BK526 HB hq_;have HO_7:=n0_;have BK526:=n1_;have HB:=n2_;clear n0_ n1_ n2_));(try(have hcuz23_0:w20.cell? ⟨gb526,0,none⟩=some (.int .i64 ((rd_T82 y521 x19_1).f0)):=(Zb BK526.out 0).trans rfl;have hcuz23_1:w20.cell? ⟨gb526,1,none⟩=some (.int .i64 ((rd_T82 y521 x19_1).f1)):=(Zb BK526.out 1).trans rfl;have hfuz23_0:=Zc BK526.out 0;have hfuz23_1:=Zc BK526.out 1));have p17:0≤(((rd_T82 y521 x19_1).f0):Int):=Zs z8_4;have q17:(((rd_T82 y521 x19_1).f0):Int)<((x7_1.length:Int):Int):=Zs z8_4;obtain⟨go17,co17,eo17,gb17,gl17,cl17,HG17⟩:=Kd.R_form HO_7.out (by omega);(first|cases eo17|(injection eo17 with ea_ en_ ec_;(first|subst ea_|(injection ea_ with ea_;subst ea_));subst ec_;clear en_));have GB17:=Za gb17;have GG17:=Za HG17;clear gb17 gl17 HG17;obtain⟨hx17_0,hf17_0⟩:=Kd.R_celln 0 HO_7.out (((rd_T82 y521 x19_1).f0):Int) p17 q17;replace p17:=eq_true p17;replace q17:=eq_true q17;obtain⟨hy24_,hz24_⟩:=Kd.R_celln 0 HO_7.out (((rd_T82 y521 x19_1).f0):Int) (Zs z8_4) (Zs z8_4);have HP24:=Kd.R_putg HO_7.out (((rd_T82 y521 x19_1).f0):Int) ((rd_T82 y521 x19_1).f1))|((with_reducible refine Ye (t:=3) (p:=34) rfl ?_);refine Yd (t:=3) (p:=34) (v:= ?vo_w25) (w1:=(w20.setCell ⟨go17,(((rd_T82 y521 x19_1).f0):Int).toNat,none⟩ (.int .i64 ((rd_T82 y521 x19_1).f1)))) ?hg ?ho ?hn ?hr ?_;(case ho=>rfl);(case hg=>rfl);(case hn=>rfl);(case hr=>exact z8_2);intro w25 hw;have hg:w20.grownBy w25 (some go17):=(by rw[hw];exact HP24.2);have hp_:Kd.R (Kd.int .i64) 3 w25 w.heap.size (fun _=>True) (.slice (some ⟨go17,0,none⟩) x7_1.length co22) y528:=(by rw[hw,Ny528.out];exact HP24.1);clear HP24;replace BK526:=Za (blk_grown (g:=gb526) (o:= .cells #[.int .i64 ((rd_T82 y521 x19_1).f0),.int .i64 ((rd_T82 y521 x19_1).f1)] 82 (0,0)) (by(with_reducible repeat(first|refine blk_drewN ?_ _|refine blk_drew ?_|refine blk_alloc ?_ _));exact BK526.out) hg (Kd.R_ne HO_7.out BK526.out (by decide)));replace HO_7:=Za (hp_);replace HB:=Za ((by rw[hw];exact Zd (HB.out) GB17.out:Below w.heap.size w w25));clear hg hw hp_))
           go_roundg k1
           case measure=>have:=HK1.out;omega
           case rel=>exact⟨(y528),(wrap64 (x19_1+1)),(by first|rfl|(simp;done)|(simp[*];done)),H',⟨by have:=HK1.out;omega⟩,⟨by(with_reducible repeat(first|apply Zo|apply Zm|apply Zn));exact HO_7.out⟩,⟨by repeat(first|(with_reducible first|exact HB.out|apply Zh|apply Zf|apply Ze|refine Zd ?_ GE526.out)|exact HB.out)⟩⟩
          ·rw[if_neg c16] at H
           exact absurd H (by simp)
         ·rw[if_neg c15] at H
          exact absurd H (by simp)
        ·replace c14:=Bool.eq_false_iff.mpr c14
         subst c14
         rw[if_neg (show ¬(false=true) by decide)] at H
         have H':=Za H
         clear H
         have p525:0≤(x19_1:Int):=Zs z8_4
         have q525:x19_1<(y521.length:Int):=Zs z8_4
         obtain⟨ad525,e525,hx525_0,hx525_1⟩:=at_T82 HR524.out x19_1 p525 q525
         cases e525
         replace hx525_0:=(HB.out.cell (Yq w _ hx525_0)).trans hx525_0
         replace hx525_1:=(HB.out.cell (Yq w _ hx525_1)).trans hx525_1
         replace p525:=eq_true p525
         replace q525:=eq_true q525
         go_wp2_with (first|((with_reducible refine Zp (N:=9) rfl ?_);refine Zr ?hg (N:=9) ?hd (cs:= #[.int .i64 0,.int .i64 0]) (t:=82) ?hr ?_;(case hd=>rfl);(case hg=>rfl);(case hr=>exact z8_2);intro gb526 hg w26 hbox hb;replace HO_7:=Za (Kd.R_below (by(with_reducible repeat(first|apply Zo|apply Zm|apply Zn));exact HO_7.out) hb);have BK526:=Za (hbox);have GW526:=Za ((by rw[hg];exact(Yh z8_1):w.heap.size≤gb526));have GE526:=Za ((by rw[hg];exact(Yh z8_1):w.heap.size≤gb526));replace HB:=Za (Zj z8_1 hb);clear hb hbox hg;have hcz27_0:w26.cell? ⟨gb526,0,none⟩=some (.int .i64 0):=(Zb BK526.out 0).trans rfl;have hcz27_1:w26.cell? ⟨gb526,1,none⟩=some (.int .i64 0):=(Zb BK526.out 1).trans rfl;have hfz27_0:=Zc BK526.out 0;have hfz27_1:=Zc BK526.out 1;obtain⟨Ao28,co28,eo28⟩:=Ym HO_7.out;subst eo28)|((first|((with_reducible refine gate_callee (f:=30) rfl ?_);refine goesL_ (some 28) rfl rfl Tryz.func30 (by kernel_rfl) rfl #[.int .i64 ((rd_T82 y521 x19_1).f0),.int .i64 0,.int .i64 (wrap64 ((x7_1.length:Int) - 1))] rfl z8_3 ?_;(with_reducible refine(impl_within.calls ((rd_T82 y521 x19_1).f0) 0 (wrap64 ((x7_1.length:Int) - 1)) false _ A13.out).mono ?_))|(go_at_call 30;(with_reducible refine(impl_within.calls ((rd_T82 y521 x19_1).f0) 0 (wrap64 ((x7_1.length:Int) - 1)) false _ A13.out).mono ?_)));rintro e w' ⟨rfl,⟨nd,rfl⟩⟩;(first|refine⟨_,rfl,?_⟩|skip)))
         go_roundg k1
         case measure=>have:=HK1.out;omega
         case rel=>exact⟨(x7_1),(wrap64 (x19_1+1)),(by first|rfl|(simp;done)|(simp[*];done)),H',⟨by have:=HK1.out;omega⟩,⟨by(with_reducible repeat(first|apply Zo|apply Zm|apply Zn));exact Yk (Kd.R_far (p:=⟨gb526,1,none⟩) (Kd.R_far (p:=⟨gb526,0,none⟩) (Kd.R_types HO_7.out BK526.out (by decide)) (fun _ hk=>hk.2) (.int .i64 ((rd_T82 y521 x19_1).f0))) (fun _ hk=>hk.2) (.int .i64 ((rd_T82 y521 x19_1).f1))) (fun _ hk=>trivial)⟩,⟨by repeat(first|(with_reducible first|exact HB.out|apply Zh|apply Zf|apply Ze|refine Zd ?_ GE526.out)|exact HB.out)⟩⟩
       ·rw[if_neg c12] at H
        exact absurd H (by simp)
      ·rw[if_neg c11] at H
       exact absurd H (by simp)
     ·rw[if_neg c10] at H
      have c10b0:decide (x19_1<(y521.length:Int))=false:=Yf c10
      clear c10
      obtain rfl:=Zk H
      go_wp2
      go_ret
      exact⟨_,by first|rfl|(simp[errW_none,errW_some]<;>rfl)|(simp[*,errW_none,errW_some]<;>rfl)|(simp[*,errW_none,errW_some,i64_w];done),by(with_reducible repeat(first|apply Zo|apply Zm|apply Zn));exact HO_7.out,by repeat(first|(with_reducible first|exact HB.out|apply Zh|apply Zf|apply Ze)|exact HB.out)⟩
  ·rw[if_neg c7] at H
   exact absurd H (by simp)
 ·rw[if_neg c6] at H
  exact absurd H (by simp)
def impl_Recovered.f (k:Nat) (l0:List Int):Option (List Int):=(impl_RecoveryWrites.f k l0).bind fun t529=>((impl_ApplyWrites.f k l0 t529 (t529.length:Int)).bind fun t532=>(some t532))
set_option maxHeartbeats 8000000 in
set_option maxRecDepth 100000 in
theorem impl_Recovered.calls (k:Nat) (A0:Option Addr) (c0:Nat) (l0:List Int) (r:List Int) (w:World) (hr0:Kd.C (Kd.int .i64) w A0 l0.length l0) (hc0:l0.length≤c0) (h:impl_Recovered.f k l0=some r):
  Calls Tryz.prog 29 #[.slice A0 l0.length c0] w fun e w'=>∃v0_:Value,e= .returned (v0_)∧Kd.R (Kd.int .i64) 3 w' w.heap.size (fun _=>True) v0_ r∧Below w.heap.size w w':=by
 have HR0:=Za hr0
 have HC0:=Za hc0
 clear hr0 hc0
 have HB:=Za (Zx w.heap.size w)
 have H:((impl_RecoveryWrites.f k l0).bind fun t529=>((impl_ApplyWrites.f k l0 t529 (t529.length:Int)).bind fun t532=>(some t532)))=some r:=h
 clear h
 replace H:=Zg H
 obtain⟨t529,A20,H⟩:=H
 replace H:((impl_ApplyWrites.f k l0 t529 (t529.length:Int)).bind fun t532=>(some t532))=some r:=H
 have A2:=Za A20
 clear A20
 replace H:=Zg H
 obtain⟨t532,A30,H⟩:=H
 replace H:(some t532)=some r:=H
 have A3:=Za A30
 clear A30
 obtain rfl:=Zk H
 go_enter Tryz.func29,Tryz.ntmps29
 go_wp2_with (first|((first|((with_reducible refine gate_callee (f:=26) rfl ?_);refine goesL_ (some 5) rfl rfl Tryz.func26 (by kernel_rfl) rfl #[.slice A0 l0.length c0] rfl z8_3 ?_;(with_reducible refine(impl_RecoveryWrites.calls k _ _ l0 t529 _ ?side1 ?side2 A2.out).mono ?_))|(go_at_call 26;(with_reducible refine(impl_RecoveryWrites.calls k _ _ l0 t529 _ ?side1 ?side2 A2.out).mono ?_)));(case side1=>repeat(first|exact HR0.out|(with_reducible refine Yi ?_ _)|(with_reducible refine Yg ?_ _)|(with_reducible refine Yj ?_)));(case side2=>exact HC0.out);rintro e w4 ⟨v530,rfl,ho0,hb⟩;(first|refine⟨_,rfl,?_⟩|skip);have HO531:=Za (Yr ho0 (Yh z8_1));replace HB:=Za (Zj z8_1 hb);(try clear hb);(try clear hb2);(try clear hk);(try clear hi);(try clear ho0);obtain⟨Ao5,co5,eo5⟩:=Ym HO531.out;subst eo5)|((first|((with_reducible refine gate_callee (f:=60) rfl ?_);refine goesL_ (some 10) rfl rfl Tryz.func60 (by kernel_rfl) rfl #[.slice A0 l0.length c0,.slice Ao5 t529.length co5,.int .i64 (t529.length:Int)] rfl z8_3 ?_;(with_reducible refine(impl_ApplyWrites.calls k _ _ l0 _ _ t529 (t529.length:Int) t532 _ ?side1 ?side2 ?side3 ?side4 A3.out).mono ?_))|(go_at_call 60;(with_reducible refine(impl_ApplyWrites.calls k _ _ l0 _ _ t529 (t529.length:Int) t532 _ ?side1 ?side2 ?side3 ?side4 A3.out).mono ?_)));(case side1=>repeat(first|exact(Yl HR0.out HB.out)|(with_reducible refine Yi ?_ _)|(with_reducible refine Yg ?_ _)|(with_reducible refine Yj ?_)));(case side2=>exact HC0.out);(case side3=>repeat(first|exact(Yp HO531.out).2.2|(with_reducible refine Yi ?_ _)|(with_reducible refine Yg ?_ _)|(with_reducible refine Yj ?_)));(case side4=>exact(Yp HO531.out).2.1);rintro e w6 ⟨v533,rfl,ho0,hb⟩;(first|refine⟨_,rfl,?_⟩|skip);replace HO531:=Za (Kd.R_below (by(with_reducible repeat(first|apply Zo|apply Zm|apply Zn));exact HO531.out) hb);have HO534:=Za (Yr ho0 (Yh z8_1));replace HB:=Za (Zj z8_1 hb);(try clear hb);(try clear hb2);(try clear hk);(try clear hi);(try clear ho0)))
 go_ret
 exact⟨_,by first|rfl|(simp[errW_none,errW_some]<;>rfl)|(simp[*,errW_none,errW_some]<;>rfl)|(simp[*,errW_none,errW_some,i64_w];done),by(with_reducible repeat(first|apply Zo|apply Zm|apply Zn));exact HO534.out,by repeat(first|(with_reducible first|exact HB.out|apply Zh|apply Zf|apply Ze)|exact HB.out)⟩
end Go.Proofs.YtdkbkkpbdmlmbaaGreat.G
