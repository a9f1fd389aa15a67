/- What a call owns: a set of blocks with what holds of them; what a call may leave behind. No condition. -/
import Derived.Test.YtdkbkkpbdmlmbaaGreatW0
namespace Go.Proofs.YtdkbkkpbdmlmbaaGreat.Sep
open Go.RowKit Go.Proofs.YtdkbkkpbdmlmbaaGreatW.PrintWords
abbrev Asn:=(Nat→Prop)→World→Prop
structure Loc (B:Nat) (I:Asn):Prop where
  lt:∀ {F:Nat→Prop} {w:World},I F w→∀k,F k→B≤k∧k<w.heap.size
  keep:∀ {F:Nat→Prop} {w w':World},I F w→B≤w.heap.size→w.heap.size≤w'.heap.size→(∀k,k<B∨F k→w'.heap[k]? =w.heap[k]?)→I F w'
structure After (F:Nat→Prop) (w:World) (F':Nat→Prop) (w':World):Prop where
  kept:Kept w w' F
  sub:∀k,F' k→F k∨w.heap.size≤k
  io:w'.os=w.os∧w'.tape=w.tape∧w'.output=w.output
section
variable {F F1 F2:Nat→Prop} {w w1 w2:World} {I:Asn} {B:Nat}
theorem After.refl (F:Nat→Prop) (w:World):After F w F w:=⟨Kept.refl _ _,fun _ h=> .inl h,rfl,rfl,rfl⟩
theorem After.trans (h:After F w F1 w1) (k:After F1 w1 F2 w2):After F w F2 w2:=
  ⟨h.kept.then_ k.kept h.sub,fun i hi=>(k.sub i hi).elim (h.sub i) (fun h1=> .inr (Nat.le_trans h.kept.1 h1)),k.io.1.trans h.io.1,k.io.2.1.trans h.io.2.1,k.io.2.2.trans h.io.2.2⟩
theorem After.below (h:After F w F1 w1) (hb:Below w1.heap.size w1 w2):After F w F1 w2:=⟨h.kept.below hb,h.sub,hb.os.trans h.io.1,hb.tape.trans h.io.2.1,hb.output.trans h.io.2.2⟩
theorem After.of_below (hb:Below w.heap.size w w1) (F:Nat→Prop):After F w F w1:=(After.refl F w).below hb
theorem After.to_below {w0:World} (h:After F w F1 w1) (hF:∀k,F k→w0.heap.size≤k) (hb:Below w0.heap.size w0 w):Below w0.heap.size w0 w1:=
  ⟨h.io.1.trans hb.os,h.io.2.1.trans hb.tape,h.io.2.2.trans hb.output,Nat.le_trans hb.size h.kept.1,fun k hk=>(h.kept.2 k (Nat.lt_of_lt_of_le hk hb.size) (fun hf=>by have:=hF k hf;omega)).trans (hb.block k hk)⟩
theorem After.size (h:After F w F1 w1):w.heap.size≤w1.heap.size:=h.kept.1
theorem Loc.below (L:Loc B I) (hB:B≤w.heap.size) (h:I F w) (hb:Below w.heap.size w w1):I F w1:=L.keep h hB hb.size (fun k hk=>hb.block k (hk.elim (fun h1=>by omega) (fun h1=>(L.lt h k h1).2)))
theorem After.blk {g:Nat} {o:Obj} (h:After F w F1 w1) (hb:w.heap[g]? =some o) (hn:¬F g):w1.heap[g]? =some o:=(h.kept.2 g (blk_lt hb) hn).trans hb
theorem After.out {g:Nat} {o:Obj} (h:After F w F1 w1) (hb:w.heap[g]? =some o) (hn:¬F g):¬F1 g:=fun h1=>(h.sub g h1).elim hn (fun h2=>absurd (blk_lt hb) (Nat.not_lt.mpr h2))
theorem After.none (h:After (fun _=>False) w F1 w1):∀k,k<w.heap.size→w1.heap[k]? =w.heap[k]? :=fun k hk=>h.kept.2 k hk (fun h=>h)
end
theorem blk6 {w:World} {g:Nat} {t:TypeId} {v0 v1 v2 v3 v4 v5:Value} (h:w.heap[g]? =some (.cells #[v0,v1,v2,v3,v4,v5] t (0,0))):
    (w.cell? ⟨g,0,none⟩=some v0∧w.cell? ⟨g,1,none⟩=some v1∧w.cell? ⟨g,2,none⟩=some v2∧w.cell? ⟨g,3,none⟩=some v3∧w.cell? ⟨g,4,none⟩=some v4∧w.cell? ⟨g,5,none⟩=some v5)∧
    (w.frozen? ⟨g,0,none⟩=false∧w.frozen? ⟨g,1,none⟩=false∧w.frozen? ⟨g,2,none⟩=false∧w.frozen? ⟨g,3,none⟩=false∧w.frozen? ⟨g,4,none⟩=false∧w.frozen? ⟨g,5,none⟩=false):=
  ⟨⟨(blk_cell h 0).trans rfl,(blk_cell h 1).trans rfl,(blk_cell h 2).trans rfl,(blk_cell h 3).trans rfl,(blk_cell h 4).trans rfl,(blk_cell h 5).trans rfl⟩,
   ⟨blk_frozen h 0,blk_frozen h 1,blk_frozen h 2,blk_frozen h 3,blk_frozen h 4,blk_frozen h 5⟩⟩
abbrev put6 (w:World) (g:Nat) (v0 v1 v2 v3 v4 v5:Value):World:=
  (((((w.setCell ⟨g,0,none⟩ v0).setCell ⟨g,1,none⟩ v1).setCell ⟨g,2,none⟩ v2).setCell ⟨g,3,none⟩ v3).setCell ⟨g,4,none⟩ v4).setCell ⟨g,5,none⟩ v5
theorem put6_blk {w:World} {g:Nat} {t:TypeId} {u0 u1 u2 u3 u4 u5:Value} (h:w.heap[g]? =some (.cells #[u0,u1,u2,u3,u4,u5] t (0,0))) (v0 v1 v2 v3 v4 v5:Value):
    (put6 w g v0 v1 v2 v3 v4 v5).heap[g]? =some (.cells #[v0,v1,v2,v3,v4,v5] t (0,0)):=by
  refine blk_put (cs:= #[v0,v1,v2,v3,v4,u5]) ?_ 5 _ rfl
  refine blk_put (cs:= #[v0,v1,v2,v3,u4,u5]) ?_ 4 _ rfl
  refine blk_put (cs:= #[v0,v1,v2,u3,u4,u5]) ?_ 3 _ rfl
  refine blk_put (cs:= #[v0,v1,u2,u3,u4,u5]) ?_ 2 _ rfl
  refine blk_put (cs:= #[v0,u1,u2,u3,u4,u5]) ?_ 1 _ rfl
  exact blk_put (cs:= #[u0,u1,u2,u3,u4,u5]) h 0 _ rfl
theorem put6_below {w0 w:World} {g:Nat} (h:Below w0.heap.size w0 w) (hg:w0.heap.size≤g) (v0 v1 v2 v3 v4 v5:Value):Below w0.heap.size w0 (put6 w g v0 v1 v2 v3 v4 v5):=
  below_set (below_set (below_set (below_set (below_set (below_set h hg) hg) hg) hg) hg) hg
def rowI (e:Nat) (w:World) (v:Value) (xs:List Int):Prop:=(Kd.int .i64).R e w 0 (fun k=>v.ownBlock=some k) v xs
section
variable {e:Nat} {w w1:World} {v:Value} {xs:List Int}
theorem rowI.of_R {base:Nat} {ok:Nat→Prop} (h:(Kd.int .i64).R e w base ok v xs):rowI e w v xs:=Kd.R_of_own (own_less (Kd.own_of_R h) (Nat.zero_le _)) (fun _ hk=>hk)
theorem rowI.to_R {base:Nat} {ok:Nat→Prop} (h:rowI e w v xs) (hb:∀k,v.ownBlock=some k→base≤k) (hok:∀k,v.ownBlock=some k→ok k):(Kd.int .i64).R e w base ok v xs:=by
  refine Kd.R_of_own ?_ hok
  obtain⟨h1,h2⟩:=Kd.own_of_R h
  refine⟨h1,h2.imp id ?_⟩
  rintro⟨g,cap,cur,rfl,_,r⟩
  exact⟨g,cap,cur,rfl,hb g rfl,r⟩
theorem rowI.keep (h:rowI e w v xs) (hm:∀k,v.ownBlock=some k→w1.heap[k]? =w.heap[k]?):rowI e w1 v xs:=Kd.R_step h (fun k hk _=>hm k hk)
theorem rowI.below (h:rowI e w v xs) (hb:Below w.heap.size w w1):rowI e w1 v xs:=Kd.R_below h hb
theorem rowI.lt (h:rowI e w v xs):∀k,v.ownBlock=some k→k<w.heap.size:=Kd.R_lt h
theorem rowI.open_ (h:rowI e w v xs):∃A c,v= .slice A xs.length c∧xs.length≤c∧(Kd.int .i64).C w A xs.length xs:=Kd.R_reads h
theorem rowI.typed (h:rowI e w v xs):∀k,v.ownBlock=some k→∃cells,w.heap[k]? =some (.cells cells e (0,0)):=Kd.R_typed h
theorem rowI.ne {g t:Nat} {cs:Array Value} (h:rowI e w v xs) (hg:w.heap[g]? =some (.cells cs t (0,0))) (hne:e≠t):∀k,v.ownBlock=some k→k≠g:=by
  intro k hk he
  subst he
  obtain⟨c,hc⟩:=h.typed _ hk
  rw[hc] at hg
  injection hg with hg
  injection hg with _ hg _
  exact hne hg
theorem rowI.at_ {A:Option Addr} {n c:Nat} (h:rowI e w (.slice A n c) xs) (i:Int) (h0:0≤i) (h1:i<(xs.length:Int)):
    ∃g,A=some ⟨g,0,none⟩∧n=xs.length∧w.cell? ⟨g,i.toNat,none⟩=some (.int .i64 (rd xs i))∧w.frozen? ⟨g,i.toNat,none⟩=false∧
      ∀x,rowI e (w.setCell ⟨g,i.toNat,none⟩ (.int .i64 x)) (.slice (some ⟨g,0,none⟩) n c) (xs.set i.toNat x):=by
  obtain⟨g,cap,he,_⟩:=Kd.R_form h (by omega)
  injection he with e1 e2 e3
  subst e1 e2 e3
  have:=own_at (Kd.own_of_R h) i h0 (by omega)
  exact⟨g,rfl,rfl,this.1,this.2,fun x=>(Kd.R_putg h i x).1⟩
end
theorem blk4 {w:World} {g:Nat} {t:TypeId} {v0 v1 v2 v3:Value} (h:w.heap[g]? =some (.cells #[v0,v1,v2,v3] t (0,0))):
    (w.cell? ⟨g,0,none⟩=some v0∧w.cell? ⟨g,1,none⟩=some v1∧w.cell? ⟨g,2,none⟩=some v2∧w.cell? ⟨g,3,none⟩=some v3)∧
    (w.frozen? ⟨g,0,none⟩=false∧w.frozen? ⟨g,1,none⟩=false∧w.frozen? ⟨g,2,none⟩=false∧w.frozen? ⟨g,3,none⟩=false):=
  ⟨⟨(blk_cell h 0).trans rfl,(blk_cell h 1).trans rfl,(blk_cell h 2).trans rfl,(blk_cell h 3).trans rfl⟩,⟨blk_frozen h 0,blk_frozen h 1,blk_frozen h 2,blk_frozen h 3⟩⟩
abbrev put4 (w:World) (g:Nat) (v0 v1 v2 v3:Value):World:=(((w.setCell ⟨g,0,none⟩ v0).setCell ⟨g,1,none⟩ v1).setCell ⟨g,2,none⟩ v2).setCell ⟨g,3,none⟩ v3
theorem put4_blk {w:World} {g:Nat} {t:TypeId} {u0 u1 u2 u3:Value} (h:w.heap[g]? =some (.cells #[u0,u1,u2,u3] t (0,0))) (v0 v1 v2 v3:Value):(put4 w g v0 v1 v2 v3).heap[g]? =some (.cells #[v0,v1,v2,v3] t (0,0)):=by
  refine blk_put (cs:= #[v0,v1,v2,u3]) ?_ 3 _ rfl
  refine blk_put (cs:= #[v0,v1,u2,u3]) ?_ 2 _ rfl
  refine blk_put (cs:= #[v0,u1,u2,u3]) ?_ 1 _ rfl
  exact blk_put (cs:= #[u0,u1,u2,u3]) h 0 _ rfl
theorem put4_far {w:World} {g k:Nat} (h:k≠g) (v0 v1 v2 v3:Value):(put4 w g v0 v1 v2 v3).heap[k]? =w.heap[k]? :=by
  unfold put4
  rw[Below.heap_setCell _ _ _ k h,Below.heap_setCell _ _ _ k h,Below.heap_setCell _ _ _ k h,Below.heap_setCell _ _ _ k h]
theorem put4_below {w0 w:World} {g:Nat} (h:Below w0.heap.size w0 w) (hg:w0.heap.size≤g) (v0 v1 v2 v3:Value):Below w0.heap.size w0 (put4 w g v0 v1 v2 v3):=below_set (below_set (below_set (below_set h hg) hg) hg) hg
theorem put4_size {w:World} {g:Nat} (v0 v1 v2 v3:Value):(put4 w g v0 v1 v2 v3).heap.size=w.heap.size:=by simp[World.setCell]
theorem blk3 {w:World} {g:Nat} {t:TypeId} {v0 v1 v2:Value} (h:w.heap[g]? =some (.cells #[v0,v1,v2] t (0,0))):
    (w.cell? ⟨g,0,none⟩=some v0∧w.cell? ⟨g,1,none⟩=some v1∧w.cell? ⟨g,2,none⟩=some v2)∧
    (w.frozen? ⟨g,0,none⟩=false∧w.frozen? ⟨g,1,none⟩=false∧w.frozen? ⟨g,2,none⟩=false):=
  ⟨⟨(blk_cell h 0).trans rfl,(blk_cell h 1).trans rfl,(blk_cell h 2).trans rfl⟩,⟨blk_frozen h 0,blk_frozen h 1,blk_frozen h 2⟩⟩
abbrev put3 (w:World) (g:Nat) (v0 v1 v2:Value):World:=((w.setCell ⟨g,0,none⟩ v0).setCell ⟨g,1,none⟩ v1).setCell ⟨g,2,none⟩ v2
theorem put3_blk {w:World} {g:Nat} {t:TypeId} {u0 u1 u2:Value} (h:w.heap[g]? =some (.cells #[u0,u1,u2] t (0,0))) (v0 v1 v2:Value):(put3 w g v0 v1 v2).heap[g]? =some (.cells #[v0,v1,v2] t (0,0)):=by
  refine blk_put (cs:= #[v0,v1,u2]) ?_ 2 _ rfl
  refine blk_put (cs:= #[v0,u1,u2]) ?_ 1 _ rfl
  exact blk_put (cs:= #[u0,u1,u2]) h 0 _ rfl
theorem put3_below {w0 w:World} {g:Nat} (h:Below w0.heap.size w0 w) (hg:w0.heap.size≤g) (v0 v1 v2:Value):Below w0.heap.size w0 (put3 w g v0 v1 v2):=below_set (below_set (below_set h hg) hg) hg
theorem put3_size {w:World} {g:Nat} (v0 v1 v2:Value):(put3 w g v0 v1 v2).heap.size=w.heap.size:=by simp[World.setCell]
theorem rowI.grown {e:Nat} {w w1:World} {v:Value} {xs:List Int} {row:Option Nat} (h:rowI e w v xs) (hg:w.grownBy w1 row) (hn:∀k,v.ownBlock=some k→row≠some k):rowI e w1 v xs:=h.keep (fun k hk=>hg.block k (h.lt k hk) (fun he=>hn k hk he.symm))
theorem blk1 {w:World} {g:Nat} {t:TypeId} {v0:Value} (h:w.heap[g]? =some (.cells #[v0] t (0,0))):w.cell? ⟨g,0,none⟩=some v0:=(blk_cell h 0).trans rfl
set_option linter.unusedVariables false
structure MK (ts:List Nat) (b:Nat) (w w1:World):Prop where
  os:w1.os=w.os
  tape:w1.tape=w.tape
  output:w1.output=w.output
  size:w.heap.size≤w1.heap.size
  kept:∀k,k<w.heap.size→(k<b∨∀q,q∈ts→∀cs:Array Value,w.heap[k]? ≠some (.cells cs q (0,0)))→w1.heap[k]? =w.heap[k]?
  shape:∀(k:Nat) (q:TypeId) (cs:Array Value),w.heap[k]? =some (.cells cs q (0,0))→∃cs1:Array Value,w1.heap[k]? =some (.cells cs1 q (0,0))∧cs1.size=cs.size
section
variable {ts ts':List Nat} {b:Nat} {w w0 w1 w2:World}
theorem MK.refl (ts:List Nat) (b:Nat) (w:World):MK ts b w w:=⟨rfl,rfl,rfl,Nat.le_refl _,fun _ _ _=>rfl,fun _ _ cs h=>⟨cs,h,rfl⟩⟩
theorem MK.mono (h:MK ts b w w1) (hs:∀q,q∈ts→q∈ts'):MK ts' b w w1:=⟨h.os,h.tape,h.output,h.size,fun k hk o=>h.kept k hk (o.imp id (fun f q hq=>f q (hs q hq))),h.shape⟩
theorem MK.of_below (hb:Below w.heap.size w w1):MK ts b w w1:=⟨hb.os,hb.tape,hb.output,hb.size,fun k hk _=>hb.block k hk,fun k q cs h=>⟨cs,(hb.block k (blk_lt h)).trans h,rfl⟩⟩
theorem MK.trans (h:MK ts b w w1) (k:MK ts b w1 w2):MK ts b w w2:=
  ⟨k.os.trans h.os,k.tape.trans h.tape,k.output.trans h.output,Nat.le_trans h.size k.size,fun i hi o=>(k.kept i (Nat.lt_of_lt_of_le hi h.size) (o.imp id (fun f q hq cs=>by rw[h.kept i hi o];exact f q hq cs))).trans (h.kept i hi o),
   fun i q cs hc=>by
    obtain⟨c1,h1,s1⟩:=h.shape i q cs hc
    obtain⟨c2,h2,s2⟩:=k.shape i q c1 h1
    exact⟨c2,h2,s2.trans s1⟩⟩
def RG (t m g:Nat) (w:World):Prop:=∃cs:Array Value,w.heap[g]? =some (.cells cs t (0,0))∧m≤cs.size
theorem RG.mk {t m g:Nat} (h:RG t m g w) (k:MK ts b w w1):RG t m g w1:=by
  obtain⟨cs,h1,h2⟩:=h
  obtain⟨c1,h3,h4⟩:=k.shape g t cs h1
  exact⟨c1,h3,by omega⟩
theorem RG.cell {t m g o:Nat} (h:RG t m g w) (ho:o<m):(∃u,w.cell? ⟨g,o,none⟩=some u)∧w.frozen? ⟨g,o,none⟩=false:=by
  obtain⟨cs,h1,h2⟩:=h
  exact⟨⟨cs[o]'(by omega),(blk_cell h1 o).trans (Array.getElem?_eq_getElem (by omega))⟩,blk_frozen h1 o⟩
theorem MK.set {t m g:Nat} (h:MK ts b w w1) (hg:RG t m g w1) (ht:t∈ts) (hb:b≤g) (o:Nat) (u:Value):MK ts b w (w1.setCell ⟨g,o,none⟩ u):=by
  obtain⟨cs,h1,h2⟩:=hg
  refine h.trans ⟨rfl,rfl,rfl,by simp[World.setCell],fun k hk o'=> ?_,fun k q c hc=> ?_⟩
  · refine Below.heap_setCell w1 ⟨g,o,none⟩ u k (fun e=> ?_)
    have e':k=g:=e
    subst e'
    exact o'.elim (fun q=>by omega) (fun f=>f t ht cs h1)
  · by_cases e:k=g
    · subst e
      rw[h1] at hc
      cases hc
      exact⟨_,blk_put h1 o u rfl,by simp⟩
    · exact⟨c,(Below.heap_setCell w1 ⟨g,o,none⟩ u k e).trans hc,rfl⟩
theorem MK.to_below (h:MK ts b w w1) (hb:Below w0.heap.size w0 w) (h0:w0.heap.size≤b):Below w0.heap.size w0 w1:=
  ⟨h.os.trans hb.os,h.tape.trans hb.tape,h.output.trans hb.output,Nat.le_trans hb.size h.size,fun k hk=>(h.kept k (Nat.lt_of_lt_of_le hk hb.size) (.inl (by omega))).trans (hb.block k hk)⟩
theorem MK.blk {g:Nat} {t:TypeId} {cs:Array Value} (h:MK ts b w w1) (hb:w.heap[g]? =some (.cells cs t (0,0))) (hn:t ∉ ts):w1.heap[g]? =some (.cells cs t (0,0)):=
  (h.kept g (blk_lt hb) (.inr (fun q hq c hc=>by rw[hb] at hc;cases hc;exact hn hq))).trans hb
theorem MK.row {α:Type} {d:Kd α} {e base:Nat} {ok:Nat→Prop} {v:Value} {xs:List α} (h:MK ts b w w1) (hr:d.R e w base ok v xs) (hn:∀q,q∈e::d.E→q ∉ ts):d.R e w1 base ok v xs:=
  Kd.R_mono (Kd.R_move (Kd.R_bound hr) (fun k hk=>by
    obtain⟨_,_,hl,q,hq,cs,hc⟩:=hk
    exact(h.blk hc (hn q hq)).trans hc.symm)) (fun _ hk=>hk.1)
end
def RS (t s b:Nat) (w:World) (v:Value) (n:Nat):Prop:=∃A c,v= .slice A n c∧n≤c∧n≤9223372036854775807∧(0<n→∃g,A=some ⟨g,0,none⟩∧b≤g∧RG t (n*s) g w)
theorem RS.mk {t s b n:Nat} {ts:List Nat} {b':Nat} {w w1:World} {v:Value} (h:RS t s b w v n) (k:MK ts b' w w1):RS t s b w1 v n:=by
  obtain⟨A,c,h1,h2,h3,h4⟩:=h
  exact⟨A,c,h1,h2,h3,fun p=>by obtain⟨g,e1,e2,e3⟩:=h4 p;exact⟨g,e1,e2,e3.mk k⟩⟩
theorem RS.of_R {α:Type} {d:Kd α} {e base:Nat} {ok:Nat→Prop} {w:World} {v:Value} {xs:List α} (z:α) (hs:0<d.sz) (h:d.R e w base ok v xs):RS e d.sz base w v xs.length:=by
  obtain⟨A,c,e1,e2,hC⟩:=Kd.R_reads h
  subst e1
  refine⟨A,c,rfl,e2,hC.2.1,fun p=> ?_⟩
  obtain⟨g,cap,e3,hg,hl,cs,hc⟩:=Kd.R_form h p
  injection e3 with e3 _ e4
  subst e3 e4
  refine⟨g,rfl,hg,cs,hc,?_⟩
  obtain⟨c1,l1,_,hcell,_⟩:=Kd.R_elem h z ((xs.length - 1:Nat):Int) (by omega) (by omega)
  have h5:=hcell (d.sz - 1) c1[d.sz - 1] (List.getElem?_eq_getElem (by omega))
  rw[blk_cell hc,Int.toNat_natCast] at h5
  have h6:=(Array.getElem?_eq_some_iff.1 h5).1
  have h7:xs.length*d.sz=(xs.length - 1)*d.sz+d.sz:=by
    rw[←Nat.succ_mul]
    congr 1
    omega
  omega
def up:Nat→Int→Int
  |0,k=>k
  |m+1,k=>up m (wrap64 (k+1))
end Go.Proofs.YtdkbkkpbdmlmbaaGreat.Sep
