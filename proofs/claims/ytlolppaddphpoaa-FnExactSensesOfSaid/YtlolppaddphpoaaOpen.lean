/- From what a row says of an argument (it reads as data of its type) to what a walk wants: its cells are those of a plain Lean value. No condition. -/
import Derived.Deep.Slices
import Derived.DataReads
import Derived.Test.YtlolppaddphpoaaW0
namespace Go.Proofs.Ytlolppaddphpoaa.Opening
open Go.ChangeShapes Go.WideShapes Go.Proofs.YtlolppaddphpoaaW.PrintWords
def Opens (P:Program) (t:TypeId) {α:Type} (d:Kd α) (gd:α→Prop):Prop:=
  ∀(H:Type) (enc:TypeId×Value→H) (w:World) (fuel:Nat) (cs:List Value) (x:DataW H×List MemPlace),DataW.trod enc P w 0 (fun _=>true) true fuel t cs=some x→∃y:α,d.K w y cs∧gd y
theorem opens_int {P:Program} {t:TypeId} {k:IntKind} (ht:P.underlying t=some (.int k)):Opens P t (Kd.int k) (fun n=>(Lit.int k n).wf=true):=by
  intro H enc w fuel cs x h
  obtain⟨n,rfl,_,hw⟩:=DataW.trod_int ht h
  exact⟨n,rfl,hw⟩
theorem list_of {α:Type} {p:Nat→α→Prop} (n:Nat) (h:∀i,i<n→∃x,p i x):∃l:List α,l.length=n∧∀i x,l[i]? =some x→p i x:=by
  induction n with
  |zero=>exact⟨[],rfl,fun i x hx=>by simp at hx⟩
  |succ n ih=>
    obtain⟨l,hl,hp⟩:=ih (fun i hi=>h i (by omega))
    obtain⟨x,hx⟩:=h n (by omega)
    refine⟨l++[x],by simp[hl],fun i y hy=> ?_⟩
    rcases Nat.lt_or_ge i l.length with hi|hi
    · rw[List.getElem?_append_left hi] at hy
      exact hp i y hy
    · have e:i=l.length:=by
        have:=(List.getElem?_eq_some_iff.1 hy).1
        simp at this
        omega
      subst e
      have:x=y:=by simpa using hy
      subst this
      rw[hl]
      exact hx
theorem opens_slice {P:Program} {t e:TypeId} {α:Type} {d:Kd α} {gd:α→Prop} (e':Nat) (ht:P.underlying t=some (.slice e)) (hs:P.cellsOf e=d.sz) (h:Opens P e d gd):
    Opens P t (Kd.slice e' d) (fun l=>l.length≤maxLen∧∀x∈l,gd x):=by
  intro H enc w fuel cs x hx
  rcases Deep.open_slice ht hx with⟨rfl,_⟩|⟨a,len,cap,m,n,D,Pl,rfl,_,hl,hm,hmm,_,hel⟩
  · exact⟨[],⟨none,0,rfl,Nat.le_refl _,rfl,by simp,fun hn=>absurd hn (by simp)⟩,by simp,fun x hx=>by cases hx⟩
  · have hlm:len≤m:=by rw[hmm];simpa using hl
    obtain⟨l,hll,hp⟩:=list_of (p:=fun i (y:α)=>∃cs',w.cells? 0 (a.add (i*d.sz)) d.sz=some cs'∧d.K w y cs'∧gd y) len (fun i hi=>by
      obtain⟨cs',hc,htr⟩:=hel i (by omega)
      obtain⟨y,hy,hg⟩:=h H enc w n cs' _ htr
      rw[hs] at hc
      exact⟨y,cs',hc,hy,hg⟩)
    have hlen:len≤maxLen:=Nat.le_trans hl hm
    refine⟨l,⟨some a,cap,by rw[hll],by omega,rfl,by unfold maxLen at hlen;omega,fun _=>⟨a,rfl,fun j p hj=> ?_⟩⟩,by omega,fun y hy=> ?_⟩
    · obtain⟨cs',hc,hk,_⟩:=hp j p hj
      obtain⟨_,hcl,hcc⟩:=World.cells?_some hc
      refine⟨cs',hcl,hk,fun i u hu=> ?_⟩
      have hi:i<d.sz:=by
        have:=(List.getElem?_eq_some_iff.1 hu).1
        omega
      rw[←Deep.add_add,hcc i hi]
      exact hu
    · obtain⟨i,hi⟩:=List.getElem?_of_mem hy
      obtain⟨_,_,_,hg⟩:=hp i y hi
      exact hg
def OpensF (P:Program) (fs:List Field) (off:Nat) {α:Type} (d:Kd α) (gd:α→Prop):Prop:=
  ∀(H:Type) (enc:TypeId×Value→H) (w:World) (fuel:Nat) (cs:List Value),cs.length=off+d.sz→(∀f∈fs,∃x,DataW.trod enc P w 0 (fun _=>true) true fuel f.type ((cs.drop f.offset).take (P.cellsOf f.type))=some x)→
    ∃y:α,d.K w y (cs.drop off)∧gd y
theorem opensF_last {P:Program} {f:Field} {off:Nat} {α:Type} {d:Kd α} {gd:α→Prop} (h:Opens P f.type d gd) (ho:f.offset=off) (hs:P.cellsOf f.type=d.sz):OpensF P [f] off d gd:=by
  intro H enc w fuel cs hl hf
  obtain⟨x,hx⟩:=hf f (by simp)
  rw[ho,hs,List.take_of_length_le (by rw[List.length_drop];omega)] at hx
  exact h H enc w fuel _ x hx
theorem opensF_cons {P:Program} {f:Field} {fs:List Field} {off:Nat} {α β:Type} {d:Kd α} {d2:Kd β} {gd:α→Prop} {gd2:β→Prop} (h:Opens P f.type d gd) (ho:f.offset=off) (hs:P.cellsOf f.type=d.sz)
    (h2:OpensF P fs (off+d.sz) d2 gd2):OpensF P (f::fs) off (Kd.pair d d2) (fun y=>gd y.1∧gd2 y.2):=by
  intro H enc w fuel cs hl hf
  have hl':cs.length=off+(d.sz+d2.sz):=hl
  obtain⟨x,hx⟩:=hf f (by simp)
  rw[ho,hs] at hx
  obtain⟨y,hy,hg⟩:=h H enc w fuel _ x hx
  obtain⟨y2,hy2,hg2⟩:=h2 H enc w fuel cs (by omega) (fun f' hf'=>hf f' (by simp[hf']))
  refine⟨(y,y2),⟨(cs.drop off).take d.sz,cs.drop (off+d.sz),?_,hy,hy2⟩,hg,hg2⟩
  rw[←List.drop_drop,List.take_append_drop]
theorem opens_struct {P:Program} {t:TypeId} {fs:Array Field} {α β:Type} {d:Kd α} {gd:α→Prop} (ht:P.underlying t=some (.struct fs)) (h:OpensF P fs.toList 0 d gd) (hs:P.cellsOf t=d.sz) (f:β→α) (g:α→β) (hfg:∀y,f (g y)=y):
    Opens P t (Kd.iso d f) (fun x=>gd (f x)):=by
  intro H enc w fuel cs x hx
  obtain⟨xs,n,rfl,_,hl,hxs,hel⟩:=DataW.trod_struct ht hx
  obtain⟨y,hy,hg⟩:=h H enc w n cs (by omega) (fun f' hf'=>by
    obtain⟨i,hi⟩:=List.getElem?_of_mem hf'
    have hi':fs[i]? =some f':=by rw[←Array.getElem?_toList];exact hi
    have:=hel i f' hi'
    have hlt:i<xs.length:=by
      have:=(Array.getElem?_eq_some_iff.1 hi').1
      omega
    rw[List.getElem?_eq_getElem hlt] at this
    exact⟨_,this⟩)
  refine⟨g y,?_,?_⟩
  · show d.K w (f (g y)) cs
    rw[hfg]
    simpa using hy
  · show gd (f (g y))
    rw[hfg]
    exact hg
end Go.Proofs.Ytlolppaddphpoaa.Opening
namespace Go.Proofs.Ytlolppaddphpoaa.G
end Go.Proofs.Ytlolppaddphpoaa.G
