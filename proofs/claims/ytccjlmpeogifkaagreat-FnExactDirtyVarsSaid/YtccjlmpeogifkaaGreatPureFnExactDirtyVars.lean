/- The law FnExactDirtyVars: for every input the function answers true. No condition. -/
import Derived.Test.YtccjlmpeogifkaaGreatGx18
namespace Go.Proofs.YtccjlmpeogifkaaGreat.Pure
open Go.RowKit Go.Proofs.YtccjlmpeogifkaaGreat.G Go.Proofs.YtccjlmpeogifkaaGreatW.PrintWords Go.Proofs.YtccjlmpeogifkaaGreatW.PrintLast
set_option linter.unusedVariables false
set_option linter.unusedSimpArgs false
theorem w64 {x:Int} (h: -9223372036854775808≤x) (h2:x≤9223372036854775807):wrap64 x=x:=by
 unfold wrap64
 omega
theorem succ_of {k d:Nat} (h:d<k):∃m,k=m+1:=⟨k - 1,by omega⟩
theorem rd_eq {l:List Int} {i:Int} (h0:0≤i) (h:i<(l.length:Int)):l[i.toNat]? =some (rd l i):=by
 unfold rd
 rw[List.getD_eq_getElem?_getD,List.getElem?_eq_getElem (by omega)]
 rfl
theorem drop_rd {l:List Int} {i:Int} (h0:0≤i) (h:i<(l.length:Int)):l.drop i.toNat=rd l i::l.drop (i+1).toNat:=by
 have h1:i.toNat<l.length:=by omega
 have h2:(i+1).toNat=i.toNat+1:=by omega
 have h3:=rd_eq h0 h
 rw[h2,List.drop_eq_getElem_cons h1]
 rw[List.getElem?_eq_getElem h1] at h3
 rw[Option.some.inj h3]
def marks (a:Int) (n:Nat):List Int:=(List.range n).map fun j:Nat=>a+(j:Int)
theorem marks_len (a:Int) (n:Nat):(marks a n).length=n:=by simp[marks]
theorem rd_all {P:Int→Prop} {l:List Int} (h:∀x∈l,P x) {i:Int} (h0:0≤i) (h1:i<(l.length:Int)):P (rd l i):=h _ (List.mem_of_getElem? (rd_eq h0 h1))
theorem getD_rd {α:Type} (z:α) {l:List α} {i:Int} (h0:0≤i) (h:i<(l.length:Int)):l[i.toNat]? =some (l.getD i.toNat z):=by
 rw[List.getD_eq_getElem?_getD,List.getElem?_eq_getElem (by omega)]
 rfl
theorem drop_getD {α:Type} (z:α) {l:List α} {i:Int} (h0:0≤i) (h:i<(l.length:Int)):l.drop i.toNat=l.getD i.toNat z::l.drop (i+1).toNat:=by
 have h1:i.toNat<l.length:=by omega
 have h2:(i+1).toNat=i.toNat+1:=by omega
 have h3:=getD_rd z h0 h
 rw[h2,List.drop_eq_getElem_cons h1]
 rw[List.getElem?_eq_getElem h1] at h3
 rw[Option.some.inj h3]
theorem getD_mem {α:Type} (z:α) {l:List α} {i:Int} (h0:0≤i) (h:i<(l.length:Int)):l.getD i.toNat z∈l:=List.mem_of_getElem? (getD_rd z h0 h)
theorem marks_succ (a:Int) (n:Nat):marks a (n+1)=a::marks (a+1) n:=by
 simp only[marks,List.range_succ_eq_map,List.map_cons,List.map_map]
 congr 1
 ·simp
 ·apply List.map_congr_left
  intro j _
  simp only[Function.comp]
  omega
theorem take_set_next (x:List Int) (n:Nat) (a:Int) (h:n<x.length):(x.set n a).take (n+1)=x.take n++[a]:=by
 have e:(x.set n a).take n=x.take n:=by
  apply List.ext_getElem?
  intro j
  simp only[List.getElem?_take]
  split
  ·rw[List.getElem?_set_ne (by omega)]
  ·rfl
 rw[List.take_succ_eq_append_getElem (by simpa using h),e]
 simp
theorem toIntS_l (l:List Int) (hl:l.length≤35184372088832) (d:Nat):∀(k:Nat) (x:List Int) (i:Int),0≤i→x.length=l.length→i+(d:Int)=(l.length:Int)→(∀j:Nat,(j:Int)<i→x[j]? =l[j]?)→d<k→
  laws_toIntS.l0 k l x i=some l:=by
 induction d with
 |zero=>
  intro k x i h0 hx hi hj hk
  obtain⟨k,rfl⟩:=succ_of hk
  simp only[laws_toIntS.l0]
  rw[if_neg (by omega)]
  congr 1
  apply List.ext_getElem?
  intro j
  by_cases h:(j:Int)<i
  ·exact hj j h
  ·rw[List.getElem?_eq_none (by omega),List.getElem?_eq_none (by omega)]
 |succ d ih=>
  intro k x i h0 hx hi hj hk
  obtain⟨k,rfl⟩:=succ_of hk
  simp only[laws_toIntS.l0]
  rw[if_pos (by omega),if_pos h0,if_pos (by omega),w64 (by omega) (by omega)]
  refine ih k _ (i+1) (by omega) (by simpa using hx) (by omega) (fun j h=> ?_) (by omega)
  rw[List.getElem?_set]
  by_cases e:i.toNat=j
  ·subst e
   rw[if_pos rfl,if_pos (by omega),rd_eq h0 (by omega)]
  ·rw[if_neg e]
   exact hj j (by omega)
theorem toIntS_at (l:List Int) (hl:l.length≤35184372088832) (k:Nat) (hk:l.length<k):laws_toIntS.f k l=some l:=by
 unfold laws_toIntS.f
 rw[if_pos (by omega),if_pos (by omega)]
 exact toIntS_l l hl l.length k _ 0 (by omega) (by simp) (by omega) (fun j h=>by omega) hk
theorem eqIntS_l (a b:List Int) (hl:a.length=b.length) (hb:a.length≤35184372088832) (d:Nat):∀(k:Nat) (i:Int),0≤i→i+(d:Int)=(a.length:Int)→d<k→
  laws_eqIntS.l0 k a b i=some (decide (a.drop i.toNat=b.drop i.toNat)):=by
 induction d with
 |zero=>
  intro k i h0 hi hk
  obtain⟨k,rfl⟩:=succ_of hk
  simp only[laws_eqIntS.l0]
  rw[if_neg (by omega),List.drop_eq_nil_of_le (by omega),List.drop_eq_nil_of_le (by omega)]
  simp
 |succ d ih=>
  intro k i h0 hi hk
  obtain⟨k,rfl⟩:=succ_of hk
  simp only[laws_eqIntS.l0]
  rw[if_pos (by omega),if_pos h0,if_pos (by omega),w64 (by omega) (by omega),drop_rd h0 (by omega),drop_rd h0 (by omega),ih k (i+1) (by omega) (by omega) (by omega)]
  by_cases e:rd a i=rd b i
  ·rw[if_pos e]
   simp[e]
  ·rw[if_neg e]
   simp[e]
theorem eqIntS_at (a b:List Int) (hb:a.length≤35184372088832) (k:Nat) (hk:a.length<k):laws_eqIntS.f k a b=some (decide (a=b)):=by
 unfold laws_eqIntS.f
 by_cases hl:a.length=b.length
 ·rw[if_pos (by omega),eqIntS_l a b hl hb a.length k 0 (by omega) (by omega) hk]
  simp
 ·rw[if_neg (by omega)]
  have:a≠b:=fun e=>hl (by rw[e])
  simp[this]
theorem eqIntS_same (a:List Int) (hb:a.length≤35184372088832) (k:Nat) (hk:a.length<k):laws_eqIntS.f k a a=some true:=by
 rw[eqIntS_at a a hb k hk]
 simp
theorem markIntS_l (d:Nat):∀(k:Nat) (x:List Int) (a i:Int),x.length≤35184372088832→0≤i→i+(d:Int)=(x.length:Int)→0≤a→a+(d:Int)≤4611686018427387904→d<k→
  laws_markIntS.l0 k x a i=some (a+(d:Int),x.take i.toNat++marks a d):=by
 induction d with
 |zero=>
  intro k x a i hx h0 hi ha hb hk
  obtain⟨k,rfl⟩:=succ_of hk
  simp only[laws_markIntS.l0]
  rw[if_neg (by omega),List.take_of_length_le (by omega)]
  simp[marks]
 |succ d ih=>
  intro k x a i hx h0 hi ha hb hk
  obtain⟨k,rfl⟩:=succ_of hk
  simp only[laws_markIntS.l0]
  rw[if_pos (by omega),if_pos h0,w64 (by omega) (by omega),w64 (by omega) (by omega)]
  rw[ih k _ (a+1) (i+1) (by simpa using hx) (by omega) (by rw[List.length_set];omega) (by omega) (by omega) (by omega)]
  have h2:(i+1).toNat=i.toNat+1:=by omega
  rw[h2,take_set_next x i.toNat a (by omega),marks_succ]
  simp
  omega
theorem markIntS_at (x:List Int) (a:Int) (k:Nat) (hx:x.length≤35184372088832) (ha:0≤a) (hb:a+(x.length:Int)≤4611686018427387904) (hk:x.length<k):
  laws_markIntS.f k x a=some (a+(x.length:Int),marks a x.length):=by
 unfold laws_markIntS.f
 rw[markIntS_l x.length k x a 0 hx (by omega) (by omega) ha hb hk]
 simp
theorem heldIntS_l (d:Nat):∀(k:Nat) (x:List Int) (a i:Int),x.length≤35184372088832→0≤i→i+(d:Int)=(x.length:Int)→0≤a→a+(d:Int)≤4611686018427387904→x.drop i.toNat=marks a d→d<k→
  laws_heldIntS.l0 k x a i=some (a+(d:Int)):=by
 induction d with
 |zero=>
  intro k x a i hx h0 hi ha hb hm hk
  obtain⟨k,rfl⟩:=succ_of hk
  simp only[laws_heldIntS.l0]
  rw[if_neg (by omega)]
  simp
 |succ d ih=>
  intro k x a i hx h0 hi ha hb hm hk
  obtain⟨k,rfl⟩:=succ_of hk
  simp only[laws_heldIntS.l0]
  rw[drop_rd h0 (by omega),marks_succ] at hm
  injection hm with h1 h2
  rw[if_pos (by omega),if_pos h0,if_pos h1,w64 (by omega) (by omega),w64 (by omega) (by omega)]
  rw[ih k x (a+1) (i+1) hx (by omega) (by omega) (by omega) (by omega) h2 (by omega)]
  congr 1
  omega
theorem heldIntS_at (a:Int) (n k:Nat) (hn:n≤35184372088832) (ha:0≤a) (hb:a+(n:Int)≤4611686018427387904) (hk:n<k):
  laws_heldIntS.f k (marks a n) a=some (a+(n:Int)):=by
 unfold laws_heldIntS.f
 exact heldIntS_l n k (marks a n) a 0 (by rw[marks_len];exact hn) (by omega) (by rw[marks_len];omega) ha hb (by simp) hk
theorem l01In_eq (a b c:Int):spec_l01In.f a b c=some (decide (b≤a∧a≤c)):=by
 unfold spec_l01In.f
 by_cases h:b≤a<;>simp[h]
theorem within_eq (a b c:Int):impl_within.f a b c=some (decide (b≤a∧a≤c)):=by
 unfold impl_within.f
 by_cases h:b≤a<;>simp[h]
theorem packI_ok (a b c:Int):∃r,impl_PackControl.f a b c=some r:=by
 unfold impl_PackControl.f
 simp only[within_eq,Option.bind_some]
 split
 ·split
  ·split
   ·exact⟨_,rfl⟩
   ·exact⟨_,rfl⟩
  ·exact⟨_,rfl⟩
 ·exact⟨_,rfl⟩
theorem packI_le {a b c r:Int} (h:impl_PackControl.f a b c=some r):r≤100000:=by
 unfold impl_PackControl.f at h
 simp only[within_eq,Option.bind_some,decide_eq_true_eq] at h
 by_cases h1:0≤a∧a≤5
 ·rw[if_pos h1] at h
  by_cases h2:0≤b∧b≤8
  ·rw[if_pos h2] at h
   by_cases h3:0≤c∧c≤24
   ·rw[if_pos h3] at h
    rw[w64 (x:=16*c) (by omega) (by omega),w64 (x:=b+16*c) (by omega) (by omega),w64 (x:=8*(b+16*c)) (by omega) (by omega),w64 (by omega) (by omega)] at h
    have:=Option.some.inj h
    omega
   ·rw[if_neg h3] at h
    have:=Option.some.inj h
    omega
  ·rw[if_neg h2] at h
   have:=Option.some.inj h
   omega
 ·rw[if_neg h1] at h
  have:=Option.some.inj h
  omega
theorem pack_eq (a b c:Int):spec_PackControl.f a b c=impl_PackControl.f a b c:=by
 unfold spec_PackControl.f impl_PackControl.f
 simp only[within_eq,l01In_eq]
theorem unpack_eq (a:Int) (k:Nat) (hk:0<k):spec_UnpackControl.f k a=impl_UnpackControl.f a:=by
 obtain⟨k,rfl⟩:=succ_of hk
 unfold spec_UnpackControl.f impl_UnpackControl.f
 by_cases h:a<0
 ·rw[if_pos h,if_pos h]
  simp[spec_UnpackControl.j0]
 ·rw[if_neg h,if_neg h]
  simp only[spec_UnpackControl.j0,decide_eq_true_eq,pack_eq]
  by_cases h2:a > 100000
  ·rw[if_pos h2]
   obtain⟨r,e⟩:=packI_ok (Int.tmod a 8) (Int.tmod (wrap64 (Int.tdiv a 8)) 16) (wrap64 (Int.tdiv a 128))
   have:=packI_le e
   rw[e]
   simp only[Option.bind_some]
   rw[if_neg (by omega)]
  ·rw[if_neg h2]
def exprOk (a b c:Int):Bool:=decide ((1≤a∧a≤7)∧(-8≤b∧b≤999)∧ -8≤c∧c≤999)
def stmtOk (a b c d e f:Int):Bool:=
 if a=1 then decide ((0≤b∧b≤7)∧c=0)&&exprOk d e f
 else if a=2 then decide ((0≤b∧b≤7)∧(0≤c∧c≤3)∧d=0∧e=0∧f=0)
 else if a=3∨a=4 then decide (b=0∧c=0)&&exprOk d e f
 else if a=5 then decide (b=0∧(1≤c∧c≤5)∧d=0∧e=0∧f=0)
 else if a=6 then decide (b=0∧c=0∧d=0∧e=0∧f=0) else false
theorem operandS_eq (x:Int):spec_OperandOk.f x=some (decide (-8≤x∧x≤999)):=by unfold spec_OperandOk.f;rw[l01In_eq];rfl
theorem exprS_eq (a b c:Int):spec_ExprOk.f a b c=some (exprOk a b c):=by
 unfold spec_ExprOk.f exprOk
 rw[l01In_eq,operandS_eq,operandS_eq]
 by_cases h1:1≤a∧a≤7<;>by_cases h2: -8≤b∧b≤999<;>simp[h1,h2]
theorem stmtS_eq (a b c d e f:Int) (k:Nat) (hk:3<k):spec_StmtOk.f k a b c d e f=some (stmtOk a b c d e f):=by
 obtain⟨k,rfl⟩:∃m,k=m+4:=⟨k - 4,by omega⟩
 unfold spec_StmtOk.f spec_l04Plain.f stmtOk
 simp only[spec_l04Plain.j0,spec_StmtOk.j0,l01In_eq,exprS_eq,Option.bind_some]
 by_cases h1:a=1
 ·subst h1
  by_cases h:c=0<;>by_cases g:0≤b∧b≤7<;>simp[h,g]
 by_cases h2:a=2
 ·subst h2
  by_cases h:d=0<;>by_cases h':e=0<;>by_cases h'':f=0<;>by_cases g:0≤b∧b≤7<;>simp[h,h',h'',g]
 by_cases h3:a=3
 ·subst h3
  by_cases h:b=0<;>by_cases h':c=0<;>simp[h,h']
 by_cases h4:a=4
 ·subst h4
  by_cases h:b=0<;>by_cases h':c=0<;>simp[h,h']
 by_cases h5:a=5
 ·subst h5
  by_cases h:b=0<;>by_cases h':d=0<;>by_cases h'':e=0<;>by_cases g:f=0<;>simp[h,h',h'',g]
 by_cases h6:a=6
 ·subst h6
  by_cases h:b=0<;>by_cases h':d=0<;>by_cases h'':e=0<;>by_cases g:f=0<;>by_cases g':c=0<;>simp[h,h',h'',g,g']
 ·simp[h1,h2,h3,h4,h5,h6]
theorem operandI_eq (x:Int):impl_OperandOk.f x=some (decide (-8≤x∧x≤999)):=by unfold impl_OperandOk.f;rw[within_eq];rfl
theorem exprI_eq (a b c:Int):impl_ExprOk.f a b c=some (exprOk a b c):=by
 unfold impl_ExprOk.f exprOk
 rw[within_eq,operandI_eq,operandI_eq]
 by_cases h1:1≤a∧a≤7<;>by_cases h2: -8≤b∧b≤999<;>simp[h1,h2]
theorem stmtI_eq (a b c d e f:Int) (k:Nat) (hk:3<k):impl_StmtOk.f k a b c d e f=some (stmtOk a b c d e f):=by
 obtain⟨k,rfl⟩:∃m,k=m+4:=⟨k - 4,by omega⟩
 unfold impl_StmtOk.f impl_hasVar.f impl_isVar.f stmtOk
 simp only[impl_StmtOk.j0,impl_StmtOk.j1,impl_hasExpr.f,impl_isSensor.f,within_eq,exprI_eq,Option.bind_some]
 by_cases h1:a=1
 ·subst h1
  by_cases h:c=0<;>by_cases g:0≤b∧b≤7<;>cases exprOk d e f<;>simp[h,g]
 by_cases h2:a=2
 ·subst h2
  by_cases h:d=0<;>by_cases h':e=0<;>by_cases h'':f=0<;>by_cases g:0≤b∧b≤7<;>simp[h,h',h'',g]
 by_cases h3:a=3
 ·subst h3
  by_cases h:b=0<;>by_cases h':c=0<;>cases exprOk d e f<;>simp[h,h']
 by_cases h4:a=4
 ·subst h4
  by_cases h:b=0<;>by_cases h':c=0<;>cases exprOk d e f<;>simp[h,h']
 by_cases h5:a=5
 ·subst h5
  by_cases h:b=0<;>by_cases h':d=0<;>by_cases h'':e=0<;>by_cases g:f=0<;>simp[h,h',h'',g]
 by_cases h6:a=6
 ·subst h6
  by_cases h:b=0<;>by_cases h':d=0<;>by_cases h'':e=0<;>by_cases g:f=0<;>by_cases g':c=0<;>simp[h,h',h'',g,g']
 ·have n:¬(1≤a∧a≤6):=by omega
  simp[h1,h2,h3,h4,h5,h6,n]
def stOk (s:S77):Bool:=stmtOk s.f0 s.f1 s.f2 s.f3.f0 s.f3.f1 s.f3.f2
inductive Bk where
 |nil:Bk
 |leaf (s:S77) (t:Bk):Bk
 |node (s:S77) (b:Bk) (e:S77) (t:Bk):Bk
def Bk.flat:Bk→List S77
 | .nil=>[]
 | .leaf s t=>s::t.flat
 | .node s b e t=>s::(b.flat++e::t.flat)
def Bk.ok:Bk→Prop
 | .nil=>True
 | .leaf s t=>s.f0≠4∧s.f0≠5∧s.f0≠6∧t.ok
 | .node s b e t=>(s.f0=4∨s.f0=5)∧b.ok∧e.f0=6∧t.ok
def dNext (s:S77) (d:Int):Int:=if s.f0=4∨s.f0=5 then d+1 else if s.f0=6 then d - 1 else d
def blkOk:List S77→Int→Bool
 |[],d=>decide (d=0)
 |s::t,d=>stOk s&&(decide (0≤dNext s d∧dNext s d≤3)&&blkOk t (dNext s d))
def blockOk (l:List S77):Bool:=blkOk l 0&&decide ((l.length:Int)≤24)
theorem blkOk_cons {s:S77} {t:List S77} {d:Int}:blkOk (s::t) d=true↔stOk s=true∧(0≤dNext s d∧dNext s d≤3)∧blkOk t (dNext s d)=true:=by
 rw[blkOk,Bool.and_eq_true,Bool.and_eq_true,decide_eq_true_eq]
theorem blkOk_all:∀(l:List S77) (d:Int),blkOk l d=true→∀s∈l,stOk s=true
 |[],d,h,s,hs=>by simp at hs
 |x::t,d,h,s,hs=>by
  obtain⟨h1,h2,h3⟩:=blkOk_cons.1 h
  rcases List.mem_cons.1 hs with rfl|hs
  ·exact h1
  ·exact blkOk_all t _ h3 s hs
theorem parse (n:Nat):∀(l:List S77) (d:Int),l.length≤n→0≤d→blkOk l d=true→
  (d=0→∃T:Bk,T.ok∧T.flat=l)∧(0<d→∃(T:Bk) (e:S77) (r:List S77),T.ok∧e.f0=6∧l=T.flat++e::r∧blkOk r (d - 1)=true):=by
 induction n with
 |zero=>
  intro l d hl hd h
  have:l=[]:=List.eq_nil_of_length_eq_zero (by omega)
  subst this
  simp only[blkOk,decide_eq_true_eq] at h
  exact⟨fun _=>⟨.nil,trivial,rfl⟩,fun h2=>absurd h (by omega)⟩
 |succ n ih=>
  intro l d hl hd h
  cases l with
  |nil=>
   simp only[blkOk,decide_eq_true_eq] at h
   exact⟨fun _=>⟨.nil,trivial,rfl⟩,fun h2=>absurd h (by omega)⟩
  |cons s t=>
   obtain⟨h1,h2,h3⟩:=blkOk_cons.1 h
   simp only[List.length_cons] at hl
   by_cases o:s.f0=4∨s.f0=5
   ·have e:dNext s d=d+1:=by rw[dNext,if_pos o]
    rw[e] at h2 h3
    obtain⟨T1,c,r,k1,k2,k3,k4⟩:=(ih t (d+1) (by omega) (by omega) h3).2 (by omega)
    rw[Int.add_sub_cancel] at k4
    have hr:r.length≤n:=by
     have:=congrArg List.length k3
     simp only[List.length_append,List.length_cons] at this
     omega
    obtain⟨q1,q2⟩:=ih r d hr hd k4
    constructor
    ·intro d0
     obtain⟨T2,m1,m2⟩:=q1 d0
     exact⟨.node s T1 c T2,⟨o,k1,k2,m1⟩,by rw[Bk.flat,m2,k3]⟩
    ·intro d0
     obtain⟨T2,c2,r2,m1,m2,m3,m4⟩:=q2 d0
     exact⟨.node s T1 c T2,c2,r2,⟨o,k1,k2,m1⟩,m2,by rw[Bk.flat,k3,m3];simp,m4⟩
   ·by_cases c:s.f0=6
    ·have e:dNext s d=d - 1:=by rw[dNext,if_neg o,if_pos c]
     rw[e] at h2 h3
     exact⟨fun d0=>absurd h2 (by omega),fun _=>⟨.nil,s,t,trivial,c,rfl,h3⟩⟩
    ·have e:dNext s d=d:=by rw[dNext,if_neg o,if_neg c]
     rw[e] at h2 h3
     obtain⟨q1,q2⟩:=ih t d (by omega) hd h3
     constructor
     ·intro d0
      obtain⟨T2,m1,m2⟩:=q1 d0
      exact⟨.leaf s T2,⟨fun h=>o (.inl h),fun h=>o (.inr h),c,m1⟩,by rw[Bk.flat,m2]⟩
     ·intro d0
      obtain⟨T2,c2,r2,m1,m2,m3,m4⟩:=q2 d0
      exact⟨.leaf s T2,c2,r2,⟨fun h=>o (.inl h),fun h=>o (.inr h),c,m1⟩,m2,by rw[Bk.flat,m3];rfl,m4⟩
theorem blockOk_tree {l:List S77} (h:blockOk l=true):∃T:Bk,T.ok∧T.flat=l∧l.length≤24∧∀s∈l,stOk s=true:=by
 rw[blockOk,Bool.and_eq_true,decide_eq_true_eq] at h
 obtain⟨T,h1,h2⟩:=(parse l.length l 0 (by omega) (by omega) h.1).1 rfl
 exact⟨T,h1,h2,by omega,blkOk_all l 0 h.1⟩
theorem at_mid (pre post:List S77) (s:S77) {i:Int} (hi:i=(pre.length:Int)):rd_T77 (pre++s::post) i=s:=by
 unfold rd_T77
 rw[hi,Int.toNat_natCast,List.getD_eq_getElem?_getD,List.getElem?_append_right (by omega),Nat.sub_self]
 rfl
theorem opening_eq (x:Int):impl_isOpening.f x=some (decide (x=4∨x=5)):=by
 unfold impl_isOpening.f
 by_cases h:x=4
 ·simp[h]
 ·by_cases h2:x=5<;>simp[h,h2]
theorem blockI_l (l:List S77) (hl:l.length≤1048576) (n:Nat):∀(k:Nat) (d i:Int),0≤d→d≤3→0≤i→i+(n:Int)=(l.length:Int)→2*n+5<k→
  impl_BlockOk.l0 k l d l (l.length:Int) i=some (blkOk (l.drop i.toNat) d&&decide ((l.length:Int)≤24)):=by
 induction n with
 |zero=>
  intro k d i hd hd3 h0 hi hk
  obtain⟨k,rfl⟩:=succ_of hk
  simp only[impl_BlockOk.l0]
  rw[if_neg (by omega),List.drop_eq_nil_of_le (by omega),blkOk]
  by_cases h:d=0<;>simp[h]
 |succ n ih=>
  intro k d i hd hd3 h0 hi hk
  obtain⟨k,rfl⟩:=succ_of hk
  obtain⟨k,rfl⟩:=succ_of (d:=4) (by omega:4<k)
  rw[impl_BlockOk.l0,if_pos (by omega),if_pos h0,if_pos (by omega),stmtI_eq _ _ _ _ _ _ _ (by omega),opening_eq,drop_getD z77 h0 (by omega)]
  change (Option.bind (some (stOk (rd_T77 l i))) _)=some (blkOk (rd_T77 l i::_) d&&_)
  generalize rd_T77 l i=s
  rw[blkOk]
  by_cases h1:stOk s=true
  ·simp only[h1,Option.bind_some,if_true,Bool.true_and,impl_BlockOk.j1,w64 (x:=i+1) (by omega) (by omega),w64 (x:=d+1) (by omega) (by omega),w64 (x:=d+1 - 1) (by omega) (by omega),w64 (x:=d - 1) (by omega) (by omega),decide_eq_true_eq]
   have go:=fun (x:Int) (a:0≤x) (b:x≤3)=>ih k x (i+1) a b (by omega) (by omega) (by omega)
   unfold dNext
   by_cases o:s.f0=4∨s.f0=5
   ·have n6:¬s.f0=6:=by omega
    rw[if_pos o,if_neg n6,if_pos o,if_neg (by omega)]
    by_cases g:d+1 > 3
    ·rw[if_pos g]
     simp
     omega
    ·rw[if_neg g,go _ (by omega) (by omega)]
     have:0≤d+1∧d+1≤3:=by omega
     simp[this]
   ·rw[if_neg o,if_neg o]
    by_cases n6:s.f0=6
    ·rw[if_pos n6,if_pos n6]
     by_cases g:d - 1<0
     ·rw[if_pos g]
      simp
      omega
     ·rw[if_neg g,if_neg (by omega),go _ (by omega) (by omega)]
      have:0≤d - 1∧d - 1≤3:=by omega
      have g1:1≤d:=by omega
      simp[this,g1]
    ·rw[if_neg n6,if_neg n6,if_neg (by omega),if_neg (by omega),go _ hd hd3]
     simp[hd,hd3]
  ·simp[h1]
theorem blockI_at (l:List S77) (hl:l.length≤1048576) (k:Nat) (hk:2*l.length+5<k):impl_BlockOk.f k l=some (blockOk l):=by
 unfold impl_BlockOk.f blockOk
 rw[blockI_l l hl l.length k 0 0 (by omega) (by omega) (by omega) (by omega) hk]
 simp
theorem blockS_l (l:List S77) (hl:l.length≤1048576) (n:Nat):∀(k:Nat) (d i:Int),0≤d→d≤3→0≤i→i+(n:Int)=(l.length:Int)→2*n+5<k→
  spec_BlockOk.l0 k l d i=some (blkOk (l.drop i.toNat) d&&decide ((l.length:Int)≤24)):=by
 induction n with
 |zero=>
  intro k d i hd hd3 h0 hi hk
  obtain⟨k,rfl⟩:=succ_of hk
  simp only[spec_BlockOk.l0]
  rw[if_neg (by omega),List.drop_eq_nil_of_le (by omega),blkOk]
  by_cases h:d=0<;>simp[h]
 |succ n ih=>
  intro k d i hd hd3 h0 hi hk
  obtain⟨k,rfl⟩:=succ_of hk
  obtain⟨k,rfl⟩:=succ_of (d:=4) (by omega:4<k)
  rw[spec_BlockOk.l0,if_pos (by omega),if_pos h0,stmtS_eq _ _ _ _ _ _ _ (by omega),drop_getD z77 h0 (by omega)]
  change (Option.bind (some (stOk (rd_T77 l i))) _)=some (blkOk (rd_T77 l i::_) d&&_)
  generalize rd_T77 l i=s
  rw[blkOk]
  by_cases h1:stOk s=true
  ·simp only[h1,Option.bind_some,if_true,Bool.true_and,spec_BlockOk.j1,l01In_eq,w64 (x:=i+1) (by omega) (by omega),w64 (x:=d+1) (by omega) (by omega),w64 (x:=d - 1) (by omega) (by omega),decide_eq_true_eq]
   have go:=fun (x:Int) (a:0≤x) (b:x≤3)=>ih k x (i+1) a b (by omega) (by omega) (by omega)
   unfold dNext
   by_cases o:s.f0=4∨s.f0=5
   ·rw[if_pos o]
    by_cases g:0≤d+1∧d+1≤3
    ·rw[go _ g.1 g.2]
     rcases o with o|o<;>simp[o,g]
    ·rcases o with o|o<;>simp[o,g]
   ·rw[if_neg o]
    have n4:¬s.f0=4:=fun h=>o (.inl h)
    have n5:¬s.f0=5:=fun h=>o (.inr h)
    by_cases n6:s.f0=6
    ·by_cases g:0≤d - 1∧d - 1≤3
     ·rw[go _ g.1 g.2]
      have g1:1≤d:=by omega
      simp[n6,g,g1]
     ·obtain rfl:d=0:=by omega
      simp[n6]
    ·rw[go _ hd hd3]
     simp[n4,n5,n6,hd,hd3]
  ·simp[h1]
theorem blockS_at (l:List S77) (hl:l.length≤1048576) (k:Nat) (hk:2*l.length+5<k):spec_BlockOk.f k l=some (blockOk l):=by
 unfold spec_BlockOk.f blockOk
 rw[blockS_l l hl l.length k 0 0 (by omega) (by omega) (by omega) (by omega) hk]
 simp
theorem l05Opens_eq (a b c d e f:Int):spec_l05Opens.f a b c d e f=some (decide (a=4∨a=5)):=by
 unfold spec_l05Opens.f
 by_cases h:a=4
 ·simp[h]
 ·by_cases h2:a=5<;>simp[h,h2]
theorem endS_l:∀(T:Bk),T.ok→∀(k:Nat) (pre post:List S77) (x i:Int),i=(pre.length:Int)→(pre++(T.flat++post)).length≤1048576→1≤x→x+(T.flat.length:Int)≤4000000→2*T.flat.length<k→
  spec_l05End.l0 k (pre++(T.flat++post)) x i=spec_l05End.l0 (k - 2*T.flat.length) (pre++(T.flat++post)) x (i+(T.flat.length:Int))
 | .nil,_,k,pre,post,x,i,hi,hl,hx,hx2,hk=>by
  simp[Bk.flat]
 | .leaf s t,ok,k,pre,post,x,i,hi,hl,hx,hx2,hk=>by
  simp only[Bk.flat,List.length_cons,List.length_append,List.cons_append] at hk hl hx2 ⊢
  obtain⟨k,rfl⟩:=succ_of (d:=1) (by omega:1<k)
  obtain⟨k,rfl⟩:=succ_of (d:=0) (by omega:0<k)
  have e:=at_mid pre (t.flat++post) s hi
  rw[spec_l05End.l0,if_pos (by simp only[List.length_append,List.length_cons];omega),if_pos (by omega),e,l05Opens_eq]
  have n4:¬(s.f0=4∨s.f0=5):=fun h=>h.elim ok.1 ok.2.1
  simp only[Option.bind_some,decide_eq_true_eq]
  rw[if_neg n4,spec_l05End.j1,if_pos (by omega),if_pos (by simp only[List.length_append,List.length_cons];omega),e,if_neg ok.2.2.1,w64 (by omega) (by omega)]
  have r:=endS_l t ok.2.2.2 k (pre++[s]) post x (i+1) (by simp only[List.length_append,List.length_cons,List.length_nil];omega) (by simp only[List.length_append,List.length_cons,List.length_nil];omega) hx (by omega) (by omega)
  simp only[List.append_assoc,List.singleton_append] at r
  rw[r]
  congr 1
  ·omega
  ·omega
 | .node s b c t,ok,k,pre,post,x,i,hi,hl,hx,hx2,hk=>by
  obtain⟨o,ob,oc,ot⟩:=ok
  simp only[Bk.flat,List.length_cons,List.length_append,List.cons_append,List.append_assoc] at hk hl hx2 ⊢
  obtain⟨k,rfl⟩:=succ_of (d:=1) (by omega:1<k)
  obtain⟨k,rfl⟩:=succ_of (d:=0) (by omega:0<k)
  have e:=at_mid pre (b.flat++c::(t.flat++post)) s hi
  rw[spec_l05End.l0,if_pos (by simp only[List.length_append,List.length_cons];omega),if_pos (by omega),e,l05Opens_eq]
  simp only[Option.bind_some,decide_eq_true_eq]
  rw[if_pos o,spec_l05End.j1,if_pos (by omega),if_pos (by simp only[List.length_append,List.length_cons];omega),e,if_neg (by omega),w64 (x:=i+1) (by omega) (by omega),w64 (x:=x+1) (by omega) (by omega)]
  have r:=endS_l b ob k (pre++[s]) (c::(t.flat++post)) (x+1) (i+1) (by simp only[List.length_append,List.length_cons,List.length_nil];omega) (by simp only[List.length_append,List.length_cons,List.length_nil];omega) (by omega) (by omega) (by omega)
  simp only[List.append_assoc,List.singleton_append] at r
  rw[r]
  obtain⟨m,em⟩:=succ_of (d:=1) (by omega:1<k - 2*b.flat.length)
  rw[em]
  obtain⟨m,rfl⟩:=succ_of (d:=0) (by omega:0<m)
  have e2:rd_T77 (pre++s::(b.flat++c::(t.flat++post))) (i+1+(b.flat.length:Int))=c:=by
   have:=at_mid (pre++s::b.flat) (t.flat++post) c (i:=i+1+(b.flat.length:Int)) (by simp only[List.length_append,List.length_cons];omega)
   simpa only[List.append_assoc,List.cons_append] using this
  rw[spec_l05End.l0,if_pos (by simp only[List.length_append,List.length_cons];omega),if_pos (by omega),e2,l05Opens_eq]
  simp only[Option.bind_some,decide_eq_true_eq]
  rw[if_neg (by omega),spec_l05End.j1,if_pos (by omega),if_pos (by simp only[List.length_append,List.length_cons];omega),e2,if_pos oc,w64 (x:=x+1 - 1) (by omega) (by omega),if_neg (by omega),w64 (by omega) (by omega),Int.add_sub_cancel]
  have r2:=endS_l t ot m (pre++s::(b.flat++[c])) post x (i+1+(b.flat.length:Int)+1) (by simp only[List.length_append,List.length_cons,List.length_nil];omega) (by simp only[List.length_append,List.length_cons,List.length_nil];omega) hx (by omega) (by omega)
  simp only[List.append_assoc,List.nil_append,List.cons_append] at r2
  rw[r2]
  congr 1
  ·omega
  ·omega
theorem endS_at (pre post:List S77) (s c:S77) (b:Bk) (ok:b.ok) (o:s.f0=4∨s.f0=5) (oc:c.f0=6) (i:Int) (hi:i=(pre.length:Int)) (hl:(pre++s::(b.flat++c::post)).length≤1048576) (k:Nat) (hk:2*b.flat.length+4<k):
  spec_l05End.f k (pre++s::(b.flat++c::post)) i=some (i+1+(b.flat.length:Int)):=by
 unfold spec_l05End.f
 have hl':=hl
 simp only[List.length_append,List.length_cons] at hl'
 obtain⟨k,rfl⟩:=succ_of (d:=1) (by omega:1<k)
 obtain⟨k,rfl⟩:=succ_of (d:=0) (by omega:0<k)
 have e:=at_mid pre (b.flat++c::post) s hi
 rw[spec_l05End.l0,if_pos (by simp only[List.length_append,List.length_cons];omega),if_pos (by omega),e,l05Opens_eq]
 simp only[Option.bind_some,decide_eq_true_eq]
 rw[if_pos o,spec_l05End.j1,if_pos (by omega),if_pos (by simp only[List.length_append,List.length_cons];omega),e,if_neg (by omega),w64 (x:=i+1) (by omega) (by omega),w64 (x:=0+1) (by omega) (by omega)]
 have r:=endS_l b ok k (pre++[s]) (c::post) (0+1) (i+1) (by simp only[List.length_append,List.length_cons,List.length_nil];omega) (by simp only[List.length_append,List.length_cons,List.length_nil];omega) (by omega) (by omega) (by omega)
 simp only[List.append_assoc,List.singleton_append] at r
 rw[r]
 obtain⟨m,em⟩:=succ_of (d:=1) (by omega:1<k - 2*b.flat.length)
 rw[em]
 obtain⟨m,rfl⟩:=succ_of (d:=0) (by omega:0<m)
 have e2:rd_T77 (pre++s::(b.flat++c::post)) (i+1+(b.flat.length:Int))=c:=by
  have:=at_mid (pre++s::b.flat) post c (i:=i+1+(b.flat.length:Int)) (by simp only[List.length_append,List.length_cons];omega)
  simpa only[List.append_assoc,List.cons_append] using this
 rw[spec_l05End.l0,if_pos (by simp only[List.length_append,List.length_cons];omega),if_pos (by omega),e2,l05Opens_eq]
 simp only[Option.bind_some,decide_eq_true_eq]
 rw[if_neg (by omega),spec_l05End.j1,if_pos (by omega),if_pos (by simp only[List.length_append,List.length_cons];omega),e2,if_pos oc,w64 (x:=0+1 - 1) (by omega) (by omega),if_pos (by omega)]
theorem endI_l:∀(T:Bk),T.ok→∀(k:Nat) (pre post:List S77) (x i:Int),i=(pre.length:Int)→(pre++(T.flat++post)).length≤1048576→1≤x→x+(T.flat.length:Int)≤4000000→2*T.flat.length<k→
  impl_endOf.l0 k (pre++(T.flat++post)) x i=impl_endOf.l0 (k - 2*T.flat.length) (pre++(T.flat++post)) x (i+(T.flat.length:Int))
 | .nil,_,k,pre,post,x,i,hi,hl,hx,hx2,hk=>by
  simp[Bk.flat]
 | .leaf s t,ok,k,pre,post,x,i,hi,hl,hx,hx2,hk=>by
  simp only[Bk.flat,List.length_cons,List.length_append,List.cons_append] at hk hl hx2 ⊢
  obtain⟨k,rfl⟩:=succ_of (d:=1) (by omega:1<k)
  obtain⟨k,rfl⟩:=succ_of (d:=0) (by omega:0<k)
  have e:=at_mid pre (t.flat++post) s hi
  rw[impl_endOf.l0,if_pos (by simp only[List.length_append,List.length_cons];omega),if_pos (by omega),e,opening_eq]
  have n4:¬(s.f0=4∨s.f0=5):=fun h=>h.elim ok.1 ok.2.1
  simp only[Option.bind_some,decide_eq_true_eq]
  rw[if_neg n4,impl_endOf.j1,if_pos (by omega),if_pos (by simp only[List.length_append,List.length_cons];omega),e,if_neg ok.2.2.1,if_neg (by omega),w64 (by omega) (by omega)]
  have r:=endI_l t ok.2.2.2 k (pre++[s]) post x (i+1) (by simp only[List.length_append,List.length_cons,List.length_nil];omega) (by simp only[List.length_append,List.length_cons,List.length_nil];omega) hx (by omega) (by omega)
  simp only[List.append_assoc,List.singleton_append] at r
  rw[r]
  congr 1
  ·omega
  ·omega
 | .node s b c t,ok,k,pre,post,x,i,hi,hl,hx,hx2,hk=>by
  obtain⟨o,ob,oc,ot⟩:=ok
  simp only[Bk.flat,List.length_cons,List.length_append,List.cons_append,List.append_assoc] at hk hl hx2 ⊢
  obtain⟨k,rfl⟩:=succ_of (d:=1) (by omega:1<k)
  obtain⟨k,rfl⟩:=succ_of (d:=0) (by omega:0<k)
  have e:=at_mid pre (b.flat++c::(t.flat++post)) s hi
  rw[impl_endOf.l0,if_pos (by simp only[List.length_append,List.length_cons];omega),if_pos (by omega),e,opening_eq]
  simp only[Option.bind_some,decide_eq_true_eq]
  rw[if_pos o,impl_endOf.j1,if_pos (by omega),if_pos (by simp only[List.length_append,List.length_cons];omega),e,if_neg (by omega),w64 (x:=i+1) (by omega) (by omega),w64 (x:=x+1) (by omega) (by omega),if_neg (by omega)]
  have r:=endI_l b ob k (pre++[s]) (c::(t.flat++post)) (x+1) (i+1) (by simp only[List.length_append,List.length_cons,List.length_nil];omega) (by simp only[List.length_append,List.length_cons,List.length_nil];omega) (by omega) (by omega) (by omega)
  simp only[List.append_assoc,List.singleton_append] at r
  rw[r]
  obtain⟨m,em⟩:=succ_of (d:=1) (by omega:1<k - 2*b.flat.length)
  rw[em]
  obtain⟨m,rfl⟩:=succ_of (d:=0) (by omega:0<m)
  have e2:rd_T77 (pre++s::(b.flat++c::(t.flat++post))) (i+1+(b.flat.length:Int))=c:=by
   have:=at_mid (pre++s::b.flat) (t.flat++post) c (i:=i+1+(b.flat.length:Int)) (by simp only[List.length_append,List.length_cons];omega)
   simpa only[List.append_assoc,List.cons_append] using this
  rw[impl_endOf.l0,if_pos (by simp only[List.length_append,List.length_cons];omega),if_pos (by omega),e2,opening_eq]
  simp only[Option.bind_some,decide_eq_true_eq]
  rw[if_neg (by omega),impl_endOf.j1,if_pos (by omega),if_pos (by simp only[List.length_append,List.length_cons];omega),e2,if_pos oc,w64 (x:=x+1 - 1) (by omega) (by omega),if_neg (by omega),w64 (by omega) (by omega),Int.add_sub_cancel]
  have r2:=endI_l t ot m (pre++s::(b.flat++[c])) post x (i+1+(b.flat.length:Int)+1) (by simp only[List.length_append,List.length_cons,List.length_nil];omega) (by simp only[List.length_append,List.length_cons,List.length_nil];omega) hx (by omega) (by omega)
  simp only[List.append_assoc,List.nil_append,List.cons_append] at r2
  rw[r2]
  congr 1
  ·omega
  ·omega
theorem endI_at (pre post:List S77) (s c:S77) (b:Bk) (ok:b.ok) (o:s.f0=4∨s.f0=5) (oc:c.f0=6) (i:Int) (hi:i=(pre.length:Int)) (hl:(pre++s::(b.flat++c::post)).length≤1048576) (k:Nat) (hk:2*b.flat.length+4<k):
  impl_endOf.f k (pre++s::(b.flat++c::post)) i=some (i+1+(b.flat.length:Int)):=by
 unfold impl_endOf.f
 have hl':=hl
 simp only[List.length_append,List.length_cons] at hl'
 obtain⟨k,rfl⟩:=succ_of (d:=1) (by omega:1<k)
 obtain⟨k,rfl⟩:=succ_of (d:=0) (by omega:0<k)
 have e:=at_mid pre (b.flat++c::post) s hi
 rw[impl_endOf.l0,if_pos (by simp only[List.length_append,List.length_cons];omega),if_pos (by omega),e,opening_eq]
 simp only[Option.bind_some,decide_eq_true_eq]
 rw[if_pos o,impl_endOf.j1,if_pos (by omega),if_pos (by simp only[List.length_append,List.length_cons];omega),e,if_neg (by omega),w64 (x:=i+1) (by omega) (by omega),w64 (x:=0+1) (by omega) (by omega),if_neg (by omega)]
 have r:=endI_l b ok k (pre++[s]) (c::post) (0+1) (i+1) (by simp only[List.length_append,List.length_cons,List.length_nil];omega) (by simp only[List.length_append,List.length_cons,List.length_nil];omega) (by omega) (by omega) (by omega)
 simp only[List.append_assoc,List.singleton_append] at r
 rw[r]
 obtain⟨m,em⟩:=succ_of (d:=1) (by omega:1<k - 2*b.flat.length)
 rw[em]
 obtain⟨m,rfl⟩:=succ_of (d:=0) (by omega:0<m)
 have e2:rd_T77 (pre++s::(b.flat++c::post)) (i+1+(b.flat.length:Int))=c:=by
  have:=at_mid (pre++s::b.flat) post c (i:=i+1+(b.flat.length:Int)) (by simp only[List.length_append,List.length_cons];omega)
  simpa only[List.append_assoc,List.cons_append] using this
 rw[impl_endOf.l0,if_pos (by simp only[List.length_append,List.length_cons];omega),if_pos (by omega),e2,opening_eq]
 simp only[Option.bind_some,decide_eq_true_eq]
 rw[if_neg (by omega),impl_endOf.j1,if_pos (by omega),if_pos (by simp only[List.length_append,List.length_cons];omega),e2,if_pos oc,w64 (x:=0+1 - 1) (by omega) (by omega),if_pos (by omega)]
theorem stOk_set {s:S77} (h:stOk s=true) (o:s.f0=1):(0≤s.f1∧s.f1≤7)∧exprOk s.f3.f0 s.f3.f1 s.f3.f2=true:=by
 unfold stOk stmtOk at h
 simp only[o,if_true,Bool.and_eq_true,decide_eq_true_eq] at h
 exact⟨h.1.1,h.2⟩
theorem stOk_sense {s:S77} (h:stOk s=true) (o:s.f0=2):(0≤s.f1∧s.f1≤7)∧0≤s.f2∧s.f2≤3:=by
 unfold stOk stmtOk at h
 simp[o] at h
 omega
theorem stOk_expr {s:S77} (h:stOk s=true) (o:s.f0=3∨s.f0=4):exprOk s.f3.f0 s.f3.f1 s.f3.f2=true:=by
 unfold stOk stmtOk at h
 have h1:¬s.f0=1:=by omega
 have h2:¬s.f0=2:=by omega
 simp only[h1,h2,o,if_true,if_false,Bool.and_eq_true] at h
 exact h.2
theorem take_drop_mid {α:Type} (pre m post:List α) {i j:Int} (hi:i=(pre.length:Int)) (hj:j=i+(m.length:Int)):((pre++(m++post)).take j.toNat).drop i.toNat=m:=by
 have h1:j.toNat=pre.length+m.length:=by omega
 have h2:i.toNat=pre.length:=by omega
 rw[h1,h2,←List.append_assoc,List.take_append_of_le_length (by simp),List.take_of_length_le (by simp),List.drop_left]
def stm (x:S112):S77:=⟨x.f0,x.f1,x.f2,⟨x.f3.f0,x.f3.f1,x.f3.f2⟩⟩
theorem szStmtS_eq (l:List S112) (a:Int) (hl:l.length≤9223372036854775807) (h0:0≤a) (h1:a≤1048576):laws_szStmtS.f l a=some (if a<(l.length:Int) then -1 else a - (l.length:Int)):=by
 unfold laws_szStmtS.f
 rw[w64 (by omega) (by omega)]
 by_cases h:a<(l.length:Int)
 ·rw[if_pos (by omega),if_pos h]
 ·rw[if_neg (by omega),if_neg h]
theorem toStmtS_l (l:List S112) (hl:l.length≤1048576) (d:Nat):∀(k:Nat) (x:List S77) (i:Int),0≤i→x.length=l.length→i+(d:Int)=(l.length:Int)→(∀j:Nat,(j:Int)<i→x[j]? =(l.map stm)[j]?)→d<k→
  laws_toStmtS.l0 k l x i=some (l.map stm):=by
 induction d with
 |zero=>
  intro k x i h0 hx hi hj hk
  obtain⟨k,rfl⟩:=succ_of hk
  simp only[laws_toStmtS.l0]
  rw[if_neg (by omega)]
  congr 1
  apply List.ext_getElem?
  intro j
  by_cases h:(j:Int)<i
  ·exact hj j h
  ·rw[List.getElem?_eq_none (by omega),List.getElem?_eq_none (by rw[List.length_map];omega)]
 |succ d ih=>
  intro k x i h0 hx hi hj hk
  obtain⟨k,rfl⟩:=succ_of hk
  simp only[laws_toStmtS.l0,laws_toStmt.f,laws_toExpr.f]
  rw[if_pos (by omega),if_pos h0]
  simp only[Option.bind_some]
  rw[if_pos (by omega),w64 (by omega) (by omega)]
  refine ih k _ (i+1) (by omega) (by simpa using hx) (by omega) (fun j h=> ?_) (by omega)
  rw[List.getElem?_set]
  by_cases e:i.toNat=j
  ·subst e
   rw[if_pos rfl,if_pos (by omega),List.getElem?_map,getD_rd z112 h0 (by omega)]
   rfl
  ·rw[if_neg e]
   exact hj j (by omega)
theorem toStmtS_at (l:List S112) (hl:l.length≤1048576) (k:Nat) (hk:l.length<k):laws_toStmtS.f k l=some (l.map stm):=by
 unfold laws_toStmtS.f
 rw[if_pos (by omega),if_pos (by omega)]
 exact toStmtS_l l hl l.length k _ 0 (by omega) (by simp) (by omega) (fun j h=>by omega) (by omega)
theorem eqStmtS_l (l:List S77) (hl:l.length≤1048576) (d:Nat):∀(k:Nat) (i:Int),0≤i→i+(d:Int)=(l.length:Int)→d<k→
  laws_eqStmtS.l0 k l l i=some true:=by
 induction d with
 |zero=>
  intro k i h0 hi hk
  obtain⟨k,rfl⟩:=succ_of hk
  simp only[laws_eqStmtS.l0]
  rw[if_neg (by omega)]
 |succ d ih=>
  intro k i h0 hi hk
  obtain⟨k,rfl⟩:=succ_of hk
  simp only[laws_eqStmtS.l0,laws_eqStmt.f,laws_eqExpr.f]
  rw[if_pos (by omega),if_pos h0,if_pos (by omega),w64 (by omega) (by omega)]
  simp only[if_true,Option.bind_some]
  exact ih k (i+1) (by omega) (by omega) (by omega)
theorem eqStmtS_same (l:List S77) (hl:l.length≤1048576) (k:Nat) (hk:l.length<k):laws_eqStmtS.f k l l=some true:=by
 unfold laws_eqStmtS.f
 rw[if_pos rfl]
 exact eqStmtS_l l hl l.length k 0 (by omega) (by omega) (by omega)
def tsk (x:S68):S55:=⟨x.f0.map stm,⟨x.f1.f0,x.f1.f1,x.f1.f2⟩⟩
theorem szTask_eq (x:S68) (a:Int) (hl:x.f0.length≤9223372036854775807) (h0:0≤a) (h1:a≤1048576):laws_szTask.f x.f0 x.f1.f0 x.f1.f1 x.f1.f2 a=some (if a<(x.f0.length:Int) then -1 else a - (x.f0.length:Int)):=by
 unfold laws_szTask.f
 rw[szStmtS_eq _ _ hl h0 h1]
 simp only[Option.bind_some]
 by_cases h:a<(x.f0.length:Int)
 ·rw[if_pos h]
  simp
 ·rw[if_neg h,if_neg (by omega)]
theorem szTaskS_l (l:List S68) (hl:l.length≤1048576) (hy:∀y∈l,y.f0.length≤9223372036854775807) (d:Nat):∀(k:Nat) (a i:Int),0≤i→i+(d:Int)=(l.length:Int)→0≤a→a≤1048576→d<k→
  ∃r,laws_szTaskS.l0 k l a i=some r∧(0≤r→r≤a∧∀y∈l.drop i.toNat,(y.f0.length:Int)≤a):=by
 induction d with
 |zero=>
  intro k a i h0 hi ha hb hk
  obtain⟨k,rfl⟩:=succ_of hk
  simp only[laws_szTaskS.l0]
  rw[if_neg (by omega),List.drop_eq_nil_of_le (by omega)]
  exact⟨_,rfl,fun _=>⟨by omega,by simp⟩⟩
 |succ d ih=>
  intro k a i h0 hi ha hb hk
  obtain⟨k,rfl⟩:=succ_of hk
  simp only[laws_szTaskS.l0]
  have hm:=getD_mem z68 h0 (by omega:i<(l.length:Int))
  rw[if_pos (by omega),if_pos h0,szTask_eq (rd_T68 l i) a (hy _ hm) ha hb,w64 (by omega) (by omega),drop_getD z68 h0 (by omega)]
  simp only[Option.bind_some]
  change ∃r,(if (if a<((rd_T68 l i).f0.length:Int) then (-1:Int) else a - ((rd_T68 l i).f0.length:Int))<0 then _ else _)=_∧(_→_∧∀y∈rd_T68 l i::_,_)
  by_cases h:a<((rd_T68 l i).f0.length:Int)
  ·rw[if_pos (by rw[if_pos h];omega)]
   exact⟨_,rfl,fun h=>absurd h (by omega)⟩
  ·rw[if_neg (by rw[if_neg h];omega),if_neg h]
   obtain⟨r,e,q⟩:=ih k (a - ((rd_T68 l i).f0.length:Int)) (i+1) (by omega) (by omega) (by omega) (by omega) (by omega)
   refine⟨r,e,fun hr=> ?_⟩
   obtain⟨q1,q2⟩:=q hr
   refine⟨by omega,fun y hy=> ?_⟩
   rcases List.mem_cons.1 hy with rfl|hy
   ·omega
   ·have:=q2 y hy
    omega
theorem szProgram_at (l:List S68) (a:Int) (hl:l.length≤9223372036854775807) (hy:∀y∈l,y.f0.length≤9223372036854775807) (h0:0≤a) (h1:a≤1048576) (k:Nat) (hk:1048577<k):
  ∃r,laws_szProgram.f k l a=some r∧(0≤r→r≤a∧(l.length:Int)≤a∧∀y∈l,(y.f0.length:Int)≤a):=by
 unfold laws_szProgram.f laws_szTaskS.f
 rw[w64 (by omega) (by omega)]
 by_cases h:a - (l.length:Int)<0
 ·rw[if_pos h]
  exact⟨-1,by simp,fun h=>absurd h (by omega)⟩
 ·rw[if_neg h]
  obtain⟨r,e,q⟩:=szTaskS_l l (by omega) hy l.length k (a - (l.length:Int)) 0 (by omega) (by omega) (by omega) (by omega) (by omega)
  rw[e]
  simp only[Option.bind_some]
  by_cases hr:r<0
  ·rw[if_pos hr]
   exact⟨_,rfl,fun h=>absurd h (by omega)⟩
  rw[if_neg hr]
  refine⟨r,rfl,fun hr=> ?_⟩
  obtain⟨q1,q2⟩:=q hr
  refine⟨by omega,by omega,fun y hy=> ?_⟩
  have:=q2 y (by simpa using hy)
  omega
theorem toTask_at (x:S68) (h:x.f0.length≤1048576) (k:Nat) (hk:1048577<k):laws_toTask.f k x.f0 x.f1.f0 x.f1.f1 x.f1.f2=some (x.f0.map stm,x.f1.f0,x.f1.f1,x.f1.f2):=by
 unfold laws_toTask.f laws_toExpr.f
 rw[toStmtS_at _ h _ (by omega)]
 rfl
theorem toTaskS_l (l:List S68) (hl:l.length≤1048576) (hy:∀y∈l,y.f0.length≤1048576) (d:Nat):∀(k:Nat) (x:List S55) (i:Int),0≤i→x.length=l.length→i+(d:Int)=(l.length:Int)→(∀j:Nat,(j:Int)<i→x[j]? =(l.map tsk)[j]?)→d+1048580<k→
  laws_toTaskS.l0 k l x i=some (l.map tsk):=by
 induction d with
 |zero=>
  intro k x i h0 hx hi hj hk
  obtain⟨k,rfl⟩:=succ_of hk
  simp only[laws_toTaskS.l0]
  rw[if_neg (by omega)]
  congr 1
  apply List.ext_getElem?
  intro j
  by_cases h:(j:Int)<i
  ·exact hj j h
  ·rw[List.getElem?_eq_none (by omega),List.getElem?_eq_none (by rw[List.length_map];omega)]
 |succ d ih=>
  intro k x i h0 hx hi hj hk
  obtain⟨k,rfl⟩:=succ_of hk
  have hm:(rd_T68 l i).f0.length≤1048576:=hy _ (getD_mem z68 h0 (by omega:i<(l.length:Int)))
  simp only[laws_toTaskS.l0]
  rw[if_pos (by omega),if_pos h0,toTask_at _ hm k (by omega)]
  simp only[Option.bind_some]
  rw[if_pos (by omega),w64 (by omega) (by omega)]
  refine ih k _ (i+1) (by omega) (by simpa using hx) (by omega) (fun j h=> ?_) (by omega)
  rw[List.getElem?_set]
  by_cases e:i.toNat=j
  ·subst e
   rw[if_pos rfl,if_pos (by omega),List.getElem?_map,getD_rd z68 h0 (by omega)]
   rfl
  ·rw[if_neg e]
   exact hj j (by omega)
theorem toProgram_at (l:List S68) (hl:l.length≤1048576) (hy:∀y∈l,y.f0.length≤1048576) (k:Nat) (hk:2097160<k):laws_toProgram.f k l=some (l.map tsk):=by
 unfold laws_toProgram.f laws_toTaskS.f
 rw[if_pos (by omega),if_pos (by omega),toTaskS_l l hl hy l.length k _ 0 (by omega) (by simp) (by omega) (fun j h=>by omega) (by omega)]
 rfl
theorem eqTask_same (x:S55) (h:x.f0.length≤1048576) (k:Nat) (hk:1048577<k):laws_eqTask.f k x.f0 x.f1.f0 x.f1.f1 x.f1.f2 x.f0 x.f1.f0 x.f1.f1 x.f1.f2=some true:=by
 unfold laws_eqTask.f laws_eqExpr.f
 rw[eqStmtS_same _ h _ (by omega)]
 simp
theorem eqTaskS_l (l:List S55) (hl:l.length≤1048576) (hy:∀y∈l,y.f0.length≤1048576) (d:Nat):∀(k:Nat) (i:Int),0≤i→i+(d:Int)=(l.length:Int)→d+1048580<k→
  laws_eqTaskS.l0 k l l i=some true:=by
 induction d with
 |zero=>
  intro k i h0 hi hk
  obtain⟨k,rfl⟩:=succ_of hk
  simp only[laws_eqTaskS.l0]
  rw[if_neg (by omega)]
 |succ d ih=>
  intro k i h0 hi hk
  obtain⟨k,rfl⟩:=succ_of hk
  have hm:(rd_T55 l i).f0.length≤1048576:=hy _ (getD_mem z55 h0 (by omega:i<(l.length:Int)))
  simp only[laws_eqTaskS.l0]
  rw[if_pos (by omega),if_pos h0,if_pos (by omega),eqTask_same _ hm k (by omega),w64 (by omega) (by omega)]
  simp only[if_true,Option.bind_some]
  exact ih k (i+1) (by omega) (by omega) (by omega)
theorem eqProgram_same (l:List S55) (hl:l.length≤1048576) (hy:∀y∈l,y.f0.length≤1048576) (k:Nat) (hk:2097160<k):laws_eqProgram.f k l l=some true:=by
 unfold laws_eqProgram.f laws_eqTaskS.f
 rw[if_pos rfl,eqTaskS_l l hl hy l.length k 0 (by omega) (by omega) (by omega)]
 simp
theorem program_or (x:S24) (g:gd24 x):∀k,2097160<k→∃r,laws_szProgram.f k x.f0 1048576=some r∧(0≤r→(x.f0.map tsk).length≤1048576∧(∀y∈x.f0.map tsk,y.f0.length≤1048576)∧(∀k,2097160<k→laws_toProgram.f k x.f0=some (x.f0.map tsk))∧(∀k,2097160<k→laws_eqProgram.f k (x.f0.map tsk) (x.f0.map tsk)=some true)):=by
 intro k hk
 obtain⟨a1,a2⟩:=g
 simp only[maxLen] at a1
 obtain⟨r,e,q⟩:=szProgram_at x.f0 1048576 (by omega) (fun y hy=>by have:=(a2 y hy).1.1;simp only[maxLen] at this;omega) (by omega) (by omega) k (by omega)
 refine⟨r,e,fun hr=> ?_⟩
 obtain⟨_,q2,q3⟩:=q hr
 have hy:∀y∈x.f0,y.f0.length≤1048576:=fun y hy=>by have:=q3 y hy;omega
 have hm:∀y∈x.f0.map tsk,y.f0.length≤1048576:=by
  intro y hy'
  obtain⟨z,hz,rfl⟩:=List.mem_map.1 hy'
  simp only[tsk,List.length_map]
  exact hy z hz
 have hl:(x.f0.map tsk).length≤1048576:=by rw[List.length_map];omega
 exact⟨hl,hm,fun k hk=>toProgram_at _ (by omega) hy k hk,fun k hk=>eqProgram_same _ hl hm k hk⟩
def taskOkB (t:S55):Bool:=blockOk t.f0&&exprOk t.f1.f0 t.f1.f1 t.f1.f2
def progOk (l:List S55):Bool:=decide (1≤(l.length:Int)∧(l.length:Int)≤6)&&l.all taskOkB
theorem taskOkI_at (t:S55) (h:t.f0.length≤1048576) (k:Nat) (hk:2097160<k):impl_taskOk.f k t.f0 t.f1.f0 t.f1.f1 t.f1.f2=some (taskOkB t):=by
 unfold impl_taskOk.f taskOkB
 rw[blockI_at _ h k (by omega),exprI_eq]
 simp only[Option.bind_some]
 cases blockOk t.f0<;>simp
theorem anyNot_at (k:Nat) (hk:2097160<k):∀(l:List S55),(∀y∈l,y.f0.length≤1048576)→anyNot k l=some (!(l.all taskOkB))
 |[],_=>rfl
 |t::r,h=>by
  rw[anyNot,taskOkI_at t (h t (by simp)) k hk,anyNot_at k hk r (fun y hy=>h y (List.mem_cons_of_mem _ hy))]
  simp only[Option.bind_some,List.all_cons]
  cases taskOkB t<;>simp
theorem progOkI_at (l:List S55) (h:∀y∈l,y.f0.length≤1048576) (k:Nat) (hk:2097160<k):impl_ProgramOk.f k l=some (progOk l):=by
 unfold impl_ProgramOk.f progOk
 rw[within_eq,anyNot_at k hk l h]
 simp only[Option.bind_some,decide_eq_true_eq,Bool.not_not]
 by_cases c:1≤(l.length:Int)∧(l.length:Int)≤6
 ·rw[if_pos c]
  simp[c]
 ·rw[if_neg c]
  simp only[c,decide_false,Bool.false_and]
theorem progOkS_l (l:List S55) (hl:l.length≤1048576) (h:∀y∈l,y.f0.length≤1048576) (d:Nat):∀(k:Nat) (i:Int),0≤i→i+(d:Int)=(l.length:Int)→d+2097160<k→
  spec_ProgramOk.l0 k i l=some ((l.drop i.toNat).all taskOkB&&decide (1≤(l.length:Int)∧(l.length:Int)≤6)):=by
 induction d with
 |zero=>
  intro k i h0 hi hk
  obtain⟨k,rfl⟩:=succ_of hk
  simp only[spec_ProgramOk.l0]
  rw[if_neg (by omega),l01In_eq,List.drop_eq_nil_of_le (by omega)]
  simp
 |succ d ih=>
  intro k i h0 hi hk
  obtain⟨k,rfl⟩:=succ_of hk
  have hm:(rd_T55 l i).f0.length≤1048576:=h _ (getD_mem z55 h0 (by omega:i<(l.length:Int)))
  simp only[spec_ProgramOk.l0]
  rw[if_pos (by omega),if_pos h0,blockS_at _ hm k (by omega),exprS_eq,w64 (by omega) (by omega),ih k (i+1) (by omega) (by omega) (by omega),drop_getD z55 h0 (by omega)]
  simp only[Option.bind_some,List.all_cons]
  change _=some (taskOkB (rd_T55 l i)&&_&&_)
  unfold taskOkB
  cases blockOk (rd_T55 l i).f0<;>cases exprOk (rd_T55 l i).f1.f0 (rd_T55 l i).f1.f1 (rd_T55 l i).f1.f2<;>simp
theorem progOkS_at (l:List S55) (hl:l.length≤1048576) (h:∀y∈l,y.f0.length≤1048576) (k:Nat) (hk:3145740<k):spec_ProgramOk.f k l=some (progOk l):=by
 unfold spec_ProgramOk.f progOk
 rw[progOkS_l l hl h l.length k 0 (by omega) (by omega) (by omega)]
 simp only[Int.toNat_zero,List.drop_zero]
 rw[Bool.and_comm]
theorem packI_in {a b c r:Int} (h:impl_PackControl.f a b c=some r):r= -1∨((0≤a∧a≤5)∧(0≤b∧b≤8)∧(0≤c∧c≤24)):=by
 unfold impl_PackControl.f at h
 simp only[within_eq,Option.bind_some,decide_eq_true_eq] at h
 by_cases h1:0≤a∧a≤5
 ·rw[if_pos h1] at h
  by_cases h2:0≤b∧b≤8
  ·rw[if_pos h2] at h
   by_cases h3:0≤c∧c≤24
   ·exact .inr ⟨h1,h2,h3⟩
   ·rw[if_neg h3] at h
    exact .inl (Option.some.inj h).symm
  ·rw[if_neg h2] at h
   exact .inl (Option.some.inj h).symm
 ·rw[if_neg h1] at h
  exact .inl (Option.some.inj h).symm
theorem unpackI_all (a:Int):∃s n t,impl_UnpackControl.f a=some (s,n,t)∧((s= -1∧n= -1∧t= -1)∨((0≤s∧s≤5)∧(0≤n∧n≤8)∧(0≤t∧t≤24))):=by
 unfold impl_UnpackControl.f
 by_cases h0:a<0
 ·rw[if_pos h0]
  exact⟨_,_,_,rfl,.inl ⟨rfl,rfl,rfl⟩⟩
 ·rw[if_neg h0]
  obtain⟨r,h⟩:=packI_ok (Int.tmod a 8) (Int.tmod (wrap64 (Int.tdiv a 8)) 16) (wrap64 (Int.tdiv a 128))
  rw[h]
  simp only[Option.bind_some]
  by_cases e:r=a
  ·rw[if_pos e]
   rcases packI_in h with q|q
   ·omega
   ·exact⟨_,_,_,rfl,.inr q⟩
  ·rw[if_neg e]
   exact⟨_,_,_,rfl,.inl ⟨rfl,rfl,rfl⟩⟩
def logOk (m:List Int):Nat→Int→Bool
 |0,_=>true
 |d+1,i=>decide (0≤rd m (9+2*i)∧rd m (9+2*i)≤7)&&(valP (rd m (9+2*i+1))&&logOk m d (i+1))
def memOk (l:List S55) (m:List Int):Bool:=
 progOk l&&(decide (m.length=49)&&(match impl_UnpackControl.f (rd m 8) with
  |none=>false
  |some (s,n,t)=>decide (0≤s∧s<(l.length:Int))&&((m.take 8).all valP&&(((m.take (25+t).toNat).drop 25).all valP&&logOk m n.toNat 0))))
theorem isValI_eq (x:Int):impl_IsValue.f x=some (valP x):=valP_eq x
theorem isVarI_eq (x:Int):impl_isVar.f x=some (decide (0≤x∧x≤7)):=by
 unfold impl_isVar.f
 rw[within_eq]
 rfl
theorem areValI_eq (l:List Int):impl_areValues.f l=some (l.all valP):=by
 unfold impl_areValues.f
 rw[List.all_eq_not_any_not]
theorem logI_l (m:List Int) (hm:m.length=49) (n:Int) (hn:n≤8) (d:Nat):∀(k:Nat) (i:Int),0≤i→i+(d:Int)=n→d<k→
  impl_MemOk.l0 k m n i=some (logOk m d i):=by
 induction d with
 |zero=>
  intro k i h0 hi hk
  obtain⟨k,rfl⟩:=succ_of hk
  simp only[impl_MemOk.l0]
  rw[if_neg (by omega)]
  rfl
 |succ d ih=>
  intro k i h0 hi hk
  obtain⟨k,rfl⟩:=succ_of hk
  have w1:wrap64 (2*i)=2*i:=w64 (by omega) (by omega)
  have w2:wrap64 (9+2*i)=9+2*i:=w64 (by omega) (by omega)
  have w3:wrap64 (9+2*i+1)=9+2*i+1:=w64 (by omega) (by omega)
  have w4:wrap64 (i+1)=i+1:=w64 (by omega) (by omega)
  simp only[impl_MemOk.l0,w1,w2,w3,w4,isVarI_eq,isValI_eq,Option.bind_some,decide_eq_true_eq]
  rw[if_pos (by omega),if_pos (by omega),if_pos (by omega),ih k (i+1) (by omega) (by omega) (by omega),logOk]
  by_cases h:0≤rd m (9+2*i)∧rd m (9+2*i)≤7
  ·rw[if_pos h,if_pos (by omega),if_pos (by omega)]
   cases valP (rd m (9+2*i+1))<;>simp[h]
  ·rw[if_neg h]
   simp only[h,decide_false,Bool.false_and]
theorem memOkI_at (l:List S55) (h:∀y∈l,y.f0.length≤1048576) (m:List Int) (hm:m.length≤1048576) (k:Nat) (hk:2097160<k):impl_MemOk.f k l m=some (memOk l m):=by
 unfold impl_MemOk.f memOk
 rw[progOkI_at l h k hk]
 obtain⟨k,rfl⟩:=succ_of (d:=20) (by omega:20<k)
 obtain⟨k,rfl⟩:=succ_of (d:=19) (by omega:19<k)
 simp only[Option.bind_some,impl_MemOk.j0,impl_MemOk.j1,areValI_eq]
 by_cases p:progOk l=true
 ·simp only[p,if_true,Bool.true_and]
  by_cases e:m.length=49
  ·obtain⟨s,n,t,eu,hu⟩:=unpackI_all (rd m 8)
   have e':(m.length:Int)=49:=by omega
   have g8:(8:Int)≤(m.length:Int):=by omega
   have g9:(8:Int)<(m.length:Int):=by omega
   simp only[e',e,eu,Option.bind_some,if_true,decide_true,Bool.true_and,(by omega:(8:Int)≤49),(by omega:(8:Int)<49)]
   rcases hu with⟨rfl,rfl,rfl⟩|⟨h1,h2,h3⟩
   ·cases List.all (List.take 8 m) valP<;>simp
   ·have w1:wrap64 (25+t)=25+t:=w64 (by omega) (by omega)
    have s0:¬s<0:=by omega
    have t0:(25:Int)≤25+t:=by omega
    have t1:(25:Int)+t≤49:=by omega
    have lg:=logI_l m e n (by omega) n.toNat k 0 (by omega) (by omega) (by omega)
    simp only[w1,s0,t0,t1,if_true,if_false,lg]
    by_cases hs:s≥(l.length:Int)
    ·have:¬(0≤s∧s<(l.length:Int)):=by omega
     cases List.all (List.take 8 m) valP<;>simp[hs,this]
    ·have:(0≤s∧s<(l.length:Int)):=by omega
     simp only[hs,this,if_false,and_self,decide_true,Bool.true_and]
     cases List.all (List.take 8 m) valP<;>cases List.all (List.drop 25 (List.take (25+t).toNat m)) valP<;>simp[e,t1]
  ·have e':¬(m.length:Int)=49:=by omega
   simp[e,e']
 ·simp[p]
theorem isValS_eq (x:Int):spec_IsValue.f x=some (valP x):=by
 unfold spec_IsValue.f
 rw[l01In_eq]
 rfl
theorem valuesS_l (l:List Int) (hl:l.length≤1048576) (d:Nat):∀(k:Nat) (i:Int),0≤i→i+(d:Int)=(l.length:Int)→d<k→spec_l09Values.l0 k l i=some ((l.drop i.toNat).all valP):=by
 induction d with
 |zero=>
  intro k i h0 hi hk
  obtain⟨k,rfl⟩:=succ_of hk
  simp only[spec_l09Values.l0]
  rw[if_neg (by omega),List.drop_eq_nil_of_le (by omega)]
  rfl
 |succ d ih=>
  intro k i h0 hi hk
  obtain⟨k,rfl⟩:=succ_of hk
  simp only[spec_l09Values.l0]
  rw[if_pos (by omega),if_pos h0,isValS_eq,drop_rd h0 (by omega),w64 (by omega) (by omega),ih k (i+1) (by omega) (by omega) (by omega)]
  simp only[Option.bind_some,List.all_cons]
  cases valP (rd l i)<;>simp
theorem valuesS_at (l:List Int) (hl:l.length≤1048576) (k:Nat) (hk:l.length<k):spec_l09Values.f k l=some (l.all valP):=by
 unfold spec_l09Values.f
 rw[valuesS_l l hl l.length k 0 (by omega) (by omega) hk]
 simp
theorem logS_l (m:List Int) (hm:m.length=49) (n:Int) (hn:n≤8) (d:Nat):∀(k:Nat) (i:Int),0≤i→i+(d:Int)=n→d<k→
  spec_MemOk.l0 k m n i=some (logOk m d i):=by
 induction d with
 |zero=>
  intro k i h0 hi hk
  obtain⟨k,rfl⟩:=succ_of hk
  simp only[spec_MemOk.l0]
  rw[if_neg (by omega)]
  rfl
 |succ d ih=>
  intro k i h0 hi hk
  obtain⟨k,rfl⟩:=succ_of hk
  have w1:wrap64 (2*i)=2*i:=w64 (by omega) (by omega)
  have w2:wrap64 (9+2*i)=9+2*i:=w64 (by omega) (by omega)
  have w3:wrap64 (9+2*i+1)=9+2*i+1:=w64 (by omega) (by omega)
  have w4:wrap64 (i+1)=i+1:=w64 (by omega) (by omega)
  simp only[spec_MemOk.l0,w1,w2,w3,w4,l01In_eq,isValS_eq,Option.bind_some,decide_eq_true_eq]
  rw[if_pos (by omega),if_pos (by omega),if_pos (by omega),ih k (i+1) (by omega) (by omega) (by omega),logOk]
  by_cases h:0≤rd m (9+2*i)∧rd m (9+2*i)≤7
  ·rw[if_pos h,if_pos (by omega),if_pos (by omega)]
   cases valP (rd m (9+2*i+1))<;>simp[h]
  ·rw[if_neg h]
   simp only[h,decide_false,Bool.false_and]
theorem memOkS_at (l:List S55) (hl:l.length≤1048576) (h:∀y∈l,y.f0.length≤1048576) (m:List Int) (hm:m.length≤1048576) (k:Nat) (hk:3145740<k):spec_MemOk.f k l m=some (memOk l m):=by
 unfold spec_MemOk.f memOk
 rw[progOkS_at l hl h k hk]
 obtain⟨k,rfl⟩:=succ_of (d:=120) (by omega:120<k)
 obtain⟨k,rfl⟩:=succ_of (d:=119) (by omega:119<k)
 simp only[Option.bind_some,spec_MemOk.j0,spec_MemOk.j1]
 by_cases p:progOk l=true
 ·simp only[p,if_true,Bool.true_and]
  by_cases e:m.length=49
  ·obtain⟨s,n,t,eu,hu⟩:=unpackI_all (rd m 8)
   have e':(m.length:Int)=49:=by omega
   simp only[e',e,eu,unpack_eq _ (k+1) (by omega),Option.bind_some,if_true,decide_true,Bool.true_and,(by omega:(8:Int)≤49),(by omega:(8:Int)<49),bne_self_eq_false,Bool.false_eq_true,if_false]
   rcases hu with⟨rfl,rfl,rfl⟩|⟨h1,h2,h3⟩
   ·simp
   ·have w1:wrap64 (25+t)=25+t:=w64 (by omega) (by omega)
    have s0:¬s<0:=by omega
    have t0:(25:Int)≤25+t:=by omega
    have t1:(25:Int)+t≤49:=by omega
    have lg:=logS_l m e n (by omega) n.toNat k 0 (by omega) (by omega) (by omega)
    have v1:=valuesS_at (m.take 8) (by rw[List.length_take];omega) (k+1) (by rw[List.length_take];omega)
    have v2:=valuesS_at ((m.take (25+t).toNat).drop 25) (by rw[List.length_drop,List.length_take];omega) (k+1) (by rw[List.length_drop,List.length_take];omega)
    simp only[w1,s0,t0,t1,if_true,if_false,lg,v1,v2,Option.bind_some]
    by_cases hs:s≥(l.length:Int)
    ·have:¬(0≤s∧s<(l.length:Int)):=by omega
     simp[hs,this]
    ·have:(0≤s∧s<(l.length:Int)):=by omega
     simp only[hs,this,if_false,and_self,decide_true,Bool.true_and]
     cases List.all (List.take 8 m) valP<;>cases List.all (List.drop 25 (List.take (25+t).toNat m)) valP<;>simp[e,t1]
  ·have e':¬(m.length:Int)=49:=by omega
   simp[e,e']
 ·simp[p]
theorem exprOk_iff (a b c:Int):exprOk a b c=true↔(1≤a∧a≤7)∧(-8≤b∧b≤999)∧ -8≤c∧c≤999:=by unfold exprOk;rw[decide_eq_true_eq]
section
open Go.Lib
abbrev Asc (l:List Int):Prop:=l.Pairwise (· < ·)
theorem asc_ext:∀ {a b:List Int},Asc a→Asc b→(∀x,x∈a↔x∈b)→a=b
 |[],[],_,_,_=>rfl
 |[],y::ys,_,_,h=>absurd ((h y).2 List.mem_cons_self) (by simp)
 |x::xs,[],_,_,h=>absurd ((h x).1 List.mem_cons_self) (by simp)
 |x::xs,y::ys,ha,hb,h=>by
  rw[Asc,List.pairwise_cons] at ha hb
  have e:x=y:=by
   have h1:=(h x).1 List.mem_cons_self
   have h2:=(h y).2 List.mem_cons_self
   rcases List.mem_cons.1 h1 with e|h1
   ·exact e
   ·rcases List.mem_cons.1 h2 with e|h2
    ·exact e.symm
    ·have:=hb.1 x h1
     have:=ha.1 y h2
     omega
  subst e
  rw[asc_ext ha.2 hb.2 (fun z=> ?_)]
  have:=h z
  simp only[List.mem_cons] at this
  constructor
  ·intro hz
   rcases this.1 (.inr hz) with e|h
   ·subst e
    have:=ha.1 z hz
    omega
   ·exact h
  ·intro hz
   rcases this.2 (.inr hz) with e|h
   ·subst e
    have:=hb.1 z hz
    omega
   ·exact h
theorem compactUpTo_sorted (d:Array Int) (hs:∀i j,i≤j→j<d.size→d[i]! ≤d[j]!):∀m,m≤d.size→Asc (compactUpTo d m)∧(∀x∈compactUpTo d m,∃j,j<m∧d[j]! =x)∧∀j,j<m→d[j]! ∈compactUpTo d m
 |0,_=>by
  have e:compactUpTo d 0=[]:=by simp[compactUpTo]
  rw[e]
  exact⟨List.Pairwise.nil,fun x hx=>by simp at hx,fun j hj=>by omega⟩
 |m+1,hm=>by
  obtain⟨h1,h2,h3⟩:=compactUpTo_sorted d hs m (by omega)
  rw[compactUpTo_succ]
  by_cases hk:keeps d m=true
  ·rw[if_pos hk]
   refine⟨List.pairwise_append.2 ⟨h1,List.pairwise_singleton _ _,?_⟩,?_,?_⟩
   ·intro x hx y hy
    rw[List.mem_singleton] at hy
    subst hy
    obtain⟨j,hj,rfl⟩:=h2 x hx
    have q:=of_decide_eq_true hk
    have a1:=hs j (m - 1) (by omega) (by omega)
    have a2:=hs (m - 1) m (by omega) (by omega)
    have a3:d[m]! ≠d[m - 1]! :=by
     rcases q with q|q
     ·omega
     ·exact q
    omega
   ·intro x hx
    rcases List.mem_append.1 hx with hx|hx
    ·obtain⟨j,hj,e⟩:=h2 x hx
     exact⟨j,by omega,e⟩
    ·rw[List.mem_singleton] at hx
     exact⟨m,by omega,hx.symm⟩
   ·intro j hj
    by_cases e:j=m
    ·subst e
     exact List.mem_append.2 (.inr (List.mem_singleton.2 rfl))
    ·exact List.mem_append.2 (.inl (h3 j (by omega)))
  ·rw[if_neg hk,List.append_nil]
   have q:¬(m=0∨d[m]! ≠d[m - 1]!):=fun h=>hk (decide_eq_true h)
   refine⟨h1,fun x hx=> ?_,fun j hj=> ?_⟩
   ·obtain⟨j,hj,e⟩:=h2 x hx
    exact⟨j,by omega,e⟩
   ·by_cases e:j=m
    ·subst e
     have e2:d[j]! =d[j - 1]! :=Classical.byContradiction fun h=>q (.inr h)
     rw[e2]
     exact h3 (j - 1) (by omega)
    ·exact h3 j (by omega)
def touch (l:List Int):List Int:=compact (l.mergeSort fun x y=>decide (x≤y))
theorem touch_at (l:List Int):Asc (touch l)∧(∀x,x∈touch l↔x∈l)∧(touch l).length≤l.length:=by
 have hp:(l.mergeSort fun x y=>decide (x≤y)).Pairwise (fun x y=>decide (x≤y)=true):=List.pairwise_mergeSort (fun a b c h1 h2=>by simp only[decide_eq_true_eq] at*;omega) (fun a b=>by simp only[Bool.or_eq_true,decide_eq_true_eq];omega) l
 have hm:∀x,x∈(l.mergeSort fun x y=>decide (x≤y))↔x∈l:=fun x=>List.mem_mergeSort
 have hl:(l.mergeSort fun x y=>decide (x≤y)).length=l.length:=List.length_mergeSort l
 unfold touch
 generalize (l.mergeSort fun x y=>decide (x≤y))=z at hp hm hl
 have hs:∀i j,i≤j→j<z.toArray.size→z.toArray[i]! ≤z.toArray[j]! :=by
  intro i j hij hj
  have hj':j<z.length:=by simpa using hj
  by_cases e:i=j
  ·subst e
   exact Int.le_refl _
  ·have:=List.pairwise_iff_getElem.1 hp i j (by omega) hj' (by omega)
   simpa [List.getElem!_toArray,hj',show i<z.length by omega] using this
 obtain⟨h1,h2,h3⟩:=compactUpTo_sorted z.toArray hs z.length (by simp)
 refine⟨h1,fun x=> ?_,?_⟩
 ·rw[←hm]
  constructor
  ·intro hx
   obtain⟨j,hj,e⟩:=h2 x hx
   rw[←e]
   simp[hj]
  ·intro hx
   obtain⟨j,hj,e⟩:=List.mem_iff_getElem.1 hx
   have:=h3 j hj
   simp[hj] at this
   rw[e] at this
   exact this
 ·have:(compact z).length≤z.length:=by
   unfold compact compactUpTo
   rw[List.length_map]
   have:=List.length_filter_le (keeps z.toArray) (List.range z.length)
   rw[List.length_range] at this
   exact this
  omega
end
theorem flat_node:∀(T:Bk),T.ok→∀(j:Nat) (x:S77),T.flat[j]? =some x→x.f0=4∨x.f0=5→∃(pre post:List S77) (b:Bk) (c:S77),T.flat=pre++x::(b.flat++c::post)∧pre.length=j∧b.ok∧c.f0=6
 | .nil,_,j,x,h,_=>by simp[Bk.flat] at h
 | .leaf s t,ok,j,x,h,o=>by
  cases j with
  |zero=>
   simp only[Bk.flat,List.getElem?_cons_zero,Option.some.injEq] at h
   subst h
   exact absurd o (by have:=ok.1;have:=ok.2.1;omega)
  |succ j=>
   simp only[Bk.flat,List.getElem?_cons_succ] at h
   obtain⟨pre,post,b,c,e,hl,hb,hc⟩:=flat_node t ok.2.2.2 j x h o
   exact⟨s::pre,post,b,c,by rw[Bk.flat,e];rfl,by simp[hl],hb,hc⟩
 | .node s b0 e0 t,ok,j,x,h,o=>by
  obtain⟨os,ob,oc,ot⟩:=ok
  cases j with
  |zero=>
   simp only[Bk.flat,List.getElem?_cons_zero,Option.some.injEq] at h
   subst h
   exact⟨[],t.flat,b0,e0,rfl,rfl,ob,oc⟩
  |succ j=>
   simp only[Bk.flat,List.getElem?_cons_succ] at h
   by_cases q:j<b0.flat.length
   ·rw[List.getElem?_append_left q] at h
    obtain⟨pre,post,b,c,e,hl,hb,hc⟩:=flat_node b0 ob j x h o
    exact⟨s::pre,post++e0::t.flat,b,c,by rw[Bk.flat,e];simp,by simp[hl],hb,hc⟩
   ·rw[List.getElem?_append_right (by omega)] at h
    obtain⟨i,hi⟩:∃i,j - b0.flat.length=i:=⟨_,rfl⟩
    rw[hi] at h
    cases i with
    |zero=>
     simp only[List.getElem?_cons_zero,Option.some.injEq] at h
     subst h
     omega
    |succ i=>
     simp only[List.getElem?_cons_succ] at h
     obtain⟨pre,post,b,c,e,hl,hb,hc⟩:=flat_node t ot i x h o
     exact⟨s::(b0.flat++e0::pre),post,b,c,by rw[Bk.flat,e];simp,by simp[hl];omega,hb,hc⟩
theorem guardL_ok (T:Bk) (ok:T.ok) (hl:T.flat.length≤1048576) (k:Nat) (hk:2*T.flat.length+4<k):∀(d:Nat) (i:Int) (g:List Bool),0≤i→i+(d:Int)=(T.flat.length:Int)→∃G,guardL k T.flat d i g=some G
 |0,i,g,_,_=>⟨g,rfl⟩
 |d+1,i,g,h0,hi=>by
  rw[guardL]
  by_cases c:(rd_T77 T.flat i).f0=4
  ·rw[if_pos c]
   obtain⟨pre,post,b,e,he,hp,hb,hc⟩:=flat_node T ok i.toNat (rd_T77 T.flat i) (getD_rd z77 h0 (by omega)) (.inl c)
   have hlen:T.flat.length=pre.length+(b.flat.length+post.length+2):=by
    rw[he]
    simp only[List.length_append,List.length_cons]
    omega
   have hend:=endI_at pre post (rd_T77 T.flat i) e b hb (.inl c) hc i (by omega) (by rw[←he];exact hl) k (by omega)
   rw[←he] at hend
   rw[hend]
   simp only[Option.bind_some]
   rw[if_pos (by omega)]
   exact guardL_ok T ok hl k hk d (i+1) _ (by omega) (by omega)
  ·rw[if_neg c]
   exact guardL_ok T ok hl k hk d (i+1) _ (by omega) (by omega)
theorem writtenL_len (q:Int→Bool):∀(l:List S77) (i:Int),(writtenL q l i).length≤l.length
 |[],_=>Nat.le_refl _
 |x::r,i=>by
  rw[writtenL]
  have:=writtenL_len q r (i+1)
  split
  ·simp only[List.length_cons]
   omega
  ·simp only[List.length_cons]
   omega
theorem mustW_at {l:List S77} (hb:blockOk l=true) (k:Nat) (hk:100<k):∃G,guardL k l l.length 0 (List.replicate l.length false)=some G∧impl_MustWrite.f k l=some (touch (writtenL (fun i=> !rdB G i) l 0)):=by
 obtain⟨T,ok,hT,h24,hs⟩:=blockOk_tree hb
 obtain⟨G,hG⟩:=guardL_ok T ok (by rw[hT];omega) k (by rw[hT];omega) T.flat.length 0 (List.replicate l.length false) (by omega) (by omega)
 rw[hT] at hG
 refine⟨G,hG,?_⟩
 unfold impl_MustWrite.f
 rw[blockI_at l (by omega) k (by omega),hb]
 simp only[Option.bind_some,if_true]
 rw[if_pos (by omega),hG]
 rfl
theorem mayW_at {l:List S77} (hb:blockOk l=true) (k:Nat) (hk:100<k):impl_MayWrite.f k l=some (touch (writtenL (fun _=>true) l 0)):=by
 obtain⟨T,ok,hT,h24,hs⟩:=blockOk_tree hb
 unfold impl_MayWrite.f
 rw[blockI_at l (by omega) k (by omega),hb]
 simp only[Option.bind_some,if_true]
 rw[if_pos (by omega)]
 rfl
theorem le_of_mono {α:Type} {f:Nat→Option α} (hm:∀k,LeO (f k) (f (k+1))) {k k':Nat} {r:α} (h:f k=some r) (hk:k≤k'):f k'=some r:=by
 obtain⟨d,rfl⟩:=Nat.exists_eq_add_of_le hk
 induction d with
 |zero=>exact h
 |succ d ih=>exact hm _ _ (ih (by omega))
theorem hasExprI_eq (a:Int):impl_hasExpr.f a=some (decide (a=1∨a=3∨a=4)):=by
 unfold impl_hasExpr.f
 by_cases h1:a=1
 ·simp[h1]
 by_cases h2:a=3
 ·simp[h2]
 rw[if_neg h1,if_neg h2]
 by_cases h3:a=4
 ·simp[h3]
 ·simp[h1,h2,h3]
theorem hasVarK_eq (a:Int):impl_hasVar.f a=some (decide (a=1∨a=2)):=by
 unfold impl_hasVar.f
 by_cases h1:a=1
 ·simp[h1]
 rw[if_neg h1]
 by_cases h3:a=2
 ·simp[h3]
 ·simp[h1,h3]
theorem readsL_in:∀(l:List Int),(∀n∈l,-8≤n)→∀y∈readsL l,0≤y∧y<8
 |[],_,y,h=>by simp[readsL] at h
 |n::r,hn,y,h=>by
  have h8:=hn n (by simp)
  rw[readsL] at h
  by_cases c:n<0
  ·rw[if_pos c,w64 (by omega) (by omega)] at h
   rcases List.mem_cons.1 h with e|h
   ·omega
   ·exact readsL_in r (fun m hm=>hn m (by simp[hm])) y h
  ·rw[if_neg c] at h
   exact readsL_in r (fun m hm=>hn m (by simp[hm])) y h
theorem firstL_len (fi:List Bool):∀(n:Nat) (i:Int),(firstL fi n i).length≤n
 |0,_=>Nat.le_refl _
 |n+1,i=>by
  rw[firstL]
  have:=firstL_len fi n (i+1)
  split
  ·simp only[List.length_cons]
   omega
  ·omega
theorem taskI_at {l:List S77} (hb:blockOk l=true) {a b c:Int} (he:exprOk a b c=true) (k:Nat) (hk:100<k):impl_taskOk.f k l a b c=some true:=by
 obtain⟨_,_,_,h24,_⟩:=blockOk_tree hb
 unfold impl_taskOk.f
 rw[blockI_at l (by omega) k (by omega),hb,exprI_eq,he]
 rfl
theorem rdB8_set (l:List Bool) (hl:l.length=8) (i y:Int) (i0:0≤i) (i1:i<8) (y0:0≤y):rdB8 (l.set i.toNat true) y=(decide (y=i)||rdB8 l y):=by
 unfold rdB8 rdOf
 rw[List.getD_eq_getElem?_getD,List.getD_eq_getElem?_getD]
 by_cases e:y=i
 ·subst e
  rw[List.getElem?_set_self (by omega)]
  simp
 ·rw[List.getElem?_set_ne (by omega)]
  simp[e]
def readP (st:List Bool):List Int→List Bool→List Bool
 |[],fi=>fi
 |y::r,fi=>readP st r (if rdB8 st y=true then fi else fi.set y.toNat true)
theorem readF_P (st:List Bool):∀(ys:List Int),(∀y∈ys,0≤y∧y<8)→∀fi:List Bool,readF st ys fi=some (readP st ys fi)
 |[],_,fi=>rfl
 |y::r,hy,fi=>by
  rw[readF,if_pos (hy y (by simp)),readP]
  exact readF_P st r (fun z hz=>hy z (by simp[hz])) _
theorem readP_len (st:List Bool):∀(ys:List Int) (fi:List Bool),(readP st ys fi).length=fi.length
 |[],fi=>rfl
 |y::r,fi=>by
  rw[readP,readP_len st r]
  split
  ·rfl
  ·rw[List.length_set]
theorem readP_up (st:List Bool):∀(ys:List Int),(∀y∈ys,0≤y∧y<8)→∀fi:List Bool,fi.length=8→∀i:Int,0≤i→rdB8 fi i=true→rdB8 (readP st ys fi) i=true
 |[],_,fi,_,i,_,h=>h
 |y::r,hy,fi,hf,i,i0,h=>by
  have h8:=hy y (by simp)
  rw[readP]
  refine readP_up st r (fun z hz=>hy z (by simp[hz])) _ (by split<;>simp[hf]) i i0 ?_
  split
  ·exact h
  ·rw[rdB8_set fi hf y i h8.1 h8.2 i0,h]
   simp
def rs (b c:Int):List Int:=touch (readsL [b,c])
theorem rs_in {a b c:Int} (h:exprOk a b c=true):∀y∈rs b c,0≤y∧y<8:=by
 have h2:=(exprOk_iff a b c).1 h
 intro y hy
 rw[rs,(touch_at (readsL [b,c])).2.1] at hy
 exact readsL_in [b,c] (fun n hn=>by
  simp only[List.mem_cons,List.not_mem_nil,or_false] at hn
  omega) y hy
theorem readI_P {a b c:Int} (h:exprOk a b c=true) (st fi:List Bool):reader_read.f a b c st fi=some (readP st (rs b c) fi):=by
 unfold reader_read.f impl_ReadsOf.f
 rw[exprI_eq,h]
 simp only[Option.bind_some,if_true]
 exact readF_P st _ (rs_in h) fi
def rdS (x:S77) (st fi:List Bool):List Bool:=if x.f0=1∨x.f0=3∨x.f0=4 then readP st (rs x.f3.f1 x.f3.f2) fi else fi
def stS (x:S77) (st:List Bool):List Bool:=if x.f0=1∨x.f0=2 then st.set x.f1.toNat true else st
def passT:Bk→List Bool→List Bool→List Bool×List Bool
 | .nil,st,fi=>(st,fi)
 | .leaf x t,st,fi=>passT t (stS x st) (rdS x st fi)
 | .node x b _ t,st,fi=>if x.f0=4 then passT t st (passT b st (rdS x st fi)).2 else passT t (passT b st fi).1 (passT b st fi).2
theorem stmt_expr {x:S77} (hx:stOk x=true) (c:x.f0=1∨x.f0=3∨x.f0=4):exprOk x.f3.f0 x.f3.f1 x.f3.f2=true:=by
 by_cases c1:x.f0=1
 ·exact(stOk_set hx c1).2
 ·exact stOk_expr hx (by omega)
theorem stmt_var {x:S77} (hx:stOk x=true) (c:x.f0=1∨x.f0=2):0≤x.f1∧x.f1<8:=by
 rcases c with c|c
 ·have:=(stOk_set hx c).1
  omega
 ·have:=(stOk_sense hx c).1
  omega
theorem passI_stepT (pre rest:List S77) (x:S77) (i:Int) (hi:i=(pre.length:Int)) (hl:(pre++x::rest).length≤1048576) (hx:stOk x=true) (h4:x.f0≠4) (st fi:List Bool) (r:List Bool×List Bool)
  (next:∃k,rpass.l0 k (pre++x::rest) (i+1) (stS x st) (rdS x st fi)=some r):∃k,rpass.l0 k (pre++x::rest) i st fi=some r:=by
 have e:=at_mid pre rest x hi
 simp only[List.length_append,List.length_cons] at hl
 have h1:(if decide (x.f0=1∨x.f0=3∨x.f0=4)=true then reader_read.f x.f3.f0 x.f3.f1 x.f3.f2 st fi else some fi)=some (rdS x st fi):=by
  unfold rdS
  by_cases c:x.f0=1∨x.f0=3∨x.f0=4
  ·rw[if_pos (by simpa using c),if_pos c]
   exact readI_P (stmt_expr hx c) st fi
  ·rw[if_neg (by simpa using c),if_neg c]
 obtain⟨k,e2⟩:=next
 refine⟨k+1,?_⟩
 unfold stS at e2
 by_cases cv:x.f0=1∨x.f0=2
 ·rw[if_pos cv] at e2
  rw[rpass.l0,if_pos (by simp only[List.length_append,List.length_cons];omega),if_pos (by omega),e,hasExprI_eq,hasVarK_eq]
  simp only[Option.bind_some,h1]
  rw[if_pos (by simpa using cv),if_pos (stmt_var hx cv)]
  simp only[Option.bind_some]
  rw[if_neg h4,w64 (by omega) (by omega)]
  exact e2
 ·rw[if_neg cv] at e2
  rw[rpass.l0,if_pos (by simp only[List.length_append,List.length_cons];omega),if_pos (by omega),e,hasExprI_eq,hasVarK_eq]
  simp only[Option.bind_some,h1]
  rw[if_neg (by simpa using cv),if_neg h4,w64 (by omega) (by omega)]
  exact e2
theorem passI_t:∀(T:Bk),T.ok→(∀s∈T.flat,stOk s=true)→∀(pre post:List S77) (i:Int) (st fi:List Bool) (r:List Bool×List Bool),i=(pre.length:Int)→(pre++(T.flat++post)).length≤1048576→
  (∃k,rpass.l0 k (pre++(T.flat++post)) (i+(T.flat.length:Int)) (passT T st fi).1 (passT T st fi).2=some r)→∃k,rpass.l0 k (pre++(T.flat++post)) i st fi=some r
 | .nil,_,_,pre,post,i,st,fi,r,_,_,next=>by
  simpa [Bk.flat,passT] using next
 | .leaf x t,ok,hst,pre,post,i,st,fi,r,hi,hl,next=>by
  simp only[Bk.flat,List.length_cons,List.length_append,List.cons_append,passT] at hl next ⊢
  refine passI_stepT pre (t.flat++post) x i hi (by simp only[List.length_append,List.length_cons];omega) (hst x (by simp[Bk.flat])) ok.1 st fi r ?_
  have:=passI_t t ok.2.2.2 (fun y hy=>hst y (by simp[Bk.flat,hy])) (pre++[x]) post (i+1) (stS x st) (rdS x st fi) r (by simp only[List.length_append,List.length_cons,List.length_nil];omega) (by simp only[List.length_append,List.length_cons,List.length_nil];omega) (by
   simp only[List.append_assoc,List.singleton_append]
   rw[show i+1+(t.flat.length:Int)=i+((t.flat.length+1:Nat):Int) by omega]
   exact next)
  simpa only[List.append_assoc,List.singleton_append] using this
 | .node x b c t,ok,hst,pre,post,i,st,fi,r,hi,hl,next=>by
  obtain⟨o,ob,oc,ot⟩:=ok
  simp only[Bk.flat,List.length_cons,List.length_append,List.cons_append,List.append_assoc,passT] at hl next ⊢
  have hx:=hst x (by simp[Bk.flat])
  have hc:=hst c (by simp[Bk.flat])
  have tl:∀st' fi':List Bool,(∃k,rpass.l0 k (pre++x::(b.flat++c::(t.flat++post))) (i+((b.flat.length+(t.flat.length+1)+1:Nat):Int)) (passT t st' fi').1 (passT t st' fi').2=some r)→∃k,rpass.l0 k (pre++x::(b.flat++c::(t.flat++post))) (i+1+(b.flat.length:Int)+1) st' fi'=some r:=fun st' fi' nx=>by
   have:=passI_t t ot (fun y hy=>hst y (by simp[Bk.flat,hy])) (pre++x::(b.flat++[c])) post (i+1+(b.flat.length:Int)+1) st' fi' r (by simp only[List.length_append,List.length_cons,List.length_nil];omega) (by simp only[List.length_append,List.length_cons,List.length_nil];omega) (by
    simp only[List.append_assoc,List.cons_append,List.nil_append]
    rw[show i+1+(b.flat.length:Int)+1+(t.flat.length:Int)=i+((b.flat.length+(t.flat.length+1)+1:Nat):Int) by omega]
    exact nx)
   simpa only[List.append_assoc,List.cons_append,List.nil_append] using this
  by_cases h4:x.f0=4
  ·rw[if_pos h4] at next
   have e:=at_mid pre (b.flat++c::(t.flat++post)) x hi
   have h1:=readI_P (stOk_expr hx (.inr h4)) st fi
   have hend:∀k,2*b.flat.length+4<k→impl_endOf.f k (pre++x::(b.flat++c::(t.flat++post))) i=some (i+1+(b.flat.length:Int)):=fun k hk=>endI_at pre (t.flat++post) x c b ob o oc i hi (by simp only[List.length_append,List.length_cons];omega) k hk
   have hrd:rdS x st fi=readP st (rs x.f3.f1 x.f3.f2) fi:=by unfold rdS;rw[if_pos (by omega)]
   rw[hrd] at next
   obtain⟨kb,eb⟩:=passI_t b ob (fun y hy=>hst y (by simp[Bk.flat,hy])) [] [] 0 st (readP st (rs x.f3.f1 x.f3.f2) fi) (passT b st (readP st (rs x.f3.f1 x.f3.f2) fi)) rfl (by simp only[List.nil_append,List.append_nil];omega) ⟨1,by rw[rpass.l0,if_neg (by simp)]⟩
   simp only[List.nil_append,List.append_nil] at eb
   obtain⟨kt,et⟩:=tl _ _ next
   refine⟨(kb+kt+2*b.flat.length+6)+1,?_⟩
   rw[rpass.l0,if_pos (by simp only[List.length_append,List.length_cons];omega),if_pos (by omega),e,hasExprI_eq,hasVarK_eq]
   simp only[Option.bind_some]
   rw[if_pos (by simp[h4]),h1]
   simp only[Option.bind_some]
   rw[if_neg (by simp[h4]),if_pos h4,hend _ (by omega)]
   simp only[Option.bind_some]
   rw[w64 (x:=i+1) (by omega) (by omega),w64 (x:=i+1+(b.flat.length:Int)+1) (by omega) (by omega),if_pos ⟨by omega,by omega,by simp only[List.length_append,List.length_cons];omega⟩]
   have q:=take_drop_mid (pre++[x]) b.flat (c::(t.flat++post)) (i:=i+1) (j:=i+1+(b.flat.length:Int)) (by simp only[List.length_append,List.length_cons,List.length_nil];omega) rfl
   simp only[List.append_assoc,List.singleton_append] at q
   rw[q]
   have eb2:rpass.f (kb+1) b.flat st (readP st (rs x.f3.f1 x.f3.f2) fi)=some (passT b st (readP st (rs x.f3.f1 x.f3.f2) fi)):=by rw[rpass.f];exact eb
   rw[le_of_mono (fun k=>(rpass.mono_l k).1 b.flat st (readP st (rs x.f3.f1 x.f3.f2) fi)) eb2 (k':=kb+kt+2*b.flat.length+6) (by omega)]
   simp only[Option.bind_some]
   exact le_of_mono (fun k=>(rpass.mono_l k).2 _ _ _ _) et (by omega)
  ·rw[if_neg h4] at next
   have n1:stS x st=st:=by unfold stS;rw[if_neg (by omega)]
   have n2:rdS x st fi=fi:=by unfold rdS;rw[if_neg (by omega)]
   refine passI_stepT pre (b.flat++c::(t.flat++post)) x i hi (by simp only[List.length_append,List.length_cons];omega) hx h4 st fi r ?_
   rw[n1,n2]
   have:=passI_t b ob (fun y hy=>hst y (by simp[Bk.flat,hy])) (pre++[x]) (c::(t.flat++post)) (i+1) st fi r (by simp only[List.length_append,List.length_cons,List.length_nil];omega) (by simp only[List.length_append,List.length_cons,List.length_nil];omega) (by
    have:=passI_stepT (pre++x::b.flat) (t.flat++post) c (i+1+(b.flat.length:Int)) (by simp only[List.length_append,List.length_cons];omega) (by simp only[List.length_append,List.length_cons];omega) hc (by omega) (passT b st fi).1 (passT b st fi).2 r (by
     have m1:stS c (passT b st fi).1=(passT b st fi).1:=by unfold stS;rw[if_neg (by omega)]
     have m2:rdS c (passT b st fi).1 (passT b st fi).2=(passT b st fi).2:=by unfold rdS;rw[if_neg (by omega)]
     rw[m1,m2]
     have:=tl _ _ next
     simpa only[List.append_assoc,List.cons_append] using this)
    simpa only[List.append_assoc,List.cons_append,List.singleton_append,List.nil_append] using this)
   simpa only[List.append_assoc,List.singleton_append] using this
def firstT (T:Bk) (b c:Int):List Int:=firstL (readP (passT T z8 z8).1 (rs b c) (passT T z8 z8).2) 8 0
theorem mrf_at {l:List S77} (hb:blockOk l=true) {a b c:Int} (he:exprOk a b c=true) (T:Bk) (ok:T.ok) (hT:T.flat=l):∃k0,∀k,k0≤k→impl_MayReadFirst.f k l a b c=some (firstT T b c):=by
 obtain⟨_,_,_,h24,hst⟩:=blockOk_tree hb
 obtain⟨k,es⟩:=passI_t T ok (by rw[hT];exact hst) [] [] 0 z8 z8 (passT T z8 z8) rfl (by simp only[List.nil_append,List.append_nil,hT];omega) ⟨1,by rw[rpass.l0,if_neg (by simp)]⟩
 simp only[List.nil_append,List.append_nil,hT] at es
 refine⟨k+102,fun k' hk=>le_of_mono (fun k=>impl_MayReadFirst.mono l a b c k) (k:=k+102) ?_ hk⟩
 unfold impl_MayReadFirst.f
 have es2:rpass.f (k+1) l z8 z8=some (passT T z8 z8):=by rw[rpass.f];exact es
 rw[taskI_at hb he _ (by omega)]
 simp only[Option.bind_some,if_true]
 rw[le_of_mono (fun k=>(rpass.mono_l k).1 l z8 z8) es2 (k':=k+102) (by omega)]
 simp only[Option.bind_some]
 rw[readI_P he]
 rfl
def upTo (a b:List Bool):Prop:=∀y:Int,0≤y→rdB8 a y=true→rdB8 b y=true
theorem rdS_up {x:S77} (hx:stOk x=true) (st fi:List Bool) (hf:fi.length=8):(rdS x st fi).length=8∧upTo fi (rdS x st fi):=by
 unfold rdS
 split
 ·rename_i c
  exact⟨by rw[readP_len,hf],fun y y0 h=>readP_up st _ (rs_in (stmt_expr hx c)) fi hf y y0 h⟩
 ·exact⟨hf,fun y _ h=>h⟩
theorem stS_up {x:S77} (hx:stOk x=true) (st:List Bool) (hs:st.length=8):(stS x st).length=8∧upTo st (stS x st):=by
 unfold stS
 split
 ·rename_i c
  obtain⟨v0,v1⟩:=stmt_var hx c
  exact⟨by rw[List.length_set,hs],fun y y0 h=>by rw[rdB8_set st hs _ y v0 v1 y0,h];simp⟩
 ·exact⟨hs,fun y _ h=>h⟩
theorem passT_up:∀(T:Bk),(∀s∈T.flat,stOk s=true)→∀(st fi:List Bool),st.length=8→fi.length=8→(passT T st fi).1.length=8∧(passT T st fi).2.length=8∧upTo st (passT T st fi).1∧upTo fi (passT T st fi).2
 | .nil,_,st,fi,hs,hf=>⟨hs,hf,fun _ _ h=>h,fun _ _ h=>h⟩
 | .leaf x t,hst,st,fi,hs,hf=>by
  have hx:=hst x (by simp[Bk.flat])
  obtain⟨a1,a2⟩:=stS_up hx st hs
  obtain⟨b1,b2⟩:=rdS_up hx st fi hf
  obtain⟨c1,c2,c3,c4⟩:=passT_up t (fun y hy=>hst y (by simp[Bk.flat,hy])) (stS x st) (rdS x st fi) a1 b1
  rw[passT]
  exact⟨c1,c2,fun y y0 h=>c3 y y0 (a2 y y0 h),fun y y0 h=>c4 y y0 (b2 y y0 h)⟩
 | .node x b e t,hst,st,fi,hs,hf=>by
  have hx:=hst x (by simp[Bk.flat])
  have hbs:=passT_up b (fun y hy=>hst y (by simp[Bk.flat,hy]))
  have hts:=passT_up t (fun y hy=>hst y (by simp[Bk.flat,hy]))
  rw[passT]
  by_cases h4:x.f0=4
  ·rw[if_pos h4]
   obtain⟨b1,b2⟩:=rdS_up hx st fi hf
   obtain⟨c1,c2,c3,c4⟩:=hbs st (rdS x st fi) hs b1
   obtain⟨d1,d2,d3,d4⟩:=hts st (passT b st (rdS x st fi)).2 hs c2
   exact⟨d1,d2,d3,fun y y0 h=>d4 y y0 (c4 y y0 (b2 y y0 h))⟩
  ·rw[if_neg h4]
   obtain⟨c1,c2,c3,c4⟩:=hbs st fi hs hf
   obtain⟨d1,d2,d3,d4⟩:=hts (passT b st fi).1 (passT b st fi).2 c1 c2
   exact⟨d1,d2,fun y y0 h=>d3 y y0 (c3 y y0 h),fun y y0 h=>d4 y y0 (c4 y y0 h)⟩
theorem z8_no (y:Int) (y0:0≤y) (y1:y<8):rdB8 z8 y=false:=by
 have:y=0∨y=1∨y=2∨y=3∨y=4∨y=5∨y=6∨y=7:=by omega
 rcases this with e|e|e|e|e|e|e|e<;>subst e<;>rfl
def mustT:Bk→List Int
 | .nil=>[]
 | .leaf x t=>if x.f0=1∨x.f0=2 then x.f1::mustT t else mustT t
 | .node x b _ t=>if x.f0=4 then mustT t else mustT b++mustT t
theorem mustT_nn:∀(T:Bk),(∀s∈T.flat,stOk s=true)→∀y∈mustT T,0≤y
 | .nil,_,y,h=>by simp[mustT] at h
 | .leaf x t,hst,y,h=>by
  have ht:=mustT_nn t (fun y hy=>hst y (by simp[Bk.flat,hy]))
  rw[mustT] at h
  by_cases c:x.f0=1∨x.f0=2
  ·rw[if_pos c] at h
   rcases List.mem_cons.1 h with e|h
   ·rw[e]
    exact(stmt_var (hst x (by simp[Bk.flat])) c).1
   ·exact ht y h
  ·rw[if_neg c] at h
   exact ht y h
 | .node x b e t,hst,y,h=>by
  have hb:=mustT_nn b (fun y hy=>hst y (by simp[Bk.flat,hy]))
  have ht:=mustT_nn t (fun y hy=>hst y (by simp[Bk.flat,hy]))
  rw[mustT] at h
  split at h
  ·exact ht y h
  ·rcases List.mem_append.1 h with h|h
   ·exact hb y h
   ·exact ht y h
theorem mustT_lt:∀(T:Bk),(∀s∈T.flat,stOk s=true)→∀y∈mustT T,y<8
 | .nil,_,y,h=>by simp[mustT] at h
 | .leaf x t,hst,y,h=>by
  have ht:=mustT_lt t (fun y hy=>hst y (by simp[Bk.flat,hy]))
  rw[mustT] at h
  by_cases c:x.f0=1∨x.f0=2
  ·rw[if_pos c] at h
   rcases List.mem_cons.1 h with e|h
   ·rw[e]
    exact(stmt_var (hst x (by simp[Bk.flat])) c).2
   ·exact ht y h
  ·rw[if_neg c] at h
   exact ht y h
 | .node x b e t,hst,y,h=>by
  have hb:=mustT_lt b (fun y hy=>hst y (by simp[Bk.flat,hy]))
  have ht:=mustT_lt t (fun y hy=>hst y (by simp[Bk.flat,hy]))
  rw[mustT] at h
  split at h
  ·exact ht y h
  ·rcases List.mem_append.1 h with h|h
   ·exact hb y h
   ·exact ht y h
theorem must_or:∀(T:Bk),T.ok→∀(j:Nat) (x:S77),T.flat[j]? =some x→writes x=true→x.f1∈mustT T∨∃(pre post:List S77) (y:S77) (b:Bk) (c:S77),T.flat=pre++y::(b.flat++c::post)∧y.f0=4∧b.ok∧c.f0=6∧pre.length<j∧j≤pre.length+b.flat.length
 | .nil,_,j,x,h,_=>by simp[Bk.flat] at h
 | .leaf s t,ok,j,x,h,w=>by
  cases j with
  |zero=>
   simp only[Bk.flat,List.getElem?_cons_zero,Option.some.injEq] at h
   subst h
   refine .inl ?_
   unfold writes at w
   rw[mustT,if_pos (by simpa using w)]
   exact List.mem_cons_self
  |succ j=>
   simp only[Bk.flat,List.getElem?_cons_succ] at h
   rcases must_or t ok.2.2.2 j x h w with q|⟨pre,post,y,b,c,e,q1,q2,q3,q4,q5⟩
   ·refine .inl ?_
    rw[mustT]
    split
    ·exact List.mem_cons_of_mem _ q
    ·exact q
   ·exact .inr ⟨s::pre,post,y,b,c,by rw[Bk.flat,e];rfl,q1,q2,q3,by simp;omega,by simp only[List.length_cons];omega⟩
 | .node s b0 e0 t,ok,j,x,h,w=>by
  obtain⟨os,ob,oc,ot⟩:=ok
  have hw:x.f0=1∨x.f0=2:=by
   unfold writes at w
   simpa using w
  cases j with
  |zero=>
   simp only[Bk.flat,List.getElem?_cons_zero,Option.some.injEq] at h
   subst h
   omega
  |succ j=>
   simp only[Bk.flat,List.getElem?_cons_succ] at h
   by_cases q:j<b0.flat.length
   ·by_cases h4:s.f0=4
    ·exact .inr ⟨[],t.flat,s,b0,e0,rfl,h4,ob,oc,by simp,by simp only[List.length_nil];omega⟩
    ·rw[List.getElem?_append_left q] at h
     rcases must_or b0 ob j x h w with q|⟨pre,post,y,b,c,e,q1,q2,q3,q4,q5⟩
     ·refine .inl ?_
      rw[mustT,if_neg h4]
      exact List.mem_append.2 (.inl q)
     ·exact .inr ⟨s::pre,post++e0::t.flat,y,b,c,by rw[Bk.flat,e];simp,q1,q2,q3,by simp;omega,by simp only[List.length_cons];omega⟩
   ·rw[List.getElem?_append_right (by omega)] at h
    obtain⟨i,hi⟩:∃i,j - b0.flat.length=i:=⟨_,rfl⟩
    rw[hi] at h
    cases i with
    |zero=>
     simp only[List.getElem?_cons_zero,Option.some.injEq] at h
     subst h
     omega
    |succ i=>
     simp only[List.getElem?_cons_succ] at h
     rcases must_or t ot i x h w with q|⟨pre,post,y,b,c,e,q1,q2,q3,q4,q5⟩
     ·refine .inl ?_
      rw[mustT]
      split
      ·exact q
      ·exact List.mem_append.2 (.inr q)
     ·exact .inr ⟨s::(b0.flat++e0::pre),post,y,b,c,by rw[Bk.flat,e];simp,q1,q2,q3,by simp only[List.length_cons,List.length_append];omega,by simp only[List.length_cons,List.length_append];omega⟩
theorem markN_rd (g:List Bool) (a:Nat):∀(m:Nat) (p:Int),0≤p→p<(g.length:Int)→(rdB g p=true→rdB (markN g a m) p=true)∧((a:Int)≤p→p<(a:Int)+(m:Int)→rdB (markN g a m) p=true)
 |0,p,p0,p1=>⟨fun h=>h,fun h1 h2=>by omega⟩
 |m+1,p,p0,p1=>by
  obtain⟨h1,h2⟩:=markN_rd g a m p p0 p1
  have hl:=markN_len g a m
  rw[markN]
  have key:rdB ((markN g a m).set (a+m) true) p=(decide (p.toNat=a+m)||rdB (markN g a m) p):=by
   unfold rdB rdOf
   rw[List.getD_eq_getElem?_getD,List.getD_eq_getElem?_getD]
   by_cases e:p.toNat=a+m
   ·rw[e,List.getElem?_set_self (by omega)]
    simp
   ·rw[List.getElem?_set_ne (by omega)]
    simp[e]
  rw[key]
  constructor
  ·intro h
   rw[h1 h]
   simp
  ·intro q1 q2
   by_cases e:p.toNat=a+m
   ·simp[e]
   ·rw[h2 q1 (by omega)]
    simp
theorem guardL_up (k:Nat) (l:List S77):∀(d:Nat) (i:Int) (g G:List Bool),guardL k l d i g=some G→∀p:Int,0≤p→p<(g.length:Int)→rdB g p=true→rdB G p=true
 |0,i,g,G,h,p,p0,p1,hp=>by
  rw[guardL,Option.some.injEq] at h
  rw[←h]
  exact hp
 |d+1,i,g,G,h,p,p0,p1,hp=>by
  rw[guardL] at h
  split at h
  ·rw[Option.bind_eq_some_iff] at h
   obtain⟨e,_,h⟩:=h
   split at h
   ·exact guardL_up k l d _ _ G h p p0 (by rw[markN_len];exact p1) ((markN_rd g _ _ p p0 p1).1 hp)
   ·simp at h
  ·exact guardL_up k l d _ _ G h p p0 p1 hp
theorem guardL_mark (k:Nat) (l:List S77):∀(d:Nat) (i:Int) (g G:List Bool),0≤i→i+(d:Int)=(l.length:Int)→g.length=l.length→guardL k l d i g=some G→∀a:Int,i≤a→a<(l.length:Int)→(rd_T77 l a).f0=4→∀e,impl_endOf.f k l a=some e→∀p:Int,a≤p→p≤e→rdB G p=true
 |0,i,g,G,i0,hi,hg,h,a,ia,al,a4,e,he,p,pa,pe=>by omega
 |d+1,i,g,G,i0,hi,hg,h,a,ia,al,a4,e,he,p,pa,pe=>by
  rw[guardL] at h
  by_cases ei:a=i
  ·subst ei
   rw[if_pos a4,he] at h
   simp only[Option.bind_some] at h
   by_cases c:e<(l.length:Int)
   ·rw[if_pos c] at h
    refine guardL_up k l d _ _ G h p (by omega) (by rw[markN_len];omega) ?_
    exact(markN_rd g _ _ p (by omega) (by omega)).2 (by omega) (by omega)
   ·rw[if_neg c] at h
    simp at h
  ·split at h
   ·rw[Option.bind_eq_some_iff] at h
    obtain⟨e2,_,h⟩:=h
    split at h
    ·exact guardL_mark k l d (i+1) _ G (by omega) (by omega) (by rw[markN_len];exact hg) h a (by omega) al a4 e he p pa pe
    ·simp at h
   ·exact guardL_mark k l d (i+1) _ G (by omega) (by omega) hg h a (by omega) al a4 e he p pa pe
theorem writtenL_at (q:Int→Bool):∀(l:List S77) (i y:Int),y∈writtenL q l i→∃(j:Nat) (x:S77),l[j]? =some x∧writes x=true∧x.f1=y∧q (i+(j:Int))=true
 |[],i,y,h=>by simp[writtenL] at h
 |x::r,i,y,h=>by
  rw[writtenL] at h
  have tl:y∈writtenL q r (i+1)→∃(j:Nat) (z:S77),(x::r)[j]? =some z∧writes z=true∧z.f1=y∧q (i+(j:Int))=true:=fun h=>by
   obtain⟨j,z,h1,h2,h3,h4⟩:=writtenL_at q r (i+1) y h
   exact⟨j+1,z,by simpa using h1,h2,h3,by rw[show i+((j+1:Nat):Int)=i+1+(j:Int) by omega];exact h4⟩
  split at h
  ·rename_i c
   rcases List.mem_cons.1 h with e|h
   ·exact⟨0,x,by simp,c.1,e.symm,by simpa using c.2⟩
   ·exact tl h
  ·exact tl h
theorem must_sub (T:Bk) (ok:T.ok) (hl:T.flat.length≤1048576) (k:Nat) (hk:2*T.flat.length+4<k) (G:List Bool) (hG:guardL k T.flat T.flat.length 0 (List.replicate T.flat.length false)=some G) (y:Int) (hy:y∈touch (writtenL (fun i=> !rdB G i) T.flat 0)):y∈mustT T:=by
 rw[(touch_at _).2.1] at hy
 obtain⟨j,x,h1,h2,h3,h4⟩:=writtenL_at _ _ 0 y hy
 rcases must_or T ok j x h1 h2 with q|⟨pre,post,s,b,c,e,q1,q2,q3,q4,q5⟩
 ·rw[←h3]
  exact q
 ·exfalso
  have hlen:T.flat.length=pre.length+(b.flat.length+post.length+2):=by
   rw[e]
   simp only[List.length_append,List.length_cons]
   omega
  have hend:=endI_at pre post s c b q2 (.inl q1) q3 (pre.length:Int) rfl (by rw[←e];exact hl) k (by omega)
  rw[←e] at hend
  have hs:rd_T77 T.flat (pre.length:Int)=s:=by rw[e];exact at_mid pre _ s rfl
  have:=guardL_mark k T.flat T.flat.length 0 _ G (by omega) (by omega) (by simp) hG (pre.length:Int) (by omega) (by omega) (by rw[hs];exact q1) _ hend (j:Int) (by omega) (by omega)
  have h5:(!rdB G (0+(j:Int)))=true:=h4
  rw[Int.zero_add,this] at h5
  simp at h5
theorem markN_only (g:List Bool) (a:Nat):∀(m:Nat) (p:Int),0≤p→rdB (markN g a m) p=true→rdB g p=true∨((a:Int)≤p∧p<(a:Int)+(m:Int))
 |0,p,p0,h=> .inl h
 |m+1,p,p0,h=>by
  rw[markN] at h
  by_cases e:p.toNat=a+m
  ·exact .inr ⟨by omega,by omega⟩
  ·have h2:rdB (markN g a m) p=true:=by
    unfold rdB rdOf at h ⊢
    rw[List.getD_eq_getElem?_getD,List.getElem?_set_ne (by omega),←List.getD_eq_getElem?_getD] at h
    exact h
   rcases markN_only g a m p p0 h2 with q|q
   ·exact .inl q
   ·exact .inr ⟨q.1,by omega⟩
theorem guardL_only (k:Nat) (l:List S77):∀(d:Nat) (i:Int) (g G:List Bool),0≤i→guardL k l d i g=some G→∀p:Int,0≤p→rdB G p=true→rdB g p=true∨∃a e:Int,i≤a∧(rd_T77 l a).f0=4∧impl_endOf.f k l a=some e∧a≤p∧p≤e∧a<i+(d:Int)
 |0,i,g,G,i0,h,p,p0,hp=>by
  rw[guardL,Option.some.injEq] at h
  rw[h]
  exact .inl hp
 |d+1,i,g,G,i0,h,p,p0,hp=>by
  rw[guardL] at h
  by_cases a4:(rd_T77 l i).f0=4
  ·rw[if_pos a4] at h
   rw[Option.bind_eq_some_iff] at h
   obtain⟨e,he,h⟩:=h
   split at h
   ·rcases guardL_only k l d (i+1) _ G (by omega) h p p0 hp with q|⟨a,e2,h1,h2,h3,h4,h5,h6⟩
    ·rcases markN_only g _ _ p p0 q with q|q
     ·exact .inl q
     ·exact .inr ⟨i,e,by omega,a4,he,by omega,by omega,by omega⟩
    ·exact .inr ⟨a,e2,by omega,h2,h3,h4,h5,by omega⟩
   ·simp at h
  ·rw[if_neg a4] at h
   rcases guardL_only k l d (i+1) _ G (by omega) h p p0 hp with q|⟨a,e2,h1,h2,h3,h4,h5,h6⟩
   ·exact .inl q
   ·exact .inr ⟨a,e2,by omega,h2,h3,h4,h5,by omega⟩
theorem rd_mid (pre m post:List S77) (a:Int) (h0:(pre.length:Int)≤a) (h1:a<(pre.length:Int)+(m.length:Int)):m[(a - (pre.length:Int)).toNat]? =some (rd_T77 (pre++(m++post)) a):=by
 unfold rd_T77
 rw[List.getD_eq_getElem?_getD,List.getElem?_append_right (by omega),List.getElem?_append_left (by omega),show a.toNat - pre.length=(a - (pre.length:Int)).toNat by omega]
 rw[List.getElem?_eq_getElem (by omega)]
 rfl
theorem if_in (k:Nat) (b:Bk) (ob:b.ok) (pre post:List S77) (hl:(pre++(b.flat++post)).length≤1048576) (hk:2*(pre++(b.flat++post)).length+4<k) (a e:Int) (h0:(pre.length:Int)≤a) (h1:a<(pre.length:Int)+(b.flat.length:Int)) (a4:(rd_T77 (pre++(b.flat++post)) a).f0=4) (he:impl_endOf.f k (pre++(b.flat++post)) a=some e):e<(pre.length:Int)+(b.flat.length:Int):=by
 have hm:=rd_mid pre b.flat post a h0 h1
 obtain⟨p2,q2,b2,c2,e2,l2,ob2,oc2⟩:=flat_node b ob _ _ hm (.inl a4)
 generalize rd_T77 (pre++(b.flat++post)) a=s at*
 rw[e2] at he hl hk h1 ⊢
 simp only[List.length_append,List.length_cons] at hl hk h1 ⊢
 have r:pre++(p2++s::(b2.flat++c2::q2)++post)=(pre++p2)++s::(b2.flat++c2::(q2++post)):=by simp
 have hend:=endI_at (pre++p2) (q2++post) s c2 b2 ob2 (.inl a4) oc2 a (by simp only[List.length_append];omega) (by simp only[List.length_append,List.length_cons];omega) k (by omega)
 rw[r,hend,Option.some.injEq] at he
 omega
theorem mustT_at (k:Nat):∀(T:Bk),T.ok→∀(pre post:List S77) (y:Int),(pre++(T.flat++post)).length≤1048576→2*(pre++(T.flat++post)).length+4<k→y∈mustT T→
  ∃(j:Nat) (x:S77),T.flat[j]? =some x∧writes x=true∧x.f1=y∧∀a e:Int,(pre.length:Int)≤a→(rd_T77 (pre++(T.flat++post)) a).f0=4→impl_endOf.f k (pre++(T.flat++post)) a=some e→a≤(pre.length:Int)+(j:Int)→(pre.length:Int)+(j:Int)≤e→False
 | .nil,_,pre,post,y,_,_,h=>by simp[mustT] at h
 | .leaf x t,ok,pre,post,y,hl,hk,h=>by
  simp only[Bk.flat,List.cons_append] at hl hk ⊢
  have e0:=at_mid pre (t.flat++post) x (i:=(pre.length:Int)) rfl
  rw[mustT] at h
  have tl:y∈mustT t→∃(j:Nat) (z:S77),(x::t.flat)[j]? =some z∧writes z=true∧z.f1=y∧∀a e:Int,(pre.length:Int)≤a→(rd_T77 (pre++x::(t.flat++post)) a).f0=4→impl_endOf.f k (pre++x::(t.flat++post)) a=some e→a≤(pre.length:Int)+(j:Int)→(pre.length:Int)+(j:Int)≤e→False:=fun h=>by
   obtain⟨j,z,h1,h2,h3,h4⟩:=mustT_at k t ok.2.2.2 (pre++[x]) post y (by simpa using hl) (by simpa using hk) h
   refine⟨j+1,z,by simpa using h1,h2,h3,fun a e ha a4 he b1 b2=> ?_⟩
   by_cases ea:a=(pre.length:Int)
   ·rw[ea,e0] at a4
    exact ok.1 a4
   ·simp only[List.append_assoc,List.singleton_append] at h4
    exact h4 a e (by simp only[List.length_append,List.length_singleton];omega) a4 he (by simp only[List.length_append,List.length_singleton];omega) (by simp only[List.length_append,List.length_singleton];omega)
  by_cases c:x.f0=1∨x.f0=2
  ·rw[if_pos c] at h
   rcases List.mem_cons.1 h with e|h
   ·refine⟨0,x,by simp,by unfold writes;simpa using c,e.symm,fun a e ha a4 he b1 b2=> ?_⟩
    have ea:a=(pre.length:Int):=by omega
    rw[ea,e0] at a4
    exact ok.1 a4
   ·exact tl h
  ·rw[if_neg c] at h
   exact tl h
 | .node x b c t,ok,pre,post,y,hl,hk,h=>by
  obtain⟨o,ob,oc,ot⟩:=ok
  simp only[Bk.flat,List.cons_append,List.append_assoc] at hl hk ⊢
  have e0:=at_mid pre (b.flat++c::(t.flat++post)) x (i:=(pre.length:Int)) rfl
  have ec:=at_mid (pre++x::b.flat) (t.flat++post) c (i:=(pre.length:Int)+1+(b.flat.length:Int)) (by simp only[List.length_append,List.length_cons];omega)
  simp only[List.append_assoc,List.cons_append] at ec
  have tl:y∈mustT t→∃(j:Nat) (z:S77),(x::(b.flat++c::t.flat))[j]? =some z∧writes z=true∧z.f1=y∧∀a e:Int,(pre.length:Int)≤a→(rd_T77 (pre++x::(b.flat++c::(t.flat++post))) a).f0=4→impl_endOf.f k (pre++x::(b.flat++c::(t.flat++post))) a=some e→a≤(pre.length:Int)+(j:Int)→(pre.length:Int)+(j:Int)≤e→False:=fun h=>by
   obtain⟨j,z,h1,h2,h3,h4⟩:=mustT_at k t ot (pre++x::(b.flat++[c])) post y (by simpa using hl) (by simpa using hk) h
   simp only[List.append_assoc,List.cons_append,List.nil_append] at h4
   refine⟨b.flat.length+1+j+1,z,?_,h2,h3,fun a e ha a4 he b1 b2=> ?_⟩
   ·rw[List.getElem?_cons_succ,List.getElem?_append_right (by omega),show b.flat.length+1+j - b.flat.length=j+1 by omega,List.getElem?_cons_succ]
    exact h1
   ·have hlen:((pre++x::(b.flat++[c])).length:Int)=(pre.length:Int)+(b.flat.length:Int)+2:=by simp only[List.length_append,List.length_cons,List.length_nil];omega
    by_cases q:(pre.length:Int)+(b.flat.length:Int)+2≤a
    ·exact h4 a e (by omega) a4 he (by omega) (by omega)
    ·by_cases ea:a=(pre.length:Int)
     ·rw[ea,e0] at a4
      have hend:=endI_at pre (t.flat++post) x c b ob o oc (pre.length:Int) rfl (by simpa using hl) k (by simp only[List.length_append,List.length_cons] at hk;omega)
      rw[ea,hend,Option.some.injEq] at he
      omega
     ·by_cases ec2:a=(pre.length:Int)+1+(b.flat.length:Int)
      ·rw[ec2,ec] at a4
       omega
      ·have r:pre++x::(b.flat++c::(t.flat++post))=(pre++[x])++(b.flat++c::(t.flat++post)):=by simp
       rw[r] at he a4
       have:=if_in k b ob (pre++[x]) (c::(t.flat++post)) (by rw[←r];exact hl) (by rw[←r];exact hk) a e (by simp only[List.length_append,List.length_singleton];omega) (by simp only[List.length_append,List.length_singleton];omega) a4 he
       simp only[List.length_append,List.length_singleton] at this
       omega
  rw[mustT] at h
  by_cases h4:x.f0=4
  ·rw[if_pos h4] at h
   exact tl h
  ·rw[if_neg h4] at h
   rcases List.mem_append.1 h with h|h
   ·obtain⟨j,z,h1,h2,h3,h5⟩:=mustT_at k b ob (pre++[x]) (c::(t.flat++post)) y (by simpa using hl) (by simpa using hk) h
    simp only[List.append_assoc,List.singleton_append] at h5
    have hj:j<b.flat.length:=by
     have:=(List.getElem?_eq_some_iff.1 h1).1
     exact this
    refine⟨j+1,z,?_,h2,h3,fun a e ha a4 he b1 b2=> ?_⟩
    ·rw[List.getElem?_cons_succ,List.getElem?_append_left hj]
     exact h1
    ·by_cases ea:a=(pre.length:Int)
     ·rw[ea,e0] at a4
      exact h4 a4
     ·exact h5 a e (by simp only[List.length_append,List.length_singleton];omega) a4 he (by simp only[List.length_append,List.length_singleton];omega) (by simp only[List.length_append,List.length_singleton];omega)
   ·exact tl h
theorem writtenL_put (q:Int→Bool):∀(l:List S77) (i:Int) (j:Nat) (x:S77),l[j]? =some x→writes x=true→q (i+(j:Int))=true→x.f1∈writtenL q l i
 |[],i,j,x,h,_,_=>by simp at h
 |z::r,i,j,x,h,w,hq=>by
  rw[writtenL]
  cases j with
  |zero=>
   simp only[List.getElem?_cons_zero,Option.some.injEq] at h
   subst h
   rw[if_pos ⟨w,by simpa using hq⟩]
   exact List.mem_cons_self
  |succ j=>
   have:=writtenL_put q r (i+1) j x (by simpa using h) w (by rw[show i+1+(j:Int)=i+((j+1:Nat):Int) by omega];exact hq)
   split
   ·exact List.mem_cons_of_mem _ this
   ·exact this
theorem must_sup (T:Bk) (ok:T.ok) (hl:T.flat.length≤1048576) (k:Nat) (hk:2*T.flat.length+4<k) (G:List Bool) (hG:guardL k T.flat T.flat.length 0 (List.replicate T.flat.length false)=some G) (y:Int) (hy:y∈mustT T):y∈touch (writtenL (fun i=> !rdB G i) T.flat 0):=by
 rw[(touch_at _).2.1]
 obtain⟨j,x,h1,h2,h3,h4⟩:=mustT_at k T ok [] [] y (by simpa using hl) (by simpa using hk) hy
 simp only[List.nil_append,List.append_nil] at h4
 rw[←h3]
 refine writtenL_put _ _ 0 j x h1 h2 ?_
 rw[Int.zero_add]
 cases hb:rdB G (j:Int) with
 |false=>rfl
 |true=>
  exfalso
  rcases guardL_only k T.flat _ 0 _ G (by omega) hG (j:Int) (by omega) hb with q|⟨a,e,q1,q2,q3,q4,q5,_⟩
  ·unfold rdB rdOf at q
   rw[List.getD_eq_getElem?_getD,Int.toNat_natCast,List.getElem?_replicate] at q
   split at q<;>simp at q
  ·exact h4 a e (by simpa using q1) q2 q3 (by simpa using q4) (by simpa using q5)
theorem mustW_T {l:List S77} (hb:blockOk l=true) (T:Bk) (ok:T.ok) (hT:T.flat=l) (k:Nat) (hk:100<k):∃ms,impl_MustWrite.f k l=some ms∧Asc ms∧∀y,y∈ms↔y∈mustT T:=by
 obtain⟨G,hG,eM⟩:=mustW_at hb k hk
 obtain⟨_,_,_,h24,_⟩:=blockOk_tree hb
 refine⟨_,eM,(touch_at _).1,fun y=>⟨fun h=> ?_,fun h=> ?_⟩⟩
 ·exact must_sub T ok (by rw[hT];omega) k (by rw[hT];omega) G (by rw[hT];exact hG) y (by rw[hT];exact h)
 ·have:=must_sup T ok (by rw[hT];omega) k (by rw[hT];omega) G (by rw[hT];exact hG) y h
  rw[hT] at this
  exact this
def pickN (p:Int→Bool):Nat→Int→List Int
 |0,_=>[]
 |n+1,i=>if p i=true then i::pickN p n (i+1) else pickN p n (i+1)
theorem pickN_mem (p:Int→Bool):∀(n:Nat) (i y:Int),y∈pickN p n i↔i≤y∧y<i+(n:Int)∧p y=true
 |0,i,y=>by
  rw[pickN]
  constructor
  ·intro h
   simp at h
  ·intro h
   omega
 |n+1,i,y=>by
  have ih:=pickN_mem p n (i+1) y
  rw[pickN]
  by_cases c:p i=true
  ·rw[if_pos c,List.mem_cons,ih]
   constructor
   ·rintro(e|h)
    ·subst e
     exact⟨by omega,by omega,c⟩
    ·exact⟨by omega,by omega,h.2.2⟩
   ·intro h
    by_cases e:y=i
    ·exact .inl e
    ·exact .inr ⟨by omega,by omega,h.2.2⟩
  ·rw[if_neg c,ih]
   constructor
   ·intro h
    exact⟨by omega,by omega,h.2.2⟩
   ·intro h
    refine⟨?_,by omega,h.2.2⟩
    by_cases e:y=i
    ·subst e
     exact absurd h.2.2 c
    ·omega
theorem pickN_asc (p:Int→Bool):∀(n:Nat) (i:Int),Asc (pickN p n i)
 |0,i=>List.Pairwise.nil
 |n+1,i=>by
  rw[pickN]
  split
  ·refine List.Pairwise.cons (fun y hy=> ?_) (pickN_asc p n (i+1))
   have:=(pickN_mem p n (i+1) y).1 hy
   omega
  ·exact pickN_asc p n (i+1)
theorem firstL_pick (fi:List Bool):∀(n:Nat) (i:Int),firstL fi n i=pickN (rdB8 fi) n i
 |0,_=>rfl
 |n+1,i=>by rw[firstL,pickN,firstL_pick fi n (i+1)]
theorem readsS_l (a b c:Int) (he:exprOk a b c=true) (d:Nat):∀(k:Nat) (acc:List Int) (i:Int),0≤i→i+(d:Int)=8→(acc.length:Int)≤i→2*d+1<k→spec_ReadsOf.l0 k acc i a b c=some (acc++pickN (fun y=>decide (b= -1 - y∨c= -1 - y)) d i):=by
 induction d with
 |zero=>
  intro k acc i h0 hi hl hk
  obtain⟨k,rfl⟩:=succ_of (show 0<k by omega)
  obtain⟨k,rfl⟩:=succ_of (show 0<k by omega)
  rw[spec_ReadsOf.l0,if_neg (by omega),spec_ReadsOf.j1,if_neg (by decide),pickN,List.append_nil]
 |succ d ih=>
  intro k acc i h0 hi hl hk
  obtain⟨k,rfl⟩:=succ_of (show 0<k by omega)
  obtain⟨k,rfl⟩:=succ_of (show 0<k by omega)
  rw[spec_ReadsOf.l0,if_pos (by omega),exprS_eq,he]
  simp only[Option.bind_some]
  rw[spec_ReadsOf.j1,if_pos rfl,w64 (x:= -1 - i) (by omega) (by omega),w64 (x:=i+1) (by omega) (by omega),pickN]
  by_cases cb:b= -1 - i
  ·rw[if_pos cb,if_pos (by omega),if_pos (by simp[cb]),ih k (acc++[i]) (i+1) (by omega) (by omega) (by rw[List.length_append,List.length_singleton];omega) (by omega)]
   simp
  ·rw[if_neg cb]
   by_cases cc:c= -1 - i
   ·rw[if_pos cc,if_pos (by omega),if_pos (by simp[cc]),ih k (acc++[i]) (i+1) (by omega) (by omega) (by rw[List.length_append,List.length_singleton];omega) (by omega)]
    simp
   ·rw[if_neg cc,if_neg (by simp[cb,cc]),ih k acc (i+1) (by omega) (by omega) (by omega) (by omega)]
theorem readsS_at {a b c:Int} (he:exprOk a b c=true) (k:Nat) (hk:20<k):spec_ReadsOf.f k a b c=some (rs b c):=by
 unfold spec_ReadsOf.f
 rw[readsS_l a b c he 8 k [] 0 (by omega) (by omega) (by simp) (by omega),List.nil_append]
 congr 1
 refine asc_ext (pickN_asc _ 8 0) (touch_at _).1 (fun y=> ?_)
 have h2:=(exprOk_iff a b c).1 he
 unfold rs
 rw[pickN_mem,(touch_at _).2.1]
 have key:y∈readsL [b,c]↔(b<0∧y= -1 - b)∨(c<0∧y= -1 - c):=by
  have wb:b<0→wrap64 (-1 - b)= -1 - b:=fun h=>w64 (by omega) (by omega)
  have wc:c<0→wrap64 (-1 - c)= -1 - c:=fun h=>w64 (by omega) (by omega)
  by_cases c1:b<0<;>by_cases c2:c<0<;>simp only[readsL,c1,c2,if_true,if_false,wb,wc,List.mem_cons,List.not_mem_nil,or_false,false_and,true_and,false_or,or_self]<;>simp only[wb c1,wc c2]
 rw[key,decide_eq_true_eq]
 omega
theorem noteS_l (st:List Bool) (hs:st.length=8) (ys:List Int) (hy:∀y∈ys,0≤y∧y<8) (hl:ys.length≤1000) (d:Nat):∀(k:Nat) (fi:List Bool) (i:Int),fi.length=8→0≤i→i+(d:Int)=(ys.length:Int)→d<k→spec_l07Note.l0 k fi st ys i=some (readP st (ys.drop i.toNat) fi):=by
 induction d with
 |zero=>
  intro k fi i hf h0 hi hk
  obtain⟨k,rfl⟩:=succ_of hk
  rw[spec_l07Note.l0,if_neg (by omega),List.drop_eq_nil_of_le (by omega),readP]
 |succ d ih=>
  intro k fi i hf h0 hi hk
  obtain⟨k,rfl⟩:=succ_of hk
  have h8:=rd_all hy h0 (by omega)
  rw[spec_l07Note.l0,if_pos (by omega),if_pos h0,if_pos h8.1,if_pos (by omega),w64 (by omega) (by omega),drop_rd h0 (by omega),readP]
  change (if rdB8 st (rd ys i)=true then _ else _)=_
  by_cases c:rdB8 st (rd ys i)=true
  ·rw[if_pos c,if_pos c,ih k fi (i+1) hf (by omega) (by omega) (by omega)]
  ·rw[if_neg c,if_neg c,if_pos (by omega),ih k _ (i+1) (by rw[List.length_set];exact hf) (by omega) (by omega) (by omega)]
theorem noteS_at {a b c:Int} (he:exprOk a b c=true) (st fi:List Bool) (hs:st.length=8) (hf:fi.length=8) (k:Nat) (hk:2000<k):spec_l07Note.f k fi st a b c=some (readP st (rs b c) fi):=by
 unfold spec_l07Note.f
 rw[readsS_at he k (by omega)]
 simp only[Option.bind_some]
 have hl:(rs b c).length≤2:=by
  have h1:=(touch_at (readsL [b,c])).2.2
  have h2:(readsL [b,c]).length≤2:=by
   simp only[readsL]
   split<;>split<;>simp
  unfold rs
  omega
 rw[noteS_l st hs (rs b c) (rs_in he) (by omega) (rs b c).length k fi 0 hf (by omega) (by omega) (by omega)]
 rfl
theorem passS_step (pre rest:List S77) (x:S77) (i e:Int) (hi:i=(pre.length:Int)) (he:i<e) (hl:(pre++x::rest).length≤1048576) (hx:stOk x=true) (h4:x.f0≠4) (h5:x.f0≠5) (st fi:List Bool) (hs:st.length=8) (hf:fi.length=8) (r:List Bool×List Bool)
  (next:∃k,spec_l07Pass.l0 k (pre++x::rest) e (stS x st) (rdS x st fi) (i+1)=some r):∃k,spec_l07Pass.l0 k (pre++x::rest) e st fi i=some r:=by
 have ea:=at_mid pre rest x hi
 simp only[List.length_append,List.length_cons] at hl
 obtain⟨k,e2⟩:=next
 refine⟨(k+2001)+1,?_⟩
 have e3:=le_of_mono (fun k=>(spec_l07Pass.mono_l k).2 (pre++x::rest) e (stS x st) (rdS x st fi) (i+1)) e2 (k':=k+2001) (by omega)
 rw[spec_l07Pass.l0,if_pos he,if_pos (by omega),if_pos (by simp only[List.length_append,List.length_cons];omega),ea,w64 (x:=i+1) (by omega) (by omega)]
 unfold stS rdS at e3
 by_cases k1:x.f0=1
 ·have hv:=stmt_var hx (.inl k1)
  rw[if_pos (.inl k1),if_pos (.inl k1)] at e3
  rw[if_pos k1,noteS_at (stmt_expr hx (.inl k1)) st fi hs hf _ (by omega)]
  simp only[Option.bind_some]
  rw[if_pos hv.1,if_pos (by omega)]
  exact e3
 rw[if_neg k1]
 by_cases k2:x.f0=2
 ·have hv:=stmt_var hx (.inr k2)
  rw[if_pos (.inr k2),if_neg (by omega)] at e3
  rw[if_pos k2,if_pos hv.1,if_pos (by omega)]
  exact e3
 rw[if_neg k2]
 rw[if_neg (by omega)] at e3
 by_cases k3:x.f0=3
 ·rw[if_pos (.inr (.inl k3))] at e3
  rw[if_pos k3,noteS_at (stmt_expr hx (.inr (.inl k3))) st fi hs hf _ (by omega)]
  exact e3
 ·rw[if_neg (by omega)] at e3
  rw[if_neg k3,if_neg h4,if_neg h5]
  exact e3
theorem passS_t:∀(T:Bk),T.ok→(∀s∈T.flat,stOk s=true)→∀(pre post:List S77) (i e:Int) (st fi:List Bool) (r:List Bool×List Bool),i=(pre.length:Int)→i+(T.flat.length:Int)≤e→(pre++(T.flat++post)).length≤1048576→st.length=8→fi.length=8→
  (∃k,spec_l07Pass.l0 k (pre++(T.flat++post)) e (passT T st fi).1 (passT T st fi).2 (i+(T.flat.length:Int))=some r)→∃k,spec_l07Pass.l0 k (pre++(T.flat++post)) e st fi i=some r
 | .nil,_,_,pre,post,i,e,st,fi,r,_,_,_,_,_,next=>by
  simpa [Bk.flat,passT] using next
 | .leaf x t,ok,hst,pre,post,i,e,st,fi,r,hi,hle,hl,hs,hf,next=>by
  simp only[Bk.flat,List.length_cons,List.length_append,List.cons_append,passT] at hl hle next ⊢
  have hx:=hst x (by simp[Bk.flat])
  refine passS_step pre (t.flat++post) x i e hi (by omega) (by simp only[List.length_append,List.length_cons];omega) hx ok.1 ok.2.1 st fi hs hf r ?_
  have:=passS_t t ok.2.2.2 (fun y hy=>hst y (by simp[Bk.flat,hy])) (pre++[x]) post (i+1) e (stS x st) (rdS x st fi) r (by simp only[List.length_append,List.length_cons,List.length_nil];omega) (by omega) (by simp only[List.length_append,List.length_cons,List.length_nil];omega) (stS_up hx st hs).1 (rdS_up hx st fi hf).1 (by
   simp only[List.append_assoc,List.singleton_append]
   rw[show i+1+(t.flat.length:Int)=i+((t.flat.length+1:Nat):Int) by omega]
   exact next)
  simpa only[List.append_assoc,List.singleton_append] using this
 | .node x b c t,ok,hst,pre,post,i,e,st,fi,r,hi,hle,hl,hs,hf,next=>by
  obtain⟨o,ob,oc,ot⟩:=ok
  simp only[Bk.flat,List.length_cons,List.length_append,List.cons_append,List.append_assoc,passT] at hl hle next ⊢
  have hx:=hst x (by simp[Bk.flat])
  have hbs:∀y∈b.flat,stOk y=true:=fun y hy=>hst y (by simp[Bk.flat,hy])
  have ea:=at_mid pre (b.flat++c::(t.flat++post)) x hi
  have hend:∀k,2*b.flat.length+4<k→spec_l05End.f k (pre++x::(b.flat++c::(t.flat++post))) i=some (i+1+(b.flat.length:Int)):=fun k hk=>endS_at pre (t.flat++post) x c b ob o oc i hi (by simp only[List.length_append,List.length_cons];omega) k hk
  have tl:∀st' fi':List Bool,st'.length=8→fi'.length=8→(∃k,spec_l07Pass.l0 k (pre++x::(b.flat++c::(t.flat++post))) e (passT t st' fi').1 (passT t st' fi').2 (i+((b.flat.length+(t.flat.length+1)+1:Nat):Int))=some r)→∃k,spec_l07Pass.l0 k (pre++x::(b.flat++c::(t.flat++post))) e st' fi' (i+1+(b.flat.length:Int)+1)=some r:=fun st' fi' hs' hf' nx=>by
   have:=passS_t t ot (fun y hy=>hst y (by simp[Bk.flat,hy])) (pre++x::(b.flat++[c])) post (i+1+(b.flat.length:Int)+1) e st' fi' r (by simp only[List.length_append,List.length_cons,List.length_nil];omega) (by omega) (by simp only[List.length_append,List.length_cons,List.length_nil];omega) hs' hf' (by
    simp only[List.append_assoc,List.cons_append,List.nil_append]
    rw[show i+1+(b.flat.length:Int)+1+(t.flat.length:Int)=i+((b.flat.length+(t.flat.length+1)+1:Nat):Int) by omega]
    exact nx)
   simpa only[List.append_assoc,List.cons_append,List.nil_append] using this
  have body:∀fi1:List Bool,fi1.length=8→∃k,spec_l07Pass.l0 k (pre++x::(b.flat++c::(t.flat++post))) (i+1+(b.flat.length:Int)) st fi1 (i+1)=some (passT b st fi1):=fun fi1 hf1=>by
   have:=passS_t b ob hbs (pre++[x]) (c::(t.flat++post)) (i+1) (i+1+(b.flat.length:Int)) st fi1 (passT b st fi1) (by simp only[List.length_append,List.length_cons,List.length_nil];omega) (by omega) (by simp only[List.length_append,List.length_cons,List.length_nil];omega) hs hf1 ⟨1,by rw[spec_l07Pass.l0,if_neg (by omega)]⟩
   simpa only[List.append_assoc,List.singleton_append] using this
  by_cases h4:x.f0=4
  ·rw[if_pos h4] at next
   have hrd:rdS x st fi=readP st (rs x.f3.f1 x.f3.f2) fi:=by unfold rdS;rw[if_pos (by omega)]
   rw[hrd] at next
   have hf1:(readP st (rs x.f3.f1 x.f3.f2) fi).length=8:=by rw[readP_len];exact hf
   obtain⟨kb,eb⟩:=body _ hf1
   obtain⟨c1,c2,_,_⟩:=passT_up b hbs st _ hs hf1
   obtain⟨kt,et⟩:=tl _ _ hs c2 next
   refine⟨(kb+kt+2*b.flat.length+2010)+1,?_⟩
   rw[spec_l07Pass.l0,if_pos (by omega),if_pos (by omega),if_pos (by simp only[List.length_append,List.length_cons];omega),ea,if_neg (by omega),if_neg (by omega),if_neg (by omega),if_pos h4,noteS_at (stOk_expr hx (.inr h4)) st fi hs hf _ (by omega)]
   simp only[Option.bind_some]
   rw[hend _ (by omega)]
   simp only[Option.bind_some,List.nil_append,List.length_nil]
   rw[if_pos (by omega),w64 (x:=i+1) (by omega) (by omega),w64 (x:=i+1+(b.flat.length:Int)+1) (by omega) (by omega)]
   have eb2:spec_l07Pass.f (kb+1) (pre++x::(b.flat++c::(t.flat++post))) (i+1) (i+1+(b.flat.length:Int)) st (readP st (rs x.f3.f1 x.f3.f2) fi)=some (passT b st (readP st (rs x.f3.f1 x.f3.f2) fi)):=by rw[spec_l07Pass.f];exact eb
   rw[le_of_mono (fun k=>(spec_l07Pass.mono_l k).1 _ _ _ _ _) eb2 (k':=kb+kt+2*b.flat.length+2010) (by omega)]
   simp only[Option.bind_some]
   exact le_of_mono (fun k=>(spec_l07Pass.mono_l k).2 _ _ _ _ _) et (by omega)
  ·rw[if_neg h4] at next
   have h5:x.f0=5:=by omega
   obtain⟨kb,eb⟩:=body fi hf
   obtain⟨c1,c2,_,_⟩:=passT_up b hbs st fi hs hf
   obtain⟨kt,et⟩:=tl _ _ c1 c2 next
   refine⟨(kb+kt+2*b.flat.length+2010)+1,?_⟩
   rw[spec_l07Pass.l0,if_pos (by omega),if_pos (by omega),if_pos (by simp only[List.length_append,List.length_cons];omega),ea,if_neg (by omega),if_neg (by omega),if_neg (by omega),if_neg h4,if_pos h5,hend _ (by omega)]
   simp only[Option.bind_some]
   rw[w64 (x:=i+1) (by omega) (by omega),w64 (x:=i+1+(b.flat.length:Int)+1) (by omega) (by omega)]
   have eb2:spec_l07Pass.f (kb+1) (pre++x::(b.flat++c::(t.flat++post))) (i+1) (i+1+(b.flat.length:Int)) st fi=some (passT b st fi):=by rw[spec_l07Pass.f];exact eb
   rw[le_of_mono (fun k=>(spec_l07Pass.mono_l k).1 _ _ _ _ _) eb2 (k':=kb+kt+2*b.flat.length+2010) (by omega)]
   simp only[Option.bind_some]
   exact le_of_mono (fun k=>(spec_l07Pass.mono_l k).2 _ _ _ _ _) et (by omega)
theorem listS_l (s:List Bool) (hs:s.length=8) (d:Nat):∀(k:Nat) (acc:List Int) (i:Int),0≤i→i+(d:Int)=8→(acc.length:Int)≤i→d<k→spec_l07List.l0 k s acc i=some (acc++pickN (rdB8 s) d i):=by
 induction d with
 |zero=>
  intro k acc i h0 hi hl hk
  obtain⟨k,rfl⟩:=succ_of hk
  rw[spec_l07List.l0,if_neg (by omega),pickN,List.append_nil]
 |succ d ih=>
  intro k acc i h0 hi hl hk
  obtain⟨k,rfl⟩:=succ_of hk
  rw[spec_l07List.l0,if_pos (by omega),if_pos h0,w64 (by omega) (by omega),pickN]
  change (if rdB8 s i=true then _ else _)=_
  by_cases c:rdB8 s i=true
  ·rw[if_pos c,if_pos c,if_pos (by omega),ih k (acc++[i]) (i+1) (by omega) (by omega) (by rw[List.length_append,List.length_singleton];omega) (by omega)]
   simp
  ·rw[if_neg c,if_neg c,ih k acc (i+1) (by omega) (by omega) (by omega) (by omega)]
theorem listS_at (s:List Bool) (hs:s.length=8) (k:Nat) (hk:10<k):spec_l07List.f k s=some (pickN (rdB8 s) 8 0):=by
 unfold spec_l07List.f
 rw[listS_l s hs 8 k [] 0 (by omega) (by omega) (by simp) (by omega),List.nil_append]
theorem mrfS_at {l:List S77} (hb:blockOk l=true) {a b c:Int} (he:exprOk a b c=true) (T:Bk) (ok:T.ok) (hT:T.flat=l):∃k0,∀k,k0≤k→spec_MayReadFirst.f k l a b c=some (firstT T b c):=by
 obtain⟨_,_,_,h24,hst⟩:=blockOk_tree hb
 have hst':∀s∈T.flat,stOk s=true:=by rw[hT];exact hst
 obtain⟨k,es⟩:=passS_t T ok hst' [] [] 0 (l.length:Int) z8 z8 (passT T z8 z8) rfl (by rw[hT];omega) (by simp only[List.nil_append,List.append_nil,hT];omega) rfl rfl ⟨1,by rw[spec_l07Pass.l0,if_neg (by rw[hT];omega)]⟩
 simp only[List.nil_append,List.append_nil,hT] at es
 obtain⟨p1,p2,_,_⟩:=passT_up T hst' z8 z8 rfl rfl
 refine⟨k+3000,fun k' hk=>le_of_mono (fun k=>spec_MayReadFirst.mono l a b c k) (k:=k+3000) ?_ hk⟩
 unfold spec_MayReadFirst.f
 rw[if_pos (by omega),blockS_at l (by omega) _ (by omega),hb]
 simp only[Option.bind_some,if_true]
 rw[exprS_eq,he]
 simp only[Option.bind_some]
 rw[show k+3000=(k+2999)+1 from rfl,spec_MayReadFirst.j0,if_pos rfl,if_pos (by omega)]
 have es2:spec_l07Pass.f (k+1) l 0 (l.length:Int) z8 z8=some (passT T z8 z8):=by rw[spec_l07Pass.f];exact es
 rw[show(List.replicate 8 false:List Bool)=z8 from rfl,le_of_mono (fun k=>(spec_l07Pass.mono_l k).1 l 0 (l.length:Int) z8 z8) es2 (k':=k+2999) (by omega)]
 simp only[Option.bind_some]
 rw[noteS_at he _ _ p1 p2 _ (by omega)]
 simp only[Option.bind_some]
 rw[listS_at _ (by rw[readP_len];exact p2) _ (by omega),←firstL_pick]
 rfl
theorem l07W_eq (x:S77):spec_l07Writes.f x.f0 x.f1 x.f2 x.f3.f0 x.f3.f1 x.f3.f2=some (decide (x.f0=1∨x.f0=2)):=by
 unfold spec_l07Writes.f
 by_cases h:x.f0=1
 ·simp[h]
 ·rw[if_neg h]
  by_cases h2:x.f0=2<;>simp[h,h2]
def mayF:List S77→List Bool→List Bool
 |[],s=>s
 |x::r,s=>mayF r (stS x s)
theorem mayF_at:∀(l:List S77),(∀x∈l,stOk x=true)→∀s:List Bool,s.length=8→(mayF l s).length=8∧∀y:Int,0≤y→(rdB8 (mayF l s) y=true↔rdB8 s y=true∨y∈writtenL (fun _=>true) l 0)
 |[],_,s,hs=>⟨hs,fun y _=>by simp[mayF,writtenL]⟩
 |x::r,h,s,hs=>by
  have hx:=h x (by simp)
  have all:∀(l:List S77) (i j:Int),writtenL (fun _=>true) l i=writtenL (fun _=>true) l j:=by
   intro l
   induction l with
   |nil=>intro i j;rfl
   |cons x r ih=>
    intro i j
    rw[writtenL,writtenL,ih (i+1) (j+1)]
  obtain⟨i1,i2⟩:=mayF_at r (fun y hy=>h y (by simp[hy])) (stS x s) (stS_up hx s hs).1
  refine⟨i1,fun y y0=> ?_⟩
  rw[mayF,i2 y y0,writtenL,all r (0+1) 0]
  unfold stS
  by_cases c:x.f0=1∨x.f0=2
  ·have hv:=stmt_var hx c
   have hw:writes x=true:=by unfold writes;simpa using c
   rw[if_pos c,if_pos ⟨hw,rfl⟩,rdB8_set s hs _ y hv.1 hv.2 y0,List.mem_cons]
   simp only[Bool.or_eq_true,decide_eq_true_eq]
   constructor
   ·rintro((e|h)|h)
    ·exact .inr (.inl e)
    ·exact .inl h
    ·exact .inr (.inr h)
   ·rintro(h|e|h)
    ·exact .inl (.inr h)
    ·exact .inl (.inl e)
    ·exact .inr h
  ·have hw:¬writes x=true:=by unfold writes;simpa using c
   rw[if_neg c,if_neg (fun h=>hw h.1)]
theorem mayS_l (l:List S77) (hb:blockOk l=true) (hl:l.length≤24) (hst:∀x∈l,stOk x=true) (d:Nat):∀(k:Nat) (s:List Bool) (i:Int),s.length=8→0≤i→i+(d:Int)=(l.length:Int)→2*d+200<k→spec_MayWrite.l0 k l s i=some (pickN (rdB8 (mayF (l.drop i.toNat) s)) 8 0):=by
 induction d with
 |zero=>
  intro k s i hs h0 hi hk
  obtain⟨k,rfl⟩:=succ_of (show 0<k by omega)
  obtain⟨k,rfl⟩:=succ_of (show 0<k by omega)
  rw[spec_MayWrite.l0,if_neg (by omega),spec_MayWrite.j1,if_neg (by decide),listS_at s hs k (by omega),List.drop_eq_nil_of_le (by omega),mayF]
  rfl
 |succ d ih=>
  intro k s i hs h0 hi hk
  obtain⟨k,rfl⟩:=succ_of (show 0<k by omega)
  obtain⟨k,rfl⟩:=succ_of (show 0<k by omega)
  have hm:=getD_rd z77 (l:=l) h0 (by omega)
  have hx:stOk (rd_T77 l i)=true:=hst _ (List.mem_of_getElem? hm)
  rw[spec_MayWrite.l0,if_pos (by omega),blockS_at l (by omega) _ (by omega),hb]
  simp only[Option.bind_some]
  rw[spec_MayWrite.j1,if_pos rfl,if_pos h0,if_pos (by omega)]
  have hd:l.drop i.toNat=rd_T77 l i::l.drop (i+1).toNat:=drop_getD z77 h0 (by omega)
  have hW:=l07W_eq (rd_T77 l i)
  rw[hW]
  simp only[Option.bind_some]
  rw[w64 (by omega) (by omega),hd,mayF]
  unfold stS
  by_cases c:(rd_T77 l i).f0=1∨(rd_T77 l i).f0=2
  ·have hv:=stmt_var hx c
   rw[if_pos (by simpa using c),if_pos hv.1,if_pos (by omega),if_pos c,ih k _ (i+1) (by rw[List.length_set];exact hs) (by omega) (by omega) (by omega)]
  ·rw[if_neg (by simpa using c),if_neg c,ih k s (i+1) hs (by omega) (by omega) (by omega)]
theorem mayS_at {l:List S77} (hb:blockOk l=true) (k:Nat) (hk:300<k):spec_MayWrite.f k l=some (touch (writtenL (fun _=>true) l 0)):=by
 obtain⟨_,_,_,h24,hst⟩:=blockOk_tree hb
 unfold spec_MayWrite.f
 rw[if_pos (by omega),mayS_l l hb h24 hst l.length k _ 0 rfl (by omega) (by omega) (by omega)]
 congr 1
 have hm:=(mayF_at l hst z8 rfl).2
 refine asc_ext (pickN_asc _ 8 0) (touch_at _).1 (fun y=> ?_)
 rw[pickN_mem,(touch_at _).2.1]
 change 0≤y∧y<0+((8:Nat):Int)∧rdB8 (mayF l z8) y=true↔_
 constructor
 ·intro h
  have:=(hm y h.1).1 h.2.2
  rw[z8_no y h.1 (by omega)] at this
  simpa using this
 ·intro h
  obtain⟨j,x,e1,e2,e3,_⟩:=writtenL_at _ _ 0 y h
  have hx:=hst _ (List.mem_of_getElem? e1)
  have hv:=stmt_var hx (by unfold writes at e2;simpa using e2)
  exact⟨by omega,by omega,(hm y (by omega)).2 (.inr h)⟩
def setT:Bk→List Bool→List Bool
 | .nil,s=>s
 | .leaf x t,s=>setT t (stS x s)
 | .node x b _ t,s=>if x.f0=4 then setT t s else setT t (setT b s)
theorem setT_at:∀(T:Bk),(∀x∈T.flat,stOk x=true)→∀s:List Bool,s.length=8→(setT T s).length=8∧∀y:Int,0≤y→(rdB8 (setT T s) y=true↔rdB8 s y=true∨y∈mustT T)
 | .nil,_,s,hs=>⟨hs,fun y _=>by simp[setT,mustT]⟩
 | .leaf x t,h,s,hs=>by
  have hx:=h x (by simp[Bk.flat])
  obtain⟨i1,i2⟩:=setT_at t (fun y hy=>h y (by simp[Bk.flat,hy])) (stS x s) (stS_up hx s hs).1
  refine⟨i1,fun y y0=> ?_⟩
  rw[setT,i2 y y0,mustT]
  unfold stS
  by_cases c:x.f0=1∨x.f0=2
  ·have hv:=stmt_var hx c
   rw[if_pos c,if_pos c,rdB8_set s hs _ y hv.1 hv.2 y0,List.mem_cons]
   simp only[Bool.or_eq_true,decide_eq_true_eq]
   constructor
   ·rintro((e|h)|h)
    ·exact .inr (.inl e)
    ·exact .inl h
    ·exact .inr (.inr h)
   ·rintro(h|e|h)
    ·exact .inl (.inr h)
    ·exact .inl (.inl e)
    ·exact .inr h
  ·rw[if_neg c,if_neg c]
 | .node x b e t,h,s,hs=>by
  have hb:=fun s hs=>setT_at b (fun y hy=>h y (by simp[Bk.flat,hy])) s hs
  have ht:=fun s hs=>setT_at t (fun y hy=>h y (by simp[Bk.flat,hy])) s hs
  rw[setT,mustT]
  by_cases h4:x.f0=4
  ·rw[if_pos h4,if_pos h4]
   exact ht s hs
  ·rw[if_neg h4,if_neg h4]
   obtain⟨b1,b2⟩:=hb s hs
   obtain⟨t1,t2⟩:=ht (setT b s) b1
   refine⟨t1,fun y y0=> ?_⟩
   rw[t2 y y0,b2 y y0,List.mem_append,or_assoc]
theorem mustS_t (L:List S77) (hb:blockOk L=true) (hL:L.length≤24) (r:List Int):∀(T:Bk),T.ok→(∀s∈T.flat,stOk s=true)→∀(pre post:List S77) (i:Int) (s:List Bool),L=pre++(T.flat++post)→i=(pre.length:Int)→s.length=8→
  (∃k,spec_MustWrite.l0 k L (setT T s) (i+(T.flat.length:Int))=some r)→∃k,spec_MustWrite.l0 k L s i=some r
 | .nil,_,_,pre,post,i,s,_,_,_,next=>by
  simpa [Bk.flat,setT] using next
 | .leaf x t,ok,hst,pre,post,i,s,hE,hi,hs,next=>by
  simp only[Bk.flat,List.length_cons,List.cons_append,setT] at hE next ⊢
  have hx:=hst x (by simp[Bk.flat])
  have ea:=at_mid pre (t.flat++post) x hi
  have hlen:L.length=pre.length+(t.flat.length+post.length+1):=by rw[hE];simp
  rw[←hE] at ea
  obtain⟨k,e2⟩:=mustS_t L hb hL r t ok.2.2.2 (fun y hy=>hst y (by simp[Bk.flat,hy])) (pre++[x]) post (i+1) (stS x s) (by rw[hE];simp) (by simp only[List.length_append,List.length_cons,List.length_nil];omega) (stS_up hx s hs).1 (by
   rw[show i+1+(t.flat.length:Int)=i+((t.flat.length+1:Nat):Int) by omega]
   exact next)
  refine⟨(k+200)+1+1,?_⟩
  have e3:=le_of_mono (fun k=>(spec_MustWrite.mono_l k).1 L (stS x s) (i+1)) e2 (k':=k+200) (by omega)
  rw[spec_MustWrite.l0,if_pos (by omega),blockS_at L (by omega) _ (by omega),hb]
  simp only[Option.bind_some]
  rw[spec_MustWrite.j1,if_pos rfl,if_pos (by omega),if_pos (by omega),ea,if_neg ok.1,l07W_eq x]
  simp only[Option.bind_some]
  rw[w64 (by omega) (by omega)]
  unfold stS at e3
  by_cases c:x.f0=1∨x.f0=2
  ·have hv:=stmt_var hx c
   rw[if_pos c] at e3
   rw[if_pos (by simpa using c),if_pos hv.1,if_pos (by omega)]
   exact e3
  ·rw[if_neg c] at e3
   rw[if_neg (by simpa using c)]
   exact e3
 | .node x b c t,ok,hst,pre,post,i,s,hE,hi,hs,next=>by
  obtain⟨o,ob,oc,ot⟩:=ok
  simp only[Bk.flat,List.length_cons,List.length_append,List.cons_append,List.append_assoc,setT] at hE next ⊢
  have hx:=hst x (by simp[Bk.flat])
  have hbs:∀y∈b.flat,stOk y=true:=fun y hy=>hst y (by simp[Bk.flat,hy])
  have ea:=at_mid pre (b.flat++c::(t.flat++post)) x hi
  have hlen:L.length=pre.length+(b.flat.length+(t.flat.length+post.length+1)+1):=by rw[hE];simp
  have hend:∀k,2*b.flat.length+4<k→spec_l05End.f k (pre++x::(b.flat++c::(t.flat++post))) i=some (i+1+(b.flat.length:Int)):=fun k hk=>endS_at pre (t.flat++post) x c b ob o oc i hi (by simp only[List.length_append,List.length_cons];omega) k hk
  rw[←hE] at ea hend
  have tl:∀s',s'.length=8→(∃k,spec_MustWrite.l0 k L (setT t s') (i+((b.flat.length+(t.flat.length+1)+1:Nat):Int))=some r)→∃k,spec_MustWrite.l0 k L s' (i+1+(b.flat.length:Int)+1)=some r:=fun s' hs' nx=>
   mustS_t L hb hL r t ot (fun y hy=>hst y (by simp[Bk.flat,hy])) (pre++x::(b.flat++[c])) post (i+1+(b.flat.length:Int)+1) s' (by rw[hE];simp) (by simp only[List.length_append,List.length_cons,List.length_nil];omega) hs' (by
    rw[show i+1+(b.flat.length:Int)+1+(t.flat.length:Int)=i+((b.flat.length+(t.flat.length+1)+1:Nat):Int) by omega]
    exact nx)
  by_cases h4:x.f0=4
  ·rw[if_pos h4] at next
   obtain⟨k,e2⟩:=tl s hs next
   refine⟨(k+200)+1+1,?_⟩
   have e3:=le_of_mono (fun k=>(spec_MustWrite.mono_l k).1 L s (i+1+(b.flat.length:Int)+1)) e2 (k':=k+200) (by omega)
   rw[spec_MustWrite.l0,if_pos (by omega),blockS_at L (by omega) _ (by omega),hb]
   simp only[Option.bind_some]
   rw[spec_MustWrite.j1,if_pos rfl,if_pos (by omega),if_pos (by omega),ea,if_pos h4,hend _ (by omega)]
   simp only[Option.bind_some]
   rw[w64 (by omega) (by omega)]
   exact e3
  ·rw[if_neg h4] at next
   have one:∀(z:S77) (j:Int) (s':List Bool),0≤j→j<(L.length:Int)→rd_T77 L j=z→z.f0=5∨z.f0=6→(∃k,spec_MustWrite.l0 k L s' (j+1)=some r)→∃k,spec_MustWrite.l0 k L s' j=some r:=fun z j s' j0 j1 hz hk nx=>by
    obtain⟨k,e2⟩:=nx
    refine⟨(k+200)+1+1,?_⟩
    have e3:=le_of_mono (fun k=>(spec_MustWrite.mono_l k).1 L s' (j+1)) e2 (k':=k+200) (by omega)
    rw[spec_MustWrite.l0,if_pos (by omega),blockS_at L (by omega) _ (by omega),hb]
    simp only[Option.bind_some]
    rw[spec_MustWrite.j1,if_pos rfl,if_pos (by omega),if_pos (by omega),hz,if_neg (by omega),l07W_eq z]
    simp only[Option.bind_some]
    rw[if_neg (by simp;omega),w64 (by omega) (by omega)]
    exact e3
   refine one x i s (by omega) (by omega) ea (by omega) ?_
   refine mustS_t L hb hL r b ob hbs (pre++[x]) (c::(t.flat++post)) (i+1) s (by rw[hE];simp) (by simp only[List.length_append,List.length_cons,List.length_nil];omega) hs ?_
   have ec:=at_mid (pre++x::b.flat) (t.flat++post) c (i:=i+1+(b.flat.length:Int)) (by simp only[List.length_append,List.length_cons];omega)
   rw[show(pre++x::b.flat)++c::(t.flat++post)=L by rw[hE];simp] at ec
   exact one c (i+1+(b.flat.length:Int)) (setT b s) (by omega) (by omega) ec (.inr oc) (tl _ (setT_at b hbs s hs).1 next)
theorem mustS_at {l:List S77} (hb:blockOk l=true) (T:Bk) (ok:T.ok) (hT:T.flat=l):∃k0 ms,Asc ms∧(∀y,y∈ms↔y∈mustT T)∧∀k,k0≤k→spec_MustWrite.f k l=some ms:=by
 obtain⟨_,_,_,h24,hst⟩:=blockOk_tree hb
 have hst':∀s∈T.flat,stOk s=true:=by rw[hT];exact hst
 obtain⟨s1,s2⟩:=setT_at T hst' z8 rfl
 obtain⟨k,e⟩:=mustS_t l hb h24 (pickN (rdB8 (setT T z8)) 8 0) T ok hst' [] [] 0 z8 (by rw[←hT];simp) rfl rfl ⟨20+1+1,by
  rw[spec_MustWrite.l0,if_neg (by rw[hT];omega),spec_MustWrite.j1,if_neg (by decide),listS_at _ s1 _ (by omega)]
  rfl⟩
 refine⟨k,pickN (rdB8 (setT T z8)) 8 0,pickN_asc _ 8 0,fun y=> ?_,fun k' hk=> ?_⟩
 ·rw[pickN_mem]
  constructor
  ·intro h
   have:=(s2 y h.1).1 h.2.2
   rw[z8_no y h.1 (by omega)] at this
   simpa using this
  ·intro h
   have h0:=mustT_nn T hst' y h
   have h1:=mustT_lt T hst' y h
   exact⟨h0,by omega,(s2 y h0).2 (.inr h)⟩
 ·refine le_of_mono (fun k=>spec_MustWrite.mono l k) (k:=k) ?_ hk
  unfold spec_MustWrite.f
  rw[if_pos (by omega)]
  exact e
theorem hasVarS_l (l:List Int) (hl:l.length≤1048576) (x:Int) (d:Nat):∀(k:Nat) (i:Int),0≤i→i+(d:Int)=(l.length:Int)→d<k→
  spec_HasVar.l0 k l x i=some (decide (x∈l.drop i.toNat)):=by
 induction d with
 |zero=>
  intro k i h0 hi hk
  obtain⟨k,rfl⟩:=succ_of hk
  simp only[spec_HasVar.l0]
  rw[if_neg (by omega),List.drop_eq_nil_of_le (by omega)]
  simp
 |succ d ih=>
  intro k i h0 hi hk
  obtain⟨k,rfl⟩:=succ_of hk
  simp only[spec_HasVar.l0]
  rw[if_pos (by omega),if_pos h0,drop_rd h0 (by omega)]
  by_cases e:rd l i=x
  ·rw[if_pos e]
   simp[e]
  ·rw[if_neg e,w64 (by omega) (by omega),ih k (i+1) (by omega) (by omega) (by omega)]
   have:¬x=rd l i:=fun h=>e h.symm
   simp[this]
theorem hasVarS_at (l:List Int) (hl:l.length≤1048576) (x:Int) (k:Nat) (hk:l.length<k):spec_HasVar.f k l x=some (decide (x∈l)):=by
 unfold spec_HasVar.f
 rw[hasVarS_l l hl x l.length k 0 (by omega) (by omega) hk]
 simp
def logOf (ws fs ms:List Int):List Int:=ws.filter fun x=> !(!decide (x∈fs)&&decide (x∈ms))
theorem mlogS_l (ws fs ms:List Int) (hw:ws.length≤1048576) (hf:fs.length≤1000) (hm:ms.length≤1000) (d:Nat):∀(k:Nat) (acc:List Int) (i:Int),0≤i→i+(d:Int)=(ws.length:Int)→(acc.length:Int)≤i→d+2000<k→spec_MustLog.l0 k acc ws ms fs i=some (acc++logOf (ws.drop i.toNat) fs ms):=by
 induction d with
 |zero=>
  intro k acc i h0 hi ha hk
  obtain⟨k,rfl⟩:=succ_of (show 0<k by omega)
  rw[spec_MustLog.l0,if_neg (by omega),List.drop_eq_nil_of_le (by omega)]
  simp[logOf]
 |succ d ih=>
  intro k acc i h0 hi ha hk
  obtain⟨k,rfl⟩:=succ_of (show 0<k by omega)
  have put:spec_MustLog.l0 k (acc++[rd ws i]) ws ms fs (i+1)=some (acc++(rd ws i::logOf (ws.drop (i+1).toNat) fs ms)):=by
   rw[ih k _ (i+1) (by omega) (by omega) (by rw[List.length_append,List.length_singleton];omega) (by omega)]
   simp
  have skip:=ih k acc (i+1) (by omega) (by omega) (by omega) (by omega)
  rw[spec_MustLog.l0,if_pos (by omega),if_pos h0,hasVarS_at fs (by omega) _ k (by omega)]
  simp only[Option.bind_some]
  rw[w64 (by omega) (by omega),drop_rd h0 (by omega)]
  unfold logOf at put skip ⊢
  rw[List.filter_cons]
  by_cases c:rd ws i∈fs
  ·rw[if_pos (by simpa using c),if_pos (by omega),put,if_pos (by simp[c])]
  ·rw[if_neg (by simpa using c),hasVarS_at ms (by omega) _ k (by omega)]
   simp only[Option.bind_some]
   by_cases c2:rd ws i∈ms
   ·rw[if_pos (by simpa using c2),skip,if_neg (by simp[c,c2])]
   ·rw[if_neg (by simpa using c2),if_pos (by omega),put,if_pos (by simp[c2])]
theorem mustLog_both {l:List S77} (hb:blockOk l=true) {a b c:Int} (he:exprOk a b c=true):∃(k0:Nat) (L:List Int),L.length≤24∧∀k,k0≤k→impl_MustLog.f k l a b c=some L∧spec_MustLog.f k l a b c=some L:=by
 obtain⟨T,ok,hT,h24,hst⟩:=blockOk_tree hb
 obtain⟨k1,e1⟩:=mrf_at hb he T ok hT
 obtain⟨k2,e2⟩:=mrfS_at hb he T ok hT
 obtain⟨k3,ms,am,hm,e3⟩:=mustS_at hb T ok hT
 have hst':∀s∈T.flat,stOk s=true:=by rw[hT];exact hst
 obtain⟨_,_,la⟩:=touch_at (writtenL (fun _=>true) l 0)
 have ha:=writtenL_len (fun _=>true) l 0
 have hfl:=firstL_len (readP (passT T z8 z8).1 (rs b c) (passT T z8 z8).2) 8 0
 have hfl2:(firstT T b c).length≤8:=hfl
 obtain⟨G,hG,em⟩:=mustW_at hb 1001 (by omega)
 obtain⟨_,_,lb⟩:=touch_at (writtenL (fun i=> !rdB G i) l 0)
 have hbl:=writtenL_len (fun i=> !rdB G i) l 0
 obtain⟨ms2,em2,am2,hm2⟩:=mustW_T hb T ok hT 1001 (by omega)
 have es:ms2=ms:=asc_ext am2 am (fun y=>by rw[hm2,hm])
 subst es
 rw[em2] at em
 have hml:ms2.length≤24:=by
  rw[Option.some.inj em]
  omega
 refine⟨k1+k2+k3+3000,logOf (touch (writtenL (fun _=>true) l 0)) (firstT T b c) ms2,?_,fun k hk=>⟨?_,?_⟩⟩
 ·have:=List.length_filter_le (fun x=> !(!decide (x∈firstT T b c)&&decide (x∈ms2))) (touch (writtenL (fun _=>true) l 0))
  unfold logOf
  omega
 ·unfold impl_MustLog.f
  rw[taskI_at hb he _ (by omega)]
  simp only[Option.bind_some,if_true]
  rw[e1 _ (by omega),le_of_mono (fun k=>impl_MustWrite.mono l k) em2 (k':=k) (by omega),mayW_at hb k (by omega)]
  simp only[Option.bind_some]
  rw[if_pos ⟨by omega,by omega⟩]
  rfl
 ·unfold spec_MustLog.f spec_l08Ok.f
  rw[blockS_at l (by omega) _ (by omega),hb]
  simp only[Option.bind_some,if_true,exprS_eq,he]
  rw[mayS_at hb k (by omega),e3 k (by omega),e2 k (by omega)]
  simp only[Option.bind_some]
  rw[mlogS_l _ _ _ (by omega) (by omega) (by omega) (touch (writtenL (fun _=>true) l 0)).length k [] 0 (by omega) (by omega) (by simp) (by omega)]
  simp
theorem dirtyS_l (ws ms:List Int) (hw:ws.length≤1048576) (hm:ms.length≤1000) (d:Nat):∀(k:Nat) (acc:List Int) (i:Int),0≤i→i+(d:Int)=(ws.length:Int)→(acc.length:Int)≤i→d+2000<k→spec_DirtyVars.l0 k acc ws ms i=some (acc++(ws.drop i.toNat).filter fun x=> !decide (x∈ms)):=by
 induction d with
 |zero=>
  intro k acc i h0 hi ha hk
  obtain⟨k,rfl⟩:=succ_of (show 0<k by omega)
  rw[spec_DirtyVars.l0,if_neg (by omega),List.drop_eq_nil_of_le (by omega)]
  simp
 |succ d ih=>
  intro k acc i h0 hi ha hk
  obtain⟨k,rfl⟩:=succ_of (show 0<k by omega)
  rw[spec_DirtyVars.l0,if_pos (by omega),if_pos h0,hasVarS_at ms (by omega) _ k (by omega)]
  simp only[Option.bind_some]
  rw[w64 (by omega) (by omega),drop_rd h0 (by omega),List.filter_cons]
  by_cases c:rd ws i∈ms
  ·rw[if_pos (by simpa using c),ih k acc (i+1) (by omega) (by omega) (by omega) (by omega),if_neg (by simp[c])]
  ·rw[if_neg (by simpa using c),if_pos (by omega),ih k _ (i+1) (by omega) (by omega) (by rw[List.length_append,List.length_singleton];omega) (by omega),if_pos (by simp[c])]
   simp
theorem progOk_at {l:List S55} (h:progOk l=true) {i:Int} (h0:0≤i) (h1:i<(l.length:Int)):blockOk (rd_T55 l i).f0=true∧exprOk (rd_T55 l i).f1.f0 (rd_T55 l i).f1.f1 (rd_T55 l i).f1.f2=true:=by
 rw[progOk,Bool.and_eq_true] at h
 have hm:=getD_mem z55 h0 h1
 have:=List.all_eq_true.1 h.2 _ hm
 rw[taskOkB,Bool.and_eq_true] at this
 exact this
theorem dirty_both (l:List S55) (hl:l.length≤1048576) (hy:∀y∈l,y.f0.length≤1048576) (m:List Int) (hm:m.length≤1048576):∃(k0:Nat) (L:List Int),L.length≤24∧∀k,k0≤k→impl_DirtyVars.f k l m=some L∧spec_DirtyVars.f k l m=some L:=by
 by_cases ok:memOk l m=true
 ·have ok0:=ok
  unfold memOk at ok
  obtain⟨s,n,t,eu,hu⟩:=unpackI_all (rd m 8)
  rw[eu] at ok
  simp only[Bool.and_eq_true,decide_eq_true_eq] at ok
  obtain⟨hp,h49,hs,_⟩:=ok
  obtain⟨hb,he⟩:=progOk_at hp hs.1 hs.2
  obtain⟨k1,ms,hml,hk1⟩:=mustLog_both hb he
  obtain⟨_,_,_,h24,_⟩:=blockOk_tree hb
  obtain⟨_,_,la⟩:=touch_at (writtenL (fun _=>true) (rd_T55 l s).f0 0)
  have ha:=writtenL_len (fun _=>true) (rd_T55 l s).f0 0
  refine⟨k1+4000000,(touch (writtenL (fun _=>true) (rd_T55 l s).f0 0)).filter fun x=> !decide (x∈ms),?_,fun k hk=>⟨?_,?_⟩⟩
  ·have:=List.length_filter_le (fun x=> !decide (x∈ms)) (touch (writtenL (fun _=>true) (rd_T55 l s).f0 0))
   omega
  ·unfold impl_DirtyVars.f impl_currentTask.f
   rw[memOkI_at l hy m hm k (by omega),ok0]
   simp only[Option.bind_some,if_true]
   rw[if_pos (by omega),eu]
   simp only[Option.bind_some]
   rw[if_pos hs.1,if_pos hs.2]
   simp only[Option.bind_some]
   rw[(hk1 k (by omega)).1,mayW_at hb k (by omega)]
   simp only[Option.bind_some]
   rw[if_pos (by omega)]
  ·unfold spec_DirtyVars.f
   rw[memOkS_at l hl hy m hm k (by omega),ok0]
   simp only[Option.bind_some,if_true]
   rw[if_pos (by omega),unpack_eq _ k (by omega),eu]
   simp only[Option.bind_some]
   rw[if_pos hs.1,if_pos hs.2,mayS_at hb k (by omega)]
   simp only[Option.bind_some]
   rw[(hk1 k (by omega)).2]
   simp only[Option.bind_some]
   rw[dirtyS_l _ ms (by omega) (by omega) (touch (writtenL (fun _=>true) (rd_T55 l s).f0 0)).length k [] 0 (by omega) (by omega) (by simp) (by omega)]
   simp
 ·refine⟨4000000,[],by simp,fun k hk=>⟨?_,?_⟩⟩
  ·unfold impl_DirtyVars.f
   rw[memOkI_at l hy m hm k (by omega)]
   simp[ok]
  ·unfold spec_DirtyVars.f
   rw[memOkS_at l hl hy m hm k (by omega)]
   simp[ok]
theorem up_small:∀(m:Nat) (k:Int),0≤k→k+(m:Int)≤4611686018427387904→Sep.up m k=k+(m:Int)
 |0,k,_,_=>by simp[Sep.up]
 |m+1,k,h0,h1=>by
  rw[Sep.up,w64 (by omega) (by omega),up_small m (k+1) (by omega) (by omega)]
  omega
theorem markT_l:∀(l:List S55) (k:Int),(∀y∈l,y.f0.length≤1048576)→0≤k→k+(l.length:Int)*6291459≤4611686018427387904→k≤l.foldl markT k∧l.foldl markT k≤k+(l.length:Int)*6291459
 |[],k,_,_,_=>by simp
 |t::l,k,h,h0,h1=>by
  have ht:=h t (by simp)
  rw[List.length_cons] at h1
  have e:markT k t=k+((6*t.f0.length:Nat):Int)+3:=by
   unfold markT
   rw[up_small (6*t.f0.length) k h0 (by omega),up_small 3 _ (by omega) (by omega)]
   rfl
  rw[List.foldl_cons,List.length_cons]
  obtain⟨a,b⟩:=markT_l l (markT k t) (fun y hy=>h y (by simp[hy])) (by omega) (by omega)
  omega
theorem markP_at (l:List S55) (hl:l.length≤1048576) (h:∀y∈l,y.f0.length≤1048576):∃N:Int,laws_markProgram.f l 1=some N∧1≤N∧N≤7000000000000:=by
 obtain⟨a,b⟩:=markT_l l 1 h (by omega) (by omega)
 exact⟨l.foldl markT 1,rfl,a,by omega⟩
theorem FnExactDirtyVars:laws_FnExactDirtyVars.Pure:=by
 intro x m g g2
 by_cases hm:(m.length:Int) > 1048576
 ·refine⟨1,?_⟩
  unfold laws_FnExactDirtyVars.f
  rw[if_pos hm]
 obtain⟨k0,hk0,hP⟩:∃k0:Nat,2097161≤k0∧∃r,(∀k,k0≤k→laws_szProgram.f k x.f0 1048576=some r)∧(0≤r→(x.f0.map tsk).length≤1048576∧(∀y∈x.f0.map tsk,y.f0.length≤1048576)∧(∀k,2097160<k→laws_toProgram.f k x.f0=some (x.f0.map tsk))∧(∀k,2097160<k→laws_eqProgram.f k (x.f0.map tsk) (x.f0.map tsk)=some true)):=by
  obtain⟨r,e,q⟩:=program_or x g 2097161 (by omega)
  refine⟨2097161,by omega,r,fun k hk=> ?_,q⟩
  exact le_of_mono (fun k=>laws_szProgram.mono _ _ k) e hk
 obtain⟨r,e,q⟩:=hP
 by_cases hr:r<0
 ·obtain⟨K,hK⟩:∃K,k0≤K:=⟨k0,Nat.le_refl _⟩
  refine⟨K+1,?_⟩
  unfold laws_FnExactDirtyVars.f
  rw[if_neg hm,laws_FnExactDirtyVars.j0,e K hK]
  simp only[Option.bind_some]
  rw[if_pos hr]
 obtain⟨hl,hy,h1,h2⟩:=q (by omega)
 obtain⟨N,eN,n1,n2⟩:=markP_at (x.f0.map tsk) hl hy
 obtain⟨k1,L,hL,hk1⟩:=dirty_both (x.f0.map tsk) hl hy m (by omega)
 generalize x.f0.map tsk=l at*
 obtain⟨K,hKa,hKb,hKc⟩:∃K:Nat,k0≤K∧k1≤K∧4000000≤K:=⟨k0+k1+4000000,by omega,by omega,by omega⟩
 have toI:∀k,K≤k→laws_toIntS.f k m=some m:=fun k hk=>toIntS_at m (by omega) k (by omega)
 have eqM:∀k,K≤k→laws_eqIntS.f k m m=some true:=fun k hk=>eqIntS_same m (by omega) k (by omega)
 have eqL:∀k,K≤k→laws_eqIntS.f k L L=some true:=fun k hk=>eqIntS_same L (by omega) k (by omega)
 have mkM:∀k,K≤k→laws_markIntS.f k m N=some (N+(m.length:Int),marks N m.length):=fun k hk=>markIntS_at m N k (by omega) (by omega) (by omega) (by omega)
 have mkL:∀k,K≤k→laws_markIntS.f k L 1=some (1+(L.length:Int),marks 1 L.length):=fun k hk=>markIntS_at L 1 k (by omega) (by omega) (by omega) (by omega)
 have hdL:∀k,K≤k→laws_heldIntS.f k (marks 1 L.length) 1=some (1+(L.length:Int)):=fun k hk=>heldIntS_at 1 L.length k (by omega) (by omega) (by omega) (by omega)
 have toP:∀k,K≤k→laws_toProgram.f k x.f0=some l:=fun k hk=>h1 k (by omega)
 have eqP:∀k,K≤k→laws_eqProgram.f k l l=some true:=fun k hk=>h2 k (by omega)
 have dI:∀k,K≤k→impl_DirtyVars.f k l m=some L:=fun k hk=>(hk1 k (by omega)).1
 have dS:∀k,K≤k→spec_DirtyVars.f k l m=some L:=fun k hk=>(hk1 k (by omega)).2
 have sz:∀k,K≤k→laws_szProgram.f k x.f0 1048576=some r:=fun k hk=>e k (by omega)
 refine⟨K+1+1+1+1+1+1+1+1+1+1,?_⟩
 unfold laws_FnExactDirtyVars.f
 rw[if_neg hm,laws_FnExactDirtyVars.j0,sz _ (by omega)]
 simp only[Option.bind_some]
 rw[if_neg hr,laws_FnExactDirtyVars.j1,toP _ (by omega),toI _ (by omega)]
 simp only[Option.bind_some]
 rw[dS _ (by omega),dI _ (by omega)]
 simp only[Option.bind_some]
 rw[eqL _ (by omega)]
 simp only[Option.bind_some,if_true]
 rw[laws_FnExactDirtyVars.j2,toP _ (by omega)]
 simp only[Option.bind_some]
 rw[eqP _ (by omega)]
 simp only[Option.bind_some,if_true]
 rw[laws_FnExactDirtyVars.j3,toI _ (by omega)]
 simp only[Option.bind_some]
 rw[eqM _ (by omega)]
 simp only[Option.bind_some,if_true]
 rw[laws_FnExactDirtyVars.j4,eN]
 simp only[Option.bind_some]
 rw[mkM _ (by omega)]
 simp only[Option.bind_some]
 rw[if_neg (by omega),eqL _ (by omega)]
 simp only[Option.bind_some,Bool.not_true]
 rw[laws_FnExactDirtyVars.j5,if_neg (by simp),laws_FnExactDirtyVars.j6,mkL _ (by omega)]
 simp only[Option.bind_some]
 rw[hdL _ (by omega)]
 simp only[Option.bind_some]
 rw[if_neg (by omega),laws_FnExactDirtyVars.j7,if_pos rfl,laws_FnExactDirtyVars.j8,toP _ (by omega),toI _ (by omega)]
 simp only[Option.bind_some]
 rw[dI _ (by omega)]
 simp only[Option.bind_some]
 rw[eqL _ (by omega)]
 simp only[Option.bind_some,if_true]
 rw[laws_FnExactDirtyVars.j9,hdL _ (by omega)]
 simp only[Option.bind_some]
 rw[if_neg (by omega)]
 simp
end Go.Proofs.YtccjlmpeogifkaaGreat.Pure
