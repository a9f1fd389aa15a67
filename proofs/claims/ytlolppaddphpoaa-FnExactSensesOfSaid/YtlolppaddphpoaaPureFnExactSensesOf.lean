/- The law FnExactSensesOf: for every input the function answers true. No condition. -/
import Derived.Test.YtlolppaddphpoaaGx11
namespace Go.Proofs.Ytlolppaddphpoaa.Pure
open Go.RowKit Go.Proofs.Ytlolppaddphpoaa.G Go.Proofs.YtlolppaddphpoaaW.PrintWords Go.Proofs.YtlolppaddphpoaaW.PrintLast
set_option linter.unusedVariables false
set_option linter.unusedSimpArgs false
theorem w64 {x:Int} (h: -9223372036854775808≤x) (h2:x≤9223372036854775807):wrap64 x=x:=by
 unfold wrap64
 omega
theorem succ_of {k d:Nat} (h:d<k):∃m,k=m+1:=⟨k - 1,by omega⟩
theorem rd_eq {l:List Int} {i:Int} (h0:0≤i) (h:i<(l.length:Int)):l[i.toNat]? =some (rd l i):=by
 unfold rd
 rw[List.getD_eq_getElem?_getD,List.getElem?_eq_getElem (by omega)]
 rfl
theorem drop_rd {l:List Int} {i:Int} (h0:0≤i) (h:i<(l.length:Int)):l.drop i.toNat=rd l i::l.drop (i+1).toNat:=by
 have h1:i.toNat<l.length:=by omega
 have h2:(i+1).toNat=i.toNat+1:=by omega
 have h3:=rd_eq h0 h
 rw[h2,List.drop_eq_getElem_cons h1]
 rw[List.getElem?_eq_getElem h1] at h3
 rw[Option.some.inj h3]
def marks (a:Int) (n:Nat):List Int:=(List.range n).map fun j:Nat=>a+(j:Int)
theorem marks_len (a:Int) (n:Nat):(marks a n).length=n:=by simp[marks]
theorem getD_rd {α:Type} (z:α) {l:List α} {i:Int} (h0:0≤i) (h:i<(l.length:Int)):l[i.toNat]? =some (l.getD i.toNat z):=by
 rw[List.getD_eq_getElem?_getD,List.getElem?_eq_getElem (by omega)]
 rfl
theorem drop_getD {α:Type} (z:α) {l:List α} {i:Int} (h0:0≤i) (h:i<(l.length:Int)):l.drop i.toNat=l.getD i.toNat z::l.drop (i+1).toNat:=by
 have h1:i.toNat<l.length:=by omega
 have h2:(i+1).toNat=i.toNat+1:=by omega
 have h3:=getD_rd z h0 h
 rw[h2,List.drop_eq_getElem_cons h1]
 rw[List.getElem?_eq_getElem h1] at h3
 rw[Option.some.inj h3]
theorem getD_mem {α:Type} (z:α) {l:List α} {i:Int} (h0:0≤i) (h:i<(l.length:Int)):l.getD i.toNat z∈l:=List.mem_of_getElem? (getD_rd z h0 h)
theorem marks_succ (a:Int) (n:Nat):marks a (n+1)=a::marks (a+1) n:=by
 simp only[marks,List.range_succ_eq_map,List.map_cons,List.map_map]
 congr 1
 ·simp
 ·apply List.map_congr_left
  intro j _
  simp only[Function.comp]
  omega
theorem take_set_next (x:List Int) (n:Nat) (a:Int) (h:n<x.length):(x.set n a).take (n+1)=x.take n++[a]:=by
 have e:(x.set n a).take n=x.take n:=by
  apply List.ext_getElem?
  intro j
  simp only[List.getElem?_take]
  split
  ·rw[List.getElem?_set_ne (by omega)]
  ·rfl
 rw[List.take_succ_eq_append_getElem (by simpa using h),e]
 simp
theorem toIntS_l (l:List Int) (hl:l.length≤35184372088832) (d:Nat):∀(k:Nat) (x:List Int) (i:Int),0≤i→x.length=l.length→i+(d:Int)=(l.length:Int)→(∀j:Nat,(j:Int)<i→x[j]? =l[j]?)→d<k→
  laws_toIntS.l0 k l x i=some l:=by
 induction d with
 |zero=>
  intro k x i h0 hx hi hj hk
  obtain⟨k,rfl⟩:=succ_of hk
  simp only[laws_toIntS.l0]
  rw[if_neg (by omega)]
  congr 1
  apply List.ext_getElem?
  intro j
  by_cases h:(j:Int)<i
  ·exact hj j h
  ·rw[List.getElem?_eq_none (by omega),List.getElem?_eq_none (by omega)]
 |succ d ih=>
  intro k x i h0 hx hi hj hk
  obtain⟨k,rfl⟩:=succ_of hk
  simp only[laws_toIntS.l0]
  rw[if_pos (by omega),if_pos h0,if_pos (by omega),w64 (by omega) (by omega)]
  refine ih k _ (i+1) (by omega) (by simpa using hx) (by omega) (fun j h=> ?_) (by omega)
  rw[List.getElem?_set]
  by_cases e:i.toNat=j
  ·subst e
   rw[if_pos rfl,if_pos (by omega),rd_eq h0 (by omega)]
  ·rw[if_neg e]
   exact hj j (by omega)
theorem toIntS_at (l:List Int) (hl:l.length≤35184372088832) (k:Nat) (hk:l.length<k):laws_toIntS.f k l=some l:=by
 unfold laws_toIntS.f
 rw[if_pos (by omega),if_pos (by omega)]
 exact toIntS_l l hl l.length k _ 0 (by omega) (by simp) (by omega) (fun j h=>by omega) hk
theorem eqIntS_l (a b:List Int) (hl:a.length=b.length) (hb:a.length≤35184372088832) (d:Nat):∀(k:Nat) (i:Int),0≤i→i+(d:Int)=(a.length:Int)→d<k→
  laws_eqIntS.l0 k a b i=some (decide (a.drop i.toNat=b.drop i.toNat)):=by
 induction d with
 |zero=>
  intro k i h0 hi hk
  obtain⟨k,rfl⟩:=succ_of hk
  simp only[laws_eqIntS.l0]
  rw[if_neg (by omega),List.drop_eq_nil_of_le (by omega),List.drop_eq_nil_of_le (by omega)]
  simp
 |succ d ih=>
  intro k i h0 hi hk
  obtain⟨k,rfl⟩:=succ_of hk
  simp only[laws_eqIntS.l0]
  rw[if_pos (by omega),if_pos h0,if_pos (by omega),w64 (by omega) (by omega),drop_rd h0 (by omega),drop_rd h0 (by omega),ih k (i+1) (by omega) (by omega) (by omega)]
  by_cases e:rd a i=rd b i
  ·rw[if_pos e]
   simp[e]
  ·rw[if_neg e]
   simp[e]
theorem eqIntS_at (a b:List Int) (hb:a.length≤35184372088832) (k:Nat) (hk:a.length<k):laws_eqIntS.f k a b=some (decide (a=b)):=by
 unfold laws_eqIntS.f
 by_cases hl:a.length=b.length
 ·rw[if_pos (by omega),eqIntS_l a b hl hb a.length k 0 (by omega) (by omega) hk]
  simp
 ·rw[if_neg (by omega)]
  have:a≠b:=fun e=>hl (by rw[e])
  simp[this]
theorem eqIntS_same (a:List Int) (hb:a.length≤35184372088832) (k:Nat) (hk:a.length<k):laws_eqIntS.f k a a=some true:=by
 rw[eqIntS_at a a hb k hk]
 simp
theorem markIntS_l (d:Nat):∀(k:Nat) (x:List Int) (a i:Int),x.length≤35184372088832→0≤i→i+(d:Int)=(x.length:Int)→0≤a→a+(d:Int)≤4611686018427387904→d<k→
  laws_markIntS.l0 k x a i=some (a+(d:Int),x.take i.toNat++marks a d):=by
 induction d with
 |zero=>
  intro k x a i hx h0 hi ha hb hk
  obtain⟨k,rfl⟩:=succ_of hk
  simp only[laws_markIntS.l0]
  rw[if_neg (by omega),List.take_of_length_le (by omega)]
  simp[marks]
 |succ d ih=>
  intro k x a i hx h0 hi ha hb hk
  obtain⟨k,rfl⟩:=succ_of hk
  simp only[laws_markIntS.l0]
  rw[if_pos (by omega),if_pos h0,w64 (by omega) (by omega),w64 (by omega) (by omega)]
  rw[ih k _ (a+1) (i+1) (by simpa using hx) (by omega) (by rw[List.length_set];omega) (by omega) (by omega) (by omega)]
  have h2:(i+1).toNat=i.toNat+1:=by omega
  rw[h2,take_set_next x i.toNat a (by omega),marks_succ]
  simp
  omega
theorem markIntS_at (x:List Int) (a:Int) (k:Nat) (hx:x.length≤35184372088832) (ha:0≤a) (hb:a+(x.length:Int)≤4611686018427387904) (hk:x.length<k):
  laws_markIntS.f k x a=some (a+(x.length:Int),marks a x.length):=by
 unfold laws_markIntS.f
 rw[markIntS_l x.length k x a 0 hx (by omega) (by omega) ha hb hk]
 simp
theorem heldIntS_l (d:Nat):∀(k:Nat) (x:List Int) (a i:Int),x.length≤35184372088832→0≤i→i+(d:Int)=(x.length:Int)→0≤a→a+(d:Int)≤4611686018427387904→x.drop i.toNat=marks a d→d<k→
  laws_heldIntS.l0 k x a i=some (a+(d:Int)):=by
 induction d with
 |zero=>
  intro k x a i hx h0 hi ha hb hm hk
  obtain⟨k,rfl⟩:=succ_of hk
  simp only[laws_heldIntS.l0]
  rw[if_neg (by omega)]
  simp
 |succ d ih=>
  intro k x a i hx h0 hi ha hb hm hk
  obtain⟨k,rfl⟩:=succ_of hk
  simp only[laws_heldIntS.l0]
  rw[drop_rd h0 (by omega),marks_succ] at hm
  injection hm with h1 h2
  rw[if_pos (by omega),if_pos h0,if_pos h1,w64 (by omega) (by omega),w64 (by omega) (by omega)]
  rw[ih k x (a+1) (i+1) hx (by omega) (by omega) (by omega) (by omega) h2 (by omega)]
  congr 1
  omega
theorem heldIntS_at (a:Int) (n k:Nat) (hn:n≤35184372088832) (ha:0≤a) (hb:a+(n:Int)≤4611686018427387904) (hk:n<k):
  laws_heldIntS.f k (marks a n) a=some (a+(n:Int)):=by
 unfold laws_heldIntS.f
 exact heldIntS_l n k (marks a n) a 0 (by rw[marks_len];exact hn) (by omega) (by rw[marks_len];omega) ha hb (by simp) hk
theorem l01In_eq (a b c:Int):spec_l01In.f a b c=some (decide (b≤a∧a≤c)):=by
 unfold spec_l01In.f
 by_cases h:b≤a<;>simp[h]
theorem tmod_in {a n:Int} (ha:0≤a) (hn:0<n):0≤Int.tmod a n∧Int.tmod a n<n:=by
 rw[Int.tmod_eq_emod_of_nonneg ha]
 exact⟨Int.emod_nonneg _ (by omega),Int.emod_lt_of_pos _ hn⟩
theorem within_eq (a b c:Int):impl_within.f a b c=some (decide (b≤a∧a≤c)):=by
 unfold impl_within.f
 by_cases h:b≤a<;>simp[h]
def exprOk (a b c:Int):Bool:=decide ((1≤a∧a≤7)∧(-8≤b∧b≤999)∧ -8≤c∧c≤999)
def stmtOk (a b c d e f:Int):Bool:=
 if a=1 then decide ((0≤b∧b≤7)∧c=0)&&exprOk d e f
 else if a=2 then decide ((0≤b∧b≤7)∧(0≤c∧c≤3)∧d=0∧e=0∧f=0)
 else if a=3∨a=4 then decide (b=0∧c=0)&&exprOk d e f
 else if a=5 then decide (b=0∧(1≤c∧c≤5)∧d=0∧e=0∧f=0)
 else if a=6 then decide (b=0∧c=0∧d=0∧e=0∧f=0) else false
theorem operandS_eq (x:Int):spec_OperandOk.f x=some (decide (-8≤x∧x≤999)):=by unfold spec_OperandOk.f;rw[l01In_eq];rfl
theorem exprS_eq (a b c:Int):spec_ExprOk.f a b c=some (exprOk a b c):=by
 unfold spec_ExprOk.f exprOk
 rw[l01In_eq,operandS_eq,operandS_eq]
 by_cases h1:1≤a∧a≤7<;>by_cases h2: -8≤b∧b≤999<;>simp[h1,h2]
theorem stmtS_eq (a b c d e f:Int) (k:Nat) (hk:3<k):spec_StmtOk.f k a b c d e f=some (stmtOk a b c d e f):=by
 obtain⟨k,rfl⟩:∃m,k=m+4:=⟨k - 4,by omega⟩
 unfold spec_StmtOk.f spec_l04Plain.f stmtOk
 simp only[spec_l04Plain.j0,spec_StmtOk.j0,l01In_eq,exprS_eq,Option.bind_some]
 by_cases h1:a=1
 ·subst h1
  by_cases h:c=0<;>by_cases g:0≤b∧b≤7<;>simp[h,g]
 by_cases h2:a=2
 ·subst h2
  by_cases h:d=0<;>by_cases h':e=0<;>by_cases h'':f=0<;>by_cases g:0≤b∧b≤7<;>simp[h,h',h'',g]
 by_cases h3:a=3
 ·subst h3
  by_cases h:b=0<;>by_cases h':c=0<;>simp[h,h']
 by_cases h4:a=4
 ·subst h4
  by_cases h:b=0<;>by_cases h':c=0<;>simp[h,h']
 by_cases h5:a=5
 ·subst h5
  by_cases h:b=0<;>by_cases h':d=0<;>by_cases h'':e=0<;>by_cases g:f=0<;>simp[h,h',h'',g]
 by_cases h6:a=6
 ·subst h6
  by_cases h:b=0<;>by_cases h':d=0<;>by_cases h'':e=0<;>by_cases g:f=0<;>by_cases g':c=0<;>simp[h,h',h'',g,g']
 ·simp[h1,h2,h3,h4,h5,h6]
theorem operandI_eq (x:Int):impl_OperandOk.f x=some (decide (-8≤x∧x≤999)):=by unfold impl_OperandOk.f;rw[within_eq];rfl
theorem exprI_eq (a b c:Int):impl_ExprOk.f a b c=some (exprOk a b c):=by
 unfold impl_ExprOk.f exprOk
 rw[within_eq,operandI_eq,operandI_eq]
 by_cases h1:1≤a∧a≤7<;>by_cases h2: -8≤b∧b≤999<;>simp[h1,h2]
theorem stmtI_eq (a b c d e f:Int) (k:Nat) (hk:3<k):impl_StmtOk.f k a b c d e f=some (stmtOk a b c d e f):=by
 obtain⟨k,rfl⟩:∃m,k=m+4:=⟨k - 4,by omega⟩
 unfold impl_StmtOk.f impl_hasVar.f impl_isVar.f stmtOk
 simp only[impl_StmtOk.j0,impl_StmtOk.j1,impl_hasExpr.f,impl_isSensor.f,within_eq,exprI_eq,Option.bind_some]
 by_cases h1:a=1
 ·subst h1
  by_cases h:c=0<;>by_cases g:0≤b∧b≤7<;>cases exprOk d e f<;>simp[h,g]
 by_cases h2:a=2
 ·subst h2
  by_cases h:d=0<;>by_cases h':e=0<;>by_cases h'':f=0<;>by_cases g:0≤b∧b≤7<;>simp[h,h',h'',g]
 by_cases h3:a=3
 ·subst h3
  by_cases h:b=0<;>by_cases h':c=0<;>cases exprOk d e f<;>simp[h,h']
 by_cases h4:a=4
 ·subst h4
  by_cases h:b=0<;>by_cases h':c=0<;>cases exprOk d e f<;>simp[h,h']
 by_cases h5:a=5
 ·subst h5
  by_cases h:b=0<;>by_cases h':d=0<;>by_cases h'':e=0<;>by_cases g:f=0<;>simp[h,h',h'',g]
 by_cases h6:a=6
 ·subst h6
  by_cases h:b=0<;>by_cases h':d=0<;>by_cases h'':e=0<;>by_cases g:f=0<;>by_cases g':c=0<;>simp[h,h',h'',g,g']
 ·have n:¬(1≤a∧a≤6):=by omega
  simp[h1,h2,h3,h4,h5,h6,n]
def stOk (s:S80):Bool:=stmtOk s.f0 s.f1 s.f2 s.f3.f0 s.f3.f1 s.f3.f2
inductive Bk where
 |nil:Bk
 |leaf (s:S80) (t:Bk):Bk
 |node (s:S80) (b:Bk) (e:S80) (t:Bk):Bk
def Bk.flat:Bk→List S80
 | .nil=>[]
 | .leaf s t=>s::t.flat
 | .node s b e t=>s::(b.flat++e::t.flat)
def Bk.ok:Bk→Prop
 | .nil=>True
 | .leaf s t=>s.f0≠4∧s.f0≠5∧s.f0≠6∧t.ok
 | .node s b e t=>(s.f0=4∨s.f0=5)∧b.ok∧e.f0=6∧t.ok
def dNext (s:S80) (d:Int):Int:=if s.f0=4∨s.f0=5 then d+1 else if s.f0=6 then d - 1 else d
def blkOk:List S80→Int→Bool
 |[],d=>decide (d=0)
 |s::t,d=>stOk s&&(decide (0≤dNext s d∧dNext s d≤3)&&blkOk t (dNext s d))
def blockOk (l:List S80):Bool:=blkOk l 0&&decide ((l.length:Int)≤24)
theorem blkOk_cons {s:S80} {t:List S80} {d:Int}:blkOk (s::t) d=true↔stOk s=true∧(0≤dNext s d∧dNext s d≤3)∧blkOk t (dNext s d)=true:=by
 rw[blkOk,Bool.and_eq_true,Bool.and_eq_true,decide_eq_true_eq]
theorem blkOk_all:∀(l:List S80) (d:Int),blkOk l d=true→∀s∈l,stOk s=true
 |[],d,h,s,hs=>by simp at hs
 |x::t,d,h,s,hs=>by
  obtain⟨h1,h2,h3⟩:=blkOk_cons.1 h
  rcases List.mem_cons.1 hs with rfl|hs
  ·exact h1
  ·exact blkOk_all t _ h3 s hs
theorem parse (n:Nat):∀(l:List S80) (d:Int),l.length≤n→0≤d→blkOk l d=true→
  (d=0→∃T:Bk,T.ok∧T.flat=l)∧(0<d→∃(T:Bk) (e:S80) (r:List S80),T.ok∧e.f0=6∧l=T.flat++e::r∧blkOk r (d - 1)=true):=by
 induction n with
 |zero=>
  intro l d hl hd h
  have:l=[]:=List.eq_nil_of_length_eq_zero (by omega)
  subst this
  simp only[blkOk,decide_eq_true_eq] at h
  exact⟨fun _=>⟨.nil,trivial,rfl⟩,fun h2=>absurd h (by omega)⟩
 |succ n ih=>
  intro l d hl hd h
  cases l with
  |nil=>
   simp only[blkOk,decide_eq_true_eq] at h
   exact⟨fun _=>⟨.nil,trivial,rfl⟩,fun h2=>absurd h (by omega)⟩
  |cons s t=>
   obtain⟨h1,h2,h3⟩:=blkOk_cons.1 h
   simp only[List.length_cons] at hl
   by_cases o:s.f0=4∨s.f0=5
   ·have e:dNext s d=d+1:=by rw[dNext,if_pos o]
    rw[e] at h2 h3
    obtain⟨T1,c,r,k1,k2,k3,k4⟩:=(ih t (d+1) (by omega) (by omega) h3).2 (by omega)
    rw[Int.add_sub_cancel] at k4
    have hr:r.length≤n:=by
     have:=congrArg List.length k3
     simp only[List.length_append,List.length_cons] at this
     omega
    obtain⟨q1,q2⟩:=ih r d hr hd k4
    constructor
    ·intro d0
     obtain⟨T2,m1,m2⟩:=q1 d0
     exact⟨.node s T1 c T2,⟨o,k1,k2,m1⟩,by rw[Bk.flat,m2,k3]⟩
    ·intro d0
     obtain⟨T2,c2,r2,m1,m2,m3,m4⟩:=q2 d0
     exact⟨.node s T1 c T2,c2,r2,⟨o,k1,k2,m1⟩,m2,by rw[Bk.flat,k3,m3];simp,m4⟩
   ·by_cases c:s.f0=6
    ·have e:dNext s d=d - 1:=by rw[dNext,if_neg o,if_pos c]
     rw[e] at h2 h3
     exact⟨fun d0=>absurd h2 (by omega),fun _=>⟨.nil,s,t,trivial,c,rfl,h3⟩⟩
    ·have e:dNext s d=d:=by rw[dNext,if_neg o,if_neg c]
     rw[e] at h2 h3
     obtain⟨q1,q2⟩:=ih t d (by omega) hd h3
     constructor
     ·intro d0
      obtain⟨T2,m1,m2⟩:=q1 d0
      exact⟨.leaf s T2,⟨fun h=>o (.inl h),fun h=>o (.inr h),c,m1⟩,by rw[Bk.flat,m2]⟩
     ·intro d0
      obtain⟨T2,c2,r2,m1,m2,m3,m4⟩:=q2 d0
      exact⟨.leaf s T2,c2,r2,⟨fun h=>o (.inl h),fun h=>o (.inr h),c,m1⟩,m2,by rw[Bk.flat,m3];rfl,m4⟩
theorem blockOk_tree {l:List S80} (h:blockOk l=true):∃T:Bk,T.ok∧T.flat=l∧l.length≤24∧∀s∈l,stOk s=true:=by
 rw[blockOk,Bool.and_eq_true,decide_eq_true_eq] at h
 obtain⟨T,h1,h2⟩:=(parse l.length l 0 (by omega) (by omega) h.1).1 rfl
 exact⟨T,h1,h2,by omega,blkOk_all l 0 h.1⟩
theorem at_mid (pre post:List S80) (s:S80) {i:Int} (hi:i=(pre.length:Int)):rd_T80 (pre++s::post) i=s:=by
 unfold rd_T80
 rw[hi,Int.toNat_natCast,List.getD_eq_getElem?_getD,List.getElem?_append_right (by omega),Nat.sub_self]
 rfl
theorem opening_eq (x:Int):impl_isOpening.f x=some (decide (x=4∨x=5)):=by
 unfold impl_isOpening.f
 by_cases h:x=4
 ·simp[h]
 ·by_cases h2:x=5<;>simp[h,h2]
theorem blockI_l (l:List S80) (hl:l.length≤1048576) (n:Nat):∀(k:Nat) (d i:Int),0≤d→d≤3→0≤i→i+(n:Int)=(l.length:Int)→2*n+5<k→
  impl_BlockOk.l0 k l d l (l.length:Int) i=some (blkOk (l.drop i.toNat) d&&decide ((l.length:Int)≤24)):=by
 induction n with
 |zero=>
  intro k d i hd hd3 h0 hi hk
  obtain⟨k,rfl⟩:=succ_of hk
  simp only[impl_BlockOk.l0]
  rw[if_neg (by omega),List.drop_eq_nil_of_le (by omega),blkOk]
  by_cases h:d=0<;>simp[h]
 |succ n ih=>
  intro k d i hd hd3 h0 hi hk
  obtain⟨k,rfl⟩:=succ_of hk
  obtain⟨k,rfl⟩:=succ_of (d:=4) (by omega:4<k)
  rw[impl_BlockOk.l0,if_pos (by omega),if_pos h0,if_pos (by omega),stmtI_eq _ _ _ _ _ _ _ (by omega),opening_eq,drop_getD z80 h0 (by omega)]
  change (Option.bind (some (stOk (rd_T80 l i))) _)=some (blkOk (rd_T80 l i::_) d&&_)
  generalize rd_T80 l i=s
  rw[blkOk]
  by_cases h1:stOk s=true
  ·simp only[h1,Option.bind_some,if_true,Bool.true_and,impl_BlockOk.j1,w64 (x:=i+1) (by omega) (by omega),w64 (x:=d+1) (by omega) (by omega),w64 (x:=d+1 - 1) (by omega) (by omega),w64 (x:=d - 1) (by omega) (by omega),decide_eq_true_eq]
   have go:=fun (x:Int) (a:0≤x) (b:x≤3)=>ih k x (i+1) a b (by omega) (by omega) (by omega)
   unfold dNext
   by_cases o:s.f0=4∨s.f0=5
   ·have n6:¬s.f0=6:=by omega
    rw[if_pos o,if_neg n6,if_pos o,if_neg (by omega)]
    by_cases g:d+1 > 3
    ·rw[if_pos g]
     simp
     omega
    ·rw[if_neg g,go _ (by omega) (by omega)]
     have:0≤d+1∧d+1≤3:=by omega
     simp[this]
   ·rw[if_neg o,if_neg o]
    by_cases n6:s.f0=6
    ·rw[if_pos n6,if_pos n6]
     by_cases g:d - 1<0
     ·rw[if_pos g]
      simp
      omega
     ·rw[if_neg g,if_neg (by omega),go _ (by omega) (by omega)]
      have:0≤d - 1∧d - 1≤3:=by omega
      have g1:1≤d:=by omega
      simp[this,g1]
    ·rw[if_neg n6,if_neg n6,if_neg (by omega),if_neg (by omega),go _ hd hd3]
     simp[hd,hd3]
  ·simp[h1]
theorem blockI_at (l:List S80) (hl:l.length≤1048576) (k:Nat) (hk:2*l.length+5<k):impl_BlockOk.f k l=some (blockOk l):=by
 unfold impl_BlockOk.f blockOk
 rw[blockI_l l hl l.length k 0 0 (by omega) (by omega) (by omega) (by omega) hk]
 simp
theorem blockS_l (l:List S80) (hl:l.length≤1048576) (n:Nat):∀(k:Nat) (d i:Int),0≤d→d≤3→0≤i→i+(n:Int)=(l.length:Int)→2*n+5<k→
  spec_BlockOk.l0 k l d i=some (blkOk (l.drop i.toNat) d&&decide ((l.length:Int)≤24)):=by
 induction n with
 |zero=>
  intro k d i hd hd3 h0 hi hk
  obtain⟨k,rfl⟩:=succ_of hk
  simp only[spec_BlockOk.l0]
  rw[if_neg (by omega),List.drop_eq_nil_of_le (by omega),blkOk]
  by_cases h:d=0<;>simp[h]
 |succ n ih=>
  intro k d i hd hd3 h0 hi hk
  obtain⟨k,rfl⟩:=succ_of hk
  obtain⟨k,rfl⟩:=succ_of (d:=4) (by omega:4<k)
  rw[spec_BlockOk.l0,if_pos (by omega),if_pos h0,stmtS_eq _ _ _ _ _ _ _ (by omega),drop_getD z80 h0 (by omega)]
  change (Option.bind (some (stOk (rd_T80 l i))) _)=some (blkOk (rd_T80 l i::_) d&&_)
  generalize rd_T80 l i=s
  rw[blkOk]
  by_cases h1:stOk s=true
  ·simp only[h1,Option.bind_some,if_true,Bool.true_and,spec_BlockOk.j1,l01In_eq,w64 (x:=i+1) (by omega) (by omega),w64 (x:=d+1) (by omega) (by omega),w64 (x:=d - 1) (by omega) (by omega),decide_eq_true_eq]
   have go:=fun (x:Int) (a:0≤x) (b:x≤3)=>ih k x (i+1) a b (by omega) (by omega) (by omega)
   unfold dNext
   by_cases o:s.f0=4∨s.f0=5
   ·rw[if_pos o]
    by_cases g:0≤d+1∧d+1≤3
    ·rw[go _ g.1 g.2]
     rcases o with o|o<;>simp[o,g]
    ·rcases o with o|o<;>simp[o,g]
   ·rw[if_neg o]
    have n4:¬s.f0=4:=fun h=>o (.inl h)
    have n5:¬s.f0=5:=fun h=>o (.inr h)
    by_cases n6:s.f0=6
    ·by_cases g:0≤d - 1∧d - 1≤3
     ·rw[go _ g.1 g.2]
      have g1:1≤d:=by omega
      simp[n6,g,g1]
     ·obtain rfl:d=0:=by omega
      simp[n6]
    ·rw[go _ hd hd3]
     simp[n4,n5,n6,hd,hd3]
  ·simp[h1]
theorem blockS_at (l:List S80) (hl:l.length≤1048576) (k:Nat) (hk:2*l.length+5<k):spec_BlockOk.f k l=some (blockOk l):=by
 unfold spec_BlockOk.f blockOk
 rw[blockS_l l hl l.length k 0 0 (by omega) (by omega) (by omega) (by omega) hk]
 simp
theorem l05Opens_eq (a b c d e f:Int):spec_l05Opens.f a b c d e f=some (decide (a=4∨a=5)):=by
 unfold spec_l05Opens.f
 by_cases h:a=4
 ·simp[h]
 ·by_cases h2:a=5<;>simp[h,h2]
theorem endS_l:∀(T:Bk),T.ok→∀(k:Nat) (pre post:List S80) (x i:Int),i=(pre.length:Int)→(pre++(T.flat++post)).length≤1048576→1≤x→x+(T.flat.length:Int)≤4000000→2*T.flat.length<k→
  spec_l05End.l0 k (pre++(T.flat++post)) x i=spec_l05End.l0 (k - 2*T.flat.length) (pre++(T.flat++post)) x (i+(T.flat.length:Int))
 | .nil,_,k,pre,post,x,i,hi,hl,hx,hx2,hk=>by
  simp[Bk.flat]
 | .leaf s t,ok,k,pre,post,x,i,hi,hl,hx,hx2,hk=>by
  simp only[Bk.flat,List.length_cons,List.length_append,List.cons_append] at hk hl hx2 ⊢
  obtain⟨k,rfl⟩:=succ_of (d:=1) (by omega:1<k)
  obtain⟨k,rfl⟩:=succ_of (d:=0) (by omega:0<k)
  have e:=at_mid pre (t.flat++post) s hi
  rw[spec_l05End.l0,if_pos (by simp only[List.length_append,List.length_cons];omega),if_pos (by omega),e,l05Opens_eq]
  have n4:¬(s.f0=4∨s.f0=5):=fun h=>h.elim ok.1 ok.2.1
  simp only[Option.bind_some,decide_eq_true_eq]
  rw[if_neg n4,spec_l05End.j1,if_pos (by omega),if_pos (by simp only[List.length_append,List.length_cons];omega),e,if_neg ok.2.2.1,w64 (by omega) (by omega)]
  have r:=endS_l t ok.2.2.2 k (pre++[s]) post x (i+1) (by simp only[List.length_append,List.length_cons,List.length_nil];omega) (by simp only[List.length_append,List.length_cons,List.length_nil];omega) hx (by omega) (by omega)
  simp only[List.append_assoc,List.singleton_append] at r
  rw[r]
  congr 1
  ·omega
  ·omega
 | .node s b c t,ok,k,pre,post,x,i,hi,hl,hx,hx2,hk=>by
  obtain⟨o,ob,oc,ot⟩:=ok
  simp only[Bk.flat,List.length_cons,List.length_append,List.cons_append,List.append_assoc] at hk hl hx2 ⊢
  obtain⟨k,rfl⟩:=succ_of (d:=1) (by omega:1<k)
  obtain⟨k,rfl⟩:=succ_of (d:=0) (by omega:0<k)
  have e:=at_mid pre (b.flat++c::(t.flat++post)) s hi
  rw[spec_l05End.l0,if_pos (by simp only[List.length_append,List.length_cons];omega),if_pos (by omega),e,l05Opens_eq]
  simp only[Option.bind_some,decide_eq_true_eq]
  rw[if_pos o,spec_l05End.j1,if_pos (by omega),if_pos (by simp only[List.length_append,List.length_cons];omega),e,if_neg (by omega),w64 (x:=i+1) (by omega) (by omega),w64 (x:=x+1) (by omega) (by omega)]
  have r:=endS_l b ob k (pre++[s]) (c::(t.flat++post)) (x+1) (i+1) (by simp only[List.length_append,List.length_cons,List.length_nil];omega) (by simp only[List.length_append,List.length_cons,List.length_nil];omega) (by omega) (by omega) (by omega)
  simp only[List.append_assoc,List.singleton_append] at r
  rw[r]
  obtain⟨m,em⟩:=succ_of (d:=1) (by omega:1<k - 2*b.flat.length)
  rw[em]
  obtain⟨m,rfl⟩:=succ_of (d:=0) (by omega:0<m)
  have e2:rd_T80 (pre++s::(b.flat++c::(t.flat++post))) (i+1+(b.flat.length:Int))=c:=by
   have:=at_mid (pre++s::b.flat) (t.flat++post) c (i:=i+1+(b.flat.length:Int)) (by simp only[List.length_append,List.length_cons];omega)
   simpa only[List.append_assoc,List.cons_append] using this
  rw[spec_l05End.l0,if_pos (by simp only[List.length_append,List.length_cons];omega),if_pos (by omega),e2,l05Opens_eq]
  simp only[Option.bind_some,decide_eq_true_eq]
  rw[if_neg (by omega),spec_l05End.j1,if_pos (by omega),if_pos (by simp only[List.length_append,List.length_cons];omega),e2,if_pos oc,w64 (x:=x+1 - 1) (by omega) (by omega),if_neg (by omega),w64 (by omega) (by omega),Int.add_sub_cancel]
  have r2:=endS_l t ot m (pre++s::(b.flat++[c])) post x (i+1+(b.flat.length:Int)+1) (by simp only[List.length_append,List.length_cons,List.length_nil];omega) (by simp only[List.length_append,List.length_cons,List.length_nil];omega) hx (by omega) (by omega)
  simp only[List.append_assoc,List.nil_append,List.cons_append] at r2
  rw[r2]
  congr 1
  ·omega
  ·omega
theorem endS_at (pre post:List S80) (s c:S80) (b:Bk) (ok:b.ok) (o:s.f0=4∨s.f0=5) (oc:c.f0=6) (i:Int) (hi:i=(pre.length:Int)) (hl:(pre++s::(b.flat++c::post)).length≤1048576) (k:Nat) (hk:2*b.flat.length+4<k):
  spec_l05End.f k (pre++s::(b.flat++c::post)) i=some (i+1+(b.flat.length:Int)):=by
 unfold spec_l05End.f
 have hl':=hl
 simp only[List.length_append,List.length_cons] at hl'
 obtain⟨k,rfl⟩:=succ_of (d:=1) (by omega:1<k)
 obtain⟨k,rfl⟩:=succ_of (d:=0) (by omega:0<k)
 have e:=at_mid pre (b.flat++c::post) s hi
 rw[spec_l05End.l0,if_pos (by simp only[List.length_append,List.length_cons];omega),if_pos (by omega),e,l05Opens_eq]
 simp only[Option.bind_some,decide_eq_true_eq]
 rw[if_pos o,spec_l05End.j1,if_pos (by omega),if_pos (by simp only[List.length_append,List.length_cons];omega),e,if_neg (by omega),w64 (x:=i+1) (by omega) (by omega),w64 (x:=0+1) (by omega) (by omega)]
 have r:=endS_l b ok k (pre++[s]) (c::post) (0+1) (i+1) (by simp only[List.length_append,List.length_cons,List.length_nil];omega) (by simp only[List.length_append,List.length_cons,List.length_nil];omega) (by omega) (by omega) (by omega)
 simp only[List.append_assoc,List.singleton_append] at r
 rw[r]
 obtain⟨m,em⟩:=succ_of (d:=1) (by omega:1<k - 2*b.flat.length)
 rw[em]
 obtain⟨m,rfl⟩:=succ_of (d:=0) (by omega:0<m)
 have e2:rd_T80 (pre++s::(b.flat++c::post)) (i+1+(b.flat.length:Int))=c:=by
  have:=at_mid (pre++s::b.flat) post c (i:=i+1+(b.flat.length:Int)) (by simp only[List.length_append,List.length_cons];omega)
  simpa only[List.append_assoc,List.cons_append] using this
 rw[spec_l05End.l0,if_pos (by simp only[List.length_append,List.length_cons];omega),if_pos (by omega),e2,l05Opens_eq]
 simp only[Option.bind_some,decide_eq_true_eq]
 rw[if_neg (by omega),spec_l05End.j1,if_pos (by omega),if_pos (by simp only[List.length_append,List.length_cons];omega),e2,if_pos oc,w64 (x:=0+1 - 1) (by omega) (by omega),if_pos (by omega)]
theorem endI_l:∀(T:Bk),T.ok→∀(k:Nat) (pre post:List S80) (x i:Int),i=(pre.length:Int)→(pre++(T.flat++post)).length≤1048576→1≤x→x+(T.flat.length:Int)≤4000000→2*T.flat.length<k→
  impl_endOf.l0 k (pre++(T.flat++post)) x i=impl_endOf.l0 (k - 2*T.flat.length) (pre++(T.flat++post)) x (i+(T.flat.length:Int))
 | .nil,_,k,pre,post,x,i,hi,hl,hx,hx2,hk=>by
  simp[Bk.flat]
 | .leaf s t,ok,k,pre,post,x,i,hi,hl,hx,hx2,hk=>by
  simp only[Bk.flat,List.length_cons,List.length_append,List.cons_append] at hk hl hx2 ⊢
  obtain⟨k,rfl⟩:=succ_of (d:=1) (by omega:1<k)
  obtain⟨k,rfl⟩:=succ_of (d:=0) (by omega:0<k)
  have e:=at_mid pre (t.flat++post) s hi
  rw[impl_endOf.l0,if_pos (by simp only[List.length_append,List.length_cons];omega),if_pos (by omega),e,opening_eq]
  have n4:¬(s.f0=4∨s.f0=5):=fun h=>h.elim ok.1 ok.2.1
  simp only[Option.bind_some,decide_eq_true_eq]
  rw[if_neg n4,impl_endOf.j1,if_pos (by omega),if_pos (by simp only[List.length_append,List.length_cons];omega),e,if_neg ok.2.2.1,if_neg (by omega),w64 (by omega) (by omega)]
  have r:=endI_l t ok.2.2.2 k (pre++[s]) post x (i+1) (by simp only[List.length_append,List.length_cons,List.length_nil];omega) (by simp only[List.length_append,List.length_cons,List.length_nil];omega) hx (by omega) (by omega)
  simp only[List.append_assoc,List.singleton_append] at r
  rw[r]
  congr 1
  ·omega
  ·omega
 | .node s b c t,ok,k,pre,post,x,i,hi,hl,hx,hx2,hk=>by
  obtain⟨o,ob,oc,ot⟩:=ok
  simp only[Bk.flat,List.length_cons,List.length_append,List.cons_append,List.append_assoc] at hk hl hx2 ⊢
  obtain⟨k,rfl⟩:=succ_of (d:=1) (by omega:1<k)
  obtain⟨k,rfl⟩:=succ_of (d:=0) (by omega:0<k)
  have e:=at_mid pre (b.flat++c::(t.flat++post)) s hi
  rw[impl_endOf.l0,if_pos (by simp only[List.length_append,List.length_cons];omega),if_pos (by omega),e,opening_eq]
  simp only[Option.bind_some,decide_eq_true_eq]
  rw[if_pos o,impl_endOf.j1,if_pos (by omega),if_pos (by simp only[List.length_append,List.length_cons];omega),e,if_neg (by omega),w64 (x:=i+1) (by omega) (by omega),w64 (x:=x+1) (by omega) (by omega),if_neg (by omega)]
  have r:=endI_l b ob k (pre++[s]) (c::(t.flat++post)) (x+1) (i+1) (by simp only[List.length_append,List.length_cons,List.length_nil];omega) (by simp only[List.length_append,List.length_cons,List.length_nil];omega) (by omega) (by omega) (by omega)
  simp only[List.append_assoc,List.singleton_append] at r
  rw[r]
  obtain⟨m,em⟩:=succ_of (d:=1) (by omega:1<k - 2*b.flat.length)
  rw[em]
  obtain⟨m,rfl⟩:=succ_of (d:=0) (by omega:0<m)
  have e2:rd_T80 (pre++s::(b.flat++c::(t.flat++post))) (i+1+(b.flat.length:Int))=c:=by
   have:=at_mid (pre++s::b.flat) (t.flat++post) c (i:=i+1+(b.flat.length:Int)) (by simp only[List.length_append,List.length_cons];omega)
   simpa only[List.append_assoc,List.cons_append] using this
  rw[impl_endOf.l0,if_pos (by simp only[List.length_append,List.length_cons];omega),if_pos (by omega),e2,opening_eq]
  simp only[Option.bind_some,decide_eq_true_eq]
  rw[if_neg (by omega),impl_endOf.j1,if_pos (by omega),if_pos (by simp only[List.length_append,List.length_cons];omega),e2,if_pos oc,w64 (x:=x+1 - 1) (by omega) (by omega),if_neg (by omega),w64 (by omega) (by omega),Int.add_sub_cancel]
  have r2:=endI_l t ot m (pre++s::(b.flat++[c])) post x (i+1+(b.flat.length:Int)+1) (by simp only[List.length_append,List.length_cons,List.length_nil];omega) (by simp only[List.length_append,List.length_cons,List.length_nil];omega) hx (by omega) (by omega)
  simp only[List.append_assoc,List.nil_append,List.cons_append] at r2
  rw[r2]
  congr 1
  ·omega
  ·omega
theorem endI_at (pre post:List S80) (s c:S80) (b:Bk) (ok:b.ok) (o:s.f0=4∨s.f0=5) (oc:c.f0=6) (i:Int) (hi:i=(pre.length:Int)) (hl:(pre++s::(b.flat++c::post)).length≤1048576) (k:Nat) (hk:2*b.flat.length+4<k):
  impl_endOf.f k (pre++s::(b.flat++c::post)) i=some (i+1+(b.flat.length:Int)):=by
 unfold impl_endOf.f
 have hl':=hl
 simp only[List.length_append,List.length_cons] at hl'
 obtain⟨k,rfl⟩:=succ_of (d:=1) (by omega:1<k)
 obtain⟨k,rfl⟩:=succ_of (d:=0) (by omega:0<k)
 have e:=at_mid pre (b.flat++c::post) s hi
 rw[impl_endOf.l0,if_pos (by simp only[List.length_append,List.length_cons];omega),if_pos (by omega),e,opening_eq]
 simp only[Option.bind_some,decide_eq_true_eq]
 rw[if_pos o,impl_endOf.j1,if_pos (by omega),if_pos (by simp only[List.length_append,List.length_cons];omega),e,if_neg (by omega),w64 (x:=i+1) (by omega) (by omega),w64 (x:=0+1) (by omega) (by omega),if_neg (by omega)]
 have r:=endI_l b ok k (pre++[s]) (c::post) (0+1) (i+1) (by simp only[List.length_append,List.length_cons,List.length_nil];omega) (by simp only[List.length_append,List.length_cons,List.length_nil];omega) (by omega) (by omega) (by omega)
 simp only[List.append_assoc,List.singleton_append] at r
 rw[r]
 obtain⟨m,em⟩:=succ_of (d:=1) (by omega:1<k - 2*b.flat.length)
 rw[em]
 obtain⟨m,rfl⟩:=succ_of (d:=0) (by omega:0<m)
 have e2:rd_T80 (pre++s::(b.flat++c::post)) (i+1+(b.flat.length:Int))=c:=by
  have:=at_mid (pre++s::b.flat) post c (i:=i+1+(b.flat.length:Int)) (by simp only[List.length_append,List.length_cons];omega)
  simpa only[List.append_assoc,List.cons_append] using this
 rw[impl_endOf.l0,if_pos (by simp only[List.length_append,List.length_cons];omega),if_pos (by omega),e2,opening_eq]
 simp only[Option.bind_some,decide_eq_true_eq]
 rw[if_neg (by omega),impl_endOf.j1,if_pos (by omega),if_pos (by simp only[List.length_append,List.length_cons];omega),e2,if_pos oc,w64 (x:=0+1 - 1) (by omega) (by omega),if_pos (by omega)]
def stm (x:S99):S80:=⟨x.f0,x.f1,x.f2,⟨x.f3.f0,x.f3.f1,x.f3.f2⟩⟩
theorem szStmtS_eq (l:List S99) (a:Int) (hl:l.length≤9223372036854775807) (h0:0≤a) (h1:a≤1048576):laws_szStmtS.f l a=some (if a<(l.length:Int) then -1 else a - (l.length:Int)):=by
 unfold laws_szStmtS.f
 rw[w64 (by omega) (by omega)]
 by_cases h:a<(l.length:Int)
 ·rw[if_pos (by omega),if_pos h]
 ·rw[if_neg (by omega),if_neg h]
theorem toStmtS_l (l:List S99) (hl:l.length≤1048576) (d:Nat):∀(k:Nat) (x:List S80) (i:Int),0≤i→x.length=l.length→i+(d:Int)=(l.length:Int)→(∀j:Nat,(j:Int)<i→x[j]? =(l.map stm)[j]?)→d<k→
  laws_toStmtS.l0 k l x i=some (l.map stm):=by
 induction d with
 |zero=>
  intro k x i h0 hx hi hj hk
  obtain⟨k,rfl⟩:=succ_of hk
  simp only[laws_toStmtS.l0]
  rw[if_neg (by omega)]
  congr 1
  apply List.ext_getElem?
  intro j
  by_cases h:(j:Int)<i
  ·exact hj j h
  ·rw[List.getElem?_eq_none (by omega),List.getElem?_eq_none (by rw[List.length_map];omega)]
 |succ d ih=>
  intro k x i h0 hx hi hj hk
  obtain⟨k,rfl⟩:=succ_of hk
  simp only[laws_toStmtS.l0,laws_toStmt.f,laws_toExpr.f]
  rw[if_pos (by omega),if_pos h0]
  simp only[Option.bind_some]
  rw[if_pos (by omega),w64 (by omega) (by omega)]
  refine ih k _ (i+1) (by omega) (by simpa using hx) (by omega) (fun j h=> ?_) (by omega)
  rw[List.getElem?_set]
  by_cases e:i.toNat=j
  ·subst e
   rw[if_pos rfl,if_pos (by omega),List.getElem?_map,getD_rd z99 h0 (by omega)]
   rfl
  ·rw[if_neg e]
   exact hj j (by omega)
theorem toStmtS_at (l:List S99) (hl:l.length≤1048576) (k:Nat) (hk:l.length<k):laws_toStmtS.f k l=some (l.map stm):=by
 unfold laws_toStmtS.f
 rw[if_pos (by omega),if_pos (by omega)]
 exact toStmtS_l l hl l.length k _ 0 (by omega) (by simp) (by omega) (fun j h=>by omega) (by omega)
theorem eqStmtS_l (l:List S80) (hl:l.length≤1048576) (d:Nat):∀(k:Nat) (i:Int),0≤i→i+(d:Int)=(l.length:Int)→d<k→
  laws_eqStmtS.l0 k l l i=some true:=by
 induction d with
 |zero=>
  intro k i h0 hi hk
  obtain⟨k,rfl⟩:=succ_of hk
  simp only[laws_eqStmtS.l0]
  rw[if_neg (by omega)]
 |succ d ih=>
  intro k i h0 hi hk
  obtain⟨k,rfl⟩:=succ_of hk
  simp only[laws_eqStmtS.l0,laws_eqStmt.f,laws_eqExpr.f]
  rw[if_pos (by omega),if_pos h0,if_pos (by omega),w64 (by omega) (by omega)]
  simp only[if_true,Option.bind_some]
  exact ih k (i+1) (by omega) (by omega) (by omega)
theorem eqStmtS_same (l:List S80) (hl:l.length≤1048576) (k:Nat) (hk:l.length<k):laws_eqStmtS.f k l l=some true:=by
 unfold laws_eqStmtS.f
 rw[if_pos rfl]
 exact eqStmtS_l l hl l.length k 0 (by omega) (by omega) (by omega)
def tsk (x:S71):S64:=⟨x.f0.map stm,⟨x.f1.f0,x.f1.f1,x.f1.f2⟩⟩
theorem szTask_eq (x:S71) (a:Int) (hl:x.f0.length≤9223372036854775807) (h0:0≤a) (h1:a≤1048576):laws_szTask.f x.f0 x.f1.f0 x.f1.f1 x.f1.f2 a=some (if a<(x.f0.length:Int) then -1 else a - (x.f0.length:Int)):=by
 unfold laws_szTask.f
 rw[szStmtS_eq _ _ hl h0 h1]
 simp only[Option.bind_some]
 by_cases h:a<(x.f0.length:Int)
 ·rw[if_pos h]
  simp
 ·rw[if_neg h,if_neg (by omega)]
theorem szTaskS_l (l:List S71) (hl:l.length≤1048576) (hy:∀y∈l,y.f0.length≤9223372036854775807) (d:Nat):∀(k:Nat) (a i:Int),0≤i→i+(d:Int)=(l.length:Int)→0≤a→a≤1048576→d<k→
  ∃r,laws_szTaskS.l0 k l a i=some r∧(0≤r→r≤a∧∀y∈l.drop i.toNat,(y.f0.length:Int)≤a):=by
 induction d with
 |zero=>
  intro k a i h0 hi ha hb hk
  obtain⟨k,rfl⟩:=succ_of hk
  simp only[laws_szTaskS.l0]
  rw[if_neg (by omega),List.drop_eq_nil_of_le (by omega)]
  exact⟨_,rfl,fun _=>⟨by omega,by simp⟩⟩
 |succ d ih=>
  intro k a i h0 hi ha hb hk
  obtain⟨k,rfl⟩:=succ_of hk
  simp only[laws_szTaskS.l0]
  have hm:=getD_mem z71 h0 (by omega:i<(l.length:Int))
  rw[if_pos (by omega),if_pos h0,szTask_eq (rd_T71 l i) a (hy _ hm) ha hb,w64 (by omega) (by omega),drop_getD z71 h0 (by omega)]
  simp only[Option.bind_some]
  change ∃r,(if (if a<((rd_T71 l i).f0.length:Int) then (-1:Int) else a - ((rd_T71 l i).f0.length:Int))<0 then _ else _)=_∧(_→_∧∀y∈rd_T71 l i::_,_)
  by_cases h:a<((rd_T71 l i).f0.length:Int)
  ·rw[if_pos (by rw[if_pos h];omega)]
   exact⟨_,rfl,fun h=>absurd h (by omega)⟩
  ·rw[if_neg (by rw[if_neg h];omega),if_neg h]
   obtain⟨r,e,q⟩:=ih k (a - ((rd_T71 l i).f0.length:Int)) (i+1) (by omega) (by omega) (by omega) (by omega) (by omega)
   refine⟨r,e,fun hr=> ?_⟩
   obtain⟨q1,q2⟩:=q hr
   refine⟨by omega,fun y hy=> ?_⟩
   rcases List.mem_cons.1 hy with rfl|hy
   ·omega
   ·have:=q2 y hy
    omega
theorem szProgram_at (l:List S71) (a:Int) (hl:l.length≤9223372036854775807) (hy:∀y∈l,y.f0.length≤9223372036854775807) (h0:0≤a) (h1:a≤1048576) (k:Nat) (hk:1048577<k):
  ∃r,laws_szProgram.f k l a=some r∧(0≤r→r≤a∧(l.length:Int)≤a∧∀y∈l,(y.f0.length:Int)≤a):=by
 unfold laws_szProgram.f laws_szTaskS.f
 rw[w64 (by omega) (by omega)]
 by_cases h:a - (l.length:Int)<0
 ·rw[if_pos h]
  exact⟨-1,by simp,fun h=>absurd h (by omega)⟩
 ·rw[if_neg h]
  obtain⟨r,e,q⟩:=szTaskS_l l (by omega) hy l.length k (a - (l.length:Int)) 0 (by omega) (by omega) (by omega) (by omega) (by omega)
  rw[e]
  simp only[Option.bind_some]
  by_cases hr:r<0
  ·rw[if_pos hr]
   exact⟨_,rfl,fun h=>absurd h (by omega)⟩
  rw[if_neg hr]
  refine⟨r,rfl,fun hr=> ?_⟩
  obtain⟨q1,q2⟩:=q hr
  refine⟨by omega,by omega,fun y hy=> ?_⟩
  have:=q2 y (by simpa using hy)
  omega
theorem toTask_at (x:S71) (h:x.f0.length≤1048576) (k:Nat) (hk:1048577<k):laws_toTask.f k x.f0 x.f1.f0 x.f1.f1 x.f1.f2=some (x.f0.map stm,x.f1.f0,x.f1.f1,x.f1.f2):=by
 unfold laws_toTask.f laws_toExpr.f
 rw[toStmtS_at _ h _ (by omega)]
 rfl
theorem toTaskS_l (l:List S71) (hl:l.length≤1048576) (hy:∀y∈l,y.f0.length≤1048576) (d:Nat):∀(k:Nat) (x:List S64) (i:Int),0≤i→x.length=l.length→i+(d:Int)=(l.length:Int)→(∀j:Nat,(j:Int)<i→x[j]? =(l.map tsk)[j]?)→d+1048580<k→
  laws_toTaskS.l0 k l x i=some (l.map tsk):=by
 induction d with
 |zero=>
  intro k x i h0 hx hi hj hk
  obtain⟨k,rfl⟩:=succ_of hk
  simp only[laws_toTaskS.l0]
  rw[if_neg (by omega)]
  congr 1
  apply List.ext_getElem?
  intro j
  by_cases h:(j:Int)<i
  ·exact hj j h
  ·rw[List.getElem?_eq_none (by omega),List.getElem?_eq_none (by rw[List.length_map];omega)]
 |succ d ih=>
  intro k x i h0 hx hi hj hk
  obtain⟨k,rfl⟩:=succ_of hk
  have hm:(rd_T71 l i).f0.length≤1048576:=hy _ (getD_mem z71 h0 (by omega:i<(l.length:Int)))
  simp only[laws_toTaskS.l0]
  rw[if_pos (by omega),if_pos h0,toTask_at _ hm k (by omega)]
  simp only[Option.bind_some]
  rw[if_pos (by omega),w64 (by omega) (by omega)]
  refine ih k _ (i+1) (by omega) (by simpa using hx) (by omega) (fun j h=> ?_) (by omega)
  rw[List.getElem?_set]
  by_cases e:i.toNat=j
  ·subst e
   rw[if_pos rfl,if_pos (by omega),List.getElem?_map,getD_rd z71 h0 (by omega)]
   rfl
  ·rw[if_neg e]
   exact hj j (by omega)
theorem toProgram_at (l:List S71) (hl:l.length≤1048576) (hy:∀y∈l,y.f0.length≤1048576) (k:Nat) (hk:2097160<k):laws_toProgram.f k l=some (l.map tsk):=by
 unfold laws_toProgram.f laws_toTaskS.f
 rw[if_pos (by omega),if_pos (by omega),toTaskS_l l hl hy l.length k _ 0 (by omega) (by simp) (by omega) (fun j h=>by omega) (by omega)]
 rfl
theorem eqTask_same (x:S64) (h:x.f0.length≤1048576) (k:Nat) (hk:1048577<k):laws_eqTask.f k x.f0 x.f1.f0 x.f1.f1 x.f1.f2 x.f0 x.f1.f0 x.f1.f1 x.f1.f2=some true:=by
 unfold laws_eqTask.f laws_eqExpr.f
 rw[eqStmtS_same _ h _ (by omega)]
 simp
theorem eqTaskS_l (l:List S64) (hl:l.length≤1048576) (hy:∀y∈l,y.f0.length≤1048576) (d:Nat):∀(k:Nat) (i:Int),0≤i→i+(d:Int)=(l.length:Int)→d+1048580<k→
  laws_eqTaskS.l0 k l l i=some true:=by
 induction d with
 |zero=>
  intro k i h0 hi hk
  obtain⟨k,rfl⟩:=succ_of hk
  simp only[laws_eqTaskS.l0]
  rw[if_neg (by omega)]
 |succ d ih=>
  intro k i h0 hi hk
  obtain⟨k,rfl⟩:=succ_of hk
  have hm:(rd_T64 l i).f0.length≤1048576:=hy _ (getD_mem z64 h0 (by omega:i<(l.length:Int)))
  simp only[laws_eqTaskS.l0]
  rw[if_pos (by omega),if_pos h0,if_pos (by omega),eqTask_same _ hm k (by omega),w64 (by omega) (by omega)]
  simp only[if_true,Option.bind_some]
  exact ih k (i+1) (by omega) (by omega) (by omega)
theorem eqProgram_same (l:List S64) (hl:l.length≤1048576) (hy:∀y∈l,y.f0.length≤1048576) (k:Nat) (hk:2097160<k):laws_eqProgram.f k l l=some true:=by
 unfold laws_eqProgram.f laws_eqTaskS.f
 rw[if_pos rfl,eqTaskS_l l hl hy l.length k 0 (by omega) (by omega) (by omega)]
 simp
theorem program_or (x:S24) (g:gd24 x):∀k,2097160<k→∃r,laws_szProgram.f k x.f0 1048576=some r∧(0≤r→(x.f0.map tsk).length≤1048576∧(∀y∈x.f0.map tsk,y.f0.length≤1048576)∧(∀k,2097160<k→laws_toProgram.f k x.f0=some (x.f0.map tsk))∧(∀k,2097160<k→laws_eqProgram.f k (x.f0.map tsk) (x.f0.map tsk)=some true)):=by
 intro k hk
 obtain⟨a1,a2⟩:=g
 simp only[maxLen] at a1
 obtain⟨r,e,q⟩:=szProgram_at x.f0 1048576 (by omega) (fun y hy=>by have:=(a2 y hy).1.1;simp only[maxLen] at this;omega) (by omega) (by omega) k (by omega)
 refine⟨r,e,fun hr=> ?_⟩
 obtain⟨_,q2,q3⟩:=q hr
 have hy:∀y∈x.f0,y.f0.length≤1048576:=fun y hy=>by have:=q3 y hy;omega
 have hm:∀y∈x.f0.map tsk,y.f0.length≤1048576:=by
  intro y hy'
  obtain⟨z,hz,rfl⟩:=List.mem_map.1 hy'
  simp only[tsk,List.length_map]
  exact hy z hz
 have hl:(x.f0.map tsk).length≤1048576:=by rw[List.length_map];omega
 exact⟨hl,hm,fun k hk=>toProgram_at _ (by omega) hy k hk,fun k hk=>eqProgram_same _ hl hm k hk⟩
def taskOkB (t:S64):Bool:=blockOk t.f0&&exprOk t.f1.f0 t.f1.f1 t.f1.f2
def progOk (l:List S64):Bool:=decide (1≤(l.length:Int)∧(l.length:Int)≤6)&&l.all taskOkB
theorem taskOkI_at (t:S64) (h:t.f0.length≤1048576) (k:Nat) (hk:2097160<k):impl_taskOk.f k t.f0 t.f1.f0 t.f1.f1 t.f1.f2=some (taskOkB t):=by
 unfold impl_taskOk.f taskOkB
 rw[blockI_at _ h k (by omega),exprI_eq]
 simp only[Option.bind_some]
 cases blockOk t.f0<;>simp
theorem anyNot_at (k:Nat) (hk:2097160<k):∀(l:List S64),(∀y∈l,y.f0.length≤1048576)→anyNot k l=some (!(l.all taskOkB))
 |[],_=>rfl
 |t::r,h=>by
  rw[anyNot,taskOkI_at t (h t (by simp)) k hk,anyNot_at k hk r (fun y hy=>h y (List.mem_cons_of_mem _ hy))]
  simp only[Option.bind_some,List.all_cons]
  cases taskOkB t<;>simp
theorem progOkI_at (l:List S64) (h:∀y∈l,y.f0.length≤1048576) (k:Nat) (hk:2097160<k):impl_ProgramOk.f k l=some (progOk l):=by
 unfold impl_ProgramOk.f progOk
 rw[within_eq,anyNot_at k hk l h]
 simp only[Option.bind_some,decide_eq_true_eq,Bool.not_not]
 by_cases c:1≤(l.length:Int)∧(l.length:Int)≤6
 ·rw[if_pos c]
  simp[c]
 ·rw[if_neg c]
  simp only[c,decide_false,Bool.false_and]
theorem progOkS_l (l:List S64) (hl:l.length≤1048576) (h:∀y∈l,y.f0.length≤1048576) (d:Nat):∀(k:Nat) (i:Int),0≤i→i+(d:Int)=(l.length:Int)→d+2097160<k→
  spec_ProgramOk.l0 k i l=some ((l.drop i.toNat).all taskOkB&&decide (1≤(l.length:Int)∧(l.length:Int)≤6)):=by
 induction d with
 |zero=>
  intro k i h0 hi hk
  obtain⟨k,rfl⟩:=succ_of hk
  simp only[spec_ProgramOk.l0]
  rw[if_neg (by omega),l01In_eq,List.drop_eq_nil_of_le (by omega)]
  simp
 |succ d ih=>
  intro k i h0 hi hk
  obtain⟨k,rfl⟩:=succ_of hk
  have hm:(rd_T64 l i).f0.length≤1048576:=h _ (getD_mem z64 h0 (by omega:i<(l.length:Int)))
  simp only[spec_ProgramOk.l0]
  rw[if_pos (by omega),if_pos h0,blockS_at _ hm k (by omega),exprS_eq,w64 (by omega) (by omega),ih k (i+1) (by omega) (by omega) (by omega),drop_getD z64 h0 (by omega)]
  simp only[Option.bind_some,List.all_cons]
  change _=some (taskOkB (rd_T64 l i)&&_&&_)
  unfold taskOkB
  cases blockOk (rd_T64 l i).f0<;>cases exprOk (rd_T64 l i).f1.f0 (rd_T64 l i).f1.f1 (rd_T64 l i).f1.f2<;>simp
theorem progOkS_at (l:List S64) (hl:l.length≤1048576) (h:∀y∈l,y.f0.length≤1048576) (k:Nat) (hk:3145740<k):spec_ProgramOk.f k l=some (progOk l):=by
 unfold spec_ProgramOk.f progOk
 rw[progOkS_l l hl h l.length k 0 (by omega) (by omega) (by omega)]
 simp only[Int.toNat_zero,List.drop_zero]
 rw[Bool.and_comm]
theorem progOk_len {l:List S64} (h:progOk l=true):l.length≤6∧∀y∈l,blockOk y.f0=true∧y.f0.length≤24:=by
 rw[progOk,Bool.and_eq_true,decide_eq_true_eq,List.all_eq_true] at h
 refine⟨by omega,fun y hy=> ?_⟩
 have:=h.2 y hy
 rw[taskOkB,Bool.and_eq_true] at this
 have t:=this.1
 have t2:=t
 rw[blockOk,Bool.and_eq_true,decide_eq_true_eq] at t2
 exact⟨t,by omega⟩
theorem areValI_eq (l:List Int):impl_areValues.f l=some (l.all valP):=by
 unfold impl_areValues.f
 rw[List.all_eq_not_any_not]
theorem isValS_eq (x:Int):spec_IsValue.f x=some (valP x):=by
 unfold spec_IsValue.f
 rw[l01In_eq]
 rfl
theorem valuesS_l (l:List Int) (hl:l.length≤1048576) (d:Nat):∀(k:Nat) (i:Int),0≤i→i+(d:Int)=(l.length:Int)→d<k→spec_l09Values.l0 k l i=some ((l.drop i.toNat).all valP):=by
 induction d with
 |zero=>
  intro k i h0 hi hk
  obtain⟨k,rfl⟩:=succ_of hk
  simp only[spec_l09Values.l0]
  rw[if_neg (by omega),List.drop_eq_nil_of_le (by omega)]
  rfl
 |succ d ih=>
  intro k i h0 hi hk
  obtain⟨k,rfl⟩:=succ_of hk
  simp only[spec_l09Values.l0]
  rw[if_pos (by omega),if_pos h0,isValS_eq,drop_rd h0 (by omega),w64 (by omega) (by omega),ih k (i+1) (by omega) (by omega) (by omega)]
  simp only[Option.bind_some,List.all_cons]
  cases valP (rd l i)<;>simp
theorem valuesS_at (l:List Int) (hl:l.length≤1048576) (k:Nat) (hk:l.length<k):spec_l09Values.f k l=some (l.all valP):=by
 unfold spec_l09Values.f
 rw[valuesS_l l hl l.length k 0 (by omega) (by omega) hk]
 simp
def sat (a:Int):Int:=if a< -1000000 then -1000000 else if a > 1000000 then 1000000 else a
theorem sat_in (a:Int): -1000000≤sat a∧sat a≤1000000:=by
 unfold sat
 split
 ·omega
 ·split<;>omega
theorem clampI_eq (a:Int):impl_Clamp.f a (-1000000) 1000000=some (sat a):=by
 unfold impl_Clamp.f mn mx sat
 rw[if_neg (by omega)]
 congr 1
 split<;>split<;>(try split)<;>omega
theorem saturateI_eq (a:Int):impl_Saturate.f a=some (sat a):=by
 unfold impl_Saturate.f
 rw[clampI_eq]
 rfl
theorem addI_eq (a b:Int):impl_AddValues.f a b=some (sat (sat a+sat b)):=by
 unfold impl_AddValues.f
 simp only[saturateI_eq,Option.bind_some]
 have h1:=sat_in a
 have h2:=sat_in b
 rw[w64 (by omega) (by omega)]
theorem clampS_eq (a:Int) (k:Nat) (hk:0<k):spec_Clamp.f k a (-1000000) 1000000=some (sat a):=by
 obtain⟨k,rfl⟩:=succ_of hk
 unfold spec_Clamp.f sat
 rw[if_neg (by omega)]
 simp only[spec_Clamp.j0]
 by_cases h:a< -1000000
 ·simp[h]
 ·simp only[h,decide_false,Bool.false_eq_true,if_false]
  split<;>rfl
theorem saturateS_eq (a:Int) (k:Nat) (hk:0<k):spec_Saturate.f k a=some (sat a):=by
 unfold spec_Saturate.f
 rw[clampS_eq a k hk]
 rfl
theorem addS_eq (a b:Int) (k:Nat) (hk:0<k):spec_AddValues.f k a b=some (sat (sat a+sat b)):=by
 unfold spec_AddValues.f
 simp only[saturateS_eq _ k hk,Option.bind_some]
 have h1:=sat_in a
 have h2:=sat_in b
 rw[w64 (by omega) (by omega)]
theorem isSensor_eq (a:Int):impl_isSensor.f a=some (decide (0≤a∧a≤3)):=by
 unfold impl_isSensor.f
 rw[within_eq]
 rfl
def sensorOf (l:List Int) (s n:Int):Int:=if (l.length:Int)=0 then 0 else if 0≤s∧s≤3 then (if n<0 then 0 else sat (sat (rd l (Int.tmod n (l.length:Int)))+sat (100*s))) else 0
theorem readSensorI_eq (l:List Int) (s n:Int):impl_ReadSensor.f l s n=some (sensorOf l s n):=by
 unfold impl_ReadSensor.f sensorOf
 by_cases h:(l.length:Int)=0
 ·rw[if_pos h,if_pos h]
 rw[if_neg h,if_neg h,isSensor_eq]
 simp only[Option.bind_some,decide_eq_true_eq]
 by_cases h2:0≤s∧s≤3
 ·rw[if_pos h2,if_pos h2]
  by_cases h3:n<0
  ·rw[if_pos h3,if_pos h3]
  ·have:=tmod_in (a:=n) (n:=(l.length:Int)) (by omega) (by omega)
   rw[if_neg h3,if_neg h3,if_pos this.1,if_pos this.2,addI_eq,w64 (by omega) (by omega)]
   rfl
 ·rw[if_neg h2,if_neg h2]
theorem readSensorS_eq (l:List Int) (s n:Int) (k:Nat) (hk:0<k):spec_ReadSensor.f k l s n=some (sensorOf l s n):=by
 unfold spec_ReadSensor.f sensorOf
 by_cases h:(l.length:Int)=0
 ·rw[if_pos h,if_pos h]
 rw[if_neg h,if_neg h,l01In_eq]
 simp only[Option.bind_some,decide_eq_true_eq]
 by_cases h2:0≤s∧s≤3
 ·rw[if_pos h2,if_pos h2]
  by_cases h3:n<0
  ·rw[if_pos h3,if_pos h3]
  ·have:=tmod_in (a:=n) (n:=(l.length:Int)) (by omega) (by omega)
   rw[if_neg h3,if_neg h3,if_pos this.1,if_pos this.2,addS_eq _ _ k hk,w64 (by omega) (by omega)]
   rfl
 ·rw[if_neg h2,if_neg h2]
theorem stOk_loop {s:S80} (h:stOk s=true) (o:s.f0=5):1≤s.f2∧s.f2≤5:=by
 unfold stOk stmtOk at h
 simp[o] at h
 omega
theorem stOk_set {s:S80} (h:stOk s=true) (o:s.f0=1):(0≤s.f1∧s.f1≤7)∧exprOk s.f3.f0 s.f3.f1 s.f3.f2=true:=by
 unfold stOk stmtOk at h
 simp only[o,if_true,Bool.and_eq_true,decide_eq_true_eq] at h
 exact⟨h.1.1,h.2⟩
theorem stOk_sense {s:S80} (h:stOk s=true) (o:s.f0=2):(0≤s.f1∧s.f1≤7)∧0≤s.f2∧s.f2≤3:=by
 unfold stOk stmtOk at h
 simp[o] at h
 omega
theorem stOk_expr {s:S80} (h:stOk s=true) (o:s.f0=3∨s.f0=4):exprOk s.f3.f0 s.f3.f1 s.f3.f2=true:=by
 unfold stOk stmtOk at h
 have h1:¬s.f0=1:=by omega
 have h2:¬s.f0=2:=by omega
 simp only[h1,h2,o,if_true,if_false,Bool.and_eq_true] at h
 exact h.2
theorem exprOk_iff (a b c:Int):exprOk a b c=true↔(1≤a∧a≤7)∧(-8≤b∧b≤999)∧ -8≤c∧c≤999:=by unfold exprOk;rw[decide_eq_true_eq]
theorem valP_iff (x:Int):valP x=true↔ -1000000≤x∧x≤1000000:=by unfold valP;rw[decide_eq_true_eq]
def opv (v:List Int) (n:Int):Int:=if n<0 then rd v (-1 - n) else n
def evalE (v:List Int) (a b c:Int):Int:=
 if a=1 then sat (sat (opv v b)+sat (opv v c)) else if a=2 then sat (sat (opv v b) - sat (opv v c)) else if a=3 then sat (sat (opv v b)*sat (opv v c))
 else if a=4 then mn (opv v b) (opv v c) else if a=5 then mx (opv v b) (opv v c) else if a=6 then (if opv v b<opv v c then 1 else 0) else (if opv v b=opv v c then 1 else 0)
def vok (v:List Int):Prop:=v.length=8∧v.all valP=true
theorem vok_rd {v:List Int} (h:vok v) {i:Int} (h0:0≤i) (h1:i<8): -1000000≤rd v i∧rd v i≤1000000:=by
 have h2:=rd_eq (l:=v) h0 (by rw[h.1];exact h1)
 exact(valP_iff _).1 (List.all_eq_true.1 h.2 _ (List.mem_of_getElem? h2))
theorem opv_in {v:List Int} (h:vok v) {n:Int} (h0: -8≤n) (h1:n≤999): -1000000≤opv v n∧opv v n≤1000000:=by
 unfold opv
 split
 ·exact vok_rd h (by omega) (by omega)
 ·omega
theorem mul_in {a b:Int} (ha: -1000000≤a∧a≤1000000) (hb: -1000000≤b∧b≤1000000): -1000000000000≤a*b∧a*b≤1000000000000:=by
 have h1:a.natAbs≤1000000:=by omega
 have h2:b.natAbs≤1000000:=by omega
 have h3:(a*b).natAbs≤1000000*1000000:=by rw[Int.natAbs_mul];exact Nat.mul_le_mul h1 h2
 omega
theorem evalE_in {v:List Int} (h:vok v) {a b c:Int} (he:exprOk a b c=true): -1000000≤evalE v a b c∧evalE v a b c≤1000000:=by
 obtain⟨_,hb,hc⟩:=(exprOk_iff a b c).1 he
 have h1:=opv_in h hb.1 hb.2
 have h2:=opv_in h hc.1 hc.2
 unfold evalE mn mx
 repeat' split
 all_goals first|exact sat_in _|omega
theorem vok_set {v:List Int} (h:vok v) (i:Nat) {x:Int} (hx: -1000000≤x∧x≤1000000):vok (v.set i x):=by
 refine⟨by rw[List.length_set];exact h.1,?_⟩
 rw[List.all_eq_true]
 intro y hy
 rcases List.mem_or_eq_of_mem_set hy with h1|rfl
 ·exact List.all_eq_true.1 h.2 y h1
 ·exact(valP_iff _).2 hx
theorem bitI_eq (b:Bool):impl_bit.f b=some (if b=true then 1 else 0):=by cases b<;>rfl
theorem varsI_eq (v:List Int):impl_VarsOk.f v=some (decide (v.length=8)&&v.all valP):=by
 unfold impl_VarsOk.f
 by_cases h:v.length=8
 ·rw[if_pos (by omega),areValI_eq]
  simp[h]
 ·rw[if_neg (by omega)]
  simp[h]
theorem varsI_ok {v:List Int} (h:vok v):impl_VarsOk.f v=some true:=by rw[varsI_eq,h.2];simp[h.1]
theorem operandI_at {v:List Int} (h:vok v) {n:Int} (h0: -8≤n) (h1:n≤999):impl_operand.f v n=some (opv v n):=by
 unfold impl_operand.f opv
 by_cases c:n<0
 ·rw[if_pos c,if_pos c,w64 (by omega) (by omega),if_pos (by omega),if_pos (by rw[h.1];omega)]
 ·rw[if_neg c,if_neg c]
theorem subI_eq (a b:Int):impl_SubValues.f a b=some (sat (sat a - sat b)):=by
 unfold impl_SubValues.f
 simp only[saturateI_eq,Option.bind_some]
 have h1:=sat_in a
 have h2:=sat_in b
 rw[w64 (by omega) (by omega)]
theorem mulI_eq (a b:Int):impl_MulValues.f a b=some (sat (sat a*sat b)):=by
 unfold impl_MulValues.f
 simp only[saturateI_eq,Option.bind_some]
 have h:=mul_in (sat_in a) (sat_in b)
 rw[w64 (by omega) (by omega)]
theorem evalI_at {v:List Int} (h:vok v) {a b c:Int} (he:exprOk a b c=true) (k:Nat) (hk:0<k):impl_EvalExpr.f k v a b c=some (evalE v a b c):=by
 obtain⟨k,rfl⟩:=succ_of hk
 obtain⟨_,hb,hc⟩:=(exprOk_iff a b c).1 he
 unfold impl_EvalExpr.f
 rw[varsI_ok h,exprI_eq,he]
 simp only[Option.bind_some,if_true,impl_EvalExpr.j0,operandI_at h hb.1 hb.2,operandI_at h hc.1 hc.2,addI_eq,subI_eq,mulI_eq,bitI_eq,Bool.not_true]
 unfold evalE
 simp only[Bool.false_eq_true,if_false,decide_eq_true_eq,beq_iff_eq]
 repeat' split
 all_goals first|rfl|simp_all
theorem take_drop_mid {α:Type} (pre m post:List α) {i j:Int} (hi:i=(pre.length:Int)) (hj:j=i+(m.length:Int)):((pre++(m++post)).take j.toNat).drop i.toNat=m:=by
 have h1:j.toNat=pre.length+m.length:=by omega
 have h2:i.toNat=pre.length:=by omega
 rw[h1,h2,←List.append_assoc,List.take_append_of_le_length (by simp),List.take_of_length_le (by simp),List.drop_left]
def walkT {σ:Type} (step:σ→S80→Option (σ×Bool)):Bk→σ→Option σ
 | .nil,s=>some s
 | .leaf x t,s=>(step s x).bind fun y=>walkT step t y.1
 | .node x b _ t,s=>(step s x).bind fun y=>(walkRep (fun s'=>walkT step b s') (if x.f0=4 then (if y.2=true then (1:Int) else 0) else x.f2).toNat y.1).bind fun s'=>walkT step t s'
theorem walkI_l {σ:Type} (step:σ→S80→Option (σ×Bool)):∀(T:Bk),T.ok→(∀s∈T.flat,stOk s=true)→∀(k:Nat) (pre:List S80) (i:Int) (s:σ),i=(pre.length:Int)→(pre++T.flat).length≤1048576→3*T.flat.length+8<k→
  impl_walk.l0 step k (pre++T.flat) i s=walkT step T s
 | .nil,_,_,k,pre,i,s,hi,hl,hk=>by
  obtain⟨k,rfl⟩:=succ_of hk
  rw[impl_walk.l0,if_neg (by simp only[Bk.flat,List.append_nil];omega)]
  rfl
 | .leaf x t,ok,hs,k,pre,i,s,hi,hl,hk=>by
  simp only[Bk.flat,List.length_cons,List.length_append] at hk hl ⊢
  obtain⟨k,rfl⟩:=succ_of (d:=4) (by omega:4<k)
  have e:=at_mid pre t.flat x hi
  have n4:¬(x.f0=4∨x.f0=5):=fun h=>h.elim ok.1 ok.2.1
  have w1:wrap64 (i+1)=i+1:=w64 (by omega) (by omega)
  rw[impl_walk.l0,if_pos (by simp only[List.length_append,List.length_cons];omega),if_pos (by omega),e,if_neg ok.2.2.1,opening_eq,w1,walkT]
  simp only[Option.bind_some,decide_eq_true_eq]
  congr 1
  funext y
  rw[if_neg n4]
  have r:=walkI_l step t ok.2.2.2 (fun x hx=>hs x (by simp[Bk.flat,hx])) k (pre++[x]) (i+1) y.1 (by simp only[List.length_append,List.length_cons,List.length_nil];omega) (by simp only[List.length_append,List.length_cons,List.length_nil];omega) (by omega)
  simp only[List.append_assoc,List.singleton_append] at r
  rw[r]
 | .node x b c t,ok,hs,k,pre,i,s,hi,hl,hk=>by
  obtain⟨o,ob,oc,ot⟩:=ok
  simp only[Bk.flat,List.length_cons,List.length_append] at hk hl ⊢
  obtain⟨k,rfl⟩:=succ_of (d:=4) (by omega:4<k)
  have hss:=hs x (by simp[Bk.flat])
  have e:=at_mid pre (b.flat++c::t.flat) x hi
  have w1:wrap64 (i+1)=i+1:=w64 (by omega) (by omega)
  have w2:wrap64 (i+1+(b.flat.length:Int)+1)=i+1+(b.flat.length:Int)+1:=w64 (by omega) (by omega)
  have hend:=endI_at pre t.flat x c b ob o oc i hi (by simp only[List.length_append,List.length_cons];omega) k (by omega)
  have hn:∀y:σ×Bool,(if x.f0=4 then impl_bit.f y.2 else some x.f2)=some (if x.f0=4 then (if y.2=true then (1:Int) else 0) else x.f2):=fun y=>by
   split
   ·rw[bitI_eq]
   ·rfl
  have hn2:∀y:σ×Bool,(if x.f0=4 then (if y.2=true then (1:Int) else 0) else x.f2)≤9223372036854775807:=fun y=>by
   by_cases h4:x.f0=4
   ·rw[if_pos h4];split<;>omega
   ·rw[if_neg h4]
    have:=stOk_loop hss (by omega:x.f0=5)
    omega
  rw[impl_walk.l0,if_pos (by simp only[List.length_append,List.length_cons];omega),if_pos (by omega),e,if_neg (by omega),opening_eq,w1,walkT]
  simp only[Option.bind_some,decide_eq_true_eq]
  congr 1
  funext y
  rw[if_pos o,hend,hn]
  simp only[Option.bind_some]
  rw[w2,if_pos ⟨by omega,by omega,by simp only[List.length_append,List.length_cons];omega,hn2 y⟩]
  obtain⟨m,rfl⟩:=succ_of (d:=0) (by omega:0<k)
  have r1:∀s',impl_walk.f step (m+1) (((pre++x::(b.flat++c::t.flat)).take (i+1+(b.flat.length:Int)).toNat).drop (i+1).toNat) s'=walkT step b s':=fun s'=>by
   have q:=take_drop_mid (pre++[x]) b.flat (c::t.flat) (i:=i+1) (j:=i+1+(b.flat.length:Int)) (by simp only[List.length_append,List.length_cons,List.length_nil];omega) rfl
   simp only[List.append_assoc,List.singleton_append] at q
   rw[q,impl_walk.f]
   have:=walkI_l step b ob (fun x hx=>hs x (by simp[Bk.flat,hx])) m [] 0 s' rfl (by simp only[List.nil_append];omega) (by omega)
   simpa using this
  simp only[r1]
  congr 1
  funext s'
  have r2:=walkI_l step t ot (fun x hx=>hs x (by simp[Bk.flat,hx])) (m+1) (pre++x::(b.flat++[c])) (i+1+(b.flat.length:Int)+1) s' (by simp only[List.length_append,List.length_cons,List.length_nil];omega) (by simp only[List.length_append,List.length_cons,List.length_nil];omega) (by omega)
  simp only[List.append_assoc,List.nil_append,List.cons_append] at r2
  rw[r2]
theorem walkI_at {σ:Type} (step:σ→S80→Option (σ×Bool)) (T:Bk) (ok:T.ok) (hs:∀s∈T.flat,stOk s=true) (hl:T.flat.length≤1048576) (k:Nat) (hk:3*T.flat.length+9<k) (s:σ):impl_walk.f step k T.flat s=walkT step T s:=by
 obtain⟨k,rfl⟩:=succ_of hk
 rw[impl_walk.f]
 have:=walkI_l step T ok hs k [] 0 s rfl (by simpa using hl) (by omega)
 simpa using this
def lng:Bk→Nat
 | .nil=>0
 | .leaf _ t=>1+lng t
 | .node x b _ t=>(if x.f0=4 then 1 else x.f2.toNat)*lng b+lng t
theorem lng_le:∀(T:Bk),T.ok→(∀s∈T.flat,stOk s=true)→lng T≤3 ^ T.flat.length
 | .nil,_,_=>by simp[lng]
 | .leaf x t,ok,hs=>by
  have:=lng_le t ok.2.2.2 (fun x hx=>hs x (by simp[Bk.flat,hx]))
  have h1:1≤3 ^ t.flat.length:=Nat.one_le_pow _ _ (by omega)
  simp only[lng,Bk.flat,List.length_cons,Nat.pow_succ]
  omega
 | .node x b c t,ok,hs=>by
  obtain⟨o,ob,oc,ot⟩:=ok
  have r1:=lng_le b ob (fun x hx=>hs x (by simp[Bk.flat,hx]))
  have r2:=lng_le t ot (fun x hx=>hs x (by simp[Bk.flat,hx]))
  have hss:=hs x (by simp[Bk.flat])
  have hn:(if x.f0=4 then 1 else x.f2.toNat)≤5:=by
   by_cases h4:x.f0=4
   ·rw[if_pos h4];omega
   ·rw[if_neg h4]
    have:=stOk_loop hss (by omega:x.f0=5)
    omega
  have h1:1≤3 ^ b.flat.length:=Nat.one_le_pow _ _ (by omega)
  have h2:1≤3 ^ t.flat.length:=Nat.one_le_pow _ _ (by omega)
  have e:3 ^ (b.flat.length+(t.flat.length+1)+1)=9*(3 ^ b.flat.length*3 ^ t.flat.length):=by
   rw[Nat.pow_succ,Nat.pow_add,Nat.pow_succ]
   generalize 3 ^ b.flat.length=p
   generalize 3 ^ t.flat.length=q
   rw[←Nat.mul_assoc,Nat.mul_assoc,Nat.mul_comm]
  have m1:=Nat.mul_le_mul hn r1
  have m2:=Nat.mul_le_mul_left (3 ^ b.flat.length) h2
  have m3:=Nat.mul_le_mul_right (3 ^ t.flat.length) h1
  simp only[lng,Bk.flat,List.length_cons,List.length_append]
  rw[e]
  generalize 3 ^ b.flat.length*3 ^ t.flat.length=pq at*
  omega
theorem lng_24 {T:Bk} (ok:T.ok) (hs:∀s∈T.flat,stOk s=true) (hl:T.flat.length≤24):lng T≤282429536481:=
 Nat.le_trans (lng_le T ok hs) (Nat.le_trans (Nat.pow_le_pow_right (by omega) hl) (by decide))
def rep {σ:Type} (f:σ→σ):Nat→σ→σ
 |0,s=>s
 |n+1,s=>rep f n (f s)
def runT {σ:Type} (c:σ→S80→σ×Bool):Bk→σ→σ
 | .nil,s=>s
 | .leaf x t,s=>runT c t (c s x).1
 | .node x b _ t,s=>runT c t (rep (runT c b) (if x.f0=4 then (if (c s x).2=true then (1:Int) else 0) else x.f2).toNat (c s x).1)
theorem walkRep_run {σ:Type} (f:σ→Option σ) (g:σ→σ) (P:Nat→σ→Prop) (L:Nat) (h:∀n s,P (L+n) s→f s=some (g s)∧P n (g s)):∀(n m:Nat) (s:σ),P (n*L+m) s→walkRep f n s=some (rep g n s)∧P m (rep g n s)
 |0,m,s,hp=>⟨rfl,by show P m s;simpa using hp⟩
 |n+1,m,s,hp=>by
  have e:(n+1)*L+m=L+(n*L+m):=by rw[Nat.succ_mul];omega
  rw[e] at hp
  obtain⟨h1,h2⟩:=h _ s hp
  rw[walkRep,h1]
  exact walkRep_run f g P L h n m (g s) h2
theorem walkT_run {σ:Type} (step:σ→S80→Option (σ×Bool)) (c:σ→S80→σ×Bool) (P:Nat→σ→Prop) (mono:∀m n s,m≤n→P n s→P m s):∀(T:Bk),T.ok→
  (∀x∈T.flat,x.f0≠4→x.f0≠5→x.f0≠6→∀n s,P (n+1) s→step s x=some (c s x)∧P n (c s x).1)→
  (∀x∈T.flat,(x.f0=4∨x.f0=5)→∀n s,P n s→step s x=some (c s x)∧P n (c s x).1)→
  ∀(n:Nat) (s:σ),P (lng T+n) s→walkT step T s=some (runT c T s)∧P n (runT c T s)
 | .nil,_,_,_,n,s,hp=>⟨rfl,by show P n s;simpa [lng] using hp⟩
 | .leaf x t,ok,hl,hn,n,s,hp=>by
  have e:lng (.leaf x t)+n=(lng t+n)+1:=by simp only[lng];omega
  rw[e] at hp
  obtain⟨h1,h2⟩:=hl x (by simp[Bk.flat]) ok.1 ok.2.1 ok.2.2.1 _ s hp
  rw[walkT,h1]
  exact walkT_run step c P mono t ok.2.2.2 (fun x hx=>hl x (by simp[Bk.flat,hx])) (fun x hx=>hn x (by simp[Bk.flat,hx])) n _ h2
 | .node x b e t,ok,hl,hn,n,s,hp=>by
  obtain⟨o,ob,oc,ot⟩:=ok
  have hp':P ((if x.f0=4 then 1 else x.f2.toNat)*lng b+(lng t+n)) s:=by
   have e:lng (.node x b e t)+n=(if x.f0=4 then 1 else x.f2.toNat)*lng b+(lng t+n):=by simp only[lng];omega
   rw[e] at hp;exact hp
  obtain⟨h1,h2⟩:=hn x (by simp[Bk.flat]) o _ s hp'
  rw[walkT,h1]
  simp only[Option.bind_some]
  have hle:(if x.f0=4 then (if (c s x).2=true then (1:Int) else 0) else x.f2).toNat≤(if x.f0=4 then 1 else x.f2.toNat):=by
   by_cases h4:x.f0=4
   ·rw[if_pos h4,if_pos h4];split<;>simp
   ·rw[if_neg h4,if_neg h4];exact Nat.le_refl _
  have h3:=mono _ _ _ (Nat.add_le_add_right (Nat.mul_le_mul_right (lng b) hle) (lng t+n)) h2
  obtain⟨h5,h6⟩:=walkRep_run (fun s'=>walkT step b s') (runT c b) P (lng b) (fun n s hp=>walkT_run step c P mono b ob (fun x hx=>hl x (by simp[Bk.flat,hx])) (fun x hx=>hn x (by simp[Bk.flat,hx])) n s hp) _ _ _ h3
  rw[h5]
  exact walkT_run step c P mono t ot (fun x hx=>hl x (by simp[Bk.flat,hx])) (fun x hx=>hn x (by simp[Bk.flat,hx])) n _ h6
def effC {ζ:Type} (sn:ζ→Int→Int→ζ×Int) (st:List Int×List Int×Int×ζ) (x:S80):(List Int×List Int×Int×ζ)×Bool:=
 if x.f0=2 then ((st.1.set x.f1.toNat (sn st.2.2.2 st.2.2.1 x.f2).2,st.2.1,st.2.2.1+1,(sn st.2.2.2 st.2.2.1 x.f2).1),true)
 else if x.f0=1 then ((st.1.set x.f1.toNat (evalE st.1 x.f3.f0 x.f3.f1 x.f3.f2),st.2.1,st.2.2.1,st.2.2.2),true)
 else if x.f0=3 then ((st.1,st.2.1++[evalE st.1 x.f3.f0 x.f3.f1 x.f3.f2],st.2.2.1,st.2.2.2),true)
 else if x.f0=4 then (st,evalE st.1 x.f3.f0 x.f3.f1 x.f3.f2 != 0)
 else (st,true)
def effInv {ζ:Type} (M:Int) (Q:Int→ζ→Prop) (n:Nat) (st:List Int×List Int×Int×ζ):Prop:=vok st.1∧0≤st.2.2.1∧(st.2.1.length:Int)+st.2.2.1+(n:Int)≤M∧Q st.2.2.1 st.2.2.2
theorem effInv_mono {ζ:Type} {M:Int} {Q:Int→ζ→Prop} (m n:Nat) (st:List Int×List Int×Int×ζ) (h:m≤n) (hp:effInv M Q n st):effInv M Q m st:=⟨hp.1,hp.2.1,by have:=hp.2.2.1;omega,hp.2.2.2⟩
def snOk {ζ:Type} (M:Int) (Q:Int→ζ→Prop) (sn:ζ→Int→Int→ζ×Int):Prop:=∀z u m,0≤u→u<M→0≤m→m≤3→Q u z→(-1000000≤(sn z u m).2∧(sn z u m).2≤1000000)∧Q (u+1) (sn z u m).1
theorem effC_leaf {ζ:Type} {M:Int} {Q:Int→ζ→Prop} {sn:ζ→Int→Int→ζ×Int} (hs:snOk M Q sn) {x:S80} (hx:stOk x=true) (n:Nat) (st:List Int×List Int×Int×ζ) (h4:x.f0≠4) (h5:x.f0≠5) (hp:effInv M Q (n+1) st):effInv M Q n (effC sn st x).1:=by
 obtain⟨v,s,u,z⟩:=st
 obtain⟨p1,p2,p3,p4⟩:=hp
 simp only at p1 p2 p3 p4
 unfold effC effInv
 simp only
 by_cases k2:x.f0=2
 ·obtain⟨a1,a2⟩:=stOk_sense hx k2
  obtain⟨b1,b2⟩:=hs z u x.f2 p2 (by omega) a2.1 a2.2 p4
  rw[if_pos k2]
  exact⟨vok_set p1 _ b1,by simp only;omega,by simp only;omega,b2⟩
 rw[if_neg k2]
 by_cases k1:x.f0=1
 ·rw[if_pos k1]
  exact⟨vok_set p1 _ (evalE_in p1 (stOk_set hx k1).2),p2,by simp only;omega,p4⟩
 rw[if_neg k1]
 by_cases k3:x.f0=3
 ·rw[if_pos k3]
  exact⟨p1,p2,by simp only[List.length_append,List.length_singleton];omega,p4⟩
 rw[if_neg k3,if_neg h4]
 exact⟨p1,p2,by simp only;omega,p4⟩
theorem effC_node {ζ:Type} {M:Int} {Q:Int→ζ→Prop} (sn:ζ→Int→Int→ζ×Int) {x:S80} (n:Nat) (st:List Int×List Int×Int×ζ) (o:x.f0=4∨x.f0=5) (hp:effInv M Q n st):effInv M Q n (effC sn st x).1:=by
 unfold effC
 rw[if_neg (by omega),if_neg (by omega),if_neg (by omega)]
 split<;>exact hp
theorem effI_step {ζ:Type} {M:Int} (hM:M≤1000000000000) {Q:Int→ζ→Prop} {sn:ζ→Int→Int→ζ×Int} {sense:ζ→Int→Int→Option (ζ×Int)} (he:∀z u m,0≤u→u<M→0≤m→m≤3→Q u z→sense z u m=some (sn z u m)) (k:Nat) (hk:0<k)
  {x:S80} (hx:stOk x=true) (h6:x.f0≠6) (n:Nat) (st:List Int×List Int×Int×ζ) (hn:x.f0≠4→x.f0≠5→0<n) (hp:effInv M Q n st):effStep sense k st x=some (effC sn st x):=by
 obtain⟨v,s,u,z⟩:=st
 obtain⟨p1,p2,p3,p4⟩:=hp
 simp only at p1 p2 p3 p4
 unfold effStep effC
 simp only
 by_cases k2:x.f0=2
 ·obtain⟨a1,a2⟩:=stOk_sense hx k2
  have:=hn (by omega) (by omega)
  rw[if_pos k2,if_pos k2,he z u x.f2 p2 (by omega) a2.1 a2.2 p4]
  simp only[Option.bind_some]
  rw[if_pos ⟨a1.1,by rw[p1.1];omega⟩,w64 (by omega) (by omega)]
 rw[if_neg k2,if_neg k2]
 by_cases k1:x.f0=1
 ·obtain⟨a1,a2⟩:=stOk_set hx k1
  rw[if_pos k1,if_pos k1,evalI_at p1 a2 k hk]
  simp only[Option.bind_some]
  rw[if_pos ⟨a1.1,by rw[p1.1];omega⟩]
 rw[if_neg k1,if_neg k1]
 by_cases k3:x.f0=3
 ·rw[if_pos k3,if_pos k3,evalI_at p1 (stOk_expr hx (.inl k3)) k hk]
  simp only[Option.bind_some]
  rw[if_pos (by omega)]
 rw[if_neg k3,if_neg k3]
 by_cases k4:x.f0=4
 ·rw[if_pos k4,if_pos k4,evalI_at p1 (stOk_expr hx (.inr k4)) k hk]
  rfl
 ·rw[if_neg k4,if_neg k4]
def nextT (l:List S64) (v:List Int) (i:Int):Int:=(Int.tmod (Int.tmod (evalE v (rd_T64 l i).f1.f0 (rd_T64 l i).f1.f1 (rd_T64 l i).f1.f2) (l.length:Int)+(l.length:Int)) (l.length:Int))
theorem progOk_task {l:List S64} (h:progOk l=true) {i:Int} (h0:0≤i) (h1:i<(l.length:Int)):rd_T64 l i∈l∧blockOk (rd_T64 l i).f0=true∧exprOk (rd_T64 l i).f1.f0 (rd_T64 l i).f1.f1 (rd_T64 l i).f1.f2=true:=by
 have hm:rd_T64 l i∈l:=by
  unfold rd_T64
  rw[List.getD_eq_getElem?_getD,List.getElem?_eq_getElem (by omega)]
  exact List.getElem_mem _
 rw[progOk,Bool.and_eq_true,List.all_eq_true] at h
 have:=h.2 _ hm
 rw[taskOkB,Bool.and_eq_true] at this
 exact⟨hm,this⟩
theorem hasTaskI_at (l:List S64) (h:∀y∈l,y.f0.length≤1048576) (hl:l.length≤1048576) (i:Int) (k:Nat) (hk:2097160<k):impl_hasTask.f k l i=some (progOk l&&decide (0≤i∧i<(l.length:Int))):=by
 unfold impl_hasTask.f
 rw[progOkI_at l h k hk,w64 (by omega) (by omega),within_eq]
 simp only[Option.bind_some]
 have e:decide (0≤i∧i≤(l.length:Int) - 1)=decide (0≤i∧i<(l.length:Int)):=by congr 1;apply propext;constructor<;>intro h<;>omega
 rw[e]
 cases progOk l<;>simp
theorem nextI_at (l:List S64) (hp:progOk l=true) {v:List Int} (hv:vok v) {i:Int} (h0:0≤i) (h1:i<(l.length:Int)) (k:Nat) (hk:2097160<k):impl_NextTask.f k l v i=some (nextT l v i):=by
 obtain⟨q1,q2⟩:=progOk_len hp
 obtain⟨_,_,he⟩:=progOk_task hp h0 h1
 unfold impl_NextTask.f nextT
 rw[hasTaskI_at l (fun y hy=>by have:=(q2 y hy).2;omega) (by omega) i k hk,hp,varsI_ok hv]
 simp only[Option.bind_some,Bool.true_and,decide_eq_true_eq]
 have b:=evalE_in hv he
 have hn:(0:Int)<(l.length:Int):=by omega
 have b2:=Int.tmod_lt_of_pos (evalE v (rd_T64 l i).f1.f0 (rd_T64 l i).f1.f1 (rd_T64 l i).f1.f2) hn
 have b3:=Int.lt_tmod_of_pos (evalE v (rd_T64 l i).f1.f0 (rd_T64 l i).f1.f1 (rd_T64 l i).f1.f2) hn
 rw[if_pos ⟨h0,h1⟩,if_pos trivial,if_pos h0,if_pos h1,evalI_at hv he k (by omega)]
 simp only[Option.bind_some]
 rw[if_neg (by omega),w64 (by omega) (by omega)]
def effRun {ζ:Type} (sn:ζ→Int→Int→ζ×Int) (T:Bk) (v:List Int) (z:ζ):List Int×List Int×Int×ζ:=runT (effC sn) T (v,[],0,z)
theorem effectI_at {ζ:Type} {Q:Int→ζ→Prop} {sn:ζ→Int→Int→ζ×Int} {sense:ζ→Int→Int→Option (ζ×Int)} (l:List S64) (hp:progOk l=true) {v:List Int} (hv:vok v) {i:Int} (h0:0≤i) (h1:i<(l.length:Int)) (T:Bk) (ok:T.ok) (hT:T.flat=(rd_T64 l i).f0)
  (hs:snOk (lng T) Q sn) (he:∀z u m,0≤u→u<(lng T:Int)→0≤m→m≤3→Q u z→sense z u m=some (sn z u m)) (z:ζ) (hz:Q 0 z) (k:Nat) (hk:2097160<k):
  impl_effect.f sense k l i v z=some (((effRun sn T v z).1,(effRun sn T v z).2.1,nextT l (effRun sn T v z).1 i,(effRun sn T v z).2.2.1),(effRun sn T v z).2.2.2)∧effInv (lng T) Q 0 (effRun sn T v z):=by
 obtain⟨_,hb,_⟩:=progOk_task hp h0 h1
 rw[←hT] at hb
 obtain⟨_,_,_,hl,hss⟩:=blockOk_tree hb
 have hM:=lng_24 ok hss hl
 unfold impl_effect.f slices_Clone_int_int.f
 have hw:=walkT_run (effStep sense k) (effC sn) (effInv (lng T) Q) effInv_mono T ok
  (fun x hx h4 h5 h6 n s hq=>⟨effI_step (by omega) he k (by omega) (hss x hx) h6 (n+1) s (fun _ _=>by omega) hq,effC_leaf hs (hss x hx) n s h4 h5 hq⟩)
  (fun x hx o n s hq=>⟨effI_step (by omega) he k (by omega) (hss x hx) (by omega) n s (fun h4 h5=>absurd o (by omega)) hq,effC_node sn n s o hq⟩) 0 (v,[],0,z) ⟨hv,by simp,by simp,hz⟩
 rw[if_pos (by rw[hv.1];omega)]
 simp only[Option.bind_some]
 rw[if_pos ⟨h0,h1⟩,←hT,walkI_at _ T ok hss (by omega) k (by omega),hw.1]
 simp only[Option.bind_some]
 change (impl_NextTask.f k l (effRun sn T v z).1 i).bind _=_∧_
 rw[show impl_NextTask.f k l (effRun sn T v z).1 i=_ from nextI_at l hp hw.2.1 h0 h1 k hk]
 exact⟨rfl,hw.2⟩
theorem isReadI_eq (l:List Int) (a:Int):impl_isReading.f l a=some (decide (0≤a∧a≤1000000)&&l.all valP):=by
 unfold impl_isReading.f
 rw[within_eq,areValI_eq]
 by_cases h:0≤a∧a≤1000000
 ·simp[h]
 ·simp[h]
def liveN (r:List Int) (a:Int) (z:List Int) (n m:Int):List Int×Int:=(z++[sensorOf r m (a+n)],sensorOf r m (a+n))
def liveQ (u:Int) (z:List Int):Prop:=(z.length:Int)=u∧z.all valP=true
theorem sensorOf_in (l:List Int) (s n:Int): -1000000≤sensorOf l s n∧sensorOf l s n≤1000000:=by
 unfold sensorOf
 split
 ·omega
 split
 ·split
  ·omega
  ·exact sat_in _
 ·omega
theorem liveN_ok (r:List Int) (a M:Int):snOk M liveQ (liveN r a):=fun z u m _ _ _ _ hq=>by
 refine⟨sensorOf_in _ _ _,?_,?_⟩
 ·have:=hq.1
  simp only[liveN,List.length_append,List.length_singleton]
  omega
 ·simp only[liveN,List.all_append,List.all_cons,List.all_nil,Bool.and_true,Bool.and_eq_true]
  exact⟨hq.2,(valP_iff _).2 (sensorOf_in _ _ _)⟩
theorem rd_last (z:List Int) (y n:Int) (h:(z.length:Int)=n):rd (z++[y]) n=y:=by
 unfold rd
 rw[show n.toNat=z.length by omega]
 simp
theorem liveS_at (r:List Int) (a:Int) (h0:0≤a) (h1:a≤1000000) (z:List Int) (n m:Int) (hn:0≤n) (hM:n<1000000000000) (hq:liveQ n z):liveS r a z n m=some (liveN r a z n m):=by
 unfold liveS liveN
 rw[w64 (by omega) (by omega),readSensorI_eq]
 have:=hq.1
 simp only[Option.bind_some]
 rw[if_pos ⟨by omega,by omega,by omega⟩,rd_last _ _ _ hq.1]
theorem sensesI_at (l:List S64) (hp:progOk l=true) {v:List Int} (hv:vok v) {i:Int} (h0:0≤i) (h1:i<(l.length:Int)) {r:List Int} (hr:r.all valP=true) {a:Int} (a0:0≤a) (a1:a≤1000000) (T:Bk) (ok:T.ok) (hT:T.flat=(rd_T64 l i).f0) (k:Nat) (hk:2097160<k):
  impl_SensesOf.f k l i v r a=some (effRun (liveN r a) T v []).2.2.2∧effInv (lng T) liveQ 0 (effRun (liveN r a) T v []):=by
 obtain⟨q1,q2⟩:=progOk_len hp
 have hM:lng T≤282429536481:=by
  obtain⟨_,hb,_⟩:=progOk_task hp h0 h1
  obtain⟨_,_,_,h24,hs⟩:=blockOk_tree hb
  exact lng_24 ok (by rw[hT];exact hs) (by rw[hT];exact h24)
 obtain⟨e1,e2⟩:=effectI_at (sense:=liveS r a) l hp hv h0 h1 T ok hT (liveN_ok r a _) (fun z n m b c _ _ hq=>liveS_at r a a0 a1 z n m b (by omega) hq) [] ⟨by simp,rfl⟩ k hk
 unfold impl_SensesOf.f
 rw[hasTaskI_at l (fun y hy=>by have:=(q2 y hy).2;omega) (by omega) i k hk,hp,varsI_ok hv,isReadI_eq,hr,e1]
 simp only[Option.bind_some,Bool.true_and,if_true,decide_eq_true_eq,Bool.and_true]
 rw[if_pos ⟨h0,h1⟩,if_pos ⟨a0,a1⟩]
 exact⟨rfl,e2⟩
theorem le_of_mono {α:Type} {f:Nat→Option α} (hm:∀k,LeO (f k) (f (k+1))) {k k':Nat} {r:α} (h:f k=some r) (hk:k≤k'):f k'=some r:=by
 obtain⟨d,rfl⟩:=Nat.exists_eq_add_of_le hk
 induction d with
 |zero=>exact h
 |succ d ih=>exact hm _ _ (ih (by omega))
theorem subS_eq (a b:Int) (k:Nat) (hk:0<k):spec_SubValues.f k a b=some (sat (sat a - sat b)):=by
 unfold spec_SubValues.f
 simp only[saturateS_eq _ k hk,Option.bind_some]
 have h1:=sat_in a
 have h2:=sat_in b
 rw[w64 (by omega) (by omega)]
theorem mulS_eq (a b:Int) (k:Nat) (hk:0<k):spec_MulValues.f k a b=some (sat (sat a*sat b)):=by
 unfold spec_MulValues.f
 simp only[saturateS_eq _ k hk,Option.bind_some]
 have h:=mul_in (sat_in a) (sat_in b)
 rw[w64 (by omega) (by omega)]
theorem valueS_at {v:List Int} (h:vok v) {n:Int} (h0: -8≤n) (h1:n≤999):spec_l03Value.f v n=some (opv v n):=by
 unfold spec_l03Value.f opv
 by_cases c:n<0
 ·rw[if_pos c,if_pos c,w64 (by omega) (by omega),if_pos (by omega),if_pos (by rw[h.1];omega)]
 ·rw[if_neg c,if_neg c]
theorem evalS_at {v:List Int} (h:vok v) {a b c:Int} (he:exprOk a b c=true) (k:Nat) (hk:0<k):spec_l03Eval.f k v a b c=some (evalE v a b c):=by
 obtain⟨_,hb,hc⟩:=(exprOk_iff a b c).1 he
 unfold spec_l03Eval.f
 rw[valueS_at h hb.1 hb.2,valueS_at h hc.1 hc.2]
 simp only[Option.bind_some,addS_eq _ _ k hk,subS_eq _ _ k hk,mulS_eq _ _ k hk]
 unfold evalE spec_l03Bit.f
 simp only[decide_eq_true_eq,beq_iff_eq]
 repeat' split
 all_goals first|rfl|simp_all
theorem varsS_l (v:List Int) (hv:v.length≤1048576) (d:Nat):∀(k:Nat) (i:Int),0≤i→i+(d:Int)=(v.length:Int)→d<k→spec_VarsOk.l0 k v i=some ((v.drop i.toNat).all valP&&decide (v.length=8)):=by
 induction d with
 |zero=>
  intro k i h0 hi hk
  obtain⟨k,rfl⟩:=succ_of hk
  rw[spec_VarsOk.l0,if_neg (by omega),List.drop_eq_nil_of_le (by omega)]
  congr 1
  by_cases h:v.length=8
  ·simp[h]
  ·have:¬(v.length:Int)=8:=by omega
   simp[h,this]
 |succ d ih=>
  intro k i h0 hi hk
  obtain⟨k,rfl⟩:=succ_of hk
  rw[spec_VarsOk.l0,if_pos (by omega),if_pos h0,isValS_eq,w64 (by omega) (by omega),drop_rd h0 (by omega)]
  simp only[Option.bind_some,List.all_cons]
  by_cases c:valP (rd v i)=true
  ·rw[if_pos c,ih k (i+1) (by omega) (by omega) (by omega),c]
   simp
  ·rw[if_neg c]
   simp[c]
theorem varsS_at (v:List Int) (hv:v.length≤1048576) (k:Nat) (hk:v.length<k):spec_VarsOk.f k v=some (decide (v.length=8)&&v.all valP):=by
 unfold spec_VarsOk.f
 rw[varsS_l v hv v.length k 0 (by omega) (by omega) hk]
 simp[Bool.and_comm]
def snX (X:List Int→Int→Int):List Int→Int→Int→List Int×Int:=fun z _ m=>(z++[X z m],X z m)
def pr (st:List Int×List Int×Int×List Int):RunS:=(st.1,st.2.1,st.2.2.2)
def lenQ:Int→List Int→Prop:=fun u z=>(z.length:Int)=u
theorem execStep_at {M:Int} (hM:M≤1000000000000) {X:List Int→Int→Int} {ll lr:List Int} {at_:Int} {live:Bool} (hX:∀(z:List Int) (m:Int) (k:Nat),0<k→(z.length:Int)<M→0≤m→m≤3→senseX k ll lr at_ live z m=some (X z m)) (k:Nat) (hk:0<k)
  {x:S80} (hx:stOk x=true) (h4:x.f0≠4) (h5:x.f0≠5) (n:Nat) (st:List Int×List Int×Int×List Int) (hp:effInv M lenQ (n+1) st):execStep k ll lr at_ live (pr st) x=some (pr (effC (snX X) st x).1):=by
 obtain⟨v,s,u,z⟩:=st
 obtain⟨p1,p2,p3,p4⟩:=hp
 simp only[lenQ] at p1 p2 p3 p4
 unfold execStep effC pr
 simp only
 by_cases k1:x.f0=1
 ·obtain⟨a1,a2⟩:=stOk_set hx k1
  rw[if_pos k1,evalS_at p1 a2 k hk,if_neg (by omega),if_pos k1]
  simp only[Option.bind_some]
  rw[if_pos ⟨a1.1,by rw[p1.1];omega⟩]
 rw[if_neg k1]
 by_cases k2:x.f0=2
 ·obtain⟨a1,a2⟩:=stOk_sense hx k2
  rw[if_pos k2,if_pos k2]
  unfold spec_l12Sense.f
  rw[hX z x.f2 k hk (by omega) a2.1 a2.2]
  simp only[Option.bind_some]
  rw[if_pos (by omega)]
  simp only[Option.bind_some]
  rw[if_pos ⟨a1.1,by rw[p1.1];omega⟩]
  rfl
 rw[if_neg k2,if_neg k2,if_neg k1]
 by_cases k3:x.f0=3
 ·rw[if_pos k3,if_pos k3,evalS_at p1 (stOk_expr hx (.inl k3)) k hk]
  simp only[Option.bind_some]
  rw[if_pos (by omega)]
 ·rw[if_neg k3,if_neg k3,if_neg h4]
def cntT (st:List Int×List Int×Int×List Int) (x:S80):Int:=if x.f0=4 then (if (evalE st.1 x.f3.f0 x.f3.f1 x.f3.f2 != 0)=true then 1 else 0) else x.f2
theorem execN_at {M:Int} (k:Nat) (hk:0<k) {x:S80} (hx:stOk x=true) (o:x.f0=4∨x.f0=5) (n:Nat) (st:List Int×List Int×Int×List Int) (hp:effInv M lenQ n st):execN k (pr st) x=some (cntT st x):=by
 obtain⟨v,s,u,z⟩:=st
 obtain⟨p1,_⟩:=hp
 unfold execN cntT pr
 simp only
 by_cases k4:x.f0=4
 ·rw[if_pos k4,if_pos k4,evalS_at p1 (stOk_expr hx (.inr k4)) k hk]
  simp only[Option.bind_some]
  unfold spec_l03Bit.f
  split<;>rfl
 ·rw[if_neg k4,if_neg k4]
theorem effC_node_eq {ζ:Type} (sn:ζ→Int→Int→ζ×Int) {x:S80} (o:x.f0=4∨x.f0=5) (st:List Int×List Int×Int×ζ):(effC sn st x).1=st:=by
 unfold effC
 rw[if_neg (by omega),if_neg (by omega),if_neg (by omega)]
 split<;>rfl
theorem cnt_eq (X:List Int→Int→Int) {x:S80} (o:x.f0=4∨x.f0=5) (st:List Int×List Int×Int×List Int):(if x.f0=4 then (if (effC (snX X) st x).2=true then (1:Int) else 0) else x.f2)=cntT st x:=by
 unfold cntT effC
 by_cases k4:x.f0=4
 ·simp[k4]
 ·rw[if_neg k4,if_neg k4]
theorem execRep_at {P:Nat→(List Int×List Int×Int×List Int)→Prop} {L:Nat} {f:Nat→RunS→Option RunS} {g:(List Int×List Int×Int×List Int)→List Int×List Int×Int×List Int} (hm:∀k s,LeO (f k s) (f (k+1) s)) (h:∀n st,P (L+n) st→(∃k,f k (pr st)=some (pr (g st)))∧P n (g st)):∀(c m:Nat) (st:List Int×List Int×Int×List Int),P (c*L+m) st→(∃k,execRep (f k) c (pr st)=some (pr (rep g c st)))∧P m (rep g c st)
 |0,m,st,hp=>⟨⟨0,rfl⟩,by show P m st;simpa using hp⟩
 |c+1,m,st,hp=>by
  have e:(c+1)*L+m=L+(c*L+m):=by rw[Nat.succ_mul];omega
  rw[e] at hp
  obtain⟨⟨k1,h1⟩,h2⟩:=h _ st hp
  obtain⟨⟨k2,h3⟩,h4⟩:=execRep_at hm h c m (g st) h2
  refine⟨⟨k1+k2,?_⟩,h4⟩
  rw[execRep,le_of_mono (fun k=>hm k (pr st)) h1 (k':=k1+k2) (by omega)]
  exact le_of_mono (f:=fun k=>execRep (f k) c (pr (g st))) (fun k=>execRep_mono (fun s=>hm k s) c _) h3 (by omega)
theorem execS_t {M:Int} (hM:M≤1000000000000) {X:List Int→Int→Int} {ll lr:List Int} {at_:Int} {live:Bool} (hX:∀(z:List Int) (m:Int) (k:Nat),0<k→(z.length:Int)<M→0≤m→m≤3→senseX k ll lr at_ live z m=some (X z m)) (hs:snOk M lenQ (snX X)):
  ∀(T:Bk),T.ok→(∀s∈T.flat,stOk s=true)→∀(pre post:List S80) (i e:Int) (n:Nat) (st:List Int×List Int×Int×List Int) (r:RunS),i=(pre.length:Int)→i+(T.flat.length:Int)≤e→(pre++(T.flat++post)).length≤1048576→effInv M lenQ (lng T+n) st→
   effInv M lenQ n (runT (effC (snX X)) T st)∧((∃k,spec_l12Exec.l0 ll lr at_ live k (pre++(T.flat++post)) e (i+(T.flat.length:Int)) (pr (runT (effC (snX X)) T st))=some r)→∃k,spec_l12Exec.l0 ll lr at_ live k (pre++(T.flat++post)) e i (pr st)=some r)
 | .nil,_,_,pre,post,i,e,n,st,r,_,_,_,hp=>⟨by simpa [lng,runT] using hp,fun next=>by simpa [Bk.flat,runT] using next⟩
 | .leaf x t,ok,hst,pre,post,i,e,n,st,r,hi,hle,hl,hp=>by
  simp only[Bk.flat,List.length_cons,List.length_append,List.cons_append,runT] at hl hle ⊢
  have hx:=hst x (by simp[Bk.flat])
  have ea:=at_mid pre (t.flat++post) x hi
  have e0:lng (.leaf x t)+n=(lng t+n)+1:=by simp only[lng];omega
  rw[e0] at hp
  have h1:=effC_leaf hs hx _ st ok.1 ok.2.1 hp
  have hE:=fun k (hk:0<k)=>execStep_at hM hX k hk hx ok.1 ok.2.1 _ st hp
  obtain⟨i1,i2⟩:=execS_t hM hX hs t ok.2.2.2 (fun y hy=>hst y (by simp[Bk.flat,hy])) (pre++[x]) post (i+1) e n (effC (snX X) st x).1 r (by simp only[List.length_append,List.length_cons,List.length_nil];omega) (by omega) (by simp only[List.length_append,List.length_cons,List.length_nil];omega) h1
  refine⟨i1,fun next=> ?_⟩
  simp only[List.append_assoc,List.singleton_append] at i2
  obtain⟨k,e2⟩:=i2 (by
   rw[show i+1+(t.flat.length:Int)=i+((t.flat.length+1:Nat):Int) by omega]
   exact next)
  refine⟨(k+1)+1,?_⟩
  have e3:=le_of_mono (fun k=>(spec_l12Exec.mono_l ll lr at_ live k).2 (pre++x::(t.flat++post)) e (i+1) (pr (effC (snX X) st x).1)) e2 (k':=k+1) (by omega)
  have n45:¬(x.f0=4∨x.f0=5):=fun h=>h.elim ok.1 ok.2.1
  rw[spec_l12Exec.l0,if_pos (by omega),if_pos ⟨by omega,by simp only[List.length_append,List.length_cons];omega⟩,ea,if_neg n45,hE (k+1) (by omega)]
  simp only[Option.bind_some]
  rw[w64 (x:=i+1) (by omega) (by omega)]
  exact e3
 | .node x b c t,ok,hst,pre,post,i,e,n,st,r,hi,hle,hl,hp=>by
  obtain⟨o,ob,oc,ot⟩:=ok
  simp only[Bk.flat,List.length_cons,List.length_append,List.cons_append,List.append_assoc,runT] at hl hle ⊢
  have hx:=hst x (by simp[Bk.flat])
  have hbs:∀y∈b.flat,stOk y=true:=fun y hy=>hst y (by simp[Bk.flat,hy])
  have ea:=at_mid pre (b.flat++c::(t.flat++post)) x hi
  have hend:∀k,2*b.flat.length+4<k→spec_l05End.f k (pre++x::(b.flat++c::(t.flat++post))) i=some (i+1+(b.flat.length:Int)):=fun k hk=>endS_at pre (t.flat++post) x c b ob o oc i hi (by simp only[List.length_append,List.length_cons];omega) k hk
  rw[cnt_eq X o st,effC_node_eq (snX X) o st]
  have hN:=fun k (hk:0<k)=>execN_at k hk hx o _ st hp
  have hle2:(cntT st x).toNat≤(if x.f0=4 then 1 else x.f2.toNat):=by
   unfold cntT
   by_cases h4:x.f0=4
   ·rw[if_pos h4,if_pos h4];split<;>simp
   ·rw[if_neg h4,if_neg h4];exact Nat.le_refl _
  have hcn:cntT st x≤9223372036854775807:=by
   unfold cntT
   by_cases h4:x.f0=4
   ·rw[if_pos h4];split<;>omega
   ·rw[if_neg h4]
    have:=stOk_loop hx (by omega:x.f0=5)
    omega
  have hp':effInv M lenQ ((cntT st x).toNat*lng b+(lng t+n)) st:=by
   refine effInv_mono _ _ _ ?_ hp
   have e0:lng (.node x b c t)+n=(if x.f0=4 then 1 else x.f2.toNat)*lng b+(lng t+n):=by simp only[lng];omega
   rw[e0]
   exact Nat.add_le_add_right (Nat.mul_le_mul_right (lng b) hle2) _
  obtain⟨⟨kr,er⟩,hp2⟩:=execRep_at (P:=effInv M lenQ) (L:=lng b) (f:=fun k s'=>spec_l12Exec.f ll lr at_ live k (pre++x::(b.flat++c::(t.flat++post))) (i+1) (i+1+(b.flat.length:Int)) s') (g:=runT (effC (snX X)) b) (fun k s=>(spec_l12Exec.mono_l ll lr at_ live k).1 _ _ _ s) (fun m st' hq=>by
   obtain⟨j1,j2⟩:=execS_t hM hX hs b ob hbs (pre++[x]) (c::(t.flat++post)) (i+1) (i+1+(b.flat.length:Int)) m st' (pr (runT (effC (snX X)) b st')) (by simp only[List.length_append,List.length_cons,List.length_nil];omega) (by omega) (by simp only[List.length_append,List.length_cons,List.length_nil];omega) hq
   refine⟨?_,j1⟩
   simp only[List.append_assoc,List.singleton_append] at j2
   obtain⟨k,e2⟩:=j2 ⟨1,by rw[spec_l12Exec.l0,if_neg (by omega)]⟩
   exact⟨k+1,by rw[spec_l12Exec.f];exact e2⟩) (cntT st x).toNat (lng t+n) st hp'
  obtain⟨i1,i2⟩:=execS_t hM hX hs t ot (fun y hy=>hst y (by simp[Bk.flat,hy])) (pre++x::(b.flat++[c])) post (i+1+(b.flat.length:Int)+1) e n _ r (by simp only[List.length_append,List.length_cons,List.length_nil];omega) (by omega) (by simp only[List.length_append,List.length_cons,List.length_nil];omega) hp2
  refine⟨i1,fun next=> ?_⟩
  simp only[List.append_assoc,List.cons_append,List.nil_append] at i2
  obtain⟨k,e2⟩:=i2 (by
   rw[show i+1+(b.flat.length:Int)+1+(t.flat.length:Int)=i+((b.flat.length+(t.flat.length+1)+1:Nat):Int) by omega]
   exact next)
  refine⟨(k+kr+2*b.flat.length+10)+1,?_⟩
  rw[spec_l12Exec.l0,if_pos (by omega),if_pos ⟨by omega,by simp only[List.length_append,List.length_cons];omega⟩,ea,if_pos o,hend _ (by omega)]
  simp only[Option.bind_some]
  rw[hN _ (by omega)]
  simp only[Option.bind_some]
  rw[if_pos hcn,w64 (x:=i+1) (by omega) (by omega),w64 (x:=i+1+(b.flat.length:Int)+1) (by omega) (by omega)]
  have er2:=le_of_mono (f:=fun k=>execRep (fun s'=>spec_l12Exec.f ll lr at_ live k (pre++x::(b.flat++c::(t.flat++post))) (i+1) (i+1+(b.flat.length:Int)) s') (cntT st x).toNat (pr st)) (fun k=>execRep_mono (fun s=>(spec_l12Exec.mono_l ll lr at_ live k).1 _ _ _ s) _ _) er (k':=k+kr+2*b.flat.length+10) (by omega)
  rw[er2]
  simp only[Option.bind_some]
  exact le_of_mono (fun k=>(spec_l12Exec.mono_l ll lr at_ live k).2 _ _ _ _) e2 (by omega)
def liveX (r:List Int) (a:Int):List Int→Int→Int:=fun z m=>sensorOf r m (a+(z.length:Int))
theorem senseX_live (r:List Int) {a:Int} (a0:0≤a) (a1:a≤1000000) (z:List Int) (m:Int) (k:Nat) (hk:0<k) (hz:(z.length:Int)≤1000000000000):senseX k [] r a true z m=some (liveX r a z m):=by
 unfold senseX liveX
 rw[if_pos rfl,w64 (by omega) (by omega)]
 exact readSensorS_eq r m _ k hk
theorem liveX_ok (r:List Int) (a M:Int):snOk M lenQ (snX (liveX r a)):=fun z n m h0 h1 _ _ hq=>by
 unfold lenQ at hq ⊢
 unfold snX liveX
 simp only
 exact⟨sensorOf_in _ _ _,by rw[List.length_append,List.length_singleton];omega⟩
theorem effC_live (r:List Int) (a:Int) (x:S80) (st:List Int×List Int×Int×List Int) (hq:(st.2.2.2.length:Int)=st.2.2.1):effC (snX (liveX r a)) st x=effC (liveN r a) st x∧((effC (liveN r a) st x).1.2.2.2.length:Int)=(effC (liveN r a) st x).1.2.2.1:=by
 obtain⟨v,s,n,z⟩:=st
 simp only at hq
 unfold effC
 simp only
 by_cases k2:x.f0=2
 ·rw[if_pos k2,if_pos k2]
  simp only[snX,liveN,liveX,hq,List.length_append,List.length_singleton]
  exact⟨trivial,by omega⟩
 rw[if_neg k2,if_neg k2]
 by_cases k1:x.f0=1
 ·rw[if_pos k1]
  exact⟨rfl,hq⟩
 rw[if_neg k1]
 by_cases k3:x.f0=3
 ·rw[if_pos k3]
  exact⟨rfl,hq⟩
 rw[if_neg k3]
 by_cases k4:x.f0=4
 ·rw[if_pos k4]
  exact⟨rfl,hq⟩
 ·rw[if_neg k4]
  exact⟨rfl,hq⟩
theorem rep_live {σ:Type} {Q:σ→Prop} {f g:σ→σ} (h:∀s,Q s→f s=g s∧Q (g s)):∀(n:Nat) (s:σ),Q s→rep f n s=rep g n s∧Q (rep g n s)
 |0,s,q=>⟨rfl,q⟩
 |n+1,s,q=>by
  obtain⟨a,b⟩:=h s q
  rw[rep,rep,a]
  exact rep_live h n _ b
theorem run_live (r:List Int) (a:Int):∀(T:Bk) (st:List Int×List Int×Int×List Int),(st.2.2.2.length:Int)=st.2.2.1→runT (effC (snX (liveX r a))) T st=runT (effC (liveN r a)) T st∧((runT (effC (liveN r a)) T st).2.2.2.length:Int)=(runT (effC (liveN r a)) T st).2.2.1
 | .nil,st,h=>⟨rfl,h⟩
 | .leaf x t,st,h=>by
  obtain⟨p,q⟩:=effC_live r a x st h
  rw[runT,runT,p]
  exact run_live r a t _ q
 | .node x b e t,st,h=>by
  obtain⟨p,q⟩:=effC_live r a x st h
  obtain⟨p2,q2⟩:=rep_live (Q:=fun s:List Int×List Int×Int×List Int=>(s.2.2.2.length:Int)=s.2.2.1) (fun s hs=>run_live r a b s hs) (if x.f0=4 then (if (effC (liveN r a) st x).2=true then (1:Int) else 0) else x.f2).toNat _ q
  rw[runT,runT,p,p2]
  exact run_live r a t _ q2
theorem sensesS_at (l:List S64) (hp:progOk l=true) {v:List Int} (hv:vok v) {i:Int} (h0:0≤i) (h1:i<(l.length:Int)) (r:List Int) {a:Int} (a0:0≤a) (a1:a≤1000000) (T:Bk) (ok:T.ok) (hT:T.flat=(rd_T64 l i).f0):
  ∃k0,∀k,k0≤k→spec_SensesOf.run k l i v r a=some (effRun (liveN r a) T v []).2.2.2:=by
 obtain⟨_,hb,_⟩:=progOk_task hp h0 h1
 rw[←hT] at hb
 obtain⟨_,_,_,hl,hss⟩:=blockOk_tree hb
 have hM:=lng_24 ok hss hl
 obtain⟨i1,i2⟩:=execS_t (M:=lng T) (by omega) (X:=liveX r a) (ll:=[]) (lr:=r) (at_:=a) (live:=true) (fun z m k hk hz _ _=>senseX_live r a0 a1 z m k hk (by omega)) (liveX_ok r a _) T ok hss [] [] 0 (T.flat.length:Int) 0 (v,[],0,[]) (pr (runT (effC (snX (liveX r a))) T (v,[],0,[]))) rfl (by omega) (by simp only[List.nil_append,List.append_nil];omega) ⟨hv,by simp,by simp,by simp[lenQ]⟩
 obtain⟨k,e⟩:=i2 ⟨1,by rw[spec_l12Exec.l0,if_neg (by omega)]⟩
 simp only[List.nil_append,List.append_nil] at e
 obtain⟨p,q⟩:=run_live r a T (v,[],0,[]) rfl
 rw[p] at e i1
 have b1:=i1.2.1
 have b2:=i1.2.2.1
 refine⟨k+2,fun k' hk=> ?_⟩
 obtain⟨k',rfl⟩:=succ_of (show 0<k' by omega)
 unfold spec_SensesOf.run effRun
 rw[if_pos ⟨by rw[hv.1];omega,h0,h1⟩,←hT,spec_l12Exec.f]
 have e2:=le_of_mono (fun k=>(spec_l12Exec.mono_l [] r a true k).2 _ _ _ _) e (k':=k') (by omega)
 rw[show((v,[],[]):RunS)=pr (v,[],0,[]) from rfl,e2]
 simp only[Option.bind_some,pr]
 rw[if_pos (by omega)]
theorem up_small:∀(m:Nat) (k:Int),0≤k→k+(m:Int)≤4611686018427387904→Sep.up m k=k+(m:Int)
 |0,k,_,_=>by simp[Sep.up]
 |m+1,k,h0,h1=>by
  rw[Sep.up,w64 (by omega) (by omega),up_small m (k+1) (by omega) (by omega)]
  omega
theorem markT_l:∀(l:List S64) (k:Int),(∀y∈l,y.f0.length≤1048576)→0≤k→k+(l.length:Int)*6291459≤4611686018427387904→k≤l.foldl markT k∧l.foldl markT k≤k+(l.length:Int)*6291459
 |[],k,_,_,_=>by simp
 |t::l,k,h,h0,h1=>by
  have ht:=h t (by simp)
  rw[List.length_cons] at h1
  have e:markT k t=k+((6*t.f0.length:Nat):Int)+3:=by
   unfold markT
   rw[up_small (6*t.f0.length) k h0 (by omega),up_small 3 _ (by omega) (by omega)]
   rfl
  rw[List.foldl_cons,List.length_cons]
  obtain⟨a,b⟩:=markT_l l (markT k t) (fun y hy=>h y (by simp[hy])) (by omega) (by omega)
  omega
theorem markP_at (l:List S64) (hl:l.length≤1048576) (h:∀y∈l,y.f0.length≤1048576):∃N:Int,laws_markProgram.f l 1=some N∧1≤N∧N≤7000000000000:=by
 obtain⟨a,b⟩:=markT_l l 1 h (by omega) (by omega)
 exact⟨l.foldl markT 1,rfl,a,by omega⟩
theorem senses_both (l:List S64) (hl:l.length≤1048576) (h:∀y∈l,y.f0.length≤1048576) (i:Int) (v:List Int) (hv:v.length≤1048576) (u:List Int) (hu:u.length≤1048576) (a:Int):
  ∃k0:Nat,∃A:List Int,A.length≤1000000000000∧∀k,k0≤k→impl_SensesOf.f k l i v u a=some A∧spec_SensesOf.f k l i v u a=some A:=by
 have w:wrap64 ((l.length:Int) - 1)=(l.length:Int) - 1:=w64 (by omega) (by omega)
 have e:decide (0≤i∧i≤(l.length:Int) - 1)=decide (0≤i∧i<(l.length:Int)):=by congr 1;apply propext;constructor<;>intro h<;>omega
 by_cases hp:progOk l=true
 ·by_cases hi:0≤i∧i<(l.length:Int)
  ·by_cases hvo:(decide (v.length=8)&&v.all valP)=true
   ·by_cases ha:0≤a∧a≤1000000
    ·by_cases huo:u.all valP=true
     ·have hvk:vok v:=by
       rw[Bool.and_eq_true,decide_eq_true_eq] at hvo
       exact hvo
      obtain⟨_,hb,_⟩:=progOk_task hp hi.1 hi.2
      obtain⟨T,ok,hT,hl24,hss⟩:=blockOk_tree hb
      obtain⟨k0,hS⟩:=sensesS_at l hp hvk hi.1 hi.2 u ha.1 ha.2 T ok hT
      have hI:=sensesI_at l hp hvk hi.1 hi.2 huo ha.1 ha.2 T ok hT
      obtain⟨_,hinv⟩:=hI 2097161 (by omega)
      have hM:=lng_24 ok (by rw[hT];exact hss) (by rw[hT];exact hl24)
      refine⟨k0+3145741,_,?_,fun k hk=>⟨(hI k (by omega)).1,?_⟩⟩
      ·have h1:=hinv.2.1
       have h2:=hinv.2.2.1
       have h3:=hinv.2.2.2.1
       omega
      ·unfold spec_SensesOf.f
       rw[progOkS_at l hl h k (by omega),varsS_at v hv k (by omega),l01In_eq,l01In_eq,valuesS_at u hu k (by omega),w,e,hp,hvo,huo,decide_eq_true hi,decide_eq_true ha,hS k (by omega)]
       rfl
     ·refine⟨3145741,[],by simp,fun k hk=>⟨?_,?_⟩⟩
      ·unfold impl_SensesOf.f
       rw[hasTaskI_at l h hl i k (by omega),varsI_eq,isReadI_eq,hp,hvo,decide_eq_true hi,decide_eq_true ha,Bool.not_eq_true _|>.mp huo]
       rfl
      ·unfold spec_SensesOf.f
       rw[progOkS_at l hl h k (by omega),varsS_at v hv k (by omega),l01In_eq,l01In_eq,valuesS_at u hu k (by omega),w,e,hp,hvo,decide_eq_true hi,decide_eq_true ha,Bool.not_eq_true _|>.mp huo]
       rfl
    ·refine⟨3145741,[],by simp,fun k hk=>⟨?_,?_⟩⟩
     ·unfold impl_SensesOf.f
      rw[hasTaskI_at l h hl i k (by omega),varsI_eq,isReadI_eq,hp,hvo,decide_eq_true hi,decide_eq_false ha]
      rfl
     ·unfold spec_SensesOf.f
      rw[progOkS_at l hl h k (by omega),varsS_at v hv k (by omega),l01In_eq,l01In_eq,w,e,hp,hvo,decide_eq_true hi,decide_eq_false ha]
      rfl
   ·refine⟨3145741,[],by simp,fun k hk=>⟨?_,?_⟩⟩
    ·unfold impl_SensesOf.f
     rw[hasTaskI_at l h hl i k (by omega),varsI_eq,hp,decide_eq_true hi,Bool.not_eq_true _|>.mp hvo]
     rfl
    ·unfold spec_SensesOf.f
     rw[progOkS_at l hl h k (by omega),varsS_at v hv k (by omega),hp,Bool.not_eq_true _|>.mp hvo]
     rfl
  ·refine⟨3145741,[],by simp,fun k hk=>⟨?_,?_⟩⟩
   ·unfold impl_SensesOf.f
    rw[hasTaskI_at l h hl i k (by omega),hp,decide_eq_false hi]
    rfl
   ·unfold spec_SensesOf.f
    rw[progOkS_at l hl h k (by omega),varsS_at v hv k (by omega),l01In_eq,w,e,hp,decide_eq_false hi]
    cases (decide (v.length=8)&&v.all valP)<;>rfl
 ·refine⟨3145741,[],by simp,fun k hk=>⟨?_,?_⟩⟩
  ·unfold impl_SensesOf.f
   rw[hasTaskI_at l h hl i k (by omega),Bool.not_eq_true _|>.mp hp]
   rfl
  ·unfold spec_SensesOf.f
   rw[progOkS_at l hl h k (by omega),Bool.not_eq_true _|>.mp hp]
   rfl
theorem FnExactSensesOf:laws_FnExactSensesOf.Pure:=by
 intro x i v u a g _ gv gu _
 by_cases hv:(v.length:Int) > 1048576
 ·refine⟨1,?_⟩
  unfold laws_FnExactSensesOf.f
  rw[if_pos hv]
 by_cases hu:(u.length:Int) > 1048576
 ·refine⟨1,?_⟩
  unfold laws_FnExactSensesOf.f
  rw[if_neg hv,laws_FnExactSensesOf.j0,if_pos hu]
 obtain⟨k0,hk0,hP⟩:∃k0:Nat,2097161≤k0∧∃r,(∀k,k0≤k→laws_szProgram.f k x.f0 1048576=some r)∧(0≤r→(x.f0.map tsk).length≤1048576∧(∀y∈x.f0.map tsk,y.f0.length≤1048576)∧(∀k,2097160<k→laws_toProgram.f k x.f0=some (x.f0.map tsk))∧(∀k,2097160<k→laws_eqProgram.f k (x.f0.map tsk) (x.f0.map tsk)=some true)):=by
  obtain⟨r,e,q⟩:=program_or x g 2097161 (by omega)
  refine⟨2097161,by omega,r,fun k hk=> ?_,q⟩
  exact le_of_mono (fun k=>laws_szProgram.mono _ _ k) e hk
 obtain⟨r,e,q⟩:=hP
 by_cases hr:r<0
 ·obtain⟨K,hK⟩:∃K,k0≤K:=⟨k0,Nat.le_refl _⟩
  refine⟨K+1+1,?_⟩
  unfold laws_FnExactSensesOf.f
  rw[if_neg hv,laws_FnExactSensesOf.j0,if_neg hu,laws_FnExactSensesOf.j1,e K hK]
  simp only[Option.bind_some]
  rw[if_pos hr]
 obtain⟨hl,hy,h1,h2⟩:=q (by omega)
 obtain⟨N,eN,n1,n2⟩:=markP_at (x.f0.map tsk) hl hy
 obtain⟨k1,A,hA,hk1⟩:=senses_both (x.f0.map tsk) hl hy i v (by omega) u (by omega) a
 generalize x.f0.map tsk=l at*
 obtain⟨K,hKa,hKb,hKc⟩:∃K:Nat,k0≤K∧k1≤K∧4000000000000≤K:=⟨k0+k1+4000000000000,by omega,by omega,by omega⟩
 have toV:∀k,K≤k→laws_toIntS.f k v=some v:=fun k hk=>toIntS_at v (by omega) k (by omega)
 have toU:∀k,K≤k→laws_toIntS.f k u=some u:=fun k hk=>toIntS_at u (by omega) k (by omega)
 have eqV:∀k,K≤k→laws_eqIntS.f k v v=some true:=fun k hk=>eqIntS_same v (by omega) k (by omega)
 have eqU:∀k,K≤k→laws_eqIntS.f k u u=some true:=fun k hk=>eqIntS_same u (by omega) k (by omega)
 have eqA:∀k,K≤k→laws_eqIntS.f k A A=some true:=fun k hk=>eqIntS_same A (by omega) k (by omega)
 have mkV:∀k,K≤k→laws_markIntS.f k v N=some (N+(v.length:Int),marks N v.length):=fun k hk=>markIntS_at v N k (by omega) (by omega) (by omega) (by omega)
 have mkU:∀k,K≤k→laws_markIntS.f k u (N+(v.length:Int))=some (N+(v.length:Int)+(u.length:Int),marks (N+(v.length:Int)) u.length):=fun k hk=>markIntS_at u _ k (by omega) (by omega) (by omega) (by omega)
 have mkA:∀k,K≤k→laws_markIntS.f k A 1=some (1+(A.length:Int),marks 1 A.length):=fun k hk=>markIntS_at A 1 k (by omega) (by omega) (by omega) (by omega)
 have hdA:∀k,K≤k→laws_heldIntS.f k (marks 1 A.length) 1=some (1+(A.length:Int)):=fun k hk=>heldIntS_at 1 A.length k (by omega) (by omega) (by omega) (by omega)
 have toP:∀k,K≤k→laws_toProgram.f k x.f0=some l:=fun k hk=>h1 k (by omega)
 have eqP:∀k,K≤k→laws_eqProgram.f k l l=some true:=fun k hk=>h2 k (by omega)
 have dI:∀k,K≤k→impl_SensesOf.f k l i v u a=some A:=fun k hk=>(hk1 k (by omega)).1
 have dS:∀k,K≤k→spec_SensesOf.f k l i v u a=some A:=fun k hk=>(hk1 k (by omega)).2
 have sz:∀k,K≤k→laws_szProgram.f k x.f0 1048576=some r:=fun k hk=>e k (by omega)
 refine⟨K+1+1+1+1+1+1+1+1+1+1+1+1,?_⟩
 unfold laws_FnExactSensesOf.f
 rw[if_neg hv,laws_FnExactSensesOf.j0,if_neg hu,laws_FnExactSensesOf.j1,sz _ (by omega)]
 simp only[Option.bind_some]
 rw[if_neg hr,laws_FnExactSensesOf.j2,toP _ (by omega),toV _ (by omega),toU _ (by omega)]
 simp only[Option.bind_some]
 rw[dS _ (by omega),dI _ (by omega)]
 simp only[Option.bind_some]
 rw[eqA _ (by omega)]
 simp only[Option.bind_some,if_true]
 rw[laws_FnExactSensesOf.j3,toP _ (by omega)]
 simp only[Option.bind_some]
 rw[eqP _ (by omega)]
 simp only[Option.bind_some,if_true]
 rw[laws_FnExactSensesOf.j4,toV _ (by omega)]
 simp only[Option.bind_some]
 rw[eqV _ (by omega)]
 simp only[Option.bind_some,if_true]
 rw[laws_FnExactSensesOf.j5,toU _ (by omega)]
 simp only[Option.bind_some]
 rw[eqU _ (by omega)]
 simp only[Option.bind_some,if_true]
 rw[laws_FnExactSensesOf.j6,eN]
 simp only[Option.bind_some]
 rw[mkV _ (by omega)]
 simp only[Option.bind_some]
 rw[mkU _ (by omega)]
 simp only[Option.bind_some]
 rw[if_neg (by omega),eqA _ (by omega)]
 simp only[Option.bind_some,Bool.not_true]
 rw[laws_FnExactSensesOf.j7,if_neg (by simp),laws_FnExactSensesOf.j8,mkA _ (by omega)]
 simp only[Option.bind_some]
 rw[hdA _ (by omega)]
 simp only[Option.bind_some]
 rw[if_neg (by omega),laws_FnExactSensesOf.j9,if_pos rfl,laws_FnExactSensesOf.j10,toP _ (by omega),toV _ (by omega),toU _ (by omega)]
 simp only[Option.bind_some]
 rw[dI _ (by omega)]
 simp only[Option.bind_some]
 rw[eqA _ (by omega)]
 simp only[Option.bind_some,if_true]
 rw[laws_FnExactSensesOf.j11,hdA _ (by omega)]
 simp only[Option.bind_some]
 rw[if_neg (by omega)]
 simp
end Go.Proofs.Ytlolppaddphpoaa.Pure
