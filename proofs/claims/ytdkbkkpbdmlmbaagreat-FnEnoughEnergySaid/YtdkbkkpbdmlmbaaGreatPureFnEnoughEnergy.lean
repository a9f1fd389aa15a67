/- The law FnEnoughEnergy: for every input the function answers true. No condition. -/
import Derived.Test.YtdkbkkpbdmlmbaaGreatGx10
namespace Go.Proofs.YtdkbkkpbdmlmbaaGreat.Pure
open Go.RowKit Go.Proofs.YtdkbkkpbdmlmbaaGreat.G Go.Proofs.YtdkbkkpbdmlmbaaGreatW.PrintWords Go.Proofs.YtdkbkkpbdmlmbaaGreatW.PrintLast
set_option linter.unusedVariables false
set_option linter.unusedSimpArgs false
theorem w64 {x:Int} (h: -9223372036854775808≤x) (h2:x≤9223372036854775807):wrap64 x=x:=by
 unfold wrap64
 omega
theorem succ_of {k d:Nat} (h:d<k):∃m,k=m+1:=⟨k - 1,by omega⟩
theorem rd_eq {l:List Int} {i:Int} (h0:0≤i) (h:i<(l.length:Int)):l[i.toNat]? =some (rd l i):=by
 unfold rd
 rw[List.getD_eq_getElem?_getD,List.getElem?_eq_getElem (by omega)]
 rfl
theorem drop_rd {l:List Int} {i:Int} (h0:0≤i) (h:i<(l.length:Int)):l.drop i.toNat=rd l i::l.drop (i+1).toNat:=by
 have h1:i.toNat<l.length:=by omega
 have h2:(i+1).toNat=i.toNat+1:=by omega
 have h3:=rd_eq h0 h
 rw[h2,List.drop_eq_getElem_cons h1]
 rw[List.getElem?_eq_getElem h1] at h3
 rw[Option.some.inj h3]
theorem l01In_eq (a b c:Int):spec_l01In.f a b c=some (decide (b≤a∧a≤c)):=by
 unfold spec_l01In.f
 by_cases h:b≤a<;>simp[h]
theorem rd_all {P:Int→Prop} {l:List Int} (h:∀x∈l,P x) {i:Int} (h0:0≤i) (h1:i<(l.length:Int)):P (rd l i):=h _ (List.mem_of_getElem? (rd_eq h0 h1))
theorem getD_rd {α:Type} (z:α) {l:List α} {i:Int} (h0:0≤i) (h:i<(l.length:Int)):l[i.toNat]? =some (l.getD i.toNat z):=by
 rw[List.getD_eq_getElem?_getD,List.getElem?_eq_getElem (by omega)]
 rfl
theorem drop_getD {α:Type} (z:α) {l:List α} {i:Int} (h0:0≤i) (h:i<(l.length:Int)):l.drop i.toNat=l.getD i.toNat z::l.drop (i+1).toNat:=by
 have h1:i.toNat<l.length:=by omega
 have h2:(i+1).toNat=i.toNat+1:=by omega
 have h3:=getD_rd z h0 h
 rw[h2,List.drop_eq_getElem_cons h1]
 rw[List.getElem?_eq_getElem h1] at h3
 rw[Option.some.inj h3]
theorem tmod_in {a n:Int} (ha:0≤a) (hn:0<n):0≤Int.tmod a n∧Int.tmod a n<n:=by
 rw[Int.tmod_eq_emod_of_nonneg ha]
 exact⟨Int.emod_nonneg _ (by omega),Int.emod_lt_of_pos _ hn⟩
theorem within_eq (a b c:Int):impl_within.f a b c=some (decide (b≤a∧a≤c)):=by
 unfold impl_within.f
 by_cases h:b≤a<;>simp[h]
def exprOk (a b c:Int):Bool:=decide ((1≤a∧a≤7)∧(-8≤b∧b≤999)∧ -8≤c∧c≤999)
def stmtOk (a b c d e f:Int):Bool:=
 if a=1 then decide ((0≤b∧b≤7)∧c=0)&&exprOk d e f
 else if a=2 then decide ((0≤b∧b≤7)∧(0≤c∧c≤3)∧d=0∧e=0∧f=0)
 else if a=3∨a=4 then decide (b=0∧c=0)&&exprOk d e f
 else if a=5 then decide (b=0∧(1≤c∧c≤5)∧d=0∧e=0∧f=0)
 else if a=6 then decide (b=0∧c=0∧d=0∧e=0∧f=0) else false
theorem operandI_eq (x:Int):impl_OperandOk.f x=some (decide (-8≤x∧x≤999)):=by unfold impl_OperandOk.f;rw[within_eq];rfl
theorem exprI_eq (a b c:Int):impl_ExprOk.f a b c=some (exprOk a b c):=by
 unfold impl_ExprOk.f exprOk
 rw[within_eq,operandI_eq,operandI_eq]
 by_cases h1:1≤a∧a≤7<;>by_cases h2: -8≤b∧b≤999<;>simp[h1,h2]
theorem stmtI_eq (a b c d e f:Int) (k:Nat) (hk:3<k):impl_StmtOk.f k a b c d e f=some (stmtOk a b c d e f):=by
 obtain⟨k,rfl⟩:∃m,k=m+4:=⟨k - 4,by omega⟩
 unfold impl_StmtOk.f impl_hasVar.f impl_isVar.f stmtOk
 simp only[impl_StmtOk.j0,impl_StmtOk.j1,impl_hasExpr.f,impl_isSensor.f,within_eq,exprI_eq,Option.bind_some]
 by_cases h1:a=1
 ·subst h1
  by_cases h:c=0<;>by_cases g:0≤b∧b≤7<;>cases exprOk d e f<;>simp[h,g]
 by_cases h2:a=2
 ·subst h2
  by_cases h:d=0<;>by_cases h':e=0<;>by_cases h'':f=0<;>by_cases g:0≤b∧b≤7<;>simp[h,h',h'',g]
 by_cases h3:a=3
 ·subst h3
  by_cases h:b=0<;>by_cases h':c=0<;>cases exprOk d e f<;>simp[h,h']
 by_cases h4:a=4
 ·subst h4
  by_cases h:b=0<;>by_cases h':c=0<;>cases exprOk d e f<;>simp[h,h']
 by_cases h5:a=5
 ·subst h5
  by_cases h:b=0<;>by_cases h':d=0<;>by_cases h'':e=0<;>by_cases g:f=0<;>simp[h,h',h'',g]
 by_cases h6:a=6
 ·subst h6
  by_cases h:b=0<;>by_cases h':d=0<;>by_cases h'':e=0<;>by_cases g:f=0<;>by_cases g':c=0<;>simp[h,h',h'',g,g']
 ·have n:¬(1≤a∧a≤6):=by omega
  simp[h1,h2,h3,h4,h5,h6,n]
def stOk (s:S92):Bool:=stmtOk s.f0 s.f1 s.f2 s.f3.f0 s.f3.f1 s.f3.f2
inductive Bk where
 |nil:Bk
 |leaf (s:S92) (t:Bk):Bk
 |node (s:S92) (b:Bk) (e:S92) (t:Bk):Bk
def Bk.flat:Bk→List S92
 | .nil=>[]
 | .leaf s t=>s::t.flat
 | .node s b e t=>s::(b.flat++e::t.flat)
def Bk.ok:Bk→Prop
 | .nil=>True
 | .leaf s t=>s.f0≠4∧s.f0≠5∧s.f0≠6∧t.ok
 | .node s b e t=>(s.f0=4∨s.f0=5)∧b.ok∧e.f0=6∧t.ok
def dNext (s:S92) (d:Int):Int:=if s.f0=4∨s.f0=5 then d+1 else if s.f0=6 then d - 1 else d
def blkOk:List S92→Int→Bool
 |[],d=>decide (d=0)
 |s::t,d=>stOk s&&(decide (0≤dNext s d∧dNext s d≤3)&&blkOk t (dNext s d))
def blockOk (l:List S92):Bool:=blkOk l 0&&decide ((l.length:Int)≤24)
theorem blkOk_cons {s:S92} {t:List S92} {d:Int}:blkOk (s::t) d=true↔stOk s=true∧(0≤dNext s d∧dNext s d≤3)∧blkOk t (dNext s d)=true:=by
 rw[blkOk,Bool.and_eq_true,Bool.and_eq_true,decide_eq_true_eq]
theorem blkOk_all:∀(l:List S92) (d:Int),blkOk l d=true→∀s∈l,stOk s=true
 |[],d,h,s,hs=>by simp at hs
 |x::t,d,h,s,hs=>by
  obtain⟨h1,h2,h3⟩:=blkOk_cons.1 h
  rcases List.mem_cons.1 hs with rfl|hs
  ·exact h1
  ·exact blkOk_all t _ h3 s hs
theorem parse (n:Nat):∀(l:List S92) (d:Int),l.length≤n→0≤d→blkOk l d=true→
  (d=0→∃T:Bk,T.ok∧T.flat=l)∧(0<d→∃(T:Bk) (e:S92) (r:List S92),T.ok∧e.f0=6∧l=T.flat++e::r∧blkOk r (d - 1)=true):=by
 induction n with
 |zero=>
  intro l d hl hd h
  have:l=[]:=List.eq_nil_of_length_eq_zero (by omega)
  subst this
  simp only[blkOk,decide_eq_true_eq] at h
  exact⟨fun _=>⟨.nil,trivial,rfl⟩,fun h2=>absurd h (by omega)⟩
 |succ n ih=>
  intro l d hl hd h
  cases l with
  |nil=>
   simp only[blkOk,decide_eq_true_eq] at h
   exact⟨fun _=>⟨.nil,trivial,rfl⟩,fun h2=>absurd h (by omega)⟩
  |cons s t=>
   obtain⟨h1,h2,h3⟩:=blkOk_cons.1 h
   simp only[List.length_cons] at hl
   by_cases o:s.f0=4∨s.f0=5
   ·have e:dNext s d=d+1:=by rw[dNext,if_pos o]
    rw[e] at h2 h3
    obtain⟨T1,c,r,k1,k2,k3,k4⟩:=(ih t (d+1) (by omega) (by omega) h3).2 (by omega)
    rw[Int.add_sub_cancel] at k4
    have hr:r.length≤n:=by
     have:=congrArg List.length k3
     simp only[List.length_append,List.length_cons] at this
     omega
    obtain⟨q1,q2⟩:=ih r d hr hd k4
    constructor
    ·intro d0
     obtain⟨T2,m1,m2⟩:=q1 d0
     exact⟨.node s T1 c T2,⟨o,k1,k2,m1⟩,by rw[Bk.flat,m2,k3]⟩
    ·intro d0
     obtain⟨T2,c2,r2,m1,m2,m3,m4⟩:=q2 d0
     exact⟨.node s T1 c T2,c2,r2,⟨o,k1,k2,m1⟩,m2,by rw[Bk.flat,k3,m3];simp,m4⟩
   ·by_cases c:s.f0=6
    ·have e:dNext s d=d - 1:=by rw[dNext,if_neg o,if_pos c]
     rw[e] at h2 h3
     exact⟨fun d0=>absurd h2 (by omega),fun _=>⟨.nil,s,t,trivial,c,rfl,h3⟩⟩
    ·have e:dNext s d=d:=by rw[dNext,if_neg o,if_neg c]
     rw[e] at h2 h3
     obtain⟨q1,q2⟩:=ih t d (by omega) hd h3
     constructor
     ·intro d0
      obtain⟨T2,m1,m2⟩:=q1 d0
      exact⟨.leaf s T2,⟨fun h=>o (.inl h),fun h=>o (.inr h),c,m1⟩,by rw[Bk.flat,m2]⟩
     ·intro d0
      obtain⟨T2,c2,r2,m1,m2,m3,m4⟩:=q2 d0
      exact⟨.leaf s T2,c2,r2,⟨fun h=>o (.inl h),fun h=>o (.inr h),c,m1⟩,m2,by rw[Bk.flat,m3];rfl,m4⟩
theorem blockOk_tree {l:List S92} (h:blockOk l=true):∃T:Bk,T.ok∧T.flat=l∧l.length≤24∧∀s∈l,stOk s=true:=by
 rw[blockOk,Bool.and_eq_true,decide_eq_true_eq] at h
 obtain⟨T,h1,h2⟩:=(parse l.length l 0 (by omega) (by omega) h.1).1 rfl
 exact⟨T,h1,h2,by omega,blkOk_all l 0 h.1⟩
theorem at_mid (pre post:List S92) (s:S92) {i:Int} (hi:i=(pre.length:Int)):rd_T92 (pre++s::post) i=s:=by
 unfold rd_T92
 rw[hi,Int.toNat_natCast,List.getD_eq_getElem?_getD,List.getElem?_append_right (by omega),Nat.sub_self]
 rfl
theorem opening_eq (x:Int):impl_isOpening.f x=some (decide (x=4∨x=5)):=by
 unfold impl_isOpening.f
 by_cases h:x=4
 ·simp[h]
 ·by_cases h2:x=5<;>simp[h,h2]
theorem blockI_l (l:List S92) (hl:l.length≤1048576) (n:Nat):∀(k:Nat) (d i:Int),0≤d→d≤3→0≤i→i+(n:Int)=(l.length:Int)→2*n+5<k→
  impl_BlockOk.l0 k l d l (l.length:Int) i=some (blkOk (l.drop i.toNat) d&&decide ((l.length:Int)≤24)):=by
 induction n with
 |zero=>
  intro k d i hd hd3 h0 hi hk
  obtain⟨k,rfl⟩:=succ_of hk
  simp only[impl_BlockOk.l0]
  rw[if_neg (by omega),List.drop_eq_nil_of_le (by omega),blkOk]
  by_cases h:d=0<;>simp[h]
 |succ n ih=>
  intro k d i hd hd3 h0 hi hk
  obtain⟨k,rfl⟩:=succ_of hk
  obtain⟨k,rfl⟩:=succ_of (d:=4) (by omega:4<k)
  rw[impl_BlockOk.l0,if_pos (by omega),if_pos h0,if_pos (by omega),stmtI_eq _ _ _ _ _ _ _ (by omega),opening_eq,drop_getD z92 h0 (by omega)]
  change (Option.bind (some (stOk (rd_T92 l i))) _)=some (blkOk (rd_T92 l i::_) d&&_)
  generalize rd_T92 l i=s
  rw[blkOk]
  by_cases h1:stOk s=true
  ·simp only[h1,Option.bind_some,if_true,Bool.true_and,impl_BlockOk.j1,w64 (x:=i+1) (by omega) (by omega),w64 (x:=d+1) (by omega) (by omega),w64 (x:=d+1 - 1) (by omega) (by omega),w64 (x:=d - 1) (by omega) (by omega),decide_eq_true_eq]
   have go:=fun (x:Int) (a:0≤x) (b:x≤3)=>ih k x (i+1) a b (by omega) (by omega) (by omega)
   unfold dNext
   by_cases o:s.f0=4∨s.f0=5
   ·have n6:¬s.f0=6:=by omega
    rw[if_pos o,if_neg n6,if_pos o,if_neg (by omega)]
    by_cases g:d+1 > 3
    ·rw[if_pos g]
     simp
     omega
    ·rw[if_neg g,go _ (by omega) (by omega)]
     have:0≤d+1∧d+1≤3:=by omega
     simp[this]
   ·rw[if_neg o,if_neg o]
    by_cases n6:s.f0=6
    ·rw[if_pos n6,if_pos n6]
     by_cases g:d - 1<0
     ·rw[if_pos g]
      simp
      omega
     ·rw[if_neg g,if_neg (by omega),go _ (by omega) (by omega)]
      have:0≤d - 1∧d - 1≤3:=by omega
      have g1:1≤d:=by omega
      simp[this,g1]
    ·rw[if_neg n6,if_neg n6,if_neg (by omega),if_neg (by omega),go _ hd hd3]
     simp[hd,hd3]
  ·simp[h1]
theorem blockI_at (l:List S92) (hl:l.length≤1048576) (k:Nat) (hk:2*l.length+5<k):impl_BlockOk.f k l=some (blockOk l):=by
 unfold impl_BlockOk.f blockOk
 rw[blockI_l l hl l.length k 0 0 (by omega) (by omega) (by omega) (by omega) hk]
 simp
def taskOkB (t:S75):Bool:=blockOk t.f0&&exprOk t.f1.f0 t.f1.f1 t.f1.f2
def progOk (l:List S75):Bool:=decide (1≤(l.length:Int)∧(l.length:Int)≤6)&&l.all taskOkB
theorem taskOkI_at (t:S75) (h:t.f0.length≤1048576) (k:Nat) (hk:2097160<k):impl_taskOk.f k t.f0 t.f1.f0 t.f1.f1 t.f1.f2=some (taskOkB t):=by
 unfold impl_taskOk.f taskOkB
 rw[blockI_at _ h k (by omega),exprI_eq]
 simp only[Option.bind_some]
 cases blockOk t.f0<;>simp
theorem anyNot_at (k:Nat) (hk:2097160<k):∀(l:List S75),(∀y∈l,y.f0.length≤1048576)→anyNot k l=some (!(l.all taskOkB))
 |[],_=>rfl
 |t::r,h=>by
  rw[anyNot,taskOkI_at t (h t (by simp)) k hk,anyNot_at k hk r (fun y hy=>h y (List.mem_cons_of_mem _ hy))]
  simp only[Option.bind_some,List.all_cons]
  cases taskOkB t<;>simp
theorem progOkI_at (l:List S75) (h:∀y∈l,y.f0.length≤1048576) (k:Nat) (hk:2097160<k):impl_ProgramOk.f k l=some (progOk l):=by
 unfold impl_ProgramOk.f progOk
 rw[within_eq,anyNot_at k hk l h]
 simp only[Option.bind_some,decide_eq_true_eq,Bool.not_not]
 by_cases c:1≤(l.length:Int)∧(l.length:Int)≤6
 ·rw[if_pos c]
  simp[c]
 ·rw[if_neg c]
  simp only[c,decide_false,Bool.false_and]
theorem packI_ok (a b c:Int):∃r,impl_PackControl.f a b c=some r:=by
 unfold impl_PackControl.f
 simp only[within_eq,Option.bind_some]
 split
 ·split
  ·split
   ·exact⟨_,rfl⟩
   ·exact⟨_,rfl⟩
  ·exact⟨_,rfl⟩
 ·exact⟨_,rfl⟩
theorem packI_le {a b c r:Int} (h:impl_PackControl.f a b c=some r):r≤100000:=by
 unfold impl_PackControl.f at h
 simp only[within_eq,Option.bind_some,decide_eq_true_eq] at h
 by_cases h1:0≤a∧a≤5
 ·rw[if_pos h1] at h
  by_cases h2:0≤b∧b≤8
  ·rw[if_pos h2] at h
   by_cases h3:0≤c∧c≤24
   ·rw[if_pos h3] at h
    rw[w64 (x:=16*c) (by omega) (by omega),w64 (x:=b+16*c) (by omega) (by omega),w64 (x:=8*(b+16*c)) (by omega) (by omega),w64 (by omega) (by omega)] at h
    have:=Option.some.inj h
    omega
   ·rw[if_neg h3] at h
    have:=Option.some.inj h
    omega
  ·rw[if_neg h2] at h
   have:=Option.some.inj h
   omega
 ·rw[if_neg h1] at h
  have:=Option.some.inj h
  omega
theorem pack_eq (a b c:Int):spec_PackControl.f a b c=impl_PackControl.f a b c:=by
 unfold spec_PackControl.f impl_PackControl.f
 simp only[within_eq,l01In_eq]
theorem unpack_eq (a:Int) (k:Nat) (hk:0<k):spec_UnpackControl.f k a=impl_UnpackControl.f a:=by
 obtain⟨k,rfl⟩:=succ_of hk
 unfold spec_UnpackControl.f impl_UnpackControl.f
 by_cases h:a<0
 ·rw[if_pos h,if_pos h]
  simp[spec_UnpackControl.j0]
 ·rw[if_neg h,if_neg h]
  simp only[spec_UnpackControl.j0,decide_eq_true_eq,pack_eq]
  by_cases h2:a > 100000
  ·rw[if_pos h2]
   obtain⟨r,e⟩:=packI_ok (Int.tmod a 8) (Int.tmod (wrap64 (Int.tdiv a 8)) 16) (wrap64 (Int.tdiv a 128))
   have:=packI_le e
   rw[e]
   simp only[Option.bind_some]
   rw[if_neg (by omega)]
  ·rw[if_neg h2]
theorem packI_in {a b c r:Int} (h:impl_PackControl.f a b c=some r):r= -1∨((0≤a∧a≤5)∧(0≤b∧b≤8)∧(0≤c∧c≤24)):=by
 unfold impl_PackControl.f at h
 simp only[within_eq,Option.bind_some,decide_eq_true_eq] at h
 by_cases h1:0≤a∧a≤5
 ·rw[if_pos h1] at h
  by_cases h2:0≤b∧b≤8
  ·rw[if_pos h2] at h
   by_cases h3:0≤c∧c≤24
   ·exact .inr ⟨h1,h2,h3⟩
   ·rw[if_neg h3] at h
    exact .inl (Option.some.inj h).symm
  ·rw[if_neg h2] at h
   exact .inl (Option.some.inj h).symm
 ·rw[if_neg h1] at h
  exact .inl (Option.some.inj h).symm
theorem unpackI_all (a:Int):∃s n t,impl_UnpackControl.f a=some (s,n,t)∧((s= -1∧n= -1∧t= -1)∨((0≤s∧s≤5)∧(0≤n∧n≤8)∧(0≤t∧t≤24))):=by
 unfold impl_UnpackControl.f
 by_cases h0:a<0
 ·rw[if_pos h0]
  exact⟨_,_,_,rfl,.inl ⟨rfl,rfl,rfl⟩⟩
 ·rw[if_neg h0]
  obtain⟨r,h⟩:=packI_ok (Int.tmod a 8) (Int.tmod (wrap64 (Int.tdiv a 8)) 16) (wrap64 (Int.tdiv a 128))
  rw[h]
  simp only[Option.bind_some]
  by_cases e:r=a
  ·rw[if_pos e]
   rcases packI_in h with q|q
   ·omega
   ·exact⟨_,_,_,rfl,.inr q⟩
  ·rw[if_neg e]
   exact⟨_,_,_,rfl,.inl ⟨rfl,rfl,rfl⟩⟩
def logOk (m:List Int):Nat→Int→Bool
 |0,_=>true
 |d+1,i=>decide (0≤rd m (9+2*i)∧rd m (9+2*i)≤7)&&(valP (rd m (9+2*i+1))&&logOk m d (i+1))
def memOk (l:List S75) (m:List Int):Bool:=
 progOk l&&(decide (m.length=49)&&(match impl_UnpackControl.f (rd m 8) with
  |none=>false
  |some (s,n,t)=>decide (0≤s∧s<(l.length:Int))&&((m.take 8).all valP&&(((m.take (25+t).toNat).drop 25).all valP&&logOk m n.toNat 0))))
theorem and_mask (x:Int) (m:Nat) (hm:m<9223372036854775808):0≤Go.bits .and .i64 x (m:Int)∧Go.bits .and .i64 x (m:Int)≤(m:Int):=by
 have hb:(BitVec.ofInt 64 (m:Int)).toNat=m:=by
  rw[BitVec.ofInt_natCast,BitVec.toNat_ofNat]
  omega
 have h:((BitVec.ofInt 64 x)&&& (BitVec.ofInt 64 (m:Int))).toNat≤m:=by
  rw[BitVec.toNat_and,hb]
  exact Nat.and_le_right
 have e:Go.bits .and .i64 x (m:Int)=IntKind.i64.wrap (((BitVec.ofInt 64 x)&&& (BitVec.ofInt 64 (m:Int))).toNat:Int):=rfl
 rw[e,IntKind.wrap_i64]
 omega
theorem and255 (x:Int):0≤Go.bits .and .i64 x 255∧Go.bits .and .i64 x 255≤255:=and_mask x 255 (by omega)
theorem l01Byte_ok (b:List Int) (i h:Int) (h0:0≤i) (hb:b.length≤140737488351232):
  ∃r i' h',spec_l01Byte.f b i h=some (r,i',h')∧0≤r∧r≤255∧0≤i':=by
 unfold spec_l01Byte.f
 by_cases h1:i<(b.length:Int)
 ·rw[if_pos h1,if_pos h0,w64 (x:=i+1) (by omega) (by omega)]
  exact⟨_,_,_,rfl,(and255 _).1,(and255 _).2,by omega⟩
 ·rw[if_neg h1]
  exact⟨_,_,_,rfl,(and255 _).1,(and255 _).2,h0⟩
theorem l01Below_ok (b:List Int) (i h n:Int) (h0:0≤i) (hb:b.length≤140737488351232):
  ∃r i' h',spec_l01Below.f b i h n=some (r,i',h')∧0≤r∧(0<n→r<n)∧(n≤0→r=0)∧0≤i':=by
 unfold spec_l01Below.f
 by_cases h1:n≤0
 ·rw[if_pos h1]
  exact⟨_,_,_,rfl,by omega,by omega,by omega,h0⟩
 rw[if_neg h1]
 by_cases h2:n≤256
 ·obtain⟨r,i',h',e,hr0,hr1,hi'⟩:=l01Byte_ok b i h h0 hb
  rw[if_pos h2,e]
  simp only[Option.bind_some]
  rw[if_neg (by omega)]
  have:=tmod_in (a:=r) (n:=n) hr0 (by omega)
  exact⟨_,_,_,rfl,this.1,fun _=>this.2,by omega,hi'⟩
 ·rw[if_neg h2]
  obtain⟨x,i1,g1,e1,hx0,hx1,hi1⟩:=l01Byte_ok b i h h0 hb
  obtain⟨y,i2,g2,e2,hy0,hy1,hi2⟩:=l01Byte_ok b i1 g1 hi1 hb
  obtain⟨z,i3,g3,e3,hz0,hz1,hi3⟩:=l01Byte_ok b i2 g2 hi2 hb
  obtain⟨u,i4,g4,e4,hu0,hu1,hi4⟩:=l01Byte_ok b i3 g3 hi3 hb
  simp only[e1,e2,e3,e4,Option.bind_some]
  rw[if_neg (by omega)]
  rw[w64 (x:=x*16777216) (by omega) (by omega),w64 (x:=y*65536) (by omega) (by omega),w64 (x:=z*256) (by omega) (by omega),w64 (x:=x*16777216+y*65536) (by omega) (by omega),w64 (x:=x*16777216+y*65536+z*256) (by omega) (by omega),w64 (x:=x*16777216+y*65536+z*256+u) (by omega) (by omega)]
  have:=tmod_in (a:=x*16777216+y*65536+z*256+u) (n:=n) (by omega) (by omega)
  exact⟨_,_,_,rfl,this.1,fun _=>this.2,by omega,hi4⟩
theorem l01New_l (b:List Int) (_hb:b.length≤140737488351232) (d:Nat):∀(k:Nat) (x i:Int),0≤i→i≤(b.length:Int)→i+(d:Int)=(b.length:Int)→d<k→
  ∃h,spec_l01New.l0 k b x i=some (b,0,h):=by
 induction d with
 |zero=>
  intro k x i h0 h1 hi hk
  obtain⟨k,rfl⟩:=succ_of hk
  simp only[spec_l01New.l0]
  rw[if_neg (by omega)]
  exact⟨_,rfl⟩
 |succ d ih=>
  intro k x i h0 h1 hi hk
  obtain⟨k,rfl⟩:=succ_of hk
  simp only[spec_l01New.l0]
  rw[if_pos (by omega)]
  by_cases h2:i<4000
  ·rw[if_pos h2,if_pos h0,w64 (x:=i+1) (by omega) (by omega)]
   exact ih k _ (i+1) (by omega) (by omega) (by omega) (by omega)
  ·rw[if_neg h2]
   exact⟨_,rfl⟩
theorem l01New_at (b:List Int) (hb:b.length≤140737488351232) (k:Nat) (hk:b.length<k):∃h,spec_l01New.f k b=some (b,0,h):=by
 unfold spec_l01New.f
 exact l01New_l b hb b.length k _ 0 (by omega) (by omega) (by omega) hk
theorem l01PickInt_ok (b:List Int) (i h:Int) (l:List Int) (h0:0≤i) (hb:b.length≤140737488351232) (hl:0<l.length):
  ∃r i' h',spec_l01PickInt.f b i h l=some (r,i',h')∧r∈l∧0≤i':=by
 unfold spec_l01PickInt.f
 obtain⟨r,i',h',e,hr0,hr1,_,hi'⟩:=l01Below_ok b i h (l.length:Int) h0 hb
 have hr:=hr1 (by omega)
 simp only[e,Option.bind_some]
 rw[if_pos hr0,if_pos hr]
 exact⟨_,_,_,rfl,List.mem_of_getElem? (rd_eq hr0 hr),hi'⟩
theorem l01Once_ok (b:List Int) (i h n:Int) (h0:0≤i) (hb:b.length≤140737488351232):∃r i' h',spec_l01Once.f b i h n=some (r,i',h')∧0≤i':=by
 unfold spec_l01Once.f
 obtain⟨r,i',h',e,_,_,_,hi'⟩:=l01Below_ok b i h n h0 hb
 rw[e]
 exact⟨_,_,_,rfl,hi'⟩
theorem l03Operand_ok (b:List Int) (i h:Int) (h0:0≤i) (hb:b.length≤140737488351232):∃r i' h',spec_l03Operand.f b i h=some (r,i',h')∧(-8≤r∧r≤999)∧0≤i':=by
 unfold spec_l03Operand.f
 obtain⟨o,i1,h1,e1,hi1⟩:=l01Once_ok b i h 2 h0 hb
 simp only[e1,Option.bind_some]
 cases o with
 |true=>
  obtain⟨r,i2,h2,e2,q1,q2,_,hi2⟩:=l01Below_ok b i1 h1 5 hi1 hb
  have:=q2 (by omega)
  simp only[if_true,e2,Option.bind_some]
  rw[w64 (by omega) (by omega)]
  exact⟨_,_,_,rfl,by omega,hi2⟩
 |false=>
  obtain⟨r,i2,h2,e2,q,hi2⟩:=l01PickInt_ok b i1 h1 [0,1,2,3,10,999] hi1 hb (by simp)
  simp only[Bool.false_eq_true,if_false,e2,Option.bind_some]
  simp only[List.mem_cons,List.not_mem_nil,or_false] at q
  exact⟨_,_,_,rfl,by omega,hi2⟩
theorem l03Expr_ok (b:List Int) (i h:Int) (h0:0≤i) (hb:b.length≤140737488351232):∃x y z i' h',spec_l03Expr.f b i h=some (x,y,z,i',h')∧exprOk x y z=true∧0≤i':=by
 unfold spec_l03Expr.f
 obtain⟨r,i1,h1,e1,q1,q2,_,hi1⟩:=l01Below_ok b i h 7 h0 hb
 have:=q2 (by omega)
 obtain⟨s,i2,h2,e2,p2,hi2⟩:=l03Operand_ok b i1 h1 hi1 hb
 obtain⟨t,i3,h3,e3,p3,hi3⟩:=l03Operand_ok b i2 h2 hi2 hb
 simp only[e1,e2,e3,Option.bind_some]
 rw[w64 (by omega) (by omega)]
 refine⟨_,_,_,_,_,rfl,?_,hi3⟩
 unfold exprOk
 exact decide_eq_true ⟨by omega,p2,p3⟩
theorem l04Stmt_ok (b:List Int) (i h:Int) (h0:0≤i) (hb:b.length≤140737488351232) (k:Nat) (hk:2<k):∃x0 x1 x2 x3 x4 x5 i' h',spec_l04Stmt.f k b i h=some (x0,x1,x2,x3,x4,x5,i',h')∧(x0=1∨x0=2∨x0=3)∧stOk ⟨x0,x1,x2,⟨x3,x4,x5⟩⟩=true∧0≤i':=by
 unfold spec_l04Stmt.f
 obtain⟨k,rfl⟩:=succ_of hk
 obtain⟨r,i1,h1,e1,q1,q2,_,hi1⟩:=l01Below_ok b i h 7 h0 hb
 have:=q2 (by omega)
 simp only[e1,Option.bind_some,spec_l04Stmt.j0]
 have sense:∃x0 x1 x2 x3 x4 x5 i' h',((spec_l01Below.f b i1 h1 5).bind fun bt366=>((spec_l01Below.f b bt366.2.1 bt366.2.2 4).bind fun bt369=>(some ((2:Int),bt366.1,bt369.1,(0:Int),(0:Int),(0:Int),bt369.2.1,bt369.2.2))))=some (x0,x1,x2,x3,x4,x5,i',h')∧(x0=1∨x0=2∨x0=3)∧stOk ⟨x0,x1,x2,⟨x3,x4,x5⟩⟩=true∧0≤i':=by
  obtain⟨v,i2,h2,e2,a1,a2,_,hi2⟩:=l01Below_ok b i1 h1 5 hi1 hb
  obtain⟨u,i3,h3,e3,c1,c2,_,hi3⟩:=l01Below_ok b i2 h2 4 hi2 hb
  have:=a2 (by omega)
  have:=c2 (by omega)
  simp only[e2,e3,Option.bind_some]
  refine⟨_,_,_,_,_,_,_,_,rfl,.inr (.inl rfl),?_,hi3⟩
  unfold stOk stmtOk
  simp
  omega
 by_cases c0:r=0
 ·simp only[c0,if_true,beq_self_eq_true]
  exact sense
 rw[if_neg c0]
 by_cases c1:r=1
 ·simp only[c1,if_true,beq_self_eq_true]
  exact sense
 have c1':(r==1)=false:=by simpa using c1
 simp only[c1',Bool.false_eq_true,if_false]
 by_cases c2:r=2
 ·obtain⟨x,y,z,i2,h2,e2,p,hi2⟩:=l03Expr_ok b i1 h1 hi1 hb
  simp only[c2,if_true,e2,Option.bind_some]
  refine⟨_,_,_,_,_,_,_,_,rfl,.inr (.inr rfl),?_,hi2⟩
  unfold stOk stmtOk
  simp[p]
 ·rw[if_neg c2]
  obtain⟨v,i2,h2,e2,a1,a2,_,hi2⟩:=l01Below_ok b i1 h1 5 hi1 hb
  have:=a2 (by omega)
  obtain⟨x,y,z,i3,h3,e3,p,hi3⟩:=l03Expr_ok b i2 h2 hi2 hb
  simp only[e2,e3,Option.bind_some]
  refine⟨_,_,_,_,_,_,_,_,rfl,.inl rfl,?_,hi3⟩
  unfold stOk stmtOk
  simp[p]
  omega
def piece (x:List S92) (d0:Int):Prop:=∀(d:Int) (r:List S92),0≤d→d≤d0→blkOk (x++r) d=blkOk r d
theorem piece_nil (d0:Int):piece [] d0:=fun d r h0 h1=>rfl
theorem piece_app {x y:List S92} {d0:Int} (h1:piece x d0) (h2:piece y d0):piece (x++y) d0:=by
 intro d r h0 h
 rw[List.append_assoc,h1 d _ h0 h,h2 d r h0 h]
theorem piece_one {s:S92} {d0:Int} (hs:stOk s=true) (hk:s.f0=1∨s.f0=2∨s.f0=3) (hd:d0≤3):piece [s] d0:=by
 intro d r h0 h
 have e:dNext s d=d:=by rw[dNext,if_neg (by omega),if_neg (by omega)]
 rw[List.singleton_append,blkOk,e,hs,decide_eq_true (by omega:0≤d∧d≤3)]
 simp
theorem piece_node {s c:S92} {x:List S92} {d0:Int} (hs:stOk s=true) (hk:s.f0=4∨s.f0=5) (hc:stOk c=true) (hc6:c.f0=6) (hx:piece x (d0+1)) (hd:d0≤2):piece (s::(x++[c])) d0:=by
 intro d r h0 h
 have e:dNext s d=d+1:=by rw[dNext,if_pos hk]
 have e2:dNext c (d+1)=d:=by
  rw[dNext,if_neg (by omega),if_pos hc6]
  omega
 rw[List.cons_append,List.append_assoc,blkOk,e,hx (d+1) _ (by omega) (by omega),List.singleton_append,blkOk,e2,hs,hc,decide_eq_true (by omega:0≤d+1∧d+1≤3),decide_eq_true (by omega:0≤d∧d≤3)]
 simp
theorem endStmt_ok:stOk ⟨6,0,0,⟨0,0,0⟩⟩=true:=by
 unfold stOk stmtOk
 simp
theorem leafStep (b:List Int) (hb:b.length≤140737488351232) (p h:Int) (hp:0≤p) (k:Nat) (hk:2<k):
  ∃s p' h',stOk s=true∧(s.f0=1∨s.f0=2∨s.f0=3)∧0≤p'∧∀(cnt dep i:Int) (x:List S92),x.length≤1000→spec_l05Block.j1 (k+1) cnt dep x i false b p h=spec_l05Block.l0 k cnt dep (x++[s]) (wrap64 (i+1)) b p' h':=by
 obtain⟨x0,x1,x2,x3,x4,x5,p',h',e,hk3,hok,hp'⟩:=l04Stmt_ok b p h hp hb k hk
 refine⟨⟨x0,x1,x2,⟨x3,x4,x5⟩⟩,p',h',hok,hk3,hp',fun cnt dep i x hx=> ?_⟩
 rw[spec_l05Block.j1,if_neg (by simp),e]
 simp only[Option.bind_some]
 rw[if_pos (by omega)]
theorem nodeStep (b:List Int) (hb:b.length≤140737488351232) (dep:Int) (hd:0≤dep) (hd2:dep≤1) (L k:Nat) (hL:L≤1000) (hn:∀c p h:Int,0≤p→1≤c→c≤2→∃r p' h',spec_l05Block.f k b p h c (dep+1)=some (r,p',h')∧piece r (dep+1)∧r.length≤L∧0≤p') (p h:Int) (hp:0≤p):
  ∃s r p' h',stOk s=true∧(s.f0=4∨s.f0=5)∧piece r (dep+1)∧r.length≤L∧0≤p'∧∀(cnt i:Int) (x:List S92),x.length≤1000→spec_l05Block.j1 (k+1) cnt dep x i true b p h=spec_l05Block.l0 k cnt dep (x++s::(r++[⟨6,0,0,⟨0,0,0⟩⟩])) (wrap64 (i+1)) b p' h':=by
 obtain⟨n,p1,h1,e1,a1,a2,_,hp1⟩:=l01Below_ok b p h 3 hp hb
 have:=a2 (by omega)
 obtain⟨o,p2,h2,e2,hp2⟩:=l01Once_ok b p1 h1 2 hp1 hb
 have wd:wrap64 (dep+1)=dep+1:=w64 (by omega) (by omega)
 cases o with
 |true=>
  obtain⟨x,y,z,p3,h3,e3,ok3,hp3⟩:=l03Expr_ok b p2 h2 hp2 hb
  obtain⟨m,p4,h4,e4,c1,c2,_,hp4⟩:=l01Below_ok b p3 h3 2 hp3 hb
  have:=c2 (by omega)
  obtain⟨r,p5,h5,e5,pr,lr,hp5⟩:=hn (1+m) p4 h4 hp4 (by omega) (by omega)
  refine⟨⟨4,0,0,⟨x,y,z⟩⟩,r,p5,h5,by unfold stOk stmtOk;simp[ok3],.inl rfl,pr,lr,hp5,fun cnt i q hq=> ?_⟩
  rw[spec_l05Block.j1,if_pos rfl,e1]
  simp only[Option.bind_some]
  rw[e2]
  simp only[Option.bind_some,if_true]
  rw[e3]
  simp only[Option.bind_some]
  rw[if_pos (by omega),e4]
  simp only[Option.bind_some]
  rw[wd,w64 (x:=1+m) (by omega) (by omega),e5]
  simp only[Option.bind_some]
  rw[if_pos (by simp only[List.length_append,List.length_cons,List.length_nil];omega),if_pos (by simp only[List.length_append,List.length_cons,List.length_nil];omega)]
  simp only[List.append_assoc,List.singleton_append]
  rfl
 |false=>
  obtain⟨m,p4,h4,e4,c1,c2,_,hp4⟩:=l01Below_ok b p2 h2 2 hp2 hb
  have:=c2 (by omega)
  obtain⟨r,p5,h5,e5,pr,lr,hp5⟩:=hn (1+m) p4 h4 hp4 (by omega) (by omega)
  refine⟨⟨5,0,1+n,⟨0,0,0⟩⟩,r,p5,h5,by unfold stOk stmtOk;simp;omega,.inr rfl,pr,lr,hp5,fun cnt i q hq=> ?_⟩
  rw[spec_l05Block.j1,if_pos rfl,e1]
  simp only[Option.bind_some]
  rw[e2]
  simp only[Option.bind_some,Bool.false_eq_true,if_false]
  rw[if_pos (by omega),e4]
  simp only[Option.bind_some]
  rw[wd,w64 (x:=1+m) (by omega) (by omega),w64 (x:=1+n) (by omega) (by omega),e5]
  simp only[Option.bind_some]
  rw[if_pos (by simp only[List.length_append,List.length_cons,List.length_nil];omega),if_pos (by simp only[List.length_append,List.length_cons,List.length_nil];omega)]
  simp only[List.append_assoc,List.singleton_append]
  rfl
theorem block2_l (b:List Int) (hb:b.length≤140737488351232) (cnt:Int) (hc:cnt≤2) (n:Nat):∀(k:Nat) (x:List S92) (i p h:Int),0≤p→0≤i→i+(n:Int)=cnt→piece x 2→(x.length:Int)≤i→2*n+4<k→
  ∃r p' h',spec_l05Block.l0 k cnt 2 x i b p h=some (r,p',h')∧piece r 2∧r.length≤2∧0≤p':=by
 induction n with
 |zero=>
  intro k x i p h hp h0 hi hx hl hk
  obtain⟨k,rfl⟩:=succ_of hk
  rw[spec_l05Block.l0,if_neg (by omega)]
  exact⟨_,_,_,rfl,hx,by omega,hp⟩
 |succ n ih=>
  intro k x i p h hp h0 hi hx hl hk
  obtain⟨k,rfl⟩:=succ_of hk
  obtain⟨k,rfl⟩:=succ_of (d:=3) (by omega:3<k)
  obtain⟨s,p',h',a1,a2,a3,a4⟩:=leafStep b hb p h hp k (by omega)
  rw[spec_l05Block.l0,if_pos (by omega),if_neg (by omega),a4 _ _ _ _ (by omega),w64 (by omega) (by omega)]
  exact ih k _ (i+1) p' h' a3 (by omega) (by omega) (piece_app hx (piece_one a1 a2 (by omega))) (by simp only[List.length_append,List.length_cons,List.length_nil];omega) (by omega)
theorem block1_l (b:List Int) (hb:b.length≤140737488351232) (cnt:Int) (hc:cnt≤2) (n:Nat):∀(k:Nat) (x:List S92) (i p h:Int),0≤p→0≤i→i+(n:Int)=cnt→piece x 1→(x.length:Int)≤4*i→2*n+20<k→
  ∃r p' h',spec_l05Block.l0 k cnt 1 x i b p h=some (r,p',h')∧piece r 1∧r.length≤8∧0≤p':=by
 induction n with
 |zero=>
  intro k x i p h hp h0 hi hx hl hk
  obtain⟨k,rfl⟩:=succ_of hk
  rw[spec_l05Block.l0,if_neg (by omega)]
  exact⟨_,_,_,rfl,hx,by omega,hp⟩
 |succ n ih=>
  intro k x i p h hp h0 hi hx hl hk
  obtain⟨k,rfl⟩:=succ_of hk
  obtain⟨k,rfl⟩:=succ_of (d:=18) (by omega:18<k)
  have leaf:∀p h:Int,0≤p→∃r p' h',spec_l05Block.j1 (k+1) cnt 1 x i false b p h=some (r,p',h')∧piece r 1∧r.length≤8∧0≤p':=by
   intro p h hp
   obtain⟨s,p',h',a1,a2,a3,a4⟩:=leafStep b hb p h hp k (by omega)
   rw[a4 _ _ _ _ (by omega),w64 (by omega) (by omega)]
   exact ih k _ (i+1) p' h' a3 (by omega) (by omega) (piece_app hx (piece_one a1 a2 (by omega))) (by simp only[List.length_append,List.length_cons,List.length_nil];omega) (by omega)
  rw[spec_l05Block.l0,if_pos (by omega),if_pos (by omega)]
  by_cases h6:(x.length:Int)<6
  ·rw[if_pos h6]
   obtain⟨o,p1,h1,e1,hp1⟩:=l01Once_ok b p h 5 hp hb
   rw[e1]
   simp only[Option.bind_some]
   cases o with
   |false=>exact leaf p1 h1 hp1
   |true=>
    have nest:∀c p h:Int,0≤p→1≤c→c≤2→∃r p' h',spec_l05Block.f k b p h c (1+1)=some (r,p',h')∧piece r (1+1)∧r.length≤2∧0≤p':=by
     intro c p h hp c1 c2
     obtain⟨m,rfl⟩:=succ_of (d:=17) (by omega:17<k)
     rw[spec_l05Block.f]
     exact block2_l b hb c c2 c.toNat m [] 0 p h hp (by omega) (by omega) (piece_nil 2) (by simp) (by omega)
    obtain⟨s,r,p',h',a1,a2,a3,a4,a5,a6⟩:=nodeStep b hb 1 (by omega) (by omega) 2 k (by omega) nest p1 h1 hp1
    rw[a6 _ _ _ (by omega),w64 (by omega) (by omega)]
    exact ih k _ (i+1) p' h' a5 (by omega) (by omega) (piece_app hx (piece_node a1 a2 endStmt_ok rfl a3 (by omega))) (by simp only[List.length_append,List.length_cons,List.length_nil];omega) (by omega)
  ·rw[if_neg h6]
   exact leaf p h hp
theorem block0_l (b:List Int) (hb:b.length≤140737488351232) (cnt:Int) (hc:cnt≤5) (n:Nat):∀(k:Nat) (x:List S92) (i p h:Int),0≤p→0≤i→i+(n:Int)=cnt→piece x 0→(x.length:Int)≤15+i→2*n+40<k→
  ∃r p' h',spec_l05Block.l0 k cnt 0 x i b p h=some (r,p',h')∧piece r 0∧r.length≤20∧0≤p':=by
 induction n with
 |zero=>
  intro k x i p h hp h0 hi hx hl hk
  obtain⟨k,rfl⟩:=succ_of hk
  rw[spec_l05Block.l0,if_neg (by omega)]
  exact⟨_,_,_,rfl,hx,by omega,hp⟩
 |succ n ih=>
  intro k x i p h hp h0 hi hx hl hk
  obtain⟨k,rfl⟩:=succ_of hk
  obtain⟨k,rfl⟩:=succ_of (d:=38) (by omega:38<k)
  have leaf:∀p h:Int,0≤p→∃r p' h',spec_l05Block.j1 (k+1) cnt 0 x i false b p h=some (r,p',h')∧piece r 0∧r.length≤20∧0≤p':=by
   intro p h hp
   obtain⟨s,p',h',a1,a2,a3,a4⟩:=leafStep b hb p h hp k (by omega)
   rw[a4 _ _ _ _ (by omega),w64 (by omega) (by omega)]
   exact ih k _ (i+1) p' h' a3 (by omega) (by omega) (piece_app hx (piece_one a1 a2 (by omega))) (by simp only[List.length_append,List.length_cons,List.length_nil];omega) (by omega)
  rw[spec_l05Block.l0,if_pos (by omega),if_pos (by omega)]
  by_cases h6:(x.length:Int)<6
  ·rw[if_pos h6]
   obtain⟨o,p1,h1,e1,hp1⟩:=l01Once_ok b p h 5 hp hb
   rw[e1]
   simp only[Option.bind_some]
   cases o with
   |false=>exact leaf p1 h1 hp1
   |true=>
    have nest:∀c p h:Int,0≤p→1≤c→c≤2→∃r p' h',spec_l05Block.f k b p h c (0+1)=some (r,p',h')∧piece r (0+1)∧r.length≤8∧0≤p':=by
     intro c p h hp c1 c2
     obtain⟨m,rfl⟩:=succ_of (d:=37) (by omega:37<k)
     rw[spec_l05Block.f]
     exact block1_l b hb c c2 c.toNat m [] 0 p h hp (by omega) (by omega) (piece_nil 1) (by simp) (by omega)
    obtain⟨s,r,p',h',a1,a2,a3,a4,a5,a6⟩:=nodeStep b hb 0 (by omega) (by omega) 8 k (by omega) nest p1 h1 hp1
    rw[a6 _ _ _ (by omega),w64 (by omega) (by omega)]
    exact ih k _ (i+1) p' h' a5 (by omega) (by omega) (piece_app hx (piece_node a1 a2 endStmt_ok rfl a3 (by omega))) (by simp only[List.length_append,List.length_cons,List.length_nil];omega) (by omega)
  ·rw[if_neg h6]
   exact leaf p h hp
theorem l05Case_ok (b:List Int) (hb:b.length≤140737488351232) (p h:Int) (hp:0≤p) (k:Nat) (hk:60<k):∃r p' h',spec_l05Case.f k b p h=some (r,p',h')∧blockOk r=true∧0≤p':=by
 unfold spec_l05Case.f
 obtain⟨n,p1,h1,e1,a1,a2,_,hp1⟩:=l01Below_ok b p h 6 hp hb
 have:=a2 (by omega)
 obtain⟨m,rfl⟩:=succ_of (d:=59) (by omega:59<k)
 obtain⟨r,p2,h2,e2,q1,q2,hp2⟩:=block0_l b hb n (by omega) n.toNat m [] 0 p1 h1 hp1 (by omega) (by omega) (piece_nil 0) (by simp) (by omega)
 rw[e1]
 simp only[Option.bind_some]
 rw[spec_l05Block.f,e2]
 refine⟨_,_,_,rfl,?_,hp2⟩
 have:=q1 0 [] (by omega) (by omega)
 rw[List.append_nil] at this
 rw[blockOk,this,decide_eq_true (by omega:(r.length:Int)≤24)]
 rfl
theorem l06Program_l (b:List Int) (hb:b.length≤140737488351232) (n:Nat):∀(k:Nat) (i p h:Int) (x:List S75),0≤p→0≤i→i+(n:Int)=3→(x.length:Int)=i→x.all taskOkB=true→n+70<k→
  ∃r p' h',spec_l06Program.l0 k i b p h x=some (r,p',h')∧progOk r=true∧r.length≤3∧0≤p':=by
 induction n with
 |zero=>
  intro k i p h x hp h0 hi hx ha hk
  obtain⟨k,rfl⟩:=succ_of hk
  obtain⟨m,p1,h1,e1,a1,a2,_,hp1⟩:=l01Below_ok b p h 3 hp hb
  have:=a2 (by omega)
  rw[spec_l06Program.l0,e1]
  simp only[Option.bind_some]
  rw[w64 (x:=1+m) (by omega) (by omega),if_neg (by omega)]
  refine⟨_,_,_,rfl,?_,by omega,by omega⟩
  rw[progOk,ha,decide_eq_true (by omega:1≤(x.length:Int)∧(x.length:Int)≤6)]
  rfl
 |succ n ih=>
  intro k i p h x hp h0 hi hx ha hk
  obtain⟨k,rfl⟩:=succ_of hk
  obtain⟨m,p1,h1,e1,a1,a2,_,hp1⟩:=l01Below_ok b p h 3 hp hb
  have:=a2 (by omega)
  rw[spec_l06Program.l0,e1]
  simp only[Option.bind_some]
  rw[w64 (x:=1+m) (by omega) (by omega)]
  by_cases c:i<1+m
  ·rw[if_pos c]
   obtain⟨r,p2,h2,e2,ok2,hp2⟩:=l05Case_ok b hb p1 h1 hp1 k (by omega)
   obtain⟨y0,y1,y2,p3,h3,e3,ok3,hp3⟩:=l03Expr_ok b p2 h2 hp2 hb
   simp only[e2,e3,Option.bind_some]
   rw[if_pos (by omega),w64 (x:=i+1) (by omega) (by omega)]
   refine ih k (i+1) p3 h3 _ hp3 (by omega) (by omega) (by simp only[List.length_append,List.length_cons,List.length_nil];omega) ?_ (by omega)
   rw[List.all_append,ha]
   simp[taskOkB,ok2,ok3]
  ·rw[if_neg c]
   refine⟨_,_,_,rfl,?_,by omega,by omega⟩
   rw[progOk,ha,decide_eq_true (by omega:1≤(x.length:Int)∧(x.length:Int)≤6)]
   rfl
theorem progOk_len {l:List S75} (h:progOk l=true):l.length≤6∧∀y∈l,blockOk y.f0=true∧y.f0.length≤24:=by
 rw[progOk,Bool.and_eq_true,decide_eq_true_eq,List.all_eq_true] at h
 refine⟨by omega,fun y hy=> ?_⟩
 have:=h.2 y hy
 rw[taskOkB,Bool.and_eq_true] at this
 have t:=this.1
 have t2:=t
 rw[blockOk,Bool.and_eq_true,decide_eq_true_eq] at t2
 exact⟨t,by omega⟩
theorem l03Vars_l (b:List Int) (hb:b.length≤140737488351232) (n:Nat):∀(k:Nat) (i p h:Int) (x:List Int),0≤p→0≤i→i+(n:Int)=8→(x.length:Int)=i→x.all valP=true→n<k→
  ∃r p' h',spec_l03Vars.l0 k x i b p h=some (r,p',h')∧r.length=8∧r.all valP=true∧0≤p':=by
 induction n with
 |zero=>
  intro k i p h x hp h0 hi hx ha hk
  obtain⟨k,rfl⟩:=succ_of hk
  rw[spec_l03Vars.l0,if_neg (by omega)]
  exact⟨_,_,_,rfl,by omega,ha,hp⟩
 |succ n ih=>
  intro k i p h x hp h0 hi hx ha hk
  obtain⟨k,rfl⟩:=succ_of hk
  obtain⟨m,p1,h1,e1,a1,a2,_,hp1⟩:=l01Below_ok b p h 2000 hp hb
  have:=a2 (by omega)
  rw[spec_l03Vars.l0,if_pos (by omega),e1]
  simp only[Option.bind_some]
  rw[w64 (x:=m - 1000) (by omega) (by omega)]
  obtain⟨v,p2,h2,e2,q,hp2⟩:=l01PickInt_ok b p1 h1 [0,1,2,5,m - 1000,1000000] hp1 hb (by simp)
  rw[e2]
  simp only[Option.bind_some]
  rw[if_pos (by omega),w64 (x:=i+1) (by omega) (by omega)]
  refine ih k (i+1) p2 h2 _ hp2 (by omega) (by omega) (by simp only[List.length_append,List.length_cons,List.length_nil];omega) ?_ (by omega)
  simp only[List.mem_cons,List.not_mem_nil,or_false] at q
  rw[List.all_append,ha]
  simp[valP]
  omega
theorem places_l (b:List Int) (hb:b.length≤140737488351232) (d:Nat):∀(k:Nat) (acc:List Int) (j i h:Int),0≤j→0≤i→j+(d:Int)=12→acc.length+d=12→(∀x∈acc,0≤x∧x<10000)→d<k→
  ∃r,spec_DrawPlaces.l0 k acc j b i h=some r∧r.length=12∧∀x∈r,0≤x∧x<10000:=by
 induction d with
 |zero=>
  intro k acc j i h h0 hi0 hj hl ha hk
  obtain⟨k,rfl⟩:=succ_of hk
  simp only[spec_DrawPlaces.l0]
  rw[if_neg (by omega)]
  exact⟨_,rfl,by omega,ha⟩
 |succ d ih=>
  intro k acc j i h h0 hi0 hj hl ha hk
  obtain⟨k,rfl⟩:=succ_of hk
  simp only[spec_DrawPlaces.l0]
  obtain⟨r,i',h',e,hr0,hr1,_,hi'⟩:=l01Below_ok b i h 10000 hi0 hb
  rw[if_pos (by omega)]
  simp only[e,Option.bind_some]
  rw[if_pos (by omega),w64 (x:=j+1) (by omega) (by omega)]
  refine ih k _ (j+1) i' h' (by omega) hi' (by omega) (by simp;omega) ?_ (by omega)
  intro x hx
  rcases List.mem_append.1 hx with hx|hx
  ·exact ha x hx
  ·rw[List.mem_singleton.1 hx]
   exact⟨hr0,hr1 (by omega)⟩
theorem places_at (b:List Int) (hb:b.length≤140737488351232) (k:Nat) (hk:b.length<k) (hk2:12<k):
  ∃r,spec_DrawPlaces.f k b=some r∧r.length=12∧∀x∈r,0≤x∧x<10000:=by
 unfold spec_DrawPlaces.f
 obtain⟨h,e⟩:=l01New_at b hb k hk
 simp only[e,Option.bind_some]
 exact places_l b hb 12 k [] 0 0 h (by omega) (by omega) (by omega) (by simp) (by simp) hk2
theorem l12Readings_l (b:List Int) (hb:b.length≤140737488351232) (d:Nat):∀(k:Nat) (acc:List Int) (j i h:Int),0≤j→j≤9→0≤i→j+(d:Int)=9→(acc.length:Int)=j→(∀x∈acc,-200≤x∧x<600)→d<k→
  ∃r i' h',spec_l12Readings.l0 k acc j b i h=some (r,i',h')∧j≤(r.length:Int)∧r.length≤9∧1≤r.length∧(∀x∈r,-200≤x∧x<600)∧0≤i':=by
 induction d with
 |zero=>
  intro k acc j i h h0 h9 hi0 hj hl ha hk
  obtain⟨k,rfl⟩:=succ_of hk
  simp only[spec_l12Readings.l0]
  obtain⟨r,i',h',e,hr0,hr1,_,hi'⟩:=l01Below_ok b i h 9 hi0 hb
  have:=hr1 (by omega)
  simp only[e,Option.bind_some]
  rw[w64 (x:=1+r) (by omega) (by omega),if_neg (by omega)]
  exact⟨_,_,_,rfl,by omega,by omega,by omega,ha,hi'⟩
 |succ d ih=>
  intro k acc j i h h0 h9 hi0 hj hl ha hk
  obtain⟨k,rfl⟩:=succ_of hk
  simp only[spec_l12Readings.l0]
  obtain⟨r,i',h',e,hr0,hr1,_,hi'⟩:=l01Below_ok b i h 9 hi0 hb
  have:=hr1 (by omega)
  simp only[e,Option.bind_some]
  rw[w64 (x:=1+r) (by omega) (by omega)]
  by_cases hlt:j<1+r
  ·obtain⟨q,i2,g2,e2,hq0,hq1,_,hi2⟩:=l01Below_ok b i' h' 800 hi' hb
   have:=hq1 (by omega)
   rw[if_pos hlt]
   simp only[e2,Option.bind_some]
   rw[if_pos (by omega),w64 (x:=q - 200) (by omega) (by omega),w64 (x:=j+1) (by omega) (by omega)]
   obtain⟨r',i3,g3,e3,p1,p2,p3,p4,p5⟩:=ih k (acc++[q - 200]) (j+1) i2 g2 (by omega) (by omega) hi2 (by omega) (by simp;omega) (by
    intro x hx
    rcases List.mem_append.1 hx with hx|hx
    ·exact ha x hx
    ·rw[List.mem_singleton.1 hx]
     omega) (by omega)
   exact⟨r',i3,g3,e3,by omega,p2,p3,p4,p5⟩
  ·rw[if_neg hlt]
   exact⟨_,_,_,rfl,by omega,by omega,by omega,ha,hi'⟩
theorem l12Readings_at (b:List Int) (i h:Int) (h0:0≤i) (hb:b.length≤140737488351232) (k:Nat) (hk:9<k):
  ∃r i' h',spec_l12Readings.f k b i h=some (r,i',h')∧r.length≤9∧1≤r.length∧(∀x∈r,-200≤x∧x<600)∧0≤i':=by
 unfold spec_l12Readings.f
 obtain⟨r,i',h',e,_,p2,p3,p4,p5⟩:=l12Readings_l b hb 9 k [] 0 i h (by omega) (by omega) h0 (by omega) (by simp) (by simp) hk
 exact⟨r,i',h',e,p2,p3,p4,p5⟩
theorem drawReadings_at (b:List Int) (hb:b.length≤140737488351232) (k:Nat) (hk:b.length<k) (hk2:9<k):
  ∃r,spec_DrawReadings.f k b=some r∧r.length≤9∧1≤r.length∧∀x∈r,-200≤x∧x<600:=by
 unfold spec_DrawReadings.f
 obtain⟨h,e⟩:=l01New_at b hb k hk
 simp only[e,Option.bind_some]
 obtain⟨r,i',h',e',p1,p2,p3,_⟩:=l12Readings_at b 0 h (by omega) hb k hk2
 simp only[e',Option.bind_some]
 exact⟨_,rfl,p1,p2,p3⟩
theorem isValI_eq (x:Int):impl_IsValue.f x=some (valP x):=valP_eq x
theorem isVarI_eq (x:Int):impl_isVar.f x=some (decide (0≤x∧x≤7)):=by
 unfold impl_isVar.f
 rw[within_eq]
 rfl
theorem areValI_eq (l:List Int):impl_areValues.f l=some (l.all valP):=by
 unfold impl_areValues.f
 rw[List.all_eq_not_any_not]
theorem logI_l (m:List Int) (hm:m.length=49) (n:Int) (hn:n≤8) (d:Nat):∀(k:Nat) (i:Int),0≤i→i+(d:Int)=n→d<k→
  impl_MemOk.l0 k m n i=some (logOk m d i):=by
 induction d with
 |zero=>
  intro k i h0 hi hk
  obtain⟨k,rfl⟩:=succ_of hk
  simp only[impl_MemOk.l0]
  rw[if_neg (by omega)]
  rfl
 |succ d ih=>
  intro k i h0 hi hk
  obtain⟨k,rfl⟩:=succ_of hk
  have w1:wrap64 (2*i)=2*i:=w64 (by omega) (by omega)
  have w2:wrap64 (9+2*i)=9+2*i:=w64 (by omega) (by omega)
  have w3:wrap64 (9+2*i+1)=9+2*i+1:=w64 (by omega) (by omega)
  have w4:wrap64 (i+1)=i+1:=w64 (by omega) (by omega)
  simp only[impl_MemOk.l0,w1,w2,w3,w4,isVarI_eq,isValI_eq,Option.bind_some,decide_eq_true_eq]
  rw[if_pos (by omega),if_pos (by omega),if_pos (by omega),ih k (i+1) (by omega) (by omega) (by omega),logOk]
  by_cases h:0≤rd m (9+2*i)∧rd m (9+2*i)≤7
  ·rw[if_pos h,if_pos (by omega),if_pos (by omega)]
   cases valP (rd m (9+2*i+1))<;>simp[h]
  ·rw[if_neg h]
   simp only[h,decide_false,Bool.false_and]
theorem memOkI_at (l:List S75) (h:∀y∈l,y.f0.length≤1048576) (m:List Int) (hm:m.length≤1048576) (k:Nat) (hk:2097160<k):impl_MemOk.f k l m=some (memOk l m):=by
 unfold impl_MemOk.f memOk
 rw[progOkI_at l h k hk]
 obtain⟨k,rfl⟩:=succ_of (d:=20) (by omega:20<k)
 obtain⟨k,rfl⟩:=succ_of (d:=19) (by omega:19<k)
 simp only[Option.bind_some,impl_MemOk.j0,impl_MemOk.j1,areValI_eq]
 by_cases p:progOk l=true
 ·simp only[p,if_true,Bool.true_and]
  by_cases e:m.length=49
  ·obtain⟨s,n,t,eu,hu⟩:=unpackI_all (rd m 8)
   have e':(m.length:Int)=49:=by omega
   have g8:(8:Int)≤(m.length:Int):=by omega
   have g9:(8:Int)<(m.length:Int):=by omega
   simp only[e',e,eu,Option.bind_some,if_true,decide_true,Bool.true_and,(by omega:(8:Int)≤49),(by omega:(8:Int)<49)]
   rcases hu with⟨rfl,rfl,rfl⟩|⟨h1,h2,h3⟩
   ·cases List.all (List.take 8 m) valP<;>simp
   ·have w1:wrap64 (25+t)=25+t:=w64 (by omega) (by omega)
    have s0:¬s<0:=by omega
    have t0:(25:Int)≤25+t:=by omega
    have t1:(25:Int)+t≤49:=by omega
    have lg:=logI_l m e n (by omega) n.toNat k 0 (by omega) (by omega) (by omega)
    simp only[w1,s0,t0,t1,if_true,if_false,lg]
    by_cases hs:s≥(l.length:Int)
    ·have:¬(0≤s∧s<(l.length:Int)):=by omega
     cases List.all (List.take 8 m) valP<;>simp[hs,this]
    ·have:(0≤s∧s<(l.length:Int)):=by omega
     simp only[hs,this,if_false,and_self,decide_true,Bool.true_and]
     cases List.all (List.take 8 m) valP<;>cases List.all (List.drop 25 (List.take (25+t).toNat m)) valP<;>simp[e,t1]
  ·have e':¬(m.length:Int)=49:=by omega
   simp[e,e']
 ·simp[p]
def sat (a:Int):Int:=if a< -1000000 then -1000000 else if a > 1000000 then 1000000 else a
theorem sat_in (a:Int): -1000000≤sat a∧sat a≤1000000:=by
 unfold sat
 split
 ·omega
 ·split<;>omega
theorem clampI_eq (a:Int):impl_Clamp.f a (-1000000) 1000000=some (sat a):=by
 unfold impl_Clamp.f mn mx sat
 rw[if_neg (by omega)]
 congr 1
 split<;>split<;>(try split)<;>omega
theorem saturateI_eq (a:Int):impl_Saturate.f a=some (sat a):=by
 unfold impl_Saturate.f
 rw[clampI_eq]
 rfl
theorem addI_eq (a b:Int):impl_AddValues.f a b=some (sat (sat a+sat b)):=by
 unfold impl_AddValues.f
 simp only[saturateI_eq,Option.bind_some]
 have h1:=sat_in a
 have h2:=sat_in b
 rw[w64 (by omega) (by omega)]
theorem stOk_loop {s:S92} (h:stOk s=true) (o:s.f0=5):1≤s.f2∧s.f2≤5:=by
 unfold stOk stmtOk at h
 simp[o] at h
 omega
theorem stOk_set {s:S92} (h:stOk s=true) (o:s.f0=1):(0≤s.f1∧s.f1≤7)∧exprOk s.f3.f0 s.f3.f1 s.f3.f2=true:=by
 unfold stOk stmtOk at h
 simp only[o,if_true,Bool.and_eq_true,decide_eq_true_eq] at h
 exact⟨h.1.1,h.2⟩
theorem stOk_sense {s:S92} (h:stOk s=true) (o:s.f0=2):(0≤s.f1∧s.f1≤7)∧0≤s.f2∧s.f2≤3:=by
 unfold stOk stmtOk at h
 simp[o] at h
 omega
theorem stOk_expr {s:S92} (h:stOk s=true) (o:s.f0=3∨s.f0=4):exprOk s.f3.f0 s.f3.f1 s.f3.f2=true:=by
 unfold stOk stmtOk at h
 have h1:¬s.f0=1:=by omega
 have h2:¬s.f0=2:=by omega
 simp only[h1,h2,o,if_true,if_false,Bool.and_eq_true] at h
 exact h.2
theorem exprOk_iff (a b c:Int):exprOk a b c=true↔(1≤a∧a≤7)∧(-8≤b∧b≤999)∧ -8≤c∧c≤999:=by unfold exprOk;rw[decide_eq_true_eq]
theorem valP_iff (x:Int):valP x=true↔ -1000000≤x∧x≤1000000:=by unfold valP;rw[decide_eq_true_eq]
def opv (v:List Int) (n:Int):Int:=if n<0 then rd v (-1 - n) else n
def evalE (v:List Int) (a b c:Int):Int:=
 if a=1 then sat (sat (opv v b)+sat (opv v c)) else if a=2 then sat (sat (opv v b) - sat (opv v c)) else if a=3 then sat (sat (opv v b)*sat (opv v c))
 else if a=4 then mn (opv v b) (opv v c) else if a=5 then mx (opv v b) (opv v c) else if a=6 then (if opv v b<opv v c then 1 else 0) else (if opv v b=opv v c then 1 else 0)
def vok (v:List Int):Prop:=v.length=8∧v.all valP=true
theorem vok_rd {v:List Int} (h:vok v) {i:Int} (h0:0≤i) (h1:i<8): -1000000≤rd v i∧rd v i≤1000000:=by
 have h2:=rd_eq (l:=v) h0 (by rw[h.1];exact h1)
 exact(valP_iff _).1 (List.all_eq_true.1 h.2 _ (List.mem_of_getElem? h2))
theorem opv_in {v:List Int} (h:vok v) {n:Int} (h0: -8≤n) (h1:n≤999): -1000000≤opv v n∧opv v n≤1000000:=by
 unfold opv
 split
 ·exact vok_rd h (by omega) (by omega)
 ·omega
theorem mul_in {a b:Int} (ha: -1000000≤a∧a≤1000000) (hb: -1000000≤b∧b≤1000000): -1000000000000≤a*b∧a*b≤1000000000000:=by
 have h1:a.natAbs≤1000000:=by omega
 have h2:b.natAbs≤1000000:=by omega
 have h3:(a*b).natAbs≤1000000*1000000:=by rw[Int.natAbs_mul];exact Nat.mul_le_mul h1 h2
 omega
theorem evalE_in {v:List Int} (h:vok v) {a b c:Int} (he:exprOk a b c=true): -1000000≤evalE v a b c∧evalE v a b c≤1000000:=by
 obtain⟨_,hb,hc⟩:=(exprOk_iff a b c).1 he
 have h1:=opv_in h hb.1 hb.2
 have h2:=opv_in h hc.1 hc.2
 unfold evalE mn mx
 repeat' split
 all_goals first|exact sat_in _|omega
theorem vok_set {v:List Int} (h:vok v) (i:Nat) {x:Int} (hx: -1000000≤x∧x≤1000000):vok (v.set i x):=by
 refine⟨by rw[List.length_set];exact h.1,?_⟩
 rw[List.all_eq_true]
 intro y hy
 rcases List.mem_or_eq_of_mem_set hy with h1|rfl
 ·exact List.all_eq_true.1 h.2 y h1
 ·exact(valP_iff _).2 hx
theorem bitI_eq (b:Bool):impl_bit.f b=some (if b=true then 1 else 0):=by cases b<;>rfl
theorem varsI_eq (v:List Int):impl_VarsOk.f v=some (decide (v.length=8)&&v.all valP):=by
 unfold impl_VarsOk.f
 by_cases h:v.length=8
 ·rw[if_pos (by omega),areValI_eq]
  simp[h]
 ·rw[if_neg (by omega)]
  simp[h]
theorem varsI_ok {v:List Int} (h:vok v):impl_VarsOk.f v=some true:=by rw[varsI_eq,h.2];simp[h.1]
theorem operandI_at {v:List Int} (h:vok v) {n:Int} (h0: -8≤n) (h1:n≤999):impl_operand.f v n=some (opv v n):=by
 unfold impl_operand.f opv
 by_cases c:n<0
 ·rw[if_pos c,if_pos c,w64 (by omega) (by omega),if_pos (by omega),if_pos (by rw[h.1];omega)]
 ·rw[if_neg c,if_neg c]
theorem subI_eq (a b:Int):impl_SubValues.f a b=some (sat (sat a - sat b)):=by
 unfold impl_SubValues.f
 simp only[saturateI_eq,Option.bind_some]
 have h1:=sat_in a
 have h2:=sat_in b
 rw[w64 (by omega) (by omega)]
theorem mulI_eq (a b:Int):impl_MulValues.f a b=some (sat (sat a*sat b)):=by
 unfold impl_MulValues.f
 simp only[saturateI_eq,Option.bind_some]
 have h:=mul_in (sat_in a) (sat_in b)
 rw[w64 (by omega) (by omega)]
theorem evalI_at {v:List Int} (h:vok v) {a b c:Int} (he:exprOk a b c=true) (k:Nat) (hk:0<k):impl_EvalExpr.f k v a b c=some (evalE v a b c):=by
 obtain⟨k,rfl⟩:=succ_of hk
 obtain⟨_,hb,hc⟩:=(exprOk_iff a b c).1 he
 unfold impl_EvalExpr.f
 rw[varsI_ok h,exprI_eq,he]
 simp only[Option.bind_some,if_true,impl_EvalExpr.j0,operandI_at h hb.1 hb.2,operandI_at h hc.1 hc.2,addI_eq,subI_eq,mulI_eq,bitI_eq,Bool.not_true]
 unfold evalE
 simp only[Bool.false_eq_true,if_false,decide_eq_true_eq,beq_iff_eq]
 repeat' split
 all_goals first|rfl|simp_all
theorem take_drop_mid {α:Type} (pre m post:List α) {i j:Int} (hi:i=(pre.length:Int)) (hj:j=i+(m.length:Int)):((pre++(m++post)).take j.toNat).drop i.toNat=m:=by
 have h1:j.toNat=pre.length+m.length:=by omega
 have h2:i.toNat=pre.length:=by omega
 rw[h1,h2,←List.append_assoc,List.take_append_of_le_length (by simp),List.take_of_length_le (by simp),List.drop_left]
theorem endI_l:∀(T:Bk),T.ok→∀(k:Nat) (pre post:List S92) (x i:Int),i=(pre.length:Int)→(pre++(T.flat++post)).length≤1048576→1≤x→x+(T.flat.length:Int)≤4000000→2*T.flat.length<k→
  impl_endOf.l0 k (pre++(T.flat++post)) x i=impl_endOf.l0 (k - 2*T.flat.length) (pre++(T.flat++post)) x (i+(T.flat.length:Int))
 | .nil,_,k,pre,post,x,i,hi,hl,hx,hx2,hk=>by
  simp[Bk.flat]
 | .leaf s t,ok,k,pre,post,x,i,hi,hl,hx,hx2,hk=>by
  simp only[Bk.flat,List.length_cons,List.length_append,List.cons_append] at hk hl hx2 ⊢
  obtain⟨k,rfl⟩:=succ_of (d:=1) (by omega:1<k)
  obtain⟨k,rfl⟩:=succ_of (d:=0) (by omega:0<k)
  have e:=at_mid pre (t.flat++post) s hi
  rw[impl_endOf.l0,if_pos (by simp only[List.length_append,List.length_cons];omega),if_pos (by omega),e,opening_eq]
  have n4:¬(s.f0=4∨s.f0=5):=fun h=>h.elim ok.1 ok.2.1
  simp only[Option.bind_some,decide_eq_true_eq]
  rw[if_neg n4,impl_endOf.j1,if_pos (by omega),if_pos (by simp only[List.length_append,List.length_cons];omega),e,if_neg ok.2.2.1,if_neg (by omega),w64 (by omega) (by omega)]
  have r:=endI_l t ok.2.2.2 k (pre++[s]) post x (i+1) (by simp only[List.length_append,List.length_cons,List.length_nil];omega) (by simp only[List.length_append,List.length_cons,List.length_nil];omega) hx (by omega) (by omega)
  simp only[List.append_assoc,List.singleton_append] at r
  rw[r]
  congr 1
  ·omega
  ·omega
 | .node s b c t,ok,k,pre,post,x,i,hi,hl,hx,hx2,hk=>by
  obtain⟨o,ob,oc,ot⟩:=ok
  simp only[Bk.flat,List.length_cons,List.length_append,List.cons_append,List.append_assoc] at hk hl hx2 ⊢
  obtain⟨k,rfl⟩:=succ_of (d:=1) (by omega:1<k)
  obtain⟨k,rfl⟩:=succ_of (d:=0) (by omega:0<k)
  have e:=at_mid pre (b.flat++c::(t.flat++post)) s hi
  rw[impl_endOf.l0,if_pos (by simp only[List.length_append,List.length_cons];omega),if_pos (by omega),e,opening_eq]
  simp only[Option.bind_some,decide_eq_true_eq]
  rw[if_pos o,impl_endOf.j1,if_pos (by omega),if_pos (by simp only[List.length_append,List.length_cons];omega),e,if_neg (by omega),w64 (x:=i+1) (by omega) (by omega),w64 (x:=x+1) (by omega) (by omega),if_neg (by omega)]
  have r:=endI_l b ob k (pre++[s]) (c::(t.flat++post)) (x+1) (i+1) (by simp only[List.length_append,List.length_cons,List.length_nil];omega) (by simp only[List.length_append,List.length_cons,List.length_nil];omega) (by omega) (by omega) (by omega)
  simp only[List.append_assoc,List.singleton_append] at r
  rw[r]
  obtain⟨m,em⟩:=succ_of (d:=1) (by omega:1<k - 2*b.flat.length)
  rw[em]
  obtain⟨m,rfl⟩:=succ_of (d:=0) (by omega:0<m)
  have e2:rd_T92 (pre++s::(b.flat++c::(t.flat++post))) (i+1+(b.flat.length:Int))=c:=by
   have:=at_mid (pre++s::b.flat) (t.flat++post) c (i:=i+1+(b.flat.length:Int)) (by simp only[List.length_append,List.length_cons];omega)
   simpa only[List.append_assoc,List.cons_append] using this
  rw[impl_endOf.l0,if_pos (by simp only[List.length_append,List.length_cons];omega),if_pos (by omega),e2,opening_eq]
  simp only[Option.bind_some,decide_eq_true_eq]
  rw[if_neg (by omega),impl_endOf.j1,if_pos (by omega),if_pos (by simp only[List.length_append,List.length_cons];omega),e2,if_pos oc,w64 (x:=x+1 - 1) (by omega) (by omega),if_neg (by omega),w64 (by omega) (by omega),Int.add_sub_cancel]
  have r2:=endI_l t ot m (pre++s::(b.flat++[c])) post x (i+1+(b.flat.length:Int)+1) (by simp only[List.length_append,List.length_cons,List.length_nil];omega) (by simp only[List.length_append,List.length_cons,List.length_nil];omega) hx (by omega) (by omega)
  simp only[List.append_assoc,List.nil_append,List.cons_append] at r2
  rw[r2]
  congr 1
  ·omega
  ·omega
theorem endI_at (pre post:List S92) (s c:S92) (b:Bk) (ok:b.ok) (o:s.f0=4∨s.f0=5) (oc:c.f0=6) (i:Int) (hi:i=(pre.length:Int)) (hl:(pre++s::(b.flat++c::post)).length≤1048576) (k:Nat) (hk:2*b.flat.length+4<k):
  impl_endOf.f k (pre++s::(b.flat++c::post)) i=some (i+1+(b.flat.length:Int)):=by
 unfold impl_endOf.f
 have hl':=hl
 simp only[List.length_append,List.length_cons] at hl'
 obtain⟨k,rfl⟩:=succ_of (d:=1) (by omega:1<k)
 obtain⟨k,rfl⟩:=succ_of (d:=0) (by omega:0<k)
 have e:=at_mid pre (b.flat++c::post) s hi
 rw[impl_endOf.l0,if_pos (by simp only[List.length_append,List.length_cons];omega),if_pos (by omega),e,opening_eq]
 simp only[Option.bind_some,decide_eq_true_eq]
 rw[if_pos o,impl_endOf.j1,if_pos (by omega),if_pos (by simp only[List.length_append,List.length_cons];omega),e,if_neg (by omega),w64 (x:=i+1) (by omega) (by omega),w64 (x:=0+1) (by omega) (by omega),if_neg (by omega)]
 have r:=endI_l b ok k (pre++[s]) (c::post) (0+1) (i+1) (by simp only[List.length_append,List.length_cons,List.length_nil];omega) (by simp only[List.length_append,List.length_cons,List.length_nil];omega) (by omega) (by omega) (by omega)
 simp only[List.append_assoc,List.singleton_append] at r
 rw[r]
 obtain⟨m,em⟩:=succ_of (d:=1) (by omega:1<k - 2*b.flat.length)
 rw[em]
 obtain⟨m,rfl⟩:=succ_of (d:=0) (by omega:0<m)
 have e2:rd_T92 (pre++s::(b.flat++c::post)) (i+1+(b.flat.length:Int))=c:=by
  have:=at_mid (pre++s::b.flat) post c (i:=i+1+(b.flat.length:Int)) (by simp only[List.length_append,List.length_cons];omega)
  simpa only[List.append_assoc,List.cons_append] using this
 rw[impl_endOf.l0,if_pos (by simp only[List.length_append,List.length_cons];omega),if_pos (by omega),e2,opening_eq]
 simp only[Option.bind_some,decide_eq_true_eq]
 rw[if_neg (by omega),impl_endOf.j1,if_pos (by omega),if_pos (by simp only[List.length_append,List.length_cons];omega),e2,if_pos oc,w64 (x:=0+1 - 1) (by omega) (by omega),if_pos (by omega)]
def walkT {σ:Type} (step:σ→S92→Option (σ×Bool)):Bk→σ→Option σ
 | .nil,s=>some s
 | .leaf x t,s=>(step s x).bind fun y=>walkT step t y.1
 | .node x b _ t,s=>(step s x).bind fun y=>(walkRep (fun s'=>walkT step b s') (if x.f0=4 then (if y.2=true then (1:Int) else 0) else x.f2).toNat y.1).bind fun s'=>walkT step t s'
theorem walkI_l {σ:Type} (step:σ→S92→Option (σ×Bool)):∀(T:Bk),T.ok→(∀s∈T.flat,stOk s=true)→∀(k:Nat) (pre:List S92) (i:Int) (s:σ),i=(pre.length:Int)→(pre++T.flat).length≤1048576→3*T.flat.length+8<k→
  impl_walk.l0 step k (pre++T.flat) i s=walkT step T s
 | .nil,_,_,k,pre,i,s,hi,hl,hk=>by
  obtain⟨k,rfl⟩:=succ_of hk
  rw[impl_walk.l0,if_neg (by simp only[Bk.flat,List.append_nil];omega)]
  rfl
 | .leaf x t,ok,hs,k,pre,i,s,hi,hl,hk=>by
  simp only[Bk.flat,List.length_cons,List.length_append] at hk hl ⊢
  obtain⟨k,rfl⟩:=succ_of (d:=4) (by omega:4<k)
  have e:=at_mid pre t.flat x hi
  have n4:¬(x.f0=4∨x.f0=5):=fun h=>h.elim ok.1 ok.2.1
  have w1:wrap64 (i+1)=i+1:=w64 (by omega) (by omega)
  rw[impl_walk.l0,if_pos (by simp only[List.length_append,List.length_cons];omega),if_pos (by omega),e,if_neg ok.2.2.1,opening_eq,w1,walkT]
  simp only[Option.bind_some,decide_eq_true_eq]
  congr 1
  funext y
  rw[if_neg n4]
  have r:=walkI_l step t ok.2.2.2 (fun x hx=>hs x (by simp[Bk.flat,hx])) k (pre++[x]) (i+1) y.1 (by simp only[List.length_append,List.length_cons,List.length_nil];omega) (by simp only[List.length_append,List.length_cons,List.length_nil];omega) (by omega)
  simp only[List.append_assoc,List.singleton_append] at r
  rw[r]
 | .node x b c t,ok,hs,k,pre,i,s,hi,hl,hk=>by
  obtain⟨o,ob,oc,ot⟩:=ok
  simp only[Bk.flat,List.length_cons,List.length_append] at hk hl ⊢
  obtain⟨k,rfl⟩:=succ_of (d:=4) (by omega:4<k)
  have hss:=hs x (by simp[Bk.flat])
  have e:=at_mid pre (b.flat++c::t.flat) x hi
  have w1:wrap64 (i+1)=i+1:=w64 (by omega) (by omega)
  have w2:wrap64 (i+1+(b.flat.length:Int)+1)=i+1+(b.flat.length:Int)+1:=w64 (by omega) (by omega)
  have hend:=endI_at pre t.flat x c b ob o oc i hi (by simp only[List.length_append,List.length_cons];omega) k (by omega)
  have hn:∀y:σ×Bool,(if x.f0=4 then impl_bit.f y.2 else some x.f2)=some (if x.f0=4 then (if y.2=true then (1:Int) else 0) else x.f2):=fun y=>by
   split
   ·rw[bitI_eq]
   ·rfl
  have hn2:∀y:σ×Bool,(if x.f0=4 then (if y.2=true then (1:Int) else 0) else x.f2)≤9223372036854775807:=fun y=>by
   by_cases h4:x.f0=4
   ·rw[if_pos h4];split<;>omega
   ·rw[if_neg h4]
    have:=stOk_loop hss (by omega:x.f0=5)
    omega
  rw[impl_walk.l0,if_pos (by simp only[List.length_append,List.length_cons];omega),if_pos (by omega),e,if_neg (by omega),opening_eq,w1,walkT]
  simp only[Option.bind_some,decide_eq_true_eq]
  congr 1
  funext y
  rw[if_pos o,hend,hn]
  simp only[Option.bind_some]
  rw[w2,if_pos ⟨by omega,by omega,by simp only[List.length_append,List.length_cons];omega,hn2 y⟩]
  obtain⟨m,rfl⟩:=succ_of (d:=0) (by omega:0<k)
  have r1:∀s',impl_walk.f step (m+1) (((pre++x::(b.flat++c::t.flat)).take (i+1+(b.flat.length:Int)).toNat).drop (i+1).toNat) s'=walkT step b s':=fun s'=>by
   have q:=take_drop_mid (pre++[x]) b.flat (c::t.flat) (i:=i+1) (j:=i+1+(b.flat.length:Int)) (by simp only[List.length_append,List.length_cons,List.length_nil];omega) rfl
   simp only[List.append_assoc,List.singleton_append] at q
   rw[q,impl_walk.f]
   have:=walkI_l step b ob (fun x hx=>hs x (by simp[Bk.flat,hx])) m [] 0 s' rfl (by simp only[List.nil_append];omega) (by omega)
   simpa using this
  simp only[r1]
  congr 1
  funext s'
  have r2:=walkI_l step t ot (fun x hx=>hs x (by simp[Bk.flat,hx])) (m+1) (pre++x::(b.flat++[c])) (i+1+(b.flat.length:Int)+1) s' (by simp only[List.length_append,List.length_cons,List.length_nil];omega) (by simp only[List.length_append,List.length_cons,List.length_nil];omega) (by omega)
  simp only[List.append_assoc,List.nil_append,List.cons_append] at r2
  rw[r2]
theorem walkI_at {σ:Type} (step:σ→S92→Option (σ×Bool)) (T:Bk) (ok:T.ok) (hs:∀s∈T.flat,stOk s=true) (hl:T.flat.length≤1048576) (k:Nat) (hk:3*T.flat.length+9<k) (s:σ):impl_walk.f step k T.flat s=walkT step T s:=by
 obtain⟨k,rfl⟩:=succ_of hk
 rw[impl_walk.f]
 have:=walkI_l step T ok hs k [] 0 s rfl (by simpa using hl) (by omega)
 simpa using this
def rep {σ:Type} (f:σ→σ):Nat→σ→σ
 |0,s=>s
 |n+1,s=>rep f n (f s)
def runT {σ:Type} (c:σ→S92→σ×Bool):Bk→σ→σ
 | .nil,s=>s
 | .leaf x t,s=>runT c t (c s x).1
 | .node x b _ t,s=>runT c t (rep (runT c b) (if x.f0=4 then (if (c s x).2=true then (1:Int) else 0) else x.f2).toNat (c s x).1)
theorem walkRep_run {σ:Type} (f:σ→Option σ) (g:σ→σ) (P:Nat→σ→Prop) (L:Nat) (h:∀n s,P (L+n) s→f s=some (g s)∧P n (g s)):∀(n m:Nat) (s:σ),P (n*L+m) s→walkRep f n s=some (rep g n s)∧P m (rep g n s)
 |0,m,s,hp=>⟨rfl,by show P m s;simpa using hp⟩
 |n+1,m,s,hp=>by
  have e:(n+1)*L+m=L+(n*L+m):=by rw[Nat.succ_mul];omega
  rw[e] at hp
  obtain⟨h1,h2⟩:=h _ s hp
  rw[walkRep,h1]
  exact walkRep_run f g P L h n m (g s) h2
def nextT (l:List S75) (v:List Int) (i:Int):Int:=(Int.tmod (Int.tmod (evalE v (rd_T75 l i).f1.f0 (rd_T75 l i).f1.f1 (rd_T75 l i).f1.f2) (l.length:Int)+(l.length:Int)) (l.length:Int))
theorem progOk_task {l:List S75} (h:progOk l=true) {i:Int} (h0:0≤i) (h1:i<(l.length:Int)):rd_T75 l i∈l∧blockOk (rd_T75 l i).f0=true∧exprOk (rd_T75 l i).f1.f0 (rd_T75 l i).f1.f1 (rd_T75 l i).f1.f2=true:=by
 have hm:rd_T75 l i∈l:=by
  unfold rd_T75
  rw[List.getD_eq_getElem?_getD,List.getElem?_eq_getElem (by omega)]
  exact List.getElem_mem _
 rw[progOk,Bool.and_eq_true,List.all_eq_true] at h
 have:=h.2 _ hm
 rw[taskOkB,Bool.and_eq_true] at this
 exact⟨hm,this⟩
theorem hasTaskI_at (l:List S75) (h:∀y∈l,y.f0.length≤1048576) (hl:l.length≤1048576) (i:Int) (k:Nat) (hk:2097160<k):impl_hasTask.f k l i=some (progOk l&&decide (0≤i∧i<(l.length:Int))):=by
 unfold impl_hasTask.f
 rw[progOkI_at l h k hk,w64 (by omega) (by omega),within_eq]
 simp only[Option.bind_some]
 have e:decide (0≤i∧i≤(l.length:Int) - 1)=decide (0≤i∧i<(l.length:Int)):=by congr 1;apply propext;constructor<;>intro h<;>omega
 rw[e]
 cases progOk l<;>simp
theorem nextI_at (l:List S75) (hp:progOk l=true) {v:List Int} (hv:vok v) {i:Int} (h0:0≤i) (h1:i<(l.length:Int)) (k:Nat) (hk:2097160<k):impl_NextTask.f k l v i=some (nextT l v i):=by
 obtain⟨q1,q2⟩:=progOk_len hp
 obtain⟨_,_,he⟩:=progOk_task hp h0 h1
 unfold impl_NextTask.f nextT
 rw[hasTaskI_at l (fun y hy=>by have:=(q2 y hy).2;omega) (by omega) i k hk,hp,varsI_ok hv]
 simp only[Option.bind_some,Bool.true_and,decide_eq_true_eq]
 have b:=evalE_in hv he
 have hn:(0:Int)<(l.length:Int):=by omega
 have b2:=Int.tmod_lt_of_pos (evalE v (rd_T75 l i).f1.f0 (rd_T75 l i).f1.f1 (rd_T75 l i).f1.f2) hn
 have b3:=Int.lt_tmod_of_pos (evalE v (rd_T75 l i).f1.f0 (rd_T75 l i).f1.f1 (rd_T75 l i).f1.f2) hn
 rw[if_pos ⟨h0,h1⟩,if_pos trivial,if_pos h0,if_pos h1,evalI_at hv he k (by omega)]
 simp only[Option.bind_some]
 rw[if_neg (by omega),w64 (by omega) (by omega)]
theorem isSensor_eq (a:Int):impl_isSensor.f a=some (decide (0≤a∧a≤3)):=by
 unfold impl_isSensor.f
 rw[within_eq]
 rfl
def sensorOf (l:List Int) (s n:Int):Int:=if (l.length:Int)=0 then 0 else if 0≤s∧s≤3 then (if n<0 then 0 else sat (sat (rd l (Int.tmod n (l.length:Int)))+sat (100*s))) else 0
theorem readSensorI_eq (l:List Int) (s n:Int):impl_ReadSensor.f l s n=some (sensorOf l s n):=by
 unfold impl_ReadSensor.f sensorOf
 by_cases h:(l.length:Int)=0
 ·rw[if_pos h,if_pos h]
 rw[if_neg h,if_neg h,isSensor_eq]
 simp only[Option.bind_some,decide_eq_true_eq]
 by_cases h2:0≤s∧s≤3
 ·rw[if_pos h2,if_pos h2]
  by_cases h3:n<0
  ·rw[if_pos h3,if_pos h3]
  ·have:=tmod_in (a:=n) (n:=(l.length:Int)) (by omega) (by omega)
   rw[if_neg h3,if_neg h3,if_pos this.1,if_pos this.2,addI_eq,w64 (by omega) (by omega)]
   rfl
 ·rw[if_neg h2,if_neg h2]
theorem sensorOf_in (l:List Int) (s n:Int): -1000000≤sensorOf l s n∧sensorOf l s n≤1000000:=by
 unfold sensorOf
 split
 ·omega
 split
 ·split
  ·omega
  ·exact sat_in _
 ·omega
def costC (s:S92):Int:=if s.f0=1 then 2 else if s.f0=2 then 5 else if s.f0=3 then 4 else if s.f0=4 then 1 else if s.f0=5 then 1 else 0
theorem stOk_kind {s:S92} (h:stOk s=true):s.f0=1∨s.f0=2∨s.f0=3∨s.f0=4∨s.f0=5∨s.f0=6:=by
 unfold stOk stmtOk at h
 by_cases h1:s.f0=1
 ·exact .inl h1
 by_cases h2:s.f0=2
 ·exact .inr (.inl h2)
 by_cases h3:s.f0=3
 ·exact .inr (.inr (.inl h3))
 by_cases h4:s.f0=4
 ·exact .inr (.inr (.inr (.inl h4)))
 by_cases h5:s.f0=5
 ·exact .inr (.inr (.inr (.inr (.inl h5))))
 by_cases h6:s.f0=6
 ·exact .inr (.inr (.inr (.inr (.inr h6))))
 ·simp[h1,h2,h3,h4,h5,h6] at h
theorem stmtCostI_eq {s:S92} (h:stOk s=true) (k:Nat) (hk:3<k):impl_StmtCost.f k s.f0 s.f1 s.f2 s.f3.f0 s.f3.f1 s.f3.f2=some (costC s):=by
 have h':=h
 unfold stOk at h'
 unfold impl_StmtCost.f
 rw[stmtI_eq _ _ _ _ _ _ _ hk,h']
 simp only[Option.bind_some,if_true]
 unfold costC
 rcases stOk_kind h with o|o|o|o|o|o<;>simp[o,rd]
section
open Go.Lib
abbrev Asc (l:List Int):Prop:=l.Pairwise (· < ·)
theorem compactUpTo_sorted (d:Array Int) (hs:∀i j,i≤j→j<d.size→d[i]! ≤d[j]!):∀m,m≤d.size→Asc (compactUpTo d m)∧(∀x∈compactUpTo d m,∃j,j<m∧d[j]! =x)∧∀j,j<m→d[j]! ∈compactUpTo d m
 |0,_=>by
  have e:compactUpTo d 0=[]:=by simp[compactUpTo]
  rw[e]
  exact⟨List.Pairwise.nil,fun x hx=>by simp at hx,fun j hj=>by omega⟩
 |m+1,hm=>by
  obtain⟨h1,h2,h3⟩:=compactUpTo_sorted d hs m (by omega)
  rw[compactUpTo_succ]
  by_cases hk:keeps d m=true
  ·rw[if_pos hk]
   refine⟨List.pairwise_append.2 ⟨h1,List.pairwise_singleton _ _,?_⟩,?_,?_⟩
   ·intro x hx y hy
    rw[List.mem_singleton] at hy
    subst hy
    obtain⟨j,hj,rfl⟩:=h2 x hx
    have q:=of_decide_eq_true hk
    have a1:=hs j (m - 1) (by omega) (by omega)
    have a2:=hs (m - 1) m (by omega) (by omega)
    have a3:d[m]! ≠d[m - 1]! :=by
     rcases q with q|q
     ·omega
     ·exact q
    omega
   ·intro x hx
    rcases List.mem_append.1 hx with hx|hx
    ·obtain⟨j,hj,e⟩:=h2 x hx
     exact⟨j,by omega,e⟩
    ·rw[List.mem_singleton] at hx
     exact⟨m,by omega,hx.symm⟩
   ·intro j hj
    by_cases e:j=m
    ·subst e
     exact List.mem_append.2 (.inr (List.mem_singleton.2 rfl))
    ·exact List.mem_append.2 (.inl (h3 j (by omega)))
  ·rw[if_neg hk,List.append_nil]
   have q:¬(m=0∨d[m]! ≠d[m - 1]!):=fun h=>hk (decide_eq_true h)
   refine⟨h1,fun x hx=> ?_,fun j hj=> ?_⟩
   ·obtain⟨j,hj,e⟩:=h2 x hx
    exact⟨j,by omega,e⟩
   ·by_cases e:j=m
    ·subst e
     have e2:d[j]! =d[j - 1]! :=Classical.byContradiction fun h=>q (.inr h)
     rw[e2]
     exact h3 (j - 1) (by omega)
    ·exact h3 j (by omega)
def touch (l:List Int):List Int:=compact (l.mergeSort fun x y=>decide (x≤y))
theorem touch_at (l:List Int):Asc (touch l)∧(∀x,x∈touch l↔x∈l)∧(touch l).length≤l.length:=by
 have hp:(l.mergeSort fun x y=>decide (x≤y)).Pairwise (fun x y=>decide (x≤y)=true):=List.pairwise_mergeSort (fun a b c h1 h2=>by simp only[decide_eq_true_eq] at*;omega) (fun a b=>by simp only[Bool.or_eq_true,decide_eq_true_eq];omega) l
 have hm:∀x,x∈(l.mergeSort fun x y=>decide (x≤y))↔x∈l:=fun x=>List.mem_mergeSort
 have hl:(l.mergeSort fun x y=>decide (x≤y)).length=l.length:=List.length_mergeSort l
 unfold touch
 generalize (l.mergeSort fun x y=>decide (x≤y))=z at hp hm hl
 have hs:∀i j,i≤j→j<z.toArray.size→z.toArray[i]! ≤z.toArray[j]! :=by
  intro i j hij hj
  have hj':j<z.length:=by simpa using hj
  by_cases e:i=j
  ·subst e
   exact Int.le_refl _
  ·have:=List.pairwise_iff_getElem.1 hp i j (by omega) hj' (by omega)
   simpa [List.getElem!_toArray,hj',show i<z.length by omega] using this
 obtain⟨h1,h2,h3⟩:=compactUpTo_sorted z.toArray hs z.length (by simp)
 refine⟨h1,fun x=> ?_,?_⟩
 ·rw[←hm]
  constructor
  ·intro hx
   obtain⟨j,hj,e⟩:=h2 x hx
   rw[←e]
   simp[hj]
  ·intro hx
   obtain⟨j,hj,e⟩:=List.mem_iff_getElem.1 hx
   have:=h3 j hj
   simp[hj] at this
   rw[e] at this
   exact this
 ·have:(compact z).length≤z.length:=by
   unfold compact compactUpTo
   rw[List.length_map]
   have:=List.length_filter_le (keeps z.toArray) (List.range z.length)
   rw[List.length_range] at this
   exact this
  omega
end
theorem flat_node:∀(T:Bk),T.ok→∀(j:Nat) (x:S92),T.flat[j]? =some x→x.f0=4∨x.f0=5→∃(pre post:List S92) (b:Bk) (c:S92),T.flat=pre++x::(b.flat++c::post)∧pre.length=j∧b.ok∧c.f0=6
 | .nil,_,j,x,h,_=>by simp[Bk.flat] at h
 | .leaf s t,ok,j,x,h,o=>by
  cases j with
  |zero=>
   simp only[Bk.flat,List.getElem?_cons_zero,Option.some.injEq] at h
   subst h
   exact absurd o (by have:=ok.1;have:=ok.2.1;omega)
  |succ j=>
   simp only[Bk.flat,List.getElem?_cons_succ] at h
   obtain⟨pre,post,b,c,e,hl,hb,hc⟩:=flat_node t ok.2.2.2 j x h o
   exact⟨s::pre,post,b,c,by rw[Bk.flat,e];rfl,by simp[hl],hb,hc⟩
 | .node s b0 e0 t,ok,j,x,h,o=>by
  obtain⟨os,ob,oc,ot⟩:=ok
  cases j with
  |zero=>
   simp only[Bk.flat,List.getElem?_cons_zero,Option.some.injEq] at h
   subst h
   exact⟨[],t.flat,b0,e0,rfl,rfl,ob,oc⟩
  |succ j=>
   simp only[Bk.flat,List.getElem?_cons_succ] at h
   by_cases q:j<b0.flat.length
   ·rw[List.getElem?_append_left q] at h
    obtain⟨pre,post,b,c,e,hl,hb,hc⟩:=flat_node b0 ob j x h o
    exact⟨s::pre,post++e0::t.flat,b,c,by rw[Bk.flat,e];simp,by simp[hl],hb,hc⟩
   ·rw[List.getElem?_append_right (by omega)] at h
    obtain⟨i,hi⟩:∃i,j - b0.flat.length=i:=⟨_,rfl⟩
    rw[hi] at h
    cases i with
    |zero=>
     simp only[List.getElem?_cons_zero,Option.some.injEq] at h
     subst h
     omega
    |succ i=>
     simp only[List.getElem?_cons_succ] at h
     obtain⟨pre,post,b,c,e,hl,hb,hc⟩:=flat_node t ot i x h o
     exact⟨s::(b0.flat++e0::pre),post,b,c,by rw[Bk.flat,e];simp,by simp[hl];omega,hb,hc⟩
theorem guardL_ok (T:Bk) (ok:T.ok) (hl:T.flat.length≤1048576) (k:Nat) (hk:2*T.flat.length+4<k):∀(d:Nat) (i:Int) (g:List Bool),0≤i→i+(d:Int)=(T.flat.length:Int)→∃G,guardL k T.flat d i g=some G
 |0,i,g,_,_=>⟨g,rfl⟩
 |d+1,i,g,h0,hi=>by
  rw[guardL]
  by_cases c:(rd_T92 T.flat i).f0=4
  ·rw[if_pos c]
   obtain⟨pre,post,b,e,he,hp,hb,hc⟩:=flat_node T ok i.toNat (rd_T92 T.flat i) (getD_rd z92 h0 (by omega)) (.inl c)
   have hlen:T.flat.length=pre.length+(b.flat.length+post.length+2):=by
    rw[he]
    simp only[List.length_append,List.length_cons]
    omega
   have hend:=endI_at pre post (rd_T92 T.flat i) e b hb (.inl c) hc i (by omega) (by rw[←he];exact hl) k (by omega)
   rw[←he] at hend
   rw[hend]
   simp only[Option.bind_some]
   rw[if_pos (by omega)]
   exact guardL_ok T ok hl k hk d (i+1) _ (by omega) (by omega)
  ·rw[if_neg c]
   exact guardL_ok T ok hl k hk d (i+1) _ (by omega) (by omega)
theorem writtenL_in:∀(l:List S92) (i:Int) (x:S92),x∈l→writes x=true→x.f1∈writtenL (fun _=>true) l i
 |[],_,_,h,_=>by simp at h
 |y::r,i,x,h,w=>by
  rw[writtenL]
  rcases List.mem_cons.1 h with e|h
  ·subst e
   rw[if_pos ⟨w,rfl⟩]
   exact List.mem_cons_self
  ·split
   ·exact List.mem_cons_of_mem _ (writtenL_in r (i+1) x h w)
   ·exact writtenL_in r (i+1) x h w
theorem writtenL_len (q:Int→Bool):∀(l:List S92) (i:Int),(writtenL q l i).length≤l.length
 |[],_=>Nat.le_refl _
 |x::r,i=>by
  rw[writtenL]
  have:=writtenL_len q r (i+1)
  split
  ·simp only[List.length_cons]
   omega
  ·simp only[List.length_cons]
   omega
theorem mustW_at {l:List S92} (hb:blockOk l=true) (k:Nat) (hk:100<k):∃G,guardL k l l.length 0 (List.replicate l.length false)=some G∧impl_MustWrite.f k l=some (touch (writtenL (fun i=> !rdB G i) l 0)):=by
 obtain⟨T,ok,hT,h24,hs⟩:=blockOk_tree hb
 obtain⟨G,hG⟩:=guardL_ok T ok (by rw[hT];omega) k (by rw[hT];omega) T.flat.length 0 (List.replicate l.length false) (by omega) (by omega)
 rw[hT] at hG
 refine⟨G,hG,?_⟩
 unfold impl_MustWrite.f
 rw[blockI_at l (by omega) k (by omega),hb]
 simp only[Option.bind_some,if_true]
 rw[if_pos (by omega),hG]
 rfl
theorem mayW_at {l:List S92} (hb:blockOk l=true) (k:Nat) (hk:100<k):impl_MayWrite.f k l=some (touch (writtenL (fun _=>true) l 0)):=by
 obtain⟨T,ok,hT,h24,hs⟩:=blockOk_tree hb
 unfold impl_MayWrite.f
 rw[blockI_at l (by omega) k (by omega),hb]
 simp only[Option.bind_some,if_true]
 rw[if_pos (by omega)]
 rfl
theorem slIndex_l (l:List Int) (hl:l.length≤1048576) (x:Int) (d:Nat):∀(k:Nat) (i:Int),0≤i→i+(d:Int)=(l.length:Int)→d<k→
  ∃r,slices_Index_int_int.l0 k l x (l.length:Int) i=some r∧decide (r≥0)=decide (x∈l.drop i.toNat):=by
 induction d with
 |zero=>
  intro k i h0 hi hk
  obtain⟨k,rfl⟩:=succ_of hk
  rw[slices_Index_int_int.l0,if_neg (by omega),List.drop_eq_nil_of_le (by omega)]
  exact⟨_,rfl,by simp⟩
 |succ d ih=>
  intro k i h0 hi hk
  obtain⟨k,rfl⟩:=succ_of hk
  rw[slices_Index_int_int.l0,if_pos (by omega),if_pos h0,if_pos (by omega),drop_rd h0 (by omega)]
  by_cases e:x=rd l i
  ·rw[if_pos e]
   exact⟨_,rfl,by simp[e,h0]⟩
  ·rw[if_neg e,w64 (by omega) (by omega)]
   obtain⟨r,h1,h2⟩:=ih k (i+1) (by omega) (by omega) (by omega)
   exact⟨r,h1,by rw[h2];simp[e]⟩
theorem hasVarI_at (l:List Int) (hl:l.length≤1048576) (x:Int) (k:Nat) (hk:l.length<k):impl_HasVar.f k l x=some (decide (x∈l)):=by
 unfold impl_HasVar.f slices_Contains_int_int.f slices_Index_int_int.f
 obtain⟨r,h1,h2⟩:=slIndex_l l hl x l.length k 0 (by omega) (by omega) hk
 rw[h1]
 simp only[Option.bind_some,h2]
 simp
theorem le_of_mono {α:Type} {f:Nat→Option α} (hm:∀k,LeO (f k) (f (k+1))) {k k':Nat} {r:α} (h:f k=some r) (hk:k≤k'):f k'=some r:=by
 obtain⟨d,rfl⟩:=Nat.exists_eq_add_of_le hk
 induction d with
 |zero=>exact h
 |succ d ih=>exact hm _ _ (ih (by omega))
theorem hasExprI_eq (a:Int):impl_hasExpr.f a=some (decide (a=1∨a=3∨a=4)):=by
 unfold impl_hasExpr.f
 by_cases h1:a=1
 ·simp[h1]
 by_cases h2:a=3
 ·simp[h2]
 rw[if_neg h1,if_neg h2]
 by_cases h3:a=4
 ·simp[h3]
 ·simp[h1,h2,h3]
theorem hasVarK_eq (a:Int):impl_hasVar.f a=some (decide (a=1∨a=2)):=by
 unfold impl_hasVar.f
 by_cases h1:a=1
 ·simp[h1]
 rw[if_neg h1]
 by_cases h3:a=2
 ·simp[h3]
 ·simp[h1,h3]
theorem readsL_in:∀(l:List Int),(∀n∈l,-8≤n)→∀y∈readsL l,0≤y∧y<8
 |[],_,y,h=>by simp[readsL] at h
 |n::r,hn,y,h=>by
  have h8:=hn n (by simp)
  rw[readsL] at h
  by_cases c:n<0
  ·rw[if_pos c,w64 (by omega) (by omega)] at h
   rcases List.mem_cons.1 h with e|h
   ·omega
   ·exact readsL_in r (fun m hm=>hn m (by simp[hm])) y h
  ·rw[if_neg c] at h
   exact readsL_in r (fun m hm=>hn m (by simp[hm])) y h
theorem readF_ok (st:List Bool):∀(ys:List Int),(∀y∈ys,0≤y∧y<8)→∀fi:List Bool,fi.length=8→∃fi',readF st ys fi=some fi'∧fi'.length=8
 |[],_,fi,hf=>⟨fi,rfl,hf⟩
 |y::r,hy,fi,hf=>by
  rw[readF,if_pos (hy y (by simp))]
  exact readF_ok st r (fun z hz=>hy z (by simp[hz])) _ (by split<;>simp[hf])
theorem readI_ok {a b c:Int} (h:exprOk a b c=true) (st fi:List Bool) (hf:fi.length=8):∃fi',reader_read.f a b c st fi=some fi'∧fi'.length=8:=by
 have h2:=of_decide_eq_true h
 unfold reader_read.f impl_ReadsOf.f
 rw[exprI_eq,h]
 simp only[Option.bind_some,if_true]
 refine readF_ok st _ (fun y hy=> ?_) fi hf
 have:y∈touch (readsL [b,c]):=hy
 rw[(touch_at (readsL [b,c])).2.1] at this
 exact readsL_in [b,c] (fun n hn=>by
  simp only[List.mem_cons,List.not_mem_nil,or_false] at hn
  omega) y this
abbrev passOk (k:Nat) (l:List S92) (i:Int) (st fi:List Bool):Prop:=∃r,rpass.l0 k l i st fi=some r∧r.1.length=8∧r.2.length=8
theorem passI_step (pre rest:List S92) (x:S92) (i:Int) (hi:i=(pre.length:Int)) (hl:(pre++x::rest).length≤1048576) (hx:stOk x=true) (h4:x.f0≠4) (st fi:List Bool) (hs:st.length=8) (hf:fi.length=8)
  (next:∀st' fi':List Bool,st'.length=8→fi'.length=8→∃k,passOk k (pre++x::rest) (i+1) st' fi'):∃k,passOk k (pre++x::rest) i st fi:=by
 have e:=at_mid pre rest x hi
 simp only[List.length_append,List.length_cons] at hl
 have hread:∃fi1,(if decide (x.f0=1∨x.f0=3∨x.f0=4)=true then reader_read.f x.f3.f0 x.f3.f1 x.f3.f2 st fi else some fi)=some fi1∧fi1.length=8:=by
  by_cases c:x.f0=1∨x.f0=3∨x.f0=4
  ·rw[if_pos (by simpa using c)]
   refine readI_ok ?_ st fi hf
   by_cases c1:x.f0=1
   ·exact(stOk_set hx c1).2
   ·exact stOk_expr hx (by omega)
  ·rw[if_neg (by simpa using c)]
   exact⟨fi,rfl,hf⟩
 obtain⟨fi1,h1,hf1⟩:=hread
 by_cases cv:x.f0=1∨x.f0=2
 ·have hr:0≤x.f1∧x.f1<8:=by
   rcases cv with c|c
   ·have:=(stOk_set hx c).1
    omega
   ·have:=(stOk_sense hx c).1
    omega
  obtain⟨k,r,e2,hr2⟩:=next (st.set x.f1.toNat true) fi1 (by simp[hs]) hf1
  refine⟨k+1,r,?_,hr2⟩
  rw[rpass.l0,if_pos (by simp only[List.length_append,List.length_cons];omega),if_pos (by omega),e,hasExprI_eq,hasVarK_eq]
  simp only[Option.bind_some,h1]
  rw[if_pos (by simpa using cv),if_pos hr]
  simp only[Option.bind_some]
  rw[if_neg h4,w64 (by omega) (by omega)]
  exact e2
 ·obtain⟨k,r,e2,hr2⟩:=next st fi1 hs hf1
  refine⟨k+1,r,?_,hr2⟩
  rw[rpass.l0,if_pos (by simp only[List.length_append,List.length_cons];omega),if_pos (by omega),e,hasExprI_eq,hasVarK_eq]
  simp only[Option.bind_some,h1]
  rw[if_neg (by simpa using cv),if_neg h4,w64 (by omega) (by omega)]
  exact e2
theorem passI_l:∀(T:Bk),T.ok→(∀s∈T.flat,stOk s=true)→∀(pre post:List S92) (i:Int) (st fi:List Bool),i=(pre.length:Int)→(pre++(T.flat++post)).length≤1048576→st.length=8→fi.length=8→
  (∀st' fi':List Bool,st'.length=8→fi'.length=8→∃k,passOk k (pre++(T.flat++post)) (i+(T.flat.length:Int)) st' fi')→∃k,passOk k (pre++(T.flat++post)) i st fi
 | .nil,_,_,pre,post,i,st,fi,_,_,hs,hf,next=>by
  have:=next st fi hs hf
  simpa [Bk.flat] using this
 | .leaf x t,ok,hst,pre,post,i,st,fi,hi,hl,hs,hf,next=>by
  simp only[Bk.flat,List.length_cons,List.length_append,List.cons_append] at hl next ⊢
  refine passI_step pre (t.flat++post) x i hi (by simp only[List.length_append,List.length_cons];omega) (hst x (by simp[Bk.flat])) ok.1 st fi hs hf (fun st' fi' hs' hf'=> ?_)
  have:=passI_l t ok.2.2.2 (fun y hy=>hst y (by simp[Bk.flat,hy])) (pre++[x]) post (i+1) st' fi' (by simp only[List.length_append,List.length_cons,List.length_nil];omega) (by simp only[List.length_append,List.length_cons,List.length_nil];omega) hs' hf' (fun s2 f2 q1 q2=>by
   have:=next s2 f2 q1 q2
   simp only[List.append_assoc,List.singleton_append]
   rw[show i+1+(t.flat.length:Int)=i+((t.flat.length+1:Nat):Int) by omega]
   exact this)
  simpa only[List.append_assoc,List.singleton_append] using this
 | .node x b c t,ok,hst,pre,post,i,st,fi,hi,hl,hs,hf,next=>by
  obtain⟨o,ob,oc,ot⟩:=ok
  simp only[Bk.flat,List.length_cons,List.length_append,List.cons_append,List.append_assoc] at hl next ⊢
  have hx:=hst x (by simp[Bk.flat])
  have hc:=hst c (by simp[Bk.flat])
  have tl:∀st' fi':List Bool,st'.length=8→fi'.length=8→∃k,passOk k (pre++x::(b.flat++c::(t.flat++post))) (i+1+(b.flat.length:Int)+1) st' fi':=fun st' fi' hs' hf'=>by
   have:=passI_l t ot (fun y hy=>hst y (by simp[Bk.flat,hy])) (pre++x::(b.flat++[c])) post (i+1+(b.flat.length:Int)+1) st' fi' (by simp only[List.length_append,List.length_cons,List.length_nil];omega) (by simp only[List.length_append,List.length_cons,List.length_nil];omega) hs' hf' (fun s2 f2 q1 q2=>by
    have:=next s2 f2 q1 q2
    simp only[List.append_assoc,List.cons_append,List.nil_append]
    rw[show i+1+(b.flat.length:Int)+1+(t.flat.length:Int)=i+((b.flat.length+(t.flat.length+1)+1:Nat):Int) by omega]
    exact this)
   simpa only[List.append_assoc,List.cons_append,List.nil_append] using this
  by_cases h4:x.f0=4
  ·have e:=at_mid pre (b.flat++c::(t.flat++post)) x hi
   obtain⟨fi1,h1,hf1⟩:=readI_ok (stOk_expr hx (.inr h4)) st fi hf
   have hend:∀k,2*b.flat.length+4<k→impl_endOf.f k (pre++x::(b.flat++c::(t.flat++post))) i=some (i+1+(b.flat.length:Int)):=fun k hk=>endI_at pre (t.flat++post) x c b ob o oc i hi (by simp only[List.length_append,List.length_cons];omega) k hk
   obtain⟨kb,rb,eb,lb1,lb2⟩:=passI_l b ob (fun y hy=>hst y (by simp[Bk.flat,hy])) [] [] 0 st fi1 rfl (by simp only[List.nil_append,List.append_nil];omega) hs hf1 (fun s2 f2 q1 q2=>⟨1,(s2,f2),by rw[rpass.l0,if_neg (by simp)],q1,q2⟩)
   simp only[List.nil_append,List.append_nil] at eb
   obtain⟨kt,r,et,hr⟩:=tl st rb.2 hs lb2
   refine⟨(kb+kt+2*b.flat.length+6)+1,r,?_,hr⟩
   rw[rpass.l0,if_pos (by simp only[List.length_append,List.length_cons];omega),if_pos (by omega),e,hasExprI_eq,hasVarK_eq]
   simp only[Option.bind_some]
   rw[if_pos (by simp[h4]),h1]
   simp only[Option.bind_some]
   rw[if_neg (by simp[h4]),if_pos h4,hend _ (by omega)]
   simp only[Option.bind_some]
   rw[w64 (x:=i+1) (by omega) (by omega),w64 (x:=i+1+(b.flat.length:Int)+1) (by omega) (by omega),if_pos ⟨by omega,by omega,by simp only[List.length_append,List.length_cons];omega⟩]
   have q:=take_drop_mid (pre++[x]) b.flat (c::(t.flat++post)) (i:=i+1) (j:=i+1+(b.flat.length:Int)) (by simp only[List.length_append,List.length_cons,List.length_nil];omega) rfl
   simp only[List.append_assoc,List.singleton_append] at q
   rw[q]
   have eb2:rpass.f (kb+1) b.flat st fi1=some rb:=by rw[rpass.f];exact eb
   rw[le_of_mono (fun k=>(rpass.mono_l k).1 b.flat st fi1) eb2 (k':=kb+kt+2*b.flat.length+6) (by omega)]
   simp only[Option.bind_some]
   exact le_of_mono (fun k=>(rpass.mono_l k).2 _ _ _ _) et (by omega)
  ·refine passI_step pre (b.flat++c::(t.flat++post)) x i hi (by simp only[List.length_append,List.length_cons];omega) hx h4 st fi hs hf (fun st' fi' hs' hf'=> ?_)
   have:=passI_l b ob (fun y hy=>hst y (by simp[Bk.flat,hy])) (pre++[x]) (c::(t.flat++post)) (i+1) st' fi' (by simp only[List.length_append,List.length_cons,List.length_nil];omega) (by simp only[List.length_append,List.length_cons,List.length_nil];omega) hs' hf' (fun s2 f2 q1 q2=>by
    have:=passI_step (pre++x::b.flat) (t.flat++post) c (i+1+(b.flat.length:Int)) (by simp only[List.length_append,List.length_cons];omega) (by simp only[List.length_append,List.length_cons];omega) hc (by omega) s2 f2 q1 q2 (fun s3 f3 u1 u2=>by
     have:=tl s3 f3 u1 u2
     simpa only[List.append_assoc,List.cons_append] using this)
    simpa only[List.append_assoc,List.cons_append,List.singleton_append,List.nil_append] using this)
   simpa only[List.append_assoc,List.singleton_append] using this
theorem firstL_len (fi:List Bool):∀(n:Nat) (i:Int),(firstL fi n i).length≤n
 |0,_=>Nat.le_refl _
 |n+1,i=>by
  rw[firstL]
  have:=firstL_len fi n (i+1)
  split
  ·simp only[List.length_cons]
   omega
  ·omega
theorem taskI_at {l:List S92} (hb:blockOk l=true) {a b c:Int} (he:exprOk a b c=true) (k:Nat) (hk:100<k):impl_taskOk.f k l a b c=some true:=by
 obtain⟨_,_,_,h24,_⟩:=blockOk_tree hb
 unfold impl_taskOk.f
 rw[blockI_at l (by omega) k (by omega),hb,exprI_eq,he]
 rfl
theorem mrf_ok {l:List S92} (hb:blockOk l=true) {a b c:Int} (he:exprOk a b c=true):∃k fs,impl_MayReadFirst.f k l a b c=some fs∧fs.length≤8:=by
 obtain⟨T,ok,hT,h24,hst⟩:=blockOk_tree hb
 obtain⟨k,s,es,ls1,ls2⟩:=passI_l T ok (by rw[hT];exact hst) [] [] 0 z8 z8 rfl (by simp only[List.nil_append,List.append_nil,hT];omega) rfl rfl (fun s2 f2 q1 q2=>⟨1,(s2,f2),by rw[rpass.l0,if_neg (by simp)],q1,q2⟩)
 simp only[List.nil_append,List.append_nil,hT] at es
 obtain⟨fi,ef,_⟩:=readI_ok he s.1 s.2 ls2
 refine⟨k+102,firstL fi 8 0,?_,firstL_len fi 8 0⟩
 unfold impl_MayReadFirst.f
 have es2:rpass.f (k+1) l z8 z8=some s:=by rw[rpass.f];exact es
 rw[taskI_at hb he _ (by omega)]
 simp only[Option.bind_some,if_true]
 rw[le_of_mono (fun k=>(rpass.mono_l k).1 l z8 z8) es2 (k':=k+102) (by omega)]
 simp only[Option.bind_some,ef]
theorem mustLog_ok {l:List S92} (hb:blockOk l=true) {a b c:Int} (he:exprOk a b c=true):∃k0 ws,ws.length≤24∧∀k,k0≤k→impl_MustLog.f k l a b c=some ws:=by
 obtain⟨T,ok,hT,h24,hst⟩:=blockOk_tree hb
 obtain⟨k,fs,ef,lf⟩:=mrf_ok hb he
 obtain⟨G,_,em⟩:=mustW_at hb (k+101) (by omega)
 obtain⟨_,_,la⟩:=touch_at (writtenL (fun _=>true) l 0)
 obtain⟨_,_,lb⟩:=touch_at (writtenL (fun i=> !rdB G i) l 0)
 have ha:=writtenL_len (fun _=>true) l 0
 have hbl:=writtenL_len (fun i=> !rdB G i) l 0
 refine⟨k+101,_,?_,fun k' hk=>le_of_mono (fun k=>impl_MustLog.mono l a b c k) (k:=k+101) (r:=(touch (writtenL (fun _=>true) l 0)).filter fun x=> !(!decide (x∈fs)&&decide (x∈touch (writtenL (fun i=> !rdB G i) l 0)))) ?_ hk⟩
 ·have:=List.length_filter_le (fun x=> !(!decide (x∈fs)&&decide (x∈touch (writtenL (fun i=> !rdB G i) l 0)))) (touch (writtenL (fun _=>true) l 0))
  omega
 ·unfold impl_MustLog.f
  rw[taskI_at hb he _ (by omega)]
  simp only[Option.bind_some,if_true]
  rw[le_of_mono (fun k=>impl_MayReadFirst.mono l a b c k) ef (k':=k+101) (by omega),em,mayW_at hb (k+101) (by omega)]
  simp only[Option.bind_some]
  rw[if_pos ⟨by omega,by omega⟩]
def packC (a b c:Int):Int:=if (0≤a∧a≤5)∧(0≤b∧b≤8)∧0≤c∧c≤24 then a+8*(b+16*c) else -1
theorem packC_eq (a b c:Int):impl_PackControl.f a b c=some (packC a b c):=by
 unfold impl_PackControl.f packC
 simp only[within_eq,Option.bind_some,decide_eq_true_eq]
 by_cases h1:0≤a∧a≤5
 ·rw[if_pos h1]
  by_cases h2:0≤b∧b≤8
  ·rw[if_pos h2]
   by_cases h3:0≤c∧c≤24
   ·rw[if_pos h3,if_pos ⟨h1,h2,h3⟩,w64 (x:=16*c) (by omega) (by omega),w64 (x:=b+16*c) (by omega) (by omega),w64 (x:=8*(b+16*c)) (by omega) (by omega),w64 (by omega) (by omega)]
   ·rw[if_neg h3,if_neg (fun h=>h3 h.2.2)]
  ·rw[if_neg h2,if_neg (fun h=>h2 h.2.1)]
 ·rw[if_neg h1,if_neg (fun h=>h1 h.1)]
theorem packC_in {a b c:Int} (h1:0≤a∧a≤5) (h2:0≤b∧b≤8) (h3:0≤c∧c≤24):packC a b c=a+8*(b+16*c):=if_pos ⟨h1,h2,h3⟩
theorem unpackC {a b c:Int} (h1:0≤a∧a≤5) (h2:0≤b∧b≤8) (h3:0≤c∧c≤24):impl_UnpackControl.f (packC a b c)=some (a,b,c):=by
 rw[packC_in h1 h2 h3]
 unfold impl_UnpackControl.f
 have e1:Int.tmod (a+8*(b+16*c)) 8=a:=by rw[Int.tmod_eq_emod_of_nonneg (by omega)];omega
 have e2:Int.tdiv (a+8*(b+16*c)) 8=b+16*c:=by rw[Int.tdiv_eq_ediv_of_nonneg (by omega)];omega
 have e3:Int.tdiv (a+8*(b+16*c)) 128=c:=by rw[Int.tdiv_eq_ediv_of_nonneg (by omega)];omega
 have e4:Int.tmod (b+16*c) 16=b:=by rw[Int.tmod_eq_emod_of_nonneg (by omega)];omega
 rw[if_neg (by omega),e1,e2,e3,w64 (x:=b+16*c) (by omega) (by omega),e4,w64 (x:=c) (by omega) (by omega),packC_eq,packC_in h1 h2 h3]
 simp
def asgT (task tail:Int) (must:List Int) (s:Tr) (k v:Int):Tr:=if k∈must∧s.fr k.toNat=false then (s.log k (packC task ((s.lg.length:Int)+1) tail)).put k v else s.put k v
def stepT (task tail:Int) (must rs:List Int) (at_:Int) (s:Tr) (x:S92):Tr×Bool:=
 if x.f0=1 then (asgT task tail must (s.write (costC x) (-1) 0) x.f1 (evalE s.vs x.f3.f0 x.f3.f1 x.f3.f2),true)
 else if x.f0=2 then (asgT task tail must {s.write (costC x) (-1) 0 with us:=s.us++[sensorOf rs x.f2 (at_+(s.us.length:Int))]} x.f1 (sensorOf rs x.f2 (at_+(s.us.length:Int))),true)
 else if x.f0=3 then ((s.write (costC x) (-1) 0).sendB tail (evalE s.vs x.f3.f0 x.f3.f1 x.f3.f2),true)
 else if x.f0=4 then (s.write (costC x) (-1) 0,evalE s.vs x.f3.f0 x.f3.f1 x.f3.f2 != 0)
 else (s.write (costC x) (-1) 0,true)
def lng6:Bk→Nat
 | .nil=>0
 | .leaf _ t=>6+lng6 t
 | .node x b _ t=>1+(if x.f0=4 then 1 else x.f2.toNat)*lng6 b+lng6 t
theorem lng6_le:∀(T:Bk),T.ok→(∀s∈T.flat,stOk s=true)→lng6 T≤6*3 ^ T.flat.length
 | .nil,_,_=>by simp[lng6]
 | .leaf x t,ok,hs=>by
  have:=lng6_le t ok.2.2.2 (fun x hx=>hs x (by simp[Bk.flat,hx]))
  have h1:1≤3 ^ t.flat.length:=Nat.one_le_pow _ _ (by omega)
  simp only[lng6,Bk.flat,List.length_cons,Nat.pow_succ]
  omega
 | .node x b c t,ok,hs=>by
  obtain⟨o,ob,oc,ot⟩:=ok
  have r1:=lng6_le b ob (fun x hx=>hs x (by simp[Bk.flat,hx]))
  have r2:=lng6_le t ot (fun x hx=>hs x (by simp[Bk.flat,hx]))
  have hss:=hs x (by simp[Bk.flat])
  have hn:(if x.f0=4 then 1 else x.f2.toNat)≤5:=by
   by_cases h4:x.f0=4
   ·rw[if_pos h4];omega
   ·rw[if_neg h4]
    have:=stOk_loop hss (by omega:x.f0=5)
    omega
  have h1:1≤3 ^ b.flat.length:=Nat.one_le_pow _ _ (by omega)
  have h2:1≤3 ^ t.flat.length:=Nat.one_le_pow _ _ (by omega)
  have e:3 ^ (b.flat.length+(t.flat.length+1)+1)=9*(3 ^ b.flat.length*3 ^ t.flat.length):=by
   rw[Nat.pow_succ,Nat.pow_add,Nat.pow_succ]
   generalize 3 ^ b.flat.length=p
   generalize 3 ^ t.flat.length=q
   rw[←Nat.mul_assoc,Nat.mul_assoc,Nat.mul_comm]
  have m1:=Nat.mul_le_mul hn r1
  have m2:=Nat.mul_le_mul_left (3 ^ b.flat.length) h2
  have m3:=Nat.mul_le_mul_right (3 ^ t.flat.length) h1
  simp only[lng6,Bk.flat,List.length_cons,List.length_append]
  rw[e]
  generalize 3 ^ b.flat.length*3 ^ t.flat.length=pq at*
  omega
theorem lng6_24 {T:Bk} (ok:T.ok) (hs:∀s∈T.flat,stOk s=true) (hl:T.flat.length≤24):lng6 T≤1694577218886:=
 Nat.le_trans (lng6_le T ok hs) (Nat.le_trans (Nat.mul_le_mul_left 6 (Nat.pow_le_pow_right (by omega) hl)) (by decide))
theorem walkT_run6 {σ:Type} (step:σ→S92→Option (σ×Bool)) (c:σ→S92→σ×Bool) (P:Nat→σ→Prop) (mono:∀m n s,m≤n→P n s→P m s):∀(T:Bk),T.ok→
  (∀x∈T.flat,x.f0≠4→x.f0≠5→x.f0≠6→∀n s,P (n+6) s→step s x=some (c s x)∧P n (c s x).1)→
  (∀x∈T.flat,(x.f0=4∨x.f0=5)→∀n s,P (n+1) s→step s x=some (c s x)∧P n (c s x).1)→
  ∀(n:Nat) (s:σ),P (lng6 T+n) s→walkT step T s=some (runT c T s)∧P n (runT c T s)
 | .nil,_,_,_,n,s,hp=>⟨rfl,by show P n s;simpa [lng6] using hp⟩
 | .leaf x t,ok,hl,hn,n,s,hp=>by
  have e:lng6 (.leaf x t)+n=(lng6 t+n)+6:=by simp only[lng6];omega
  rw[e] at hp
  obtain⟨h1,h2⟩:=hl x (by simp[Bk.flat]) ok.1 ok.2.1 ok.2.2.1 _ s hp
  rw[walkT,h1]
  exact walkT_run6 step c P mono t ok.2.2.2 (fun x hx=>hl x (by simp[Bk.flat,hx])) (fun x hx=>hn x (by simp[Bk.flat,hx])) n _ h2
 | .node x b e t,ok,hl,hn,n,s,hp=>by
  obtain⟨o,ob,oc,ot⟩:=ok
  have hp':P (((if x.f0=4 then 1 else x.f2.toNat)*lng6 b+(lng6 t+n))+1) s:=by
   have e:lng6 (.node x b e t)+n=((if x.f0=4 then 1 else x.f2.toNat)*lng6 b+(lng6 t+n))+1:=by simp only[lng6];omega
   rw[e] at hp;exact hp
  obtain⟨h1,h2⟩:=hn x (by simp[Bk.flat]) o _ s hp'
  rw[walkT,h1]
  simp only[Option.bind_some]
  have hle:(if x.f0=4 then (if (c s x).2=true then (1:Int) else 0) else x.f2).toNat≤(if x.f0=4 then 1 else x.f2.toNat):=by
   by_cases h4:x.f0=4
   ·rw[if_pos h4,if_pos h4];split<;>simp
   ·rw[if_neg h4,if_neg h4];exact Nat.le_refl _
  have h3:=mono _ _ _ (Nat.add_le_add_right (Nat.mul_le_mul_right (lng6 b) hle) (lng6 t+n)) h2
  obtain⟨h5,h6⟩:=walkRep_run (fun s'=>walkT step b s') (runT c b) P (lng6 b) (fun n s hp=>walkT_run6 step c P mono b ob (fun x hx=>hl x (by simp[Bk.flat,hx])) (fun x hx=>hn x (by simp[Bk.flat,hx])) n s hp) _ _ _ h3
  rw[h5]
  exact walkT_run6 step c P mono t ot (fun x hx=>hl x (by simp[Bk.flat,hx])) (fun x hx=>hn x (by simp[Bk.flat,hx])) n _ h6
theorem rep_inv {σ:Type} {J:σ→Prop} {f:σ→σ} (h:∀s,J s→J (f s)):∀(n:Nat) (s:σ),J s→J (rep f n s)
 |0,_,hs=>hs
 |n+1,_,hs=>rep_inv h n _ (h _ hs)
theorem runT_inv {σ:Type} {J:σ→Prop} {c:σ→S92→σ×Bool}:∀(T:Bk),T.ok→(∀x∈T.flat,x.f0≠6→∀s,J s→J (c s x).1)→∀s,J s→J (runT c T s)
 | .nil,_,_,_,hs=>hs
 | .leaf x t,ok,h,s,hs=>runT_inv t ok.2.2.2 (fun x hx=>h x (by simp[Bk.flat,hx])) _ (h x (by simp[Bk.flat]) ok.2.2.1 s hs)
 | .node x b e t,ok,h,s,hs=>runT_inv t ok.2.2.2 (fun x hx=>h x (by simp[Bk.flat,hx])) _ (rep_inv (runT_inv b ok.2.1 (fun x hx=>h x (by simp[Bk.flat,hx]))) _ _ (h x (by simp[Bk.flat]) (by have:=ok.1;omega) s hs))
def trI (n:Nat) (s:Tr):Prop:=vok s.vs∧s.st.length+n≤1694577218886∧s.lg.length≤s.st.length∧s.us.length≤s.st.length∧0≤s.sn∧s.sn≤(s.st.length:Int)
theorem trI_mono (m n:Nat) (s:Tr) (h:m≤n) (hp:trI n s):trI m s:=⟨hp.1,by have:=hp.2.1;omega,hp.2.2⟩
theorem asgT_all (task tail:Int) (must:List Int) (s:Tr) (k v:Int):(asgT task tail must s k v).vs=s.vs.set k.toNat v∧(asgT task tail must s k v).us=s.us∧(asgT task tail must s k v).sn=s.sn∧s.st.length+1≤(asgT task tail must s k v).st.length∧(asgT task tail must s k v).st.length≤s.st.length+4∧(asgT task tail must s k v).lg.length≤s.lg.length+1:=by
 unfold asgT
 split
 ·refine⟨rfl,rfl,rfl,?_,?_,?_⟩<;>simp only[Tr.put,Tr.log,Tr.write,List.length_append,List.length_cons,List.length_nil]<;>omega
 ·refine⟨rfl,rfl,rfl,?_,?_,?_⟩<;>simp only[Tr.put,Tr.write,List.length_append,List.length_cons,List.length_nil]<;>omega
theorem assignT_eq (kf:Nat) (task tail:Int) {must:List Int} (hm:must.length≤24) (hk:24<kf) {s:Tr} (hv:vok s.vs) {k:Int} (h:0≤k∧k≤7) (v:Int) (hl:s.st.length<4999999999000) (hg:s.lg.length<17592186044415):s.assign kf task tail must k v=some (asgT task tail must s k v):=by
 unfold Tr.assign asgT
 rw[if_pos ⟨h.1,by omega,by rw[hv.1];omega,hl,hg⟩,hasVarI_at must (by omega) k kf (by omega),packC_eq]
 by_cases a:k∈must<;>cases b:s.fr k.toNat<;>simp[a]
theorem sendB_all {tail:Int} {s:Tr} {v:Int} (hl:0≤s.sn∧s.sn≤1694577218886):(s.sendB tail v).vs=s.vs∧(s.sendB tail v).us=s.us∧(s.sendB tail v).lg=s.lg∧(s.sendB tail v).sn=s.sn+1∧s.st.length≤(s.sendB tail v).st.length∧(s.sendB tail v).st.length≤s.st.length+1:=by
 unfold Tr.sendB
 refine⟨?_,?_,?_,w64 (by omega) (by omega),?_,?_⟩<;>split<;>simp[Tr.write]
theorem stepT_vok (task tail:Int) (must rs:List Int) (at_:Int) {s:Tr} {x:S92} (hx:stOk x=true) (hv:vok s.vs):vok (stepT task tail must rs at_ s x).1.vs:=by
 unfold stepT
 by_cases k1:x.f0=1
 ·rw[if_pos k1,(asgT_all _ _ _ _ _ _).1]
  exact vok_set hv _ (evalE_in hv (stOk_set hx k1).2)
 rw[if_neg k1]
 by_cases k2:x.f0=2
 ·rw[if_pos k2,(asgT_all _ _ _ _ _ _).1]
  exact vok_set hv _ (sensorOf_in _ _ _)
 rw[if_neg k2]
 split
 ·unfold Tr.sendB
  split<;>exact hv
 split<;>exact hv
theorem stepT_leaf (task tail:Int) (must rs:List Int) (at_:Int) {x:S92} (hx:stOk x=true) (n:Nat) (s:Tr) (h4:x.f0≠4) (h5:x.f0≠5) (h6:x.f0≠6) (hp:trI (n+6) s):trI n (stepT task tail must rs at_ s x).1:=by
 refine⟨stepT_vok _ _ _ _ _ hx hp.1,?_⟩
 obtain⟨_,p2,p3,p4,p5,p6⟩:=hp
 unfold stepT
 by_cases k1:x.f0=1
 ·rw[if_pos k1]
  obtain⟨_,q2,q3,q4,q5,q6⟩:=asgT_all task tail must (s.write (costC x) (-1) 0) x.f1 (evalE s.vs x.f3.f0 x.f3.f1 x.f3.f2)
  simp only[Tr.write,List.length_append,List.length_singleton] at q2 q3 q4 q5 q6 ⊢
  rw[q2,q3]
  omega
 rw[if_neg k1]
 by_cases k2:x.f0=2
 ·rw[if_pos k2]
  obtain⟨_,q2,q3,q4,q5,q6⟩:=asgT_all task tail must {s.write (costC x) (-1) 0 with us:=s.us++[sensorOf rs x.f2 (at_+(s.us.length:Int))]} x.f1 (sensorOf rs x.f2 (at_+(s.us.length:Int)))
  simp only[Tr.write,List.length_append,List.length_singleton] at q2 q3 q4 q5 q6 ⊢
  rw[q2,q3]
  simp only[List.length_append,List.length_singleton]
  omega
 rw[if_neg k2]
 by_cases k3:x.f0=3
 ·rw[if_pos k3]
  obtain⟨_,q2,q3,q4,q5,q6⟩:=sendB_all (tail:=tail) (s:=s.write (costC x) (-1) 0) (v:=evalE s.vs x.f3.f0 x.f3.f1 x.f3.f2) ⟨p5,by show s.sn≤_;omega⟩
  simp only[Tr.write,List.length_append,List.length_singleton] at q2 q3 q4 q5 q6 ⊢
  rw[q2,q3,q4]
  omega
 ·have:=stOk_kind hx
  omega
theorem stepT_node (task tail:Int) (must rs:List Int) (at_:Int) {x:S92} (n:Nat) (s:Tr) (o:x.f0=4∨x.f0=5) (hp:trI (n+1) s):trI n (stepT task tail must rs at_ s x).1:=by
 obtain⟨p1,p2,p3,p4,p5,p6⟩:=hp
 unfold stepT
 rw[if_neg (by omega),if_neg (by omega),if_neg (by omega)]
 have:trI n (s.write (costC x) (-1) 0):=⟨p1,by simp only[Tr.write,List.length_append,List.length_singleton];omega⟩
 split<;>exact this
theorem trStep_eq (kf:Nat) (task tail:Int) {must:List Int} (hm:must.length≤24) (hk:24<kf) (rs:List Int) {at_:Int} (ha:0≤at_∧at_≤1000000) {x:S92} (hx:stOk x=true) (s:Tr) (hp:trI 1 s):trStep kf task tail must rs at_ s x=some (stepT task tail must rs at_ s x):=by
 obtain⟨p1,p2,p3,p4,p5,p6⟩:=hp
 unfold trStep stepT
 rw[stmtCostI_eq hx kf (by omega)]
 simp only[Option.bind_some]
 rw[if_pos ⟨by omega,by omega⟩]
 by_cases k1:x.f0=1
 ·rw[if_pos k1,if_pos k1,evalI_at p1 (stOk_set hx k1).2 kf (by omega)]
  simp only[Option.bind_some]
  rw[assignT_eq kf task tail hm hk (s:=s.write (costC x) (-1) 0) p1 (stOk_set hx k1).1 _ (by simp only[Tr.write,List.length_append,List.length_singleton];omega) (by show s.lg.length<_;omega)]
  rfl
 rw[if_neg k1,if_neg k1]
 by_cases k2:x.f0=2
 ·rw[if_pos k2,if_pos k2,readSensorI_eq,w64 (x:=at_+(s.us.length:Int)) (by omega) (by omega)]
  simp only[Option.bind_some]
  rw[assignT_eq kf task tail hm hk (s:={s.write (costC x) (-1) 0 with us:=s.us++[sensorOf rs x.f2 (at_+(s.us.length:Int))]}) p1 (stOk_sense hx k2).1 _ (by simp only[Tr.write,List.length_append,List.length_singleton];omega) (by show s.lg.length<_;omega)]
  rfl
 rw[if_neg k2,if_neg k2]
 by_cases k3:x.f0=3
 ·rw[if_pos k3,if_pos k3,evalI_at p1 (stOk_expr hx (.inl k3)) kf (by omega)]
  rfl
 rw[if_neg k3,if_neg k3]
 by_cases k4:x.f0=4
 ·rw[if_pos k4,if_pos k4,evalI_at p1 (stOk_expr hx (.inr k4)) kf (by omega)]
  rfl
 ·rw[if_neg k4,if_neg k4]
def traceT (task tail:Int) (must rs:List Int) (at_:Int) (T:Bk) (v:List Int):Tr:=runT (stepT task tail must rs at_) T (Tr.zero v)
def traceS (l:List S75) (task tail:Int) (s:Tr):List S84:=((s.write 1 (-1) 0).write 3 8 (packC (nextT l s.vs task) 0 (min 24 (tail+s.sn)))).st
theorem traceI_at {l:List S75} (hp:progOk l=true) {m:List Int} (h8:m.length=49) {task tail:Int} (hu:impl_UnpackControl.f (rd m 8)=some (task,0,tail)) (ht:0≤task∧task<(l.length:Int)) (htl:0≤tail∧tail≤24) (hv:vok (m.take 8)) {rs:List Int} {at_:Int} (ha:0≤at_∧at_≤1000000):
  ∃(k0:Nat) (T:Bk) (must:List Int),T.ok∧T.flat=(rd_T75 l task).f0∧(∀s∈T.flat,stOk s=true)∧T.flat.length≤24∧must.length≤24∧(∀k,k0≤k→impl_MustLog.f k (rd_T75 l task).f0 (rd_T75 l task).f1.f0 (rd_T75 l task).f1.f1 (rd_T75 l task).f1.f2=some must)∧
   trI 0 (traceT task tail must rs at_ T (m.take 8))∧∀k,k0≤k→impl_traceOf.f k l m rs at_=some (traceS l task tail (traceT task tail must rs at_ T (m.take 8)),(traceT task tail must rs at_ T (m.take 8)).us):=by
 obtain⟨_,hb,he⟩:=progOk_task hp ht.1 ht.2
 obtain⟨T,ok,hT,h24,hss⟩:=blockOk_tree hb
 rw[←hT] at h24 hss
 obtain⟨k1,must,hm,em⟩:=mustLog_ok hb he
 have hM:=lng6_24 ok hss h24
 have run:=fun (k:Nat) (hk:24<k)=>walkT_run6 (trStep k task tail must rs at_) (stepT task tail must rs at_) trI trI_mono T ok
  (fun x hx h4 h5 h6 n s hq=>⟨trStep_eq k task tail hm hk rs ha (hss x hx) s (trI_mono 1 _ s (by omega) hq),stepT_leaf task tail must rs at_ (hss x hx) n s h4 h5 h6 hq⟩)
  (fun x hx o n s hq=>⟨trStep_eq k task tail hm hk rs ha (hss x hx) s (trI_mono 1 _ s (by omega) hq),stepT_node task tail must rs at_ n s o hq⟩) 0 (Tr.zero (m.take 8)) ⟨hv,by simp only[Tr.zero,List.length_nil];omega,by simp[Tr.zero],by simp[Tr.zero],by simp[Tr.zero],by simp[Tr.zero]⟩
 have hI:trI 0 (traceT task tail must rs at_ T (m.take 8)):=(run 25 (by omega)).2
 refine⟨k1+2097161,T,must,ok,hT,hss,h24,hm,fun k hk=>em k (by omega),hI,fun k hk=> ?_⟩
 obtain⟨p1,p2,p3,p4,p5,p6⟩:=hI
 have ev:impl_MemVars.f m=some (m.take 8):=by
  unfold impl_MemVars.f slices_Clone_int_int.f
  simp[h8]
 have hw:walkT (trStep k task tail must rs at_) T (Tr.zero (m.take 8))=some (traceT task tail must rs at_ T (m.take 8)):=(run k (by omega)).1
 generalize traceT task tail must rs at_ T (m.take 8)=s at*
 unfold impl_traceOf.f
 rw[if_pos (by omega),hu,ev]
 simp only[Option.bind_some]
 rw[if_pos ht,em k (by omega),←hT]
 simp only[Option.bind_some]
 rw[walkI_at _ T ok hss (by omega) k (by omega),hw]
 simp only[Option.bind_some]
 rw[nextI_at l hp p1 ht.1 ht.2 k (by omega)]
 simp only[Option.bind_some]
 rw[w64 (x:=tail+s.sn) (by omega) (by omega),packC_eq]
 simp only[Option.bind_some]
 rw[if_pos (by omega)]
 rfl
theorem isValS_eq (x:Int):spec_IsValue.f x=some (valP x):=by
 unfold spec_IsValue.f
 rw[l01In_eq]
 rfl
theorem varsS_l (v:List Int) (hv:v.length≤1048576) (d:Nat):∀(k:Nat) (i:Int),0≤i→i+(d:Int)=(v.length:Int)→d<k→spec_VarsOk.l0 k v i=some ((v.drop i.toNat).all valP&&decide (v.length=8)):=by
 induction d with
 |zero=>
  intro k i h0 hi hk
  obtain⟨k,rfl⟩:=succ_of hk
  rw[spec_VarsOk.l0,if_neg (by omega),List.drop_eq_nil_of_le (by omega)]
  congr 1
  by_cases h:v.length=8
  ·simp[h]
  ·have:¬(v.length:Int)=8:=by omega
   simp[h,this]
 |succ d ih=>
  intro k i h0 hi hk
  obtain⟨k,rfl⟩:=succ_of hk
  rw[spec_VarsOk.l0,if_pos (by omega),if_pos h0,isValS_eq,w64 (by omega) (by omega),drop_rd h0 (by omega)]
  simp only[Option.bind_some,List.all_cons]
  by_cases c:valP (rd v i)=true
  ·rw[if_pos c,ih k (i+1) (by omega) (by omega) (by omega),c]
   simp
  ·rw[if_neg c]
   simp[c]
theorem varsS_at (v:List Int) (hv:v.length≤1048576) (k:Nat) (hk:v.length<k):spec_VarsOk.f k v=some (decide (v.length=8)&&v.all valP):=by
 unfold spec_VarsOk.f
 rw[varsS_l v hv v.length k 0 (by omega) (by omega) hk]
 simp[Bool.and_comm]
def memNew (v:List Int):List Int:=v++List.replicate 41 0
theorem memNew_len {v:List Int} (h:v.length=8):(memNew v).length=49:=by
 unfold memNew
 simp[h]
theorem memNew_take {v:List Int} (h:v.length=8):(memNew v).take 8=v:=by
 unfold memNew
 rw[List.take_append_of_le_length (by omega),List.take_of_length_le (by omega)]
theorem spec_MemNew_eq {v:List Int} (h:v.length=8) (hv:v.all valP=true) (k:Nat) (hk:8<k):spec_MemNew.f k v=some (memNew v,true):=by
 unfold spec_MemNew.f memNew
 rw[varsS_at v (by omega) k (by omega),hv]
 simp[h]
theorem rd_set (l:List Int) (i:Nat) (x:Int) {j:Int} (h0:0≤j):rd (l.set i x) j=if j.toNat=i∧i<l.length then x else rd l j:=by
 unfold rd
 rw[List.getD_eq_getElem?_getD,List.getD_eq_getElem?_getD,List.getElem?_set]
 by_cases e:i=j.toNat
 ·subst e
  by_cases hl:j.toNat<l.length
  ·simp[hl]
  ·simp[hl]
 ·rw[if_neg e,if_neg (fun h=>e h.1.symm)]
def memI (m:List Int):Prop:=m.length=49∧(m.take 8).all valP=true∧∀j:Int,25≤j→j<49→ -1000000≤rd m j∧rd m j≤1000000
theorem memI_new {v:List Int} (h:v.length=8) (hv:v.all valP=true):memI (memNew v):=by
 refine⟨memNew_len h,by rw[memNew_take h];exact hv,fun j h0 h1=> ?_⟩
 have:rd (memNew v) j=0:=by
  unfold rd memNew
  rw[List.getD_eq_getElem?_getD,List.getElem?_append_right (by omega),List.getElem?_replicate]
  split<;>rfl
 omega
theorem memI_set {m:List Int} (h:memI m) {i:Int} (h0:8≤i) {x:Int} (hx:i<25∨(-1000000≤x∧x≤1000000)):memI (m.set i.toNat x):=by
 obtain⟨h1,h2,h3⟩:=h
 refine⟨by rw[List.length_set];exact h1,?_,fun j j0 j1=> ?_⟩
 ·rw[List.take_set_of_le (by omega)]
  exact h2
 ·rw[rd_set m i.toNat x (by omega)]
  split
  ·rcases hx with hx|hx
   ·omega
   ·exact hx
  ·exact h3 j j0 j1
theorem l09Mem_1 (b:List Int) (hb:b.length≤140737488351232) (p:List S75) (hp:1≤p.length∧p.length≤6) (t c:Int) (ht:0≤t∧t≤4) (hc:0≤c∧c≤3) (d:Nat):∀(k:Nat) (m:List Int) (j i h:Int),memI m→0≤j→0≤i→j+(d:Int)=c→d<k→
  ∃r i' h' task,spec_l09Mem.l1 k m t c j b i h p=some (r,i',h')∧memI r∧(0≤task∧task<(p.length:Int))∧rd r 8=packC task c t:=by
 induction d with
 |zero=>
  intro k m j i h hm h0 hi hj hk
  obtain⟨k,rfl⟩:=succ_of hk
  obtain⟨r,i',h',e,r0,r1,_,hi'⟩:=l01Below_ok b i h (p.length:Int) hi hb
  have:=r1 (by omega)
  simp only[spec_l09Mem.l1]
  rw[if_neg (by omega),e]
  simp only[Option.bind_some]
  rw[pack_eq,packC_eq]
  simp only[Option.bind_some]
  rw[if_pos (by rw[hm.1];omega)]
  refine⟨_,_,_,r,rfl,memI_set hm (i:=8) (by omega) (.inl (by omega)),⟨r0,this⟩,?_⟩
  rw[rd_set m _ _ (by omega),if_pos ⟨rfl,by rw[hm.1];decide⟩]
 |succ d ih=>
  intro k m j i h hm h0 hi hj hk
  obtain⟨k,rfl⟩:=succ_of hk
  have hl:=hm.1
  obtain⟨r,i',h',e,r0,r1,_,hi'⟩:=l01Below_ok b i h 900 hi hb
  have:=r1 (by omega)
  have w1:wrap64 (2*j)=2*j:=w64 (by omega) (by omega)
  have w2:wrap64 (9+2*j)=9+2*j:=w64 (by omega) (by omega)
  have w3:wrap64 (9+2*j+1)=9+2*j+1:=w64 (by omega) (by omega)
  have w4:wrap64 (j+1)=j+1:=w64 (by omega) (by omega)
  simp only[spec_l09Mem.l1,w1,w2,w3,w4]
  rw[if_pos (by omega),if_pos (by omega),if_pos (by omega),e]
  simp only[Option.bind_some]
  rw[if_pos (by omega),if_pos (by omega)]
  exact ih k _ (j+1) i' h' (memI_set (memI_set hm (by omega) (.inl (by omega))) (by omega) (.inl (by omega))) (by omega) hi' (by omega) (by omega)
theorem l09Mem_0 (b:List Int) (hb:b.length≤140737488351232) (p:List S75) (hp:1≤p.length∧p.length≤6) (t:Int) (ht:0≤t∧t≤4) (d:Nat):∀(k:Nat) (m:List Int) (j i h:Int),memI m→0≤j→0≤i→j+(d:Int)=t→d+5<k→
  ∃r i' h' task c,spec_l09Mem.l0 k m t j b i h p=some (r,i',h')∧memI r∧(0≤task∧task<(p.length:Int))∧(0≤c∧c≤3)∧rd r 8=packC task c t:=by
 induction d with
 |zero=>
  intro k m j i h hm h0 hi hj hk
  obtain⟨k,rfl⟩:=succ_of (show 0<k by omega)
  obtain⟨r1,i1,h1,e1,a1,b1,_,hi1⟩:=l01Below_ok b i h 2 hi hb
  obtain⟨r2,i2,h2,e2,a2,b2,_,hi2⟩:=l01Below_ok b i1 h1 4 hi1 hb
  have b1':=b1 (by omega)
  have b2':=b2 (by omega)
  have hc:0≤r1*r2∧r1*r2≤3:=by
   have:r1=0∨r1=1:=by omega
   rcases this with rfl|rfl<;>omega
  simp only[spec_l09Mem.l0]
  rw[if_neg (by omega),e1]
  simp only[Option.bind_some,e2]
  rw[w64 (x:=r1*r2) (by omega) (by omega)]
  obtain⟨r,i',h',task,e,q1,q2,q3⟩:=l09Mem_1 b hb p hp t (r1*r2) ht hc (r1*r2).toNat k m 0 i2 h2 hm (by omega) hi2 (by omega) (by omega)
  exact⟨r,i',h',task,r1*r2,e,q1,q2,hc,q3⟩
 |succ d ih=>
  intro k m j i h hm h0 hi hj hk
  obtain⟨k,rfl⟩:=succ_of (show 0<k by omega)
  have hl:=hm.1
  obtain⟨r,i',h',e,r0,r1,_,hi'⟩:=l01Below_ok b i h 500 hi hb
  have:=r1 (by omega)
  have w2:wrap64 (25+j)=25+j:=w64 (by omega) (by omega)
  have w4:wrap64 (j+1)=j+1:=w64 (by omega) (by omega)
  simp only[spec_l09Mem.l0,w2,w4]
  rw[if_pos (by omega),e]
  simp only[Option.bind_some]
  rw[if_pos (by omega),if_pos (by omega)]
  exact ih k _ (j+1) i' h' (memI_set hm (by omega) (.inr ⟨by omega,by omega⟩)) (by omega) hi' (by omega) (by omega)
theorem drawMem_at (b:List Int) (hb:b.length≤140737488351232) (k:Nat) (hk:b.length+100<k):
  ∃p m task tail,spec_DrawMemory.f k b=some (p,m)∧progOk p=true∧p.length≤3∧memI m∧(0≤task∧task<(p.length:Int))∧(0≤tail∧tail≤4)∧rd m 8=packC task 0 tail∧memOk p m=true:=by
 unfold spec_DrawMemory.f spec_l06Program.f spec_l09Mem.f spec_l03Vars.f
 obtain⟨h,e⟩:=l01New_at b hb k (by omega)
 obtain⟨p,p1,h1,e1,hp,hp3,hp1⟩:=l06Program_l b hb 3 k 0 0 h [] (by omega) (by omega) (by omega) (by simp) (by simp) (by omega)
 obtain⟨v,p2,h2,e2,hv8,hv,hp2⟩:=l03Vars_l b hb 8 k 0 p1 h1 [] hp1 (by omega) (by omega) (by simp) (by simp) (by omega)
 obtain⟨t,p3,h3,e3,t0,t1,_,hp3'⟩:=l01Below_ok b p2 h2 5 hp2 hb
 have t1':=t1 (by omega)
 have hpl:1≤p.length∧p.length≤6:=by
  unfold progOk at hp
  simp only[Bool.and_eq_true,decide_eq_true_eq] at hp
  omega
 obtain⟨m,p4,h4,task,c,e4,hm,ht,hc,h8⟩:=l09Mem_0 b hb p hpl t ⟨t0,by omega⟩ t.toNat k (memNew v) 0 p3 h3 (memI_new hv8 hv) (by omega) hp3' (by omega) (by omega)
 simp only[e,e1,e2,spec_MemNew_eq hv8 hv k (by omega),e3,e4,Option.bind_some]
 rw[if_pos (by rw[hm.1];omega),unpack_eq _ k (by omega),h8,unpackC (by omega) (by omega) (by omega)]
 simp only[Option.bind_some]
 rw[pack_eq,packC_eq]
 have hm':memI (m.set (8:Int).toNat (packC task 0 t)):=memI_set hm (i:=8) (by omega) (.inl (by omega))
 have h8':rd (m.set (8:Int).toNat (packC task 0 t)) 8=packC task 0 t:=by
  rw[rd_set m _ _ (by omega),if_pos ⟨rfl,by rw[hm.1];decide⟩]
 refine⟨p,_,task,t,rfl,hp,hp3,hm',ht,⟨t0,by omega⟩,h8',?_⟩
 generalize m.set (8:Int).toNat (packC task 0 t)=m' at hm' h8' ⊢
 unfold memOk
 rw[hp,h8',unpackC (by omega) (by omega) (by omega),hm'.2.1]
 have hbx:((m'.take (25+t).toNat).drop 25).all valP=true:=by
  rw[List.all_eq_true]
  intro x hx
  obtain⟨j,hj,rfl⟩:=List.getElem_of_mem hx
  have hl:=hm'.1
  rw[List.length_drop,List.length_take] at hj
  have:=hm'.2.2 (25+(j:Int)) (by omega) (by omega)
  rw[valP_iff]
  have er:rd m' (25+(j:Int))=((m'.take (25+t).toNat).drop 25)[j]:=by
   unfold rd
   rw[List.getElem_drop,List.getElem_take,List.getD_eq_getElem?_getD,List.getElem?_eq_getElem (by omega)]
   simp only[Option.getD_some]
   congr 1
  rw[←er]
  exact this
 simp only[hm'.1,hbx,decide_true,Bool.true_and,Int.toNat_zero,logOk,Bool.and_true]
 exact decide_eq_true ht
def apW:List S82→List Int→List Int
 |[],m=>m
 |w::t,m=>apW t (if 0≤w.f0∧w.f0≤(m.length:Int) - 1 then m.set w.f0.toNat w.f1 else m)
theorem apW_len:∀(l:List S82) (m:List Int),(apW l m).length=m.length
 |[],m=>rfl
 |w::t,m=>by
  rw[apW,apW_len t]
  split
  ·simp
  ·rfl
theorem apW_append:∀(a b:List S82) (m:List Int),apW (a++b) m=apW b (apW a m)
 |[],_,_=>rfl
 |_::t,b,m=>apW_append t b _
theorem apW_one (a v:Int) {m:List Int} (h0:0≤a) (h1:a<(m.length:Int)):apW [⟨a,v⟩] m=m.set a.toNat v:=by
 rw[apW,if_pos ⟨h0,by show a≤_;omega⟩]
 rfl
def wS:List S84→List S82
 |[]=>[]
 |x::t=>if x.f1= -1 then wS t else ⟨x.f1,x.f2⟩::wS t
theorem wS_append:∀(a b:List S84),wS (a++b)=wS a++wS b
 |[],_=>rfl
 |x::t,b=>by
  rw[List.cons_append,wS,wS,wS_append t b]
  split<;>rfl
theorem wS_work (s:Tr) (c:Int):wS (s.write c (-1) 0).st=wS s.st:=by
 show wS (s.st++[⟨c,-1,0⟩])=_
 rw[wS_append]
 simp[wS]
theorem wS_write (s:Tr) (c a v:Int) (h:a≠ -1):wS (s.write c a v).st=wS s.st++[⟨a,v⟩]:=by
 show wS (s.st++[⟨c,a,v⟩])=_
 rw[wS_append]
 simp[wS,h]
theorem apI_l (l:List S82) (hl:l.length≤8000000000000) (d:Nat):∀(k:Nat) (m:List Int) (i:Int),m.length≤1048576→0≤i→i+(d:Int)=(l.length:Int)→d<k→
  impl_ApplyWrites.l0 k m l (l.length:Int) i=some (apW (l.drop i.toNat) m):=by
 induction d with
 |zero=>
  intro k m i hm h0 hi hk
  obtain⟨k,rfl⟩:=succ_of hk
  simp only[impl_ApplyWrites.l0]
  rw[if_neg (by omega),List.drop_eq_nil_of_le (by omega)]
  rfl
 |succ d ih=>
  intro k m i hm h0 hi hk
  obtain⟨k,rfl⟩:=succ_of hk
  simp only[impl_ApplyWrites.l0,within_eq,Option.bind_some,decide_eq_true_eq]
  rw[if_pos (by omega),if_pos h0,if_pos (by omega),w64 (x:=(m.length:Int) - 1) (by omega) (by omega),w64 (x:=i+1) (by omega) (by omega),drop_getD z82 h0 (by omega),apW]
  change (if 0≤(rd_T82 l i).f0∧(rd_T82 l i).f0≤(m.length:Int) - 1 then _ else _)=some (apW _ (if 0≤(rd_T82 l i).f0∧(rd_T82 l i).f0≤(m.length:Int) - 1 then m.set (rd_T82 l i).f0.toNat (rd_T82 l i).f1 else m))
  by_cases e:0≤(rd_T82 l i).f0∧(rd_T82 l i).f0≤(m.length:Int) - 1
  ·rw[if_pos e,if_pos e,if_pos e.1,if_pos (by omega)]
   exact ih k _ (i+1) (by simpa using hm) (by omega) (by omega) (by omega)
  ·rw[if_neg e,if_neg e]
   exact ih k _ (i+1) hm (by omega) (by omega) (by omega)
theorem apI_at (l:List S82) (hl:l.length≤8000000000000) (m:List Int) (hm:m.length≤1048576) {c:Int} (h0:0≤c) (hc:c≤(l.length:Int)) (k:Nat) (hk:l.length<k):
  impl_ApplyWrites.f k m l c=some (apW (l.take c.toNat) m):=by
 unfold impl_ApplyWrites.f slices_Clone_int_int.f impl_Clamp.f mn mx
 rw[if_pos (by omega),if_neg (by omega)]
 simp only[Option.bind_some]
 have e1:(if (l.length:Int)<(if c<0 then 0 else c) then (l.length:Int) else (if c<0 then 0 else c))=c:=by
  split<;>split at* <;>omega
 have e2:(if (if (0:Int)<c then c else 0)<(l.length:Int) then (if (0:Int)<c then c else 0) else (l.length:Int))=c:=by
  split<;>split at* <;>omega
 first
  |rw[e1]
  |rw[e2]
 rw[if_pos (by omega),if_pos (by omega)]
 have hl2:(l.take c.toNat).length≤8000000000000:=by rw[List.length_take];omega
 have:=apI_l (l.take c.toNat) hl2 (l.take c.toNat).length k m 0 hm (by omega) (by omega) (by rw[List.length_take];omega)
 simpa using this
structure MP (m:List Int) (task tail:Int) (ok:Int→Prop) (n:Nat) (y:List Int):Prop where
 len:y.length=49
 n8:n≤8
 c:rd y 8=packC task (n:Int) tail
 ent:∀i:Nat,i<n→(0≤rd y (9+2*(i:Int))∧rd y (9+2*(i:Int))≤7)∧rd y (9+2*(i:Int)+1)=rd m (rd y (9+2*(i:Int)))
 vars:∀k:Int,0≤k→k<8→rd y k=rd m k∨(∃i:Nat,i<n∧rd y (9+2*(i:Int))=k)∨ok k
 vals:∀k:Int,0≤k→k<8→ -1000000≤rd y k∧rd y k≤1000000
 box:∀j:Int,0≤j→j<tail→rd y (25+j)=rd m (25+j)
 bx:∀j:Int,25≤j→j<49→ -1000000≤rd y j∧rd y j≤1000000
theorem MP.free {m:List Int} {task tail:Int} {ok:Int→Prop} {n:Nat} {y:List Int} (h:MP m task tail ok n y) {a:Int} (h0:9+2*(n:Int)≤a) {v:Int} (h1:a<25∨(25+tail≤a∧ -1000000≤v∧v≤1000000)) (ha:a<49):MP m task tail ok n (y.set a.toNat v):=by
 have l:=h.len
 have e:∀j:Int,0≤j→j≠a→rd (y.set a.toNat v) j=rd y j:=fun j hj hn=>by rw[rd_set y _ _ hj,if_neg (by omega)]
 have n8:=h.n8
 refine⟨by rw[List.length_set];exact l,n8,by rw[e 8 (by omega) (by omega)];exact h.c,fun i hi=> ?_,fun k h2 h3=> ?_,fun k h2 h3=> ?_,fun j h2 h3=> ?_,fun j h2 h3=> ?_⟩
 ·rw[e _ (by omega) (by omega),e _ (by omega) (by omega)]
  exact h.ent i hi
 ·rw[e k h2 (by omega)]
  refine(h.vars k h2 h3).imp id (Or.imp ?_ id)
  rintro⟨i,hi,e2⟩
  exact⟨i,hi,by rw[e _ (by omega) (by omega)];exact e2⟩
 ·rw[e k h2 (by omega)]
  exact h.vals k h2 h3
 ·rw[e _ (by omega) (by omega)]
  exact h.box j h2 h3
 ·by_cases q:j=a
  ·rw[q,rd_set y _ _ (by omega),if_pos ⟨rfl,by omega⟩]
   exact h1.elim (fun h=>by omega) (fun h=>h.2)
  ·rw[e j (by omega) q]
   exact h.bx j h2 h3
theorem MP.var {m:List Int} {task tail:Int} {ok:Int→Prop} {n:Nat} {y:List Int} (h:MP m task tail ok n y) {a:Int} (h0:0≤a) (h1:a<8) (hk:(∃i:Nat,i<n∧rd y (9+2*(i:Int))=a)∨ok a) {v:Int} (hv: -1000000≤v∧v≤1000000):MP m task tail ok n (y.set a.toNat v):=by
 have l:=h.len
 have n8:=h.n8
 have e:∀j:Int,0≤j→j≠a→rd (y.set a.toNat v) j=rd y j:=fun j hj hn=>by rw[rd_set y _ _ hj,if_neg (by omega)]
 have en:∀k:Int,(∃i:Nat,i<n∧rd y (9+2*(i:Int))=k)→∃i:Nat,i<n∧rd (y.set a.toNat v) (9+2*(i:Int))=k:=by
  rintro k ⟨i,hi,e2⟩
  exact⟨i,hi,by rw[e _ (by omega) (by omega)];exact e2⟩
 refine⟨by rw[List.length_set];exact l,n8,by rw[e 8 (by omega) (by omega)];exact h.c,fun i hi=> ?_,fun k h2 h3=> ?_,fun k h2 h3=> ?_,fun j h2 h3=> ?_,fun j h2 h3=> ?_⟩
 ·rw[e _ (by omega) (by omega),e _ (by omega) (by omega)]
  exact h.ent i hi
 ·by_cases c:k=a
  ·subst c
   exact .inr (hk.imp (en k) id)
  ·rw[e k h2 c]
   exact(h.vars k h2 h3).imp id (Or.imp (en k) id)
 ·by_cases c:k=a
  ·subst c
   rw[rd_set y _ _ h2,if_pos ⟨rfl,by omega⟩]
   exact hv
  ·rw[e k h2 c]
   exact h.vals k h2 h3
 ·rw[e _ (by omega) (by omega)]
  exact h.box j h2 h3
 ·rw[e j (by omega) (by omega)]
  exact h.bx j h2 h3
theorem MP.more {m:List Int} {task tail:Int} {ok:Int→Prop} {n:Nat} {y:List Int} (h:MP m task tail ok n y) (hn:n<8) (hk:0≤rd y (9+2*(n:Int))∧rd y (9+2*(n:Int))≤7) (hv:rd y (9+2*(n:Int)+1)=rd m (rd y (9+2*(n:Int)))):MP m task tail ok (n+1) (y.set (8:Int).toNat (packC task ((n:Int)+1) tail)):=by
 have l:=h.len
 have e:∀j:Int,0≤j→j≠8→rd (y.set (8:Int).toNat (packC task ((n:Int)+1) tail)) j=rd y j:=fun j hj hn=>by rw[rd_set y _ _ hj,if_neg (by omega)]
 refine⟨by rw[List.length_set];exact l,by omega,?_,fun i hi=> ?_,fun k h2 h3=> ?_,fun k h2 h3=> ?_,fun j h2 h3=> ?_,fun j h2 h3=> ?_⟩
 ·rw[rd_set y _ _ (by omega),if_pos ⟨rfl,by rw[l];decide⟩]
  rfl
 ·rw[e _ (by omega) (by omega),e _ (by omega) (by omega)]
  by_cases c:i=n
  ·subst c
   exact⟨hk,hv⟩
  ·exact h.ent i (by omega)
 ·rw[e k h2 (by omega)]
  refine(h.vars k h2 h3).imp id (Or.imp ?_ id)
  rintro⟨i,hi,e2⟩
  exact⟨i,by omega,by rw[e _ (by omega) (by omega)];exact e2⟩
 ·rw[e k h2 (by omega)]
  exact h.vals k h2 h3
 ·rw[e _ (by omega) (by omega)]
  exact h.box j h2 h3
 ·rw[e j (by omega) (by omega)]
  exact h.bx j h2 h3
theorem MP.start {m:List Int} (hm:memI m) {task tail:Int} (h8:rd m 8=packC task 0 tail) (ok:Int→Prop):MP m task tail ok 0 m:=by
 refine⟨hm.1,by omega,h8,fun i hi=>absurd hi (by omega),fun k _ _=> .inl rfl,fun k h0 h1=> ?_,fun _ _ _=>rfl,hm.2.2⟩
 have hl:=hm.1
 have:rd m k=rd (m.take 8) k:=by
  unfold rd
  rw[List.getD_eq_getElem?_getD,List.getD_eq_getElem?_getD,List.getElem?_take,if_pos (by omega)]
 rw[this,←valP_iff]
 have:=rd_all (P:=fun x=>valP x=true) (List.all_eq_true.1 hm.2.1) (i:=k) h0 (by rw[List.length_take];omega)
 exact this
theorem nodup_le:∀(n:Nat) (l:List Int),l.Nodup→(∀x∈l,0≤x∧x<(n:Int))→l.length≤n
 |0,l,_,h=>by
  rcases l with _|⟨x,t⟩
  ·exact Nat.le_refl _
  ·have:=h x (by simp)
   omega
 |n+1,l,nd,h=>by
  by_cases c:(n:Int)∈l
  ·have:=nodup_le n (l.erase (n:Int)) (nd.erase _) (fun x hx=>by
    have h1:=h x (List.mem_of_mem_erase hx)
    have h2:x≠(n:Int):=fun e=>by
     subst e
     exact(List.Nodup.mem_erase_iff nd).1 hx|>.1 rfl
    omega)
   rw[List.length_erase_of_mem c] at this
   omega
  ·have:=nodup_le n l nd (fun x hx=>by
    have h1:=h x hx
    have h2:x≠(n:Int):=fun e=>c (e ▸ hx)
    omega)
   omega
def PW (m:List Int) (task tail:Int) (ok:Int→Prop) (l:List S82):Prop:=∀n:Nat,∃c,MP m task tail ok c (apW (l.take n) m)
theorem PW.add {m:List Int} {task tail:Int} {ok:Int→Prop} {l:List S82} (h:PW m task tail ok l) {w:S82} {c:Nat} (hc:MP m task tail ok c (apW (l++[w]) m)):PW m task tail ok (l++[w]):=by
 intro n
 by_cases hn:n≤l.length
 ·rw[List.take_append_of_le_length hn]
  exact h n
 ·rw[List.take_of_length_le (by simp only[List.length_append,List.length_singleton];omega)]
  exact⟨c,hc⟩
structure TJ (m:List Int) (task tail:Int) (may must:List Int) (s:Tr):Prop where
 vok:vok s.vs
 pre:PW m task tail (fun k=>k∈may∧k ∉ must) (wS s.st)
 now:MP m task tail (fun k=>k∈may∧k ∉ must) s.lg.length (apW (wS s.st) m)
 lgi:∀i:Nat,i<s.lg.length→rd (apW (wS s.st) m) (9+2*(i:Int))=rd s.lg (i:Int)
 nd:s.lg.Nodup
 lgv:∀x∈s.lg,(0≤x∧x≤7)∧s.fr x.toNat=true
 vs:∀k:Int,0≤k→k<8→rd (apW (wS s.st) m) k=rd s.vs k
 old:∀k:Int,0≤k→k<8→s.fr k.toNat=false→rd s.vs k=rd m k
 new:∀k:Int,0≤k→k<8→s.fr k.toNat=true→k∈may∧(k∈must→k∈s.lg)
 rng:∀x∈s.st,x.f1= -1∨(0≤x.f1∧x.f1<49)
section
variable {m:List Int} {task tail:Int} {may must:List Int} {s:Tr}
theorem rng_add {l:List S84} (h:∀x∈l,x.f1= -1∨(0≤x.f1∧x.f1<49)) {c a v:Int} (ha:a= -1∨(0≤a∧a<49)):∀x∈l++[⟨c,a,v⟩],x.f1= -1∨(0≤x.f1∧x.f1<49):=by
 intro x hx
 rcases List.mem_append.1 hx with hx|hx
 ·exact h x hx
 ·rw[List.mem_singleton.1 hx]
  exact ha
theorem TJ.work (h:TJ m task tail may must s) (c:Int):TJ m task tail may must (s.write c (-1) 0):=by
 have e:=wS_work s c
 refine⟨h.vok,?_,?_,?_,h.nd,h.lgv,?_,h.old,h.new,rng_add h.rng (.inl rfl)⟩
 ·rw[e];exact h.pre
 ·rw[e];exact h.now
 ·rw[e];exact h.lgi
 ·rw[e];exact h.vs
theorem rd_app (l:List Int) (x:Int) {i:Int} (h0:0≤i) (h1:i<(l.length:Int)):rd (l++[x]) i=rd l i:=by
 unfold rd
 rw[List.getD_eq_getElem?_getD,List.getD_eq_getElem?_getD,List.getElem?_append_left (by omega)]
theorem mem_rd {l:List Int} {x:Int} (h:x∈l):∃i:Nat,i<l.length∧rd l (i:Int)=x:=by
 obtain⟨i,hi,rfl⟩:=List.getElem_of_mem h
 refine⟨i,hi,?_⟩
 unfold rd
 rw[List.getD_eq_getElem?_getD,Int.toNat_natCast,List.getElem?_eq_getElem hi]
 rfl
theorem TJ.put (h:TJ m task tail may must s) {k v:Int} (hk:0≤k∧k≤7) (hm:k∈may) (hv: -1000000≤v∧v≤1000000) (hl:k∈must→k∈s.lg):TJ m task tail may must (s.put k v):=by
 have l:=h.now.len
 have e:wS (s.put k v).st=wS s.st++[⟨k,v⟩]:=wS_write _ 3 k v (by omega)
 have ea:apW (wS (s.put k v).st) m=(apW (wS s.st) m).set k.toNat v:=by
  rw[e,apW_append,apW_one k v hk.1 (by omega)]
 have hin:(∃i:Nat,i<s.lg.length∧rd (apW (wS s.st) m) (9+2*(i:Int))=k)∨(k∈may∧k ∉ must):=by
  by_cases c:k∈must
  ·obtain⟨i,hi,e⟩:=mem_rd (hl c)
   exact .inl ⟨i,hi,(h.lgi i hi).trans e⟩
  ·exact .inr ⟨hm,c⟩
 have now:=h.now.var hk.1 (by omega) hin hv
 have v8:=h.vok.1
 refine⟨vok_set h.vok _ hv,?_,?_,fun i hi=> ?_,h.nd,fun x hx=> ?_,fun j j0 j1=> ?_,fun j j0 j1 jf=> ?_,fun j j0 j1 jf=> ?_,rng_add h.rng (.inr (by omega))⟩
 ·rw[e]
  exact h.pre.add (c:=s.lg.length) (by rw[←e,ea];exact now)
 ·rw[ea];exact now
 ·rw[ea,rd_set _ _ _ (by omega),if_neg (by have:=h.now.n8;omega)]
  exact h.lgi i hi
 ·refine⟨(h.lgv x hx).1,?_⟩
  show(if x.toNat=k.toNat then true else s.fr x.toNat)=true
  rw[(h.lgv x hx).2,ite_self]
 ·rw[ea,rd_set _ _ _ j0]
  show _=rd (s.vs.set k.toNat v) j
  rw[rd_set _ _ _ j0,h.vs j j0 j1]
  by_cases c:j.toNat=k.toNat
  ·rw[if_pos ⟨c,by omega⟩,if_pos ⟨c,by omega⟩]
  ·rw[if_neg (fun q=>c q.1),if_neg (fun q=>c q.1)]
 ·change (if j.toNat=k.toNat then true else s.fr j.toNat)=false at jf
  by_cases c:j.toNat=k.toNat
  ·rw[if_pos c] at jf
   cases jf
  ·rw[if_neg c] at jf
   show rd (s.vs.set k.toNat v) j=_
   rw[rd_set _ _ _ j0,if_neg (fun q=>c q.1)]
   exact h.old j j0 j1 jf
 ·change (if j.toNat=k.toNat then true else s.fr j.toNat)=true at jf
  by_cases c:j.toNat=k.toNat
  ·have:j=k:=by omega
   subst this
   exact⟨hm,hl⟩
  ·rw[if_neg c] at jf
   exact h.new j j0 j1 jf
theorem TJ.log (h:TJ m task tail may must s) {k:Int} (hk:0≤k∧k≤7) (hm:k∈may) (hmu:k∈must) (hf:s.fr k.toNat=false):
  s.lg.length<8∧∃t:Tr,t={s.log k (packC task ((s.lg.length:Int)+1) tail) with fr:=fun j=>if j=k.toNat then true else s.fr j}∧TJ m task tail may must {t with vs:=s.vs}:=by
 have hnk:k ∉ s.lg:=fun hx=>by rw[(h.lgv k hx).2] at hf;cases hf
 have nd:(s.lg++[k]).Nodup:=by
  rw[List.nodup_append]
  refine⟨h.nd,by simp,?_⟩
  rintro a ha b hb rfl
  exact hnk ((List.mem_singleton.1 hb) ▸ ha)
 have h8:(s.lg++[k]).length≤8:=nodup_le 8 _ nd (fun x hx=>by
  rcases List.mem_append.1 hx with hx|hx
  ·have:=(h.lgv x hx).1;omega
  ·rw[List.mem_singleton.1 hx];omega)
 rw[List.length_append,List.length_singleton] at h8
 refine⟨by omega,_,rfl,?_⟩
 have l:=h.now.len
 have w1:wrap64 (2*(s.lg.length:Int))=2*(s.lg.length:Int):=w64 (by omega) (by omega)
 have w2:wrap64 (9+2*(s.lg.length:Int))=9+2*(s.lg.length:Int):=w64 (by omega) (by omega)
 have w3:wrap64 (9+2*(s.lg.length:Int)+1)=9+2*(s.lg.length:Int)+1:=w64 (by omega) (by omega)
 obtain⟨Y,eY⟩:∃Y,Y=apW (wS s.st) m:=⟨_,rfl⟩
 have now:=h.now
 have lgi:=h.lgi
 have hvs:=h.vs
 have pre:=h.pre
 rw[←eY] at now l lgi hvs
 have e:wS (s.log k (packC task ((s.lg.length:Int)+1) tail)).st=((wS s.st++[⟨9+2*(s.lg.length:Int),k⟩])++[⟨9+2*(s.lg.length:Int)+1,rd s.vs k⟩])++[⟨8,packC task ((s.lg.length:Int)+1) tail⟩]:=by
  show wS (((s.st++[⟨3,wrap64 (9+wrap64 (2*(s.lg.length:Int))),k⟩])++[⟨3,wrap64 (wrap64 (9+wrap64 (2*(s.lg.length:Int)))+1),rd s.vs k⟩])++[⟨3,8,packC task ((s.lg.length:Int)+1) tail⟩])=_
  rw[w1,w2,w3,wS_append,wS_append,wS_append]
  simp only[wS]
  rw[if_neg (by omega),if_neg (by omega),if_neg (by omega)]
 have a1:apW (wS s.st++[⟨9+2*(s.lg.length:Int),k⟩]) m=Y.set (9+2*(s.lg.length:Int)).toNat k:=by
  rw[apW_append,←eY,apW_one _ _ (by omega) (by omega)]
 have m1:=now.free (a:=9+2*(s.lg.length:Int)) (v:=k) (by omega) (.inl (by omega)) (by omega)
 have a2:apW ((wS s.st++[⟨9+2*(s.lg.length:Int),k⟩])++[⟨9+2*(s.lg.length:Int)+1,rd s.vs k⟩]) m=(Y.set (9+2*(s.lg.length:Int)).toNat k).set (9+2*(s.lg.length:Int)+1).toNat (rd s.vs k):=by
  rw[apW_append,a1,apW_one _ _ (by omega) (by rw[m1.len];omega)]
 have m2:=m1.free (a:=9+2*(s.lg.length:Int)+1) (v:=rd s.vs k) (by omega) (.inl (by omega)) (by omega)
 have r1:rd ((Y.set (9+2*(s.lg.length:Int)).toNat k).set (9+2*(s.lg.length:Int)+1).toNat (rd s.vs k)) (9+2*(s.lg.length:Int))=k:=by
  rw[rd_set _ _ _ (by omega),if_neg (by omega),rd_set _ _ _ (by omega),if_pos ⟨rfl,by omega⟩]
 have r2:rd ((Y.set (9+2*(s.lg.length:Int)).toNat k).set (9+2*(s.lg.length:Int)+1).toNat (rd s.vs k)) (9+2*(s.lg.length:Int)+1)=rd m k:=by
  rw[rd_set _ _ _ (by omega),if_pos ⟨rfl,by rw[List.length_set];omega⟩]
  exact h.old k hk.1 (by omega) hf
 have m3:=m2.more (by omega) (by rw[r1];omega) (by rw[r1,r2])
 have a3:apW (wS (s.log k (packC task ((s.lg.length:Int)+1) tail)).st) m=((Y.set (9+2*(s.lg.length:Int)).toNat k).set (9+2*(s.lg.length:Int)+1).toNat (rd s.vs k)).set (8:Int).toNat (packC task ((s.lg.length:Int)+1) tail):=by
  rw[e,apW_append,a2,apW_one _ _ (by omega) (by rw[m2.len];omega)]
 have low:∀j:Int,0≤j→j≠8→j≠9+2*(s.lg.length:Int)→j≠9+2*(s.lg.length:Int)+1→rd (apW (wS (s.log k (packC task ((s.lg.length:Int)+1) tail)).st) m) j=rd Y j:=fun j j0 j1 j2 j3=>by
  rw[a3,rd_set _ _ _ j0,if_neg (by omega),rd_set _ _ _ j0,if_neg (by omega),rd_set _ _ _ j0,if_neg (by omega)]
 refine⟨h.vok,?_,?_,fun i hi=> ?_,nd,fun x hx=> ?_,fun j j0 j1=> ?_,fun j j0 j1 jf=> ?_,fun j j0 j1 jf=> ?_,rng_add (rng_add (rng_add h.rng (.inr (by rw[w1,w2];omega))) (.inr (by rw[w1,w2,w3];omega))) (.inr (by omega))⟩
 ·show PW _ _ _ _ (wS (s.log k (packC task ((s.lg.length:Int)+1) tail)).st)
  rw[e]
  exact((pre.add (by rw[a1];exact m1)).add (by rw[a2];exact m2)).add (by rw[←e,a3];exact m3)
 ·show MP _ _ _ _ (s.lg++[k]).length (apW (wS (s.log k (packC task ((s.lg.length:Int)+1) tail)).st) m)
  rw[a3,List.length_append]
  exact m3
 ·change i<(s.lg++[k]).length at hi
  rw[List.length_append,List.length_singleton] at hi
  show rd (apW (wS (s.log k (packC task ((s.lg.length:Int)+1) tail)).st) m) _=rd (s.lg++[k]) (i:Int)
  by_cases c:i=s.lg.length
  ·subst c
   rw[a3,rd_set _ _ _ (by omega),if_neg (by omega),r1]
   unfold rd
   rw[List.getD_eq_getElem?_getD,Int.toNat_natCast]
   simp
  ·rw[low _ (by omega) (by omega) (by omega) (by omega),rd_app _ _ (by omega) (by omega)]
   exact lgi i (by omega)
 ·show _∧(if x.toNat=k.toNat then true else s.fr x.toNat)=true
  rcases List.mem_append.1 hx with hx|hx
  ·refine⟨(h.lgv x hx).1,?_⟩
   rw[(h.lgv x hx).2,ite_self]
  ·rw[List.mem_singleton.1 hx]
   exact⟨hk,if_pos rfl⟩
 ·show rd (apW (wS (s.log k (packC task ((s.lg.length:Int)+1) tail)).st) m) j=rd s.vs j
  rw[low j j0 (by omega) (by omega) (by omega)]
  exact hvs j j0 j1
 ·change (if j.toNat=k.toNat then true else s.fr j.toNat)=false at jf
  by_cases c:j.toNat=k.toNat
  ·rw[if_pos c] at jf
   cases jf
  ·rw[if_neg c] at jf
   exact h.old j j0 j1 jf
 ·change (if j.toNat=k.toNat then true else s.fr j.toNat)=true at jf
  show _∧(_→j∈s.lg++[k])
  by_cases c:j.toNat=k.toNat
  ·have:j=k:=by omega
   subst this
   exact⟨hm,fun _=>by simp⟩
  ·rw[if_neg c] at jf
   obtain⟨b1,b2⟩:=h.new j j0 j1 jf
   exact⟨b1,fun q=>List.mem_append.2 (.inl (b2 q))⟩
theorem TJ.asg (h:TJ m task tail may must s) {k v:Int} (hk:0≤k∧k≤7) (hm:k∈may) (hv: -1000000≤v∧v≤1000000):TJ m task tail may must (asgT task tail must s k v):=by
 unfold asgT
 by_cases c:k∈must∧s.fr k.toNat=false
 ·rw[if_pos c]
  obtain⟨_,t,et,ht⟩:=h.log hk hm c.1 c.2
  have e:(s.log k (packC task ((s.lg.length:Int)+1) tail)).put k v=({t with vs:=s.vs}:Tr).put k v:=by
   subst et
   unfold Tr.put Tr.log
   simp only[Tr.mk.injEq,and_true,true_and]
   funext j
   split<;>rfl
  rw[e]
  refine ht.put hk hm hv (fun _=> ?_)
  subst et
  show k∈s.lg++[k]
  simp
 ·rw[if_neg c]
  refine h.put hk hm hv (fun q=> ?_)
  have:s.fr k.toNat=true:=by
   cases e:s.fr k.toNat
   ·exact absurd ⟨q,e⟩ c
   ·rfl
  exact(h.new k hk.1 (by omega) this).2 q
theorem TJ.send (h:TJ m task tail may must s) (ht:0≤tail∧tail≤24) (hs:0≤s.sn∧s.sn≤1694577218886) {v:Int} (hv: -1000000≤v∧v≤1000000):TJ m task tail may must (s.sendB tail v):=by
 unfold Tr.sendB
 rw[w64 (x:=tail+s.sn) (by omega) (by omega)]
 by_cases c:tail+s.sn<24
 ·rw[if_pos c,w64 (x:=25+(tail+s.sn)) (by omega) (by omega)]
  have l:=h.now.len
  have e:wS (s.write 3 (25+(tail+s.sn)) v).st=wS s.st++[⟨25+(tail+s.sn),v⟩]:=wS_write _ 3 _ v (by omega)
  have ea:apW (wS (s.write 3 (25+(tail+s.sn)) v).st) m=(apW (wS s.st) m).set (25+(tail+s.sn)).toNat v:=by
   rw[e,apW_append,apW_one _ v (by omega) (by omega)]
  have n8:=h.now.n8
  have now:=h.now.free (a:=25+(tail+s.sn)) (v:=v) (by omega) (.inr ⟨by omega,hv⟩) (by omega)
  refine⟨h.vok,?_,?_,fun i hi=> ?_,h.nd,h.lgv,fun j j0 j1=> ?_,h.old,h.new,rng_add h.rng (.inr (by omega))⟩
  ·show PW _ _ _ _ (wS (s.write 3 (25+(tail+s.sn)) v).st)
   rw[e]
   exact h.pre.add (c:=s.lg.length) (by rw[←e,ea];exact now)
  ·show MP _ _ _ _ _ (apW (wS (s.write 3 (25+(tail+s.sn)) v).st) m)
   rw[ea];exact now
  ·change i<s.lg.length at hi
   show rd (apW (wS (s.write 3 (25+(tail+s.sn)) v).st) m) _=_
   rw[ea,rd_set _ _ _ (by omega),if_neg (by omega)]
   exact h.lgi i hi
  ·show rd (apW (wS (s.write 3 (25+(tail+s.sn)) v).st) m) _=_
   rw[ea,rd_set _ _ _ j0,if_neg (by omega)]
   exact h.vs j j0 j1
 ·rw[if_neg c]
  exact⟨h.vok,h.pre,h.now,h.lgi,h.nd,h.lgv,h.vs,h.old,h.new,h.rng⟩
theorem TJ.step (ht:0≤tail∧tail≤24) (rs:List Int) (at_:Int) {x:S92} (hx:stOk x=true) (hm:writes x=true→x.f1∈may) (h:TJ m task tail may must s) (hs:0≤s.sn∧s.sn≤1694577218886):TJ m task tail may must (stepT task tail must rs at_ s x).1:=by
 have hw:=h.work (costC x)
 unfold stepT
 by_cases k1:x.f0=1
 ·rw[if_pos k1]
  exact hw.asg (stOk_set hx k1).1 (hm (by simp[writes,k1])) (evalE_in h.vok (stOk_set hx k1).2)
 rw[if_neg k1]
 by_cases k2:x.f0=2
 ·rw[if_pos k2]
  exact TJ.asg (s:={s.write (costC x) (-1) 0 with us:=s.us++[sensorOf rs x.f2 (at_+(s.us.length:Int))]}) ⟨hw.vok,hw.pre,hw.now,hw.lgi,hw.nd,hw.lgv,hw.vs,hw.old,hw.new,hw.rng⟩ (stOk_sense hx k2).1 (hm (by simp[writes,k2])) (sensorOf_in _ _ _)
 rw[if_neg k2]
 by_cases k3:x.f0=3
 ·rw[if_pos k3]
  exact hw.send ht hs (evalE_in h.vok (stOk_expr hx (.inl k3)))
 rw[if_neg k3]
 split<;>exact hw
end
theorem traceJ {m:List Int} {task tail:Int} {may must:List Int} (ht:0≤tail∧tail≤24) (rs:List Int) (at_:Int) (T:Bk) (ok:T.ok) (hss:∀s∈T.flat,stOk s=true) (h24:T.flat.length≤24) (hm:∀x∈T.flat,writes x=true→x.f1∈may) {v:List Int} (hv:vok v)
  (hi:memI m) (h8:rd m 8=packC task 0 tail) (hvm:∀k:Int,0≤k→k<8→rd m k=rd v k):TJ m task tail may must (traceT task tail must rs at_ T v):=by
 have hM:=lng6_24 ok hss h24
 have:=walkT_run6 (fun s x=>some (stepT task tail must rs at_ s x)) (stepT task tail must rs at_) (fun n s=>trI n s∧TJ m task tail may must s) (fun a b s hab h=>⟨trI_mono a b s hab h.1,h.2⟩) T ok
  (fun x hx h4 h5 h6 n s hq=>⟨rfl,stepT_leaf task tail must rs at_ (hss x hx) n s h4 h5 h6 hq.1,TJ.step ht rs at_ (hss x hx) (hm x hx) hq.2 ⟨hq.1.2.2.2.2.1,by have:=hq.1.2.1;have:=hq.1.2.2.2.2.2;omega⟩⟩)
  (fun x hx o n s hq=>⟨rfl,stepT_node task tail must rs at_ n s o hq.1,TJ.step ht rs at_ (hss x hx) (hm x hx) hq.2 ⟨hq.1.2.2.2.2.1,by have:=hq.1.2.1;have:=hq.1.2.2.2.2.2;omega⟩⟩) 0 (Tr.zero v) ⟨⟨hv,by simp only[Tr.zero,List.length_nil];omega,by simp[Tr.zero],by simp[Tr.zero],by simp[Tr.zero],by simp[Tr.zero]⟩,?_⟩
 ·exact this.2.2
 ·have st:=MP.start hi h8 (fun k=>k∈may∧k ∉ must)
  exact⟨hv,fun n=>⟨0,by simpa [Tr.zero,wS,apW] using st⟩,st,fun i hi=>absurd hi (by simp[Tr.zero]),by simp[Tr.zero],by simp[Tr.zero],hvm,fun k h0 h1 _=>(hvm k h0 h1).symm,fun k h0 h1 hf=>by simp[Tr.zero] at hf,by simp[Tr.zero]⟩
def recL (y:List Int):Nat→List S82
 |0=>[]
 |n+1=>⟨rd y (9+2*(n:Int)),rd y (9+2*(n:Int)+1)⟩::recL y n
theorem recL_len (y:List Int):∀n,(recL y n).length=n
 |0=>rfl
 |n+1=>by rw[recL,List.length_cons,recL_len y n]
theorem recL_mem (y:List Int):∀(n:Nat) (w:S82),w∈recL y n↔∃i:Nat,i<n∧w=⟨rd y (9+2*(i:Int)),rd y (9+2*(i:Int)+1)⟩
 |0,w=>by simp[recL]
 |n+1,w=>by
  rw[recL,List.mem_cons,recL_mem y n w]
  constructor
  ·rintro(h|⟨i,hi,h⟩)
   ·exact⟨n,by omega,h⟩
   ·exact⟨i,by omega,h⟩
  ·rintro⟨i,hi,h⟩
   by_cases c:i=n
   ·subst c;exact .inl h
   ·exact .inr ⟨i,by omega,h⟩
theorem recI_l (y:List Int) (hl:y.length=49) (task tail:Int) (d:Nat):∀(k:Nat) (acc:List S82) (i:Int),i+1=(d:Int)→d≤8→acc.length+d≤8→(∀j:Nat,j<d→0≤rd y (9+2*(j:Int))∧rd y (9+2*(j:Int))≤7)→d<k→
  impl_RecoveryWrites.l0 k y task tail acc i=some (acc++(recL y d++[⟨8,packC task 0 tail⟩])):=by
 induction d with
 |zero=>
  intro k acc i hi hd ha he hk
  obtain⟨k,rfl⟩:=succ_of hk
  simp only[impl_RecoveryWrites.l0,packC_eq,Option.bind_some]
  rw[if_neg (by omega),if_pos (by omega)]
  simp[recL]
 |succ d ih=>
  intro k acc i hi hd ha he hk
  obtain⟨k,rfl⟩:=succ_of hk
  have ei:i=(d:Int):=by omega
  subst ei
  have w1:wrap64 (2*(d:Int))=2*(d:Int):=w64 (by omega) (by omega)
  have w2:wrap64 (9+2*(d:Int))=9+2*(d:Int):=w64 (by omega) (by omega)
  have w3:wrap64 (9+2*(d:Int)+1)=9+2*(d:Int)+1:=w64 (by omega) (by omega)
  have w4:wrap64 ((d:Int) - 1)=(d:Int) - 1:=w64 (by omega) (by omega)
  have h:=he d (by omega)
  simp only[impl_RecoveryWrites.l0,w1,w2,w3,w4,isVarI_eq,Option.bind_some,decide_eq_true_eq]
  rw[if_pos (by omega),if_pos (by omega),if_pos (by omega),if_pos h,if_pos (by omega),if_pos (by omega),if_pos (by omega),ih k _ ((d:Int) - 1) (by omega) (by omega) (by simp only[List.length_append,List.length_singleton];omega) (fun j hj=>he j (by omega)) (by omega)]
  simp[recL]
def recW' (y:List Int) (task tail:Int) (n:Nat):List S82:=if n=0 then [] else recL y n++[⟨8,packC task 0 tail⟩]
section
variable {m:List Int} {task tail:Int} {ok:Int→Prop} {n:Nat} {y:List Int}
theorem MP.rec_at (h:MP m task tail ok n y) (ht:0≤task∧task≤5) (htl:0≤tail∧tail≤24) (k:Nat) (hk:12<k):impl_RecoveryWrites.f k y=some (recW' y task tail n):=by
 have l:=h.len
 have n8:=h.n8
 unfold impl_RecoveryWrites.f recW'
 rw[if_pos (by omega),if_pos (by omega),h.c,unpackC ht (by omega) htl]
 simp only[Option.bind_some]
 by_cases c:n=0
 ·rw[if_pos (by omega),if_pos c]
 ·rw[if_neg (by omega),if_neg c,w64 (by omega) (by omega),recI_l y l task tail n k [] ((n:Int) - 1) (by omega) n8 (by simpa using n8) (fun j hj=>(h.ent j hj).1) (by omega)]
  simp
theorem apR (m:List Int):∀(l:List S82) (u:List Int),u.length=49→(∀w∈l,(0≤w.f0∧w.f0≤7)∧w.f1=rd m w.f0)→∀j:Int,0≤j→((∃w∈l,w.f0=j)→rd (apW l u) j=rd m j)∧((¬ ∃w∈l,w.f0=j)→rd (apW l u) j=rd u j)
 |[],u,_,_,j,_=>⟨fun ⟨w,hw,_⟩=>by simp at hw,fun _=>rfl⟩
 |w::t,u,hu,hl,j,h0=>by
  obtain⟨hw,hv⟩:=hl w (by simp)
  have e:apW (w::t) u=apW t (u.set w.f0.toNat w.f1):=by rw[apW,if_pos ⟨by omega,by omega⟩]
  obtain⟨i1,i2⟩:=apR m t (u.set w.f0.toNat w.f1) (by rw[List.length_set];exact hu) (fun x hx=>hl x (by simp[hx])) j h0
  rw[e]
  by_cases c:∃x∈t,x.f0=j
  ·exact⟨fun _=>i1 c,fun h=>absurd (let ⟨x,hx,q⟩:=c;⟨x,List.mem_cons_of_mem _ hx,q⟩) h⟩
  ·rw[i2 c,rd_set _ _ _ h0]
   by_cases q:w.f0=j
   ·subst q
    rw[if_pos ⟨rfl,by omega⟩]
    exact⟨fun _=>hv,fun h=>absurd ⟨w,by simp,rfl⟩ h⟩
   ·rw[if_neg (by omega)]
    refine⟨?_,fun _=>rfl⟩
    rintro⟨x,hx,r⟩
    rcases List.mem_cons.1 hx with hx|hx
    ·subst hx;exact absurd r q
    ·exact absurd ⟨x,hx,r⟩ c
theorem MP.recL_ok (h:MP m task tail ok n y):∀w∈recL y n,(0≤w.f0∧w.f0≤7)∧w.f1=rd m w.f0:=by
 intro w hw
 obtain⟨i,hi,rfl⟩:=(recL_mem y n w).1 hw
 exact h.ent i hi
theorem MP.back (h:MP m task tail ok n y) (hm:memI m) (l:List S82) (hs:∀w∈l,w∈recL y n):MP m task tail ok n (apW l y)∧(∀j:Int,8≤j→rd (apW l y) j=rd y j):=by
 have key:=apR m l y h.len (fun w hw=>h.recL_ok w (hs w hw))
 have hi:∀j:Int,8≤j→rd (apW l y) j=rd y j:=fun j hj=>(key j (by omega)).2 (fun ⟨w,hw,e⟩=>by
  have:=(h.recL_ok w (hs w hw)).1
  omega)
 have mv:∀k:Int,0≤k→k<8→ -1000000≤rd m k∧rd m k≤1000000:=(MP.start (task:=0) (tail:=0) (m:=m.set (8:Int).toNat (packC 0 0 0)) (memI_set hm (i:=8) (by omega) (.inl (by omega))) (by rw[rd_set _ _ _ (by omega),if_pos ⟨rfl,by rw[hm.1];decide⟩]) ok).vals|> fun q k h0 h1=>by
  have:=q k h0 h1
  rwa [rd_set _ _ _ h0,if_neg (by omega)] at this
 have n8:=h.n8
 refine⟨⟨by rw[apW_len];exact h.len,n8,by rw[hi 8 (by omega)];exact h.c,fun i hn=> ?_,fun k h0 h1=> ?_,fun k h0 h1=> ?_,fun j h0 h1=> ?_,fun j h0 h1=>by rw[hi j (by omega)];exact h.bx j h0 h1⟩,hi⟩
 ·rw[hi _ (by omega),hi _ (by omega)]
  exact h.ent i hn
 ·by_cases c:∃w∈l,w.f0=k
  ·exact .inl ((key k h0).1 c)
  ·rw[(key k h0).2 c]
   refine(h.vars k h0 h1).imp id (Or.imp ?_ id)
   rintro⟨i,hn,e⟩
   exact⟨i,hn,by rw[hi _ (by omega)];exact e⟩
 ·by_cases c:∃w∈l,w.f0=k
  ·rw[(key k h0).1 c];exact mv k h0 h1
  ·rw[(key k h0).2 c];exact h.vals k h0 h1
 ·rw[hi _ (by omega)]
  exact h.box j h0 h1
theorem MP.done (h:MP m task tail ok n y) (hm:memI m):MP m task tail ok 0 (apW (recW' y task tail n) y)∧∀k:Int,0≤k→k<8→rd (apW (recW' y task tail n) y) k=rd m k∨ok k:=by
 unfold recW'
 by_cases c:n=0
 ·subst c
  rw[if_pos rfl]
  refine⟨h,fun k h0 h1=> ?_⟩
  rcases h.vars k h0 h1 with q|⟨i,hi,_⟩|q
  ·exact .inl q
  ·exact absurd hi (by omega)
  ·exact .inr q
 ·rw[if_neg c,apW_append]
  obtain⟨b,hi⟩:=h.back hm (recL y n) (fun w hw=>hw)
  have l:=b.len
  have key:=apR m (recL y n) y h.len h.recL_ok
  rw[apW_one _ _ (by omega) (by omega)]
  have e:∀j:Int,0≤j→j≠8→rd ((apW (recL y n) y).set (8:Int).toNat (packC task 0 tail)) j=rd (apW (recL y n) y) j:=fun j j0 j1=>by rw[rd_set _ _ _ j0,if_neg (by omega)]
  have vs:∀k:Int,0≤k→k<8→rd ((apW (recL y n) y).set (8:Int).toNat (packC task 0 tail)) k=rd m k∨ok k:=fun k h0 h1=>by
   rw[e k h0 (by omega)]
   by_cases c:∃w∈recL y n,w.f0=k
   ·exact .inl ((key k h0).1 c)
   ·rw[(key k h0).2 c]
    rcases h.vars k h0 h1 with q|⟨i,hi,q⟩|q
    ·exact .inl q
    ·exact absurd ⟨_,(recL_mem y n _).2 ⟨i,hi,rfl⟩,q⟩ c
    ·exact .inr q
  refine⟨⟨by rw[List.length_set];exact l,by omega,by rw[rd_set _ _ _ (by omega),if_pos ⟨rfl,by rw[l];decide⟩];rfl,fun i hi=>absurd hi (by omega),fun k h0 h1=> ?_,fun k h0 h1=> ?_,fun j h0 h1=> ?_,fun j h0 h1=>by rw[e j (by omega) (by omega)];exact b.bx j h0 h1⟩,vs⟩
  ·exact(vs k h0 h1).imp id .inr
  ·rw[e k h0 (by omega)]
   exact b.vals k h0 h1
  ·rw[e _ (by omega) (by omega)]
   exact b.box j h0 h1
theorem MP.recovered (h:MP m task tail ok n y) (ht:0≤task∧task≤5) (htl:0≤tail∧tail≤24) (k:Nat) (hk:12<k):impl_Recovered.f k y=some (apW (recW' y task tail n) y):=by
 have n8:=h.n8
 have hl:(recW' y task tail n).length≤9:=by
  unfold recW'
  split
  ·simp
  ·rw[List.length_append,recL_len,List.length_singleton];omega
 unfold impl_Recovered.f
 rw[h.rec_at ht htl k hk]
 simp only[Option.bind_some]
 rw[apI_at _ (by omega) y (by rw[h.len];omega) (by omega) (by omega) k (by omega),Int.toNat_natCast,List.take_length]
 rfl
theorem all_rd {P:Int→Bool} (l:List Int) (a b:Nat) (hl:b≤l.length) (h:∀j:Int,(a:Int)≤j→j<(b:Int)→P (rd l j)=true):((l.take b).drop a).all P=true:=by
 rw[List.all_eq_true]
 intro x hx
 obtain⟨j,hj,rfl⟩:=List.getElem_of_mem hx
 rw[List.length_drop,List.length_take] at hj
 have:=h ((a:Int)+(j:Int)) (by omega) (by omega)
 have er:rd l ((a:Int)+(j:Int))=((l.take b).drop a)[j]:=by
  unfold rd
  rw[List.getElem_drop,List.getElem_take,List.getD_eq_getElem?_getD,List.getElem?_eq_getElem (by omega)]
  simp only[Option.getD_some]
  congr 1
 rw[←er]
 exact this
end
def costOk (l:List S84):Prop:=∀x∈l,1≤x.f0∧x.f0≤5
theorem costOk_add {l:List S84} (h:costOk l) {c a v:Int} (hc:1≤c∧c≤5):costOk (l++[⟨c,a,v⟩]):=by
 intro x hx
 rcases List.mem_append.1 hx with hx|hx
 ·exact h x hx
 ·rw[List.mem_singleton.1 hx]
  exact hc
theorem costC_in {x:S92} (hx:stOk x=true) (h6:x.f0≠6):1≤costC x∧costC x≤5:=by
 unfold costC
 rcases stOk_kind hx with o|o|o|o|o|o<;>simp[o]
 exact absurd o h6
theorem asgT_cost {task tail:Int} {must:List Int} {s:Tr} {k v:Int} (h:costOk s.st):costOk (asgT task tail must s k v).st:=by
 unfold asgT
 split
 ·exact costOk_add (costOk_add (costOk_add (costOk_add h (by omega)) (by omega)) (by omega)) (by omega)
 ·exact costOk_add h (by omega)
theorem stepT_cost {task tail:Int} {must rs:List Int} {at_:Int} {s:Tr} {x:S92} (hx:stOk x=true) (h6:x.f0≠6) (h:costOk s.st):costOk (stepT task tail must rs at_ s x).1.st:=by
 have hw:costOk (s.write (costC x) (-1) 0).st:=costOk_add h (costC_in hx h6)
 unfold stepT
 split
 ·exact asgT_cost hw
 split
 ·exact asgT_cost (s:={s.write (costC x) (-1) 0 with us:=s.us++[sensorOf rs x.f2 (at_+(s.us.length:Int))]}) hw
 split
 ·unfold Tr.sendB
  split
  ·exact costOk_add hw (by omega)
  ·exact hw
 split<;>exact hw
theorem traceS_cost {l:List S75} {task tail:Int} {s:Tr} (h:costOk s.st):costOk (traceS l task tail s):=costOk_add (costOk_add h (by omega)) (by omega)
def sumC:List S84→Int
 |[]=>0
 |x::t=>x.f0+sumC t
theorem sumC_in:∀(l:List S84),costOk l→(l.length:Int)≤sumC l∧sumC l≤5*(l.length:Int)
 |[],_=>by simp[sumC]
 |x::t,h=>by
  have:=sumC_in t (fun y hy=>h y (by simp[hy]))
  have:=h x (by simp)
  simp only[sumC,List.length_cons]
  omega
theorem costI_l6 (l:List S84) (hc:costOk l) (hl:(l.length:Int)≤1000000000000000) (d:Nat):∀(k:Nat) (s i:Int),0≤i→i+(d:Int)=(l.length:Int)→0≤s→s≤5*i→d<k→
  impl_TraceCost.l0 k s l (l.length:Int) i=some (s+sumC (l.drop i.toNat)):=by
 induction d with
 |zero=>
  intro k s i h0 hi hs hs2 hk
  obtain⟨k,rfl⟩:=succ_of hk
  rw[impl_TraceCost.l0,if_neg (by omega),List.drop_eq_nil_of_le (by omega),sumC]
  congr 1
  omega
 |succ d ih=>
  intro k s i h0 hi hs hs2 hk
  obtain⟨k,rfl⟩:=succ_of hk
  have e:=drop_getD z84 h0 (by omega:i<(l.length:Int))
  have hm:rd_T84 l i∈l:=by
   unfold rd_T84
   rw[List.getD_eq_getElem?_getD,List.getElem?_eq_getElem (by omega)]
   exact List.getElem_mem _
  have hx:=hc _ hm
  rw[impl_TraceCost.l0,if_pos (by omega),if_pos h0,if_pos (by omega),w64 (x:=i+1) (by omega) (by omega),e,w64 (x:=s+(rd_T84 l i).f0) (by omega) (by omega),ih k _ (i+1) (by omega) (by omega) (by omega) (by omega) (by omega)]
  change _=some (s+((rd_T84 l i).f0+sumC (l.drop (i+1).toNat)))
  congr 1
  omega
theorem costI_at6 (l:List S84) (u:List Int) (hc:costOk l) (hl:(l.length:Int)≤1000000000000000) (k:Nat) (hk:l.length<k):impl_TraceCost.f k l u=some (sumC l):=by
 unfold impl_TraceCost.f
 rw[costI_l6 l hc hl l.length k 0 0 (by omega) (by omega) (by omega) (by omega) hk]
 simp
theorem nextT_in {l:List S75} (hl:1≤l.length∧l.length≤6) (v:List Int) (i:Int):0≤nextT l v i∧nextT l v i<(l.length:Int):=by
 unfold nextT
 have hn:(0:Int)<(l.length:Int):=by omega
 have b2:=Int.tmod_lt_of_pos (evalE v (rd_T75 l i).f1.f0 (rd_T75 l i).f1.f1 (rd_T75 l i).f1.f2) hn
 have b3:=Int.lt_tmod_of_pos (evalE v (rd_T75 l i).f1.f0 (rd_T75 l i).f1.f1 (rd_T75 l i).f1.f2) hn
 exact tmod_in (by omega) hn
theorem traceV_at {l:List S75} (hp:progOk l=true) {m:List Int} (hm:memI m) {task tail:Int} (h8:rd m 8=packC task 0 tail) (ht:0≤task∧task<(l.length:Int)) (htl:0≤tail∧tail≤24) (rs:List Int) (at_:Int) (ha:0≤at_∧at_≤1000000):
  ∃(k0:Nat) (L:List S84) (u:List Int) (task2 tail2:Int),(∀k,k0≤k→impl_traceOf.f k l m rs at_=some (L,u))∧costOk L∧L≠[]∧(L.length:Int)≤1694577218890∧(∀x∈L,x.f1= -1∨(0≤x.f1∧x.f1<49))∧
   memI (apW (wS L) m)∧rd (apW (wS L) m) 8=packC task2 0 tail2∧(0≤task2∧task2<(l.length:Int))∧0≤tail2∧tail2≤24:=by
 have hpl:1≤l.length∧l.length≤6:=by
  have:=hp
  unfold progOk at this
  simp only[Bool.and_eq_true,decide_eq_true_eq] at this
  omega
 have hu:=unpackC (a:=task) (b:=0) (c:=tail) (by omega) (by omega) htl
 rw[←h8] at hu
 have hv:vok (m.take 8):=⟨by rw[List.length_take,hm.1];rfl,hm.2.1⟩
 have hvm:∀k:Int,0≤k→k<8→rd m k=rd (m.take 8) k:=fun k h0 h1=>by
  unfold rd
  rw[List.getD_eq_getElem?_getD,List.getD_eq_getElem?_getD,List.getElem?_take,if_pos (by omega)]
 obtain⟨k0,T,must,ok,hT,hss,h24,hml,em,hI,e⟩:=traceI_at hp hm.1 hu ht htl (m:=m) hv (rs:=rs) ha
 have hJ:=traceJ (may:=touch (writtenL (fun _=>true) T.flat 0)) (must:=must) htl rs at_ T ok hss h24 (fun x hx hw=>((touch_at _).2.1 _).2 (writtenL_in T.flat 0 x hx hw)) hv hm h8 hvm
 have hc:=traceS_cost (l:=l) (task:=task) (tail:=tail) (runT_inv (J:=fun s:Tr=>costOk s.st) (c:=stepT task tail must rs at_) T ok (fun x hx h6 s hs=>stepT_cost (hss x hx) h6 hs) (Tr.zero (m.take 8)) (by simp[Tr.zero,costOk]))
 change costOk (traceS l task tail (traceT task tail must rs at_ T (m.take 8))) at hc
 obtain⟨s,es⟩:∃s,s=traceT task tail must rs at_ T (m.take 8):=⟨_,rfl⟩
 rw[←es] at hI hJ e hc
 have hw:wS (traceS l task tail s)=wS s.st++[⟨8,packC (nextT l s.vs task) 0 (min 24 (tail+s.sn))⟩]:=by
  unfold traceS
  rw[wS_write _ _ _ _ (by omega),wS_work]
 have hY:=hJ.now
 have ly:=hY.len
 have hmY:memI (apW (wS s.st) m):=⟨ly,by
  have:=all_rd (P:=valP) (apW (wS s.st) m) 0 8 (by omega) (fun j h0 h1=>(valP_iff _).2 (hY.vals j (by omega) (by omega)))
  simpa using this,hY.bx⟩
 have e2:apW (wS (traceS l task tail s)) m=(apW (wS s.st) m).set (8:Int).toNat (packC (nextT l s.vs task) 0 (min 24 (tail+s.sn))):=by
  rw[hw,apW_append,apW_one _ _ (by omega) (by omega)]
 have hsn:=hI.2.2.2.2.1
 refine⟨k0,traceS l task tail s,s.us,nextT l s.vs task,min 24 (tail+s.sn),e,hc,by simp[traceS,Tr.write],?_,?_,?_,?_,nextT_in hpl _ _,by omega,by omega⟩
 ·have:=hI.2.1
  simp only[traceS,Tr.write,List.length_append,List.length_singleton]
  omega
 ·exact rng_add (rng_add hJ.rng (.inl rfl)) (.inr (by omega))
 ·rw[e2]
  exact memI_set hmY (by omega) (.inl (by omega))
 ·rw[e2,rd_set _ _ _ (by omega),if_pos ⟨rfl,by rw[ly];decide⟩]
theorem taskGo_ok:∀(L:List S84) (s:Bo),costOk L→(∀x∈L,x.f1= -1∨(0≤x.f1∧x.f1<49))→s.mem.length=49→sumC L≤s.lf→s.lf≤1000000000→0≤s.at_→s.at_+(L.length:Int)≤1000000000000000→
  ∃a,taskGo L s=some (true,⟨apW (wS L) s.mem,a,s.us,s.lf - sumC L⟩)∧s.at_≤a∧a≤s.at_+(L.length:Int)
 |[],s,_,_,_,_,_,_,_=>⟨s.at_,by simp[taskGo,wS,apW,sumC],by omega,by simp⟩
 |x::t,s,hc,hr,hl,h1,h2,h3,h4=>by
  have hc':costOk t:=fun y hy=>hc y (by simp[hy])
  have hx:=hc x (by simp)
  have hs:=sumC_in t hc'
  simp only[sumC,List.length_cons] at h1 h4
  rw[taskGo,if_neg (by omega),wS,sumC]
  have w1:wrap64 (s.lf - x.f0)=s.lf - x.f0:=w64 (by omega) (by omega)
  have w2:wrap64 (s.at_+1)=s.at_+1:=w64 (by omega) (by omega)
  rw[w1,w2]
  by_cases c:x.f1= -1
  ·rw[if_pos c,if_pos c]
   by_cases c5:x.f0=5
   ·rw[if_pos c5]
    obtain⟨a,e,a1,a2⟩:=taskGo_ok t {s with lf:=s.lf - x.f0,at_:=s.at_+1} hc' (fun y hy=>hr y (by simp[hy])) hl (by show sumC t≤s.lf - x.f0;omega) (by show s.lf - x.f0≤_;omega) (by show 0≤s.at_+1;omega) (by show s.at_+1+_≤_;omega)
    simp only at e a1 a2
    refine⟨a,?_,by omega,by simp only[List.length_cons];omega⟩
    rw[e,show s.lf - x.f0 - sumC t=s.lf - (x.f0+sumC t) by omega]
   ·rw[if_neg c5]
    obtain⟨a,e,a1,a2⟩:=taskGo_ok t {s with lf:=s.lf - x.f0,at_:=s.at_} hc' (fun y hy=>hr y (by simp[hy])) hl (by show sumC t≤s.lf - x.f0;omega) (by show s.lf - x.f0≤_;omega) h3 (by show s.at_+_≤_;omega)
    simp only at e a1 a2
    refine⟨a,?_,by omega,by simp only[List.length_cons];omega⟩
    rw[e,show s.lf - x.f0 - sumC t=s.lf - (x.f0+sumC t) by omega]
  ·have hx1:=(hr x (by simp)).resolve_left c
   rw[if_neg c,if_neg c,if_pos ⟨hx1.1,by rw[hl];exact hx1.2⟩]
   obtain⟨a,e,a1,a2⟩:=taskGo_ok t {s with lf:=s.lf - x.f0,mem:=s.mem.set x.f1.toNat x.f2} hc' (fun y hy=>hr y (by simp[hy])) (by simpa using hl) (by show sumC t≤s.lf - x.f0;omega) (by show s.lf - x.f0≤_;omega) h3 (by show s.at_+_≤_;omega)
   simp only at e a1 a2
   refine⟨a,?_,by omega,by simp only[List.length_cons];omega⟩
   rw[e,show s.lf - x.f0 - sumC t=s.lf - (x.f0+sumC t) by omega,apW,if_pos ⟨hx1.1,by show x.f1≤_;omega⟩]
theorem taskGo_no:∀(L:List S84) (s:Bo),costOk L→(∀x∈L,x.f1= -1∨(0≤x.f1∧x.f1<49))→s.mem.length=49→0≤s.lf→s.lf<sumC L→s.lf≤1000000000→0≤s.at_→s.at_+(L.length:Int)≤1000000000000000→
  ∃s2,taskGo L s=some (false,s2)∧s2.us=s.us∧0≤s2.lf∧s.at_≤s2.at_
 |[],s,_,_,_,h0,h1,_,_,_=>by simp only[sumC] at h1;omega
 |x::t,s,hc,hr,hl,h0,h1,h2,h3,h4=>by
  have hc':costOk t:=fun y hy=>hc y (by simp[hy])
  have hx:=hc x (by simp)
  simp only[sumC,List.length_cons] at h1 h4
  rw[taskGo]
  by_cases q:s.lf<x.f0
  ·rw[if_pos q]
   exact⟨s,rfl,rfl,h0,by omega⟩
  rw[if_neg q]
  have w1:wrap64 (s.lf - x.f0)=s.lf - x.f0:=w64 (by omega) (by omega)
  have w2:wrap64 (s.at_+1)=s.at_+1:=w64 (by omega) (by omega)
  rw[w1,w2]
  by_cases c:x.f1= -1
  ·rw[if_pos c]
   by_cases c5:x.f0=5
   ·rw[if_pos c5]
    obtain⟨s2,e,a1,a2,a3⟩:=taskGo_no t {s with lf:=s.lf - x.f0,at_:=s.at_+1} hc' (fun y hy=>hr y (by simp[hy])) hl (by show 0≤s.lf - x.f0;omega) (by show s.lf - x.f0<_;omega) (by show s.lf - x.f0≤_;omega) (by show 0≤s.at_+1;omega) (by show s.at_+1+_≤_;omega)
    exact⟨s2,e,a1,a2,by simp only at a3;omega⟩
   ·rw[if_neg c5]
    obtain⟨s2,e,a1,a2,a3⟩:=taskGo_no t {s with lf:=s.lf - x.f0,at_:=s.at_} hc' (fun y hy=>hr y (by simp[hy])) hl (by show 0≤s.lf - x.f0;omega) (by show s.lf - x.f0<_;omega) (by show s.lf - x.f0≤_;omega) h3 (by show s.at_+_≤_;omega)
    exact⟨s2,e,a1,a2,a3⟩
  ·have hx1:=(hr x (by simp)).resolve_left c
   rw[if_neg c,if_pos ⟨hx1.1,by rw[hl];exact hx1.2⟩]
   obtain⟨s2,e,a1,a2,a3⟩:=taskGo_no t {s with lf:=s.lf - x.f0,mem:=s.mem.set x.f1.toNat x.f2} hc' (fun y hy=>hr y (by simp[hy])) (by simpa using hl) (by show 0≤s.lf - x.f0;omega) (by show s.lf - x.f0<_;omega) (by show s.lf - x.f0≤_;omega) h3 (by show s.at_+_≤_;omega)
   exact⟨s2,e,a1,a2,a3⟩
theorem bootAt_at {l:List S75} (hp:progOk l=true) {m:List Int} (hm:memI m) (hmo:memOk l m=true) {rs:List Int} (hr:rs.all valP=true) {a:Int} (ha:0≤a∧a≤500000) (k:Nat) (hk:2097161<k):impl_isBootAt.f k l m rs a=some true:=by
 obtain⟨q1,q2⟩:=progOk_len hp
 unfold impl_isBootAt.f
 rw[memOkI_at l (fun y hy=>by have:=(q2 y hy).2;omega) m (by rw[hm.1];omega) k (by omega),hmo]
 simp only[Option.bind_some,if_true,areValI_eq,hr,within_eq]
 simp[ha]
theorem needs_at {l:List S75} (hp:progOk l=true) {m:List Int} (hm:memI m) {task tail:Int} (h8:rd m 8=packC task 0 tail) (ht:0≤task∧task<(l.length:Int)) (htl:0≤tail∧tail≤24) (hmo:memOk l m=true) {rs:List Int} (hr:rs.all valP=true) {a:Int} (ha:0≤a∧a≤500000)
  {k:Nat} {L:List S84} {u:List Int} (e:impl_traceOf.f k l m rs a=some (L,u)) (hc:costOk L) (hl:(L.length:Int)≤1694577218890) (k':Nat) (hk:2097161<k) (hk2:L.length<k∧k'=k∨L.length<k):impl_NeedsEnergy.f k l m rs a=some (sumC L):=by
 have hpl:=(progOk_len hp).1
 have h0:=MP.start hm h8 (fun _=>False)
 have hs:=sumC_in L hc
 have er:recW' m task tail 0=[]:=if_pos rfl
 unfold impl_NeedsEnergy.f
 rw[bootAt_at hp hm hmo hr ha k hk]
 simp only[Option.bind_some,if_true]
 rw[h0.rec_at (by omega) htl k (by omega),h0.recovered (by omega) htl k (by omega),er]
 simp only[Option.bind_some,apW,e]
 rw[costI_at6 L u hc (by omega) k (by omega)]
 simp only[Option.bind_some,List.length_nil]
 rw[w64 (x:=3*((0:Nat):Int)) (by simp) (by simp),w64 (by omega) (by omega)]
 simp
theorem once_at {l:List S75} (hp:progOk l=true) {m:List Int} (hm:memI m) {task tail:Int} (h8:rd m 8=packC task 0 tail) (ht:0≤task∧task<(l.length:Int)) (htl:0≤tail∧tail≤24) (hmo:memOk l m=true) {rs:List Int} (hr:rs.all valP=true) {a en:Int} (ha:0≤a∧a≤500000) (he:0≤en∧en≤100000) (k:Nat) (hk:2097161<k):
  impl_BootOnce.f k l m rs a en=(bootGo k l rs 12 ⟨m,a,[],en⟩).bind fun s=>some (s.mem,s.at_,s.us,s.lf,true):=by
 have hpl:=(progOk_len hp).1
 have h0:=MP.start hm h8 (fun _=>False)
 have hm49:=hm.1
 have er:recW' m task tail 0=[]:=if_pos rfl
 unfold impl_BootOnce.f
 rw[bootAt_at hp hm hmo hr ha k hk]
 simp only[Option.bind_some,if_true,within_eq]
 rw[if_pos (by simpa using he)]
 unfold impl_boot.f slices_Clone_int_int.f
 rw[if_pos (by omega)]
 simp only[Option.bind_some]
 rw[h0.rec_at (by omega) htl k (by omega),er]
 simp only[Option.bind_some,List.length_nil,recGo]
 rw[if_pos (by omega)]
 simp only[Option.bind_some,if_true]
 cases bootGo k l rs 12 ⟨m,a,[],en⟩<;>rfl
theorem boTask_of {K:Nat} {p:List S75} {r:List Int} {s:Bo} {L:List S84} {u:List Int} {res:Bool×Bo} (e:impl_traceOf.f K p s.mem r s.at_=some (L,u)) (hl:(L.length:Int)≤1694577218890) (g:taskGo L s=some res):
  boTask K p r s=if res.1=true then (if res.2.us.length<1000000 then some (true,{res.2 with us:=res.2.us++[u]}) else none) else some (false,res.2):=by
 unfold boTask
 rw[e]
 simp only[Option.bind_some]
 rw[if_pos (by omega),g]
 rfl
theorem bootGo_no {K:Nat} {p:List S75} {r:List Int} {n:Nat} {s s2:Bo} (hu:(s.us.length:Int)<10) (t:boTask K p r s=some (false,s2)):bootGo K p r (n+1) s=some s2:=by
 rw[bootGo,if_pos hu,t]
 rfl
theorem bootGo_yes {K:Nat} {p:List S75} {r:List Int} {n:Nat} {s s2:Bo} (hu:(s.us.length:Int)<10) (t:boTask K p r s=some (true,s2)):bootGo K p r (n+1) s=bootGo K p r n s2:=by
 rw[bootGo,if_pos hu,t]
 rfl
theorem big_eq (l:List Int):laws_big.f l=some (decide ((l.length:Int) > 1048576)):=rfl
theorem FnEnoughEnergy:laws_FnEnoughEnergy.Pure:=by
 intro b _ _ _
 obtain⟨p,m,task,tail,ed,hp,hp3,hm,ht,htl,h8,hmo⟩:=drawMem_at b (by omega) (b.length+200) (by omega)
 obtain⟨r,er,_,_,hr⟩:=drawReadings_at b (by omega) (b.length+200) (by omega) (by omega)
 obtain⟨x,ex,hx,hxr⟩:=places_at b (by omega) (b.length+200) (by omega) (by omega)
 have hra:r.all valP=true:=by
  rw[List.all_eq_true]
  intro y hy
  have:=hr y hy
  rw[valP_iff]
  omega
 obtain⟨q1,q2⟩:=progOk_len hp
 have hx0:=rd_all (P:=fun y=>0≤y∧y<10000) hxr (i:=0) (by omega) (by omega)
 have hn:=tmod_in (a:=rd x 0) (n:=40) hx0.1 (by omega)
 obtain⟨a,ea⟩:∃a,a=Int.tmod (rd x 0) 40:=⟨_,rfl⟩
 rw[←ea] at hn
 obtain⟨k0,L,u,t2,tl2,eL,hc,hne,hl,hrg,hm2,h82,ht2,htl2⟩:=traceV_at hp hm h8 ht (by omega) r a (by omega)
 have hs:=sumC_in L hc
 have hL1:1≤L.length:=by
  rcases L with _|⟨y,t⟩
  ·exact absurd rfl hne
  ·simp
 have h0:=MP.start hm h8 (fun _=>False)
 have hm49:=hm.1
 -- the boot with less
 by_cases hbig:sumC L > 100000
 ·obtain⟨K,hK⟩:∃K,k0+b.length+L.length+4000000≤K:=⟨_,Nat.le_refl _⟩
  refine⟨K+1,?_⟩
  unfold laws_FnEnoughEnergy.f
  rw[big_eq]
  simp only[Option.bind_some,decide_eq_true_eq]
  by_cases hbl:(b.length:Int) > 1048576
  ·rw[if_pos hbl]
  rw[if_neg hbl]
  simp only[laws_FnEnoughEnergy.j0]
  rw[le_of_mono (fun k=>spec_DrawMemory.mono b k) ed (k':=K) (by omega),le_of_mono (fun k=>spec_DrawReadings.mono b k) er (k':=K) (by omega),le_of_mono (fun k=>spec_DrawPlaces.mono b k) ex (k':=K) (by omega)]
  simp only[Option.bind_some]
  rw[if_pos (by omega),←ea,needs_at hp hm h8 ht (by omega) hmo hra (by omega) (eL K (by omega)) hc hl K (by omega) (by omega)]
  simp only[Option.bind_some]
  rw[if_pos hbig]
 obtain⟨a2,e2,a21,a22⟩:=taskGo_ok L ⟨m,a,[],sumC L⟩ hc hrg hm49 (by show sumC L≤sumC L;omega) (by show sumC L≤_;omega) hn.1 (by show a+_≤_;omega)
 simp only at e2 a21 a22
 obtain⟨k1,L2,u2,_,_,eL2,hc2,hne2,hl2,hrg2,_⟩:=traceV_at hp hm2 h82 ht2 htl2 r a2 (by omega)
 have hs2:=sumC_in L2 hc2
 have hL21:1≤L2.length:=by
  rcases L2 with _|⟨y,t⟩
  ·exact absurd rfl hne2
  ·simp
 obtain⟨s3,e3,e3u,e3l,e3a⟩:=taskGo_no L2 ⟨apW (wS L) m,a2,[u],sumC L - sumC L⟩ hc2 hrg2 hm2.1 (by show 0≤sumC L - sumC L;omega) (by show sumC L - sumC L<_;omega) (by show sumC L - sumC L≤_;omega) (by show 0≤a2;omega) (by show a2+_≤_;omega)
 simp only at e3u e3a
 obtain⟨s4,e4,e4u,_,_⟩:=taskGo_no L ⟨m,a,[],sumC L - 1⟩ hc hrg hm49 (by show 0≤sumC L - 1;omega) (by show sumC L - 1<_;omega) (by show sumC L - 1≤_;omega) hn.1 (by show a+_≤_;omega)
 simp only at e4u
 obtain⟨K,hK⟩:∃K,k0+k1+b.length+L.length+4000000≤K:=⟨_,Nat.le_refl _⟩
 refine⟨K+2,?_⟩
 unfold laws_FnEnoughEnergy.f
 rw[big_eq]
 simp only[Option.bind_some,decide_eq_true_eq]
 by_cases hbl:(b.length:Int) > 1048576
 ·rw[if_pos hbl]
 rw[if_neg hbl]
 simp only[laws_FnEnoughEnergy.j0]
 rw[le_of_mono (fun k=>spec_DrawMemory.mono b k) ed (k':=K+1) (by omega),le_of_mono (fun k=>spec_DrawReadings.mono b k) er (k':=K+1) (by omega),le_of_mono (fun k=>spec_DrawPlaces.mono b k) ex (k':=K+1) (by omega)]
 simp only[Option.bind_some]
 rw[if_pos (by omega),←ea,needs_at hp hm h8 ht (by omega) hmo hra (by omega) (eL (K+1) (by omega)) hc hl (K+1) (by omega) (by omega)]
 simp only[Option.bind_some]
 rw[if_neg hbig]
 simp only[laws_FnEnoughEnergy.j1]
 rw[w64 (x:=sumC L - 1) (by omega) (by omega)]
 have b1:impl_BootOnce.f K p m r a (sumC L)=some (s3.mem,s3.at_,s3.us,s3.lf,true):=by
  rw[once_at hp hm h8 ht (by omega) hmo hra (by omega) (by omega) K (by omega)]
  have t1:boTask K p r ⟨m,a,[],sumC L⟩=some (true,⟨apW (wS L) m,a2,[u],sumC L - sumC L⟩):=by
   rw[boTask_of (s:=⟨m,a,[],sumC L⟩) (eL K (by omega)) hl e2,if_pos rfl,if_pos (by show 0<1000000;omega)]
   rfl
  have t2:boTask K p r ⟨apW (wS L) m,a2,[u],sumC L - sumC L⟩=some (false,s3):=by
   rw[boTask_of (s:=⟨apW (wS L) m,a2,[u],sumC L - sumC L⟩) (eL2 K (by omega)) hl2 e3,if_neg (by simp)]
  rw[bootGo_yes (n:=11) (by show((0:Nat):Int)<10;omega) t1,bootGo_no (n:=10) (by show((1:Nat):Int)<10;omega) t2]
  rfl
 have b2:impl_BootOnce.f K p m r a (sumC L - 1)=some (s4.mem,s4.at_,s4.us,s4.lf,true):=by
  rw[once_at hp hm h8 ht (by omega) hmo hra (by omega) (by omega) K (by omega)]
  have t1:boTask K p r ⟨m,a,[],sumC L - 1⟩=some (false,s4):=by
   rw[boTask_of (s:=⟨m,a,[],sumC L - 1⟩) (eL K (by omega)) hl e4,if_neg (by simp)]
  rw[bootGo_no (n:=11) (by show((0:Nat):Int)<10;omega) t1]
  rfl
 rw[b1,b2,e3u,e4u]
 simp only[Option.bind_some,if_true,impl_BootTasks.f]
 rw[if_pos (by omega),if_pos (by simp),if_pos (by simp),if_pos e3l]
 simp only[Option.some.injEq,decide_eq_true_eq]
 omega
end Go.Proofs.YtdkbkkpbdmlmbaaGreat.Pure
