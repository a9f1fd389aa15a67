/- Functions of the program as plain Lean functions, and that each call comes to its function's answer; written by a program of the session. No condition. -/
import Derived.Test.YtdkbkkpbdmlmbaaGreatGx0
import Derived.Test.YtdkbkkpbdmlmbaaGreatGx3
import Derived.Test.YtdkbkkpbdmlmbaaGreatGx4
import Derived.Test.YtdkbkkpbdmlmbaaGreatGx5
import Derived.Test.YtdkbkkpbdmlmbaaGreatGx6
namespace Go.Proofs.YtdkbkkpbdmlmbaaGreat.G
open Go.RowKit Go.Proofs.YtdkbkkpbdmlmbaaGreatW.PrintWords Go.Proofs.YtdkbkkpbdmlmbaaGreatW.PrintLast Go.Proofs.YtdkbkkpbdmlmbaaGreatW.PrintMore
attribute [local go_sem] max2_int min2_int max_two min_two max_three min_three max_four min_four   -- for this text's walks alone
set_option linter.unusedVariables false
set_option linter.unusedSimpArgs false
theorem z7_0 {P:Prop} (h:P:=by repeat(first|exact(Yl HR0.out (by repeat(first|(with_reducible first|exact HB.out|apply Zh|apply Zf|apply Ze|refine Zd ?_ GE496.out)|exact HB.out)))|(with_reducible refine Yi ?_ _)|(with_reducible refine Yg ?_ _)|(with_reducible refine Yj ?_))):P:=h
theorem z7_1 {P:Prop} (h:P:=by repeat(first|exact(Yl HR0.out HB.out)|(with_reducible refine Yi ?_ _)|(with_reducible refine Yg ?_ _)|(with_reducible refine Yj ?_))):P:=h
theorem z7_2 {P:Prop} (h:P:=by repeat(first|(with_reducible first|exact HB.out|apply Zh|apply Zf|apply Ze)|exact HB.out)):P:=h
theorem z7_3 {P:Prop} (h:P:=by repeat(first|(with_reducible first|exact HB.out|apply Zh|apply Zf|apply Ze|refine Zd ?_ GE496.out)|exact HB.out)):P:=h
theorem z7_4 {P:Prop} (h:P:=by(try simp only[Ys,List.map_cons,List.map_nil]);first|done|rfl|(simp only[List.length_drop,List.length_take];rfl)):P:=h
theorem z7_5 {P:Prop} (h:P:=by repeat(first|exact(Yl HR0_0.out HB.out)|(with_reducible refine Yi ?_ _)|(with_reducible refine Yg ?_ _)|(with_reducible refine Yj ?_))):P:=h
theorem z7_6 {P:Prop} (h:P:=by kernel_rfl):P:=h
theorem z7_7 {P:Prop} (h:P:=by repeat(first|(with_reducible first|exact HB.out|apply Zh|apply Zf|apply Ze|refine Zd ?_ GE512.out)|exact HB.out)):P:=h
theorem z7_8 {P:Prop} (h:P:=by first|(go_simp;done)|(go_simp;rfl)):P:=h
theorem z7_9 {P:Prop} (h:P:=by exact HC0.out):P:=h
theorem z7_10 {P:Prop} (h:P:=by repeat(first|(with_reducible first|exact HB.out|apply Zh|apply Zf|apply Ze|refine Zd ?_ GE478.out)|exact HB.out)):P:=h
theorem z7_11 {P:Prop} (h:P:=by(with_reducible repeat(first|refine blk_drewN ?_ _|refine blk_drew ?_|refine blk_alloc ?_ _));exact BK512.out):P:=h
theorem z7_12 {P:Prop} (h:P:=by first|(with_reducible assumption)|assumption):P:=h
theorem z7_13 {P:Prop} (h:P:=by repeat(first|exact Zx _ _|apply Zf)):P:=h
theorem z7_14 {P:Prop} (h:P:=by(with_reducible repeat(first|refine blk_drewN ?_ _|refine blk_drew ?_|refine blk_alloc ?_ _));exact BK496.out):P:=h
theorem z7_15 {P:Prop} (h:P:=by(with_reducible repeat(first|refine blk_drewN ?_ _|refine blk_drew ?_|refine blk_alloc ?_ _));exact BK478.out):P:=h
theorem z7_16 {P:Prop} (h:P:=by rw[hg];exact(Yh z7_2)):P:=h
theorem slIndex_some (l:List Int) (hl:l.length≤1048576) (x:Int) (d:Nat):∀(k:Nat) (i:Int),0≤i→i+(d:Int)=(l.length:Int)→d<k→
  ∃r,slices_Index_int_int.l0 k l x (l.length:Int) i=some r∧decide (r≥0)=decide (x∈l.drop i.toNat):=by
 induction d with
 |zero=>
  intro k i h0 hi hk
  obtain⟨k,rfl⟩:∃m,k=m+1:=⟨k - 1,by omega⟩
  rw[slices_Index_int_int.l0,if_neg (by omega),List.drop_eq_nil_of_le (by omega)]
  exact⟨_,rfl,by simp⟩
 |succ d ih=>
  intro k i h0 hi hk
  obtain⟨k,rfl⟩:∃m,k=m+1:=⟨k - 1,by omega⟩
  rw[slices_Index_int_int.l0,if_pos (by omega),if_pos h0,if_pos (by omega),drop_int h0 (by omega)]
  by_cases e:x=rd l i
  ·rw[if_pos e]
   exact⟨_,rfl,by simp[e,h0]⟩
  ·rw[if_neg e,show wrap64 (i+1)=i+1 by unfold wrap64;omega]
   obtain⟨r,h1,h2⟩:=ih k (i+1) (by omega) (by omega) (by omega)
   exact⟨r,h1,by rw[h2];simp[e]⟩
theorem hasVar_some (l:List Int) (hl:l.length≤1048576) (x:Int):impl_HasVar.f (l.length+1) l x=some (decide (x∈l)):=by
 unfold impl_HasVar.f slices_Contains_int_int.f slices_Index_int_int.f
 obtain⟨r,h1,h2⟩:=slIndex_some l hl x l.length (l.length+1) 0 (by omega) (by omega) (by omega)
 rw[h1]
 simp only[Yc,h2]
 simp
set_option maxHeartbeats 2000000 in
set_option maxRecDepth 100000 in
theorem mustLog_clo (g3 g4:Nat) (v9 v12:Value) (fs ms:List Int) (x:Int) (w:World) (l1:fs.length≤1048576) (l2:ms.length≤1048576) (h3:w.heap[g3]? =some (.cells #[v9] 27 (0,0))) (h4:w.heap[g4]? =some (.cells #[v12] 27 (0,0))) (r9:Sep.rowI 3 w v9 fs) (r12:Sep.rowI 3 w v12 ms):
  Calls Tryz.prog 76 (#[.int .i64 x]++ #[.pointer (some ⟨g3,0,none⟩),.pointer (some ⟨g4,0,none⟩)]) w fun e w'=>e= .returned (.bool (!decide (x∈fs)&&decide (x∈ms)))∧Drawn0 w w':=by
 obtain⟨A9,c9,rfl,lc9,kc9⟩:=r9.open_
 obtain⟨A12,c12,rfl,lc12,kc12⟩:=r12.open_
 have hc3:=Sep.blk1 h3
 have hc4:=Sep.blk1 h4
 have K9:=Za kc9
 have K12:=Za kc12
 have C9:=Za lc9
 have C12:=Za lc12
 have e1:=hasVar_some fs l1 x
 have e2:=hasVar_some ms l2 x
 generalize decide (x∈fs)=b1 at e1 ⊢
 generalize decide (x∈ms)=b2 at e2 ⊢
 have T1:=Za e1
 have T2:=Za e2
 clear h3 h4 r9 r12 kc9 kc12 lc9 lc12 e1 e2 l1 l2
 cases b1
 ·go_enter Tryz.func76,Tryz.ntmps76
  go_wp2_with (first|(go_at_call 77;refine(impl_HasVar.calls _ _ _ fs x false _ K9.out C9.out T1.out).mono ?_;rintro e w' ⟨rfl,⟨nd,rfl⟩⟩)|(go_at_call 77;refine(impl_HasVar.calls _ _ _ ms x b2 _ ?sd C12.out T2.out).mono ?_;(case sd=>repeat(first|exact K12.out|apply Yg));rintro e w' ⟨rfl,⟨nd2,rfl⟩⟩)|fail)
  go_ret
  exact⟨by cases b2<;>rfl,by repeat(first|exact Zv _|apply Zw)⟩
 ·go_enter Tryz.func76,Tryz.ntmps76
  go_wp2_with (go_at_call 77;refine(impl_HasVar.calls _ _ _ fs x true _ K9.out C9.out T1.out).mono ?_;rintro e w' ⟨rfl,⟨nd,rfl⟩⟩)
  go_ret
  exact⟨rfl,by repeat(first|exact Zv _|apply Zw)⟩
def impl_MustLog.T3:Bool×List (List Nat×List Nat):=(true,[([],[]),([0],[0]),([],[]),([2],[2]),([3,1],[3]),([],[]),([],[]),([5,1,4,0,1,5,6],[1,5]),([6,4,7,0,1,2,3,4,5,6,7],[4,6])])
def impl_MustLog.B3:List Nat:=[0,1,0,4,15,0,0,127,255]
theorem impl_MustLog.tab3:rtab .any (opsOf Tryz.f49 3)=impl_MustLog.T3:=by kernel_rfl
theorem impl_MustLog.bits3:waitsOk impl_MustLog.T3.2 impl_MustLog.B3=true:=by kernel_rfl
def impl_MustLog.f (k:Nat) (l0:List S92) (a1 a2 a3:Int):Option (List Int):=(impl_taskOk.f k l0 a1 a2 a3).bind fun b=>if b=true then (impl_MayReadFirst.f k l0 a1 a2 a3).bind fun fs=>(impl_MustWrite.f k l0).bind fun ms=>(impl_MayWrite.f k l0).bind fun ws=>if fs.length≤1048576∧ms.length≤1048576 then some (ws.filter fun x=> !(!decide (x∈fs)&&decide (x∈ms))) else none else some []
theorem impl_MustLog.mono:∀a0 a1 a2 a3 k,LeO (impl_MustLog.f k a0 a1 a2 a3) (impl_MustLog.f (k+1) a0 a1 a2 a3):=by
 intro a0 a1 a2 a3 k
 unfold impl_MustLog.f
 exact Zt (impl_taskOk.mono _ _ _ _ k) (fun _=>Zu (Zt (impl_MayReadFirst.mono _ _ _ _ k) (fun _=>Zt (impl_MustWrite.mono _ k) (fun _=>Zt (impl_MayWrite.mono _ k) (fun _=>Yn _)))) (Yn _))
set_option maxHeartbeats 8000000 in
set_option maxRecDepth 100000 in
theorem impl_MustLog.calls (k:Nat) (A0:Option Addr) (c0:Nat) (l0:List S92) (a1 a2 a3:Int) (r:List Int) (w:World) (hr0:Kd.C k92 w A0 l0.length l0) (hc0:l0.length≤c0) (h:impl_MustLog.f k l0 a1 a2 a3=some r):
  Calls Tryz.prog 49 #[.agg #[.slice A0 l0.length c0,.int .i64 a1,.int .i64 a2,.int .i64 a3]] w fun e w'=>∃v0_:Value,e= .returned (v0_)∧Kd.R (Kd.int .i64) 3 w' w.heap.size (fun _=>True) v0_ r∧Below w.heap.size w w':=by
 unfold impl_MustLog.f at h
 obtain⟨b,hb,h⟩:=Zg h
 have HR0:=Za hr0
 have HC0:=Za hc0
 have TB:=Za hb
 clear hr0 hc0 hb
 cases b with
 |false=>
  rw[if_neg (by decide)] at h
  cases h
  go_enter Tryz.func49,Tryz.ntmps49
  go_wp2_with (first|((with_reducible refine Zp (N:=1) rfl ?_);refine Zr ?hg (N:=1) ?hd (cs:= #[.slice A0 l0.length c0,.int .i64 a1,.int .i64 a2,.int .i64 a3]) (t:=75) ?hr ?_;(case hd=>rfl);(case hg=>rfl);(case hr=>exact z7_8);intro g1 hg1 w1 hp hb;have B1:=Za hp;have HB1:=Za hb;clear hg1 hp hb;obtain⟨⟨_,_,_,_⟩,⟨_,_,_,_⟩⟩:=Sep.blk4 B1.out)|(go_at_call 71;(with_reducible refine(impl_taskOk.calls k _ _ l0 a1 a2 a3 false _ ?sd1 HC0.out TB.out).mono ?_);(case sd1=>exact Yl HR0.out HB1.out);rintro e w2 ⟨rfl,hb2⟩;have B2:=Za (Zi B1.out hb2);have HB2:=Za (Zj HB1.out hb2);clear hb2;obtain⟨⟨_,_,_,_⟩,⟨_,_,_,_⟩⟩:=Sep.blk4 B2.out)|fail)
  go_ret
  exact⟨_,rfl,Kd.R_nil _ _ _ _ _,HB2.out⟩
 |true=>
  rw[if_pos rfl] at h
  obtain⟨fs,hf,h⟩:=Zg h
  obtain⟨ms,hm,h⟩:=Zg h
  obtain⟨ws,hw,h⟩:=Zg h
  by_cases hl:fs.length≤1048576∧ms.length≤1048576
  ·rw[if_pos hl] at h
   cases h
   have TF:=Za hf
   have TM:=Za hm
   have TW:=Za hw
   have HL:=Za hl
   clear hf hm hw hl
   go_enter Tryz.func49,Tryz.ntmps49
   go_wp2_with (first|((with_reducible refine Zp (N:=1) rfl ?_);refine Zr ?hg (N:=1) ?hd (cs:= #[.slice A0 l0.length c0,.int .i64 a1,.int .i64 a2,.int .i64 a3]) (t:=75) ?hr ?_;(case hd=>rfl);(case hg=>rfl);(case hr=>exact z7_8);intro g1 hg1 w1 hp hb;have B1:=Za hp;have HB1:=Za hb;clear hg1 hp hb;obtain⟨⟨_,_,_,_⟩,⟨_,_,_,_⟩⟩:=Sep.blk4 B1.out)|(go_at_call 71;(with_reducible refine(impl_taskOk.calls k _ _ l0 a1 a2 a3 true _ ?sd1 HC0.out TB.out).mono ?_);(case sd1=>exact Yl HR0.out HB1.out);rintro e w2 ⟨rfl,hb2⟩;have B2:=Za (Zi B1.out hb2);have HB2:=Za (Zj HB1.out hb2);clear hb2;obtain⟨⟨_,_,_,_⟩,⟨_,_,_,_⟩⟩:=Sep.blk4 B2.out)|fail)
   have HR2:=Za (Yl HR0.out HB2.out)
   refine start_ (n:=9) (S:=fun w'=>True) (ds:=[]) #[false,false,false,false,false,false,false,false,false] z7_6 rfl rfl trivial (fun hHeld=> ?_)
   refine with_tabW impl_MustLog.tab3 impl_MustLog.bits3 (fun HT_ HW_=> ?_)
   refine pure_ (i:=2) (N:=some 10) (v:= ?_) (a':= ?_) #[false,false,true,false,false,false,false,false,false] rfl rfl z7_6 (fun _ _ _ h=>h) (Or.inl ⟨by rfl,?_⟩) ?_ ?_
   rotate_left
   ·intro w'
    go_simp
    with_reducible rfl
   rotate_left
   ·simp only[Act.put,Zy,Ya,Yb,i64_w,i32_w]
    rfl
   refine inv_at [0,1,3,4,5,6,7,8] (fun a0_ b a w'=>∃(v9:Value) (v12:Value) (g3:Nat) (g4:Nat) (m5_:Value) (m6_:Value),a=putSel a0_ b [(0,8,.agg #[.slice A0 l0.length c0,.int .i64 a1,.int .i64 a2,.int .i64 a3]),(1,9,v9),(3,11,.slice A0 l0.length c0),(4,12,v12),(5,3,m5_),(6,4,m6_)]∧(Below w2.heap.size w2 w')∧(b 1=true→Sep.rowI 3 w' v9 fs)∧(b 4=true→Sep.rowI 3 w' v12 ms)∧(b 5=true→w2.heap.size≤g3)∧(b 6=true→w2.heap.size≤g4)∧(b 5=true→g3<w'.heap.size)∧(b 6=true→g4<w'.heap.size)∧(b 5=true→b 6=true→g3≠g4)∧(b 5=true→b 7=false→w'.heap[g3]? =some (.cells #[.slice none 0 0] 27 (0,0)))∧(b 6=true→b 8=false→w'.heap[g4]? =some (.cells #[.slice none 0 0] 27 (0,0)))∧(b 7=true→w'.heap[g3]? =some (.cells #[v9] 27 (0,0)))∧(b 8=true→w'.heap[g4]? =some (.cells #[v12] 27 (0,0)))∧(b 5=true→(m5_:Value)= .pointer (some ⟨g3,0,none⟩))∧(b 6=true→(m6_:Value)= .pointer (some ⟨g4,0,none⟩))) HT_.out HW_.out z7_6 z7_6 ?_ ?_ ?_
   ·exact⟨.bool false,.bool false,0,0,.bool false,.bool false,by simp only[putSel,Bool.false_eq_true,if_false],(Zj (Zx _ _) (by repeat(first|exact Zx _ _|apply Ze))),fun h_=>absurd h_ (by decide),fun h_=>absurd h_ (by decide),fun h_=>absurd h_ (by decide),fun h_=>absurd h_ (by decide),fun h_=>absurd h_ (by decide),fun h_=>absurd h_ (by decide),fun h_=>absurd h_ (by decide),fun h_=>absurd h_ (by decide),fun h_=>absurd h_ (by decide),fun h_=>absurd h_ (by decide),fun h_=>absurd h_ (by decide),fun h_=>absurd h_ (by decide),fun h_=>absurd h_ (by decide)⟩
   ·skip
    refine steps_cons ?_ ?_
    ·rintro b a w' ⟨v9,v12,g3,g4,m5_,m6_,ha,Q_KB,Q_R9,Q_R12,Q_G3,Q_G4,Q_L3,Q_L4,Q_NE,Q_B3,Q_B4,Q_S3,Q_S4,Q_X5_,Q_X6_⟩ hb_ hon hoff
     refine⟨_,rfl,fun K hK=> ?_⟩
     have e1:a.tmps[1]? =some (.pointer (some ⟨g1,0,none⟩)):=by rw[ha];exact(putSel_off rfl).trans rfl
     replace ha:=Za ha
     have KB:=Za Q_KB
     have hB_:=Sep.blk4 (Zi B2.out KB.out)
     obtain⟨⟨_,_,_,_⟩,-⟩:=hB_
     refine value_ (w1:=w') (v:= .agg #[.slice A0 l0.length c0,.int .i64 a1,.int .i64 a2,.int .i64 a3]) (by rfl) rfl ?_ ?_
     ·go_simp
      (try simp only[i64_w])
      try rfl
     refine hK.out _ _ ⟨v9,v12,g3,g4,m5_,m6_,(by rw[ha.out];exact putSel_upk 0 hb_ rfl rfl rfl),Q_KB,fun h0_=>absurd ((hoff 1 z7_6).symm.trans h0_) (by decide),fun h0_=>absurd ((hoff 4 z7_6).symm.trans h0_) (by decide),Q_G3,Q_G4,Q_L3,Q_L4,Q_NE,Q_B3,Q_B4,fun h0_=>absurd ((hoff 7 z7_6).symm.trans h0_) (by decide),fun h0_=>absurd ((hoff 8 z7_6).symm.trans h0_) (by decide),Q_X5_,Q_X6_⟩
    refine steps_cons ?_ ?_
    ·rintro b a w' ⟨v9,v12,g3,g4,m5_,m6_,ha,Q_KB,Q_R9,Q_R12,Q_G3,Q_G4,Q_L3,Q_L4,Q_NE,Q_B3,Q_B4,Q_S3,Q_S4,Q_X5_,Q_X6_⟩ hb_ hon hoff
     refine⟨_,rfl,fun K hK=> ?_⟩
     have e8:a.tmps[8]? =some (.agg #[.slice A0 l0.length c0,.int .i64 a1,.int .i64 a2,.int .i64 a3]):=by rw[ha];exact putSel_on (e:=(0,8,.agg #[.slice A0 l0.length c0,.int .i64 a1,.int .i64 a2,.int .i64 a3])) 0 rfl rfl (hon 0 z7_6) rfl
     replace ha:=Za ha
     have KB:=Za Q_KB
     refine goes_ Tryz.func72 z7_6 rfl #[.agg #[.slice A0 l0.length c0,.int .i64 a1,.int .i64 a2,.int .i64 a3]] (by rfl) rfl rfl (by first|(simp only[Ys,List.map_cons,List.map_nil,Act.eval,Array.getD_eq_getD_getElem?,Option.getD_some,e8];done)|(simp only[Ys,List.map_cons,List.map_nil,Act.eval,Array.getD_eq_getD_getElem?,Option.getD_some,e8];rfl)) ?_
     refine(impl_MayReadFirst.calls k _ _ l0 a1 a2 a3 fs _ (Yl HR2.out KB.out) HC0.out TF.out).mono ?_
     rintro e w1_ ⟨v_,rfl,ho,hb⟩
     refine⟨_,rfl,?_⟩
     refine hK.out _ _ ⟨v_,v12,g3,g4,m5_,m6_,(by rw[ha.out];exact putSel_upk 1 hb_ rfl rfl rfl),Zj KB.out hb,fun _=>Sep.rowI.of_R ho,fun h0_=>absurd ((hoff 4 z7_6).symm.trans h0_) (by decide),Q_G3,Q_G4,fun h0_=>(Nat.lt_of_lt_of_le (Q_L3 h0_) hb.size),fun h0_=>(Nat.lt_of_lt_of_le (Q_L4 h0_) hb.size),Q_NE,fun h0_ h1_=>Zi (Q_B3 h0_ h1_) hb,fun h0_ h1_=>Zi (Q_B4 h0_ h1_) hb,fun h0_=>absurd ((hoff 7 z7_6).symm.trans h0_) (by decide),fun h0_=>absurd ((hoff 8 z7_6).symm.trans h0_) (by decide),Q_X5_,Q_X6_⟩
    refine steps_cons ?_ ?_
    ·rintro b a w' ⟨v9,v12,g3,g4,m5_,m6_,ha,Q_KB,Q_R9,Q_R12,Q_G3,Q_G4,Q_L3,Q_L4,Q_NE,Q_B3,Q_B4,Q_S3,Q_S4,Q_X5_,Q_X6_⟩ hb_ hon hoff
     refine⟨_,rfl,fun K hK=> ?_⟩
     have e10:a.tmps[10]? =some (.pointer (some ⟨g1,0,none⟩)):=by rw[ha];exact(putSel_off rfl).trans rfl
     replace ha:=Za ha
     have KB:=Za Q_KB
     have hB_:w'.cell? ⟨g1,0,none⟩=some (.slice A0 l0.length c0):=(Zb (Zi B2.out KB.out) 0).trans rfl
     refine value_ (w1:=w') (v:= .slice A0 l0.length c0) (by rfl) rfl ?_ ?_
     ·go_simp
      (try simp only[i64_w])
      try rfl
     refine hK.out _ _ ⟨v9,v12,g3,g4,m5_,m6_,(by rw[ha.out];exact putSel_upk 2 hb_ rfl rfl rfl),Q_KB,Q_R9,fun h0_=>absurd ((hoff 4 z7_6).symm.trans h0_) (by decide),Q_G3,Q_G4,Q_L3,Q_L4,Q_NE,Q_B3,Q_B4,fun h0_=>absurd ((hoff 7 z7_6).symm.trans h0_) (by decide),fun h0_=>absurd ((hoff 8 z7_6).symm.trans h0_) (by decide),Q_X5_,Q_X6_⟩
    refine steps_cons ?_ ?_
    ·rintro b a w' ⟨v9,v12,g3,g4,m5_,m6_,ha,Q_KB,Q_R9,Q_R12,Q_G3,Q_G4,Q_L3,Q_L4,Q_NE,Q_B3,Q_B4,Q_S3,Q_S4,Q_X5_,Q_X6_⟩ hb_ hon hoff
     refine⟨_,rfl,fun K hK=> ?_⟩
     have e11:a.tmps[11]? =some (.slice A0 l0.length c0):=by rw[ha];exact putSel_on (e:=(3,11,.slice A0 l0.length c0)) 2 rfl rfl (hon 3 z7_6) rfl
     replace ha:=Za ha
     have KB:=Za Q_KB
     have R9:=Za (Q_R9 (hon 1 z7_6))
     refine goes_ Tryz.func73 z7_6 rfl #[.slice A0 l0.length c0] (by rfl) rfl rfl (by first|(simp only[Ys,List.map_cons,List.map_nil,Act.eval,Array.getD_eq_getD_getElem?,Option.getD_some,e11];done)|(simp only[Ys,List.map_cons,List.map_nil,Act.eval,Array.getD_eq_getD_getElem?,Option.getD_some,e11];rfl)) ?_
     refine(impl_MustWrite.calls k _ _ l0 ms _ (Yl HR2.out KB.out) HC0.out TM.out).mono ?_
     rintro e w1_ ⟨v_,rfl,ho,hb⟩
     refine⟨_,rfl,?_⟩
     refine hK.out _ _ ⟨v9,v_,g3,g4,m5_,m6_,(by rw[ha.out];exact putSel_upk 3 hb_ rfl rfl rfl),Zj KB.out hb,fun _=>R9.out.below hb,fun _=>Sep.rowI.of_R ho,Q_G3,Q_G4,fun h0_=>(Nat.lt_of_lt_of_le (Q_L3 h0_) hb.size),fun h0_=>(Nat.lt_of_lt_of_le (Q_L4 h0_) hb.size),Q_NE,fun h0_ h1_=>Zi (Q_B3 h0_ h1_) hb,fun h0_ h1_=>Zi (Q_B4 h0_ h1_) hb,fun h0_=>absurd ((hoff 7 z7_6).symm.trans h0_) (by decide),fun h0_=>absurd ((hoff 8 z7_6).symm.trans h0_) (by decide),Q_X5_,Q_X6_⟩
    refine steps_cons ?_ ?_
    ·rintro b a w' ⟨v9,v12,g3,g4,m5_,m6_,ha,Q_KB,Q_R9,Q_R12,Q_G3,Q_G4,Q_L3,Q_L4,Q_NE,Q_B3,Q_B4,Q_S3,Q_S4,Q_X5_,Q_X6_⟩ hb_ hon hoff
     refine⟨_,rfl,fun K hK=> ?_⟩
     replace ha:=Za ha
     have KB:=Za Q_KB
     refine box_step (by rfl) (N:=3) rfl (cs:= #[.slice none 0 0]) (t:=27) ?_ ?_
     ·first|(go_simp;done)|(go_simp;rfl)
     intro g_ hg_ w1_ hblk hb
     have z_L4:=fun (h_:up b 5 6=true)=>(show g4<w'.heap.size from Q_L4 h_)
     have hgs_:g_=w'.heap.size:=hg_
     refine hK.out _ _ ⟨v9,v12,g_,g4,(.pointer (some ⟨g_,0,none⟩)),m6_,(by rw[ha.out];exact putSel_upk 4 hb_ rfl rfl rfl),Zj KB.out hb,fun h0_=>(Q_R9 h0_).below hb,fun h0_=>(Q_R12 h0_).below hb,fun _=>(hg_ ▸ KB.out.size),Q_G4,fun _=>(blk_lt hblk),fun h0_=>(Nat.lt_of_lt_of_le (Q_L4 h0_) hb.size),fun _ _=>(fun e_=>by have:=z_L4 (by assumption);omega),fun _ _=>hblk,fun h0_ h1_=>Zi (Q_B4 h0_ h1_) hb,fun h0_=>absurd ((hoff 7 z7_6).symm.trans h0_) (by decide),fun h0_=>absurd ((hoff 8 z7_6).symm.trans h0_) (by decide),fun _=>rfl,Q_X6_⟩
    refine steps_cons ?_ ?_
    ·rintro b a w' ⟨v9,v12,g3,g4,m5_,m6_,ha,Q_KB,Q_R9,Q_R12,Q_G3,Q_G4,Q_L3,Q_L4,Q_NE,Q_B3,Q_B4,Q_S3,Q_S4,Q_X5_,Q_X6_⟩ hb_ hon hoff
     refine⟨_,rfl,fun K hK=> ?_⟩
     replace ha:=Za ha
     have KB:=Za Q_KB
     refine box_step (by rfl) (N:=4) rfl (cs:= #[.slice none 0 0]) (t:=27) ?_ ?_
     ·first|(go_simp;done)|(go_simp;rfl)
     intro g_ hg_ w1_ hblk hb
     have z_L3:=fun (h_:up b 6 5=true)=>(show g3<w'.heap.size from Q_L3 h_)
     have hgs_:g_=w'.heap.size:=hg_
     refine hK.out _ _ ⟨v9,v12,g3,g_,m5_,(.pointer (some ⟨g_,0,none⟩)),(by rw[ha.out];exact putSel_upk 5 hb_ rfl rfl rfl),Zj KB.out hb,fun h0_=>(Q_R9 h0_).below hb,fun h0_=>(Q_R12 h0_).below hb,Q_G3,fun _=>(hg_ ▸ KB.out.size),fun h0_=>(Nat.lt_of_lt_of_le (Q_L3 h0_) hb.size),fun _=>(blk_lt hblk),fun _ _=>(fun e_=>by have:=z_L3 (by assumption);omega),fun h0_ h1_=>Zi (Q_B3 h0_ h1_) hb,fun _ _=>hblk,fun h0_=>absurd ((hoff 7 z7_6).symm.trans h0_) (by decide),fun h0_=>absurd ((hoff 8 z7_6).symm.trans h0_) (by decide),Q_X5_,fun _=>rfl⟩
    refine steps_cons ?_ ?_
    ·rintro b a w' ⟨v9,v12,g3,g4,m5_,m6_,ha,Q_KB,Q_R9,Q_R12,Q_G3,Q_G4,Q_L3,Q_L4,Q_NE,Q_B3,Q_B4,Q_S3,Q_S4,Q_X5_,Q_X6_⟩ hb_ hon hoff
     refine⟨_,rfl,fun K hK=> ?_⟩
     have e3:a.tmps[3]? =some (m5_):=by rw[ha];exact putSel_on (e:=(5,3,m5_)) 4 rfl rfl (hon 5 z7_6) rfl
     rw[Q_X5_ (hon 5 z7_6)] at e3
     have e9:a.tmps[9]? =some (v9):=by rw[ha];exact putSel_on (e:=(1,9,v9)) 1 rfl rfl (hon 1 z7_6) rfl
     replace ha:=Za ha
     have KB:=Za Q_KB
     have R9:=Za (Q_R9 (hon 1 z7_6))
     have R12:=Za (Q_R12 (hon 4 z7_6))
     have G3:=Za (Q_G3 (hon 5 z7_6))
     have G4:=Za (Q_G4 (hon 6 z7_6))
     have L3:=Za (Q_L3 (hon 5 z7_6))
     have L4:=Za (Q_L4 (hon 6 z7_6))
     have NE:=Za (Q_NE (hon 5 z7_6) (hon 6 z7_6))
     have B3:=Za (Q_B3 (hon 5 z7_6) hb_)
     have B4:=Za (Q_B4 (hon 6 z7_6) (hoff 8 z7_6))
     obtain⟨Aq_,cq_,Eq_,lq_,kq_⟩:=R9.out.open_
     rw[Eq_] at e9
     have hcb_:=Sep.blk1 B3.out
     have hfb_:=Zc B3.out 0
     refine skip_ (w1:=w'.setCell ⟨g3,0,none⟩ (.slice Aq_ fs.length cq_)) (by rfl) rfl ?_ ?_
     ·first|(go_simp;done)|(go_simp;rfl)
     refine hK.out _ _ ⟨v9,v12,g3,g4,m5_,m6_,(by rw[ha.out];exact putSel_none (v:=undef) rfl),Zd KB.out G3.out,fun _=>R9.out.keep (fun q_ hq_=>Below.heap_setCell _ _ _ q_ (R9.out.ne B3.out (by decide) q_ hq_)),fun _=>R12.out.keep (fun q_ hq_=>Below.heap_setCell _ _ _ q_ (R12.out.ne B3.out (by decide) q_ hq_)),Q_G3,Q_G4,fun _=>(by have:=L3.out;simpa [World.setCell] using this),fun _=>(by have:=L4.out;simpa [World.setCell] using this),Q_NE,fun _ h1_=>absurd ((up_self b 7).symm.trans h1_) (by decide),fun _ _=>(Below.heap_setCell w' ⟨g3,0,none⟩ _ g4 (fun e_=>NE.out e_.symm)).trans B4.out,fun _=>(by rw[Eq_];exact blk_put B3.out 0 _ rfl),fun h0_=>absurd ((hoff 8 z7_6).symm.trans h0_) (by decide),Q_X5_,Q_X6_⟩
    refine steps_cons ?_ ?_
    ·rintro b a w' ⟨v9,v12,g3,g4,m5_,m6_,ha,Q_KB,Q_R9,Q_R12,Q_G3,Q_G4,Q_L3,Q_L4,Q_NE,Q_B3,Q_B4,Q_S3,Q_S4,Q_X5_,Q_X6_⟩ hb_ hon hoff
     refine⟨_,rfl,fun K hK=> ?_⟩
     have e4:a.tmps[4]? =some (m6_):=by rw[ha];exact putSel_on (e:=(6,4,m6_)) 5 rfl rfl (hon 6 z7_6) rfl
     rw[Q_X6_ (hon 6 z7_6)] at e4
     have e12:a.tmps[12]? =some (v12):=by rw[ha];exact putSel_on (e:=(4,12,v12)) 3 rfl rfl (hon 4 z7_6) rfl
     replace ha:=Za ha
     have KB:=Za Q_KB
     have R9:=Za (Q_R9 (hon 1 z7_6))
     have R12:=Za (Q_R12 (hon 4 z7_6))
     have G3:=Za (Q_G3 (hon 5 z7_6))
     have G4:=Za (Q_G4 (hon 6 z7_6))
     have L3:=Za (Q_L3 (hon 5 z7_6))
     have L4:=Za (Q_L4 (hon 6 z7_6))
     have NE:=Za (Q_NE (hon 5 z7_6) (hon 6 z7_6))
     have B4:=Za (Q_B4 (hon 6 z7_6) hb_)
     have S3:=Za (Q_S3 (hon 7 z7_6))
     obtain⟨Aq_,cq_,Eq_,lq_,kq_⟩:=R12.out.open_
     rw[Eq_] at e12
     have hcb_:=Sep.blk1 B4.out
     have hfb_:=Zc B4.out 0
     refine skip_ (w1:=w'.setCell ⟨g4,0,none⟩ (.slice Aq_ ms.length cq_)) (by rfl) rfl ?_ ?_
     ·first|(go_simp;done)|(go_simp;rfl)
     refine hK.out _ _ ⟨v9,v12,g3,g4,m5_,m6_,(by rw[ha.out];exact putSel_none (v:=undef) rfl),Zd KB.out G4.out,fun _=>R9.out.keep (fun q_ hq_=>Below.heap_setCell _ _ _ q_ (R9.out.ne B4.out (by decide) q_ hq_)),fun _=>R12.out.keep (fun q_ hq_=>Below.heap_setCell _ _ _ q_ (R12.out.ne B4.out (by decide) q_ hq_)),Q_G3,Q_G4,fun _=>(by have:=L3.out;simpa [World.setCell] using this),fun _=>(by have:=L4.out;simpa [World.setCell] using this),Q_NE,fun _ h1_=>absurd ((hon 7 z7_6).symm.trans h1_) (by decide),fun _ h1_=>absurd ((up_self b 8).symm.trans h1_) (by decide),fun _=>(Below.heap_setCell w' ⟨g4,0,none⟩ _ g3 NE.out).trans S3.out,fun _=>(by rw[Eq_];exact blk_put B4.out 0 _ rfl),Q_X5_,Q_X6_⟩
    exact steps_nil
   rintro b a w6 hall ⟨v9,v12,g3,g4,m5_,m6_,ha,Q_KB,Q_R9,Q_R12,Q_G3,Q_G4,Q_L3,Q_L4,Q_NE,Q_B3,Q_B4,Q_S3,Q_S4,Q_X5_,Q_X6_⟩
   have hb0_:=hall 0 z7_6
   have hb1_:=hall 1 z7_6
   have hb3_:=hall 3 z7_6
   have hb4_:=hall 4 z7_6
   have hb5_:=hall 5 z7_6
   have hb6_:=hall 6 z7_6
   have hb7_:=hall 7 z7_6
   have hb8_:=hall 8 z7_6
   subst ha
   obtain rfl:=Q_X5_ hb5_
   obtain rfl:=Q_X6_ hb6_
   simp only[putSel,hb0_,hb1_,hb3_,hb4_,hb5_,hb6_,hb7_,hb8_,if_true,Act.put,Zy,Ya,Yb]
   have KB:=Za Q_KB
   clear Q_KB
   have R9:=Za (Q_R9 hb1_)
   clear Q_R9
   have R12:=Za (Q_R12 hb4_)
   clear Q_R12
   have G3:=Za (Q_G3 hb5_)
   clear Q_G3
   have G4:=Za (Q_G4 hb6_)
   clear Q_G4
   have L3:=Za (Q_L3 hb5_)
   clear Q_L3
   have L4:=Za (Q_L4 hb6_)
   clear Q_L4
   have NE:=Za (Q_NE hb5_ hb6_)
   clear Q_NE
   clear Q_B3
   clear Q_B4
   have S3:=Za (Q_S3 hb7_)
   clear Q_S3
   have S4:=Za (Q_S4 hb8_)
   clear Q_S4
   clear hall hb0_ hb1_ hb3_ hb4_ hb5_ hb6_ hb7_ hb8_
   have HB6:=Za (Zj HB2.out KB.out)
   have HR6:=Za (Yl HR2.out KB.out)
   have B6:=Za (Zi B2.out KB.out)
   obtain⟨⟨_,_,_,_⟩,⟨_,_,_,_⟩⟩:=Sep.blk4 B6.out
   clear HT_ HW_ KB
   go_wp2_with (first|(go_at_call 75;(with_reducible refine(impl_MayWrite.calls k _ _ l0 ws _ (Yl HR6.out z7_13) HC0.out TW.out).mono ?_);rintro e w7 ⟨v7,rfl,ho,hb⟩;have R7:=Za (Sep.rowI.of_R ho);have V7:Aside0 (∀q,v7.ownBlock=some q→w6.heap.size≤q):=⟨fun q hq=>Yo ho q hq⟩;have SA7:=Za (Zi S3.out hb);have SB7:=Za (Zi S4.out hb);have R97:=Za (R9.out.below hb);have R127:=Za (R12.out.below hb);have HB7:=Za (Zj HB6.out hb);clear ho hb)|(go_at_call 74;(with_reducible refine(delete_calls (fun x=> !decide (x∈fs)&&decide (x∈ms)) 76 #[.pointer (some ⟨g3,0,none⟩),.pointer (some ⟨g4,0,none⟩)] (fun args w=>enters_ Tryz.func76 z7_6 z7_6 args w) v7 ws _ R7.out ?sdq).mono ?_);(case sdq=>exact fun x w' hk=>mustLog_clo g3 g4 v9 v12 fs ms x w' HL.out.1 HL.out.2 ((hk g3 (blk_lt SA7.out) (fun e=>by have:=V7.out g3 e;have:=blk_lt S3.out;omega)).trans SA7.out) ((hk g4 (blk_lt SB7.out) (fun e=>by have:=V7.out g4 e;have:=blk_lt S4.out;omega)).trans SB7.out) (R97.out.keep (fun q hq=>hk q (R97.out.lt q hq) (fun e=>by have:=V7.out q e;have:=R9.out.lt q hq;omega))) (R127.out.keep (fun q hq=>hk q (R127.out.lt q hq) (fun e=>by have:=V7.out q e;have:=R12.out.lt q hq;omega))));rintro e w8 ⟨v8,rfl,hr8,he8,hg8⟩;have R8:=Za hr8;have E8:=Za he8;have V8:Aside0 (∀q,v7.ownBlock=some q→w.heap.size≤q):=⟨fun q hq=>Nat.le_trans HB6.out.size (V7.out q hq)⟩;have HB8:=Za (below_grown HB7.out hg8 V8.out);clear hr8 he8 hg8)|fail)
   go_ret
   exact⟨_,rfl,R8.out.to_R (fun q hq=>V8.out q (E8.out ▸ hq)) (fun _ _=>trivial),HB8.out⟩
  ·rw[if_neg hl] at h
   cases h
def impl_bit.f (a0:Bool):Option (Int):=if a0=true then (some 1) else (some 0)
set_option maxHeartbeats 8000000 in
set_option maxRecDepth 100000 in
theorem impl_bit.calls (a0:Bool) (r:Int) (w:World) (h:impl_bit.f a0=some r):
  Calls Tryz.prog 36 #[.bool a0] w fun e w'=>e= .returned (.int .i64 r)∧Drawn0 w w':=by
 have H:(if a0=true then (some 1) else (some 0))=some r:=h
 clear h
 by_cases c2:a0=true
 ·subst c2
  rw[if_pos rfl] at H
  obtain rfl:=Zk H
  go_enter Tryz.func36,Tryz.ntmps36
  go_wp2
  go_ret
  exact⟨by first|rfl|(simp;done)|(simp[*];done),by repeat(first|exact Zv _|apply Zw)⟩
 ·replace c2:=Bool.eq_false_iff.mpr c2
  subst c2
  rw[if_neg (show ¬(false=true) by decide)] at H
  obtain rfl:=Zk H
  go_enter Tryz.func36,Tryz.ntmps36
  go_wp2
  go_ret
  exact⟨by first|rfl|(simp;done)|(simp[*];done),by repeat(first|exact Zv _|apply Zw)⟩
theorem heapStmt:Kd.Heap k92:=Kd.heap_iso _ (Kd.heap_pair (Kd.heap_int .i64) (Kd.heap_pair (Kd.heap_int .i64) (Kd.heap_pair (Kd.heap_int .i64) (Kd.heap_iso _ (Kd.heap_pair (Kd.heap_int .i64) (Kd.heap_pair (Kd.heap_int .i64) (Kd.heap_int .i64)))))))
def walkRep {σ:Type} (f:σ→Option σ):Nat→σ→Option σ
 |0,s=>some s
 |n+1,s=>(f s).bind (walkRep f n)
mutual
def impl_walk.f {σ:Type} (step:σ→S92→Option (σ×Bool)):Nat→List S92→σ→Option σ
 |0,_,_=>none
 |k+1,l,s=>impl_walk.l0 step k l 0 s
def impl_walk.l0 {σ:Type} (step:σ→S92→Option (σ×Bool)):Nat→List S92→Int→σ→Option σ
 |0,_,_,_=>none
 |k+1,l,i,s=>if i<(l.length:Int) then (if 0≤i then (if (rd_T92 l i).f0=6 then impl_walk.l0 step k l (wrap64 (i+1)) s else
   (step s (rd_T92 l i)).bind fun sb=>(impl_isOpening.f (rd_T92 l i).f0).bind fun o=>if o=true then
    ((impl_endOf.f k l i).bind fun e=>(if (rd_T92 l i).f0=4 then impl_bit.f sb.2 else some (rd_T92 l i).f2).bind fun n=>
     if 0≤wrap64 (i+1)∧wrap64 (i+1)≤e∧e≤(l.length:Int)∧n≤9223372036854775807 then
      ((walkRep (fun s'=>impl_walk.f step k ((l.take e.toNat).drop (wrap64 (i+1)).toNat) s') n.toNat sb.1).bind fun s'=>impl_walk.l0 step k l (wrap64 (e+1)) s') else none)
    else impl_walk.l0 step k l (wrap64 (i+1)) sb.1) else none) else some s
end
set_option maxHeartbeats 8000000 in
set_option maxRecDepth 100000 in
theorem impl_walk.calls {σ:Type} {B:Nat} (step:σ→S92→Option (σ×Bool)) (I:σ→Sep.Asn) (g:Nat) (cb:Array Value) (eg:∀args w,(callFunc g args).run Tryz.prog w= .ok (.enter g args) w)
  (hL:∀s,Sep.Loc B (I s))
  (hstep:∀s x s' b F w,B≤w.heap.size→step s x=some (s',b)→I s F w→Calls Tryz.prog g (#[.agg #[.int .i64 x.f0,.int .i64 x.f1,.int .i64 x.f2,.int .i64 x.f3.f0,.int .i64 x.f3.f1,.int .i64 x.f3.f2]]++cb) w fun e w'=>e= .returned (.bool b)∧∃F',I s' F' w'∧Sep.After F w F' w')
  (k:Nat):∀(A0:Option Addr) (c0:Nat) (l0:List S92) (s r:σ) (F:Nat→Prop) (w:World) (hr:∀w',Kept w w' F→Kd.C k92 w' A0 l0.length l0) (hc0:l0.length≤c0) (hB:B≤w.heap.size) (hs:I s F w) (h:impl_walk.f step k l0 s=some r),
  Calls Tryz.prog 50 #[.slice A0 l0.length c0,.func (.func g) #[] cb] w fun e w'=>e= .returned (.tuple #[])∧∃F',I r F' w'∧Sep.After F w F' w':=by
 have HL:=Za hL
 have HST:=Za hstep
 clear hL hstep
 induction k using Nat.strongRecOn with
 |_ k ih=>
 have IH:=Za ih
 clear ih
 intro A0 c0 l0 s r F w hr hc0 hB hs h
 cases k with
 |zero=>exact absurd h (by simp[impl_walk.f])
 |succ k=>
 simp only[impl_walk.f] at h
 have hu77:=Tryz.underlying92
 have HR:=Za hr
 have HC0:=Za hc0
 have HBW:=Za hB
 have HS:=Za hs
 have H':=Za h
 clear hr hc0 hB hs h
 go_enter Tryz.func50,Tryz.ntmps50
 go_wp2
 go_loopg [4] k (fun kq v4 w'=>∃(i:Int) (s':σ) (F':Nat→Prop),v4= .int .i64 i∧Aside0 (impl_walk.l0 step kq l0 i s'=some r)∧Aside0 (kq≤k)∧Aside0 (I s' F' w')∧Aside0 (Sep.After F w F' w'))
 case atStart=>exact⟨0,s,F,by first|rfl|(simp;done),H',⟨Nat.le_refl _⟩,HS,⟨Sep.After.refl _ _⟩⟩
 case round=>
  clear H' HS
  obtain⟨i,s',F',rfl,HA,HK1,HI,HAF⟩:=hrel
  cases gk with
  |zero=>exact absurd HA.out (by simp[impl_walk.l0])
  |succ k1=>
   have H:=HA.out
   clear HA
   simp only[impl_walk.l0] at H
   by_cases c1:i<(l0.length:Int)
   ·rw[if_pos c1] at H
    have c1b:decide (i<(l0.length:Int))=true:=Zq c1
    by_cases c2:0≤i
    ·rw[if_pos c2] at H
     obtain⟨ad,e,hx0,hx1,hx2,hx3,hx4,hx5⟩:=at_T92 (HR.out _ HAF.out.kept) i c2 c1
     cases e
     have p1:=eq_true c2
     have q1:=eq_true c1
     obtain⟨x,hx⟩:∃x,rd_T92 l0 i=x:=⟨_,rfl⟩
     rw[hx] at H hx0 hx1 hx2 hx3 hx4 hx5
     obtain⟨x0,x1,x2,x3,x4,x5⟩:=x
     simp only at H hx0 hx1 hx2 hx3 hx4 hx5
     by_cases c6:x0=6
     ·rw[if_pos c6] at H
      subst c6
      have H':=Za H
      clear H c1 c2 hx
      go_wp2_with (first|((with_reducible refine Zp (N:=5) rfl ?_);refine Zr ?hg (N:=5) ?hd (cs:= #[.int .i64 0,.int .i64 0,.int .i64 0,.int .i64 0,.int .i64 0,.int .i64 0]) (t:=92) ?hr ?_;(case hd=>rfl);(case hg=>rfl);(case hr=>exact z7_8);intro gb hg w2 hbox hb;have HB:=Za hb;have BK:=Za hbox;have GE:Aside0 (wr.heap.size≤gb):=⟨Nat.le_of_eq hg.symm⟩;obtain⟨⟨_,_,_,_,_,_⟩,⟨_,_,_,_,_,_⟩⟩:=Sep.blk6 hbox;clear hb hbox hg)|((with_reducible refine Ye (t:=92) (p:=5) rfl ?_);refine Yd (t:=92) (p:=5) (v:= ?vo_) (w1:=Sep.put6 w2 gb (.int .i64 6) (.int .i64 x1) (.int .i64 x2) (.int .i64 x3) (.int .i64 x4) (.int .i64 x5)) ?hg ?ho ?hn ?hr ?_;(case ho=>rfl);(case hg=>rfl);(case hn=>rfl);(case hr=>exact z7_8);intro w3 hw;have BK3:=Za (hw ▸ Sep.put6_blk BK.out (.int .i64 6) (.int .i64 x1) (.int .i64 x2) (.int .i64 x3) (.int .i64 x4) (.int .i64 x5));have HB3:=Za (hw ▸ Sep.put6_below HB.out GE.out (.int .i64 6) (.int .i64 x1) (.int .i64 x2) (.int .i64 x3) (.int .i64 x4) (.int .i64 x5));clear hw BK HB;obtain⟨⟨_,_,_,_,_,_⟩,⟨_,_,_,_,_,_⟩⟩:=Sep.blk6 BK3.out))
      go_roundg k1
      case measure=>have:=HK1.out;omega
      case rel=>exact⟨wrap64 (i+1),s',F',by first|rfl|(simp;done)|(simp[*];done),H',⟨by have:=HK1.out;omega⟩,⟨(HL.out s').below (Nat.le_trans HBW.out HAF.out.size) HI.out HB3.out⟩,⟨HAF.out.below HB3.out⟩⟩
     ·rw[if_neg c6] at H
      have c6b:(x0==6)=false:=beq_eq_false_iff_ne.mpr c6
      obtain⟨sb,A1,H1⟩:=Zg H
      obtain⟨s2,b⟩:=sb
      obtain⟨o,A2,H2⟩:=Zg H1
      have HA1:=Za A1
      have HA2:=Za A2
      have H3:=Za H2
      have HX:=Za hx
      clear hx c1 c2 c6 A1 A2 H H1 H2
      go_wp2_with (first|((with_reducible refine Zp (N:=5) rfl ?_);refine Zr ?hg (N:=5) ?hd (cs:= #[.int .i64 0,.int .i64 0,.int .i64 0,.int .i64 0,.int .i64 0,.int .i64 0]) (t:=92) ?hr ?_;(case hd=>rfl);(case hg=>rfl);(case hr=>exact z7_8);intro gb hg w2 hbox hb;have HB:=Za hb;have BK:=Za hbox;have GE:Aside0 (wr.heap.size≤gb):=⟨Nat.le_of_eq hg.symm⟩;obtain⟨⟨_,_,_,_,_,_⟩,⟨_,_,_,_,_,_⟩⟩:=Sep.blk6 hbox;clear hb hbox hg)|((with_reducible refine Ye (t:=92) (p:=5) rfl ?_);refine Yd (t:=92) (p:=5) (v:= ?vo_) (w1:=Sep.put6 w2 gb (.int .i64 x0) (.int .i64 x1) (.int .i64 x2) (.int .i64 x3) (.int .i64 x4) (.int .i64 x5)) ?hg ?ho ?hn ?hr ?_;(case ho=>rfl);(case hg=>rfl);(case hn=>rfl);(case hr=>exact z7_8);intro w3 hw;have BK3:=Za (hw ▸ Sep.put6_blk BK.out (.int .i64 x0) (.int .i64 x1) (.int .i64 x2) (.int .i64 x3) (.int .i64 x4) (.int .i64 x5));have HB3:=Za (hw ▸ Sep.put6_below HB.out GE.out (.int .i64 x0) (.int .i64 x1) (.int .i64 x2) (.int .i64 x3) (.int .i64 x4) (.int .i64 x5));clear hw BK HB;obtain⟨⟨_,_,_,_,_,_⟩,⟨_,_,_,_,_,_⟩⟩:=Sep.blk6 BK3.out))
      refine(HST.out s' ⟨x0,x1,x2,⟨x3,x4,x5⟩⟩ s2 b F' w3 (Nat.le_trans HBW.out (HAF.out.below HB3.out).size) HA1.out ((HL.out s').below (Nat.le_trans HBW.out HAF.out.size) HI.out HB3.out)).mono ?_
      rintro e w4 ⟨rfl,F2,hI2,hA2⟩
      have HI2:=Za hI2
      have NF:Aside0 (¬F' gb):=⟨fun h=>absurd ((HL.out s').lt HI.out gb h).2 (Nat.not_lt.mpr GE.out)⟩
      have BK4:=Za (hA2.blk BK3.out NF.out)
      have NF2:=Za (hA2.out BK3.out NF.out)
      have HA4:=Za ((HAF.out.below HB3.out).trans hA2)
      clear hI2 hA2 BK3 NF
      obtain⟨⟨_,_,_,_,_,_⟩,⟨_,_,_,_,_,_⟩⟩:=Sep.blk6 BK4.out
      cases o with
      |false=>
       have H4:=H3.out
       rw[if_neg (by simp)] at H4
       have H':=Za H4
       clear H4 H3
       go_wp2_with (go_at_call 78;(with_reducible refine(impl_isOpening.calls _ _ _ HA2.out).mono ?_);rintro e w' ⟨rfl,⟨nd,rfl⟩⟩)
       go_roundg k1
       case measure=>have:=HK1.out;omega
       case rel=>exact⟨wrap64 (i+1),s2,F2,by first|rfl|(simp;done)|(simp[*];done),H',⟨by have:=HK1.out;omega⟩,⟨(HL.out s2).below (Nat.le_trans HBW.out HA4.out.size) HI2.out z7_13⟩,⟨HA4.out.below z7_13⟩⟩
      |true=>
       have H4:=H3.out
       rw[if_pos rfl] at H4
       obtain⟨en,A3,H5⟩:=Zg H4
       obtain⟨n,A4,H6⟩:=Zg H5
       by_cases c7:0≤wrap64 (i+1)∧wrap64 (i+1)≤en∧en≤(l0.length:Int)∧n≤9223372036854775807
       ·rw[if_pos c7] at H6
        obtain⟨s3,A5,H7⟩:=Zg H6
        have H':=Za H7
        have HA3:=Za A3
        have HA5:=Za A5
        have HN:Aside0 (((x0==4)=true∧impl_bit.f b=some n)∨((x0==4)=false∧n=x2∧True)):=by
         by_cases c4:x0=4
         ·rw[if_pos c4] at A4
          exact⟨.inl ⟨beq_iff_eq.mpr c4,A4⟩⟩
         ·rw[if_neg c4] at A4
          exact⟨.inr ⟨beq_eq_false_iff_ne.mpr c4,(Zk A4).symm,trivial⟩⟩
        clear H4 H3 H5 H6 H7 A3 A4 A5
        obtain⟨ji,hji⟩:∃ji,wrap64 (i+1)=ji:=⟨_,rfl⟩
        rw[hji] at c7
        replace HA5:Aside0 (walkRep (fun s'=>impl_walk.f step k1 ((l0.take en.toNat).drop ji.toNat) s') n.toNat s2=some s3):=by rw[←hji];exact HA5
        obtain⟨y,hy⟩:∃y,(l0.take en.toNat).drop ji.toNat=y:=⟨_,rfl⟩
        rw[hy] at HA5
        obtain⟨i0,hi0,hsz0⟩:=Option.map_eq_some_iff.mp (show(Tryz.prog.info? 92).map (·.size)=some 6 by kernel_rfl)
        have hcut:=cut_mid (P:=Tryz.prog) 69 92 .i64 .i64 Tryz.underlying69 hi0 6 hsz0 (some ad) l0.length c0 ji en c7.1 c7.2.1 c7.2.2.1 HC0.out
        obtain⟨A',hA'⟩:∃A',(if c0=ji.toNat then (some ad) else ((some ad):Option Addr).map (·.add (ji.toNat*6)))=A':=⟨_,rfl⟩
        obtain⟨c',hc'⟩:∃c',c0 - ji.toNat=c':=⟨_,rfl⟩
        have hyl:en.toNat - ji.toNat=y.length:=by rw[←hy,List.length_drop,List.length_take];omega
        rw[hA',hc',hyl] at hcut
        have HRy:Aside0 (∀w',Kept w w' F→Kd.C k92 w' A' y.length y):=⟨fun w' hk=>by
         have:=Kd.C_mid (HR.out w' hk) (lo:=ji.toNat) (hi:=en.toNat) (c:=c0) (by omega) (by omega) HC0.out
         rw[hy] at this
         rw[←hA']
         exact this⟩
        have HCy:Aside0 (y.length≤c'):=⟨by have:=HC0.out;omega⟩
        have hjiw:IntKind.i64.wrap (i+1)=ji:=(i64_w _).trans hji
        have HNB:=Za c7.2.2.2
        clear hy hyl hA' hc' c7 hi0 hsz0
        rcases HN.out with⟨c4b,A4⟩|⟨c4b,rfl,A4⟩
        all_goals
         have HA4':=Za A4
         clear A4 HN
         go_wp2_with (first|(go_at_call 78;(with_reducible refine(impl_isOpening.calls _ _ _ HA2.out).mono ?_);rintro e w' ⟨rfl,⟨nd,rfl⟩⟩)|(go_at_call 79;(with_reducible refine(impl_endOf.calls k1 _ _ l0 i en _ ?sd1 HC0.out HA3.out).mono ?_);(case sd1=>exact HR.out _ (Kept.drewN HA4.out.kept _));rintro e w' ⟨rfl,⟨nd,rfl⟩⟩)|(go_at_call 36;(with_reducible refine(impl_bit.calls _ _ _ HA4'.out).mono ?_);rintro e w' ⟨rfl,⟨nd,rfl⟩⟩))
         go_loopg [40] n.toNat (fun kq v40 w'=>∃(j:Int) (sj:σ) (Fj:Nat→Prop),v40= .int .i64 j∧Aside0 (0≤j∧j+(kq:Int)=(n.toNat:Int))∧Aside0 (walkRep (fun s'=>impl_walk.f step k1 y s') kq sj=some s3)∧Aside0 (I sj Fj w')∧Aside0 (Sep.After F w Fj w'))
         case atStart=>exact⟨0,s2,F2,by first|rfl|(simp;done),⟨by omega,by omega⟩,HA5,⟨(HL.out s2).below (Nat.le_trans HBW.out HA4.out.size) HI2.out z7_13⟩,⟨HA4.out.below z7_13⟩⟩
         case round=>
          clear HA5 HI2 HA4
          obtain⟨j,sj,Fj,rfl,HJ,HWJ,HIJ,HAJ⟩:=hrel
          by_cases cj:j<n
          ·have cjb:decide (j<n)=true:=Zq cj
           have hw1:wrap64 (j+1)=j+1:=by have:=HJ.out;have:=HNB.out;unfold wrap64;omega
           cases gk with
           |zero=>have:=HJ.out;omega
           |succ k2=>
            obtain⟨s4,A6,A7⟩:=Zg HWJ.out
            have HA6:=Za A6
            have HA7:=Za A7
            have HW:=Za hw1
            have CJ:=Za cj
            clear A6 A7 hw1 cj HWJ
            go_wp2_with (go_at_call 50;(with_reducible refine(IH.out k1 ?sd1 A' c' y sj s4 Fj _ ?sd2 HCy.out (Nat.le_trans HBW.out HAJ.out.size) HIJ.out HA6.out).mono ?_);(case sd1=>have:=HK1.out;omega);(case sd2=>exact fun w' hk=>HRy.out w' (HAJ.out.kept.then_ hk HAJ.out.sub));rintro e w6 ⟨rfl,F6,hI6,hA6⟩;have HI6:=Za hI6;have HA6':=Za (HAJ.out.trans hA6);clear hI6 hA6)
            go_roundg k2
            case measure=>omega
            case rel=>exact⟨j+1,s4,F6,by first|rfl|(rw[HW.out];done)|(simp[HW.out];done),⟨by have:=HJ.out;omega,by have:=HJ.out;omega⟩,HA7,HI6,HA6'⟩
          ·have cjb:decide (j<n)=false:=Yf cj
           have hk0:gk=0:=by have:=HJ.out;omega
           subst hk0
           obtain rfl:=Zk HWJ.out
           clear cj HWJ
           go_wp2
           go_roundg k1
           case measure=>have:=HK1.out;omega
           case rel=>exact⟨wrap64 (en+1),sj,Fj,by first|rfl|(simp;done)|(simp[*];done),H',⟨by have:=HK1.out;omega⟩,HIJ,HAJ⟩
       ·rw[if_neg c7] at H6
        exact absurd H6 (by simp)
    ·rw[if_neg c2] at H
     exact absurd H (by simp)
   ·rw[if_neg c1] at H
    have c1b:decide (i<(l0.length:Int))=false:=Yf c1
    obtain rfl:=Zk H
    clear H c1
    go_wp2
    go_end0
    exact⟨rfl,F',HI.out,HAF.out⟩
def impl_StmtCost.f (k:Nat) (a0_0:Int) (a0_1:Int) (a0_2:Int) (a0_3:Int) (a0_4:Int) (a0_5:Int):Option (Int):=(impl_StmtOk.f k a0_0 a0_1 a0_2 a0_3 a0_4 a0_5).bind fun t479=>(if t479=true then ((some (([0,2,5,4,1,1,0]:List Int):List Int)).bind fun y480=>(if 0≤a0_0 then (if a0_0<(y480.length:Int) then (some (rd y480 a0_0)) else (none)) else (none))) else (some 0))
set_option maxHeartbeats 8000000 in
set_option maxRecDepth 100000 in
theorem impl_StmtCost.calls (k:Nat) (a0_0:Int) (a0_1:Int) (a0_2:Int) (a0_3:Int) (a0_4:Int) (a0_5:Int) (r:Int) (w:World) (h:impl_StmtCost.f k a0_0 a0_1 a0_2 a0_3 a0_4 a0_5=some r):
  Calls Tryz.prog 53 #[.agg #[.int .i64 a0_0,.int .i64 a0_1,.int .i64 a0_2,.int .i64 a0_3,.int .i64 a0_4,.int .i64 a0_5]] w fun e w'=>e= .returned (.int .i64 r)∧Below w.heap.size w w':=by
 have hu92:=Tryz.underlying92
 have HB:=Za (Zx w.heap.size w)
 have H:((impl_StmtOk.f k a0_0 a0_1 a0_2 a0_3 a0_4 a0_5).bind fun t479=>(if t479=true then ((some (([0,2,5,4,1,1,0]:List Int):List Int)).bind fun y480=>(if 0≤a0_0 then (if a0_0<(y480.length:Int) then (some (rd y480 a0_0)) else (none)) else (none))) else (some 0)))=some r:=h
 clear h
 replace H:=Zg H
 obtain⟨t479,A20,H⟩:=H
 replace H:(if t479=true then ((some (([0,2,5,4,1,1,0]:List Int):List Int)).bind fun y480=>(if 0≤a0_0 then (if a0_0<(y480.length:Int) then (some (rd y480 a0_0)) else (none)) else (none))) else (some 0))=some r:=H
 have A2:=Za A20
 clear A20
 by_cases c3:t479=true
 ·subst c3
  rw[if_pos rfl] at H
  obtain⟨y480,hy480⟩:∃y_:List Int,y_=(([0,2,5,4,1,1,0]:List Int)):=⟨_,rfl⟩
  replace H:(if 0≤a0_0 then (if a0_0<(y480.length:Int) then (some (rd y480 a0_0)) else (none)) else (none))=some r:=by first|(rw[hy480];with_reducible exact H)|(have H2_:=(Yc _ _).symm.trans H;rw[hy480];with_reducible exact H2_)|(have H2_:=(Yc _ _).symm.trans H;with_reducible exact H2_)|with_reducible exact H|(rw[hy480];exact H)|exact H
  have Ny480:=Za hy480
  clear hy480
  by_cases c4:0≤a0_0
  ·rw[if_pos c4] at H
   have c4b0:decide (0≤a0_0)=true:=Zq c4
   clear c4
   by_cases c5:a0_0<(y480.length:Int)
   ·rw[if_pos c5] at H
    have c5b0:decide (a0_0<(y480.length:Int))=true:=Zq c5
    clear c5
    obtain rfl:=Zk H
    go_enter Tryz.func53,Tryz.ntmps53
    go_wp2_with (first|((with_reducible refine Zp (N:=1) rfl ?_);refine Zr ?hg (N:=1) ?hd (cs:= #[.int .i64 a0_0,.int .i64 a0_1,.int .i64 a0_2,.int .i64 a0_3,.int .i64 a0_4,.int .i64 a0_5]) (t:=92) ?hr ?_;(case hd=>rfl);(case hg=>rfl);(case hr=>exact z7_8);intro gb478 hg w6 hbox hb;have BK478:=Za (hbox);have GW478:=Za ((z7_16:w.heap.size≤gb478));have GE478:=Za ((z7_16:w.heap.size≤gb478));replace HB:=Za (Zj z7_2 hb);clear hb hbox hg;have hcz7_0:w6.cell? ⟨gb478,0,none⟩=some (.int .i64 a0_0):=(Zb BK478.out 0).trans rfl;have hcz7_1:w6.cell? ⟨gb478,1,none⟩=some (.int .i64 a0_1):=(Zb BK478.out 1).trans rfl;have hcz7_2:w6.cell? ⟨gb478,2,none⟩=some (.int .i64 a0_2):=(Zb BK478.out 2).trans rfl;have hcz7_3:w6.cell? ⟨gb478,3,none⟩=some (.int .i64 a0_3):=(Zb BK478.out 3).trans rfl;have hcz7_4:w6.cell? ⟨gb478,4,none⟩=some (.int .i64 a0_4):=(Zb BK478.out 4).trans rfl;have hcz7_5:w6.cell? ⟨gb478,5,none⟩=some (.int .i64 a0_5):=(Zb BK478.out 5).trans rfl;have hfz7_0:=Zc BK478.out 0;have hfz7_1:=Zc BK478.out 1;have hfz7_2:=Zc BK478.out 2;have hfz7_3:=Zc BK478.out 3;have hfz7_4:=Zc BK478.out 4;have hfz7_5:=Zc BK478.out 5)|((first|((with_reducible refine gate_callee (f:=80) rfl ?_);refine goesL_ (some 4) rfl rfl Tryz.func80 z7_6 rfl #[.agg #[.int .i64 a0_0,.int .i64 a0_1,.int .i64 a0_2,.int .i64 a0_3,.int .i64 a0_4,.int .i64 a0_5]] rfl z7_4 ?_;(with_reducible refine(impl_StmtOk.calls k a0_0 a0_1 a0_2 a0_3 a0_4 a0_5 true _ A2.out).mono ?_))|(go_at_call 80;(with_reducible refine(impl_StmtOk.calls k a0_0 a0_1 a0_2 a0_3 a0_4 a0_5 true _ A2.out).mono ?_)));rintro e w8 ⟨rfl,hb⟩;(first|refine⟨_,rfl,?_⟩|skip);replace BK478:=Za (Zi (g:=gb478) (o:= .cells #[.int .i64 a0_0,.int .i64 a0_1,.int .i64 a0_2,.int .i64 a0_3,.int .i64 a0_4,.int .i64 a0_5] 92 (0,0)) z7_15 hb);replace HB:=Za (Zj z7_10 hb);(try clear hb);(try clear hb2);(try clear hk);(try clear hi))|((with_reducible refine Zp (N:=6) rfl ?_);refine Kd.R_lit (Kd.int .i64) _ 3 ?hg (N:=6) ?hd (xs:=([0,2,5,4,1,1,0]:List Int)) (inner:=[.int .i64 0,.int .i64 2,.int .i64 5,.int .i64 4,.int .i64 1,.int .i64 1,.int .i64 0]) (ok:=fun _=>True) (okp:=fun _=>True) ?hr ?hp (fun _ hk=>hk) trivial (Zx _ _) (Nat.le_refl _) (by simp) ?_;(case hd=>rfl);(case hg=>rfl);(case hr=>exact z7_8);(case hp=>exact(Reps.one (show Kd.M (Kd.int .i64) _ _ _ 0 [.int .i64 0] from rfl) (Reps.one (show Kd.M (Kd.int .i64) _ _ _ 2 [.int .i64 2] from rfl) (Reps.one (show Kd.M (Kd.int .i64) _ _ _ 5 [.int .i64 5] from rfl) (Reps.one (show Kd.M (Kd.int .i64) _ _ _ 4 [.int .i64 4] from rfl) (Reps.one (show Kd.M (Kd.int .i64) _ _ _ 1 [.int .i64 1] from rfl) (Reps.one (show Kd.M (Kd.int .i64) _ _ _ 1 [.int .i64 1] from rfl) (Reps.one (show Kd.M (Kd.int .i64) _ _ _ 0 [.int .i64 0] from rfl) (Reps.none _ _)))))))));intro v481 w9 ho10 hb hg_ hnew_;clear hg_ hnew_;(first|rw[←Ny480.out] at ho10|(simp only[Int.reduceToNat] at ho10;rw[←Ny480.out] at ho10));have HO482:=Za (Yr ho10 (Yh z7_10));replace BK478:=Za (Zi (g:=gb478) (o:= .cells #[.int .i64 a0_0,.int .i64 a0_1,.int .i64 a0_2,.int .i64 a0_3,.int .i64 a0_4,.int .i64 a0_5] 92 (0,0)) z7_15 hb);replace HB:=Za (Zj z7_10 hb);clear hb ho10;have hcz11_0:w9.cell? ⟨gb478,0,none⟩=some (.int .i64 a0_0):=(Zb BK478.out 0).trans rfl;have hcz11_1:w9.cell? ⟨gb478,1,none⟩=some (.int .i64 a0_1):=(Zb BK478.out 1).trans rfl;have hcz11_2:w9.cell? ⟨gb478,2,none⟩=some (.int .i64 a0_2):=(Zb BK478.out 2).trans rfl;have hcz11_3:w9.cell? ⟨gb478,3,none⟩=some (.int .i64 a0_3):=(Zb BK478.out 3).trans rfl;have hcz11_4:w9.cell? ⟨gb478,4,none⟩=some (.int .i64 a0_4):=(Zb BK478.out 4).trans rfl;have hcz11_5:w9.cell? ⟨gb478,5,none⟩=some (.int .i64 a0_5):=(Zb BK478.out 5).trans rfl;have hfz11_0:=Zc BK478.out 0;have hfz11_1:=Zc BK478.out 1;have hfz11_2:=Zc BK478.out 2;have hfz11_3:=Zc BK478.out 3;have hfz11_4:=Zc BK478.out 4;have hfz11_5:=Zc BK478.out 5;obtain⟨Ao12,co12,eo12⟩:=Ym HO482.out;subst eo12;have p483:0≤(a0_0:Int):=Zs z7_12;have q483:a0_0<(y480.length:Int):=Zs z7_12;obtain⟨ad483,e483,hx483_0⟩:=Kd.at_int (Yp HO482.out).2.2 a0_0 p483 q483;cases e483;replace p483:=eq_true p483;replace q483:=eq_true q483))
    go_ret
    exact⟨by first|rfl|(simp[errW_none,errW_some]<;>rfl)|(simp[*,errW_none,errW_some]<;>rfl)|(simp[*,errW_none,errW_some,i64_w];done),by repeat(first|(with_reducible first|exact HB.out|apply Zh|apply Zf|apply Ze|refine Zd ?_ GE478.out)|exact HB.out)⟩
   ·rw[if_neg c5] at H
    exact absurd H (by simp)
  ·rw[if_neg c4] at H
   exact absurd H (by simp)
 ·replace c3:=Bool.eq_false_iff.mpr c3
  subst c3
  rw[if_neg (show ¬(false=true) by decide)] at H
  obtain rfl:=Zk H
  go_enter Tryz.func53,Tryz.ntmps53
  go_wp2_with (first|((with_reducible refine Zp (N:=1) rfl ?_);refine Zr ?hg (N:=1) ?hd (cs:= #[.int .i64 a0_0,.int .i64 a0_1,.int .i64 a0_2,.int .i64 a0_3,.int .i64 a0_4,.int .i64 a0_5]) (t:=92) ?hr ?_;(case hd=>rfl);(case hg=>rfl);(case hr=>exact z7_8);intro gb478 hg w13 hbox hb;have BK478:=Za (hbox);have GW478:=Za ((z7_16:w.heap.size≤gb478));have GE478:=Za ((z7_16:w.heap.size≤gb478));replace HB:=Za (Zj z7_2 hb);clear hb hbox hg;have hcz14_0:w13.cell? ⟨gb478,0,none⟩=some (.int .i64 a0_0):=(Zb BK478.out 0).trans rfl;have hcz14_1:w13.cell? ⟨gb478,1,none⟩=some (.int .i64 a0_1):=(Zb BK478.out 1).trans rfl;have hcz14_2:w13.cell? ⟨gb478,2,none⟩=some (.int .i64 a0_2):=(Zb BK478.out 2).trans rfl;have hcz14_3:w13.cell? ⟨gb478,3,none⟩=some (.int .i64 a0_3):=(Zb BK478.out 3).trans rfl;have hcz14_4:w13.cell? ⟨gb478,4,none⟩=some (.int .i64 a0_4):=(Zb BK478.out 4).trans rfl;have hcz14_5:w13.cell? ⟨gb478,5,none⟩=some (.int .i64 a0_5):=(Zb BK478.out 5).trans rfl;have hfz14_0:=Zc BK478.out 0;have hfz14_1:=Zc BK478.out 1;have hfz14_2:=Zc BK478.out 2;have hfz14_3:=Zc BK478.out 3;have hfz14_4:=Zc BK478.out 4;have hfz14_5:=Zc BK478.out 5)|((first|((with_reducible refine gate_callee (f:=80) rfl ?_);refine goesL_ (some 4) rfl rfl Tryz.func80 z7_6 rfl #[.agg #[.int .i64 a0_0,.int .i64 a0_1,.int .i64 a0_2,.int .i64 a0_3,.int .i64 a0_4,.int .i64 a0_5]] rfl z7_4 ?_;(with_reducible refine(impl_StmtOk.calls k a0_0 a0_1 a0_2 a0_3 a0_4 a0_5 false _ A2.out).mono ?_))|(go_at_call 80;(with_reducible refine(impl_StmtOk.calls k a0_0 a0_1 a0_2 a0_3 a0_4 a0_5 false _ A2.out).mono ?_)));rintro e w15 ⟨rfl,hb⟩;(first|refine⟨_,rfl,?_⟩|skip);replace BK478:=Za (Zi (g:=gb478) (o:= .cells #[.int .i64 a0_0,.int .i64 a0_1,.int .i64 a0_2,.int .i64 a0_3,.int .i64 a0_4,.int .i64 a0_5] 92 (0,0)) z7_15 hb);replace HB:=Za (Zj z7_10 hb);(try clear hb);(try clear hb2);(try clear hk);(try clear hi)))
  go_ret
  exact⟨by first|rfl|(simp[errW_none,errW_some]<;>rfl)|(simp[*,errW_none,errW_some]<;>rfl)|(simp[*,errW_none,errW_some,i64_w];done),by repeat(first|(with_reducible first|exact HB.out|apply Zh|apply Zf|apply Ze|refine Zd ?_ GE478.out)|exact HB.out)⟩
def impl_VarsOk.f (l0:List Int):Option (Bool):=if (l0.length:Int)=8 then ((impl_areValues.f l0).bind fun t484=>(some t484)) else (some false)
set_option maxHeartbeats 8000000 in
set_option maxRecDepth 100000 in
theorem impl_VarsOk.calls (A0:Option Addr) (c0:Nat) (l0:List Int) (r:Bool) (w:World) (hr0:Kd.C (Kd.int .i64) w A0 l0.length l0) (hc0:l0.length≤c0) (h:impl_VarsOk.f l0=some r):
  Calls Tryz.prog 81 #[.slice A0 l0.length c0] w fun e w'=>e= .returned (.bool r)∧Drawn0 w w':=by
 have HR0:=Za hr0
 have HC0:=Za hc0
 clear hr0 hc0
 have H:(if (l0.length:Int)=8 then ((impl_areValues.f l0).bind fun t484=>(some t484)) else (some false))=some r:=h
 clear h
 by_cases c2:(l0.length:Int)=8
 ·rw[if_pos c2] at H
  have c2b0:((l0.length:Int)==8)=true:=beq_iff_eq.mpr c2
  have c2b1:((l0.length:Int) != 8)=false:=bne_eq_false_iff_eq.mpr c2
  clear c2
  replace H:=Zg H
  obtain⟨t484,A30,H⟩:=H
  replace H:(some t484)=some r:=H
  have A3:=Za A30
  clear A30
  obtain rfl:=Zk H
  go_enter Tryz.func81,Tryz.ntmps81
  go_wp2_with (first|(go_at_call 44;(with_reducible refine(impl_areValues.calls _ _ l0 t484 _ ?side1 ?side2 A3.out).mono ?_);(case side1=>repeat(first|exact HR0.out|(with_reducible refine Yi ?_ _)|(with_reducible refine Yg ?_ _)|(with_reducible refine Yj ?_)));(case side2=>exact z7_9);rintro e w' ⟨rfl,⟨nd,rfl⟩⟩))
  go_ret
  exact⟨by first|rfl|(simp;done)|(simp[*];done),by repeat(first|exact Zv _|apply Zw)⟩
 ·rw[if_neg c2] at H
  have c2b0:((l0.length:Int)==8)=false:=beq_eq_false_iff_ne.mpr c2
  have c2b1:((l0.length:Int) != 8)=true:=bne_iff_ne.mpr c2
  obtain rfl:=Zk H
  go_enter Tryz.func81,Tryz.ntmps81
  go_wp2
  go_ret
  exact⟨by first|rfl|(simp;done)|(simp[*];done),by repeat(first|exact Zv _|apply Zw)⟩
def impl_operand.f (l0:List Int) (a1:Int):Option (Int):=if a1<0 then (if 0≤(wrap64 ((-1) - a1)) then (if (wrap64 ((-1) - a1))<(l0.length:Int) then (some (rd l0 (wrap64 ((-1) - a1)))) else (none)) else (none)) else (some a1)
set_option maxHeartbeats 8000000 in
set_option maxRecDepth 100000 in
theorem impl_operand.calls (A0:Option Addr) (c0:Nat) (l0:List Int) (a1:Int) (r:Int) (w:World) (hr0:Kd.C (Kd.int .i64) w A0 l0.length l0) (hc0:l0.length≤c0) (h:impl_operand.f l0 a1=some r):
  Calls Tryz.prog 83 #[.slice A0 l0.length c0,.int .i64 a1] w fun e w'=>e= .returned (.int .i64 r)∧Drawn0 w w':=by
 have HR0:=Za hr0
 have HC0:=Za hc0
 clear hr0 hc0
 have H:(if a1<0 then (if 0≤(wrap64 ((-1) - a1)) then (if (wrap64 ((-1) - a1))<(l0.length:Int) then (some (rd l0 (wrap64 ((-1) - a1)))) else (none)) else (none)) else (some a1))=some r:=h
 clear h
 by_cases c3:a1<0
 ·rw[if_pos c3] at H
  have c3b0:decide (a1<0)=true:=Zq c3
  clear c3
  obtain⟨ji4,hji4⟩:∃j_:Int,(wrap64 ((-1) - a1))=j_:=⟨_,rfl⟩
  replace H:(if 0≤(ji4) then (if (ji4)<(l0.length:Int) then (some (rd l0 (ji4))) else (none)) else (none))=some r:=by first|(rw[hji4] at H;exact H)|(simp only[hji4] at H ⊢;exact H)
  have hji4w:(IntKind.i64.wrap ((-1) - a1))=ji4:=(i64_w _).trans hji4
  by_cases c5:0≤(ji4)
  ·rw[if_pos c5] at H
   have c5b0:decide (0≤(ji4))=true:=Zq c5
   clear c5
   by_cases c6:(ji4)<(l0.length:Int)
   ·rw[if_pos c6] at H
    have c6b0:decide ((ji4)<(l0.length:Int))=true:=Zq c6
    clear c6
    obtain rfl:=Zk H
    have p485:0≤((ji4):Int):=Zs z7_12
    have q485:(ji4)<(l0.length:Int):=Zs z7_12
    obtain⟨ad485,e485,hx485_0⟩:=Kd.at_int HR0.out (ji4) p485 q485
    cases e485
    replace p485:=eq_true p485
    replace q485:=eq_true q485
    go_enter Tryz.func83,Tryz.ntmps83
    go_wp2
    go_ret
    exact⟨by first|rfl|(simp;done)|(simp only[←hji4]<;>(first|rfl|simp))|(simp[*];done),by repeat(first|exact Zv _|apply Zw)⟩
   ·rw[if_neg c6] at H
    exact absurd H (by simp)
  ·rw[if_neg c5] at H
   exact absurd H (by simp)
 ·rw[if_neg c3] at H
  have c3b0:decide (a1<0)=false:=Yf c3
  clear c3
  obtain rfl:=Zk H
  go_enter Tryz.func83,Tryz.ntmps83
  go_wp2
  go_ret
  exact⟨by first|rfl|(simp;done)|(simp[*];done),by repeat(first|exact Zv _|apply Zw)⟩
def impl_Clamp.f (a0:Int) (a1:Int) (a2:Int):Option (Int):=if a2<a1 then (some a1) else (some (mn (mx a0 a1) a2))
set_option maxHeartbeats 8000000 in
set_option maxRecDepth 100000 in
theorem impl_Clamp.calls (a0:Int) (a1:Int) (a2:Int) (r:Int) (w:World) (h:impl_Clamp.f a0 a1 a2=some r):
  Calls Tryz.prog 89 #[.int .i64 a0,.int .i64 a1,.int .i64 a2] w fun e w'=>e= .returned (.int .i64 r)∧Drawn0 w w':=by
 have H:(if a2<a1 then (some a1) else (some (mn (mx a0 a1) a2)))=some r:=h
 clear h
 by_cases c4:a2<a1
 ·rw[if_pos c4] at H
  have c4b0:decide (a2<a1)=true:=Zq c4
  clear c4
  obtain rfl:=Zk H
  go_enter Tryz.func89,Tryz.ntmps89
  go_wp2
  go_ret
  exact⟨by first|rfl|(simp;done)|(simp[*];done),by repeat(first|exact Zv _|apply Zw)⟩
 ·rw[if_neg c4] at H
  have c4b0:decide (a2<a1)=false:=Yf c4
  clear c4
  obtain⟨ji5,hji5⟩:∃j_:Int,(mx a0 a1)=j_:=⟨_,rfl⟩
  replace H:(some (mn (ji5) a2))=some r:=by first|(rw[hji5] at H;exact H)|(simp only[hji5] at H ⊢;exact H)
  have hji5_:(if a0<a1 then a1 else a0)=ji5:=hji5
  obtain⟨ji6,hji6⟩:∃j_:Int,(mn (ji5) a2)=j_:=⟨_,rfl⟩
  replace H:(some ji6)=some r:=by first|(rw[hji6] at H;exact H)|(simp only[hji6] at H ⊢;exact H)
  have hji6_:(if a2<(ji5) then a2 else (ji5))=ji6:=hji6
  obtain rfl:=Zk H
  go_enter Tryz.func89,Tryz.ntmps89
  go_wp2
  go_ret
  exact⟨by first|rfl|(simp;done)|(simp only[←hji5,←hji6]<;>(first|rfl|simp))|(simp[*];done),by repeat(first|exact Zv _|apply Zw)⟩
def impl_Saturate.f (a0:Int):Option (Int):=(impl_Clamp.f a0 (-1000000) 1000000).bind fun t486=>(some t486)
set_option maxHeartbeats 8000000 in
set_option maxRecDepth 100000 in
theorem impl_Saturate.calls (a0:Int) (r:Int) (w:World) (h:impl_Saturate.f a0=some r):
  Calls Tryz.prog 107 #[.int .i64 a0] w fun e w'=>e= .returned (.int .i64 r)∧Drawn0 w w':=by
 have H:((impl_Clamp.f a0 (-1000000) 1000000).bind fun t486=>(some t486))=some r:=h
 clear h
 replace H:=Zg H
 obtain⟨t486,A20,H⟩:=H
 replace H:(some t486)=some r:=H
 have A2:=Za A20
 clear A20
 obtain rfl:=Zk H
 go_enter Tryz.func107,Tryz.ntmps107
 go_wp2_with (first|((first|((with_reducible refine gate_callee (f:=89) rfl ?_);refine goesL_ (some 4) rfl rfl Tryz.func89 z7_6 rfl #[.int .i64 a0,.int .i64 (-1000000),.int .i64 1000000] rfl z7_4 ?_;(with_reducible refine(impl_Clamp.calls a0 (-1000000) 1000000 t486 _ A2.out).mono ?_))|(go_at_call 89;(with_reducible refine(impl_Clamp.calls a0 (-1000000) 1000000 t486 _ A2.out).mono ?_)));rintro e w' ⟨rfl,⟨nd,rfl⟩⟩;(first|refine⟨_,rfl,?_⟩|skip)))
 go_ret
 exact⟨by first|rfl|(simp;done)|(simp[*];done),by repeat(first|exact Zv _|apply Zw)⟩
def impl_AddValues.f (a0:Int) (a1:Int):Option (Int):=(impl_Saturate.f a0).bind fun t487=>((impl_Saturate.f a1).bind fun t488=>((impl_Saturate.f (wrap64 (t487+t488))).bind fun t489=>(some t489)))
set_option maxHeartbeats 8000000 in
set_option maxRecDepth 100000 in
theorem impl_AddValues.calls (a0:Int) (a1:Int) (r:Int) (w:World) (h:impl_AddValues.f a0 a1=some r):
  Calls Tryz.prog 84 #[.int .i64 a0,.int .i64 a1] w fun e w'=>e= .returned (.int .i64 r)∧Drawn0 w w':=by
 have H:((impl_Saturate.f a0).bind fun t487=>((impl_Saturate.f a1).bind fun t488=>((impl_Saturate.f (wrap64 (t487+t488))).bind fun t489=>(some t489))))=some r:=h
 clear h
 replace H:=Zg H
 obtain⟨t487,A30,H⟩:=H
 replace H:((impl_Saturate.f a1).bind fun t488=>((impl_Saturate.f (wrap64 (t487+t488))).bind fun t489=>(some t489)))=some r:=H
 have A3:=Za A30
 clear A30
 replace H:=Zg H
 obtain⟨t488,A40,H⟩:=H
 replace H:((impl_Saturate.f (wrap64 (t487+t488))).bind fun t489=>(some t489))=some r:=H
 have A4:=Za A40
 clear A40
 replace H:=Zg H
 obtain⟨t489,A50,H⟩:=H
 replace H:(some t489)=some r:=H
 have A5:=Za A50
 clear A50
 obtain rfl:=Zk H
 go_enter Tryz.func84,Tryz.ntmps84
 go_wp2_with (first|((first|((with_reducible refine gate_callee (f:=107) rfl ?_);refine goesL_ (some 6) rfl rfl Tryz.func107 z7_6 rfl #[.int .i64 a0] rfl z7_4 ?_;(with_reducible refine(impl_Saturate.calls a0 t487 _ A3.out).mono ?_))|(go_at_call 107;(with_reducible refine(impl_Saturate.calls a0 t487 _ A3.out).mono ?_)));rintro e w' ⟨rfl,⟨nd,rfl⟩⟩;(first|refine⟨_,rfl,?_⟩|skip))|((first|((with_reducible refine gate_callee (f:=107) rfl ?_);refine goesL_ (some 8) rfl rfl Tryz.func107 z7_6 rfl #[.int .i64 a1] rfl z7_4 ?_;(with_reducible refine(impl_Saturate.calls a1 t488 _ A4.out).mono ?_))|(go_at_call 107;(with_reducible refine(impl_Saturate.calls a1 t488 _ A4.out).mono ?_)));rintro e w' ⟨rfl,⟨nd,rfl⟩⟩;(first|refine⟨_,rfl,?_⟩|skip))|((first|((with_reducible refine gate_callee (f:=107) rfl ?_);refine goesL_ (some 10) rfl rfl Tryz.func107 z7_6 rfl #[.int .i64 (wrap64 (t487+t488))] rfl z7_4 ?_;(with_reducible refine(impl_Saturate.calls (wrap64 (t487+t488)) t489 _ A5.out).mono ?_))|(go_at_call 107;(with_reducible refine(impl_Saturate.calls (wrap64 (t487+t488)) t489 _ A5.out).mono ?_)));rintro e w' ⟨rfl,⟨nd,rfl⟩⟩;(first|refine⟨_,rfl,?_⟩|skip)))
 go_ret
 exact⟨by first|rfl|(simp;done)|(simp[*];done),by repeat(first|exact Zv _|apply Zw)⟩
def impl_SubValues.f (a0:Int) (a1:Int):Option (Int):=(impl_Saturate.f a0).bind fun t490=>((impl_Saturate.f a1).bind fun t491=>((impl_Saturate.f (wrap64 (t490 - t491))).bind fun t492=>(some t492)))
set_option maxHeartbeats 8000000 in
set_option maxRecDepth 100000 in
theorem impl_SubValues.calls (a0:Int) (a1:Int) (r:Int) (w:World) (h:impl_SubValues.f a0 a1=some r):
  Calls Tryz.prog 85 #[.int .i64 a0,.int .i64 a1] w fun e w'=>e= .returned (.int .i64 r)∧Drawn0 w w':=by
 have H:((impl_Saturate.f a0).bind fun t490=>((impl_Saturate.f a1).bind fun t491=>((impl_Saturate.f (wrap64 (t490 - t491))).bind fun t492=>(some t492))))=some r:=h
 clear h
 replace H:=Zg H
 obtain⟨t490,A30,H⟩:=H
 replace H:((impl_Saturate.f a1).bind fun t491=>((impl_Saturate.f (wrap64 (t490 - t491))).bind fun t492=>(some t492)))=some r:=H
 have A3:=Za A30
 clear A30
 replace H:=Zg H
 obtain⟨t491,A40,H⟩:=H
 replace H:((impl_Saturate.f (wrap64 (t490 - t491))).bind fun t492=>(some t492))=some r:=H
 have A4:=Za A40
 clear A40
 replace H:=Zg H
 obtain⟨t492,A50,H⟩:=H
 replace H:(some t492)=some r:=H
 have A5:=Za A50
 clear A50
 obtain rfl:=Zk H
 go_enter Tryz.func85,Tryz.ntmps85
 go_wp2_with (first|((first|((with_reducible refine gate_callee (f:=107) rfl ?_);refine goesL_ (some 6) rfl rfl Tryz.func107 z7_6 rfl #[.int .i64 a0] rfl z7_4 ?_;(with_reducible refine(impl_Saturate.calls a0 t490 _ A3.out).mono ?_))|(go_at_call 107;(with_reducible refine(impl_Saturate.calls a0 t490 _ A3.out).mono ?_)));rintro e w' ⟨rfl,⟨nd,rfl⟩⟩;(first|refine⟨_,rfl,?_⟩|skip))|((first|((with_reducible refine gate_callee (f:=107) rfl ?_);refine goesL_ (some 8) rfl rfl Tryz.func107 z7_6 rfl #[.int .i64 a1] rfl z7_4 ?_;(with_reducible refine(impl_Saturate.calls a1 t491 _ A4.out).mono ?_))|(go_at_call 107;(with_reducible refine(impl_Saturate.calls a1 t491 _ A4.out).mono ?_)));rintro e w' ⟨rfl,⟨nd,rfl⟩⟩;(first|refine⟨_,rfl,?_⟩|skip))|((first|((with_reducible refine gate_callee (f:=107) rfl ?_);refine goesL_ (some 10) rfl rfl Tryz.func107 z7_6 rfl #[.int .i64 (wrap64 (t490 - t491))] rfl z7_4 ?_;(with_reducible refine(impl_Saturate.calls (wrap64 (t490 - t491)) t492 _ A5.out).mono ?_))|(go_at_call 107;(with_reducible refine(impl_Saturate.calls (wrap64 (t490 - t491)) t492 _ A5.out).mono ?_)));rintro e w' ⟨rfl,⟨nd,rfl⟩⟩;(first|refine⟨_,rfl,?_⟩|skip)))
 go_ret
 exact⟨by first|rfl|(simp;done)|(simp[*];done),by repeat(first|exact Zv _|apply Zw)⟩
def impl_MulValues.f (a0:Int) (a1:Int):Option (Int):=(impl_Saturate.f a0).bind fun t493=>((impl_Saturate.f a1).bind fun t494=>((impl_Saturate.f (wrap64 (t493*t494))).bind fun t495=>(some t495)))
set_option maxHeartbeats 8000000 in
set_option maxRecDepth 100000 in
theorem impl_MulValues.calls (a0:Int) (a1:Int) (r:Int) (w:World) (h:impl_MulValues.f a0 a1=some r):
  Calls Tryz.prog 86 #[.int .i64 a0,.int .i64 a1] w fun e w'=>e= .returned (.int .i64 r)∧Drawn0 w w':=by
 have H:((impl_Saturate.f a0).bind fun t493=>((impl_Saturate.f a1).bind fun t494=>((impl_Saturate.f (wrap64 (t493*t494))).bind fun t495=>(some t495))))=some r:=h
 clear h
 replace H:=Zg H
 obtain⟨t493,A30,H⟩:=H
 replace H:((impl_Saturate.f a1).bind fun t494=>((impl_Saturate.f (wrap64 (t493*t494))).bind fun t495=>(some t495)))=some r:=H
 have A3:=Za A30
 clear A30
 replace H:=Zg H
 obtain⟨t494,A40,H⟩:=H
 replace H:((impl_Saturate.f (wrap64 (t493*t494))).bind fun t495=>(some t495))=some r:=H
 have A4:=Za A40
 clear A40
 replace H:=Zg H
 obtain⟨t495,A50,H⟩:=H
 replace H:(some t495)=some r:=H
 have A5:=Za A50
 clear A50
 obtain rfl:=Zk H
 go_enter Tryz.func86,Tryz.ntmps86
 go_wp2_with (first|((first|((with_reducible refine gate_callee (f:=107) rfl ?_);refine goesL_ (some 6) rfl rfl Tryz.func107 z7_6 rfl #[.int .i64 a0] rfl z7_4 ?_;(with_reducible refine(impl_Saturate.calls a0 t493 _ A3.out).mono ?_))|(go_at_call 107;(with_reducible refine(impl_Saturate.calls a0 t493 _ A3.out).mono ?_)));rintro e w' ⟨rfl,⟨nd,rfl⟩⟩;(first|refine⟨_,rfl,?_⟩|skip))|((first|((with_reducible refine gate_callee (f:=107) rfl ?_);refine goesL_ (some 8) rfl rfl Tryz.func107 z7_6 rfl #[.int .i64 a1] rfl z7_4 ?_;(with_reducible refine(impl_Saturate.calls a1 t494 _ A4.out).mono ?_))|(go_at_call 107;(with_reducible refine(impl_Saturate.calls a1 t494 _ A4.out).mono ?_)));rintro e w' ⟨rfl,⟨nd,rfl⟩⟩;(first|refine⟨_,rfl,?_⟩|skip))|((first|((with_reducible refine gate_callee (f:=107) rfl ?_);refine goesL_ (some 10) rfl rfl Tryz.func107 z7_6 rfl #[.int .i64 (wrap64 (t493*t494))] rfl z7_4 ?_;(with_reducible refine(impl_Saturate.calls (wrap64 (t493*t494)) t495 _ A5.out).mono ?_))|(go_at_call 107;(with_reducible refine(impl_Saturate.calls (wrap64 (t493*t494)) t495 _ A5.out).mono ?_)));rintro e w' ⟨rfl,⟨nd,rfl⟩⟩;(first|refine⟨_,rfl,?_⟩|skip)))
 go_ret
 exact⟨by first|rfl|(simp;done)|(simp[*];done),by repeat(first|exact Zv _|apply Zw)⟩
def impl_EvalExpr.j0:Nat→List Int→Bool→Int→Int→Int→Option (Int)
 |0,_,_,_,_,_=>none
 |k+1,x0,x14,x497000,x497001,x497002=>if x14=true then (some 0) else ((impl_operand.f x0 x497001).bind fun t499=>((impl_operand.f x0 x497002).bind fun t500=>(if x497000=1 then ((impl_AddValues.f t499 t500).bind fun t501=>(some t501)) else (if x497000=2 then ((impl_SubValues.f t499 t500).bind fun t502=>(some t502)) else (if x497000=3 then ((impl_MulValues.f t499 t500).bind fun t503=>(some t503)) else (if x497000=4 then (some (mn t499 t500)) else (if x497000=5 then (some (mx t499 t500)) else (if x497000=6 then ((impl_bit.f (decide (t499<t500))).bind fun t504=>(some t504)) else ((impl_bit.f (t499==t500)).bind fun t505=>(some t505))))))))))
def impl_EvalExpr.f (k:Nat) (l0:List Int) (a1_0:Int) (a1_1:Int) (a1_2:Int):Option (Int):=(impl_VarsOk.f l0).bind fun t497=>(if t497=true then ((impl_ExprOk.f a1_0 a1_1 a1_2).bind fun t498=>(impl_EvalExpr.j0 k l0 (!t498) a1_0 a1_1 a1_2)) else (impl_EvalExpr.j0 k l0 true a1_0 a1_1 a1_2))
set_option maxHeartbeats 8000000 in
set_option maxRecDepth 100000 in
theorem impl_EvalExpr.calls (k:Nat) (A0:Option Addr) (c0:Nat) (l0:List Int) (a1_0:Int) (a1_1:Int) (a1_2:Int) (r:Int) (w:World) (hr0:Kd.C (Kd.int .i64) w A0 l0.length l0) (hc0:l0.length≤c0) (h:impl_EvalExpr.f k l0 a1_0 a1_1 a1_2=some r):
  Calls Tryz.prog 55 #[.slice A0 l0.length c0,.agg #[.int .i64 a1_0,.int .i64 a1_1,.int .i64 a1_2]] w fun e w'=>e= .returned (.int .i64 r)∧Below w.heap.size w w':=by
 have hu72:=Tryz.underlying72
 have HR0:=Za hr0
 have HC0:=Za hc0
 clear hr0 hc0
 have HB:=Za (Zx w.heap.size w)
 have H:((impl_VarsOk.f l0).bind fun t497=>(if t497=true then ((impl_ExprOk.f a1_0 a1_1 a1_2).bind fun t498=>(impl_EvalExpr.j0 k l0 (!t498) a1_0 a1_1 a1_2)) else (impl_EvalExpr.j0 k l0 true a1_0 a1_1 a1_2)))=some r:=h
 clear h
 have HC3:=Za H
 clear H
 go_enter Tryz.func55,Tryz.ntmps55
 go_upto_region 1 with(first|((with_reducible refine Zp (N:=3) rfl ?_);refine Zr ?hg (N:=3) ?hd (cs:= #[.int .i64 a1_0,.int .i64 a1_1,.int .i64 a1_2]) (t:=72) ?hr ?_;(case hd=>rfl);(case hg=>rfl);(case hr=>exact z7_8);intro gb496 hg w4 hbox hb;have BK496:=Za (hbox);have GW496:=Za ((z7_16:w.heap.size≤gb496));have GE496:=Za ((z7_16:w.heap.size≤gb496));replace HB:=Za (Zj z7_2 hb);clear hb hbox hg))
 repeat(go_quiet (first|((with_reducible refine Zp (N:=3) rfl ?_);refine Zr ?hg (N:=3) ?hd (cs:= #[.int .i64 a1_0,.int .i64 a1_1,.int .i64 a1_2]) (t:=72) ?hr ?_;(case hd=>rfl);(case hg=>rfl);(case hr=>exact z7_8);intro gb496 hg w4 hbox hb;have BK496:=Za (hbox);have GW496:=Za ((z7_16:w.heap.size≤gb496));have GE496:=Za ((z7_16:w.heap.size≤gb496));replace HB:=Za (Zj z7_2 hb);clear hb hbox hg));go_upto_region 1 with(first|((with_reducible refine Zp (N:=3) rfl ?_);refine Zr ?hg (N:=3) ?hd (cs:= #[.int .i64 a1_0,.int .i64 a1_1,.int .i64 a1_2]) (t:=72) ?hr ?_;(case hd=>rfl);(case hg=>rfl);(case hr=>exact z7_8);intro gb496 hg w4 hbox hb;have BK496:=Za (hbox);have GW496:=Za ((z7_16:w.heap.size≤gb496));have GE496:=Za ((z7_16:w.heap.size≤gb496));replace HB:=Za (Zj z7_2 hb);clear hb hbox hg)))
 (try simp only[Act.put,Zy,Ya,Yb])
 go_cut [14] (fun v14 wc=>∃(kq:Nat) (x14_2:Bool),v14= .bool x14_2∧Aside0 (impl_EvalExpr.j0 kq l0 x14_2 a1_0 a1_1 a1_2=some r)∧Aside0 (kq≤k)∧Aside0 (wc.heap[gb496]? =some (.cells #[.int .i64 a1_0,.int .i64 a1_1,.int .i64 a1_2] 72 (0,0)))∧Aside0 (Below w.heap.size w wc))
 case first=>
  have H:=HC3.out
  clear HC3
  replace H:=Zg H
  obtain⟨t497,A50,H⟩:=H
  replace H:(if t497=true then ((impl_ExprOk.f a1_0 a1_1 a1_2).bind fun t498=>(impl_EvalExpr.j0 k l0 (!t498) a1_0 a1_1 a1_2)) else (impl_EvalExpr.j0 k l0 true a1_0 a1_1 a1_2))=some r:=H
  have A5:=Za A50
  clear A50
  by_cases c6:t497=true
  ·subst c6
   rw[if_pos rfl] at H
   replace H:=Zg H
   obtain⟨t498,A70,H⟩:=H
   replace H:(impl_EvalExpr.j0 k l0 (!t498) a1_0 a1_1 a1_2)=some r:=H
   have A7:=Za A70
   clear A70
   have H':=Za H
   clear H
   go_wp2_with (first|(go_at_call 81;(with_reducible refine(impl_VarsOk.calls _ _ l0 true _ ?side1 ?side2 A5.out).mono ?_);(case side1=>exact z7_1);(case side2=>exact z7_9);rintro e w' ⟨rfl,⟨nd,rfl⟩⟩;(try first|exact⟨rfl,_,Zl _ _ _⟩|exact⟨rfl,_,Eq.trans (Zl _ _ _) (congrArg (World.drewN _) (Nat.add_assoc _ _ _))⟩);have hcz8_0:w4.cell? ⟨gb496,0,none⟩=some (.int .i64 a1_0):=(Zb BK496.out 0).trans rfl;have hcz8_1:w4.cell? ⟨gb496,1,none⟩=some (.int .i64 a1_1):=(Zb BK496.out 1).trans rfl;have hcz8_2:w4.cell? ⟨gb496,2,none⟩=some (.int .i64 a1_2):=(Zb BK496.out 2).trans rfl;have hfz8_0:=Zc BK496.out 0;have hfz8_1:=Zc BK496.out 1;have hfz8_2:=Zc BK496.out 2)|(go_at_call 82;(with_reducible refine(impl_ExprOk.calls a1_0 a1_1 a1_2 t498 _ A7.out).mono ?_);rintro e w9 ⟨rfl,hb⟩;replace BK496:=Za (Zi (g:=gb496) (o:= .cells #[.int .i64 a1_0,.int .i64 a1_1,.int .i64 a1_2] 72 (0,0)) z7_14 hb);replace HB:=Za (Zj z7_3 hb);(try clear hb);(try clear hb2);(try clear hk);(try clear hi)))
   repeat(go_quiet (first|(go_at_call 81;(with_reducible refine(impl_VarsOk.calls _ _ l0 true _ ?side1 ?side2 A5.out).mono ?_);(case side1=>exact z7_1);(case side2=>exact z7_9);rintro e w' ⟨rfl,⟨nd,rfl⟩⟩;(try first|exact⟨rfl,_,Zl _ _ _⟩|exact⟨rfl,_,Eq.trans (Zl _ _ _) (congrArg (World.drewN _) (Nat.add_assoc _ _ _))⟩);have hcz8_0:w4.cell? ⟨gb496,0,none⟩=some (.int .i64 a1_0):=(Zb BK496.out 0).trans rfl;have hcz8_1:w4.cell? ⟨gb496,1,none⟩=some (.int .i64 a1_1):=(Zb BK496.out 1).trans rfl;have hcz8_2:w4.cell? ⟨gb496,2,none⟩=some (.int .i64 a1_2):=(Zb BK496.out 2).trans rfl;have hfz8_0:=Zc BK496.out 0;have hfz8_1:=Zc BK496.out 1;have hfz8_2:=Zc BK496.out 2)|(go_at_call 82;(with_reducible refine(impl_ExprOk.calls a1_0 a1_1 a1_2 t498 _ A7.out).mono ?_);rintro e w9 ⟨rfl,hb⟩;replace BK496:=Za (Zi (g:=gb496) (o:= .cells #[.int .i64 a1_0,.int .i64 a1_1,.int .i64 a1_2] 72 (0,0)) z7_14 hb);replace HB:=Za (Zj z7_3 hb);(try clear hb);(try clear hb2);(try clear hk);(try clear hi)));try go_wp2_with (first|(go_at_call 81;(with_reducible refine(impl_VarsOk.calls _ _ l0 true _ ?side1 ?side2 A5.out).mono ?_);(case side1=>exact z7_1);(case side2=>exact z7_9);rintro e w' ⟨rfl,⟨nd,rfl⟩⟩;(try first|exact⟨rfl,_,Zl _ _ _⟩|exact⟨rfl,_,Eq.trans (Zl _ _ _) (congrArg (World.drewN _) (Nat.add_assoc _ _ _))⟩);have hcz8_0:w4.cell? ⟨gb496,0,none⟩=some (.int .i64 a1_0):=(Zb BK496.out 0).trans rfl;have hcz8_1:w4.cell? ⟨gb496,1,none⟩=some (.int .i64 a1_1):=(Zb BK496.out 1).trans rfl;have hcz8_2:w4.cell? ⟨gb496,2,none⟩=some (.int .i64 a1_2):=(Zb BK496.out 2).trans rfl;have hfz8_0:=Zc BK496.out 0;have hfz8_1:=Zc BK496.out 1;have hfz8_2:=Zc BK496.out 2)|(go_at_call 82;(with_reducible refine(impl_ExprOk.calls a1_0 a1_1 a1_2 t498 _ A7.out).mono ?_);rintro e w9 ⟨rfl,hb⟩;replace BK496:=Za (Zi (g:=gb496) (o:= .cells #[.int .i64 a1_0,.int .i64 a1_1,.int .i64 a1_2] 72 (0,0)) z7_14 hb);replace HB:=Za (Zj z7_3 hb);(try clear hb);(try clear hb2);(try clear hk);(try clear hi))))
   go_meet
   case rel=>exact⟨_,(!t498),(by first|rfl|(simp;done)|(simp[*];done)),H',⟨by first|omega|exact Nat.le_refl _⟩,⟨by(with_reducible repeat(first|refine blk_drewN ?_ _|refine blk_drew ?_|refine blk_alloc ?_ _));exact BK496.out⟩,⟨by repeat(first|(with_reducible first|exact HB.out|apply Zh|apply Zf|apply Ze|refine Zd ?_ GE496.out)|exact HB.out)⟩⟩
  ·replace c6:=Bool.eq_false_iff.mpr c6
   subst c6
   rw[if_neg (show ¬(false=true) by decide)] at H
   have H':=Za H
   clear H
   go_wp2_with (first|(go_at_call 81;(with_reducible refine(impl_VarsOk.calls _ _ l0 false _ ?side1 ?side2 A5.out).mono ?_);(case side1=>exact z7_1);(case side2=>exact z7_9);rintro e w' ⟨rfl,⟨nd,rfl⟩⟩;(try first|exact⟨rfl,_,Zl _ _ _⟩|exact⟨rfl,_,Eq.trans (Zl _ _ _) (congrArg (World.drewN _) (Nat.add_assoc _ _ _))⟩)))
   repeat(go_quiet (first|(go_at_call 81;(with_reducible refine(impl_VarsOk.calls _ _ l0 false _ ?side1 ?side2 A5.out).mono ?_);(case side1=>exact z7_1);(case side2=>exact z7_9);rintro e w' ⟨rfl,⟨nd,rfl⟩⟩;(try first|exact⟨rfl,_,Zl _ _ _⟩|exact⟨rfl,_,Eq.trans (Zl _ _ _) (congrArg (World.drewN _) (Nat.add_assoc _ _ _))⟩)));try go_wp2_with (first|(go_at_call 81;(with_reducible refine(impl_VarsOk.calls _ _ l0 false _ ?side1 ?side2 A5.out).mono ?_);(case side1=>exact z7_1);(case side2=>exact z7_9);rintro e w' ⟨rfl,⟨nd,rfl⟩⟩;(try first|exact⟨rfl,_,Zl _ _ _⟩|exact⟨rfl,_,Eq.trans (Zl _ _ _) (congrArg (World.drewN _) (Nat.add_assoc _ _ _))⟩))))
   go_meet
   case rel=>exact⟨_,(true),(by first|rfl|(simp;done)|(simp[*];done)),H',⟨by first|omega|exact Nat.le_refl _⟩,⟨by(with_reducible repeat(first|refine blk_drewN ?_ _|refine blk_drew ?_|refine blk_alloc ?_ _));exact BK496.out⟩,⟨by repeat(first|(with_reducible first|exact HB.out|apply Zh|apply Zf|apply Ze|refine Zd ?_ GE496.out)|exact HB.out)⟩⟩
 case rest=>
  clear HC3
  obtain⟨kq,x14_2,rfl,HA,HJ2,BK496,HB⟩:=hcut
  cases kq with
  |zero=>exact absurd HA.out (by simp[impl_EvalExpr.j0])
  |succ kj2=>
   have H:=HA.out
   clear HA
   simp only[impl_EvalExpr.j0] at H
   by_cases c10:x14_2=true
   ·subst c10
    rw[if_pos rfl] at H
    obtain rfl:=Zk H
    go_wp2
    repeat(go_quiet (fail);try go_wp2)
    go_ret
    exact⟨by first|rfl|(simp[errW_none,errW_some]<;>rfl)|(simp[*,errW_none,errW_some]<;>rfl)|(simp[*,errW_none,errW_some,i64_w];done),by repeat(first|(with_reducible first|exact HB.out|apply Zh|apply Zf|apply Ze|refine Zd ?_ GE496.out)|exact HB.out)⟩
   ·replace c10:=Bool.eq_false_iff.mpr c10
    subst c10
    rw[if_neg (show ¬(false=true) by decide)] at H
    replace H:=Zg H
    obtain⟨t499,A110,H⟩:=H
    replace H:((impl_operand.f l0 a1_2).bind fun t500=>(if a1_0=1 then ((impl_AddValues.f t499 t500).bind fun t501=>(some t501)) else (if a1_0=2 then ((impl_SubValues.f t499 t500).bind fun t502=>(some t502)) else (if a1_0=3 then ((impl_MulValues.f t499 t500).bind fun t503=>(some t503)) else (if a1_0=4 then (some (mn t499 t500)) else (if a1_0=5 then (some (mx t499 t500)) else (if a1_0=6 then ((impl_bit.f (decide (t499<t500))).bind fun t504=>(some t504)) else ((impl_bit.f (t499==t500)).bind fun t505=>(some t505)))))))))=some r:=H
    have A11:=Za A110
    clear A110
    replace H:=Zg H
    obtain⟨t500,A120,H⟩:=H
    replace H:(if a1_0=1 then ((impl_AddValues.f t499 t500).bind fun t501=>(some t501)) else (if a1_0=2 then ((impl_SubValues.f t499 t500).bind fun t502=>(some t502)) else (if a1_0=3 then ((impl_MulValues.f t499 t500).bind fun t503=>(some t503)) else (if a1_0=4 then (some (mn t499 t500)) else (if a1_0=5 then (some (mx t499 t500)) else (if a1_0=6 then ((impl_bit.f (decide (t499<t500))).bind fun t504=>(some t504)) else ((impl_bit.f (t499==t500)).bind fun t505=>(some t505))))))))=some r:=H
    have A12:=Za A120
    clear A120
    by_cases c13:a1_0=1
    ·rw[if_pos c13] at H
     have c13b0:(a1_0==1)=true:=beq_iff_eq.mpr c13
     have c13b1:(a1_0 != 1)=false:=bne_eq_false_iff_eq.mpr c13
     clear c13
     replace H:=Zg H
     obtain⟨t501,A140,H⟩:=H
     replace H:(some t501)=some r:=H
     have A14:=Za A140
     clear A140
     obtain rfl:=Zk H
     have hcz15_0:wc.cell? ⟨gb496,0,none⟩=some (.int .i64 a1_0):=(Zb BK496.out 0).trans rfl
     have hcz15_1:wc.cell? ⟨gb496,1,none⟩=some (.int .i64 a1_1):=(Zb BK496.out 1).trans rfl
     have hcz15_2:wc.cell? ⟨gb496,2,none⟩=some (.int .i64 a1_2):=(Zb BK496.out 2).trans rfl
     have hfz15_0:=Zc BK496.out 0
     have hfz15_1:=Zc BK496.out 1
     have hfz15_2:=Zc BK496.out 2
     go_wp2_with (first|(go_at_call 83;(with_reducible refine(impl_operand.calls _ _ l0 a1_1 t499 _ ?side1 ?side2 A11.out).mono ?_);(case side1=>exact z7_1);(case side2=>exact z7_9);rintro e w' ⟨rfl,⟨nd,rfl⟩⟩;(try first|exact⟨rfl,_,Zl _ _ _⟩|exact⟨rfl,_,Eq.trans (Zl _ _ _) (congrArg (World.drewN _) (Nat.add_assoc _ _ _))⟩))|(go_at_call 83;(with_reducible refine(impl_operand.calls _ _ l0 a1_2 t500 _ ?side1 ?side2 A12.out).mono ?_);(case side1=>exact z7_0);(case side2=>exact z7_9);rintro e w' ⟨rfl,⟨nd,rfl⟩⟩;(try first|exact⟨rfl,_,Zl _ _ _⟩|exact⟨rfl,_,Eq.trans (Zl _ _ _) (congrArg (World.drewN _) (Nat.add_assoc _ _ _))⟩))|(go_at_call 84;(with_reducible refine(impl_AddValues.calls t499 t500 t501 _ A14.out).mono ?_);rintro e w' ⟨rfl,⟨nd,rfl⟩⟩;(try first|exact⟨rfl,_,Zl _ _ _⟩|exact⟨rfl,_,Eq.trans (Zl _ _ _) (congrArg (World.drewN _) (Nat.add_assoc _ _ _))⟩)))
     repeat(go_quiet (first|(go_at_call 83;(with_reducible refine(impl_operand.calls _ _ l0 a1_1 t499 _ ?side1 ?side2 A11.out).mono ?_);(case side1=>exact z7_1);(case side2=>exact z7_9);rintro e w' ⟨rfl,⟨nd,rfl⟩⟩;(try first|exact⟨rfl,_,Zl _ _ _⟩|exact⟨rfl,_,Eq.trans (Zl _ _ _) (congrArg (World.drewN _) (Nat.add_assoc _ _ _))⟩))|(go_at_call 83;(with_reducible refine(impl_operand.calls _ _ l0 a1_2 t500 _ ?side1 ?side2 A12.out).mono ?_);(case side1=>exact z7_0);(case side2=>exact z7_9);rintro e w' ⟨rfl,⟨nd,rfl⟩⟩;(try first|exact⟨rfl,_,Zl _ _ _⟩|exact⟨rfl,_,Eq.trans (Zl _ _ _) (congrArg (World.drewN _) (Nat.add_assoc _ _ _))⟩))|(go_at_call 84;(with_reducible refine(impl_AddValues.calls t499 t500 t501 _ A14.out).mono ?_);rintro e w' ⟨rfl,⟨nd,rfl⟩⟩;(try first|exact⟨rfl,_,Zl _ _ _⟩|exact⟨rfl,_,Eq.trans (Zl _ _ _) (congrArg (World.drewN _) (Nat.add_assoc _ _ _))⟩)));try go_wp2_with (first|(go_at_call 83;(with_reducible refine(impl_operand.calls _ _ l0 a1_1 t499 _ ?side1 ?side2 A11.out).mono ?_);(case side1=>exact z7_1);(case side2=>exact z7_9);rintro e w' ⟨rfl,⟨nd,rfl⟩⟩;(try first|exact⟨rfl,_,Zl _ _ _⟩|exact⟨rfl,_,Eq.trans (Zl _ _ _) (congrArg (World.drewN _) (Nat.add_assoc _ _ _))⟩))|(go_at_call 83;(with_reducible refine(impl_operand.calls _ _ l0 a1_2 t500 _ ?side1 ?side2 A12.out).mono ?_);(case side1=>exact z7_0);(case side2=>exact z7_9);rintro e w' ⟨rfl,⟨nd,rfl⟩⟩;(try first|exact⟨rfl,_,Zl _ _ _⟩|exact⟨rfl,_,Eq.trans (Zl _ _ _) (congrArg (World.drewN _) (Nat.add_assoc _ _ _))⟩))|(go_at_call 84;(with_reducible refine(impl_AddValues.calls t499 t500 t501 _ A14.out).mono ?_);rintro e w' ⟨rfl,⟨nd,rfl⟩⟩;(try first|exact⟨rfl,_,Zl _ _ _⟩|exact⟨rfl,_,Eq.trans (Zl _ _ _) (congrArg (World.drewN _) (Nat.add_assoc _ _ _))⟩))))
     go_ret
     exact⟨by first|rfl|(simp[errW_none,errW_some]<;>rfl)|(simp[*,errW_none,errW_some]<;>rfl)|(simp[*,errW_none,errW_some,i64_w];done),by repeat(first|(with_reducible first|exact HB.out|apply Zh|apply Zf|apply Ze|refine Zd ?_ GE496.out)|exact HB.out)⟩
    ·rw[if_neg c13] at H
     have c13b0:(a1_0==1)=false:=beq_eq_false_iff_ne.mpr c13
     have c13b1:(a1_0 != 1)=true:=bne_iff_ne.mpr c13
     by_cases c16:a1_0=2
     ·rw[if_pos c16] at H
      have c16b0:(a1_0==2)=true:=beq_iff_eq.mpr c16
      have c16b1:(a1_0 != 2)=false:=bne_eq_false_iff_eq.mpr c16
      clear c16
      replace H:=Zg H
      obtain⟨t502,A170,H⟩:=H
      replace H:(some t502)=some r:=H
      have A17:=Za A170
      clear A170
      obtain rfl:=Zk H
      have hcz18_0:wc.cell? ⟨gb496,0,none⟩=some (.int .i64 a1_0):=(Zb BK496.out 0).trans rfl
      have hcz18_1:wc.cell? ⟨gb496,1,none⟩=some (.int .i64 a1_1):=(Zb BK496.out 1).trans rfl
      have hcz18_2:wc.cell? ⟨gb496,2,none⟩=some (.int .i64 a1_2):=(Zb BK496.out 2).trans rfl
      have hfz18_0:=Zc BK496.out 0
      have hfz18_1:=Zc BK496.out 1
      have hfz18_2:=Zc BK496.out 2
      go_wp2_with (first|(go_at_call 83;(with_reducible refine(impl_operand.calls _ _ l0 a1_1 t499 _ ?side1 ?side2 A11.out).mono ?_);(case side1=>exact z7_1);(case side2=>exact z7_9);rintro e w' ⟨rfl,⟨nd,rfl⟩⟩;(try first|exact⟨rfl,_,Zl _ _ _⟩|exact⟨rfl,_,Eq.trans (Zl _ _ _) (congrArg (World.drewN _) (Nat.add_assoc _ _ _))⟩))|(go_at_call 83;(with_reducible refine(impl_operand.calls _ _ l0 a1_2 t500 _ ?side1 ?side2 A12.out).mono ?_);(case side1=>exact z7_0);(case side2=>exact z7_9);rintro e w' ⟨rfl,⟨nd,rfl⟩⟩;(try first|exact⟨rfl,_,Zl _ _ _⟩|exact⟨rfl,_,Eq.trans (Zl _ _ _) (congrArg (World.drewN _) (Nat.add_assoc _ _ _))⟩))|(go_at_call 85;(with_reducible refine(impl_SubValues.calls t499 t500 t502 _ A17.out).mono ?_);rintro e w' ⟨rfl,⟨nd,rfl⟩⟩;(try first|exact⟨rfl,_,Zl _ _ _⟩|exact⟨rfl,_,Eq.trans (Zl _ _ _) (congrArg (World.drewN _) (Nat.add_assoc _ _ _))⟩)))
      repeat(go_quiet (first|(go_at_call 83;(with_reducible refine(impl_operand.calls _ _ l0 a1_1 t499 _ ?side1 ?side2 A11.out).mono ?_);(case side1=>exact z7_1);(case side2=>exact z7_9);rintro e w' ⟨rfl,⟨nd,rfl⟩⟩;(try first|exact⟨rfl,_,Zl _ _ _⟩|exact⟨rfl,_,Eq.trans (Zl _ _ _) (congrArg (World.drewN _) (Nat.add_assoc _ _ _))⟩))|(go_at_call 83;(with_reducible refine(impl_operand.calls _ _ l0 a1_2 t500 _ ?side1 ?side2 A12.out).mono ?_);(case side1=>exact z7_0);(case side2=>exact z7_9);rintro e w' ⟨rfl,⟨nd,rfl⟩⟩;(try first|exact⟨rfl,_,Zl _ _ _⟩|exact⟨rfl,_,Eq.trans (Zl _ _ _) (congrArg (World.drewN _) (Nat.add_assoc _ _ _))⟩))|(go_at_call 85;(with_reducible refine(impl_SubValues.calls t499 t500 t502 _ A17.out).mono ?_);rintro e w' ⟨rfl,⟨nd,rfl⟩⟩;(try first|exact⟨rfl,_,Zl _ _ _⟩|exact⟨rfl,_,Eq.trans (Zl _ _ _) (congrArg (World.drewN _) (Nat.add_assoc _ _ _))⟩)));try go_wp2_with (first|(go_at_call 83;(with_reducible refine(impl_operand.calls _ _ l0 a1_1 t499 _ ?side1 ?side2 A11.out).mono ?_);(case side1=>exact z7_1);(case side2=>exact z7_9);rintro e w' ⟨rfl,⟨nd,rfl⟩⟩;(try first|exact⟨rfl,_,Zl _ _ _⟩|exact⟨rfl,_,Eq.trans (Zl _ _ _) (congrArg (World.drewN _) (Nat.add_assoc _ _ _))⟩))|(go_at_call 83;(with_reducible refine(impl_operand.calls _ _ l0 a1_2 t500 _ ?side1 ?side2 A12.out).mono ?_);(case side1=>exact z7_0);(case side2=>exact z7_9);rintro e w' ⟨rfl,⟨nd,rfl⟩⟩;(try first|exact⟨rfl,_,Zl _ _ _⟩|exact⟨rfl,_,Eq.trans (Zl _ _ _) (congrArg (World.drewN _) (Nat.add_assoc _ _ _))⟩))|(go_at_call 85;(with_reducible refine(impl_SubValues.calls t499 t500 t502 _ A17.out).mono ?_);rintro e w' ⟨rfl,⟨nd,rfl⟩⟩;(try first|exact⟨rfl,_,Zl _ _ _⟩|exact⟨rfl,_,Eq.trans (Zl _ _ _) (congrArg (World.drewN _) (Nat.add_assoc _ _ _))⟩))))
      go_ret
      exact⟨by first|rfl|(simp[errW_none,errW_some]<;>rfl)|(simp[*,errW_none,errW_some]<;>rfl)|(simp[*,errW_none,errW_some,i64_w];done),by repeat(first|(with_reducible first|exact HB.out|apply Zh|apply Zf|apply Ze|refine Zd ?_ GE496.out)|exact HB.out)⟩
     ·rw[if_neg c16] at H
      have c16b0:(a1_0==2)=false:=beq_eq_false_iff_ne.mpr c16
      have c16b1:(a1_0 != 2)=true:=bne_iff_ne.mpr c16
      by_cases c19:a1_0=3
      ·rw[if_pos c19] at H
       have c19b0:(a1_0==3)=true:=beq_iff_eq.mpr c19
       have c19b1:(a1_0 != 3)=false:=bne_eq_false_iff_eq.mpr c19
       clear c19
       replace H:=Zg H
       obtain⟨t503,A200,H⟩:=H
       replace H:(some t503)=some r:=H
       have A20:=Za A200
       clear A200
       obtain rfl:=Zk H
       have hcz21_0:wc.cell? ⟨gb496,0,none⟩=some (.int .i64 a1_0):=(Zb BK496.out 0).trans rfl
       have hcz21_1:wc.cell? ⟨gb496,1,none⟩=some (.int .i64 a1_1):=(Zb BK496.out 1).trans rfl
       have hcz21_2:wc.cell? ⟨gb496,2,none⟩=some (.int .i64 a1_2):=(Zb BK496.out 2).trans rfl
       have hfz21_0:=Zc BK496.out 0
       have hfz21_1:=Zc BK496.out 1
       have hfz21_2:=Zc BK496.out 2
       go_wp2_with (first|(go_at_call 83;(with_reducible refine(impl_operand.calls _ _ l0 a1_1 t499 _ ?side1 ?side2 A11.out).mono ?_);(case side1=>exact z7_1);(case side2=>exact z7_9);rintro e w' ⟨rfl,⟨nd,rfl⟩⟩;(try first|exact⟨rfl,_,Zl _ _ _⟩|exact⟨rfl,_,Eq.trans (Zl _ _ _) (congrArg (World.drewN _) (Nat.add_assoc _ _ _))⟩))|(go_at_call 83;(with_reducible refine(impl_operand.calls _ _ l0 a1_2 t500 _ ?side1 ?side2 A12.out).mono ?_);(case side1=>exact z7_0);(case side2=>exact z7_9);rintro e w' ⟨rfl,⟨nd,rfl⟩⟩;(try first|exact⟨rfl,_,Zl _ _ _⟩|exact⟨rfl,_,Eq.trans (Zl _ _ _) (congrArg (World.drewN _) (Nat.add_assoc _ _ _))⟩))|(go_at_call 86;(with_reducible refine(impl_MulValues.calls t499 t500 t503 _ A20.out).mono ?_);rintro e w' ⟨rfl,⟨nd,rfl⟩⟩;(try first|exact⟨rfl,_,Zl _ _ _⟩|exact⟨rfl,_,Eq.trans (Zl _ _ _) (congrArg (World.drewN _) (Nat.add_assoc _ _ _))⟩)))
       repeat(go_quiet (first|(go_at_call 83;(with_reducible refine(impl_operand.calls _ _ l0 a1_1 t499 _ ?side1 ?side2 A11.out).mono ?_);(case side1=>exact z7_1);(case side2=>exact z7_9);rintro e w' ⟨rfl,⟨nd,rfl⟩⟩;(try first|exact⟨rfl,_,Zl _ _ _⟩|exact⟨rfl,_,Eq.trans (Zl _ _ _) (congrArg (World.drewN _) (Nat.add_assoc _ _ _))⟩))|(go_at_call 83;(with_reducible refine(impl_operand.calls _ _ l0 a1_2 t500 _ ?side1 ?side2 A12.out).mono ?_);(case side1=>exact z7_0);(case side2=>exact z7_9);rintro e w' ⟨rfl,⟨nd,rfl⟩⟩;(try first|exact⟨rfl,_,Zl _ _ _⟩|exact⟨rfl,_,Eq.trans (Zl _ _ _) (congrArg (World.drewN _) (Nat.add_assoc _ _ _))⟩))|(go_at_call 86;(with_reducible refine(impl_MulValues.calls t499 t500 t503 _ A20.out).mono ?_);rintro e w' ⟨rfl,⟨nd,rfl⟩⟩;(try first|exact⟨rfl,_,Zl _ _ _⟩|exact⟨rfl,_,Eq.trans (Zl _ _ _) (congrArg (World.drewN _) (Nat.add_assoc _ _ _))⟩)));try go_wp2_with (first|(go_at_call 83;(with_reducible refine(impl_operand.calls _ _ l0 a1_1 t499 _ ?side1 ?side2 A11.out).mono ?_);(case side1=>exact z7_1);(case side2=>exact z7_9);rintro e w' ⟨rfl,⟨nd,rfl⟩⟩;(try first|exact⟨rfl,_,Zl _ _ _⟩|exact⟨rfl,_,Eq.trans (Zl _ _ _) (congrArg (World.drewN _) (Nat.add_assoc _ _ _))⟩))|(go_at_call 83;(with_reducible refine(impl_operand.calls _ _ l0 a1_2 t500 _ ?side1 ?side2 A12.out).mono ?_);(case side1=>exact z7_0);(case side2=>exact z7_9);rintro e w' ⟨rfl,⟨nd,rfl⟩⟩;(try first|exact⟨rfl,_,Zl _ _ _⟩|exact⟨rfl,_,Eq.trans (Zl _ _ _) (congrArg (World.drewN _) (Nat.add_assoc _ _ _))⟩))|(go_at_call 86;(with_reducible refine(impl_MulValues.calls t499 t500 t503 _ A20.out).mono ?_);rintro e w' ⟨rfl,⟨nd,rfl⟩⟩;(try first|exact⟨rfl,_,Zl _ _ _⟩|exact⟨rfl,_,Eq.trans (Zl _ _ _) (congrArg (World.drewN _) (Nat.add_assoc _ _ _))⟩))))
       go_ret
       exact⟨by first|rfl|(simp[errW_none,errW_some]<;>rfl)|(simp[*,errW_none,errW_some]<;>rfl)|(simp[*,errW_none,errW_some,i64_w];done),by repeat(first|(with_reducible first|exact HB.out|apply Zh|apply Zf|apply Ze|refine Zd ?_ GE496.out)|exact HB.out)⟩
      ·rw[if_neg c19] at H
       have c19b0:(a1_0==3)=false:=beq_eq_false_iff_ne.mpr c19
       have c19b1:(a1_0 != 3)=true:=bne_iff_ne.mpr c19
       by_cases c22:a1_0=4
       ·rw[if_pos c22] at H
        have c22b0:(a1_0==4)=true:=beq_iff_eq.mpr c22
        have c22b1:(a1_0 != 4)=false:=bne_eq_false_iff_eq.mpr c22
        clear c22
        obtain⟨ji23,hji23⟩:∃j_:Int,(mn t499 t500)=j_:=⟨_,rfl⟩
        replace H:(some ji23)=some r:=by first|(rw[hji23] at H;exact H)|(simp only[hji23] at H ⊢;exact H)
        (try rw[hji23] at A11)
        (try rw[hji23] at A12)
        have hji23_:(if t500<t499 then t500 else t499)=ji23:=hji23
        obtain rfl:=Zk H
        have hcz24_0:wc.cell? ⟨gb496,0,none⟩=some (.int .i64 a1_0):=(Zb BK496.out 0).trans rfl
        have hcz24_1:wc.cell? ⟨gb496,1,none⟩=some (.int .i64 a1_1):=(Zb BK496.out 1).trans rfl
        have hcz24_2:wc.cell? ⟨gb496,2,none⟩=some (.int .i64 a1_2):=(Zb BK496.out 2).trans rfl
        have hfz24_0:=Zc BK496.out 0
        have hfz24_1:=Zc BK496.out 1
        have hfz24_2:=Zc BK496.out 2
        go_wp2_with (first|(go_at_call 83;(with_reducible refine(impl_operand.calls _ _ l0 a1_1 t499 _ ?side1 ?side2 A11.out).mono ?_);(case side1=>exact z7_1);(case side2=>exact z7_9);rintro e w' ⟨rfl,⟨nd,rfl⟩⟩;(try first|exact⟨rfl,_,Zl _ _ _⟩|exact⟨rfl,_,Eq.trans (Zl _ _ _) (congrArg (World.drewN _) (Nat.add_assoc _ _ _))⟩))|(go_at_call 83;(with_reducible refine(impl_operand.calls _ _ l0 a1_2 t500 _ ?side1 ?side2 A12.out).mono ?_);(case side1=>exact z7_0);(case side2=>exact z7_9);rintro e w' ⟨rfl,⟨nd,rfl⟩⟩;(try first|exact⟨rfl,_,Zl _ _ _⟩|exact⟨rfl,_,Eq.trans (Zl _ _ _) (congrArg (World.drewN _) (Nat.add_assoc _ _ _))⟩)))
        repeat(go_quiet (first|(go_at_call 83;(with_reducible refine(impl_operand.calls _ _ l0 a1_1 t499 _ ?side1 ?side2 A11.out).mono ?_);(case side1=>exact z7_1);(case side2=>exact z7_9);rintro e w' ⟨rfl,⟨nd,rfl⟩⟩;(try first|exact⟨rfl,_,Zl _ _ _⟩|exact⟨rfl,_,Eq.trans (Zl _ _ _) (congrArg (World.drewN _) (Nat.add_assoc _ _ _))⟩))|(go_at_call 83;(with_reducible refine(impl_operand.calls _ _ l0 a1_2 t500 _ ?side1 ?side2 A12.out).mono ?_);(case side1=>exact z7_0);(case side2=>exact z7_9);rintro e w' ⟨rfl,⟨nd,rfl⟩⟩;(try first|exact⟨rfl,_,Zl _ _ _⟩|exact⟨rfl,_,Eq.trans (Zl _ _ _) (congrArg (World.drewN _) (Nat.add_assoc _ _ _))⟩)));try go_wp2_with (first|(go_at_call 83;(with_reducible refine(impl_operand.calls _ _ l0 a1_1 t499 _ ?side1 ?side2 A11.out).mono ?_);(case side1=>exact z7_1);(case side2=>exact z7_9);rintro e w' ⟨rfl,⟨nd,rfl⟩⟩;(try first|exact⟨rfl,_,Zl _ _ _⟩|exact⟨rfl,_,Eq.trans (Zl _ _ _) (congrArg (World.drewN _) (Nat.add_assoc _ _ _))⟩))|(go_at_call 83;(with_reducible refine(impl_operand.calls _ _ l0 a1_2 t500 _ ?side1 ?side2 A12.out).mono ?_);(case side1=>exact z7_0);(case side2=>exact z7_9);rintro e w' ⟨rfl,⟨nd,rfl⟩⟩;(try first|exact⟨rfl,_,Zl _ _ _⟩|exact⟨rfl,_,Eq.trans (Zl _ _ _) (congrArg (World.drewN _) (Nat.add_assoc _ _ _))⟩))))
        go_ret
        exact⟨by first|rfl|(simp[errW_none,errW_some]<;>rfl)|(simp only[←hji23];first|rfl|(simp[errW_none,errW_some]<;>rfl))|(simp[*,errW_none,errW_some]<;>rfl)|(simp[*,errW_none,errW_some,i64_w];done),by repeat(first|(with_reducible first|exact HB.out|apply Zh|apply Zf|apply Ze|refine Zd ?_ GE496.out)|exact HB.out)⟩
       ·rw[if_neg c22] at H
        have c22b0:(a1_0==4)=false:=beq_eq_false_iff_ne.mpr c22
        have c22b1:(a1_0 != 4)=true:=bne_iff_ne.mpr c22
        by_cases c25:a1_0=5
        ·rw[if_pos c25] at H
         have c25b0:(a1_0==5)=true:=beq_iff_eq.mpr c25
         have c25b1:(a1_0 != 5)=false:=bne_eq_false_iff_eq.mpr c25
         clear c25
         obtain⟨ji26,hji26⟩:∃j_:Int,(mx t499 t500)=j_:=⟨_,rfl⟩
         replace H:(some ji26)=some r:=by first|(rw[hji26] at H;exact H)|(simp only[hji26] at H ⊢;exact H)
         (try rw[hji26] at A11)
         (try rw[hji26] at A12)
         have hji26_:(if t499<t500 then t500 else t499)=ji26:=hji26
         obtain rfl:=Zk H
         have hcz27_0:wc.cell? ⟨gb496,0,none⟩=some (.int .i64 a1_0):=(Zb BK496.out 0).trans rfl
         have hcz27_1:wc.cell? ⟨gb496,1,none⟩=some (.int .i64 a1_1):=(Zb BK496.out 1).trans rfl
         have hcz27_2:wc.cell? ⟨gb496,2,none⟩=some (.int .i64 a1_2):=(Zb BK496.out 2).trans rfl
         have hfz27_0:=Zc BK496.out 0
         have hfz27_1:=Zc BK496.out 1
         have hfz27_2:=Zc BK496.out 2
         go_wp2_with (first|(go_at_call 83;(with_reducible refine(impl_operand.calls _ _ l0 a1_1 t499 _ ?side1 ?side2 A11.out).mono ?_);(case side1=>exact z7_1);(case side2=>exact z7_9);rintro e w' ⟨rfl,⟨nd,rfl⟩⟩;(try first|exact⟨rfl,_,Zl _ _ _⟩|exact⟨rfl,_,Eq.trans (Zl _ _ _) (congrArg (World.drewN _) (Nat.add_assoc _ _ _))⟩))|(go_at_call 83;(with_reducible refine(impl_operand.calls _ _ l0 a1_2 t500 _ ?side1 ?side2 A12.out).mono ?_);(case side1=>exact z7_0);(case side2=>exact z7_9);rintro e w' ⟨rfl,⟨nd,rfl⟩⟩;(try first|exact⟨rfl,_,Zl _ _ _⟩|exact⟨rfl,_,Eq.trans (Zl _ _ _) (congrArg (World.drewN _) (Nat.add_assoc _ _ _))⟩)))
         repeat(go_quiet (first|(go_at_call 83;(with_reducible refine(impl_operand.calls _ _ l0 a1_1 t499 _ ?side1 ?side2 A11.out).mono ?_);(case side1=>exact z7_1);(case side2=>exact z7_9);rintro e w' ⟨rfl,⟨nd,rfl⟩⟩;(try first|exact⟨rfl,_,Zl _ _ _⟩|exact⟨rfl,_,Eq.trans (Zl _ _ _) (congrArg (World.drewN _) (Nat.add_assoc _ _ _))⟩))|(go_at_call 83;(with_reducible refine(impl_operand.calls _ _ l0 a1_2 t500 _ ?side1 ?side2 A12.out).mono ?_);(case side1=>exact z7_0);(case side2=>exact z7_9);rintro e w' ⟨rfl,⟨nd,rfl⟩⟩;(try first|exact⟨rfl,_,Zl _ _ _⟩|exact⟨rfl,_,Eq.trans (Zl _ _ _) (congrArg (World.drewN _) (Nat.add_assoc _ _ _))⟩)));try go_wp2_with (first|(go_at_call 83;(with_reducible refine(impl_operand.calls _ _ l0 a1_1 t499 _ ?side1 ?side2 A11.out).mono ?_);(case side1=>exact z7_1);(case side2=>exact z7_9);rintro e w' ⟨rfl,⟨nd,rfl⟩⟩;(try first|exact⟨rfl,_,Zl _ _ _⟩|exact⟨rfl,_,Eq.trans (Zl _ _ _) (congrArg (World.drewN _) (Nat.add_assoc _ _ _))⟩))|(go_at_call 83;(with_reducible refine(impl_operand.calls _ _ l0 a1_2 t500 _ ?side1 ?side2 A12.out).mono ?_);(case side1=>exact z7_0);(case side2=>exact z7_9);rintro e w' ⟨rfl,⟨nd,rfl⟩⟩;(try first|exact⟨rfl,_,Zl _ _ _⟩|exact⟨rfl,_,Eq.trans (Zl _ _ _) (congrArg (World.drewN _) (Nat.add_assoc _ _ _))⟩))))
         go_ret
         exact⟨by first|rfl|(simp[errW_none,errW_some]<;>rfl)|(simp only[←hji26];first|rfl|(simp[errW_none,errW_some]<;>rfl))|(simp[*,errW_none,errW_some]<;>rfl)|(simp[*,errW_none,errW_some,i64_w];done),by repeat(first|(with_reducible first|exact HB.out|apply Zh|apply Zf|apply Ze|refine Zd ?_ GE496.out)|exact HB.out)⟩
        ·rw[if_neg c25] at H
         have c25b0:(a1_0==5)=false:=beq_eq_false_iff_ne.mpr c25
         have c25b1:(a1_0 != 5)=true:=bne_iff_ne.mpr c25
         by_cases c28:a1_0=6
         ·rw[if_pos c28] at H
          have c28b0:(a1_0==6)=true:=beq_iff_eq.mpr c28
          have c28b1:(a1_0 != 6)=false:=bne_eq_false_iff_eq.mpr c28
          clear c28
          replace H:=Zg H
          obtain⟨t504,A290,H⟩:=H
          replace H:(some t504)=some r:=H
          have A29:=Za A290
          clear A290
          obtain rfl:=Zk H
          have hcz30_0:wc.cell? ⟨gb496,0,none⟩=some (.int .i64 a1_0):=(Zb BK496.out 0).trans rfl
          have hcz30_1:wc.cell? ⟨gb496,1,none⟩=some (.int .i64 a1_1):=(Zb BK496.out 1).trans rfl
          have hcz30_2:wc.cell? ⟨gb496,2,none⟩=some (.int .i64 a1_2):=(Zb BK496.out 2).trans rfl
          have hfz30_0:=Zc BK496.out 0
          have hfz30_1:=Zc BK496.out 1
          have hfz30_2:=Zc BK496.out 2
          go_wp2_with (first|(go_at_call 83;(with_reducible refine(impl_operand.calls _ _ l0 a1_1 t499 _ ?side1 ?side2 A11.out).mono ?_);(case side1=>exact z7_1);(case side2=>exact z7_9);rintro e w' ⟨rfl,⟨nd,rfl⟩⟩;(try first|exact⟨rfl,_,Zl _ _ _⟩|exact⟨rfl,_,Eq.trans (Zl _ _ _) (congrArg (World.drewN _) (Nat.add_assoc _ _ _))⟩))|(go_at_call 83;(with_reducible refine(impl_operand.calls _ _ l0 a1_2 t500 _ ?side1 ?side2 A12.out).mono ?_);(case side1=>exact z7_0);(case side2=>exact z7_9);rintro e w' ⟨rfl,⟨nd,rfl⟩⟩;(try first|exact⟨rfl,_,Zl _ _ _⟩|exact⟨rfl,_,Eq.trans (Zl _ _ _) (congrArg (World.drewN _) (Nat.add_assoc _ _ _))⟩))|(go_at_call 36;(with_reducible refine(impl_bit.calls (decide (t499<t500)) t504 _ A29.out).mono ?_);rintro e w' ⟨rfl,⟨nd,rfl⟩⟩;(try first|exact⟨rfl,_,Zl _ _ _⟩|exact⟨rfl,_,Eq.trans (Zl _ _ _) (congrArg (World.drewN _) (Nat.add_assoc _ _ _))⟩)))
          repeat(go_quiet (first|(go_at_call 83;(with_reducible refine(impl_operand.calls _ _ l0 a1_1 t499 _ ?side1 ?side2 A11.out).mono ?_);(case side1=>exact z7_1);(case side2=>exact z7_9);rintro e w' ⟨rfl,⟨nd,rfl⟩⟩;(try first|exact⟨rfl,_,Zl _ _ _⟩|exact⟨rfl,_,Eq.trans (Zl _ _ _) (congrArg (World.drewN _) (Nat.add_assoc _ _ _))⟩))|(go_at_call 83;(with_reducible refine(impl_operand.calls _ _ l0 a1_2 t500 _ ?side1 ?side2 A12.out).mono ?_);(case side1=>exact z7_0);(case side2=>exact z7_9);rintro e w' ⟨rfl,⟨nd,rfl⟩⟩;(try first|exact⟨rfl,_,Zl _ _ _⟩|exact⟨rfl,_,Eq.trans (Zl _ _ _) (congrArg (World.drewN _) (Nat.add_assoc _ _ _))⟩))|(go_at_call 36;(with_reducible refine(impl_bit.calls (decide (t499<t500)) t504 _ A29.out).mono ?_);rintro e w' ⟨rfl,⟨nd,rfl⟩⟩;(try first|exact⟨rfl,_,Zl _ _ _⟩|exact⟨rfl,_,Eq.trans (Zl _ _ _) (congrArg (World.drewN _) (Nat.add_assoc _ _ _))⟩)));try go_wp2_with (first|(go_at_call 83;(with_reducible refine(impl_operand.calls _ _ l0 a1_1 t499 _ ?side1 ?side2 A11.out).mono ?_);(case side1=>exact z7_1);(case side2=>exact z7_9);rintro e w' ⟨rfl,⟨nd,rfl⟩⟩;(try first|exact⟨rfl,_,Zl _ _ _⟩|exact⟨rfl,_,Eq.trans (Zl _ _ _) (congrArg (World.drewN _) (Nat.add_assoc _ _ _))⟩))|(go_at_call 83;(with_reducible refine(impl_operand.calls _ _ l0 a1_2 t500 _ ?side1 ?side2 A12.out).mono ?_);(case side1=>exact z7_0);(case side2=>exact z7_9);rintro e w' ⟨rfl,⟨nd,rfl⟩⟩;(try first|exact⟨rfl,_,Zl _ _ _⟩|exact⟨rfl,_,Eq.trans (Zl _ _ _) (congrArg (World.drewN _) (Nat.add_assoc _ _ _))⟩))|(go_at_call 36;(with_reducible refine(impl_bit.calls (decide (t499<t500)) t504 _ A29.out).mono ?_);rintro e w' ⟨rfl,⟨nd,rfl⟩⟩;(try first|exact⟨rfl,_,Zl _ _ _⟩|exact⟨rfl,_,Eq.trans (Zl _ _ _) (congrArg (World.drewN _) (Nat.add_assoc _ _ _))⟩))))
          go_ret
          exact⟨by first|rfl|(simp[errW_none,errW_some]<;>rfl)|(simp[*,errW_none,errW_some]<;>rfl)|(simp[*,errW_none,errW_some,i64_w];done),by repeat(first|(with_reducible first|exact HB.out|apply Zh|apply Zf|apply Ze|refine Zd ?_ GE496.out)|exact HB.out)⟩
         ·rw[if_neg c28] at H
          have c28b0:(a1_0==6)=false:=beq_eq_false_iff_ne.mpr c28
          have c28b1:(a1_0 != 6)=true:=bne_iff_ne.mpr c28
          replace H:=Zg H
          obtain⟨t505,A310,H⟩:=H
          replace H:(some t505)=some r:=H
          have A31:=Za A310
          clear A310
          obtain rfl:=Zk H
          have hcz32_0:wc.cell? ⟨gb496,0,none⟩=some (.int .i64 a1_0):=(Zb BK496.out 0).trans rfl
          have hcz32_1:wc.cell? ⟨gb496,1,none⟩=some (.int .i64 a1_1):=(Zb BK496.out 1).trans rfl
          have hcz32_2:wc.cell? ⟨gb496,2,none⟩=some (.int .i64 a1_2):=(Zb BK496.out 2).trans rfl
          have hfz32_0:=Zc BK496.out 0
          have hfz32_1:=Zc BK496.out 1
          have hfz32_2:=Zc BK496.out 2
          go_wp2_with (first|(go_at_call 83;(with_reducible refine(impl_operand.calls _ _ l0 a1_1 t499 _ ?side1 ?side2 A11.out).mono ?_);(case side1=>exact z7_1);(case side2=>exact z7_9);rintro e w' ⟨rfl,⟨nd,rfl⟩⟩;(try first|exact⟨rfl,_,Zl _ _ _⟩|exact⟨rfl,_,Eq.trans (Zl _ _ _) (congrArg (World.drewN _) (Nat.add_assoc _ _ _))⟩))|(go_at_call 83;(with_reducible refine(impl_operand.calls _ _ l0 a1_2 t500 _ ?side1 ?side2 A12.out).mono ?_);(case side1=>exact z7_0);(case side2=>exact z7_9);rintro e w' ⟨rfl,⟨nd,rfl⟩⟩;(try first|exact⟨rfl,_,Zl _ _ _⟩|exact⟨rfl,_,Eq.trans (Zl _ _ _) (congrArg (World.drewN _) (Nat.add_assoc _ _ _))⟩))|(go_at_call 36;(with_reducible refine(impl_bit.calls (t499==t500) t505 _ A31.out).mono ?_);rintro e w' ⟨rfl,⟨nd,rfl⟩⟩;(try first|exact⟨rfl,_,Zl _ _ _⟩|exact⟨rfl,_,Eq.trans (Zl _ _ _) (congrArg (World.drewN _) (Nat.add_assoc _ _ _))⟩)))
          repeat(go_quiet (first|(go_at_call 83;(with_reducible refine(impl_operand.calls _ _ l0 a1_1 t499 _ ?side1 ?side2 A11.out).mono ?_);(case side1=>exact z7_1);(case side2=>exact z7_9);rintro e w' ⟨rfl,⟨nd,rfl⟩⟩;(try first|exact⟨rfl,_,Zl _ _ _⟩|exact⟨rfl,_,Eq.trans (Zl _ _ _) (congrArg (World.drewN _) (Nat.add_assoc _ _ _))⟩))|(go_at_call 83;(with_reducible refine(impl_operand.calls _ _ l0 a1_2 t500 _ ?side1 ?side2 A12.out).mono ?_);(case side1=>exact z7_0);(case side2=>exact z7_9);rintro e w' ⟨rfl,⟨nd,rfl⟩⟩;(try first|exact⟨rfl,_,Zl _ _ _⟩|exact⟨rfl,_,Eq.trans (Zl _ _ _) (congrArg (World.drewN _) (Nat.add_assoc _ _ _))⟩))|(go_at_call 36;(with_reducible refine(impl_bit.calls (t499==t500) t505 _ A31.out).mono ?_);rintro e w' ⟨rfl,⟨nd,rfl⟩⟩;(try first|exact⟨rfl,_,Zl _ _ _⟩|exact⟨rfl,_,Eq.trans (Zl _ _ _) (congrArg (World.drewN _) (Nat.add_assoc _ _ _))⟩)));try go_wp2_with (first|(go_at_call 83;(with_reducible refine(impl_operand.calls _ _ l0 a1_1 t499 _ ?side1 ?side2 A11.out).mono ?_);(case side1=>exact z7_1);(case side2=>exact z7_9);rintro e w' ⟨rfl,⟨nd,rfl⟩⟩;(try first|exact⟨rfl,_,Zl _ _ _⟩|exact⟨rfl,_,Eq.trans (Zl _ _ _) (congrArg (World.drewN _) (Nat.add_assoc _ _ _))⟩))|(go_at_call 83;(with_reducible refine(impl_operand.calls _ _ l0 a1_2 t500 _ ?side1 ?side2 A12.out).mono ?_);(case side1=>exact z7_0);(case side2=>exact z7_9);rintro e w' ⟨rfl,⟨nd,rfl⟩⟩;(try first|exact⟨rfl,_,Zl _ _ _⟩|exact⟨rfl,_,Eq.trans (Zl _ _ _) (congrArg (World.drewN _) (Nat.add_assoc _ _ _))⟩))|(go_at_call 36;(with_reducible refine(impl_bit.calls (t499==t500) t505 _ A31.out).mono ?_);rintro e w' ⟨rfl,⟨nd,rfl⟩⟩;(try first|exact⟨rfl,_,Zl _ _ _⟩|exact⟨rfl,_,Eq.trans (Zl _ _ _) (congrArg (World.drewN _) (Nat.add_assoc _ _ _))⟩))))
          go_ret
          exact⟨by first|rfl|(simp[errW_none,errW_some]<;>rfl)|(simp[*,errW_none,errW_some]<;>rfl)|(simp[*,errW_none,errW_some,i64_w];done),by repeat(first|(with_reducible first|exact HB.out|apply Zh|apply Zf|apply Ze|refine Zd ?_ GE496.out)|exact HB.out)⟩
def impl_ReadSensor.f (l0:List Int) (a1:Int) (a2:Int):Option (Int):=if (l0.length:Int)=0 then (some 0) else ((impl_isSensor.f a1).bind fun t506=>(if t506=true then (if a2<0 then (some 0) else (if 0≤(Int.tmod a2 (l0.length:Int)) then (if (Int.tmod a2 (l0.length:Int))<(l0.length:Int) then ((impl_AddValues.f (rd l0 (Int.tmod a2 (l0.length:Int))) (wrap64 (100*a1))).bind fun t508=>(some t508)) else (none)) else (none))) else (some 0)))
set_option maxHeartbeats 8000000 in
set_option maxRecDepth 100000 in
theorem impl_ReadSensor.calls (A0:Option Addr) (c0:Nat) (l0:List Int) (a1:Int) (a2:Int) (r:Int) (w:World) (hr0:Kd.C (Kd.int .i64) w A0 l0.length l0) (hc0:l0.length≤c0) (h:impl_ReadSensor.f l0 a1 a2=some r):
  Calls Tryz.prog 56 #[.slice A0 l0.length c0,.int .i64 a1,.int .i64 a2] w fun e w'=>e= .returned (.int .i64 r)∧Drawn0 w w':=by
 have HR0:=Za hr0
 have HC0:=Za hc0
 clear hr0 hc0
 have H:(if (l0.length:Int)=0 then (some 0) else ((impl_isSensor.f a1).bind fun t506=>(if t506=true then (if a2<0 then (some 0) else (if 0≤(Int.tmod a2 (l0.length:Int)) then (if (Int.tmod a2 (l0.length:Int))<(l0.length:Int) then ((impl_AddValues.f (rd l0 (Int.tmod a2 (l0.length:Int))) (wrap64 (100*a1))).bind fun t508=>(some t508)) else (none)) else (none))) else (some 0))))=some r:=h
 clear h
 by_cases c4:(l0.length:Int)=0
 ·rw[if_pos c4] at H
  have c4b0:((l0.length:Int)==0)=true:=beq_iff_eq.mpr c4
  have c4b1:((l0.length:Int) != 0)=false:=bne_eq_false_iff_eq.mpr c4
  clear c4
  obtain rfl:=Zk H
  go_enter Tryz.func56,Tryz.ntmps56
  go_wp2
  go_ret
  exact⟨by first|rfl|(simp;done)|(simp[*];done),by repeat(first|exact Zv _|apply Zw)⟩
 ·rw[if_neg c4] at H
  have c4b0:((l0.length:Int)==0)=false:=beq_eq_false_iff_ne.mpr c4
  have c4b1:((l0.length:Int) != 0)=true:=bne_iff_ne.mpr c4
  have c4b2:¬(l0=[]):=fun h_=>c4 (by rw[h_];rfl)
  replace H:=Zg H
  obtain⟨t506,A50,H⟩:=H
  replace H:(if t506=true then (if a2<0 then (some 0) else (if 0≤(Int.tmod a2 (l0.length:Int)) then (if (Int.tmod a2 (l0.length:Int))<(l0.length:Int) then ((impl_AddValues.f (rd l0 (Int.tmod a2 (l0.length:Int))) (wrap64 (100*a1))).bind fun t508=>(some t508)) else (none)) else (none))) else (some 0))=some r:=H
  have A5:=Za A50
  clear A50
  by_cases c6:t506=true
  ·subst c6
   rw[if_pos rfl] at H
   by_cases c7:a2<0
   ·rw[if_pos c7] at H
    have c7b0:decide (a2<0)=true:=Zq c7
    clear c7
    obtain rfl:=Zk H
    go_enter Tryz.func56,Tryz.ntmps56
    go_wp2_with (first|(go_at_call 87;(with_reducible refine(impl_isSensor.calls a1 true _ A5.out).mono ?_);rintro e w' ⟨rfl,⟨nd,rfl⟩⟩))
    go_ret
    exact⟨by first|rfl|(simp;done)|(simp[*];done),by repeat(first|exact Zv _|apply Zw)⟩
   ·rw[if_neg c7] at H
    have c7b0:decide (a2<0)=false:=Yf c7
    clear c7
    obtain⟨ji8,hji8⟩:∃j_:Int,(Int.tmod a2 (l0.length:Int))=j_:=⟨_,rfl⟩
    replace H:(if 0≤(ji8) then (if (ji8)<(l0.length:Int) then ((impl_AddValues.f (rd l0 (ji8)) (wrap64 (100*a1))).bind fun t508=>(some t508)) else (none)) else (none))=some r:=by first|(rw[hji8] at H;exact H)|(simp only[hji8] at H ⊢;exact H)
    (try rw[hji8] at A5)
    by_cases c9:0≤(ji8)
    ·rw[if_pos c9] at H
     have c9b0:decide (0≤(ji8))=true:=Zq c9
     clear c9
     by_cases c10:(ji8)<(l0.length:Int)
     ·rw[if_pos c10] at H
      have c10b0:decide ((ji8)<(l0.length:Int))=true:=Zq c10
      clear c10
      replace H:=Zg H
      obtain⟨t508,A110,H⟩:=H
      replace H:(some t508)=some r:=H
      have A11:=Za A110
      clear A110
      obtain rfl:=Zk H
      go_enter Tryz.func56,Tryz.ntmps56
      go_wp2_with (first|(go_at_call 87;(with_reducible refine(impl_isSensor.calls a1 true _ A5.out).mono ?_);rintro e w' ⟨rfl,⟨nd,rfl⟩⟩;have p507:0≤((ji8):Int):=Zs z7_12;have q507:(ji8)<(l0.length:Int):=Zs z7_12;obtain⟨ad507,e507,hx507_0⟩:=Kd.at_int HR0.out (ji8) p507 q507;cases e507;replace p507:=eq_true p507;replace q507:=eq_true q507)|((first|((with_reducible refine gate_callee (f:=84) rfl ?_);refine goesL_ (some 28) rfl rfl Tryz.func84 z7_6 rfl #[.int .i64 (rd l0 (ji8)),.int .i64 (wrap64 (100*a1))] rfl (by(try simp only[Ys,List.map_cons,List.map_nil]);first|done|(simp only[hji8];rfl)|rfl|(simp only[List.length_drop,List.length_take];rfl)) ?_;(with_reducible refine(impl_AddValues.calls (rd l0 (ji8)) (wrap64 (100*a1)) t508 _ A11.out).mono ?_))|(go_at_call 84;(with_reducible refine(impl_AddValues.calls (rd l0 (ji8)) (wrap64 (100*a1)) t508 _ A11.out).mono ?_)));rintro e w' ⟨rfl,⟨nd,rfl⟩⟩;(first|refine⟨_,rfl,?_⟩|skip)))
      go_ret
      exact⟨by first|rfl|(simp;done)|(simp only[←hji8]<;>(first|rfl|simp))|(simp[*];done),by repeat(first|exact Zv _|apply Zw)⟩
     ·rw[if_neg c10] at H
      exact absurd H (by simp)
    ·rw[if_neg c9] at H
     exact absurd H (by simp)
  ·replace c6:=Bool.eq_false_iff.mpr c6
   subst c6
   rw[if_neg (show ¬(false=true) by decide)] at H
   obtain rfl:=Zk H
   go_enter Tryz.func56,Tryz.ntmps56
   go_wp2_with (first|(go_at_call 87;(with_reducible refine(impl_isSensor.calls a1 false _ A5.out).mono ?_);rintro e w' ⟨rfl,⟨nd,rfl⟩⟩))
   go_ret
   exact⟨by first|rfl|(simp;done)|(simp[*];done),by repeat(first|exact Zv _|apply Zw)⟩
def impl_hasTask.f (k:Nat) (l0_0:List (S75)) (a1:Int):Option (Bool):=(impl_ProgramOk.f k l0_0).bind fun t510=>(if t510=true then ((impl_within.f a1 0 (wrap64 ((l0_0.length:Int) - 1))).bind fun t511=>(some t511)) else (some false))
set_option maxHeartbeats 8000000 in
set_option maxRecDepth 100000 in
theorem impl_hasTask.calls (k:Nat) (A0_0:Option Addr) (c0_0:Nat) (l0_0:List (S75)) (a1:Int) (r:Bool) (w:World) (hr0_0:Kd.C k75 w A0_0 l0_0.length l0_0) (hc0_0:l0_0.length≤c0_0) (h:impl_hasTask.f k l0_0 a1=some r):
  Calls Tryz.prog 88 #[.agg #[.slice A0_0 l0_0.length c0_0],.int .i64 a1] w fun e w'=>e= .returned (.bool r)∧Below w.heap.size w w':=by
 have hu26:=Tryz.underlying26
 have HR0_0:=Za hr0_0
 have HC0_0:=Za hc0_0
 clear hr0_0 hc0_0
 have HB:=Za (Zx w.heap.size w)
 have H:((impl_ProgramOk.f k l0_0).bind fun t510=>(if t510=true then ((impl_within.f a1 0 (wrap64 ((l0_0.length:Int) - 1))).bind fun t511=>(some t511)) else (some false)))=some r:=h
 clear h
 replace H:=Zg H
 obtain⟨t510,A30,H⟩:=H
 replace H:(if t510=true then ((impl_within.f a1 0 (wrap64 ((l0_0.length:Int) - 1))).bind fun t511=>(some t511)) else (some false))=some r:=H
 have A3:=Za A30
 clear A30
 by_cases c4:t510=true
 ·subst c4
  rw[if_pos rfl] at H
  replace H:=Zg H
  obtain⟨t511,A50,H⟩:=H
  replace H:(some t511)=some r:=H
  have A5:=Za A50
  clear A50
  obtain rfl:=Zk H
  go_enter Tryz.func88,Tryz.ntmps88
  go_wp2_with (first|((with_reducible refine Zp (N:=2) rfl ?_);(try(refine gate_guard (by rfl) ?_;dsimp only));refine Zr ?hg (N:=2) ?hd (cs:= #[.slice A0_0 l0_0.length c0_0]) (t:=26) ?hr ?_;(case hd=>rfl);(case hg=>rfl);(case hr=>exact z7_8);intro gb509 hg w6 hbox hb;have BK509:=Za (hbox);have GW509:=Za ((z7_16:w.heap.size≤gb509));have GE509:=Za ((z7_16:w.heap.size≤gb509));replace HB:=Za (Zj z7_2 hb);clear hb hbox hg;have hcz7_0:w6.cell? ⟨gb509,0,none⟩=some (.slice A0_0 l0_0.length c0_0):=(Zb BK509.out 0).trans rfl;have hfz7_0:=Zc BK509.out 0)|((first|((with_reducible refine gate_callee (f:=68) rfl ?_);refine goesL_ (some 6) rfl rfl Tryz.func68 z7_6 rfl #[.agg #[.slice A0_0 l0_0.length c0_0]] rfl z7_4 ?_;(with_reducible refine(impl_ProgramOk.calls k _ _ l0_0 true _ ?side1 ?side2 A3.out).mono ?_))|(go_at_call 68;(with_reducible refine(impl_ProgramOk.calls k _ _ l0_0 true _ ?side1 ?side2 A3.out).mono ?_)));(case side1=>exact z7_5);(case side2=>exact HC0_0.out);rintro e w8 ⟨rfl,hb⟩;(first|refine⟨_,rfl,?_⟩|skip);replace BK509:=Za (Zi (g:=gb509) (o:= .cells #[.slice A0_0 l0_0.length c0_0] 26 (0,0)) (by(with_reducible repeat(first|refine blk_drewN ?_ _|refine blk_drew ?_|refine blk_alloc ?_ _));exact BK509.out) hb);replace HB:=Za (Zj (by repeat(first|(with_reducible first|exact HB.out|apply Zh|apply Zf|apply Ze|refine Zd ?_ GE509.out)|exact HB.out)) hb);(try clear hb);(try clear hb2);(try clear hk);(try clear hi);have hcz9_0:w8.cell? ⟨gb509,0,none⟩=some (.slice A0_0 l0_0.length c0_0):=(Zb BK509.out 0).trans rfl;have hfz9_0:=Zc BK509.out 0)|(go_at_call 30;(with_reducible refine(impl_within.calls a1 0 (wrap64 ((l0_0.length:Int) - 1)) t511 _ A5.out).mono ?_);rintro e w' ⟨rfl,⟨nd,rfl⟩⟩))
  go_ret
  exact⟨by first|rfl|(simp[errW_none,errW_some]<;>rfl)|(simp[*,errW_none,errW_some]<;>rfl)|(simp[*,errW_none,errW_some,i64_w];done),by repeat(first|(with_reducible first|exact HB.out|apply Zh|apply Zf|apply Ze|refine Zd ?_ GE509.out)|exact HB.out)⟩
 ·replace c4:=Bool.eq_false_iff.mpr c4
  subst c4
  rw[if_neg (show ¬(false=true) by decide)] at H
  obtain rfl:=Zk H
  go_enter Tryz.func88,Tryz.ntmps88
  go_wp2_with (first|((with_reducible refine Zp (N:=2) rfl ?_);(try(refine gate_guard (by rfl) ?_;dsimp only));refine Zr ?hg (N:=2) ?hd (cs:= #[.slice A0_0 l0_0.length c0_0]) (t:=26) ?hr ?_;(case hd=>rfl);(case hg=>rfl);(case hr=>exact z7_8);intro gb509 hg w10 hbox hb;have BK509:=Za (hbox);have GW509:=Za ((z7_16:w.heap.size≤gb509));have GE509:=Za ((z7_16:w.heap.size≤gb509));replace HB:=Za (Zj z7_2 hb);clear hb hbox hg;have hcz11_0:w10.cell? ⟨gb509,0,none⟩=some (.slice A0_0 l0_0.length c0_0):=(Zb BK509.out 0).trans rfl;have hfz11_0:=Zc BK509.out 0)|((first|((with_reducible refine gate_callee (f:=68) rfl ?_);refine goesL_ (some 6) rfl rfl Tryz.func68 z7_6 rfl #[.agg #[.slice A0_0 l0_0.length c0_0]] rfl z7_4 ?_;(with_reducible refine(impl_ProgramOk.calls k _ _ l0_0 false _ ?side1 ?side2 A3.out).mono ?_))|(go_at_call 68;(with_reducible refine(impl_ProgramOk.calls k _ _ l0_0 false _ ?side1 ?side2 A3.out).mono ?_)));(case side1=>exact z7_5);(case side2=>exact HC0_0.out);rintro e w12 ⟨rfl,hb⟩;(first|refine⟨_,rfl,?_⟩|skip);replace BK509:=Za (Zi (g:=gb509) (o:= .cells #[.slice A0_0 l0_0.length c0_0] 26 (0,0)) (by(with_reducible repeat(first|refine blk_drewN ?_ _|refine blk_drew ?_|refine blk_alloc ?_ _));exact BK509.out) hb);replace HB:=Za (Zj (by repeat(first|(with_reducible first|exact HB.out|apply Zh|apply Zf|apply Ze|refine Zd ?_ GE509.out)|exact HB.out)) hb);(try clear hb);(try clear hb2);(try clear hk);(try clear hi)))
  go_ret
  exact⟨by first|rfl|(simp[errW_none,errW_some]<;>rfl)|(simp[*,errW_none,errW_some]<;>rfl)|(simp[*,errW_none,errW_some,i64_w];done),by repeat(first|(with_reducible first|exact HB.out|apply Zh|apply Zf|apply Ze|refine Zd ?_ GE509.out)|exact HB.out)⟩
def impl_NextTask.f (k:Nat) (l0_0:List (S75)) (l1:List Int) (a2:Int):Option (Int):=(impl_hasTask.f k l0_0 a2).bind fun t513=>(if t513=true then ((impl_VarsOk.f l1).bind fun t514=>(if t514=true then (if 0≤a2 then (if a2<(l0_0.length:Int) then ((impl_EvalExpr.f k l1 ((rd_T75 l0_0 a2).f1.f0) ((rd_T75 l0_0 a2).f1.f1) ((rd_T75 l0_0 a2).f1.f2)).bind fun t516=>(if (l0_0.length:Int)=0 then (none) else (some (Int.tmod (wrap64 ((Int.tmod t516 (l0_0.length:Int))+(l0_0.length:Int))) (l0_0.length:Int))))) else (none)) else (none)) else (some (-1)))) else (some (-1)))
set_option maxHeartbeats 8000000 in
set_option maxRecDepth 100000 in
theorem impl_NextTask.calls (k:Nat) (A0_0:Option Addr) (c0_0:Nat) (l0_0:List (S75)) (A1:Option Addr) (c1:Nat) (l1:List Int) (a2:Int) (r:Int) (w:World) (hr0_0:Kd.C k75 w A0_0 l0_0.length l0_0) (hc0_0:l0_0.length≤c0_0) (hr1:Kd.C (Kd.int .i64) w A1 l1.length l1) (hc1:l1.length≤c1) (h:impl_NextTask.f k l0_0 l1 a2=some r):
  Calls Tryz.prog 59 #[.agg #[.slice A0_0 l0_0.length c0_0],.slice A1 l1.length c1,.int .i64 a2] w fun e w'=>e= .returned (.int .i64 r)∧Below w.heap.size w w':=by
 have hu26:=Tryz.underlying26
 have hu72:=Tryz.underlying72
 have HR0_0:=Za hr0_0
 have HC0_0:=Za hc0_0
 clear hr0_0 hc0_0
 have HR1:=Za hr1
 have HC1:=Za hc1
 clear hr1 hc1
 have HB:=Za (Zx w.heap.size w)
 have H:((impl_hasTask.f k l0_0 a2).bind fun t513=>(if t513=true then ((impl_VarsOk.f l1).bind fun t514=>(if t514=true then (if 0≤a2 then (if a2<(l0_0.length:Int) then ((impl_EvalExpr.f k l1 ((rd_T75 l0_0 a2).f1.f0) ((rd_T75 l0_0 a2).f1.f1) ((rd_T75 l0_0 a2).f1.f2)).bind fun t516=>(if (l0_0.length:Int)=0 then (none) else (some (Int.tmod (wrap64 ((Int.tmod t516 (l0_0.length:Int))+(l0_0.length:Int))) (l0_0.length:Int))))) else (none)) else (none)) else (some (-1)))) else (some (-1))))=some r:=h
 clear h
 replace H:=Zg H
 obtain⟨t513,A40,H⟩:=H
 replace H:(if t513=true then ((impl_VarsOk.f l1).bind fun t514=>(if t514=true then (if 0≤a2 then (if a2<(l0_0.length:Int) then ((impl_EvalExpr.f k l1 ((rd_T75 l0_0 a2).f1.f0) ((rd_T75 l0_0 a2).f1.f1) ((rd_T75 l0_0 a2).f1.f2)).bind fun t516=>(if (l0_0.length:Int)=0 then (none) else (some (Int.tmod (wrap64 ((Int.tmod t516 (l0_0.length:Int))+(l0_0.length:Int))) (l0_0.length:Int))))) else (none)) else (none)) else (some (-1)))) else (some (-1)))=some r:=H
 have A4:=Za A40
 clear A40
 by_cases c5:t513=true
 ·subst c5
  rw[if_pos rfl] at H
  replace H:=Zg H
  obtain⟨t514,A60,H⟩:=H
  replace H:(if t514=true then (if 0≤a2 then (if a2<(l0_0.length:Int) then ((impl_EvalExpr.f k l1 ((rd_T75 l0_0 a2).f1.f0) ((rd_T75 l0_0 a2).f1.f1) ((rd_T75 l0_0 a2).f1.f2)).bind fun t516=>(if (l0_0.length:Int)=0 then (none) else (some (Int.tmod (wrap64 ((Int.tmod t516 (l0_0.length:Int))+(l0_0.length:Int))) (l0_0.length:Int))))) else (none)) else (none)) else (some (-1)))=some r:=H
  have A6:=Za A60
  clear A60
  by_cases c7:t514=true
  ·subst c7
   rw[if_pos rfl] at H
   by_cases c8:0≤a2
   ·rw[if_pos c8] at H
    have c8b0:decide (0≤a2)=true:=Zq c8
    clear c8
    by_cases c9:a2<(l0_0.length:Int)
    ·rw[if_pos c9] at H
     have c9b0:decide (a2<(l0_0.length:Int))=true:=Zq c9
     clear c9
     replace H:=Zg H
     obtain⟨t516,A100,H⟩:=H
     replace H:(if (l0_0.length:Int)=0 then (none) else (some (Int.tmod (wrap64 ((Int.tmod t516 (l0_0.length:Int))+(l0_0.length:Int))) (l0_0.length:Int))))=some r:=H
     have A10:=Za A100
     clear A100
     by_cases c11:(l0_0.length:Int)=0
     ·rw[if_pos c11] at H
      exact absurd H (by simp)
     ·rw[if_neg c11] at H
      have c11b0:((l0_0.length:Int)==0)=false:=beq_eq_false_iff_ne.mpr c11
      have c11b1:((l0_0.length:Int) != 0)=true:=bne_iff_ne.mpr c11
      have c11b2:¬(l0_0=[]):=fun h_=>c11 (by rw[h_];rfl)
      obtain rfl:=Zk H
      go_enter Tryz.func59,Tryz.ntmps59
      go_wp2_with (first|((with_reducible refine Zp (N:=3) rfl ?_);refine Zr ?hg (N:=3) ?hd (cs:= #[.slice A0_0 l0_0.length c0_0]) (t:=26) ?hr ?_;(case hd=>rfl);(case hg=>rfl);(case hr=>exact z7_8);intro gb512 hg w12 hbox hb;have BK512:=Za (hbox);have GW512:=Za ((z7_16:w.heap.size≤gb512));have GE512:=Za ((z7_16:w.heap.size≤gb512));replace HB:=Za (Zj z7_2 hb);clear hb hbox hg;have hcz13_0:w12.cell? ⟨gb512,0,none⟩=some (.slice A0_0 l0_0.length c0_0):=(Zb BK512.out 0).trans rfl;have hfz13_0:=Zc BK512.out 0)|((first|((with_reducible refine gate_callee (f:=88) rfl ?_);refine goesL_ (some 10) rfl rfl Tryz.func88 z7_6 rfl #[.agg #[.slice A0_0 l0_0.length c0_0],.int .i64 a2] rfl z7_4 ?_;(with_reducible refine(impl_hasTask.calls k _ _ l0_0 a2 true _ ?side1 ?side2 A4.out).mono ?_))|(go_at_call 88;(with_reducible refine(impl_hasTask.calls k _ _ l0_0 a2 true _ ?side1 ?side2 A4.out).mono ?_)));(case side1=>exact z7_5);(case side2=>exact HC0_0.out);rintro e w14 ⟨rfl,hb⟩;(first|refine⟨_,rfl,?_⟩|skip);replace BK512:=Za (Zi (g:=gb512) (o:= .cells #[.slice A0_0 l0_0.length c0_0] 26 (0,0)) z7_11 hb);replace HB:=Za (Zj z7_7 hb);(try clear hb);(try clear hb2);(try clear hk);(try clear hi))|(go_at_call 81;(with_reducible refine(impl_VarsOk.calls _ _ l1 true _ ?side1 ?side2 A6.out).mono ?_);(case side1=>repeat(first|exact(Yl HR1.out HB.out)|(with_reducible refine Yi ?_ _)|(with_reducible refine Yg ?_ _)|(with_reducible refine Yj ?_)));(case side2=>exact HC1.out);rintro e w' ⟨rfl,⟨nd,rfl⟩⟩;have hcz15_0:w14.cell? ⟨gb512,0,none⟩=some (.slice A0_0 l0_0.length c0_0):=(Zb BK512.out 0).trans rfl;have hfz15_0:=Zc BK512.out 0;have p515:0≤(a2:Int):=Zs z7_12;have q515:a2<(l0_0.length:Int):=Zs z7_12;obtain⟨ad515,A515_0,c515_0,e515,hx515_0,hx515_1,hx515_2,hx515_3,hl515_0,hi515_0⟩:=at_T75 HR0_0.out a2 p515 q515;cases e515;replace hx515_0:=(HB.out.cell (Yq w _ hx515_0)).trans hx515_0;replace hx515_1:=(HB.out.cell (Yq w _ hx515_1)).trans hx515_1;replace hx515_2:=(HB.out.cell (Yq w _ hx515_2)).trans hx515_2;replace hx515_3:=(HB.out.cell (Yq w _ hx515_3)).trans hx515_3;have HR515_0:=Za hi515_0;have HC515_0:=Za hl515_0;clear hi515_0 hl515_0;replace p515:=eq_true p515;replace q515:=eq_true q515)|((first|((with_reducible refine gate_callee (f:=55) rfl ?_);refine goesL_ (some 27) rfl rfl Tryz.func55 z7_6 rfl #[.slice A1 l1.length c1,.agg #[.int .i64 ((rd_T75 l0_0 a2).f1.f0),.int .i64 ((rd_T75 l0_0 a2).f1.f1),.int .i64 ((rd_T75 l0_0 a2).f1.f2)]] rfl z7_4 ?_;(with_reducible refine(impl_EvalExpr.calls k _ _ l1 ((rd_T75 l0_0 a2).f1.f0) ((rd_T75 l0_0 a2).f1.f1) ((rd_T75 l0_0 a2).f1.f2) t516 _ ?side1 ?side2 A10.out).mono ?_))|(go_at_call 55;(with_reducible refine(impl_EvalExpr.calls k _ _ l1 ((rd_T75 l0_0 a2).f1.f0) ((rd_T75 l0_0 a2).f1.f1) ((rd_T75 l0_0 a2).f1.f2) t516 _ ?side1 ?side2 A10.out).mono ?_)));(case side1=>repeat(first|exact(Yl HR1.out z7_7)|(with_reducible refine Yi ?_ _)|(with_reducible refine Yg ?_ _)|(with_reducible refine Yj ?_)));(case side2=>exact HC1.out);rintro e w16 ⟨rfl,hb⟩;(first|refine⟨_,rfl,?_⟩|skip);replace BK512:=Za (Zi (g:=gb512) (o:= .cells #[.slice (some ad515) l0_0.length c0_0] 26 (0,0)) z7_11 hb);replace HB:=Za (Zj z7_7 hb);(try clear hb);(try clear hb2);(try clear hk);(try clear hi)))
      go_ret
      exact⟨by first|rfl|(simp[errW_none,errW_some]<;>rfl)|(simp[*,errW_none,errW_some]<;>rfl)|(simp[*,errW_none,errW_some,i64_w];done),by repeat(first|(with_reducible first|exact HB.out|apply Zh|apply Zf|apply Ze|refine Zd ?_ GE512.out)|exact HB.out)⟩
    ·rw[if_neg c9] at H
     exact absurd H (by simp)
   ·rw[if_neg c8] at H
    exact absurd H (by simp)
  ·replace c7:=Bool.eq_false_iff.mpr c7
   subst c7
   rw[if_neg (show ¬(false=true) by decide)] at H
   obtain rfl:=Zk H
   go_enter Tryz.func59,Tryz.ntmps59
   go_wp2_with (first|((with_reducible refine Zp (N:=3) rfl ?_);refine Zr ?hg (N:=3) ?hd (cs:= #[.slice A0_0 l0_0.length c0_0]) (t:=26) ?hr ?_;(case hd=>rfl);(case hg=>rfl);(case hr=>exact z7_8);intro gb512 hg w17 hbox hb;have BK512:=Za (hbox);have GW512:=Za ((z7_16:w.heap.size≤gb512));have GE512:=Za ((z7_16:w.heap.size≤gb512));replace HB:=Za (Zj z7_2 hb);clear hb hbox hg;have hcz18_0:w17.cell? ⟨gb512,0,none⟩=some (.slice A0_0 l0_0.length c0_0):=(Zb BK512.out 0).trans rfl;have hfz18_0:=Zc BK512.out 0)|((first|((with_reducible refine gate_callee (f:=88) rfl ?_);refine goesL_ (some 10) rfl rfl Tryz.func88 z7_6 rfl #[.agg #[.slice A0_0 l0_0.length c0_0],.int .i64 a2] rfl z7_4 ?_;(with_reducible refine(impl_hasTask.calls k _ _ l0_0 a2 true _ ?side1 ?side2 A4.out).mono ?_))|(go_at_call 88;(with_reducible refine(impl_hasTask.calls k _ _ l0_0 a2 true _ ?side1 ?side2 A4.out).mono ?_)));(case side1=>exact z7_5);(case side2=>exact HC0_0.out);rintro e w19 ⟨rfl,hb⟩;(first|refine⟨_,rfl,?_⟩|skip);replace BK512:=Za (Zi (g:=gb512) (o:= .cells #[.slice A0_0 l0_0.length c0_0] 26 (0,0)) z7_11 hb);replace HB:=Za (Zj z7_7 hb);(try clear hb);(try clear hb2);(try clear hk);(try clear hi))|(go_at_call 81;(with_reducible refine(impl_VarsOk.calls _ _ l1 false _ ?side1 ?side2 A6.out).mono ?_);(case side1=>repeat(first|exact(Yl HR1.out HB.out)|(with_reducible refine Yi ?_ _)|(with_reducible refine Yg ?_ _)|(with_reducible refine Yj ?_)));(case side2=>exact HC1.out);rintro e w' ⟨rfl,⟨nd,rfl⟩⟩))
   go_ret
   exact⟨by first|rfl|(simp[errW_none,errW_some]<;>rfl)|(simp[*,errW_none,errW_some]<;>rfl)|(simp[*,errW_none,errW_some,i64_w];done),by repeat(first|(with_reducible first|exact HB.out|apply Zh|apply Zf|apply Ze|refine Zd ?_ GE512.out)|exact HB.out)⟩
 ·replace c5:=Bool.eq_false_iff.mpr c5
  subst c5
  rw[if_neg (show ¬(false=true) by decide)] at H
  obtain rfl:=Zk H
  go_enter Tryz.func59,Tryz.ntmps59
  go_wp2_with (first|((with_reducible refine Zp (N:=3) rfl ?_);refine Zr ?hg (N:=3) ?hd (cs:= #[.slice A0_0 l0_0.length c0_0]) (t:=26) ?hr ?_;(case hd=>rfl);(case hg=>rfl);(case hr=>exact z7_8);intro gb512 hg w20 hbox hb;have BK512:=Za (hbox);have GW512:=Za ((z7_16:w.heap.size≤gb512));have GE512:=Za ((z7_16:w.heap.size≤gb512));replace HB:=Za (Zj z7_2 hb);clear hb hbox hg;have hcz21_0:w20.cell? ⟨gb512,0,none⟩=some (.slice A0_0 l0_0.length c0_0):=(Zb BK512.out 0).trans rfl;have hfz21_0:=Zc BK512.out 0)|((first|((with_reducible refine gate_callee (f:=88) rfl ?_);refine goesL_ (some 10) rfl rfl Tryz.func88 z7_6 rfl #[.agg #[.slice A0_0 l0_0.length c0_0],.int .i64 a2] rfl z7_4 ?_;(with_reducible refine(impl_hasTask.calls k _ _ l0_0 a2 false _ ?side1 ?side2 A4.out).mono ?_))|(go_at_call 88;(with_reducible refine(impl_hasTask.calls k _ _ l0_0 a2 false _ ?side1 ?side2 A4.out).mono ?_)));(case side1=>exact z7_5);(case side2=>exact HC0_0.out);rintro e w22 ⟨rfl,hb⟩;(first|refine⟨_,rfl,?_⟩|skip);replace BK512:=Za (Zi (g:=gb512) (o:= .cells #[.slice A0_0 l0_0.length c0_0] 26 (0,0)) z7_11 hb);replace HB:=Za (Zj z7_7 hb);(try clear hb);(try clear hb2);(try clear hk);(try clear hi)))
  go_ret
  exact⟨by first|rfl|(simp[errW_none,errW_some]<;>rfl)|(simp[*,errW_none,errW_some]<;>rfl)|(simp[*,errW_none,errW_some,i64_w];done),by repeat(first|(with_reducible first|exact HB.out|apply Zh|apply Zf|apply Ze|refine Zd ?_ GE512.out)|exact HB.out)⟩
end Go.Proofs.YtdkbkkpbdmlmbaaGreat.G
