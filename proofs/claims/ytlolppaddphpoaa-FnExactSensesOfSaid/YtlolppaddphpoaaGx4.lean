/- Functions of the program as plain Lean functions, and that each call comes to its function's answer; written by a program of the session. No condition. -/
import Derived.Test.YtlolppaddphpoaaGx0
import Derived.Test.YtlolppaddphpoaaGx3
namespace Go.Proofs.Ytlolppaddphpoaa.G
open Go.RowKit Go.Proofs.YtlolppaddphpoaaW.PrintWords Go.Proofs.YtlolppaddphpoaaW.PrintLast Go.Proofs.YtlolppaddphpoaaW.PrintMore
attribute [local go_sem] max2_int min2_int max_two min_two max_three min_three max_four min_four   -- for this text's walks alone
set_option linter.unusedVariables false
set_option linter.unusedSimpArgs false
theorem z4_0 {P:Prop} (h:P:=by repeat(first|(with_reducible first|exact HB.out|apply Zh|apply Ze|apply Zd)|exact HB.out)):P:=h
theorem z4_1 {P:Prop} (h:P:=by rw[hw];exact(by(with_reducible repeat(first|refine blk_drewN ?_ _|refine blk_drew ?_|refine blk_alloc ?_ _));refine blk_put (cs:= #[.int .i64 a0_0,.int .i64 0,.int .i64 0,.int .i64 0,.int .i64 0,.int .i64 0]) ?_ 5 _ rfl;(with_reducible repeat(first|refine blk_drewN ?_ _|refine blk_drew ?_|refine blk_alloc ?_ _));refine blk_put (cs:= #[.int .i64 a0_0,.int .i64 0,.int .i64 0,.int .i64 0,.int .i64 0,.int .i64 0]) ?_ 4 _ rfl;(with_reducible repeat(first|refine blk_drewN ?_ _|refine blk_drew ?_|refine blk_alloc ?_ _));refine blk_put (cs:= #[.int .i64 a0_0,.int .i64 0,.int .i64 0,.int .i64 0,.int .i64 0,.int .i64 0]) ?_ 3 _ rfl;(with_reducible repeat(first|refine blk_drewN ?_ _|refine blk_drew ?_|refine blk_alloc ?_ _));refine blk_put (cs:= #[.int .i64 a0_0,.int .i64 0,.int .i64 0,.int .i64 0,.int .i64 0,.int .i64 0]) ?_ 2 _ rfl;(with_reducible repeat(first|refine blk_drewN ?_ _|refine blk_drew ?_|refine blk_alloc ?_ _));refine blk_put (cs:= #[.int .i64 a0_0,.int .i64 0,.int .i64 0,.int .i64 0,.int .i64 0,.int .i64 0]) ?_ 1 _ rfl;(with_reducible repeat(first|refine blk_drewN ?_ _|refine blk_drew ?_|refine blk_alloc ?_ _));refine blk_put (cs:= #[.int .i64 0,.int .i64 0,.int .i64 0,.int .i64 0,.int .i64 0,.int .i64 0]) ?_ 0 _ rfl;(with_reducible repeat(first|refine blk_drewN ?_ _|refine blk_drew ?_|refine blk_alloc ?_ _));exact BK186.out)):P:=h
theorem z4_2 {P:Prop} (h:P:=by rw[hw];exact(by repeat(first|(with_reducible first|exact HB.out|apply Zh|apply Ze|apply Zd|refine Zf ?_ GE184.out|refine Zf ?_ GE185.out|refine Zf ?_ GE186.out)|exact HB.out))):P:=h
theorem z4_3 {P:Prop} (h:P:=by(with_reducible repeat(first|refine blk_drewN ?_ _|refine blk_drew ?_|refine blk_alloc ?_ _));exact BK184.out):P:=h
theorem z4_4 {P:Prop} (h:P:=by rw[hw];exact(by(with_reducible repeat(first|refine blk_drewN ?_ _|refine blk_drew ?_|refine blk_alloc ?_ _));refine blk_far ?_ NB185_186.out _;(with_reducible repeat(first|refine blk_drewN ?_ _|refine blk_drew ?_|refine blk_alloc ?_ _));refine blk_far ?_ NB185_186.out _;(with_reducible repeat(first|refine blk_drewN ?_ _|refine blk_drew ?_|refine blk_alloc ?_ _));refine blk_far ?_ NB185_186.out _;(with_reducible repeat(first|refine blk_drewN ?_ _|refine blk_drew ?_|refine blk_alloc ?_ _));refine blk_far ?_ NB185_186.out _;(with_reducible repeat(first|refine blk_drewN ?_ _|refine blk_drew ?_|refine blk_alloc ?_ _));refine blk_far ?_ NB185_186.out _;(with_reducible repeat(first|refine blk_drewN ?_ _|refine blk_drew ?_|refine blk_alloc ?_ _));refine blk_far ?_ NB185_186.out _;(with_reducible repeat(first|refine blk_drewN ?_ _|refine blk_drew ?_|refine blk_alloc ?_ _));exact BK185.out)):P:=h
theorem z4_5 {P:Prop} (h:P:=by rw[hw];exact(by(with_reducible repeat(first|refine blk_drewN ?_ _|refine blk_drew ?_|refine blk_alloc ?_ _));refine blk_far ?_ NB184_186.out _;(with_reducible repeat(first|refine blk_drewN ?_ _|refine blk_drew ?_|refine blk_alloc ?_ _));refine blk_far ?_ NB184_186.out _;(with_reducible repeat(first|refine blk_drewN ?_ _|refine blk_drew ?_|refine blk_alloc ?_ _));refine blk_far ?_ NB184_186.out _;(with_reducible repeat(first|refine blk_drewN ?_ _|refine blk_drew ?_|refine blk_alloc ?_ _));refine blk_far ?_ NB184_186.out _;(with_reducible repeat(first|refine blk_drewN ?_ _|refine blk_drew ?_|refine blk_alloc ?_ _));refine blk_far ?_ NB184_186.out _;(with_reducible repeat(first|refine blk_drewN ?_ _|refine blk_drew ?_|refine blk_alloc ?_ _));refine blk_far ?_ NB184_186.out _;(with_reducible repeat(first|refine blk_drewN ?_ _|refine blk_drew ?_|refine blk_alloc ?_ _));exact BK184.out)):P:=h
theorem z4_6 {P:Prop} (h:P:=by repeat(first|(with_reducible first|exact HB.out|apply Zh|apply Ze|apply Zd|refine Zf ?_ GE184.out|refine Zf ?_ GE185.out)|exact HB.out)):P:=h
theorem z4_7 {P:Prop} (h:P:=by(with_reducible repeat(first|refine blk_drewN ?_ _|refine blk_drew ?_|refine blk_alloc ?_ _));exact BK185.out):P:=h
theorem z4_8 {P:Prop} (h:P:=by first|(go_simp;done)|(go_simp;rfl)):P:=h
theorem z4_9 {P:Prop} (h:P:=by repeat(first|(with_reducible first|exact HB.out|apply Zh|apply Ze|apply Zd|refine Zf ?_ GE184.out)|exact HB.out)):P:=h
theorem z4_10 {P:Prop} (h:P:=by(try simp only[Yn,List.map_cons,List.map_nil]);first|done|rfl|(simp only[List.length_drop,List.length_take];rfl)):P:=h
theorem z4_11 {P:Prop} (h:P:=by rw[hw];exact(by(with_reducible repeat(first|refine blk_drewN ?_ _|refine blk_drew ?_|refine blk_alloc ?_ _));refine blk_far ?_ NB186_185.out _;(with_reducible repeat(first|refine blk_drewN ?_ _|refine blk_drew ?_|refine blk_alloc ?_ _));refine blk_far ?_ NB186_185.out _;(with_reducible repeat(first|refine blk_drewN ?_ _|refine blk_drew ?_|refine blk_alloc ?_ _));refine blk_far ?_ NB186_185.out _;(with_reducible repeat(first|refine blk_drewN ?_ _|refine blk_drew ?_|refine blk_alloc ?_ _));refine blk_far ?_ NB186_185.out _;(with_reducible repeat(first|refine blk_drewN ?_ _|refine blk_drew ?_|refine blk_alloc ?_ _));refine blk_far ?_ NB186_185.out _;(with_reducible repeat(first|refine blk_drewN ?_ _|refine blk_drew ?_|refine blk_alloc ?_ _));refine blk_far ?_ NB186_185.out _;(with_reducible repeat(first|refine blk_drewN ?_ _|refine blk_drew ?_|refine blk_alloc ?_ _));exact BK186.out)):P:=h
theorem z4_12 {P:Prop} (h:P:=by rw[hw];exact(by(with_reducible repeat(first|refine blk_drewN ?_ _|refine blk_drew ?_|refine blk_alloc ?_ _));refine blk_far ?_ NB184_185.out _;(with_reducible repeat(first|refine blk_drewN ?_ _|refine blk_drew ?_|refine blk_alloc ?_ _));refine blk_far ?_ NB184_185.out _;(with_reducible repeat(first|refine blk_drewN ?_ _|refine blk_drew ?_|refine blk_alloc ?_ _));refine blk_far ?_ NB184_185.out _;(with_reducible repeat(first|refine blk_drewN ?_ _|refine blk_drew ?_|refine blk_alloc ?_ _));refine blk_far ?_ NB184_185.out _;(with_reducible repeat(first|refine blk_drewN ?_ _|refine blk_drew ?_|refine blk_alloc ?_ _));refine blk_far ?_ NB184_185.out _;(with_reducible repeat(first|refine blk_drewN ?_ _|refine blk_drew ?_|refine blk_alloc ?_ _));refine blk_far ?_ NB184_185.out _;(with_reducible repeat(first|refine blk_drewN ?_ _|refine blk_drew ?_|refine blk_alloc ?_ _));exact BK184.out)):P:=h
theorem z4_13 {P:Prop} (h:P:=by repeat(first|(with_reducible first|exact HB.out|apply Zh|apply Ze|apply Zd|refine Zf ?_ GE173.out)|exact HB.out)):P:=h
theorem z4_14 {P:Prop} (h:P:=by(with_reducible repeat(first|refine blk_drewN ?_ _|refine blk_drew ?_|refine blk_alloc ?_ _));exact BK173.out):P:=h
theorem z4_15 {P:Prop} (h:P:=by first|(with_reducible assumption)|assumption):P:=h
theorem z4_16 {P:Prop} (h:P:=by first|rfl|(simp;done)|(simp[*];done)):P:=h
theorem z4_17 {P:Prop} (h:P:=by repeat(first|exact Ya _ _|apply Ze|apply Zd)):P:=h
theorem z4_18 {P:Prop} (h:P:=by kernel_rfl):P:=h
theorem z4_19 {P:Prop} (h:P:=by rw[hg];exact Nat.ne_of_lt (blk_lt (g:=gb184) (o:= .cells #[.int .i64 a0_0,.int .i64 a0_1,.int .i64 a0_2,.int .i64 a0_3,.int .i64 a0_4,.int .i64 a0_5] 80 (0,0)) z4_3)):P:=h
theorem z4_20 {P:Prop} (h:P:=by rw[hg];exact Nat.ne_of_gt (blk_lt (g:=gb184) (o:= .cells #[.int .i64 a0_0,.int .i64 a0_1,.int .i64 a0_2,.int .i64 a0_3,.int .i64 a0_4,.int .i64 a0_5] 80 (0,0)) z4_3)):P:=h
theorem z4_21 {P:Prop} (h:P:=by rw[hg];exact(Zw z4_0)):P:=h
theorem z4_22 {P:Prop} (h:P:=by rw[hg];exact Nat.ne_of_lt (blk_lt (g:=gb185) (o:= .cells #[.int .i64 0,.int .i64 0,.int .i64 0,.int .i64 0,.int .i64 0,.int .i64 0] 80 (0,0)) z4_7)):P:=h
theorem z4_23 {P:Prop} (h:P:=by rw[hg];exact Nat.ne_of_gt (blk_lt (g:=gb185) (o:= .cells #[.int .i64 0,.int .i64 0,.int .i64 0,.int .i64 0,.int .i64 0,.int .i64 0] 80 (0,0)) z4_7)):P:=h
def laws_eqTaskS.l0:Nat→List (S64)→List (S64)→Int→Option (Bool)
 |0,_,_,_=>none
 |k+1,x0,x1,x5=>if x5<(x0.length:Int) then (if 0≤x5 then (if x5<(x1.length:Int) then ((laws_eqTask.f k ((rd_T64 x0 x5).f0) ((rd_T64 x0 x5).f1.f0) ((rd_T64 x0 x5).f1.f1) ((rd_T64 x0 x5).f1.f2) ((rd_T64 x1 x5).f0) ((rd_T64 x1 x5).f1.f0) ((rd_T64 x1 x5).f1.f1) ((rd_T64 x1 x5).f1.f2)).bind fun t172=>(if t172=true then (laws_eqTaskS.l0 k x0 x1 (wrap64 (x5+1))) else (some false))) else (none)) else (none)) else (some true)
def laws_eqTaskS.f (k:Nat) (l0:List (S64)) (l1:List (S64)):Option (Bool):=if (l0.length:Int)=(l1.length:Int) then (laws_eqTaskS.l0 k l0 l1 0) else (some false)
def laws_eqTaskS.T6:Bool×List (List Nat×List Nat):=(true,[([],[]),([],[]),([0,1],[0,1]),([2],[2]),([],[]),([],[]),([4,5],[4,5]),([6],[6]),([3,7],[3,7]),([8],[8])])
def laws_eqTaskS.B6:List Nat:=[0,0,3,7,0,0,48,112,255,511]
theorem laws_eqTaskS.tab6:rtab .any (opsOf Try.f33 6)=laws_eqTaskS.T6:=by kernel_rfl
theorem laws_eqTaskS.bits6:waitsOk laws_eqTaskS.T6.2 laws_eqTaskS.B6=true:=by kernel_rfl
set_option maxHeartbeats 8000000 in
set_option maxRecDepth 100000 in
theorem laws_eqTaskS.calls (k:Nat) (A0:Option Addr) (c0:Nat) (l0:List (S64)) (A1:Option Addr) (c1:Nat) (l1:List (S64)) (r:Bool) (w:World) (hr0:Kd.C k64 w A0 l0.length l0) (hc0:l0.length≤c0) (hr1:Kd.C k64 w A1 l1.length l1) (hc1:l1.length≤c1) (h:laws_eqTaskS.f k l0 l1=some r):
  Calls Try.prog 33 #[.slice A0 l0.length c0,.slice A1 l1.length c1] w fun e w'=>e= .returned (.bool r)∧Below w.heap.size w w':=by
 have hu64:=Try.underlying64
 have HR0:=Za hr0
 have HC0:=Za hc0
 clear hr0 hc0
 have HR1:=Za hr1
 have HC1:=Za hc1
 clear hr1 hc1
 have HB:=Za (Ya w.heap.size w)
 have H:(if (l0.length:Int)=(l1.length:Int) then (laws_eqTaskS.l0 k l0 l1 0) else (some false))=some r:=h
 clear h
 by_cases c3:(l0.length:Int)=(l1.length:Int)
 ·rw[if_pos c3] at H
  have c3b0:((l0.length:Int)==(l1.length:Int))=true:=beq_iff_eq.mpr c3
  have c3b1:((l0.length:Int) != (l1.length:Int))=false:=bne_eq_false_iff_eq.mpr c3
  have c3b2:(l0.length==l1.length)=true:=by first|simpa using c3|(simp at c3 ⊢;omega)
  clear c3
  have H':=Za H
  clear H
  go_enter Try.func33,Try.ntmps33
  go_wp2
  go_loopg [5] k (fun kq v5 w'=>∃(x5_1:Int),v5= .int .i64 x5_1∧Aside0 (laws_eqTaskS.l0 kq l0 l1 x5_1=some r)∧Aside0 (kq≤k)∧Aside0 (Below w.heap.size w w'))
  case atStart=>exact⟨(0),z4_16,H',⟨Nat.le_refl _⟩,⟨by repeat(first|(with_reducible first|exact HB.out|apply Zh|apply Ze|apply Zd)|exact HB.out)⟩⟩
  case round=>
   clear H'
   (try clear c1);(try clear c3);(try clear c3b0);(try clear c3b1);(try clear c3b2)
   obtain⟨x5_1,rfl,HA,HK1,HB⟩:=hrel
   cases gk with
   |zero=>exact absurd HA.out (by simp[laws_eqTaskS.l0])
   |succ k1=>
    have H:=HA.out
    clear HA
    simp only[laws_eqTaskS.l0] at H
    by_cases c4:x5_1<(l0.length:Int)
    ·rw[if_pos c4] at H
     have c4b0:decide (x5_1<(l0.length:Int))=true:=Zt c4
     clear c4
     by_cases c5:0≤x5_1
     ·rw[if_pos c5] at H
      have c5b0:decide (0≤x5_1)=true:=Zt c5
      clear c5
      by_cases c6:x5_1<(l1.length:Int)
      ·rw[if_pos c6] at H
       have c6b0:decide (x5_1<(l1.length:Int))=true:=Zt c6
       clear c6
       replace H:=Zl H
       obtain⟨t172,A70,H⟩:=H
       replace H:(if t172=true then (laws_eqTaskS.l0 k1 l0 l1 (wrap64 (x5_1+1))) else (some false))=some r:=H
       have A7:=Za A70
       clear A70
       by_cases c8:t172=true
       ·subst c8
        rw[if_pos rfl] at H
        have H':=Za H
        clear H
        try go_wp2
        have n0_:=Za (Zd HB.out)
        clear HB
        have HB:=n0_
        clear n0_
        have p170:0≤(x5_1:Int):=Zs z4_15
        have q170:x5_1<(l0.length:Int):=Zs z4_15
        obtain⟨ad170,A170_0,c170_0,e170,hx170_0,hx170_1,hx170_2,hx170_3,hl170_0,hi170_0⟩:=at_T64 HR0.out x5_1 p170 q170
        have hw170_3:=hx170_3
        have hw170_2:=hx170_2
        have hw170_1:=hx170_1
        have hw170_0:=hx170_0
        cases e170
        replace hx170_0:=(HB.out.cell (Zg w _ hx170_0)).trans hx170_0
        replace hx170_1:=(HB.out.cell (Zg w _ hx170_1)).trans hx170_1
        replace hx170_2:=(HB.out.cell (Zg w _ hx170_2)).trans hx170_2
        replace hx170_3:=(HB.out.cell (Zg w _ hx170_3)).trans hx170_3
        have HR170_0:=Za hi170_0
        have HC170_0:=Za hl170_0
        clear hi170_0 hl170_0
        replace p170:=eq_true p170
        replace q170:=eq_true q170
        have p171:0≤(x5_1:Int):=Zs z4_15
        have q171:x5_1<(l1.length:Int):=Zs z4_15
        obtain⟨ad171,A171_0,c171_0,e171,hx171_0,hx171_1,hx171_2,hx171_3,hl171_0,hi171_0⟩:=at_T64 HR1.out x5_1 p171 q171
        have hw171_3:=hx171_3
        have hw171_2:=hx171_2
        have hw171_1:=hx171_1
        have hw171_0:=hx171_0
        cases e171
        replace hx171_0:=(HB.out.cell (Zg w _ hx171_0)).trans hx171_0
        replace hx171_1:=(HB.out.cell (Zg w _ hx171_1)).trans hx171_1
        replace hx171_2:=(HB.out.cell (Zg w _ hx171_2)).trans hx171_2
        replace hx171_3:=(HB.out.cell (Zg w _ hx171_3)).trans hx171_3
        have HR171_0:=Za hi171_0
        have HC171_0:=Za hl171_0
        clear hi171_0 hl171_0
        replace p171:=eq_true p171
        replace q171:=eq_true q171
        refine start_ (n:=10) (S:=fun w'=>w'.cell? (ad170.add ((x5_1).toNat*4))=some (.slice A170_0 ((rd_T64 l0 x5_1).f0).length c170_0)∧w'.cell? ⟨(ad170.add ((x5_1).toNat*4)).block,(ad170.add ((x5_1).toNat*4)).off+1,none⟩=some (.int .i64 ((rd_T64 l0 x5_1).f1.f0))∧w'.cell? ⟨(ad170.add ((x5_1).toNat*4)).block,(ad170.add ((x5_1).toNat*4)).off+2,none⟩=some (.int .i64 ((rd_T64 l0 x5_1).f1.f1))∧w'.cell? ⟨(ad170.add ((x5_1).toNat*4)).block,(ad170.add ((x5_1).toNat*4)).off+3,none⟩=some (.int .i64 ((rd_T64 l0 x5_1).f1.f2))∧w'.cell? (ad171.add ((x5_1).toNat*4))=some (.slice A171_0 ((rd_T64 l1 x5_1).f0).length c171_0)∧w'.cell? ⟨(ad171.add ((x5_1).toNat*4)).block,(ad171.add ((x5_1).toNat*4)).off+1,none⟩=some (.int .i64 ((rd_T64 l1 x5_1).f1.f0))∧w'.cell? ⟨(ad171.add ((x5_1).toNat*4)).block,(ad171.add ((x5_1).toNat*4)).off+2,none⟩=some (.int .i64 ((rd_T64 l1 x5_1).f1.f1))∧w'.cell? ⟨(ad171.add ((x5_1).toNat*4)).block,(ad171.add ((x5_1).toNat*4)).off+3,none⟩=some (.int .i64 ((rd_T64 l1 x5_1).f1.f2))) (ds:=[]) #[false,false,false,false,false,false,false,false,false,false] z4_18 rfl rfl ⟨((HB.out.cell (Zg w _ hw170_0)).trans hw170_0),((HB.out.cell (Zg w _ hw170_1)).trans hw170_1),((HB.out.cell (Zg w _ hw170_2)).trans hw170_2),((HB.out.cell (Zg w _ hw170_3)).trans hw170_3),((HB.out.cell (Zg w _ hw171_0)).trans hw171_0),((HB.out.cell (Zg w _ hw171_1)).trans hw171_1),((HB.out.cell (Zg w _ hw171_2)).trans hw171_2),((HB.out.cell (Zg w _ hw171_3)).trans hw171_3)⟩ (fun hHeld=> ?_);refine with_tabW laws_eqTaskS.tab6 laws_eqTaskS.bits6 (fun HT_ HW_=> ?_)
        generalize wr.drew=w9 at HB HR170_0 HR171_0 hx170_0 hx170_1 hx170_2 hx170_3 hx171_0 hx171_1 hx171_2 hx171_3 hHeld ⊢
        refine pure_ (i:=0) (N:=some 17) (v:= ?_) (a':= ?_) #[true,false,false,false,false,false,false,false,false,false] rfl rfl (any_of HT_.out z4_18) (fun _ _ _ h=>h) (Or.inl ⟨by rfl,?_⟩) ?_ ?_
        rotate_left
        ·intro w'
         go_simp
         with_reducible rfl
        rotate_left
        ·simp only[Act.put,Zm,Zn,Zo,i64_w,i32_w]
         rfl
        refine pure_ (i:=1) (N:=some 18) (v:= ?_) (a':= ?_) #[true,true,false,false,false,false,false,false,false,false] rfl rfl (any_of HT_.out z4_18) (fun _ _ _ h=>h) (Or.inl ⟨by rfl,?_⟩) ?_ ?_
        rotate_left
        ·intro w'
         go_simp
         with_reducible rfl
        rotate_left
        ·simp only[Act.put,Zm,Zn,Zo,i64_w,i32_w]
         rfl
        refine pure_ (i:=2) (N:=some 19) (v:= ?_) (a':= ?_) #[true,true,true,false,false,false,false,false,false,false] rfl rfl (any_of HT_.out z4_18) (fun _ _ _ h=>h) (Or.inl ⟨by rfl,?_⟩) ?_ ?_
        rotate_left
        ·intro w'
         go_simp
         with_reducible rfl
        rotate_left
        ·simp only[Act.put,Zm,Zn,Zo,i64_w,i32_w]
         rfl
        refine pure_ (i:=4) (N:=some 21) (v:= ?_) (a':= ?_) #[true,true,true,false,true,false,false,false,false,false] rfl rfl (any_of HT_.out z4_18) (fun _ _ _ h=>h) (Or.inl ⟨by rfl,?_⟩) ?_ ?_
        rotate_left
        ·intro w'
         go_simp
         with_reducible rfl
        rotate_left
        ·simp only[Act.put,Zm,Zn,Zo,i64_w,i32_w]
         rfl
        refine pure_ (i:=5) (N:=some 22) (v:= ?_) (a':= ?_) #[true,true,true,false,true,true,false,false,false,false] rfl rfl (any_of HT_.out z4_18) (fun _ _ _ h=>h) (Or.inl ⟨by rfl,?_⟩) ?_ ?_
        rotate_left
        ·intro w'
         go_simp
         with_reducible rfl
        rotate_left
        ·simp only[Act.put,Zm,Zn,Zo,i64_w,i32_w]
         rfl
        refine pure_ (i:=6) (N:=some 23) (v:= ?_) (a':= ?_) #[true,true,true,false,true,true,true,false,false,false] rfl rfl (any_of HT_.out z4_18) (fun _ _ _ h=>h) (Or.inl ⟨by rfl,?_⟩) ?_ ?_
        rotate_left
        ·intro w'
         go_simp
         with_reducible rfl
        rotate_left
        ·simp only[Act.put,Zm,Zn,Zo,i64_w,i32_w]
         rfl
        refine take_ (i:=3) (N:=some 20) (v:= ?_) (a':= ?_) #[true,true,true,true,true,true,true,false,false,false] rfl rfl (take_ofW HT_.out HW_.out z4_18) (fun _ _ _ h=>h) (Or.inl ⟨by rfl,?_⟩) hHeld ?_ ?_
        rotate_left
        ·rintro w' ⟨s0,s1,s2,s3,s4,s5,s6,s7⟩
         go_simp
         with_reducible rfl
        rotate_left
        ·simp only[Act.put,Zm,Zn,Zo,i64_w,i32_w]
         rfl
        refine take_ (i:=7) (N:=some 24) (v:= ?_) (a':= ?_) #[true,true,true,true,true,true,true,true,false,false] rfl rfl (take_ofW HT_.out HW_.out z4_18) (fun _ _ _ h=>h) (Or.inl ⟨by rfl,?_⟩) hHeld ?_ ?_
        rotate_left
        ·rintro w' ⟨s0,s1,s2,s3,s4,s5,s6,s7⟩
         go_simp
         with_reducible rfl
        rotate_left
        ·simp only[Act.put,Zm,Zn,Zo,i64_w,i32_w]
         rfl
        refine one_ (i:=8) (N:=some 25) #[true,true,true,true,true,true,true,true,true,false] rfl rfl (one_of HT_.out z4_18) (by decide) (fun K hK=> ?_)
        refine goes_ Try.func55 z4_18 rfl #[.agg #[.slice A170_0 ((rd_T64 l0 x5_1).f0).length c170_0,.int .i64 ((rd_T64 l0 x5_1).f1.f0),.int .i64 ((rd_T64 l0 x5_1).f1.f1),.int .i64 ((rd_T64 l0 x5_1).f1.f2)],.agg #[.slice A171_0 ((rd_T64 l1 x5_1).f0).length c171_0,.int .i64 ((rd_T64 l1 x5_1).f1.f0),.int .i64 ((rd_T64 l1 x5_1).f1.f1),.int .i64 ((rd_T64 l1 x5_1).f1.f2)]] (by rfl) rfl rfl z4_10 ?_
        with_reducible refine(laws_eqTask.calls k1 _ _ ((rd_T64 l0 x5_1).f0) ((rd_T64 l0 x5_1).f1.f0) ((rd_T64 l0 x5_1).f1.f1) ((rd_T64 l0 x5_1).f1.f2) _ _ ((rd_T64 l1 x5_1).f0) ((rd_T64 l1 x5_1).f1.f0) ((rd_T64 l1 x5_1).f1.f1) ((rd_T64 l1 x5_1).f1.f2) true _ ?side1 ?side2 ?side3 ?side4 A7.out).mono ?_
        (case side1=>repeat(first|exact(Yb HR170_0.out HB.out)|(with_reducible refine Yd ?_ _)|(with_reducible refine Ye ?_ _)|(with_reducible refine Yf ?_)))
        (case side2=>exact HC170_0.out)
        (case side3=>repeat(first|exact(Yb HR171_0.out HB.out)|(with_reducible refine Yd ?_ _)|(with_reducible refine Ye ?_ _)|(with_reducible refine Yf ?_)))
        (case side4=>exact HC171_0.out)
        rintro e w10 ⟨rfl,hb⟩
        refine⟨_,rfl,?_⟩
        have n0_:=Za (Zi z4_0 hb)
        clear HB
        have HB:=n0_
        clear n0_
        (try clear hb)
        (try clear hb2)
        (try clear hk)
        (try clear hi)
        refine hK.out _ _ ⟨((HB.out.cell (Zg w _ hw170_0)).trans hw170_0),((HB.out.cell (Zg w _ hw170_1)).trans hw170_1),((HB.out.cell (Zg w _ hw170_2)).trans hw170_2),((HB.out.cell (Zg w _ hw170_3)).trans hw170_3),((HB.out.cell (Zg w _ hw171_0)).trans hw171_0),((HB.out.cell (Zg w _ hw171_1)).trans hw171_1),((HB.out.cell (Zg w _ hw171_2)).trans hw171_2),((HB.out.cell (Zg w _ hw171_3)).trans hw171_3)⟩ (fun hHeld=> ?_)
        clear hK K
        refine norm_ (a':= ?_) ?_ ?_
        rotate_left
        ·show Act.put _ (some 25) _=_
         simp only[Act.put,Zm,Zn,Zo,i64_w,i32_w]
         rfl
        refine pure_ (i:=9) (N:=some 26) (v:= ?_) (a':= ?_) #[true,true,true,true,true,true,true,true,true,true] rfl rfl (any_of HT_.out z4_18) (fun _ _ _ h=>h) (Or.inl ⟨by rfl,?_⟩) ?_ ?_
        rotate_left
        ·intro w'
         go_simp
         with_reducible rfl
        rotate_left
        ·simp only[Act.put,Zm,Zn,Zo,i64_w,i32_w]
         rfl
        refine done_ (done_of HT_.out z4_18) ?_
        try go_wp2
        go_roundg k1
        case measure=>have:=HK1.out;omega
        case rel=>exact⟨(wrap64 (x5_1+1)),z4_16,H',⟨by have:=HK1.out;omega⟩,⟨by repeat(first|(with_reducible first|exact HB.out|apply Zh|apply Ze|apply Zd)|exact HB.out)⟩⟩
       ·replace c8:=Bool.eq_false_iff.mpr c8
        subst c8
        rw[if_neg (show ¬(false=true) by decide)] at H
        obtain rfl:=Zj H
        try go_wp2
        have n0_:=Za (Zd HB.out)
        clear HB
        have HB:=n0_
        clear n0_
        have p170:0≤(x5_1:Int):=Zs z4_15
        have q170:x5_1<(l0.length:Int):=Zs z4_15
        obtain⟨ad170,A170_0,c170_0,e170,hx170_0,hx170_1,hx170_2,hx170_3,hl170_0,hi170_0⟩:=at_T64 HR0.out x5_1 p170 q170
        have hw170_3:=hx170_3
        have hw170_2:=hx170_2
        have hw170_1:=hx170_1
        have hw170_0:=hx170_0
        cases e170
        replace hx170_0:=(HB.out.cell (Zg w _ hx170_0)).trans hx170_0
        replace hx170_1:=(HB.out.cell (Zg w _ hx170_1)).trans hx170_1
        replace hx170_2:=(HB.out.cell (Zg w _ hx170_2)).trans hx170_2
        replace hx170_3:=(HB.out.cell (Zg w _ hx170_3)).trans hx170_3
        have HR170_0:=Za hi170_0
        have HC170_0:=Za hl170_0
        clear hi170_0 hl170_0
        replace p170:=eq_true p170
        replace q170:=eq_true q170
        have p171:0≤(x5_1:Int):=Zs z4_15
        have q171:x5_1<(l1.length:Int):=Zs z4_15
        obtain⟨ad171,A171_0,c171_0,e171,hx171_0,hx171_1,hx171_2,hx171_3,hl171_0,hi171_0⟩:=at_T64 HR1.out x5_1 p171 q171
        have hw171_3:=hx171_3
        have hw171_2:=hx171_2
        have hw171_1:=hx171_1
        have hw171_0:=hx171_0
        cases e171
        replace hx171_0:=(HB.out.cell (Zg w _ hx171_0)).trans hx171_0
        replace hx171_1:=(HB.out.cell (Zg w _ hx171_1)).trans hx171_1
        replace hx171_2:=(HB.out.cell (Zg w _ hx171_2)).trans hx171_2
        replace hx171_3:=(HB.out.cell (Zg w _ hx171_3)).trans hx171_3
        have HR171_0:=Za hi171_0
        have HC171_0:=Za hl171_0
        clear hi171_0 hl171_0
        replace p171:=eq_true p171
        replace q171:=eq_true q171
        refine start_ (n:=10) (S:=fun w'=>w'.cell? (ad170.add ((x5_1).toNat*4))=some (.slice A170_0 ((rd_T64 l0 x5_1).f0).length c170_0)∧w'.cell? ⟨(ad170.add ((x5_1).toNat*4)).block,(ad170.add ((x5_1).toNat*4)).off+1,none⟩=some (.int .i64 ((rd_T64 l0 x5_1).f1.f0))∧w'.cell? ⟨(ad170.add ((x5_1).toNat*4)).block,(ad170.add ((x5_1).toNat*4)).off+2,none⟩=some (.int .i64 ((rd_T64 l0 x5_1).f1.f1))∧w'.cell? ⟨(ad170.add ((x5_1).toNat*4)).block,(ad170.add ((x5_1).toNat*4)).off+3,none⟩=some (.int .i64 ((rd_T64 l0 x5_1).f1.f2))∧w'.cell? (ad171.add ((x5_1).toNat*4))=some (.slice A171_0 ((rd_T64 l1 x5_1).f0).length c171_0)∧w'.cell? ⟨(ad171.add ((x5_1).toNat*4)).block,(ad171.add ((x5_1).toNat*4)).off+1,none⟩=some (.int .i64 ((rd_T64 l1 x5_1).f1.f0))∧w'.cell? ⟨(ad171.add ((x5_1).toNat*4)).block,(ad171.add ((x5_1).toNat*4)).off+2,none⟩=some (.int .i64 ((rd_T64 l1 x5_1).f1.f1))∧w'.cell? ⟨(ad171.add ((x5_1).toNat*4)).block,(ad171.add ((x5_1).toNat*4)).off+3,none⟩=some (.int .i64 ((rd_T64 l1 x5_1).f1.f2))) (ds:=[]) #[false,false,false,false,false,false,false,false,false,false] z4_18 rfl rfl ⟨((HB.out.cell (Zg w _ hw170_0)).trans hw170_0),((HB.out.cell (Zg w _ hw170_1)).trans hw170_1),((HB.out.cell (Zg w _ hw170_2)).trans hw170_2),((HB.out.cell (Zg w _ hw170_3)).trans hw170_3),((HB.out.cell (Zg w _ hw171_0)).trans hw171_0),((HB.out.cell (Zg w _ hw171_1)).trans hw171_1),((HB.out.cell (Zg w _ hw171_2)).trans hw171_2),((HB.out.cell (Zg w _ hw171_3)).trans hw171_3)⟩ (fun hHeld=> ?_);refine with_tabW laws_eqTaskS.tab6 laws_eqTaskS.bits6 (fun HT_ HW_=> ?_)
        generalize wr.drew=w11 at HB HR170_0 HR171_0 hx170_0 hx170_1 hx170_2 hx170_3 hx171_0 hx171_1 hx171_2 hx171_3 hHeld ⊢
        refine pure_ (i:=0) (N:=some 17) (v:= ?_) (a':= ?_) #[true,false,false,false,false,false,false,false,false,false] rfl rfl (any_of HT_.out z4_18) (fun _ _ _ h=>h) (Or.inl ⟨by rfl,?_⟩) ?_ ?_
        rotate_left
        ·intro w'
         go_simp
         with_reducible rfl
        rotate_left
        ·simp only[Act.put,Zm,Zn,Zo,i64_w,i32_w]
         rfl
        refine pure_ (i:=1) (N:=some 18) (v:= ?_) (a':= ?_) #[true,true,false,false,false,false,false,false,false,false] rfl rfl (any_of HT_.out z4_18) (fun _ _ _ h=>h) (Or.inl ⟨by rfl,?_⟩) ?_ ?_
        rotate_left
        ·intro w'
         go_simp
         with_reducible rfl
        rotate_left
        ·simp only[Act.put,Zm,Zn,Zo,i64_w,i32_w]
         rfl
        refine pure_ (i:=2) (N:=some 19) (v:= ?_) (a':= ?_) #[true,true,true,false,false,false,false,false,false,false] rfl rfl (any_of HT_.out z4_18) (fun _ _ _ h=>h) (Or.inl ⟨by rfl,?_⟩) ?_ ?_
        rotate_left
        ·intro w'
         go_simp
         with_reducible rfl
        rotate_left
        ·simp only[Act.put,Zm,Zn,Zo,i64_w,i32_w]
         rfl
        refine pure_ (i:=4) (N:=some 21) (v:= ?_) (a':= ?_) #[true,true,true,false,true,false,false,false,false,false] rfl rfl (any_of HT_.out z4_18) (fun _ _ _ h=>h) (Or.inl ⟨by rfl,?_⟩) ?_ ?_
        rotate_left
        ·intro w'
         go_simp
         with_reducible rfl
        rotate_left
        ·simp only[Act.put,Zm,Zn,Zo,i64_w,i32_w]
         rfl
        refine pure_ (i:=5) (N:=some 22) (v:= ?_) (a':= ?_) #[true,true,true,false,true,true,false,false,false,false] rfl rfl (any_of HT_.out z4_18) (fun _ _ _ h=>h) (Or.inl ⟨by rfl,?_⟩) ?_ ?_
        rotate_left
        ·intro w'
         go_simp
         with_reducible rfl
        rotate_left
        ·simp only[Act.put,Zm,Zn,Zo,i64_w,i32_w]
         rfl
        refine pure_ (i:=6) (N:=some 23) (v:= ?_) (a':= ?_) #[true,true,true,false,true,true,true,false,false,false] rfl rfl (any_of HT_.out z4_18) (fun _ _ _ h=>h) (Or.inl ⟨by rfl,?_⟩) ?_ ?_
        rotate_left
        ·intro w'
         go_simp
         with_reducible rfl
        rotate_left
        ·simp only[Act.put,Zm,Zn,Zo,i64_w,i32_w]
         rfl
        refine take_ (i:=3) (N:=some 20) (v:= ?_) (a':= ?_) #[true,true,true,true,true,true,true,false,false,false] rfl rfl (take_ofW HT_.out HW_.out z4_18) (fun _ _ _ h=>h) (Or.inl ⟨by rfl,?_⟩) hHeld ?_ ?_
        rotate_left
        ·rintro w' ⟨s0,s1,s2,s3,s4,s5,s6,s7⟩
         go_simp
         with_reducible rfl
        rotate_left
        ·simp only[Act.put,Zm,Zn,Zo,i64_w,i32_w]
         rfl
        refine take_ (i:=7) (N:=some 24) (v:= ?_) (a':= ?_) #[true,true,true,true,true,true,true,true,false,false] rfl rfl (take_ofW HT_.out HW_.out z4_18) (fun _ _ _ h=>h) (Or.inl ⟨by rfl,?_⟩) hHeld ?_ ?_
        rotate_left
        ·rintro w' ⟨s0,s1,s2,s3,s4,s5,s6,s7⟩
         go_simp
         with_reducible rfl
        rotate_left
        ·simp only[Act.put,Zm,Zn,Zo,i64_w,i32_w]
         rfl
        refine one_ (i:=8) (N:=some 25) #[true,true,true,true,true,true,true,true,true,false] rfl rfl (one_of HT_.out z4_18) (by decide) (fun K hK=> ?_)
        refine goes_ Try.func55 z4_18 rfl #[.agg #[.slice A170_0 ((rd_T64 l0 x5_1).f0).length c170_0,.int .i64 ((rd_T64 l0 x5_1).f1.f0),.int .i64 ((rd_T64 l0 x5_1).f1.f1),.int .i64 ((rd_T64 l0 x5_1).f1.f2)],.agg #[.slice A171_0 ((rd_T64 l1 x5_1).f0).length c171_0,.int .i64 ((rd_T64 l1 x5_1).f1.f0),.int .i64 ((rd_T64 l1 x5_1).f1.f1),.int .i64 ((rd_T64 l1 x5_1).f1.f2)]] (by rfl) rfl rfl z4_10 ?_
        with_reducible refine(laws_eqTask.calls k1 _ _ ((rd_T64 l0 x5_1).f0) ((rd_T64 l0 x5_1).f1.f0) ((rd_T64 l0 x5_1).f1.f1) ((rd_T64 l0 x5_1).f1.f2) _ _ ((rd_T64 l1 x5_1).f0) ((rd_T64 l1 x5_1).f1.f0) ((rd_T64 l1 x5_1).f1.f1) ((rd_T64 l1 x5_1).f1.f2) false _ ?side1 ?side2 ?side3 ?side4 A7.out).mono ?_
        (case side1=>repeat(first|exact(Yb HR170_0.out HB.out)|(with_reducible refine Yd ?_ _)|(with_reducible refine Ye ?_ _)|(with_reducible refine Yf ?_)))
        (case side2=>exact HC170_0.out)
        (case side3=>repeat(first|exact(Yb HR171_0.out HB.out)|(with_reducible refine Yd ?_ _)|(with_reducible refine Ye ?_ _)|(with_reducible refine Yf ?_)))
        (case side4=>exact HC171_0.out)
        rintro e w12 ⟨rfl,hb⟩
        refine⟨_,rfl,?_⟩
        have n0_:=Za (Zi z4_0 hb)
        clear HB
        have HB:=n0_
        clear n0_
        (try clear hb)
        (try clear hb2)
        (try clear hk)
        (try clear hi)
        refine hK.out _ _ ⟨((HB.out.cell (Zg w _ hw170_0)).trans hw170_0),((HB.out.cell (Zg w _ hw170_1)).trans hw170_1),((HB.out.cell (Zg w _ hw170_2)).trans hw170_2),((HB.out.cell (Zg w _ hw170_3)).trans hw170_3),((HB.out.cell (Zg w _ hw171_0)).trans hw171_0),((HB.out.cell (Zg w _ hw171_1)).trans hw171_1),((HB.out.cell (Zg w _ hw171_2)).trans hw171_2),((HB.out.cell (Zg w _ hw171_3)).trans hw171_3)⟩ (fun hHeld=> ?_)
        clear hK K
        refine norm_ (a':= ?_) ?_ ?_
        rotate_left
        ·show Act.put _ (some 25) _=_
         simp only[Act.put,Zm,Zn,Zo,i64_w,i32_w]
         rfl
        refine pure_ (i:=9) (N:=some 26) (v:= ?_) (a':= ?_) #[true,true,true,true,true,true,true,true,true,true] rfl rfl (any_of HT_.out z4_18) (fun _ _ _ h=>h) (Or.inl ⟨by rfl,?_⟩) ?_ ?_
        rotate_left
        ·intro w'
         go_simp
         with_reducible rfl
        rotate_left
        ·simp only[Act.put,Zm,Zn,Zo,i64_w,i32_w]
         rfl
        refine done_ (done_of HT_.out z4_18) ?_
        try go_wp2
        go_ret
        exact⟨by first|rfl|(simp[errW_none,errW_some]<;>rfl)|(simp[*,errW_none,errW_some]<;>rfl)|(simp[*,errW_none,errW_some,i64_w];done),by repeat(first|(with_reducible first|exact HB.out|apply Zh|apply Ze|apply Zd)|exact HB.out)⟩
      ·rw[if_neg c6] at H
       exact absurd H (by simp)
     ·rw[if_neg c5] at H
      exact absurd H (by simp)
    ·rw[if_neg c4] at H
     have c4b0:decide (x5_1<(l0.length:Int))=false:=Yc c4
     clear c4
     obtain rfl:=Zj H
     go_wp2
     go_ret
     exact⟨by first|rfl|(simp[errW_none,errW_some]<;>rfl)|(simp[*,errW_none,errW_some]<;>rfl)|(simp[*,errW_none,errW_some,i64_w];done),by repeat(first|(with_reducible first|exact HB.out|apply Zh|apply Ze|apply Zd)|exact HB.out)⟩
 ·rw[if_neg c3] at H
  have c3b0:((l0.length:Int)==(l1.length:Int))=false:=beq_eq_false_iff_ne.mpr c3
  have c3b1:((l0.length:Int) != (l1.length:Int))=true:=bne_iff_ne.mpr c3
  have c3b2:(l0.length==l1.length)=false:=by first|simpa using c3|(simp at c3 ⊢;omega)
  obtain rfl:=Zj H
  go_enter Try.func33,Try.ntmps33
  go_wp2
  go_ret
  exact⟨by first|rfl|(simp[errW_none,errW_some]<;>rfl)|(simp[*,errW_none,errW_some]<;>rfl)|(simp[*,errW_none,errW_some,i64_w];done),by repeat(first|(with_reducible first|exact HB.out|apply Zh|apply Ze|apply Zd)|exact HB.out)⟩
def laws_eqProgram.f (k:Nat) (l0_0:List (S64)) (l1_0:List (S64)):Option (Bool):=(laws_eqTaskS.f k l0_0 l1_0).bind fun t175=>(if t175=true then (some true) else (some false))
set_option maxHeartbeats 8000000 in
set_option maxRecDepth 100000 in
theorem laws_eqProgram.calls (k:Nat) (A0_0:Option Addr) (c0_0:Nat) (l0_0:List (S64)) (A1_0:Option Addr) (c1_0:Nat) (l1_0:List (S64)) (r:Bool) (w:World) (hr0_0:Kd.C k64 w A0_0 l0_0.length l0_0) (hc0_0:l0_0.length≤c0_0) (hr1_0:Kd.C k64 w A1_0 l1_0.length l1_0) (hc1_0:l1_0.length≤c1_0) (h:laws_eqProgram.f k l0_0 l1_0=some r):
  Calls Try.prog 11 #[.agg #[.slice A0_0 l0_0.length c0_0],.agg #[.slice A1_0 l1_0.length c1_0]] w fun e w'=>e= .returned (.bool r)∧Below w.heap.size w w':=by
 have hu33:=Try.underlying33
 have HR0_0:=Za hr0_0
 have HC0_0:=Za hc0_0
 clear hr0_0 hc0_0
 have HR1_0:=Za hr1_0
 have HC1_0:=Za hc1_0
 clear hr1_0 hc1_0
 have HB:=Za (Ya w.heap.size w)
 have H:((laws_eqTaskS.f k l0_0 l1_0).bind fun t175=>(if t175=true then (some true) else (some false)))=some r:=h
 clear h
 replace H:=Zl H
 obtain⟨t175,A30,H⟩:=H
 replace H:(if t175=true then (some true) else (some false))=some r:=H
 have A3:=Za A30
 clear A30
 by_cases c4:t175=true
 ·subst c4
  rw[if_pos rfl] at H
  obtain rfl:=Zj H
  go_enter Try.func11,Try.ntmps11
  go_wp2_with (first|((with_reducible refine Zp (N:=2) rfl ?_);refine Zr ?hg (N:=2) ?hd (cs:= #[.slice A0_0 l0_0.length c0_0]) (t:=33) ?hr ?_;(case hd=>rfl);(case hg=>rfl);(case hr=>exact z4_8);intro gb173 hg w5 hbox hb;have BK173:=Za (hbox);have GW173:=Za ((z4_21:w.heap.size≤gb173));have GE173:=Za ((z4_21:w.heap.size≤gb173));replace HB:=Za (Zi z4_0 hb);clear hb hbox hg)|((with_reducible refine Zp (N:=3) rfl ?_);refine Zr ?hg (N:=3) ?hd (cs:= #[.slice A1_0 l1_0.length c1_0]) (t:=33) ?hr ?_;(case hd=>rfl);(case hg=>rfl);(case hr=>exact z4_8);intro gb174 hg w6 hbox hb;have BK174:=Za (hbox);have GW174:=Za ((by rw[hg];exact(Zw z4_13):w.heap.size≤gb174));have GE174:=Za ((by rw[hg];exact(Zw z4_13):w.heap.size≤gb174));replace HB:=Za (Zi z4_13 hb);have NB173_174:=Za ((by rw[hg];exact Nat.ne_of_lt (blk_lt (g:=gb173) (o:= .cells #[.slice A0_0 l0_0.length c0_0] 33 (0,0)) z4_14):gb173≠gb174));have NB174_173:=Za ((by rw[hg];exact Nat.ne_of_gt (blk_lt (g:=gb173) (o:= .cells #[.slice A0_0 l0_0.length c0_0] 33 (0,0)) z4_14):gb174≠gb173));replace BK173:=Za (Zk (g:=gb173) (o:= .cells #[.slice A0_0 l0_0.length c0_0] 33 (0,0)) z4_14 hb);clear hb hbox hg;have hnb7:=NB173_174.out;have hnc7:=NB174_173.out;have hcz8_0:w6.cell? ⟨gb173,0,none⟩=some (.slice A0_0 l0_0.length c0_0):=(Zb BK173.out 0).trans rfl;have hfz8_0:=Zc BK173.out 0;have hcz9_0:w6.cell? ⟨gb174,0,none⟩=some (.slice A1_0 l1_0.length c1_0):=(Zb BK174.out 0).trans rfl;have hfz9_0:=Zc BK174.out 0)|((first|((with_reducible refine gate_callee (f:=33) rfl ?_);refine goesL_ (some 9) rfl rfl Try.func33 z4_18 rfl #[.slice A0_0 l0_0.length c0_0,.slice A1_0 l1_0.length c1_0] rfl z4_10 ?_;(with_reducible refine(laws_eqTaskS.calls k _ _ l0_0 _ _ l1_0 true _ ?side1 ?side2 ?side3 ?side4 A3.out).mono ?_))|(go_at_call 33;(with_reducible refine(laws_eqTaskS.calls k _ _ l0_0 _ _ l1_0 true _ ?side1 ?side2 ?side3 ?side4 A3.out).mono ?_)));(case side1=>repeat(first|exact(Yb HR0_0.out HB.out)|(with_reducible refine Yd ?_ _)|(with_reducible refine Ye ?_ _)|(with_reducible refine Yf ?_)));(case side2=>exact HC0_0.out);(case side3=>repeat(first|exact(Yb HR1_0.out HB.out)|(with_reducible refine Yd ?_ _)|(with_reducible refine Ye ?_ _)|(with_reducible refine Yf ?_)));(case side4=>exact HC1_0.out);rintro e w10 ⟨rfl,hb⟩;(first|refine⟨_,rfl,?_⟩|skip);replace BK173:=Za (Zk (g:=gb173) (o:= .cells #[.slice A0_0 l0_0.length c0_0] 33 (0,0)) z4_14 hb);replace BK174:=Za (Zk (g:=gb174) (o:= .cells #[.slice A1_0 l1_0.length c1_0] 33 (0,0)) (by(with_reducible repeat(first|refine blk_drewN ?_ _|refine blk_drew ?_|refine blk_alloc ?_ _));exact BK174.out) hb);replace HB:=Za (Zi (by repeat(first|(with_reducible first|exact HB.out|apply Zh|apply Ze|apply Zd|refine Zf ?_ GE173.out|refine Zf ?_ GE174.out)|exact HB.out)) hb);(try clear hb);(try clear hb2);(try clear hk);(try clear hi)))
  go_ret
  exact⟨by first|rfl|(simp[errW_none,errW_some]<;>rfl)|(simp[*,errW_none,errW_some]<;>rfl)|(simp[*,errW_none,errW_some,i64_w];done),by repeat(first|(with_reducible first|exact HB.out|apply Zh|apply Ze|apply Zd|refine Zf ?_ GE173.out|refine Zf ?_ GE174.out)|exact HB.out)⟩
 ·replace c4:=Bool.eq_false_iff.mpr c4
  subst c4
  rw[if_neg (show ¬(false=true) by decide)] at H
  obtain rfl:=Zj H
  go_enter Try.func11,Try.ntmps11
  go_wp2_with (first|((with_reducible refine Zp (N:=2) rfl ?_);refine Zr ?hg (N:=2) ?hd (cs:= #[.slice A0_0 l0_0.length c0_0]) (t:=33) ?hr ?_;(case hd=>rfl);(case hg=>rfl);(case hr=>exact z4_8);intro gb173 hg w11 hbox hb;have BK173:=Za (hbox);have GW173:=Za ((z4_21:w.heap.size≤gb173));have GE173:=Za ((z4_21:w.heap.size≤gb173));replace HB:=Za (Zi z4_0 hb);clear hb hbox hg)|((with_reducible refine Zp (N:=3) rfl ?_);refine Zr ?hg (N:=3) ?hd (cs:= #[.slice A1_0 l1_0.length c1_0]) (t:=33) ?hr ?_;(case hd=>rfl);(case hg=>rfl);(case hr=>exact z4_8);intro gb174 hg w12 hbox hb;have BK174:=Za (hbox);have GW174:=Za ((by rw[hg];exact(Zw z4_13):w.heap.size≤gb174));have GE174:=Za ((by rw[hg];exact(Zw z4_13):w.heap.size≤gb174));replace HB:=Za (Zi z4_13 hb);have NB173_174:=Za ((by rw[hg];exact Nat.ne_of_lt (blk_lt (g:=gb173) (o:= .cells #[.slice A0_0 l0_0.length c0_0] 33 (0,0)) z4_14):gb173≠gb174));have NB174_173:=Za ((by rw[hg];exact Nat.ne_of_gt (blk_lt (g:=gb173) (o:= .cells #[.slice A0_0 l0_0.length c0_0] 33 (0,0)) z4_14):gb174≠gb173));replace BK173:=Za (Zk (g:=gb173) (o:= .cells #[.slice A0_0 l0_0.length c0_0] 33 (0,0)) z4_14 hb);clear hb hbox hg;have hnb13:=NB173_174.out;have hnc13:=NB174_173.out;have hcz14_0:w12.cell? ⟨gb173,0,none⟩=some (.slice A0_0 l0_0.length c0_0):=(Zb BK173.out 0).trans rfl;have hfz14_0:=Zc BK173.out 0;have hcz15_0:w12.cell? ⟨gb174,0,none⟩=some (.slice A1_0 l1_0.length c1_0):=(Zb BK174.out 0).trans rfl;have hfz15_0:=Zc BK174.out 0)|((first|((with_reducible refine gate_callee (f:=33) rfl ?_);refine goesL_ (some 9) rfl rfl Try.func33 z4_18 rfl #[.slice A0_0 l0_0.length c0_0,.slice A1_0 l1_0.length c1_0] rfl z4_10 ?_;(with_reducible refine(laws_eqTaskS.calls k _ _ l0_0 _ _ l1_0 false _ ?side1 ?side2 ?side3 ?side4 A3.out).mono ?_))|(go_at_call 33;(with_reducible refine(laws_eqTaskS.calls k _ _ l0_0 _ _ l1_0 false _ ?side1 ?side2 ?side3 ?side4 A3.out).mono ?_)));(case side1=>repeat(first|exact(Yb HR0_0.out HB.out)|(with_reducible refine Yd ?_ _)|(with_reducible refine Ye ?_ _)|(with_reducible refine Yf ?_)));(case side2=>exact HC0_0.out);(case side3=>repeat(first|exact(Yb HR1_0.out HB.out)|(with_reducible refine Yd ?_ _)|(with_reducible refine Ye ?_ _)|(with_reducible refine Yf ?_)));(case side4=>exact HC1_0.out);rintro e w16 ⟨rfl,hb⟩;(first|refine⟨_,rfl,?_⟩|skip);replace BK173:=Za (Zk (g:=gb173) (o:= .cells #[.slice A0_0 l0_0.length c0_0] 33 (0,0)) z4_14 hb);replace BK174:=Za (Zk (g:=gb174) (o:= .cells #[.slice A1_0 l1_0.length c1_0] 33 (0,0)) (by(with_reducible repeat(first|refine blk_drewN ?_ _|refine blk_drew ?_|refine blk_alloc ?_ _));exact BK174.out) hb);replace HB:=Za (Zi (by repeat(first|(with_reducible first|exact HB.out|apply Zh|apply Ze|apply Zd|refine Zf ?_ GE173.out|refine Zf ?_ GE174.out)|exact HB.out)) hb);(try clear hb);(try clear hb2);(try clear hk);(try clear hi)))
  go_ret
  exact⟨by first|rfl|(simp[errW_none,errW_some]<;>rfl)|(simp[*,errW_none,errW_some]<;>rfl)|(simp[*,errW_none,errW_some,i64_w];done),by repeat(first|(with_reducible first|exact HB.out|apply Zh|apply Ze|apply Zd|refine Zf ?_ GE173.out|refine Zf ?_ GE174.out)|exact HB.out)⟩
def laws_eqIntS.l0:Nat→List Int→List Int→Int→Option (Bool)
 |0,_,_,_=>none
 |k+1,x0,x1,x5=>if x5<(x0.length:Int) then (if 0≤x5 then (if x5<(x1.length:Int) then (if (rd x0 x5)=(rd x1 x5) then (laws_eqIntS.l0 k x0 x1 (wrap64 (x5+1))) else (some false)) else (none)) else (none)) else (some true)
def laws_eqIntS.f (k:Nat) (l0:List Int) (l1:List Int):Option (Bool):=if (l0.length:Int)=(l1.length:Int) then (laws_eqIntS.l0 k l0 l1 0) else (some false)
set_option maxHeartbeats 8000000 in
set_option maxRecDepth 100000 in
theorem laws_eqIntS.calls (k:Nat) (A0:Option Addr) (c0:Nat) (l0:List Int) (A1:Option Addr) (c1:Nat) (l1:List Int) (r:Bool) (w:World) (hr0:Kd.C (Kd.int .i64) w A0 l0.length l0) (hc0:l0.length≤c0) (hr1:Kd.C (Kd.int .i64) w A1 l1.length l1) (hc1:l1.length≤c1) (h:laws_eqIntS.f k l0 l1=some r):
  Calls Try.prog 12 #[.slice A0 l0.length c0,.slice A1 l1.length c1] w fun e w'=>e= .returned (.bool r)∧Drawn0 w w':=by
 have HR0:=Za hr0
 have HC0:=Za hc0
 clear hr0 hc0
 have HR1:=Za hr1
 have HC1:=Za hc1
 clear hr1 hc1
 have H:(if (l0.length:Int)=(l1.length:Int) then (laws_eqIntS.l0 k l0 l1 0) else (some false))=some r:=h
 clear h
 by_cases c3:(l0.length:Int)=(l1.length:Int)
 ·rw[if_pos c3] at H
  have c3b0:((l0.length:Int)==(l1.length:Int))=true:=beq_iff_eq.mpr c3
  have c3b1:((l0.length:Int) != (l1.length:Int))=false:=bne_eq_false_iff_eq.mpr c3
  have c3b2:(l0.length==l1.length)=true:=by first|simpa using c3|(simp at c3 ⊢;omega)
  clear c3
  have H':=Za H
  clear H
  go_enter Try.func12,Try.ntmps12
  go_wp2
  repeat(go_quiet (fail);try go_wp2)
  go_loopg [5] k (fun kq v5 w'=>∃(x5_1:Int),v5= .int .i64 x5_1∧Aside0 (laws_eqIntS.l0 kq l0 l1 x5_1=some r)∧Aside0 (kq≤k)∧Drawn0 w w')
  case atStart=>exact⟨(0),z4_16,H',⟨Nat.le_refl _⟩,by repeat(first|exact Zu _|apply Zv)⟩
  case round=>
   clear H'
   (try clear c1);(try clear c3);(try clear c3b0);(try clear c3b1);(try clear c3b2)
   obtain⟨x5_1,rfl,HA,HK1,⟨m1,rfl⟩⟩:=hrel
   cases gk with
   |zero=>exact absurd HA.out (by simp[laws_eqIntS.l0])
   |succ k1=>
    have H:=HA.out
    clear HA
    simp only[laws_eqIntS.l0] at H
    by_cases c4:x5_1<(l0.length:Int)
    ·rw[if_pos c4] at H
     have c4b0:decide (x5_1<(l0.length:Int))=true:=Zt c4
     clear c4
     by_cases c5:0≤x5_1
     ·rw[if_pos c5] at H
      have c5b0:decide (0≤x5_1)=true:=Zt c5
      clear c5
      by_cases c6:x5_1<(l1.length:Int)
      ·rw[if_pos c6] at H
       have c6b0:decide (x5_1<(l1.length:Int))=true:=Zt c6
       clear c6
       by_cases c7:(rd l0 x5_1)=(rd l1 x5_1)
       ·rw[if_pos c7] at H
        have c7b0:((rd l0 x5_1)==(rd l1 x5_1))=true:=beq_iff_eq.mpr c7
        have c7b1:((rd l0 x5_1) != (rd l1 x5_1))=false:=bne_eq_false_iff_eq.mpr c7
        clear c7
        have H':=Za H
        clear H
        have p176:0≤(x5_1:Int):=Zs z4_15
        have q176:x5_1<(l0.length:Int):=Zs z4_15
        obtain⟨ad176,e176,hx176_0⟩:=Kd.at_int HR0.out x5_1 p176 q176
        cases e176
        replace p176:=eq_true p176
        replace q176:=eq_true q176
        have p177:0≤(x5_1:Int):=Zs z4_15
        have q177:x5_1<(l1.length:Int):=Zs z4_15
        obtain⟨ad177,e177,hx177_0⟩:=Kd.at_int HR1.out x5_1 p177 q177
        cases e177
        replace p177:=eq_true p177
        replace q177:=eq_true q177
        go_wp2
        repeat(go_quiet (fail);try go_wp2)
        go_roundg k1
        case measure=>have:=HK1.out;omega
        case rel=>exact⟨(wrap64 (x5_1+1)),z4_16,H',⟨by have:=HK1.out;omega⟩,by repeat(first|exact Zu _|apply Zv)⟩
       ·rw[if_neg c7] at H
        have c7b0:((rd l0 x5_1)==(rd l1 x5_1))=false:=beq_eq_false_iff_ne.mpr c7
        have c7b1:((rd l0 x5_1) != (rd l1 x5_1))=true:=bne_iff_ne.mpr c7
        obtain rfl:=Zj H
        have p176:0≤(x5_1:Int):=Zs z4_15
        have q176:x5_1<(l0.length:Int):=Zs z4_15
        obtain⟨ad176,e176,hx176_0⟩:=Kd.at_int HR0.out x5_1 p176 q176
        cases e176
        replace p176:=eq_true p176
        replace q176:=eq_true q176
        have p177:0≤(x5_1:Int):=Zs z4_15
        have q177:x5_1<(l1.length:Int):=Zs z4_15
        obtain⟨ad177,e177,hx177_0⟩:=Kd.at_int HR1.out x5_1 p177 q177
        cases e177
        replace p177:=eq_true p177
        replace q177:=eq_true q177
        go_wp2
        repeat(go_quiet (fail);try go_wp2)
        go_ret
        exact⟨by first|rfl|(simp;done)|(simp[*];done),by repeat(first|exact Zu _|apply Zv)⟩
      ·rw[if_neg c6] at H
       exact absurd H (by simp)
     ·rw[if_neg c5] at H
      exact absurd H (by simp)
    ·rw[if_neg c4] at H
     have c4b0:decide (x5_1<(l0.length:Int))=false:=Yc c4
     clear c4
     obtain rfl:=Zj H
     go_wp2
     repeat(go_quiet (fail);try go_wp2)
     go_ret
     exact⟨by first|rfl|(simp;done)|(simp[*];done),by repeat(first|exact Zu _|apply Zv)⟩
 ·rw[if_neg c3] at H
  have c3b0:((l0.length:Int)==(l1.length:Int))=false:=beq_eq_false_iff_ne.mpr c3
  have c3b1:((l0.length:Int) != (l1.length:Int))=true:=bne_iff_ne.mpr c3
  have c3b2:(l0.length==l1.length)=false:=by first|simpa using c3|(simp at c3 ⊢;omega)
  obtain rfl:=Zj H
  go_enter Try.func12,Try.ntmps12
  go_wp2
  repeat(go_quiet (fail);try go_wp2)
  go_ret
  exact⟨by first|rfl|(simp;done)|(simp[*];done),by repeat(first|exact Zu _|apply Zv)⟩
def laws_markStmtS.f (l:List S80) (k:Int):Option Int:=some (Sep.up (6*l.length) k)
set_option maxHeartbeats 8000000 in
set_option maxRecDepth 100000 in
theorem laws_markStmtS.calls (v:Value) (l:List S80) (a1 r:Int) (b:Nat) (w:World) (hs:Sep.RS 80 6 b w v l.length) (h:laws_markStmtS.f l a1=some r):
  Calls Try.prog 56 #[v,.int .i64 a1] w fun e w'=>e= .returned (.int .i64 r)∧Sep.MK [80] b w w':=by
 obtain⟨A0,c0,rfl,hc,hmax,hA⟩:=hs
 have HC:=Za hc
 have HA:=Za hA
 have HM:=Za hmax
 have HR:=Za (Zj h)
 clear hc hA h hmax
 go_enter Try.func56,Try.ntmps56
 go_wp2
 go_loopg [1,5] (l.length+1) (fun kq v1 v5 w'=>∃(x1:Int) (x5:Int),v1= .int .i64 x1∧v5= .int .i64 x5∧Aside0 (x1=Sep.up (6*x5.toNat) a1∧0≤x5∧x5≤(l.length:Int)∧kq+x5.toNat=l.length+1)∧Aside0 (Sep.MK [80] b w w'))
 case atStart=>exact⟨a1,0,z4_16,z4_16,⟨rfl,by omega,by omega,by simp⟩,⟨Sep.MK.of_below z4_17⟩⟩
 case round=>
  obtain⟨x1,x5,rfl,rfl,HX,M0⟩:=hrel
  cases gk with
  |zero=>have:=HX.out;omega
  |succ k1=>
   by_cases c3:x5<(l.length:Int)
   ·have c3b0:decide (x5<(l.length:Int))=true:=Zt c3
    have p5:0≤(x5:Int):=HX.out.2.1
    have c4b0:decide (0≤x5)=true:=Zt p5
    have q5:(x5:Int)<((l.length:Int):Int):=c3
    obtain⟨g,rfl,gb,rg⟩:=HA.out (by omega)
    have GB:=Za gb
    have RG0:=Za rg
    have LX0:x5.toNat*6+5<l.length*6:=by omega
    clear gb rg c3
    obtain⟨⟨u0,hx0⟩,hf0⟩:=Sep.RG.cell (o:=x5.toNat*6) (RG0.out.mk M0.out) (by omega)
    replace p5:=eq_true p5
    replace q5:=eq_true q5
    have n1_:wrap64 (x5+1)=x5+1:=by have:=HX.out;have:=HM.out;unfold wrap64;omega
    have N1:=Za n1_
    clear n1_
    go_wp2_with (first|((with_reducible refine Yh (t:=3) (p:=16) rfl ?_);refine Yg (t:=3) (p:=16) (v:= ?vo_w1) (w1:=(wr.setCell ⟨g,x5.toNat*6,none⟩ (.int .i64 (x1)))) ?hg ?ho ?hn ?hr ?_;(case ho=>rfl);(case hg=>rfl);(case hn=>rfl);(case hr=>exact z4_8);intro w1 hw;have M1:=Za (show Sep.MK [80] b w w1 from by rw[hw];exact Sep.MK.set M0.out (RG0.out.mk M0.out) (by decide) GB.out _ _);clear hw;have LX1:x5.toNat*6+5<l.length*6:=LX0;obtain⟨⟨u1,hx1⟩,hf1⟩:=Sep.RG.cell (o:=x5.toNat*6+1) (RG0.out.mk M1.out) (by omega))|((with_reducible refine Yh (t:=3) (p:=23) rfl ?_);refine Yg (t:=3) (p:=23) (v:= ?vo_w2) (w1:=(w1.setCell ⟨g,x5.toNat*6+1,none⟩ (.int .i64 (wrap64 (x1+1))))) ?hg ?ho ?hn ?hr ?_;(case ho=>rfl);(case hg=>rfl);(case hn=>rfl);(case hr=>exact z4_8);intro w2 hw;have M2:=Za (show Sep.MK [80] b w w2 from by rw[hw];exact Sep.MK.set M1.out (RG0.out.mk M1.out) (by decide) GB.out _ _);clear hw;have LX2:x5.toNat*6+5<l.length*6:=LX0;obtain⟨⟨u2,hx2⟩,hf2⟩:=Sep.RG.cell (o:=x5.toNat*6+2) (RG0.out.mk M2.out) (by omega))|((with_reducible refine Yh (t:=3) (p:=30) rfl ?_);refine Yg (t:=3) (p:=30) (v:= ?vo_w3) (w1:=(w2.setCell ⟨g,x5.toNat*6+2,none⟩ (.int .i64 (wrap64 ((wrap64 (x1+1))+1))))) ?hg ?ho ?hn ?hr ?_;(case ho=>rfl);(case hg=>rfl);(case hn=>rfl);(case hr=>exact z4_8);intro w3 hw;have M3:=Za (show Sep.MK [80] b w w3 from by rw[hw];exact Sep.MK.set M2.out (RG0.out.mk M2.out) (by decide) GB.out _ _);clear hw;have LX3:x5.toNat*6+5<l.length*6:=LX0;obtain⟨⟨u3,hx3⟩,hf3⟩:=Sep.RG.cell (o:=x5.toNat*6+3) (RG0.out.mk M3.out) (by omega))|((with_reducible refine Yh (t:=3) (p:=38) rfl ?_);refine Yg (t:=3) (p:=38) (v:= ?vo_w4) (w1:=(w3.setCell ⟨g,x5.toNat*6+3,none⟩ (.int .i64 (wrap64 ((wrap64 ((wrap64 (x1+1))+1))+1))))) ?hg ?ho ?hn ?hr ?_;(case ho=>rfl);(case hg=>rfl);(case hn=>rfl);(case hr=>exact z4_8);intro w4 hw;have M4:=Za (show Sep.MK [80] b w w4 from by rw[hw];exact Sep.MK.set M3.out (RG0.out.mk M3.out) (by decide) GB.out _ _);clear hw;have LX4:x5.toNat*6+5<l.length*6:=LX0;obtain⟨⟨u4,hx4⟩,hf4⟩:=Sep.RG.cell (o:=x5.toNat*6+4) (RG0.out.mk M4.out) (by omega))|((with_reducible refine Yh (t:=3) (p:=46) rfl ?_);refine Yg (t:=3) (p:=46) (v:= ?vo_w5) (w1:=(w4.setCell ⟨g,x5.toNat*6+4,none⟩ (.int .i64 (wrap64 ((wrap64 ((wrap64 ((wrap64 (x1+1))+1))+1))+1))))) ?hg ?ho ?hn ?hr ?_;(case ho=>rfl);(case hg=>rfl);(case hn=>rfl);(case hr=>exact z4_8);intro w5 hw;have M5:=Za (show Sep.MK [80] b w w5 from by rw[hw];exact Sep.MK.set M4.out (RG0.out.mk M4.out) (by decide) GB.out _ _);clear hw;have LX5:x5.toNat*6+5<l.length*6:=LX0;obtain⟨⟨u5,hx5⟩,hf5⟩:=Sep.RG.cell (o:=x5.toNat*6+5) (RG0.out.mk M5.out) (by omega))|((with_reducible refine Yh (t:=3) (p:=54) rfl ?_);refine Yg (t:=3) (p:=54) (v:= ?vo_w6) (w1:=(w5.setCell ⟨g,x5.toNat*6+5,none⟩ (.int .i64 (wrap64 ((wrap64 ((wrap64 ((wrap64 ((wrap64 (x1+1))+1))+1))+1))+1))))) ?hg ?ho ?hn ?hr ?_;(case ho=>rfl);(case hg=>rfl);(case hn=>rfl);(case hr=>exact z4_8);intro w6 hw;have M6:=Za (show Sep.MK [80] b w w6 from by rw[hw];exact Sep.MK.set M5.out (RG0.out.mk M5.out) (by decide) GB.out _ _);clear hw)|fail)
    go_roundg k1
    case measure=>omega
    case rel=>exact⟨_,wrap64 (x5+1),z4_16,z4_16,⟨by rw[N1.out,show 6*(x5+1).toNat=6*x5.toNat+6 by have:=HX.out;omega,Sep.up_add,←HX.out.1];rfl,by rw[N1.out];have:=HX.out;omega,by rw[N1.out];have:=HX.out;have:=of_eq_true q5;omega,by rw[N1.out];have:=HX.out;omega⟩,⟨M6.out.trans (Sep.MK.of_below z4_17)⟩⟩
   ·have c3b0:decide (x5<(l.length:Int))=false:=Yc c3
    have e5:x5=(l.length:Int):=by have:=HX.out;omega
    have E5:=Za e5
    clear c3 e5
    go_wp2
    go_ret
    exact⟨by rw[←HR.out,HX.out.1,E5.out];first|rfl|simp,M0.out.trans (Sep.MK.of_below z4_17)⟩
def markT (k:Int) (t:S64):Int:=Sep.up 3 (Sep.up (6*t.f0.length) k)
def laws_markTaskS.f (l:List S64) (k:Int):Option Int:=some (l.foldl markT k)
def TSv (b:Nat) (A:Option Addr) (l:List S64) (w:World):Prop:=∀(i:Nat) (t:S64),l[i]? =some t→∃g,A=some ⟨g,0,none⟩∧b≤g∧Sep.RG 64 (l.length*4) g w∧∃u,w.cell? ⟨g,i*4,none⟩=some u∧Sep.RS 80 6 b w u t.f0.length
theorem TSv.mk {b:Nat} {A:Option Addr} {l:List S64} {w w1:World} {ts:List Nat} {b':Nat} (h:TSv b A l w) (k:Sep.MK ts b' w w1) (hn:64 ∉ ts):TSv b A l w1:=by
 intro i t hi
 obtain⟨g,e,hb,⟨cs,hc,hm⟩,u,hu,hr⟩:=h i t hi
 have hc1:=k.blk hc hn
 exact⟨g,e,hb,⟨cs,hc1,hm⟩,u,(Zb hc1 _).trans ((Zb hc _).symm.trans hu),hr.mk k⟩
theorem TSv.set {b:Nat} {A:Option Addr} {l:List S64} {w:World} {g:Nat} (h:TSv b A l w) (hA:A=some ⟨g,0,none⟩) (hg:Sep.RG 64 (l.length*4) g w) (ht:64∈([64]:List Nat)) (x j:Nat) (j0:0<j) (j4:j<4) (v:Value):TSv b A l (w.setCell ⟨g,x*4+j,none⟩ v):=by
 intro i t hi
 obtain⟨g',e,hb,hrg,u,hu,hr⟩:=h i t hi
 rw[hA] at e
 have e':g=g':=by injection e with e;injection e
 subst e'
 have k:=Sep.MK.set (Sep.MK.refl [64] 0 w) hg ht (Nat.zero_le g) (x*4+j) v
 obtain⟨cs,hc,hm⟩:=hrg
 refine⟨g,hA,hb,(show Sep.RG 64 (l.length*4) g w from ⟨cs,hc,hm⟩).mk k,u,?_,hr.mk k⟩
 rw[Zb (blk_put hc (x*4+j) v rfl),Array.getElem?_setIfInBounds_ne (by omega),←Zb hc]
 exact hu
theorem TSv.of_S {b:Nat} {ok:Nat→Prop} {A:Option Addr} {n c:Nat} {l:List S64} {w:World} (h:Kd.S k64 64 w b ok (.slice A n c) l):TSv b A l w:=by
 intro i t hi
 have hl:=(List.getElem?_eq_some_iff.1 hi).1
 have hR:=Kd.S_R h
 obtain⟨A',c',e1,e2,e3,e4⟩:=Sep.RS.of_R z64 (by decide) hR
 injection e1 with e1 e5 _
 subst e1
 obtain⟨g,eA,hb,hrg⟩:=e4 (by omega)
 subst eA
 obtain⟨c1,l1,hM,hcell,_⟩:=Kd.R_elem hR z64 (i:Int) (by omega) (by omega)
 obtain⟨v0,rfl,g0⟩:=k64_openM hM
 have ht:l.getD ((i:Int)).toNat z64=t:=by rw[Int.toNat_natCast,List.getD_eq_getElem?_getD,hi];rfl
 rw[ht] at g0
 refine⟨g,rfl,hb,hrg,v0,hcell 0 _ rfl,Sep.RS.of_R z80 (by decide) g0⟩
set_option maxHeartbeats 8000000 in
set_option maxRecDepth 100000 in
theorem laws_markTaskS.calls (v:Value) (l:List S64) (a1 r:Int) (b:Nat) (ok:Nat→Prop) (w:World) (hs:Kd.S k64 64 w b ok v l) (h:laws_markTaskS.f l a1=some r):
  Calls Try.prog 34 #[v,.int .i64 a1] w fun e w'=>e= .returned (.int .i64 r)∧Sep.MK [80,64] b w w':=by
 obtain⟨A0_,c0,rfl,hc,hC⟩:=Kd.S_reads hs
 have HC:=Za hc
 have HM:=Za hC.2.1
 have HT:=Za (TSv.of_S hs)
 have HR:=Za (Zj h)
 clear hc hC h hs
 go_enter Try.func34,Try.ntmps34
 go_wp2
 go_loopg [1,5] (l.length+1) (fun kq v1 v5 w'=>∃(x1:Int) (x5:Int),v1= .int .i64 x1∧v5= .int .i64 x5∧Aside0 (x1=(l.take x5.toNat).foldl markT a1∧0≤x5∧x5≤(l.length:Int)∧kq+x5.toNat=l.length+1)∧Aside0 (Sep.MK [80,64] b w w')∧Aside0 (TSv b A0_ l w'))
 case atStart=>exact⟨a1,0,z4_16,z4_16,⟨rfl,by omega,by omega,by simp⟩,⟨Sep.MK.of_below z4_17⟩,⟨HT.out.mk (ts:=[]) (b':=0) (Sep.MK.of_below z4_17) (by simp)⟩⟩
 case round=>
  obtain⟨x1,x5,rfl,rfl,HX,M0,TS0⟩:=hrel
  cases gk with
  |zero=>have:=HX.out;omega
  |succ k1=>
   by_cases c3:x5<(l.length:Int)
   ·have c3b0:decide (x5<(l.length:Int))=true:=Zt c3
    have p5:0≤(x5:Int):=HX.out.2.1
    have c4b0:decide (0≤x5)=true:=Zt p5
    have q5:(x5:Int)<((l.length:Int):Int):=c3
    have QN:=Za (show x5.toNat<l.length by omega)
    obtain⟨t,ht⟩:∃t,l[x5.toNat]? =some t:=⟨_,List.getElem?_eq_getElem QN.out⟩
    obtain⟨g,eA,gb,rg,u0,hu,rs⟩:=TS0.out x5.toNat t ht
    subst eA
    obtain⟨A0_,hA0_⟩:∃A:Option Addr,A=some ⟨g,0,none⟩:=⟨_,rfl⟩
    have eA_:=Za hA0_
    have TS0':=TS0
    rw[←hA0_] at TS0'
    replace TS0:=TS0'
    clear TS0' hA0_
    have GB:=Za gb
    have RG0:=Za rg
    have hf0:=(Sep.RG.cell (o:=x5.toNat*4) rg (by have:=QN.out;omega)).2
    obtain⟨Au,cu,eu,lu,mu,hu2⟩:=rs
    subst eu
    have RSu:=Za (show Sep.RS 80 6 b wr (.slice Au t.f0.length cu) t.f0.length from ⟨Au,cu,rfl,lu,mu,hu2⟩)
    obtain⟨y,hy⟩:∃y,laws_markStmtS.f t.f0 x1=some y:=⟨_,rfl⟩
    have HY:=Za hy
    have HTT:=Za ht
    clear gb rg lu mu hu2 hy ht c3
    replace p5:=eq_true p5
    replace q5:=eq_true q5
    have n1_:wrap64 (x5+1)=x5+1:=by have:=HX.out;have:=HM.out;have:=QN.out;unfold wrap64;omega
    have N1:=Za n1_
    clear n1_
    go_wp2_with (first|(go_at_call 56;(with_reducible refine(laws_markStmtS.calls _ t.f0 x1 y b _ RSu.out HY.out).mono ?_);rintro e w1 ⟨rfl,hm⟩;have M1:=Za (M0.out.trans (hm.mono (ts':=[80,64]) (by decide)));have RG1:=Za (RG0.out.mk hm);have TS1:=Za (TSv.mk TS0.out hm (by decide));have LX1:=Za (show x5.toNat*4+1<l.length*4 from by have:=QN.out;omega);clear hm;obtain⟨⟨u1,hx1⟩,hf1⟩:=Sep.RG.cell (o:=x5.toNat*4+1) RG1.out LX1.out)|((with_reducible refine Yh (t:=3) (p:=24) rfl ?_);refine Yg (t:=3) (p:=24) (v:= ?vo_w2) (w1:=(w1.setCell ⟨g,x5.toNat*4+1,none⟩ (.int .i64 (y)))) ?hg ?ho ?hn ?hr ?_;(case ho=>rfl);(case hg=>rfl);(case hn=>rfl);(case hr=>exact z4_8);intro w2 hw;have M2:=Za (show Sep.MK [80,64] b w w2 from by rw[hw];exact Sep.MK.set M1.out RG1.out (by decide) GB.out _ _);have RG2:=Za (show Sep.RG 64 (l.length*4) g w2 from by rw[hw];exact RG1.out.mk (Sep.MK.set (ts:=[64]) (b:=0) (Sep.MK.refl _ _ _) RG1.out (by decide) (Nat.zero_le _) _ _));have TS2:=Za (show TSv b A0_ l w2 from by rw[hw];exact TSv.set TS1.out eA_.out RG1.out (by decide) x5.toNat 1 (by decide) (by decide) _);clear hw;have LX2:=Za (show x5.toNat*4+2<l.length*4 from by have:=LX1.out;have:=QN.out;omega);obtain⟨⟨u2,hx2⟩,hf2⟩:=Sep.RG.cell (o:=x5.toNat*4+2) RG2.out LX2.out)|((with_reducible refine Yh (t:=3) (p:=32) rfl ?_);refine Yg (t:=3) (p:=32) (v:= ?vo_w3) (w1:=(w2.setCell ⟨g,x5.toNat*4+2,none⟩ (.int .i64 (wrap64 (y+1))))) ?hg ?ho ?hn ?hr ?_;(case ho=>rfl);(case hg=>rfl);(case hn=>rfl);(case hr=>exact z4_8);intro w3 hw;have M3:=Za (show Sep.MK [80,64] b w w3 from by rw[hw];exact Sep.MK.set M2.out RG2.out (by decide) GB.out _ _);have RG3:=Za (show Sep.RG 64 (l.length*4) g w3 from by rw[hw];exact RG2.out.mk (Sep.MK.set (ts:=[64]) (b:=0) (Sep.MK.refl _ _ _) RG2.out (by decide) (Nat.zero_le _) _ _));have TS3:=Za (show TSv b A0_ l w3 from by rw[hw];exact TSv.set TS2.out eA_.out RG2.out (by decide) x5.toNat 2 (by decide) (by decide) _);clear hw;have LX3:=Za (show x5.toNat*4+3<l.length*4 from by have:=LX1.out;have:=QN.out;omega);obtain⟨⟨u3,hx3⟩,hf3⟩:=Sep.RG.cell (o:=x5.toNat*4+3) RG3.out LX3.out)|((with_reducible refine Yh (t:=3) (p:=40) rfl ?_);refine Yg (t:=3) (p:=40) (v:= ?vo_w4) (w1:=(w3.setCell ⟨g,x5.toNat*4+3,none⟩ (.int .i64 (wrap64 ((wrap64 (y+1))+1))))) ?hg ?ho ?hn ?hr ?_;(case ho=>rfl);(case hg=>rfl);(case hn=>rfl);(case hr=>exact z4_8);intro w4 hw;have M4:=Za (show Sep.MK [80,64] b w w4 from by rw[hw];exact Sep.MK.set M3.out RG3.out (by decide) GB.out _ _);have RG4:=Za (show Sep.RG 64 (l.length*4) g w4 from by rw[hw];exact RG3.out.mk (Sep.MK.set (ts:=[64]) (b:=0) (Sep.MK.refl _ _ _) RG3.out (by decide) (Nat.zero_le _) _ _));have TS4:=Za (show TSv b A0_ l w4 from by rw[hw];exact TSv.set TS3.out eA_.out RG3.out (by decide) x5.toNat 3 (by decide) (by decide) _);clear hw)|fail)
    go_roundg k1
    case measure=>omega
    case rel=>exact⟨_,wrap64 (x5+1),z4_16,z4_16,⟨by rw[N1.out,show(x5+1).toNat=x5.toNat+1 by have:=HX.out;omega,List.take_add_one,HTT.out,List.foldl_append,←HX.out.1,←Zj HY.out];rfl,by rw[N1.out];have:=HX.out;omega,by rw[N1.out];have:=HX.out;have:=of_eq_true q5;omega,by rw[N1.out];have:=HX.out;omega⟩,⟨M4.out.trans (Sep.MK.of_below z4_17)⟩,⟨by rw[←eA_.out];exact TS4.out.mk (ts:=[]) (b':=0) (Sep.MK.of_below z4_17) (by simp)⟩⟩
   ·have c3b0:decide (x5<(l.length:Int))=false:=Yc c3
    have e5:x5.toNat=l.length:=by have:=HX.out;omega
    have E5:=Za e5
    clear c3 e5
    go_wp2
    go_ret
    exact⟨by rw[←HR.out,HX.out.1,E5.out,List.take_length];rfl,M0.out.trans (Sep.MK.of_below z4_17)⟩
def laws_markProgram.f (l:List S64) (k:Int):Option Int:=laws_markTaskS.f l k
set_option maxHeartbeats 8000000 in
set_option maxRecDepth 100000 in
theorem laws_markProgram.calls (v:Value) (l:List S64) (a1 r:Int) (b:Nat) (ok:Nat→Prop) (w:World) (hs:Kd.S k64 64 w b ok v l) (h:laws_markProgram.f l a1=some r):
  Calls Try.prog 13 #[.agg #[v],.int .i64 a1] w fun e w'=>e= .returned (.int .i64 r)∧Sep.MK [80,64] b w w':=by
 obtain⟨A0_,c0,rfl,hc,hC⟩:=Kd.S_reads hs
 have HS:=Za hs
 have HR:=Za (show laws_markTaskS.f l a1=some r from h)
 clear hc hC h hs
 go_enter Try.func13,Try.ntmps13
 go_wp2_with (first|((with_reducible refine Zp (N:=2) rfl ?_);refine Zr ?hg (N:=2) ?hd (cs:= #[.slice A0_ l.length c0]) (t:=33) ?hr ?_;(case hd=>rfl);(case hg=>rfl);(case hr=>exact z4_8);intro gp hgp w1 hp hb;have HB1:=Za hb;have hP1:w1.cell? ⟨gp,0,none⟩=some (.slice A0_ l.length c0):=(Zb hp 0).trans rfl;have HS1:=Za (Kd.S_below HS.out hb);clear hgp hp hb)|(go_at_call 34;(with_reducible refine(laws_markTaskS.calls _ l a1 r b ok _ HS1.out HR.out).mono ?_);rintro e w2 ⟨rfl,hm⟩;have M2:=Za ((Sep.MK.of_below HB1.out).trans hm);clear hm)|fail)
 go_ret
 exact⟨rfl,M2.out.trans (Sep.MK.of_below z4_17)⟩
def laws_markIntS.l0:Nat→List Int→Int→Int→Option (Int×List Int)
 |0,_,_,_=>none
 |k+1,x0,x1,x5=>if x5<(x0.length:Int) then (if 0≤x5 then (laws_markIntS.l0 k (x0.set (x5:Int).toNat x1) (wrap64 (x1+1)) (wrap64 (x5+1))) else (none)) else (some (x1,x0))
def laws_markIntS.f (k:Nat) (l0:List Int) (a1:Int):Option (Int×List Int):=laws_markIntS.l0 k l0 a1 0
set_option maxHeartbeats 8000000 in
set_option maxRecDepth 100000 in
theorem laws_markIntS.calls (k:Nat) (P0_:Nat→Prop) (u9000_:Value) (l0:List Int) (a1:Int) (r1:Int) (r2:List Int) (w0 w:World) (hB:Below w0.heap.size w0 w) (ho0:Kd.R (Kd.int .i64) 3 w w0.heap.size P0_ u9000_ l0) (h:laws_markIntS.f k l0 a1=some (r1,r2)):
  Calls Try.prog 14 #[u9000_,.int .i64 a1] w fun e w'=>e= .returned (.int .i64 r1)∧Kd.R (Kd.int .i64) 3 w' w0.heap.size (fun k_=>(P0_ k_∨w.heap.size≤k_)) u9000_ r2∧Below w0.heap.size w0 w'∧Kept w w' (fun k_=>P0_ k_):=by
 have HO0:=Za (show Kd.R (Kd.int .i64) 3 w w0.heap.size (fun k_=>(P0_ k_∨w.heap.size≤k_)) u9000_ l0 from Yk ho0 (fun k_ hk=>(.inl hk)))
 have HK:=Za (Kept.refl w (fun k_=>P0_ k_))
 have HW0:=Za hB.size
 have HB:=Za hB
 clear hB
 have H:(laws_markIntS.l0 k l0 a1 0)=some (r1,r2):=h
 clear h
 have H':=Za H
 clear H
 go_enter Try.func14,Try.ntmps14
 go_wp2
 go_loopg [1,5] k (fun kq v1 v5 w'=>∃(x0_1:List Int) (x1_1:Int) (x5_1:Int),v1= .int .i64 x1_1∧v5= .int .i64 x5_1∧Aside0 (laws_markIntS.l0 kq x0_1 x1_1 x5_1=some (r1,r2))∧Aside0 (kq≤k)∧Aside0 (Kd.R (Kd.int .i64) 3 w' w0.heap.size (fun k_=>(P0_ k_∨w.heap.size≤k_)) u9000_ x0_1)∧Aside0 (Kept w w' (fun k_=>P0_ k_))∧Aside0 (Below w0.heap.size w0 w'))
 case atStart=>exact⟨(l0),(a1),(0),z4_16,z4_16,H',⟨Nat.le_refl _⟩,⟨by(with_reducible repeat(first|apply Zy|apply Zz|apply Zx));exact HO0.out⟩,⟨by repeat(first|(with_reducible first|exact HK.out|apply Kept.alloc|apply Kept.drewN|apply Kept.drew)|exact HK.out)⟩,⟨by repeat(first|(with_reducible first|exact HB.out|apply Zh|apply Ze|apply Zd)|exact HB.out)⟩⟩
 case round=>
  clear H'
  obtain⟨x0_1,x1_1,x5_1,rfl,rfl,HA,HK1,HO_0,HK,HB⟩:=hrel
  cases gk with
  |zero=>exact absurd HA.out (by simp[laws_markIntS.l0])
  |succ k1=>
   have H:=HA.out
   clear HA
   simp only[laws_markIntS.l0] at H
   by_cases c3:x5_1<(x0_1.length:Int)
   ·rw[if_pos c3] at H
    have c3b0:decide (x5_1<(x0_1.length:Int))=true:=Zt c3
    clear c3
    by_cases c4:0≤x5_1
    ·rw[if_pos c4] at H
     have c4b0:decide (0≤x5_1)=true:=Zt c4
     clear c4
     obtain⟨y178,hy178⟩:∃y_:List Int,y_=(x0_1.set (x5_1:Int).toNat x1_1):=⟨_,rfl⟩
     replace H:(laws_markIntS.l0 k1 y178 (wrap64 (x1_1+1)) (wrap64 (x5_1+1)))=some (r1,r2):=by first|(rw[hy178];with_reducible exact H)|(have H2_:=(Option.bind_some _ _).symm.trans H;rw[hy178];with_reducible exact H2_)|(have H2_:=(Option.bind_some _ _).symm.trans H;with_reducible exact H2_)|with_reducible exact H|(rw[hy178];exact H)|exact H
     have Ny178:=Za hy178
     clear hy178
     have H':=Za H
     clear H
     obtain⟨Ao6,co6,eo6⟩:=Kd.R_slice HO_0.out
     subst eo6
     have p5:0≤(x5_1:Int):=Zs z4_15
     have q5:(x5_1:Int)<((x0_1.length:Int):Int):=Zs z4_15
     obtain⟨go5,co5,eo5,gb5,gl5,cl5,HG5⟩:=Kd.R_form HO_0.out (by omega)
     (first|cases eo5|(injection eo5 with ea_ en_ ec_;(first|subst ea_|(injection ea_ with ea_;subst ea_));subst ec_;clear en_))
     have GB5:=Za gb5
     have GG5:=Za HG5
     clear gb5 gl5 HG5
     have HMgo5:=Za (show(P0_ go5∨w.heap.size≤go5) from (HO_0.out.1 _ rfl))
     obtain⟨hx5_0,hf5_0⟩:=Kd.R_celln 0 HO_0.out (x5_1:Int) p5 q5
     replace p5:=eq_true p5
     replace q5:=eq_true q5
     have HP7:=Kd.R_putg HO_0.out (x5_1:Int) x1_1
     go_wp2_with (first|((with_reducible refine Yh (t:=3) (p:=15) rfl ?_);refine Yg (t:=3) (p:=15) (v:= ?vo_w8) (w1:=(wr.setCell ⟨go5,(x5_1:Int).toNat,none⟩ (.int .i64 x1_1))) ?hg ?ho ?hn ?hr ?_;(case ho=>rfl);(case hg=>rfl);(case hn=>rfl);(case hr=>exact z4_8);intro w8 hw;have hg:wr.grownBy w8 (some go5):=(by rw[hw];exact HP7.2);have hp_:Kd.R (Kd.int .i64) 3 w8 w0.heap.size (fun k_=>(P0_ k_∨w.heap.size≤k_)) (.slice (some ⟨go5,0,none⟩) x0_1.length co6) y178:=(by rw[hw,Ny178.out];exact HP7.1);clear HP7;replace HB:=Za ((by rw[hw];exact Zf (HB.out) GB5.out:Below w0.heap.size w0 w8));replace HK:=Za (Kept.of_grown (S:=(fun k_=>P0_ k_)) hg (by repeat(first|(with_reducible first|exact HK.out|apply Kept.alloc|apply Kept.drewN|apply Kept.drew)|exact HK.out)) (fun k_ e_=>(HO_0.out.1 k_ e_)));replace HO_0:=Za (hp_);clear hg hw hp_))
     go_roundg k1
     case measure=>have:=HK1.out;omega
     case rel=>exact⟨(y178),(wrap64 (x1_1+1)),(wrap64 (x5_1+1)),z4_16,z4_16,H',⟨by have:=HK1.out;omega⟩,⟨by(with_reducible repeat(first|apply Zy|apply Zz|apply Zx));exact HO_0.out⟩,⟨by repeat(first|(with_reducible first|exact HK.out|apply Kept.alloc|apply Kept.drewN|apply Kept.drew)|exact HK.out)⟩,⟨by repeat(first|(with_reducible first|exact HB.out|apply Zh|apply Ze|apply Zd)|exact HB.out)⟩⟩
    ·rw[if_neg c4] at H
     exact absurd H (by simp)
   ·rw[if_neg c3] at H
    have c3b0:decide (x5_1<(x0_1.length:Int))=false:=Yc c3
    clear c3
    simp only[Option.some.injEq,Prod.mk.injEq] at H
    obtain⟨rfl,rfl⟩:=H
    obtain⟨Ao9,co9,eo9⟩:=Kd.R_slice HO_0.out
    subst eo9
    go_wp2
    go_ret
    exact⟨by first|rfl|(simp[errW_none,errW_some]<;>rfl)|(simp[*,errW_none,errW_some]<;>rfl)|(simp[*,errW_none,errW_some,i64_w];done),by(with_reducible repeat(first|apply Zy|apply Zz|apply Zx));exact HO_0.out,by repeat(first|(with_reducible first|exact HB.out|apply Zh|apply Ze|apply Zd)|exact HB.out),by repeat(first|(with_reducible first|exact HK.out|apply Kept.alloc|apply Kept.drewN|apply Kept.drew)|exact HK.out)⟩
def spec_l01In.f (a0:Int) (a1:Int) (a2:Int):Option (Bool):=if a0≥a1 then (some (decide (a0≤a2))) else (some false)
set_option maxHeartbeats 8000000 in
set_option maxRecDepth 100000 in
theorem spec_l01In.calls (a0:Int) (a1:Int) (a2:Int) (r:Bool) (w:World) (h:spec_l01In.f a0 a1 a2=some r):
  Calls Try.prog 23 #[.int .i64 a0,.int .i64 a1,.int .i64 a2] w fun e w'=>e= .returned (.bool r)∧Drawn0 w w':=by
 have H:(if a0≥a1 then (some (decide (a0≤a2))) else (some false))=some r:=h
 clear h
 by_cases c4:a0≥a1
 ·rw[if_pos c4] at H
  have c4b0:decide (a1≤a0)=true:=Zt c4
  clear c4
  obtain rfl:=Zj H
  go_enter Try.func23,Try.ntmps23
  go_wp2
  go_ret
  exact⟨by first|rfl|(simp;done)|(simp[*];done),by repeat(first|exact Zu _|apply Zv)⟩
 ·rw[if_neg c4] at H
  have c4b0:decide (a1≤a0)=false:=Yc c4
  clear c4
  obtain rfl:=Zj H
  go_enter Try.func23,Try.ntmps23
  go_wp2
  go_ret
  exact⟨by first|rfl|(simp;done)|(simp[*];done),by repeat(first|exact Zu _|apply Zv)⟩
def spec_OperandOk.f (a0:Int):Option (Bool):=(spec_l01In.f a0 (-8) 999).bind fun t179=>(some t179)
set_option maxHeartbeats 8000000 in
set_option maxRecDepth 100000 in
theorem spec_OperandOk.calls (a0:Int) (r:Bool) (w:World) (h:spec_OperandOk.f a0=some r):
  Calls Try.prog 65 #[.int .i64 a0] w fun e w'=>e= .returned (.bool r)∧Drawn0 w w':=by
 have H:((spec_l01In.f a0 (-8) 999).bind fun t179=>(some t179))=some r:=h
 clear h
 replace H:=Zl H
 obtain⟨t179,A20,H⟩:=H
 replace H:(some t179)=some r:=H
 have A2:=Za A20
 clear A20
 obtain rfl:=Zj H
 go_enter Try.func65,Try.ntmps65
 go_wp2_with (first|((first|((with_reducible refine gate_callee (f:=23) rfl ?_);refine goesL_ (some 4) rfl rfl Try.func23 z4_18 rfl #[.int .i64 a0,.int .i64 (-8),.int .i64 999] rfl z4_10 ?_;(with_reducible refine(spec_l01In.calls a0 (-8) 999 t179 _ A2.out).mono ?_))|(go_at_call 23;(with_reducible refine(spec_l01In.calls a0 (-8) 999 t179 _ A2.out).mono ?_)));rintro e w' ⟨rfl,⟨nd,rfl⟩⟩;(first|refine⟨_,rfl,?_⟩|skip)))
 go_ret
 exact⟨by first|rfl|(simp;done)|(simp[*];done),by repeat(first|exact Zu _|apply Zv)⟩
def spec_ExprOk.f (a0_0:Int) (a0_1:Int) (a0_2:Int):Option (Bool):=(spec_l01In.f a0_0 1 7).bind fun t181=>(if t181=true then ((spec_OperandOk.f a0_1).bind fun t182=>(if t182=true then ((spec_OperandOk.f a0_2).bind fun t183=>(some t183)) else (some false))) else (some false))
set_option maxHeartbeats 8000000 in
set_option maxRecDepth 100000 in
theorem spec_ExprOk.calls (a0_0:Int) (a0_1:Int) (a0_2:Int) (r:Bool) (w:World) (h:spec_ExprOk.f a0_0 a0_1 a0_2=some r):
  Calls Try.prog 41 #[.agg #[.int .i64 a0_0,.int .i64 a0_1,.int .i64 a0_2]] w fun e w'=>e= .returned (.bool r)∧Below w.heap.size w w':=by
 have hu62:=Try.underlying62
 have HB:=Za (Ya w.heap.size w)
 have H:((spec_l01In.f a0_0 1 7).bind fun t181=>(if t181=true then ((spec_OperandOk.f a0_1).bind fun t182=>(if t182=true then ((spec_OperandOk.f a0_2).bind fun t183=>(some t183)) else (some false))) else (some false)))=some r:=h
 clear h
 replace H:=Zl H
 obtain⟨t181,A20,H⟩:=H
 replace H:(if t181=true then ((spec_OperandOk.f a0_1).bind fun t182=>(if t182=true then ((spec_OperandOk.f a0_2).bind fun t183=>(some t183)) else (some false))) else (some false))=some r:=H
 have A2:=Za A20
 clear A20
 by_cases c3:t181=true
 ·subst c3
  rw[if_pos rfl] at H
  replace H:=Zl H
  obtain⟨t182,A40,H⟩:=H
  replace H:(if t182=true then ((spec_OperandOk.f a0_2).bind fun t183=>(some t183)) else (some false))=some r:=H
  have A4:=Za A40
  clear A40
  by_cases c5:t182=true
  ·subst c5
   rw[if_pos rfl] at H
   replace H:=Zl H
   obtain⟨t183,A60,H⟩:=H
   replace H:(some t183)=some r:=H
   have A6:=Za A60
   clear A60
   obtain rfl:=Zj H
   go_enter Try.func41,Try.ntmps41
   go_wp2_with (first|((with_reducible refine Zp (N:=1) rfl ?_);refine Zr ?hg (N:=1) ?hd (cs:= #[.int .i64 a0_0,.int .i64 a0_1,.int .i64 a0_2]) (t:=62) ?hr ?_;(case hd=>rfl);(case hg=>rfl);(case hr=>exact z4_8);intro gb180 hg w7 hbox hb;have BK180:=Za (hbox);have GW180:=Za ((z4_21:w.heap.size≤gb180));have GE180:=Za ((z4_21:w.heap.size≤gb180));replace HB:=Za (Zi z4_0 hb);clear hb hbox hg;have hcz8_0:w7.cell? ⟨gb180,0,none⟩=some (.int .i64 a0_0):=(Zb BK180.out 0).trans rfl;have hcz8_1:w7.cell? ⟨gb180,1,none⟩=some (.int .i64 a0_1):=(Zb BK180.out 1).trans rfl;have hcz8_2:w7.cell? ⟨gb180,2,none⟩=some (.int .i64 a0_2):=(Zb BK180.out 2).trans rfl;have hfz8_0:=Zc BK180.out 0;have hfz8_1:=Zc BK180.out 1;have hfz8_2:=Zc BK180.out 2)|((first|((with_reducible refine gate_callee (f:=23) rfl ?_);refine goesL_ (some 5) rfl rfl Try.func23 z4_18 rfl #[.int .i64 a0_0,.int .i64 1,.int .i64 7] rfl z4_10 ?_;(with_reducible refine(spec_l01In.calls a0_0 1 7 true _ A2.out).mono ?_))|(go_at_call 23;(with_reducible refine(spec_l01In.calls a0_0 1 7 true _ A2.out).mono ?_)));rintro e w' ⟨rfl,⟨nd,rfl⟩⟩;(first|refine⟨_,rfl,?_⟩|skip))|(go_at_call 65;(with_reducible refine(spec_OperandOk.calls a0_1 true _ A4.out).mono ?_);rintro e w' ⟨rfl,⟨nd,rfl⟩⟩)|(go_at_call 65;(with_reducible refine(spec_OperandOk.calls a0_2 t183 _ A6.out).mono ?_);rintro e w' ⟨rfl,⟨nd,rfl⟩⟩))
   go_ret
   exact⟨by first|rfl|(simp[errW_none,errW_some]<;>rfl)|(simp[*,errW_none,errW_some]<;>rfl)|(simp[*,errW_none,errW_some,i64_w];done),by repeat(first|(with_reducible first|exact HB.out|apply Zh|apply Ze|apply Zd|refine Zf ?_ GE180.out)|exact HB.out)⟩
  ·replace c5:=Bool.eq_false_iff.mpr c5
   subst c5
   rw[if_neg (show ¬(false=true) by decide)] at H
   obtain rfl:=Zj H
   go_enter Try.func41,Try.ntmps41
   go_wp2_with (first|((with_reducible refine Zp (N:=1) rfl ?_);refine Zr ?hg (N:=1) ?hd (cs:= #[.int .i64 a0_0,.int .i64 a0_1,.int .i64 a0_2]) (t:=62) ?hr ?_;(case hd=>rfl);(case hg=>rfl);(case hr=>exact z4_8);intro gb180 hg w9 hbox hb;have BK180:=Za (hbox);have GW180:=Za ((z4_21:w.heap.size≤gb180));have GE180:=Za ((z4_21:w.heap.size≤gb180));replace HB:=Za (Zi z4_0 hb);clear hb hbox hg;have hcz10_0:w9.cell? ⟨gb180,0,none⟩=some (.int .i64 a0_0):=(Zb BK180.out 0).trans rfl;have hcz10_1:w9.cell? ⟨gb180,1,none⟩=some (.int .i64 a0_1):=(Zb BK180.out 1).trans rfl;have hcz10_2:w9.cell? ⟨gb180,2,none⟩=some (.int .i64 a0_2):=(Zb BK180.out 2).trans rfl;have hfz10_0:=Zc BK180.out 0;have hfz10_1:=Zc BK180.out 1;have hfz10_2:=Zc BK180.out 2)|((first|((with_reducible refine gate_callee (f:=23) rfl ?_);refine goesL_ (some 5) rfl rfl Try.func23 z4_18 rfl #[.int .i64 a0_0,.int .i64 1,.int .i64 7] rfl z4_10 ?_;(with_reducible refine(spec_l01In.calls a0_0 1 7 true _ A2.out).mono ?_))|(go_at_call 23;(with_reducible refine(spec_l01In.calls a0_0 1 7 true _ A2.out).mono ?_)));rintro e w' ⟨rfl,⟨nd,rfl⟩⟩;(first|refine⟨_,rfl,?_⟩|skip))|(go_at_call 65;(with_reducible refine(spec_OperandOk.calls a0_1 false _ A4.out).mono ?_);rintro e w' ⟨rfl,⟨nd,rfl⟩⟩))
   go_ret
   exact⟨by first|rfl|(simp[errW_none,errW_some]<;>rfl)|(simp[*,errW_none,errW_some]<;>rfl)|(simp[*,errW_none,errW_some,i64_w];done),by repeat(first|(with_reducible first|exact HB.out|apply Zh|apply Ze|apply Zd|refine Zf ?_ GE180.out)|exact HB.out)⟩
 ·replace c3:=Bool.eq_false_iff.mpr c3
  subst c3
  rw[if_neg (show ¬(false=true) by decide)] at H
  obtain rfl:=Zj H
  go_enter Try.func41,Try.ntmps41
  go_wp2_with (first|((with_reducible refine Zp (N:=1) rfl ?_);refine Zr ?hg (N:=1) ?hd (cs:= #[.int .i64 a0_0,.int .i64 a0_1,.int .i64 a0_2]) (t:=62) ?hr ?_;(case hd=>rfl);(case hg=>rfl);(case hr=>exact z4_8);intro gb180 hg w11 hbox hb;have BK180:=Za (hbox);have GW180:=Za ((z4_21:w.heap.size≤gb180));have GE180:=Za ((z4_21:w.heap.size≤gb180));replace HB:=Za (Zi z4_0 hb);clear hb hbox hg;have hcz12_0:w11.cell? ⟨gb180,0,none⟩=some (.int .i64 a0_0):=(Zb BK180.out 0).trans rfl;have hcz12_1:w11.cell? ⟨gb180,1,none⟩=some (.int .i64 a0_1):=(Zb BK180.out 1).trans rfl;have hcz12_2:w11.cell? ⟨gb180,2,none⟩=some (.int .i64 a0_2):=(Zb BK180.out 2).trans rfl;have hfz12_0:=Zc BK180.out 0;have hfz12_1:=Zc BK180.out 1;have hfz12_2:=Zc BK180.out 2)|((first|((with_reducible refine gate_callee (f:=23) rfl ?_);refine goesL_ (some 5) rfl rfl Try.func23 z4_18 rfl #[.int .i64 a0_0,.int .i64 1,.int .i64 7] rfl z4_10 ?_;(with_reducible refine(spec_l01In.calls a0_0 1 7 false _ A2.out).mono ?_))|(go_at_call 23;(with_reducible refine(spec_l01In.calls a0_0 1 7 false _ A2.out).mono ?_)));rintro e w' ⟨rfl,⟨nd,rfl⟩⟩;(first|refine⟨_,rfl,?_⟩|skip)))
  go_ret
  exact⟨by first|rfl|(simp[errW_none,errW_some]<;>rfl)|(simp[*,errW_none,errW_some]<;>rfl)|(simp[*,errW_none,errW_some,i64_w];done),by repeat(first|(with_reducible first|exact HB.out|apply Zh|apply Ze|apply Zd|refine Zf ?_ GE180.out)|exact HB.out)⟩
def spec_l04Plain.j0:Nat→Int→Bool→Int→Int→Int→Int→Int→Int→Int→Int→Int→Int→Int→Int→Option (Int×Int×Int×Int×Int×Int)
 |0,_,_,_,_,_,_,_,_,_,_,_,_,_,_=>none
 |k+1,x8,x25,x185000,x185001,x185002,x185003,x185004,x185005,x187000,x187001,x187002,x187003,x187004,x187005=>if x25=true then (some (x187000,x187001,x187002,x185003,x185004,x185005)) else (if x8=5 then (some (x187000,x187001,x185002,x187003,x187004,x187005)) else (some (x187000,x187001,x187002,x187003,x187004,x187005)))
def spec_l04Plain.f (k:Nat) (a0_0:Int) (a0_1:Int) (a0_2:Int) (a0_3:Int) (a0_4:Int) (a0_5:Int):Option (Int×Int×Int×Int×Int×Int):=if a0_0=1 then (some (a0_0,a0_1,0,a0_3,a0_4,a0_5)) else (if a0_0=2 then (some (a0_0,a0_1,a0_2,0,0,0)) else (if a0_0=3 then (spec_l04Plain.j0 k a0_0 (a0_0==3) a0_0 a0_1 a0_2 a0_3 a0_4 a0_5 a0_0 0 0 0 0 0) else (spec_l04Plain.j0 k a0_0 (a0_0==4) a0_0 a0_1 a0_2 a0_3 a0_4 a0_5 a0_0 0 0 0 0 0)))
set_option maxHeartbeats 8000000 in
set_option maxRecDepth 100000 in
theorem spec_l04Plain.calls (k:Nat) (a0_0:Int) (a0_1:Int) (a0_2:Int) (a0_3:Int) (a0_4:Int) (a0_5:Int) (r1:Int) (r2:Int) (r3:Int) (r4:Int) (r5:Int) (r6:Int) (w:World) (h:spec_l04Plain.f k a0_0 a0_1 a0_2 a0_3 a0_4 a0_5=some (r1,r2,r3,r4,r5,r6)):
  Calls Try.prog 88 #[.agg #[.int .i64 a0_0,.int .i64 a0_1,.int .i64 a0_2,.int .i64 a0_3,.int .i64 a0_4,.int .i64 a0_5]] w fun e w'=>e= .returned (.agg #[.int .i64 r1,.int .i64 r2,.int .i64 r3,.int .i64 r4,.int .i64 r5,.int .i64 r6])∧Below w.heap.size w w':=by
 have hu80:=Try.underlying80
 have hu62:=Try.underlying62
 have HB:=Za (Ya w.heap.size w)
 have H:(if a0_0=1 then (some (a0_0,a0_1,0,a0_3,a0_4,a0_5)) else (if a0_0=2 then (some (a0_0,a0_1,a0_2,0,0,0)) else (if a0_0=3 then (spec_l04Plain.j0 k a0_0 (a0_0==3) a0_0 a0_1 a0_2 a0_3 a0_4 a0_5 a0_0 0 0 0 0 0) else (spec_l04Plain.j0 k a0_0 (a0_0==4) a0_0 a0_1 a0_2 a0_3 a0_4 a0_5 a0_0 0 0 0 0 0))))=some (r1,r2,r3,r4,r5,r6):=h
 clear h
 by_cases c2:a0_0=1
 ·rw[if_pos c2] at H
  have c2b0:(a0_0==1)=true:=beq_iff_eq.mpr c2
  have c2b1:(a0_0 != 1)=false:=bne_eq_false_iff_eq.mpr c2
  clear c2
  simp only[Option.some.injEq,Prod.mk.injEq] at H
  obtain⟨rfl,rfl,rfl,rfl,rfl,rfl⟩:=H
  go_enter Try.func88,Try.ntmps88
  go_wp2_with (first|((with_reducible refine Zp (N:=1) rfl ?_);refine Zr ?hg (N:=1) ?hd (cs:= #[.int .i64 a0_0,.int .i64 a0_1,.int .i64 a0_2,.int .i64 a0_3,.int .i64 a0_4,.int .i64 a0_5]) (t:=80) ?hr ?_;(case hd=>rfl);(case hg=>rfl);(case hr=>exact z4_8);intro gb184 hg w3 hbox hb;have BK184:=Za (hbox);have GW184:=Za ((z4_21:w.heap.size≤gb184));have GE184:=Za ((z4_21:w.heap.size≤gb184));replace HB:=Za (Zi z4_0 hb);clear hb hbox hg)|((with_reducible refine Zp (N:=2) rfl ?_);refine Zr ?hg (N:=2) ?hd (cs:= #[.int .i64 0,.int .i64 0,.int .i64 0,.int .i64 0,.int .i64 0,.int .i64 0]) (t:=80) ?hr ?_;(case hd=>rfl);(case hg=>rfl);(case hr=>exact z4_8);intro gb185 hg w4 hbox hb;have BK185:=Za (hbox);have GW185:=Za ((by rw[hg];exact(Zw z4_9):w.heap.size≤gb185));have GE185:=Za ((by rw[hg];exact(Zw z4_9):w.heap.size≤gb185));replace HB:=Za (Zi z4_9 hb);have NB184_185:=Za ((z4_19:gb184≠gb185));have NB185_184:=Za ((z4_20:gb185≠gb184));replace BK184:=Za (Zk (g:=gb184) (o:= .cells #[.int .i64 a0_0,.int .i64 a0_1,.int .i64 a0_2,.int .i64 a0_3,.int .i64 a0_4,.int .i64 a0_5] 80 (0,0)) z4_3 hb);clear hb hbox hg;have hnb5:=NB184_185.out;have hnc5:=NB185_184.out;have hcz6_0:w4.cell? ⟨gb184,0,none⟩=some (.int .i64 a0_0):=(Zb BK184.out 0).trans rfl;have hcz6_1:w4.cell? ⟨gb184,1,none⟩=some (.int .i64 a0_1):=(Zb BK184.out 1).trans rfl;have hcz6_2:w4.cell? ⟨gb184,2,none⟩=some (.int .i64 a0_2):=(Zb BK184.out 2).trans rfl;have hcz6_3:w4.cell? ⟨gb184,3,none⟩=some (.int .i64 a0_3):=(Zb BK184.out 3).trans rfl;have hcz6_4:w4.cell? ⟨gb184,4,none⟩=some (.int .i64 a0_4):=(Zb BK184.out 4).trans rfl;have hcz6_5:w4.cell? ⟨gb184,5,none⟩=some (.int .i64 a0_5):=(Zb BK184.out 5).trans rfl;have hfz6_0:=Zc BK184.out 0;have hfz6_1:=Zc BK184.out 1;have hfz6_2:=Zc BK184.out 2;have hfz6_3:=Zc BK184.out 3;have hfz6_4:=Zc BK184.out 4;have hfz6_5:=Zc BK184.out 5)|((with_reducible refine Zp (N:=3) rfl ?_);refine Zr ?hg (N:=3) ?hd (cs:= #[.int .i64 0,.int .i64 0,.int .i64 0,.int .i64 0,.int .i64 0,.int .i64 0]) (t:=80) ?hr ?_;(case hd=>rfl);(case hg=>rfl);(case hr=>exact z4_8);intro gb186 hg w7 hbox hb;have BK186:=Za (hbox);have GW186:=Za ((by rw[hg];exact(Zw z4_6):w.heap.size≤gb186));have GE186:=Za ((by rw[hg];exact(Zw z4_6):w.heap.size≤gb186));replace HB:=Za (Zi z4_6 hb);have NB184_186:=Za ((z4_19:gb184≠gb186));have NB186_184:=Za ((z4_20:gb186≠gb184));replace BK184:=Za (Zk (g:=gb184) (o:= .cells #[.int .i64 a0_0,.int .i64 a0_1,.int .i64 a0_2,.int .i64 a0_3,.int .i64 a0_4,.int .i64 a0_5] 80 (0,0)) z4_3 hb);have NB185_186:=Za ((z4_22:gb185≠gb186));have NB186_185:=Za ((z4_23:gb186≠gb185));replace BK185:=Za (Zk (g:=gb185) (o:= .cells #[.int .i64 0,.int .i64 0,.int .i64 0,.int .i64 0,.int .i64 0,.int .i64 0] 80 (0,0)) z4_7 hb);clear hb hbox hg;have hnb8:=NB186_184.out;have hnc8:=NB184_186.out;have hnb9:=NB186_185.out;have hnc9:=NB185_186.out;have hcz10_0:w7.cell? ⟨gb186,0,none⟩=some (.int .i64 0):=(Zb BK186.out 0).trans rfl;have hcz10_1:w7.cell? ⟨gb186,1,none⟩=some (.int .i64 0):=(Zb BK186.out 1).trans rfl;have hcz10_2:w7.cell? ⟨gb186,2,none⟩=some (.int .i64 0):=(Zb BK186.out 2).trans rfl;have hcz10_3:w7.cell? ⟨gb186,3,none⟩=some (.int .i64 0):=(Zb BK186.out 3).trans rfl;have hcz10_4:w7.cell? ⟨gb186,4,none⟩=some (.int .i64 0):=(Zb BK186.out 4).trans rfl;have hcz10_5:w7.cell? ⟨gb186,5,none⟩=some (.int .i64 0):=(Zb BK186.out 5).trans rfl;have hfz10_0:=Zc BK186.out 0;have hfz10_1:=Zc BK186.out 1;have hfz10_2:=Zc BK186.out 2;have hfz10_3:=Zc BK186.out 3;have hfz10_4:=Zc BK186.out 4;have hfz10_5:=Zc BK186.out 5)|((with_reducible refine Yh (t:=80) (p:=3) rfl ?_);refine Yg (t:=80) (p:=3) (v:= ?vo_w11) (w1:=((((((w7.setCell ⟨gb186,0,none⟩ (.int .i64 a0_0)).setCell ⟨gb186,1,none⟩ (.int .i64 0)).setCell ⟨gb186,2,none⟩ (.int .i64 0)).setCell ⟨gb186,3,none⟩ (.int .i64 0)).setCell ⟨gb186,4,none⟩ (.int .i64 0)).setCell ⟨gb186,5,none⟩ (.int .i64 0))) ?hg ?ho ?hn ?hr ?_;(case ho=>rfl);(case hg=>rfl);(case hn=>rfl);(case hr=>exact z4_8);intro w11 hw;have n0_:Aside0 (w11.heap[gb184]? =some (.cells #[.int .i64 a0_0,.int .i64 a0_1,.int .i64 a0_2,.int .i64 a0_3,.int .i64 a0_4,.int .i64 a0_5] 80 (0,0))):=⟨z4_5⟩;have n1_:Aside0 (w11.heap[gb185]? =some (.cells #[.int .i64 0,.int .i64 0,.int .i64 0,.int .i64 0,.int .i64 0,.int .i64 0] 80 (0,0))):=⟨z4_4⟩;have n2_:Aside0 (w11.heap[gb186]? =some (.cells #[.int .i64 a0_0,.int .i64 0,.int .i64 0,.int .i64 0,.int .i64 0,.int .i64 0] 80 (0,0))):=⟨z4_1⟩;have n3_:Aside0 (Below w.heap.size w w11):=⟨z4_2⟩;clear hw;clear BK184;clear BK185;clear BK186;clear HB;have BK184:=n0_;have BK185:=n1_;have BK186:=n2_;have HB:=n3_;clear n0_ n1_ n2_ n3_;have hcz12_0:w11.cell? ⟨gb184,0,none⟩=some (.int .i64 a0_0):=(Zb BK184.out 0).trans rfl;have hcz12_1:w11.cell? ⟨gb184,1,none⟩=some (.int .i64 a0_1):=(Zb BK184.out 1).trans rfl;have hcz12_2:w11.cell? ⟨gb184,2,none⟩=some (.int .i64 a0_2):=(Zb BK184.out 2).trans rfl;have hcz12_3:w11.cell? ⟨gb184,3,none⟩=some (.int .i64 a0_3):=(Zb BK184.out 3).trans rfl;have hcz12_4:w11.cell? ⟨gb184,4,none⟩=some (.int .i64 a0_4):=(Zb BK184.out 4).trans rfl;have hcz12_5:w11.cell? ⟨gb184,5,none⟩=some (.int .i64 a0_5):=(Zb BK184.out 5).trans rfl;have hfz12_0:=Zc BK184.out 0;have hfz12_1:=Zc BK184.out 1;have hfz12_2:=Zc BK184.out 2;have hfz12_3:=Zc BK184.out 3;have hfz12_4:=Zc BK184.out 4;have hfz12_5:=Zc BK184.out 5;have hcz13_0:w11.cell? ⟨gb186,0,none⟩=some (.int .i64 a0_0):=(Zb BK186.out 0).trans rfl;have hcz13_1:w11.cell? ⟨gb186,1,none⟩=some (.int .i64 0):=(Zb BK186.out 1).trans rfl;have hcz13_2:w11.cell? ⟨gb186,2,none⟩=some (.int .i64 0):=(Zb BK186.out 2).trans rfl;have hcz13_3:w11.cell? ⟨gb186,3,none⟩=some (.int .i64 0):=(Zb BK186.out 3).trans rfl;have hcz13_4:w11.cell? ⟨gb186,4,none⟩=some (.int .i64 0):=(Zb BK186.out 4).trans rfl;have hcz13_5:w11.cell? ⟨gb186,5,none⟩=some (.int .i64 0):=(Zb BK186.out 5).trans rfl;have hfz13_0:=Zc BK186.out 0;have hfz13_1:=Zc BK186.out 1;have hfz13_2:=Zc BK186.out 2;have hfz13_3:=Zc BK186.out 3;have hfz13_4:=Zc BK186.out 4;have hfz13_5:=Zc BK186.out 5)|((with_reducible refine Yh (t:=62) (p:=16) rfl ?_);refine Yg (t:=62) (p:=16) (v:= ?vo_w14) (w1:=((((w11.setCell ⟨gb186,1,none⟩ (.int .i64 a0_1)).setCell ⟨gb186,3,none⟩ (.int .i64 a0_3)).setCell ⟨gb186,4,none⟩ (.int .i64 a0_4)).setCell ⟨gb186,5,none⟩ (.int .i64 a0_5))) ?hg ?ho ?hn ?hr ?_;(case ho=>rfl);(case hg=>rfl);(case hn=>rfl);(case hr=>exact z4_8);intro w14 hw;have n0_:Aside0 (w14.heap[gb184]? =some (.cells #[.int .i64 a0_0,.int .i64 a0_1,.int .i64 a0_2,.int .i64 a0_3,.int .i64 a0_4,.int .i64 a0_5] 80 (0,0))):=⟨(by rw[hw];exact(by(with_reducible repeat(first|refine blk_drewN ?_ _|refine blk_drew ?_|refine blk_alloc ?_ _));refine blk_far ?_ NB184_186.out _;(with_reducible repeat(first|refine blk_drewN ?_ _|refine blk_drew ?_|refine blk_alloc ?_ _));refine blk_far ?_ NB184_186.out _;(with_reducible repeat(first|refine blk_drewN ?_ _|refine blk_drew ?_|refine blk_alloc ?_ _));refine blk_far ?_ NB184_186.out _;(with_reducible repeat(first|refine blk_drewN ?_ _|refine blk_drew ?_|refine blk_alloc ?_ _));refine blk_far ?_ NB184_186.out _;(with_reducible repeat(first|refine blk_drewN ?_ _|refine blk_drew ?_|refine blk_alloc ?_ _));exact BK184.out))⟩;have n1_:Aside0 (w14.heap[gb185]? =some (.cells #[.int .i64 0,.int .i64 0,.int .i64 0,.int .i64 0,.int .i64 0,.int .i64 0] 80 (0,0))):=⟨(by rw[hw];exact(by(with_reducible repeat(first|refine blk_drewN ?_ _|refine blk_drew ?_|refine blk_alloc ?_ _));refine blk_far ?_ NB185_186.out _;(with_reducible repeat(first|refine blk_drewN ?_ _|refine blk_drew ?_|refine blk_alloc ?_ _));refine blk_far ?_ NB185_186.out _;(with_reducible repeat(first|refine blk_drewN ?_ _|refine blk_drew ?_|refine blk_alloc ?_ _));refine blk_far ?_ NB185_186.out _;(with_reducible repeat(first|refine blk_drewN ?_ _|refine blk_drew ?_|refine blk_alloc ?_ _));refine blk_far ?_ NB185_186.out _;(with_reducible repeat(first|refine blk_drewN ?_ _|refine blk_drew ?_|refine blk_alloc ?_ _));exact BK185.out))⟩;have n2_:Aside0 (w14.heap[gb186]? =some (.cells #[.int .i64 a0_0,.int .i64 a0_1,.int .i64 0,.int .i64 a0_3,.int .i64 a0_4,.int .i64 a0_5] 80 (0,0))):=⟨(by rw[hw];exact(by(with_reducible repeat(first|refine blk_drewN ?_ _|refine blk_drew ?_|refine blk_alloc ?_ _));refine blk_put (cs:= #[.int .i64 a0_0,.int .i64 a0_1,.int .i64 0,.int .i64 a0_3,.int .i64 a0_4,.int .i64 0]) ?_ 5 _ rfl;(with_reducible repeat(first|refine blk_drewN ?_ _|refine blk_drew ?_|refine blk_alloc ?_ _));refine blk_put (cs:= #[.int .i64 a0_0,.int .i64 a0_1,.int .i64 0,.int .i64 a0_3,.int .i64 0,.int .i64 0]) ?_ 4 _ rfl;(with_reducible repeat(first|refine blk_drewN ?_ _|refine blk_drew ?_|refine blk_alloc ?_ _));refine blk_put (cs:= #[.int .i64 a0_0,.int .i64 a0_1,.int .i64 0,.int .i64 0,.int .i64 0,.int .i64 0]) ?_ 3 _ rfl;(with_reducible repeat(first|refine blk_drewN ?_ _|refine blk_drew ?_|refine blk_alloc ?_ _));refine blk_put (cs:= #[.int .i64 a0_0,.int .i64 0,.int .i64 0,.int .i64 0,.int .i64 0,.int .i64 0]) ?_ 1 _ rfl;(with_reducible repeat(first|refine blk_drewN ?_ _|refine blk_drew ?_|refine blk_alloc ?_ _));exact BK186.out))⟩;have n3_:Aside0 (Below w.heap.size w w14):=⟨z4_2⟩;clear hw;clear BK184;clear BK185;clear BK186;clear HB;have BK184:=n0_;have BK185:=n1_;have BK186:=n2_;have HB:=n3_;clear n0_ n1_ n2_ n3_;have hcz15_0:w14.cell? ⟨gb186,0,none⟩=some (.int .i64 a0_0):=(Zb BK186.out 0).trans rfl;have hcz15_1:w14.cell? ⟨gb186,1,none⟩=some (.int .i64 a0_1):=(Zb BK186.out 1).trans rfl;have hcz15_2:w14.cell? ⟨gb186,2,none⟩=some (.int .i64 0):=(Zb BK186.out 2).trans rfl;have hcz15_3:w14.cell? ⟨gb186,3,none⟩=some (.int .i64 a0_3):=(Zb BK186.out 3).trans rfl;have hcz15_4:w14.cell? ⟨gb186,4,none⟩=some (.int .i64 a0_4):=(Zb BK186.out 4).trans rfl;have hcz15_5:w14.cell? ⟨gb186,5,none⟩=some (.int .i64 a0_5):=(Zb BK186.out 5).trans rfl;have hfz15_0:=Zc BK186.out 0;have hfz15_1:=Zc BK186.out 1;have hfz15_2:=Zc BK186.out 2;have hfz15_3:=Zc BK186.out 3;have hfz15_4:=Zc BK186.out 4;have hfz15_5:=Zc BK186.out 5;have hcz16_0:w14.cell? ⟨gb185,0,none⟩=some (.int .i64 0):=(Zb BK185.out 0).trans rfl;have hcz16_1:w14.cell? ⟨gb185,1,none⟩=some (.int .i64 0):=(Zb BK185.out 1).trans rfl;have hcz16_2:w14.cell? ⟨gb185,2,none⟩=some (.int .i64 0):=(Zb BK185.out 2).trans rfl;have hcz16_3:w14.cell? ⟨gb185,3,none⟩=some (.int .i64 0):=(Zb BK185.out 3).trans rfl;have hcz16_4:w14.cell? ⟨gb185,4,none⟩=some (.int .i64 0):=(Zb BK185.out 4).trans rfl;have hcz16_5:w14.cell? ⟨gb185,5,none⟩=some (.int .i64 0):=(Zb BK185.out 5).trans rfl;have hfz16_0:=Zc BK185.out 0;have hfz16_1:=Zc BK185.out 1;have hfz16_2:=Zc BK185.out 2;have hfz16_3:=Zc BK185.out 3;have hfz16_4:=Zc BK185.out 4;have hfz16_5:=Zc BK185.out 5)|((with_reducible refine Yh (t:=80) (p:=2) rfl ?_);refine Yg (t:=80) (p:=2) (v:= ?vo_w17) (w1:=((((((w14.setCell ⟨gb185,0,none⟩ (.int .i64 a0_0)).setCell ⟨gb185,1,none⟩ (.int .i64 a0_1)).setCell ⟨gb185,2,none⟩ (.int .i64 0)).setCell ⟨gb185,3,none⟩ (.int .i64 a0_3)).setCell ⟨gb185,4,none⟩ (.int .i64 a0_4)).setCell ⟨gb185,5,none⟩ (.int .i64 a0_5))) ?hg ?ho ?hn ?hr ?_;(case ho=>rfl);(case hg=>rfl);(case hn=>rfl);(case hr=>exact z4_8);intro w17 hw;have n0_:Aside0 (w17.heap[gb184]? =some (.cells #[.int .i64 a0_0,.int .i64 a0_1,.int .i64 a0_2,.int .i64 a0_3,.int .i64 a0_4,.int .i64 a0_5] 80 (0,0))):=⟨z4_12⟩;have n1_:Aside0 (w17.heap[gb185]? =some (.cells #[.int .i64 a0_0,.int .i64 a0_1,.int .i64 0,.int .i64 a0_3,.int .i64 a0_4,.int .i64 a0_5] 80 (0,0))):=⟨(by rw[hw];exact(by(with_reducible repeat(first|refine blk_drewN ?_ _|refine blk_drew ?_|refine blk_alloc ?_ _));refine blk_put (cs:= #[.int .i64 a0_0,.int .i64 a0_1,.int .i64 0,.int .i64 a0_3,.int .i64 a0_4,.int .i64 0]) ?_ 5 _ rfl;(with_reducible repeat(first|refine blk_drewN ?_ _|refine blk_drew ?_|refine blk_alloc ?_ _));refine blk_put (cs:= #[.int .i64 a0_0,.int .i64 a0_1,.int .i64 0,.int .i64 a0_3,.int .i64 0,.int .i64 0]) ?_ 4 _ rfl;(with_reducible repeat(first|refine blk_drewN ?_ _|refine blk_drew ?_|refine blk_alloc ?_ _));refine blk_put (cs:= #[.int .i64 a0_0,.int .i64 a0_1,.int .i64 0,.int .i64 0,.int .i64 0,.int .i64 0]) ?_ 3 _ rfl;(with_reducible repeat(first|refine blk_drewN ?_ _|refine blk_drew ?_|refine blk_alloc ?_ _));refine blk_put (cs:= #[.int .i64 a0_0,.int .i64 a0_1,.int .i64 0,.int .i64 0,.int .i64 0,.int .i64 0]) ?_ 2 _ rfl;(with_reducible repeat(first|refine blk_drewN ?_ _|refine blk_drew ?_|refine blk_alloc ?_ _));refine blk_put (cs:= #[.int .i64 a0_0,.int .i64 0,.int .i64 0,.int .i64 0,.int .i64 0,.int .i64 0]) ?_ 1 _ rfl;(with_reducible repeat(first|refine blk_drewN ?_ _|refine blk_drew ?_|refine blk_alloc ?_ _));refine blk_put (cs:= #[.int .i64 0,.int .i64 0,.int .i64 0,.int .i64 0,.int .i64 0,.int .i64 0]) ?_ 0 _ rfl;(with_reducible repeat(first|refine blk_drewN ?_ _|refine blk_drew ?_|refine blk_alloc ?_ _));exact BK185.out))⟩;have n2_:Aside0 (w17.heap[gb186]? =some (.cells #[.int .i64 a0_0,.int .i64 a0_1,.int .i64 0,.int .i64 a0_3,.int .i64 a0_4,.int .i64 a0_5] 80 (0,0))):=⟨z4_11⟩;have n3_:Aside0 (Below w.heap.size w w17):=⟨z4_2⟩;clear hw;clear BK184;clear BK185;clear BK186;clear HB;have BK184:=n0_;have BK185:=n1_;have BK186:=n2_;have HB:=n3_;clear n0_ n1_ n2_ n3_))
  refine bodyPost_ret (results_cell_row rfl _ _ gb185 80 #[.int .i64 a0_0,.int .i64 a0_1,.int .i64 0,.int .i64 a0_3,.int .i64 a0_4,.int .i64 a0_5] (0,0) _ rfl z4_7 Try.underlying80 rfl z4_18) rfl ?_
  exact⟨by first|rfl|(simp[errW_none,errW_some]<;>rfl)|(simp[*,errW_none,errW_some]<;>rfl)|(simp[*,errW_none,errW_some,i64_w];done),by repeat(first|(with_reducible first|exact HB.out|apply Zh|apply Ze|apply Zd|refine Zf ?_ GE184.out|refine Zf ?_ GE185.out|refine Zf ?_ GE186.out)|exact HB.out)⟩
 ·rw[if_neg c2] at H
  have c2b0:(a0_0==1)=false:=beq_eq_false_iff_ne.mpr c2
  have c2b1:(a0_0 != 1)=true:=bne_iff_ne.mpr c2
  by_cases c18:a0_0=2
  ·rw[if_pos c18] at H
   have c18b0:(a0_0==2)=true:=beq_iff_eq.mpr c18
   have c18b1:(a0_0 != 2)=false:=bne_eq_false_iff_eq.mpr c18
   clear c18
   simp only[Option.some.injEq,Prod.mk.injEq] at H
   obtain⟨rfl,rfl,rfl,rfl,rfl,rfl⟩:=H
   go_enter Try.func88,Try.ntmps88
   go_wp2_with (first|((with_reducible refine Zp (N:=1) rfl ?_);refine Zr ?hg (N:=1) ?hd (cs:= #[.int .i64 a0_0,.int .i64 a0_1,.int .i64 a0_2,.int .i64 a0_3,.int .i64 a0_4,.int .i64 a0_5]) (t:=80) ?hr ?_;(case hd=>rfl);(case hg=>rfl);(case hr=>exact z4_8);intro gb184 hg w19 hbox hb;have BK184:=Za (hbox);have GW184:=Za ((z4_21:w.heap.size≤gb184));have GE184:=Za ((z4_21:w.heap.size≤gb184));replace HB:=Za (Zi z4_0 hb);clear hb hbox hg)|((with_reducible refine Zp (N:=2) rfl ?_);refine Zr ?hg (N:=2) ?hd (cs:= #[.int .i64 0,.int .i64 0,.int .i64 0,.int .i64 0,.int .i64 0,.int .i64 0]) (t:=80) ?hr ?_;(case hd=>rfl);(case hg=>rfl);(case hr=>exact z4_8);intro gb185 hg w20 hbox hb;have BK185:=Za (hbox);have GW185:=Za ((by rw[hg];exact(Zw z4_9):w.heap.size≤gb185));have GE185:=Za ((by rw[hg];exact(Zw z4_9):w.heap.size≤gb185));replace HB:=Za (Zi z4_9 hb);have NB184_185:=Za ((z4_19:gb184≠gb185));have NB185_184:=Za ((z4_20:gb185≠gb184));replace BK184:=Za (Zk (g:=gb184) (o:= .cells #[.int .i64 a0_0,.int .i64 a0_1,.int .i64 a0_2,.int .i64 a0_3,.int .i64 a0_4,.int .i64 a0_5] 80 (0,0)) z4_3 hb);clear hb hbox hg;have hnb21:=NB184_185.out;have hnc21:=NB185_184.out;have hcz22_0:w20.cell? ⟨gb184,0,none⟩=some (.int .i64 a0_0):=(Zb BK184.out 0).trans rfl;have hcz22_1:w20.cell? ⟨gb184,1,none⟩=some (.int .i64 a0_1):=(Zb BK184.out 1).trans rfl;have hcz22_2:w20.cell? ⟨gb184,2,none⟩=some (.int .i64 a0_2):=(Zb BK184.out 2).trans rfl;have hcz22_3:w20.cell? ⟨gb184,3,none⟩=some (.int .i64 a0_3):=(Zb BK184.out 3).trans rfl;have hcz22_4:w20.cell? ⟨gb184,4,none⟩=some (.int .i64 a0_4):=(Zb BK184.out 4).trans rfl;have hcz22_5:w20.cell? ⟨gb184,5,none⟩=some (.int .i64 a0_5):=(Zb BK184.out 5).trans rfl;have hfz22_0:=Zc BK184.out 0;have hfz22_1:=Zc BK184.out 1;have hfz22_2:=Zc BK184.out 2;have hfz22_3:=Zc BK184.out 3;have hfz22_4:=Zc BK184.out 4;have hfz22_5:=Zc BK184.out 5)|((with_reducible refine Zp (N:=3) rfl ?_);refine Zr ?hg (N:=3) ?hd (cs:= #[.int .i64 0,.int .i64 0,.int .i64 0,.int .i64 0,.int .i64 0,.int .i64 0]) (t:=80) ?hr ?_;(case hd=>rfl);(case hg=>rfl);(case hr=>exact z4_8);intro gb186 hg w23 hbox hb;have BK186:=Za (hbox);have GW186:=Za ((by rw[hg];exact(Zw z4_6):w.heap.size≤gb186));have GE186:=Za ((by rw[hg];exact(Zw z4_6):w.heap.size≤gb186));replace HB:=Za (Zi z4_6 hb);have NB184_186:=Za ((z4_19:gb184≠gb186));have NB186_184:=Za ((z4_20:gb186≠gb184));replace BK184:=Za (Zk (g:=gb184) (o:= .cells #[.int .i64 a0_0,.int .i64 a0_1,.int .i64 a0_2,.int .i64 a0_3,.int .i64 a0_4,.int .i64 a0_5] 80 (0,0)) z4_3 hb);have NB185_186:=Za ((z4_22:gb185≠gb186));have NB186_185:=Za ((z4_23:gb186≠gb185));replace BK185:=Za (Zk (g:=gb185) (o:= .cells #[.int .i64 0,.int .i64 0,.int .i64 0,.int .i64 0,.int .i64 0,.int .i64 0] 80 (0,0)) z4_7 hb);clear hb hbox hg;have hnb24:=NB186_184.out;have hnc24:=NB184_186.out;have hnb25:=NB186_185.out;have hnc25:=NB185_186.out;have hcz26_0:w23.cell? ⟨gb186,0,none⟩=some (.int .i64 0):=(Zb BK186.out 0).trans rfl;have hcz26_1:w23.cell? ⟨gb186,1,none⟩=some (.int .i64 0):=(Zb BK186.out 1).trans rfl;have hcz26_2:w23.cell? ⟨gb186,2,none⟩=some (.int .i64 0):=(Zb BK186.out 2).trans rfl;have hcz26_3:w23.cell? ⟨gb186,3,none⟩=some (.int .i64 0):=(Zb BK186.out 3).trans rfl;have hcz26_4:w23.cell? ⟨gb186,4,none⟩=some (.int .i64 0):=(Zb BK186.out 4).trans rfl;have hcz26_5:w23.cell? ⟨gb186,5,none⟩=some (.int .i64 0):=(Zb BK186.out 5).trans rfl;have hfz26_0:=Zc BK186.out 0;have hfz26_1:=Zc BK186.out 1;have hfz26_2:=Zc BK186.out 2;have hfz26_3:=Zc BK186.out 3;have hfz26_4:=Zc BK186.out 4;have hfz26_5:=Zc BK186.out 5)|((with_reducible refine Yh (t:=80) (p:=3) rfl ?_);refine Yg (t:=80) (p:=3) (v:= ?vo_w27) (w1:=((((((w23.setCell ⟨gb186,0,none⟩ (.int .i64 a0_0)).setCell ⟨gb186,1,none⟩ (.int .i64 0)).setCell ⟨gb186,2,none⟩ (.int .i64 0)).setCell ⟨gb186,3,none⟩ (.int .i64 0)).setCell ⟨gb186,4,none⟩ (.int .i64 0)).setCell ⟨gb186,5,none⟩ (.int .i64 0))) ?hg ?ho ?hn ?hr ?_;(case ho=>rfl);(case hg=>rfl);(case hn=>rfl);(case hr=>exact z4_8);intro w27 hw;have n0_:Aside0 (w27.heap[gb184]? =some (.cells #[.int .i64 a0_0,.int .i64 a0_1,.int .i64 a0_2,.int .i64 a0_3,.int .i64 a0_4,.int .i64 a0_5] 80 (0,0))):=⟨z4_5⟩;have n1_:Aside0 (w27.heap[gb185]? =some (.cells #[.int .i64 0,.int .i64 0,.int .i64 0,.int .i64 0,.int .i64 0,.int .i64 0] 80 (0,0))):=⟨z4_4⟩;have n2_:Aside0 (w27.heap[gb186]? =some (.cells #[.int .i64 a0_0,.int .i64 0,.int .i64 0,.int .i64 0,.int .i64 0,.int .i64 0] 80 (0,0))):=⟨z4_1⟩;have n3_:Aside0 (Below w.heap.size w w27):=⟨z4_2⟩;clear hw;clear BK184;clear BK185;clear BK186;clear HB;have BK184:=n0_;have BK185:=n1_;have BK186:=n2_;have HB:=n3_;clear n0_ n1_ n2_ n3_;have hcz28_0:w27.cell? ⟨gb184,0,none⟩=some (.int .i64 a0_0):=(Zb BK184.out 0).trans rfl;have hcz28_1:w27.cell? ⟨gb184,1,none⟩=some (.int .i64 a0_1):=(Zb BK184.out 1).trans rfl;have hcz28_2:w27.cell? ⟨gb184,2,none⟩=some (.int .i64 a0_2):=(Zb BK184.out 2).trans rfl;have hcz28_3:w27.cell? ⟨gb184,3,none⟩=some (.int .i64 a0_3):=(Zb BK184.out 3).trans rfl;have hcz28_4:w27.cell? ⟨gb184,4,none⟩=some (.int .i64 a0_4):=(Zb BK184.out 4).trans rfl;have hcz28_5:w27.cell? ⟨gb184,5,none⟩=some (.int .i64 a0_5):=(Zb BK184.out 5).trans rfl;have hfz28_0:=Zc BK184.out 0;have hfz28_1:=Zc BK184.out 1;have hfz28_2:=Zc BK184.out 2;have hfz28_3:=Zc BK184.out 3;have hfz28_4:=Zc BK184.out 4;have hfz28_5:=Zc BK184.out 5;have hcz29_0:w27.cell? ⟨gb186,0,none⟩=some (.int .i64 a0_0):=(Zb BK186.out 0).trans rfl;have hcz29_1:w27.cell? ⟨gb186,1,none⟩=some (.int .i64 0):=(Zb BK186.out 1).trans rfl;have hcz29_2:w27.cell? ⟨gb186,2,none⟩=some (.int .i64 0):=(Zb BK186.out 2).trans rfl;have hcz29_3:w27.cell? ⟨gb186,3,none⟩=some (.int .i64 0):=(Zb BK186.out 3).trans rfl;have hcz29_4:w27.cell? ⟨gb186,4,none⟩=some (.int .i64 0):=(Zb BK186.out 4).trans rfl;have hcz29_5:w27.cell? ⟨gb186,5,none⟩=some (.int .i64 0):=(Zb BK186.out 5).trans rfl;have hfz29_0:=Zc BK186.out 0;have hfz29_1:=Zc BK186.out 1;have hfz29_2:=Zc BK186.out 2;have hfz29_3:=Zc BK186.out 3;have hfz29_4:=Zc BK186.out 4;have hfz29_5:=Zc BK186.out 5;have hcz30_0:w27.cell? ⟨gb185,0,none⟩=some (.int .i64 0):=(Zb BK185.out 0).trans rfl;have hcz30_1:w27.cell? ⟨gb185,1,none⟩=some (.int .i64 0):=(Zb BK185.out 1).trans rfl;have hcz30_2:w27.cell? ⟨gb185,2,none⟩=some (.int .i64 0):=(Zb BK185.out 2).trans rfl;have hcz30_3:w27.cell? ⟨gb185,3,none⟩=some (.int .i64 0):=(Zb BK185.out 3).trans rfl;have hcz30_4:w27.cell? ⟨gb185,4,none⟩=some (.int .i64 0):=(Zb BK185.out 4).trans rfl;have hcz30_5:w27.cell? ⟨gb185,5,none⟩=some (.int .i64 0):=(Zb BK185.out 5).trans rfl;have hfz30_0:=Zc BK185.out 0;have hfz30_1:=Zc BK185.out 1;have hfz30_2:=Zc BK185.out 2;have hfz30_3:=Zc BK185.out 3;have hfz30_4:=Zc BK185.out 4;have hfz30_5:=Zc BK185.out 5)|((with_reducible refine Yh (t:=80) (p:=2) rfl ?_);refine Yg (t:=80) (p:=2) (v:= ?vo_w31) (w1:=((((((((w27.setCell ⟨gb186,1,none⟩ (.int .i64 a0_1)).setCell ⟨gb186,2,none⟩ (.int .i64 a0_2)).setCell ⟨gb185,0,none⟩ (.int .i64 a0_0)).setCell ⟨gb185,1,none⟩ (.int .i64 a0_1)).setCell ⟨gb185,2,none⟩ (.int .i64 a0_2)).setCell ⟨gb185,3,none⟩ (.int .i64 0)).setCell ⟨gb185,4,none⟩ (.int .i64 0)).setCell ⟨gb185,5,none⟩ (.int .i64 0))) ?hg ?ho ?hn ?hr ?_;(case ho=>rfl);(case hg=>rfl);(case hn=>rfl);(case hr=>exact z4_8);intro w31 hw;have n0_:Aside0 (w31.heap[gb184]? =some (.cells #[.int .i64 a0_0,.int .i64 a0_1,.int .i64 a0_2,.int .i64 a0_3,.int .i64 a0_4,.int .i64 a0_5] 80 (0,0))):=⟨(by rw[hw];exact(by(with_reducible repeat(first|refine blk_drewN ?_ _|refine blk_drew ?_|refine blk_alloc ?_ _));refine blk_far ?_ NB184_185.out _;(with_reducible repeat(first|refine blk_drewN ?_ _|refine blk_drew ?_|refine blk_alloc ?_ _));refine blk_far ?_ NB184_185.out _;(with_reducible repeat(first|refine blk_drewN ?_ _|refine blk_drew ?_|refine blk_alloc ?_ _));refine blk_far ?_ NB184_185.out _;(with_reducible repeat(first|refine blk_drewN ?_ _|refine blk_drew ?_|refine blk_alloc ?_ _));refine blk_far ?_ NB184_185.out _;(with_reducible repeat(first|refine blk_drewN ?_ _|refine blk_drew ?_|refine blk_alloc ?_ _));refine blk_far ?_ NB184_185.out _;(with_reducible repeat(first|refine blk_drewN ?_ _|refine blk_drew ?_|refine blk_alloc ?_ _));refine blk_far ?_ NB184_185.out _;(with_reducible repeat(first|refine blk_drewN ?_ _|refine blk_drew ?_|refine blk_alloc ?_ _));refine blk_far ?_ NB184_186.out _;(with_reducible repeat(first|refine blk_drewN ?_ _|refine blk_drew ?_|refine blk_alloc ?_ _));refine blk_far ?_ NB184_186.out _;(with_reducible repeat(first|refine blk_drewN ?_ _|refine blk_drew ?_|refine blk_alloc ?_ _));exact BK184.out))⟩;have n1_:Aside0 (w31.heap[gb185]? =some (.cells #[.int .i64 a0_0,.int .i64 a0_1,.int .i64 a0_2,.int .i64 0,.int .i64 0,.int .i64 0] 80 (0,0))):=⟨(by rw[hw];exact(by(with_reducible repeat(first|refine blk_drewN ?_ _|refine blk_drew ?_|refine blk_alloc ?_ _));refine blk_put (cs:= #[.int .i64 a0_0,.int .i64 a0_1,.int .i64 a0_2,.int .i64 0,.int .i64 0,.int .i64 0]) ?_ 5 _ rfl;(with_reducible repeat(first|refine blk_drewN ?_ _|refine blk_drew ?_|refine blk_alloc ?_ _));refine blk_put (cs:= #[.int .i64 a0_0,.int .i64 a0_1,.int .i64 a0_2,.int .i64 0,.int .i64 0,.int .i64 0]) ?_ 4 _ rfl;(with_reducible repeat(first|refine blk_drewN ?_ _|refine blk_drew ?_|refine blk_alloc ?_ _));refine blk_put (cs:= #[.int .i64 a0_0,.int .i64 a0_1,.int .i64 a0_2,.int .i64 0,.int .i64 0,.int .i64 0]) ?_ 3 _ rfl;(with_reducible repeat(first|refine blk_drewN ?_ _|refine blk_drew ?_|refine blk_alloc ?_ _));refine blk_put (cs:= #[.int .i64 a0_0,.int .i64 a0_1,.int .i64 0,.int .i64 0,.int .i64 0,.int .i64 0]) ?_ 2 _ rfl;(with_reducible repeat(first|refine blk_drewN ?_ _|refine blk_drew ?_|refine blk_alloc ?_ _));refine blk_put (cs:= #[.int .i64 a0_0,.int .i64 0,.int .i64 0,.int .i64 0,.int .i64 0,.int .i64 0]) ?_ 1 _ rfl;(with_reducible repeat(first|refine blk_drewN ?_ _|refine blk_drew ?_|refine blk_alloc ?_ _));refine blk_put (cs:= #[.int .i64 0,.int .i64 0,.int .i64 0,.int .i64 0,.int .i64 0,.int .i64 0]) ?_ 0 _ rfl;(with_reducible repeat(first|refine blk_drewN ?_ _|refine blk_drew ?_|refine blk_alloc ?_ _));refine blk_far ?_ NB185_186.out _;(with_reducible repeat(first|refine blk_drewN ?_ _|refine blk_drew ?_|refine blk_alloc ?_ _));refine blk_far ?_ NB185_186.out _;(with_reducible repeat(first|refine blk_drewN ?_ _|refine blk_drew ?_|refine blk_alloc ?_ _));exact BK185.out))⟩;have n2_:Aside0 (w31.heap[gb186]? =some (.cells #[.int .i64 a0_0,.int .i64 a0_1,.int .i64 a0_2,.int .i64 0,.int .i64 0,.int .i64 0] 80 (0,0))):=⟨(by rw[hw];exact(by(with_reducible repeat(first|refine blk_drewN ?_ _|refine blk_drew ?_|refine blk_alloc ?_ _));refine blk_far ?_ NB186_185.out _;(with_reducible repeat(first|refine blk_drewN ?_ _|refine blk_drew ?_|refine blk_alloc ?_ _));refine blk_far ?_ NB186_185.out _;(with_reducible repeat(first|refine blk_drewN ?_ _|refine blk_drew ?_|refine blk_alloc ?_ _));refine blk_far ?_ NB186_185.out _;(with_reducible repeat(first|refine blk_drewN ?_ _|refine blk_drew ?_|refine blk_alloc ?_ _));refine blk_far ?_ NB186_185.out _;(with_reducible repeat(first|refine blk_drewN ?_ _|refine blk_drew ?_|refine blk_alloc ?_ _));refine blk_far ?_ NB186_185.out _;(with_reducible repeat(first|refine blk_drewN ?_ _|refine blk_drew ?_|refine blk_alloc ?_ _));refine blk_far ?_ NB186_185.out _;(with_reducible repeat(first|refine blk_drewN ?_ _|refine blk_drew ?_|refine blk_alloc ?_ _));refine blk_put (cs:= #[.int .i64 a0_0,.int .i64 a0_1,.int .i64 0,.int .i64 0,.int .i64 0,.int .i64 0]) ?_ 2 _ rfl;(with_reducible repeat(first|refine blk_drewN ?_ _|refine blk_drew ?_|refine blk_alloc ?_ _));refine blk_put (cs:= #[.int .i64 a0_0,.int .i64 0,.int .i64 0,.int .i64 0,.int .i64 0,.int .i64 0]) ?_ 1 _ rfl;(with_reducible repeat(first|refine blk_drewN ?_ _|refine blk_drew ?_|refine blk_alloc ?_ _));exact BK186.out))⟩;have n3_:Aside0 (Below w.heap.size w w31):=⟨z4_2⟩;clear hw;clear BK184;clear BK185;clear BK186;clear HB;have BK184:=n0_;have BK185:=n1_;have BK186:=n2_;have HB:=n3_;clear n0_ n1_ n2_ n3_))
   refine bodyPost_ret (results_cell_row rfl _ _ gb185 80 #[.int .i64 a0_0,.int .i64 a0_1,.int .i64 a0_2,.int .i64 0,.int .i64 0,.int .i64 0] (0,0) _ rfl z4_7 Try.underlying80 rfl z4_18) rfl ?_
   exact⟨by first|rfl|(simp[errW_none,errW_some]<;>rfl)|(simp[*,errW_none,errW_some]<;>rfl)|(simp[*,errW_none,errW_some,i64_w];done),by repeat(first|(with_reducible first|exact HB.out|apply Zh|apply Ze|apply Zd|refine Zf ?_ GE184.out|refine Zf ?_ GE185.out|refine Zf ?_ GE186.out)|exact HB.out)⟩
  ·rw[if_neg c18] at H
   have c18b0:(a0_0==2)=false:=beq_eq_false_iff_ne.mpr c18
   have c18b1:(a0_0 != 2)=true:=bne_iff_ne.mpr c18
   have HC32:=Za H
   clear H
   go_enter Try.func88,Try.ntmps88
   go_upto_if 25 with(first|((with_reducible refine Zp (N:=1) rfl ?_);refine Zr ?hg (N:=1) ?hd (cs:= #[.int .i64 a0_0,.int .i64 a0_1,.int .i64 a0_2,.int .i64 a0_3,.int .i64 a0_4,.int .i64 a0_5]) (t:=80) ?hr ?_;(case hd=>rfl);(case hg=>rfl);(case hr=>exact z4_8);intro gb184 hg w33 hbox hb;have BK184:=Za (hbox);have GW184:=Za ((z4_21:w.heap.size≤gb184));have GE184:=Za ((z4_21:w.heap.size≤gb184));replace HB:=Za (Zi z4_0 hb);clear hb hbox hg)|((with_reducible refine Zp (N:=2) rfl ?_);refine Zr ?hg (N:=2) ?hd (cs:= #[.int .i64 0,.int .i64 0,.int .i64 0,.int .i64 0,.int .i64 0,.int .i64 0]) (t:=80) ?hr ?_;(case hd=>rfl);(case hg=>rfl);(case hr=>exact z4_8);intro gb185 hg w34 hbox hb;have BK185:=Za (hbox);have GW185:=Za ((by rw[hg];exact(Zw z4_9):w.heap.size≤gb185));have GE185:=Za ((by rw[hg];exact(Zw z4_9):w.heap.size≤gb185));replace HB:=Za (Zi z4_9 hb);have NB184_185:=Za ((z4_19:gb184≠gb185));have NB185_184:=Za ((z4_20:gb185≠gb184));replace BK184:=Za (Zk (g:=gb184) (o:= .cells #[.int .i64 a0_0,.int .i64 a0_1,.int .i64 a0_2,.int .i64 a0_3,.int .i64 a0_4,.int .i64 a0_5] 80 (0,0)) z4_3 hb);clear hb hbox hg;have hnb35:=NB184_185.out;have hnc35:=NB185_184.out;have hcz36_0:w34.cell? ⟨gb184,0,none⟩=some (.int .i64 a0_0):=(Zb BK184.out 0).trans rfl;have hcz36_1:w34.cell? ⟨gb184,1,none⟩=some (.int .i64 a0_1):=(Zb BK184.out 1).trans rfl;have hcz36_2:w34.cell? ⟨gb184,2,none⟩=some (.int .i64 a0_2):=(Zb BK184.out 2).trans rfl;have hcz36_3:w34.cell? ⟨gb184,3,none⟩=some (.int .i64 a0_3):=(Zb BK184.out 3).trans rfl;have hcz36_4:w34.cell? ⟨gb184,4,none⟩=some (.int .i64 a0_4):=(Zb BK184.out 4).trans rfl;have hcz36_5:w34.cell? ⟨gb184,5,none⟩=some (.int .i64 a0_5):=(Zb BK184.out 5).trans rfl;have hfz36_0:=Zc BK184.out 0;have hfz36_1:=Zc BK184.out 1;have hfz36_2:=Zc BK184.out 2;have hfz36_3:=Zc BK184.out 3;have hfz36_4:=Zc BK184.out 4;have hfz36_5:=Zc BK184.out 5)|((with_reducible refine Zp (N:=3) rfl ?_);refine Zr ?hg (N:=3) ?hd (cs:= #[.int .i64 0,.int .i64 0,.int .i64 0,.int .i64 0,.int .i64 0,.int .i64 0]) (t:=80) ?hr ?_;(case hd=>rfl);(case hg=>rfl);(case hr=>exact z4_8);intro gb186 hg w37 hbox hb;have BK186:=Za (hbox);have GW186:=Za ((by rw[hg];exact(Zw z4_6):w.heap.size≤gb186));have GE186:=Za ((by rw[hg];exact(Zw z4_6):w.heap.size≤gb186));replace HB:=Za (Zi z4_6 hb);have NB184_186:=Za ((z4_19:gb184≠gb186));have NB186_184:=Za ((z4_20:gb186≠gb184));replace BK184:=Za (Zk (g:=gb184) (o:= .cells #[.int .i64 a0_0,.int .i64 a0_1,.int .i64 a0_2,.int .i64 a0_3,.int .i64 a0_4,.int .i64 a0_5] 80 (0,0)) z4_3 hb);have NB185_186:=Za ((z4_22:gb185≠gb186));have NB186_185:=Za ((z4_23:gb186≠gb185));replace BK185:=Za (Zk (g:=gb185) (o:= .cells #[.int .i64 0,.int .i64 0,.int .i64 0,.int .i64 0,.int .i64 0,.int .i64 0] 80 (0,0)) z4_7 hb);clear hb hbox hg;have hnb38:=NB186_184.out;have hnc38:=NB184_186.out;have hnb39:=NB186_185.out;have hnc39:=NB185_186.out;have hcz40_0:w37.cell? ⟨gb186,0,none⟩=some (.int .i64 0):=(Zb BK186.out 0).trans rfl;have hcz40_1:w37.cell? ⟨gb186,1,none⟩=some (.int .i64 0):=(Zb BK186.out 1).trans rfl;have hcz40_2:w37.cell? ⟨gb186,2,none⟩=some (.int .i64 0):=(Zb BK186.out 2).trans rfl;have hcz40_3:w37.cell? ⟨gb186,3,none⟩=some (.int .i64 0):=(Zb BK186.out 3).trans rfl;have hcz40_4:w37.cell? ⟨gb186,4,none⟩=some (.int .i64 0):=(Zb BK186.out 4).trans rfl;have hcz40_5:w37.cell? ⟨gb186,5,none⟩=some (.int .i64 0):=(Zb BK186.out 5).trans rfl;have hfz40_0:=Zc BK186.out 0;have hfz40_1:=Zc BK186.out 1;have hfz40_2:=Zc BK186.out 2;have hfz40_3:=Zc BK186.out 3;have hfz40_4:=Zc BK186.out 4;have hfz40_5:=Zc BK186.out 5)|((with_reducible refine Yh (t:=80) (p:=3) rfl ?_);refine Yg (t:=80) (p:=3) (v:= ?vo_w41) (w1:=((((((w37.setCell ⟨gb186,0,none⟩ (.int .i64 a0_0)).setCell ⟨gb186,1,none⟩ (.int .i64 0)).setCell ⟨gb186,2,none⟩ (.int .i64 0)).setCell ⟨gb186,3,none⟩ (.int .i64 0)).setCell ⟨gb186,4,none⟩ (.int .i64 0)).setCell ⟨gb186,5,none⟩ (.int .i64 0))) ?hg ?ho ?hn ?hr ?_;(case ho=>rfl);(case hg=>rfl);(case hn=>rfl);(case hr=>exact z4_8);intro w41 hw;have n0_:Aside0 (w41.heap[gb184]? =some (.cells #[.int .i64 a0_0,.int .i64 a0_1,.int .i64 a0_2,.int .i64 a0_3,.int .i64 a0_4,.int .i64 a0_5] 80 (0,0))):=⟨z4_5⟩;have n1_:Aside0 (w41.heap[gb185]? =some (.cells #[.int .i64 0,.int .i64 0,.int .i64 0,.int .i64 0,.int .i64 0,.int .i64 0] 80 (0,0))):=⟨z4_4⟩;have n2_:Aside0 (w41.heap[gb186]? =some (.cells #[.int .i64 a0_0,.int .i64 0,.int .i64 0,.int .i64 0,.int .i64 0,.int .i64 0] 80 (0,0))):=⟨z4_1⟩;have n3_:Aside0 (Below w.heap.size w w41):=⟨z4_2⟩;clear hw;clear BK184;clear BK185;clear BK186;clear HB;have BK184:=n0_;have BK185:=n1_;have BK186:=n2_;have HB:=n3_;clear n0_ n1_ n2_ n3_;have hcz42_0:w41.cell? ⟨gb184,0,none⟩=some (.int .i64 a0_0):=(Zb BK184.out 0).trans rfl;have hcz42_1:w41.cell? ⟨gb184,1,none⟩=some (.int .i64 a0_1):=(Zb BK184.out 1).trans rfl;have hcz42_2:w41.cell? ⟨gb184,2,none⟩=some (.int .i64 a0_2):=(Zb BK184.out 2).trans rfl;have hcz42_3:w41.cell? ⟨gb184,3,none⟩=some (.int .i64 a0_3):=(Zb BK184.out 3).trans rfl;have hcz42_4:w41.cell? ⟨gb184,4,none⟩=some (.int .i64 a0_4):=(Zb BK184.out 4).trans rfl;have hcz42_5:w41.cell? ⟨gb184,5,none⟩=some (.int .i64 a0_5):=(Zb BK184.out 5).trans rfl;have hfz42_0:=Zc BK184.out 0;have hfz42_1:=Zc BK184.out 1;have hfz42_2:=Zc BK184.out 2;have hfz42_3:=Zc BK184.out 3;have hfz42_4:=Zc BK184.out 4;have hfz42_5:=Zc BK184.out 5))
   (try simp only[Act.put,Zm,Zn,Zo])
   go_cut [25] (fun v25 wc=>∃(kq:Nat) (x25_31:Bool),v25= .bool x25_31∧Aside0 (spec_l04Plain.j0 kq a0_0 x25_31 a0_0 a0_1 a0_2 a0_3 a0_4 a0_5 a0_0 0 0 0 0 0=some (r1,r2,r3,r4,r5,r6))∧Aside0 (kq≤k)∧Aside0 (wc.heap[gb184]? =some (.cells #[.int .i64 a0_0,.int .i64 a0_1,.int .i64 a0_2,.int .i64 a0_3,.int .i64 a0_4,.int .i64 a0_5] 80 (0,0)))∧Aside0 (wc.heap[gb185]? =some (.cells #[.int .i64 0,.int .i64 0,.int .i64 0,.int .i64 0,.int .i64 0,.int .i64 0] 80 (0,0)))∧Aside0 (wc.heap[gb186]? =some (.cells #[.int .i64 a0_0,.int .i64 0,.int .i64 0,.int .i64 0,.int .i64 0,.int .i64 0] 80 (0,0)))∧Aside0 (Below w.heap.size w wc))
   case first=>
    have H:=HC32.out
    clear HC32
    by_cases c43:a0_0=3
    ·rw[if_pos c43] at H
     have c43b0:(a0_0==3)=true:=beq_iff_eq.mpr c43
     have c43b1:(a0_0 != 3)=false:=bne_eq_false_iff_eq.mpr c43
     clear c43
     (first|rw[c43b0]|(simp only[i64_w,i32_w];rw[c43b0])|skip)
     have H':=Za H
     clear H
     go_wp2
     go_meet
     case rel=>exact⟨_,((a0_0==3)),z4_16,H',⟨by first|omega|exact Nat.le_refl _⟩,⟨by(with_reducible repeat(first|refine blk_drewN ?_ _|refine blk_drew ?_|refine blk_alloc ?_ _));exact BK184.out⟩,⟨by(with_reducible repeat(first|refine blk_drewN ?_ _|refine blk_drew ?_|refine blk_alloc ?_ _));exact BK185.out⟩,⟨by(with_reducible repeat(first|refine blk_drewN ?_ _|refine blk_drew ?_|refine blk_alloc ?_ _));exact BK186.out⟩,⟨by repeat(first|(with_reducible first|exact HB.out|apply Zh|apply Ze|apply Zd|refine Zf ?_ GE184.out|refine Zf ?_ GE185.out|refine Zf ?_ GE186.out)|exact HB.out)⟩⟩
    ·rw[if_neg c43] at H
     have c43b0:(a0_0==3)=false:=beq_eq_false_iff_ne.mpr c43
     have c43b1:(a0_0 != 3)=true:=bne_iff_ne.mpr c43
     (first|rw[c43b0]|(simp only[i64_w,i32_w];rw[c43b0])|skip)
     have H':=Za H
     clear H
     go_wp2
     go_meet
     case rel=>exact⟨_,((a0_0==4)),z4_16,H',⟨by first|omega|exact Nat.le_refl _⟩,⟨by(with_reducible repeat(first|refine blk_drewN ?_ _|refine blk_drew ?_|refine blk_alloc ?_ _));exact BK184.out⟩,⟨by(with_reducible repeat(first|refine blk_drewN ?_ _|refine blk_drew ?_|refine blk_alloc ?_ _));exact BK185.out⟩,⟨by(with_reducible repeat(first|refine blk_drewN ?_ _|refine blk_drew ?_|refine blk_alloc ?_ _));exact BK186.out⟩,⟨by repeat(first|(with_reducible first|exact HB.out|apply Zh|apply Ze|apply Zd|refine Zf ?_ GE184.out|refine Zf ?_ GE185.out|refine Zf ?_ GE186.out)|exact HB.out)⟩⟩
   case rest=>
    clear HC32
    (try clear c2);(try clear c2b0);(try clear c2b1);(try clear c18);(try clear c18b0);(try clear c18b1);(try clear hcz36_0);(try clear hcz36_1);(try clear hcz36_2);(try clear hcz36_3);(try clear hcz36_4);(try clear hcz36_5);(try clear hcz40_0);(try clear hcz40_1);(try clear hcz40_2);(try clear hcz40_3);(try clear hcz40_4);(try clear hcz40_5);(try clear hcz42_0);(try clear hcz42_1);(try clear hcz42_2);(try clear hcz42_3);(try clear hcz42_4);(try clear hcz42_5);(try clear hfz36_0);(try clear hfz36_1);(try clear hfz36_2);(try clear hfz36_3);(try clear hfz36_4);(try clear hfz36_5);(try clear hfz40_0);(try clear hfz40_1);(try clear hfz40_2);(try clear hfz40_3);(try clear hfz40_4);(try clear hfz40_5);(try clear hfz42_0);(try clear hfz42_1);(try clear hfz42_2);(try clear hfz42_3);(try clear hfz42_4);(try clear hfz42_5)
    obtain⟨kq,x25_31,rfl,HA,HJ31,BK184,BK185,BK186,HB⟩:=hcut
    cases kq with
    |zero=>exact absurd HA.out (by simp[spec_l04Plain.j0])
    |succ kj31=>
     have H:=HA.out
     clear HA
     simp only[spec_l04Plain.j0] at H
     by_cases c44:x25_31=true
     ·subst c44
      have H1:(some (a0_0,0,0,a0_3,a0_4,a0_5))=some (r1,r2,r3,r4,r5,r6):=by rw[if_pos rfl] at H;exact H
      clear H
      have H:=H1
      clear H1
      simp only[Option.some.injEq,Prod.mk.injEq] at H
      obtain⟨rfl,rfl,rfl,rfl,rfl,rfl⟩:=H
      have hnb45:=NB184_185.out
      have hnc45:=NB185_184.out
      have hnb46:=NB184_186.out
      have hnc46:=NB186_184.out
      have hcz47_0:wc.cell? ⟨gb184,0,none⟩=some (.int .i64 a0_0):=(Zb BK184.out 0).trans rfl
      have hcz47_1:wc.cell? ⟨gb184,1,none⟩=some (.int .i64 a0_1):=(Zb BK184.out 1).trans rfl
      have hcz47_2:wc.cell? ⟨gb184,2,none⟩=some (.int .i64 a0_2):=(Zb BK184.out 2).trans rfl
      have hcz47_3:wc.cell? ⟨gb184,3,none⟩=some (.int .i64 a0_3):=(Zb BK184.out 3).trans rfl
      have hcz47_4:wc.cell? ⟨gb184,4,none⟩=some (.int .i64 a0_4):=(Zb BK184.out 4).trans rfl
      have hcz47_5:wc.cell? ⟨gb184,5,none⟩=some (.int .i64 a0_5):=(Zb BK184.out 5).trans rfl
      have hfz47_0:=Zc BK184.out 0
      have hfz47_1:=Zc BK184.out 1
      have hfz47_2:=Zc BK184.out 2
      have hfz47_3:=Zc BK184.out 3
      have hfz47_4:=Zc BK184.out 4
      have hfz47_5:=Zc BK184.out 5
      have hnb48:=NB186_185.out
      have hnc48:=NB185_186.out
      have hcz49_0:wc.cell? ⟨gb186,0,none⟩=some (.int .i64 a0_0):=(Zb BK186.out 0).trans rfl
      have hcz49_1:wc.cell? ⟨gb186,1,none⟩=some (.int .i64 0):=(Zb BK186.out 1).trans rfl
      have hcz49_2:wc.cell? ⟨gb186,2,none⟩=some (.int .i64 0):=(Zb BK186.out 2).trans rfl
      have hcz49_3:wc.cell? ⟨gb186,3,none⟩=some (.int .i64 0):=(Zb BK186.out 3).trans rfl
      have hcz49_4:wc.cell? ⟨gb186,4,none⟩=some (.int .i64 0):=(Zb BK186.out 4).trans rfl
      have hcz49_5:wc.cell? ⟨gb186,5,none⟩=some (.int .i64 0):=(Zb BK186.out 5).trans rfl
      have hfz49_0:=Zc BK186.out 0
      have hfz49_1:=Zc BK186.out 1
      have hfz49_2:=Zc BK186.out 2
      have hfz49_3:=Zc BK186.out 3
      have hfz49_4:=Zc BK186.out 4
      have hfz49_5:=Zc BK186.out 5
      have hcz50_0:wc.cell? ⟨gb185,0,none⟩=some (.int .i64 0):=(Zb BK185.out 0).trans rfl
      have hcz50_1:wc.cell? ⟨gb185,1,none⟩=some (.int .i64 0):=(Zb BK185.out 1).trans rfl
      have hcz50_2:wc.cell? ⟨gb185,2,none⟩=some (.int .i64 0):=(Zb BK185.out 2).trans rfl
      have hcz50_3:wc.cell? ⟨gb185,3,none⟩=some (.int .i64 0):=(Zb BK185.out 3).trans rfl
      have hcz50_4:wc.cell? ⟨gb185,4,none⟩=some (.int .i64 0):=(Zb BK185.out 4).trans rfl
      have hcz50_5:wc.cell? ⟨gb185,5,none⟩=some (.int .i64 0):=(Zb BK185.out 5).trans rfl
      have hfz50_0:=Zc BK185.out 0
      have hfz50_1:=Zc BK185.out 1
      have hfz50_2:=Zc BK185.out 2
      have hfz50_3:=Zc BK185.out 3
      have hfz50_4:=Zc BK185.out 4
      have hfz50_5:=Zc BK185.out 5
      go_wp2_with (first|((with_reducible refine Yh (t:=80) (p:=2) rfl ?_);refine Yg (t:=80) (p:=2) (v:= ?vo_w51) (w1:=(((((((((wc.setCell ⟨gb186,3,none⟩ (.int .i64 a0_3)).setCell ⟨gb186,4,none⟩ (.int .i64 a0_4)).setCell ⟨gb186,5,none⟩ (.int .i64 a0_5)).setCell ⟨gb185,0,none⟩ (.int .i64 a0_0)).setCell ⟨gb185,1,none⟩ (.int .i64 0)).setCell ⟨gb185,2,none⟩ (.int .i64 0)).setCell ⟨gb185,3,none⟩ (.int .i64 a0_3)).setCell ⟨gb185,4,none⟩ (.int .i64 a0_4)).setCell ⟨gb185,5,none⟩ (.int .i64 a0_5))) ?hg ?ho ?hn ?hr ?_;(case ho=>rfl);(case hg=>rfl);(case hn=>rfl);(case hr=>exact z4_8);intro w51 hw;have n0_:Aside0 (w51.heap[gb184]? =some (.cells #[.int .i64 a0_0,.int .i64 a0_1,.int .i64 a0_2,.int .i64 a0_3,.int .i64 a0_4,.int .i64 a0_5] 80 (0,0))):=⟨(by rw[hw];exact(by(with_reducible repeat(first|refine blk_drewN ?_ _|refine blk_drew ?_|refine blk_alloc ?_ _));refine blk_far ?_ NB184_185.out _;(with_reducible repeat(first|refine blk_drewN ?_ _|refine blk_drew ?_|refine blk_alloc ?_ _));refine blk_far ?_ NB184_185.out _;(with_reducible repeat(first|refine blk_drewN ?_ _|refine blk_drew ?_|refine blk_alloc ?_ _));refine blk_far ?_ NB184_185.out _;(with_reducible repeat(first|refine blk_drewN ?_ _|refine blk_drew ?_|refine blk_alloc ?_ _));refine blk_far ?_ NB184_185.out _;(with_reducible repeat(first|refine blk_drewN ?_ _|refine blk_drew ?_|refine blk_alloc ?_ _));refine blk_far ?_ NB184_185.out _;(with_reducible repeat(first|refine blk_drewN ?_ _|refine blk_drew ?_|refine blk_alloc ?_ _));refine blk_far ?_ NB184_185.out _;(with_reducible repeat(first|refine blk_drewN ?_ _|refine blk_drew ?_|refine blk_alloc ?_ _));refine blk_far ?_ NB184_186.out _;(with_reducible repeat(first|refine blk_drewN ?_ _|refine blk_drew ?_|refine blk_alloc ?_ _));refine blk_far ?_ NB184_186.out _;(with_reducible repeat(first|refine blk_drewN ?_ _|refine blk_drew ?_|refine blk_alloc ?_ _));refine blk_far ?_ NB184_186.out _;(with_reducible repeat(first|refine blk_drewN ?_ _|refine blk_drew ?_|refine blk_alloc ?_ _));exact BK184.out))⟩;have n1_:Aside0 (w51.heap[gb185]? =some (.cells #[.int .i64 a0_0,.int .i64 0,.int .i64 0,.int .i64 a0_3,.int .i64 a0_4,.int .i64 a0_5] 80 (0,0))):=⟨(by rw[hw];exact(by(with_reducible repeat(first|refine blk_drewN ?_ _|refine blk_drew ?_|refine blk_alloc ?_ _));refine blk_put (cs:= #[.int .i64 a0_0,.int .i64 0,.int .i64 0,.int .i64 a0_3,.int .i64 a0_4,.int .i64 0]) ?_ 5 _ rfl;(with_reducible repeat(first|refine blk_drewN ?_ _|refine blk_drew ?_|refine blk_alloc ?_ _));refine blk_put (cs:= #[.int .i64 a0_0,.int .i64 0,.int .i64 0,.int .i64 a0_3,.int .i64 0,.int .i64 0]) ?_ 4 _ rfl;(with_reducible repeat(first|refine blk_drewN ?_ _|refine blk_drew ?_|refine blk_alloc ?_ _));refine blk_put (cs:= #[.int .i64 a0_0,.int .i64 0,.int .i64 0,.int .i64 0,.int .i64 0,.int .i64 0]) ?_ 3 _ rfl;(with_reducible repeat(first|refine blk_drewN ?_ _|refine blk_drew ?_|refine blk_alloc ?_ _));refine blk_put (cs:= #[.int .i64 a0_0,.int .i64 0,.int .i64 0,.int .i64 0,.int .i64 0,.int .i64 0]) ?_ 2 _ rfl;(with_reducible repeat(first|refine blk_drewN ?_ _|refine blk_drew ?_|refine blk_alloc ?_ _));refine blk_put (cs:= #[.int .i64 a0_0,.int .i64 0,.int .i64 0,.int .i64 0,.int .i64 0,.int .i64 0]) ?_ 1 _ rfl;(with_reducible repeat(first|refine blk_drewN ?_ _|refine blk_drew ?_|refine blk_alloc ?_ _));refine blk_put (cs:= #[.int .i64 0,.int .i64 0,.int .i64 0,.int .i64 0,.int .i64 0,.int .i64 0]) ?_ 0 _ rfl;(with_reducible repeat(first|refine blk_drewN ?_ _|refine blk_drew ?_|refine blk_alloc ?_ _));refine blk_far ?_ NB185_186.out _;(with_reducible repeat(first|refine blk_drewN ?_ _|refine blk_drew ?_|refine blk_alloc ?_ _));refine blk_far ?_ NB185_186.out _;(with_reducible repeat(first|refine blk_drewN ?_ _|refine blk_drew ?_|refine blk_alloc ?_ _));refine blk_far ?_ NB185_186.out _;(with_reducible repeat(first|refine blk_drewN ?_ _|refine blk_drew ?_|refine blk_alloc ?_ _));exact BK185.out))⟩;have n2_:Aside0 (w51.heap[gb186]? =some (.cells #[.int .i64 a0_0,.int .i64 0,.int .i64 0,.int .i64 a0_3,.int .i64 a0_4,.int .i64 a0_5] 80 (0,0))):=⟨(by rw[hw];exact(by(with_reducible repeat(first|refine blk_drewN ?_ _|refine blk_drew ?_|refine blk_alloc ?_ _));refine blk_far ?_ NB186_185.out _;(with_reducible repeat(first|refine blk_drewN ?_ _|refine blk_drew ?_|refine blk_alloc ?_ _));refine blk_far ?_ NB186_185.out _;(with_reducible repeat(first|refine blk_drewN ?_ _|refine blk_drew ?_|refine blk_alloc ?_ _));refine blk_far ?_ NB186_185.out _;(with_reducible repeat(first|refine blk_drewN ?_ _|refine blk_drew ?_|refine blk_alloc ?_ _));refine blk_far ?_ NB186_185.out _;(with_reducible repeat(first|refine blk_drewN ?_ _|refine blk_drew ?_|refine blk_alloc ?_ _));refine blk_far ?_ NB186_185.out _;(with_reducible repeat(first|refine blk_drewN ?_ _|refine blk_drew ?_|refine blk_alloc ?_ _));refine blk_far ?_ NB186_185.out _;(with_reducible repeat(first|refine blk_drewN ?_ _|refine blk_drew ?_|refine blk_alloc ?_ _));refine blk_put (cs:= #[.int .i64 a0_0,.int .i64 0,.int .i64 0,.int .i64 a0_3,.int .i64 a0_4,.int .i64 0]) ?_ 5 _ rfl;(with_reducible repeat(first|refine blk_drewN ?_ _|refine blk_drew ?_|refine blk_alloc ?_ _));refine blk_put (cs:= #[.int .i64 a0_0,.int .i64 0,.int .i64 0,.int .i64 a0_3,.int .i64 0,.int .i64 0]) ?_ 4 _ rfl;(with_reducible repeat(first|refine blk_drewN ?_ _|refine blk_drew ?_|refine blk_alloc ?_ _));refine blk_put (cs:= #[.int .i64 a0_0,.int .i64 0,.int .i64 0,.int .i64 0,.int .i64 0,.int .i64 0]) ?_ 3 _ rfl;(with_reducible repeat(first|refine blk_drewN ?_ _|refine blk_drew ?_|refine blk_alloc ?_ _));exact BK186.out))⟩;have n3_:Aside0 (Below w.heap.size w w51):=⟨z4_2⟩;clear hw;clear BK184;clear BK185;clear BK186;clear HB;have BK184:=n0_;have BK185:=n1_;have BK186:=n2_;have HB:=n3_;clear n0_ n1_ n2_ n3_))
      refine bodyPost_ret (results_cell_row rfl _ _ gb185 80 #[.int .i64 a0_0,.int .i64 0,.int .i64 0,.int .i64 a0_3,.int .i64 a0_4,.int .i64 a0_5] (0,0) _ rfl z4_7 Try.underlying80 rfl z4_18) rfl ?_
      exact⟨by first|rfl|(simp[errW_none,errW_some]<;>rfl)|(simp[*,errW_none,errW_some]<;>rfl)|(simp[*,errW_none,errW_some,i64_w];done),by repeat(first|(with_reducible first|exact HB.out|apply Zh|apply Ze|apply Zd|refine Zf ?_ GE184.out|refine Zf ?_ GE185.out|refine Zf ?_ GE186.out)|exact HB.out)⟩
     ·replace c44:=Bool.eq_false_iff.mpr c44
      subst c44
      have H1:(if a0_0=5 then (some (a0_0,0,a0_2,0,0,0)) else (some (a0_0,0,0,0,0,0)))=some (r1,r2,r3,r4,r5,r6):=by rw[if_neg (show ¬(false=true) by decide)] at H;exact H
      clear H
      have H:=H1
      clear H1
      by_cases c52:a0_0=5
      ·rw[if_pos c52] at H
       have c52b0:(a0_0==5)=true:=beq_iff_eq.mpr c52
       have c52b1:(a0_0 != 5)=false:=bne_eq_false_iff_eq.mpr c52
       clear c52
       simp only[Option.some.injEq,Prod.mk.injEq] at H
       obtain⟨rfl,rfl,rfl,rfl,rfl,rfl⟩:=H
       have hnb53:=NB184_185.out
       have hnc53:=NB185_184.out
       have hnb54:=NB184_186.out
       have hnc54:=NB186_184.out
       have hcz55_0:wc.cell? ⟨gb184,0,none⟩=some (.int .i64 a0_0):=(Zb BK184.out 0).trans rfl
       have hcz55_1:wc.cell? ⟨gb184,1,none⟩=some (.int .i64 a0_1):=(Zb BK184.out 1).trans rfl
       have hcz55_2:wc.cell? ⟨gb184,2,none⟩=some (.int .i64 a0_2):=(Zb BK184.out 2).trans rfl
       have hcz55_3:wc.cell? ⟨gb184,3,none⟩=some (.int .i64 a0_3):=(Zb BK184.out 3).trans rfl
       have hcz55_4:wc.cell? ⟨gb184,4,none⟩=some (.int .i64 a0_4):=(Zb BK184.out 4).trans rfl
       have hcz55_5:wc.cell? ⟨gb184,5,none⟩=some (.int .i64 a0_5):=(Zb BK184.out 5).trans rfl
       have hfz55_0:=Zc BK184.out 0
       have hfz55_1:=Zc BK184.out 1
       have hfz55_2:=Zc BK184.out 2
       have hfz55_3:=Zc BK184.out 3
       have hfz55_4:=Zc BK184.out 4
       have hfz55_5:=Zc BK184.out 5
       have hnb56:=NB186_185.out
       have hnc56:=NB185_186.out
       have hcz57_0:wc.cell? ⟨gb186,0,none⟩=some (.int .i64 a0_0):=(Zb BK186.out 0).trans rfl
       have hcz57_1:wc.cell? ⟨gb186,1,none⟩=some (.int .i64 0):=(Zb BK186.out 1).trans rfl
       have hcz57_2:wc.cell? ⟨gb186,2,none⟩=some (.int .i64 0):=(Zb BK186.out 2).trans rfl
       have hcz57_3:wc.cell? ⟨gb186,3,none⟩=some (.int .i64 0):=(Zb BK186.out 3).trans rfl
       have hcz57_4:wc.cell? ⟨gb186,4,none⟩=some (.int .i64 0):=(Zb BK186.out 4).trans rfl
       have hcz57_5:wc.cell? ⟨gb186,5,none⟩=some (.int .i64 0):=(Zb BK186.out 5).trans rfl
       have hfz57_0:=Zc BK186.out 0
       have hfz57_1:=Zc BK186.out 1
       have hfz57_2:=Zc BK186.out 2
       have hfz57_3:=Zc BK186.out 3
       have hfz57_4:=Zc BK186.out 4
       have hfz57_5:=Zc BK186.out 5
       have hcz58_0:wc.cell? ⟨gb185,0,none⟩=some (.int .i64 0):=(Zb BK185.out 0).trans rfl
       have hcz58_1:wc.cell? ⟨gb185,1,none⟩=some (.int .i64 0):=(Zb BK185.out 1).trans rfl
       have hcz58_2:wc.cell? ⟨gb185,2,none⟩=some (.int .i64 0):=(Zb BK185.out 2).trans rfl
       have hcz58_3:wc.cell? ⟨gb185,3,none⟩=some (.int .i64 0):=(Zb BK185.out 3).trans rfl
       have hcz58_4:wc.cell? ⟨gb185,4,none⟩=some (.int .i64 0):=(Zb BK185.out 4).trans rfl
       have hcz58_5:wc.cell? ⟨gb185,5,none⟩=some (.int .i64 0):=(Zb BK185.out 5).trans rfl
       have hfz58_0:=Zc BK185.out 0
       have hfz58_1:=Zc BK185.out 1
       have hfz58_2:=Zc BK185.out 2
       have hfz58_3:=Zc BK185.out 3
       have hfz58_4:=Zc BK185.out 4
       have hfz58_5:=Zc BK185.out 5
       go_wp2_with (first|((with_reducible refine Yh (t:=80) (p:=2) rfl ?_);refine Yg (t:=80) (p:=2) (v:= ?vo_w59) (w1:=(((((((wc.setCell ⟨gb186,2,none⟩ (.int .i64 a0_2)).setCell ⟨gb185,0,none⟩ (.int .i64 a0_0)).setCell ⟨gb185,1,none⟩ (.int .i64 0)).setCell ⟨gb185,2,none⟩ (.int .i64 a0_2)).setCell ⟨gb185,3,none⟩ (.int .i64 0)).setCell ⟨gb185,4,none⟩ (.int .i64 0)).setCell ⟨gb185,5,none⟩ (.int .i64 0))) ?hg ?ho ?hn ?hr ?_;(case ho=>rfl);(case hg=>rfl);(case hn=>rfl);(case hr=>exact z4_8);intro w59 hw;have n0_:Aside0 (w59.heap[gb184]? =some (.cells #[.int .i64 a0_0,.int .i64 a0_1,.int .i64 a0_2,.int .i64 a0_3,.int .i64 a0_4,.int .i64 a0_5] 80 (0,0))):=⟨(by rw[hw];exact(by(with_reducible repeat(first|refine blk_drewN ?_ _|refine blk_drew ?_|refine blk_alloc ?_ _));refine blk_far ?_ NB184_185.out _;(with_reducible repeat(first|refine blk_drewN ?_ _|refine blk_drew ?_|refine blk_alloc ?_ _));refine blk_far ?_ NB184_185.out _;(with_reducible repeat(first|refine blk_drewN ?_ _|refine blk_drew ?_|refine blk_alloc ?_ _));refine blk_far ?_ NB184_185.out _;(with_reducible repeat(first|refine blk_drewN ?_ _|refine blk_drew ?_|refine blk_alloc ?_ _));refine blk_far ?_ NB184_185.out _;(with_reducible repeat(first|refine blk_drewN ?_ _|refine blk_drew ?_|refine blk_alloc ?_ _));refine blk_far ?_ NB184_185.out _;(with_reducible repeat(first|refine blk_drewN ?_ _|refine blk_drew ?_|refine blk_alloc ?_ _));refine blk_far ?_ NB184_185.out _;(with_reducible repeat(first|refine blk_drewN ?_ _|refine blk_drew ?_|refine blk_alloc ?_ _));refine blk_far ?_ NB184_186.out _;(with_reducible repeat(first|refine blk_drewN ?_ _|refine blk_drew ?_|refine blk_alloc ?_ _));exact BK184.out))⟩;have n1_:Aside0 (w59.heap[gb185]? =some (.cells #[.int .i64 a0_0,.int .i64 0,.int .i64 a0_2,.int .i64 0,.int .i64 0,.int .i64 0] 80 (0,0))):=⟨(by rw[hw];exact(by(with_reducible repeat(first|refine blk_drewN ?_ _|refine blk_drew ?_|refine blk_alloc ?_ _));refine blk_put (cs:= #[.int .i64 a0_0,.int .i64 0,.int .i64 a0_2,.int .i64 0,.int .i64 0,.int .i64 0]) ?_ 5 _ rfl;(with_reducible repeat(first|refine blk_drewN ?_ _|refine blk_drew ?_|refine blk_alloc ?_ _));refine blk_put (cs:= #[.int .i64 a0_0,.int .i64 0,.int .i64 a0_2,.int .i64 0,.int .i64 0,.int .i64 0]) ?_ 4 _ rfl;(with_reducible repeat(first|refine blk_drewN ?_ _|refine blk_drew ?_|refine blk_alloc ?_ _));refine blk_put (cs:= #[.int .i64 a0_0,.int .i64 0,.int .i64 a0_2,.int .i64 0,.int .i64 0,.int .i64 0]) ?_ 3 _ rfl;(with_reducible repeat(first|refine blk_drewN ?_ _|refine blk_drew ?_|refine blk_alloc ?_ _));refine blk_put (cs:= #[.int .i64 a0_0,.int .i64 0,.int .i64 0,.int .i64 0,.int .i64 0,.int .i64 0]) ?_ 2 _ rfl;(with_reducible repeat(first|refine blk_drewN ?_ _|refine blk_drew ?_|refine blk_alloc ?_ _));refine blk_put (cs:= #[.int .i64 a0_0,.int .i64 0,.int .i64 0,.int .i64 0,.int .i64 0,.int .i64 0]) ?_ 1 _ rfl;(with_reducible repeat(first|refine blk_drewN ?_ _|refine blk_drew ?_|refine blk_alloc ?_ _));refine blk_put (cs:= #[.int .i64 0,.int .i64 0,.int .i64 0,.int .i64 0,.int .i64 0,.int .i64 0]) ?_ 0 _ rfl;(with_reducible repeat(first|refine blk_drewN ?_ _|refine blk_drew ?_|refine blk_alloc ?_ _));refine blk_far ?_ NB185_186.out _;(with_reducible repeat(first|refine blk_drewN ?_ _|refine blk_drew ?_|refine blk_alloc ?_ _));exact BK185.out))⟩;have n2_:Aside0 (w59.heap[gb186]? =some (.cells #[.int .i64 a0_0,.int .i64 0,.int .i64 a0_2,.int .i64 0,.int .i64 0,.int .i64 0] 80 (0,0))):=⟨(by rw[hw];exact(by(with_reducible repeat(first|refine blk_drewN ?_ _|refine blk_drew ?_|refine blk_alloc ?_ _));refine blk_far ?_ NB186_185.out _;(with_reducible repeat(first|refine blk_drewN ?_ _|refine blk_drew ?_|refine blk_alloc ?_ _));refine blk_far ?_ NB186_185.out _;(with_reducible repeat(first|refine blk_drewN ?_ _|refine blk_drew ?_|refine blk_alloc ?_ _));refine blk_far ?_ NB186_185.out _;(with_reducible repeat(first|refine blk_drewN ?_ _|refine blk_drew ?_|refine blk_alloc ?_ _));refine blk_far ?_ NB186_185.out _;(with_reducible repeat(first|refine blk_drewN ?_ _|refine blk_drew ?_|refine blk_alloc ?_ _));refine blk_far ?_ NB186_185.out _;(with_reducible repeat(first|refine blk_drewN ?_ _|refine blk_drew ?_|refine blk_alloc ?_ _));refine blk_far ?_ NB186_185.out _;(with_reducible repeat(first|refine blk_drewN ?_ _|refine blk_drew ?_|refine blk_alloc ?_ _));refine blk_put (cs:= #[.int .i64 a0_0,.int .i64 0,.int .i64 0,.int .i64 0,.int .i64 0,.int .i64 0]) ?_ 2 _ rfl;(with_reducible repeat(first|refine blk_drewN ?_ _|refine blk_drew ?_|refine blk_alloc ?_ _));exact BK186.out))⟩;have n3_:Aside0 (Below w.heap.size w w59):=⟨z4_2⟩;clear hw;clear BK184;clear BK185;clear BK186;clear HB;have BK184:=n0_;have BK185:=n1_;have BK186:=n2_;have HB:=n3_;clear n0_ n1_ n2_ n3_))
       refine bodyPost_ret (results_cell_row rfl _ _ gb185 80 #[.int .i64 a0_0,.int .i64 0,.int .i64 a0_2,.int .i64 0,.int .i64 0,.int .i64 0] (0,0) _ rfl z4_7 Try.underlying80 rfl z4_18) rfl ?_
       exact⟨by first|rfl|(simp[errW_none,errW_some]<;>rfl)|(simp[*,errW_none,errW_some]<;>rfl)|(simp[*,errW_none,errW_some,i64_w];done),by repeat(first|(with_reducible first|exact HB.out|apply Zh|apply Ze|apply Zd|refine Zf ?_ GE184.out|refine Zf ?_ GE185.out|refine Zf ?_ GE186.out)|exact HB.out)⟩
      ·rw[if_neg c52] at H
       have c52b0:(a0_0==5)=false:=beq_eq_false_iff_ne.mpr c52
       have c52b1:(a0_0 != 5)=true:=bne_iff_ne.mpr c52
       simp only[Option.some.injEq,Prod.mk.injEq] at H
       obtain⟨rfl,rfl,rfl,rfl,rfl,rfl⟩:=H
       have hnb60:=NB186_184.out
       have hnc60:=NB184_186.out
       have hnb61:=NB186_185.out
       have hnc61:=NB185_186.out
       have hcz62_0:wc.cell? ⟨gb186,0,none⟩=some (.int .i64 a0_0):=(Zb BK186.out 0).trans rfl
       have hcz62_1:wc.cell? ⟨gb186,1,none⟩=some (.int .i64 0):=(Zb BK186.out 1).trans rfl
       have hcz62_2:wc.cell? ⟨gb186,2,none⟩=some (.int .i64 0):=(Zb BK186.out 2).trans rfl
       have hcz62_3:wc.cell? ⟨gb186,3,none⟩=some (.int .i64 0):=(Zb BK186.out 3).trans rfl
       have hcz62_4:wc.cell? ⟨gb186,4,none⟩=some (.int .i64 0):=(Zb BK186.out 4).trans rfl
       have hcz62_5:wc.cell? ⟨gb186,5,none⟩=some (.int .i64 0):=(Zb BK186.out 5).trans rfl
       have hfz62_0:=Zc BK186.out 0
       have hfz62_1:=Zc BK186.out 1
       have hfz62_2:=Zc BK186.out 2
       have hfz62_3:=Zc BK186.out 3
       have hfz62_4:=Zc BK186.out 4
       have hfz62_5:=Zc BK186.out 5
       have hnb63:=NB185_184.out
       have hnc63:=NB184_185.out
       have hcz64_0:wc.cell? ⟨gb185,0,none⟩=some (.int .i64 0):=(Zb BK185.out 0).trans rfl
       have hcz64_1:wc.cell? ⟨gb185,1,none⟩=some (.int .i64 0):=(Zb BK185.out 1).trans rfl
       have hcz64_2:wc.cell? ⟨gb185,2,none⟩=some (.int .i64 0):=(Zb BK185.out 2).trans rfl
       have hcz64_3:wc.cell? ⟨gb185,3,none⟩=some (.int .i64 0):=(Zb BK185.out 3).trans rfl
       have hcz64_4:wc.cell? ⟨gb185,4,none⟩=some (.int .i64 0):=(Zb BK185.out 4).trans rfl
       have hcz64_5:wc.cell? ⟨gb185,5,none⟩=some (.int .i64 0):=(Zb BK185.out 5).trans rfl
       have hfz64_0:=Zc BK185.out 0
       have hfz64_1:=Zc BK185.out 1
       have hfz64_2:=Zc BK185.out 2
       have hfz64_3:=Zc BK185.out 3
       have hfz64_4:=Zc BK185.out 4
       have hfz64_5:=Zc BK185.out 5
       go_wp2_with (first|((with_reducible refine Yh (t:=80) (p:=2) rfl ?_);refine Yg (t:=80) (p:=2) (v:= ?vo_w65) (w1:=((((((wc.setCell ⟨gb185,0,none⟩ (.int .i64 a0_0)).setCell ⟨gb185,1,none⟩ (.int .i64 0)).setCell ⟨gb185,2,none⟩ (.int .i64 0)).setCell ⟨gb185,3,none⟩ (.int .i64 0)).setCell ⟨gb185,4,none⟩ (.int .i64 0)).setCell ⟨gb185,5,none⟩ (.int .i64 0))) ?hg ?ho ?hn ?hr ?_;(case ho=>rfl);(case hg=>rfl);(case hn=>rfl);(case hr=>exact z4_8);intro w65 hw;have n0_:Aside0 (w65.heap[gb184]? =some (.cells #[.int .i64 a0_0,.int .i64 a0_1,.int .i64 a0_2,.int .i64 a0_3,.int .i64 a0_4,.int .i64 a0_5] 80 (0,0))):=⟨z4_12⟩;have n1_:Aside0 (w65.heap[gb185]? =some (.cells #[.int .i64 a0_0,.int .i64 0,.int .i64 0,.int .i64 0,.int .i64 0,.int .i64 0] 80 (0,0))):=⟨(by rw[hw];exact(by(with_reducible repeat(first|refine blk_drewN ?_ _|refine blk_drew ?_|refine blk_alloc ?_ _));refine blk_put (cs:= #[.int .i64 a0_0,.int .i64 0,.int .i64 0,.int .i64 0,.int .i64 0,.int .i64 0]) ?_ 5 _ rfl;(with_reducible repeat(first|refine blk_drewN ?_ _|refine blk_drew ?_|refine blk_alloc ?_ _));refine blk_put (cs:= #[.int .i64 a0_0,.int .i64 0,.int .i64 0,.int .i64 0,.int .i64 0,.int .i64 0]) ?_ 4 _ rfl;(with_reducible repeat(first|refine blk_drewN ?_ _|refine blk_drew ?_|refine blk_alloc ?_ _));refine blk_put (cs:= #[.int .i64 a0_0,.int .i64 0,.int .i64 0,.int .i64 0,.int .i64 0,.int .i64 0]) ?_ 3 _ rfl;(with_reducible repeat(first|refine blk_drewN ?_ _|refine blk_drew ?_|refine blk_alloc ?_ _));refine blk_put (cs:= #[.int .i64 a0_0,.int .i64 0,.int .i64 0,.int .i64 0,.int .i64 0,.int .i64 0]) ?_ 2 _ rfl;(with_reducible repeat(first|refine blk_drewN ?_ _|refine blk_drew ?_|refine blk_alloc ?_ _));refine blk_put (cs:= #[.int .i64 a0_0,.int .i64 0,.int .i64 0,.int .i64 0,.int .i64 0,.int .i64 0]) ?_ 1 _ rfl;(with_reducible repeat(first|refine blk_drewN ?_ _|refine blk_drew ?_|refine blk_alloc ?_ _));refine blk_put (cs:= #[.int .i64 0,.int .i64 0,.int .i64 0,.int .i64 0,.int .i64 0,.int .i64 0]) ?_ 0 _ rfl;(with_reducible repeat(first|refine blk_drewN ?_ _|refine blk_drew ?_|refine blk_alloc ?_ _));exact BK185.out))⟩;have n2_:Aside0 (w65.heap[gb186]? =some (.cells #[.int .i64 a0_0,.int .i64 0,.int .i64 0,.int .i64 0,.int .i64 0,.int .i64 0] 80 (0,0))):=⟨z4_11⟩;have n3_:Aside0 (Below w.heap.size w w65):=⟨z4_2⟩;clear hw;clear BK184;clear BK185;clear BK186;clear HB;have BK184:=n0_;have BK185:=n1_;have BK186:=n2_;have HB:=n3_;clear n0_ n1_ n2_ n3_))
       refine bodyPost_ret (results_cell_row rfl _ _ gb185 80 #[.int .i64 a0_0,.int .i64 0,.int .i64 0,.int .i64 0,.int .i64 0,.int .i64 0] (0,0) _ rfl z4_7 Try.underlying80 rfl z4_18) rfl ?_
       exact⟨by first|rfl|(simp[errW_none,errW_some]<;>rfl)|(simp[*,errW_none,errW_some]<;>rfl)|(simp[*,errW_none,errW_some,i64_w];done),by repeat(first|(with_reducible first|exact HB.out|apply Zh|apply Ze|apply Zd|refine Zf ?_ GE184.out|refine Zf ?_ GE185.out|refine Zf ?_ GE186.out)|exact HB.out)⟩
end Go.Proofs.Ytlolppaddphpoaa.G
