/- Functions of the program as plain Lean functions, and that each call comes to its function's answer; written by a program of the session. No condition. -/
import Derived.Test.YtccjlmpeogifkaaGreatGx0
import Derived.Test.YtccjlmpeogifkaaGreatGx16
namespace Go.Proofs.YtccjlmpeogifkaaGreat.G
open Go.RowKit Go.Proofs.YtccjlmpeogifkaaGreatW.PrintWords Go.Proofs.YtccjlmpeogifkaaGreatW.PrintLast Go.Proofs.YtccjlmpeogifkaaGreatW.PrintMore
attribute [local go_sem] max2_int min2_int max_two min_two max_three min_three max_four min_four   -- for this text's walks alone
set_option linter.unusedVariables false
set_option linter.unusedSimpArgs false
theorem z17_0 {P:Prop} (h:P:=by repeat(first|(with_reducible first|exact HB.out|apply Zh|apply Ze|apply Zd)|exact HB.out)):P:=h
theorem z17_1 {P:Prop} (h:P:=by repeat(first|(with_reducible first|exact HB.out|apply Zh|apply Ze|apply Zd|refine Zg ?_ GE566.out)|exact HB.out)):P:=h
theorem z17_2 {P:Prop} (h:P:=by(with_reducible repeat(first|refine blk_drewN ?_ _|refine blk_drew ?_|refine blk_alloc ?_ _));exact BK566.out):P:=h
theorem z17_3 {P:Prop} (h:P:=by first|rfl|(simp;done)|(simp[*];done)):P:=h
theorem z17_4 {P:Prop} (h:P:=by repeat(first|exact Yc _ _|apply Ze|apply Zd)):P:=h
theorem z17_5 {P:Prop} (h:P:=by first|(with_reducible assumption)|assumption):P:=h
theorem z17_6 {P:Prop} (h:P:=by first|(go_simp;done)|(go_simp;rfl)):P:=h
theorem z17_7 {P:Prop} (h:P:=by(try simp only[Ys,Yt,List.map_nil]);first|done|rfl|(simp only[List.length_drop,List.length_take];rfl)):P:=h
theorem z17_8 {P:Prop} (h:P:=by kernel_rfl):P:=h
def laws_eqTaskS.l0:Nat→List (S55)→List (S55)→Int→Option (Bool)
 |0,_,_,_=>none
 |k+1,x0,x1,x5=>if x5<(x0.length:Int) then (if 0≤x5 then (if x5<(x1.length:Int) then ((laws_eqTask.f k ((rd_T55 x0 x5).f0) ((rd_T55 x0 x5).f1.f0) ((rd_T55 x0 x5).f1.f1) ((rd_T55 x0 x5).f1.f2) ((rd_T55 x1 x5).f0) ((rd_T55 x1 x5).f1.f0) ((rd_T55 x1 x5).f1.f1) ((rd_T55 x1 x5).f1.f2)).bind fun t565=>(if t565=true then (laws_eqTaskS.l0 k x0 x1 (wrap64 (x5+1))) else (some false))) else (none)) else (none)) else (some true)
def laws_eqTaskS.f (k:Nat) (l0:List (S55)) (l1:List (S55)):Option (Bool):=if (l0.length:Int)=(l1.length:Int) then (laws_eqTaskS.l0 k l0 l1 0) else (some false)
def laws_eqTaskS.T6:Bool×List (List Nat×List Nat):=(true,[([],[]),([],[]),([0,1],[0,1]),([2],[2]),([],[]),([],[]),([4,5],[4,5]),([6],[6]),([3,7],[3,7]),([8],[8])])
def laws_eqTaskS.B6:List Nat:=[0,0,3,7,0,0,48,112,255,511]
theorem laws_eqTaskS.tab6:rtab .any (opsOf Tryz.f34 6)=laws_eqTaskS.T6:=by kernel_rfl
theorem laws_eqTaskS.bits6:waitsOk laws_eqTaskS.T6.2 laws_eqTaskS.B6=true:=by kernel_rfl
set_option maxHeartbeats 8000000 in
set_option maxRecDepth 100000 in
theorem laws_eqTaskS.calls (k:Nat) (A0:Option Addr) (c0:Nat) (l0:List (S55)) (A1:Option Addr) (c1:Nat) (l1:List (S55)) (r:Bool) (w:World) (hr0:Kd.C k55 w A0 l0.length l0) (hc0:l0.length≤c0) (hr1:Kd.C k55 w A1 l1.length l1) (hc1:l1.length≤c1) (h:laws_eqTaskS.f k l0 l1=some r):
  Calls Tryz.prog 34 #[.slice A0 l0.length c0,.slice A1 l1.length c1] w fun e w'=>e= .returned (.bool r)∧Below w.heap.size w w':=by
 have hu55:=Tryz.underlying55
 have HR0:=Za hr0
 have HC0:=Za hc0
 clear hr0 hc0
 have HR1:=Za hr1
 have HC1:=Za hc1
 clear hr1 hc1
 have HB:=Za (Yc w.heap.size w)
 have H:(if (l0.length:Int)=(l1.length:Int) then (laws_eqTaskS.l0 k l0 l1 0) else (some false))=some r:=h
 clear h
 by_cases c3:(l0.length:Int)=(l1.length:Int)
 ·rw[if_pos c3] at H
  have c3b0:((l0.length:Int)==(l1.length:Int))=true:=beq_iff_eq.mpr c3
  have c3b1:((l0.length:Int) != (l1.length:Int))=false:=bne_eq_false_iff_eq.mpr c3
  have c3b2:(l0.length==l1.length)=true:=by first|simpa using c3|(simp at c3 ⊢;omega)
  clear c3
  have H':=Za H
  clear H
  go_enter Tryz.func34,Tryz.ntmps34
  go_wp2
  go_loopg [5] k (fun kq v5 w'=>∃(x5_1:Int),v5= .int .i64 x5_1∧Aside0 (laws_eqTaskS.l0 kq l0 l1 x5_1=some r)∧Aside0 (kq≤k)∧Aside0 (Below w.heap.size w w'))
  case atStart=>exact⟨(0),z17_3,H',⟨Nat.le_refl _⟩,⟨by repeat(first|(with_reducible first|exact HB.out|apply Zh|apply Ze|apply Zd)|exact HB.out)⟩⟩
  case round=>
   clear H'
   (try clear c1);(try clear c3);(try clear c3b0);(try clear c3b1);(try clear c3b2)
   obtain⟨x5_1,rfl,HA,HK1,HB⟩:=hrel
   cases gk with
   |zero=>exact absurd HA.out (by simp[laws_eqTaskS.l0])
   |succ k1=>
    have H:=HA.out
    clear HA
    simp only[laws_eqTaskS.l0] at H
    by_cases c4:x5_1<(l0.length:Int)
    ·rw[if_pos c4] at H
     have c4b0:decide (x5_1<(l0.length:Int))=true:=Zq c4
     clear c4
     by_cases c5:0≤x5_1
     ·rw[if_pos c5] at H
      have c5b0:decide (0≤x5_1)=true:=Zq c5
      clear c5
      by_cases c6:x5_1<(l1.length:Int)
      ·rw[if_pos c6] at H
       have c6b0:decide (x5_1<(l1.length:Int))=true:=Zq c6
       clear c6
       replace H:=Zl H
       obtain⟨t565,A70,H⟩:=H
       replace H:(if t565=true then (laws_eqTaskS.l0 k1 l0 l1 (wrap64 (x5_1+1))) else (some false))=some r:=H
       have A7:=Za A70
       clear A70
       by_cases c8:t565=true
       ·subst c8
        rw[if_pos rfl] at H
        have H':=Za H
        clear H
        try go_wp2
        have n0_:=Za (Zd HB.out)
        clear HB
        have HB:=n0_
        clear n0_
        have p563:0≤(x5_1:Int):=Zj z17_5
        have q563:x5_1<(l0.length:Int):=Zj z17_5
        obtain⟨ad563,A563_0,c563_0,e563,hx563_0,hx563_1,hx563_2,hx563_3,hl563_0,hi563_0⟩:=at_T55 HR0.out x5_1 p563 q563
        have hw563_3:=hx563_3
        have hw563_2:=hx563_2
        have hw563_1:=hx563_1
        have hw563_0:=hx563_0
        cases e563
        replace hx563_0:=(HB.out.cell (Zf w _ hx563_0)).trans hx563_0
        replace hx563_1:=(HB.out.cell (Zf w _ hx563_1)).trans hx563_1
        replace hx563_2:=(HB.out.cell (Zf w _ hx563_2)).trans hx563_2
        replace hx563_3:=(HB.out.cell (Zf w _ hx563_3)).trans hx563_3
        have HR563_0:=Za hi563_0
        have HC563_0:=Za hl563_0
        clear hi563_0 hl563_0
        replace p563:=eq_true p563
        replace q563:=eq_true q563
        have p564:0≤(x5_1:Int):=Zj z17_5
        have q564:x5_1<(l1.length:Int):=Zj z17_5
        obtain⟨ad564,A564_0,c564_0,e564,hx564_0,hx564_1,hx564_2,hx564_3,hl564_0,hi564_0⟩:=at_T55 HR1.out x5_1 p564 q564
        have hw564_3:=hx564_3
        have hw564_2:=hx564_2
        have hw564_1:=hx564_1
        have hw564_0:=hx564_0
        cases e564
        replace hx564_0:=(HB.out.cell (Zf w _ hx564_0)).trans hx564_0
        replace hx564_1:=(HB.out.cell (Zf w _ hx564_1)).trans hx564_1
        replace hx564_2:=(HB.out.cell (Zf w _ hx564_2)).trans hx564_2
        replace hx564_3:=(HB.out.cell (Zf w _ hx564_3)).trans hx564_3
        have HR564_0:=Za hi564_0
        have HC564_0:=Za hl564_0
        clear hi564_0 hl564_0
        replace p564:=eq_true p564
        replace q564:=eq_true q564
        refine start_ (n:=10) (S:=fun w'=>w'.cell? (ad563.add ((x5_1).toNat*4))=some (.slice A563_0 ((rd_T55 l0 x5_1).f0).length c563_0)∧w'.cell? ⟨(ad563.add ((x5_1).toNat*4)).block,(ad563.add ((x5_1).toNat*4)).off+1,none⟩=some (.int .i64 ((rd_T55 l0 x5_1).f1.f0))∧w'.cell? ⟨(ad563.add ((x5_1).toNat*4)).block,(ad563.add ((x5_1).toNat*4)).off+2,none⟩=some (.int .i64 ((rd_T55 l0 x5_1).f1.f1))∧w'.cell? ⟨(ad563.add ((x5_1).toNat*4)).block,(ad563.add ((x5_1).toNat*4)).off+3,none⟩=some (.int .i64 ((rd_T55 l0 x5_1).f1.f2))∧w'.cell? (ad564.add ((x5_1).toNat*4))=some (.slice A564_0 ((rd_T55 l1 x5_1).f0).length c564_0)∧w'.cell? ⟨(ad564.add ((x5_1).toNat*4)).block,(ad564.add ((x5_1).toNat*4)).off+1,none⟩=some (.int .i64 ((rd_T55 l1 x5_1).f1.f0))∧w'.cell? ⟨(ad564.add ((x5_1).toNat*4)).block,(ad564.add ((x5_1).toNat*4)).off+2,none⟩=some (.int .i64 ((rd_T55 l1 x5_1).f1.f1))∧w'.cell? ⟨(ad564.add ((x5_1).toNat*4)).block,(ad564.add ((x5_1).toNat*4)).off+3,none⟩=some (.int .i64 ((rd_T55 l1 x5_1).f1.f2))) (ds:=[]) #[false,false,false,false,false,false,false,false,false,false] z17_8 rfl rfl ⟨((HB.out.cell (Zf w _ hw563_0)).trans hw563_0),((HB.out.cell (Zf w _ hw563_1)).trans hw563_1),((HB.out.cell (Zf w _ hw563_2)).trans hw563_2),((HB.out.cell (Zf w _ hw563_3)).trans hw563_3),((HB.out.cell (Zf w _ hw564_0)).trans hw564_0),((HB.out.cell (Zf w _ hw564_1)).trans hw564_1),((HB.out.cell (Zf w _ hw564_2)).trans hw564_2),((HB.out.cell (Zf w _ hw564_3)).trans hw564_3)⟩ (fun hHeld=> ?_);refine with_tabW laws_eqTaskS.tab6 laws_eqTaskS.bits6 (fun HT_ HW_=> ?_)
        generalize wr.drew=w9 at HB HR563_0 HR564_0 hx563_0 hx563_1 hx563_2 hx563_3 hx564_0 hx564_1 hx564_2 hx564_3 hHeld ⊢
        refine pure_ (i:=0) (N:=some 17) (v:= ?_) (a':= ?_) #[true,false,false,false,false,false,false,false,false,false] rfl rfl (any_of HT_.out z17_8) (fun _ _ _ h=>h) (Or.inl ⟨by rfl,?_⟩) ?_ ?_
        rotate_left
        ·intro w'
         go_simp
         with_reducible rfl
        rotate_left
        ·simp only[Act.put,Zu,Zv,Zw,i64_w,i32_w]
         rfl
        refine pure_ (i:=1) (N:=some 18) (v:= ?_) (a':= ?_) #[true,true,false,false,false,false,false,false,false,false] rfl rfl (any_of HT_.out z17_8) (fun _ _ _ h=>h) (Or.inl ⟨by rfl,?_⟩) ?_ ?_
        rotate_left
        ·intro w'
         go_simp
         with_reducible rfl
        rotate_left
        ·simp only[Act.put,Zu,Zv,Zw,i64_w,i32_w]
         rfl
        refine pure_ (i:=2) (N:=some 19) (v:= ?_) (a':= ?_) #[true,true,true,false,false,false,false,false,false,false] rfl rfl (any_of HT_.out z17_8) (fun _ _ _ h=>h) (Or.inl ⟨by rfl,?_⟩) ?_ ?_
        rotate_left
        ·intro w'
         go_simp
         with_reducible rfl
        rotate_left
        ·simp only[Act.put,Zu,Zv,Zw,i64_w,i32_w]
         rfl
        refine pure_ (i:=4) (N:=some 21) (v:= ?_) (a':= ?_) #[true,true,true,false,true,false,false,false,false,false] rfl rfl (any_of HT_.out z17_8) (fun _ _ _ h=>h) (Or.inl ⟨by rfl,?_⟩) ?_ ?_
        rotate_left
        ·intro w'
         go_simp
         with_reducible rfl
        rotate_left
        ·simp only[Act.put,Zu,Zv,Zw,i64_w,i32_w]
         rfl
        refine pure_ (i:=5) (N:=some 22) (v:= ?_) (a':= ?_) #[true,true,true,false,true,true,false,false,false,false] rfl rfl (any_of HT_.out z17_8) (fun _ _ _ h=>h) (Or.inl ⟨by rfl,?_⟩) ?_ ?_
        rotate_left
        ·intro w'
         go_simp
         with_reducible rfl
        rotate_left
        ·simp only[Act.put,Zu,Zv,Zw,i64_w,i32_w]
         rfl
        refine pure_ (i:=6) (N:=some 23) (v:= ?_) (a':= ?_) #[true,true,true,false,true,true,true,false,false,false] rfl rfl (any_of HT_.out z17_8) (fun _ _ _ h=>h) (Or.inl ⟨by rfl,?_⟩) ?_ ?_
        rotate_left
        ·intro w'
         go_simp
         with_reducible rfl
        rotate_left
        ·simp only[Act.put,Zu,Zv,Zw,i64_w,i32_w]
         rfl
        refine take_ (i:=3) (N:=some 20) (v:= ?_) (a':= ?_) #[true,true,true,true,true,true,true,false,false,false] rfl rfl (take_ofW HT_.out HW_.out z17_8) (fun _ _ _ h=>h) (Or.inl ⟨by rfl,?_⟩) hHeld ?_ ?_
        rotate_left
        ·rintro w' ⟨s0,s1,s2,s3,s4,s5,s6,s7⟩
         go_simp
         with_reducible rfl
        rotate_left
        ·simp only[Act.put,Zu,Zv,Zw,i64_w,i32_w]
         rfl
        refine take_ (i:=7) (N:=some 24) (v:= ?_) (a':= ?_) #[true,true,true,true,true,true,true,true,false,false] rfl rfl (take_ofW HT_.out HW_.out z17_8) (fun _ _ _ h=>h) (Or.inl ⟨by rfl,?_⟩) hHeld ?_ ?_
        rotate_left
        ·rintro w' ⟨s0,s1,s2,s3,s4,s5,s6,s7⟩
         go_simp
         with_reducible rfl
        rotate_left
        ·simp only[Act.put,Zu,Zv,Zw,i64_w,i32_w]
         rfl
        refine one_ (i:=8) (N:=some 25) #[true,true,true,true,true,true,true,true,true,false] rfl rfl (one_of HT_.out z17_8) (by decide) (fun K hK=> ?_)
        refine goes_ Tryz.func70 z17_8 rfl #[.agg #[.slice A563_0 ((rd_T55 l0 x5_1).f0).length c563_0,.int .i64 ((rd_T55 l0 x5_1).f1.f0),.int .i64 ((rd_T55 l0 x5_1).f1.f1),.int .i64 ((rd_T55 l0 x5_1).f1.f2)],.agg #[.slice A564_0 ((rd_T55 l1 x5_1).f0).length c564_0,.int .i64 ((rd_T55 l1 x5_1).f1.f0),.int .i64 ((rd_T55 l1 x5_1).f1.f1),.int .i64 ((rd_T55 l1 x5_1).f1.f2)]] (by rfl) rfl rfl z17_7 ?_
        with_reducible refine(laws_eqTask.calls k1 _ _ ((rd_T55 l0 x5_1).f0) ((rd_T55 l0 x5_1).f1.f0) ((rd_T55 l0 x5_1).f1.f1) ((rd_T55 l0 x5_1).f1.f2) _ _ ((rd_T55 l1 x5_1).f0) ((rd_T55 l1 x5_1).f1.f0) ((rd_T55 l1 x5_1).f1.f1) ((rd_T55 l1 x5_1).f1.f2) true _ ?side1 ?side2 ?side3 ?side4 A7.out).mono ?_
        (case side1=>repeat(first|exact(Yj HR563_0.out HB.out)|(with_reducible refine Yh ?_ _)|(with_reducible refine Ye ?_ _)|(with_reducible refine Yi ?_)))
        (case side2=>exact HC563_0.out)
        (case side3=>repeat(first|exact(Yj HR564_0.out HB.out)|(with_reducible refine Yh ?_ _)|(with_reducible refine Ye ?_ _)|(with_reducible refine Yi ?_)))
        (case side4=>exact HC564_0.out)
        rintro e w10 ⟨rfl,hb⟩
        refine⟨_,rfl,?_⟩
        have n0_:=Za (Zi z17_0 hb)
        clear HB
        have HB:=n0_
        clear n0_
        (try clear hb)
        (try clear hb2)
        (try clear hk)
        (try clear hi)
        refine hK.out _ _ ⟨((HB.out.cell (Zf w _ hw563_0)).trans hw563_0),((HB.out.cell (Zf w _ hw563_1)).trans hw563_1),((HB.out.cell (Zf w _ hw563_2)).trans hw563_2),((HB.out.cell (Zf w _ hw563_3)).trans hw563_3),((HB.out.cell (Zf w _ hw564_0)).trans hw564_0),((HB.out.cell (Zf w _ hw564_1)).trans hw564_1),((HB.out.cell (Zf w _ hw564_2)).trans hw564_2),((HB.out.cell (Zf w _ hw564_3)).trans hw564_3)⟩ (fun hHeld=> ?_)
        clear hK K
        refine norm_ (a':= ?_) ?_ ?_
        rotate_left
        ·show Act.put _ (some 25) _=_
         simp only[Act.put,Zu,Zv,Zw,i64_w,i32_w]
         rfl
        refine pure_ (i:=9) (N:=some 26) (v:= ?_) (a':= ?_) #[true,true,true,true,true,true,true,true,true,true] rfl rfl (any_of HT_.out z17_8) (fun _ _ _ h=>h) (Or.inl ⟨by rfl,?_⟩) ?_ ?_
        rotate_left
        ·intro w'
         go_simp
         with_reducible rfl
        rotate_left
        ·simp only[Act.put,Zu,Zv,Zw,i64_w,i32_w]
         rfl
        refine done_ (done_of HT_.out z17_8) ?_
        try go_wp2
        go_roundg k1
        case measure=>have:=HK1.out;omega
        case rel=>exact⟨(wrap64 (x5_1+1)),z17_3,H',⟨by have:=HK1.out;omega⟩,⟨by repeat(first|(with_reducible first|exact HB.out|apply Zh|apply Ze|apply Zd)|exact HB.out)⟩⟩
       ·replace c8:=Bool.eq_false_iff.mpr c8
        subst c8
        rw[if_neg (show ¬(false=true) by decide)] at H
        obtain rfl:=Zm H
        try go_wp2
        have n0_:=Za (Zd HB.out)
        clear HB
        have HB:=n0_
        clear n0_
        have p563:0≤(x5_1:Int):=Zj z17_5
        have q563:x5_1<(l0.length:Int):=Zj z17_5
        obtain⟨ad563,A563_0,c563_0,e563,hx563_0,hx563_1,hx563_2,hx563_3,hl563_0,hi563_0⟩:=at_T55 HR0.out x5_1 p563 q563
        have hw563_3:=hx563_3
        have hw563_2:=hx563_2
        have hw563_1:=hx563_1
        have hw563_0:=hx563_0
        cases e563
        replace hx563_0:=(HB.out.cell (Zf w _ hx563_0)).trans hx563_0
        replace hx563_1:=(HB.out.cell (Zf w _ hx563_1)).trans hx563_1
        replace hx563_2:=(HB.out.cell (Zf w _ hx563_2)).trans hx563_2
        replace hx563_3:=(HB.out.cell (Zf w _ hx563_3)).trans hx563_3
        have HR563_0:=Za hi563_0
        have HC563_0:=Za hl563_0
        clear hi563_0 hl563_0
        replace p563:=eq_true p563
        replace q563:=eq_true q563
        have p564:0≤(x5_1:Int):=Zj z17_5
        have q564:x5_1<(l1.length:Int):=Zj z17_5
        obtain⟨ad564,A564_0,c564_0,e564,hx564_0,hx564_1,hx564_2,hx564_3,hl564_0,hi564_0⟩:=at_T55 HR1.out x5_1 p564 q564
        have hw564_3:=hx564_3
        have hw564_2:=hx564_2
        have hw564_1:=hx564_1
        have hw564_0:=hx564_0
        cases e564
        replace hx564_0:=(HB.out.cell (Zf w _ hx564_0)).trans hx564_0
        replace hx564_1:=(HB.out.cell (Zf w _ hx564_1)).trans hx564_1
        replace hx564_2:=(HB.out.cell (Zf w _ hx564_2)).trans hx564_2
        replace hx564_3:=(HB.out.cell (Zf w _ hx564_3)).trans hx564_3
        have HR564_0:=Za hi564_0
        have HC564_0:=Za hl564_0
        clear hi564_0 hl564_0
        replace p564:=eq_true p564
        replace q564:=eq_true q564
        refine start_ (n:=10) (S:=fun w'=>w'.cell? (ad563.add ((x5_1).toNat*4))=some (.slice A563_0 ((rd_T55 l0 x5_1).f0).length c563_0)∧w'.cell? ⟨(ad563.add ((x5_1).toNat*4)).block,(ad563.add ((x5_1).toNat*4)).off+1,none⟩=some (.int .i64 ((rd_T55 l0 x5_1).f1.f0))∧w'.cell? ⟨(ad563.add ((x5_1).toNat*4)).block,(ad563.add ((x5_1).toNat*4)).off+2,none⟩=some (.int .i64 ((rd_T55 l0 x5_1).f1.f1))∧w'.cell? ⟨(ad563.add ((x5_1).toNat*4)).block,(ad563.add ((x5_1).toNat*4)).off+3,none⟩=some (.int .i64 ((rd_T55 l0 x5_1).f1.f2))∧w'.cell? (ad564.add ((x5_1).toNat*4))=some (.slice A564_0 ((rd_T55 l1 x5_1).f0).length c564_0)∧w'.cell? ⟨(ad564.add ((x5_1).toNat*4)).block,(ad564.add ((x5_1).toNat*4)).off+1,none⟩=some (.int .i64 ((rd_T55 l1 x5_1).f1.f0))∧w'.cell? ⟨(ad564.add ((x5_1).toNat*4)).block,(ad564.add ((x5_1).toNat*4)).off+2,none⟩=some (.int .i64 ((rd_T55 l1 x5_1).f1.f1))∧w'.cell? ⟨(ad564.add ((x5_1).toNat*4)).block,(ad564.add ((x5_1).toNat*4)).off+3,none⟩=some (.int .i64 ((rd_T55 l1 x5_1).f1.f2))) (ds:=[]) #[false,false,false,false,false,false,false,false,false,false] z17_8 rfl rfl ⟨((HB.out.cell (Zf w _ hw563_0)).trans hw563_0),((HB.out.cell (Zf w _ hw563_1)).trans hw563_1),((HB.out.cell (Zf w _ hw563_2)).trans hw563_2),((HB.out.cell (Zf w _ hw563_3)).trans hw563_3),((HB.out.cell (Zf w _ hw564_0)).trans hw564_0),((HB.out.cell (Zf w _ hw564_1)).trans hw564_1),((HB.out.cell (Zf w _ hw564_2)).trans hw564_2),((HB.out.cell (Zf w _ hw564_3)).trans hw564_3)⟩ (fun hHeld=> ?_);refine with_tabW laws_eqTaskS.tab6 laws_eqTaskS.bits6 (fun HT_ HW_=> ?_)
        generalize wr.drew=w11 at HB HR563_0 HR564_0 hx563_0 hx563_1 hx563_2 hx563_3 hx564_0 hx564_1 hx564_2 hx564_3 hHeld ⊢
        refine pure_ (i:=0) (N:=some 17) (v:= ?_) (a':= ?_) #[true,false,false,false,false,false,false,false,false,false] rfl rfl (any_of HT_.out z17_8) (fun _ _ _ h=>h) (Or.inl ⟨by rfl,?_⟩) ?_ ?_
        rotate_left
        ·intro w'
         go_simp
         with_reducible rfl
        rotate_left
        ·simp only[Act.put,Zu,Zv,Zw,i64_w,i32_w]
         rfl
        refine pure_ (i:=1) (N:=some 18) (v:= ?_) (a':= ?_) #[true,true,false,false,false,false,false,false,false,false] rfl rfl (any_of HT_.out z17_8) (fun _ _ _ h=>h) (Or.inl ⟨by rfl,?_⟩) ?_ ?_
        rotate_left
        ·intro w'
         go_simp
         with_reducible rfl
        rotate_left
        ·simp only[Act.put,Zu,Zv,Zw,i64_w,i32_w]
         rfl
        refine pure_ (i:=2) (N:=some 19) (v:= ?_) (a':= ?_) #[true,true,true,false,false,false,false,false,false,false] rfl rfl (any_of HT_.out z17_8) (fun _ _ _ h=>h) (Or.inl ⟨by rfl,?_⟩) ?_ ?_
        rotate_left
        ·intro w'
         go_simp
         with_reducible rfl
        rotate_left
        ·simp only[Act.put,Zu,Zv,Zw,i64_w,i32_w]
         rfl
        refine pure_ (i:=4) (N:=some 21) (v:= ?_) (a':= ?_) #[true,true,true,false,true,false,false,false,false,false] rfl rfl (any_of HT_.out z17_8) (fun _ _ _ h=>h) (Or.inl ⟨by rfl,?_⟩) ?_ ?_
        rotate_left
        ·intro w'
         go_simp
         with_reducible rfl
        rotate_left
        ·simp only[Act.put,Zu,Zv,Zw,i64_w,i32_w]
         rfl
        refine pure_ (i:=5) (N:=some 22) (v:= ?_) (a':= ?_) #[true,true,true,false,true,true,false,false,false,false] rfl rfl (any_of HT_.out z17_8) (fun _ _ _ h=>h) (Or.inl ⟨by rfl,?_⟩) ?_ ?_
        rotate_left
        ·intro w'
         go_simp
         with_reducible rfl
        rotate_left
        ·simp only[Act.put,Zu,Zv,Zw,i64_w,i32_w]
         rfl
        refine pure_ (i:=6) (N:=some 23) (v:= ?_) (a':= ?_) #[true,true,true,false,true,true,true,false,false,false] rfl rfl (any_of HT_.out z17_8) (fun _ _ _ h=>h) (Or.inl ⟨by rfl,?_⟩) ?_ ?_
        rotate_left
        ·intro w'
         go_simp
         with_reducible rfl
        rotate_left
        ·simp only[Act.put,Zu,Zv,Zw,i64_w,i32_w]
         rfl
        refine take_ (i:=3) (N:=some 20) (v:= ?_) (a':= ?_) #[true,true,true,true,true,true,true,false,false,false] rfl rfl (take_ofW HT_.out HW_.out z17_8) (fun _ _ _ h=>h) (Or.inl ⟨by rfl,?_⟩) hHeld ?_ ?_
        rotate_left
        ·rintro w' ⟨s0,s1,s2,s3,s4,s5,s6,s7⟩
         go_simp
         with_reducible rfl
        rotate_left
        ·simp only[Act.put,Zu,Zv,Zw,i64_w,i32_w]
         rfl
        refine take_ (i:=7) (N:=some 24) (v:= ?_) (a':= ?_) #[true,true,true,true,true,true,true,true,false,false] rfl rfl (take_ofW HT_.out HW_.out z17_8) (fun _ _ _ h=>h) (Or.inl ⟨by rfl,?_⟩) hHeld ?_ ?_
        rotate_left
        ·rintro w' ⟨s0,s1,s2,s3,s4,s5,s6,s7⟩
         go_simp
         with_reducible rfl
        rotate_left
        ·simp only[Act.put,Zu,Zv,Zw,i64_w,i32_w]
         rfl
        refine one_ (i:=8) (N:=some 25) #[true,true,true,true,true,true,true,true,true,false] rfl rfl (one_of HT_.out z17_8) (by decide) (fun K hK=> ?_)
        refine goes_ Tryz.func70 z17_8 rfl #[.agg #[.slice A563_0 ((rd_T55 l0 x5_1).f0).length c563_0,.int .i64 ((rd_T55 l0 x5_1).f1.f0),.int .i64 ((rd_T55 l0 x5_1).f1.f1),.int .i64 ((rd_T55 l0 x5_1).f1.f2)],.agg #[.slice A564_0 ((rd_T55 l1 x5_1).f0).length c564_0,.int .i64 ((rd_T55 l1 x5_1).f1.f0),.int .i64 ((rd_T55 l1 x5_1).f1.f1),.int .i64 ((rd_T55 l1 x5_1).f1.f2)]] (by rfl) rfl rfl z17_7 ?_
        with_reducible refine(laws_eqTask.calls k1 _ _ ((rd_T55 l0 x5_1).f0) ((rd_T55 l0 x5_1).f1.f0) ((rd_T55 l0 x5_1).f1.f1) ((rd_T55 l0 x5_1).f1.f2) _ _ ((rd_T55 l1 x5_1).f0) ((rd_T55 l1 x5_1).f1.f0) ((rd_T55 l1 x5_1).f1.f1) ((rd_T55 l1 x5_1).f1.f2) false _ ?side1 ?side2 ?side3 ?side4 A7.out).mono ?_
        (case side1=>repeat(first|exact(Yj HR563_0.out HB.out)|(with_reducible refine Yh ?_ _)|(with_reducible refine Ye ?_ _)|(with_reducible refine Yi ?_)))
        (case side2=>exact HC563_0.out)
        (case side3=>repeat(first|exact(Yj HR564_0.out HB.out)|(with_reducible refine Yh ?_ _)|(with_reducible refine Ye ?_ _)|(with_reducible refine Yi ?_)))
        (case side4=>exact HC564_0.out)
        rintro e w12 ⟨rfl,hb⟩
        refine⟨_,rfl,?_⟩
        have n0_:=Za (Zi z17_0 hb)
        clear HB
        have HB:=n0_
        clear n0_
        (try clear hb)
        (try clear hb2)
        (try clear hk)
        (try clear hi)
        refine hK.out _ _ ⟨((HB.out.cell (Zf w _ hw563_0)).trans hw563_0),((HB.out.cell (Zf w _ hw563_1)).trans hw563_1),((HB.out.cell (Zf w _ hw563_2)).trans hw563_2),((HB.out.cell (Zf w _ hw563_3)).trans hw563_3),((HB.out.cell (Zf w _ hw564_0)).trans hw564_0),((HB.out.cell (Zf w _ hw564_1)).trans hw564_1),((HB.out.cell (Zf w _ hw564_2)).trans hw564_2),((HB.out.cell (Zf w _ hw564_3)).trans hw564_3)⟩ (fun hHeld=> ?_)
        clear hK K
        refine norm_ (a':= ?_) ?_ ?_
        rotate_left
        ·show Act.put _ (some 25) _=_
         simp only[Act.put,Zu,Zv,Zw,i64_w,i32_w]
         rfl
        refine pure_ (i:=9) (N:=some 26) (v:= ?_) (a':= ?_) #[true,true,true,true,true,true,true,true,true,true] rfl rfl (any_of HT_.out z17_8) (fun _ _ _ h=>h) (Or.inl ⟨by rfl,?_⟩) ?_ ?_
        rotate_left
        ·intro w'
         go_simp
         with_reducible rfl
        rotate_left
        ·simp only[Act.put,Zu,Zv,Zw,i64_w,i32_w]
         rfl
        refine done_ (done_of HT_.out z17_8) ?_
        try go_wp2
        go_ret
        exact⟨by first|rfl|(simp[errW_none,errW_some]<;>rfl)|(simp[*,errW_none,errW_some]<;>rfl)|(simp[*,errW_none,errW_some,i64_w];done),by repeat(first|(with_reducible first|exact HB.out|apply Zh|apply Ze|apply Zd)|exact HB.out)⟩
      ·rw[if_neg c6] at H
       exact absurd H (by simp)
     ·rw[if_neg c5] at H
      exact absurd H (by simp)
    ·rw[if_neg c4] at H
     have c4b0:decide (x5_1<(l0.length:Int))=false:=Yg c4
     clear c4
     obtain rfl:=Zm H
     go_wp2
     go_ret
     exact⟨by first|rfl|(simp[errW_none,errW_some]<;>rfl)|(simp[*,errW_none,errW_some]<;>rfl)|(simp[*,errW_none,errW_some,i64_w];done),by repeat(first|(with_reducible first|exact HB.out|apply Zh|apply Ze|apply Zd)|exact HB.out)⟩
 ·rw[if_neg c3] at H
  have c3b0:((l0.length:Int)==(l1.length:Int))=false:=beq_eq_false_iff_ne.mpr c3
  have c3b1:((l0.length:Int) != (l1.length:Int))=true:=bne_iff_ne.mpr c3
  have c3b2:(l0.length==l1.length)=false:=by first|simpa using c3|(simp at c3 ⊢;omega)
  obtain rfl:=Zm H
  go_enter Tryz.func34,Tryz.ntmps34
  go_wp2
  go_ret
  exact⟨by first|rfl|(simp[errW_none,errW_some]<;>rfl)|(simp[*,errW_none,errW_some]<;>rfl)|(simp[*,errW_none,errW_some,i64_w];done),by repeat(first|(with_reducible first|exact HB.out|apply Zh|apply Ze|apply Zd)|exact HB.out)⟩
def laws_eqProgram.f (k:Nat) (l0_0:List (S55)) (l1_0:List (S55)):Option (Bool):=(laws_eqTaskS.f k l0_0 l1_0).bind fun t568=>(if t568=true then (some true) else (some false))
set_option maxHeartbeats 8000000 in
set_option maxRecDepth 100000 in
theorem laws_eqProgram.calls (k:Nat) (A0_0:Option Addr) (c0_0:Nat) (l0_0:List (S55)) (A1_0:Option Addr) (c1_0:Nat) (l1_0:List (S55)) (r:Bool) (w:World) (hr0_0:Kd.C k55 w A0_0 l0_0.length l0_0) (hc0_0:l0_0.length≤c0_0) (hr1_0:Kd.C k55 w A1_0 l1_0.length l1_0) (hc1_0:l1_0.length≤c1_0) (h:laws_eqProgram.f k l0_0 l1_0=some r):
  Calls Tryz.prog 11 #[.agg #[.slice A0_0 l0_0.length c0_0],.agg #[.slice A1_0 l1_0.length c1_0]] w fun e w'=>e= .returned (.bool r)∧Below w.heap.size w w':=by
 have hu30:=Tryz.underlying30
 have HR0_0:=Za hr0_0
 have HC0_0:=Za hc0_0
 clear hr0_0 hc0_0
 have HR1_0:=Za hr1_0
 have HC1_0:=Za hc1_0
 clear hr1_0 hc1_0
 have HB:=Za (Yc w.heap.size w)
 have H:((laws_eqTaskS.f k l0_0 l1_0).bind fun t568=>(if t568=true then (some true) else (some false)))=some r:=h
 clear h
 replace H:=Zl H
 obtain⟨t568,A30,H⟩:=H
 replace H:(if t568=true then (some true) else (some false))=some r:=H
 have A3:=Za A30
 clear A30
 by_cases c4:t568=true
 ·subst c4
  rw[if_pos rfl] at H
  obtain rfl:=Zm H
  go_enter Tryz.func11,Tryz.ntmps11
  go_wp2_with (first|((with_reducible refine Zr (N:=2) rfl ?_);refine Zs ?hg (N:=2) ?hd (cs:= #[.slice A0_0 l0_0.length c0_0]) (t:=30) ?hr ?_;(case hd=>rfl);(case hg=>rfl);(case hr=>exact z17_6);intro gb566 hg w5 hbox hb;have BK566:=Za (hbox);have GW566:=Za ((by rw[hg];exact(Zt z17_0):w.heap.size≤gb566));have GE566:=Za ((by rw[hg];exact(Zt z17_0):w.heap.size≤gb566));replace HB:=Za (Zi z17_0 hb);clear hb hbox hg)|((with_reducible refine Zr (N:=3) rfl ?_);refine Zs ?hg (N:=3) ?hd (cs:= #[.slice A1_0 l1_0.length c1_0]) (t:=30) ?hr ?_;(case hd=>rfl);(case hg=>rfl);(case hr=>exact z17_6);intro gb567 hg w6 hbox hb;have BK567:=Za (hbox);have GW567:=Za ((by rw[hg];exact(Zt z17_1):w.heap.size≤gb567));have GE567:=Za ((by rw[hg];exact(Zt z17_1):w.heap.size≤gb567));replace HB:=Za (Zi z17_1 hb);have NB566_567:=Za ((by rw[hg];exact Nat.ne_of_lt (blk_lt (g:=gb566) (o:= .cells #[.slice A0_0 l0_0.length c0_0] 30 (0,0)) z17_2):gb566≠gb567));have NB567_566:=Za ((by rw[hg];exact Nat.ne_of_gt (blk_lt (g:=gb566) (o:= .cells #[.slice A0_0 l0_0.length c0_0] 30 (0,0)) z17_2):gb567≠gb566));replace BK566:=Za (Zk (g:=gb566) (o:= .cells #[.slice A0_0 l0_0.length c0_0] 30 (0,0)) z17_2 hb);clear hb hbox hg;have hnb7:=NB566_567.out;have hnc7:=NB567_566.out;have hcz8_0:w6.cell? ⟨gb566,0,none⟩=some (.slice A0_0 l0_0.length c0_0):=(Zb BK566.out 0).trans rfl;have hfz8_0:=Zc BK566.out 0;have hcz9_0:w6.cell? ⟨gb567,0,none⟩=some (.slice A1_0 l1_0.length c1_0):=(Zb BK567.out 0).trans rfl;have hfz9_0:=Zc BK567.out 0)|((first|((with_reducible refine gate_callee (f:=34) rfl ?_);refine goesL_ (some 9) rfl rfl Tryz.func34 z17_8 rfl #[.slice A0_0 l0_0.length c0_0,.slice A1_0 l1_0.length c1_0] rfl z17_7 ?_;(with_reducible refine(laws_eqTaskS.calls k _ _ l0_0 _ _ l1_0 true _ ?side1 ?side2 ?side3 ?side4 A3.out).mono ?_))|(go_at_call 34;(with_reducible refine(laws_eqTaskS.calls k _ _ l0_0 _ _ l1_0 true _ ?side1 ?side2 ?side3 ?side4 A3.out).mono ?_)));(case side1=>repeat(first|exact(Yj HR0_0.out HB.out)|(with_reducible refine Yh ?_ _)|(with_reducible refine Ye ?_ _)|(with_reducible refine Yi ?_)));(case side2=>exact HC0_0.out);(case side3=>repeat(first|exact(Yj HR1_0.out HB.out)|(with_reducible refine Yh ?_ _)|(with_reducible refine Ye ?_ _)|(with_reducible refine Yi ?_)));(case side4=>exact HC1_0.out);rintro e w10 ⟨rfl,hb⟩;(first|refine⟨_,rfl,?_⟩|skip);replace BK566:=Za (Zk (g:=gb566) (o:= .cells #[.slice A0_0 l0_0.length c0_0] 30 (0,0)) z17_2 hb);replace BK567:=Za (Zk (g:=gb567) (o:= .cells #[.slice A1_0 l1_0.length c1_0] 30 (0,0)) (by(with_reducible repeat(first|refine blk_drewN ?_ _|refine blk_drew ?_|refine blk_alloc ?_ _));exact BK567.out) hb);replace HB:=Za (Zi (by repeat(first|(with_reducible first|exact HB.out|apply Zh|apply Ze|apply Zd|refine Zg ?_ GE566.out|refine Zg ?_ GE567.out)|exact HB.out)) hb);(try clear hb);(try clear hb2);(try clear hk);(try clear hi)))
  go_ret
  exact⟨by first|rfl|(simp[errW_none,errW_some]<;>rfl)|(simp[*,errW_none,errW_some]<;>rfl)|(simp[*,errW_none,errW_some,i64_w];done),by repeat(first|(with_reducible first|exact HB.out|apply Zh|apply Ze|apply Zd|refine Zg ?_ GE566.out|refine Zg ?_ GE567.out)|exact HB.out)⟩
 ·replace c4:=Bool.eq_false_iff.mpr c4
  subst c4
  rw[if_neg (show ¬(false=true) by decide)] at H
  obtain rfl:=Zm H
  go_enter Tryz.func11,Tryz.ntmps11
  go_wp2_with (first|((with_reducible refine Zr (N:=2) rfl ?_);refine Zs ?hg (N:=2) ?hd (cs:= #[.slice A0_0 l0_0.length c0_0]) (t:=30) ?hr ?_;(case hd=>rfl);(case hg=>rfl);(case hr=>exact z17_6);intro gb566 hg w11 hbox hb;have BK566:=Za (hbox);have GW566:=Za ((by rw[hg];exact(Zt z17_0):w.heap.size≤gb566));have GE566:=Za ((by rw[hg];exact(Zt z17_0):w.heap.size≤gb566));replace HB:=Za (Zi z17_0 hb);clear hb hbox hg)|((with_reducible refine Zr (N:=3) rfl ?_);refine Zs ?hg (N:=3) ?hd (cs:= #[.slice A1_0 l1_0.length c1_0]) (t:=30) ?hr ?_;(case hd=>rfl);(case hg=>rfl);(case hr=>exact z17_6);intro gb567 hg w12 hbox hb;have BK567:=Za (hbox);have GW567:=Za ((by rw[hg];exact(Zt z17_1):w.heap.size≤gb567));have GE567:=Za ((by rw[hg];exact(Zt z17_1):w.heap.size≤gb567));replace HB:=Za (Zi z17_1 hb);have NB566_567:=Za ((by rw[hg];exact Nat.ne_of_lt (blk_lt (g:=gb566) (o:= .cells #[.slice A0_0 l0_0.length c0_0] 30 (0,0)) z17_2):gb566≠gb567));have NB567_566:=Za ((by rw[hg];exact Nat.ne_of_gt (blk_lt (g:=gb566) (o:= .cells #[.slice A0_0 l0_0.length c0_0] 30 (0,0)) z17_2):gb567≠gb566));replace BK566:=Za (Zk (g:=gb566) (o:= .cells #[.slice A0_0 l0_0.length c0_0] 30 (0,0)) z17_2 hb);clear hb hbox hg;have hnb13:=NB566_567.out;have hnc13:=NB567_566.out;have hcz14_0:w12.cell? ⟨gb566,0,none⟩=some (.slice A0_0 l0_0.length c0_0):=(Zb BK566.out 0).trans rfl;have hfz14_0:=Zc BK566.out 0;have hcz15_0:w12.cell? ⟨gb567,0,none⟩=some (.slice A1_0 l1_0.length c1_0):=(Zb BK567.out 0).trans rfl;have hfz15_0:=Zc BK567.out 0)|((first|((with_reducible refine gate_callee (f:=34) rfl ?_);refine goesL_ (some 9) rfl rfl Tryz.func34 z17_8 rfl #[.slice A0_0 l0_0.length c0_0,.slice A1_0 l1_0.length c1_0] rfl z17_7 ?_;(with_reducible refine(laws_eqTaskS.calls k _ _ l0_0 _ _ l1_0 false _ ?side1 ?side2 ?side3 ?side4 A3.out).mono ?_))|(go_at_call 34;(with_reducible refine(laws_eqTaskS.calls k _ _ l0_0 _ _ l1_0 false _ ?side1 ?side2 ?side3 ?side4 A3.out).mono ?_)));(case side1=>repeat(first|exact(Yj HR0_0.out HB.out)|(with_reducible refine Yh ?_ _)|(with_reducible refine Ye ?_ _)|(with_reducible refine Yi ?_)));(case side2=>exact HC0_0.out);(case side3=>repeat(first|exact(Yj HR1_0.out HB.out)|(with_reducible refine Yh ?_ _)|(with_reducible refine Ye ?_ _)|(with_reducible refine Yi ?_)));(case side4=>exact HC1_0.out);rintro e w16 ⟨rfl,hb⟩;(first|refine⟨_,rfl,?_⟩|skip);replace BK566:=Za (Zk (g:=gb566) (o:= .cells #[.slice A0_0 l0_0.length c0_0] 30 (0,0)) z17_2 hb);replace BK567:=Za (Zk (g:=gb567) (o:= .cells #[.slice A1_0 l1_0.length c1_0] 30 (0,0)) (by(with_reducible repeat(first|refine blk_drewN ?_ _|refine blk_drew ?_|refine blk_alloc ?_ _));exact BK567.out) hb);replace HB:=Za (Zi (by repeat(first|(with_reducible first|exact HB.out|apply Zh|apply Ze|apply Zd|refine Zg ?_ GE566.out|refine Zg ?_ GE567.out)|exact HB.out)) hb);(try clear hb);(try clear hb2);(try clear hk);(try clear hi)))
  go_ret
  exact⟨by first|rfl|(simp[errW_none,errW_some]<;>rfl)|(simp[*,errW_none,errW_some]<;>rfl)|(simp[*,errW_none,errW_some,i64_w];done),by repeat(first|(with_reducible first|exact HB.out|apply Zh|apply Ze|apply Zd|refine Zg ?_ GE566.out|refine Zg ?_ GE567.out)|exact HB.out)⟩
def laws_markStmtS.f (l:List S77) (k:Int):Option Int:=some (Sep.up (6*l.length) k)
set_option maxHeartbeats 8000000 in
set_option maxRecDepth 100000 in
theorem laws_markStmtS.calls (v:Value) (l:List S77) (a1 r:Int) (b:Nat) (w:World) (hs:Sep.RS 77 6 b w v l.length) (h:laws_markStmtS.f l a1=some r):
  Calls Tryz.prog 71 #[v,.int .i64 a1] w fun e w'=>e= .returned (.int .i64 r)∧Sep.MK [77] b w w':=by
 obtain⟨A0,c0,rfl,hc,hmax,hA⟩:=hs
 have HC:=Za hc
 have HA:=Za hA
 have HM:=Za hmax
 have HR:=Za (Zm h)
 clear hc hA h hmax
 go_enter Tryz.func71,Tryz.ntmps71
 go_wp2
 go_loopg [1,5] (l.length+1) (fun kq v1 v5 w'=>∃(x1:Int) (x5:Int),v1= .int .i64 x1∧v5= .int .i64 x5∧Aside0 (x1=Sep.up (6*x5.toNat) a1∧0≤x5∧x5≤(l.length:Int)∧kq+x5.toNat=l.length+1)∧Aside0 (Sep.MK [77] b w w'))
 case atStart=>exact⟨a1,0,z17_3,z17_3,⟨rfl,by omega,by omega,by simp⟩,⟨Sep.MK.of_below z17_4⟩⟩
 case round=>
  obtain⟨x1,x5,rfl,rfl,HX,M0⟩:=hrel
  cases gk with
  |zero=>have:=HX.out;omega
  |succ k1=>
   by_cases c3:x5<(l.length:Int)
   ·have c3b0:decide (x5<(l.length:Int))=true:=Zq c3
    have p5:0≤(x5:Int):=HX.out.2.1
    have c4b0:decide (0≤x5)=true:=Zq p5
    have q5:(x5:Int)<((l.length:Int):Int):=c3
    obtain⟨g,rfl,gb,rg⟩:=HA.out (by omega)
    have GB:=Za gb
    have RG0:=Za rg
    have LX0:x5.toNat*6+5<l.length*6:=by omega
    clear gb rg c3
    obtain⟨⟨u0,hx0⟩,hf0⟩:=Sep.RG.cell (o:=x5.toNat*6) (RG0.out.mk M0.out) (by omega)
    replace p5:=eq_true p5
    replace q5:=eq_true q5
    have n1_:wrap64 (x5+1)=x5+1:=by have:=HX.out;have:=HM.out;unfold wrap64;omega
    have N1:=Za n1_
    clear n1_
    go_wp2_with (first|((with_reducible refine Ym (t:=3) (p:=16) rfl ?_);refine Yl (t:=3) (p:=16) (v:= ?vo_w1) (w1:=(wr.setCell ⟨g,x5.toNat*6,none⟩ (.int .i64 (x1)))) ?hg ?ho ?hn ?hr ?_;(case ho=>rfl);(case hg=>rfl);(case hn=>rfl);(case hr=>exact z17_6);intro w1 hw;have M1:=Za (show Sep.MK [77] b w w1 from by rw[hw];exact Sep.MK.set M0.out (RG0.out.mk M0.out) (by decide) GB.out _ _);clear hw;have LX1:x5.toNat*6+5<l.length*6:=LX0;obtain⟨⟨u1,hx1⟩,hf1⟩:=Sep.RG.cell (o:=x5.toNat*6+1) (RG0.out.mk M1.out) (by omega))|((with_reducible refine Ym (t:=3) (p:=23) rfl ?_);refine Yl (t:=3) (p:=23) (v:= ?vo_w2) (w1:=(w1.setCell ⟨g,x5.toNat*6+1,none⟩ (.int .i64 (wrap64 (x1+1))))) ?hg ?ho ?hn ?hr ?_;(case ho=>rfl);(case hg=>rfl);(case hn=>rfl);(case hr=>exact z17_6);intro w2 hw;have M2:=Za (show Sep.MK [77] b w w2 from by rw[hw];exact Sep.MK.set M1.out (RG0.out.mk M1.out) (by decide) GB.out _ _);clear hw;have LX2:x5.toNat*6+5<l.length*6:=LX0;obtain⟨⟨u2,hx2⟩,hf2⟩:=Sep.RG.cell (o:=x5.toNat*6+2) (RG0.out.mk M2.out) (by omega))|((with_reducible refine Ym (t:=3) (p:=30) rfl ?_);refine Yl (t:=3) (p:=30) (v:= ?vo_w3) (w1:=(w2.setCell ⟨g,x5.toNat*6+2,none⟩ (.int .i64 (wrap64 ((wrap64 (x1+1))+1))))) ?hg ?ho ?hn ?hr ?_;(case ho=>rfl);(case hg=>rfl);(case hn=>rfl);(case hr=>exact z17_6);intro w3 hw;have M3:=Za (show Sep.MK [77] b w w3 from by rw[hw];exact Sep.MK.set M2.out (RG0.out.mk M2.out) (by decide) GB.out _ _);clear hw;have LX3:x5.toNat*6+5<l.length*6:=LX0;obtain⟨⟨u3,hx3⟩,hf3⟩:=Sep.RG.cell (o:=x5.toNat*6+3) (RG0.out.mk M3.out) (by omega))|((with_reducible refine Ym (t:=3) (p:=38) rfl ?_);refine Yl (t:=3) (p:=38) (v:= ?vo_w4) (w1:=(w3.setCell ⟨g,x5.toNat*6+3,none⟩ (.int .i64 (wrap64 ((wrap64 ((wrap64 (x1+1))+1))+1))))) ?hg ?ho ?hn ?hr ?_;(case ho=>rfl);(case hg=>rfl);(case hn=>rfl);(case hr=>exact z17_6);intro w4 hw;have M4:=Za (show Sep.MK [77] b w w4 from by rw[hw];exact Sep.MK.set M3.out (RG0.out.mk M3.out) (by decide) GB.out _ _);clear hw;have LX4:x5.toNat*6+5<l.length*6:=LX0;obtain⟨⟨u4,hx4⟩,hf4⟩:=Sep.RG.cell (o:=x5.toNat*6+4) (RG0.out.mk M4.out) (by omega))|((with_reducible refine Ym (t:=3) (p:=46) rfl ?_);refine Yl (t:=3) (p:=46) (v:= ?vo_w5) (w1:=(w4.setCell ⟨g,x5.toNat*6+4,none⟩ (.int .i64 (wrap64 ((wrap64 ((wrap64 ((wrap64 (x1+1))+1))+1))+1))))) ?hg ?ho ?hn ?hr ?_;(case ho=>rfl);(case hg=>rfl);(case hn=>rfl);(case hr=>exact z17_6);intro w5 hw;have M5:=Za (show Sep.MK [77] b w w5 from by rw[hw];exact Sep.MK.set M4.out (RG0.out.mk M4.out) (by decide) GB.out _ _);clear hw;have LX5:x5.toNat*6+5<l.length*6:=LX0;obtain⟨⟨u5,hx5⟩,hf5⟩:=Sep.RG.cell (o:=x5.toNat*6+5) (RG0.out.mk M5.out) (by omega))|((with_reducible refine Ym (t:=3) (p:=54) rfl ?_);refine Yl (t:=3) (p:=54) (v:= ?vo_w6) (w1:=(w5.setCell ⟨g,x5.toNat*6+5,none⟩ (.int .i64 (wrap64 ((wrap64 ((wrap64 ((wrap64 ((wrap64 (x1+1))+1))+1))+1))+1))))) ?hg ?ho ?hn ?hr ?_;(case ho=>rfl);(case hg=>rfl);(case hn=>rfl);(case hr=>exact z17_6);intro w6 hw;have M6:=Za (show Sep.MK [77] b w w6 from by rw[hw];exact Sep.MK.set M5.out (RG0.out.mk M5.out) (by decide) GB.out _ _);clear hw)|fail)
    go_roundg k1
    case measure=>omega
    case rel=>exact⟨_,wrap64 (x5+1),z17_3,z17_3,⟨by rw[N1.out,show 6*(x5+1).toNat=6*x5.toNat+6 by have:=HX.out;omega,Sep.up_add,←HX.out.1];rfl,by rw[N1.out];have:=HX.out;omega,by rw[N1.out];have:=HX.out;have:=of_eq_true q5;omega,by rw[N1.out];have:=HX.out;omega⟩,⟨M6.out.trans (Sep.MK.of_below z17_4)⟩⟩
   ·have c3b0:decide (x5<(l.length:Int))=false:=Yg c3
    have e5:x5=(l.length:Int):=by have:=HX.out;omega
    have E5:=Za e5
    clear c3 e5
    go_wp2
    go_ret
    exact⟨by rw[←HR.out,HX.out.1,E5.out];first|rfl|simp,M0.out.trans (Sep.MK.of_below z17_4)⟩
def markT (k:Int) (t:S55):Int:=Sep.up 3 (Sep.up (6*t.f0.length) k)
def laws_markTaskS.f (l:List S55) (k:Int):Option Int:=some (l.foldl markT k)
def TSv (b:Nat) (A:Option Addr) (l:List S55) (w:World):Prop:=∀(i:Nat) (t:S55),l[i]? =some t→∃g,A=some ⟨g,0,none⟩∧b≤g∧Sep.RG 55 (l.length*4) g w∧∃u,w.cell? ⟨g,i*4,none⟩=some u∧Sep.RS 77 6 b w u t.f0.length
theorem TSv.mk {b:Nat} {A:Option Addr} {l:List S55} {w w1:World} {ts:List Nat} {b':Nat} (h:TSv b A l w) (k:Sep.MK ts b' w w1) (hn:55 ∉ ts):TSv b A l w1:=by
 intro i t hi
 obtain⟨g,e,hb,⟨cs,hc,hm⟩,u,hu,hr⟩:=h i t hi
 have hc1:=k.blk hc hn
 exact⟨g,e,hb,⟨cs,hc1,hm⟩,u,(Zb hc1 _).trans ((Zb hc _).symm.trans hu),hr.mk k⟩
theorem TSv.set {b:Nat} {A:Option Addr} {l:List S55} {w:World} {g:Nat} (h:TSv b A l w) (hA:A=some ⟨g,0,none⟩) (hg:Sep.RG 55 (l.length*4) g w) (ht:55∈([55]:List Nat)) (x j:Nat) (j0:0<j) (j4:j<4) (v:Value):TSv b A l (w.setCell ⟨g,x*4+j,none⟩ v):=by
 intro i t hi
 obtain⟨g',e,hb,hrg,u,hu,hr⟩:=h i t hi
 rw[hA] at e
 have e':g=g':=by injection e with e;injection e
 subst e'
 have k:=Sep.MK.set (Sep.MK.refl [55] 0 w) hg ht (Nat.zero_le g) (x*4+j) v
 obtain⟨cs,hc,hm⟩:=hrg
 refine⟨g,hA,hb,(show Sep.RG 55 (l.length*4) g w from ⟨cs,hc,hm⟩).mk k,u,?_,hr.mk k⟩
 rw[Zb (blk_put hc (x*4+j) v rfl),Array.getElem?_setIfInBounds_ne (by omega),←Zb hc]
 exact hu
theorem TSv.of_S {b:Nat} {ok:Nat→Prop} {A:Option Addr} {n c:Nat} {l:List S55} {w:World} (h:Kd.S k55 55 w b ok (.slice A n c) l):TSv b A l w:=by
 intro i t hi
 have hl:=(List.getElem?_eq_some_iff.1 hi).1
 have hR:=Kd.S_R h
 obtain⟨A',c',e1,e2,e3,e4⟩:=Sep.RS.of_R z55 (by decide) hR
 injection e1 with e1 e5 _
 subst e1
 obtain⟨g,eA,hb,hrg⟩:=e4 (by omega)
 subst eA
 obtain⟨c1,l1,hM,hcell,_⟩:=Kd.R_elem hR z55 (i:Int) (by omega) (by omega)
 obtain⟨v0,rfl,g0⟩:=k55_openM hM
 have ht:l.getD ((i:Int)).toNat z55=t:=by rw[Int.toNat_natCast,List.getD_eq_getElem?_getD,hi];rfl
 rw[ht] at g0
 refine⟨g,rfl,hb,hrg,v0,hcell 0 _ rfl,Sep.RS.of_R z77 (by decide) g0⟩
set_option maxHeartbeats 8000000 in
set_option maxRecDepth 100000 in
theorem laws_markTaskS.calls (v:Value) (l:List S55) (a1 r:Int) (b:Nat) (ok:Nat→Prop) (w:World) (hs:Kd.S k55 55 w b ok v l) (h:laws_markTaskS.f l a1=some r):
  Calls Tryz.prog 35 #[v,.int .i64 a1] w fun e w'=>e= .returned (.int .i64 r)∧Sep.MK [77,55] b w w':=by
 obtain⟨A0_,c0,rfl,hc,hC⟩:=Kd.S_reads hs
 have HC:=Za hc
 have HM:=Za hC.2.1
 have HT:=Za (TSv.of_S hs)
 have HR:=Za (Zm h)
 clear hc hC h hs
 go_enter Tryz.func35,Tryz.ntmps35
 go_wp2
 go_loopg [1,5] (l.length+1) (fun kq v1 v5 w'=>∃(x1:Int) (x5:Int),v1= .int .i64 x1∧v5= .int .i64 x5∧Aside0 (x1=(l.take x5.toNat).foldl markT a1∧0≤x5∧x5≤(l.length:Int)∧kq+x5.toNat=l.length+1)∧Aside0 (Sep.MK [77,55] b w w')∧Aside0 (TSv b A0_ l w'))
 case atStart=>exact⟨a1,0,z17_3,z17_3,⟨rfl,by omega,by omega,by simp⟩,⟨Sep.MK.of_below z17_4⟩,⟨HT.out.mk (ts:=[]) (b':=0) (Sep.MK.of_below z17_4) (by simp)⟩⟩
 case round=>
  obtain⟨x1,x5,rfl,rfl,HX,M0,TS0⟩:=hrel
  cases gk with
  |zero=>have:=HX.out;omega
  |succ k1=>
   by_cases c3:x5<(l.length:Int)
   ·have c3b0:decide (x5<(l.length:Int))=true:=Zq c3
    have p5:0≤(x5:Int):=HX.out.2.1
    have c4b0:decide (0≤x5)=true:=Zq p5
    have q5:(x5:Int)<((l.length:Int):Int):=c3
    have QN:=Za (show x5.toNat<l.length by omega)
    obtain⟨t,ht⟩:∃t,l[x5.toNat]? =some t:=⟨_,List.getElem?_eq_getElem QN.out⟩
    obtain⟨g,eA,gb,rg,u0,hu,rs⟩:=TS0.out x5.toNat t ht
    subst eA
    obtain⟨A0_,hA0_⟩:∃A:Option Addr,A=some ⟨g,0,none⟩:=⟨_,rfl⟩
    have eA_:=Za hA0_
    have TS0':=TS0
    rw[←hA0_] at TS0'
    replace TS0:=TS0'
    clear TS0' hA0_
    have GB:=Za gb
    have RG0:=Za rg
    have hf0:=(Sep.RG.cell (o:=x5.toNat*4) rg (by have:=QN.out;omega)).2
    obtain⟨Au,cu,eu,lu,mu,hu2⟩:=rs
    subst eu
    have RSu:=Za (show Sep.RS 77 6 b wr (.slice Au t.f0.length cu) t.f0.length from ⟨Au,cu,rfl,lu,mu,hu2⟩)
    obtain⟨y,hy⟩:∃y,laws_markStmtS.f t.f0 x1=some y:=⟨_,rfl⟩
    have HY:=Za hy
    have HTT:=Za ht
    clear gb rg lu mu hu2 hy ht c3
    replace p5:=eq_true p5
    replace q5:=eq_true q5
    have n1_:wrap64 (x5+1)=x5+1:=by have:=HX.out;have:=HM.out;have:=QN.out;unfold wrap64;omega
    have N1:=Za n1_
    clear n1_
    go_wp2_with (first|(go_at_call 71;(with_reducible refine(laws_markStmtS.calls _ t.f0 x1 y b _ RSu.out HY.out).mono ?_);rintro e w1 ⟨rfl,hm⟩;have M1:=Za (M0.out.trans (hm.mono (ts':=[77,55]) (by decide)));have RG1:=Za (RG0.out.mk hm);have TS1:=Za (TSv.mk TS0.out hm (by decide));have LX1:=Za (show x5.toNat*4+1<l.length*4 from by have:=QN.out;omega);clear hm;obtain⟨⟨u1,hx1⟩,hf1⟩:=Sep.RG.cell (o:=x5.toNat*4+1) RG1.out LX1.out)|((with_reducible refine Ym (t:=3) (p:=24) rfl ?_);refine Yl (t:=3) (p:=24) (v:= ?vo_w2) (w1:=(w1.setCell ⟨g,x5.toNat*4+1,none⟩ (.int .i64 (y)))) ?hg ?ho ?hn ?hr ?_;(case ho=>rfl);(case hg=>rfl);(case hn=>rfl);(case hr=>exact z17_6);intro w2 hw;have M2:=Za (show Sep.MK [77,55] b w w2 from by rw[hw];exact Sep.MK.set M1.out RG1.out (by decide) GB.out _ _);have RG2:=Za (show Sep.RG 55 (l.length*4) g w2 from by rw[hw];exact RG1.out.mk (Sep.MK.set (ts:=[55]) (b:=0) (Sep.MK.refl _ _ _) RG1.out (by decide) (Nat.zero_le _) _ _));have TS2:=Za (show TSv b A0_ l w2 from by rw[hw];exact TSv.set TS1.out eA_.out RG1.out (by decide) x5.toNat 1 (by decide) (by decide) _);clear hw;have LX2:=Za (show x5.toNat*4+2<l.length*4 from by have:=LX1.out;have:=QN.out;omega);obtain⟨⟨u2,hx2⟩,hf2⟩:=Sep.RG.cell (o:=x5.toNat*4+2) RG2.out LX2.out)|((with_reducible refine Ym (t:=3) (p:=32) rfl ?_);refine Yl (t:=3) (p:=32) (v:= ?vo_w3) (w1:=(w2.setCell ⟨g,x5.toNat*4+2,none⟩ (.int .i64 (wrap64 (y+1))))) ?hg ?ho ?hn ?hr ?_;(case ho=>rfl);(case hg=>rfl);(case hn=>rfl);(case hr=>exact z17_6);intro w3 hw;have M3:=Za (show Sep.MK [77,55] b w w3 from by rw[hw];exact Sep.MK.set M2.out RG2.out (by decide) GB.out _ _);have RG3:=Za (show Sep.RG 55 (l.length*4) g w3 from by rw[hw];exact RG2.out.mk (Sep.MK.set (ts:=[55]) (b:=0) (Sep.MK.refl _ _ _) RG2.out (by decide) (Nat.zero_le _) _ _));have TS3:=Za (show TSv b A0_ l w3 from by rw[hw];exact TSv.set TS2.out eA_.out RG2.out (by decide) x5.toNat 2 (by decide) (by decide) _);clear hw;have LX3:=Za (show x5.toNat*4+3<l.length*4 from by have:=LX1.out;have:=QN.out;omega);obtain⟨⟨u3,hx3⟩,hf3⟩:=Sep.RG.cell (o:=x5.toNat*4+3) RG3.out LX3.out)|((with_reducible refine Ym (t:=3) (p:=40) rfl ?_);refine Yl (t:=3) (p:=40) (v:= ?vo_w4) (w1:=(w3.setCell ⟨g,x5.toNat*4+3,none⟩ (.int .i64 (wrap64 ((wrap64 (y+1))+1))))) ?hg ?ho ?hn ?hr ?_;(case ho=>rfl);(case hg=>rfl);(case hn=>rfl);(case hr=>exact z17_6);intro w4 hw;have M4:=Za (show Sep.MK [77,55] b w w4 from by rw[hw];exact Sep.MK.set M3.out RG3.out (by decide) GB.out _ _);have RG4:=Za (show Sep.RG 55 (l.length*4) g w4 from by rw[hw];exact RG3.out.mk (Sep.MK.set (ts:=[55]) (b:=0) (Sep.MK.refl _ _ _) RG3.out (by decide) (Nat.zero_le _) _ _));have TS4:=Za (show TSv b A0_ l w4 from by rw[hw];exact TSv.set TS3.out eA_.out RG3.out (by decide) x5.toNat 3 (by decide) (by decide) _);clear hw)|fail)
    go_roundg k1
    case measure=>omega
    case rel=>exact⟨_,wrap64 (x5+1),z17_3,z17_3,⟨by rw[N1.out,show(x5+1).toNat=x5.toNat+1 by have:=HX.out;omega,List.take_add_one,HTT.out,List.foldl_append,←HX.out.1,←Zm HY.out];rfl,by rw[N1.out];have:=HX.out;omega,by rw[N1.out];have:=HX.out;have:=of_eq_true q5;omega,by rw[N1.out];have:=HX.out;omega⟩,⟨M4.out.trans (Sep.MK.of_below z17_4)⟩,⟨by rw[←eA_.out];exact TS4.out.mk (ts:=[]) (b':=0) (Sep.MK.of_below z17_4) (by simp)⟩⟩
   ·have c3b0:decide (x5<(l.length:Int))=false:=Yg c3
    have e5:x5.toNat=l.length:=by have:=HX.out;omega
    have E5:=Za e5
    clear c3 e5
    go_wp2
    go_ret
    exact⟨by rw[←HR.out,HX.out.1,E5.out,List.take_length];rfl,M0.out.trans (Sep.MK.of_below z17_4)⟩
def laws_markProgram.f (l:List S55) (k:Int):Option Int:=laws_markTaskS.f l k
set_option maxHeartbeats 8000000 in
set_option maxRecDepth 100000 in
theorem laws_markProgram.calls (v:Value) (l:List S55) (a1 r:Int) (b:Nat) (ok:Nat→Prop) (w:World) (hs:Kd.S k55 55 w b ok v l) (h:laws_markProgram.f l a1=some r):
  Calls Tryz.prog 12 #[.agg #[v],.int .i64 a1] w fun e w'=>e= .returned (.int .i64 r)∧Sep.MK [77,55] b w w':=by
 obtain⟨A0_,c0,rfl,hc,hC⟩:=Kd.S_reads hs
 have HS:=Za hs
 have HR:=Za (show laws_markTaskS.f l a1=some r from h)
 clear hc hC h hs
 go_enter Tryz.func12,Tryz.ntmps12
 go_wp2_with (first|((with_reducible refine Zr (N:=2) rfl ?_);refine Zs ?hg (N:=2) ?hd (cs:= #[.slice A0_ l.length c0]) (t:=30) ?hr ?_;(case hd=>rfl);(case hg=>rfl);(case hr=>exact z17_6);intro gp hgp w1 hp hb;have HB1:=Za hb;have hP1:w1.cell? ⟨gp,0,none⟩=some (.slice A0_ l.length c0):=(Zb hp 0).trans rfl;have HS1:=Za (Kd.S_below HS.out hb);clear hgp hp hb)|(go_at_call 35;(with_reducible refine(laws_markTaskS.calls _ l a1 r b ok _ HS1.out HR.out).mono ?_);rintro e w2 ⟨rfl,hm⟩;have M2:=Za ((Sep.MK.of_below HB1.out).trans hm);clear hm)|fail)
 go_ret
 exact⟨rfl,M2.out.trans (Sep.MK.of_below z17_4)⟩
def laws_markIntS.l0:Nat→List Int→Int→Int→Option (Int×List Int)
 |0,_,_,_=>none
 |k+1,x0,x1,x5=>if x5<(x0.length:Int) then (if 0≤x5 then (laws_markIntS.l0 k (x0.set (x5:Int).toNat x1) (wrap64 (x1+1)) (wrap64 (x5+1))) else (none)) else (some (x1,x0))
def laws_markIntS.f (k:Nat) (l0:List Int) (a1:Int):Option (Int×List Int):=laws_markIntS.l0 k l0 a1 0
set_option maxHeartbeats 8000000 in
set_option maxRecDepth 100000 in
theorem laws_markIntS.calls (k:Nat) (P0_:Nat→Prop) (u9000_:Value) (l0:List Int) (a1:Int) (r1:Int) (r2:List Int) (w0 w:World) (hB:Below w0.heap.size w0 w) (ho0:Kd.R (Kd.int .i64) 3 w w0.heap.size P0_ u9000_ l0) (h:laws_markIntS.f k l0 a1=some (r1,r2)):
  Calls Tryz.prog 13 #[u9000_,.int .i64 a1] w fun e w'=>e= .returned (.int .i64 r1)∧Kd.R (Kd.int .i64) 3 w' w0.heap.size (fun k_=>(P0_ k_∨w.heap.size≤k_)) u9000_ r2∧Below w0.heap.size w0 w'∧Kept w w' (fun k_=>P0_ k_):=by
 have HO0:=Za (show Kd.R (Kd.int .i64) 3 w w0.heap.size (fun k_=>(P0_ k_∨w.heap.size≤k_)) u9000_ l0 from Yf ho0 (fun k_ hk=>(.inl hk)))
 have HK:=Za (Kept.refl w (fun k_=>P0_ k_))
 have HW0:=Za hB.size
 have HB:=Za hB
 clear hB
 have H:(laws_markIntS.l0 k l0 a1 0)=some (r1,r2):=h
 clear h
 have H':=Za H
 clear H
 go_enter Tryz.func13,Tryz.ntmps13
 go_wp2
 go_loopg [1,5] k (fun kq v1 v5 w'=>∃(x0_1:List Int) (x1_1:Int) (x5_1:Int),v1= .int .i64 x1_1∧v5= .int .i64 x5_1∧Aside0 (laws_markIntS.l0 kq x0_1 x1_1 x5_1=some (r1,r2))∧Aside0 (kq≤k)∧Aside0 (Kd.R (Kd.int .i64) 3 w' w0.heap.size (fun k_=>(P0_ k_∨w.heap.size≤k_)) u9000_ x0_1)∧Aside0 (Kept w w' (fun k_=>P0_ k_))∧Aside0 (Below w0.heap.size w0 w'))
 case atStart=>exact⟨(l0),(a1),(0),z17_3,z17_3,H',⟨Nat.le_refl _⟩,⟨by(with_reducible repeat(first|apply Zp|apply Zo|apply Zn));exact HO0.out⟩,⟨by repeat(first|(with_reducible first|exact HK.out|apply Kept.alloc|apply Kept.drewN|apply Kept.drew)|exact HK.out)⟩,⟨by repeat(first|(with_reducible first|exact HB.out|apply Zh|apply Ze|apply Zd)|exact HB.out)⟩⟩
 case round=>
  clear H'
  obtain⟨x0_1,x1_1,x5_1,rfl,rfl,HA,HK1,HO_0,HK,HB⟩:=hrel
  cases gk with
  |zero=>exact absurd HA.out (by simp[laws_markIntS.l0])
  |succ k1=>
   have H:=HA.out
   clear HA
   simp only[laws_markIntS.l0] at H
   by_cases c3:x5_1<(x0_1.length:Int)
   ·rw[if_pos c3] at H
    have c3b0:decide (x5_1<(x0_1.length:Int))=true:=Zq c3
    clear c3
    by_cases c4:0≤x5_1
    ·rw[if_pos c4] at H
     have c4b0:decide (0≤x5_1)=true:=Zq c4
     clear c4
     obtain⟨y569,hy569⟩:∃y_:List Int,y_=(x0_1.set (x5_1:Int).toNat x1_1):=⟨_,rfl⟩
     replace H:(laws_markIntS.l0 k1 y569 (wrap64 (x1_1+1)) (wrap64 (x5_1+1)))=some (r1,r2):=by first|(rw[hy569];with_reducible exact H)|(have H2_:=(Yk _ _).symm.trans H;rw[hy569];with_reducible exact H2_)|(have H2_:=(Yk _ _).symm.trans H;with_reducible exact H2_)|with_reducible exact H|(rw[hy569];exact H)|exact H
     have Ny569:=Za hy569
     clear hy569
     have H':=Za H
     clear H
     obtain⟨Ao6,co6,eo6⟩:=Yp HO_0.out
     subst eo6
     have p5:0≤(x5_1:Int):=Zj z17_5
     have q5:(x5_1:Int)<((x0_1.length:Int):Int):=Zj z17_5
     obtain⟨go5,co5,eo5,gb5,gl5,cl5,HG5⟩:=Kd.R_form HO_0.out (by omega)
     (first|cases eo5|(injection eo5 with ea_ en_ ec_;(first|subst ea_|(injection ea_ with ea_;subst ea_));subst ec_;clear en_))
     have GB5:=Za gb5
     have GG5:=Za HG5
     clear gb5 gl5 HG5
     have HMgo5:=Za (show(P0_ go5∨w.heap.size≤go5) from (HO_0.out.1 _ rfl))
     obtain⟨hx5_0,hf5_0⟩:=Kd.R_celln 0 HO_0.out (x5_1:Int) p5 q5
     replace p5:=eq_true p5
     replace q5:=eq_true q5
     have HP7:=Kd.R_putg HO_0.out (x5_1:Int) x1_1
     go_wp2_with (first|((with_reducible refine Ym (t:=3) (p:=15) rfl ?_);refine Yl (t:=3) (p:=15) (v:= ?vo_w8) (w1:=(wr.setCell ⟨go5,(x5_1:Int).toNat,none⟩ (.int .i64 x1_1))) ?hg ?ho ?hn ?hr ?_;(case ho=>rfl);(case hg=>rfl);(case hn=>rfl);(case hr=>exact z17_6);intro w8 hw;have hg:wr.grownBy w8 (some go5):=(by rw[hw];exact HP7.2);have hp_:Kd.R (Kd.int .i64) 3 w8 w0.heap.size (fun k_=>(P0_ k_∨w.heap.size≤k_)) (.slice (some ⟨go5,0,none⟩) x0_1.length co6) y569:=(by rw[hw,Ny569.out];exact HP7.1);clear HP7;replace HB:=Za ((by rw[hw];exact Zg (HB.out) GB5.out:Below w0.heap.size w0 w8));replace HK:=Za (Kept.of_grown (S:=(fun k_=>P0_ k_)) hg (by repeat(first|(with_reducible first|exact HK.out|apply Kept.alloc|apply Kept.drewN|apply Kept.drew)|exact HK.out)) (fun k_ e_=>(HO_0.out.1 k_ e_)));replace HO_0:=Za (hp_);clear hg hw hp_))
     go_roundg k1
     case measure=>have:=HK1.out;omega
     case rel=>exact⟨(y569),(wrap64 (x1_1+1)),(wrap64 (x5_1+1)),z17_3,z17_3,H',⟨by have:=HK1.out;omega⟩,⟨by(with_reducible repeat(first|apply Zp|apply Zo|apply Zn));exact HO_0.out⟩,⟨by repeat(first|(with_reducible first|exact HK.out|apply Kept.alloc|apply Kept.drewN|apply Kept.drew)|exact HK.out)⟩,⟨by repeat(first|(with_reducible first|exact HB.out|apply Zh|apply Ze|apply Zd)|exact HB.out)⟩⟩
    ·rw[if_neg c4] at H
     exact absurd H (by simp)
   ·rw[if_neg c3] at H
    have c3b0:decide (x5_1<(x0_1.length:Int))=false:=Yg c3
    clear c3
    simp only[Option.some.injEq,Prod.mk.injEq] at H
    obtain⟨rfl,rfl⟩:=H
    obtain⟨Ao9,co9,eo9⟩:=Yp HO_0.out
    subst eo9
    go_wp2
    go_ret
    exact⟨by first|rfl|(simp[errW_none,errW_some]<;>rfl)|(simp[*,errW_none,errW_some]<;>rfl)|(simp[*,errW_none,errW_some,i64_w];done),by(with_reducible repeat(first|apply Zp|apply Zo|apply Zn));exact HO_0.out,by repeat(first|(with_reducible first|exact HB.out|apply Zh|apply Ze|apply Zd)|exact HB.out),by repeat(first|(with_reducible first|exact HK.out|apply Kept.alloc|apply Kept.drewN|apply Kept.drew)|exact HK.out)⟩
def laws_heldIntS.l0:Nat→List Int→Int→Int→Option (Int)
 |0,_,_,_=>none
 |k+1,x0,x1,x5=>if x5<(x0.length:Int) then (if 0≤x5 then (if (rd x0 x5)=x1 then (laws_heldIntS.l0 k x0 (wrap64 (x1+1)) (wrap64 (x5+1))) else (some (-1))) else (none)) else (some x1)
def laws_heldIntS.f (k:Nat) (l0:List Int) (a1:Int):Option (Int):=laws_heldIntS.l0 k l0 a1 0
set_option maxHeartbeats 8000000 in
set_option maxRecDepth 100000 in
theorem laws_heldIntS.calls (k:Nat) (A0:Option Addr) (c0:Nat) (l0:List Int) (a1:Int) (r:Int) (w:World) (hr0:Kd.C (Kd.int .i64) w A0 l0.length l0) (hc0:l0.length≤c0) (h:laws_heldIntS.f k l0 a1=some r):
  Calls Tryz.prog 14 #[.slice A0 l0.length c0,.int .i64 a1] w fun e w'=>e= .returned (.int .i64 r)∧Drawn0 w w':=by
 have HR0:=Za hr0
 have HC0:=Za hc0
 clear hr0 hc0
 have H:(laws_heldIntS.l0 k l0 a1 0)=some r:=h
 clear h
 have H':=Za H
 clear H
 go_enter Tryz.func14,Tryz.ntmps14
 go_wp2
 go_loopg [1,5] k (fun kq v1 v5 w'=>∃(x1_1:Int) (x5_1:Int),v1= .int .i64 x1_1∧v5= .int .i64 x5_1∧Aside0 (laws_heldIntS.l0 kq l0 x1_1 x5_1=some r)∧Aside0 (kq≤k)∧Drawn0 w w')
 case atStart=>exact⟨(a1),(0),z17_3,z17_3,H',⟨Nat.le_refl _⟩,by repeat(first|exact Zz _|apply Ya)⟩
 case round=>
  clear H'
  obtain⟨x1_1,x5_1,rfl,rfl,HA,HK1,⟨m1,rfl⟩⟩:=hrel
  cases gk with
  |zero=>exact absurd HA.out (by simp[laws_heldIntS.l0])
  |succ k1=>
   have H:=HA.out
   clear HA
   simp only[laws_heldIntS.l0] at H
   by_cases c3:x5_1<(l0.length:Int)
   ·rw[if_pos c3] at H
    have c3b0:decide (x5_1<(l0.length:Int))=true:=Zq c3
    clear c3
    by_cases c4:0≤x5_1
    ·rw[if_pos c4] at H
     have c4b0:decide (0≤x5_1)=true:=Zq c4
     clear c4
     by_cases c5:(rd l0 x5_1)=x1_1
     ·rw[if_pos c5] at H
      have c5b0:((rd l0 x5_1)==x1_1)=true:=beq_iff_eq.mpr c5
      have c5b1:((rd l0 x5_1) != x1_1)=false:=bne_eq_false_iff_eq.mpr c5
      clear c5
      have H':=Za H
      clear H
      have p570:0≤(x5_1:Int):=Zj z17_5
      have q570:x5_1<(l0.length:Int):=Zj z17_5
      obtain⟨ad570,e570,hx570_0⟩:=Kd.at_int HR0.out x5_1 p570 q570
      cases e570
      replace p570:=eq_true p570
      replace q570:=eq_true q570
      go_wp2
      go_roundg k1
      case measure=>have:=HK1.out;omega
      case rel=>exact⟨(wrap64 (x1_1+1)),(wrap64 (x5_1+1)),z17_3,z17_3,H',⟨by have:=HK1.out;omega⟩,by repeat(first|exact Zz _|apply Ya)⟩
     ·rw[if_neg c5] at H
      have c5b0:((rd l0 x5_1)==x1_1)=false:=beq_eq_false_iff_ne.mpr c5
      have c5b1:((rd l0 x5_1) != x1_1)=true:=bne_iff_ne.mpr c5
      obtain rfl:=Zm H
      have p570:0≤(x5_1:Int):=Zj z17_5
      have q570:x5_1<(l0.length:Int):=Zj z17_5
      obtain⟨ad570,e570,hx570_0⟩:=Kd.at_int HR0.out x5_1 p570 q570
      cases e570
      replace p570:=eq_true p570
      replace q570:=eq_true q570
      go_wp2
      go_ret
      exact⟨by first|rfl|(simp;done)|(simp[*];done),by repeat(first|exact Zz _|apply Ya)⟩
    ·rw[if_neg c4] at H
     exact absurd H (by simp)
   ·rw[if_neg c3] at H
    have c3b0:decide (x5_1<(l0.length:Int))=false:=Yg c3
    clear c3
    obtain rfl:=Zm H
    go_wp2
    go_ret
    exact⟨by first|rfl|(simp;done)|(simp[*];done),by repeat(first|exact Zz _|apply Ya)⟩
end Go.Proofs.YtccjlmpeogifkaaGreat.G
