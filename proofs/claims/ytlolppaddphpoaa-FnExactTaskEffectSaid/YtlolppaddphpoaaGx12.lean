/- Functions of the program as plain Lean functions, and that each call comes to its function's answer; written by a program of the session. No condition. -/
import Derived.Test.YtlolppaddphpoaaGx0
import Derived.Test.YtlolppaddphpoaaGx3
import Derived.Test.YtlolppaddphpoaaGx6
import Derived.Test.YtlolppaddphpoaaGx7
import Derived.Test.YtlolppaddphpoaaGx9
import Derived.Test.YtlolppaddphpoaaGx10
import Derived.Test.YtlolppaddphpoaaGx11
namespace Go.Proofs.Ytlolppaddphpoaa.G
open Go.RowKit Go.Proofs.YtlolppaddphpoaaW.PrintWords Go.Proofs.YtlolppaddphpoaaW.PrintLast Go.Proofs.YtlolppaddphpoaaW.PrintMore
attribute [local go_sem] max2_int min2_int max_two min_two max_three min_three max_four min_four   -- for this text's walks alone
set_option linter.unusedVariables false
set_option linter.unusedSimpArgs false
theorem z12_0 {P:Prop} (h:P:=by(with_reducible repeat(first|refine blk_drewN ?_ _|refine blk_drew ?_|refine blk_alloc ?_ _));exact BK334.out):P:=h
theorem z12_1 {P:Prop} (h:P:=by(try simp only[List.map_toArray,List.map_cons,List.map_nil]);first|done|rfl|(simp only[List.length_drop,List.length_take];rfl)):P:=h
theorem z12_2 {P:Prop} (h:P:=by repeat(first|(with_reducible first|exact HB.out|apply Zh|apply Zf|apply Ze|refine Zd ?_ GE334.out|refine Zd ?_ GE354.out|refine Zd ?_ GE358.out|refine Zd ?_ GE374.out)|exact HB.out)):P:=h
theorem z12_3 {P:Prop} (h:P:=by(with_reducible repeat(first|refine blk_drewN ?_ _|refine blk_drew ?_|refine blk_alloc ?_ _));exact BK354.out):P:=h
theorem z12_4 {P:Prop} (h:P:=by repeat(first|(with_reducible first|exact HB.out|apply Zh|apply Zf|apply Ze|refine Zd ?_ GE334.out|refine Zd ?_ GE354.out|refine Zd ?_ GE374.out)|exact HB.out)):P:=h
theorem z12_5 {P:Prop} (h:P:=by(with_reducible repeat(first|refine blk_drewN ?_ _|refine blk_drew ?_|refine blk_alloc ?_ _));exact BK374.out):P:=h
theorem z12_6 {P:Prop} (h:P:=by repeat(first|(with_reducible first|exact HB.out|apply Zh|apply Zf|apply Ze|refine Zd ?_ GE334.out|refine Zd ?_ GE354.out|refine Zd ?_ GE358.out)|exact HB.out)):P:=h
theorem z12_7 {P:Prop} (h:P:=by(with_reducible repeat(first|apply Zn|apply Zo|apply Zm));exact HO_375001.out):P:=h
theorem z12_8 {P:Prop} (h:P:=by(with_reducible repeat(first|apply Zn|apply Zo|apply Zm));exact HO_375000.out):P:=h
theorem z12_9 {P:Prop} (h:P:=by(with_reducible repeat(first|apply Zn|apply Zo|apply Zm));exact HO_355001.out):P:=h
theorem z12_10 {P:Prop} (h:P:=by(with_reducible repeat(first|apply Zn|apply Zo|apply Zm));exact HO_355000.out):P:=h
theorem z12_11 {P:Prop} (h:P:=by repeat(first|(with_reducible first|exact HB.out|apply Zh|apply Zf|apply Ze|refine Zd ?_ GE334.out)|exact HB.out)):P:=h
theorem z12_12 {P:Prop} (h:P:=by(with_reducible repeat(first|refine blk_drewN ?_ _|refine blk_drew ?_|refine blk_alloc ?_ _));exact BK358.out):P:=h
theorem z12_13 {P:Prop} (h:P:=by(with_reducible repeat(first|apply Zn|apply Zo|apply Zm));exact HO341.out):P:=h
theorem z12_14 {P:Prop} (h:P:=by(with_reducible repeat(first|apply Zn|apply Zo|apply Zm));exact HO344.out):P:=h
theorem z12_15 {P:Prop} (h:P:=by(with_reducible repeat(first|apply Kd.S_alloc|apply Kd.S_drewN|apply Kd.S_drew));exact HO338.out):P:=h
theorem z12_16 {P:Prop} (h:P:=by(with_reducible repeat(first|apply Zn|apply Zo|apply Zm));exact HO350.out):P:=h
theorem z12_17 {P:Prop} (h:P:=by(with_reducible repeat(first|apply Zn|apply Zo|apply Zm));exact HO347.out):P:=h
theorem z12_18 {P:Prop} (h:P:=by repeat(first|(with_reducible first|exact HB.out|apply Zh|apply Zf|apply Ze|refine Zd ?_ GE334.out|refine Zd ?_ GE354.out)|exact HB.out)):P:=h
theorem z12_19 {P:Prop} (h:P:=by repeat(first|(with_reducible first|exact HB.out|apply Zh|apply Zf|apply Ze|refine Zd ?_ GE334.out|refine Zd ?_ GE354.out|refine Zd ?_ GE374.out|refine Zd ?_ GE416.out)|exact HB.out)):P:=h
theorem z12_20 {P:Prop} (h:P:=by(with_reducible repeat(first|apply Zn|apply Zo|apply Zm));exact HO_14.out):P:=h
theorem z12_21 {P:Prop} (h:P:=by(with_reducible repeat(first|apply Zn|apply Zo|apply Zm));exact HO_13.out):P:=h
theorem z12_22 {P:Prop} (h:P:=by(with_reducible repeat(first|apply Zn|apply Zo|apply Zm));exact HO403.out):P:=h
theorem z12_23 {P:Prop} (h:P:=by(with_reducible repeat(first|apply Zn|apply Zo|apply Zm));exact HO361.out):P:=h
theorem z12_24 {P:Prop} (h:P:=by repeat(first|exact(Yg HR0_0.out HB.out)|(with_reducible refine Yc ?_ _)|(with_reducible refine Yd ?_ _)|(with_reducible refine Ye ?_))):P:=h
theorem z12_25 {P:Prop} (h:P:=by repeat(first|exact(Yb HO_375001.out).2.2|(with_reducible refine Yc ?_ _)|(with_reducible refine Yd ?_ _)|(with_reducible refine Ye ?_))):P:=h
theorem z12_26 {P:Prop} (h:P:=by repeat(first|exact(Yb HO_375000.out).2.2|(with_reducible refine Yc ?_ _)|(with_reducible refine Yd ?_ _)|(with_reducible refine Ye ?_))):P:=h
theorem z12_27 {P:Prop} (h:P:=by repeat(first|exact(Yb HO_355001.out).2.2|(with_reducible refine Yc ?_ _)|(with_reducible refine Yd ?_ _)|(with_reducible refine Ye ?_))):P:=h
theorem z12_28 {P:Prop} (h:P:=by repeat(first|exact(Yb HO_355000.out).2.2|(with_reducible refine Yc ?_ _)|(with_reducible refine Yd ?_ _)|(with_reducible refine Ye ?_))):P:=h
theorem z12_29 {P:Prop} (h:P:=by repeat(first|exact(Yg HR3.out HB.out)|(with_reducible refine Yc ?_ _)|(with_reducible refine Yd ?_ _)|(with_reducible refine Ye ?_))):P:=h
theorem z12_30 {P:Prop} (h:P:=by(with_reducible repeat(first|apply Kd.S_alloc|apply Kd.S_drewN|apply Kd.S_drew));exact HO400.out):P:=h
theorem z12_31 {P:Prop} (h:P:=by(with_reducible repeat(first|apply Kd.S_alloc|apply Kd.S_drewN|apply Kd.S_drew));exact HO357.out):P:=h
theorem z12_32 {P:Prop} (h:P:=by(with_reducible repeat(first|apply Zn|apply Zo|apply Zm));exact HO406.out):P:=h
theorem z12_33 {P:Prop} (h:P:=by(with_reducible repeat(first|apply Zn|apply Zo|apply Zm));exact HO364.out):P:=h
theorem z12_34 {P:Prop} (h:P:=by(with_reducible repeat(first|apply Kd.S_alloc|apply Kd.S_drewN|apply Kd.S_drew));exact HO_359000.out):P:=h
theorem z12_35 {P:Prop} (h:P:=by repeat(first|exact(Yg HR2.out HB.out)|(with_reducible refine Yc ?_ _)|(with_reducible refine Yd ?_ _)|(with_reducible refine Ye ?_))):P:=h
theorem z12_36 {P:Prop} (h:P:=by kernel_rfl):P:=h
theorem z12_37 {P:Prop} (h:P:=by decide):P:=h
theorem z12_38 {P:Prop} (h:P:=by first|(go_simp;done)|(go_simp;rfl)):P:=h
theorem z12_39 {P:Prop} (h:P:=by repeat(first|(with_reducible first|exact HB.out|apply Zh|apply Zf|apply Ze)|exact HB.out)):P:=h
theorem z12_40 {P:Prop} (h:P:=by first|rfl|(simp;done)|(simp[*];done)):P:=h
theorem z12_41 {P:Prop} (h:P:=by(with_reducible repeat(first|refine blk_drewN ?_ _|refine blk_drew ?_|refine blk_alloc ?_ _));exact BK416.out):P:=h
theorem z12_42 {P:Prop} (h:P:=by rw[hg];exact Nat.ne_of_lt (blk_lt (g:=gb354) (o:= .cells #[.slice Ao33 t345.length co33,.slice Ao36 t348.length co36,.int .i64 t351,.int .i64 t352] 28 (0,0)) z12_3)):P:=h
theorem z12_43 {P:Prop} (h:P:=by rw[hg];exact Nat.ne_of_gt (blk_lt (g:=gb354) (o:= .cells #[.slice Ao33 t345.length co33,.slice Ao36 t348.length co36,.int .i64 t351,.int .i64 t352] 28 (0,0)) z12_3)):P:=h
theorem z12_44 {P:Prop} (h:P:=by rw[hg];exact Nat.ne_of_lt (blk_lt (g:=gb334) (o:= .cells #[.slice A0_0 l0_0.length c0_0] 24 (0,0)) z12_0)):P:=h
theorem z12_45 {P:Prop} (h:P:=by rw[hg];exact Nat.ne_of_gt (blk_lt (g:=gb334) (o:= .cells #[.slice A0_0 l0_0.length c0_0] 24 (0,0)) z12_0)):P:=h
theorem z12_46 {P:Prop} (h:P:=by(with_reducible repeat(first|apply Zn|apply Zo|apply Zm));exact(Zw (Kd.R_far (p:=⟨gb358,0,none⟩) (Kd.R_types HO350.out BK358.out z12_37) (fun _ hk=>hk.2) (.slice Ao41 t355.length co41)) (fun _ h_=>h_.1))):P:=h
theorem z12_47 {P:Prop} (h:P:=by(with_reducible repeat(first|apply Zn|apply Zo|apply Zm));exact(Zw (Kd.R_far (p:=⟨gb358,0,none⟩) (Kd.R_types HO347.out BK358.out z12_37) (fun _ hk=>hk.2) (.slice Ao41 t355.length co41)) (fun _ h_=>h_.1))):P:=h
theorem z12_48 {P:Prop} (h:P:=by(with_reducible repeat(first|apply Zn|apply Zo|apply Zm));exact(Zw (Kd.R_far (p:=⟨gb358,0,none⟩) (Kd.R_types HO344.out BK358.out z12_37) (fun _ hk=>hk.2) (.slice Ao41 t355.length co41)) (fun _ h_=>h_.1))):P:=h
theorem z12_49 {P:Prop} (h:P:=by(with_reducible repeat(first|apply Zn|apply Zo|apply Zm));exact(Zw (Kd.R_far (p:=⟨gb358,0,none⟩) (Kd.R_types HO341.out BK358.out z12_37) (fun _ hk=>hk.2) (.slice Ao41 t355.length co41)) (fun _ h_=>h_.1))):P:=h
/-! ### laws_FnExactTaskEffect: function 3 -/
mutual
def laws_FnExactTaskEffect.j0:Nat→Int→List Int→List Int→List (S71)→Option (Bool)
 |0,_,_,_,_=>none
 |k+1,x1,x2,x3,x335000=>if (x3.length:Int) > 1048576 then (some true) else (laws_FnExactTaskEffect.j1 k x1 x2 x3 x335000)
def laws_FnExactTaskEffect.j1:Nat→Int→List Int→List Int→List (S71)→Option (Bool)
 |0,_,_,_,_=>none
 |k+1,x1,x2,x3,x335000=>(laws_szProgram.f k x335000 1048576).bind fun t335=>(if t335<0 then (some true) else (laws_FnExactTaskEffect.j2 k x1 x2 x3 x335000))
def laws_FnExactTaskEffect.j2:Nat→Int→List Int→List Int→List (S71)→Option (Bool)
 |0,_,_,_,_=>none
 |k+1,x1,x2,x3,x335000=>(laws_toProgram.f k x335000).bind fun t336=>((laws_toIntS.f k x2).bind fun t339=>((laws_toIntS.f k x3).bind fun t342=>((spec_TaskEffect.f k t336 x1 t339 t342).bind fun bt345=>((laws_toProgram.f k x335000).bind fun t355=>((laws_toIntS.f k x2).bind fun t359=>((laws_toIntS.f k x3).bind fun t362=>((impl_TaskEffect.f k t355 x1 t359 t362).bind fun bt365=>((laws_eqEffect.f k bt365.1 bt365.2.1 bt365.2.2.1 bt365.2.2.2.1 bt345.1 bt345.2.1 bt345.2.2.1 bt345.2.2.2.1).bind fun t375=>(if t375=true then (laws_FnExactTaskEffect.j3 k x1 x2 x3 bt345.2.2.2.2 t359 t362 bt365.2.2.2.2 (bt365.2.2.2.2 != bt345.2.2.2.2) x335000 bt345.1 bt345.2.1 bt345.2.2.1 bt345.2.2.2.1 t355 bt365.1 bt365.2.1 bt365.2.2.1 bt365.2.2.2.1) else (laws_FnExactTaskEffect.j3 k x1 x2 x3 bt345.2.2.2.2 t359 t362 bt365.2.2.2.2 true x335000 bt345.1 bt345.2.1 bt345.2.2.1 bt345.2.2.2.1 t355 bt365.1 bt365.2.1 bt365.2.2.1 bt365.2.2.2.1))))))))))
def laws_FnExactTaskEffect.j3:Nat→Int→List Int→List Int→Bool→List Int→List Int→Bool→Bool→List (S71)→List Int→List Int→Int→Int→List (S64)→List Int→List Int→Int→Int→Option (Bool)
 |0,_,_,_,_,_,_,_,_,_,_,_,_,_,_,_,_,_,_=>none
 |k+1,x1,x2,x3,x11,x13,x14,x16,x66,x335000,x355000,x355001,x355002,x355003,x359000,x375000,x375001,x375002,x375003=>if x66=true then (some false) else (laws_FnExactTaskEffect.j4 k x1 x2 x3 x11 x13 x14 x16 x335000 x355000 x355001 x355002 x355003 x359000 x375000 x375001 x375002 x375003)
def laws_FnExactTaskEffect.j4:Nat→Int→List Int→List Int→Bool→List Int→List Int→Bool→List (S71)→List Int→List Int→Int→Int→List (S64)→List Int→List Int→Int→Int→Option (Bool)
 |0,_,_,_,_,_,_,_,_,_,_,_,_,_,_,_,_,_=>none
 |k+1,x1,x2,x3,x11,x13,x14,x16,x335000,x355000,x355001,x355002,x355003,x359000,x375000,x375001,x375002,x375003=>(laws_toProgram.f k x335000).bind fun t376=>((laws_eqProgram.f k x359000 t376).bind fun t379=>(if t379=true then (laws_FnExactTaskEffect.j5 k x1 x2 x3 x11 x13 x14 x16 x335000 x355000 x355001 x355002 x355003 x359000 x375000 x375001 x375002 x375003) else (some false)))
def laws_FnExactTaskEffect.j5:Nat→Int→List Int→List Int→Bool→List Int→List Int→Bool→List (S71)→List Int→List Int→Int→Int→List (S64)→List Int→List Int→Int→Int→Option (Bool)
 |0,_,_,_,_,_,_,_,_,_,_,_,_,_,_,_,_,_=>none
 |k+1,x1,x2,x3,x11,x13,x14,x16,x335000,x355000,x355001,x355002,x355003,x359000,x375000,x375001,x375002,x375003=>(laws_toIntS.f k x2).bind fun t380=>((laws_eqIntS.f k x13 t380).bind fun t383=>(if t383=true then (laws_FnExactTaskEffect.j6 k x1 x2 x3 x11 x13 x14 x16 x335000 x355000 x355001 x355002 x355003 x359000 x375000 x375001 x375002 x375003) else (some false)))
def laws_FnExactTaskEffect.j6:Nat→Int→List Int→List Int→Bool→List Int→List Int→Bool→List (S71)→List Int→List Int→Int→Int→List (S64)→List Int→List Int→Int→Int→Option (Bool)
 |0,_,_,_,_,_,_,_,_,_,_,_,_,_,_,_,_,_=>none
 |k+1,x1,x2,x3,x11,x13,x14,x16,x335000,x355000,x355001,x355002,x355003,x359000,x375000,x375001,x375002,x375003=>(laws_toIntS.f k x3).bind fun t384=>((laws_eqIntS.f k x14 t384).bind fun t387=>(if t387=true then (laws_FnExactTaskEffect.j7 k x1 x2 x3 x11 x13 x14 x16 x335000 x355000 x355001 x355002 x355003 x359000 x375000 x375001 x375002 x375003) else (some false)))
def laws_FnExactTaskEffect.j7:Nat→Int→List Int→List Int→Bool→List Int→List Int→Bool→List (S71)→List Int→List Int→Int→Int→List (S64)→List Int→List Int→Int→Int→Option (Bool)
 |0,_,_,_,_,_,_,_,_,_,_,_,_,_,_,_,_,_=>none
 |k+1,x1,x2,x3,x11,x13,x14,x16,x335000,x355000,x355001,x355002,x355003,x359000,x375000,x375001,x375002,x375003=>(laws_markProgram.f x359000 1).bind fun t388=>((laws_markIntS.f k x13 t388).bind fun bt389=>((laws_markIntS.f k x14 bt389.1).bind fun bt391=>(if bt391.1<0 then (laws_FnExactTaskEffect.j8 k x1 x2 x3 x11 true x335000 x355000 x355001 x355002 x355003 x375000 x375001 x375002 x375003) else ((laws_eqEffect.f k x375000 x375001 x375002 x375003 x355000 x355001 x355002 x355003).bind fun t393=>(if t393=true then (laws_FnExactTaskEffect.j8 k x1 x2 x3 x11 (x16 != x11) x335000 x355000 x355001 x355002 x355003 x375000 x375001 x375002 x375003) else (laws_FnExactTaskEffect.j8 k x1 x2 x3 x11 true x335000 x355000 x355001 x355002 x355003 x375000 x375001 x375002 x375003))))))
def laws_FnExactTaskEffect.j8:Nat→Int→List Int→List Int→Bool→Bool→List (S71)→List Int→List Int→Int→Int→List Int→List Int→Int→Int→Option (Bool)
 |0,_,_,_,_,_,_,_,_,_,_,_,_,_,_=>none
 |k+1,x1,x2,x3,x11,x103,x335000,x355000,x355001,x355002,x355003,x375000,x375001,x375002,x375003=>if x103=true then (some false) else (laws_FnExactTaskEffect.j9 k x1 x2 x3 x11 x335000 x355000 x355001 x355002 x355003 x375000 x375001 x375002 x375003)
def laws_FnExactTaskEffect.j9:Nat→Int→List Int→List Int→Bool→List (S71)→List Int→List Int→Int→Int→List Int→List Int→Int→Int→Option (Bool)
 |0,_,_,_,_,_,_,_,_,_,_,_,_,_=>none
 |k+1,x1,x2,x3,x11,x335000,x355000,x355001,x355002,x355003,x375000,x375001,x375002,x375003=>(laws_markEffect.f k x375000 x375001 x375002 x375003 1).bind fun bt394=>((laws_heldEffect.f k bt394.2.1 bt394.2.2 x375002 x375003 1).bind fun t397=>(if t397<0 then (some false) else (laws_FnExactTaskEffect.j10 k x1 x2 x3 x11 bt394.1 t397 x335000 x355000 x355001 x355002 x355003 bt394.2.1 bt394.2.2 x375002 x375003)))
def laws_FnExactTaskEffect.j10:Nat→Int→List Int→List Int→Bool→Int→Int→List (S71)→List Int→List Int→Int→Int→List Int→List Int→Int→Int→Option (Bool)
 |0,_,_,_,_,_,_,_,_,_,_,_,_,_,_,_=>none
 |k+1,x1,x2,x3,x11,x18,x19,x335000,x355000,x355001,x355002,x355003,x375000,x375001,x375002,x375003=>if x19=x18 then (laws_FnExactTaskEffect.j11 k x1 x2 x3 x11 x18 x335000 x355000 x355001 x355002 x355003 x375000 x375001 x375002 x375003) else (some false)
def laws_FnExactTaskEffect.j11:Nat→Int→List Int→List Int→Bool→Int→List (S71)→List Int→List Int→Int→Int→List Int→List Int→Int→Int→Option (Bool)
 |0,_,_,_,_,_,_,_,_,_,_,_,_,_,_=>none
 |k+1,x1,x2,x3,x11,x18,x335000,x355000,x355001,x355002,x355003,x375000,x375001,x375002,x375003=>(laws_toProgram.f k x335000).bind fun t398=>((laws_toIntS.f k x2).bind fun t401=>((laws_toIntS.f k x3).bind fun t404=>((impl_TaskEffect.f k t398 x1 t401 t404).bind fun bt407=>((laws_eqEffect.f k bt407.1 bt407.2.1 bt407.2.2.1 bt407.2.2.2.1 x355000 x355001 x355002 x355003).bind fun t417=>(if t417=true then (laws_FnExactTaskEffect.j12 k x18 (bt407.2.2.2.2 != x11) x375000 x375001 x375002 x375003) else (laws_FnExactTaskEffect.j12 k x18 true x375000 x375001 x375002 x375003))))))
def laws_FnExactTaskEffect.j12:Nat→Int→Bool→List Int→List Int→Int→Int→Option (Bool)
 |0,_,_,_,_,_,_=>none
 |k+1,x18,x134,x375000,x375001,x375002,x375003=>if x134=true then (some false) else (laws_FnExactTaskEffect.j13 k x18 x375000 x375001 x375002 x375003)
def laws_FnExactTaskEffect.j13:Nat→Int→List Int→List Int→Int→Int→Option (Bool)
 |0,_,_,_,_,_=>none
 |k+1,x18,x375000,x375001,x375002,x375003=>(laws_heldEffect.f k x375000 x375001 x375002 x375003 1).bind fun t418=>(if t418<0 then (some false) else (if t418=x18 then (some true) else (some false)))
end
def laws_FnExactTaskEffect.f (k:Nat) (l0_0:List (S71)) (a1:Int) (l2:List Int) (l3:List Int):Option (Bool):=if (l2.length:Int) > 1048576 then (some true) else (laws_FnExactTaskEffect.j0 k a1 l2 l3 l0_0)
set_option maxHeartbeats 8000000 in
set_option maxRecDepth 100000 in
theorem laws_FnExactTaskEffect.calls (k:Nat) (A0_0:Option Addr) (c0_0:Nat) (l0_0:List (S71)) (a1:Int) (A2:Option Addr) (c2:Nat) (l2:List Int) (A3:Option Addr) (c3:Nat) (l3:List Int) (r:Bool) (w:World) (hr0_0:Kd.C k71 w A0_0 l0_0.length l0_0) (hc0_0:l0_0.length≤c0_0) (hr2:Kd.C (Kd.int .i64) w A2 l2.length l2) (hc2:l2.length≤c2) (hr3:Kd.C (Kd.int .i64) w A3 l3.length l3) (hc3:l3.length≤c3) (h:laws_FnExactTaskEffect.f k l0_0 a1 l2 l3=some r) (hT:Aside0 (r=true)):
  Calls Try.prog 3 #[.agg #[.slice A0_0 l0_0.length c0_0],.int .i64 a1,.slice A2 l2.length c2,.slice A3 l3.length c3] w fun e w'=>e= .returned (.bool r)∧Below w.heap.size w w':=by
 have hu24:=Try.underlying24
 have hu28:=Try.underlying28
 have hu33:=Try.underlying33
 have HR0_0:=Za hr0_0
 have HC0_0:=Za hc0_0
 clear hr0_0 hc0_0
 have HR2:=Za hr2
 have HC2:=Za hc2
 clear hr2 hc2
 have HR3:=Za hr3
 have HC3:=Za hc3
 clear hr3 hc3
 have HB:=Za (Yh w.heap.size w)
 have H:(if (l2.length:Int) > 1048576 then (some true) else (laws_FnExactTaskEffect.j0 k a1 l2 l3 l0_0))=some r:=h
 clear h
 have HC5:=Za H
 clear H
 go_enter Try.func3,Try.ntmps3
 go_upto_if 24 with(first|((with_reducible refine Zp (N:=4) rfl ?_);refine Zt ?hg (N:=4) ?hd (cs:= #[.slice A0_0 l0_0.length c0_0]) (t:=24) ?hr ?_;(case hd=>rfl);(case hg=>rfl);(case hr=>exact z12_38);intro gb334 hg w6 hbox hb;have BK334:=Za (hbox);have GW334:=Za ((by rw[hg];exact(Zy z12_39):w.heap.size≤gb334));have GE334:=Za ((by rw[hg];exact(Zy z12_39):w.heap.size≤gb334));replace HB:=Za (Zj z12_39 hb);clear hb hbox hg))
 (try simp only[Act.put,Zq,Zr,Zs])
 go_cut [] (fun wc=>∃(kq:Nat),Aside0 (laws_FnExactTaskEffect.j0 kq a1 l2 l3 l0_0=some r)∧Aside0 (kq≤k)∧Aside0 (wc.heap[gb334]? =some (.cells #[(.slice A0_0 l0_0.length c0_0)] 24 (0,0)))∧Aside0 (Below w.heap.size w wc))
 case first=>
  have H:=HC5.out
  clear HC5
  by_cases c7:(l2.length:Int) > 1048576
  ·rw[if_pos c7] at H
   have c7b0:decide (1048576<(l2.length:Int))=true:=Zx c7
   have c7b1:decide (1048576<l2.length)=true:=Zx (by omega)
   clear c7
   (first|rw[c7b0]|(simp only[i64_w,i32_w];rw[c7b0])|skip)
   obtain rfl:=Zk H
   go_wp2
   go_ret
   exact⟨by first|rfl|(simp[errW_none,errW_some]<;>rfl)|(simp[*,errW_none,errW_some]<;>rfl)|(simp[*,errW_none,errW_some,i64_w];done),by repeat(first|(with_reducible first|exact HB.out|apply Zh|apply Zf|apply Ze|refine Zd ?_ GE334.out)|exact HB.out)⟩
  ·rw[if_neg c7] at H
   have c7b0:decide (1048576<(l2.length:Int))=false:=Yi c7
   have c7b1:decide (1048576<l2.length)=false:=Yi (by omega)
   clear c7
   (first|rw[c7b0]|(simp only[i64_w,i32_w];rw[c7b0])|skip)
   have H':=Za H
   clear H
   go_wp2
   go_meet
   case rel=>exact⟨_,H',⟨by first|omega|exact Nat.le_refl _⟩,⟨by(with_reducible repeat(first|refine blk_drewN ?_ _|refine blk_drew ?_|refine blk_alloc ?_ _));exact BK334.out⟩,⟨by repeat(first|(with_reducible first|exact HB.out|apply Zh|apply Zf|apply Ze|refine Zd ?_ GE334.out)|exact HB.out)⟩⟩
 case rest=>
  clear HC5
  (try clear c2);(try clear c3)
  obtain⟨kq,HA,HJ4,BK334,HB⟩:=hcut
  cases kq with
  |zero=>exact absurd HA.out (by simp[laws_FnExactTaskEffect.j0])
  |succ kj4=>
   have H:=HA.out
   clear HA
   simp only[laws_FnExactTaskEffect.j0] at H
   have HC8:=Za H
   clear H
   go_upto_if 27 with(fail)
   go_cut [] (fun wc=>∃(kq:Nat),Aside0 (laws_FnExactTaskEffect.j1 kq a1 l2 l3 l0_0=some r)∧Aside0 (kq≤kj4)∧Aside0 (wc.heap[gb334]? =some (.cells #[(.slice A0_0 l0_0.length c0_0)] 24 (0,0)))∧Aside0 (Below w.heap.size w wc))
   case first=>
    have H:=HC8.out
    clear HC8
    by_cases c9:(l3.length:Int) > 1048576
    ·rw[if_pos c9] at H
     have c9b0:decide (1048576<(l3.length:Int))=true:=Zx c9
     have c9b1:decide (1048576<l3.length)=true:=Zx (by omega)
     clear c9
     (first|rw[c9b0]|(simp only[i64_w,i32_w];rw[c9b0])|skip)
     obtain rfl:=Zk H
     go_wp2
     go_ret
     exact⟨by first|rfl|(simp[errW_none,errW_some]<;>rfl)|(simp[*,errW_none,errW_some]<;>rfl)|(simp[*,errW_none,errW_some,i64_w];done),by repeat(first|(with_reducible first|exact HB.out|apply Zh|apply Zf|apply Ze|refine Zd ?_ GE334.out)|exact HB.out)⟩
    ·rw[if_neg c9] at H
     have c9b0:decide (1048576<(l3.length:Int))=false:=Yi c9
     have c9b1:decide (1048576<l3.length)=false:=Yi (by omega)
     clear c9
     (first|rw[c9b0]|(simp only[i64_w,i32_w];rw[c9b0])|skip)
     have H':=Za H
     clear H
     go_wp2
     go_meet
     case rel=>exact⟨_,H',⟨by have:=HJ4.out;first|omega|exact Nat.le_refl _⟩,⟨by(with_reducible repeat(first|refine blk_drewN ?_ _|refine blk_drew ?_|refine blk_alloc ?_ _));exact BK334.out⟩,⟨by repeat(first|(with_reducible first|exact HB.out|apply Zh|apply Zf|apply Ze|refine Zd ?_ GE334.out)|exact HB.out)⟩⟩
   case rest=>
    clear HC8
    (try clear c2);(try clear c3)
    obtain⟨kq,HA,HJ7,BK334,HB⟩:=hcut
    cases kq with
    |zero=>exact absurd HA.out (by simp[laws_FnExactTaskEffect.j1])
    |succ kj7=>
     have H:=HA.out
     clear HA
     simp only[laws_FnExactTaskEffect.j1] at H
     replace H:=Zl H
     obtain⟨t335,A100,H⟩:=H
     replace H:(if t335<0 then (some true) else (laws_FnExactTaskEffect.j2 kj7 a1 l2 l3 l0_0))=some r:=H
     have A10:=Za A100
     clear A100
     have HC11:=Za H
     clear H
     have hcz12_0:wc.cell? ⟨gb334,0,none⟩=some (.slice A0_0 l0_0.length c0_0):=(Zb BK334.out 0).trans rfl
     have hfz12_0:=Zc BK334.out 0
     go_upto_if 32 with(first|((first|((with_reducible refine gate_callee (f:=5) rfl ?_);refine goesL_ (some 30) rfl rfl Try.func5 z12_36 rfl #[.agg #[.slice A0_0 l0_0.length c0_0],.int .i64 1048576] rfl z12_1 ?_;(with_reducible refine(laws_szProgram.calls kj7 _ _ l0_0 1048576 t335 _ ?side1 ?side2 A10.out).mono ?_))|(go_at_call 5;(with_reducible refine(laws_szProgram.calls kj7 _ _ l0_0 1048576 t335 _ ?side1 ?side2 A10.out).mono ?_)));(case side1=>exact z12_24);(case side2=>exact HC0_0.out);rintro e w13 ⟨rfl,hb⟩;(first|refine⟨_,rfl,?_⟩|skip);replace BK334:=Za (Zg (g:=gb334) (o:= .cells #[.slice A0_0 l0_0.length c0_0] 24 (0,0)) z12_0 hb);replace HB:=Za (Zj z12_11 hb);(try clear hb);(try clear hb2);(try clear hk);(try clear hi)))
     (try simp only[Act.put,Zq,Zr,Zs])
     go_cut [] (fun wc=>∃(kq:Nat),Aside0 (laws_FnExactTaskEffect.j2 kq a1 l2 l3 l0_0=some r)∧Aside0 (kq≤kj7)∧Aside0 (wc.heap[gb334]? =some (.cells #[(.slice A0_0 l0_0.length c0_0)] 24 (0,0)))∧Aside0 (Below w.heap.size w wc))
     case first=>
      have H:=HC11.out
      clear HC11
      by_cases c14:t335<0
      ·rw[if_pos c14] at H
       have c14b0:decide (t335<0)=true:=Zx c14
       clear c14
       (first|rw[c14b0]|(simp only[i64_w,i32_w];rw[c14b0])|skip)
       obtain rfl:=Zk H
       go_wp2
       go_ret
       exact⟨by first|rfl|(simp[errW_none,errW_some]<;>rfl)|(simp[*,errW_none,errW_some]<;>rfl)|(simp[*,errW_none,errW_some,i64_w];done),by repeat(first|(with_reducible first|exact HB.out|apply Zh|apply Zf|apply Ze|refine Zd ?_ GE334.out)|exact HB.out)⟩
      ·rw[if_neg c14] at H
       have c14b0:decide (t335<0)=false:=Yi c14
       clear c14
       (first|rw[c14b0]|(simp only[i64_w,i32_w];rw[c14b0])|skip)
       have H':=Za H
       clear H
       go_wp2
       go_meet
       case rel=>exact⟨_,H',⟨by have:=HJ4.out;have:=HJ7.out;first|omega|exact Nat.le_refl _⟩,⟨by(with_reducible repeat(first|refine blk_drewN ?_ _|refine blk_drew ?_|refine blk_alloc ?_ _));exact BK334.out⟩,⟨by repeat(first|(with_reducible first|exact HB.out|apply Zh|apply Zf|apply Ze|refine Zd ?_ GE334.out)|exact HB.out)⟩⟩
     case rest=>
      clear HC11
      (try clear c2);(try clear c3);(try clear hcz12_0);(try clear hfz12_0)
      obtain⟨kq,HA,HJ10,BK334,HB⟩:=hcut
      cases kq with
      |zero=>exact absurd HA.out (by simp[laws_FnExactTaskEffect.j2])
      |succ kj10=>
       have H:=HA.out
       clear HA
       simp only[laws_FnExactTaskEffect.j2] at H
       replace H:=Zl H
       obtain⟨t336,A150,H⟩:=H
       replace H:((laws_toIntS.f kj10 l2).bind fun t339=>((laws_toIntS.f kj10 l3).bind fun t342=>((spec_TaskEffect.f kj10 t336 a1 t339 t342).bind fun bt345=>((laws_toProgram.f kj10 l0_0).bind fun t355=>((laws_toIntS.f kj10 l2).bind fun t359=>((laws_toIntS.f kj10 l3).bind fun t362=>((impl_TaskEffect.f kj10 t355 a1 t359 t362).bind fun bt365=>((laws_eqEffect.f kj10 bt365.1 bt365.2.1 bt365.2.2.1 bt365.2.2.2.1 bt345.1 bt345.2.1 bt345.2.2.1 bt345.2.2.2.1).bind fun t375=>(if t375=true then (laws_FnExactTaskEffect.j3 kj10 a1 l2 l3 bt345.2.2.2.2 t359 t362 bt365.2.2.2.2 (bt365.2.2.2.2 != bt345.2.2.2.2) l0_0 bt345.1 bt345.2.1 bt345.2.2.1 bt345.2.2.2.1 t355 bt365.1 bt365.2.1 bt365.2.2.1 bt365.2.2.2.1) else (laws_FnExactTaskEffect.j3 kj10 a1 l2 l3 bt345.2.2.2.2 t359 t362 bt365.2.2.2.2 true l0_0 bt345.1 bt345.2.1 bt345.2.2.1 bt345.2.2.2.1 t355 bt365.1 bt365.2.1 bt365.2.2.1 bt365.2.2.2.1))))))))))=some r:=H
       have A15:=Za A150
       clear A150
       replace H:=Zl H
       obtain⟨t339,A160,H⟩:=H
       replace H:((laws_toIntS.f kj10 l3).bind fun t342=>((spec_TaskEffect.f kj10 t336 a1 t339 t342).bind fun bt345=>((laws_toProgram.f kj10 l0_0).bind fun t355=>((laws_toIntS.f kj10 l2).bind fun t359=>((laws_toIntS.f kj10 l3).bind fun t362=>((impl_TaskEffect.f kj10 t355 a1 t359 t362).bind fun bt365=>((laws_eqEffect.f kj10 bt365.1 bt365.2.1 bt365.2.2.1 bt365.2.2.2.1 bt345.1 bt345.2.1 bt345.2.2.1 bt345.2.2.2.1).bind fun t375=>(if t375=true then (laws_FnExactTaskEffect.j3 kj10 a1 l2 l3 bt345.2.2.2.2 t359 t362 bt365.2.2.2.2 (bt365.2.2.2.2 != bt345.2.2.2.2) l0_0 bt345.1 bt345.2.1 bt345.2.2.1 bt345.2.2.2.1 t355 bt365.1 bt365.2.1 bt365.2.2.1 bt365.2.2.2.1) else (laws_FnExactTaskEffect.j3 kj10 a1 l2 l3 bt345.2.2.2.2 t359 t362 bt365.2.2.2.2 true l0_0 bt345.1 bt345.2.1 bt345.2.2.1 bt345.2.2.2.1 t355 bt365.1 bt365.2.1 bt365.2.2.1 bt365.2.2.2.1)))))))))=some r:=H
       have A16:=Za A160
       clear A160
       replace H:=Zl H
       obtain⟨t342,A170,H⟩:=H
       replace H:((spec_TaskEffect.f kj10 t336 a1 t339 t342).bind fun bt345=>((laws_toProgram.f kj10 l0_0).bind fun t355=>((laws_toIntS.f kj10 l2).bind fun t359=>((laws_toIntS.f kj10 l3).bind fun t362=>((impl_TaskEffect.f kj10 t355 a1 t359 t362).bind fun bt365=>((laws_eqEffect.f kj10 bt365.1 bt365.2.1 bt365.2.2.1 bt365.2.2.2.1 bt345.1 bt345.2.1 bt345.2.2.1 bt345.2.2.2.1).bind fun t375=>(if t375=true then (laws_FnExactTaskEffect.j3 kj10 a1 l2 l3 bt345.2.2.2.2 t359 t362 bt365.2.2.2.2 (bt365.2.2.2.2 != bt345.2.2.2.2) l0_0 bt345.1 bt345.2.1 bt345.2.2.1 bt345.2.2.2.1 t355 bt365.1 bt365.2.1 bt365.2.2.1 bt365.2.2.2.1) else (laws_FnExactTaskEffect.j3 kj10 a1 l2 l3 bt345.2.2.2.2 t359 t362 bt365.2.2.2.2 true l0_0 bt345.1 bt345.2.1 bt345.2.2.1 bt345.2.2.2.1 t355 bt365.1 bt365.2.1 bt365.2.2.1 bt365.2.2.2.1))))))))=some r:=H
       have A17:=Za A170
       clear A170
       replace H:=Zl H
       obtain⟨⟨t345,t348,t351,t352,t353⟩,A180,H⟩:=H
       replace H:((laws_toProgram.f kj10 l0_0).bind fun t355=>((laws_toIntS.f kj10 l2).bind fun t359=>((laws_toIntS.f kj10 l3).bind fun t362=>((impl_TaskEffect.f kj10 t355 a1 t359 t362).bind fun bt365=>((laws_eqEffect.f kj10 bt365.1 bt365.2.1 bt365.2.2.1 bt365.2.2.2.1 t345 t348 t351 t352).bind fun t375=>(if t375=true then (laws_FnExactTaskEffect.j3 kj10 a1 l2 l3 t353 t359 t362 bt365.2.2.2.2 (bt365.2.2.2.2 != t353) l0_0 t345 t348 t351 t352 t355 bt365.1 bt365.2.1 bt365.2.2.1 bt365.2.2.2.1) else (laws_FnExactTaskEffect.j3 kj10 a1 l2 l3 t353 t359 t362 bt365.2.2.2.2 true l0_0 t345 t348 t351 t352 t355 bt365.1 bt365.2.1 bt365.2.2.1 bt365.2.2.2.1)))))))=some r:=H
       have A18:=Za A180
       clear A180
       replace H:=Zl H
       obtain⟨t355,A190,H⟩:=H
       replace H:((laws_toIntS.f kj10 l2).bind fun t359=>((laws_toIntS.f kj10 l3).bind fun t362=>((impl_TaskEffect.f kj10 t355 a1 t359 t362).bind fun bt365=>((laws_eqEffect.f kj10 bt365.1 bt365.2.1 bt365.2.2.1 bt365.2.2.2.1 t345 t348 t351 t352).bind fun t375=>(if t375=true then (laws_FnExactTaskEffect.j3 kj10 a1 l2 l3 t353 t359 t362 bt365.2.2.2.2 (bt365.2.2.2.2 != t353) l0_0 t345 t348 t351 t352 t355 bt365.1 bt365.2.1 bt365.2.2.1 bt365.2.2.2.1) else (laws_FnExactTaskEffect.j3 kj10 a1 l2 l3 t353 t359 t362 bt365.2.2.2.2 true l0_0 t345 t348 t351 t352 t355 bt365.1 bt365.2.1 bt365.2.2.1 bt365.2.2.2.1))))))=some r:=H
       have A19:=Za A190
       clear A190
       replace H:=Zl H
       obtain⟨t359,A200,H⟩:=H
       replace H:((laws_toIntS.f kj10 l3).bind fun t362=>((impl_TaskEffect.f kj10 t355 a1 t359 t362).bind fun bt365=>((laws_eqEffect.f kj10 bt365.1 bt365.2.1 bt365.2.2.1 bt365.2.2.2.1 t345 t348 t351 t352).bind fun t375=>(if t375=true then (laws_FnExactTaskEffect.j3 kj10 a1 l2 l3 t353 t359 t362 bt365.2.2.2.2 (bt365.2.2.2.2 != t353) l0_0 t345 t348 t351 t352 t355 bt365.1 bt365.2.1 bt365.2.2.1 bt365.2.2.2.1) else (laws_FnExactTaskEffect.j3 kj10 a1 l2 l3 t353 t359 t362 bt365.2.2.2.2 true l0_0 t345 t348 t351 t352 t355 bt365.1 bt365.2.1 bt365.2.2.1 bt365.2.2.2.1)))))=some r:=H
       have A20:=Za A200
       clear A200
       replace H:=Zl H
       obtain⟨t362,A210,H⟩:=H
       replace H:((impl_TaskEffect.f kj10 t355 a1 t359 t362).bind fun bt365=>((laws_eqEffect.f kj10 bt365.1 bt365.2.1 bt365.2.2.1 bt365.2.2.2.1 t345 t348 t351 t352).bind fun t375=>(if t375=true then (laws_FnExactTaskEffect.j3 kj10 a1 l2 l3 t353 t359 t362 bt365.2.2.2.2 (bt365.2.2.2.2 != t353) l0_0 t345 t348 t351 t352 t355 bt365.1 bt365.2.1 bt365.2.2.1 bt365.2.2.2.1) else (laws_FnExactTaskEffect.j3 kj10 a1 l2 l3 t353 t359 t362 bt365.2.2.2.2 true l0_0 t345 t348 t351 t352 t355 bt365.1 bt365.2.1 bt365.2.2.1 bt365.2.2.2.1))))=some r:=H
       have A21:=Za A210
       clear A210
       replace H:=Zl H
       obtain⟨⟨t365,t368,t371,t372,t373⟩,A220,H⟩:=H
       replace H:((laws_eqEffect.f kj10 t365 t368 t371 t372 t345 t348 t351 t352).bind fun t375=>(if t375=true then (laws_FnExactTaskEffect.j3 kj10 a1 l2 l3 t353 t359 t362 t373 (t373 != t353) l0_0 t345 t348 t351 t352 t355 t365 t368 t371 t372) else (laws_FnExactTaskEffect.j3 kj10 a1 l2 l3 t353 t359 t362 t373 true l0_0 t345 t348 t351 t352 t355 t365 t368 t371 t372)))=some r:=H
       have A22:=Za A220
       clear A220
       have HC23:=Za H
       clear H
       have hcz24_0:wc.cell? ⟨gb334,0,none⟩=some (.slice A0_0 l0_0.length c0_0):=(Zb BK334.out 0).trans rfl
       have hfz24_0:=Zc BK334.out 0
       go_upto_region 14 with(first|((first|((with_reducible refine gate_callee (f:=7) rfl ?_);refine goesL_ (some 35) rfl rfl Try.func7 z12_36 rfl #[.agg #[.slice A0_0 l0_0.length c0_0]] rfl z12_1 ?_;(with_reducible refine(laws_toProgram.calls kj10 _ _ l0_0 t336 _ ?side1 ?side2 A15.out).mono ?_))|(go_at_call 7;(with_reducible refine(laws_toProgram.calls kj10 _ _ l0_0 t336 _ ?side1 ?side2 A15.out).mono ?_)));(case side1=>exact z12_24);(case side2=>exact HC0_0.out);rintro e w25 ⟨v337,rfl,ho0,hb⟩;(first|refine⟨_,rfl,?_⟩|skip);have HO338:=Za (Kd.S_lower ho0 (Zy z12_11));replace BK334:=Za (Zg (g:=gb334) (o:= .cells #[.slice A0_0 l0_0.length c0_0] 24 (0,0)) z12_0 hb);replace HB:=Za (Zj z12_11 hb);(try clear hb);(try clear hb2);(try clear hk);(try clear hi);(try clear ho0))|((first|((with_reducible refine gate_callee (f:=8) rfl ?_);refine goesL_ (some 38) rfl rfl Try.func8 z12_36 rfl #[.slice A2 l2.length c2] rfl z12_1 ?_;(with_reducible refine(laws_toIntS.calls kj10 _ _ l2 t339 _ ?side1 ?side2 A16.out).mono ?_))|(go_at_call 8;(with_reducible refine(laws_toIntS.calls kj10 _ _ l2 t339 _ ?side1 ?side2 A16.out).mono ?_)));(case side1=>exact z12_35);(case side2=>exact HC2.out);rintro e w26 ⟨v340,rfl,ho0,hb⟩;(first|refine⟨_,rfl,?_⟩|skip);replace HO338:=Za (Kd.S_below z12_15 hb);have HO341:=Za (Kd.R_lower ho0 (Zy z12_11));replace BK334:=Za (Zg (g:=gb334) (o:= .cells #[.slice A0_0 l0_0.length c0_0] 24 (0,0)) z12_0 hb);replace HB:=Za (Zj z12_11 hb);(try clear hb);(try clear hb2);(try clear hk);(try clear hi);(try clear ho0))|((first|((with_reducible refine gate_callee (f:=8) rfl ?_);refine goesL_ (some 40) rfl rfl Try.func8 z12_36 rfl #[.slice A3 l3.length c3] rfl z12_1 ?_;(with_reducible refine(laws_toIntS.calls kj10 _ _ l3 t342 _ ?side1 ?side2 A17.out).mono ?_))|(go_at_call 8;(with_reducible refine(laws_toIntS.calls kj10 _ _ l3 t342 _ ?side1 ?side2 A17.out).mono ?_)));(case side1=>exact z12_29);(case side2=>exact HC3.out);rintro e w27 ⟨v343,rfl,ho0,hb⟩;(first|refine⟨_,rfl,?_⟩|skip);replace HO338:=Za (Kd.S_below z12_15 hb);have HO344:=Za (Kd.R_lower (Kd.R_new' ho0 (Kd.R_lt z12_13)) (Zy z12_11));replace HO341:=Za (Ym z12_13 (Yf ho0) hb);replace BK334:=Za (Zg (g:=gb334) (o:= .cells #[.slice A0_0 l0_0.length c0_0] 24 (0,0)) z12_0 hb);replace HB:=Za (Zj z12_11 hb);(try clear hb);(try clear hb2);(try clear hk);(try clear hi);(try clear ho0);obtain⟨Ao28,co28,eo28⟩:=Kd.S_slice HO338.out;subst eo28;obtain⟨Ao29,co29,eo29⟩:=Yn HO341.out;subst eo29;obtain⟨Ao30,co30,eo30⟩:=Yn HO344.out;subst eo30)|((first|((with_reducible refine gate_callee (f:=6) rfl ?_);refine goesL_ (some 41) rfl rfl Try.func6 z12_36 rfl #[.agg #[.slice Ao28 t336.length co28],.int .i64 a1,.slice Ao29 t339.length co29,.slice Ao30 t342.length co30] rfl z12_1 ?_;(with_reducible refine(spec_TaskEffect.calls kj10 _ _ t336 a1 _ _ t339 _ _ t342 t345 t348 t351 t352 t353 _ ?side1 ?side2 ?side3 ?side4 ?side5 ?side6 A18.out).mono ?_))|(go_at_call 6;(with_reducible refine(spec_TaskEffect.calls kj10 _ _ t336 a1 _ _ t339 _ _ t342 t345 t348 t351 t352 t353 _ ?side1 ?side2 ?side3 ?side4 ?side5 ?side6 A18.out).mono ?_)));(case side1=>repeat(first|exact(Kd.S_reads' HO338.out).2.2|(with_reducible refine Yc ?_ _)|(with_reducible refine Yd ?_ _)|(with_reducible refine Ye ?_)));(case side2=>exact(Kd.S_reads' HO338.out).2.1);(case side3=>repeat(first|exact(Yb HO341.out).2.2|(with_reducible refine Yc ?_ _)|(with_reducible refine Yd ?_ _)|(with_reducible refine Ye ?_)));(case side4=>exact(Yb HO341.out).2.1);(case side5=>repeat(first|exact(Yb HO344.out).2.2|(with_reducible refine Yc ?_ _)|(with_reducible refine Yd ?_ _)|(with_reducible refine Ye ?_)));(case side6=>exact(Yb HO344.out).2.1);rintro e w31 ⟨v346,v349,rfl,ho0,ho1,hb⟩;(first|refine⟨_,rfl,?_⟩|skip);replace HO338:=Za (Kd.S_below z12_15 hb);have HO347:=Za (Kd.R_lower (Kd.R_new' (Kd.R_new' ho0 (Kd.R_lt z12_13)) (Kd.R_lt z12_14)) (Zy z12_11));have HO350:=Za (Kd.R_lower (Kd.R_new' (Kd.R_new' ho1 (Kd.R_lt z12_13)) (Kd.R_lt z12_14)) (Zy z12_11));replace HO341:=Za (Zw (Kd.R_told (Kd.R_told (Kd.R_old z12_13 hb) (Yf ho0)) (Yf ho1)) (fun _ h_=>h_.1));replace HO344:=Za (Zw (Kd.R_told (Kd.R_told (Kd.R_old z12_14 hb) (Yf ho0)) (Yf ho1)) (fun _ h_=>h_.1));replace BK334:=Za (Zg (g:=gb334) (o:= .cells #[.slice A0_0 l0_0.length c0_0] 24 (0,0)) z12_0 hb);replace HB:=Za (Zj z12_11 hb);(try clear hb);(try clear hb2);(try clear hk);(try clear hi);(try clear ho0);(try clear ho1))|((with_reducible refine Zp (N:=10) rfl ?_);refine Zt ?hg (N:=10) ?hd (cs:= #[.slice none 0 0,.slice none 0 0,.int .i64 0,.int .i64 0]) (t:=28) ?hr ?_;(case hd=>rfl);(case hg=>rfl);(case hr=>exact z12_38);intro gb354 hg w32 hbox hb;replace HO338:=Za (Kd.S_below z12_15 hb);replace HO341:=Za (Kd.R_below z12_13 hb);replace HO344:=Za (Kd.R_below z12_14 hb);replace HO347:=Za (Kd.R_below z12_17 hb);replace HO350:=Za (Kd.R_below z12_16 hb);have BK354:=Za (hbox);have GW354:=Za ((by rw[hg];exact(Zy z12_11):w.heap.size≤gb354));have GE354:=Za ((by rw[hg];exact(Zy z12_11):w.heap.size≤gb354));replace HB:=Za (Zj z12_11 hb);have NB334_354:=Za ((z12_44:gb334≠gb354));have NB354_334:=Za ((z12_45:gb354≠gb334));replace BK334:=Za (Zg (g:=gb334) (o:= .cells #[.slice A0_0 l0_0.length c0_0] 24 (0,0)) z12_0 hb);clear hb hbox hg;obtain⟨Ao33,co33,eo33⟩:=Yn HO347.out;subst eo33;have hnb34:=NB354_334.out;have hnc34:=NB334_354.out;have hcz35_0:w32.cell? ⟨gb354,0,none⟩=some (.slice none 0 0):=(Zb BK354.out 0).trans rfl;have hcz35_1:w32.cell? ⟨gb354,1,none⟩=some (.slice none 0 0):=(Zb BK354.out 1).trans rfl;have hcz35_2:w32.cell? ⟨gb354,2,none⟩=some (.int .i64 0):=(Zb BK354.out 2).trans rfl;have hcz35_3:w32.cell? ⟨gb354,3,none⟩=some (.int .i64 0):=(Zb BK354.out 3).trans rfl;have hfz35_0:=Zc BK354.out 0;have hfz35_1:=Zc BK354.out 1;have hfz35_2:=Zc BK354.out 2;have hfz35_3:=Zc BK354.out 3;obtain⟨Ao36,co36,eo36⟩:=Yn HO350.out;subst eo36)|((with_reducible refine Yk (t:=28) (p:=10) rfl ?_);refine Yj (t:=28) (p:=10) (v:= ?vo_w37) (w1:=((((w32.setCell ⟨gb354,0,none⟩ (.slice Ao33 t345.length co33)).setCell ⟨gb354,1,none⟩ (.slice Ao36 t348.length co36)).setCell ⟨gb354,2,none⟩ (.int .i64 t351)).setCell ⟨gb354,3,none⟩ (.int .i64 t352))) ?hg ?ho ?hn ?hr ?_;(case ho=>rfl);(case hg=>rfl);(case hn=>rfl);(case hr=>exact z12_38);intro w37 hw;have n0_:Aside0 (Kd.S k64 64 w37 w.heap.size (fun _=>True) (.slice Ao28 t336.length co28) t336):=⟨(by rw[hw];exact(by(with_reducible repeat(first|apply Kd.S_alloc|apply Kd.S_drewN|apply Kd.S_drew));exact Kd.S_mono (Kd.S_far (p:=⟨gb354,3,none⟩) (Kd.S_far (p:=⟨gb354,2,none⟩) (Kd.S_far (p:=⟨gb354,1,none⟩) (Kd.S_far (p:=⟨gb354,0,none⟩) (Kd.S_types HO338.out BK354.out z12_37) (fun _ hk=>hk.2) (.slice Ao33 t345.length co33)) (fun _ hk=>hk.2) (.slice Ao36 t348.length co36)) (fun _ hk=>hk.2) (.int .i64 t351)) (fun _ hk=>hk.2) (.int .i64 t352)) (fun _ hk=>trivial)))⟩;have n1_:Aside0 (Kd.R (Kd.int .i64) 3 w37 w.heap.size (fun k_=>some k_≠(.slice Ao30 t342.length co30:Value).ownBlock∧some k_≠(.slice Ao33 t345.length co33:Value).ownBlock∧some k_≠(.slice Ao36 t348.length co36:Value).ownBlock) (.slice Ao29 t339.length co29) t339):=⟨(by rw[hw];exact(by(with_reducible repeat(first|apply Zn|apply Zo|apply Zm));exact Zw (Kd.R_far (p:=⟨gb354,3,none⟩) (Kd.R_far (p:=⟨gb354,2,none⟩) (Kd.R_far (p:=⟨gb354,1,none⟩) (Kd.R_far (p:=⟨gb354,0,none⟩) (Kd.R_types HO341.out BK354.out z12_37) (fun _ hk=>hk.2) (.slice Ao33 t345.length co33)) (fun _ hk=>hk.2) (.slice Ao36 t348.length co36)) (fun _ hk=>hk.2) (.int .i64 t351)) (fun _ hk=>hk.2) (.int .i64 t352)) (fun _ hk=>⟨hk.1.1.1.2,⟨hk.1.1.2,hk.1.2⟩⟩)))⟩;have n2_:Aside0 (Kd.R (Kd.int .i64) 3 w37 w.heap.size (fun k_=>some k_≠(.slice Ao29 t339.length co29:Value).ownBlock∧some k_≠(.slice Ao33 t345.length co33:Value).ownBlock∧some k_≠(.slice Ao36 t348.length co36:Value).ownBlock) (.slice Ao30 t342.length co30) t342):=⟨(by rw[hw];exact(by(with_reducible repeat(first|apply Zn|apply Zo|apply Zm));exact Zw (Kd.R_far (p:=⟨gb354,3,none⟩) (Kd.R_far (p:=⟨gb354,2,none⟩) (Kd.R_far (p:=⟨gb354,1,none⟩) (Kd.R_far (p:=⟨gb354,0,none⟩) (Kd.R_types HO344.out BK354.out z12_37) (fun _ hk=>hk.2) (.slice Ao33 t345.length co33)) (fun _ hk=>hk.2) (.slice Ao36 t348.length co36)) (fun _ hk=>hk.2) (.int .i64 t351)) (fun _ hk=>hk.2) (.int .i64 t352)) (fun _ hk=>⟨hk.1.1.1.2,⟨hk.1.1.2,hk.1.2⟩⟩)))⟩;have n3_:Aside0 (Kd.R (Kd.int .i64) 3 w37 w.heap.size (fun k_=>some k_≠(.slice Ao29 t339.length co29:Value).ownBlock∧some k_≠(.slice Ao30 t342.length co30:Value).ownBlock∧some k_≠(.slice Ao36 t348.length co36:Value).ownBlock) (.slice Ao33 t345.length co33) t345):=⟨(by rw[hw];exact(by(with_reducible repeat(first|apply Zn|apply Zo|apply Zm));exact Zw (Kd.R_far (p:=⟨gb354,3,none⟩) (Kd.R_far (p:=⟨gb354,2,none⟩) (Kd.R_far (p:=⟨gb354,1,none⟩) (Kd.R_far (p:=⟨gb354,0,none⟩) (Kd.R_types HO347.out BK354.out z12_37) (fun _ hk=>hk.2) (.slice Ao33 t345.length co33)) (fun _ hk=>hk.2) (.slice Ao36 t348.length co36)) (fun _ hk=>hk.2) (.int .i64 t351)) (fun _ hk=>hk.2) (.int .i64 t352)) (fun _ hk=>⟨hk.1.1.2,⟨hk.1.2,hk.1.1.1⟩⟩)))⟩;have n4_:Aside0 (Kd.R (Kd.int .i64) 3 w37 w.heap.size (fun k_=>some k_≠(.slice Ao29 t339.length co29:Value).ownBlock∧some k_≠(.slice Ao30 t342.length co30:Value).ownBlock∧some k_≠(.slice Ao33 t345.length co33:Value).ownBlock) (.slice Ao36 t348.length co36) t348):=⟨(by rw[hw];exact(by(with_reducible repeat(first|apply Zn|apply Zo|apply Zm));exact Zw (Kd.R_far (p:=⟨gb354,3,none⟩) (Kd.R_far (p:=⟨gb354,2,none⟩) (Kd.R_far (p:=⟨gb354,1,none⟩) (Kd.R_far (p:=⟨gb354,0,none⟩) (Kd.R_types HO350.out BK354.out z12_37) (fun _ hk=>hk.2) (.slice Ao33 t345.length co33)) (fun _ hk=>hk.2) (.slice Ao36 t348.length co36)) (fun _ hk=>hk.2) (.int .i64 t351)) (fun _ hk=>hk.2) (.int .i64 t352)) (fun _ hk=>⟨hk.1.1.2,⟨hk.1.2,hk.1.1.1⟩⟩)))⟩;have n5_:Aside0 (w37.heap[gb334]? =some (.cells #[.slice A0_0 l0_0.length c0_0] 24 (0,0))):=⟨(by rw[hw];exact(by(with_reducible repeat(first|refine blk_drewN ?_ _|refine blk_drew ?_|refine blk_alloc ?_ _));refine blk_far ?_ NB334_354.out _;(with_reducible repeat(first|refine blk_drewN ?_ _|refine blk_drew ?_|refine blk_alloc ?_ _));refine blk_far ?_ NB334_354.out _;(with_reducible repeat(first|refine blk_drewN ?_ _|refine blk_drew ?_|refine blk_alloc ?_ _));refine blk_far ?_ NB334_354.out _;(with_reducible repeat(first|refine blk_drewN ?_ _|refine blk_drew ?_|refine blk_alloc ?_ _));refine blk_far ?_ NB334_354.out _;(with_reducible repeat(first|refine blk_drewN ?_ _|refine blk_drew ?_|refine blk_alloc ?_ _));exact BK334.out))⟩;have n6_:Aside0 (w37.heap[gb354]? =some (.cells #[.slice Ao33 t345.length co33,.slice Ao36 t348.length co36,.int .i64 t351,.int .i64 t352] 28 (0,0))):=⟨(by rw[hw];exact(by(with_reducible repeat(first|refine blk_drewN ?_ _|refine blk_drew ?_|refine blk_alloc ?_ _));refine blk_put (cs:= #[.slice Ao33 t345.length co33,.slice Ao36 t348.length co36,.int .i64 t351,.int .i64 0]) ?_ 3 _ rfl;(with_reducible repeat(first|refine blk_drewN ?_ _|refine blk_drew ?_|refine blk_alloc ?_ _));refine blk_put (cs:= #[.slice Ao33 t345.length co33,.slice Ao36 t348.length co36,.int .i64 0,.int .i64 0]) ?_ 2 _ rfl;(with_reducible repeat(first|refine blk_drewN ?_ _|refine blk_drew ?_|refine blk_alloc ?_ _));refine blk_put (cs:= #[.slice Ao33 t345.length co33,.slice none 0 0,.int .i64 0,.int .i64 0]) ?_ 1 _ rfl;(with_reducible repeat(first|refine blk_drewN ?_ _|refine blk_drew ?_|refine blk_alloc ?_ _));refine blk_put (cs:= #[.slice none 0 0,.slice none 0 0,.int .i64 0,.int .i64 0]) ?_ 0 _ rfl;(with_reducible repeat(first|refine blk_drewN ?_ _|refine blk_drew ?_|refine blk_alloc ?_ _));exact BK354.out))⟩;have n7_:Aside0 (Below w.heap.size w w37):=⟨(by rw[hw];exact z12_18)⟩;clear hw;clear HO338;clear HO341;clear HO344;clear HO347;clear HO350;clear BK334;clear BK354;clear HB;have HO338:=n0_;have HO341:=n1_;have HO344:=n2_;have HO347:=n3_;have HO350:=n4_;have BK334:=n5_;have BK354:=n6_;have HB:=n7_;clear n0_ n1_ n2_ n3_ n4_ n5_ n6_ n7_;have hcz38_0:w37.cell? ⟨gb334,0,none⟩=some (.slice A0_0 l0_0.length c0_0):=(Zb BK334.out 0).trans rfl;have hfz38_0:=Zc BK334.out 0)|((first|((with_reducible refine gate_callee (f:=7) rfl ?_);refine goesL_ (some 45) rfl rfl Try.func7 z12_36 rfl #[.agg #[.slice A0_0 l0_0.length c0_0]] rfl z12_1 ?_;(with_reducible refine(laws_toProgram.calls kj10 _ _ l0_0 t355 _ ?side1 ?side2 A19.out).mono ?_))|(go_at_call 7;(with_reducible refine(laws_toProgram.calls kj10 _ _ l0_0 t355 _ ?side1 ?side2 A19.out).mono ?_)));(case side1=>exact z12_24);(case side2=>exact HC0_0.out);rintro e w39 ⟨v356,rfl,ho0,hb⟩;(first|refine⟨_,rfl,?_⟩|skip);replace HO341:=Za (Kd.R_below z12_13 hb);replace HO344:=Za (Kd.R_below z12_14 hb);replace HO347:=Za (Kd.R_below z12_17 hb);replace HO350:=Za (Kd.R_below z12_16 hb);have HO357:=Za (Kd.S_lower (Kd.S_new' ho0 (Kd.S_lt z12_15)) (Zy z12_18));replace HO338:=Za (Kd.S_elder' z12_15 (Kd.S_base ho0) hb);replace BK334:=Za (Zg (g:=gb334) (o:= .cells #[.slice A0_0 l0_0.length c0_0] 24 (0,0)) z12_0 hb);replace BK354:=Za (Zg (g:=gb354) (o:= .cells #[.slice Ao33 t345.length co33,.slice Ao36 t348.length co36,.int .i64 t351,.int .i64 t352] 28 (0,0)) z12_3 hb);replace HB:=Za (Zj z12_18 hb);(try clear hb);(try clear hb2);(try clear hk);(try clear hi);(try clear ho0))|((with_reducible refine Zp (N:=12) rfl ?_);refine Zt ?hg (N:=12) ?hd (cs:= #[.slice none 0 0]) (t:=33) ?hr ?_;(case hd=>rfl);(case hg=>rfl);(case hr=>exact z12_38);intro gb358 hg w40 hbox hb;replace HO338:=Za (Kd.S_below z12_15 hb);replace HO341:=Za (Kd.R_below z12_13 hb);replace HO344:=Za (Kd.R_below z12_14 hb);replace HO347:=Za (Kd.R_below z12_17 hb);replace HO350:=Za (Kd.R_below z12_16 hb);replace HO357:=Za (Kd.S_below z12_31 hb);have BK358:=Za (hbox);have GW358:=Za ((by rw[hg];exact(Zy z12_18):w.heap.size≤gb358));have GE358:=Za ((by rw[hg];exact(Zy z12_18):w.heap.size≤gb358));replace HB:=Za (Zj z12_18 hb);have NB334_358:=Za ((z12_44:gb334≠gb358));have NB358_334:=Za ((z12_45:gb358≠gb334));replace BK334:=Za (Zg (g:=gb334) (o:= .cells #[.slice A0_0 l0_0.length c0_0] 24 (0,0)) z12_0 hb);have NB354_358:=Za ((z12_42:gb354≠gb358));have NB358_354:=Za ((z12_43:gb358≠gb354));replace BK354:=Za (Zg (g:=gb354) (o:= .cells #[.slice Ao33 t345.length co33,.slice Ao36 t348.length co36,.int .i64 t351,.int .i64 t352] 28 (0,0)) z12_3 hb);clear hb hbox hg;obtain⟨Ao41,co41,eo41⟩:=Kd.S_slice HO357.out;subst eo41;have hnb42:=NB358_334.out;have hnc42:=NB334_358.out;have hnb43:=NB358_354.out;have hnc43:=NB354_358.out;have hcz44_0:w40.cell? ⟨gb358,0,none⟩=some (.slice none 0 0):=(Zb BK358.out 0).trans rfl;have hfz44_0:=Zc BK358.out 0)|((first|((with_reducible refine gate_callee (f:=8) rfl ?_);refine goesL_ (some 47) rfl rfl Try.func8 z12_36 rfl #[.slice A2 l2.length c2] rfl z12_1 ?_;(with_reducible refine(laws_toIntS.calls kj10 _ _ l2 t359 _ ?side1 ?side2 A20.out).mono ?_))|(go_at_call 8;(with_reducible refine(laws_toIntS.calls kj10 _ _ l2 t359 _ ?side1 ?side2 A20.out).mono ?_)));(case side1=>exact Yg HR2.out z12_6);(case side2=>exact HC2.out);rintro e w45 ⟨v360,rfl,ho0,hb⟩;(first|refine⟨_,rfl,?_⟩|skip);replace HO338:=Za (Kd.S_below (by(with_reducible repeat(first|apply Kd.S_alloc|apply Kd.S_drewN|apply Kd.S_drew));exact(Kd.S_mono (Kd.S_far (p:=⟨gb358,0,none⟩) (Kd.S_types HO338.out BK358.out z12_37) (fun _ hk=>hk.2) (.slice Ao41 t355.length co41)) (fun _ h_=>h_.1))) hb);replace HO357:=Za (Kd.S_below (by(with_reducible repeat(first|apply Kd.S_alloc|apply Kd.S_drewN|apply Kd.S_drew));exact(Kd.S_mono (Kd.S_far (p:=⟨gb358,0,none⟩) (Kd.S_types HO357.out BK358.out z12_37) (fun _ hk=>hk.2) (.slice Ao41 t355.length co41)) (fun _ h_=>h_.1))) hb);have HO361:=Za (Kd.R_lower (Kd.R_new' (Kd.R_new' (Kd.R_new' (Kd.R_new' ho0 (Kd.R_lt z12_49)) (Kd.R_lt z12_48)) (Kd.R_lt z12_47)) (Kd.R_lt z12_46)) (Zy z12_6));replace HO341:=Za (Ym z12_49 (Yf ho0) hb);replace HO344:=Za (Ym z12_48 (Yf ho0) hb);replace HO347:=Za (Ym z12_47 (Yf ho0) hb);replace HO350:=Za (Ym z12_46 (Yf ho0) hb);replace BK334:=Za (Zg (g:=gb334) (o:= .cells #[.slice A0_0 l0_0.length c0_0] 24 (0,0)) (by(with_reducible repeat(first|refine blk_drewN ?_ _|refine blk_drew ?_|refine blk_alloc ?_ _));refine blk_far ?_ NB334_358.out _;(with_reducible repeat(first|refine blk_drewN ?_ _|refine blk_drew ?_|refine blk_alloc ?_ _));exact BK334.out) hb);replace BK354:=Za (Zg (g:=gb354) (o:= .cells #[.slice Ao33 t345.length co33,.slice Ao36 t348.length co36,.int .i64 t351,.int .i64 t352] 28 (0,0)) (by(with_reducible repeat(first|refine blk_drewN ?_ _|refine blk_drew ?_|refine blk_alloc ?_ _));refine blk_far ?_ NB354_358.out _;(with_reducible repeat(first|refine blk_drewN ?_ _|refine blk_drew ?_|refine blk_alloc ?_ _));exact BK354.out) hb);replace BK358:=Za (Zg (g:=gb358) (o:= .cells #[.slice Ao41 t355.length co41] 33 (0,0)) (by(with_reducible repeat(first|refine blk_drewN ?_ _|refine blk_drew ?_|refine blk_alloc ?_ _));refine blk_put (cs:= #[.slice none 0 0]) ?_ 0 _ rfl;(with_reducible repeat(first|refine blk_drewN ?_ _|refine blk_drew ?_|refine blk_alloc ?_ _));exact BK358.out) hb);replace HB:=Za (Zj z12_6 hb);(try clear hb);(try clear hb2);(try clear hk);(try clear hi);(try clear ho0))|((first|((with_reducible refine gate_callee (f:=8) rfl ?_);refine goesL_ (some 49) rfl rfl Try.func8 z12_36 rfl #[.slice A3 l3.length c3] rfl z12_1 ?_;(with_reducible refine(laws_toIntS.calls kj10 _ _ l3 t362 _ ?side1 ?side2 A21.out).mono ?_))|(go_at_call 8;(with_reducible refine(laws_toIntS.calls kj10 _ _ l3 t362 _ ?side1 ?side2 A21.out).mono ?_)));(case side1=>exact z12_29);(case side2=>exact HC3.out);rintro e w46 ⟨v363,rfl,ho0,hb⟩;(first|refine⟨_,rfl,?_⟩|skip);replace HO338:=Za (Kd.S_below z12_15 hb);replace HO357:=Za (Kd.S_below z12_31 hb);have HO364:=Za (Kd.R_lower (Kd.R_new' (Kd.R_new' (Kd.R_new' (Kd.R_new' (Kd.R_new' ho0 (Kd.R_lt z12_13)) (Kd.R_lt z12_14)) (Kd.R_lt z12_17)) (Kd.R_lt z12_16)) (Kd.R_lt z12_23)) (Zy z12_6));replace HO341:=Za (Ym z12_13 (Yf ho0) hb);replace HO344:=Za (Ym z12_14 (Yf ho0) hb);replace HO347:=Za (Ym z12_17 (Yf ho0) hb);replace HO350:=Za (Ym z12_16 (Yf ho0) hb);replace HO361:=Za (Ym z12_23 (Yf ho0) hb);replace BK334:=Za (Zg (g:=gb334) (o:= .cells #[.slice A0_0 l0_0.length c0_0] 24 (0,0)) z12_0 hb);replace BK354:=Za (Zg (g:=gb354) (o:= .cells #[.slice Ao33 t345.length co33,.slice Ao36 t348.length co36,.int .i64 t351,.int .i64 t352] 28 (0,0)) z12_3 hb);replace BK358:=Za (Zg (g:=gb358) (o:= .cells #[.slice Ao41 t355.length co41] 33 (0,0)) z12_12 hb);replace HB:=Za (Zj z12_6 hb);(try clear hb);(try clear hb2);(try clear hk);(try clear hi);(try clear ho0);have hcz47_0:w46.cell? ⟨gb358,0,none⟩=some (.slice Ao41 t355.length co41):=(Zb BK358.out 0).trans rfl;have hfz47_0:=Zc BK358.out 0;obtain⟨Ao48,co48,eo48⟩:=Yn HO361.out;subst eo48;obtain⟨Ao49,co49,eo49⟩:=Yn HO364.out;subst eo49)|((first|((with_reducible refine gate_callee (f:=9) rfl ?_);refine goesL_ (some 55) rfl rfl Try.func9 z12_36 rfl #[.agg #[.slice Ao41 t355.length co41],.int .i64 a1,.slice Ao48 t359.length co48,.slice Ao49 t362.length co49] rfl z12_1 ?_;(with_reducible refine(impl_TaskEffect.calls kj10 _ _ t355 a1 _ _ t359 _ _ t362 t365 t368 t371 t372 t373 _ ?side1 ?side2 ?side3 ?side4 ?side5 ?side6 A22.out).mono ?_))|(go_at_call 9;(with_reducible refine(impl_TaskEffect.calls kj10 _ _ t355 a1 _ _ t359 _ _ t362 t365 t368 t371 t372 t373 _ ?side1 ?side2 ?side3 ?side4 ?side5 ?side6 A22.out).mono ?_)));(case side1=>repeat(first|exact(Kd.S_reads' HO357.out).2.2|(with_reducible refine Yc ?_ _)|(with_reducible refine Yd ?_ _)|(with_reducible refine Ye ?_)));(case side2=>exact(Kd.S_reads' HO357.out).2.1);(case side3=>repeat(first|exact(Yb HO361.out).2.2|(with_reducible refine Yc ?_ _)|(with_reducible refine Yd ?_ _)|(with_reducible refine Ye ?_)));(case side4=>exact(Yb HO361.out).2.1);(case side5=>repeat(first|exact(Yb HO364.out).2.2|(with_reducible refine Yc ?_ _)|(with_reducible refine Yd ?_ _)|(with_reducible refine Ye ?_)));(case side6=>exact(Yb HO364.out).2.1);rintro e w50 ⟨v366,v369,rfl,ho0,ho1,hb⟩;(first|refine⟨_,rfl,?_⟩|skip);replace HO338:=Za (Kd.S_below z12_15 hb);replace HO357:=Za (Kd.S_below z12_31 hb);have HO367:=Za (Kd.R_lower (Kd.R_new' (Kd.R_new' (Kd.R_new' (Kd.R_new' (Kd.R_new' (Kd.R_new' ho0 (Kd.R_lt z12_13)) (Kd.R_lt z12_14)) (Kd.R_lt z12_17)) (Kd.R_lt z12_16)) (Kd.R_lt z12_23)) (Kd.R_lt z12_33)) (Zy z12_6));have HO370:=Za (Kd.R_lower (Kd.R_new' (Kd.R_new' (Kd.R_new' (Kd.R_new' (Kd.R_new' (Kd.R_new' ho1 (Kd.R_lt z12_13)) (Kd.R_lt z12_14)) (Kd.R_lt z12_17)) (Kd.R_lt z12_16)) (Kd.R_lt z12_23)) (Kd.R_lt z12_33)) (Zy z12_6));replace HO341:=Za (Zw (Kd.R_told (Kd.R_told (Kd.R_old z12_13 hb) (Yf ho0)) (Yf ho1)) (fun _ h_=>h_.1));replace HO344:=Za (Zw (Kd.R_told (Kd.R_told (Kd.R_old z12_14 hb) (Yf ho0)) (Yf ho1)) (fun _ h_=>h_.1));replace HO347:=Za (Zw (Kd.R_told (Kd.R_told (Kd.R_old z12_17 hb) (Yf ho0)) (Yf ho1)) (fun _ h_=>h_.1));replace HO350:=Za (Zw (Kd.R_told (Kd.R_told (Kd.R_old z12_16 hb) (Yf ho0)) (Yf ho1)) (fun _ h_=>h_.1));replace HO361:=Za (Zw (Kd.R_told (Kd.R_told (Kd.R_old z12_23 hb) (Yf ho0)) (Yf ho1)) (fun _ h_=>h_.1));replace HO364:=Za (Zw (Kd.R_told (Kd.R_told (Kd.R_old z12_33 hb) (Yf ho0)) (Yf ho1)) (fun _ h_=>h_.1));replace BK334:=Za (Zg (g:=gb334) (o:= .cells #[.slice A0_0 l0_0.length c0_0] 24 (0,0)) z12_0 hb);replace BK354:=Za (Zg (g:=gb354) (o:= .cells #[.slice Ao33 t345.length co33,.slice Ao36 t348.length co36,.int .i64 t351,.int .i64 t352] 28 (0,0)) z12_3 hb);replace BK358:=Za (Zg (g:=gb358) (o:= .cells #[.slice Ao41 t355.length co41] 33 (0,0)) z12_12 hb);replace HB:=Za (Zj z12_6 hb);(try clear hb);(try clear hb2);(try clear hk);(try clear hi);(try clear ho0);(try clear ho1))|((with_reducible refine Zp (N:=15) rfl ?_);refine Zt ?hg (N:=15) ?hd (cs:= #[.slice none 0 0,.slice none 0 0,.int .i64 0,.int .i64 0]) (t:=28) ?hr ?_;(case hd=>rfl);(case hg=>rfl);(case hr=>exact z12_38);intro gb374 hg w51 hbox hb;replace HO338:=Za (Kd.S_below z12_15 hb);replace HO341:=Za (Kd.R_below z12_13 hb);replace HO344:=Za (Kd.R_below z12_14 hb);replace HO347:=Za (Kd.R_below z12_17 hb);replace HO350:=Za (Kd.R_below z12_16 hb);replace HO357:=Za (Kd.S_below z12_31 hb);replace HO361:=Za (Kd.R_below z12_23 hb);replace HO364:=Za (Kd.R_below z12_33 hb);replace HO367:=Za (Kd.R_below (by(with_reducible repeat(first|apply Zn|apply Zo|apply Zm));exact HO367.out) hb);replace HO370:=Za (Kd.R_below (by(with_reducible repeat(first|apply Zn|apply Zo|apply Zm));exact HO370.out) hb);have BK374:=Za (hbox);have GW374:=Za ((by rw[hg];exact(Zy z12_6):w.heap.size≤gb374));have GE374:=Za ((by rw[hg];exact(Zy z12_6):w.heap.size≤gb374));replace HB:=Za (Zj z12_6 hb);have NB334_374:=Za ((z12_44:gb334≠gb374));have NB374_334:=Za ((z12_45:gb374≠gb334));replace BK334:=Za (Zg (g:=gb334) (o:= .cells #[.slice A0_0 l0_0.length c0_0] 24 (0,0)) z12_0 hb);have NB354_374:=Za ((z12_42:gb354≠gb374));have NB374_354:=Za ((z12_43:gb374≠gb354));replace BK354:=Za (Zg (g:=gb354) (o:= .cells #[.slice Ao33 t345.length co33,.slice Ao36 t348.length co36,.int .i64 t351,.int .i64 t352] 28 (0,0)) z12_3 hb);have NB358_374:=Za ((by rw[hg];exact Nat.ne_of_lt (blk_lt (g:=gb358) (o:= .cells #[.slice Ao41 t355.length co41] 33 (0,0)) z12_12):gb358≠gb374));have NB374_358:=Za ((by rw[hg];exact Nat.ne_of_gt (blk_lt (g:=gb358) (o:= .cells #[.slice Ao41 t355.length co41] 33 (0,0)) z12_12):gb374≠gb358));replace BK358:=Za (Zg (g:=gb358) (o:= .cells #[.slice Ao41 t355.length co41] 33 (0,0)) z12_12 hb);clear hb hbox hg;obtain⟨Ao52,co52,eo52⟩:=Yn HO367.out;subst eo52;have hnb53:=NB374_334.out;have hnc53:=NB334_374.out;have hnb54:=NB374_354.out;have hnc54:=NB354_374.out;have hnb55:=NB374_358.out;have hnc55:=NB358_374.out;have hcz56_0:w51.cell? ⟨gb374,0,none⟩=some (.slice none 0 0):=(Zb BK374.out 0).trans rfl;have hcz56_1:w51.cell? ⟨gb374,1,none⟩=some (.slice none 0 0):=(Zb BK374.out 1).trans rfl;have hcz56_2:w51.cell? ⟨gb374,2,none⟩=some (.int .i64 0):=(Zb BK374.out 2).trans rfl;have hcz56_3:w51.cell? ⟨gb374,3,none⟩=some (.int .i64 0):=(Zb BK374.out 3).trans rfl;have hfz56_0:=Zc BK374.out 0;have hfz56_1:=Zc BK374.out 1;have hfz56_2:=Zc BK374.out 2;have hfz56_3:=Zc BK374.out 3;obtain⟨Ao57,co57,eo57⟩:=Yn HO370.out;subst eo57)|((with_reducible refine Yk (t:=28) (p:=15) rfl ?_);refine Yj (t:=28) (p:=15) (v:= ?vo_w58) (w1:=((((w51.setCell ⟨gb374,0,none⟩ (.slice Ao52 t365.length co52)).setCell ⟨gb374,1,none⟩ (.slice Ao57 t368.length co57)).setCell ⟨gb374,2,none⟩ (.int .i64 t371)).setCell ⟨gb374,3,none⟩ (.int .i64 t372))) ?hg ?ho ?hn ?hr ?_;(case ho=>rfl);(case hg=>rfl);(case hn=>rfl);(case hr=>exact z12_38);intro w58 hw;have n0_:Aside0 (Kd.S k64 64 w58 w.heap.size (fun k_=>some k_≠(.slice Ao41 t355.length co41:Value).ownBlock) (.slice Ao28 t336.length co28) t336):=⟨(by rw[hw];exact(by(with_reducible repeat(first|apply Kd.S_alloc|apply Kd.S_drewN|apply Kd.S_drew));exact Kd.S_mono (Kd.S_far (p:=⟨gb374,3,none⟩) (Kd.S_far (p:=⟨gb374,2,none⟩) (Kd.S_far (p:=⟨gb374,1,none⟩) (Kd.S_far (p:=⟨gb374,0,none⟩) (Kd.S_types HO338.out BK374.out z12_37) (fun _ hk=>hk.2) (.slice Ao52 t365.length co52)) (fun _ hk=>hk.2) (.slice Ao57 t368.length co57)) (fun _ hk=>hk.2) (.int .i64 t371)) (fun _ hk=>hk.2) (.int .i64 t372)) (fun _ hk=>hk.1.2)))⟩;have n1_:Aside0 (Kd.R (Kd.int .i64) 3 w58 w.heap.size (fun k_=>some k_≠(.slice Ao30 t342.length co30:Value).ownBlock∧some k_≠(.slice Ao33 t345.length co33:Value).ownBlock∧some k_≠(.slice Ao36 t348.length co36:Value).ownBlock∧some k_≠(.slice Ao48 t359.length co48:Value).ownBlock∧some k_≠(.slice Ao49 t362.length co49:Value).ownBlock∧some k_≠(.slice Ao52 t365.length co52:Value).ownBlock∧some k_≠(.slice Ao57 t368.length co57:Value).ownBlock) (.slice Ao29 t339.length co29) t339):=⟨(by rw[hw];exact(by(with_reducible repeat(first|apply Zn|apply Zo|apply Zm));exact Zw (Kd.R_far (p:=⟨gb374,3,none⟩) (Kd.R_far (p:=⟨gb374,2,none⟩) (Kd.R_far (p:=⟨gb374,1,none⟩) (Kd.R_far (p:=⟨gb374,0,none⟩) (Kd.R_types HO341.out BK374.out z12_37) (fun _ hk=>hk.2) (.slice Ao52 t365.length co52)) (fun _ hk=>hk.2) (.slice Ao57 t368.length co57)) (fun _ hk=>hk.2) (.int .i64 t371)) (fun _ hk=>hk.2) (.int .i64 t372)) (fun _ hk=>⟨hk.1.1.1.1.1.1,⟨hk.1.1.1.1.1.2.1,⟨hk.1.1.1.1.1.2.2,⟨hk.1.1.1.1.2,⟨hk.1.1.1.2,⟨hk.1.1.2,hk.1.2⟩⟩⟩⟩⟩⟩)))⟩;have n2_:Aside0 (Kd.R (Kd.int .i64) 3 w58 w.heap.size (fun k_=>some k_≠(.slice Ao29 t339.length co29:Value).ownBlock∧some k_≠(.slice Ao33 t345.length co33:Value).ownBlock∧some k_≠(.slice Ao36 t348.length co36:Value).ownBlock∧some k_≠(.slice Ao48 t359.length co48:Value).ownBlock∧some k_≠(.slice Ao49 t362.length co49:Value).ownBlock∧some k_≠(.slice Ao52 t365.length co52:Value).ownBlock∧some k_≠(.slice Ao57 t368.length co57:Value).ownBlock) (.slice Ao30 t342.length co30) t342):=⟨(by rw[hw];exact(by(with_reducible repeat(first|apply Zn|apply Zo|apply Zm));exact Zw (Kd.R_far (p:=⟨gb374,3,none⟩) (Kd.R_far (p:=⟨gb374,2,none⟩) (Kd.R_far (p:=⟨gb374,1,none⟩) (Kd.R_far (p:=⟨gb374,0,none⟩) (Kd.R_types HO344.out BK374.out z12_37) (fun _ hk=>hk.2) (.slice Ao52 t365.length co52)) (fun _ hk=>hk.2) (.slice Ao57 t368.length co57)) (fun _ hk=>hk.2) (.int .i64 t371)) (fun _ hk=>hk.2) (.int .i64 t372)) (fun _ hk=>⟨hk.1.1.1.1.1.1,⟨hk.1.1.1.1.1.2.1,⟨hk.1.1.1.1.1.2.2,⟨hk.1.1.1.1.2,⟨hk.1.1.1.2,⟨hk.1.1.2,hk.1.2⟩⟩⟩⟩⟩⟩)))⟩;have n3_:Aside0 (Kd.R (Kd.int .i64) 3 w58 w.heap.size (fun k_=>some k_≠(.slice Ao29 t339.length co29:Value).ownBlock∧some k_≠(.slice Ao30 t342.length co30:Value).ownBlock∧some k_≠(.slice Ao36 t348.length co36:Value).ownBlock∧some k_≠(.slice Ao48 t359.length co48:Value).ownBlock∧some k_≠(.slice Ao49 t362.length co49:Value).ownBlock∧some k_≠(.slice Ao52 t365.length co52:Value).ownBlock∧some k_≠(.slice Ao57 t368.length co57:Value).ownBlock) (.slice Ao33 t345.length co33) t345):=⟨(by rw[hw];exact(by(with_reducible repeat(first|apply Zn|apply Zo|apply Zm));exact Zw (Kd.R_far (p:=⟨gb374,3,none⟩) (Kd.R_far (p:=⟨gb374,2,none⟩) (Kd.R_far (p:=⟨gb374,1,none⟩) (Kd.R_far (p:=⟨gb374,0,none⟩) (Kd.R_types HO347.out BK374.out z12_37) (fun _ hk=>hk.2) (.slice Ao52 t365.length co52)) (fun _ hk=>hk.2) (.slice Ao57 t368.length co57)) (fun _ hk=>hk.2) (.int .i64 t371)) (fun _ hk=>hk.2) (.int .i64 t372)) (fun _ hk=>⟨hk.1.1.1.1.1.1,⟨hk.1.1.1.1.1.2.1,⟨hk.1.1.1.1.1.2.2,⟨hk.1.1.1.1.2,⟨hk.1.1.1.2,⟨hk.1.1.2,hk.1.2⟩⟩⟩⟩⟩⟩)))⟩;have n4_:Aside0 (Kd.R (Kd.int .i64) 3 w58 w.heap.size (fun k_=>some k_≠(.slice Ao29 t339.length co29:Value).ownBlock∧some k_≠(.slice Ao30 t342.length co30:Value).ownBlock∧some k_≠(.slice Ao33 t345.length co33:Value).ownBlock∧some k_≠(.slice Ao48 t359.length co48:Value).ownBlock∧some k_≠(.slice Ao49 t362.length co49:Value).ownBlock∧some k_≠(.slice Ao52 t365.length co52:Value).ownBlock∧some k_≠(.slice Ao57 t368.length co57:Value).ownBlock) (.slice Ao36 t348.length co36) t348):=⟨(by rw[hw];exact(by(with_reducible repeat(first|apply Zn|apply Zo|apply Zm));exact Zw (Kd.R_far (p:=⟨gb374,3,none⟩) (Kd.R_far (p:=⟨gb374,2,none⟩) (Kd.R_far (p:=⟨gb374,1,none⟩) (Kd.R_far (p:=⟨gb374,0,none⟩) (Kd.R_types HO350.out BK374.out z12_37) (fun _ hk=>hk.2) (.slice Ao52 t365.length co52)) (fun _ hk=>hk.2) (.slice Ao57 t368.length co57)) (fun _ hk=>hk.2) (.int .i64 t371)) (fun _ hk=>hk.2) (.int .i64 t372)) (fun _ hk=>⟨hk.1.1.1.1.1.1,⟨hk.1.1.1.1.1.2.1,⟨hk.1.1.1.1.1.2.2,⟨hk.1.1.1.1.2,⟨hk.1.1.1.2,⟨hk.1.1.2,hk.1.2⟩⟩⟩⟩⟩⟩)))⟩;have n5_:Aside0 (Kd.S k64 64 w58 w.heap.size (fun k_=>some k_≠(.slice Ao28 t336.length co28:Value).ownBlock) (.slice Ao41 t355.length co41) t355):=⟨(by rw[hw];exact(by(with_reducible repeat(first|apply Kd.S_alloc|apply Kd.S_drewN|apply Kd.S_drew));exact Kd.S_mono (Kd.S_far (p:=⟨gb374,3,none⟩) (Kd.S_far (p:=⟨gb374,2,none⟩) (Kd.S_far (p:=⟨gb374,1,none⟩) (Kd.S_far (p:=⟨gb374,0,none⟩) (Kd.S_types HO357.out BK374.out z12_37) (fun _ hk=>hk.2) (.slice Ao52 t365.length co52)) (fun _ hk=>hk.2) (.slice Ao57 t368.length co57)) (fun _ hk=>hk.2) (.int .i64 t371)) (fun _ hk=>hk.2) (.int .i64 t372)) (fun _ hk=>hk.1.2)))⟩;have n6_:Aside0 (Kd.R (Kd.int .i64) 3 w58 w.heap.size (fun k_=>some k_≠(.slice Ao29 t339.length co29:Value).ownBlock∧some k_≠(.slice Ao30 t342.length co30:Value).ownBlock∧some k_≠(.slice Ao33 t345.length co33:Value).ownBlock∧some k_≠(.slice Ao36 t348.length co36:Value).ownBlock∧some k_≠(.slice Ao49 t362.length co49:Value).ownBlock∧some k_≠(.slice Ao52 t365.length co52:Value).ownBlock∧some k_≠(.slice Ao57 t368.length co57:Value).ownBlock) (.slice Ao48 t359.length co48) t359):=⟨(by rw[hw];exact(by(with_reducible repeat(first|apply Zn|apply Zo|apply Zm));exact Zw (Kd.R_far (p:=⟨gb374,3,none⟩) (Kd.R_far (p:=⟨gb374,2,none⟩) (Kd.R_far (p:=⟨gb374,1,none⟩) (Kd.R_far (p:=⟨gb374,0,none⟩) (Kd.R_types HO361.out BK374.out z12_37) (fun _ hk=>hk.2) (.slice Ao52 t365.length co52)) (fun _ hk=>hk.2) (.slice Ao57 t368.length co57)) (fun _ hk=>hk.2) (.int .i64 t371)) (fun _ hk=>hk.2) (.int .i64 t372)) (fun _ hk=>⟨hk.1.1.1.1.1.1.1.2,⟨hk.1.1.1.1.1.1.2,⟨hk.1.1.1.1.1.2,⟨hk.1.1.1.1.2,⟨hk.1.1.1.2,⟨hk.1.1.2,hk.1.2⟩⟩⟩⟩⟩⟩)))⟩;have n7_:Aside0 (Kd.R (Kd.int .i64) 3 w58 w.heap.size (fun k_=>some k_≠(.slice Ao29 t339.length co29:Value).ownBlock∧some k_≠(.slice Ao30 t342.length co30:Value).ownBlock∧some k_≠(.slice Ao33 t345.length co33:Value).ownBlock∧some k_≠(.slice Ao36 t348.length co36:Value).ownBlock∧some k_≠(.slice Ao48 t359.length co48:Value).ownBlock∧some k_≠(.slice Ao52 t365.length co52:Value).ownBlock∧some k_≠(.slice Ao57 t368.length co57:Value).ownBlock) (.slice Ao49 t362.length co49) t362):=⟨(by rw[hw];exact(by(with_reducible repeat(first|apply Zn|apply Zo|apply Zm));exact Zw (Kd.R_far (p:=⟨gb374,3,none⟩) (Kd.R_far (p:=⟨gb374,2,none⟩) (Kd.R_far (p:=⟨gb374,1,none⟩) (Kd.R_far (p:=⟨gb374,0,none⟩) (Kd.R_types HO364.out BK374.out z12_37) (fun _ hk=>hk.2) (.slice Ao52 t365.length co52)) (fun _ hk=>hk.2) (.slice Ao57 t368.length co57)) (fun _ hk=>hk.2) (.int .i64 t371)) (fun _ hk=>hk.2) (.int .i64 t372)) (fun _ hk=>⟨hk.1.1.1.1.1.1.1.2,⟨hk.1.1.1.1.1.1.2,⟨hk.1.1.1.1.1.2,⟨hk.1.1.1.1.2,⟨hk.1.1.1.2,⟨hk.1.1.2,hk.1.2⟩⟩⟩⟩⟩⟩)))⟩;have n8_:Aside0 (Kd.R (Kd.int .i64) 3 w58 w.heap.size (fun k_=>some k_≠(.slice Ao29 t339.length co29:Value).ownBlock∧some k_≠(.slice Ao30 t342.length co30:Value).ownBlock∧some k_≠(.slice Ao33 t345.length co33:Value).ownBlock∧some k_≠(.slice Ao36 t348.length co36:Value).ownBlock∧some k_≠(.slice Ao48 t359.length co48:Value).ownBlock∧some k_≠(.slice Ao49 t362.length co49:Value).ownBlock∧some k_≠(.slice Ao57 t368.length co57:Value).ownBlock) (.slice Ao52 t365.length co52) t365):=⟨(by rw[hw];exact(by(with_reducible repeat(first|apply Zn|apply Zo|apply Zm));exact Zw (Kd.R_far (p:=⟨gb374,3,none⟩) (Kd.R_far (p:=⟨gb374,2,none⟩) (Kd.R_far (p:=⟨gb374,1,none⟩) (Kd.R_far (p:=⟨gb374,0,none⟩) (Kd.R_types HO367.out BK374.out z12_37) (fun _ hk=>hk.2) (.slice Ao52 t365.length co52)) (fun _ hk=>hk.2) (.slice Ao57 t368.length co57)) (fun _ hk=>hk.2) (.int .i64 t371)) (fun _ hk=>hk.2) (.int .i64 t372)) (fun _ hk=>⟨hk.1.1.1.1.1.1.2,⟨hk.1.1.1.1.1.2,⟨hk.1.1.1.1.2,⟨hk.1.1.1.2,⟨hk.1.1.2,⟨hk.1.2,hk.1.1.1.1.1.1.1⟩⟩⟩⟩⟩⟩)))⟩;have n9_:Aside0 (Kd.R (Kd.int .i64) 3 w58 w.heap.size (fun k_=>some k_≠(.slice Ao29 t339.length co29:Value).ownBlock∧some k_≠(.slice Ao30 t342.length co30:Value).ownBlock∧some k_≠(.slice Ao33 t345.length co33:Value).ownBlock∧some k_≠(.slice Ao36 t348.length co36:Value).ownBlock∧some k_≠(.slice Ao48 t359.length co48:Value).ownBlock∧some k_≠(.slice Ao49 t362.length co49:Value).ownBlock∧some k_≠(.slice Ao52 t365.length co52:Value).ownBlock) (.slice Ao57 t368.length co57) t368):=⟨(by rw[hw];exact(by(with_reducible repeat(first|apply Zn|apply Zo|apply Zm));exact Zw (Kd.R_far (p:=⟨gb374,3,none⟩) (Kd.R_far (p:=⟨gb374,2,none⟩) (Kd.R_far (p:=⟨gb374,1,none⟩) (Kd.R_far (p:=⟨gb374,0,none⟩) (Kd.R_types HO370.out BK374.out z12_37) (fun _ hk=>hk.2) (.slice Ao52 t365.length co52)) (fun _ hk=>hk.2) (.slice Ao57 t368.length co57)) (fun _ hk=>hk.2) (.int .i64 t371)) (fun _ hk=>hk.2) (.int .i64 t372)) (fun _ hk=>⟨hk.1.1.1.1.1.1.2,⟨hk.1.1.1.1.1.2,⟨hk.1.1.1.1.2,⟨hk.1.1.1.2,⟨hk.1.1.2,⟨hk.1.2,hk.1.1.1.1.1.1.1⟩⟩⟩⟩⟩⟩)))⟩;have n10_:Aside0 (w58.heap[gb334]? =some (.cells #[.slice A0_0 l0_0.length c0_0] 24 (0,0))):=⟨(by rw[hw];exact(by(with_reducible repeat(first|refine blk_drewN ?_ _|refine blk_drew ?_|refine blk_alloc ?_ _));refine blk_far ?_ NB334_374.out _;(with_reducible repeat(first|refine blk_drewN ?_ _|refine blk_drew ?_|refine blk_alloc ?_ _));refine blk_far ?_ NB334_374.out _;(with_reducible repeat(first|refine blk_drewN ?_ _|refine blk_drew ?_|refine blk_alloc ?_ _));refine blk_far ?_ NB334_374.out _;(with_reducible repeat(first|refine blk_drewN ?_ _|refine blk_drew ?_|refine blk_alloc ?_ _));refine blk_far ?_ NB334_374.out _;(with_reducible repeat(first|refine blk_drewN ?_ _|refine blk_drew ?_|refine blk_alloc ?_ _));exact BK334.out))⟩;have n11_:Aside0 (w58.heap[gb354]? =some (.cells #[.slice Ao33 t345.length co33,.slice Ao36 t348.length co36,.int .i64 t351,.int .i64 t352] 28 (0,0))):=⟨(by rw[hw];exact(by(with_reducible repeat(first|refine blk_drewN ?_ _|refine blk_drew ?_|refine blk_alloc ?_ _));refine blk_far ?_ NB354_374.out _;(with_reducible repeat(first|refine blk_drewN ?_ _|refine blk_drew ?_|refine blk_alloc ?_ _));refine blk_far ?_ NB354_374.out _;(with_reducible repeat(first|refine blk_drewN ?_ _|refine blk_drew ?_|refine blk_alloc ?_ _));refine blk_far ?_ NB354_374.out _;(with_reducible repeat(first|refine blk_drewN ?_ _|refine blk_drew ?_|refine blk_alloc ?_ _));refine blk_far ?_ NB354_374.out _;(with_reducible repeat(first|refine blk_drewN ?_ _|refine blk_drew ?_|refine blk_alloc ?_ _));exact BK354.out))⟩;have n12_:Aside0 (w58.heap[gb358]? =some (.cells #[.slice Ao41 t355.length co41] 33 (0,0))):=⟨(by rw[hw];exact(by(with_reducible repeat(first|refine blk_drewN ?_ _|refine blk_drew ?_|refine blk_alloc ?_ _));refine blk_far ?_ NB358_374.out _;(with_reducible repeat(first|refine blk_drewN ?_ _|refine blk_drew ?_|refine blk_alloc ?_ _));refine blk_far ?_ NB358_374.out _;(with_reducible repeat(first|refine blk_drewN ?_ _|refine blk_drew ?_|refine blk_alloc ?_ _));refine blk_far ?_ NB358_374.out _;(with_reducible repeat(first|refine blk_drewN ?_ _|refine blk_drew ?_|refine blk_alloc ?_ _));refine blk_far ?_ NB358_374.out _;(with_reducible repeat(first|refine blk_drewN ?_ _|refine blk_drew ?_|refine blk_alloc ?_ _));exact BK358.out))⟩;have n13_:Aside0 (w58.heap[gb374]? =some (.cells #[.slice Ao52 t365.length co52,.slice Ao57 t368.length co57,.int .i64 t371,.int .i64 t372] 28 (0,0))):=⟨(by rw[hw];exact(by(with_reducible repeat(first|refine blk_drewN ?_ _|refine blk_drew ?_|refine blk_alloc ?_ _));refine blk_put (cs:= #[.slice Ao52 t365.length co52,.slice Ao57 t368.length co57,.int .i64 t371,.int .i64 0]) ?_ 3 _ rfl;(with_reducible repeat(first|refine blk_drewN ?_ _|refine blk_drew ?_|refine blk_alloc ?_ _));refine blk_put (cs:= #[.slice Ao52 t365.length co52,.slice Ao57 t368.length co57,.int .i64 0,.int .i64 0]) ?_ 2 _ rfl;(with_reducible repeat(first|refine blk_drewN ?_ _|refine blk_drew ?_|refine blk_alloc ?_ _));refine blk_put (cs:= #[.slice Ao52 t365.length co52,.slice none 0 0,.int .i64 0,.int .i64 0]) ?_ 1 _ rfl;(with_reducible repeat(first|refine blk_drewN ?_ _|refine blk_drew ?_|refine blk_alloc ?_ _));refine blk_put (cs:= #[.slice none 0 0,.slice none 0 0,.int .i64 0,.int .i64 0]) ?_ 0 _ rfl;(with_reducible repeat(first|refine blk_drewN ?_ _|refine blk_drew ?_|refine blk_alloc ?_ _));exact BK374.out))⟩;have n14_:Aside0 (Below w.heap.size w w58):=⟨(by rw[hw];exact z12_2)⟩;clear hw;clear HO338;clear HO341;clear HO344;clear HO347;clear HO350;clear HO357;clear HO361;clear HO364;clear HO367;clear HO370;clear BK334;clear BK354;clear BK358;clear BK374;clear HB;have HO338:=n0_;have HO341:=n1_;have HO344:=n2_;have HO347:=n3_;have HO350:=n4_;have HO357:=n5_;have HO361:=n6_;have HO364:=n7_;have HO367:=n8_;have HO370:=n9_;have BK334:=n10_;have BK354:=n11_;have BK358:=n12_;have BK374:=n13_;have HB:=n14_;clear n0_ n1_ n2_ n3_ n4_ n5_ n6_ n7_ n8_ n9_ n10_ n11_ n12_ n13_ n14_))
       (try simp only[Act.put,Zq,Zr,Zs])
       go_cut [66] (fun v66 wc=>∃(kq:Nat) (x66_22:Bool),v66= .bool x66_22∧Aside0 (laws_FnExactTaskEffect.j3 kq a1 l2 l3 t353 t359 t362 t373 x66_22 l0_0 t345 t348 t351 t352 t355 t365 t368 t371 t372=some r)∧Aside0 (kq≤kj10)∧Aside0 (Kd.R (Kd.int .i64) 3 wc w.heap.size (fun k_=>some k_≠((.slice Ao49 t362.length co49):Value).ownBlock∧some k_≠((.slice Ao33 t345.length co33):Value).ownBlock∧some k_≠((.slice Ao36 t348.length co36):Value).ownBlock∧some k_≠((.slice Ao52 t365.length co52):Value).ownBlock∧some k_≠((.slice Ao57 t368.length co57):Value).ownBlock) (.slice Ao48 t359.length co48) t359)∧Aside0 (Kd.R (Kd.int .i64) 3 wc w.heap.size (fun k_=>some k_≠((.slice Ao48 t359.length co48):Value).ownBlock∧some k_≠((.slice Ao33 t345.length co33):Value).ownBlock∧some k_≠((.slice Ao36 t348.length co36):Value).ownBlock∧some k_≠((.slice Ao52 t365.length co52):Value).ownBlock∧some k_≠((.slice Ao57 t368.length co57):Value).ownBlock) (.slice Ao49 t362.length co49) t362)∧Aside0 (Kd.R (Kd.int .i64) 3 wc w.heap.size (fun k_=>some k_≠((.slice Ao48 t359.length co48):Value).ownBlock∧some k_≠((.slice Ao49 t362.length co49):Value).ownBlock∧some k_≠((.slice Ao36 t348.length co36):Value).ownBlock∧some k_≠((.slice Ao52 t365.length co52):Value).ownBlock∧some k_≠((.slice Ao57 t368.length co57):Value).ownBlock) (.slice Ao33 t345.length co33) t345)∧Aside0 (Kd.R (Kd.int .i64) 3 wc w.heap.size (fun k_=>some k_≠((.slice Ao48 t359.length co48):Value).ownBlock∧some k_≠((.slice Ao49 t362.length co49):Value).ownBlock∧some k_≠((.slice Ao33 t345.length co33):Value).ownBlock∧some k_≠((.slice Ao52 t365.length co52):Value).ownBlock∧some k_≠((.slice Ao57 t368.length co57):Value).ownBlock) (.slice Ao36 t348.length co36) t348)∧Aside0 (Kd.S k64 64 wc w.heap.size (fun _=>True) (.slice Ao41 t355.length co41) t355)∧Aside0 (Kd.R (Kd.int .i64) 3 wc w.heap.size (fun k_=>some k_≠((.slice Ao48 t359.length co48):Value).ownBlock∧some k_≠((.slice Ao49 t362.length co49):Value).ownBlock∧some k_≠((.slice Ao33 t345.length co33):Value).ownBlock∧some k_≠((.slice Ao36 t348.length co36):Value).ownBlock∧some k_≠((.slice Ao57 t368.length co57):Value).ownBlock) (.slice Ao52 t365.length co52) t365)∧Aside0 (Kd.R (Kd.int .i64) 3 wc w.heap.size (fun k_=>some k_≠((.slice Ao48 t359.length co48):Value).ownBlock∧some k_≠((.slice Ao49 t362.length co49):Value).ownBlock∧some k_≠((.slice Ao33 t345.length co33):Value).ownBlock∧some k_≠((.slice Ao36 t348.length co36):Value).ownBlock∧some k_≠((.slice Ao52 t365.length co52):Value).ownBlock) (.slice Ao57 t368.length co57) t368)∧Aside0 (wc.heap[gb334]? =some (.cells #[(.slice A0_0 l0_0.length c0_0)] 24 (0,0)))∧Aside0 (wc.heap[gb354]? =some (.cells #[(.slice Ao33 t345.length co33),(.slice Ao36 t348.length co36),.int .i64 t351,.int .i64 t352] 28 (0,0)))∧Aside0 (wc.heap[gb358]? =some (.cells #[(.slice Ao41 t355.length co41)] 33 (0,0)))∧Aside0 (wc.heap[gb374]? =some (.cells #[(.slice Ao52 t365.length co52),(.slice Ao57 t368.length co57),.int .i64 t371,.int .i64 t372] 28 (0,0)))∧Aside0 (Below w.heap.size w wc))
       case first=>
        have H:=HC23.out
        clear HC23
        replace H:=Zl H
        obtain⟨t375,A590,H⟩:=H
        replace H:(if t375=true then (laws_FnExactTaskEffect.j3 kj10 a1 l2 l3 t353 t359 t362 t373 (t373 != t353) l0_0 t345 t348 t351 t352 t355 t365 t368 t371 t372) else (laws_FnExactTaskEffect.j3 kj10 a1 l2 l3 t353 t359 t362 t373 true l0_0 t345 t348 t351 t352 t355 t365 t368 t371 t372))=some r:=H
        have A59:=Za A590
        clear A590
        by_cases c60:t375=true
        ·subst c60
         rw[if_pos rfl] at H
         have H':=Za H
         clear H
         have hnb61:=NB374_334.out
         have hnc61:=NB334_374.out
         have hnb62:=NB374_354.out
         have hnc62:=NB354_374.out
         have hnb63:=NB374_358.out
         have hnc63:=NB358_374.out
         have hcz64_0:w58.cell? ⟨gb374,0,none⟩=some (.slice Ao52 t365.length co52):=(Zb BK374.out 0).trans rfl
         have hcz64_1:w58.cell? ⟨gb374,1,none⟩=some (.slice Ao57 t368.length co57):=(Zb BK374.out 1).trans rfl
         have hcz64_2:w58.cell? ⟨gb374,2,none⟩=some (.int .i64 t371):=(Zb BK374.out 2).trans rfl
         have hcz64_3:w58.cell? ⟨gb374,3,none⟩=some (.int .i64 t372):=(Zb BK374.out 3).trans rfl
         have hfz64_0:=Zc BK374.out 0
         have hfz64_1:=Zc BK374.out 1
         have hfz64_2:=Zc BK374.out 2
         have hfz64_3:=Zc BK374.out 3
         have hnb65:=NB354_334.out
         have hnc65:=NB334_354.out
         have hnb66:=NB354_358.out
         have hnc66:=NB358_354.out
         have hcz67_0:w58.cell? ⟨gb354,0,none⟩=some (.slice Ao33 t345.length co33):=(Zb BK354.out 0).trans rfl
         have hcz67_1:w58.cell? ⟨gb354,1,none⟩=some (.slice Ao36 t348.length co36):=(Zb BK354.out 1).trans rfl
         have hcz67_2:w58.cell? ⟨gb354,2,none⟩=some (.int .i64 t351):=(Zb BK354.out 2).trans rfl
         have hcz67_3:w58.cell? ⟨gb354,3,none⟩=some (.int .i64 t352):=(Zb BK354.out 3).trans rfl
         have hfz67_0:=Zc BK354.out 0
         have hfz67_1:=Zc BK354.out 1
         have hfz67_2:=Zc BK354.out 2
         have hfz67_3:=Zc BK354.out 3
         go_wp2_with (first|((first|((with_reducible refine gate_callee (f:=10) rfl ?_);refine goesL_ (some 60) rfl rfl Try.func10 z12_36 rfl #[.agg #[.slice Ao52 t365.length co52,.slice Ao57 t368.length co57,.int .i64 t371,.int .i64 t372],.agg #[.slice Ao33 t345.length co33,.slice Ao36 t348.length co36,.int .i64 t351,.int .i64 t352]] rfl z12_1 ?_;(with_reducible refine(laws_eqEffect.calls kj10 _ _ t365 _ _ t368 t371 t372 _ _ t345 _ _ t348 t351 t352 true _ ?side1 ?side2 ?side3 ?side4 ?side5 ?side6 ?side7 ?side8 A59.out).mono ?_))|(go_at_call 10;(with_reducible refine(laws_eqEffect.calls kj10 _ _ t365 _ _ t368 t371 t372 _ _ t345 _ _ t348 t351 t352 true _ ?side1 ?side2 ?side3 ?side4 ?side5 ?side6 ?side7 ?side8 A59.out).mono ?_)));(case side1=>repeat(first|exact(Yb HO367.out).2.2|(with_reducible refine Yc ?_ _)|(with_reducible refine Yd ?_ _)|(with_reducible refine Ye ?_)));(case side2=>exact(Yb HO367.out).2.1);(case side3=>repeat(first|exact(Yb HO370.out).2.2|(with_reducible refine Yc ?_ _)|(with_reducible refine Yd ?_ _)|(with_reducible refine Ye ?_)));(case side4=>exact(Yb HO370.out).2.1);(case side5=>repeat(first|exact(Yb HO347.out).2.2|(with_reducible refine Yc ?_ _)|(with_reducible refine Yd ?_ _)|(with_reducible refine Ye ?_)));(case side6=>exact(Yb HO347.out).2.1);(case side7=>repeat(first|exact(Yb HO350.out).2.2|(with_reducible refine Yc ?_ _)|(with_reducible refine Yd ?_ _)|(with_reducible refine Ye ?_)));(case side8=>exact(Yb HO350.out).2.1);rintro e w68 ⟨rfl,hb⟩;(first|refine⟨_,rfl,?_⟩|skip);replace HO338:=Za (Kd.S_below z12_15 hb);replace HO341:=Za (Kd.R_below z12_13 hb);replace HO344:=Za (Kd.R_below z12_14 hb);replace HO347:=Za (Kd.R_below z12_17 hb);replace HO350:=Za (Kd.R_below z12_16 hb);replace HO357:=Za (Kd.S_below z12_31 hb);replace HO361:=Za (Kd.R_below z12_23 hb);replace HO364:=Za (Kd.R_below z12_33 hb);replace HO367:=Za (Kd.R_below (by(with_reducible repeat(first|apply Zn|apply Zo|apply Zm));exact HO367.out) hb);replace HO370:=Za (Kd.R_below (by(with_reducible repeat(first|apply Zn|apply Zo|apply Zm));exact HO370.out) hb);replace BK334:=Za (Zg (g:=gb334) (o:= .cells #[.slice A0_0 l0_0.length c0_0] 24 (0,0)) z12_0 hb);replace BK354:=Za (Zg (g:=gb354) (o:= .cells #[.slice Ao33 t345.length co33,.slice Ao36 t348.length co36,.int .i64 t351,.int .i64 t352] 28 (0,0)) z12_3 hb);replace BK358:=Za (Zg (g:=gb358) (o:= .cells #[.slice Ao41 t355.length co41] 33 (0,0)) z12_12 hb);replace BK374:=Za (Zg (g:=gb374) (o:= .cells #[.slice Ao52 t365.length co52,.slice Ao57 t368.length co57,.int .i64 t371,.int .i64 t372] 28 (0,0)) z12_5 hb);replace HB:=Za (Zj z12_2 hb);(try clear hb);(try clear hb2);(try clear hk);(try clear hi)))
         go_meet
         case rel=>exact⟨_,((t373 != t353)),z12_40,H',⟨by have:=HJ4.out;have:=HJ7.out;have:=HJ10.out;first|omega|exact Nat.le_refl _⟩,⟨by(with_reducible repeat(first|apply Zn|apply Zo|apply Zm));exact Zw HO361.out (fun _ hk=>⟨hk.2.2.2.2.1,⟨hk.2.2.1,⟨hk.2.2.2.1,⟨hk.2.2.2.2.2.1,hk.2.2.2.2.2.2⟩⟩⟩⟩)⟩,⟨by(with_reducible repeat(first|apply Zn|apply Zo|apply Zm));exact Zw HO364.out (fun _ hk=>⟨hk.2.2.2.2.1,⟨hk.2.2.1,⟨hk.2.2.2.1,⟨hk.2.2.2.2.2.1,hk.2.2.2.2.2.2⟩⟩⟩⟩)⟩,⟨by(with_reducible repeat(first|apply Zn|apply Zo|apply Zm));exact Zw HO347.out (fun _ hk=>⟨hk.2.2.2.1,⟨hk.2.2.2.2.1,⟨hk.2.2.1,⟨hk.2.2.2.2.2.1,hk.2.2.2.2.2.2⟩⟩⟩⟩)⟩,⟨by(with_reducible repeat(first|apply Zn|apply Zo|apply Zm));exact Zw HO350.out (fun _ hk=>⟨hk.2.2.2.1,⟨hk.2.2.2.2.1,⟨hk.2.2.1,⟨hk.2.2.2.2.2.1,hk.2.2.2.2.2.2⟩⟩⟩⟩)⟩,⟨by(with_reducible repeat(first|apply Kd.S_alloc|apply Kd.S_drewN|apply Kd.S_drew));exact Kd.S_mono HO357.out (fun _ hk=>trivial)⟩,⟨by(with_reducible repeat(first|apply Zn|apply Zo|apply Zm));exact Zw HO367.out (fun _ hk=>⟨hk.2.2.2.2.1,⟨hk.2.2.2.2.2.1,⟨hk.2.2.1,⟨hk.2.2.2.1,hk.2.2.2.2.2.2⟩⟩⟩⟩)⟩,⟨by(with_reducible repeat(first|apply Zn|apply Zo|apply Zm));exact Zw HO370.out (fun _ hk=>⟨hk.2.2.2.2.1,⟨hk.2.2.2.2.2.1,⟨hk.2.2.1,⟨hk.2.2.2.1,hk.2.2.2.2.2.2⟩⟩⟩⟩)⟩,⟨by(with_reducible repeat(first|refine blk_drewN ?_ _|refine blk_drew ?_|refine blk_alloc ?_ _));exact BK334.out⟩,⟨by(with_reducible repeat(first|refine blk_drewN ?_ _|refine blk_drew ?_|refine blk_alloc ?_ _));exact BK354.out⟩,⟨by(with_reducible repeat(first|refine blk_drewN ?_ _|refine blk_drew ?_|refine blk_alloc ?_ _));exact BK358.out⟩,⟨by(with_reducible repeat(first|refine blk_drewN ?_ _|refine blk_drew ?_|refine blk_alloc ?_ _));exact BK374.out⟩,⟨by repeat(first|(with_reducible first|exact HB.out|apply Zh|apply Zf|apply Ze|refine Zd ?_ GE334.out|refine Zd ?_ GE354.out|refine Zd ?_ GE358.out|refine Zd ?_ GE374.out)|exact HB.out)⟩⟩
        ·replace c60:=Bool.eq_false_iff.mpr c60
         subst c60
         rw[if_neg (show ¬(false=true) by decide)] at H
         have H':=Za H
         clear H
         have hnb69:=NB374_334.out
         have hnc69:=NB334_374.out
         have hnb70:=NB374_354.out
         have hnc70:=NB354_374.out
         have hnb71:=NB374_358.out
         have hnc71:=NB358_374.out
         have hcz72_0:w58.cell? ⟨gb374,0,none⟩=some (.slice Ao52 t365.length co52):=(Zb BK374.out 0).trans rfl
         have hcz72_1:w58.cell? ⟨gb374,1,none⟩=some (.slice Ao57 t368.length co57):=(Zb BK374.out 1).trans rfl
         have hcz72_2:w58.cell? ⟨gb374,2,none⟩=some (.int .i64 t371):=(Zb BK374.out 2).trans rfl
         have hcz72_3:w58.cell? ⟨gb374,3,none⟩=some (.int .i64 t372):=(Zb BK374.out 3).trans rfl
         have hfz72_0:=Zc BK374.out 0
         have hfz72_1:=Zc BK374.out 1
         have hfz72_2:=Zc BK374.out 2
         have hfz72_3:=Zc BK374.out 3
         have hnb73:=NB354_334.out
         have hnc73:=NB334_354.out
         have hnb74:=NB354_358.out
         have hnc74:=NB358_354.out
         have hcz75_0:w58.cell? ⟨gb354,0,none⟩=some (.slice Ao33 t345.length co33):=(Zb BK354.out 0).trans rfl
         have hcz75_1:w58.cell? ⟨gb354,1,none⟩=some (.slice Ao36 t348.length co36):=(Zb BK354.out 1).trans rfl
         have hcz75_2:w58.cell? ⟨gb354,2,none⟩=some (.int .i64 t351):=(Zb BK354.out 2).trans rfl
         have hcz75_3:w58.cell? ⟨gb354,3,none⟩=some (.int .i64 t352):=(Zb BK354.out 3).trans rfl
         have hfz75_0:=Zc BK354.out 0
         have hfz75_1:=Zc BK354.out 1
         have hfz75_2:=Zc BK354.out 2
         have hfz75_3:=Zc BK354.out 3
         go_wp2_with (first|((first|((with_reducible refine gate_callee (f:=10) rfl ?_);refine goesL_ (some 60) rfl rfl Try.func10 z12_36 rfl #[.agg #[.slice Ao52 t365.length co52,.slice Ao57 t368.length co57,.int .i64 t371,.int .i64 t372],.agg #[.slice Ao33 t345.length co33,.slice Ao36 t348.length co36,.int .i64 t351,.int .i64 t352]] rfl z12_1 ?_;(with_reducible refine(laws_eqEffect.calls kj10 _ _ t365 _ _ t368 t371 t372 _ _ t345 _ _ t348 t351 t352 false _ ?side1 ?side2 ?side3 ?side4 ?side5 ?side6 ?side7 ?side8 A59.out).mono ?_))|(go_at_call 10;(with_reducible refine(laws_eqEffect.calls kj10 _ _ t365 _ _ t368 t371 t372 _ _ t345 _ _ t348 t351 t352 false _ ?side1 ?side2 ?side3 ?side4 ?side5 ?side6 ?side7 ?side8 A59.out).mono ?_)));(case side1=>repeat(first|exact(Yb HO367.out).2.2|(with_reducible refine Yc ?_ _)|(with_reducible refine Yd ?_ _)|(with_reducible refine Ye ?_)));(case side2=>exact(Yb HO367.out).2.1);(case side3=>repeat(first|exact(Yb HO370.out).2.2|(with_reducible refine Yc ?_ _)|(with_reducible refine Yd ?_ _)|(with_reducible refine Ye ?_)));(case side4=>exact(Yb HO370.out).2.1);(case side5=>repeat(first|exact(Yb HO347.out).2.2|(with_reducible refine Yc ?_ _)|(with_reducible refine Yd ?_ _)|(with_reducible refine Ye ?_)));(case side6=>exact(Yb HO347.out).2.1);(case side7=>repeat(first|exact(Yb HO350.out).2.2|(with_reducible refine Yc ?_ _)|(with_reducible refine Yd ?_ _)|(with_reducible refine Ye ?_)));(case side8=>exact(Yb HO350.out).2.1);rintro e w76 ⟨rfl,hb⟩;(first|refine⟨_,rfl,?_⟩|skip);replace HO338:=Za (Kd.S_below z12_15 hb);replace HO341:=Za (Kd.R_below z12_13 hb);replace HO344:=Za (Kd.R_below z12_14 hb);replace HO347:=Za (Kd.R_below z12_17 hb);replace HO350:=Za (Kd.R_below z12_16 hb);replace HO357:=Za (Kd.S_below z12_31 hb);replace HO361:=Za (Kd.R_below z12_23 hb);replace HO364:=Za (Kd.R_below z12_33 hb);replace HO367:=Za (Kd.R_below (by(with_reducible repeat(first|apply Zn|apply Zo|apply Zm));exact HO367.out) hb);replace HO370:=Za (Kd.R_below (by(with_reducible repeat(first|apply Zn|apply Zo|apply Zm));exact HO370.out) hb);replace BK334:=Za (Zg (g:=gb334) (o:= .cells #[.slice A0_0 l0_0.length c0_0] 24 (0,0)) z12_0 hb);replace BK354:=Za (Zg (g:=gb354) (o:= .cells #[.slice Ao33 t345.length co33,.slice Ao36 t348.length co36,.int .i64 t351,.int .i64 t352] 28 (0,0)) z12_3 hb);replace BK358:=Za (Zg (g:=gb358) (o:= .cells #[.slice Ao41 t355.length co41] 33 (0,0)) z12_12 hb);replace BK374:=Za (Zg (g:=gb374) (o:= .cells #[.slice Ao52 t365.length co52,.slice Ao57 t368.length co57,.int .i64 t371,.int .i64 t372] 28 (0,0)) z12_5 hb);replace HB:=Za (Zj z12_2 hb);(try clear hb);(try clear hb2);(try clear hk);(try clear hi)))
         go_meet
         case rel=>exact⟨_,(true),z12_40,H',⟨by have:=HJ4.out;have:=HJ7.out;have:=HJ10.out;first|omega|exact Nat.le_refl _⟩,⟨by(with_reducible repeat(first|apply Zn|apply Zo|apply Zm));exact Zw HO361.out (fun _ hk=>⟨hk.2.2.2.2.1,⟨hk.2.2.1,⟨hk.2.2.2.1,⟨hk.2.2.2.2.2.1,hk.2.2.2.2.2.2⟩⟩⟩⟩)⟩,⟨by(with_reducible repeat(first|apply Zn|apply Zo|apply Zm));exact Zw HO364.out (fun _ hk=>⟨hk.2.2.2.2.1,⟨hk.2.2.1,⟨hk.2.2.2.1,⟨hk.2.2.2.2.2.1,hk.2.2.2.2.2.2⟩⟩⟩⟩)⟩,⟨by(with_reducible repeat(first|apply Zn|apply Zo|apply Zm));exact Zw HO347.out (fun _ hk=>⟨hk.2.2.2.1,⟨hk.2.2.2.2.1,⟨hk.2.2.1,⟨hk.2.2.2.2.2.1,hk.2.2.2.2.2.2⟩⟩⟩⟩)⟩,⟨by(with_reducible repeat(first|apply Zn|apply Zo|apply Zm));exact Zw HO350.out (fun _ hk=>⟨hk.2.2.2.1,⟨hk.2.2.2.2.1,⟨hk.2.2.1,⟨hk.2.2.2.2.2.1,hk.2.2.2.2.2.2⟩⟩⟩⟩)⟩,⟨by(with_reducible repeat(first|apply Kd.S_alloc|apply Kd.S_drewN|apply Kd.S_drew));exact Kd.S_mono HO357.out (fun _ hk=>trivial)⟩,⟨by(with_reducible repeat(first|apply Zn|apply Zo|apply Zm));exact Zw HO367.out (fun _ hk=>⟨hk.2.2.2.2.1,⟨hk.2.2.2.2.2.1,⟨hk.2.2.1,⟨hk.2.2.2.1,hk.2.2.2.2.2.2⟩⟩⟩⟩)⟩,⟨by(with_reducible repeat(first|apply Zn|apply Zo|apply Zm));exact Zw HO370.out (fun _ hk=>⟨hk.2.2.2.2.1,⟨hk.2.2.2.2.2.1,⟨hk.2.2.1,⟨hk.2.2.2.1,hk.2.2.2.2.2.2⟩⟩⟩⟩)⟩,⟨by(with_reducible repeat(first|refine blk_drewN ?_ _|refine blk_drew ?_|refine blk_alloc ?_ _));exact BK334.out⟩,⟨by(with_reducible repeat(first|refine blk_drewN ?_ _|refine blk_drew ?_|refine blk_alloc ?_ _));exact BK354.out⟩,⟨by(with_reducible repeat(first|refine blk_drewN ?_ _|refine blk_drew ?_|refine blk_alloc ?_ _));exact BK358.out⟩,⟨by(with_reducible repeat(first|refine blk_drewN ?_ _|refine blk_drew ?_|refine blk_alloc ?_ _));exact BK374.out⟩,⟨by repeat(first|(with_reducible first|exact HB.out|apply Zh|apply Zf|apply Ze|refine Zd ?_ GE334.out|refine Zd ?_ GE354.out|refine Zd ?_ GE358.out|refine Zd ?_ GE374.out)|exact HB.out)⟩⟩
       case rest=>
        clear HC23
        (try clear c2);(try clear c3);(try clear hcz12_0);(try clear hcz24_0);(try clear hcz35_0);(try clear hcz35_1);(try clear hcz35_2);(try clear hcz35_3);(try clear hcz38_0);(try clear hcz44_0);(try clear hcz47_0);(try clear hcz56_0);(try clear hcz56_1);(try clear hcz56_2);(try clear hcz56_3);(try clear hfz12_0);(try clear hfz24_0);(try clear hfz35_0);(try clear hfz35_1);(try clear hfz35_2);(try clear hfz35_3);(try clear hfz38_0);(try clear hfz44_0);(try clear hfz47_0);(try clear hfz56_0);(try clear hfz56_1);(try clear hfz56_2);(try clear hfz56_3)
        obtain⟨kq,x66_22,rfl,HA,HJ22,HO_13,HO_14,HO_355000,HO_355001,HO_359000,HO_375000,HO_375001,BK334,BK354,BK358,BK374,HB⟩:=hcut
        cases kq with
        |zero=>exact absurd HA.out (by simp[laws_FnExactTaskEffect.j3])
        |succ kj22=>
         have H:=HA.out
         clear HA
         simp only[laws_FnExactTaskEffect.j3] at H
         have HC77:=Za H
         clear H
         go_upto_if 66 with(fail)
         go_cut [] (fun wc=>∃(kq:Nat),Aside0 (laws_FnExactTaskEffect.j4 kq a1 l2 l3 t353 t359 t362 t373 l0_0 t345 t348 t351 t352 t355 t365 t368 t371 t372=some r)∧Aside0 (kq≤kj22)∧Aside0 (Kd.R (Kd.int .i64) 3 wc w.heap.size (fun k_=>some k_≠((.slice Ao49 t362.length co49):Value).ownBlock∧some k_≠((.slice Ao33 t345.length co33):Value).ownBlock∧some k_≠((.slice Ao36 t348.length co36):Value).ownBlock∧some k_≠((.slice Ao52 t365.length co52):Value).ownBlock∧some k_≠((.slice Ao57 t368.length co57):Value).ownBlock) (.slice Ao48 t359.length co48) t359)∧Aside0 (Kd.R (Kd.int .i64) 3 wc w.heap.size (fun k_=>some k_≠((.slice Ao48 t359.length co48):Value).ownBlock∧some k_≠((.slice Ao33 t345.length co33):Value).ownBlock∧some k_≠((.slice Ao36 t348.length co36):Value).ownBlock∧some k_≠((.slice Ao52 t365.length co52):Value).ownBlock∧some k_≠((.slice Ao57 t368.length co57):Value).ownBlock) (.slice Ao49 t362.length co49) t362)∧Aside0 (Kd.R (Kd.int .i64) 3 wc w.heap.size (fun k_=>some k_≠((.slice Ao48 t359.length co48):Value).ownBlock∧some k_≠((.slice Ao49 t362.length co49):Value).ownBlock∧some k_≠((.slice Ao36 t348.length co36):Value).ownBlock∧some k_≠((.slice Ao52 t365.length co52):Value).ownBlock∧some k_≠((.slice Ao57 t368.length co57):Value).ownBlock) (.slice Ao33 t345.length co33) t345)∧Aside0 (Kd.R (Kd.int .i64) 3 wc w.heap.size (fun k_=>some k_≠((.slice Ao48 t359.length co48):Value).ownBlock∧some k_≠((.slice Ao49 t362.length co49):Value).ownBlock∧some k_≠((.slice Ao33 t345.length co33):Value).ownBlock∧some k_≠((.slice Ao52 t365.length co52):Value).ownBlock∧some k_≠((.slice Ao57 t368.length co57):Value).ownBlock) (.slice Ao36 t348.length co36) t348)∧Aside0 (Kd.S k64 64 wc w.heap.size (fun _=>True) (.slice Ao41 t355.length co41) t355)∧Aside0 (Kd.R (Kd.int .i64) 3 wc w.heap.size (fun k_=>some k_≠((.slice Ao48 t359.length co48):Value).ownBlock∧some k_≠((.slice Ao49 t362.length co49):Value).ownBlock∧some k_≠((.slice Ao33 t345.length co33):Value).ownBlock∧some k_≠((.slice Ao36 t348.length co36):Value).ownBlock∧some k_≠((.slice Ao57 t368.length co57):Value).ownBlock) (.slice Ao52 t365.length co52) t365)∧Aside0 (Kd.R (Kd.int .i64) 3 wc w.heap.size (fun k_=>some k_≠((.slice Ao48 t359.length co48):Value).ownBlock∧some k_≠((.slice Ao49 t362.length co49):Value).ownBlock∧some k_≠((.slice Ao33 t345.length co33):Value).ownBlock∧some k_≠((.slice Ao36 t348.length co36):Value).ownBlock∧some k_≠((.slice Ao52 t365.length co52):Value).ownBlock) (.slice Ao57 t368.length co57) t368)∧Aside0 (wc.heap[gb334]? =some (.cells #[(.slice A0_0 l0_0.length c0_0)] 24 (0,0)))∧Aside0 (wc.heap[gb354]? =some (.cells #[(.slice Ao33 t345.length co33),(.slice Ao36 t348.length co36),.int .i64 t351,.int .i64 t352] 28 (0,0)))∧Aside0 (wc.heap[gb358]? =some (.cells #[(.slice Ao41 t355.length co41)] 33 (0,0)))∧Aside0 (wc.heap[gb374]? =some (.cells #[(.slice Ao52 t365.length co52),(.slice Ao57 t368.length co57),.int .i64 t371,.int .i64 t372] 28 (0,0)))∧Aside0 (Below w.heap.size w wc))
         case first=>
          have H:=HC77.out
          clear HC77
          by_cases c78:x66_22=true
          ·subst c78
           rw[if_pos rfl] at H
           exact absurd (hT.out.symm.trans (Zk H).symm) z12_37
          ·replace c78:=Bool.eq_false_iff.mpr c78
           subst c78
           rw[if_neg (show ¬(false=true) by decide)] at H
           have H':=Za H
           clear H
           go_wp2
           go_meet
           case rel=>exact⟨_,H',⟨by have:=HJ4.out;have:=HJ7.out;have:=HJ10.out;have:=HJ22.out;first|omega|exact Nat.le_refl _⟩,⟨by(with_reducible repeat(first|apply Zn|apply Zo|apply Zm));exact HO_13.out⟩,⟨by(with_reducible repeat(first|apply Zn|apply Zo|apply Zm));exact HO_14.out⟩,⟨by(with_reducible repeat(first|apply Zn|apply Zo|apply Zm));exact HO_355000.out⟩,⟨by(with_reducible repeat(first|apply Zn|apply Zo|apply Zm));exact HO_355001.out⟩,⟨by(with_reducible repeat(first|apply Kd.S_alloc|apply Kd.S_drewN|apply Kd.S_drew));exact HO_359000.out⟩,⟨by(with_reducible repeat(first|apply Zn|apply Zo|apply Zm));exact HO_375000.out⟩,⟨by(with_reducible repeat(first|apply Zn|apply Zo|apply Zm));exact HO_375001.out⟩,⟨by(with_reducible repeat(first|refine blk_drewN ?_ _|refine blk_drew ?_|refine blk_alloc ?_ _));exact BK334.out⟩,⟨by(with_reducible repeat(first|refine blk_drewN ?_ _|refine blk_drew ?_|refine blk_alloc ?_ _));exact BK354.out⟩,⟨by(with_reducible repeat(first|refine blk_drewN ?_ _|refine blk_drew ?_|refine blk_alloc ?_ _));exact BK358.out⟩,⟨by(with_reducible repeat(first|refine blk_drewN ?_ _|refine blk_drew ?_|refine blk_alloc ?_ _));exact BK374.out⟩,⟨by repeat(first|(with_reducible first|exact HB.out|apply Zh|apply Zf|apply Ze|refine Zd ?_ GE334.out|refine Zd ?_ GE354.out|refine Zd ?_ GE358.out|refine Zd ?_ GE374.out)|exact HB.out)⟩⟩
         case rest=>
          clear HC77
          (try clear c2);(try clear c3);(try clear hcz12_0);(try clear hcz24_0);(try clear hcz35_0);(try clear hcz35_1);(try clear hcz35_2);(try clear hcz35_3);(try clear hcz38_0);(try clear hcz44_0);(try clear hcz47_0);(try clear hcz56_0);(try clear hcz56_1);(try clear hcz56_2);(try clear hcz56_3);(try clear hfz12_0);(try clear hfz24_0);(try clear hfz35_0);(try clear hfz35_1);(try clear hfz35_2);(try clear hfz35_3);(try clear hfz38_0);(try clear hfz44_0);(try clear hfz47_0);(try clear hfz56_0);(try clear hfz56_1);(try clear hfz56_2);(try clear hfz56_3)
          obtain⟨kq,HA,HJ76,HO_13,HO_14,HO_355000,HO_355001,HO_359000,HO_375000,HO_375001,BK334,BK354,BK358,BK374,HB⟩:=hcut
          cases kq with
          |zero=>exact absurd HA.out (by simp[laws_FnExactTaskEffect.j4])
          |succ kj76=>
           have H:=HA.out
           clear HA
           simp only[laws_FnExactTaskEffect.j4] at H
           replace H:=Zl H
           obtain⟨t376,A790,H⟩:=H
           replace H:((laws_eqProgram.f kj76 t355 t376).bind fun t379=>(if t379=true then (laws_FnExactTaskEffect.j5 kj76 a1 l2 l3 t353 t359 t362 t373 l0_0 t345 t348 t351 t352 t355 t365 t368 t371 t372) else (some false)))=some r:=H
           have A79:=Za A790
           clear A790
           replace H:=Zl H
           obtain⟨t379,A800,H⟩:=H
           replace H:(if t379=true then (laws_FnExactTaskEffect.j5 kj76 a1 l2 l3 t353 t359 t362 t373 l0_0 t345 t348 t351 t352 t355 t365 t368 t371 t372) else (some false))=some r:=H
           have A80:=Za A800
           clear A800
           have HC81:=Za H
           clear H
           try go_wp2
           have n0_:=Za (Zm HO_13.out)
           have n1_:=Za (Zm HO_14.out)
           have n2_:=Za (Zm HO_355000.out)
           have n3_:=Za (Zm HO_355001.out)
           have n4_:=Za (Kd.S_drew HO_359000.out)
           have n5_:=Za (Zm HO_375000.out)
           have n6_:=Za (Zm HO_375001.out)
           have n7_:=Za (blk_drew BK334.out)
           have n8_:=Za (blk_drew BK354.out)
           have n9_:=Za (blk_drew BK358.out)
           have n10_:=Za (blk_drew BK374.out)
           have n11_:=Za (Ze HB.out)
           clear HO_13
           clear HO_14
           clear HO_355000
           clear HO_355001
           clear HO_359000
           clear HO_375000
           clear HO_375001
           clear BK334
           clear BK354
           clear BK358
           clear BK374
           clear HB
           have HO_13:=n0_
           have HO_14:=n1_
           have HO_355000:=n2_
           have HO_355001:=n3_
           have HO_359000:=n4_
           have HO_375000:=n5_
           have HO_375001:=n6_
           have BK334:=n7_
           have BK354:=n8_
           have BK358:=n9_
           have BK374:=n10_
           have HB:=n11_
           clear n0_ n1_ n2_ n3_ n4_ n5_ n6_ n7_ n8_ n9_ n10_ n11_
           refine start_ (n:=5) (S:=fun w'=>w'.cell? ⟨gb358,0,none⟩=some (.slice Ao41 t355.length co41)∧w'.cell? ⟨gb334,0,none⟩=some (.slice A0_0 l0_0.length c0_0)) (ds:=[]) #[false,false,false,false,false] z12_36 rfl rfl ⟨(Zb BK358.out 0).trans rfl,(Zb BK334.out 0).trans rfl⟩ (fun hHeld=> ?_)
           generalize wc.drew=w82 at HO_13 HO_14 HO_355000 HO_355001 HO_359000 HO_375000 HO_375001 BK334 BK354 BK358 BK374 HB hHeld ⊢
           refine take_ (i:=0) (N:=some 67) (v:= ?_) (a':= ?_) #[true,false,false,false,false] rfl rfl z12_36 (fun _ _ _ h=>h) (Or.inl ⟨by rfl,?_⟩) hHeld ?_ ?_
           rotate_left
           ·rintro w' ⟨s0,s1⟩
            go_simp
            with_reducible rfl
           rotate_left
           ·simp only[Act.put,Zq,Zr,Zs,i64_w,i32_w]
            rfl
           refine take_ (i:=1) (N:=some 68) (v:= ?_) (a':= ?_) #[true,true,false,false,false] rfl rfl z12_36 (fun _ _ _ h=>h) (Or.inl ⟨by rfl,?_⟩) hHeld ?_ ?_
           rotate_left
           ·rintro w' ⟨s0,s1⟩
            go_simp
            with_reducible rfl
           rotate_left
           ·simp only[Act.put,Zq,Zr,Zs,i64_w,i32_w]
            rfl
           refine one_ (i:=2) (N:=some 69) #[true,true,true,false,false] rfl rfl z12_36 z12_37 (fun K hK=> ?_)
           refine goes_ Try.func7 z12_36 rfl #[.agg #[.slice A0_0 l0_0.length c0_0]] (by rfl) rfl rfl z12_1 ?_
           with_reducible refine(laws_toProgram.calls kj76 _ _ l0_0 t376 _ ?side1 ?side2 A79.out).mono ?_
           (case side1=>exact z12_24)
           (case side2=>exact HC0_0.out)
           rintro e w83 ⟨v377,rfl,ho0,hb⟩
           refine⟨_,rfl,?_⟩
           have n0_:=Za (Kd.R_below z12_21 hb)
           have n1_:=Za (Kd.R_below z12_20 hb)
           have n2_:=Za (Kd.R_below z12_10 hb)
           have n3_:=Za (Kd.R_below z12_9 hb)
           have n4_:=Za (Kd.S_elder' z12_34 (Kd.S_base ho0) hb)
           have n5_:=Za (Kd.R_below z12_8 hb)
           have n6_:=Za (Kd.R_below z12_7 hb)
           have n7_:=Za (Kd.S_lower (Kd.S_new' ho0 (Kd.S_lt z12_34)) (Zy z12_2))
           have n8_:=Za (Zg (g:=gb334) (o:= .cells #[.slice A0_0 l0_0.length c0_0] 24 (0,0)) z12_0 hb)
           have n9_:=Za (Zg (g:=gb354) (o:= .cells #[.slice Ao33 t345.length co33,.slice Ao36 t348.length co36,.int .i64 t351,.int .i64 t352] 28 (0,0)) z12_3 hb)
           have n10_:=Za (Zg (g:=gb358) (o:= .cells #[.slice Ao41 t355.length co41] 33 (0,0)) z12_12 hb)
           have n11_:=Za (Zg (g:=gb374) (o:= .cells #[.slice Ao52 t365.length co52,.slice Ao57 t368.length co57,.int .i64 t371,.int .i64 t372] 28 (0,0)) z12_5 hb)
           have n12_:=Za (Zj z12_2 hb)
           clear HO_13
           clear HO_14
           clear HO_355000
           clear HO_355001
           clear HO_359000
           clear HO_375000
           clear HO_375001
           clear BK334
           clear BK354
           clear BK358
           clear BK374
           clear HB
           have HO_13:=n0_
           have HO_14:=n1_
           have HO_355000:=n2_
           have HO_355001:=n3_
           have HO_359000:=n4_
           have HO_375000:=n5_
           have HO_375001:=n6_
           have HO378:=n7_
           have BK334:=n8_
           have BK354:=n9_
           have BK358:=n10_
           have BK374:=n11_
           have HB:=n12_
           clear n0_ n1_ n2_ n3_ n4_ n5_ n6_ n7_ n8_ n9_ n10_ n11_ n12_
           (try clear hb)
           (try clear hb2)
           (try clear hk)
           (try clear hi)
           (try clear ho0)
           obtain⟨Ao84,co84,eo84⟩:=Kd.S_slice HO378.out
           (first|subst eo84|(injection eo84 with f1_ f2_ f3_;have f4_:=f1_.symm;have f5_:=f3_.symm;clear f1_ f2_ f3_;subst f4_;subst f5_))
           refine hK.out _ _ ⟨(Zb BK358.out 0).trans rfl,(Zb BK334.out 0).trans rfl⟩ (fun hHeld=> ?_)
           clear hK K
           refine norm_ (a':= ?_) ?_ ?_
           rotate_left
           ·show Act.put _ (some 69) _=_
            simp only[Act.put,Zq,Zr,Zs,i64_w,i32_w]
            rfl
           refine one_ (i:=3) (N:=some 70) #[true,true,true,true,false] rfl rfl z12_36 z12_37 (fun K hK=> ?_)
           refine goes_ Try.func11 z12_36 rfl #[.agg #[.slice Ao41 t355.length co41],.agg #[.slice Ao84 t376.length co84]] (by rfl) rfl rfl z12_1 ?_
           with_reducible refine(laws_eqProgram.calls kj76 _ _ t355 _ _ t376 t379 _ ?side1 ?side2 ?side3 ?side4 A80.out).mono ?_
           (case side1=>repeat(first|exact(Kd.S_reads' HO_359000.out).2.2|(with_reducible refine Yc ?_ _)|(with_reducible refine Yd ?_ _)|(with_reducible refine Ye ?_)))
           (case side2=>exact(Kd.S_reads' HO_359000.out).2.1)
           (case side3=>repeat(first|exact(Kd.S_reads' HO378.out).2.2|(with_reducible refine Yc ?_ _)|(with_reducible refine Yd ?_ _)|(with_reducible refine Ye ?_)))
           (case side4=>exact(Kd.S_reads' HO378.out).2.1)
           rintro e w85 ⟨rfl,hb⟩
           refine⟨_,rfl,?_⟩
           have n0_:=Za (Kd.R_below z12_21 hb)
           have n1_:=Za (Kd.R_below z12_20 hb)
           have n2_:=Za (Kd.R_below z12_10 hb)
           have n3_:=Za (Kd.R_below z12_9 hb)
           have n4_:=Za (Kd.S_below z12_34 hb)
           have n5_:=Za (Kd.R_below z12_8 hb)
           have n6_:=Za (Kd.R_below z12_7 hb)
           have n7_:=Za (Kd.S_below (by(with_reducible repeat(first|apply Kd.S_alloc|apply Kd.S_drewN|apply Kd.S_drew));exact HO378.out) hb)
           have n8_:=Za (Zg (g:=gb334) (o:= .cells #[.slice A0_0 l0_0.length c0_0] 24 (0,0)) z12_0 hb)
           have n9_:=Za (Zg (g:=gb354) (o:= .cells #[.slice Ao33 t345.length co33,.slice Ao36 t348.length co36,.int .i64 t351,.int .i64 t352] 28 (0,0)) z12_3 hb)
           have n10_:=Za (Zg (g:=gb358) (o:= .cells #[.slice Ao41 t355.length co41] 33 (0,0)) z12_12 hb)
           have n11_:=Za (Zg (g:=gb374) (o:= .cells #[.slice Ao52 t365.length co52,.slice Ao57 t368.length co57,.int .i64 t371,.int .i64 t372] 28 (0,0)) z12_5 hb)
           have n12_:=Za (Zj z12_2 hb)
           clear HO_13
           clear HO_14
           clear HO_355000
           clear HO_355001
           clear HO_359000
           clear HO_375000
           clear HO_375001
           clear HO378
           clear BK334
           clear BK354
           clear BK358
           clear BK374
           clear HB
           have HO_13:=n0_
           have HO_14:=n1_
           have HO_355000:=n2_
           have HO_355001:=n3_
           have HO_359000:=n4_
           have HO_375000:=n5_
           have HO_375001:=n6_
           have HO378:=n7_
           have BK334:=n8_
           have BK354:=n9_
           have BK358:=n10_
           have BK374:=n11_
           have HB:=n12_
           clear n0_ n1_ n2_ n3_ n4_ n5_ n6_ n7_ n8_ n9_ n10_ n11_ n12_
           (try clear hb)
           (try clear hb2)
           (try clear hk)
           (try clear hi)
           refine hK.out _ _ ⟨(Zb BK358.out 0).trans rfl,(Zb BK334.out 0).trans rfl⟩ (fun hHeld=> ?_)
           clear hK K
           refine norm_ (a':= ?_) ?_ ?_
           rotate_left
           ·show Act.put _ (some 70) _=_
            simp only[Act.put,Zq,Zr,Zs,i64_w,i32_w]
            rfl
           refine pure_ (i:=4) (N:=some 71) (v:= ?_) (a':= ?_) #[true,true,true,true,true] rfl rfl z12_36 (fun _ _ _ h=>h) (Or.inl ⟨by rfl,?_⟩) ?_ ?_
           rotate_left
           ·intro w'
            go_simp
            with_reducible rfl
           rotate_left
           ·simp only[Act.put,Zq,Zr,Zs,i64_w,i32_w]
            rfl
           refine done_ z12_36 ?_
           go_upto_if 71 with(fail)
           go_cut [] (fun wc=>∃(kq:Nat),Aside0 (laws_FnExactTaskEffect.j5 kq a1 l2 l3 t353 t359 t362 t373 l0_0 t345 t348 t351 t352 t355 t365 t368 t371 t372=some r)∧Aside0 (kq≤kj76)∧Aside0 (Kd.R (Kd.int .i64) 3 wc w.heap.size (fun k_=>some k_≠((.slice Ao49 t362.length co49):Value).ownBlock∧some k_≠((.slice Ao33 t345.length co33):Value).ownBlock∧some k_≠((.slice Ao36 t348.length co36):Value).ownBlock∧some k_≠((.slice Ao52 t365.length co52):Value).ownBlock∧some k_≠((.slice Ao57 t368.length co57):Value).ownBlock) (.slice Ao48 t359.length co48) t359)∧Aside0 (Kd.R (Kd.int .i64) 3 wc w.heap.size (fun k_=>some k_≠((.slice Ao48 t359.length co48):Value).ownBlock∧some k_≠((.slice Ao33 t345.length co33):Value).ownBlock∧some k_≠((.slice Ao36 t348.length co36):Value).ownBlock∧some k_≠((.slice Ao52 t365.length co52):Value).ownBlock∧some k_≠((.slice Ao57 t368.length co57):Value).ownBlock) (.slice Ao49 t362.length co49) t362)∧Aside0 (Kd.R (Kd.int .i64) 3 wc w.heap.size (fun k_=>some k_≠((.slice Ao48 t359.length co48):Value).ownBlock∧some k_≠((.slice Ao49 t362.length co49):Value).ownBlock∧some k_≠((.slice Ao36 t348.length co36):Value).ownBlock∧some k_≠((.slice Ao52 t365.length co52):Value).ownBlock∧some k_≠((.slice Ao57 t368.length co57):Value).ownBlock) (.slice Ao33 t345.length co33) t345)∧Aside0 (Kd.R (Kd.int .i64) 3 wc w.heap.size (fun k_=>some k_≠((.slice Ao48 t359.length co48):Value).ownBlock∧some k_≠((.slice Ao49 t362.length co49):Value).ownBlock∧some k_≠((.slice Ao33 t345.length co33):Value).ownBlock∧some k_≠((.slice Ao52 t365.length co52):Value).ownBlock∧some k_≠((.slice Ao57 t368.length co57):Value).ownBlock) (.slice Ao36 t348.length co36) t348)∧Aside0 (Kd.S k64 64 wc w.heap.size (fun _=>True) (.slice Ao41 t355.length co41) t355)∧Aside0 (Kd.R (Kd.int .i64) 3 wc w.heap.size (fun k_=>some k_≠((.slice Ao48 t359.length co48):Value).ownBlock∧some k_≠((.slice Ao49 t362.length co49):Value).ownBlock∧some k_≠((.slice Ao33 t345.length co33):Value).ownBlock∧some k_≠((.slice Ao36 t348.length co36):Value).ownBlock∧some k_≠((.slice Ao57 t368.length co57):Value).ownBlock) (.slice Ao52 t365.length co52) t365)∧Aside0 (Kd.R (Kd.int .i64) 3 wc w.heap.size (fun k_=>some k_≠((.slice Ao48 t359.length co48):Value).ownBlock∧some k_≠((.slice Ao49 t362.length co49):Value).ownBlock∧some k_≠((.slice Ao33 t345.length co33):Value).ownBlock∧some k_≠((.slice Ao36 t348.length co36):Value).ownBlock∧some k_≠((.slice Ao52 t365.length co52):Value).ownBlock) (.slice Ao57 t368.length co57) t368)∧Aside0 (wc.heap[gb334]? =some (.cells #[(.slice A0_0 l0_0.length c0_0)] 24 (0,0)))∧Aside0 (wc.heap[gb354]? =some (.cells #[(.slice Ao33 t345.length co33),(.slice Ao36 t348.length co36),.int .i64 t351,.int .i64 t352] 28 (0,0)))∧Aside0 (wc.heap[gb358]? =some (.cells #[(.slice Ao41 t355.length co41)] 33 (0,0)))∧Aside0 (wc.heap[gb374]? =some (.cells #[(.slice Ao52 t365.length co52),(.slice Ao57 t368.length co57),.int .i64 t371,.int .i64 t372] 28 (0,0)))∧Aside0 (Below w.heap.size w wc))
           case first=>
            have H:=HC81.out
            clear HC81
            by_cases c86:t379=true
            ·subst c86
             rw[if_pos rfl] at H
             have H':=Za H
             clear H
             go_wp2
             go_meet
             case rel=>exact⟨_,H',⟨by have:=HJ4.out;have:=HJ7.out;have:=HJ10.out;have:=HJ22.out;have:=HJ76.out;first|omega|exact Nat.le_refl _⟩,⟨by(with_reducible repeat(first|apply Zn|apply Zo|apply Zm));exact HO_13.out⟩,⟨by(with_reducible repeat(first|apply Zn|apply Zo|apply Zm));exact HO_14.out⟩,⟨by(with_reducible repeat(first|apply Zn|apply Zo|apply Zm));exact HO_355000.out⟩,⟨by(with_reducible repeat(first|apply Zn|apply Zo|apply Zm));exact HO_355001.out⟩,⟨by(with_reducible repeat(first|apply Kd.S_alloc|apply Kd.S_drewN|apply Kd.S_drew));exact Kd.S_mono HO_359000.out (fun _ hk=>trivial)⟩,⟨by(with_reducible repeat(first|apply Zn|apply Zo|apply Zm));exact HO_375000.out⟩,⟨by(with_reducible repeat(first|apply Zn|apply Zo|apply Zm));exact HO_375001.out⟩,⟨by(with_reducible repeat(first|refine blk_drewN ?_ _|refine blk_drew ?_|refine blk_alloc ?_ _));exact BK334.out⟩,⟨by(with_reducible repeat(first|refine blk_drewN ?_ _|refine blk_drew ?_|refine blk_alloc ?_ _));exact BK354.out⟩,⟨by(with_reducible repeat(first|refine blk_drewN ?_ _|refine blk_drew ?_|refine blk_alloc ?_ _));exact BK358.out⟩,⟨by(with_reducible repeat(first|refine blk_drewN ?_ _|refine blk_drew ?_|refine blk_alloc ?_ _));exact BK374.out⟩,⟨by repeat(first|(with_reducible first|exact HB.out|apply Zh|apply Zf|apply Ze|refine Zd ?_ GE334.out|refine Zd ?_ GE354.out|refine Zd ?_ GE358.out|refine Zd ?_ GE374.out)|exact HB.out)⟩⟩
            ·replace c86:=Bool.eq_false_iff.mpr c86
             subst c86
             rw[if_neg (show ¬(false=true) by decide)] at H
             exact absurd (hT.out.symm.trans (Zk H).symm) z12_37
           case rest=>
            clear HC81
            (try clear c2);(try clear c3);(try clear hcz12_0);(try clear hcz24_0);(try clear hcz35_0);(try clear hcz35_1);(try clear hcz35_2);(try clear hcz35_3);(try clear hcz38_0);(try clear hcz44_0);(try clear hcz47_0);(try clear hcz56_0);(try clear hcz56_1);(try clear hcz56_2);(try clear hcz56_3);(try clear hfz12_0);(try clear hfz24_0);(try clear hfz35_0);(try clear hfz35_1);(try clear hfz35_2);(try clear hfz35_3);(try clear hfz38_0);(try clear hfz44_0);(try clear hfz47_0);(try clear hfz56_0);(try clear hfz56_1);(try clear hfz56_2);(try clear hfz56_3)
            obtain⟨kq,HA,HJ80,HO_13,HO_14,HO_355000,HO_355001,HO_359000,HO_375000,HO_375001,BK334,BK354,BK358,BK374,HB⟩:=hcut
            cases kq with
            |zero=>exact absurd HA.out (by simp[laws_FnExactTaskEffect.j5])
            |succ kj80=>
             have H:=HA.out
             clear HA
             simp only[laws_FnExactTaskEffect.j5] at H
             replace H:=Zl H
             obtain⟨t380,A870,H⟩:=H
             replace H:((laws_eqIntS.f kj80 t359 t380).bind fun t383=>(if t383=true then (laws_FnExactTaskEffect.j6 kj80 a1 l2 l3 t353 t359 t362 t373 l0_0 t345 t348 t351 t352 t355 t365 t368 t371 t372) else (some false)))=some r:=H
             have A87:=Za A870
             clear A870
             replace H:=Zl H
             obtain⟨t383,A880,H⟩:=H
             replace H:(if t383=true then (laws_FnExactTaskEffect.j6 kj80 a1 l2 l3 t353 t359 t362 t373 l0_0 t345 t348 t351 t352 t355 t365 t368 t371 t372) else (some false))=some r:=H
             have A88:=Za A880
             clear A880
             have HC89:=Za H
             clear H
             go_upto_if 76 with(first|((first|((with_reducible refine gate_callee (f:=8) rfl ?_);refine goesL_ (some 74) rfl rfl Try.func8 z12_36 rfl #[.slice A2 l2.length c2] rfl z12_1 ?_;(with_reducible refine(laws_toIntS.calls kj80 _ _ l2 t380 _ ?side1 ?side2 A87.out).mono ?_))|(go_at_call 8;(with_reducible refine(laws_toIntS.calls kj80 _ _ l2 t380 _ ?side1 ?side2 A87.out).mono ?_)));(case side1=>exact z12_35);(case side2=>exact HC2.out);rintro e w90 ⟨v381,rfl,ho0,hb⟩;(first|refine⟨_,rfl,?_⟩|skip);replace HO_359000:=Za (Kd.S_below z12_34 hb);have HO382:=Za (Kd.R_lower (Kd.R_new' (Kd.R_new' (Kd.R_new' (Kd.R_new' (Kd.R_new' (Kd.R_new' ho0 (Kd.R_lt z12_21)) (Kd.R_lt z12_20)) (Kd.R_lt z12_10)) (Kd.R_lt z12_9)) (Kd.R_lt z12_8)) (Kd.R_lt z12_7)) (Zy z12_2));replace HO_13:=Za (Ym z12_21 (Yf ho0) hb);replace HO_14:=Za (Ym z12_20 (Yf ho0) hb);replace HO_355000:=Za (Ym z12_10 (Yf ho0) hb);replace HO_355001:=Za (Ym z12_9 (Yf ho0) hb);replace HO_375000:=Za (Ym z12_8 (Yf ho0) hb);replace HO_375001:=Za (Ym z12_7 (Yf ho0) hb);replace BK334:=Za (Zg (g:=gb334) (o:= .cells #[.slice A0_0 l0_0.length c0_0] 24 (0,0)) z12_0 hb);replace BK354:=Za (Zg (g:=gb354) (o:= .cells #[.slice Ao33 t345.length co33,.slice Ao36 t348.length co36,.int .i64 t351,.int .i64 t352] 28 (0,0)) z12_3 hb);replace BK358:=Za (Zg (g:=gb358) (o:= .cells #[.slice Ao41 t355.length co41] 33 (0,0)) z12_12 hb);replace BK374:=Za (Zg (g:=gb374) (o:= .cells #[.slice Ao52 t365.length co52,.slice Ao57 t368.length co57,.int .i64 t371,.int .i64 t372] 28 (0,0)) z12_5 hb);replace HB:=Za (Zj z12_2 hb);(try clear hb);(try clear hb2);(try clear hk);(try clear hi);(try clear ho0);obtain⟨Ao91,co91,eo91⟩:=Yn HO382.out;subst eo91)|((first|((with_reducible refine gate_callee (f:=12) rfl ?_);refine goesL_ (some 75) rfl rfl Try.func12 z12_36 rfl #[.slice Ao48 t359.length co48,.slice Ao91 t380.length co91] rfl z12_1 ?_;(with_reducible refine(laws_eqIntS.calls kj80 _ _ t359 _ _ t380 t383 _ ?side1 ?side2 ?side3 ?side4 A88.out).mono ?_))|(go_at_call 12;(with_reducible refine(laws_eqIntS.calls kj80 _ _ t359 _ _ t380 t383 _ ?side1 ?side2 ?side3 ?side4 A88.out).mono ?_)));(case side1=>repeat(first|exact(Yb HO_13.out).2.2|(with_reducible refine Yc ?_ _)|(with_reducible refine Yd ?_ _)|(with_reducible refine Ye ?_)));(case side2=>exact(Yb HO_13.out).2.1);(case side3=>repeat(first|exact(Yb HO382.out).2.2|(with_reducible refine Yc ?_ _)|(with_reducible refine Yd ?_ _)|(with_reducible refine Ye ?_)));(case side4=>exact(Yb HO382.out).2.1);rintro e w' ⟨rfl,⟨nd,rfl⟩⟩;(first|refine⟨_,rfl,?_⟩|skip)))
             (try simp only[Act.put,Zq,Zr,Zs])
             go_cut [] (fun wc=>∃(kq:Nat),Aside0 (laws_FnExactTaskEffect.j6 kq a1 l2 l3 t353 t359 t362 t373 l0_0 t345 t348 t351 t352 t355 t365 t368 t371 t372=some r)∧Aside0 (kq≤kj80)∧Aside0 (Kd.R (Kd.int .i64) 3 wc w.heap.size (fun k_=>some k_≠((.slice Ao49 t362.length co49):Value).ownBlock∧some k_≠((.slice Ao33 t345.length co33):Value).ownBlock∧some k_≠((.slice Ao36 t348.length co36):Value).ownBlock∧some k_≠((.slice Ao52 t365.length co52):Value).ownBlock∧some k_≠((.slice Ao57 t368.length co57):Value).ownBlock) (.slice Ao48 t359.length co48) t359)∧Aside0 (Kd.R (Kd.int .i64) 3 wc w.heap.size (fun k_=>some k_≠((.slice Ao48 t359.length co48):Value).ownBlock∧some k_≠((.slice Ao33 t345.length co33):Value).ownBlock∧some k_≠((.slice Ao36 t348.length co36):Value).ownBlock∧some k_≠((.slice Ao52 t365.length co52):Value).ownBlock∧some k_≠((.slice Ao57 t368.length co57):Value).ownBlock) (.slice Ao49 t362.length co49) t362)∧Aside0 (Kd.R (Kd.int .i64) 3 wc w.heap.size (fun k_=>some k_≠((.slice Ao48 t359.length co48):Value).ownBlock∧some k_≠((.slice Ao49 t362.length co49):Value).ownBlock∧some k_≠((.slice Ao36 t348.length co36):Value).ownBlock∧some k_≠((.slice Ao52 t365.length co52):Value).ownBlock∧some k_≠((.slice Ao57 t368.length co57):Value).ownBlock) (.slice Ao33 t345.length co33) t345)∧Aside0 (Kd.R (Kd.int .i64) 3 wc w.heap.size (fun k_=>some k_≠((.slice Ao48 t359.length co48):Value).ownBlock∧some k_≠((.slice Ao49 t362.length co49):Value).ownBlock∧some k_≠((.slice Ao33 t345.length co33):Value).ownBlock∧some k_≠((.slice Ao52 t365.length co52):Value).ownBlock∧some k_≠((.slice Ao57 t368.length co57):Value).ownBlock) (.slice Ao36 t348.length co36) t348)∧Aside0 (Kd.S k64 64 wc w.heap.size (fun _=>True) (.slice Ao41 t355.length co41) t355)∧Aside0 (Kd.R (Kd.int .i64) 3 wc w.heap.size (fun k_=>some k_≠((.slice Ao48 t359.length co48):Value).ownBlock∧some k_≠((.slice Ao49 t362.length co49):Value).ownBlock∧some k_≠((.slice Ao33 t345.length co33):Value).ownBlock∧some k_≠((.slice Ao36 t348.length co36):Value).ownBlock∧some k_≠((.slice Ao57 t368.length co57):Value).ownBlock) (.slice Ao52 t365.length co52) t365)∧Aside0 (Kd.R (Kd.int .i64) 3 wc w.heap.size (fun k_=>some k_≠((.slice Ao48 t359.length co48):Value).ownBlock∧some k_≠((.slice Ao49 t362.length co49):Value).ownBlock∧some k_≠((.slice Ao33 t345.length co33):Value).ownBlock∧some k_≠((.slice Ao36 t348.length co36):Value).ownBlock∧some k_≠((.slice Ao52 t365.length co52):Value).ownBlock) (.slice Ao57 t368.length co57) t368)∧Aside0 (wc.heap[gb334]? =some (.cells #[(.slice A0_0 l0_0.length c0_0)] 24 (0,0)))∧Aside0 (wc.heap[gb354]? =some (.cells #[(.slice Ao33 t345.length co33),(.slice Ao36 t348.length co36),.int .i64 t351,.int .i64 t352] 28 (0,0)))∧Aside0 (wc.heap[gb358]? =some (.cells #[(.slice Ao41 t355.length co41)] 33 (0,0)))∧Aside0 (wc.heap[gb374]? =some (.cells #[(.slice Ao52 t365.length co52),(.slice Ao57 t368.length co57),.int .i64 t371,.int .i64 t372] 28 (0,0)))∧Aside0 (Below w.heap.size w wc))
             case first=>
              have H:=HC89.out
              clear HC89
              by_cases c92:t383=true
              ·subst c92
               rw[if_pos rfl] at H
               have H':=Za H
               clear H
               go_wp2
               go_meet
               case rel=>exact⟨_,H',⟨by have:=HJ4.out;have:=HJ7.out;have:=HJ10.out;have:=HJ22.out;have:=HJ76.out;have:=HJ80.out;first|omega|exact Nat.le_refl _⟩,⟨by(with_reducible repeat(first|apply Zn|apply Zo|apply Zm));exact Zw HO_13.out (fun _ hk=>⟨hk.1.1,⟨hk.1.2.1,⟨hk.1.2.2.1,⟨hk.1.2.2.2.1,hk.1.2.2.2.2⟩⟩⟩⟩)⟩,⟨by(with_reducible repeat(first|apply Zn|apply Zo|apply Zm));exact Zw HO_14.out (fun _ hk=>⟨hk.1.1,⟨hk.1.2.1,⟨hk.1.2.2.1,⟨hk.1.2.2.2.1,hk.1.2.2.2.2⟩⟩⟩⟩)⟩,⟨by(with_reducible repeat(first|apply Zn|apply Zo|apply Zm));exact Zw HO_355000.out (fun _ hk=>⟨hk.1.1,⟨hk.1.2.1,⟨hk.1.2.2.1,⟨hk.1.2.2.2.1,hk.1.2.2.2.2⟩⟩⟩⟩)⟩,⟨by(with_reducible repeat(first|apply Zn|apply Zo|apply Zm));exact Zw HO_355001.out (fun _ hk=>⟨hk.1.1,⟨hk.1.2.1,⟨hk.1.2.2.1,⟨hk.1.2.2.2.1,hk.1.2.2.2.2⟩⟩⟩⟩)⟩,⟨by(with_reducible repeat(first|apply Kd.S_alloc|apply Kd.S_drewN|apply Kd.S_drew));exact HO_359000.out⟩,⟨by(with_reducible repeat(first|apply Zn|apply Zo|apply Zm));exact Zw HO_375000.out (fun _ hk=>⟨hk.1.1,⟨hk.1.2.1,⟨hk.1.2.2.1,⟨hk.1.2.2.2.1,hk.1.2.2.2.2⟩⟩⟩⟩)⟩,⟨by(with_reducible repeat(first|apply Zn|apply Zo|apply Zm));exact Zw HO_375001.out (fun _ hk=>⟨hk.1.1,⟨hk.1.2.1,⟨hk.1.2.2.1,⟨hk.1.2.2.2.1,hk.1.2.2.2.2⟩⟩⟩⟩)⟩,⟨by(with_reducible repeat(first|refine blk_drewN ?_ _|refine blk_drew ?_|refine blk_alloc ?_ _));exact BK334.out⟩,⟨by(with_reducible repeat(first|refine blk_drewN ?_ _|refine blk_drew ?_|refine blk_alloc ?_ _));exact BK354.out⟩,⟨by(with_reducible repeat(first|refine blk_drewN ?_ _|refine blk_drew ?_|refine blk_alloc ?_ _));exact BK358.out⟩,⟨by(with_reducible repeat(first|refine blk_drewN ?_ _|refine blk_drew ?_|refine blk_alloc ?_ _));exact BK374.out⟩,⟨by repeat(first|(with_reducible first|exact HB.out|apply Zh|apply Zf|apply Ze|refine Zd ?_ GE334.out|refine Zd ?_ GE354.out|refine Zd ?_ GE358.out|refine Zd ?_ GE374.out)|exact HB.out)⟩⟩
              ·replace c92:=Bool.eq_false_iff.mpr c92
               subst c92
               rw[if_neg (show ¬(false=true) by decide)] at H
               exact absurd (hT.out.symm.trans (Zk H).symm) z12_37
             case rest=>
              clear HC89
              (try clear c2);(try clear c3);(try clear hcz12_0);(try clear hcz24_0);(try clear hcz35_0);(try clear hcz35_1);(try clear hcz35_2);(try clear hcz35_3);(try clear hcz38_0);(try clear hcz44_0);(try clear hcz47_0);(try clear hcz56_0);(try clear hcz56_1);(try clear hcz56_2);(try clear hcz56_3);(try clear hfz12_0);(try clear hfz24_0);(try clear hfz35_0);(try clear hfz35_1);(try clear hfz35_2);(try clear hfz35_3);(try clear hfz38_0);(try clear hfz44_0);(try clear hfz47_0);(try clear hfz56_0);(try clear hfz56_1);(try clear hfz56_2);(try clear hfz56_3)
              obtain⟨kq,HA,HJ88,HO_13,HO_14,HO_355000,HO_355001,HO_359000,HO_375000,HO_375001,BK334,BK354,BK358,BK374,HB⟩:=hcut
              cases kq with
              |zero=>exact absurd HA.out (by simp[laws_FnExactTaskEffect.j6])
              |succ kj88=>
               have H:=HA.out
               clear HA
               simp only[laws_FnExactTaskEffect.j6] at H
               replace H:=Zl H
               obtain⟨t384,A930,H⟩:=H
               replace H:((laws_eqIntS.f kj88 t362 t384).bind fun t387=>(if t387=true then (laws_FnExactTaskEffect.j7 kj88 a1 l2 l3 t353 t359 t362 t373 l0_0 t345 t348 t351 t352 t355 t365 t368 t371 t372) else (some false)))=some r:=H
               have A93:=Za A930
               clear A930
               replace H:=Zl H
               obtain⟨t387,A940,H⟩:=H
               replace H:(if t387=true then (laws_FnExactTaskEffect.j7 kj88 a1 l2 l3 t353 t359 t362 t373 l0_0 t345 t348 t351 t352 t355 t365 t368 t371 t372) else (some false))=some r:=H
               have A94:=Za A940
               clear A940
               have HC95:=Za H
               clear H
               go_upto_if 81 with(first|((first|((with_reducible refine gate_callee (f:=8) rfl ?_);refine goesL_ (some 79) rfl rfl Try.func8 z12_36 rfl #[.slice A3 l3.length c3] rfl z12_1 ?_;(with_reducible refine(laws_toIntS.calls kj88 _ _ l3 t384 _ ?side1 ?side2 A93.out).mono ?_))|(go_at_call 8;(with_reducible refine(laws_toIntS.calls kj88 _ _ l3 t384 _ ?side1 ?side2 A93.out).mono ?_)));(case side1=>exact z12_29);(case side2=>exact HC3.out);rintro e w96 ⟨v385,rfl,ho0,hb⟩;(first|refine⟨_,rfl,?_⟩|skip);replace HO_359000:=Za (Kd.S_below z12_34 hb);have HO386:=Za (Kd.R_lower (Kd.R_new' (Kd.R_new' (Kd.R_new' (Kd.R_new' (Kd.R_new' (Kd.R_new' ho0 (Kd.R_lt z12_21)) (Kd.R_lt z12_20)) (Kd.R_lt z12_10)) (Kd.R_lt z12_9)) (Kd.R_lt z12_8)) (Kd.R_lt z12_7)) (Zy z12_2));replace HO_13:=Za (Ym z12_21 (Yf ho0) hb);replace HO_14:=Za (Ym z12_20 (Yf ho0) hb);replace HO_355000:=Za (Ym z12_10 (Yf ho0) hb);replace HO_355001:=Za (Ym z12_9 (Yf ho0) hb);replace HO_375000:=Za (Ym z12_8 (Yf ho0) hb);replace HO_375001:=Za (Ym z12_7 (Yf ho0) hb);replace BK334:=Za (Zg (g:=gb334) (o:= .cells #[.slice A0_0 l0_0.length c0_0] 24 (0,0)) z12_0 hb);replace BK354:=Za (Zg (g:=gb354) (o:= .cells #[.slice Ao33 t345.length co33,.slice Ao36 t348.length co36,.int .i64 t351,.int .i64 t352] 28 (0,0)) z12_3 hb);replace BK358:=Za (Zg (g:=gb358) (o:= .cells #[.slice Ao41 t355.length co41] 33 (0,0)) z12_12 hb);replace BK374:=Za (Zg (g:=gb374) (o:= .cells #[.slice Ao52 t365.length co52,.slice Ao57 t368.length co57,.int .i64 t371,.int .i64 t372] 28 (0,0)) z12_5 hb);replace HB:=Za (Zj z12_2 hb);(try clear hb);(try clear hb2);(try clear hk);(try clear hi);(try clear ho0);obtain⟨Ao97,co97,eo97⟩:=Yn HO386.out;subst eo97)|((first|((with_reducible refine gate_callee (f:=12) rfl ?_);refine goesL_ (some 80) rfl rfl Try.func12 z12_36 rfl #[.slice Ao49 t362.length co49,.slice Ao97 t384.length co97] rfl z12_1 ?_;(with_reducible refine(laws_eqIntS.calls kj88 _ _ t362 _ _ t384 t387 _ ?side1 ?side2 ?side3 ?side4 A94.out).mono ?_))|(go_at_call 12;(with_reducible refine(laws_eqIntS.calls kj88 _ _ t362 _ _ t384 t387 _ ?side1 ?side2 ?side3 ?side4 A94.out).mono ?_)));(case side1=>repeat(first|exact(Yb HO_14.out).2.2|(with_reducible refine Yc ?_ _)|(with_reducible refine Yd ?_ _)|(with_reducible refine Ye ?_)));(case side2=>exact(Yb HO_14.out).2.1);(case side3=>repeat(first|exact(Yb HO386.out).2.2|(with_reducible refine Yc ?_ _)|(with_reducible refine Yd ?_ _)|(with_reducible refine Ye ?_)));(case side4=>exact(Yb HO386.out).2.1);rintro e w' ⟨rfl,⟨nd,rfl⟩⟩;(first|refine⟨_,rfl,?_⟩|skip)))
               (try simp only[Act.put,Zq,Zr,Zs])
               go_cut [] (fun wc=>∃(kq:Nat),Aside0 (laws_FnExactTaskEffect.j7 kq a1 l2 l3 t353 t359 t362 t373 l0_0 t345 t348 t351 t352 t355 t365 t368 t371 t372=some r)∧Aside0 (kq≤kj88)∧Aside0 (Kd.R (Kd.int .i64) 3 wc w.heap.size (fun k_=>some k_≠((.slice Ao49 t362.length co49):Value).ownBlock∧some k_≠((.slice Ao33 t345.length co33):Value).ownBlock∧some k_≠((.slice Ao36 t348.length co36):Value).ownBlock∧some k_≠((.slice Ao52 t365.length co52):Value).ownBlock∧some k_≠((.slice Ao57 t368.length co57):Value).ownBlock) (.slice Ao48 t359.length co48) t359)∧Aside0 (Kd.R (Kd.int .i64) 3 wc w.heap.size (fun k_=>some k_≠((.slice Ao48 t359.length co48):Value).ownBlock∧some k_≠((.slice Ao33 t345.length co33):Value).ownBlock∧some k_≠((.slice Ao36 t348.length co36):Value).ownBlock∧some k_≠((.slice Ao52 t365.length co52):Value).ownBlock∧some k_≠((.slice Ao57 t368.length co57):Value).ownBlock) (.slice Ao49 t362.length co49) t362)∧Aside0 (Kd.R (Kd.int .i64) 3 wc w.heap.size (fun k_=>some k_≠((.slice Ao48 t359.length co48):Value).ownBlock∧some k_≠((.slice Ao49 t362.length co49):Value).ownBlock∧some k_≠((.slice Ao36 t348.length co36):Value).ownBlock∧some k_≠((.slice Ao52 t365.length co52):Value).ownBlock∧some k_≠((.slice Ao57 t368.length co57):Value).ownBlock) (.slice Ao33 t345.length co33) t345)∧Aside0 (Kd.R (Kd.int .i64) 3 wc w.heap.size (fun k_=>some k_≠((.slice Ao48 t359.length co48):Value).ownBlock∧some k_≠((.slice Ao49 t362.length co49):Value).ownBlock∧some k_≠((.slice Ao33 t345.length co33):Value).ownBlock∧some k_≠((.slice Ao52 t365.length co52):Value).ownBlock∧some k_≠((.slice Ao57 t368.length co57):Value).ownBlock) (.slice Ao36 t348.length co36) t348)∧Aside0 (Kd.S k64 64 wc w.heap.size (fun _=>True) (.slice Ao41 t355.length co41) t355)∧Aside0 (Kd.R (Kd.int .i64) 3 wc w.heap.size (fun k_=>some k_≠((.slice Ao48 t359.length co48):Value).ownBlock∧some k_≠((.slice Ao49 t362.length co49):Value).ownBlock∧some k_≠((.slice Ao33 t345.length co33):Value).ownBlock∧some k_≠((.slice Ao36 t348.length co36):Value).ownBlock∧some k_≠((.slice Ao57 t368.length co57):Value).ownBlock) (.slice Ao52 t365.length co52) t365)∧Aside0 (Kd.R (Kd.int .i64) 3 wc w.heap.size (fun k_=>some k_≠((.slice Ao48 t359.length co48):Value).ownBlock∧some k_≠((.slice Ao49 t362.length co49):Value).ownBlock∧some k_≠((.slice Ao33 t345.length co33):Value).ownBlock∧some k_≠((.slice Ao36 t348.length co36):Value).ownBlock∧some k_≠((.slice Ao52 t365.length co52):Value).ownBlock) (.slice Ao57 t368.length co57) t368)∧Aside0 (wc.heap[gb334]? =some (.cells #[(.slice A0_0 l0_0.length c0_0)] 24 (0,0)))∧Aside0 (wc.heap[gb354]? =some (.cells #[(.slice Ao33 t345.length co33),(.slice Ao36 t348.length co36),.int .i64 t351,.int .i64 t352] 28 (0,0)))∧Aside0 (wc.heap[gb358]? =some (.cells #[(.slice Ao41 t355.length co41)] 33 (0,0)))∧Aside0 (wc.heap[gb374]? =some (.cells #[(.slice Ao52 t365.length co52),(.slice Ao57 t368.length co57),.int .i64 t371,.int .i64 t372] 28 (0,0)))∧Aside0 (Below w.heap.size w wc))
               case first=>
                have H:=HC95.out
                clear HC95
                by_cases c98:t387=true
                ·subst c98
                 rw[if_pos rfl] at H
                 have H':=Za H
                 clear H
                 go_wp2
                 go_meet
                 case rel=>exact⟨_,H',⟨by have:=HJ4.out;have:=HJ7.out;have:=HJ10.out;have:=HJ22.out;have:=HJ76.out;have:=HJ80.out;have:=HJ88.out;first|omega|exact Nat.le_refl _⟩,⟨by(with_reducible repeat(first|apply Zn|apply Zo|apply Zm));exact Zw HO_13.out (fun _ hk=>⟨hk.1.1,⟨hk.1.2.1,⟨hk.1.2.2.1,⟨hk.1.2.2.2.1,hk.1.2.2.2.2⟩⟩⟩⟩)⟩,⟨by(with_reducible repeat(first|apply Zn|apply Zo|apply Zm));exact Zw HO_14.out (fun _ hk=>⟨hk.1.1,⟨hk.1.2.1,⟨hk.1.2.2.1,⟨hk.1.2.2.2.1,hk.1.2.2.2.2⟩⟩⟩⟩)⟩,⟨by(with_reducible repeat(first|apply Zn|apply Zo|apply Zm));exact Zw HO_355000.out (fun _ hk=>⟨hk.1.1,⟨hk.1.2.1,⟨hk.1.2.2.1,⟨hk.1.2.2.2.1,hk.1.2.2.2.2⟩⟩⟩⟩)⟩,⟨by(with_reducible repeat(first|apply Zn|apply Zo|apply Zm));exact Zw HO_355001.out (fun _ hk=>⟨hk.1.1,⟨hk.1.2.1,⟨hk.1.2.2.1,⟨hk.1.2.2.2.1,hk.1.2.2.2.2⟩⟩⟩⟩)⟩,⟨by(with_reducible repeat(first|apply Kd.S_alloc|apply Kd.S_drewN|apply Kd.S_drew));exact HO_359000.out⟩,⟨by(with_reducible repeat(first|apply Zn|apply Zo|apply Zm));exact Zw HO_375000.out (fun _ hk=>⟨hk.1.1,⟨hk.1.2.1,⟨hk.1.2.2.1,⟨hk.1.2.2.2.1,hk.1.2.2.2.2⟩⟩⟩⟩)⟩,⟨by(with_reducible repeat(first|apply Zn|apply Zo|apply Zm));exact Zw HO_375001.out (fun _ hk=>⟨hk.1.1,⟨hk.1.2.1,⟨hk.1.2.2.1,⟨hk.1.2.2.2.1,hk.1.2.2.2.2⟩⟩⟩⟩)⟩,⟨by(with_reducible repeat(first|refine blk_drewN ?_ _|refine blk_drew ?_|refine blk_alloc ?_ _));exact BK334.out⟩,⟨by(with_reducible repeat(first|refine blk_drewN ?_ _|refine blk_drew ?_|refine blk_alloc ?_ _));exact BK354.out⟩,⟨by(with_reducible repeat(first|refine blk_drewN ?_ _|refine blk_drew ?_|refine blk_alloc ?_ _));exact BK358.out⟩,⟨by(with_reducible repeat(first|refine blk_drewN ?_ _|refine blk_drew ?_|refine blk_alloc ?_ _));exact BK374.out⟩,⟨by repeat(first|(with_reducible first|exact HB.out|apply Zh|apply Zf|apply Ze|refine Zd ?_ GE334.out|refine Zd ?_ GE354.out|refine Zd ?_ GE358.out|refine Zd ?_ GE374.out)|exact HB.out)⟩⟩
                ·replace c98:=Bool.eq_false_iff.mpr c98
                 subst c98
                 rw[if_neg (show ¬(false=true) by decide)] at H
                 exact absurd (hT.out.symm.trans (Zk H).symm) z12_37
               case rest=>
                clear HC95
                (try clear c2);(try clear c3);(try clear hcz12_0);(try clear hcz24_0);(try clear hcz35_0);(try clear hcz35_1);(try clear hcz35_2);(try clear hcz35_3);(try clear hcz38_0);(try clear hcz44_0);(try clear hcz47_0);(try clear hcz56_0);(try clear hcz56_1);(try clear hcz56_2);(try clear hcz56_3);(try clear hfz12_0);(try clear hfz24_0);(try clear hfz35_0);(try clear hfz35_1);(try clear hfz35_2);(try clear hfz35_3);(try clear hfz38_0);(try clear hfz44_0);(try clear hfz47_0);(try clear hfz56_0);(try clear hfz56_1);(try clear hfz56_2);(try clear hfz56_3)
                obtain⟨kq,HA,HJ94,HO_13,HO_14,HO_355000,HO_355001,HO_359000,HO_375000,HO_375001,BK334,BK354,BK358,BK374,HB⟩:=hcut
                cases kq with
                |zero=>exact absurd HA.out (by simp[laws_FnExactTaskEffect.j7])
                |succ kj94=>
                 have H:=HA.out
                 clear HA
                 simp only[laws_FnExactTaskEffect.j7] at H
                 replace H:=Zl H
                 obtain⟨t388,A990,H⟩:=H
                 replace H:((laws_markIntS.f kj94 t359 t388).bind fun bt389=>((laws_markIntS.f kj94 t362 bt389.1).bind fun bt391=>(if bt391.1<0 then (laws_FnExactTaskEffect.j8 kj94 a1 l2 l3 t353 true l0_0 t345 t348 t351 t352 t365 t368 t371 t372) else ((laws_eqEffect.f kj94 t365 t368 t371 t372 t345 t348 t351 t352).bind fun t393=>(if t393=true then (laws_FnExactTaskEffect.j8 kj94 a1 l2 l3 t353 (t373 != t353) l0_0 t345 t348 t351 t352 t365 t368 t371 t372) else (laws_FnExactTaskEffect.j8 kj94 a1 l2 l3 t353 true l0_0 t345 t348 t351 t352 t365 t368 t371 t372))))))=some r:=H
                 have A99:=Za A990
                 clear A990
                 replace H:=Zl H
                 obtain⟨⟨t389,t390⟩,A1000,H⟩:=H
                 replace H:((laws_markIntS.f kj94 t362 t389).bind fun bt391=>(if bt391.1<0 then (laws_FnExactTaskEffect.j8 kj94 a1 l2 l3 t353 true l0_0 t345 t348 t351 t352 t365 t368 t371 t372) else ((laws_eqEffect.f kj94 t365 t368 t371 t372 t345 t348 t351 t352).bind fun t393=>(if t393=true then (laws_FnExactTaskEffect.j8 kj94 a1 l2 l3 t353 (t373 != t353) l0_0 t345 t348 t351 t352 t365 t368 t371 t372) else (laws_FnExactTaskEffect.j8 kj94 a1 l2 l3 t353 true l0_0 t345 t348 t351 t352 t365 t368 t371 t372)))))=some r:=H
                 have A100:=Za A1000
                 clear A1000
                 replace H:=Zl H
                 obtain⟨⟨t391,t392⟩,A1010,H⟩:=H
                 replace H:(if t391<0 then (laws_FnExactTaskEffect.j8 kj94 a1 l2 l3 t353 true l0_0 t345 t348 t351 t352 t365 t368 t371 t372) else ((laws_eqEffect.f kj94 t365 t368 t371 t372 t345 t348 t351 t352).bind fun t393=>(if t393=true then (laws_FnExactTaskEffect.j8 kj94 a1 l2 l3 t353 (t373 != t353) l0_0 t345 t348 t351 t352 t365 t368 t371 t372) else (laws_FnExactTaskEffect.j8 kj94 a1 l2 l3 t353 true l0_0 t345 t348 t351 t352 t365 t368 t371 t372))))=some r:=H
                 have A101:=Za A1010
                 clear A1010
                 have HC102:=Za H
                 clear H
                 have hnb103:=NB358_334.out
                 have hnc103:=NB334_358.out
                 have hnb104:=NB358_354.out
                 have hnc104:=NB354_358.out
                 have hnb105:=NB358_374.out
                 have hnc105:=NB374_358.out
                 have hcz106_0:wc.cell? ⟨gb358,0,none⟩=some (.slice Ao41 t355.length co41):=(Zb BK358.out 0).trans rfl
                 have hfz106_0:=Zc BK358.out 0
                 go_upto_region 26 with(first|((first|((with_reducible refine gate_callee (f:=13) rfl ?_);refine goesL_ (some 84) rfl rfl Try.func13 z12_36 rfl #[.agg #[.slice Ao41 t355.length co41],.int .i64 1] rfl z12_1 ?_;(with_reducible refine(laws_markProgram.calls _ t355 1 t388 _ _ _ HO_359000.out A99.out).mono ?_))|(go_at_call 13;(with_reducible refine(laws_markProgram.calls _ t355 1 t388 _ _ _ HO_359000.out A99.out).mono ?_)));rintro e w107 ⟨rfl,hmk⟩;(first|refine⟨_,rfl,?_⟩|skip);have n0_:=Za (Zw (ok':=fun k_=>some k_≠(.slice Ao49 t362.length co49:Value).ownBlock∧some k_≠(.slice Ao33 t345.length co33:Value).ownBlock∧some k_≠(.slice Ao36 t348.length co36:Value).ownBlock∧some k_≠(.slice Ao52 t365.length co52:Value).ownBlock∧some k_≠(.slice Ao57 t368.length co57:Value).ownBlock) (Sep.MK.row hmk HO_13.out z12_37) (fun k_ hk_=>⟨hk_.1,hk_.2.1,hk_.2.2.1,hk_.2.2.2.1,hk_.2.2.2.2⟩));have n1_:=Za (Zw (ok':=fun k_=>some k_≠(.slice Ao48 t359.length co48:Value).ownBlock∧some k_≠(.slice Ao33 t345.length co33:Value).ownBlock∧some k_≠(.slice Ao36 t348.length co36:Value).ownBlock∧some k_≠(.slice Ao52 t365.length co52:Value).ownBlock∧some k_≠(.slice Ao57 t368.length co57:Value).ownBlock) (Sep.MK.row hmk HO_14.out z12_37) (fun k_ hk_=>⟨hk_.1,hk_.2.1,hk_.2.2.1,hk_.2.2.2.1,hk_.2.2.2.2⟩));have n2_:=Za (Zw (ok':=fun k_=>some k_≠(.slice Ao48 t359.length co48:Value).ownBlock∧some k_≠(.slice Ao49 t362.length co49:Value).ownBlock∧some k_≠(.slice Ao36 t348.length co36:Value).ownBlock∧some k_≠(.slice Ao52 t365.length co52:Value).ownBlock∧some k_≠(.slice Ao57 t368.length co57:Value).ownBlock) (Sep.MK.row hmk HO_355000.out z12_37) (fun k_ hk_=>⟨hk_.1,hk_.2.1,hk_.2.2.1,hk_.2.2.2.1,hk_.2.2.2.2⟩));have n3_:=Za (Zw (ok':=fun k_=>some k_≠(.slice Ao48 t359.length co48:Value).ownBlock∧some k_≠(.slice Ao49 t362.length co49:Value).ownBlock∧some k_≠(.slice Ao33 t345.length co33:Value).ownBlock∧some k_≠(.slice Ao52 t365.length co52:Value).ownBlock∧some k_≠(.slice Ao57 t368.length co57:Value).ownBlock) (Sep.MK.row hmk HO_355001.out z12_37) (fun k_ hk_=>⟨hk_.1,hk_.2.1,hk_.2.2.1,hk_.2.2.2.1,hk_.2.2.2.2⟩));have n4_:=Za (Zw (ok':=fun k_=>some k_≠(.slice Ao48 t359.length co48:Value).ownBlock∧some k_≠(.slice Ao49 t362.length co49:Value).ownBlock∧some k_≠(.slice Ao33 t345.length co33:Value).ownBlock∧some k_≠(.slice Ao36 t348.length co36:Value).ownBlock∧some k_≠(.slice Ao57 t368.length co57:Value).ownBlock) (Sep.MK.row hmk HO_375000.out z12_37) (fun k_ hk_=>⟨hk_.1,hk_.2.1,hk_.2.2.1,hk_.2.2.2.1,hk_.2.2.2.2⟩));have n5_:=Za (Zw (ok':=fun k_=>some k_≠(.slice Ao48 t359.length co48:Value).ownBlock∧some k_≠(.slice Ao49 t362.length co49:Value).ownBlock∧some k_≠(.slice Ao33 t345.length co33:Value).ownBlock∧some k_≠(.slice Ao36 t348.length co36:Value).ownBlock∧some k_≠(.slice Ao52 t365.length co52:Value).ownBlock) (Sep.MK.row hmk HO_375001.out z12_37) (fun k_ hk_=>⟨hk_.1,hk_.2.1,hk_.2.2.1,hk_.2.2.2.1,hk_.2.2.2.2⟩));have n6_:=Za (Sep.MK.blk hmk z12_0 z12_37);have n7_:=Za (Sep.MK.blk hmk z12_3 z12_37);have n8_:=Za (Sep.MK.blk hmk z12_12 z12_37);have n9_:=Za (Sep.MK.blk hmk z12_5 z12_37);have n10_:=Za (Sep.MK.to_below hmk z12_2 (Nat.le_refl _));clear HO_13;clear HO_14;clear HO_355000;clear HO_355001;clear HO_375000;clear HO_375001;clear BK334;clear BK354;clear BK358;clear BK374;clear HB;clear HO_359000;have HO_13:=n0_;have HO_14:=n1_;have HO_355000:=n2_;have HO_355001:=n3_;have HO_375000:=n4_;have HO_375001:=n5_;have BK334:=n6_;have BK354:=n7_;have BK358:=n8_;have BK374:=n9_;have HB:=n10_;clear n0_ n1_ n2_ n3_ n4_ n5_ n6_ n7_ n8_ n9_ n10_;(try clear hmk))|((first|((with_reducible refine gate_callee (f:=14) rfl ?_);refine goesL_ (some 87) rfl rfl Try.func14 z12_36 rfl #[.slice Ao48 t359.length co48,.int .i64 t388] rfl z12_1 ?_;(with_reducible refine(laws_markIntS.calls kj94 (fun k_=>some k_=(.slice Ao48 t359.length co48:Value).ownBlock) (.slice Ao48 t359.length co48) t359 t388 t389 t390 w _ ?side1 ?side2 A100.out).mono ?_))|(go_at_call 14;(with_reducible refine(laws_markIntS.calls kj94 (fun k_=>some k_=(.slice Ao48 t359.length co48:Value).ownBlock) (.slice Ao48 t359.length co48) t359 t388 t389 t390 w _ ?side1 ?side2 A100.out).mono ?_)));(case side1=>exact z12_2);(case side2=>exact Kd.R_tight rfl HO_13.out);rintro e w108 ⟨rfl,hy0,hb,hkp⟩;(first|refine⟨_,rfl,?_⟩|skip);replace HO_14:=Za (Zw (ok':=fun k_=>some k_≠(.slice Ao48 t359.length co48:Value).ownBlock∧some k_≠(.slice Ao33 t345.length co33:Value).ownBlock∧some k_≠(.slice Ao36 t348.length co36:Value).ownBlock∧some k_≠(.slice Ao52 t365.length co52:Value).ownBlock∧some k_≠(.slice Ao57 t368.length co57:Value).ownBlock) (Kd.R_keptB (HO_14.out) hkp (fun k_ hk_ hs_=>(hk_.1) hs_)) (fun k_ hk_=>⟨hk_.1.1,hk_.1.2.1,hk_.1.2.2.1,hk_.1.2.2.2.1,hk_.1.2.2.2.2⟩));replace HO_355000:=Za (Zw (ok':=fun k_=>some k_≠(.slice Ao48 t359.length co48:Value).ownBlock∧some k_≠(.slice Ao49 t362.length co49:Value).ownBlock∧some k_≠(.slice Ao36 t348.length co36:Value).ownBlock∧some k_≠(.slice Ao52 t365.length co52:Value).ownBlock∧some k_≠(.slice Ao57 t368.length co57:Value).ownBlock) (Kd.R_keptB (HO_355000.out) hkp (fun k_ hk_ hs_=>(hk_.1) hs_)) (fun k_ hk_=>⟨hk_.1.1,hk_.1.2.1,hk_.1.2.2.1,hk_.1.2.2.2.1,hk_.1.2.2.2.2⟩));replace HO_355001:=Za (Zw (ok':=fun k_=>some k_≠(.slice Ao48 t359.length co48:Value).ownBlock∧some k_≠(.slice Ao49 t362.length co49:Value).ownBlock∧some k_≠(.slice Ao33 t345.length co33:Value).ownBlock∧some k_≠(.slice Ao52 t365.length co52:Value).ownBlock∧some k_≠(.slice Ao57 t368.length co57:Value).ownBlock) (Kd.R_keptB (HO_355001.out) hkp (fun k_ hk_ hs_=>(hk_.1) hs_)) (fun k_ hk_=>⟨hk_.1.1,hk_.1.2.1,hk_.1.2.2.1,hk_.1.2.2.2.1,hk_.1.2.2.2.2⟩));replace HO_375000:=Za (Zw (ok':=fun k_=>some k_≠(.slice Ao48 t359.length co48:Value).ownBlock∧some k_≠(.slice Ao49 t362.length co49:Value).ownBlock∧some k_≠(.slice Ao33 t345.length co33:Value).ownBlock∧some k_≠(.slice Ao36 t348.length co36:Value).ownBlock∧some k_≠(.slice Ao57 t368.length co57:Value).ownBlock) (Kd.R_keptB (HO_375000.out) hkp (fun k_ hk_ hs_=>(hk_.1) hs_)) (fun k_ hk_=>⟨hk_.1.1,hk_.1.2.1,hk_.1.2.2.1,hk_.1.2.2.2.1,hk_.1.2.2.2.2⟩));replace HO_375001:=Za (Zw (ok':=fun k_=>some k_≠(.slice Ao48 t359.length co48:Value).ownBlock∧some k_≠(.slice Ao49 t362.length co49:Value).ownBlock∧some k_≠(.slice Ao33 t345.length co33:Value).ownBlock∧some k_≠(.slice Ao36 t348.length co36:Value).ownBlock∧some k_≠(.slice Ao52 t365.length co52:Value).ownBlock) (Kd.R_keptB (HO_375001.out) hkp (fun k_ hk_ hs_=>(hk_.1) hs_)) (fun k_ hk_=>⟨hk_.1.1,hk_.1.2.1,hk_.1.2.2.1,hk_.1.2.2.2.1,hk_.1.2.2.2.2⟩));replace BK334:=Za (blk_kept z12_0 hkp (fun hs_=>(fun e_=>(Kd.R_ne HO_13.out BK334.out z12_37) e_) hs_));replace BK354:=Za (blk_kept z12_3 hkp (fun hs_=>(fun e_=>(Kd.R_ne HO_13.out BK354.out z12_37) e_) hs_));replace BK358:=Za (blk_kept z12_12 hkp (fun hs_=>(fun e_=>(Kd.R_ne HO_13.out BK358.out z12_37) e_) hs_));replace BK374:=Za (blk_kept z12_5 hkp (fun hs_=>(fun e_=>(Kd.R_ne HO_13.out BK374.out z12_37) e_) hs_));replace HO_13:=Za (Kd.R_reok rfl hy0 (fun k_ e_=>HO_13.out.1 k_ e_));replace HB:=Za (hb);(try clear hb);(try clear hkp);(try clear hy0))|((first|((with_reducible refine gate_callee (f:=14) rfl ?_);refine goesL_ (some 90) rfl rfl Try.func14 z12_36 rfl #[.slice Ao49 t362.length co49,.int .i64 t389] rfl z12_1 ?_;(with_reducible refine(laws_markIntS.calls kj94 (fun k_=>some k_=(.slice Ao49 t362.length co49:Value).ownBlock) (.slice Ao49 t362.length co49) t362 t389 t391 t392 w _ ?side1 ?side2 A101.out).mono ?_))|(go_at_call 14;(with_reducible refine(laws_markIntS.calls kj94 (fun k_=>some k_=(.slice Ao49 t362.length co49:Value).ownBlock) (.slice Ao49 t362.length co49) t362 t389 t391 t392 w _ ?side1 ?side2 A101.out).mono ?_)));(case side1=>exact z12_2);(case side2=>exact Kd.R_tight rfl HO_14.out);rintro e w109 ⟨rfl,hy0,hb,hkp⟩;(first|refine⟨_,rfl,?_⟩|skip);replace HO_13:=Za (Zw (ok':=fun k_=>some k_≠(.slice Ao49 t362.length co49:Value).ownBlock∧some k_≠(.slice Ao33 t345.length co33:Value).ownBlock∧some k_≠(.slice Ao36 t348.length co36:Value).ownBlock∧some k_≠(.slice Ao52 t365.length co52:Value).ownBlock∧some k_≠(.slice Ao57 t368.length co57:Value).ownBlock) (Kd.R_keptB (HO_13.out) hkp (fun k_ hk_ hs_=>(hk_.1) hs_)) (fun k_ hk_=>⟨hk_.1.1,hk_.1.2.1,hk_.1.2.2.1,hk_.1.2.2.2.1,hk_.1.2.2.2.2⟩));replace HO_355000:=Za (Zw (ok':=fun k_=>some k_≠(.slice Ao48 t359.length co48:Value).ownBlock∧some k_≠(.slice Ao49 t362.length co49:Value).ownBlock∧some k_≠(.slice Ao36 t348.length co36:Value).ownBlock∧some k_≠(.slice Ao52 t365.length co52:Value).ownBlock∧some k_≠(.slice Ao57 t368.length co57:Value).ownBlock) (Kd.R_keptB (HO_355000.out) hkp (fun k_ hk_ hs_=>(hk_.2.1) hs_)) (fun k_ hk_=>⟨hk_.1.1,hk_.1.2.1,hk_.1.2.2.1,hk_.1.2.2.2.1,hk_.1.2.2.2.2⟩));replace HO_355001:=Za (Zw (ok':=fun k_=>some k_≠(.slice Ao48 t359.length co48:Value).ownBlock∧some k_≠(.slice Ao49 t362.length co49:Value).ownBlock∧some k_≠(.slice Ao33 t345.length co33:Value).ownBlock∧some k_≠(.slice Ao52 t365.length co52:Value).ownBlock∧some k_≠(.slice Ao57 t368.length co57:Value).ownBlock) (Kd.R_keptB (HO_355001.out) hkp (fun k_ hk_ hs_=>(hk_.2.1) hs_)) (fun k_ hk_=>⟨hk_.1.1,hk_.1.2.1,hk_.1.2.2.1,hk_.1.2.2.2.1,hk_.1.2.2.2.2⟩));replace HO_375000:=Za (Zw (ok':=fun k_=>some k_≠(.slice Ao48 t359.length co48:Value).ownBlock∧some k_≠(.slice Ao49 t362.length co49:Value).ownBlock∧some k_≠(.slice Ao33 t345.length co33:Value).ownBlock∧some k_≠(.slice Ao36 t348.length co36:Value).ownBlock∧some k_≠(.slice Ao57 t368.length co57:Value).ownBlock) (Kd.R_keptB (HO_375000.out) hkp (fun k_ hk_ hs_=>(hk_.2.1) hs_)) (fun k_ hk_=>⟨hk_.1.1,hk_.1.2.1,hk_.1.2.2.1,hk_.1.2.2.2.1,hk_.1.2.2.2.2⟩));replace HO_375001:=Za (Zw (ok':=fun k_=>some k_≠(.slice Ao48 t359.length co48:Value).ownBlock∧some k_≠(.slice Ao49 t362.length co49:Value).ownBlock∧some k_≠(.slice Ao33 t345.length co33:Value).ownBlock∧some k_≠(.slice Ao36 t348.length co36:Value).ownBlock∧some k_≠(.slice Ao52 t365.length co52:Value).ownBlock) (Kd.R_keptB (HO_375001.out) hkp (fun k_ hk_ hs_=>(hk_.2.1) hs_)) (fun k_ hk_=>⟨hk_.1.1,hk_.1.2.1,hk_.1.2.2.1,hk_.1.2.2.2.1,hk_.1.2.2.2.2⟩));replace BK334:=Za (blk_kept z12_0 hkp (fun hs_=>(fun e_=>(Kd.R_ne HO_14.out BK334.out z12_37) e_) hs_));replace BK354:=Za (blk_kept z12_3 hkp (fun hs_=>(fun e_=>(Kd.R_ne HO_14.out BK354.out z12_37) e_) hs_));replace BK358:=Za (blk_kept z12_12 hkp (fun hs_=>(fun e_=>(Kd.R_ne HO_14.out BK358.out z12_37) e_) hs_));replace BK374:=Za (blk_kept z12_5 hkp (fun hs_=>(fun e_=>(Kd.R_ne HO_14.out BK374.out z12_37) e_) hs_));replace HO_14:=Za (Kd.R_reok rfl hy0 (fun k_ e_=>HO_14.out.1 k_ e_));replace HB:=Za (hb);(try clear hb);(try clear hkp);(try clear hy0)))
                 (try simp only[Act.put,Zq,Zr,Zs])
                 go_cut [103] (fun v103 wc=>∃(kq:Nat) (x103_101:Bool),v103= .bool x103_101∧Aside0 (laws_FnExactTaskEffect.j8 kq a1 l2 l3 t353 x103_101 l0_0 t345 t348 t351 t352 t365 t368 t371 t372=some r)∧Aside0 (kq≤kj94)∧Aside0 (Kd.R (Kd.int .i64) 3 wc w.heap.size (fun k_=>some k_≠((.slice Ao36 t348.length co36):Value).ownBlock∧some k_≠((.slice Ao52 t365.length co52):Value).ownBlock∧some k_≠((.slice Ao57 t368.length co57):Value).ownBlock) (.slice Ao33 t345.length co33) t345)∧Aside0 (Kd.R (Kd.int .i64) 3 wc w.heap.size (fun k_=>some k_≠((.slice Ao33 t345.length co33):Value).ownBlock∧some k_≠((.slice Ao52 t365.length co52):Value).ownBlock∧some k_≠((.slice Ao57 t368.length co57):Value).ownBlock) (.slice Ao36 t348.length co36) t348)∧Aside0 (Kd.R (Kd.int .i64) 3 wc w.heap.size (fun k_=>some k_≠((.slice Ao33 t345.length co33):Value).ownBlock∧some k_≠((.slice Ao36 t348.length co36):Value).ownBlock∧some k_≠((.slice Ao57 t368.length co57):Value).ownBlock) (.slice Ao52 t365.length co52) t365)∧Aside0 (Kd.R (Kd.int .i64) 3 wc w.heap.size (fun k_=>some k_≠((.slice Ao33 t345.length co33):Value).ownBlock∧some k_≠((.slice Ao36 t348.length co36):Value).ownBlock∧some k_≠((.slice Ao52 t365.length co52):Value).ownBlock) (.slice Ao57 t368.length co57) t368)∧Aside0 (wc.heap[gb334]? =some (.cells #[(.slice A0_0 l0_0.length c0_0)] 24 (0,0)))∧Aside0 (wc.heap[gb354]? =some (.cells #[(.slice Ao33 t345.length co33),(.slice Ao36 t348.length co36),.int .i64 t351,.int .i64 t352] 28 (0,0)))∧Aside0 (wc.heap[gb374]? =some (.cells #[(.slice Ao52 t365.length co52),(.slice Ao57 t368.length co57),.int .i64 t371,.int .i64 t372] 28 (0,0)))∧Aside0 (Below w.heap.size w wc))
                 case first=>
                  have H:=HC102.out
                  clear HC102
                  by_cases c110:t391<0
                  ·rw[if_pos c110] at H
                   have c110b0:decide (t391<0)=true:=Zx c110
                   clear c110
                   (first|rw[c110b0]|(simp only[i64_w,i32_w];rw[c110b0])|skip)
                   have H':=Za H
                   clear H
                   go_wp2
                   go_meet
                   case rel=>exact⟨_,(true),z12_40,H',⟨by have:=HJ4.out;have:=HJ7.out;have:=HJ10.out;have:=HJ22.out;have:=HJ76.out;have:=HJ80.out;have:=HJ88.out;have:=HJ94.out;first|omega|exact Nat.le_refl _⟩,⟨by(with_reducible repeat(first|apply Zn|apply Zo|apply Zm));exact Zw HO_355000.out (fun _ hk=>⟨hk.2.2.1,⟨hk.2.2.2.1,hk.2.2.2.2⟩⟩)⟩,⟨by(with_reducible repeat(first|apply Zn|apply Zo|apply Zm));exact Zw HO_355001.out (fun _ hk=>⟨hk.2.2.1,⟨hk.2.2.2.1,hk.2.2.2.2⟩⟩)⟩,⟨by(with_reducible repeat(first|apply Zn|apply Zo|apply Zm));exact Zw HO_375000.out (fun _ hk=>⟨hk.2.2.1,⟨hk.2.2.2.1,hk.2.2.2.2⟩⟩)⟩,⟨by(with_reducible repeat(first|apply Zn|apply Zo|apply Zm));exact Zw HO_375001.out (fun _ hk=>⟨hk.2.2.1,⟨hk.2.2.2.1,hk.2.2.2.2⟩⟩)⟩,⟨by(with_reducible repeat(first|refine blk_drewN ?_ _|refine blk_drew ?_|refine blk_alloc ?_ _));exact BK334.out⟩,⟨by(with_reducible repeat(first|refine blk_drewN ?_ _|refine blk_drew ?_|refine blk_alloc ?_ _));exact BK354.out⟩,⟨by(with_reducible repeat(first|refine blk_drewN ?_ _|refine blk_drew ?_|refine blk_alloc ?_ _));exact BK374.out⟩,⟨by repeat(first|(with_reducible first|exact HB.out|apply Zh|apply Zf|apply Ze|refine Zd ?_ GE334.out|refine Zd ?_ GE354.out|refine Zd ?_ GE358.out|refine Zd ?_ GE374.out)|exact HB.out)⟩⟩
                  ·rw[if_neg c110] at H
                   have c110b0:decide (t391<0)=false:=Yi c110
                   clear c110
                   (first|rw[c110b0]|(simp only[i64_w,i32_w];rw[c110b0])|skip)
                   replace H:=Zl H
                   obtain⟨t393,A1110,H⟩:=H
                   replace H:(if t393=true then (laws_FnExactTaskEffect.j8 kj94 a1 l2 l3 t353 (t373 != t353) l0_0 t345 t348 t351 t352 t365 t368 t371 t372) else (laws_FnExactTaskEffect.j8 kj94 a1 l2 l3 t353 true l0_0 t345 t348 t351 t352 t365 t368 t371 t372))=some r:=H
                   have A111:=Za A1110
                   clear A1110
                   by_cases c112:t393=true
                   ·subst c112
                    rw[if_pos rfl] at H
                    have H':=Za H
                    clear H
                    have hnb113:=NB374_334.out
                    have hnc113:=NB334_374.out
                    have hnb114:=NB374_354.out
                    have hnc114:=NB354_374.out
                    have hnb115:=NB374_358.out
                    have hnc115:=NB358_374.out
                    have hcz116_0:w109.cell? ⟨gb374,0,none⟩=some (.slice Ao52 t365.length co52):=(Zb BK374.out 0).trans rfl
                    have hcz116_1:w109.cell? ⟨gb374,1,none⟩=some (.slice Ao57 t368.length co57):=(Zb BK374.out 1).trans rfl
                    have hcz116_2:w109.cell? ⟨gb374,2,none⟩=some (.int .i64 t371):=(Zb BK374.out 2).trans rfl
                    have hcz116_3:w109.cell? ⟨gb374,3,none⟩=some (.int .i64 t372):=(Zb BK374.out 3).trans rfl
                    have hfz116_0:=Zc BK374.out 0
                    have hfz116_1:=Zc BK374.out 1
                    have hfz116_2:=Zc BK374.out 2
                    have hfz116_3:=Zc BK374.out 3
                    have hnb117:=NB354_334.out
                    have hnc117:=NB334_354.out
                    have hnb118:=NB354_358.out
                    have hnc118:=NB358_354.out
                    have hcz119_0:w109.cell? ⟨gb354,0,none⟩=some (.slice Ao33 t345.length co33):=(Zb BK354.out 0).trans rfl
                    have hcz119_1:w109.cell? ⟨gb354,1,none⟩=some (.slice Ao36 t348.length co36):=(Zb BK354.out 1).trans rfl
                    have hcz119_2:w109.cell? ⟨gb354,2,none⟩=some (.int .i64 t351):=(Zb BK354.out 2).trans rfl
                    have hcz119_3:w109.cell? ⟨gb354,3,none⟩=some (.int .i64 t352):=(Zb BK354.out 3).trans rfl
                    have hfz119_0:=Zc BK354.out 0
                    have hfz119_1:=Zc BK354.out 1
                    have hfz119_2:=Zc BK354.out 2
                    have hfz119_3:=Zc BK354.out 3
                    go_wp2_with (first|(go_at_call 10;(with_reducible refine(laws_eqEffect.calls kj94 _ _ t365 _ _ t368 t371 t372 _ _ t345 _ _ t348 t351 t352 true _ ?side1 ?side2 ?side3 ?side4 ?side5 ?side6 ?side7 ?side8 A111.out).mono ?_);(case side1=>exact z12_26);(case side2=>exact(Yb HO_375000.out).2.1);(case side3=>exact z12_25);(case side4=>exact(Yb HO_375001.out).2.1);(case side5=>exact z12_28);(case side6=>exact(Yb HO_355000.out).2.1);(case side7=>exact z12_27);(case side8=>exact(Yb HO_355001.out).2.1);rintro e w120 ⟨rfl,hb⟩;replace HO_13:=Za (Kd.R_below z12_21 hb);replace HO_14:=Za (Kd.R_below z12_20 hb);replace HO_355000:=Za (Kd.R_below z12_10 hb);replace HO_355001:=Za (Kd.R_below z12_9 hb);replace HO_375000:=Za (Kd.R_below z12_8 hb);replace HO_375001:=Za (Kd.R_below z12_7 hb);replace BK334:=Za (Zg (g:=gb334) (o:= .cells #[.slice A0_0 l0_0.length c0_0] 24 (0,0)) z12_0 hb);replace BK354:=Za (Zg (g:=gb354) (o:= .cells #[.slice Ao33 t345.length co33,.slice Ao36 t348.length co36,.int .i64 t351,.int .i64 t352] 28 (0,0)) z12_3 hb);replace BK358:=Za (Zg (g:=gb358) (o:= .cells #[.slice Ao41 t355.length co41] 33 (0,0)) z12_12 hb);replace BK374:=Za (Zg (g:=gb374) (o:= .cells #[.slice Ao52 t365.length co52,.slice Ao57 t368.length co57,.int .i64 t371,.int .i64 t372] 28 (0,0)) z12_5 hb);replace HB:=Za (Zj z12_2 hb);(try clear hb);(try clear hb2);(try clear hk);(try clear hi)))
                    go_meet
                    case rel=>exact⟨_,((t373 != t353)),z12_40,H',⟨by have:=HJ4.out;have:=HJ7.out;have:=HJ10.out;have:=HJ22.out;have:=HJ76.out;have:=HJ80.out;have:=HJ88.out;have:=HJ94.out;first|omega|exact Nat.le_refl _⟩,⟨by(with_reducible repeat(first|apply Zn|apply Zo|apply Zm));exact Zw HO_355000.out (fun _ hk=>⟨hk.2.2.1,⟨hk.2.2.2.1,hk.2.2.2.2⟩⟩)⟩,⟨by(with_reducible repeat(first|apply Zn|apply Zo|apply Zm));exact Zw HO_355001.out (fun _ hk=>⟨hk.2.2.1,⟨hk.2.2.2.1,hk.2.2.2.2⟩⟩)⟩,⟨by(with_reducible repeat(first|apply Zn|apply Zo|apply Zm));exact Zw HO_375000.out (fun _ hk=>⟨hk.2.2.1,⟨hk.2.2.2.1,hk.2.2.2.2⟩⟩)⟩,⟨by(with_reducible repeat(first|apply Zn|apply Zo|apply Zm));exact Zw HO_375001.out (fun _ hk=>⟨hk.2.2.1,⟨hk.2.2.2.1,hk.2.2.2.2⟩⟩)⟩,⟨by(with_reducible repeat(first|refine blk_drewN ?_ _|refine blk_drew ?_|refine blk_alloc ?_ _));exact BK334.out⟩,⟨by(with_reducible repeat(first|refine blk_drewN ?_ _|refine blk_drew ?_|refine blk_alloc ?_ _));exact BK354.out⟩,⟨by(with_reducible repeat(first|refine blk_drewN ?_ _|refine blk_drew ?_|refine blk_alloc ?_ _));exact BK374.out⟩,⟨by repeat(first|(with_reducible first|exact HB.out|apply Zh|apply Zf|apply Ze|refine Zd ?_ GE334.out|refine Zd ?_ GE354.out|refine Zd ?_ GE358.out|refine Zd ?_ GE374.out)|exact HB.out)⟩⟩
                   ·replace c112:=Bool.eq_false_iff.mpr c112
                    subst c112
                    rw[if_neg (show ¬(false=true) by decide)] at H
                    have H':=Za H
                    clear H
                    have hnb121:=NB374_334.out
                    have hnc121:=NB334_374.out
                    have hnb122:=NB374_354.out
                    have hnc122:=NB354_374.out
                    have hnb123:=NB374_358.out
                    have hnc123:=NB358_374.out
                    have hcz124_0:w109.cell? ⟨gb374,0,none⟩=some (.slice Ao52 t365.length co52):=(Zb BK374.out 0).trans rfl
                    have hcz124_1:w109.cell? ⟨gb374,1,none⟩=some (.slice Ao57 t368.length co57):=(Zb BK374.out 1).trans rfl
                    have hcz124_2:w109.cell? ⟨gb374,2,none⟩=some (.int .i64 t371):=(Zb BK374.out 2).trans rfl
                    have hcz124_3:w109.cell? ⟨gb374,3,none⟩=some (.int .i64 t372):=(Zb BK374.out 3).trans rfl
                    have hfz124_0:=Zc BK374.out 0
                    have hfz124_1:=Zc BK374.out 1
                    have hfz124_2:=Zc BK374.out 2
                    have hfz124_3:=Zc BK374.out 3
                    have hnb125:=NB354_334.out
                    have hnc125:=NB334_354.out
                    have hnb126:=NB354_358.out
                    have hnc126:=NB358_354.out
                    have hcz127_0:w109.cell? ⟨gb354,0,none⟩=some (.slice Ao33 t345.length co33):=(Zb BK354.out 0).trans rfl
                    have hcz127_1:w109.cell? ⟨gb354,1,none⟩=some (.slice Ao36 t348.length co36):=(Zb BK354.out 1).trans rfl
                    have hcz127_2:w109.cell? ⟨gb354,2,none⟩=some (.int .i64 t351):=(Zb BK354.out 2).trans rfl
                    have hcz127_3:w109.cell? ⟨gb354,3,none⟩=some (.int .i64 t352):=(Zb BK354.out 3).trans rfl
                    have hfz127_0:=Zc BK354.out 0
                    have hfz127_1:=Zc BK354.out 1
                    have hfz127_2:=Zc BK354.out 2
                    have hfz127_3:=Zc BK354.out 3
                    go_wp2_with (first|(go_at_call 10;(with_reducible refine(laws_eqEffect.calls kj94 _ _ t365 _ _ t368 t371 t372 _ _ t345 _ _ t348 t351 t352 false _ ?side1 ?side2 ?side3 ?side4 ?side5 ?side6 ?side7 ?side8 A111.out).mono ?_);(case side1=>exact z12_26);(case side2=>exact(Yb HO_375000.out).2.1);(case side3=>exact z12_25);(case side4=>exact(Yb HO_375001.out).2.1);(case side5=>exact z12_28);(case side6=>exact(Yb HO_355000.out).2.1);(case side7=>exact z12_27);(case side8=>exact(Yb HO_355001.out).2.1);rintro e w128 ⟨rfl,hb⟩;replace HO_13:=Za (Kd.R_below z12_21 hb);replace HO_14:=Za (Kd.R_below z12_20 hb);replace HO_355000:=Za (Kd.R_below z12_10 hb);replace HO_355001:=Za (Kd.R_below z12_9 hb);replace HO_375000:=Za (Kd.R_below z12_8 hb);replace HO_375001:=Za (Kd.R_below z12_7 hb);replace BK334:=Za (Zg (g:=gb334) (o:= .cells #[.slice A0_0 l0_0.length c0_0] 24 (0,0)) z12_0 hb);replace BK354:=Za (Zg (g:=gb354) (o:= .cells #[.slice Ao33 t345.length co33,.slice Ao36 t348.length co36,.int .i64 t351,.int .i64 t352] 28 (0,0)) z12_3 hb);replace BK358:=Za (Zg (g:=gb358) (o:= .cells #[.slice Ao41 t355.length co41] 33 (0,0)) z12_12 hb);replace BK374:=Za (Zg (g:=gb374) (o:= .cells #[.slice Ao52 t365.length co52,.slice Ao57 t368.length co57,.int .i64 t371,.int .i64 t372] 28 (0,0)) z12_5 hb);replace HB:=Za (Zj z12_2 hb);(try clear hb);(try clear hb2);(try clear hk);(try clear hi)))
                    go_meet
                    case rel=>exact⟨_,(true),z12_40,H',⟨by have:=HJ4.out;have:=HJ7.out;have:=HJ10.out;have:=HJ22.out;have:=HJ76.out;have:=HJ80.out;have:=HJ88.out;have:=HJ94.out;first|omega|exact Nat.le_refl _⟩,⟨by(with_reducible repeat(first|apply Zn|apply Zo|apply Zm));exact Zw HO_355000.out (fun _ hk=>⟨hk.2.2.1,⟨hk.2.2.2.1,hk.2.2.2.2⟩⟩)⟩,⟨by(with_reducible repeat(first|apply Zn|apply Zo|apply Zm));exact Zw HO_355001.out (fun _ hk=>⟨hk.2.2.1,⟨hk.2.2.2.1,hk.2.2.2.2⟩⟩)⟩,⟨by(with_reducible repeat(first|apply Zn|apply Zo|apply Zm));exact Zw HO_375000.out (fun _ hk=>⟨hk.2.2.1,⟨hk.2.2.2.1,hk.2.2.2.2⟩⟩)⟩,⟨by(with_reducible repeat(first|apply Zn|apply Zo|apply Zm));exact Zw HO_375001.out (fun _ hk=>⟨hk.2.2.1,⟨hk.2.2.2.1,hk.2.2.2.2⟩⟩)⟩,⟨by(with_reducible repeat(first|refine blk_drewN ?_ _|refine blk_drew ?_|refine blk_alloc ?_ _));exact BK334.out⟩,⟨by(with_reducible repeat(first|refine blk_drewN ?_ _|refine blk_drew ?_|refine blk_alloc ?_ _));exact BK354.out⟩,⟨by(with_reducible repeat(first|refine blk_drewN ?_ _|refine blk_drew ?_|refine blk_alloc ?_ _));exact BK374.out⟩,⟨by repeat(first|(with_reducible first|exact HB.out|apply Zh|apply Zf|apply Ze|refine Zd ?_ GE334.out|refine Zd ?_ GE354.out|refine Zd ?_ GE358.out|refine Zd ?_ GE374.out)|exact HB.out)⟩⟩
                 case rest=>
                  clear HC102
                  (try clear c2);(try clear c3);(try clear hcz106_0);(try clear hcz12_0);(try clear hcz24_0);(try clear hcz35_0);(try clear hcz35_1);(try clear hcz35_2);(try clear hcz35_3);(try clear hcz38_0);(try clear hcz44_0);(try clear hcz47_0);(try clear hcz56_0);(try clear hcz56_1);(try clear hcz56_2);(try clear hcz56_3);(try clear hfz106_0);(try clear hfz12_0);(try clear hfz24_0);(try clear hfz35_0);(try clear hfz35_1);(try clear hfz35_2);(try clear hfz35_3);(try clear hfz38_0);(try clear hfz44_0);(try clear hfz47_0);(try clear hfz56_0);(try clear hfz56_1);(try clear hfz56_2);(try clear hfz56_3)
                  obtain⟨kq,x103_101,rfl,HA,HJ101,HO_355000,HO_355001,HO_375000,HO_375001,BK334,BK354,BK374,HB⟩:=hcut
                  cases kq with
                  |zero=>exact absurd HA.out (by simp[laws_FnExactTaskEffect.j8])
                  |succ kj101=>
                   have H:=HA.out
                   clear HA
                   simp only[laws_FnExactTaskEffect.j8] at H
                   have HC129:=Za H
                   clear H
                   go_upto_if 103 with(fail)
                   go_cut [] (fun wc=>∃(kq:Nat),Aside0 (laws_FnExactTaskEffect.j9 kq a1 l2 l3 t353 l0_0 t345 t348 t351 t352 t365 t368 t371 t372=some r)∧Aside0 (kq≤kj101)∧Aside0 (Kd.R (Kd.int .i64) 3 wc w.heap.size (fun k_=>some k_≠((.slice Ao36 t348.length co36):Value).ownBlock∧some k_≠((.slice Ao52 t365.length co52):Value).ownBlock∧some k_≠((.slice Ao57 t368.length co57):Value).ownBlock) (.slice Ao33 t345.length co33) t345)∧Aside0 (Kd.R (Kd.int .i64) 3 wc w.heap.size (fun k_=>some k_≠((.slice Ao33 t345.length co33):Value).ownBlock∧some k_≠((.slice Ao52 t365.length co52):Value).ownBlock∧some k_≠((.slice Ao57 t368.length co57):Value).ownBlock) (.slice Ao36 t348.length co36) t348)∧Aside0 (Kd.R (Kd.int .i64) 3 wc w.heap.size (fun k_=>some k_≠((.slice Ao33 t345.length co33):Value).ownBlock∧some k_≠((.slice Ao36 t348.length co36):Value).ownBlock∧some k_≠((.slice Ao57 t368.length co57):Value).ownBlock) (.slice Ao52 t365.length co52) t365)∧Aside0 (Kd.R (Kd.int .i64) 3 wc w.heap.size (fun k_=>some k_≠((.slice Ao33 t345.length co33):Value).ownBlock∧some k_≠((.slice Ao36 t348.length co36):Value).ownBlock∧some k_≠((.slice Ao52 t365.length co52):Value).ownBlock) (.slice Ao57 t368.length co57) t368)∧Aside0 (wc.heap[gb334]? =some (.cells #[(.slice A0_0 l0_0.length c0_0)] 24 (0,0)))∧Aside0 (wc.heap[gb354]? =some (.cells #[(.slice Ao33 t345.length co33),(.slice Ao36 t348.length co36),.int .i64 t351,.int .i64 t352] 28 (0,0)))∧Aside0 (wc.heap[gb374]? =some (.cells #[(.slice Ao52 t365.length co52),(.slice Ao57 t368.length co57),.int .i64 t371,.int .i64 t372] 28 (0,0)))∧Aside0 (Below w.heap.size w wc))
                   case first=>
                    have H:=HC129.out
                    clear HC129
                    by_cases c130:x103_101=true
                    ·subst c130
                     rw[if_pos rfl] at H
                     exact absurd (hT.out.symm.trans (Zk H).symm) z12_37
                    ·replace c130:=Bool.eq_false_iff.mpr c130
                     subst c130
                     rw[if_neg (show ¬(false=true) by decide)] at H
                     have H':=Za H
                     clear H
                     go_wp2
                     go_meet
                     case rel=>exact⟨_,H',⟨by have:=HJ4.out;have:=HJ7.out;have:=HJ10.out;have:=HJ22.out;have:=HJ76.out;have:=HJ80.out;have:=HJ88.out;have:=HJ94.out;have:=HJ101.out;first|omega|exact Nat.le_refl _⟩,⟨by(with_reducible repeat(first|apply Zn|apply Zo|apply Zm));exact HO_355000.out⟩,⟨by(with_reducible repeat(first|apply Zn|apply Zo|apply Zm));exact HO_355001.out⟩,⟨by(with_reducible repeat(first|apply Zn|apply Zo|apply Zm));exact HO_375000.out⟩,⟨by(with_reducible repeat(first|apply Zn|apply Zo|apply Zm));exact HO_375001.out⟩,⟨by(with_reducible repeat(first|refine blk_drewN ?_ _|refine blk_drew ?_|refine blk_alloc ?_ _));exact BK334.out⟩,⟨by(with_reducible repeat(first|refine blk_drewN ?_ _|refine blk_drew ?_|refine blk_alloc ?_ _));exact BK354.out⟩,⟨by(with_reducible repeat(first|refine blk_drewN ?_ _|refine blk_drew ?_|refine blk_alloc ?_ _));exact BK374.out⟩,⟨by repeat(first|(with_reducible first|exact HB.out|apply Zh|apply Zf|apply Ze|refine Zd ?_ GE334.out|refine Zd ?_ GE354.out|refine Zd ?_ GE374.out)|exact HB.out)⟩⟩
                   case rest=>
                    clear HC129
                    (try clear c2);(try clear c3);(try clear hcz106_0);(try clear hcz12_0);(try clear hcz24_0);(try clear hcz35_0);(try clear hcz35_1);(try clear hcz35_2);(try clear hcz35_3);(try clear hcz38_0);(try clear hcz44_0);(try clear hcz47_0);(try clear hcz56_0);(try clear hcz56_1);(try clear hcz56_2);(try clear hcz56_3);(try clear hfz106_0);(try clear hfz12_0);(try clear hfz24_0);(try clear hfz35_0);(try clear hfz35_1);(try clear hfz35_2);(try clear hfz35_3);(try clear hfz38_0);(try clear hfz44_0);(try clear hfz47_0);(try clear hfz56_0);(try clear hfz56_1);(try clear hfz56_2);(try clear hfz56_3)
                    obtain⟨kq,HA,HJ128,HO_355000,HO_355001,HO_375000,HO_375001,BK334,BK354,BK374,HB⟩:=hcut
                    cases kq with
                    |zero=>exact absurd HA.out (by simp[laws_FnExactTaskEffect.j9])
                    |succ kj128=>
                     have H:=HA.out
                     clear HA
                     simp only[laws_FnExactTaskEffect.j9] at H
                     replace H:=Zl H
                     obtain⟨⟨t394,t395,t396⟩,A1310,H⟩:=H
                     replace H:((laws_heldEffect.f kj128 t395 t396 t371 t372 1).bind fun t397=>(if t397<0 then (some false) else (laws_FnExactTaskEffect.j10 kj128 a1 l2 l3 t353 t394 t397 l0_0 t345 t348 t351 t352 t395 t396 t371 t372)))=some r:=H
                     have A131:=Za A1310
                     clear A1310
                     replace H:=Zl H
                     obtain⟨t397,A1320,H⟩:=H
                     replace H:(if t397<0 then (some false) else (laws_FnExactTaskEffect.j10 kj128 a1 l2 l3 t353 t394 t397 l0_0 t345 t348 t351 t352 t395 t396 t371 t372))=some r:=H
                     have A132:=Za A1320
                     clear A1320
                     have HC133:=Za H
                     clear H
                     have hnb134:=NB374_334.out
                     have hnc134:=NB334_374.out
                     have hnb135:=NB374_354.out
                     have hnc135:=NB354_374.out
                     have hcz136_0:wc.cell? ⟨gb374,0,none⟩=some (.slice Ao52 t365.length co52):=(Zb BK374.out 0).trans rfl
                     have hcz136_1:wc.cell? ⟨gb374,1,none⟩=some (.slice Ao57 t368.length co57):=(Zb BK374.out 1).trans rfl
                     have hcz136_2:wc.cell? ⟨gb374,2,none⟩=some (.int .i64 t371):=(Zb BK374.out 2).trans rfl
                     have hcz136_3:wc.cell? ⟨gb374,3,none⟩=some (.int .i64 t372):=(Zb BK374.out 3).trans rfl
                     have hfz136_0:=Zc BK374.out 0
                     have hfz136_1:=Zc BK374.out 1
                     have hfz136_2:=Zc BK374.out 2
                     have hfz136_3:=Zc BK374.out 3
                     go_upto_if 111 with(first|((first|((with_reducible refine gate_callee (f:=15) rfl ?_);refine goesL_ (some 106) rfl rfl Try.func15 z12_36 rfl #[.agg #[.slice Ao52 t365.length co52,.slice Ao57 t368.length co57,.int .i64 t371,.int .i64 t372],.int .i64 1] rfl z12_1 ?_;(with_reducible refine(laws_markEffect.calls kj128 (fun k_=>some k_=(.slice Ao52 t365.length co52:Value).ownBlock) (.slice Ao52 t365.length co52) t365 (fun k_=>some k_=(.slice Ao57 t368.length co57:Value).ownBlock) (.slice Ao57 t368.length co57) t368 t371 t372 1 t394 t395 t396 w _ ?side1 ?side2 ?side3 ?side4 ?side5 A131.out).mono ?_))|(go_at_call 15;(with_reducible refine(laws_markEffect.calls kj128 (fun k_=>some k_=(.slice Ao52 t365.length co52:Value).ownBlock) (.slice Ao52 t365.length co52) t365 (fun k_=>some k_=(.slice Ao57 t368.length co57:Value).ownBlock) (.slice Ao57 t368.length co57) t368 t371 t372 1 t394 t395 t396 w _ ?side1 ?side2 ?side3 ?side4 ?side5 A131.out).mono ?_)));(case side1=>exact z12_4);(case side2=>exact Kd.R_tight rfl HO_375000.out);(case side3=>exact fun k_ e_=>(HO_375000.out.1 k_ e_.symm).2.2);(case side4=>exact Kd.R_tight rfl HO_375001.out);(case side5=>exact fun k_ e_=>(HO_375001.out.1 k_ e_.symm).2.2);rintro e w137 ⟨rfl,hy0,hy1,hb,hkp⟩;(first|refine⟨_,rfl,?_⟩|skip);replace HO_355000:=Za (Zw (ok':=fun k_=>some k_≠(.slice Ao36 t348.length co36:Value).ownBlock∧some k_≠(.slice Ao52 t365.length co52:Value).ownBlock∧some k_≠(.slice Ao57 t368.length co57:Value).ownBlock) (Kd.R_keptB (HO_355000.out) hkp (fun k_ hk_ hs_=>Or.elim hs_ (fun e_=>(hk_.2.1) e_) (fun e_=>(hk_.2.2) e_))) (fun k_ hk_=>⟨hk_.1.1,hk_.1.2.1,hk_.1.2.2⟩));replace HO_355001:=Za (Zw (ok':=fun k_=>some k_≠(.slice Ao33 t345.length co33:Value).ownBlock∧some k_≠(.slice Ao52 t365.length co52:Value).ownBlock∧some k_≠(.slice Ao57 t368.length co57:Value).ownBlock) (Kd.R_keptB (HO_355001.out) hkp (fun k_ hk_ hs_=>Or.elim hs_ (fun e_=>(hk_.2.1) e_) (fun e_=>(hk_.2.2) e_))) (fun k_ hk_=>⟨hk_.1.1,hk_.1.2.1,hk_.1.2.2⟩));replace BK334:=Za (blk_kept z12_0 hkp (fun hs_=>Or.elim hs_ (fun e_=>(fun e_=>(Kd.R_ne HO_375000.out BK334.out z12_37) e_) e_) (fun e_=>(fun e_=>(Kd.R_ne HO_375001.out BK334.out z12_37) e_) e_)));replace BK354:=Za (blk_kept z12_3 hkp (fun hs_=>Or.elim hs_ (fun e_=>(fun e_=>(Kd.R_ne HO_375000.out BK354.out z12_37) e_) e_) (fun e_=>(fun e_=>(Kd.R_ne HO_375001.out BK354.out z12_37) e_) e_)));replace BK374:=Za (blk_kept z12_5 hkp (fun hs_=>Or.elim hs_ (fun e_=>(fun e_=>(Kd.R_ne HO_375000.out BK374.out z12_37) e_) e_) (fun e_=>(fun e_=>(Kd.R_ne HO_375001.out BK374.out z12_37) e_) e_)));replace HO_375000:=Za (Kd.R_reok rfl hy0 (fun k_ e_=>HO_375000.out.1 k_ e_));replace HO_375001:=Za (Kd.R_reok rfl hy1 (fun k_ e_=>HO_375001.out.1 k_ e_));replace HB:=Za (hb);(try clear hb);(try clear hkp);(try clear hy0);(try clear hy1);have hcz138_0:w137.cell? ⟨gb374,0,none⟩=some (.slice Ao52 t365.length co52):=(Zb BK374.out 0).trans rfl;have hcz138_1:w137.cell? ⟨gb374,1,none⟩=some (.slice Ao57 t368.length co57):=(Zb BK374.out 1).trans rfl;have hcz138_2:w137.cell? ⟨gb374,2,none⟩=some (.int .i64 t371):=(Zb BK374.out 2).trans rfl;have hcz138_3:w137.cell? ⟨gb374,3,none⟩=some (.int .i64 t372):=(Zb BK374.out 3).trans rfl;have hfz138_0:=Zc BK374.out 0;have hfz138_1:=Zc BK374.out 1;have hfz138_2:=Zc BK374.out 2;have hfz138_3:=Zc BK374.out 3)|((first|((with_reducible refine gate_callee (f:=16) rfl ?_);refine goesL_ (some 109) rfl rfl Try.func16 z12_36 rfl #[.agg #[.slice Ao52 t395.length co52,.slice Ao57 t396.length co57,.int .i64 t371,.int .i64 t372],.int .i64 1] rfl (by(try simp only[List.map_toArray,List.map_cons,List.map_nil]);first|done|(rw[show t395.length=t365.length from (Yb HO_375000.out).1.symm,show t396.length=t368.length from (Yb HO_375001.out).1.symm]<;>rfl)|rfl|(simp only[List.length_drop,List.length_take];rfl)) ?_;(with_reducible refine(laws_heldEffect.calls kj128 _ _ t395 _ _ t396 t371 t372 1 t397 _ ?side1 ?side2 ?side3 ?side4 A132.out).mono ?_))|(go_at_call 16;(with_reducible refine(laws_heldEffect.calls kj128 _ _ t395 _ _ t396 t371 t372 1 t397 _ ?side1 ?side2 ?side3 ?side4 A132.out).mono ?_)));(case side1=>exact z12_26);(case side2=>rw[show t395.length=t365.length from (Yb HO_375000.out).1.symm];exact(Yb HO_375000.out).2.1);(case side3=>exact z12_25);(case side4=>rw[show t396.length=t368.length from (Yb HO_375001.out).1.symm];exact(Yb HO_375001.out).2.1);rintro e w139 ⟨rfl,hb⟩;(first|refine⟨_,rfl,?_⟩|skip);replace HO_355000:=Za (Kd.R_below z12_10 hb);replace HO_355001:=Za (Kd.R_below z12_9 hb);replace HO_375000:=Za (Kd.R_below z12_8 hb);replace HO_375001:=Za (Kd.R_below z12_7 hb);replace BK334:=Za (Zg (g:=gb334) (o:= .cells #[.slice A0_0 l0_0.length c0_0] 24 (0,0)) z12_0 hb);replace BK354:=Za (Zg (g:=gb354) (o:= .cells #[.slice Ao33 t345.length co33,.slice Ao36 t348.length co36,.int .i64 t351,.int .i64 t352] 28 (0,0)) z12_3 hb);replace BK374:=Za (Zg (g:=gb374) (o:= .cells #[.slice Ao52 t365.length co52,.slice Ao57 t368.length co57,.int .i64 t371,.int .i64 t372] 28 (0,0)) z12_5 hb);replace HB:=Za (Zj z12_4 hb);(try clear hb);(try clear hb2);(try clear hk);(try clear hi)))
                     (try simp only[Act.put,Zq,Zr,Zs])
                     go_cut [] (fun wc=>∃(kq:Nat),Aside0 (laws_FnExactTaskEffect.j10 kq a1 l2 l3 t353 t394 t397 l0_0 t345 t348 t351 t352 t395 t396 t371 t372=some r)∧Aside0 (kq≤kj128)∧Aside0 (Kd.R (Kd.int .i64) 3 wc w.heap.size (fun k_=>some k_≠((.slice Ao36 t348.length co36):Value).ownBlock∧some k_≠((.slice Ao52 t365.length co52):Value).ownBlock∧some k_≠((.slice Ao57 t368.length co57):Value).ownBlock) (.slice Ao33 t345.length co33) t345)∧Aside0 (Kd.R (Kd.int .i64) 3 wc w.heap.size (fun k_=>some k_≠((.slice Ao33 t345.length co33):Value).ownBlock∧some k_≠((.slice Ao52 t365.length co52):Value).ownBlock∧some k_≠((.slice Ao57 t368.length co57):Value).ownBlock) (.slice Ao36 t348.length co36) t348)∧Aside0 (Kd.R (Kd.int .i64) 3 wc w.heap.size (fun k_=>some k_≠((.slice Ao33 t345.length co33):Value).ownBlock∧some k_≠((.slice Ao36 t348.length co36):Value).ownBlock∧some k_≠((.slice Ao57 t368.length co57):Value).ownBlock) (.slice Ao52 t365.length co52) t395)∧Aside0 (Kd.R (Kd.int .i64) 3 wc w.heap.size (fun k_=>some k_≠((.slice Ao33 t345.length co33):Value).ownBlock∧some k_≠((.slice Ao36 t348.length co36):Value).ownBlock∧some k_≠((.slice Ao52 t365.length co52):Value).ownBlock) (.slice Ao57 t368.length co57) t396)∧Aside0 (wc.heap[gb334]? =some (.cells #[(.slice A0_0 l0_0.length c0_0)] 24 (0,0)))∧Aside0 (wc.heap[gb354]? =some (.cells #[(.slice Ao33 t345.length co33),(.slice Ao36 t348.length co36),.int .i64 t351,.int .i64 t352] 28 (0,0)))∧Aside0 (wc.heap[gb374]? =some (.cells #[(.slice Ao52 t365.length co52),(.slice Ao57 t368.length co57),.int .i64 t371,.int .i64 t372] 28 (0,0)))∧Aside0 (Below w.heap.size w wc))
                     case first=>
                      have H:=HC133.out
                      clear HC133
                      by_cases c140:t397<0
                      ·rw[if_pos c140] at H
                       have c140b0:decide (t397<0)=true:=Zx c140
                       clear c140
                       (first|rw[c140b0]|(simp only[i64_w,i32_w];rw[c140b0])|skip)
                       exact absurd (hT.out.symm.trans (Zk H).symm) z12_37
                      ·rw[if_neg c140] at H
                       have c140b0:decide (t397<0)=false:=Yi c140
                       clear c140
                       (first|rw[c140b0]|(simp only[i64_w,i32_w];rw[c140b0])|skip)
                       have H':=Za H
                       clear H
                       go_wp2
                       go_meet
                       case rel=>exact⟨_,H',⟨by have:=HJ4.out;have:=HJ7.out;have:=HJ10.out;have:=HJ22.out;have:=HJ76.out;have:=HJ80.out;have:=HJ88.out;have:=HJ94.out;have:=HJ101.out;have:=HJ128.out;first|omega|exact Nat.le_refl _⟩,⟨by(with_reducible repeat(first|apply Zn|apply Zo|apply Zm));exact HO_355000.out⟩,⟨by(with_reducible repeat(first|apply Zn|apply Zo|apply Zm));exact HO_355001.out⟩,⟨by(with_reducible repeat(first|apply Zn|apply Zo|apply Zm));exact HO_375000.out⟩,⟨by(with_reducible repeat(first|apply Zn|apply Zo|apply Zm));exact HO_375001.out⟩,⟨by(with_reducible repeat(first|refine blk_drewN ?_ _|refine blk_drew ?_|refine blk_alloc ?_ _));exact BK334.out⟩,⟨by(with_reducible repeat(first|refine blk_drewN ?_ _|refine blk_drew ?_|refine blk_alloc ?_ _));exact BK354.out⟩,⟨by(with_reducible repeat(first|refine blk_drewN ?_ _|refine blk_drew ?_|refine blk_alloc ?_ _));exact BK374.out⟩,⟨by repeat(first|(with_reducible first|exact HB.out|apply Zh|apply Zf|apply Ze|refine Zd ?_ GE334.out|refine Zd ?_ GE354.out|refine Zd ?_ GE374.out)|exact HB.out)⟩⟩
                     case rest=>
                      clear HC133
                      (try clear c2);(try clear c3);(try clear hcz106_0);(try clear hcz12_0);(try clear hcz136_0);(try clear hcz136_1);(try clear hcz136_2);(try clear hcz136_3);(try clear hcz138_0);(try clear hcz138_1);(try clear hcz138_2);(try clear hcz138_3);(try clear hcz24_0);(try clear hcz35_0);(try clear hcz35_1);(try clear hcz35_2);(try clear hcz35_3);(try clear hcz38_0);(try clear hcz44_0);(try clear hcz47_0);(try clear hcz56_0);(try clear hcz56_1);(try clear hcz56_2);(try clear hcz56_3);(try clear hfz106_0);(try clear hfz12_0);(try clear hfz136_0);(try clear hfz136_1);(try clear hfz136_2);(try clear hfz136_3);(try clear hfz138_0);(try clear hfz138_1);(try clear hfz138_2);(try clear hfz138_3);(try clear hfz24_0);(try clear hfz35_0);(try clear hfz35_1);(try clear hfz35_2);(try clear hfz35_3);(try clear hfz38_0);(try clear hfz44_0);(try clear hfz47_0);(try clear hfz56_0);(try clear hfz56_1);(try clear hfz56_2);(try clear hfz56_3)
                      obtain⟨kq,HA,HJ132,HO_355000,HO_355001,HO_375000,HO_375001,BK334,BK354,BK374,HB⟩:=hcut
                      have hl375000_132:=(Yb HO_375000.out).1
                      rw[hl375000_132] at HO_375000
                      (try simp only[hl375000_132])
                      (try simp only[hl375000_132] at BK334)
                      (try simp only[hl375000_132] at BK354)
                      (try simp only[hl375000_132] at BK374)
                      (try simp only[hl375000_132] at HO_355000)
                      (try simp only[hl375000_132] at HO_355001)
                      (try simp only[hl375000_132] at HO_375001)
                      have hl375001_132:=(Yb HO_375001.out).1
                      rw[hl375001_132] at HO_375001
                      (try simp only[hl375001_132])
                      (try simp only[hl375001_132] at BK334)
                      (try simp only[hl375001_132] at BK354)
                      (try simp only[hl375001_132] at BK374)
                      (try simp only[hl375001_132] at HO_355000)
                      (try simp only[hl375001_132] at HO_355001)
                      (try simp only[hl375001_132] at HO_375000)
                      cases kq with
                      |zero=>exact absurd HA.out (by simp[laws_FnExactTaskEffect.j10])
                      |succ kj132=>
                       have H:=HA.out
                       clear HA
                       simp only[laws_FnExactTaskEffect.j10] at H
                       have HC141:=Za H
                       clear H
                       go_upto_if 114 with(fail)
                       go_cut [] (fun wc=>∃(kq:Nat),Aside0 (laws_FnExactTaskEffect.j11 kq a1 l2 l3 t353 t394 l0_0 t345 t348 t351 t352 t395 t396 t371 t372=some r)∧Aside0 (kq≤kj132)∧Aside0 (Kd.R (Kd.int .i64) 3 wc w.heap.size (fun k_=>some k_≠((.slice Ao36 t348.length co36):Value).ownBlock∧some k_≠((.slice Ao52 t395.length co52):Value).ownBlock∧some k_≠((.slice Ao57 t396.length co57):Value).ownBlock) (.slice Ao33 t345.length co33) t345)∧Aside0 (Kd.R (Kd.int .i64) 3 wc w.heap.size (fun k_=>some k_≠((.slice Ao33 t345.length co33):Value).ownBlock∧some k_≠((.slice Ao52 t395.length co52):Value).ownBlock∧some k_≠((.slice Ao57 t396.length co57):Value).ownBlock) (.slice Ao36 t348.length co36) t348)∧Aside0 (Kd.R (Kd.int .i64) 3 wc w.heap.size (fun k_=>some k_≠((.slice Ao33 t345.length co33):Value).ownBlock∧some k_≠((.slice Ao36 t348.length co36):Value).ownBlock∧some k_≠((.slice Ao57 t396.length co57):Value).ownBlock) (.slice Ao52 t395.length co52) t395)∧Aside0 (Kd.R (Kd.int .i64) 3 wc w.heap.size (fun k_=>some k_≠((.slice Ao33 t345.length co33):Value).ownBlock∧some k_≠((.slice Ao36 t348.length co36):Value).ownBlock∧some k_≠((.slice Ao52 t395.length co52):Value).ownBlock) (.slice Ao57 t396.length co57) t396)∧Aside0 (wc.heap[gb334]? =some (.cells #[(.slice A0_0 l0_0.length c0_0)] 24 (0,0)))∧Aside0 (wc.heap[gb354]? =some (.cells #[(.slice Ao33 t345.length co33),(.slice Ao36 t348.length co36),.int .i64 t351,.int .i64 t352] 28 (0,0)))∧Aside0 (wc.heap[gb374]? =some (.cells #[(.slice Ao52 t395.length co52),(.slice Ao57 t396.length co57),.int .i64 t371,.int .i64 t372] 28 (0,0)))∧Aside0 (Below w.heap.size w wc))
                       case first=>
                        have H:=HC141.out
                        clear HC141
                        by_cases c142:t397=t394
                        ·rw[if_pos c142] at H
                         have c142b0:(t397==t394)=true:=beq_iff_eq.mpr c142
                         have c142b1:(t397 != t394)=false:=bne_eq_false_iff_eq.mpr c142
                         clear c142
                         (first|rw[c142b0]|(simp only[i64_w,i32_w];rw[c142b0])|skip)
                         have H':=Za H
                         clear H
                         go_wp2
                         go_meet
                         case rel=>exact⟨_,H',⟨by have:=HJ4.out;have:=HJ7.out;have:=HJ10.out;have:=HJ22.out;have:=HJ76.out;have:=HJ80.out;have:=HJ88.out;have:=HJ94.out;have:=HJ101.out;have:=HJ128.out;have:=HJ132.out;first|omega|exact Nat.le_refl _⟩,⟨by(try simp only[hl375000_132]);(try simp only[hl375001_132]);(with_reducible repeat(first|apply Zn|apply Zo|apply Zm));exact HO_355000.out⟩,⟨by(try simp only[hl375000_132]);(try simp only[hl375001_132]);(with_reducible repeat(first|apply Zn|apply Zo|apply Zm));exact HO_355001.out⟩,⟨by(try simp only[hl375000_132]);(try simp only[hl375001_132]);(with_reducible repeat(first|apply Zn|apply Zo|apply Zm));exact HO_375000.out⟩,⟨by(try simp only[hl375000_132]);(try simp only[hl375001_132]);(with_reducible repeat(first|apply Zn|apply Zo|apply Zm));exact HO_375001.out⟩,⟨by(try simp only[hl375000_132]);(try simp only[hl375001_132]);(with_reducible repeat(first|refine blk_drewN ?_ _|refine blk_drew ?_|refine blk_alloc ?_ _));exact BK334.out⟩,⟨by(try simp only[hl375000_132]);(try simp only[hl375001_132]);(with_reducible repeat(first|refine blk_drewN ?_ _|refine blk_drew ?_|refine blk_alloc ?_ _));exact BK354.out⟩,⟨by(try simp only[hl375000_132]);(try simp only[hl375001_132]);(with_reducible repeat(first|refine blk_drewN ?_ _|refine blk_drew ?_|refine blk_alloc ?_ _));exact BK374.out⟩,⟨by repeat(first|(with_reducible first|exact HB.out|apply Zh|apply Zf|apply Ze|refine Zd ?_ GE334.out|refine Zd ?_ GE354.out|refine Zd ?_ GE374.out)|exact HB.out)⟩⟩
                        ·rw[if_neg c142] at H
                         have c142b0:(t397==t394)=false:=beq_eq_false_iff_ne.mpr c142
                         have c142b1:(t397 != t394)=true:=bne_iff_ne.mpr c142
                         (first|rw[c142b0]|(simp only[i64_w,i32_w];rw[c142b0])|skip)
                         exact absurd (hT.out.symm.trans (Zk H).symm) z12_37
                       case rest=>
                        clear HC141
                        (try clear c2);(try clear c3);(try clear hcz106_0);(try clear hcz12_0);(try clear hcz136_0);(try clear hcz136_1);(try clear hcz136_2);(try clear hcz136_3);(try clear hcz138_0);(try clear hcz138_1);(try clear hcz138_2);(try clear hcz138_3);(try clear hcz24_0);(try clear hcz35_0);(try clear hcz35_1);(try clear hcz35_2);(try clear hcz35_3);(try clear hcz38_0);(try clear hcz44_0);(try clear hcz47_0);(try clear hcz56_0);(try clear hcz56_1);(try clear hcz56_2);(try clear hcz56_3);(try clear hfz106_0);(try clear hfz12_0);(try clear hfz136_0);(try clear hfz136_1);(try clear hfz136_2);(try clear hfz136_3);(try clear hfz138_0);(try clear hfz138_1);(try clear hfz138_2);(try clear hfz138_3);(try clear hfz24_0);(try clear hfz35_0);(try clear hfz35_1);(try clear hfz35_2);(try clear hfz35_3);(try clear hfz38_0);(try clear hfz44_0);(try clear hfz47_0);(try clear hfz56_0);(try clear hfz56_1);(try clear hfz56_2);(try clear hfz56_3)
                        obtain⟨kq,HA,HJ140,HO_355000,HO_355001,HO_375000,HO_375001,BK334,BK354,BK374,HB⟩:=hcut
                        cases kq with
                        |zero=>exact absurd HA.out (by simp[laws_FnExactTaskEffect.j11])
                        |succ kj140=>
                         have H:=HA.out
                         clear HA
                         simp only[laws_FnExactTaskEffect.j11] at H
                         replace H:=Zl H
                         obtain⟨t398,A1430,H⟩:=H
                         replace H:((laws_toIntS.f kj140 l2).bind fun t401=>((laws_toIntS.f kj140 l3).bind fun t404=>((impl_TaskEffect.f kj140 t398 a1 t401 t404).bind fun bt407=>((laws_eqEffect.f kj140 bt407.1 bt407.2.1 bt407.2.2.1 bt407.2.2.2.1 t345 t348 t351 t352).bind fun t417=>(if t417=true then (laws_FnExactTaskEffect.j12 kj140 t394 (bt407.2.2.2.2 != t353) t395 t396 t371 t372) else (laws_FnExactTaskEffect.j12 kj140 t394 true t395 t396 t371 t372))))))=some r:=H
                         have A143:=Za A1430
                         clear A1430
                         replace H:=Zl H
                         obtain⟨t401,A1440,H⟩:=H
                         replace H:((laws_toIntS.f kj140 l3).bind fun t404=>((impl_TaskEffect.f kj140 t398 a1 t401 t404).bind fun bt407=>((laws_eqEffect.f kj140 bt407.1 bt407.2.1 bt407.2.2.1 bt407.2.2.2.1 t345 t348 t351 t352).bind fun t417=>(if t417=true then (laws_FnExactTaskEffect.j12 kj140 t394 (bt407.2.2.2.2 != t353) t395 t396 t371 t372) else (laws_FnExactTaskEffect.j12 kj140 t394 true t395 t396 t371 t372)))))=some r:=H
                         have A144:=Za A1440
                         clear A1440
                         replace H:=Zl H
                         obtain⟨t404,A1450,H⟩:=H
                         replace H:((impl_TaskEffect.f kj140 t398 a1 t401 t404).bind fun bt407=>((laws_eqEffect.f kj140 bt407.1 bt407.2.1 bt407.2.2.1 bt407.2.2.2.1 t345 t348 t351 t352).bind fun t417=>(if t417=true then (laws_FnExactTaskEffect.j12 kj140 t394 (bt407.2.2.2.2 != t353) t395 t396 t371 t372) else (laws_FnExactTaskEffect.j12 kj140 t394 true t395 t396 t371 t372))))=some r:=H
                         have A145:=Za A1450
                         clear A1450
                         replace H:=Zl H
                         obtain⟨⟨t407,t410,t413,t414,t415⟩,A1460,H⟩:=H
                         replace H:((laws_eqEffect.f kj140 t407 t410 t413 t414 t345 t348 t351 t352).bind fun t417=>(if t417=true then (laws_FnExactTaskEffect.j12 kj140 t394 (t415 != t353) t395 t396 t371 t372) else (laws_FnExactTaskEffect.j12 kj140 t394 true t395 t396 t371 t372)))=some r:=H
                         have A146:=Za A1460
                         clear A1460
                         have HC147:=Za H
                         clear H
                         have hnb148:=NB334_354.out
                         have hnc148:=NB354_334.out
                         have hnb149:=NB334_374.out
                         have hnc149:=NB374_334.out
                         have hcz150_0:wc.cell? ⟨gb334,0,none⟩=some (.slice A0_0 l0_0.length c0_0):=(Zb BK334.out 0).trans rfl
                         have hfz150_0:=Zc BK334.out 0
                         go_upto_region 37 with(first|((first|((with_reducible refine gate_callee (f:=7) rfl ?_);refine goesL_ (some 117) rfl rfl Try.func7 z12_36 rfl #[.agg #[.slice A0_0 l0_0.length c0_0]] rfl z12_1 ?_;(with_reducible refine(laws_toProgram.calls kj140 _ _ l0_0 t398 _ ?side1 ?side2 A143.out).mono ?_))|(go_at_call 7;(with_reducible refine(laws_toProgram.calls kj140 _ _ l0_0 t398 _ ?side1 ?side2 A143.out).mono ?_)));(case side1=>exact z12_24);(case side2=>exact HC0_0.out);rintro e w151 ⟨v399,rfl,ho0,hb⟩;(first|refine⟨_,rfl,?_⟩|skip);replace HO_355000:=Za (Kd.R_below z12_10 hb);replace HO_355001:=Za (Kd.R_below z12_9 hb);replace HO_375000:=Za (Kd.R_below z12_8 hb);replace HO_375001:=Za (Kd.R_below z12_7 hb);have HO400:=Za (Kd.S_lower ho0 (Zy z12_4));replace BK334:=Za (Zg (g:=gb334) (o:= .cells #[.slice A0_0 l0_0.length c0_0] 24 (0,0)) z12_0 hb);replace BK354:=Za (Zg (g:=gb354) (o:= .cells #[.slice Ao33 t345.length co33,.slice Ao36 t348.length co36,.int .i64 t351,.int .i64 t352] 28 (0,0)) z12_3 hb);replace BK374:=Za (Zg (g:=gb374) (o:= .cells #[.slice Ao52 t395.length co52,.slice Ao57 t396.length co57,.int .i64 t371,.int .i64 t372] 28 (0,0)) z12_5 hb);replace HB:=Za (Zj z12_4 hb);(try clear hb);(try clear hb2);(try clear hk);(try clear hi);(try clear ho0))|((first|((with_reducible refine gate_callee (f:=8) rfl ?_);refine goesL_ (some 120) rfl rfl Try.func8 z12_36 rfl #[.slice A2 l2.length c2] rfl z12_1 ?_;(with_reducible refine(laws_toIntS.calls kj140 _ _ l2 t401 _ ?side1 ?side2 A144.out).mono ?_))|(go_at_call 8;(with_reducible refine(laws_toIntS.calls kj140 _ _ l2 t401 _ ?side1 ?side2 A144.out).mono ?_)));(case side1=>exact z12_35);(case side2=>exact HC2.out);rintro e w152 ⟨v402,rfl,ho0,hb⟩;(first|refine⟨_,rfl,?_⟩|skip);replace HO400:=Za (Kd.S_below z12_30 hb);have HO403:=Za (Kd.R_lower (Kd.R_new' (Kd.R_new' (Kd.R_new' (Kd.R_new' ho0 (Kd.R_lt z12_10)) (Kd.R_lt z12_9)) (Kd.R_lt z12_8)) (Kd.R_lt z12_7)) (Zy z12_4));replace HO_355000:=Za (Ym z12_10 (Yf ho0) hb);replace HO_355001:=Za (Ym z12_9 (Yf ho0) hb);replace HO_375000:=Za (Ym z12_8 (Yf ho0) hb);replace HO_375001:=Za (Ym z12_7 (Yf ho0) hb);replace BK334:=Za (Zg (g:=gb334) (o:= .cells #[.slice A0_0 l0_0.length c0_0] 24 (0,0)) z12_0 hb);replace BK354:=Za (Zg (g:=gb354) (o:= .cells #[.slice Ao33 t345.length co33,.slice Ao36 t348.length co36,.int .i64 t351,.int .i64 t352] 28 (0,0)) z12_3 hb);replace BK374:=Za (Zg (g:=gb374) (o:= .cells #[.slice Ao52 t395.length co52,.slice Ao57 t396.length co57,.int .i64 t371,.int .i64 t372] 28 (0,0)) z12_5 hb);replace HB:=Za (Zj z12_4 hb);(try clear hb);(try clear hb2);(try clear hk);(try clear hi);(try clear ho0))|((first|((with_reducible refine gate_callee (f:=8) rfl ?_);refine goesL_ (some 122) rfl rfl Try.func8 z12_36 rfl #[.slice A3 l3.length c3] rfl z12_1 ?_;(with_reducible refine(laws_toIntS.calls kj140 _ _ l3 t404 _ ?side1 ?side2 A145.out).mono ?_))|(go_at_call 8;(with_reducible refine(laws_toIntS.calls kj140 _ _ l3 t404 _ ?side1 ?side2 A145.out).mono ?_)));(case side1=>exact z12_29);(case side2=>exact HC3.out);rintro e w153 ⟨v405,rfl,ho0,hb⟩;(first|refine⟨_,rfl,?_⟩|skip);replace HO400:=Za (Kd.S_below z12_30 hb);have HO406:=Za (Kd.R_lower (Kd.R_new' (Kd.R_new' (Kd.R_new' (Kd.R_new' (Kd.R_new' ho0 (Kd.R_lt z12_10)) (Kd.R_lt z12_9)) (Kd.R_lt z12_8)) (Kd.R_lt z12_7)) (Kd.R_lt z12_22)) (Zy z12_4));replace HO_355000:=Za (Ym z12_10 (Yf ho0) hb);replace HO_355001:=Za (Ym z12_9 (Yf ho0) hb);replace HO_375000:=Za (Ym z12_8 (Yf ho0) hb);replace HO_375001:=Za (Ym z12_7 (Yf ho0) hb);replace HO403:=Za (Ym z12_22 (Yf ho0) hb);replace BK334:=Za (Zg (g:=gb334) (o:= .cells #[.slice A0_0 l0_0.length c0_0] 24 (0,0)) z12_0 hb);replace BK354:=Za (Zg (g:=gb354) (o:= .cells #[.slice Ao33 t345.length co33,.slice Ao36 t348.length co36,.int .i64 t351,.int .i64 t352] 28 (0,0)) z12_3 hb);replace BK374:=Za (Zg (g:=gb374) (o:= .cells #[.slice Ao52 t395.length co52,.slice Ao57 t396.length co57,.int .i64 t371,.int .i64 t372] 28 (0,0)) z12_5 hb);replace HB:=Za (Zj z12_4 hb);(try clear hb);(try clear hb2);(try clear hk);(try clear hi);(try clear ho0);obtain⟨Ao154,co154,eo154⟩:=Kd.S_slice HO400.out;subst eo154;obtain⟨Ao155,co155,eo155⟩:=Yn HO403.out;subst eo155;obtain⟨Ao156,co156,eo156⟩:=Yn HO406.out;subst eo156)|((first|((with_reducible refine gate_callee (f:=9) rfl ?_);refine goesL_ (some 123) rfl rfl Try.func9 z12_36 rfl #[.agg #[.slice Ao154 t398.length co154],.int .i64 a1,.slice Ao155 t401.length co155,.slice Ao156 t404.length co156] rfl z12_1 ?_;(with_reducible refine(impl_TaskEffect.calls kj140 _ _ t398 a1 _ _ t401 _ _ t404 t407 t410 t413 t414 t415 _ ?side1 ?side2 ?side3 ?side4 ?side5 ?side6 A146.out).mono ?_))|(go_at_call 9;(with_reducible refine(impl_TaskEffect.calls kj140 _ _ t398 a1 _ _ t401 _ _ t404 t407 t410 t413 t414 t415 _ ?side1 ?side2 ?side3 ?side4 ?side5 ?side6 A146.out).mono ?_)));(case side1=>repeat(first|exact(Kd.S_reads' HO400.out).2.2|(with_reducible refine Yc ?_ _)|(with_reducible refine Yd ?_ _)|(with_reducible refine Ye ?_)));(case side2=>exact(Kd.S_reads' HO400.out).2.1);(case side3=>repeat(first|exact(Yb HO403.out).2.2|(with_reducible refine Yc ?_ _)|(with_reducible refine Yd ?_ _)|(with_reducible refine Ye ?_)));(case side4=>exact(Yb HO403.out).2.1);(case side5=>repeat(first|exact(Yb HO406.out).2.2|(with_reducible refine Yc ?_ _)|(with_reducible refine Yd ?_ _)|(with_reducible refine Ye ?_)));(case side6=>exact(Yb HO406.out).2.1);rintro e w157 ⟨v408,v411,rfl,ho0,ho1,hb⟩;(first|refine⟨_,rfl,?_⟩|skip);replace HO400:=Za (Kd.S_below z12_30 hb);have HO409:=Za (Kd.R_lower (Kd.R_new' (Kd.R_new' (Kd.R_new' (Kd.R_new' (Kd.R_new' (Kd.R_new' ho0 (Kd.R_lt z12_10)) (Kd.R_lt z12_9)) (Kd.R_lt z12_8)) (Kd.R_lt z12_7)) (Kd.R_lt z12_22)) (Kd.R_lt z12_32)) (Zy z12_4));have HO412:=Za (Kd.R_lower (Kd.R_new' (Kd.R_new' (Kd.R_new' (Kd.R_new' (Kd.R_new' (Kd.R_new' ho1 (Kd.R_lt z12_10)) (Kd.R_lt z12_9)) (Kd.R_lt z12_8)) (Kd.R_lt z12_7)) (Kd.R_lt z12_22)) (Kd.R_lt z12_32)) (Zy z12_4));replace HO_355000:=Za (Zw (Kd.R_told (Kd.R_told (Kd.R_old z12_10 hb) (Yf ho0)) (Yf ho1)) (fun _ h_=>h_.1));replace HO_355001:=Za (Zw (Kd.R_told (Kd.R_told (Kd.R_old z12_9 hb) (Yf ho0)) (Yf ho1)) (fun _ h_=>h_.1));replace HO_375000:=Za (Zw (Kd.R_told (Kd.R_told (Kd.R_old z12_8 hb) (Yf ho0)) (Yf ho1)) (fun _ h_=>h_.1));replace HO_375001:=Za (Zw (Kd.R_told (Kd.R_told (Kd.R_old z12_7 hb) (Yf ho0)) (Yf ho1)) (fun _ h_=>h_.1));replace HO403:=Za (Zw (Kd.R_told (Kd.R_told (Kd.R_old z12_22 hb) (Yf ho0)) (Yf ho1)) (fun _ h_=>h_.1));replace HO406:=Za (Zw (Kd.R_told (Kd.R_told (Kd.R_old z12_32 hb) (Yf ho0)) (Yf ho1)) (fun _ h_=>h_.1));replace BK334:=Za (Zg (g:=gb334) (o:= .cells #[.slice A0_0 l0_0.length c0_0] 24 (0,0)) z12_0 hb);replace BK354:=Za (Zg (g:=gb354) (o:= .cells #[.slice Ao33 t345.length co33,.slice Ao36 t348.length co36,.int .i64 t351,.int .i64 t352] 28 (0,0)) z12_3 hb);replace BK374:=Za (Zg (g:=gb374) (o:= .cells #[.slice Ao52 t395.length co52,.slice Ao57 t396.length co57,.int .i64 t371,.int .i64 t372] 28 (0,0)) z12_5 hb);replace HB:=Za (Zj z12_4 hb);(try clear hb);(try clear hb2);(try clear hk);(try clear hi);(try clear ho0);(try clear ho1))|((with_reducible refine Zp (N:=20) rfl ?_);refine Zt ?hg (N:=20) ?hd (cs:= #[.slice none 0 0,.slice none 0 0,.int .i64 0,.int .i64 0]) (t:=28) ?hr ?_;(case hd=>rfl);(case hg=>rfl);(case hr=>exact z12_38);intro gb416 hg w158 hbox hb;replace HO_355000:=Za (Kd.R_below z12_10 hb);replace HO_355001:=Za (Kd.R_below z12_9 hb);replace HO_375000:=Za (Kd.R_below z12_8 hb);replace HO_375001:=Za (Kd.R_below z12_7 hb);replace HO400:=Za (Kd.S_below z12_30 hb);replace HO403:=Za (Kd.R_below z12_22 hb);replace HO406:=Za (Kd.R_below z12_32 hb);replace HO409:=Za (Kd.R_below (by(with_reducible repeat(first|apply Zn|apply Zo|apply Zm));exact HO409.out) hb);replace HO412:=Za (Kd.R_below (by(with_reducible repeat(first|apply Zn|apply Zo|apply Zm));exact HO412.out) hb);have BK416:=Za (hbox);have GW416:=Za ((by rw[hg];exact(Zy z12_4):w.heap.size≤gb416));have GE416:=Za ((by rw[hg];exact(Zy z12_4):w.heap.size≤gb416));replace HB:=Za (Zj z12_4 hb);have NB334_416:=Za ((z12_44:gb334≠gb416));have NB416_334:=Za ((z12_45:gb416≠gb334));replace BK334:=Za (Zg (g:=gb334) (o:= .cells #[.slice A0_0 l0_0.length c0_0] 24 (0,0)) z12_0 hb);have NB354_416:=Za ((z12_42:gb354≠gb416));have NB416_354:=Za ((z12_43:gb416≠gb354));replace BK354:=Za (Zg (g:=gb354) (o:= .cells #[.slice Ao33 t345.length co33,.slice Ao36 t348.length co36,.int .i64 t351,.int .i64 t352] 28 (0,0)) z12_3 hb);have NB374_416:=Za ((by rw[hg];exact Nat.ne_of_lt (blk_lt (g:=gb374) (o:= .cells #[.slice Ao52 t395.length co52,.slice Ao57 t396.length co57,.int .i64 t371,.int .i64 t372] 28 (0,0)) z12_5):gb374≠gb416));have NB416_374:=Za ((by rw[hg];exact Nat.ne_of_gt (blk_lt (g:=gb374) (o:= .cells #[.slice Ao52 t395.length co52,.slice Ao57 t396.length co57,.int .i64 t371,.int .i64 t372] 28 (0,0)) z12_5):gb416≠gb374));replace BK374:=Za (Zg (g:=gb374) (o:= .cells #[.slice Ao52 t395.length co52,.slice Ao57 t396.length co57,.int .i64 t371,.int .i64 t372] 28 (0,0)) z12_5 hb);clear hb hbox hg;obtain⟨Ao159,co159,eo159⟩:=Yn HO409.out;subst eo159;have hnb160:=NB416_334.out;have hnc160:=NB334_416.out;have hnb161:=NB416_354.out;have hnc161:=NB354_416.out;have hnb162:=NB416_374.out;have hnc162:=NB374_416.out;have hcz163_0:w158.cell? ⟨gb416,0,none⟩=some (.slice none 0 0):=(Zb BK416.out 0).trans rfl;have hcz163_1:w158.cell? ⟨gb416,1,none⟩=some (.slice none 0 0):=(Zb BK416.out 1).trans rfl;have hcz163_2:w158.cell? ⟨gb416,2,none⟩=some (.int .i64 0):=(Zb BK416.out 2).trans rfl;have hcz163_3:w158.cell? ⟨gb416,3,none⟩=some (.int .i64 0):=(Zb BK416.out 3).trans rfl;have hfz163_0:=Zc BK416.out 0;have hfz163_1:=Zc BK416.out 1;have hfz163_2:=Zc BK416.out 2;have hfz163_3:=Zc BK416.out 3;obtain⟨Ao164,co164,eo164⟩:=Yn HO412.out;subst eo164)|((with_reducible refine Yk (t:=28) (p:=20) rfl ?_);refine Yj (t:=28) (p:=20) (v:= ?vo_w165) (w1:=((((w158.setCell ⟨gb416,0,none⟩ (.slice Ao159 t407.length co159)).setCell ⟨gb416,1,none⟩ (.slice Ao164 t410.length co164)).setCell ⟨gb416,2,none⟩ (.int .i64 t413)).setCell ⟨gb416,3,none⟩ (.int .i64 t414))) ?hg ?ho ?hn ?hr ?_;(case ho=>rfl);(case hg=>rfl);(case hn=>rfl);(case hr=>exact z12_38);intro w165 hw;have n0_:Aside0 (Kd.R (Kd.int .i64) 3 w165 w.heap.size (fun k_=>some k_≠(.slice Ao36 t348.length co36:Value).ownBlock∧some k_≠(.slice Ao52 t395.length co52:Value).ownBlock∧some k_≠(.slice Ao57 t396.length co57:Value).ownBlock∧some k_≠(.slice Ao155 t401.length co155:Value).ownBlock∧some k_≠(.slice Ao156 t404.length co156:Value).ownBlock∧some k_≠(.slice Ao159 t407.length co159:Value).ownBlock∧some k_≠(.slice Ao164 t410.length co164:Value).ownBlock) (.slice Ao33 t345.length co33) t345):=⟨(by rw[hw];exact(by(with_reducible repeat(first|apply Zn|apply Zo|apply Zm));exact Zw (Kd.R_far (p:=⟨gb416,3,none⟩) (Kd.R_far (p:=⟨gb416,2,none⟩) (Kd.R_far (p:=⟨gb416,1,none⟩) (Kd.R_far (p:=⟨gb416,0,none⟩) (Kd.R_types HO_355000.out BK416.out z12_37) (fun _ hk=>hk.2) (.slice Ao159 t407.length co159)) (fun _ hk=>hk.2) (.slice Ao164 t410.length co164)) (fun _ hk=>hk.2) (.int .i64 t413)) (fun _ hk=>hk.2) (.int .i64 t414)) (fun _ hk=>⟨hk.1.1.1.1.1.1,⟨hk.1.1.1.1.1.2.1,⟨hk.1.1.1.1.1.2.2,⟨hk.1.1.1.1.2,⟨hk.1.1.1.2,⟨hk.1.1.2,hk.1.2⟩⟩⟩⟩⟩⟩)))⟩;have n1_:Aside0 (Kd.R (Kd.int .i64) 3 w165 w.heap.size (fun k_=>some k_≠(.slice Ao33 t345.length co33:Value).ownBlock∧some k_≠(.slice Ao52 t395.length co52:Value).ownBlock∧some k_≠(.slice Ao57 t396.length co57:Value).ownBlock∧some k_≠(.slice Ao155 t401.length co155:Value).ownBlock∧some k_≠(.slice Ao156 t404.length co156:Value).ownBlock∧some k_≠(.slice Ao159 t407.length co159:Value).ownBlock∧some k_≠(.slice Ao164 t410.length co164:Value).ownBlock) (.slice Ao36 t348.length co36) t348):=⟨(by rw[hw];exact(by(with_reducible repeat(first|apply Zn|apply Zo|apply Zm));exact Zw (Kd.R_far (p:=⟨gb416,3,none⟩) (Kd.R_far (p:=⟨gb416,2,none⟩) (Kd.R_far (p:=⟨gb416,1,none⟩) (Kd.R_far (p:=⟨gb416,0,none⟩) (Kd.R_types HO_355001.out BK416.out z12_37) (fun _ hk=>hk.2) (.slice Ao159 t407.length co159)) (fun _ hk=>hk.2) (.slice Ao164 t410.length co164)) (fun _ hk=>hk.2) (.int .i64 t413)) (fun _ hk=>hk.2) (.int .i64 t414)) (fun _ hk=>⟨hk.1.1.1.1.1.1,⟨hk.1.1.1.1.1.2.1,⟨hk.1.1.1.1.1.2.2,⟨hk.1.1.1.1.2,⟨hk.1.1.1.2,⟨hk.1.1.2,hk.1.2⟩⟩⟩⟩⟩⟩)))⟩;have n2_:Aside0 (Kd.R (Kd.int .i64) 3 w165 w.heap.size (fun k_=>some k_≠(.slice Ao33 t345.length co33:Value).ownBlock∧some k_≠(.slice Ao36 t348.length co36:Value).ownBlock∧some k_≠(.slice Ao57 t396.length co57:Value).ownBlock∧some k_≠(.slice Ao155 t401.length co155:Value).ownBlock∧some k_≠(.slice Ao156 t404.length co156:Value).ownBlock∧some k_≠(.slice Ao159 t407.length co159:Value).ownBlock∧some k_≠(.slice Ao164 t410.length co164:Value).ownBlock) (.slice Ao52 t395.length co52) t395):=⟨(by rw[hw];exact(by(with_reducible repeat(first|apply Zn|apply Zo|apply Zm));exact Zw (Kd.R_far (p:=⟨gb416,3,none⟩) (Kd.R_far (p:=⟨gb416,2,none⟩) (Kd.R_far (p:=⟨gb416,1,none⟩) (Kd.R_far (p:=⟨gb416,0,none⟩) (Kd.R_types HO_375000.out BK416.out z12_37) (fun _ hk=>hk.2) (.slice Ao159 t407.length co159)) (fun _ hk=>hk.2) (.slice Ao164 t410.length co164)) (fun _ hk=>hk.2) (.int .i64 t413)) (fun _ hk=>hk.2) (.int .i64 t414)) (fun _ hk=>⟨hk.1.1.1.1.1.1,⟨hk.1.1.1.1.1.2.1,⟨hk.1.1.1.1.1.2.2,⟨hk.1.1.1.1.2,⟨hk.1.1.1.2,⟨hk.1.1.2,hk.1.2⟩⟩⟩⟩⟩⟩)))⟩;have n3_:Aside0 (Kd.R (Kd.int .i64) 3 w165 w.heap.size (fun k_=>some k_≠(.slice Ao33 t345.length co33:Value).ownBlock∧some k_≠(.slice Ao36 t348.length co36:Value).ownBlock∧some k_≠(.slice Ao52 t395.length co52:Value).ownBlock∧some k_≠(.slice Ao155 t401.length co155:Value).ownBlock∧some k_≠(.slice Ao156 t404.length co156:Value).ownBlock∧some k_≠(.slice Ao159 t407.length co159:Value).ownBlock∧some k_≠(.slice Ao164 t410.length co164:Value).ownBlock) (.slice Ao57 t396.length co57) t396):=⟨(by rw[hw];exact(by(with_reducible repeat(first|apply Zn|apply Zo|apply Zm));exact Zw (Kd.R_far (p:=⟨gb416,3,none⟩) (Kd.R_far (p:=⟨gb416,2,none⟩) (Kd.R_far (p:=⟨gb416,1,none⟩) (Kd.R_far (p:=⟨gb416,0,none⟩) (Kd.R_types HO_375001.out BK416.out z12_37) (fun _ hk=>hk.2) (.slice Ao159 t407.length co159)) (fun _ hk=>hk.2) (.slice Ao164 t410.length co164)) (fun _ hk=>hk.2) (.int .i64 t413)) (fun _ hk=>hk.2) (.int .i64 t414)) (fun _ hk=>⟨hk.1.1.1.1.1.1,⟨hk.1.1.1.1.1.2.1,⟨hk.1.1.1.1.1.2.2,⟨hk.1.1.1.1.2,⟨hk.1.1.1.2,⟨hk.1.1.2,hk.1.2⟩⟩⟩⟩⟩⟩)))⟩;have n4_:Aside0 (Kd.S k64 64 w165 w.heap.size (fun _=>True) (.slice Ao154 t398.length co154) t398):=⟨(by rw[hw];exact(by(with_reducible repeat(first|apply Kd.S_alloc|apply Kd.S_drewN|apply Kd.S_drew));exact Kd.S_mono (Kd.S_far (p:=⟨gb416,3,none⟩) (Kd.S_far (p:=⟨gb416,2,none⟩) (Kd.S_far (p:=⟨gb416,1,none⟩) (Kd.S_far (p:=⟨gb416,0,none⟩) (Kd.S_types HO400.out BK416.out z12_37) (fun _ hk=>hk.2) (.slice Ao159 t407.length co159)) (fun _ hk=>hk.2) (.slice Ao164 t410.length co164)) (fun _ hk=>hk.2) (.int .i64 t413)) (fun _ hk=>hk.2) (.int .i64 t414)) (fun _ hk=>trivial)))⟩;have n5_:Aside0 (Kd.R (Kd.int .i64) 3 w165 w.heap.size (fun k_=>some k_≠(.slice Ao33 t345.length co33:Value).ownBlock∧some k_≠(.slice Ao36 t348.length co36:Value).ownBlock∧some k_≠(.slice Ao52 t395.length co52:Value).ownBlock∧some k_≠(.slice Ao57 t396.length co57:Value).ownBlock∧some k_≠(.slice Ao156 t404.length co156:Value).ownBlock∧some k_≠(.slice Ao159 t407.length co159:Value).ownBlock∧some k_≠(.slice Ao164 t410.length co164:Value).ownBlock) (.slice Ao155 t401.length co155) t401):=⟨(by rw[hw];exact(by(with_reducible repeat(first|apply Zn|apply Zo|apply Zm));exact Zw (Kd.R_far (p:=⟨gb416,3,none⟩) (Kd.R_far (p:=⟨gb416,2,none⟩) (Kd.R_far (p:=⟨gb416,1,none⟩) (Kd.R_far (p:=⟨gb416,0,none⟩) (Kd.R_types HO403.out BK416.out z12_37) (fun _ hk=>hk.2) (.slice Ao159 t407.length co159)) (fun _ hk=>hk.2) (.slice Ao164 t410.length co164)) (fun _ hk=>hk.2) (.int .i64 t413)) (fun _ hk=>hk.2) (.int .i64 t414)) (fun _ hk=>⟨hk.1.1.1.1.1.1.1.2,⟨hk.1.1.1.1.1.1.2,⟨hk.1.1.1.1.1.2,⟨hk.1.1.1.1.2,⟨hk.1.1.1.2,⟨hk.1.1.2,hk.1.2⟩⟩⟩⟩⟩⟩)))⟩;have n6_:Aside0 (Kd.R (Kd.int .i64) 3 w165 w.heap.size (fun k_=>some k_≠(.slice Ao33 t345.length co33:Value).ownBlock∧some k_≠(.slice Ao36 t348.length co36:Value).ownBlock∧some k_≠(.slice Ao52 t395.length co52:Value).ownBlock∧some k_≠(.slice Ao57 t396.length co57:Value).ownBlock∧some k_≠(.slice Ao155 t401.length co155:Value).ownBlock∧some k_≠(.slice Ao159 t407.length co159:Value).ownBlock∧some k_≠(.slice Ao164 t410.length co164:Value).ownBlock) (.slice Ao156 t404.length co156) t404):=⟨(by rw[hw];exact(by(with_reducible repeat(first|apply Zn|apply Zo|apply Zm));exact Zw (Kd.R_far (p:=⟨gb416,3,none⟩) (Kd.R_far (p:=⟨gb416,2,none⟩) (Kd.R_far (p:=⟨gb416,1,none⟩) (Kd.R_far (p:=⟨gb416,0,none⟩) (Kd.R_types HO406.out BK416.out z12_37) (fun _ hk=>hk.2) (.slice Ao159 t407.length co159)) (fun _ hk=>hk.2) (.slice Ao164 t410.length co164)) (fun _ hk=>hk.2) (.int .i64 t413)) (fun _ hk=>hk.2) (.int .i64 t414)) (fun _ hk=>⟨hk.1.1.1.1.1.1.1.2,⟨hk.1.1.1.1.1.1.2,⟨hk.1.1.1.1.1.2,⟨hk.1.1.1.1.2,⟨hk.1.1.1.2,⟨hk.1.1.2,hk.1.2⟩⟩⟩⟩⟩⟩)))⟩;have n7_:Aside0 (Kd.R (Kd.int .i64) 3 w165 w.heap.size (fun k_=>some k_≠(.slice Ao33 t345.length co33:Value).ownBlock∧some k_≠(.slice Ao36 t348.length co36:Value).ownBlock∧some k_≠(.slice Ao52 t395.length co52:Value).ownBlock∧some k_≠(.slice Ao57 t396.length co57:Value).ownBlock∧some k_≠(.slice Ao155 t401.length co155:Value).ownBlock∧some k_≠(.slice Ao156 t404.length co156:Value).ownBlock∧some k_≠(.slice Ao164 t410.length co164:Value).ownBlock) (.slice Ao159 t407.length co159) t407):=⟨(by rw[hw];exact(by(with_reducible repeat(first|apply Zn|apply Zo|apply Zm));exact Zw (Kd.R_far (p:=⟨gb416,3,none⟩) (Kd.R_far (p:=⟨gb416,2,none⟩) (Kd.R_far (p:=⟨gb416,1,none⟩) (Kd.R_far (p:=⟨gb416,0,none⟩) (Kd.R_types HO409.out BK416.out z12_37) (fun _ hk=>hk.2) (.slice Ao159 t407.length co159)) (fun _ hk=>hk.2) (.slice Ao164 t410.length co164)) (fun _ hk=>hk.2) (.int .i64 t413)) (fun _ hk=>hk.2) (.int .i64 t414)) (fun _ hk=>⟨hk.1.1.1.1.1.1.2,⟨hk.1.1.1.1.1.2,⟨hk.1.1.1.1.2,⟨hk.1.1.1.2,⟨hk.1.1.2,⟨hk.1.2,hk.1.1.1.1.1.1.1⟩⟩⟩⟩⟩⟩)))⟩;have n8_:Aside0 (Kd.R (Kd.int .i64) 3 w165 w.heap.size (fun k_=>some k_≠(.slice Ao33 t345.length co33:Value).ownBlock∧some k_≠(.slice Ao36 t348.length co36:Value).ownBlock∧some k_≠(.slice Ao52 t395.length co52:Value).ownBlock∧some k_≠(.slice Ao57 t396.length co57:Value).ownBlock∧some k_≠(.slice Ao155 t401.length co155:Value).ownBlock∧some k_≠(.slice Ao156 t404.length co156:Value).ownBlock∧some k_≠(.slice Ao159 t407.length co159:Value).ownBlock) (.slice Ao164 t410.length co164) t410):=⟨(by rw[hw];exact(by(with_reducible repeat(first|apply Zn|apply Zo|apply Zm));exact Zw (Kd.R_far (p:=⟨gb416,3,none⟩) (Kd.R_far (p:=⟨gb416,2,none⟩) (Kd.R_far (p:=⟨gb416,1,none⟩) (Kd.R_far (p:=⟨gb416,0,none⟩) (Kd.R_types HO412.out BK416.out z12_37) (fun _ hk=>hk.2) (.slice Ao159 t407.length co159)) (fun _ hk=>hk.2) (.slice Ao164 t410.length co164)) (fun _ hk=>hk.2) (.int .i64 t413)) (fun _ hk=>hk.2) (.int .i64 t414)) (fun _ hk=>⟨hk.1.1.1.1.1.1.2,⟨hk.1.1.1.1.1.2,⟨hk.1.1.1.1.2,⟨hk.1.1.1.2,⟨hk.1.1.2,⟨hk.1.2,hk.1.1.1.1.1.1.1⟩⟩⟩⟩⟩⟩)))⟩;have n9_:Aside0 (w165.heap[gb334]? =some (.cells #[.slice A0_0 l0_0.length c0_0] 24 (0,0))):=⟨(by rw[hw];exact(by(with_reducible repeat(first|refine blk_drewN ?_ _|refine blk_drew ?_|refine blk_alloc ?_ _));refine blk_far ?_ NB334_416.out _;(with_reducible repeat(first|refine blk_drewN ?_ _|refine blk_drew ?_|refine blk_alloc ?_ _));refine blk_far ?_ NB334_416.out _;(with_reducible repeat(first|refine blk_drewN ?_ _|refine blk_drew ?_|refine blk_alloc ?_ _));refine blk_far ?_ NB334_416.out _;(with_reducible repeat(first|refine blk_drewN ?_ _|refine blk_drew ?_|refine blk_alloc ?_ _));refine blk_far ?_ NB334_416.out _;(with_reducible repeat(first|refine blk_drewN ?_ _|refine blk_drew ?_|refine blk_alloc ?_ _));exact BK334.out))⟩;have n10_:Aside0 (w165.heap[gb354]? =some (.cells #[.slice Ao33 t345.length co33,.slice Ao36 t348.length co36,.int .i64 t351,.int .i64 t352] 28 (0,0))):=⟨(by rw[hw];exact(by(with_reducible repeat(first|refine blk_drewN ?_ _|refine blk_drew ?_|refine blk_alloc ?_ _));refine blk_far ?_ NB354_416.out _;(with_reducible repeat(first|refine blk_drewN ?_ _|refine blk_drew ?_|refine blk_alloc ?_ _));refine blk_far ?_ NB354_416.out _;(with_reducible repeat(first|refine blk_drewN ?_ _|refine blk_drew ?_|refine blk_alloc ?_ _));refine blk_far ?_ NB354_416.out _;(with_reducible repeat(first|refine blk_drewN ?_ _|refine blk_drew ?_|refine blk_alloc ?_ _));refine blk_far ?_ NB354_416.out _;(with_reducible repeat(first|refine blk_drewN ?_ _|refine blk_drew ?_|refine blk_alloc ?_ _));exact BK354.out))⟩;have n11_:Aside0 (w165.heap[gb374]? =some (.cells #[.slice Ao52 t395.length co52,.slice Ao57 t396.length co57,.int .i64 t371,.int .i64 t372] 28 (0,0))):=⟨(by rw[hw];exact(by(with_reducible repeat(first|refine blk_drewN ?_ _|refine blk_drew ?_|refine blk_alloc ?_ _));refine blk_far ?_ NB374_416.out _;(with_reducible repeat(first|refine blk_drewN ?_ _|refine blk_drew ?_|refine blk_alloc ?_ _));refine blk_far ?_ NB374_416.out _;(with_reducible repeat(first|refine blk_drewN ?_ _|refine blk_drew ?_|refine blk_alloc ?_ _));refine blk_far ?_ NB374_416.out _;(with_reducible repeat(first|refine blk_drewN ?_ _|refine blk_drew ?_|refine blk_alloc ?_ _));refine blk_far ?_ NB374_416.out _;(with_reducible repeat(first|refine blk_drewN ?_ _|refine blk_drew ?_|refine blk_alloc ?_ _));exact BK374.out))⟩;have n12_:Aside0 (w165.heap[gb416]? =some (.cells #[.slice Ao159 t407.length co159,.slice Ao164 t410.length co164,.int .i64 t413,.int .i64 t414] 28 (0,0))):=⟨(by rw[hw];exact(by(with_reducible repeat(first|refine blk_drewN ?_ _|refine blk_drew ?_|refine blk_alloc ?_ _));refine blk_put (cs:= #[.slice Ao159 t407.length co159,.slice Ao164 t410.length co164,.int .i64 t413,.int .i64 0]) ?_ 3 _ rfl;(with_reducible repeat(first|refine blk_drewN ?_ _|refine blk_drew ?_|refine blk_alloc ?_ _));refine blk_put (cs:= #[.slice Ao159 t407.length co159,.slice Ao164 t410.length co164,.int .i64 0,.int .i64 0]) ?_ 2 _ rfl;(with_reducible repeat(first|refine blk_drewN ?_ _|refine blk_drew ?_|refine blk_alloc ?_ _));refine blk_put (cs:= #[.slice Ao159 t407.length co159,.slice none 0 0,.int .i64 0,.int .i64 0]) ?_ 1 _ rfl;(with_reducible repeat(first|refine blk_drewN ?_ _|refine blk_drew ?_|refine blk_alloc ?_ _));refine blk_put (cs:= #[.slice none 0 0,.slice none 0 0,.int .i64 0,.int .i64 0]) ?_ 0 _ rfl;(with_reducible repeat(first|refine blk_drewN ?_ _|refine blk_drew ?_|refine blk_alloc ?_ _));exact BK416.out))⟩;have n13_:Aside0 (Below w.heap.size w w165):=⟨(by rw[hw];exact z12_19)⟩;clear hw;clear HO_355000;clear HO_355001;clear HO_375000;clear HO_375001;clear HO400;clear HO403;clear HO406;clear HO409;clear HO412;clear BK334;clear BK354;clear BK374;clear BK416;clear HB;have HO_355000:=n0_;have HO_355001:=n1_;have HO_375000:=n2_;have HO_375001:=n3_;have HO400:=n4_;have HO403:=n5_;have HO406:=n6_;have HO409:=n7_;have HO412:=n8_;have BK334:=n9_;have BK354:=n10_;have BK374:=n11_;have BK416:=n12_;have HB:=n13_;clear n0_ n1_ n2_ n3_ n4_ n5_ n6_ n7_ n8_ n9_ n10_ n11_ n12_ n13_))
                         (try simp only[Act.put,Zq,Zr,Zs])
                         go_cut [134] (fun v134 wc=>∃(kq:Nat) (x134_146:Bool),v134= .bool x134_146∧Aside0 (laws_FnExactTaskEffect.j12 kq t394 x134_146 t395 t396 t371 t372=some r)∧Aside0 (kq≤kj140)∧Aside0 (Kd.R (Kd.int .i64) 3 wc w.heap.size (fun k_=>some k_≠((.slice Ao36 t348.length co36):Value).ownBlock∧some k_≠((.slice Ao52 t395.length co52):Value).ownBlock∧some k_≠((.slice Ao57 t396.length co57):Value).ownBlock∧some k_≠((.slice Ao159 t407.length co159):Value).ownBlock∧some k_≠((.slice Ao164 t410.length co164):Value).ownBlock) (.slice Ao33 t345.length co33) t345)∧Aside0 (Kd.R (Kd.int .i64) 3 wc w.heap.size (fun k_=>some k_≠((.slice Ao33 t345.length co33):Value).ownBlock∧some k_≠((.slice Ao52 t395.length co52):Value).ownBlock∧some k_≠((.slice Ao57 t396.length co57):Value).ownBlock∧some k_≠((.slice Ao159 t407.length co159):Value).ownBlock∧some k_≠((.slice Ao164 t410.length co164):Value).ownBlock) (.slice Ao36 t348.length co36) t348)∧Aside0 (Kd.R (Kd.int .i64) 3 wc w.heap.size (fun k_=>some k_≠((.slice Ao33 t345.length co33):Value).ownBlock∧some k_≠((.slice Ao36 t348.length co36):Value).ownBlock∧some k_≠((.slice Ao57 t396.length co57):Value).ownBlock∧some k_≠((.slice Ao159 t407.length co159):Value).ownBlock∧some k_≠((.slice Ao164 t410.length co164):Value).ownBlock) (.slice Ao52 t395.length co52) t395)∧Aside0 (Kd.R (Kd.int .i64) 3 wc w.heap.size (fun k_=>some k_≠((.slice Ao33 t345.length co33):Value).ownBlock∧some k_≠((.slice Ao36 t348.length co36):Value).ownBlock∧some k_≠((.slice Ao52 t395.length co52):Value).ownBlock∧some k_≠((.slice Ao159 t407.length co159):Value).ownBlock∧some k_≠((.slice Ao164 t410.length co164):Value).ownBlock) (.slice Ao57 t396.length co57) t396)∧Aside0 (Kd.R (Kd.int .i64) 3 wc w.heap.size (fun k_=>some k_≠((.slice Ao33 t345.length co33):Value).ownBlock∧some k_≠((.slice Ao36 t348.length co36):Value).ownBlock∧some k_≠((.slice Ao52 t395.length co52):Value).ownBlock∧some k_≠((.slice Ao57 t396.length co57):Value).ownBlock∧some k_≠((.slice Ao164 t410.length co164):Value).ownBlock) (.slice Ao159 t407.length co159) t407)∧Aside0 (Kd.R (Kd.int .i64) 3 wc w.heap.size (fun k_=>some k_≠((.slice Ao33 t345.length co33):Value).ownBlock∧some k_≠((.slice Ao36 t348.length co36):Value).ownBlock∧some k_≠((.slice Ao52 t395.length co52):Value).ownBlock∧some k_≠((.slice Ao57 t396.length co57):Value).ownBlock∧some k_≠((.slice Ao159 t407.length co159):Value).ownBlock) (.slice Ao164 t410.length co164) t410)∧Aside0 (wc.heap[gb334]? =some (.cells #[(.slice A0_0 l0_0.length c0_0)] 24 (0,0)))∧Aside0 (wc.heap[gb354]? =some (.cells #[(.slice Ao33 t345.length co33),(.slice Ao36 t348.length co36),.int .i64 t351,.int .i64 t352] 28 (0,0)))∧Aside0 (wc.heap[gb374]? =some (.cells #[(.slice Ao52 t395.length co52),(.slice Ao57 t396.length co57),.int .i64 t371,.int .i64 t372] 28 (0,0)))∧Aside0 (wc.heap[gb416]? =some (.cells #[(.slice Ao159 t407.length co159),(.slice Ao164 t410.length co164),.int .i64 t413,.int .i64 t414] 28 (0,0)))∧Aside0 (Below w.heap.size w wc))
                         case first=>
                          have H:=HC147.out
                          clear HC147
                          replace H:=Zl H
                          obtain⟨t417,A1660,H⟩:=H
                          replace H:(if t417=true then (laws_FnExactTaskEffect.j12 kj140 t394 (t415 != t353) t395 t396 t371 t372) else (laws_FnExactTaskEffect.j12 kj140 t394 true t395 t396 t371 t372))=some r:=H
                          have A166:=Za A1660
                          clear A1660
                          by_cases c167:t417=true
                          ·subst c167
                           rw[if_pos rfl] at H
                           have H':=Za H
                           clear H
                           have hnb168:=NB416_334.out
                           have hnc168:=NB334_416.out
                           have hnb169:=NB416_354.out
                           have hnc169:=NB354_416.out
                           have hnb170:=NB416_374.out
                           have hnc170:=NB374_416.out
                           have hcz171_0:w165.cell? ⟨gb416,0,none⟩=some (.slice Ao159 t407.length co159):=(Zb BK416.out 0).trans rfl
                           have hcz171_1:w165.cell? ⟨gb416,1,none⟩=some (.slice Ao164 t410.length co164):=(Zb BK416.out 1).trans rfl
                           have hcz171_2:w165.cell? ⟨gb416,2,none⟩=some (.int .i64 t413):=(Zb BK416.out 2).trans rfl
                           have hcz171_3:w165.cell? ⟨gb416,3,none⟩=some (.int .i64 t414):=(Zb BK416.out 3).trans rfl
                           have hfz171_0:=Zc BK416.out 0
                           have hfz171_1:=Zc BK416.out 1
                           have hfz171_2:=Zc BK416.out 2
                           have hfz171_3:=Zc BK416.out 3
                           have hnb172:=NB354_334.out
                           have hnc172:=NB334_354.out
                           have hnb173:=NB354_374.out
                           have hnc173:=NB374_354.out
                           have hcz174_0:w165.cell? ⟨gb354,0,none⟩=some (.slice Ao33 t345.length co33):=(Zb BK354.out 0).trans rfl
                           have hcz174_1:w165.cell? ⟨gb354,1,none⟩=some (.slice Ao36 t348.length co36):=(Zb BK354.out 1).trans rfl
                           have hcz174_2:w165.cell? ⟨gb354,2,none⟩=some (.int .i64 t351):=(Zb BK354.out 2).trans rfl
                           have hcz174_3:w165.cell? ⟨gb354,3,none⟩=some (.int .i64 t352):=(Zb BK354.out 3).trans rfl
                           have hfz174_0:=Zc BK354.out 0
                           have hfz174_1:=Zc BK354.out 1
                           have hfz174_2:=Zc BK354.out 2
                           have hfz174_3:=Zc BK354.out 3
                           go_wp2_with (first|((first|((with_reducible refine gate_callee (f:=10) rfl ?_);refine goesL_ (some 128) rfl rfl Try.func10 z12_36 rfl #[.agg #[.slice Ao159 t407.length co159,.slice Ao164 t410.length co164,.int .i64 t413,.int .i64 t414],.agg #[.slice Ao33 t345.length co33,.slice Ao36 t348.length co36,.int .i64 t351,.int .i64 t352]] rfl z12_1 ?_;(with_reducible refine(laws_eqEffect.calls kj140 _ _ t407 _ _ t410 t413 t414 _ _ t345 _ _ t348 t351 t352 true _ ?side1 ?side2 ?side3 ?side4 ?side5 ?side6 ?side7 ?side8 A166.out).mono ?_))|(go_at_call 10;(with_reducible refine(laws_eqEffect.calls kj140 _ _ t407 _ _ t410 t413 t414 _ _ t345 _ _ t348 t351 t352 true _ ?side1 ?side2 ?side3 ?side4 ?side5 ?side6 ?side7 ?side8 A166.out).mono ?_)));(case side1=>repeat(first|exact(Yb HO409.out).2.2|(with_reducible refine Yc ?_ _)|(with_reducible refine Yd ?_ _)|(with_reducible refine Ye ?_)));(case side2=>exact(Yb HO409.out).2.1);(case side3=>repeat(first|exact(Yb HO412.out).2.2|(with_reducible refine Yc ?_ _)|(with_reducible refine Yd ?_ _)|(with_reducible refine Ye ?_)));(case side4=>exact(Yb HO412.out).2.1);(case side5=>exact z12_28);(case side6=>exact(Yb HO_355000.out).2.1);(case side7=>exact z12_27);(case side8=>exact(Yb HO_355001.out).2.1);rintro e w175 ⟨rfl,hb⟩;(first|refine⟨_,rfl,?_⟩|skip);replace HO_355000:=Za (Kd.R_below z12_10 hb);replace HO_355001:=Za (Kd.R_below z12_9 hb);replace HO_375000:=Za (Kd.R_below z12_8 hb);replace HO_375001:=Za (Kd.R_below z12_7 hb);replace HO400:=Za (Kd.S_below z12_30 hb);replace HO403:=Za (Kd.R_below z12_22 hb);replace HO406:=Za (Kd.R_below z12_32 hb);replace HO409:=Za (Kd.R_below (by(with_reducible repeat(first|apply Zn|apply Zo|apply Zm));exact HO409.out) hb);replace HO412:=Za (Kd.R_below (by(with_reducible repeat(first|apply Zn|apply Zo|apply Zm));exact HO412.out) hb);replace BK334:=Za (Zg (g:=gb334) (o:= .cells #[.slice A0_0 l0_0.length c0_0] 24 (0,0)) z12_0 hb);replace BK354:=Za (Zg (g:=gb354) (o:= .cells #[.slice Ao33 t345.length co33,.slice Ao36 t348.length co36,.int .i64 t351,.int .i64 t352] 28 (0,0)) z12_3 hb);replace BK374:=Za (Zg (g:=gb374) (o:= .cells #[.slice Ao52 t395.length co52,.slice Ao57 t396.length co57,.int .i64 t371,.int .i64 t372] 28 (0,0)) z12_5 hb);replace BK416:=Za (Zg (g:=gb416) (o:= .cells #[.slice Ao159 t407.length co159,.slice Ao164 t410.length co164,.int .i64 t413,.int .i64 t414] 28 (0,0)) z12_41 hb);replace HB:=Za (Zj z12_19 hb);(try clear hb);(try clear hb2);(try clear hk);(try clear hi)))
                           go_meet
                           case rel=>exact⟨_,((t415 != t353)),z12_40,H',⟨by have:=HJ4.out;have:=HJ7.out;have:=HJ10.out;have:=HJ22.out;have:=HJ76.out;have:=HJ80.out;have:=HJ88.out;have:=HJ94.out;have:=HJ101.out;have:=HJ128.out;have:=HJ132.out;have:=HJ140.out;first|omega|exact Nat.le_refl _⟩,⟨by(try simp only[hl375000_132]);(try simp only[hl375001_132]);(with_reducible repeat(first|apply Zn|apply Zo|apply Zm));exact Zw HO_355000.out (fun _ hk=>⟨hk.1,⟨hk.2.1,⟨hk.2.2.1,⟨hk.2.2.2.2.2.1,hk.2.2.2.2.2.2⟩⟩⟩⟩)⟩,⟨by(try simp only[hl375000_132]);(try simp only[hl375001_132]);(with_reducible repeat(first|apply Zn|apply Zo|apply Zm));exact Zw HO_355001.out (fun _ hk=>⟨hk.1,⟨hk.2.1,⟨hk.2.2.1,⟨hk.2.2.2.2.2.1,hk.2.2.2.2.2.2⟩⟩⟩⟩)⟩,⟨by(try simp only[hl375000_132]);(try simp only[hl375001_132]);(with_reducible repeat(first|apply Zn|apply Zo|apply Zm));exact Zw HO_375000.out (fun _ hk=>⟨hk.1,⟨hk.2.1,⟨hk.2.2.1,⟨hk.2.2.2.2.2.1,hk.2.2.2.2.2.2⟩⟩⟩⟩)⟩,⟨by(try simp only[hl375000_132]);(try simp only[hl375001_132]);(with_reducible repeat(first|apply Zn|apply Zo|apply Zm));exact Zw HO_375001.out (fun _ hk=>⟨hk.1,⟨hk.2.1,⟨hk.2.2.1,⟨hk.2.2.2.2.2.1,hk.2.2.2.2.2.2⟩⟩⟩⟩)⟩,⟨by(try simp only[hl375000_132]);(try simp only[hl375001_132]);(with_reducible repeat(first|apply Zn|apply Zo|apply Zm));exact Zw HO409.out (fun _ hk=>⟨hk.1,⟨hk.2.1,⟨hk.2.2.1,⟨hk.2.2.2.1,hk.2.2.2.2.2.2⟩⟩⟩⟩)⟩,⟨by(try simp only[hl375000_132]);(try simp only[hl375001_132]);(with_reducible repeat(first|apply Zn|apply Zo|apply Zm));exact Zw HO412.out (fun _ hk=>⟨hk.1,⟨hk.2.1,⟨hk.2.2.1,⟨hk.2.2.2.1,hk.2.2.2.2.2.2⟩⟩⟩⟩)⟩,⟨by(try simp only[hl375000_132]);(try simp only[hl375001_132]);(with_reducible repeat(first|refine blk_drewN ?_ _|refine blk_drew ?_|refine blk_alloc ?_ _));exact BK334.out⟩,⟨by(try simp only[hl375000_132]);(try simp only[hl375001_132]);(with_reducible repeat(first|refine blk_drewN ?_ _|refine blk_drew ?_|refine blk_alloc ?_ _));exact BK354.out⟩,⟨by(try simp only[hl375000_132]);(try simp only[hl375001_132]);(with_reducible repeat(first|refine blk_drewN ?_ _|refine blk_drew ?_|refine blk_alloc ?_ _));exact BK374.out⟩,⟨by(try simp only[hl375000_132]);(try simp only[hl375001_132]);(with_reducible repeat(first|refine blk_drewN ?_ _|refine blk_drew ?_|refine blk_alloc ?_ _));exact BK416.out⟩,⟨by repeat(first|(with_reducible first|exact HB.out|apply Zh|apply Zf|apply Ze|refine Zd ?_ GE334.out|refine Zd ?_ GE354.out|refine Zd ?_ GE374.out|refine Zd ?_ GE416.out)|exact HB.out)⟩⟩
                          ·replace c167:=Bool.eq_false_iff.mpr c167
                           subst c167
                           rw[if_neg (show ¬(false=true) by decide)] at H
                           have H':=Za H
                           clear H
                           have hnb176:=NB416_334.out
                           have hnc176:=NB334_416.out
                           have hnb177:=NB416_354.out
                           have hnc177:=NB354_416.out
                           have hnb178:=NB416_374.out
                           have hnc178:=NB374_416.out
                           have hcz179_0:w165.cell? ⟨gb416,0,none⟩=some (.slice Ao159 t407.length co159):=(Zb BK416.out 0).trans rfl
                           have hcz179_1:w165.cell? ⟨gb416,1,none⟩=some (.slice Ao164 t410.length co164):=(Zb BK416.out 1).trans rfl
                           have hcz179_2:w165.cell? ⟨gb416,2,none⟩=some (.int .i64 t413):=(Zb BK416.out 2).trans rfl
                           have hcz179_3:w165.cell? ⟨gb416,3,none⟩=some (.int .i64 t414):=(Zb BK416.out 3).trans rfl
                           have hfz179_0:=Zc BK416.out 0
                           have hfz179_1:=Zc BK416.out 1
                           have hfz179_2:=Zc BK416.out 2
                           have hfz179_3:=Zc BK416.out 3
                           have hnb180:=NB354_334.out
                           have hnc180:=NB334_354.out
                           have hnb181:=NB354_374.out
                           have hnc181:=NB374_354.out
                           have hcz182_0:w165.cell? ⟨gb354,0,none⟩=some (.slice Ao33 t345.length co33):=(Zb BK354.out 0).trans rfl
                           have hcz182_1:w165.cell? ⟨gb354,1,none⟩=some (.slice Ao36 t348.length co36):=(Zb BK354.out 1).trans rfl
                           have hcz182_2:w165.cell? ⟨gb354,2,none⟩=some (.int .i64 t351):=(Zb BK354.out 2).trans rfl
                           have hcz182_3:w165.cell? ⟨gb354,3,none⟩=some (.int .i64 t352):=(Zb BK354.out 3).trans rfl
                           have hfz182_0:=Zc BK354.out 0
                           have hfz182_1:=Zc BK354.out 1
                           have hfz182_2:=Zc BK354.out 2
                           have hfz182_3:=Zc BK354.out 3
                           go_wp2_with (first|((first|((with_reducible refine gate_callee (f:=10) rfl ?_);refine goesL_ (some 128) rfl rfl Try.func10 z12_36 rfl #[.agg #[.slice Ao159 t407.length co159,.slice Ao164 t410.length co164,.int .i64 t413,.int .i64 t414],.agg #[.slice Ao33 t345.length co33,.slice Ao36 t348.length co36,.int .i64 t351,.int .i64 t352]] rfl z12_1 ?_;(with_reducible refine(laws_eqEffect.calls kj140 _ _ t407 _ _ t410 t413 t414 _ _ t345 _ _ t348 t351 t352 false _ ?side1 ?side2 ?side3 ?side4 ?side5 ?side6 ?side7 ?side8 A166.out).mono ?_))|(go_at_call 10;(with_reducible refine(laws_eqEffect.calls kj140 _ _ t407 _ _ t410 t413 t414 _ _ t345 _ _ t348 t351 t352 false _ ?side1 ?side2 ?side3 ?side4 ?side5 ?side6 ?side7 ?side8 A166.out).mono ?_)));(case side1=>repeat(first|exact(Yb HO409.out).2.2|(with_reducible refine Yc ?_ _)|(with_reducible refine Yd ?_ _)|(with_reducible refine Ye ?_)));(case side2=>exact(Yb HO409.out).2.1);(case side3=>repeat(first|exact(Yb HO412.out).2.2|(with_reducible refine Yc ?_ _)|(with_reducible refine Yd ?_ _)|(with_reducible refine Ye ?_)));(case side4=>exact(Yb HO412.out).2.1);(case side5=>exact z12_28);(case side6=>exact(Yb HO_355000.out).2.1);(case side7=>exact z12_27);(case side8=>exact(Yb HO_355001.out).2.1);rintro e w183 ⟨rfl,hb⟩;(first|refine⟨_,rfl,?_⟩|skip);replace HO_355000:=Za (Kd.R_below z12_10 hb);replace HO_355001:=Za (Kd.R_below z12_9 hb);replace HO_375000:=Za (Kd.R_below z12_8 hb);replace HO_375001:=Za (Kd.R_below z12_7 hb);replace HO400:=Za (Kd.S_below z12_30 hb);replace HO403:=Za (Kd.R_below z12_22 hb);replace HO406:=Za (Kd.R_below z12_32 hb);replace HO409:=Za (Kd.R_below (by(with_reducible repeat(first|apply Zn|apply Zo|apply Zm));exact HO409.out) hb);replace HO412:=Za (Kd.R_below (by(with_reducible repeat(first|apply Zn|apply Zo|apply Zm));exact HO412.out) hb);replace BK334:=Za (Zg (g:=gb334) (o:= .cells #[.slice A0_0 l0_0.length c0_0] 24 (0,0)) z12_0 hb);replace BK354:=Za (Zg (g:=gb354) (o:= .cells #[.slice Ao33 t345.length co33,.slice Ao36 t348.length co36,.int .i64 t351,.int .i64 t352] 28 (0,0)) z12_3 hb);replace BK374:=Za (Zg (g:=gb374) (o:= .cells #[.slice Ao52 t395.length co52,.slice Ao57 t396.length co57,.int .i64 t371,.int .i64 t372] 28 (0,0)) z12_5 hb);replace BK416:=Za (Zg (g:=gb416) (o:= .cells #[.slice Ao159 t407.length co159,.slice Ao164 t410.length co164,.int .i64 t413,.int .i64 t414] 28 (0,0)) z12_41 hb);replace HB:=Za (Zj z12_19 hb);(try clear hb);(try clear hb2);(try clear hk);(try clear hi)))
                           go_meet
                           case rel=>exact⟨_,(true),z12_40,H',⟨by have:=HJ4.out;have:=HJ7.out;have:=HJ10.out;have:=HJ22.out;have:=HJ76.out;have:=HJ80.out;have:=HJ88.out;have:=HJ94.out;have:=HJ101.out;have:=HJ128.out;have:=HJ132.out;have:=HJ140.out;first|omega|exact Nat.le_refl _⟩,⟨by(try simp only[hl375000_132]);(try simp only[hl375001_132]);(with_reducible repeat(first|apply Zn|apply Zo|apply Zm));exact Zw HO_355000.out (fun _ hk=>⟨hk.1,⟨hk.2.1,⟨hk.2.2.1,⟨hk.2.2.2.2.2.1,hk.2.2.2.2.2.2⟩⟩⟩⟩)⟩,⟨by(try simp only[hl375000_132]);(try simp only[hl375001_132]);(with_reducible repeat(first|apply Zn|apply Zo|apply Zm));exact Zw HO_355001.out (fun _ hk=>⟨hk.1,⟨hk.2.1,⟨hk.2.2.1,⟨hk.2.2.2.2.2.1,hk.2.2.2.2.2.2⟩⟩⟩⟩)⟩,⟨by(try simp only[hl375000_132]);(try simp only[hl375001_132]);(with_reducible repeat(first|apply Zn|apply Zo|apply Zm));exact Zw HO_375000.out (fun _ hk=>⟨hk.1,⟨hk.2.1,⟨hk.2.2.1,⟨hk.2.2.2.2.2.1,hk.2.2.2.2.2.2⟩⟩⟩⟩)⟩,⟨by(try simp only[hl375000_132]);(try simp only[hl375001_132]);(with_reducible repeat(first|apply Zn|apply Zo|apply Zm));exact Zw HO_375001.out (fun _ hk=>⟨hk.1,⟨hk.2.1,⟨hk.2.2.1,⟨hk.2.2.2.2.2.1,hk.2.2.2.2.2.2⟩⟩⟩⟩)⟩,⟨by(try simp only[hl375000_132]);(try simp only[hl375001_132]);(with_reducible repeat(first|apply Zn|apply Zo|apply Zm));exact Zw HO409.out (fun _ hk=>⟨hk.1,⟨hk.2.1,⟨hk.2.2.1,⟨hk.2.2.2.1,hk.2.2.2.2.2.2⟩⟩⟩⟩)⟩,⟨by(try simp only[hl375000_132]);(try simp only[hl375001_132]);(with_reducible repeat(first|apply Zn|apply Zo|apply Zm));exact Zw HO412.out (fun _ hk=>⟨hk.1,⟨hk.2.1,⟨hk.2.2.1,⟨hk.2.2.2.1,hk.2.2.2.2.2.2⟩⟩⟩⟩)⟩,⟨by(try simp only[hl375000_132]);(try simp only[hl375001_132]);(with_reducible repeat(first|refine blk_drewN ?_ _|refine blk_drew ?_|refine blk_alloc ?_ _));exact BK334.out⟩,⟨by(try simp only[hl375000_132]);(try simp only[hl375001_132]);(with_reducible repeat(first|refine blk_drewN ?_ _|refine blk_drew ?_|refine blk_alloc ?_ _));exact BK354.out⟩,⟨by(try simp only[hl375000_132]);(try simp only[hl375001_132]);(with_reducible repeat(first|refine blk_drewN ?_ _|refine blk_drew ?_|refine blk_alloc ?_ _));exact BK374.out⟩,⟨by(try simp only[hl375000_132]);(try simp only[hl375001_132]);(with_reducible repeat(first|refine blk_drewN ?_ _|refine blk_drew ?_|refine blk_alloc ?_ _));exact BK416.out⟩,⟨by repeat(first|(with_reducible first|exact HB.out|apply Zh|apply Zf|apply Ze|refine Zd ?_ GE334.out|refine Zd ?_ GE354.out|refine Zd ?_ GE374.out|refine Zd ?_ GE416.out)|exact HB.out)⟩⟩
                         case rest=>
                          clear HC147
                          (try clear c2);(try clear c3);(try clear hcz106_0);(try clear hcz12_0);(try clear hcz136_0);(try clear hcz136_1);(try clear hcz136_2);(try clear hcz136_3);(try clear hcz138_0);(try clear hcz138_1);(try clear hcz138_2);(try clear hcz138_3);(try clear hcz150_0);(try clear hcz163_0);(try clear hcz163_1);(try clear hcz163_2);(try clear hcz163_3);(try clear hcz24_0);(try clear hcz35_0);(try clear hcz35_1);(try clear hcz35_2);(try clear hcz35_3);(try clear hcz38_0);(try clear hcz44_0);(try clear hcz47_0);(try clear hcz56_0);(try clear hcz56_1);(try clear hcz56_2);(try clear hcz56_3);(try clear hfz106_0);(try clear hfz12_0);(try clear hfz136_0);(try clear hfz136_1);(try clear hfz136_2);(try clear hfz136_3);(try clear hfz138_0);(try clear hfz138_1);(try clear hfz138_2);(try clear hfz138_3);(try clear hfz150_0);(try clear hfz163_0);(try clear hfz163_1);(try clear hfz163_2);(try clear hfz163_3);(try clear hfz24_0);(try clear hfz35_0);(try clear hfz35_1);(try clear hfz35_2);(try clear hfz35_3);(try clear hfz38_0);(try clear hfz44_0);(try clear hfz47_0);(try clear hfz56_0);(try clear hfz56_1);(try clear hfz56_2);(try clear hfz56_3)
                          obtain⟨kq,x134_146,rfl,HA,HJ146,HO_355000,HO_355001,HO_375000,HO_375001,HO_417000,HO_417001,BK334,BK354,BK374,BK416,HB⟩:=hcut
                          cases kq with
                          |zero=>exact absurd HA.out (by simp[laws_FnExactTaskEffect.j12])
                          |succ kj146=>
                           have H:=HA.out
                           clear HA
                           simp only[laws_FnExactTaskEffect.j12] at H
                           have HC184:=Za H
                           clear H
                           go_upto_if 134 with(fail)
                           go_cut [] (fun wc=>∃(kq:Nat),Aside0 (laws_FnExactTaskEffect.j13 kq t394 t395 t396 t371 t372=some r)∧Aside0 (kq≤kj146)∧Aside0 (Kd.R (Kd.int .i64) 3 wc w.heap.size (fun k_=>some k_≠((.slice Ao36 t348.length co36):Value).ownBlock∧some k_≠((.slice Ao52 t395.length co52):Value).ownBlock∧some k_≠((.slice Ao57 t396.length co57):Value).ownBlock∧some k_≠((.slice Ao159 t407.length co159):Value).ownBlock∧some k_≠((.slice Ao164 t410.length co164):Value).ownBlock) (.slice Ao33 t345.length co33) t345)∧Aside0 (Kd.R (Kd.int .i64) 3 wc w.heap.size (fun k_=>some k_≠((.slice Ao33 t345.length co33):Value).ownBlock∧some k_≠((.slice Ao52 t395.length co52):Value).ownBlock∧some k_≠((.slice Ao57 t396.length co57):Value).ownBlock∧some k_≠((.slice Ao159 t407.length co159):Value).ownBlock∧some k_≠((.slice Ao164 t410.length co164):Value).ownBlock) (.slice Ao36 t348.length co36) t348)∧Aside0 (Kd.R (Kd.int .i64) 3 wc w.heap.size (fun k_=>some k_≠((.slice Ao33 t345.length co33):Value).ownBlock∧some k_≠((.slice Ao36 t348.length co36):Value).ownBlock∧some k_≠((.slice Ao57 t396.length co57):Value).ownBlock∧some k_≠((.slice Ao159 t407.length co159):Value).ownBlock∧some k_≠((.slice Ao164 t410.length co164):Value).ownBlock) (.slice Ao52 t395.length co52) t395)∧Aside0 (Kd.R (Kd.int .i64) 3 wc w.heap.size (fun k_=>some k_≠((.slice Ao33 t345.length co33):Value).ownBlock∧some k_≠((.slice Ao36 t348.length co36):Value).ownBlock∧some k_≠((.slice Ao52 t395.length co52):Value).ownBlock∧some k_≠((.slice Ao159 t407.length co159):Value).ownBlock∧some k_≠((.slice Ao164 t410.length co164):Value).ownBlock) (.slice Ao57 t396.length co57) t396)∧Aside0 (Kd.R (Kd.int .i64) 3 wc w.heap.size (fun k_=>some k_≠((.slice Ao33 t345.length co33):Value).ownBlock∧some k_≠((.slice Ao36 t348.length co36):Value).ownBlock∧some k_≠((.slice Ao52 t395.length co52):Value).ownBlock∧some k_≠((.slice Ao57 t396.length co57):Value).ownBlock∧some k_≠((.slice Ao164 t410.length co164):Value).ownBlock) (.slice Ao159 t407.length co159) t407)∧Aside0 (Kd.R (Kd.int .i64) 3 wc w.heap.size (fun k_=>some k_≠((.slice Ao33 t345.length co33):Value).ownBlock∧some k_≠((.slice Ao36 t348.length co36):Value).ownBlock∧some k_≠((.slice Ao52 t395.length co52):Value).ownBlock∧some k_≠((.slice Ao57 t396.length co57):Value).ownBlock∧some k_≠((.slice Ao159 t407.length co159):Value).ownBlock) (.slice Ao164 t410.length co164) t410)∧Aside0 (wc.heap[gb334]? =some (.cells #[(.slice A0_0 l0_0.length c0_0)] 24 (0,0)))∧Aside0 (wc.heap[gb354]? =some (.cells #[(.slice Ao33 t345.length co33),(.slice Ao36 t348.length co36),.int .i64 t351,.int .i64 t352] 28 (0,0)))∧Aside0 (wc.heap[gb374]? =some (.cells #[(.slice Ao52 t395.length co52),(.slice Ao57 t396.length co57),.int .i64 t371,.int .i64 t372] 28 (0,0)))∧Aside0 (wc.heap[gb416]? =some (.cells #[(.slice Ao159 t407.length co159),(.slice Ao164 t410.length co164),.int .i64 t413,.int .i64 t414] 28 (0,0)))∧Aside0 (Below w.heap.size w wc))
                           case first=>
                            have H:=HC184.out
                            clear HC184
                            by_cases c185:x134_146=true
                            ·subst c185
                             rw[if_pos rfl] at H
                             exact absurd (hT.out.symm.trans (Zk H).symm) z12_37
                            ·replace c185:=Bool.eq_false_iff.mpr c185
                             subst c185
                             rw[if_neg (show ¬(false=true) by decide)] at H
                             have H':=Za H
                             clear H
                             go_wp2
                             go_meet
                             case rel=>exact⟨_,H',⟨by have:=HJ4.out;have:=HJ7.out;have:=HJ10.out;have:=HJ22.out;have:=HJ76.out;have:=HJ80.out;have:=HJ88.out;have:=HJ94.out;have:=HJ101.out;have:=HJ128.out;have:=HJ132.out;have:=HJ140.out;have:=HJ146.out;first|omega|exact Nat.le_refl _⟩,⟨by(try simp only[hl375000_132]);(try simp only[hl375001_132]);(with_reducible repeat(first|apply Zn|apply Zo|apply Zm));exact HO_355000.out⟩,⟨by(try simp only[hl375000_132]);(try simp only[hl375001_132]);(with_reducible repeat(first|apply Zn|apply Zo|apply Zm));exact HO_355001.out⟩,⟨by(try simp only[hl375000_132]);(try simp only[hl375001_132]);(with_reducible repeat(first|apply Zn|apply Zo|apply Zm));exact HO_375000.out⟩,⟨by(try simp only[hl375000_132]);(try simp only[hl375001_132]);(with_reducible repeat(first|apply Zn|apply Zo|apply Zm));exact HO_375001.out⟩,⟨by(try simp only[hl375000_132]);(try simp only[hl375001_132]);(with_reducible repeat(first|apply Zn|apply Zo|apply Zm));exact HO_417000.out⟩,⟨by(try simp only[hl375000_132]);(try simp only[hl375001_132]);(with_reducible repeat(first|apply Zn|apply Zo|apply Zm));exact HO_417001.out⟩,⟨by(try simp only[hl375000_132]);(try simp only[hl375001_132]);(with_reducible repeat(first|refine blk_drewN ?_ _|refine blk_drew ?_|refine blk_alloc ?_ _));exact BK334.out⟩,⟨by(try simp only[hl375000_132]);(try simp only[hl375001_132]);(with_reducible repeat(first|refine blk_drewN ?_ _|refine blk_drew ?_|refine blk_alloc ?_ _));exact BK354.out⟩,⟨by(try simp only[hl375000_132]);(try simp only[hl375001_132]);(with_reducible repeat(first|refine blk_drewN ?_ _|refine blk_drew ?_|refine blk_alloc ?_ _));exact BK374.out⟩,⟨by(try simp only[hl375000_132]);(try simp only[hl375001_132]);(with_reducible repeat(first|refine blk_drewN ?_ _|refine blk_drew ?_|refine blk_alloc ?_ _));exact BK416.out⟩,⟨by repeat(first|(with_reducible first|exact HB.out|apply Zh|apply Zf|apply Ze|refine Zd ?_ GE334.out|refine Zd ?_ GE354.out|refine Zd ?_ GE374.out|refine Zd ?_ GE416.out)|exact HB.out)⟩⟩
                           case rest=>
                            clear HC184
                            (try clear c2);(try clear c3);(try clear hcz106_0);(try clear hcz12_0);(try clear hcz136_0);(try clear hcz136_1);(try clear hcz136_2);(try clear hcz136_3);(try clear hcz138_0);(try clear hcz138_1);(try clear hcz138_2);(try clear hcz138_3);(try clear hcz150_0);(try clear hcz163_0);(try clear hcz163_1);(try clear hcz163_2);(try clear hcz163_3);(try clear hcz24_0);(try clear hcz35_0);(try clear hcz35_1);(try clear hcz35_2);(try clear hcz35_3);(try clear hcz38_0);(try clear hcz44_0);(try clear hcz47_0);(try clear hcz56_0);(try clear hcz56_1);(try clear hcz56_2);(try clear hcz56_3);(try clear hfz106_0);(try clear hfz12_0);(try clear hfz136_0);(try clear hfz136_1);(try clear hfz136_2);(try clear hfz136_3);(try clear hfz138_0);(try clear hfz138_1);(try clear hfz138_2);(try clear hfz138_3);(try clear hfz150_0);(try clear hfz163_0);(try clear hfz163_1);(try clear hfz163_2);(try clear hfz163_3);(try clear hfz24_0);(try clear hfz35_0);(try clear hfz35_1);(try clear hfz35_2);(try clear hfz35_3);(try clear hfz38_0);(try clear hfz44_0);(try clear hfz47_0);(try clear hfz56_0);(try clear hfz56_1);(try clear hfz56_2);(try clear hfz56_3)
                            obtain⟨kq,HA,HJ183,HO_355000,HO_355001,HO_375000,HO_375001,HO_417000,HO_417001,BK334,BK354,BK374,BK416,HB⟩:=hcut
                            cases kq with
                            |zero=>exact absurd HA.out (by simp[laws_FnExactTaskEffect.j13])
                            |succ kj183=>
                             have H:=HA.out
                             clear HA
                             simp only[laws_FnExactTaskEffect.j13] at H
                             replace H:=Zl H
                             obtain⟨t418,A1860,H⟩:=H
                             replace H:(if t418<0 then (some false) else (if t418=t394 then (some true) else (some false)))=some r:=H
                             have A186:=Za A1860
                             clear A1860
                             by_cases c187:t418<0
                             ·rw[if_pos c187] at H
                              have c187b0:decide (t418<0)=true:=Zx c187
                              clear c187
                              exact absurd (hT.out.symm.trans (Zk H).symm) z12_37
                             ·rw[if_neg c187] at H
                              have c187b0:decide (t418<0)=false:=Yi c187
                              clear c187
                              by_cases c188:t418=t394
                              ·rw[if_pos c188] at H
                               have c188b0:(t418==t394)=true:=beq_iff_eq.mpr c188
                               have c188b1:(t418 != t394)=false:=bne_eq_false_iff_eq.mpr c188
                               clear c188
                               obtain rfl:=Zk H
                               have hnb189:=NB374_334.out
                               have hnc189:=NB334_374.out
                               have hnb190:=NB374_354.out
                               have hnc190:=NB354_374.out
                               have hnb191:=NB374_416.out
                               have hnc191:=NB416_374.out
                               have hcz192_0:wc.cell? ⟨gb374,0,none⟩=some (.slice Ao52 t395.length co52):=(Zb BK374.out 0).trans rfl
                               have hcz192_1:wc.cell? ⟨gb374,1,none⟩=some (.slice Ao57 t396.length co57):=(Zb BK374.out 1).trans rfl
                               have hcz192_2:wc.cell? ⟨gb374,2,none⟩=some (.int .i64 t371):=(Zb BK374.out 2).trans rfl
                               have hcz192_3:wc.cell? ⟨gb374,3,none⟩=some (.int .i64 t372):=(Zb BK374.out 3).trans rfl
                               have hfz192_0:=Zc BK374.out 0
                               have hfz192_1:=Zc BK374.out 1
                               have hfz192_2:=Zc BK374.out 2
                               have hfz192_3:=Zc BK374.out 3
                               go_wp2_with (first|((first|((with_reducible refine gate_callee (f:=16) rfl ?_);refine goesL_ (some 137) rfl rfl Try.func16 z12_36 rfl #[.agg #[.slice Ao52 t395.length co52,.slice Ao57 t396.length co57,.int .i64 t371,.int .i64 t372],.int .i64 1] rfl z12_1 ?_;(with_reducible refine(laws_heldEffect.calls kj183 _ _ t395 _ _ t396 t371 t372 1 t418 _ ?side1 ?side2 ?side3 ?side4 A186.out).mono ?_))|(go_at_call 16;(with_reducible refine(laws_heldEffect.calls kj183 _ _ t395 _ _ t396 t371 t372 1 t418 _ ?side1 ?side2 ?side3 ?side4 A186.out).mono ?_)));(case side1=>exact z12_26);(case side2=>exact(Yb HO_375000.out).2.1);(case side3=>exact z12_25);(case side4=>exact(Yb HO_375001.out).2.1);rintro e w193 ⟨rfl,hb⟩;(first|refine⟨_,rfl,?_⟩|skip);replace HO_355000:=Za (Kd.R_below z12_10 hb);replace HO_355001:=Za (Kd.R_below z12_9 hb);replace HO_375000:=Za (Kd.R_below z12_8 hb);replace HO_375001:=Za (Kd.R_below z12_7 hb);replace HO_417000:=Za (Kd.R_below (by(with_reducible repeat(first|apply Zn|apply Zo|apply Zm));exact HO_417000.out) hb);replace HO_417001:=Za (Kd.R_below (by(with_reducible repeat(first|apply Zn|apply Zo|apply Zm));exact HO_417001.out) hb);replace BK334:=Za (Zg (g:=gb334) (o:= .cells #[.slice A0_0 l0_0.length c0_0] 24 (0,0)) z12_0 hb);replace BK354:=Za (Zg (g:=gb354) (o:= .cells #[.slice Ao33 t345.length co33,.slice Ao36 t348.length co36,.int .i64 t351,.int .i64 t352] 28 (0,0)) z12_3 hb);replace BK374:=Za (Zg (g:=gb374) (o:= .cells #[.slice Ao52 t395.length co52,.slice Ao57 t396.length co57,.int .i64 t371,.int .i64 t372] 28 (0,0)) z12_5 hb);replace BK416:=Za (Zg (g:=gb416) (o:= .cells #[.slice Ao159 t407.length co159,.slice Ao164 t410.length co164,.int .i64 t413,.int .i64 t414] 28 (0,0)) z12_41 hb);replace HB:=Za (Zj z12_19 hb);(try clear hb);(try clear hb2);(try clear hk);(try clear hi)))
                               go_ret
                               exact⟨by first|rfl|(simp[errW_none,errW_some]<;>rfl)|(simp[*,errW_none,errW_some]<;>rfl)|(simp[*,errW_none,errW_some,i64_w];done),by repeat(first|(with_reducible first|exact HB.out|apply Zh|apply Zf|apply Ze|refine Zd ?_ GE334.out|refine Zd ?_ GE354.out|refine Zd ?_ GE374.out|refine Zd ?_ GE416.out)|exact HB.out)⟩
                              ·rw[if_neg c188] at H
                               have c188b0:(t418==t394)=false:=beq_eq_false_iff_ne.mpr c188
                               have c188b1:(t418 != t394)=true:=bne_iff_ne.mpr c188
                               exact absurd (hT.out.symm.trans (Zk H).symm) z12_37
def laws_FnExactTaskEffect.Pure:Prop:=∀(x0:S24) (x1:Int) (x2:List Int) (x3:List Int),gd24 x0→(Lit.int .i64 x1).wf=true→(x2.length≤maxLen∧∀y0∈x2,(Lit.int .i64 y0).wf=true)→(x3.length≤maxLen∧∀y0∈x3,(Lit.int .i64 y0).wf=true)→∃k,laws_FnExactTaskEffect.f k x0.f0 x1 x2 x3=some true
theorem laws_FnExactTaskEffect.walk (P:laws_FnExactTaskEffect.Pure) (x0:S24) (c0:Array Value) (x1:Int) (x2:List Int) (a2:Option Addr) (n2 m2:Nat) (x3:List Int) (a3:Option Addr) (n3 m3:Nat) (w:World) (K0:k24.K w x0 c0.toList) (G0:gd24 x0) (G1:(Lit.int .i64 x1).wf=true) (K2:(Kd.slice 3 (Kd.int .i64)).K w x2 [.slice a2 n2 m2]) (G2:(x2.length≤maxLen∧∀y0∈x2,(Lit.int .i64 y0).wf=true)) (K3:(Kd.slice 3 (Kd.int .i64)).K w x3 [.slice a3 n3 m3]) (G3:(x3.length≤maxLen∧∀y0∈x3,(Lit.int .i64 y0).wf=true)):
  Calls Try.prog 3 #[.agg c0,.int .i64 x1,.slice a2 n2 m2,.slice a3 n3 m3] w fun e w'=>e= .returned (.bool true)∧Below w.heap.size w w':=by
 obtain⟨A0_0,c0_0,e0,l0_0,g0_0⟩:=k24_open K0
 have e0':c0= #[.slice A0_0 x0.f0.length c0_0]:=by rw[←Array.toList_inj];exact e0
 subst e0'
 obtain⟨A2_0,c2_0,e2,l2_0,g2_0⟩:=K2
 injection e2 with e2 _
 injection e2 with e2a e2b e2c
 subst e2a
 subst e2b
 subst e2c
 obtain⟨A3_0,c3_0,e3,l3_0,g3_0⟩:=K3
 injection e3 with e3 _
 injection e3 with e3a e3b e3c
 subst e3a
 subst e3b
 subst e3c
 obtain⟨k,h⟩:=P x0 x1 x2 x3 G0 G1 G2 G3
 refine(laws_FnExactTaskEffect.calls k _ _ x0.f0 x1 _ _ x2 _ _ x3 true w g0_0 l0_0 g2_0 l2_0 g3_0 l3_0 h ⟨rfl⟩).mono ?_
 rintro e w' ⟨rfl,hd⟩
 exact⟨rfl,hd⟩
end Go.Proofs.Ytlolppaddphpoaa.G
