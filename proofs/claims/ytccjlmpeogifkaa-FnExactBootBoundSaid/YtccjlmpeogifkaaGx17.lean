/- Functions of the program as plain Lean functions, and that each call comes to its function's answer; written by a program of the session. No condition. -/
import Derived.Test.YtccjlmpeogifkaaGx0
import Derived.Test.YtccjlmpeogifkaaGx3
import Derived.Test.YtccjlmpeogifkaaGx4
import Derived.Test.YtccjlmpeogifkaaGx6
import Derived.Test.YtccjlmpeogifkaaGx7
import Derived.Test.YtccjlmpeogifkaaGx14
import Derived.Test.YtccjlmpeogifkaaGx15
import Derived.Test.YtccjlmpeogifkaaGx16
namespace Go.Proofs.Ytccjlmpeogifkaa.G
open Go.RowKit Go.Proofs.YtccjlmpeogifkaaW.PrintWords Go.Proofs.YtccjlmpeogifkaaW.PrintLast Go.Proofs.YtccjlmpeogifkaaW.PrintMore
attribute [local go_sem] max2_int min2_int max_two min_two max_three min_three max_four min_four   -- for this text's walks alone
set_option linter.unusedVariables false
set_option linter.unusedSimpArgs false
theorem z17_0 {P : Prop} (h : P := by (try simp only [List.map_toArray, List.map_cons, List.map_nil]); first | done | rfl | (simp only [List.length_drop, List.length_take]; rfl)) : P := h
theorem z17_1 {P : Prop} (h : P := by repeat (first | exact (Kd.C_below HR0_0.out HB.out) | (with_reducible refine Kd.C_alloc ?_ _) | (with_reducible refine Kd.C_drewN ?_ _) | (with_reducible refine Kd.C_drew ?_))) : P := h
theorem z17_2 {P : Prop} (h : P := by repeat (first | (with_reducible first | exact HB.out | apply below_alloc | apply pw_below_drewN | apply below_drew1) | exact HB.out)) : P := h
theorem z17_3 {P : Prop} (h : P := by repeat (first | (with_reducible first | exact HB.out | apply below_alloc | apply pw_below_drewN | apply below_drew1 | refine below_set ?_ GE586.out) | exact HB.out)) : P := h
theorem z17_5 {P : Prop} (h : P := by (with_reducible repeat (first | refine blk_drewN ?_ _ | refine blk_drew ?_ | refine blk_alloc ?_ _)); exact BK586.out) : P := h
theorem z17_7 {P : Prop} (h : P := by repeat (first | (with_reducible first | exact HB.out | apply below_alloc | apply pw_below_drewN | apply below_drew1 | refine below_set ?_ GE586.out | refine below_set ?_ GE601.out) | exact HB.out)) : P := h
theorem z17_9 {P : Prop} (h : P := by (with_reducible repeat (first | apply Kd.R_alloc | apply Kd.R_drewN | apply Kd.R_drew)); exact HO590.out) : P := h
theorem z17_11 {P : Prop} (h : P := by rw [hw]; exact (by (with_reducible repeat (first | refine blk_drewN ?_ _ | refine blk_drew ?_ | refine blk_alloc ?_ _)); refine blk_far ?_ NB586_601.out _; (with_reducible repeat (first | refine blk_drewN ?_ _ | refine blk_drew ?_ | refine blk_alloc ?_ _)); refine blk_far ?_ NB586_601.out _; (with_reducible repeat (first | refine blk_drewN ?_ _ | refine blk_drew ?_ | refine blk_alloc ?_ _)); refine blk_far ?_ NB586_601.out _; (with_reducible repeat (first | refine blk_drewN ?_ _ | refine blk_drew ?_ | refine blk_alloc ?_ _)); refine blk_far ?_ NB586_601.out _; (with_reducible repeat (first | refine blk_drewN ?_ _ | refine blk_drew ?_ | refine blk_alloc ?_ _)); exact BK586.out)) : P := h
theorem z17_13 {P : Prop} (h : P := by (with_reducible repeat (first | apply Kd.R_alloc | apply Kd.R_drewN | apply Kd.R_drew)); exact HO597.out) : P := h
theorem z17_15 {P : Prop} (h : P := by first | (go_simp; done) | (go_simp; rfl)) : P := h
theorem z17_16 {P : Prop} (h : P := by kernel_rfl) : P := h
theorem z17_17 {P : Prop} (h : P := by (with_reducible repeat (first | refine blk_drewN ?_ _ | refine blk_drew ?_ | refine blk_alloc ?_ _)); exact BK601.out) : P := h
theorem z17_19 {P : Prop} (h : P := by repeat (first | exact (Kd.R_reads' HO597.out).2.2 | (with_reducible refine Kd.C_alloc ?_ _) | (with_reducible refine Kd.C_drewN ?_ _) | (with_reducible refine Kd.C_drew ?_))) : P := h
theorem z17_21 {P : Prop} (h : P := by repeat (first | (with_reducible first | exact HB.out | apply below_alloc | apply pw_below_drewN | apply below_drew1 | refine below_set ?_ GE579.out) | exact HB.out)) : P := h
theorem z17_22 {P : Prop} (h : P := by repeat (first | (with_reducible first | exact HB.out | apply below_alloc | apply pw_below_drewN | apply below_drew1 | refine below_set ?_ GE571.out) | exact HB.out)) : P := h
theorem z17_23 {P : Prop} (h : P := by exact HC0_0.out) : P := h
theorem z17_24 {P : Prop} (h : P := by (with_reducible repeat (first | refine blk_drewN ?_ _ | refine blk_drew ?_ | refine blk_alloc ?_ _)); exact BK579.out) : P := h
theorem z17_25 {P : Prop} (h : P := by (with_reducible repeat (first | refine blk_drewN ?_ _ | refine blk_drew ?_ | refine blk_alloc ?_ _)); exact BK571.out) : P := h
theorem z17_26 {P : Prop} (h : P := by repeat (first | exact (Kd.R_reads' HO590.out).2.2 | (with_reducible refine Kd.C_alloc ?_ _) | (with_reducible refine Kd.C_drewN ?_ _) | (with_reducible refine Kd.C_drew ?_))) : P := h
theorem z17_28 {P : Prop} (h : P := by rw [hg]; exact (below_size z17_2)) : P := h
theorem z17_29 {P : Prop} (h : P := by rw [hg]; exact Nat.ne_of_lt (blk_lt (g := gb586) (o := .cells #[.slice A0_0 l0_0.length c0_0, .int .i64 a0_1, .int .i64 a0_2, .int .i64 a0_3] 26 (0, 0)) z17_5)) : P := h
theorem z17_31 {P : Prop} (h : P := by rw [hg]; exact Nat.ne_of_gt (blk_lt (g := gb586) (o := .cells #[.slice A0_0 l0_0.length c0_0, .int .i64 a0_1, .int .i64 a0_2, .int .i64 a0_3] 26 (0, 0)) z17_5)) : P := h
def spec_RecoveryCost.f (a0 : Int) : Option (Int) := (spec_l01In.f a0 0 8).bind fun t570 => (if t570 = true then (if a0 = 0 then (some 0) else (some (wrap64 (3 * (wrap64 (a0 + 1)))))) else (some (-1)))
set_option maxHeartbeats 8000000 in
set_option maxRecDepth 100000 in
theorem spec_RecoveryCost.calls (a0 : Int) (r : Int) (w : World) (h : spec_RecoveryCost.f a0 = some r) :
  Calls Try.prog 30 #[.int .i64 a0] w fun e w' => e = .returned (.int .i64 r) ∧ Drawn0 w w' := by
 have H : ((spec_l01In.f a0 0 8).bind fun t570 => (if t570 = true then (if a0 = 0 then (some 0) else (some (wrap64 (3 * (wrap64 (a0 + 1)))))) else (some (-1)))) = some r := h
 clear h
 replace H := Option.bind_eq_some_iff.mp H
 obtain ⟨t570, A20, H⟩ := H
 replace H : (if t570 = true then (if a0 = 0 then (some 0) else (some (wrap64 (3 * (wrap64 (a0 + 1)))))) else (some (-1))) = some r := H
 have A2 := Aside0.mk A20
 clear A20
 by_cases c3 : t570 = true
 ·subst c3
  have H1 : (if a0 = 0 then (some 0) else (some (wrap64 (3 * (wrap64 (a0 + 1)))))) = some r := by rw [if_pos rfl] at H; exact H
  clear H
  have H := H1
  clear H1
  by_cases c4 : a0 = 0
  ·rw [if_pos c4] at H
   have c4b0 : (a0 == 0) = true := beq_iff_eq.mpr c4
   have c4b1 : (a0 != 0) = false := bne_eq_false_iff_eq.mpr c4
   clear c4
   obtain rfl := Option.some.inj H
   go_enter Try.func30, Try.ntmps30
   go_wp2_with (first | ((with_reducible refine gate_callee (f := 17) rfl ?_); refine goesL_ (some 4) rfl rfl Try.func17 z17_16 rfl #[.int .i64 a0, .int .i64 0, .int .i64 8] rfl z17_0 ?_; (with_reducible refine (spec_l01In.calls a0 0 8 true _ A2.out).mono ?_); rintro e w' ⟨rfl, ⟨nd, rfl⟩⟩; refine ⟨_, rfl, ?_⟩))
   go_ret
   exact ⟨by first | rfl | (simp; done) | (simp [*]; done), by repeat (first | exact Drawn0.refl _ | apply Drawn0.step)⟩
  ·rw [if_neg c4] at H
   have c4b0 : (a0 == 0) = false := beq_eq_false_iff_ne.mpr c4
   have c4b1 : (a0 != 0) = true := bne_iff_ne.mpr c4
   obtain rfl := Option.some.inj H
   go_enter Try.func30, Try.ntmps30
   go_wp2_with (first | ((with_reducible refine gate_callee (f := 17) rfl ?_); refine goesL_ (some 4) rfl rfl Try.func17 z17_16 rfl #[.int .i64 a0, .int .i64 0, .int .i64 8] rfl z17_0 ?_; (with_reducible refine (spec_l01In.calls a0 0 8 true _ A2.out).mono ?_); rintro e w' ⟨rfl, ⟨nd, rfl⟩⟩; refine ⟨_, rfl, ?_⟩))
   go_ret
   exact ⟨by first | rfl | (simp; done) | (simp [*]; done), by repeat (first | exact Drawn0.refl _ | apply Drawn0.step)⟩
 ·replace c3 := Bool.eq_false_iff.mpr c3
  subst c3
  have H1 : (some (-1)) = some r := by rw [if_neg (show ¬ (false = true) by decide)] at H; exact H
  clear H
  have H := H1
  clear H1
  obtain rfl := Option.some.inj H
  go_enter Try.func30, Try.ntmps30
  go_wp2_with (first | ((with_reducible refine gate_callee (f := 17) rfl ?_); refine goesL_ (some 4) rfl rfl Try.func17 z17_16 rfl #[.int .i64 a0, .int .i64 0, .int .i64 8] rfl z17_0 ?_; (with_reducible refine (spec_l01In.calls a0 0 8 false _ A2.out).mono ?_); rintro e w' ⟨rfl, ⟨nd, rfl⟩⟩; refine ⟨_, rfl, ?_⟩))
  go_ret
  exact ⟨by first | rfl | (simp; done) | (simp [*]; done), by repeat (first | exact Drawn0.refl _ | apply Drawn0.step)⟩
def spec_BootBound.f (k : Nat) (l0_0 : List (S55)) (a0_1 : Int) (a0_2 : Int) (a0_3 : Int) : Option (Int) := (spec_l08Ok.f k l0_0 a0_1 a0_2 a0_3).bind fun t572 => (if t572 = true then ((spec_TaskBound.f k l0_0 a0_1 a0_2 a0_3).bind fun t573 => ((spec_MustLog.f k l0_0 a0_1 a0_2 a0_3).bind fun t574 => ((spec_RecoveryCost.f (t574.length : Int)).bind fun t577 => (some (wrap64 (t573 + t577)))))) else (some (-1)))
def spec_BootBound.T3 : Bool × List (List Nat × List Nat) := (true, [([], []), ([0], [0]), ([], []), ([2, 1], [2]), ([3], [3]), ([4, 3], [4]), ([1, 5], [1, 5]), ([6, 5, 0, 1, 2, 3, 4, 5, 6], [6])])
def spec_BootBound.B3 : List Nat := [0, 1, 0, 7, 15, 31, 63, 127]
theorem spec_BootBound.tab3 : rtab .any (opsOf Try.f13 3) = spec_BootBound.T3 := by kernel_rfl
theorem spec_BootBound.bits3 : waitsOk spec_BootBound.T3.2 spec_BootBound.B3 = true := by kernel_rfl
set_option maxHeartbeats 8000000 in
set_option maxRecDepth 100000 in
theorem spec_BootBound.calls (k : Nat) (A0_0 : Option Addr) (c0_0 : Nat) (l0_0 : List (S55)) (a0_1 : Int) (a0_2 : Int) (a0_3 : Int) (r : Int) (w : World) (hr0_0 : Kd.C k55 w A0_0 l0_0.length l0_0) (hc0_0 : l0_0.length ≤ c0_0) (h : spec_BootBound.f k l0_0 a0_1 a0_2 a0_3 = some r) :
  Calls Try.prog 13 #[.agg #[.slice A0_0 l0_0.length c0_0, .int .i64 a0_1, .int .i64 a0_2, .int .i64 a0_3]] w fun e w' => e = .returned (.int .i64 r) ∧ Below w.heap.size w w' := by
 have hu32 := Try.underlying32
 have HR0_0 := Aside0.mk hr0_0
 have HC0_0 := Aside0.mk hc0_0
 clear hr0_0 hc0_0
 have HB := Aside0.mk (Below.refl w.heap.size w)
 have H : ((spec_l08Ok.f k l0_0 a0_1 a0_2 a0_3).bind fun t572 => (if t572 = true then ((spec_TaskBound.f k l0_0 a0_1 a0_2 a0_3).bind fun t573 => ((spec_MustLog.f k l0_0 a0_1 a0_2 a0_3).bind fun t574 => ((spec_RecoveryCost.f (t574.length : Int)).bind fun t577 => (some (wrap64 (t573 + t577)))))) else (some (-1)))) = some r := h
 clear h
 replace H := Option.bind_eq_some_iff.mp H
 obtain ⟨t572, A20, H⟩ := H
 replace H : (if t572 = true then ((spec_TaskBound.f k l0_0 a0_1 a0_2 a0_3).bind fun t573 => ((spec_MustLog.f k l0_0 a0_1 a0_2 a0_3).bind fun t574 => ((spec_RecoveryCost.f (t574.length : Int)).bind fun t577 => (some (wrap64 (t573 + t577)))))) else (some (-1))) = some r := H
 have A2 := Aside0.mk A20
 clear A20
 by_cases c3 : t572 = true
 ·subst c3
  have H1 : ((spec_TaskBound.f k l0_0 a0_1 a0_2 a0_3).bind fun t573 => ((spec_MustLog.f k l0_0 a0_1 a0_2 a0_3).bind fun t574 => ((spec_RecoveryCost.f (t574.length : Int)).bind fun t577 => (some (wrap64 (t573 + t577)))))) = some r := by rw [if_pos rfl] at H; exact H
  clear H
  have H := H1
  clear H1
  replace H := Option.bind_eq_some_iff.mp H
  obtain ⟨t573, A40, H⟩ := H
  replace H : ((spec_MustLog.f k l0_0 a0_1 a0_2 a0_3).bind fun t574 => ((spec_RecoveryCost.f (t574.length : Int)).bind fun t577 => (some (wrap64 (t573 + t577))))) = some r := H
  have A4 := Aside0.mk A40
  clear A40
  replace H := Option.bind_eq_some_iff.mp H
  obtain ⟨t574, A50, H⟩ := H
  replace H : ((spec_RecoveryCost.f (t574.length : Int)).bind fun t577 => (some (wrap64 (t573 + t577)))) = some r := H
  have A5 := Aside0.mk A50
  clear A50
  replace H := Option.bind_eq_some_iff.mp H
  obtain ⟨t577, A60, H⟩ := H
  replace H : (some (wrap64 (t573 + t577))) = some r := H
  have A6 := Aside0.mk A60
  clear A60
  obtain rfl := Option.some.inj H
  go_enter Try.func13, Try.ntmps13
  try go_wp2_with (first | ((with_reducible refine gate_dst (N := 1) rfl ?_); refine box_event ?hg (N := 1) ?hd (cs := #[.slice A0_0 l0_0.length c0_0, .int .i64 a0_1, .int .i64 a0_2, .int .i64 a0_3]) (t := 32) ?hr ?_; (case hd => rfl); (case hg => rfl); (case hr => exact z17_15); intro gb571 hg w7 hbox hb; have n0_ := Aside0.mk (below_step z17_2 hb); have n1_ := Aside0.mk (hbox); have n2_ := Aside0.mk ((z17_28 : w.heap.size ≤ gb571)); have n3_ := Aside0.mk ((z17_28 : w.heap.size ≤ gb571)); clear HB; have HB := n0_; have BK571 := n1_; have GW571 := n2_; have GE571 := n3_; clear n0_ n1_ n2_ n3_; clear hb hbox hg; have hcz8_0 : w7.cell? ⟨gb571, 0, none⟩ = some (.slice A0_0 l0_0.length c0_0) := (blk_cell BK571.out 0).trans rfl; have hcz8_1 : w7.cell? ⟨gb571, 1, none⟩ = some (.int .i64 a0_1) := (blk_cell BK571.out 1).trans rfl; have hcz8_2 : w7.cell? ⟨gb571, 2, none⟩ = some (.int .i64 a0_2) := (blk_cell BK571.out 2).trans rfl; have hcz8_3 : w7.cell? ⟨gb571, 3, none⟩ = some (.int .i64 a0_3) := (blk_cell BK571.out 3).trans rfl; have hfz8_0 := blk_frozen BK571.out 0; have hfz8_1 := blk_frozen BK571.out 1; have hfz8_2 := blk_frozen BK571.out 2; have hfz8_3 := blk_frozen BK571.out 3) | ((with_reducible refine gate_callee (f := 16) rfl ?_); refine goesL_ (some 4) rfl rfl Try.func16 z17_16 rfl #[.agg #[.slice A0_0 l0_0.length c0_0, .int .i64 a0_1, .int .i64 a0_2, .int .i64 a0_3]] rfl z17_0 ?_; (with_reducible refine (spec_l08Ok.calls k _ _ l0_0 a0_1 a0_2 a0_3 true _ ?side1 ?side2 A2.out).mono ?_); (case side1 => exact z17_1); (case side2 => exact z17_23); rintro e w9 ⟨rfl, hb⟩; refine ⟨_, rfl, ?_⟩; have n0_ := Aside0.mk (blk_below (g := gb571) (o := .cells #[.slice A0_0 l0_0.length c0_0, .int .i64 a0_1, .int .i64 a0_2, .int .i64 a0_3] 32 (0, 0)) z17_25 hb); have n1_ := Aside0.mk (below_step z17_22 hb); clear BK571; clear HB; have BK571 := n0_; have HB := n1_; clear n0_ n1_; (try clear hb); (try clear hb2); (try clear hk); (try clear hi)))
  have n0_ := Aside0.mk (blk_drew BK571.out)
  have n1_ := Aside0.mk (below_drew1 HB.out)
  clear BK571
  clear HB
  have BK571 := n0_
  have HB := n1_
  clear n0_ n1_
  refine start_ (n := 8) (S := fun w' => w'.cell? ⟨gb571, 0, none⟩ = some (.slice A0_0 l0_0.length c0_0) ∧ w'.cell? ⟨gb571, 1, none⟩ = some (.int .i64 a0_1) ∧ w'.cell? ⟨gb571, 2, none⟩ = some (.int .i64 a0_2) ∧ w'.cell? ⟨gb571, 3, none⟩ = some (.int .i64 a0_3)) (ds := []) #[false, false, false, false, false, false, false, false] z17_16 rfl rfl ⟨(blk_cell BK571.out 0).trans rfl, (blk_cell BK571.out 1).trans rfl, (blk_cell BK571.out 2).trans rfl, (blk_cell BK571.out 3).trans rfl⟩ (fun hHeld => ?_); refine with_tabW spec_BootBound.tab3 spec_BootBound.bits3 (fun HT_ HW_ => ?_)
  generalize w9.drew = w10 at BK571 HB hHeld ⊢
  refine take_ (i := 0) (N := some 6) (v := ?_) (a' := ?_) #[true, false, false, false, false, false, false, false] rfl rfl (take_ofW HT_.out HW_.out z17_16) (fun _ _ _ h => h) (Or.inl ⟨by rfl, ?_⟩) hHeld ?_ ?_
  rotate_left
  ·rintro w' ⟨s0, s1, s2, s3⟩
   go_simp
   with_reducible rfl
  rotate_left
  ·simp only [Act.put, List.setIfInBounds_toArray, List.set_cons_zero, List.set_cons_succ, i64_w, i32_w]
   rfl
  refine take_ (i := 2) (N := some 8) (v := ?_) (a' := ?_) #[true, false, true, false, false, false, false, false] rfl rfl (take_ofW HT_.out HW_.out z17_16) (fun _ _ _ h => h) (Or.inl ⟨by rfl, ?_⟩) hHeld ?_ ?_
  rotate_left
  ·rintro w' ⟨s0, s1, s2, s3⟩
   go_simp
   with_reducible rfl
  rotate_left
  ·simp only [Act.put, List.setIfInBounds_toArray, List.set_cons_zero, List.set_cons_succ, i64_w, i32_w]
   rfl
  refine one_ (i := 1) (N := some 7) #[true, true, true, false, false, false, false, false] rfl rfl (one_of HT_.out z17_16) (by decide) (fun K hK => ?_)
  refine goes_ Try.func11 z17_16 rfl #[.agg #[.slice A0_0 l0_0.length c0_0, .int .i64 a0_1, .int .i64 a0_2, .int .i64 a0_3]] (by rfl) rfl rfl z17_0 ?_
  with_reducible refine (spec_TaskBound.calls k _ _ l0_0 a0_1 a0_2 a0_3 t573 _ ?side1 ?side2 A4.out).mono ?_
  (case side1 => exact z17_1)
  (case side2 => exact z17_23)
  rintro e w11 ⟨rfl, hb⟩
  refine ⟨_, rfl, ?_⟩
  have n0_ := Aside0.mk (blk_below (g := gb571) (o := .cells #[.slice A0_0 l0_0.length c0_0, .int .i64 a0_1, .int .i64 a0_2, .int .i64 a0_3] 32 (0, 0)) z17_25 hb)
  have n1_ := Aside0.mk (below_step z17_22 hb)
  clear BK571
  clear HB
  have BK571 := n0_
  have HB := n1_
  clear n0_ n1_
  (try clear hb)
  (try clear hb2)
  (try clear hk)
  (try clear hi)
  refine hK.out _ _ ⟨(blk_cell BK571.out 0).trans rfl, (blk_cell BK571.out 1).trans rfl, (blk_cell BK571.out 2).trans rfl, (blk_cell BK571.out 3).trans rfl⟩ (fun hHeld => ?_)
  clear hK K
  refine norm_ (a' := ?_) ?_ ?_
  rotate_left
  ·show Act.put _ (some 7) _ = _
   simp only [Act.put, List.setIfInBounds_toArray, List.set_cons_zero, List.set_cons_succ, i64_w, i32_w]
   rfl
  refine one_ (i := 3) (N := some 9) #[true, true, true, true, false, false, false, false] rfl rfl (one_of HT_.out z17_16) (by decide) (fun K hK => ?_)
  refine goes_ Try.func27 z17_16 rfl #[.agg #[.slice A0_0 l0_0.length c0_0, .int .i64 a0_1, .int .i64 a0_2, .int .i64 a0_3]] (by rfl) rfl rfl z17_0 ?_
  with_reducible refine (spec_MustLog.calls k _ _ l0_0 a0_1 a0_2 a0_3 t574 _ ?side1 ?side2 A5.out).mono ?_
  (case side1 => exact z17_1)
  (case side2 => exact z17_23)
  rintro e w12 ⟨v575, rfl, ho0, hb⟩
  refine ⟨_, rfl, ?_⟩
  have n0_ := Aside0.mk (Kd.R_lower ho0 (below_size z17_22))
  have n1_ := Aside0.mk (blk_below (g := gb571) (o := .cells #[.slice A0_0 l0_0.length c0_0, .int .i64 a0_1, .int .i64 a0_2, .int .i64 a0_3] 32 (0, 0)) z17_25 hb)
  have n2_ := Aside0.mk (below_step z17_22 hb)
  clear BK571
  clear HB
  have HO576 := n0_
  have BK571 := n1_
  have HB := n2_
  clear n0_ n1_ n2_
  (try clear hb)
  (try clear hb2)
  (try clear hk)
  (try clear hi)
  (try clear ho0)
  obtain ⟨Ao13, co13, eo13⟩ := Kd.R_slice HO576.out
  (first | subst eo13 | (injection eo13 with f1_ f2_ f3_; have f4_ := f1_.symm; have f5_ := f3_.symm; clear f1_ f2_ f3_; subst f4_; subst f5_))
  refine hK.out _ _ ⟨(blk_cell BK571.out 0).trans rfl, (blk_cell BK571.out 1).trans rfl, (blk_cell BK571.out 2).trans rfl, (blk_cell BK571.out 3).trans rfl⟩ (fun hHeld => ?_)
  clear hK K
  refine norm_ (a' := ?_) ?_ ?_
  rotate_left
  ·show Act.put _ (some 9) _ = _
   simp only [Act.put, List.setIfInBounds_toArray, List.set_cons_zero, List.set_cons_succ, i64_w, i32_w]
   rfl
  refine pure_ (i := 4) (N := some 10) (v := ?_) (a' := ?_) #[true, true, true, true, true, false, false, false] rfl rfl (any_of HT_.out z17_16) (fun _ _ _ h => h) (Or.inl ⟨by rfl, ?_⟩) ?_ ?_
  rotate_left
  ·intro w'
   go_simp
   with_reducible rfl
  rotate_left
  ·simp only [Act.put, List.setIfInBounds_toArray, List.set_cons_zero, List.set_cons_succ, i64_w, i32_w]
   rfl
  refine one_ (i := 5) (N := some 11) #[true, true, true, true, true, true, false, false] rfl rfl (one_of HT_.out z17_16) (by decide) (fun K hK => ?_)
  refine goes_ Try.func30 z17_16 rfl #[.int .i64 (t574.length : Int)] (by rfl) rfl rfl z17_0 ?_
  with_reducible refine (spec_RecoveryCost.calls (t574.length : Int) t577 _ A6.out).mono ?_
  rintro e w' ⟨rfl, ⟨nd, rfl⟩⟩
  refine ⟨_, rfl, ?_⟩
  refine hK.out _ _ ⟨(blk_cell BK571.out 0).trans rfl, (blk_cell BK571.out 1).trans rfl, (blk_cell BK571.out 2).trans rfl, (blk_cell BK571.out 3).trans rfl⟩ (fun hHeld => ?_)
  clear hK K
  refine norm_ (a' := ?_) ?_ ?_
  rotate_left
  ·show Act.put _ (some 11) _ = _
   simp only [Act.put, List.setIfInBounds_toArray, List.set_cons_zero, List.set_cons_succ, i64_w, i32_w]
   rfl
  refine pure_ (i := 6) (N := some 12) (v := ?_) (a' := ?_) #[true, true, true, true, true, true, true, false] rfl rfl (any_of HT_.out z17_16) (fun _ _ _ h => h) (Or.inl ⟨by rfl, ?_⟩) ?_ ?_
  rotate_left
  ·intro w'
   go_simp
   with_reducible rfl
  rotate_left
  ·simp only [Act.put, List.setIfInBounds_toArray, List.set_cons_zero, List.set_cons_succ, i64_w, i32_w]
   rfl
  refine pure_ (i := 7) (N := some 2) (v := ?_) (a' := ?_) #[true, true, true, true, true, true, true, true] rfl rfl (any_of HT_.out z17_16) (fun _ _ _ h => h) (Or.inl ⟨by rfl, ?_⟩) ?_ ?_
  rotate_left
  ·intro w'
   go_simp
   with_reducible rfl
  rotate_left
  ·simp only [Act.put, List.setIfInBounds_toArray, List.set_cons_zero, List.set_cons_succ, i64_w, i32_w]
   rfl
  refine done_ (done_of HT_.out z17_16) ?_
  try go_wp2
  go_ret
  exact ⟨by first | rfl | (simp [errW_none, errW_some] <;> rfl) | (simp [*, errW_none, errW_some] <;> rfl) | (simp [*, errW_none, errW_some, i64_w]; done), by repeat (first | (with_reducible first | exact HB.out | apply below_alloc | apply pw_below_drewN | apply below_drew1 | refine below_set ?_ GE571.out) | exact HB.out)⟩
 ·replace c3 := Bool.eq_false_iff.mpr c3
  subst c3
  have H1 : (some (-1)) = some r := by rw [if_neg (show ¬ (false = true) by decide)] at H; exact H
  clear H
  have H := H1
  clear H1
  obtain rfl := Option.some.inj H
  go_enter Try.func13, Try.ntmps13
  go_wp2_with (first | ((with_reducible refine gate_dst (N := 1) rfl ?_); refine box_event ?hg (N := 1) ?hd (cs := #[.slice A0_0 l0_0.length c0_0, .int .i64 a0_1, .int .i64 a0_2, .int .i64 a0_3]) (t := 32) ?hr ?_; (case hd => rfl); (case hg => rfl); (case hr => exact z17_15); intro gb571 hg w14 hbox hb; have n0_ := Aside0.mk (below_step z17_2 hb); have n1_ := Aside0.mk (hbox); have n2_ := Aside0.mk ((z17_28 : w.heap.size ≤ gb571)); have n3_ := Aside0.mk ((z17_28 : w.heap.size ≤ gb571)); clear HB; have HB := n0_; have BK571 := n1_; have GW571 := n2_; have GE571 := n3_; clear n0_ n1_ n2_ n3_; clear hb hbox hg; have hcz15_0 : w14.cell? ⟨gb571, 0, none⟩ = some (.slice A0_0 l0_0.length c0_0) := (blk_cell BK571.out 0).trans rfl; have hcz15_1 : w14.cell? ⟨gb571, 1, none⟩ = some (.int .i64 a0_1) := (blk_cell BK571.out 1).trans rfl; have hcz15_2 : w14.cell? ⟨gb571, 2, none⟩ = some (.int .i64 a0_2) := (blk_cell BK571.out 2).trans rfl; have hcz15_3 : w14.cell? ⟨gb571, 3, none⟩ = some (.int .i64 a0_3) := (blk_cell BK571.out 3).trans rfl; have hfz15_0 := blk_frozen BK571.out 0; have hfz15_1 := blk_frozen BK571.out 1; have hfz15_2 := blk_frozen BK571.out 2; have hfz15_3 := blk_frozen BK571.out 3) | ((with_reducible refine gate_callee (f := 16) rfl ?_); refine goesL_ (some 4) rfl rfl Try.func16 z17_16 rfl #[.agg #[.slice A0_0 l0_0.length c0_0, .int .i64 a0_1, .int .i64 a0_2, .int .i64 a0_3]] rfl z17_0 ?_; (with_reducible refine (spec_l08Ok.calls k _ _ l0_0 a0_1 a0_2 a0_3 false _ ?side1 ?side2 A2.out).mono ?_); (case side1 => exact z17_1); (case side2 => exact z17_23); rintro e w16 ⟨rfl, hb⟩; refine ⟨_, rfl, ?_⟩; have n0_ := Aside0.mk (blk_below (g := gb571) (o := .cells #[.slice A0_0 l0_0.length c0_0, .int .i64 a0_1, .int .i64 a0_2, .int .i64 a0_3] 32 (0, 0)) z17_25 hb); have n1_ := Aside0.mk (below_step z17_22 hb); clear BK571; clear HB; have BK571 := n0_; have HB := n1_; clear n0_ n1_; (try clear hb); (try clear hb2); (try clear hk); (try clear hi)))
  go_ret
  exact ⟨by first | rfl | (simp [errW_none, errW_some] <;> rfl) | (simp [*, errW_none, errW_some] <;> rfl) | (simp [*, errW_none, errW_some, i64_w]; done), by repeat (first | (with_reducible first | exact HB.out | apply below_alloc | apply pw_below_drewN | apply below_drew1 | refine below_set ?_ GE571.out) | exact HB.out)⟩
def impl_RecoveryCost.f (a0 : Int) : Option (Int) := (impl_within.f a0 0 8).bind fun t578 => (if t578 = true then (if a0 = 0 then (some 0) else (some (wrap64 (3 * (wrap64 (a0 + 1)))))) else (some (-1)))
set_option maxHeartbeats 8000000 in
set_option maxRecDepth 100000 in
theorem impl_RecoveryCost.calls (a0 : Int) (r : Int) (w : World) (h : impl_RecoveryCost.f a0 = some r) :
  Calls Try.prog 31 #[.int .i64 a0] w fun e w' => e = .returned (.int .i64 r) ∧ Drawn0 w w' := by
 have H : ((impl_within.f a0 0 8).bind fun t578 => (if t578 = true then (if a0 = 0 then (some 0) else (some (wrap64 (3 * (wrap64 (a0 + 1)))))) else (some (-1)))) = some r := h
 clear h
 replace H := Option.bind_eq_some_iff.mp H
 obtain ⟨t578, A20, H⟩ := H
 replace H : (if t578 = true then (if a0 = 0 then (some 0) else (some (wrap64 (3 * (wrap64 (a0 + 1)))))) else (some (-1))) = some r := H
 have A2 := Aside0.mk A20
 clear A20
 by_cases c3 : t578 = true
 ·subst c3
  have H1 : (if a0 = 0 then (some 0) else (some (wrap64 (3 * (wrap64 (a0 + 1)))))) = some r := by rw [if_pos rfl] at H; exact H
  clear H
  have H := H1
  clear H1
  by_cases c4 : a0 = 0
  ·rw [if_pos c4] at H
   have c4b0 : (a0 == 0) = true := beq_iff_eq.mpr c4
   have c4b1 : (a0 != 0) = false := bne_eq_false_iff_eq.mpr c4
   clear c4
   obtain rfl := Option.some.inj H
   go_enter Try.func31, Try.ntmps31
   go_wp2_with (first | ((with_reducible refine gate_callee (f := 38) rfl ?_); refine goesL_ (some 5) rfl rfl Try.func38 z17_16 rfl #[.int .i64 a0, .int .i64 0, .int .i64 8] rfl z17_0 ?_; (with_reducible refine (impl_within.calls a0 0 8 true _ A2.out).mono ?_); rintro e w' ⟨rfl, ⟨nd, rfl⟩⟩; refine ⟨_, rfl, ?_⟩))
   go_ret
   exact ⟨by first | rfl | (simp; done) | (simp [*]; done), by repeat (first | exact Drawn0.refl _ | apply Drawn0.step)⟩
  ·rw [if_neg c4] at H
   have c4b0 : (a0 == 0) = false := beq_eq_false_iff_ne.mpr c4
   have c4b1 : (a0 != 0) = true := bne_iff_ne.mpr c4
   obtain rfl := Option.some.inj H
   go_enter Try.func31, Try.ntmps31
   go_wp2_with (first | ((with_reducible refine gate_callee (f := 38) rfl ?_); refine goesL_ (some 5) rfl rfl Try.func38 z17_16 rfl #[.int .i64 a0, .int .i64 0, .int .i64 8] rfl z17_0 ?_; (with_reducible refine (impl_within.calls a0 0 8 true _ A2.out).mono ?_); rintro e w' ⟨rfl, ⟨nd, rfl⟩⟩; refine ⟨_, rfl, ?_⟩))
   go_ret
   exact ⟨by first | rfl | (simp; done) | (simp [*]; done), by repeat (first | exact Drawn0.refl _ | apply Drawn0.step)⟩
 ·replace c3 := Bool.eq_false_iff.mpr c3
  subst c3
  have H1 : (some (-1)) = some r := by rw [if_neg (show ¬ (false = true) by decide)] at H; exact H
  clear H
  have H := H1
  clear H1
  obtain rfl := Option.some.inj H
  go_enter Try.func31, Try.ntmps31
  go_wp2_with (first | ((with_reducible refine gate_callee (f := 38) rfl ?_); refine goesL_ (some 5) rfl rfl Try.func38 z17_16 rfl #[.int .i64 a0, .int .i64 0, .int .i64 8] rfl z17_0 ?_; (with_reducible refine (impl_within.calls a0 0 8 false _ A2.out).mono ?_); rintro e w' ⟨rfl, ⟨nd, rfl⟩⟩; refine ⟨_, rfl, ?_⟩))
  go_ret
  exact ⟨by first | rfl | (simp; done) | (simp [*]; done), by repeat (first | exact Drawn0.refl _ | apply Drawn0.step)⟩
def impl_BootBound.f (k : Nat) (l0_0 : List (S55)) (a0_1 : Int) (a0_2 : Int) (a0_3 : Int) : Option (Int) := (impl_taskOk.f k l0_0 a0_1 a0_2 a0_3).bind fun t580 => (if t580 = true then ((impl_TaskBound.f k l0_0 a0_1 a0_2 a0_3).bind fun t581 => ((impl_MustLog.f k l0_0 a0_1 a0_2 a0_3).bind fun t582 => ((impl_RecoveryCost.f (t582.length : Int)).bind fun t585 => (some (wrap64 (t581 + t585)))))) else (some (-1)))
def impl_BootBound.T3 : Bool × List (List Nat × List Nat) := (true, [([], []), ([0], [0]), ([], []), ([2, 1], [2]), ([3], [3]), ([4, 3], [4]), ([1, 5], [1, 5]), ([6, 5, 0, 1, 2, 3, 4, 5, 6], [6])])
def impl_BootBound.B3 : List Nat := [0, 1, 0, 7, 15, 31, 63, 127]
theorem impl_BootBound.tab3 : rtab .any (opsOf Try.f14 3) = impl_BootBound.T3 := by kernel_rfl
theorem impl_BootBound.bits3 : waitsOk impl_BootBound.T3.2 impl_BootBound.B3 = true := by kernel_rfl
set_option maxHeartbeats 8000000 in
set_option maxRecDepth 100000 in
theorem impl_BootBound.calls (k : Nat) (A0_0 : Option Addr) (c0_0 : Nat) (l0_0 : List (S55)) (a0_1 : Int) (a0_2 : Int) (a0_3 : Int) (r : Int) (w : World) (hr0_0 : Kd.C k55 w A0_0 l0_0.length l0_0) (hc0_0 : l0_0.length ≤ c0_0) (h : impl_BootBound.f k l0_0 a0_1 a0_2 a0_3 = some r) :
  Calls Try.prog 14 #[.agg #[.slice A0_0 l0_0.length c0_0, .int .i64 a0_1, .int .i64 a0_2, .int .i64 a0_3]] w fun e w' => e = .returned (.int .i64 r) ∧ Below w.heap.size w w' := by
 have hu32 := Try.underlying32
 have HR0_0 := Aside0.mk hr0_0
 have HC0_0 := Aside0.mk hc0_0
 clear hr0_0 hc0_0
 have HB := Aside0.mk (Below.refl w.heap.size w)
 have H : ((impl_taskOk.f k l0_0 a0_1 a0_2 a0_3).bind fun t580 => (if t580 = true then ((impl_TaskBound.f k l0_0 a0_1 a0_2 a0_3).bind fun t581 => ((impl_MustLog.f k l0_0 a0_1 a0_2 a0_3).bind fun t582 => ((impl_RecoveryCost.f (t582.length : Int)).bind fun t585 => (some (wrap64 (t581 + t585)))))) else (some (-1)))) = some r := h
 clear h
 replace H := Option.bind_eq_some_iff.mp H
 obtain ⟨t580, A20, H⟩ := H
 replace H : (if t580 = true then ((impl_TaskBound.f k l0_0 a0_1 a0_2 a0_3).bind fun t581 => ((impl_MustLog.f k l0_0 a0_1 a0_2 a0_3).bind fun t582 => ((impl_RecoveryCost.f (t582.length : Int)).bind fun t585 => (some (wrap64 (t581 + t585)))))) else (some (-1))) = some r := H
 have A2 := Aside0.mk A20
 clear A20
 by_cases c3 : t580 = true
 ·subst c3
  have H1 : ((impl_TaskBound.f k l0_0 a0_1 a0_2 a0_3).bind fun t581 => ((impl_MustLog.f k l0_0 a0_1 a0_2 a0_3).bind fun t582 => ((impl_RecoveryCost.f (t582.length : Int)).bind fun t585 => (some (wrap64 (t581 + t585)))))) = some r := by rw [if_pos rfl] at H; exact H
  clear H
  have H := H1
  clear H1
  replace H := Option.bind_eq_some_iff.mp H
  obtain ⟨t581, A40, H⟩ := H
  replace H : ((impl_MustLog.f k l0_0 a0_1 a0_2 a0_3).bind fun t582 => ((impl_RecoveryCost.f (t582.length : Int)).bind fun t585 => (some (wrap64 (t581 + t585))))) = some r := H
  have A4 := Aside0.mk A40
  clear A40
  replace H := Option.bind_eq_some_iff.mp H
  obtain ⟨t582, A50, H⟩ := H
  replace H : ((impl_RecoveryCost.f (t582.length : Int)).bind fun t585 => (some (wrap64 (t581 + t585)))) = some r := H
  have A5 := Aside0.mk A50
  clear A50
  replace H := Option.bind_eq_some_iff.mp H
  obtain ⟨t585, A60, H⟩ := H
  replace H : (some (wrap64 (t581 + t585))) = some r := H
  have A6 := Aside0.mk A60
  clear A60
  obtain rfl := Option.some.inj H
  go_enter Try.func14, Try.ntmps14
  try go_wp2_with (first | ((with_reducible refine gate_dst (N := 1) rfl ?_); refine box_event ?hg (N := 1) ?hd (cs := #[.slice A0_0 l0_0.length c0_0, .int .i64 a0_1, .int .i64 a0_2, .int .i64 a0_3]) (t := 32) ?hr ?_; (case hd => rfl); (case hg => rfl); (case hr => exact z17_15); intro gb579 hg w7 hbox hb; have n0_ := Aside0.mk (below_step z17_2 hb); have n1_ := Aside0.mk (hbox); have n2_ := Aside0.mk ((z17_28 : w.heap.size ≤ gb579)); have n3_ := Aside0.mk ((z17_28 : w.heap.size ≤ gb579)); clear HB; have HB := n0_; have BK579 := n1_; have GW579 := n2_; have GE579 := n3_; clear n0_ n1_ n2_ n3_; clear hb hbox hg; have hcz8_0 : w7.cell? ⟨gb579, 0, none⟩ = some (.slice A0_0 l0_0.length c0_0) := (blk_cell BK579.out 0).trans rfl; have hcz8_1 : w7.cell? ⟨gb579, 1, none⟩ = some (.int .i64 a0_1) := (blk_cell BK579.out 1).trans rfl; have hcz8_2 : w7.cell? ⟨gb579, 2, none⟩ = some (.int .i64 a0_2) := (blk_cell BK579.out 2).trans rfl; have hcz8_3 : w7.cell? ⟨gb579, 3, none⟩ = some (.int .i64 a0_3) := (blk_cell BK579.out 3).trans rfl; have hfz8_0 := blk_frozen BK579.out 0; have hfz8_1 := blk_frozen BK579.out 1; have hfz8_2 := blk_frozen BK579.out 2; have hfz8_3 := blk_frozen BK579.out 3) | ((with_reducible refine gate_callee (f := 21) rfl ?_); refine goesL_ (some 4) rfl rfl Try.func21 z17_16 rfl #[.agg #[.slice A0_0 l0_0.length c0_0, .int .i64 a0_1, .int .i64 a0_2, .int .i64 a0_3]] rfl z17_0 ?_; (with_reducible refine (impl_taskOk.calls k _ _ l0_0 a0_1 a0_2 a0_3 true _ ?side1 ?side2 A2.out).mono ?_); (case side1 => exact z17_1); (case side2 => exact z17_23); rintro e w9 ⟨rfl, hb⟩; refine ⟨_, rfl, ?_⟩; have n0_ := Aside0.mk (blk_below (g := gb579) (o := .cells #[.slice A0_0 l0_0.length c0_0, .int .i64 a0_1, .int .i64 a0_2, .int .i64 a0_3] 32 (0, 0)) z17_24 hb); have n1_ := Aside0.mk (below_step z17_21 hb); clear BK579; clear HB; have BK579 := n0_; have HB := n1_; clear n0_ n1_; (try clear hb); (try clear hb2); (try clear hk); (try clear hi)))
  have n0_ := Aside0.mk (blk_drew BK579.out)
  have n1_ := Aside0.mk (below_drew1 HB.out)
  clear BK579
  clear HB
  have BK579 := n0_
  have HB := n1_
  clear n0_ n1_
  refine start_ (n := 8) (S := fun w' => w'.cell? ⟨gb579, 0, none⟩ = some (.slice A0_0 l0_0.length c0_0) ∧ w'.cell? ⟨gb579, 1, none⟩ = some (.int .i64 a0_1) ∧ w'.cell? ⟨gb579, 2, none⟩ = some (.int .i64 a0_2) ∧ w'.cell? ⟨gb579, 3, none⟩ = some (.int .i64 a0_3)) (ds := []) #[false, false, false, false, false, false, false, false] z17_16 rfl rfl ⟨(blk_cell BK579.out 0).trans rfl, (blk_cell BK579.out 1).trans rfl, (blk_cell BK579.out 2).trans rfl, (blk_cell BK579.out 3).trans rfl⟩ (fun hHeld => ?_); refine with_tabW impl_BootBound.tab3 impl_BootBound.bits3 (fun HT_ HW_ => ?_)
  generalize w9.drew = w10 at BK579 HB hHeld ⊢
  refine take_ (i := 0) (N := some 6) (v := ?_) (a' := ?_) #[true, false, false, false, false, false, false, false] rfl rfl (take_ofW HT_.out HW_.out z17_16) (fun _ _ _ h => h) (Or.inl ⟨by rfl, ?_⟩) hHeld ?_ ?_
  rotate_left
  ·rintro w' ⟨s0, s1, s2, s3⟩
   go_simp
   with_reducible rfl
  rotate_left
  ·simp only [Act.put, List.setIfInBounds_toArray, List.set_cons_zero, List.set_cons_succ, i64_w, i32_w]
   rfl
  refine take_ (i := 2) (N := some 8) (v := ?_) (a' := ?_) #[true, false, true, false, false, false, false, false] rfl rfl (take_ofW HT_.out HW_.out z17_16) (fun _ _ _ h => h) (Or.inl ⟨by rfl, ?_⟩) hHeld ?_ ?_
  rotate_left
  ·rintro w' ⟨s0, s1, s2, s3⟩
   go_simp
   with_reducible rfl
  rotate_left
  ·simp only [Act.put, List.setIfInBounds_toArray, List.set_cons_zero, List.set_cons_succ, i64_w, i32_w]
   rfl
  refine one_ (i := 1) (N := some 7) #[true, true, true, false, false, false, false, false] rfl rfl (one_of HT_.out z17_16) (by decide) (fun K hK => ?_)
  refine goes_ Try.func12 z17_16 rfl #[.agg #[.slice A0_0 l0_0.length c0_0, .int .i64 a0_1, .int .i64 a0_2, .int .i64 a0_3]] (by rfl) rfl rfl z17_0 ?_
  with_reducible refine (impl_TaskBound.calls k _ _ l0_0 a0_1 a0_2 a0_3 t581 _ ?side1 ?side2 A4.out).mono ?_
  (case side1 => exact z17_1)
  (case side2 => exact z17_23)
  rintro e w11 ⟨rfl, hb⟩
  refine ⟨_, rfl, ?_⟩
  have n0_ := Aside0.mk (blk_below (g := gb579) (o := .cells #[.slice A0_0 l0_0.length c0_0, .int .i64 a0_1, .int .i64 a0_2, .int .i64 a0_3] 32 (0, 0)) z17_24 hb)
  have n1_ := Aside0.mk (below_step z17_21 hb)
  clear BK579
  clear HB
  have BK579 := n0_
  have HB := n1_
  clear n0_ n1_
  (try clear hb)
  (try clear hb2)
  (try clear hk)
  (try clear hi)
  refine hK.out _ _ ⟨(blk_cell BK579.out 0).trans rfl, (blk_cell BK579.out 1).trans rfl, (blk_cell BK579.out 2).trans rfl, (blk_cell BK579.out 3).trans rfl⟩ (fun hHeld => ?_)
  clear hK K
  refine norm_ (a' := ?_) ?_ ?_
  rotate_left
  ·show Act.put _ (some 7) _ = _
   simp only [Act.put, List.setIfInBounds_toArray, List.set_cons_zero, List.set_cons_succ, i64_w, i32_w]
   rfl
  refine one_ (i := 3) (N := some 9) #[true, true, true, true, false, false, false, false] rfl rfl (one_of HT_.out z17_16) (by decide) (fun K hK => ?_)
  refine goes_ Try.func29 z17_16 rfl #[.agg #[.slice A0_0 l0_0.length c0_0, .int .i64 a0_1, .int .i64 a0_2, .int .i64 a0_3]] (by rfl) rfl rfl z17_0 ?_
  with_reducible refine (impl_MustLog.calls k _ _ l0_0 a0_1 a0_2 a0_3 t582 _ ?side1 ?side2 A5.out).mono ?_
  (case side1 => exact z17_1)
  (case side2 => exact z17_23)
  rintro e w12 ⟨v583, rfl, ho0, hb⟩
  refine ⟨_, rfl, ?_⟩
  have n0_ := Aside0.mk (Kd.R_lower ho0 (below_size z17_21))
  have n1_ := Aside0.mk (blk_below (g := gb579) (o := .cells #[.slice A0_0 l0_0.length c0_0, .int .i64 a0_1, .int .i64 a0_2, .int .i64 a0_3] 32 (0, 0)) z17_24 hb)
  have n2_ := Aside0.mk (below_step z17_21 hb)
  clear BK579
  clear HB
  have HO584 := n0_
  have BK579 := n1_
  have HB := n2_
  clear n0_ n1_ n2_
  (try clear hb)
  (try clear hb2)
  (try clear hk)
  (try clear hi)
  (try clear ho0)
  obtain ⟨Ao13, co13, eo13⟩ := Kd.R_slice HO584.out
  (first | subst eo13 | (injection eo13 with f1_ f2_ f3_; have f4_ := f1_.symm; have f5_ := f3_.symm; clear f1_ f2_ f3_; subst f4_; subst f5_))
  refine hK.out _ _ ⟨(blk_cell BK579.out 0).trans rfl, (blk_cell BK579.out 1).trans rfl, (blk_cell BK579.out 2).trans rfl, (blk_cell BK579.out 3).trans rfl⟩ (fun hHeld => ?_)
  clear hK K
  refine norm_ (a' := ?_) ?_ ?_
  rotate_left
  ·show Act.put _ (some 9) _ = _
   simp only [Act.put, List.setIfInBounds_toArray, List.set_cons_zero, List.set_cons_succ, i64_w, i32_w]
   rfl
  refine pure_ (i := 4) (N := some 10) (v := ?_) (a' := ?_) #[true, true, true, true, true, false, false, false] rfl rfl (any_of HT_.out z17_16) (fun _ _ _ h => h) (Or.inl ⟨by rfl, ?_⟩) ?_ ?_
  rotate_left
  ·intro w'
   go_simp
   with_reducible rfl
  rotate_left
  ·simp only [Act.put, List.setIfInBounds_toArray, List.set_cons_zero, List.set_cons_succ, i64_w, i32_w]
   rfl
  refine one_ (i := 5) (N := some 11) #[true, true, true, true, true, true, false, false] rfl rfl (one_of HT_.out z17_16) (by decide) (fun K hK => ?_)
  refine goes_ Try.func31 z17_16 rfl #[.int .i64 (t582.length : Int)] (by rfl) rfl rfl z17_0 ?_
  with_reducible refine (impl_RecoveryCost.calls (t582.length : Int) t585 _ A6.out).mono ?_
  rintro e w' ⟨rfl, ⟨nd, rfl⟩⟩
  refine ⟨_, rfl, ?_⟩
  refine hK.out _ _ ⟨(blk_cell BK579.out 0).trans rfl, (blk_cell BK579.out 1).trans rfl, (blk_cell BK579.out 2).trans rfl, (blk_cell BK579.out 3).trans rfl⟩ (fun hHeld => ?_)
  clear hK K
  refine norm_ (a' := ?_) ?_ ?_
  rotate_left
  ·show Act.put _ (some 11) _ = _
   simp only [Act.put, List.setIfInBounds_toArray, List.set_cons_zero, List.set_cons_succ, i64_w, i32_w]
   rfl
  refine pure_ (i := 6) (N := some 12) (v := ?_) (a' := ?_) #[true, true, true, true, true, true, true, false] rfl rfl (any_of HT_.out z17_16) (fun _ _ _ h => h) (Or.inl ⟨by rfl, ?_⟩) ?_ ?_
  rotate_left
  ·intro w'
   go_simp
   with_reducible rfl
  rotate_left
  ·simp only [Act.put, List.setIfInBounds_toArray, List.set_cons_zero, List.set_cons_succ, i64_w, i32_w]
   rfl
  refine pure_ (i := 7) (N := some 2) (v := ?_) (a' := ?_) #[true, true, true, true, true, true, true, true] rfl rfl (any_of HT_.out z17_16) (fun _ _ _ h => h) (Or.inl ⟨by rfl, ?_⟩) ?_ ?_
  rotate_left
  ·intro w'
   go_simp
   with_reducible rfl
  rotate_left
  ·simp only [Act.put, List.setIfInBounds_toArray, List.set_cons_zero, List.set_cons_succ, i64_w, i32_w]
   rfl
  refine done_ (done_of HT_.out z17_16) ?_
  try go_wp2
  go_ret
  exact ⟨by first | rfl | (simp [errW_none, errW_some] <;> rfl) | (simp [*, errW_none, errW_some] <;> rfl) | (simp [*, errW_none, errW_some, i64_w]; done), by repeat (first | (with_reducible first | exact HB.out | apply below_alloc | apply pw_below_drewN | apply below_drew1 | refine below_set ?_ GE579.out) | exact HB.out)⟩
 ·replace c3 := Bool.eq_false_iff.mpr c3
  subst c3
  have H1 : (some (-1)) = some r := by rw [if_neg (show ¬ (false = true) by decide)] at H; exact H
  clear H
  have H := H1
  clear H1
  obtain rfl := Option.some.inj H
  go_enter Try.func14, Try.ntmps14
  go_wp2_with (first | ((with_reducible refine gate_dst (N := 1) rfl ?_); refine box_event ?hg (N := 1) ?hd (cs := #[.slice A0_0 l0_0.length c0_0, .int .i64 a0_1, .int .i64 a0_2, .int .i64 a0_3]) (t := 32) ?hr ?_; (case hd => rfl); (case hg => rfl); (case hr => exact z17_15); intro gb579 hg w14 hbox hb; have n0_ := Aside0.mk (below_step z17_2 hb); have n1_ := Aside0.mk (hbox); have n2_ := Aside0.mk ((z17_28 : w.heap.size ≤ gb579)); have n3_ := Aside0.mk ((z17_28 : w.heap.size ≤ gb579)); clear HB; have HB := n0_; have BK579 := n1_; have GW579 := n2_; have GE579 := n3_; clear n0_ n1_ n2_ n3_; clear hb hbox hg; have hcz15_0 : w14.cell? ⟨gb579, 0, none⟩ = some (.slice A0_0 l0_0.length c0_0) := (blk_cell BK579.out 0).trans rfl; have hcz15_1 : w14.cell? ⟨gb579, 1, none⟩ = some (.int .i64 a0_1) := (blk_cell BK579.out 1).trans rfl; have hcz15_2 : w14.cell? ⟨gb579, 2, none⟩ = some (.int .i64 a0_2) := (blk_cell BK579.out 2).trans rfl; have hcz15_3 : w14.cell? ⟨gb579, 3, none⟩ = some (.int .i64 a0_3) := (blk_cell BK579.out 3).trans rfl; have hfz15_0 := blk_frozen BK579.out 0; have hfz15_1 := blk_frozen BK579.out 1; have hfz15_2 := blk_frozen BK579.out 2; have hfz15_3 := blk_frozen BK579.out 3) | ((with_reducible refine gate_callee (f := 21) rfl ?_); refine goesL_ (some 4) rfl rfl Try.func21 z17_16 rfl #[.agg #[.slice A0_0 l0_0.length c0_0, .int .i64 a0_1, .int .i64 a0_2, .int .i64 a0_3]] rfl z17_0 ?_; (with_reducible refine (impl_taskOk.calls k _ _ l0_0 a0_1 a0_2 a0_3 false _ ?side1 ?side2 A2.out).mono ?_); (case side1 => exact z17_1); (case side2 => exact z17_23); rintro e w16 ⟨rfl, hb⟩; refine ⟨_, rfl, ?_⟩; have n0_ := Aside0.mk (blk_below (g := gb579) (o := .cells #[.slice A0_0 l0_0.length c0_0, .int .i64 a0_1, .int .i64 a0_2, .int .i64 a0_3] 32 (0, 0)) z17_24 hb); have n1_ := Aside0.mk (below_step z17_21 hb); clear BK579; clear HB; have BK579 := n0_; have HB := n1_; clear n0_ n1_; (try clear hb); (try clear hb2); (try clear hk); (try clear hi)))
  go_ret
  exact ⟨by first | rfl | (simp [errW_none, errW_some] <;> rfl) | (simp [*, errW_none, errW_some] <;> rfl) | (simp [*, errW_none, errW_some, i64_w]; done), by repeat (first | (with_reducible first | exact HB.out | apply below_alloc | apply pw_below_drewN | apply below_drew1 | refine below_set ?_ GE579.out) | exact HB.out)⟩
def laws_FnExactBootBound.f (k : Nat) (l0_0 : List (S58)) (a0_1 : Int) (a0_2 : Int) (a0_3 : Int) : Option (Bool) := (laws_szTask.f l0_0 a0_1 a0_2 a0_3 1048576).bind fun t587 => (if t587 < 0 then (some true) else ((laws_toTask.f k l0_0 a0_1 a0_2 a0_3).bind fun bt588 => ((spec_BootBound.f k bt588.1 bt588.2.1 bt588.2.2.1 bt588.2.2.2).bind fun t594 => ((laws_toTask.f k l0_0 a0_1 a0_2 a0_3).bind fun bt595 => ((impl_BootBound.f k bt595.1 bt595.2.1 bt595.2.2.1 bt595.2.2.2).bind fun t602 => (if t602 = t594 then ((laws_toTask.f k l0_0 a0_1 a0_2 a0_3).bind fun bt603 => ((laws_eqTask.f k bt595.1 bt595.2.1 bt595.2.2.1 bt595.2.2.2 bt603.1 bt603.2.1 bt603.2.2.1 bt603.2.2.2).bind fun t609 => (if t609 = true then (some true) else (some false)))) else (some false)))))))
set_option maxHeartbeats 8000000 in
set_option maxRecDepth 100000 in
theorem laws_FnExactBootBound.calls (k : Nat) (A0_0 : Option Addr) (c0_0 : Nat) (l0_0 : List (S58)) (a0_1 : Int) (a0_2 : Int) (a0_3 : Int) (r : Bool) (w : World) (hr0_0 : Kd.C k58 w A0_0 l0_0.length l0_0) (hc0_0 : l0_0.length ≤ c0_0) (h : laws_FnExactBootBound.f k l0_0 a0_1 a0_2 a0_3 = some r) :
  Calls Try.prog 5 #[.agg #[.slice A0_0 l0_0.length c0_0, .int .i64 a0_1, .int .i64 a0_2, .int .i64 a0_3]] w fun e w' => e = .returned (.bool r) ∧ Below w.heap.size w w' := by
 have hu26 := Try.underlying26
 have hu32 := Try.underlying32
 have HR0_0 := Aside0.mk hr0_0
 have HC0_0 := Aside0.mk hc0_0
 clear hr0_0 hc0_0
 have HB := Aside0.mk (Below.refl w.heap.size w)
 have H : ((laws_szTask.f l0_0 a0_1 a0_2 a0_3 1048576).bind fun t587 => (if t587 < 0 then (some true) else ((laws_toTask.f k l0_0 a0_1 a0_2 a0_3).bind fun bt588 => ((spec_BootBound.f k bt588.1 bt588.2.1 bt588.2.2.1 bt588.2.2.2).bind fun t594 => ((laws_toTask.f k l0_0 a0_1 a0_2 a0_3).bind fun bt595 => ((impl_BootBound.f k bt595.1 bt595.2.1 bt595.2.2.1 bt595.2.2.2).bind fun t602 => (if t602 = t594 then ((laws_toTask.f k l0_0 a0_1 a0_2 a0_3).bind fun bt603 => ((laws_eqTask.f k bt595.1 bt595.2.1 bt595.2.2.1 bt595.2.2.2 bt603.1 bt603.2.1 bt603.2.2.1 bt603.2.2.2).bind fun t609 => (if t609 = true then (some true) else (some false)))) else (some false)))))))) = some r := h
 clear h
 replace H := Option.bind_eq_some_iff.mp H
 obtain ⟨t587, A20, H⟩ := H
 replace H : (if t587 < 0 then (some true) else ((laws_toTask.f k l0_0 a0_1 a0_2 a0_3).bind fun bt588 => ((spec_BootBound.f k bt588.1 bt588.2.1 bt588.2.2.1 bt588.2.2.2).bind fun t594 => ((laws_toTask.f k l0_0 a0_1 a0_2 a0_3).bind fun bt595 => ((impl_BootBound.f k bt595.1 bt595.2.1 bt595.2.2.1 bt595.2.2.2).bind fun t602 => (if t602 = t594 then ((laws_toTask.f k l0_0 a0_1 a0_2 a0_3).bind fun bt603 => ((laws_eqTask.f k bt595.1 bt595.2.1 bt595.2.2.1 bt595.2.2.2 bt603.1 bt603.2.1 bt603.2.2.1 bt603.2.2.2).bind fun t609 => (if t609 = true then (some true) else (some false)))) else (some false))))))) = some r := H
 have A2 := Aside0.mk A20
 clear A20
 by_cases c3 : t587 < 0
 ·rw [if_pos c3] at H
  have c3b0 : decide (t587 < 0) = true := decide_eq_true c3
  clear c3
  obtain rfl := Option.some.inj H
  go_enter Try.func5, Try.ntmps5
  go_wp2_with (first | ((with_reducible refine gate_dst (N := 1) rfl ?_); refine box_event ?hg (N := 1) ?hd (cs := #[.slice A0_0 l0_0.length c0_0, .int .i64 a0_1, .int .i64 a0_2, .int .i64 a0_3]) (t := 26) ?hr ?_; (case hd => rfl); (case hg => rfl); (case hr => exact z17_15); intro gb586 hg w4 hbox hb; have n0_ := Aside0.mk (below_step z17_2 hb); have n1_ := Aside0.mk (hbox); have n2_ := Aside0.mk ((z17_28 : w.heap.size ≤ gb586)); have n3_ := Aside0.mk ((z17_28 : w.heap.size ≤ gb586)); clear HB; have HB := n0_; have BK586 := n1_; have GW586 := n2_; have GE586 := n3_; clear n0_ n1_ n2_ n3_; clear hb hbox hg; have hcz5_0 : w4.cell? ⟨gb586, 0, none⟩ = some (.slice A0_0 l0_0.length c0_0) := (blk_cell BK586.out 0).trans rfl; have hcz5_1 : w4.cell? ⟨gb586, 1, none⟩ = some (.int .i64 a0_1) := (blk_cell BK586.out 1).trans rfl; have hcz5_2 : w4.cell? ⟨gb586, 2, none⟩ = some (.int .i64 a0_2) := (blk_cell BK586.out 2).trans rfl; have hcz5_3 : w4.cell? ⟨gb586, 3, none⟩ = some (.int .i64 a0_3) := (blk_cell BK586.out 3).trans rfl; have hfz5_0 := blk_frozen BK586.out 0; have hfz5_1 := blk_frozen BK586.out 1; have hfz5_2 := blk_frozen BK586.out 2; have hfz5_3 := blk_frozen BK586.out 3) | ((with_reducible refine gate_callee (f := 6) rfl ?_); refine goesL_ (some 9) rfl rfl Try.func6 z17_16 rfl #[.agg #[.slice A0_0 l0_0.length c0_0, .int .i64 a0_1, .int .i64 a0_2, .int .i64 a0_3], .int .i64 1048576] rfl z17_0 ?_; (with_reducible refine (laws_szTask.calls _ _ l0_0 a0_1 a0_2 a0_3 1048576 t587 _ ?side1 ?side2 A2.out).mono ?_); (case side1 => exact z17_1); (case side2 => exact z17_23); rintro e w6 ⟨rfl, hb⟩; refine ⟨_, rfl, ?_⟩; have n0_ := Aside0.mk (blk_below (g := gb586) (o := .cells #[.slice A0_0 l0_0.length c0_0, .int .i64 a0_1, .int .i64 a0_2, .int .i64 a0_3] 26 (0, 0)) z17_5 hb); have n1_ := Aside0.mk (below_step z17_3 hb); clear BK586; clear HB; have BK586 := n0_; have HB := n1_; clear n0_ n1_; (try clear hb); (try clear hb2); (try clear hk); (try clear hi)))
  go_ret
  exact ⟨by first | rfl | (simp [errW_none, errW_some] <;> rfl) | (simp [*, errW_none, errW_some] <;> rfl) | (simp [*, errW_none, errW_some, i64_w]; done), by repeat (first | (with_reducible first | exact HB.out | apply below_alloc | apply pw_below_drewN | apply below_drew1 | refine below_set ?_ GE586.out) | exact HB.out)⟩
 ·rw [if_neg c3] at H
  have c3b0 : decide (t587 < 0) = false := decide_eq_false c3
  clear c3
  replace H := Option.bind_eq_some_iff.mp H
  obtain ⟨⟨t588, t591, t592, t593⟩, A70, H⟩ := H
  replace H : ((spec_BootBound.f k t588 t591 t592 t593).bind fun t594 => ((laws_toTask.f k l0_0 a0_1 a0_2 a0_3).bind fun bt595 => ((impl_BootBound.f k bt595.1 bt595.2.1 bt595.2.2.1 bt595.2.2.2).bind fun t602 => (if t602 = t594 then ((laws_toTask.f k l0_0 a0_1 a0_2 a0_3).bind fun bt603 => ((laws_eqTask.f k bt595.1 bt595.2.1 bt595.2.2.1 bt595.2.2.2 bt603.1 bt603.2.1 bt603.2.2.1 bt603.2.2.2).bind fun t609 => (if t609 = true then (some true) else (some false)))) else (some false))))) = some r := H
  have A7 := Aside0.mk A70
  clear A70
  replace H := Option.bind_eq_some_iff.mp H
  obtain ⟨t594, A80, H⟩ := H
  replace H : ((laws_toTask.f k l0_0 a0_1 a0_2 a0_3).bind fun bt595 => ((impl_BootBound.f k bt595.1 bt595.2.1 bt595.2.2.1 bt595.2.2.2).bind fun t602 => (if t602 = t594 then ((laws_toTask.f k l0_0 a0_1 a0_2 a0_3).bind fun bt603 => ((laws_eqTask.f k bt595.1 bt595.2.1 bt595.2.2.1 bt595.2.2.2 bt603.1 bt603.2.1 bt603.2.2.1 bt603.2.2.2).bind fun t609 => (if t609 = true then (some true) else (some false)))) else (some false)))) = some r := H
  have A8 := Aside0.mk A80
  clear A80
  replace H := Option.bind_eq_some_iff.mp H
  obtain ⟨⟨t595, t598, t599, t600⟩, A90, H⟩ := H
  replace H : ((impl_BootBound.f k t595 t598 t599 t600).bind fun t602 => (if t602 = t594 then ((laws_toTask.f k l0_0 a0_1 a0_2 a0_3).bind fun bt603 => ((laws_eqTask.f k t595 t598 t599 t600 bt603.1 bt603.2.1 bt603.2.2.1 bt603.2.2.2).bind fun t609 => (if t609 = true then (some true) else (some false)))) else (some false))) = some r := H
  have A9 := Aside0.mk A90
  clear A90
  replace H := Option.bind_eq_some_iff.mp H
  obtain ⟨t602, A100, H⟩ := H
  replace H : (if t602 = t594 then ((laws_toTask.f k l0_0 a0_1 a0_2 a0_3).bind fun bt603 => ((laws_eqTask.f k t595 t598 t599 t600 bt603.1 bt603.2.1 bt603.2.2.1 bt603.2.2.2).bind fun t609 => (if t609 = true then (some true) else (some false)))) else (some false)) = some r := H
  have A10 := Aside0.mk A100
  clear A100
  by_cases c11 : t602 = t594
  ·rw [if_pos c11] at H
   have c11b0 : (t602 == t594) = true := beq_iff_eq.mpr c11
   have c11b1 : (t602 != t594) = false := bne_eq_false_iff_eq.mpr c11
   clear c11
   replace H := Option.bind_eq_some_iff.mp H
   obtain ⟨⟨t603, t606, t607, t608⟩, A120, H⟩ := H
   replace H : ((laws_eqTask.f k t595 t598 t599 t600 t603 t606 t607 t608).bind fun t609 => (if t609 = true then (some true) else (some false))) = some r := H
   have A12 := Aside0.mk A120
   clear A120
   replace H := Option.bind_eq_some_iff.mp H
   obtain ⟨t609, A130, H⟩ := H
   replace H : (if t609 = true then (some true) else (some false)) = some r := H
   have A13 := Aside0.mk A130
   clear A130
   by_cases c14 : t609 = true
   ·subst c14
    have H1 : (some true) = some r := by rw [if_pos rfl] at H; exact H
    clear H
    have H := H1
    clear H1
    obtain rfl := Option.some.inj H
    go_enter Try.func5, Try.ntmps5
    try go_wp2_with (first | ((with_reducible refine gate_dst (N := 1) rfl ?_); refine box_event ?hg (N := 1) ?hd (cs := #[.slice A0_0 l0_0.length c0_0, .int .i64 a0_1, .int .i64 a0_2, .int .i64 a0_3]) (t := 26) ?hr ?_; (case hd => rfl); (case hg => rfl); (case hr => exact z17_15); intro gb586 hg w15 hbox hb; have n0_ := Aside0.mk (below_step z17_2 hb); have n1_ := Aside0.mk (hbox); have n2_ := Aside0.mk ((z17_28 : w.heap.size ≤ gb586)); have n3_ := Aside0.mk ((z17_28 : w.heap.size ≤ gb586)); clear HB; have HB := n0_; have BK586 := n1_; have GW586 := n2_; have GE586 := n3_; clear n0_ n1_ n2_ n3_; clear hb hbox hg; have hcz16_0 : w15.cell? ⟨gb586, 0, none⟩ = some (.slice A0_0 l0_0.length c0_0) := (blk_cell BK586.out 0).trans rfl; have hcz16_1 : w15.cell? ⟨gb586, 1, none⟩ = some (.int .i64 a0_1) := (blk_cell BK586.out 1).trans rfl; have hcz16_2 : w15.cell? ⟨gb586, 2, none⟩ = some (.int .i64 a0_2) := (blk_cell BK586.out 2).trans rfl; have hcz16_3 : w15.cell? ⟨gb586, 3, none⟩ = some (.int .i64 a0_3) := (blk_cell BK586.out 3).trans rfl; have hfz16_0 := blk_frozen BK586.out 0; have hfz16_1 := blk_frozen BK586.out 1; have hfz16_2 := blk_frozen BK586.out 2; have hfz16_3 := blk_frozen BK586.out 3) | ((with_reducible refine gate_callee (f := 6) rfl ?_); refine goesL_ (some 9) rfl rfl Try.func6 z17_16 rfl #[.agg #[.slice A0_0 l0_0.length c0_0, .int .i64 a0_1, .int .i64 a0_2, .int .i64 a0_3], .int .i64 1048576] rfl z17_0 ?_; (with_reducible refine (laws_szTask.calls _ _ l0_0 a0_1 a0_2 a0_3 1048576 t587 _ ?side1 ?side2 A2.out).mono ?_); (case side1 => exact z17_1); (case side2 => exact z17_23); rintro e w17 ⟨rfl, hb⟩; refine ⟨_, rfl, ?_⟩; have n0_ := Aside0.mk (blk_below (g := gb586) (o := .cells #[.slice A0_0 l0_0.length c0_0, .int .i64 a0_1, .int .i64 a0_2, .int .i64 a0_3] 26 (0, 0)) z17_5 hb); have n1_ := Aside0.mk (below_step z17_3 hb); clear BK586; clear HB; have BK586 := n0_; have HB := n1_; clear n0_ n1_; (try clear hb); (try clear hb2); (try clear hk); (try clear hi); have hcz18_0 : w17.cell? ⟨gb586, 0, none⟩ = some (.slice A0_0 l0_0.length c0_0) := (blk_cell BK586.out 0).trans rfl; have hcz18_1 : w17.cell? ⟨gb586, 1, none⟩ = some (.int .i64 a0_1) := (blk_cell BK586.out 1).trans rfl; have hcz18_2 : w17.cell? ⟨gb586, 2, none⟩ = some (.int .i64 a0_2) := (blk_cell BK586.out 2).trans rfl; have hcz18_3 : w17.cell? ⟨gb586, 3, none⟩ = some (.int .i64 a0_3) := (blk_cell BK586.out 3).trans rfl; have hfz18_0 := blk_frozen BK586.out 0; have hfz18_1 := blk_frozen BK586.out 1; have hfz18_2 := blk_frozen BK586.out 2; have hfz18_3 := blk_frozen BK586.out 3) | ((with_reducible refine gate_callee (f := 8) rfl ?_); refine goesL_ (some 13) rfl rfl Try.func8 z17_16 rfl #[.agg #[.slice A0_0 l0_0.length c0_0, .int .i64 a0_1, .int .i64 a0_2, .int .i64 a0_3]] rfl z17_0 ?_; (with_reducible refine (laws_toTask.calls k _ _ l0_0 a0_1 a0_2 a0_3 t588 t591 t592 t593 _ ?side1 ?side2 A7.out).mono ?_); (case side1 => exact z17_1); (case side2 => exact z17_23); rintro e w19 ⟨v589, rfl, ho0, hb⟩; refine ⟨_, rfl, ?_⟩; have n0_ := Aside0.mk (Kd.R_lower ho0 (below_size z17_3)); have n1_ := Aside0.mk (blk_below (g := gb586) (o := .cells #[.slice A0_0 l0_0.length c0_0, .int .i64 a0_1, .int .i64 a0_2, .int .i64 a0_3] 26 (0, 0)) z17_5 hb); have n2_ := Aside0.mk (below_step z17_3 hb); clear BK586; clear HB; have HO590 := n0_; have BK586 := n1_; have HB := n2_; clear n0_ n1_ n2_; (try clear hb); (try clear hb2); (try clear hk); (try clear hi); (try clear ho0); obtain ⟨Ao20, co20, eo20⟩ := Kd.R_slice HO590.out; subst eo20) | ((with_reducible refine gate_callee (f := 13) rfl ?_); refine goesL_ (some 14) rfl rfl Try.func13 z17_16 rfl #[.agg #[.slice Ao20 t588.length co20, .int .i64 t591, .int .i64 t592, .int .i64 t593]] rfl z17_0 ?_; (with_reducible refine (spec_BootBound.calls k _ _ t588 t591 t592 t593 t594 _ ?side1 ?side2 A8.out).mono ?_); (case side1 => exact z17_26); (case side2 => exact (Kd.R_reads' HO590.out).2.1); rintro e w21 ⟨rfl, hb⟩; refine ⟨_, rfl, ?_⟩; have n0_ := Aside0.mk (Kd.R_below z17_9 hb); have n1_ := Aside0.mk (blk_below (g := gb586) (o := .cells #[.slice A0_0 l0_0.length c0_0, .int .i64 a0_1, .int .i64 a0_2, .int .i64 a0_3] 26 (0, 0)) z17_5 hb); have n2_ := Aside0.mk (below_step z17_3 hb); clear HO590; clear BK586; clear HB; have HO590 := n0_; have BK586 := n1_; have HB := n2_; clear n0_ n1_ n2_; (try clear hb); (try clear hb2); (try clear hk); (try clear hi); have hcz22_0 : w21.cell? ⟨gb586, 0, none⟩ = some (.slice A0_0 l0_0.length c0_0) := (blk_cell BK586.out 0).trans rfl; have hcz22_1 : w21.cell? ⟨gb586, 1, none⟩ = some (.int .i64 a0_1) := (blk_cell BK586.out 1).trans rfl; have hcz22_2 : w21.cell? ⟨gb586, 2, none⟩ = some (.int .i64 a0_2) := (blk_cell BK586.out 2).trans rfl; have hcz22_3 : w21.cell? ⟨gb586, 3, none⟩ = some (.int .i64 a0_3) := (blk_cell BK586.out 3).trans rfl; have hfz22_0 := blk_frozen BK586.out 0; have hfz22_1 := blk_frozen BK586.out 1; have hfz22_2 := blk_frozen BK586.out 2; have hfz22_3 := blk_frozen BK586.out 3) | ((with_reducible refine gate_callee (f := 8) rfl ?_); refine goesL_ (some 16) rfl rfl Try.func8 z17_16 rfl #[.agg #[.slice A0_0 l0_0.length c0_0, .int .i64 a0_1, .int .i64 a0_2, .int .i64 a0_3]] rfl z17_0 ?_; (with_reducible refine (laws_toTask.calls k _ _ l0_0 a0_1 a0_2 a0_3 t595 t598 t599 t600 _ ?side1 ?side2 A9.out).mono ?_); (case side1 => exact z17_1); (case side2 => exact z17_23); rintro e w23 ⟨v596, rfl, ho0, hb⟩; refine ⟨_, rfl, ?_⟩; have n0_ := Aside0.mk (Kd.R_elder' z17_9 (Kd.R_base ho0) hb); have n1_ := Aside0.mk (Kd.R_lower (Kd.R_new' ho0 (Kd.R_lt z17_9)) (below_size z17_3)); have n2_ := Aside0.mk (blk_below (g := gb586) (o := .cells #[.slice A0_0 l0_0.length c0_0, .int .i64 a0_1, .int .i64 a0_2, .int .i64 a0_3] 26 (0, 0)) z17_5 hb); have n3_ := Aside0.mk (below_step z17_3 hb); clear HO590; clear BK586; clear HB; have HO590 := n0_; have HO597 := n1_; have BK586 := n2_; have HB := n3_; clear n0_ n1_ n2_ n3_; (try clear hb); (try clear hb2); (try clear hk); (try clear hi); (try clear ho0)) | ((with_reducible refine gate_dst (N := 5) rfl ?_); refine box_event ?hg (N := 5) ?hd (cs := #[.slice none 0 0, .int .i64 0, .int .i64 0, .int .i64 0]) (t := 32) ?hr ?_; (case hd => rfl); (case hg => rfl); (case hr => exact z17_15); intro gb601 hg w24 hbox hb; have n0_ := Aside0.mk (Kd.R_below z17_9 hb); have n1_ := Aside0.mk (Kd.R_below z17_13 hb); have n2_ := Aside0.mk (blk_below (g := gb586) (o := .cells #[.slice A0_0 l0_0.length c0_0, .int .i64 a0_1, .int .i64 a0_2, .int .i64 a0_3] 26 (0, 0)) z17_5 hb); have n3_ := Aside0.mk (below_step z17_3 hb); have n4_ := Aside0.mk (hbox); have n5_ := Aside0.mk ((by rw [hg]; exact (below_size z17_3) : w.heap.size ≤ gb601)); have n6_ := Aside0.mk ((by rw [hg]; exact (below_size z17_3) : w.heap.size ≤ gb601)); have n7_ := Aside0.mk ((z17_29 : gb586 ≠ gb601)); have n8_ := Aside0.mk ((z17_31 : gb601 ≠ gb586)); clear HO590; clear HO597; clear BK586; clear HB; have HO590 := n0_; have HO597 := n1_; have BK586 := n2_; have HB := n3_; have BK601 := n4_; have GW601 := n5_; have GE601 := n6_; have NB586_601 := n7_; have NB601_586 := n8_; clear n0_ n1_ n2_ n3_ n4_ n5_ n6_ n7_ n8_; clear hb hbox hg; obtain ⟨Ao25, co25, eo25⟩ := Kd.R_slice HO597.out; subst eo25; have hnb26 := NB601_586.out; have hnc26 := NB586_601.out; have hcz27_0 : w24.cell? ⟨gb601, 0, none⟩ = some (.slice none 0 0) := (blk_cell BK601.out 0).trans rfl; have hcz27_1 : w24.cell? ⟨gb601, 1, none⟩ = some (.int .i64 0) := (blk_cell BK601.out 1).trans rfl; have hcz27_2 : w24.cell? ⟨gb601, 2, none⟩ = some (.int .i64 0) := (blk_cell BK601.out 2).trans rfl; have hcz27_3 : w24.cell? ⟨gb601, 3, none⟩ = some (.int .i64 0) := (blk_cell BK601.out 3).trans rfl; have hfz27_0 := blk_frozen BK601.out 0; have hfz27_1 := blk_frozen BK601.out 1; have hfz27_2 := blk_frozen BK601.out 2; have hfz27_3 := blk_frozen BK601.out 3) | ((with_reducible refine gate_store (t := 32) (p := 5) rfl ?_); refine store_event (t := 32) (p := 5) (v := ?vo_w28) (w1 := ((((w24.setCell ⟨gb601, 0, none⟩ (.slice Ao25 t595.length co25)).setCell ⟨gb601, 1, none⟩ (.int .i64 t598)).setCell ⟨gb601, 2, none⟩ (.int .i64 t599)).setCell ⟨gb601, 3, none⟩ (.int .i64 t600))) ?hg ?ho ?hn ?hr ?_; (case ho => rfl); (case hg => rfl); (case hn => rfl); (case hr => exact z17_15); intro w28 hw; have n0_ : Aside0 (Kd.R k55 55 w28 w.heap.size (fun k_ => some k_ ≠ (.slice Ao25 t595.length co25 : Value).ownBlock) (.slice Ao20 t588.length co20) t588) := ⟨(by rw [hw]; exact (by (with_reducible repeat (first | apply Kd.R_alloc | apply Kd.R_drewN | apply Kd.R_drew)); exact Kd.R_mono (Kd.R_far (p := ⟨gb601, 3, none⟩) (Kd.R_far (p := ⟨gb601, 2, none⟩) (Kd.R_far (p := ⟨gb601, 1, none⟩) (Kd.R_far (p := ⟨gb601, 0, none⟩) (Kd.R_types HO590.out BK601.out (by decide)) (fun _ hk => hk.2) (.slice Ao25 t595.length co25)) (fun _ hk => hk.2) (.int .i64 t598)) (fun _ hk => hk.2) (.int .i64 t599)) (fun _ hk => hk.2) (.int .i64 t600)) (fun _ hk => hk.1.2)))⟩; have n1_ : Aside0 (Kd.R k55 55 w28 w.heap.size (fun k_ => some k_ ≠ (.slice Ao20 t588.length co20 : Value).ownBlock) (.slice Ao25 t595.length co25) t595) := ⟨(by rw [hw]; exact (by (with_reducible repeat (first | apply Kd.R_alloc | apply Kd.R_drewN | apply Kd.R_drew)); exact Kd.R_mono (Kd.R_far (p := ⟨gb601, 3, none⟩) (Kd.R_far (p := ⟨gb601, 2, none⟩) (Kd.R_far (p := ⟨gb601, 1, none⟩) (Kd.R_far (p := ⟨gb601, 0, none⟩) (Kd.R_types HO597.out BK601.out (by decide)) (fun _ hk => hk.2) (.slice Ao25 t595.length co25)) (fun _ hk => hk.2) (.int .i64 t598)) (fun _ hk => hk.2) (.int .i64 t599)) (fun _ hk => hk.2) (.int .i64 t600)) (fun _ hk => hk.1.2)))⟩; have n2_ : Aside0 (w28.heap[gb586]? = some (.cells #[.slice A0_0 l0_0.length c0_0, .int .i64 a0_1, .int .i64 a0_2, .int .i64 a0_3] 26 (0, 0))) := ⟨z17_11⟩; have n3_ : Aside0 (w28.heap[gb601]? = some (.cells #[.slice Ao25 t595.length co25, .int .i64 t598, .int .i64 t599, .int .i64 t600] 32 (0, 0))) := ⟨(by rw [hw]; exact (by (with_reducible repeat (first | refine blk_drewN ?_ _ | refine blk_drew ?_ | refine blk_alloc ?_ _)); refine blk_put (cs := #[.slice Ao25 t595.length co25, .int .i64 t598, .int .i64 t599, .int .i64 0]) ?_ 3 _ rfl; (with_reducible repeat (first | refine blk_drewN ?_ _ | refine blk_drew ?_ | refine blk_alloc ?_ _)); refine blk_put (cs := #[.slice Ao25 t595.length co25, .int .i64 t598, .int .i64 0, .int .i64 0]) ?_ 2 _ rfl; (with_reducible repeat (first | refine blk_drewN ?_ _ | refine blk_drew ?_ | refine blk_alloc ?_ _)); refine blk_put (cs := #[.slice Ao25 t595.length co25, .int .i64 0, .int .i64 0, .int .i64 0]) ?_ 1 _ rfl; (with_reducible repeat (first | refine blk_drewN ?_ _ | refine blk_drew ?_ | refine blk_alloc ?_ _)); refine blk_put (cs := #[.slice none 0 0, .int .i64 0, .int .i64 0, .int .i64 0]) ?_ 0 _ rfl; (with_reducible repeat (first | refine blk_drewN ?_ _ | refine blk_drew ?_ | refine blk_alloc ?_ _)); exact BK601.out))⟩; have n4_ : Aside0 (Below w.heap.size w w28) := ⟨(by rw [hw]; exact z17_7)⟩; clear hw; clear HO590; clear HO597; clear BK586; clear BK601; clear HB; have HO590 := n0_; have HO597 := n1_; have BK586 := n2_; have BK601 := n3_; have HB := n4_; clear n0_ n1_ n2_ n3_ n4_; have hcz29_0 : w28.cell? ⟨gb601, 0, none⟩ = some (.slice Ao25 t595.length co25) := (blk_cell BK601.out 0).trans rfl; have hcz29_1 : w28.cell? ⟨gb601, 1, none⟩ = some (.int .i64 t598) := (blk_cell BK601.out 1).trans rfl; have hcz29_2 : w28.cell? ⟨gb601, 2, none⟩ = some (.int .i64 t599) := (blk_cell BK601.out 2).trans rfl; have hcz29_3 : w28.cell? ⟨gb601, 3, none⟩ = some (.int .i64 t600) := (blk_cell BK601.out 3).trans rfl; have hfz29_0 := blk_frozen BK601.out 0; have hfz29_1 := blk_frozen BK601.out 1; have hfz29_2 := blk_frozen BK601.out 2; have hfz29_3 := blk_frozen BK601.out 3) | ((with_reducible refine gate_callee (f := 14) rfl ?_); refine goesL_ (some 18) rfl rfl Try.func14 z17_16 rfl #[.agg #[.slice Ao25 t595.length co25, .int .i64 t598, .int .i64 t599, .int .i64 t600]] rfl z17_0 ?_; (with_reducible refine (impl_BootBound.calls k _ _ t595 t598 t599 t600 t602 _ ?side1 ?side2 A10.out).mono ?_); (case side1 => exact z17_19); (case side2 => exact (Kd.R_reads' HO597.out).2.1); rintro e w30 ⟨rfl, hb⟩; refine ⟨_, rfl, ?_⟩; have n0_ := Aside0.mk (Kd.R_below z17_9 hb); have n1_ := Aside0.mk (Kd.R_below z17_13 hb); have n2_ := Aside0.mk (blk_below (g := gb586) (o := .cells #[.slice A0_0 l0_0.length c0_0, .int .i64 a0_1, .int .i64 a0_2, .int .i64 a0_3] 26 (0, 0)) z17_5 hb); have n3_ := Aside0.mk (blk_below (g := gb601) (o := .cells #[.slice Ao25 t595.length co25, .int .i64 t598, .int .i64 t599, .int .i64 t600] 32 (0, 0)) z17_17 hb); have n4_ := Aside0.mk (below_step z17_7 hb); clear HO590; clear HO597; clear BK586; clear BK601; clear HB; have HO590 := n0_; have HO597 := n1_; have BK586 := n2_; have BK601 := n3_; have HB := n4_; clear n0_ n1_ n2_ n3_ n4_; (try clear hb); (try clear hb2); (try clear hk); (try clear hi)))
    have n0_ := Aside0.mk (Kd.R_drew HO590.out)
    have n1_ := Aside0.mk (Kd.R_drew HO597.out)
    have n2_ := Aside0.mk (blk_drew BK586.out)
    have n3_ := Aside0.mk (blk_drew BK601.out)
    have n4_ := Aside0.mk (below_drew1 HB.out)
    clear HO590
    clear HO597
    clear BK586
    clear BK601
    clear HB
    have HO590 := n0_
    have HO597 := n1_
    have BK586 := n2_
    have BK601 := n3_
    have HB := n4_
    clear n0_ n1_ n2_ n3_ n4_
    refine start_ (n := 5) (S := fun w' => w'.cell? ⟨gb601, 0, none⟩ = some (.slice Ao25 t595.length co25) ∧ w'.cell? ⟨gb601, 1, none⟩ = some (.int .i64 t598) ∧ w'.cell? ⟨gb601, 2, none⟩ = some (.int .i64 t599) ∧ w'.cell? ⟨gb601, 3, none⟩ = some (.int .i64 t600) ∧ w'.cell? ⟨gb586, 0, none⟩ = some (.slice A0_0 l0_0.length c0_0) ∧ w'.cell? ⟨gb586, 1, none⟩ = some (.int .i64 a0_1) ∧ w'.cell? ⟨gb586, 2, none⟩ = some (.int .i64 a0_2) ∧ w'.cell? ⟨gb586, 3, none⟩ = some (.int .i64 a0_3)) (ds := []) #[false, false, false, false, false] z17_16 rfl rfl ⟨(blk_cell BK601.out 0).trans rfl, (blk_cell BK601.out 1).trans rfl, (blk_cell BK601.out 2).trans rfl, (blk_cell BK601.out 3).trans rfl, (blk_cell BK586.out 0).trans rfl, (blk_cell BK586.out 1).trans rfl, (blk_cell BK586.out 2).trans rfl, (blk_cell BK586.out 3).trans rfl⟩ (fun hHeld => ?_)
    generalize w30.drew = w31 at HO590 HO597 BK586 BK601 HB hHeld ⊢
    refine take_ (i := 0) (N := some 22) (v := ?_) (a' := ?_) #[true, false, false, false, false] rfl rfl z17_16 (fun _ _ _ h => h) (Or.inl ⟨by rfl, ?_⟩) hHeld ?_ ?_
    rotate_left
    ·rintro w' ⟨s0, s1, s2, s3, s4, s5, s6, s7⟩
     go_simp
     with_reducible rfl
    rotate_left
    ·simp only [Act.put, List.setIfInBounds_toArray, List.set_cons_zero, List.set_cons_succ, i64_w, i32_w]
     rfl
    refine take_ (i := 1) (N := some 23) (v := ?_) (a' := ?_) #[true, true, false, false, false] rfl rfl z17_16 (fun _ _ _ h => h) (Or.inl ⟨by rfl, ?_⟩) hHeld ?_ ?_
    rotate_left
    ·rintro w' ⟨s0, s1, s2, s3, s4, s5, s6, s7⟩
     go_simp
     with_reducible rfl
    rotate_left
    ·simp only [Act.put, List.setIfInBounds_toArray, List.set_cons_zero, List.set_cons_succ, i64_w, i32_w]
     rfl
    refine one_ (i := 2) (N := some 24) #[true, true, true, false, false] rfl rfl z17_16 (by decide) (fun K hK => ?_)
    refine goes_ Try.func8 z17_16 rfl #[.agg #[.slice A0_0 l0_0.length c0_0, .int .i64 a0_1, .int .i64 a0_2, .int .i64 a0_3]] (by rfl) rfl rfl z17_0 ?_
    with_reducible refine (laws_toTask.calls k _ _ l0_0 a0_1 a0_2 a0_3 t603 t606 t607 t608 _ ?side1 ?side2 A12.out).mono ?_
    (case side1 => exact z17_1)
    (case side2 => exact z17_23)
    rintro e w32 ⟨v604, rfl, ho0, hb⟩
    refine ⟨_, rfl, ?_⟩
    have n0_ := Aside0.mk (Kd.R_elder' z17_9 (Kd.R_base ho0) hb)
    have n1_ := Aside0.mk (Kd.R_elder' z17_13 (Kd.R_base ho0) hb)
    have n2_ := Aside0.mk (Kd.R_lower (Kd.R_new' (Kd.R_new' ho0 (Kd.R_lt z17_9)) (Kd.R_lt z17_13)) (below_size z17_7))
    have n3_ := Aside0.mk (blk_below (g := gb586) (o := .cells #[.slice A0_0 l0_0.length c0_0, .int .i64 a0_1, .int .i64 a0_2, .int .i64 a0_3] 26 (0, 0)) z17_5 hb)
    have n4_ := Aside0.mk (blk_below (g := gb601) (o := .cells #[.slice Ao25 t595.length co25, .int .i64 t598, .int .i64 t599, .int .i64 t600] 32 (0, 0)) z17_17 hb)
    have n5_ := Aside0.mk (below_step z17_7 hb)
    clear HO590
    clear HO597
    clear BK586
    clear BK601
    clear HB
    have HO590 := n0_
    have HO597 := n1_
    have HO605 := n2_
    have BK586 := n3_
    have BK601 := n4_
    have HB := n5_
    clear n0_ n1_ n2_ n3_ n4_ n5_
    (try clear hb)
    (try clear hb2)
    (try clear hk)
    (try clear hi)
    (try clear ho0)
    obtain ⟨Ao33, co33, eo33⟩ := Kd.R_slice HO605.out
    (first | subst eo33 | (injection eo33 with f1_ f2_ f3_; have f4_ := f1_.symm; have f5_ := f3_.symm; clear f1_ f2_ f3_; subst f4_; subst f5_))
    refine hK.out _ _ ⟨(blk_cell BK601.out 0).trans rfl, (blk_cell BK601.out 1).trans rfl, (blk_cell BK601.out 2).trans rfl, (blk_cell BK601.out 3).trans rfl, (blk_cell BK586.out 0).trans rfl, (blk_cell BK586.out 1).trans rfl, (blk_cell BK586.out 2).trans rfl, (blk_cell BK586.out 3).trans rfl⟩ (fun hHeld => ?_)
    clear hK K
    refine norm_ (a' := ?_) ?_ ?_
    rotate_left
    ·show Act.put _ (some 24) _ = _
     simp only [Act.put, List.setIfInBounds_toArray, List.set_cons_zero, List.set_cons_succ, i64_w, i32_w]
     rfl
    refine one_ (i := 3) (N := some 25) #[true, true, true, true, false] rfl rfl z17_16 (by decide) (fun K hK => ?_)
    refine goes_ Try.func10 z17_16 rfl #[.agg #[.slice Ao25 t595.length co25, .int .i64 t598, .int .i64 t599, .int .i64 t600], .agg #[.slice Ao33 t603.length co33, .int .i64 t606, .int .i64 t607, .int .i64 t608]] (by rfl) rfl rfl z17_0 ?_
    with_reducible refine (laws_eqTask.calls k _ _ t595 t598 t599 t600 _ _ t603 t606 t607 t608 true _ ?side1 ?side2 ?side3 ?side4 A13.out).mono ?_
    (case side1 => exact z17_19)
    (case side2 => exact (Kd.R_reads' HO597.out).2.1)
    (case side3 => repeat (first | exact (Kd.R_reads' HO605.out).2.2 | (with_reducible refine Kd.C_alloc ?_ _) | (with_reducible refine Kd.C_drewN ?_ _) | (with_reducible refine Kd.C_drew ?_)))
    (case side4 => exact (Kd.R_reads' HO605.out).2.1)
    rintro e w34 ⟨rfl, hb⟩
    refine ⟨_, rfl, ?_⟩
    have n0_ := Aside0.mk (Kd.R_below z17_9 hb)
    have n1_ := Aside0.mk (Kd.R_below z17_13 hb)
    have n2_ := Aside0.mk (Kd.R_below (by (with_reducible repeat (first | apply Kd.R_alloc | apply Kd.R_drewN | apply Kd.R_drew)); exact HO605.out) hb)
    have n3_ := Aside0.mk (blk_below (g := gb586) (o := .cells #[.slice A0_0 l0_0.length c0_0, .int .i64 a0_1, .int .i64 a0_2, .int .i64 a0_3] 26 (0, 0)) z17_5 hb)
    have n4_ := Aside0.mk (blk_below (g := gb601) (o := .cells #[.slice Ao25 t595.length co25, .int .i64 t598, .int .i64 t599, .int .i64 t600] 32 (0, 0)) z17_17 hb)
    have n5_ := Aside0.mk (below_step z17_7 hb)
    clear HO590
    clear HO597
    clear HO605
    clear BK586
    clear BK601
    clear HB
    have HO590 := n0_
    have HO597 := n1_
    have HO605 := n2_
    have BK586 := n3_
    have BK601 := n4_
    have HB := n5_
    clear n0_ n1_ n2_ n3_ n4_ n5_
    (try clear hb)
    (try clear hb2)
    (try clear hk)
    (try clear hi)
    refine hK.out _ _ ⟨(blk_cell BK601.out 0).trans rfl, (blk_cell BK601.out 1).trans rfl, (blk_cell BK601.out 2).trans rfl, (blk_cell BK601.out 3).trans rfl, (blk_cell BK586.out 0).trans rfl, (blk_cell BK586.out 1).trans rfl, (blk_cell BK586.out 2).trans rfl, (blk_cell BK586.out 3).trans rfl⟩ (fun hHeld => ?_)
    clear hK K
    refine norm_ (a' := ?_) ?_ ?_
    rotate_left
    ·show Act.put _ (some 25) _ = _
     simp only [Act.put, List.setIfInBounds_toArray, List.set_cons_zero, List.set_cons_succ, i64_w, i32_w]
     rfl
    refine pure_ (i := 4) (N := some 26) (v := ?_) (a' := ?_) #[true, true, true, true, true] rfl rfl z17_16 (fun _ _ _ h => h) (Or.inl ⟨by rfl, ?_⟩) ?_ ?_
    rotate_left
    ·intro w'
     go_simp
     with_reducible rfl
    rotate_left
    ·simp only [Act.put, List.setIfInBounds_toArray, List.set_cons_zero, List.set_cons_succ, i64_w, i32_w]
     rfl
    refine done_ z17_16 ?_
    try go_wp2
    go_ret
    exact ⟨by first | rfl | (simp [errW_none, errW_some] <;> rfl) | (simp [*, errW_none, errW_some] <;> rfl) | (simp [*, errW_none, errW_some, i64_w]; done), by repeat (first | (with_reducible first | exact HB.out | apply below_alloc | apply pw_below_drewN | apply below_drew1 | refine below_set ?_ GE586.out | refine below_set ?_ GE601.out) | exact HB.out)⟩
   ·replace c14 := Bool.eq_false_iff.mpr c14
    subst c14
    have H1 : (some false) = some r := by rw [if_neg (show ¬ (false = true) by decide)] at H; exact H
    clear H
    have H := H1
    clear H1
    obtain rfl := Option.some.inj H
    go_enter Try.func5, Try.ntmps5
    try go_wp2_with (first | ((with_reducible refine gate_dst (N := 1) rfl ?_); refine box_event ?hg (N := 1) ?hd (cs := #[.slice A0_0 l0_0.length c0_0, .int .i64 a0_1, .int .i64 a0_2, .int .i64 a0_3]) (t := 26) ?hr ?_; (case hd => rfl); (case hg => rfl); (case hr => exact z17_15); intro gb586 hg w35 hbox hb; have n0_ := Aside0.mk (below_step z17_2 hb); have n1_ := Aside0.mk (hbox); have n2_ := Aside0.mk ((z17_28 : w.heap.size ≤ gb586)); have n3_ := Aside0.mk ((z17_28 : w.heap.size ≤ gb586)); clear HB; have HB := n0_; have BK586 := n1_; have GW586 := n2_; have GE586 := n3_; clear n0_ n1_ n2_ n3_; clear hb hbox hg; have hcz36_0 : w35.cell? ⟨gb586, 0, none⟩ = some (.slice A0_0 l0_0.length c0_0) := (blk_cell BK586.out 0).trans rfl; have hcz36_1 : w35.cell? ⟨gb586, 1, none⟩ = some (.int .i64 a0_1) := (blk_cell BK586.out 1).trans rfl; have hcz36_2 : w35.cell? ⟨gb586, 2, none⟩ = some (.int .i64 a0_2) := (blk_cell BK586.out 2).trans rfl; have hcz36_3 : w35.cell? ⟨gb586, 3, none⟩ = some (.int .i64 a0_3) := (blk_cell BK586.out 3).trans rfl; have hfz36_0 := blk_frozen BK586.out 0; have hfz36_1 := blk_frozen BK586.out 1; have hfz36_2 := blk_frozen BK586.out 2; have hfz36_3 := blk_frozen BK586.out 3) | ((with_reducible refine gate_callee (f := 6) rfl ?_); refine goesL_ (some 9) rfl rfl Try.func6 z17_16 rfl #[.agg #[.slice A0_0 l0_0.length c0_0, .int .i64 a0_1, .int .i64 a0_2, .int .i64 a0_3], .int .i64 1048576] rfl z17_0 ?_; (with_reducible refine (laws_szTask.calls _ _ l0_0 a0_1 a0_2 a0_3 1048576 t587 _ ?side1 ?side2 A2.out).mono ?_); (case side1 => exact z17_1); (case side2 => exact z17_23); rintro e w37 ⟨rfl, hb⟩; refine ⟨_, rfl, ?_⟩; have n0_ := Aside0.mk (blk_below (g := gb586) (o := .cells #[.slice A0_0 l0_0.length c0_0, .int .i64 a0_1, .int .i64 a0_2, .int .i64 a0_3] 26 (0, 0)) z17_5 hb); have n1_ := Aside0.mk (below_step z17_3 hb); clear BK586; clear HB; have BK586 := n0_; have HB := n1_; clear n0_ n1_; (try clear hb); (try clear hb2); (try clear hk); (try clear hi); have hcz38_0 : w37.cell? ⟨gb586, 0, none⟩ = some (.slice A0_0 l0_0.length c0_0) := (blk_cell BK586.out 0).trans rfl; have hcz38_1 : w37.cell? ⟨gb586, 1, none⟩ = some (.int .i64 a0_1) := (blk_cell BK586.out 1).trans rfl; have hcz38_2 : w37.cell? ⟨gb586, 2, none⟩ = some (.int .i64 a0_2) := (blk_cell BK586.out 2).trans rfl; have hcz38_3 : w37.cell? ⟨gb586, 3, none⟩ = some (.int .i64 a0_3) := (blk_cell BK586.out 3).trans rfl; have hfz38_0 := blk_frozen BK586.out 0; have hfz38_1 := blk_frozen BK586.out 1; have hfz38_2 := blk_frozen BK586.out 2; have hfz38_3 := blk_frozen BK586.out 3) | ((with_reducible refine gate_callee (f := 8) rfl ?_); refine goesL_ (some 13) rfl rfl Try.func8 z17_16 rfl #[.agg #[.slice A0_0 l0_0.length c0_0, .int .i64 a0_1, .int .i64 a0_2, .int .i64 a0_3]] rfl z17_0 ?_; (with_reducible refine (laws_toTask.calls k _ _ l0_0 a0_1 a0_2 a0_3 t588 t591 t592 t593 _ ?side1 ?side2 A7.out).mono ?_); (case side1 => exact z17_1); (case side2 => exact z17_23); rintro e w39 ⟨v589, rfl, ho0, hb⟩; refine ⟨_, rfl, ?_⟩; have n0_ := Aside0.mk (Kd.R_lower ho0 (below_size z17_3)); have n1_ := Aside0.mk (blk_below (g := gb586) (o := .cells #[.slice A0_0 l0_0.length c0_0, .int .i64 a0_1, .int .i64 a0_2, .int .i64 a0_3] 26 (0, 0)) z17_5 hb); have n2_ := Aside0.mk (below_step z17_3 hb); clear BK586; clear HB; have HO590 := n0_; have BK586 := n1_; have HB := n2_; clear n0_ n1_ n2_; (try clear hb); (try clear hb2); (try clear hk); (try clear hi); (try clear ho0); obtain ⟨Ao40, co40, eo40⟩ := Kd.R_slice HO590.out; subst eo40) | ((with_reducible refine gate_callee (f := 13) rfl ?_); refine goesL_ (some 14) rfl rfl Try.func13 z17_16 rfl #[.agg #[.slice Ao40 t588.length co40, .int .i64 t591, .int .i64 t592, .int .i64 t593]] rfl z17_0 ?_; (with_reducible refine (spec_BootBound.calls k _ _ t588 t591 t592 t593 t594 _ ?side1 ?side2 A8.out).mono ?_); (case side1 => exact z17_26); (case side2 => exact (Kd.R_reads' HO590.out).2.1); rintro e w41 ⟨rfl, hb⟩; refine ⟨_, rfl, ?_⟩; have n0_ := Aside0.mk (Kd.R_below z17_9 hb); have n1_ := Aside0.mk (blk_below (g := gb586) (o := .cells #[.slice A0_0 l0_0.length c0_0, .int .i64 a0_1, .int .i64 a0_2, .int .i64 a0_3] 26 (0, 0)) z17_5 hb); have n2_ := Aside0.mk (below_step z17_3 hb); clear HO590; clear BK586; clear HB; have HO590 := n0_; have BK586 := n1_; have HB := n2_; clear n0_ n1_ n2_; (try clear hb); (try clear hb2); (try clear hk); (try clear hi); have hcz42_0 : w41.cell? ⟨gb586, 0, none⟩ = some (.slice A0_0 l0_0.length c0_0) := (blk_cell BK586.out 0).trans rfl; have hcz42_1 : w41.cell? ⟨gb586, 1, none⟩ = some (.int .i64 a0_1) := (blk_cell BK586.out 1).trans rfl; have hcz42_2 : w41.cell? ⟨gb586, 2, none⟩ = some (.int .i64 a0_2) := (blk_cell BK586.out 2).trans rfl; have hcz42_3 : w41.cell? ⟨gb586, 3, none⟩ = some (.int .i64 a0_3) := (blk_cell BK586.out 3).trans rfl; have hfz42_0 := blk_frozen BK586.out 0; have hfz42_1 := blk_frozen BK586.out 1; have hfz42_2 := blk_frozen BK586.out 2; have hfz42_3 := blk_frozen BK586.out 3) | ((with_reducible refine gate_callee (f := 8) rfl ?_); refine goesL_ (some 16) rfl rfl Try.func8 z17_16 rfl #[.agg #[.slice A0_0 l0_0.length c0_0, .int .i64 a0_1, .int .i64 a0_2, .int .i64 a0_3]] rfl z17_0 ?_; (with_reducible refine (laws_toTask.calls k _ _ l0_0 a0_1 a0_2 a0_3 t595 t598 t599 t600 _ ?side1 ?side2 A9.out).mono ?_); (case side1 => exact z17_1); (case side2 => exact z17_23); rintro e w43 ⟨v596, rfl, ho0, hb⟩; refine ⟨_, rfl, ?_⟩; have n0_ := Aside0.mk (Kd.R_elder' z17_9 (Kd.R_base ho0) hb); have n1_ := Aside0.mk (Kd.R_lower (Kd.R_new' ho0 (Kd.R_lt z17_9)) (below_size z17_3)); have n2_ := Aside0.mk (blk_below (g := gb586) (o := .cells #[.slice A0_0 l0_0.length c0_0, .int .i64 a0_1, .int .i64 a0_2, .int .i64 a0_3] 26 (0, 0)) z17_5 hb); have n3_ := Aside0.mk (below_step z17_3 hb); clear HO590; clear BK586; clear HB; have HO590 := n0_; have HO597 := n1_; have BK586 := n2_; have HB := n3_; clear n0_ n1_ n2_ n3_; (try clear hb); (try clear hb2); (try clear hk); (try clear hi); (try clear ho0)) | ((with_reducible refine gate_dst (N := 5) rfl ?_); refine box_event ?hg (N := 5) ?hd (cs := #[.slice none 0 0, .int .i64 0, .int .i64 0, .int .i64 0]) (t := 32) ?hr ?_; (case hd => rfl); (case hg => rfl); (case hr => exact z17_15); intro gb601 hg w44 hbox hb; have n0_ := Aside0.mk (Kd.R_below z17_9 hb); have n1_ := Aside0.mk (Kd.R_below z17_13 hb); have n2_ := Aside0.mk (blk_below (g := gb586) (o := .cells #[.slice A0_0 l0_0.length c0_0, .int .i64 a0_1, .int .i64 a0_2, .int .i64 a0_3] 26 (0, 0)) z17_5 hb); have n3_ := Aside0.mk (below_step z17_3 hb); have n4_ := Aside0.mk (hbox); have n5_ := Aside0.mk ((by rw [hg]; exact (below_size z17_3) : w.heap.size ≤ gb601)); have n6_ := Aside0.mk ((by rw [hg]; exact (below_size z17_3) : w.heap.size ≤ gb601)); have n7_ := Aside0.mk ((z17_29 : gb586 ≠ gb601)); have n8_ := Aside0.mk ((z17_31 : gb601 ≠ gb586)); clear HO590; clear HO597; clear BK586; clear HB; have HO590 := n0_; have HO597 := n1_; have BK586 := n2_; have HB := n3_; have BK601 := n4_; have GW601 := n5_; have GE601 := n6_; have NB586_601 := n7_; have NB601_586 := n8_; clear n0_ n1_ n2_ n3_ n4_ n5_ n6_ n7_ n8_; clear hb hbox hg; obtain ⟨Ao45, co45, eo45⟩ := Kd.R_slice HO597.out; subst eo45; have hnb46 := NB601_586.out; have hnc46 := NB586_601.out; have hcz47_0 : w44.cell? ⟨gb601, 0, none⟩ = some (.slice none 0 0) := (blk_cell BK601.out 0).trans rfl; have hcz47_1 : w44.cell? ⟨gb601, 1, none⟩ = some (.int .i64 0) := (blk_cell BK601.out 1).trans rfl; have hcz47_2 : w44.cell? ⟨gb601, 2, none⟩ = some (.int .i64 0) := (blk_cell BK601.out 2).trans rfl; have hcz47_3 : w44.cell? ⟨gb601, 3, none⟩ = some (.int .i64 0) := (blk_cell BK601.out 3).trans rfl; have hfz47_0 := blk_frozen BK601.out 0; have hfz47_1 := blk_frozen BK601.out 1; have hfz47_2 := blk_frozen BK601.out 2; have hfz47_3 := blk_frozen BK601.out 3) | ((with_reducible refine gate_store (t := 32) (p := 5) rfl ?_); refine store_event (t := 32) (p := 5) (v := ?vo_w48) (w1 := ((((w44.setCell ⟨gb601, 0, none⟩ (.slice Ao45 t595.length co45)).setCell ⟨gb601, 1, none⟩ (.int .i64 t598)).setCell ⟨gb601, 2, none⟩ (.int .i64 t599)).setCell ⟨gb601, 3, none⟩ (.int .i64 t600))) ?hg ?ho ?hn ?hr ?_; (case ho => rfl); (case hg => rfl); (case hn => rfl); (case hr => exact z17_15); intro w48 hw; have n0_ : Aside0 (Kd.R k55 55 w48 w.heap.size (fun k_ => some k_ ≠ (.slice Ao45 t595.length co45 : Value).ownBlock) (.slice Ao40 t588.length co40) t588) := ⟨(by rw [hw]; exact (by (with_reducible repeat (first | apply Kd.R_alloc | apply Kd.R_drewN | apply Kd.R_drew)); exact Kd.R_mono (Kd.R_far (p := ⟨gb601, 3, none⟩) (Kd.R_far (p := ⟨gb601, 2, none⟩) (Kd.R_far (p := ⟨gb601, 1, none⟩) (Kd.R_far (p := ⟨gb601, 0, none⟩) (Kd.R_types HO590.out BK601.out (by decide)) (fun _ hk => hk.2) (.slice Ao45 t595.length co45)) (fun _ hk => hk.2) (.int .i64 t598)) (fun _ hk => hk.2) (.int .i64 t599)) (fun _ hk => hk.2) (.int .i64 t600)) (fun _ hk => hk.1.2)))⟩; have n1_ : Aside0 (Kd.R k55 55 w48 w.heap.size (fun k_ => some k_ ≠ (.slice Ao40 t588.length co40 : Value).ownBlock) (.slice Ao45 t595.length co45) t595) := ⟨(by rw [hw]; exact (by (with_reducible repeat (first | apply Kd.R_alloc | apply Kd.R_drewN | apply Kd.R_drew)); exact Kd.R_mono (Kd.R_far (p := ⟨gb601, 3, none⟩) (Kd.R_far (p := ⟨gb601, 2, none⟩) (Kd.R_far (p := ⟨gb601, 1, none⟩) (Kd.R_far (p := ⟨gb601, 0, none⟩) (Kd.R_types HO597.out BK601.out (by decide)) (fun _ hk => hk.2) (.slice Ao45 t595.length co45)) (fun _ hk => hk.2) (.int .i64 t598)) (fun _ hk => hk.2) (.int .i64 t599)) (fun _ hk => hk.2) (.int .i64 t600)) (fun _ hk => hk.1.2)))⟩; have n2_ : Aside0 (w48.heap[gb586]? = some (.cells #[.slice A0_0 l0_0.length c0_0, .int .i64 a0_1, .int .i64 a0_2, .int .i64 a0_3] 26 (0, 0))) := ⟨z17_11⟩; have n3_ : Aside0 (w48.heap[gb601]? = some (.cells #[.slice Ao45 t595.length co45, .int .i64 t598, .int .i64 t599, .int .i64 t600] 32 (0, 0))) := ⟨(by rw [hw]; exact (by (with_reducible repeat (first | refine blk_drewN ?_ _ | refine blk_drew ?_ | refine blk_alloc ?_ _)); refine blk_put (cs := #[.slice Ao45 t595.length co45, .int .i64 t598, .int .i64 t599, .int .i64 0]) ?_ 3 _ rfl; (with_reducible repeat (first | refine blk_drewN ?_ _ | refine blk_drew ?_ | refine blk_alloc ?_ _)); refine blk_put (cs := #[.slice Ao45 t595.length co45, .int .i64 t598, .int .i64 0, .int .i64 0]) ?_ 2 _ rfl; (with_reducible repeat (first | refine blk_drewN ?_ _ | refine blk_drew ?_ | refine blk_alloc ?_ _)); refine blk_put (cs := #[.slice Ao45 t595.length co45, .int .i64 0, .int .i64 0, .int .i64 0]) ?_ 1 _ rfl; (with_reducible repeat (first | refine blk_drewN ?_ _ | refine blk_drew ?_ | refine blk_alloc ?_ _)); refine blk_put (cs := #[.slice none 0 0, .int .i64 0, .int .i64 0, .int .i64 0]) ?_ 0 _ rfl; (with_reducible repeat (first | refine blk_drewN ?_ _ | refine blk_drew ?_ | refine blk_alloc ?_ _)); exact BK601.out))⟩; have n4_ : Aside0 (Below w.heap.size w w48) := ⟨(by rw [hw]; exact z17_7)⟩; clear hw; clear HO590; clear HO597; clear BK586; clear BK601; clear HB; have HO590 := n0_; have HO597 := n1_; have BK586 := n2_; have BK601 := n3_; have HB := n4_; clear n0_ n1_ n2_ n3_ n4_; have hcz49_0 : w48.cell? ⟨gb601, 0, none⟩ = some (.slice Ao45 t595.length co45) := (blk_cell BK601.out 0).trans rfl; have hcz49_1 : w48.cell? ⟨gb601, 1, none⟩ = some (.int .i64 t598) := (blk_cell BK601.out 1).trans rfl; have hcz49_2 : w48.cell? ⟨gb601, 2, none⟩ = some (.int .i64 t599) := (blk_cell BK601.out 2).trans rfl; have hcz49_3 : w48.cell? ⟨gb601, 3, none⟩ = some (.int .i64 t600) := (blk_cell BK601.out 3).trans rfl; have hfz49_0 := blk_frozen BK601.out 0; have hfz49_1 := blk_frozen BK601.out 1; have hfz49_2 := blk_frozen BK601.out 2; have hfz49_3 := blk_frozen BK601.out 3) | ((with_reducible refine gate_callee (f := 14) rfl ?_); refine goesL_ (some 18) rfl rfl Try.func14 z17_16 rfl #[.agg #[.slice Ao45 t595.length co45, .int .i64 t598, .int .i64 t599, .int .i64 t600]] rfl z17_0 ?_; (with_reducible refine (impl_BootBound.calls k _ _ t595 t598 t599 t600 t602 _ ?side1 ?side2 A10.out).mono ?_); (case side1 => exact z17_19); (case side2 => exact (Kd.R_reads' HO597.out).2.1); rintro e w50 ⟨rfl, hb⟩; refine ⟨_, rfl, ?_⟩; have n0_ := Aside0.mk (Kd.R_below z17_9 hb); have n1_ := Aside0.mk (Kd.R_below z17_13 hb); have n2_ := Aside0.mk (blk_below (g := gb586) (o := .cells #[.slice A0_0 l0_0.length c0_0, .int .i64 a0_1, .int .i64 a0_2, .int .i64 a0_3] 26 (0, 0)) z17_5 hb); have n3_ := Aside0.mk (blk_below (g := gb601) (o := .cells #[.slice Ao45 t595.length co45, .int .i64 t598, .int .i64 t599, .int .i64 t600] 32 (0, 0)) z17_17 hb); have n4_ := Aside0.mk (below_step z17_7 hb); clear HO590; clear HO597; clear BK586; clear BK601; clear HB; have HO590 := n0_; have HO597 := n1_; have BK586 := n2_; have BK601 := n3_; have HB := n4_; clear n0_ n1_ n2_ n3_ n4_; (try clear hb); (try clear hb2); (try clear hk); (try clear hi)))
    have n0_ := Aside0.mk (Kd.R_drew HO590.out)
    have n1_ := Aside0.mk (Kd.R_drew HO597.out)
    have n2_ := Aside0.mk (blk_drew BK586.out)
    have n3_ := Aside0.mk (blk_drew BK601.out)
    have n4_ := Aside0.mk (below_drew1 HB.out)
    clear HO590
    clear HO597
    clear BK586
    clear BK601
    clear HB
    have HO590 := n0_
    have HO597 := n1_
    have BK586 := n2_
    have BK601 := n3_
    have HB := n4_
    clear n0_ n1_ n2_ n3_ n4_
    refine start_ (n := 5) (S := fun w' => w'.cell? ⟨gb601, 0, none⟩ = some (.slice Ao45 t595.length co45) ∧ w'.cell? ⟨gb601, 1, none⟩ = some (.int .i64 t598) ∧ w'.cell? ⟨gb601, 2, none⟩ = some (.int .i64 t599) ∧ w'.cell? ⟨gb601, 3, none⟩ = some (.int .i64 t600) ∧ w'.cell? ⟨gb586, 0, none⟩ = some (.slice A0_0 l0_0.length c0_0) ∧ w'.cell? ⟨gb586, 1, none⟩ = some (.int .i64 a0_1) ∧ w'.cell? ⟨gb586, 2, none⟩ = some (.int .i64 a0_2) ∧ w'.cell? ⟨gb586, 3, none⟩ = some (.int .i64 a0_3)) (ds := []) #[false, false, false, false, false] z17_16 rfl rfl ⟨(blk_cell BK601.out 0).trans rfl, (blk_cell BK601.out 1).trans rfl, (blk_cell BK601.out 2).trans rfl, (blk_cell BK601.out 3).trans rfl, (blk_cell BK586.out 0).trans rfl, (blk_cell BK586.out 1).trans rfl, (blk_cell BK586.out 2).trans rfl, (blk_cell BK586.out 3).trans rfl⟩ (fun hHeld => ?_)
    generalize w50.drew = w51 at HO590 HO597 BK586 BK601 HB hHeld ⊢
    refine take_ (i := 0) (N := some 22) (v := ?_) (a' := ?_) #[true, false, false, false, false] rfl rfl z17_16 (fun _ _ _ h => h) (Or.inl ⟨by rfl, ?_⟩) hHeld ?_ ?_
    rotate_left
    ·rintro w' ⟨s0, s1, s2, s3, s4, s5, s6, s7⟩
     go_simp
     with_reducible rfl
    rotate_left
    ·simp only [Act.put, List.setIfInBounds_toArray, List.set_cons_zero, List.set_cons_succ, i64_w, i32_w]
     rfl
    refine take_ (i := 1) (N := some 23) (v := ?_) (a' := ?_) #[true, true, false, false, false] rfl rfl z17_16 (fun _ _ _ h => h) (Or.inl ⟨by rfl, ?_⟩) hHeld ?_ ?_
    rotate_left
    ·rintro w' ⟨s0, s1, s2, s3, s4, s5, s6, s7⟩
     go_simp
     with_reducible rfl
    rotate_left
    ·simp only [Act.put, List.setIfInBounds_toArray, List.set_cons_zero, List.set_cons_succ, i64_w, i32_w]
     rfl
    refine one_ (i := 2) (N := some 24) #[true, true, true, false, false] rfl rfl z17_16 (by decide) (fun K hK => ?_)
    refine goes_ Try.func8 z17_16 rfl #[.agg #[.slice A0_0 l0_0.length c0_0, .int .i64 a0_1, .int .i64 a0_2, .int .i64 a0_3]] (by rfl) rfl rfl z17_0 ?_
    with_reducible refine (laws_toTask.calls k _ _ l0_0 a0_1 a0_2 a0_3 t603 t606 t607 t608 _ ?side1 ?side2 A12.out).mono ?_
    (case side1 => exact z17_1)
    (case side2 => exact z17_23)
    rintro e w52 ⟨v604, rfl, ho0, hb⟩
    refine ⟨_, rfl, ?_⟩
    have n0_ := Aside0.mk (Kd.R_elder' z17_9 (Kd.R_base ho0) hb)
    have n1_ := Aside0.mk (Kd.R_elder' z17_13 (Kd.R_base ho0) hb)
    have n2_ := Aside0.mk (Kd.R_lower (Kd.R_new' (Kd.R_new' ho0 (Kd.R_lt z17_9)) (Kd.R_lt z17_13)) (below_size z17_7))
    have n3_ := Aside0.mk (blk_below (g := gb586) (o := .cells #[.slice A0_0 l0_0.length c0_0, .int .i64 a0_1, .int .i64 a0_2, .int .i64 a0_3] 26 (0, 0)) z17_5 hb)
    have n4_ := Aside0.mk (blk_below (g := gb601) (o := .cells #[.slice Ao45 t595.length co45, .int .i64 t598, .int .i64 t599, .int .i64 t600] 32 (0, 0)) z17_17 hb)
    have n5_ := Aside0.mk (below_step z17_7 hb)
    clear HO590
    clear HO597
    clear BK586
    clear BK601
    clear HB
    have HO590 := n0_
    have HO597 := n1_
    have HO605 := n2_
    have BK586 := n3_
    have BK601 := n4_
    have HB := n5_
    clear n0_ n1_ n2_ n3_ n4_ n5_
    (try clear hb)
    (try clear hb2)
    (try clear hk)
    (try clear hi)
    (try clear ho0)
    obtain ⟨Ao53, co53, eo53⟩ := Kd.R_slice HO605.out
    (first | subst eo53 | (injection eo53 with f1_ f2_ f3_; have f4_ := f1_.symm; have f5_ := f3_.symm; clear f1_ f2_ f3_; subst f4_; subst f5_))
    refine hK.out _ _ ⟨(blk_cell BK601.out 0).trans rfl, (blk_cell BK601.out 1).trans rfl, (blk_cell BK601.out 2).trans rfl, (blk_cell BK601.out 3).trans rfl, (blk_cell BK586.out 0).trans rfl, (blk_cell BK586.out 1).trans rfl, (blk_cell BK586.out 2).trans rfl, (blk_cell BK586.out 3).trans rfl⟩ (fun hHeld => ?_)
    clear hK K
    refine norm_ (a' := ?_) ?_ ?_
    rotate_left
    ·show Act.put _ (some 24) _ = _
     simp only [Act.put, List.setIfInBounds_toArray, List.set_cons_zero, List.set_cons_succ, i64_w, i32_w]
     rfl
    refine one_ (i := 3) (N := some 25) #[true, true, true, true, false] rfl rfl z17_16 (by decide) (fun K hK => ?_)
    refine goes_ Try.func10 z17_16 rfl #[.agg #[.slice Ao45 t595.length co45, .int .i64 t598, .int .i64 t599, .int .i64 t600], .agg #[.slice Ao53 t603.length co53, .int .i64 t606, .int .i64 t607, .int .i64 t608]] (by rfl) rfl rfl z17_0 ?_
    with_reducible refine (laws_eqTask.calls k _ _ t595 t598 t599 t600 _ _ t603 t606 t607 t608 false _ ?side1 ?side2 ?side3 ?side4 A13.out).mono ?_
    (case side1 => exact z17_19)
    (case side2 => exact (Kd.R_reads' HO597.out).2.1)
    (case side3 => repeat (first | exact (Kd.R_reads' HO605.out).2.2 | (with_reducible refine Kd.C_alloc ?_ _) | (with_reducible refine Kd.C_drewN ?_ _) | (with_reducible refine Kd.C_drew ?_)))
    (case side4 => exact (Kd.R_reads' HO605.out).2.1)
    rintro e w54 ⟨rfl, hb⟩
    refine ⟨_, rfl, ?_⟩
    have n0_ := Aside0.mk (Kd.R_below z17_9 hb)
    have n1_ := Aside0.mk (Kd.R_below z17_13 hb)
    have n2_ := Aside0.mk (Kd.R_below (by (with_reducible repeat (first | apply Kd.R_alloc | apply Kd.R_drewN | apply Kd.R_drew)); exact HO605.out) hb)
    have n3_ := Aside0.mk (blk_below (g := gb586) (o := .cells #[.slice A0_0 l0_0.length c0_0, .int .i64 a0_1, .int .i64 a0_2, .int .i64 a0_3] 26 (0, 0)) z17_5 hb)
    have n4_ := Aside0.mk (blk_below (g := gb601) (o := .cells #[.slice Ao45 t595.length co45, .int .i64 t598, .int .i64 t599, .int .i64 t600] 32 (0, 0)) z17_17 hb)
    have n5_ := Aside0.mk (below_step z17_7 hb)
    clear HO590
    clear HO597
    clear HO605
    clear BK586
    clear BK601
    clear HB
    have HO590 := n0_
    have HO597 := n1_
    have HO605 := n2_
    have BK586 := n3_
    have BK601 := n4_
    have HB := n5_
    clear n0_ n1_ n2_ n3_ n4_ n5_
    (try clear hb)
    (try clear hb2)
    (try clear hk)
    (try clear hi)
    refine hK.out _ _ ⟨(blk_cell BK601.out 0).trans rfl, (blk_cell BK601.out 1).trans rfl, (blk_cell BK601.out 2).trans rfl, (blk_cell BK601.out 3).trans rfl, (blk_cell BK586.out 0).trans rfl, (blk_cell BK586.out 1).trans rfl, (blk_cell BK586.out 2).trans rfl, (blk_cell BK586.out 3).trans rfl⟩ (fun hHeld => ?_)
    clear hK K
    refine norm_ (a' := ?_) ?_ ?_
    rotate_left
    ·show Act.put _ (some 25) _ = _
     simp only [Act.put, List.setIfInBounds_toArray, List.set_cons_zero, List.set_cons_succ, i64_w, i32_w]
     rfl
    refine pure_ (i := 4) (N := some 26) (v := ?_) (a' := ?_) #[true, true, true, true, true] rfl rfl z17_16 (fun _ _ _ h => h) (Or.inl ⟨by rfl, ?_⟩) ?_ ?_
    rotate_left
    ·intro w'
     go_simp
     with_reducible rfl
    rotate_left
    ·simp only [Act.put, List.setIfInBounds_toArray, List.set_cons_zero, List.set_cons_succ, i64_w, i32_w]
     rfl
    refine done_ z17_16 ?_
    try go_wp2
    go_ret
    exact ⟨by first | rfl | (simp [errW_none, errW_some] <;> rfl) | (simp [*, errW_none, errW_some] <;> rfl) | (simp [*, errW_none, errW_some, i64_w]; done), by repeat (first | (with_reducible first | exact HB.out | apply below_alloc | apply pw_below_drewN | apply below_drew1 | refine below_set ?_ GE586.out | refine below_set ?_ GE601.out) | exact HB.out)⟩
  ·rw [if_neg c11] at H
   have c11b0 : (t602 == t594) = false := beq_eq_false_iff_ne.mpr c11
   have c11b1 : (t602 != t594) = true := bne_iff_ne.mpr c11
   obtain rfl := Option.some.inj H
   go_enter Try.func5, Try.ntmps5
   go_wp2_with (first | ((with_reducible refine gate_dst (N := 1) rfl ?_); refine box_event ?hg (N := 1) ?hd (cs := #[.slice A0_0 l0_0.length c0_0, .int .i64 a0_1, .int .i64 a0_2, .int .i64 a0_3]) (t := 26) ?hr ?_; (case hd => rfl); (case hg => rfl); (case hr => exact z17_15); intro gb586 hg w55 hbox hb; have n0_ := Aside0.mk (below_step z17_2 hb); have n1_ := Aside0.mk (hbox); have n2_ := Aside0.mk ((z17_28 : w.heap.size ≤ gb586)); have n3_ := Aside0.mk ((z17_28 : w.heap.size ≤ gb586)); clear HB; have HB := n0_; have BK586 := n1_; have GW586 := n2_; have GE586 := n3_; clear n0_ n1_ n2_ n3_; clear hb hbox hg; have hcz56_0 : w55.cell? ⟨gb586, 0, none⟩ = some (.slice A0_0 l0_0.length c0_0) := (blk_cell BK586.out 0).trans rfl; have hcz56_1 : w55.cell? ⟨gb586, 1, none⟩ = some (.int .i64 a0_1) := (blk_cell BK586.out 1).trans rfl; have hcz56_2 : w55.cell? ⟨gb586, 2, none⟩ = some (.int .i64 a0_2) := (blk_cell BK586.out 2).trans rfl; have hcz56_3 : w55.cell? ⟨gb586, 3, none⟩ = some (.int .i64 a0_3) := (blk_cell BK586.out 3).trans rfl; have hfz56_0 := blk_frozen BK586.out 0; have hfz56_1 := blk_frozen BK586.out 1; have hfz56_2 := blk_frozen BK586.out 2; have hfz56_3 := blk_frozen BK586.out 3) | ((with_reducible refine gate_callee (f := 6) rfl ?_); refine goesL_ (some 9) rfl rfl Try.func6 z17_16 rfl #[.agg #[.slice A0_0 l0_0.length c0_0, .int .i64 a0_1, .int .i64 a0_2, .int .i64 a0_3], .int .i64 1048576] rfl z17_0 ?_; (with_reducible refine (laws_szTask.calls _ _ l0_0 a0_1 a0_2 a0_3 1048576 t587 _ ?side1 ?side2 A2.out).mono ?_); (case side1 => exact z17_1); (case side2 => exact z17_23); rintro e w57 ⟨rfl, hb⟩; refine ⟨_, rfl, ?_⟩; have n0_ := Aside0.mk (blk_below (g := gb586) (o := .cells #[.slice A0_0 l0_0.length c0_0, .int .i64 a0_1, .int .i64 a0_2, .int .i64 a0_3] 26 (0, 0)) z17_5 hb); have n1_ := Aside0.mk (below_step z17_3 hb); clear BK586; clear HB; have BK586 := n0_; have HB := n1_; clear n0_ n1_; (try clear hb); (try clear hb2); (try clear hk); (try clear hi); have hcz58_0 : w57.cell? ⟨gb586, 0, none⟩ = some (.slice A0_0 l0_0.length c0_0) := (blk_cell BK586.out 0).trans rfl; have hcz58_1 : w57.cell? ⟨gb586, 1, none⟩ = some (.int .i64 a0_1) := (blk_cell BK586.out 1).trans rfl; have hcz58_2 : w57.cell? ⟨gb586, 2, none⟩ = some (.int .i64 a0_2) := (blk_cell BK586.out 2).trans rfl; have hcz58_3 : w57.cell? ⟨gb586, 3, none⟩ = some (.int .i64 a0_3) := (blk_cell BK586.out 3).trans rfl; have hfz58_0 := blk_frozen BK586.out 0; have hfz58_1 := blk_frozen BK586.out 1; have hfz58_2 := blk_frozen BK586.out 2; have hfz58_3 := blk_frozen BK586.out 3) | ((with_reducible refine gate_callee (f := 8) rfl ?_); refine goesL_ (some 13) rfl rfl Try.func8 z17_16 rfl #[.agg #[.slice A0_0 l0_0.length c0_0, .int .i64 a0_1, .int .i64 a0_2, .int .i64 a0_3]] rfl z17_0 ?_; (with_reducible refine (laws_toTask.calls k _ _ l0_0 a0_1 a0_2 a0_3 t588 t591 t592 t593 _ ?side1 ?side2 A7.out).mono ?_); (case side1 => exact z17_1); (case side2 => exact z17_23); rintro e w59 ⟨v589, rfl, ho0, hb⟩; refine ⟨_, rfl, ?_⟩; have n0_ := Aside0.mk (Kd.R_lower ho0 (below_size z17_3)); have n1_ := Aside0.mk (blk_below (g := gb586) (o := .cells #[.slice A0_0 l0_0.length c0_0, .int .i64 a0_1, .int .i64 a0_2, .int .i64 a0_3] 26 (0, 0)) z17_5 hb); have n2_ := Aside0.mk (below_step z17_3 hb); clear BK586; clear HB; have HO590 := n0_; have BK586 := n1_; have HB := n2_; clear n0_ n1_ n2_; (try clear hb); (try clear hb2); (try clear hk); (try clear hi); (try clear ho0); obtain ⟨Ao60, co60, eo60⟩ := Kd.R_slice HO590.out; subst eo60) | ((with_reducible refine gate_callee (f := 13) rfl ?_); refine goesL_ (some 14) rfl rfl Try.func13 z17_16 rfl #[.agg #[.slice Ao60 t588.length co60, .int .i64 t591, .int .i64 t592, .int .i64 t593]] rfl z17_0 ?_; (with_reducible refine (spec_BootBound.calls k _ _ t588 t591 t592 t593 t594 _ ?side1 ?side2 A8.out).mono ?_); (case side1 => exact z17_26); (case side2 => exact (Kd.R_reads' HO590.out).2.1); rintro e w61 ⟨rfl, hb⟩; refine ⟨_, rfl, ?_⟩; have n0_ := Aside0.mk (Kd.R_below z17_9 hb); have n1_ := Aside0.mk (blk_below (g := gb586) (o := .cells #[.slice A0_0 l0_0.length c0_0, .int .i64 a0_1, .int .i64 a0_2, .int .i64 a0_3] 26 (0, 0)) z17_5 hb); have n2_ := Aside0.mk (below_step z17_3 hb); clear HO590; clear BK586; clear HB; have HO590 := n0_; have BK586 := n1_; have HB := n2_; clear n0_ n1_ n2_; (try clear hb); (try clear hb2); (try clear hk); (try clear hi); have hcz62_0 : w61.cell? ⟨gb586, 0, none⟩ = some (.slice A0_0 l0_0.length c0_0) := (blk_cell BK586.out 0).trans rfl; have hcz62_1 : w61.cell? ⟨gb586, 1, none⟩ = some (.int .i64 a0_1) := (blk_cell BK586.out 1).trans rfl; have hcz62_2 : w61.cell? ⟨gb586, 2, none⟩ = some (.int .i64 a0_2) := (blk_cell BK586.out 2).trans rfl; have hcz62_3 : w61.cell? ⟨gb586, 3, none⟩ = some (.int .i64 a0_3) := (blk_cell BK586.out 3).trans rfl; have hfz62_0 := blk_frozen BK586.out 0; have hfz62_1 := blk_frozen BK586.out 1; have hfz62_2 := blk_frozen BK586.out 2; have hfz62_3 := blk_frozen BK586.out 3) | ((with_reducible refine gate_callee (f := 8) rfl ?_); refine goesL_ (some 16) rfl rfl Try.func8 z17_16 rfl #[.agg #[.slice A0_0 l0_0.length c0_0, .int .i64 a0_1, .int .i64 a0_2, .int .i64 a0_3]] rfl z17_0 ?_; (with_reducible refine (laws_toTask.calls k _ _ l0_0 a0_1 a0_2 a0_3 t595 t598 t599 t600 _ ?side1 ?side2 A9.out).mono ?_); (case side1 => exact z17_1); (case side2 => exact z17_23); rintro e w63 ⟨v596, rfl, ho0, hb⟩; refine ⟨_, rfl, ?_⟩; have n0_ := Aside0.mk (Kd.R_elder' z17_9 (Kd.R_base ho0) hb); have n1_ := Aside0.mk (Kd.R_lower (Kd.R_new' ho0 (Kd.R_lt z17_9)) (below_size z17_3)); have n2_ := Aside0.mk (blk_below (g := gb586) (o := .cells #[.slice A0_0 l0_0.length c0_0, .int .i64 a0_1, .int .i64 a0_2, .int .i64 a0_3] 26 (0, 0)) z17_5 hb); have n3_ := Aside0.mk (below_step z17_3 hb); clear HO590; clear BK586; clear HB; have HO590 := n0_; have HO597 := n1_; have BK586 := n2_; have HB := n3_; clear n0_ n1_ n2_ n3_; (try clear hb); (try clear hb2); (try clear hk); (try clear hi); (try clear ho0)) | ((with_reducible refine gate_dst (N := 5) rfl ?_); refine box_event ?hg (N := 5) ?hd (cs := #[.slice none 0 0, .int .i64 0, .int .i64 0, .int .i64 0]) (t := 32) ?hr ?_; (case hd => rfl); (case hg => rfl); (case hr => exact z17_15); intro gb601 hg w64 hbox hb; have n0_ := Aside0.mk (Kd.R_below z17_9 hb); have n1_ := Aside0.mk (Kd.R_below z17_13 hb); have n2_ := Aside0.mk (blk_below (g := gb586) (o := .cells #[.slice A0_0 l0_0.length c0_0, .int .i64 a0_1, .int .i64 a0_2, .int .i64 a0_3] 26 (0, 0)) z17_5 hb); have n3_ := Aside0.mk (below_step z17_3 hb); have n4_ := Aside0.mk (hbox); have n5_ := Aside0.mk ((by rw [hg]; exact (below_size z17_3) : w.heap.size ≤ gb601)); have n6_ := Aside0.mk ((by rw [hg]; exact (below_size z17_3) : w.heap.size ≤ gb601)); have n7_ := Aside0.mk ((z17_29 : gb586 ≠ gb601)); have n8_ := Aside0.mk ((z17_31 : gb601 ≠ gb586)); clear HO590; clear HO597; clear BK586; clear HB; have HO590 := n0_; have HO597 := n1_; have BK586 := n2_; have HB := n3_; have BK601 := n4_; have GW601 := n5_; have GE601 := n6_; have NB586_601 := n7_; have NB601_586 := n8_; clear n0_ n1_ n2_ n3_ n4_ n5_ n6_ n7_ n8_; clear hb hbox hg; obtain ⟨Ao65, co65, eo65⟩ := Kd.R_slice HO597.out; subst eo65; have hnb66 := NB601_586.out; have hnc66 := NB586_601.out; have hcz67_0 : w64.cell? ⟨gb601, 0, none⟩ = some (.slice none 0 0) := (blk_cell BK601.out 0).trans rfl; have hcz67_1 : w64.cell? ⟨gb601, 1, none⟩ = some (.int .i64 0) := (blk_cell BK601.out 1).trans rfl; have hcz67_2 : w64.cell? ⟨gb601, 2, none⟩ = some (.int .i64 0) := (blk_cell BK601.out 2).trans rfl; have hcz67_3 : w64.cell? ⟨gb601, 3, none⟩ = some (.int .i64 0) := (blk_cell BK601.out 3).trans rfl; have hfz67_0 := blk_frozen BK601.out 0; have hfz67_1 := blk_frozen BK601.out 1; have hfz67_2 := blk_frozen BK601.out 2; have hfz67_3 := blk_frozen BK601.out 3) | ((with_reducible refine gate_store (t := 32) (p := 5) rfl ?_); refine store_event (t := 32) (p := 5) (v := ?vo_w68) (w1 := ((((w64.setCell ⟨gb601, 0, none⟩ (.slice Ao65 t595.length co65)).setCell ⟨gb601, 1, none⟩ (.int .i64 t598)).setCell ⟨gb601, 2, none⟩ (.int .i64 t599)).setCell ⟨gb601, 3, none⟩ (.int .i64 t600))) ?hg ?ho ?hn ?hr ?_; (case ho => rfl); (case hg => rfl); (case hn => rfl); (case hr => exact z17_15); intro w68 hw; have n0_ : Aside0 (Kd.R k55 55 w68 w.heap.size (fun k_ => some k_ ≠ (.slice Ao65 t595.length co65 : Value).ownBlock) (.slice Ao60 t588.length co60) t588) := ⟨(by rw [hw]; exact (by (with_reducible repeat (first | apply Kd.R_alloc | apply Kd.R_drewN | apply Kd.R_drew)); exact Kd.R_mono (Kd.R_far (p := ⟨gb601, 3, none⟩) (Kd.R_far (p := ⟨gb601, 2, none⟩) (Kd.R_far (p := ⟨gb601, 1, none⟩) (Kd.R_far (p := ⟨gb601, 0, none⟩) (Kd.R_types HO590.out BK601.out (by decide)) (fun _ hk => hk.2) (.slice Ao65 t595.length co65)) (fun _ hk => hk.2) (.int .i64 t598)) (fun _ hk => hk.2) (.int .i64 t599)) (fun _ hk => hk.2) (.int .i64 t600)) (fun _ hk => hk.1.2)))⟩; have n1_ : Aside0 (Kd.R k55 55 w68 w.heap.size (fun k_ => some k_ ≠ (.slice Ao60 t588.length co60 : Value).ownBlock) (.slice Ao65 t595.length co65) t595) := ⟨(by rw [hw]; exact (by (with_reducible repeat (first | apply Kd.R_alloc | apply Kd.R_drewN | apply Kd.R_drew)); exact Kd.R_mono (Kd.R_far (p := ⟨gb601, 3, none⟩) (Kd.R_far (p := ⟨gb601, 2, none⟩) (Kd.R_far (p := ⟨gb601, 1, none⟩) (Kd.R_far (p := ⟨gb601, 0, none⟩) (Kd.R_types HO597.out BK601.out (by decide)) (fun _ hk => hk.2) (.slice Ao65 t595.length co65)) (fun _ hk => hk.2) (.int .i64 t598)) (fun _ hk => hk.2) (.int .i64 t599)) (fun _ hk => hk.2) (.int .i64 t600)) (fun _ hk => hk.1.2)))⟩; have n2_ : Aside0 (w68.heap[gb586]? = some (.cells #[.slice A0_0 l0_0.length c0_0, .int .i64 a0_1, .int .i64 a0_2, .int .i64 a0_3] 26 (0, 0))) := ⟨z17_11⟩; have n3_ : Aside0 (w68.heap[gb601]? = some (.cells #[.slice Ao65 t595.length co65, .int .i64 t598, .int .i64 t599, .int .i64 t600] 32 (0, 0))) := ⟨(by rw [hw]; exact (by (with_reducible repeat (first | refine blk_drewN ?_ _ | refine blk_drew ?_ | refine blk_alloc ?_ _)); refine blk_put (cs := #[.slice Ao65 t595.length co65, .int .i64 t598, .int .i64 t599, .int .i64 0]) ?_ 3 _ rfl; (with_reducible repeat (first | refine blk_drewN ?_ _ | refine blk_drew ?_ | refine blk_alloc ?_ _)); refine blk_put (cs := #[.slice Ao65 t595.length co65, .int .i64 t598, .int .i64 0, .int .i64 0]) ?_ 2 _ rfl; (with_reducible repeat (first | refine blk_drewN ?_ _ | refine blk_drew ?_ | refine blk_alloc ?_ _)); refine blk_put (cs := #[.slice Ao65 t595.length co65, .int .i64 0, .int .i64 0, .int .i64 0]) ?_ 1 _ rfl; (with_reducible repeat (first | refine blk_drewN ?_ _ | refine blk_drew ?_ | refine blk_alloc ?_ _)); refine blk_put (cs := #[.slice none 0 0, .int .i64 0, .int .i64 0, .int .i64 0]) ?_ 0 _ rfl; (with_reducible repeat (first | refine blk_drewN ?_ _ | refine blk_drew ?_ | refine blk_alloc ?_ _)); exact BK601.out))⟩; have n4_ : Aside0 (Below w.heap.size w w68) := ⟨(by rw [hw]; exact z17_7)⟩; clear hw; clear HO590; clear HO597; clear BK586; clear BK601; clear HB; have HO590 := n0_; have HO597 := n1_; have BK586 := n2_; have BK601 := n3_; have HB := n4_; clear n0_ n1_ n2_ n3_ n4_; have hcz69_0 : w68.cell? ⟨gb601, 0, none⟩ = some (.slice Ao65 t595.length co65) := (blk_cell BK601.out 0).trans rfl; have hcz69_1 : w68.cell? ⟨gb601, 1, none⟩ = some (.int .i64 t598) := (blk_cell BK601.out 1).trans rfl; have hcz69_2 : w68.cell? ⟨gb601, 2, none⟩ = some (.int .i64 t599) := (blk_cell BK601.out 2).trans rfl; have hcz69_3 : w68.cell? ⟨gb601, 3, none⟩ = some (.int .i64 t600) := (blk_cell BK601.out 3).trans rfl; have hfz69_0 := blk_frozen BK601.out 0; have hfz69_1 := blk_frozen BK601.out 1; have hfz69_2 := blk_frozen BK601.out 2; have hfz69_3 := blk_frozen BK601.out 3) | ((with_reducible refine gate_callee (f := 14) rfl ?_); refine goesL_ (some 18) rfl rfl Try.func14 z17_16 rfl #[.agg #[.slice Ao65 t595.length co65, .int .i64 t598, .int .i64 t599, .int .i64 t600]] rfl z17_0 ?_; (with_reducible refine (impl_BootBound.calls k _ _ t595 t598 t599 t600 t602 _ ?side1 ?side2 A10.out).mono ?_); (case side1 => exact z17_19); (case side2 => exact (Kd.R_reads' HO597.out).2.1); rintro e w70 ⟨rfl, hb⟩; refine ⟨_, rfl, ?_⟩; have n0_ := Aside0.mk (Kd.R_below z17_9 hb); have n1_ := Aside0.mk (Kd.R_below z17_13 hb); have n2_ := Aside0.mk (blk_below (g := gb586) (o := .cells #[.slice A0_0 l0_0.length c0_0, .int .i64 a0_1, .int .i64 a0_2, .int .i64 a0_3] 26 (0, 0)) z17_5 hb); have n3_ := Aside0.mk (blk_below (g := gb601) (o := .cells #[.slice Ao65 t595.length co65, .int .i64 t598, .int .i64 t599, .int .i64 t600] 32 (0, 0)) z17_17 hb); have n4_ := Aside0.mk (below_step z17_7 hb); clear HO590; clear HO597; clear BK586; clear BK601; clear HB; have HO590 := n0_; have HO597 := n1_; have BK586 := n2_; have BK601 := n3_; have HB := n4_; clear n0_ n1_ n2_ n3_ n4_; (try clear hb); (try clear hb2); (try clear hk); (try clear hi)))
   go_ret
   exact ⟨by first | rfl | (simp [errW_none, errW_some] <;> rfl) | (simp [*, errW_none, errW_some] <;> rfl) | (simp [*, errW_none, errW_some, i64_w]; done), by repeat (first | (with_reducible first | exact HB.out | apply below_alloc | apply pw_below_drewN | apply below_drew1 | refine below_set ?_ GE586.out | refine below_set ?_ GE601.out) | exact HB.out)⟩
def laws_FnExactBootBound.Pure : Prop := ∀ (x0 : S26), gd26 x0 → ∃ k, laws_FnExactBootBound.f k x0.f0 x0.f1.f0 x0.f1.f1 x0.f1.f2 = some true
theorem laws_FnExactBootBound.walk (P : laws_FnExactBootBound.Pure) (x0 : S26) (c0 : Array Value) (w : World) (K0 : k26.K w x0 c0.toList) (G0 : gd26 x0) :
  Calls Try.prog 5 #[.agg c0] w fun e w' => e = .returned (.bool true) ∧ Below w.heap.size w w' := by
 obtain ⟨A0_0, c0_0, e0, l0_0, g0_0⟩ := k26_open K0
 have e0' : c0 = #[.slice A0_0 x0.f0.length c0_0, .int .i64 x0.f1.f0, .int .i64 x0.f1.f1, .int .i64 x0.f1.f2] := by rw [← Array.toList_inj]; exact e0
 subst e0'
 obtain ⟨k, h⟩ := P x0 G0
 refine (laws_FnExactBootBound.calls k _ _ x0.f0 x0.f1.f0 x0.f1.f1 x0.f1.f2 true w g0_0 l0_0 h).mono ?_
 rintro e w' ⟨rfl, hd⟩
 exact ⟨rfl, hd⟩
end Go.Proofs.Ytccjlmpeogifkaa.G
