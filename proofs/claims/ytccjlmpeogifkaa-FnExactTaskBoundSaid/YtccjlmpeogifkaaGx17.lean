/- Functions of the program as plain Lean functions, and that each call comes to its function's answer; written by a program of the session. No condition. -/
import Derived.Test.YtccjlmpeogifkaaGx0
import Derived.Test.YtccjlmpeogifkaaGx3
import Derived.Test.YtccjlmpeogifkaaGx4
import Derived.Test.YtccjlmpeogifkaaGx6
import Derived.Test.YtccjlmpeogifkaaGx7
import Derived.Test.YtccjlmpeogifkaaGx14
import Derived.Test.YtccjlmpeogifkaaGx15
import Derived.Test.YtccjlmpeogifkaaGx16
namespace Go.Proofs.Ytccjlmpeogifkaa.G
open Go.RowKit Go.Proofs.YtccjlmpeogifkaaW.PrintWords Go.Proofs.YtccjlmpeogifkaaW.PrintLast Go.Proofs.YtccjlmpeogifkaaW.PrintMore
attribute [local go_sem] max2_int min2_int max_two min_two max_three min_three max_four min_four   -- for this text's walks alone
set_option linter.unusedVariables false
set_option linter.unusedSimpArgs false
theorem z17_0 {P : Prop} (h : P := by (try simp only [List.map_toArray, List.map_cons, List.map_nil]); first | done | rfl | (simp only [List.length_drop, List.length_take]; rfl)) : P := h
theorem z17_1 {P : Prop} (h : P := by repeat (first | exact (Kd.C_below HR0_0.out HB.out) | (with_reducible refine Kd.C_alloc ?_ _) | (with_reducible refine Kd.C_drewN ?_ _) | (with_reducible refine Kd.C_drew ?_))) : P := h
theorem z17_2 {P : Prop} (h : P := by repeat (first | (with_reducible first | exact HB.out | apply below_alloc | apply pw_below_drewN | apply below_drew1) | exact HB.out)) : P := h
theorem z17_4 {P : Prop} (h : P := by repeat (first | (with_reducible first | exact HB.out | apply below_alloc | apply pw_below_drewN | apply below_drew1 | refine below_set ?_ GE546.out) | exact HB.out)) : P := h
theorem z17_6 {P : Prop} (h : P := by (with_reducible repeat (first | refine blk_drewN ?_ _ | refine blk_drew ?_ | refine blk_alloc ?_ _)); exact BK546.out) : P := h
theorem z17_8 {P : Prop} (h : P := by repeat (first | (with_reducible first | exact HB.out | apply below_alloc | apply pw_below_drewN | apply below_drew1 | refine below_set ?_ GE546.out | refine below_set ?_ GE561.out) | exact HB.out)) : P := h
theorem z17_10 {P : Prop} (h : P := by (with_reducible repeat (first | apply Kd.R_alloc | apply Kd.R_drewN | apply Kd.R_drew)); exact HO550.out) : P := h
theorem z17_12 {P : Prop} (h : P := by rw [hw]; exact (by (with_reducible repeat (first | refine blk_drewN ?_ _ | refine blk_drew ?_ | refine blk_alloc ?_ _)); refine blk_far ?_ NB546_561.out _; (with_reducible repeat (first | refine blk_drewN ?_ _ | refine blk_drew ?_ | refine blk_alloc ?_ _)); refine blk_far ?_ NB546_561.out _; (with_reducible repeat (first | refine blk_drewN ?_ _ | refine blk_drew ?_ | refine blk_alloc ?_ _)); refine blk_far ?_ NB546_561.out _; (with_reducible repeat (first | refine blk_drewN ?_ _ | refine blk_drew ?_ | refine blk_alloc ?_ _)); refine blk_far ?_ NB546_561.out _; (with_reducible repeat (first | refine blk_drewN ?_ _ | refine blk_drew ?_ | refine blk_alloc ?_ _)); exact BK546.out)) : P := h
theorem z17_14 {P : Prop} (h : P := by (with_reducible repeat (first | apply Kd.R_alloc | apply Kd.R_drewN | apply Kd.R_drew)); exact HO557.out) : P := h
theorem z17_15 {P : Prop} (h : P := by first | (go_simp; done) | (go_simp; rfl)) : P := h
theorem z17_16 {P : Prop} (h : P := by kernel_rfl) : P := h
theorem z17_18 {P : Prop} (h : P := by (with_reducible repeat (first | refine blk_drewN ?_ _ | refine blk_drew ?_ | refine blk_alloc ?_ _)); exact BK561.out) : P := h
theorem z17_20 {P : Prop} (h : P := by repeat (first | exact (Kd.R_reads' HO557.out).2.2 | (with_reducible refine Kd.C_alloc ?_ _) | (with_reducible refine Kd.C_drewN ?_ _) | (with_reducible refine Kd.C_drew ?_))) : P := h
theorem z17_23 {P : Prop} (h : P := by exact HC0_0.out) : P := h
theorem z17_27 {P : Prop} (h : P := by repeat (first | exact (Kd.R_reads' HO550.out).2.2 | (with_reducible refine Kd.C_alloc ?_ _) | (with_reducible refine Kd.C_drewN ?_ _) | (with_reducible refine Kd.C_drew ?_))) : P := h
theorem z17_28 {P : Prop} (h : P := by rw [hg]; exact (below_size z17_2)) : P := h
theorem z17_30 {P : Prop} (h : P := by rw [hg]; exact Nat.ne_of_lt (blk_lt (g := gb546) (o := .cells #[.slice A0_0 l0_0.length c0_0, .int .i64 a0_1, .int .i64 a0_2, .int .i64 a0_3] 26 (0, 0)) z17_6)) : P := h
theorem z17_32 {P : Prop} (h : P := by rw [hg]; exact Nat.ne_of_gt (blk_lt (g := gb546) (o := .cells #[.slice A0_0 l0_0.length c0_0, .int .i64 a0_1, .int .i64 a0_2, .int .i64 a0_3] 26 (0, 0)) z17_6)) : P := h
def laws_FnExactTaskBound.f (k : Nat) (l0_0 : List (S58)) (a0_1 : Int) (a0_2 : Int) (a0_3 : Int) : Option (Bool) := (laws_szTask.f l0_0 a0_1 a0_2 a0_3 1048576).bind fun t547 => (if t547 < 0 then (some true) else ((laws_toTask.f k l0_0 a0_1 a0_2 a0_3).bind fun bt548 => ((spec_TaskBound.f k bt548.1 bt548.2.1 bt548.2.2.1 bt548.2.2.2).bind fun t554 => ((laws_toTask.f k l0_0 a0_1 a0_2 a0_3).bind fun bt555 => ((impl_TaskBound.f k bt555.1 bt555.2.1 bt555.2.2.1 bt555.2.2.2).bind fun t562 => (if t562 = t554 then ((laws_toTask.f k l0_0 a0_1 a0_2 a0_3).bind fun bt563 => ((laws_eqTask.f k bt555.1 bt555.2.1 bt555.2.2.1 bt555.2.2.2 bt563.1 bt563.2.1 bt563.2.2.1 bt563.2.2.2).bind fun t569 => (if t569 = true then (some true) else (some false)))) else (some false)))))))
set_option maxHeartbeats 8000000 in
set_option maxRecDepth 100000 in
theorem laws_FnExactTaskBound.calls (k : Nat) (A0_0 : Option Addr) (c0_0 : Nat) (l0_0 : List (S58)) (a0_1 : Int) (a0_2 : Int) (a0_3 : Int) (r : Bool) (w : World) (hr0_0 : Kd.C k58 w A0_0 l0_0.length l0_0) (hc0_0 : l0_0.length ≤ c0_0) (h : laws_FnExactTaskBound.f k l0_0 a0_1 a0_2 a0_3 = some r) :
  Calls Try.prog 4 #[.agg #[.slice A0_0 l0_0.length c0_0, .int .i64 a0_1, .int .i64 a0_2, .int .i64 a0_3]] w fun e w' => e = .returned (.bool r) ∧ Below w.heap.size w w' := by
 have hu26 := Try.underlying26
 have hu32 := Try.underlying32
 have HR0_0 := Aside0.mk hr0_0
 have HC0_0 := Aside0.mk hc0_0
 clear hr0_0 hc0_0
 have HB := Aside0.mk (Below.refl w.heap.size w)
 have H : ((laws_szTask.f l0_0 a0_1 a0_2 a0_3 1048576).bind fun t547 => (if t547 < 0 then (some true) else ((laws_toTask.f k l0_0 a0_1 a0_2 a0_3).bind fun bt548 => ((spec_TaskBound.f k bt548.1 bt548.2.1 bt548.2.2.1 bt548.2.2.2).bind fun t554 => ((laws_toTask.f k l0_0 a0_1 a0_2 a0_3).bind fun bt555 => ((impl_TaskBound.f k bt555.1 bt555.2.1 bt555.2.2.1 bt555.2.2.2).bind fun t562 => (if t562 = t554 then ((laws_toTask.f k l0_0 a0_1 a0_2 a0_3).bind fun bt563 => ((laws_eqTask.f k bt555.1 bt555.2.1 bt555.2.2.1 bt555.2.2.2 bt563.1 bt563.2.1 bt563.2.2.1 bt563.2.2.2).bind fun t569 => (if t569 = true then (some true) else (some false)))) else (some false)))))))) = some r := h
 clear h
 replace H := Option.bind_eq_some_iff.mp H
 obtain ⟨t547, A20, H⟩ := H
 replace H : (if t547 < 0 then (some true) else ((laws_toTask.f k l0_0 a0_1 a0_2 a0_3).bind fun bt548 => ((spec_TaskBound.f k bt548.1 bt548.2.1 bt548.2.2.1 bt548.2.2.2).bind fun t554 => ((laws_toTask.f k l0_0 a0_1 a0_2 a0_3).bind fun bt555 => ((impl_TaskBound.f k bt555.1 bt555.2.1 bt555.2.2.1 bt555.2.2.2).bind fun t562 => (if t562 = t554 then ((laws_toTask.f k l0_0 a0_1 a0_2 a0_3).bind fun bt563 => ((laws_eqTask.f k bt555.1 bt555.2.1 bt555.2.2.1 bt555.2.2.2 bt563.1 bt563.2.1 bt563.2.2.1 bt563.2.2.2).bind fun t569 => (if t569 = true then (some true) else (some false)))) else (some false))))))) = some r := H
 have A2 := Aside0.mk A20
 clear A20
 by_cases c3 : t547 < 0
 ·rw [if_pos c3] at H
  have c3b0 : decide (t547 < 0) = true := decide_eq_true c3
  clear c3
  obtain rfl := Option.some.inj H
  go_enter Try.func4, Try.ntmps4
  go_wp2_with (first | ((with_reducible refine gate_dst (N := 1) rfl ?_); refine box_event ?hg (N := 1) ?hd (cs := #[.slice A0_0 l0_0.length c0_0, .int .i64 a0_1, .int .i64 a0_2, .int .i64 a0_3]) (t := 26) ?hr ?_; (case hd => rfl); (case hg => rfl); (case hr => exact z17_15); intro gb546 hg w4 hbox hb; have n0_ := Aside0.mk (below_step z17_2 hb); have n1_ := Aside0.mk (hbox); have n2_ := Aside0.mk ((z17_28 : w.heap.size ≤ gb546)); have n3_ := Aside0.mk ((z17_28 : w.heap.size ≤ gb546)); clear HB; have HB := n0_; have BK546 := n1_; have GW546 := n2_; have GE546 := n3_; clear n0_ n1_ n2_ n3_; clear hb hbox hg; have hcz5_0 : w4.cell? ⟨gb546, 0, none⟩ = some (.slice A0_0 l0_0.length c0_0) := (blk_cell BK546.out 0).trans rfl; have hcz5_1 : w4.cell? ⟨gb546, 1, none⟩ = some (.int .i64 a0_1) := (blk_cell BK546.out 1).trans rfl; have hcz5_2 : w4.cell? ⟨gb546, 2, none⟩ = some (.int .i64 a0_2) := (blk_cell BK546.out 2).trans rfl; have hcz5_3 : w4.cell? ⟨gb546, 3, none⟩ = some (.int .i64 a0_3) := (blk_cell BK546.out 3).trans rfl; have hfz5_0 := blk_frozen BK546.out 0; have hfz5_1 := blk_frozen BK546.out 1; have hfz5_2 := blk_frozen BK546.out 2; have hfz5_3 := blk_frozen BK546.out 3) | ((with_reducible refine gate_callee (f := 6) rfl ?_); refine goesL_ (some 9) rfl rfl Try.func6 z17_16 rfl #[.agg #[.slice A0_0 l0_0.length c0_0, .int .i64 a0_1, .int .i64 a0_2, .int .i64 a0_3], .int .i64 1048576] rfl z17_0 ?_; (with_reducible refine (laws_szTask.calls _ _ l0_0 a0_1 a0_2 a0_3 1048576 t547 _ ?side1 ?side2 A2.out).mono ?_); (case side1 => exact z17_1); (case side2 => exact z17_23); rintro e w6 ⟨rfl, hb⟩; refine ⟨_, rfl, ?_⟩; have n0_ := Aside0.mk (blk_below (g := gb546) (o := .cells #[.slice A0_0 l0_0.length c0_0, .int .i64 a0_1, .int .i64 a0_2, .int .i64 a0_3] 26 (0, 0)) z17_6 hb); have n1_ := Aside0.mk (below_step z17_4 hb); clear BK546; clear HB; have BK546 := n0_; have HB := n1_; clear n0_ n1_; (try clear hb); (try clear hb2); (try clear hk); (try clear hi)))
  go_ret
  exact ⟨by first | rfl | (simp [errW_none, errW_some] <;> rfl) | (simp [*, errW_none, errW_some] <;> rfl) | (simp [*, errW_none, errW_some, i64_w]; done), by repeat (first | (with_reducible first | exact HB.out | apply below_alloc | apply pw_below_drewN | apply below_drew1 | refine below_set ?_ GE546.out) | exact HB.out)⟩
 ·rw [if_neg c3] at H
  have c3b0 : decide (t547 < 0) = false := decide_eq_false c3
  clear c3
  replace H := Option.bind_eq_some_iff.mp H
  obtain ⟨⟨t548, t551, t552, t553⟩, A70, H⟩ := H
  replace H : ((spec_TaskBound.f k t548 t551 t552 t553).bind fun t554 => ((laws_toTask.f k l0_0 a0_1 a0_2 a0_3).bind fun bt555 => ((impl_TaskBound.f k bt555.1 bt555.2.1 bt555.2.2.1 bt555.2.2.2).bind fun t562 => (if t562 = t554 then ((laws_toTask.f k l0_0 a0_1 a0_2 a0_3).bind fun bt563 => ((laws_eqTask.f k bt555.1 bt555.2.1 bt555.2.2.1 bt555.2.2.2 bt563.1 bt563.2.1 bt563.2.2.1 bt563.2.2.2).bind fun t569 => (if t569 = true then (some true) else (some false)))) else (some false))))) = some r := H
  have A7 := Aside0.mk A70
  clear A70
  replace H := Option.bind_eq_some_iff.mp H
  obtain ⟨t554, A80, H⟩ := H
  replace H : ((laws_toTask.f k l0_0 a0_1 a0_2 a0_3).bind fun bt555 => ((impl_TaskBound.f k bt555.1 bt555.2.1 bt555.2.2.1 bt555.2.2.2).bind fun t562 => (if t562 = t554 then ((laws_toTask.f k l0_0 a0_1 a0_2 a0_3).bind fun bt563 => ((laws_eqTask.f k bt555.1 bt555.2.1 bt555.2.2.1 bt555.2.2.2 bt563.1 bt563.2.1 bt563.2.2.1 bt563.2.2.2).bind fun t569 => (if t569 = true then (some true) else (some false)))) else (some false)))) = some r := H
  have A8 := Aside0.mk A80
  clear A80
  replace H := Option.bind_eq_some_iff.mp H
  obtain ⟨⟨t555, t558, t559, t560⟩, A90, H⟩ := H
  replace H : ((impl_TaskBound.f k t555 t558 t559 t560).bind fun t562 => (if t562 = t554 then ((laws_toTask.f k l0_0 a0_1 a0_2 a0_3).bind fun bt563 => ((laws_eqTask.f k t555 t558 t559 t560 bt563.1 bt563.2.1 bt563.2.2.1 bt563.2.2.2).bind fun t569 => (if t569 = true then (some true) else (some false)))) else (some false))) = some r := H
  have A9 := Aside0.mk A90
  clear A90
  replace H := Option.bind_eq_some_iff.mp H
  obtain ⟨t562, A100, H⟩ := H
  replace H : (if t562 = t554 then ((laws_toTask.f k l0_0 a0_1 a0_2 a0_3).bind fun bt563 => ((laws_eqTask.f k t555 t558 t559 t560 bt563.1 bt563.2.1 bt563.2.2.1 bt563.2.2.2).bind fun t569 => (if t569 = true then (some true) else (some false)))) else (some false)) = some r := H
  have A10 := Aside0.mk A100
  clear A100
  by_cases c11 : t562 = t554
  ·rw [if_pos c11] at H
   have c11b0 : (t562 == t554) = true := beq_iff_eq.mpr c11
   have c11b1 : (t562 != t554) = false := bne_eq_false_iff_eq.mpr c11
   clear c11
   replace H := Option.bind_eq_some_iff.mp H
   obtain ⟨⟨t563, t566, t567, t568⟩, A120, H⟩ := H
   replace H : ((laws_eqTask.f k t555 t558 t559 t560 t563 t566 t567 t568).bind fun t569 => (if t569 = true then (some true) else (some false))) = some r := H
   have A12 := Aside0.mk A120
   clear A120
   replace H := Option.bind_eq_some_iff.mp H
   obtain ⟨t569, A130, H⟩ := H
   replace H : (if t569 = true then (some true) else (some false)) = some r := H
   have A13 := Aside0.mk A130
   clear A130
   by_cases c14 : t569 = true
   ·subst c14
    have H1 : (some true) = some r := by rw [if_pos rfl] at H; exact H
    clear H
    have H := H1
    clear H1
    obtain rfl := Option.some.inj H
    go_enter Try.func4, Try.ntmps4
    try go_wp2_with (first | ((with_reducible refine gate_dst (N := 1) rfl ?_); refine box_event ?hg (N := 1) ?hd (cs := #[.slice A0_0 l0_0.length c0_0, .int .i64 a0_1, .int .i64 a0_2, .int .i64 a0_3]) (t := 26) ?hr ?_; (case hd => rfl); (case hg => rfl); (case hr => exact z17_15); intro gb546 hg w15 hbox hb; have n0_ := Aside0.mk (below_step z17_2 hb); have n1_ := Aside0.mk (hbox); have n2_ := Aside0.mk ((z17_28 : w.heap.size ≤ gb546)); have n3_ := Aside0.mk ((z17_28 : w.heap.size ≤ gb546)); clear HB; have HB := n0_; have BK546 := n1_; have GW546 := n2_; have GE546 := n3_; clear n0_ n1_ n2_ n3_; clear hb hbox hg; have hcz16_0 : w15.cell? ⟨gb546, 0, none⟩ = some (.slice A0_0 l0_0.length c0_0) := (blk_cell BK546.out 0).trans rfl; have hcz16_1 : w15.cell? ⟨gb546, 1, none⟩ = some (.int .i64 a0_1) := (blk_cell BK546.out 1).trans rfl; have hcz16_2 : w15.cell? ⟨gb546, 2, none⟩ = some (.int .i64 a0_2) := (blk_cell BK546.out 2).trans rfl; have hcz16_3 : w15.cell? ⟨gb546, 3, none⟩ = some (.int .i64 a0_3) := (blk_cell BK546.out 3).trans rfl; have hfz16_0 := blk_frozen BK546.out 0; have hfz16_1 := blk_frozen BK546.out 1; have hfz16_2 := blk_frozen BK546.out 2; have hfz16_3 := blk_frozen BK546.out 3) | ((with_reducible refine gate_callee (f := 6) rfl ?_); refine goesL_ (some 9) rfl rfl Try.func6 z17_16 rfl #[.agg #[.slice A0_0 l0_0.length c0_0, .int .i64 a0_1, .int .i64 a0_2, .int .i64 a0_3], .int .i64 1048576] rfl z17_0 ?_; (with_reducible refine (laws_szTask.calls _ _ l0_0 a0_1 a0_2 a0_3 1048576 t547 _ ?side1 ?side2 A2.out).mono ?_); (case side1 => exact z17_1); (case side2 => exact z17_23); rintro e w17 ⟨rfl, hb⟩; refine ⟨_, rfl, ?_⟩; have n0_ := Aside0.mk (blk_below (g := gb546) (o := .cells #[.slice A0_0 l0_0.length c0_0, .int .i64 a0_1, .int .i64 a0_2, .int .i64 a0_3] 26 (0, 0)) z17_6 hb); have n1_ := Aside0.mk (below_step z17_4 hb); clear BK546; clear HB; have BK546 := n0_; have HB := n1_; clear n0_ n1_; (try clear hb); (try clear hb2); (try clear hk); (try clear hi); have hcz18_0 : w17.cell? ⟨gb546, 0, none⟩ = some (.slice A0_0 l0_0.length c0_0) := (blk_cell BK546.out 0).trans rfl; have hcz18_1 : w17.cell? ⟨gb546, 1, none⟩ = some (.int .i64 a0_1) := (blk_cell BK546.out 1).trans rfl; have hcz18_2 : w17.cell? ⟨gb546, 2, none⟩ = some (.int .i64 a0_2) := (blk_cell BK546.out 2).trans rfl; have hcz18_3 : w17.cell? ⟨gb546, 3, none⟩ = some (.int .i64 a0_3) := (blk_cell BK546.out 3).trans rfl; have hfz18_0 := blk_frozen BK546.out 0; have hfz18_1 := blk_frozen BK546.out 1; have hfz18_2 := blk_frozen BK546.out 2; have hfz18_3 := blk_frozen BK546.out 3) | ((with_reducible refine gate_callee (f := 8) rfl ?_); refine goesL_ (some 13) rfl rfl Try.func8 z17_16 rfl #[.agg #[.slice A0_0 l0_0.length c0_0, .int .i64 a0_1, .int .i64 a0_2, .int .i64 a0_3]] rfl z17_0 ?_; (with_reducible refine (laws_toTask.calls k _ _ l0_0 a0_1 a0_2 a0_3 t548 t551 t552 t553 _ ?side1 ?side2 A7.out).mono ?_); (case side1 => exact z17_1); (case side2 => exact z17_23); rintro e w19 ⟨v549, rfl, ho0, hb⟩; refine ⟨_, rfl, ?_⟩; have n0_ := Aside0.mk (Kd.R_lower ho0 (below_size z17_4)); have n1_ := Aside0.mk (blk_below (g := gb546) (o := .cells #[.slice A0_0 l0_0.length c0_0, .int .i64 a0_1, .int .i64 a0_2, .int .i64 a0_3] 26 (0, 0)) z17_6 hb); have n2_ := Aside0.mk (below_step z17_4 hb); clear BK546; clear HB; have HO550 := n0_; have BK546 := n1_; have HB := n2_; clear n0_ n1_ n2_; (try clear hb); (try clear hb2); (try clear hk); (try clear hi); (try clear ho0); obtain ⟨Ao20, co20, eo20⟩ := Kd.R_slice HO550.out; subst eo20) | ((with_reducible refine gate_callee (f := 11) rfl ?_); refine goesL_ (some 14) rfl rfl Try.func11 z17_16 rfl #[.agg #[.slice Ao20 t548.length co20, .int .i64 t551, .int .i64 t552, .int .i64 t553]] rfl z17_0 ?_; (with_reducible refine (spec_TaskBound.calls k _ _ t548 t551 t552 t553 t554 _ ?side1 ?side2 A8.out).mono ?_); (case side1 => exact z17_27); (case side2 => exact (Kd.R_reads' HO550.out).2.1); rintro e w21 ⟨rfl, hb⟩; refine ⟨_, rfl, ?_⟩; have n0_ := Aside0.mk (Kd.R_below z17_10 hb); have n1_ := Aside0.mk (blk_below (g := gb546) (o := .cells #[.slice A0_0 l0_0.length c0_0, .int .i64 a0_1, .int .i64 a0_2, .int .i64 a0_3] 26 (0, 0)) z17_6 hb); have n2_ := Aside0.mk (below_step z17_4 hb); clear HO550; clear BK546; clear HB; have HO550 := n0_; have BK546 := n1_; have HB := n2_; clear n0_ n1_ n2_; (try clear hb); (try clear hb2); (try clear hk); (try clear hi); have hcz22_0 : w21.cell? ⟨gb546, 0, none⟩ = some (.slice A0_0 l0_0.length c0_0) := (blk_cell BK546.out 0).trans rfl; have hcz22_1 : w21.cell? ⟨gb546, 1, none⟩ = some (.int .i64 a0_1) := (blk_cell BK546.out 1).trans rfl; have hcz22_2 : w21.cell? ⟨gb546, 2, none⟩ = some (.int .i64 a0_2) := (blk_cell BK546.out 2).trans rfl; have hcz22_3 : w21.cell? ⟨gb546, 3, none⟩ = some (.int .i64 a0_3) := (blk_cell BK546.out 3).trans rfl; have hfz22_0 := blk_frozen BK546.out 0; have hfz22_1 := blk_frozen BK546.out 1; have hfz22_2 := blk_frozen BK546.out 2; have hfz22_3 := blk_frozen BK546.out 3) | ((with_reducible refine gate_callee (f := 8) rfl ?_); refine goesL_ (some 16) rfl rfl Try.func8 z17_16 rfl #[.agg #[.slice A0_0 l0_0.length c0_0, .int .i64 a0_1, .int .i64 a0_2, .int .i64 a0_3]] rfl z17_0 ?_; (with_reducible refine (laws_toTask.calls k _ _ l0_0 a0_1 a0_2 a0_3 t555 t558 t559 t560 _ ?side1 ?side2 A9.out).mono ?_); (case side1 => exact z17_1); (case side2 => exact z17_23); rintro e w23 ⟨v556, rfl, ho0, hb⟩; refine ⟨_, rfl, ?_⟩; have n0_ := Aside0.mk (Kd.R_elder' z17_10 (Kd.R_base ho0) hb); have n1_ := Aside0.mk (Kd.R_lower (Kd.R_new' ho0 (Kd.R_lt z17_10)) (below_size z17_4)); have n2_ := Aside0.mk (blk_below (g := gb546) (o := .cells #[.slice A0_0 l0_0.length c0_0, .int .i64 a0_1, .int .i64 a0_2, .int .i64 a0_3] 26 (0, 0)) z17_6 hb); have n3_ := Aside0.mk (below_step z17_4 hb); clear HO550; clear BK546; clear HB; have HO550 := n0_; have HO557 := n1_; have BK546 := n2_; have HB := n3_; clear n0_ n1_ n2_ n3_; (try clear hb); (try clear hb2); (try clear hk); (try clear hi); (try clear ho0)) | ((with_reducible refine gate_dst (N := 5) rfl ?_); refine box_event ?hg (N := 5) ?hd (cs := #[.slice none 0 0, .int .i64 0, .int .i64 0, .int .i64 0]) (t := 32) ?hr ?_; (case hd => rfl); (case hg => rfl); (case hr => exact z17_15); intro gb561 hg w24 hbox hb; have n0_ := Aside0.mk (Kd.R_below z17_10 hb); have n1_ := Aside0.mk (Kd.R_below z17_14 hb); have n2_ := Aside0.mk (blk_below (g := gb546) (o := .cells #[.slice A0_0 l0_0.length c0_0, .int .i64 a0_1, .int .i64 a0_2, .int .i64 a0_3] 26 (0, 0)) z17_6 hb); have n3_ := Aside0.mk (below_step z17_4 hb); have n4_ := Aside0.mk (hbox); have n5_ := Aside0.mk ((by rw [hg]; exact (below_size z17_4) : w.heap.size ≤ gb561)); have n6_ := Aside0.mk ((by rw [hg]; exact (below_size z17_4) : w.heap.size ≤ gb561)); have n7_ := Aside0.mk ((z17_30 : gb546 ≠ gb561)); have n8_ := Aside0.mk ((z17_32 : gb561 ≠ gb546)); clear HO550; clear HO557; clear BK546; clear HB; have HO550 := n0_; have HO557 := n1_; have BK546 := n2_; have HB := n3_; have BK561 := n4_; have GW561 := n5_; have GE561 := n6_; have NB546_561 := n7_; have NB561_546 := n8_; clear n0_ n1_ n2_ n3_ n4_ n5_ n6_ n7_ n8_; clear hb hbox hg; obtain ⟨Ao25, co25, eo25⟩ := Kd.R_slice HO557.out; subst eo25; have hnb26 := NB561_546.out; have hnc26 := NB546_561.out; have hcz27_0 : w24.cell? ⟨gb561, 0, none⟩ = some (.slice none 0 0) := (blk_cell BK561.out 0).trans rfl; have hcz27_1 : w24.cell? ⟨gb561, 1, none⟩ = some (.int .i64 0) := (blk_cell BK561.out 1).trans rfl; have hcz27_2 : w24.cell? ⟨gb561, 2, none⟩ = some (.int .i64 0) := (blk_cell BK561.out 2).trans rfl; have hcz27_3 : w24.cell? ⟨gb561, 3, none⟩ = some (.int .i64 0) := (blk_cell BK561.out 3).trans rfl; have hfz27_0 := blk_frozen BK561.out 0; have hfz27_1 := blk_frozen BK561.out 1; have hfz27_2 := blk_frozen BK561.out 2; have hfz27_3 := blk_frozen BK561.out 3) | ((with_reducible refine gate_store (t := 32) (p := 5) rfl ?_); refine store_event (t := 32) (p := 5) (v := ?vo_w28) (w1 := ((((w24.setCell ⟨gb561, 0, none⟩ (.slice Ao25 t555.length co25)).setCell ⟨gb561, 1, none⟩ (.int .i64 t558)).setCell ⟨gb561, 2, none⟩ (.int .i64 t559)).setCell ⟨gb561, 3, none⟩ (.int .i64 t560))) ?hg ?ho ?hn ?hr ?_; (case ho => rfl); (case hg => rfl); (case hn => rfl); (case hr => exact z17_15); intro w28 hw; have n0_ : Aside0 (Kd.R k55 55 w28 w.heap.size (fun k_ => some k_ ≠ (.slice Ao25 t555.length co25 : Value).ownBlock) (.slice Ao20 t548.length co20) t548) := ⟨(by rw [hw]; exact (by (with_reducible repeat (first | apply Kd.R_alloc | apply Kd.R_drewN | apply Kd.R_drew)); exact Kd.R_mono (Kd.R_far (p := ⟨gb561, 3, none⟩) (Kd.R_far (p := ⟨gb561, 2, none⟩) (Kd.R_far (p := ⟨gb561, 1, none⟩) (Kd.R_far (p := ⟨gb561, 0, none⟩) (Kd.R_types HO550.out BK561.out (by decide)) (fun _ hk => hk.2) (.slice Ao25 t555.length co25)) (fun _ hk => hk.2) (.int .i64 t558)) (fun _ hk => hk.2) (.int .i64 t559)) (fun _ hk => hk.2) (.int .i64 t560)) (fun _ hk => hk.1.2)))⟩; have n1_ : Aside0 (Kd.R k55 55 w28 w.heap.size (fun k_ => some k_ ≠ (.slice Ao20 t548.length co20 : Value).ownBlock) (.slice Ao25 t555.length co25) t555) := ⟨(by rw [hw]; exact (by (with_reducible repeat (first | apply Kd.R_alloc | apply Kd.R_drewN | apply Kd.R_drew)); exact Kd.R_mono (Kd.R_far (p := ⟨gb561, 3, none⟩) (Kd.R_far (p := ⟨gb561, 2, none⟩) (Kd.R_far (p := ⟨gb561, 1, none⟩) (Kd.R_far (p := ⟨gb561, 0, none⟩) (Kd.R_types HO557.out BK561.out (by decide)) (fun _ hk => hk.2) (.slice Ao25 t555.length co25)) (fun _ hk => hk.2) (.int .i64 t558)) (fun _ hk => hk.2) (.int .i64 t559)) (fun _ hk => hk.2) (.int .i64 t560)) (fun _ hk => hk.1.2)))⟩; have n2_ : Aside0 (w28.heap[gb546]? = some (.cells #[.slice A0_0 l0_0.length c0_0, .int .i64 a0_1, .int .i64 a0_2, .int .i64 a0_3] 26 (0, 0))) := ⟨z17_12⟩; have n3_ : Aside0 (w28.heap[gb561]? = some (.cells #[.slice Ao25 t555.length co25, .int .i64 t558, .int .i64 t559, .int .i64 t560] 32 (0, 0))) := ⟨(by rw [hw]; exact (by (with_reducible repeat (first | refine blk_drewN ?_ _ | refine blk_drew ?_ | refine blk_alloc ?_ _)); refine blk_put (cs := #[.slice Ao25 t555.length co25, .int .i64 t558, .int .i64 t559, .int .i64 0]) ?_ 3 _ rfl; (with_reducible repeat (first | refine blk_drewN ?_ _ | refine blk_drew ?_ | refine blk_alloc ?_ _)); refine blk_put (cs := #[.slice Ao25 t555.length co25, .int .i64 t558, .int .i64 0, .int .i64 0]) ?_ 2 _ rfl; (with_reducible repeat (first | refine blk_drewN ?_ _ | refine blk_drew ?_ | refine blk_alloc ?_ _)); refine blk_put (cs := #[.slice Ao25 t555.length co25, .int .i64 0, .int .i64 0, .int .i64 0]) ?_ 1 _ rfl; (with_reducible repeat (first | refine blk_drewN ?_ _ | refine blk_drew ?_ | refine blk_alloc ?_ _)); refine blk_put (cs := #[.slice none 0 0, .int .i64 0, .int .i64 0, .int .i64 0]) ?_ 0 _ rfl; (with_reducible repeat (first | refine blk_drewN ?_ _ | refine blk_drew ?_ | refine blk_alloc ?_ _)); exact BK561.out))⟩; have n4_ : Aside0 (Below w.heap.size w w28) := ⟨(by rw [hw]; exact z17_8)⟩; clear hw; clear HO550; clear HO557; clear BK546; clear BK561; clear HB; have HO550 := n0_; have HO557 := n1_; have BK546 := n2_; have BK561 := n3_; have HB := n4_; clear n0_ n1_ n2_ n3_ n4_; have hcz29_0 : w28.cell? ⟨gb561, 0, none⟩ = some (.slice Ao25 t555.length co25) := (blk_cell BK561.out 0).trans rfl; have hcz29_1 : w28.cell? ⟨gb561, 1, none⟩ = some (.int .i64 t558) := (blk_cell BK561.out 1).trans rfl; have hcz29_2 : w28.cell? ⟨gb561, 2, none⟩ = some (.int .i64 t559) := (blk_cell BK561.out 2).trans rfl; have hcz29_3 : w28.cell? ⟨gb561, 3, none⟩ = some (.int .i64 t560) := (blk_cell BK561.out 3).trans rfl; have hfz29_0 := blk_frozen BK561.out 0; have hfz29_1 := blk_frozen BK561.out 1; have hfz29_2 := blk_frozen BK561.out 2; have hfz29_3 := blk_frozen BK561.out 3) | ((with_reducible refine gate_callee (f := 12) rfl ?_); refine goesL_ (some 18) rfl rfl Try.func12 z17_16 rfl #[.agg #[.slice Ao25 t555.length co25, .int .i64 t558, .int .i64 t559, .int .i64 t560]] rfl z17_0 ?_; (with_reducible refine (impl_TaskBound.calls k _ _ t555 t558 t559 t560 t562 _ ?side1 ?side2 A10.out).mono ?_); (case side1 => exact z17_20); (case side2 => exact (Kd.R_reads' HO557.out).2.1); rintro e w30 ⟨rfl, hb⟩; refine ⟨_, rfl, ?_⟩; have n0_ := Aside0.mk (Kd.R_below z17_10 hb); have n1_ := Aside0.mk (Kd.R_below z17_14 hb); have n2_ := Aside0.mk (blk_below (g := gb546) (o := .cells #[.slice A0_0 l0_0.length c0_0, .int .i64 a0_1, .int .i64 a0_2, .int .i64 a0_3] 26 (0, 0)) z17_6 hb); have n3_ := Aside0.mk (blk_below (g := gb561) (o := .cells #[.slice Ao25 t555.length co25, .int .i64 t558, .int .i64 t559, .int .i64 t560] 32 (0, 0)) z17_18 hb); have n4_ := Aside0.mk (below_step z17_8 hb); clear HO550; clear HO557; clear BK546; clear BK561; clear HB; have HO550 := n0_; have HO557 := n1_; have BK546 := n2_; have BK561 := n3_; have HB := n4_; clear n0_ n1_ n2_ n3_ n4_; (try clear hb); (try clear hb2); (try clear hk); (try clear hi)))
    have n0_ := Aside0.mk (Kd.R_drew HO550.out)
    have n1_ := Aside0.mk (Kd.R_drew HO557.out)
    have n2_ := Aside0.mk (blk_drew BK546.out)
    have n3_ := Aside0.mk (blk_drew BK561.out)
    have n4_ := Aside0.mk (below_drew1 HB.out)
    clear HO550
    clear HO557
    clear BK546
    clear BK561
    clear HB
    have HO550 := n0_
    have HO557 := n1_
    have BK546 := n2_
    have BK561 := n3_
    have HB := n4_
    clear n0_ n1_ n2_ n3_ n4_
    refine start_ (n := 5) (S := fun w' => w'.cell? ⟨gb561, 0, none⟩ = some (.slice Ao25 t555.length co25) ∧ w'.cell? ⟨gb561, 1, none⟩ = some (.int .i64 t558) ∧ w'.cell? ⟨gb561, 2, none⟩ = some (.int .i64 t559) ∧ w'.cell? ⟨gb561, 3, none⟩ = some (.int .i64 t560) ∧ w'.cell? ⟨gb546, 0, none⟩ = some (.slice A0_0 l0_0.length c0_0) ∧ w'.cell? ⟨gb546, 1, none⟩ = some (.int .i64 a0_1) ∧ w'.cell? ⟨gb546, 2, none⟩ = some (.int .i64 a0_2) ∧ w'.cell? ⟨gb546, 3, none⟩ = some (.int .i64 a0_3)) (ds := []) #[false, false, false, false, false] z17_16 rfl rfl ⟨(blk_cell BK561.out 0).trans rfl, (blk_cell BK561.out 1).trans rfl, (blk_cell BK561.out 2).trans rfl, (blk_cell BK561.out 3).trans rfl, (blk_cell BK546.out 0).trans rfl, (blk_cell BK546.out 1).trans rfl, (blk_cell BK546.out 2).trans rfl, (blk_cell BK546.out 3).trans rfl⟩ (fun hHeld => ?_)
    generalize w30.drew = w31 at HO550 HO557 BK546 BK561 HB hHeld ⊢
    refine take_ (i := 0) (N := some 22) (v := ?_) (a' := ?_) #[true, false, false, false, false] rfl rfl z17_16 (fun _ _ _ h => h) (Or.inl ⟨by rfl, ?_⟩) hHeld ?_ ?_
    rotate_left
    ·rintro w' ⟨s0, s1, s2, s3, s4, s5, s6, s7⟩
     go_simp
     with_reducible rfl
    rotate_left
    ·simp only [Act.put, List.setIfInBounds_toArray, List.set_cons_zero, List.set_cons_succ, i64_w, i32_w]
     rfl
    refine take_ (i := 1) (N := some 23) (v := ?_) (a' := ?_) #[true, true, false, false, false] rfl rfl z17_16 (fun _ _ _ h => h) (Or.inl ⟨by rfl, ?_⟩) hHeld ?_ ?_
    rotate_left
    ·rintro w' ⟨s0, s1, s2, s3, s4, s5, s6, s7⟩
     go_simp
     with_reducible rfl
    rotate_left
    ·simp only [Act.put, List.setIfInBounds_toArray, List.set_cons_zero, List.set_cons_succ, i64_w, i32_w]
     rfl
    refine one_ (i := 2) (N := some 24) #[true, true, true, false, false] rfl rfl z17_16 (by decide) (fun K hK => ?_)
    refine goes_ Try.func8 z17_16 rfl #[.agg #[.slice A0_0 l0_0.length c0_0, .int .i64 a0_1, .int .i64 a0_2, .int .i64 a0_3]] (by rfl) rfl rfl z17_0 ?_
    with_reducible refine (laws_toTask.calls k _ _ l0_0 a0_1 a0_2 a0_3 t563 t566 t567 t568 _ ?side1 ?side2 A12.out).mono ?_
    (case side1 => exact z17_1)
    (case side2 => exact z17_23)
    rintro e w32 ⟨v564, rfl, ho0, hb⟩
    refine ⟨_, rfl, ?_⟩
    have n0_ := Aside0.mk (Kd.R_elder' z17_10 (Kd.R_base ho0) hb)
    have n1_ := Aside0.mk (Kd.R_elder' z17_14 (Kd.R_base ho0) hb)
    have n2_ := Aside0.mk (Kd.R_lower (Kd.R_new' (Kd.R_new' ho0 (Kd.R_lt z17_10)) (Kd.R_lt z17_14)) (below_size z17_8))
    have n3_ := Aside0.mk (blk_below (g := gb546) (o := .cells #[.slice A0_0 l0_0.length c0_0, .int .i64 a0_1, .int .i64 a0_2, .int .i64 a0_3] 26 (0, 0)) z17_6 hb)
    have n4_ := Aside0.mk (blk_below (g := gb561) (o := .cells #[.slice Ao25 t555.length co25, .int .i64 t558, .int .i64 t559, .int .i64 t560] 32 (0, 0)) z17_18 hb)
    have n5_ := Aside0.mk (below_step z17_8 hb)
    clear HO550
    clear HO557
    clear BK546
    clear BK561
    clear HB
    have HO550 := n0_
    have HO557 := n1_
    have HO565 := n2_
    have BK546 := n3_
    have BK561 := n4_
    have HB := n5_
    clear n0_ n1_ n2_ n3_ n4_ n5_
    (try clear hb)
    (try clear hb2)
    (try clear hk)
    (try clear hi)
    (try clear ho0)
    obtain ⟨Ao33, co33, eo33⟩ := Kd.R_slice HO565.out
    (first | subst eo33 | (injection eo33 with f1_ f2_ f3_; have f4_ := f1_.symm; have f5_ := f3_.symm; clear f1_ f2_ f3_; subst f4_; subst f5_))
    refine hK.out _ _ ⟨(blk_cell BK561.out 0).trans rfl, (blk_cell BK561.out 1).trans rfl, (blk_cell BK561.out 2).trans rfl, (blk_cell BK561.out 3).trans rfl, (blk_cell BK546.out 0).trans rfl, (blk_cell BK546.out 1).trans rfl, (blk_cell BK546.out 2).trans rfl, (blk_cell BK546.out 3).trans rfl⟩ (fun hHeld => ?_)
    clear hK K
    refine norm_ (a' := ?_) ?_ ?_
    rotate_left
    ·show Act.put _ (some 24) _ = _
     simp only [Act.put, List.setIfInBounds_toArray, List.set_cons_zero, List.set_cons_succ, i64_w, i32_w]
     rfl
    refine one_ (i := 3) (N := some 25) #[true, true, true, true, false] rfl rfl z17_16 (by decide) (fun K hK => ?_)
    refine goes_ Try.func10 z17_16 rfl #[.agg #[.slice Ao25 t555.length co25, .int .i64 t558, .int .i64 t559, .int .i64 t560], .agg #[.slice Ao33 t563.length co33, .int .i64 t566, .int .i64 t567, .int .i64 t568]] (by rfl) rfl rfl z17_0 ?_
    with_reducible refine (laws_eqTask.calls k _ _ t555 t558 t559 t560 _ _ t563 t566 t567 t568 true _ ?side1 ?side2 ?side3 ?side4 A13.out).mono ?_
    (case side1 => exact z17_20)
    (case side2 => exact (Kd.R_reads' HO557.out).2.1)
    (case side3 => repeat (first | exact (Kd.R_reads' HO565.out).2.2 | (with_reducible refine Kd.C_alloc ?_ _) | (with_reducible refine Kd.C_drewN ?_ _) | (with_reducible refine Kd.C_drew ?_)))
    (case side4 => exact (Kd.R_reads' HO565.out).2.1)
    rintro e w34 ⟨rfl, hb⟩
    refine ⟨_, rfl, ?_⟩
    have n0_ := Aside0.mk (Kd.R_below z17_10 hb)
    have n1_ := Aside0.mk (Kd.R_below z17_14 hb)
    have n2_ := Aside0.mk (Kd.R_below (by (with_reducible repeat (first | apply Kd.R_alloc | apply Kd.R_drewN | apply Kd.R_drew)); exact HO565.out) hb)
    have n3_ := Aside0.mk (blk_below (g := gb546) (o := .cells #[.slice A0_0 l0_0.length c0_0, .int .i64 a0_1, .int .i64 a0_2, .int .i64 a0_3] 26 (0, 0)) z17_6 hb)
    have n4_ := Aside0.mk (blk_below (g := gb561) (o := .cells #[.slice Ao25 t555.length co25, .int .i64 t558, .int .i64 t559, .int .i64 t560] 32 (0, 0)) z17_18 hb)
    have n5_ := Aside0.mk (below_step z17_8 hb)
    clear HO550
    clear HO557
    clear HO565
    clear BK546
    clear BK561
    clear HB
    have HO550 := n0_
    have HO557 := n1_
    have HO565 := n2_
    have BK546 := n3_
    have BK561 := n4_
    have HB := n5_
    clear n0_ n1_ n2_ n3_ n4_ n5_
    (try clear hb)
    (try clear hb2)
    (try clear hk)
    (try clear hi)
    refine hK.out _ _ ⟨(blk_cell BK561.out 0).trans rfl, (blk_cell BK561.out 1).trans rfl, (blk_cell BK561.out 2).trans rfl, (blk_cell BK561.out 3).trans rfl, (blk_cell BK546.out 0).trans rfl, (blk_cell BK546.out 1).trans rfl, (blk_cell BK546.out 2).trans rfl, (blk_cell BK546.out 3).trans rfl⟩ (fun hHeld => ?_)
    clear hK K
    refine norm_ (a' := ?_) ?_ ?_
    rotate_left
    ·show Act.put _ (some 25) _ = _
     simp only [Act.put, List.setIfInBounds_toArray, List.set_cons_zero, List.set_cons_succ, i64_w, i32_w]
     rfl
    refine pure_ (i := 4) (N := some 26) (v := ?_) (a' := ?_) #[true, true, true, true, true] rfl rfl z17_16 (fun _ _ _ h => h) (Or.inl ⟨by rfl, ?_⟩) ?_ ?_
    rotate_left
    ·intro w'
     go_simp
     with_reducible rfl
    rotate_left
    ·simp only [Act.put, List.setIfInBounds_toArray, List.set_cons_zero, List.set_cons_succ, i64_w, i32_w]
     rfl
    refine done_ z17_16 ?_
    try go_wp2
    go_ret
    exact ⟨by first | rfl | (simp [errW_none, errW_some] <;> rfl) | (simp [*, errW_none, errW_some] <;> rfl) | (simp [*, errW_none, errW_some, i64_w]; done), by repeat (first | (with_reducible first | exact HB.out | apply below_alloc | apply pw_below_drewN | apply below_drew1 | refine below_set ?_ GE546.out | refine below_set ?_ GE561.out) | exact HB.out)⟩
   ·replace c14 := Bool.eq_false_iff.mpr c14
    subst c14
    have H1 : (some false) = some r := by rw [if_neg (show ¬ (false = true) by decide)] at H; exact H
    clear H
    have H := H1
    clear H1
    obtain rfl := Option.some.inj H
    go_enter Try.func4, Try.ntmps4
    try go_wp2_with (first | ((with_reducible refine gate_dst (N := 1) rfl ?_); refine box_event ?hg (N := 1) ?hd (cs := #[.slice A0_0 l0_0.length c0_0, .int .i64 a0_1, .int .i64 a0_2, .int .i64 a0_3]) (t := 26) ?hr ?_; (case hd => rfl); (case hg => rfl); (case hr => exact z17_15); intro gb546 hg w35 hbox hb; have n0_ := Aside0.mk (below_step z17_2 hb); have n1_ := Aside0.mk (hbox); have n2_ := Aside0.mk ((z17_28 : w.heap.size ≤ gb546)); have n3_ := Aside0.mk ((z17_28 : w.heap.size ≤ gb546)); clear HB; have HB := n0_; have BK546 := n1_; have GW546 := n2_; have GE546 := n3_; clear n0_ n1_ n2_ n3_; clear hb hbox hg; have hcz36_0 : w35.cell? ⟨gb546, 0, none⟩ = some (.slice A0_0 l0_0.length c0_0) := (blk_cell BK546.out 0).trans rfl; have hcz36_1 : w35.cell? ⟨gb546, 1, none⟩ = some (.int .i64 a0_1) := (blk_cell BK546.out 1).trans rfl; have hcz36_2 : w35.cell? ⟨gb546, 2, none⟩ = some (.int .i64 a0_2) := (blk_cell BK546.out 2).trans rfl; have hcz36_3 : w35.cell? ⟨gb546, 3, none⟩ = some (.int .i64 a0_3) := (blk_cell BK546.out 3).trans rfl; have hfz36_0 := blk_frozen BK546.out 0; have hfz36_1 := blk_frozen BK546.out 1; have hfz36_2 := blk_frozen BK546.out 2; have hfz36_3 := blk_frozen BK546.out 3) | ((with_reducible refine gate_callee (f := 6) rfl ?_); refine goesL_ (some 9) rfl rfl Try.func6 z17_16 rfl #[.agg #[.slice A0_0 l0_0.length c0_0, .int .i64 a0_1, .int .i64 a0_2, .int .i64 a0_3], .int .i64 1048576] rfl z17_0 ?_; (with_reducible refine (laws_szTask.calls _ _ l0_0 a0_1 a0_2 a0_3 1048576 t547 _ ?side1 ?side2 A2.out).mono ?_); (case side1 => exact z17_1); (case side2 => exact z17_23); rintro e w37 ⟨rfl, hb⟩; refine ⟨_, rfl, ?_⟩; have n0_ := Aside0.mk (blk_below (g := gb546) (o := .cells #[.slice A0_0 l0_0.length c0_0, .int .i64 a0_1, .int .i64 a0_2, .int .i64 a0_3] 26 (0, 0)) z17_6 hb); have n1_ := Aside0.mk (below_step z17_4 hb); clear BK546; clear HB; have BK546 := n0_; have HB := n1_; clear n0_ n1_; (try clear hb); (try clear hb2); (try clear hk); (try clear hi); have hcz38_0 : w37.cell? ⟨gb546, 0, none⟩ = some (.slice A0_0 l0_0.length c0_0) := (blk_cell BK546.out 0).trans rfl; have hcz38_1 : w37.cell? ⟨gb546, 1, none⟩ = some (.int .i64 a0_1) := (blk_cell BK546.out 1).trans rfl; have hcz38_2 : w37.cell? ⟨gb546, 2, none⟩ = some (.int .i64 a0_2) := (blk_cell BK546.out 2).trans rfl; have hcz38_3 : w37.cell? ⟨gb546, 3, none⟩ = some (.int .i64 a0_3) := (blk_cell BK546.out 3).trans rfl; have hfz38_0 := blk_frozen BK546.out 0; have hfz38_1 := blk_frozen BK546.out 1; have hfz38_2 := blk_frozen BK546.out 2; have hfz38_3 := blk_frozen BK546.out 3) | ((with_reducible refine gate_callee (f := 8) rfl ?_); refine goesL_ (some 13) rfl rfl Try.func8 z17_16 rfl #[.agg #[.slice A0_0 l0_0.length c0_0, .int .i64 a0_1, .int .i64 a0_2, .int .i64 a0_3]] rfl z17_0 ?_; (with_reducible refine (laws_toTask.calls k _ _ l0_0 a0_1 a0_2 a0_3 t548 t551 t552 t553 _ ?side1 ?side2 A7.out).mono ?_); (case side1 => exact z17_1); (case side2 => exact z17_23); rintro e w39 ⟨v549, rfl, ho0, hb⟩; refine ⟨_, rfl, ?_⟩; have n0_ := Aside0.mk (Kd.R_lower ho0 (below_size z17_4)); have n1_ := Aside0.mk (blk_below (g := gb546) (o := .cells #[.slice A0_0 l0_0.length c0_0, .int .i64 a0_1, .int .i64 a0_2, .int .i64 a0_3] 26 (0, 0)) z17_6 hb); have n2_ := Aside0.mk (below_step z17_4 hb); clear BK546; clear HB; have HO550 := n0_; have BK546 := n1_; have HB := n2_; clear n0_ n1_ n2_; (try clear hb); (try clear hb2); (try clear hk); (try clear hi); (try clear ho0); obtain ⟨Ao40, co40, eo40⟩ := Kd.R_slice HO550.out; subst eo40) | ((with_reducible refine gate_callee (f := 11) rfl ?_); refine goesL_ (some 14) rfl rfl Try.func11 z17_16 rfl #[.agg #[.slice Ao40 t548.length co40, .int .i64 t551, .int .i64 t552, .int .i64 t553]] rfl z17_0 ?_; (with_reducible refine (spec_TaskBound.calls k _ _ t548 t551 t552 t553 t554 _ ?side1 ?side2 A8.out).mono ?_); (case side1 => exact z17_27); (case side2 => exact (Kd.R_reads' HO550.out).2.1); rintro e w41 ⟨rfl, hb⟩; refine ⟨_, rfl, ?_⟩; have n0_ := Aside0.mk (Kd.R_below z17_10 hb); have n1_ := Aside0.mk (blk_below (g := gb546) (o := .cells #[.slice A0_0 l0_0.length c0_0, .int .i64 a0_1, .int .i64 a0_2, .int .i64 a0_3] 26 (0, 0)) z17_6 hb); have n2_ := Aside0.mk (below_step z17_4 hb); clear HO550; clear BK546; clear HB; have HO550 := n0_; have BK546 := n1_; have HB := n2_; clear n0_ n1_ n2_; (try clear hb); (try clear hb2); (try clear hk); (try clear hi); have hcz42_0 : w41.cell? ⟨gb546, 0, none⟩ = some (.slice A0_0 l0_0.length c0_0) := (blk_cell BK546.out 0).trans rfl; have hcz42_1 : w41.cell? ⟨gb546, 1, none⟩ = some (.int .i64 a0_1) := (blk_cell BK546.out 1).trans rfl; have hcz42_2 : w41.cell? ⟨gb546, 2, none⟩ = some (.int .i64 a0_2) := (blk_cell BK546.out 2).trans rfl; have hcz42_3 : w41.cell? ⟨gb546, 3, none⟩ = some (.int .i64 a0_3) := (blk_cell BK546.out 3).trans rfl; have hfz42_0 := blk_frozen BK546.out 0; have hfz42_1 := blk_frozen BK546.out 1; have hfz42_2 := blk_frozen BK546.out 2; have hfz42_3 := blk_frozen BK546.out 3) | ((with_reducible refine gate_callee (f := 8) rfl ?_); refine goesL_ (some 16) rfl rfl Try.func8 z17_16 rfl #[.agg #[.slice A0_0 l0_0.length c0_0, .int .i64 a0_1, .int .i64 a0_2, .int .i64 a0_3]] rfl z17_0 ?_; (with_reducible refine (laws_toTask.calls k _ _ l0_0 a0_1 a0_2 a0_3 t555 t558 t559 t560 _ ?side1 ?side2 A9.out).mono ?_); (case side1 => exact z17_1); (case side2 => exact z17_23); rintro e w43 ⟨v556, rfl, ho0, hb⟩; refine ⟨_, rfl, ?_⟩; have n0_ := Aside0.mk (Kd.R_elder' z17_10 (Kd.R_base ho0) hb); have n1_ := Aside0.mk (Kd.R_lower (Kd.R_new' ho0 (Kd.R_lt z17_10)) (below_size z17_4)); have n2_ := Aside0.mk (blk_below (g := gb546) (o := .cells #[.slice A0_0 l0_0.length c0_0, .int .i64 a0_1, .int .i64 a0_2, .int .i64 a0_3] 26 (0, 0)) z17_6 hb); have n3_ := Aside0.mk (below_step z17_4 hb); clear HO550; clear BK546; clear HB; have HO550 := n0_; have HO557 := n1_; have BK546 := n2_; have HB := n3_; clear n0_ n1_ n2_ n3_; (try clear hb); (try clear hb2); (try clear hk); (try clear hi); (try clear ho0)) | ((with_reducible refine gate_dst (N := 5) rfl ?_); refine box_event ?hg (N := 5) ?hd (cs := #[.slice none 0 0, .int .i64 0, .int .i64 0, .int .i64 0]) (t := 32) ?hr ?_; (case hd => rfl); (case hg => rfl); (case hr => exact z17_15); intro gb561 hg w44 hbox hb; have n0_ := Aside0.mk (Kd.R_below z17_10 hb); have n1_ := Aside0.mk (Kd.R_below z17_14 hb); have n2_ := Aside0.mk (blk_below (g := gb546) (o := .cells #[.slice A0_0 l0_0.length c0_0, .int .i64 a0_1, .int .i64 a0_2, .int .i64 a0_3] 26 (0, 0)) z17_6 hb); have n3_ := Aside0.mk (below_step z17_4 hb); have n4_ := Aside0.mk (hbox); have n5_ := Aside0.mk ((by rw [hg]; exact (below_size z17_4) : w.heap.size ≤ gb561)); have n6_ := Aside0.mk ((by rw [hg]; exact (below_size z17_4) : w.heap.size ≤ gb561)); have n7_ := Aside0.mk ((z17_30 : gb546 ≠ gb561)); have n8_ := Aside0.mk ((z17_32 : gb561 ≠ gb546)); clear HO550; clear HO557; clear BK546; clear HB; have HO550 := n0_; have HO557 := n1_; have BK546 := n2_; have HB := n3_; have BK561 := n4_; have GW561 := n5_; have GE561 := n6_; have NB546_561 := n7_; have NB561_546 := n8_; clear n0_ n1_ n2_ n3_ n4_ n5_ n6_ n7_ n8_; clear hb hbox hg; obtain ⟨Ao45, co45, eo45⟩ := Kd.R_slice HO557.out; subst eo45; have hnb46 := NB561_546.out; have hnc46 := NB546_561.out; have hcz47_0 : w44.cell? ⟨gb561, 0, none⟩ = some (.slice none 0 0) := (blk_cell BK561.out 0).trans rfl; have hcz47_1 : w44.cell? ⟨gb561, 1, none⟩ = some (.int .i64 0) := (blk_cell BK561.out 1).trans rfl; have hcz47_2 : w44.cell? ⟨gb561, 2, none⟩ = some (.int .i64 0) := (blk_cell BK561.out 2).trans rfl; have hcz47_3 : w44.cell? ⟨gb561, 3, none⟩ = some (.int .i64 0) := (blk_cell BK561.out 3).trans rfl; have hfz47_0 := blk_frozen BK561.out 0; have hfz47_1 := blk_frozen BK561.out 1; have hfz47_2 := blk_frozen BK561.out 2; have hfz47_3 := blk_frozen BK561.out 3) | ((with_reducible refine gate_store (t := 32) (p := 5) rfl ?_); refine store_event (t := 32) (p := 5) (v := ?vo_w48) (w1 := ((((w44.setCell ⟨gb561, 0, none⟩ (.slice Ao45 t555.length co45)).setCell ⟨gb561, 1, none⟩ (.int .i64 t558)).setCell ⟨gb561, 2, none⟩ (.int .i64 t559)).setCell ⟨gb561, 3, none⟩ (.int .i64 t560))) ?hg ?ho ?hn ?hr ?_; (case ho => rfl); (case hg => rfl); (case hn => rfl); (case hr => exact z17_15); intro w48 hw; have n0_ : Aside0 (Kd.R k55 55 w48 w.heap.size (fun k_ => some k_ ≠ (.slice Ao45 t555.length co45 : Value).ownBlock) (.slice Ao40 t548.length co40) t548) := ⟨(by rw [hw]; exact (by (with_reducible repeat (first | apply Kd.R_alloc | apply Kd.R_drewN | apply Kd.R_drew)); exact Kd.R_mono (Kd.R_far (p := ⟨gb561, 3, none⟩) (Kd.R_far (p := ⟨gb561, 2, none⟩) (Kd.R_far (p := ⟨gb561, 1, none⟩) (Kd.R_far (p := ⟨gb561, 0, none⟩) (Kd.R_types HO550.out BK561.out (by decide)) (fun _ hk => hk.2) (.slice Ao45 t555.length co45)) (fun _ hk => hk.2) (.int .i64 t558)) (fun _ hk => hk.2) (.int .i64 t559)) (fun _ hk => hk.2) (.int .i64 t560)) (fun _ hk => hk.1.2)))⟩; have n1_ : Aside0 (Kd.R k55 55 w48 w.heap.size (fun k_ => some k_ ≠ (.slice Ao40 t548.length co40 : Value).ownBlock) (.slice Ao45 t555.length co45) t555) := ⟨(by rw [hw]; exact (by (with_reducible repeat (first | apply Kd.R_alloc | apply Kd.R_drewN | apply Kd.R_drew)); exact Kd.R_mono (Kd.R_far (p := ⟨gb561, 3, none⟩) (Kd.R_far (p := ⟨gb561, 2, none⟩) (Kd.R_far (p := ⟨gb561, 1, none⟩) (Kd.R_far (p := ⟨gb561, 0, none⟩) (Kd.R_types HO557.out BK561.out (by decide)) (fun _ hk => hk.2) (.slice Ao45 t555.length co45)) (fun _ hk => hk.2) (.int .i64 t558)) (fun _ hk => hk.2) (.int .i64 t559)) (fun _ hk => hk.2) (.int .i64 t560)) (fun _ hk => hk.1.2)))⟩; have n2_ : Aside0 (w48.heap[gb546]? = some (.cells #[.slice A0_0 l0_0.length c0_0, .int .i64 a0_1, .int .i64 a0_2, .int .i64 a0_3] 26 (0, 0))) := ⟨z17_12⟩; have n3_ : Aside0 (w48.heap[gb561]? = some (.cells #[.slice Ao45 t555.length co45, .int .i64 t558, .int .i64 t559, .int .i64 t560] 32 (0, 0))) := ⟨(by rw [hw]; exact (by (with_reducible repeat (first | refine blk_drewN ?_ _ | refine blk_drew ?_ | refine blk_alloc ?_ _)); refine blk_put (cs := #[.slice Ao45 t555.length co45, .int .i64 t558, .int .i64 t559, .int .i64 0]) ?_ 3 _ rfl; (with_reducible repeat (first | refine blk_drewN ?_ _ | refine blk_drew ?_ | refine blk_alloc ?_ _)); refine blk_put (cs := #[.slice Ao45 t555.length co45, .int .i64 t558, .int .i64 0, .int .i64 0]) ?_ 2 _ rfl; (with_reducible repeat (first | refine blk_drewN ?_ _ | refine blk_drew ?_ | refine blk_alloc ?_ _)); refine blk_put (cs := #[.slice Ao45 t555.length co45, .int .i64 0, .int .i64 0, .int .i64 0]) ?_ 1 _ rfl; (with_reducible repeat (first | refine blk_drewN ?_ _ | refine blk_drew ?_ | refine blk_alloc ?_ _)); refine blk_put (cs := #[.slice none 0 0, .int .i64 0, .int .i64 0, .int .i64 0]) ?_ 0 _ rfl; (with_reducible repeat (first | refine blk_drewN ?_ _ | refine blk_drew ?_ | refine blk_alloc ?_ _)); exact BK561.out))⟩; have n4_ : Aside0 (Below w.heap.size w w48) := ⟨(by rw [hw]; exact z17_8)⟩; clear hw; clear HO550; clear HO557; clear BK546; clear BK561; clear HB; have HO550 := n0_; have HO557 := n1_; have BK546 := n2_; have BK561 := n3_; have HB := n4_; clear n0_ n1_ n2_ n3_ n4_; have hcz49_0 : w48.cell? ⟨gb561, 0, none⟩ = some (.slice Ao45 t555.length co45) := (blk_cell BK561.out 0).trans rfl; have hcz49_1 : w48.cell? ⟨gb561, 1, none⟩ = some (.int .i64 t558) := (blk_cell BK561.out 1).trans rfl; have hcz49_2 : w48.cell? ⟨gb561, 2, none⟩ = some (.int .i64 t559) := (blk_cell BK561.out 2).trans rfl; have hcz49_3 : w48.cell? ⟨gb561, 3, none⟩ = some (.int .i64 t560) := (blk_cell BK561.out 3).trans rfl; have hfz49_0 := blk_frozen BK561.out 0; have hfz49_1 := blk_frozen BK561.out 1; have hfz49_2 := blk_frozen BK561.out 2; have hfz49_3 := blk_frozen BK561.out 3) | ((with_reducible refine gate_callee (f := 12) rfl ?_); refine goesL_ (some 18) rfl rfl Try.func12 z17_16 rfl #[.agg #[.slice Ao45 t555.length co45, .int .i64 t558, .int .i64 t559, .int .i64 t560]] rfl z17_0 ?_; (with_reducible refine (impl_TaskBound.calls k _ _ t555 t558 t559 t560 t562 _ ?side1 ?side2 A10.out).mono ?_); (case side1 => exact z17_20); (case side2 => exact (Kd.R_reads' HO557.out).2.1); rintro e w50 ⟨rfl, hb⟩; refine ⟨_, rfl, ?_⟩; have n0_ := Aside0.mk (Kd.R_below z17_10 hb); have n1_ := Aside0.mk (Kd.R_below z17_14 hb); have n2_ := Aside0.mk (blk_below (g := gb546) (o := .cells #[.slice A0_0 l0_0.length c0_0, .int .i64 a0_1, .int .i64 a0_2, .int .i64 a0_3] 26 (0, 0)) z17_6 hb); have n3_ := Aside0.mk (blk_below (g := gb561) (o := .cells #[.slice Ao45 t555.length co45, .int .i64 t558, .int .i64 t559, .int .i64 t560] 32 (0, 0)) z17_18 hb); have n4_ := Aside0.mk (below_step z17_8 hb); clear HO550; clear HO557; clear BK546; clear BK561; clear HB; have HO550 := n0_; have HO557 := n1_; have BK546 := n2_; have BK561 := n3_; have HB := n4_; clear n0_ n1_ n2_ n3_ n4_; (try clear hb); (try clear hb2); (try clear hk); (try clear hi)))
    have n0_ := Aside0.mk (Kd.R_drew HO550.out)
    have n1_ := Aside0.mk (Kd.R_drew HO557.out)
    have n2_ := Aside0.mk (blk_drew BK546.out)
    have n3_ := Aside0.mk (blk_drew BK561.out)
    have n4_ := Aside0.mk (below_drew1 HB.out)
    clear HO550
    clear HO557
    clear BK546
    clear BK561
    clear HB
    have HO550 := n0_
    have HO557 := n1_
    have BK546 := n2_
    have BK561 := n3_
    have HB := n4_
    clear n0_ n1_ n2_ n3_ n4_
    refine start_ (n := 5) (S := fun w' => w'.cell? ⟨gb561, 0, none⟩ = some (.slice Ao45 t555.length co45) ∧ w'.cell? ⟨gb561, 1, none⟩ = some (.int .i64 t558) ∧ w'.cell? ⟨gb561, 2, none⟩ = some (.int .i64 t559) ∧ w'.cell? ⟨gb561, 3, none⟩ = some (.int .i64 t560) ∧ w'.cell? ⟨gb546, 0, none⟩ = some (.slice A0_0 l0_0.length c0_0) ∧ w'.cell? ⟨gb546, 1, none⟩ = some (.int .i64 a0_1) ∧ w'.cell? ⟨gb546, 2, none⟩ = some (.int .i64 a0_2) ∧ w'.cell? ⟨gb546, 3, none⟩ = some (.int .i64 a0_3)) (ds := []) #[false, false, false, false, false] z17_16 rfl rfl ⟨(blk_cell BK561.out 0).trans rfl, (blk_cell BK561.out 1).trans rfl, (blk_cell BK561.out 2).trans rfl, (blk_cell BK561.out 3).trans rfl, (blk_cell BK546.out 0).trans rfl, (blk_cell BK546.out 1).trans rfl, (blk_cell BK546.out 2).trans rfl, (blk_cell BK546.out 3).trans rfl⟩ (fun hHeld => ?_)
    generalize w50.drew = w51 at HO550 HO557 BK546 BK561 HB hHeld ⊢
    refine take_ (i := 0) (N := some 22) (v := ?_) (a' := ?_) #[true, false, false, false, false] rfl rfl z17_16 (fun _ _ _ h => h) (Or.inl ⟨by rfl, ?_⟩) hHeld ?_ ?_
    rotate_left
    ·rintro w' ⟨s0, s1, s2, s3, s4, s5, s6, s7⟩
     go_simp
     with_reducible rfl
    rotate_left
    ·simp only [Act.put, List.setIfInBounds_toArray, List.set_cons_zero, List.set_cons_succ, i64_w, i32_w]
     rfl
    refine take_ (i := 1) (N := some 23) (v := ?_) (a' := ?_) #[true, true, false, false, false] rfl rfl z17_16 (fun _ _ _ h => h) (Or.inl ⟨by rfl, ?_⟩) hHeld ?_ ?_
    rotate_left
    ·rintro w' ⟨s0, s1, s2, s3, s4, s5, s6, s7⟩
     go_simp
     with_reducible rfl
    rotate_left
    ·simp only [Act.put, List.setIfInBounds_toArray, List.set_cons_zero, List.set_cons_succ, i64_w, i32_w]
     rfl
    refine one_ (i := 2) (N := some 24) #[true, true, true, false, false] rfl rfl z17_16 (by decide) (fun K hK => ?_)
    refine goes_ Try.func8 z17_16 rfl #[.agg #[.slice A0_0 l0_0.length c0_0, .int .i64 a0_1, .int .i64 a0_2, .int .i64 a0_3]] (by rfl) rfl rfl z17_0 ?_
    with_reducible refine (laws_toTask.calls k _ _ l0_0 a0_1 a0_2 a0_3 t563 t566 t567 t568 _ ?side1 ?side2 A12.out).mono ?_
    (case side1 => exact z17_1)
    (case side2 => exact z17_23)
    rintro e w52 ⟨v564, rfl, ho0, hb⟩
    refine ⟨_, rfl, ?_⟩
    have n0_ := Aside0.mk (Kd.R_elder' z17_10 (Kd.R_base ho0) hb)
    have n1_ := Aside0.mk (Kd.R_elder' z17_14 (Kd.R_base ho0) hb)
    have n2_ := Aside0.mk (Kd.R_lower (Kd.R_new' (Kd.R_new' ho0 (Kd.R_lt z17_10)) (Kd.R_lt z17_14)) (below_size z17_8))
    have n3_ := Aside0.mk (blk_below (g := gb546) (o := .cells #[.slice A0_0 l0_0.length c0_0, .int .i64 a0_1, .int .i64 a0_2, .int .i64 a0_3] 26 (0, 0)) z17_6 hb)
    have n4_ := Aside0.mk (blk_below (g := gb561) (o := .cells #[.slice Ao45 t555.length co45, .int .i64 t558, .int .i64 t559, .int .i64 t560] 32 (0, 0)) z17_18 hb)
    have n5_ := Aside0.mk (below_step z17_8 hb)
    clear HO550
    clear HO557
    clear BK546
    clear BK561
    clear HB
    have HO550 := n0_
    have HO557 := n1_
    have HO565 := n2_
    have BK546 := n3_
    have BK561 := n4_
    have HB := n5_
    clear n0_ n1_ n2_ n3_ n4_ n5_
    (try clear hb)
    (try clear hb2)
    (try clear hk)
    (try clear hi)
    (try clear ho0)
    obtain ⟨Ao53, co53, eo53⟩ := Kd.R_slice HO565.out
    (first | subst eo53 | (injection eo53 with f1_ f2_ f3_; have f4_ := f1_.symm; have f5_ := f3_.symm; clear f1_ f2_ f3_; subst f4_; subst f5_))
    refine hK.out _ _ ⟨(blk_cell BK561.out 0).trans rfl, (blk_cell BK561.out 1).trans rfl, (blk_cell BK561.out 2).trans rfl, (blk_cell BK561.out 3).trans rfl, (blk_cell BK546.out 0).trans rfl, (blk_cell BK546.out 1).trans rfl, (blk_cell BK546.out 2).trans rfl, (blk_cell BK546.out 3).trans rfl⟩ (fun hHeld => ?_)
    clear hK K
    refine norm_ (a' := ?_) ?_ ?_
    rotate_left
    ·show Act.put _ (some 24) _ = _
     simp only [Act.put, List.setIfInBounds_toArray, List.set_cons_zero, List.set_cons_succ, i64_w, i32_w]
     rfl
    refine one_ (i := 3) (N := some 25) #[true, true, true, true, false] rfl rfl z17_16 (by decide) (fun K hK => ?_)
    refine goes_ Try.func10 z17_16 rfl #[.agg #[.slice Ao45 t555.length co45, .int .i64 t558, .int .i64 t559, .int .i64 t560], .agg #[.slice Ao53 t563.length co53, .int .i64 t566, .int .i64 t567, .int .i64 t568]] (by rfl) rfl rfl z17_0 ?_
    with_reducible refine (laws_eqTask.calls k _ _ t555 t558 t559 t560 _ _ t563 t566 t567 t568 false _ ?side1 ?side2 ?side3 ?side4 A13.out).mono ?_
    (case side1 => exact z17_20)
    (case side2 => exact (Kd.R_reads' HO557.out).2.1)
    (case side3 => repeat (first | exact (Kd.R_reads' HO565.out).2.2 | (with_reducible refine Kd.C_alloc ?_ _) | (with_reducible refine Kd.C_drewN ?_ _) | (with_reducible refine Kd.C_drew ?_)))
    (case side4 => exact (Kd.R_reads' HO565.out).2.1)
    rintro e w54 ⟨rfl, hb⟩
    refine ⟨_, rfl, ?_⟩
    have n0_ := Aside0.mk (Kd.R_below z17_10 hb)
    have n1_ := Aside0.mk (Kd.R_below z17_14 hb)
    have n2_ := Aside0.mk (Kd.R_below (by (with_reducible repeat (first | apply Kd.R_alloc | apply Kd.R_drewN | apply Kd.R_drew)); exact HO565.out) hb)
    have n3_ := Aside0.mk (blk_below (g := gb546) (o := .cells #[.slice A0_0 l0_0.length c0_0, .int .i64 a0_1, .int .i64 a0_2, .int .i64 a0_3] 26 (0, 0)) z17_6 hb)
    have n4_ := Aside0.mk (blk_below (g := gb561) (o := .cells #[.slice Ao45 t555.length co45, .int .i64 t558, .int .i64 t559, .int .i64 t560] 32 (0, 0)) z17_18 hb)
    have n5_ := Aside0.mk (below_step z17_8 hb)
    clear HO550
    clear HO557
    clear HO565
    clear BK546
    clear BK561
    clear HB
    have HO550 := n0_
    have HO557 := n1_
    have HO565 := n2_
    have BK546 := n3_
    have BK561 := n4_
    have HB := n5_
    clear n0_ n1_ n2_ n3_ n4_ n5_
    (try clear hb)
    (try clear hb2)
    (try clear hk)
    (try clear hi)
    refine hK.out _ _ ⟨(blk_cell BK561.out 0).trans rfl, (blk_cell BK561.out 1).trans rfl, (blk_cell BK561.out 2).trans rfl, (blk_cell BK561.out 3).trans rfl, (blk_cell BK546.out 0).trans rfl, (blk_cell BK546.out 1).trans rfl, (blk_cell BK546.out 2).trans rfl, (blk_cell BK546.out 3).trans rfl⟩ (fun hHeld => ?_)
    clear hK K
    refine norm_ (a' := ?_) ?_ ?_
    rotate_left
    ·show Act.put _ (some 25) _ = _
     simp only [Act.put, List.setIfInBounds_toArray, List.set_cons_zero, List.set_cons_succ, i64_w, i32_w]
     rfl
    refine pure_ (i := 4) (N := some 26) (v := ?_) (a' := ?_) #[true, true, true, true, true] rfl rfl z17_16 (fun _ _ _ h => h) (Or.inl ⟨by rfl, ?_⟩) ?_ ?_
    rotate_left
    ·intro w'
     go_simp
     with_reducible rfl
    rotate_left
    ·simp only [Act.put, List.setIfInBounds_toArray, List.set_cons_zero, List.set_cons_succ, i64_w, i32_w]
     rfl
    refine done_ z17_16 ?_
    try go_wp2
    go_ret
    exact ⟨by first | rfl | (simp [errW_none, errW_some] <;> rfl) | (simp [*, errW_none, errW_some] <;> rfl) | (simp [*, errW_none, errW_some, i64_w]; done), by repeat (first | (with_reducible first | exact HB.out | apply below_alloc | apply pw_below_drewN | apply below_drew1 | refine below_set ?_ GE546.out | refine below_set ?_ GE561.out) | exact HB.out)⟩
  ·rw [if_neg c11] at H
   have c11b0 : (t562 == t554) = false := beq_eq_false_iff_ne.mpr c11
   have c11b1 : (t562 != t554) = true := bne_iff_ne.mpr c11
   obtain rfl := Option.some.inj H
   go_enter Try.func4, Try.ntmps4
   go_wp2_with (first | ((with_reducible refine gate_dst (N := 1) rfl ?_); refine box_event ?hg (N := 1) ?hd (cs := #[.slice A0_0 l0_0.length c0_0, .int .i64 a0_1, .int .i64 a0_2, .int .i64 a0_3]) (t := 26) ?hr ?_; (case hd => rfl); (case hg => rfl); (case hr => exact z17_15); intro gb546 hg w55 hbox hb; have n0_ := Aside0.mk (below_step z17_2 hb); have n1_ := Aside0.mk (hbox); have n2_ := Aside0.mk ((z17_28 : w.heap.size ≤ gb546)); have n3_ := Aside0.mk ((z17_28 : w.heap.size ≤ gb546)); clear HB; have HB := n0_; have BK546 := n1_; have GW546 := n2_; have GE546 := n3_; clear n0_ n1_ n2_ n3_; clear hb hbox hg; have hcz56_0 : w55.cell? ⟨gb546, 0, none⟩ = some (.slice A0_0 l0_0.length c0_0) := (blk_cell BK546.out 0).trans rfl; have hcz56_1 : w55.cell? ⟨gb546, 1, none⟩ = some (.int .i64 a0_1) := (blk_cell BK546.out 1).trans rfl; have hcz56_2 : w55.cell? ⟨gb546, 2, none⟩ = some (.int .i64 a0_2) := (blk_cell BK546.out 2).trans rfl; have hcz56_3 : w55.cell? ⟨gb546, 3, none⟩ = some (.int .i64 a0_3) := (blk_cell BK546.out 3).trans rfl; have hfz56_0 := blk_frozen BK546.out 0; have hfz56_1 := blk_frozen BK546.out 1; have hfz56_2 := blk_frozen BK546.out 2; have hfz56_3 := blk_frozen BK546.out 3) | ((with_reducible refine gate_callee (f := 6) rfl ?_); refine goesL_ (some 9) rfl rfl Try.func6 z17_16 rfl #[.agg #[.slice A0_0 l0_0.length c0_0, .int .i64 a0_1, .int .i64 a0_2, .int .i64 a0_3], .int .i64 1048576] rfl z17_0 ?_; (with_reducible refine (laws_szTask.calls _ _ l0_0 a0_1 a0_2 a0_3 1048576 t547 _ ?side1 ?side2 A2.out).mono ?_); (case side1 => exact z17_1); (case side2 => exact z17_23); rintro e w57 ⟨rfl, hb⟩; refine ⟨_, rfl, ?_⟩; have n0_ := Aside0.mk (blk_below (g := gb546) (o := .cells #[.slice A0_0 l0_0.length c0_0, .int .i64 a0_1, .int .i64 a0_2, .int .i64 a0_3] 26 (0, 0)) z17_6 hb); have n1_ := Aside0.mk (below_step z17_4 hb); clear BK546; clear HB; have BK546 := n0_; have HB := n1_; clear n0_ n1_; (try clear hb); (try clear hb2); (try clear hk); (try clear hi); have hcz58_0 : w57.cell? ⟨gb546, 0, none⟩ = some (.slice A0_0 l0_0.length c0_0) := (blk_cell BK546.out 0).trans rfl; have hcz58_1 : w57.cell? ⟨gb546, 1, none⟩ = some (.int .i64 a0_1) := (blk_cell BK546.out 1).trans rfl; have hcz58_2 : w57.cell? ⟨gb546, 2, none⟩ = some (.int .i64 a0_2) := (blk_cell BK546.out 2).trans rfl; have hcz58_3 : w57.cell? ⟨gb546, 3, none⟩ = some (.int .i64 a0_3) := (blk_cell BK546.out 3).trans rfl; have hfz58_0 := blk_frozen BK546.out 0; have hfz58_1 := blk_frozen BK546.out 1; have hfz58_2 := blk_frozen BK546.out 2; have hfz58_3 := blk_frozen BK546.out 3) | ((with_reducible refine gate_callee (f := 8) rfl ?_); refine goesL_ (some 13) rfl rfl Try.func8 z17_16 rfl #[.agg #[.slice A0_0 l0_0.length c0_0, .int .i64 a0_1, .int .i64 a0_2, .int .i64 a0_3]] rfl z17_0 ?_; (with_reducible refine (laws_toTask.calls k _ _ l0_0 a0_1 a0_2 a0_3 t548 t551 t552 t553 _ ?side1 ?side2 A7.out).mono ?_); (case side1 => exact z17_1); (case side2 => exact z17_23); rintro e w59 ⟨v549, rfl, ho0, hb⟩; refine ⟨_, rfl, ?_⟩; have n0_ := Aside0.mk (Kd.R_lower ho0 (below_size z17_4)); have n1_ := Aside0.mk (blk_below (g := gb546) (o := .cells #[.slice A0_0 l0_0.length c0_0, .int .i64 a0_1, .int .i64 a0_2, .int .i64 a0_3] 26 (0, 0)) z17_6 hb); have n2_ := Aside0.mk (below_step z17_4 hb); clear BK546; clear HB; have HO550 := n0_; have BK546 := n1_; have HB := n2_; clear n0_ n1_ n2_; (try clear hb); (try clear hb2); (try clear hk); (try clear hi); (try clear ho0); obtain ⟨Ao60, co60, eo60⟩ := Kd.R_slice HO550.out; subst eo60) | ((with_reducible refine gate_callee (f := 11) rfl ?_); refine goesL_ (some 14) rfl rfl Try.func11 z17_16 rfl #[.agg #[.slice Ao60 t548.length co60, .int .i64 t551, .int .i64 t552, .int .i64 t553]] rfl z17_0 ?_; (with_reducible refine (spec_TaskBound.calls k _ _ t548 t551 t552 t553 t554 _ ?side1 ?side2 A8.out).mono ?_); (case side1 => exact z17_27); (case side2 => exact (Kd.R_reads' HO550.out).2.1); rintro e w61 ⟨rfl, hb⟩; refine ⟨_, rfl, ?_⟩; have n0_ := Aside0.mk (Kd.R_below z17_10 hb); have n1_ := Aside0.mk (blk_below (g := gb546) (o := .cells #[.slice A0_0 l0_0.length c0_0, .int .i64 a0_1, .int .i64 a0_2, .int .i64 a0_3] 26 (0, 0)) z17_6 hb); have n2_ := Aside0.mk (below_step z17_4 hb); clear HO550; clear BK546; clear HB; have HO550 := n0_; have BK546 := n1_; have HB := n2_; clear n0_ n1_ n2_; (try clear hb); (try clear hb2); (try clear hk); (try clear hi); have hcz62_0 : w61.cell? ⟨gb546, 0, none⟩ = some (.slice A0_0 l0_0.length c0_0) := (blk_cell BK546.out 0).trans rfl; have hcz62_1 : w61.cell? ⟨gb546, 1, none⟩ = some (.int .i64 a0_1) := (blk_cell BK546.out 1).trans rfl; have hcz62_2 : w61.cell? ⟨gb546, 2, none⟩ = some (.int .i64 a0_2) := (blk_cell BK546.out 2).trans rfl; have hcz62_3 : w61.cell? ⟨gb546, 3, none⟩ = some (.int .i64 a0_3) := (blk_cell BK546.out 3).trans rfl; have hfz62_0 := blk_frozen BK546.out 0; have hfz62_1 := blk_frozen BK546.out 1; have hfz62_2 := blk_frozen BK546.out 2; have hfz62_3 := blk_frozen BK546.out 3) | ((with_reducible refine gate_callee (f := 8) rfl ?_); refine goesL_ (some 16) rfl rfl Try.func8 z17_16 rfl #[.agg #[.slice A0_0 l0_0.length c0_0, .int .i64 a0_1, .int .i64 a0_2, .int .i64 a0_3]] rfl z17_0 ?_; (with_reducible refine (laws_toTask.calls k _ _ l0_0 a0_1 a0_2 a0_3 t555 t558 t559 t560 _ ?side1 ?side2 A9.out).mono ?_); (case side1 => exact z17_1); (case side2 => exact z17_23); rintro e w63 ⟨v556, rfl, ho0, hb⟩; refine ⟨_, rfl, ?_⟩; have n0_ := Aside0.mk (Kd.R_elder' z17_10 (Kd.R_base ho0) hb); have n1_ := Aside0.mk (Kd.R_lower (Kd.R_new' ho0 (Kd.R_lt z17_10)) (below_size z17_4)); have n2_ := Aside0.mk (blk_below (g := gb546) (o := .cells #[.slice A0_0 l0_0.length c0_0, .int .i64 a0_1, .int .i64 a0_2, .int .i64 a0_3] 26 (0, 0)) z17_6 hb); have n3_ := Aside0.mk (below_step z17_4 hb); clear HO550; clear BK546; clear HB; have HO550 := n0_; have HO557 := n1_; have BK546 := n2_; have HB := n3_; clear n0_ n1_ n2_ n3_; (try clear hb); (try clear hb2); (try clear hk); (try clear hi); (try clear ho0)) | ((with_reducible refine gate_dst (N := 5) rfl ?_); refine box_event ?hg (N := 5) ?hd (cs := #[.slice none 0 0, .int .i64 0, .int .i64 0, .int .i64 0]) (t := 32) ?hr ?_; (case hd => rfl); (case hg => rfl); (case hr => exact z17_15); intro gb561 hg w64 hbox hb; have n0_ := Aside0.mk (Kd.R_below z17_10 hb); have n1_ := Aside0.mk (Kd.R_below z17_14 hb); have n2_ := Aside0.mk (blk_below (g := gb546) (o := .cells #[.slice A0_0 l0_0.length c0_0, .int .i64 a0_1, .int .i64 a0_2, .int .i64 a0_3] 26 (0, 0)) z17_6 hb); have n3_ := Aside0.mk (below_step z17_4 hb); have n4_ := Aside0.mk (hbox); have n5_ := Aside0.mk ((by rw [hg]; exact (below_size z17_4) : w.heap.size ≤ gb561)); have n6_ := Aside0.mk ((by rw [hg]; exact (below_size z17_4) : w.heap.size ≤ gb561)); have n7_ := Aside0.mk ((z17_30 : gb546 ≠ gb561)); have n8_ := Aside0.mk ((z17_32 : gb561 ≠ gb546)); clear HO550; clear HO557; clear BK546; clear HB; have HO550 := n0_; have HO557 := n1_; have BK546 := n2_; have HB := n3_; have BK561 := n4_; have GW561 := n5_; have GE561 := n6_; have NB546_561 := n7_; have NB561_546 := n8_; clear n0_ n1_ n2_ n3_ n4_ n5_ n6_ n7_ n8_; clear hb hbox hg; obtain ⟨Ao65, co65, eo65⟩ := Kd.R_slice HO557.out; subst eo65; have hnb66 := NB561_546.out; have hnc66 := NB546_561.out; have hcz67_0 : w64.cell? ⟨gb561, 0, none⟩ = some (.slice none 0 0) := (blk_cell BK561.out 0).trans rfl; have hcz67_1 : w64.cell? ⟨gb561, 1, none⟩ = some (.int .i64 0) := (blk_cell BK561.out 1).trans rfl; have hcz67_2 : w64.cell? ⟨gb561, 2, none⟩ = some (.int .i64 0) := (blk_cell BK561.out 2).trans rfl; have hcz67_3 : w64.cell? ⟨gb561, 3, none⟩ = some (.int .i64 0) := (blk_cell BK561.out 3).trans rfl; have hfz67_0 := blk_frozen BK561.out 0; have hfz67_1 := blk_frozen BK561.out 1; have hfz67_2 := blk_frozen BK561.out 2; have hfz67_3 := blk_frozen BK561.out 3) | ((with_reducible refine gate_store (t := 32) (p := 5) rfl ?_); refine store_event (t := 32) (p := 5) (v := ?vo_w68) (w1 := ((((w64.setCell ⟨gb561, 0, none⟩ (.slice Ao65 t555.length co65)).setCell ⟨gb561, 1, none⟩ (.int .i64 t558)).setCell ⟨gb561, 2, none⟩ (.int .i64 t559)).setCell ⟨gb561, 3, none⟩ (.int .i64 t560))) ?hg ?ho ?hn ?hr ?_; (case ho => rfl); (case hg => rfl); (case hn => rfl); (case hr => exact z17_15); intro w68 hw; have n0_ : Aside0 (Kd.R k55 55 w68 w.heap.size (fun k_ => some k_ ≠ (.slice Ao65 t555.length co65 : Value).ownBlock) (.slice Ao60 t548.length co60) t548) := ⟨(by rw [hw]; exact (by (with_reducible repeat (first | apply Kd.R_alloc | apply Kd.R_drewN | apply Kd.R_drew)); exact Kd.R_mono (Kd.R_far (p := ⟨gb561, 3, none⟩) (Kd.R_far (p := ⟨gb561, 2, none⟩) (Kd.R_far (p := ⟨gb561, 1, none⟩) (Kd.R_far (p := ⟨gb561, 0, none⟩) (Kd.R_types HO550.out BK561.out (by decide)) (fun _ hk => hk.2) (.slice Ao65 t555.length co65)) (fun _ hk => hk.2) (.int .i64 t558)) (fun _ hk => hk.2) (.int .i64 t559)) (fun _ hk => hk.2) (.int .i64 t560)) (fun _ hk => hk.1.2)))⟩; have n1_ : Aside0 (Kd.R k55 55 w68 w.heap.size (fun k_ => some k_ ≠ (.slice Ao60 t548.length co60 : Value).ownBlock) (.slice Ao65 t555.length co65) t555) := ⟨(by rw [hw]; exact (by (with_reducible repeat (first | apply Kd.R_alloc | apply Kd.R_drewN | apply Kd.R_drew)); exact Kd.R_mono (Kd.R_far (p := ⟨gb561, 3, none⟩) (Kd.R_far (p := ⟨gb561, 2, none⟩) (Kd.R_far (p := ⟨gb561, 1, none⟩) (Kd.R_far (p := ⟨gb561, 0, none⟩) (Kd.R_types HO557.out BK561.out (by decide)) (fun _ hk => hk.2) (.slice Ao65 t555.length co65)) (fun _ hk => hk.2) (.int .i64 t558)) (fun _ hk => hk.2) (.int .i64 t559)) (fun _ hk => hk.2) (.int .i64 t560)) (fun _ hk => hk.1.2)))⟩; have n2_ : Aside0 (w68.heap[gb546]? = some (.cells #[.slice A0_0 l0_0.length c0_0, .int .i64 a0_1, .int .i64 a0_2, .int .i64 a0_3] 26 (0, 0))) := ⟨z17_12⟩; have n3_ : Aside0 (w68.heap[gb561]? = some (.cells #[.slice Ao65 t555.length co65, .int .i64 t558, .int .i64 t559, .int .i64 t560] 32 (0, 0))) := ⟨(by rw [hw]; exact (by (with_reducible repeat (first | refine blk_drewN ?_ _ | refine blk_drew ?_ | refine blk_alloc ?_ _)); refine blk_put (cs := #[.slice Ao65 t555.length co65, .int .i64 t558, .int .i64 t559, .int .i64 0]) ?_ 3 _ rfl; (with_reducible repeat (first | refine blk_drewN ?_ _ | refine blk_drew ?_ | refine blk_alloc ?_ _)); refine blk_put (cs := #[.slice Ao65 t555.length co65, .int .i64 t558, .int .i64 0, .int .i64 0]) ?_ 2 _ rfl; (with_reducible repeat (first | refine blk_drewN ?_ _ | refine blk_drew ?_ | refine blk_alloc ?_ _)); refine blk_put (cs := #[.slice Ao65 t555.length co65, .int .i64 0, .int .i64 0, .int .i64 0]) ?_ 1 _ rfl; (with_reducible repeat (first | refine blk_drewN ?_ _ | refine blk_drew ?_ | refine blk_alloc ?_ _)); refine blk_put (cs := #[.slice none 0 0, .int .i64 0, .int .i64 0, .int .i64 0]) ?_ 0 _ rfl; (with_reducible repeat (first | refine blk_drewN ?_ _ | refine blk_drew ?_ | refine blk_alloc ?_ _)); exact BK561.out))⟩; have n4_ : Aside0 (Below w.heap.size w w68) := ⟨(by rw [hw]; exact z17_8)⟩; clear hw; clear HO550; clear HO557; clear BK546; clear BK561; clear HB; have HO550 := n0_; have HO557 := n1_; have BK546 := n2_; have BK561 := n3_; have HB := n4_; clear n0_ n1_ n2_ n3_ n4_; have hcz69_0 : w68.cell? ⟨gb561, 0, none⟩ = some (.slice Ao65 t555.length co65) := (blk_cell BK561.out 0).trans rfl; have hcz69_1 : w68.cell? ⟨gb561, 1, none⟩ = some (.int .i64 t558) := (blk_cell BK561.out 1).trans rfl; have hcz69_2 : w68.cell? ⟨gb561, 2, none⟩ = some (.int .i64 t559) := (blk_cell BK561.out 2).trans rfl; have hcz69_3 : w68.cell? ⟨gb561, 3, none⟩ = some (.int .i64 t560) := (blk_cell BK561.out 3).trans rfl; have hfz69_0 := blk_frozen BK561.out 0; have hfz69_1 := blk_frozen BK561.out 1; have hfz69_2 := blk_frozen BK561.out 2; have hfz69_3 := blk_frozen BK561.out 3) | ((with_reducible refine gate_callee (f := 12) rfl ?_); refine goesL_ (some 18) rfl rfl Try.func12 z17_16 rfl #[.agg #[.slice Ao65 t555.length co65, .int .i64 t558, .int .i64 t559, .int .i64 t560]] rfl z17_0 ?_; (with_reducible refine (impl_TaskBound.calls k _ _ t555 t558 t559 t560 t562 _ ?side1 ?side2 A10.out).mono ?_); (case side1 => exact z17_20); (case side2 => exact (Kd.R_reads' HO557.out).2.1); rintro e w70 ⟨rfl, hb⟩; refine ⟨_, rfl, ?_⟩; have n0_ := Aside0.mk (Kd.R_below z17_10 hb); have n1_ := Aside0.mk (Kd.R_below z17_14 hb); have n2_ := Aside0.mk (blk_below (g := gb546) (o := .cells #[.slice A0_0 l0_0.length c0_0, .int .i64 a0_1, .int .i64 a0_2, .int .i64 a0_3] 26 (0, 0)) z17_6 hb); have n3_ := Aside0.mk (blk_below (g := gb561) (o := .cells #[.slice Ao65 t555.length co65, .int .i64 t558, .int .i64 t559, .int .i64 t560] 32 (0, 0)) z17_18 hb); have n4_ := Aside0.mk (below_step z17_8 hb); clear HO550; clear HO557; clear BK546; clear BK561; clear HB; have HO550 := n0_; have HO557 := n1_; have BK546 := n2_; have BK561 := n3_; have HB := n4_; clear n0_ n1_ n2_ n3_ n4_; (try clear hb); (try clear hb2); (try clear hk); (try clear hi)))
   go_ret
   exact ⟨by first | rfl | (simp [errW_none, errW_some] <;> rfl) | (simp [*, errW_none, errW_some] <;> rfl) | (simp [*, errW_none, errW_some, i64_w]; done), by repeat (first | (with_reducible first | exact HB.out | apply below_alloc | apply pw_below_drewN | apply below_drew1 | refine below_set ?_ GE546.out | refine below_set ?_ GE561.out) | exact HB.out)⟩
def laws_FnExactTaskBound.Pure : Prop := ∀ (x0 : S26), gd26 x0 → ∃ k, laws_FnExactTaskBound.f k x0.f0 x0.f1.f0 x0.f1.f1 x0.f1.f2 = some true
theorem laws_FnExactTaskBound.walk (P : laws_FnExactTaskBound.Pure) (x0 : S26) (c0 : Array Value) (w : World) (K0 : k26.K w x0 c0.toList) (G0 : gd26 x0) :
  Calls Try.prog 4 #[.agg c0] w fun e w' => e = .returned (.bool true) ∧ Below w.heap.size w w' := by
 obtain ⟨A0_0, c0_0, e0, l0_0, g0_0⟩ := k26_open K0
 have e0' : c0 = #[.slice A0_0 x0.f0.length c0_0, .int .i64 x0.f1.f0, .int .i64 x0.f1.f1, .int .i64 x0.f1.f2] := by rw [← Array.toList_inj]; exact e0
 subst e0'
 obtain ⟨k, h⟩ := P x0 G0
 refine (laws_FnExactTaskBound.calls k _ _ x0.f0 x0.f1.f0 x0.f1.f1 x0.f1.f2 true w g0_0 l0_0 h).mono ?_
 rintro e w' ⟨rfl, hd⟩
 exact ⟨rfl, hd⟩
end Go.Proofs.Ytccjlmpeogifkaa.G
