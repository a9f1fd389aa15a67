/- Functions of the program as plain Lean functions, and that each call comes to its function's answer; written by a program of the session. No condition. -/
import Derived.Test.YtccjlmpeogifkaaGx0
import Derived.Test.YtccjlmpeogifkaaGx3
import Derived.Test.YtccjlmpeogifkaaGx6
import Derived.Test.YtccjlmpeogifkaaGx7
import Derived.Test.YtccjlmpeogifkaaGx14
namespace Go.Proofs.Ytccjlmpeogifkaa.G
open Go.RowKit Go.Proofs.YtccjlmpeogifkaaW.PrintWords Go.Proofs.YtccjlmpeogifkaaW.PrintLast Go.Proofs.YtccjlmpeogifkaaW.PrintMore
attribute [local go_sem] max2_int min2_int max_two min_two max_three min_three max_four min_four   -- for this text's walks alone
set_option linter.unusedVariables false
set_option linter.unusedSimpArgs false
theorem z15_0 {P : Prop} (h : P := by repeat (first | (with_reducible first | exact HB.out | apply below_alloc | apply pw_below_drewN | apply below_drew1) | exact HB.out)) : P := h
theorem z15_1 {P : Prop} (h : P := by (try simp only [List.map_toArray, List.map_cons, List.map_nil]); first | done | rfl | (simp only [List.length_drop, List.length_take]; rfl)) : P := h
theorem z15_2 {P : Prop} (h : P := by repeat (first | (with_reducible first | exact HB.out | apply below_alloc | apply pw_below_drewN | apply below_drew1 | refine below_set ?_ GE477.out) | exact HB.out)) : P := h
theorem z15_3 {P : Prop} (h : P := by repeat (first | exact (Kd.C_below HR0_0.out HB.out) | (with_reducible refine Kd.C_alloc ?_ _) | (with_reducible refine Kd.C_drewN ?_ _) | (with_reducible refine Kd.C_drew ?_))) : P := h
theorem z15_4 {P : Prop} (h : P := by (with_reducible repeat (first | refine blk_drewN ?_ _ | refine blk_drew ?_ | refine blk_alloc ?_ _)); exact BK477.out) : P := h
theorem z15_5 {P : Prop} (h : P := by repeat (first | (with_reducible first | exact HB.out | apply below_alloc | apply pw_below_drewN | apply below_drew1 | refine below_set ?_ GE467.out) | exact HB.out)) : P := h
theorem z15_6 {P : Prop} (h : P := by repeat (first | (with_reducible first | exact HB.out | apply below_alloc | apply pw_below_drewN | apply below_drew1 | refine below_set ?_ GE477.out | refine below_set ?_ GE492.out) | exact HB.out)) : P := h
theorem z15_7 {P : Prop} (h : P := by (with_reducible repeat (first | apply Kd.R_alloc | apply Kd.R_drewN | apply Kd.R_drew)); exact HO481.out) : P := h
theorem z15_8 {P : Prop} (h : P := by (with_reducible repeat (first | refine blk_drewN ?_ _ | refine blk_drew ?_ | refine blk_alloc ?_ _)); exact BK467.out) : P := h
theorem z15_9 {P : Prop} (h : P := by repeat (first | (with_reducible first | exact HB.out | apply below_alloc | apply pw_below_drewN | apply below_drew1 | refine below_set ?_ GE465.out) | exact HB.out)) : P := h
theorem z15_10 {P : Prop} (h : P := by first | (go_simp; done) | (go_simp; rfl)) : P := h
theorem z15_11 {P : Prop} (h : P := by (with_reducible repeat (first | refine blk_drewN ?_ _ | refine blk_drew ?_ | refine blk_alloc ?_ _)); exact BK473.out) : P := h
theorem z15_12 {P : Prop} (h : P := by rw [hw]; exact (by (with_reducible repeat (first | refine blk_drewN ?_ _ | refine blk_drew ?_ | refine blk_alloc ?_ _)); refine blk_far ?_ NB477_492.out _; (with_reducible repeat (first | refine blk_drewN ?_ _ | refine blk_drew ?_ | refine blk_alloc ?_ _)); refine blk_far ?_ NB477_492.out _; (with_reducible repeat (first | refine blk_drewN ?_ _ | refine blk_drew ?_ | refine blk_alloc ?_ _)); refine blk_far ?_ NB477_492.out _; (with_reducible repeat (first | refine blk_drewN ?_ _ | refine blk_drew ?_ | refine blk_alloc ?_ _)); refine blk_far ?_ NB477_492.out _; (with_reducible repeat (first | refine blk_drewN ?_ _ | refine blk_drew ?_ | refine blk_alloc ?_ _)); exact BK477.out)) : P := h
theorem z15_13 {P : Prop} (h : P := by repeat (first | (with_reducible first | exact HB.out | apply below_alloc | apply pw_below_drewN | apply below_drew1 | refine below_set ?_ GE473.out) | exact HB.out)) : P := h
theorem z15_14 {P : Prop} (h : P := by (with_reducible repeat (first | refine blk_drewN ?_ _ | refine blk_drew ?_ | refine blk_alloc ?_ _)); exact BK465.out) : P := h
theorem z15_15 {P : Prop} (h : P := by (with_reducible repeat (first | apply Kd.R_alloc | apply Kd.R_drewN | apply Kd.R_drew)); exact HO488.out) : P := h
theorem z15_16 {P : Prop} (h : P := by repeat (first | (with_reducible first | exact HB.out | apply below_alloc | apply pw_below_drewN | apply below_drew1 | refine below_set ?_ GE473.out | refine below_set ?_ GE474.out) | exact HB.out)) : P := h
theorem z15_17 {P : Prop} (h : P := by (with_reducible repeat (first | refine blk_drewN ?_ _ | refine blk_drew ?_ | refine blk_alloc ?_ _)); exact BK492.out) : P := h
theorem z15_18 {P : Prop} (h : P := by repeat (first | exact (Kd.R_reads' HO488.out).2.2 | (with_reducible refine Kd.C_alloc ?_ _) | (with_reducible refine Kd.C_drewN ?_ _) | (with_reducible refine Kd.C_drew ?_))) : P := h
theorem z15_19 {P : Prop} (h : P := by kernel_rfl) : P := h
theorem z15_20 {P : Prop} (h : P := by repeat (first | (with_reducible first | exact HB.out | apply below_alloc | apply pw_below_drewN | apply below_drew1 | refine below_set ?_ GE461.out) | exact HB.out)) : P := h
theorem z15_21 {P : Prop} (h : P := by (with_reducible repeat (first | refine blk_drewN ?_ _ | refine blk_drew ?_ | refine blk_alloc ?_ _)); exact BK474.out) : P := h
theorem z15_22 {P : Prop} (h : P := by repeat (first | exact (Kd.C_below HR1_0.out HB.out) | (with_reducible refine Kd.C_alloc ?_ _) | (with_reducible refine Kd.C_drewN ?_ _) | (with_reducible refine Kd.C_drew ?_))) : P := h
theorem z15_23 {P : Prop} (h : P := by (with_reducible repeat (first | refine blk_drewN ?_ _ | refine blk_drew ?_ | refine blk_alloc ?_ _)); exact BK461.out) : P := h
theorem z15_24 {P : Prop} (h : P := by repeat (first | exact (Kd.R_reads' HO481.out).2.2 | (with_reducible refine Kd.C_alloc ?_ _) | (with_reducible refine Kd.C_drewN ?_ _) | (with_reducible refine Kd.C_drew ?_))) : P := h
theorem z15_25 {P : Prop} (h : P := by first | (with_reducible assumption) | assumption) : P := h
theorem z15_26 {P : Prop} (h : P := by exact HC0_0.out) : P := h
theorem z15_27 {P : Prop} (h : P := by rw [hg]; exact (below_size z15_0)) : P := h
theorem z15_28 {P : Prop} (h : P := by rw [hg]; exact Nat.ne_of_lt (blk_lt (g := gb467) (o := .cells #[.int .i64 a0_0, .int .i64 a0_1, .int .i64 a0_2, .int .i64 a0_3, .int .i64 a0_4, .int .i64 a0_5] 55 (0, 0)) z15_8)) : P := h
theorem z15_29 {P : Prop} (h : P := by rw [hg]; exact Nat.ne_of_gt (blk_lt (g := gb467) (o := .cells #[.int .i64 a0_0, .int .i64 a0_1, .int .i64 a0_2, .int .i64 a0_3, .int .i64 a0_4, .int .i64 a0_5] 55 (0, 0)) z15_8)) : P := h
theorem z15_30 {P : Prop} (h : P := by rw [hg]; exact Nat.ne_of_lt (blk_lt (g := gb465) (o := .cells #[.int .i64 a0_0, .int .i64 a0_1, .int .i64 a0_2] 30 (0, 0)) z15_14)) : P := h
theorem z15_31 {P : Prop} (h : P := by rw [hg]; exact Nat.ne_of_gt (blk_lt (g := gb465) (o := .cells #[.int .i64 a0_0, .int .i64 a0_1, .int .i64 a0_2] 30 (0, 0)) z15_14)) : P := h
theorem z15_32 {P : Prop} (h : P := by rw [hg]; exact Nat.ne_of_lt (blk_lt (g := gb473) (o := .cells #[.slice A0_0 l0_0.length c0_0, .int .i64 a0_1, .int .i64 a0_2, .int .i64 a0_3] 32 (0, 0)) z15_11)) : P := h
theorem z15_33 {P : Prop} (h : P := by rw [hg]; exact Nat.ne_of_gt (blk_lt (g := gb473) (o := .cells #[.slice A0_0 l0_0.length c0_0, .int .i64 a0_1, .int .i64 a0_2, .int .i64 a0_3] 32 (0, 0)) z15_11)) : P := h
theorem z15_34 {P : Prop} (h : P := by rw [hg]; exact Nat.ne_of_lt (blk_lt (g := gb477) (o := .cells #[.slice A0_0 l0_0.length c0_0, .int .i64 a0_1, .int .i64 a0_2, .int .i64 a0_3] 26 (0, 0)) z15_4)) : P := h
theorem z15_35 {P : Prop} (h : P := by rw [hg]; exact Nat.ne_of_gt (blk_lt (g := gb477) (o := .cells #[.slice A0_0 l0_0.length c0_0, .int .i64 a0_1, .int .i64 a0_2, .int .i64 a0_3] 26 (0, 0)) z15_4)) : P := h
theorem z15_36 {P : Prop} (h : P := by rw [hg]; exact (below_size z15_5)) : P := h
theorem z15_37 {P : Prop} (h : P := by rw [hg]; exact (below_size z15_9)) : P := h
def impl_NeedsLog.f (k : Nat) (l0_0 : List (S55)) (a0_1 : Int) (a0_2 : Int) (a0_3 : Int) (a1 : Int) : Option (Bool) := (impl_MustLog.f k l0_0 a0_1 a0_2 a0_3).bind fun t457 => ((impl_HasVar.f k t457 a1).bind fun t460 => (some t460))
set_option maxHeartbeats 8000000 in
set_option maxRecDepth 100000 in
theorem impl_NeedsLog.calls (k : Nat) (A0_0 : Option Addr) (c0_0 : Nat) (l0_0 : List (S55)) (a0_1 : Int) (a0_2 : Int) (a0_3 : Int) (a1 : Int) (r : Bool) (w : World) (hr0_0 : Kd.C k55 w A0_0 l0_0.length l0_0) (hc0_0 : l0_0.length ≤ c0_0) (h : impl_NeedsLog.f k l0_0 a0_1 a0_2 a0_3 a1 = some r) :
  Calls Try.prog 23 #[.agg #[.slice A0_0 l0_0.length c0_0, .int .i64 a0_1, .int .i64 a0_2, .int .i64 a0_3], .int .i64 a1] w fun e w' => e = .returned (.bool r) ∧ Below w.heap.size w w' := by
 have hu32 := Try.underlying32
 have HR0_0 := Aside0.mk hr0_0
 have HC0_0 := Aside0.mk hc0_0
 clear hr0_0 hc0_0
 have HB := Aside0.mk (Below.refl w.heap.size w)
 have H : ((impl_MustLog.f k l0_0 a0_1 a0_2 a0_3).bind fun t457 => ((impl_HasVar.f k t457 a1).bind fun t460 => (some t460))) = some r := h
 clear h
 replace H := Option.bind_eq_some_iff.mp H
 obtain ⟨t457, A30, H⟩ := H
 replace H : ((impl_HasVar.f k t457 a1).bind fun t460 => (some t460)) = some r := H
 have A3 := Aside0.mk A30
 clear A30
 replace H := Option.bind_eq_some_iff.mp H
 obtain ⟨t460, A40, H⟩ := H
 replace H : (some t460) = some r := H
 have A4 := Aside0.mk A40
 clear A40
 obtain rfl := Option.some.inj H
 go_enter Try.func23, Try.ntmps23
 go_wp2_with (first | ((with_reducible refine gate_dst (N := 2) rfl ?_); refine box_event ?hg (N := 2) ?hd (cs := #[.slice A0_0 l0_0.length c0_0, .int .i64 a0_1, .int .i64 a0_2, .int .i64 a0_3]) (t := 32) ?hr ?_; (case hd => rfl); (case hg => rfl); (case hr => exact z15_10); intro gb456 hg w5 hbox hb; have n0_ := Aside0.mk (below_step z15_0 hb); have n1_ := Aside0.mk (hbox); have n2_ := Aside0.mk ((z15_27 : w.heap.size ≤ gb456)); have n3_ := Aside0.mk ((z15_27 : w.heap.size ≤ gb456)); clear HB; have HB := n0_; have BK456 := n1_; have GW456 := n2_; have GE456 := n3_; clear n0_ n1_ n2_ n3_; clear hb hbox hg; have hcz6_0 : w5.cell? ⟨gb456, 0, none⟩ = some (.slice A0_0 l0_0.length c0_0) := (blk_cell BK456.out 0).trans rfl; have hcz6_1 : w5.cell? ⟨gb456, 1, none⟩ = some (.int .i64 a0_1) := (blk_cell BK456.out 1).trans rfl; have hcz6_2 : w5.cell? ⟨gb456, 2, none⟩ = some (.int .i64 a0_2) := (blk_cell BK456.out 2).trans rfl; have hcz6_3 : w5.cell? ⟨gb456, 3, none⟩ = some (.int .i64 a0_3) := (blk_cell BK456.out 3).trans rfl; have hfz6_0 := blk_frozen BK456.out 0; have hfz6_1 := blk_frozen BK456.out 1; have hfz6_2 := blk_frozen BK456.out 2; have hfz6_3 := blk_frozen BK456.out 3) | ((with_reducible refine gate_callee (f := 29) rfl ?_); refine goesL_ (some 6) rfl rfl Try.func29 z15_19 rfl #[.agg #[.slice A0_0 l0_0.length c0_0, .int .i64 a0_1, .int .i64 a0_2, .int .i64 a0_3]] rfl z15_1 ?_; (with_reducible refine (impl_MustLog.calls k _ _ l0_0 a0_1 a0_2 a0_3 t457 _ ?side1 ?side2 A3.out).mono ?_); (case side1 => exact z15_3); (case side2 => exact z15_26); rintro e w7 ⟨v458, rfl, ho0, hb⟩; refine ⟨_, rfl, ?_⟩; have n0_ := Aside0.mk (Kd.R_lower ho0 (below_size (by repeat (first | (with_reducible first | exact HB.out | apply below_alloc | apply pw_below_drewN | apply below_drew1 | refine below_set ?_ GE456.out) | exact HB.out)))); have n1_ := Aside0.mk (blk_below (g := gb456) (o := .cells #[.slice A0_0 l0_0.length c0_0, .int .i64 a0_1, .int .i64 a0_2, .int .i64 a0_3] 32 (0, 0)) (by (with_reducible repeat (first | refine blk_drewN ?_ _ | refine blk_drew ?_ | refine blk_alloc ?_ _)); exact BK456.out) hb); have n2_ := Aside0.mk (below_step (by repeat (first | (with_reducible first | exact HB.out | apply below_alloc | apply pw_below_drewN | apply below_drew1 | refine below_set ?_ GE456.out) | exact HB.out)) hb); clear BK456; clear HB; have HO459 := n0_; have BK456 := n1_; have HB := n2_; clear n0_ n1_ n2_; (try clear hb); (try clear hb2); (try clear hk); (try clear hi); (try clear ho0); obtain ⟨Ao8, co8, eo8⟩ := Kd.R_slice HO459.out; subst eo8) | ((with_reducible refine gate_callee (f := 39) rfl ?_); refine goesL_ (some 8) rfl rfl Try.func39 z15_19 rfl #[.slice Ao8 t457.length co8, .int .i64 a1] rfl z15_1 ?_; (with_reducible refine (impl_HasVar.calls k _ _ t457 a1 t460 _ ?side1 ?side2 A4.out).mono ?_); (case side1 => repeat (first | exact (Kd.R_reads' HO459.out).2.2 | (with_reducible refine Kd.C_alloc ?_ _) | (with_reducible refine Kd.C_drewN ?_ _) | (with_reducible refine Kd.C_drew ?_))); (case side2 => exact (Kd.R_reads' HO459.out).2.1); rintro e w' ⟨rfl, ⟨nd, rfl⟩⟩; refine ⟨_, rfl, ?_⟩))
 go_ret
 exact ⟨by first | rfl | (simp [errW_none, errW_some] <;> rfl) | (simp [*, errW_none, errW_some] <;> rfl) | (simp [*, errW_none, errW_some, i64_w]; done), by repeat (first | (with_reducible first | exact HB.out | apply below_alloc | apply pw_below_drewN | apply below_drew1 | refine below_set ?_ GE456.out) | exact HB.out)⟩
def impl_WriteCount.j0 : Nat → Int → Bool → List (S55) → Int → Int → Int → Option (Int)
 | 0, _, _, _, _, _, _ => none
 | k + 1, x1, x5, x462000, x462001, x462002, x462003 => if x5 = true then (some 0) else ((impl_NeedsLog.f k x462000 x462001 x462002 x462003 x1).bind fun t464 => (if t464 = true then (some 4) else (some 1)))
def impl_WriteCount.f (k : Nat) (l0_0 : List (S55)) (a0_1 : Int) (a0_2 : Int) (a0_3 : Int) (a1 : Int) : Option (Int) := (impl_taskOk.f k l0_0 a0_1 a0_2 a0_3).bind fun t462 => (if t462 = true then ((impl_isVar.f a1).bind fun t463 => (impl_WriteCount.j0 k a1 (!t463) l0_0 a0_1 a0_2 a0_3)) else (impl_WriteCount.j0 k a1 true l0_0 a0_1 a0_2 a0_3))
set_option maxHeartbeats 8000000 in
set_option maxRecDepth 100000 in
theorem impl_WriteCount.calls (k : Nat) (A0_0 : Option Addr) (c0_0 : Nat) (l0_0 : List (S55)) (a0_1 : Int) (a0_2 : Int) (a0_3 : Int) (a1 : Int) (r : Int) (w : World) (hr0_0 : Kd.C k55 w A0_0 l0_0.length l0_0) (hc0_0 : l0_0.length ≤ c0_0) (h : impl_WriteCount.f k l0_0 a0_1 a0_2 a0_3 a1 = some r) :
  Calls Try.prog 9 #[.agg #[.slice A0_0 l0_0.length c0_0, .int .i64 a0_1, .int .i64 a0_2, .int .i64 a0_3], .int .i64 a1] w fun e w' => e = .returned (.int .i64 r) ∧ Below w.heap.size w w' := by
 have hu32 := Try.underlying32
 have HR0_0 := Aside0.mk hr0_0
 have HC0_0 := Aside0.mk hc0_0
 clear hr0_0 hc0_0
 have HB := Aside0.mk (Below.refl w.heap.size w)
 have H : ((impl_taskOk.f k l0_0 a0_1 a0_2 a0_3).bind fun t462 => (if t462 = true then ((impl_isVar.f a1).bind fun t463 => (impl_WriteCount.j0 k a1 (!t463) l0_0 a0_1 a0_2 a0_3)) else (impl_WriteCount.j0 k a1 true l0_0 a0_1 a0_2 a0_3))) = some r := h
 clear h
 have HC3 := Aside0.mk H
 clear H
 go_enter Try.func9, Try.ntmps9
 go_upto_region 1 with (first | ((with_reducible refine gate_dst (N := 2) rfl ?_); refine box_event ?hg (N := 2) ?hd (cs := #[.slice A0_0 l0_0.length c0_0, .int .i64 a0_1, .int .i64 a0_2, .int .i64 a0_3]) (t := 32) ?hr ?_; (case hd => rfl); (case hg => rfl); (case hr => exact z15_10); intro gb461 hg w4 hbox hb; have n0_ := Aside0.mk (below_step z15_0 hb); have n1_ := Aside0.mk (hbox); have n2_ := Aside0.mk ((z15_27 : w.heap.size ≤ gb461)); have n3_ := Aside0.mk ((z15_27 : w.heap.size ≤ gb461)); clear HB; have HB := n0_; have BK461 := n1_; have GW461 := n2_; have GE461 := n3_; clear n0_ n1_ n2_ n3_; clear hb hbox hg))
 (try simp only [Act.put, List.setIfInBounds_toArray, List.set_cons_zero, List.set_cons_succ])
 go_cut [5] (fun v5 wc => ∃ (kq : Nat) (x5_2 : Bool), v5 = .bool x5_2 ∧ Aside0 (impl_WriteCount.j0 kq a1 x5_2 l0_0 a0_1 a0_2 a0_3 = some r) ∧ Aside0 (kq ≤ k) ∧ Aside0 (wc.heap[gb461]? = some (.cells #[(.slice A0_0 l0_0.length c0_0), .int .i64 a0_1, .int .i64 a0_2, .int .i64 a0_3] 32 (0, 0))) ∧ Aside0 (Below w.heap.size w wc))
 case first =>
  have H := HC3.out
  clear HC3
  replace H := Option.bind_eq_some_iff.mp H
  obtain ⟨t462, A50, H⟩ := H
  replace H : (if t462 = true then ((impl_isVar.f a1).bind fun t463 => (impl_WriteCount.j0 k a1 (!t463) l0_0 a0_1 a0_2 a0_3)) else (impl_WriteCount.j0 k a1 true l0_0 a0_1 a0_2 a0_3)) = some r := H
  have A5 := Aside0.mk A50
  clear A50
  by_cases c6 : t462 = true
  ·subst c6
   have H1 : ((impl_isVar.f a1).bind fun t463 => (impl_WriteCount.j0 k a1 (!t463) l0_0 a0_1 a0_2 a0_3)) = some r := by rw [if_pos rfl] at H; exact H
   clear H
   have H := H1
   clear H1
   replace H := Option.bind_eq_some_iff.mp H
   obtain ⟨t463, A70, H⟩ := H
   replace H : (impl_WriteCount.j0 k a1 (!t463) l0_0 a0_1 a0_2 a0_3) = some r := H
   have A7 := Aside0.mk A70
   clear A70
   have H' := Aside0.mk H
   clear H
   have hcz8_0 : w4.cell? ⟨gb461, 0, none⟩ = some (.slice A0_0 l0_0.length c0_0) := (blk_cell BK461.out 0).trans rfl
   have hcz8_1 : w4.cell? ⟨gb461, 1, none⟩ = some (.int .i64 a0_1) := (blk_cell BK461.out 1).trans rfl
   have hcz8_2 : w4.cell? ⟨gb461, 2, none⟩ = some (.int .i64 a0_2) := (blk_cell BK461.out 2).trans rfl
   have hcz8_3 : w4.cell? ⟨gb461, 3, none⟩ = some (.int .i64 a0_3) := (blk_cell BK461.out 3).trans rfl
   have hfz8_0 := blk_frozen BK461.out 0
   have hfz8_1 := blk_frozen BK461.out 1
   have hfz8_2 := blk_frozen BK461.out 2
   have hfz8_3 := blk_frozen BK461.out 3
   go_wp2_with (first | ((with_reducible refine gate_callee (f := 21) rfl ?_); refine goesL_ (some 7) rfl rfl Try.func21 z15_19 rfl #[.agg #[.slice A0_0 l0_0.length c0_0, .int .i64 a0_1, .int .i64 a0_2, .int .i64 a0_3]] rfl z15_1 ?_; (with_reducible refine (impl_taskOk.calls k _ _ l0_0 a0_1 a0_2 a0_3 true _ ?side1 ?side2 A5.out).mono ?_); (case side1 => exact z15_3); (case side2 => exact z15_26); rintro e w9 ⟨rfl, hb⟩; refine ⟨_, rfl, ?_⟩; have n0_ := Aside0.mk (blk_below (g := gb461) (o := .cells #[.slice A0_0 l0_0.length c0_0, .int .i64 a0_1, .int .i64 a0_2, .int .i64 a0_3] 32 (0, 0)) z15_23 hb); have n1_ := Aside0.mk (below_step z15_20 hb); clear BK461; clear HB; have BK461 := n0_; have HB := n1_; clear n0_ n1_; (try clear hb); (try clear hb2); (try clear hk); (try clear hi)) | (go_at_call 22; (with_reducible refine (impl_isVar.calls a1 t463 _ A7.out).mono ?_); rintro e w' ⟨rfl, ⟨nd, rfl⟩⟩))
   go_meet
   case rel => exact ⟨_, (!t463), (by first | rfl | (simp; done) | (simp [*]; done)), H', ⟨by first | omega | exact Nat.le_refl _⟩, ⟨by (with_reducible repeat (first | refine blk_drewN ?_ _ | refine blk_drew ?_ | refine blk_alloc ?_ _)); exact BK461.out⟩, ⟨by repeat (first | (with_reducible first | exact HB.out | apply below_alloc | apply pw_below_drewN | apply below_drew1 | refine below_set ?_ GE461.out) | exact HB.out)⟩⟩
  ·replace c6 := Bool.eq_false_iff.mpr c6
   subst c6
   have H1 : (impl_WriteCount.j0 k a1 true l0_0 a0_1 a0_2 a0_3) = some r := by rw [if_neg (show ¬ (false = true) by decide)] at H; exact H
   clear H
   have H := H1
   clear H1
   have H' := Aside0.mk H
   clear H
   have hcz10_0 : w4.cell? ⟨gb461, 0, none⟩ = some (.slice A0_0 l0_0.length c0_0) := (blk_cell BK461.out 0).trans rfl
   have hcz10_1 : w4.cell? ⟨gb461, 1, none⟩ = some (.int .i64 a0_1) := (blk_cell BK461.out 1).trans rfl
   have hcz10_2 : w4.cell? ⟨gb461, 2, none⟩ = some (.int .i64 a0_2) := (blk_cell BK461.out 2).trans rfl
   have hcz10_3 : w4.cell? ⟨gb461, 3, none⟩ = some (.int .i64 a0_3) := (blk_cell BK461.out 3).trans rfl
   have hfz10_0 := blk_frozen BK461.out 0
   have hfz10_1 := blk_frozen BK461.out 1
   have hfz10_2 := blk_frozen BK461.out 2
   have hfz10_3 := blk_frozen BK461.out 3
   go_wp2_with (first | ((with_reducible refine gate_callee (f := 21) rfl ?_); refine goesL_ (some 7) rfl rfl Try.func21 z15_19 rfl #[.agg #[.slice A0_0 l0_0.length c0_0, .int .i64 a0_1, .int .i64 a0_2, .int .i64 a0_3]] rfl z15_1 ?_; (with_reducible refine (impl_taskOk.calls k _ _ l0_0 a0_1 a0_2 a0_3 false _ ?side1 ?side2 A5.out).mono ?_); (case side1 => exact z15_3); (case side2 => exact z15_26); rintro e w11 ⟨rfl, hb⟩; refine ⟨_, rfl, ?_⟩; have n0_ := Aside0.mk (blk_below (g := gb461) (o := .cells #[.slice A0_0 l0_0.length c0_0, .int .i64 a0_1, .int .i64 a0_2, .int .i64 a0_3] 32 (0, 0)) z15_23 hb); have n1_ := Aside0.mk (below_step z15_20 hb); clear BK461; clear HB; have BK461 := n0_; have HB := n1_; clear n0_ n1_; (try clear hb); (try clear hb2); (try clear hk); (try clear hi)))
   go_meet
   case rel => exact ⟨_, (true), (by first | rfl | (simp; done) | (simp [*]; done)), H', ⟨by first | omega | exact Nat.le_refl _⟩, ⟨by (with_reducible repeat (first | refine blk_drewN ?_ _ | refine blk_drew ?_ | refine blk_alloc ?_ _)); exact BK461.out⟩, ⟨by repeat (first | (with_reducible first | exact HB.out | apply below_alloc | apply pw_below_drewN | apply below_drew1 | refine below_set ?_ GE461.out) | exact HB.out)⟩⟩
 case rest =>
  clear HC3
  obtain ⟨kq, x5_2, rfl, HA, HJ2, BK461, HB⟩ := hcut
  cases kq with
  | zero => exact absurd HA.out (by simp [impl_WriteCount.j0])
  | succ kj2 =>
   have H := HA.out
   clear HA
   simp only [impl_WriteCount.j0] at H
   by_cases c12 : x5_2 = true
   ·subst c12
    have H1 : (some 0) = some r := by rw [if_pos rfl] at H; exact H
    clear H
    have H := H1
    clear H1
    obtain rfl := Option.some.inj H
    go_wp2
    go_ret
    exact ⟨by first | rfl | (simp [errW_none, errW_some] <;> rfl) | (simp [*, errW_none, errW_some] <;> rfl) | (simp [*, errW_none, errW_some, i64_w]; done), by repeat (first | (with_reducible first | exact HB.out | apply below_alloc | apply pw_below_drewN | apply below_drew1 | refine below_set ?_ GE461.out) | exact HB.out)⟩
   ·replace c12 := Bool.eq_false_iff.mpr c12
    subst c12
    have H1 : ((impl_NeedsLog.f kj2 l0_0 a0_1 a0_2 a0_3 a1).bind fun t464 => (if t464 = true then (some 4) else (some 1))) = some r := by rw [if_neg (show ¬ (false = true) by decide)] at H; exact H
    clear H
    have H := H1
    clear H1
    replace H := Option.bind_eq_some_iff.mp H
    obtain ⟨t464, A130, H⟩ := H
    replace H : (if t464 = true then (some 4) else (some 1)) = some r := H
    have A13 := Aside0.mk A130
    clear A130
    by_cases c14 : t464 = true
    ·subst c14
     have H1 : (some 4) = some r := by rw [if_pos rfl] at H; exact H
     clear H
     have H := H1
     clear H1
     obtain rfl := Option.some.inj H
     have hcz15_0 : wc.cell? ⟨gb461, 0, none⟩ = some (.slice A0_0 l0_0.length c0_0) := (blk_cell BK461.out 0).trans rfl
     have hcz15_1 : wc.cell? ⟨gb461, 1, none⟩ = some (.int .i64 a0_1) := (blk_cell BK461.out 1).trans rfl
     have hcz15_2 : wc.cell? ⟨gb461, 2, none⟩ = some (.int .i64 a0_2) := (blk_cell BK461.out 2).trans rfl
     have hcz15_3 : wc.cell? ⟨gb461, 3, none⟩ = some (.int .i64 a0_3) := (blk_cell BK461.out 3).trans rfl
     have hfz15_0 := blk_frozen BK461.out 0
     have hfz15_1 := blk_frozen BK461.out 1
     have hfz15_2 := blk_frozen BK461.out 2
     have hfz15_3 := blk_frozen BK461.out 3
     go_wp2_with (first | ((with_reducible refine gate_callee (f := 23) rfl ?_); refine goesL_ (some 17) rfl rfl Try.func23 z15_19 rfl #[.agg #[.slice A0_0 l0_0.length c0_0, .int .i64 a0_1, .int .i64 a0_2, .int .i64 a0_3], .int .i64 a1] rfl z15_1 ?_; (with_reducible refine (impl_NeedsLog.calls kj2 _ _ l0_0 a0_1 a0_2 a0_3 a1 true _ ?side1 ?side2 A13.out).mono ?_); (case side1 => exact z15_3); (case side2 => exact z15_26); rintro e w16 ⟨rfl, hb⟩; refine ⟨_, rfl, ?_⟩; have n0_ := Aside0.mk (blk_below (g := gb461) (o := .cells #[.slice A0_0 l0_0.length c0_0, .int .i64 a0_1, .int .i64 a0_2, .int .i64 a0_3] 32 (0, 0)) z15_23 hb); have n1_ := Aside0.mk (below_step z15_20 hb); clear BK461; clear HB; have BK461 := n0_; have HB := n1_; clear n0_ n1_; (try clear hb); (try clear hb2); (try clear hk); (try clear hi)))
     go_ret
     exact ⟨by first | rfl | (simp [errW_none, errW_some] <;> rfl) | (simp [*, errW_none, errW_some] <;> rfl) | (simp [*, errW_none, errW_some, i64_w]; done), by repeat (first | (with_reducible first | exact HB.out | apply below_alloc | apply pw_below_drewN | apply below_drew1 | refine below_set ?_ GE461.out) | exact HB.out)⟩
    ·replace c14 := Bool.eq_false_iff.mpr c14
     subst c14
     have H1 : (some 1) = some r := by rw [if_neg (show ¬ (false = true) by decide)] at H; exact H
     clear H
     have H := H1
     clear H1
     obtain rfl := Option.some.inj H
     have hcz17_0 : wc.cell? ⟨gb461, 0, none⟩ = some (.slice A0_0 l0_0.length c0_0) := (blk_cell BK461.out 0).trans rfl
     have hcz17_1 : wc.cell? ⟨gb461, 1, none⟩ = some (.int .i64 a0_1) := (blk_cell BK461.out 1).trans rfl
     have hcz17_2 : wc.cell? ⟨gb461, 2, none⟩ = some (.int .i64 a0_2) := (blk_cell BK461.out 2).trans rfl
     have hcz17_3 : wc.cell? ⟨gb461, 3, none⟩ = some (.int .i64 a0_3) := (blk_cell BK461.out 3).trans rfl
     have hfz17_0 := blk_frozen BK461.out 0
     have hfz17_1 := blk_frozen BK461.out 1
     have hfz17_2 := blk_frozen BK461.out 2
     have hfz17_3 := blk_frozen BK461.out 3
     go_wp2_with (first | ((with_reducible refine gate_callee (f := 23) rfl ?_); refine goesL_ (some 17) rfl rfl Try.func23 z15_19 rfl #[.agg #[.slice A0_0 l0_0.length c0_0, .int .i64 a0_1, .int .i64 a0_2, .int .i64 a0_3], .int .i64 a1] rfl z15_1 ?_; (with_reducible refine (impl_NeedsLog.calls kj2 _ _ l0_0 a0_1 a0_2 a0_3 a1 false _ ?side1 ?side2 A13.out).mono ?_); (case side1 => exact z15_3); (case side2 => exact z15_26); rintro e w18 ⟨rfl, hb⟩; refine ⟨_, rfl, ?_⟩; have n0_ := Aside0.mk (blk_below (g := gb461) (o := .cells #[.slice A0_0 l0_0.length c0_0, .int .i64 a0_1, .int .i64 a0_2, .int .i64 a0_3] 32 (0, 0)) z15_23 hb); have n1_ := Aside0.mk (below_step z15_20 hb); clear BK461; clear HB; have BK461 := n0_; have HB := n1_; clear n0_ n1_; (try clear hb); (try clear hb2); (try clear hk); (try clear hi)))
     go_ret
     exact ⟨by first | rfl | (simp [errW_none, errW_some] <;> rfl) | (simp [*, errW_none, errW_some] <;> rfl) | (simp [*, errW_none, errW_some, i64_w]; done), by repeat (first | (with_reducible first | exact HB.out | apply below_alloc | apply pw_below_drewN | apply below_drew1 | refine below_set ?_ GE461.out) | exact HB.out)⟩
def laws_eqExpr.f (a0_0 : Int) (a0_1 : Int) (a0_2 : Int) (a1_0 : Int) (a1_1 : Int) (a1_2 : Int) : Option (Bool) := if a0_0 = a1_0 then (if a0_1 = a1_1 then (if a0_2 = a1_2 then (some true) else (some false)) else (some false)) else (some false)
set_option maxHeartbeats 8000000 in
set_option maxRecDepth 100000 in
theorem laws_eqExpr.calls (a0_0 : Int) (a0_1 : Int) (a0_2 : Int) (a1_0 : Int) (a1_1 : Int) (a1_2 : Int) (r : Bool) (w : World) (h : laws_eqExpr.f a0_0 a0_1 a0_2 a1_0 a1_1 a1_2 = some r) :
  Calls Try.prog 25 #[.agg #[.int .i64 a0_0, .int .i64 a0_1, .int .i64 a0_2], .agg #[.int .i64 a1_0, .int .i64 a1_1, .int .i64 a1_2]] w fun e w' => e = .returned (.bool r) ∧ Below w.heap.size w w' := by
 have hu30 := Try.underlying30
 have HB := Aside0.mk (Below.refl w.heap.size w)
 have H : (if a0_0 = a1_0 then (if a0_1 = a1_1 then (if a0_2 = a1_2 then (some true) else (some false)) else (some false)) else (some false)) = some r := h
 clear h
 by_cases c3 : a0_0 = a1_0
 ·rw [if_pos c3] at H
  have c3b0 : (a0_0 == a1_0) = true := beq_iff_eq.mpr c3
  have c3b1 : (a0_0 != a1_0) = false := bne_eq_false_iff_eq.mpr c3
  clear c3
  by_cases c4 : a0_1 = a1_1
  ·rw [if_pos c4] at H
   have c4b0 : (a0_1 == a1_1) = true := beq_iff_eq.mpr c4
   have c4b1 : (a0_1 != a1_1) = false := bne_eq_false_iff_eq.mpr c4
   clear c4
   by_cases c5 : a0_2 = a1_2
   ·rw [if_pos c5] at H
    have c5b0 : (a0_2 == a1_2) = true := beq_iff_eq.mpr c5
    have c5b1 : (a0_2 != a1_2) = false := bne_eq_false_iff_eq.mpr c5
    clear c5
    obtain rfl := Option.some.inj H
    go_enter Try.func25, Try.ntmps25
    go_wp2_with (first | ((with_reducible refine gate_dst (N := 2) rfl ?_); refine box_event ?hg (N := 2) ?hd (cs := #[.int .i64 a0_0, .int .i64 a0_1, .int .i64 a0_2]) (t := 30) ?hr ?_; (case hd => rfl); (case hg => rfl); (case hr => exact z15_10); intro gb465 hg w6 hbox hb; have n0_ := Aside0.mk (below_step z15_0 hb); have n1_ := Aside0.mk (hbox); have n2_ := Aside0.mk ((z15_27 : w.heap.size ≤ gb465)); have n3_ := Aside0.mk ((z15_27 : w.heap.size ≤ gb465)); clear HB; have HB := n0_; have BK465 := n1_; have GW465 := n2_; have GE465 := n3_; clear n0_ n1_ n2_ n3_; clear hb hbox hg) | ((with_reducible refine gate_dst (N := 3) rfl ?_); refine box_event ?hg (N := 3) ?hd (cs := #[.int .i64 a1_0, .int .i64 a1_1, .int .i64 a1_2]) (t := 30) ?hr ?_; (case hd => rfl); (case hg => rfl); (case hr => exact z15_10); intro gb466 hg w7 hbox hb; have n0_ := Aside0.mk (blk_below (g := gb465) (o := .cells #[.int .i64 a0_0, .int .i64 a0_1, .int .i64 a0_2] 30 (0, 0)) z15_14 hb); have n1_ := Aside0.mk (below_step z15_9 hb); have n2_ := Aside0.mk (hbox); have n3_ := Aside0.mk ((z15_37 : w.heap.size ≤ gb466)); have n4_ := Aside0.mk ((z15_37 : w.heap.size ≤ gb466)); have n5_ := Aside0.mk ((z15_30 : gb465 ≠ gb466)); have n6_ := Aside0.mk ((z15_31 : gb466 ≠ gb465)); clear BK465; clear HB; have BK465 := n0_; have HB := n1_; have BK466 := n2_; have GW466 := n3_; have GE466 := n4_; have NB465_466 := n5_; have NB466_465 := n6_; clear n0_ n1_ n2_ n3_ n4_ n5_ n6_; clear hb hbox hg; have hnb8 := NB465_466.out; have hnc8 := NB466_465.out; have hcz9_0 : w7.cell? ⟨gb465, 0, none⟩ = some (.int .i64 a0_0) := (blk_cell BK465.out 0).trans rfl; have hcz9_1 : w7.cell? ⟨gb465, 1, none⟩ = some (.int .i64 a0_1) := (blk_cell BK465.out 1).trans rfl; have hcz9_2 : w7.cell? ⟨gb465, 2, none⟩ = some (.int .i64 a0_2) := (blk_cell BK465.out 2).trans rfl; have hfz9_0 := blk_frozen BK465.out 0; have hfz9_1 := blk_frozen BK465.out 1; have hfz9_2 := blk_frozen BK465.out 2; have hcz10_0 : w7.cell? ⟨gb466, 0, none⟩ = some (.int .i64 a1_0) := (blk_cell BK466.out 0).trans rfl; have hcz10_1 : w7.cell? ⟨gb466, 1, none⟩ = some (.int .i64 a1_1) := (blk_cell BK466.out 1).trans rfl; have hcz10_2 : w7.cell? ⟨gb466, 2, none⟩ = some (.int .i64 a1_2) := (blk_cell BK466.out 2).trans rfl; have hfz10_0 := blk_frozen BK466.out 0; have hfz10_1 := blk_frozen BK466.out 1; have hfz10_2 := blk_frozen BK466.out 2))
    go_ret
    exact ⟨by first | rfl | (simp [errW_none, errW_some] <;> rfl) | (simp [*, errW_none, errW_some] <;> rfl) | (simp [*, errW_none, errW_some, i64_w]; done), by repeat (first | (with_reducible first | exact HB.out | apply below_alloc | apply pw_below_drewN | apply below_drew1 | refine below_set ?_ GE465.out | refine below_set ?_ GE466.out) | exact HB.out)⟩
   ·rw [if_neg c5] at H
    have c5b0 : (a0_2 == a1_2) = false := beq_eq_false_iff_ne.mpr c5
    have c5b1 : (a0_2 != a1_2) = true := bne_iff_ne.mpr c5
    obtain rfl := Option.some.inj H
    go_enter Try.func25, Try.ntmps25
    go_wp2_with (first | ((with_reducible refine gate_dst (N := 2) rfl ?_); refine box_event ?hg (N := 2) ?hd (cs := #[.int .i64 a0_0, .int .i64 a0_1, .int .i64 a0_2]) (t := 30) ?hr ?_; (case hd => rfl); (case hg => rfl); (case hr => exact z15_10); intro gb465 hg w11 hbox hb; have n0_ := Aside0.mk (below_step z15_0 hb); have n1_ := Aside0.mk (hbox); have n2_ := Aside0.mk ((z15_27 : w.heap.size ≤ gb465)); have n3_ := Aside0.mk ((z15_27 : w.heap.size ≤ gb465)); clear HB; have HB := n0_; have BK465 := n1_; have GW465 := n2_; have GE465 := n3_; clear n0_ n1_ n2_ n3_; clear hb hbox hg) | ((with_reducible refine gate_dst (N := 3) rfl ?_); refine box_event ?hg (N := 3) ?hd (cs := #[.int .i64 a1_0, .int .i64 a1_1, .int .i64 a1_2]) (t := 30) ?hr ?_; (case hd => rfl); (case hg => rfl); (case hr => exact z15_10); intro gb466 hg w12 hbox hb; have n0_ := Aside0.mk (blk_below (g := gb465) (o := .cells #[.int .i64 a0_0, .int .i64 a0_1, .int .i64 a0_2] 30 (0, 0)) z15_14 hb); have n1_ := Aside0.mk (below_step z15_9 hb); have n2_ := Aside0.mk (hbox); have n3_ := Aside0.mk ((z15_37 : w.heap.size ≤ gb466)); have n4_ := Aside0.mk ((z15_37 : w.heap.size ≤ gb466)); have n5_ := Aside0.mk ((z15_30 : gb465 ≠ gb466)); have n6_ := Aside0.mk ((z15_31 : gb466 ≠ gb465)); clear BK465; clear HB; have BK465 := n0_; have HB := n1_; have BK466 := n2_; have GW466 := n3_; have GE466 := n4_; have NB465_466 := n5_; have NB466_465 := n6_; clear n0_ n1_ n2_ n3_ n4_ n5_ n6_; clear hb hbox hg; have hnb13 := NB465_466.out; have hnc13 := NB466_465.out; have hcz14_0 : w12.cell? ⟨gb465, 0, none⟩ = some (.int .i64 a0_0) := (blk_cell BK465.out 0).trans rfl; have hcz14_1 : w12.cell? ⟨gb465, 1, none⟩ = some (.int .i64 a0_1) := (blk_cell BK465.out 1).trans rfl; have hcz14_2 : w12.cell? ⟨gb465, 2, none⟩ = some (.int .i64 a0_2) := (blk_cell BK465.out 2).trans rfl; have hfz14_0 := blk_frozen BK465.out 0; have hfz14_1 := blk_frozen BK465.out 1; have hfz14_2 := blk_frozen BK465.out 2; have hcz15_0 : w12.cell? ⟨gb466, 0, none⟩ = some (.int .i64 a1_0) := (blk_cell BK466.out 0).trans rfl; have hcz15_1 : w12.cell? ⟨gb466, 1, none⟩ = some (.int .i64 a1_1) := (blk_cell BK466.out 1).trans rfl; have hcz15_2 : w12.cell? ⟨gb466, 2, none⟩ = some (.int .i64 a1_2) := (blk_cell BK466.out 2).trans rfl; have hfz15_0 := blk_frozen BK466.out 0; have hfz15_1 := blk_frozen BK466.out 1; have hfz15_2 := blk_frozen BK466.out 2))
    go_ret
    exact ⟨by first | rfl | (simp [errW_none, errW_some] <;> rfl) | (simp [*, errW_none, errW_some] <;> rfl) | (simp [*, errW_none, errW_some, i64_w]; done), by repeat (first | (with_reducible first | exact HB.out | apply below_alloc | apply pw_below_drewN | apply below_drew1 | refine below_set ?_ GE465.out | refine below_set ?_ GE466.out) | exact HB.out)⟩
  ·rw [if_neg c4] at H
   have c4b0 : (a0_1 == a1_1) = false := beq_eq_false_iff_ne.mpr c4
   have c4b1 : (a0_1 != a1_1) = true := bne_iff_ne.mpr c4
   obtain rfl := Option.some.inj H
   go_enter Try.func25, Try.ntmps25
   go_wp2_with (first | ((with_reducible refine gate_dst (N := 2) rfl ?_); refine box_event ?hg (N := 2) ?hd (cs := #[.int .i64 a0_0, .int .i64 a0_1, .int .i64 a0_2]) (t := 30) ?hr ?_; (case hd => rfl); (case hg => rfl); (case hr => exact z15_10); intro gb465 hg w16 hbox hb; have n0_ := Aside0.mk (below_step z15_0 hb); have n1_ := Aside0.mk (hbox); have n2_ := Aside0.mk ((z15_27 : w.heap.size ≤ gb465)); have n3_ := Aside0.mk ((z15_27 : w.heap.size ≤ gb465)); clear HB; have HB := n0_; have BK465 := n1_; have GW465 := n2_; have GE465 := n3_; clear n0_ n1_ n2_ n3_; clear hb hbox hg) | ((with_reducible refine gate_dst (N := 3) rfl ?_); refine box_event ?hg (N := 3) ?hd (cs := #[.int .i64 a1_0, .int .i64 a1_1, .int .i64 a1_2]) (t := 30) ?hr ?_; (case hd => rfl); (case hg => rfl); (case hr => exact z15_10); intro gb466 hg w17 hbox hb; have n0_ := Aside0.mk (blk_below (g := gb465) (o := .cells #[.int .i64 a0_0, .int .i64 a0_1, .int .i64 a0_2] 30 (0, 0)) z15_14 hb); have n1_ := Aside0.mk (below_step z15_9 hb); have n2_ := Aside0.mk (hbox); have n3_ := Aside0.mk ((z15_37 : w.heap.size ≤ gb466)); have n4_ := Aside0.mk ((z15_37 : w.heap.size ≤ gb466)); have n5_ := Aside0.mk ((z15_30 : gb465 ≠ gb466)); have n6_ := Aside0.mk ((z15_31 : gb466 ≠ gb465)); clear BK465; clear HB; have BK465 := n0_; have HB := n1_; have BK466 := n2_; have GW466 := n3_; have GE466 := n4_; have NB465_466 := n5_; have NB466_465 := n6_; clear n0_ n1_ n2_ n3_ n4_ n5_ n6_; clear hb hbox hg; have hnb18 := NB465_466.out; have hnc18 := NB466_465.out; have hcz19_0 : w17.cell? ⟨gb465, 0, none⟩ = some (.int .i64 a0_0) := (blk_cell BK465.out 0).trans rfl; have hcz19_1 : w17.cell? ⟨gb465, 1, none⟩ = some (.int .i64 a0_1) := (blk_cell BK465.out 1).trans rfl; have hcz19_2 : w17.cell? ⟨gb465, 2, none⟩ = some (.int .i64 a0_2) := (blk_cell BK465.out 2).trans rfl; have hfz19_0 := blk_frozen BK465.out 0; have hfz19_1 := blk_frozen BK465.out 1; have hfz19_2 := blk_frozen BK465.out 2; have hcz20_0 : w17.cell? ⟨gb466, 0, none⟩ = some (.int .i64 a1_0) := (blk_cell BK466.out 0).trans rfl; have hcz20_1 : w17.cell? ⟨gb466, 1, none⟩ = some (.int .i64 a1_1) := (blk_cell BK466.out 1).trans rfl; have hcz20_2 : w17.cell? ⟨gb466, 2, none⟩ = some (.int .i64 a1_2) := (blk_cell BK466.out 2).trans rfl; have hfz20_0 := blk_frozen BK466.out 0; have hfz20_1 := blk_frozen BK466.out 1; have hfz20_2 := blk_frozen BK466.out 2))
   go_ret
   exact ⟨by first | rfl | (simp [errW_none, errW_some] <;> rfl) | (simp [*, errW_none, errW_some] <;> rfl) | (simp [*, errW_none, errW_some, i64_w]; done), by repeat (first | (with_reducible first | exact HB.out | apply below_alloc | apply pw_below_drewN | apply below_drew1 | refine below_set ?_ GE465.out | refine below_set ?_ GE466.out) | exact HB.out)⟩
 ·rw [if_neg c3] at H
  have c3b0 : (a0_0 == a1_0) = false := beq_eq_false_iff_ne.mpr c3
  have c3b1 : (a0_0 != a1_0) = true := bne_iff_ne.mpr c3
  obtain rfl := Option.some.inj H
  go_enter Try.func25, Try.ntmps25
  go_wp2_with (first | ((with_reducible refine gate_dst (N := 2) rfl ?_); refine box_event ?hg (N := 2) ?hd (cs := #[.int .i64 a0_0, .int .i64 a0_1, .int .i64 a0_2]) (t := 30) ?hr ?_; (case hd => rfl); (case hg => rfl); (case hr => exact z15_10); intro gb465 hg w21 hbox hb; have n0_ := Aside0.mk (below_step z15_0 hb); have n1_ := Aside0.mk (hbox); have n2_ := Aside0.mk ((z15_27 : w.heap.size ≤ gb465)); have n3_ := Aside0.mk ((z15_27 : w.heap.size ≤ gb465)); clear HB; have HB := n0_; have BK465 := n1_; have GW465 := n2_; have GE465 := n3_; clear n0_ n1_ n2_ n3_; clear hb hbox hg) | ((with_reducible refine gate_dst (N := 3) rfl ?_); refine box_event ?hg (N := 3) ?hd (cs := #[.int .i64 a1_0, .int .i64 a1_1, .int .i64 a1_2]) (t := 30) ?hr ?_; (case hd => rfl); (case hg => rfl); (case hr => exact z15_10); intro gb466 hg w22 hbox hb; have n0_ := Aside0.mk (blk_below (g := gb465) (o := .cells #[.int .i64 a0_0, .int .i64 a0_1, .int .i64 a0_2] 30 (0, 0)) z15_14 hb); have n1_ := Aside0.mk (below_step z15_9 hb); have n2_ := Aside0.mk (hbox); have n3_ := Aside0.mk ((z15_37 : w.heap.size ≤ gb466)); have n4_ := Aside0.mk ((z15_37 : w.heap.size ≤ gb466)); have n5_ := Aside0.mk ((z15_30 : gb465 ≠ gb466)); have n6_ := Aside0.mk ((z15_31 : gb466 ≠ gb465)); clear BK465; clear HB; have BK465 := n0_; have HB := n1_; have BK466 := n2_; have GW466 := n3_; have GE466 := n4_; have NB465_466 := n5_; have NB466_465 := n6_; clear n0_ n1_ n2_ n3_ n4_ n5_ n6_; clear hb hbox hg; have hnb23 := NB465_466.out; have hnc23 := NB466_465.out; have hcz24_0 : w22.cell? ⟨gb465, 0, none⟩ = some (.int .i64 a0_0) := (blk_cell BK465.out 0).trans rfl; have hcz24_1 : w22.cell? ⟨gb465, 1, none⟩ = some (.int .i64 a0_1) := (blk_cell BK465.out 1).trans rfl; have hcz24_2 : w22.cell? ⟨gb465, 2, none⟩ = some (.int .i64 a0_2) := (blk_cell BK465.out 2).trans rfl; have hfz24_0 := blk_frozen BK465.out 0; have hfz24_1 := blk_frozen BK465.out 1; have hfz24_2 := blk_frozen BK465.out 2; have hcz25_0 : w22.cell? ⟨gb466, 0, none⟩ = some (.int .i64 a1_0) := (blk_cell BK466.out 0).trans rfl; have hcz25_1 : w22.cell? ⟨gb466, 1, none⟩ = some (.int .i64 a1_1) := (blk_cell BK466.out 1).trans rfl; have hcz25_2 : w22.cell? ⟨gb466, 2, none⟩ = some (.int .i64 a1_2) := (blk_cell BK466.out 2).trans rfl; have hfz25_0 := blk_frozen BK466.out 0; have hfz25_1 := blk_frozen BK466.out 1; have hfz25_2 := blk_frozen BK466.out 2))
  go_ret
  exact ⟨by first | rfl | (simp [errW_none, errW_some] <;> rfl) | (simp [*, errW_none, errW_some] <;> rfl) | (simp [*, errW_none, errW_some, i64_w]; done), by repeat (first | (with_reducible first | exact HB.out | apply below_alloc | apply pw_below_drewN | apply below_drew1 | refine below_set ?_ GE465.out | refine below_set ?_ GE466.out) | exact HB.out)⟩
def laws_eqStmt.f (a0_0 : Int) (a0_1 : Int) (a0_2 : Int) (a0_3 : Int) (a0_4 : Int) (a0_5 : Int) (a1_0 : Int) (a1_1 : Int) (a1_2 : Int) (a1_3 : Int) (a1_4 : Int) (a1_5 : Int) : Option (Bool) := if a0_0 = a1_0 then (if a0_1 = a1_1 then (if a0_2 = a1_2 then ((laws_eqExpr.f a0_3 a0_4 a0_5 a1_3 a1_4 a1_5).bind fun t469 => (if t469 = true then (some true) else (some false))) else (some false)) else (some false)) else (some false)
set_option maxHeartbeats 8000000 in
set_option maxRecDepth 100000 in
theorem laws_eqStmt.calls (a0_0 : Int) (a0_1 : Int) (a0_2 : Int) (a0_3 : Int) (a0_4 : Int) (a0_5 : Int) (a1_0 : Int) (a1_1 : Int) (a1_2 : Int) (a1_3 : Int) (a1_4 : Int) (a1_5 : Int) (r : Bool) (w : World) (h : laws_eqStmt.f a0_0 a0_1 a0_2 a0_3 a0_4 a0_5 a1_0 a1_1 a1_2 a1_3 a1_4 a1_5 = some r) :
  Calls Try.prog 40 #[.agg #[.int .i64 a0_0, .int .i64 a0_1, .int .i64 a0_2, .int .i64 a0_3, .int .i64 a0_4, .int .i64 a0_5], .agg #[.int .i64 a1_0, .int .i64 a1_1, .int .i64 a1_2, .int .i64 a1_3, .int .i64 a1_4, .int .i64 a1_5]] w fun e w' => e = .returned (.bool r) ∧ Below w.heap.size w w' := by
 have hu55 := Try.underlying55
 have hu30 := Try.underlying30
 have HB := Aside0.mk (Below.refl w.heap.size w)
 have H : (if a0_0 = a1_0 then (if a0_1 = a1_1 then (if a0_2 = a1_2 then ((laws_eqExpr.f a0_3 a0_4 a0_5 a1_3 a1_4 a1_5).bind fun t469 => (if t469 = true then (some true) else (some false))) else (some false)) else (some false)) else (some false)) = some r := h
 clear h
 by_cases c3 : a0_0 = a1_0
 ·rw [if_pos c3] at H
  have c3b0 : (a0_0 == a1_0) = true := beq_iff_eq.mpr c3
  have c3b1 : (a0_0 != a1_0) = false := bne_eq_false_iff_eq.mpr c3
  clear c3
  by_cases c4 : a0_1 = a1_1
  ·rw [if_pos c4] at H
   have c4b0 : (a0_1 == a1_1) = true := beq_iff_eq.mpr c4
   have c4b1 : (a0_1 != a1_1) = false := bne_eq_false_iff_eq.mpr c4
   clear c4
   by_cases c5 : a0_2 = a1_2
   ·rw [if_pos c5] at H
    have c5b0 : (a0_2 == a1_2) = true := beq_iff_eq.mpr c5
    have c5b1 : (a0_2 != a1_2) = false := bne_eq_false_iff_eq.mpr c5
    clear c5
    replace H := Option.bind_eq_some_iff.mp H
    obtain ⟨t469, A60, H⟩ := H
    replace H : (if t469 = true then (some true) else (some false)) = some r := H
    have A6 := Aside0.mk A60
    clear A60
    by_cases c7 : t469 = true
    ·subst c7
     have H1 : (some true) = some r := by rw [if_pos rfl] at H; exact H
     clear H
     have H := H1
     clear H1
     obtain rfl := Option.some.inj H
     go_enter Try.func40, Try.ntmps40
     go_wp2_with (first | ((with_reducible refine gate_dst (N := 2) rfl ?_); refine box_event ?hg (N := 2) ?hd (cs := #[.int .i64 a0_0, .int .i64 a0_1, .int .i64 a0_2, .int .i64 a0_3, .int .i64 a0_4, .int .i64 a0_5]) (t := 55) ?hr ?_; (case hd => rfl); (case hg => rfl); (case hr => exact z15_10); intro gb467 hg w8 hbox hb; have n0_ := Aside0.mk (below_step z15_0 hb); have n1_ := Aside0.mk (hbox); have n2_ := Aside0.mk ((z15_27 : w.heap.size ≤ gb467)); have n3_ := Aside0.mk ((z15_27 : w.heap.size ≤ gb467)); clear HB; have HB := n0_; have BK467 := n1_; have GW467 := n2_; have GE467 := n3_; clear n0_ n1_ n2_ n3_; clear hb hbox hg) | ((with_reducible refine gate_dst (N := 3) rfl ?_); refine box_event ?hg (N := 3) ?hd (cs := #[.int .i64 a1_0, .int .i64 a1_1, .int .i64 a1_2, .int .i64 a1_3, .int .i64 a1_4, .int .i64 a1_5]) (t := 55) ?hr ?_; (case hd => rfl); (case hg => rfl); (case hr => exact z15_10); intro gb468 hg w9 hbox hb; have n0_ := Aside0.mk (blk_below (g := gb467) (o := .cells #[.int .i64 a0_0, .int .i64 a0_1, .int .i64 a0_2, .int .i64 a0_3, .int .i64 a0_4, .int .i64 a0_5] 55 (0, 0)) z15_8 hb); have n1_ := Aside0.mk (below_step z15_5 hb); have n2_ := Aside0.mk (hbox); have n3_ := Aside0.mk ((z15_36 : w.heap.size ≤ gb468)); have n4_ := Aside0.mk ((z15_36 : w.heap.size ≤ gb468)); have n5_ := Aside0.mk ((z15_28 : gb467 ≠ gb468)); have n6_ := Aside0.mk ((z15_29 : gb468 ≠ gb467)); clear BK467; clear HB; have BK467 := n0_; have HB := n1_; have BK468 := n2_; have GW468 := n3_; have GE468 := n4_; have NB467_468 := n5_; have NB468_467 := n6_; clear n0_ n1_ n2_ n3_ n4_ n5_ n6_; clear hb hbox hg; have hnb10 := NB467_468.out; have hnc10 := NB468_467.out; have hcz11_0 : w9.cell? ⟨gb467, 0, none⟩ = some (.int .i64 a0_0) := (blk_cell BK467.out 0).trans rfl; have hcz11_1 : w9.cell? ⟨gb467, 1, none⟩ = some (.int .i64 a0_1) := (blk_cell BK467.out 1).trans rfl; have hcz11_2 : w9.cell? ⟨gb467, 2, none⟩ = some (.int .i64 a0_2) := (blk_cell BK467.out 2).trans rfl; have hcz11_3 : w9.cell? ⟨gb467, 3, none⟩ = some (.int .i64 a0_3) := (blk_cell BK467.out 3).trans rfl; have hcz11_4 : w9.cell? ⟨gb467, 4, none⟩ = some (.int .i64 a0_4) := (blk_cell BK467.out 4).trans rfl; have hcz11_5 : w9.cell? ⟨gb467, 5, none⟩ = some (.int .i64 a0_5) := (blk_cell BK467.out 5).trans rfl; have hfz11_0 := blk_frozen BK467.out 0; have hfz11_1 := blk_frozen BK467.out 1; have hfz11_2 := blk_frozen BK467.out 2; have hfz11_3 := blk_frozen BK467.out 3; have hfz11_4 := blk_frozen BK467.out 4; have hfz11_5 := blk_frozen BK467.out 5; have hcz12_0 : w9.cell? ⟨gb468, 0, none⟩ = some (.int .i64 a1_0) := (blk_cell BK468.out 0).trans rfl; have hcz12_1 : w9.cell? ⟨gb468, 1, none⟩ = some (.int .i64 a1_1) := (blk_cell BK468.out 1).trans rfl; have hcz12_2 : w9.cell? ⟨gb468, 2, none⟩ = some (.int .i64 a1_2) := (blk_cell BK468.out 2).trans rfl; have hcz12_3 : w9.cell? ⟨gb468, 3, none⟩ = some (.int .i64 a1_3) := (blk_cell BK468.out 3).trans rfl; have hcz12_4 : w9.cell? ⟨gb468, 4, none⟩ = some (.int .i64 a1_4) := (blk_cell BK468.out 4).trans rfl; have hcz12_5 : w9.cell? ⟨gb468, 5, none⟩ = some (.int .i64 a1_5) := (blk_cell BK468.out 5).trans rfl; have hfz12_0 := blk_frozen BK468.out 0; have hfz12_1 := blk_frozen BK468.out 1; have hfz12_2 := blk_frozen BK468.out 2; have hfz12_3 := blk_frozen BK468.out 3; have hfz12_4 := blk_frozen BK468.out 4; have hfz12_5 := blk_frozen BK468.out 5) | ((with_reducible refine gate_callee (f := 25) rfl ?_); refine goesL_ (some 24) rfl rfl Try.func25 z15_19 rfl #[.agg #[.int .i64 a0_3, .int .i64 a0_4, .int .i64 a0_5], .agg #[.int .i64 a1_3, .int .i64 a1_4, .int .i64 a1_5]] rfl z15_1 ?_; (with_reducible refine (laws_eqExpr.calls a0_3 a0_4 a0_5 a1_3 a1_4 a1_5 true _ A6.out).mono ?_); rintro e w13 ⟨rfl, hb⟩; refine ⟨_, rfl, ?_⟩; have n0_ := Aside0.mk (blk_below (g := gb467) (o := .cells #[.int .i64 a0_0, .int .i64 a0_1, .int .i64 a0_2, .int .i64 a0_3, .int .i64 a0_4, .int .i64 a0_5] 55 (0, 0)) z15_8 hb); have n1_ := Aside0.mk (blk_below (g := gb468) (o := .cells #[.int .i64 a1_0, .int .i64 a1_1, .int .i64 a1_2, .int .i64 a1_3, .int .i64 a1_4, .int .i64 a1_5] 55 (0, 0)) (by (with_reducible repeat (first | refine blk_drewN ?_ _ | refine blk_drew ?_ | refine blk_alloc ?_ _)); exact BK468.out) hb); have n2_ := Aside0.mk (below_step (by repeat (first | (with_reducible first | exact HB.out | apply below_alloc | apply pw_below_drewN | apply below_drew1 | refine below_set ?_ GE467.out | refine below_set ?_ GE468.out) | exact HB.out)) hb); clear BK467; clear BK468; clear HB; have BK467 := n0_; have BK468 := n1_; have HB := n2_; clear n0_ n1_ n2_; (try clear hb); (try clear hb2); (try clear hk); (try clear hi)))
     go_ret
     exact ⟨by first | rfl | (simp [errW_none, errW_some] <;> rfl) | (simp [*, errW_none, errW_some] <;> rfl) | (simp [*, errW_none, errW_some, i64_w]; done), by repeat (first | (with_reducible first | exact HB.out | apply below_alloc | apply pw_below_drewN | apply below_drew1 | refine below_set ?_ GE467.out | refine below_set ?_ GE468.out) | exact HB.out)⟩
    ·replace c7 := Bool.eq_false_iff.mpr c7
     subst c7
     have H1 : (some false) = some r := by rw [if_neg (show ¬ (false = true) by decide)] at H; exact H
     clear H
     have H := H1
     clear H1
     obtain rfl := Option.some.inj H
     go_enter Try.func40, Try.ntmps40
     go_wp2_with (first | ((with_reducible refine gate_dst (N := 2) rfl ?_); refine box_event ?hg (N := 2) ?hd (cs := #[.int .i64 a0_0, .int .i64 a0_1, .int .i64 a0_2, .int .i64 a0_3, .int .i64 a0_4, .int .i64 a0_5]) (t := 55) ?hr ?_; (case hd => rfl); (case hg => rfl); (case hr => exact z15_10); intro gb467 hg w14 hbox hb; have n0_ := Aside0.mk (below_step z15_0 hb); have n1_ := Aside0.mk (hbox); have n2_ := Aside0.mk ((z15_27 : w.heap.size ≤ gb467)); have n3_ := Aside0.mk ((z15_27 : w.heap.size ≤ gb467)); clear HB; have HB := n0_; have BK467 := n1_; have GW467 := n2_; have GE467 := n3_; clear n0_ n1_ n2_ n3_; clear hb hbox hg) | ((with_reducible refine gate_dst (N := 3) rfl ?_); refine box_event ?hg (N := 3) ?hd (cs := #[.int .i64 a1_0, .int .i64 a1_1, .int .i64 a1_2, .int .i64 a1_3, .int .i64 a1_4, .int .i64 a1_5]) (t := 55) ?hr ?_; (case hd => rfl); (case hg => rfl); (case hr => exact z15_10); intro gb468 hg w15 hbox hb; have n0_ := Aside0.mk (blk_below (g := gb467) (o := .cells #[.int .i64 a0_0, .int .i64 a0_1, .int .i64 a0_2, .int .i64 a0_3, .int .i64 a0_4, .int .i64 a0_5] 55 (0, 0)) z15_8 hb); have n1_ := Aside0.mk (below_step z15_5 hb); have n2_ := Aside0.mk (hbox); have n3_ := Aside0.mk ((z15_36 : w.heap.size ≤ gb468)); have n4_ := Aside0.mk ((z15_36 : w.heap.size ≤ gb468)); have n5_ := Aside0.mk ((z15_28 : gb467 ≠ gb468)); have n6_ := Aside0.mk ((z15_29 : gb468 ≠ gb467)); clear BK467; clear HB; have BK467 := n0_; have HB := n1_; have BK468 := n2_; have GW468 := n3_; have GE468 := n4_; have NB467_468 := n5_; have NB468_467 := n6_; clear n0_ n1_ n2_ n3_ n4_ n5_ n6_; clear hb hbox hg; have hnb16 := NB467_468.out; have hnc16 := NB468_467.out; have hcz17_0 : w15.cell? ⟨gb467, 0, none⟩ = some (.int .i64 a0_0) := (blk_cell BK467.out 0).trans rfl; have hcz17_1 : w15.cell? ⟨gb467, 1, none⟩ = some (.int .i64 a0_1) := (blk_cell BK467.out 1).trans rfl; have hcz17_2 : w15.cell? ⟨gb467, 2, none⟩ = some (.int .i64 a0_2) := (blk_cell BK467.out 2).trans rfl; have hcz17_3 : w15.cell? ⟨gb467, 3, none⟩ = some (.int .i64 a0_3) := (blk_cell BK467.out 3).trans rfl; have hcz17_4 : w15.cell? ⟨gb467, 4, none⟩ = some (.int .i64 a0_4) := (blk_cell BK467.out 4).trans rfl; have hcz17_5 : w15.cell? ⟨gb467, 5, none⟩ = some (.int .i64 a0_5) := (blk_cell BK467.out 5).trans rfl; have hfz17_0 := blk_frozen BK467.out 0; have hfz17_1 := blk_frozen BK467.out 1; have hfz17_2 := blk_frozen BK467.out 2; have hfz17_3 := blk_frozen BK467.out 3; have hfz17_4 := blk_frozen BK467.out 4; have hfz17_5 := blk_frozen BK467.out 5; have hcz18_0 : w15.cell? ⟨gb468, 0, none⟩ = some (.int .i64 a1_0) := (blk_cell BK468.out 0).trans rfl; have hcz18_1 : w15.cell? ⟨gb468, 1, none⟩ = some (.int .i64 a1_1) := (blk_cell BK468.out 1).trans rfl; have hcz18_2 : w15.cell? ⟨gb468, 2, none⟩ = some (.int .i64 a1_2) := (blk_cell BK468.out 2).trans rfl; have hcz18_3 : w15.cell? ⟨gb468, 3, none⟩ = some (.int .i64 a1_3) := (blk_cell BK468.out 3).trans rfl; have hcz18_4 : w15.cell? ⟨gb468, 4, none⟩ = some (.int .i64 a1_4) := (blk_cell BK468.out 4).trans rfl; have hcz18_5 : w15.cell? ⟨gb468, 5, none⟩ = some (.int .i64 a1_5) := (blk_cell BK468.out 5).trans rfl; have hfz18_0 := blk_frozen BK468.out 0; have hfz18_1 := blk_frozen BK468.out 1; have hfz18_2 := blk_frozen BK468.out 2; have hfz18_3 := blk_frozen BK468.out 3; have hfz18_4 := blk_frozen BK468.out 4; have hfz18_5 := blk_frozen BK468.out 5) | ((with_reducible refine gate_callee (f := 25) rfl ?_); refine goesL_ (some 24) rfl rfl Try.func25 z15_19 rfl #[.agg #[.int .i64 a0_3, .int .i64 a0_4, .int .i64 a0_5], .agg #[.int .i64 a1_3, .int .i64 a1_4, .int .i64 a1_5]] rfl z15_1 ?_; (with_reducible refine (laws_eqExpr.calls a0_3 a0_4 a0_5 a1_3 a1_4 a1_5 false _ A6.out).mono ?_); rintro e w19 ⟨rfl, hb⟩; refine ⟨_, rfl, ?_⟩; have n0_ := Aside0.mk (blk_below (g := gb467) (o := .cells #[.int .i64 a0_0, .int .i64 a0_1, .int .i64 a0_2, .int .i64 a0_3, .int .i64 a0_4, .int .i64 a0_5] 55 (0, 0)) z15_8 hb); have n1_ := Aside0.mk (blk_below (g := gb468) (o := .cells #[.int .i64 a1_0, .int .i64 a1_1, .int .i64 a1_2, .int .i64 a1_3, .int .i64 a1_4, .int .i64 a1_5] 55 (0, 0)) (by (with_reducible repeat (first | refine blk_drewN ?_ _ | refine blk_drew ?_ | refine blk_alloc ?_ _)); exact BK468.out) hb); have n2_ := Aside0.mk (below_step (by repeat (first | (with_reducible first | exact HB.out | apply below_alloc | apply pw_below_drewN | apply below_drew1 | refine below_set ?_ GE467.out | refine below_set ?_ GE468.out) | exact HB.out)) hb); clear BK467; clear BK468; clear HB; have BK467 := n0_; have BK468 := n1_; have HB := n2_; clear n0_ n1_ n2_; (try clear hb); (try clear hb2); (try clear hk); (try clear hi)))
     go_ret
     exact ⟨by first | rfl | (simp [errW_none, errW_some] <;> rfl) | (simp [*, errW_none, errW_some] <;> rfl) | (simp [*, errW_none, errW_some, i64_w]; done), by repeat (first | (with_reducible first | exact HB.out | apply below_alloc | apply pw_below_drewN | apply below_drew1 | refine below_set ?_ GE467.out | refine below_set ?_ GE468.out) | exact HB.out)⟩
   ·rw [if_neg c5] at H
    have c5b0 : (a0_2 == a1_2) = false := beq_eq_false_iff_ne.mpr c5
    have c5b1 : (a0_2 != a1_2) = true := bne_iff_ne.mpr c5
    obtain rfl := Option.some.inj H
    go_enter Try.func40, Try.ntmps40
    go_wp2_with (first | ((with_reducible refine gate_dst (N := 2) rfl ?_); refine box_event ?hg (N := 2) ?hd (cs := #[.int .i64 a0_0, .int .i64 a0_1, .int .i64 a0_2, .int .i64 a0_3, .int .i64 a0_4, .int .i64 a0_5]) (t := 55) ?hr ?_; (case hd => rfl); (case hg => rfl); (case hr => exact z15_10); intro gb467 hg w20 hbox hb; have n0_ := Aside0.mk (below_step z15_0 hb); have n1_ := Aside0.mk (hbox); have n2_ := Aside0.mk ((z15_27 : w.heap.size ≤ gb467)); have n3_ := Aside0.mk ((z15_27 : w.heap.size ≤ gb467)); clear HB; have HB := n0_; have BK467 := n1_; have GW467 := n2_; have GE467 := n3_; clear n0_ n1_ n2_ n3_; clear hb hbox hg) | ((with_reducible refine gate_dst (N := 3) rfl ?_); refine box_event ?hg (N := 3) ?hd (cs := #[.int .i64 a1_0, .int .i64 a1_1, .int .i64 a1_2, .int .i64 a1_3, .int .i64 a1_4, .int .i64 a1_5]) (t := 55) ?hr ?_; (case hd => rfl); (case hg => rfl); (case hr => exact z15_10); intro gb468 hg w21 hbox hb; have n0_ := Aside0.mk (blk_below (g := gb467) (o := .cells #[.int .i64 a0_0, .int .i64 a0_1, .int .i64 a0_2, .int .i64 a0_3, .int .i64 a0_4, .int .i64 a0_5] 55 (0, 0)) z15_8 hb); have n1_ := Aside0.mk (below_step z15_5 hb); have n2_ := Aside0.mk (hbox); have n3_ := Aside0.mk ((z15_36 : w.heap.size ≤ gb468)); have n4_ := Aside0.mk ((z15_36 : w.heap.size ≤ gb468)); have n5_ := Aside0.mk ((z15_28 : gb467 ≠ gb468)); have n6_ := Aside0.mk ((z15_29 : gb468 ≠ gb467)); clear BK467; clear HB; have BK467 := n0_; have HB := n1_; have BK468 := n2_; have GW468 := n3_; have GE468 := n4_; have NB467_468 := n5_; have NB468_467 := n6_; clear n0_ n1_ n2_ n3_ n4_ n5_ n6_; clear hb hbox hg; have hnb22 := NB467_468.out; have hnc22 := NB468_467.out; have hcz23_0 : w21.cell? ⟨gb467, 0, none⟩ = some (.int .i64 a0_0) := (blk_cell BK467.out 0).trans rfl; have hcz23_1 : w21.cell? ⟨gb467, 1, none⟩ = some (.int .i64 a0_1) := (blk_cell BK467.out 1).trans rfl; have hcz23_2 : w21.cell? ⟨gb467, 2, none⟩ = some (.int .i64 a0_2) := (blk_cell BK467.out 2).trans rfl; have hcz23_3 : w21.cell? ⟨gb467, 3, none⟩ = some (.int .i64 a0_3) := (blk_cell BK467.out 3).trans rfl; have hcz23_4 : w21.cell? ⟨gb467, 4, none⟩ = some (.int .i64 a0_4) := (blk_cell BK467.out 4).trans rfl; have hcz23_5 : w21.cell? ⟨gb467, 5, none⟩ = some (.int .i64 a0_5) := (blk_cell BK467.out 5).trans rfl; have hfz23_0 := blk_frozen BK467.out 0; have hfz23_1 := blk_frozen BK467.out 1; have hfz23_2 := blk_frozen BK467.out 2; have hfz23_3 := blk_frozen BK467.out 3; have hfz23_4 := blk_frozen BK467.out 4; have hfz23_5 := blk_frozen BK467.out 5; have hcz24_0 : w21.cell? ⟨gb468, 0, none⟩ = some (.int .i64 a1_0) := (blk_cell BK468.out 0).trans rfl; have hcz24_1 : w21.cell? ⟨gb468, 1, none⟩ = some (.int .i64 a1_1) := (blk_cell BK468.out 1).trans rfl; have hcz24_2 : w21.cell? ⟨gb468, 2, none⟩ = some (.int .i64 a1_2) := (blk_cell BK468.out 2).trans rfl; have hcz24_3 : w21.cell? ⟨gb468, 3, none⟩ = some (.int .i64 a1_3) := (blk_cell BK468.out 3).trans rfl; have hcz24_4 : w21.cell? ⟨gb468, 4, none⟩ = some (.int .i64 a1_4) := (blk_cell BK468.out 4).trans rfl; have hcz24_5 : w21.cell? ⟨gb468, 5, none⟩ = some (.int .i64 a1_5) := (blk_cell BK468.out 5).trans rfl; have hfz24_0 := blk_frozen BK468.out 0; have hfz24_1 := blk_frozen BK468.out 1; have hfz24_2 := blk_frozen BK468.out 2; have hfz24_3 := blk_frozen BK468.out 3; have hfz24_4 := blk_frozen BK468.out 4; have hfz24_5 := blk_frozen BK468.out 5))
    go_ret
    exact ⟨by first | rfl | (simp [errW_none, errW_some] <;> rfl) | (simp [*, errW_none, errW_some] <;> rfl) | (simp [*, errW_none, errW_some, i64_w]; done), by repeat (first | (with_reducible first | exact HB.out | apply below_alloc | apply pw_below_drewN | apply below_drew1 | refine below_set ?_ GE467.out | refine below_set ?_ GE468.out) | exact HB.out)⟩
  ·rw [if_neg c4] at H
   have c4b0 : (a0_1 == a1_1) = false := beq_eq_false_iff_ne.mpr c4
   have c4b1 : (a0_1 != a1_1) = true := bne_iff_ne.mpr c4
   obtain rfl := Option.some.inj H
   go_enter Try.func40, Try.ntmps40
   go_wp2_with (first | ((with_reducible refine gate_dst (N := 2) rfl ?_); refine box_event ?hg (N := 2) ?hd (cs := #[.int .i64 a0_0, .int .i64 a0_1, .int .i64 a0_2, .int .i64 a0_3, .int .i64 a0_4, .int .i64 a0_5]) (t := 55) ?hr ?_; (case hd => rfl); (case hg => rfl); (case hr => exact z15_10); intro gb467 hg w25 hbox hb; have n0_ := Aside0.mk (below_step z15_0 hb); have n1_ := Aside0.mk (hbox); have n2_ := Aside0.mk ((z15_27 : w.heap.size ≤ gb467)); have n3_ := Aside0.mk ((z15_27 : w.heap.size ≤ gb467)); clear HB; have HB := n0_; have BK467 := n1_; have GW467 := n2_; have GE467 := n3_; clear n0_ n1_ n2_ n3_; clear hb hbox hg) | ((with_reducible refine gate_dst (N := 3) rfl ?_); refine box_event ?hg (N := 3) ?hd (cs := #[.int .i64 a1_0, .int .i64 a1_1, .int .i64 a1_2, .int .i64 a1_3, .int .i64 a1_4, .int .i64 a1_5]) (t := 55) ?hr ?_; (case hd => rfl); (case hg => rfl); (case hr => exact z15_10); intro gb468 hg w26 hbox hb; have n0_ := Aside0.mk (blk_below (g := gb467) (o := .cells #[.int .i64 a0_0, .int .i64 a0_1, .int .i64 a0_2, .int .i64 a0_3, .int .i64 a0_4, .int .i64 a0_5] 55 (0, 0)) z15_8 hb); have n1_ := Aside0.mk (below_step z15_5 hb); have n2_ := Aside0.mk (hbox); have n3_ := Aside0.mk ((z15_36 : w.heap.size ≤ gb468)); have n4_ := Aside0.mk ((z15_36 : w.heap.size ≤ gb468)); have n5_ := Aside0.mk ((z15_28 : gb467 ≠ gb468)); have n6_ := Aside0.mk ((z15_29 : gb468 ≠ gb467)); clear BK467; clear HB; have BK467 := n0_; have HB := n1_; have BK468 := n2_; have GW468 := n3_; have GE468 := n4_; have NB467_468 := n5_; have NB468_467 := n6_; clear n0_ n1_ n2_ n3_ n4_ n5_ n6_; clear hb hbox hg; have hnb27 := NB467_468.out; have hnc27 := NB468_467.out; have hcz28_0 : w26.cell? ⟨gb467, 0, none⟩ = some (.int .i64 a0_0) := (blk_cell BK467.out 0).trans rfl; have hcz28_1 : w26.cell? ⟨gb467, 1, none⟩ = some (.int .i64 a0_1) := (blk_cell BK467.out 1).trans rfl; have hcz28_2 : w26.cell? ⟨gb467, 2, none⟩ = some (.int .i64 a0_2) := (blk_cell BK467.out 2).trans rfl; have hcz28_3 : w26.cell? ⟨gb467, 3, none⟩ = some (.int .i64 a0_3) := (blk_cell BK467.out 3).trans rfl; have hcz28_4 : w26.cell? ⟨gb467, 4, none⟩ = some (.int .i64 a0_4) := (blk_cell BK467.out 4).trans rfl; have hcz28_5 : w26.cell? ⟨gb467, 5, none⟩ = some (.int .i64 a0_5) := (blk_cell BK467.out 5).trans rfl; have hfz28_0 := blk_frozen BK467.out 0; have hfz28_1 := blk_frozen BK467.out 1; have hfz28_2 := blk_frozen BK467.out 2; have hfz28_3 := blk_frozen BK467.out 3; have hfz28_4 := blk_frozen BK467.out 4; have hfz28_5 := blk_frozen BK467.out 5; have hcz29_0 : w26.cell? ⟨gb468, 0, none⟩ = some (.int .i64 a1_0) := (blk_cell BK468.out 0).trans rfl; have hcz29_1 : w26.cell? ⟨gb468, 1, none⟩ = some (.int .i64 a1_1) := (blk_cell BK468.out 1).trans rfl; have hcz29_2 : w26.cell? ⟨gb468, 2, none⟩ = some (.int .i64 a1_2) := (blk_cell BK468.out 2).trans rfl; have hcz29_3 : w26.cell? ⟨gb468, 3, none⟩ = some (.int .i64 a1_3) := (blk_cell BK468.out 3).trans rfl; have hcz29_4 : w26.cell? ⟨gb468, 4, none⟩ = some (.int .i64 a1_4) := (blk_cell BK468.out 4).trans rfl; have hcz29_5 : w26.cell? ⟨gb468, 5, none⟩ = some (.int .i64 a1_5) := (blk_cell BK468.out 5).trans rfl; have hfz29_0 := blk_frozen BK468.out 0; have hfz29_1 := blk_frozen BK468.out 1; have hfz29_2 := blk_frozen BK468.out 2; have hfz29_3 := blk_frozen BK468.out 3; have hfz29_4 := blk_frozen BK468.out 4; have hfz29_5 := blk_frozen BK468.out 5))
   go_ret
   exact ⟨by first | rfl | (simp [errW_none, errW_some] <;> rfl) | (simp [*, errW_none, errW_some] <;> rfl) | (simp [*, errW_none, errW_some, i64_w]; done), by repeat (first | (with_reducible first | exact HB.out | apply below_alloc | apply pw_below_drewN | apply below_drew1 | refine below_set ?_ GE467.out | refine below_set ?_ GE468.out) | exact HB.out)⟩
 ·rw [if_neg c3] at H
  have c3b0 : (a0_0 == a1_0) = false := beq_eq_false_iff_ne.mpr c3
  have c3b1 : (a0_0 != a1_0) = true := bne_iff_ne.mpr c3
  obtain rfl := Option.some.inj H
  go_enter Try.func40, Try.ntmps40
  go_wp2_with (first | ((with_reducible refine gate_dst (N := 2) rfl ?_); refine box_event ?hg (N := 2) ?hd (cs := #[.int .i64 a0_0, .int .i64 a0_1, .int .i64 a0_2, .int .i64 a0_3, .int .i64 a0_4, .int .i64 a0_5]) (t := 55) ?hr ?_; (case hd => rfl); (case hg => rfl); (case hr => exact z15_10); intro gb467 hg w30 hbox hb; have n0_ := Aside0.mk (below_step z15_0 hb); have n1_ := Aside0.mk (hbox); have n2_ := Aside0.mk ((z15_27 : w.heap.size ≤ gb467)); have n3_ := Aside0.mk ((z15_27 : w.heap.size ≤ gb467)); clear HB; have HB := n0_; have BK467 := n1_; have GW467 := n2_; have GE467 := n3_; clear n0_ n1_ n2_ n3_; clear hb hbox hg) | ((with_reducible refine gate_dst (N := 3) rfl ?_); refine box_event ?hg (N := 3) ?hd (cs := #[.int .i64 a1_0, .int .i64 a1_1, .int .i64 a1_2, .int .i64 a1_3, .int .i64 a1_4, .int .i64 a1_5]) (t := 55) ?hr ?_; (case hd => rfl); (case hg => rfl); (case hr => exact z15_10); intro gb468 hg w31 hbox hb; have n0_ := Aside0.mk (blk_below (g := gb467) (o := .cells #[.int .i64 a0_0, .int .i64 a0_1, .int .i64 a0_2, .int .i64 a0_3, .int .i64 a0_4, .int .i64 a0_5] 55 (0, 0)) z15_8 hb); have n1_ := Aside0.mk (below_step z15_5 hb); have n2_ := Aside0.mk (hbox); have n3_ := Aside0.mk ((z15_36 : w.heap.size ≤ gb468)); have n4_ := Aside0.mk ((z15_36 : w.heap.size ≤ gb468)); have n5_ := Aside0.mk ((z15_28 : gb467 ≠ gb468)); have n6_ := Aside0.mk ((z15_29 : gb468 ≠ gb467)); clear BK467; clear HB; have BK467 := n0_; have HB := n1_; have BK468 := n2_; have GW468 := n3_; have GE468 := n4_; have NB467_468 := n5_; have NB468_467 := n6_; clear n0_ n1_ n2_ n3_ n4_ n5_ n6_; clear hb hbox hg; have hnb32 := NB467_468.out; have hnc32 := NB468_467.out; have hcz33_0 : w31.cell? ⟨gb467, 0, none⟩ = some (.int .i64 a0_0) := (blk_cell BK467.out 0).trans rfl; have hcz33_1 : w31.cell? ⟨gb467, 1, none⟩ = some (.int .i64 a0_1) := (blk_cell BK467.out 1).trans rfl; have hcz33_2 : w31.cell? ⟨gb467, 2, none⟩ = some (.int .i64 a0_2) := (blk_cell BK467.out 2).trans rfl; have hcz33_3 : w31.cell? ⟨gb467, 3, none⟩ = some (.int .i64 a0_3) := (blk_cell BK467.out 3).trans rfl; have hcz33_4 : w31.cell? ⟨gb467, 4, none⟩ = some (.int .i64 a0_4) := (blk_cell BK467.out 4).trans rfl; have hcz33_5 : w31.cell? ⟨gb467, 5, none⟩ = some (.int .i64 a0_5) := (blk_cell BK467.out 5).trans rfl; have hfz33_0 := blk_frozen BK467.out 0; have hfz33_1 := blk_frozen BK467.out 1; have hfz33_2 := blk_frozen BK467.out 2; have hfz33_3 := blk_frozen BK467.out 3; have hfz33_4 := blk_frozen BK467.out 4; have hfz33_5 := blk_frozen BK467.out 5; have hcz34_0 : w31.cell? ⟨gb468, 0, none⟩ = some (.int .i64 a1_0) := (blk_cell BK468.out 0).trans rfl; have hcz34_1 : w31.cell? ⟨gb468, 1, none⟩ = some (.int .i64 a1_1) := (blk_cell BK468.out 1).trans rfl; have hcz34_2 : w31.cell? ⟨gb468, 2, none⟩ = some (.int .i64 a1_2) := (blk_cell BK468.out 2).trans rfl; have hcz34_3 : w31.cell? ⟨gb468, 3, none⟩ = some (.int .i64 a1_3) := (blk_cell BK468.out 3).trans rfl; have hcz34_4 : w31.cell? ⟨gb468, 4, none⟩ = some (.int .i64 a1_4) := (blk_cell BK468.out 4).trans rfl; have hcz34_5 : w31.cell? ⟨gb468, 5, none⟩ = some (.int .i64 a1_5) := (blk_cell BK468.out 5).trans rfl; have hfz34_0 := blk_frozen BK468.out 0; have hfz34_1 := blk_frozen BK468.out 1; have hfz34_2 := blk_frozen BK468.out 2; have hfz34_3 := blk_frozen BK468.out 3; have hfz34_4 := blk_frozen BK468.out 4; have hfz34_5 := blk_frozen BK468.out 5))
  go_ret
  exact ⟨by first | rfl | (simp [errW_none, errW_some] <;> rfl) | (simp [*, errW_none, errW_some] <;> rfl) | (simp [*, errW_none, errW_some, i64_w]; done), by repeat (first | (with_reducible first | exact HB.out | apply below_alloc | apply pw_below_drewN | apply below_drew1 | refine below_set ?_ GE467.out | refine below_set ?_ GE468.out) | exact HB.out)⟩
def laws_eqStmtS.l0 : Nat → List (S55) → List (S55) → Int → Option (Bool)
 | 0, _, _, _ => none
 | k + 1, x0, x1, x5 => if x5 < (x0.length : Int) then (if 0 ≤ x5 then (if x5 < (x1.length : Int) then ((laws_eqStmt.f ((rd_T55 x0 x5).f0) ((rd_T55 x0 x5).f1) ((rd_T55 x0 x5).f2) ((rd_T55 x0 x5).f3.f0) ((rd_T55 x0 x5).f3.f1) ((rd_T55 x0 x5).f3.f2) ((rd_T55 x1 x5).f0) ((rd_T55 x1 x5).f1) ((rd_T55 x1 x5).f2) ((rd_T55 x1 x5).f3.f0) ((rd_T55 x1 x5).f3.f1) ((rd_T55 x1 x5).f3.f2)).bind fun t472 => (if t472 = true then (laws_eqStmtS.l0 k x0 x1 (wrap64 (x5 + 1))) else (some false))) else (none)) else (none)) else (some true)
def laws_eqStmtS.f (k : Nat) (l0 : List (S55)) (l1 : List (S55)) : Option (Bool) := if (l0.length : Int) = (l1.length : Int) then (laws_eqStmtS.l0 k l0 l1 0) else (some false)
def laws_eqStmtS.T6 : Bool × List (List Nat × List Nat) := (true, [([], []), ([], []), ([0, 1], [0, 1]), ([2], [2]), ([], []), ([], []), ([4, 5], [4, 5]), ([6], [6]), ([3, 7], [3, 7]), ([8], [8])])
def laws_eqStmtS.B6 : List Nat := [0, 0, 3, 7, 0, 0, 48, 112, 255, 511]
theorem laws_eqStmtS.tab6 : rtab .any (opsOf Try.f24 6) = laws_eqStmtS.T6 := by kernel_rfl
theorem laws_eqStmtS.bits6 : waitsOk laws_eqStmtS.T6.2 laws_eqStmtS.B6 = true := by kernel_rfl
set_option maxHeartbeats 8000000 in
set_option maxRecDepth 100000 in
theorem laws_eqStmtS.calls (k : Nat) (A0 : Option Addr) (c0 : Nat) (l0 : List (S55)) (A1 : Option Addr) (c1 : Nat) (l1 : List (S55)) (r : Bool) (w : World) (hr0 : Kd.C k55 w A0 l0.length l0) (hc0 : l0.length ≤ c0) (hr1 : Kd.C k55 w A1 l1.length l1) (hc1 : l1.length ≤ c1) (h : laws_eqStmtS.f k l0 l1 = some r) :
  Calls Try.prog 24 #[.slice A0 l0.length c0, .slice A1 l1.length c1] w fun e w' => e = .returned (.bool r) ∧ Below w.heap.size w w' := by
 have hu55 := Try.underlying55
 have HR0 := Aside0.mk hr0
 have HC0 := Aside0.mk hc0
 clear hr0 hc0
 have HR1 := Aside0.mk hr1
 have HC1 := Aside0.mk hc1
 clear hr1 hc1
 have HB := Aside0.mk (Below.refl w.heap.size w)
 have H : (if (l0.length : Int) = (l1.length : Int) then (laws_eqStmtS.l0 k l0 l1 0) else (some false)) = some r := h
 clear h
 by_cases c3 : (l0.length : Int) = (l1.length : Int)
 ·rw [if_pos c3] at H
  have c3b0 : ((l0.length : Int) == (l1.length : Int)) = true := beq_iff_eq.mpr c3
  have c3b1 : ((l0.length : Int) != (l1.length : Int)) = false := bne_eq_false_iff_eq.mpr c3
  have c3b2 : (l0.length == l1.length) = true := by first | simpa using c3 | (simp at c3 ⊢; omega)
  clear c3
  have H' := Aside0.mk H
  clear H
  go_enter Try.func24, Try.ntmps24
  go_wp2
  go_loopg [5] k (fun kq v5 w' => ∃ (x5_1 : Int), v5 = .int .i64 x5_1 ∧ Aside0 (laws_eqStmtS.l0 kq l0 l1 x5_1 = some r) ∧ Aside0 (kq ≤ k) ∧ Aside0 (Below w.heap.size w w'))
  case atStart => exact ⟨(0), (by first | rfl | (simp; done) | (simp [*]; done)), H', ⟨Nat.le_refl _⟩, ⟨by repeat (first | (with_reducible first | exact HB.out | apply below_alloc | apply pw_below_drewN | apply below_drew1) | exact HB.out)⟩⟩
  case round =>
   clear H'
   (try clear c1); (try clear c3); (try clear c3b0); (try clear c3b1); (try clear c3b2)
   obtain ⟨x5_1, rfl, HA, HK1, HB⟩ := hrel
   cases gk with
   | zero => exact absurd HA.out (by simp [laws_eqStmtS.l0])
   | succ k1 =>
    have H := HA.out
    clear HA
    simp only [laws_eqStmtS.l0] at H
    by_cases c4 : x5_1 < (l0.length : Int)
    ·rw [if_pos c4] at H
     have c4b0 : decide (x5_1 < (l0.length : Int)) = true := decide_eq_true c4
     clear c4
     by_cases c5 : 0 ≤ x5_1
     ·rw [if_pos c5] at H
      have c5b0 : decide (0 ≤ x5_1) = true := decide_eq_true c5
      clear c5
      by_cases c6 : x5_1 < (l1.length : Int)
      ·rw [if_pos c6] at H
       have c6b0 : decide (x5_1 < (l1.length : Int)) = true := decide_eq_true c6
       clear c6
       replace H := Option.bind_eq_some_iff.mp H
       obtain ⟨t472, A70, H⟩ := H
       replace H : (if t472 = true then (laws_eqStmtS.l0 k1 l0 l1 (wrap64 (x5_1 + 1))) else (some false)) = some r := H
       have A7 := Aside0.mk A70
       clear A70
       by_cases c8 : t472 = true
       ·subst c8
        have H1 : (laws_eqStmtS.l0 k1 l0 l1 (wrap64 (x5_1 + 1))) = some r := by rw [if_pos rfl] at H; exact H
        clear H
        have H := H1
        clear H1
        have H' := Aside0.mk H
        clear H
        try go_wp2
        have n0_ := Aside0.mk (below_drew1 HB.out)
        clear HB
        have HB := n0_
        clear n0_
        have p470 : 0 ≤ (x5_1 : Int) := of_decide_eq_true z15_25
        have q470 : x5_1 < (l0.length : Int) := of_decide_eq_true z15_25
        obtain ⟨ad470, e470, hx470_0, hx470_1, hx470_2, hx470_3, hx470_4, hx470_5⟩ := at_T55 HR0.out x5_1 p470 q470
        have hw470_5 := hx470_5
        have hw470_4 := hx470_4
        have hw470_3 := hx470_3
        have hw470_2 := hx470_2
        have hw470_1 := hx470_1
        have hw470_0 := hx470_0
        cases e470
        replace hx470_0 := (HB.out.cell (World.block_lt_of_cell? w _ hx470_0)).trans hx470_0
        replace hx470_1 := (HB.out.cell (World.block_lt_of_cell? w _ hx470_1)).trans hx470_1
        replace hx470_2 := (HB.out.cell (World.block_lt_of_cell? w _ hx470_2)).trans hx470_2
        replace hx470_3 := (HB.out.cell (World.block_lt_of_cell? w _ hx470_3)).trans hx470_3
        replace hx470_4 := (HB.out.cell (World.block_lt_of_cell? w _ hx470_4)).trans hx470_4
        replace hx470_5 := (HB.out.cell (World.block_lt_of_cell? w _ hx470_5)).trans hx470_5
        replace p470 := eq_true p470
        replace q470 := eq_true q470
        have p471 : 0 ≤ (x5_1 : Int) := of_decide_eq_true z15_25
        have q471 : x5_1 < (l1.length : Int) := of_decide_eq_true z15_25
        obtain ⟨ad471, e471, hx471_0, hx471_1, hx471_2, hx471_3, hx471_4, hx471_5⟩ := at_T55 HR1.out x5_1 p471 q471
        have hw471_5 := hx471_5
        have hw471_4 := hx471_4
        have hw471_3 := hx471_3
        have hw471_2 := hx471_2
        have hw471_1 := hx471_1
        have hw471_0 := hx471_0
        cases e471
        replace hx471_0 := (HB.out.cell (World.block_lt_of_cell? w _ hx471_0)).trans hx471_0
        replace hx471_1 := (HB.out.cell (World.block_lt_of_cell? w _ hx471_1)).trans hx471_1
        replace hx471_2 := (HB.out.cell (World.block_lt_of_cell? w _ hx471_2)).trans hx471_2
        replace hx471_3 := (HB.out.cell (World.block_lt_of_cell? w _ hx471_3)).trans hx471_3
        replace hx471_4 := (HB.out.cell (World.block_lt_of_cell? w _ hx471_4)).trans hx471_4
        replace hx471_5 := (HB.out.cell (World.block_lt_of_cell? w _ hx471_5)).trans hx471_5
        replace p471 := eq_true p471
        replace q471 := eq_true q471
        refine start_ (n := 10) (S := fun w' => w'.cell? (ad470.add ((x5_1).toNat * 6)) = some (.int .i64 ((rd_T55 l0 x5_1).f0)) ∧ w'.cell? ⟨(ad470.add ((x5_1).toNat * 6)).block, (ad470.add ((x5_1).toNat * 6)).off + 1, none⟩ = some (.int .i64 ((rd_T55 l0 x5_1).f1)) ∧ w'.cell? ⟨(ad470.add ((x5_1).toNat * 6)).block, (ad470.add ((x5_1).toNat * 6)).off + 2, none⟩ = some (.int .i64 ((rd_T55 l0 x5_1).f2)) ∧ w'.cell? ⟨(ad470.add ((x5_1).toNat * 6)).block, (ad470.add ((x5_1).toNat * 6)).off + 3, none⟩ = some (.int .i64 ((rd_T55 l0 x5_1).f3.f0)) ∧ w'.cell? ⟨(ad470.add ((x5_1).toNat * 6)).block, (ad470.add ((x5_1).toNat * 6)).off + 4, none⟩ = some (.int .i64 ((rd_T55 l0 x5_1).f3.f1)) ∧ w'.cell? ⟨(ad470.add ((x5_1).toNat * 6)).block, (ad470.add ((x5_1).toNat * 6)).off + 5, none⟩ = some (.int .i64 ((rd_T55 l0 x5_1).f3.f2)) ∧ w'.cell? (ad471.add ((x5_1).toNat * 6)) = some (.int .i64 ((rd_T55 l1 x5_1).f0)) ∧ w'.cell? ⟨(ad471.add ((x5_1).toNat * 6)).block, (ad471.add ((x5_1).toNat * 6)).off + 1, none⟩ = some (.int .i64 ((rd_T55 l1 x5_1).f1)) ∧ w'.cell? ⟨(ad471.add ((x5_1).toNat * 6)).block, (ad471.add ((x5_1).toNat * 6)).off + 2, none⟩ = some (.int .i64 ((rd_T55 l1 x5_1).f2)) ∧ w'.cell? ⟨(ad471.add ((x5_1).toNat * 6)).block, (ad471.add ((x5_1).toNat * 6)).off + 3, none⟩ = some (.int .i64 ((rd_T55 l1 x5_1).f3.f0)) ∧ w'.cell? ⟨(ad471.add ((x5_1).toNat * 6)).block, (ad471.add ((x5_1).toNat * 6)).off + 4, none⟩ = some (.int .i64 ((rd_T55 l1 x5_1).f3.f1)) ∧ w'.cell? ⟨(ad471.add ((x5_1).toNat * 6)).block, (ad471.add ((x5_1).toNat * 6)).off + 5, none⟩ = some (.int .i64 ((rd_T55 l1 x5_1).f3.f2))) (ds := []) #[false, false, false, false, false, false, false, false, false, false] z15_19 rfl rfl ⟨((HB.out.cell (World.block_lt_of_cell? w _ hw470_0)).trans hw470_0), ((HB.out.cell (World.block_lt_of_cell? w _ hw470_1)).trans hw470_1), ((HB.out.cell (World.block_lt_of_cell? w _ hw470_2)).trans hw470_2), ((HB.out.cell (World.block_lt_of_cell? w _ hw470_3)).trans hw470_3), ((HB.out.cell (World.block_lt_of_cell? w _ hw470_4)).trans hw470_4), ((HB.out.cell (World.block_lt_of_cell? w _ hw470_5)).trans hw470_5), ((HB.out.cell (World.block_lt_of_cell? w _ hw471_0)).trans hw471_0), ((HB.out.cell (World.block_lt_of_cell? w _ hw471_1)).trans hw471_1), ((HB.out.cell (World.block_lt_of_cell? w _ hw471_2)).trans hw471_2), ((HB.out.cell (World.block_lt_of_cell? w _ hw471_3)).trans hw471_3), ((HB.out.cell (World.block_lt_of_cell? w _ hw471_4)).trans hw471_4), ((HB.out.cell (World.block_lt_of_cell? w _ hw471_5)).trans hw471_5)⟩ (fun hHeld => ?_); refine with_tabW laws_eqStmtS.tab6 laws_eqStmtS.bits6 (fun HT_ HW_ => ?_)
        generalize wr.drew = w9 at HB hx470_0 hx470_1 hx470_2 hx470_3 hx470_4 hx470_5 hx471_0 hx471_1 hx471_2 hx471_3 hx471_4 hx471_5 hHeld ⊢
        refine pure_ (i := 0) (N := some 17) (v := ?_) (a' := ?_) #[true, false, false, false, false, false, false, false, false, false] rfl rfl (any_of HT_.out z15_19) (fun _ _ _ h => h) (Or.inl ⟨by rfl, ?_⟩) ?_ ?_
        rotate_left
        ·intro w'
         go_simp
         with_reducible rfl
        rotate_left
        ·simp only [Act.put, List.setIfInBounds_toArray, List.set_cons_zero, List.set_cons_succ, i64_w, i32_w]
         rfl
        refine pure_ (i := 1) (N := some 18) (v := ?_) (a' := ?_) #[true, true, false, false, false, false, false, false, false, false] rfl rfl (any_of HT_.out z15_19) (fun _ _ _ h => h) (Or.inl ⟨by rfl, ?_⟩) ?_ ?_
        rotate_left
        ·intro w'
         go_simp
         with_reducible rfl
        rotate_left
        ·simp only [Act.put, List.setIfInBounds_toArray, List.set_cons_zero, List.set_cons_succ, i64_w, i32_w]
         rfl
        refine pure_ (i := 2) (N := some 19) (v := ?_) (a' := ?_) #[true, true, true, false, false, false, false, false, false, false] rfl rfl (any_of HT_.out z15_19) (fun _ _ _ h => h) (Or.inl ⟨by rfl, ?_⟩) ?_ ?_
        rotate_left
        ·intro w'
         go_simp
         with_reducible rfl
        rotate_left
        ·simp only [Act.put, List.setIfInBounds_toArray, List.set_cons_zero, List.set_cons_succ, i64_w, i32_w]
         rfl
        refine pure_ (i := 4) (N := some 21) (v := ?_) (a' := ?_) #[true, true, true, false, true, false, false, false, false, false] rfl rfl (any_of HT_.out z15_19) (fun _ _ _ h => h) (Or.inl ⟨by rfl, ?_⟩) ?_ ?_
        rotate_left
        ·intro w'
         go_simp
         with_reducible rfl
        rotate_left
        ·simp only [Act.put, List.setIfInBounds_toArray, List.set_cons_zero, List.set_cons_succ, i64_w, i32_w]
         rfl
        refine pure_ (i := 5) (N := some 22) (v := ?_) (a' := ?_) #[true, true, true, false, true, true, false, false, false, false] rfl rfl (any_of HT_.out z15_19) (fun _ _ _ h => h) (Or.inl ⟨by rfl, ?_⟩) ?_ ?_
        rotate_left
        ·intro w'
         go_simp
         with_reducible rfl
        rotate_left
        ·simp only [Act.put, List.setIfInBounds_toArray, List.set_cons_zero, List.set_cons_succ, i64_w, i32_w]
         rfl
        refine pure_ (i := 6) (N := some 23) (v := ?_) (a' := ?_) #[true, true, true, false, true, true, true, false, false, false] rfl rfl (any_of HT_.out z15_19) (fun _ _ _ h => h) (Or.inl ⟨by rfl, ?_⟩) ?_ ?_
        rotate_left
        ·intro w'
         go_simp
         with_reducible rfl
        rotate_left
        ·simp only [Act.put, List.setIfInBounds_toArray, List.set_cons_zero, List.set_cons_succ, i64_w, i32_w]
         rfl
        refine take_ (i := 3) (N := some 20) (v := ?_) (a' := ?_) #[true, true, true, true, true, true, true, false, false, false] rfl rfl (take_ofW HT_.out HW_.out z15_19) (fun _ _ _ h => h) (Or.inl ⟨by rfl, ?_⟩) hHeld ?_ ?_
        rotate_left
        ·rintro w' ⟨s0, s1, s2, s3, s4, s5, s6, s7, s8, s9, s10, s11⟩
         go_simp
         with_reducible rfl
        rotate_left
        ·simp only [Act.put, List.setIfInBounds_toArray, List.set_cons_zero, List.set_cons_succ, i64_w, i32_w]
         rfl
        refine take_ (i := 7) (N := some 24) (v := ?_) (a' := ?_) #[true, true, true, true, true, true, true, true, false, false] rfl rfl (take_ofW HT_.out HW_.out z15_19) (fun _ _ _ h => h) (Or.inl ⟨by rfl, ?_⟩) hHeld ?_ ?_
        rotate_left
        ·rintro w' ⟨s0, s1, s2, s3, s4, s5, s6, s7, s8, s9, s10, s11⟩
         go_simp
         with_reducible rfl
        rotate_left
        ·simp only [Act.put, List.setIfInBounds_toArray, List.set_cons_zero, List.set_cons_succ, i64_w, i32_w]
         rfl
        refine one_ (i := 8) (N := some 25) #[true, true, true, true, true, true, true, true, true, false] rfl rfl (one_of HT_.out z15_19) (by decide) (fun K hK => ?_)
        refine goes_ Try.func40 z15_19 rfl #[.agg #[.int .i64 ((rd_T55 l0 x5_1).f0), .int .i64 ((rd_T55 l0 x5_1).f1), .int .i64 ((rd_T55 l0 x5_1).f2), .int .i64 ((rd_T55 l0 x5_1).f3.f0), .int .i64 ((rd_T55 l0 x5_1).f3.f1), .int .i64 ((rd_T55 l0 x5_1).f3.f2)], .agg #[.int .i64 ((rd_T55 l1 x5_1).f0), .int .i64 ((rd_T55 l1 x5_1).f1), .int .i64 ((rd_T55 l1 x5_1).f2), .int .i64 ((rd_T55 l1 x5_1).f3.f0), .int .i64 ((rd_T55 l1 x5_1).f3.f1), .int .i64 ((rd_T55 l1 x5_1).f3.f2)]] (by rfl) rfl rfl z15_1 ?_
        with_reducible refine (laws_eqStmt.calls ((rd_T55 l0 x5_1).f0) ((rd_T55 l0 x5_1).f1) ((rd_T55 l0 x5_1).f2) ((rd_T55 l0 x5_1).f3.f0) ((rd_T55 l0 x5_1).f3.f1) ((rd_T55 l0 x5_1).f3.f2) ((rd_T55 l1 x5_1).f0) ((rd_T55 l1 x5_1).f1) ((rd_T55 l1 x5_1).f2) ((rd_T55 l1 x5_1).f3.f0) ((rd_T55 l1 x5_1).f3.f1) ((rd_T55 l1 x5_1).f3.f2) true _ A7.out).mono ?_
        rintro e w10 ⟨rfl, hb⟩
        refine ⟨_, rfl, ?_⟩
        have n0_ := Aside0.mk (below_step z15_0 hb)
        clear HB
        have HB := n0_
        clear n0_
        (try clear hb)
        (try clear hb2)
        (try clear hk)
        (try clear hi)
        refine hK.out _ _ ⟨((HB.out.cell (World.block_lt_of_cell? w _ hw470_0)).trans hw470_0), ((HB.out.cell (World.block_lt_of_cell? w _ hw470_1)).trans hw470_1), ((HB.out.cell (World.block_lt_of_cell? w _ hw470_2)).trans hw470_2), ((HB.out.cell (World.block_lt_of_cell? w _ hw470_3)).trans hw470_3), ((HB.out.cell (World.block_lt_of_cell? w _ hw470_4)).trans hw470_4), ((HB.out.cell (World.block_lt_of_cell? w _ hw470_5)).trans hw470_5), ((HB.out.cell (World.block_lt_of_cell? w _ hw471_0)).trans hw471_0), ((HB.out.cell (World.block_lt_of_cell? w _ hw471_1)).trans hw471_1), ((HB.out.cell (World.block_lt_of_cell? w _ hw471_2)).trans hw471_2), ((HB.out.cell (World.block_lt_of_cell? w _ hw471_3)).trans hw471_3), ((HB.out.cell (World.block_lt_of_cell? w _ hw471_4)).trans hw471_4), ((HB.out.cell (World.block_lt_of_cell? w _ hw471_5)).trans hw471_5)⟩ (fun hHeld => ?_)
        clear hK K
        refine norm_ (a' := ?_) ?_ ?_
        rotate_left
        ·show Act.put _ (some 25) _ = _
         simp only [Act.put, List.setIfInBounds_toArray, List.set_cons_zero, List.set_cons_succ, i64_w, i32_w]
         rfl
        refine pure_ (i := 9) (N := some 26) (v := ?_) (a' := ?_) #[true, true, true, true, true, true, true, true, true, true] rfl rfl (any_of HT_.out z15_19) (fun _ _ _ h => h) (Or.inl ⟨by rfl, ?_⟩) ?_ ?_
        rotate_left
        ·intro w'
         go_simp
         with_reducible rfl
        rotate_left
        ·simp only [Act.put, List.setIfInBounds_toArray, List.set_cons_zero, List.set_cons_succ, i64_w, i32_w]
         rfl
        refine done_ (done_of HT_.out z15_19) ?_
        try go_wp2
        go_roundg k1
        case measure => have := HK1.out; omega
        case rel => exact ⟨(wrap64 (x5_1 + 1)), (by first | rfl | (simp; done) | (simp [*]; done)), H', ⟨by have := HK1.out; omega⟩, ⟨by repeat (first | (with_reducible first | exact HB.out | apply below_alloc | apply pw_below_drewN | apply below_drew1) | exact HB.out)⟩⟩
       ·replace c8 := Bool.eq_false_iff.mpr c8
        subst c8
        have H1 : (some false) = some r := by rw [if_neg (show ¬ (false = true) by decide)] at H; exact H
        clear H
        have H := H1
        clear H1
        obtain rfl := Option.some.inj H
        try go_wp2
        have n0_ := Aside0.mk (below_drew1 HB.out)
        clear HB
        have HB := n0_
        clear n0_
        have p470 : 0 ≤ (x5_1 : Int) := of_decide_eq_true z15_25
        have q470 : x5_1 < (l0.length : Int) := of_decide_eq_true z15_25
        obtain ⟨ad470, e470, hx470_0, hx470_1, hx470_2, hx470_3, hx470_4, hx470_5⟩ := at_T55 HR0.out x5_1 p470 q470
        have hw470_5 := hx470_5
        have hw470_4 := hx470_4
        have hw470_3 := hx470_3
        have hw470_2 := hx470_2
        have hw470_1 := hx470_1
        have hw470_0 := hx470_0
        cases e470
        replace hx470_0 := (HB.out.cell (World.block_lt_of_cell? w _ hx470_0)).trans hx470_0
        replace hx470_1 := (HB.out.cell (World.block_lt_of_cell? w _ hx470_1)).trans hx470_1
        replace hx470_2 := (HB.out.cell (World.block_lt_of_cell? w _ hx470_2)).trans hx470_2
        replace hx470_3 := (HB.out.cell (World.block_lt_of_cell? w _ hx470_3)).trans hx470_3
        replace hx470_4 := (HB.out.cell (World.block_lt_of_cell? w _ hx470_4)).trans hx470_4
        replace hx470_5 := (HB.out.cell (World.block_lt_of_cell? w _ hx470_5)).trans hx470_5
        replace p470 := eq_true p470
        replace q470 := eq_true q470
        have p471 : 0 ≤ (x5_1 : Int) := of_decide_eq_true z15_25
        have q471 : x5_1 < (l1.length : Int) := of_decide_eq_true z15_25
        obtain ⟨ad471, e471, hx471_0, hx471_1, hx471_2, hx471_3, hx471_4, hx471_5⟩ := at_T55 HR1.out x5_1 p471 q471
        have hw471_5 := hx471_5
        have hw471_4 := hx471_4
        have hw471_3 := hx471_3
        have hw471_2 := hx471_2
        have hw471_1 := hx471_1
        have hw471_0 := hx471_0
        cases e471
        replace hx471_0 := (HB.out.cell (World.block_lt_of_cell? w _ hx471_0)).trans hx471_0
        replace hx471_1 := (HB.out.cell (World.block_lt_of_cell? w _ hx471_1)).trans hx471_1
        replace hx471_2 := (HB.out.cell (World.block_lt_of_cell? w _ hx471_2)).trans hx471_2
        replace hx471_3 := (HB.out.cell (World.block_lt_of_cell? w _ hx471_3)).trans hx471_3
        replace hx471_4 := (HB.out.cell (World.block_lt_of_cell? w _ hx471_4)).trans hx471_4
        replace hx471_5 := (HB.out.cell (World.block_lt_of_cell? w _ hx471_5)).trans hx471_5
        replace p471 := eq_true p471
        replace q471 := eq_true q471
        refine start_ (n := 10) (S := fun w' => w'.cell? (ad470.add ((x5_1).toNat * 6)) = some (.int .i64 ((rd_T55 l0 x5_1).f0)) ∧ w'.cell? ⟨(ad470.add ((x5_1).toNat * 6)).block, (ad470.add ((x5_1).toNat * 6)).off + 1, none⟩ = some (.int .i64 ((rd_T55 l0 x5_1).f1)) ∧ w'.cell? ⟨(ad470.add ((x5_1).toNat * 6)).block, (ad470.add ((x5_1).toNat * 6)).off + 2, none⟩ = some (.int .i64 ((rd_T55 l0 x5_1).f2)) ∧ w'.cell? ⟨(ad470.add ((x5_1).toNat * 6)).block, (ad470.add ((x5_1).toNat * 6)).off + 3, none⟩ = some (.int .i64 ((rd_T55 l0 x5_1).f3.f0)) ∧ w'.cell? ⟨(ad470.add ((x5_1).toNat * 6)).block, (ad470.add ((x5_1).toNat * 6)).off + 4, none⟩ = some (.int .i64 ((rd_T55 l0 x5_1).f3.f1)) ∧ w'.cell? ⟨(ad470.add ((x5_1).toNat * 6)).block, (ad470.add ((x5_1).toNat * 6)).off + 5, none⟩ = some (.int .i64 ((rd_T55 l0 x5_1).f3.f2)) ∧ w'.cell? (ad471.add ((x5_1).toNat * 6)) = some (.int .i64 ((rd_T55 l1 x5_1).f0)) ∧ w'.cell? ⟨(ad471.add ((x5_1).toNat * 6)).block, (ad471.add ((x5_1).toNat * 6)).off + 1, none⟩ = some (.int .i64 ((rd_T55 l1 x5_1).f1)) ∧ w'.cell? ⟨(ad471.add ((x5_1).toNat * 6)).block, (ad471.add ((x5_1).toNat * 6)).off + 2, none⟩ = some (.int .i64 ((rd_T55 l1 x5_1).f2)) ∧ w'.cell? ⟨(ad471.add ((x5_1).toNat * 6)).block, (ad471.add ((x5_1).toNat * 6)).off + 3, none⟩ = some (.int .i64 ((rd_T55 l1 x5_1).f3.f0)) ∧ w'.cell? ⟨(ad471.add ((x5_1).toNat * 6)).block, (ad471.add ((x5_1).toNat * 6)).off + 4, none⟩ = some (.int .i64 ((rd_T55 l1 x5_1).f3.f1)) ∧ w'.cell? ⟨(ad471.add ((x5_1).toNat * 6)).block, (ad471.add ((x5_1).toNat * 6)).off + 5, none⟩ = some (.int .i64 ((rd_T55 l1 x5_1).f3.f2))) (ds := []) #[false, false, false, false, false, false, false, false, false, false] z15_19 rfl rfl ⟨((HB.out.cell (World.block_lt_of_cell? w _ hw470_0)).trans hw470_0), ((HB.out.cell (World.block_lt_of_cell? w _ hw470_1)).trans hw470_1), ((HB.out.cell (World.block_lt_of_cell? w _ hw470_2)).trans hw470_2), ((HB.out.cell (World.block_lt_of_cell? w _ hw470_3)).trans hw470_3), ((HB.out.cell (World.block_lt_of_cell? w _ hw470_4)).trans hw470_4), ((HB.out.cell (World.block_lt_of_cell? w _ hw470_5)).trans hw470_5), ((HB.out.cell (World.block_lt_of_cell? w _ hw471_0)).trans hw471_0), ((HB.out.cell (World.block_lt_of_cell? w _ hw471_1)).trans hw471_1), ((HB.out.cell (World.block_lt_of_cell? w _ hw471_2)).trans hw471_2), ((HB.out.cell (World.block_lt_of_cell? w _ hw471_3)).trans hw471_3), ((HB.out.cell (World.block_lt_of_cell? w _ hw471_4)).trans hw471_4), ((HB.out.cell (World.block_lt_of_cell? w _ hw471_5)).trans hw471_5)⟩ (fun hHeld => ?_); refine with_tabW laws_eqStmtS.tab6 laws_eqStmtS.bits6 (fun HT_ HW_ => ?_)
        generalize wr.drew = w11 at HB hx470_0 hx470_1 hx470_2 hx470_3 hx470_4 hx470_5 hx471_0 hx471_1 hx471_2 hx471_3 hx471_4 hx471_5 hHeld ⊢
        refine pure_ (i := 0) (N := some 17) (v := ?_) (a' := ?_) #[true, false, false, false, false, false, false, false, false, false] rfl rfl (any_of HT_.out z15_19) (fun _ _ _ h => h) (Or.inl ⟨by rfl, ?_⟩) ?_ ?_
        rotate_left
        ·intro w'
         go_simp
         with_reducible rfl
        rotate_left
        ·simp only [Act.put, List.setIfInBounds_toArray, List.set_cons_zero, List.set_cons_succ, i64_w, i32_w]
         rfl
        refine pure_ (i := 1) (N := some 18) (v := ?_) (a' := ?_) #[true, true, false, false, false, false, false, false, false, false] rfl rfl (any_of HT_.out z15_19) (fun _ _ _ h => h) (Or.inl ⟨by rfl, ?_⟩) ?_ ?_
        rotate_left
        ·intro w'
         go_simp
         with_reducible rfl
        rotate_left
        ·simp only [Act.put, List.setIfInBounds_toArray, List.set_cons_zero, List.set_cons_succ, i64_w, i32_w]
         rfl
        refine pure_ (i := 2) (N := some 19) (v := ?_) (a' := ?_) #[true, true, true, false, false, false, false, false, false, false] rfl rfl (any_of HT_.out z15_19) (fun _ _ _ h => h) (Or.inl ⟨by rfl, ?_⟩) ?_ ?_
        rotate_left
        ·intro w'
         go_simp
         with_reducible rfl
        rotate_left
        ·simp only [Act.put, List.setIfInBounds_toArray, List.set_cons_zero, List.set_cons_succ, i64_w, i32_w]
         rfl
        refine pure_ (i := 4) (N := some 21) (v := ?_) (a' := ?_) #[true, true, true, false, true, false, false, false, false, false] rfl rfl (any_of HT_.out z15_19) (fun _ _ _ h => h) (Or.inl ⟨by rfl, ?_⟩) ?_ ?_
        rotate_left
        ·intro w'
         go_simp
         with_reducible rfl
        rotate_left
        ·simp only [Act.put, List.setIfInBounds_toArray, List.set_cons_zero, List.set_cons_succ, i64_w, i32_w]
         rfl
        refine pure_ (i := 5) (N := some 22) (v := ?_) (a' := ?_) #[true, true, true, false, true, true, false, false, false, false] rfl rfl (any_of HT_.out z15_19) (fun _ _ _ h => h) (Or.inl ⟨by rfl, ?_⟩) ?_ ?_
        rotate_left
        ·intro w'
         go_simp
         with_reducible rfl
        rotate_left
        ·simp only [Act.put, List.setIfInBounds_toArray, List.set_cons_zero, List.set_cons_succ, i64_w, i32_w]
         rfl
        refine pure_ (i := 6) (N := some 23) (v := ?_) (a' := ?_) #[true, true, true, false, true, true, true, false, false, false] rfl rfl (any_of HT_.out z15_19) (fun _ _ _ h => h) (Or.inl ⟨by rfl, ?_⟩) ?_ ?_
        rotate_left
        ·intro w'
         go_simp
         with_reducible rfl
        rotate_left
        ·simp only [Act.put, List.setIfInBounds_toArray, List.set_cons_zero, List.set_cons_succ, i64_w, i32_w]
         rfl
        refine take_ (i := 3) (N := some 20) (v := ?_) (a' := ?_) #[true, true, true, true, true, true, true, false, false, false] rfl rfl (take_ofW HT_.out HW_.out z15_19) (fun _ _ _ h => h) (Or.inl ⟨by rfl, ?_⟩) hHeld ?_ ?_
        rotate_left
        ·rintro w' ⟨s0, s1, s2, s3, s4, s5, s6, s7, s8, s9, s10, s11⟩
         go_simp
         with_reducible rfl
        rotate_left
        ·simp only [Act.put, List.setIfInBounds_toArray, List.set_cons_zero, List.set_cons_succ, i64_w, i32_w]
         rfl
        refine take_ (i := 7) (N := some 24) (v := ?_) (a' := ?_) #[true, true, true, true, true, true, true, true, false, false] rfl rfl (take_ofW HT_.out HW_.out z15_19) (fun _ _ _ h => h) (Or.inl ⟨by rfl, ?_⟩) hHeld ?_ ?_
        rotate_left
        ·rintro w' ⟨s0, s1, s2, s3, s4, s5, s6, s7, s8, s9, s10, s11⟩
         go_simp
         with_reducible rfl
        rotate_left
        ·simp only [Act.put, List.setIfInBounds_toArray, List.set_cons_zero, List.set_cons_succ, i64_w, i32_w]
         rfl
        refine one_ (i := 8) (N := some 25) #[true, true, true, true, true, true, true, true, true, false] rfl rfl (one_of HT_.out z15_19) (by decide) (fun K hK => ?_)
        refine goes_ Try.func40 z15_19 rfl #[.agg #[.int .i64 ((rd_T55 l0 x5_1).f0), .int .i64 ((rd_T55 l0 x5_1).f1), .int .i64 ((rd_T55 l0 x5_1).f2), .int .i64 ((rd_T55 l0 x5_1).f3.f0), .int .i64 ((rd_T55 l0 x5_1).f3.f1), .int .i64 ((rd_T55 l0 x5_1).f3.f2)], .agg #[.int .i64 ((rd_T55 l1 x5_1).f0), .int .i64 ((rd_T55 l1 x5_1).f1), .int .i64 ((rd_T55 l1 x5_1).f2), .int .i64 ((rd_T55 l1 x5_1).f3.f0), .int .i64 ((rd_T55 l1 x5_1).f3.f1), .int .i64 ((rd_T55 l1 x5_1).f3.f2)]] (by rfl) rfl rfl z15_1 ?_
        with_reducible refine (laws_eqStmt.calls ((rd_T55 l0 x5_1).f0) ((rd_T55 l0 x5_1).f1) ((rd_T55 l0 x5_1).f2) ((rd_T55 l0 x5_1).f3.f0) ((rd_T55 l0 x5_1).f3.f1) ((rd_T55 l0 x5_1).f3.f2) ((rd_T55 l1 x5_1).f0) ((rd_T55 l1 x5_1).f1) ((rd_T55 l1 x5_1).f2) ((rd_T55 l1 x5_1).f3.f0) ((rd_T55 l1 x5_1).f3.f1) ((rd_T55 l1 x5_1).f3.f2) false _ A7.out).mono ?_
        rintro e w12 ⟨rfl, hb⟩
        refine ⟨_, rfl, ?_⟩
        have n0_ := Aside0.mk (below_step z15_0 hb)
        clear HB
        have HB := n0_
        clear n0_
        (try clear hb)
        (try clear hb2)
        (try clear hk)
        (try clear hi)
        refine hK.out _ _ ⟨((HB.out.cell (World.block_lt_of_cell? w _ hw470_0)).trans hw470_0), ((HB.out.cell (World.block_lt_of_cell? w _ hw470_1)).trans hw470_1), ((HB.out.cell (World.block_lt_of_cell? w _ hw470_2)).trans hw470_2), ((HB.out.cell (World.block_lt_of_cell? w _ hw470_3)).trans hw470_3), ((HB.out.cell (World.block_lt_of_cell? w _ hw470_4)).trans hw470_4), ((HB.out.cell (World.block_lt_of_cell? w _ hw470_5)).trans hw470_5), ((HB.out.cell (World.block_lt_of_cell? w _ hw471_0)).trans hw471_0), ((HB.out.cell (World.block_lt_of_cell? w _ hw471_1)).trans hw471_1), ((HB.out.cell (World.block_lt_of_cell? w _ hw471_2)).trans hw471_2), ((HB.out.cell (World.block_lt_of_cell? w _ hw471_3)).trans hw471_3), ((HB.out.cell (World.block_lt_of_cell? w _ hw471_4)).trans hw471_4), ((HB.out.cell (World.block_lt_of_cell? w _ hw471_5)).trans hw471_5)⟩ (fun hHeld => ?_)
        clear hK K
        refine norm_ (a' := ?_) ?_ ?_
        rotate_left
        ·show Act.put _ (some 25) _ = _
         simp only [Act.put, List.setIfInBounds_toArray, List.set_cons_zero, List.set_cons_succ, i64_w, i32_w]
         rfl
        refine pure_ (i := 9) (N := some 26) (v := ?_) (a' := ?_) #[true, true, true, true, true, true, true, true, true, true] rfl rfl (any_of HT_.out z15_19) (fun _ _ _ h => h) (Or.inl ⟨by rfl, ?_⟩) ?_ ?_
        rotate_left
        ·intro w'
         go_simp
         with_reducible rfl
        rotate_left
        ·simp only [Act.put, List.setIfInBounds_toArray, List.set_cons_zero, List.set_cons_succ, i64_w, i32_w]
         rfl
        refine done_ (done_of HT_.out z15_19) ?_
        try go_wp2
        go_ret
        exact ⟨by first | rfl | (simp [errW_none, errW_some] <;> rfl) | (simp [*, errW_none, errW_some] <;> rfl) | (simp [*, errW_none, errW_some, i64_w]; done), by repeat (first | (with_reducible first | exact HB.out | apply below_alloc | apply pw_below_drewN | apply below_drew1) | exact HB.out)⟩
      ·rw [if_neg c6] at H
       exact absurd H (by simp)
     ·rw [if_neg c5] at H
      exact absurd H (by simp)
    ·rw [if_neg c4] at H
     have c4b0 : decide (x5_1 < (l0.length : Int)) = false := decide_eq_false c4
     clear c4
     obtain rfl := Option.some.inj H
     go_wp2
     go_ret
     exact ⟨by first | rfl | (simp [errW_none, errW_some] <;> rfl) | (simp [*, errW_none, errW_some] <;> rfl) | (simp [*, errW_none, errW_some, i64_w]; done), by repeat (first | (with_reducible first | exact HB.out | apply below_alloc | apply pw_below_drewN | apply below_drew1) | exact HB.out)⟩
 ·rw [if_neg c3] at H
  have c3b0 : ((l0.length : Int) == (l1.length : Int)) = false := beq_eq_false_iff_ne.mpr c3
  have c3b1 : ((l0.length : Int) != (l1.length : Int)) = true := bne_iff_ne.mpr c3
  have c3b2 : (l0.length == l1.length) = false := by first | simpa using c3 | (simp at c3 ⊢; omega)
  obtain rfl := Option.some.inj H
  go_enter Try.func24, Try.ntmps24
  go_wp2
  go_ret
  exact ⟨by first | rfl | (simp [errW_none, errW_some] <;> rfl) | (simp [*, errW_none, errW_some] <;> rfl) | (simp [*, errW_none, errW_some, i64_w]; done), by repeat (first | (with_reducible first | exact HB.out | apply below_alloc | apply pw_below_drewN | apply below_drew1) | exact HB.out)⟩
def laws_eqTask.f (k : Nat) (l0_0 : List (S55)) (a0_1 : Int) (a0_2 : Int) (a0_3 : Int) (l1_0 : List (S55)) (a1_1 : Int) (a1_2 : Int) (a1_3 : Int) : Option (Bool) := (laws_eqStmtS.f k l0_0 l1_0).bind fun t475 => (if t475 = true then ((laws_eqExpr.f a0_1 a0_2 a0_3 a1_1 a1_2 a1_3).bind fun t476 => (if t476 = true then (some true) else (some false))) else (some false))
set_option maxHeartbeats 8000000 in
set_option maxRecDepth 100000 in
theorem laws_eqTask.calls (k : Nat) (A0_0 : Option Addr) (c0_0 : Nat) (l0_0 : List (S55)) (a0_1 : Int) (a0_2 : Int) (a0_3 : Int) (A1_0 : Option Addr) (c1_0 : Nat) (l1_0 : List (S55)) (a1_1 : Int) (a1_2 : Int) (a1_3 : Int) (r : Bool) (w : World) (hr0_0 : Kd.C k55 w A0_0 l0_0.length l0_0) (hc0_0 : l0_0.length ≤ c0_0) (hr1_0 : Kd.C k55 w A1_0 l1_0.length l1_0) (hc1_0 : l1_0.length ≤ c1_0) (h : laws_eqTask.f k l0_0 a0_1 a0_2 a0_3 l1_0 a1_1 a1_2 a1_3 = some r) :
  Calls Try.prog 10 #[.agg #[.slice A0_0 l0_0.length c0_0, .int .i64 a0_1, .int .i64 a0_2, .int .i64 a0_3], .agg #[.slice A1_0 l1_0.length c1_0, .int .i64 a1_1, .int .i64 a1_2, .int .i64 a1_3]] w fun e w' => e = .returned (.bool r) ∧ Below w.heap.size w w' := by
 have hu32 := Try.underlying32
 have hu30 := Try.underlying30
 have HR0_0 := Aside0.mk hr0_0
 have HC0_0 := Aside0.mk hc0_0
 clear hr0_0 hc0_0
 have HR1_0 := Aside0.mk hr1_0
 have HC1_0 := Aside0.mk hc1_0
 clear hr1_0 hc1_0
 have HB := Aside0.mk (Below.refl w.heap.size w)
 have H : ((laws_eqStmtS.f k l0_0 l1_0).bind fun t475 => (if t475 = true then ((laws_eqExpr.f a0_1 a0_2 a0_3 a1_1 a1_2 a1_3).bind fun t476 => (if t476 = true then (some true) else (some false))) else (some false))) = some r := h
 clear h
 replace H := Option.bind_eq_some_iff.mp H
 obtain ⟨t475, A30, H⟩ := H
 replace H : (if t475 = true then ((laws_eqExpr.f a0_1 a0_2 a0_3 a1_1 a1_2 a1_3).bind fun t476 => (if t476 = true then (some true) else (some false))) else (some false)) = some r := H
 have A3 := Aside0.mk A30
 clear A30
 by_cases c4 : t475 = true
 ·subst c4
  have H1 : ((laws_eqExpr.f a0_1 a0_2 a0_3 a1_1 a1_2 a1_3).bind fun t476 => (if t476 = true then (some true) else (some false))) = some r := by rw [if_pos rfl] at H; exact H
  clear H
  have H := H1
  clear H1
  replace H := Option.bind_eq_some_iff.mp H
  obtain ⟨t476, A50, H⟩ := H
  replace H : (if t476 = true then (some true) else (some false)) = some r := H
  have A5 := Aside0.mk A50
  clear A50
  by_cases c6 : t476 = true
  ·subst c6
   have H1 : (some true) = some r := by rw [if_pos rfl] at H; exact H
   clear H
   have H := H1
   clear H1
   obtain rfl := Option.some.inj H
   go_enter Try.func10, Try.ntmps10
   go_wp2_with (first | ((with_reducible refine gate_dst (N := 2) rfl ?_); refine box_event ?hg (N := 2) ?hd (cs := #[.slice A0_0 l0_0.length c0_0, .int .i64 a0_1, .int .i64 a0_2, .int .i64 a0_3]) (t := 32) ?hr ?_; (case hd => rfl); (case hg => rfl); (case hr => exact z15_10); intro gb473 hg w7 hbox hb; have n0_ := Aside0.mk (below_step z15_0 hb); have n1_ := Aside0.mk (hbox); have n2_ := Aside0.mk ((z15_27 : w.heap.size ≤ gb473)); have n3_ := Aside0.mk ((z15_27 : w.heap.size ≤ gb473)); clear HB; have HB := n0_; have BK473 := n1_; have GW473 := n2_; have GE473 := n3_; clear n0_ n1_ n2_ n3_; clear hb hbox hg) | ((with_reducible refine gate_dst (N := 3) rfl ?_); refine box_event ?hg (N := 3) ?hd (cs := #[.slice A1_0 l1_0.length c1_0, .int .i64 a1_1, .int .i64 a1_2, .int .i64 a1_3]) (t := 32) ?hr ?_; (case hd => rfl); (case hg => rfl); (case hr => exact z15_10); intro gb474 hg w8 hbox hb; have n0_ := Aside0.mk (blk_below (g := gb473) (o := .cells #[.slice A0_0 l0_0.length c0_0, .int .i64 a0_1, .int .i64 a0_2, .int .i64 a0_3] 32 (0, 0)) z15_11 hb); have n1_ := Aside0.mk (below_step z15_13 hb); have n2_ := Aside0.mk (hbox); have n3_ := Aside0.mk ((by rw [hg]; exact (below_size z15_13) : w.heap.size ≤ gb474)); have n4_ := Aside0.mk ((by rw [hg]; exact (below_size z15_13) : w.heap.size ≤ gb474)); have n5_ := Aside0.mk ((z15_32 : gb473 ≠ gb474)); have n6_ := Aside0.mk ((z15_33 : gb474 ≠ gb473)); clear BK473; clear HB; have BK473 := n0_; have HB := n1_; have BK474 := n2_; have GW474 := n3_; have GE474 := n4_; have NB473_474 := n5_; have NB474_473 := n6_; clear n0_ n1_ n2_ n3_ n4_ n5_ n6_; clear hb hbox hg; have hnb9 := NB473_474.out; have hnc9 := NB474_473.out; have hcz10_0 : w8.cell? ⟨gb473, 0, none⟩ = some (.slice A0_0 l0_0.length c0_0) := (blk_cell BK473.out 0).trans rfl; have hcz10_1 : w8.cell? ⟨gb473, 1, none⟩ = some (.int .i64 a0_1) := (blk_cell BK473.out 1).trans rfl; have hcz10_2 : w8.cell? ⟨gb473, 2, none⟩ = some (.int .i64 a0_2) := (blk_cell BK473.out 2).trans rfl; have hcz10_3 : w8.cell? ⟨gb473, 3, none⟩ = some (.int .i64 a0_3) := (blk_cell BK473.out 3).trans rfl; have hfz10_0 := blk_frozen BK473.out 0; have hfz10_1 := blk_frozen BK473.out 1; have hfz10_2 := blk_frozen BK473.out 2; have hfz10_3 := blk_frozen BK473.out 3; have hcz11_0 : w8.cell? ⟨gb474, 0, none⟩ = some (.slice A1_0 l1_0.length c1_0) := (blk_cell BK474.out 0).trans rfl; have hcz11_1 : w8.cell? ⟨gb474, 1, none⟩ = some (.int .i64 a1_1) := (blk_cell BK474.out 1).trans rfl; have hcz11_2 : w8.cell? ⟨gb474, 2, none⟩ = some (.int .i64 a1_2) := (blk_cell BK474.out 2).trans rfl; have hcz11_3 : w8.cell? ⟨gb474, 3, none⟩ = some (.int .i64 a1_3) := (blk_cell BK474.out 3).trans rfl; have hfz11_0 := blk_frozen BK474.out 0; have hfz11_1 := blk_frozen BK474.out 1; have hfz11_2 := blk_frozen BK474.out 2; have hfz11_3 := blk_frozen BK474.out 3) | ((with_reducible refine gate_callee (f := 24) rfl ?_); refine goesL_ (some 9) rfl rfl Try.func24 z15_19 rfl #[.slice A0_0 l0_0.length c0_0, .slice A1_0 l1_0.length c1_0] rfl z15_1 ?_; (with_reducible refine (laws_eqStmtS.calls k _ _ l0_0 _ _ l1_0 true _ ?side1 ?side2 ?side3 ?side4 A3.out).mono ?_); (case side1 => exact z15_3); (case side2 => exact z15_26); (case side3 => exact z15_22); (case side4 => exact HC1_0.out); rintro e w12 ⟨rfl, hb⟩; refine ⟨_, rfl, ?_⟩; have n0_ := Aside0.mk (blk_below (g := gb473) (o := .cells #[.slice A0_0 l0_0.length c0_0, .int .i64 a0_1, .int .i64 a0_2, .int .i64 a0_3] 32 (0, 0)) z15_11 hb); have n1_ := Aside0.mk (blk_below (g := gb474) (o := .cells #[.slice A1_0 l1_0.length c1_0, .int .i64 a1_1, .int .i64 a1_2, .int .i64 a1_3] 32 (0, 0)) z15_21 hb); have n2_ := Aside0.mk (below_step z15_16 hb); clear BK473; clear BK474; clear HB; have BK473 := n0_; have BK474 := n1_; have HB := n2_; clear n0_ n1_ n2_; (try clear hb); (try clear hb2); (try clear hk); (try clear hi); have hcz13_0 : w12.cell? ⟨gb473, 0, none⟩ = some (.slice A0_0 l0_0.length c0_0) := (blk_cell BK473.out 0).trans rfl; have hcz13_1 : w12.cell? ⟨gb473, 1, none⟩ = some (.int .i64 a0_1) := (blk_cell BK473.out 1).trans rfl; have hcz13_2 : w12.cell? ⟨gb473, 2, none⟩ = some (.int .i64 a0_2) := (blk_cell BK473.out 2).trans rfl; have hcz13_3 : w12.cell? ⟨gb473, 3, none⟩ = some (.int .i64 a0_3) := (blk_cell BK473.out 3).trans rfl; have hfz13_0 := blk_frozen BK473.out 0; have hfz13_1 := blk_frozen BK473.out 1; have hfz13_2 := blk_frozen BK473.out 2; have hfz13_3 := blk_frozen BK473.out 3; have hcz14_0 : w12.cell? ⟨gb474, 0, none⟩ = some (.slice A1_0 l1_0.length c1_0) := (blk_cell BK474.out 0).trans rfl; have hcz14_1 : w12.cell? ⟨gb474, 1, none⟩ = some (.int .i64 a1_1) := (blk_cell BK474.out 1).trans rfl; have hcz14_2 : w12.cell? ⟨gb474, 2, none⟩ = some (.int .i64 a1_2) := (blk_cell BK474.out 2).trans rfl; have hcz14_3 : w12.cell? ⟨gb474, 3, none⟩ = some (.int .i64 a1_3) := (blk_cell BK474.out 3).trans rfl; have hfz14_0 := blk_frozen BK474.out 0; have hfz14_1 := blk_frozen BK474.out 1; have hfz14_2 := blk_frozen BK474.out 2; have hfz14_3 := blk_frozen BK474.out 3) | ((with_reducible refine gate_callee (f := 25) rfl ?_); refine goesL_ (some 15) rfl rfl Try.func25 z15_19 rfl #[.agg #[.int .i64 a0_1, .int .i64 a0_2, .int .i64 a0_3], .agg #[.int .i64 a1_1, .int .i64 a1_2, .int .i64 a1_3]] rfl z15_1 ?_; (with_reducible refine (laws_eqExpr.calls a0_1 a0_2 a0_3 a1_1 a1_2 a1_3 true _ A5.out).mono ?_); rintro e w15 ⟨rfl, hb⟩; refine ⟨_, rfl, ?_⟩; have n0_ := Aside0.mk (blk_below (g := gb473) (o := .cells #[.slice A0_0 l0_0.length c0_0, .int .i64 a0_1, .int .i64 a0_2, .int .i64 a0_3] 32 (0, 0)) z15_11 hb); have n1_ := Aside0.mk (blk_below (g := gb474) (o := .cells #[.slice A1_0 l1_0.length c1_0, .int .i64 a1_1, .int .i64 a1_2, .int .i64 a1_3] 32 (0, 0)) z15_21 hb); have n2_ := Aside0.mk (below_step z15_16 hb); clear BK473; clear BK474; clear HB; have BK473 := n0_; have BK474 := n1_; have HB := n2_; clear n0_ n1_ n2_; (try clear hb); (try clear hb2); (try clear hk); (try clear hi)))
   go_ret
   exact ⟨by first | rfl | (simp [errW_none, errW_some] <;> rfl) | (simp [*, errW_none, errW_some] <;> rfl) | (simp [*, errW_none, errW_some, i64_w]; done), by repeat (first | (with_reducible first | exact HB.out | apply below_alloc | apply pw_below_drewN | apply below_drew1 | refine below_set ?_ GE473.out | refine below_set ?_ GE474.out) | exact HB.out)⟩
  ·replace c6 := Bool.eq_false_iff.mpr c6
   subst c6
   have H1 : (some false) = some r := by rw [if_neg (show ¬ (false = true) by decide)] at H; exact H
   clear H
   have H := H1
   clear H1
   obtain rfl := Option.some.inj H
   go_enter Try.func10, Try.ntmps10
   go_wp2_with (first | ((with_reducible refine gate_dst (N := 2) rfl ?_); refine box_event ?hg (N := 2) ?hd (cs := #[.slice A0_0 l0_0.length c0_0, .int .i64 a0_1, .int .i64 a0_2, .int .i64 a0_3]) (t := 32) ?hr ?_; (case hd => rfl); (case hg => rfl); (case hr => exact z15_10); intro gb473 hg w16 hbox hb; have n0_ := Aside0.mk (below_step z15_0 hb); have n1_ := Aside0.mk (hbox); have n2_ := Aside0.mk ((z15_27 : w.heap.size ≤ gb473)); have n3_ := Aside0.mk ((z15_27 : w.heap.size ≤ gb473)); clear HB; have HB := n0_; have BK473 := n1_; have GW473 := n2_; have GE473 := n3_; clear n0_ n1_ n2_ n3_; clear hb hbox hg) | ((with_reducible refine gate_dst (N := 3) rfl ?_); refine box_event ?hg (N := 3) ?hd (cs := #[.slice A1_0 l1_0.length c1_0, .int .i64 a1_1, .int .i64 a1_2, .int .i64 a1_3]) (t := 32) ?hr ?_; (case hd => rfl); (case hg => rfl); (case hr => exact z15_10); intro gb474 hg w17 hbox hb; have n0_ := Aside0.mk (blk_below (g := gb473) (o := .cells #[.slice A0_0 l0_0.length c0_0, .int .i64 a0_1, .int .i64 a0_2, .int .i64 a0_3] 32 (0, 0)) z15_11 hb); have n1_ := Aside0.mk (below_step z15_13 hb); have n2_ := Aside0.mk (hbox); have n3_ := Aside0.mk ((by rw [hg]; exact (below_size z15_13) : w.heap.size ≤ gb474)); have n4_ := Aside0.mk ((by rw [hg]; exact (below_size z15_13) : w.heap.size ≤ gb474)); have n5_ := Aside0.mk ((z15_32 : gb473 ≠ gb474)); have n6_ := Aside0.mk ((z15_33 : gb474 ≠ gb473)); clear BK473; clear HB; have BK473 := n0_; have HB := n1_; have BK474 := n2_; have GW474 := n3_; have GE474 := n4_; have NB473_474 := n5_; have NB474_473 := n6_; clear n0_ n1_ n2_ n3_ n4_ n5_ n6_; clear hb hbox hg; have hnb18 := NB473_474.out; have hnc18 := NB474_473.out; have hcz19_0 : w17.cell? ⟨gb473, 0, none⟩ = some (.slice A0_0 l0_0.length c0_0) := (blk_cell BK473.out 0).trans rfl; have hcz19_1 : w17.cell? ⟨gb473, 1, none⟩ = some (.int .i64 a0_1) := (blk_cell BK473.out 1).trans rfl; have hcz19_2 : w17.cell? ⟨gb473, 2, none⟩ = some (.int .i64 a0_2) := (blk_cell BK473.out 2).trans rfl; have hcz19_3 : w17.cell? ⟨gb473, 3, none⟩ = some (.int .i64 a0_3) := (blk_cell BK473.out 3).trans rfl; have hfz19_0 := blk_frozen BK473.out 0; have hfz19_1 := blk_frozen BK473.out 1; have hfz19_2 := blk_frozen BK473.out 2; have hfz19_3 := blk_frozen BK473.out 3; have hcz20_0 : w17.cell? ⟨gb474, 0, none⟩ = some (.slice A1_0 l1_0.length c1_0) := (blk_cell BK474.out 0).trans rfl; have hcz20_1 : w17.cell? ⟨gb474, 1, none⟩ = some (.int .i64 a1_1) := (blk_cell BK474.out 1).trans rfl; have hcz20_2 : w17.cell? ⟨gb474, 2, none⟩ = some (.int .i64 a1_2) := (blk_cell BK474.out 2).trans rfl; have hcz20_3 : w17.cell? ⟨gb474, 3, none⟩ = some (.int .i64 a1_3) := (blk_cell BK474.out 3).trans rfl; have hfz20_0 := blk_frozen BK474.out 0; have hfz20_1 := blk_frozen BK474.out 1; have hfz20_2 := blk_frozen BK474.out 2; have hfz20_3 := blk_frozen BK474.out 3) | ((with_reducible refine gate_callee (f := 24) rfl ?_); refine goesL_ (some 9) rfl rfl Try.func24 z15_19 rfl #[.slice A0_0 l0_0.length c0_0, .slice A1_0 l1_0.length c1_0] rfl z15_1 ?_; (with_reducible refine (laws_eqStmtS.calls k _ _ l0_0 _ _ l1_0 true _ ?side1 ?side2 ?side3 ?side4 A3.out).mono ?_); (case side1 => exact z15_3); (case side2 => exact z15_26); (case side3 => exact z15_22); (case side4 => exact HC1_0.out); rintro e w21 ⟨rfl, hb⟩; refine ⟨_, rfl, ?_⟩; have n0_ := Aside0.mk (blk_below (g := gb473) (o := .cells #[.slice A0_0 l0_0.length c0_0, .int .i64 a0_1, .int .i64 a0_2, .int .i64 a0_3] 32 (0, 0)) z15_11 hb); have n1_ := Aside0.mk (blk_below (g := gb474) (o := .cells #[.slice A1_0 l1_0.length c1_0, .int .i64 a1_1, .int .i64 a1_2, .int .i64 a1_3] 32 (0, 0)) z15_21 hb); have n2_ := Aside0.mk (below_step z15_16 hb); clear BK473; clear BK474; clear HB; have BK473 := n0_; have BK474 := n1_; have HB := n2_; clear n0_ n1_ n2_; (try clear hb); (try clear hb2); (try clear hk); (try clear hi); have hcz22_0 : w21.cell? ⟨gb473, 0, none⟩ = some (.slice A0_0 l0_0.length c0_0) := (blk_cell BK473.out 0).trans rfl; have hcz22_1 : w21.cell? ⟨gb473, 1, none⟩ = some (.int .i64 a0_1) := (blk_cell BK473.out 1).trans rfl; have hcz22_2 : w21.cell? ⟨gb473, 2, none⟩ = some (.int .i64 a0_2) := (blk_cell BK473.out 2).trans rfl; have hcz22_3 : w21.cell? ⟨gb473, 3, none⟩ = some (.int .i64 a0_3) := (blk_cell BK473.out 3).trans rfl; have hfz22_0 := blk_frozen BK473.out 0; have hfz22_1 := blk_frozen BK473.out 1; have hfz22_2 := blk_frozen BK473.out 2; have hfz22_3 := blk_frozen BK473.out 3; have hcz23_0 : w21.cell? ⟨gb474, 0, none⟩ = some (.slice A1_0 l1_0.length c1_0) := (blk_cell BK474.out 0).trans rfl; have hcz23_1 : w21.cell? ⟨gb474, 1, none⟩ = some (.int .i64 a1_1) := (blk_cell BK474.out 1).trans rfl; have hcz23_2 : w21.cell? ⟨gb474, 2, none⟩ = some (.int .i64 a1_2) := (blk_cell BK474.out 2).trans rfl; have hcz23_3 : w21.cell? ⟨gb474, 3, none⟩ = some (.int .i64 a1_3) := (blk_cell BK474.out 3).trans rfl; have hfz23_0 := blk_frozen BK474.out 0; have hfz23_1 := blk_frozen BK474.out 1; have hfz23_2 := blk_frozen BK474.out 2; have hfz23_3 := blk_frozen BK474.out 3) | ((with_reducible refine gate_callee (f := 25) rfl ?_); refine goesL_ (some 15) rfl rfl Try.func25 z15_19 rfl #[.agg #[.int .i64 a0_1, .int .i64 a0_2, .int .i64 a0_3], .agg #[.int .i64 a1_1, .int .i64 a1_2, .int .i64 a1_3]] rfl z15_1 ?_; (with_reducible refine (laws_eqExpr.calls a0_1 a0_2 a0_3 a1_1 a1_2 a1_3 false _ A5.out).mono ?_); rintro e w24 ⟨rfl, hb⟩; refine ⟨_, rfl, ?_⟩; have n0_ := Aside0.mk (blk_below (g := gb473) (o := .cells #[.slice A0_0 l0_0.length c0_0, .int .i64 a0_1, .int .i64 a0_2, .int .i64 a0_3] 32 (0, 0)) z15_11 hb); have n1_ := Aside0.mk (blk_below (g := gb474) (o := .cells #[.slice A1_0 l1_0.length c1_0, .int .i64 a1_1, .int .i64 a1_2, .int .i64 a1_3] 32 (0, 0)) z15_21 hb); have n2_ := Aside0.mk (below_step z15_16 hb); clear BK473; clear BK474; clear HB; have BK473 := n0_; have BK474 := n1_; have HB := n2_; clear n0_ n1_ n2_; (try clear hb); (try clear hb2); (try clear hk); (try clear hi)))
   go_ret
   exact ⟨by first | rfl | (simp [errW_none, errW_some] <;> rfl) | (simp [*, errW_none, errW_some] <;> rfl) | (simp [*, errW_none, errW_some, i64_w]; done), by repeat (first | (with_reducible first | exact HB.out | apply below_alloc | apply pw_below_drewN | apply below_drew1 | refine below_set ?_ GE473.out | refine below_set ?_ GE474.out) | exact HB.out)⟩
 ·replace c4 := Bool.eq_false_iff.mpr c4
  subst c4
  have H1 : (some false) = some r := by rw [if_neg (show ¬ (false = true) by decide)] at H; exact H
  clear H
  have H := H1
  clear H1
  obtain rfl := Option.some.inj H
  go_enter Try.func10, Try.ntmps10
  go_wp2_with (first | ((with_reducible refine gate_dst (N := 2) rfl ?_); refine box_event ?hg (N := 2) ?hd (cs := #[.slice A0_0 l0_0.length c0_0, .int .i64 a0_1, .int .i64 a0_2, .int .i64 a0_3]) (t := 32) ?hr ?_; (case hd => rfl); (case hg => rfl); (case hr => exact z15_10); intro gb473 hg w25 hbox hb; have n0_ := Aside0.mk (below_step z15_0 hb); have n1_ := Aside0.mk (hbox); have n2_ := Aside0.mk ((z15_27 : w.heap.size ≤ gb473)); have n3_ := Aside0.mk ((z15_27 : w.heap.size ≤ gb473)); clear HB; have HB := n0_; have BK473 := n1_; have GW473 := n2_; have GE473 := n3_; clear n0_ n1_ n2_ n3_; clear hb hbox hg) | ((with_reducible refine gate_dst (N := 3) rfl ?_); refine box_event ?hg (N := 3) ?hd (cs := #[.slice A1_0 l1_0.length c1_0, .int .i64 a1_1, .int .i64 a1_2, .int .i64 a1_3]) (t := 32) ?hr ?_; (case hd => rfl); (case hg => rfl); (case hr => exact z15_10); intro gb474 hg w26 hbox hb; have n0_ := Aside0.mk (blk_below (g := gb473) (o := .cells #[.slice A0_0 l0_0.length c0_0, .int .i64 a0_1, .int .i64 a0_2, .int .i64 a0_3] 32 (0, 0)) z15_11 hb); have n1_ := Aside0.mk (below_step z15_13 hb); have n2_ := Aside0.mk (hbox); have n3_ := Aside0.mk ((by rw [hg]; exact (below_size z15_13) : w.heap.size ≤ gb474)); have n4_ := Aside0.mk ((by rw [hg]; exact (below_size z15_13) : w.heap.size ≤ gb474)); have n5_ := Aside0.mk ((z15_32 : gb473 ≠ gb474)); have n6_ := Aside0.mk ((z15_33 : gb474 ≠ gb473)); clear BK473; clear HB; have BK473 := n0_; have HB := n1_; have BK474 := n2_; have GW474 := n3_; have GE474 := n4_; have NB473_474 := n5_; have NB474_473 := n6_; clear n0_ n1_ n2_ n3_ n4_ n5_ n6_; clear hb hbox hg; have hnb27 := NB473_474.out; have hnc27 := NB474_473.out; have hcz28_0 : w26.cell? ⟨gb473, 0, none⟩ = some (.slice A0_0 l0_0.length c0_0) := (blk_cell BK473.out 0).trans rfl; have hcz28_1 : w26.cell? ⟨gb473, 1, none⟩ = some (.int .i64 a0_1) := (blk_cell BK473.out 1).trans rfl; have hcz28_2 : w26.cell? ⟨gb473, 2, none⟩ = some (.int .i64 a0_2) := (blk_cell BK473.out 2).trans rfl; have hcz28_3 : w26.cell? ⟨gb473, 3, none⟩ = some (.int .i64 a0_3) := (blk_cell BK473.out 3).trans rfl; have hfz28_0 := blk_frozen BK473.out 0; have hfz28_1 := blk_frozen BK473.out 1; have hfz28_2 := blk_frozen BK473.out 2; have hfz28_3 := blk_frozen BK473.out 3; have hcz29_0 : w26.cell? ⟨gb474, 0, none⟩ = some (.slice A1_0 l1_0.length c1_0) := (blk_cell BK474.out 0).trans rfl; have hcz29_1 : w26.cell? ⟨gb474, 1, none⟩ = some (.int .i64 a1_1) := (blk_cell BK474.out 1).trans rfl; have hcz29_2 : w26.cell? ⟨gb474, 2, none⟩ = some (.int .i64 a1_2) := (blk_cell BK474.out 2).trans rfl; have hcz29_3 : w26.cell? ⟨gb474, 3, none⟩ = some (.int .i64 a1_3) := (blk_cell BK474.out 3).trans rfl; have hfz29_0 := blk_frozen BK474.out 0; have hfz29_1 := blk_frozen BK474.out 1; have hfz29_2 := blk_frozen BK474.out 2; have hfz29_3 := blk_frozen BK474.out 3) | ((with_reducible refine gate_callee (f := 24) rfl ?_); refine goesL_ (some 9) rfl rfl Try.func24 z15_19 rfl #[.slice A0_0 l0_0.length c0_0, .slice A1_0 l1_0.length c1_0] rfl z15_1 ?_; (with_reducible refine (laws_eqStmtS.calls k _ _ l0_0 _ _ l1_0 false _ ?side1 ?side2 ?side3 ?side4 A3.out).mono ?_); (case side1 => exact z15_3); (case side2 => exact z15_26); (case side3 => exact z15_22); (case side4 => exact HC1_0.out); rintro e w30 ⟨rfl, hb⟩; refine ⟨_, rfl, ?_⟩; have n0_ := Aside0.mk (blk_below (g := gb473) (o := .cells #[.slice A0_0 l0_0.length c0_0, .int .i64 a0_1, .int .i64 a0_2, .int .i64 a0_3] 32 (0, 0)) z15_11 hb); have n1_ := Aside0.mk (blk_below (g := gb474) (o := .cells #[.slice A1_0 l1_0.length c1_0, .int .i64 a1_1, .int .i64 a1_2, .int .i64 a1_3] 32 (0, 0)) z15_21 hb); have n2_ := Aside0.mk (below_step z15_16 hb); clear BK473; clear BK474; clear HB; have BK473 := n0_; have BK474 := n1_; have HB := n2_; clear n0_ n1_ n2_; (try clear hb); (try clear hb2); (try clear hk); (try clear hi)))
  go_ret
  exact ⟨by first | rfl | (simp [errW_none, errW_some] <;> rfl) | (simp [*, errW_none, errW_some] <;> rfl) | (simp [*, errW_none, errW_some, i64_w]; done), by repeat (first | (with_reducible first | exact HB.out | apply below_alloc | apply pw_below_drewN | apply below_drew1 | refine below_set ?_ GE473.out | refine below_set ?_ GE474.out) | exact HB.out)⟩
def laws_FnExactWriteCount.f (k : Nat) (l0_0 : List (S58)) (a0_1 : Int) (a0_2 : Int) (a0_3 : Int) (a1 : Int) : Option (Bool) := (laws_szTask.f l0_0 a0_1 a0_2 a0_3 1048576).bind fun t478 => (if t478 < 0 then (some true) else ((laws_toTask.f k l0_0 a0_1 a0_2 a0_3).bind fun bt479 => ((spec_WriteCount.f k bt479.1 bt479.2.1 bt479.2.2.1 bt479.2.2.2 a1).bind fun t485 => ((laws_toTask.f k l0_0 a0_1 a0_2 a0_3).bind fun bt486 => ((impl_WriteCount.f k bt486.1 bt486.2.1 bt486.2.2.1 bt486.2.2.2 a1).bind fun t493 => (if t493 = t485 then ((laws_toTask.f k l0_0 a0_1 a0_2 a0_3).bind fun bt494 => ((laws_eqTask.f k bt486.1 bt486.2.1 bt486.2.2.1 bt486.2.2.2 bt494.1 bt494.2.1 bt494.2.2.1 bt494.2.2.2).bind fun t500 => (if t500 = true then (some true) else (some false)))) else (some false)))))))
set_option maxHeartbeats 8000000 in
set_option maxRecDepth 100000 in
theorem laws_FnExactWriteCount.calls (k : Nat) (A0_0 : Option Addr) (c0_0 : Nat) (l0_0 : List (S58)) (a0_1 : Int) (a0_2 : Int) (a0_3 : Int) (a1 : Int) (r : Bool) (w : World) (hr0_0 : Kd.C k58 w A0_0 l0_0.length l0_0) (hc0_0 : l0_0.length ≤ c0_0) (h : laws_FnExactWriteCount.f k l0_0 a0_1 a0_2 a0_3 a1 = some r) :
  Calls Try.prog 3 #[.agg #[.slice A0_0 l0_0.length c0_0, .int .i64 a0_1, .int .i64 a0_2, .int .i64 a0_3], .int .i64 a1] w fun e w' => e = .returned (.bool r) ∧ Below w.heap.size w w' := by
 have hu26 := Try.underlying26
 have hu32 := Try.underlying32
 have HR0_0 := Aside0.mk hr0_0
 have HC0_0 := Aside0.mk hc0_0
 clear hr0_0 hc0_0
 have HB := Aside0.mk (Below.refl w.heap.size w)
 have H : ((laws_szTask.f l0_0 a0_1 a0_2 a0_3 1048576).bind fun t478 => (if t478 < 0 then (some true) else ((laws_toTask.f k l0_0 a0_1 a0_2 a0_3).bind fun bt479 => ((spec_WriteCount.f k bt479.1 bt479.2.1 bt479.2.2.1 bt479.2.2.2 a1).bind fun t485 => ((laws_toTask.f k l0_0 a0_1 a0_2 a0_3).bind fun bt486 => ((impl_WriteCount.f k bt486.1 bt486.2.1 bt486.2.2.1 bt486.2.2.2 a1).bind fun t493 => (if t493 = t485 then ((laws_toTask.f k l0_0 a0_1 a0_2 a0_3).bind fun bt494 => ((laws_eqTask.f k bt486.1 bt486.2.1 bt486.2.2.1 bt486.2.2.2 bt494.1 bt494.2.1 bt494.2.2.1 bt494.2.2.2).bind fun t500 => (if t500 = true then (some true) else (some false)))) else (some false)))))))) = some r := h
 clear h
 replace H := Option.bind_eq_some_iff.mp H
 obtain ⟨t478, A30, H⟩ := H
 replace H : (if t478 < 0 then (some true) else ((laws_toTask.f k l0_0 a0_1 a0_2 a0_3).bind fun bt479 => ((spec_WriteCount.f k bt479.1 bt479.2.1 bt479.2.2.1 bt479.2.2.2 a1).bind fun t485 => ((laws_toTask.f k l0_0 a0_1 a0_2 a0_3).bind fun bt486 => ((impl_WriteCount.f k bt486.1 bt486.2.1 bt486.2.2.1 bt486.2.2.2 a1).bind fun t493 => (if t493 = t485 then ((laws_toTask.f k l0_0 a0_1 a0_2 a0_3).bind fun bt494 => ((laws_eqTask.f k bt486.1 bt486.2.1 bt486.2.2.1 bt486.2.2.2 bt494.1 bt494.2.1 bt494.2.2.1 bt494.2.2.2).bind fun t500 => (if t500 = true then (some true) else (some false)))) else (some false))))))) = some r := H
 have A3 := Aside0.mk A30
 clear A30
 by_cases c4 : t478 < 0
 ·rw [if_pos c4] at H
  have c4b0 : decide (t478 < 0) = true := decide_eq_true c4
  clear c4
  obtain rfl := Option.some.inj H
  go_enter Try.func3, Try.ntmps3
  go_wp2_with (first | ((with_reducible refine gate_dst (N := 2) rfl ?_); refine box_event ?hg (N := 2) ?hd (cs := #[.slice A0_0 l0_0.length c0_0, .int .i64 a0_1, .int .i64 a0_2, .int .i64 a0_3]) (t := 26) ?hr ?_; (case hd => rfl); (case hg => rfl); (case hr => exact z15_10); intro gb477 hg w5 hbox hb; have n0_ := Aside0.mk (below_step z15_0 hb); have n1_ := Aside0.mk (hbox); have n2_ := Aside0.mk ((z15_27 : w.heap.size ≤ gb477)); have n3_ := Aside0.mk ((z15_27 : w.heap.size ≤ gb477)); clear HB; have HB := n0_; have BK477 := n1_; have GW477 := n2_; have GE477 := n3_; clear n0_ n1_ n2_ n3_; clear hb hbox hg; have hcz6_0 : w5.cell? ⟨gb477, 0, none⟩ = some (.slice A0_0 l0_0.length c0_0) := (blk_cell BK477.out 0).trans rfl; have hcz6_1 : w5.cell? ⟨gb477, 1, none⟩ = some (.int .i64 a0_1) := (blk_cell BK477.out 1).trans rfl; have hcz6_2 : w5.cell? ⟨gb477, 2, none⟩ = some (.int .i64 a0_2) := (blk_cell BK477.out 2).trans rfl; have hcz6_3 : w5.cell? ⟨gb477, 3, none⟩ = some (.int .i64 a0_3) := (blk_cell BK477.out 3).trans rfl; have hfz6_0 := blk_frozen BK477.out 0; have hfz6_1 := blk_frozen BK477.out 1; have hfz6_2 := blk_frozen BK477.out 2; have hfz6_3 := blk_frozen BK477.out 3) | ((with_reducible refine gate_callee (f := 6) rfl ?_); refine goesL_ (some 11) rfl rfl Try.func6 z15_19 rfl #[.agg #[.slice A0_0 l0_0.length c0_0, .int .i64 a0_1, .int .i64 a0_2, .int .i64 a0_3], .int .i64 1048576] rfl z15_1 ?_; (with_reducible refine (laws_szTask.calls _ _ l0_0 a0_1 a0_2 a0_3 1048576 t478 _ ?side1 ?side2 A3.out).mono ?_); (case side1 => exact z15_3); (case side2 => exact z15_26); rintro e w7 ⟨rfl, hb⟩; refine ⟨_, rfl, ?_⟩; have n0_ := Aside0.mk (blk_below (g := gb477) (o := .cells #[.slice A0_0 l0_0.length c0_0, .int .i64 a0_1, .int .i64 a0_2, .int .i64 a0_3] 26 (0, 0)) z15_4 hb); have n1_ := Aside0.mk (below_step z15_2 hb); clear BK477; clear HB; have BK477 := n0_; have HB := n1_; clear n0_ n1_; (try clear hb); (try clear hb2); (try clear hk); (try clear hi)))
  go_ret
  exact ⟨by first | rfl | (simp [errW_none, errW_some] <;> rfl) | (simp [*, errW_none, errW_some] <;> rfl) | (simp [*, errW_none, errW_some, i64_w]; done), by repeat (first | (with_reducible first | exact HB.out | apply below_alloc | apply pw_below_drewN | apply below_drew1 | refine below_set ?_ GE477.out) | exact HB.out)⟩
 ·rw [if_neg c4] at H
  have c4b0 : decide (t478 < 0) = false := decide_eq_false c4
  clear c4
  replace H := Option.bind_eq_some_iff.mp H
  obtain ⟨⟨t479, t482, t483, t484⟩, A80, H⟩ := H
  replace H : ((spec_WriteCount.f k t479 t482 t483 t484 a1).bind fun t485 => ((laws_toTask.f k l0_0 a0_1 a0_2 a0_3).bind fun bt486 => ((impl_WriteCount.f k bt486.1 bt486.2.1 bt486.2.2.1 bt486.2.2.2 a1).bind fun t493 => (if t493 = t485 then ((laws_toTask.f k l0_0 a0_1 a0_2 a0_3).bind fun bt494 => ((laws_eqTask.f k bt486.1 bt486.2.1 bt486.2.2.1 bt486.2.2.2 bt494.1 bt494.2.1 bt494.2.2.1 bt494.2.2.2).bind fun t500 => (if t500 = true then (some true) else (some false)))) else (some false))))) = some r := H
  have A8 := Aside0.mk A80
  clear A80
  replace H := Option.bind_eq_some_iff.mp H
  obtain ⟨t485, A90, H⟩ := H
  replace H : ((laws_toTask.f k l0_0 a0_1 a0_2 a0_3).bind fun bt486 => ((impl_WriteCount.f k bt486.1 bt486.2.1 bt486.2.2.1 bt486.2.2.2 a1).bind fun t493 => (if t493 = t485 then ((laws_toTask.f k l0_0 a0_1 a0_2 a0_3).bind fun bt494 => ((laws_eqTask.f k bt486.1 bt486.2.1 bt486.2.2.1 bt486.2.2.2 bt494.1 bt494.2.1 bt494.2.2.1 bt494.2.2.2).bind fun t500 => (if t500 = true then (some true) else (some false)))) else (some false)))) = some r := H
  have A9 := Aside0.mk A90
  clear A90
  replace H := Option.bind_eq_some_iff.mp H
  obtain ⟨⟨t486, t489, t490, t491⟩, A100, H⟩ := H
  replace H : ((impl_WriteCount.f k t486 t489 t490 t491 a1).bind fun t493 => (if t493 = t485 then ((laws_toTask.f k l0_0 a0_1 a0_2 a0_3).bind fun bt494 => ((laws_eqTask.f k t486 t489 t490 t491 bt494.1 bt494.2.1 bt494.2.2.1 bt494.2.2.2).bind fun t500 => (if t500 = true then (some true) else (some false)))) else (some false))) = some r := H
  have A10 := Aside0.mk A100
  clear A100
  replace H := Option.bind_eq_some_iff.mp H
  obtain ⟨t493, A110, H⟩ := H
  replace H : (if t493 = t485 then ((laws_toTask.f k l0_0 a0_1 a0_2 a0_3).bind fun bt494 => ((laws_eqTask.f k t486 t489 t490 t491 bt494.1 bt494.2.1 bt494.2.2.1 bt494.2.2.2).bind fun t500 => (if t500 = true then (some true) else (some false)))) else (some false)) = some r := H
  have A11 := Aside0.mk A110
  clear A110
  by_cases c12 : t493 = t485
  ·rw [if_pos c12] at H
   have c12b0 : (t493 == t485) = true := beq_iff_eq.mpr c12
   have c12b1 : (t493 != t485) = false := bne_eq_false_iff_eq.mpr c12
   clear c12
   replace H := Option.bind_eq_some_iff.mp H
   obtain ⟨⟨t494, t497, t498, t499⟩, A130, H⟩ := H
   replace H : ((laws_eqTask.f k t486 t489 t490 t491 t494 t497 t498 t499).bind fun t500 => (if t500 = true then (some true) else (some false))) = some r := H
   have A13 := Aside0.mk A130
   clear A130
   replace H := Option.bind_eq_some_iff.mp H
   obtain ⟨t500, A140, H⟩ := H
   replace H : (if t500 = true then (some true) else (some false)) = some r := H
   have A14 := Aside0.mk A140
   clear A140
   by_cases c15 : t500 = true
   ·subst c15
    have H1 : (some true) = some r := by rw [if_pos rfl] at H; exact H
    clear H
    have H := H1
    clear H1
    obtain rfl := Option.some.inj H
    go_enter Try.func3, Try.ntmps3
    try go_wp2_with (first | ((with_reducible refine gate_dst (N := 2) rfl ?_); refine box_event ?hg (N := 2) ?hd (cs := #[.slice A0_0 l0_0.length c0_0, .int .i64 a0_1, .int .i64 a0_2, .int .i64 a0_3]) (t := 26) ?hr ?_; (case hd => rfl); (case hg => rfl); (case hr => exact z15_10); intro gb477 hg w16 hbox hb; have n0_ := Aside0.mk (below_step z15_0 hb); have n1_ := Aside0.mk (hbox); have n2_ := Aside0.mk ((z15_27 : w.heap.size ≤ gb477)); have n3_ := Aside0.mk ((z15_27 : w.heap.size ≤ gb477)); clear HB; have HB := n0_; have BK477 := n1_; have GW477 := n2_; have GE477 := n3_; clear n0_ n1_ n2_ n3_; clear hb hbox hg; have hcz17_0 : w16.cell? ⟨gb477, 0, none⟩ = some (.slice A0_0 l0_0.length c0_0) := (blk_cell BK477.out 0).trans rfl; have hcz17_1 : w16.cell? ⟨gb477, 1, none⟩ = some (.int .i64 a0_1) := (blk_cell BK477.out 1).trans rfl; have hcz17_2 : w16.cell? ⟨gb477, 2, none⟩ = some (.int .i64 a0_2) := (blk_cell BK477.out 2).trans rfl; have hcz17_3 : w16.cell? ⟨gb477, 3, none⟩ = some (.int .i64 a0_3) := (blk_cell BK477.out 3).trans rfl; have hfz17_0 := blk_frozen BK477.out 0; have hfz17_1 := blk_frozen BK477.out 1; have hfz17_2 := blk_frozen BK477.out 2; have hfz17_3 := blk_frozen BK477.out 3) | ((with_reducible refine gate_callee (f := 6) rfl ?_); refine goesL_ (some 11) rfl rfl Try.func6 z15_19 rfl #[.agg #[.slice A0_0 l0_0.length c0_0, .int .i64 a0_1, .int .i64 a0_2, .int .i64 a0_3], .int .i64 1048576] rfl z15_1 ?_; (with_reducible refine (laws_szTask.calls _ _ l0_0 a0_1 a0_2 a0_3 1048576 t478 _ ?side1 ?side2 A3.out).mono ?_); (case side1 => exact z15_3); (case side2 => exact z15_26); rintro e w18 ⟨rfl, hb⟩; refine ⟨_, rfl, ?_⟩; have n0_ := Aside0.mk (blk_below (g := gb477) (o := .cells #[.slice A0_0 l0_0.length c0_0, .int .i64 a0_1, .int .i64 a0_2, .int .i64 a0_3] 26 (0, 0)) z15_4 hb); have n1_ := Aside0.mk (below_step z15_2 hb); clear BK477; clear HB; have BK477 := n0_; have HB := n1_; clear n0_ n1_; (try clear hb); (try clear hb2); (try clear hk); (try clear hi); have hcz19_0 : w18.cell? ⟨gb477, 0, none⟩ = some (.slice A0_0 l0_0.length c0_0) := (blk_cell BK477.out 0).trans rfl; have hcz19_1 : w18.cell? ⟨gb477, 1, none⟩ = some (.int .i64 a0_1) := (blk_cell BK477.out 1).trans rfl; have hcz19_2 : w18.cell? ⟨gb477, 2, none⟩ = some (.int .i64 a0_2) := (blk_cell BK477.out 2).trans rfl; have hcz19_3 : w18.cell? ⟨gb477, 3, none⟩ = some (.int .i64 a0_3) := (blk_cell BK477.out 3).trans rfl; have hfz19_0 := blk_frozen BK477.out 0; have hfz19_1 := blk_frozen BK477.out 1; have hfz19_2 := blk_frozen BK477.out 2; have hfz19_3 := blk_frozen BK477.out 3) | ((with_reducible refine gate_callee (f := 8) rfl ?_); refine goesL_ (some 15) rfl rfl Try.func8 z15_19 rfl #[.agg #[.slice A0_0 l0_0.length c0_0, .int .i64 a0_1, .int .i64 a0_2, .int .i64 a0_3]] rfl z15_1 ?_; (with_reducible refine (laws_toTask.calls k _ _ l0_0 a0_1 a0_2 a0_3 t479 t482 t483 t484 _ ?side1 ?side2 A8.out).mono ?_); (case side1 => exact z15_3); (case side2 => exact z15_26); rintro e w20 ⟨v480, rfl, ho0, hb⟩; refine ⟨_, rfl, ?_⟩; have n0_ := Aside0.mk (Kd.R_lower ho0 (below_size z15_2)); have n1_ := Aside0.mk (blk_below (g := gb477) (o := .cells #[.slice A0_0 l0_0.length c0_0, .int .i64 a0_1, .int .i64 a0_2, .int .i64 a0_3] 26 (0, 0)) z15_4 hb); have n2_ := Aside0.mk (below_step z15_2 hb); clear BK477; clear HB; have HO481 := n0_; have BK477 := n1_; have HB := n2_; clear n0_ n1_ n2_; (try clear hb); (try clear hb2); (try clear hk); (try clear hi); (try clear ho0); obtain ⟨Ao21, co21, eo21⟩ := Kd.R_slice HO481.out; subst eo21) | ((with_reducible refine gate_callee (f := 7) rfl ?_); refine goesL_ (some 17) rfl rfl Try.func7 z15_19 rfl #[.agg #[.slice Ao21 t479.length co21, .int .i64 t482, .int .i64 t483, .int .i64 t484], .int .i64 a1] rfl z15_1 ?_; (with_reducible refine (spec_WriteCount.calls k _ _ t479 t482 t483 t484 a1 t485 _ ?side1 ?side2 A9.out).mono ?_); (case side1 => exact z15_24); (case side2 => exact (Kd.R_reads' HO481.out).2.1); rintro e w22 ⟨rfl, hb⟩; refine ⟨_, rfl, ?_⟩; have n0_ := Aside0.mk (Kd.R_below z15_7 hb); have n1_ := Aside0.mk (blk_below (g := gb477) (o := .cells #[.slice A0_0 l0_0.length c0_0, .int .i64 a0_1, .int .i64 a0_2, .int .i64 a0_3] 26 (0, 0)) z15_4 hb); have n2_ := Aside0.mk (below_step z15_2 hb); clear HO481; clear BK477; clear HB; have HO481 := n0_; have BK477 := n1_; have HB := n2_; clear n0_ n1_ n2_; (try clear hb); (try clear hb2); (try clear hk); (try clear hi); have hcz23_0 : w22.cell? ⟨gb477, 0, none⟩ = some (.slice A0_0 l0_0.length c0_0) := (blk_cell BK477.out 0).trans rfl; have hcz23_1 : w22.cell? ⟨gb477, 1, none⟩ = some (.int .i64 a0_1) := (blk_cell BK477.out 1).trans rfl; have hcz23_2 : w22.cell? ⟨gb477, 2, none⟩ = some (.int .i64 a0_2) := (blk_cell BK477.out 2).trans rfl; have hcz23_3 : w22.cell? ⟨gb477, 3, none⟩ = some (.int .i64 a0_3) := (blk_cell BK477.out 3).trans rfl; have hfz23_0 := blk_frozen BK477.out 0; have hfz23_1 := blk_frozen BK477.out 1; have hfz23_2 := blk_frozen BK477.out 2; have hfz23_3 := blk_frozen BK477.out 3) | ((with_reducible refine gate_callee (f := 8) rfl ?_); refine goesL_ (some 19) rfl rfl Try.func8 z15_19 rfl #[.agg #[.slice A0_0 l0_0.length c0_0, .int .i64 a0_1, .int .i64 a0_2, .int .i64 a0_3]] rfl z15_1 ?_; (with_reducible refine (laws_toTask.calls k _ _ l0_0 a0_1 a0_2 a0_3 t486 t489 t490 t491 _ ?side1 ?side2 A10.out).mono ?_); (case side1 => exact z15_3); (case side2 => exact z15_26); rintro e w24 ⟨v487, rfl, ho0, hb⟩; refine ⟨_, rfl, ?_⟩; have n0_ := Aside0.mk (Kd.R_elder' z15_7 (Kd.R_base ho0) hb); have n1_ := Aside0.mk (Kd.R_lower (Kd.R_new' ho0 (Kd.R_lt z15_7)) (below_size z15_2)); have n2_ := Aside0.mk (blk_below (g := gb477) (o := .cells #[.slice A0_0 l0_0.length c0_0, .int .i64 a0_1, .int .i64 a0_2, .int .i64 a0_3] 26 (0, 0)) z15_4 hb); have n3_ := Aside0.mk (below_step z15_2 hb); clear HO481; clear BK477; clear HB; have HO481 := n0_; have HO488 := n1_; have BK477 := n2_; have HB := n3_; clear n0_ n1_ n2_ n3_; (try clear hb); (try clear hb2); (try clear hk); (try clear hi); (try clear ho0)) | ((with_reducible refine gate_dst (N := 7) rfl ?_); refine box_event ?hg (N := 7) ?hd (cs := #[.slice none 0 0, .int .i64 0, .int .i64 0, .int .i64 0]) (t := 32) ?hr ?_; (case hd => rfl); (case hg => rfl); (case hr => exact z15_10); intro gb492 hg w25 hbox hb; have n0_ := Aside0.mk (Kd.R_below z15_7 hb); have n1_ := Aside0.mk (Kd.R_below z15_15 hb); have n2_ := Aside0.mk (blk_below (g := gb477) (o := .cells #[.slice A0_0 l0_0.length c0_0, .int .i64 a0_1, .int .i64 a0_2, .int .i64 a0_3] 26 (0, 0)) z15_4 hb); have n3_ := Aside0.mk (below_step z15_2 hb); have n4_ := Aside0.mk (hbox); have n5_ := Aside0.mk ((by rw [hg]; exact (below_size z15_2) : w.heap.size ≤ gb492)); have n6_ := Aside0.mk ((by rw [hg]; exact (below_size z15_2) : w.heap.size ≤ gb492)); have n7_ := Aside0.mk ((z15_34 : gb477 ≠ gb492)); have n8_ := Aside0.mk ((z15_35 : gb492 ≠ gb477)); clear HO481; clear HO488; clear BK477; clear HB; have HO481 := n0_; have HO488 := n1_; have BK477 := n2_; have HB := n3_; have BK492 := n4_; have GW492 := n5_; have GE492 := n6_; have NB477_492 := n7_; have NB492_477 := n8_; clear n0_ n1_ n2_ n3_ n4_ n5_ n6_ n7_ n8_; clear hb hbox hg; obtain ⟨Ao26, co26, eo26⟩ := Kd.R_slice HO488.out; subst eo26; have hnb27 := NB492_477.out; have hnc27 := NB477_492.out; have hcz28_0 : w25.cell? ⟨gb492, 0, none⟩ = some (.slice none 0 0) := (blk_cell BK492.out 0).trans rfl; have hcz28_1 : w25.cell? ⟨gb492, 1, none⟩ = some (.int .i64 0) := (blk_cell BK492.out 1).trans rfl; have hcz28_2 : w25.cell? ⟨gb492, 2, none⟩ = some (.int .i64 0) := (blk_cell BK492.out 2).trans rfl; have hcz28_3 : w25.cell? ⟨gb492, 3, none⟩ = some (.int .i64 0) := (blk_cell BK492.out 3).trans rfl; have hfz28_0 := blk_frozen BK492.out 0; have hfz28_1 := blk_frozen BK492.out 1; have hfz28_2 := blk_frozen BK492.out 2; have hfz28_3 := blk_frozen BK492.out 3) | ((with_reducible refine gate_store (t := 32) (p := 7) rfl ?_); refine store_event (t := 32) (p := 7) (v := ?vo_w29) (w1 := ((((w25.setCell ⟨gb492, 0, none⟩ (.slice Ao26 t486.length co26)).setCell ⟨gb492, 1, none⟩ (.int .i64 t489)).setCell ⟨gb492, 2, none⟩ (.int .i64 t490)).setCell ⟨gb492, 3, none⟩ (.int .i64 t491))) ?hg ?ho ?hn ?hr ?_; (case ho => rfl); (case hg => rfl); (case hn => rfl); (case hr => exact z15_10); intro w29 hw; have n0_ : Aside0 (Kd.R k55 55 w29 w.heap.size (fun k_ => some k_ ≠ (.slice Ao26 t486.length co26 : Value).ownBlock) (.slice Ao21 t479.length co21) t479) := ⟨(by rw [hw]; exact (by (with_reducible repeat (first | apply Kd.R_alloc | apply Kd.R_drewN | apply Kd.R_drew)); exact Kd.R_mono (Kd.R_far (p := ⟨gb492, 3, none⟩) (Kd.R_far (p := ⟨gb492, 2, none⟩) (Kd.R_far (p := ⟨gb492, 1, none⟩) (Kd.R_far (p := ⟨gb492, 0, none⟩) (Kd.R_types HO481.out BK492.out (by decide)) (fun _ hk => hk.2) (.slice Ao26 t486.length co26)) (fun _ hk => hk.2) (.int .i64 t489)) (fun _ hk => hk.2) (.int .i64 t490)) (fun _ hk => hk.2) (.int .i64 t491)) (fun _ hk => hk.1.2)))⟩; have n1_ : Aside0 (Kd.R k55 55 w29 w.heap.size (fun k_ => some k_ ≠ (.slice Ao21 t479.length co21 : Value).ownBlock) (.slice Ao26 t486.length co26) t486) := ⟨(by rw [hw]; exact (by (with_reducible repeat (first | apply Kd.R_alloc | apply Kd.R_drewN | apply Kd.R_drew)); exact Kd.R_mono (Kd.R_far (p := ⟨gb492, 3, none⟩) (Kd.R_far (p := ⟨gb492, 2, none⟩) (Kd.R_far (p := ⟨gb492, 1, none⟩) (Kd.R_far (p := ⟨gb492, 0, none⟩) (Kd.R_types HO488.out BK492.out (by decide)) (fun _ hk => hk.2) (.slice Ao26 t486.length co26)) (fun _ hk => hk.2) (.int .i64 t489)) (fun _ hk => hk.2) (.int .i64 t490)) (fun _ hk => hk.2) (.int .i64 t491)) (fun _ hk => hk.1.2)))⟩; have n2_ : Aside0 (w29.heap[gb477]? = some (.cells #[.slice A0_0 l0_0.length c0_0, .int .i64 a0_1, .int .i64 a0_2, .int .i64 a0_3] 26 (0, 0))) := ⟨z15_12⟩; have n3_ : Aside0 (w29.heap[gb492]? = some (.cells #[.slice Ao26 t486.length co26, .int .i64 t489, .int .i64 t490, .int .i64 t491] 32 (0, 0))) := ⟨(by rw [hw]; exact (by (with_reducible repeat (first | refine blk_drewN ?_ _ | refine blk_drew ?_ | refine blk_alloc ?_ _)); refine blk_put (cs := #[.slice Ao26 t486.length co26, .int .i64 t489, .int .i64 t490, .int .i64 0]) ?_ 3 _ rfl; (with_reducible repeat (first | refine blk_drewN ?_ _ | refine blk_drew ?_ | refine blk_alloc ?_ _)); refine blk_put (cs := #[.slice Ao26 t486.length co26, .int .i64 t489, .int .i64 0, .int .i64 0]) ?_ 2 _ rfl; (with_reducible repeat (first | refine blk_drewN ?_ _ | refine blk_drew ?_ | refine blk_alloc ?_ _)); refine blk_put (cs := #[.slice Ao26 t486.length co26, .int .i64 0, .int .i64 0, .int .i64 0]) ?_ 1 _ rfl; (with_reducible repeat (first | refine blk_drewN ?_ _ | refine blk_drew ?_ | refine blk_alloc ?_ _)); refine blk_put (cs := #[.slice none 0 0, .int .i64 0, .int .i64 0, .int .i64 0]) ?_ 0 _ rfl; (with_reducible repeat (first | refine blk_drewN ?_ _ | refine blk_drew ?_ | refine blk_alloc ?_ _)); exact BK492.out))⟩; have n4_ : Aside0 (Below w.heap.size w w29) := ⟨(by rw [hw]; exact z15_6)⟩; clear hw; clear HO481; clear HO488; clear BK477; clear BK492; clear HB; have HO481 := n0_; have HO488 := n1_; have BK477 := n2_; have BK492 := n3_; have HB := n4_; clear n0_ n1_ n2_ n3_ n4_; have hcz30_0 : w29.cell? ⟨gb492, 0, none⟩ = some (.slice Ao26 t486.length co26) := (blk_cell BK492.out 0).trans rfl; have hcz30_1 : w29.cell? ⟨gb492, 1, none⟩ = some (.int .i64 t489) := (blk_cell BK492.out 1).trans rfl; have hcz30_2 : w29.cell? ⟨gb492, 2, none⟩ = some (.int .i64 t490) := (blk_cell BK492.out 2).trans rfl; have hcz30_3 : w29.cell? ⟨gb492, 3, none⟩ = some (.int .i64 t491) := (blk_cell BK492.out 3).trans rfl; have hfz30_0 := blk_frozen BK492.out 0; have hfz30_1 := blk_frozen BK492.out 1; have hfz30_2 := blk_frozen BK492.out 2; have hfz30_3 := blk_frozen BK492.out 3) | ((with_reducible refine gate_callee (f := 9) rfl ?_); refine goesL_ (some 22) rfl rfl Try.func9 z15_19 rfl #[.agg #[.slice Ao26 t486.length co26, .int .i64 t489, .int .i64 t490, .int .i64 t491], .int .i64 a1] rfl z15_1 ?_; (with_reducible refine (impl_WriteCount.calls k _ _ t486 t489 t490 t491 a1 t493 _ ?side1 ?side2 A11.out).mono ?_); (case side1 => exact z15_18); (case side2 => exact (Kd.R_reads' HO488.out).2.1); rintro e w31 ⟨rfl, hb⟩; refine ⟨_, rfl, ?_⟩; have n0_ := Aside0.mk (Kd.R_below z15_7 hb); have n1_ := Aside0.mk (Kd.R_below z15_15 hb); have n2_ := Aside0.mk (blk_below (g := gb477) (o := .cells #[.slice A0_0 l0_0.length c0_0, .int .i64 a0_1, .int .i64 a0_2, .int .i64 a0_3] 26 (0, 0)) z15_4 hb); have n3_ := Aside0.mk (blk_below (g := gb492) (o := .cells #[.slice Ao26 t486.length co26, .int .i64 t489, .int .i64 t490, .int .i64 t491] 32 (0, 0)) z15_17 hb); have n4_ := Aside0.mk (below_step z15_6 hb); clear HO481; clear HO488; clear BK477; clear BK492; clear HB; have HO481 := n0_; have HO488 := n1_; have BK477 := n2_; have BK492 := n3_; have HB := n4_; clear n0_ n1_ n2_ n3_ n4_; (try clear hb); (try clear hb2); (try clear hk); (try clear hi)))
    have n0_ := Aside0.mk (Kd.R_drew HO481.out)
    have n1_ := Aside0.mk (Kd.R_drew HO488.out)
    have n2_ := Aside0.mk (blk_drew BK477.out)
    have n3_ := Aside0.mk (blk_drew BK492.out)
    have n4_ := Aside0.mk (below_drew1 HB.out)
    clear HO481
    clear HO488
    clear BK477
    clear BK492
    clear HB
    have HO481 := n0_
    have HO488 := n1_
    have BK477 := n2_
    have BK492 := n3_
    have HB := n4_
    clear n0_ n1_ n2_ n3_ n4_
    refine start_ (n := 5) (S := fun w' => w'.cell? ⟨gb492, 0, none⟩ = some (.slice Ao26 t486.length co26) ∧ w'.cell? ⟨gb492, 1, none⟩ = some (.int .i64 t489) ∧ w'.cell? ⟨gb492, 2, none⟩ = some (.int .i64 t490) ∧ w'.cell? ⟨gb492, 3, none⟩ = some (.int .i64 t491) ∧ w'.cell? ⟨gb477, 0, none⟩ = some (.slice A0_0 l0_0.length c0_0) ∧ w'.cell? ⟨gb477, 1, none⟩ = some (.int .i64 a0_1) ∧ w'.cell? ⟨gb477, 2, none⟩ = some (.int .i64 a0_2) ∧ w'.cell? ⟨gb477, 3, none⟩ = some (.int .i64 a0_3)) (ds := []) #[false, false, false, false, false] z15_19 rfl rfl ⟨(blk_cell BK492.out 0).trans rfl, (blk_cell BK492.out 1).trans rfl, (blk_cell BK492.out 2).trans rfl, (blk_cell BK492.out 3).trans rfl, (blk_cell BK477.out 0).trans rfl, (blk_cell BK477.out 1).trans rfl, (blk_cell BK477.out 2).trans rfl, (blk_cell BK477.out 3).trans rfl⟩ (fun hHeld => ?_)
    generalize w31.drew = w32 at HO481 HO488 BK477 BK492 HB hHeld ⊢
    refine take_ (i := 0) (N := some 26) (v := ?_) (a' := ?_) #[true, false, false, false, false] rfl rfl z15_19 (fun _ _ _ h => h) (Or.inl ⟨by rfl, ?_⟩) hHeld ?_ ?_
    rotate_left
    ·rintro w' ⟨s0, s1, s2, s3, s4, s5, s6, s7⟩
     go_simp
     with_reducible rfl
    rotate_left
    ·simp only [Act.put, List.setIfInBounds_toArray, List.set_cons_zero, List.set_cons_succ, i64_w, i32_w]
     rfl
    refine take_ (i := 1) (N := some 27) (v := ?_) (a' := ?_) #[true, true, false, false, false] rfl rfl z15_19 (fun _ _ _ h => h) (Or.inl ⟨by rfl, ?_⟩) hHeld ?_ ?_
    rotate_left
    ·rintro w' ⟨s0, s1, s2, s3, s4, s5, s6, s7⟩
     go_simp
     with_reducible rfl
    rotate_left
    ·simp only [Act.put, List.setIfInBounds_toArray, List.set_cons_zero, List.set_cons_succ, i64_w, i32_w]
     rfl
    refine one_ (i := 2) (N := some 28) #[true, true, true, false, false] rfl rfl z15_19 (by decide) (fun K hK => ?_)
    refine goes_ Try.func8 z15_19 rfl #[.agg #[.slice A0_0 l0_0.length c0_0, .int .i64 a0_1, .int .i64 a0_2, .int .i64 a0_3]] (by rfl) rfl rfl z15_1 ?_
    with_reducible refine (laws_toTask.calls k _ _ l0_0 a0_1 a0_2 a0_3 t494 t497 t498 t499 _ ?side1 ?side2 A13.out).mono ?_
    (case side1 => exact z15_3)
    (case side2 => exact z15_26)
    rintro e w33 ⟨v495, rfl, ho0, hb⟩
    refine ⟨_, rfl, ?_⟩
    have n0_ := Aside0.mk (Kd.R_elder' z15_7 (Kd.R_base ho0) hb)
    have n1_ := Aside0.mk (Kd.R_elder' z15_15 (Kd.R_base ho0) hb)
    have n2_ := Aside0.mk (Kd.R_lower (Kd.R_new' (Kd.R_new' ho0 (Kd.R_lt z15_7)) (Kd.R_lt z15_15)) (below_size z15_6))
    have n3_ := Aside0.mk (blk_below (g := gb477) (o := .cells #[.slice A0_0 l0_0.length c0_0, .int .i64 a0_1, .int .i64 a0_2, .int .i64 a0_3] 26 (0, 0)) z15_4 hb)
    have n4_ := Aside0.mk (blk_below (g := gb492) (o := .cells #[.slice Ao26 t486.length co26, .int .i64 t489, .int .i64 t490, .int .i64 t491] 32 (0, 0)) z15_17 hb)
    have n5_ := Aside0.mk (below_step z15_6 hb)
    clear HO481
    clear HO488
    clear BK477
    clear BK492
    clear HB
    have HO481 := n0_
    have HO488 := n1_
    have HO496 := n2_
    have BK477 := n3_
    have BK492 := n4_
    have HB := n5_
    clear n0_ n1_ n2_ n3_ n4_ n5_
    (try clear hb)
    (try clear hb2)
    (try clear hk)
    (try clear hi)
    (try clear ho0)
    obtain ⟨Ao34, co34, eo34⟩ := Kd.R_slice HO496.out
    (first | subst eo34 | (injection eo34 with f1_ f2_ f3_; have f4_ := f1_.symm; have f5_ := f3_.symm; clear f1_ f2_ f3_; subst f4_; subst f5_))
    refine hK.out _ _ ⟨(blk_cell BK492.out 0).trans rfl, (blk_cell BK492.out 1).trans rfl, (blk_cell BK492.out 2).trans rfl, (blk_cell BK492.out 3).trans rfl, (blk_cell BK477.out 0).trans rfl, (blk_cell BK477.out 1).trans rfl, (blk_cell BK477.out 2).trans rfl, (blk_cell BK477.out 3).trans rfl⟩ (fun hHeld => ?_)
    clear hK K
    refine norm_ (a' := ?_) ?_ ?_
    rotate_left
    ·show Act.put _ (some 28) _ = _
     simp only [Act.put, List.setIfInBounds_toArray, List.set_cons_zero, List.set_cons_succ, i64_w, i32_w]
     rfl
    refine one_ (i := 3) (N := some 29) #[true, true, true, true, false] rfl rfl z15_19 (by decide) (fun K hK => ?_)
    refine goes_ Try.func10 z15_19 rfl #[.agg #[.slice Ao26 t486.length co26, .int .i64 t489, .int .i64 t490, .int .i64 t491], .agg #[.slice Ao34 t494.length co34, .int .i64 t497, .int .i64 t498, .int .i64 t499]] (by rfl) rfl rfl z15_1 ?_
    with_reducible refine (laws_eqTask.calls k _ _ t486 t489 t490 t491 _ _ t494 t497 t498 t499 true _ ?side1 ?side2 ?side3 ?side4 A14.out).mono ?_
    (case side1 => exact z15_18)
    (case side2 => exact (Kd.R_reads' HO488.out).2.1)
    (case side3 => repeat (first | exact (Kd.R_reads' HO496.out).2.2 | (with_reducible refine Kd.C_alloc ?_ _) | (with_reducible refine Kd.C_drewN ?_ _) | (with_reducible refine Kd.C_drew ?_)))
    (case side4 => exact (Kd.R_reads' HO496.out).2.1)
    rintro e w35 ⟨rfl, hb⟩
    refine ⟨_, rfl, ?_⟩
    have n0_ := Aside0.mk (Kd.R_below z15_7 hb)
    have n1_ := Aside0.mk (Kd.R_below z15_15 hb)
    have n2_ := Aside0.mk (Kd.R_below (by (with_reducible repeat (first | apply Kd.R_alloc | apply Kd.R_drewN | apply Kd.R_drew)); exact HO496.out) hb)
    have n3_ := Aside0.mk (blk_below (g := gb477) (o := .cells #[.slice A0_0 l0_0.length c0_0, .int .i64 a0_1, .int .i64 a0_2, .int .i64 a0_3] 26 (0, 0)) z15_4 hb)
    have n4_ := Aside0.mk (blk_below (g := gb492) (o := .cells #[.slice Ao26 t486.length co26, .int .i64 t489, .int .i64 t490, .int .i64 t491] 32 (0, 0)) z15_17 hb)
    have n5_ := Aside0.mk (below_step z15_6 hb)
    clear HO481
    clear HO488
    clear HO496
    clear BK477
    clear BK492
    clear HB
    have HO481 := n0_
    have HO488 := n1_
    have HO496 := n2_
    have BK477 := n3_
    have BK492 := n4_
    have HB := n5_
    clear n0_ n1_ n2_ n3_ n4_ n5_
    (try clear hb)
    (try clear hb2)
    (try clear hk)
    (try clear hi)
    refine hK.out _ _ ⟨(blk_cell BK492.out 0).trans rfl, (blk_cell BK492.out 1).trans rfl, (blk_cell BK492.out 2).trans rfl, (blk_cell BK492.out 3).trans rfl, (blk_cell BK477.out 0).trans rfl, (blk_cell BK477.out 1).trans rfl, (blk_cell BK477.out 2).trans rfl, (blk_cell BK477.out 3).trans rfl⟩ (fun hHeld => ?_)
    clear hK K
    refine norm_ (a' := ?_) ?_ ?_
    rotate_left
    ·show Act.put _ (some 29) _ = _
     simp only [Act.put, List.setIfInBounds_toArray, List.set_cons_zero, List.set_cons_succ, i64_w, i32_w]
     rfl
    refine pure_ (i := 4) (N := some 30) (v := ?_) (a' := ?_) #[true, true, true, true, true] rfl rfl z15_19 (fun _ _ _ h => h) (Or.inl ⟨by rfl, ?_⟩) ?_ ?_
    rotate_left
    ·intro w'
     go_simp
     with_reducible rfl
    rotate_left
    ·simp only [Act.put, List.setIfInBounds_toArray, List.set_cons_zero, List.set_cons_succ, i64_w, i32_w]
     rfl
    refine done_ z15_19 ?_
    try go_wp2
    go_ret
    exact ⟨by first | rfl | (simp [errW_none, errW_some] <;> rfl) | (simp [*, errW_none, errW_some] <;> rfl) | (simp [*, errW_none, errW_some, i64_w]; done), by repeat (first | (with_reducible first | exact HB.out | apply below_alloc | apply pw_below_drewN | apply below_drew1 | refine below_set ?_ GE477.out | refine below_set ?_ GE492.out) | exact HB.out)⟩
   ·replace c15 := Bool.eq_false_iff.mpr c15
    subst c15
    have H1 : (some false) = some r := by rw [if_neg (show ¬ (false = true) by decide)] at H; exact H
    clear H
    have H := H1
    clear H1
    obtain rfl := Option.some.inj H
    go_enter Try.func3, Try.ntmps3
    try go_wp2_with (first | ((with_reducible refine gate_dst (N := 2) rfl ?_); refine box_event ?hg (N := 2) ?hd (cs := #[.slice A0_0 l0_0.length c0_0, .int .i64 a0_1, .int .i64 a0_2, .int .i64 a0_3]) (t := 26) ?hr ?_; (case hd => rfl); (case hg => rfl); (case hr => exact z15_10); intro gb477 hg w36 hbox hb; have n0_ := Aside0.mk (below_step z15_0 hb); have n1_ := Aside0.mk (hbox); have n2_ := Aside0.mk ((z15_27 : w.heap.size ≤ gb477)); have n3_ := Aside0.mk ((z15_27 : w.heap.size ≤ gb477)); clear HB; have HB := n0_; have BK477 := n1_; have GW477 := n2_; have GE477 := n3_; clear n0_ n1_ n2_ n3_; clear hb hbox hg; have hcz37_0 : w36.cell? ⟨gb477, 0, none⟩ = some (.slice A0_0 l0_0.length c0_0) := (blk_cell BK477.out 0).trans rfl; have hcz37_1 : w36.cell? ⟨gb477, 1, none⟩ = some (.int .i64 a0_1) := (blk_cell BK477.out 1).trans rfl; have hcz37_2 : w36.cell? ⟨gb477, 2, none⟩ = some (.int .i64 a0_2) := (blk_cell BK477.out 2).trans rfl; have hcz37_3 : w36.cell? ⟨gb477, 3, none⟩ = some (.int .i64 a0_3) := (blk_cell BK477.out 3).trans rfl; have hfz37_0 := blk_frozen BK477.out 0; have hfz37_1 := blk_frozen BK477.out 1; have hfz37_2 := blk_frozen BK477.out 2; have hfz37_3 := blk_frozen BK477.out 3) | ((with_reducible refine gate_callee (f := 6) rfl ?_); refine goesL_ (some 11) rfl rfl Try.func6 z15_19 rfl #[.agg #[.slice A0_0 l0_0.length c0_0, .int .i64 a0_1, .int .i64 a0_2, .int .i64 a0_3], .int .i64 1048576] rfl z15_1 ?_; (with_reducible refine (laws_szTask.calls _ _ l0_0 a0_1 a0_2 a0_3 1048576 t478 _ ?side1 ?side2 A3.out).mono ?_); (case side1 => exact z15_3); (case side2 => exact z15_26); rintro e w38 ⟨rfl, hb⟩; refine ⟨_, rfl, ?_⟩; have n0_ := Aside0.mk (blk_below (g := gb477) (o := .cells #[.slice A0_0 l0_0.length c0_0, .int .i64 a0_1, .int .i64 a0_2, .int .i64 a0_3] 26 (0, 0)) z15_4 hb); have n1_ := Aside0.mk (below_step z15_2 hb); clear BK477; clear HB; have BK477 := n0_; have HB := n1_; clear n0_ n1_; (try clear hb); (try clear hb2); (try clear hk); (try clear hi); have hcz39_0 : w38.cell? ⟨gb477, 0, none⟩ = some (.slice A0_0 l0_0.length c0_0) := (blk_cell BK477.out 0).trans rfl; have hcz39_1 : w38.cell? ⟨gb477, 1, none⟩ = some (.int .i64 a0_1) := (blk_cell BK477.out 1).trans rfl; have hcz39_2 : w38.cell? ⟨gb477, 2, none⟩ = some (.int .i64 a0_2) := (blk_cell BK477.out 2).trans rfl; have hcz39_3 : w38.cell? ⟨gb477, 3, none⟩ = some (.int .i64 a0_3) := (blk_cell BK477.out 3).trans rfl; have hfz39_0 := blk_frozen BK477.out 0; have hfz39_1 := blk_frozen BK477.out 1; have hfz39_2 := blk_frozen BK477.out 2; have hfz39_3 := blk_frozen BK477.out 3) | ((with_reducible refine gate_callee (f := 8) rfl ?_); refine goesL_ (some 15) rfl rfl Try.func8 z15_19 rfl #[.agg #[.slice A0_0 l0_0.length c0_0, .int .i64 a0_1, .int .i64 a0_2, .int .i64 a0_3]] rfl z15_1 ?_; (with_reducible refine (laws_toTask.calls k _ _ l0_0 a0_1 a0_2 a0_3 t479 t482 t483 t484 _ ?side1 ?side2 A8.out).mono ?_); (case side1 => exact z15_3); (case side2 => exact z15_26); rintro e w40 ⟨v480, rfl, ho0, hb⟩; refine ⟨_, rfl, ?_⟩; have n0_ := Aside0.mk (Kd.R_lower ho0 (below_size z15_2)); have n1_ := Aside0.mk (blk_below (g := gb477) (o := .cells #[.slice A0_0 l0_0.length c0_0, .int .i64 a0_1, .int .i64 a0_2, .int .i64 a0_3] 26 (0, 0)) z15_4 hb); have n2_ := Aside0.mk (below_step z15_2 hb); clear BK477; clear HB; have HO481 := n0_; have BK477 := n1_; have HB := n2_; clear n0_ n1_ n2_; (try clear hb); (try clear hb2); (try clear hk); (try clear hi); (try clear ho0); obtain ⟨Ao41, co41, eo41⟩ := Kd.R_slice HO481.out; subst eo41) | ((with_reducible refine gate_callee (f := 7) rfl ?_); refine goesL_ (some 17) rfl rfl Try.func7 z15_19 rfl #[.agg #[.slice Ao41 t479.length co41, .int .i64 t482, .int .i64 t483, .int .i64 t484], .int .i64 a1] rfl z15_1 ?_; (with_reducible refine (spec_WriteCount.calls k _ _ t479 t482 t483 t484 a1 t485 _ ?side1 ?side2 A9.out).mono ?_); (case side1 => exact z15_24); (case side2 => exact (Kd.R_reads' HO481.out).2.1); rintro e w42 ⟨rfl, hb⟩; refine ⟨_, rfl, ?_⟩; have n0_ := Aside0.mk (Kd.R_below z15_7 hb); have n1_ := Aside0.mk (blk_below (g := gb477) (o := .cells #[.slice A0_0 l0_0.length c0_0, .int .i64 a0_1, .int .i64 a0_2, .int .i64 a0_3] 26 (0, 0)) z15_4 hb); have n2_ := Aside0.mk (below_step z15_2 hb); clear HO481; clear BK477; clear HB; have HO481 := n0_; have BK477 := n1_; have HB := n2_; clear n0_ n1_ n2_; (try clear hb); (try clear hb2); (try clear hk); (try clear hi); have hcz43_0 : w42.cell? ⟨gb477, 0, none⟩ = some (.slice A0_0 l0_0.length c0_0) := (blk_cell BK477.out 0).trans rfl; have hcz43_1 : w42.cell? ⟨gb477, 1, none⟩ = some (.int .i64 a0_1) := (blk_cell BK477.out 1).trans rfl; have hcz43_2 : w42.cell? ⟨gb477, 2, none⟩ = some (.int .i64 a0_2) := (blk_cell BK477.out 2).trans rfl; have hcz43_3 : w42.cell? ⟨gb477, 3, none⟩ = some (.int .i64 a0_3) := (blk_cell BK477.out 3).trans rfl; have hfz43_0 := blk_frozen BK477.out 0; have hfz43_1 := blk_frozen BK477.out 1; have hfz43_2 := blk_frozen BK477.out 2; have hfz43_3 := blk_frozen BK477.out 3) | ((with_reducible refine gate_callee (f := 8) rfl ?_); refine goesL_ (some 19) rfl rfl Try.func8 z15_19 rfl #[.agg #[.slice A0_0 l0_0.length c0_0, .int .i64 a0_1, .int .i64 a0_2, .int .i64 a0_3]] rfl z15_1 ?_; (with_reducible refine (laws_toTask.calls k _ _ l0_0 a0_1 a0_2 a0_3 t486 t489 t490 t491 _ ?side1 ?side2 A10.out).mono ?_); (case side1 => exact z15_3); (case side2 => exact z15_26); rintro e w44 ⟨v487, rfl, ho0, hb⟩; refine ⟨_, rfl, ?_⟩; have n0_ := Aside0.mk (Kd.R_elder' z15_7 (Kd.R_base ho0) hb); have n1_ := Aside0.mk (Kd.R_lower (Kd.R_new' ho0 (Kd.R_lt z15_7)) (below_size z15_2)); have n2_ := Aside0.mk (blk_below (g := gb477) (o := .cells #[.slice A0_0 l0_0.length c0_0, .int .i64 a0_1, .int .i64 a0_2, .int .i64 a0_3] 26 (0, 0)) z15_4 hb); have n3_ := Aside0.mk (below_step z15_2 hb); clear HO481; clear BK477; clear HB; have HO481 := n0_; have HO488 := n1_; have BK477 := n2_; have HB := n3_; clear n0_ n1_ n2_ n3_; (try clear hb); (try clear hb2); (try clear hk); (try clear hi); (try clear ho0)) | ((with_reducible refine gate_dst (N := 7) rfl ?_); refine box_event ?hg (N := 7) ?hd (cs := #[.slice none 0 0, .int .i64 0, .int .i64 0, .int .i64 0]) (t := 32) ?hr ?_; (case hd => rfl); (case hg => rfl); (case hr => exact z15_10); intro gb492 hg w45 hbox hb; have n0_ := Aside0.mk (Kd.R_below z15_7 hb); have n1_ := Aside0.mk (Kd.R_below z15_15 hb); have n2_ := Aside0.mk (blk_below (g := gb477) (o := .cells #[.slice A0_0 l0_0.length c0_0, .int .i64 a0_1, .int .i64 a0_2, .int .i64 a0_3] 26 (0, 0)) z15_4 hb); have n3_ := Aside0.mk (below_step z15_2 hb); have n4_ := Aside0.mk (hbox); have n5_ := Aside0.mk ((by rw [hg]; exact (below_size z15_2) : w.heap.size ≤ gb492)); have n6_ := Aside0.mk ((by rw [hg]; exact (below_size z15_2) : w.heap.size ≤ gb492)); have n7_ := Aside0.mk ((z15_34 : gb477 ≠ gb492)); have n8_ := Aside0.mk ((z15_35 : gb492 ≠ gb477)); clear HO481; clear HO488; clear BK477; clear HB; have HO481 := n0_; have HO488 := n1_; have BK477 := n2_; have HB := n3_; have BK492 := n4_; have GW492 := n5_; have GE492 := n6_; have NB477_492 := n7_; have NB492_477 := n8_; clear n0_ n1_ n2_ n3_ n4_ n5_ n6_ n7_ n8_; clear hb hbox hg; obtain ⟨Ao46, co46, eo46⟩ := Kd.R_slice HO488.out; subst eo46; have hnb47 := NB492_477.out; have hnc47 := NB477_492.out; have hcz48_0 : w45.cell? ⟨gb492, 0, none⟩ = some (.slice none 0 0) := (blk_cell BK492.out 0).trans rfl; have hcz48_1 : w45.cell? ⟨gb492, 1, none⟩ = some (.int .i64 0) := (blk_cell BK492.out 1).trans rfl; have hcz48_2 : w45.cell? ⟨gb492, 2, none⟩ = some (.int .i64 0) := (blk_cell BK492.out 2).trans rfl; have hcz48_3 : w45.cell? ⟨gb492, 3, none⟩ = some (.int .i64 0) := (blk_cell BK492.out 3).trans rfl; have hfz48_0 := blk_frozen BK492.out 0; have hfz48_1 := blk_frozen BK492.out 1; have hfz48_2 := blk_frozen BK492.out 2; have hfz48_3 := blk_frozen BK492.out 3) | ((with_reducible refine gate_store (t := 32) (p := 7) rfl ?_); refine store_event (t := 32) (p := 7) (v := ?vo_w49) (w1 := ((((w45.setCell ⟨gb492, 0, none⟩ (.slice Ao46 t486.length co46)).setCell ⟨gb492, 1, none⟩ (.int .i64 t489)).setCell ⟨gb492, 2, none⟩ (.int .i64 t490)).setCell ⟨gb492, 3, none⟩ (.int .i64 t491))) ?hg ?ho ?hn ?hr ?_; (case ho => rfl); (case hg => rfl); (case hn => rfl); (case hr => exact z15_10); intro w49 hw; have n0_ : Aside0 (Kd.R k55 55 w49 w.heap.size (fun k_ => some k_ ≠ (.slice Ao46 t486.length co46 : Value).ownBlock) (.slice Ao41 t479.length co41) t479) := ⟨(by rw [hw]; exact (by (with_reducible repeat (first | apply Kd.R_alloc | apply Kd.R_drewN | apply Kd.R_drew)); exact Kd.R_mono (Kd.R_far (p := ⟨gb492, 3, none⟩) (Kd.R_far (p := ⟨gb492, 2, none⟩) (Kd.R_far (p := ⟨gb492, 1, none⟩) (Kd.R_far (p := ⟨gb492, 0, none⟩) (Kd.R_types HO481.out BK492.out (by decide)) (fun _ hk => hk.2) (.slice Ao46 t486.length co46)) (fun _ hk => hk.2) (.int .i64 t489)) (fun _ hk => hk.2) (.int .i64 t490)) (fun _ hk => hk.2) (.int .i64 t491)) (fun _ hk => hk.1.2)))⟩; have n1_ : Aside0 (Kd.R k55 55 w49 w.heap.size (fun k_ => some k_ ≠ (.slice Ao41 t479.length co41 : Value).ownBlock) (.slice Ao46 t486.length co46) t486) := ⟨(by rw [hw]; exact (by (with_reducible repeat (first | apply Kd.R_alloc | apply Kd.R_drewN | apply Kd.R_drew)); exact Kd.R_mono (Kd.R_far (p := ⟨gb492, 3, none⟩) (Kd.R_far (p := ⟨gb492, 2, none⟩) (Kd.R_far (p := ⟨gb492, 1, none⟩) (Kd.R_far (p := ⟨gb492, 0, none⟩) (Kd.R_types HO488.out BK492.out (by decide)) (fun _ hk => hk.2) (.slice Ao46 t486.length co46)) (fun _ hk => hk.2) (.int .i64 t489)) (fun _ hk => hk.2) (.int .i64 t490)) (fun _ hk => hk.2) (.int .i64 t491)) (fun _ hk => hk.1.2)))⟩; have n2_ : Aside0 (w49.heap[gb477]? = some (.cells #[.slice A0_0 l0_0.length c0_0, .int .i64 a0_1, .int .i64 a0_2, .int .i64 a0_3] 26 (0, 0))) := ⟨z15_12⟩; have n3_ : Aside0 (w49.heap[gb492]? = some (.cells #[.slice Ao46 t486.length co46, .int .i64 t489, .int .i64 t490, .int .i64 t491] 32 (0, 0))) := ⟨(by rw [hw]; exact (by (with_reducible repeat (first | refine blk_drewN ?_ _ | refine blk_drew ?_ | refine blk_alloc ?_ _)); refine blk_put (cs := #[.slice Ao46 t486.length co46, .int .i64 t489, .int .i64 t490, .int .i64 0]) ?_ 3 _ rfl; (with_reducible repeat (first | refine blk_drewN ?_ _ | refine blk_drew ?_ | refine blk_alloc ?_ _)); refine blk_put (cs := #[.slice Ao46 t486.length co46, .int .i64 t489, .int .i64 0, .int .i64 0]) ?_ 2 _ rfl; (with_reducible repeat (first | refine blk_drewN ?_ _ | refine blk_drew ?_ | refine blk_alloc ?_ _)); refine blk_put (cs := #[.slice Ao46 t486.length co46, .int .i64 0, .int .i64 0, .int .i64 0]) ?_ 1 _ rfl; (with_reducible repeat (first | refine blk_drewN ?_ _ | refine blk_drew ?_ | refine blk_alloc ?_ _)); refine blk_put (cs := #[.slice none 0 0, .int .i64 0, .int .i64 0, .int .i64 0]) ?_ 0 _ rfl; (with_reducible repeat (first | refine blk_drewN ?_ _ | refine blk_drew ?_ | refine blk_alloc ?_ _)); exact BK492.out))⟩; have n4_ : Aside0 (Below w.heap.size w w49) := ⟨(by rw [hw]; exact z15_6)⟩; clear hw; clear HO481; clear HO488; clear BK477; clear BK492; clear HB; have HO481 := n0_; have HO488 := n1_; have BK477 := n2_; have BK492 := n3_; have HB := n4_; clear n0_ n1_ n2_ n3_ n4_; have hcz50_0 : w49.cell? ⟨gb492, 0, none⟩ = some (.slice Ao46 t486.length co46) := (blk_cell BK492.out 0).trans rfl; have hcz50_1 : w49.cell? ⟨gb492, 1, none⟩ = some (.int .i64 t489) := (blk_cell BK492.out 1).trans rfl; have hcz50_2 : w49.cell? ⟨gb492, 2, none⟩ = some (.int .i64 t490) := (blk_cell BK492.out 2).trans rfl; have hcz50_3 : w49.cell? ⟨gb492, 3, none⟩ = some (.int .i64 t491) := (blk_cell BK492.out 3).trans rfl; have hfz50_0 := blk_frozen BK492.out 0; have hfz50_1 := blk_frozen BK492.out 1; have hfz50_2 := blk_frozen BK492.out 2; have hfz50_3 := blk_frozen BK492.out 3) | ((with_reducible refine gate_callee (f := 9) rfl ?_); refine goesL_ (some 22) rfl rfl Try.func9 z15_19 rfl #[.agg #[.slice Ao46 t486.length co46, .int .i64 t489, .int .i64 t490, .int .i64 t491], .int .i64 a1] rfl z15_1 ?_; (with_reducible refine (impl_WriteCount.calls k _ _ t486 t489 t490 t491 a1 t493 _ ?side1 ?side2 A11.out).mono ?_); (case side1 => exact z15_18); (case side2 => exact (Kd.R_reads' HO488.out).2.1); rintro e w51 ⟨rfl, hb⟩; refine ⟨_, rfl, ?_⟩; have n0_ := Aside0.mk (Kd.R_below z15_7 hb); have n1_ := Aside0.mk (Kd.R_below z15_15 hb); have n2_ := Aside0.mk (blk_below (g := gb477) (o := .cells #[.slice A0_0 l0_0.length c0_0, .int .i64 a0_1, .int .i64 a0_2, .int .i64 a0_3] 26 (0, 0)) z15_4 hb); have n3_ := Aside0.mk (blk_below (g := gb492) (o := .cells #[.slice Ao46 t486.length co46, .int .i64 t489, .int .i64 t490, .int .i64 t491] 32 (0, 0)) z15_17 hb); have n4_ := Aside0.mk (below_step z15_6 hb); clear HO481; clear HO488; clear BK477; clear BK492; clear HB; have HO481 := n0_; have HO488 := n1_; have BK477 := n2_; have BK492 := n3_; have HB := n4_; clear n0_ n1_ n2_ n3_ n4_; (try clear hb); (try clear hb2); (try clear hk); (try clear hi)))
    have n0_ := Aside0.mk (Kd.R_drew HO481.out)
    have n1_ := Aside0.mk (Kd.R_drew HO488.out)
    have n2_ := Aside0.mk (blk_drew BK477.out)
    have n3_ := Aside0.mk (blk_drew BK492.out)
    have n4_ := Aside0.mk (below_drew1 HB.out)
    clear HO481
    clear HO488
    clear BK477
    clear BK492
    clear HB
    have HO481 := n0_
    have HO488 := n1_
    have BK477 := n2_
    have BK492 := n3_
    have HB := n4_
    clear n0_ n1_ n2_ n3_ n4_
    refine start_ (n := 5) (S := fun w' => w'.cell? ⟨gb492, 0, none⟩ = some (.slice Ao46 t486.length co46) ∧ w'.cell? ⟨gb492, 1, none⟩ = some (.int .i64 t489) ∧ w'.cell? ⟨gb492, 2, none⟩ = some (.int .i64 t490) ∧ w'.cell? ⟨gb492, 3, none⟩ = some (.int .i64 t491) ∧ w'.cell? ⟨gb477, 0, none⟩ = some (.slice A0_0 l0_0.length c0_0) ∧ w'.cell? ⟨gb477, 1, none⟩ = some (.int .i64 a0_1) ∧ w'.cell? ⟨gb477, 2, none⟩ = some (.int .i64 a0_2) ∧ w'.cell? ⟨gb477, 3, none⟩ = some (.int .i64 a0_3)) (ds := []) #[false, false, false, false, false] z15_19 rfl rfl ⟨(blk_cell BK492.out 0).trans rfl, (blk_cell BK492.out 1).trans rfl, (blk_cell BK492.out 2).trans rfl, (blk_cell BK492.out 3).trans rfl, (blk_cell BK477.out 0).trans rfl, (blk_cell BK477.out 1).trans rfl, (blk_cell BK477.out 2).trans rfl, (blk_cell BK477.out 3).trans rfl⟩ (fun hHeld => ?_)
    generalize w51.drew = w52 at HO481 HO488 BK477 BK492 HB hHeld ⊢
    refine take_ (i := 0) (N := some 26) (v := ?_) (a' := ?_) #[true, false, false, false, false] rfl rfl z15_19 (fun _ _ _ h => h) (Or.inl ⟨by rfl, ?_⟩) hHeld ?_ ?_
    rotate_left
    ·rintro w' ⟨s0, s1, s2, s3, s4, s5, s6, s7⟩
     go_simp
     with_reducible rfl
    rotate_left
    ·simp only [Act.put, List.setIfInBounds_toArray, List.set_cons_zero, List.set_cons_succ, i64_w, i32_w]
     rfl
    refine take_ (i := 1) (N := some 27) (v := ?_) (a' := ?_) #[true, true, false, false, false] rfl rfl z15_19 (fun _ _ _ h => h) (Or.inl ⟨by rfl, ?_⟩) hHeld ?_ ?_
    rotate_left
    ·rintro w' ⟨s0, s1, s2, s3, s4, s5, s6, s7⟩
     go_simp
     with_reducible rfl
    rotate_left
    ·simp only [Act.put, List.setIfInBounds_toArray, List.set_cons_zero, List.set_cons_succ, i64_w, i32_w]
     rfl
    refine one_ (i := 2) (N := some 28) #[true, true, true, false, false] rfl rfl z15_19 (by decide) (fun K hK => ?_)
    refine goes_ Try.func8 z15_19 rfl #[.agg #[.slice A0_0 l0_0.length c0_0, .int .i64 a0_1, .int .i64 a0_2, .int .i64 a0_3]] (by rfl) rfl rfl z15_1 ?_
    with_reducible refine (laws_toTask.calls k _ _ l0_0 a0_1 a0_2 a0_3 t494 t497 t498 t499 _ ?side1 ?side2 A13.out).mono ?_
    (case side1 => exact z15_3)
    (case side2 => exact z15_26)
    rintro e w53 ⟨v495, rfl, ho0, hb⟩
    refine ⟨_, rfl, ?_⟩
    have n0_ := Aside0.mk (Kd.R_elder' z15_7 (Kd.R_base ho0) hb)
    have n1_ := Aside0.mk (Kd.R_elder' z15_15 (Kd.R_base ho0) hb)
    have n2_ := Aside0.mk (Kd.R_lower (Kd.R_new' (Kd.R_new' ho0 (Kd.R_lt z15_7)) (Kd.R_lt z15_15)) (below_size z15_6))
    have n3_ := Aside0.mk (blk_below (g := gb477) (o := .cells #[.slice A0_0 l0_0.length c0_0, .int .i64 a0_1, .int .i64 a0_2, .int .i64 a0_3] 26 (0, 0)) z15_4 hb)
    have n4_ := Aside0.mk (blk_below (g := gb492) (o := .cells #[.slice Ao46 t486.length co46, .int .i64 t489, .int .i64 t490, .int .i64 t491] 32 (0, 0)) z15_17 hb)
    have n5_ := Aside0.mk (below_step z15_6 hb)
    clear HO481
    clear HO488
    clear BK477
    clear BK492
    clear HB
    have HO481 := n0_
    have HO488 := n1_
    have HO496 := n2_
    have BK477 := n3_
    have BK492 := n4_
    have HB := n5_
    clear n0_ n1_ n2_ n3_ n4_ n5_
    (try clear hb)
    (try clear hb2)
    (try clear hk)
    (try clear hi)
    (try clear ho0)
    obtain ⟨Ao54, co54, eo54⟩ := Kd.R_slice HO496.out
    (first | subst eo54 | (injection eo54 with f1_ f2_ f3_; have f4_ := f1_.symm; have f5_ := f3_.symm; clear f1_ f2_ f3_; subst f4_; subst f5_))
    refine hK.out _ _ ⟨(blk_cell BK492.out 0).trans rfl, (blk_cell BK492.out 1).trans rfl, (blk_cell BK492.out 2).trans rfl, (blk_cell BK492.out 3).trans rfl, (blk_cell BK477.out 0).trans rfl, (blk_cell BK477.out 1).trans rfl, (blk_cell BK477.out 2).trans rfl, (blk_cell BK477.out 3).trans rfl⟩ (fun hHeld => ?_)
    clear hK K
    refine norm_ (a' := ?_) ?_ ?_
    rotate_left
    ·show Act.put _ (some 28) _ = _
     simp only [Act.put, List.setIfInBounds_toArray, List.set_cons_zero, List.set_cons_succ, i64_w, i32_w]
     rfl
    refine one_ (i := 3) (N := some 29) #[true, true, true, true, false] rfl rfl z15_19 (by decide) (fun K hK => ?_)
    refine goes_ Try.func10 z15_19 rfl #[.agg #[.slice Ao46 t486.length co46, .int .i64 t489, .int .i64 t490, .int .i64 t491], .agg #[.slice Ao54 t494.length co54, .int .i64 t497, .int .i64 t498, .int .i64 t499]] (by rfl) rfl rfl z15_1 ?_
    with_reducible refine (laws_eqTask.calls k _ _ t486 t489 t490 t491 _ _ t494 t497 t498 t499 false _ ?side1 ?side2 ?side3 ?side4 A14.out).mono ?_
    (case side1 => exact z15_18)
    (case side2 => exact (Kd.R_reads' HO488.out).2.1)
    (case side3 => repeat (first | exact (Kd.R_reads' HO496.out).2.2 | (with_reducible refine Kd.C_alloc ?_ _) | (with_reducible refine Kd.C_drewN ?_ _) | (with_reducible refine Kd.C_drew ?_)))
    (case side4 => exact (Kd.R_reads' HO496.out).2.1)
    rintro e w55 ⟨rfl, hb⟩
    refine ⟨_, rfl, ?_⟩
    have n0_ := Aside0.mk (Kd.R_below z15_7 hb)
    have n1_ := Aside0.mk (Kd.R_below z15_15 hb)
    have n2_ := Aside0.mk (Kd.R_below (by (with_reducible repeat (first | apply Kd.R_alloc | apply Kd.R_drewN | apply Kd.R_drew)); exact HO496.out) hb)
    have n3_ := Aside0.mk (blk_below (g := gb477) (o := .cells #[.slice A0_0 l0_0.length c0_0, .int .i64 a0_1, .int .i64 a0_2, .int .i64 a0_3] 26 (0, 0)) z15_4 hb)
    have n4_ := Aside0.mk (blk_below (g := gb492) (o := .cells #[.slice Ao46 t486.length co46, .int .i64 t489, .int .i64 t490, .int .i64 t491] 32 (0, 0)) z15_17 hb)
    have n5_ := Aside0.mk (below_step z15_6 hb)
    clear HO481
    clear HO488
    clear HO496
    clear BK477
    clear BK492
    clear HB
    have HO481 := n0_
    have HO488 := n1_
    have HO496 := n2_
    have BK477 := n3_
    have BK492 := n4_
    have HB := n5_
    clear n0_ n1_ n2_ n3_ n4_ n5_
    (try clear hb)
    (try clear hb2)
    (try clear hk)
    (try clear hi)
    refine hK.out _ _ ⟨(blk_cell BK492.out 0).trans rfl, (blk_cell BK492.out 1).trans rfl, (blk_cell BK492.out 2).trans rfl, (blk_cell BK492.out 3).trans rfl, (blk_cell BK477.out 0).trans rfl, (blk_cell BK477.out 1).trans rfl, (blk_cell BK477.out 2).trans rfl, (blk_cell BK477.out 3).trans rfl⟩ (fun hHeld => ?_)
    clear hK K
    refine norm_ (a' := ?_) ?_ ?_
    rotate_left
    ·show Act.put _ (some 29) _ = _
     simp only [Act.put, List.setIfInBounds_toArray, List.set_cons_zero, List.set_cons_succ, i64_w, i32_w]
     rfl
    refine pure_ (i := 4) (N := some 30) (v := ?_) (a' := ?_) #[true, true, true, true, true] rfl rfl z15_19 (fun _ _ _ h => h) (Or.inl ⟨by rfl, ?_⟩) ?_ ?_
    rotate_left
    ·intro w'
     go_simp
     with_reducible rfl
    rotate_left
    ·simp only [Act.put, List.setIfInBounds_toArray, List.set_cons_zero, List.set_cons_succ, i64_w, i32_w]
     rfl
    refine done_ z15_19 ?_
    try go_wp2
    go_ret
    exact ⟨by first | rfl | (simp [errW_none, errW_some] <;> rfl) | (simp [*, errW_none, errW_some] <;> rfl) | (simp [*, errW_none, errW_some, i64_w]; done), by repeat (first | (with_reducible first | exact HB.out | apply below_alloc | apply pw_below_drewN | apply below_drew1 | refine below_set ?_ GE477.out | refine below_set ?_ GE492.out) | exact HB.out)⟩
  ·rw [if_neg c12] at H
   have c12b0 : (t493 == t485) = false := beq_eq_false_iff_ne.mpr c12
   have c12b1 : (t493 != t485) = true := bne_iff_ne.mpr c12
   obtain rfl := Option.some.inj H
   go_enter Try.func3, Try.ntmps3
   go_wp2_with (first | ((with_reducible refine gate_dst (N := 2) rfl ?_); refine box_event ?hg (N := 2) ?hd (cs := #[.slice A0_0 l0_0.length c0_0, .int .i64 a0_1, .int .i64 a0_2, .int .i64 a0_3]) (t := 26) ?hr ?_; (case hd => rfl); (case hg => rfl); (case hr => exact z15_10); intro gb477 hg w56 hbox hb; have n0_ := Aside0.mk (below_step z15_0 hb); have n1_ := Aside0.mk (hbox); have n2_ := Aside0.mk ((z15_27 : w.heap.size ≤ gb477)); have n3_ := Aside0.mk ((z15_27 : w.heap.size ≤ gb477)); clear HB; have HB := n0_; have BK477 := n1_; have GW477 := n2_; have GE477 := n3_; clear n0_ n1_ n2_ n3_; clear hb hbox hg; have hcz57_0 : w56.cell? ⟨gb477, 0, none⟩ = some (.slice A0_0 l0_0.length c0_0) := (blk_cell BK477.out 0).trans rfl; have hcz57_1 : w56.cell? ⟨gb477, 1, none⟩ = some (.int .i64 a0_1) := (blk_cell BK477.out 1).trans rfl; have hcz57_2 : w56.cell? ⟨gb477, 2, none⟩ = some (.int .i64 a0_2) := (blk_cell BK477.out 2).trans rfl; have hcz57_3 : w56.cell? ⟨gb477, 3, none⟩ = some (.int .i64 a0_3) := (blk_cell BK477.out 3).trans rfl; have hfz57_0 := blk_frozen BK477.out 0; have hfz57_1 := blk_frozen BK477.out 1; have hfz57_2 := blk_frozen BK477.out 2; have hfz57_3 := blk_frozen BK477.out 3) | ((with_reducible refine gate_callee (f := 6) rfl ?_); refine goesL_ (some 11) rfl rfl Try.func6 z15_19 rfl #[.agg #[.slice A0_0 l0_0.length c0_0, .int .i64 a0_1, .int .i64 a0_2, .int .i64 a0_3], .int .i64 1048576] rfl z15_1 ?_; (with_reducible refine (laws_szTask.calls _ _ l0_0 a0_1 a0_2 a0_3 1048576 t478 _ ?side1 ?side2 A3.out).mono ?_); (case side1 => exact z15_3); (case side2 => exact z15_26); rintro e w58 ⟨rfl, hb⟩; refine ⟨_, rfl, ?_⟩; have n0_ := Aside0.mk (blk_below (g := gb477) (o := .cells #[.slice A0_0 l0_0.length c0_0, .int .i64 a0_1, .int .i64 a0_2, .int .i64 a0_3] 26 (0, 0)) z15_4 hb); have n1_ := Aside0.mk (below_step z15_2 hb); clear BK477; clear HB; have BK477 := n0_; have HB := n1_; clear n0_ n1_; (try clear hb); (try clear hb2); (try clear hk); (try clear hi); have hcz59_0 : w58.cell? ⟨gb477, 0, none⟩ = some (.slice A0_0 l0_0.length c0_0) := (blk_cell BK477.out 0).trans rfl; have hcz59_1 : w58.cell? ⟨gb477, 1, none⟩ = some (.int .i64 a0_1) := (blk_cell BK477.out 1).trans rfl; have hcz59_2 : w58.cell? ⟨gb477, 2, none⟩ = some (.int .i64 a0_2) := (blk_cell BK477.out 2).trans rfl; have hcz59_3 : w58.cell? ⟨gb477, 3, none⟩ = some (.int .i64 a0_3) := (blk_cell BK477.out 3).trans rfl; have hfz59_0 := blk_frozen BK477.out 0; have hfz59_1 := blk_frozen BK477.out 1; have hfz59_2 := blk_frozen BK477.out 2; have hfz59_3 := blk_frozen BK477.out 3) | ((with_reducible refine gate_callee (f := 8) rfl ?_); refine goesL_ (some 15) rfl rfl Try.func8 z15_19 rfl #[.agg #[.slice A0_0 l0_0.length c0_0, .int .i64 a0_1, .int .i64 a0_2, .int .i64 a0_3]] rfl z15_1 ?_; (with_reducible refine (laws_toTask.calls k _ _ l0_0 a0_1 a0_2 a0_3 t479 t482 t483 t484 _ ?side1 ?side2 A8.out).mono ?_); (case side1 => exact z15_3); (case side2 => exact z15_26); rintro e w60 ⟨v480, rfl, ho0, hb⟩; refine ⟨_, rfl, ?_⟩; have n0_ := Aside0.mk (Kd.R_lower ho0 (below_size z15_2)); have n1_ := Aside0.mk (blk_below (g := gb477) (o := .cells #[.slice A0_0 l0_0.length c0_0, .int .i64 a0_1, .int .i64 a0_2, .int .i64 a0_3] 26 (0, 0)) z15_4 hb); have n2_ := Aside0.mk (below_step z15_2 hb); clear BK477; clear HB; have HO481 := n0_; have BK477 := n1_; have HB := n2_; clear n0_ n1_ n2_; (try clear hb); (try clear hb2); (try clear hk); (try clear hi); (try clear ho0); obtain ⟨Ao61, co61, eo61⟩ := Kd.R_slice HO481.out; subst eo61) | ((with_reducible refine gate_callee (f := 7) rfl ?_); refine goesL_ (some 17) rfl rfl Try.func7 z15_19 rfl #[.agg #[.slice Ao61 t479.length co61, .int .i64 t482, .int .i64 t483, .int .i64 t484], .int .i64 a1] rfl z15_1 ?_; (with_reducible refine (spec_WriteCount.calls k _ _ t479 t482 t483 t484 a1 t485 _ ?side1 ?side2 A9.out).mono ?_); (case side1 => exact z15_24); (case side2 => exact (Kd.R_reads' HO481.out).2.1); rintro e w62 ⟨rfl, hb⟩; refine ⟨_, rfl, ?_⟩; have n0_ := Aside0.mk (Kd.R_below z15_7 hb); have n1_ := Aside0.mk (blk_below (g := gb477) (o := .cells #[.slice A0_0 l0_0.length c0_0, .int .i64 a0_1, .int .i64 a0_2, .int .i64 a0_3] 26 (0, 0)) z15_4 hb); have n2_ := Aside0.mk (below_step z15_2 hb); clear HO481; clear BK477; clear HB; have HO481 := n0_; have BK477 := n1_; have HB := n2_; clear n0_ n1_ n2_; (try clear hb); (try clear hb2); (try clear hk); (try clear hi); have hcz63_0 : w62.cell? ⟨gb477, 0, none⟩ = some (.slice A0_0 l0_0.length c0_0) := (blk_cell BK477.out 0).trans rfl; have hcz63_1 : w62.cell? ⟨gb477, 1, none⟩ = some (.int .i64 a0_1) := (blk_cell BK477.out 1).trans rfl; have hcz63_2 : w62.cell? ⟨gb477, 2, none⟩ = some (.int .i64 a0_2) := (blk_cell BK477.out 2).trans rfl; have hcz63_3 : w62.cell? ⟨gb477, 3, none⟩ = some (.int .i64 a0_3) := (blk_cell BK477.out 3).trans rfl; have hfz63_0 := blk_frozen BK477.out 0; have hfz63_1 := blk_frozen BK477.out 1; have hfz63_2 := blk_frozen BK477.out 2; have hfz63_3 := blk_frozen BK477.out 3) | ((with_reducible refine gate_callee (f := 8) rfl ?_); refine goesL_ (some 19) rfl rfl Try.func8 z15_19 rfl #[.agg #[.slice A0_0 l0_0.length c0_0, .int .i64 a0_1, .int .i64 a0_2, .int .i64 a0_3]] rfl z15_1 ?_; (with_reducible refine (laws_toTask.calls k _ _ l0_0 a0_1 a0_2 a0_3 t486 t489 t490 t491 _ ?side1 ?side2 A10.out).mono ?_); (case side1 => exact z15_3); (case side2 => exact z15_26); rintro e w64 ⟨v487, rfl, ho0, hb⟩; refine ⟨_, rfl, ?_⟩; have n0_ := Aside0.mk (Kd.R_elder' z15_7 (Kd.R_base ho0) hb); have n1_ := Aside0.mk (Kd.R_lower (Kd.R_new' ho0 (Kd.R_lt z15_7)) (below_size z15_2)); have n2_ := Aside0.mk (blk_below (g := gb477) (o := .cells #[.slice A0_0 l0_0.length c0_0, .int .i64 a0_1, .int .i64 a0_2, .int .i64 a0_3] 26 (0, 0)) z15_4 hb); have n3_ := Aside0.mk (below_step z15_2 hb); clear HO481; clear BK477; clear HB; have HO481 := n0_; have HO488 := n1_; have BK477 := n2_; have HB := n3_; clear n0_ n1_ n2_ n3_; (try clear hb); (try clear hb2); (try clear hk); (try clear hi); (try clear ho0)) | ((with_reducible refine gate_dst (N := 7) rfl ?_); refine box_event ?hg (N := 7) ?hd (cs := #[.slice none 0 0, .int .i64 0, .int .i64 0, .int .i64 0]) (t := 32) ?hr ?_; (case hd => rfl); (case hg => rfl); (case hr => exact z15_10); intro gb492 hg w65 hbox hb; have n0_ := Aside0.mk (Kd.R_below z15_7 hb); have n1_ := Aside0.mk (Kd.R_below z15_15 hb); have n2_ := Aside0.mk (blk_below (g := gb477) (o := .cells #[.slice A0_0 l0_0.length c0_0, .int .i64 a0_1, .int .i64 a0_2, .int .i64 a0_3] 26 (0, 0)) z15_4 hb); have n3_ := Aside0.mk (below_step z15_2 hb); have n4_ := Aside0.mk (hbox); have n5_ := Aside0.mk ((by rw [hg]; exact (below_size z15_2) : w.heap.size ≤ gb492)); have n6_ := Aside0.mk ((by rw [hg]; exact (below_size z15_2) : w.heap.size ≤ gb492)); have n7_ := Aside0.mk ((z15_34 : gb477 ≠ gb492)); have n8_ := Aside0.mk ((z15_35 : gb492 ≠ gb477)); clear HO481; clear HO488; clear BK477; clear HB; have HO481 := n0_; have HO488 := n1_; have BK477 := n2_; have HB := n3_; have BK492 := n4_; have GW492 := n5_; have GE492 := n6_; have NB477_492 := n7_; have NB492_477 := n8_; clear n0_ n1_ n2_ n3_ n4_ n5_ n6_ n7_ n8_; clear hb hbox hg; obtain ⟨Ao66, co66, eo66⟩ := Kd.R_slice HO488.out; subst eo66; have hnb67 := NB492_477.out; have hnc67 := NB477_492.out; have hcz68_0 : w65.cell? ⟨gb492, 0, none⟩ = some (.slice none 0 0) := (blk_cell BK492.out 0).trans rfl; have hcz68_1 : w65.cell? ⟨gb492, 1, none⟩ = some (.int .i64 0) := (blk_cell BK492.out 1).trans rfl; have hcz68_2 : w65.cell? ⟨gb492, 2, none⟩ = some (.int .i64 0) := (blk_cell BK492.out 2).trans rfl; have hcz68_3 : w65.cell? ⟨gb492, 3, none⟩ = some (.int .i64 0) := (blk_cell BK492.out 3).trans rfl; have hfz68_0 := blk_frozen BK492.out 0; have hfz68_1 := blk_frozen BK492.out 1; have hfz68_2 := blk_frozen BK492.out 2; have hfz68_3 := blk_frozen BK492.out 3) | ((with_reducible refine gate_store (t := 32) (p := 7) rfl ?_); refine store_event (t := 32) (p := 7) (v := ?vo_w69) (w1 := ((((w65.setCell ⟨gb492, 0, none⟩ (.slice Ao66 t486.length co66)).setCell ⟨gb492, 1, none⟩ (.int .i64 t489)).setCell ⟨gb492, 2, none⟩ (.int .i64 t490)).setCell ⟨gb492, 3, none⟩ (.int .i64 t491))) ?hg ?ho ?hn ?hr ?_; (case ho => rfl); (case hg => rfl); (case hn => rfl); (case hr => exact z15_10); intro w69 hw; have n0_ : Aside0 (Kd.R k55 55 w69 w.heap.size (fun k_ => some k_ ≠ (.slice Ao66 t486.length co66 : Value).ownBlock) (.slice Ao61 t479.length co61) t479) := ⟨(by rw [hw]; exact (by (with_reducible repeat (first | apply Kd.R_alloc | apply Kd.R_drewN | apply Kd.R_drew)); exact Kd.R_mono (Kd.R_far (p := ⟨gb492, 3, none⟩) (Kd.R_far (p := ⟨gb492, 2, none⟩) (Kd.R_far (p := ⟨gb492, 1, none⟩) (Kd.R_far (p := ⟨gb492, 0, none⟩) (Kd.R_types HO481.out BK492.out (by decide)) (fun _ hk => hk.2) (.slice Ao66 t486.length co66)) (fun _ hk => hk.2) (.int .i64 t489)) (fun _ hk => hk.2) (.int .i64 t490)) (fun _ hk => hk.2) (.int .i64 t491)) (fun _ hk => hk.1.2)))⟩; have n1_ : Aside0 (Kd.R k55 55 w69 w.heap.size (fun k_ => some k_ ≠ (.slice Ao61 t479.length co61 : Value).ownBlock) (.slice Ao66 t486.length co66) t486) := ⟨(by rw [hw]; exact (by (with_reducible repeat (first | apply Kd.R_alloc | apply Kd.R_drewN | apply Kd.R_drew)); exact Kd.R_mono (Kd.R_far (p := ⟨gb492, 3, none⟩) (Kd.R_far (p := ⟨gb492, 2, none⟩) (Kd.R_far (p := ⟨gb492, 1, none⟩) (Kd.R_far (p := ⟨gb492, 0, none⟩) (Kd.R_types HO488.out BK492.out (by decide)) (fun _ hk => hk.2) (.slice Ao66 t486.length co66)) (fun _ hk => hk.2) (.int .i64 t489)) (fun _ hk => hk.2) (.int .i64 t490)) (fun _ hk => hk.2) (.int .i64 t491)) (fun _ hk => hk.1.2)))⟩; have n2_ : Aside0 (w69.heap[gb477]? = some (.cells #[.slice A0_0 l0_0.length c0_0, .int .i64 a0_1, .int .i64 a0_2, .int .i64 a0_3] 26 (0, 0))) := ⟨z15_12⟩; have n3_ : Aside0 (w69.heap[gb492]? = some (.cells #[.slice Ao66 t486.length co66, .int .i64 t489, .int .i64 t490, .int .i64 t491] 32 (0, 0))) := ⟨(by rw [hw]; exact (by (with_reducible repeat (first | refine blk_drewN ?_ _ | refine blk_drew ?_ | refine blk_alloc ?_ _)); refine blk_put (cs := #[.slice Ao66 t486.length co66, .int .i64 t489, .int .i64 t490, .int .i64 0]) ?_ 3 _ rfl; (with_reducible repeat (first | refine blk_drewN ?_ _ | refine blk_drew ?_ | refine blk_alloc ?_ _)); refine blk_put (cs := #[.slice Ao66 t486.length co66, .int .i64 t489, .int .i64 0, .int .i64 0]) ?_ 2 _ rfl; (with_reducible repeat (first | refine blk_drewN ?_ _ | refine blk_drew ?_ | refine blk_alloc ?_ _)); refine blk_put (cs := #[.slice Ao66 t486.length co66, .int .i64 0, .int .i64 0, .int .i64 0]) ?_ 1 _ rfl; (with_reducible repeat (first | refine blk_drewN ?_ _ | refine blk_drew ?_ | refine blk_alloc ?_ _)); refine blk_put (cs := #[.slice none 0 0, .int .i64 0, .int .i64 0, .int .i64 0]) ?_ 0 _ rfl; (with_reducible repeat (first | refine blk_drewN ?_ _ | refine blk_drew ?_ | refine blk_alloc ?_ _)); exact BK492.out))⟩; have n4_ : Aside0 (Below w.heap.size w w69) := ⟨(by rw [hw]; exact z15_6)⟩; clear hw; clear HO481; clear HO488; clear BK477; clear BK492; clear HB; have HO481 := n0_; have HO488 := n1_; have BK477 := n2_; have BK492 := n3_; have HB := n4_; clear n0_ n1_ n2_ n3_ n4_; have hcz70_0 : w69.cell? ⟨gb492, 0, none⟩ = some (.slice Ao66 t486.length co66) := (blk_cell BK492.out 0).trans rfl; have hcz70_1 : w69.cell? ⟨gb492, 1, none⟩ = some (.int .i64 t489) := (blk_cell BK492.out 1).trans rfl; have hcz70_2 : w69.cell? ⟨gb492, 2, none⟩ = some (.int .i64 t490) := (blk_cell BK492.out 2).trans rfl; have hcz70_3 : w69.cell? ⟨gb492, 3, none⟩ = some (.int .i64 t491) := (blk_cell BK492.out 3).trans rfl; have hfz70_0 := blk_frozen BK492.out 0; have hfz70_1 := blk_frozen BK492.out 1; have hfz70_2 := blk_frozen BK492.out 2; have hfz70_3 := blk_frozen BK492.out 3) | ((with_reducible refine gate_callee (f := 9) rfl ?_); refine goesL_ (some 22) rfl rfl Try.func9 z15_19 rfl #[.agg #[.slice Ao66 t486.length co66, .int .i64 t489, .int .i64 t490, .int .i64 t491], .int .i64 a1] rfl z15_1 ?_; (with_reducible refine (impl_WriteCount.calls k _ _ t486 t489 t490 t491 a1 t493 _ ?side1 ?side2 A11.out).mono ?_); (case side1 => exact z15_18); (case side2 => exact (Kd.R_reads' HO488.out).2.1); rintro e w71 ⟨rfl, hb⟩; refine ⟨_, rfl, ?_⟩; have n0_ := Aside0.mk (Kd.R_below z15_7 hb); have n1_ := Aside0.mk (Kd.R_below z15_15 hb); have n2_ := Aside0.mk (blk_below (g := gb477) (o := .cells #[.slice A0_0 l0_0.length c0_0, .int .i64 a0_1, .int .i64 a0_2, .int .i64 a0_3] 26 (0, 0)) z15_4 hb); have n3_ := Aside0.mk (blk_below (g := gb492) (o := .cells #[.slice Ao66 t486.length co66, .int .i64 t489, .int .i64 t490, .int .i64 t491] 32 (0, 0)) z15_17 hb); have n4_ := Aside0.mk (below_step z15_6 hb); clear HO481; clear HO488; clear BK477; clear BK492; clear HB; have HO481 := n0_; have HO488 := n1_; have BK477 := n2_; have BK492 := n3_; have HB := n4_; clear n0_ n1_ n2_ n3_ n4_; (try clear hb); (try clear hb2); (try clear hk); (try clear hi)))
   go_ret
   exact ⟨by first | rfl | (simp [errW_none, errW_some] <;> rfl) | (simp [*, errW_none, errW_some] <;> rfl) | (simp [*, errW_none, errW_some, i64_w]; done), by repeat (first | (with_reducible first | exact HB.out | apply below_alloc | apply pw_below_drewN | apply below_drew1 | refine below_set ?_ GE477.out | refine below_set ?_ GE492.out) | exact HB.out)⟩
def laws_FnExactWriteCount.Pure : Prop := ∀ (x0 : S26) (x1 : Int), gd26 x0 → (Lit.int .i64 x1).wf = true → ∃ k, laws_FnExactWriteCount.f k x0.f0 x0.f1.f0 x0.f1.f1 x0.f1.f2 x1 = some true
theorem laws_FnExactWriteCount.walk (P : laws_FnExactWriteCount.Pure) (x0 : S26) (c0 : Array Value) (x1 : Int) (w : World) (K0 : k26.K w x0 c0.toList) (G0 : gd26 x0) (G1 : (Lit.int .i64 x1).wf = true) :
  Calls Try.prog 3 #[.agg c0, .int .i64 x1] w fun e w' => e = .returned (.bool true) ∧ Below w.heap.size w w' := by
 obtain ⟨A0_0, c0_0, e0, l0_0, g0_0⟩ := k26_open K0
 have e0' : c0 = #[.slice A0_0 x0.f0.length c0_0, .int .i64 x0.f1.f0, .int .i64 x0.f1.f1, .int .i64 x0.f1.f2] := by rw [← Array.toList_inj]; exact e0
 subst e0'
 obtain ⟨k, h⟩ := P x0 x1 G0 G1
 refine (laws_FnExactWriteCount.calls k _ _ x0.f0 x0.f1.f0 x0.f1.f1 x0.f1.f2 x1 true w g0_0 l0_0 h).mono ?_
 rintro e w' ⟨rfl, hd⟩
 exact ⟨rfl, hd⟩
end Go.Proofs.Ytccjlmpeogifkaa.G
