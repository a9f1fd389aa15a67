/- Functions of the program as plain Lean functions, and that each call comes to its function's answer; written by a program of the session. No condition. -/
import Derived.Test.YtakhaknglhgimaaGx0
import Derived.Test.YtakhaknglhgimaaGx4
import Derived.Test.YtakhaknglhgimaaGx6
import Derived.Test.YtakhaknglhgimaaGx7
namespace Go.Proofs.Ytakhaknglhgimaa.G
open Go.RowKit Go.Proofs.YtakhaknglhgimaaW.PrintWords Go.Proofs.YtakhaknglhgimaaW.PrintLast Go.Proofs.YtakhaknglhgimaaW.PrintMore
attribute [local go_sem] max2_int min2_int max_two min_two max_three min_three max_four min_four   -- for this text's walks alone
set_option linter.unusedVariables false
set_option linter.unusedSimpArgs false

theorem z8_0 {P : Prop} (h : P := by repeat (first | exact (Kd.C_below HR0.out (by repeat (first | (with_reducible first | exact HB.out | apply below_alloc | apply pw_below_drewN | apply below_drew1 | refine below_set ?_ GE375.out) | exact HB.out))) | (with_reducible refine Kd.C_alloc ?_ _) | (with_reducible refine Kd.C_drewN ?_ _) | (with_reducible refine Kd.C_drew ?_))) : P := h
theorem z8_1 {P : Prop} (h : P := by repeat (first | exact (Kd.C_below HR0.out HB.out) | (with_reducible refine Kd.C_alloc ?_ _) | (with_reducible refine Kd.C_drewN ?_ _) | (with_reducible refine Kd.C_drew ?_))) : P := h
theorem z8_2 {P : Prop} (h : P := by repeat (first | (with_reducible first | exact HB.out | apply below_alloc | apply pw_below_drewN | apply below_drew1 | refine below_set ?_ GE375.out) | exact HB.out)) : P := h
theorem z8_3 {P : Prop} (h : P := by repeat (first | (with_reducible first | exact HB.out | apply below_alloc | apply pw_below_drewN | apply below_drew1) | exact HB.out)) : P := h
theorem z8_4 {P : Prop} (h : P := by (try simp only [List.map_toArray, List.map_cons, List.map_nil]); first | done | rfl | (simp only [List.length_drop, List.length_take]; rfl)) : P := h
theorem z8_5 {P : Prop} (h : P := by repeat (first | (with_reducible first | exact HB.out | apply below_alloc | apply pw_below_drewN | apply below_drew1 | refine below_set ?_ GE385.out) | exact HB.out)) : P := h
theorem z8_6 {P : Prop} (h : P := by exact HC0.out) : P := h
theorem z8_7 {P : Prop} (h : P := by repeat (first | exact (Kd.C_below HR0_0.out HB.out) | (with_reducible refine Kd.C_alloc ?_ _) | (with_reducible refine Kd.C_drewN ?_ _) | (with_reducible refine Kd.C_drew ?_))) : P := h
theorem z8_8 {P : Prop} (h : P := by (with_reducible repeat (first | refine blk_drewN ?_ _ | refine blk_drew ?_ | refine blk_alloc ?_ _)); exact BK385.out) : P := h
theorem z8_9 {P : Prop} (h : P := by (with_reducible repeat (first | refine blk_drewN ?_ _ | refine blk_drew ?_ | refine blk_alloc ?_ _)); exact BK375.out) : P := h
theorem z8_10 {P : Prop} (h : P := by rw [hg]; exact (below_size z8_3)) : P := h
/-! ### impl_operand: function 138 -/
def impl_operand.f (l0 : List Int) (a1 : Int) : Option (Int) := if a1 < 0 then (if 0 ≤ (wrap64 ((-1) - a1)) then (if (wrap64 ((-1) - a1)) < (l0.length : Int) then (some (rd l0 (wrap64 ((-1) - a1)))) else (none)) else (none)) else (some a1)
set_option maxHeartbeats 8000000 in
set_option maxRecDepth 100000 in
theorem impl_operand.calls (A0 : Option Addr) (c0 : Nat) (l0 : List Int) (a1 : Int) (r : Int) (w : World) (hr0 : Kd.C (Kd.int .i64) w A0 l0.length l0) (hc0 : l0.length ≤ c0) (h : impl_operand.f l0 a1 = some r) :
    Calls Try.prog 138 #[.slice A0 l0.length c0, .int .i64 a1] w fun e w' => e = .returned (.int .i64 r) ∧ Drawn0 w w' := by
  have HR0 := Aside0.mk hr0
  have HC0 := Aside0.mk hc0
  clear hr0 hc0
  have H : (if a1 < 0 then (if 0 ≤ (wrap64 ((-1) - a1)) then (if (wrap64 ((-1) - a1)) < (l0.length : Int) then (some (rd l0 (wrap64 ((-1) - a1)))) else (none)) else (none)) else (some a1)) = some r := h
  clear h
  by_cases c3 : a1 < 0
  · rw [if_pos c3] at H
    have c3b0 : decide (a1 < 0) = true := decide_eq_true c3
    clear c3
    obtain ⟨ji4, hji4⟩ : ∃ j_ : Int, (wrap64 ((-1) - a1)) = j_ := ⟨_, rfl⟩
    replace H : (if 0 ≤ (ji4) then (if (ji4) < (l0.length : Int) then (some (rd l0 (ji4))) else (none)) else (none)) = some r := by first | (rw [hji4] at H; exact H) | (simp only [hji4] at H ⊢; exact H)
    have hji4w : (IntKind.i64.wrap ((-1) - a1)) = ji4 := (i64_w _).trans hji4
    by_cases c5 : 0 ≤ (ji4)
    · rw [if_pos c5] at H
      have c5b0 : decide (0 ≤ (ji4)) = true := decide_eq_true c5
      clear c5
      by_cases c6 : (ji4) < (l0.length : Int)
      · rw [if_pos c6] at H
        have c6b0 : decide ((ji4) < (l0.length : Int)) = true := decide_eq_true c6
        clear c6
        obtain rfl := Option.some.inj H
        have p368 : 0 ≤ ((ji4) : Int) := of_decide_eq_true (by first | (with_reducible assumption) | assumption)
        have q368 : (ji4) < (l0.length : Int) := of_decide_eq_true (by first | (with_reducible assumption) | assumption)
        obtain ⟨ad368, e368, hx368_0⟩ := Kd.at_int HR0.out (ji4) p368 q368
        cases e368
        replace p368 := eq_true p368
        replace q368 := eq_true q368
        go_enter Try.func138, Try.ntmps138
        go_wp2
        go_ret
        exact ⟨by first | rfl | (simp; done) | (simp only [← hji4] <;> (first | rfl | simp)) | (simp [*]; done), by repeat (first | exact Drawn0.refl _ | apply Drawn0.step)⟩
      · rw [if_neg c6] at H
        exact absurd H (by simp)
    · rw [if_neg c5] at H
      exact absurd H (by simp)
  · rw [if_neg c3] at H
    have c3b0 : decide (a1 < 0) = false := decide_eq_false c3
    clear c3
    obtain rfl := Option.some.inj H
    go_enter Try.func138, Try.ntmps138
    go_wp2
    go_ret
    exact ⟨by first | rfl | (simp; done) | (simp [*]; done), by repeat (first | exact Drawn0.refl _ | apply Drawn0.step)⟩

/-! ### impl_SubValues: function 139 -/
def impl_SubValues.f (a0 : Int) (a1 : Int) : Option (Int) := (impl_Saturate.f a0).bind fun t369 => ((impl_Saturate.f a1).bind fun t370 => ((impl_Saturate.f (wrap64 (t369 - t370))).bind fun t371 => (some t371)))
set_option maxHeartbeats 8000000 in
set_option maxRecDepth 100000 in
theorem impl_SubValues.calls (a0 : Int) (a1 : Int) (r : Int) (w : World) (h : impl_SubValues.f a0 a1 = some r) :
    Calls Try.prog 139 #[.int .i64 a0, .int .i64 a1] w fun e w' => e = .returned (.int .i64 r) ∧ Drawn0 w w' := by
  have H : ((impl_Saturate.f a0).bind fun t369 => ((impl_Saturate.f a1).bind fun t370 => ((impl_Saturate.f (wrap64 (t369 - t370))).bind fun t371 => (some t371)))) = some r := h
  clear h
  replace H := Option.bind_eq_some_iff.mp H
  obtain ⟨t369, A30, H⟩ := H
  replace H : ((impl_Saturate.f a1).bind fun t370 => ((impl_Saturate.f (wrap64 (t369 - t370))).bind fun t371 => (some t371))) = some r := H
  have A3 := Aside0.mk A30
  clear A30
  replace H := Option.bind_eq_some_iff.mp H
  obtain ⟨t370, A40, H⟩ := H
  replace H : ((impl_Saturate.f (wrap64 (t369 - t370))).bind fun t371 => (some t371)) = some r := H
  have A4 := Aside0.mk A40
  clear A40
  replace H := Option.bind_eq_some_iff.mp H
  obtain ⟨t371, A50, H⟩ := H
  replace H : (some t371) = some r := H
  have A5 := Aside0.mk A50
  clear A50
  obtain rfl := Option.some.inj H
  go_enter Try.func139, Try.ntmps139
  go_wp2_with (first | ((first | ((with_reducible refine gate_callee (f := 142) rfl ?_); refine goesL_ (some 6) rfl rfl Try.func142 (by kernel_rfl) rfl #[.int .i64 a0] rfl z8_4 ?_; (with_reducible refine (impl_Saturate.calls a0 t369 _ A3.out).mono ?_)) | (go_at_call 142; (with_reducible refine (impl_Saturate.calls a0 t369 _ A3.out).mono ?_))); rintro e w' ⟨rfl, ⟨nd, rfl⟩⟩; (first | refine ⟨_, rfl, ?_⟩ | skip)) | ((first | ((with_reducible refine gate_callee (f := 142) rfl ?_); refine goesL_ (some 8) rfl rfl Try.func142 (by kernel_rfl) rfl #[.int .i64 a1] rfl z8_4 ?_; (with_reducible refine (impl_Saturate.calls a1 t370 _ A4.out).mono ?_)) | (go_at_call 142; (with_reducible refine (impl_Saturate.calls a1 t370 _ A4.out).mono ?_))); rintro e w' ⟨rfl, ⟨nd, rfl⟩⟩; (first | refine ⟨_, rfl, ?_⟩ | skip)) | ((first | ((with_reducible refine gate_callee (f := 142) rfl ?_); refine goesL_ (some 10) rfl rfl Try.func142 (by kernel_rfl) rfl #[.int .i64 (wrap64 (t369 - t370))] rfl z8_4 ?_; (with_reducible refine (impl_Saturate.calls (wrap64 (t369 - t370)) t371 _ A5.out).mono ?_)) | (go_at_call 142; (with_reducible refine (impl_Saturate.calls (wrap64 (t369 - t370)) t371 _ A5.out).mono ?_))); rintro e w' ⟨rfl, ⟨nd, rfl⟩⟩; (first | refine ⟨_, rfl, ?_⟩ | skip)))
  go_ret
  exact ⟨by first | rfl | (simp; done) | (simp [*]; done), by repeat (first | exact Drawn0.refl _ | apply Drawn0.step)⟩

/-! ### impl_MulValues: function 140 -/
def impl_MulValues.f (a0 : Int) (a1 : Int) : Option (Int) := (impl_Saturate.f a0).bind fun t372 => ((impl_Saturate.f a1).bind fun t373 => ((impl_Saturate.f (wrap64 (t372 * t373))).bind fun t374 => (some t374)))
set_option maxHeartbeats 8000000 in
set_option maxRecDepth 100000 in
theorem impl_MulValues.calls (a0 : Int) (a1 : Int) (r : Int) (w : World) (h : impl_MulValues.f a0 a1 = some r) :
    Calls Try.prog 140 #[.int .i64 a0, .int .i64 a1] w fun e w' => e = .returned (.int .i64 r) ∧ Drawn0 w w' := by
  have H : ((impl_Saturate.f a0).bind fun t372 => ((impl_Saturate.f a1).bind fun t373 => ((impl_Saturate.f (wrap64 (t372 * t373))).bind fun t374 => (some t374)))) = some r := h
  clear h
  replace H := Option.bind_eq_some_iff.mp H
  obtain ⟨t372, A30, H⟩ := H
  replace H : ((impl_Saturate.f a1).bind fun t373 => ((impl_Saturate.f (wrap64 (t372 * t373))).bind fun t374 => (some t374))) = some r := H
  have A3 := Aside0.mk A30
  clear A30
  replace H := Option.bind_eq_some_iff.mp H
  obtain ⟨t373, A40, H⟩ := H
  replace H : ((impl_Saturate.f (wrap64 (t372 * t373))).bind fun t374 => (some t374)) = some r := H
  have A4 := Aside0.mk A40
  clear A40
  replace H := Option.bind_eq_some_iff.mp H
  obtain ⟨t374, A50, H⟩ := H
  replace H : (some t374) = some r := H
  have A5 := Aside0.mk A50
  clear A50
  obtain rfl := Option.some.inj H
  go_enter Try.func140, Try.ntmps140
  go_wp2_with (first | ((first | ((with_reducible refine gate_callee (f := 142) rfl ?_); refine goesL_ (some 6) rfl rfl Try.func142 (by kernel_rfl) rfl #[.int .i64 a0] rfl z8_4 ?_; (with_reducible refine (impl_Saturate.calls a0 t372 _ A3.out).mono ?_)) | (go_at_call 142; (with_reducible refine (impl_Saturate.calls a0 t372 _ A3.out).mono ?_))); rintro e w' ⟨rfl, ⟨nd, rfl⟩⟩; (first | refine ⟨_, rfl, ?_⟩ | skip)) | ((first | ((with_reducible refine gate_callee (f := 142) rfl ?_); refine goesL_ (some 8) rfl rfl Try.func142 (by kernel_rfl) rfl #[.int .i64 a1] rfl z8_4 ?_; (with_reducible refine (impl_Saturate.calls a1 t373 _ A4.out).mono ?_)) | (go_at_call 142; (with_reducible refine (impl_Saturate.calls a1 t373 _ A4.out).mono ?_))); rintro e w' ⟨rfl, ⟨nd, rfl⟩⟩; (first | refine ⟨_, rfl, ?_⟩ | skip)) | ((first | ((with_reducible refine gate_callee (f := 142) rfl ?_); refine goesL_ (some 10) rfl rfl Try.func142 (by kernel_rfl) rfl #[.int .i64 (wrap64 (t372 * t373))] rfl z8_4 ?_; (with_reducible refine (impl_Saturate.calls (wrap64 (t372 * t373)) t374 _ A5.out).mono ?_)) | (go_at_call 142; (with_reducible refine (impl_Saturate.calls (wrap64 (t372 * t373)) t374 _ A5.out).mono ?_))); rintro e w' ⟨rfl, ⟨nd, rfl⟩⟩; (first | refine ⟨_, rfl, ?_⟩ | skip)))
  go_ret
  exact ⟨by first | rfl | (simp; done) | (simp [*]; done), by repeat (first | exact Drawn0.refl _ | apply Drawn0.step)⟩

/-! ### impl_EvalExpr: function 106 -/
def impl_EvalExpr.j0 : Nat → List Int → Bool → Int → Int → Int → Option (Int)
  | 0, _, _, _, _, _ => none
  | k + 1, x0, x14, x376000, x376001, x376002 => if x14 = true then (some 0) else ((impl_operand.f x0 x376001).bind fun t378 => ((impl_operand.f x0 x376002).bind fun t379 => (if x376000 = 1 then ((impl_AddValues.f t378 t379).bind fun t380 => (some t380)) else (if x376000 = 2 then ((impl_SubValues.f t378 t379).bind fun t381 => (some t381)) else (if x376000 = 3 then ((impl_MulValues.f t378 t379).bind fun t382 => (some t382)) else (if x376000 = 4 then (some (mn t378 t379)) else (if x376000 = 5 then (some (mx t378 t379)) else (if x376000 = 6 then ((impl_bit.f (decide (t378 < t379))).bind fun t383 => (some t383)) else ((impl_bit.f (t378 == t379)).bind fun t384 => (some t384))))))))))
def impl_EvalExpr.f (k : Nat) (l0 : List Int) (a1_0 : Int) (a1_1 : Int) (a1_2 : Int) : Option (Int) := (impl_VarsOk.f l0).bind fun t376 => (if t376 = true then ((impl_ExprOk.f a1_0 a1_1 a1_2).bind fun t377 => (impl_EvalExpr.j0 k l0 (!t377) a1_0 a1_1 a1_2)) else (impl_EvalExpr.j0 k l0 true a1_0 a1_1 a1_2))
theorem impl_EvalExpr.mono_l : ∀ k, (∀ y0 y1 y2 y3 y4, LeO (impl_EvalExpr.j0 k y0 y1 y2 y3 y4) (impl_EvalExpr.j0 (k + 1) y0 y1 y2 y3 y4))
  | 0 => fun _ _ _ _ _ r h => by simp [impl_EvalExpr.j0] at h
  | k + 1 => by
    have ih0 := impl_EvalExpr.mono_l k
    · intro y0 y1 y2 y3 y4
      unfold impl_EvalExpr.j0
      repeat' first
      | (with_reducible exact ih0 _ _ _ _ _)
      | (with_reducible exact LeO.refl _)
      | (with_reducible exact LeO.none _)
      | (with_reducible refine LeO.ite ?_ ?_)
      | (with_reducible refine LeO.bind ?_ (fun _ => ?_))
      | exact ih0 _ _ _ _ _
      | exact LeO.none _
      | refine LeO.ite ?_ ?_
      | refine LeO.bind ?_ (fun _ => ?_)
theorem impl_EvalExpr.mono : ∀ a0 a1 a2 a3 k, LeO (impl_EvalExpr.f k a0 a1 a2 a3) (impl_EvalExpr.f (k + 1) a0 a1 a2 a3) := by
  intro a0 a1 a2 a3 k
  have ih0 := impl_EvalExpr.mono_l k
  unfold impl_EvalExpr.f
  repeat' first
      | (with_reducible exact ih0 _ _ _ _ _)
      | (with_reducible exact LeO.refl _)
      | (with_reducible exact LeO.none _)
      | (with_reducible refine LeO.ite ?_ ?_)
      | (with_reducible refine LeO.bind ?_ (fun _ => ?_))
      | exact ih0 _ _ _ _ _
      | exact LeO.none _
      | refine LeO.ite ?_ ?_
      | refine LeO.bind ?_ (fun _ => ?_)
set_option maxHeartbeats 8000000 in
set_option maxRecDepth 100000 in
theorem impl_EvalExpr.calls (k : Nat) (A0 : Option Addr) (c0 : Nat) (l0 : List Int) (a1_0 : Int) (a1_1 : Int) (a1_2 : Int) (r : Int) (w : World) (hr0 : Kd.C (Kd.int .i64) w A0 l0.length l0) (hc0 : l0.length ≤ c0) (h : impl_EvalExpr.f k l0 a1_0 a1_1 a1_2 = some r) :
    Calls Try.prog 106 #[.slice A0 l0.length c0, .agg #[.int .i64 a1_0, .int .i64 a1_1, .int .i64 a1_2]] w fun e w' => e = .returned (.int .i64 r) ∧ Below w.heap.size w w' := by
  have hu32 := Try.underlying32
  have HR0 := Aside0.mk hr0
  have HC0 := Aside0.mk hc0
  clear hr0 hc0
  have HB := Aside0.mk (Below.refl w.heap.size w)
  have H : ((impl_VarsOk.f l0).bind fun t376 => (if t376 = true then ((impl_ExprOk.f a1_0 a1_1 a1_2).bind fun t377 => (impl_EvalExpr.j0 k l0 (!t377) a1_0 a1_1 a1_2)) else (impl_EvalExpr.j0 k l0 true a1_0 a1_1 a1_2))) = some r := h
  clear h
  have HC3 := Aside0.mk H
  clear H
  go_enter Try.func106, Try.ntmps106
  go_upto_region 1 with (first | ((with_reducible refine gate_dst (N := 3) rfl ?_); refine box_event ?hg (N := 3) ?hd (cs := #[.int .i64 a1_0, .int .i64 a1_1, .int .i64 a1_2]) (t := 32) ?hr ?_; (case hd => rfl); (case hg => rfl); (case hr => first | (go_simp; done) | (go_simp; rfl)); intro gb375 hg w4 hbox hb; have n0_ := Aside0.mk (below_step z8_3 hb); have n1_ := Aside0.mk (hbox); have n2_ := Aside0.mk ((z8_10 : w.heap.size ≤ gb375)); have n3_ := Aside0.mk ((z8_10 : w.heap.size ≤ gb375)); clear HB; have HB := n0_; have BK375 := n1_; have GW375 := n2_; have GE375 := n3_; clear n0_ n1_ n2_ n3_; clear hb hbox hg))
  repeat (go_quiet (first | ((with_reducible refine gate_dst (N := 3) rfl ?_); refine box_event ?hg (N := 3) ?hd (cs := #[.int .i64 a1_0, .int .i64 a1_1, .int .i64 a1_2]) (t := 32) ?hr ?_; (case hd => rfl); (case hg => rfl); (case hr => first | (go_simp; done) | (go_simp; rfl)); intro gb375 hg w4 hbox hb; have n0_ := Aside0.mk (below_step z8_3 hb); have n1_ := Aside0.mk (hbox); have n2_ := Aside0.mk ((z8_10 : w.heap.size ≤ gb375)); have n3_ := Aside0.mk ((z8_10 : w.heap.size ≤ gb375)); clear HB; have HB := n0_; have BK375 := n1_; have GW375 := n2_; have GE375 := n3_; clear n0_ n1_ n2_ n3_; clear hb hbox hg)); go_upto_region 1 with (first | ((with_reducible refine gate_dst (N := 3) rfl ?_); refine box_event ?hg (N := 3) ?hd (cs := #[.int .i64 a1_0, .int .i64 a1_1, .int .i64 a1_2]) (t := 32) ?hr ?_; (case hd => rfl); (case hg => rfl); (case hr => first | (go_simp; done) | (go_simp; rfl)); intro gb375 hg w4 hbox hb; have n0_ := Aside0.mk (below_step z8_3 hb); have n1_ := Aside0.mk (hbox); have n2_ := Aside0.mk ((z8_10 : w.heap.size ≤ gb375)); have n3_ := Aside0.mk ((z8_10 : w.heap.size ≤ gb375)); clear HB; have HB := n0_; have BK375 := n1_; have GW375 := n2_; have GE375 := n3_; clear n0_ n1_ n2_ n3_; clear hb hbox hg)))
  (try simp only [Act.put, List.setIfInBounds_toArray, List.set_cons_zero, List.set_cons_succ])
  go_cut [14] (fun v14 wc => ∃ (kq : Nat) (x14_2 : Bool), v14 = .bool x14_2 ∧ Aside0 (impl_EvalExpr.j0 kq l0 x14_2 a1_0 a1_1 a1_2 = some r) ∧ Aside0 (kq ≤ k) ∧ Aside0 (wc.heap[gb375]? = some (.cells #[.int .i64 a1_0, .int .i64 a1_1, .int .i64 a1_2] 32 (0, 0))) ∧ Aside0 (Below w.heap.size w wc))
  case first =>
    have H := HC3.out
    clear HC3
    replace H := Option.bind_eq_some_iff.mp H
    obtain ⟨t376, A50, H⟩ := H
    replace H : (if t376 = true then ((impl_ExprOk.f a1_0 a1_1 a1_2).bind fun t377 => (impl_EvalExpr.j0 k l0 (!t377) a1_0 a1_1 a1_2)) else (impl_EvalExpr.j0 k l0 true a1_0 a1_1 a1_2)) = some r := H
    have A5 := Aside0.mk A50
    clear A50
    by_cases c6 : t376 = true
    · subst c6
      have H1 : ((impl_ExprOk.f a1_0 a1_1 a1_2).bind fun t377 => (impl_EvalExpr.j0 k l0 (!t377) a1_0 a1_1 a1_2)) = some r := by rw [if_pos rfl] at H; exact H
      clear H
      have H := H1
      clear H1
      replace H := Option.bind_eq_some_iff.mp H
      obtain ⟨t377, A70, H⟩ := H
      replace H : (impl_EvalExpr.j0 k l0 (!t377) a1_0 a1_1 a1_2) = some r := H
      have A7 := Aside0.mk A70
      clear A70
      have H' := Aside0.mk H
      clear H
      go_wp2_with (first | (go_at_call 61; (with_reducible refine (impl_VarsOk.calls _ _ l0 true _ ?side1 ?side2 A5.out).mono ?_); (case side1 => exact z8_1); (case side2 => exact z8_6); rintro e w' ⟨rfl, ⟨nd, rfl⟩⟩; (try first | exact ⟨rfl, _, World.drewN_drewN _ _ _⟩ | exact ⟨rfl, _, Eq.trans (World.drewN_drewN _ _ _) (congrArg (World.drewN _) (Nat.add_assoc _ _ _))⟩); have hcz8_0 : w4.cell? ⟨gb375, 0, none⟩ = some (.int .i64 a1_0) := (blk_cell BK375.out 0).trans rfl; have hcz8_1 : w4.cell? ⟨gb375, 1, none⟩ = some (.int .i64 a1_1) := (blk_cell BK375.out 1).trans rfl; have hcz8_2 : w4.cell? ⟨gb375, 2, none⟩ = some (.int .i64 a1_2) := (blk_cell BK375.out 2).trans rfl; have hfz8_0 := blk_frozen BK375.out 0; have hfz8_1 := blk_frozen BK375.out 1; have hfz8_2 := blk_frozen BK375.out 2) | (go_at_call 129; (with_reducible refine (impl_ExprOk.calls a1_0 a1_1 a1_2 t377 _ A7.out).mono ?_); rintro e w9 ⟨rfl, hb⟩; have n0_ := Aside0.mk (blk_below (g := gb375) (o := .cells #[.int .i64 a1_0, .int .i64 a1_1, .int .i64 a1_2] 32 (0, 0)) z8_9 hb); have n1_ := Aside0.mk (below_step z8_2 hb); clear BK375; clear HB; have BK375 := n0_; have HB := n1_; clear n0_ n1_; (try clear hb); (try clear hb2); (try clear hk); (try clear hi)))
      repeat (go_quiet (first | (go_at_call 61; (with_reducible refine (impl_VarsOk.calls _ _ l0 true _ ?side1 ?side2 A5.out).mono ?_); (case side1 => exact z8_1); (case side2 => exact z8_6); rintro e w' ⟨rfl, ⟨nd, rfl⟩⟩; (try first | exact ⟨rfl, _, World.drewN_drewN _ _ _⟩ | exact ⟨rfl, _, Eq.trans (World.drewN_drewN _ _ _) (congrArg (World.drewN _) (Nat.add_assoc _ _ _))⟩); have hcz8_0 : w4.cell? ⟨gb375, 0, none⟩ = some (.int .i64 a1_0) := (blk_cell BK375.out 0).trans rfl; have hcz8_1 : w4.cell? ⟨gb375, 1, none⟩ = some (.int .i64 a1_1) := (blk_cell BK375.out 1).trans rfl; have hcz8_2 : w4.cell? ⟨gb375, 2, none⟩ = some (.int .i64 a1_2) := (blk_cell BK375.out 2).trans rfl; have hfz8_0 := blk_frozen BK375.out 0; have hfz8_1 := blk_frozen BK375.out 1; have hfz8_2 := blk_frozen BK375.out 2) | (go_at_call 129; (with_reducible refine (impl_ExprOk.calls a1_0 a1_1 a1_2 t377 _ A7.out).mono ?_); rintro e w9 ⟨rfl, hb⟩; have n0_ := Aside0.mk (blk_below (g := gb375) (o := .cells #[.int .i64 a1_0, .int .i64 a1_1, .int .i64 a1_2] 32 (0, 0)) z8_9 hb); have n1_ := Aside0.mk (below_step z8_2 hb); clear BK375; clear HB; have BK375 := n0_; have HB := n1_; clear n0_ n1_; (try clear hb); (try clear hb2); (try clear hk); (try clear hi))); try go_wp2_with (first | (go_at_call 61; (with_reducible refine (impl_VarsOk.calls _ _ l0 true _ ?side1 ?side2 A5.out).mono ?_); (case side1 => exact z8_1); (case side2 => exact z8_6); rintro e w' ⟨rfl, ⟨nd, rfl⟩⟩; (try first | exact ⟨rfl, _, World.drewN_drewN _ _ _⟩ | exact ⟨rfl, _, Eq.trans (World.drewN_drewN _ _ _) (congrArg (World.drewN _) (Nat.add_assoc _ _ _))⟩); have hcz8_0 : w4.cell? ⟨gb375, 0, none⟩ = some (.int .i64 a1_0) := (blk_cell BK375.out 0).trans rfl; have hcz8_1 : w4.cell? ⟨gb375, 1, none⟩ = some (.int .i64 a1_1) := (blk_cell BK375.out 1).trans rfl; have hcz8_2 : w4.cell? ⟨gb375, 2, none⟩ = some (.int .i64 a1_2) := (blk_cell BK375.out 2).trans rfl; have hfz8_0 := blk_frozen BK375.out 0; have hfz8_1 := blk_frozen BK375.out 1; have hfz8_2 := blk_frozen BK375.out 2) | (go_at_call 129; (with_reducible refine (impl_ExprOk.calls a1_0 a1_1 a1_2 t377 _ A7.out).mono ?_); rintro e w9 ⟨rfl, hb⟩; have n0_ := Aside0.mk (blk_below (g := gb375) (o := .cells #[.int .i64 a1_0, .int .i64 a1_1, .int .i64 a1_2] 32 (0, 0)) z8_9 hb); have n1_ := Aside0.mk (below_step z8_2 hb); clear BK375; clear HB; have BK375 := n0_; have HB := n1_; clear n0_ n1_; (try clear hb); (try clear hb2); (try clear hk); (try clear hi))))
      go_meet
      case rel => exact ⟨_, (!t377), (by first | rfl | (simp; done) | (simp [*]; done)), H', ⟨by first | omega | exact Nat.le_refl _⟩, ⟨by (with_reducible repeat (first | refine blk_drewN ?_ _ | refine blk_drew ?_ | refine blk_alloc ?_ _)); exact BK375.out⟩, ⟨by repeat (first | (with_reducible first | exact HB.out | apply below_alloc | apply pw_below_drewN | apply below_drew1 | refine below_set ?_ GE375.out) | exact HB.out)⟩⟩
    · replace c6 := Bool.eq_false_iff.mpr c6
      subst c6
      have H1 : (impl_EvalExpr.j0 k l0 true a1_0 a1_1 a1_2) = some r := by rw [if_neg (show ¬ (false = true) by decide)] at H; exact H
      clear H
      have H := H1
      clear H1
      have H' := Aside0.mk H
      clear H
      go_wp2_with (first | (go_at_call 61; (with_reducible refine (impl_VarsOk.calls _ _ l0 false _ ?side1 ?side2 A5.out).mono ?_); (case side1 => exact z8_1); (case side2 => exact z8_6); rintro e w' ⟨rfl, ⟨nd, rfl⟩⟩; (try first | exact ⟨rfl, _, World.drewN_drewN _ _ _⟩ | exact ⟨rfl, _, Eq.trans (World.drewN_drewN _ _ _) (congrArg (World.drewN _) (Nat.add_assoc _ _ _))⟩)))
      repeat (go_quiet (first | (go_at_call 61; (with_reducible refine (impl_VarsOk.calls _ _ l0 false _ ?side1 ?side2 A5.out).mono ?_); (case side1 => exact z8_1); (case side2 => exact z8_6); rintro e w' ⟨rfl, ⟨nd, rfl⟩⟩; (try first | exact ⟨rfl, _, World.drewN_drewN _ _ _⟩ | exact ⟨rfl, _, Eq.trans (World.drewN_drewN _ _ _) (congrArg (World.drewN _) (Nat.add_assoc _ _ _))⟩))); try go_wp2_with (first | (go_at_call 61; (with_reducible refine (impl_VarsOk.calls _ _ l0 false _ ?side1 ?side2 A5.out).mono ?_); (case side1 => exact z8_1); (case side2 => exact z8_6); rintro e w' ⟨rfl, ⟨nd, rfl⟩⟩; (try first | exact ⟨rfl, _, World.drewN_drewN _ _ _⟩ | exact ⟨rfl, _, Eq.trans (World.drewN_drewN _ _ _) (congrArg (World.drewN _) (Nat.add_assoc _ _ _))⟩))))
      go_meet
      case rel => exact ⟨_, (true), (by first | rfl | (simp; done) | (simp [*]; done)), H', ⟨by first | omega | exact Nat.le_refl _⟩, ⟨by (with_reducible repeat (first | refine blk_drewN ?_ _ | refine blk_drew ?_ | refine blk_alloc ?_ _)); exact BK375.out⟩, ⟨by repeat (first | (with_reducible first | exact HB.out | apply below_alloc | apply pw_below_drewN | apply below_drew1 | refine below_set ?_ GE375.out) | exact HB.out)⟩⟩
  case rest =>
    clear HC3
    obtain ⟨kq, x14_2, rfl, HA, HJ2, BK375, HB⟩ := hcut
    cases kq with
    | zero => exact absurd HA.out (by simp [impl_EvalExpr.j0])
    | succ kj2 =>
      have H := HA.out
      clear HA
      simp only [impl_EvalExpr.j0] at H
      by_cases c10 : x14_2 = true
      · subst c10
        have H1 : (some 0) = some r := by rw [if_pos rfl] at H; exact H
        clear H
        have H := H1
        clear H1
        obtain rfl := Option.some.inj H
        go_wp2
        repeat (go_quiet (fail); try go_wp2)
        go_ret
        exact ⟨by first | rfl | (simp [errW_none, errW_some] <;> rfl) | (simp [*, errW_none, errW_some] <;> rfl) | (simp [*, errW_none, errW_some, i64_w]; done), by repeat (first | (with_reducible first | exact HB.out | apply below_alloc | apply pw_below_drewN | apply below_drew1 | refine below_set ?_ GE375.out) | exact HB.out)⟩
      · replace c10 := Bool.eq_false_iff.mpr c10
        subst c10
        have H1 : ((impl_operand.f l0 a1_1).bind fun t378 => ((impl_operand.f l0 a1_2).bind fun t379 => (if a1_0 = 1 then ((impl_AddValues.f t378 t379).bind fun t380 => (some t380)) else (if a1_0 = 2 then ((impl_SubValues.f t378 t379).bind fun t381 => (some t381)) else (if a1_0 = 3 then ((impl_MulValues.f t378 t379).bind fun t382 => (some t382)) else (if a1_0 = 4 then (some (mn t378 t379)) else (if a1_0 = 5 then (some (mx t378 t379)) else (if a1_0 = 6 then ((impl_bit.f (decide (t378 < t379))).bind fun t383 => (some t383)) else ((impl_bit.f (t378 == t379)).bind fun t384 => (some t384)))))))))) = some r := by rw [if_neg (show ¬ (false = true) by decide)] at H; exact H
        clear H
        have H := H1
        clear H1
        replace H := Option.bind_eq_some_iff.mp H
        obtain ⟨t378, A110, H⟩ := H
        replace H : ((impl_operand.f l0 a1_2).bind fun t379 => (if a1_0 = 1 then ((impl_AddValues.f t378 t379).bind fun t380 => (some t380)) else (if a1_0 = 2 then ((impl_SubValues.f t378 t379).bind fun t381 => (some t381)) else (if a1_0 = 3 then ((impl_MulValues.f t378 t379).bind fun t382 => (some t382)) else (if a1_0 = 4 then (some (mn t378 t379)) else (if a1_0 = 5 then (some (mx t378 t379)) else (if a1_0 = 6 then ((impl_bit.f (decide (t378 < t379))).bind fun t383 => (some t383)) else ((impl_bit.f (t378 == t379)).bind fun t384 => (some t384))))))))) = some r := H
        have A11 := Aside0.mk A110
        clear A110
        replace H := Option.bind_eq_some_iff.mp H
        obtain ⟨t379, A120, H⟩ := H
        replace H : (if a1_0 = 1 then ((impl_AddValues.f t378 t379).bind fun t380 => (some t380)) else (if a1_0 = 2 then ((impl_SubValues.f t378 t379).bind fun t381 => (some t381)) else (if a1_0 = 3 then ((impl_MulValues.f t378 t379).bind fun t382 => (some t382)) else (if a1_0 = 4 then (some (mn t378 t379)) else (if a1_0 = 5 then (some (mx t378 t379)) else (if a1_0 = 6 then ((impl_bit.f (decide (t378 < t379))).bind fun t383 => (some t383)) else ((impl_bit.f (t378 == t379)).bind fun t384 => (some t384)))))))) = some r := H
        have A12 := Aside0.mk A120
        clear A120
        by_cases c13 : a1_0 = 1
        · rw [if_pos c13] at H
          have c13b0 : (a1_0 == 1) = true := beq_iff_eq.mpr c13
          have c13b1 : (a1_0 != 1) = false := bne_eq_false_iff_eq.mpr c13
          clear c13
          replace H := Option.bind_eq_some_iff.mp H
          obtain ⟨t380, A140, H⟩ := H
          replace H : (some t380) = some r := H
          have A14 := Aside0.mk A140
          clear A140
          obtain rfl := Option.some.inj H
          have hcz15_0 : wc.cell? ⟨gb375, 0, none⟩ = some (.int .i64 a1_0) := (blk_cell BK375.out 0).trans rfl
          have hcz15_1 : wc.cell? ⟨gb375, 1, none⟩ = some (.int .i64 a1_1) := (blk_cell BK375.out 1).trans rfl
          have hcz15_2 : wc.cell? ⟨gb375, 2, none⟩ = some (.int .i64 a1_2) := (blk_cell BK375.out 2).trans rfl
          have hfz15_0 := blk_frozen BK375.out 0
          have hfz15_1 := blk_frozen BK375.out 1
          have hfz15_2 := blk_frozen BK375.out 2
          go_wp2_with (first | (go_at_call 138; (with_reducible refine (impl_operand.calls _ _ l0 a1_1 t378 _ ?side1 ?side2 A11.out).mono ?_); (case side1 => exact z8_1); (case side2 => exact z8_6); rintro e w' ⟨rfl, ⟨nd, rfl⟩⟩; (try first | exact ⟨rfl, _, World.drewN_drewN _ _ _⟩ | exact ⟨rfl, _, Eq.trans (World.drewN_drewN _ _ _) (congrArg (World.drewN _) (Nat.add_assoc _ _ _))⟩)) | (go_at_call 138; (with_reducible refine (impl_operand.calls _ _ l0 a1_2 t379 _ ?side1 ?side2 A12.out).mono ?_); (case side1 => exact z8_0); (case side2 => exact z8_6); rintro e w' ⟨rfl, ⟨nd, rfl⟩⟩; (try first | exact ⟨rfl, _, World.drewN_drewN _ _ _⟩ | exact ⟨rfl, _, Eq.trans (World.drewN_drewN _ _ _) (congrArg (World.drewN _) (Nat.add_assoc _ _ _))⟩)) | (go_at_call 112; (with_reducible refine (impl_AddValues.calls t378 t379 t380 _ A14.out).mono ?_); rintro e w' ⟨rfl, ⟨nd, rfl⟩⟩; (try first | exact ⟨rfl, _, World.drewN_drewN _ _ _⟩ | exact ⟨rfl, _, Eq.trans (World.drewN_drewN _ _ _) (congrArg (World.drewN _) (Nat.add_assoc _ _ _))⟩)))
          repeat (go_quiet (first | (go_at_call 138; (with_reducible refine (impl_operand.calls _ _ l0 a1_1 t378 _ ?side1 ?side2 A11.out).mono ?_); (case side1 => exact z8_1); (case side2 => exact z8_6); rintro e w' ⟨rfl, ⟨nd, rfl⟩⟩; (try first | exact ⟨rfl, _, World.drewN_drewN _ _ _⟩ | exact ⟨rfl, _, Eq.trans (World.drewN_drewN _ _ _) (congrArg (World.drewN _) (Nat.add_assoc _ _ _))⟩)) | (go_at_call 138; (with_reducible refine (impl_operand.calls _ _ l0 a1_2 t379 _ ?side1 ?side2 A12.out).mono ?_); (case side1 => exact z8_0); (case side2 => exact z8_6); rintro e w' ⟨rfl, ⟨nd, rfl⟩⟩; (try first | exact ⟨rfl, _, World.drewN_drewN _ _ _⟩ | exact ⟨rfl, _, Eq.trans (World.drewN_drewN _ _ _) (congrArg (World.drewN _) (Nat.add_assoc _ _ _))⟩)) | (go_at_call 112; (with_reducible refine (impl_AddValues.calls t378 t379 t380 _ A14.out).mono ?_); rintro e w' ⟨rfl, ⟨nd, rfl⟩⟩; (try first | exact ⟨rfl, _, World.drewN_drewN _ _ _⟩ | exact ⟨rfl, _, Eq.trans (World.drewN_drewN _ _ _) (congrArg (World.drewN _) (Nat.add_assoc _ _ _))⟩))); try go_wp2_with (first | (go_at_call 138; (with_reducible refine (impl_operand.calls _ _ l0 a1_1 t378 _ ?side1 ?side2 A11.out).mono ?_); (case side1 => exact z8_1); (case side2 => exact z8_6); rintro e w' ⟨rfl, ⟨nd, rfl⟩⟩; (try first | exact ⟨rfl, _, World.drewN_drewN _ _ _⟩ | exact ⟨rfl, _, Eq.trans (World.drewN_drewN _ _ _) (congrArg (World.drewN _) (Nat.add_assoc _ _ _))⟩)) | (go_at_call 138; (with_reducible refine (impl_operand.calls _ _ l0 a1_2 t379 _ ?side1 ?side2 A12.out).mono ?_); (case side1 => exact z8_0); (case side2 => exact z8_6); rintro e w' ⟨rfl, ⟨nd, rfl⟩⟩; (try first | exact ⟨rfl, _, World.drewN_drewN _ _ _⟩ | exact ⟨rfl, _, Eq.trans (World.drewN_drewN _ _ _) (congrArg (World.drewN _) (Nat.add_assoc _ _ _))⟩)) | (go_at_call 112; (with_reducible refine (impl_AddValues.calls t378 t379 t380 _ A14.out).mono ?_); rintro e w' ⟨rfl, ⟨nd, rfl⟩⟩; (try first | exact ⟨rfl, _, World.drewN_drewN _ _ _⟩ | exact ⟨rfl, _, Eq.trans (World.drewN_drewN _ _ _) (congrArg (World.drewN _) (Nat.add_assoc _ _ _))⟩))))
          go_ret
          exact ⟨by first | rfl | (simp [errW_none, errW_some] <;> rfl) | (simp [*, errW_none, errW_some] <;> rfl) | (simp [*, errW_none, errW_some, i64_w]; done), by repeat (first | (with_reducible first | exact HB.out | apply below_alloc | apply pw_below_drewN | apply below_drew1 | refine below_set ?_ GE375.out) | exact HB.out)⟩
        · rw [if_neg c13] at H
          have c13b0 : (a1_0 == 1) = false := beq_eq_false_iff_ne.mpr c13
          have c13b1 : (a1_0 != 1) = true := bne_iff_ne.mpr c13
          by_cases c16 : a1_0 = 2
          · rw [if_pos c16] at H
            have c16b0 : (a1_0 == 2) = true := beq_iff_eq.mpr c16
            have c16b1 : (a1_0 != 2) = false := bne_eq_false_iff_eq.mpr c16
            clear c16
            replace H := Option.bind_eq_some_iff.mp H
            obtain ⟨t381, A170, H⟩ := H
            replace H : (some t381) = some r := H
            have A17 := Aside0.mk A170
            clear A170
            obtain rfl := Option.some.inj H
            have hcz18_0 : wc.cell? ⟨gb375, 0, none⟩ = some (.int .i64 a1_0) := (blk_cell BK375.out 0).trans rfl
            have hcz18_1 : wc.cell? ⟨gb375, 1, none⟩ = some (.int .i64 a1_1) := (blk_cell BK375.out 1).trans rfl
            have hcz18_2 : wc.cell? ⟨gb375, 2, none⟩ = some (.int .i64 a1_2) := (blk_cell BK375.out 2).trans rfl
            have hfz18_0 := blk_frozen BK375.out 0
            have hfz18_1 := blk_frozen BK375.out 1
            have hfz18_2 := blk_frozen BK375.out 2
            go_wp2_with (first | (go_at_call 138; (with_reducible refine (impl_operand.calls _ _ l0 a1_1 t378 _ ?side1 ?side2 A11.out).mono ?_); (case side1 => exact z8_1); (case side2 => exact z8_6); rintro e w' ⟨rfl, ⟨nd, rfl⟩⟩; (try first | exact ⟨rfl, _, World.drewN_drewN _ _ _⟩ | exact ⟨rfl, _, Eq.trans (World.drewN_drewN _ _ _) (congrArg (World.drewN _) (Nat.add_assoc _ _ _))⟩)) | (go_at_call 138; (with_reducible refine (impl_operand.calls _ _ l0 a1_2 t379 _ ?side1 ?side2 A12.out).mono ?_); (case side1 => exact z8_0); (case side2 => exact z8_6); rintro e w' ⟨rfl, ⟨nd, rfl⟩⟩; (try first | exact ⟨rfl, _, World.drewN_drewN _ _ _⟩ | exact ⟨rfl, _, Eq.trans (World.drewN_drewN _ _ _) (congrArg (World.drewN _) (Nat.add_assoc _ _ _))⟩)) | (go_at_call 139; (with_reducible refine (impl_SubValues.calls t378 t379 t381 _ A17.out).mono ?_); rintro e w' ⟨rfl, ⟨nd, rfl⟩⟩; (try first | exact ⟨rfl, _, World.drewN_drewN _ _ _⟩ | exact ⟨rfl, _, Eq.trans (World.drewN_drewN _ _ _) (congrArg (World.drewN _) (Nat.add_assoc _ _ _))⟩)))
            repeat (go_quiet (first | (go_at_call 138; (with_reducible refine (impl_operand.calls _ _ l0 a1_1 t378 _ ?side1 ?side2 A11.out).mono ?_); (case side1 => exact z8_1); (case side2 => exact z8_6); rintro e w' ⟨rfl, ⟨nd, rfl⟩⟩; (try first | exact ⟨rfl, _, World.drewN_drewN _ _ _⟩ | exact ⟨rfl, _, Eq.trans (World.drewN_drewN _ _ _) (congrArg (World.drewN _) (Nat.add_assoc _ _ _))⟩)) | (go_at_call 138; (with_reducible refine (impl_operand.calls _ _ l0 a1_2 t379 _ ?side1 ?side2 A12.out).mono ?_); (case side1 => exact z8_0); (case side2 => exact z8_6); rintro e w' ⟨rfl, ⟨nd, rfl⟩⟩; (try first | exact ⟨rfl, _, World.drewN_drewN _ _ _⟩ | exact ⟨rfl, _, Eq.trans (World.drewN_drewN _ _ _) (congrArg (World.drewN _) (Nat.add_assoc _ _ _))⟩)) | (go_at_call 139; (with_reducible refine (impl_SubValues.calls t378 t379 t381 _ A17.out).mono ?_); rintro e w' ⟨rfl, ⟨nd, rfl⟩⟩; (try first | exact ⟨rfl, _, World.drewN_drewN _ _ _⟩ | exact ⟨rfl, _, Eq.trans (World.drewN_drewN _ _ _) (congrArg (World.drewN _) (Nat.add_assoc _ _ _))⟩))); try go_wp2_with (first | (go_at_call 138; (with_reducible refine (impl_operand.calls _ _ l0 a1_1 t378 _ ?side1 ?side2 A11.out).mono ?_); (case side1 => exact z8_1); (case side2 => exact z8_6); rintro e w' ⟨rfl, ⟨nd, rfl⟩⟩; (try first | exact ⟨rfl, _, World.drewN_drewN _ _ _⟩ | exact ⟨rfl, _, Eq.trans (World.drewN_drewN _ _ _) (congrArg (World.drewN _) (Nat.add_assoc _ _ _))⟩)) | (go_at_call 138; (with_reducible refine (impl_operand.calls _ _ l0 a1_2 t379 _ ?side1 ?side2 A12.out).mono ?_); (case side1 => exact z8_0); (case side2 => exact z8_6); rintro e w' ⟨rfl, ⟨nd, rfl⟩⟩; (try first | exact ⟨rfl, _, World.drewN_drewN _ _ _⟩ | exact ⟨rfl, _, Eq.trans (World.drewN_drewN _ _ _) (congrArg (World.drewN _) (Nat.add_assoc _ _ _))⟩)) | (go_at_call 139; (with_reducible refine (impl_SubValues.calls t378 t379 t381 _ A17.out).mono ?_); rintro e w' ⟨rfl, ⟨nd, rfl⟩⟩; (try first | exact ⟨rfl, _, World.drewN_drewN _ _ _⟩ | exact ⟨rfl, _, Eq.trans (World.drewN_drewN _ _ _) (congrArg (World.drewN _) (Nat.add_assoc _ _ _))⟩))))
            go_ret
            exact ⟨by first | rfl | (simp [errW_none, errW_some] <;> rfl) | (simp [*, errW_none, errW_some] <;> rfl) | (simp [*, errW_none, errW_some, i64_w]; done), by repeat (first | (with_reducible first | exact HB.out | apply below_alloc | apply pw_below_drewN | apply below_drew1 | refine below_set ?_ GE375.out) | exact HB.out)⟩
          · rw [if_neg c16] at H
            have c16b0 : (a1_0 == 2) = false := beq_eq_false_iff_ne.mpr c16
            have c16b1 : (a1_0 != 2) = true := bne_iff_ne.mpr c16
            by_cases c19 : a1_0 = 3
            · rw [if_pos c19] at H
              have c19b0 : (a1_0 == 3) = true := beq_iff_eq.mpr c19
              have c19b1 : (a1_0 != 3) = false := bne_eq_false_iff_eq.mpr c19
              clear c19
              replace H := Option.bind_eq_some_iff.mp H
              obtain ⟨t382, A200, H⟩ := H
              replace H : (some t382) = some r := H
              have A20 := Aside0.mk A200
              clear A200
              obtain rfl := Option.some.inj H
              have hcz21_0 : wc.cell? ⟨gb375, 0, none⟩ = some (.int .i64 a1_0) := (blk_cell BK375.out 0).trans rfl
              have hcz21_1 : wc.cell? ⟨gb375, 1, none⟩ = some (.int .i64 a1_1) := (blk_cell BK375.out 1).trans rfl
              have hcz21_2 : wc.cell? ⟨gb375, 2, none⟩ = some (.int .i64 a1_2) := (blk_cell BK375.out 2).trans rfl
              have hfz21_0 := blk_frozen BK375.out 0
              have hfz21_1 := blk_frozen BK375.out 1
              have hfz21_2 := blk_frozen BK375.out 2
              go_wp2_with (first | (go_at_call 138; (with_reducible refine (impl_operand.calls _ _ l0 a1_1 t378 _ ?side1 ?side2 A11.out).mono ?_); (case side1 => exact z8_1); (case side2 => exact z8_6); rintro e w' ⟨rfl, ⟨nd, rfl⟩⟩; (try first | exact ⟨rfl, _, World.drewN_drewN _ _ _⟩ | exact ⟨rfl, _, Eq.trans (World.drewN_drewN _ _ _) (congrArg (World.drewN _) (Nat.add_assoc _ _ _))⟩)) | (go_at_call 138; (with_reducible refine (impl_operand.calls _ _ l0 a1_2 t379 _ ?side1 ?side2 A12.out).mono ?_); (case side1 => exact z8_0); (case side2 => exact z8_6); rintro e w' ⟨rfl, ⟨nd, rfl⟩⟩; (try first | exact ⟨rfl, _, World.drewN_drewN _ _ _⟩ | exact ⟨rfl, _, Eq.trans (World.drewN_drewN _ _ _) (congrArg (World.drewN _) (Nat.add_assoc _ _ _))⟩)) | (go_at_call 140; (with_reducible refine (impl_MulValues.calls t378 t379 t382 _ A20.out).mono ?_); rintro e w' ⟨rfl, ⟨nd, rfl⟩⟩; (try first | exact ⟨rfl, _, World.drewN_drewN _ _ _⟩ | exact ⟨rfl, _, Eq.trans (World.drewN_drewN _ _ _) (congrArg (World.drewN _) (Nat.add_assoc _ _ _))⟩)))
              repeat (go_quiet (first | (go_at_call 138; (with_reducible refine (impl_operand.calls _ _ l0 a1_1 t378 _ ?side1 ?side2 A11.out).mono ?_); (case side1 => exact z8_1); (case side2 => exact z8_6); rintro e w' ⟨rfl, ⟨nd, rfl⟩⟩; (try first | exact ⟨rfl, _, World.drewN_drewN _ _ _⟩ | exact ⟨rfl, _, Eq.trans (World.drewN_drewN _ _ _) (congrArg (World.drewN _) (Nat.add_assoc _ _ _))⟩)) | (go_at_call 138; (with_reducible refine (impl_operand.calls _ _ l0 a1_2 t379 _ ?side1 ?side2 A12.out).mono ?_); (case side1 => exact z8_0); (case side2 => exact z8_6); rintro e w' ⟨rfl, ⟨nd, rfl⟩⟩; (try first | exact ⟨rfl, _, World.drewN_drewN _ _ _⟩ | exact ⟨rfl, _, Eq.trans (World.drewN_drewN _ _ _) (congrArg (World.drewN _) (Nat.add_assoc _ _ _))⟩)) | (go_at_call 140; (with_reducible refine (impl_MulValues.calls t378 t379 t382 _ A20.out).mono ?_); rintro e w' ⟨rfl, ⟨nd, rfl⟩⟩; (try first | exact ⟨rfl, _, World.drewN_drewN _ _ _⟩ | exact ⟨rfl, _, Eq.trans (World.drewN_drewN _ _ _) (congrArg (World.drewN _) (Nat.add_assoc _ _ _))⟩))); try go_wp2_with (first | (go_at_call 138; (with_reducible refine (impl_operand.calls _ _ l0 a1_1 t378 _ ?side1 ?side2 A11.out).mono ?_); (case side1 => exact z8_1); (case side2 => exact z8_6); rintro e w' ⟨rfl, ⟨nd, rfl⟩⟩; (try first | exact ⟨rfl, _, World.drewN_drewN _ _ _⟩ | exact ⟨rfl, _, Eq.trans (World.drewN_drewN _ _ _) (congrArg (World.drewN _) (Nat.add_assoc _ _ _))⟩)) | (go_at_call 138; (with_reducible refine (impl_operand.calls _ _ l0 a1_2 t379 _ ?side1 ?side2 A12.out).mono ?_); (case side1 => exact z8_0); (case side2 => exact z8_6); rintro e w' ⟨rfl, ⟨nd, rfl⟩⟩; (try first | exact ⟨rfl, _, World.drewN_drewN _ _ _⟩ | exact ⟨rfl, _, Eq.trans (World.drewN_drewN _ _ _) (congrArg (World.drewN _) (Nat.add_assoc _ _ _))⟩)) | (go_at_call 140; (with_reducible refine (impl_MulValues.calls t378 t379 t382 _ A20.out).mono ?_); rintro e w' ⟨rfl, ⟨nd, rfl⟩⟩; (try first | exact ⟨rfl, _, World.drewN_drewN _ _ _⟩ | exact ⟨rfl, _, Eq.trans (World.drewN_drewN _ _ _) (congrArg (World.drewN _) (Nat.add_assoc _ _ _))⟩))))
              go_ret
              exact ⟨by first | rfl | (simp [errW_none, errW_some] <;> rfl) | (simp [*, errW_none, errW_some] <;> rfl) | (simp [*, errW_none, errW_some, i64_w]; done), by repeat (first | (with_reducible first | exact HB.out | apply below_alloc | apply pw_below_drewN | apply below_drew1 | refine below_set ?_ GE375.out) | exact HB.out)⟩
            · rw [if_neg c19] at H
              have c19b0 : (a1_0 == 3) = false := beq_eq_false_iff_ne.mpr c19
              have c19b1 : (a1_0 != 3) = true := bne_iff_ne.mpr c19
              by_cases c22 : a1_0 = 4
              · rw [if_pos c22] at H
                have c22b0 : (a1_0 == 4) = true := beq_iff_eq.mpr c22
                have c22b1 : (a1_0 != 4) = false := bne_eq_false_iff_eq.mpr c22
                clear c22
                obtain ⟨ji23, hji23⟩ : ∃ j_ : Int, (mn t378 t379) = j_ := ⟨_, rfl⟩
                replace H : (some ji23) = some r := by first | (rw [hji23] at H; exact H) | (simp only [hji23] at H ⊢; exact H)
                (try rw [hji23] at A11)
                (try rw [hji23] at A12)
                have hji23_ : (if t379 < t378 then t379 else t378) = ji23 := hji23
                obtain rfl := Option.some.inj H
                have hcz24_0 : wc.cell? ⟨gb375, 0, none⟩ = some (.int .i64 a1_0) := (blk_cell BK375.out 0).trans rfl
                have hcz24_1 : wc.cell? ⟨gb375, 1, none⟩ = some (.int .i64 a1_1) := (blk_cell BK375.out 1).trans rfl
                have hcz24_2 : wc.cell? ⟨gb375, 2, none⟩ = some (.int .i64 a1_2) := (blk_cell BK375.out 2).trans rfl
                have hfz24_0 := blk_frozen BK375.out 0
                have hfz24_1 := blk_frozen BK375.out 1
                have hfz24_2 := blk_frozen BK375.out 2
                go_wp2_with (first | (go_at_call 138; (with_reducible refine (impl_operand.calls _ _ l0 a1_1 t378 _ ?side1 ?side2 A11.out).mono ?_); (case side1 => exact z8_1); (case side2 => exact z8_6); rintro e w' ⟨rfl, ⟨nd, rfl⟩⟩; (try first | exact ⟨rfl, _, World.drewN_drewN _ _ _⟩ | exact ⟨rfl, _, Eq.trans (World.drewN_drewN _ _ _) (congrArg (World.drewN _) (Nat.add_assoc _ _ _))⟩)) | (go_at_call 138; (with_reducible refine (impl_operand.calls _ _ l0 a1_2 t379 _ ?side1 ?side2 A12.out).mono ?_); (case side1 => exact z8_0); (case side2 => exact z8_6); rintro e w' ⟨rfl, ⟨nd, rfl⟩⟩; (try first | exact ⟨rfl, _, World.drewN_drewN _ _ _⟩ | exact ⟨rfl, _, Eq.trans (World.drewN_drewN _ _ _) (congrArg (World.drewN _) (Nat.add_assoc _ _ _))⟩)))
                repeat (go_quiet (first | (go_at_call 138; (with_reducible refine (impl_operand.calls _ _ l0 a1_1 t378 _ ?side1 ?side2 A11.out).mono ?_); (case side1 => exact z8_1); (case side2 => exact z8_6); rintro e w' ⟨rfl, ⟨nd, rfl⟩⟩; (try first | exact ⟨rfl, _, World.drewN_drewN _ _ _⟩ | exact ⟨rfl, _, Eq.trans (World.drewN_drewN _ _ _) (congrArg (World.drewN _) (Nat.add_assoc _ _ _))⟩)) | (go_at_call 138; (with_reducible refine (impl_operand.calls _ _ l0 a1_2 t379 _ ?side1 ?side2 A12.out).mono ?_); (case side1 => exact z8_0); (case side2 => exact z8_6); rintro e w' ⟨rfl, ⟨nd, rfl⟩⟩; (try first | exact ⟨rfl, _, World.drewN_drewN _ _ _⟩ | exact ⟨rfl, _, Eq.trans (World.drewN_drewN _ _ _) (congrArg (World.drewN _) (Nat.add_assoc _ _ _))⟩))); try go_wp2_with (first | (go_at_call 138; (with_reducible refine (impl_operand.calls _ _ l0 a1_1 t378 _ ?side1 ?side2 A11.out).mono ?_); (case side1 => exact z8_1); (case side2 => exact z8_6); rintro e w' ⟨rfl, ⟨nd, rfl⟩⟩; (try first | exact ⟨rfl, _, World.drewN_drewN _ _ _⟩ | exact ⟨rfl, _, Eq.trans (World.drewN_drewN _ _ _) (congrArg (World.drewN _) (Nat.add_assoc _ _ _))⟩)) | (go_at_call 138; (with_reducible refine (impl_operand.calls _ _ l0 a1_2 t379 _ ?side1 ?side2 A12.out).mono ?_); (case side1 => exact z8_0); (case side2 => exact z8_6); rintro e w' ⟨rfl, ⟨nd, rfl⟩⟩; (try first | exact ⟨rfl, _, World.drewN_drewN _ _ _⟩ | exact ⟨rfl, _, Eq.trans (World.drewN_drewN _ _ _) (congrArg (World.drewN _) (Nat.add_assoc _ _ _))⟩))))
                go_ret
                exact ⟨by first | rfl | (simp [errW_none, errW_some] <;> rfl) | (simp only [← hji23]; first | rfl | (simp [errW_none, errW_some] <;> rfl)) | (simp [*, errW_none, errW_some] <;> rfl) | (simp [*, errW_none, errW_some, i64_w]; done), by repeat (first | (with_reducible first | exact HB.out | apply below_alloc | apply pw_below_drewN | apply below_drew1 | refine below_set ?_ GE375.out) | exact HB.out)⟩
              · rw [if_neg c22] at H
                have c22b0 : (a1_0 == 4) = false := beq_eq_false_iff_ne.mpr c22
                have c22b1 : (a1_0 != 4) = true := bne_iff_ne.mpr c22
                by_cases c25 : a1_0 = 5
                · rw [if_pos c25] at H
                  have c25b0 : (a1_0 == 5) = true := beq_iff_eq.mpr c25
                  have c25b1 : (a1_0 != 5) = false := bne_eq_false_iff_eq.mpr c25
                  clear c25
                  obtain ⟨ji26, hji26⟩ : ∃ j_ : Int, (mx t378 t379) = j_ := ⟨_, rfl⟩
                  replace H : (some ji26) = some r := by first | (rw [hji26] at H; exact H) | (simp only [hji26] at H ⊢; exact H)
                  (try rw [hji26] at A11)
                  (try rw [hji26] at A12)
                  have hji26_ : (if t378 < t379 then t379 else t378) = ji26 := hji26
                  obtain rfl := Option.some.inj H
                  have hcz27_0 : wc.cell? ⟨gb375, 0, none⟩ = some (.int .i64 a1_0) := (blk_cell BK375.out 0).trans rfl
                  have hcz27_1 : wc.cell? ⟨gb375, 1, none⟩ = some (.int .i64 a1_1) := (blk_cell BK375.out 1).trans rfl
                  have hcz27_2 : wc.cell? ⟨gb375, 2, none⟩ = some (.int .i64 a1_2) := (blk_cell BK375.out 2).trans rfl
                  have hfz27_0 := blk_frozen BK375.out 0
                  have hfz27_1 := blk_frozen BK375.out 1
                  have hfz27_2 := blk_frozen BK375.out 2
                  go_wp2_with (first | (go_at_call 138; (with_reducible refine (impl_operand.calls _ _ l0 a1_1 t378 _ ?side1 ?side2 A11.out).mono ?_); (case side1 => exact z8_1); (case side2 => exact z8_6); rintro e w' ⟨rfl, ⟨nd, rfl⟩⟩; (try first | exact ⟨rfl, _, World.drewN_drewN _ _ _⟩ | exact ⟨rfl, _, Eq.trans (World.drewN_drewN _ _ _) (congrArg (World.drewN _) (Nat.add_assoc _ _ _))⟩)) | (go_at_call 138; (with_reducible refine (impl_operand.calls _ _ l0 a1_2 t379 _ ?side1 ?side2 A12.out).mono ?_); (case side1 => exact z8_0); (case side2 => exact z8_6); rintro e w' ⟨rfl, ⟨nd, rfl⟩⟩; (try first | exact ⟨rfl, _, World.drewN_drewN _ _ _⟩ | exact ⟨rfl, _, Eq.trans (World.drewN_drewN _ _ _) (congrArg (World.drewN _) (Nat.add_assoc _ _ _))⟩)))
                  repeat (go_quiet (first | (go_at_call 138; (with_reducible refine (impl_operand.calls _ _ l0 a1_1 t378 _ ?side1 ?side2 A11.out).mono ?_); (case side1 => exact z8_1); (case side2 => exact z8_6); rintro e w' ⟨rfl, ⟨nd, rfl⟩⟩; (try first | exact ⟨rfl, _, World.drewN_drewN _ _ _⟩ | exact ⟨rfl, _, Eq.trans (World.drewN_drewN _ _ _) (congrArg (World.drewN _) (Nat.add_assoc _ _ _))⟩)) | (go_at_call 138; (with_reducible refine (impl_operand.calls _ _ l0 a1_2 t379 _ ?side1 ?side2 A12.out).mono ?_); (case side1 => exact z8_0); (case side2 => exact z8_6); rintro e w' ⟨rfl, ⟨nd, rfl⟩⟩; (try first | exact ⟨rfl, _, World.drewN_drewN _ _ _⟩ | exact ⟨rfl, _, Eq.trans (World.drewN_drewN _ _ _) (congrArg (World.drewN _) (Nat.add_assoc _ _ _))⟩))); try go_wp2_with (first | (go_at_call 138; (with_reducible refine (impl_operand.calls _ _ l0 a1_1 t378 _ ?side1 ?side2 A11.out).mono ?_); (case side1 => exact z8_1); (case side2 => exact z8_6); rintro e w' ⟨rfl, ⟨nd, rfl⟩⟩; (try first | exact ⟨rfl, _, World.drewN_drewN _ _ _⟩ | exact ⟨rfl, _, Eq.trans (World.drewN_drewN _ _ _) (congrArg (World.drewN _) (Nat.add_assoc _ _ _))⟩)) | (go_at_call 138; (with_reducible refine (impl_operand.calls _ _ l0 a1_2 t379 _ ?side1 ?side2 A12.out).mono ?_); (case side1 => exact z8_0); (case side2 => exact z8_6); rintro e w' ⟨rfl, ⟨nd, rfl⟩⟩; (try first | exact ⟨rfl, _, World.drewN_drewN _ _ _⟩ | exact ⟨rfl, _, Eq.trans (World.drewN_drewN _ _ _) (congrArg (World.drewN _) (Nat.add_assoc _ _ _))⟩))))
                  go_ret
                  exact ⟨by first | rfl | (simp [errW_none, errW_some] <;> rfl) | (simp only [← hji26]; first | rfl | (simp [errW_none, errW_some] <;> rfl)) | (simp [*, errW_none, errW_some] <;> rfl) | (simp [*, errW_none, errW_some, i64_w]; done), by repeat (first | (with_reducible first | exact HB.out | apply below_alloc | apply pw_below_drewN | apply below_drew1 | refine below_set ?_ GE375.out) | exact HB.out)⟩
                · rw [if_neg c25] at H
                  have c25b0 : (a1_0 == 5) = false := beq_eq_false_iff_ne.mpr c25
                  have c25b1 : (a1_0 != 5) = true := bne_iff_ne.mpr c25
                  by_cases c28 : a1_0 = 6
                  · rw [if_pos c28] at H
                    have c28b0 : (a1_0 == 6) = true := beq_iff_eq.mpr c28
                    have c28b1 : (a1_0 != 6) = false := bne_eq_false_iff_eq.mpr c28
                    clear c28
                    replace H := Option.bind_eq_some_iff.mp H
                    obtain ⟨t383, A290, H⟩ := H
                    replace H : (some t383) = some r := H
                    have A29 := Aside0.mk A290
                    clear A290
                    obtain rfl := Option.some.inj H
                    have hcz30_0 : wc.cell? ⟨gb375, 0, none⟩ = some (.int .i64 a1_0) := (blk_cell BK375.out 0).trans rfl
                    have hcz30_1 : wc.cell? ⟨gb375, 1, none⟩ = some (.int .i64 a1_1) := (blk_cell BK375.out 1).trans rfl
                    have hcz30_2 : wc.cell? ⟨gb375, 2, none⟩ = some (.int .i64 a1_2) := (blk_cell BK375.out 2).trans rfl
                    have hfz30_0 := blk_frozen BK375.out 0
                    have hfz30_1 := blk_frozen BK375.out 1
                    have hfz30_2 := blk_frozen BK375.out 2
                    go_wp2_with (first | (go_at_call 138; (with_reducible refine (impl_operand.calls _ _ l0 a1_1 t378 _ ?side1 ?side2 A11.out).mono ?_); (case side1 => exact z8_1); (case side2 => exact z8_6); rintro e w' ⟨rfl, ⟨nd, rfl⟩⟩; (try first | exact ⟨rfl, _, World.drewN_drewN _ _ _⟩ | exact ⟨rfl, _, Eq.trans (World.drewN_drewN _ _ _) (congrArg (World.drewN _) (Nat.add_assoc _ _ _))⟩)) | (go_at_call 138; (with_reducible refine (impl_operand.calls _ _ l0 a1_2 t379 _ ?side1 ?side2 A12.out).mono ?_); (case side1 => exact z8_0); (case side2 => exact z8_6); rintro e w' ⟨rfl, ⟨nd, rfl⟩⟩; (try first | exact ⟨rfl, _, World.drewN_drewN _ _ _⟩ | exact ⟨rfl, _, Eq.trans (World.drewN_drewN _ _ _) (congrArg (World.drewN _) (Nat.add_assoc _ _ _))⟩)) | (go_at_call 58; (with_reducible refine (impl_bit.calls (decide (t378 < t379)) t383 _ A29.out).mono ?_); rintro e w' ⟨rfl, ⟨nd, rfl⟩⟩; (try first | exact ⟨rfl, _, World.drewN_drewN _ _ _⟩ | exact ⟨rfl, _, Eq.trans (World.drewN_drewN _ _ _) (congrArg (World.drewN _) (Nat.add_assoc _ _ _))⟩)))
                    repeat (go_quiet (first | (go_at_call 138; (with_reducible refine (impl_operand.calls _ _ l0 a1_1 t378 _ ?side1 ?side2 A11.out).mono ?_); (case side1 => exact z8_1); (case side2 => exact z8_6); rintro e w' ⟨rfl, ⟨nd, rfl⟩⟩; (try first | exact ⟨rfl, _, World.drewN_drewN _ _ _⟩ | exact ⟨rfl, _, Eq.trans (World.drewN_drewN _ _ _) (congrArg (World.drewN _) (Nat.add_assoc _ _ _))⟩)) | (go_at_call 138; (with_reducible refine (impl_operand.calls _ _ l0 a1_2 t379 _ ?side1 ?side2 A12.out).mono ?_); (case side1 => exact z8_0); (case side2 => exact z8_6); rintro e w' ⟨rfl, ⟨nd, rfl⟩⟩; (try first | exact ⟨rfl, _, World.drewN_drewN _ _ _⟩ | exact ⟨rfl, _, Eq.trans (World.drewN_drewN _ _ _) (congrArg (World.drewN _) (Nat.add_assoc _ _ _))⟩)) | (go_at_call 58; (with_reducible refine (impl_bit.calls (decide (t378 < t379)) t383 _ A29.out).mono ?_); rintro e w' ⟨rfl, ⟨nd, rfl⟩⟩; (try first | exact ⟨rfl, _, World.drewN_drewN _ _ _⟩ | exact ⟨rfl, _, Eq.trans (World.drewN_drewN _ _ _) (congrArg (World.drewN _) (Nat.add_assoc _ _ _))⟩))); try go_wp2_with (first | (go_at_call 138; (with_reducible refine (impl_operand.calls _ _ l0 a1_1 t378 _ ?side1 ?side2 A11.out).mono ?_); (case side1 => exact z8_1); (case side2 => exact z8_6); rintro e w' ⟨rfl, ⟨nd, rfl⟩⟩; (try first | exact ⟨rfl, _, World.drewN_drewN _ _ _⟩ | exact ⟨rfl, _, Eq.trans (World.drewN_drewN _ _ _) (congrArg (World.drewN _) (Nat.add_assoc _ _ _))⟩)) | (go_at_call 138; (with_reducible refine (impl_operand.calls _ _ l0 a1_2 t379 _ ?side1 ?side2 A12.out).mono ?_); (case side1 => exact z8_0); (case side2 => exact z8_6); rintro e w' ⟨rfl, ⟨nd, rfl⟩⟩; (try first | exact ⟨rfl, _, World.drewN_drewN _ _ _⟩ | exact ⟨rfl, _, Eq.trans (World.drewN_drewN _ _ _) (congrArg (World.drewN _) (Nat.add_assoc _ _ _))⟩)) | (go_at_call 58; (with_reducible refine (impl_bit.calls (decide (t378 < t379)) t383 _ A29.out).mono ?_); rintro e w' ⟨rfl, ⟨nd, rfl⟩⟩; (try first | exact ⟨rfl, _, World.drewN_drewN _ _ _⟩ | exact ⟨rfl, _, Eq.trans (World.drewN_drewN _ _ _) (congrArg (World.drewN _) (Nat.add_assoc _ _ _))⟩))))
                    go_ret
                    exact ⟨by first | rfl | (simp [errW_none, errW_some] <;> rfl) | (simp [*, errW_none, errW_some] <;> rfl) | (simp [*, errW_none, errW_some, i64_w]; done), by repeat (first | (with_reducible first | exact HB.out | apply below_alloc | apply pw_below_drewN | apply below_drew1 | refine below_set ?_ GE375.out) | exact HB.out)⟩
                  · rw [if_neg c28] at H
                    have c28b0 : (a1_0 == 6) = false := beq_eq_false_iff_ne.mpr c28
                    have c28b1 : (a1_0 != 6) = true := bne_iff_ne.mpr c28
                    replace H := Option.bind_eq_some_iff.mp H
                    obtain ⟨t384, A310, H⟩ := H
                    replace H : (some t384) = some r := H
                    have A31 := Aside0.mk A310
                    clear A310
                    obtain rfl := Option.some.inj H
                    have hcz32_0 : wc.cell? ⟨gb375, 0, none⟩ = some (.int .i64 a1_0) := (blk_cell BK375.out 0).trans rfl
                    have hcz32_1 : wc.cell? ⟨gb375, 1, none⟩ = some (.int .i64 a1_1) := (blk_cell BK375.out 1).trans rfl
                    have hcz32_2 : wc.cell? ⟨gb375, 2, none⟩ = some (.int .i64 a1_2) := (blk_cell BK375.out 2).trans rfl
                    have hfz32_0 := blk_frozen BK375.out 0
                    have hfz32_1 := blk_frozen BK375.out 1
                    have hfz32_2 := blk_frozen BK375.out 2
                    go_wp2_with (first | (go_at_call 138; (with_reducible refine (impl_operand.calls _ _ l0 a1_1 t378 _ ?side1 ?side2 A11.out).mono ?_); (case side1 => exact z8_1); (case side2 => exact z8_6); rintro e w' ⟨rfl, ⟨nd, rfl⟩⟩; (try first | exact ⟨rfl, _, World.drewN_drewN _ _ _⟩ | exact ⟨rfl, _, Eq.trans (World.drewN_drewN _ _ _) (congrArg (World.drewN _) (Nat.add_assoc _ _ _))⟩)) | (go_at_call 138; (with_reducible refine (impl_operand.calls _ _ l0 a1_2 t379 _ ?side1 ?side2 A12.out).mono ?_); (case side1 => exact z8_0); (case side2 => exact z8_6); rintro e w' ⟨rfl, ⟨nd, rfl⟩⟩; (try first | exact ⟨rfl, _, World.drewN_drewN _ _ _⟩ | exact ⟨rfl, _, Eq.trans (World.drewN_drewN _ _ _) (congrArg (World.drewN _) (Nat.add_assoc _ _ _))⟩)) | (go_at_call 58; (with_reducible refine (impl_bit.calls (t378 == t379) t384 _ A31.out).mono ?_); rintro e w' ⟨rfl, ⟨nd, rfl⟩⟩; (try first | exact ⟨rfl, _, World.drewN_drewN _ _ _⟩ | exact ⟨rfl, _, Eq.trans (World.drewN_drewN _ _ _) (congrArg (World.drewN _) (Nat.add_assoc _ _ _))⟩)))
                    repeat (go_quiet (first | (go_at_call 138; (with_reducible refine (impl_operand.calls _ _ l0 a1_1 t378 _ ?side1 ?side2 A11.out).mono ?_); (case side1 => exact z8_1); (case side2 => exact z8_6); rintro e w' ⟨rfl, ⟨nd, rfl⟩⟩; (try first | exact ⟨rfl, _, World.drewN_drewN _ _ _⟩ | exact ⟨rfl, _, Eq.trans (World.drewN_drewN _ _ _) (congrArg (World.drewN _) (Nat.add_assoc _ _ _))⟩)) | (go_at_call 138; (with_reducible refine (impl_operand.calls _ _ l0 a1_2 t379 _ ?side1 ?side2 A12.out).mono ?_); (case side1 => exact z8_0); (case side2 => exact z8_6); rintro e w' ⟨rfl, ⟨nd, rfl⟩⟩; (try first | exact ⟨rfl, _, World.drewN_drewN _ _ _⟩ | exact ⟨rfl, _, Eq.trans (World.drewN_drewN _ _ _) (congrArg (World.drewN _) (Nat.add_assoc _ _ _))⟩)) | (go_at_call 58; (with_reducible refine (impl_bit.calls (t378 == t379) t384 _ A31.out).mono ?_); rintro e w' ⟨rfl, ⟨nd, rfl⟩⟩; (try first | exact ⟨rfl, _, World.drewN_drewN _ _ _⟩ | exact ⟨rfl, _, Eq.trans (World.drewN_drewN _ _ _) (congrArg (World.drewN _) (Nat.add_assoc _ _ _))⟩))); try go_wp2_with (first | (go_at_call 138; (with_reducible refine (impl_operand.calls _ _ l0 a1_1 t378 _ ?side1 ?side2 A11.out).mono ?_); (case side1 => exact z8_1); (case side2 => exact z8_6); rintro e w' ⟨rfl, ⟨nd, rfl⟩⟩; (try first | exact ⟨rfl, _, World.drewN_drewN _ _ _⟩ | exact ⟨rfl, _, Eq.trans (World.drewN_drewN _ _ _) (congrArg (World.drewN _) (Nat.add_assoc _ _ _))⟩)) | (go_at_call 138; (with_reducible refine (impl_operand.calls _ _ l0 a1_2 t379 _ ?side1 ?side2 A12.out).mono ?_); (case side1 => exact z8_0); (case side2 => exact z8_6); rintro e w' ⟨rfl, ⟨nd, rfl⟩⟩; (try first | exact ⟨rfl, _, World.drewN_drewN _ _ _⟩ | exact ⟨rfl, _, Eq.trans (World.drewN_drewN _ _ _) (congrArg (World.drewN _) (Nat.add_assoc _ _ _))⟩)) | (go_at_call 58; (with_reducible refine (impl_bit.calls (t378 == t379) t384 _ A31.out).mono ?_); rintro e w' ⟨rfl, ⟨nd, rfl⟩⟩; (try first | exact ⟨rfl, _, World.drewN_drewN _ _ _⟩ | exact ⟨rfl, _, Eq.trans (World.drewN_drewN _ _ _) (congrArg (World.drewN _) (Nat.add_assoc _ _ _))⟩))))
                    go_ret
                    exact ⟨by first | rfl | (simp [errW_none, errW_some] <;> rfl) | (simp [*, errW_none, errW_some] <;> rfl) | (simp [*, errW_none, errW_some, i64_w]; done), by repeat (first | (with_reducible first | exact HB.out | apply below_alloc | apply pw_below_drewN | apply below_drew1 | refine below_set ?_ GE375.out) | exact HB.out)⟩

-- NOT PRINTED: function 105 (impl_effect_1)

/-! ### impl_NextTask: function 107 -/
def impl_NextTask.f (k : Nat) (l0_0 : List (S34)) (l1 : List Int) (a2 : Int) : Option (Int) := (impl_hasTask.f k l0_0 a2).bind fun t386 => (if t386 = true then ((impl_VarsOk.f l1).bind fun t387 => (if t387 = true then (if 0 ≤ a2 then (if a2 < (l0_0.length : Int) then ((impl_EvalExpr.f k l1 ((rd_T34 l0_0 a2).f1.f0) ((rd_T34 l0_0 a2).f1.f1) ((rd_T34 l0_0 a2).f1.f2)).bind fun t389 => (if (l0_0.length : Int) = 0 then (none) else (some (Int.tmod (wrap64 ((Int.tmod t389 (l0_0.length : Int)) + (l0_0.length : Int))) (l0_0.length : Int))))) else (none)) else (none)) else (some (-1)))) else (some (-1)))
theorem impl_NextTask.mono : ∀ a0 a1 a2 k, LeO (impl_NextTask.f k a0 a1 a2) (impl_NextTask.f (k + 1) a0 a1 a2) := by
  intro a0 a1 a2 k
  unfold impl_NextTask.f
  repeat' first
      | (with_reducible exact impl_EvalExpr.mono _ _ _ _ _)
      | (with_reducible exact impl_hasTask.mono _ _ _)
      | (with_reducible exact LeO.refl _)
      | (with_reducible exact LeO.none _)
      | (with_reducible refine LeO.ite ?_ ?_)
      | (with_reducible refine LeO.bind ?_ (fun _ => ?_))
      | exact impl_EvalExpr.mono _ _ _ _ _
      | exact impl_hasTask.mono _ _ _
      | exact LeO.none _
      | refine LeO.ite ?_ ?_
      | refine LeO.bind ?_ (fun _ => ?_)
set_option maxHeartbeats 8000000 in
set_option maxRecDepth 100000 in
theorem impl_NextTask.calls (k : Nat) (A0_0 : Option Addr) (c0_0 : Nat) (l0_0 : List (S34)) (A1 : Option Addr) (c1 : Nat) (l1 : List Int) (a2 : Int) (r : Int) (w : World) (hr0_0 : Kd.C k34 w A0_0 l0_0.length l0_0) (hc0_0 : l0_0.length ≤ c0_0) (hr1 : Kd.C (Kd.int .i64) w A1 l1.length l1) (hc1 : l1.length ≤ c1) (h : impl_NextTask.f k l0_0 l1 a2 = some r) :
    Calls Try.prog 107 #[.agg #[.slice A0_0 l0_0.length c0_0], .slice A1 l1.length c1, .int .i64 a2] w fun e w' => e = .returned (.int .i64 r) ∧ Below w.heap.size w w' := by
  have hu26 := Try.underlying26
  have hu32 := Try.underlying32
  have HR0_0 := Aside0.mk hr0_0
  have HC0_0 := Aside0.mk hc0_0
  clear hr0_0 hc0_0
  have HR1 := Aside0.mk hr1
  have HC1 := Aside0.mk hc1
  clear hr1 hc1
  have HB := Aside0.mk (Below.refl w.heap.size w)
  have H : ((impl_hasTask.f k l0_0 a2).bind fun t386 => (if t386 = true then ((impl_VarsOk.f l1).bind fun t387 => (if t387 = true then (if 0 ≤ a2 then (if a2 < (l0_0.length : Int) then ((impl_EvalExpr.f k l1 ((rd_T34 l0_0 a2).f1.f0) ((rd_T34 l0_0 a2).f1.f1) ((rd_T34 l0_0 a2).f1.f2)).bind fun t389 => (if (l0_0.length : Int) = 0 then (none) else (some (Int.tmod (wrap64 ((Int.tmod t389 (l0_0.length : Int)) + (l0_0.length : Int))) (l0_0.length : Int))))) else (none)) else (none)) else (some (-1)))) else (some (-1)))) = some r := h
  clear h
  replace H := Option.bind_eq_some_iff.mp H
  obtain ⟨t386, A40, H⟩ := H
  replace H : (if t386 = true then ((impl_VarsOk.f l1).bind fun t387 => (if t387 = true then (if 0 ≤ a2 then (if a2 < (l0_0.length : Int) then ((impl_EvalExpr.f k l1 ((rd_T34 l0_0 a2).f1.f0) ((rd_T34 l0_0 a2).f1.f1) ((rd_T34 l0_0 a2).f1.f2)).bind fun t389 => (if (l0_0.length : Int) = 0 then (none) else (some (Int.tmod (wrap64 ((Int.tmod t389 (l0_0.length : Int)) + (l0_0.length : Int))) (l0_0.length : Int))))) else (none)) else (none)) else (some (-1)))) else (some (-1))) = some r := H
  have A4 := Aside0.mk A40
  clear A40
  by_cases c5 : t386 = true
  · subst c5
    have H1 : ((impl_VarsOk.f l1).bind fun t387 => (if t387 = true then (if 0 ≤ a2 then (if a2 < (l0_0.length : Int) then ((impl_EvalExpr.f k l1 ((rd_T34 l0_0 a2).f1.f0) ((rd_T34 l0_0 a2).f1.f1) ((rd_T34 l0_0 a2).f1.f2)).bind fun t389 => (if (l0_0.length : Int) = 0 then (none) else (some (Int.tmod (wrap64 ((Int.tmod t389 (l0_0.length : Int)) + (l0_0.length : Int))) (l0_0.length : Int))))) else (none)) else (none)) else (some (-1)))) = some r := by rw [if_pos rfl] at H; exact H
    clear H
    have H := H1
    clear H1
    replace H := Option.bind_eq_some_iff.mp H
    obtain ⟨t387, A60, H⟩ := H
    replace H : (if t387 = true then (if 0 ≤ a2 then (if a2 < (l0_0.length : Int) then ((impl_EvalExpr.f k l1 ((rd_T34 l0_0 a2).f1.f0) ((rd_T34 l0_0 a2).f1.f1) ((rd_T34 l0_0 a2).f1.f2)).bind fun t389 => (if (l0_0.length : Int) = 0 then (none) else (some (Int.tmod (wrap64 ((Int.tmod t389 (l0_0.length : Int)) + (l0_0.length : Int))) (l0_0.length : Int))))) else (none)) else (none)) else (some (-1))) = some r := H
    have A6 := Aside0.mk A60
    clear A60
    by_cases c7 : t387 = true
    · subst c7
      have H1 : (if 0 ≤ a2 then (if a2 < (l0_0.length : Int) then ((impl_EvalExpr.f k l1 ((rd_T34 l0_0 a2).f1.f0) ((rd_T34 l0_0 a2).f1.f1) ((rd_T34 l0_0 a2).f1.f2)).bind fun t389 => (if (l0_0.length : Int) = 0 then (none) else (some (Int.tmod (wrap64 ((Int.tmod t389 (l0_0.length : Int)) + (l0_0.length : Int))) (l0_0.length : Int))))) else (none)) else (none)) = some r := by rw [if_pos rfl] at H; exact H
      clear H
      have H := H1
      clear H1
      by_cases c8 : 0 ≤ a2
      · rw [if_pos c8] at H
        have c8b0 : decide (0 ≤ a2) = true := decide_eq_true c8
        clear c8
        by_cases c9 : a2 < (l0_0.length : Int)
        · rw [if_pos c9] at H
          have c9b0 : decide (a2 < (l0_0.length : Int)) = true := decide_eq_true c9
          clear c9
          replace H := Option.bind_eq_some_iff.mp H
          obtain ⟨t389, A100, H⟩ := H
          replace H : (if (l0_0.length : Int) = 0 then (none) else (some (Int.tmod (wrap64 ((Int.tmod t389 (l0_0.length : Int)) + (l0_0.length : Int))) (l0_0.length : Int)))) = some r := H
          have A10 := Aside0.mk A100
          clear A100
          by_cases c11 : (l0_0.length : Int) = 0
          · rw [if_pos c11] at H
            exact absurd H (by simp)
          · rw [if_neg c11] at H
            have c11b0 : ((l0_0.length : Int) == 0) = false := beq_eq_false_iff_ne.mpr c11
            have c11b1 : ((l0_0.length : Int) != 0) = true := bne_iff_ne.mpr c11
            have c11b2 : ¬ (l0_0 = []) := fun h_ => c11 (by rw [h_]; rfl)
            obtain rfl := Option.some.inj H
            go_enter Try.func107, Try.ntmps107
            go_wp2_with (first | ((with_reducible refine gate_dst (N := 3) rfl ?_); refine box_event ?hg (N := 3) ?hd (cs := #[.slice A0_0 l0_0.length c0_0]) (t := 26) ?hr ?_; (case hd => rfl); (case hg => rfl); (case hr => first | (go_simp; done) | (go_simp; rfl)); intro gb385 hg w12 hbox hb; have n0_ := Aside0.mk (below_step z8_3 hb); have n1_ := Aside0.mk (hbox); have n2_ := Aside0.mk ((z8_10 : w.heap.size ≤ gb385)); have n3_ := Aside0.mk ((z8_10 : w.heap.size ≤ gb385)); clear HB; have HB := n0_; have BK385 := n1_; have GW385 := n2_; have GE385 := n3_; clear n0_ n1_ n2_ n3_; clear hb hbox hg; have hcz13_0 : w12.cell? ⟨gb385, 0, none⟩ = some (.slice A0_0 l0_0.length c0_0) := (blk_cell BK385.out 0).trans rfl; have hfz13_0 := blk_frozen BK385.out 0) | ((first | ((with_reducible refine gate_callee (f := 60) rfl ?_); refine goesL_ (some 10) rfl rfl Try.func60 (by kernel_rfl) rfl #[.agg #[.slice A0_0 l0_0.length c0_0], .int .i64 a2] rfl z8_4 ?_; (with_reducible refine (impl_hasTask.calls k _ _ l0_0 a2 true _ ?side1 ?side2 A4.out).mono ?_)) | (go_at_call 60; (with_reducible refine (impl_hasTask.calls k _ _ l0_0 a2 true _ ?side1 ?side2 A4.out).mono ?_))); (case side1 => exact z8_7); (case side2 => exact HC0_0.out); rintro e w14 ⟨rfl, hb⟩; (first | refine ⟨_, rfl, ?_⟩ | skip); have n0_ := Aside0.mk (blk_below (g := gb385) (o := .cells #[.slice A0_0 l0_0.length c0_0] 26 (0, 0)) z8_8 hb); have n1_ := Aside0.mk (below_step z8_5 hb); clear BK385; clear HB; have BK385 := n0_; have HB := n1_; clear n0_ n1_; (try clear hb); (try clear hb2); (try clear hk); (try clear hi)) | (go_at_call 61; (with_reducible refine (impl_VarsOk.calls _ _ l1 true _ ?side1 ?side2 A6.out).mono ?_); (case side1 => repeat (first | exact (Kd.C_below HR1.out HB.out) | (with_reducible refine Kd.C_alloc ?_ _) | (with_reducible refine Kd.C_drewN ?_ _) | (with_reducible refine Kd.C_drew ?_))); (case side2 => exact HC1.out); rintro e w' ⟨rfl, ⟨nd, rfl⟩⟩; have hcz15_0 : w14.cell? ⟨gb385, 0, none⟩ = some (.slice A0_0 l0_0.length c0_0) := (blk_cell BK385.out 0).trans rfl; have hfz15_0 := blk_frozen BK385.out 0; have p388 : 0 ≤ (a2 : Int) := of_decide_eq_true (by first | (with_reducible assumption) | assumption); have q388 : a2 < (l0_0.length : Int) := of_decide_eq_true (by first | (with_reducible assumption) | assumption); obtain ⟨ad388, A388_0, c388_0, e388, hx388_0, hx388_1, hx388_2, hx388_3, hl388_0, hi388_0⟩ := at_T34 HR0_0.out a2 p388 q388; cases e388; replace hx388_0 := (HB.out.cell (World.block_lt_of_cell? w _ hx388_0)).trans hx388_0; replace hx388_1 := (HB.out.cell (World.block_lt_of_cell? w _ hx388_1)).trans hx388_1; replace hx388_2 := (HB.out.cell (World.block_lt_of_cell? w _ hx388_2)).trans hx388_2; replace hx388_3 := (HB.out.cell (World.block_lt_of_cell? w _ hx388_3)).trans hx388_3; have HR388_0 := Aside0.mk hi388_0; have HC388_0 := Aside0.mk hl388_0; clear hi388_0 hl388_0; replace p388 := eq_true p388; replace q388 := eq_true q388) | ((first | ((with_reducible refine gate_callee (f := 106) rfl ?_); refine goesL_ (some 27) rfl rfl Try.func106 (by kernel_rfl) rfl #[.slice A1 l1.length c1, .agg #[.int .i64 ((rd_T34 l0_0 a2).f1.f0), .int .i64 ((rd_T34 l0_0 a2).f1.f1), .int .i64 ((rd_T34 l0_0 a2).f1.f2)]] rfl z8_4 ?_; (with_reducible refine (impl_EvalExpr.calls k _ _ l1 ((rd_T34 l0_0 a2).f1.f0) ((rd_T34 l0_0 a2).f1.f1) ((rd_T34 l0_0 a2).f1.f2) t389 _ ?side1 ?side2 A10.out).mono ?_)) | (go_at_call 106; (with_reducible refine (impl_EvalExpr.calls k _ _ l1 ((rd_T34 l0_0 a2).f1.f0) ((rd_T34 l0_0 a2).f1.f1) ((rd_T34 l0_0 a2).f1.f2) t389 _ ?side1 ?side2 A10.out).mono ?_))); (case side1 => repeat (first | exact (Kd.C_below HR1.out z8_5) | (with_reducible refine Kd.C_alloc ?_ _) | (with_reducible refine Kd.C_drewN ?_ _) | (with_reducible refine Kd.C_drew ?_))); (case side2 => exact HC1.out); rintro e w16 ⟨rfl, hb⟩; (first | refine ⟨_, rfl, ?_⟩ | skip); have n0_ := Aside0.mk (blk_below (g := gb385) (o := .cells #[.slice (some ad388) l0_0.length c0_0] 26 (0, 0)) z8_8 hb); have n1_ := Aside0.mk (below_step z8_5 hb); clear BK385; clear HB; have BK385 := n0_; have HB := n1_; clear n0_ n1_; (try clear hb); (try clear hb2); (try clear hk); (try clear hi)))
            go_ret
            exact ⟨by first | rfl | (simp [errW_none, errW_some] <;> rfl) | (simp [*, errW_none, errW_some] <;> rfl) | (simp [*, errW_none, errW_some, i64_w]; done), by repeat (first | (with_reducible first | exact HB.out | apply below_alloc | apply pw_below_drewN | apply below_drew1 | refine below_set ?_ GE385.out) | exact HB.out)⟩
        · rw [if_neg c9] at H
          exact absurd H (by simp)
      · rw [if_neg c8] at H
        exact absurd H (by simp)
    · replace c7 := Bool.eq_false_iff.mpr c7
      subst c7
      have H1 : (some (-1)) = some r := by rw [if_neg (show ¬ (false = true) by decide)] at H; exact H
      clear H
      have H := H1
      clear H1
      obtain rfl := Option.some.inj H
      go_enter Try.func107, Try.ntmps107
      go_wp2_with (first | ((with_reducible refine gate_dst (N := 3) rfl ?_); refine box_event ?hg (N := 3) ?hd (cs := #[.slice A0_0 l0_0.length c0_0]) (t := 26) ?hr ?_; (case hd => rfl); (case hg => rfl); (case hr => first | (go_simp; done) | (go_simp; rfl)); intro gb385 hg w17 hbox hb; have n0_ := Aside0.mk (below_step z8_3 hb); have n1_ := Aside0.mk (hbox); have n2_ := Aside0.mk ((z8_10 : w.heap.size ≤ gb385)); have n3_ := Aside0.mk ((z8_10 : w.heap.size ≤ gb385)); clear HB; have HB := n0_; have BK385 := n1_; have GW385 := n2_; have GE385 := n3_; clear n0_ n1_ n2_ n3_; clear hb hbox hg; have hcz18_0 : w17.cell? ⟨gb385, 0, none⟩ = some (.slice A0_0 l0_0.length c0_0) := (blk_cell BK385.out 0).trans rfl; have hfz18_0 := blk_frozen BK385.out 0) | ((first | ((with_reducible refine gate_callee (f := 60) rfl ?_); refine goesL_ (some 10) rfl rfl Try.func60 (by kernel_rfl) rfl #[.agg #[.slice A0_0 l0_0.length c0_0], .int .i64 a2] rfl z8_4 ?_; (with_reducible refine (impl_hasTask.calls k _ _ l0_0 a2 true _ ?side1 ?side2 A4.out).mono ?_)) | (go_at_call 60; (with_reducible refine (impl_hasTask.calls k _ _ l0_0 a2 true _ ?side1 ?side2 A4.out).mono ?_))); (case side1 => exact z8_7); (case side2 => exact HC0_0.out); rintro e w19 ⟨rfl, hb⟩; (first | refine ⟨_, rfl, ?_⟩ | skip); have n0_ := Aside0.mk (blk_below (g := gb385) (o := .cells #[.slice A0_0 l0_0.length c0_0] 26 (0, 0)) z8_8 hb); have n1_ := Aside0.mk (below_step z8_5 hb); clear BK385; clear HB; have BK385 := n0_; have HB := n1_; clear n0_ n1_; (try clear hb); (try clear hb2); (try clear hk); (try clear hi)) | (go_at_call 61; (with_reducible refine (impl_VarsOk.calls _ _ l1 false _ ?side1 ?side2 A6.out).mono ?_); (case side1 => repeat (first | exact (Kd.C_below HR1.out HB.out) | (with_reducible refine Kd.C_alloc ?_ _) | (with_reducible refine Kd.C_drewN ?_ _) | (with_reducible refine Kd.C_drew ?_))); (case side2 => exact HC1.out); rintro e w' ⟨rfl, ⟨nd, rfl⟩⟩))
      go_ret
      exact ⟨by first | rfl | (simp [errW_none, errW_some] <;> rfl) | (simp [*, errW_none, errW_some] <;> rfl) | (simp [*, errW_none, errW_some, i64_w]; done), by repeat (first | (with_reducible first | exact HB.out | apply below_alloc | apply pw_below_drewN | apply below_drew1 | refine below_set ?_ GE385.out) | exact HB.out)⟩
  · replace c5 := Bool.eq_false_iff.mpr c5
    subst c5
    have H1 : (some (-1)) = some r := by rw [if_neg (show ¬ (false = true) by decide)] at H; exact H
    clear H
    have H := H1
    clear H1
    obtain rfl := Option.some.inj H
    go_enter Try.func107, Try.ntmps107
    go_wp2_with (first | ((with_reducible refine gate_dst (N := 3) rfl ?_); refine box_event ?hg (N := 3) ?hd (cs := #[.slice A0_0 l0_0.length c0_0]) (t := 26) ?hr ?_; (case hd => rfl); (case hg => rfl); (case hr => first | (go_simp; done) | (go_simp; rfl)); intro gb385 hg w20 hbox hb; have n0_ := Aside0.mk (below_step z8_3 hb); have n1_ := Aside0.mk (hbox); have n2_ := Aside0.mk ((z8_10 : w.heap.size ≤ gb385)); have n3_ := Aside0.mk ((z8_10 : w.heap.size ≤ gb385)); clear HB; have HB := n0_; have BK385 := n1_; have GW385 := n2_; have GE385 := n3_; clear n0_ n1_ n2_ n3_; clear hb hbox hg; have hcz21_0 : w20.cell? ⟨gb385, 0, none⟩ = some (.slice A0_0 l0_0.length c0_0) := (blk_cell BK385.out 0).trans rfl; have hfz21_0 := blk_frozen BK385.out 0) | ((first | ((with_reducible refine gate_callee (f := 60) rfl ?_); refine goesL_ (some 10) rfl rfl Try.func60 (by kernel_rfl) rfl #[.agg #[.slice A0_0 l0_0.length c0_0], .int .i64 a2] rfl z8_4 ?_; (with_reducible refine (impl_hasTask.calls k _ _ l0_0 a2 false _ ?side1 ?side2 A4.out).mono ?_)) | (go_at_call 60; (with_reducible refine (impl_hasTask.calls k _ _ l0_0 a2 false _ ?side1 ?side2 A4.out).mono ?_))); (case side1 => exact z8_7); (case side2 => exact HC0_0.out); rintro e w22 ⟨rfl, hb⟩; (first | refine ⟨_, rfl, ?_⟩ | skip); have n0_ := Aside0.mk (blk_below (g := gb385) (o := .cells #[.slice A0_0 l0_0.length c0_0] 26 (0, 0)) z8_8 hb); have n1_ := Aside0.mk (below_step z8_5 hb); clear BK385; clear HB; have BK385 := n0_; have HB := n1_; clear n0_ n1_; (try clear hb); (try clear hb2); (try clear hk); (try clear hi)))
    go_ret
    exact ⟨by first | rfl | (simp [errW_none, errW_some] <;> rfl) | (simp [*, errW_none, errW_some] <;> rfl) | (simp [*, errW_none, errW_some, i64_w]; done), by repeat (first | (with_reducible first | exact HB.out | apply below_alloc | apply pw_below_drewN | apply below_drew1 | refine below_set ?_ GE385.out) | exact HB.out)⟩

end Go.Proofs.Ytakhaknglhgimaa.G
