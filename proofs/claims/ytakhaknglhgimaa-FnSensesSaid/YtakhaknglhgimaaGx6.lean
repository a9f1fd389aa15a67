/- Functions of the program as plain Lean functions, and that each call comes to its function's answer; written by a program of the session. No condition. -/
import Derived.Test.YtakhaknglhgimaaGx0
import Derived.Test.YtakhaknglhgimaaGx2
import Derived.Test.YtakhaknglhgimaaGx3
import Derived.Test.YtakhaknglhgimaaGx4
import Derived.Test.YtakhaknglhgimaaGx5
namespace Go.Proofs.Ytakhaknglhgimaa.G
open Go.RowKit Go.Proofs.YtakhaknglhgimaaW.PrintWords Go.Proofs.YtakhaknglhgimaaW.PrintLast Go.Proofs.YtakhaknglhgimaaW.PrintMore
attribute [local go_sem] max2_int min2_int max_two min_two max_three min_three max_four min_four   -- for this text's walks alone
set_option linter.unusedVariables false
set_option linter.unusedSimpArgs false

theorem z6_0 {P : Prop} (h : P := by repeat (first | (with_reducible first | exact HB.out | apply below_alloc | apply pw_below_drewN | apply below_drew1 | refine below_set ?_ GE397.out) | exact HB.out)) : P := h
theorem z6_1 {P : Prop} (h : P := by repeat (first | (with_reducible first | exact HB.out | apply below_alloc | apply pw_below_drewN | apply below_drew1) | exact HB.out)) : P := h
theorem z6_2 {P : Prop} (h : P := by (with_reducible repeat (first | refine blk_drewN ?_ _ | refine blk_drew ?_ | refine blk_alloc ?_ _)); exact BK397.out) : P := h
theorem z6_3 {P : Prop} (h : P := by kernel_rfl) : P := h
theorem z6_4 {P : Prop} (h : P := by repeat (first | (with_reducible first | exact HB.out | apply below_alloc | apply pw_below_drewN | apply below_drew1 | refine below_set ?_ GE397.out | refine below_set ?_ GE398.out) | exact HB.out)) : P := h
theorem z6_5 {P : Prop} (h : P := by repeat (first | exact Below.refl _ _ | apply pw_below_drewN | apply below_drew1 | apply below_alloc)) : P := h
theorem z6_6 {P : Prop} (h : P := by first | (go_simp; done) | (go_simp; rfl)) : P := h
theorem z6_7 {P : Prop} (h : P := by repeat (first | exact (Kd.C_below HR1_0.out HB.out) | (with_reducible refine Kd.C_alloc ?_ _) | (with_reducible refine Kd.C_drewN ?_ _) | (with_reducible refine Kd.C_drew ?_))) : P := h
theorem z6_8 {P : Prop} (h : P := by repeat (first | exact (Kd.C_below HR0_0.out HB.out) | (with_reducible refine Kd.C_alloc ?_ _) | (with_reducible refine Kd.C_drewN ?_ _) | (with_reducible refine Kd.C_drew ?_))) : P := h
theorem z6_9 {P : Prop} (h : P := by decide) : P := h
theorem z6_10 {P : Prop} (h : P := by first | (with_reducible assumption) | assumption) : P := h
theorem z6_11 {P : Prop} (h : P := by (try simp only [List.map_toArray, List.map_cons, List.map_nil]); first | done | rfl | (simp only [List.length_drop, List.length_take]; rfl)) : P := h
theorem z6_12 {P : Prop} (h : P := by rw [hg]; exact Nat.ne_of_lt (blk_lt (g := gb397) (o := .cells #[.slice A0_0 l0_0.length c0_0, .slice A0_1 l0_1.length c0_1, .int .i64 a0_2, .int .i64 a0_3] 37 (0, 0)) z6_2)) : P := h
theorem z6_13 {P : Prop} (h : P := by rw [hg]; exact Nat.ne_of_gt (blk_lt (g := gb397) (o := .cells #[.slice A0_0 l0_0.length c0_0, .slice A0_1 l0_1.length c0_1, .int .i64 a0_2, .int .i64 a0_3] 37 (0, 0)) z6_2)) : P := h
theorem z6_14 {P : Prop} (h : P := by repeat (first | exact (Kd.C_below HR1_1.out z6_4) | (with_reducible refine Kd.C_alloc ?_ _) | (with_reducible refine Kd.C_drewN ?_ _) | (with_reducible refine Kd.C_drew ?_))) : P := h
theorem z6_15 {P : Prop} (h : P := by repeat (first | exact (Kd.C_below HR0_1.out z6_4) | (with_reducible refine Kd.C_alloc ?_ _) | (with_reducible refine Kd.C_drewN ?_ _) | (with_reducible refine Kd.C_drew ?_))) : P := h
theorem z6_16 {P : Prop} (h : P := by rw [hg]; exact (below_size z6_1)) : P := h
theorem z6_17 {P : Prop} (h : P := by rw [hg]; exact (below_size z6_0)) : P := h
/-! ### impl_ReadSensor: function 71 -/
def impl_ReadSensor.f (l0 : List Int) (a1 : Int) (a2 : Int) : Option (Int) := if (l0.length : Int) = 0 then (some 0) else ((impl_isSensor.f a1).bind fun t392 => (if t392 = true then (if a2 < 0 then (some 0) else (if 0 ≤ (Int.tmod a2 (l0.length : Int)) then (if (Int.tmod a2 (l0.length : Int)) < (l0.length : Int) then ((impl_AddValues.f (rd l0 (Int.tmod a2 (l0.length : Int))) (wrap64 (100 * a1))).bind fun t394 => (some t394)) else (none)) else (none))) else (some 0)))
set_option maxHeartbeats 8000000 in
set_option maxRecDepth 100000 in
theorem impl_ReadSensor.calls (A0 : Option Addr) (c0 : Nat) (l0 : List Int) (a1 : Int) (a2 : Int) (r : Int) (w : World) (hr0 : Kd.C (Kd.int .i64) w A0 l0.length l0) (hc0 : l0.length ≤ c0) (h : impl_ReadSensor.f l0 a1 a2 = some r) :
    Calls Try.prog 71 #[.slice A0 l0.length c0, .int .i64 a1, .int .i64 a2] w fun e w' => e = .returned (.int .i64 r) ∧ Drawn0 w w' := by
  have HR0 := Aside0.mk hr0
  have HC0 := Aside0.mk hc0
  clear hr0 hc0
  have H : (if (l0.length : Int) = 0 then (some 0) else ((impl_isSensor.f a1).bind fun t392 => (if t392 = true then (if a2 < 0 then (some 0) else (if 0 ≤ (Int.tmod a2 (l0.length : Int)) then (if (Int.tmod a2 (l0.length : Int)) < (l0.length : Int) then ((impl_AddValues.f (rd l0 (Int.tmod a2 (l0.length : Int))) (wrap64 (100 * a1))).bind fun t394 => (some t394)) else (none)) else (none))) else (some 0)))) = some r := h
  clear h
  by_cases c4 : (l0.length : Int) = 0
  · rw [if_pos c4] at H
    have c4b0 : ((l0.length : Int) == 0) = true := beq_iff_eq.mpr c4
    have c4b1 : ((l0.length : Int) != 0) = false := bne_eq_false_iff_eq.mpr c4
    clear c4
    obtain rfl := Option.some.inj H
    go_enter Try.func71, Try.ntmps71
    go_wp2
    go_ret
    exact ⟨by first | rfl | (simp; done) | (simp [*]; done), by repeat (first | exact Drawn0.refl _ | apply Drawn0.step)⟩
  · rw [if_neg c4] at H
    have c4b0 : ((l0.length : Int) == 0) = false := beq_eq_false_iff_ne.mpr c4
    have c4b1 : ((l0.length : Int) != 0) = true := bne_iff_ne.mpr c4
    have c4b2 : ¬ (l0 = []) := fun h_ => c4 (by rw [h_]; rfl)
    replace H := Option.bind_eq_some_iff.mp H
    obtain ⟨t392, A50, H⟩ := H
    replace H : (if t392 = true then (if a2 < 0 then (some 0) else (if 0 ≤ (Int.tmod a2 (l0.length : Int)) then (if (Int.tmod a2 (l0.length : Int)) < (l0.length : Int) then ((impl_AddValues.f (rd l0 (Int.tmod a2 (l0.length : Int))) (wrap64 (100 * a1))).bind fun t394 => (some t394)) else (none)) else (none))) else (some 0)) = some r := H
    have A5 := Aside0.mk A50
    clear A50
    by_cases c6 : t392 = true
    · subst c6
      have H1 : (if a2 < 0 then (some 0) else (if 0 ≤ (Int.tmod a2 (l0.length : Int)) then (if (Int.tmod a2 (l0.length : Int)) < (l0.length : Int) then ((impl_AddValues.f (rd l0 (Int.tmod a2 (l0.length : Int))) (wrap64 (100 * a1))).bind fun t394 => (some t394)) else (none)) else (none))) = some r := by rw [if_pos rfl] at H; exact H
      clear H
      have H := H1
      clear H1
      by_cases c7 : a2 < 0
      · rw [if_pos c7] at H
        have c7b0 : decide (a2 < 0) = true := decide_eq_true c7
        clear c7
        obtain rfl := Option.some.inj H
        go_enter Try.func71, Try.ntmps71
        go_wp2_with (first | (go_at_call 111; (with_reducible refine (impl_isSensor.calls a1 true _ A5.out).mono ?_); rintro e w' ⟨rfl, ⟨nd, rfl⟩⟩))
        go_ret
        exact ⟨by first | rfl | (simp; done) | (simp [*]; done), by repeat (first | exact Drawn0.refl _ | apply Drawn0.step)⟩
      · rw [if_neg c7] at H
        have c7b0 : decide (a2 < 0) = false := decide_eq_false c7
        clear c7
        obtain ⟨ji8, hji8⟩ : ∃ j_ : Int, (Int.tmod a2 (l0.length : Int)) = j_ := ⟨_, rfl⟩
        replace H : (if 0 ≤ (ji8) then (if (ji8) < (l0.length : Int) then ((impl_AddValues.f (rd l0 (ji8)) (wrap64 (100 * a1))).bind fun t394 => (some t394)) else (none)) else (none)) = some r := by first | (rw [hji8] at H; exact H) | (simp only [hji8] at H ⊢; exact H)
        (try rw [hji8] at A5)
        by_cases c9 : 0 ≤ (ji8)
        · rw [if_pos c9] at H
          have c9b0 : decide (0 ≤ (ji8)) = true := decide_eq_true c9
          clear c9
          by_cases c10 : (ji8) < (l0.length : Int)
          · rw [if_pos c10] at H
            have c10b0 : decide ((ji8) < (l0.length : Int)) = true := decide_eq_true c10
            clear c10
            replace H := Option.bind_eq_some_iff.mp H
            obtain ⟨t394, A110, H⟩ := H
            replace H : (some t394) = some r := H
            have A11 := Aside0.mk A110
            clear A110
            obtain rfl := Option.some.inj H
            go_enter Try.func71, Try.ntmps71
            go_wp2_with (first | (go_at_call 111; (with_reducible refine (impl_isSensor.calls a1 true _ A5.out).mono ?_); rintro e w' ⟨rfl, ⟨nd, rfl⟩⟩; have p393 : 0 ≤ ((ji8) : Int) := of_decide_eq_true z6_10; have q393 : (ji8) < (l0.length : Int) := of_decide_eq_true z6_10; obtain ⟨ad393, e393, hx393_0⟩ := Kd.at_int HR0.out (ji8) p393 q393; cases e393; replace p393 := eq_true p393; replace q393 := eq_true q393) | ((first | ((with_reducible refine gate_callee (f := 112) rfl ?_); refine goesL_ (some 28) rfl rfl Try.func112 z6_3 rfl #[.int .i64 (rd l0 (ji8)), .int .i64 (wrap64 (100 * a1))] rfl (by (try simp only [List.map_toArray, List.map_cons, List.map_nil]); first | done | (simp only [hji8]; rfl) | rfl | (simp only [List.length_drop, List.length_take]; rfl)) ?_; (with_reducible refine (impl_AddValues.calls (rd l0 (ji8)) (wrap64 (100 * a1)) t394 _ A11.out).mono ?_)) | (go_at_call 112; (with_reducible refine (impl_AddValues.calls (rd l0 (ji8)) (wrap64 (100 * a1)) t394 _ A11.out).mono ?_))); rintro e w' ⟨rfl, ⟨nd, rfl⟩⟩; (first | refine ⟨_, rfl, ?_⟩ | skip)))
            go_ret
            exact ⟨by first | rfl | (simp; done) | (simp only [← hji8] <;> (first | rfl | simp)) | (simp [*]; done), by repeat (first | exact Drawn0.refl _ | apply Drawn0.step)⟩
          · rw [if_neg c10] at H
            exact absurd H (by simp)
        · rw [if_neg c9] at H
          exact absurd H (by simp)
    · replace c6 := Bool.eq_false_iff.mpr c6
      subst c6
      have H1 : (some 0) = some r := by rw [if_neg (show ¬ (false = true) by decide)] at H; exact H
      clear H
      have H := H1
      clear H1
      obtain rfl := Option.some.inj H
      go_enter Try.func71, Try.ntmps71
      go_wp2_with (first | (go_at_call 111; (with_reducible refine (impl_isSensor.calls a1 false _ A5.out).mono ?_); rintro e w' ⟨rfl, ⟨nd, rfl⟩⟩))
      go_ret
      exact ⟨by first | rfl | (simp; done) | (simp [*]; done), by repeat (first | exact Drawn0.refl _ | apply Drawn0.step)⟩

-- NOT PRINTED: function 70 (impl_SensesOf_1)

/-! ### impl_SensesOf: function 23 -/
/-- The sensors' values out of readings, each noted. -/
def liveS (l3 : List Int) (at_ : Int) (z : List Int) (n m : Int) : Option (List Int × Int) := (impl_ReadSensor.f l3 m (wrap64 (at_ + n))).bind fun y => if z.length < 17592186044415 ∧ 0 ≤ n ∧ n < (z.length : Int) + 1 then some (z ++ [y], rd (z ++ [y]) n) else none
def liveP (w0 : World) (A3 : Option Addr) (n3 c3 : Nat) (at_ : Int) (gq gr ga : Nat) (z : List Int) : Sep.Asn := fun F w => ∃ v : Value, (w.heap[gq]? = some (.cells #[v] 28 (0, 0)) ∧ w.heap[gr]? = some (.cells #[.slice A3 n3 c3] 28 (0, 0)) ∧ w.heap[ga]? = some (.cells #[.int .i64 at_] 3 (0, 0))) ∧ Sep.rowI 3 w v z ∧
  (v.ownBlock ≠ some gq ∧ v.ownBlock ≠ some gr ∧ v.ownBlock ≠ some ga ∧ gq ≠ gr ∧ gq ≠ ga ∧ w0.heap.size ≤ gq ∧ w0.heap.size ≤ gr ∧ w0.heap.size ≤ ga ∧ ∀ k, v.ownBlock = some k → w0.heap.size ≤ k) ∧ (∀ k, F k ↔ k = gq ∨ k = gr ∨ k = ga ∨ v.ownBlock = some k) ∧ ∀ k, k < w0.heap.size → w.heap[k]? = w0.heap[k]?
theorem liveP_loc (w0 : World) (A3 : Option Addr) (n3 c3 : Nat) (at_ : Int) (gq gr ga : Nat) (z : List Int) : Sep.Loc w0.heap.size (liveP w0 A3 n3 c3 at_ gq gr ga z) where
  lt := by
    rintro F w ⟨v, ⟨h1, h2, h3⟩, h4, h5, hF, h6⟩ k hk
    rcases (hF k).1 hk with rfl | rfl | rfl | h
    · exact ⟨h5.2.2.2.2.2.1, blk_lt h1⟩
    · exact ⟨h5.2.2.2.2.2.2.1, blk_lt h2⟩
    · exact ⟨h5.2.2.2.2.2.2.2.1, blk_lt h3⟩
    · exact ⟨h5.2.2.2.2.2.2.2.2 k h, h4.lt k h⟩
  keep := by
    rintro F w w' ⟨v, ⟨h1, h2, h3⟩, h4, h5, hF, h6⟩ hB hs hk
    exact ⟨v, ⟨(hk gq (.inr ((hF _).2 (by simp)))).trans h1, (hk gr (.inr ((hF _).2 (by simp)))).trans h2, (hk ga (.inr ((hF _).2 (by simp)))).trans h3⟩, h4.keep (fun k h => hk k (.inr ((hF k).2 (by simp [h])))), h5, hF, fun k h => (hk k (.inl h)).trans (h6 k h)⟩
set_option maxHeartbeats 8000000 in
set_option maxRecDepth 100000 in
theorem liveS_calls (w0 : World) (A3 : Option Addr) (c3 : Nat) (l3 : List Int) (at_ : Int) (gq gr ga : Nat) (hr3 : Kd.C (Kd.int .i64) w0 A3 l3.length l3) (hc3 : l3.length ≤ c3) (z : List Int) (n m : Int) (z' : List Int) (y' : Int) (F : Nat → Prop) (w : World) (hs : liveS l3 at_ z n m = some (z', y')) (hi : liveP w0 A3 l3.length c3 at_ gq gr ga z F w) :
    Calls Try.prog 70 (#[.int .i64 n, .int .i64 m] ++ #[.pointer (some ⟨gq, 0, none⟩), .pointer (some ⟨gr, 0, none⟩), .pointer (some ⟨ga, 0, none⟩)]) w fun e w' => e = .returned (.int .i64 y') ∧ ∃ F', liveP w0 A3 l3.length c3 at_ gq gr ga z' F' w' ∧ Sep.After F w F' w' := by
  obtain ⟨y, h1, h2⟩ := Option.bind_eq_some_iff.mp hs
  by_cases c : z.length < 17592186044415 ∧ 0 ≤ n ∧ n < (z.length : Int) + 1
  · rw [if_pos c] at h2
    cases h2
    obtain ⟨v, ⟨i1, i2, i3⟩, i4, i5, iF, i6⟩ := hi
    obtain ⟨A0, c0, e0, hc0, hC0⟩ := i4.open_
    subst e0
    have H1 := Aside0.mk h1
    have BQ := Aside0.mk i1
    have BR := Aside0.mk i2
    have BA := Aside0.mk i3
    have RZ := Aside0.mk i4
    have NE := Aside0.mk i5
    have HF := Aside0.mk iF
    have OLD := Aside0.mk i6
    have HR3 := Aside0.mk ((Kd.heap_int .i64).C i6 hr3)
    have HC3 := Aside0.mk hc3
    have HL := Aside0.mk c.1
    have p1 := eq_true c.2.1
    have HN := Aside0.mk c.2.2
    clear hs h1 i1 i2 i3 i4 i5 iF i6 hr3 hc3 c hc0 hC0
    go_enter Try.func70, Try.ntmps70
    go_wp2
    refine start_ (n := 10) (S := fun w' => w'.cell? ⟨gq, 0, none⟩ = some (.slice A0 z.length c0) ∧ w'.cell? ⟨gr, 0, none⟩ = some (.slice A3 l3.length c3) ∧ w'.cell? ⟨ga, 0, none⟩ = some (.int .i64 at_)) (ds := [9]) #[false, false, false, false, false, false, false, false, false, false] z6_3 rfl rfl ⟨(blk_cell (BQ.out) 0).trans rfl, (blk_cell (BR.out) 0).trans rfl, (blk_cell (BA.out) 0).trans rfl⟩ (fun hHeld => ?_)
    refine pure_ (i := 2) (N := some 10) (v := ?_) (a' := ?_) #[false, false, true, false, false, false, false, false, false, false] rfl rfl z6_3 (fun _ _ _ h => h) (Or.inl ⟨by rfl, ?_⟩) ?_ ?_
    rotate_left
    · intro w'
      go_simp
      with_reducible rfl
    rotate_left
    · simp only [Act.put, List.setIfInBounds_toArray, List.set_cons_zero, List.set_cons_succ, i64_w, i32_w]
      rfl
    refine pure_ (i := 4) (N := some 12) (v := ?_) (a' := ?_) #[false, false, true, false, true, false, false, false, false, false] rfl rfl z6_3 (fun _ _ _ h => h) (Or.inl ⟨by rfl, ?_⟩) ?_ ?_
    rotate_left
    · intro w'
      go_simp
      with_reducible rfl
    rotate_left
    · simp only [Act.put, List.setIfInBounds_toArray, List.set_cons_zero, List.set_cons_succ, i64_w, i32_w]
      rfl
    refine take_ (i := 0) (N := some 8) (v := ?_) (a' := ?_) #[true, false, true, false, true, false, false, false, false, false] rfl rfl z6_3 (fun _ _ _ h => h) (Or.inl ⟨by rfl, ?_⟩) hHeld ?_ ?_
    rotate_left
    · intro w' s0
      obtain ⟨_, _, _⟩ := s0
      go_simp
      with_reducible rfl
    rotate_left
    · simp only [Act.put, List.setIfInBounds_toArray, List.set_cons_zero, List.set_cons_succ, i64_w, i32_w]
      rfl
    refine take_ (i := 1) (N := some 9) (v := ?_) (a' := ?_) #[true, true, true, false, true, false, false, false, false, false] rfl rfl z6_3 (fun _ _ _ h => h) (Or.inl ⟨by rfl, ?_⟩) hHeld ?_ ?_
    rotate_left
    · intro w' s0
      obtain ⟨_, _, _⟩ := s0
      go_simp
      with_reducible rfl
    rotate_left
    · simp only [Act.put, List.setIfInBounds_toArray, List.set_cons_zero, List.set_cons_succ, i64_w, i32_w]
      rfl
    refine take_ (i := 3) (N := some 11) (v := ?_) (a' := ?_) #[true, true, true, true, true, false, false, false, false, false] rfl rfl z6_3 (fun _ _ _ h => h) (Or.inl ⟨by rfl, ?_⟩) hHeld ?_ ?_
    rotate_left
    · intro w' s0
      obtain ⟨_, _, _⟩ := s0
      go_simp
      with_reducible rfl
    rotate_left
    · simp only [Act.put, List.setIfInBounds_toArray, List.set_cons_zero, List.set_cons_succ, i64_w, i32_w]
      rfl
    refine pure_ (i := 5) (N := some 13) (v := ?_) (a' := ?_) #[true, true, true, true, true, true, false, false, false, false] rfl rfl z6_3 (fun _ _ _ h => h) (Or.inl ⟨by rfl, ?_⟩) ?_ ?_
    rotate_left
    · intro w'
      go_simp
      with_reducible rfl
    rotate_left
    · simp only [Act.put, List.setIfInBounds_toArray, List.set_cons_zero, List.set_cons_succ, i64_w, i32_w]
      rfl
    refine one_ (i := 6) (N := some 14) #[true, true, true, true, true, true, true, false, false, false] rfl rfl z6_3 z6_9 (fun K hK => ?_)
    refine goes_ Try.func71 z6_3 rfl #[.slice A3 l3.length c3, .int .i64 m, .int .i64 (wrap64 (at_ + n))] (by rfl) rfl rfl (by (try simp only [List.map_toArray, List.map_cons, List.map_nil]); first | done | rfl) ?_
    refine (impl_ReadSensor.calls A3 c3 l3 m (wrap64 (at_ + n)) y w.drew HR3.out HC3.out H1.out).mono ?_
    rintro e w' ⟨rfl, ⟨nd, rfl⟩⟩
    refine ⟨_, rfl, ?_⟩
    refine hK _ _ ⟨(blk_cell (BQ.out) 0).trans rfl, (blk_cell (BR.out) 0).trans rfl, (blk_cell (BA.out) 0).trans rfl⟩ (fun hHeld => ?_)
    clear hK K
    refine norm_ (a' := ?_) ?_ ?_
    rotate_left
    · show Act.put _ (some 14) _ = _
      simp only [Act.put, List.setIfInBounds_toArray, List.set_cons_zero, List.set_cons_succ, i64_w, i32_w]
      rfl
    refine one_ (i := 7) (N := some 15) #[true, true, true, true, true, true, true, true, false, false] rfl rfl z6_3 z6_9 (fun K hK => ?_)
    refine value_ (w1 := ?_) (v := ?_) (by rfl) rfl ?_ ?_
    rotate_left 2
    · go_simp
      constructor
      · rfl
      · rfl
    refine hK _ _ ⟨(blk_cell (blk_alloc (w := w.drew.drewN nd) BQ.out _) 0).trans rfl, (blk_cell (blk_alloc (w := w.drew.drewN nd) BR.out _) 0).trans rfl, (blk_cell (blk_alloc (w := w.drew.drewN nd) BA.out _) 0).trans rfl⟩ (fun hHeld => ?_)
    clear hK K
    refine norm_ (a' := ?_) ?_ ?_
    rotate_left
    · show Act.put _ (some 15) _ = _
      simp only [Act.put, List.setIfInBounds_toArray, List.set_cons_zero, List.set_cons_succ, i64_w, i32_w]
      rfl
    refine one_ (i := 8) (N := some 16) #[true, true, true, true, true, true, true, true, true, false] rfl rfl z6_3 z6_9 (fun K hK => ?_)
    refine Kd.R_append_step (w0 := w) (Kd.int .i64) 0 (by rfl) (.tmp 8) (.tmp 15) 28 3 (.int .i64 0) 8 rfl Try.underlying28 info3 rfl z6_9 z6_9 (.slice A0 z.length c0) z y [.int .i64 y] (fun _ => True) (fun _ => False) rfl rfl rfl (fun _ hk => hk.elim) (fun _ _ => trivial) (RZ.out.to_R (fun _ _ => Nat.zero_le _) (fun _ _ => trivial)) (by repeat (first | exact Below.refl _ _ | apply pw_below_drewN | apply below_drew1)) (Nat.zero_le _) (by have := HL.out; omega) ?_
    intro v1 w5 ho5 hb5 hg5 hat5
    obtain ⟨B5, d5, e5⟩ := Kd.R_slice ho5
    rw [List.length_append, List.length_singleton] at e5
    subst e5
    have R5 := Aside0.mk (Sep.rowI.of_R ho5)
    have HG5 : Aside0 (w.grownBy w5 (Value.slice A0 z.length c0).ownBlock) := ⟨⟨hg5.os, hg5.tape, hg5.output, hg5.size, hg5.block⟩⟩
    have HA5 : Aside0 ((Value.slice B5 (z.length + 1) d5).ownBlock = (Value.slice A0 z.length c0).ownBlock ∨ ∃ b, (Value.slice B5 (z.length + 1) d5).ownBlock = some b ∧ w.heap.size ≤ b) := ⟨hat5⟩
    have BQ5 := Aside0.mk (blk_grown (w := w) BQ.out HG5.out (fun h => NE.out.1 h.symm))
    have BR5 := Aside0.mk (blk_grown (w := w) BR.out HG5.out (fun h => NE.out.2.1 h.symm))
    have BA5 := Aside0.mk (blk_grown (w := w) BA.out HG5.out (fun h => NE.out.2.2.1 h.symm))
    clear ho5 hb5 hg5 hat5
    refine hK _ _ ⟨(blk_cell (BQ5.out) 0).trans rfl, (blk_cell (BR5.out) 0).trans rfl, (blk_cell (BA5.out) 0).trans rfl⟩ (fun hHeld => ?_)
    clear hK K
    refine norm_ (a' := ?_) ?_ ?_
    rotate_left
    · show Act.put _ (some 16) _ = _
      simp only [Act.put, List.setIfInBounds_toArray, List.set_cons_zero, List.set_cons_succ, i64_w, i32_w]
      rfl
    refine last_ (i := 9) (N := none) #[true, true, true, true, true, true, true, true, true, true] rfl rfl z6_3 z6_9 (fun K hK => ?_)
    have hQ5 : w5.cell? ⟨gq, 0, none⟩ = some (.slice A0 z.length c0) := (blk_cell BQ5.out 0).trans rfl
    have hfQ := blk_frozen BQ5.out 0
    refine skip_ (w1 := ?_) (by rfl) rfl ?_ ?_
    rotate_left
    · go_simp
      rfl
    refine hK _ _ ?_
    clear hK K
    refine done_ z6_3 ?_
    have R6 : Aside0 (Sep.rowI 3 (w5.setCell ⟨gq, 0, none⟩ (.slice B5 (z.length + 1) d5)) (.slice B5 (z.length + 1) d5) (z ++ [y])) := ⟨R5.out.keep (fun k hk => Below.heap_setCell _ _ _ k (R5.out.ne BQ5.out z6_9 k hk))⟩
    have BQ6 : Aside0 ((w5.setCell ⟨gq, 0, none⟩ (.slice B5 (z.length + 1) d5)).heap[gq]? = some (.cells #[.slice B5 (z.length + 1) d5] 28 (0, 0))) := ⟨blk_put BQ5.out 0 _ rfl⟩
    have FAR : Aside0 (∀ k, k ≠ gq → (w5.setCell ⟨gq, 0, none⟩ (.slice B5 (z.length + 1) d5)).heap[k]? = w5.heap[k]?) := ⟨fun k hk => Below.heap_setCell _ _ _ k hk⟩
    have IO : Aside0 ((w5.setCell ⟨gq, 0, none⟩ (.slice B5 (z.length + 1) d5)).os = w.os ∧ (w5.setCell ⟨gq, 0, none⟩ (.slice B5 (z.length + 1) d5)).tape = w.tape ∧ (w5.setCell ⟨gq, 0, none⟩ (.slice B5 (z.length + 1) d5)).output = w.output ∧ w.heap.size ≤ (w5.setCell ⟨gq, 0, none⟩ (.slice B5 (z.length + 1) d5)).heap.size) := ⟨HG5.out.os, HG5.out.tape, HG5.out.output, by have := HG5.out.size; simp only [World.setCell, Array.size_modify]; exact this⟩
    generalize w5.setCell ⟨gq, 0, none⟩ (.slice B5 (z.length + 1) d5) = w6 at *
    obtain ⟨g5, e1, -, hcell, -, -⟩ := R6.out.at_ n (of_eq_true p1) (by rw [List.length_append, List.length_singleton]; have := HN.out; push_cast; omega)
    subst e1
    have hQ6 : w6.cell? ⟨gq, 0, none⟩ = some (.slice (some ⟨g5, 0, none⟩) (z.length + 1) d5) := (blk_cell BQ6.out 0).trans rfl
    have p2 : (n < (z.length : Int) + 1) = True := eq_true HN.out
    clear hHeld
    go_wp2
    go_ret
    have LT : w0.heap.size ≤ w.heap.size := Nat.le_trans NE.out.2.2.2.2.2.1 (Nat.le_of_lt (blk_lt BQ.out))
    have BR6 : w6.heap[gr]? = some (.cells #[.slice A3 l3.length c3] 28 (0, 0)) := (FAR.out gr (fun h => NE.out.2.2.2.1 h.symm)).trans BR5.out
    have BA6 : w6.heap[ga]? = some (.cells #[.int .i64 at_] 3 (0, 0)) := (FAR.out ga (fun h => NE.out.2.2.2.2.1 h.symm)).trans BA5.out
    have HK : ∀ k, k < w.heap.size → k ≠ gq → (Value.slice A0 z.length c0).ownBlock ≠ some k → w6.heap[k]? = w.heap[k]? := fun k hk h1 h2 => (FAR.out k h1).trans (HG5.out.block k hk (fun h => h2 h.symm))
    have FR : ∀ k, (Value.slice (some ⟨g5, 0, none⟩) (z.length + 1) d5).ownBlock = some k → (Value.slice A0 z.length c0).ownBlock = some k ∨ w.heap.size ≤ k := fun k hk => HA5.out.elim (fun h => .inl (h.symm.trans hk)) (fun h => by
      obtain ⟨b, h1, h2⟩ := h
      rw [hk] at h1
      cases h1
      exact .inr h2)
    have fresh : ∀ g, g < w.heap.size → (Value.slice A0 z.length c0).ownBlock ≠ some g → (Value.slice (some ⟨g5, 0, none⟩) (z.length + 1) d5).ownBlock ≠ some g := fun g hg h1 h2 => (FR g h2).elim h1 (fun h => by omega)
    refine ⟨rfl, fun k => k = gq ∨ k = gr ∨ k = ga ∨ (Value.slice (some ⟨g5, 0, none⟩) (z.length + 1) d5).ownBlock = some k, ⟨_, ⟨BQ6.out, BR6, BA6⟩, R6.out, ⟨fresh gq (blk_lt BQ.out) NE.out.1, fresh gr (blk_lt BR.out) NE.out.2.1, fresh ga (blk_lt BA.out) NE.out.2.2.1, NE.out.2.2.2.1, NE.out.2.2.2.2.1, NE.out.2.2.2.2.2.1, NE.out.2.2.2.2.2.2.1, NE.out.2.2.2.2.2.2.2.1, fun k hk => (FR k hk).elim (NE.out.2.2.2.2.2.2.2.2 k) (fun h => Nat.le_trans LT h)⟩, fun k => Iff.rfl, fun k hk => ?_⟩, ⟨IO.out.2.2.2, fun k hk hn => ?_⟩, fun k hk => ?_, IO.out.1, IO.out.2.1, IO.out.2.2.1⟩
    · rw [HK k (Nat.lt_of_lt_of_le hk LT) (fun h => by have := NE.out.2.2.2.2.2.1; omega) (fun h => by have := NE.out.2.2.2.2.2.2.2.2 k h; omega)]
      exact OLD.out k hk
    · exact HK k hk (fun h => hn ((HF.out k).2 (.inl h))) (fun h => hn ((HF.out k).2 (.inr (.inr (.inr h)))))
    · rcases hk with h | h | h | h
      · exact .inl ((HF.out k).2 (.inl h))
      · exact .inl ((HF.out k).2 (.inr (.inl h)))
      · exact .inl ((HF.out k).2 (.inr (.inr (.inl h))))
      · exact (FR k h).imp (fun h1 => (HF.out k).2 (.inr (.inr (.inr h1)))) id
  · rw [if_neg c] at h2
    cases h2
def impl_SensesOf.f (k : Nat) (l0_0 : List S34) (a1 : Int) (l2 : List Int) (l3 : List Int) (a4 : Int) : Option (List Int) :=
  (impl_hasTask.f k l0_0 a1).bind fun t => if t = true then (impl_VarsOk.f l2).bind fun t => if t = true then (impl_isReading.f l3 a4).bind fun t => if t = true then (impl_effect.f (liveS l3 a4) k l0_0 a1 l2 []).bind fun r => some r.2
    else some [] else some [] else some []
theorem impl_SensesOf.mono : ∀ a0 a1 a2 a3 a4 k, LeO (impl_SensesOf.f k a0 a1 a2 a3 a4) (impl_SensesOf.f (k + 1) a0 a1 a2 a3 a4) := by
  intro a0 a1 a2 a3 a4 k
  unfold impl_SensesOf.f
  exact LeO.bind (impl_hasTask.mono _ _ k) (fun _ => LeO.ite (LeO.bind (LeO.refl _) (fun _ => LeO.ite (LeO.bind (LeO.refl _) (fun _ => LeO.ite (LeO.bind (impl_effect.mono _ _ _ _ _ k) (fun _ => LeO.refl _)) (LeO.refl _))) (LeO.refl _))) (LeO.refl _))
set_option maxHeartbeats 8000000 in
set_option maxRecDepth 100000 in
theorem impl_SensesOf.no (k : Nat) (A0_0 : Option Addr) (c0_0 : Nat) (l0_0 : List S34) (a1 : Int) (A2 : Option Addr) (c2 : Nat) (l2 : List Int) (A3 : Option Addr) (c3 : Nat) (l3 : List Int) (a4 : Int) (b1 b2 b3 : Bool) (w : World)
    (hr0_0 : Kd.C k34 w A0_0 l0_0.length l0_0) (hc0_0 : l0_0.length ≤ c0_0) (hr2 : Kd.C (Kd.int .i64) w A2 l2.length l2) (hc2 : l2.length ≤ c2) (hr3 : Kd.C (Kd.int .i64) w A3 l3.length l3) (hc3 : l3.length ≤ c3)
    (h1 : impl_hasTask.f k l0_0 a1 = some b1) (h2 : b1 = true → impl_VarsOk.f l2 = some b2) (h3 : b1 = true → b2 = true → impl_isReading.f l3 a4 = some b3) (hn : (b1 && b2 && b3) = false) :
    Calls Try.prog 23 #[.agg #[.slice A0_0 l0_0.length c0_0], .int .i64 a1, .slice A2 l2.length c2, .slice A3 l3.length c3, .int .i64 a4] w fun e w' => e = .returned (.slice none 0 0) ∧ Below w.heap.size w w' := by
  have HR0 := Aside0.mk hr0_0
  have HC0 := Aside0.mk hc0_0
  have HR2 := Aside0.mk hr2
  have HC2 := Aside0.mk hc2
  have HR3 := Aside0.mk hr3
  have HC3 := Aside0.mk hc3
  have T1 := Aside0.mk h1
  have T2 := Aside0.mk h2
  have T3 := Aside0.mk h3
  clear hr0_0 hc0_0 hr2 hc2 hr3 hc3 h1 h2 h3
  cases b1 <;> cases b2 <;> cases b3 <;> first | exact absurd hn z6_9 | skip
  all_goals
    clear hn
    go_enter Try.func23, Try.ntmps23
    go_wp2_with (first | ((with_reducible refine gate_dst (N := 5) rfl ?_); refine box_event ?hg (N := 5) ?hd (cs := #[.slice A0_0 l0_0.length c0_0]) (t := 26) ?hr ?_; (case hd => rfl); (case hg => rfl); (case hr => exact z6_6); intro gp hgp w1 hp hb1; have HB1 := Aside0.mk hb1; have BP1 := Aside0.mk hp; clear hgp hp hb1) | ((with_reducible refine gate_dst (N := 8) rfl ?_); refine box_event ?hg (N := 8) ?hd (cs := #[.slice A3 l3.length c3]) (t := 28) ?hr ?_; (case hd => rfl); (case hg => rfl); (case hr => exact z6_6); intro gr hgr w2 hr hb2; have HB2 := Aside0.mk (below_step HB1.out hb2); have BP2 := Aside0.mk (blk_below BP1.out hb2); have BR2 := Aside0.mk hr; have GR : Aside0 (w.heap.size ≤ gr) := ⟨by rw [hgr]; exact HB1.out.size⟩; clear hgr hr hb2) | ((with_reducible refine gate_dst (N := 9) rfl ?_); refine box_event ?hg (N := 9) ?hd (cs := #[.int .i64 a4]) (t := 3) ?hr ?_; (case hd => rfl); (case hg => rfl); (case hr => exact z6_6); intro ga hga w3 ha hb3; have HB3 := Aside0.mk (below_step HB2.out hb3); have BP3 := Aside0.mk (blk_below BP2.out hb3); have BR3 := Aside0.mk (blk_below BR2.out hb3); have BA3 := Aside0.mk ha; have GA : Aside0 (w.heap.size ≤ ga) := ⟨by rw [hga]; exact HB2.out.size⟩; clear hga ha hb3; have hP3 : w3.cell? ⟨gp, 0, none⟩ = some (.slice A0_0 l0_0.length c0_0) := (blk_cell BP3.out 0).trans rfl; have hR3 : w3.cell? ⟨gr, 0, none⟩ = some (.slice A3 l3.length c3) := (blk_cell BR3.out 0).trans rfl; have hA3 : w3.cell? ⟨ga, 0, none⟩ = some (.int .i64 a4) := (blk_cell BA3.out 0).trans rfl) | (go_at_call 60; (with_reducible refine (impl_hasTask.calls k _ _ l0_0 a1 _ _ ?_ HC0.out T1.out).mono ?_); (exact Kd.C_below HR0.out HB3.out); rintro e w4 ⟨rfl, hb4⟩; have HB4 := Aside0.mk (below_step HB3.out hb4); have BP4 := Aside0.mk (blk_below BP3.out hb4); have BR4 := Aside0.mk (blk_below BR3.out hb4); have BA4 := Aside0.mk (blk_below BA3.out hb4); clear hb4; have hP4 : w4.cell? ⟨gp, 0, none⟩ = some (.slice A0_0 l0_0.length c0_0) := (blk_cell BP4.out 0).trans rfl; have hR4 : w4.cell? ⟨gr, 0, none⟩ = some (.slice A3 l3.length c3) := (blk_cell BR4.out 0).trans rfl; have hA4 : w4.cell? ⟨ga, 0, none⟩ = some (.int .i64 a4) := (blk_cell BA4.out 0).trans rfl) | (go_at_call 61; (with_reducible refine (impl_VarsOk.calls _ _ l2 _ _ ?_ HC2.out (T2.out (by simp))).mono ?_); (exact Kd.C_below HR2.out HB4.out); rintro e w' ⟨rfl, ⟨nd, rfl⟩⟩) | (go_at_call 69; (with_reducible refine (impl_isReading.calls _ _ l3 a4 _ _ ?_ HC3.out (T3.out (by simp) (by simp))).mono ?_); (exact Kd.C_below HR3.out (by repeat (first | exact HB4.out | apply pw_below_drewN | apply below_drew1))); rintro e w' ⟨rfl, ⟨nd2, rfl⟩⟩) | fail)
    go_ret
    exact ⟨rfl, by repeat (first | exact HB4.out | apply pw_below_drewN | apply below_drew1)⟩
set_option maxHeartbeats 8000000 in
set_option maxRecDepth 100000 in
theorem impl_SensesOf.calls (k : Nat) (A0_0 : Option Addr) (c0_0 : Nat) (l0_0 : List S34) (a1 : Int) (A2 : Option Addr) (c2 : Nat) (l2 : List Int) (A3 : Option Addr) (c3 : Nat) (l3 : List Int) (a4 : Int) (r : List Int) (w : World)
    (hr0_0 : Kd.C k34 w A0_0 l0_0.length l0_0) (hc0_0 : l0_0.length ≤ c0_0) (hr2 : Kd.C (Kd.int .i64) w A2 l2.length l2) (hc2 : l2.length ≤ c2) (hr3 : Kd.C (Kd.int .i64) w A3 l3.length l3) (hc3 : l3.length ≤ c3) (h : impl_SensesOf.f k l0_0 a1 l2 l3 a4 = some r) :
    Calls Try.prog 23 #[.agg #[.slice A0_0 l0_0.length c0_0], .int .i64 a1, .slice A2 l2.length c2, .slice A3 l3.length c3, .int .i64 a4] w fun e w' => ∃ v0_ : Value, e = .returned (v0_) ∧ Kd.R (Kd.int .i64) 3 w' w.heap.size (fun _ => True) v0_ r ∧ Below w.heap.size w w' := by
  have no : ∀ (b1 b2 b3 : Bool), impl_hasTask.f k l0_0 a1 = some b1 → (b1 = true → impl_VarsOk.f l2 = some b2) → (b1 = true → b2 = true → impl_isReading.f l3 a4 = some b3) → (b1 && b2 && b3) = false → some ([] : List Int) = some r →
      Calls Try.prog 23 #[.agg #[.slice A0_0 l0_0.length c0_0], .int .i64 a1, .slice A2 l2.length c2, .slice A3 l3.length c3, .int .i64 a4] w fun e w' => ∃ v0_ : Value, e = .returned (v0_) ∧ Kd.R (Kd.int .i64) 3 w' w.heap.size (fun _ => True) v0_ r ∧ Below w.heap.size w w' := fun b1 b2 b3 h1 h2 h3 hn e => by
    obtain rfl := Option.some.inj e
    refine (impl_SensesOf.no k A0_0 c0_0 l0_0 a1 A2 c2 l2 A3 c3 l3 a4 b1 b2 b3 w hr0_0 hc0_0 hr2 hc2 hr3 hc3 h1 h2 h3 hn).mono ?_
    rintro e w' ⟨rfl, hb⟩
    exact ⟨_, rfl, Kd.R_nil _ _ _ _ _, hb⟩
  unfold impl_SensesOf.f at h
  obtain ⟨t1, h1, h⟩ := Option.bind_eq_some_iff.mp h
  cases t1 with
  | false => exact no false false false h1 (by simp) (by simp) rfl h
  | true =>
    rw [if_pos rfl] at h
    obtain ⟨t2, h2, h⟩ := Option.bind_eq_some_iff.mp h
    cases t2 with
    | false => exact no true false false h1 (fun _ => h2) (by simp) rfl h
    | true =>
      rw [if_pos rfl] at h
      obtain ⟨t3, h3, h⟩ := Option.bind_eq_some_iff.mp h
      cases t3 with
      | false => exact no true true false h1 (fun _ => h2) (fun _ _ => h3) rfl h
      | true =>
        rw [if_pos rfl] at h
        obtain ⟨⟨⟨s1, s2, s3, s4⟩, s5⟩, h4, h5⟩ := Option.bind_eq_some_iff.mp h
        obtain rfl := Option.some.inj h5
        have HR0 := Aside0.mk hr0_0
        have HC0 := Aside0.mk hc0_0
        have HR2 := Aside0.mk hr2
        have HC2 := Aside0.mk hc2
        have HR3 := Aside0.mk hr3
        have HC3 := Aside0.mk hc3
        have T1 := Aside0.mk h1
        have T2 := Aside0.mk (fun _ : true = true => h2)
        have T3 := Aside0.mk (fun _ _ : true = true => h3)
        have H4 := Aside0.mk h4
        clear h h4 h5 no hr0_0 hc0_0 hr2 hc2 hr3 hc3 h1 h2 h3
        go_enter Try.func23, Try.ntmps23
        go_wp2_with (first | ((with_reducible refine gate_dst (N := 5) rfl ?_); refine box_event ?hg (N := 5) ?hd (cs := #[.slice A0_0 l0_0.length c0_0]) (t := 26) ?hr ?_; (case hd => rfl); (case hg => rfl); (case hr => exact z6_6); intro gp hgp w1 hp hb1; have HB1 := Aside0.mk hb1; have BP1 := Aside0.mk hp; clear hgp hp hb1) | ((with_reducible refine gate_dst (N := 8) rfl ?_); refine box_event ?hg (N := 8) ?hd (cs := #[.slice A3 l3.length c3]) (t := 28) ?hr ?_; (case hd => rfl); (case hg => rfl); (case hr => exact z6_6); intro gr hgr w2 hr hb2; have HB2 := Aside0.mk (below_step HB1.out hb2); have BP2 := Aside0.mk (blk_below BP1.out hb2); have BR2 := Aside0.mk hr; have GR : Aside0 (w.heap.size ≤ gr) := ⟨by rw [hgr]; exact HB1.out.size⟩; clear hgr hr hb2) | ((with_reducible refine gate_dst (N := 9) rfl ?_); refine box_event ?hg (N := 9) ?hd (cs := #[.int .i64 a4]) (t := 3) ?hr ?_; (case hd => rfl); (case hg => rfl); (case hr => exact z6_6); intro ga hga w3 ha hb3; have HB3 := Aside0.mk (below_step HB2.out hb3); have BP3 := Aside0.mk (blk_below BP2.out hb3); have BR3 := Aside0.mk (blk_below BR2.out hb3); have BA3 := Aside0.mk ha; have GA : Aside0 (w.heap.size ≤ ga) := ⟨by rw [hga]; exact HB2.out.size⟩; clear hga ha hb3; have hP3 : w3.cell? ⟨gp, 0, none⟩ = some (.slice A0_0 l0_0.length c0_0) := (blk_cell BP3.out 0).trans rfl; have hR3 : w3.cell? ⟨gr, 0, none⟩ = some (.slice A3 l3.length c3) := (blk_cell BR3.out 0).trans rfl; have hA3 : w3.cell? ⟨ga, 0, none⟩ = some (.int .i64 a4) := (blk_cell BA3.out 0).trans rfl) | (go_at_call 60; (with_reducible refine (impl_hasTask.calls k _ _ l0_0 a1 _ _ ?_ HC0.out T1.out).mono ?_); (exact Kd.C_below HR0.out HB3.out); rintro e w4 ⟨rfl, hb4⟩; have HB4 := Aside0.mk (below_step HB3.out hb4); have BP4 := Aside0.mk (blk_below BP3.out hb4); have BR4 := Aside0.mk (blk_below BR3.out hb4); have BA4 := Aside0.mk (blk_below BA3.out hb4); clear hb4; have hP4 : w4.cell? ⟨gp, 0, none⟩ = some (.slice A0_0 l0_0.length c0_0) := (blk_cell BP4.out 0).trans rfl; have hR4 : w4.cell? ⟨gr, 0, none⟩ = some (.slice A3 l3.length c3) := (blk_cell BR4.out 0).trans rfl; have hA4 : w4.cell? ⟨ga, 0, none⟩ = some (.int .i64 a4) := (blk_cell BA4.out 0).trans rfl) | (go_at_call 61; (with_reducible refine (impl_VarsOk.calls _ _ l2 _ _ ?_ HC2.out (T2.out (by simp))).mono ?_); (exact Kd.C_below HR2.out HB4.out); rintro e w' ⟨rfl, ⟨nd, rfl⟩⟩) | (go_at_call 69; (with_reducible refine (impl_isReading.calls _ _ l3 a4 _ _ ?_ HC3.out (T3.out (by simp) (by simp))).mono ?_); (exact Kd.C_below HR3.out (by repeat (first | exact HB4.out | apply pw_below_drewN | apply below_drew1))); rintro e w' ⟨rfl, ⟨nd2, rfl⟩⟩) | ((with_reducible refine gate_dst (N := 11) rfl ?_); refine box_event ?hg (N := 11) ?hd (cs := #[.slice none 0 0]) (t := 28) ?hr ?_; (case hd => rfl); (case hg => rfl); (case hr => exact z6_6); intro gq hgq w7 hq hb7; have HB7 : Aside0 (Below w4.heap.size w4 w7) := ⟨below_step z6_5 hb7⟩; have BQ7 := Aside0.mk hq; have GQ : Aside0 (w4.heap.size + 1 ≤ gq) := ⟨by rw [hgq]; simp [World.alloc]⟩; have BN7 : Aside0 (w7.heap[w4.heap.size]? = some (.cells #[] 3 (0, 0))) := ⟨by have h_ := blk_below (blk_new (w4.drewN (nd + nd2)) (.cells #[] 3 (0, 0))) hb7; exact h_⟩; clear hgq hq hb7; have hQ7 : w7.cell? ⟨gq, 0, none⟩ = some (.slice none 0 0) := (blk_cell BQ7.out 0).trans rfl; have hQf := blk_frozen BQ7.out 0; have hP7 : w7.cell? ⟨gp, 0, none⟩ = some (.slice A0_0 l0_0.length c0_0) := (blk_cell (blk_below BP4.out HB7.out) 0).trans rfl) | ((with_reducible refine gate_store (t := 28) (p := 11) rfl ?_); refine store_event (t := 28) (p := 11) (v := ?vo1_) (w1 := w7.setCell ⟨gq, 0, none⟩ (.slice (some ⟨w4.heap.size, 0, none⟩) 0 0)) ?hg ?ho ?hn ?hr ?_; (case ho => rfl); (case hg => rfl); (case hn => rfl); (case hr => exact z6_6); intro w8 hw; have KW : Aside0 (∀ k, k ≠ gq → w8.heap[k]? = w7.heap[k]?) := ⟨by rw [hw]; exact fun k hk => Below.heap_setCell _ _ _ k hk⟩; have IO8 : Aside0 (w8.os = w7.os ∧ w8.tape = w7.tape ∧ w8.output = w7.output ∧ w8.heap.size = w7.heap.size) := ⟨by rw [hw]; exact ⟨rfl, rfl, rfl, by simp [World.setCell]⟩⟩; have BQ8 : Aside0 (w8.heap[gq]? = some (.cells #[.slice (some ⟨w4.heap.size, 0, none⟩) 0 0] 28 (0, 0))) := ⟨by rw [hw]; exact blk_put BQ7.out 0 _ rfl⟩; clear hw; have hP8 : w8.cell? ⟨gp, 0, none⟩ = some (.slice A0_0 l0_0.length c0_0) := (blk_cell ((KW.out gp (fun h => by have := blk_lt BP4.out; have := GQ.out; omega)).trans (blk_below BP4.out HB7.out)) 0).trans rfl) | fail)
        have LT : w.heap.size ≤ w4.heap.size := HB4.out.size
        have L8 : w4.heap.size ≤ w8.heap.size := by rw [IO8.out.2.2.2]; exact HB7.out.size
        have HB8 : Aside0 (Below w.heap.size w w8) := ⟨IO8.out.1.trans (HB7.out.os.trans HB4.out.os), IO8.out.2.1.trans (HB7.out.tape.trans HB4.out.tape), IO8.out.2.2.1.trans (HB7.out.output.trans HB4.out.output), Nat.le_trans LT L8, fun k hk => (KW.out k (by have := GQ.out; omega)).trans ((HB7.out.block k (by omega)).trans (HB4.out.block k hk))⟩
        have BR8 : Aside0 (w8.heap[gr]? = some (.cells #[.slice A3 l3.length c3] 28 (0, 0))) := ⟨(KW.out gr (by have := blk_lt BR4.out; have := GQ.out; omega)).trans (blk_below BR4.out HB7.out)⟩
        have BA8 : Aside0 (w8.heap[ga]? = some (.cells #[.int .i64 a4] 3 (0, 0))) := ⟨(KW.out ga (by have := blk_lt BA4.out; have := GQ.out; omega)).trans (blk_below BA4.out HB7.out)⟩
        have BN8 : Aside0 (w8.heap[w4.heap.size]? = some (.cells #[] 3 (0, 0))) := ⟨(KW.out _ (by have := GQ.out; omega)).trans BN7.out⟩
        have R8 : Sep.rowI 3 w8 (.slice (some ⟨w4.heap.size, 0, none⟩) 0 0) [] := Kd.R_of_own ⟨by simp [encs], .inr ⟨_, 0, #[], rfl, Nat.zero_le _, BN8.out, Nat.le_refl _, Nat.zero_le _, by simp, by simp [encs]⟩⟩ (fun _ hk => hk)
        have NE : gq ≠ gr ∧ gq ≠ ga ∧ w.heap.size ≤ gq ∧ w4.heap.size ≠ gq ∧ w4.heap.size ≠ gr ∧ w4.heap.size ≠ ga := by
          have := blk_lt BR4.out
          have := blk_lt BA4.out
          have := GQ.out
          omega
        have hj : liveP w A3 l3.length c3 a4 gq gr ga [] (fun k => k = gq ∨ k = gr ∨ k = ga ∨ k = w4.heap.size) w8 := by
          refine ⟨.slice (some ⟨w4.heap.size, 0, none⟩) 0 0, ⟨BQ8.out, BR8.out, BA8.out⟩, R8, ⟨fun h => NE.2.2.2.1 (Option.some.inj h), fun h => NE.2.2.2.2.1 (Option.some.inj h), fun h => NE.2.2.2.2.2 (Option.some.inj h), NE.1, NE.2.1, NE.2.2.1, GR.out, GA.out, ?_⟩, ?_, fun k hk => HB8.out.block k hk⟩
          · intro k h
            obtain rfl := Option.some.inj h
            exact LT
          · intro k
            show _ ↔ k = gq ∨ k = gr ∨ k = ga ∨ some w4.heap.size = some k
            rw [Option.some.injEq, eq_comm (a := w4.heap.size)]
        have hF : ∀ k, (k = gq ∨ k = gr ∨ k = ga ∨ k = w4.heap.size) → w.heap.size ≤ k := by
          have := GR.out
          have := GA.out
          rintro k (rfl | rfl | rfl | rfl)
          · exact NE.2.2.1
          · exact GR.out
          · exact GA.out
          · exact LT
        refine (impl_effect.calls (liveS l3 a4) k (liveP w A3 l3.length c3 a4 gq gr ga) 70 _ (fun args w => enters_ Try.func70 z6_3 z6_3 args w) w w8 (liveP_loc w A3 l3.length c3 a4 gq gr ga) (fun z n m z' y F w' _ hs hi => liveS_calls w A3 c3 l3 a4 gq gr ga HR3.out HC3.out z n m z' y F w' hs hi) A0_0 c0_0 l0_0 a1 A2 c2 l2 [] s1 s2 s3 s4 s5 _ HB8.out HR0.out HC0.out HR2.out HC2.out hj H4.out).mono ?_
        rintro e w9 ⟨v0, v1, rfl, -, -, F', hJ', hA⟩
        have HB9 := Aside0.mk (hA.to_below (w0 := w) hF HB8.out)
        obtain ⟨v, ⟨i1, _, _⟩, i4, i5, _, _⟩ := hJ'
        have R9 := Aside0.mk i4
        have NE9 := Aside0.mk i5.2.2.2.2.2.2.2.2
        have hQ9 : w9.cell? ⟨gq, 0, none⟩ = some v := (blk_cell i1 0).trans rfl
        clear hj hF NE R8 hA i1 i4 i5 LT L8
        obtain ⟨A9, c9, e9, -, -⟩ := R9.out.open_
        subst e9
        go_wp2
        go_ret
        exact ⟨_, rfl, R9.out.to_R NE9.out (fun _ _ => trivial), HB9.out⟩

/-! ### laws_sameInts: function 49 -/
def laws_sameInts.l0 : Nat → List Int → List Int → Int → Option (Bool)
  | 0, _, _, _ => none
  | k + 1, x0, x1, x5 => if x5 < (x0.length : Int) then (if 0 ≤ x5 then (if x5 < (x1.length : Int) then (if (rd x0 x5) = (rd x1 x5) then (laws_sameInts.l0 k x0 x1 (wrap64 (x5 + 1))) else (some false)) else (none)) else (none)) else (some true)
def laws_sameInts.f (k : Nat) (l0 : List Int) (l1 : List Int) : Option (Bool) := if (l0.length : Int) = (l1.length : Int) then (laws_sameInts.l0 k l0 l1 0) else (some false)
theorem laws_sameInts.mono_l : ∀ k, (∀ y0 y1 y2, LeO (laws_sameInts.l0 k y0 y1 y2) (laws_sameInts.l0 (k + 1) y0 y1 y2))
  | 0 => fun _ _ _ r h => by simp [laws_sameInts.l0] at h
  | k + 1 => by
    have ih0 := laws_sameInts.mono_l k
    · intro y0 y1 y2
      unfold laws_sameInts.l0
      repeat' first
      | (with_reducible exact ih0 _ _ _)
      | (with_reducible exact LeO.refl _)
      | (with_reducible exact LeO.none _)
      | (with_reducible refine LeO.ite ?_ ?_)
      | (with_reducible refine LeO.bind ?_ (fun _ => ?_))
      | exact ih0 _ _ _
      | exact LeO.none _
      | refine LeO.ite ?_ ?_
      | refine LeO.bind ?_ (fun _ => ?_)
theorem laws_sameInts.mono : ∀ a0 a1 k, LeO (laws_sameInts.f k a0 a1) (laws_sameInts.f (k + 1) a0 a1) := by
  intro a0 a1 k
  have ih0 := laws_sameInts.mono_l k
  unfold laws_sameInts.f
  repeat' first
      | (with_reducible exact ih0 _ _ _)
      | (with_reducible exact LeO.refl _)
      | (with_reducible exact LeO.none _)
      | (with_reducible refine LeO.ite ?_ ?_)
      | (with_reducible refine LeO.bind ?_ (fun _ => ?_))
      | exact ih0 _ _ _
      | exact LeO.none _
      | refine LeO.ite ?_ ?_
      | refine LeO.bind ?_ (fun _ => ?_)
set_option maxHeartbeats 8000000 in
set_option maxRecDepth 100000 in
theorem laws_sameInts.calls (k : Nat) (A0 : Option Addr) (c0 : Nat) (l0 : List Int) (A1 : Option Addr) (c1 : Nat) (l1 : List Int) (r : Bool) (w : World) (hr0 : Kd.C (Kd.int .i64) w A0 l0.length l0) (hc0 : l0.length ≤ c0) (hr1 : Kd.C (Kd.int .i64) w A1 l1.length l1) (hc1 : l1.length ≤ c1) (h : laws_sameInts.f k l0 l1 = some r) :
    Calls Try.prog 49 #[.slice A0 l0.length c0, .slice A1 l1.length c1] w fun e w' => e = .returned (.bool r) ∧ Drawn0 w w' := by
  have HR0 := Aside0.mk hr0
  have HC0 := Aside0.mk hc0
  clear hr0 hc0
  have HR1 := Aside0.mk hr1
  have HC1 := Aside0.mk hc1
  clear hr1 hc1
  have H : (if (l0.length : Int) = (l1.length : Int) then (laws_sameInts.l0 k l0 l1 0) else (some false)) = some r := h
  clear h
  by_cases c3 : (l0.length : Int) = (l1.length : Int)
  · rw [if_pos c3] at H
    have c3b0 : ((l0.length : Int) == (l1.length : Int)) = true := beq_iff_eq.mpr c3
    have c3b1 : ((l0.length : Int) != (l1.length : Int)) = false := bne_eq_false_iff_eq.mpr c3
    have c3b2 : (l0.length == l1.length) = true := by first | simpa using c3 | (simp at c3 ⊢; omega)
    clear c3
    have H' := Aside0.mk H
    clear H
    go_enter Try.func49, Try.ntmps49
    go_wp2
    repeat (go_quiet (fail); try go_wp2)
    go_loopg [5] k (fun kq v5 w' => ∃ (x5_1 : Int), v5 = .int .i64 x5_1 ∧ Aside0 (laws_sameInts.l0 kq l0 l1 x5_1 = some r) ∧ Aside0 (kq ≤ k) ∧ Drawn0 w w')
    case atStart => exact ⟨(0), (by first | rfl | (simp; done) | (simp [*]; done)), H', ⟨Nat.le_refl _⟩, by repeat (first | exact Drawn0.refl _ | apply Drawn0.step)⟩
    case round =>
      clear H'
      (try clear c1); (try clear c3); (try clear c3b0); (try clear c3b1); (try clear c3b2)
      obtain ⟨x5_1, rfl, HA, HK1, ⟨m1, rfl⟩⟩ := hrel
      cases gk with
      | zero => exact absurd HA.out (by simp [laws_sameInts.l0])
      | succ k1 =>
        have H := HA.out
        clear HA
        simp only [laws_sameInts.l0] at H
        by_cases c4 : x5_1 < (l0.length : Int)
        · rw [if_pos c4] at H
          have c4b0 : decide (x5_1 < (l0.length : Int)) = true := decide_eq_true c4
          clear c4
          by_cases c5 : 0 ≤ x5_1
          · rw [if_pos c5] at H
            have c5b0 : decide (0 ≤ x5_1) = true := decide_eq_true c5
            clear c5
            by_cases c6 : x5_1 < (l1.length : Int)
            · rw [if_pos c6] at H
              have c6b0 : decide (x5_1 < (l1.length : Int)) = true := decide_eq_true c6
              clear c6
              by_cases c7 : (rd l0 x5_1) = (rd l1 x5_1)
              · rw [if_pos c7] at H
                have c7b0 : ((rd l0 x5_1) == (rd l1 x5_1)) = true := beq_iff_eq.mpr c7
                have c7b1 : ((rd l0 x5_1) != (rd l1 x5_1)) = false := bne_eq_false_iff_eq.mpr c7
                clear c7
                have H' := Aside0.mk H
                clear H
                have p395 : 0 ≤ (x5_1 : Int) := of_decide_eq_true z6_10
                have q395 : x5_1 < (l0.length : Int) := of_decide_eq_true z6_10
                obtain ⟨ad395, e395, hx395_0⟩ := Kd.at_int HR0.out x5_1 p395 q395
                cases e395
                replace p395 := eq_true p395
                replace q395 := eq_true q395
                have p396 : 0 ≤ (x5_1 : Int) := of_decide_eq_true z6_10
                have q396 : x5_1 < (l1.length : Int) := of_decide_eq_true z6_10
                obtain ⟨ad396, e396, hx396_0⟩ := Kd.at_int HR1.out x5_1 p396 q396
                cases e396
                replace p396 := eq_true p396
                replace q396 := eq_true q396
                go_wp2
                repeat (go_quiet (fail); try go_wp2)
                go_roundg k1
                case measure => have := HK1.out; omega
                case rel => exact ⟨(wrap64 (x5_1 + 1)), (by first | rfl | (simp; done) | (simp [*]; done)), H', ⟨by have := HK1.out; omega⟩, by repeat (first | exact Drawn0.refl _ | apply Drawn0.step)⟩
              · rw [if_neg c7] at H
                have c7b0 : ((rd l0 x5_1) == (rd l1 x5_1)) = false := beq_eq_false_iff_ne.mpr c7
                have c7b1 : ((rd l0 x5_1) != (rd l1 x5_1)) = true := bne_iff_ne.mpr c7
                obtain rfl := Option.some.inj H
                have p395 : 0 ≤ (x5_1 : Int) := of_decide_eq_true z6_10
                have q395 : x5_1 < (l0.length : Int) := of_decide_eq_true z6_10
                obtain ⟨ad395, e395, hx395_0⟩ := Kd.at_int HR0.out x5_1 p395 q395
                cases e395
                replace p395 := eq_true p395
                replace q395 := eq_true q395
                have p396 : 0 ≤ (x5_1 : Int) := of_decide_eq_true z6_10
                have q396 : x5_1 < (l1.length : Int) := of_decide_eq_true z6_10
                obtain ⟨ad396, e396, hx396_0⟩ := Kd.at_int HR1.out x5_1 p396 q396
                cases e396
                replace p396 := eq_true p396
                replace q396 := eq_true q396
                go_wp2
                repeat (go_quiet (fail); try go_wp2)
                go_ret
                exact ⟨by first | rfl | (simp; done) | (simp [*]; done), by repeat (first | exact Drawn0.refl _ | apply Drawn0.step)⟩
            · rw [if_neg c6] at H
              exact absurd H (by simp)
          · rw [if_neg c5] at H
            exact absurd H (by simp)
        · rw [if_neg c4] at H
          have c4b0 : decide (x5_1 < (l0.length : Int)) = false := decide_eq_false c4
          clear c4
          obtain rfl := Option.some.inj H
          go_wp2
          repeat (go_quiet (fail); try go_wp2)
          go_ret
          exact ⟨by first | rfl | (simp; done) | (simp [*]; done), by repeat (first | exact Drawn0.refl _ | apply Drawn0.step)⟩
  · rw [if_neg c3] at H
    have c3b0 : ((l0.length : Int) == (l1.length : Int)) = false := beq_eq_false_iff_ne.mpr c3
    have c3b1 : ((l0.length : Int) != (l1.length : Int)) = true := bne_iff_ne.mpr c3
    have c3b2 : (l0.length == l1.length) = false := by first | simpa using c3 | (simp at c3 ⊢; omega)
    obtain rfl := Option.some.inj H
    go_enter Try.func49, Try.ntmps49
    go_wp2
    repeat (go_quiet (fail); try go_wp2)
    go_ret
    exact ⟨by first | rfl | (simp; done) | (simp [*]; done), by repeat (first | exact Drawn0.refl _ | apply Drawn0.step)⟩

/-! ### laws_sameEffect: function 24 -/
def laws_sameEffect.f (k : Nat) (l0_0 : List Int) (l0_1 : List Int) (a0_2 : Int) (a0_3 : Int) (l1_0 : List Int) (l1_1 : List Int) (a1_2 : Int) (a1_3 : Int) : Option (Bool) := (laws_sameInts.f k l0_0 l1_0).bind fun t399 => (if t399 = true then ((laws_sameInts.f k l0_1 l1_1).bind fun t400 => (if t400 = true then (if a0_2 = a1_2 then (some (a0_3 == a1_3)) else (some false)) else (some false))) else (some false))
theorem laws_sameEffect.mono : ∀ a0 a1 a2 a3 a4 a5 a6 a7 k, LeO (laws_sameEffect.f k a0 a1 a2 a3 a4 a5 a6 a7) (laws_sameEffect.f (k + 1) a0 a1 a2 a3 a4 a5 a6 a7) := by
  intro a0 a1 a2 a3 a4 a5 a6 a7 k
  unfold laws_sameEffect.f
  repeat' first
      | (with_reducible exact laws_sameInts.mono _ _ _)
      | (with_reducible exact LeO.refl _)
      | (with_reducible exact LeO.none _)
      | (with_reducible refine LeO.ite ?_ ?_)
      | (with_reducible refine LeO.bind ?_ (fun _ => ?_))
      | exact laws_sameInts.mono _ _ _
      | exact LeO.none _
      | refine LeO.ite ?_ ?_
      | refine LeO.bind ?_ (fun _ => ?_)
set_option maxHeartbeats 8000000 in
set_option maxRecDepth 100000 in
theorem laws_sameEffect.calls (k : Nat) (A0_0 : Option Addr) (c0_0 : Nat) (l0_0 : List Int) (A0_1 : Option Addr) (c0_1 : Nat) (l0_1 : List Int) (a0_2 : Int) (a0_3 : Int) (A1_0 : Option Addr) (c1_0 : Nat) (l1_0 : List Int) (A1_1 : Option Addr) (c1_1 : Nat) (l1_1 : List Int) (a1_2 : Int) (a1_3 : Int) (r : Bool) (w : World) (hr0_0 : Kd.C (Kd.int .i64) w A0_0 l0_0.length l0_0) (hc0_0 : l0_0.length ≤ c0_0) (hr0_1 : Kd.C (Kd.int .i64) w A0_1 l0_1.length l0_1) (hc0_1 : l0_1.length ≤ c0_1) (hr1_0 : Kd.C (Kd.int .i64) w A1_0 l1_0.length l1_0) (hc1_0 : l1_0.length ≤ c1_0) (hr1_1 : Kd.C (Kd.int .i64) w A1_1 l1_1.length l1_1) (hc1_1 : l1_1.length ≤ c1_1) (h : laws_sameEffect.f k l0_0 l0_1 a0_2 a0_3 l1_0 l1_1 a1_2 a1_3 = some r) :
    Calls Try.prog 24 #[.agg #[.slice A0_0 l0_0.length c0_0, .slice A0_1 l0_1.length c0_1, .int .i64 a0_2, .int .i64 a0_3], .agg #[.slice A1_0 l1_0.length c1_0, .slice A1_1 l1_1.length c1_1, .int .i64 a1_2, .int .i64 a1_3]] w fun e w' => e = .returned (.bool r) ∧ Below w.heap.size w w' := by
  have hu37 := Try.underlying37
  have HR0_0 := Aside0.mk hr0_0
  have HC0_0 := Aside0.mk hc0_0
  clear hr0_0 hc0_0
  have HR0_1 := Aside0.mk hr0_1
  have HC0_1 := Aside0.mk hc0_1
  clear hr0_1 hc0_1
  have HR1_0 := Aside0.mk hr1_0
  have HC1_0 := Aside0.mk hc1_0
  clear hr1_0 hc1_0
  have HR1_1 := Aside0.mk hr1_1
  have HC1_1 := Aside0.mk hc1_1
  clear hr1_1 hc1_1
  have HB := Aside0.mk (Below.refl w.heap.size w)
  have H : ((laws_sameInts.f k l0_0 l1_0).bind fun t399 => (if t399 = true then ((laws_sameInts.f k l0_1 l1_1).bind fun t400 => (if t400 = true then (if a0_2 = a1_2 then (some (a0_3 == a1_3)) else (some false)) else (some false))) else (some false))) = some r := h
  clear h
  replace H := Option.bind_eq_some_iff.mp H
  obtain ⟨t399, A30, H⟩ := H
  replace H : (if t399 = true then ((laws_sameInts.f k l0_1 l1_1).bind fun t400 => (if t400 = true then (if a0_2 = a1_2 then (some (a0_3 == a1_3)) else (some false)) else (some false))) else (some false)) = some r := H
  have A3 := Aside0.mk A30
  clear A30
  by_cases c4 : t399 = true
  · subst c4
    have H1 : ((laws_sameInts.f k l0_1 l1_1).bind fun t400 => (if t400 = true then (if a0_2 = a1_2 then (some (a0_3 == a1_3)) else (some false)) else (some false))) = some r := by rw [if_pos rfl] at H; exact H
    clear H
    have H := H1
    clear H1
    replace H := Option.bind_eq_some_iff.mp H
    obtain ⟨t400, A50, H⟩ := H
    replace H : (if t400 = true then (if a0_2 = a1_2 then (some (a0_3 == a1_3)) else (some false)) else (some false)) = some r := H
    have A5 := Aside0.mk A50
    clear A50
    by_cases c6 : t400 = true
    · subst c6
      have H1 : (if a0_2 = a1_2 then (some (a0_3 == a1_3)) else (some false)) = some r := by rw [if_pos rfl] at H; exact H
      clear H
      have H := H1
      clear H1
      by_cases c7 : a0_2 = a1_2
      · rw [if_pos c7] at H
        have c7b0 : (a0_2 == a1_2) = true := beq_iff_eq.mpr c7
        have c7b1 : (a0_2 != a1_2) = false := bne_eq_false_iff_eq.mpr c7
        clear c7
        obtain rfl := Option.some.inj H
        go_enter Try.func24, Try.ntmps24
        go_wp2_with (first | ((with_reducible refine gate_dst (N := 2) rfl ?_); refine box_event ?hg (N := 2) ?hd (cs := #[.slice A0_0 l0_0.length c0_0, .slice A0_1 l0_1.length c0_1, .int .i64 a0_2, .int .i64 a0_3]) (t := 37) ?hr ?_; (case hd => rfl); (case hg => rfl); (case hr => exact z6_6); intro gb397 hg w8 hbox hb; have n0_ := Aside0.mk (below_step z6_1 hb); have n1_ := Aside0.mk (hbox); have n2_ := Aside0.mk ((z6_16 : w.heap.size ≤ gb397)); have n3_ := Aside0.mk ((z6_16 : w.heap.size ≤ gb397)); clear HB; have HB := n0_; have BK397 := n1_; have GW397 := n2_; have GE397 := n3_; clear n0_ n1_ n2_ n3_; clear hb hbox hg) | ((with_reducible refine gate_dst (N := 3) rfl ?_); refine box_event ?hg (N := 3) ?hd (cs := #[.slice A1_0 l1_0.length c1_0, .slice A1_1 l1_1.length c1_1, .int .i64 a1_2, .int .i64 a1_3]) (t := 37) ?hr ?_; (case hd => rfl); (case hg => rfl); (case hr => exact z6_6); intro gb398 hg w9 hbox hb; have n0_ := Aside0.mk (blk_below (g := gb397) (o := .cells #[.slice A0_0 l0_0.length c0_0, .slice A0_1 l0_1.length c0_1, .int .i64 a0_2, .int .i64 a0_3] 37 (0, 0)) z6_2 hb); have n1_ := Aside0.mk (below_step z6_0 hb); have n2_ := Aside0.mk (hbox); have n3_ := Aside0.mk ((z6_17 : w.heap.size ≤ gb398)); have n4_ := Aside0.mk ((z6_17 : w.heap.size ≤ gb398)); have n5_ := Aside0.mk ((z6_12 : gb397 ≠ gb398)); have n6_ := Aside0.mk ((z6_13 : gb398 ≠ gb397)); clear BK397; clear HB; have BK397 := n0_; have HB := n1_; have BK398 := n2_; have GW398 := n3_; have GE398 := n4_; have NB397_398 := n5_; have NB398_397 := n6_; clear n0_ n1_ n2_ n3_ n4_ n5_ n6_; clear hb hbox hg; have hnb10 := NB397_398.out; have hnc10 := NB398_397.out; have hcz11_0 : w9.cell? ⟨gb397, 0, none⟩ = some (.slice A0_0 l0_0.length c0_0) := (blk_cell BK397.out 0).trans rfl; have hcz11_1 : w9.cell? ⟨gb397, 1, none⟩ = some (.slice A0_1 l0_1.length c0_1) := (blk_cell BK397.out 1).trans rfl; have hcz11_2 : w9.cell? ⟨gb397, 2, none⟩ = some (.int .i64 a0_2) := (blk_cell BK397.out 2).trans rfl; have hcz11_3 : w9.cell? ⟨gb397, 3, none⟩ = some (.int .i64 a0_3) := (blk_cell BK397.out 3).trans rfl; have hfz11_0 := blk_frozen BK397.out 0; have hfz11_1 := blk_frozen BK397.out 1; have hfz11_2 := blk_frozen BK397.out 2; have hfz11_3 := blk_frozen BK397.out 3; have hcz12_0 : w9.cell? ⟨gb398, 0, none⟩ = some (.slice A1_0 l1_0.length c1_0) := (blk_cell BK398.out 0).trans rfl; have hcz12_1 : w9.cell? ⟨gb398, 1, none⟩ = some (.slice A1_1 l1_1.length c1_1) := (blk_cell BK398.out 1).trans rfl; have hcz12_2 : w9.cell? ⟨gb398, 2, none⟩ = some (.int .i64 a1_2) := (blk_cell BK398.out 2).trans rfl; have hcz12_3 : w9.cell? ⟨gb398, 3, none⟩ = some (.int .i64 a1_3) := (blk_cell BK398.out 3).trans rfl; have hfz12_0 := blk_frozen BK398.out 0; have hfz12_1 := blk_frozen BK398.out 1; have hfz12_2 := blk_frozen BK398.out 2; have hfz12_3 := blk_frozen BK398.out 3) | ((first | ((with_reducible refine gate_callee (f := 49) rfl ?_); refine goesL_ (some 9) rfl rfl Try.func49 z6_3 rfl #[.slice A0_0 l0_0.length c0_0, .slice A1_0 l1_0.length c1_0] rfl z6_11 ?_; (with_reducible refine (laws_sameInts.calls k _ _ l0_0 _ _ l1_0 true _ ?side1 ?side2 ?side3 ?side4 A3.out).mono ?_)) | (go_at_call 49; (with_reducible refine (laws_sameInts.calls k _ _ l0_0 _ _ l1_0 true _ ?side1 ?side2 ?side3 ?side4 A3.out).mono ?_))); (case side1 => exact z6_8); (case side2 => exact HC0_0.out); (case side3 => exact z6_7); (case side4 => exact HC1_0.out); rintro e w' ⟨rfl, ⟨nd, rfl⟩⟩; (first | refine ⟨_, rfl, ?_⟩ | skip)) | (go_at_call 49; (with_reducible refine (laws_sameInts.calls k _ _ l0_1 _ _ l1_1 true _ ?side1 ?side2 ?side3 ?side4 A5.out).mono ?_); (case side1 => exact z6_15); (case side2 => exact HC0_1.out); (case side3 => exact z6_14); (case side4 => exact HC1_1.out); rintro e w' ⟨rfl, ⟨nd, rfl⟩⟩))
        go_ret
        exact ⟨by first | rfl | (simp [errW_none, errW_some] <;> rfl) | (simp [*, errW_none, errW_some] <;> rfl) | (simp [*, errW_none, errW_some, i64_w]; done), by repeat (first | (with_reducible first | exact HB.out | apply below_alloc | apply pw_below_drewN | apply below_drew1 | refine below_set ?_ GE397.out | refine below_set ?_ GE398.out) | exact HB.out)⟩
      · rw [if_neg c7] at H
        have c7b0 : (a0_2 == a1_2) = false := beq_eq_false_iff_ne.mpr c7
        have c7b1 : (a0_2 != a1_2) = true := bne_iff_ne.mpr c7
        obtain rfl := Option.some.inj H
        go_enter Try.func24, Try.ntmps24
        go_wp2_with (first | ((with_reducible refine gate_dst (N := 2) rfl ?_); refine box_event ?hg (N := 2) ?hd (cs := #[.slice A0_0 l0_0.length c0_0, .slice A0_1 l0_1.length c0_1, .int .i64 a0_2, .int .i64 a0_3]) (t := 37) ?hr ?_; (case hd => rfl); (case hg => rfl); (case hr => exact z6_6); intro gb397 hg w13 hbox hb; have n0_ := Aside0.mk (below_step z6_1 hb); have n1_ := Aside0.mk (hbox); have n2_ := Aside0.mk ((z6_16 : w.heap.size ≤ gb397)); have n3_ := Aside0.mk ((z6_16 : w.heap.size ≤ gb397)); clear HB; have HB := n0_; have BK397 := n1_; have GW397 := n2_; have GE397 := n3_; clear n0_ n1_ n2_ n3_; clear hb hbox hg) | ((with_reducible refine gate_dst (N := 3) rfl ?_); refine box_event ?hg (N := 3) ?hd (cs := #[.slice A1_0 l1_0.length c1_0, .slice A1_1 l1_1.length c1_1, .int .i64 a1_2, .int .i64 a1_3]) (t := 37) ?hr ?_; (case hd => rfl); (case hg => rfl); (case hr => exact z6_6); intro gb398 hg w14 hbox hb; have n0_ := Aside0.mk (blk_below (g := gb397) (o := .cells #[.slice A0_0 l0_0.length c0_0, .slice A0_1 l0_1.length c0_1, .int .i64 a0_2, .int .i64 a0_3] 37 (0, 0)) z6_2 hb); have n1_ := Aside0.mk (below_step z6_0 hb); have n2_ := Aside0.mk (hbox); have n3_ := Aside0.mk ((z6_17 : w.heap.size ≤ gb398)); have n4_ := Aside0.mk ((z6_17 : w.heap.size ≤ gb398)); have n5_ := Aside0.mk ((z6_12 : gb397 ≠ gb398)); have n6_ := Aside0.mk ((z6_13 : gb398 ≠ gb397)); clear BK397; clear HB; have BK397 := n0_; have HB := n1_; have BK398 := n2_; have GW398 := n3_; have GE398 := n4_; have NB397_398 := n5_; have NB398_397 := n6_; clear n0_ n1_ n2_ n3_ n4_ n5_ n6_; clear hb hbox hg; have hnb15 := NB397_398.out; have hnc15 := NB398_397.out; have hcz16_0 : w14.cell? ⟨gb397, 0, none⟩ = some (.slice A0_0 l0_0.length c0_0) := (blk_cell BK397.out 0).trans rfl; have hcz16_1 : w14.cell? ⟨gb397, 1, none⟩ = some (.slice A0_1 l0_1.length c0_1) := (blk_cell BK397.out 1).trans rfl; have hcz16_2 : w14.cell? ⟨gb397, 2, none⟩ = some (.int .i64 a0_2) := (blk_cell BK397.out 2).trans rfl; have hcz16_3 : w14.cell? ⟨gb397, 3, none⟩ = some (.int .i64 a0_3) := (blk_cell BK397.out 3).trans rfl; have hfz16_0 := blk_frozen BK397.out 0; have hfz16_1 := blk_frozen BK397.out 1; have hfz16_2 := blk_frozen BK397.out 2; have hfz16_3 := blk_frozen BK397.out 3; have hcz17_0 : w14.cell? ⟨gb398, 0, none⟩ = some (.slice A1_0 l1_0.length c1_0) := (blk_cell BK398.out 0).trans rfl; have hcz17_1 : w14.cell? ⟨gb398, 1, none⟩ = some (.slice A1_1 l1_1.length c1_1) := (blk_cell BK398.out 1).trans rfl; have hcz17_2 : w14.cell? ⟨gb398, 2, none⟩ = some (.int .i64 a1_2) := (blk_cell BK398.out 2).trans rfl; have hcz17_3 : w14.cell? ⟨gb398, 3, none⟩ = some (.int .i64 a1_3) := (blk_cell BK398.out 3).trans rfl; have hfz17_0 := blk_frozen BK398.out 0; have hfz17_1 := blk_frozen BK398.out 1; have hfz17_2 := blk_frozen BK398.out 2; have hfz17_3 := blk_frozen BK398.out 3) | ((first | ((with_reducible refine gate_callee (f := 49) rfl ?_); refine goesL_ (some 9) rfl rfl Try.func49 z6_3 rfl #[.slice A0_0 l0_0.length c0_0, .slice A1_0 l1_0.length c1_0] rfl z6_11 ?_; (with_reducible refine (laws_sameInts.calls k _ _ l0_0 _ _ l1_0 true _ ?side1 ?side2 ?side3 ?side4 A3.out).mono ?_)) | (go_at_call 49; (with_reducible refine (laws_sameInts.calls k _ _ l0_0 _ _ l1_0 true _ ?side1 ?side2 ?side3 ?side4 A3.out).mono ?_))); (case side1 => exact z6_8); (case side2 => exact HC0_0.out); (case side3 => exact z6_7); (case side4 => exact HC1_0.out); rintro e w' ⟨rfl, ⟨nd, rfl⟩⟩; (first | refine ⟨_, rfl, ?_⟩ | skip)) | (go_at_call 49; (with_reducible refine (laws_sameInts.calls k _ _ l0_1 _ _ l1_1 true _ ?side1 ?side2 ?side3 ?side4 A5.out).mono ?_); (case side1 => exact z6_15); (case side2 => exact HC0_1.out); (case side3 => exact z6_14); (case side4 => exact HC1_1.out); rintro e w' ⟨rfl, ⟨nd, rfl⟩⟩))
        go_ret
        exact ⟨by first | rfl | (simp [errW_none, errW_some] <;> rfl) | (simp [*, errW_none, errW_some] <;> rfl) | (simp [*, errW_none, errW_some, i64_w]; done), by repeat (first | (with_reducible first | exact HB.out | apply below_alloc | apply pw_below_drewN | apply below_drew1 | refine below_set ?_ GE397.out | refine below_set ?_ GE398.out) | exact HB.out)⟩
    · replace c6 := Bool.eq_false_iff.mpr c6
      subst c6
      have H1 : (some false) = some r := by rw [if_neg (show ¬ (false = true) by decide)] at H; exact H
      clear H
      have H := H1
      clear H1
      obtain rfl := Option.some.inj H
      go_enter Try.func24, Try.ntmps24
      go_wp2_with (first | ((with_reducible refine gate_dst (N := 2) rfl ?_); refine box_event ?hg (N := 2) ?hd (cs := #[.slice A0_0 l0_0.length c0_0, .slice A0_1 l0_1.length c0_1, .int .i64 a0_2, .int .i64 a0_3]) (t := 37) ?hr ?_; (case hd => rfl); (case hg => rfl); (case hr => exact z6_6); intro gb397 hg w18 hbox hb; have n0_ := Aside0.mk (below_step z6_1 hb); have n1_ := Aside0.mk (hbox); have n2_ := Aside0.mk ((z6_16 : w.heap.size ≤ gb397)); have n3_ := Aside0.mk ((z6_16 : w.heap.size ≤ gb397)); clear HB; have HB := n0_; have BK397 := n1_; have GW397 := n2_; have GE397 := n3_; clear n0_ n1_ n2_ n3_; clear hb hbox hg) | ((with_reducible refine gate_dst (N := 3) rfl ?_); refine box_event ?hg (N := 3) ?hd (cs := #[.slice A1_0 l1_0.length c1_0, .slice A1_1 l1_1.length c1_1, .int .i64 a1_2, .int .i64 a1_3]) (t := 37) ?hr ?_; (case hd => rfl); (case hg => rfl); (case hr => exact z6_6); intro gb398 hg w19 hbox hb; have n0_ := Aside0.mk (blk_below (g := gb397) (o := .cells #[.slice A0_0 l0_0.length c0_0, .slice A0_1 l0_1.length c0_1, .int .i64 a0_2, .int .i64 a0_3] 37 (0, 0)) z6_2 hb); have n1_ := Aside0.mk (below_step z6_0 hb); have n2_ := Aside0.mk (hbox); have n3_ := Aside0.mk ((z6_17 : w.heap.size ≤ gb398)); have n4_ := Aside0.mk ((z6_17 : w.heap.size ≤ gb398)); have n5_ := Aside0.mk ((z6_12 : gb397 ≠ gb398)); have n6_ := Aside0.mk ((z6_13 : gb398 ≠ gb397)); clear BK397; clear HB; have BK397 := n0_; have HB := n1_; have BK398 := n2_; have GW398 := n3_; have GE398 := n4_; have NB397_398 := n5_; have NB398_397 := n6_; clear n0_ n1_ n2_ n3_ n4_ n5_ n6_; clear hb hbox hg; have hnb20 := NB397_398.out; have hnc20 := NB398_397.out; have hcz21_0 : w19.cell? ⟨gb397, 0, none⟩ = some (.slice A0_0 l0_0.length c0_0) := (blk_cell BK397.out 0).trans rfl; have hcz21_1 : w19.cell? ⟨gb397, 1, none⟩ = some (.slice A0_1 l0_1.length c0_1) := (blk_cell BK397.out 1).trans rfl; have hcz21_2 : w19.cell? ⟨gb397, 2, none⟩ = some (.int .i64 a0_2) := (blk_cell BK397.out 2).trans rfl; have hcz21_3 : w19.cell? ⟨gb397, 3, none⟩ = some (.int .i64 a0_3) := (blk_cell BK397.out 3).trans rfl; have hfz21_0 := blk_frozen BK397.out 0; have hfz21_1 := blk_frozen BK397.out 1; have hfz21_2 := blk_frozen BK397.out 2; have hfz21_3 := blk_frozen BK397.out 3; have hcz22_0 : w19.cell? ⟨gb398, 0, none⟩ = some (.slice A1_0 l1_0.length c1_0) := (blk_cell BK398.out 0).trans rfl; have hcz22_1 : w19.cell? ⟨gb398, 1, none⟩ = some (.slice A1_1 l1_1.length c1_1) := (blk_cell BK398.out 1).trans rfl; have hcz22_2 : w19.cell? ⟨gb398, 2, none⟩ = some (.int .i64 a1_2) := (blk_cell BK398.out 2).trans rfl; have hcz22_3 : w19.cell? ⟨gb398, 3, none⟩ = some (.int .i64 a1_3) := (blk_cell BK398.out 3).trans rfl; have hfz22_0 := blk_frozen BK398.out 0; have hfz22_1 := blk_frozen BK398.out 1; have hfz22_2 := blk_frozen BK398.out 2; have hfz22_3 := blk_frozen BK398.out 3) | ((first | ((with_reducible refine gate_callee (f := 49) rfl ?_); refine goesL_ (some 9) rfl rfl Try.func49 z6_3 rfl #[.slice A0_0 l0_0.length c0_0, .slice A1_0 l1_0.length c1_0] rfl z6_11 ?_; (with_reducible refine (laws_sameInts.calls k _ _ l0_0 _ _ l1_0 true _ ?side1 ?side2 ?side3 ?side4 A3.out).mono ?_)) | (go_at_call 49; (with_reducible refine (laws_sameInts.calls k _ _ l0_0 _ _ l1_0 true _ ?side1 ?side2 ?side3 ?side4 A3.out).mono ?_))); (case side1 => exact z6_8); (case side2 => exact HC0_0.out); (case side3 => exact z6_7); (case side4 => exact HC1_0.out); rintro e w' ⟨rfl, ⟨nd, rfl⟩⟩; (first | refine ⟨_, rfl, ?_⟩ | skip)) | (go_at_call 49; (with_reducible refine (laws_sameInts.calls k _ _ l0_1 _ _ l1_1 false _ ?side1 ?side2 ?side3 ?side4 A5.out).mono ?_); (case side1 => exact z6_15); (case side2 => exact HC0_1.out); (case side3 => exact z6_14); (case side4 => exact HC1_1.out); rintro e w' ⟨rfl, ⟨nd, rfl⟩⟩))
      go_ret
      exact ⟨by first | rfl | (simp [errW_none, errW_some] <;> rfl) | (simp [*, errW_none, errW_some] <;> rfl) | (simp [*, errW_none, errW_some, i64_w]; done), by repeat (first | (with_reducible first | exact HB.out | apply below_alloc | apply pw_below_drewN | apply below_drew1 | refine below_set ?_ GE397.out | refine below_set ?_ GE398.out) | exact HB.out)⟩
  · replace c4 := Bool.eq_false_iff.mpr c4
    subst c4
    have H1 : (some false) = some r := by rw [if_neg (show ¬ (false = true) by decide)] at H; exact H
    clear H
    have H := H1
    clear H1
    obtain rfl := Option.some.inj H
    go_enter Try.func24, Try.ntmps24
    go_wp2_with (first | ((with_reducible refine gate_dst (N := 2) rfl ?_); refine box_event ?hg (N := 2) ?hd (cs := #[.slice A0_0 l0_0.length c0_0, .slice A0_1 l0_1.length c0_1, .int .i64 a0_2, .int .i64 a0_3]) (t := 37) ?hr ?_; (case hd => rfl); (case hg => rfl); (case hr => exact z6_6); intro gb397 hg w23 hbox hb; have n0_ := Aside0.mk (below_step z6_1 hb); have n1_ := Aside0.mk (hbox); have n2_ := Aside0.mk ((z6_16 : w.heap.size ≤ gb397)); have n3_ := Aside0.mk ((z6_16 : w.heap.size ≤ gb397)); clear HB; have HB := n0_; have BK397 := n1_; have GW397 := n2_; have GE397 := n3_; clear n0_ n1_ n2_ n3_; clear hb hbox hg) | ((with_reducible refine gate_dst (N := 3) rfl ?_); refine box_event ?hg (N := 3) ?hd (cs := #[.slice A1_0 l1_0.length c1_0, .slice A1_1 l1_1.length c1_1, .int .i64 a1_2, .int .i64 a1_3]) (t := 37) ?hr ?_; (case hd => rfl); (case hg => rfl); (case hr => exact z6_6); intro gb398 hg w24 hbox hb; have n0_ := Aside0.mk (blk_below (g := gb397) (o := .cells #[.slice A0_0 l0_0.length c0_0, .slice A0_1 l0_1.length c0_1, .int .i64 a0_2, .int .i64 a0_3] 37 (0, 0)) z6_2 hb); have n1_ := Aside0.mk (below_step z6_0 hb); have n2_ := Aside0.mk (hbox); have n3_ := Aside0.mk ((z6_17 : w.heap.size ≤ gb398)); have n4_ := Aside0.mk ((z6_17 : w.heap.size ≤ gb398)); have n5_ := Aside0.mk ((z6_12 : gb397 ≠ gb398)); have n6_ := Aside0.mk ((z6_13 : gb398 ≠ gb397)); clear BK397; clear HB; have BK397 := n0_; have HB := n1_; have BK398 := n2_; have GW398 := n3_; have GE398 := n4_; have NB397_398 := n5_; have NB398_397 := n6_; clear n0_ n1_ n2_ n3_ n4_ n5_ n6_; clear hb hbox hg; have hnb25 := NB397_398.out; have hnc25 := NB398_397.out; have hcz26_0 : w24.cell? ⟨gb397, 0, none⟩ = some (.slice A0_0 l0_0.length c0_0) := (blk_cell BK397.out 0).trans rfl; have hcz26_1 : w24.cell? ⟨gb397, 1, none⟩ = some (.slice A0_1 l0_1.length c0_1) := (blk_cell BK397.out 1).trans rfl; have hcz26_2 : w24.cell? ⟨gb397, 2, none⟩ = some (.int .i64 a0_2) := (blk_cell BK397.out 2).trans rfl; have hcz26_3 : w24.cell? ⟨gb397, 3, none⟩ = some (.int .i64 a0_3) := (blk_cell BK397.out 3).trans rfl; have hfz26_0 := blk_frozen BK397.out 0; have hfz26_1 := blk_frozen BK397.out 1; have hfz26_2 := blk_frozen BK397.out 2; have hfz26_3 := blk_frozen BK397.out 3; have hcz27_0 : w24.cell? ⟨gb398, 0, none⟩ = some (.slice A1_0 l1_0.length c1_0) := (blk_cell BK398.out 0).trans rfl; have hcz27_1 : w24.cell? ⟨gb398, 1, none⟩ = some (.slice A1_1 l1_1.length c1_1) := (blk_cell BK398.out 1).trans rfl; have hcz27_2 : w24.cell? ⟨gb398, 2, none⟩ = some (.int .i64 a1_2) := (blk_cell BK398.out 2).trans rfl; have hcz27_3 : w24.cell? ⟨gb398, 3, none⟩ = some (.int .i64 a1_3) := (blk_cell BK398.out 3).trans rfl; have hfz27_0 := blk_frozen BK398.out 0; have hfz27_1 := blk_frozen BK398.out 1; have hfz27_2 := blk_frozen BK398.out 2; have hfz27_3 := blk_frozen BK398.out 3) | ((first | ((with_reducible refine gate_callee (f := 49) rfl ?_); refine goesL_ (some 9) rfl rfl Try.func49 z6_3 rfl #[.slice A0_0 l0_0.length c0_0, .slice A1_0 l1_0.length c1_0] rfl z6_11 ?_; (with_reducible refine (laws_sameInts.calls k _ _ l0_0 _ _ l1_0 false _ ?side1 ?side2 ?side3 ?side4 A3.out).mono ?_)) | (go_at_call 49; (with_reducible refine (laws_sameInts.calls k _ _ l0_0 _ _ l1_0 false _ ?side1 ?side2 ?side3 ?side4 A3.out).mono ?_))); (case side1 => exact z6_8); (case side2 => exact HC0_0.out); (case side3 => exact z6_7); (case side4 => exact HC1_0.out); rintro e w' ⟨rfl, ⟨nd, rfl⟩⟩; (first | refine ⟨_, rfl, ?_⟩ | skip)))
    go_ret
    exact ⟨by first | rfl | (simp [errW_none, errW_some] <;> rfl) | (simp [*, errW_none, errW_some] <;> rfl) | (simp [*, errW_none, errW_some, i64_w]; done), by repeat (first | (with_reducible first | exact HB.out | apply below_alloc | apply pw_below_drewN | apply below_drew1 | refine below_set ?_ GE397.out | refine below_set ?_ GE398.out) | exact HB.out)⟩

/-! ### laws_FnSenses: function 5 -/
def laws_FnSenses.f (k : Nat) (l0 : List Int) : Option (Bool) := (laws_big.f l0).bind fun t401 => (if t401 = true then (some true) else ((spec_DrawProgram.f k l0).bind fun t402 => ((spec_DrawVars.f k l0).bind fun t406 => ((spec_DrawReadings.f k l0).bind fun t409 => ((spec_DrawPlaces.f k l0).bind fun t412 => (if 0 < (t412.length : Int) then ((impl_SensesOf.f k t402 0 t406 t409 (Int.tmod (rd t412 0) 50)).bind fun t416 => ((impl_TaskEffect.f k t402 0 t406 t416).bind fun bt419 => ((some (([] : List Int) : List Int)).bind fun y429 => (if y429.length + t416.length < 17592186044416 then ((some (y429 ++ t416 : List Int)).bind fun y432 => ((some (([5, 7] : List Int) : List Int)).bind fun y435 => (if y432.length + y435.length < 17592186044416 then ((impl_TaskEffect.f k t402 0 t406 (y432 ++ y435)).bind fun bt441 => (if bt419.2.2.2.2 = true then (if bt441.2.2.2.2 = true then (if bt419.2.2.2.1 = (t416.length : Int) then ((laws_sameEffect.f k bt419.1 bt419.2.1 bt419.2.2.1 bt419.2.2.2.1 bt441.1 bt441.2.1 bt441.2.2.1 bt441.2.2.2.1).bind fun t451 => (some t451)) else (some false)) else (some false)) else (some false))) else (none)))) else (none))))) else (none)))))))
theorem laws_FnSenses.mono : ∀ a0 k, LeO (laws_FnSenses.f k a0) (laws_FnSenses.f (k + 1) a0) := by
  intro a0 k
  unfold laws_FnSenses.f
  repeat' first
      | (with_reducible exact impl_SensesOf.mono _ _ _ _ _ _)
      | (with_reducible exact impl_TaskEffect.mono _ _ _ _ _)
      | (with_reducible exact laws_sameEffect.mono _ _ _ _ _ _ _ _ _)
      | (with_reducible exact spec_DrawPlaces.mono _ _)
      | (with_reducible exact spec_DrawProgram.mono _ _)
      | (with_reducible exact spec_DrawReadings.mono _ _)
      | (with_reducible exact spec_DrawVars.mono _ _)
      | (with_reducible exact LeO.refl _)
      | (with_reducible exact LeO.none _)
      | (with_reducible refine LeO.ite ?_ ?_)
      | (with_reducible refine LeO.bind ?_ (fun _ => ?_))
      | exact impl_SensesOf.mono _ _ _ _ _ _
      | exact impl_TaskEffect.mono _ _ _ _ _
      | exact laws_sameEffect.mono _ _ _ _ _ _ _ _ _
      | exact spec_DrawPlaces.mono _ _
      | exact spec_DrawProgram.mono _ _
      | exact spec_DrawReadings.mono _ _
      | exact spec_DrawVars.mono _ _
      | exact LeO.none _
      | refine LeO.ite ?_ ?_
      | refine LeO.bind ?_ (fun _ => ?_)
def laws_FnSenses.T10 : Bool × List (List Nat × List Nat) := (true, [([], []), ([], []), ([], []), ([], []), ([2, 3], [2, 3]), ([], []), ([4, 5, 4], [4, 5]), ([0, 1, 6, 6], [0, 1, 6]), ([7], [7]), ([8], [8]), ([8], [8]), ([], []), ([11, 9, 7, 0, 1, 2, 3, 4, 5, 6, 7, 8, 9, 11], [9, 11]), ([10, 12, 0, 1, 2, 3, 4, 5, 6, 7, 8, 9, 10, 11, 12], [10])])
def laws_FnSenses.B10 : List Nat := [0, 0, 0, 0, 12, 0, 60, 127, 255, 511, 511, 0, 3071, 8191]
theorem laws_FnSenses.tab10 : rtab .any (opsOf Try.f5 10) = laws_FnSenses.T10 := by kernel_rfl
theorem laws_FnSenses.bits10 : waitsOk laws_FnSenses.T10.2 laws_FnSenses.B10 = true := by kernel_rfl
/-- Three rows that a region makes, told apart. -/
structure apartS (n m : Nat) (a b c : Value) : Prop where
  old42 : ∀ k, a.ownBlock = some k → n ≤ k
  old44 : ∀ k, b.ownBlock = some k → n ≤ k
  lt42 : ∀ k, a.ownBlock = some k → k < m
  lt44 : ∀ k, b.ownBlock = some k → k < m
  lt45 : ∀ k, c.ownBlock = some k → k < m
  ne42 : ∀ k, a.ownBlock = some k → c.ownBlock = some k → False
  ne44 : ∀ k, b.ownBlock = some k → c.ownBlock = some k → False
section
variable {n m m1 : Nat} {a b c v : Value}
theorem apartS.init (n m : Nat) : apartS n m (.bool false) (.bool false) (.bool false) := by
  constructor <;> (intro k h; simp [Value.ownBlock] at h)
theorem apartS.grow (h : apartS n m a b c) (hm : m ≤ m1) : apartS n m1 a b c :=
  ⟨h.old42, h.old44, fun k hk => Nat.lt_of_lt_of_le (h.lt42 k hk) hm, fun k hk => Nat.lt_of_lt_of_le (h.lt44 k hk) hm, fun k hk => Nat.lt_of_lt_of_le (h.lt45 k hk) hm, h.ne42, h.ne44⟩
theorem apartS.new42 (h : apartS n m a b c) (hm : m ≤ m1) (hv : ∃ g, v.ownBlock = some g ∧ m ≤ g) (hl : ∀ k, v.ownBlock = some k → k < m1) (hn : n ≤ m) : apartS n m1 v b c := by
  obtain ⟨g, hg, hmg⟩ := hv
  have key : ∀ k, v.ownBlock = some k → m ≤ k := fun k hk => by rw [hg] at hk; cases hk; exact hmg
  have q := h.grow hm
  exact ⟨fun k hk => Nat.le_trans hn (key k hk), q.old44, hl, q.lt44, q.lt45, fun k h1 h2 => by have := key k h1; have := h.lt45 k h2; omega, q.ne44⟩
theorem apartS.new45 (h : apartS n m a b c) (hm : m ≤ m1) (hv : ∃ g, v.ownBlock = some g ∧ m ≤ g) (hl : ∀ k, v.ownBlock = some k → k < m1) (hn : n ≤ m) : apartS n m1 a b v := by
  obtain ⟨g, hg, hmg⟩ := hv
  have key : ∀ k, v.ownBlock = some k → m ≤ k := fun k hk => by rw [hg] at hk; cases hk; exact hmg
  have q := h.grow hm
  exact ⟨q.old42, q.old44, q.lt42, q.lt44, hl, fun k h1 h2 => by have := key k h2; have := h.lt42 k h1; omega, fun k h1 h2 => by have := key k h2; have := h.lt44 k h1; omega⟩
theorem apartS.new44 (h : apartS n m a b c) (hm : m ≤ m1) (hv : v.ownBlock = a.ownBlock ∨ ∃ g, v.ownBlock = some g ∧ m ≤ g) (hl : ∀ k, v.ownBlock = some k → k < m1) (hn : n ≤ m) : apartS n m1 a v c := by
  have q := h.grow hm
  rcases hv with e | ⟨g, hg, hmg⟩
  · exact ⟨q.old42, fun k hk => q.old42 k (e ▸ hk), q.lt42, hl, q.lt45, q.ne42, fun k h1 h2 => q.ne42 k (e ▸ h1) h2⟩
  · have key : ∀ k, v.ownBlock = some k → m ≤ k := fun k hk => by rw [hg] at hk; cases hk; exact hmg
    exact ⟨q.old42, fun k hk => Nat.le_trans hn (key k hk), q.lt42, hl, q.lt45, q.ne42, fun k h1 h2 => by have := key k h1; have := h.lt45 k h2; omega⟩
end
set_option maxHeartbeats 8000000 in
set_option maxRecDepth 100000 in
theorem laws_FnSenses.yes (k : Nat) (A0 : Option Addr) (c0 : Nat) (l0 : List Int) (p : List S34) (v r x u v1 s1 v2 s2 : List Int) (n1 u1 n2 u2 : Int) (ok1 ok2 e : Bool) (w : World) (hr0 : Kd.C (Kd.int .u8) w A0 l0.length l0) (hc0 : l0.length ≤ c0)
    (h0 : laws_big.f l0 = some false) (hp : spec_DrawProgram.f k l0 = some p) (hv : spec_DrawVars.f k l0 = some v) (hr : spec_DrawReadings.f k l0 = some r) (hx : spec_DrawPlaces.f k l0 = some x) (hx0 : 0 < (x.length : Int))
    (hu : impl_SensesOf.f k p 0 v r (Int.tmod (rd x 0) 50) = some u) (h1 : impl_TaskEffect.f k p 0 v u = some (v1, s1, n1, u1, ok1)) (hl : u.length < 17592186044414) (h2 : impl_TaskEffect.f k p 0 v (u ++ [5, 7]) = some (v2, s2, n2, u2, ok2))
    (h3 : ok1 = true → ok2 = true → u1 = (u.length : Int) → laws_sameEffect.f k v1 s1 n1 u1 v2 s2 n2 u2 = some e) :
    Calls Try.prog 5 #[.slice A0 l0.length c0] w fun e_ w' => e_ = .returned (.bool (ok1 && ok2 && decide (u1 = (u.length : Int)) && e)) ∧ Below w.heap.size w w' := by
  have HR0 := Aside0.mk hr0
  have HC0 := Aside0.mk hc0
  have T0 := Aside0.mk h0
  have TP := Aside0.mk hp
  have TV := Aside0.mk hv
  have TR := Aside0.mk hr
  have TX := Aside0.mk hx
  have TU := Aside0.mk hu
  have T1 := Aside0.mk h1
  have T2 := Aside0.mk h2
  have T3 := Aside0.mk h3
  have HL := Aside0.mk hl
  have HX0 := Aside0.mk hx0
  clear hr0 hc0 h0 hp hv hr hx hu h1 h2 h3 hl hx0
  go_enter Try.func5, Try.ntmps5
  go_wp2_with (first | (go_at_call 13; (with_reducible refine (laws_big.calls _ _ l0 false _ HR0.out HC0.out T0.out).mono ?_); rintro e w' ⟨rfl, ⟨nd, rfl⟩⟩) | (go_at_call 14; (with_reducible refine (spec_DrawProgram.calls k _ _ l0 p _ ?_ HC0.out TP.out).mono ?_); (repeat (first | exact HR0.out | (with_reducible refine Kd.C_drewN ?_ _) | (with_reducible refine Kd.C_drew ?_))); rintro e w1 ⟨vp, rfl, ho, hb⟩; have hq : Below w.heap.size w w1 := below_step z6_5 hb; have HB : Aside0 (Below w.heap.size w w1) := ⟨hq⟩; replace HR0 := Aside0.mk (Kd.C_below HR0.out hq); clear hq hb; obtain ⟨Ap, cp, e_, l_, k_⟩ := Kd.S_reads ho; subst e_; have LP := Aside0.mk l_; have HP := Aside0.mk k_; clear ho l_ k_) | ((with_reducible refine gate_dst (N := 3) rfl ?_); refine box_event ?hg (N := 3) ?hd (cs := #[.slice none 0 0]) (t := 26) ?hr ?_; (case hd => rfl); (case hg => rfl); (case hr => exact z6_6); intro gp hgp w2 hp hb; have HA2 : Aside0 (Below w1.heap.size w1 w2) := ⟨hb⟩; have BP := Aside0.mk hp; have GP : Aside0 (w1.heap.size ≤ gp) := ⟨Nat.le_of_eq hgp.symm⟩; clear hgp hp hb; have hP2 := Sep.blk1 BP.out; have fP2 := blk_frozen BP.out 0) | ((with_reducible refine gate_store (t := 26) (p := 3) rfl ?_); refine store_event (t := 26) (p := 3) (v := ?vo1_) (w1 := w2.setCell ⟨gp, 0, none⟩ (.slice Ap p.length cp)) ?hg ?ho ?hn ?hr ?_; (case ho => rfl); (case hg => rfl); (case hn => rfl); (case hr => exact z6_6); intro w3 hw; have hb : Below w1.heap.size w1 w3 := (by rw [hw]; exact below_set HA2.out GP.out); have BP3 : Aside0 (w3.heap[gp]? = some (.cells #[.slice Ap p.length cp] 26 (0, 0))) := ⟨by rw [hw]; exact blk_put BP.out 0 _ rfl⟩; clear hw BP; have hq : Below w1.heap.size w1 w3 := below_step z6_5 hb; replace HB := Aside0.mk (below_step HB.out hq); replace HR0 := Aside0.mk (Kd.C_below HR0.out hq); replace HP := Aside0.mk (Kd.C_below HP.out hq); clear hq hb; have hP3 := Sep.blk1 BP3.out) | (go_at_call 15; (with_reducible refine (spec_DrawVars.calls k _ _ l0 v _ ?_ HC0.out TV.out).mono ?_); (exact HR0.out); rintro e w4 ⟨vq, rfl, ho, hb⟩; obtain ⟨Av, cv, e_, l_, k_⟩ := Kd.R_reads ho; subst e_; have LV := Aside0.mk l_; have HV := Aside0.mk k_; clear ho l_ k_; have hq : Below w3.heap.size w3 w4 := below_step z6_5 hb; replace HB := Aside0.mk (below_step HB.out hq); replace HR0 := Aside0.mk (Kd.C_below HR0.out hq); replace HP := Aside0.mk (Kd.C_below HP.out hq); replace BP3 := Aside0.mk (blk_below BP3.out hq); clear hq hb) | (go_at_call 16; (with_reducible refine (spec_DrawReadings.calls k _ _ l0 r _ ?_ HC0.out TR.out).mono ?_); (exact HR0.out); rintro e w5 ⟨vq, rfl, ho, hb⟩; obtain ⟨Ar, cr, e_, l_, k_⟩ := Kd.R_reads ho; subst e_; have LR := Aside0.mk l_; have HR := Aside0.mk k_; clear ho l_ k_; have hq : Below w4.heap.size w4 w5 := below_step z6_5 hb; replace HB := Aside0.mk (below_step HB.out hq); replace HR0 := Aside0.mk (Kd.C_below HR0.out hq); replace HP := Aside0.mk (Kd.C_below HP.out hq); replace HV := Aside0.mk (Kd.C_below HV.out hq); replace BP3 := Aside0.mk (blk_below BP3.out hq); clear hq hb) | (go_at_call 22; (with_reducible refine (spec_DrawPlaces.calls k _ _ l0 x _ ?_ HC0.out TX.out).mono ?_); (exact HR0.out); rintro e w6 ⟨vq, rfl, ho, hb⟩; obtain ⟨Ax, cx, e_, l_, k_⟩ := Kd.R_reads ho; subst e_; have LX := Aside0.mk l_; have HX := Aside0.mk k_; clear ho l_ k_; have hq : Below w5.heap.size w5 w6 := below_step z6_5 hb; replace HB := Aside0.mk (below_step HB.out hq); replace HR0 := Aside0.mk (Kd.C_below HR0.out hq); replace HP := Aside0.mk (Kd.C_below HP.out hq); replace HV := Aside0.mk (Kd.C_below HV.out hq); replace HR := Aside0.mk (Kd.C_below HR.out hq); replace BP3 := Aside0.mk (blk_below BP3.out hq); clear hq hb; obtain ⟨adx, ex, hx0⟩ := Kd.at_int HX.out 0 (by omega) HX0.out; subst ex; rw [show ((0 : Int)).toNat = 0 from rfl, Addr.add_zero'] at hx0; have q1 : (0 < x.length) = True := eq_true (by have := HX0.out; omega); have q0 : (0 < (x.length : Int)) = True := eq_true HX0.out; have hP6 := Sep.blk1 BP3.out) | (go_at_call 23; (with_reducible refine (impl_SensesOf.calls k _ _ p 0 _ _ v _ _ r (Int.tmod (rd x 0) 50) u _ ?_ LP.out ?_ LV.out ?_ LR.out TU.out).mono ?_); (exact HP.out); (exact HV.out); (exact HR.out); rintro e w7 ⟨vq, rfl, ho, hb⟩; obtain ⟨Au, cu, e_, l_, k_⟩ := Kd.R_reads ho; subst e_; have LU := Aside0.mk l_; have HU := Aside0.mk k_; clear ho l_ k_; have hq : Below w6.heap.size w6 w7 := below_step z6_5 hb; replace HB := Aside0.mk (below_step HB.out hq); replace HP := Aside0.mk (Kd.C_below HP.out hq); replace HV := Aside0.mk (Kd.C_below HV.out hq); replace BP3 := Aside0.mk (blk_below BP3.out hq); clear hq hb; have hP7 := Sep.blk1 BP3.out) | (go_at_call 18; (with_reducible refine (impl_TaskEffect.calls k _ _ p 0 _ _ v _ _ u v1 s1 n1 u1 ok1 _ ?_ LP.out ?_ LV.out ?_ LU.out T1.out).mono ?_); (exact HP.out); (exact HV.out); (exact HU.out); rintro e w8 ⟨vq, vr, rfl, ho, ho2, hb⟩; obtain ⟨A1, c1, e_, l_, k_⟩ := Kd.R_reads ho; subst e_; have LV1 := Aside0.mk l_; have HV1 := Aside0.mk k_; clear ho l_ k_; have ho := ho2; clear ho2; obtain ⟨A2, c2, e_, l_, k_⟩ := Kd.R_reads ho; subst e_; have LS1 := Aside0.mk l_; have HS1 := Aside0.mk k_; clear ho l_ k_; have hq : Below w7.heap.size w7 w8 := below_step z6_5 hb; replace HB := Aside0.mk (below_step HB.out hq); replace HP := Aside0.mk (Kd.C_below HP.out hq); replace HV := Aside0.mk (Kd.C_below HV.out hq); replace HU := Aside0.mk (Kd.C_below HU.out hq); replace BP3 := Aside0.mk (blk_below BP3.out hq); clear hq hb) | ((with_reducible refine gate_dst (N := 9) rfl ?_); refine box_event ?hg (N := 9) ?hd (cs := #[.slice none 0 0, .slice none 0 0, .int .i64 0, .int .i64 0]) (t := 37) ?hr ?_; (case hd => rfl); (case hg => rfl); (case hr => exact z6_6); intro ga hga w9 ha hb; have HA9 : Aside0 (Below w8.heap.size w8 w9) := ⟨hb⟩; have BA := Aside0.mk ha; have GA : Aside0 (w8.heap.size ≤ ga) := ⟨Nat.le_of_eq hga.symm⟩; clear hga ha hb; obtain ⟨⟨_, _, _, _⟩, ⟨_, _, _, _⟩⟩ := Sep.blk4 BA.out) | ((with_reducible refine gate_store (t := 37) (p := 9) rfl ?_); refine store_event (t := 37) (p := 9) (v := ?vo2_) (w1 := Sep.put4 w9 ga (.slice A1 v1.length c1) (.slice A2 s1.length c2) (.int .i64 n1) (.int .i64 u1)) ?hg ?ho ?hn ?hr ?_; (case ho => rfl); (case hg => rfl); (case hn => rfl); (case hr => exact z6_6); intro w10 hw; have hb : Below w8.heap.size w8 w10 := (by rw [hw]; exact Sep.put4_below HA9.out GA.out _ _ _ _); have BA10 : Aside0 (w10.heap[ga]? = some (.cells #[.slice A1 v1.length c1, .slice A2 s1.length c2, .int .i64 n1, .int .i64 u1] 37 (0, 0))) := ⟨by rw [hw]; exact Sep.put4_blk BA.out _ _ _ _⟩; clear hw; have hq : Below w8.heap.size w8 w10 := below_step z6_5 hb; replace HB := Aside0.mk (below_step HB.out hq); replace HP := Aside0.mk (Kd.C_below HP.out hq); replace HV := Aside0.mk (Kd.C_below HV.out hq); replace HU := Aside0.mk (Kd.C_below HU.out hq); replace HV1 := Aside0.mk (Kd.C_below HV1.out hq); replace HS1 := Aside0.mk (Kd.C_below HS1.out hq); replace BP3 := Aside0.mk (blk_below BP3.out hq); clear hq hb; have hP10 := Sep.blk1 BP3.out) | fail)
  refine start_ (n := 14) (S := fun w' => True) (ds := []) #[false, false, false, false, false, false, false, false, false, false, false, false, false, false] z6_3 rfl rfl trivial (fun hHeld => ?_)
  refine with_tabW laws_FnSenses.tab10 laws_FnSenses.bits10 (fun HT_ HW_ => ?_)
  refine pure_ (i := 1) (N := some 41) (v := ?_) (a' := ?_) #[false, true, false, false, false, false, false, false, false, false, false, false, false, false] rfl rfl z6_3 (fun _ _ _ h => h) (Or.inl ⟨by rfl, ?_⟩) ?_ ?_
  rotate_left
  · intro w'
    go_simp
    with_reducible rfl
  rotate_left
  · simp only [Act.put, List.setIfInBounds_toArray, List.set_cons_zero, List.set_cons_succ, i64_w, i32_w]
    rfl
  refine pure_ (i := 3) (N := some 43) (v := ?_) (a' := ?_) #[false, true, false, true, false, false, false, false, false, false, false, false, false, false] rfl rfl z6_3 (fun _ _ _ h => h) (Or.inl ⟨by rfl, ?_⟩) ?_ ?_
  rotate_left
  · intro w'
    go_simp
    with_reducible rfl
  rotate_left
  · simp only [Act.put, List.setIfInBounds_toArray, List.set_cons_zero, List.set_cons_succ, i64_w, i32_w]
    rfl
  refine inv_at [0, 2, 4, 5, 6, 7, 8, 9, 10, 11, 12, 13] (fun a0_ b a w' => ∃ (v42 : Value) (v44 : Value) (v45 : Value) (v46 : Value) (vq : Value) (vr : Value) (gb : Nat) (m7_ : Value) (m8_ : Value) (m9_ : Value) (m11_ : Value), a = putSel a0_ b [(0, 40, .agg #[.slice Ap p.length cp]), (2, 42, v42), (4, 44, v44), (5, 45, v45), (6, 46, v46), (7, 47, m7_), (8, 39, m8_), (9, 48, m9_), (10, 49, .bool ok2), (11, 11, m11_), (13, 12, .bool ok2)] ∧ (Below w10.heap.size w10 w') ∧ (b 6 = false → apartS w10.heap.size w'.heap.size v42 v44 v45) ∧ (b 2 = true → b 4 = false → Sep.rowI 3 w' v42 ([] : List Int)) ∧ (b 4 = true → b 6 = false → Sep.rowI 3 w' v44 u) ∧ (b 5 = true → b 6 = false → Sep.rowI 3 w' v45 [5, 7]) ∧ (b 6 = true → b 7 = false → Sep.rowI 3 w' v46 (u ++ [5, 7])) ∧ (b 7 = true → Sep.rowI 3 w' vq v2) ∧ (b 7 = true → Sep.rowI 3 w' vr s2) ∧ (b 11 = true → w10.heap.size ≤ gb) ∧ (b 11 = true → b 12 = false → w'.heap[gb]? = some (.cells #[.slice none 0 0, .slice none 0 0, .int .i64 0, .int .i64 0] 37 (0, 0))) ∧ (b 12 = true → w'.heap[gb]? = some (.cells #[vq, vr, .int .i64 n2, .int .i64 u2] 37 (0, 0))) ∧ (b 7 = true → (m7_ : Value) = .tuple #[.agg #[vq, vr, .int .i64 n2, .int .i64 u2], .bool ok2]) ∧ (b 8 = true → (m8_ : Value) = .tuple #[.agg #[vq, vr, .int .i64 n2, .int .i64 u2], .bool ok2]) ∧ (b 9 = true → (m9_ : Value) = .agg #[vq, vr, .int .i64 n2, .int .i64 u2]) ∧ (b 11 = true → (m11_ : Value) = .pointer (some ⟨gb, 0, none⟩))) HT_.out HW_.out z6_3 z6_3 ?_ ?_ ?_
  · exact ⟨.bool false, .bool false, .bool false, .bool false, .bool false, .bool false, 0, .bool false, .bool false, .bool false, .bool false, by simp only [putSel, Bool.false_eq_true, if_false], (below_step (Below.refl _ _) (by repeat (first | exact Below.refl _ _ | apply below_drew1))), fun _ => apartS.init _ _, fun h_ => absurd h_ z6_9, fun h_ => absurd h_ z6_9, fun h_ => absurd h_ z6_9, fun h_ => absurd h_ z6_9, fun h_ => absurd h_ z6_9, fun h_ => absurd h_ z6_9, fun h_ => absurd h_ z6_9, fun h_ => absurd h_ z6_9, fun h_ => absurd h_ z6_9, fun h_ => absurd h_ z6_9, fun h_ => absurd h_ z6_9, fun h_ => absurd h_ z6_9, fun h_ => absurd h_ z6_9⟩
  · skip
    refine steps_cons ?_ ?_
    · rintro b a w' ⟨v42, v44, v45, v46, vq, vr, gb, m7_, m8_, m9_, m11_, ha, Q_KB, Q_AP, Q_R42, Q_R44, Q_R45, Q_R46, Q_RQ, Q_RR, Q_GB, Q_BB, Q_BS, Q_X7_, Q_X8_, Q_X9_, Q_X11_⟩ hb_ hon hoff
      refine ⟨_, rfl, fun K hK => ?_⟩
      have e3 : a.tmps[3]? = some (.pointer (some ⟨gp, 0, none⟩)) := by rw [ha]; exact (putSel_off rfl).trans rfl
      replace ha := Aside0.mk ha
      have KB := Aside0.mk Q_KB
      have hP_ := Sep.blk1 (blk_below BP3.out KB.out)
      refine value_ (w1 := w') (v := .agg #[.slice Ap p.length cp]) (by rfl) rfl ?_ ?_
      · go_simp
        (try simp only [i64_w])
        try rfl
      refine hK.out _ _ ⟨v42, v44, v45, v46, vq, vr, gb, m7_, m8_, m9_, m11_, (by rw [ha.out]; exact putSel_upk 0 hb_ rfl rfl rfl), Q_KB, Q_AP, Q_R42, Q_R44, Q_R45, Q_R46, fun h0_ => absurd ((hoff 7 z6_3).symm.trans h0_) z6_9, fun h0_ => absurd ((hoff 7 z6_3).symm.trans h0_) z6_9, Q_GB, Q_BB, fun h0_ => absurd ((hoff 12 z6_3).symm.trans h0_) z6_9, fun h0_ => absurd ((hoff 7 z6_3).symm.trans h0_) z6_9, fun h0_ => absurd ((hoff 8 z6_3).symm.trans h0_) z6_9, fun h0_ => absurd ((hoff 9 z6_3).symm.trans h0_) z6_9, Q_X11_⟩
    refine steps_cons ?_ ?_
    · rintro b a w' ⟨v42, v44, v45, v46, vq, vr, gb, m7_, m8_, m9_, m11_, ha, Q_KB, Q_AP, Q_R42, Q_R44, Q_R45, Q_R46, Q_RQ, Q_RR, Q_GB, Q_BB, Q_BS, Q_X7_, Q_X8_, Q_X9_, Q_X11_⟩ hb_ hon hoff
      refine ⟨_, rfl, fun K hK => ?_⟩
      replace ha := Aside0.mk ha
      have KB := Aside0.mk Q_KB
      have AP := Aside0.mk (Q_AP (hoff 6 z6_3))
      refine Kd.R_lit_step (w0 := w') (Kd.int .i64) w'.heap.size 3 (by rfl) (N := 42) rfl (xs := ([] : List Int)) (inner := []) (ok := fun _ => True) (okp := fun _ => True) ?_ ?_ (fun _ h => h) trivial (Below.refl _ _) (Nat.le_refl _) z6_9 ?_
      · first | (go_simp; done) | (go_simp; rfl)
      · exact Reps.none _ _
      intro v1_ w1_ ho hq_ hg hat
      have hb : Below w'.heap.size w' w1_ := hq_
      have lt_ : ∀ k, v1_.ownBlock = some k → k < w1_.heap.size := Kd.R_lt ho
      refine hK.out _ _ ⟨v1_, v44, v45, v46, vq, vr, gb, m7_, m8_, m9_, m11_, (by rw [ha.out]; exact putSel_upk 1 hb_ rfl rfl rfl), below_step KB.out hb, fun _ => AP.out.new42 hb.size hat lt_ KB.out.size, fun _ _ => Sep.rowI.of_R ho, fun h0_ _ => absurd ((hoff 4 z6_3).symm.trans h0_) z6_9, fun h0_ h1_ => (Q_R45 h0_ h1_).below hb, fun h0_ _ => absurd ((hoff 6 z6_3).symm.trans h0_) z6_9, fun h0_ => absurd ((hoff 7 z6_3).symm.trans h0_) z6_9, fun h0_ => absurd ((hoff 7 z6_3).symm.trans h0_) z6_9, Q_GB, fun h0_ h1_ => blk_below (Q_BB h0_ h1_) hb, fun h0_ => absurd ((hoff 12 z6_3).symm.trans h0_) z6_9, fun h0_ => absurd ((hoff 7 z6_3).symm.trans h0_) z6_9, fun h0_ => absurd ((hoff 8 z6_3).symm.trans h0_) z6_9, fun h0_ => absurd ((hoff 9 z6_3).symm.trans h0_) z6_9, Q_X11_⟩
    refine steps_cons ?_ ?_
    · rintro b a w' ⟨v42, v44, v45, v46, vq, vr, gb, m7_, m8_, m9_, m11_, ha, Q_KB, Q_AP, Q_R42, Q_R44, Q_R45, Q_R46, Q_RQ, Q_RR, Q_GB, Q_BB, Q_BS, Q_X7_, Q_X8_, Q_X9_, Q_X11_⟩ hb_ hon hoff
      refine ⟨_, rfl, fun K hK => ?_⟩
      have e42 : a.tmps[42]? = some (v42) := by rw [ha]; exact putSel_on (e := (2, 42, v42)) 1 rfl rfl (hon 2 z6_3) rfl
      have e43 : a.tmps[43]? = some (.slice Au u.length cu) := by rw [ha]; exact (putSel_off rfl).trans rfl
      replace ha := Aside0.mk ha
      have KB := Aside0.mk Q_KB
      have AP := Aside0.mk (Q_AP (hoff 6 z6_3))
      have R42 := Aside0.mk (Q_R42 (hon 2 z6_3) hb_)
      refine Kd.R_append_rows_step (w0 := w10) (Kd.int .i64) w10.heap.size (by rfl) (.tmp 42) (.tmp 43) 28 3 (.int .i64 0) 8 rfl Try.underlying28 info3 rfl z6_9 z6_9 v42 [] u _ _ _ (fun _ => True) (fun _ => False) (eval_of e42) (eval_of e43) (R42.out.to_R (fun k hk => AP.out.old42 k hk) (fun _ _ => trivial)) (Kd.C_below HU.out KB.out) (fun _ _ h => h) (fun _ hk => hk.elim) (fun _ _ => trivial) KB.out KB.out.size (by have := HL.out; simp only [List.length_nil]; omega) ?_
      intro v1_ w1_ ho hb hg hat
      have lt_ : ∀ k, v1_.ownBlock = some k → k < w1_.heap.size := Kd.R_lt ho
      refine hK.out _ _ ⟨v42, v1_, v45, v46, vq, vr, gb, m7_, m8_, m9_, m11_, (by rw [ha.out]; exact putSel_upk 2 hb_ rfl rfl rfl), hb, fun _ => AP.out.new44 hg.size hat lt_ KB.out.size, fun _ h1_ => absurd ((up_self b 4).symm.trans h1_) z6_9, fun _ _ => (show Sep.rowI 3 w1_ v1_ u from Sep.rowI.of_R ho), fun h0_ h1_ => (Q_R45 h0_ h1_).grown hg (fun k hk he => AP.out.ne42 k he hk), fun h0_ _ => absurd ((hoff 6 z6_3).symm.trans h0_) z6_9, fun h0_ => absurd ((hoff 7 z6_3).symm.trans h0_) z6_9, fun h0_ => absurd ((hoff 7 z6_3).symm.trans h0_) z6_9, Q_GB, fun h0_ h1_ => blk_grown (Q_BB h0_ h1_) hg (fun h => R42.out.ne (Q_BB h0_ h1_) z6_9 gb h.symm rfl), fun h0_ => absurd ((hoff 12 z6_3).symm.trans h0_) z6_9, fun h0_ => absurd ((hoff 7 z6_3).symm.trans h0_) z6_9, fun h0_ => absurd ((hoff 8 z6_3).symm.trans h0_) z6_9, fun h0_ => absurd ((hoff 9 z6_3).symm.trans h0_) z6_9, Q_X11_⟩
    refine steps_cons ?_ ?_
    · rintro b a w' ⟨v42, v44, v45, v46, vq, vr, gb, m7_, m8_, m9_, m11_, ha, Q_KB, Q_AP, Q_R42, Q_R44, Q_R45, Q_R46, Q_RQ, Q_RR, Q_GB, Q_BB, Q_BS, Q_X7_, Q_X8_, Q_X9_, Q_X11_⟩ hb_ hon hoff
      refine ⟨_, rfl, fun K hK => ?_⟩
      replace ha := Aside0.mk ha
      have KB := Aside0.mk Q_KB
      have AP := Aside0.mk (Q_AP (hoff 6 z6_3))
      refine Kd.R_lit_step (w0 := w') (Kd.int .i64) w'.heap.size 3 (by rfl) (N := 45) rfl (xs := ([5, 7] : List Int)) (inner := [.int .i64 5, .int .i64 7]) (ok := fun _ => True) (okp := fun _ => True) ?_ ?_ (fun _ h => h) trivial (Below.refl _ _) (Nat.le_refl _) z6_9 ?_
      · first | (go_simp; done) | (go_simp; rfl)
      · exact (Reps.one (show Kd.M (Kd.int .i64) _ _ _ 5 [.int .i64 5] from rfl) (Reps.one (show Kd.M (Kd.int .i64) _ _ _ 7 [.int .i64 7] from rfl) (Reps.none _ _)))
      intro v1_ w1_ ho hq_ hg hat
      have hb : Below w'.heap.size w' w1_ := hq_
      have lt_ : ∀ k, v1_.ownBlock = some k → k < w1_.heap.size := Kd.R_lt ho
      refine hK.out _ _ ⟨v42, v44, v1_, v46, vq, vr, gb, m7_, m8_, m9_, m11_, (by rw [ha.out]; exact putSel_upk 3 hb_ rfl rfl rfl), below_step KB.out hb, fun _ => AP.out.new45 hb.size hat lt_ KB.out.size, fun h0_ h1_ => (Q_R42 h0_ h1_).below hb, fun h0_ h1_ => (Q_R44 h0_ h1_).below hb, fun _ _ => Sep.rowI.of_R ho, fun h0_ _ => absurd ((hoff 6 z6_3).symm.trans h0_) z6_9, fun h0_ => absurd ((hoff 7 z6_3).symm.trans h0_) z6_9, fun h0_ => absurd ((hoff 7 z6_3).symm.trans h0_) z6_9, Q_GB, fun h0_ h1_ => blk_below (Q_BB h0_ h1_) hb, fun h0_ => absurd ((hoff 12 z6_3).symm.trans h0_) z6_9, fun h0_ => absurd ((hoff 7 z6_3).symm.trans h0_) z6_9, fun h0_ => absurd ((hoff 8 z6_3).symm.trans h0_) z6_9, fun h0_ => absurd ((hoff 9 z6_3).symm.trans h0_) z6_9, Q_X11_⟩
    refine steps_cons ?_ ?_
    · rintro b a w' ⟨v42, v44, v45, v46, vq, vr, gb, m7_, m8_, m9_, m11_, ha, Q_KB, Q_AP, Q_R42, Q_R44, Q_R45, Q_R46, Q_RQ, Q_RR, Q_GB, Q_BB, Q_BS, Q_X7_, Q_X8_, Q_X9_, Q_X11_⟩ hb_ hon hoff
      refine ⟨_, rfl, fun K hK => ?_⟩
      have e44 : a.tmps[44]? = some (v44) := by rw [ha]; exact putSel_on (e := (4, 44, v44)) 2 rfl rfl (hon 4 z6_3) rfl
      have e45 : a.tmps[45]? = some (v45) := by rw [ha]; exact putSel_on (e := (5, 45, v45)) 3 rfl rfl (hon 5 z6_3) rfl
      replace ha := Aside0.mk ha
      have KB := Aside0.mk Q_KB
      have AP := Aside0.mk (Q_AP hb_)
      have R44 := Aside0.mk (Q_R44 (hon 4 z6_3) hb_)
      have R45 := Aside0.mk (Q_R45 (hon 5 z6_3) hb_)
      obtain ⟨A45, c45, E45_, l45_, k45_⟩ := R45.out.open_
      rw [E45_] at e45
      refine Kd.R_append_rows_step (w0 := w10) (Kd.int .i64) w10.heap.size (by rfl) (.tmp 44) (.tmp 45) 28 3 (.int .i64 0) 8 rfl Try.underlying28 info3 rfl z6_9 z6_9 v44 u [5, 7] _ _ _ (fun _ => True) (fun _ => False) (eval_of e44) (eval_of e45) (R44.out.to_R (fun k hk => AP.out.old44 k hk) (fun _ _ => trivial)) (k45_) (fun _ _ h => h) (fun _ hk => hk.elim) (fun _ _ => trivial) KB.out KB.out.size (by have := HL.out; simp only [List.length_cons, List.length_nil]; omega) ?_
      intro v1_ w1_ ho hb hg hat
      have lt_ : ∀ k, v1_.ownBlock = some k → k < w1_.heap.size := Kd.R_lt ho
      refine hK.out _ _ ⟨v42, v44, v45, v1_, vq, vr, gb, m7_, m8_, m9_, m11_, (by rw [ha.out]; exact putSel_upk 4 hb_ rfl rfl rfl), hb, fun h0_ => absurd ((up_self b 6).symm.trans h0_) z6_9, fun _ h1_ => absurd ((hon 4 z6_3).symm.trans h1_) z6_9, fun _ h1_ => absurd ((up_self b 6).symm.trans h1_) z6_9, fun _ h1_ => absurd ((up_self b 6).symm.trans h1_) z6_9, fun _ _ => Sep.rowI.of_R ho, fun h0_ => absurd ((hoff 7 z6_3).symm.trans h0_) z6_9, fun h0_ => absurd ((hoff 7 z6_3).symm.trans h0_) z6_9, Q_GB, fun h0_ h1_ => blk_grown (Q_BB h0_ h1_) hg (fun h => R44.out.ne (Q_BB h0_ h1_) z6_9 gb h.symm rfl), fun h0_ => absurd ((hoff 12 z6_3).symm.trans h0_) z6_9, fun h0_ => absurd ((hoff 7 z6_3).symm.trans h0_) z6_9, fun h0_ => absurd ((hoff 8 z6_3).symm.trans h0_) z6_9, fun h0_ => absurd ((hoff 9 z6_3).symm.trans h0_) z6_9, Q_X11_⟩
    refine steps_cons ?_ ?_
    · rintro b a w' ⟨v42, v44, v45, v46, vq, vr, gb, m7_, m8_, m9_, m11_, ha, Q_KB, Q_AP, Q_R42, Q_R44, Q_R45, Q_R46, Q_RQ, Q_RR, Q_GB, Q_BB, Q_BS, Q_X7_, Q_X8_, Q_X9_, Q_X11_⟩ hb_ hon hoff
      refine ⟨_, rfl, fun K hK => ?_⟩
      have e40 : a.tmps[40]? = some (.agg #[.slice Ap p.length cp]) := by rw [ha]; exact putSel_on (e := (0, 40, .agg #[.slice Ap p.length cp])) 0 rfl rfl (hon 0 z6_3) rfl
      have e41 : a.tmps[41]? = some (.slice Av v.length cv) := by rw [ha]; exact (putSel_off rfl).trans rfl
      have e46 : a.tmps[46]? = some (v46) := by rw [ha]; exact putSel_on (e := (6, 46, v46)) 4 rfl rfl (hon 6 z6_3) rfl
      replace ha := Aside0.mk ha
      have KB := Aside0.mk Q_KB
      have R46 := Aside0.mk (Q_R46 (hon 6 z6_3) hb_)
      obtain ⟨A46, c46, E46_, l46_, k46_⟩ := R46.out.open_
      rw [E46_] at e46
      refine goes_ Try.func18 z6_3 rfl #[.agg #[.slice Ap p.length cp], .int .i64 0, .slice Av v.length cv, .slice A46 (u ++ [5, 7]).length c46] (by rfl) rfl rfl (by first | (simp only [List.map_toArray, List.map_cons, List.map_nil, Act.eval, Array.getD_eq_getD_getElem?, Option.getD_some, e40, e41, e46]; done) | (simp only [List.map_toArray, List.map_cons, List.map_nil, Act.eval, Array.getD_eq_getD_getElem?, Option.getD_some, e40, e41, e46]; rfl)) ?_
      refine (impl_TaskEffect.calls k _ _ p 0 _ _ v _ _ (u ++ [5, 7]) v2 s2 n2 u2 ok2 _ (Kd.C_below HP.out KB.out) LP.out (Kd.C_below HV.out KB.out) LV.out k46_ l46_ T2.out).mono ?_
      rintro e w1_ ⟨vq_, vr_, rfl, ho, ho2, hb⟩
      refine ⟨_, rfl, ?_⟩
      refine hK.out _ _ ⟨v42, v44, v45, v46, vq_, vr_, gb, (.tuple #[.agg #[vq_, vr_, .int .i64 n2, .int .i64 u2], .bool ok2]), m8_, m9_, m11_, (by rw [ha.out]; exact putSel_upk 5 hb_ rfl rfl rfl), below_step KB.out hb, fun h0_ => absurd ((hon 6 z6_3).symm.trans h0_) z6_9, fun _ h1_ => absurd ((hon 4 z6_3).symm.trans h1_) z6_9, fun _ h1_ => absurd ((hon 6 z6_3).symm.trans h1_) z6_9, fun _ h1_ => absurd ((hon 6 z6_3).symm.trans h1_) z6_9, fun _ h1_ => absurd ((up_self b 7).symm.trans h1_) z6_9, fun _ => Sep.rowI.of_R ho, fun _ => Sep.rowI.of_R ho2, Q_GB, fun h0_ h1_ => blk_below (Q_BB h0_ h1_) hb, fun h0_ => absurd ((hoff 12 z6_3).symm.trans h0_) z6_9, fun _ => rfl, fun h0_ => absurd ((hoff 8 z6_3).symm.trans h0_) z6_9, fun h0_ => absurd ((hoff 9 z6_3).symm.trans h0_) z6_9, Q_X11_⟩
    refine steps_cons ?_ ?_
    · rintro b a w' ⟨v42, v44, v45, v46, vq, vr, gb, m7_, m8_, m9_, m11_, ha, Q_KB, Q_AP, Q_R42, Q_R44, Q_R45, Q_R46, Q_RQ, Q_RR, Q_GB, Q_BB, Q_BS, Q_X7_, Q_X8_, Q_X9_, Q_X11_⟩ hb_ hon hoff
      refine ⟨_, rfl, fun K hK => ?_⟩
      have e47 : a.tmps[47]? = some (m7_) := by rw [ha]; exact putSel_on (e := (7, 47, m7_)) 5 rfl rfl (hon 7 z6_3) rfl
      rw [Q_X7_ (hon 7 z6_3)] at e47
      replace ha := Aside0.mk ha
      have KB := Aside0.mk Q_KB
      have RQ := Aside0.mk (Q_RQ (hon 7 z6_3))
      have RR := Aside0.mk (Q_RR (hon 7 z6_3))
      refine value_ (w1 := w') (v := .tuple #[.agg #[vq, vr, .int .i64 n2, .int .i64 u2], .bool ok2]) (by rfl) rfl ?_ ?_
      · go_simp
        (try simp only [i64_w])
        try rfl
      refine hK.out _ _ ⟨v42, v44, v45, v46, vq, vr, gb, m7_, (.tuple #[.agg #[vq, vr, .int .i64 n2, .int .i64 u2], .bool ok2]), m9_, m11_, (by rw [ha.out]; exact putSel_upk 6 hb_ rfl rfl rfl), Q_KB, fun h0_ => absurd ((hon 6 z6_3).symm.trans h0_) z6_9, fun _ h1_ => absurd ((hon 4 z6_3).symm.trans h1_) z6_9, fun _ h1_ => absurd ((hon 6 z6_3).symm.trans h1_) z6_9, fun _ h1_ => absurd ((hon 6 z6_3).symm.trans h1_) z6_9, fun _ h1_ => absurd ((hon 7 z6_3).symm.trans h1_) z6_9, Q_RQ, Q_RR, Q_GB, Q_BB, fun h0_ => absurd ((hoff 12 z6_3).symm.trans h0_) z6_9, Q_X7_, fun _ => rfl, fun h0_ => absurd ((hoff 9 z6_3).symm.trans h0_) z6_9, Q_X11_⟩
    refine steps_cons ?_ ?_
    · rintro b a w' ⟨v42, v44, v45, v46, vq, vr, gb, m7_, m8_, m9_, m11_, ha, Q_KB, Q_AP, Q_R42, Q_R44, Q_R45, Q_R46, Q_RQ, Q_RR, Q_GB, Q_BB, Q_BS, Q_X7_, Q_X8_, Q_X9_, Q_X11_⟩ hb_ hon hoff
      refine ⟨_, rfl, fun K hK => ?_⟩
      have e39 : a.tmps[39]? = some (m8_) := by rw [ha]; exact putSel_on (e := (8, 39, m8_)) 6 rfl rfl (hon 8 z6_3) rfl
      rw [Q_X8_ (hon 8 z6_3)] at e39
      replace ha := Aside0.mk ha
      have KB := Aside0.mk Q_KB
      have RQ := Aside0.mk (Q_RQ (hon 7 z6_3))
      have RR := Aside0.mk (Q_RR (hon 7 z6_3))
      refine value_ (w1 := w') (v := .agg #[vq, vr, .int .i64 n2, .int .i64 u2]) (by rfl) rfl ?_ ?_
      · go_simp
        (try simp only [i64_w])
        try rfl
      refine hK.out _ _ ⟨v42, v44, v45, v46, vq, vr, gb, m7_, m8_, (.agg #[vq, vr, .int .i64 n2, .int .i64 u2]), m11_, (by rw [ha.out]; exact putSel_upk 7 hb_ rfl rfl rfl), Q_KB, fun h0_ => absurd ((hon 6 z6_3).symm.trans h0_) z6_9, fun _ h1_ => absurd ((hon 4 z6_3).symm.trans h1_) z6_9, fun _ h1_ => absurd ((hon 6 z6_3).symm.trans h1_) z6_9, fun _ h1_ => absurd ((hon 6 z6_3).symm.trans h1_) z6_9, fun _ h1_ => absurd ((hon 7 z6_3).symm.trans h1_) z6_9, Q_RQ, Q_RR, Q_GB, Q_BB, fun h0_ => absurd ((hoff 12 z6_3).symm.trans h0_) z6_9, Q_X7_, Q_X8_, fun _ => rfl, Q_X11_⟩
    refine steps_cons ?_ ?_
    · rintro b a w' ⟨v42, v44, v45, v46, vq, vr, gb, m7_, m8_, m9_, m11_, ha, Q_KB, Q_AP, Q_R42, Q_R44, Q_R45, Q_R46, Q_RQ, Q_RR, Q_GB, Q_BB, Q_BS, Q_X7_, Q_X8_, Q_X9_, Q_X11_⟩ hb_ hon hoff
      refine ⟨_, rfl, fun K hK => ?_⟩
      have e39 : a.tmps[39]? = some (m8_) := by rw [ha]; exact putSel_on (e := (8, 39, m8_)) 6 rfl rfl (hon 8 z6_3) rfl
      rw [Q_X8_ (hon 8 z6_3)] at e39
      replace ha := Aside0.mk ha
      have KB := Aside0.mk Q_KB
      have RQ := Aside0.mk (Q_RQ (hon 7 z6_3))
      have RR := Aside0.mk (Q_RR (hon 7 z6_3))
      refine value_ (w1 := w') (v := .bool ok2) (by rfl) rfl ?_ ?_
      · go_simp
        (try simp only [i64_w])
        try rfl
      refine hK.out _ _ ⟨v42, v44, v45, v46, vq, vr, gb, m7_, m8_, m9_, m11_, (by rw [ha.out]; exact putSel_upk 8 hb_ rfl rfl rfl), Q_KB, fun h0_ => absurd ((hon 6 z6_3).symm.trans h0_) z6_9, fun _ h1_ => absurd ((hon 4 z6_3).symm.trans h1_) z6_9, fun _ h1_ => absurd ((hon 6 z6_3).symm.trans h1_) z6_9, fun _ h1_ => absurd ((hon 6 z6_3).symm.trans h1_) z6_9, fun _ h1_ => absurd ((hon 7 z6_3).symm.trans h1_) z6_9, Q_RQ, Q_RR, Q_GB, Q_BB, Q_BS, Q_X7_, Q_X8_, Q_X9_, Q_X11_⟩
    refine steps_cons ?_ ?_
    · rintro b a w' ⟨v42, v44, v45, v46, vq, vr, gb, m7_, m8_, m9_, m11_, ha, Q_KB, Q_AP, Q_R42, Q_R44, Q_R45, Q_R46, Q_RQ, Q_RR, Q_GB, Q_BB, Q_BS, Q_X7_, Q_X8_, Q_X9_, Q_X11_⟩ hb_ hon hoff
      refine ⟨_, rfl, fun K hK => ?_⟩
      replace ha := Aside0.mk ha
      have KB := Aside0.mk Q_KB
      refine box_step (by rfl) (N := 11) rfl (cs := #[.slice none 0 0, .slice none 0 0, .int .i64 0, .int .i64 0]) (t := 37) ?_ ?_
      · first | (go_simp; done) | (go_simp; rfl)
      intro g_ hg_ w1_ hblk hb
      refine hK.out _ _ ⟨v42, v44, v45, v46, vq, vr, g_, m7_, m8_, m9_, (.pointer (some ⟨g_, 0, none⟩)), (by rw [ha.out]; exact putSel_upk 9 hb_ rfl rfl rfl), below_step KB.out hb, fun h0_ => (Q_AP h0_).grow hb.size, fun h0_ h1_ => (Q_R42 h0_ h1_).below hb, fun h0_ h1_ => (Q_R44 h0_ h1_).below hb, fun h0_ h1_ => (Q_R45 h0_ h1_).below hb, fun h0_ h1_ => (Q_R46 h0_ h1_).below hb, fun h0_ => (Q_RQ h0_).below hb, fun h0_ => (Q_RR h0_).below hb, fun _ => (hg_ ▸ KB.out.size), fun _ _ => hblk, fun h0_ => absurd ((hoff 12 z6_3).symm.trans h0_) z6_9, Q_X7_, Q_X8_, Q_X9_, fun _ => rfl⟩
    refine steps_cons ?_ ?_
    · rintro b a w' ⟨v42, v44, v45, v46, vq, vr, gb, m7_, m8_, m9_, m11_, ha, Q_KB, Q_AP, Q_R42, Q_R44, Q_R45, Q_R46, Q_RQ, Q_RR, Q_GB, Q_BB, Q_BS, Q_X7_, Q_X8_, Q_X9_, Q_X11_⟩ hb_ hon hoff
      refine ⟨_, rfl, fun K hK => ?_⟩
      have e11 : a.tmps[11]? = some (m11_) := by rw [ha]; exact putSel_on (e := (11, 11, m11_)) 9 rfl rfl (hon 11 z6_3) rfl
      rw [Q_X11_ (hon 11 z6_3)] at e11
      have e48 : a.tmps[48]? = some (m9_) := by rw [ha]; exact putSel_on (e := (9, 48, m9_)) 7 rfl rfl (hon 9 z6_3) rfl
      rw [Q_X9_ (hon 9 z6_3)] at e48
      replace ha := Aside0.mk ha
      have KB := Aside0.mk Q_KB
      have RQ := Aside0.mk (Q_RQ (hon 7 z6_3))
      have RR := Aside0.mk (Q_RR (hon 7 z6_3))
      have GB := Aside0.mk (Q_GB (hon 11 z6_3))
      have BB := Aside0.mk (Q_BB (hon 11 z6_3) hb_)
      obtain ⟨A2q, c2q, Eq_, lq_, kq_⟩ := RQ.out.open_
      obtain ⟨A2r, c2r, Er_, lr_, kr_⟩ := RR.out.open_
      rw [Eq_, Er_] at e48
      obtain ⟨⟨_, _, _, _⟩, ⟨_, _, _, _⟩⟩ := Sep.blk4 BB.out
      refine skip_ (w1 := Sep.put4 w' gb (.slice A2q v2.length c2q) (.slice A2r s2.length c2r) (.int .i64 n2) (.int .i64 u2)) (by rfl) rfl ?_ ?_
      · first | (go_simp; done) | (go_simp; rfl)
      refine hK.out _ _ ⟨v42, v44, v45, v46, vq, vr, gb, m7_, m8_, m9_, m11_, (by rw [ha.out]; exact putSel_none (v := undef) rfl), Sep.put4_below KB.out GB.out _ _ _ _, fun h0_ => absurd ((hon 6 z6_3).symm.trans h0_) z6_9, fun _ h1_ => absurd ((hon 4 z6_3).symm.trans h1_) z6_9, fun _ h1_ => absurd ((hon 6 z6_3).symm.trans h1_) z6_9, fun _ h1_ => absurd ((hon 6 z6_3).symm.trans h1_) z6_9, fun _ h1_ => absurd ((hon 7 z6_3).symm.trans h1_) z6_9, fun _ => RQ.out.keep (fun k hk => Sep.put4_far (RQ.out.ne BB.out z6_9 k hk) _ _ _ _), fun _ => RR.out.keep (fun k hk => Sep.put4_far (RR.out.ne BB.out z6_9 k hk) _ _ _ _), Q_GB, fun _ h1_ => absurd ((up_self b 12).symm.trans h1_) z6_9, fun _ => (by rw [Eq_, Er_]; exact Sep.put4_blk BB.out _ _ _ _), Q_X7_, Q_X8_, Q_X9_, Q_X11_⟩
    refine steps_cons ?_ ?_
    · rintro b a w' ⟨v42, v44, v45, v46, vq, vr, gb, m7_, m8_, m9_, m11_, ha, Q_KB, Q_AP, Q_R42, Q_R44, Q_R45, Q_R46, Q_RQ, Q_RR, Q_GB, Q_BB, Q_BS, Q_X7_, Q_X8_, Q_X9_, Q_X11_⟩ hb_ hon hoff
      refine ⟨_, rfl, fun K hK => ?_⟩
      have e49 : a.tmps[49]? = some (.bool ok2) := by rw [ha]; exact putSel_on (e := (10, 49, .bool ok2)) 8 rfl rfl (hon 10 z6_3) rfl
      replace ha := Aside0.mk ha
      have KB := Aside0.mk Q_KB
      have RQ := Aside0.mk (Q_RQ (hon 7 z6_3))
      have RR := Aside0.mk (Q_RR (hon 7 z6_3))
      have GB := Aside0.mk (Q_GB (hon 11 z6_3))
      have BS := Aside0.mk (Q_BS (hon 12 z6_3))
      refine value_ (w1 := w') (v := .bool ok2) (by rfl) rfl ?_ ?_
      · go_simp
        (try simp only [i64_w])
        try rfl
      refine hK.out _ _ ⟨v42, v44, v45, v46, vq, vr, gb, m7_, m8_, m9_, m11_, (by rw [ha.out]; exact putSel_upk 10 hb_ rfl rfl rfl), Q_KB, fun h0_ => absurd ((hon 6 z6_3).symm.trans h0_) z6_9, fun _ h1_ => absurd ((hon 4 z6_3).symm.trans h1_) z6_9, fun _ h1_ => absurd ((hon 6 z6_3).symm.trans h1_) z6_9, fun _ h1_ => absurd ((hon 6 z6_3).symm.trans h1_) z6_9, fun _ h1_ => absurd ((hon 7 z6_3).symm.trans h1_) z6_9, Q_RQ, Q_RR, Q_GB, fun _ h1_ => absurd ((hon 12 z6_3).symm.trans h1_) z6_9, Q_BS, Q_X7_, Q_X8_, Q_X9_, Q_X11_⟩
    exact steps_nil
  · rintro b a w' hall ⟨v42, v44, v45, v46, vq, vr, gb, m7_, m8_, m9_, m11_, ha, Q_KB, Q_AP, Q_R42, Q_R44, Q_R45, Q_R46, Q_RQ, Q_RR, Q_GB, Q_BB, Q_BS, Q_X7_, Q_X8_, Q_X9_, Q_X11_⟩
    have hb0_ := hall 0 z6_3
    have hb2_ := hall 2 z6_3
    have hb4_ := hall 4 z6_3
    have hb5_ := hall 5 z6_3
    have hb6_ := hall 6 z6_3
    have hb7_ := hall 7 z6_3
    have hb8_ := hall 8 z6_3
    have hb9_ := hall 9 z6_3
    have hb10_ := hall 10 z6_3
    have hb11_ := hall 11 z6_3
    have hb12_ := hall 12 z6_3
    have hb13_ := hall 13 z6_3
    subst ha
    obtain rfl := Q_X7_ hb7_
    obtain rfl := Q_X8_ hb8_
    obtain rfl := Q_X9_ hb9_
    obtain rfl := Q_X11_ hb11_
    simp only [putSel, hb0_, hb2_, hb4_, hb5_, hb6_, hb7_, hb8_, hb9_, hb10_, hb11_, hb12_, hb13_, if_true, Act.put, List.setIfInBounds_toArray, List.set_cons_zero, List.set_cons_succ]
    have KB := Aside0.mk Q_KB
    clear Q_KB
    clear Q_AP
    clear Q_R42
    clear Q_R44
    clear Q_R45
    clear Q_R46
    have RQ := Aside0.mk (Q_RQ hb7_)
    clear Q_RQ
    have RR := Aside0.mk (Q_RR hb7_)
    clear Q_RR
    have GB := Aside0.mk (Q_GB hb11_)
    clear Q_GB
    clear Q_BB
    have BS := Aside0.mk (Q_BS hb12_)
    clear Q_BS
    clear hall hb0_ hb2_ hb4_ hb5_ hb6_ hb7_ hb8_ hb9_ hb10_ hb11_ hb12_ hb13_
    have BW := Aside0.mk (below_step HB.out KB.out)
    have HA1 := Aside0.mk (Kd.C_below HV1.out KB.out)
    have HA2 := Aside0.mk (Kd.C_below HS1.out KB.out)
    have BA11 := Aside0.mk (blk_below BA10.out KB.out)
    obtain ⟨A3, c3, Eq_, lq_, kq_⟩ := RQ.out.open_
    subst Eq_
    obtain ⟨A4, c4, Er_, lr_, kr_⟩ := RR.out.open_
    subst Er_
    have LQ := Aside0.mk lq_
    have LR2 := Aside0.mk lr_
    have KQ := Aside0.mk kq_
    have KR := Aside0.mk kr_
    clear lq_ lr_ kq_ kr_ Q_X7_ Q_X8_ Q_X9_ Q_X11_ HT_ HW_ hP10 hP7 hP6 hP3 hP2 fP2 hx0
    have hA0 : w'.cell? ⟨ga, 0, none⟩ = some (.slice A1 v1.length c1) := (blk_cell BA11.out 0).trans rfl
    have hA1 : w'.cell? ⟨ga, 1, none⟩ = some (.slice A2 s1.length c2) := (blk_cell BA11.out 1).trans rfl
    have hA2 : w'.cell? ⟨ga, 2, none⟩ = some (.int .i64 n1) := (blk_cell BA11.out 2).trans rfl
    have hA3 : w'.cell? ⟨ga, 3, none⟩ = some (.int .i64 u1) := (blk_cell BA11.out 3).trans rfl
    have hB0 : w'.cell? ⟨gb, 0, none⟩ = some (.slice A3 v2.length c3) := (blk_cell BS.out 0).trans rfl
    have hB1 : w'.cell? ⟨gb, 1, none⟩ = some (.slice A4 s2.length c4) := (blk_cell BS.out 1).trans rfl
    have hB2 : w'.cell? ⟨gb, 2, none⟩ = some (.int .i64 n2) := (blk_cell BS.out 2).trans rfl
    have hB3 : w'.cell? ⟨gb, 3, none⟩ = some (.int .i64 u2) := (blk_cell BS.out 3).trans rfl
    by_cases hU : u1 = (u.length : Int)
    · have q2 : (u1 == (u.length : Int)) = true := beq_iff_eq.mpr hU
      have q3 : (u1 = (u.length : Int)) = True := eq_true hU
      have HU1 := Aside0.mk hU
      clear hU
      cases ok1 <;> cases ok2
      · go_wp2
        go_ret
        exact ⟨rfl, BW.out⟩
      · go_wp2
        go_ret
        exact ⟨rfl, BW.out⟩
      · go_wp2
        go_ret
        exact ⟨rfl, BW.out⟩
      · go_wp2_with (first | (go_at_call 24; (with_reducible refine (laws_sameEffect.calls k _ _ v1 _ _ s1 n1 u1 _ _ v2 _ _ s2 n2 u2 e _ HA1.out LV1.out HA2.out LS1.out KQ.out LQ.out KR.out LR2.out (T3.out rfl rfl HU1.out)).mono ?_); rintro e' w12 ⟨rfl, hb⟩; have HZ := Aside0.mk (below_step BW.out hb); clear hb) | fail)
        go_ret
        exact ⟨(show Ending.returned (Value.bool e) = _ by simp [q3]), HZ.out⟩
    · have q2 : (u1 == (u.length : Int)) = false := by rw [beq_eq_false_iff_ne]; exact hU
      have q3 : (u1 = (u.length : Int)) = False := eq_false hU
      clear hU
      cases ok1 <;> cases ok2
      all_goals
        go_wp2
        go_ret
        exact ⟨by simp [q3], BW.out⟩
set_option maxHeartbeats 8000000 in
set_option maxRecDepth 100000 in
theorem laws_FnSenses.big (A0 : Option Addr) (c0 : Nat) (l0 : List Int) (w : World) (hr0 : Kd.C (Kd.int .u8) w A0 l0.length l0) (hc0 : l0.length ≤ c0) (h0 : laws_big.f l0 = some true) :
    Calls Try.prog 5 #[.slice A0 l0.length c0] w fun e_ w' => e_ = .returned (.bool true) ∧ Below w.heap.size w w' := by
  have HR0 := Aside0.mk hr0
  have HC0 := Aside0.mk hc0
  have T0 := Aside0.mk h0
  clear hr0 hc0 h0
  go_enter Try.func5, Try.ntmps5
  go_wp2_with (first | (go_at_call 13; (with_reducible refine (laws_big.calls _ _ l0 true _ HR0.out HC0.out T0.out).mono ?_); rintro e w' ⟨rfl, ⟨nd, rfl⟩⟩) | fail)
  go_ret
  exact ⟨rfl, by repeat (first | exact Below.refl _ _ | apply pw_below_drewN | apply below_drew1)⟩

theorem laws_FnSenses.calls (k : Nat) (A0 : Option Addr) (c0 : Nat) (l0 : List Int) (r : Bool) (w : World) (hr0 : Kd.C (Kd.int .u8) w A0 l0.length l0) (hc0 : l0.length ≤ c0) (h : laws_FnSenses.f k l0 = some r) :
    Calls Try.prog 5 #[.slice A0 l0.length c0] w fun e w' => e = .returned (.bool r) ∧ Below w.heap.size w w' := by
  unfold laws_FnSenses.f at h
  obtain ⟨b, h0, h⟩ := Option.bind_eq_some_iff.mp h
  cases b
  · rw [if_neg z6_9] at h
    obtain ⟨p, hp, h⟩ := Option.bind_eq_some_iff.mp h
    obtain ⟨v, hv, h⟩ := Option.bind_eq_some_iff.mp h
    obtain ⟨rs, hr, h⟩ := Option.bind_eq_some_iff.mp h
    obtain ⟨x, hx, h⟩ := Option.bind_eq_some_iff.mp h
    by_cases hx0 : 0 < (x.length : Int)
    · rw [if_pos hx0] at h
      obtain ⟨u, hu, h⟩ := Option.bind_eq_some_iff.mp h
      obtain ⟨⟨v1, s1, n1, u1, ok1⟩, h1, h⟩ := Option.bind_eq_some_iff.mp h
      simp only [Option.bind_some, List.nil_append] at h
      by_cases cl : ([] : List Int).length + u.length < 17592186044416
      · rw [if_pos cl] at h
        by_cases cl2 : u.length + ([5, 7] : List Int).length < 17592186044416
        · rw [if_pos cl2] at h
          obtain ⟨⟨v2, s2, n2, u2, ok2⟩, h2, h⟩ := Option.bind_eq_some_iff.mp h
          have hl : u.length < 17592186044414 := by simp only [List.length_cons, List.length_nil] at cl2; omega
          have key : ∃ e, (ok1 = true → ok2 = true → u1 = (u.length : Int) → laws_sameEffect.f k v1 s1 n1 u1 v2 s2 n2 u2 = some e) ∧ r = (ok1 && ok2 && decide (u1 = (u.length : Int)) && e) := by
            dsimp only at h
            by_cases c1 : ok1 = true
            · rw [if_pos c1] at h
              by_cases c2 : ok2 = true
              · rw [if_pos c2] at h
                by_cases c3 : u1 = (u.length : Int)
                · rw [if_pos c3] at h
                  obtain ⟨e, he, h⟩ := Option.bind_eq_some_iff.mp h
                  cases h
                  exact ⟨r, fun _ _ _ => he, by simp [c1, c2, c3]⟩
                · rw [if_neg c3] at h
                  cases h
                  exact ⟨true, fun _ _ h => absurd h c3, by simp [c3]⟩
              · rw [if_neg c2] at h
                cases h
                exact ⟨true, fun _ h => absurd h c2, by simp [c2]⟩
            · rw [if_neg c1] at h
              cases h
              exact ⟨true, fun h => absurd h c1, by simp [c1]⟩
          obtain ⟨e, h3, rfl⟩ := key
          exact laws_FnSenses.yes k A0 c0 l0 p v rs x u v1 s1 v2 s2 n1 u1 n2 u2 ok1 ok2 e w hr0 hc0 h0 hp hv hr hx hx0 hu h1 hl h2 h3
        · rw [if_neg cl2] at h
          cases h
      · rw [if_neg cl] at h
        cases h
    · rw [if_neg hx0] at h
      cases h
  · rw [if_pos rfl] at h
    cases h
    exact laws_FnSenses.big A0 c0 l0 w hr0 hc0 h0

/-- THE ONE PURE STATEMENT of laws_FnSenses: yours. -/
def laws_FnSenses.Pure : Prop := ∀ (l0 : List Int), l0.length ≤ maxLen → l0.length * 1 ≤ 140737488351232 → (∀ x ∈ l0, (Lit.int .u8 x).wf = true) → ∃ k, laws_FnSenses.f k l0 = some true
theorem laws_FnSenses.walk (P : laws_FnSenses.Pure) (a0 : Option Addr) (len0 cap0 : Nat) (z0 : List Int) (w : World) (w0 : (a0 = none ∧ len0 = 0 ∧ cap0 = 0 ∧ z0 = []) ∨ ∃ x, a0 = some x ∧ len0 ≤ cap0 ∧ cap0 ≤ maxLen ∧ z0.length = cap0 ∧ (∀ i, i < z0.length → w.cell? (x.add i) = some (.int .u8 (z0.getD i 0))) ∧ ∀ n ∈ z0, (Lit.int .u8 n).wf = true) (y0 : len0 * 1 ≤ 140737488351232) :
    Calls Try.prog 5 #[.slice a0 len0 cap0] w fun e w' => e = .returned (.bool true) ∧ Below w.heap.size w w' := by
  obtain ⟨l0, rfl, hr0, hm0, hw0, hc0⟩ := ReadsInt.ofRowC w0
  obtain ⟨k, h⟩ := P l0 hm0 y0 hw0
  refine (laws_FnSenses.calls k _ _ l0 true w (Kd.C_of_reads (d := (0 : Int)) (h1 := fun _ => rfl) hr0) hc0 h).mono ?_
  rintro e w' ⟨rfl, hd⟩
  exact ⟨rfl, hd⟩

end Go.Proofs.Ytakhaknglhgimaa.G
