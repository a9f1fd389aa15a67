/- Functions of the program as plain Lean functions, and that each call comes to its function's answer; written by a program of the session. No condition. -/
import Derived.Test.YtccjlmpeogifkaaGx0
import Derived.Test.YtccjlmpeogifkaaGx4
import Derived.Test.YtccjlmpeogifkaaGx6
import Derived.Test.YtccjlmpeogifkaaGx7
import Derived.Test.YtccjlmpeogifkaaGx8
import Derived.Test.YtccjlmpeogifkaaGx14
import Derived.Test.YtccjlmpeogifkaaGx15
namespace Go.Proofs.Ytccjlmpeogifkaa.G
open Go.RowKit Go.Proofs.YtccjlmpeogifkaaW.PrintWords Go.Proofs.YtccjlmpeogifkaaW.PrintLast Go.Proofs.YtccjlmpeogifkaaW.PrintMore
attribute [local go_sem] max2_int min2_int max_two min_two max_three min_three max_four min_four   -- for this text's walks alone
set_option linter.unusedVariables false
set_option linter.unusedSimpArgs false
theorem z16_0 {P : Prop} (h : P := by repeat (first | (with_reducible first | exact HB.out | apply below_alloc | apply pw_below_drewN | apply below_drew1) | exact HB.out)) : P := h
theorem z16_1 {P : Prop} (h : P := by (try simp only [List.map_toArray, List.map_cons, List.map_nil]); first | done | rfl | (simp only [List.length_drop, List.length_take]; rfl)) : P := h
theorem z16_2 {P : Prop} (h : P := by rw [hw]; exact (by (with_reducible repeat (first | refine blk_drewN ?_ _ | refine blk_drew ?_ | refine blk_alloc ?_ _)); refine blk_put (cs := #[.int .i64 ((rd_T55 l0 x4_1).f0), .int .i64 ((rd_T55 l0 x4_1).f1), .int .i64 ((rd_T55 l0 x4_1).f2), .int .i64 ((rd_T55 l0 x4_1).f3.f0), .int .i64 ((rd_T55 l0 x4_1).f3.f1), .int .i64 0]) ?_ 5 _ rfl; (with_reducible repeat (first | refine blk_drewN ?_ _ | refine blk_drew ?_ | refine blk_alloc ?_ _)); refine blk_put (cs := #[.int .i64 ((rd_T55 l0 x4_1).f0), .int .i64 ((rd_T55 l0 x4_1).f1), .int .i64 ((rd_T55 l0 x4_1).f2), .int .i64 ((rd_T55 l0 x4_1).f3.f0), .int .i64 0, .int .i64 0]) ?_ 4 _ rfl; (with_reducible repeat (first | refine blk_drewN ?_ _ | refine blk_drew ?_ | refine blk_alloc ?_ _)); refine blk_put (cs := #[.int .i64 ((rd_T55 l0 x4_1).f0), .int .i64 ((rd_T55 l0 x4_1).f1), .int .i64 ((rd_T55 l0 x4_1).f2), .int .i64 0, .int .i64 0, .int .i64 0]) ?_ 3 _ rfl; (with_reducible repeat (first | refine blk_drewN ?_ _ | refine blk_drew ?_ | refine blk_alloc ?_ _)); refine blk_put (cs := #[.int .i64 ((rd_T55 l0 x4_1).f0), .int .i64 ((rd_T55 l0 x4_1).f1), .int .i64 0, .int .i64 0, .int .i64 0, .int .i64 0]) ?_ 2 _ rfl; (with_reducible repeat (first | refine blk_drewN ?_ _ | refine blk_drew ?_ | refine blk_alloc ?_ _)); refine blk_put (cs := #[.int .i64 ((rd_T55 l0 x4_1).f0), .int .i64 0, .int .i64 0, .int .i64 0, .int .i64 0, .int .i64 0]) ?_ 1 _ rfl; (with_reducible repeat (first | refine blk_drewN ?_ _ | refine blk_drew ?_ | refine blk_alloc ?_ _)); refine blk_put (cs := #[.int .i64 0, .int .i64 0, .int .i64 0, .int .i64 0, .int .i64 0, .int .i64 0]) ?_ 0 _ rfl; (with_reducible repeat (first | refine blk_drewN ?_ _ | refine blk_drew ?_ | refine blk_alloc ?_ _)); exact BK526.out)) : P := h
theorem z16_3 {P : Prop} (h : P := by repeat (first | (with_reducible first | exact HB.out | apply below_alloc | apply pw_below_drewN | apply below_drew1 | refine below_set ?_ GE526.out) | exact HB.out)) : P := h
theorem z16_4 {P : Prop} (h : P := by repeat (first | exact (Kd.C_below HR0_0.out HB.out) | (with_reducible refine Kd.C_alloc ?_ _) | (with_reducible refine Kd.C_drewN ?_ _) | (with_reducible refine Kd.C_drew ?_))) : P := h
theorem z16_5 {P : Prop} (h : P := by first | (with_reducible assumption) | assumption) : P := h
theorem z16_6 {P : Prop} (h : P := by repeat (first | (with_reducible first | exact HB.out | apply below_alloc | apply pw_below_drewN | apply below_drew1 | refine below_set ?_ GE540.out) | exact HB.out)) : P := h
theorem z16_7 {P : Prop} (h : P := by repeat (first | (with_reducible first | exact HB.out | apply below_alloc | apply pw_below_drewN | apply below_drew1 | refine below_set ?_ GE513.out) | exact HB.out)) : P := h
theorem z16_8 {P : Prop} (h : P := by first | rfl | (simp; done) | (simp [*]; done)) : P := h
theorem z16_9 {P : Prop} (h : P := by kernel_rfl) : P := h
theorem z16_10 {P : Prop} (h : P := by first | (go_simp; done) | (go_simp; rfl)) : P := h
theorem z16_11 {P : Prop} (h : P := by repeat (first | (with_reducible first | exact HB.out | apply below_alloc | apply pw_below_drewN | apply below_drew1 | refine below_set ?_ GE519.out) | exact HB.out)) : P := h
theorem z16_12 {P : Prop} (h : P := by (with_reducible repeat (first | refine blk_drewN ?_ _ | refine blk_drew ?_ | refine blk_alloc ?_ _)); exact BK526.out) : P := h
theorem z16_13 {P : Prop} (h : P := by (with_reducible repeat (first | refine blk_drewN ?_ _ | refine blk_drew ?_ | refine blk_alloc ?_ _)); exact BK540.out) : P := h
theorem z16_14 {P : Prop} (h : P := by (with_reducible repeat (first | refine blk_drewN ?_ _ | refine blk_drew ?_ | refine blk_alloc ?_ _)); exact BK513.out) : P := h
theorem z16_15 {P : Prop} (h : P := by repeat (first | (with_reducible first | exact HB.out | apply below_alloc | apply pw_below_drewN | apply below_drew1 | refine below_set ?_ GE510.out) | exact HB.out)) : P := h
theorem z16_16 {P : Prop} (h : P := by (with_reducible repeat (first | refine blk_drewN ?_ _ | refine blk_drew ?_ | refine blk_alloc ?_ _)); exact BK519.out) : P := h
theorem z16_17 {P : Prop} (h : P := by (with_reducible repeat (first | refine blk_drewN ?_ _ | refine blk_drew ?_ | refine blk_alloc ?_ _)); exact BK510.out) : P := h
theorem z16_18 {P : Prop} (h : P := by rw [hg]; exact (below_size z16_0)) : P := h
/-! ### spec_l21Bound: function 41 -/
mutual
def spec_l21Bound.l0 : Nat → List (S55) → Int → Int → Int → Option (Int)
 | 0, _, _, _, _ => none
 | k + 1, x0, x2, x7, x8 => if x8 < x2 then (if 0 ≤ x8 then (if x8 < (x0.length : Int) then (if ((rd_T55 x0 x8).f0) = 4 then (spec_l21Bound.j1 k x0 x2 x7 x8 (((rd_T55 x0 x8).f0) == 4)) else (spec_l21Bound.j1 k x0 x2 x7 x8 (((rd_T55 x0 x8).f0) == 5))) else (none)) else (none)) else (some x7)
def spec_l21Bound.j1 : Nat → List (S55) → Int → Int → Int → Bool → Option (Int)
 | 0, _, _, _, _, _ => none
 | k + 1, x0, x2, x7, x8, x29 => if x29 = true then ((spec_l05End.f k x0 x8).bind fun t503 => (if 0 ≤ x8 then (if x8 < (x0.length : Int) then ((spec_l11Cost.f ((rd_T55 x0 x8).f0) ((rd_T55 x0 x8).f1) ((rd_T55 x0 x8).f2) ((rd_T55 x0 x8).f3.f0) ((rd_T55 x0 x8).f3.f1) ((rd_T55 x0 x8).f3.f2)).bind fun t505 => ((spec_l21Bound.f k x0 (wrap64 (x8 + 1)) t503).bind fun t507 => (spec_l21Bound.l0 k x0 x2 (wrap64 ((wrap64 (x7 + t505)) + (wrap64 ((mx 1 ((rd_T55 x0 x8).f2)) * t507)))) (wrap64 (t503 + 1))))) else (none)) else (none))) else (if 0 ≤ x8 then (if x8 < (x0.length : Int) then ((spec_l11Cost.f ((rd_T55 x0 x8).f0) ((rd_T55 x0 x8).f1) ((rd_T55 x0 x8).f2) ((rd_T55 x0 x8).f3.f0) ((rd_T55 x0 x8).f3.f1) ((rd_T55 x0 x8).f3.f2)).bind fun t509 => (spec_l21Bound.l0 k x0 x2 (wrap64 ((wrap64 (x7 + t509)) + 3)) (wrap64 (x8 + 1)))) else (none)) else (none))
def spec_l21Bound.f : Nat → List (S55) → Int → Int → Option (Int)
 | 0, _, _, _ => none
 | k + 1, l0, a1, a2 => spec_l21Bound.l0 k l0 a2 0 a1
end
def spec_l21Bound.T10 : Bool × List (List Nat × List Nat) := (true, [([], []), ([], []), ([], []), ([1, 2], [1, 2]), ([3], [3]), ([4], [4]), ([0, 5], [0, 5]), ([], []), ([], []), ([7, 8], [7, 8]), ([9], [9]), ([10], [10]), ([11], [11]), ([], []), ([], []), ([14], [14]), ([], []), ([13, 15, 16, 5], [13, 15, 16]), ([12, 17], [12, 17]), ([6, 18], [6, 18]), ([19, 17, 0, 1, 2, 3, 4, 5, 6, 7, 8, 9, 10, 11, 12, 13, 14, 15, 16, 17, 18, 19], [0, 19])])
def spec_l21Bound.B10 : List Nat := [0, 0, 0, 6, 14, 30, 63, 0, 0, 384, 896, 1920, 3968, 0, 0, 16384, 0, 122942, 262078, 524287, 1048575]
theorem spec_l21Bound.tab10 : rtab .any (opsOf Try.f41 10) = spec_l21Bound.T10 := by kernel_rfl
theorem spec_l21Bound.bits10 : waitsOk spec_l21Bound.T10.2 spec_l21Bound.B10 = true := by kernel_rfl
set_option maxHeartbeats 8000000 in
set_option maxRecDepth 100000 in
theorem spec_l21Bound.calls (k : Nat) : ∀ (A0 : Option Addr) (c0 : Nat) (l0 : List (S55)) (a1 : Int) (a2 : Int) (r : Int) (w : World) (hr0 : Kd.C k55 w A0 l0.length l0) (hc0 : l0.length ≤ c0) (h : spec_l21Bound.f k l0 a1 a2 = some r),
  Calls Try.prog 41 #[.slice A0 l0.length c0, .int .i64 a1, .int .i64 a2] w fun e w' => e = .returned (.int .i64 r) ∧ Below w.heap.size w w' := by
 induction k using Nat.strongRecOn with
 | _ k ih =>
 intro A0 c0 l0 a1 a2 r w hr0 hc0 h
 cases k with
 | zero => exact absurd h (by simp [spec_l21Bound.f])
 | succ k =>
 simp only [spec_l21Bound.f] at h
 have hu55 := Try.underlying55
 have HR0 := Aside0.mk hr0
 have HC0 := Aside0.mk hc0
 clear hr0 hc0
 have HB := Aside0.mk (Below.refl w.heap.size w)
 have H : (spec_l21Bound.l0 k l0 a2 0 a1) = some r := h
 clear h
 have H' := Aside0.mk H
 clear H
 go_enter Try.func41, Try.ntmps41
 go_wp2
 go_loopg [7, 8] k (fun kq v7 v8 w' => ∃ (x7_1 : Int) (x8_1 : Int), v7 = .int .i64 x7_1 ∧ v8 = .int .i64 x8_1 ∧ Aside0 (spec_l21Bound.l0 kq l0 a2 x7_1 x8_1 = some r) ∧ Aside0 (kq ≤ k) ∧ Aside0 (Below w.heap.size w w'))
 case atStart => exact ⟨(0), (a1), z16_8, z16_8, H', ⟨Nat.le_refl _⟩, ⟨by repeat (first | (with_reducible first | exact HB.out | apply below_alloc | apply pw_below_drewN | apply below_drew1) | exact HB.out)⟩⟩
 case round =>
  clear H'
  obtain ⟨x7_1, x8_1, rfl, rfl, HA, HK1, HB⟩ := hrel
  cases gk with
  | zero => exact absurd HA.out (by simp [spec_l21Bound.l0])
  | succ k1 =>
   have H := HA.out
   clear HA
   simp only [spec_l21Bound.l0] at H
   by_cases c4 : x8_1 < a2
   ·rw [if_pos c4] at H
    have c4b0 : decide (x8_1 < a2) = true := decide_eq_true c4
    clear c4
    by_cases c5 : 0 ≤ x8_1
    ·rw [if_pos c5] at H
     have c5b0 : decide (0 ≤ x8_1) = true := decide_eq_true c5
     clear c5
     by_cases c6 : x8_1 < (l0.length : Int)
     ·rw [if_pos c6] at H
      have c6b0 : decide (x8_1 < (l0.length : Int)) = true := decide_eq_true c6
      clear c6
      have HC7 := Aside0.mk H
      clear H
      have p502 : 0 ≤ (x8_1 : Int) := of_decide_eq_true z16_5
      have q502 : x8_1 < (l0.length : Int) := of_decide_eq_true z16_5
      obtain ⟨ad502, e502, hx502_0, hx502_1, hx502_2, hx502_3, hx502_4, hx502_5⟩ := at_T55 HR0.out x8_1 p502 q502
      cases e502
      replace hx502_0 := (HB.out.cell (World.block_lt_of_cell? w _ hx502_0)).trans hx502_0
      replace hx502_1 := (HB.out.cell (World.block_lt_of_cell? w _ hx502_1)).trans hx502_1
      replace hx502_2 := (HB.out.cell (World.block_lt_of_cell? w _ hx502_2)).trans hx502_2
      replace hx502_3 := (HB.out.cell (World.block_lt_of_cell? w _ hx502_3)).trans hx502_3
      replace hx502_4 := (HB.out.cell (World.block_lt_of_cell? w _ hx502_4)).trans hx502_4
      replace hx502_5 := (HB.out.cell (World.block_lt_of_cell? w _ hx502_5)).trans hx502_5
      replace p502 := eq_true p502
      replace q502 := eq_true q502
      go_upto_if 29 with (fail)
      go_cut [29] (fun v29 wc => ∃ (kq : Nat) (x29_6 : Bool), v29 = .bool x29_6 ∧ Aside0 (spec_l21Bound.j1 kq l0 a2 x7_1 x8_1 x29_6 = some r) ∧ Aside0 (kq ≤ k1) ∧ Aside0 (Below w.heap.size w wc))
      case first =>
       have H := HC7.out
       clear HC7
       by_cases c8 : ((rd_T55 l0 x8_1).f0) = 4
       ·rw [if_pos c8] at H
        have c8b0 : (((rd_T55 l0 x8_1).f0) == 4) = true := beq_iff_eq.mpr c8
        have c8b1 : (((rd_T55 l0 x8_1).f0) != 4) = false := bne_eq_false_iff_eq.mpr c8
        clear c8
        (first | rw [c8b0] | (simp only [i64_w, i32_w]; rw [c8b0]) | skip)
        have H' := Aside0.mk H
        clear H
        go_wp2
        go_meet
        case rel => exact ⟨_, ((((rd_T55 l0 x8_1).f0) == 4)), z16_8, H', ⟨by have := HK1.out; first | omega | exact Nat.le_refl _⟩, ⟨by repeat (first | (with_reducible first | exact HB.out | apply below_alloc | apply pw_below_drewN | apply below_drew1) | exact HB.out)⟩⟩
       ·rw [if_neg c8] at H
        have c8b0 : (((rd_T55 l0 x8_1).f0) == 4) = false := beq_eq_false_iff_ne.mpr c8
        have c8b1 : (((rd_T55 l0 x8_1).f0) != 4) = true := bne_iff_ne.mpr c8
        (first | rw [c8b0] | (simp only [i64_w, i32_w]; rw [c8b0]) | skip)
        have H' := Aside0.mk H
        clear H
        go_wp2
        go_meet
        case rel => exact ⟨_, ((((rd_T55 l0 x8_1).f0) == 5)), z16_8, H', ⟨by have := HK1.out; first | omega | exact Nat.le_refl _⟩, ⟨by repeat (first | (with_reducible first | exact HB.out | apply below_alloc | apply pw_below_drewN | apply below_drew1) | exact HB.out)⟩⟩
      case rest =>
       clear HC7
       (try clear c4); (try clear c4b0); (try clear c5); (try clear c5b0); (try clear c6); (try clear c6b0); (try clear hx502_0); (try clear hx502_1); (try clear hx502_2); (try clear hx502_3); (try clear hx502_4); (try clear hx502_5); (try clear p502); (try clear q502)
       obtain ⟨kq, x29_6, rfl, HA, HJ6, HB⟩ := hcut
       cases kq with
       | zero => exact absurd HA.out (by simp [spec_l21Bound.j1])
       | succ kj6 =>
        have H := HA.out
        clear HA
        simp only [spec_l21Bound.j1] at H
        by_cases c9 : x29_6 = true
        ·subst c9
         have H1 : ((spec_l05End.f kj6 l0 x8_1).bind fun t503 => (if 0 ≤ x8_1 then (if x8_1 < (l0.length : Int) then ((spec_l11Cost.f ((rd_T55 l0 x8_1).f0) ((rd_T55 l0 x8_1).f1) ((rd_T55 l0 x8_1).f2) ((rd_T55 l0 x8_1).f3.f0) ((rd_T55 l0 x8_1).f3.f1) ((rd_T55 l0 x8_1).f3.f2)).bind fun t505 => ((spec_l21Bound.f kj6 l0 (wrap64 (x8_1 + 1)) t503).bind fun t507 => (spec_l21Bound.l0 kj6 l0 a2 (wrap64 ((wrap64 (x7_1 + t505)) + (wrap64 ((mx 1 ((rd_T55 l0 x8_1).f2)) * t507)))) (wrap64 (t503 + 1))))) else (none)) else (none))) = some r := by rw [if_pos rfl] at H; exact H
         clear H
         have H := H1
         clear H1
         replace H := Option.bind_eq_some_iff.mp H
         obtain ⟨t503, A100, H⟩ := H
         replace H : (if 0 ≤ x8_1 then (if x8_1 < (l0.length : Int) then ((spec_l11Cost.f ((rd_T55 l0 x8_1).f0) ((rd_T55 l0 x8_1).f1) ((rd_T55 l0 x8_1).f2) ((rd_T55 l0 x8_1).f3.f0) ((rd_T55 l0 x8_1).f3.f1) ((rd_T55 l0 x8_1).f3.f2)).bind fun t505 => ((spec_l21Bound.f kj6 l0 (wrap64 (x8_1 + 1)) t503).bind fun t507 => (spec_l21Bound.l0 kj6 l0 a2 (wrap64 ((wrap64 (x7_1 + t505)) + (wrap64 ((mx 1 ((rd_T55 l0 x8_1).f2)) * t507)))) (wrap64 (t503 + 1))))) else (none)) else (none)) = some r := H
         have A10 := Aside0.mk A100
         clear A100
         by_cases c11 : 0 ≤ x8_1
         ·rw [if_pos c11] at H
          have c11b0 : decide (0 ≤ x8_1) = true := decide_eq_true c11
          clear c11
          by_cases c12 : x8_1 < (l0.length : Int)
          ·rw [if_pos c12] at H
           have c12b0 : decide (x8_1 < (l0.length : Int)) = true := decide_eq_true c12
           clear c12
           replace H := Option.bind_eq_some_iff.mp H
           obtain ⟨t505, A130, H⟩ := H
           replace H : ((spec_l21Bound.f kj6 l0 (wrap64 (x8_1 + 1)) t503).bind fun t507 => (spec_l21Bound.l0 kj6 l0 a2 (wrap64 ((wrap64 (x7_1 + t505)) + (wrap64 ((mx 1 ((rd_T55 l0 x8_1).f2)) * t507)))) (wrap64 (t503 + 1)))) = some r := H
           have A13 := Aside0.mk A130
           clear A130
           obtain ⟨ji14, hji14⟩ : ∃ j_ : Int, (mx 1 ((rd_T55 l0 x8_1).f2)) = j_ := ⟨_, rfl⟩
           replace H : ((spec_l21Bound.f kj6 l0 (wrap64 (x8_1 + 1)) t503).bind fun t507 => (spec_l21Bound.l0 kj6 l0 a2 (wrap64 ((wrap64 (x7_1 + t505)) + (wrap64 ((ji14) * t507)))) (wrap64 (t503 + 1)))) = some r := by first | (rw [hji14] at H; exact H) | (simp only [hji14] at H ⊢; exact H)
           (try rw [hji14] at A10)
           (try rw [hji14] at A13)
           have hji14_ : (if 1 < ((rd_T55 l0 x8_1).f2) then ((rd_T55 l0 x8_1).f2) else 1) = ji14 := hji14
           replace H := Option.bind_eq_some_iff.mp H
           obtain ⟨t507, A150, H⟩ := H
           replace H : (spec_l21Bound.l0 kj6 l0 a2 (wrap64 ((wrap64 (x7_1 + t505)) + (wrap64 ((ji14) * t507)))) (wrap64 (t503 + 1))) = some r := H
           have A15 := Aside0.mk A150
           clear A150
           have H' := Aside0.mk H
           clear H
           try go_wp2_with (first | ((with_reducible refine gate_callee (f := 58) rfl ?_); refine goesL_ (some 34) rfl rfl Try.func58 z16_9 rfl #[.slice (some ad502) l0.length c0, .int .i64 x8_1] rfl z16_1 ?_; (with_reducible refine (spec_l05End.calls kj6 _ _ l0 x8_1 t503 _ ?side1 ?side2 A10.out).mono ?_); (case side1 => repeat (first | exact (Kd.C_below HR0.out HB.out) | (with_reducible refine Kd.C_alloc ?_ _) | (with_reducible refine Kd.C_drewN ?_ _) | (with_reducible refine Kd.C_drew ?_))); (case side2 => exact HC0.out); rintro e w16 ⟨rfl, hb⟩; refine ⟨_, rfl, ?_⟩; have n0_ := Aside0.mk (below_step z16_0 hb); clear HB; have HB := n0_; clear n0_; (try clear hb); (try clear hb2); (try clear hk); (try clear hi)))
           have n0_ := Aside0.mk (below_drew1 HB.out)
           clear HB
           have HB := n0_
           clear n0_
           have p504 : 0 ≤ (x8_1 : Int) := of_decide_eq_true z16_5
           have q504 : x8_1 < (l0.length : Int) := of_decide_eq_true z16_5
           obtain ⟨ad504, e504, hx504_0, hx504_1, hx504_2, hx504_3, hx504_4, hx504_5⟩ := at_T55 HR0.out x8_1 p504 q504
           have hw504_5 := hx504_5
           have hw504_4 := hx504_4
           have hw504_3 := hx504_3
           have hw504_2 := hx504_2
           have hw504_1 := hx504_1
           have hw504_0 := hx504_0
           obtain rfl : ad502 = ad504 := (by injection e504)
           replace hx504_0 := (HB.out.cell (World.block_lt_of_cell? w _ hx504_0)).trans hx504_0
           replace hx504_1 := (HB.out.cell (World.block_lt_of_cell? w _ hx504_1)).trans hx504_1
           replace hx504_2 := (HB.out.cell (World.block_lt_of_cell? w _ hx504_2)).trans hx504_2
           replace hx504_3 := (HB.out.cell (World.block_lt_of_cell? w _ hx504_3)).trans hx504_3
           replace hx504_4 := (HB.out.cell (World.block_lt_of_cell? w _ hx504_4)).trans hx504_4
           replace hx504_5 := (HB.out.cell (World.block_lt_of_cell? w _ hx504_5)).trans hx504_5
           replace p504 := eq_true p504
           replace q504 := eq_true q504
           have p506 : 0 ≤ (x8_1 : Int) := of_decide_eq_true z16_5
           have q506 : x8_1 < (l0.length : Int) := of_decide_eq_true z16_5
           obtain ⟨ad506, e506, hx506_0, hx506_1, hx506_2, hx506_3, hx506_4, hx506_5⟩ := at_T55 HR0.out x8_1 p506 q506
           have hw506_5 := hx506_5
           have hw506_4 := hx506_4
           have hw506_3 := hx506_3
           have hw506_2 := hx506_2
           have hw506_1 := hx506_1
           have hw506_0 := hx506_0
           obtain rfl : ad502 = ad506 := (by injection e506)
           replace hx506_0 := (HB.out.cell (World.block_lt_of_cell? w _ hx506_0)).trans hx506_0
           replace hx506_1 := (HB.out.cell (World.block_lt_of_cell? w _ hx506_1)).trans hx506_1
           replace hx506_2 := (HB.out.cell (World.block_lt_of_cell? w _ hx506_2)).trans hx506_2
           replace hx506_3 := (HB.out.cell (World.block_lt_of_cell? w _ hx506_3)).trans hx506_3
           replace hx506_4 := (HB.out.cell (World.block_lt_of_cell? w _ hx506_4)).trans hx506_4
           replace hx506_5 := (HB.out.cell (World.block_lt_of_cell? w _ hx506_5)).trans hx506_5
           replace p506 := eq_true p506
           replace q506 := eq_true q506
           refine start_ (n := 21) (S := fun w' => w'.cell? (ad502.add ((x8_1).toNat * 6)) = some (.int .i64 ((rd_T55 l0 x8_1).f0)) ∧ w'.cell? ⟨(ad502.add ((x8_1).toNat * 6)).block, (ad502.add ((x8_1).toNat * 6)).off + 1, none⟩ = some (.int .i64 ((rd_T55 l0 x8_1).f1)) ∧ w'.cell? ⟨(ad502.add ((x8_1).toNat * 6)).block, (ad502.add ((x8_1).toNat * 6)).off + 2, none⟩ = some (.int .i64 ((rd_T55 l0 x8_1).f2)) ∧ w'.cell? ⟨(ad502.add ((x8_1).toNat * 6)).block, (ad502.add ((x8_1).toNat * 6)).off + 3, none⟩ = some (.int .i64 ((rd_T55 l0 x8_1).f3.f0)) ∧ w'.cell? ⟨(ad502.add ((x8_1).toNat * 6)).block, (ad502.add ((x8_1).toNat * 6)).off + 4, none⟩ = some (.int .i64 ((rd_T55 l0 x8_1).f3.f1)) ∧ w'.cell? ⟨(ad502.add ((x8_1).toNat * 6)).block, (ad502.add ((x8_1).toNat * 6)).off + 5, none⟩ = some (.int .i64 ((rd_T55 l0 x8_1).f3.f2)) ∧ w'.cell? (ad502.add ((x8_1).toNat * 6)) = some (.int .i64 ((rd_T55 l0 x8_1).f0)) ∧ w'.cell? ⟨(ad502.add ((x8_1).toNat * 6)).block, (ad502.add ((x8_1).toNat * 6)).off + 1, none⟩ = some (.int .i64 ((rd_T55 l0 x8_1).f1)) ∧ w'.cell? ⟨(ad502.add ((x8_1).toNat * 6)).block, (ad502.add ((x8_1).toNat * 6)).off + 2, none⟩ = some (.int .i64 ((rd_T55 l0 x8_1).f2)) ∧ w'.cell? ⟨(ad502.add ((x8_1).toNat * 6)).block, (ad502.add ((x8_1).toNat * 6)).off + 3, none⟩ = some (.int .i64 ((rd_T55 l0 x8_1).f3.f0)) ∧ w'.cell? ⟨(ad502.add ((x8_1).toNat * 6)).block, (ad502.add ((x8_1).toNat * 6)).off + 4, none⟩ = some (.int .i64 ((rd_T55 l0 x8_1).f3.f1)) ∧ w'.cell? ⟨(ad502.add ((x8_1).toNat * 6)).block, (ad502.add ((x8_1).toNat * 6)).off + 5, none⟩ = some (.int .i64 ((rd_T55 l0 x8_1).f3.f2))) (ds := []) #[false, false, false, false, false, false, false, false, false, false, false, false, false, false, false, false, false, false, false, false, false] z16_9 rfl rfl ⟨((HB.out.cell (World.block_lt_of_cell? w _ hw504_0)).trans hw504_0), ((HB.out.cell (World.block_lt_of_cell? w _ hw504_1)).trans hw504_1), ((HB.out.cell (World.block_lt_of_cell? w _ hw504_2)).trans hw504_2), ((HB.out.cell (World.block_lt_of_cell? w _ hw504_3)).trans hw504_3), ((HB.out.cell (World.block_lt_of_cell? w _ hw504_4)).trans hw504_4), ((HB.out.cell (World.block_lt_of_cell? w _ hw504_5)).trans hw504_5), ((HB.out.cell (World.block_lt_of_cell? w _ hw506_0)).trans hw506_0), ((HB.out.cell (World.block_lt_of_cell? w _ hw506_1)).trans hw506_1), ((HB.out.cell (World.block_lt_of_cell? w _ hw506_2)).trans hw506_2), ((HB.out.cell (World.block_lt_of_cell? w _ hw506_3)).trans hw506_3), ((HB.out.cell (World.block_lt_of_cell? w _ hw506_4)).trans hw506_4), ((HB.out.cell (World.block_lt_of_cell? w _ hw506_5)).trans hw506_5)⟩ (fun hHeld => ?_); refine with_tabW spec_l21Bound.tab10 spec_l21Bound.bits10 (fun HT_ HW_ => ?_)
           generalize w16.drew = w17 at HB hx504_0 hx504_1 hx504_2 hx504_3 hx504_4 hx504_5 hx506_0 hx506_1 hx506_2 hx506_3 hx506_4 hx506_5 hHeld ⊢
           refine pure_ (i := 0) (N := some 35) (v := ?_) (a' := ?_) #[true, false, false, false, false, false, false, false, false, false, false, false, false, false, false, false, false, false, false, false, false] rfl rfl (any_of HT_.out z16_9) (fun _ _ _ h => h) (Or.inl ⟨by rfl, ?_⟩) ?_ ?_
           rotate_left
           ·intro w'
            go_simp
            with_reducible rfl
           rotate_left
           ·simp only [Act.put, List.setIfInBounds_toArray, List.set_cons_zero, List.set_cons_succ, i64_w, i32_w]
            rfl
           refine pure_ (i := 1) (N := some 36) (v := ?_) (a' := ?_) #[true, true, false, false, false, false, false, false, false, false, false, false, false, false, false, false, false, false, false, false, false] rfl rfl (any_of HT_.out z16_9) (fun _ _ _ h => h) (Or.inl ⟨by rfl, ?_⟩) ?_ ?_
           rotate_left
           ·intro w'
            go_simp
            with_reducible rfl
           rotate_left
           ·simp only [Act.put, List.setIfInBounds_toArray, List.set_cons_zero, List.set_cons_succ, i64_w, i32_w]
            rfl
           refine pure_ (i := 2) (N := some 37) (v := ?_) (a' := ?_) #[true, true, true, false, false, false, false, false, false, false, false, false, false, false, false, false, false, false, false, false, false] rfl rfl (any_of HT_.out z16_9) (fun _ _ _ h => h) (Or.inl ⟨by rfl, ?_⟩) ?_ ?_
           rotate_left
           ·intro w'
            go_simp
            with_reducible rfl
           rotate_left
           ·simp only [Act.put, List.setIfInBounds_toArray, List.set_cons_zero, List.set_cons_succ, i64_w, i32_w]
            rfl
           refine pure_ (i := 3) (N := some 38) (v := ?_) (a' := ?_) #[true, true, true, true, false, false, false, false, false, false, false, false, false, false, false, false, false, false, false, false, false] rfl rfl (any_of HT_.out z16_9) (fun _ _ _ h => h) (Or.inl ⟨by rfl, ?_⟩) ?_ ?_
           rotate_left
           ·intro w'
            go_simp
            with_reducible rfl
           rotate_left
           ·simp only [Act.put, List.setIfInBounds_toArray, List.set_cons_zero, List.set_cons_succ, i64_w, i32_w]
            rfl
           refine pure_ (i := 7) (N := some 42) (v := ?_) (a' := ?_) #[true, true, true, true, false, false, false, true, false, false, false, false, false, false, false, false, false, false, false, false, false] rfl rfl (any_of HT_.out z16_9) (fun _ _ _ h => h) (Or.inl ⟨by rfl, ?_⟩) ?_ ?_
           rotate_left
           ·intro w'
            go_simp
            with_reducible rfl
           rotate_left
           ·simp only [Act.put, List.setIfInBounds_toArray, List.set_cons_zero, List.set_cons_succ, i64_w, i32_w]
            rfl
           refine pure_ (i := 8) (N := some 43) (v := ?_) (a' := ?_) #[true, true, true, true, false, false, false, true, true, false, false, false, false, false, false, false, false, false, false, false, false] rfl rfl (any_of HT_.out z16_9) (fun _ _ _ h => h) (Or.inl ⟨by rfl, ?_⟩) ?_ ?_
           rotate_left
           ·intro w'
            go_simp
            with_reducible rfl
           rotate_left
           ·simp only [Act.put, List.setIfInBounds_toArray, List.set_cons_zero, List.set_cons_succ, i64_w, i32_w]
            rfl
           refine pure_ (i := 9) (N := some 44) (v := ?_) (a' := ?_) #[true, true, true, true, false, false, false, true, true, true, false, false, false, false, false, false, false, false, false, false, false] rfl rfl (any_of HT_.out z16_9) (fun _ _ _ h => h) (Or.inl ⟨by rfl, ?_⟩) ?_ ?_
           rotate_left
           ·intro w'
            go_simp
            with_reducible rfl
           rotate_left
           ·simp only [Act.put, List.setIfInBounds_toArray, List.set_cons_zero, List.set_cons_succ, i64_w, i32_w]
            rfl
           refine pure_ (i := 10) (N := some 45) (v := ?_) (a' := ?_) #[true, true, true, true, false, false, false, true, true, true, true, false, false, false, false, false, false, false, false, false, false] rfl rfl (any_of HT_.out z16_9) (fun _ _ _ h => h) (Or.inl ⟨by rfl, ?_⟩) ?_ ?_
           rotate_left
           ·intro w'
            go_simp
            with_reducible rfl
           rotate_left
           ·simp only [Act.put, List.setIfInBounds_toArray, List.set_cons_zero, List.set_cons_succ, i64_w, i32_w]
            rfl
           refine pure_ (i := 13) (N := some 48) (v := ?_) (a' := ?_) #[true, true, true, true, false, false, false, true, true, true, true, false, false, true, false, false, false, false, false, false, false] rfl rfl (any_of HT_.out z16_9) (fun _ _ _ h => h) (Or.inl ⟨by rfl, ?_⟩) ?_ ?_
           rotate_left
           ·intro w'
            go_simp
            with_reducible rfl
           rotate_left
           ·simp only [Act.put, List.setIfInBounds_toArray, List.set_cons_zero, List.set_cons_succ, i64_w, i32_w]
            rfl
           refine pure_ (i := 14) (N := some 49) (v := ?_) (a' := ?_) #[true, true, true, true, false, false, false, true, true, true, true, false, false, true, true, false, false, false, false, false, false] rfl rfl (any_of HT_.out z16_9) (fun _ _ _ h => h) (Or.inl ⟨by rfl, ?_⟩) ?_ ?_
           rotate_left
           ·intro w'
            go_simp
            with_reducible rfl
           rotate_left
           ·simp only [Act.put, List.setIfInBounds_toArray, List.set_cons_zero, List.set_cons_succ, i64_w, i32_w]
            rfl
           refine pure_ (i := 15) (N := some 50) (v := ?_) (a' := ?_) #[true, true, true, true, false, false, false, true, true, true, true, false, false, true, true, true, false, false, false, false, false] rfl rfl (any_of HT_.out z16_9) (fun _ _ _ h => h) (Or.inl ⟨by rfl, ?_⟩) ?_ ?_
           rotate_left
           ·intro w'
            go_simp
            with_reducible rfl
           rotate_left
           ·simp only [Act.put, List.setIfInBounds_toArray, List.set_cons_zero, List.set_cons_succ, i64_w, i32_w]
            rfl
           refine pure_ (i := 16) (N := some 51) (v := ?_) (a' := ?_) #[true, true, true, true, false, false, false, true, true, true, true, false, false, true, true, true, true, false, false, false, false] rfl rfl (any_of HT_.out z16_9) (fun _ _ _ h => h) (Or.inl ⟨by rfl, ?_⟩) ?_ ?_
           rotate_left
           ·intro w'
            go_simp
            with_reducible rfl
           rotate_left
           ·simp only [Act.put, List.setIfInBounds_toArray, List.set_cons_zero, List.set_cons_succ, i64_w, i32_w]
            rfl
           refine take_ (i := 4) (N := some 39) (v := ?_) (a' := ?_) #[true, true, true, true, true, false, false, true, true, true, true, false, false, true, true, true, true, false, false, false, false] rfl rfl (take_ofW HT_.out HW_.out z16_9) (fun _ _ _ h => h) (Or.inl ⟨by rfl, ?_⟩) hHeld ?_ ?_
           rotate_left
           ·rintro w' ⟨s0, s1, s2, s3, s4, s5, s6, s7, s8, s9, s10, s11⟩
            go_simp
            with_reducible rfl
           rotate_left
           ·simp only [Act.put, List.setIfInBounds_toArray, List.set_cons_zero, List.set_cons_succ, i64_w, i32_w]
            rfl
           refine take_ (i := 11) (N := some 46) (v := ?_) (a' := ?_) #[true, true, true, true, true, false, false, true, true, true, true, true, false, true, true, true, true, false, false, false, false] rfl rfl (take_ofW HT_.out HW_.out z16_9) (fun _ _ _ h => h) (Or.inl ⟨by rfl, ?_⟩) hHeld ?_ ?_
           rotate_left
           ·rintro w' ⟨s0, s1, s2, s3, s4, s5, s6, s7, s8, s9, s10, s11⟩
            go_simp
            with_reducible rfl
           rotate_left
           ·simp only [Act.put, List.setIfInBounds_toArray, List.set_cons_zero, List.set_cons_succ, i64_w, i32_w]
            rfl
           refine pure_ (i := 12) (N := some 47) (v := ?_) (a' := ?_) #[true, true, true, true, true, false, false, true, true, true, true, true, true, true, true, true, true, false, false, false, false] rfl rfl (any_of HT_.out z16_9) (fun _ _ _ h => h) (Or.inl ⟨by rfl, ?_⟩) ?_ ?_
           rotate_left
           ·intro w'
            go_simp
            with_reducible rfl
           rotate_left
           ·simp only [Act.put, List.setIfInBounds_toArray, List.set_cons_zero, List.set_cons_succ, i64_w, i32_w]
            rfl
           refine one_ (i := 5) (N := some 40) #[true, true, true, true, true, true, false, true, true, true, true, true, true, true, true, true, true, false, false, false, false] rfl rfl (one_of HT_.out z16_9) (by decide) (fun K hK => ?_)
           refine goes_ Try.func59 z16_9 rfl #[.agg #[.int .i64 ((rd_T55 l0 x8_1).f0), .int .i64 ((rd_T55 l0 x8_1).f1), .int .i64 ((rd_T55 l0 x8_1).f2), .int .i64 ((rd_T55 l0 x8_1).f3.f0), .int .i64 ((rd_T55 l0 x8_1).f3.f1), .int .i64 ((rd_T55 l0 x8_1).f3.f2)]] (by rfl) rfl rfl z16_1 ?_
           with_reducible refine (spec_l11Cost.calls ((rd_T55 l0 x8_1).f0) ((rd_T55 l0 x8_1).f1) ((rd_T55 l0 x8_1).f2) ((rd_T55 l0 x8_1).f3.f0) ((rd_T55 l0 x8_1).f3.f1) ((rd_T55 l0 x8_1).f3.f2) t505 _ A13.out).mono ?_
           rintro e w18 ⟨rfl, hb⟩
           refine ⟨_, rfl, ?_⟩
           have n0_ := Aside0.mk (below_step z16_0 hb)
           clear HB
           have HB := n0_
           clear n0_
           (try clear hb)
           (try clear hb2)
           (try clear hk)
           (try clear hi)
           refine hK.out _ _ ⟨((HB.out.cell (World.block_lt_of_cell? w _ hw504_0)).trans hw504_0), ((HB.out.cell (World.block_lt_of_cell? w _ hw504_1)).trans hw504_1), ((HB.out.cell (World.block_lt_of_cell? w _ hw504_2)).trans hw504_2), ((HB.out.cell (World.block_lt_of_cell? w _ hw504_3)).trans hw504_3), ((HB.out.cell (World.block_lt_of_cell? w _ hw504_4)).trans hw504_4), ((HB.out.cell (World.block_lt_of_cell? w _ hw504_5)).trans hw504_5), ((HB.out.cell (World.block_lt_of_cell? w _ hw506_0)).trans hw506_0), ((HB.out.cell (World.block_lt_of_cell? w _ hw506_1)).trans hw506_1), ((HB.out.cell (World.block_lt_of_cell? w _ hw506_2)).trans hw506_2), ((HB.out.cell (World.block_lt_of_cell? w _ hw506_3)).trans hw506_3), ((HB.out.cell (World.block_lt_of_cell? w _ hw506_4)).trans hw506_4), ((HB.out.cell (World.block_lt_of_cell? w _ hw506_5)).trans hw506_5)⟩ (fun hHeld => ?_)
           clear hK K
           refine norm_ (a' := ?_) ?_ ?_
           rotate_left
           ·show Act.put _ (some 40) _ = _
            simp only [Act.put, List.setIfInBounds_toArray, List.set_cons_zero, List.set_cons_succ, i64_w, i32_w]
            rfl
           refine pure_ (i := 6) (N := some 41) (v := ?_) (a' := ?_) #[true, true, true, true, true, true, true, true, true, true, true, true, true, true, true, true, true, false, false, false, false] rfl rfl (any_of HT_.out z16_9) (fun _ _ _ h => h) (Or.inl ⟨by rfl, ?_⟩) ?_ ?_
           rotate_left
           ·intro w'
            go_simp
            with_reducible rfl
           rotate_left
           ·simp only [Act.put, List.setIfInBounds_toArray, List.set_cons_zero, List.set_cons_succ, i64_w, i32_w]
            rfl
           refine one_ (i := 17) (N := some 52) #[true, true, true, true, true, true, true, true, true, true, true, true, true, true, true, true, true, true, false, false, false] rfl rfl (one_of HT_.out z16_9) (by decide) (fun K hK => ?_)
           refine goes_ Try.func41 z16_9 rfl #[.slice (some ad502) l0.length c0, .int .i64 (wrap64 (x8_1 + 1)), .int .i64 t503] (by rfl) rfl rfl z16_1 ?_
           with_reducible refine (ih kj6 (by have := HK1.out; have := HJ6.out; omega) _ _ l0 (wrap64 (x8_1 + 1)) t503 t507 _ ?side1 ?side2 A15.out).mono ?_
           (case side1 => repeat (first | exact (Kd.C_below HR0.out HB.out) | (with_reducible refine Kd.C_alloc ?_ _) | (with_reducible refine Kd.C_drewN ?_ _) | (with_reducible refine Kd.C_drew ?_)))
           (case side2 => exact HC0.out)
           rintro e w19 ⟨rfl, hb⟩
           refine ⟨_, rfl, ?_⟩
           have n0_ := Aside0.mk (below_step z16_0 hb)
           clear HB
           have HB := n0_
           clear n0_
           (try clear hb)
           (try clear hb2)
           (try clear hk)
           (try clear hi)
           refine hK.out _ _ ⟨((HB.out.cell (World.block_lt_of_cell? w _ hw504_0)).trans hw504_0), ((HB.out.cell (World.block_lt_of_cell? w _ hw504_1)).trans hw504_1), ((HB.out.cell (World.block_lt_of_cell? w _ hw504_2)).trans hw504_2), ((HB.out.cell (World.block_lt_of_cell? w _ hw504_3)).trans hw504_3), ((HB.out.cell (World.block_lt_of_cell? w _ hw504_4)).trans hw504_4), ((HB.out.cell (World.block_lt_of_cell? w _ hw504_5)).trans hw504_5), ((HB.out.cell (World.block_lt_of_cell? w _ hw506_0)).trans hw506_0), ((HB.out.cell (World.block_lt_of_cell? w _ hw506_1)).trans hw506_1), ((HB.out.cell (World.block_lt_of_cell? w _ hw506_2)).trans hw506_2), ((HB.out.cell (World.block_lt_of_cell? w _ hw506_3)).trans hw506_3), ((HB.out.cell (World.block_lt_of_cell? w _ hw506_4)).trans hw506_4), ((HB.out.cell (World.block_lt_of_cell? w _ hw506_5)).trans hw506_5)⟩ (fun hHeld => ?_)
           clear hK K
           refine norm_ (a' := ?_) ?_ ?_
           rotate_left
           ·show Act.put _ (some 52) _ = _
            simp only [Act.put, List.setIfInBounds_toArray, List.set_cons_zero, List.set_cons_succ, i64_w, i32_w]
            rfl
           refine pure_ (i := 18) (N := some 53) (v := ?_) (a' := ?_) #[true, true, true, true, true, true, true, true, true, true, true, true, true, true, true, true, true, true, true, false, false] rfl rfl (any_of HT_.out z16_9) (fun _ _ _ h => h) (Or.inl ⟨by rfl, ?_⟩) ?_ ?_
           rotate_left
           ·intro w'
            go_simp
            with_reducible rfl
           rotate_left
           ·simp only [Act.put, List.setIfInBounds_toArray, List.set_cons_zero, List.set_cons_succ, i64_w, i32_w]
            rfl
           refine pure_ (i := 19) (N := some 54) (v := ?_) (a' := ?_) #[true, true, true, true, true, true, true, true, true, true, true, true, true, true, true, true, true, true, true, true, false] rfl rfl (any_of HT_.out z16_9) (fun _ _ _ h => h) (Or.inl ⟨by rfl, ?_⟩) ?_ ?_
           rotate_left
           ·intro w'
            go_simp
            with_reducible rfl
           rotate_left
           ·simp only [Act.put, List.setIfInBounds_toArray, List.set_cons_zero, List.set_cons_succ, i64_w, i32_w]
            rfl
           refine pure_ (i := 20) (N := some 7) (v := ?_) (a' := ?_) #[true, true, true, true, true, true, true, true, true, true, true, true, true, true, true, true, true, true, true, true, true] rfl rfl (any_of HT_.out z16_9) (fun _ _ _ h => h) (Or.inl ⟨by rfl, ?_⟩) ?_ ?_
           rotate_left
           ·intro w'
            go_simp
            with_reducible rfl
           rotate_left
           ·simp only [Act.put, List.setIfInBounds_toArray, List.set_cons_zero, List.set_cons_succ, i64_w, i32_w]
            rfl
           refine done_ (done_of HT_.out z16_9) ?_
           try go_wp2
           go_roundg kj6
           case measure => have := HK1.out; have := HJ6.out; omega
           case rel => exact ⟨(wrap64 ((wrap64 (x7_1 + t505)) + (wrap64 ((ji14) * t507)))), (wrap64 (t503 + 1)), (by first | rfl | (simp; done) | (simp only [← hji14] <;> (first | rfl | simp)) | (simp [*]; done)), z16_8, H', ⟨by have := HK1.out; have := HJ6.out; omega⟩, ⟨by repeat (first | (with_reducible first | exact HB.out | apply below_alloc | apply pw_below_drewN | apply below_drew1) | exact HB.out)⟩⟩
          ·rw [if_neg c12] at H
           exact absurd H (by simp)
         ·rw [if_neg c11] at H
          exact absurd H (by simp)
        ·replace c9 := Bool.eq_false_iff.mpr c9
         subst c9
         have H1 : (if 0 ≤ x8_1 then (if x8_1 < (l0.length : Int) then ((spec_l11Cost.f ((rd_T55 l0 x8_1).f0) ((rd_T55 l0 x8_1).f1) ((rd_T55 l0 x8_1).f2) ((rd_T55 l0 x8_1).f3.f0) ((rd_T55 l0 x8_1).f3.f1) ((rd_T55 l0 x8_1).f3.f2)).bind fun t509 => (spec_l21Bound.l0 kj6 l0 a2 (wrap64 ((wrap64 (x7_1 + t509)) + 3)) (wrap64 (x8_1 + 1)))) else (none)) else (none)) = some r := by rw [if_neg (show ¬ (false = true) by decide)] at H; exact H
         clear H
         have H := H1
         clear H1
         by_cases c20 : 0 ≤ x8_1
         ·rw [if_pos c20] at H
          have c20b0 : decide (0 ≤ x8_1) = true := decide_eq_true c20
          clear c20
          by_cases c21 : x8_1 < (l0.length : Int)
          ·rw [if_pos c21] at H
           have c21b0 : decide (x8_1 < (l0.length : Int)) = true := decide_eq_true c21
           clear c21
           replace H := Option.bind_eq_some_iff.mp H
           obtain ⟨t509, A220, H⟩ := H
           replace H : (spec_l21Bound.l0 kj6 l0 a2 (wrap64 ((wrap64 (x7_1 + t509)) + 3)) (wrap64 (x8_1 + 1))) = some r := H
           have A22 := Aside0.mk A220
           clear A220
           have H' := Aside0.mk H
           clear H
           have p508 : 0 ≤ (x8_1 : Int) := of_decide_eq_true z16_5
           have q508 : x8_1 < (l0.length : Int) := of_decide_eq_true z16_5
           obtain ⟨ad508, e508, hx508_0, hx508_1, hx508_2, hx508_3, hx508_4, hx508_5⟩ := at_T55 HR0.out x8_1 p508 q508
           obtain rfl : ad502 = ad508 := (by injection e508)
           replace hx508_0 := (HB.out.cell (World.block_lt_of_cell? w _ hx508_0)).trans hx508_0
           replace hx508_1 := (HB.out.cell (World.block_lt_of_cell? w _ hx508_1)).trans hx508_1
           replace hx508_2 := (HB.out.cell (World.block_lt_of_cell? w _ hx508_2)).trans hx508_2
           replace hx508_3 := (HB.out.cell (World.block_lt_of_cell? w _ hx508_3)).trans hx508_3
           replace hx508_4 := (HB.out.cell (World.block_lt_of_cell? w _ hx508_4)).trans hx508_4
           replace hx508_5 := (HB.out.cell (World.block_lt_of_cell? w _ hx508_5)).trans hx508_5
           replace p508 := eq_true p508
           replace q508 := eq_true q508
           go_wp2_with (first | ((with_reducible refine gate_callee (f := 59) rfl ?_); refine goesL_ (some 26) rfl rfl Try.func59 z16_9 rfl #[.agg #[.int .i64 ((rd_T55 l0 x8_1).f0), .int .i64 ((rd_T55 l0 x8_1).f1), .int .i64 ((rd_T55 l0 x8_1).f2), .int .i64 ((rd_T55 l0 x8_1).f3.f0), .int .i64 ((rd_T55 l0 x8_1).f3.f1), .int .i64 ((rd_T55 l0 x8_1).f3.f2)]] rfl z16_1 ?_; (with_reducible refine (spec_l11Cost.calls ((rd_T55 l0 x8_1).f0) ((rd_T55 l0 x8_1).f1) ((rd_T55 l0 x8_1).f2) ((rd_T55 l0 x8_1).f3.f0) ((rd_T55 l0 x8_1).f3.f1) ((rd_T55 l0 x8_1).f3.f2) t509 _ A22.out).mono ?_); rintro e w23 ⟨rfl, hb⟩; refine ⟨_, rfl, ?_⟩; have n0_ := Aside0.mk (below_step z16_0 hb); clear HB; have HB := n0_; clear n0_; (try clear hb); (try clear hb2); (try clear hk); (try clear hi)))
           go_roundg kj6
           case measure => have := HK1.out; have := HJ6.out; omega
           case rel => exact ⟨(wrap64 ((wrap64 (x7_1 + t509)) + 3)), (wrap64 (x8_1 + 1)), z16_8, z16_8, H', ⟨by have := HK1.out; have := HJ6.out; omega⟩, ⟨by repeat (first | (with_reducible first | exact HB.out | apply below_alloc | apply pw_below_drewN | apply below_drew1) | exact HB.out)⟩⟩
          ·rw [if_neg c21] at H
           exact absurd H (by simp)
         ·rw [if_neg c20] at H
          exact absurd H (by simp)
     ·rw [if_neg c6] at H
      exact absurd H (by simp)
    ·rw [if_neg c5] at H
     exact absurd H (by simp)
   ·rw [if_neg c4] at H
    have c4b0 : decide (x8_1 < a2) = false := decide_eq_false c4
    clear c4
    obtain rfl := Option.some.inj H
    go_wp2
    go_ret
    exact ⟨by first | rfl | (simp [errW_none, errW_some] <;> rfl) | (simp [*, errW_none, errW_some] <;> rfl) | (simp [*, errW_none, errW_some, i64_w]; done), by repeat (first | (with_reducible first | exact HB.out | apply below_alloc | apply pw_below_drewN | apply below_drew1) | exact HB.out)⟩
def spec_BlockBound.f (k : Nat) (l0_0 : List (S55)) (a0_1 : Int) (a0_2 : Int) (a0_3 : Int) : Option (Int) := (spec_l08Ok.f k l0_0 a0_1 a0_2 a0_3).bind fun t511 => (if t511 = true then ((spec_l21Bound.f k l0_0 0 (l0_0.length : Int)).bind fun t512 => (some t512)) else (some (-1)))
set_option maxHeartbeats 8000000 in
set_option maxRecDepth 100000 in
theorem spec_BlockBound.calls (k : Nat) (A0_0 : Option Addr) (c0_0 : Nat) (l0_0 : List (S55)) (a0_1 : Int) (a0_2 : Int) (a0_3 : Int) (r : Int) (w : World) (hr0_0 : Kd.C k55 w A0_0 l0_0.length l0_0) (hc0_0 : l0_0.length ≤ c0_0) (h : spec_BlockBound.f k l0_0 a0_1 a0_2 a0_3 = some r) :
  Calls Try.prog 26 #[.agg #[.slice A0_0 l0_0.length c0_0, .int .i64 a0_1, .int .i64 a0_2, .int .i64 a0_3]] w fun e w' => e = .returned (.int .i64 r) ∧ Below w.heap.size w w' := by
 have hu32 := Try.underlying32
 have HR0_0 := Aside0.mk hr0_0
 have HC0_0 := Aside0.mk hc0_0
 clear hr0_0 hc0_0
 have HB := Aside0.mk (Below.refl w.heap.size w)
 have H : ((spec_l08Ok.f k l0_0 a0_1 a0_2 a0_3).bind fun t511 => (if t511 = true then ((spec_l21Bound.f k l0_0 0 (l0_0.length : Int)).bind fun t512 => (some t512)) else (some (-1)))) = some r := h
 clear h
 replace H := Option.bind_eq_some_iff.mp H
 obtain ⟨t511, A20, H⟩ := H
 replace H : (if t511 = true then ((spec_l21Bound.f k l0_0 0 (l0_0.length : Int)).bind fun t512 => (some t512)) else (some (-1))) = some r := H
 have A2 := Aside0.mk A20
 clear A20
 by_cases c3 : t511 = true
 ·subst c3
  have H1 : ((spec_l21Bound.f k l0_0 0 (l0_0.length : Int)).bind fun t512 => (some t512)) = some r := by rw [if_pos rfl] at H; exact H
  clear H
  have H := H1
  clear H1
  replace H := Option.bind_eq_some_iff.mp H
  obtain ⟨t512, A40, H⟩ := H
  replace H : (some t512) = some r := H
  have A4 := Aside0.mk A40
  clear A40
  obtain rfl := Option.some.inj H
  go_enter Try.func26, Try.ntmps26
  go_wp2_with (first | ((with_reducible refine gate_dst (N := 1) rfl ?_); refine box_event ?hg (N := 1) ?hd (cs := #[.slice A0_0 l0_0.length c0_0, .int .i64 a0_1, .int .i64 a0_2, .int .i64 a0_3]) (t := 32) ?hr ?_; (case hd => rfl); (case hg => rfl); (case hr => exact z16_10); intro gb510 hg w5 hbox hb; have n0_ := Aside0.mk (below_step z16_0 hb); have n1_ := Aside0.mk (hbox); have n2_ := Aside0.mk ((z16_18 : w.heap.size ≤ gb510)); have n3_ := Aside0.mk ((z16_18 : w.heap.size ≤ gb510)); clear HB; have HB := n0_; have BK510 := n1_; have GW510 := n2_; have GE510 := n3_; clear n0_ n1_ n2_ n3_; clear hb hbox hg; have hcz6_0 : w5.cell? ⟨gb510, 0, none⟩ = some (.slice A0_0 l0_0.length c0_0) := (blk_cell BK510.out 0).trans rfl; have hcz6_1 : w5.cell? ⟨gb510, 1, none⟩ = some (.int .i64 a0_1) := (blk_cell BK510.out 1).trans rfl; have hcz6_2 : w5.cell? ⟨gb510, 2, none⟩ = some (.int .i64 a0_2) := (blk_cell BK510.out 2).trans rfl; have hcz6_3 : w5.cell? ⟨gb510, 3, none⟩ = some (.int .i64 a0_3) := (blk_cell BK510.out 3).trans rfl; have hfz6_0 := blk_frozen BK510.out 0; have hfz6_1 := blk_frozen BK510.out 1; have hfz6_2 := blk_frozen BK510.out 2; have hfz6_3 := blk_frozen BK510.out 3) | ((with_reducible refine gate_callee (f := 16) rfl ?_); refine goesL_ (some 4) rfl rfl Try.func16 z16_9 rfl #[.agg #[.slice A0_0 l0_0.length c0_0, .int .i64 a0_1, .int .i64 a0_2, .int .i64 a0_3]] rfl z16_1 ?_; (with_reducible refine (spec_l08Ok.calls k _ _ l0_0 a0_1 a0_2 a0_3 true _ ?side1 ?side2 A2.out).mono ?_); (case side1 => exact z16_4); (case side2 => exact HC0_0.out); rintro e w7 ⟨rfl, hb⟩; refine ⟨_, rfl, ?_⟩; have n0_ := Aside0.mk (blk_below (g := gb510) (o := .cells #[.slice A0_0 l0_0.length c0_0, .int .i64 a0_1, .int .i64 a0_2, .int .i64 a0_3] 32 (0, 0)) z16_17 hb); have n1_ := Aside0.mk (below_step z16_15 hb); clear BK510; clear HB; have BK510 := n0_; have HB := n1_; clear n0_ n1_; (try clear hb); (try clear hb2); (try clear hk); (try clear hi); have hcz8_0 : w7.cell? ⟨gb510, 0, none⟩ = some (.slice A0_0 l0_0.length c0_0) := (blk_cell BK510.out 0).trans rfl; have hcz8_1 : w7.cell? ⟨gb510, 1, none⟩ = some (.int .i64 a0_1) := (blk_cell BK510.out 1).trans rfl; have hcz8_2 : w7.cell? ⟨gb510, 2, none⟩ = some (.int .i64 a0_2) := (blk_cell BK510.out 2).trans rfl; have hcz8_3 : w7.cell? ⟨gb510, 3, none⟩ = some (.int .i64 a0_3) := (blk_cell BK510.out 3).trans rfl; have hfz8_0 := blk_frozen BK510.out 0; have hfz8_1 := blk_frozen BK510.out 1; have hfz8_2 := blk_frozen BK510.out 2; have hfz8_3 := blk_frozen BK510.out 3) | ((with_reducible refine gate_callee (f := 41) rfl ?_); refine goesL_ (some 11) rfl rfl Try.func41 z16_9 rfl #[.slice A0_0 l0_0.length c0_0, .int .i64 0, .int .i64 (l0_0.length : Int)] rfl z16_1 ?_; (with_reducible refine (spec_l21Bound.calls k _ _ l0_0 0 (l0_0.length : Int) t512 _ ?side1 ?side2 A4.out).mono ?_); (case side1 => exact z16_4); (case side2 => exact HC0_0.out); rintro e w9 ⟨rfl, hb⟩; refine ⟨_, rfl, ?_⟩; have n0_ := Aside0.mk (blk_below (g := gb510) (o := .cells #[.slice A0_0 l0_0.length c0_0, .int .i64 a0_1, .int .i64 a0_2, .int .i64 a0_3] 32 (0, 0)) z16_17 hb); have n1_ := Aside0.mk (below_step z16_15 hb); clear BK510; clear HB; have BK510 := n0_; have HB := n1_; clear n0_ n1_; (try clear hb); (try clear hb2); (try clear hk); (try clear hi)))
  go_ret
  exact ⟨by first | rfl | (simp [errW_none, errW_some] <;> rfl) | (simp [*, errW_none, errW_some] <;> rfl) | (simp [*, errW_none, errW_some, i64_w]; done), by repeat (first | (with_reducible first | exact HB.out | apply below_alloc | apply pw_below_drewN | apply below_drew1 | refine below_set ?_ GE510.out) | exact HB.out)⟩
 ·replace c3 := Bool.eq_false_iff.mpr c3
  subst c3
  have H1 : (some (-1)) = some r := by rw [if_neg (show ¬ (false = true) by decide)] at H; exact H
  clear H
  have H := H1
  clear H1
  obtain rfl := Option.some.inj H
  go_enter Try.func26, Try.ntmps26
  go_wp2_with (first | ((with_reducible refine gate_dst (N := 1) rfl ?_); refine box_event ?hg (N := 1) ?hd (cs := #[.slice A0_0 l0_0.length c0_0, .int .i64 a0_1, .int .i64 a0_2, .int .i64 a0_3]) (t := 32) ?hr ?_; (case hd => rfl); (case hg => rfl); (case hr => exact z16_10); intro gb510 hg w10 hbox hb; have n0_ := Aside0.mk (below_step z16_0 hb); have n1_ := Aside0.mk (hbox); have n2_ := Aside0.mk ((z16_18 : w.heap.size ≤ gb510)); have n3_ := Aside0.mk ((z16_18 : w.heap.size ≤ gb510)); clear HB; have HB := n0_; have BK510 := n1_; have GW510 := n2_; have GE510 := n3_; clear n0_ n1_ n2_ n3_; clear hb hbox hg; have hcz11_0 : w10.cell? ⟨gb510, 0, none⟩ = some (.slice A0_0 l0_0.length c0_0) := (blk_cell BK510.out 0).trans rfl; have hcz11_1 : w10.cell? ⟨gb510, 1, none⟩ = some (.int .i64 a0_1) := (blk_cell BK510.out 1).trans rfl; have hcz11_2 : w10.cell? ⟨gb510, 2, none⟩ = some (.int .i64 a0_2) := (blk_cell BK510.out 2).trans rfl; have hcz11_3 : w10.cell? ⟨gb510, 3, none⟩ = some (.int .i64 a0_3) := (blk_cell BK510.out 3).trans rfl; have hfz11_0 := blk_frozen BK510.out 0; have hfz11_1 := blk_frozen BK510.out 1; have hfz11_2 := blk_frozen BK510.out 2; have hfz11_3 := blk_frozen BK510.out 3) | ((with_reducible refine gate_callee (f := 16) rfl ?_); refine goesL_ (some 4) rfl rfl Try.func16 z16_9 rfl #[.agg #[.slice A0_0 l0_0.length c0_0, .int .i64 a0_1, .int .i64 a0_2, .int .i64 a0_3]] rfl z16_1 ?_; (with_reducible refine (spec_l08Ok.calls k _ _ l0_0 a0_1 a0_2 a0_3 false _ ?side1 ?side2 A2.out).mono ?_); (case side1 => exact z16_4); (case side2 => exact HC0_0.out); rintro e w12 ⟨rfl, hb⟩; refine ⟨_, rfl, ?_⟩; have n0_ := Aside0.mk (blk_below (g := gb510) (o := .cells #[.slice A0_0 l0_0.length c0_0, .int .i64 a0_1, .int .i64 a0_2, .int .i64 a0_3] 32 (0, 0)) z16_17 hb); have n1_ := Aside0.mk (below_step z16_15 hb); clear BK510; clear HB; have BK510 := n0_; have HB := n1_; clear n0_ n1_; (try clear hb); (try clear hb2); (try clear hk); (try clear hi)))
  go_ret
  exact ⟨by first | rfl | (simp [errW_none, errW_some] <;> rfl) | (simp [*, errW_none, errW_some] <;> rfl) | (simp [*, errW_none, errW_some, i64_w]; done), by repeat (first | (with_reducible first | exact HB.out | apply below_alloc | apply pw_below_drewN | apply below_drew1 | refine below_set ?_ GE510.out) | exact HB.out)⟩
def spec_TaskBound.f (k : Nat) (l0_0 : List (S55)) (a0_1 : Int) (a0_2 : Int) (a0_3 : Int) : Option (Int) := (spec_l08Ok.f k l0_0 a0_1 a0_2 a0_3).bind fun t514 => (if t514 = true then ((spec_BlockBound.f k l0_0 a0_1 a0_2 a0_3).bind fun t515 => ((spec_MustLog.f k l0_0 a0_1 a0_2 a0_3).bind fun t516 => (some (wrap64 ((wrap64 ((wrap64 (t515 + (wrap64 (9 * (t516.length : Int))))) + 1)) + 3))))) else (some (-1)))
def spec_TaskBound.T3 : Bool × List (List Nat × List Nat) := (true, [([], []), ([0], [0]), ([], []), ([2, 1], [2]), ([3], [3]), ([4], [4]), ([1, 5], [1, 5]), ([6], [6]), ([7], [7]), ([8, 3, 0, 1, 2, 3, 4, 5, 6, 7, 8], [8])])
def spec_TaskBound.B3 : List Nat := [0, 1, 0, 7, 15, 31, 63, 127, 255, 511]
theorem spec_TaskBound.tab3 : rtab .any (opsOf Try.f11 3) = spec_TaskBound.T3 := by kernel_rfl
theorem spec_TaskBound.bits3 : waitsOk spec_TaskBound.T3.2 spec_TaskBound.B3 = true := by kernel_rfl
set_option maxHeartbeats 8000000 in
set_option maxRecDepth 100000 in
theorem spec_TaskBound.calls (k : Nat) (A0_0 : Option Addr) (c0_0 : Nat) (l0_0 : List (S55)) (a0_1 : Int) (a0_2 : Int) (a0_3 : Int) (r : Int) (w : World) (hr0_0 : Kd.C k55 w A0_0 l0_0.length l0_0) (hc0_0 : l0_0.length ≤ c0_0) (h : spec_TaskBound.f k l0_0 a0_1 a0_2 a0_3 = some r) :
  Calls Try.prog 11 #[.agg #[.slice A0_0 l0_0.length c0_0, .int .i64 a0_1, .int .i64 a0_2, .int .i64 a0_3]] w fun e w' => e = .returned (.int .i64 r) ∧ Below w.heap.size w w' := by
 have hu32 := Try.underlying32
 have HR0_0 := Aside0.mk hr0_0
 have HC0_0 := Aside0.mk hc0_0
 clear hr0_0 hc0_0
 have HB := Aside0.mk (Below.refl w.heap.size w)
 have H : ((spec_l08Ok.f k l0_0 a0_1 a0_2 a0_3).bind fun t514 => (if t514 = true then ((spec_BlockBound.f k l0_0 a0_1 a0_2 a0_3).bind fun t515 => ((spec_MustLog.f k l0_0 a0_1 a0_2 a0_3).bind fun t516 => (some (wrap64 ((wrap64 ((wrap64 (t515 + (wrap64 (9 * (t516.length : Int))))) + 1)) + 3))))) else (some (-1)))) = some r := h
 clear h
 replace H := Option.bind_eq_some_iff.mp H
 obtain ⟨t514, A20, H⟩ := H
 replace H : (if t514 = true then ((spec_BlockBound.f k l0_0 a0_1 a0_2 a0_3).bind fun t515 => ((spec_MustLog.f k l0_0 a0_1 a0_2 a0_3).bind fun t516 => (some (wrap64 ((wrap64 ((wrap64 (t515 + (wrap64 (9 * (t516.length : Int))))) + 1)) + 3))))) else (some (-1))) = some r := H
 have A2 := Aside0.mk A20
 clear A20
 by_cases c3 : t514 = true
 ·subst c3
  have H1 : ((spec_BlockBound.f k l0_0 a0_1 a0_2 a0_3).bind fun t515 => ((spec_MustLog.f k l0_0 a0_1 a0_2 a0_3).bind fun t516 => (some (wrap64 ((wrap64 ((wrap64 (t515 + (wrap64 (9 * (t516.length : Int))))) + 1)) + 3))))) = some r := by rw [if_pos rfl] at H; exact H
  clear H
  have H := H1
  clear H1
  replace H := Option.bind_eq_some_iff.mp H
  obtain ⟨t515, A40, H⟩ := H
  replace H : ((spec_MustLog.f k l0_0 a0_1 a0_2 a0_3).bind fun t516 => (some (wrap64 ((wrap64 ((wrap64 (t515 + (wrap64 (9 * (t516.length : Int))))) + 1)) + 3)))) = some r := H
  have A4 := Aside0.mk A40
  clear A40
  replace H := Option.bind_eq_some_iff.mp H
  obtain ⟨t516, A50, H⟩ := H
  replace H : (some (wrap64 ((wrap64 ((wrap64 (t515 + (wrap64 (9 * (t516.length : Int))))) + 1)) + 3))) = some r := H
  have A5 := Aside0.mk A50
  clear A50
  obtain rfl := Option.some.inj H
  go_enter Try.func11, Try.ntmps11
  try go_wp2_with (first | ((with_reducible refine gate_dst (N := 1) rfl ?_); refine box_event ?hg (N := 1) ?hd (cs := #[.slice A0_0 l0_0.length c0_0, .int .i64 a0_1, .int .i64 a0_2, .int .i64 a0_3]) (t := 32) ?hr ?_; (case hd => rfl); (case hg => rfl); (case hr => exact z16_10); intro gb513 hg w6 hbox hb; have n0_ := Aside0.mk (below_step z16_0 hb); have n1_ := Aside0.mk (hbox); have n2_ := Aside0.mk ((z16_18 : w.heap.size ≤ gb513)); have n3_ := Aside0.mk ((z16_18 : w.heap.size ≤ gb513)); clear HB; have HB := n0_; have BK513 := n1_; have GW513 := n2_; have GE513 := n3_; clear n0_ n1_ n2_ n3_; clear hb hbox hg; have hcz7_0 : w6.cell? ⟨gb513, 0, none⟩ = some (.slice A0_0 l0_0.length c0_0) := (blk_cell BK513.out 0).trans rfl; have hcz7_1 : w6.cell? ⟨gb513, 1, none⟩ = some (.int .i64 a0_1) := (blk_cell BK513.out 1).trans rfl; have hcz7_2 : w6.cell? ⟨gb513, 2, none⟩ = some (.int .i64 a0_2) := (blk_cell BK513.out 2).trans rfl; have hcz7_3 : w6.cell? ⟨gb513, 3, none⟩ = some (.int .i64 a0_3) := (blk_cell BK513.out 3).trans rfl; have hfz7_0 := blk_frozen BK513.out 0; have hfz7_1 := blk_frozen BK513.out 1; have hfz7_2 := blk_frozen BK513.out 2; have hfz7_3 := blk_frozen BK513.out 3) | ((with_reducible refine gate_callee (f := 16) rfl ?_); refine goesL_ (some 4) rfl rfl Try.func16 z16_9 rfl #[.agg #[.slice A0_0 l0_0.length c0_0, .int .i64 a0_1, .int .i64 a0_2, .int .i64 a0_3]] rfl z16_1 ?_; (with_reducible refine (spec_l08Ok.calls k _ _ l0_0 a0_1 a0_2 a0_3 true _ ?side1 ?side2 A2.out).mono ?_); (case side1 => exact z16_4); (case side2 => exact HC0_0.out); rintro e w8 ⟨rfl, hb⟩; refine ⟨_, rfl, ?_⟩; have n0_ := Aside0.mk (blk_below (g := gb513) (o := .cells #[.slice A0_0 l0_0.length c0_0, .int .i64 a0_1, .int .i64 a0_2, .int .i64 a0_3] 32 (0, 0)) z16_14 hb); have n1_ := Aside0.mk (below_step z16_7 hb); clear BK513; clear HB; have BK513 := n0_; have HB := n1_; clear n0_ n1_; (try clear hb); (try clear hb2); (try clear hk); (try clear hi)))
  have n0_ := Aside0.mk (blk_drew BK513.out)
  have n1_ := Aside0.mk (below_drew1 HB.out)
  clear BK513
  clear HB
  have BK513 := n0_
  have HB := n1_
  clear n0_ n1_
  refine start_ (n := 10) (S := fun w' => w'.cell? ⟨gb513, 0, none⟩ = some (.slice A0_0 l0_0.length c0_0) ∧ w'.cell? ⟨gb513, 1, none⟩ = some (.int .i64 a0_1) ∧ w'.cell? ⟨gb513, 2, none⟩ = some (.int .i64 a0_2) ∧ w'.cell? ⟨gb513, 3, none⟩ = some (.int .i64 a0_3)) (ds := []) #[false, false, false, false, false, false, false, false, false, false] z16_9 rfl rfl ⟨(blk_cell BK513.out 0).trans rfl, (blk_cell BK513.out 1).trans rfl, (blk_cell BK513.out 2).trans rfl, (blk_cell BK513.out 3).trans rfl⟩ (fun hHeld => ?_); refine with_tabW spec_TaskBound.tab3 spec_TaskBound.bits3 (fun HT_ HW_ => ?_)
  generalize w8.drew = w9 at BK513 HB hHeld ⊢
  refine take_ (i := 0) (N := some 6) (v := ?_) (a' := ?_) #[true, false, false, false, false, false, false, false, false, false] rfl rfl (take_ofW HT_.out HW_.out z16_9) (fun _ _ _ h => h) (Or.inl ⟨by rfl, ?_⟩) hHeld ?_ ?_
  rotate_left
  ·rintro w' ⟨s0, s1, s2, s3⟩
   go_simp
   with_reducible rfl
  rotate_left
  ·simp only [Act.put, List.setIfInBounds_toArray, List.set_cons_zero, List.set_cons_succ, i64_w, i32_w]
   rfl
  refine take_ (i := 2) (N := some 8) (v := ?_) (a' := ?_) #[true, false, true, false, false, false, false, false, false, false] rfl rfl (take_ofW HT_.out HW_.out z16_9) (fun _ _ _ h => h) (Or.inl ⟨by rfl, ?_⟩) hHeld ?_ ?_
  rotate_left
  ·rintro w' ⟨s0, s1, s2, s3⟩
   go_simp
   with_reducible rfl
  rotate_left
  ·simp only [Act.put, List.setIfInBounds_toArray, List.set_cons_zero, List.set_cons_succ, i64_w, i32_w]
   rfl
  refine one_ (i := 1) (N := some 7) #[true, true, true, false, false, false, false, false, false, false] rfl rfl (one_of HT_.out z16_9) (by decide) (fun K hK => ?_)
  refine goes_ Try.func26 z16_9 rfl #[.agg #[.slice A0_0 l0_0.length c0_0, .int .i64 a0_1, .int .i64 a0_2, .int .i64 a0_3]] (by rfl) rfl rfl z16_1 ?_
  with_reducible refine (spec_BlockBound.calls k _ _ l0_0 a0_1 a0_2 a0_3 t515 _ ?side1 ?side2 A4.out).mono ?_
  (case side1 => exact z16_4)
  (case side2 => exact HC0_0.out)
  rintro e w10 ⟨rfl, hb⟩
  refine ⟨_, rfl, ?_⟩
  have n0_ := Aside0.mk (blk_below (g := gb513) (o := .cells #[.slice A0_0 l0_0.length c0_0, .int .i64 a0_1, .int .i64 a0_2, .int .i64 a0_3] 32 (0, 0)) z16_14 hb)
  have n1_ := Aside0.mk (below_step z16_7 hb)
  clear BK513
  clear HB
  have BK513 := n0_
  have HB := n1_
  clear n0_ n1_
  (try clear hb)
  (try clear hb2)
  (try clear hk)
  (try clear hi)
  refine hK.out _ _ ⟨(blk_cell BK513.out 0).trans rfl, (blk_cell BK513.out 1).trans rfl, (blk_cell BK513.out 2).trans rfl, (blk_cell BK513.out 3).trans rfl⟩ (fun hHeld => ?_)
  clear hK K
  refine norm_ (a' := ?_) ?_ ?_
  rotate_left
  ·show Act.put _ (some 7) _ = _
   simp only [Act.put, List.setIfInBounds_toArray, List.set_cons_zero, List.set_cons_succ, i64_w, i32_w]
   rfl
  refine one_ (i := 3) (N := some 9) #[true, true, true, true, false, false, false, false, false, false] rfl rfl (one_of HT_.out z16_9) (by decide) (fun K hK => ?_)
  refine goes_ Try.func27 z16_9 rfl #[.agg #[.slice A0_0 l0_0.length c0_0, .int .i64 a0_1, .int .i64 a0_2, .int .i64 a0_3]] (by rfl) rfl rfl z16_1 ?_
  with_reducible refine (spec_MustLog.calls k _ _ l0_0 a0_1 a0_2 a0_3 t516 _ ?side1 ?side2 A5.out).mono ?_
  (case side1 => exact z16_4)
  (case side2 => exact HC0_0.out)
  rintro e w11 ⟨v517, rfl, ho0, hb⟩
  refine ⟨_, rfl, ?_⟩
  have n0_ := Aside0.mk (Kd.R_lower ho0 (below_size z16_7))
  have n1_ := Aside0.mk (blk_below (g := gb513) (o := .cells #[.slice A0_0 l0_0.length c0_0, .int .i64 a0_1, .int .i64 a0_2, .int .i64 a0_3] 32 (0, 0)) z16_14 hb)
  have n2_ := Aside0.mk (below_step z16_7 hb)
  clear BK513
  clear HB
  have HO518 := n0_
  have BK513 := n1_
  have HB := n2_
  clear n0_ n1_ n2_
  (try clear hb)
  (try clear hb2)
  (try clear hk)
  (try clear hi)
  (try clear ho0)
  obtain ⟨Ao12, co12, eo12⟩ := Kd.R_slice HO518.out
  (first | subst eo12 | (injection eo12 with f1_ f2_ f3_; have f4_ := f1_.symm; have f5_ := f3_.symm; clear f1_ f2_ f3_; subst f4_; subst f5_))
  refine hK.out _ _ ⟨(blk_cell BK513.out 0).trans rfl, (blk_cell BK513.out 1).trans rfl, (blk_cell BK513.out 2).trans rfl, (blk_cell BK513.out 3).trans rfl⟩ (fun hHeld => ?_)
  clear hK K
  refine norm_ (a' := ?_) ?_ ?_
  rotate_left
  ·show Act.put _ (some 9) _ = _
   simp only [Act.put, List.setIfInBounds_toArray, List.set_cons_zero, List.set_cons_succ, i64_w, i32_w]
   rfl
  refine pure_ (i := 4) (N := some 10) (v := ?_) (a' := ?_) #[true, true, true, true, true, false, false, false, false, false] rfl rfl (any_of HT_.out z16_9) (fun _ _ _ h => h) (Or.inl ⟨by rfl, ?_⟩) ?_ ?_
  rotate_left
  ·intro w'
   go_simp
   with_reducible rfl
  rotate_left
  ·simp only [Act.put, List.setIfInBounds_toArray, List.set_cons_zero, List.set_cons_succ, i64_w, i32_w]
   rfl
  refine pure_ (i := 5) (N := some 11) (v := ?_) (a' := ?_) #[true, true, true, true, true, true, false, false, false, false] rfl rfl (any_of HT_.out z16_9) (fun _ _ _ h => h) (Or.inl ⟨by rfl, ?_⟩) ?_ ?_
  rotate_left
  ·intro w'
   go_simp
   with_reducible rfl
  rotate_left
  ·simp only [Act.put, List.setIfInBounds_toArray, List.set_cons_zero, List.set_cons_succ, i64_w, i32_w]
   rfl
  refine pure_ (i := 6) (N := some 12) (v := ?_) (a' := ?_) #[true, true, true, true, true, true, true, false, false, false] rfl rfl (any_of HT_.out z16_9) (fun _ _ _ h => h) (Or.inl ⟨by rfl, ?_⟩) ?_ ?_
  rotate_left
  ·intro w'
   go_simp
   with_reducible rfl
  rotate_left
  ·simp only [Act.put, List.setIfInBounds_toArray, List.set_cons_zero, List.set_cons_succ, i64_w, i32_w]
   rfl
  refine pure_ (i := 7) (N := some 13) (v := ?_) (a' := ?_) #[true, true, true, true, true, true, true, true, false, false] rfl rfl (any_of HT_.out z16_9) (fun _ _ _ h => h) (Or.inl ⟨by rfl, ?_⟩) ?_ ?_
  rotate_left
  ·intro w'
   go_simp
   with_reducible rfl
  rotate_left
  ·simp only [Act.put, List.setIfInBounds_toArray, List.set_cons_zero, List.set_cons_succ, i64_w, i32_w]
   rfl
  refine pure_ (i := 8) (N := some 14) (v := ?_) (a' := ?_) #[true, true, true, true, true, true, true, true, true, false] rfl rfl (any_of HT_.out z16_9) (fun _ _ _ h => h) (Or.inl ⟨by rfl, ?_⟩) ?_ ?_
  rotate_left
  ·intro w'
   go_simp
   with_reducible rfl
  rotate_left
  ·simp only [Act.put, List.setIfInBounds_toArray, List.set_cons_zero, List.set_cons_succ, i64_w, i32_w]
   rfl
  refine pure_ (i := 9) (N := some 2) (v := ?_) (a' := ?_) #[true, true, true, true, true, true, true, true, true, true] rfl rfl (any_of HT_.out z16_9) (fun _ _ _ h => h) (Or.inl ⟨by rfl, ?_⟩) ?_ ?_
  rotate_left
  ·intro w'
   go_simp
   with_reducible rfl
  rotate_left
  ·simp only [Act.put, List.setIfInBounds_toArray, List.set_cons_zero, List.set_cons_succ, i64_w, i32_w]
   rfl
  refine done_ (done_of HT_.out z16_9) ?_
  try go_wp2
  go_ret
  exact ⟨by first | rfl | (simp [errW_none, errW_some] <;> rfl) | (simp [*, errW_none, errW_some] <;> rfl) | (simp [*, errW_none, errW_some, i64_w]; done), by repeat (first | (with_reducible first | exact HB.out | apply below_alloc | apply pw_below_drewN | apply below_drew1 | refine below_set ?_ GE513.out) | exact HB.out)⟩
 ·replace c3 := Bool.eq_false_iff.mpr c3
  subst c3
  have H1 : (some (-1)) = some r := by rw [if_neg (show ¬ (false = true) by decide)] at H; exact H
  clear H
  have H := H1
  clear H1
  obtain rfl := Option.some.inj H
  go_enter Try.func11, Try.ntmps11
  go_wp2_with (first | ((with_reducible refine gate_dst (N := 1) rfl ?_); refine box_event ?hg (N := 1) ?hd (cs := #[.slice A0_0 l0_0.length c0_0, .int .i64 a0_1, .int .i64 a0_2, .int .i64 a0_3]) (t := 32) ?hr ?_; (case hd => rfl); (case hg => rfl); (case hr => exact z16_10); intro gb513 hg w13 hbox hb; have n0_ := Aside0.mk (below_step z16_0 hb); have n1_ := Aside0.mk (hbox); have n2_ := Aside0.mk ((z16_18 : w.heap.size ≤ gb513)); have n3_ := Aside0.mk ((z16_18 : w.heap.size ≤ gb513)); clear HB; have HB := n0_; have BK513 := n1_; have GW513 := n2_; have GE513 := n3_; clear n0_ n1_ n2_ n3_; clear hb hbox hg; have hcz14_0 : w13.cell? ⟨gb513, 0, none⟩ = some (.slice A0_0 l0_0.length c0_0) := (blk_cell BK513.out 0).trans rfl; have hcz14_1 : w13.cell? ⟨gb513, 1, none⟩ = some (.int .i64 a0_1) := (blk_cell BK513.out 1).trans rfl; have hcz14_2 : w13.cell? ⟨gb513, 2, none⟩ = some (.int .i64 a0_2) := (blk_cell BK513.out 2).trans rfl; have hcz14_3 : w13.cell? ⟨gb513, 3, none⟩ = some (.int .i64 a0_3) := (blk_cell BK513.out 3).trans rfl; have hfz14_0 := blk_frozen BK513.out 0; have hfz14_1 := blk_frozen BK513.out 1; have hfz14_2 := blk_frozen BK513.out 2; have hfz14_3 := blk_frozen BK513.out 3) | ((with_reducible refine gate_callee (f := 16) rfl ?_); refine goesL_ (some 4) rfl rfl Try.func16 z16_9 rfl #[.agg #[.slice A0_0 l0_0.length c0_0, .int .i64 a0_1, .int .i64 a0_2, .int .i64 a0_3]] rfl z16_1 ?_; (with_reducible refine (spec_l08Ok.calls k _ _ l0_0 a0_1 a0_2 a0_3 false _ ?side1 ?side2 A2.out).mono ?_); (case side1 => exact z16_4); (case side2 => exact HC0_0.out); rintro e w15 ⟨rfl, hb⟩; refine ⟨_, rfl, ?_⟩; have n0_ := Aside0.mk (blk_below (g := gb513) (o := .cells #[.slice A0_0 l0_0.length c0_0, .int .i64 a0_1, .int .i64 a0_2, .int .i64 a0_3] 32 (0, 0)) z16_14 hb); have n1_ := Aside0.mk (below_step z16_7 hb); clear BK513; clear HB; have BK513 := n0_; have HB := n1_; clear n0_ n1_; (try clear hb); (try clear hb2); (try clear hk); (try clear hi)))
  go_ret
  exact ⟨by first | rfl | (simp [errW_none, errW_some] <;> rfl) | (simp [*, errW_none, errW_some] <;> rfl) | (simp [*, errW_none, errW_some, i64_w]; done), by repeat (first | (with_reducible first | exact HB.out | apply below_alloc | apply pw_below_drewN | apply below_drew1 | refine below_set ?_ GE513.out) | exact HB.out)⟩
def impl_StmtCost.f (k : Nat) (a0_0 : Int) (a0_1 : Int) (a0_2 : Int) (a0_3 : Int) (a0_4 : Int) (a0_5 : Int) : Option (Int) := (impl_StmtOk.f k a0_0 a0_1 a0_2 a0_3 a0_4 a0_5).bind fun t520 => (if t520 = true then ((some (([0, 2, 5, 4, 1, 1, 0] : List Int) : List Int)).bind fun y521 => (if 0 ≤ a0_0 then (if a0_0 < (y521.length : Int) then (some (rd y521 a0_0)) else (none)) else (none))) else (some 0))
set_option maxHeartbeats 8000000 in
set_option maxRecDepth 100000 in
theorem impl_StmtCost.calls (k : Nat) (a0_0 : Int) (a0_1 : Int) (a0_2 : Int) (a0_3 : Int) (a0_4 : Int) (a0_5 : Int) (r : Int) (w : World) (h : impl_StmtCost.f k a0_0 a0_1 a0_2 a0_3 a0_4 a0_5 = some r) :
  Calls Try.prog 45 #[.agg #[.int .i64 a0_0, .int .i64 a0_1, .int .i64 a0_2, .int .i64 a0_3, .int .i64 a0_4, .int .i64 a0_5]] w fun e w' => e = .returned (.int .i64 r) ∧ Below w.heap.size w w' := by
 have hu55 := Try.underlying55
 have HB := Aside0.mk (Below.refl w.heap.size w)
 have H : ((impl_StmtOk.f k a0_0 a0_1 a0_2 a0_3 a0_4 a0_5).bind fun t520 => (if t520 = true then ((some (([0, 2, 5, 4, 1, 1, 0] : List Int) : List Int)).bind fun y521 => (if 0 ≤ a0_0 then (if a0_0 < (y521.length : Int) then (some (rd y521 a0_0)) else (none)) else (none))) else (some 0))) = some r := h
 clear h
 replace H := Option.bind_eq_some_iff.mp H
 obtain ⟨t520, A20, H⟩ := H
 replace H : (if t520 = true then ((some (([0, 2, 5, 4, 1, 1, 0] : List Int) : List Int)).bind fun y521 => (if 0 ≤ a0_0 then (if a0_0 < (y521.length : Int) then (some (rd y521 a0_0)) else (none)) else (none))) else (some 0)) = some r := H
 have A2 := Aside0.mk A20
 clear A20
 by_cases c3 : t520 = true
 ·subst c3
  have H1 : ((some (([0, 2, 5, 4, 1, 1, 0] : List Int) : List Int)).bind fun y521 => (if 0 ≤ a0_0 then (if a0_0 < (y521.length : Int) then (some (rd y521 a0_0)) else (none)) else (none))) = some r := by rw [if_pos rfl] at H; exact H
  clear H
  have H := H1
  clear H1
  obtain ⟨y521, hy521⟩ : ∃ y_ : List Int, y_ = (([0, 2, 5, 4, 1, 1, 0] : List Int)) := ⟨_, rfl⟩
  replace H : (if 0 ≤ a0_0 then (if a0_0 < (y521.length : Int) then (some (rd y521 a0_0)) else (none)) else (none)) = some r := by first | (rw [hy521]; with_reducible exact H) | (have H2_ := (Option.bind_some _ _).symm.trans H; rw [hy521]; with_reducible exact H2_) | (have H2_ := (Option.bind_some _ _).symm.trans H; with_reducible exact H2_) | with_reducible exact H | (rw [hy521]; exact H) | exact H
  have Ny521 := Aside0.mk hy521
  clear hy521
  by_cases c4 : 0 ≤ a0_0
  ·rw [if_pos c4] at H
   have c4b0 : decide (0 ≤ a0_0) = true := decide_eq_true c4
   clear c4
   by_cases c5 : a0_0 < (y521.length : Int)
   ·rw [if_pos c5] at H
    have c5b0 : decide (a0_0 < (y521.length : Int)) = true := decide_eq_true c5
    clear c5
    obtain rfl := Option.some.inj H
    go_enter Try.func45, Try.ntmps45
    go_wp2_with (first | ((with_reducible refine gate_dst (N := 1) rfl ?_); refine box_event ?hg (N := 1) ?hd (cs := #[.int .i64 a0_0, .int .i64 a0_1, .int .i64 a0_2, .int .i64 a0_3, .int .i64 a0_4, .int .i64 a0_5]) (t := 55) ?hr ?_; (case hd => rfl); (case hg => rfl); (case hr => exact z16_10); intro gb519 hg w6 hbox hb; have n0_ := Aside0.mk (below_step z16_0 hb); have n1_ := Aside0.mk (hbox); have n2_ := Aside0.mk ((z16_18 : w.heap.size ≤ gb519)); have n3_ := Aside0.mk ((z16_18 : w.heap.size ≤ gb519)); clear HB; have HB := n0_; have BK519 := n1_; have GW519 := n2_; have GE519 := n3_; clear n0_ n1_ n2_ n3_; clear hb hbox hg; have hcz7_0 : w6.cell? ⟨gb519, 0, none⟩ = some (.int .i64 a0_0) := (blk_cell BK519.out 0).trans rfl; have hcz7_1 : w6.cell? ⟨gb519, 1, none⟩ = some (.int .i64 a0_1) := (blk_cell BK519.out 1).trans rfl; have hcz7_2 : w6.cell? ⟨gb519, 2, none⟩ = some (.int .i64 a0_2) := (blk_cell BK519.out 2).trans rfl; have hcz7_3 : w6.cell? ⟨gb519, 3, none⟩ = some (.int .i64 a0_3) := (blk_cell BK519.out 3).trans rfl; have hcz7_4 : w6.cell? ⟨gb519, 4, none⟩ = some (.int .i64 a0_4) := (blk_cell BK519.out 4).trans rfl; have hcz7_5 : w6.cell? ⟨gb519, 5, none⟩ = some (.int .i64 a0_5) := (blk_cell BK519.out 5).trans rfl; have hfz7_0 := blk_frozen BK519.out 0; have hfz7_1 := blk_frozen BK519.out 1; have hfz7_2 := blk_frozen BK519.out 2; have hfz7_3 := blk_frozen BK519.out 3; have hfz7_4 := blk_frozen BK519.out 4; have hfz7_5 := blk_frozen BK519.out 5) | ((with_reducible refine gate_callee (f := 55) rfl ?_); refine goesL_ (some 4) rfl rfl Try.func55 z16_9 rfl #[.agg #[.int .i64 a0_0, .int .i64 a0_1, .int .i64 a0_2, .int .i64 a0_3, .int .i64 a0_4, .int .i64 a0_5]] rfl z16_1 ?_; (with_reducible refine (impl_StmtOk.calls k a0_0 a0_1 a0_2 a0_3 a0_4 a0_5 true _ A2.out).mono ?_); rintro e w8 ⟨rfl, hb⟩; refine ⟨_, rfl, ?_⟩; have n0_ := Aside0.mk (blk_below (g := gb519) (o := .cells #[.int .i64 a0_0, .int .i64 a0_1, .int .i64 a0_2, .int .i64 a0_3, .int .i64 a0_4, .int .i64 a0_5] 55 (0, 0)) z16_16 hb); have n1_ := Aside0.mk (below_step z16_11 hb); clear BK519; clear HB; have BK519 := n0_; have HB := n1_; clear n0_ n1_; (try clear hb); (try clear hb2); (try clear hk); (try clear hi)) | ((with_reducible refine gate_dst (N := 6) rfl ?_); refine Kd.R_lit (Kd.int .i64) _ 3 ?hg (N := 6) ?hd (xs := ([0, 2, 5, 4, 1, 1, 0] : List Int)) (inner := [.int .i64 0, .int .i64 2, .int .i64 5, .int .i64 4, .int .i64 1, .int .i64 1, .int .i64 0]) (ok := fun _ => True) (okp := fun _ => True) ?hr ?hp (fun _ hk => hk) trivial (Below.refl _ _) (Nat.le_refl _) (by simp) ?_; (case hd => rfl); (case hg => rfl); (case hr => exact z16_10); (case hp => exact (Reps.one (show Kd.M (Kd.int .i64) _ _ _ 0 [.int .i64 0] from rfl) (Reps.one (show Kd.M (Kd.int .i64) _ _ _ 2 [.int .i64 2] from rfl) (Reps.one (show Kd.M (Kd.int .i64) _ _ _ 5 [.int .i64 5] from rfl) (Reps.one (show Kd.M (Kd.int .i64) _ _ _ 4 [.int .i64 4] from rfl) (Reps.one (show Kd.M (Kd.int .i64) _ _ _ 1 [.int .i64 1] from rfl) (Reps.one (show Kd.M (Kd.int .i64) _ _ _ 1 [.int .i64 1] from rfl) (Reps.one (show Kd.M (Kd.int .i64) _ _ _ 0 [.int .i64 0] from rfl) (Reps.none _ _))))))))); intro v522 w9 ho10 hb hg_ hnew_; clear hg_ hnew_; (first | rw [← Ny521.out] at ho10 | (simp only [Int.reduceToNat] at ho10; rw [← Ny521.out] at ho10)); have n0_ := Aside0.mk (Kd.R_lower ho10 (below_size z16_11)); have n1_ := Aside0.mk (blk_below (g := gb519) (o := .cells #[.int .i64 a0_0, .int .i64 a0_1, .int .i64 a0_2, .int .i64 a0_3, .int .i64 a0_4, .int .i64 a0_5] 55 (0, 0)) z16_16 hb); have n2_ := Aside0.mk (below_step z16_11 hb); clear BK519; clear HB; have HO523 := n0_; have BK519 := n1_; have HB := n2_; clear n0_ n1_ n2_; clear hb ho10; have hcz11_0 : w9.cell? ⟨gb519, 0, none⟩ = some (.int .i64 a0_0) := (blk_cell BK519.out 0).trans rfl; have hcz11_1 : w9.cell? ⟨gb519, 1, none⟩ = some (.int .i64 a0_1) := (blk_cell BK519.out 1).trans rfl; have hcz11_2 : w9.cell? ⟨gb519, 2, none⟩ = some (.int .i64 a0_2) := (blk_cell BK519.out 2).trans rfl; have hcz11_3 : w9.cell? ⟨gb519, 3, none⟩ = some (.int .i64 a0_3) := (blk_cell BK519.out 3).trans rfl; have hcz11_4 : w9.cell? ⟨gb519, 4, none⟩ = some (.int .i64 a0_4) := (blk_cell BK519.out 4).trans rfl; have hcz11_5 : w9.cell? ⟨gb519, 5, none⟩ = some (.int .i64 a0_5) := (blk_cell BK519.out 5).trans rfl; have hfz11_0 := blk_frozen BK519.out 0; have hfz11_1 := blk_frozen BK519.out 1; have hfz11_2 := blk_frozen BK519.out 2; have hfz11_3 := blk_frozen BK519.out 3; have hfz11_4 := blk_frozen BK519.out 4; have hfz11_5 := blk_frozen BK519.out 5; obtain ⟨Ao12, co12, eo12⟩ := Kd.R_slice HO523.out; subst eo12; have p524 : 0 ≤ (a0_0 : Int) := of_decide_eq_true z16_5; have q524 : a0_0 < (y521.length : Int) := of_decide_eq_true z16_5; obtain ⟨ad524, e524, hx524_0⟩ := Kd.at_int (Kd.R_reads' HO523.out).2.2 a0_0 p524 q524; cases e524; replace p524 := eq_true p524; replace q524 := eq_true q524))
    go_ret
    exact ⟨by first | rfl | (simp [errW_none, errW_some] <;> rfl) | (simp [*, errW_none, errW_some] <;> rfl) | (simp [*, errW_none, errW_some, i64_w]; done), by repeat (first | (with_reducible first | exact HB.out | apply below_alloc | apply pw_below_drewN | apply below_drew1 | refine below_set ?_ GE519.out) | exact HB.out)⟩
   ·rw [if_neg c5] at H
    exact absurd H (by simp)
  ·rw [if_neg c4] at H
   exact absurd H (by simp)
 ·replace c3 := Bool.eq_false_iff.mpr c3
  subst c3
  have H1 : (some 0) = some r := by rw [if_neg (show ¬ (false = true) by decide)] at H; exact H
  clear H
  have H := H1
  clear H1
  obtain rfl := Option.some.inj H
  go_enter Try.func45, Try.ntmps45
  go_wp2_with (first | ((with_reducible refine gate_dst (N := 1) rfl ?_); refine box_event ?hg (N := 1) ?hd (cs := #[.int .i64 a0_0, .int .i64 a0_1, .int .i64 a0_2, .int .i64 a0_3, .int .i64 a0_4, .int .i64 a0_5]) (t := 55) ?hr ?_; (case hd => rfl); (case hg => rfl); (case hr => exact z16_10); intro gb519 hg w13 hbox hb; have n0_ := Aside0.mk (below_step z16_0 hb); have n1_ := Aside0.mk (hbox); have n2_ := Aside0.mk ((z16_18 : w.heap.size ≤ gb519)); have n3_ := Aside0.mk ((z16_18 : w.heap.size ≤ gb519)); clear HB; have HB := n0_; have BK519 := n1_; have GW519 := n2_; have GE519 := n3_; clear n0_ n1_ n2_ n3_; clear hb hbox hg; have hcz14_0 : w13.cell? ⟨gb519, 0, none⟩ = some (.int .i64 a0_0) := (blk_cell BK519.out 0).trans rfl; have hcz14_1 : w13.cell? ⟨gb519, 1, none⟩ = some (.int .i64 a0_1) := (blk_cell BK519.out 1).trans rfl; have hcz14_2 : w13.cell? ⟨gb519, 2, none⟩ = some (.int .i64 a0_2) := (blk_cell BK519.out 2).trans rfl; have hcz14_3 : w13.cell? ⟨gb519, 3, none⟩ = some (.int .i64 a0_3) := (blk_cell BK519.out 3).trans rfl; have hcz14_4 : w13.cell? ⟨gb519, 4, none⟩ = some (.int .i64 a0_4) := (blk_cell BK519.out 4).trans rfl; have hcz14_5 : w13.cell? ⟨gb519, 5, none⟩ = some (.int .i64 a0_5) := (blk_cell BK519.out 5).trans rfl; have hfz14_0 := blk_frozen BK519.out 0; have hfz14_1 := blk_frozen BK519.out 1; have hfz14_2 := blk_frozen BK519.out 2; have hfz14_3 := blk_frozen BK519.out 3; have hfz14_4 := blk_frozen BK519.out 4; have hfz14_5 := blk_frozen BK519.out 5) | ((with_reducible refine gate_callee (f := 55) rfl ?_); refine goesL_ (some 4) rfl rfl Try.func55 z16_9 rfl #[.agg #[.int .i64 a0_0, .int .i64 a0_1, .int .i64 a0_2, .int .i64 a0_3, .int .i64 a0_4, .int .i64 a0_5]] rfl z16_1 ?_; (with_reducible refine (impl_StmtOk.calls k a0_0 a0_1 a0_2 a0_3 a0_4 a0_5 false _ A2.out).mono ?_); rintro e w15 ⟨rfl, hb⟩; refine ⟨_, rfl, ?_⟩; have n0_ := Aside0.mk (blk_below (g := gb519) (o := .cells #[.int .i64 a0_0, .int .i64 a0_1, .int .i64 a0_2, .int .i64 a0_3, .int .i64 a0_4, .int .i64 a0_5] 55 (0, 0)) z16_16 hb); have n1_ := Aside0.mk (below_step z16_11 hb); clear BK519; clear HB; have BK519 := n0_; have HB := n1_; clear n0_ n1_; (try clear hb); (try clear hb2); (try clear hk); (try clear hi)))
  go_ret
  exact ⟨by first | rfl | (simp [errW_none, errW_some] <;> rfl) | (simp [*, errW_none, errW_some] <;> rfl) | (simp [*, errW_none, errW_some, i64_w]; done), by repeat (first | (with_reducible first | exact HB.out | apply below_alloc | apply pw_below_drewN | apply below_drew1 | refine below_set ?_ GE519.out) | exact HB.out)⟩
/-! ### impl_bound: function 28 -/
mutual
def impl_bound.l0 : Nat → List (S55) → Int → Int → Option (Int)
 | 0, _, _, _ => none
 | k + 1, x0, x3, x4 => if x4 < (x0.length : Int) then (if 0 ≤ x4 then ((impl_StmtCost.f k ((rd_T55 x0 x4).f0) ((rd_T55 x0 x4).f1) ((rd_T55 x0 x4).f2) ((rd_T55 x0 x4).f3.f0) ((rd_T55 x0 x4).f3.f1) ((rd_T55 x0 x4).f3.f2)).bind fun t527 => ((impl_isOpening.f ((rd_T55 x0 x4).f0)).bind fun t528 => (if t528 = true then ((impl_endOf.f k x0 x4).bind fun t529 => (if ((rd_T55 x0 x4).f0) = 5 then (if 0 ≤ (wrap64 (x4 + 1)) then (if (wrap64 (x4 + 1)) ≤ t529 then (if t529 ≤ (x0.length : Int) then ((impl_bound.f k ((x0.take (t529 : Int).toNat).drop ((wrap64 (x4 + 1)) : Int).toNat)).bind fun t534 => (impl_bound.l0 k x0 (wrap64 ((wrap64 (x3 + t527)) + (wrap64 (((rd_T55 x0 x4).f2) * t534)))) (wrap64 (t529 + 1)))) else (none)) else (none)) else (none)) else (if 0 ≤ (wrap64 (x4 + 1)) then (if (wrap64 (x4 + 1)) ≤ t529 then (if t529 ≤ (x0.length : Int) then ((impl_bound.f k ((x0.take (t529 : Int).toNat).drop ((wrap64 (x4 + 1)) : Int).toNat)).bind fun t539 => (impl_bound.l0 k x0 (wrap64 ((wrap64 (x3 + t527)) + (wrap64 (1 * t539)))) (wrap64 (t529 + 1)))) else (none)) else (none)) else (none)))) else (impl_bound.l0 k x0 (wrap64 ((wrap64 (x3 + t527)) + 3)) (wrap64 (x4 + 1)))))) else (none)) else (some x3)
def impl_bound.f : Nat → List (S55) → Option (Int)
 | 0, _ => none
 | k + 1, l0 => impl_bound.l0 k l0 0 0
end
set_option maxHeartbeats 8000000 in
set_option maxRecDepth 100000 in
theorem impl_bound.calls (k : Nat) : ∀ (A0 : Option Addr) (c0 : Nat) (l0 : List (S55)) (r : Int) (w : World) (hr0 : Kd.C k55 w A0 l0.length l0) (hc0 : l0.length ≤ c0) (h : impl_bound.f k l0 = some r),
  Calls Try.prog 28 #[.slice A0 l0.length c0] w fun e w' => e = .returned (.int .i64 r) ∧ Below w.heap.size w w' := by
 induction k using Nat.strongRecOn with
 | _ k ih =>
 intro A0 c0 l0 r w hr0 hc0 h
 cases k with
 | zero => exact absurd h (by simp [impl_bound.f])
 | succ k =>
 simp only [impl_bound.f] at h
 have hu55 := Try.underlying55
 have HR0 := Aside0.mk hr0
 have HC0 := Aside0.mk hc0
 clear hr0 hc0
 have HB := Aside0.mk (Below.refl w.heap.size w)
 have H : (impl_bound.l0 k l0 0 0) = some r := h
 clear h
 have H' := Aside0.mk H
 clear H
 go_enter Try.func28, Try.ntmps28
 go_wp2
 go_loopg [3, 4] k (fun kq v3 v4 w' => ∃ (x3_1 : Int) (x4_1 : Int), v3 = .int .i64 x3_1 ∧ v4 = .int .i64 x4_1 ∧ Aside0 (impl_bound.l0 kq l0 x3_1 x4_1 = some r) ∧ Aside0 (kq ≤ k) ∧ Aside0 (Below w.heap.size w w'))
 case atStart => exact ⟨(0), (0), z16_8, z16_8, H', ⟨Nat.le_refl _⟩, ⟨by repeat (first | (with_reducible first | exact HB.out | apply below_alloc | apply pw_below_drewN | apply below_drew1) | exact HB.out)⟩⟩
 case round =>
  clear H'
  obtain ⟨x3_1, x4_1, rfl, rfl, HA, HK1, HB⟩ := hrel
  cases gk with
  | zero => exact absurd HA.out (by simp [impl_bound.l0])
  | succ k1 =>
   have H := HA.out
   clear HA
   simp only [impl_bound.l0] at H
   by_cases c2 : x4_1 < (l0.length : Int)
   ·rw [if_pos c2] at H
    have c2b0 : decide (x4_1 < (l0.length : Int)) = true := decide_eq_true c2
    clear c2
    by_cases c3 : 0 ≤ x4_1
    ·rw [if_pos c3] at H
     have c3b0 : decide (0 ≤ x4_1) = true := decide_eq_true c3
     clear c3
     replace H := Option.bind_eq_some_iff.mp H
     obtain ⟨t527, A40, H⟩ := H
     replace H : ((impl_isOpening.f ((rd_T55 l0 x4_1).f0)).bind fun t528 => (if t528 = true then ((impl_endOf.f k1 l0 x4_1).bind fun t529 => (if ((rd_T55 l0 x4_1).f0) = 5 then (if 0 ≤ (wrap64 (x4_1 + 1)) then (if (wrap64 (x4_1 + 1)) ≤ t529 then (if t529 ≤ (l0.length : Int) then ((impl_bound.f k1 ((l0.take (t529 : Int).toNat).drop ((wrap64 (x4_1 + 1)) : Int).toNat)).bind fun t534 => (impl_bound.l0 k1 l0 (wrap64 ((wrap64 (x3_1 + t527)) + (wrap64 (((rd_T55 l0 x4_1).f2) * t534)))) (wrap64 (t529 + 1)))) else (none)) else (none)) else (none)) else (if 0 ≤ (wrap64 (x4_1 + 1)) then (if (wrap64 (x4_1 + 1)) ≤ t529 then (if t529 ≤ (l0.length : Int) then ((impl_bound.f k1 ((l0.take (t529 : Int).toNat).drop ((wrap64 (x4_1 + 1)) : Int).toNat)).bind fun t539 => (impl_bound.l0 k1 l0 (wrap64 ((wrap64 (x3_1 + t527)) + (wrap64 (1 * t539)))) (wrap64 (t529 + 1)))) else (none)) else (none)) else (none)))) else (impl_bound.l0 k1 l0 (wrap64 ((wrap64 (x3_1 + t527)) + 3)) (wrap64 (x4_1 + 1))))) = some r := H
     have A4 := Aside0.mk A40
     clear A40
     replace H := Option.bind_eq_some_iff.mp H
     obtain ⟨t528, A50, H⟩ := H
     replace H : (if t528 = true then ((impl_endOf.f k1 l0 x4_1).bind fun t529 => (if ((rd_T55 l0 x4_1).f0) = 5 then (if 0 ≤ (wrap64 (x4_1 + 1)) then (if (wrap64 (x4_1 + 1)) ≤ t529 then (if t529 ≤ (l0.length : Int) then ((impl_bound.f k1 ((l0.take (t529 : Int).toNat).drop ((wrap64 (x4_1 + 1)) : Int).toNat)).bind fun t534 => (impl_bound.l0 k1 l0 (wrap64 ((wrap64 (x3_1 + t527)) + (wrap64 (((rd_T55 l0 x4_1).f2) * t534)))) (wrap64 (t529 + 1)))) else (none)) else (none)) else (none)) else (if 0 ≤ (wrap64 (x4_1 + 1)) then (if (wrap64 (x4_1 + 1)) ≤ t529 then (if t529 ≤ (l0.length : Int) then ((impl_bound.f k1 ((l0.take (t529 : Int).toNat).drop ((wrap64 (x4_1 + 1)) : Int).toNat)).bind fun t539 => (impl_bound.l0 k1 l0 (wrap64 ((wrap64 (x3_1 + t527)) + (wrap64 (1 * t539)))) (wrap64 (t529 + 1)))) else (none)) else (none)) else (none)))) else (impl_bound.l0 k1 l0 (wrap64 ((wrap64 (x3_1 + t527)) + 3)) (wrap64 (x4_1 + 1)))) = some r := H
     have A5 := Aside0.mk A50
     clear A50
     by_cases c6 : t528 = true
     ·subst c6
      have H1 : ((impl_endOf.f k1 l0 x4_1).bind fun t529 => (if ((rd_T55 l0 x4_1).f0) = 5 then (if 0 ≤ (wrap64 (x4_1 + 1)) then (if (wrap64 (x4_1 + 1)) ≤ t529 then (if t529 ≤ (l0.length : Int) then ((impl_bound.f k1 ((l0.take (t529 : Int).toNat).drop ((wrap64 (x4_1 + 1)) : Int).toNat)).bind fun t534 => (impl_bound.l0 k1 l0 (wrap64 ((wrap64 (x3_1 + t527)) + (wrap64 (((rd_T55 l0 x4_1).f2) * t534)))) (wrap64 (t529 + 1)))) else (none)) else (none)) else (none)) else (if 0 ≤ (wrap64 (x4_1 + 1)) then (if (wrap64 (x4_1 + 1)) ≤ t529 then (if t529 ≤ (l0.length : Int) then ((impl_bound.f k1 ((l0.take (t529 : Int).toNat).drop ((wrap64 (x4_1 + 1)) : Int).toNat)).bind fun t539 => (impl_bound.l0 k1 l0 (wrap64 ((wrap64 (x3_1 + t527)) + (wrap64 (1 * t539)))) (wrap64 (t529 + 1)))) else (none)) else (none)) else (none)))) = some r := by rw [if_pos rfl] at H; exact H
      clear H
      have H := H1
      clear H1
      replace H := Option.bind_eq_some_iff.mp H
      obtain ⟨t529, A70, H⟩ := H
      replace H : (if ((rd_T55 l0 x4_1).f0) = 5 then (if 0 ≤ (wrap64 (x4_1 + 1)) then (if (wrap64 (x4_1 + 1)) ≤ t529 then (if t529 ≤ (l0.length : Int) then ((impl_bound.f k1 ((l0.take (t529 : Int).toNat).drop ((wrap64 (x4_1 + 1)) : Int).toNat)).bind fun t534 => (impl_bound.l0 k1 l0 (wrap64 ((wrap64 (x3_1 + t527)) + (wrap64 (((rd_T55 l0 x4_1).f2) * t534)))) (wrap64 (t529 + 1)))) else (none)) else (none)) else (none)) else (if 0 ≤ (wrap64 (x4_1 + 1)) then (if (wrap64 (x4_1 + 1)) ≤ t529 then (if t529 ≤ (l0.length : Int) then ((impl_bound.f k1 ((l0.take (t529 : Int).toNat).drop ((wrap64 (x4_1 + 1)) : Int).toNat)).bind fun t539 => (impl_bound.l0 k1 l0 (wrap64 ((wrap64 (x3_1 + t527)) + (wrap64 (1 * t539)))) (wrap64 (t529 + 1)))) else (none)) else (none)) else (none))) = some r := H
      have A7 := Aside0.mk A70
      clear A70
      by_cases c8 : ((rd_T55 l0 x4_1).f0) = 5
      ·rw [if_pos c8] at H
       have c8b0 : (((rd_T55 l0 x4_1).f0) == 5) = true := beq_iff_eq.mpr c8
       have c8b1 : (((rd_T55 l0 x4_1).f0) != 5) = false := bne_eq_false_iff_eq.mpr c8
       clear c8
       obtain ⟨ji9, hji9⟩ : ∃ j_ : Int, (wrap64 (x4_1 + 1)) = j_ := ⟨_, rfl⟩
       replace H : (if 0 ≤ (ji9) then (if (ji9) ≤ t529 then (if t529 ≤ (l0.length : Int) then ((impl_bound.f k1 ((l0.take (t529 : Int).toNat).drop ((ji9) : Int).toNat)).bind fun t534 => (impl_bound.l0 k1 l0 (wrap64 ((wrap64 (x3_1 + t527)) + (wrap64 (((rd_T55 l0 x4_1).f2) * t534)))) (wrap64 (t529 + 1)))) else (none)) else (none)) else (none)) = some r := by first | (rw [hji9] at H; exact H) | (simp only [hji9] at H ⊢; exact H)
       (try rw [hji9] at A4)
       (try rw [hji9] at A5)
       (try rw [hji9] at A7)
       have hji9w : (IntKind.i64.wrap (x4_1 + 1)) = ji9 := (i64_w _).trans hji9
       by_cases c10 : 0 ≤ (ji9)
       ·rw [if_pos c10] at H
        have c10b0 := eq_true c10
        have c10b1 : decide (0 ≤ (ji9)) = true := decide_eq_true c10
        clear c10
        by_cases c11 : (ji9) ≤ t529
        ·rw [if_pos c11] at H
         have c11b0 := eq_true c11
         have c11b1 : decide ((ji9) ≤ t529) = true := decide_eq_true c11
         clear c11
         by_cases c12 : t529 ≤ (l0.length : Int)
         ·rw [if_pos c12] at H
          have c12b0 := eq_true c12
          have c12b1 : decide (t529 ≤ (l0.length : Int)) = true := decide_eq_true c12
          clear c12
          obtain ⟨y530, hy530⟩ : ∃ y_ : List (S55), y_ = ((l0.take (t529 : Int).toNat).drop ((ji9) : Int).toNat) := ⟨_, rfl⟩
          replace H : ((impl_bound.f k1 y530).bind fun t534 => (impl_bound.l0 k1 l0 (wrap64 ((wrap64 (x3_1 + t527)) + (wrap64 (((rd_T55 l0 x4_1).f2) * t534)))) (wrap64 (t529 + 1)))) = some r := by first | (rw [hy530]; with_reducible exact H) | (have H2_ := (Option.bind_some _ _).symm.trans H; rw [hy530]; with_reducible exact H2_) | (have H2_ := (Option.bind_some _ _).symm.trans H; with_reducible exact H2_) | with_reducible exact H | (rw [hy530]; exact H) | exact H
          have Ny530 := Aside0.mk hy530
          clear hy530
          replace H := Option.bind_eq_some_iff.mp H
          obtain ⟨t534, A130, H⟩ := H
          replace H : (impl_bound.l0 k1 l0 (wrap64 ((wrap64 (x3_1 + t527)) + (wrap64 (((rd_T55 l0 x4_1).f2) * t534)))) (wrap64 (t529 + 1))) = some r := H
          have A13 := Aside0.mk A130
          clear A130
          have H' := Aside0.mk H
          clear H
          have p525 : 0 ≤ (x4_1 : Int) := of_decide_eq_true z16_5
          have q525 : x4_1 < (l0.length : Int) := of_decide_eq_true z16_5
          obtain ⟨ad525, e525, hx525_0, hx525_1, hx525_2, hx525_3, hx525_4, hx525_5⟩ := at_T55 HR0.out x4_1 p525 q525
          cases e525
          replace hx525_0 := (HB.out.cell (World.block_lt_of_cell? w _ hx525_0)).trans hx525_0
          replace hx525_1 := (HB.out.cell (World.block_lt_of_cell? w _ hx525_1)).trans hx525_1
          replace hx525_2 := (HB.out.cell (World.block_lt_of_cell? w _ hx525_2)).trans hx525_2
          replace hx525_3 := (HB.out.cell (World.block_lt_of_cell? w _ hx525_3)).trans hx525_3
          replace hx525_4 := (HB.out.cell (World.block_lt_of_cell? w _ hx525_4)).trans hx525_4
          replace hx525_5 := (HB.out.cell (World.block_lt_of_cell? w _ hx525_5)).trans hx525_5
          replace p525 := eq_true p525
          replace q525 := eq_true q525
          go_wp2_with (first | ((with_reducible refine gate_dst (N := 5) rfl ?_); refine box_event ?hg (N := 5) ?hd (cs := #[.int .i64 0, .int .i64 0, .int .i64 0, .int .i64 0, .int .i64 0, .int .i64 0]) (t := 55) ?hr ?_; (case hd => rfl); (case hg => rfl); (case hr => exact z16_10); intro gb526 hg w14 hbox hb; have n0_ := Aside0.mk (below_step z16_0 hb); have n1_ := Aside0.mk (hbox); have n2_ := Aside0.mk ((z16_18 : w.heap.size ≤ gb526)); have n3_ := Aside0.mk ((z16_18 : w.heap.size ≤ gb526)); clear HB; have HB := n0_; have BK526 := n1_; have GW526 := n2_; have GE526 := n3_; clear n0_ n1_ n2_ n3_; clear hb hbox hg; have hcz15_0 : w14.cell? ⟨gb526, 0, none⟩ = some (.int .i64 0) := (blk_cell BK526.out 0).trans rfl; have hcz15_1 : w14.cell? ⟨gb526, 1, none⟩ = some (.int .i64 0) := (blk_cell BK526.out 1).trans rfl; have hcz15_2 : w14.cell? ⟨gb526, 2, none⟩ = some (.int .i64 0) := (blk_cell BK526.out 2).trans rfl; have hcz15_3 : w14.cell? ⟨gb526, 3, none⟩ = some (.int .i64 0) := (blk_cell BK526.out 3).trans rfl; have hcz15_4 : w14.cell? ⟨gb526, 4, none⟩ = some (.int .i64 0) := (blk_cell BK526.out 4).trans rfl; have hcz15_5 : w14.cell? ⟨gb526, 5, none⟩ = some (.int .i64 0) := (blk_cell BK526.out 5).trans rfl; have hfz15_0 := blk_frozen BK526.out 0; have hfz15_1 := blk_frozen BK526.out 1; have hfz15_2 := blk_frozen BK526.out 2; have hfz15_3 := blk_frozen BK526.out 3; have hfz15_4 := blk_frozen BK526.out 4; have hfz15_5 := blk_frozen BK526.out 5) | ((with_reducible refine gate_store (t := 55) (p := 5) rfl ?_); refine store_event (t := 55) (p := 5) (v := ?vo_w16) (w1 := ((((((w14.setCell ⟨gb526, 0, none⟩ (.int .i64 ((rd_T55 l0 x4_1).f0))).setCell ⟨gb526, 1, none⟩ (.int .i64 ((rd_T55 l0 x4_1).f1))).setCell ⟨gb526, 2, none⟩ (.int .i64 ((rd_T55 l0 x4_1).f2))).setCell ⟨gb526, 3, none⟩ (.int .i64 ((rd_T55 l0 x4_1).f3.f0))).setCell ⟨gb526, 4, none⟩ (.int .i64 ((rd_T55 l0 x4_1).f3.f1))).setCell ⟨gb526, 5, none⟩ (.int .i64 ((rd_T55 l0 x4_1).f3.f2)))) ?hg ?ho ?hn ?hr ?_; (case ho => rfl); (case hg => rfl); (case hn => rfl); (case hr => exact z16_10); intro w16 hw; have n0_ : Aside0 (w16.heap[gb526]? = some (.cells #[.int .i64 ((rd_T55 l0 x4_1).f0), .int .i64 ((rd_T55 l0 x4_1).f1), .int .i64 ((rd_T55 l0 x4_1).f2), .int .i64 ((rd_T55 l0 x4_1).f3.f0), .int .i64 ((rd_T55 l0 x4_1).f3.f1), .int .i64 ((rd_T55 l0 x4_1).f3.f2)] 55 (0, 0))) := ⟨z16_2⟩; have n1_ : Aside0 (Below w.heap.size w w16) := ⟨(by rw [hw]; exact z16_3)⟩; clear hw; clear BK526; clear HB; have BK526 := n0_; have HB := n1_; clear n0_ n1_; have hcz17_0 : w16.cell? ⟨gb526, 0, none⟩ = some (.int .i64 ((rd_T55 l0 x4_1).f0)) := (blk_cell BK526.out 0).trans rfl; have hcz17_1 : w16.cell? ⟨gb526, 1, none⟩ = some (.int .i64 ((rd_T55 l0 x4_1).f1)) := (blk_cell BK526.out 1).trans rfl; have hcz17_2 : w16.cell? ⟨gb526, 2, none⟩ = some (.int .i64 ((rd_T55 l0 x4_1).f2)) := (blk_cell BK526.out 2).trans rfl; have hcz17_3 : w16.cell? ⟨gb526, 3, none⟩ = some (.int .i64 ((rd_T55 l0 x4_1).f3.f0)) := (blk_cell BK526.out 3).trans rfl; have hcz17_4 : w16.cell? ⟨gb526, 4, none⟩ = some (.int .i64 ((rd_T55 l0 x4_1).f3.f1)) := (blk_cell BK526.out 4).trans rfl; have hcz17_5 : w16.cell? ⟨gb526, 5, none⟩ = some (.int .i64 ((rd_T55 l0 x4_1).f3.f2)) := (blk_cell BK526.out 5).trans rfl; have hfz17_0 := blk_frozen BK526.out 0; have hfz17_1 := blk_frozen BK526.out 1; have hfz17_2 := blk_frozen BK526.out 2; have hfz17_3 := blk_frozen BK526.out 3; have hfz17_4 := blk_frozen BK526.out 4; have hfz17_5 := blk_frozen BK526.out 5) | ((with_reducible refine gate_callee (f := 45) rfl ?_); refine goesL_ (some 20) rfl rfl Try.func45 z16_9 rfl #[.agg #[.int .i64 ((rd_T55 l0 x4_1).f0), .int .i64 ((rd_T55 l0 x4_1).f1), .int .i64 ((rd_T55 l0 x4_1).f2), .int .i64 ((rd_T55 l0 x4_1).f3.f0), .int .i64 ((rd_T55 l0 x4_1).f3.f1), .int .i64 ((rd_T55 l0 x4_1).f3.f2)]] rfl z16_1 ?_; (with_reducible refine (impl_StmtCost.calls k1 ((rd_T55 l0 x4_1).f0) ((rd_T55 l0 x4_1).f1) ((rd_T55 l0 x4_1).f2) ((rd_T55 l0 x4_1).f3.f0) ((rd_T55 l0 x4_1).f3.f1) ((rd_T55 l0 x4_1).f3.f2) t527 _ A4.out).mono ?_); rintro e w18 ⟨rfl, hb⟩; refine ⟨_, rfl, ?_⟩; have n0_ := Aside0.mk (blk_below (g := gb526) (o := .cells #[.int .i64 ((rd_T55 l0 x4_1).f0), .int .i64 ((rd_T55 l0 x4_1).f1), .int .i64 ((rd_T55 l0 x4_1).f2), .int .i64 ((rd_T55 l0 x4_1).f3.f0), .int .i64 ((rd_T55 l0 x4_1).f3.f1), .int .i64 ((rd_T55 l0 x4_1).f3.f2)] 55 (0, 0)) z16_12 hb); have n1_ := Aside0.mk (below_step z16_3 hb); clear BK526; clear HB; have BK526 := n0_; have HB := n1_; clear n0_ n1_; (try clear hb); (try clear hb2); (try clear hk); (try clear hi); have hcz19_0 : w18.cell? ⟨gb526, 0, none⟩ = some (.int .i64 ((rd_T55 l0 x4_1).f0)) := (blk_cell BK526.out 0).trans rfl; have hcz19_1 : w18.cell? ⟨gb526, 1, none⟩ = some (.int .i64 ((rd_T55 l0 x4_1).f1)) := (blk_cell BK526.out 1).trans rfl; have hcz19_2 : w18.cell? ⟨gb526, 2, none⟩ = some (.int .i64 ((rd_T55 l0 x4_1).f2)) := (blk_cell BK526.out 2).trans rfl; have hcz19_3 : w18.cell? ⟨gb526, 3, none⟩ = some (.int .i64 ((rd_T55 l0 x4_1).f3.f0)) := (blk_cell BK526.out 3).trans rfl; have hcz19_4 : w18.cell? ⟨gb526, 4, none⟩ = some (.int .i64 ((rd_T55 l0 x4_1).f3.f1)) := (blk_cell BK526.out 4).trans rfl; have hcz19_5 : w18.cell? ⟨gb526, 5, none⟩ = some (.int .i64 ((rd_T55 l0 x4_1).f3.f2)) := (blk_cell BK526.out 5).trans rfl; have hfz19_0 := blk_frozen BK526.out 0; have hfz19_1 := blk_frozen BK526.out 1; have hfz19_2 := blk_frozen BK526.out 2; have hfz19_3 := blk_frozen BK526.out 3; have hfz19_4 := blk_frozen BK526.out 4; have hfz19_5 := blk_frozen BK526.out 5) | ((with_reducible refine gate_callee (f := 46) rfl ?_); refine goesL_ (some 24) rfl rfl Try.func46 z16_9 rfl #[.int .i64 ((rd_T55 l0 x4_1).f0)] rfl z16_1 ?_; (with_reducible refine (impl_isOpening.calls ((rd_T55 l0 x4_1).f0) true _ A5.out).mono ?_); rintro e w' ⟨rfl, ⟨nd, rfl⟩⟩; refine ⟨_, rfl, ?_⟩) | ((with_reducible refine gate_callee (f := 47) rfl ?_); refine goesL_ (some 30) rfl rfl Try.func47 z16_9 rfl #[.slice (some ad525) l0.length c0, .int .i64 x4_1] rfl z16_1 ?_; (with_reducible refine (impl_endOf.calls k1 _ _ l0 x4_1 t529 _ ?side1 ?side2 A7.out).mono ?_); (case side1 => repeat (first | exact (Kd.C_below HR0.out z16_3) | (with_reducible refine Kd.C_alloc ?_ _) | (with_reducible refine Kd.C_drewN ?_ _) | (with_reducible refine Kd.C_drew ?_))); (case side2 => exact HC0.out); rintro e w' ⟨rfl, ⟨nd, rfl⟩⟩; refine ⟨_, rfl, ?_⟩; have q20 : (t529 : Int) ≤ ((l0.length : Int) : Int) := of_decide_eq_true z16_5; obtain ⟨i020, hi020, _, hsz20, _⟩ := info_parts info55; have hroom20 : l0.length ≤ c0 := HC0.out; have hC20 : Kd.C k55 _ (some ad525) l0.length l0 := HR0.out; have ql20 : ((ji9) : Int) ≤ (t529 : Int) := of_decide_eq_true z16_5; have q020 : (0 : Int) ≤ ((ji9) : Int) := of_decide_eq_true z16_5; have hcut20 := cut_mid (P := Try.prog) 29 55 .i64 .i64 Try.underlying29 hi020 6 hsz20 (some ad525) l0.length c0 (ji9) t529 q020 ql20 q20 hroom20; have hr20 := Kd.C_mid (lo := ((ji9) : Int).toNat) (hi := (t529 : Int).toNat) (c := c0) hC20 (by omega) (by omega) hroom20; obtain ⟨A20, hA20⟩ : ∃ A1, A1 = (if c0 = ((ji9) : Int).toNat then (some ad525) else ((some ad525) : Option Addr).map (·.add (((ji9) : Int).toNat * 6))) := ⟨_, rfl⟩; obtain ⟨c20, hc20⟩ : ∃ c1, c1 = c0 - ((ji9) : Int).toNat := ⟨_, rfl⟩; have hy20 : y530.length = (t529 : Int).toNat - ((ji9) : Int).toNat := (by rw [Ny530.out, List.length_drop, List.length_take] <;> omega); rw [show ((l0).take (t529 : Int).toNat).drop ((ji9) : Int).toNat = y530 from Ny530.out.symm] at hr20; replace hr20 : Kd.C k55 _ A20 y530.length y530 := (by rw [hA20]; exact hr20); rw [← hy20, ← hA20, ← hc20] at hcut20; have HR533 := Aside0.mk hr20; have HC533 := Aside0.mk (show y530.length ≤ c20 from by rw [hy20, hc20]; exact Nat.sub_le_sub_right (Nat.le_trans (by omega) hroom20) _); clear hr20 hC20 hroom20 hi020 hsz20 hc20; have KY20 := Aside0.mk hy20; have KA20 := Aside0.mk hA20; clear hy20 hA20; replace q20 := eq_true q20) | ((with_reducible refine gate_callee (f := 28) rfl ?_); refine goesL_ (some 43) rfl rfl Try.func28 z16_9 rfl #[.slice A20 y530.length c20] rfl z16_1 ?_; (with_reducible refine (ih k1 (by have := HK1.out; omega) _ _ y530 t534 _ ?side1 ?side2 A13.out).mono ?_); (case side1 => repeat (first | exact (Kd.C_below HR533.out z16_3) | (with_reducible refine Kd.C_alloc ?_ _) | (with_reducible refine Kd.C_drewN ?_ _) | (with_reducible refine Kd.C_drew ?_))); (case side2 => exact HC533.out); rintro e w21 ⟨rfl, hb⟩; refine ⟨_, rfl, ?_⟩; have n0_ := Aside0.mk (blk_below (g := gb526) (o := .cells #[.int .i64 ((rd_T55 l0 x4_1).f0), .int .i64 ((rd_T55 l0 x4_1).f1), .int .i64 ((rd_T55 l0 x4_1).f2), .int .i64 ((rd_T55 l0 x4_1).f3.f0), .int .i64 ((rd_T55 l0 x4_1).f3.f1), .int .i64 ((rd_T55 l0 x4_1).f3.f2)] 55 (0, 0)) z16_12 hb); have n1_ := Aside0.mk (below_step z16_3 hb); clear BK526; clear HB; have BK526 := n0_; have HB := n1_; clear n0_ n1_; (try clear hb); (try clear hb2); (try clear hk); (try clear hi)))
          go_roundg k1
          case measure => have := HK1.out; omega
          case rel => exact ⟨(wrap64 ((wrap64 (x3_1 + t527)) + (wrap64 (((rd_T55 l0 x4_1).f2) * t534)))), (wrap64 (t529 + 1)), z16_8, z16_8, H', ⟨by have := HK1.out; omega⟩, ⟨by repeat (first | (with_reducible first | exact HB.out | apply below_alloc | apply pw_below_drewN | apply below_drew1 | refine below_set ?_ GE526.out) | exact HB.out)⟩⟩
         ·rw [if_neg c12] at H
          exact absurd H (by simp)
        ·rw [if_neg c11] at H
         exact absurd H (by simp)
       ·rw [if_neg c10] at H
        exact absurd H (by simp)
      ·rw [if_neg c8] at H
       have c8b0 : (((rd_T55 l0 x4_1).f0) == 5) = false := beq_eq_false_iff_ne.mpr c8
       have c8b1 : (((rd_T55 l0 x4_1).f0) != 5) = true := bne_iff_ne.mpr c8
       obtain ⟨ji22, hji22⟩ : ∃ j_ : Int, (wrap64 (x4_1 + 1)) = j_ := ⟨_, rfl⟩
       replace H : (if 0 ≤ (ji22) then (if (ji22) ≤ t529 then (if t529 ≤ (l0.length : Int) then ((impl_bound.f k1 ((l0.take (t529 : Int).toNat).drop ((ji22) : Int).toNat)).bind fun t539 => (impl_bound.l0 k1 l0 (wrap64 ((wrap64 (x3_1 + t527)) + (wrap64 (1 * t539)))) (wrap64 (t529 + 1)))) else (none)) else (none)) else (none)) = some r := by first | (rw [hji22] at H; exact H) | (simp only [hji22] at H ⊢; exact H)
       (try rw [hji22] at A4)
       (try rw [hji22] at A5)
       (try rw [hji22] at A7)
       have hji22w : (IntKind.i64.wrap (x4_1 + 1)) = ji22 := (i64_w _).trans hji22
       by_cases c23 : 0 ≤ (ji22)
       ·rw [if_pos c23] at H
        have c23b0 := eq_true c23
        have c23b1 : decide (0 ≤ (ji22)) = true := decide_eq_true c23
        clear c23
        by_cases c24 : (ji22) ≤ t529
        ·rw [if_pos c24] at H
         have c24b0 := eq_true c24
         have c24b1 : decide ((ji22) ≤ t529) = true := decide_eq_true c24
         clear c24
         by_cases c25 : t529 ≤ (l0.length : Int)
         ·rw [if_pos c25] at H
          have c25b0 := eq_true c25
          have c25b1 : decide (t529 ≤ (l0.length : Int)) = true := decide_eq_true c25
          clear c25
          obtain ⟨y535, hy535⟩ : ∃ y_ : List (S55), y_ = ((l0.take (t529 : Int).toNat).drop ((ji22) : Int).toNat) := ⟨_, rfl⟩
          replace H : ((impl_bound.f k1 y535).bind fun t539 => (impl_bound.l0 k1 l0 (wrap64 ((wrap64 (x3_1 + t527)) + (wrap64 (1 * t539)))) (wrap64 (t529 + 1)))) = some r := by first | (rw [hy535]; with_reducible exact H) | (have H2_ := (Option.bind_some _ _).symm.trans H; rw [hy535]; with_reducible exact H2_) | (have H2_ := (Option.bind_some _ _).symm.trans H; with_reducible exact H2_) | with_reducible exact H | (rw [hy535]; exact H) | exact H
          have Ny535 := Aside0.mk hy535
          clear hy535
          replace H := Option.bind_eq_some_iff.mp H
          obtain ⟨t539, A260, H⟩ := H
          replace H : (impl_bound.l0 k1 l0 (wrap64 ((wrap64 (x3_1 + t527)) + (wrap64 (1 * t539)))) (wrap64 (t529 + 1))) = some r := H
          have A26 := Aside0.mk A260
          clear A260
          have H' := Aside0.mk H
          clear H
          have p525 : 0 ≤ (x4_1 : Int) := of_decide_eq_true z16_5
          have q525 : x4_1 < (l0.length : Int) := of_decide_eq_true z16_5
          obtain ⟨ad525, e525, hx525_0, hx525_1, hx525_2, hx525_3, hx525_4, hx525_5⟩ := at_T55 HR0.out x4_1 p525 q525
          cases e525
          replace hx525_0 := (HB.out.cell (World.block_lt_of_cell? w _ hx525_0)).trans hx525_0
          replace hx525_1 := (HB.out.cell (World.block_lt_of_cell? w _ hx525_1)).trans hx525_1
          replace hx525_2 := (HB.out.cell (World.block_lt_of_cell? w _ hx525_2)).trans hx525_2
          replace hx525_3 := (HB.out.cell (World.block_lt_of_cell? w _ hx525_3)).trans hx525_3
          replace hx525_4 := (HB.out.cell (World.block_lt_of_cell? w _ hx525_4)).trans hx525_4
          replace hx525_5 := (HB.out.cell (World.block_lt_of_cell? w _ hx525_5)).trans hx525_5
          replace p525 := eq_true p525
          replace q525 := eq_true q525
          go_wp2_with (first | ((with_reducible refine gate_dst (N := 5) rfl ?_); refine box_event ?hg (N := 5) ?hd (cs := #[.int .i64 0, .int .i64 0, .int .i64 0, .int .i64 0, .int .i64 0, .int .i64 0]) (t := 55) ?hr ?_; (case hd => rfl); (case hg => rfl); (case hr => exact z16_10); intro gb526 hg w27 hbox hb; have n0_ := Aside0.mk (below_step z16_0 hb); have n1_ := Aside0.mk (hbox); have n2_ := Aside0.mk ((z16_18 : w.heap.size ≤ gb526)); have n3_ := Aside0.mk ((z16_18 : w.heap.size ≤ gb526)); clear HB; have HB := n0_; have BK526 := n1_; have GW526 := n2_; have GE526 := n3_; clear n0_ n1_ n2_ n3_; clear hb hbox hg; have hcz28_0 : w27.cell? ⟨gb526, 0, none⟩ = some (.int .i64 0) := (blk_cell BK526.out 0).trans rfl; have hcz28_1 : w27.cell? ⟨gb526, 1, none⟩ = some (.int .i64 0) := (blk_cell BK526.out 1).trans rfl; have hcz28_2 : w27.cell? ⟨gb526, 2, none⟩ = some (.int .i64 0) := (blk_cell BK526.out 2).trans rfl; have hcz28_3 : w27.cell? ⟨gb526, 3, none⟩ = some (.int .i64 0) := (blk_cell BK526.out 3).trans rfl; have hcz28_4 : w27.cell? ⟨gb526, 4, none⟩ = some (.int .i64 0) := (blk_cell BK526.out 4).trans rfl; have hcz28_5 : w27.cell? ⟨gb526, 5, none⟩ = some (.int .i64 0) := (blk_cell BK526.out 5).trans rfl; have hfz28_0 := blk_frozen BK526.out 0; have hfz28_1 := blk_frozen BK526.out 1; have hfz28_2 := blk_frozen BK526.out 2; have hfz28_3 := blk_frozen BK526.out 3; have hfz28_4 := blk_frozen BK526.out 4; have hfz28_5 := blk_frozen BK526.out 5) | ((with_reducible refine gate_store (t := 55) (p := 5) rfl ?_); refine store_event (t := 55) (p := 5) (v := ?vo_w29) (w1 := ((((((w27.setCell ⟨gb526, 0, none⟩ (.int .i64 ((rd_T55 l0 x4_1).f0))).setCell ⟨gb526, 1, none⟩ (.int .i64 ((rd_T55 l0 x4_1).f1))).setCell ⟨gb526, 2, none⟩ (.int .i64 ((rd_T55 l0 x4_1).f2))).setCell ⟨gb526, 3, none⟩ (.int .i64 ((rd_T55 l0 x4_1).f3.f0))).setCell ⟨gb526, 4, none⟩ (.int .i64 ((rd_T55 l0 x4_1).f3.f1))).setCell ⟨gb526, 5, none⟩ (.int .i64 ((rd_T55 l0 x4_1).f3.f2)))) ?hg ?ho ?hn ?hr ?_; (case ho => rfl); (case hg => rfl); (case hn => rfl); (case hr => exact z16_10); intro w29 hw; have n0_ : Aside0 (w29.heap[gb526]? = some (.cells #[.int .i64 ((rd_T55 l0 x4_1).f0), .int .i64 ((rd_T55 l0 x4_1).f1), .int .i64 ((rd_T55 l0 x4_1).f2), .int .i64 ((rd_T55 l0 x4_1).f3.f0), .int .i64 ((rd_T55 l0 x4_1).f3.f1), .int .i64 ((rd_T55 l0 x4_1).f3.f2)] 55 (0, 0))) := ⟨z16_2⟩; have n1_ : Aside0 (Below w.heap.size w w29) := ⟨(by rw [hw]; exact z16_3)⟩; clear hw; clear BK526; clear HB; have BK526 := n0_; have HB := n1_; clear n0_ n1_; have hcz30_0 : w29.cell? ⟨gb526, 0, none⟩ = some (.int .i64 ((rd_T55 l0 x4_1).f0)) := (blk_cell BK526.out 0).trans rfl; have hcz30_1 : w29.cell? ⟨gb526, 1, none⟩ = some (.int .i64 ((rd_T55 l0 x4_1).f1)) := (blk_cell BK526.out 1).trans rfl; have hcz30_2 : w29.cell? ⟨gb526, 2, none⟩ = some (.int .i64 ((rd_T55 l0 x4_1).f2)) := (blk_cell BK526.out 2).trans rfl; have hcz30_3 : w29.cell? ⟨gb526, 3, none⟩ = some (.int .i64 ((rd_T55 l0 x4_1).f3.f0)) := (blk_cell BK526.out 3).trans rfl; have hcz30_4 : w29.cell? ⟨gb526, 4, none⟩ = some (.int .i64 ((rd_T55 l0 x4_1).f3.f1)) := (blk_cell BK526.out 4).trans rfl; have hcz30_5 : w29.cell? ⟨gb526, 5, none⟩ = some (.int .i64 ((rd_T55 l0 x4_1).f3.f2)) := (blk_cell BK526.out 5).trans rfl; have hfz30_0 := blk_frozen BK526.out 0; have hfz30_1 := blk_frozen BK526.out 1; have hfz30_2 := blk_frozen BK526.out 2; have hfz30_3 := blk_frozen BK526.out 3; have hfz30_4 := blk_frozen BK526.out 4; have hfz30_5 := blk_frozen BK526.out 5) | ((with_reducible refine gate_callee (f := 45) rfl ?_); refine goesL_ (some 20) rfl rfl Try.func45 z16_9 rfl #[.agg #[.int .i64 ((rd_T55 l0 x4_1).f0), .int .i64 ((rd_T55 l0 x4_1).f1), .int .i64 ((rd_T55 l0 x4_1).f2), .int .i64 ((rd_T55 l0 x4_1).f3.f0), .int .i64 ((rd_T55 l0 x4_1).f3.f1), .int .i64 ((rd_T55 l0 x4_1).f3.f2)]] rfl z16_1 ?_; (with_reducible refine (impl_StmtCost.calls k1 ((rd_T55 l0 x4_1).f0) ((rd_T55 l0 x4_1).f1) ((rd_T55 l0 x4_1).f2) ((rd_T55 l0 x4_1).f3.f0) ((rd_T55 l0 x4_1).f3.f1) ((rd_T55 l0 x4_1).f3.f2) t527 _ A4.out).mono ?_); rintro e w31 ⟨rfl, hb⟩; refine ⟨_, rfl, ?_⟩; have n0_ := Aside0.mk (blk_below (g := gb526) (o := .cells #[.int .i64 ((rd_T55 l0 x4_1).f0), .int .i64 ((rd_T55 l0 x4_1).f1), .int .i64 ((rd_T55 l0 x4_1).f2), .int .i64 ((rd_T55 l0 x4_1).f3.f0), .int .i64 ((rd_T55 l0 x4_1).f3.f1), .int .i64 ((rd_T55 l0 x4_1).f3.f2)] 55 (0, 0)) z16_12 hb); have n1_ := Aside0.mk (below_step z16_3 hb); clear BK526; clear HB; have BK526 := n0_; have HB := n1_; clear n0_ n1_; (try clear hb); (try clear hb2); (try clear hk); (try clear hi); have hcz32_0 : w31.cell? ⟨gb526, 0, none⟩ = some (.int .i64 ((rd_T55 l0 x4_1).f0)) := (blk_cell BK526.out 0).trans rfl; have hcz32_1 : w31.cell? ⟨gb526, 1, none⟩ = some (.int .i64 ((rd_T55 l0 x4_1).f1)) := (blk_cell BK526.out 1).trans rfl; have hcz32_2 : w31.cell? ⟨gb526, 2, none⟩ = some (.int .i64 ((rd_T55 l0 x4_1).f2)) := (blk_cell BK526.out 2).trans rfl; have hcz32_3 : w31.cell? ⟨gb526, 3, none⟩ = some (.int .i64 ((rd_T55 l0 x4_1).f3.f0)) := (blk_cell BK526.out 3).trans rfl; have hcz32_4 : w31.cell? ⟨gb526, 4, none⟩ = some (.int .i64 ((rd_T55 l0 x4_1).f3.f1)) := (blk_cell BK526.out 4).trans rfl; have hcz32_5 : w31.cell? ⟨gb526, 5, none⟩ = some (.int .i64 ((rd_T55 l0 x4_1).f3.f2)) := (blk_cell BK526.out 5).trans rfl; have hfz32_0 := blk_frozen BK526.out 0; have hfz32_1 := blk_frozen BK526.out 1; have hfz32_2 := blk_frozen BK526.out 2; have hfz32_3 := blk_frozen BK526.out 3; have hfz32_4 := blk_frozen BK526.out 4; have hfz32_5 := blk_frozen BK526.out 5) | ((with_reducible refine gate_callee (f := 46) rfl ?_); refine goesL_ (some 24) rfl rfl Try.func46 z16_9 rfl #[.int .i64 ((rd_T55 l0 x4_1).f0)] rfl z16_1 ?_; (with_reducible refine (impl_isOpening.calls ((rd_T55 l0 x4_1).f0) true _ A5.out).mono ?_); rintro e w' ⟨rfl, ⟨nd, rfl⟩⟩; refine ⟨_, rfl, ?_⟩) | ((with_reducible refine gate_callee (f := 47) rfl ?_); refine goesL_ (some 30) rfl rfl Try.func47 z16_9 rfl #[.slice (some ad525) l0.length c0, .int .i64 x4_1] rfl z16_1 ?_; (with_reducible refine (impl_endOf.calls k1 _ _ l0 x4_1 t529 _ ?side1 ?side2 A7.out).mono ?_); (case side1 => repeat (first | exact (Kd.C_below HR0.out z16_3) | (with_reducible refine Kd.C_alloc ?_ _) | (with_reducible refine Kd.C_drewN ?_ _) | (with_reducible refine Kd.C_drew ?_))); (case side2 => exact HC0.out); rintro e w' ⟨rfl, ⟨nd, rfl⟩⟩; refine ⟨_, rfl, ?_⟩; have q33 : (t529 : Int) ≤ ((l0.length : Int) : Int) := of_decide_eq_true z16_5; obtain ⟨i033, hi033, _, hsz33, _⟩ := info_parts info55; have hroom33 : l0.length ≤ c0 := HC0.out; have hC33 : Kd.C k55 _ (some ad525) l0.length l0 := HR0.out; have ql33 : ((ji22) : Int) ≤ (t529 : Int) := of_decide_eq_true z16_5; have q033 : (0 : Int) ≤ ((ji22) : Int) := of_decide_eq_true z16_5; have hcut33 := cut_mid (P := Try.prog) 29 55 .i64 .i64 Try.underlying29 hi033 6 hsz33 (some ad525) l0.length c0 (ji22) t529 q033 ql33 q33 hroom33; have hr33 := Kd.C_mid (lo := ((ji22) : Int).toNat) (hi := (t529 : Int).toNat) (c := c0) hC33 (by omega) (by omega) hroom33; obtain ⟨A33, hA33⟩ : ∃ A1, A1 = (if c0 = ((ji22) : Int).toNat then (some ad525) else ((some ad525) : Option Addr).map (·.add (((ji22) : Int).toNat * 6))) := ⟨_, rfl⟩; obtain ⟨c33, hc33⟩ : ∃ c1, c1 = c0 - ((ji22) : Int).toNat := ⟨_, rfl⟩; have hy33 : y535.length = (t529 : Int).toNat - ((ji22) : Int).toNat := (by rw [Ny535.out, List.length_drop, List.length_take] <;> omega); rw [show ((l0).take (t529 : Int).toNat).drop ((ji22) : Int).toNat = y535 from Ny535.out.symm] at hr33; replace hr33 : Kd.C k55 _ A33 y535.length y535 := (by rw [hA33]; exact hr33); rw [← hy33, ← hA33, ← hc33] at hcut33; have HR538 := Aside0.mk hr33; have HC538 := Aside0.mk (show y535.length ≤ c33 from by rw [hy33, hc33]; exact Nat.sub_le_sub_right (Nat.le_trans (by omega) hroom33) _); clear hr33 hC33 hroom33 hi033 hsz33 hc33; have KY33 := Aside0.mk hy33; have KA33 := Aside0.mk hA33; clear hy33 hA33; replace q33 := eq_true q33) | ((with_reducible refine gate_callee (f := 28) rfl ?_); refine goesL_ (some 43) rfl rfl Try.func28 z16_9 rfl #[.slice A33 y535.length c33] rfl z16_1 ?_; (with_reducible refine (ih k1 (by have := HK1.out; omega) _ _ y535 t539 _ ?side1 ?side2 A26.out).mono ?_); (case side1 => repeat (first | exact (Kd.C_below HR538.out z16_3) | (with_reducible refine Kd.C_alloc ?_ _) | (with_reducible refine Kd.C_drewN ?_ _) | (with_reducible refine Kd.C_drew ?_))); (case side2 => exact HC538.out); rintro e w34 ⟨rfl, hb⟩; refine ⟨_, rfl, ?_⟩; have n0_ := Aside0.mk (blk_below (g := gb526) (o := .cells #[.int .i64 ((rd_T55 l0 x4_1).f0), .int .i64 ((rd_T55 l0 x4_1).f1), .int .i64 ((rd_T55 l0 x4_1).f2), .int .i64 ((rd_T55 l0 x4_1).f3.f0), .int .i64 ((rd_T55 l0 x4_1).f3.f1), .int .i64 ((rd_T55 l0 x4_1).f3.f2)] 55 (0, 0)) z16_12 hb); have n1_ := Aside0.mk (below_step z16_3 hb); clear BK526; clear HB; have BK526 := n0_; have HB := n1_; clear n0_ n1_; (try clear hb); (try clear hb2); (try clear hk); (try clear hi)))
          go_roundg k1
          case measure => have := HK1.out; omega
          case rel => exact ⟨(wrap64 ((wrap64 (x3_1 + t527)) + (wrap64 (1 * t539)))), (wrap64 (t529 + 1)), z16_8, z16_8, H', ⟨by have := HK1.out; omega⟩, ⟨by repeat (first | (with_reducible first | exact HB.out | apply below_alloc | apply pw_below_drewN | apply below_drew1 | refine below_set ?_ GE526.out) | exact HB.out)⟩⟩
         ·rw [if_neg c25] at H
          exact absurd H (by simp)
        ·rw [if_neg c24] at H
         exact absurd H (by simp)
       ·rw [if_neg c23] at H
        exact absurd H (by simp)
     ·replace c6 := Bool.eq_false_iff.mpr c6
      subst c6
      have H1 : (impl_bound.l0 k1 l0 (wrap64 ((wrap64 (x3_1 + t527)) + 3)) (wrap64 (x4_1 + 1))) = some r := by rw [if_neg (show ¬ (false = true) by decide)] at H; exact H
      clear H
      have H := H1
      clear H1
      have H' := Aside0.mk H
      clear H
      have p525 : 0 ≤ (x4_1 : Int) := of_decide_eq_true z16_5
      have q525 : x4_1 < (l0.length : Int) := of_decide_eq_true z16_5
      obtain ⟨ad525, e525, hx525_0, hx525_1, hx525_2, hx525_3, hx525_4, hx525_5⟩ := at_T55 HR0.out x4_1 p525 q525
      cases e525
      replace hx525_0 := (HB.out.cell (World.block_lt_of_cell? w _ hx525_0)).trans hx525_0
      replace hx525_1 := (HB.out.cell (World.block_lt_of_cell? w _ hx525_1)).trans hx525_1
      replace hx525_2 := (HB.out.cell (World.block_lt_of_cell? w _ hx525_2)).trans hx525_2
      replace hx525_3 := (HB.out.cell (World.block_lt_of_cell? w _ hx525_3)).trans hx525_3
      replace hx525_4 := (HB.out.cell (World.block_lt_of_cell? w _ hx525_4)).trans hx525_4
      replace hx525_5 := (HB.out.cell (World.block_lt_of_cell? w _ hx525_5)).trans hx525_5
      replace p525 := eq_true p525
      replace q525 := eq_true q525
      go_wp2_with (first | ((with_reducible refine gate_dst (N := 5) rfl ?_); refine box_event ?hg (N := 5) ?hd (cs := #[.int .i64 0, .int .i64 0, .int .i64 0, .int .i64 0, .int .i64 0, .int .i64 0]) (t := 55) ?hr ?_; (case hd => rfl); (case hg => rfl); (case hr => exact z16_10); intro gb526 hg w35 hbox hb; have n0_ := Aside0.mk (below_step z16_0 hb); have n1_ := Aside0.mk (hbox); have n2_ := Aside0.mk ((z16_18 : w.heap.size ≤ gb526)); have n3_ := Aside0.mk ((z16_18 : w.heap.size ≤ gb526)); clear HB; have HB := n0_; have BK526 := n1_; have GW526 := n2_; have GE526 := n3_; clear n0_ n1_ n2_ n3_; clear hb hbox hg; have hcz36_0 : w35.cell? ⟨gb526, 0, none⟩ = some (.int .i64 0) := (blk_cell BK526.out 0).trans rfl; have hcz36_1 : w35.cell? ⟨gb526, 1, none⟩ = some (.int .i64 0) := (blk_cell BK526.out 1).trans rfl; have hcz36_2 : w35.cell? ⟨gb526, 2, none⟩ = some (.int .i64 0) := (blk_cell BK526.out 2).trans rfl; have hcz36_3 : w35.cell? ⟨gb526, 3, none⟩ = some (.int .i64 0) := (blk_cell BK526.out 3).trans rfl; have hcz36_4 : w35.cell? ⟨gb526, 4, none⟩ = some (.int .i64 0) := (blk_cell BK526.out 4).trans rfl; have hcz36_5 : w35.cell? ⟨gb526, 5, none⟩ = some (.int .i64 0) := (blk_cell BK526.out 5).trans rfl; have hfz36_0 := blk_frozen BK526.out 0; have hfz36_1 := blk_frozen BK526.out 1; have hfz36_2 := blk_frozen BK526.out 2; have hfz36_3 := blk_frozen BK526.out 3; have hfz36_4 := blk_frozen BK526.out 4; have hfz36_5 := blk_frozen BK526.out 5) | ((with_reducible refine gate_store (t := 55) (p := 5) rfl ?_); refine store_event (t := 55) (p := 5) (v := ?vo_w37) (w1 := ((((((w35.setCell ⟨gb526, 0, none⟩ (.int .i64 ((rd_T55 l0 x4_1).f0))).setCell ⟨gb526, 1, none⟩ (.int .i64 ((rd_T55 l0 x4_1).f1))).setCell ⟨gb526, 2, none⟩ (.int .i64 ((rd_T55 l0 x4_1).f2))).setCell ⟨gb526, 3, none⟩ (.int .i64 ((rd_T55 l0 x4_1).f3.f0))).setCell ⟨gb526, 4, none⟩ (.int .i64 ((rd_T55 l0 x4_1).f3.f1))).setCell ⟨gb526, 5, none⟩ (.int .i64 ((rd_T55 l0 x4_1).f3.f2)))) ?hg ?ho ?hn ?hr ?_; (case ho => rfl); (case hg => rfl); (case hn => rfl); (case hr => exact z16_10); intro w37 hw; have n0_ : Aside0 (w37.heap[gb526]? = some (.cells #[.int .i64 ((rd_T55 l0 x4_1).f0), .int .i64 ((rd_T55 l0 x4_1).f1), .int .i64 ((rd_T55 l0 x4_1).f2), .int .i64 ((rd_T55 l0 x4_1).f3.f0), .int .i64 ((rd_T55 l0 x4_1).f3.f1), .int .i64 ((rd_T55 l0 x4_1).f3.f2)] 55 (0, 0))) := ⟨z16_2⟩; have n1_ : Aside0 (Below w.heap.size w w37) := ⟨(by rw [hw]; exact z16_3)⟩; clear hw; clear BK526; clear HB; have BK526 := n0_; have HB := n1_; clear n0_ n1_; have hcz38_0 : w37.cell? ⟨gb526, 0, none⟩ = some (.int .i64 ((rd_T55 l0 x4_1).f0)) := (blk_cell BK526.out 0).trans rfl; have hcz38_1 : w37.cell? ⟨gb526, 1, none⟩ = some (.int .i64 ((rd_T55 l0 x4_1).f1)) := (blk_cell BK526.out 1).trans rfl; have hcz38_2 : w37.cell? ⟨gb526, 2, none⟩ = some (.int .i64 ((rd_T55 l0 x4_1).f2)) := (blk_cell BK526.out 2).trans rfl; have hcz38_3 : w37.cell? ⟨gb526, 3, none⟩ = some (.int .i64 ((rd_T55 l0 x4_1).f3.f0)) := (blk_cell BK526.out 3).trans rfl; have hcz38_4 : w37.cell? ⟨gb526, 4, none⟩ = some (.int .i64 ((rd_T55 l0 x4_1).f3.f1)) := (blk_cell BK526.out 4).trans rfl; have hcz38_5 : w37.cell? ⟨gb526, 5, none⟩ = some (.int .i64 ((rd_T55 l0 x4_1).f3.f2)) := (blk_cell BK526.out 5).trans rfl; have hfz38_0 := blk_frozen BK526.out 0; have hfz38_1 := blk_frozen BK526.out 1; have hfz38_2 := blk_frozen BK526.out 2; have hfz38_3 := blk_frozen BK526.out 3; have hfz38_4 := blk_frozen BK526.out 4; have hfz38_5 := blk_frozen BK526.out 5) | ((with_reducible refine gate_callee (f := 45) rfl ?_); refine goesL_ (some 20) rfl rfl Try.func45 z16_9 rfl #[.agg #[.int .i64 ((rd_T55 l0 x4_1).f0), .int .i64 ((rd_T55 l0 x4_1).f1), .int .i64 ((rd_T55 l0 x4_1).f2), .int .i64 ((rd_T55 l0 x4_1).f3.f0), .int .i64 ((rd_T55 l0 x4_1).f3.f1), .int .i64 ((rd_T55 l0 x4_1).f3.f2)]] rfl z16_1 ?_; (with_reducible refine (impl_StmtCost.calls k1 ((rd_T55 l0 x4_1).f0) ((rd_T55 l0 x4_1).f1) ((rd_T55 l0 x4_1).f2) ((rd_T55 l0 x4_1).f3.f0) ((rd_T55 l0 x4_1).f3.f1) ((rd_T55 l0 x4_1).f3.f2) t527 _ A4.out).mono ?_); rintro e w39 ⟨rfl, hb⟩; refine ⟨_, rfl, ?_⟩; have n0_ := Aside0.mk (blk_below (g := gb526) (o := .cells #[.int .i64 ((rd_T55 l0 x4_1).f0), .int .i64 ((rd_T55 l0 x4_1).f1), .int .i64 ((rd_T55 l0 x4_1).f2), .int .i64 ((rd_T55 l0 x4_1).f3.f0), .int .i64 ((rd_T55 l0 x4_1).f3.f1), .int .i64 ((rd_T55 l0 x4_1).f3.f2)] 55 (0, 0)) z16_12 hb); have n1_ := Aside0.mk (below_step z16_3 hb); clear BK526; clear HB; have BK526 := n0_; have HB := n1_; clear n0_ n1_; (try clear hb); (try clear hb2); (try clear hk); (try clear hi); have hcz40_0 : w39.cell? ⟨gb526, 0, none⟩ = some (.int .i64 ((rd_T55 l0 x4_1).f0)) := (blk_cell BK526.out 0).trans rfl; have hcz40_1 : w39.cell? ⟨gb526, 1, none⟩ = some (.int .i64 ((rd_T55 l0 x4_1).f1)) := (blk_cell BK526.out 1).trans rfl; have hcz40_2 : w39.cell? ⟨gb526, 2, none⟩ = some (.int .i64 ((rd_T55 l0 x4_1).f2)) := (blk_cell BK526.out 2).trans rfl; have hcz40_3 : w39.cell? ⟨gb526, 3, none⟩ = some (.int .i64 ((rd_T55 l0 x4_1).f3.f0)) := (blk_cell BK526.out 3).trans rfl; have hcz40_4 : w39.cell? ⟨gb526, 4, none⟩ = some (.int .i64 ((rd_T55 l0 x4_1).f3.f1)) := (blk_cell BK526.out 4).trans rfl; have hcz40_5 : w39.cell? ⟨gb526, 5, none⟩ = some (.int .i64 ((rd_T55 l0 x4_1).f3.f2)) := (blk_cell BK526.out 5).trans rfl; have hfz40_0 := blk_frozen BK526.out 0; have hfz40_1 := blk_frozen BK526.out 1; have hfz40_2 := blk_frozen BK526.out 2; have hfz40_3 := blk_frozen BK526.out 3; have hfz40_4 := blk_frozen BK526.out 4; have hfz40_5 := blk_frozen BK526.out 5) | ((with_reducible refine gate_callee (f := 46) rfl ?_); refine goesL_ (some 24) rfl rfl Try.func46 z16_9 rfl #[.int .i64 ((rd_T55 l0 x4_1).f0)] rfl z16_1 ?_; (with_reducible refine (impl_isOpening.calls ((rd_T55 l0 x4_1).f0) false _ A5.out).mono ?_); rintro e w' ⟨rfl, ⟨nd, rfl⟩⟩; refine ⟨_, rfl, ?_⟩))
      go_roundg k1
      case measure => have := HK1.out; omega
      case rel => exact ⟨(wrap64 ((wrap64 (x3_1 + t527)) + 3)), (wrap64 (x4_1 + 1)), z16_8, z16_8, H', ⟨by have := HK1.out; omega⟩, ⟨by repeat (first | (with_reducible first | exact HB.out | apply below_alloc | apply pw_below_drewN | apply below_drew1 | refine below_set ?_ GE526.out) | exact HB.out)⟩⟩
    ·rw [if_neg c3] at H
     exact absurd H (by simp)
   ·rw [if_neg c2] at H
    have c2b0 : decide (x4_1 < (l0.length : Int)) = false := decide_eq_false c2
    clear c2
    obtain rfl := Option.some.inj H
    go_wp2
    go_ret
    exact ⟨by first | rfl | (simp [errW_none, errW_some] <;> rfl) | (simp [*, errW_none, errW_some] <;> rfl) | (simp [*, errW_none, errW_some, i64_w]; done), by repeat (first | (with_reducible first | exact HB.out | apply below_alloc | apply pw_below_drewN | apply below_drew1) | exact HB.out)⟩
def impl_TaskBound.f (k : Nat) (l0_0 : List (S55)) (a0_1 : Int) (a0_2 : Int) (a0_3 : Int) : Option (Int) := (impl_taskOk.f k l0_0 a0_1 a0_2 a0_3).bind fun t541 => (if t541 = true then ((impl_bound.f k l0_0).bind fun t542 => ((impl_MustLog.f k l0_0 a0_1 a0_2 a0_3).bind fun t543 => (some (wrap64 ((wrap64 ((wrap64 (t542 + (wrap64 (9 * (t543.length : Int))))) + 1)) + 3))))) else (some (-1)))
def impl_TaskBound.T3 : Bool × List (List Nat × List Nat) := (true, [([], []), ([0], [0]), ([1], [1]), ([], []), ([3, 2], [3]), ([4], [4]), ([5], [5]), ([2, 6], [2, 6]), ([7], [7]), ([8], [8]), ([9, 4, 0, 1, 2, 3, 4, 5, 6, 7, 8, 9], [9])])
def impl_TaskBound.B3 : List Nat := [0, 1, 3, 0, 15, 31, 63, 127, 255, 511, 1023]
theorem impl_TaskBound.tab3 : rtab .any (opsOf Try.f12 3) = impl_TaskBound.T3 := by kernel_rfl
theorem impl_TaskBound.bits3 : waitsOk impl_TaskBound.T3.2 impl_TaskBound.B3 = true := by kernel_rfl
set_option maxHeartbeats 8000000 in
set_option maxRecDepth 100000 in
theorem impl_TaskBound.calls (k : Nat) (A0_0 : Option Addr) (c0_0 : Nat) (l0_0 : List (S55)) (a0_1 : Int) (a0_2 : Int) (a0_3 : Int) (r : Int) (w : World) (hr0_0 : Kd.C k55 w A0_0 l0_0.length l0_0) (hc0_0 : l0_0.length ≤ c0_0) (h : impl_TaskBound.f k l0_0 a0_1 a0_2 a0_3 = some r) :
  Calls Try.prog 12 #[.agg #[.slice A0_0 l0_0.length c0_0, .int .i64 a0_1, .int .i64 a0_2, .int .i64 a0_3]] w fun e w' => e = .returned (.int .i64 r) ∧ Below w.heap.size w w' := by
 have hu32 := Try.underlying32
 have HR0_0 := Aside0.mk hr0_0
 have HC0_0 := Aside0.mk hc0_0
 clear hr0_0 hc0_0
 have HB := Aside0.mk (Below.refl w.heap.size w)
 have H : ((impl_taskOk.f k l0_0 a0_1 a0_2 a0_3).bind fun t541 => (if t541 = true then ((impl_bound.f k l0_0).bind fun t542 => ((impl_MustLog.f k l0_0 a0_1 a0_2 a0_3).bind fun t543 => (some (wrap64 ((wrap64 ((wrap64 (t542 + (wrap64 (9 * (t543.length : Int))))) + 1)) + 3))))) else (some (-1)))) = some r := h
 clear h
 replace H := Option.bind_eq_some_iff.mp H
 obtain ⟨t541, A20, H⟩ := H
 replace H : (if t541 = true then ((impl_bound.f k l0_0).bind fun t542 => ((impl_MustLog.f k l0_0 a0_1 a0_2 a0_3).bind fun t543 => (some (wrap64 ((wrap64 ((wrap64 (t542 + (wrap64 (9 * (t543.length : Int))))) + 1)) + 3))))) else (some (-1))) = some r := H
 have A2 := Aside0.mk A20
 clear A20
 by_cases c3 : t541 = true
 ·subst c3
  have H1 : ((impl_bound.f k l0_0).bind fun t542 => ((impl_MustLog.f k l0_0 a0_1 a0_2 a0_3).bind fun t543 => (some (wrap64 ((wrap64 ((wrap64 (t542 + (wrap64 (9 * (t543.length : Int))))) + 1)) + 3))))) = some r := by rw [if_pos rfl] at H; exact H
  clear H
  have H := H1
  clear H1
  replace H := Option.bind_eq_some_iff.mp H
  obtain ⟨t542, A40, H⟩ := H
  replace H : ((impl_MustLog.f k l0_0 a0_1 a0_2 a0_3).bind fun t543 => (some (wrap64 ((wrap64 ((wrap64 (t542 + (wrap64 (9 * (t543.length : Int))))) + 1)) + 3)))) = some r := H
  have A4 := Aside0.mk A40
  clear A40
  replace H := Option.bind_eq_some_iff.mp H
  obtain ⟨t543, A50, H⟩ := H
  replace H : (some (wrap64 ((wrap64 ((wrap64 (t542 + (wrap64 (9 * (t543.length : Int))))) + 1)) + 3))) = some r := H
  have A5 := Aside0.mk A50
  clear A50
  obtain rfl := Option.some.inj H
  go_enter Try.func12, Try.ntmps12
  try go_wp2_with (first | ((with_reducible refine gate_dst (N := 1) rfl ?_); refine box_event ?hg (N := 1) ?hd (cs := #[.slice A0_0 l0_0.length c0_0, .int .i64 a0_1, .int .i64 a0_2, .int .i64 a0_3]) (t := 32) ?hr ?_; (case hd => rfl); (case hg => rfl); (case hr => exact z16_10); intro gb540 hg w6 hbox hb; have n0_ := Aside0.mk (below_step z16_0 hb); have n1_ := Aside0.mk (hbox); have n2_ := Aside0.mk ((z16_18 : w.heap.size ≤ gb540)); have n3_ := Aside0.mk ((z16_18 : w.heap.size ≤ gb540)); clear HB; have HB := n0_; have BK540 := n1_; have GW540 := n2_; have GE540 := n3_; clear n0_ n1_ n2_ n3_; clear hb hbox hg; have hcz7_0 : w6.cell? ⟨gb540, 0, none⟩ = some (.slice A0_0 l0_0.length c0_0) := (blk_cell BK540.out 0).trans rfl; have hcz7_1 : w6.cell? ⟨gb540, 1, none⟩ = some (.int .i64 a0_1) := (blk_cell BK540.out 1).trans rfl; have hcz7_2 : w6.cell? ⟨gb540, 2, none⟩ = some (.int .i64 a0_2) := (blk_cell BK540.out 2).trans rfl; have hcz7_3 : w6.cell? ⟨gb540, 3, none⟩ = some (.int .i64 a0_3) := (blk_cell BK540.out 3).trans rfl; have hfz7_0 := blk_frozen BK540.out 0; have hfz7_1 := blk_frozen BK540.out 1; have hfz7_2 := blk_frozen BK540.out 2; have hfz7_3 := blk_frozen BK540.out 3) | ((with_reducible refine gate_callee (f := 21) rfl ?_); refine goesL_ (some 4) rfl rfl Try.func21 z16_9 rfl #[.agg #[.slice A0_0 l0_0.length c0_0, .int .i64 a0_1, .int .i64 a0_2, .int .i64 a0_3]] rfl z16_1 ?_; (with_reducible refine (impl_taskOk.calls k _ _ l0_0 a0_1 a0_2 a0_3 true _ ?side1 ?side2 A2.out).mono ?_); (case side1 => exact z16_4); (case side2 => exact HC0_0.out); rintro e w8 ⟨rfl, hb⟩; refine ⟨_, rfl, ?_⟩; have n0_ := Aside0.mk (blk_below (g := gb540) (o := .cells #[.slice A0_0 l0_0.length c0_0, .int .i64 a0_1, .int .i64 a0_2, .int .i64 a0_3] 32 (0, 0)) z16_13 hb); have n1_ := Aside0.mk (below_step z16_6 hb); clear BK540; clear HB; have BK540 := n0_; have HB := n1_; clear n0_ n1_; (try clear hb); (try clear hb2); (try clear hk); (try clear hi)))
  have n0_ := Aside0.mk (blk_drew BK540.out)
  have n1_ := Aside0.mk (below_drew1 HB.out)
  clear BK540
  clear HB
  have BK540 := n0_
  have HB := n1_
  clear n0_ n1_
  refine start_ (n := 11) (S := fun w' => w'.cell? ⟨gb540, 0, none⟩ = some (.slice A0_0 l0_0.length c0_0) ∧ w'.cell? ⟨gb540, 1, none⟩ = some (.int .i64 a0_1) ∧ w'.cell? ⟨gb540, 2, none⟩ = some (.int .i64 a0_2) ∧ w'.cell? ⟨gb540, 3, none⟩ = some (.int .i64 a0_3)) (ds := []) #[false, false, false, false, false, false, false, false, false, false, false] z16_9 rfl rfl ⟨(blk_cell BK540.out 0).trans rfl, (blk_cell BK540.out 1).trans rfl, (blk_cell BK540.out 2).trans rfl, (blk_cell BK540.out 3).trans rfl⟩ (fun hHeld => ?_); refine with_tabW impl_TaskBound.tab3 impl_TaskBound.bits3 (fun HT_ HW_ => ?_)
  generalize w8.drew = w9 at BK540 HB hHeld ⊢
  refine pure_ (i := 0) (N := some 6) (v := ?_) (a' := ?_) #[true, false, false, false, false, false, false, false, false, false, false] rfl rfl (any_of HT_.out z16_9) (fun _ _ _ h => h) (Or.inl ⟨by rfl, ?_⟩) ?_ ?_
  rotate_left
  ·intro w'
   go_simp
   with_reducible rfl
  rotate_left
  ·simp only [Act.put, List.setIfInBounds_toArray, List.set_cons_zero, List.set_cons_succ, i64_w, i32_w]
   rfl
  refine take_ (i := 1) (N := some 7) (v := ?_) (a' := ?_) #[true, true, false, false, false, false, false, false, false, false, false] rfl rfl (take_ofW HT_.out HW_.out z16_9) (fun _ _ _ h => h) (Or.inl ⟨by rfl, ?_⟩) hHeld ?_ ?_
  rotate_left
  ·rintro w' ⟨s0, s1, s2, s3⟩
   go_simp
   with_reducible rfl
  rotate_left
  ·simp only [Act.put, List.setIfInBounds_toArray, List.set_cons_zero, List.set_cons_succ, i64_w, i32_w]
   rfl
  refine take_ (i := 3) (N := some 9) (v := ?_) (a' := ?_) #[true, true, false, true, false, false, false, false, false, false, false] rfl rfl (take_ofW HT_.out HW_.out z16_9) (fun _ _ _ h => h) (Or.inl ⟨by rfl, ?_⟩) hHeld ?_ ?_
  rotate_left
  ·rintro w' ⟨s0, s1, s2, s3⟩
   go_simp
   with_reducible rfl
  rotate_left
  ·simp only [Act.put, List.setIfInBounds_toArray, List.set_cons_zero, List.set_cons_succ, i64_w, i32_w]
   rfl
  refine one_ (i := 2) (N := some 8) #[true, true, true, true, false, false, false, false, false, false, false] rfl rfl (one_of HT_.out z16_9) (by decide) (fun K hK => ?_)
  refine goes_ Try.func28 z16_9 rfl #[.slice A0_0 l0_0.length c0_0] (by rfl) rfl rfl z16_1 ?_
  with_reducible refine (impl_bound.calls k _ _ l0_0 t542 _ ?side1 ?side2 A4.out).mono ?_
  (case side1 => exact z16_4)
  (case side2 => exact HC0_0.out)
  rintro e w10 ⟨rfl, hb⟩
  refine ⟨_, rfl, ?_⟩
  have n0_ := Aside0.mk (blk_below (g := gb540) (o := .cells #[.slice A0_0 l0_0.length c0_0, .int .i64 a0_1, .int .i64 a0_2, .int .i64 a0_3] 32 (0, 0)) z16_13 hb)
  have n1_ := Aside0.mk (below_step z16_6 hb)
  clear BK540
  clear HB
  have BK540 := n0_
  have HB := n1_
  clear n0_ n1_
  (try clear hb)
  (try clear hb2)
  (try clear hk)
  (try clear hi)
  refine hK.out _ _ ⟨(blk_cell BK540.out 0).trans rfl, (blk_cell BK540.out 1).trans rfl, (blk_cell BK540.out 2).trans rfl, (blk_cell BK540.out 3).trans rfl⟩ (fun hHeld => ?_)
  clear hK K
  refine norm_ (a' := ?_) ?_ ?_
  rotate_left
  ·show Act.put _ (some 8) _ = _
   simp only [Act.put, List.setIfInBounds_toArray, List.set_cons_zero, List.set_cons_succ, i64_w, i32_w]
   rfl
  refine one_ (i := 4) (N := some 10) #[true, true, true, true, true, false, false, false, false, false, false] rfl rfl (one_of HT_.out z16_9) (by decide) (fun K hK => ?_)
  refine goes_ Try.func29 z16_9 rfl #[.agg #[.slice A0_0 l0_0.length c0_0, .int .i64 a0_1, .int .i64 a0_2, .int .i64 a0_3]] (by rfl) rfl rfl z16_1 ?_
  with_reducible refine (impl_MustLog.calls k _ _ l0_0 a0_1 a0_2 a0_3 t543 _ ?side1 ?side2 A5.out).mono ?_
  (case side1 => exact z16_4)
  (case side2 => exact HC0_0.out)
  rintro e w11 ⟨v544, rfl, ho0, hb⟩
  refine ⟨_, rfl, ?_⟩
  have n0_ := Aside0.mk (Kd.R_lower ho0 (below_size z16_6))
  have n1_ := Aside0.mk (blk_below (g := gb540) (o := .cells #[.slice A0_0 l0_0.length c0_0, .int .i64 a0_1, .int .i64 a0_2, .int .i64 a0_3] 32 (0, 0)) z16_13 hb)
  have n2_ := Aside0.mk (below_step z16_6 hb)
  clear BK540
  clear HB
  have HO545 := n0_
  have BK540 := n1_
  have HB := n2_
  clear n0_ n1_ n2_
  (try clear hb)
  (try clear hb2)
  (try clear hk)
  (try clear hi)
  (try clear ho0)
  obtain ⟨Ao12, co12, eo12⟩ := Kd.R_slice HO545.out
  (first | subst eo12 | (injection eo12 with f1_ f2_ f3_; have f4_ := f1_.symm; have f5_ := f3_.symm; clear f1_ f2_ f3_; subst f4_; subst f5_))
  refine hK.out _ _ ⟨(blk_cell BK540.out 0).trans rfl, (blk_cell BK540.out 1).trans rfl, (blk_cell BK540.out 2).trans rfl, (blk_cell BK540.out 3).trans rfl⟩ (fun hHeld => ?_)
  clear hK K
  refine norm_ (a' := ?_) ?_ ?_
  rotate_left
  ·show Act.put _ (some 10) _ = _
   simp only [Act.put, List.setIfInBounds_toArray, List.set_cons_zero, List.set_cons_succ, i64_w, i32_w]
   rfl
  refine pure_ (i := 5) (N := some 11) (v := ?_) (a' := ?_) #[true, true, true, true, true, true, false, false, false, false, false] rfl rfl (any_of HT_.out z16_9) (fun _ _ _ h => h) (Or.inl ⟨by rfl, ?_⟩) ?_ ?_
  rotate_left
  ·intro w'
   go_simp
   with_reducible rfl
  rotate_left
  ·simp only [Act.put, List.setIfInBounds_toArray, List.set_cons_zero, List.set_cons_succ, i64_w, i32_w]
   rfl
  refine pure_ (i := 6) (N := some 12) (v := ?_) (a' := ?_) #[true, true, true, true, true, true, true, false, false, false, false] rfl rfl (any_of HT_.out z16_9) (fun _ _ _ h => h) (Or.inl ⟨by rfl, ?_⟩) ?_ ?_
  rotate_left
  ·intro w'
   go_simp
   with_reducible rfl
  rotate_left
  ·simp only [Act.put, List.setIfInBounds_toArray, List.set_cons_zero, List.set_cons_succ, i64_w, i32_w]
   rfl
  refine pure_ (i := 7) (N := some 13) (v := ?_) (a' := ?_) #[true, true, true, true, true, true, true, true, false, false, false] rfl rfl (any_of HT_.out z16_9) (fun _ _ _ h => h) (Or.inl ⟨by rfl, ?_⟩) ?_ ?_
  rotate_left
  ·intro w'
   go_simp
   with_reducible rfl
  rotate_left
  ·simp only [Act.put, List.setIfInBounds_toArray, List.set_cons_zero, List.set_cons_succ, i64_w, i32_w]
   rfl
  refine pure_ (i := 8) (N := some 14) (v := ?_) (a' := ?_) #[true, true, true, true, true, true, true, true, true, false, false] rfl rfl (any_of HT_.out z16_9) (fun _ _ _ h => h) (Or.inl ⟨by rfl, ?_⟩) ?_ ?_
  rotate_left
  ·intro w'
   go_simp
   with_reducible rfl
  rotate_left
  ·simp only [Act.put, List.setIfInBounds_toArray, List.set_cons_zero, List.set_cons_succ, i64_w, i32_w]
   rfl
  refine pure_ (i := 9) (N := some 15) (v := ?_) (a' := ?_) #[true, true, true, true, true, true, true, true, true, true, false] rfl rfl (any_of HT_.out z16_9) (fun _ _ _ h => h) (Or.inl ⟨by rfl, ?_⟩) ?_ ?_
  rotate_left
  ·intro w'
   go_simp
   with_reducible rfl
  rotate_left
  ·simp only [Act.put, List.setIfInBounds_toArray, List.set_cons_zero, List.set_cons_succ, i64_w, i32_w]
   rfl
  refine pure_ (i := 10) (N := some 2) (v := ?_) (a' := ?_) #[true, true, true, true, true, true, true, true, true, true, true] rfl rfl (any_of HT_.out z16_9) (fun _ _ _ h => h) (Or.inl ⟨by rfl, ?_⟩) ?_ ?_
  rotate_left
  ·intro w'
   go_simp
   with_reducible rfl
  rotate_left
  ·simp only [Act.put, List.setIfInBounds_toArray, List.set_cons_zero, List.set_cons_succ, i64_w, i32_w]
   rfl
  refine done_ (done_of HT_.out z16_9) ?_
  try go_wp2
  go_ret
  exact ⟨by first | rfl | (simp [errW_none, errW_some] <;> rfl) | (simp [*, errW_none, errW_some] <;> rfl) | (simp [*, errW_none, errW_some, i64_w]; done), by repeat (first | (with_reducible first | exact HB.out | apply below_alloc | apply pw_below_drewN | apply below_drew1 | refine below_set ?_ GE540.out) | exact HB.out)⟩
 ·replace c3 := Bool.eq_false_iff.mpr c3
  subst c3
  have H1 : (some (-1)) = some r := by rw [if_neg (show ¬ (false = true) by decide)] at H; exact H
  clear H
  have H := H1
  clear H1
  obtain rfl := Option.some.inj H
  go_enter Try.func12, Try.ntmps12
  go_wp2_with (first | ((with_reducible refine gate_dst (N := 1) rfl ?_); refine box_event ?hg (N := 1) ?hd (cs := #[.slice A0_0 l0_0.length c0_0, .int .i64 a0_1, .int .i64 a0_2, .int .i64 a0_3]) (t := 32) ?hr ?_; (case hd => rfl); (case hg => rfl); (case hr => exact z16_10); intro gb540 hg w13 hbox hb; have n0_ := Aside0.mk (below_step z16_0 hb); have n1_ := Aside0.mk (hbox); have n2_ := Aside0.mk ((z16_18 : w.heap.size ≤ gb540)); have n3_ := Aside0.mk ((z16_18 : w.heap.size ≤ gb540)); clear HB; have HB := n0_; have BK540 := n1_; have GW540 := n2_; have GE540 := n3_; clear n0_ n1_ n2_ n3_; clear hb hbox hg; have hcz14_0 : w13.cell? ⟨gb540, 0, none⟩ = some (.slice A0_0 l0_0.length c0_0) := (blk_cell BK540.out 0).trans rfl; have hcz14_1 : w13.cell? ⟨gb540, 1, none⟩ = some (.int .i64 a0_1) := (blk_cell BK540.out 1).trans rfl; have hcz14_2 : w13.cell? ⟨gb540, 2, none⟩ = some (.int .i64 a0_2) := (blk_cell BK540.out 2).trans rfl; have hcz14_3 : w13.cell? ⟨gb540, 3, none⟩ = some (.int .i64 a0_3) := (blk_cell BK540.out 3).trans rfl; have hfz14_0 := blk_frozen BK540.out 0; have hfz14_1 := blk_frozen BK540.out 1; have hfz14_2 := blk_frozen BK540.out 2; have hfz14_3 := blk_frozen BK540.out 3) | ((with_reducible refine gate_callee (f := 21) rfl ?_); refine goesL_ (some 4) rfl rfl Try.func21 z16_9 rfl #[.agg #[.slice A0_0 l0_0.length c0_0, .int .i64 a0_1, .int .i64 a0_2, .int .i64 a0_3]] rfl z16_1 ?_; (with_reducible refine (impl_taskOk.calls k _ _ l0_0 a0_1 a0_2 a0_3 false _ ?side1 ?side2 A2.out).mono ?_); (case side1 => exact z16_4); (case side2 => exact HC0_0.out); rintro e w15 ⟨rfl, hb⟩; refine ⟨_, rfl, ?_⟩; have n0_ := Aside0.mk (blk_below (g := gb540) (o := .cells #[.slice A0_0 l0_0.length c0_0, .int .i64 a0_1, .int .i64 a0_2, .int .i64 a0_3] 32 (0, 0)) z16_13 hb); have n1_ := Aside0.mk (below_step z16_6 hb); clear BK540; clear HB; have BK540 := n0_; have HB := n1_; clear n0_ n1_; (try clear hb); (try clear hb2); (try clear hk); (try clear hi)))
  go_ret
  exact ⟨by first | rfl | (simp [errW_none, errW_some] <;> rfl) | (simp [*, errW_none, errW_some] <;> rfl) | (simp [*, errW_none, errW_some, i64_w]; done), by repeat (first | (with_reducible first | exact HB.out | apply below_alloc | apply pw_below_drewN | apply below_drew1 | refine below_set ?_ GE540.out) | exact HB.out)⟩
end Go.Proofs.Ytccjlmpeogifkaa.G
