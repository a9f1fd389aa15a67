/- Functions of the program as plain Lean functions, and that each call comes to its function's answer; written by a program of the session. No condition. -/
import Derived.Test.YtaicbghmfeehkaaGx0
import Derived.Test.YtaicbghmfeehkaaGx37
import Derived.Test.YtaicbghmfeehkaaGx49
namespace Go.Proofs.Ytaicbghmfeehkaa.G
open Go.RowKit Go.Proofs.YtaicbghmfeehkaaW.PrintWords Go.Proofs.YtaicbghmfeehkaaW.PrintLast Go.Proofs.YtaicbghmfeehkaaW.PrintMore
attribute [local go_sem] max2_int min2_int max_two min_two max_three min_three max_four min_four   -- for this text's walks alone
set_option linter.unusedVariables false
set_option linter.unusedSimpArgs false

theorem z50_0 {P : Prop} (h : P := by (try simp only [List.map_toArray, List.map_cons, List.map_nil]); first | done | rfl | (simp only [List.length_drop, List.length_take]; rfl)) : P := h
theorem z50_1 {P : Prop} (h : P := by repeat (first | (with_reducible first | exact HB.out | apply below_alloc | apply pw_below_drewN | apply below_drew1) | exact HB.out)) : P := h
theorem z50_2 {P : Prop} (h : P := by first | (with_reducible assumption) | assumption) : P := h
theorem z50_3 {P : Prop} (h : P := by first | rfl | (simp; done) | (simp [*]; done)) : P := h
theorem z50_4 {P : Prop} (h : P := by kernel_rfl) : P := h
/-! ### spec_l21Bound: function 78 -/
mutual
def spec_l21Bound.l0 : Nat → List (S119) → Int → Int → Int → Option (Int)
  | 0, _, _, _, _ => none
  | k + 1, x0, x2, x7, x8 => if x8 < x2 then (if 0 ≤ x8 then (if x8 < (x0.length : Int) then (if ((rd_T119 x0 x8).f0) = 4 then (spec_l21Bound.j1 k x0 x2 x7 x8 (((rd_T119 x0 x8).f0) == 4)) else (spec_l21Bound.j1 k x0 x2 x7 x8 (((rd_T119 x0 x8).f0) == 5))) else (none)) else (none)) else (some x7)
def spec_l21Bound.j1 : Nat → List (S119) → Int → Int → Int → Bool → Option (Int)
  | 0, _, _, _, _, _ => none
  | k + 1, x0, x2, x7, x8, x29 => if x29 = true then ((spec_l05End.f k x0 x8).bind fun t692 => (if 0 ≤ x8 then (if x8 < (x0.length : Int) then ((spec_l11Cost.f ((rd_T119 x0 x8).f0) ((rd_T119 x0 x8).f1) ((rd_T119 x0 x8).f2) ((rd_T119 x0 x8).f3.f0) ((rd_T119 x0 x8).f3.f1) ((rd_T119 x0 x8).f3.f2)).bind fun t694 => ((spec_l21Bound.f k x0 (wrap64 (x8 + 1)) t692).bind fun t696 => (spec_l21Bound.l0 k x0 x2 (wrap64 ((wrap64 (x7 + t694)) + (wrap64 ((mx 1 ((rd_T119 x0 x8).f2)) * t696)))) (wrap64 (t692 + 1))))) else (none)) else (none))) else (if 0 ≤ x8 then (if x8 < (x0.length : Int) then ((spec_l11Cost.f ((rd_T119 x0 x8).f0) ((rd_T119 x0 x8).f1) ((rd_T119 x0 x8).f2) ((rd_T119 x0 x8).f3.f0) ((rd_T119 x0 x8).f3.f1) ((rd_T119 x0 x8).f3.f2)).bind fun t698 => (spec_l21Bound.l0 k x0 x2 (wrap64 ((wrap64 (x7 + t698)) + 3)) (wrap64 (x8 + 1)))) else (none)) else (none))
def spec_l21Bound.f : Nat → List (S119) → Int → Int → Option (Int)
  | 0, _, _, _ => none
  | k + 1, l0, a1, a2 => spec_l21Bound.l0 k l0 a2 0 a1
end
theorem spec_l21Bound.mono_l : ∀ k, (∀ y0 y1 y2, LeO (spec_l21Bound.f k y0 y1 y2) (spec_l21Bound.f (k + 1) y0 y1 y2)) ∧ (∀ y0 y1 y2 y3, LeO (spec_l21Bound.l0 k y0 y1 y2 y3) (spec_l21Bound.l0 (k + 1) y0 y1 y2 y3)) ∧ (∀ y0 y1 y2 y3 y4, LeO (spec_l21Bound.j1 k y0 y1 y2 y3 y4) (spec_l21Bound.j1 (k + 1) y0 y1 y2 y3 y4))
  | 0 => ⟨fun _ _ _ r h => by simp [spec_l21Bound.f] at h, fun _ _ _ _ r h => by simp [spec_l21Bound.l0] at h, fun _ _ _ _ _ r h => by simp [spec_l21Bound.j1] at h⟩
  | k + 1 => by
    obtain ⟨ih0, ih1, ih2⟩ := spec_l21Bound.mono_l k
    refine ⟨?_, ?_, ?_⟩
    · intro y0 y1 y2
      unfold spec_l21Bound.f
      repeat' first
      | (with_reducible exact ih0 _ _ _)
      | (with_reducible exact ih1 _ _ _ _)
      | (with_reducible exact ih2 _ _ _ _ _)
      | (with_reducible exact spec_l05End.mono _ _ _)
      | (with_reducible exact LeO.refl _)
      | (with_reducible exact LeO.none _)
      | (with_reducible refine LeO.ite ?_ ?_)
      | (with_reducible refine LeO.bind ?_ (fun _ => ?_))
      | exact ih0 _ _ _
      | exact ih1 _ _ _ _
      | exact ih2 _ _ _ _ _
      | exact spec_l05End.mono _ _ _
      | exact LeO.none _
      | refine LeO.ite ?_ ?_
      | refine LeO.bind ?_ (fun _ => ?_)
    · intro y0 y1 y2 y3
      unfold spec_l21Bound.l0
      repeat' first
      | (with_reducible exact ih0 _ _ _)
      | (with_reducible exact ih1 _ _ _ _)
      | (with_reducible exact ih2 _ _ _ _ _)
      | (with_reducible exact spec_l05End.mono _ _ _)
      | (with_reducible exact LeO.refl _)
      | (with_reducible exact LeO.none _)
      | (with_reducible refine LeO.ite ?_ ?_)
      | (with_reducible refine LeO.bind ?_ (fun _ => ?_))
      | exact ih0 _ _ _
      | exact ih1 _ _ _ _
      | exact ih2 _ _ _ _ _
      | exact spec_l05End.mono _ _ _
      | exact LeO.none _
      | refine LeO.ite ?_ ?_
      | refine LeO.bind ?_ (fun _ => ?_)
    · intro y0 y1 y2 y3 y4
      unfold spec_l21Bound.j1
      repeat' first
      | (with_reducible exact ih0 _ _ _)
      | (with_reducible exact ih1 _ _ _ _)
      | (with_reducible exact ih2 _ _ _ _ _)
      | (with_reducible exact spec_l05End.mono _ _ _)
      | (with_reducible exact LeO.refl _)
      | (with_reducible exact LeO.none _)
      | (with_reducible refine LeO.ite ?_ ?_)
      | (with_reducible refine LeO.bind ?_ (fun _ => ?_))
      | exact ih0 _ _ _
      | exact ih1 _ _ _ _
      | exact ih2 _ _ _ _ _
      | exact spec_l05End.mono _ _ _
      | exact LeO.none _
      | refine LeO.ite ?_ ?_
      | refine LeO.bind ?_ (fun _ => ?_)
theorem spec_l21Bound.mono : ∀ a0 a1 a2 k, LeO (spec_l21Bound.f k a0 a1 a2) (spec_l21Bound.f (k + 1) a0 a1 a2) := by
  intro a0 a1 a2 k
  obtain ⟨ih0, ih1, ih2⟩ := spec_l21Bound.mono_l k
  exact ih0 a0 a1 a2
def spec_l21Bound.T10 : Bool × List (List Nat × List Nat) := (true, [([], []), ([], []), ([], []), ([1, 2], [1, 2]), ([3], [3]), ([4], [4]), ([0, 5], [0, 5]), ([], []), ([], []), ([7, 8], [7, 8]), ([9], [9]), ([10], [10]), ([11], [11]), ([], []), ([], []), ([14], [14]), ([], []), ([13, 15, 16, 5], [13, 15, 16]), ([12, 17], [12, 17]), ([6, 18], [6, 18]), ([19, 17, 0, 1, 2, 3, 4, 5, 6, 7, 8, 9, 10, 11, 12, 13, 14, 15, 16, 17, 18, 19], [0, 19])])
def spec_l21Bound.B10 : List Nat := [0, 0, 0, 6, 14, 30, 63, 0, 0, 384, 896, 1920, 3968, 0, 0, 16384, 0, 122942, 262078, 524287, 1048575]
theorem spec_l21Bound.tab10 : rtab .any (opsOf Try.f78 10) = spec_l21Bound.T10 := by kernel_rfl
theorem spec_l21Bound.bits10 : waitsOk spec_l21Bound.T10.2 spec_l21Bound.B10 = true := by kernel_rfl
set_option maxHeartbeats 8000000 in
set_option maxRecDepth 100000 in
theorem spec_l21Bound.calls (k : Nat) : ∀ (A0 : Option Addr) (c0 : Nat) (l0 : List (S119)) (a1 : Int) (a2 : Int) (r : Int) (w : World) (hr0 : Kd.C k119 w A0 l0.length l0) (hc0 : l0.length ≤ c0) (h : spec_l21Bound.f k l0 a1 a2 = some r),
    Calls Try.prog 78 #[.slice A0 l0.length c0, .int .i64 a1, .int .i64 a2] w fun e w' => e = .returned (.int .i64 r) ∧ Below w.heap.size w w' := by
  induction k using Nat.strongRecOn with
  | _ k ih =>
  intro A0 c0 l0 a1 a2 r w hr0 hc0 h
  cases k with
  | zero => exact absurd h (by simp [spec_l21Bound.f])
  | succ k =>
  simp only [spec_l21Bound.f] at h
  have hu119 := Try.underlying119
  have HR0 := Aside0.mk hr0
  have HC0 := Aside0.mk hc0
  clear hr0 hc0
  have HB := Aside0.mk (Below.refl w.heap.size w)
  have H : (spec_l21Bound.l0 k l0 a2 0 a1) = some r := h
  clear h
  have H' := Aside0.mk H
  clear H
  go_enter Try.func78, Try.ntmps78
  go_wp2
  go_loopg [7, 8] k (fun kq v7 v8 w' => ∃ (x7_1 : Int) (x8_1 : Int), v7 = .int .i64 x7_1 ∧ v8 = .int .i64 x8_1 ∧ Aside0 (spec_l21Bound.l0 kq l0 a2 x7_1 x8_1 = some r) ∧ Aside0 (kq ≤ k) ∧ Aside0 (Below w.heap.size w w'))
  case atStart => exact ⟨(0), (a1), z50_3, z50_3, H', ⟨Nat.le_refl _⟩, ⟨by repeat (first | (with_reducible first | exact HB.out | apply below_alloc | apply pw_below_drewN | apply below_drew1) | exact HB.out)⟩⟩
  case round =>
    clear H'
    obtain ⟨x7_1, x8_1, rfl, rfl, HA, HK1, HB⟩ := hrel
    cases gk with
    | zero => exact absurd HA.out (by simp [spec_l21Bound.l0])
    | succ k1 =>
      have H := HA.out
      clear HA
      simp only [spec_l21Bound.l0] at H
      by_cases c4 : x8_1 < a2
      · rw [if_pos c4] at H
        have c4b0 : decide (x8_1 < a2) = true := decide_eq_true c4
        clear c4
        by_cases c5 : 0 ≤ x8_1
        · rw [if_pos c5] at H
          have c5b0 : decide (0 ≤ x8_1) = true := decide_eq_true c5
          clear c5
          by_cases c6 : x8_1 < (l0.length : Int)
          · rw [if_pos c6] at H
            have c6b0 : decide (x8_1 < (l0.length : Int)) = true := decide_eq_true c6
            clear c6
            have HC7 := Aside0.mk H
            clear H
            have p691 : 0 ≤ (x8_1 : Int) := of_decide_eq_true z50_2
            have q691 : x8_1 < (l0.length : Int) := of_decide_eq_true z50_2
            obtain ⟨ad691, e691, hx691_0, hx691_1, hx691_2, hx691_3, hx691_4, hx691_5⟩ := at_T119 HR0.out x8_1 p691 q691
            cases e691
            replace hx691_0 := (HB.out.cell (World.block_lt_of_cell? w _ hx691_0)).trans hx691_0
            replace hx691_1 := (HB.out.cell (World.block_lt_of_cell? w _ hx691_1)).trans hx691_1
            replace hx691_2 := (HB.out.cell (World.block_lt_of_cell? w _ hx691_2)).trans hx691_2
            replace hx691_3 := (HB.out.cell (World.block_lt_of_cell? w _ hx691_3)).trans hx691_3
            replace hx691_4 := (HB.out.cell (World.block_lt_of_cell? w _ hx691_4)).trans hx691_4
            replace hx691_5 := (HB.out.cell (World.block_lt_of_cell? w _ hx691_5)).trans hx691_5
            replace p691 := eq_true p691
            replace q691 := eq_true q691
            go_upto_if 29 with (fail)
            go_cut [29] (fun v29 wc => ∃ (kq : Nat) (x29_6 : Bool), v29 = .bool x29_6 ∧ Aside0 (spec_l21Bound.j1 kq l0 a2 x7_1 x8_1 x29_6 = some r) ∧ Aside0 (kq ≤ k1) ∧ Aside0 (Below w.heap.size w wc))
            case first =>
              have H := HC7.out
              clear HC7
              by_cases c8 : ((rd_T119 l0 x8_1).f0) = 4
              · rw [if_pos c8] at H
                have c8b0 : (((rd_T119 l0 x8_1).f0) == 4) = true := beq_iff_eq.mpr c8
                have c8b1 : (((rd_T119 l0 x8_1).f0) != 4) = false := bne_eq_false_iff_eq.mpr c8
                clear c8
                (first | rw [c8b0] | (simp only [i64_w, i32_w]; rw [c8b0]) | skip)
                have H' := Aside0.mk H
                clear H
                go_wp2
                go_meet
                case rel => exact ⟨_, ((((rd_T119 l0 x8_1).f0) == 4)), z50_3, H', ⟨by have := HK1.out; first | omega | exact Nat.le_refl _⟩, ⟨by repeat (first | (with_reducible first | exact HB.out | apply below_alloc | apply pw_below_drewN | apply below_drew1) | exact HB.out)⟩⟩
              · rw [if_neg c8] at H
                have c8b0 : (((rd_T119 l0 x8_1).f0) == 4) = false := beq_eq_false_iff_ne.mpr c8
                have c8b1 : (((rd_T119 l0 x8_1).f0) != 4) = true := bne_iff_ne.mpr c8
                (first | rw [c8b0] | (simp only [i64_w, i32_w]; rw [c8b0]) | skip)
                have H' := Aside0.mk H
                clear H
                go_wp2
                go_meet
                case rel => exact ⟨_, ((((rd_T119 l0 x8_1).f0) == 5)), z50_3, H', ⟨by have := HK1.out; first | omega | exact Nat.le_refl _⟩, ⟨by repeat (first | (with_reducible first | exact HB.out | apply below_alloc | apply pw_below_drewN | apply below_drew1) | exact HB.out)⟩⟩
            case rest =>
              clear HC7
              (try clear c4); (try clear c4b0); (try clear c5); (try clear c5b0); (try clear c6); (try clear c6b0); (try clear hx691_0); (try clear hx691_1); (try clear hx691_2); (try clear hx691_3); (try clear hx691_4); (try clear hx691_5); (try clear p691); (try clear q691)
              obtain ⟨kq, x29_6, rfl, HA, HJ6, HB⟩ := hcut
              cases kq with
              | zero => exact absurd HA.out (by simp [spec_l21Bound.j1])
              | succ kj6 =>
                have H := HA.out
                clear HA
                simp only [spec_l21Bound.j1] at H
                by_cases c9 : x29_6 = true
                · subst c9
                  have H1 : ((spec_l05End.f kj6 l0 x8_1).bind fun t692 => (if 0 ≤ x8_1 then (if x8_1 < (l0.length : Int) then ((spec_l11Cost.f ((rd_T119 l0 x8_1).f0) ((rd_T119 l0 x8_1).f1) ((rd_T119 l0 x8_1).f2) ((rd_T119 l0 x8_1).f3.f0) ((rd_T119 l0 x8_1).f3.f1) ((rd_T119 l0 x8_1).f3.f2)).bind fun t694 => ((spec_l21Bound.f kj6 l0 (wrap64 (x8_1 + 1)) t692).bind fun t696 => (spec_l21Bound.l0 kj6 l0 a2 (wrap64 ((wrap64 (x7_1 + t694)) + (wrap64 ((mx 1 ((rd_T119 l0 x8_1).f2)) * t696)))) (wrap64 (t692 + 1))))) else (none)) else (none))) = some r := by rw [if_pos rfl] at H; exact H
                  clear H
                  have H := H1
                  clear H1
                  replace H := Option.bind_eq_some_iff.mp H
                  obtain ⟨t692, A100, H⟩ := H
                  replace H : (if 0 ≤ x8_1 then (if x8_1 < (l0.length : Int) then ((spec_l11Cost.f ((rd_T119 l0 x8_1).f0) ((rd_T119 l0 x8_1).f1) ((rd_T119 l0 x8_1).f2) ((rd_T119 l0 x8_1).f3.f0) ((rd_T119 l0 x8_1).f3.f1) ((rd_T119 l0 x8_1).f3.f2)).bind fun t694 => ((spec_l21Bound.f kj6 l0 (wrap64 (x8_1 + 1)) t692).bind fun t696 => (spec_l21Bound.l0 kj6 l0 a2 (wrap64 ((wrap64 (x7_1 + t694)) + (wrap64 ((mx 1 ((rd_T119 l0 x8_1).f2)) * t696)))) (wrap64 (t692 + 1))))) else (none)) else (none)) = some r := H
                  have A10 := Aside0.mk A100
                  clear A100
                  by_cases c11 : 0 ≤ x8_1
                  · rw [if_pos c11] at H
                    have c11b0 : decide (0 ≤ x8_1) = true := decide_eq_true c11
                    clear c11
                    by_cases c12 : x8_1 < (l0.length : Int)
                    · rw [if_pos c12] at H
                      have c12b0 : decide (x8_1 < (l0.length : Int)) = true := decide_eq_true c12
                      clear c12
                      replace H := Option.bind_eq_some_iff.mp H
                      obtain ⟨t694, A130, H⟩ := H
                      replace H : ((spec_l21Bound.f kj6 l0 (wrap64 (x8_1 + 1)) t692).bind fun t696 => (spec_l21Bound.l0 kj6 l0 a2 (wrap64 ((wrap64 (x7_1 + t694)) + (wrap64 ((mx 1 ((rd_T119 l0 x8_1).f2)) * t696)))) (wrap64 (t692 + 1)))) = some r := H
                      have A13 := Aside0.mk A130
                      clear A130
                      obtain ⟨ji14, hji14⟩ : ∃ j_ : Int, (mx 1 ((rd_T119 l0 x8_1).f2)) = j_ := ⟨_, rfl⟩
                      replace H : ((spec_l21Bound.f kj6 l0 (wrap64 (x8_1 + 1)) t692).bind fun t696 => (spec_l21Bound.l0 kj6 l0 a2 (wrap64 ((wrap64 (x7_1 + t694)) + (wrap64 ((ji14) * t696)))) (wrap64 (t692 + 1)))) = some r := by first | (rw [hji14] at H; exact H) | (simp only [hji14] at H ⊢; exact H)
                      (try rw [hji14] at A10)
                      (try rw [hji14] at A13)
                      have hji14_ : (if 1 < ((rd_T119 l0 x8_1).f2) then ((rd_T119 l0 x8_1).f2) else 1) = ji14 := hji14
                      replace H := Option.bind_eq_some_iff.mp H
                      obtain ⟨t696, A150, H⟩ := H
                      replace H : (spec_l21Bound.l0 kj6 l0 a2 (wrap64 ((wrap64 (x7_1 + t694)) + (wrap64 ((ji14) * t696)))) (wrap64 (t692 + 1))) = some r := H
                      have A15 := Aside0.mk A150
                      clear A150
                      have H' := Aside0.mk H
                      clear H
                      try go_wp2_with (first | ((first | ((with_reducible refine gate_callee (f := 119) rfl ?_); refine goesL_ (some 34) rfl rfl Try.func119 z50_4 rfl #[.slice (some ad691) l0.length c0, .int .i64 x8_1] rfl z50_0 ?_; (with_reducible refine (spec_l05End.calls kj6 _ _ l0 x8_1 t692 _ ?side1 ?side2 A10.out).mono ?_)) | (go_at_call 119; (with_reducible refine (spec_l05End.calls kj6 _ _ l0 x8_1 t692 _ ?side1 ?side2 A10.out).mono ?_))); (case side1 => repeat (first | exact (Kd.C_below HR0.out HB.out) | (with_reducible refine Kd.C_alloc ?_ _) | (with_reducible refine Kd.C_drewN ?_ _) | (with_reducible refine Kd.C_drew ?_))); (case side2 => exact HC0.out); rintro e w16 ⟨rfl, hb⟩; (first | refine ⟨_, rfl, ?_⟩ | skip); have n0_ := Aside0.mk (below_step z50_1 hb); clear HB; have HB := n0_; clear n0_; (try clear hb); (try clear hb2); (try clear hk); (try clear hi)))
                      have n0_ := Aside0.mk (below_drew1 HB.out)
                      clear HB
                      have HB := n0_
                      clear n0_
                      have p693 : 0 ≤ (x8_1 : Int) := of_decide_eq_true z50_2
                      have q693 : x8_1 < (l0.length : Int) := of_decide_eq_true z50_2
                      obtain ⟨ad693, e693, hx693_0, hx693_1, hx693_2, hx693_3, hx693_4, hx693_5⟩ := at_T119 HR0.out x8_1 p693 q693
                      have hw693_5 := hx693_5
                      have hw693_4 := hx693_4
                      have hw693_3 := hx693_3
                      have hw693_2 := hx693_2
                      have hw693_1 := hx693_1
                      have hw693_0 := hx693_0
                      obtain rfl : ad691 = ad693 := (by injection e693)
                      replace hx693_0 := (HB.out.cell (World.block_lt_of_cell? w _ hx693_0)).trans hx693_0
                      replace hx693_1 := (HB.out.cell (World.block_lt_of_cell? w _ hx693_1)).trans hx693_1
                      replace hx693_2 := (HB.out.cell (World.block_lt_of_cell? w _ hx693_2)).trans hx693_2
                      replace hx693_3 := (HB.out.cell (World.block_lt_of_cell? w _ hx693_3)).trans hx693_3
                      replace hx693_4 := (HB.out.cell (World.block_lt_of_cell? w _ hx693_4)).trans hx693_4
                      replace hx693_5 := (HB.out.cell (World.block_lt_of_cell? w _ hx693_5)).trans hx693_5
                      replace p693 := eq_true p693
                      replace q693 := eq_true q693
                      have p695 : 0 ≤ (x8_1 : Int) := of_decide_eq_true z50_2
                      have q695 : x8_1 < (l0.length : Int) := of_decide_eq_true z50_2
                      obtain ⟨ad695, e695, hx695_0, hx695_1, hx695_2, hx695_3, hx695_4, hx695_5⟩ := at_T119 HR0.out x8_1 p695 q695
                      have hw695_5 := hx695_5
                      have hw695_4 := hx695_4
                      have hw695_3 := hx695_3
                      have hw695_2 := hx695_2
                      have hw695_1 := hx695_1
                      have hw695_0 := hx695_0
                      obtain rfl : ad691 = ad695 := (by injection e695)
                      replace hx695_0 := (HB.out.cell (World.block_lt_of_cell? w _ hx695_0)).trans hx695_0
                      replace hx695_1 := (HB.out.cell (World.block_lt_of_cell? w _ hx695_1)).trans hx695_1
                      replace hx695_2 := (HB.out.cell (World.block_lt_of_cell? w _ hx695_2)).trans hx695_2
                      replace hx695_3 := (HB.out.cell (World.block_lt_of_cell? w _ hx695_3)).trans hx695_3
                      replace hx695_4 := (HB.out.cell (World.block_lt_of_cell? w _ hx695_4)).trans hx695_4
                      replace hx695_5 := (HB.out.cell (World.block_lt_of_cell? w _ hx695_5)).trans hx695_5
                      replace p695 := eq_true p695
                      replace q695 := eq_true q695
                      refine start_ (n := 21) (S := fun w' => w'.cell? (ad691.add ((x8_1).toNat * 6)) = some (.int .i64 ((rd_T119 l0 x8_1).f0)) ∧ w'.cell? ⟨(ad691.add ((x8_1).toNat * 6)).block, (ad691.add ((x8_1).toNat * 6)).off + 1, none⟩ = some (.int .i64 ((rd_T119 l0 x8_1).f1)) ∧ w'.cell? ⟨(ad691.add ((x8_1).toNat * 6)).block, (ad691.add ((x8_1).toNat * 6)).off + 2, none⟩ = some (.int .i64 ((rd_T119 l0 x8_1).f2)) ∧ w'.cell? ⟨(ad691.add ((x8_1).toNat * 6)).block, (ad691.add ((x8_1).toNat * 6)).off + 3, none⟩ = some (.int .i64 ((rd_T119 l0 x8_1).f3.f0)) ∧ w'.cell? ⟨(ad691.add ((x8_1).toNat * 6)).block, (ad691.add ((x8_1).toNat * 6)).off + 4, none⟩ = some (.int .i64 ((rd_T119 l0 x8_1).f3.f1)) ∧ w'.cell? ⟨(ad691.add ((x8_1).toNat * 6)).block, (ad691.add ((x8_1).toNat * 6)).off + 5, none⟩ = some (.int .i64 ((rd_T119 l0 x8_1).f3.f2)) ∧ w'.cell? (ad691.add ((x8_1).toNat * 6)) = some (.int .i64 ((rd_T119 l0 x8_1).f0)) ∧ w'.cell? ⟨(ad691.add ((x8_1).toNat * 6)).block, (ad691.add ((x8_1).toNat * 6)).off + 1, none⟩ = some (.int .i64 ((rd_T119 l0 x8_1).f1)) ∧ w'.cell? ⟨(ad691.add ((x8_1).toNat * 6)).block, (ad691.add ((x8_1).toNat * 6)).off + 2, none⟩ = some (.int .i64 ((rd_T119 l0 x8_1).f2)) ∧ w'.cell? ⟨(ad691.add ((x8_1).toNat * 6)).block, (ad691.add ((x8_1).toNat * 6)).off + 3, none⟩ = some (.int .i64 ((rd_T119 l0 x8_1).f3.f0)) ∧ w'.cell? ⟨(ad691.add ((x8_1).toNat * 6)).block, (ad691.add ((x8_1).toNat * 6)).off + 4, none⟩ = some (.int .i64 ((rd_T119 l0 x8_1).f3.f1)) ∧ w'.cell? ⟨(ad691.add ((x8_1).toNat * 6)).block, (ad691.add ((x8_1).toNat * 6)).off + 5, none⟩ = some (.int .i64 ((rd_T119 l0 x8_1).f3.f2))) (ds := []) #[false, false, false, false, false, false, false, false, false, false, false, false, false, false, false, false, false, false, false, false, false] z50_4 rfl rfl ⟨((HB.out.cell (World.block_lt_of_cell? w _ hw693_0)).trans hw693_0), ((HB.out.cell (World.block_lt_of_cell? w _ hw693_1)).trans hw693_1), ((HB.out.cell (World.block_lt_of_cell? w _ hw693_2)).trans hw693_2), ((HB.out.cell (World.block_lt_of_cell? w _ hw693_3)).trans hw693_3), ((HB.out.cell (World.block_lt_of_cell? w _ hw693_4)).trans hw693_4), ((HB.out.cell (World.block_lt_of_cell? w _ hw693_5)).trans hw693_5), ((HB.out.cell (World.block_lt_of_cell? w _ hw695_0)).trans hw695_0), ((HB.out.cell (World.block_lt_of_cell? w _ hw695_1)).trans hw695_1), ((HB.out.cell (World.block_lt_of_cell? w _ hw695_2)).trans hw695_2), ((HB.out.cell (World.block_lt_of_cell? w _ hw695_3)).trans hw695_3), ((HB.out.cell (World.block_lt_of_cell? w _ hw695_4)).trans hw695_4), ((HB.out.cell (World.block_lt_of_cell? w _ hw695_5)).trans hw695_5)⟩ (fun hHeld => ?_); refine with_tabW spec_l21Bound.tab10 spec_l21Bound.bits10 (fun HT_ HW_ => ?_)
                      generalize w16.drew = w17 at HB hx693_0 hx693_1 hx693_2 hx693_3 hx693_4 hx693_5 hx695_0 hx695_1 hx695_2 hx695_3 hx695_4 hx695_5 hHeld ⊢
                      refine pure_ (i := 0) (N := some 35) (v := ?_) (a' := ?_) #[true, false, false, false, false, false, false, false, false, false, false, false, false, false, false, false, false, false, false, false, false] rfl rfl (any_of HT_.out z50_4) (fun _ _ _ h => h) (Or.inl ⟨by rfl, ?_⟩) ?_ ?_
                      rotate_left
                      · intro w'
                        go_simp
                        with_reducible rfl
                      rotate_left
                      · simp only [Act.put, List.setIfInBounds_toArray, List.set_cons_zero, List.set_cons_succ, i64_w, i32_w]
                        rfl
                      refine pure_ (i := 1) (N := some 36) (v := ?_) (a' := ?_) #[true, true, false, false, false, false, false, false, false, false, false, false, false, false, false, false, false, false, false, false, false] rfl rfl (any_of HT_.out z50_4) (fun _ _ _ h => h) (Or.inl ⟨by rfl, ?_⟩) ?_ ?_
                      rotate_left
                      · intro w'
                        go_simp
                        with_reducible rfl
                      rotate_left
                      · simp only [Act.put, List.setIfInBounds_toArray, List.set_cons_zero, List.set_cons_succ, i64_w, i32_w]
                        rfl
                      refine pure_ (i := 2) (N := some 37) (v := ?_) (a' := ?_) #[true, true, true, false, false, false, false, false, false, false, false, false, false, false, false, false, false, false, false, false, false] rfl rfl (any_of HT_.out z50_4) (fun _ _ _ h => h) (Or.inl ⟨by rfl, ?_⟩) ?_ ?_
                      rotate_left
                      · intro w'
                        go_simp
                        with_reducible rfl
                      rotate_left
                      · simp only [Act.put, List.setIfInBounds_toArray, List.set_cons_zero, List.set_cons_succ, i64_w, i32_w]
                        rfl
                      refine pure_ (i := 3) (N := some 38) (v := ?_) (a' := ?_) #[true, true, true, true, false, false, false, false, false, false, false, false, false, false, false, false, false, false, false, false, false] rfl rfl (any_of HT_.out z50_4) (fun _ _ _ h => h) (Or.inl ⟨by rfl, ?_⟩) ?_ ?_
                      rotate_left
                      · intro w'
                        go_simp
                        with_reducible rfl
                      rotate_left
                      · simp only [Act.put, List.setIfInBounds_toArray, List.set_cons_zero, List.set_cons_succ, i64_w, i32_w]
                        rfl
                      refine pure_ (i := 7) (N := some 42) (v := ?_) (a' := ?_) #[true, true, true, true, false, false, false, true, false, false, false, false, false, false, false, false, false, false, false, false, false] rfl rfl (any_of HT_.out z50_4) (fun _ _ _ h => h) (Or.inl ⟨by rfl, ?_⟩) ?_ ?_
                      rotate_left
                      · intro w'
                        go_simp
                        with_reducible rfl
                      rotate_left
                      · simp only [Act.put, List.setIfInBounds_toArray, List.set_cons_zero, List.set_cons_succ, i64_w, i32_w]
                        rfl
                      refine pure_ (i := 8) (N := some 43) (v := ?_) (a' := ?_) #[true, true, true, true, false, false, false, true, true, false, false, false, false, false, false, false, false, false, false, false, false] rfl rfl (any_of HT_.out z50_4) (fun _ _ _ h => h) (Or.inl ⟨by rfl, ?_⟩) ?_ ?_
                      rotate_left
                      · intro w'
                        go_simp
                        with_reducible rfl
                      rotate_left
                      · simp only [Act.put, List.setIfInBounds_toArray, List.set_cons_zero, List.set_cons_succ, i64_w, i32_w]
                        rfl
                      refine pure_ (i := 9) (N := some 44) (v := ?_) (a' := ?_) #[true, true, true, true, false, false, false, true, true, true, false, false, false, false, false, false, false, false, false, false, false] rfl rfl (any_of HT_.out z50_4) (fun _ _ _ h => h) (Or.inl ⟨by rfl, ?_⟩) ?_ ?_
                      rotate_left
                      · intro w'
                        go_simp
                        with_reducible rfl
                      rotate_left
                      · simp only [Act.put, List.setIfInBounds_toArray, List.set_cons_zero, List.set_cons_succ, i64_w, i32_w]
                        rfl
                      refine pure_ (i := 10) (N := some 45) (v := ?_) (a' := ?_) #[true, true, true, true, false, false, false, true, true, true, true, false, false, false, false, false, false, false, false, false, false] rfl rfl (any_of HT_.out z50_4) (fun _ _ _ h => h) (Or.inl ⟨by rfl, ?_⟩) ?_ ?_
                      rotate_left
                      · intro w'
                        go_simp
                        with_reducible rfl
                      rotate_left
                      · simp only [Act.put, List.setIfInBounds_toArray, List.set_cons_zero, List.set_cons_succ, i64_w, i32_w]
                        rfl
                      refine pure_ (i := 13) (N := some 48) (v := ?_) (a' := ?_) #[true, true, true, true, false, false, false, true, true, true, true, false, false, true, false, false, false, false, false, false, false] rfl rfl (any_of HT_.out z50_4) (fun _ _ _ h => h) (Or.inl ⟨by rfl, ?_⟩) ?_ ?_
                      rotate_left
                      · intro w'
                        go_simp
                        with_reducible rfl
                      rotate_left
                      · simp only [Act.put, List.setIfInBounds_toArray, List.set_cons_zero, List.set_cons_succ, i64_w, i32_w]
                        rfl
                      refine pure_ (i := 14) (N := some 49) (v := ?_) (a' := ?_) #[true, true, true, true, false, false, false, true, true, true, true, false, false, true, true, false, false, false, false, false, false] rfl rfl (any_of HT_.out z50_4) (fun _ _ _ h => h) (Or.inl ⟨by rfl, ?_⟩) ?_ ?_
                      rotate_left
                      · intro w'
                        go_simp
                        with_reducible rfl
                      rotate_left
                      · simp only [Act.put, List.setIfInBounds_toArray, List.set_cons_zero, List.set_cons_succ, i64_w, i32_w]
                        rfl
                      refine pure_ (i := 15) (N := some 50) (v := ?_) (a' := ?_) #[true, true, true, true, false, false, false, true, true, true, true, false, false, true, true, true, false, false, false, false, false] rfl rfl (any_of HT_.out z50_4) (fun _ _ _ h => h) (Or.inl ⟨by rfl, ?_⟩) ?_ ?_
                      rotate_left
                      · intro w'
                        go_simp
                        with_reducible rfl
                      rotate_left
                      · simp only [Act.put, List.setIfInBounds_toArray, List.set_cons_zero, List.set_cons_succ, i64_w, i32_w]
                        rfl
                      refine pure_ (i := 16) (N := some 51) (v := ?_) (a' := ?_) #[true, true, true, true, false, false, false, true, true, true, true, false, false, true, true, true, true, false, false, false, false] rfl rfl (any_of HT_.out z50_4) (fun _ _ _ h => h) (Or.inl ⟨by rfl, ?_⟩) ?_ ?_
                      rotate_left
                      · intro w'
                        go_simp
                        with_reducible rfl
                      rotate_left
                      · simp only [Act.put, List.setIfInBounds_toArray, List.set_cons_zero, List.set_cons_succ, i64_w, i32_w]
                        rfl
                      refine take_ (i := 4) (N := some 39) (v := ?_) (a' := ?_) #[true, true, true, true, true, false, false, true, true, true, true, false, false, true, true, true, true, false, false, false, false] rfl rfl (take_ofW HT_.out HW_.out z50_4) (fun _ _ _ h => h) (Or.inl ⟨by rfl, ?_⟩) hHeld ?_ ?_
                      rotate_left
                      · rintro w' ⟨s0, s1, s2, s3, s4, s5, s6, s7, s8, s9, s10, s11⟩
                        go_simp
                        with_reducible rfl
                      rotate_left
                      · simp only [Act.put, List.setIfInBounds_toArray, List.set_cons_zero, List.set_cons_succ, i64_w, i32_w]
                        rfl
                      refine take_ (i := 11) (N := some 46) (v := ?_) (a' := ?_) #[true, true, true, true, true, false, false, true, true, true, true, true, false, true, true, true, true, false, false, false, false] rfl rfl (take_ofW HT_.out HW_.out z50_4) (fun _ _ _ h => h) (Or.inl ⟨by rfl, ?_⟩) hHeld ?_ ?_
                      rotate_left
                      · rintro w' ⟨s0, s1, s2, s3, s4, s5, s6, s7, s8, s9, s10, s11⟩
                        go_simp
                        with_reducible rfl
                      rotate_left
                      · simp only [Act.put, List.setIfInBounds_toArray, List.set_cons_zero, List.set_cons_succ, i64_w, i32_w]
                        rfl
                      refine pure_ (i := 12) (N := some 47) (v := ?_) (a' := ?_) #[true, true, true, true, true, false, false, true, true, true, true, true, true, true, true, true, true, false, false, false, false] rfl rfl (any_of HT_.out z50_4) (fun _ _ _ h => h) (Or.inl ⟨by rfl, ?_⟩) ?_ ?_
                      rotate_left
                      · intro w'
                        go_simp
                        with_reducible rfl
                      rotate_left
                      · simp only [Act.put, List.setIfInBounds_toArray, List.set_cons_zero, List.set_cons_succ, i64_w, i32_w]
                        rfl
                      refine one_ (i := 5) (N := some 40) #[true, true, true, true, true, true, false, true, true, true, true, true, true, true, true, true, true, false, false, false, false] rfl rfl (one_of HT_.out z50_4) (by decide) (fun K hK => ?_)
                      refine goes_ Try.func120 z50_4 rfl #[.agg #[.int .i64 ((rd_T119 l0 x8_1).f0), .int .i64 ((rd_T119 l0 x8_1).f1), .int .i64 ((rd_T119 l0 x8_1).f2), .int .i64 ((rd_T119 l0 x8_1).f3.f0), .int .i64 ((rd_T119 l0 x8_1).f3.f1), .int .i64 ((rd_T119 l0 x8_1).f3.f2)]] (by rfl) rfl rfl z50_0 ?_
                      with_reducible refine (spec_l11Cost.calls ((rd_T119 l0 x8_1).f0) ((rd_T119 l0 x8_1).f1) ((rd_T119 l0 x8_1).f2) ((rd_T119 l0 x8_1).f3.f0) ((rd_T119 l0 x8_1).f3.f1) ((rd_T119 l0 x8_1).f3.f2) t694 _ A13.out).mono ?_
                      rintro e w18 ⟨rfl, hb⟩
                      refine ⟨_, rfl, ?_⟩
                      have n0_ := Aside0.mk (below_step z50_1 hb)
                      clear HB
                      have HB := n0_
                      clear n0_
                      (try clear hb)
                      (try clear hb2)
                      (try clear hk)
                      (try clear hi)
                      refine hK.out _ _ ⟨((HB.out.cell (World.block_lt_of_cell? w _ hw693_0)).trans hw693_0), ((HB.out.cell (World.block_lt_of_cell? w _ hw693_1)).trans hw693_1), ((HB.out.cell (World.block_lt_of_cell? w _ hw693_2)).trans hw693_2), ((HB.out.cell (World.block_lt_of_cell? w _ hw693_3)).trans hw693_3), ((HB.out.cell (World.block_lt_of_cell? w _ hw693_4)).trans hw693_4), ((HB.out.cell (World.block_lt_of_cell? w _ hw693_5)).trans hw693_5), ((HB.out.cell (World.block_lt_of_cell? w _ hw695_0)).trans hw695_0), ((HB.out.cell (World.block_lt_of_cell? w _ hw695_1)).trans hw695_1), ((HB.out.cell (World.block_lt_of_cell? w _ hw695_2)).trans hw695_2), ((HB.out.cell (World.block_lt_of_cell? w _ hw695_3)).trans hw695_3), ((HB.out.cell (World.block_lt_of_cell? w _ hw695_4)).trans hw695_4), ((HB.out.cell (World.block_lt_of_cell? w _ hw695_5)).trans hw695_5)⟩ (fun hHeld => ?_)
                      clear hK K
                      refine norm_ (a' := ?_) ?_ ?_
                      rotate_left
                      · show Act.put _ (some 40) _ = _
                        simp only [Act.put, List.setIfInBounds_toArray, List.set_cons_zero, List.set_cons_succ, i64_w, i32_w]
                        rfl
                      refine pure_ (i := 6) (N := some 41) (v := ?_) (a' := ?_) #[true, true, true, true, true, true, true, true, true, true, true, true, true, true, true, true, true, false, false, false, false] rfl rfl (any_of HT_.out z50_4) (fun _ _ _ h => h) (Or.inl ⟨by rfl, ?_⟩) ?_ ?_
                      rotate_left
                      · intro w'
                        go_simp
                        with_reducible rfl
                      rotate_left
                      · simp only [Act.put, List.setIfInBounds_toArray, List.set_cons_zero, List.set_cons_succ, i64_w, i32_w]
                        rfl
                      refine one_ (i := 17) (N := some 52) #[true, true, true, true, true, true, true, true, true, true, true, true, true, true, true, true, true, true, false, false, false] rfl rfl (one_of HT_.out z50_4) (by decide) (fun K hK => ?_)
                      refine goes_ Try.func78 z50_4 rfl #[.slice (some ad691) l0.length c0, .int .i64 (wrap64 (x8_1 + 1)), .int .i64 t692] (by rfl) rfl rfl z50_0 ?_
                      with_reducible refine (ih kj6 (by have := HK1.out; have := HJ6.out; omega) _ _ l0 (wrap64 (x8_1 + 1)) t692 t696 _ ?side1 ?side2 A15.out).mono ?_
                      (case side1 => repeat (first | exact (Kd.C_below HR0.out HB.out) | (with_reducible refine Kd.C_alloc ?_ _) | (with_reducible refine Kd.C_drewN ?_ _) | (with_reducible refine Kd.C_drew ?_)))
                      (case side2 => exact HC0.out)
                      rintro e w19 ⟨rfl, hb⟩
                      refine ⟨_, rfl, ?_⟩
                      have n0_ := Aside0.mk (below_step z50_1 hb)
                      clear HB
                      have HB := n0_
                      clear n0_
                      (try clear hb)
                      (try clear hb2)
                      (try clear hk)
                      (try clear hi)
                      refine hK.out _ _ ⟨((HB.out.cell (World.block_lt_of_cell? w _ hw693_0)).trans hw693_0), ((HB.out.cell (World.block_lt_of_cell? w _ hw693_1)).trans hw693_1), ((HB.out.cell (World.block_lt_of_cell? w _ hw693_2)).trans hw693_2), ((HB.out.cell (World.block_lt_of_cell? w _ hw693_3)).trans hw693_3), ((HB.out.cell (World.block_lt_of_cell? w _ hw693_4)).trans hw693_4), ((HB.out.cell (World.block_lt_of_cell? w _ hw693_5)).trans hw693_5), ((HB.out.cell (World.block_lt_of_cell? w _ hw695_0)).trans hw695_0), ((HB.out.cell (World.block_lt_of_cell? w _ hw695_1)).trans hw695_1), ((HB.out.cell (World.block_lt_of_cell? w _ hw695_2)).trans hw695_2), ((HB.out.cell (World.block_lt_of_cell? w _ hw695_3)).trans hw695_3), ((HB.out.cell (World.block_lt_of_cell? w _ hw695_4)).trans hw695_4), ((HB.out.cell (World.block_lt_of_cell? w _ hw695_5)).trans hw695_5)⟩ (fun hHeld => ?_)
                      clear hK K
                      refine norm_ (a' := ?_) ?_ ?_
                      rotate_left
                      · show Act.put _ (some 52) _ = _
                        simp only [Act.put, List.setIfInBounds_toArray, List.set_cons_zero, List.set_cons_succ, i64_w, i32_w]
                        rfl
                      refine pure_ (i := 18) (N := some 53) (v := ?_) (a' := ?_) #[true, true, true, true, true, true, true, true, true, true, true, true, true, true, true, true, true, true, true, false, false] rfl rfl (any_of HT_.out z50_4) (fun _ _ _ h => h) (Or.inl ⟨by rfl, ?_⟩) ?_ ?_
                      rotate_left
                      · intro w'
                        go_simp
                        with_reducible rfl
                      rotate_left
                      · simp only [Act.put, List.setIfInBounds_toArray, List.set_cons_zero, List.set_cons_succ, i64_w, i32_w]
                        rfl
                      refine pure_ (i := 19) (N := some 54) (v := ?_) (a' := ?_) #[true, true, true, true, true, true, true, true, true, true, true, true, true, true, true, true, true, true, true, true, false] rfl rfl (any_of HT_.out z50_4) (fun _ _ _ h => h) (Or.inl ⟨by rfl, ?_⟩) ?_ ?_
                      rotate_left
                      · intro w'
                        go_simp
                        with_reducible rfl
                      rotate_left
                      · simp only [Act.put, List.setIfInBounds_toArray, List.set_cons_zero, List.set_cons_succ, i64_w, i32_w]
                        rfl
                      refine pure_ (i := 20) (N := some 7) (v := ?_) (a' := ?_) #[true, true, true, true, true, true, true, true, true, true, true, true, true, true, true, true, true, true, true, true, true] rfl rfl (any_of HT_.out z50_4) (fun _ _ _ h => h) (Or.inl ⟨by rfl, ?_⟩) ?_ ?_
                      rotate_left
                      · intro w'
                        go_simp
                        with_reducible rfl
                      rotate_left
                      · simp only [Act.put, List.setIfInBounds_toArray, List.set_cons_zero, List.set_cons_succ, i64_w, i32_w]
                        rfl
                      refine done_ (done_of HT_.out z50_4) ?_
                      try go_wp2
                      go_roundg kj6
                      case measure => have := HK1.out; have := HJ6.out; omega
                      case rel => exact ⟨(wrap64 ((wrap64 (x7_1 + t694)) + (wrap64 ((ji14) * t696)))), (wrap64 (t692 + 1)), (by first | rfl | (simp; done) | (simp only [← hji14] <;> (first | rfl | simp)) | (simp [*]; done)), z50_3, H', ⟨by have := HK1.out; have := HJ6.out; omega⟩, ⟨by repeat (first | (with_reducible first | exact HB.out | apply below_alloc | apply pw_below_drewN | apply below_drew1) | exact HB.out)⟩⟩
                    · rw [if_neg c12] at H
                      exact absurd H (by simp)
                  · rw [if_neg c11] at H
                    exact absurd H (by simp)
                · replace c9 := Bool.eq_false_iff.mpr c9
                  subst c9
                  have H1 : (if 0 ≤ x8_1 then (if x8_1 < (l0.length : Int) then ((spec_l11Cost.f ((rd_T119 l0 x8_1).f0) ((rd_T119 l0 x8_1).f1) ((rd_T119 l0 x8_1).f2) ((rd_T119 l0 x8_1).f3.f0) ((rd_T119 l0 x8_1).f3.f1) ((rd_T119 l0 x8_1).f3.f2)).bind fun t698 => (spec_l21Bound.l0 kj6 l0 a2 (wrap64 ((wrap64 (x7_1 + t698)) + 3)) (wrap64 (x8_1 + 1)))) else (none)) else (none)) = some r := by rw [if_neg (show ¬ (false = true) by decide)] at H; exact H
                  clear H
                  have H := H1
                  clear H1
                  by_cases c20 : 0 ≤ x8_1
                  · rw [if_pos c20] at H
                    have c20b0 : decide (0 ≤ x8_1) = true := decide_eq_true c20
                    clear c20
                    by_cases c21 : x8_1 < (l0.length : Int)
                    · rw [if_pos c21] at H
                      have c21b0 : decide (x8_1 < (l0.length : Int)) = true := decide_eq_true c21
                      clear c21
                      replace H := Option.bind_eq_some_iff.mp H
                      obtain ⟨t698, A220, H⟩ := H
                      replace H : (spec_l21Bound.l0 kj6 l0 a2 (wrap64 ((wrap64 (x7_1 + t698)) + 3)) (wrap64 (x8_1 + 1))) = some r := H
                      have A22 := Aside0.mk A220
                      clear A220
                      have H' := Aside0.mk H
                      clear H
                      have p697 : 0 ≤ (x8_1 : Int) := of_decide_eq_true z50_2
                      have q697 : x8_1 < (l0.length : Int) := of_decide_eq_true z50_2
                      obtain ⟨ad697, e697, hx697_0, hx697_1, hx697_2, hx697_3, hx697_4, hx697_5⟩ := at_T119 HR0.out x8_1 p697 q697
                      obtain rfl : ad691 = ad697 := (by injection e697)
                      replace hx697_0 := (HB.out.cell (World.block_lt_of_cell? w _ hx697_0)).trans hx697_0
                      replace hx697_1 := (HB.out.cell (World.block_lt_of_cell? w _ hx697_1)).trans hx697_1
                      replace hx697_2 := (HB.out.cell (World.block_lt_of_cell? w _ hx697_2)).trans hx697_2
                      replace hx697_3 := (HB.out.cell (World.block_lt_of_cell? w _ hx697_3)).trans hx697_3
                      replace hx697_4 := (HB.out.cell (World.block_lt_of_cell? w _ hx697_4)).trans hx697_4
                      replace hx697_5 := (HB.out.cell (World.block_lt_of_cell? w _ hx697_5)).trans hx697_5
                      replace p697 := eq_true p697
                      replace q697 := eq_true q697
                      go_wp2_with (first | ((first | ((with_reducible refine gate_callee (f := 120) rfl ?_); refine goesL_ (some 26) rfl rfl Try.func120 z50_4 rfl #[.agg #[.int .i64 ((rd_T119 l0 x8_1).f0), .int .i64 ((rd_T119 l0 x8_1).f1), .int .i64 ((rd_T119 l0 x8_1).f2), .int .i64 ((rd_T119 l0 x8_1).f3.f0), .int .i64 ((rd_T119 l0 x8_1).f3.f1), .int .i64 ((rd_T119 l0 x8_1).f3.f2)]] rfl z50_0 ?_; (with_reducible refine (spec_l11Cost.calls ((rd_T119 l0 x8_1).f0) ((rd_T119 l0 x8_1).f1) ((rd_T119 l0 x8_1).f2) ((rd_T119 l0 x8_1).f3.f0) ((rd_T119 l0 x8_1).f3.f1) ((rd_T119 l0 x8_1).f3.f2) t698 _ A22.out).mono ?_)) | (go_at_call 120; (with_reducible refine (spec_l11Cost.calls ((rd_T119 l0 x8_1).f0) ((rd_T119 l0 x8_1).f1) ((rd_T119 l0 x8_1).f2) ((rd_T119 l0 x8_1).f3.f0) ((rd_T119 l0 x8_1).f3.f1) ((rd_T119 l0 x8_1).f3.f2) t698 _ A22.out).mono ?_))); rintro e w23 ⟨rfl, hb⟩; (first | refine ⟨_, rfl, ?_⟩ | skip); have n0_ := Aside0.mk (below_step z50_1 hb); clear HB; have HB := n0_; clear n0_; (try clear hb); (try clear hb2); (try clear hk); (try clear hi)))
                      go_roundg kj6
                      case measure => have := HK1.out; have := HJ6.out; omega
                      case rel => exact ⟨(wrap64 ((wrap64 (x7_1 + t698)) + 3)), (wrap64 (x8_1 + 1)), z50_3, z50_3, H', ⟨by have := HK1.out; have := HJ6.out; omega⟩, ⟨by repeat (first | (with_reducible first | exact HB.out | apply below_alloc | apply pw_below_drewN | apply below_drew1) | exact HB.out)⟩⟩
                    · rw [if_neg c21] at H
                      exact absurd H (by simp)
                  · rw [if_neg c20] at H
                    exact absurd H (by simp)
          · rw [if_neg c6] at H
            exact absurd H (by simp)
        · rw [if_neg c5] at H
          exact absurd H (by simp)
      · rw [if_neg c4] at H
        have c4b0 : decide (x8_1 < a2) = false := decide_eq_false c4
        clear c4
        obtain rfl := Option.some.inj H
        go_wp2
        go_ret
        exact ⟨by first | rfl | (simp [errW_none, errW_some] <;> rfl) | (simp [*, errW_none, errW_some] <;> rfl) | (simp [*, errW_none, errW_some, i64_w]; done), by repeat (first | (with_reducible first | exact HB.out | apply below_alloc | apply pw_below_drewN | apply below_drew1) | exact HB.out)⟩

end Go.Proofs.Ytaicbghmfeehkaa.G
