/- Functions of the program as plain Lean functions, and that each call comes to its function's answer; written by a program of the session. No condition. -/
import Derived.Test.YtlcgohhcoalahaaGx0
import Derived.Test.YtlcgohhcoalahaaGx15
import Derived.Test.YtlcgohhcoalahaaGx16
import Derived.Test.YtlcgohhcoalahaaGx17
namespace Go.Proofs.Ytlcgohhcoalahaa.G
open Go.RowKit Go.Proofs.YtlcgohhcoalahaaW.PrintWords Go.Proofs.YtlcgohhcoalahaaW.PrintLast Go.Proofs.YtlcgohhcoalahaaW.PrintMore
attribute [local go_sem] max2_int min2_int max_two min_two max_three min_three max_four min_four   -- for this text's walks alone
set_option linter.unusedVariables false
set_option linter.unusedSimpArgs false

/-! ### impl_harvested: function 70 -/
mutual
def impl_harvested.j0 : Nat → List Int → Bool → Int → Int → Int → Int → Option (List Int × Int × Bool)
  | 0, _, _, _, _, _, _ => none
  | k + 1, x1, x23, x454000, x454001, x454002, x454003 => if x23 = true then (some (([] : List Int), 0, false)) else (impl_harvested.l0 k (([] : List Int)) 0 x1 (x1.length : Int) 0 x454000 x454001 x454002 x454003)
def impl_harvested.l0 : Nat → List Int → Int → List Int → Int → Int → Int → Int → Int → Int → Option (List Int × Int × Bool)
  | 0, _, _, _, _, _, _, _, _, _ => none
  | k + 1, x7, x8, x25, x26, x27, x454000, x454001, x454002, x454003 => if x27 < x26 then (if 0 ≤ x27 then (if x27 < (x25.length : Int) then ((impl_Store_tick.f x454000 x454001 x454002 x454003 (rd x25 x27)).bind fun bt460 => (if bt460.1 ≥ bt460.2.2.1 then (if x7.length < 17592186044416 then (impl_harvested.l0 k (x7 ++ [bt460.1]) (wrap64 (x8 + (mx 0 (wrap64 ((wrap64 ((wrap64 (x454000 + (rd x25 x27))) - x454003)) - x454001))))) x25 x26 (wrap64 (x27 + 1)) 0 bt460.2.1 bt460.2.2.1 bt460.2.2.2) else (none)) else (impl_harvested.l0 k x7 (wrap64 (x8 + (mx 0 (wrap64 ((wrap64 ((wrap64 (x454000 + (rd x25 x27))) - x454003)) - x454001))))) x25 x26 (wrap64 (x27 + 1)) bt460.1 bt460.2.1 bt460.2.2.1 bt460.2.2.2))) else (none)) else (none)) else (some (x7, x8, true))
end
def impl_harvested.f (k : Nat) (a0_0 : Int) (a0_1 : Int) (a0_2 : Int) (a0_3 : Int) (l1 : List Int) : Option (List Int × Int × Bool) := (impl_StoreOk.f a0_0 a0_1 a0_2 a0_3).bind fun t454 => (if t454 = true then (if (l1.length : Int) > 500 then (impl_harvested.j0 k l1 true a0_0 a0_1 a0_2 a0_3) else ((impl_areHarvests.f l1).bind fun t455 => (impl_harvested.j0 k l1 (!t455) a0_0 a0_1 a0_2 a0_3))) else (impl_harvested.j0 k l1 true a0_0 a0_1 a0_2 a0_3))
theorem impl_harvested.mono_l : ∀ k, (∀ y0 y1 y2 y3 y4 y5, LeO (impl_harvested.j0 k y0 y1 y2 y3 y4 y5) (impl_harvested.j0 (k + 1) y0 y1 y2 y3 y4 y5)) ∧ (∀ y0 y1 y2 y3 y4 y5 y6 y7 y8, LeO (impl_harvested.l0 k y0 y1 y2 y3 y4 y5 y6 y7 y8) (impl_harvested.l0 (k + 1) y0 y1 y2 y3 y4 y5 y6 y7 y8))
  | 0 => ⟨fun _ _ _ _ _ _ r h => by simp [impl_harvested.j0] at h, fun _ _ _ _ _ _ _ _ _ r h => by simp [impl_harvested.l0] at h⟩
  | k + 1 => by
    obtain ⟨ih0, ih1⟩ := impl_harvested.mono_l k
    refine ⟨?_, ?_⟩
    · intro y0 y1 y2 y3 y4 y5
      unfold impl_harvested.j0
      repeat' first
      | (with_reducible exact ih0 _ _ _ _ _ _)
      | (with_reducible exact ih1 _ _ _ _ _ _ _ _ _)
      | (with_reducible exact LeO.refl _)
      | (with_reducible exact LeO.none _)
      | (with_reducible refine LeO.ite ?_ ?_)
      | (with_reducible refine LeO.bind ?_ (fun _ => ?_))
      | exact ih0 _ _ _ _ _ _
      | exact ih1 _ _ _ _ _ _ _ _ _
      | exact LeO.none _
      | refine LeO.ite ?_ ?_
      | refine LeO.bind ?_ (fun _ => ?_)
    · intro y0 y1 y2 y3 y4 y5 y6 y7 y8
      unfold impl_harvested.l0
      repeat' first
      | (with_reducible exact ih0 _ _ _ _ _ _)
      | (with_reducible exact ih1 _ _ _ _ _ _ _ _ _)
      | (with_reducible exact LeO.refl _)
      | (with_reducible exact LeO.none _)
      | (with_reducible refine LeO.ite ?_ ?_)
      | (with_reducible refine LeO.bind ?_ (fun _ => ?_))
      | exact ih0 _ _ _ _ _ _
      | exact ih1 _ _ _ _ _ _ _ _ _
      | exact LeO.none _
      | refine LeO.ite ?_ ?_
      | refine LeO.bind ?_ (fun _ => ?_)
theorem impl_harvested.mono : ∀ a0 a1 a2 a3 a4 k, LeO (impl_harvested.f k a0 a1 a2 a3 a4) (impl_harvested.f (k + 1) a0 a1 a2 a3 a4) := by
  intro a0 a1 a2 a3 a4 k
  obtain ⟨ih0, ih1⟩ := impl_harvested.mono_l k
  unfold impl_harvested.f
  repeat' first
      | (with_reducible exact ih0 _ _ _ _ _ _)
      | (with_reducible exact ih1 _ _ _ _ _ _ _ _ _)
      | (with_reducible exact LeO.refl _)
      | (with_reducible exact LeO.none _)
      | (with_reducible refine LeO.ite ?_ ?_)
      | (with_reducible refine LeO.bind ?_ (fun _ => ?_))
      | exact ih0 _ _ _ _ _ _
      | exact ih1 _ _ _ _ _ _ _ _ _
      | exact LeO.none _
      | refine LeO.ite ?_ ?_
      | refine LeO.bind ?_ (fun _ => ?_)
set_option maxHeartbeats 8000000 in
set_option maxRecDepth 100000 in
theorem impl_harvested.calls (k : Nat) (a0_0 : Int) (a0_1 : Int) (a0_2 : Int) (a0_3 : Int) (A1 : Option Addr) (c1 : Nat) (l1 : List Int) (r1 : List Int) (r2 : Int) (r3 : Bool) (w : World) (hr1 : Kd.C (Kd.int .i64) w A1 l1.length l1) (hc1 : l1.length ≤ c1) (h : impl_harvested.f k a0_0 a0_1 a0_2 a0_3 l1 = some (r1, r2, r3)) :
    Calls Try.prog 70 #[.agg #[.int .i64 a0_0, .int .i64 a0_1, .int .i64 a0_2, .int .i64 a0_3], .slice A1 l1.length c1] w fun e w' => ∃ v0_ : Value, e = .returned (.tuple #[v0_, .int .i64 r2, .bool r3]) ∧ Kd.R (Kd.int .i64) 3 w' w.heap.size (fun _ => True) v0_ r1 ∧ Below w.heap.size w w' := by
  have hu35 := Try.underlying35
  have HR1 := Aside0.mk hr1
  have HC1 := Aside0.mk hc1
  clear hr1 hc1
  have HB := Aside0.mk (Below.refl w.heap.size w)
  have H : ((impl_StoreOk.f a0_0 a0_1 a0_2 a0_3).bind fun t454 => (if t454 = true then (if (l1.length : Int) > 500 then (impl_harvested.j0 k l1 true a0_0 a0_1 a0_2 a0_3) else ((impl_areHarvests.f l1).bind fun t455 => (impl_harvested.j0 k l1 (!t455) a0_0 a0_1 a0_2 a0_3))) else (impl_harvested.j0 k l1 true a0_0 a0_1 a0_2 a0_3))) = some (r1, r2, r3) := h
  clear h
  have HC3 := Aside0.mk H
  clear H
  go_enter Try.func70, Try.ntmps70
  go_upto_region 1 with (first | ((with_reducible refine gate_dst (N := 2) rfl ?_); (try (refine gate_guard (by rfl) ?_; dsimp only)); refine box_event ?hg (N := 2) ?hd (cs := #[.int .i64 a0_0, .int .i64 a0_1, .int .i64 a0_2, .int .i64 a0_3]) (t := 35) ?hr ?_; (case hd => rfl); (case hg => rfl); (case hr => first | (go_simp; done) | (go_simp; rfl)); intro gb453 hg w4 hbox hb; have n0_ := Aside0.mk (below_step (by repeat (first | (with_reducible first | exact HB.out | apply below_alloc | apply pw_below_drewN | apply below_drew1) | exact HB.out)) hb); have n1_ := Aside0.mk (hbox); have n2_ := Aside0.mk ((by rw [hg]; exact (below_size (by repeat (first | (with_reducible first | exact HB.out | apply below_alloc | apply pw_below_drewN | apply below_drew1) | exact HB.out))) : w.heap.size ≤ gb453)); have n3_ := Aside0.mk ((by rw [hg]; exact (below_size (by repeat (first | (with_reducible first | exact HB.out | apply below_alloc | apply pw_below_drewN | apply below_drew1) | exact HB.out))) : w.heap.size ≤ gb453)); clear HB; have HB := n0_; have BK453 := n1_; have GW453 := n2_; have GE453 := n3_; clear n0_ n1_ n2_ n3_; clear hb hbox hg))
  (try simp only [Act.put, List.setIfInBounds_toArray, List.set_cons_zero, List.set_cons_succ])
  go_cut [23] (fun v23 wc => ∃ (kq : Nat) (x23_2 : Bool), v23 = .bool x23_2 ∧ Aside0 (impl_harvested.j0 kq l1 x23_2 a0_0 a0_1 a0_2 a0_3 = some (r1, r2, r3)) ∧ Aside0 (kq ≤ k) ∧ Aside0 (wc.heap[gb453]? = some (.cells #[.int .i64 a0_0, .int .i64 a0_1, .int .i64 a0_2, .int .i64 a0_3] 35 (0, 0))) ∧ Aside0 (Below w.heap.size w wc))
  case first =>
    have H := HC3.out
    clear HC3
    replace H := Option.bind_eq_some_iff.mp H
    obtain ⟨t454, A50, H⟩ := H
    replace H : (if t454 = true then (if (l1.length : Int) > 500 then (impl_harvested.j0 k l1 true a0_0 a0_1 a0_2 a0_3) else ((impl_areHarvests.f l1).bind fun t455 => (impl_harvested.j0 k l1 (!t455) a0_0 a0_1 a0_2 a0_3))) else (impl_harvested.j0 k l1 true a0_0 a0_1 a0_2 a0_3)) = some (r1, r2, r3) := H
    have A5 := Aside0.mk A50
    clear A50
    by_cases c6 : t454 = true
    · subst c6
      have H1 : (if (l1.length : Int) > 500 then (impl_harvested.j0 k l1 true a0_0 a0_1 a0_2 a0_3) else ((impl_areHarvests.f l1).bind fun t455 => (impl_harvested.j0 k l1 (!t455) a0_0 a0_1 a0_2 a0_3))) = some (r1, r2, r3) := by rw [if_pos rfl] at H; exact H
      clear H
      have H := H1
      clear H1
      by_cases c7 : (l1.length : Int) > 500
      · rw [if_pos c7] at H
        have c7b0 : decide (500 < (l1.length : Int)) = true := decide_eq_true c7
        have c7b1 : decide (500 < l1.length) = true := decide_eq_true (by omega)
        clear c7
        (first | rw [c7b0] | (simp only [i64_w, i32_w]; rw [c7b0]) | skip)
        have H' := Aside0.mk H
        clear H
        have hcz8_0 : w4.cell? ⟨gb453, 0, none⟩ = some (.int .i64 a0_0) := (blk_cell BK453.out 0).trans rfl
        have hcz8_1 : w4.cell? ⟨gb453, 1, none⟩ = some (.int .i64 a0_1) := (blk_cell BK453.out 1).trans rfl
        have hcz8_2 : w4.cell? ⟨gb453, 2, none⟩ = some (.int .i64 a0_2) := (blk_cell BK453.out 2).trans rfl
        have hcz8_3 : w4.cell? ⟨gb453, 3, none⟩ = some (.int .i64 a0_3) := (blk_cell BK453.out 3).trans rfl
        have hfz8_0 := blk_frozen BK453.out 0
        have hfz8_1 := blk_frozen BK453.out 1
        have hfz8_2 := blk_frozen BK453.out 2
        have hfz8_3 := blk_frozen BK453.out 3
        go_wp2_with (first | ((first | ((with_reducible refine gate_callee (f := 59) rfl ?_); refine goesL_ (some 12) rfl rfl Try.func59 (by kernel_rfl) rfl #[.agg #[.int .i64 a0_0, .int .i64 a0_1, .int .i64 a0_2, .int .i64 a0_3]] rfl (by (try simp only [List.map_toArray, List.map_cons, List.map_nil]); first | done | rfl | (simp only [List.length_drop, List.length_take]; rfl)) ?_; (with_reducible refine (impl_StoreOk.calls a0_0 a0_1 a0_2 a0_3 true _ A5.out).mono ?_)) | (go_at_call 59; (with_reducible refine (impl_StoreOk.calls a0_0 a0_1 a0_2 a0_3 true _ A5.out).mono ?_))); rintro e w9 ⟨rfl, hb⟩; (first | refine ⟨_, rfl, ?_⟩ | skip); have n0_ := Aside0.mk (blk_below (g := gb453) (o := .cells #[.int .i64 a0_0, .int .i64 a0_1, .int .i64 a0_2, .int .i64 a0_3] 35 (0, 0)) (by (with_reducible repeat (first | refine blk_drewN ?_ _ | refine blk_drew ?_ | refine blk_alloc ?_ _)); exact BK453.out) hb); have n1_ := Aside0.mk (below_step (by repeat (first | (with_reducible first | exact HB.out | apply below_alloc | apply pw_below_drewN | apply below_drew1 | refine below_set ?_ GE453.out) | exact HB.out)) hb); clear BK453; clear HB; have BK453 := n0_; have HB := n1_; clear n0_ n1_; (try clear hb); (try clear hb2); (try clear hk); (try clear hi)))
        go_meet
        case rel => exact ⟨_, (true), (by first | rfl | (simp; done) | (simp [*]; done)), H', ⟨by first | omega | exact Nat.le_refl _⟩, ⟨by (with_reducible repeat (first | refine blk_drewN ?_ _ | refine blk_drew ?_ | refine blk_alloc ?_ _)); exact BK453.out⟩, ⟨by repeat (first | (with_reducible first | exact HB.out | apply below_alloc | apply pw_below_drewN | apply below_drew1 | refine below_set ?_ GE453.out) | exact HB.out)⟩⟩
      · rw [if_neg c7] at H
        have c7b0 : decide (500 < (l1.length : Int)) = false := decide_eq_false c7
        have c7b1 : decide (500 < l1.length) = false := decide_eq_false (by omega)
        clear c7
        (first | rw [c7b0] | (simp only [i64_w, i32_w]; rw [c7b0]) | skip)
        replace H := Option.bind_eq_some_iff.mp H
        obtain ⟨t455, A100, H⟩ := H
        replace H : (impl_harvested.j0 k l1 (!t455) a0_0 a0_1 a0_2 a0_3) = some (r1, r2, r3) := H
        have A10 := Aside0.mk A100
        clear A100
        have H' := Aside0.mk H
        clear H
        have hcz11_0 : w4.cell? ⟨gb453, 0, none⟩ = some (.int .i64 a0_0) := (blk_cell BK453.out 0).trans rfl
        have hcz11_1 : w4.cell? ⟨gb453, 1, none⟩ = some (.int .i64 a0_1) := (blk_cell BK453.out 1).trans rfl
        have hcz11_2 : w4.cell? ⟨gb453, 2, none⟩ = some (.int .i64 a0_2) := (blk_cell BK453.out 2).trans rfl
        have hcz11_3 : w4.cell? ⟨gb453, 3, none⟩ = some (.int .i64 a0_3) := (blk_cell BK453.out 3).trans rfl
        have hfz11_0 := blk_frozen BK453.out 0
        have hfz11_1 := blk_frozen BK453.out 1
        have hfz11_2 := blk_frozen BK453.out 2
        have hfz11_3 := blk_frozen BK453.out 3
        go_wp2_with (first | ((first | ((with_reducible refine gate_callee (f := 59) rfl ?_); refine goesL_ (some 12) rfl rfl Try.func59 (by kernel_rfl) rfl #[.agg #[.int .i64 a0_0, .int .i64 a0_1, .int .i64 a0_2, .int .i64 a0_3]] rfl (by (try simp only [List.map_toArray, List.map_cons, List.map_nil]); first | done | rfl | (simp only [List.length_drop, List.length_take]; rfl)) ?_; (with_reducible refine (impl_StoreOk.calls a0_0 a0_1 a0_2 a0_3 true _ A5.out).mono ?_)) | (go_at_call 59; (with_reducible refine (impl_StoreOk.calls a0_0 a0_1 a0_2 a0_3 true _ A5.out).mono ?_))); rintro e w12 ⟨rfl, hb⟩; (first | refine ⟨_, rfl, ?_⟩ | skip); have n0_ := Aside0.mk (blk_below (g := gb453) (o := .cells #[.int .i64 a0_0, .int .i64 a0_1, .int .i64 a0_2, .int .i64 a0_3] 35 (0, 0)) (by (with_reducible repeat (first | refine blk_drewN ?_ _ | refine blk_drew ?_ | refine blk_alloc ?_ _)); exact BK453.out) hb); have n1_ := Aside0.mk (below_step (by repeat (first | (with_reducible first | exact HB.out | apply below_alloc | apply pw_below_drewN | apply below_drew1 | refine below_set ?_ GE453.out) | exact HB.out)) hb); clear BK453; clear HB; have BK453 := n0_; have HB := n1_; clear n0_ n1_; (try clear hb); (try clear hb2); (try clear hk); (try clear hi)) | (go_at_call 60; (with_reducible refine (impl_areHarvests.calls _ _ l1 t455 _ ?side1 ?side2 A10.out).mono ?_); (case side1 => repeat (first | exact (Kd.C_below HR1.out HB.out) | (with_reducible refine Kd.C_alloc ?_ _) | (with_reducible refine Kd.C_drewN ?_ _) | (with_reducible refine Kd.C_drew ?_))); (case side2 => exact HC1.out); rintro e w' ⟨rfl, ⟨nd, rfl⟩⟩))
        go_meet
        case rel => exact ⟨_, (!t455), (by first | rfl | (simp; done) | (simp [*]; done)), H', ⟨by first | omega | exact Nat.le_refl _⟩, ⟨by (with_reducible repeat (first | refine blk_drewN ?_ _ | refine blk_drew ?_ | refine blk_alloc ?_ _)); exact BK453.out⟩, ⟨by repeat (first | (with_reducible first | exact HB.out | apply below_alloc | apply pw_below_drewN | apply below_drew1 | refine below_set ?_ GE453.out) | exact HB.out)⟩⟩
    · replace c6 := Bool.eq_false_iff.mpr c6
      subst c6
      have H1 : (impl_harvested.j0 k l1 true a0_0 a0_1 a0_2 a0_3) = some (r1, r2, r3) := by rw [if_neg (show ¬ (false = true) by decide)] at H; exact H
      clear H
      have H := H1
      clear H1
      have H' := Aside0.mk H
      clear H
      have hcz13_0 : w4.cell? ⟨gb453, 0, none⟩ = some (.int .i64 a0_0) := (blk_cell BK453.out 0).trans rfl
      have hcz13_1 : w4.cell? ⟨gb453, 1, none⟩ = some (.int .i64 a0_1) := (blk_cell BK453.out 1).trans rfl
      have hcz13_2 : w4.cell? ⟨gb453, 2, none⟩ = some (.int .i64 a0_2) := (blk_cell BK453.out 2).trans rfl
      have hcz13_3 : w4.cell? ⟨gb453, 3, none⟩ = some (.int .i64 a0_3) := (blk_cell BK453.out 3).trans rfl
      have hfz13_0 := blk_frozen BK453.out 0
      have hfz13_1 := blk_frozen BK453.out 1
      have hfz13_2 := blk_frozen BK453.out 2
      have hfz13_3 := blk_frozen BK453.out 3
      go_wp2_with (first | ((first | ((with_reducible refine gate_callee (f := 59) rfl ?_); refine goesL_ (some 12) rfl rfl Try.func59 (by kernel_rfl) rfl #[.agg #[.int .i64 a0_0, .int .i64 a0_1, .int .i64 a0_2, .int .i64 a0_3]] rfl (by (try simp only [List.map_toArray, List.map_cons, List.map_nil]); first | done | rfl | (simp only [List.length_drop, List.length_take]; rfl)) ?_; (with_reducible refine (impl_StoreOk.calls a0_0 a0_1 a0_2 a0_3 false _ A5.out).mono ?_)) | (go_at_call 59; (with_reducible refine (impl_StoreOk.calls a0_0 a0_1 a0_2 a0_3 false _ A5.out).mono ?_))); rintro e w14 ⟨rfl, hb⟩; (first | refine ⟨_, rfl, ?_⟩ | skip); have n0_ := Aside0.mk (blk_below (g := gb453) (o := .cells #[.int .i64 a0_0, .int .i64 a0_1, .int .i64 a0_2, .int .i64 a0_3] 35 (0, 0)) (by (with_reducible repeat (first | refine blk_drewN ?_ _ | refine blk_drew ?_ | refine blk_alloc ?_ _)); exact BK453.out) hb); have n1_ := Aside0.mk (below_step (by repeat (first | (with_reducible first | exact HB.out | apply below_alloc | apply pw_below_drewN | apply below_drew1 | refine below_set ?_ GE453.out) | exact HB.out)) hb); clear BK453; clear HB; have BK453 := n0_; have HB := n1_; clear n0_ n1_; (try clear hb); (try clear hb2); (try clear hk); (try clear hi)))
      go_meet
      case rel => exact ⟨_, (true), (by first | rfl | (simp; done) | (simp [*]; done)), H', ⟨by first | omega | exact Nat.le_refl _⟩, ⟨by (with_reducible repeat (first | refine blk_drewN ?_ _ | refine blk_drew ?_ | refine blk_alloc ?_ _)); exact BK453.out⟩, ⟨by repeat (first | (with_reducible first | exact HB.out | apply below_alloc | apply pw_below_drewN | apply below_drew1 | refine below_set ?_ GE453.out) | exact HB.out)⟩⟩
  case rest =>
    clear HC3
    try clear c1
    try clear p2
    try clear c5
    try clear c6
    try clear c7
    try clear c7b0
    try clear c7b1
    try clear hcz11_0
    try clear hcz11_1
    try clear hcz11_2
    try clear hcz11_3
    try clear hcz13_0
    try clear hcz13_1
    try clear hcz13_2
    try clear hcz13_3
    try clear hcz8_0
    try clear hcz8_1
    try clear hcz8_2
    try clear hcz8_3
    try clear hfz11_0
    try clear hfz11_1
    try clear hfz11_2
    try clear hfz11_3
    try clear hfz13_0
    try clear hfz13_1
    try clear hfz13_2
    try clear hfz13_3
    try clear hfz8_0
    try clear hfz8_1
    try clear hfz8_2
    try clear hfz8_3
    obtain ⟨kq, x23_2, rfl, HA, HJ2, BK453, HB⟩ := hcut
    cases kq with
    | zero => exact absurd HA.out (by simp [impl_harvested.j0])
    | succ kj2 =>
      have H := HA.out
      clear HA
      simp only [impl_harvested.j0] at H
      by_cases c15 : x23_2 = true
      · subst c15
        have H1 : (some (([] : List Int), 0, false)) = some (r1, r2, r3) := by rw [if_pos rfl] at H; exact H
        clear H
        have H := H1
        clear H1
        simp only [Option.some.injEq, Prod.mk.injEq] at H
        obtain ⟨rfl, rfl, rfl⟩ := H
        go_wp2
        go_ret3
        exact ⟨_, by first | rfl | (simp [errW_none, errW_some] <;> rfl) | (simp [*, errW_none, errW_some] <;> rfl) | (simp [*, errW_none, errW_some, i64_w]; done), by first | exact Kd.R_nil _ _ _ _ _ | exact Kd.N_nil _ _ _ _ _ | exact Kd.V_nil _ _ _ _ _ | exact Kd.Q_nil _ _ _ _ _ | exact Kd.S_nil _ _ _ _ _, by repeat (first | (with_reducible first | exact HB.out | apply below_alloc | apply pw_below_drewN | apply below_drew1 | refine below_set ?_ GE453.out) | exact HB.out)⟩
      · replace c15 := Bool.eq_false_iff.mpr c15
        subst c15
        have H1 : (impl_harvested.l0 kj2 (([] : List Int)) 0 l1 (l1.length : Int) 0 a0_0 a0_1 a0_2 a0_3) = some (r1, r2, r3) := by rw [if_neg (show ¬ (false = true) by decide)] at H; exact H
        clear H
        have H := H1
        clear H1
        obtain ⟨y456, hy456⟩ : ∃ y_ : List Int, y_ = (([] : List Int)) := ⟨_, rfl⟩
        replace H : (impl_harvested.l0 kj2 y456 0 l1 (l1.length : Int) 0 a0_0 a0_1 a0_2 a0_3) = some (r1, r2, r3) := by first | (rw [hy456]; with_reducible exact H) | (have H2_ := (Option.bind_some _ _).symm.trans H; rw [hy456]; with_reducible exact H2_) | (have H2_ := (Option.bind_some _ _).symm.trans H; with_reducible exact H2_) | with_reducible exact H | (rw [hy456]; exact H) | exact H
        have Ny456 := Aside0.mk hy456
        clear hy456
        have H' := Aside0.mk H
        clear H
        go_wp2_with (first | ((with_reducible refine gate_dst (N := 24) rfl ?_); (try (refine gate_guard (by rfl) ?_; dsimp only)); refine Kd.R_lit (Kd.int .i64) _ 3 ?hg (N := 24) ?hd (xs := ([] : List Int)) (inner := []) (ok := fun _ => True) (okp := fun _ => True) ?hr ?hp (fun _ hk => hk) trivial (Below.refl _ _) (Nat.le_refl _) (by simp) ?_; (case hd => rfl); (case hg => rfl); (case hr => first | (go_simp; done) | (go_simp; rfl)); (case hp => exact (Reps.none _ _)); intro v457 w16 ho17 hb hg_ hnew_; clear hg_ hnew_; (first | rw [← Ny456.out] at ho17 | (simp only [Int.reduceToNat] at ho17; rw [← Ny456.out] at ho17)); have n0_ := Aside0.mk (Kd.R_lower ho17 (below_size (by repeat (first | (with_reducible first | exact HB.out | apply below_alloc | apply pw_below_drewN | apply below_drew1 | refine below_set ?_ GE453.out) | exact HB.out)))); have n1_ := Aside0.mk (blk_below (g := gb453) (o := .cells #[.int .i64 a0_0, .int .i64 a0_1, .int .i64 a0_2, .int .i64 a0_3] 35 (0, 0)) (by (with_reducible repeat (first | refine blk_drewN ?_ _ | refine blk_drew ?_ | refine blk_alloc ?_ _)); exact BK453.out) hb); have n2_ := Aside0.mk (below_step (by repeat (first | (with_reducible first | exact HB.out | apply below_alloc | apply pw_below_drewN | apply below_drew1 | refine below_set ?_ GE453.out) | exact HB.out)) hb); clear BK453; clear HB; have HO458 := n0_; have BK453 := n1_; have HB := n2_; clear n0_ n1_ n2_; clear hb ho17))
        go_loopg [7, 8, 27] kj2 (fun kq v7 v8 v27 w' => ∃ (x7_2 : List Int) (x8_2 : Int) (x27_2 : Int) (x454000_2 : Int) (x454001_2 : Int) (x454002_2 : Int) (x454003_2 : Int), v8 = .int .i64 x8_2 ∧ v27 = .int .i64 x27_2 ∧ Aside0 (impl_harvested.l0 kq x7_2 x8_2 l1 (l1.length : Int) x27_2 x454000_2 x454001_2 x454002_2 x454003_2 = some (r1, r2, r3)) ∧ Aside0 (kq ≤ kj2) ∧ Aside0 (Kd.R (Kd.int .i64) 3 w' w.heap.size (fun _ => True) v7 x7_2) ∧ Aside0 (w'.heap[gb453]? = some (.cells #[.int .i64 x454000_2, .int .i64 x454001_2, .int .i64 x454002_2, .int .i64 x454003_2] 35 (0, 0))) ∧ Aside0 (Below w.heap.size w w'))
        case atStart => exact ⟨(y456), (0), (0), (a0_0), (a0_1), (a0_2), (a0_3), (by first | rfl | (simp; done) | (simp [*]; done)), (by first | rfl | (simp; done) | (simp [*]; done)), H', ⟨Nat.le_refl _⟩, ⟨by (with_reducible repeat (first | apply Kd.R_alloc | apply Kd.R_drewN | apply Kd.R_drew)); exact HO458.out⟩, ⟨by (with_reducible repeat (first | refine blk_drewN ?_ _ | refine blk_drew ?_ | refine blk_alloc ?_ _)); exact BK453.out⟩, ⟨by repeat (first | (with_reducible first | exact HB.out | apply below_alloc | apply pw_below_drewN | apply below_drew1 | refine below_set ?_ GE453.out) | exact HB.out)⟩⟩
        case round =>
          clear H'
          try clear c1
          try clear p2
          try clear c5
          try clear c6
          try clear c7
          try clear c7b0
          try clear c7b1
          try clear c15
          try clear hcz11_0
          try clear hcz11_1
          try clear hcz11_2
          try clear hcz11_3
          try clear hcz13_0
          try clear hcz13_1
          try clear hcz13_2
          try clear hcz13_3
          try clear hcz8_0
          try clear hcz8_1
          try clear hcz8_2
          try clear hcz8_3
          try clear hfz11_0
          try clear hfz11_1
          try clear hfz11_2
          try clear hfz11_3
          try clear hfz13_0
          try clear hfz13_1
          try clear hfz13_2
          try clear hfz13_3
          try clear hfz8_0
          try clear hfz8_1
          try clear hfz8_2
          try clear hfz8_3
          try clear p2
          obtain ⟨x7_2, x8_2, x27_2, x454000_2, x454001_2, x454002_2, x454003_2, rfl, rfl, HA, HK2, HO_7, BK453, HB⟩ := hrel
          cases gk with
          | zero => exact absurd HA.out (by simp [impl_harvested.l0])
          | succ k2 =>
            have H := HA.out
            clear HA
            simp only [impl_harvested.l0] at H
            by_cases c18 : x27_2 < (l1.length : Int)
            · rw [if_pos c18] at H
              have c18b0 : decide (x27_2 < (l1.length : Int)) = true := decide_eq_true c18
              clear c18
              by_cases c19 : 0 ≤ x27_2
              · rw [if_pos c19] at H
                have c19b0 : decide (0 ≤ x27_2) = true := decide_eq_true c19
                clear c19
                by_cases c20 : x27_2 < (l1.length : Int)
                · rw [if_pos c20] at H
                  have c20b0 : decide (x27_2 < (l1.length : Int)) = true := decide_eq_true c20
                  clear c20
                  obtain ⟨ji21, hji21⟩ : ∃ j_ : Int, (mx 0 (wrap64 ((wrap64 ((wrap64 (x454000_2 + (rd l1 x27_2))) - x454003_2)) - x454001_2))) = j_ := ⟨_, rfl⟩
                  replace H : ((impl_Store_tick.f x454000_2 x454001_2 x454002_2 x454003_2 (rd l1 x27_2)).bind fun bt460 => (if bt460.1 ≥ bt460.2.2.1 then (if x7_2.length < 17592186044416 then (impl_harvested.l0 k2 (x7_2 ++ [bt460.1]) (wrap64 (x8_2 + (ji21))) l1 (l1.length : Int) (wrap64 (x27_2 + 1)) 0 bt460.2.1 bt460.2.2.1 bt460.2.2.2) else (none)) else (impl_harvested.l0 k2 x7_2 (wrap64 (x8_2 + (ji21))) l1 (l1.length : Int) (wrap64 (x27_2 + 1)) bt460.1 bt460.2.1 bt460.2.2.1 bt460.2.2.2))) = some (r1, r2, r3) := by first | (rw [hji21] at H; exact H) | (simp only [hji21] at H ⊢; exact H)
                  have hji21_ : (if 0 < (wrap64 ((wrap64 ((wrap64 (x454000_2 + (rd l1 x27_2))) - x454003_2)) - x454001_2)) then (wrap64 ((wrap64 ((wrap64 (x454000_2 + (rd l1 x27_2))) - x454003_2)) - x454001_2)) else 0) = ji21 := hji21
                  replace H := Option.bind_eq_some_iff.mp H
                  obtain ⟨⟨t460, t461, t462, t463⟩, A220, H⟩ := H
                  replace H : (if t460 ≥ t462 then (if x7_2.length < 17592186044416 then (impl_harvested.l0 k2 (x7_2 ++ [t460]) (wrap64 (x8_2 + (ji21))) l1 (l1.length : Int) (wrap64 (x27_2 + 1)) 0 t461 t462 t463) else (none)) else (impl_harvested.l0 k2 x7_2 (wrap64 (x8_2 + (ji21))) l1 (l1.length : Int) (wrap64 (x27_2 + 1)) t460 t461 t462 t463)) = some (r1, r2, r3) := H
                  have A22 := Aside0.mk A220
                  clear A220
                  by_cases c23 : t460 ≥ t462
                  · rw [if_pos c23] at H
                    have c23b0 : decide (t462 ≤ t460) = true := decide_eq_true c23
                    clear c23
                    by_cases c24 : x7_2.length < 17592186044416
                    · rw [if_pos c24] at H
                      have LMc24 := Aside0.mk c24
                      clear c24
                      obtain ⟨y464, hy464⟩ : ∃ y_ : List Int, y_ = (x7_2 ++ [t460]) := ⟨_, rfl⟩
                      replace H : (impl_harvested.l0 k2 y464 (wrap64 (x8_2 + (ji21))) l1 (l1.length : Int) (wrap64 (x27_2 + 1)) 0 t461 t462 t463) = some (r1, r2, r3) := by first | (rw [hy464]; with_reducible exact H) | (have H2_ := (Option.bind_some _ _).symm.trans H; rw [hy464]; with_reducible exact H2_) | (have H2_ := (Option.bind_some _ _).symm.trans H; with_reducible exact H2_) | with_reducible exact H | (rw [hy464]; exact H) | exact H
                      have Ny464 := Aside0.mk hy464
                      clear hy464
                      have H' := Aside0.mk H
                      clear H
                      have p459 : 0 ≤ (x27_2 : Int) := of_decide_eq_true (by first | (with_reducible assumption) | assumption)
                      have q459 : x27_2 < (l1.length : Int) := of_decide_eq_true (by first | (with_reducible assumption) | assumption)
                      obtain ⟨ad459, e459, hx459_0⟩ := Kd.at_int HR1.out x27_2 p459 q459
                      cases e459
                      replace hx459_0 := (HB.out.cell (World.block_lt_of_cell? w _ hx459_0)).trans hx459_0
                      replace p459 := eq_true p459
                      replace q459 := eq_true q459
                      have hcz25_0 : wr.cell? ⟨gb453, 0, none⟩ = some (.int .i64 x454000_2) := (blk_cell BK453.out 0).trans rfl
                      have hcz25_1 : wr.cell? ⟨gb453, 1, none⟩ = some (.int .i64 x454001_2) := (blk_cell BK453.out 1).trans rfl
                      have hcz25_2 : wr.cell? ⟨gb453, 2, none⟩ = some (.int .i64 x454002_2) := (blk_cell BK453.out 2).trans rfl
                      have hcz25_3 : wr.cell? ⟨gb453, 3, none⟩ = some (.int .i64 x454003_2) := (blk_cell BK453.out 3).trans rfl
                      have hfz25_0 := blk_frozen BK453.out 0
                      have hfz25_1 := blk_frozen BK453.out 1
                      have hfz25_2 := blk_frozen BK453.out 2
                      have hfz25_3 := blk_frozen BK453.out 3
                      go_wp2_with (first | (have HI453 := Aside0.mk (show IsS35 w wr gb453 x454000_2 x454001_2 x454002_2 x454003_2 from ⟨BK453.out, GE453.out⟩); go_at_call 61; (with_reducible refine (impl_Store_tick.calls gb453 x454000_2 x454001_2 x454002_2 x454003_2 (rd l1 x27_2) t460 t461 t462 t463 w _ ?side1 ?side2 A22.out).mono ?_); (case side1 => repeat (first | (with_reducible first | exact HI453.out | apply IsS35.alloc | apply IsS35.drewN | apply IsS35.drew | apply IsS35.set_0 | apply IsS35.set_1 | apply IsS35.set_2 | apply IsS35.set_3) | exact HI453.out)); (case side2 => repeat (first | (with_reducible first | exact HB.out | apply below_alloc | apply pw_below_drewN | apply below_drew1 | refine below_set ?_ (IsS35.ge HI453.out)) | exact HB.out)); rintro e w26 ⟨rfl, hi, hb, hk⟩; have n0_ := Aside0.mk (Kd.R_mono (Kd.R_keep (IsS35.apart (show IsS35 w _ gb453 x454000_2 x454001_2 x454002_2 x454003_2 from by repeat (first | (with_reducible first | exact HI453.out | apply IsS35.alloc | apply IsS35.drewN | apply IsS35.drew | apply IsS35.set_0 | apply IsS35.set_1 | apply IsS35.set_2 | apply IsS35.set_3) | exact HI453.out)) (by (with_reducible repeat (first | apply Kd.R_alloc | apply Kd.R_drewN | apply Kd.R_drew)); exact HO_7.out) (by decide)) hk (fun _ h => h.2)) (fun _ h => h.1)); have n1_ := Aside0.mk (hb); have n2_ := Aside0.mk (hi.1); clear HO_7; clear HB; clear BK453; have HO_7 := n0_; have HB := n1_; have BK453 := n2_; clear n0_ n1_ n2_; (try clear hb); (try clear hb2); (try clear hk); (try clear hi); (try clear HI453); have hcz27_0 : w26.cell? ⟨gb453, 0, none⟩ = some (.int .i64 t460) := (blk_cell BK453.out 0).trans rfl; have hcz27_1 : w26.cell? ⟨gb453, 1, none⟩ = some (.int .i64 t461) := (blk_cell BK453.out 1).trans rfl; have hcz27_2 : w26.cell? ⟨gb453, 2, none⟩ = some (.int .i64 t462) := (blk_cell BK453.out 2).trans rfl; have hcz27_3 : w26.cell? ⟨gb453, 3, none⟩ = some (.int .i64 t463) := (blk_cell BK453.out 3).trans rfl; have hfz27_0 := blk_frozen BK453.out 0; have hfz27_1 := blk_frozen BK453.out 1; have hfz27_2 := blk_frozen BK453.out 2; have hfz27_3 := blk_frozen BK453.out 3) | ((with_reducible refine gate_builtin (b := .append) (xs := #[.tmp 51, .tmp 54]) rfl ?_); (try (refine gate_guard (by rfl) ?_; dsimp only)); at_builtin; refine Kd.R_append (Kd.int .i64) (w0 := w) w.heap.size rfl (.tmp 51) (.tmp 54) 22 3 (.int .i64 0) 8 rfl Try.underlying22 info3 rfl (by decide) (by omega) u7 x7_2 t460 [.int .i64 t460] (fun _ => True) (fun _ => False) rfl rfl ?aP (fun _ hk => hk.elim) ?aF ?aO ?aB ?aS ?aL ?_; (case aP => exact rfl); (case aB => exact (by repeat (first | (with_reducible first | exact HB.out | apply below_alloc | apply pw_below_drewN | apply below_drew1 | refine below_set ?_ GE453.out) | exact HB.out))); (case aF => exact (fun _ _ => trivial)); (case aO => exact (by (with_reducible repeat (first | apply Kd.R_alloc | apply Kd.R_drewN | apply Kd.R_drew)); exact HO_7.out)); (case aS => exact (below_size (by repeat (first | (with_reducible first | exact HB.out | apply below_alloc | apply pw_below_drewN | apply below_drew1 | refine below_set ?_ GE453.out) | exact HB.out)))); (case aL => have := LMc24.out; omega); intro v465 w28 ho hb hg hat; rw [← Ny464.out] at ho; have n0_ := Aside0.mk (blk_grown (g := gb453) (o := .cells #[.int .i64 t460, .int .i64 t461, .int .i64 t462, .int .i64 t463] 35 (0, 0)) (by (with_reducible repeat (first | refine blk_drewN ?_ _ | refine blk_drew ?_ | refine blk_alloc ?_ _)); exact BK453.out) hg (Kd.R_ne HO_7.out BK453.out (by decide))); have n1_ := Aside0.mk (hb); have n2_ := Aside0.mk (ho); clear BK453; clear HB; clear HO_7; have BK453 := n0_; have HB := n1_; have HO466 := n2_; clear n0_ n1_ n2_; clear ho hb hg hat; have hcz29_0 : w28.cell? ⟨gb453, 0, none⟩ = some (.int .i64 t460) := (blk_cell BK453.out 0).trans rfl; have hcz29_1 : w28.cell? ⟨gb453, 1, none⟩ = some (.int .i64 t461) := (blk_cell BK453.out 1).trans rfl; have hcz29_2 : w28.cell? ⟨gb453, 2, none⟩ = some (.int .i64 t462) := (blk_cell BK453.out 2).trans rfl; have hcz29_3 : w28.cell? ⟨gb453, 3, none⟩ = some (.int .i64 t463) := (blk_cell BK453.out 3).trans rfl; have hfz29_0 := blk_frozen BK453.out 0; have hfz29_1 := blk_frozen BK453.out 1; have hfz29_2 := blk_frozen BK453.out 2; have hfz29_3 := blk_frozen BK453.out 3))
                      go_roundg k2
                      case measure => have := HJ2.out; have := HK2.out; omega
                      case rel => exact ⟨(y464), (wrap64 (x8_2 + (ji21))), (wrap64 (x27_2 + 1)), (0), (t461), (t462), (t463), (by first | rfl | (simp; done) | (simp only [← hji21] <;> (first | rfl | simp)) | (simp [*]; done)), (by first | rfl | (simp; done) | (simp [*]; done)), H', ⟨by have := HJ2.out; have := HK2.out; omega⟩, ⟨by (with_reducible repeat (first | apply Kd.R_alloc | apply Kd.R_drewN | apply Kd.R_drew)); exact Kd.R_mono (Kd.R_far (p := ⟨gb453, 0, none⟩) (Kd.R_types HO466.out BK453.out (by decide)) (fun _ hk => hk.2) (.int .i64 0)) (fun _ hk => trivial)⟩, ⟨by (with_reducible repeat (first | refine blk_drewN ?_ _ | refine blk_drew ?_ | refine blk_alloc ?_ _)); refine blk_put (cs := #[.int .i64 t460, .int .i64 t461, .int .i64 t462, .int .i64 t463]) ?_ 0 _ rfl; (with_reducible repeat (first | refine blk_drewN ?_ _ | refine blk_drew ?_ | refine blk_alloc ?_ _)); exact BK453.out⟩, ⟨by repeat (first | (with_reducible first | exact HB.out | apply below_alloc | apply pw_below_drewN | apply below_drew1 | refine below_set ?_ GE453.out) | exact HB.out)⟩⟩
                    · rw [if_neg c24] at H
                      exact absurd H (by simp)
                  · rw [if_neg c23] at H
                    have c23b0 : decide (t462 ≤ t460) = false := decide_eq_false c23
                    clear c23
                    have H' := Aside0.mk H
                    clear H
                    have p459 : 0 ≤ (x27_2 : Int) := of_decide_eq_true (by first | (with_reducible assumption) | assumption)
                    have q459 : x27_2 < (l1.length : Int) := of_decide_eq_true (by first | (with_reducible assumption) | assumption)
                    obtain ⟨ad459, e459, hx459_0⟩ := Kd.at_int HR1.out x27_2 p459 q459
                    cases e459
                    replace hx459_0 := (HB.out.cell (World.block_lt_of_cell? w _ hx459_0)).trans hx459_0
                    replace p459 := eq_true p459
                    replace q459 := eq_true q459
                    have hcz30_0 : wr.cell? ⟨gb453, 0, none⟩ = some (.int .i64 x454000_2) := (blk_cell BK453.out 0).trans rfl
                    have hcz30_1 : wr.cell? ⟨gb453, 1, none⟩ = some (.int .i64 x454001_2) := (blk_cell BK453.out 1).trans rfl
                    have hcz30_2 : wr.cell? ⟨gb453, 2, none⟩ = some (.int .i64 x454002_2) := (blk_cell BK453.out 2).trans rfl
                    have hcz30_3 : wr.cell? ⟨gb453, 3, none⟩ = some (.int .i64 x454003_2) := (blk_cell BK453.out 3).trans rfl
                    have hfz30_0 := blk_frozen BK453.out 0
                    have hfz30_1 := blk_frozen BK453.out 1
                    have hfz30_2 := blk_frozen BK453.out 2
                    have hfz30_3 := blk_frozen BK453.out 3
                    go_wp2_with (first | (have HI453 := Aside0.mk (show IsS35 w wr gb453 x454000_2 x454001_2 x454002_2 x454003_2 from ⟨BK453.out, GE453.out⟩); go_at_call 61; (with_reducible refine (impl_Store_tick.calls gb453 x454000_2 x454001_2 x454002_2 x454003_2 (rd l1 x27_2) t460 t461 t462 t463 w _ ?side1 ?side2 A22.out).mono ?_); (case side1 => repeat (first | (with_reducible first | exact HI453.out | apply IsS35.alloc | apply IsS35.drewN | apply IsS35.drew | apply IsS35.set_0 | apply IsS35.set_1 | apply IsS35.set_2 | apply IsS35.set_3) | exact HI453.out)); (case side2 => repeat (first | (with_reducible first | exact HB.out | apply below_alloc | apply pw_below_drewN | apply below_drew1 | refine below_set ?_ (IsS35.ge HI453.out)) | exact HB.out)); rintro e w31 ⟨rfl, hi, hb, hk⟩; have n0_ := Aside0.mk (Kd.R_mono (Kd.R_keep (IsS35.apart (show IsS35 w _ gb453 x454000_2 x454001_2 x454002_2 x454003_2 from by repeat (first | (with_reducible first | exact HI453.out | apply IsS35.alloc | apply IsS35.drewN | apply IsS35.drew | apply IsS35.set_0 | apply IsS35.set_1 | apply IsS35.set_2 | apply IsS35.set_3) | exact HI453.out)) (by (with_reducible repeat (first | apply Kd.R_alloc | apply Kd.R_drewN | apply Kd.R_drew)); exact HO_7.out) (by decide)) hk (fun _ h => h.2)) (fun _ h => h.1)); have n1_ := Aside0.mk (hb); have n2_ := Aside0.mk (hi.1); clear HO_7; clear HB; clear BK453; have HO_7 := n0_; have HB := n1_; have BK453 := n2_; clear n0_ n1_ n2_; (try clear hb); (try clear hb2); (try clear hk); (try clear hi); (try clear HI453); have hcz32_0 : w31.cell? ⟨gb453, 0, none⟩ = some (.int .i64 t460) := (blk_cell BK453.out 0).trans rfl; have hcz32_1 : w31.cell? ⟨gb453, 1, none⟩ = some (.int .i64 t461) := (blk_cell BK453.out 1).trans rfl; have hcz32_2 : w31.cell? ⟨gb453, 2, none⟩ = some (.int .i64 t462) := (blk_cell BK453.out 2).trans rfl; have hcz32_3 : w31.cell? ⟨gb453, 3, none⟩ = some (.int .i64 t463) := (blk_cell BK453.out 3).trans rfl; have hfz32_0 := blk_frozen BK453.out 0; have hfz32_1 := blk_frozen BK453.out 1; have hfz32_2 := blk_frozen BK453.out 2; have hfz32_3 := blk_frozen BK453.out 3))
                    go_roundg k2
                    case measure => have := HJ2.out; have := HK2.out; omega
                    case rel => exact ⟨(x7_2), (wrap64 (x8_2 + (ji21))), (wrap64 (x27_2 + 1)), (t460), (t461), (t462), (t463), (by first | rfl | (simp; done) | (simp only [← hji21] <;> (first | rfl | simp)) | (simp [*]; done)), (by first | rfl | (simp; done) | (simp [*]; done)), H', ⟨by have := HJ2.out; have := HK2.out; omega⟩, ⟨by (with_reducible repeat (first | apply Kd.R_alloc | apply Kd.R_drewN | apply Kd.R_drew)); exact HO_7.out⟩, ⟨by (with_reducible repeat (first | refine blk_drewN ?_ _ | refine blk_drew ?_ | refine blk_alloc ?_ _)); exact BK453.out⟩, ⟨by repeat (first | (with_reducible first | exact HB.out | apply below_alloc | apply pw_below_drewN | apply below_drew1 | refine below_set ?_ GE453.out) | exact HB.out)⟩⟩
                · rw [if_neg c20] at H
                  exact absurd H (by simp)
              · rw [if_neg c19] at H
                exact absurd H (by simp)
            · rw [if_neg c18] at H
              have c18b0 : decide (x27_2 < (l1.length : Int)) = false := decide_eq_false c18
              clear c18
              simp only [Option.some.injEq, Prod.mk.injEq] at H
              obtain ⟨rfl, rfl, rfl⟩ := H
              go_wp2
              go_ret3
              exact ⟨_, by first | rfl | (simp [errW_none, errW_some] <;> rfl) | (simp [*, errW_none, errW_some] <;> rfl) | (simp [*, errW_none, errW_some, i64_w]; done), by (with_reducible repeat (first | apply Kd.R_alloc | apply Kd.R_drewN | apply Kd.R_drew)); exact HO_7.out, by repeat (first | (with_reducible first | exact HB.out | apply below_alloc | apply pw_below_drewN | apply below_drew1 | refine below_set ?_ GE453.out) | exact HB.out)⟩

end Go.Proofs.Ytlcgohhcoalahaa.G
