/- Functions of the program as plain Lean functions, and that each call comes to its function's answer; written by a program of the session. No condition. -/
import Derived.Test.YtlcgohhcoalahaaGx0
import Derived.Test.YtlcgohhcoalahaaGx15
import Derived.Test.YtlcgohhcoalahaaGx16
import Derived.Test.YtlcgohhcoalahaaGx17
namespace Go.Proofs.Ytlcgohhcoalahaa.G
open Go.RowKit Go.Proofs.YtlcgohhcoalahaaW.PrintWords Go.Proofs.YtlcgohhcoalahaaW.PrintLast Go.Proofs.YtlcgohhcoalahaaW.PrintMore
attribute [local go_sem] max2_int min2_int max_two min_two max_three min_three max_four min_four   -- for this text's walks alone
set_option linter.unusedVariables false
set_option linter.unusedSimpArgs false

/-! ### impl_TicksToOn: function 22 -/
mutual
def impl_TicksToOn.j0 : Nat → List Int → Bool → Int → Int → Int → Int → Option (Int)
  | 0, _, _, _, _, _, _ => none
  | k + 1, x1, x14, x248000, x248001, x248002, x248003 => if x14 = true then (some (-1)) else (impl_TicksToOn.l0 k x1 x1 (x1.length : Int) 0 x248000 x248001 x248002 x248003)
def impl_TicksToOn.l0 : Nat → List Int → List Int → Int → Int → Int → Int → Int → Int → Option (Int)
  | 0, _, _, _, _, _, _, _, _ => none
  | k + 1, x1, x15, x16, x17, x248000, x248001, x248002, x248003 => if x17 < x16 then (if 0 ≤ x17 then (if x17 < (x15.length : Int) then (if x248000 ≥ x248002 then (some x17) else ((impl_Store_tick.f x248000 x248001 x248002 x248003 (rd x15 x17)).bind fun bt251 => (impl_TicksToOn.l0 k x1 x15 x16 (wrap64 (x17 + 1)) bt251.1 bt251.2.1 bt251.2.2.1 bt251.2.2.2))) else (none)) else (none)) else (if x248000 ≥ x248002 then (some (x1.length : Int)) else (some (-1)))
end
def impl_TicksToOn.f (k : Nat) (a0_0 : Int) (a0_1 : Int) (a0_2 : Int) (a0_3 : Int) (l1 : List Int) : Option (Int) := (impl_StoreOk.f a0_0 a0_1 a0_2 a0_3).bind fun t248 => (if t248 = true then ((impl_areHarvests.f l1).bind fun t249 => (impl_TicksToOn.j0 k l1 (!t249) a0_0 a0_1 a0_2 a0_3)) else (impl_TicksToOn.j0 k l1 true a0_0 a0_1 a0_2 a0_3))
theorem impl_TicksToOn.mono_l : ∀ k, (∀ y0 y1 y2 y3 y4 y5, LeO (impl_TicksToOn.j0 k y0 y1 y2 y3 y4 y5) (impl_TicksToOn.j0 (k + 1) y0 y1 y2 y3 y4 y5)) ∧ (∀ y0 y1 y2 y3 y4 y5 y6 y7, LeO (impl_TicksToOn.l0 k y0 y1 y2 y3 y4 y5 y6 y7) (impl_TicksToOn.l0 (k + 1) y0 y1 y2 y3 y4 y5 y6 y7))
  | 0 => ⟨fun _ _ _ _ _ _ r h => by simp [impl_TicksToOn.j0] at h, fun _ _ _ _ _ _ _ _ r h => by simp [impl_TicksToOn.l0] at h⟩
  | k + 1 => by
    obtain ⟨ih0, ih1⟩ := impl_TicksToOn.mono_l k
    refine ⟨?_, ?_⟩
    · intro y0 y1 y2 y3 y4 y5
      unfold impl_TicksToOn.j0
      repeat' first
      | (with_reducible exact ih0 _ _ _ _ _ _)
      | (with_reducible exact ih1 _ _ _ _ _ _ _ _)
      | (with_reducible exact LeO.refl _)
      | (with_reducible exact LeO.none _)
      | (with_reducible refine LeO.ite ?_ ?_)
      | (with_reducible refine LeO.bind ?_ (fun _ => ?_))
      | exact ih0 _ _ _ _ _ _
      | exact ih1 _ _ _ _ _ _ _ _
      | exact LeO.none _
      | refine LeO.ite ?_ ?_
      | refine LeO.bind ?_ (fun _ => ?_)
    · intro y0 y1 y2 y3 y4 y5 y6 y7
      unfold impl_TicksToOn.l0
      repeat' first
      | (with_reducible exact ih0 _ _ _ _ _ _)
      | (with_reducible exact ih1 _ _ _ _ _ _ _ _)
      | (with_reducible exact LeO.refl _)
      | (with_reducible exact LeO.none _)
      | (with_reducible refine LeO.ite ?_ ?_)
      | (with_reducible refine LeO.bind ?_ (fun _ => ?_))
      | exact ih0 _ _ _ _ _ _
      | exact ih1 _ _ _ _ _ _ _ _
      | exact LeO.none _
      | refine LeO.ite ?_ ?_
      | refine LeO.bind ?_ (fun _ => ?_)
theorem impl_TicksToOn.mono : ∀ a0 a1 a2 a3 a4 k, LeO (impl_TicksToOn.f k a0 a1 a2 a3 a4) (impl_TicksToOn.f (k + 1) a0 a1 a2 a3 a4) := by
  intro a0 a1 a2 a3 a4 k
  obtain ⟨ih0, ih1⟩ := impl_TicksToOn.mono_l k
  unfold impl_TicksToOn.f
  repeat' first
      | (with_reducible exact ih0 _ _ _ _ _ _)
      | (with_reducible exact ih1 _ _ _ _ _ _ _ _)
      | (with_reducible exact LeO.refl _)
      | (with_reducible exact LeO.none _)
      | (with_reducible refine LeO.ite ?_ ?_)
      | (with_reducible refine LeO.bind ?_ (fun _ => ?_))
      | exact ih0 _ _ _ _ _ _
      | exact ih1 _ _ _ _ _ _ _ _
      | exact LeO.none _
      | refine LeO.ite ?_ ?_
      | refine LeO.bind ?_ (fun _ => ?_)
set_option maxHeartbeats 8000000 in
set_option maxRecDepth 100000 in
theorem impl_TicksToOn.calls (k : Nat) (a0_0 : Int) (a0_1 : Int) (a0_2 : Int) (a0_3 : Int) (A1 : Option Addr) (c1 : Nat) (l1 : List Int) (r : Int) (w : World) (hr1 : Kd.C (Kd.int .i64) w A1 l1.length l1) (hc1 : l1.length ≤ c1) (h : impl_TicksToOn.f k a0_0 a0_1 a0_2 a0_3 l1 = some r) :
    Calls Try.prog 22 #[.agg #[.int .i64 a0_0, .int .i64 a0_1, .int .i64 a0_2, .int .i64 a0_3], .slice A1 l1.length c1] w fun e w' => e = .returned (.int .i64 r) ∧ Below w.heap.size w w' := by
  have hu35 := Try.underlying35
  have HR1 := Aside0.mk hr1
  have HC1 := Aside0.mk hc1
  clear hr1 hc1
  have HB := Aside0.mk (Below.refl w.heap.size w)
  have H : ((impl_StoreOk.f a0_0 a0_1 a0_2 a0_3).bind fun t248 => (if t248 = true then ((impl_areHarvests.f l1).bind fun t249 => (impl_TicksToOn.j0 k l1 (!t249) a0_0 a0_1 a0_2 a0_3)) else (impl_TicksToOn.j0 k l1 true a0_0 a0_1 a0_2 a0_3))) = some r := h
  clear h
  have HC3 := Aside0.mk H
  clear H
  go_enter Try.func22, Try.ntmps22
  go_upto_region 1 with (first | ((with_reducible refine gate_dst (N := 2) rfl ?_); refine box_event ?hg (N := 2) ?hd (cs := #[.int .i64 a0_0, .int .i64 a0_1, .int .i64 a0_2, .int .i64 a0_3]) (t := 35) ?hr ?_; (case hd => rfl); (case hg => rfl); (case hr => first | (go_simp; done) | (go_simp; rfl)); intro gb247 hg w4 hbox hb; have n0_ := Aside0.mk (below_step (by repeat (first | (with_reducible first | exact HB.out | apply below_alloc | apply pw_below_drewN | apply below_drew1) | exact HB.out)) hb); have n1_ := Aside0.mk (hbox); have n2_ := Aside0.mk ((by rw [hg]; exact (below_size (by repeat (first | (with_reducible first | exact HB.out | apply below_alloc | apply pw_below_drewN | apply below_drew1) | exact HB.out))) : w.heap.size ≤ gb247)); have n3_ := Aside0.mk ((by rw [hg]; exact (below_size (by repeat (first | (with_reducible first | exact HB.out | apply below_alloc | apply pw_below_drewN | apply below_drew1) | exact HB.out))) : w.heap.size ≤ gb247)); clear HB; have HB := n0_; have BK247 := n1_; have GW247 := n2_; have GE247 := n3_; clear n0_ n1_ n2_ n3_; clear hb hbox hg))
  (try simp only [Act.put, List.setIfInBounds_toArray, List.set_cons_zero, List.set_cons_succ])
  go_cut [14] (fun v14 wc => ∃ (kq : Nat) (x14_2 : Bool), v14 = .bool x14_2 ∧ Aside0 (impl_TicksToOn.j0 kq l1 x14_2 a0_0 a0_1 a0_2 a0_3 = some r) ∧ Aside0 (kq ≤ k) ∧ Aside0 (wc.heap[gb247]? = some (.cells #[.int .i64 a0_0, .int .i64 a0_1, .int .i64 a0_2, .int .i64 a0_3] 35 (0, 0))) ∧ Aside0 (Below w.heap.size w wc))
  case first =>
    have H := HC3.out
    clear HC3
    replace H := Option.bind_eq_some_iff.mp H
    obtain ⟨t248, A50, H⟩ := H
    replace H : (if t248 = true then ((impl_areHarvests.f l1).bind fun t249 => (impl_TicksToOn.j0 k l1 (!t249) a0_0 a0_1 a0_2 a0_3)) else (impl_TicksToOn.j0 k l1 true a0_0 a0_1 a0_2 a0_3)) = some r := H
    have A5 := Aside0.mk A50
    clear A50
    by_cases c6 : t248 = true
    · subst c6
      have H1 : ((impl_areHarvests.f l1).bind fun t249 => (impl_TicksToOn.j0 k l1 (!t249) a0_0 a0_1 a0_2 a0_3)) = some r := by rw [if_pos rfl] at H; exact H
      clear H
      have H := H1
      clear H1
      replace H := Option.bind_eq_some_iff.mp H
      obtain ⟨t249, A70, H⟩ := H
      replace H : (impl_TicksToOn.j0 k l1 (!t249) a0_0 a0_1 a0_2 a0_3) = some r := H
      have A7 := Aside0.mk A70
      clear A70
      have H' := Aside0.mk H
      clear H
      have hcz8_0 : w4.cell? ⟨gb247, 0, none⟩ = some (.int .i64 a0_0) := (blk_cell BK247.out 0).trans rfl
      have hcz8_1 : w4.cell? ⟨gb247, 1, none⟩ = some (.int .i64 a0_1) := (blk_cell BK247.out 1).trans rfl
      have hcz8_2 : w4.cell? ⟨gb247, 2, none⟩ = some (.int .i64 a0_2) := (blk_cell BK247.out 2).trans rfl
      have hcz8_3 : w4.cell? ⟨gb247, 3, none⟩ = some (.int .i64 a0_3) := (blk_cell BK247.out 3).trans rfl
      have hfz8_0 := blk_frozen BK247.out 0
      have hfz8_1 := blk_frozen BK247.out 1
      have hfz8_2 := blk_frozen BK247.out 2
      have hfz8_3 := blk_frozen BK247.out 3
      go_wp2_with (first | ((first | ((with_reducible refine gate_callee (f := 59) rfl ?_); refine goesL_ (some 8) rfl rfl Try.func59 (by kernel_rfl) rfl #[.agg #[.int .i64 a0_0, .int .i64 a0_1, .int .i64 a0_2, .int .i64 a0_3]] rfl (by (try simp only [List.map_toArray, List.map_cons, List.map_nil]); first | done | rfl | (simp only [List.length_drop, List.length_take]; rfl)) ?_; (with_reducible refine (impl_StoreOk.calls a0_0 a0_1 a0_2 a0_3 true _ A5.out).mono ?_)) | (go_at_call 59; (with_reducible refine (impl_StoreOk.calls a0_0 a0_1 a0_2 a0_3 true _ A5.out).mono ?_))); rintro e w9 ⟨rfl, hb⟩; (first | refine ⟨_, rfl, ?_⟩ | skip); have n0_ := Aside0.mk (blk_below (g := gb247) (o := .cells #[.int .i64 a0_0, .int .i64 a0_1, .int .i64 a0_2, .int .i64 a0_3] 35 (0, 0)) (by (with_reducible repeat (first | refine blk_drewN ?_ _ | refine blk_drew ?_ | refine blk_alloc ?_ _)); exact BK247.out) hb); have n1_ := Aside0.mk (below_step (by repeat (first | (with_reducible first | exact HB.out | apply below_alloc | apply pw_below_drewN | apply below_drew1 | refine below_set ?_ GE247.out) | exact HB.out)) hb); clear BK247; clear HB; have BK247 := n0_; have HB := n1_; clear n0_ n1_; (try clear hb); (try clear hb2); (try clear hk); (try clear hi)) | (go_at_call 60; (with_reducible refine (impl_areHarvests.calls _ _ l1 t249 _ ?side1 ?side2 A7.out).mono ?_); (case side1 => repeat (first | exact (Kd.C_below HR1.out HB.out) | (with_reducible refine Kd.C_alloc ?_ _) | (with_reducible refine Kd.C_drewN ?_ _) | (with_reducible refine Kd.C_drew ?_))); (case side2 => exact HC1.out); rintro e w' ⟨rfl, ⟨nd, rfl⟩⟩))
      go_meet
      case rel => exact ⟨_, (!t249), (by first | rfl | (simp; done) | (simp [*]; done)), H', ⟨by first | omega | exact Nat.le_refl _⟩, ⟨by (with_reducible repeat (first | refine blk_drewN ?_ _ | refine blk_drew ?_ | refine blk_alloc ?_ _)); exact BK247.out⟩, ⟨by repeat (first | (with_reducible first | exact HB.out | apply below_alloc | apply pw_below_drewN | apply below_drew1 | refine below_set ?_ GE247.out) | exact HB.out)⟩⟩
    · replace c6 := Bool.eq_false_iff.mpr c6
      subst c6
      have H1 : (impl_TicksToOn.j0 k l1 true a0_0 a0_1 a0_2 a0_3) = some r := by rw [if_neg (show ¬ (false = true) by decide)] at H; exact H
      clear H
      have H := H1
      clear H1
      have H' := Aside0.mk H
      clear H
      have hcz10_0 : w4.cell? ⟨gb247, 0, none⟩ = some (.int .i64 a0_0) := (blk_cell BK247.out 0).trans rfl
      have hcz10_1 : w4.cell? ⟨gb247, 1, none⟩ = some (.int .i64 a0_1) := (blk_cell BK247.out 1).trans rfl
      have hcz10_2 : w4.cell? ⟨gb247, 2, none⟩ = some (.int .i64 a0_2) := (blk_cell BK247.out 2).trans rfl
      have hcz10_3 : w4.cell? ⟨gb247, 3, none⟩ = some (.int .i64 a0_3) := (blk_cell BK247.out 3).trans rfl
      have hfz10_0 := blk_frozen BK247.out 0
      have hfz10_1 := blk_frozen BK247.out 1
      have hfz10_2 := blk_frozen BK247.out 2
      have hfz10_3 := blk_frozen BK247.out 3
      go_wp2_with (first | ((first | ((with_reducible refine gate_callee (f := 59) rfl ?_); refine goesL_ (some 8) rfl rfl Try.func59 (by kernel_rfl) rfl #[.agg #[.int .i64 a0_0, .int .i64 a0_1, .int .i64 a0_2, .int .i64 a0_3]] rfl (by (try simp only [List.map_toArray, List.map_cons, List.map_nil]); first | done | rfl | (simp only [List.length_drop, List.length_take]; rfl)) ?_; (with_reducible refine (impl_StoreOk.calls a0_0 a0_1 a0_2 a0_3 false _ A5.out).mono ?_)) | (go_at_call 59; (with_reducible refine (impl_StoreOk.calls a0_0 a0_1 a0_2 a0_3 false _ A5.out).mono ?_))); rintro e w11 ⟨rfl, hb⟩; (first | refine ⟨_, rfl, ?_⟩ | skip); have n0_ := Aside0.mk (blk_below (g := gb247) (o := .cells #[.int .i64 a0_0, .int .i64 a0_1, .int .i64 a0_2, .int .i64 a0_3] 35 (0, 0)) (by (with_reducible repeat (first | refine blk_drewN ?_ _ | refine blk_drew ?_ | refine blk_alloc ?_ _)); exact BK247.out) hb); have n1_ := Aside0.mk (below_step (by repeat (first | (with_reducible first | exact HB.out | apply below_alloc | apply pw_below_drewN | apply below_drew1 | refine below_set ?_ GE247.out) | exact HB.out)) hb); clear BK247; clear HB; have BK247 := n0_; have HB := n1_; clear n0_ n1_; (try clear hb); (try clear hb2); (try clear hk); (try clear hi)))
      go_meet
      case rel => exact ⟨_, (true), (by first | rfl | (simp; done) | (simp [*]; done)), H', ⟨by first | omega | exact Nat.le_refl _⟩, ⟨by (with_reducible repeat (first | refine blk_drewN ?_ _ | refine blk_drew ?_ | refine blk_alloc ?_ _)); exact BK247.out⟩, ⟨by repeat (first | (with_reducible first | exact HB.out | apply below_alloc | apply pw_below_drewN | apply below_drew1 | refine below_set ?_ GE247.out) | exact HB.out)⟩⟩
  case rest =>
    clear HC3
    try clear c1
    try clear c2
    try clear p2
    try clear c5
    try clear c6
    try clear hcz10_0
    try clear hcz10_1
    try clear hcz10_2
    try clear hcz10_3
    try clear hcz8_0
    try clear hcz8_1
    try clear hcz8_2
    try clear hcz8_3
    try clear hfz10_0
    try clear hfz10_1
    try clear hfz10_2
    try clear hfz10_3
    try clear hfz8_0
    try clear hfz8_1
    try clear hfz8_2
    try clear hfz8_3
    obtain ⟨kq, x14_2, rfl, HA, HJ2, BK247, HB⟩ := hcut
    cases kq with
    | zero => exact absurd HA.out (by simp [impl_TicksToOn.j0])
    | succ kj2 =>
      have H := HA.out
      clear HA
      simp only [impl_TicksToOn.j0] at H
      by_cases c12 : x14_2 = true
      · subst c12
        have H1 : (some (-1)) = some r := by rw [if_pos rfl] at H; exact H
        clear H
        have H := H1
        clear H1
        obtain rfl := Option.some.inj H
        go_wp2
        go_ret
        exact ⟨by first | rfl | (simp [errW_none, errW_some] <;> rfl) | (simp [*, errW_none, errW_some] <;> rfl) | (simp [*, errW_none, errW_some, i64_w]; done), by repeat (first | (with_reducible first | exact HB.out | apply below_alloc | apply pw_below_drewN | apply below_drew1 | refine below_set ?_ GE247.out) | exact HB.out)⟩
      · replace c12 := Bool.eq_false_iff.mpr c12
        subst c12
        have H1 : (impl_TicksToOn.l0 kj2 l1 l1 (l1.length : Int) 0 a0_0 a0_1 a0_2 a0_3) = some r := by rw [if_neg (show ¬ (false = true) by decide)] at H; exact H
        clear H
        have H := H1
        clear H1
        have H' := Aside0.mk H
        clear H
        go_wp2
        go_loopg [17] kj2 (fun kq v17 w' => ∃ (x17_2 : Int) (x248000_2 : Int) (x248001_2 : Int) (x248002_2 : Int) (x248003_2 : Int), v17 = .int .i64 x17_2 ∧ Aside0 (impl_TicksToOn.l0 kq l1 l1 (l1.length : Int) x17_2 x248000_2 x248001_2 x248002_2 x248003_2 = some r) ∧ Aside0 (kq ≤ kj2) ∧ Aside0 (w'.heap[gb247]? = some (.cells #[.int .i64 x248000_2, .int .i64 x248001_2, .int .i64 x248002_2, .int .i64 x248003_2] 35 (0, 0))) ∧ Aside0 (Below w.heap.size w w'))
        case atStart => exact ⟨(0), (a0_0), (a0_1), (a0_2), (a0_3), (by first | rfl | (simp; done) | (simp [*]; done)), H', ⟨Nat.le_refl _⟩, ⟨by (with_reducible repeat (first | refine blk_drewN ?_ _ | refine blk_drew ?_ | refine blk_alloc ?_ _)); exact BK247.out⟩, ⟨by repeat (first | (with_reducible first | exact HB.out | apply below_alloc | apply pw_below_drewN | apply below_drew1 | refine below_set ?_ GE247.out) | exact HB.out)⟩⟩
        case round =>
          clear H'
          try clear c1
          try clear c2
          try clear p2
          try clear c5
          try clear c6
          try clear c12
          try clear hcz10_0
          try clear hcz10_1
          try clear hcz10_2
          try clear hcz10_3
          try clear hcz8_0
          try clear hcz8_1
          try clear hcz8_2
          try clear hcz8_3
          try clear hfz10_0
          try clear hfz10_1
          try clear hfz10_2
          try clear hfz10_3
          try clear hfz8_0
          try clear hfz8_1
          try clear hfz8_2
          try clear hfz8_3
          try clear p2
          obtain ⟨x17_2, x248000_2, x248001_2, x248002_2, x248003_2, rfl, HA, HK2, BK247, HB⟩ := hrel
          cases gk with
          | zero => exact absurd HA.out (by simp [impl_TicksToOn.l0])
          | succ k2 =>
            have H := HA.out
            clear HA
            simp only [impl_TicksToOn.l0] at H
            by_cases c13 : x17_2 < (l1.length : Int)
            · rw [if_pos c13] at H
              have c13b0 : decide (x17_2 < (l1.length : Int)) = true := decide_eq_true c13
              clear c13
              by_cases c14 : 0 ≤ x17_2
              · rw [if_pos c14] at H
                have c14b0 : decide (0 ≤ x17_2) = true := decide_eq_true c14
                clear c14
                by_cases c15 : x17_2 < (l1.length : Int)
                · rw [if_pos c15] at H
                  have c15b0 : decide (x17_2 < (l1.length : Int)) = true := decide_eq_true c15
                  clear c15
                  by_cases c16 : x248000_2 ≥ x248002_2
                  · rw [if_pos c16] at H
                    have c16b0 : decide (x248002_2 ≤ x248000_2) = true := decide_eq_true c16
                    clear c16
                    obtain rfl := Option.some.inj H
                    have p250 : 0 ≤ (x17_2 : Int) := of_decide_eq_true (by first | (with_reducible assumption) | assumption)
                    have q250 : x17_2 < (l1.length : Int) := of_decide_eq_true (by first | (with_reducible assumption) | assumption)
                    obtain ⟨ad250, e250, hx250_0⟩ := Kd.at_int HR1.out x17_2 p250 q250
                    cases e250
                    replace hx250_0 := (HB.out.cell (World.block_lt_of_cell? w _ hx250_0)).trans hx250_0
                    replace p250 := eq_true p250
                    replace q250 := eq_true q250
                    have hcz17_0 : wr.cell? ⟨gb247, 0, none⟩ = some (.int .i64 x248000_2) := (blk_cell BK247.out 0).trans rfl
                    have hcz17_1 : wr.cell? ⟨gb247, 1, none⟩ = some (.int .i64 x248001_2) := (blk_cell BK247.out 1).trans rfl
                    have hcz17_2 : wr.cell? ⟨gb247, 2, none⟩ = some (.int .i64 x248002_2) := (blk_cell BK247.out 2).trans rfl
                    have hcz17_3 : wr.cell? ⟨gb247, 3, none⟩ = some (.int .i64 x248003_2) := (blk_cell BK247.out 3).trans rfl
                    have hfz17_0 := blk_frozen BK247.out 0
                    have hfz17_1 := blk_frozen BK247.out 1
                    have hfz17_2 := blk_frozen BK247.out 2
                    have hfz17_3 := blk_frozen BK247.out 3
                    go_wp2
                    go_ret
                    exact ⟨by first | rfl | (simp [errW_none, errW_some] <;> rfl) | (simp [*, errW_none, errW_some] <;> rfl) | (simp [*, errW_none, errW_some, i64_w]; done), by repeat (first | (with_reducible first | exact HB.out | apply below_alloc | apply pw_below_drewN | apply below_drew1 | refine below_set ?_ GE247.out) | exact HB.out)⟩
                  · rw [if_neg c16] at H
                    have c16b0 : decide (x248002_2 ≤ x248000_2) = false := decide_eq_false c16
                    clear c16
                    replace H := Option.bind_eq_some_iff.mp H
                    obtain ⟨⟨t251, t252, t253, t254⟩, A180, H⟩ := H
                    replace H : (impl_TicksToOn.l0 k2 l1 l1 (l1.length : Int) (wrap64 (x17_2 + 1)) t251 t252 t253 t254) = some r := H
                    have A18 := Aside0.mk A180
                    clear A180
                    have H' := Aside0.mk H
                    clear H
                    have p250 : 0 ≤ (x17_2 : Int) := of_decide_eq_true (by first | (with_reducible assumption) | assumption)
                    have q250 : x17_2 < (l1.length : Int) := of_decide_eq_true (by first | (with_reducible assumption) | assumption)
                    obtain ⟨ad250, e250, hx250_0⟩ := Kd.at_int HR1.out x17_2 p250 q250
                    cases e250
                    replace hx250_0 := (HB.out.cell (World.block_lt_of_cell? w _ hx250_0)).trans hx250_0
                    replace p250 := eq_true p250
                    replace q250 := eq_true q250
                    have hcz19_0 : wr.cell? ⟨gb247, 0, none⟩ = some (.int .i64 x248000_2) := (blk_cell BK247.out 0).trans rfl
                    have hcz19_1 : wr.cell? ⟨gb247, 1, none⟩ = some (.int .i64 x248001_2) := (blk_cell BK247.out 1).trans rfl
                    have hcz19_2 : wr.cell? ⟨gb247, 2, none⟩ = some (.int .i64 x248002_2) := (blk_cell BK247.out 2).trans rfl
                    have hcz19_3 : wr.cell? ⟨gb247, 3, none⟩ = some (.int .i64 x248003_2) := (blk_cell BK247.out 3).trans rfl
                    have hfz19_0 := blk_frozen BK247.out 0
                    have hfz19_1 := blk_frozen BK247.out 1
                    have hfz19_2 := blk_frozen BK247.out 2
                    have hfz19_3 := blk_frozen BK247.out 3
                    go_wp2_with (first | (have HI247 := Aside0.mk (show IsS35 w wr gb247 x248000_2 x248001_2 x248002_2 x248003_2 from ⟨BK247.out, GE247.out⟩); go_at_call 61; (with_reducible refine (impl_Store_tick.calls gb247 x248000_2 x248001_2 x248002_2 x248003_2 (rd l1 x17_2) t251 t252 t253 t254 w _ ?side1 ?side2 A18.out).mono ?_); (case side1 => repeat (first | (with_reducible first | exact HI247.out | apply IsS35.alloc | apply IsS35.drewN | apply IsS35.drew | apply IsS35.set_0 | apply IsS35.set_1 | apply IsS35.set_2 | apply IsS35.set_3) | exact HI247.out)); (case side2 => repeat (first | (with_reducible first | exact HB.out | apply below_alloc | apply pw_below_drewN | apply below_drew1 | refine below_set ?_ (IsS35.ge HI247.out)) | exact HB.out)); rintro e w20 ⟨rfl, hi, hb, hk⟩; have n0_ := Aside0.mk (hb); have n1_ := Aside0.mk (hi.1); clear HB; clear BK247; have HB := n0_; have BK247 := n1_; clear n0_ n1_; (try clear hb); (try clear hb2); (try clear hk); (try clear hi); (try clear HI247)))
                    go_roundg k2
                    case measure => have := HJ2.out; have := HK2.out; omega
                    case rel => exact ⟨(wrap64 (x17_2 + 1)), (t251), (t252), (t253), (t254), (by first | rfl | (simp; done) | (simp [*]; done)), H', ⟨by have := HJ2.out; have := HK2.out; omega⟩, ⟨by (with_reducible repeat (first | refine blk_drewN ?_ _ | refine blk_drew ?_ | refine blk_alloc ?_ _)); exact BK247.out⟩, ⟨by repeat (first | (with_reducible first | exact HB.out | apply below_alloc | apply pw_below_drewN | apply below_drew1 | refine below_set ?_ GE247.out) | exact HB.out)⟩⟩
                · rw [if_neg c15] at H
                  exact absurd H (by simp)
              · rw [if_neg c14] at H
                exact absurd H (by simp)
            · rw [if_neg c13] at H
              have c13b0 : decide (x17_2 < (l1.length : Int)) = false := decide_eq_false c13
              clear c13
              by_cases c21 : x248000_2 ≥ x248002_2
              · rw [if_pos c21] at H
                have c21b0 : decide (x248002_2 ≤ x248000_2) = true := decide_eq_true c21
                clear c21
                obtain rfl := Option.some.inj H
                have hcz22_0 : wr.cell? ⟨gb247, 0, none⟩ = some (.int .i64 x248000_2) := (blk_cell BK247.out 0).trans rfl
                have hcz22_1 : wr.cell? ⟨gb247, 1, none⟩ = some (.int .i64 x248001_2) := (blk_cell BK247.out 1).trans rfl
                have hcz22_2 : wr.cell? ⟨gb247, 2, none⟩ = some (.int .i64 x248002_2) := (blk_cell BK247.out 2).trans rfl
                have hcz22_3 : wr.cell? ⟨gb247, 3, none⟩ = some (.int .i64 x248003_2) := (blk_cell BK247.out 3).trans rfl
                have hfz22_0 := blk_frozen BK247.out 0
                have hfz22_1 := blk_frozen BK247.out 1
                have hfz22_2 := blk_frozen BK247.out 2
                have hfz22_3 := blk_frozen BK247.out 3
                go_wp2
                go_ret
                exact ⟨by first | rfl | (simp [errW_none, errW_some] <;> rfl) | (simp [*, errW_none, errW_some] <;> rfl) | (simp [*, errW_none, errW_some, i64_w]; done), by repeat (first | (with_reducible first | exact HB.out | apply below_alloc | apply pw_below_drewN | apply below_drew1 | refine below_set ?_ GE247.out) | exact HB.out)⟩
              · rw [if_neg c21] at H
                have c21b0 : decide (x248002_2 ≤ x248000_2) = false := decide_eq_false c21
                clear c21
                obtain rfl := Option.some.inj H
                have hcz23_0 : wr.cell? ⟨gb247, 0, none⟩ = some (.int .i64 x248000_2) := (blk_cell BK247.out 0).trans rfl
                have hcz23_1 : wr.cell? ⟨gb247, 1, none⟩ = some (.int .i64 x248001_2) := (blk_cell BK247.out 1).trans rfl
                have hcz23_2 : wr.cell? ⟨gb247, 2, none⟩ = some (.int .i64 x248002_2) := (blk_cell BK247.out 2).trans rfl
                have hcz23_3 : wr.cell? ⟨gb247, 3, none⟩ = some (.int .i64 x248003_2) := (blk_cell BK247.out 3).trans rfl
                have hfz23_0 := blk_frozen BK247.out 0
                have hfz23_1 := blk_frozen BK247.out 1
                have hfz23_2 := blk_frozen BK247.out 2
                have hfz23_3 := blk_frozen BK247.out 3
                go_wp2
                go_ret
                exact ⟨by first | rfl | (simp [errW_none, errW_some] <;> rfl) | (simp [*, errW_none, errW_some] <;> rfl) | (simp [*, errW_none, errW_some, i64_w]; done), by repeat (first | (with_reducible first | exact HB.out | apply below_alloc | apply pw_below_drewN | apply below_drew1 | refine below_set ?_ GE247.out) | exact HB.out)⟩

end Go.Proofs.Ytlcgohhcoalahaa.G
