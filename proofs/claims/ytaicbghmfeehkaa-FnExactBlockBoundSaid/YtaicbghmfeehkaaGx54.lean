/- Functions of the program as plain Lean functions, and that each call comes to its function's answer; written by a program of the session. No condition. -/
import Derived.Test.YtaicbghmfeehkaaGx0
import Derived.Test.YtaicbghmfeehkaaGx10
import Derived.Test.YtaicbghmfeehkaaGx15
import Derived.Test.YtaicbghmfeehkaaGx53
namespace Go.Proofs.Ytaicbghmfeehkaa.G
open Go.RowKit Go.Proofs.YtaicbghmfeehkaaW.PrintWords Go.Proofs.YtaicbghmfeehkaaW.PrintLast Go.Proofs.YtaicbghmfeehkaaW.PrintMore
attribute [local go_sem] max2_int min2_int max_two min_two max_three min_three max_four min_four   -- for this text's walks alone
set_option linter.unusedVariables false
set_option linter.unusedSimpArgs false

theorem z54_0 {P : Prop} (h : P := by rw [hw]; exact (by (with_reducible repeat (first | refine blk_drewN ?_ _ | refine blk_drew ?_ | refine blk_alloc ?_ _)); refine blk_put (cs := #[.int .i64 ((rd_T119 l0 x4_1).f0), .int .i64 ((rd_T119 l0 x4_1).f1), .int .i64 ((rd_T119 l0 x4_1).f2), .int .i64 ((rd_T119 l0 x4_1).f3.f0), .int .i64 ((rd_T119 l0 x4_1).f3.f1), .int .i64 0]) ?_ 5 _ rfl; (with_reducible repeat (first | refine blk_drewN ?_ _ | refine blk_drew ?_ | refine blk_alloc ?_ _)); refine blk_put (cs := #[.int .i64 ((rd_T119 l0 x4_1).f0), .int .i64 ((rd_T119 l0 x4_1).f1), .int .i64 ((rd_T119 l0 x4_1).f2), .int .i64 ((rd_T119 l0 x4_1).f3.f0), .int .i64 0, .int .i64 0]) ?_ 4 _ rfl; (with_reducible repeat (first | refine blk_drewN ?_ _ | refine blk_drew ?_ | refine blk_alloc ?_ _)); refine blk_put (cs := #[.int .i64 ((rd_T119 l0 x4_1).f0), .int .i64 ((rd_T119 l0 x4_1).f1), .int .i64 ((rd_T119 l0 x4_1).f2), .int .i64 0, .int .i64 0, .int .i64 0]) ?_ 3 _ rfl; (with_reducible repeat (first | refine blk_drewN ?_ _ | refine blk_drew ?_ | refine blk_alloc ?_ _)); refine blk_put (cs := #[.int .i64 ((rd_T119 l0 x4_1).f0), .int .i64 ((rd_T119 l0 x4_1).f1), .int .i64 0, .int .i64 0, .int .i64 0, .int .i64 0]) ?_ 2 _ rfl; (with_reducible repeat (first | refine blk_drewN ?_ _ | refine blk_drew ?_ | refine blk_alloc ?_ _)); refine blk_put (cs := #[.int .i64 ((rd_T119 l0 x4_1).f0), .int .i64 0, .int .i64 0, .int .i64 0, .int .i64 0, .int .i64 0]) ?_ 1 _ rfl; (with_reducible repeat (first | refine blk_drewN ?_ _ | refine blk_drew ?_ | refine blk_alloc ?_ _)); refine blk_put (cs := #[.int .i64 0, .int .i64 0, .int .i64 0, .int .i64 0, .int .i64 0, .int .i64 0]) ?_ 0 _ rfl; (with_reducible repeat (first | refine blk_drewN ?_ _ | refine blk_drew ?_ | refine blk_alloc ?_ _)); exact BK715.out)) : P := h
theorem z54_1 {P : Prop} (h : P := by repeat (first | (with_reducible first | exact HB.out | apply below_alloc | apply pw_below_drewN | apply below_drew1 | refine below_set ?_ GE715.out) | exact HB.out)) : P := h
theorem z54_2 {P : Prop} (h : P := by (try simp only [List.map_toArray, List.map_cons, List.map_nil]); first | done | rfl | (simp only [List.length_drop, List.length_take]; rfl)) : P := h
theorem z54_3 {P : Prop} (h : P := by repeat (first | (with_reducible first | exact HB.out | apply below_alloc | apply pw_below_drewN | apply below_drew1) | exact HB.out)) : P := h
theorem z54_4 {P : Prop} (h : P := by first | (with_reducible assumption) | assumption) : P := h
theorem z54_5 {P : Prop} (h : P := by (with_reducible repeat (first | refine blk_drewN ?_ _ | refine blk_drew ?_ | refine blk_alloc ?_ _)); exact BK715.out) : P := h
theorem z54_6 {P : Prop} (h : P := by first | rfl | (simp; done) | (simp [*]; done)) : P := h
/-! ### impl_bound: function 76 -/
mutual
def impl_bound.l0 : Nat → List (S119) → Int → Int → Option (Int)
  | 0, _, _, _ => none
  | k + 1, x0, x3, x4 => if x4 < (x0.length : Int) then (if 0 ≤ x4 then ((impl_StmtCost.f k ((rd_T119 x0 x4).f0) ((rd_T119 x0 x4).f1) ((rd_T119 x0 x4).f2) ((rd_T119 x0 x4).f3.f0) ((rd_T119 x0 x4).f3.f1) ((rd_T119 x0 x4).f3.f2)).bind fun t716 => ((impl_isOpening.f ((rd_T119 x0 x4).f0)).bind fun t717 => (if t717 = true then ((impl_endOf.f k x0 x4).bind fun t718 => (if ((rd_T119 x0 x4).f0) = 5 then (if 0 ≤ (wrap64 (x4 + 1)) then (if (wrap64 (x4 + 1)) ≤ t718 then (if t718 ≤ (x0.length : Int) then ((impl_bound.f k ((x0.take (t718 : Int).toNat).drop ((wrap64 (x4 + 1)) : Int).toNat)).bind fun t723 => (impl_bound.l0 k x0 (wrap64 ((wrap64 (x3 + t716)) + (wrap64 (((rd_T119 x0 x4).f2) * t723)))) (wrap64 (t718 + 1)))) else (none)) else (none)) else (none)) else (if 0 ≤ (wrap64 (x4 + 1)) then (if (wrap64 (x4 + 1)) ≤ t718 then (if t718 ≤ (x0.length : Int) then ((impl_bound.f k ((x0.take (t718 : Int).toNat).drop ((wrap64 (x4 + 1)) : Int).toNat)).bind fun t728 => (impl_bound.l0 k x0 (wrap64 ((wrap64 (x3 + t716)) + (wrap64 (1 * t728)))) (wrap64 (t718 + 1)))) else (none)) else (none)) else (none)))) else (impl_bound.l0 k x0 (wrap64 ((wrap64 (x3 + t716)) + 3)) (wrap64 (x4 + 1)))))) else (none)) else (some x3)
def impl_bound.f : Nat → List (S119) → Option (Int)
  | 0, _ => none
  | k + 1, l0 => impl_bound.l0 k l0 0 0
end
theorem impl_bound.mono_l : ∀ k, (∀ y0, LeO (impl_bound.f k y0) (impl_bound.f (k + 1) y0)) ∧ (∀ y0 y1 y2, LeO (impl_bound.l0 k y0 y1 y2) (impl_bound.l0 (k + 1) y0 y1 y2))
  | 0 => ⟨fun _ r h => by simp [impl_bound.f] at h, fun _ _ _ r h => by simp [impl_bound.l0] at h⟩
  | k + 1 => by
    obtain ⟨ih0, ih1⟩ := impl_bound.mono_l k
    refine ⟨?_, ?_⟩
    · intro y0
      unfold impl_bound.f
      repeat' first
      | (with_reducible exact ih0 _)
      | (with_reducible exact ih1 _ _ _)
      | (with_reducible exact impl_StmtCost.mono _ _ _ _ _ _ _)
      | (with_reducible exact impl_endOf.mono _ _ _)
      | (with_reducible exact LeO.refl _)
      | (with_reducible exact LeO.none _)
      | (with_reducible refine LeO.ite ?_ ?_)
      | (with_reducible refine LeO.bind ?_ (fun _ => ?_))
      | exact ih0 _
      | exact ih1 _ _ _
      | exact impl_StmtCost.mono _ _ _ _ _ _ _
      | exact impl_endOf.mono _ _ _
      | exact LeO.none _
      | refine LeO.ite ?_ ?_
      | refine LeO.bind ?_ (fun _ => ?_)
    · intro y0 y1 y2
      unfold impl_bound.l0
      repeat' first
      | (with_reducible exact ih0 _)
      | (with_reducible exact ih1 _ _ _)
      | (with_reducible exact impl_StmtCost.mono _ _ _ _ _ _ _)
      | (with_reducible exact impl_endOf.mono _ _ _)
      | (with_reducible exact LeO.refl _)
      | (with_reducible exact LeO.none _)
      | (with_reducible refine LeO.ite ?_ ?_)
      | (with_reducible refine LeO.bind ?_ (fun _ => ?_))
      | exact ih0 _
      | exact ih1 _ _ _
      | exact impl_StmtCost.mono _ _ _ _ _ _ _
      | exact impl_endOf.mono _ _ _
      | exact LeO.none _
      | refine LeO.ite ?_ ?_
      | refine LeO.bind ?_ (fun _ => ?_)
theorem impl_bound.mono : ∀ a0 k, LeO (impl_bound.f k a0) (impl_bound.f (k + 1) a0) := by
  intro a0 k
  obtain ⟨ih0, ih1⟩ := impl_bound.mono_l k
  exact ih0 a0
set_option maxHeartbeats 8000000 in
set_option maxRecDepth 100000 in
theorem impl_bound.calls (k : Nat) : ∀ (A0 : Option Addr) (c0 : Nat) (l0 : List (S119)) (r : Int) (w : World) (hr0 : Kd.C k119 w A0 l0.length l0) (hc0 : l0.length ≤ c0) (h : impl_bound.f k l0 = some r),
    Calls Try.prog 76 #[.slice A0 l0.length c0] w fun e w' => e = .returned (.int .i64 r) ∧ Below w.heap.size w w' := by
  induction k using Nat.strongRecOn with
  | _ k ih =>
  intro A0 c0 l0 r w hr0 hc0 h
  cases k with
  | zero => exact absurd h (by simp [impl_bound.f])
  | succ k =>
  simp only [impl_bound.f] at h
  have hu119 := Try.underlying119
  have HR0 := Aside0.mk hr0
  have HC0 := Aside0.mk hc0
  clear hr0 hc0
  have HB := Aside0.mk (Below.refl w.heap.size w)
  have H : (impl_bound.l0 k l0 0 0) = some r := h
  clear h
  have H' := Aside0.mk H
  clear H
  go_enter Try.func76, Try.ntmps76
  go_wp2
  go_loopg [3, 4] k (fun kq v3 v4 w' => ∃ (x3_1 : Int) (x4_1 : Int), v3 = .int .i64 x3_1 ∧ v4 = .int .i64 x4_1 ∧ Aside0 (impl_bound.l0 kq l0 x3_1 x4_1 = some r) ∧ Aside0 (kq ≤ k) ∧ Aside0 (Below w.heap.size w w'))
  case atStart => exact ⟨(0), (0), z54_6, z54_6, H', ⟨Nat.le_refl _⟩, ⟨by repeat (first | (with_reducible first | exact HB.out | apply below_alloc | apply pw_below_drewN | apply below_drew1) | exact HB.out)⟩⟩
  case round =>
    clear H'
    obtain ⟨x3_1, x4_1, rfl, rfl, HA, HK1, HB⟩ := hrel
    cases gk with
    | zero => exact absurd HA.out (by simp [impl_bound.l0])
    | succ k1 =>
      have H := HA.out
      clear HA
      simp only [impl_bound.l0] at H
      by_cases c2 : x4_1 < (l0.length : Int)
      · rw [if_pos c2] at H
        have c2b0 : decide (x4_1 < (l0.length : Int)) = true := decide_eq_true c2
        clear c2
        by_cases c3 : 0 ≤ x4_1
        · rw [if_pos c3] at H
          have c3b0 : decide (0 ≤ x4_1) = true := decide_eq_true c3
          clear c3
          replace H := Option.bind_eq_some_iff.mp H
          obtain ⟨t716, A40, H⟩ := H
          replace H : ((impl_isOpening.f ((rd_T119 l0 x4_1).f0)).bind fun t717 => (if t717 = true then ((impl_endOf.f k1 l0 x4_1).bind fun t718 => (if ((rd_T119 l0 x4_1).f0) = 5 then (if 0 ≤ (wrap64 (x4_1 + 1)) then (if (wrap64 (x4_1 + 1)) ≤ t718 then (if t718 ≤ (l0.length : Int) then ((impl_bound.f k1 ((l0.take (t718 : Int).toNat).drop ((wrap64 (x4_1 + 1)) : Int).toNat)).bind fun t723 => (impl_bound.l0 k1 l0 (wrap64 ((wrap64 (x3_1 + t716)) + (wrap64 (((rd_T119 l0 x4_1).f2) * t723)))) (wrap64 (t718 + 1)))) else (none)) else (none)) else (none)) else (if 0 ≤ (wrap64 (x4_1 + 1)) then (if (wrap64 (x4_1 + 1)) ≤ t718 then (if t718 ≤ (l0.length : Int) then ((impl_bound.f k1 ((l0.take (t718 : Int).toNat).drop ((wrap64 (x4_1 + 1)) : Int).toNat)).bind fun t728 => (impl_bound.l0 k1 l0 (wrap64 ((wrap64 (x3_1 + t716)) + (wrap64 (1 * t728)))) (wrap64 (t718 + 1)))) else (none)) else (none)) else (none)))) else (impl_bound.l0 k1 l0 (wrap64 ((wrap64 (x3_1 + t716)) + 3)) (wrap64 (x4_1 + 1))))) = some r := H
          have A4 := Aside0.mk A40
          clear A40
          replace H := Option.bind_eq_some_iff.mp H
          obtain ⟨t717, A50, H⟩ := H
          replace H : (if t717 = true then ((impl_endOf.f k1 l0 x4_1).bind fun t718 => (if ((rd_T119 l0 x4_1).f0) = 5 then (if 0 ≤ (wrap64 (x4_1 + 1)) then (if (wrap64 (x4_1 + 1)) ≤ t718 then (if t718 ≤ (l0.length : Int) then ((impl_bound.f k1 ((l0.take (t718 : Int).toNat).drop ((wrap64 (x4_1 + 1)) : Int).toNat)).bind fun t723 => (impl_bound.l0 k1 l0 (wrap64 ((wrap64 (x3_1 + t716)) + (wrap64 (((rd_T119 l0 x4_1).f2) * t723)))) (wrap64 (t718 + 1)))) else (none)) else (none)) else (none)) else (if 0 ≤ (wrap64 (x4_1 + 1)) then (if (wrap64 (x4_1 + 1)) ≤ t718 then (if t718 ≤ (l0.length : Int) then ((impl_bound.f k1 ((l0.take (t718 : Int).toNat).drop ((wrap64 (x4_1 + 1)) : Int).toNat)).bind fun t728 => (impl_bound.l0 k1 l0 (wrap64 ((wrap64 (x3_1 + t716)) + (wrap64 (1 * t728)))) (wrap64 (t718 + 1)))) else (none)) else (none)) else (none)))) else (impl_bound.l0 k1 l0 (wrap64 ((wrap64 (x3_1 + t716)) + 3)) (wrap64 (x4_1 + 1)))) = some r := H
          have A5 := Aside0.mk A50
          clear A50
          by_cases c6 : t717 = true
          · subst c6
            have H1 : ((impl_endOf.f k1 l0 x4_1).bind fun t718 => (if ((rd_T119 l0 x4_1).f0) = 5 then (if 0 ≤ (wrap64 (x4_1 + 1)) then (if (wrap64 (x4_1 + 1)) ≤ t718 then (if t718 ≤ (l0.length : Int) then ((impl_bound.f k1 ((l0.take (t718 : Int).toNat).drop ((wrap64 (x4_1 + 1)) : Int).toNat)).bind fun t723 => (impl_bound.l0 k1 l0 (wrap64 ((wrap64 (x3_1 + t716)) + (wrap64 (((rd_T119 l0 x4_1).f2) * t723)))) (wrap64 (t718 + 1)))) else (none)) else (none)) else (none)) else (if 0 ≤ (wrap64 (x4_1 + 1)) then (if (wrap64 (x4_1 + 1)) ≤ t718 then (if t718 ≤ (l0.length : Int) then ((impl_bound.f k1 ((l0.take (t718 : Int).toNat).drop ((wrap64 (x4_1 + 1)) : Int).toNat)).bind fun t728 => (impl_bound.l0 k1 l0 (wrap64 ((wrap64 (x3_1 + t716)) + (wrap64 (1 * t728)))) (wrap64 (t718 + 1)))) else (none)) else (none)) else (none)))) = some r := by rw [if_pos rfl] at H; exact H
            clear H
            have H := H1
            clear H1
            replace H := Option.bind_eq_some_iff.mp H
            obtain ⟨t718, A70, H⟩ := H
            replace H : (if ((rd_T119 l0 x4_1).f0) = 5 then (if 0 ≤ (wrap64 (x4_1 + 1)) then (if (wrap64 (x4_1 + 1)) ≤ t718 then (if t718 ≤ (l0.length : Int) then ((impl_bound.f k1 ((l0.take (t718 : Int).toNat).drop ((wrap64 (x4_1 + 1)) : Int).toNat)).bind fun t723 => (impl_bound.l0 k1 l0 (wrap64 ((wrap64 (x3_1 + t716)) + (wrap64 (((rd_T119 l0 x4_1).f2) * t723)))) (wrap64 (t718 + 1)))) else (none)) else (none)) else (none)) else (if 0 ≤ (wrap64 (x4_1 + 1)) then (if (wrap64 (x4_1 + 1)) ≤ t718 then (if t718 ≤ (l0.length : Int) then ((impl_bound.f k1 ((l0.take (t718 : Int).toNat).drop ((wrap64 (x4_1 + 1)) : Int).toNat)).bind fun t728 => (impl_bound.l0 k1 l0 (wrap64 ((wrap64 (x3_1 + t716)) + (wrap64 (1 * t728)))) (wrap64 (t718 + 1)))) else (none)) else (none)) else (none))) = some r := H
            have A7 := Aside0.mk A70
            clear A70
            by_cases c8 : ((rd_T119 l0 x4_1).f0) = 5
            · rw [if_pos c8] at H
              have c8b0 : (((rd_T119 l0 x4_1).f0) == 5) = true := beq_iff_eq.mpr c8
              have c8b1 : (((rd_T119 l0 x4_1).f0) != 5) = false := bne_eq_false_iff_eq.mpr c8
              clear c8
              obtain ⟨ji9, hji9⟩ : ∃ j_ : Int, (wrap64 (x4_1 + 1)) = j_ := ⟨_, rfl⟩
              replace H : (if 0 ≤ (ji9) then (if (ji9) ≤ t718 then (if t718 ≤ (l0.length : Int) then ((impl_bound.f k1 ((l0.take (t718 : Int).toNat).drop ((ji9) : Int).toNat)).bind fun t723 => (impl_bound.l0 k1 l0 (wrap64 ((wrap64 (x3_1 + t716)) + (wrap64 (((rd_T119 l0 x4_1).f2) * t723)))) (wrap64 (t718 + 1)))) else (none)) else (none)) else (none)) = some r := by first | (rw [hji9] at H; exact H) | (simp only [hji9] at H ⊢; exact H)
              (try rw [hji9] at A4)
              (try rw [hji9] at A5)
              (try rw [hji9] at A7)
              have hji9w : (IntKind.i64.wrap (x4_1 + 1)) = ji9 := (i64_w _).trans hji9
              by_cases c10 : 0 ≤ (ji9)
              · rw [if_pos c10] at H
                have c10b0 := eq_true c10
                have c10b1 : decide (0 ≤ (ji9)) = true := decide_eq_true c10
                clear c10
                by_cases c11 : (ji9) ≤ t718
                · rw [if_pos c11] at H
                  have c11b0 := eq_true c11
                  have c11b1 : decide ((ji9) ≤ t718) = true := decide_eq_true c11
                  clear c11
                  by_cases c12 : t718 ≤ (l0.length : Int)
                  · rw [if_pos c12] at H
                    have c12b0 := eq_true c12
                    have c12b1 : decide (t718 ≤ (l0.length : Int)) = true := decide_eq_true c12
                    clear c12
                    obtain ⟨y719, hy719⟩ : ∃ y_ : List (S119), y_ = ((l0.take (t718 : Int).toNat).drop ((ji9) : Int).toNat) := ⟨_, rfl⟩
                    replace H : ((impl_bound.f k1 y719).bind fun t723 => (impl_bound.l0 k1 l0 (wrap64 ((wrap64 (x3_1 + t716)) + (wrap64 (((rd_T119 l0 x4_1).f2) * t723)))) (wrap64 (t718 + 1)))) = some r := by first | (rw [hy719]; with_reducible exact H) | (have H2_ := (Option.bind_some _ _).symm.trans H; rw [hy719]; with_reducible exact H2_) | (have H2_ := (Option.bind_some _ _).symm.trans H; with_reducible exact H2_) | with_reducible exact H | (rw [hy719]; exact H) | exact H
                    have Ny719 := Aside0.mk hy719
                    clear hy719
                    replace H := Option.bind_eq_some_iff.mp H
                    obtain ⟨t723, A130, H⟩ := H
                    replace H : (impl_bound.l0 k1 l0 (wrap64 ((wrap64 (x3_1 + t716)) + (wrap64 (((rd_T119 l0 x4_1).f2) * t723)))) (wrap64 (t718 + 1))) = some r := H
                    have A13 := Aside0.mk A130
                    clear A130
                    have H' := Aside0.mk H
                    clear H
                    have p714 : 0 ≤ (x4_1 : Int) := of_decide_eq_true z54_4
                    have q714 : x4_1 < (l0.length : Int) := of_decide_eq_true z54_4
                    obtain ⟨ad714, e714, hx714_0, hx714_1, hx714_2, hx714_3, hx714_4, hx714_5⟩ := at_T119 HR0.out x4_1 p714 q714
                    cases e714
                    replace hx714_0 := (HB.out.cell (World.block_lt_of_cell? w _ hx714_0)).trans hx714_0
                    replace hx714_1 := (HB.out.cell (World.block_lt_of_cell? w _ hx714_1)).trans hx714_1
                    replace hx714_2 := (HB.out.cell (World.block_lt_of_cell? w _ hx714_2)).trans hx714_2
                    replace hx714_3 := (HB.out.cell (World.block_lt_of_cell? w _ hx714_3)).trans hx714_3
                    replace hx714_4 := (HB.out.cell (World.block_lt_of_cell? w _ hx714_4)).trans hx714_4
                    replace hx714_5 := (HB.out.cell (World.block_lt_of_cell? w _ hx714_5)).trans hx714_5
                    replace p714 := eq_true p714
                    replace q714 := eq_true q714
                    go_wp2_with (first | ((with_reducible refine gate_dst (N := 5) rfl ?_); refine box_event ?hg (N := 5) ?hd (cs := #[.int .i64 0, .int .i64 0, .int .i64 0, .int .i64 0, .int .i64 0, .int .i64 0]) (t := 119) ?hr ?_; (case hd => rfl); (case hg => rfl); (case hr => first | (go_simp; done) | (go_simp; rfl)); intro gb715 hg w14 hbox hb; have n0_ := Aside0.mk (below_step z54_3 hb); have n1_ := Aside0.mk (hbox); have n2_ := Aside0.mk ((by rw [hg]; exact (below_size z54_3) : w.heap.size ≤ gb715)); have n3_ := Aside0.mk ((by rw [hg]; exact (below_size z54_3) : w.heap.size ≤ gb715)); clear HB; have HB := n0_; have BK715 := n1_; have GW715 := n2_; have GE715 := n3_; clear n0_ n1_ n2_ n3_; clear hb hbox hg; have hcz15_0 : w14.cell? ⟨gb715, 0, none⟩ = some (.int .i64 0) := (blk_cell BK715.out 0).trans rfl; have hcz15_1 : w14.cell? ⟨gb715, 1, none⟩ = some (.int .i64 0) := (blk_cell BK715.out 1).trans rfl; have hcz15_2 : w14.cell? ⟨gb715, 2, none⟩ = some (.int .i64 0) := (blk_cell BK715.out 2).trans rfl; have hcz15_3 : w14.cell? ⟨gb715, 3, none⟩ = some (.int .i64 0) := (blk_cell BK715.out 3).trans rfl; have hcz15_4 : w14.cell? ⟨gb715, 4, none⟩ = some (.int .i64 0) := (blk_cell BK715.out 4).trans rfl; have hcz15_5 : w14.cell? ⟨gb715, 5, none⟩ = some (.int .i64 0) := (blk_cell BK715.out 5).trans rfl; have hfz15_0 := blk_frozen BK715.out 0; have hfz15_1 := blk_frozen BK715.out 1; have hfz15_2 := blk_frozen BK715.out 2; have hfz15_3 := blk_frozen BK715.out 3; have hfz15_4 := blk_frozen BK715.out 4; have hfz15_5 := blk_frozen BK715.out 5) | ((with_reducible refine gate_store (t := 119) (p := 5) rfl ?_); refine store_event (t := 119) (p := 5) (v := ?vo_w16) (w1 := ((((((w14.setCell ⟨gb715, 0, none⟩ (.int .i64 ((rd_T119 l0 x4_1).f0))).setCell ⟨gb715, 1, none⟩ (.int .i64 ((rd_T119 l0 x4_1).f1))).setCell ⟨gb715, 2, none⟩ (.int .i64 ((rd_T119 l0 x4_1).f2))).setCell ⟨gb715, 3, none⟩ (.int .i64 ((rd_T119 l0 x4_1).f3.f0))).setCell ⟨gb715, 4, none⟩ (.int .i64 ((rd_T119 l0 x4_1).f3.f1))).setCell ⟨gb715, 5, none⟩ (.int .i64 ((rd_T119 l0 x4_1).f3.f2)))) ?hg ?ho ?hn ?hr ?_; (case ho => rfl); (case hg => rfl); (case hn => rfl); (case hr => first | (go_simp; done) | (go_simp; rfl)); intro w16 hw; have n0_ : Aside0 (w16.heap[gb715]? = some (.cells #[.int .i64 ((rd_T119 l0 x4_1).f0), .int .i64 ((rd_T119 l0 x4_1).f1), .int .i64 ((rd_T119 l0 x4_1).f2), .int .i64 ((rd_T119 l0 x4_1).f3.f0), .int .i64 ((rd_T119 l0 x4_1).f3.f1), .int .i64 ((rd_T119 l0 x4_1).f3.f2)] 119 (0, 0))) := ⟨z54_0⟩; have n1_ : Aside0 (Below w.heap.size w w16) := ⟨(by rw [hw]; exact z54_1)⟩; clear hw; clear BK715; clear HB; have BK715 := n0_; have HB := n1_; clear n0_ n1_; have hcz17_0 : w16.cell? ⟨gb715, 0, none⟩ = some (.int .i64 ((rd_T119 l0 x4_1).f0)) := (blk_cell BK715.out 0).trans rfl; have hcz17_1 : w16.cell? ⟨gb715, 1, none⟩ = some (.int .i64 ((rd_T119 l0 x4_1).f1)) := (blk_cell BK715.out 1).trans rfl; have hcz17_2 : w16.cell? ⟨gb715, 2, none⟩ = some (.int .i64 ((rd_T119 l0 x4_1).f2)) := (blk_cell BK715.out 2).trans rfl; have hcz17_3 : w16.cell? ⟨gb715, 3, none⟩ = some (.int .i64 ((rd_T119 l0 x4_1).f3.f0)) := (blk_cell BK715.out 3).trans rfl; have hcz17_4 : w16.cell? ⟨gb715, 4, none⟩ = some (.int .i64 ((rd_T119 l0 x4_1).f3.f1)) := (blk_cell BK715.out 4).trans rfl; have hcz17_5 : w16.cell? ⟨gb715, 5, none⟩ = some (.int .i64 ((rd_T119 l0 x4_1).f3.f2)) := (blk_cell BK715.out 5).trans rfl; have hfz17_0 := blk_frozen BK715.out 0; have hfz17_1 := blk_frozen BK715.out 1; have hfz17_2 := blk_frozen BK715.out 2; have hfz17_3 := blk_frozen BK715.out 3; have hfz17_4 := blk_frozen BK715.out 4; have hfz17_5 := blk_frozen BK715.out 5) | ((first | ((with_reducible refine gate_callee (f := 116) rfl ?_); refine goesL_ (some 20) rfl rfl Try.func116 (by kernel_rfl) rfl #[.agg #[.int .i64 ((rd_T119 l0 x4_1).f0), .int .i64 ((rd_T119 l0 x4_1).f1), .int .i64 ((rd_T119 l0 x4_1).f2), .int .i64 ((rd_T119 l0 x4_1).f3.f0), .int .i64 ((rd_T119 l0 x4_1).f3.f1), .int .i64 ((rd_T119 l0 x4_1).f3.f2)]] rfl z54_2 ?_; (with_reducible refine (impl_StmtCost.calls k1 ((rd_T119 l0 x4_1).f0) ((rd_T119 l0 x4_1).f1) ((rd_T119 l0 x4_1).f2) ((rd_T119 l0 x4_1).f3.f0) ((rd_T119 l0 x4_1).f3.f1) ((rd_T119 l0 x4_1).f3.f2) t716 _ A4.out).mono ?_)) | (go_at_call 116; (with_reducible refine (impl_StmtCost.calls k1 ((rd_T119 l0 x4_1).f0) ((rd_T119 l0 x4_1).f1) ((rd_T119 l0 x4_1).f2) ((rd_T119 l0 x4_1).f3.f0) ((rd_T119 l0 x4_1).f3.f1) ((rd_T119 l0 x4_1).f3.f2) t716 _ A4.out).mono ?_))); rintro e w18 ⟨rfl, hb⟩; (first | refine ⟨_, rfl, ?_⟩ | skip); have n0_ := Aside0.mk (blk_below (g := gb715) (o := .cells #[.int .i64 ((rd_T119 l0 x4_1).f0), .int .i64 ((rd_T119 l0 x4_1).f1), .int .i64 ((rd_T119 l0 x4_1).f2), .int .i64 ((rd_T119 l0 x4_1).f3.f0), .int .i64 ((rd_T119 l0 x4_1).f3.f1), .int .i64 ((rd_T119 l0 x4_1).f3.f2)] 119 (0, 0)) z54_5 hb); have n1_ := Aside0.mk (below_step z54_1 hb); clear BK715; clear HB; have BK715 := n0_; have HB := n1_; clear n0_ n1_; (try clear hb); (try clear hb2); (try clear hk); (try clear hi); have hcz19_0 : w18.cell? ⟨gb715, 0, none⟩ = some (.int .i64 ((rd_T119 l0 x4_1).f0)) := (blk_cell BK715.out 0).trans rfl; have hcz19_1 : w18.cell? ⟨gb715, 1, none⟩ = some (.int .i64 ((rd_T119 l0 x4_1).f1)) := (blk_cell BK715.out 1).trans rfl; have hcz19_2 : w18.cell? ⟨gb715, 2, none⟩ = some (.int .i64 ((rd_T119 l0 x4_1).f2)) := (blk_cell BK715.out 2).trans rfl; have hcz19_3 : w18.cell? ⟨gb715, 3, none⟩ = some (.int .i64 ((rd_T119 l0 x4_1).f3.f0)) := (blk_cell BK715.out 3).trans rfl; have hcz19_4 : w18.cell? ⟨gb715, 4, none⟩ = some (.int .i64 ((rd_T119 l0 x4_1).f3.f1)) := (blk_cell BK715.out 4).trans rfl; have hcz19_5 : w18.cell? ⟨gb715, 5, none⟩ = some (.int .i64 ((rd_T119 l0 x4_1).f3.f2)) := (blk_cell BK715.out 5).trans rfl; have hfz19_0 := blk_frozen BK715.out 0; have hfz19_1 := blk_frozen BK715.out 1; have hfz19_2 := blk_frozen BK715.out 2; have hfz19_3 := blk_frozen BK715.out 3; have hfz19_4 := blk_frozen BK715.out 4; have hfz19_5 := blk_frozen BK715.out 5) | ((first | ((with_reducible refine gate_callee (f := 117) rfl ?_); refine goesL_ (some 24) rfl rfl Try.func117 (by kernel_rfl) rfl #[.int .i64 ((rd_T119 l0 x4_1).f0)] rfl z54_2 ?_; (with_reducible refine (impl_isOpening.calls ((rd_T119 l0 x4_1).f0) true _ A5.out).mono ?_)) | (go_at_call 117; (with_reducible refine (impl_isOpening.calls ((rd_T119 l0 x4_1).f0) true _ A5.out).mono ?_))); rintro e w' ⟨rfl, ⟨nd, rfl⟩⟩; (first | refine ⟨_, rfl, ?_⟩ | skip)) | ((first | ((with_reducible refine gate_callee (f := 118) rfl ?_); refine goesL_ (some 30) rfl rfl Try.func118 (by kernel_rfl) rfl #[.slice (some ad714) l0.length c0, .int .i64 x4_1] rfl z54_2 ?_; (with_reducible refine (impl_endOf.calls k1 _ _ l0 x4_1 t718 _ ?side1 ?side2 A7.out).mono ?_)) | (go_at_call 118; (with_reducible refine (impl_endOf.calls k1 _ _ l0 x4_1 t718 _ ?side1 ?side2 A7.out).mono ?_))); (case side1 => repeat (first | exact (Kd.C_below HR0.out z54_1) | (with_reducible refine Kd.C_alloc ?_ _) | (with_reducible refine Kd.C_drewN ?_ _) | (with_reducible refine Kd.C_drew ?_))); (case side2 => exact HC0.out); rintro e w' ⟨rfl, ⟨nd, rfl⟩⟩; (first | refine ⟨_, rfl, ?_⟩ | skip); have q20 : (t718 : Int) ≤ ((l0.length : Int) : Int) := of_decide_eq_true z54_4; obtain ⟨i020, hi020, _, hsz20, _⟩ := info_parts info119; have hroom20 : l0.length ≤ c0 := HC0.out; have hC20 : Kd.C k119 _ (some ad714) l0.length l0 := HR0.out; have ql20 : ((ji9) : Int) ≤ (t718 : Int) := of_decide_eq_true z54_4; have q020 : (0 : Int) ≤ ((ji9) : Int) := of_decide_eq_true z54_4; have hcut20 := cut_mid (P := Try.prog) 24 119 .i64 .i64 Try.underlying24 hi020 6 hsz20 (some ad714) l0.length c0 (ji9) t718 q020 ql20 q20 hroom20; have hr20 := Kd.C_mid (lo := ((ji9) : Int).toNat) (hi := (t718 : Int).toNat) (c := c0) hC20 (by omega) (by omega) hroom20; obtain ⟨A20, hA20⟩ : ∃ A1, A1 = (if c0 = ((ji9) : Int).toNat then (some ad714) else ((some ad714) : Option Addr).map (·.add (((ji9) : Int).toNat * 6))) := ⟨_, rfl⟩; obtain ⟨c20, hc20⟩ : ∃ c1, c1 = c0 - ((ji9) : Int).toNat := ⟨_, rfl⟩; have hy20 : y719.length = (t718 : Int).toNat - ((ji9) : Int).toNat := (by rw [Ny719.out, List.length_drop, List.length_take] <;> omega); rw [show ((l0).take (t718 : Int).toNat).drop ((ji9) : Int).toNat = y719 from Ny719.out.symm] at hr20; replace hr20 : Kd.C k119 _ A20 y719.length y719 := (by rw [hA20]; exact hr20); rw [← hy20, ← hA20, ← hc20] at hcut20; have HR722 := Aside0.mk hr20; have HC722 := Aside0.mk (show y719.length ≤ c20 from by rw [hy20, hc20]; exact Nat.sub_le_sub_right (Nat.le_trans (by omega) hroom20) _); clear hr20 hC20 hroom20 hi020 hsz20 hc20; have KY20 := Aside0.mk hy20; have KA20 := Aside0.mk hA20; clear hy20 hA20; replace q20 := eq_true q20) | ((first | ((with_reducible refine gate_callee (f := 76) rfl ?_); refine goesL_ (some 43) rfl rfl Try.func76 (by kernel_rfl) rfl #[.slice A20 y719.length c20] rfl z54_2 ?_; (with_reducible refine (ih k1 (by have := HK1.out; omega) _ _ y719 t723 _ ?side1 ?side2 A13.out).mono ?_)) | (go_at_call 76; (with_reducible refine (ih k1 (by have := HK1.out; omega) _ _ y719 t723 _ ?side1 ?side2 A13.out).mono ?_))); (case side1 => repeat (first | exact (Kd.C_below HR722.out z54_1) | (with_reducible refine Kd.C_alloc ?_ _) | (with_reducible refine Kd.C_drewN ?_ _) | (with_reducible refine Kd.C_drew ?_))); (case side2 => exact HC722.out); rintro e w21 ⟨rfl, hb⟩; (first | refine ⟨_, rfl, ?_⟩ | skip); have n0_ := Aside0.mk (blk_below (g := gb715) (o := .cells #[.int .i64 ((rd_T119 l0 x4_1).f0), .int .i64 ((rd_T119 l0 x4_1).f1), .int .i64 ((rd_T119 l0 x4_1).f2), .int .i64 ((rd_T119 l0 x4_1).f3.f0), .int .i64 ((rd_T119 l0 x4_1).f3.f1), .int .i64 ((rd_T119 l0 x4_1).f3.f2)] 119 (0, 0)) z54_5 hb); have n1_ := Aside0.mk (below_step z54_1 hb); clear BK715; clear HB; have BK715 := n0_; have HB := n1_; clear n0_ n1_; (try clear hb); (try clear hb2); (try clear hk); (try clear hi)))
                    go_roundg k1
                    case measure => have := HK1.out; omega
                    case rel => exact ⟨(wrap64 ((wrap64 (x3_1 + t716)) + (wrap64 (((rd_T119 l0 x4_1).f2) * t723)))), (wrap64 (t718 + 1)), z54_6, z54_6, H', ⟨by have := HK1.out; omega⟩, ⟨by repeat (first | (with_reducible first | exact HB.out | apply below_alloc | apply pw_below_drewN | apply below_drew1 | refine below_set ?_ GE715.out) | exact HB.out)⟩⟩
                  · rw [if_neg c12] at H
                    exact absurd H (by simp)
                · rw [if_neg c11] at H
                  exact absurd H (by simp)
              · rw [if_neg c10] at H
                exact absurd H (by simp)
            · rw [if_neg c8] at H
              have c8b0 : (((rd_T119 l0 x4_1).f0) == 5) = false := beq_eq_false_iff_ne.mpr c8
              have c8b1 : (((rd_T119 l0 x4_1).f0) != 5) = true := bne_iff_ne.mpr c8
              obtain ⟨ji22, hji22⟩ : ∃ j_ : Int, (wrap64 (x4_1 + 1)) = j_ := ⟨_, rfl⟩
              replace H : (if 0 ≤ (ji22) then (if (ji22) ≤ t718 then (if t718 ≤ (l0.length : Int) then ((impl_bound.f k1 ((l0.take (t718 : Int).toNat).drop ((ji22) : Int).toNat)).bind fun t728 => (impl_bound.l0 k1 l0 (wrap64 ((wrap64 (x3_1 + t716)) + (wrap64 (1 * t728)))) (wrap64 (t718 + 1)))) else (none)) else (none)) else (none)) = some r := by first | (rw [hji22] at H; exact H) | (simp only [hji22] at H ⊢; exact H)
              (try rw [hji22] at A4)
              (try rw [hji22] at A5)
              (try rw [hji22] at A7)
              have hji22w : (IntKind.i64.wrap (x4_1 + 1)) = ji22 := (i64_w _).trans hji22
              by_cases c23 : 0 ≤ (ji22)
              · rw [if_pos c23] at H
                have c23b0 := eq_true c23
                have c23b1 : decide (0 ≤ (ji22)) = true := decide_eq_true c23
                clear c23
                by_cases c24 : (ji22) ≤ t718
                · rw [if_pos c24] at H
                  have c24b0 := eq_true c24
                  have c24b1 : decide ((ji22) ≤ t718) = true := decide_eq_true c24
                  clear c24
                  by_cases c25 : t718 ≤ (l0.length : Int)
                  · rw [if_pos c25] at H
                    have c25b0 := eq_true c25
                    have c25b1 : decide (t718 ≤ (l0.length : Int)) = true := decide_eq_true c25
                    clear c25
                    obtain ⟨y724, hy724⟩ : ∃ y_ : List (S119), y_ = ((l0.take (t718 : Int).toNat).drop ((ji22) : Int).toNat) := ⟨_, rfl⟩
                    replace H : ((impl_bound.f k1 y724).bind fun t728 => (impl_bound.l0 k1 l0 (wrap64 ((wrap64 (x3_1 + t716)) + (wrap64 (1 * t728)))) (wrap64 (t718 + 1)))) = some r := by first | (rw [hy724]; with_reducible exact H) | (have H2_ := (Option.bind_some _ _).symm.trans H; rw [hy724]; with_reducible exact H2_) | (have H2_ := (Option.bind_some _ _).symm.trans H; with_reducible exact H2_) | with_reducible exact H | (rw [hy724]; exact H) | exact H
                    have Ny724 := Aside0.mk hy724
                    clear hy724
                    replace H := Option.bind_eq_some_iff.mp H
                    obtain ⟨t728, A260, H⟩ := H
                    replace H : (impl_bound.l0 k1 l0 (wrap64 ((wrap64 (x3_1 + t716)) + (wrap64 (1 * t728)))) (wrap64 (t718 + 1))) = some r := H
                    have A26 := Aside0.mk A260
                    clear A260
                    have H' := Aside0.mk H
                    clear H
                    have p714 : 0 ≤ (x4_1 : Int) := of_decide_eq_true z54_4
                    have q714 : x4_1 < (l0.length : Int) := of_decide_eq_true z54_4
                    obtain ⟨ad714, e714, hx714_0, hx714_1, hx714_2, hx714_3, hx714_4, hx714_5⟩ := at_T119 HR0.out x4_1 p714 q714
                    cases e714
                    replace hx714_0 := (HB.out.cell (World.block_lt_of_cell? w _ hx714_0)).trans hx714_0
                    replace hx714_1 := (HB.out.cell (World.block_lt_of_cell? w _ hx714_1)).trans hx714_1
                    replace hx714_2 := (HB.out.cell (World.block_lt_of_cell? w _ hx714_2)).trans hx714_2
                    replace hx714_3 := (HB.out.cell (World.block_lt_of_cell? w _ hx714_3)).trans hx714_3
                    replace hx714_4 := (HB.out.cell (World.block_lt_of_cell? w _ hx714_4)).trans hx714_4
                    replace hx714_5 := (HB.out.cell (World.block_lt_of_cell? w _ hx714_5)).trans hx714_5
                    replace p714 := eq_true p714
                    replace q714 := eq_true q714
                    go_wp2_with (first | ((with_reducible refine gate_dst (N := 5) rfl ?_); refine box_event ?hg (N := 5) ?hd (cs := #[.int .i64 0, .int .i64 0, .int .i64 0, .int .i64 0, .int .i64 0, .int .i64 0]) (t := 119) ?hr ?_; (case hd => rfl); (case hg => rfl); (case hr => first | (go_simp; done) | (go_simp; rfl)); intro gb715 hg w27 hbox hb; have n0_ := Aside0.mk (below_step z54_3 hb); have n1_ := Aside0.mk (hbox); have n2_ := Aside0.mk ((by rw [hg]; exact (below_size z54_3) : w.heap.size ≤ gb715)); have n3_ := Aside0.mk ((by rw [hg]; exact (below_size z54_3) : w.heap.size ≤ gb715)); clear HB; have HB := n0_; have BK715 := n1_; have GW715 := n2_; have GE715 := n3_; clear n0_ n1_ n2_ n3_; clear hb hbox hg; have hcz28_0 : w27.cell? ⟨gb715, 0, none⟩ = some (.int .i64 0) := (blk_cell BK715.out 0).trans rfl; have hcz28_1 : w27.cell? ⟨gb715, 1, none⟩ = some (.int .i64 0) := (blk_cell BK715.out 1).trans rfl; have hcz28_2 : w27.cell? ⟨gb715, 2, none⟩ = some (.int .i64 0) := (blk_cell BK715.out 2).trans rfl; have hcz28_3 : w27.cell? ⟨gb715, 3, none⟩ = some (.int .i64 0) := (blk_cell BK715.out 3).trans rfl; have hcz28_4 : w27.cell? ⟨gb715, 4, none⟩ = some (.int .i64 0) := (blk_cell BK715.out 4).trans rfl; have hcz28_5 : w27.cell? ⟨gb715, 5, none⟩ = some (.int .i64 0) := (blk_cell BK715.out 5).trans rfl; have hfz28_0 := blk_frozen BK715.out 0; have hfz28_1 := blk_frozen BK715.out 1; have hfz28_2 := blk_frozen BK715.out 2; have hfz28_3 := blk_frozen BK715.out 3; have hfz28_4 := blk_frozen BK715.out 4; have hfz28_5 := blk_frozen BK715.out 5) | ((with_reducible refine gate_store (t := 119) (p := 5) rfl ?_); refine store_event (t := 119) (p := 5) (v := ?vo_w29) (w1 := ((((((w27.setCell ⟨gb715, 0, none⟩ (.int .i64 ((rd_T119 l0 x4_1).f0))).setCell ⟨gb715, 1, none⟩ (.int .i64 ((rd_T119 l0 x4_1).f1))).setCell ⟨gb715, 2, none⟩ (.int .i64 ((rd_T119 l0 x4_1).f2))).setCell ⟨gb715, 3, none⟩ (.int .i64 ((rd_T119 l0 x4_1).f3.f0))).setCell ⟨gb715, 4, none⟩ (.int .i64 ((rd_T119 l0 x4_1).f3.f1))).setCell ⟨gb715, 5, none⟩ (.int .i64 ((rd_T119 l0 x4_1).f3.f2)))) ?hg ?ho ?hn ?hr ?_; (case ho => rfl); (case hg => rfl); (case hn => rfl); (case hr => first | (go_simp; done) | (go_simp; rfl)); intro w29 hw; have n0_ : Aside0 (w29.heap[gb715]? = some (.cells #[.int .i64 ((rd_T119 l0 x4_1).f0), .int .i64 ((rd_T119 l0 x4_1).f1), .int .i64 ((rd_T119 l0 x4_1).f2), .int .i64 ((rd_T119 l0 x4_1).f3.f0), .int .i64 ((rd_T119 l0 x4_1).f3.f1), .int .i64 ((rd_T119 l0 x4_1).f3.f2)] 119 (0, 0))) := ⟨z54_0⟩; have n1_ : Aside0 (Below w.heap.size w w29) := ⟨(by rw [hw]; exact z54_1)⟩; clear hw; clear BK715; clear HB; have BK715 := n0_; have HB := n1_; clear n0_ n1_; have hcz30_0 : w29.cell? ⟨gb715, 0, none⟩ = some (.int .i64 ((rd_T119 l0 x4_1).f0)) := (blk_cell BK715.out 0).trans rfl; have hcz30_1 : w29.cell? ⟨gb715, 1, none⟩ = some (.int .i64 ((rd_T119 l0 x4_1).f1)) := (blk_cell BK715.out 1).trans rfl; have hcz30_2 : w29.cell? ⟨gb715, 2, none⟩ = some (.int .i64 ((rd_T119 l0 x4_1).f2)) := (blk_cell BK715.out 2).trans rfl; have hcz30_3 : w29.cell? ⟨gb715, 3, none⟩ = some (.int .i64 ((rd_T119 l0 x4_1).f3.f0)) := (blk_cell BK715.out 3).trans rfl; have hcz30_4 : w29.cell? ⟨gb715, 4, none⟩ = some (.int .i64 ((rd_T119 l0 x4_1).f3.f1)) := (blk_cell BK715.out 4).trans rfl; have hcz30_5 : w29.cell? ⟨gb715, 5, none⟩ = some (.int .i64 ((rd_T119 l0 x4_1).f3.f2)) := (blk_cell BK715.out 5).trans rfl; have hfz30_0 := blk_frozen BK715.out 0; have hfz30_1 := blk_frozen BK715.out 1; have hfz30_2 := blk_frozen BK715.out 2; have hfz30_3 := blk_frozen BK715.out 3; have hfz30_4 := blk_frozen BK715.out 4; have hfz30_5 := blk_frozen BK715.out 5) | ((first | ((with_reducible refine gate_callee (f := 116) rfl ?_); refine goesL_ (some 20) rfl rfl Try.func116 (by kernel_rfl) rfl #[.agg #[.int .i64 ((rd_T119 l0 x4_1).f0), .int .i64 ((rd_T119 l0 x4_1).f1), .int .i64 ((rd_T119 l0 x4_1).f2), .int .i64 ((rd_T119 l0 x4_1).f3.f0), .int .i64 ((rd_T119 l0 x4_1).f3.f1), .int .i64 ((rd_T119 l0 x4_1).f3.f2)]] rfl z54_2 ?_; (with_reducible refine (impl_StmtCost.calls k1 ((rd_T119 l0 x4_1).f0) ((rd_T119 l0 x4_1).f1) ((rd_T119 l0 x4_1).f2) ((rd_T119 l0 x4_1).f3.f0) ((rd_T119 l0 x4_1).f3.f1) ((rd_T119 l0 x4_1).f3.f2) t716 _ A4.out).mono ?_)) | (go_at_call 116; (with_reducible refine (impl_StmtCost.calls k1 ((rd_T119 l0 x4_1).f0) ((rd_T119 l0 x4_1).f1) ((rd_T119 l0 x4_1).f2) ((rd_T119 l0 x4_1).f3.f0) ((rd_T119 l0 x4_1).f3.f1) ((rd_T119 l0 x4_1).f3.f2) t716 _ A4.out).mono ?_))); rintro e w31 ⟨rfl, hb⟩; (first | refine ⟨_, rfl, ?_⟩ | skip); have n0_ := Aside0.mk (blk_below (g := gb715) (o := .cells #[.int .i64 ((rd_T119 l0 x4_1).f0), .int .i64 ((rd_T119 l0 x4_1).f1), .int .i64 ((rd_T119 l0 x4_1).f2), .int .i64 ((rd_T119 l0 x4_1).f3.f0), .int .i64 ((rd_T119 l0 x4_1).f3.f1), .int .i64 ((rd_T119 l0 x4_1).f3.f2)] 119 (0, 0)) z54_5 hb); have n1_ := Aside0.mk (below_step z54_1 hb); clear BK715; clear HB; have BK715 := n0_; have HB := n1_; clear n0_ n1_; (try clear hb); (try clear hb2); (try clear hk); (try clear hi); have hcz32_0 : w31.cell? ⟨gb715, 0, none⟩ = some (.int .i64 ((rd_T119 l0 x4_1).f0)) := (blk_cell BK715.out 0).trans rfl; have hcz32_1 : w31.cell? ⟨gb715, 1, none⟩ = some (.int .i64 ((rd_T119 l0 x4_1).f1)) := (blk_cell BK715.out 1).trans rfl; have hcz32_2 : w31.cell? ⟨gb715, 2, none⟩ = some (.int .i64 ((rd_T119 l0 x4_1).f2)) := (blk_cell BK715.out 2).trans rfl; have hcz32_3 : w31.cell? ⟨gb715, 3, none⟩ = some (.int .i64 ((rd_T119 l0 x4_1).f3.f0)) := (blk_cell BK715.out 3).trans rfl; have hcz32_4 : w31.cell? ⟨gb715, 4, none⟩ = some (.int .i64 ((rd_T119 l0 x4_1).f3.f1)) := (blk_cell BK715.out 4).trans rfl; have hcz32_5 : w31.cell? ⟨gb715, 5, none⟩ = some (.int .i64 ((rd_T119 l0 x4_1).f3.f2)) := (blk_cell BK715.out 5).trans rfl; have hfz32_0 := blk_frozen BK715.out 0; have hfz32_1 := blk_frozen BK715.out 1; have hfz32_2 := blk_frozen BK715.out 2; have hfz32_3 := blk_frozen BK715.out 3; have hfz32_4 := blk_frozen BK715.out 4; have hfz32_5 := blk_frozen BK715.out 5) | ((first | ((with_reducible refine gate_callee (f := 117) rfl ?_); refine goesL_ (some 24) rfl rfl Try.func117 (by kernel_rfl) rfl #[.int .i64 ((rd_T119 l0 x4_1).f0)] rfl z54_2 ?_; (with_reducible refine (impl_isOpening.calls ((rd_T119 l0 x4_1).f0) true _ A5.out).mono ?_)) | (go_at_call 117; (with_reducible refine (impl_isOpening.calls ((rd_T119 l0 x4_1).f0) true _ A5.out).mono ?_))); rintro e w' ⟨rfl, ⟨nd, rfl⟩⟩; (first | refine ⟨_, rfl, ?_⟩ | skip)) | ((first | ((with_reducible refine gate_callee (f := 118) rfl ?_); refine goesL_ (some 30) rfl rfl Try.func118 (by kernel_rfl) rfl #[.slice (some ad714) l0.length c0, .int .i64 x4_1] rfl z54_2 ?_; (with_reducible refine (impl_endOf.calls k1 _ _ l0 x4_1 t718 _ ?side1 ?side2 A7.out).mono ?_)) | (go_at_call 118; (with_reducible refine (impl_endOf.calls k1 _ _ l0 x4_1 t718 _ ?side1 ?side2 A7.out).mono ?_))); (case side1 => repeat (first | exact (Kd.C_below HR0.out z54_1) | (with_reducible refine Kd.C_alloc ?_ _) | (with_reducible refine Kd.C_drewN ?_ _) | (with_reducible refine Kd.C_drew ?_))); (case side2 => exact HC0.out); rintro e w' ⟨rfl, ⟨nd, rfl⟩⟩; (first | refine ⟨_, rfl, ?_⟩ | skip); have q33 : (t718 : Int) ≤ ((l0.length : Int) : Int) := of_decide_eq_true z54_4; obtain ⟨i033, hi033, _, hsz33, _⟩ := info_parts info119; have hroom33 : l0.length ≤ c0 := HC0.out; have hC33 : Kd.C k119 _ (some ad714) l0.length l0 := HR0.out; have ql33 : ((ji22) : Int) ≤ (t718 : Int) := of_decide_eq_true z54_4; have q033 : (0 : Int) ≤ ((ji22) : Int) := of_decide_eq_true z54_4; have hcut33 := cut_mid (P := Try.prog) 24 119 .i64 .i64 Try.underlying24 hi033 6 hsz33 (some ad714) l0.length c0 (ji22) t718 q033 ql33 q33 hroom33; have hr33 := Kd.C_mid (lo := ((ji22) : Int).toNat) (hi := (t718 : Int).toNat) (c := c0) hC33 (by omega) (by omega) hroom33; obtain ⟨A33, hA33⟩ : ∃ A1, A1 = (if c0 = ((ji22) : Int).toNat then (some ad714) else ((some ad714) : Option Addr).map (·.add (((ji22) : Int).toNat * 6))) := ⟨_, rfl⟩; obtain ⟨c33, hc33⟩ : ∃ c1, c1 = c0 - ((ji22) : Int).toNat := ⟨_, rfl⟩; have hy33 : y724.length = (t718 : Int).toNat - ((ji22) : Int).toNat := (by rw [Ny724.out, List.length_drop, List.length_take] <;> omega); rw [show ((l0).take (t718 : Int).toNat).drop ((ji22) : Int).toNat = y724 from Ny724.out.symm] at hr33; replace hr33 : Kd.C k119 _ A33 y724.length y724 := (by rw [hA33]; exact hr33); rw [← hy33, ← hA33, ← hc33] at hcut33; have HR727 := Aside0.mk hr33; have HC727 := Aside0.mk (show y724.length ≤ c33 from by rw [hy33, hc33]; exact Nat.sub_le_sub_right (Nat.le_trans (by omega) hroom33) _); clear hr33 hC33 hroom33 hi033 hsz33 hc33; have KY33 := Aside0.mk hy33; have KA33 := Aside0.mk hA33; clear hy33 hA33; replace q33 := eq_true q33) | ((first | ((with_reducible refine gate_callee (f := 76) rfl ?_); refine goesL_ (some 43) rfl rfl Try.func76 (by kernel_rfl) rfl #[.slice A33 y724.length c33] rfl z54_2 ?_; (with_reducible refine (ih k1 (by have := HK1.out; omega) _ _ y724 t728 _ ?side1 ?side2 A26.out).mono ?_)) | (go_at_call 76; (with_reducible refine (ih k1 (by have := HK1.out; omega) _ _ y724 t728 _ ?side1 ?side2 A26.out).mono ?_))); (case side1 => repeat (first | exact (Kd.C_below HR727.out z54_1) | (with_reducible refine Kd.C_alloc ?_ _) | (with_reducible refine Kd.C_drewN ?_ _) | (with_reducible refine Kd.C_drew ?_))); (case side2 => exact HC727.out); rintro e w34 ⟨rfl, hb⟩; (first | refine ⟨_, rfl, ?_⟩ | skip); have n0_ := Aside0.mk (blk_below (g := gb715) (o := .cells #[.int .i64 ((rd_T119 l0 x4_1).f0), .int .i64 ((rd_T119 l0 x4_1).f1), .int .i64 ((rd_T119 l0 x4_1).f2), .int .i64 ((rd_T119 l0 x4_1).f3.f0), .int .i64 ((rd_T119 l0 x4_1).f3.f1), .int .i64 ((rd_T119 l0 x4_1).f3.f2)] 119 (0, 0)) z54_5 hb); have n1_ := Aside0.mk (below_step z54_1 hb); clear BK715; clear HB; have BK715 := n0_; have HB := n1_; clear n0_ n1_; (try clear hb); (try clear hb2); (try clear hk); (try clear hi)))
                    go_roundg k1
                    case measure => have := HK1.out; omega
                    case rel => exact ⟨(wrap64 ((wrap64 (x3_1 + t716)) + (wrap64 (1 * t728)))), (wrap64 (t718 + 1)), z54_6, z54_6, H', ⟨by have := HK1.out; omega⟩, ⟨by repeat (first | (with_reducible first | exact HB.out | apply below_alloc | apply pw_below_drewN | apply below_drew1 | refine below_set ?_ GE715.out) | exact HB.out)⟩⟩
                  · rw [if_neg c25] at H
                    exact absurd H (by simp)
                · rw [if_neg c24] at H
                  exact absurd H (by simp)
              · rw [if_neg c23] at H
                exact absurd H (by simp)
          · replace c6 := Bool.eq_false_iff.mpr c6
            subst c6
            have H1 : (impl_bound.l0 k1 l0 (wrap64 ((wrap64 (x3_1 + t716)) + 3)) (wrap64 (x4_1 + 1))) = some r := by rw [if_neg (show ¬ (false = true) by decide)] at H; exact H
            clear H
            have H := H1
            clear H1
            have H' := Aside0.mk H
            clear H
            have p714 : 0 ≤ (x4_1 : Int) := of_decide_eq_true z54_4
            have q714 : x4_1 < (l0.length : Int) := of_decide_eq_true z54_4
            obtain ⟨ad714, e714, hx714_0, hx714_1, hx714_2, hx714_3, hx714_4, hx714_5⟩ := at_T119 HR0.out x4_1 p714 q714
            cases e714
            replace hx714_0 := (HB.out.cell (World.block_lt_of_cell? w _ hx714_0)).trans hx714_0
            replace hx714_1 := (HB.out.cell (World.block_lt_of_cell? w _ hx714_1)).trans hx714_1
            replace hx714_2 := (HB.out.cell (World.block_lt_of_cell? w _ hx714_2)).trans hx714_2
            replace hx714_3 := (HB.out.cell (World.block_lt_of_cell? w _ hx714_3)).trans hx714_3
            replace hx714_4 := (HB.out.cell (World.block_lt_of_cell? w _ hx714_4)).trans hx714_4
            replace hx714_5 := (HB.out.cell (World.block_lt_of_cell? w _ hx714_5)).trans hx714_5
            replace p714 := eq_true p714
            replace q714 := eq_true q714
            go_wp2_with (first | ((with_reducible refine gate_dst (N := 5) rfl ?_); refine box_event ?hg (N := 5) ?hd (cs := #[.int .i64 0, .int .i64 0, .int .i64 0, .int .i64 0, .int .i64 0, .int .i64 0]) (t := 119) ?hr ?_; (case hd => rfl); (case hg => rfl); (case hr => first | (go_simp; done) | (go_simp; rfl)); intro gb715 hg w35 hbox hb; have n0_ := Aside0.mk (below_step z54_3 hb); have n1_ := Aside0.mk (hbox); have n2_ := Aside0.mk ((by rw [hg]; exact (below_size z54_3) : w.heap.size ≤ gb715)); have n3_ := Aside0.mk ((by rw [hg]; exact (below_size z54_3) : w.heap.size ≤ gb715)); clear HB; have HB := n0_; have BK715 := n1_; have GW715 := n2_; have GE715 := n3_; clear n0_ n1_ n2_ n3_; clear hb hbox hg; have hcz36_0 : w35.cell? ⟨gb715, 0, none⟩ = some (.int .i64 0) := (blk_cell BK715.out 0).trans rfl; have hcz36_1 : w35.cell? ⟨gb715, 1, none⟩ = some (.int .i64 0) := (blk_cell BK715.out 1).trans rfl; have hcz36_2 : w35.cell? ⟨gb715, 2, none⟩ = some (.int .i64 0) := (blk_cell BK715.out 2).trans rfl; have hcz36_3 : w35.cell? ⟨gb715, 3, none⟩ = some (.int .i64 0) := (blk_cell BK715.out 3).trans rfl; have hcz36_4 : w35.cell? ⟨gb715, 4, none⟩ = some (.int .i64 0) := (blk_cell BK715.out 4).trans rfl; have hcz36_5 : w35.cell? ⟨gb715, 5, none⟩ = some (.int .i64 0) := (blk_cell BK715.out 5).trans rfl; have hfz36_0 := blk_frozen BK715.out 0; have hfz36_1 := blk_frozen BK715.out 1; have hfz36_2 := blk_frozen BK715.out 2; have hfz36_3 := blk_frozen BK715.out 3; have hfz36_4 := blk_frozen BK715.out 4; have hfz36_5 := blk_frozen BK715.out 5) | ((with_reducible refine gate_store (t := 119) (p := 5) rfl ?_); refine store_event (t := 119) (p := 5) (v := ?vo_w37) (w1 := ((((((w35.setCell ⟨gb715, 0, none⟩ (.int .i64 ((rd_T119 l0 x4_1).f0))).setCell ⟨gb715, 1, none⟩ (.int .i64 ((rd_T119 l0 x4_1).f1))).setCell ⟨gb715, 2, none⟩ (.int .i64 ((rd_T119 l0 x4_1).f2))).setCell ⟨gb715, 3, none⟩ (.int .i64 ((rd_T119 l0 x4_1).f3.f0))).setCell ⟨gb715, 4, none⟩ (.int .i64 ((rd_T119 l0 x4_1).f3.f1))).setCell ⟨gb715, 5, none⟩ (.int .i64 ((rd_T119 l0 x4_1).f3.f2)))) ?hg ?ho ?hn ?hr ?_; (case ho => rfl); (case hg => rfl); (case hn => rfl); (case hr => first | (go_simp; done) | (go_simp; rfl)); intro w37 hw; have n0_ : Aside0 (w37.heap[gb715]? = some (.cells #[.int .i64 ((rd_T119 l0 x4_1).f0), .int .i64 ((rd_T119 l0 x4_1).f1), .int .i64 ((rd_T119 l0 x4_1).f2), .int .i64 ((rd_T119 l0 x4_1).f3.f0), .int .i64 ((rd_T119 l0 x4_1).f3.f1), .int .i64 ((rd_T119 l0 x4_1).f3.f2)] 119 (0, 0))) := ⟨z54_0⟩; have n1_ : Aside0 (Below w.heap.size w w37) := ⟨(by rw [hw]; exact z54_1)⟩; clear hw; clear BK715; clear HB; have BK715 := n0_; have HB := n1_; clear n0_ n1_; have hcz38_0 : w37.cell? ⟨gb715, 0, none⟩ = some (.int .i64 ((rd_T119 l0 x4_1).f0)) := (blk_cell BK715.out 0).trans rfl; have hcz38_1 : w37.cell? ⟨gb715, 1, none⟩ = some (.int .i64 ((rd_T119 l0 x4_1).f1)) := (blk_cell BK715.out 1).trans rfl; have hcz38_2 : w37.cell? ⟨gb715, 2, none⟩ = some (.int .i64 ((rd_T119 l0 x4_1).f2)) := (blk_cell BK715.out 2).trans rfl; have hcz38_3 : w37.cell? ⟨gb715, 3, none⟩ = some (.int .i64 ((rd_T119 l0 x4_1).f3.f0)) := (blk_cell BK715.out 3).trans rfl; have hcz38_4 : w37.cell? ⟨gb715, 4, none⟩ = some (.int .i64 ((rd_T119 l0 x4_1).f3.f1)) := (blk_cell BK715.out 4).trans rfl; have hcz38_5 : w37.cell? ⟨gb715, 5, none⟩ = some (.int .i64 ((rd_T119 l0 x4_1).f3.f2)) := (blk_cell BK715.out 5).trans rfl; have hfz38_0 := blk_frozen BK715.out 0; have hfz38_1 := blk_frozen BK715.out 1; have hfz38_2 := blk_frozen BK715.out 2; have hfz38_3 := blk_frozen BK715.out 3; have hfz38_4 := blk_frozen BK715.out 4; have hfz38_5 := blk_frozen BK715.out 5) | ((first | ((with_reducible refine gate_callee (f := 116) rfl ?_); refine goesL_ (some 20) rfl rfl Try.func116 (by kernel_rfl) rfl #[.agg #[.int .i64 ((rd_T119 l0 x4_1).f0), .int .i64 ((rd_T119 l0 x4_1).f1), .int .i64 ((rd_T119 l0 x4_1).f2), .int .i64 ((rd_T119 l0 x4_1).f3.f0), .int .i64 ((rd_T119 l0 x4_1).f3.f1), .int .i64 ((rd_T119 l0 x4_1).f3.f2)]] rfl z54_2 ?_; (with_reducible refine (impl_StmtCost.calls k1 ((rd_T119 l0 x4_1).f0) ((rd_T119 l0 x4_1).f1) ((rd_T119 l0 x4_1).f2) ((rd_T119 l0 x4_1).f3.f0) ((rd_T119 l0 x4_1).f3.f1) ((rd_T119 l0 x4_1).f3.f2) t716 _ A4.out).mono ?_)) | (go_at_call 116; (with_reducible refine (impl_StmtCost.calls k1 ((rd_T119 l0 x4_1).f0) ((rd_T119 l0 x4_1).f1) ((rd_T119 l0 x4_1).f2) ((rd_T119 l0 x4_1).f3.f0) ((rd_T119 l0 x4_1).f3.f1) ((rd_T119 l0 x4_1).f3.f2) t716 _ A4.out).mono ?_))); rintro e w39 ⟨rfl, hb⟩; (first | refine ⟨_, rfl, ?_⟩ | skip); have n0_ := Aside0.mk (blk_below (g := gb715) (o := .cells #[.int .i64 ((rd_T119 l0 x4_1).f0), .int .i64 ((rd_T119 l0 x4_1).f1), .int .i64 ((rd_T119 l0 x4_1).f2), .int .i64 ((rd_T119 l0 x4_1).f3.f0), .int .i64 ((rd_T119 l0 x4_1).f3.f1), .int .i64 ((rd_T119 l0 x4_1).f3.f2)] 119 (0, 0)) z54_5 hb); have n1_ := Aside0.mk (below_step z54_1 hb); clear BK715; clear HB; have BK715 := n0_; have HB := n1_; clear n0_ n1_; (try clear hb); (try clear hb2); (try clear hk); (try clear hi); have hcz40_0 : w39.cell? ⟨gb715, 0, none⟩ = some (.int .i64 ((rd_T119 l0 x4_1).f0)) := (blk_cell BK715.out 0).trans rfl; have hcz40_1 : w39.cell? ⟨gb715, 1, none⟩ = some (.int .i64 ((rd_T119 l0 x4_1).f1)) := (blk_cell BK715.out 1).trans rfl; have hcz40_2 : w39.cell? ⟨gb715, 2, none⟩ = some (.int .i64 ((rd_T119 l0 x4_1).f2)) := (blk_cell BK715.out 2).trans rfl; have hcz40_3 : w39.cell? ⟨gb715, 3, none⟩ = some (.int .i64 ((rd_T119 l0 x4_1).f3.f0)) := (blk_cell BK715.out 3).trans rfl; have hcz40_4 : w39.cell? ⟨gb715, 4, none⟩ = some (.int .i64 ((rd_T119 l0 x4_1).f3.f1)) := (blk_cell BK715.out 4).trans rfl; have hcz40_5 : w39.cell? ⟨gb715, 5, none⟩ = some (.int .i64 ((rd_T119 l0 x4_1).f3.f2)) := (blk_cell BK715.out 5).trans rfl; have hfz40_0 := blk_frozen BK715.out 0; have hfz40_1 := blk_frozen BK715.out 1; have hfz40_2 := blk_frozen BK715.out 2; have hfz40_3 := blk_frozen BK715.out 3; have hfz40_4 := blk_frozen BK715.out 4; have hfz40_5 := blk_frozen BK715.out 5) | ((first | ((with_reducible refine gate_callee (f := 117) rfl ?_); refine goesL_ (some 24) rfl rfl Try.func117 (by kernel_rfl) rfl #[.int .i64 ((rd_T119 l0 x4_1).f0)] rfl z54_2 ?_; (with_reducible refine (impl_isOpening.calls ((rd_T119 l0 x4_1).f0) false _ A5.out).mono ?_)) | (go_at_call 117; (with_reducible refine (impl_isOpening.calls ((rd_T119 l0 x4_1).f0) false _ A5.out).mono ?_))); rintro e w' ⟨rfl, ⟨nd, rfl⟩⟩; (first | refine ⟨_, rfl, ?_⟩ | skip)))
            go_roundg k1
            case measure => have := HK1.out; omega
            case rel => exact ⟨(wrap64 ((wrap64 (x3_1 + t716)) + 3)), (wrap64 (x4_1 + 1)), z54_6, z54_6, H', ⟨by have := HK1.out; omega⟩, ⟨by repeat (first | (with_reducible first | exact HB.out | apply below_alloc | apply pw_below_drewN | apply below_drew1 | refine below_set ?_ GE715.out) | exact HB.out)⟩⟩
        · rw [if_neg c3] at H
          exact absurd H (by simp)
      · rw [if_neg c2] at H
        have c2b0 : decide (x4_1 < (l0.length : Int)) = false := decide_eq_false c2
        clear c2
        obtain rfl := Option.some.inj H
        go_wp2
        go_ret
        exact ⟨by first | rfl | (simp [errW_none, errW_some] <;> rfl) | (simp [*, errW_none, errW_some] <;> rfl) | (simp [*, errW_none, errW_some, i64_w]; done), by repeat (first | (with_reducible first | exact HB.out | apply below_alloc | apply pw_below_drewN | apply below_drew1) | exact HB.out)⟩

end Go.Proofs.Ytaicbghmfeehkaa.G
