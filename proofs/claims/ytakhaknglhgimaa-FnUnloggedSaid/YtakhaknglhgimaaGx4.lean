/- Functions of the program as plain Lean functions, and that each call comes to its function's answer; written by a program of the session. No condition. -/
import Derived.Test.YtakhaknglhgimaaGx0
import Derived.Test.YtakhaknglhgimaaGx3
namespace Go.Proofs.Ytakhaknglhgimaa.G
open Go.RowKit Go.Proofs.YtakhaknglhgimaaW.PrintWords Go.Proofs.YtakhaknglhgimaaW.PrintLast Go.Proofs.YtakhaknglhgimaaW.PrintMore
attribute [local go_sem] max2_int min2_int max_two min_two max_three min_three max_four min_four   -- for this text's walks alone
set_option linter.unusedVariables false
set_option linter.unusedSimpArgs false

theorem z4_0 {P : Prop} (h : P := by repeat (first | (with_reducible first | exact HB.out | apply below_alloc | apply pw_below_drewN | apply below_drew1) | exact HB.out)) : P := h
theorem z4_1 {P : Prop} (h : P := by rw [hw]; exact (by (with_reducible repeat (first | refine blk_drewN ?_ _ | refine blk_drew ?_ | refine blk_alloc ?_ _)); refine blk_put (cs := #[.int .i64 ((rd_T77 l0 x8_1).f0), .int .i64 ((rd_T77 l0 x8_1).f1), .int .i64 ((rd_T77 l0 x8_1).f2), .int .i64 ((rd_T77 l0 x8_1).f3.f0), .int .i64 ((rd_T77 l0 x8_1).f3.f1), .int .i64 0]) ?_ 5 _ rfl; (with_reducible repeat (first | refine blk_drewN ?_ _ | refine blk_drew ?_ | refine blk_alloc ?_ _)); refine blk_put (cs := #[.int .i64 ((rd_T77 l0 x8_1).f0), .int .i64 ((rd_T77 l0 x8_1).f1), .int .i64 ((rd_T77 l0 x8_1).f2), .int .i64 ((rd_T77 l0 x8_1).f3.f0), .int .i64 0, .int .i64 0]) ?_ 4 _ rfl; (with_reducible repeat (first | refine blk_drewN ?_ _ | refine blk_drew ?_ | refine blk_alloc ?_ _)); refine blk_put (cs := #[.int .i64 ((rd_T77 l0 x8_1).f0), .int .i64 ((rd_T77 l0 x8_1).f1), .int .i64 ((rd_T77 l0 x8_1).f2), .int .i64 0, .int .i64 0, .int .i64 0]) ?_ 3 _ rfl; (with_reducible repeat (first | refine blk_drewN ?_ _ | refine blk_drew ?_ | refine blk_alloc ?_ _)); refine blk_put (cs := #[.int .i64 ((rd_T77 l0 x8_1).f0), .int .i64 ((rd_T77 l0 x8_1).f1), .int .i64 0, .int .i64 0, .int .i64 0, .int .i64 0]) ?_ 2 _ rfl; (with_reducible repeat (first | refine blk_drewN ?_ _ | refine blk_drew ?_ | refine blk_alloc ?_ _)); refine blk_put (cs := #[.int .i64 ((rd_T77 l0 x8_1).f0), .int .i64 0, .int .i64 0, .int .i64 0, .int .i64 0, .int .i64 0]) ?_ 1 _ rfl; (with_reducible repeat (first | refine blk_drewN ?_ _ | refine blk_drew ?_ | refine blk_alloc ?_ _)); refine blk_put (cs := #[.int .i64 0, .int .i64 0, .int .i64 0, .int .i64 0, .int .i64 0, .int .i64 0]) ?_ 0 _ rfl; (with_reducible repeat (first | refine blk_drewN ?_ _ | refine blk_drew ?_ | refine blk_alloc ?_ _)); exact BK336.out)) : P := h
theorem z4_2 {P : Prop} (h : P := by (try simp only [List.map_toArray, List.map_cons, List.map_nil]); first | done | rfl | (simp only [List.length_drop, List.length_take]; rfl)) : P := h
theorem z4_3 {P : Prop} (h : P := by first | rfl | (simp; done) | (simp [*]; done)) : P := h
theorem z4_4 {P : Prop} (h : P := by first | (with_reducible assumption) | assumption) : P := h
theorem z4_5 {P : Prop} (h : P := by first | (go_simp; done) | (go_simp; rfl)) : P := h
theorem z4_6 {P : Prop} (h : P := by repeat (first | exact (Kd.C_below HR0_0.out HB.out) | (with_reducible refine Kd.C_alloc ?_ _) | (with_reducible refine Kd.C_drewN ?_ _) | (with_reducible refine Kd.C_drew ?_))) : P := h
theorem z4_7 {P : Prop} (h : P := by repeat (first | (with_reducible first | exact HB.out | apply below_alloc | apply pw_below_drewN | apply below_drew1 | refine below_set ?_ GE336.out) | exact HB.out)) : P := h
theorem z4_8 {P : Prop} (h : P := by repeat (first | (with_reducible first | exact HB.out | apply below_alloc | apply pw_below_drewN | apply below_drew1 | refine below_set ?_ GE339.out) | exact HB.out)) : P := h
theorem z4_9 {P : Prop} (h : P := by (with_reducible repeat (first | refine blk_drewN ?_ _ | refine blk_drew ?_ | refine blk_alloc ?_ _)); exact BK339.out) : P := h
theorem z4_10 {P : Prop} (h : P := by rw [hg]; exact (below_size z4_0)) : P := h
/-! ### impl_BlockOk: function 55 -/
mutual
def impl_BlockOk.l0 : Nat → List (S77) → Int → List (S77) → Int → Int → Option (Bool)
  | 0, _, _, _, _, _ => none
  | k + 1, x0, x3, x6, x7, x8 => if x8 < x7 then (if 0 ≤ x8 then (if x8 < (x6.length : Int) then ((impl_StmtOk.f k ((rd_T77 x6 x8).f0) ((rd_T77 x6 x8).f1) ((rd_T77 x6 x8).f2) ((rd_T77 x6 x8).f3.f0) ((rd_T77 x6 x8).f3.f1) ((rd_T77 x6 x8).f3.f2)).bind fun t337 => (if t337 = true then ((impl_isOpening.f ((rd_T77 x6 x8).f0)).bind fun t338 => (if t338 = true then (impl_BlockOk.j1 k x0 (wrap64 (x3 + 1)) x6 x7 x8 ((rd_T77 x6 x8).f0) ((rd_T77 x6 x8).f1) ((rd_T77 x6 x8).f2) ((rd_T77 x6 x8).f3.f0) ((rd_T77 x6 x8).f3.f1) ((rd_T77 x6 x8).f3.f2)) else (impl_BlockOk.j1 k x0 x3 x6 x7 x8 ((rd_T77 x6 x8).f0) ((rd_T77 x6 x8).f1) ((rd_T77 x6 x8).f2) ((rd_T77 x6 x8).f3.f0) ((rd_T77 x6 x8).f3.f1) ((rd_T77 x6 x8).f3.f2)))) else (some false))) else (none)) else (none)) else (if x3 = 0 then (some (decide ((x0.length : Int) ≤ 24))) else (some false))
def impl_BlockOk.j1 : Nat → List (S77) → Int → List (S77) → Int → Int → Int → Int → Int → Int → Int → Int → Option (Bool)
  | 0, _, _, _, _, _, _, _, _, _, _, _ => none
  | k + 1, x0, x3, x6, x7, x8, x337000, x337001, x337002, x337003, x337004, x337005 => if x337000 = 6 then (if (wrap64 (x3 - 1)) < 0 then (some false) else (if (wrap64 (x3 - 1)) > 3 then (some false) else (impl_BlockOk.l0 k x0 (wrap64 (x3 - 1)) x6 x7 (wrap64 (x8 + 1))))) else (if x3 < 0 then (some false) else (if x3 > 3 then (some false) else (impl_BlockOk.l0 k x0 x3 x6 x7 (wrap64 (x8 + 1)))))
end
def impl_BlockOk.f (k : Nat) (l0 : List (S77)) : Option (Bool) := impl_BlockOk.l0 k l0 0 l0 (l0.length : Int) 0
theorem impl_BlockOk.mono_l : ∀ k, (∀ y0 y1 y2 y3 y4, LeO (impl_BlockOk.l0 k y0 y1 y2 y3 y4) (impl_BlockOk.l0 (k + 1) y0 y1 y2 y3 y4)) ∧ (∀ y0 y1 y2 y3 y4 y5 y6 y7 y8 y9 y10, LeO (impl_BlockOk.j1 k y0 y1 y2 y3 y4 y5 y6 y7 y8 y9 y10) (impl_BlockOk.j1 (k + 1) y0 y1 y2 y3 y4 y5 y6 y7 y8 y9 y10))
  | 0 => ⟨fun _ _ _ _ _ r h => by simp [impl_BlockOk.l0] at h, fun _ _ _ _ _ _ _ _ _ _ _ r h => by simp [impl_BlockOk.j1] at h⟩
  | k + 1 => by
    obtain ⟨ih0, ih1⟩ := impl_BlockOk.mono_l k
    refine ⟨?_, ?_⟩
    · intro y0 y1 y2 y3 y4
      unfold impl_BlockOk.l0
      repeat' first
      | (with_reducible exact ih0 _ _ _ _ _)
      | (with_reducible exact ih1 _ _ _ _ _ _ _ _ _ _ _)
      | (with_reducible exact impl_StmtOk.mono _ _ _ _ _ _ _)
      | (with_reducible exact LeO.refl _)
      | (with_reducible exact LeO.none _)
      | (with_reducible refine LeO.ite ?_ ?_)
      | (with_reducible refine LeO.bind ?_ (fun _ => ?_))
      | exact ih0 _ _ _ _ _
      | exact ih1 _ _ _ _ _ _ _ _ _ _ _
      | exact impl_StmtOk.mono _ _ _ _ _ _ _
      | exact LeO.none _
      | refine LeO.ite ?_ ?_
      | refine LeO.bind ?_ (fun _ => ?_)
    · intro y0 y1 y2 y3 y4 y5 y6 y7 y8 y9 y10
      unfold impl_BlockOk.j1
      repeat' first
      | (with_reducible exact ih0 _ _ _ _ _)
      | (with_reducible exact ih1 _ _ _ _ _ _ _ _ _ _ _)
      | (with_reducible exact impl_StmtOk.mono _ _ _ _ _ _ _)
      | (with_reducible exact LeO.refl _)
      | (with_reducible exact LeO.none _)
      | (with_reducible refine LeO.ite ?_ ?_)
      | (with_reducible refine LeO.bind ?_ (fun _ => ?_))
      | exact ih0 _ _ _ _ _
      | exact ih1 _ _ _ _ _ _ _ _ _ _ _
      | exact impl_StmtOk.mono _ _ _ _ _ _ _
      | exact LeO.none _
      | refine LeO.ite ?_ ?_
      | refine LeO.bind ?_ (fun _ => ?_)
theorem impl_BlockOk.mono : ∀ a0 k, LeO (impl_BlockOk.f k a0) (impl_BlockOk.f (k + 1) a0) := by
  intro a0 k
  obtain ⟨ih0, ih1⟩ := impl_BlockOk.mono_l k
  unfold impl_BlockOk.f
  repeat' first
      | (with_reducible exact ih0 _ _ _ _ _)
      | (with_reducible exact ih1 _ _ _ _ _ _ _ _ _ _ _)
      | (with_reducible exact impl_StmtOk.mono _ _ _ _ _ _ _)
      | (with_reducible exact LeO.refl _)
      | (with_reducible exact LeO.none _)
      | (with_reducible refine LeO.ite ?_ ?_)
      | (with_reducible refine LeO.bind ?_ (fun _ => ?_))
      | exact ih0 _ _ _ _ _
      | exact ih1 _ _ _ _ _ _ _ _ _ _ _
      | exact impl_StmtOk.mono _ _ _ _ _ _ _
      | exact LeO.none _
      | refine LeO.ite ?_ ?_
      | refine LeO.bind ?_ (fun _ => ?_)
set_option maxHeartbeats 8000000 in
set_option maxRecDepth 100000 in
theorem impl_BlockOk.calls (k : Nat) (A0 : Option Addr) (c0 : Nat) (l0 : List (S77)) (r : Bool) (w : World) (hr0 : Kd.C k77 w A0 l0.length l0) (hc0 : l0.length ≤ c0) (h : impl_BlockOk.f k l0 = some r) :
    Calls Try.prog 55 #[.slice A0 l0.length c0] w fun e w' => e = .returned (.bool r) ∧ Below w.heap.size w w' := by
  have hu77 := Try.underlying77
  have HR0 := Aside0.mk hr0
  have HC0 := Aside0.mk hc0
  clear hr0 hc0
  have HB := Aside0.mk (Below.refl w.heap.size w)
  have H : (impl_BlockOk.l0 k l0 0 l0 (l0.length : Int) 0) = some r := h
  clear h
  have H' := Aside0.mk H
  clear H
  go_enter Try.func55, Try.ntmps55
  go_wp2
  go_loopg [3, 8] k (fun kq v3 v8 w' => ∃ (x3_1 : Int) (x8_1 : Int), v3 = .int .i64 x3_1 ∧ v8 = .int .i64 x8_1 ∧ Aside0 (impl_BlockOk.l0 kq l0 x3_1 l0 (l0.length : Int) x8_1 = some r) ∧ Aside0 (kq ≤ k) ∧ Aside0 (Below w.heap.size w w'))
  case atStart => exact ⟨(0), (0), z4_3, z4_3, H', ⟨Nat.le_refl _⟩, ⟨by repeat (first | (with_reducible first | exact HB.out | apply below_alloc | apply pw_below_drewN | apply below_drew1) | exact HB.out)⟩⟩
  case round =>
    clear H'
    obtain ⟨x3_1, x8_1, rfl, rfl, HA, HK1, HB⟩ := hrel
    cases gk with
    | zero => exact absurd HA.out (by simp [impl_BlockOk.l0])
    | succ k1 =>
      have H := HA.out
      clear HA
      simp only [impl_BlockOk.l0] at H
      by_cases c2 : x8_1 < (l0.length : Int)
      · rw [if_pos c2] at H
        have c2b0 : decide (x8_1 < (l0.length : Int)) = true := decide_eq_true c2
        clear c2
        by_cases c3 : 0 ≤ x8_1
        · rw [if_pos c3] at H
          have c3b0 : decide (0 ≤ x8_1) = true := decide_eq_true c3
          clear c3
          by_cases c4 : x8_1 < (l0.length : Int)
          · rw [if_pos c4] at H
            have c4b0 : decide (x8_1 < (l0.length : Int)) = true := decide_eq_true c4
            clear c4
            replace H := Option.bind_eq_some_iff.mp H
            obtain ⟨t337, A50, H⟩ := H
            replace H : (if t337 = true then ((impl_isOpening.f ((rd_T77 l0 x8_1).f0)).bind fun t338 => (if t338 = true then (impl_BlockOk.j1 k1 l0 (wrap64 (x3_1 + 1)) l0 (l0.length : Int) x8_1 ((rd_T77 l0 x8_1).f0) ((rd_T77 l0 x8_1).f1) ((rd_T77 l0 x8_1).f2) ((rd_T77 l0 x8_1).f3.f0) ((rd_T77 l0 x8_1).f3.f1) ((rd_T77 l0 x8_1).f3.f2)) else (impl_BlockOk.j1 k1 l0 x3_1 l0 (l0.length : Int) x8_1 ((rd_T77 l0 x8_1).f0) ((rd_T77 l0 x8_1).f1) ((rd_T77 l0 x8_1).f2) ((rd_T77 l0 x8_1).f3.f0) ((rd_T77 l0 x8_1).f3.f1) ((rd_T77 l0 x8_1).f3.f2)))) else (some false)) = some r := H
            have A5 := Aside0.mk A50
            clear A50
            by_cases c6 : t337 = true
            · subst c6
              have H1 : ((impl_isOpening.f ((rd_T77 l0 x8_1).f0)).bind fun t338 => (if t338 = true then (impl_BlockOk.j1 k1 l0 (wrap64 (x3_1 + 1)) l0 (l0.length : Int) x8_1 ((rd_T77 l0 x8_1).f0) ((rd_T77 l0 x8_1).f1) ((rd_T77 l0 x8_1).f2) ((rd_T77 l0 x8_1).f3.f0) ((rd_T77 l0 x8_1).f3.f1) ((rd_T77 l0 x8_1).f3.f2)) else (impl_BlockOk.j1 k1 l0 x3_1 l0 (l0.length : Int) x8_1 ((rd_T77 l0 x8_1).f0) ((rd_T77 l0 x8_1).f1) ((rd_T77 l0 x8_1).f2) ((rd_T77 l0 x8_1).f3.f0) ((rd_T77 l0 x8_1).f3.f1) ((rd_T77 l0 x8_1).f3.f2)))) = some r := by rw [if_pos rfl] at H; exact H
              clear H
              have H := H1
              clear H1
              replace H := Option.bind_eq_some_iff.mp H
              obtain ⟨t338, A70, H⟩ := H
              replace H : (if t338 = true then (impl_BlockOk.j1 k1 l0 (wrap64 (x3_1 + 1)) l0 (l0.length : Int) x8_1 ((rd_T77 l0 x8_1).f0) ((rd_T77 l0 x8_1).f1) ((rd_T77 l0 x8_1).f2) ((rd_T77 l0 x8_1).f3.f0) ((rd_T77 l0 x8_1).f3.f1) ((rd_T77 l0 x8_1).f3.f2)) else (impl_BlockOk.j1 k1 l0 x3_1 l0 (l0.length : Int) x8_1 ((rd_T77 l0 x8_1).f0) ((rd_T77 l0 x8_1).f1) ((rd_T77 l0 x8_1).f2) ((rd_T77 l0 x8_1).f3.f0) ((rd_T77 l0 x8_1).f3.f1) ((rd_T77 l0 x8_1).f3.f2))) = some r := H
              have A7 := Aside0.mk A70
              clear A70
              have HC8 := Aside0.mk H
              clear H
              have p335 : 0 ≤ (x8_1 : Int) := of_decide_eq_true z4_4
              have q335 : x8_1 < (l0.length : Int) := of_decide_eq_true z4_4
              obtain ⟨ad335, e335, hx335_0, hx335_1, hx335_2, hx335_3, hx335_4, hx335_5⟩ := at_T77 HR0.out x8_1 p335 q335
              cases e335
              replace hx335_0 := (HB.out.cell (World.block_lt_of_cell? w _ hx335_0)).trans hx335_0
              replace hx335_1 := (HB.out.cell (World.block_lt_of_cell? w _ hx335_1)).trans hx335_1
              replace hx335_2 := (HB.out.cell (World.block_lt_of_cell? w _ hx335_2)).trans hx335_2
              replace hx335_3 := (HB.out.cell (World.block_lt_of_cell? w _ hx335_3)).trans hx335_3
              replace hx335_4 := (HB.out.cell (World.block_lt_of_cell? w _ hx335_4)).trans hx335_4
              replace hx335_5 := (HB.out.cell (World.block_lt_of_cell? w _ hx335_5)).trans hx335_5
              replace p335 := eq_true p335
              replace q335 := eq_true q335
              go_upto_if 17 with (first | ((with_reducible refine gate_dst (N := 5) rfl ?_); (try (refine gate_guard (by rfl) ?_; dsimp only)); refine box_event ?hg (N := 5) ?hd (cs := #[.int .i64 0, .int .i64 0, .int .i64 0, .int .i64 0, .int .i64 0, .int .i64 0]) (t := 77) ?hr ?_; (case hd => rfl); (case hg => rfl); (case hr => exact z4_5); intro gb336 hg w9 hbox hb; have n0_ := Aside0.mk (below_step z4_0 hb); have n1_ := Aside0.mk (hbox); have n2_ := Aside0.mk ((z4_10 : w.heap.size ≤ gb336)); have n3_ := Aside0.mk ((z4_10 : w.heap.size ≤ gb336)); clear HB; have HB := n0_; have BK336 := n1_; have GW336 := n2_; have GE336 := n3_; clear n0_ n1_ n2_ n3_; clear hb hbox hg; have hcz10_0 : w9.cell? ⟨gb336, 0, none⟩ = some (.int .i64 0) := (blk_cell BK336.out 0).trans rfl; have hcz10_1 : w9.cell? ⟨gb336, 1, none⟩ = some (.int .i64 0) := (blk_cell BK336.out 1).trans rfl; have hcz10_2 : w9.cell? ⟨gb336, 2, none⟩ = some (.int .i64 0) := (blk_cell BK336.out 2).trans rfl; have hcz10_3 : w9.cell? ⟨gb336, 3, none⟩ = some (.int .i64 0) := (blk_cell BK336.out 3).trans rfl; have hcz10_4 : w9.cell? ⟨gb336, 4, none⟩ = some (.int .i64 0) := (blk_cell BK336.out 4).trans rfl; have hcz10_5 : w9.cell? ⟨gb336, 5, none⟩ = some (.int .i64 0) := (blk_cell BK336.out 5).trans rfl; have hfz10_0 := blk_frozen BK336.out 0; have hfz10_1 := blk_frozen BK336.out 1; have hfz10_2 := blk_frozen BK336.out 2; have hfz10_3 := blk_frozen BK336.out 3; have hfz10_4 := blk_frozen BK336.out 4; have hfz10_5 := blk_frozen BK336.out 5) | ((with_reducible refine gate_store (t := 77) (p := 5) rfl ?_); refine store_event (t := 77) (p := 5) (v := ?vo_w11) (w1 := ((((((w9.setCell ⟨gb336, 0, none⟩ (.int .i64 ((rd_T77 l0 x8_1).f0))).setCell ⟨gb336, 1, none⟩ (.int .i64 ((rd_T77 l0 x8_1).f1))).setCell ⟨gb336, 2, none⟩ (.int .i64 ((rd_T77 l0 x8_1).f2))).setCell ⟨gb336, 3, none⟩ (.int .i64 ((rd_T77 l0 x8_1).f3.f0))).setCell ⟨gb336, 4, none⟩ (.int .i64 ((rd_T77 l0 x8_1).f3.f1))).setCell ⟨gb336, 5, none⟩ (.int .i64 ((rd_T77 l0 x8_1).f3.f2)))) ?hg ?ho ?hn ?hr ?_; (case ho => rfl); (case hg => rfl); (case hn => rfl); (case hr => exact z4_5); intro w11 hw; have n0_ : Aside0 (w11.heap[gb336]? = some (.cells #[.int .i64 ((rd_T77 l0 x8_1).f0), .int .i64 ((rd_T77 l0 x8_1).f1), .int .i64 ((rd_T77 l0 x8_1).f2), .int .i64 ((rd_T77 l0 x8_1).f3.f0), .int .i64 ((rd_T77 l0 x8_1).f3.f1), .int .i64 ((rd_T77 l0 x8_1).f3.f2)] 77 (0, 0))) := ⟨z4_1⟩; have n1_ : Aside0 (Below w.heap.size w w11) := ⟨(by rw [hw]; exact z4_7)⟩; clear hw; clear BK336; clear HB; have BK336 := n0_; have HB := n1_; clear n0_ n1_; have hcz12_0 : w11.cell? ⟨gb336, 0, none⟩ = some (.int .i64 ((rd_T77 l0 x8_1).f0)) := (blk_cell BK336.out 0).trans rfl; have hcz12_1 : w11.cell? ⟨gb336, 1, none⟩ = some (.int .i64 ((rd_T77 l0 x8_1).f1)) := (blk_cell BK336.out 1).trans rfl; have hcz12_2 : w11.cell? ⟨gb336, 2, none⟩ = some (.int .i64 ((rd_T77 l0 x8_1).f2)) := (blk_cell BK336.out 2).trans rfl; have hcz12_3 : w11.cell? ⟨gb336, 3, none⟩ = some (.int .i64 ((rd_T77 l0 x8_1).f3.f0)) := (blk_cell BK336.out 3).trans rfl; have hcz12_4 : w11.cell? ⟨gb336, 4, none⟩ = some (.int .i64 ((rd_T77 l0 x8_1).f3.f1)) := (blk_cell BK336.out 4).trans rfl; have hcz12_5 : w11.cell? ⟨gb336, 5, none⟩ = some (.int .i64 ((rd_T77 l0 x8_1).f3.f2)) := (blk_cell BK336.out 5).trans rfl; have hfz12_0 := blk_frozen BK336.out 0; have hfz12_1 := blk_frozen BK336.out 1; have hfz12_2 := blk_frozen BK336.out 2; have hfz12_3 := blk_frozen BK336.out 3; have hfz12_4 := blk_frozen BK336.out 4; have hfz12_5 := blk_frozen BK336.out 5) | ((first | ((with_reducible refine gate_callee (f := 98) rfl ?_); refine goesL_ (some 13) rfl rfl Try.func98 (by kernel_rfl) rfl #[.agg #[.int .i64 ((rd_T77 l0 x8_1).f0), .int .i64 ((rd_T77 l0 x8_1).f1), .int .i64 ((rd_T77 l0 x8_1).f2), .int .i64 ((rd_T77 l0 x8_1).f3.f0), .int .i64 ((rd_T77 l0 x8_1).f3.f1), .int .i64 ((rd_T77 l0 x8_1).f3.f2)]] rfl z4_2 ?_; (with_reducible refine (impl_StmtOk.calls k1 ((rd_T77 l0 x8_1).f0) ((rd_T77 l0 x8_1).f1) ((rd_T77 l0 x8_1).f2) ((rd_T77 l0 x8_1).f3.f0) ((rd_T77 l0 x8_1).f3.f1) ((rd_T77 l0 x8_1).f3.f2) true _ A5.out).mono ?_)) | (go_at_call 98; (with_reducible refine (impl_StmtOk.calls k1 ((rd_T77 l0 x8_1).f0) ((rd_T77 l0 x8_1).f1) ((rd_T77 l0 x8_1).f2) ((rd_T77 l0 x8_1).f3.f0) ((rd_T77 l0 x8_1).f3.f1) ((rd_T77 l0 x8_1).f3.f2) true _ A5.out).mono ?_))); rintro e w13 ⟨rfl, hb⟩; (first | refine ⟨_, rfl, ?_⟩ | skip); have n0_ := Aside0.mk (blk_below (g := gb336) (o := .cells #[.int .i64 ((rd_T77 l0 x8_1).f0), .int .i64 ((rd_T77 l0 x8_1).f1), .int .i64 ((rd_T77 l0 x8_1).f2), .int .i64 ((rd_T77 l0 x8_1).f3.f0), .int .i64 ((rd_T77 l0 x8_1).f3.f1), .int .i64 ((rd_T77 l0 x8_1).f3.f2)] 77 (0, 0)) (by (with_reducible repeat (first | refine blk_drewN ?_ _ | refine blk_drew ?_ | refine blk_alloc ?_ _)); exact BK336.out) hb); have n1_ := Aside0.mk (below_step z4_7 hb); clear BK336; clear HB; have BK336 := n0_; have HB := n1_; clear n0_ n1_; (try clear hb); (try clear hb2); (try clear hk); (try clear hi); have hcz14_0 : w13.cell? ⟨gb336, 0, none⟩ = some (.int .i64 ((rd_T77 l0 x8_1).f0)) := (blk_cell BK336.out 0).trans rfl; have hcz14_1 : w13.cell? ⟨gb336, 1, none⟩ = some (.int .i64 ((rd_T77 l0 x8_1).f1)) := (blk_cell BK336.out 1).trans rfl; have hcz14_2 : w13.cell? ⟨gb336, 2, none⟩ = some (.int .i64 ((rd_T77 l0 x8_1).f2)) := (blk_cell BK336.out 2).trans rfl; have hcz14_3 : w13.cell? ⟨gb336, 3, none⟩ = some (.int .i64 ((rd_T77 l0 x8_1).f3.f0)) := (blk_cell BK336.out 3).trans rfl; have hcz14_4 : w13.cell? ⟨gb336, 4, none⟩ = some (.int .i64 ((rd_T77 l0 x8_1).f3.f1)) := (blk_cell BK336.out 4).trans rfl; have hcz14_5 : w13.cell? ⟨gb336, 5, none⟩ = some (.int .i64 ((rd_T77 l0 x8_1).f3.f2)) := (blk_cell BK336.out 5).trans rfl; have hfz14_0 := blk_frozen BK336.out 0; have hfz14_1 := blk_frozen BK336.out 1; have hfz14_2 := blk_frozen BK336.out 2; have hfz14_3 := blk_frozen BK336.out 3; have hfz14_4 := blk_frozen BK336.out 4; have hfz14_5 := blk_frozen BK336.out 5) | ((first | ((with_reducible refine gate_callee (f := 59) rfl ?_); refine goesL_ (some 17) rfl rfl Try.func59 (by kernel_rfl) rfl #[.int .i64 ((rd_T77 l0 x8_1).f0)] rfl z4_2 ?_; (with_reducible refine (impl_isOpening.calls ((rd_T77 l0 x8_1).f0) t338 _ A7.out).mono ?_)) | (go_at_call 59; (with_reducible refine (impl_isOpening.calls ((rd_T77 l0 x8_1).f0) t338 _ A7.out).mono ?_))); rintro e w' ⟨rfl, ⟨nd, rfl⟩⟩; (first | refine ⟨_, rfl, ?_⟩ | skip)))
              (try simp only [Act.put, List.setIfInBounds_toArray, List.set_cons_zero, List.set_cons_succ])
              go_cut [3] (fun v3 wc => ∃ (kq : Nat) (x3_7 : Int), v3 = .int .i64 x3_7 ∧ Aside0 (impl_BlockOk.j1 kq l0 x3_7 l0 (l0.length : Int) x8_1 ((rd_T77 l0 x8_1).f0) ((rd_T77 l0 x8_1).f1) ((rd_T77 l0 x8_1).f2) ((rd_T77 l0 x8_1).f3.f0) ((rd_T77 l0 x8_1).f3.f1) ((rd_T77 l0 x8_1).f3.f2) = some r) ∧ Aside0 (kq ≤ k1) ∧ Aside0 (wc.heap[gb336]? = some (.cells #[.int .i64 ((rd_T77 l0 x8_1).f0), .int .i64 ((rd_T77 l0 x8_1).f1), .int .i64 ((rd_T77 l0 x8_1).f2), .int .i64 ((rd_T77 l0 x8_1).f3.f0), .int .i64 ((rd_T77 l0 x8_1).f3.f1), .int .i64 ((rd_T77 l0 x8_1).f3.f2)] 77 (0, 0))) ∧ Aside0 (Below w.heap.size w wc))
              case first =>
                have H := HC8.out
                clear HC8
                by_cases c15 : t338 = true
                · subst c15
                  have H1 : (impl_BlockOk.j1 k1 l0 (wrap64 (x3_1 + 1)) l0 (l0.length : Int) x8_1 ((rd_T77 l0 x8_1).f0) ((rd_T77 l0 x8_1).f1) ((rd_T77 l0 x8_1).f2) ((rd_T77 l0 x8_1).f3.f0) ((rd_T77 l0 x8_1).f3.f1) ((rd_T77 l0 x8_1).f3.f2)) = some r := by rw [if_pos rfl] at H; exact H
                  clear H
                  have H := H1
                  clear H1
                  have H' := Aside0.mk H
                  clear H
                  go_wp2
                  go_meet
                  case rel => exact ⟨_, (wrap64 (x3_1 + 1)), z4_3, H', ⟨by have := HK1.out; first | omega | exact Nat.le_refl _⟩, ⟨by (with_reducible repeat (first | refine blk_drewN ?_ _ | refine blk_drew ?_ | refine blk_alloc ?_ _)); exact BK336.out⟩, ⟨by repeat (first | (with_reducible first | exact HB.out | apply below_alloc | apply pw_below_drewN | apply below_drew1 | refine below_set ?_ GE336.out) | exact HB.out)⟩⟩
                · replace c15 := Bool.eq_false_iff.mpr c15
                  subst c15
                  have H1 : (impl_BlockOk.j1 k1 l0 x3_1 l0 (l0.length : Int) x8_1 ((rd_T77 l0 x8_1).f0) ((rd_T77 l0 x8_1).f1) ((rd_T77 l0 x8_1).f2) ((rd_T77 l0 x8_1).f3.f0) ((rd_T77 l0 x8_1).f3.f1) ((rd_T77 l0 x8_1).f3.f2)) = some r := by rw [if_neg (show ¬ (false = true) by decide)] at H; exact H
                  clear H
                  have H := H1
                  clear H1
                  have H' := Aside0.mk H
                  clear H
                  go_wp2
                  go_meet
                  case rel => exact ⟨_, (x3_1), z4_3, H', ⟨by have := HK1.out; first | omega | exact Nat.le_refl _⟩, ⟨by (with_reducible repeat (first | refine blk_drewN ?_ _ | refine blk_drew ?_ | refine blk_alloc ?_ _)); exact BK336.out⟩, ⟨by repeat (first | (with_reducible first | exact HB.out | apply below_alloc | apply pw_below_drewN | apply below_drew1 | refine below_set ?_ GE336.out) | exact HB.out)⟩⟩
              case rest =>
                clear HC8
                (try clear c2); (try clear c2b0); (try clear c3); (try clear c3b0); (try clear c4); (try clear c4b0); (try clear c6); (try clear hcz10_0); (try clear hcz10_1); (try clear hcz10_2); (try clear hcz10_3); (try clear hcz10_4); (try clear hcz10_5); (try clear hcz12_0); (try clear hcz12_1); (try clear hcz12_2); (try clear hcz12_3); (try clear hcz12_4); (try clear hcz12_5); (try clear hcz14_0); (try clear hcz14_1); (try clear hcz14_2); (try clear hcz14_3); (try clear hcz14_4); (try clear hcz14_5); (try clear hfz10_0); (try clear hfz10_1); (try clear hfz10_2); (try clear hfz10_3); (try clear hfz10_4); (try clear hfz10_5); (try clear hfz12_0); (try clear hfz12_1); (try clear hfz12_2); (try clear hfz12_3); (try clear hfz12_4); (try clear hfz12_5); (try clear hfz14_0); (try clear hfz14_1); (try clear hfz14_2); (try clear hfz14_3); (try clear hfz14_4); (try clear hfz14_5); (try clear hx335_0); (try clear hx335_1); (try clear hx335_2); (try clear hx335_3); (try clear hx335_4); (try clear hx335_5); (try clear p335); (try clear q335)
                obtain ⟨kq, x3_7, rfl, HA, HJ7, BK336, HB⟩ := hcut
                cases kq with
                | zero => exact absurd HA.out (by simp [impl_BlockOk.j1])
                | succ kj7 =>
                  have H := HA.out
                  clear HA
                  simp only [impl_BlockOk.j1] at H
                  by_cases c16 : ((rd_T77 l0 x8_1).f0) = 6
                  · rw [if_pos c16] at H
                    have c16b0 : (((rd_T77 l0 x8_1).f0) == 6) = true := beq_iff_eq.mpr c16
                    have c16b1 : (((rd_T77 l0 x8_1).f0) != 6) = false := bne_eq_false_iff_eq.mpr c16
                    clear c16
                    by_cases c17 : (wrap64 (x3_7 - 1)) < 0
                    · rw [if_pos c17] at H
                      have c17b0 : decide ((wrap64 (x3_7 - 1)) < 0) = true := decide_eq_true c17
                      clear c17
                      obtain rfl := Option.some.inj H
                      have hcz18_0 : wc.cell? ⟨gb336, 0, none⟩ = some (.int .i64 ((rd_T77 l0 x8_1).f0)) := (blk_cell BK336.out 0).trans rfl
                      have hcz18_1 : wc.cell? ⟨gb336, 1, none⟩ = some (.int .i64 ((rd_T77 l0 x8_1).f1)) := (blk_cell BK336.out 1).trans rfl
                      have hcz18_2 : wc.cell? ⟨gb336, 2, none⟩ = some (.int .i64 ((rd_T77 l0 x8_1).f2)) := (blk_cell BK336.out 2).trans rfl
                      have hcz18_3 : wc.cell? ⟨gb336, 3, none⟩ = some (.int .i64 ((rd_T77 l0 x8_1).f3.f0)) := (blk_cell BK336.out 3).trans rfl
                      have hcz18_4 : wc.cell? ⟨gb336, 4, none⟩ = some (.int .i64 ((rd_T77 l0 x8_1).f3.f1)) := (blk_cell BK336.out 4).trans rfl
                      have hcz18_5 : wc.cell? ⟨gb336, 5, none⟩ = some (.int .i64 ((rd_T77 l0 x8_1).f3.f2)) := (blk_cell BK336.out 5).trans rfl
                      have hfz18_0 := blk_frozen BK336.out 0
                      have hfz18_1 := blk_frozen BK336.out 1
                      have hfz18_2 := blk_frozen BK336.out 2
                      have hfz18_3 := blk_frozen BK336.out 3
                      have hfz18_4 := blk_frozen BK336.out 4
                      have hfz18_5 := blk_frozen BK336.out 5
                      go_wp2
                      go_ret
                      exact ⟨by first | rfl | (simp [errW_none, errW_some] <;> rfl) | (simp [*, errW_none, errW_some] <;> rfl) | (simp [*, errW_none, errW_some, i64_w]; done), by repeat (first | (with_reducible first | exact HB.out | apply below_alloc | apply pw_below_drewN | apply below_drew1 | refine below_set ?_ GE336.out) | exact HB.out)⟩
                    · rw [if_neg c17] at H
                      have c17b0 : decide ((wrap64 (x3_7 - 1)) < 0) = false := decide_eq_false c17
                      clear c17
                      by_cases c19 : (wrap64 (x3_7 - 1)) > 3
                      · rw [if_pos c19] at H
                        have c19b0 : decide (3 < (wrap64 (x3_7 - 1))) = true := decide_eq_true c19
                        clear c19
                        obtain rfl := Option.some.inj H
                        have hcz20_0 : wc.cell? ⟨gb336, 0, none⟩ = some (.int .i64 ((rd_T77 l0 x8_1).f0)) := (blk_cell BK336.out 0).trans rfl
                        have hcz20_1 : wc.cell? ⟨gb336, 1, none⟩ = some (.int .i64 ((rd_T77 l0 x8_1).f1)) := (blk_cell BK336.out 1).trans rfl
                        have hcz20_2 : wc.cell? ⟨gb336, 2, none⟩ = some (.int .i64 ((rd_T77 l0 x8_1).f2)) := (blk_cell BK336.out 2).trans rfl
                        have hcz20_3 : wc.cell? ⟨gb336, 3, none⟩ = some (.int .i64 ((rd_T77 l0 x8_1).f3.f0)) := (blk_cell BK336.out 3).trans rfl
                        have hcz20_4 : wc.cell? ⟨gb336, 4, none⟩ = some (.int .i64 ((rd_T77 l0 x8_1).f3.f1)) := (blk_cell BK336.out 4).trans rfl
                        have hcz20_5 : wc.cell? ⟨gb336, 5, none⟩ = some (.int .i64 ((rd_T77 l0 x8_1).f3.f2)) := (blk_cell BK336.out 5).trans rfl
                        have hfz20_0 := blk_frozen BK336.out 0
                        have hfz20_1 := blk_frozen BK336.out 1
                        have hfz20_2 := blk_frozen BK336.out 2
                        have hfz20_3 := blk_frozen BK336.out 3
                        have hfz20_4 := blk_frozen BK336.out 4
                        have hfz20_5 := blk_frozen BK336.out 5
                        go_wp2
                        go_ret
                        exact ⟨by first | rfl | (simp [errW_none, errW_some] <;> rfl) | (simp [*, errW_none, errW_some] <;> rfl) | (simp [*, errW_none, errW_some, i64_w]; done), by repeat (first | (with_reducible first | exact HB.out | apply below_alloc | apply pw_below_drewN | apply below_drew1 | refine below_set ?_ GE336.out) | exact HB.out)⟩
                      · rw [if_neg c19] at H
                        have c19b0 : decide (3 < (wrap64 (x3_7 - 1))) = false := decide_eq_false c19
                        clear c19
                        have H' := Aside0.mk H
                        clear H
                        have hcz21_0 : wc.cell? ⟨gb336, 0, none⟩ = some (.int .i64 ((rd_T77 l0 x8_1).f0)) := (blk_cell BK336.out 0).trans rfl
                        have hcz21_1 : wc.cell? ⟨gb336, 1, none⟩ = some (.int .i64 ((rd_T77 l0 x8_1).f1)) := (blk_cell BK336.out 1).trans rfl
                        have hcz21_2 : wc.cell? ⟨gb336, 2, none⟩ = some (.int .i64 ((rd_T77 l0 x8_1).f2)) := (blk_cell BK336.out 2).trans rfl
                        have hcz21_3 : wc.cell? ⟨gb336, 3, none⟩ = some (.int .i64 ((rd_T77 l0 x8_1).f3.f0)) := (blk_cell BK336.out 3).trans rfl
                        have hcz21_4 : wc.cell? ⟨gb336, 4, none⟩ = some (.int .i64 ((rd_T77 l0 x8_1).f3.f1)) := (blk_cell BK336.out 4).trans rfl
                        have hcz21_5 : wc.cell? ⟨gb336, 5, none⟩ = some (.int .i64 ((rd_T77 l0 x8_1).f3.f2)) := (blk_cell BK336.out 5).trans rfl
                        have hfz21_0 := blk_frozen BK336.out 0
                        have hfz21_1 := blk_frozen BK336.out 1
                        have hfz21_2 := blk_frozen BK336.out 2
                        have hfz21_3 := blk_frozen BK336.out 3
                        have hfz21_4 := blk_frozen BK336.out 4
                        have hfz21_5 := blk_frozen BK336.out 5
                        go_wp2
                        go_roundg kj7
                        case measure => have := HK1.out; have := HJ7.out; omega
                        case rel => exact ⟨(wrap64 (x3_7 - 1)), (wrap64 (x8_1 + 1)), z4_3, z4_3, H', ⟨by have := HK1.out; have := HJ7.out; omega⟩, ⟨by repeat (first | (with_reducible first | exact HB.out | apply below_alloc | apply pw_below_drewN | apply below_drew1 | refine below_set ?_ GE336.out) | exact HB.out)⟩⟩
                  · rw [if_neg c16] at H
                    have c16b0 : (((rd_T77 l0 x8_1).f0) == 6) = false := beq_eq_false_iff_ne.mpr c16
                    have c16b1 : (((rd_T77 l0 x8_1).f0) != 6) = true := bne_iff_ne.mpr c16
                    by_cases c22 : x3_7 < 0
                    · rw [if_pos c22] at H
                      have c22b0 : decide (x3_7 < 0) = true := decide_eq_true c22
                      clear c22
                      obtain rfl := Option.some.inj H
                      have hcz23_0 : wc.cell? ⟨gb336, 0, none⟩ = some (.int .i64 ((rd_T77 l0 x8_1).f0)) := (blk_cell BK336.out 0).trans rfl
                      have hcz23_1 : wc.cell? ⟨gb336, 1, none⟩ = some (.int .i64 ((rd_T77 l0 x8_1).f1)) := (blk_cell BK336.out 1).trans rfl
                      have hcz23_2 : wc.cell? ⟨gb336, 2, none⟩ = some (.int .i64 ((rd_T77 l0 x8_1).f2)) := (blk_cell BK336.out 2).trans rfl
                      have hcz23_3 : wc.cell? ⟨gb336, 3, none⟩ = some (.int .i64 ((rd_T77 l0 x8_1).f3.f0)) := (blk_cell BK336.out 3).trans rfl
                      have hcz23_4 : wc.cell? ⟨gb336, 4, none⟩ = some (.int .i64 ((rd_T77 l0 x8_1).f3.f1)) := (blk_cell BK336.out 4).trans rfl
                      have hcz23_5 : wc.cell? ⟨gb336, 5, none⟩ = some (.int .i64 ((rd_T77 l0 x8_1).f3.f2)) := (blk_cell BK336.out 5).trans rfl
                      have hfz23_0 := blk_frozen BK336.out 0
                      have hfz23_1 := blk_frozen BK336.out 1
                      have hfz23_2 := blk_frozen BK336.out 2
                      have hfz23_3 := blk_frozen BK336.out 3
                      have hfz23_4 := blk_frozen BK336.out 4
                      have hfz23_5 := blk_frozen BK336.out 5
                      go_wp2
                      go_ret
                      exact ⟨by first | rfl | (simp [errW_none, errW_some] <;> rfl) | (simp [*, errW_none, errW_some] <;> rfl) | (simp [*, errW_none, errW_some, i64_w]; done), by repeat (first | (with_reducible first | exact HB.out | apply below_alloc | apply pw_below_drewN | apply below_drew1 | refine below_set ?_ GE336.out) | exact HB.out)⟩
                    · rw [if_neg c22] at H
                      have c22b0 : decide (x3_7 < 0) = false := decide_eq_false c22
                      clear c22
                      by_cases c24 : x3_7 > 3
                      · rw [if_pos c24] at H
                        have c24b0 : decide (3 < x3_7) = true := decide_eq_true c24
                        clear c24
                        obtain rfl := Option.some.inj H
                        have hcz25_0 : wc.cell? ⟨gb336, 0, none⟩ = some (.int .i64 ((rd_T77 l0 x8_1).f0)) := (blk_cell BK336.out 0).trans rfl
                        have hcz25_1 : wc.cell? ⟨gb336, 1, none⟩ = some (.int .i64 ((rd_T77 l0 x8_1).f1)) := (blk_cell BK336.out 1).trans rfl
                        have hcz25_2 : wc.cell? ⟨gb336, 2, none⟩ = some (.int .i64 ((rd_T77 l0 x8_1).f2)) := (blk_cell BK336.out 2).trans rfl
                        have hcz25_3 : wc.cell? ⟨gb336, 3, none⟩ = some (.int .i64 ((rd_T77 l0 x8_1).f3.f0)) := (blk_cell BK336.out 3).trans rfl
                        have hcz25_4 : wc.cell? ⟨gb336, 4, none⟩ = some (.int .i64 ((rd_T77 l0 x8_1).f3.f1)) := (blk_cell BK336.out 4).trans rfl
                        have hcz25_5 : wc.cell? ⟨gb336, 5, none⟩ = some (.int .i64 ((rd_T77 l0 x8_1).f3.f2)) := (blk_cell BK336.out 5).trans rfl
                        have hfz25_0 := blk_frozen BK336.out 0
                        have hfz25_1 := blk_frozen BK336.out 1
                        have hfz25_2 := blk_frozen BK336.out 2
                        have hfz25_3 := blk_frozen BK336.out 3
                        have hfz25_4 := blk_frozen BK336.out 4
                        have hfz25_5 := blk_frozen BK336.out 5
                        go_wp2
                        go_ret
                        exact ⟨by first | rfl | (simp [errW_none, errW_some] <;> rfl) | (simp [*, errW_none, errW_some] <;> rfl) | (simp [*, errW_none, errW_some, i64_w]; done), by repeat (first | (with_reducible first | exact HB.out | apply below_alloc | apply pw_below_drewN | apply below_drew1 | refine below_set ?_ GE336.out) | exact HB.out)⟩
                      · rw [if_neg c24] at H
                        have c24b0 : decide (3 < x3_7) = false := decide_eq_false c24
                        clear c24
                        have H' := Aside0.mk H
                        clear H
                        have hcz26_0 : wc.cell? ⟨gb336, 0, none⟩ = some (.int .i64 ((rd_T77 l0 x8_1).f0)) := (blk_cell BK336.out 0).trans rfl
                        have hcz26_1 : wc.cell? ⟨gb336, 1, none⟩ = some (.int .i64 ((rd_T77 l0 x8_1).f1)) := (blk_cell BK336.out 1).trans rfl
                        have hcz26_2 : wc.cell? ⟨gb336, 2, none⟩ = some (.int .i64 ((rd_T77 l0 x8_1).f2)) := (blk_cell BK336.out 2).trans rfl
                        have hcz26_3 : wc.cell? ⟨gb336, 3, none⟩ = some (.int .i64 ((rd_T77 l0 x8_1).f3.f0)) := (blk_cell BK336.out 3).trans rfl
                        have hcz26_4 : wc.cell? ⟨gb336, 4, none⟩ = some (.int .i64 ((rd_T77 l0 x8_1).f3.f1)) := (blk_cell BK336.out 4).trans rfl
                        have hcz26_5 : wc.cell? ⟨gb336, 5, none⟩ = some (.int .i64 ((rd_T77 l0 x8_1).f3.f2)) := (blk_cell BK336.out 5).trans rfl
                        have hfz26_0 := blk_frozen BK336.out 0
                        have hfz26_1 := blk_frozen BK336.out 1
                        have hfz26_2 := blk_frozen BK336.out 2
                        have hfz26_3 := blk_frozen BK336.out 3
                        have hfz26_4 := blk_frozen BK336.out 4
                        have hfz26_5 := blk_frozen BK336.out 5
                        go_wp2
                        go_roundg kj7
                        case measure => have := HK1.out; have := HJ7.out; omega
                        case rel => exact ⟨(x3_7), (wrap64 (x8_1 + 1)), z4_3, z4_3, H', ⟨by have := HK1.out; have := HJ7.out; omega⟩, ⟨by repeat (first | (with_reducible first | exact HB.out | apply below_alloc | apply pw_below_drewN | apply below_drew1 | refine below_set ?_ GE336.out) | exact HB.out)⟩⟩
            · replace c6 := Bool.eq_false_iff.mpr c6
              subst c6
              have H1 : (some false) = some r := by rw [if_neg (show ¬ (false = true) by decide)] at H; exact H
              clear H
              have H := H1
              clear H1
              obtain rfl := Option.some.inj H
              have p335 : 0 ≤ (x8_1 : Int) := of_decide_eq_true z4_4
              have q335 : x8_1 < (l0.length : Int) := of_decide_eq_true z4_4
              obtain ⟨ad335, e335, hx335_0, hx335_1, hx335_2, hx335_3, hx335_4, hx335_5⟩ := at_T77 HR0.out x8_1 p335 q335
              cases e335
              replace hx335_0 := (HB.out.cell (World.block_lt_of_cell? w _ hx335_0)).trans hx335_0
              replace hx335_1 := (HB.out.cell (World.block_lt_of_cell? w _ hx335_1)).trans hx335_1
              replace hx335_2 := (HB.out.cell (World.block_lt_of_cell? w _ hx335_2)).trans hx335_2
              replace hx335_3 := (HB.out.cell (World.block_lt_of_cell? w _ hx335_3)).trans hx335_3
              replace hx335_4 := (HB.out.cell (World.block_lt_of_cell? w _ hx335_4)).trans hx335_4
              replace hx335_5 := (HB.out.cell (World.block_lt_of_cell? w _ hx335_5)).trans hx335_5
              replace p335 := eq_true p335
              replace q335 := eq_true q335
              go_wp2_with (first | ((with_reducible refine gate_dst (N := 5) rfl ?_); (try (refine gate_guard (by rfl) ?_; dsimp only)); refine box_event ?hg (N := 5) ?hd (cs := #[.int .i64 0, .int .i64 0, .int .i64 0, .int .i64 0, .int .i64 0, .int .i64 0]) (t := 77) ?hr ?_; (case hd => rfl); (case hg => rfl); (case hr => exact z4_5); intro gb336 hg w27 hbox hb; have n0_ := Aside0.mk (below_step z4_0 hb); have n1_ := Aside0.mk (hbox); have n2_ := Aside0.mk ((z4_10 : w.heap.size ≤ gb336)); have n3_ := Aside0.mk ((z4_10 : w.heap.size ≤ gb336)); clear HB; have HB := n0_; have BK336 := n1_; have GW336 := n2_; have GE336 := n3_; clear n0_ n1_ n2_ n3_; clear hb hbox hg; have hcz28_0 : w27.cell? ⟨gb336, 0, none⟩ = some (.int .i64 0) := (blk_cell BK336.out 0).trans rfl; have hcz28_1 : w27.cell? ⟨gb336, 1, none⟩ = some (.int .i64 0) := (blk_cell BK336.out 1).trans rfl; have hcz28_2 : w27.cell? ⟨gb336, 2, none⟩ = some (.int .i64 0) := (blk_cell BK336.out 2).trans rfl; have hcz28_3 : w27.cell? ⟨gb336, 3, none⟩ = some (.int .i64 0) := (blk_cell BK336.out 3).trans rfl; have hcz28_4 : w27.cell? ⟨gb336, 4, none⟩ = some (.int .i64 0) := (blk_cell BK336.out 4).trans rfl; have hcz28_5 : w27.cell? ⟨gb336, 5, none⟩ = some (.int .i64 0) := (blk_cell BK336.out 5).trans rfl; have hfz28_0 := blk_frozen BK336.out 0; have hfz28_1 := blk_frozen BK336.out 1; have hfz28_2 := blk_frozen BK336.out 2; have hfz28_3 := blk_frozen BK336.out 3; have hfz28_4 := blk_frozen BK336.out 4; have hfz28_5 := blk_frozen BK336.out 5) | ((with_reducible refine gate_store (t := 77) (p := 5) rfl ?_); refine store_event (t := 77) (p := 5) (v := ?vo_w29) (w1 := ((((((w27.setCell ⟨gb336, 0, none⟩ (.int .i64 ((rd_T77 l0 x8_1).f0))).setCell ⟨gb336, 1, none⟩ (.int .i64 ((rd_T77 l0 x8_1).f1))).setCell ⟨gb336, 2, none⟩ (.int .i64 ((rd_T77 l0 x8_1).f2))).setCell ⟨gb336, 3, none⟩ (.int .i64 ((rd_T77 l0 x8_1).f3.f0))).setCell ⟨gb336, 4, none⟩ (.int .i64 ((rd_T77 l0 x8_1).f3.f1))).setCell ⟨gb336, 5, none⟩ (.int .i64 ((rd_T77 l0 x8_1).f3.f2)))) ?hg ?ho ?hn ?hr ?_; (case ho => rfl); (case hg => rfl); (case hn => rfl); (case hr => exact z4_5); intro w29 hw; have n0_ : Aside0 (w29.heap[gb336]? = some (.cells #[.int .i64 ((rd_T77 l0 x8_1).f0), .int .i64 ((rd_T77 l0 x8_1).f1), .int .i64 ((rd_T77 l0 x8_1).f2), .int .i64 ((rd_T77 l0 x8_1).f3.f0), .int .i64 ((rd_T77 l0 x8_1).f3.f1), .int .i64 ((rd_T77 l0 x8_1).f3.f2)] 77 (0, 0))) := ⟨z4_1⟩; have n1_ : Aside0 (Below w.heap.size w w29) := ⟨(by rw [hw]; exact z4_7)⟩; clear hw; clear BK336; clear HB; have BK336 := n0_; have HB := n1_; clear n0_ n1_; have hcz30_0 : w29.cell? ⟨gb336, 0, none⟩ = some (.int .i64 ((rd_T77 l0 x8_1).f0)) := (blk_cell BK336.out 0).trans rfl; have hcz30_1 : w29.cell? ⟨gb336, 1, none⟩ = some (.int .i64 ((rd_T77 l0 x8_1).f1)) := (blk_cell BK336.out 1).trans rfl; have hcz30_2 : w29.cell? ⟨gb336, 2, none⟩ = some (.int .i64 ((rd_T77 l0 x8_1).f2)) := (blk_cell BK336.out 2).trans rfl; have hcz30_3 : w29.cell? ⟨gb336, 3, none⟩ = some (.int .i64 ((rd_T77 l0 x8_1).f3.f0)) := (blk_cell BK336.out 3).trans rfl; have hcz30_4 : w29.cell? ⟨gb336, 4, none⟩ = some (.int .i64 ((rd_T77 l0 x8_1).f3.f1)) := (blk_cell BK336.out 4).trans rfl; have hcz30_5 : w29.cell? ⟨gb336, 5, none⟩ = some (.int .i64 ((rd_T77 l0 x8_1).f3.f2)) := (blk_cell BK336.out 5).trans rfl; have hfz30_0 := blk_frozen BK336.out 0; have hfz30_1 := blk_frozen BK336.out 1; have hfz30_2 := blk_frozen BK336.out 2; have hfz30_3 := blk_frozen BK336.out 3; have hfz30_4 := blk_frozen BK336.out 4; have hfz30_5 := blk_frozen BK336.out 5) | ((first | ((with_reducible refine gate_callee (f := 98) rfl ?_); refine goesL_ (some 13) rfl rfl Try.func98 (by kernel_rfl) rfl #[.agg #[.int .i64 ((rd_T77 l0 x8_1).f0), .int .i64 ((rd_T77 l0 x8_1).f1), .int .i64 ((rd_T77 l0 x8_1).f2), .int .i64 ((rd_T77 l0 x8_1).f3.f0), .int .i64 ((rd_T77 l0 x8_1).f3.f1), .int .i64 ((rd_T77 l0 x8_1).f3.f2)]] rfl z4_2 ?_; (with_reducible refine (impl_StmtOk.calls k1 ((rd_T77 l0 x8_1).f0) ((rd_T77 l0 x8_1).f1) ((rd_T77 l0 x8_1).f2) ((rd_T77 l0 x8_1).f3.f0) ((rd_T77 l0 x8_1).f3.f1) ((rd_T77 l0 x8_1).f3.f2) false _ A5.out).mono ?_)) | (go_at_call 98; (with_reducible refine (impl_StmtOk.calls k1 ((rd_T77 l0 x8_1).f0) ((rd_T77 l0 x8_1).f1) ((rd_T77 l0 x8_1).f2) ((rd_T77 l0 x8_1).f3.f0) ((rd_T77 l0 x8_1).f3.f1) ((rd_T77 l0 x8_1).f3.f2) false _ A5.out).mono ?_))); rintro e w31 ⟨rfl, hb⟩; (first | refine ⟨_, rfl, ?_⟩ | skip); have n0_ := Aside0.mk (blk_below (g := gb336) (o := .cells #[.int .i64 ((rd_T77 l0 x8_1).f0), .int .i64 ((rd_T77 l0 x8_1).f1), .int .i64 ((rd_T77 l0 x8_1).f2), .int .i64 ((rd_T77 l0 x8_1).f3.f0), .int .i64 ((rd_T77 l0 x8_1).f3.f1), .int .i64 ((rd_T77 l0 x8_1).f3.f2)] 77 (0, 0)) (by (with_reducible repeat (first | refine blk_drewN ?_ _ | refine blk_drew ?_ | refine blk_alloc ?_ _)); exact BK336.out) hb); have n1_ := Aside0.mk (below_step z4_7 hb); clear BK336; clear HB; have BK336 := n0_; have HB := n1_; clear n0_ n1_; (try clear hb); (try clear hb2); (try clear hk); (try clear hi)))
              go_ret
              exact ⟨by first | rfl | (simp [errW_none, errW_some] <;> rfl) | (simp [*, errW_none, errW_some] <;> rfl) | (simp [*, errW_none, errW_some, i64_w]; done), by repeat (first | (with_reducible first | exact HB.out | apply below_alloc | apply pw_below_drewN | apply below_drew1 | refine below_set ?_ GE336.out) | exact HB.out)⟩
          · rw [if_neg c4] at H
            exact absurd H (by simp)
        · rw [if_neg c3] at H
          exact absurd H (by simp)
      · rw [if_neg c2] at H
        have c2b0 : decide (x8_1 < (l0.length : Int)) = false := decide_eq_false c2
        clear c2
        by_cases c32 : x3_1 = 0
        · rw [if_pos c32] at H
          have c32b0 : (x3_1 == 0) = true := beq_iff_eq.mpr c32
          have c32b1 : (x3_1 != 0) = false := bne_eq_false_iff_eq.mpr c32
          clear c32
          obtain rfl := Option.some.inj H
          go_wp2
          go_ret
          exact ⟨by first | rfl | (simp [errW_none, errW_some] <;> rfl) | (simp [*, errW_none, errW_some] <;> rfl) | (simp [*, errW_none, errW_some, i64_w]; done), by repeat (first | (with_reducible first | exact HB.out | apply below_alloc | apply pw_below_drewN | apply below_drew1) | exact HB.out)⟩
        · rw [if_neg c32] at H
          have c32b0 : (x3_1 == 0) = false := beq_eq_false_iff_ne.mpr c32
          have c32b1 : (x3_1 != 0) = true := bne_iff_ne.mpr c32
          obtain rfl := Option.some.inj H
          go_wp2
          go_ret
          exact ⟨by first | rfl | (simp [errW_none, errW_some] <;> rfl) | (simp [*, errW_none, errW_some] <;> rfl) | (simp [*, errW_none, errW_some, i64_w]; done), by repeat (first | (with_reducible first | exact HB.out | apply below_alloc | apply pw_below_drewN | apply below_drew1) | exact HB.out)⟩

/-! ### impl_taskOk: function 90 -/
def impl_taskOk.f (k : Nat) (l0_0 : List (S77)) (a0_1 : Int) (a0_2 : Int) (a0_3 : Int) : Option (Bool) := (impl_BlockOk.f k l0_0).bind fun t340 => (if t340 = true then ((impl_ExprOk.f a0_1 a0_2 a0_3).bind fun t341 => (some t341)) else (some false))
theorem impl_taskOk.mono : ∀ a0 a1 a2 a3 k, LeO (impl_taskOk.f k a0 a1 a2 a3) (impl_taskOk.f (k + 1) a0 a1 a2 a3) := by
  intro a0 a1 a2 a3 k
  unfold impl_taskOk.f
  repeat' first
      | (with_reducible exact impl_BlockOk.mono _ _)
      | (with_reducible exact LeO.refl _)
      | (with_reducible exact LeO.none _)
      | (with_reducible refine LeO.ite ?_ ?_)
      | (with_reducible refine LeO.bind ?_ (fun _ => ?_))
      | exact impl_BlockOk.mono _ _
      | exact LeO.none _
      | refine LeO.ite ?_ ?_
      | refine LeO.bind ?_ (fun _ => ?_)
set_option maxHeartbeats 8000000 in
set_option maxRecDepth 100000 in
theorem impl_taskOk.calls (k : Nat) (A0_0 : Option Addr) (c0_0 : Nat) (l0_0 : List (S77)) (a0_1 : Int) (a0_2 : Int) (a0_3 : Int) (r : Bool) (w : World) (hr0_0 : Kd.C k77 w A0_0 l0_0.length l0_0) (hc0_0 : l0_0.length ≤ c0_0) (h : impl_taskOk.f k l0_0 a0_1 a0_2 a0_3 = some r) :
    Calls Try.prog 90 #[.agg #[.slice A0_0 l0_0.length c0_0, .int .i64 a0_1, .int .i64 a0_2, .int .i64 a0_3]] w fun e w' => e = .returned (.bool r) ∧ Below w.heap.size w w' := by
  have hu34 := Try.underlying34
  have hu32 := Try.underlying32
  have HR0_0 := Aside0.mk hr0_0
  have HC0_0 := Aside0.mk hc0_0
  clear hr0_0 hc0_0
  have HB := Aside0.mk (Below.refl w.heap.size w)
  have H : ((impl_BlockOk.f k l0_0).bind fun t340 => (if t340 = true then ((impl_ExprOk.f a0_1 a0_2 a0_3).bind fun t341 => (some t341)) else (some false))) = some r := h
  clear h
  replace H := Option.bind_eq_some_iff.mp H
  obtain ⟨t340, A20, H⟩ := H
  replace H : (if t340 = true then ((impl_ExprOk.f a0_1 a0_2 a0_3).bind fun t341 => (some t341)) else (some false)) = some r := H
  have A2 := Aside0.mk A20
  clear A20
  by_cases c3 : t340 = true
  · subst c3
    have H1 : ((impl_ExprOk.f a0_1 a0_2 a0_3).bind fun t341 => (some t341)) = some r := by rw [if_pos rfl] at H; exact H
    clear H
    have H := H1
    clear H1
    replace H := Option.bind_eq_some_iff.mp H
    obtain ⟨t341, A40, H⟩ := H
    replace H : (some t341) = some r := H
    have A4 := Aside0.mk A40
    clear A40
    obtain rfl := Option.some.inj H
    go_enter Try.func90, Try.ntmps90
    go_wp2_with (first | ((with_reducible refine gate_dst (N := 1) rfl ?_); refine box_event ?hg (N := 1) ?hd (cs := #[.slice A0_0 l0_0.length c0_0, .int .i64 a0_1, .int .i64 a0_2, .int .i64 a0_3]) (t := 34) ?hr ?_; (case hd => rfl); (case hg => rfl); (case hr => exact z4_5); intro gb339 hg w5 hbox hb; have n0_ := Aside0.mk (below_step z4_0 hb); have n1_ := Aside0.mk (hbox); have n2_ := Aside0.mk ((z4_10 : w.heap.size ≤ gb339)); have n3_ := Aside0.mk ((z4_10 : w.heap.size ≤ gb339)); clear HB; have HB := n0_; have BK339 := n1_; have GW339 := n2_; have GE339 := n3_; clear n0_ n1_ n2_ n3_; clear hb hbox hg; have hcz6_0 : w5.cell? ⟨gb339, 0, none⟩ = some (.slice A0_0 l0_0.length c0_0) := (blk_cell BK339.out 0).trans rfl; have hcz6_1 : w5.cell? ⟨gb339, 1, none⟩ = some (.int .i64 a0_1) := (blk_cell BK339.out 1).trans rfl; have hcz6_2 : w5.cell? ⟨gb339, 2, none⟩ = some (.int .i64 a0_2) := (blk_cell BK339.out 2).trans rfl; have hcz6_3 : w5.cell? ⟨gb339, 3, none⟩ = some (.int .i64 a0_3) := (blk_cell BK339.out 3).trans rfl; have hfz6_0 := blk_frozen BK339.out 0; have hfz6_1 := blk_frozen BK339.out 1; have hfz6_2 := blk_frozen BK339.out 2; have hfz6_3 := blk_frozen BK339.out 3) | ((first | ((with_reducible refine gate_callee (f := 55) rfl ?_); refine goesL_ (some 5) rfl rfl Try.func55 (by kernel_rfl) rfl #[.slice A0_0 l0_0.length c0_0] rfl z4_2 ?_; (with_reducible refine (impl_BlockOk.calls k _ _ l0_0 true _ ?side1 ?side2 A2.out).mono ?_)) | (go_at_call 55; (with_reducible refine (impl_BlockOk.calls k _ _ l0_0 true _ ?side1 ?side2 A2.out).mono ?_))); (case side1 => exact z4_6); (case side2 => exact HC0_0.out); rintro e w7 ⟨rfl, hb⟩; (first | refine ⟨_, rfl, ?_⟩ | skip); have n0_ := Aside0.mk (blk_below (g := gb339) (o := .cells #[.slice A0_0 l0_0.length c0_0, .int .i64 a0_1, .int .i64 a0_2, .int .i64 a0_3] 34 (0, 0)) z4_9 hb); have n1_ := Aside0.mk (below_step z4_8 hb); clear BK339; clear HB; have BK339 := n0_; have HB := n1_; clear n0_ n1_; (try clear hb); (try clear hb2); (try clear hk); (try clear hi); have hcz8_0 : w7.cell? ⟨gb339, 0, none⟩ = some (.slice A0_0 l0_0.length c0_0) := (blk_cell BK339.out 0).trans rfl; have hcz8_1 : w7.cell? ⟨gb339, 1, none⟩ = some (.int .i64 a0_1) := (blk_cell BK339.out 1).trans rfl; have hcz8_2 : w7.cell? ⟨gb339, 2, none⟩ = some (.int .i64 a0_2) := (blk_cell BK339.out 2).trans rfl; have hcz8_3 : w7.cell? ⟨gb339, 3, none⟩ = some (.int .i64 a0_3) := (blk_cell BK339.out 3).trans rfl; have hfz8_0 := blk_frozen BK339.out 0; have hfz8_1 := blk_frozen BK339.out 1; have hfz8_2 := blk_frozen BK339.out 2; have hfz8_3 := blk_frozen BK339.out 3) | (go_at_call 129; (with_reducible refine (impl_ExprOk.calls a0_1 a0_2 a0_3 t341 _ A4.out).mono ?_); rintro e w9 ⟨rfl, hb⟩; have n0_ := Aside0.mk (blk_below (g := gb339) (o := .cells #[.slice A0_0 l0_0.length c0_0, .int .i64 a0_1, .int .i64 a0_2, .int .i64 a0_3] 34 (0, 0)) z4_9 hb); have n1_ := Aside0.mk (below_step z4_8 hb); clear BK339; clear HB; have BK339 := n0_; have HB := n1_; clear n0_ n1_; (try clear hb); (try clear hb2); (try clear hk); (try clear hi)))
    go_ret
    exact ⟨by first | rfl | (simp [errW_none, errW_some] <;> rfl) | (simp [*, errW_none, errW_some] <;> rfl) | (simp [*, errW_none, errW_some, i64_w]; done), by repeat (first | (with_reducible first | exact HB.out | apply below_alloc | apply pw_below_drewN | apply below_drew1 | refine below_set ?_ GE339.out) | exact HB.out)⟩
  · replace c3 := Bool.eq_false_iff.mpr c3
    subst c3
    have H1 : (some false) = some r := by rw [if_neg (show ¬ (false = true) by decide)] at H; exact H
    clear H
    have H := H1
    clear H1
    obtain rfl := Option.some.inj H
    go_enter Try.func90, Try.ntmps90
    go_wp2_with (first | ((with_reducible refine gate_dst (N := 1) rfl ?_); refine box_event ?hg (N := 1) ?hd (cs := #[.slice A0_0 l0_0.length c0_0, .int .i64 a0_1, .int .i64 a0_2, .int .i64 a0_3]) (t := 34) ?hr ?_; (case hd => rfl); (case hg => rfl); (case hr => exact z4_5); intro gb339 hg w10 hbox hb; have n0_ := Aside0.mk (below_step z4_0 hb); have n1_ := Aside0.mk (hbox); have n2_ := Aside0.mk ((z4_10 : w.heap.size ≤ gb339)); have n3_ := Aside0.mk ((z4_10 : w.heap.size ≤ gb339)); clear HB; have HB := n0_; have BK339 := n1_; have GW339 := n2_; have GE339 := n3_; clear n0_ n1_ n2_ n3_; clear hb hbox hg; have hcz11_0 : w10.cell? ⟨gb339, 0, none⟩ = some (.slice A0_0 l0_0.length c0_0) := (blk_cell BK339.out 0).trans rfl; have hcz11_1 : w10.cell? ⟨gb339, 1, none⟩ = some (.int .i64 a0_1) := (blk_cell BK339.out 1).trans rfl; have hcz11_2 : w10.cell? ⟨gb339, 2, none⟩ = some (.int .i64 a0_2) := (blk_cell BK339.out 2).trans rfl; have hcz11_3 : w10.cell? ⟨gb339, 3, none⟩ = some (.int .i64 a0_3) := (blk_cell BK339.out 3).trans rfl; have hfz11_0 := blk_frozen BK339.out 0; have hfz11_1 := blk_frozen BK339.out 1; have hfz11_2 := blk_frozen BK339.out 2; have hfz11_3 := blk_frozen BK339.out 3) | ((first | ((with_reducible refine gate_callee (f := 55) rfl ?_); refine goesL_ (some 5) rfl rfl Try.func55 (by kernel_rfl) rfl #[.slice A0_0 l0_0.length c0_0] rfl z4_2 ?_; (with_reducible refine (impl_BlockOk.calls k _ _ l0_0 false _ ?side1 ?side2 A2.out).mono ?_)) | (go_at_call 55; (with_reducible refine (impl_BlockOk.calls k _ _ l0_0 false _ ?side1 ?side2 A2.out).mono ?_))); (case side1 => exact z4_6); (case side2 => exact HC0_0.out); rintro e w12 ⟨rfl, hb⟩; (first | refine ⟨_, rfl, ?_⟩ | skip); have n0_ := Aside0.mk (blk_below (g := gb339) (o := .cells #[.slice A0_0 l0_0.length c0_0, .int .i64 a0_1, .int .i64 a0_2, .int .i64 a0_3] 34 (0, 0)) z4_9 hb); have n1_ := Aside0.mk (below_step z4_8 hb); clear BK339; clear HB; have BK339 := n0_; have HB := n1_; clear n0_ n1_; (try clear hb); (try clear hb2); (try clear hk); (try clear hi)))
    go_ret
    exact ⟨by first | rfl | (simp [errW_none, errW_some] <;> rfl) | (simp [*, errW_none, errW_some] <;> rfl) | (simp [*, errW_none, errW_some, i64_w]; done), by repeat (first | (with_reducible first | exact HB.out | apply below_alloc | apply pw_below_drewN | apply below_drew1 | refine below_set ?_ GE339.out) | exact HB.out)⟩

-- NOT PRINTED: function 161 (impl_Task_161)

-- NOT PRINTED: function 136 (impl_Task_136)

-- NOT PRINTED: function 137 (impl_ProgramOk_1)

/-! ### impl_ProgramOk: function 99 -/
/-- Whether one of the tasks is not valid: asked one by one, until one is not. -/
def anyNot (k : Nat) : List S34 → Option Bool
  | [] => some false
  | t :: r => (impl_taskOk.f k t.f0 t.f1.f0 t.f1.f1 t.f1.f2).bind fun b => if b = true then anyNot k r else some true
theorem anyNot_mono (k : Nat) : ∀ l, LeO (anyNot k l) (anyNot (k + 1) l)
  | [] => LeO.refl _
  | t :: r => LeO.bind (impl_taskOk.mono _ _ _ _ k) (fun _ => LeO.ite (anyNot_mono k r) (LeO.refl _))
theorem drop_task {l : List S34} {i : Int} (h0 : 0 ≤ i) (h : i < (l.length : Int)) : l.drop i.toNat = rd_T34 l i :: l.drop (i + 1).toNat := by
  have h1 : i.toNat < l.length := by omega
  have h2 : (i + 1).toNat = i.toNat + 1 := by omega
  unfold rd_T34
  rw [h2, List.drop_eq_getElem_cons h1, List.getD_eq_getElem?_getD, List.getElem?_eq_getElem h1]
  rfl
set_option maxHeartbeats 8000000 in
set_option maxRecDepth 100000 in
theorem taskNot_clo (k : Nat) (A : Option Addr) (c : Nat) (l : List S77) (a1 a2 a3 : Int) (b : Bool) (w : World) (hr : Kd.C k77 w A l.length l) (hc : l.length ≤ c) (h : impl_taskOk.f k l a1 a2 a3 = some b) :
    Calls Try.prog 137 #[.agg #[.slice A l.length c, .int .i64 a1, .int .i64 a2, .int .i64 a3]] w fun e w' => e = .returned (.bool (!b)) ∧ Below w.heap.size w w' := by
  have HR := Aside0.mk hr
  have HC := Aside0.mk hc
  have Hb := Aside0.mk h
  have HB := Aside0.mk (Below.refl w.heap.size w)
  clear hr hc h
  go_enter Try.func137, Try.ntmps137
  go_wp2_with (go_at_call 90; (with_reducible refine (impl_taskOk.calls k _ _ l a1 a2 a3 b _ ?side1 ?side2 Hb.out).mono ?_); (case side1 => repeat (first | exact (Kd.C_below HR.out HB.out) | (with_reducible refine Kd.C_alloc ?_ _) | (with_reducible refine Kd.C_drewN ?_ _) | (with_reducible refine Kd.C_drew ?_))); (case side2 => exact HC.out); rintro e w10 ⟨rfl, hb⟩; have n1_ := Aside0.mk (below_step z4_0 hb); clear HB; have HB := n1_; clear n1_; clear hb)
  go_ret
  exact ⟨rfl, by repeat (first | (with_reducible first | exact HB.out | apply below_alloc | apply pw_below_drewN | apply below_drew1) | exact HB.out)⟩
set_option maxHeartbeats 8000000 in
set_option maxRecDepth 100000 in
theorem taskNot_index (k : Nat) (A : Option Addr) (c : Nat) (l : List S34) (r : Bool) (w : World) (hr : Kd.C k34 w A l.length l) (h : anyNot k l = some r) :
    Calls Try.prog 161 #[.slice A l.length c, .func (.func 137) #[] #[]] w fun e w' => ∃ i : Int, e = .returned (.int .i64 i) ∧ decide (i ≥ 0) = r ∧ Below w.heap.size w w' := by
  have HR := Aside0.mk hr
  have HH := Aside0.mk h
  have hlen : l.length ≤ 9223372036854775807 := hr.2.1
  clear hr h
  go_enter Try.func161, Try.ntmps161
  go_wp2
  go_loopw [8] (fun v8 w' => ∃ x : Int, v8 = .int .i64 x ∧ Aside0 (0 ≤ x) ∧ Aside0 (x ≤ (l.length : Int)) ∧ Aside0 (anyNot k (l.drop x.toNat) = some r) ∧ Aside0 (Below w.heap.size w w')) (fun v8 _ => l.length - (intOf v8).toNat)
  case atStart => exact ⟨0, rfl, ⟨by omega⟩, ⟨by omega⟩, HH, ⟨by repeat (first | exact Below.refl _ _ | apply below_alloc | apply pw_below_drewN | apply below_drew1)⟩⟩
  case round =>
    obtain ⟨x, rfl, Hx0, Hx1, Hp, HB⟩ := hrel
    by_cases hlt : x < (l.length : Int)
    · have c1 : decide (x < (l.length : Int)) = true := decide_eq_true hlt
      have h0 := Hx0.out
      obtain ⟨ad, A1, c2, e, hx0, hx1, hx2, hx3, hl1, hi1⟩ := at_T34 HR.out x h0 hlt
      cases e
      replace hx0 := (HB.out.cell (World.block_lt_of_cell? w _ hx0)).trans hx0
      replace hx1 := (HB.out.cell (World.block_lt_of_cell? w _ hx1)).trans hx1
      replace hx2 := (HB.out.cell (World.block_lt_of_cell? w _ hx2)).trans hx2
      replace hx3 := (HB.out.cell (World.block_lt_of_cell? w _ hx3)).trans hx3
      have Hl1 := Aside0.mk hl1
      have Hi1 := Aside0.mk hi1
      have hp := Hp.out
      rw [drop_task h0 hlt, anyNot] at hp
      obtain ⟨b, hb, hp2⟩ := Option.bind_eq_some_iff.mp hp
      have Hb := Aside0.mk hb
      have Hp2 := Aside0.mk hp2
      have Hlt := Aside0.mk hlt
      clear hb hlt hp hp2 hl1 hi1 Hp
      have p1 := eq_true h0
      have q1 := eq_true Hlt.out
      have hsum : wrap64 (x + 1) = x + 1 := by have := Hlt.out; unfold wrap64; omega
      have Hs := Aside0.mk hsum
      clear hsum h0
      cases b with
      | true =>
        go_wp2_with (go_at_call 137; (with_reducible refine (taskNot_clo k _ _ _ _ _ _ true _ ?side1 ?side2 Hb.out).mono ?_); (case side1 => repeat (first | exact (Kd.C_below Hi1.out HB.out) | (with_reducible refine Kd.C_alloc ?_ _) | (with_reducible refine Kd.C_drewN ?_ _) | (with_reducible refine Kd.C_drew ?_))); (case side2 => exact Hl1.out); rintro e w10 ⟨rfl, hb⟩; have n1_ := Aside0.mk (below_step z4_0 hb); clear HB; have HB := n1_; clear n1_; clear hb)
        go_roundw
        case rel => exact ⟨x + 1, by rw [Hs.out], ⟨by have := Hx0.out; omega⟩, ⟨by have := Hlt.out; omega⟩, ⟨by simpa using Hp2.out⟩, ⟨by repeat (first | (with_reducible first | exact HB.out | apply below_alloc | apply pw_below_drewN | apply below_drew1) | exact HB.out)⟩⟩
        case measure =>
          have := Hlt.out
          have := Hx0.out
          rw [Hs.out]
          simp [intOf]
          omega
      | false =>
        go_wp2_with (go_at_call 137; (with_reducible refine (taskNot_clo k _ _ _ _ _ _ false _ ?side1 ?side2 Hb.out).mono ?_); (case side1 => repeat (first | exact (Kd.C_below Hi1.out HB.out) | (with_reducible refine Kd.C_alloc ?_ _) | (with_reducible refine Kd.C_drewN ?_ _) | (with_reducible refine Kd.C_drew ?_))); (case side2 => exact Hl1.out); rintro e w10 ⟨rfl, hb⟩; have n1_ := Aside0.mk (below_step z4_0 hb); clear HB; have HB := n1_; clear n1_; clear hb)
        go_ret
        exact ⟨x, rfl, by
          have := Hp2.out
          rw [if_neg (by simp)] at this
          have e := Option.some.inj this
          rw [← e]
          simpa using Hx0.out, by repeat (first | (with_reducible first | exact HB.out | apply below_alloc | apply pw_below_drewN | apply below_drew1) | exact HB.out)⟩
    · have c1 : decide (x < (l.length : Int)) = false := decide_eq_false hlt
      have hx : x = (l.length : Int) := by have := Hx1.out; omega
      have hp := Hp.out
      rw [List.drop_eq_nil_of_le (by omega), anyNot] at hp
      have Hp2 := Aside0.mk (Option.some.inj hp)
      clear hx hlt hp Hp
      go_wp2
      go_ret
      exact ⟨-1, rfl, by rw [← Hp2.out]; rfl, by repeat (first | (with_reducible first | exact HB.out | apply below_alloc | apply pw_below_drewN | apply below_drew1) | exact HB.out)⟩
set_option maxRecDepth 100000 in
theorem taskNot_contains (k : Nat) (A : Option Addr) (c : Nat) (l : List S34) (r : Bool) (w : World) (hr : Kd.C k34 w A l.length l) (h : anyNot k l = some r) :
    Calls Try.prog 136 #[.slice A l.length c, .func (.func 137) #[] #[]] w fun e w' => e = .returned (.bool r) ∧ Below w.heap.size w w' := by
  have HR := Aside0.mk hr
  have HH := Aside0.mk h
  clear hr h
  go_enter Try.func136, Try.ntmps136
  go_wp2_with fail
  refine (taskNot_index k A c l r _ HR.out HH.out).mono ?_
  rintro e w' ⟨i, rfl, hi, hb⟩
  have Hi := Aside0.mk hi
  have HB := Aside0.mk hb
  clear hi hb
  go_wp2
  go_ret
  exact ⟨by first | rfl | (rw [Hi.out]; done) | (simp [Hi.out]; done) | (have e := Hi.out; simp at e ⊢; exact e), by repeat (first | (with_reducible first | exact HB.out | apply below_alloc | apply pw_below_drewN | apply below_drew1) | exact HB.out)⟩
def impl_ProgramOk.f (k : Nat) (l0_0 : List S34) : Option Bool := (impl_within.f (l0_0.length : Int) 1 6).bind fun t => if t = true then (anyNot k l0_0).bind fun b => some (!b) else some false
theorem impl_ProgramOk.mono : ∀ a0 k, LeO (impl_ProgramOk.f k a0) (impl_ProgramOk.f (k + 1) a0) := by
  intro a0 k
  unfold impl_ProgramOk.f
  exact LeO.bind (LeO.refl _) (fun _ => LeO.ite (LeO.bind (anyNot_mono k a0) (fun _ => LeO.refl _)) (LeO.refl _))
set_option maxHeartbeats 8000000 in
set_option maxRecDepth 100000 in
theorem impl_ProgramOk.calls (k : Nat) (A0_0 : Option Addr) (c0_0 : Nat) (l0_0 : List S34) (r : Bool) (w : World) (hr0_0 : Kd.C k34 w A0_0 l0_0.length l0_0) (hc0_0 : l0_0.length ≤ c0_0) (h : impl_ProgramOk.f k l0_0 = some r) :
    Calls Try.prog 99 #[.agg #[.slice A0_0 l0_0.length c0_0]] w fun e w' => e = .returned (.bool r) ∧ Below w.heap.size w w' := by
  have hu53 := Try.underlying26
  have HR0 := Aside0.mk hr0_0
  have HC0 := Aside0.mk hc0_0
  have HB := Aside0.mk (Below.refl w.heap.size w)
  clear hr0_0 hc0_0
  unfold impl_ProgramOk.f at h
  obtain ⟨t, h1, h2⟩ := Option.bind_eq_some_iff.mp h
  clear h
  have A1 := Aside0.mk h1
  clear h1
  cases t with
  | true =>
    rw [if_pos rfl] at h2
    obtain ⟨b, h3, h4⟩ := Option.bind_eq_some_iff.mp h2
    obtain rfl := Option.some.inj h4
    have A2 := Aside0.mk h3
    clear h2 h3 h4
    go_enter Try.func99, Try.ntmps99
    go_wp2_with (first | ((with_reducible refine gate_dst (N := 1) rfl ?_); refine box_event ?hg (N := 1) ?hd (cs := #[.slice A0_0 l0_0.length c0_0]) (t := 26) ?hr ?_; (case hd => rfl); (case hg => rfl); (case hr => exact z4_5); intro gb hg w2 hbox hb; have n0_ := Aside0.mk (below_step HB.out hb); have BK := Aside0.mk (hbox); clear HB; have HB := n0_; clear n0_; clear hb hbox hg; have hcz0 : w2.cell? ⟨gb, 0, none⟩ = some (.slice A0_0 l0_0.length c0_0) := (blk_cell BK.out 0).trans rfl; have hfz0 := blk_frozen BK.out 0) | (go_at_call 100; (with_reducible refine (impl_within.calls _ _ _ true _ A1.out).mono ?_); rintro e w' ⟨rfl, ⟨nd, rfl⟩⟩) | (go_at_call 136; (with_reducible refine (taskNot_contains k _ _ l0_0 b _ ?side1 A2.out).mono ?_); (case side1 => repeat (first | exact (Kd.C_below HR0.out HB.out) | (with_reducible refine Kd.C_alloc ?_ _) | (with_reducible refine Kd.C_drewN ?_ _) | (with_reducible refine Kd.C_drew ?_))); rintro e w10 ⟨rfl, hb⟩; have n1_ := Aside0.mk (below_step z4_0 hb); clear HB; have HB := n1_; clear n1_; clear hb))
    go_ret
    exact ⟨by first | rfl | (simp; done), by repeat (first | (with_reducible first | exact HB.out | apply below_alloc | apply pw_below_drewN | apply below_drew1) | exact HB.out)⟩
  | false =>
    rw [if_neg (by simp)] at h2
    obtain rfl := Option.some.inj h2
    clear h2
    go_enter Try.func99, Try.ntmps99
    go_wp2_with (first | ((with_reducible refine gate_dst (N := 1) rfl ?_); refine box_event ?hg (N := 1) ?hd (cs := #[.slice A0_0 l0_0.length c0_0]) (t := 26) ?hr ?_; (case hd => rfl); (case hg => rfl); (case hr => exact z4_5); intro gb hg w2 hbox hb; have n0_ := Aside0.mk (below_step HB.out hb); have BK := Aside0.mk (hbox); clear HB; have HB := n0_; clear n0_; clear hb hbox hg; have hcz0 : w2.cell? ⟨gb, 0, none⟩ = some (.slice A0_0 l0_0.length c0_0) := (blk_cell BK.out 0).trans rfl; have hfz0 := blk_frozen BK.out 0) | (go_at_call 100; (with_reducible refine (impl_within.calls _ _ _ false _ A1.out).mono ?_); rintro e w' ⟨rfl, ⟨nd, rfl⟩⟩))
    go_ret
    exact ⟨by first | rfl | (simp; done), by repeat (first | (with_reducible first | exact HB.out | apply below_alloc | apply pw_below_drewN | apply below_drew1) | exact HB.out)⟩

/-! ### impl_hasTask: function 60 -/
def impl_hasTask.f (k : Nat) (l0_0 : List (S34)) (a1 : Int) : Option (Bool) := (impl_ProgramOk.f k l0_0).bind fun t343 => (if t343 = true then ((impl_within.f a1 0 (wrap64 ((l0_0.length : Int) - 1))).bind fun t344 => (some t344)) else (some false))
theorem impl_hasTask.mono : ∀ a0 a1 k, LeO (impl_hasTask.f k a0 a1) (impl_hasTask.f (k + 1) a0 a1) := by
  intro a0 a1 k
  unfold impl_hasTask.f
  repeat' first
      | (with_reducible exact impl_ProgramOk.mono _ _)
      | (with_reducible exact LeO.refl _)
      | (with_reducible exact LeO.none _)
      | (with_reducible refine LeO.ite ?_ ?_)
      | (with_reducible refine LeO.bind ?_ (fun _ => ?_))
      | exact impl_ProgramOk.mono _ _
      | exact LeO.none _
      | refine LeO.ite ?_ ?_
      | refine LeO.bind ?_ (fun _ => ?_)
set_option maxHeartbeats 8000000 in
set_option maxRecDepth 100000 in
theorem impl_hasTask.calls (k : Nat) (A0_0 : Option Addr) (c0_0 : Nat) (l0_0 : List (S34)) (a1 : Int) (r : Bool) (w : World) (hr0_0 : Kd.C k34 w A0_0 l0_0.length l0_0) (hc0_0 : l0_0.length ≤ c0_0) (h : impl_hasTask.f k l0_0 a1 = some r) :
    Calls Try.prog 60 #[.agg #[.slice A0_0 l0_0.length c0_0], .int .i64 a1] w fun e w' => e = .returned (.bool r) ∧ Below w.heap.size w w' := by
  have hu26 := Try.underlying26
  have HR0_0 := Aside0.mk hr0_0
  have HC0_0 := Aside0.mk hc0_0
  clear hr0_0 hc0_0
  have HB := Aside0.mk (Below.refl w.heap.size w)
  have H : ((impl_ProgramOk.f k l0_0).bind fun t343 => (if t343 = true then ((impl_within.f a1 0 (wrap64 ((l0_0.length : Int) - 1))).bind fun t344 => (some t344)) else (some false))) = some r := h
  clear h
  replace H := Option.bind_eq_some_iff.mp H
  obtain ⟨t343, A30, H⟩ := H
  replace H : (if t343 = true then ((impl_within.f a1 0 (wrap64 ((l0_0.length : Int) - 1))).bind fun t344 => (some t344)) else (some false)) = some r := H
  have A3 := Aside0.mk A30
  clear A30
  by_cases c4 : t343 = true
  · subst c4
    have H1 : ((impl_within.f a1 0 (wrap64 ((l0_0.length : Int) - 1))).bind fun t344 => (some t344)) = some r := by rw [if_pos rfl] at H; exact H
    clear H
    have H := H1
    clear H1
    replace H := Option.bind_eq_some_iff.mp H
    obtain ⟨t344, A50, H⟩ := H
    replace H : (some t344) = some r := H
    have A5 := Aside0.mk A50
    clear A50
    obtain rfl := Option.some.inj H
    go_enter Try.func60, Try.ntmps60
    go_wp2_with (first | ((with_reducible refine gate_dst (N := 2) rfl ?_); (try (refine gate_guard (by rfl) ?_; dsimp only)); refine box_event ?hg (N := 2) ?hd (cs := #[.slice A0_0 l0_0.length c0_0]) (t := 26) ?hr ?_; (case hd => rfl); (case hg => rfl); (case hr => exact z4_5); intro gb342 hg w6 hbox hb; have n0_ := Aside0.mk (below_step z4_0 hb); have n1_ := Aside0.mk (hbox); have n2_ := Aside0.mk ((z4_10 : w.heap.size ≤ gb342)); have n3_ := Aside0.mk ((z4_10 : w.heap.size ≤ gb342)); clear HB; have HB := n0_; have BK342 := n1_; have GW342 := n2_; have GE342 := n3_; clear n0_ n1_ n2_ n3_; clear hb hbox hg; have hcz7_0 : w6.cell? ⟨gb342, 0, none⟩ = some (.slice A0_0 l0_0.length c0_0) := (blk_cell BK342.out 0).trans rfl; have hfz7_0 := blk_frozen BK342.out 0) | ((first | ((with_reducible refine gate_callee (f := 99) rfl ?_); refine goesL_ (some 6) rfl rfl Try.func99 (by kernel_rfl) rfl #[.agg #[.slice A0_0 l0_0.length c0_0]] rfl z4_2 ?_; (with_reducible refine (impl_ProgramOk.calls k _ _ l0_0 true _ ?side1 ?side2 A3.out).mono ?_)) | (go_at_call 99; (with_reducible refine (impl_ProgramOk.calls k _ _ l0_0 true _ ?side1 ?side2 A3.out).mono ?_))); (case side1 => exact z4_6); (case side2 => exact HC0_0.out); rintro e w8 ⟨rfl, hb⟩; (first | refine ⟨_, rfl, ?_⟩ | skip); have n0_ := Aside0.mk (blk_below (g := gb342) (o := .cells #[.slice A0_0 l0_0.length c0_0] 26 (0, 0)) (by (with_reducible repeat (first | refine blk_drewN ?_ _ | refine blk_drew ?_ | refine blk_alloc ?_ _)); exact BK342.out) hb); have n1_ := Aside0.mk (below_step (by repeat (first | (with_reducible first | exact HB.out | apply below_alloc | apply pw_below_drewN | apply below_drew1 | refine below_set ?_ GE342.out) | exact HB.out)) hb); clear BK342; clear HB; have BK342 := n0_; have HB := n1_; clear n0_ n1_; (try clear hb); (try clear hb2); (try clear hk); (try clear hi); have hcz9_0 : w8.cell? ⟨gb342, 0, none⟩ = some (.slice A0_0 l0_0.length c0_0) := (blk_cell BK342.out 0).trans rfl; have hfz9_0 := blk_frozen BK342.out 0) | (go_at_call 100; (with_reducible refine (impl_within.calls a1 0 (wrap64 ((l0_0.length : Int) - 1)) t344 _ A5.out).mono ?_); rintro e w' ⟨rfl, ⟨nd, rfl⟩⟩))
    go_ret
    exact ⟨by first | rfl | (simp [errW_none, errW_some] <;> rfl) | (simp [*, errW_none, errW_some] <;> rfl) | (simp [*, errW_none, errW_some, i64_w]; done), by repeat (first | (with_reducible first | exact HB.out | apply below_alloc | apply pw_below_drewN | apply below_drew1 | refine below_set ?_ GE342.out) | exact HB.out)⟩
  · replace c4 := Bool.eq_false_iff.mpr c4
    subst c4
    have H1 : (some false) = some r := by rw [if_neg (show ¬ (false = true) by decide)] at H; exact H
    clear H
    have H := H1
    clear H1
    obtain rfl := Option.some.inj H
    go_enter Try.func60, Try.ntmps60
    go_wp2_with (first | ((with_reducible refine gate_dst (N := 2) rfl ?_); (try (refine gate_guard (by rfl) ?_; dsimp only)); refine box_event ?hg (N := 2) ?hd (cs := #[.slice A0_0 l0_0.length c0_0]) (t := 26) ?hr ?_; (case hd => rfl); (case hg => rfl); (case hr => exact z4_5); intro gb342 hg w10 hbox hb; have n0_ := Aside0.mk (below_step z4_0 hb); have n1_ := Aside0.mk (hbox); have n2_ := Aside0.mk ((z4_10 : w.heap.size ≤ gb342)); have n3_ := Aside0.mk ((z4_10 : w.heap.size ≤ gb342)); clear HB; have HB := n0_; have BK342 := n1_; have GW342 := n2_; have GE342 := n3_; clear n0_ n1_ n2_ n3_; clear hb hbox hg; have hcz11_0 : w10.cell? ⟨gb342, 0, none⟩ = some (.slice A0_0 l0_0.length c0_0) := (blk_cell BK342.out 0).trans rfl; have hfz11_0 := blk_frozen BK342.out 0) | ((first | ((with_reducible refine gate_callee (f := 99) rfl ?_); refine goesL_ (some 6) rfl rfl Try.func99 (by kernel_rfl) rfl #[.agg #[.slice A0_0 l0_0.length c0_0]] rfl z4_2 ?_; (with_reducible refine (impl_ProgramOk.calls k _ _ l0_0 false _ ?side1 ?side2 A3.out).mono ?_)) | (go_at_call 99; (with_reducible refine (impl_ProgramOk.calls k _ _ l0_0 false _ ?side1 ?side2 A3.out).mono ?_))); (case side1 => exact z4_6); (case side2 => exact HC0_0.out); rintro e w12 ⟨rfl, hb⟩; (first | refine ⟨_, rfl, ?_⟩ | skip); have n0_ := Aside0.mk (blk_below (g := gb342) (o := .cells #[.slice A0_0 l0_0.length c0_0] 26 (0, 0)) (by (with_reducible repeat (first | refine blk_drewN ?_ _ | refine blk_drew ?_ | refine blk_alloc ?_ _)); exact BK342.out) hb); have n1_ := Aside0.mk (below_step (by repeat (first | (with_reducible first | exact HB.out | apply below_alloc | apply pw_below_drewN | apply below_drew1 | refine below_set ?_ GE342.out) | exact HB.out)) hb); clear BK342; clear HB; have BK342 := n0_; have HB := n1_; clear n0_ n1_; (try clear hb); (try clear hb2); (try clear hk); (try clear hi)))
    go_ret
    exact ⟨by first | rfl | (simp [errW_none, errW_some] <;> rfl) | (simp [*, errW_none, errW_some] <;> rfl) | (simp [*, errW_none, errW_some, i64_w]; done), by repeat (first | (with_reducible first | exact HB.out | apply below_alloc | apply pw_below_drewN | apply below_drew1 | refine below_set ?_ GE342.out) | exact HB.out)⟩

-- NOT PRINTED: function 132 (slices_IndexFunc_int_int)

-- NOT PRINTED: function 101 (slices_ContainsFunc_int_int)

/-! ### impl_IsValue: function 103 -/
def impl_IsValue.f (a0 : Int) : Option (Bool) := (impl_within.f a0 (-1000000) 1000000).bind fun t345 => (some t345)
set_option maxHeartbeats 8000000 in
set_option maxRecDepth 100000 in
theorem impl_IsValue.calls (a0 : Int) (r : Bool) (w : World) (h : impl_IsValue.f a0 = some r) :
    Calls Try.prog 103 #[.int .i64 a0] w fun e w' => e = .returned (.bool r) ∧ Drawn0 w w' := by
  have H : ((impl_within.f a0 (-1000000) 1000000).bind fun t345 => (some t345)) = some r := h
  clear h
  replace H := Option.bind_eq_some_iff.mp H
  obtain ⟨t345, A20, H⟩ := H
  replace H : (some t345) = some r := H
  have A2 := Aside0.mk A20
  clear A20
  obtain rfl := Option.some.inj H
  go_enter Try.func103, Try.ntmps103
  go_wp2_with (first | ((first | ((with_reducible refine gate_callee (f := 100) rfl ?_); refine goesL_ (some 4) rfl rfl Try.func100 (by kernel_rfl) rfl #[.int .i64 a0, .int .i64 (-1000000), .int .i64 1000000] rfl z4_2 ?_; (with_reducible refine (impl_within.calls a0 (-1000000) 1000000 t345 _ A2.out).mono ?_)) | (go_at_call 100; (with_reducible refine (impl_within.calls a0 (-1000000) 1000000 t345 _ A2.out).mono ?_))); rintro e w' ⟨rfl, ⟨nd, rfl⟩⟩; (first | refine ⟨_, rfl, ?_⟩ | skip)))
  go_ret
  exact ⟨by first | rfl | (simp; done) | (simp [*]; done), by repeat (first | exact Drawn0.refl _ | apply Drawn0.step)⟩

-- NOT PRINTED: function 102 (impl_areValues_1)

/-! ### impl_areValues: function 62 -/
/-- The closure's question. -/
def valP (x : Int) : Bool := decide (-1000000 ≤ x ∧ x ≤ 1000000)
theorem valP_eq (x : Int) : impl_IsValue.f x = some (valP x) := by
  unfold impl_IsValue.f impl_within.f valP
  by_cases h : -1000000 ≤ x <;> simp [h]
set_option maxRecDepth 100000 in
theorem valP_clo (x : Int) (b : Bool) (w : World) (hb : valP x = b) : Calls Try.prog 102 #[.int .i64 x] w fun e w' => e = .returned (.bool (!b)) ∧ Drawn0 w w' := by
  have Hb := Aside0.mk ((valP_eq x).trans (congrArg some hb))
  clear hb
  go_enter Try.func102, Try.ntmps102
  go_wp2_with (go_at_call 103; (with_reducible refine (impl_IsValue.calls x b _ Hb.out).mono ?_); rintro e w' ⟨rfl, ⟨nd, rfl⟩⟩)
  go_ret
  exact ⟨rfl, by repeat (first | exact Drawn0.refl _ | apply Drawn0.step)⟩
theorem valP_none (l : List Int) (h : ∀ i : Int, 0 ≤ i → i < (l.length : Int) → valP (rd l i) = true) : l.any (fun x => !valP x) = false := by
  rw [List.any_eq_false]
  intro x hx
  obtain ⟨i, hi⟩ := List.getElem?_of_mem hx
  have hl := (List.getElem?_eq_some_iff.1 hi).1
  have := h (i : Int) (by omega) (by omega)
  unfold rd at this
  rw [Int.toNat_natCast, List.getD_eq_getElem?_getD, hi] at this
  simpa using this
theorem valP_some (l : List Int) (i : Int) (h0 : 0 ≤ i) (h1 : i < (l.length : Int)) (h : valP (rd l i) = false) : l.any (fun x => !valP x) = true := by
  rw [List.any_eq_true]
  refine ⟨rd l i, ?_, by simpa using h⟩
  unfold rd
  rw [List.getD_eq_getElem?_getD, List.getElem?_eq_getElem (by omega)]
  exact List.getElem_mem _
set_option maxHeartbeats 8000000 in
set_option maxRecDepth 100000 in
theorem valP_index (A : Option Addr) (c : Nat) (l : List Int) (w : World) (hr : Kd.C (Kd.int .i64) w A l.length l) :
    Calls Try.prog 132 #[.slice A l.length c, .func (.func 102) #[] #[]] w fun e w' => ∃ i : Int, e = .returned (.int .i64 i) ∧ decide (i ≥ 0) = l.any (fun x => !valP x) ∧ Drawn0 w w' := by
  have HR := Aside0.mk hr
  have hlen : l.length ≤ 9223372036854775807 := hr.2.1
  clear hr
  go_enter Try.func132, Try.ntmps132
  go_wp2
  go_loopw [8] (fun v8 w' => ∃ x : Int, v8 = .int .i64 x ∧ Aside0 (0 ≤ x) ∧ Aside0 (x ≤ (l.length : Int)) ∧ Aside0 (∀ i : Int, 0 ≤ i → i < x → valP (rd l i) = true) ∧ Drawn0 w w') (fun v8 _ => l.length - (intOf v8).toNat)
  case atStart => exact ⟨0, rfl, ⟨by omega⟩, ⟨by omega⟩, ⟨fun i h0 h1 => by omega⟩, Drawn0.refl _⟩
  case round =>
    obtain ⟨x, rfl, Hx0, Hx1, Hp, ⟨m, rfl⟩⟩ := hrel
    by_cases hlt : x < (l.length : Int)
    · have c1 : decide (x < (l.length : Int)) = true := decide_eq_true hlt
      have h0 := Hx0.out
      obtain ⟨ad, e, hx⟩ := Kd.at_int HR.out x h0 hlt
      cases e
      obtain ⟨b, hb⟩ : ∃ b, valP (rd l x) = b := ⟨_, rfl⟩
      have Hb := Aside0.mk hb
      have Hlt := Aside0.mk hlt
      clear hb hlt
      have p1 := eq_true h0
      have q1 := eq_true Hlt.out
      have hsum : wrap64 (x + 1) = x + 1 := by have := Hlt.out; unfold wrap64; omega
      have Hs := Aside0.mk hsum
      clear hsum h0
      cases b with
      | true =>
        go_wp2_with (go_at_call 102; (with_reducible refine (valP_clo (rd l x) true _ Hb.out).mono ?_); rintro e w' ⟨rfl, ⟨nd, rfl⟩⟩)
        go_roundw
        case rel => exact ⟨x + 1, by rw [Hs.out], ⟨by have := Hx0.out; omega⟩, ⟨by have := Hlt.out; omega⟩, ⟨fun i h0 h1 => by
          by_cases e : i = x
          · rw [e]; exact Hb.out
          · exact Hp.out i h0 (by omega)⟩, by repeat (first | exact Drawn0.refl _ | apply Drawn0.step)⟩
        case measure =>
          have := Hlt.out
          have := Hx0.out
          rw [Hs.out]
          simp [intOf]
          omega
      | false =>
        go_wp2_with (go_at_call 102; (with_reducible refine (valP_clo (rd l x) false _ Hb.out).mono ?_); rintro e w' ⟨rfl, ⟨nd, rfl⟩⟩)
        go_ret
        exact ⟨x, rfl, by rw [valP_some l x Hx0.out Hlt.out Hb.out]; simpa using Hx0.out, by repeat (first | exact Drawn0.refl _ | apply Drawn0.step)⟩
    · have c1 : decide (x < (l.length : Int)) = false := decide_eq_false hlt
      have hx : x = (l.length : Int) := by have := Hx1.out; omega
      have Hx := Aside0.mk hx
      clear hx hlt
      go_wp2
      go_ret
      exact ⟨-1, rfl, by rw [valP_none l (fun i h0 h1 => Hp.out i h0 (by have := Hx.out; omega))]; rfl, by repeat (first | exact Drawn0.refl _ | apply Drawn0.step)⟩
set_option maxRecDepth 100000 in
theorem valP_contains (A : Option Addr) (c : Nat) (l : List Int) (b : Bool) (hb : l.any (fun x => !valP x) = b) (w : World) (hr : Kd.C (Kd.int .i64) w A l.length l) :
    Calls Try.prog 101 #[.slice A l.length c, .func (.func 102) #[] #[]] w fun e w' => e = .returned (.bool b) ∧ Drawn0 w w' := by
  have HR := Aside0.mk hr
  have Hb := Aside0.mk hb
  clear hr hb
  go_enter Try.func101, Try.ntmps101
  go_wp2_with fail
  refine (valP_index A c l _ HR.out).mono ?_
  rintro e w' ⟨i, rfl, hi, ⟨nd, rfl⟩⟩
  rw [Hb.out] at hi
  have Hi := Aside0.mk hi
  clear hi
  go_wp2
  go_ret
  exact ⟨by first | rfl | (rw [Hi.out]; done) | (simp [Hi.out]; done) | (have e := Hi.out; simp at e ⊢; exact e), by repeat (first | exact Drawn0.refl _ | apply Drawn0.step)⟩
def impl_areValues.f (l0 : List Int) : Option Bool := some (!(l0.any fun x => !valP x))
set_option maxRecDepth 100000 in
theorem impl_areValues.calls (A0 : Option Addr) (c0 : Nat) (l0 : List Int) (r : Bool) (w : World) (hr0 : Kd.C (Kd.int .i64) w A0 l0.length l0) (hc0 : l0.length ≤ c0) (h : impl_areValues.f l0 = some r) :
    Calls Try.prog 62 #[.slice A0 l0.length c0] w fun e w' => e = .returned (.bool r) ∧ Drawn0 w w' := by
  obtain ⟨b, hb⟩ : ∃ b, l0.any (fun x => !valP x) = b := ⟨_, rfl⟩
  unfold impl_areValues.f at h
  rw [hb] at h
  obtain rfl := Option.some.inj h
  have HR := Aside0.mk hr0
  have Hb := Aside0.mk hb
  clear hr0 hb h hc0
  go_enter Try.func62, Try.ntmps62
  go_wp2_with fail
  refine (valP_contains A0 c0 l0 b Hb.out _ HR.out).mono ?_
  rintro e w' ⟨rfl, ⟨nd, rfl⟩⟩
  go_wp2
  go_ret
  exact ⟨rfl, by repeat (first | exact Drawn0.refl _ | apply Drawn0.step)⟩


/-! ### impl_VarsOk: function 61 -/
def impl_VarsOk.f (l0 : List Int) : Option (Bool) := if (l0.length : Int) = 8 then ((impl_areValues.f l0).bind fun t346 => (some t346)) else (some false)
set_option maxHeartbeats 8000000 in
set_option maxRecDepth 100000 in
theorem impl_VarsOk.calls (A0 : Option Addr) (c0 : Nat) (l0 : List Int) (r : Bool) (w : World) (hr0 : Kd.C (Kd.int .i64) w A0 l0.length l0) (hc0 : l0.length ≤ c0) (h : impl_VarsOk.f l0 = some r) :
    Calls Try.prog 61 #[.slice A0 l0.length c0] w fun e w' => e = .returned (.bool r) ∧ Drawn0 w w' := by
  have HR0 := Aside0.mk hr0
  have HC0 := Aside0.mk hc0
  clear hr0 hc0
  have H : (if (l0.length : Int) = 8 then ((impl_areValues.f l0).bind fun t346 => (some t346)) else (some false)) = some r := h
  clear h
  by_cases c2 : (l0.length : Int) = 8
  · rw [if_pos c2] at H
    have c2b0 : ((l0.length : Int) == 8) = true := beq_iff_eq.mpr c2
    have c2b1 : ((l0.length : Int) != 8) = false := bne_eq_false_iff_eq.mpr c2
    clear c2
    replace H := Option.bind_eq_some_iff.mp H
    obtain ⟨t346, A30, H⟩ := H
    replace H : (some t346) = some r := H
    have A3 := Aside0.mk A30
    clear A30
    obtain rfl := Option.some.inj H
    go_enter Try.func61, Try.ntmps61
    go_wp2_with (first | (go_at_call 62; (with_reducible refine (impl_areValues.calls _ _ l0 t346 _ ?side1 ?side2 A3.out).mono ?_); (case side1 => repeat (first | exact HR0.out | (with_reducible refine Kd.C_alloc ?_ _) | (with_reducible refine Kd.C_drewN ?_ _) | (with_reducible refine Kd.C_drew ?_))); (case side2 => exact HC0.out); rintro e w' ⟨rfl, ⟨nd, rfl⟩⟩))
    go_ret
    exact ⟨by first | rfl | (simp; done) | (simp [*]; done), by repeat (first | exact Drawn0.refl _ | apply Drawn0.step)⟩
  · rw [if_neg c2] at H
    have c2b0 : ((l0.length : Int) == 8) = false := beq_eq_false_iff_ne.mpr c2
    have c2b1 : ((l0.length : Int) != 8) = true := bne_iff_ne.mpr c2
    obtain rfl := Option.some.inj H
    go_enter Try.func61, Try.ntmps61
    go_wp2
    go_ret
    exact ⟨by first | rfl | (simp; done) | (simp [*]; done), by repeat (first | exact Drawn0.refl _ | apply Drawn0.step)⟩

/-! ### impl_bit: function 58 -/
def impl_bit.f (a0 : Bool) : Option (Int) := if a0 = true then (some 1) else (some 0)
set_option maxHeartbeats 8000000 in
set_option maxRecDepth 100000 in
theorem impl_bit.calls (a0 : Bool) (r : Int) (w : World) (h : impl_bit.f a0 = some r) :
    Calls Try.prog 58 #[.bool a0] w fun e w' => e = .returned (.int .i64 r) ∧ Drawn0 w w' := by
  have H : (if a0 = true then (some 1) else (some 0)) = some r := h
  clear h
  by_cases c2 : a0 = true
  · subst c2
    have H1 : (some 1) = some r := by rw [if_pos rfl] at H; exact H
    clear H
    have H := H1
    clear H1
    obtain rfl := Option.some.inj H
    go_enter Try.func58, Try.ntmps58
    go_wp2
    go_ret
    exact ⟨by first | rfl | (simp; done) | (simp [*]; done), by repeat (first | exact Drawn0.refl _ | apply Drawn0.step)⟩
  · replace c2 := Bool.eq_false_iff.mpr c2
    subst c2
    have H1 : (some 0) = some r := by rw [if_neg (show ¬ (false = true) by decide)] at H; exact H
    clear H
    have H := H1
    clear H1
    obtain rfl := Option.some.inj H
    go_enter Try.func58, Try.ntmps58
    go_wp2
    go_ret
    exact ⟨by first | rfl | (simp; done) | (simp [*]; done), by repeat (first | exact Drawn0.refl _ | apply Drawn0.step)⟩

/-! ### impl_endOf: function 87 -/
mutual
def impl_endOf.l0 : Nat → List (S77) → Int → Int → Option (Int)
  | 0, _, _, _ => none
  | k + 1, x0, x5, x6 => if x6 < (x0.length : Int) then (if 0 ≤ x6 then ((impl_isOpening.f ((rd_T77 x0 x6).f0)).bind fun t348 => (if t348 = true then (impl_endOf.j1 k x0 (wrap64 (x5 + 1)) x6) else (impl_endOf.j1 k x0 x5 x6))) else (none)) else (some (-1))
def impl_endOf.j1 : Nat → List (S77) → Int → Int → Option (Int)
  | 0, _, _, _ => none
  | k + 1, x0, x5, x6 => if 0 ≤ x6 then (if x6 < (x0.length : Int) then (if ((rd_T77 x0 x6).f0) = 6 then (if (wrap64 (x5 - 1)) = 0 then (some x6) else (impl_endOf.l0 k x0 (wrap64 (x5 - 1)) (wrap64 (x6 + 1)))) else (if x5 = 0 then (some x6) else (impl_endOf.l0 k x0 x5 (wrap64 (x6 + 1))))) else (none)) else (none)
end
def impl_endOf.f (k : Nat) (l0 : List (S77)) (a1 : Int) : Option (Int) := impl_endOf.l0 k l0 0 a1
theorem impl_endOf.mono_l : ∀ k, (∀ y0 y1 y2, LeO (impl_endOf.l0 k y0 y1 y2) (impl_endOf.l0 (k + 1) y0 y1 y2)) ∧ (∀ y0 y1 y2, LeO (impl_endOf.j1 k y0 y1 y2) (impl_endOf.j1 (k + 1) y0 y1 y2))
  | 0 => ⟨fun _ _ _ r h => by simp [impl_endOf.l0] at h, fun _ _ _ r h => by simp [impl_endOf.j1] at h⟩
  | k + 1 => by
    obtain ⟨ih0, ih1⟩ := impl_endOf.mono_l k
    refine ⟨?_, ?_⟩
    · intro y0 y1 y2
      unfold impl_endOf.l0
      repeat' first
      | (with_reducible exact ih0 _ _ _)
      | (with_reducible exact ih1 _ _ _)
      | (with_reducible exact LeO.refl _)
      | (with_reducible exact LeO.none _)
      | (with_reducible refine LeO.ite ?_ ?_)
      | (with_reducible refine LeO.bind ?_ (fun _ => ?_))
      | exact ih0 _ _ _
      | exact ih1 _ _ _
      | exact LeO.none _
      | refine LeO.ite ?_ ?_
      | refine LeO.bind ?_ (fun _ => ?_)
    · intro y0 y1 y2
      unfold impl_endOf.j1
      repeat' first
      | (with_reducible exact ih0 _ _ _)
      | (with_reducible exact ih1 _ _ _)
      | (with_reducible exact LeO.refl _)
      | (with_reducible exact LeO.none _)
      | (with_reducible refine LeO.ite ?_ ?_)
      | (with_reducible refine LeO.bind ?_ (fun _ => ?_))
      | exact ih0 _ _ _
      | exact ih1 _ _ _
      | exact LeO.none _
      | refine LeO.ite ?_ ?_
      | refine LeO.bind ?_ (fun _ => ?_)
theorem impl_endOf.mono : ∀ a0 a1 k, LeO (impl_endOf.f k a0 a1) (impl_endOf.f (k + 1) a0 a1) := by
  intro a0 a1 k
  obtain ⟨ih0, ih1⟩ := impl_endOf.mono_l k
  unfold impl_endOf.f
  repeat' first
      | (with_reducible exact ih0 _ _ _)
      | (with_reducible exact ih1 _ _ _)
      | (with_reducible exact LeO.refl _)
      | (with_reducible exact LeO.none _)
      | (with_reducible refine LeO.ite ?_ ?_)
      | (with_reducible refine LeO.bind ?_ (fun _ => ?_))
      | exact ih0 _ _ _
      | exact ih1 _ _ _
      | exact LeO.none _
      | refine LeO.ite ?_ ?_
      | refine LeO.bind ?_ (fun _ => ?_)
set_option maxHeartbeats 8000000 in
set_option maxRecDepth 100000 in
theorem impl_endOf.calls (k : Nat) (A0 : Option Addr) (c0 : Nat) (l0 : List (S77)) (a1 : Int) (r : Int) (w : World) (hr0 : Kd.C k77 w A0 l0.length l0) (hc0 : l0.length ≤ c0) (h : impl_endOf.f k l0 a1 = some r) :
    Calls Try.prog 87 #[.slice A0 l0.length c0, .int .i64 a1] w fun e w' => e = .returned (.int .i64 r) ∧ Drawn0 w w' := by
  have HR0 := Aside0.mk hr0
  have HC0 := Aside0.mk hc0
  clear hr0 hc0
  have H : (impl_endOf.l0 k l0 0 a1) = some r := h
  clear h
  have H' := Aside0.mk H
  clear H
  go_enter Try.func87, Try.ntmps87
  go_wp2
  go_loopg [5, 6] k (fun kq v5 v6 w' => ∃ (x5_1 : Int) (x6_1 : Int), v5 = .int .i64 x5_1 ∧ v6 = .int .i64 x6_1 ∧ Aside0 (impl_endOf.l0 kq l0 x5_1 x6_1 = some r) ∧ Aside0 (kq ≤ k) ∧ Drawn0 w w')
  case atStart => exact ⟨(0), (a1), z4_3, z4_3, H', ⟨Nat.le_refl _⟩, by repeat (first | exact Drawn0.refl _ | apply Drawn0.step)⟩
  case round =>
    clear H'
    obtain ⟨x5_1, x6_1, rfl, rfl, HA, HK1, ⟨m1, rfl⟩⟩ := hrel
    cases gk with
    | zero => exact absurd HA.out (by simp [impl_endOf.l0])
    | succ k1 =>
      have H := HA.out
      clear HA
      simp only [impl_endOf.l0] at H
      by_cases c3 : x6_1 < (l0.length : Int)
      · rw [if_pos c3] at H
        have c3b0 : decide (x6_1 < (l0.length : Int)) = true := decide_eq_true c3
        clear c3
        by_cases c4 : 0 ≤ x6_1
        · rw [if_pos c4] at H
          have c4b0 : decide (0 ≤ x6_1) = true := decide_eq_true c4
          clear c4
          replace H := Option.bind_eq_some_iff.mp H
          obtain ⟨t348, A50, H⟩ := H
          replace H : (if t348 = true then (impl_endOf.j1 k1 l0 (wrap64 (x5_1 + 1)) x6_1) else (impl_endOf.j1 k1 l0 x5_1 x6_1)) = some r := H
          have A5 := Aside0.mk A50
          clear A50
          have HC6 := Aside0.mk H
          clear H
          have p347 : 0 ≤ (x6_1 : Int) := of_decide_eq_true z4_4
          have q347 : x6_1 < (l0.length : Int) := of_decide_eq_true z4_4
          obtain ⟨ad347, e347, hx347_0, hx347_1, hx347_2, hx347_3, hx347_4, hx347_5⟩ := at_T77 HR0.out x6_1 p347 q347
          cases e347
          replace p347 := eq_true p347
          replace q347 := eq_true q347
          go_upto_if 19 with (first | ((first | ((with_reducible refine gate_callee (f := 59) rfl ?_); refine goesL_ (some 19) rfl rfl Try.func59 (by kernel_rfl) rfl #[.int .i64 ((rd_T77 l0 x6_1).f0)] rfl z4_2 ?_; (with_reducible refine (impl_isOpening.calls ((rd_T77 l0 x6_1).f0) t348 _ A5.out).mono ?_)) | (go_at_call 59; (with_reducible refine (impl_isOpening.calls ((rd_T77 l0 x6_1).f0) t348 _ A5.out).mono ?_))); rintro e w' ⟨rfl, ⟨nd, rfl⟩⟩; (first | refine ⟨_, rfl, ?_⟩ | skip)))
          (try simp only [Act.put, List.setIfInBounds_toArray, List.set_cons_zero, List.set_cons_succ])
          go_cut [5] (fun v5 wc => ∃ (kq : Nat) (x5_5 : Int), v5 = .int .i64 x5_5 ∧ Aside0 (impl_endOf.j1 kq l0 x5_5 x6_1 = some r) ∧ Aside0 (kq ≤ k1) ∧ Drawn0 w wc)
          case first =>
            have H := HC6.out
            clear HC6
            by_cases c7 : t348 = true
            · subst c7
              have H1 : (impl_endOf.j1 k1 l0 (wrap64 (x5_1 + 1)) x6_1) = some r := by rw [if_pos rfl] at H; exact H
              clear H
              have H := H1
              clear H1
              have H' := Aside0.mk H
              clear H
              go_wp2
              go_meet
              case rel => exact ⟨_, (wrap64 (x5_1 + 1)), z4_3, H', ⟨by have := HK1.out; first | omega | exact Nat.le_refl _⟩, by repeat (first | exact Drawn0.refl _ | apply Drawn0.step)⟩
            · replace c7 := Bool.eq_false_iff.mpr c7
              subst c7
              have H1 : (impl_endOf.j1 k1 l0 x5_1 x6_1) = some r := by rw [if_neg (show ¬ (false = true) by decide)] at H; exact H
              clear H
              have H := H1
              clear H1
              have H' := Aside0.mk H
              clear H
              go_wp2
              go_meet
              case rel => exact ⟨_, (x5_1), z4_3, H', ⟨by have := HK1.out; first | omega | exact Nat.le_refl _⟩, by repeat (first | exact Drawn0.refl _ | apply Drawn0.step)⟩
          case rest =>
            clear HC6
            (try clear c3); (try clear c3b0); (try clear c4); (try clear c4b0); (try clear hx347_0); (try clear hx347_1); (try clear hx347_2); (try clear hx347_3); (try clear hx347_4); (try clear hx347_5); (try clear p347); (try clear q347)
            obtain ⟨kq, x5_5, rfl, HA, HJ5, ⟨mc5, rfl⟩⟩ := hcut
            cases kq with
            | zero => exact absurd HA.out (by simp [impl_endOf.j1])
            | succ kj5 =>
              have H := HA.out
              clear HA
              simp only [impl_endOf.j1] at H
              by_cases c8 : 0 ≤ x6_1
              · rw [if_pos c8] at H
                have c8b0 : decide (0 ≤ x6_1) = true := decide_eq_true c8
                clear c8
                by_cases c9 : x6_1 < (l0.length : Int)
                · rw [if_pos c9] at H
                  have c9b0 : decide (x6_1 < (l0.length : Int)) = true := decide_eq_true c9
                  clear c9
                  by_cases c10 : ((rd_T77 l0 x6_1).f0) = 6
                  · rw [if_pos c10] at H
                    have c10b0 : (((rd_T77 l0 x6_1).f0) == 6) = true := beq_iff_eq.mpr c10
                    have c10b1 : (((rd_T77 l0 x6_1).f0) != 6) = false := bne_eq_false_iff_eq.mpr c10
                    clear c10
                    by_cases c11 : (wrap64 (x5_5 - 1)) = 0
                    · rw [if_pos c11] at H
                      have c11b0 : ((wrap64 (x5_5 - 1)) == 0) = true := beq_iff_eq.mpr c11
                      have c11b1 : ((wrap64 (x5_5 - 1)) != 0) = false := bne_eq_false_iff_eq.mpr c11
                      clear c11
                      obtain rfl := Option.some.inj H
                      have p349 : 0 ≤ (x6_1 : Int) := of_decide_eq_true z4_4
                      have q349 : x6_1 < (l0.length : Int) := of_decide_eq_true z4_4
                      obtain ⟨ad349, e349, hx349_0, hx349_1, hx349_2, hx349_3, hx349_4, hx349_5⟩ := at_T77 HR0.out x6_1 p349 q349
                      obtain rfl : ad347 = ad349 := (by injection e349)
                      replace p349 := eq_true p349
                      replace q349 := eq_true q349
                      go_wp2
                      go_ret
                      exact ⟨by first | rfl | (simp; done) | (simp [*]; done), by repeat (first | exact Drawn0.refl _ | apply Drawn0.step)⟩
                    · rw [if_neg c11] at H
                      have c11b0 : ((wrap64 (x5_5 - 1)) == 0) = false := beq_eq_false_iff_ne.mpr c11
                      have c11b1 : ((wrap64 (x5_5 - 1)) != 0) = true := bne_iff_ne.mpr c11
                      have H' := Aside0.mk H
                      clear H
                      have p349 : 0 ≤ (x6_1 : Int) := of_decide_eq_true z4_4
                      have q349 : x6_1 < (l0.length : Int) := of_decide_eq_true z4_4
                      obtain ⟨ad349, e349, hx349_0, hx349_1, hx349_2, hx349_3, hx349_4, hx349_5⟩ := at_T77 HR0.out x6_1 p349 q349
                      obtain rfl : ad347 = ad349 := (by injection e349)
                      replace p349 := eq_true p349
                      replace q349 := eq_true q349
                      go_wp2
                      go_roundg kj5
                      case measure => have := HK1.out; have := HJ5.out; omega
                      case rel => exact ⟨(wrap64 (x5_5 - 1)), (wrap64 (x6_1 + 1)), z4_3, z4_3, H', ⟨by have := HK1.out; have := HJ5.out; omega⟩, by repeat (first | exact Drawn0.refl _ | apply Drawn0.step)⟩
                  · rw [if_neg c10] at H
                    have c10b0 : (((rd_T77 l0 x6_1).f0) == 6) = false := beq_eq_false_iff_ne.mpr c10
                    have c10b1 : (((rd_T77 l0 x6_1).f0) != 6) = true := bne_iff_ne.mpr c10
                    by_cases c12 : x5_5 = 0
                    · rw [if_pos c12] at H
                      have c12b0 : (x5_5 == 0) = true := beq_iff_eq.mpr c12
                      have c12b1 : (x5_5 != 0) = false := bne_eq_false_iff_eq.mpr c12
                      clear c12
                      obtain rfl := Option.some.inj H
                      have p349 : 0 ≤ (x6_1 : Int) := of_decide_eq_true z4_4
                      have q349 : x6_1 < (l0.length : Int) := of_decide_eq_true z4_4
                      obtain ⟨ad349, e349, hx349_0, hx349_1, hx349_2, hx349_3, hx349_4, hx349_5⟩ := at_T77 HR0.out x6_1 p349 q349
                      obtain rfl : ad347 = ad349 := (by injection e349)
                      replace p349 := eq_true p349
                      replace q349 := eq_true q349
                      go_wp2
                      go_ret
                      exact ⟨by first | rfl | (simp; done) | (simp [*]; done), by repeat (first | exact Drawn0.refl _ | apply Drawn0.step)⟩
                    · rw [if_neg c12] at H
                      have c12b0 : (x5_5 == 0) = false := beq_eq_false_iff_ne.mpr c12
                      have c12b1 : (x5_5 != 0) = true := bne_iff_ne.mpr c12
                      have H' := Aside0.mk H
                      clear H
                      have p349 : 0 ≤ (x6_1 : Int) := of_decide_eq_true z4_4
                      have q349 : x6_1 < (l0.length : Int) := of_decide_eq_true z4_4
                      obtain ⟨ad349, e349, hx349_0, hx349_1, hx349_2, hx349_3, hx349_4, hx349_5⟩ := at_T77 HR0.out x6_1 p349 q349
                      obtain rfl : ad347 = ad349 := (by injection e349)
                      replace p349 := eq_true p349
                      replace q349 := eq_true q349
                      go_wp2
                      go_roundg kj5
                      case measure => have := HK1.out; have := HJ5.out; omega
                      case rel => exact ⟨(x5_5), (wrap64 (x6_1 + 1)), z4_3, z4_3, H', ⟨by have := HK1.out; have := HJ5.out; omega⟩, by repeat (first | exact Drawn0.refl _ | apply Drawn0.step)⟩
                · rw [if_neg c9] at H
                  exact absurd H (by simp)
              · rw [if_neg c8] at H
                exact absurd H (by simp)
        · rw [if_neg c4] at H
          exact absurd H (by simp)
      · rw [if_neg c3] at H
        have c3b0 : decide (x6_1 < (l0.length : Int)) = false := decide_eq_false c3
        clear c3
        obtain rfl := Option.some.inj H
        go_wp2
        go_ret
        exact ⟨by first | rfl | (simp; done) | (simp [*]; done), by repeat (first | exact Drawn0.refl _ | apply Drawn0.step)⟩

/-! ### impl_walk: function 56 -/
theorem heapStmt : Kd.Heap k77 := Kd.heap_iso _ (Kd.heap_pair (Kd.heap_int .i64) (Kd.heap_pair (Kd.heap_int .i64) (Kd.heap_pair (Kd.heap_int .i64) (Kd.heap_iso _ (Kd.heap_pair (Kd.heap_int .i64) (Kd.heap_pair (Kd.heap_int .i64) (Kd.heap_int .i64)))))))
/-- A walk's step, n times. -/
def walkRep {σ : Type} (f : σ → Option σ) : Nat → σ → Option σ
  | 0, s => some s
  | n + 1, s => (f s).bind (walkRep f n)
mutual
def impl_walk.f {σ : Type} (step : σ → S77 → Option (σ × Bool)) : Nat → List S77 → σ → Option σ
  | 0, _, _ => none
  | k + 1, l, s => impl_walk.l0 step k l 0 s
def impl_walk.l0 {σ : Type} (step : σ → S77 → Option (σ × Bool)) : Nat → List S77 → Int → σ → Option σ
  | 0, _, _, _ => none
  | k + 1, l, i, s => if i < (l.length : Int) then (if 0 ≤ i then (if (rd_T77 l i).f0 = 6 then impl_walk.l0 step k l (wrap64 (i + 1)) s else
      (step s (rd_T77 l i)).bind fun sb => (impl_isOpening.f (rd_T77 l i).f0).bind fun o => if o = true then
        ((impl_endOf.f k l i).bind fun e => (if (rd_T77 l i).f0 = 4 then impl_bit.f sb.2 else some (rd_T77 l i).f2).bind fun n =>
          if 0 ≤ wrap64 (i + 1) ∧ wrap64 (i + 1) ≤ e ∧ e ≤ (l.length : Int) ∧ n ≤ 9223372036854775807 then
            ((walkRep (fun s' => impl_walk.f step k ((l.take e.toNat).drop (wrap64 (i + 1)).toNat) s') n.toNat sb.1).bind fun s' => impl_walk.l0 step k l (wrap64 (e + 1)) s') else none)
        else impl_walk.l0 step k l (wrap64 (i + 1)) sb.1) else none) else some s
end
theorem walkRep_mono {σ : Type} {f g : σ → Option σ} (h : ∀ s, LeO (f s) (g s)) : ∀ n s, LeO (walkRep f n s) (walkRep g n s)
  | 0, s => LeO.refl _
  | n + 1, s => LeO.bind (h s) (fun x => walkRep_mono h n x)
theorem impl_walk.mono_l {σ : Type} {step step' : σ → S77 → Option (σ × Bool)} (hs : ∀ s x, LeO (step s x) (step' s x)) : ∀ k, (∀ l s, LeO (impl_walk.f step k l s) (impl_walk.f step' (k + 1) l s)) ∧ (∀ l i s, LeO (impl_walk.l0 step k l i s) (impl_walk.l0 step' (k + 1) l i s))
  | 0 => ⟨fun _ _ r h => by simp [impl_walk.f] at h, fun _ _ _ r h => by simp [impl_walk.l0] at h⟩
  | k + 1 => by
    obtain ⟨ih0, ih1⟩ := impl_walk.mono_l hs k
    constructor
    · intro l s
      unfold impl_walk.f
      exact ih1 _ _ _
    · intro l i s
      unfold impl_walk.l0
      refine LeO.ite (LeO.ite (LeO.ite (ih1 _ _ _) (LeO.bind (hs _ _) (fun _ => LeO.bind (LeO.refl _) (fun _ => LeO.ite (LeO.bind (impl_endOf.mono _ _ k) (fun _ => LeO.bind (LeO.refl _) (fun _ => LeO.ite (LeO.bind (walkRep_mono (fun s => ih0 _ s) _ _) (fun _ => ih1 _ _ _)) (LeO.refl _)))) (ih1 _ _ _))))) (LeO.refl _)) (LeO.refl _)
set_option maxHeartbeats 8000000 in
set_option maxRecDepth 100000 in
theorem impl_walk.calls {σ : Type} {B : Nat} (step : σ → S77 → Option (σ × Bool)) (I : σ → Sep.Asn) (g : Nat) (cb : Array Value) (eg : ∀ args w, (callFunc g args).run Try.prog w = .ok (.enter g args) w)
    (hL : ∀ s, Sep.Loc B (I s))
    (hstep : ∀ s x s' b F w, B ≤ w.heap.size → step s x = some (s', b) → I s F w → Calls Try.prog g (#[.agg #[.int .i64 x.f0, .int .i64 x.f1, .int .i64 x.f2, .int .i64 x.f3.f0, .int .i64 x.f3.f1, .int .i64 x.f3.f2]] ++ cb) w fun e w' => e = .returned (.bool b) ∧ ∃ F', I s' F' w' ∧ Sep.After F w F' w')
    (k : Nat) : ∀ (A0 : Option Addr) (c0 : Nat) (l0 : List S77) (s r : σ) (F : Nat → Prop) (w : World) (hr : ∀ w', Kept w w' F → Kd.C k77 w' A0 l0.length l0) (hc0 : l0.length ≤ c0) (hB : B ≤ w.heap.size) (hs : I s F w) (h : impl_walk.f step k l0 s = some r),
    Calls Try.prog 56 #[.slice A0 l0.length c0, .func (.func g) #[] cb] w fun e w' => e = .returned (.tuple #[]) ∧ ∃ F', I r F' w' ∧ Sep.After F w F' w' := by
  have HL := Aside0.mk hL
  have HST := Aside0.mk hstep
  clear hL hstep
  induction k using Nat.strongRecOn with
  | _ k ih =>
  have IH := Aside0.mk ih
  clear ih
  intro A0 c0 l0 s r F w hr hc0 hB hs h
  cases k with
  | zero => exact absurd h (by simp [impl_walk.f])
  | succ k =>
  simp only [impl_walk.f] at h
  have hu77 := Try.underlying77
  have HR := Aside0.mk hr
  have HC0 := Aside0.mk hc0
  have HBW := Aside0.mk hB
  have HS := Aside0.mk hs
  have H' := Aside0.mk h
  clear hr hc0 hB hs h
  go_enter Try.func56, Try.ntmps56
  go_wp2
  go_loopg [4] k (fun kq v4 w' => ∃ (i : Int) (s' : σ) (F' : Nat → Prop), v4 = .int .i64 i ∧ Aside0 (impl_walk.l0 step kq l0 i s' = some r) ∧ Aside0 (kq ≤ k) ∧ Aside0 (I s' F' w') ∧ Aside0 (Sep.After F w F' w'))
  case atStart => exact ⟨0, s, F, by first | rfl | (simp; done), H', ⟨Nat.le_refl _⟩, HS, ⟨Sep.After.refl _ _⟩⟩
  case round =>
    clear H' HS
    obtain ⟨i, s', F', rfl, HA, HK1, HI, HAF⟩ := hrel
    cases gk with
    | zero => exact absurd HA.out (by simp [impl_walk.l0])
    | succ k1 =>
      have H := HA.out
      clear HA
      simp only [impl_walk.l0] at H
      by_cases c1 : i < (l0.length : Int)
      · rw [if_pos c1] at H
        have c1b : decide (i < (l0.length : Int)) = true := decide_eq_true c1
        by_cases c2 : 0 ≤ i
        · rw [if_pos c2] at H
          obtain ⟨ad, e, hx0, hx1, hx2, hx3, hx4, hx5⟩ := at_T77 (HR.out _ HAF.out.kept) i c2 c1
          cases e
          have p1 := eq_true c2
          have q1 := eq_true c1
          obtain ⟨x, hx⟩ : ∃ x, rd_T77 l0 i = x := ⟨_, rfl⟩
          rw [hx] at H hx0 hx1 hx2 hx3 hx4 hx5
          obtain ⟨x0, x1, x2, x3, x4, x5⟩ := x
          simp only at H hx0 hx1 hx2 hx3 hx4 hx5
          by_cases c6 : x0 = 6
          · rw [if_pos c6] at H
            subst c6
            have H' := Aside0.mk H
            clear H c1 c2 hx
            go_wp2_with (first | ((with_reducible refine gate_dst (N := 5) rfl ?_); refine box_event ?hg (N := 5) ?hd (cs := #[.int .i64 0, .int .i64 0, .int .i64 0, .int .i64 0, .int .i64 0, .int .i64 0]) (t := 77) ?hr ?_; (case hd => rfl); (case hg => rfl); (case hr => exact z4_5); intro gb hg w2 hbox hb; have HB := Aside0.mk hb; have BK := Aside0.mk hbox; have GE : Aside0 (wr.heap.size ≤ gb) := ⟨Nat.le_of_eq hg.symm⟩; obtain ⟨⟨_, _, _, _, _, _⟩, ⟨_, _, _, _, _, _⟩⟩ := Sep.blk6 hbox; clear hb hbox hg) | ((with_reducible refine gate_store (t := 77) (p := 5) rfl ?_); refine store_event (t := 77) (p := 5) (v := ?vo_) (w1 := Sep.put6 w2 gb (.int .i64 6) (.int .i64 x1) (.int .i64 x2) (.int .i64 x3) (.int .i64 x4) (.int .i64 x5)) ?hg ?ho ?hn ?hr ?_; (case ho => rfl); (case hg => rfl); (case hn => rfl); (case hr => exact z4_5); intro w3 hw; have BK3 := Aside0.mk (hw ▸ Sep.put6_blk BK.out (.int .i64 6) (.int .i64 x1) (.int .i64 x2) (.int .i64 x3) (.int .i64 x4) (.int .i64 x5)); have HB3 := Aside0.mk (hw ▸ Sep.put6_below HB.out GE.out (.int .i64 6) (.int .i64 x1) (.int .i64 x2) (.int .i64 x3) (.int .i64 x4) (.int .i64 x5)); clear hw BK HB; obtain ⟨⟨_, _, _, _, _, _⟩, ⟨_, _, _, _, _, _⟩⟩ := Sep.blk6 BK3.out))
            go_roundg k1
            case measure => have := HK1.out; omega
            case rel => exact ⟨wrap64 (i + 1), s', F', by first | rfl | (simp; done) | (simp [*]; done), H', ⟨by have := HK1.out; omega⟩, ⟨(HL.out s').below (Nat.le_trans HBW.out HAF.out.size) HI.out HB3.out⟩, ⟨HAF.out.below HB3.out⟩⟩
          · rw [if_neg c6] at H
            have c6b : (x0 == 6) = false := beq_eq_false_iff_ne.mpr c6
            obtain ⟨sb, A1, H1⟩ := Option.bind_eq_some_iff.mp H
            obtain ⟨s2, b⟩ := sb
            obtain ⟨o, A2, H2⟩ := Option.bind_eq_some_iff.mp H1
            have HA1 := Aside0.mk A1
            have HA2 := Aside0.mk A2
            have H3 := Aside0.mk H2
            have HX := Aside0.mk hx
            clear hx c1 c2 c6 A1 A2 H H1 H2
            go_wp2_with (first | ((with_reducible refine gate_dst (N := 5) rfl ?_); refine box_event ?hg (N := 5) ?hd (cs := #[.int .i64 0, .int .i64 0, .int .i64 0, .int .i64 0, .int .i64 0, .int .i64 0]) (t := 77) ?hr ?_; (case hd => rfl); (case hg => rfl); (case hr => exact z4_5); intro gb hg w2 hbox hb; have HB := Aside0.mk hb; have BK := Aside0.mk hbox; have GE : Aside0 (wr.heap.size ≤ gb) := ⟨Nat.le_of_eq hg.symm⟩; obtain ⟨⟨_, _, _, _, _, _⟩, ⟨_, _, _, _, _, _⟩⟩ := Sep.blk6 hbox; clear hb hbox hg) | ((with_reducible refine gate_store (t := 77) (p := 5) rfl ?_); refine store_event (t := 77) (p := 5) (v := ?vo_) (w1 := Sep.put6 w2 gb (.int .i64 x0) (.int .i64 x1) (.int .i64 x2) (.int .i64 x3) (.int .i64 x4) (.int .i64 x5)) ?hg ?ho ?hn ?hr ?_; (case ho => rfl); (case hg => rfl); (case hn => rfl); (case hr => exact z4_5); intro w3 hw; have BK3 := Aside0.mk (hw ▸ Sep.put6_blk BK.out (.int .i64 x0) (.int .i64 x1) (.int .i64 x2) (.int .i64 x3) (.int .i64 x4) (.int .i64 x5)); have HB3 := Aside0.mk (hw ▸ Sep.put6_below HB.out GE.out (.int .i64 x0) (.int .i64 x1) (.int .i64 x2) (.int .i64 x3) (.int .i64 x4) (.int .i64 x5)); clear hw BK HB; obtain ⟨⟨_, _, _, _, _, _⟩, ⟨_, _, _, _, _, _⟩⟩ := Sep.blk6 BK3.out))
            refine (HST.out s' ⟨x0, x1, x2, ⟨x3, x4, x5⟩⟩ s2 b F' w3 (Nat.le_trans HBW.out (HAF.out.below HB3.out).size) HA1.out ((HL.out s').below (Nat.le_trans HBW.out HAF.out.size) HI.out HB3.out)).mono ?_
            rintro e w4 ⟨rfl, F2, hI2, hA2⟩
            have HI2 := Aside0.mk hI2
            have NF : Aside0 (¬ F' gb) := ⟨fun h => absurd ((HL.out s').lt HI.out gb h).2 (Nat.not_lt.mpr GE.out)⟩
            have BK4 := Aside0.mk (hA2.blk BK3.out NF.out)
            have NF2 := Aside0.mk (hA2.out BK3.out NF.out)
            have HA4 := Aside0.mk ((HAF.out.below HB3.out).trans hA2)
            clear hI2 hA2 BK3 NF
            obtain ⟨⟨_, _, _, _, _, _⟩, ⟨_, _, _, _, _, _⟩⟩ := Sep.blk6 BK4.out
            cases o with
            | false =>
              have H4 := H3.out
              rw [if_neg (by simp)] at H4
              have H' := Aside0.mk H4
              clear H4 H3
              go_wp2_with (go_at_call 59; (with_reducible refine (impl_isOpening.calls _ _ _ HA2.out).mono ?_); rintro e w' ⟨rfl, ⟨nd, rfl⟩⟩)
              go_roundg k1
              case measure => have := HK1.out; omega
              case rel => exact ⟨wrap64 (i + 1), s2, F2, by first | rfl | (simp; done) | (simp [*]; done), H', ⟨by have := HK1.out; omega⟩, ⟨(HL.out s2).below (Nat.le_trans HBW.out HA4.out.size) HI2.out (by repeat (first | exact Below.refl _ _ | apply pw_below_drewN))⟩, ⟨HA4.out.below (by repeat (first | exact Below.refl _ _ | apply pw_below_drewN))⟩⟩
            | true =>
              have H4 := H3.out
              rw [if_pos rfl] at H4
              obtain ⟨en, A3, H5⟩ := Option.bind_eq_some_iff.mp H4
              obtain ⟨n, A4, H6⟩ := Option.bind_eq_some_iff.mp H5
              by_cases c7 : 0 ≤ wrap64 (i + 1) ∧ wrap64 (i + 1) ≤ en ∧ en ≤ (l0.length : Int) ∧ n ≤ 9223372036854775807
              · rw [if_pos c7] at H6
                obtain ⟨s3, A5, H7⟩ := Option.bind_eq_some_iff.mp H6
                have H' := Aside0.mk H7
                have HA3 := Aside0.mk A3
                have HA5 := Aside0.mk A5
                have HN : Aside0 (((x0 == 4) = true ∧ impl_bit.f b = some n) ∨ ((x0 == 4) = false ∧ n = x2 ∧ True)) := by
                  by_cases c4 : x0 = 4
                  · rw [if_pos c4] at A4
                    exact ⟨.inl ⟨beq_iff_eq.mpr c4, A4⟩⟩
                  · rw [if_neg c4] at A4
                    exact ⟨.inr ⟨beq_eq_false_iff_ne.mpr c4, (Option.some.inj A4).symm, trivial⟩⟩
                clear H4 H3 H5 H6 H7 A3 A4 A5
                obtain ⟨ji, hji⟩ : ∃ ji, wrap64 (i + 1) = ji := ⟨_, rfl⟩
                rw [hji] at c7
                replace HA5 : Aside0 (walkRep (fun s' => impl_walk.f step k1 ((l0.take en.toNat).drop ji.toNat) s') n.toNat s2 = some s3) := by rw [← hji]; exact HA5
                obtain ⟨y, hy⟩ : ∃ y, (l0.take en.toNat).drop ji.toNat = y := ⟨_, rfl⟩
                rw [hy] at HA5
                obtain ⟨i0, hi0, hsz0⟩ := Option.map_eq_some_iff.mp (show (Try.prog.info? 77).map (·.size) = some 6 by kernel_rfl)
                have hcut := cut_mid (P := Try.prog) 30 77 .i64 .i64 Try.underlying30 hi0 6 hsz0 (some ad) l0.length c0 ji en c7.1 c7.2.1 c7.2.2.1 HC0.out
                obtain ⟨A', hA'⟩ : ∃ A', (if c0 = ji.toNat then (some ad) else ((some ad) : Option Addr).map (·.add (ji.toNat * 6))) = A' := ⟨_, rfl⟩
                obtain ⟨c', hc'⟩ : ∃ c', c0 - ji.toNat = c' := ⟨_, rfl⟩
                have hyl : en.toNat - ji.toNat = y.length := by rw [← hy, List.length_drop, List.length_take]; omega
                rw [hA', hc', hyl] at hcut
                have HRy : Aside0 (∀ w', Kept w w' F → Kd.C k77 w' A' y.length y) := ⟨fun w' hk => by
                  have := Kd.C_mid (HR.out w' hk) (lo := ji.toNat) (hi := en.toNat) (c := c0) (by omega) (by omega) HC0.out
                  rw [hy] at this
                  rw [← hA']
                  exact this⟩
                have HCy : Aside0 (y.length ≤ c') := ⟨by have := HC0.out; omega⟩
                have hjiw : IntKind.i64.wrap (i + 1) = ji := (i64_w _).trans hji
                have HNB := Aside0.mk c7.2.2.2
                clear hy hyl hA' hc' c7 hi0 hsz0
                rcases HN.out with ⟨c4b, A4⟩ | ⟨c4b, rfl, A4⟩
                all_goals
                  have HA4' := Aside0.mk A4
                  clear A4 HN
                  go_wp2_with (first | (go_at_call 59; (with_reducible refine (impl_isOpening.calls _ _ _ HA2.out).mono ?_); rintro e w' ⟨rfl, ⟨nd, rfl⟩⟩) | (go_at_call 87; (with_reducible refine (impl_endOf.calls k1 _ _ l0 i en _ ?sd1 HC0.out HA3.out).mono ?_); (case sd1 => exact HR.out _ (Kept.drewN HA4.out.kept _)); rintro e w' ⟨rfl, ⟨nd, rfl⟩⟩) | (go_at_call 58; (with_reducible refine (impl_bit.calls _ _ _ HA4'.out).mono ?_); rintro e w' ⟨rfl, ⟨nd, rfl⟩⟩))
                  go_loopg [40] n.toNat (fun kq v40 w' => ∃ (j : Int) (sj : σ) (Fj : Nat → Prop), v40 = .int .i64 j ∧ Aside0 (0 ≤ j ∧ j + (kq : Int) = (n.toNat : Int)) ∧ Aside0 (walkRep (fun s' => impl_walk.f step k1 y s') kq sj = some s3) ∧ Aside0 (I sj Fj w') ∧ Aside0 (Sep.After F w Fj w'))
                  case atStart => exact ⟨0, s2, F2, by first | rfl | (simp; done), ⟨by omega, by omega⟩, HA5, ⟨(HL.out s2).below (Nat.le_trans HBW.out HA4.out.size) HI2.out (by repeat (first | exact Below.refl _ _ | apply pw_below_drewN))⟩, ⟨HA4.out.below (by repeat (first | exact Below.refl _ _ | apply pw_below_drewN))⟩⟩
                  case round =>
                    clear HA5 HI2 HA4
                    obtain ⟨j, sj, Fj, rfl, HJ, HWJ, HIJ, HAJ⟩ := hrel
                    by_cases cj : j < n
                    · have cjb : decide (j < n) = true := decide_eq_true cj
                      have hw1 : wrap64 (j + 1) = j + 1 := by have := HJ.out; have := HNB.out; unfold wrap64; omega
                      cases gk with
                      | zero => have := HJ.out; omega
                      | succ k2 =>
                        obtain ⟨s4, A6, A7⟩ := Option.bind_eq_some_iff.mp HWJ.out
                        have HA6 := Aside0.mk A6
                        have HA7 := Aside0.mk A7
                        have HW := Aside0.mk hw1
                        have CJ := Aside0.mk cj
                        clear A6 A7 hw1 cj HWJ
                        go_wp2_with (go_at_call 56; (with_reducible refine (IH.out k1 ?sd1 A' c' y sj s4 Fj _ ?sd2 HCy.out (Nat.le_trans HBW.out HAJ.out.size) HIJ.out HA6.out).mono ?_); (case sd1 => have := HK1.out; omega); (case sd2 => exact fun w' hk => HRy.out w' (HAJ.out.kept.then_ hk HAJ.out.sub)); rintro e w6 ⟨rfl, F6, hI6, hA6⟩; have HI6 := Aside0.mk hI6; have HA6' := Aside0.mk (HAJ.out.trans hA6); clear hI6 hA6)
                        go_roundg k2
                        case measure => omega
                        case rel => exact ⟨j + 1, s4, F6, by first | rfl | (rw [HW.out]; done) | (simp [HW.out]; done), ⟨by have := HJ.out; omega, by have := HJ.out; omega⟩, HA7, HI6, HA6'⟩
                    · have cjb : decide (j < n) = false := decide_eq_false cj
                      have hk0 : gk = 0 := by have := HJ.out; omega
                      subst hk0
                      obtain rfl := Option.some.inj HWJ.out
                      clear cj HWJ
                      go_wp2
                      go_roundg k1
                      case measure => have := HK1.out; omega
                      case rel => exact ⟨wrap64 (en + 1), sj, Fj, by first | rfl | (simp; done) | (simp [*]; done), H', ⟨by have := HK1.out; omega⟩, HIJ, HAJ⟩
              · rw [if_neg c7] at H6
                exact absurd H6 (by simp)
        · rw [if_neg c2] at H
          exact absurd H (by simp)
      · rw [if_neg c1] at H
        have c1b : decide (i < (l0.length : Int)) = false := decide_eq_false c1
        obtain rfl := Option.some.inj H
        clear H c1
        go_wp2
        go_end0
        exact ⟨rfl, F', HI.out, HAF.out⟩

/-! ### slices_Clone_int_int: function 104 -/
def slices_Clone_int_int.f (l0 : List Int) : Option (List Int) := if l0.length < 17592186044416 then some l0 else none
set_option maxHeartbeats 8000000 in
set_option maxRecDepth 100000 in
theorem slices_Clone_int_int.calls (A0 : Option Addr) (c0 : Nat) (l0 : List Int) (r : List Int) (w : World) (hr0 : Kd.C (Kd.int .i64) w A0 l0.length l0) (hc0 : l0.length ≤ c0) (h : slices_Clone_int_int.f l0 = some r) :
    Calls Try.prog 104 #[.slice A0 l0.length c0] w fun e w' => ∃ v0_ : Value, e = .returned (v0_) ∧ Kd.R (Kd.int .i64) 3 w' w.heap.size (fun _ => True) v0_ r ∧ Below w.heap.size w w' := by
  have HR0 := Aside0.mk hr0
  have HC0 := Aside0.mk hc0
  have HB := Aside0.mk (Below.refl w.heap.size w)
  unfold slices_Clone_int_int.f at h
  by_cases hl : l0.length < 17592186044416
  · rw [if_pos hl] at h
    obtain rfl := Option.some.inj h
    clear h
    obtain ⟨y0, hy0⟩ : ∃ y_ : List Int, y_ = ([] : List Int) := ⟨_, rfl⟩
    obtain ⟨y1, hy1⟩ : ∃ y_ : List Int, y_ = y0 ++ l0 := ⟨_, rfl⟩
    have hl2 : y0.length + l0.length < 17592186044416 := by
      rw [hy0]
      simpa using hl
    have e1 : y1 = l0 := by rw [hy1, hy0, List.nil_append]
    have LM := Aside0.mk hl2
    have N0 := Aside0.mk hy0
    have N1 := Aside0.mk hy1
    have E1 := Aside0.mk e1
    clear hl2 hy0 hy1 e1
    cases A0 with
    | none =>
      have l0e : l0 = [] := by
        cases l0 with
        | nil => rfl
        | cons x t =>
          obtain ⟨ad, e, _⟩ := hr0.2.2 (by simp)
          cases e
      subst l0e
      have he : ∀ w : World, (binOp .eql 28 (.slice none 0 c0) (.slice none 0 0)).run Try.prog w = .ok (.bool true) w := fun _ => rfl
      go_enter Try.func104, Try.ntmps104
      go_wp2
      go_ret
      exact ⟨_, rfl, Kd.R_nil _ _ _ _ _, HB.out⟩
    | some a0 =>
      have he : ∀ w : World, (binOp .eql 28 (.slice (some a0) l0.length c0) (.slice none 0 0)).run Try.prog w = .ok (.bool false) w := fun _ => rfl
      go_enter Try.func104, Try.ntmps104
      go_wp2_with (first | ((with_reducible refine gate_dst (N := 5) rfl ?_); refine Kd.R_lit (Kd.int .i64) _ 3 ?hg (N := 5) ?hd (xs := ([] : List Int)) (inner := []) (ok := fun _ => True) (okp := fun _ => True) ?hr ?hp (fun _ hk => hk) trivial (Below.refl _ _) (Nat.le_refl _) (by simp) ?_; (case hd => rfl); (case hg => rfl); (case hr => exact z4_5); (case hp => exact (Reps.none _ _)); intro v196 w5 ho6 hb hg_ hnew_; clear hg_ hnew_; rw [← N0.out] at ho6; have HO197 := Aside0.mk ho6; have n1_ := Aside0.mk (below_step HB.out hb); clear HB; have HB := n1_; clear n1_; clear hb ho6) | ((with_reducible refine gate_builtin (b := .append) (xs := #[.tmp 5, .tmp 6]) rfl ?_); at_builtin; refine Kd.R_append_rows (Kd.int .i64) (w0 := w) w.heap.size rfl (.tmp 5) (.tmp 6) 28 3 (.int .i64 0) 8 rfl Try.underlying28 info3 rfl (by decide) (by omega) v196 y0 l0 _ _ _ (fun _ => True) (fun _ => False) rfl rfl ?aO ?aR (fun _ _ h => h) (fun _ h => h.elim) ?aF ?aB ?aS ?aL ?_; (case aR => repeat (first | exact (Kd.C_below HR0.out HB.out) | (with_reducible refine Kd.C_alloc ?_ _) | (with_reducible refine Kd.C_drewN ?_ _) | (with_reducible refine Kd.C_drew ?_))); (case aB => exact z4_0); (case aF => exact (fun _ _ => trivial)); (case aO => exact (by (with_reducible repeat (first | apply Kd.R_alloc | apply Kd.R_drewN | apply Kd.R_drew)); exact HO197.out)); (case aS => exact (below_size z4_0)); (case aL => have := LM.out; omega); intro v199 w7 ho hb hg hat; rw [← N1.out] at ho; have n0_ := Aside0.mk (hb); have n1_ := Aside0.mk (ho); clear HB; have HB := n0_; have HO200 := n1_; clear n0_ n1_; clear ho hb hg hat))
      go_ret
      exact ⟨_, rfl, by rw [← E1.out]; repeat (first | exact HO200.out | apply Kd.R_alloc | apply Kd.R_drewN | apply Kd.R_drew), by repeat (first | (with_reducible first | exact HB.out | apply below_alloc | apply pw_below_drewN | apply below_drew1) | exact HB.out)⟩
  · rw [if_neg hl] at h
    exact absurd h (by simp)

/-! ### impl_Clamp: function 162 -/
def impl_Clamp.f (a0 : Int) (a1 : Int) (a2 : Int) : Option (Int) := if a2 < a1 then (some a1) else (some (mn (mx a0 a1) a2))
set_option maxHeartbeats 8000000 in
set_option maxRecDepth 100000 in
theorem impl_Clamp.calls (a0 : Int) (a1 : Int) (a2 : Int) (r : Int) (w : World) (h : impl_Clamp.f a0 a1 a2 = some r) :
    Calls Try.prog 162 #[.int .i64 a0, .int .i64 a1, .int .i64 a2] w fun e w' => e = .returned (.int .i64 r) ∧ Drawn0 w w' := by
  have H : (if a2 < a1 then (some a1) else (some (mn (mx a0 a1) a2))) = some r := h
  clear h
  by_cases c4 : a2 < a1
  · rw [if_pos c4] at H
    have c4b0 : decide (a2 < a1) = true := decide_eq_true c4
    clear c4
    obtain rfl := Option.some.inj H
    go_enter Try.func162, Try.ntmps162
    go_wp2
    go_ret
    exact ⟨by first | rfl | (simp; done) | (simp [*]; done), by repeat (first | exact Drawn0.refl _ | apply Drawn0.step)⟩
  · rw [if_neg c4] at H
    have c4b0 : decide (a2 < a1) = false := decide_eq_false c4
    clear c4
    obtain ⟨ji5, hji5⟩ : ∃ j_ : Int, (mx a0 a1) = j_ := ⟨_, rfl⟩
    replace H : (some (mn (ji5) a2)) = some r := by first | (rw [hji5] at H; exact H) | (simp only [hji5] at H ⊢; exact H)
    have hji5_ : (if a0 < a1 then a1 else a0) = ji5 := hji5
    obtain ⟨ji6, hji6⟩ : ∃ j_ : Int, (mn (ji5) a2) = j_ := ⟨_, rfl⟩
    replace H : (some ji6) = some r := by first | (rw [hji6] at H; exact H) | (simp only [hji6] at H ⊢; exact H)
    have hji6_ : (if a2 < (ji5) then a2 else (ji5)) = ji6 := hji6
    obtain rfl := Option.some.inj H
    go_enter Try.func162, Try.ntmps162
    go_wp2
    go_ret
    exact ⟨by first | rfl | (simp; done) | (simp only [← hji5, ← hji6] <;> (first | rfl | simp)) | (simp [*]; done), by repeat (first | exact Drawn0.refl _ | apply Drawn0.step)⟩

/-! ### impl_Saturate: function 142 -/
def impl_Saturate.f (a0 : Int) : Option (Int) := (impl_Clamp.f a0 (-1000000) 1000000).bind fun t350 => (some t350)
set_option maxHeartbeats 8000000 in
set_option maxRecDepth 100000 in
theorem impl_Saturate.calls (a0 : Int) (r : Int) (w : World) (h : impl_Saturate.f a0 = some r) :
    Calls Try.prog 142 #[.int .i64 a0] w fun e w' => e = .returned (.int .i64 r) ∧ Drawn0 w w' := by
  have H : ((impl_Clamp.f a0 (-1000000) 1000000).bind fun t350 => (some t350)) = some r := h
  clear h
  replace H := Option.bind_eq_some_iff.mp H
  obtain ⟨t350, A20, H⟩ := H
  replace H : (some t350) = some r := H
  have A2 := Aside0.mk A20
  clear A20
  obtain rfl := Option.some.inj H
  go_enter Try.func142, Try.ntmps142
  go_wp2_with (first | ((first | ((with_reducible refine gate_callee (f := 162) rfl ?_); refine goesL_ (some 4) rfl rfl Try.func162 (by kernel_rfl) rfl #[.int .i64 a0, .int .i64 (-1000000), .int .i64 1000000] rfl z4_2 ?_; (with_reducible refine (impl_Clamp.calls a0 (-1000000) 1000000 t350 _ A2.out).mono ?_)) | (go_at_call 162; (with_reducible refine (impl_Clamp.calls a0 (-1000000) 1000000 t350 _ A2.out).mono ?_))); rintro e w' ⟨rfl, ⟨nd, rfl⟩⟩; (first | refine ⟨_, rfl, ?_⟩ | skip)))
  go_ret
  exact ⟨by first | rfl | (simp; done) | (simp [*]; done), by repeat (first | exact Drawn0.refl _ | apply Drawn0.step)⟩

/-! ### impl_AddValues: function 112 -/
def impl_AddValues.f (a0 : Int) (a1 : Int) : Option (Int) := (impl_Saturate.f a0).bind fun t351 => ((impl_Saturate.f a1).bind fun t352 => ((impl_Saturate.f (wrap64 (t351 + t352))).bind fun t353 => (some t353)))
set_option maxHeartbeats 8000000 in
set_option maxRecDepth 100000 in
theorem impl_AddValues.calls (a0 : Int) (a1 : Int) (r : Int) (w : World) (h : impl_AddValues.f a0 a1 = some r) :
    Calls Try.prog 112 #[.int .i64 a0, .int .i64 a1] w fun e w' => e = .returned (.int .i64 r) ∧ Drawn0 w w' := by
  have H : ((impl_Saturate.f a0).bind fun t351 => ((impl_Saturate.f a1).bind fun t352 => ((impl_Saturate.f (wrap64 (t351 + t352))).bind fun t353 => (some t353)))) = some r := h
  clear h
  replace H := Option.bind_eq_some_iff.mp H
  obtain ⟨t351, A30, H⟩ := H
  replace H : ((impl_Saturate.f a1).bind fun t352 => ((impl_Saturate.f (wrap64 (t351 + t352))).bind fun t353 => (some t353))) = some r := H
  have A3 := Aside0.mk A30
  clear A30
  replace H := Option.bind_eq_some_iff.mp H
  obtain ⟨t352, A40, H⟩ := H
  replace H : ((impl_Saturate.f (wrap64 (t351 + t352))).bind fun t353 => (some t353)) = some r := H
  have A4 := Aside0.mk A40
  clear A40
  replace H := Option.bind_eq_some_iff.mp H
  obtain ⟨t353, A50, H⟩ := H
  replace H : (some t353) = some r := H
  have A5 := Aside0.mk A50
  clear A50
  obtain rfl := Option.some.inj H
  go_enter Try.func112, Try.ntmps112
  go_wp2_with (first | ((first | ((with_reducible refine gate_callee (f := 142) rfl ?_); refine goesL_ (some 6) rfl rfl Try.func142 (by kernel_rfl) rfl #[.int .i64 a0] rfl z4_2 ?_; (with_reducible refine (impl_Saturate.calls a0 t351 _ A3.out).mono ?_)) | (go_at_call 142; (with_reducible refine (impl_Saturate.calls a0 t351 _ A3.out).mono ?_))); rintro e w' ⟨rfl, ⟨nd, rfl⟩⟩; (first | refine ⟨_, rfl, ?_⟩ | skip)) | ((first | ((with_reducible refine gate_callee (f := 142) rfl ?_); refine goesL_ (some 8) rfl rfl Try.func142 (by kernel_rfl) rfl #[.int .i64 a1] rfl z4_2 ?_; (with_reducible refine (impl_Saturate.calls a1 t352 _ A4.out).mono ?_)) | (go_at_call 142; (with_reducible refine (impl_Saturate.calls a1 t352 _ A4.out).mono ?_))); rintro e w' ⟨rfl, ⟨nd, rfl⟩⟩; (first | refine ⟨_, rfl, ?_⟩ | skip)) | ((first | ((with_reducible refine gate_callee (f := 142) rfl ?_); refine goesL_ (some 10) rfl rfl Try.func142 (by kernel_rfl) rfl #[.int .i64 (wrap64 (t351 + t352))] rfl z4_2 ?_; (with_reducible refine (impl_Saturate.calls (wrap64 (t351 + t352)) t353 _ A5.out).mono ?_)) | (go_at_call 142; (with_reducible refine (impl_Saturate.calls (wrap64 (t351 + t352)) t353 _ A5.out).mono ?_))); rintro e w' ⟨rfl, ⟨nd, rfl⟩⟩; (first | refine ⟨_, rfl, ?_⟩ | skip)))
  go_ret
  exact ⟨by first | rfl | (simp; done) | (simp [*]; done), by repeat (first | exact Drawn0.refl _ | apply Drawn0.step)⟩

end Go.Proofs.Ytakhaknglhgimaa.G
