/- Functions of the program as plain Lean functions, and that each call comes to its function's answer; written by a program of the session. No condition. -/
import Derived.Test.YtakhaknglhgimaaGx0
import Derived.Test.YtakhaknglhgimaaGx4
import Derived.Test.YtakhaknglhgimaaGx5
namespace Go.Proofs.Ytakhaknglhgimaa.G
open Go.RowKit Go.Proofs.YtakhaknglhgimaaW.PrintWords Go.Proofs.YtakhaknglhgimaaW.PrintLast Go.Proofs.YtakhaknglhgimaaW.PrintMore
attribute [local go_sem] max2_int min2_int max_two min_two max_three min_three max_four min_four   -- for this text's walks alone
set_option linter.unusedVariables false
set_option linter.unusedSimpArgs false

theorem z6_0 {P : Prop} (h : P := by rw [hw]; exact (by (with_reducible repeat (first | refine blk_drewN ?_ _ | refine blk_drew ?_ | refine blk_alloc ?_ _)); refine blk_put (cs := #[.int .i64 ((rd_T77 l0 x8_1).f0), .int .i64 ((rd_T77 l0 x8_1).f1), .int .i64 ((rd_T77 l0 x8_1).f2), .int .i64 ((rd_T77 l0 x8_1).f3.f0), .int .i64 ((rd_T77 l0 x8_1).f3.f1), .int .i64 0]) ?_ 5 _ rfl; (with_reducible repeat (first | refine blk_drewN ?_ _ | refine blk_drew ?_ | refine blk_alloc ?_ _)); refine blk_put (cs := #[.int .i64 ((rd_T77 l0 x8_1).f0), .int .i64 ((rd_T77 l0 x8_1).f1), .int .i64 ((rd_T77 l0 x8_1).f2), .int .i64 ((rd_T77 l0 x8_1).f3.f0), .int .i64 0, .int .i64 0]) ?_ 4 _ rfl; (with_reducible repeat (first | refine blk_drewN ?_ _ | refine blk_drew ?_ | refine blk_alloc ?_ _)); refine blk_put (cs := #[.int .i64 ((rd_T77 l0 x8_1).f0), .int .i64 ((rd_T77 l0 x8_1).f1), .int .i64 ((rd_T77 l0 x8_1).f2), .int .i64 0, .int .i64 0, .int .i64 0]) ?_ 3 _ rfl; (with_reducible repeat (first | refine blk_drewN ?_ _ | refine blk_drew ?_ | refine blk_alloc ?_ _)); refine blk_put (cs := #[.int .i64 ((rd_T77 l0 x8_1).f0), .int .i64 ((rd_T77 l0 x8_1).f1), .int .i64 0, .int .i64 0, .int .i64 0, .int .i64 0]) ?_ 2 _ rfl; (with_reducible repeat (first | refine blk_drewN ?_ _ | refine blk_drew ?_ | refine blk_alloc ?_ _)); refine blk_put (cs := #[.int .i64 ((rd_T77 l0 x8_1).f0), .int .i64 0, .int .i64 0, .int .i64 0, .int .i64 0, .int .i64 0]) ?_ 1 _ rfl; (with_reducible repeat (first | refine blk_drewN ?_ _ | refine blk_drew ?_ | refine blk_alloc ?_ _)); refine blk_put (cs := #[.int .i64 0, .int .i64 0, .int .i64 0, .int .i64 0, .int .i64 0, .int .i64 0]) ?_ 0 _ rfl; (with_reducible repeat (first | refine blk_drewN ?_ _ | refine blk_drew ?_ | refine blk_alloc ?_ _)); exact BK336.out)) : P := h
theorem z6_1 {P : Prop} (h : P := by repeat (first | (with_reducible first | exact HB.out | apply below_alloc | apply pw_below_drewN | apply below_drew1) | exact HB.out)) : P := h
theorem z6_2 {P : Prop} (h : P := by first | rfl | (simp; done) | (simp [*]; done)) : P := h
theorem z6_3 {P : Prop} (h : P := by first | (with_reducible assumption) | assumption) : P := h
theorem z6_4 {P : Prop} (h : P := by repeat (first | (with_reducible first | exact HB.out | apply below_alloc | apply pw_below_drewN | apply below_drew1 | refine below_set ?_ GE336.out) | exact HB.out)) : P := h
theorem z6_5 {P : Prop} (h : P := by (try simp only [List.map_toArray, List.map_cons, List.map_nil]); first | done | rfl | (simp only [List.length_drop, List.length_take]; rfl)) : P := h
/-! ### impl_BlockOk: function 55 -/
mutual
def impl_BlockOk.l0 : Nat → List (S77) → Int → List (S77) → Int → Int → Option (Bool)
  | 0, _, _, _, _, _ => none
  | k + 1, x0, x3, x6, x7, x8 => if x8 < x7 then (if 0 ≤ x8 then (if x8 < (x6.length : Int) then ((impl_StmtOk.f k ((rd_T77 x6 x8).f0) ((rd_T77 x6 x8).f1) ((rd_T77 x6 x8).f2) ((rd_T77 x6 x8).f3.f0) ((rd_T77 x6 x8).f3.f1) ((rd_T77 x6 x8).f3.f2)).bind fun t337 => (if t337 = true then ((impl_isOpening.f ((rd_T77 x6 x8).f0)).bind fun t338 => (if t338 = true then (impl_BlockOk.j1 k x0 (wrap64 (x3 + 1)) x6 x7 x8 ((rd_T77 x6 x8).f0) ((rd_T77 x6 x8).f1) ((rd_T77 x6 x8).f2) ((rd_T77 x6 x8).f3.f0) ((rd_T77 x6 x8).f3.f1) ((rd_T77 x6 x8).f3.f2)) else (impl_BlockOk.j1 k x0 x3 x6 x7 x8 ((rd_T77 x6 x8).f0) ((rd_T77 x6 x8).f1) ((rd_T77 x6 x8).f2) ((rd_T77 x6 x8).f3.f0) ((rd_T77 x6 x8).f3.f1) ((rd_T77 x6 x8).f3.f2)))) else (some false))) else (none)) else (none)) else (if x3 = 0 then (some (decide ((x0.length : Int) ≤ 24))) else (some false))
def impl_BlockOk.j1 : Nat → List (S77) → Int → List (S77) → Int → Int → Int → Int → Int → Int → Int → Int → Option (Bool)
  | 0, _, _, _, _, _, _, _, _, _, _, _ => none
  | k + 1, x0, x3, x6, x7, x8, x337000, x337001, x337002, x337003, x337004, x337005 => if x337000 = 6 then (if (wrap64 (x3 - 1)) < 0 then (some false) else (if (wrap64 (x3 - 1)) > 3 then (some false) else (impl_BlockOk.l0 k x0 (wrap64 (x3 - 1)) x6 x7 (wrap64 (x8 + 1))))) else (if x3 < 0 then (some false) else (if x3 > 3 then (some false) else (impl_BlockOk.l0 k x0 x3 x6 x7 (wrap64 (x8 + 1)))))
end
def impl_BlockOk.f (k : Nat) (l0 : List (S77)) : Option (Bool) := impl_BlockOk.l0 k l0 0 l0 (l0.length : Int) 0
theorem impl_BlockOk.mono_l : ∀ k, (∀ y0 y1 y2 y3 y4, LeO (impl_BlockOk.l0 k y0 y1 y2 y3 y4) (impl_BlockOk.l0 (k + 1) y0 y1 y2 y3 y4)) ∧ (∀ y0 y1 y2 y3 y4 y5 y6 y7 y8 y9 y10, LeO (impl_BlockOk.j1 k y0 y1 y2 y3 y4 y5 y6 y7 y8 y9 y10) (impl_BlockOk.j1 (k + 1) y0 y1 y2 y3 y4 y5 y6 y7 y8 y9 y10))
  | 0 => ⟨fun _ _ _ _ _ r h => by simp [impl_BlockOk.l0] at h, fun _ _ _ _ _ _ _ _ _ _ _ r h => by simp [impl_BlockOk.j1] at h⟩
  | k + 1 => by
    obtain ⟨ih0, ih1⟩ := impl_BlockOk.mono_l k
    refine ⟨?_, ?_⟩
    · intro y0 y1 y2 y3 y4
      unfold impl_BlockOk.l0
      repeat' first
      | (with_reducible exact ih0 _ _ _ _ _)
      | (with_reducible exact ih1 _ _ _ _ _ _ _ _ _ _ _)
      | (with_reducible exact impl_StmtOk.mono _ _ _ _ _ _ _)
      | (with_reducible exact LeO.refl _)
      | (with_reducible exact LeO.none _)
      | (with_reducible refine LeO.ite ?_ ?_)
      | (with_reducible refine LeO.bind ?_ (fun _ => ?_))
      | exact ih0 _ _ _ _ _
      | exact ih1 _ _ _ _ _ _ _ _ _ _ _
      | exact impl_StmtOk.mono _ _ _ _ _ _ _
      | exact LeO.none _
      | refine LeO.ite ?_ ?_
      | refine LeO.bind ?_ (fun _ => ?_)
    · intro y0 y1 y2 y3 y4 y5 y6 y7 y8 y9 y10
      unfold impl_BlockOk.j1
      repeat' first
      | (with_reducible exact ih0 _ _ _ _ _)
      | (with_reducible exact ih1 _ _ _ _ _ _ _ _ _ _ _)
      | (with_reducible exact impl_StmtOk.mono _ _ _ _ _ _ _)
      | (with_reducible exact LeO.refl _)
      | (with_reducible exact LeO.none _)
      | (with_reducible refine LeO.ite ?_ ?_)
      | (with_reducible refine LeO.bind ?_ (fun _ => ?_))
      | exact ih0 _ _ _ _ _
      | exact ih1 _ _ _ _ _ _ _ _ _ _ _
      | exact impl_StmtOk.mono _ _ _ _ _ _ _
      | exact LeO.none _
      | refine LeO.ite ?_ ?_
      | refine LeO.bind ?_ (fun _ => ?_)
theorem impl_BlockOk.mono : ∀ a0 k, LeO (impl_BlockOk.f k a0) (impl_BlockOk.f (k + 1) a0) := by
  intro a0 k
  obtain ⟨ih0, ih1⟩ := impl_BlockOk.mono_l k
  unfold impl_BlockOk.f
  repeat' first
      | (with_reducible exact ih0 _ _ _ _ _)
      | (with_reducible exact ih1 _ _ _ _ _ _ _ _ _ _ _)
      | (with_reducible exact impl_StmtOk.mono _ _ _ _ _ _ _)
      | (with_reducible exact LeO.refl _)
      | (with_reducible exact LeO.none _)
      | (with_reducible refine LeO.ite ?_ ?_)
      | (with_reducible refine LeO.bind ?_ (fun _ => ?_))
      | exact ih0 _ _ _ _ _
      | exact ih1 _ _ _ _ _ _ _ _ _ _ _
      | exact impl_StmtOk.mono _ _ _ _ _ _ _
      | exact LeO.none _
      | refine LeO.ite ?_ ?_
      | refine LeO.bind ?_ (fun _ => ?_)
set_option maxHeartbeats 8000000 in
set_option maxRecDepth 100000 in
theorem impl_BlockOk.calls (k : Nat) (A0 : Option Addr) (c0 : Nat) (l0 : List (S77)) (r : Bool) (w : World) (hr0 : Kd.C k77 w A0 l0.length l0) (hc0 : l0.length ≤ c0) (h : impl_BlockOk.f k l0 = some r) :
    Calls Try.prog 55 #[.slice A0 l0.length c0] w fun e w' => e = .returned (.bool r) ∧ Below w.heap.size w w' := by
  have hu77 := Try.underlying77
  have HR0 := Aside0.mk hr0
  have HC0 := Aside0.mk hc0
  clear hr0 hc0
  have HB := Aside0.mk (Below.refl w.heap.size w)
  have H : (impl_BlockOk.l0 k l0 0 l0 (l0.length : Int) 0) = some r := h
  clear h
  have H' := Aside0.mk H
  clear H
  go_enter Try.func55, Try.ntmps55
  go_wp2
  go_loopg [3, 8] k (fun kq v3 v8 w' => ∃ (x3_1 : Int) (x8_1 : Int), v3 = .int .i64 x3_1 ∧ v8 = .int .i64 x8_1 ∧ Aside0 (impl_BlockOk.l0 kq l0 x3_1 l0 (l0.length : Int) x8_1 = some r) ∧ Aside0 (kq ≤ k) ∧ Aside0 (Below w.heap.size w w'))
  case atStart => exact ⟨(0), (0), z6_2, z6_2, H', ⟨Nat.le_refl _⟩, ⟨by repeat (first | (with_reducible first | exact HB.out | apply below_alloc | apply pw_below_drewN | apply below_drew1) | exact HB.out)⟩⟩
  case round =>
    clear H'
    obtain ⟨x3_1, x8_1, rfl, rfl, HA, HK1, HB⟩ := hrel
    cases gk with
    | zero => exact absurd HA.out (by simp [impl_BlockOk.l0])
    | succ k1 =>
      have H := HA.out
      clear HA
      simp only [impl_BlockOk.l0] at H
      by_cases c2 : x8_1 < (l0.length : Int)
      · rw [if_pos c2] at H
        have c2b0 : decide (x8_1 < (l0.length : Int)) = true := decide_eq_true c2
        clear c2
        by_cases c3 : 0 ≤ x8_1
        · rw [if_pos c3] at H
          have c3b0 : decide (0 ≤ x8_1) = true := decide_eq_true c3
          clear c3
          by_cases c4 : x8_1 < (l0.length : Int)
          · rw [if_pos c4] at H
            have c4b0 : decide (x8_1 < (l0.length : Int)) = true := decide_eq_true c4
            clear c4
            replace H := Option.bind_eq_some_iff.mp H
            obtain ⟨t337, A50, H⟩ := H
            replace H : (if t337 = true then ((impl_isOpening.f ((rd_T77 l0 x8_1).f0)).bind fun t338 => (if t338 = true then (impl_BlockOk.j1 k1 l0 (wrap64 (x3_1 + 1)) l0 (l0.length : Int) x8_1 ((rd_T77 l0 x8_1).f0) ((rd_T77 l0 x8_1).f1) ((rd_T77 l0 x8_1).f2) ((rd_T77 l0 x8_1).f3.f0) ((rd_T77 l0 x8_1).f3.f1) ((rd_T77 l0 x8_1).f3.f2)) else (impl_BlockOk.j1 k1 l0 x3_1 l0 (l0.length : Int) x8_1 ((rd_T77 l0 x8_1).f0) ((rd_T77 l0 x8_1).f1) ((rd_T77 l0 x8_1).f2) ((rd_T77 l0 x8_1).f3.f0) ((rd_T77 l0 x8_1).f3.f1) ((rd_T77 l0 x8_1).f3.f2)))) else (some false)) = some r := H
            have A5 := Aside0.mk A50
            clear A50
            by_cases c6 : t337 = true
            · subst c6
              have H1 : ((impl_isOpening.f ((rd_T77 l0 x8_1).f0)).bind fun t338 => (if t338 = true then (impl_BlockOk.j1 k1 l0 (wrap64 (x3_1 + 1)) l0 (l0.length : Int) x8_1 ((rd_T77 l0 x8_1).f0) ((rd_T77 l0 x8_1).f1) ((rd_T77 l0 x8_1).f2) ((rd_T77 l0 x8_1).f3.f0) ((rd_T77 l0 x8_1).f3.f1) ((rd_T77 l0 x8_1).f3.f2)) else (impl_BlockOk.j1 k1 l0 x3_1 l0 (l0.length : Int) x8_1 ((rd_T77 l0 x8_1).f0) ((rd_T77 l0 x8_1).f1) ((rd_T77 l0 x8_1).f2) ((rd_T77 l0 x8_1).f3.f0) ((rd_T77 l0 x8_1).f3.f1) ((rd_T77 l0 x8_1).f3.f2)))) = some r := by rw [if_pos rfl] at H; exact H
              clear H
              have H := H1
              clear H1
              replace H := Option.bind_eq_some_iff.mp H
              obtain ⟨t338, A70, H⟩ := H
              replace H : (if t338 = true then (impl_BlockOk.j1 k1 l0 (wrap64 (x3_1 + 1)) l0 (l0.length : Int) x8_1 ((rd_T77 l0 x8_1).f0) ((rd_T77 l0 x8_1).f1) ((rd_T77 l0 x8_1).f2) ((rd_T77 l0 x8_1).f3.f0) ((rd_T77 l0 x8_1).f3.f1) ((rd_T77 l0 x8_1).f3.f2)) else (impl_BlockOk.j1 k1 l0 x3_1 l0 (l0.length : Int) x8_1 ((rd_T77 l0 x8_1).f0) ((rd_T77 l0 x8_1).f1) ((rd_T77 l0 x8_1).f2) ((rd_T77 l0 x8_1).f3.f0) ((rd_T77 l0 x8_1).f3.f1) ((rd_T77 l0 x8_1).f3.f2))) = some r := H
              have A7 := Aside0.mk A70
              clear A70
              have HC8 := Aside0.mk H
              clear H
              have p335 : 0 ≤ (x8_1 : Int) := of_decide_eq_true z6_3
              have q335 : x8_1 < (l0.length : Int) := of_decide_eq_true z6_3
              obtain ⟨ad335, e335, hx335_0, hx335_1, hx335_2, hx335_3, hx335_4, hx335_5⟩ := at_T77 HR0.out x8_1 p335 q335
              cases e335
              replace hx335_0 := (HB.out.cell (World.block_lt_of_cell? w _ hx335_0)).trans hx335_0
              replace hx335_1 := (HB.out.cell (World.block_lt_of_cell? w _ hx335_1)).trans hx335_1
              replace hx335_2 := (HB.out.cell (World.block_lt_of_cell? w _ hx335_2)).trans hx335_2
              replace hx335_3 := (HB.out.cell (World.block_lt_of_cell? w _ hx335_3)).trans hx335_3
              replace hx335_4 := (HB.out.cell (World.block_lt_of_cell? w _ hx335_4)).trans hx335_4
              replace hx335_5 := (HB.out.cell (World.block_lt_of_cell? w _ hx335_5)).trans hx335_5
              replace p335 := eq_true p335
              replace q335 := eq_true q335
              go_upto_if 17 with (first | ((with_reducible refine gate_dst (N := 5) rfl ?_); (try (refine gate_guard (by rfl) ?_; dsimp only)); refine box_event ?hg (N := 5) ?hd (cs := #[.int .i64 0, .int .i64 0, .int .i64 0, .int .i64 0, .int .i64 0, .int .i64 0]) (t := 77) ?hr ?_; (case hd => rfl); (case hg => rfl); (case hr => first | (go_simp; done) | (go_simp; rfl)); intro gb336 hg w9 hbox hb; have n0_ := Aside0.mk (below_step z6_1 hb); have n1_ := Aside0.mk (hbox); have n2_ := Aside0.mk ((by rw [hg]; exact (below_size z6_1) : w.heap.size ≤ gb336)); have n3_ := Aside0.mk ((by rw [hg]; exact (below_size z6_1) : w.heap.size ≤ gb336)); clear HB; have HB := n0_; have BK336 := n1_; have GW336 := n2_; have GE336 := n3_; clear n0_ n1_ n2_ n3_; clear hb hbox hg; have hcz10_0 : w9.cell? ⟨gb336, 0, none⟩ = some (.int .i64 0) := (blk_cell BK336.out 0).trans rfl; have hcz10_1 : w9.cell? ⟨gb336, 1, none⟩ = some (.int .i64 0) := (blk_cell BK336.out 1).trans rfl; have hcz10_2 : w9.cell? ⟨gb336, 2, none⟩ = some (.int .i64 0) := (blk_cell BK336.out 2).trans rfl; have hcz10_3 : w9.cell? ⟨gb336, 3, none⟩ = some (.int .i64 0) := (blk_cell BK336.out 3).trans rfl; have hcz10_4 : w9.cell? ⟨gb336, 4, none⟩ = some (.int .i64 0) := (blk_cell BK336.out 4).trans rfl; have hcz10_5 : w9.cell? ⟨gb336, 5, none⟩ = some (.int .i64 0) := (blk_cell BK336.out 5).trans rfl; have hfz10_0 := blk_frozen BK336.out 0; have hfz10_1 := blk_frozen BK336.out 1; have hfz10_2 := blk_frozen BK336.out 2; have hfz10_3 := blk_frozen BK336.out 3; have hfz10_4 := blk_frozen BK336.out 4; have hfz10_5 := blk_frozen BK336.out 5) | ((with_reducible refine gate_store (t := 77) (p := 5) rfl ?_); refine store_event (t := 77) (p := 5) (v := ?vo_w11) (w1 := ((((((w9.setCell ⟨gb336, 0, none⟩ (.int .i64 ((rd_T77 l0 x8_1).f0))).setCell ⟨gb336, 1, none⟩ (.int .i64 ((rd_T77 l0 x8_1).f1))).setCell ⟨gb336, 2, none⟩ (.int .i64 ((rd_T77 l0 x8_1).f2))).setCell ⟨gb336, 3, none⟩ (.int .i64 ((rd_T77 l0 x8_1).f3.f0))).setCell ⟨gb336, 4, none⟩ (.int .i64 ((rd_T77 l0 x8_1).f3.f1))).setCell ⟨gb336, 5, none⟩ (.int .i64 ((rd_T77 l0 x8_1).f3.f2)))) ?hg ?ho ?hn ?hr ?_; (case ho => rfl); (case hg => rfl); (case hn => rfl); (case hr => first | (go_simp; done) | (go_simp; rfl)); intro w11 hw; have n0_ : Aside0 (w11.heap[gb336]? = some (.cells #[.int .i64 ((rd_T77 l0 x8_1).f0), .int .i64 ((rd_T77 l0 x8_1).f1), .int .i64 ((rd_T77 l0 x8_1).f2), .int .i64 ((rd_T77 l0 x8_1).f3.f0), .int .i64 ((rd_T77 l0 x8_1).f3.f1), .int .i64 ((rd_T77 l0 x8_1).f3.f2)] 77 (0, 0))) := ⟨z6_0⟩; have n1_ : Aside0 (Below w.heap.size w w11) := ⟨(by rw [hw]; exact z6_4)⟩; clear hw; clear BK336; clear HB; have BK336 := n0_; have HB := n1_; clear n0_ n1_; have hcz12_0 : w11.cell? ⟨gb336, 0, none⟩ = some (.int .i64 ((rd_T77 l0 x8_1).f0)) := (blk_cell BK336.out 0).trans rfl; have hcz12_1 : w11.cell? ⟨gb336, 1, none⟩ = some (.int .i64 ((rd_T77 l0 x8_1).f1)) := (blk_cell BK336.out 1).trans rfl; have hcz12_2 : w11.cell? ⟨gb336, 2, none⟩ = some (.int .i64 ((rd_T77 l0 x8_1).f2)) := (blk_cell BK336.out 2).trans rfl; have hcz12_3 : w11.cell? ⟨gb336, 3, none⟩ = some (.int .i64 ((rd_T77 l0 x8_1).f3.f0)) := (blk_cell BK336.out 3).trans rfl; have hcz12_4 : w11.cell? ⟨gb336, 4, none⟩ = some (.int .i64 ((rd_T77 l0 x8_1).f3.f1)) := (blk_cell BK336.out 4).trans rfl; have hcz12_5 : w11.cell? ⟨gb336, 5, none⟩ = some (.int .i64 ((rd_T77 l0 x8_1).f3.f2)) := (blk_cell BK336.out 5).trans rfl; have hfz12_0 := blk_frozen BK336.out 0; have hfz12_1 := blk_frozen BK336.out 1; have hfz12_2 := blk_frozen BK336.out 2; have hfz12_3 := blk_frozen BK336.out 3; have hfz12_4 := blk_frozen BK336.out 4; have hfz12_5 := blk_frozen BK336.out 5) | ((first | ((with_reducible refine gate_callee (f := 98) rfl ?_); refine goesL_ (some 13) rfl rfl Try.func98 (by kernel_rfl) rfl #[.agg #[.int .i64 ((rd_T77 l0 x8_1).f0), .int .i64 ((rd_T77 l0 x8_1).f1), .int .i64 ((rd_T77 l0 x8_1).f2), .int .i64 ((rd_T77 l0 x8_1).f3.f0), .int .i64 ((rd_T77 l0 x8_1).f3.f1), .int .i64 ((rd_T77 l0 x8_1).f3.f2)]] rfl z6_5 ?_; (with_reducible refine (impl_StmtOk.calls k1 ((rd_T77 l0 x8_1).f0) ((rd_T77 l0 x8_1).f1) ((rd_T77 l0 x8_1).f2) ((rd_T77 l0 x8_1).f3.f0) ((rd_T77 l0 x8_1).f3.f1) ((rd_T77 l0 x8_1).f3.f2) true _ A5.out).mono ?_)) | (go_at_call 98; (with_reducible refine (impl_StmtOk.calls k1 ((rd_T77 l0 x8_1).f0) ((rd_T77 l0 x8_1).f1) ((rd_T77 l0 x8_1).f2) ((rd_T77 l0 x8_1).f3.f0) ((rd_T77 l0 x8_1).f3.f1) ((rd_T77 l0 x8_1).f3.f2) true _ A5.out).mono ?_))); rintro e w13 ⟨rfl, hb⟩; (first | refine ⟨_, rfl, ?_⟩ | skip); have n0_ := Aside0.mk (blk_below (g := gb336) (o := .cells #[.int .i64 ((rd_T77 l0 x8_1).f0), .int .i64 ((rd_T77 l0 x8_1).f1), .int .i64 ((rd_T77 l0 x8_1).f2), .int .i64 ((rd_T77 l0 x8_1).f3.f0), .int .i64 ((rd_T77 l0 x8_1).f3.f1), .int .i64 ((rd_T77 l0 x8_1).f3.f2)] 77 (0, 0)) (by (with_reducible repeat (first | refine blk_drewN ?_ _ | refine blk_drew ?_ | refine blk_alloc ?_ _)); exact BK336.out) hb); have n1_ := Aside0.mk (below_step z6_4 hb); clear BK336; clear HB; have BK336 := n0_; have HB := n1_; clear n0_ n1_; (try clear hb); (try clear hb2); (try clear hk); (try clear hi); have hcz14_0 : w13.cell? ⟨gb336, 0, none⟩ = some (.int .i64 ((rd_T77 l0 x8_1).f0)) := (blk_cell BK336.out 0).trans rfl; have hcz14_1 : w13.cell? ⟨gb336, 1, none⟩ = some (.int .i64 ((rd_T77 l0 x8_1).f1)) := (blk_cell BK336.out 1).trans rfl; have hcz14_2 : w13.cell? ⟨gb336, 2, none⟩ = some (.int .i64 ((rd_T77 l0 x8_1).f2)) := (blk_cell BK336.out 2).trans rfl; have hcz14_3 : w13.cell? ⟨gb336, 3, none⟩ = some (.int .i64 ((rd_T77 l0 x8_1).f3.f0)) := (blk_cell BK336.out 3).trans rfl; have hcz14_4 : w13.cell? ⟨gb336, 4, none⟩ = some (.int .i64 ((rd_T77 l0 x8_1).f3.f1)) := (blk_cell BK336.out 4).trans rfl; have hcz14_5 : w13.cell? ⟨gb336, 5, none⟩ = some (.int .i64 ((rd_T77 l0 x8_1).f3.f2)) := (blk_cell BK336.out 5).trans rfl; have hfz14_0 := blk_frozen BK336.out 0; have hfz14_1 := blk_frozen BK336.out 1; have hfz14_2 := blk_frozen BK336.out 2; have hfz14_3 := blk_frozen BK336.out 3; have hfz14_4 := blk_frozen BK336.out 4; have hfz14_5 := blk_frozen BK336.out 5) | ((first | ((with_reducible refine gate_callee (f := 59) rfl ?_); refine goesL_ (some 17) rfl rfl Try.func59 (by kernel_rfl) rfl #[.int .i64 ((rd_T77 l0 x8_1).f0)] rfl z6_5 ?_; (with_reducible refine (impl_isOpening.calls ((rd_T77 l0 x8_1).f0) t338 _ A7.out).mono ?_)) | (go_at_call 59; (with_reducible refine (impl_isOpening.calls ((rd_T77 l0 x8_1).f0) t338 _ A7.out).mono ?_))); rintro e w' ⟨rfl, ⟨nd, rfl⟩⟩; (first | refine ⟨_, rfl, ?_⟩ | skip)))
              (try simp only [Act.put, List.setIfInBounds_toArray, List.set_cons_zero, List.set_cons_succ])
              go_cut [3] (fun v3 wc => ∃ (kq : Nat) (x3_7 : Int), v3 = .int .i64 x3_7 ∧ Aside0 (impl_BlockOk.j1 kq l0 x3_7 l0 (l0.length : Int) x8_1 ((rd_T77 l0 x8_1).f0) ((rd_T77 l0 x8_1).f1) ((rd_T77 l0 x8_1).f2) ((rd_T77 l0 x8_1).f3.f0) ((rd_T77 l0 x8_1).f3.f1) ((rd_T77 l0 x8_1).f3.f2) = some r) ∧ Aside0 (kq ≤ k1) ∧ Aside0 (wc.heap[gb336]? = some (.cells #[.int .i64 ((rd_T77 l0 x8_1).f0), .int .i64 ((rd_T77 l0 x8_1).f1), .int .i64 ((rd_T77 l0 x8_1).f2), .int .i64 ((rd_T77 l0 x8_1).f3.f0), .int .i64 ((rd_T77 l0 x8_1).f3.f1), .int .i64 ((rd_T77 l0 x8_1).f3.f2)] 77 (0, 0))) ∧ Aside0 (Below w.heap.size w wc))
              case first =>
                have H := HC8.out
                clear HC8
                by_cases c15 : t338 = true
                · subst c15
                  have H1 : (impl_BlockOk.j1 k1 l0 (wrap64 (x3_1 + 1)) l0 (l0.length : Int) x8_1 ((rd_T77 l0 x8_1).f0) ((rd_T77 l0 x8_1).f1) ((rd_T77 l0 x8_1).f2) ((rd_T77 l0 x8_1).f3.f0) ((rd_T77 l0 x8_1).f3.f1) ((rd_T77 l0 x8_1).f3.f2)) = some r := by rw [if_pos rfl] at H; exact H
                  clear H
                  have H := H1
                  clear H1
                  have H' := Aside0.mk H
                  clear H
                  go_wp2
                  go_meet
                  case rel => exact ⟨_, (wrap64 (x3_1 + 1)), z6_2, H', ⟨by have := HK1.out; first | omega | exact Nat.le_refl _⟩, ⟨by (with_reducible repeat (first | refine blk_drewN ?_ _ | refine blk_drew ?_ | refine blk_alloc ?_ _)); exact BK336.out⟩, ⟨by repeat (first | (with_reducible first | exact HB.out | apply below_alloc | apply pw_below_drewN | apply below_drew1 | refine below_set ?_ GE336.out) | exact HB.out)⟩⟩
                · replace c15 := Bool.eq_false_iff.mpr c15
                  subst c15
                  have H1 : (impl_BlockOk.j1 k1 l0 x3_1 l0 (l0.length : Int) x8_1 ((rd_T77 l0 x8_1).f0) ((rd_T77 l0 x8_1).f1) ((rd_T77 l0 x8_1).f2) ((rd_T77 l0 x8_1).f3.f0) ((rd_T77 l0 x8_1).f3.f1) ((rd_T77 l0 x8_1).f3.f2)) = some r := by rw [if_neg (show ¬ (false = true) by decide)] at H; exact H
                  clear H
                  have H := H1
                  clear H1
                  have H' := Aside0.mk H
                  clear H
                  go_wp2
                  go_meet
                  case rel => exact ⟨_, (x3_1), z6_2, H', ⟨by have := HK1.out; first | omega | exact Nat.le_refl _⟩, ⟨by (with_reducible repeat (first | refine blk_drewN ?_ _ | refine blk_drew ?_ | refine blk_alloc ?_ _)); exact BK336.out⟩, ⟨by repeat (first | (with_reducible first | exact HB.out | apply below_alloc | apply pw_below_drewN | apply below_drew1 | refine below_set ?_ GE336.out) | exact HB.out)⟩⟩
              case rest =>
                clear HC8
                (try clear c2); (try clear c2b0); (try clear c3); (try clear c3b0); (try clear c4); (try clear c4b0); (try clear c6); (try clear hcz10_0); (try clear hcz10_1); (try clear hcz10_2); (try clear hcz10_3); (try clear hcz10_4); (try clear hcz10_5); (try clear hcz12_0); (try clear hcz12_1); (try clear hcz12_2); (try clear hcz12_3); (try clear hcz12_4); (try clear hcz12_5); (try clear hcz14_0); (try clear hcz14_1); (try clear hcz14_2); (try clear hcz14_3); (try clear hcz14_4); (try clear hcz14_5); (try clear hfz10_0); (try clear hfz10_1); (try clear hfz10_2); (try clear hfz10_3); (try clear hfz10_4); (try clear hfz10_5); (try clear hfz12_0); (try clear hfz12_1); (try clear hfz12_2); (try clear hfz12_3); (try clear hfz12_4); (try clear hfz12_5); (try clear hfz14_0); (try clear hfz14_1); (try clear hfz14_2); (try clear hfz14_3); (try clear hfz14_4); (try clear hfz14_5); (try clear hx335_0); (try clear hx335_1); (try clear hx335_2); (try clear hx335_3); (try clear hx335_4); (try clear hx335_5); (try clear p335); (try clear q335)
                obtain ⟨kq, x3_7, rfl, HA, HJ7, BK336, HB⟩ := hcut
                cases kq with
                | zero => exact absurd HA.out (by simp [impl_BlockOk.j1])
                | succ kj7 =>
                  have H := HA.out
                  clear HA
                  simp only [impl_BlockOk.j1] at H
                  by_cases c16 : ((rd_T77 l0 x8_1).f0) = 6
                  · rw [if_pos c16] at H
                    have c16b0 : (((rd_T77 l0 x8_1).f0) == 6) = true := beq_iff_eq.mpr c16
                    have c16b1 : (((rd_T77 l0 x8_1).f0) != 6) = false := bne_eq_false_iff_eq.mpr c16
                    clear c16
                    by_cases c17 : (wrap64 (x3_7 - 1)) < 0
                    · rw [if_pos c17] at H
                      have c17b0 : decide ((wrap64 (x3_7 - 1)) < 0) = true := decide_eq_true c17
                      clear c17
                      obtain rfl := Option.some.inj H
                      have hcz18_0 : wc.cell? ⟨gb336, 0, none⟩ = some (.int .i64 ((rd_T77 l0 x8_1).f0)) := (blk_cell BK336.out 0).trans rfl
                      have hcz18_1 : wc.cell? ⟨gb336, 1, none⟩ = some (.int .i64 ((rd_T77 l0 x8_1).f1)) := (blk_cell BK336.out 1).trans rfl
                      have hcz18_2 : wc.cell? ⟨gb336, 2, none⟩ = some (.int .i64 ((rd_T77 l0 x8_1).f2)) := (blk_cell BK336.out 2).trans rfl
                      have hcz18_3 : wc.cell? ⟨gb336, 3, none⟩ = some (.int .i64 ((rd_T77 l0 x8_1).f3.f0)) := (blk_cell BK336.out 3).trans rfl
                      have hcz18_4 : wc.cell? ⟨gb336, 4, none⟩ = some (.int .i64 ((rd_T77 l0 x8_1).f3.f1)) := (blk_cell BK336.out 4).trans rfl
                      have hcz18_5 : wc.cell? ⟨gb336, 5, none⟩ = some (.int .i64 ((rd_T77 l0 x8_1).f3.f2)) := (blk_cell BK336.out 5).trans rfl
                      have hfz18_0 := blk_frozen BK336.out 0
                      have hfz18_1 := blk_frozen BK336.out 1
                      have hfz18_2 := blk_frozen BK336.out 2
                      have hfz18_3 := blk_frozen BK336.out 3
                      have hfz18_4 := blk_frozen BK336.out 4
                      have hfz18_5 := blk_frozen BK336.out 5
                      go_wp2
                      go_ret
                      exact ⟨by first | rfl | (simp [errW_none, errW_some] <;> rfl) | (simp [*, errW_none, errW_some] <;> rfl) | (simp [*, errW_none, errW_some, i64_w]; done), by repeat (first | (with_reducible first | exact HB.out | apply below_alloc | apply pw_below_drewN | apply below_drew1 | refine below_set ?_ GE336.out) | exact HB.out)⟩
                    · rw [if_neg c17] at H
                      have c17b0 : decide ((wrap64 (x3_7 - 1)) < 0) = false := decide_eq_false c17
                      clear c17
                      by_cases c19 : (wrap64 (x3_7 - 1)) > 3
                      · rw [if_pos c19] at H
                        have c19b0 : decide (3 < (wrap64 (x3_7 - 1))) = true := decide_eq_true c19
                        clear c19
                        obtain rfl := Option.some.inj H
                        have hcz20_0 : wc.cell? ⟨gb336, 0, none⟩ = some (.int .i64 ((rd_T77 l0 x8_1).f0)) := (blk_cell BK336.out 0).trans rfl
                        have hcz20_1 : wc.cell? ⟨gb336, 1, none⟩ = some (.int .i64 ((rd_T77 l0 x8_1).f1)) := (blk_cell BK336.out 1).trans rfl
                        have hcz20_2 : wc.cell? ⟨gb336, 2, none⟩ = some (.int .i64 ((rd_T77 l0 x8_1).f2)) := (blk_cell BK336.out 2).trans rfl
                        have hcz20_3 : wc.cell? ⟨gb336, 3, none⟩ = some (.int .i64 ((rd_T77 l0 x8_1).f3.f0)) := (blk_cell BK336.out 3).trans rfl
                        have hcz20_4 : wc.cell? ⟨gb336, 4, none⟩ = some (.int .i64 ((rd_T77 l0 x8_1).f3.f1)) := (blk_cell BK336.out 4).trans rfl
                        have hcz20_5 : wc.cell? ⟨gb336, 5, none⟩ = some (.int .i64 ((rd_T77 l0 x8_1).f3.f2)) := (blk_cell BK336.out 5).trans rfl
                        have hfz20_0 := blk_frozen BK336.out 0
                        have hfz20_1 := blk_frozen BK336.out 1
                        have hfz20_2 := blk_frozen BK336.out 2
                        have hfz20_3 := blk_frozen BK336.out 3
                        have hfz20_4 := blk_frozen BK336.out 4
                        have hfz20_5 := blk_frozen BK336.out 5
                        go_wp2
                        go_ret
                        exact ⟨by first | rfl | (simp [errW_none, errW_some] <;> rfl) | (simp [*, errW_none, errW_some] <;> rfl) | (simp [*, errW_none, errW_some, i64_w]; done), by repeat (first | (with_reducible first | exact HB.out | apply below_alloc | apply pw_below_drewN | apply below_drew1 | refine below_set ?_ GE336.out) | exact HB.out)⟩
                      · rw [if_neg c19] at H
                        have c19b0 : decide (3 < (wrap64 (x3_7 - 1))) = false := decide_eq_false c19
                        clear c19
                        have H' := Aside0.mk H
                        clear H
                        have hcz21_0 : wc.cell? ⟨gb336, 0, none⟩ = some (.int .i64 ((rd_T77 l0 x8_1).f0)) := (blk_cell BK336.out 0).trans rfl
                        have hcz21_1 : wc.cell? ⟨gb336, 1, none⟩ = some (.int .i64 ((rd_T77 l0 x8_1).f1)) := (blk_cell BK336.out 1).trans rfl
                        have hcz21_2 : wc.cell? ⟨gb336, 2, none⟩ = some (.int .i64 ((rd_T77 l0 x8_1).f2)) := (blk_cell BK336.out 2).trans rfl
                        have hcz21_3 : wc.cell? ⟨gb336, 3, none⟩ = some (.int .i64 ((rd_T77 l0 x8_1).f3.f0)) := (blk_cell BK336.out 3).trans rfl
                        have hcz21_4 : wc.cell? ⟨gb336, 4, none⟩ = some (.int .i64 ((rd_T77 l0 x8_1).f3.f1)) := (blk_cell BK336.out 4).trans rfl
                        have hcz21_5 : wc.cell? ⟨gb336, 5, none⟩ = some (.int .i64 ((rd_T77 l0 x8_1).f3.f2)) := (blk_cell BK336.out 5).trans rfl
                        have hfz21_0 := blk_frozen BK336.out 0
                        have hfz21_1 := blk_frozen BK336.out 1
                        have hfz21_2 := blk_frozen BK336.out 2
                        have hfz21_3 := blk_frozen BK336.out 3
                        have hfz21_4 := blk_frozen BK336.out 4
                        have hfz21_5 := blk_frozen BK336.out 5
                        go_wp2
                        go_roundg kj7
                        case measure => have := HK1.out; have := HJ7.out; omega
                        case rel => exact ⟨(wrap64 (x3_7 - 1)), (wrap64 (x8_1 + 1)), z6_2, z6_2, H', ⟨by have := HK1.out; have := HJ7.out; omega⟩, ⟨by repeat (first | (with_reducible first | exact HB.out | apply below_alloc | apply pw_below_drewN | apply below_drew1 | refine below_set ?_ GE336.out) | exact HB.out)⟩⟩
                  · rw [if_neg c16] at H
                    have c16b0 : (((rd_T77 l0 x8_1).f0) == 6) = false := beq_eq_false_iff_ne.mpr c16
                    have c16b1 : (((rd_T77 l0 x8_1).f0) != 6) = true := bne_iff_ne.mpr c16
                    by_cases c22 : x3_7 < 0
                    · rw [if_pos c22] at H
                      have c22b0 : decide (x3_7 < 0) = true := decide_eq_true c22
                      clear c22
                      obtain rfl := Option.some.inj H
                      have hcz23_0 : wc.cell? ⟨gb336, 0, none⟩ = some (.int .i64 ((rd_T77 l0 x8_1).f0)) := (blk_cell BK336.out 0).trans rfl
                      have hcz23_1 : wc.cell? ⟨gb336, 1, none⟩ = some (.int .i64 ((rd_T77 l0 x8_1).f1)) := (blk_cell BK336.out 1).trans rfl
                      have hcz23_2 : wc.cell? ⟨gb336, 2, none⟩ = some (.int .i64 ((rd_T77 l0 x8_1).f2)) := (blk_cell BK336.out 2).trans rfl
                      have hcz23_3 : wc.cell? ⟨gb336, 3, none⟩ = some (.int .i64 ((rd_T77 l0 x8_1).f3.f0)) := (blk_cell BK336.out 3).trans rfl
                      have hcz23_4 : wc.cell? ⟨gb336, 4, none⟩ = some (.int .i64 ((rd_T77 l0 x8_1).f3.f1)) := (blk_cell BK336.out 4).trans rfl
                      have hcz23_5 : wc.cell? ⟨gb336, 5, none⟩ = some (.int .i64 ((rd_T77 l0 x8_1).f3.f2)) := (blk_cell BK336.out 5).trans rfl
                      have hfz23_0 := blk_frozen BK336.out 0
                      have hfz23_1 := blk_frozen BK336.out 1
                      have hfz23_2 := blk_frozen BK336.out 2
                      have hfz23_3 := blk_frozen BK336.out 3
                      have hfz23_4 := blk_frozen BK336.out 4
                      have hfz23_5 := blk_frozen BK336.out 5
                      go_wp2
                      go_ret
                      exact ⟨by first | rfl | (simp [errW_none, errW_some] <;> rfl) | (simp [*, errW_none, errW_some] <;> rfl) | (simp [*, errW_none, errW_some, i64_w]; done), by repeat (first | (with_reducible first | exact HB.out | apply below_alloc | apply pw_below_drewN | apply below_drew1 | refine below_set ?_ GE336.out) | exact HB.out)⟩
                    · rw [if_neg c22] at H
                      have c22b0 : decide (x3_7 < 0) = false := decide_eq_false c22
                      clear c22
                      by_cases c24 : x3_7 > 3
                      · rw [if_pos c24] at H
                        have c24b0 : decide (3 < x3_7) = true := decide_eq_true c24
                        clear c24
                        obtain rfl := Option.some.inj H
                        have hcz25_0 : wc.cell? ⟨gb336, 0, none⟩ = some (.int .i64 ((rd_T77 l0 x8_1).f0)) := (blk_cell BK336.out 0).trans rfl
                        have hcz25_1 : wc.cell? ⟨gb336, 1, none⟩ = some (.int .i64 ((rd_T77 l0 x8_1).f1)) := (blk_cell BK336.out 1).trans rfl
                        have hcz25_2 : wc.cell? ⟨gb336, 2, none⟩ = some (.int .i64 ((rd_T77 l0 x8_1).f2)) := (blk_cell BK336.out 2).trans rfl
                        have hcz25_3 : wc.cell? ⟨gb336, 3, none⟩ = some (.int .i64 ((rd_T77 l0 x8_1).f3.f0)) := (blk_cell BK336.out 3).trans rfl
                        have hcz25_4 : wc.cell? ⟨gb336, 4, none⟩ = some (.int .i64 ((rd_T77 l0 x8_1).f3.f1)) := (blk_cell BK336.out 4).trans rfl
                        have hcz25_5 : wc.cell? ⟨gb336, 5, none⟩ = some (.int .i64 ((rd_T77 l0 x8_1).f3.f2)) := (blk_cell BK336.out 5).trans rfl
                        have hfz25_0 := blk_frozen BK336.out 0
                        have hfz25_1 := blk_frozen BK336.out 1
                        have hfz25_2 := blk_frozen BK336.out 2
                        have hfz25_3 := blk_frozen BK336.out 3
                        have hfz25_4 := blk_frozen BK336.out 4
                        have hfz25_5 := blk_frozen BK336.out 5
                        go_wp2
                        go_ret
                        exact ⟨by first | rfl | (simp [errW_none, errW_some] <;> rfl) | (simp [*, errW_none, errW_some] <;> rfl) | (simp [*, errW_none, errW_some, i64_w]; done), by repeat (first | (with_reducible first | exact HB.out | apply below_alloc | apply pw_below_drewN | apply below_drew1 | refine below_set ?_ GE336.out) | exact HB.out)⟩
                      · rw [if_neg c24] at H
                        have c24b0 : decide (3 < x3_7) = false := decide_eq_false c24
                        clear c24
                        have H' := Aside0.mk H
                        clear H
                        have hcz26_0 : wc.cell? ⟨gb336, 0, none⟩ = some (.int .i64 ((rd_T77 l0 x8_1).f0)) := (blk_cell BK336.out 0).trans rfl
                        have hcz26_1 : wc.cell? ⟨gb336, 1, none⟩ = some (.int .i64 ((rd_T77 l0 x8_1).f1)) := (blk_cell BK336.out 1).trans rfl
                        have hcz26_2 : wc.cell? ⟨gb336, 2, none⟩ = some (.int .i64 ((rd_T77 l0 x8_1).f2)) := (blk_cell BK336.out 2).trans rfl
                        have hcz26_3 : wc.cell? ⟨gb336, 3, none⟩ = some (.int .i64 ((rd_T77 l0 x8_1).f3.f0)) := (blk_cell BK336.out 3).trans rfl
                        have hcz26_4 : wc.cell? ⟨gb336, 4, none⟩ = some (.int .i64 ((rd_T77 l0 x8_1).f3.f1)) := (blk_cell BK336.out 4).trans rfl
                        have hcz26_5 : wc.cell? ⟨gb336, 5, none⟩ = some (.int .i64 ((rd_T77 l0 x8_1).f3.f2)) := (blk_cell BK336.out 5).trans rfl
                        have hfz26_0 := blk_frozen BK336.out 0
                        have hfz26_1 := blk_frozen BK336.out 1
                        have hfz26_2 := blk_frozen BK336.out 2
                        have hfz26_3 := blk_frozen BK336.out 3
                        have hfz26_4 := blk_frozen BK336.out 4
                        have hfz26_5 := blk_frozen BK336.out 5
                        go_wp2
                        go_roundg kj7
                        case measure => have := HK1.out; have := HJ7.out; omega
                        case rel => exact ⟨(x3_7), (wrap64 (x8_1 + 1)), z6_2, z6_2, H', ⟨by have := HK1.out; have := HJ7.out; omega⟩, ⟨by repeat (first | (with_reducible first | exact HB.out | apply below_alloc | apply pw_below_drewN | apply below_drew1 | refine below_set ?_ GE336.out) | exact HB.out)⟩⟩
            · replace c6 := Bool.eq_false_iff.mpr c6
              subst c6
              have H1 : (some false) = some r := by rw [if_neg (show ¬ (false = true) by decide)] at H; exact H
              clear H
              have H := H1
              clear H1
              obtain rfl := Option.some.inj H
              have p335 : 0 ≤ (x8_1 : Int) := of_decide_eq_true z6_3
              have q335 : x8_1 < (l0.length : Int) := of_decide_eq_true z6_3
              obtain ⟨ad335, e335, hx335_0, hx335_1, hx335_2, hx335_3, hx335_4, hx335_5⟩ := at_T77 HR0.out x8_1 p335 q335
              cases e335
              replace hx335_0 := (HB.out.cell (World.block_lt_of_cell? w _ hx335_0)).trans hx335_0
              replace hx335_1 := (HB.out.cell (World.block_lt_of_cell? w _ hx335_1)).trans hx335_1
              replace hx335_2 := (HB.out.cell (World.block_lt_of_cell? w _ hx335_2)).trans hx335_2
              replace hx335_3 := (HB.out.cell (World.block_lt_of_cell? w _ hx335_3)).trans hx335_3
              replace hx335_4 := (HB.out.cell (World.block_lt_of_cell? w _ hx335_4)).trans hx335_4
              replace hx335_5 := (HB.out.cell (World.block_lt_of_cell? w _ hx335_5)).trans hx335_5
              replace p335 := eq_true p335
              replace q335 := eq_true q335
              go_wp2_with (first | ((with_reducible refine gate_dst (N := 5) rfl ?_); (try (refine gate_guard (by rfl) ?_; dsimp only)); refine box_event ?hg (N := 5) ?hd (cs := #[.int .i64 0, .int .i64 0, .int .i64 0, .int .i64 0, .int .i64 0, .int .i64 0]) (t := 77) ?hr ?_; (case hd => rfl); (case hg => rfl); (case hr => first | (go_simp; done) | (go_simp; rfl)); intro gb336 hg w27 hbox hb; have n0_ := Aside0.mk (below_step z6_1 hb); have n1_ := Aside0.mk (hbox); have n2_ := Aside0.mk ((by rw [hg]; exact (below_size z6_1) : w.heap.size ≤ gb336)); have n3_ := Aside0.mk ((by rw [hg]; exact (below_size z6_1) : w.heap.size ≤ gb336)); clear HB; have HB := n0_; have BK336 := n1_; have GW336 := n2_; have GE336 := n3_; clear n0_ n1_ n2_ n3_; clear hb hbox hg; have hcz28_0 : w27.cell? ⟨gb336, 0, none⟩ = some (.int .i64 0) := (blk_cell BK336.out 0).trans rfl; have hcz28_1 : w27.cell? ⟨gb336, 1, none⟩ = some (.int .i64 0) := (blk_cell BK336.out 1).trans rfl; have hcz28_2 : w27.cell? ⟨gb336, 2, none⟩ = some (.int .i64 0) := (blk_cell BK336.out 2).trans rfl; have hcz28_3 : w27.cell? ⟨gb336, 3, none⟩ = some (.int .i64 0) := (blk_cell BK336.out 3).trans rfl; have hcz28_4 : w27.cell? ⟨gb336, 4, none⟩ = some (.int .i64 0) := (blk_cell BK336.out 4).trans rfl; have hcz28_5 : w27.cell? ⟨gb336, 5, none⟩ = some (.int .i64 0) := (blk_cell BK336.out 5).trans rfl; have hfz28_0 := blk_frozen BK336.out 0; have hfz28_1 := blk_frozen BK336.out 1; have hfz28_2 := blk_frozen BK336.out 2; have hfz28_3 := blk_frozen BK336.out 3; have hfz28_4 := blk_frozen BK336.out 4; have hfz28_5 := blk_frozen BK336.out 5) | ((with_reducible refine gate_store (t := 77) (p := 5) rfl ?_); refine store_event (t := 77) (p := 5) (v := ?vo_w29) (w1 := ((((((w27.setCell ⟨gb336, 0, none⟩ (.int .i64 ((rd_T77 l0 x8_1).f0))).setCell ⟨gb336, 1, none⟩ (.int .i64 ((rd_T77 l0 x8_1).f1))).setCell ⟨gb336, 2, none⟩ (.int .i64 ((rd_T77 l0 x8_1).f2))).setCell ⟨gb336, 3, none⟩ (.int .i64 ((rd_T77 l0 x8_1).f3.f0))).setCell ⟨gb336, 4, none⟩ (.int .i64 ((rd_T77 l0 x8_1).f3.f1))).setCell ⟨gb336, 5, none⟩ (.int .i64 ((rd_T77 l0 x8_1).f3.f2)))) ?hg ?ho ?hn ?hr ?_; (case ho => rfl); (case hg => rfl); (case hn => rfl); (case hr => first | (go_simp; done) | (go_simp; rfl)); intro w29 hw; have n0_ : Aside0 (w29.heap[gb336]? = some (.cells #[.int .i64 ((rd_T77 l0 x8_1).f0), .int .i64 ((rd_T77 l0 x8_1).f1), .int .i64 ((rd_T77 l0 x8_1).f2), .int .i64 ((rd_T77 l0 x8_1).f3.f0), .int .i64 ((rd_T77 l0 x8_1).f3.f1), .int .i64 ((rd_T77 l0 x8_1).f3.f2)] 77 (0, 0))) := ⟨z6_0⟩; have n1_ : Aside0 (Below w.heap.size w w29) := ⟨(by rw [hw]; exact z6_4)⟩; clear hw; clear BK336; clear HB; have BK336 := n0_; have HB := n1_; clear n0_ n1_; have hcz30_0 : w29.cell? ⟨gb336, 0, none⟩ = some (.int .i64 ((rd_T77 l0 x8_1).f0)) := (blk_cell BK336.out 0).trans rfl; have hcz30_1 : w29.cell? ⟨gb336, 1, none⟩ = some (.int .i64 ((rd_T77 l0 x8_1).f1)) := (blk_cell BK336.out 1).trans rfl; have hcz30_2 : w29.cell? ⟨gb336, 2, none⟩ = some (.int .i64 ((rd_T77 l0 x8_1).f2)) := (blk_cell BK336.out 2).trans rfl; have hcz30_3 : w29.cell? ⟨gb336, 3, none⟩ = some (.int .i64 ((rd_T77 l0 x8_1).f3.f0)) := (blk_cell BK336.out 3).trans rfl; have hcz30_4 : w29.cell? ⟨gb336, 4, none⟩ = some (.int .i64 ((rd_T77 l0 x8_1).f3.f1)) := (blk_cell BK336.out 4).trans rfl; have hcz30_5 : w29.cell? ⟨gb336, 5, none⟩ = some (.int .i64 ((rd_T77 l0 x8_1).f3.f2)) := (blk_cell BK336.out 5).trans rfl; have hfz30_0 := blk_frozen BK336.out 0; have hfz30_1 := blk_frozen BK336.out 1; have hfz30_2 := blk_frozen BK336.out 2; have hfz30_3 := blk_frozen BK336.out 3; have hfz30_4 := blk_frozen BK336.out 4; have hfz30_5 := blk_frozen BK336.out 5) | ((first | ((with_reducible refine gate_callee (f := 98) rfl ?_); refine goesL_ (some 13) rfl rfl Try.func98 (by kernel_rfl) rfl #[.agg #[.int .i64 ((rd_T77 l0 x8_1).f0), .int .i64 ((rd_T77 l0 x8_1).f1), .int .i64 ((rd_T77 l0 x8_1).f2), .int .i64 ((rd_T77 l0 x8_1).f3.f0), .int .i64 ((rd_T77 l0 x8_1).f3.f1), .int .i64 ((rd_T77 l0 x8_1).f3.f2)]] rfl z6_5 ?_; (with_reducible refine (impl_StmtOk.calls k1 ((rd_T77 l0 x8_1).f0) ((rd_T77 l0 x8_1).f1) ((rd_T77 l0 x8_1).f2) ((rd_T77 l0 x8_1).f3.f0) ((rd_T77 l0 x8_1).f3.f1) ((rd_T77 l0 x8_1).f3.f2) false _ A5.out).mono ?_)) | (go_at_call 98; (with_reducible refine (impl_StmtOk.calls k1 ((rd_T77 l0 x8_1).f0) ((rd_T77 l0 x8_1).f1) ((rd_T77 l0 x8_1).f2) ((rd_T77 l0 x8_1).f3.f0) ((rd_T77 l0 x8_1).f3.f1) ((rd_T77 l0 x8_1).f3.f2) false _ A5.out).mono ?_))); rintro e w31 ⟨rfl, hb⟩; (first | refine ⟨_, rfl, ?_⟩ | skip); have n0_ := Aside0.mk (blk_below (g := gb336) (o := .cells #[.int .i64 ((rd_T77 l0 x8_1).f0), .int .i64 ((rd_T77 l0 x8_1).f1), .int .i64 ((rd_T77 l0 x8_1).f2), .int .i64 ((rd_T77 l0 x8_1).f3.f0), .int .i64 ((rd_T77 l0 x8_1).f3.f1), .int .i64 ((rd_T77 l0 x8_1).f3.f2)] 77 (0, 0)) (by (with_reducible repeat (first | refine blk_drewN ?_ _ | refine blk_drew ?_ | refine blk_alloc ?_ _)); exact BK336.out) hb); have n1_ := Aside0.mk (below_step z6_4 hb); clear BK336; clear HB; have BK336 := n0_; have HB := n1_; clear n0_ n1_; (try clear hb); (try clear hb2); (try clear hk); (try clear hi)))
              go_ret
              exact ⟨by first | rfl | (simp [errW_none, errW_some] <;> rfl) | (simp [*, errW_none, errW_some] <;> rfl) | (simp [*, errW_none, errW_some, i64_w]; done), by repeat (first | (with_reducible first | exact HB.out | apply below_alloc | apply pw_below_drewN | apply below_drew1 | refine below_set ?_ GE336.out) | exact HB.out)⟩
          · rw [if_neg c4] at H
            exact absurd H (by simp)
        · rw [if_neg c3] at H
          exact absurd H (by simp)
      · rw [if_neg c2] at H
        have c2b0 : decide (x8_1 < (l0.length : Int)) = false := decide_eq_false c2
        clear c2
        by_cases c32 : x3_1 = 0
        · rw [if_pos c32] at H
          have c32b0 : (x3_1 == 0) = true := beq_iff_eq.mpr c32
          have c32b1 : (x3_1 != 0) = false := bne_eq_false_iff_eq.mpr c32
          clear c32
          obtain rfl := Option.some.inj H
          go_wp2
          go_ret
          exact ⟨by first | rfl | (simp [errW_none, errW_some] <;> rfl) | (simp [*, errW_none, errW_some] <;> rfl) | (simp [*, errW_none, errW_some, i64_w]; done), by repeat (first | (with_reducible first | exact HB.out | apply below_alloc | apply pw_below_drewN | apply below_drew1) | exact HB.out)⟩
        · rw [if_neg c32] at H
          have c32b0 : (x3_1 == 0) = false := beq_eq_false_iff_ne.mpr c32
          have c32b1 : (x3_1 != 0) = true := bne_iff_ne.mpr c32
          obtain rfl := Option.some.inj H
          go_wp2
          go_ret
          exact ⟨by first | rfl | (simp [errW_none, errW_some] <;> rfl) | (simp [*, errW_none, errW_some] <;> rfl) | (simp [*, errW_none, errW_some, i64_w]; done), by repeat (first | (with_reducible first | exact HB.out | apply below_alloc | apply pw_below_drewN | apply below_drew1) | exact HB.out)⟩

/-! ### impl_bit: function 58 -/
def impl_bit.f (a0 : Bool) : Option (Int) := if a0 = true then (some 1) else (some 0)
set_option maxHeartbeats 8000000 in
set_option maxRecDepth 100000 in
theorem impl_bit.calls (a0 : Bool) (r : Int) (w : World) (h : impl_bit.f a0 = some r) :
    Calls Try.prog 58 #[.bool a0] w fun e w' => e = .returned (.int .i64 r) ∧ Drawn0 w w' := by
  have H : (if a0 = true then (some 1) else (some 0)) = some r := h
  clear h
  by_cases c2 : a0 = true
  · subst c2
    have H1 : (some 1) = some r := by rw [if_pos rfl] at H; exact H
    clear H
    have H := H1
    clear H1
    obtain rfl := Option.some.inj H
    go_enter Try.func58, Try.ntmps58
    go_wp2
    go_ret
    exact ⟨by first | rfl | (simp; done) | (simp [*]; done), by repeat (first | exact Drawn0.refl _ | apply Drawn0.step)⟩
  · replace c2 := Bool.eq_false_iff.mpr c2
    subst c2
    have H1 : (some 0) = some r := by rw [if_neg (show ¬ (false = true) by decide)] at H; exact H
    clear H
    have H := H1
    clear H1
    obtain rfl := Option.some.inj H
    go_enter Try.func58, Try.ntmps58
    go_wp2
    go_ret
    exact ⟨by first | rfl | (simp; done) | (simp [*]; done), by repeat (first | exact Drawn0.refl _ | apply Drawn0.step)⟩

/-! ### impl_endOf: function 87 -/
mutual
def impl_endOf.l0 : Nat → List (S77) → Int → Int → Option (Int)
  | 0, _, _, _ => none
  | k + 1, x0, x5, x6 => if x6 < (x0.length : Int) then (if 0 ≤ x6 then ((impl_isOpening.f ((rd_T77 x0 x6).f0)).bind fun t340 => (if t340 = true then (impl_endOf.j1 k x0 (wrap64 (x5 + 1)) x6) else (impl_endOf.j1 k x0 x5 x6))) else (none)) else (some (-1))
def impl_endOf.j1 : Nat → List (S77) → Int → Int → Option (Int)
  | 0, _, _, _ => none
  | k + 1, x0, x5, x6 => if 0 ≤ x6 then (if x6 < (x0.length : Int) then (if ((rd_T77 x0 x6).f0) = 6 then (if (wrap64 (x5 - 1)) = 0 then (some x6) else (impl_endOf.l0 k x0 (wrap64 (x5 - 1)) (wrap64 (x6 + 1)))) else (if x5 = 0 then (some x6) else (impl_endOf.l0 k x0 x5 (wrap64 (x6 + 1))))) else (none)) else (none)
end
def impl_endOf.f (k : Nat) (l0 : List (S77)) (a1 : Int) : Option (Int) := impl_endOf.l0 k l0 0 a1
theorem impl_endOf.mono_l : ∀ k, (∀ y0 y1 y2, LeO (impl_endOf.l0 k y0 y1 y2) (impl_endOf.l0 (k + 1) y0 y1 y2)) ∧ (∀ y0 y1 y2, LeO (impl_endOf.j1 k y0 y1 y2) (impl_endOf.j1 (k + 1) y0 y1 y2))
  | 0 => ⟨fun _ _ _ r h => by simp [impl_endOf.l0] at h, fun _ _ _ r h => by simp [impl_endOf.j1] at h⟩
  | k + 1 => by
    obtain ⟨ih0, ih1⟩ := impl_endOf.mono_l k
    refine ⟨?_, ?_⟩
    · intro y0 y1 y2
      unfold impl_endOf.l0
      repeat' first
      | (with_reducible exact ih0 _ _ _)
      | (with_reducible exact ih1 _ _ _)
      | (with_reducible exact LeO.refl _)
      | (with_reducible exact LeO.none _)
      | (with_reducible refine LeO.ite ?_ ?_)
      | (with_reducible refine LeO.bind ?_ (fun _ => ?_))
      | exact ih0 _ _ _
      | exact ih1 _ _ _
      | exact LeO.none _
      | refine LeO.ite ?_ ?_
      | refine LeO.bind ?_ (fun _ => ?_)
    · intro y0 y1 y2
      unfold impl_endOf.j1
      repeat' first
      | (with_reducible exact ih0 _ _ _)
      | (with_reducible exact ih1 _ _ _)
      | (with_reducible exact LeO.refl _)
      | (with_reducible exact LeO.none _)
      | (with_reducible refine LeO.ite ?_ ?_)
      | (with_reducible refine LeO.bind ?_ (fun _ => ?_))
      | exact ih0 _ _ _
      | exact ih1 _ _ _
      | exact LeO.none _
      | refine LeO.ite ?_ ?_
      | refine LeO.bind ?_ (fun _ => ?_)
theorem impl_endOf.mono : ∀ a0 a1 k, LeO (impl_endOf.f k a0 a1) (impl_endOf.f (k + 1) a0 a1) := by
  intro a0 a1 k
  obtain ⟨ih0, ih1⟩ := impl_endOf.mono_l k
  unfold impl_endOf.f
  repeat' first
      | (with_reducible exact ih0 _ _ _)
      | (with_reducible exact ih1 _ _ _)
      | (with_reducible exact LeO.refl _)
      | (with_reducible exact LeO.none _)
      | (with_reducible refine LeO.ite ?_ ?_)
      | (with_reducible refine LeO.bind ?_ (fun _ => ?_))
      | exact ih0 _ _ _
      | exact ih1 _ _ _
      | exact LeO.none _
      | refine LeO.ite ?_ ?_
      | refine LeO.bind ?_ (fun _ => ?_)
set_option maxHeartbeats 8000000 in
set_option maxRecDepth 100000 in
theorem impl_endOf.calls (k : Nat) (A0 : Option Addr) (c0 : Nat) (l0 : List (S77)) (a1 : Int) (r : Int) (w : World) (hr0 : Kd.C k77 w A0 l0.length l0) (hc0 : l0.length ≤ c0) (h : impl_endOf.f k l0 a1 = some r) :
    Calls Try.prog 87 #[.slice A0 l0.length c0, .int .i64 a1] w fun e w' => e = .returned (.int .i64 r) ∧ Drawn0 w w' := by
  have HR0 := Aside0.mk hr0
  have HC0 := Aside0.mk hc0
  clear hr0 hc0
  have H : (impl_endOf.l0 k l0 0 a1) = some r := h
  clear h
  have H' := Aside0.mk H
  clear H
  go_enter Try.func87, Try.ntmps87
  go_wp2
  go_loopg [5, 6] k (fun kq v5 v6 w' => ∃ (x5_1 : Int) (x6_1 : Int), v5 = .int .i64 x5_1 ∧ v6 = .int .i64 x6_1 ∧ Aside0 (impl_endOf.l0 kq l0 x5_1 x6_1 = some r) ∧ Aside0 (kq ≤ k) ∧ Drawn0 w w')
  case atStart => exact ⟨(0), (a1), z6_2, z6_2, H', ⟨Nat.le_refl _⟩, by repeat (first | exact Drawn0.refl _ | apply Drawn0.step)⟩
  case round =>
    clear H'
    obtain ⟨x5_1, x6_1, rfl, rfl, HA, HK1, ⟨m1, rfl⟩⟩ := hrel
    cases gk with
    | zero => exact absurd HA.out (by simp [impl_endOf.l0])
    | succ k1 =>
      have H := HA.out
      clear HA
      simp only [impl_endOf.l0] at H
      by_cases c3 : x6_1 < (l0.length : Int)
      · rw [if_pos c3] at H
        have c3b0 : decide (x6_1 < (l0.length : Int)) = true := decide_eq_true c3
        clear c3
        by_cases c4 : 0 ≤ x6_1
        · rw [if_pos c4] at H
          have c4b0 : decide (0 ≤ x6_1) = true := decide_eq_true c4
          clear c4
          replace H := Option.bind_eq_some_iff.mp H
          obtain ⟨t340, A50, H⟩ := H
          replace H : (if t340 = true then (impl_endOf.j1 k1 l0 (wrap64 (x5_1 + 1)) x6_1) else (impl_endOf.j1 k1 l0 x5_1 x6_1)) = some r := H
          have A5 := Aside0.mk A50
          clear A50
          have HC6 := Aside0.mk H
          clear H
          have p339 : 0 ≤ (x6_1 : Int) := of_decide_eq_true z6_3
          have q339 : x6_1 < (l0.length : Int) := of_decide_eq_true z6_3
          obtain ⟨ad339, e339, hx339_0, hx339_1, hx339_2, hx339_3, hx339_4, hx339_5⟩ := at_T77 HR0.out x6_1 p339 q339
          cases e339
          replace p339 := eq_true p339
          replace q339 := eq_true q339
          go_upto_if 19 with (first | ((first | ((with_reducible refine gate_callee (f := 59) rfl ?_); refine goesL_ (some 19) rfl rfl Try.func59 (by kernel_rfl) rfl #[.int .i64 ((rd_T77 l0 x6_1).f0)] rfl z6_5 ?_; (with_reducible refine (impl_isOpening.calls ((rd_T77 l0 x6_1).f0) t340 _ A5.out).mono ?_)) | (go_at_call 59; (with_reducible refine (impl_isOpening.calls ((rd_T77 l0 x6_1).f0) t340 _ A5.out).mono ?_))); rintro e w' ⟨rfl, ⟨nd, rfl⟩⟩; (first | refine ⟨_, rfl, ?_⟩ | skip)))
          (try simp only [Act.put, List.setIfInBounds_toArray, List.set_cons_zero, List.set_cons_succ])
          go_cut [5] (fun v5 wc => ∃ (kq : Nat) (x5_5 : Int), v5 = .int .i64 x5_5 ∧ Aside0 (impl_endOf.j1 kq l0 x5_5 x6_1 = some r) ∧ Aside0 (kq ≤ k1) ∧ Drawn0 w wc)
          case first =>
            have H := HC6.out
            clear HC6
            by_cases c7 : t340 = true
            · subst c7
              have H1 : (impl_endOf.j1 k1 l0 (wrap64 (x5_1 + 1)) x6_1) = some r := by rw [if_pos rfl] at H; exact H
              clear H
              have H := H1
              clear H1
              have H' := Aside0.mk H
              clear H
              go_wp2
              go_meet
              case rel => exact ⟨_, (wrap64 (x5_1 + 1)), z6_2, H', ⟨by have := HK1.out; first | omega | exact Nat.le_refl _⟩, by repeat (first | exact Drawn0.refl _ | apply Drawn0.step)⟩
            · replace c7 := Bool.eq_false_iff.mpr c7
              subst c7
              have H1 : (impl_endOf.j1 k1 l0 x5_1 x6_1) = some r := by rw [if_neg (show ¬ (false = true) by decide)] at H; exact H
              clear H
              have H := H1
              clear H1
              have H' := Aside0.mk H
              clear H
              go_wp2
              go_meet
              case rel => exact ⟨_, (x5_1), z6_2, H', ⟨by have := HK1.out; first | omega | exact Nat.le_refl _⟩, by repeat (first | exact Drawn0.refl _ | apply Drawn0.step)⟩
          case rest =>
            clear HC6
            (try clear c3); (try clear c3b0); (try clear c4); (try clear c4b0); (try clear hx339_0); (try clear hx339_1); (try clear hx339_2); (try clear hx339_3); (try clear hx339_4); (try clear hx339_5); (try clear p339); (try clear q339)
            obtain ⟨kq, x5_5, rfl, HA, HJ5, ⟨mc5, rfl⟩⟩ := hcut
            cases kq with
            | zero => exact absurd HA.out (by simp [impl_endOf.j1])
            | succ kj5 =>
              have H := HA.out
              clear HA
              simp only [impl_endOf.j1] at H
              by_cases c8 : 0 ≤ x6_1
              · rw [if_pos c8] at H
                have c8b0 : decide (0 ≤ x6_1) = true := decide_eq_true c8
                clear c8
                by_cases c9 : x6_1 < (l0.length : Int)
                · rw [if_pos c9] at H
                  have c9b0 : decide (x6_1 < (l0.length : Int)) = true := decide_eq_true c9
                  clear c9
                  by_cases c10 : ((rd_T77 l0 x6_1).f0) = 6
                  · rw [if_pos c10] at H
                    have c10b0 : (((rd_T77 l0 x6_1).f0) == 6) = true := beq_iff_eq.mpr c10
                    have c10b1 : (((rd_T77 l0 x6_1).f0) != 6) = false := bne_eq_false_iff_eq.mpr c10
                    clear c10
                    by_cases c11 : (wrap64 (x5_5 - 1)) = 0
                    · rw [if_pos c11] at H
                      have c11b0 : ((wrap64 (x5_5 - 1)) == 0) = true := beq_iff_eq.mpr c11
                      have c11b1 : ((wrap64 (x5_5 - 1)) != 0) = false := bne_eq_false_iff_eq.mpr c11
                      clear c11
                      obtain rfl := Option.some.inj H
                      have p341 : 0 ≤ (x6_1 : Int) := of_decide_eq_true z6_3
                      have q341 : x6_1 < (l0.length : Int) := of_decide_eq_true z6_3
                      obtain ⟨ad341, e341, hx341_0, hx341_1, hx341_2, hx341_3, hx341_4, hx341_5⟩ := at_T77 HR0.out x6_1 p341 q341
                      obtain rfl : ad339 = ad341 := (by injection e341)
                      replace p341 := eq_true p341
                      replace q341 := eq_true q341
                      go_wp2
                      go_ret
                      exact ⟨by first | rfl | (simp; done) | (simp [*]; done), by repeat (first | exact Drawn0.refl _ | apply Drawn0.step)⟩
                    · rw [if_neg c11] at H
                      have c11b0 : ((wrap64 (x5_5 - 1)) == 0) = false := beq_eq_false_iff_ne.mpr c11
                      have c11b1 : ((wrap64 (x5_5 - 1)) != 0) = true := bne_iff_ne.mpr c11
                      have H' := Aside0.mk H
                      clear H
                      have p341 : 0 ≤ (x6_1 : Int) := of_decide_eq_true z6_3
                      have q341 : x6_1 < (l0.length : Int) := of_decide_eq_true z6_3
                      obtain ⟨ad341, e341, hx341_0, hx341_1, hx341_2, hx341_3, hx341_4, hx341_5⟩ := at_T77 HR0.out x6_1 p341 q341
                      obtain rfl : ad339 = ad341 := (by injection e341)
                      replace p341 := eq_true p341
                      replace q341 := eq_true q341
                      go_wp2
                      go_roundg kj5
                      case measure => have := HK1.out; have := HJ5.out; omega
                      case rel => exact ⟨(wrap64 (x5_5 - 1)), (wrap64 (x6_1 + 1)), z6_2, z6_2, H', ⟨by have := HK1.out; have := HJ5.out; omega⟩, by repeat (first | exact Drawn0.refl _ | apply Drawn0.step)⟩
                  · rw [if_neg c10] at H
                    have c10b0 : (((rd_T77 l0 x6_1).f0) == 6) = false := beq_eq_false_iff_ne.mpr c10
                    have c10b1 : (((rd_T77 l0 x6_1).f0) != 6) = true := bne_iff_ne.mpr c10
                    by_cases c12 : x5_5 = 0
                    · rw [if_pos c12] at H
                      have c12b0 : (x5_5 == 0) = true := beq_iff_eq.mpr c12
                      have c12b1 : (x5_5 != 0) = false := bne_eq_false_iff_eq.mpr c12
                      clear c12
                      obtain rfl := Option.some.inj H
                      have p341 : 0 ≤ (x6_1 : Int) := of_decide_eq_true z6_3
                      have q341 : x6_1 < (l0.length : Int) := of_decide_eq_true z6_3
                      obtain ⟨ad341, e341, hx341_0, hx341_1, hx341_2, hx341_3, hx341_4, hx341_5⟩ := at_T77 HR0.out x6_1 p341 q341
                      obtain rfl : ad339 = ad341 := (by injection e341)
                      replace p341 := eq_true p341
                      replace q341 := eq_true q341
                      go_wp2
                      go_ret
                      exact ⟨by first | rfl | (simp; done) | (simp [*]; done), by repeat (first | exact Drawn0.refl _ | apply Drawn0.step)⟩
                    · rw [if_neg c12] at H
                      have c12b0 : (x5_5 == 0) = false := beq_eq_false_iff_ne.mpr c12
                      have c12b1 : (x5_5 != 0) = true := bne_iff_ne.mpr c12
                      have H' := Aside0.mk H
                      clear H
                      have p341 : 0 ≤ (x6_1 : Int) := of_decide_eq_true z6_3
                      have q341 : x6_1 < (l0.length : Int) := of_decide_eq_true z6_3
                      obtain ⟨ad341, e341, hx341_0, hx341_1, hx341_2, hx341_3, hx341_4, hx341_5⟩ := at_T77 HR0.out x6_1 p341 q341
                      obtain rfl : ad339 = ad341 := (by injection e341)
                      replace p341 := eq_true p341
                      replace q341 := eq_true q341
                      go_wp2
                      go_roundg kj5
                      case measure => have := HK1.out; have := HJ5.out; omega
                      case rel => exact ⟨(x5_5), (wrap64 (x6_1 + 1)), z6_2, z6_2, H', ⟨by have := HK1.out; have := HJ5.out; omega⟩, by repeat (first | exact Drawn0.refl _ | apply Drawn0.step)⟩
                · rw [if_neg c9] at H
                  exact absurd H (by simp)
              · rw [if_neg c8] at H
                exact absurd H (by simp)
        · rw [if_neg c4] at H
          exact absurd H (by simp)
      · rw [if_neg c3] at H
        have c3b0 : decide (x6_1 < (l0.length : Int)) = false := decide_eq_false c3
        clear c3
        obtain rfl := Option.some.inj H
        go_wp2
        go_ret
        exact ⟨by first | rfl | (simp; done) | (simp [*]; done), by repeat (first | exact Drawn0.refl _ | apply Drawn0.step)⟩

end Go.Proofs.Ytakhaknglhgimaa.G
