/- Functions of the program as plain Lean functions, and that each call comes to its function's answer; written by a program of the session. No condition. -/
import Derived.Test.YtccjlmpeogifkaaGx0
import Derived.Test.YtccjlmpeogifkaaGx1
import Derived.Test.YtccjlmpeogifkaaGx6
namespace Go.Proofs.Ytccjlmpeogifkaa.G
open Go.RowKit Go.Proofs.YtccjlmpeogifkaaW.PrintWords Go.Proofs.YtccjlmpeogifkaaW.PrintLast Go.Proofs.YtccjlmpeogifkaaW.PrintMore
attribute [local go_sem] max2_int min2_int max_two min_two max_three min_three max_four min_four   -- for this text's walks alone
set_option linter.unusedVariables false
set_option linter.unusedSimpArgs false
attribute [local go_sem high] eqA30
theorem z7_0 {P : Prop} (h : P := by (try simp only [List.map_toArray, List.map_cons, List.map_nil]); first | done | rfl | (simp only [List.length_drop, List.length_take]; rfl)) : P := h
theorem z7_1 {P : Prop} (h : P := by repeat (first | (with_reducible first | exact HB.out | apply below_alloc | apply pw_below_drewN | apply below_drew1) | exact HB.out)) : P := h
theorem z7_2 {P : Prop} (h : P := by rw [hw]; exact (by (with_reducible repeat (first | refine blk_drewN ?_ _ | refine blk_drew ?_ | refine blk_alloc ?_ _)); refine blk_put (cs := #[.int .i64 ((rd_T55 l0 x8_1).f0), .int .i64 ((rd_T55 l0 x8_1).f1), .int .i64 ((rd_T55 l0 x8_1).f2), .int .i64 ((rd_T55 l0 x8_1).f3.f0), .int .i64 ((rd_T55 l0 x8_1).f3.f1), .int .i64 0]) ?_ 5 _ rfl; (with_reducible repeat (first | refine blk_drewN ?_ _ | refine blk_drew ?_ | refine blk_alloc ?_ _)); refine blk_put (cs := #[.int .i64 ((rd_T55 l0 x8_1).f0), .int .i64 ((rd_T55 l0 x8_1).f1), .int .i64 ((rd_T55 l0 x8_1).f2), .int .i64 ((rd_T55 l0 x8_1).f3.f0), .int .i64 0, .int .i64 0]) ?_ 4 _ rfl; (with_reducible repeat (first | refine blk_drewN ?_ _ | refine blk_drew ?_ | refine blk_alloc ?_ _)); refine blk_put (cs := #[.int .i64 ((rd_T55 l0 x8_1).f0), .int .i64 ((rd_T55 l0 x8_1).f1), .int .i64 ((rd_T55 l0 x8_1).f2), .int .i64 0, .int .i64 0, .int .i64 0]) ?_ 3 _ rfl; (with_reducible repeat (first | refine blk_drewN ?_ _ | refine blk_drew ?_ | refine blk_alloc ?_ _)); refine blk_put (cs := #[.int .i64 ((rd_T55 l0 x8_1).f0), .int .i64 ((rd_T55 l0 x8_1).f1), .int .i64 0, .int .i64 0, .int .i64 0, .int .i64 0]) ?_ 2 _ rfl; (with_reducible repeat (first | refine blk_drewN ?_ _ | refine blk_drew ?_ | refine blk_alloc ?_ _)); refine blk_put (cs := #[.int .i64 ((rd_T55 l0 x8_1).f0), .int .i64 0, .int .i64 0, .int .i64 0, .int .i64 0, .int .i64 0]) ?_ 1 _ rfl; (with_reducible repeat (first | refine blk_drewN ?_ _ | refine blk_drew ?_ | refine blk_alloc ?_ _)); refine blk_put (cs := #[.int .i64 0, .int .i64 0, .int .i64 0, .int .i64 0, .int .i64 0, .int .i64 0]) ?_ 0 _ rfl; (with_reducible repeat (first | refine blk_drewN ?_ _ | refine blk_drew ?_ | refine blk_alloc ?_ _)); exact BK310.out)) : P := h
theorem z7_3 {P : Prop} (h : P := by first | rfl | (simp; done) | (simp [*]; done)) : P := h
theorem z7_4 {P : Prop} (h : P := by repeat (first | (with_reducible first | exact HB.out | apply below_alloc | apply pw_below_drewN | apply below_drew1 | refine below_set ?_ GE310.out) | exact HB.out)) : P := h
theorem z7_5 {P : Prop} (h : P := by repeat (first | (with_reducible first | exact HB.out | apply below_alloc | apply pw_below_drewN | apply below_drew1 | refine below_set ?_ GE313.out) | exact HB.out)) : P := h
theorem z7_6 {P : Prop} (h : P := by first | (with_reducible assumption) | assumption) : P := h
theorem z7_7 {P : Prop} (h : P := by (with_reducible repeat (first | refine blk_drewN ?_ _ | refine blk_drew ?_ | refine blk_alloc ?_ _)); exact BK313.out) : P := h
theorem z7_8 {P : Prop} (h : P := by first | (go_simp; done) | (go_simp; rfl)) : P := h
theorem z7_9 {P : Prop} (h : P := by rw [hg]; exact (below_size z7_1)) : P := h
/-! ### impl_StmtOk: function 55 -/
mutual
def impl_StmtOk.j0 : Nat → Bool → Int → Int → Int → Int → Int → Int → Option (Bool)
 | 0, _, _, _, _, _, _, _ => none
 | k + 1, x28, x298000, x298001, x298002, x298003, x298004, x298005 => if x28 = true then (some false) else ((impl_hasExpr.f x298000).bind fun t303 => (if t303 = true then ((impl_ExprOk.f x298003 x298004 x298005).bind fun t304 => (if t304 = true then ((impl_hasExpr.f x298000).bind fun t305 => (if t305 = true then (impl_StmtOk.j1 k false x298000 x298001 x298002 x298003 x298004 x298005) else (impl_StmtOk.j1 k (!(x298003 == 0) || (!(x298004 == 0) || (!(x298005 == 0)))) x298000 x298001 x298002 x298003 x298004 x298005))) else (impl_StmtOk.j1 k true x298000 x298001 x298002 x298003 x298004 x298005))) else ((impl_hasExpr.f x298000).bind fun t306 => (if t306 = true then (impl_StmtOk.j1 k false x298000 x298001 x298002 x298003 x298004 x298005) else (impl_StmtOk.j1 k (!(x298003 == 0) || (!(x298004 == 0) || (!(x298005 == 0)))) x298000 x298001 x298002 x298003 x298004 x298005)))))
def impl_StmtOk.j1 : Nat → Bool → Int → Int → Int → Int → Int → Int → Option (Bool)
 | 0, _, _, _, _, _, _, _ => none
 | k + 1, x49, x298000, x298001, x298002, x298003, x298004, x298005 => if x49 = true then (some false) else (if x298000 = 2 then ((impl_isSensor.f x298002).bind fun t307 => (some t307)) else (if x298000 = 5 then ((impl_within.f x298002 1 5).bind fun t308 => (some t308)) else (some (x298002 == 0))))
end
def impl_StmtOk.f (k : Nat) (a0_0 : Int) (a0_1 : Int) (a0_2 : Int) (a0_3 : Int) (a0_4 : Int) (a0_5 : Int) : Option (Bool) := (impl_within.f a0_0 1 6).bind fun t298 => (if t298 = true then ((impl_hasVar.f a0_0).bind fun t299 => (if t299 = true then ((impl_isVar.f a0_1).bind fun t300 => (if t300 = true then ((impl_hasVar.f a0_0).bind fun t301 => (if t301 = true then (impl_StmtOk.j0 k false a0_0 a0_1 a0_2 a0_3 a0_4 a0_5) else (impl_StmtOk.j0 k (a0_1 != 0) a0_0 a0_1 a0_2 a0_3 a0_4 a0_5))) else (impl_StmtOk.j0 k true a0_0 a0_1 a0_2 a0_3 a0_4 a0_5))) else ((impl_hasVar.f a0_0).bind fun t302 => (if t302 = true then (impl_StmtOk.j0 k false a0_0 a0_1 a0_2 a0_3 a0_4 a0_5) else (impl_StmtOk.j0 k (a0_1 != 0) a0_0 a0_1 a0_2 a0_3 a0_4 a0_5))))) else (impl_StmtOk.j0 k true a0_0 a0_1 a0_2 a0_3 a0_4 a0_5))
theorem impl_StmtOk.mono_l : ∀ k, (∀ y0 y1 y2 y3 y4 y5 y6, LeO (impl_StmtOk.j0 k y0 y1 y2 y3 y4 y5 y6) (impl_StmtOk.j0 (k + 1) y0 y1 y2 y3 y4 y5 y6)) ∧ (∀ y0 y1 y2 y3 y4 y5 y6, LeO (impl_StmtOk.j1 k y0 y1 y2 y3 y4 y5 y6) (impl_StmtOk.j1 (k + 1) y0 y1 y2 y3 y4 y5 y6))
 | 0 => ⟨fun _ _ _ _ _ _ _ r h => by simp [impl_StmtOk.j0] at h, fun _ _ _ _ _ _ _ r h => by simp [impl_StmtOk.j1] at h⟩
 | k + 1 => by
  obtain ⟨ih0, ih1⟩ := impl_StmtOk.mono_l k
  refine ⟨?_, ?_⟩
  ·intro y0 y1 y2 y3 y4 y5 y6
   unfold impl_StmtOk.j0
   repeat' first
   | (with_reducible exact ih0 _ _ _ _ _ _ _)
   | (with_reducible exact ih1 _ _ _ _ _ _ _)
   | (with_reducible exact LeO.refl _)
   | (with_reducible exact LeO.none _)
   | (with_reducible refine LeO.ite ?_ ?_)
   | (with_reducible refine LeO.bind ?_ (fun _ => ?_))
   | exact ih0 _ _ _ _ _ _ _
   | exact ih1 _ _ _ _ _ _ _
   | exact LeO.none _
   | refine LeO.ite ?_ ?_
   | refine LeO.bind ?_ (fun _ => ?_)
  ·intro y0 y1 y2 y3 y4 y5 y6
   unfold impl_StmtOk.j1
   repeat' first
   | (with_reducible exact ih0 _ _ _ _ _ _ _)
   | (with_reducible exact ih1 _ _ _ _ _ _ _)
   | (with_reducible exact LeO.refl _)
   | (with_reducible exact LeO.none _)
   | (with_reducible refine LeO.ite ?_ ?_)
   | (with_reducible refine LeO.bind ?_ (fun _ => ?_))
   | exact ih0 _ _ _ _ _ _ _
   | exact ih1 _ _ _ _ _ _ _
   | exact LeO.none _
   | refine LeO.ite ?_ ?_
   | refine LeO.bind ?_ (fun _ => ?_)
theorem impl_StmtOk.mono : ∀ a0 a1 a2 a3 a4 a5 k, LeO (impl_StmtOk.f k a0 a1 a2 a3 a4 a5) (impl_StmtOk.f (k + 1) a0 a1 a2 a3 a4 a5) := by
 intro a0 a1 a2 a3 a4 a5 k
 obtain ⟨ih0, ih1⟩ := impl_StmtOk.mono_l k
 unfold impl_StmtOk.f
 repeat' first
   | (with_reducible exact ih0 _ _ _ _ _ _ _)
   | (with_reducible exact ih1 _ _ _ _ _ _ _)
   | (with_reducible exact LeO.refl _)
   | (with_reducible exact LeO.none _)
   | (with_reducible refine LeO.ite ?_ ?_)
   | (with_reducible refine LeO.bind ?_ (fun _ => ?_))
   | exact ih0 _ _ _ _ _ _ _
   | exact ih1 _ _ _ _ _ _ _
   | exact LeO.none _
   | refine LeO.ite ?_ ?_
   | refine LeO.bind ?_ (fun _ => ?_)
set_option maxHeartbeats 8000000 in
set_option maxRecDepth 100000 in
theorem impl_StmtOk.calls (k : Nat) (a0_0 : Int) (a0_1 : Int) (a0_2 : Int) (a0_3 : Int) (a0_4 : Int) (a0_5 : Int) (r : Bool) (w : World) (h : impl_StmtOk.f k a0_0 a0_1 a0_2 a0_3 a0_4 a0_5 = some r) :
  Calls Try.prog 55 #[.agg #[.int .i64 a0_0, .int .i64 a0_1, .int .i64 a0_2, .int .i64 a0_3, .int .i64 a0_4, .int .i64 a0_5]] w fun e w' => e = .returned (.bool r) ∧ Below w.heap.size w w' := by
 have hu55 := Try.underlying55
 have hu30 := Try.underlying30
 have HB := Aside0.mk (Below.refl w.heap.size w)
 have H : ((impl_within.f a0_0 1 6).bind fun t298 => (if t298 = true then ((impl_hasVar.f a0_0).bind fun t299 => (if t299 = true then ((impl_isVar.f a0_1).bind fun t300 => (if t300 = true then ((impl_hasVar.f a0_0).bind fun t301 => (if t301 = true then (impl_StmtOk.j0 k false a0_0 a0_1 a0_2 a0_3 a0_4 a0_5) else (impl_StmtOk.j0 k (a0_1 != 0) a0_0 a0_1 a0_2 a0_3 a0_4 a0_5))) else (impl_StmtOk.j0 k true a0_0 a0_1 a0_2 a0_3 a0_4 a0_5))) else ((impl_hasVar.f a0_0).bind fun t302 => (if t302 = true then (impl_StmtOk.j0 k false a0_0 a0_1 a0_2 a0_3 a0_4 a0_5) else (impl_StmtOk.j0 k (a0_1 != 0) a0_0 a0_1 a0_2 a0_3 a0_4 a0_5))))) else (impl_StmtOk.j0 k true a0_0 a0_1 a0_2 a0_3 a0_4 a0_5))) = some r := h
 clear h
 have HC2 := Aside0.mk H
 clear H
 go_enter Try.func55, Try.ntmps55
 go_upto_region 1 with (first | ((with_reducible refine gate_dst (N := 1) rfl ?_); refine box_event ?hg (N := 1) ?hd (cs := #[.int .i64 a0_0, .int .i64 a0_1, .int .i64 a0_2, .int .i64 a0_3, .int .i64 a0_4, .int .i64 a0_5]) (t := 55) ?hr ?_; (case hd => rfl); (case hg => rfl); (case hr => exact z7_8); intro gb297 hg w3 hbox hb; have n0_ := Aside0.mk (below_step z7_1 hb); have n1_ := Aside0.mk (hbox); have n2_ := Aside0.mk ((z7_9 : w.heap.size ≤ gb297)); have n3_ := Aside0.mk ((z7_9 : w.heap.size ≤ gb297)); clear HB; have HB := n0_; have BK297 := n1_; have GW297 := n2_; have GE297 := n3_; clear n0_ n1_ n2_ n3_; clear hb hbox hg))
 (try simp only [Act.put, List.setIfInBounds_toArray, List.set_cons_zero, List.set_cons_succ])
 go_cut [28] (fun v28 wc => ∃ (kq : Nat) (x28_1 : Bool), v28 = .bool x28_1 ∧ Aside0 (impl_StmtOk.j0 kq x28_1 a0_0 a0_1 a0_2 a0_3 a0_4 a0_5 = some r) ∧ Aside0 (kq ≤ k) ∧ Aside0 (wc.heap[gb297]? = some (.cells #[.int .i64 a0_0, .int .i64 a0_1, .int .i64 a0_2, .int .i64 a0_3, .int .i64 a0_4, .int .i64 a0_5] 55 (0, 0))) ∧ Aside0 (Below w.heap.size w wc))
 case first =>
  have H := HC2.out
  clear HC2
  replace H := Option.bind_eq_some_iff.mp H
  obtain ⟨t298, A40, H⟩ := H
  replace H : (if t298 = true then ((impl_hasVar.f a0_0).bind fun t299 => (if t299 = true then ((impl_isVar.f a0_1).bind fun t300 => (if t300 = true then ((impl_hasVar.f a0_0).bind fun t301 => (if t301 = true then (impl_StmtOk.j0 k false a0_0 a0_1 a0_2 a0_3 a0_4 a0_5) else (impl_StmtOk.j0 k (a0_1 != 0) a0_0 a0_1 a0_2 a0_3 a0_4 a0_5))) else (impl_StmtOk.j0 k true a0_0 a0_1 a0_2 a0_3 a0_4 a0_5))) else ((impl_hasVar.f a0_0).bind fun t302 => (if t302 = true then (impl_StmtOk.j0 k false a0_0 a0_1 a0_2 a0_3 a0_4 a0_5) else (impl_StmtOk.j0 k (a0_1 != 0) a0_0 a0_1 a0_2 a0_3 a0_4 a0_5))))) else (impl_StmtOk.j0 k true a0_0 a0_1 a0_2 a0_3 a0_4 a0_5)) = some r := H
  have A4 := Aside0.mk A40
  clear A40
  by_cases c5 : t298 = true
  ·subst c5
   have H1 : ((impl_hasVar.f a0_0).bind fun t299 => (if t299 = true then ((impl_isVar.f a0_1).bind fun t300 => (if t300 = true then ((impl_hasVar.f a0_0).bind fun t301 => (if t301 = true then (impl_StmtOk.j0 k false a0_0 a0_1 a0_2 a0_3 a0_4 a0_5) else (impl_StmtOk.j0 k (a0_1 != 0) a0_0 a0_1 a0_2 a0_3 a0_4 a0_5))) else (impl_StmtOk.j0 k true a0_0 a0_1 a0_2 a0_3 a0_4 a0_5))) else ((impl_hasVar.f a0_0).bind fun t302 => (if t302 = true then (impl_StmtOk.j0 k false a0_0 a0_1 a0_2 a0_3 a0_4 a0_5) else (impl_StmtOk.j0 k (a0_1 != 0) a0_0 a0_1 a0_2 a0_3 a0_4 a0_5))))) = some r := by rw [if_pos rfl] at H; exact H
   clear H
   have H := H1
   clear H1
   replace H := Option.bind_eq_some_iff.mp H
   obtain ⟨t299, A60, H⟩ := H
   replace H : (if t299 = true then ((impl_isVar.f a0_1).bind fun t300 => (if t300 = true then ((impl_hasVar.f a0_0).bind fun t301 => (if t301 = true then (impl_StmtOk.j0 k false a0_0 a0_1 a0_2 a0_3 a0_4 a0_5) else (impl_StmtOk.j0 k (a0_1 != 0) a0_0 a0_1 a0_2 a0_3 a0_4 a0_5))) else (impl_StmtOk.j0 k true a0_0 a0_1 a0_2 a0_3 a0_4 a0_5))) else ((impl_hasVar.f a0_0).bind fun t302 => (if t302 = true then (impl_StmtOk.j0 k false a0_0 a0_1 a0_2 a0_3 a0_4 a0_5) else (impl_StmtOk.j0 k (a0_1 != 0) a0_0 a0_1 a0_2 a0_3 a0_4 a0_5)))) = some r := H
   have A6 := Aside0.mk A60
   clear A60
   by_cases c7 : t299 = true
   ·subst c7
    have H1 : ((impl_isVar.f a0_1).bind fun t300 => (if t300 = true then ((impl_hasVar.f a0_0).bind fun t301 => (if t301 = true then (impl_StmtOk.j0 k false a0_0 a0_1 a0_2 a0_3 a0_4 a0_5) else (impl_StmtOk.j0 k (a0_1 != 0) a0_0 a0_1 a0_2 a0_3 a0_4 a0_5))) else (impl_StmtOk.j0 k true a0_0 a0_1 a0_2 a0_3 a0_4 a0_5))) = some r := by rw [if_pos rfl] at H; exact H
    clear H
    have H := H1
    clear H1
    replace H := Option.bind_eq_some_iff.mp H
    obtain ⟨t300, A80, H⟩ := H
    replace H : (if t300 = true then ((impl_hasVar.f a0_0).bind fun t301 => (if t301 = true then (impl_StmtOk.j0 k false a0_0 a0_1 a0_2 a0_3 a0_4 a0_5) else (impl_StmtOk.j0 k (a0_1 != 0) a0_0 a0_1 a0_2 a0_3 a0_4 a0_5))) else (impl_StmtOk.j0 k true a0_0 a0_1 a0_2 a0_3 a0_4 a0_5)) = some r := H
    have A8 := Aside0.mk A80
    clear A80
    by_cases c9 : t300 = true
    ·subst c9
     have H1 : ((impl_hasVar.f a0_0).bind fun t301 => (if t301 = true then (impl_StmtOk.j0 k false a0_0 a0_1 a0_2 a0_3 a0_4 a0_5) else (impl_StmtOk.j0 k (a0_1 != 0) a0_0 a0_1 a0_2 a0_3 a0_4 a0_5))) = some r := by rw [if_pos rfl] at H; exact H
     clear H
     have H := H1
     clear H1
     replace H := Option.bind_eq_some_iff.mp H
     obtain ⟨t301, A100, H⟩ := H
     replace H : (if t301 = true then (impl_StmtOk.j0 k false a0_0 a0_1 a0_2 a0_3 a0_4 a0_5) else (impl_StmtOk.j0 k (a0_1 != 0) a0_0 a0_1 a0_2 a0_3 a0_4 a0_5)) = some r := H
     have A10 := Aside0.mk A100
     clear A100
     by_cases c11 : t301 = true
     ·subst c11
      have H1 : (impl_StmtOk.j0 k false a0_0 a0_1 a0_2 a0_3 a0_4 a0_5) = some r := by rw [if_pos rfl] at H; exact H
      clear H
      have H := H1
      clear H1
      have H' := Aside0.mk H
      clear H
      have hcz12_0 : w3.cell? ⟨gb297, 0, none⟩ = some (.int .i64 a0_0) := (blk_cell BK297.out 0).trans rfl
      have hcz12_1 : w3.cell? ⟨gb297, 1, none⟩ = some (.int .i64 a0_1) := (blk_cell BK297.out 1).trans rfl
      have hcz12_2 : w3.cell? ⟨gb297, 2, none⟩ = some (.int .i64 a0_2) := (blk_cell BK297.out 2).trans rfl
      have hcz12_3 : w3.cell? ⟨gb297, 3, none⟩ = some (.int .i64 a0_3) := (blk_cell BK297.out 3).trans rfl
      have hcz12_4 : w3.cell? ⟨gb297, 4, none⟩ = some (.int .i64 a0_4) := (blk_cell BK297.out 4).trans rfl
      have hcz12_5 : w3.cell? ⟨gb297, 5, none⟩ = some (.int .i64 a0_5) := (blk_cell BK297.out 5).trans rfl
      have hfz12_0 := blk_frozen BK297.out 0
      have hfz12_1 := blk_frozen BK297.out 1
      have hfz12_2 := blk_frozen BK297.out 2
      have hfz12_3 := blk_frozen BK297.out 3
      have hfz12_4 := blk_frozen BK297.out 4
      have hfz12_5 := blk_frozen BK297.out 5
      go_wp2_with (first | ((with_reducible refine gate_callee (f := 38) rfl ?_); refine goesL_ (some 5) rfl rfl Try.func38 (by kernel_rfl) rfl #[.int .i64 a0_0, .int .i64 1, .int .i64 6] rfl z7_0 ?_; (with_reducible refine (impl_within.calls a0_0 1 6 true _ A4.out).mono ?_); rintro e w' ⟨rfl, ⟨nd, rfl⟩⟩; refine ⟨_, rfl, ?_⟩) | (go_at_call 71; (with_reducible refine (impl_hasVar.calls a0_0 true _ A6.out).mono ?_); rintro e w' ⟨rfl, ⟨nd, rfl⟩⟩) | (go_at_call 22; (with_reducible refine (impl_isVar.calls a0_1 true _ A8.out).mono ?_); rintro e w' ⟨rfl, ⟨nd, rfl⟩⟩) | (go_at_call 71; (with_reducible refine (impl_hasVar.calls a0_0 true _ A10.out).mono ?_); rintro e w' ⟨rfl, ⟨nd, rfl⟩⟩))
      go_meet
      case rel => exact ⟨_, (false), z7_3, H', ⟨by first | omega | exact Nat.le_refl _⟩, ⟨by (with_reducible repeat (first | refine blk_drewN ?_ _ | refine blk_drew ?_ | refine blk_alloc ?_ _)); exact BK297.out⟩, ⟨by repeat (first | (with_reducible first | exact HB.out | apply below_alloc | apply pw_below_drewN | apply below_drew1 | refine below_set ?_ GE297.out) | exact HB.out)⟩⟩
     ·replace c11 := Bool.eq_false_iff.mpr c11
      subst c11
      have H1 : (impl_StmtOk.j0 k (a0_1 != 0) a0_0 a0_1 a0_2 a0_3 a0_4 a0_5) = some r := by rw [if_neg (show ¬ (false = true) by decide)] at H; exact H
      clear H
      have H := H1
      clear H1
      exact absurd (A6.out.symm.trans A10.out) (by simp)
    ·replace c9 := Bool.eq_false_iff.mpr c9
     subst c9
     have H1 : (impl_StmtOk.j0 k true a0_0 a0_1 a0_2 a0_3 a0_4 a0_5) = some r := by rw [if_neg (show ¬ (false = true) by decide)] at H; exact H
     clear H
     have H := H1
     clear H1
     have H' := Aside0.mk H
     clear H
     have hcz13_0 : w3.cell? ⟨gb297, 0, none⟩ = some (.int .i64 a0_0) := (blk_cell BK297.out 0).trans rfl
     have hcz13_1 : w3.cell? ⟨gb297, 1, none⟩ = some (.int .i64 a0_1) := (blk_cell BK297.out 1).trans rfl
     have hcz13_2 : w3.cell? ⟨gb297, 2, none⟩ = some (.int .i64 a0_2) := (blk_cell BK297.out 2).trans rfl
     have hcz13_3 : w3.cell? ⟨gb297, 3, none⟩ = some (.int .i64 a0_3) := (blk_cell BK297.out 3).trans rfl
     have hcz13_4 : w3.cell? ⟨gb297, 4, none⟩ = some (.int .i64 a0_4) := (blk_cell BK297.out 4).trans rfl
     have hcz13_5 : w3.cell? ⟨gb297, 5, none⟩ = some (.int .i64 a0_5) := (blk_cell BK297.out 5).trans rfl
     have hfz13_0 := blk_frozen BK297.out 0
     have hfz13_1 := blk_frozen BK297.out 1
     have hfz13_2 := blk_frozen BK297.out 2
     have hfz13_3 := blk_frozen BK297.out 3
     have hfz13_4 := blk_frozen BK297.out 4
     have hfz13_5 := blk_frozen BK297.out 5
     go_wp2_with (first | ((with_reducible refine gate_callee (f := 38) rfl ?_); refine goesL_ (some 5) rfl rfl Try.func38 (by kernel_rfl) rfl #[.int .i64 a0_0, .int .i64 1, .int .i64 6] rfl z7_0 ?_; (with_reducible refine (impl_within.calls a0_0 1 6 true _ A4.out).mono ?_); rintro e w' ⟨rfl, ⟨nd, rfl⟩⟩; refine ⟨_, rfl, ?_⟩) | (go_at_call 71; (with_reducible refine (impl_hasVar.calls a0_0 true _ A6.out).mono ?_); rintro e w' ⟨rfl, ⟨nd, rfl⟩⟩) | (go_at_call 22; (with_reducible refine (impl_isVar.calls a0_1 false _ A8.out).mono ?_); rintro e w' ⟨rfl, ⟨nd, rfl⟩⟩))
     go_meet
     case rel => exact ⟨_, (true), z7_3, H', ⟨by first | omega | exact Nat.le_refl _⟩, ⟨by (with_reducible repeat (first | refine blk_drewN ?_ _ | refine blk_drew ?_ | refine blk_alloc ?_ _)); exact BK297.out⟩, ⟨by repeat (first | (with_reducible first | exact HB.out | apply below_alloc | apply pw_below_drewN | apply below_drew1 | refine below_set ?_ GE297.out) | exact HB.out)⟩⟩
   ·replace c7 := Bool.eq_false_iff.mpr c7
    subst c7
    have H1 : ((impl_hasVar.f a0_0).bind fun t302 => (if t302 = true then (impl_StmtOk.j0 k false a0_0 a0_1 a0_2 a0_3 a0_4 a0_5) else (impl_StmtOk.j0 k (a0_1 != 0) a0_0 a0_1 a0_2 a0_3 a0_4 a0_5))) = some r := by rw [if_neg (show ¬ (false = true) by decide)] at H; exact H
    clear H
    have H := H1
    clear H1
    replace H := Option.bind_eq_some_iff.mp H
    obtain ⟨t302, A140, H⟩ := H
    replace H : (if t302 = true then (impl_StmtOk.j0 k false a0_0 a0_1 a0_2 a0_3 a0_4 a0_5) else (impl_StmtOk.j0 k (a0_1 != 0) a0_0 a0_1 a0_2 a0_3 a0_4 a0_5)) = some r := H
    have A14 := Aside0.mk A140
    clear A140
    by_cases c15 : t302 = true
    ·subst c15
     have H1 : (impl_StmtOk.j0 k false a0_0 a0_1 a0_2 a0_3 a0_4 a0_5) = some r := by rw [if_pos rfl] at H; exact H
     clear H
     have H := H1
     clear H1
     exact absurd (A6.out.symm.trans A14.out) (by simp)
    ·replace c15 := Bool.eq_false_iff.mpr c15
     subst c15
     have H1 : (impl_StmtOk.j0 k (a0_1 != 0) a0_0 a0_1 a0_2 a0_3 a0_4 a0_5) = some r := by rw [if_neg (show ¬ (false = true) by decide)] at H; exact H
     clear H
     have H := H1
     clear H1
     have H' := Aside0.mk H
     clear H
     have hcz16_0 : w3.cell? ⟨gb297, 0, none⟩ = some (.int .i64 a0_0) := (blk_cell BK297.out 0).trans rfl
     have hcz16_1 : w3.cell? ⟨gb297, 1, none⟩ = some (.int .i64 a0_1) := (blk_cell BK297.out 1).trans rfl
     have hcz16_2 : w3.cell? ⟨gb297, 2, none⟩ = some (.int .i64 a0_2) := (blk_cell BK297.out 2).trans rfl
     have hcz16_3 : w3.cell? ⟨gb297, 3, none⟩ = some (.int .i64 a0_3) := (blk_cell BK297.out 3).trans rfl
     have hcz16_4 : w3.cell? ⟨gb297, 4, none⟩ = some (.int .i64 a0_4) := (blk_cell BK297.out 4).trans rfl
     have hcz16_5 : w3.cell? ⟨gb297, 5, none⟩ = some (.int .i64 a0_5) := (blk_cell BK297.out 5).trans rfl
     have hfz16_0 := blk_frozen BK297.out 0
     have hfz16_1 := blk_frozen BK297.out 1
     have hfz16_2 := blk_frozen BK297.out 2
     have hfz16_3 := blk_frozen BK297.out 3
     have hfz16_4 := blk_frozen BK297.out 4
     have hfz16_5 := blk_frozen BK297.out 5
     go_wp2_with (first | ((with_reducible refine gate_callee (f := 38) rfl ?_); refine goesL_ (some 5) rfl rfl Try.func38 (by kernel_rfl) rfl #[.int .i64 a0_0, .int .i64 1, .int .i64 6] rfl z7_0 ?_; (with_reducible refine (impl_within.calls a0_0 1 6 true _ A4.out).mono ?_); rintro e w' ⟨rfl, ⟨nd, rfl⟩⟩; refine ⟨_, rfl, ?_⟩) | (go_at_call 71; (with_reducible refine (impl_hasVar.calls a0_0 false _ A6.out).mono ?_); rintro e w' ⟨rfl, ⟨nd, rfl⟩⟩) | (go_at_call 71; (with_reducible refine (impl_hasVar.calls a0_0 false _ A14.out).mono ?_); rintro e w' ⟨rfl, ⟨nd, rfl⟩⟩))
     go_meet
     case rel => exact ⟨_, ((a0_1 != 0)), z7_3, H', ⟨by first | omega | exact Nat.le_refl _⟩, ⟨by (with_reducible repeat (first | refine blk_drewN ?_ _ | refine blk_drew ?_ | refine blk_alloc ?_ _)); exact BK297.out⟩, ⟨by repeat (first | (with_reducible first | exact HB.out | apply below_alloc | apply pw_below_drewN | apply below_drew1 | refine below_set ?_ GE297.out) | exact HB.out)⟩⟩
  ·replace c5 := Bool.eq_false_iff.mpr c5
   subst c5
   have H1 : (impl_StmtOk.j0 k true a0_0 a0_1 a0_2 a0_3 a0_4 a0_5) = some r := by rw [if_neg (show ¬ (false = true) by decide)] at H; exact H
   clear H
   have H := H1
   clear H1
   have H' := Aside0.mk H
   clear H
   have hcz17_0 : w3.cell? ⟨gb297, 0, none⟩ = some (.int .i64 a0_0) := (blk_cell BK297.out 0).trans rfl
   have hcz17_1 : w3.cell? ⟨gb297, 1, none⟩ = some (.int .i64 a0_1) := (blk_cell BK297.out 1).trans rfl
   have hcz17_2 : w3.cell? ⟨gb297, 2, none⟩ = some (.int .i64 a0_2) := (blk_cell BK297.out 2).trans rfl
   have hcz17_3 : w3.cell? ⟨gb297, 3, none⟩ = some (.int .i64 a0_3) := (blk_cell BK297.out 3).trans rfl
   have hcz17_4 : w3.cell? ⟨gb297, 4, none⟩ = some (.int .i64 a0_4) := (blk_cell BK297.out 4).trans rfl
   have hcz17_5 : w3.cell? ⟨gb297, 5, none⟩ = some (.int .i64 a0_5) := (blk_cell BK297.out 5).trans rfl
   have hfz17_0 := blk_frozen BK297.out 0
   have hfz17_1 := blk_frozen BK297.out 1
   have hfz17_2 := blk_frozen BK297.out 2
   have hfz17_3 := blk_frozen BK297.out 3
   have hfz17_4 := blk_frozen BK297.out 4
   have hfz17_5 := blk_frozen BK297.out 5
   go_wp2_with (first | ((with_reducible refine gate_callee (f := 38) rfl ?_); refine goesL_ (some 5) rfl rfl Try.func38 (by kernel_rfl) rfl #[.int .i64 a0_0, .int .i64 1, .int .i64 6] rfl z7_0 ?_; (with_reducible refine (impl_within.calls a0_0 1 6 false _ A4.out).mono ?_); rintro e w' ⟨rfl, ⟨nd, rfl⟩⟩; refine ⟨_, rfl, ?_⟩))
   go_meet
   case rel => exact ⟨_, (true), z7_3, H', ⟨by first | omega | exact Nat.le_refl _⟩, ⟨by (with_reducible repeat (first | refine blk_drewN ?_ _ | refine blk_drew ?_ | refine blk_alloc ?_ _)); exact BK297.out⟩, ⟨by repeat (first | (with_reducible first | exact HB.out | apply below_alloc | apply pw_below_drewN | apply below_drew1 | refine below_set ?_ GE297.out) | exact HB.out)⟩⟩
 case rest =>
  clear HC2
  obtain ⟨kq, x28_1, rfl, HA, HJ1, BK297, HB⟩ := hcut
  cases kq with
  | zero => exact absurd HA.out (by simp [impl_StmtOk.j0])
  | succ kj1 =>
   have H := HA.out
   clear HA
   simp only [impl_StmtOk.j0] at H
   by_cases c18 : x28_1 = true
   ·subst c18
    have H1 : (some false) = some r := by rw [if_pos rfl] at H; exact H
    clear H
    have H := H1
    clear H1
    obtain rfl := Option.some.inj H
    go_wp2
    go_ret
    exact ⟨by first | rfl | (simp [errW_none, errW_some] <;> rfl) | (simp [*, errW_none, errW_some] <;> rfl) | (simp [*, errW_none, errW_some, i64_w]; done), by repeat (first | (with_reducible first | exact HB.out | apply below_alloc | apply pw_below_drewN | apply below_drew1 | refine below_set ?_ GE297.out) | exact HB.out)⟩
   ·replace c18 := Bool.eq_false_iff.mpr c18
    subst c18
    have H1 : ((impl_hasExpr.f a0_0).bind fun t303 => (if t303 = true then ((impl_ExprOk.f a0_3 a0_4 a0_5).bind fun t304 => (if t304 = true then ((impl_hasExpr.f a0_0).bind fun t305 => (if t305 = true then (impl_StmtOk.j1 kj1 false a0_0 a0_1 a0_2 a0_3 a0_4 a0_5) else (impl_StmtOk.j1 kj1 (!(a0_3 == 0) || (!(a0_4 == 0) || (!(a0_5 == 0)))) a0_0 a0_1 a0_2 a0_3 a0_4 a0_5))) else (impl_StmtOk.j1 kj1 true a0_0 a0_1 a0_2 a0_3 a0_4 a0_5))) else ((impl_hasExpr.f a0_0).bind fun t306 => (if t306 = true then (impl_StmtOk.j1 kj1 false a0_0 a0_1 a0_2 a0_3 a0_4 a0_5) else (impl_StmtOk.j1 kj1 (!(a0_3 == 0) || (!(a0_4 == 0) || (!(a0_5 == 0)))) a0_0 a0_1 a0_2 a0_3 a0_4 a0_5))))) = some r := by rw [if_neg (show ¬ (false = true) by decide)] at H; exact H
    clear H
    have H := H1
    clear H1
    have HC19 := Aside0.mk H
    clear H
    go_upto_region 3 with (fail)
    go_cut [49] (fun v49 wc => ∃ (kq : Nat) (x49_18 : Bool), v49 = .bool x49_18 ∧ Aside0 (impl_StmtOk.j1 kq x49_18 a0_0 a0_1 a0_2 a0_3 a0_4 a0_5 = some r) ∧ Aside0 (kq ≤ kj1) ∧ Aside0 (wc.heap[gb297]? = some (.cells #[.int .i64 a0_0, .int .i64 a0_1, .int .i64 a0_2, .int .i64 a0_3, .int .i64 a0_4, .int .i64 a0_5] 55 (0, 0))) ∧ Aside0 (Below w.heap.size w wc))
    case first =>
     have H := HC19.out
     clear HC19
     replace H := Option.bind_eq_some_iff.mp H
     obtain ⟨t303, A200, H⟩ := H
     replace H : (if t303 = true then ((impl_ExprOk.f a0_3 a0_4 a0_5).bind fun t304 => (if t304 = true then ((impl_hasExpr.f a0_0).bind fun t305 => (if t305 = true then (impl_StmtOk.j1 kj1 false a0_0 a0_1 a0_2 a0_3 a0_4 a0_5) else (impl_StmtOk.j1 kj1 (!(a0_3 == 0) || (!(a0_4 == 0) || (!(a0_5 == 0)))) a0_0 a0_1 a0_2 a0_3 a0_4 a0_5))) else (impl_StmtOk.j1 kj1 true a0_0 a0_1 a0_2 a0_3 a0_4 a0_5))) else ((impl_hasExpr.f a0_0).bind fun t306 => (if t306 = true then (impl_StmtOk.j1 kj1 false a0_0 a0_1 a0_2 a0_3 a0_4 a0_5) else (impl_StmtOk.j1 kj1 (!(a0_3 == 0) || (!(a0_4 == 0) || (!(a0_5 == 0)))) a0_0 a0_1 a0_2 a0_3 a0_4 a0_5)))) = some r := H
     have A20 := Aside0.mk A200
     clear A200
     by_cases c21 : t303 = true
     ·subst c21
      have H1 : ((impl_ExprOk.f a0_3 a0_4 a0_5).bind fun t304 => (if t304 = true then ((impl_hasExpr.f a0_0).bind fun t305 => (if t305 = true then (impl_StmtOk.j1 kj1 false a0_0 a0_1 a0_2 a0_3 a0_4 a0_5) else (impl_StmtOk.j1 kj1 (!(a0_3 == 0) || (!(a0_4 == 0) || (!(a0_5 == 0)))) a0_0 a0_1 a0_2 a0_3 a0_4 a0_5))) else (impl_StmtOk.j1 kj1 true a0_0 a0_1 a0_2 a0_3 a0_4 a0_5))) = some r := by rw [if_pos rfl] at H; exact H
      clear H
      have H := H1
      clear H1
      replace H := Option.bind_eq_some_iff.mp H
      obtain ⟨t304, A220, H⟩ := H
      replace H : (if t304 = true then ((impl_hasExpr.f a0_0).bind fun t305 => (if t305 = true then (impl_StmtOk.j1 kj1 false a0_0 a0_1 a0_2 a0_3 a0_4 a0_5) else (impl_StmtOk.j1 kj1 (!(a0_3 == 0) || (!(a0_4 == 0) || (!(a0_5 == 0)))) a0_0 a0_1 a0_2 a0_3 a0_4 a0_5))) else (impl_StmtOk.j1 kj1 true a0_0 a0_1 a0_2 a0_3 a0_4 a0_5)) = some r := H
      have A22 := Aside0.mk A220
      clear A220
      by_cases c23 : t304 = true
      ·subst c23
       have H1 : ((impl_hasExpr.f a0_0).bind fun t305 => (if t305 = true then (impl_StmtOk.j1 kj1 false a0_0 a0_1 a0_2 a0_3 a0_4 a0_5) else (impl_StmtOk.j1 kj1 (!(a0_3 == 0) || (!(a0_4 == 0) || (!(a0_5 == 0)))) a0_0 a0_1 a0_2 a0_3 a0_4 a0_5))) = some r := by rw [if_pos rfl] at H; exact H
       clear H
       have H := H1
       clear H1
       replace H := Option.bind_eq_some_iff.mp H
       obtain ⟨t305, A240, H⟩ := H
       replace H : (if t305 = true then (impl_StmtOk.j1 kj1 false a0_0 a0_1 a0_2 a0_3 a0_4 a0_5) else (impl_StmtOk.j1 kj1 (!(a0_3 == 0) || (!(a0_4 == 0) || (!(a0_5 == 0)))) a0_0 a0_1 a0_2 a0_3 a0_4 a0_5)) = some r := H
       have A24 := Aside0.mk A240
       clear A240
       by_cases c25 : t305 = true
       ·subst c25
        have H1 : (impl_StmtOk.j1 kj1 false a0_0 a0_1 a0_2 a0_3 a0_4 a0_5) = some r := by rw [if_pos rfl] at H; exact H
        clear H
        have H := H1
        clear H1
        have H' := Aside0.mk H
        clear H
        have hcz26_0 : wc.cell? ⟨gb297, 0, none⟩ = some (.int .i64 a0_0) := (blk_cell BK297.out 0).trans rfl
        have hcz26_1 : wc.cell? ⟨gb297, 1, none⟩ = some (.int .i64 a0_1) := (blk_cell BK297.out 1).trans rfl
        have hcz26_2 : wc.cell? ⟨gb297, 2, none⟩ = some (.int .i64 a0_2) := (blk_cell BK297.out 2).trans rfl
        have hcz26_3 : wc.cell? ⟨gb297, 3, none⟩ = some (.int .i64 a0_3) := (blk_cell BK297.out 3).trans rfl
        have hcz26_4 : wc.cell? ⟨gb297, 4, none⟩ = some (.int .i64 a0_4) := (blk_cell BK297.out 4).trans rfl
        have hcz26_5 : wc.cell? ⟨gb297, 5, none⟩ = some (.int .i64 a0_5) := (blk_cell BK297.out 5).trans rfl
        have hfz26_0 := blk_frozen BK297.out 0
        have hfz26_1 := blk_frozen BK297.out 1
        have hfz26_2 := blk_frozen BK297.out 2
        have hfz26_3 := blk_frozen BK297.out 3
        have hfz26_4 := blk_frozen BK297.out 4
        have hfz26_5 := blk_frozen BK297.out 5
        go_wp2_with (first | ((with_reducible refine gate_callee (f := 72) rfl ?_); refine goesL_ (some 31) rfl rfl Try.func72 (by kernel_rfl) rfl #[.int .i64 a0_0] rfl z7_0 ?_; (with_reducible refine (impl_hasExpr.calls a0_0 true _ A20.out).mono ?_); rintro e w' ⟨rfl, ⟨nd, rfl⟩⟩; refine ⟨_, rfl, ?_⟩) | (go_at_call 37; (with_reducible refine (impl_ExprOk.calls a0_3 a0_4 a0_5 true _ A22.out).mono ?_); rintro e w27 ⟨rfl, hb⟩; have n0_ := Aside0.mk (blk_below (g := gb297) (o := .cells #[.int .i64 a0_0, .int .i64 a0_1, .int .i64 a0_2, .int .i64 a0_3, .int .i64 a0_4, .int .i64 a0_5] 55 (0, 0)) (by (with_reducible repeat (first | refine blk_drewN ?_ _ | refine blk_drew ?_ | refine blk_alloc ?_ _)); exact BK297.out) hb); have n1_ := Aside0.mk (below_step (by repeat (first | (with_reducible first | exact HB.out | apply below_alloc | apply pw_below_drewN | apply below_drew1 | refine below_set ?_ GE297.out) | exact HB.out)) hb); clear BK297; clear HB; have BK297 := n0_; have HB := n1_; clear n0_ n1_; (try clear hb); (try clear hb2); (try clear hk); (try clear hi); have hcz28_0 : w27.cell? ⟨gb297, 0, none⟩ = some (.int .i64 a0_0) := (blk_cell BK297.out 0).trans rfl; have hcz28_1 : w27.cell? ⟨gb297, 1, none⟩ = some (.int .i64 a0_1) := (blk_cell BK297.out 1).trans rfl; have hcz28_2 : w27.cell? ⟨gb297, 2, none⟩ = some (.int .i64 a0_2) := (blk_cell BK297.out 2).trans rfl; have hcz28_3 : w27.cell? ⟨gb297, 3, none⟩ = some (.int .i64 a0_3) := (blk_cell BK297.out 3).trans rfl; have hcz28_4 : w27.cell? ⟨gb297, 4, none⟩ = some (.int .i64 a0_4) := (blk_cell BK297.out 4).trans rfl; have hcz28_5 : w27.cell? ⟨gb297, 5, none⟩ = some (.int .i64 a0_5) := (blk_cell BK297.out 5).trans rfl; have hfz28_0 := blk_frozen BK297.out 0; have hfz28_1 := blk_frozen BK297.out 1; have hfz28_2 := blk_frozen BK297.out 2; have hfz28_3 := blk_frozen BK297.out 3; have hfz28_4 := blk_frozen BK297.out 4; have hfz28_5 := blk_frozen BK297.out 5) | (go_at_call 72; (with_reducible refine (impl_hasExpr.calls a0_0 true _ A24.out).mono ?_); rintro e w' ⟨rfl, ⟨nd, rfl⟩⟩))
        go_meet
        case rel => exact ⟨_, (false), z7_3, H', ⟨by have := HJ1.out; first | omega | exact Nat.le_refl _⟩, ⟨by (with_reducible repeat (first | refine blk_drewN ?_ _ | refine blk_drew ?_ | refine blk_alloc ?_ _)); exact BK297.out⟩, ⟨by repeat (first | (with_reducible first | exact HB.out | apply below_alloc | apply pw_below_drewN | apply below_drew1 | refine below_set ?_ GE297.out) | exact HB.out)⟩⟩
       ·replace c25 := Bool.eq_false_iff.mpr c25
        subst c25
        have H1 : (impl_StmtOk.j1 kj1 (!(a0_3 == 0) || (!(a0_4 == 0) || (!(a0_5 == 0)))) a0_0 a0_1 a0_2 a0_3 a0_4 a0_5) = some r := by rw [if_neg (show ¬ (false = true) by decide)] at H; exact H
        clear H
        have H := H1
        clear H1
        exact absurd (A20.out.symm.trans A24.out) (by simp)
      ·replace c23 := Bool.eq_false_iff.mpr c23
       subst c23
       have H1 : (impl_StmtOk.j1 kj1 true a0_0 a0_1 a0_2 a0_3 a0_4 a0_5) = some r := by rw [if_neg (show ¬ (false = true) by decide)] at H; exact H
       clear H
       have H := H1
       clear H1
       have H' := Aside0.mk H
       clear H
       have hcz29_0 : wc.cell? ⟨gb297, 0, none⟩ = some (.int .i64 a0_0) := (blk_cell BK297.out 0).trans rfl
       have hcz29_1 : wc.cell? ⟨gb297, 1, none⟩ = some (.int .i64 a0_1) := (blk_cell BK297.out 1).trans rfl
       have hcz29_2 : wc.cell? ⟨gb297, 2, none⟩ = some (.int .i64 a0_2) := (blk_cell BK297.out 2).trans rfl
       have hcz29_3 : wc.cell? ⟨gb297, 3, none⟩ = some (.int .i64 a0_3) := (blk_cell BK297.out 3).trans rfl
       have hcz29_4 : wc.cell? ⟨gb297, 4, none⟩ = some (.int .i64 a0_4) := (blk_cell BK297.out 4).trans rfl
       have hcz29_5 : wc.cell? ⟨gb297, 5, none⟩ = some (.int .i64 a0_5) := (blk_cell BK297.out 5).trans rfl
       have hfz29_0 := blk_frozen BK297.out 0
       have hfz29_1 := blk_frozen BK297.out 1
       have hfz29_2 := blk_frozen BK297.out 2
       have hfz29_3 := blk_frozen BK297.out 3
       have hfz29_4 := blk_frozen BK297.out 4
       have hfz29_5 := blk_frozen BK297.out 5
       go_wp2_with (first | ((with_reducible refine gate_callee (f := 72) rfl ?_); refine goesL_ (some 31) rfl rfl Try.func72 (by kernel_rfl) rfl #[.int .i64 a0_0] rfl z7_0 ?_; (with_reducible refine (impl_hasExpr.calls a0_0 true _ A20.out).mono ?_); rintro e w' ⟨rfl, ⟨nd, rfl⟩⟩; refine ⟨_, rfl, ?_⟩) | (go_at_call 37; (with_reducible refine (impl_ExprOk.calls a0_3 a0_4 a0_5 false _ A22.out).mono ?_); rintro e w30 ⟨rfl, hb⟩; have n0_ := Aside0.mk (blk_below (g := gb297) (o := .cells #[.int .i64 a0_0, .int .i64 a0_1, .int .i64 a0_2, .int .i64 a0_3, .int .i64 a0_4, .int .i64 a0_5] 55 (0, 0)) (by (with_reducible repeat (first | refine blk_drewN ?_ _ | refine blk_drew ?_ | refine blk_alloc ?_ _)); exact BK297.out) hb); have n1_ := Aside0.mk (below_step (by repeat (first | (with_reducible first | exact HB.out | apply below_alloc | apply pw_below_drewN | apply below_drew1 | refine below_set ?_ GE297.out) | exact HB.out)) hb); clear BK297; clear HB; have BK297 := n0_; have HB := n1_; clear n0_ n1_; (try clear hb); (try clear hb2); (try clear hk); (try clear hi)))
       go_meet
       case rel => exact ⟨_, (true), z7_3, H', ⟨by have := HJ1.out; first | omega | exact Nat.le_refl _⟩, ⟨by (with_reducible repeat (first | refine blk_drewN ?_ _ | refine blk_drew ?_ | refine blk_alloc ?_ _)); exact BK297.out⟩, ⟨by repeat (first | (with_reducible first | exact HB.out | apply below_alloc | apply pw_below_drewN | apply below_drew1 | refine below_set ?_ GE297.out) | exact HB.out)⟩⟩
     ·replace c21 := Bool.eq_false_iff.mpr c21
      subst c21
      have H1 : ((impl_hasExpr.f a0_0).bind fun t306 => (if t306 = true then (impl_StmtOk.j1 kj1 false a0_0 a0_1 a0_2 a0_3 a0_4 a0_5) else (impl_StmtOk.j1 kj1 (!(a0_3 == 0) || (!(a0_4 == 0) || (!(a0_5 == 0)))) a0_0 a0_1 a0_2 a0_3 a0_4 a0_5))) = some r := by rw [if_neg (show ¬ (false = true) by decide)] at H; exact H
      clear H
      have H := H1
      clear H1
      replace H := Option.bind_eq_some_iff.mp H
      obtain ⟨t306, A310, H⟩ := H
      replace H : (if t306 = true then (impl_StmtOk.j1 kj1 false a0_0 a0_1 a0_2 a0_3 a0_4 a0_5) else (impl_StmtOk.j1 kj1 (!(a0_3 == 0) || (!(a0_4 == 0) || (!(a0_5 == 0)))) a0_0 a0_1 a0_2 a0_3 a0_4 a0_5)) = some r := H
      have A31 := Aside0.mk A310
      clear A310
      by_cases c32 : t306 = true
      ·subst c32
       have H1 : (impl_StmtOk.j1 kj1 false a0_0 a0_1 a0_2 a0_3 a0_4 a0_5) = some r := by rw [if_pos rfl] at H; exact H
       clear H
       have H := H1
       clear H1
       exact absurd (A20.out.symm.trans A31.out) (by simp)
      ·replace c32 := Bool.eq_false_iff.mpr c32
       subst c32
       have H1 : (impl_StmtOk.j1 kj1 (!(a0_3 == 0) || (!(a0_4 == 0) || (!(a0_5 == 0)))) a0_0 a0_1 a0_2 a0_3 a0_4 a0_5) = some r := by rw [if_neg (show ¬ (false = true) by decide)] at H; exact H
       clear H
       have H := H1
       clear H1
       have H' := Aside0.mk H
       clear H
       have hcz33_0 : wc.cell? ⟨gb297, 0, none⟩ = some (.int .i64 a0_0) := (blk_cell BK297.out 0).trans rfl
       have hcz33_1 : wc.cell? ⟨gb297, 1, none⟩ = some (.int .i64 a0_1) := (blk_cell BK297.out 1).trans rfl
       have hcz33_2 : wc.cell? ⟨gb297, 2, none⟩ = some (.int .i64 a0_2) := (blk_cell BK297.out 2).trans rfl
       have hcz33_3 : wc.cell? ⟨gb297, 3, none⟩ = some (.int .i64 a0_3) := (blk_cell BK297.out 3).trans rfl
       have hcz33_4 : wc.cell? ⟨gb297, 4, none⟩ = some (.int .i64 a0_4) := (blk_cell BK297.out 4).trans rfl
       have hcz33_5 : wc.cell? ⟨gb297, 5, none⟩ = some (.int .i64 a0_5) := (blk_cell BK297.out 5).trans rfl
       have hfz33_0 := blk_frozen BK297.out 0
       have hfz33_1 := blk_frozen BK297.out 1
       have hfz33_2 := blk_frozen BK297.out 2
       have hfz33_3 := blk_frozen BK297.out 3
       have hfz33_4 := blk_frozen BK297.out 4
       have hfz33_5 := blk_frozen BK297.out 5
       go_wp2_with (first | ((with_reducible refine gate_callee (f := 72) rfl ?_); refine goesL_ (some 31) rfl rfl Try.func72 (by kernel_rfl) rfl #[.int .i64 a0_0] rfl z7_0 ?_; (with_reducible refine (impl_hasExpr.calls a0_0 false _ A20.out).mono ?_); rintro e w' ⟨rfl, ⟨nd, rfl⟩⟩; refine ⟨_, rfl, ?_⟩) | (go_at_call 72; (with_reducible refine (impl_hasExpr.calls a0_0 false _ A31.out).mono ?_); rintro e w' ⟨rfl, ⟨nd, rfl⟩⟩))
       go_meet
       case rel => exact ⟨_, ((!(a0_3 == 0) || (!(a0_4 == 0) || (!(a0_5 == 0))))), z7_3, H', ⟨by have := HJ1.out; first | omega | exact Nat.le_refl _⟩, ⟨by (with_reducible repeat (first | refine blk_drewN ?_ _ | refine blk_drew ?_ | refine blk_alloc ?_ _)); exact BK297.out⟩, ⟨by repeat (first | (with_reducible first | exact HB.out | apply below_alloc | apply pw_below_drewN | apply below_drew1 | refine below_set ?_ GE297.out) | exact HB.out)⟩⟩
    case rest =>
     clear HC19
     (try clear c18)
     obtain ⟨kq, x49_18, rfl, HA, HJ18, BK297, HB⟩ := hcut
     cases kq with
     | zero => exact absurd HA.out (by simp [impl_StmtOk.j1])
     | succ kj18 =>
      have H := HA.out
      clear HA
      simp only [impl_StmtOk.j1] at H
      by_cases c34 : x49_18 = true
      ·subst c34
       have H1 : (some false) = some r := by rw [if_pos rfl] at H; exact H
       clear H
       have H := H1
       clear H1
       obtain rfl := Option.some.inj H
       go_wp2
       go_ret
       exact ⟨by first | rfl | (simp [errW_none, errW_some] <;> rfl) | (simp [*, errW_none, errW_some] <;> rfl) | (simp [*, errW_none, errW_some, i64_w]; done), by repeat (first | (with_reducible first | exact HB.out | apply below_alloc | apply pw_below_drewN | apply below_drew1 | refine below_set ?_ GE297.out) | exact HB.out)⟩
      ·replace c34 := Bool.eq_false_iff.mpr c34
       subst c34
       have H1 : (if a0_0 = 2 then ((impl_isSensor.f a0_2).bind fun t307 => (some t307)) else (if a0_0 = 5 then ((impl_within.f a0_2 1 5).bind fun t308 => (some t308)) else (some (a0_2 == 0)))) = some r := by rw [if_neg (show ¬ (false = true) by decide)] at H; exact H
       clear H
       have H := H1
       clear H1
       by_cases c35 : a0_0 = 2
       ·rw [if_pos c35] at H
        have c35b0 : (a0_0 == 2) = true := beq_iff_eq.mpr c35
        have c35b1 : (a0_0 != 2) = false := bne_eq_false_iff_eq.mpr c35
        clear c35
        replace H := Option.bind_eq_some_iff.mp H
        obtain ⟨t307, A360, H⟩ := H
        replace H : (some t307) = some r := H
        have A36 := Aside0.mk A360
        clear A360
        obtain rfl := Option.some.inj H
        have hcz37_0 : wc.cell? ⟨gb297, 0, none⟩ = some (.int .i64 a0_0) := (blk_cell BK297.out 0).trans rfl
        have hcz37_1 : wc.cell? ⟨gb297, 1, none⟩ = some (.int .i64 a0_1) := (blk_cell BK297.out 1).trans rfl
        have hcz37_2 : wc.cell? ⟨gb297, 2, none⟩ = some (.int .i64 a0_2) := (blk_cell BK297.out 2).trans rfl
        have hcz37_3 : wc.cell? ⟨gb297, 3, none⟩ = some (.int .i64 a0_3) := (blk_cell BK297.out 3).trans rfl
        have hcz37_4 : wc.cell? ⟨gb297, 4, none⟩ = some (.int .i64 a0_4) := (blk_cell BK297.out 4).trans rfl
        have hcz37_5 : wc.cell? ⟨gb297, 5, none⟩ = some (.int .i64 a0_5) := (blk_cell BK297.out 5).trans rfl
        have hfz37_0 := blk_frozen BK297.out 0
        have hfz37_1 := blk_frozen BK297.out 1
        have hfz37_2 := blk_frozen BK297.out 2
        have hfz37_3 := blk_frozen BK297.out 3
        have hfz37_4 := blk_frozen BK297.out 4
        have hfz37_5 := blk_frozen BK297.out 5
        go_wp2_with (first | ((with_reducible refine gate_callee (f := 73) rfl ?_); refine goesL_ (some 56) rfl rfl Try.func73 (by kernel_rfl) rfl #[.int .i64 a0_2] rfl z7_0 ?_; (with_reducible refine (impl_isSensor.calls a0_2 t307 _ A36.out).mono ?_); rintro e w' ⟨rfl, ⟨nd, rfl⟩⟩; refine ⟨_, rfl, ?_⟩))
        go_ret
        exact ⟨by first | rfl | (simp [errW_none, errW_some] <;> rfl) | (simp [*, errW_none, errW_some] <;> rfl) | (simp [*, errW_none, errW_some, i64_w]; done), by repeat (first | (with_reducible first | exact HB.out | apply below_alloc | apply pw_below_drewN | apply below_drew1 | refine below_set ?_ GE297.out) | exact HB.out)⟩
       ·rw [if_neg c35] at H
        have c35b0 : (a0_0 == 2) = false := beq_eq_false_iff_ne.mpr c35
        have c35b1 : (a0_0 != 2) = true := bne_iff_ne.mpr c35
        by_cases c38 : a0_0 = 5
        ·rw [if_pos c38] at H
         have c38b0 : (a0_0 == 5) = true := beq_iff_eq.mpr c38
         have c38b1 : (a0_0 != 5) = false := bne_eq_false_iff_eq.mpr c38
         clear c38
         replace H := Option.bind_eq_some_iff.mp H
         obtain ⟨t308, A390, H⟩ := H
         replace H : (some t308) = some r := H
         have A39 := Aside0.mk A390
         clear A390
         obtain rfl := Option.some.inj H
         have hcz40_0 : wc.cell? ⟨gb297, 0, none⟩ = some (.int .i64 a0_0) := (blk_cell BK297.out 0).trans rfl
         have hcz40_1 : wc.cell? ⟨gb297, 1, none⟩ = some (.int .i64 a0_1) := (blk_cell BK297.out 1).trans rfl
         have hcz40_2 : wc.cell? ⟨gb297, 2, none⟩ = some (.int .i64 a0_2) := (blk_cell BK297.out 2).trans rfl
         have hcz40_3 : wc.cell? ⟨gb297, 3, none⟩ = some (.int .i64 a0_3) := (blk_cell BK297.out 3).trans rfl
         have hcz40_4 : wc.cell? ⟨gb297, 4, none⟩ = some (.int .i64 a0_4) := (blk_cell BK297.out 4).trans rfl
         have hcz40_5 : wc.cell? ⟨gb297, 5, none⟩ = some (.int .i64 a0_5) := (blk_cell BK297.out 5).trans rfl
         have hfz40_0 := blk_frozen BK297.out 0
         have hfz40_1 := blk_frozen BK297.out 1
         have hfz40_2 := blk_frozen BK297.out 2
         have hfz40_3 := blk_frozen BK297.out 3
         have hfz40_4 := blk_frozen BK297.out 4
         have hfz40_5 := blk_frozen BK297.out 5
         go_wp2_with (first | ((with_reducible refine gate_callee (f := 38) rfl ?_); refine goesL_ (some 61) rfl rfl Try.func38 (by kernel_rfl) rfl #[.int .i64 a0_2, .int .i64 1, .int .i64 5] rfl z7_0 ?_; (with_reducible refine (impl_within.calls a0_2 1 5 t308 _ A39.out).mono ?_); rintro e w' ⟨rfl, ⟨nd, rfl⟩⟩; refine ⟨_, rfl, ?_⟩))
         go_ret
         exact ⟨by first | rfl | (simp [errW_none, errW_some] <;> rfl) | (simp [*, errW_none, errW_some] <;> rfl) | (simp [*, errW_none, errW_some, i64_w]; done), by repeat (first | (with_reducible first | exact HB.out | apply below_alloc | apply pw_below_drewN | apply below_drew1 | refine below_set ?_ GE297.out) | exact HB.out)⟩
        ·rw [if_neg c38] at H
         have c38b0 : (a0_0 == 5) = false := beq_eq_false_iff_ne.mpr c38
         have c38b1 : (a0_0 != 5) = true := bne_iff_ne.mpr c38
         obtain rfl := Option.some.inj H
         have hcz41_0 : wc.cell? ⟨gb297, 0, none⟩ = some (.int .i64 a0_0) := (blk_cell BK297.out 0).trans rfl
         have hcz41_1 : wc.cell? ⟨gb297, 1, none⟩ = some (.int .i64 a0_1) := (blk_cell BK297.out 1).trans rfl
         have hcz41_2 : wc.cell? ⟨gb297, 2, none⟩ = some (.int .i64 a0_2) := (blk_cell BK297.out 2).trans rfl
         have hcz41_3 : wc.cell? ⟨gb297, 3, none⟩ = some (.int .i64 a0_3) := (blk_cell BK297.out 3).trans rfl
         have hcz41_4 : wc.cell? ⟨gb297, 4, none⟩ = some (.int .i64 a0_4) := (blk_cell BK297.out 4).trans rfl
         have hcz41_5 : wc.cell? ⟨gb297, 5, none⟩ = some (.int .i64 a0_5) := (blk_cell BK297.out 5).trans rfl
         have hfz41_0 := blk_frozen BK297.out 0
         have hfz41_1 := blk_frozen BK297.out 1
         have hfz41_2 := blk_frozen BK297.out 2
         have hfz41_3 := blk_frozen BK297.out 3
         have hfz41_4 := blk_frozen BK297.out 4
         have hfz41_5 := blk_frozen BK297.out 5
         go_wp2
         go_ret
         exact ⟨by first | rfl | (simp [errW_none, errW_some] <;> rfl) | (simp [*, errW_none, errW_some] <;> rfl) | (simp [*, errW_none, errW_some, i64_w]; done), by repeat (first | (with_reducible first | exact HB.out | apply below_alloc | apply pw_below_drewN | apply below_drew1 | refine below_set ?_ GE297.out) | exact HB.out)⟩
/-! ### impl_BlockOk: function 36 -/
mutual
def impl_BlockOk.l0 : Nat → List (S55) → Int → List (S55) → Int → Int → Option (Bool)
 | 0, _, _, _, _, _ => none
 | k + 1, x0, x3, x6, x7, x8 => if x8 < x7 then (if 0 ≤ x8 then (if x8 < (x6.length : Int) then ((impl_StmtOk.f k ((rd_T55 x6 x8).f0) ((rd_T55 x6 x8).f1) ((rd_T55 x6 x8).f2) ((rd_T55 x6 x8).f3.f0) ((rd_T55 x6 x8).f3.f1) ((rd_T55 x6 x8).f3.f2)).bind fun t311 => (if t311 = true then ((impl_isOpening.f ((rd_T55 x6 x8).f0)).bind fun t312 => (if t312 = true then (impl_BlockOk.j1 k x0 (wrap64 (x3 + 1)) x6 x7 x8 ((rd_T55 x6 x8).f0) ((rd_T55 x6 x8).f1) ((rd_T55 x6 x8).f2) ((rd_T55 x6 x8).f3.f0) ((rd_T55 x6 x8).f3.f1) ((rd_T55 x6 x8).f3.f2)) else (impl_BlockOk.j1 k x0 x3 x6 x7 x8 ((rd_T55 x6 x8).f0) ((rd_T55 x6 x8).f1) ((rd_T55 x6 x8).f2) ((rd_T55 x6 x8).f3.f0) ((rd_T55 x6 x8).f3.f1) ((rd_T55 x6 x8).f3.f2)))) else (some false))) else (none)) else (none)) else (if x3 = 0 then (some (decide ((x0.length : Int) ≤ 24))) else (some false))
def impl_BlockOk.j1 : Nat → List (S55) → Int → List (S55) → Int → Int → Int → Int → Int → Int → Int → Int → Option (Bool)
 | 0, _, _, _, _, _, _, _, _, _, _, _ => none
 | k + 1, x0, x3, x6, x7, x8, x311000, x311001, x311002, x311003, x311004, x311005 => if x311000 = 6 then (if (wrap64 (x3 - 1)) < 0 then (some false) else (if (wrap64 (x3 - 1)) > 3 then (some false) else (impl_BlockOk.l0 k x0 (wrap64 (x3 - 1)) x6 x7 (wrap64 (x8 + 1))))) else (if x3 < 0 then (some false) else (if x3 > 3 then (some false) else (impl_BlockOk.l0 k x0 x3 x6 x7 (wrap64 (x8 + 1)))))
end
def impl_BlockOk.f (k : Nat) (l0 : List (S55)) : Option (Bool) := impl_BlockOk.l0 k l0 0 l0 (l0.length : Int) 0
theorem impl_BlockOk.mono_l : ∀ k, (∀ y0 y1 y2 y3 y4, LeO (impl_BlockOk.l0 k y0 y1 y2 y3 y4) (impl_BlockOk.l0 (k + 1) y0 y1 y2 y3 y4)) ∧ (∀ y0 y1 y2 y3 y4 y5 y6 y7 y8 y9 y10, LeO (impl_BlockOk.j1 k y0 y1 y2 y3 y4 y5 y6 y7 y8 y9 y10) (impl_BlockOk.j1 (k + 1) y0 y1 y2 y3 y4 y5 y6 y7 y8 y9 y10))
 | 0 => ⟨fun _ _ _ _ _ r h => by simp [impl_BlockOk.l0] at h, fun _ _ _ _ _ _ _ _ _ _ _ r h => by simp [impl_BlockOk.j1] at h⟩
 | k + 1 => by
  obtain ⟨ih0, ih1⟩ := impl_BlockOk.mono_l k
  refine ⟨?_, ?_⟩
  ·intro y0 y1 y2 y3 y4
   unfold impl_BlockOk.l0
   repeat' first
   | (with_reducible exact ih0 _ _ _ _ _)
   | (with_reducible exact ih1 _ _ _ _ _ _ _ _ _ _ _)
   | (with_reducible exact impl_StmtOk.mono _ _ _ _ _ _ _)
   | (with_reducible exact LeO.refl _)
   | (with_reducible exact LeO.none _)
   | (with_reducible refine LeO.ite ?_ ?_)
   | (with_reducible refine LeO.bind ?_ (fun _ => ?_))
   | exact ih0 _ _ _ _ _
   | exact ih1 _ _ _ _ _ _ _ _ _ _ _
   | exact impl_StmtOk.mono _ _ _ _ _ _ _
   | exact LeO.none _
   | refine LeO.ite ?_ ?_
   | refine LeO.bind ?_ (fun _ => ?_)
  ·intro y0 y1 y2 y3 y4 y5 y6 y7 y8 y9 y10
   unfold impl_BlockOk.j1
   repeat' first
   | (with_reducible exact ih0 _ _ _ _ _)
   | (with_reducible exact ih1 _ _ _ _ _ _ _ _ _ _ _)
   | (with_reducible exact impl_StmtOk.mono _ _ _ _ _ _ _)
   | (with_reducible exact LeO.refl _)
   | (with_reducible exact LeO.none _)
   | (with_reducible refine LeO.ite ?_ ?_)
   | (with_reducible refine LeO.bind ?_ (fun _ => ?_))
   | exact ih0 _ _ _ _ _
   | exact ih1 _ _ _ _ _ _ _ _ _ _ _
   | exact impl_StmtOk.mono _ _ _ _ _ _ _
   | exact LeO.none _
   | refine LeO.ite ?_ ?_
   | refine LeO.bind ?_ (fun _ => ?_)
theorem impl_BlockOk.mono : ∀ a0 k, LeO (impl_BlockOk.f k a0) (impl_BlockOk.f (k + 1) a0) := by
 intro a0 k
 obtain ⟨ih0, ih1⟩ := impl_BlockOk.mono_l k
 unfold impl_BlockOk.f
 repeat' first
   | (with_reducible exact ih0 _ _ _ _ _)
   | (with_reducible exact ih1 _ _ _ _ _ _ _ _ _ _ _)
   | (with_reducible exact impl_StmtOk.mono _ _ _ _ _ _ _)
   | (with_reducible exact LeO.refl _)
   | (with_reducible exact LeO.none _)
   | (with_reducible refine LeO.ite ?_ ?_)
   | (with_reducible refine LeO.bind ?_ (fun _ => ?_))
   | exact ih0 _ _ _ _ _
   | exact ih1 _ _ _ _ _ _ _ _ _ _ _
   | exact impl_StmtOk.mono _ _ _ _ _ _ _
   | exact LeO.none _
   | refine LeO.ite ?_ ?_
   | refine LeO.bind ?_ (fun _ => ?_)
set_option maxHeartbeats 8000000 in
set_option maxRecDepth 100000 in
theorem impl_BlockOk.calls (k : Nat) (A0 : Option Addr) (c0 : Nat) (l0 : List (S55)) (r : Bool) (w : World) (hr0 : Kd.C k55 w A0 l0.length l0) (hc0 : l0.length ≤ c0) (h : impl_BlockOk.f k l0 = some r) :
  Calls Try.prog 36 #[.slice A0 l0.length c0] w fun e w' => e = .returned (.bool r) ∧ Below w.heap.size w w' := by
 have hu55 := Try.underlying55
 have HR0 := Aside0.mk hr0
 have HC0 := Aside0.mk hc0
 clear hr0 hc0
 have HB := Aside0.mk (Below.refl w.heap.size w)
 have H : (impl_BlockOk.l0 k l0 0 l0 (l0.length : Int) 0) = some r := h
 clear h
 have H' := Aside0.mk H
 clear H
 go_enter Try.func36, Try.ntmps36
 go_wp2
 go_loopg [3, 8] k (fun kq v3 v8 w' => ∃ (x3_1 : Int) (x8_1 : Int), v3 = .int .i64 x3_1 ∧ v8 = .int .i64 x8_1 ∧ Aside0 (impl_BlockOk.l0 kq l0 x3_1 l0 (l0.length : Int) x8_1 = some r) ∧ Aside0 (kq ≤ k) ∧ Aside0 (Below w.heap.size w w'))
 case atStart => exact ⟨(0), (0), z7_3, z7_3, H', ⟨Nat.le_refl _⟩, ⟨by repeat (first | (with_reducible first | exact HB.out | apply below_alloc | apply pw_below_drewN | apply below_drew1) | exact HB.out)⟩⟩
 case round =>
  clear H'
  obtain ⟨x3_1, x8_1, rfl, rfl, HA, HK1, HB⟩ := hrel
  cases gk with
  | zero => exact absurd HA.out (by simp [impl_BlockOk.l0])
  | succ k1 =>
   have H := HA.out
   clear HA
   simp only [impl_BlockOk.l0] at H
   by_cases c2 : x8_1 < (l0.length : Int)
   ·rw [if_pos c2] at H
    have c2b0 : decide (x8_1 < (l0.length : Int)) = true := decide_eq_true c2
    clear c2
    by_cases c3 : 0 ≤ x8_1
    ·rw [if_pos c3] at H
     have c3b0 : decide (0 ≤ x8_1) = true := decide_eq_true c3
     clear c3
     by_cases c4 : x8_1 < (l0.length : Int)
     ·rw [if_pos c4] at H
      have c4b0 : decide (x8_1 < (l0.length : Int)) = true := decide_eq_true c4
      clear c4
      replace H := Option.bind_eq_some_iff.mp H
      obtain ⟨t311, A50, H⟩ := H
      replace H : (if t311 = true then ((impl_isOpening.f ((rd_T55 l0 x8_1).f0)).bind fun t312 => (if t312 = true then (impl_BlockOk.j1 k1 l0 (wrap64 (x3_1 + 1)) l0 (l0.length : Int) x8_1 ((rd_T55 l0 x8_1).f0) ((rd_T55 l0 x8_1).f1) ((rd_T55 l0 x8_1).f2) ((rd_T55 l0 x8_1).f3.f0) ((rd_T55 l0 x8_1).f3.f1) ((rd_T55 l0 x8_1).f3.f2)) else (impl_BlockOk.j1 k1 l0 x3_1 l0 (l0.length : Int) x8_1 ((rd_T55 l0 x8_1).f0) ((rd_T55 l0 x8_1).f1) ((rd_T55 l0 x8_1).f2) ((rd_T55 l0 x8_1).f3.f0) ((rd_T55 l0 x8_1).f3.f1) ((rd_T55 l0 x8_1).f3.f2)))) else (some false)) = some r := H
      have A5 := Aside0.mk A50
      clear A50
      by_cases c6 : t311 = true
      ·subst c6
       have H1 : ((impl_isOpening.f ((rd_T55 l0 x8_1).f0)).bind fun t312 => (if t312 = true then (impl_BlockOk.j1 k1 l0 (wrap64 (x3_1 + 1)) l0 (l0.length : Int) x8_1 ((rd_T55 l0 x8_1).f0) ((rd_T55 l0 x8_1).f1) ((rd_T55 l0 x8_1).f2) ((rd_T55 l0 x8_1).f3.f0) ((rd_T55 l0 x8_1).f3.f1) ((rd_T55 l0 x8_1).f3.f2)) else (impl_BlockOk.j1 k1 l0 x3_1 l0 (l0.length : Int) x8_1 ((rd_T55 l0 x8_1).f0) ((rd_T55 l0 x8_1).f1) ((rd_T55 l0 x8_1).f2) ((rd_T55 l0 x8_1).f3.f0) ((rd_T55 l0 x8_1).f3.f1) ((rd_T55 l0 x8_1).f3.f2)))) = some r := by rw [if_pos rfl] at H; exact H
       clear H
       have H := H1
       clear H1
       replace H := Option.bind_eq_some_iff.mp H
       obtain ⟨t312, A70, H⟩ := H
       replace H : (if t312 = true then (impl_BlockOk.j1 k1 l0 (wrap64 (x3_1 + 1)) l0 (l0.length : Int) x8_1 ((rd_T55 l0 x8_1).f0) ((rd_T55 l0 x8_1).f1) ((rd_T55 l0 x8_1).f2) ((rd_T55 l0 x8_1).f3.f0) ((rd_T55 l0 x8_1).f3.f1) ((rd_T55 l0 x8_1).f3.f2)) else (impl_BlockOk.j1 k1 l0 x3_1 l0 (l0.length : Int) x8_1 ((rd_T55 l0 x8_1).f0) ((rd_T55 l0 x8_1).f1) ((rd_T55 l0 x8_1).f2) ((rd_T55 l0 x8_1).f3.f0) ((rd_T55 l0 x8_1).f3.f1) ((rd_T55 l0 x8_1).f3.f2))) = some r := H
       have A7 := Aside0.mk A70
       clear A70
       have HC8 := Aside0.mk H
       clear H
       have p309 : 0 ≤ (x8_1 : Int) := of_decide_eq_true z7_6
       have q309 : x8_1 < (l0.length : Int) := of_decide_eq_true z7_6
       obtain ⟨ad309, e309, hx309_0, hx309_1, hx309_2, hx309_3, hx309_4, hx309_5⟩ := at_T55 HR0.out x8_1 p309 q309
       cases e309
       replace hx309_0 := (HB.out.cell (World.block_lt_of_cell? w _ hx309_0)).trans hx309_0
       replace hx309_1 := (HB.out.cell (World.block_lt_of_cell? w _ hx309_1)).trans hx309_1
       replace hx309_2 := (HB.out.cell (World.block_lt_of_cell? w _ hx309_2)).trans hx309_2
       replace hx309_3 := (HB.out.cell (World.block_lt_of_cell? w _ hx309_3)).trans hx309_3
       replace hx309_4 := (HB.out.cell (World.block_lt_of_cell? w _ hx309_4)).trans hx309_4
       replace hx309_5 := (HB.out.cell (World.block_lt_of_cell? w _ hx309_5)).trans hx309_5
       replace p309 := eq_true p309
       replace q309 := eq_true q309
       go_upto_if 17 with (first | ((with_reducible refine gate_dst (N := 5) rfl ?_); (try (refine gate_guard (by rfl) ?_; dsimp only)); refine box_event ?hg (N := 5) ?hd (cs := #[.int .i64 0, .int .i64 0, .int .i64 0, .int .i64 0, .int .i64 0, .int .i64 0]) (t := 55) ?hr ?_; (case hd => rfl); (case hg => rfl); (case hr => exact z7_8); intro gb310 hg w9 hbox hb; have n0_ := Aside0.mk (below_step z7_1 hb); have n1_ := Aside0.mk (hbox); have n2_ := Aside0.mk ((z7_9 : w.heap.size ≤ gb310)); have n3_ := Aside0.mk ((z7_9 : w.heap.size ≤ gb310)); clear HB; have HB := n0_; have BK310 := n1_; have GW310 := n2_; have GE310 := n3_; clear n0_ n1_ n2_ n3_; clear hb hbox hg; have hcz10_0 : w9.cell? ⟨gb310, 0, none⟩ = some (.int .i64 0) := (blk_cell BK310.out 0).trans rfl; have hcz10_1 : w9.cell? ⟨gb310, 1, none⟩ = some (.int .i64 0) := (blk_cell BK310.out 1).trans rfl; have hcz10_2 : w9.cell? ⟨gb310, 2, none⟩ = some (.int .i64 0) := (blk_cell BK310.out 2).trans rfl; have hcz10_3 : w9.cell? ⟨gb310, 3, none⟩ = some (.int .i64 0) := (blk_cell BK310.out 3).trans rfl; have hcz10_4 : w9.cell? ⟨gb310, 4, none⟩ = some (.int .i64 0) := (blk_cell BK310.out 4).trans rfl; have hcz10_5 : w9.cell? ⟨gb310, 5, none⟩ = some (.int .i64 0) := (blk_cell BK310.out 5).trans rfl; have hfz10_0 := blk_frozen BK310.out 0; have hfz10_1 := blk_frozen BK310.out 1; have hfz10_2 := blk_frozen BK310.out 2; have hfz10_3 := blk_frozen BK310.out 3; have hfz10_4 := blk_frozen BK310.out 4; have hfz10_5 := blk_frozen BK310.out 5) | ((with_reducible refine gate_store (t := 55) (p := 5) rfl ?_); refine store_event (t := 55) (p := 5) (v := ?vo_w11) (w1 := ((((((w9.setCell ⟨gb310, 0, none⟩ (.int .i64 ((rd_T55 l0 x8_1).f0))).setCell ⟨gb310, 1, none⟩ (.int .i64 ((rd_T55 l0 x8_1).f1))).setCell ⟨gb310, 2, none⟩ (.int .i64 ((rd_T55 l0 x8_1).f2))).setCell ⟨gb310, 3, none⟩ (.int .i64 ((rd_T55 l0 x8_1).f3.f0))).setCell ⟨gb310, 4, none⟩ (.int .i64 ((rd_T55 l0 x8_1).f3.f1))).setCell ⟨gb310, 5, none⟩ (.int .i64 ((rd_T55 l0 x8_1).f3.f2)))) ?hg ?ho ?hn ?hr ?_; (case ho => rfl); (case hg => rfl); (case hn => rfl); (case hr => exact z7_8); intro w11 hw; have n0_ : Aside0 (w11.heap[gb310]? = some (.cells #[.int .i64 ((rd_T55 l0 x8_1).f0), .int .i64 ((rd_T55 l0 x8_1).f1), .int .i64 ((rd_T55 l0 x8_1).f2), .int .i64 ((rd_T55 l0 x8_1).f3.f0), .int .i64 ((rd_T55 l0 x8_1).f3.f1), .int .i64 ((rd_T55 l0 x8_1).f3.f2)] 55 (0, 0))) := ⟨z7_2⟩; have n1_ : Aside0 (Below w.heap.size w w11) := ⟨(by rw [hw]; exact z7_4)⟩; clear hw; clear BK310; clear HB; have BK310 := n0_; have HB := n1_; clear n0_ n1_; have hcz12_0 : w11.cell? ⟨gb310, 0, none⟩ = some (.int .i64 ((rd_T55 l0 x8_1).f0)) := (blk_cell BK310.out 0).trans rfl; have hcz12_1 : w11.cell? ⟨gb310, 1, none⟩ = some (.int .i64 ((rd_T55 l0 x8_1).f1)) := (blk_cell BK310.out 1).trans rfl; have hcz12_2 : w11.cell? ⟨gb310, 2, none⟩ = some (.int .i64 ((rd_T55 l0 x8_1).f2)) := (blk_cell BK310.out 2).trans rfl; have hcz12_3 : w11.cell? ⟨gb310, 3, none⟩ = some (.int .i64 ((rd_T55 l0 x8_1).f3.f0)) := (blk_cell BK310.out 3).trans rfl; have hcz12_4 : w11.cell? ⟨gb310, 4, none⟩ = some (.int .i64 ((rd_T55 l0 x8_1).f3.f1)) := (blk_cell BK310.out 4).trans rfl; have hcz12_5 : w11.cell? ⟨gb310, 5, none⟩ = some (.int .i64 ((rd_T55 l0 x8_1).f3.f2)) := (blk_cell BK310.out 5).trans rfl; have hfz12_0 := blk_frozen BK310.out 0; have hfz12_1 := blk_frozen BK310.out 1; have hfz12_2 := blk_frozen BK310.out 2; have hfz12_3 := blk_frozen BK310.out 3; have hfz12_4 := blk_frozen BK310.out 4; have hfz12_5 := blk_frozen BK310.out 5) | ((with_reducible refine gate_callee (f := 55) rfl ?_); refine goesL_ (some 13) rfl rfl Try.func55 (by kernel_rfl) rfl #[.agg #[.int .i64 ((rd_T55 l0 x8_1).f0), .int .i64 ((rd_T55 l0 x8_1).f1), .int .i64 ((rd_T55 l0 x8_1).f2), .int .i64 ((rd_T55 l0 x8_1).f3.f0), .int .i64 ((rd_T55 l0 x8_1).f3.f1), .int .i64 ((rd_T55 l0 x8_1).f3.f2)]] rfl z7_0 ?_; (with_reducible refine (impl_StmtOk.calls k1 ((rd_T55 l0 x8_1).f0) ((rd_T55 l0 x8_1).f1) ((rd_T55 l0 x8_1).f2) ((rd_T55 l0 x8_1).f3.f0) ((rd_T55 l0 x8_1).f3.f1) ((rd_T55 l0 x8_1).f3.f2) true _ A5.out).mono ?_); rintro e w13 ⟨rfl, hb⟩; refine ⟨_, rfl, ?_⟩; have n0_ := Aside0.mk (blk_below (g := gb310) (o := .cells #[.int .i64 ((rd_T55 l0 x8_1).f0), .int .i64 ((rd_T55 l0 x8_1).f1), .int .i64 ((rd_T55 l0 x8_1).f2), .int .i64 ((rd_T55 l0 x8_1).f3.f0), .int .i64 ((rd_T55 l0 x8_1).f3.f1), .int .i64 ((rd_T55 l0 x8_1).f3.f2)] 55 (0, 0)) (by (with_reducible repeat (first | refine blk_drewN ?_ _ | refine blk_drew ?_ | refine blk_alloc ?_ _)); exact BK310.out) hb); have n1_ := Aside0.mk (below_step z7_4 hb); clear BK310; clear HB; have BK310 := n0_; have HB := n1_; clear n0_ n1_; (try clear hb); (try clear hb2); (try clear hk); (try clear hi); have hcz14_0 : w13.cell? ⟨gb310, 0, none⟩ = some (.int .i64 ((rd_T55 l0 x8_1).f0)) := (blk_cell BK310.out 0).trans rfl; have hcz14_1 : w13.cell? ⟨gb310, 1, none⟩ = some (.int .i64 ((rd_T55 l0 x8_1).f1)) := (blk_cell BK310.out 1).trans rfl; have hcz14_2 : w13.cell? ⟨gb310, 2, none⟩ = some (.int .i64 ((rd_T55 l0 x8_1).f2)) := (blk_cell BK310.out 2).trans rfl; have hcz14_3 : w13.cell? ⟨gb310, 3, none⟩ = some (.int .i64 ((rd_T55 l0 x8_1).f3.f0)) := (blk_cell BK310.out 3).trans rfl; have hcz14_4 : w13.cell? ⟨gb310, 4, none⟩ = some (.int .i64 ((rd_T55 l0 x8_1).f3.f1)) := (blk_cell BK310.out 4).trans rfl; have hcz14_5 : w13.cell? ⟨gb310, 5, none⟩ = some (.int .i64 ((rd_T55 l0 x8_1).f3.f2)) := (blk_cell BK310.out 5).trans rfl; have hfz14_0 := blk_frozen BK310.out 0; have hfz14_1 := blk_frozen BK310.out 1; have hfz14_2 := blk_frozen BK310.out 2; have hfz14_3 := blk_frozen BK310.out 3; have hfz14_4 := blk_frozen BK310.out 4; have hfz14_5 := blk_frozen BK310.out 5) | ((with_reducible refine gate_callee (f := 46) rfl ?_); refine goesL_ (some 17) rfl rfl Try.func46 (by kernel_rfl) rfl #[.int .i64 ((rd_T55 l0 x8_1).f0)] rfl z7_0 ?_; (with_reducible refine (impl_isOpening.calls ((rd_T55 l0 x8_1).f0) t312 _ A7.out).mono ?_); rintro e w' ⟨rfl, ⟨nd, rfl⟩⟩; refine ⟨_, rfl, ?_⟩))
       (try simp only [Act.put, List.setIfInBounds_toArray, List.set_cons_zero, List.set_cons_succ])
       go_cut [3] (fun v3 wc => ∃ (kq : Nat) (x3_7 : Int), v3 = .int .i64 x3_7 ∧ Aside0 (impl_BlockOk.j1 kq l0 x3_7 l0 (l0.length : Int) x8_1 ((rd_T55 l0 x8_1).f0) ((rd_T55 l0 x8_1).f1) ((rd_T55 l0 x8_1).f2) ((rd_T55 l0 x8_1).f3.f0) ((rd_T55 l0 x8_1).f3.f1) ((rd_T55 l0 x8_1).f3.f2) = some r) ∧ Aside0 (kq ≤ k1) ∧ Aside0 (wc.heap[gb310]? = some (.cells #[.int .i64 ((rd_T55 l0 x8_1).f0), .int .i64 ((rd_T55 l0 x8_1).f1), .int .i64 ((rd_T55 l0 x8_1).f2), .int .i64 ((rd_T55 l0 x8_1).f3.f0), .int .i64 ((rd_T55 l0 x8_1).f3.f1), .int .i64 ((rd_T55 l0 x8_1).f3.f2)] 55 (0, 0))) ∧ Aside0 (Below w.heap.size w wc))
       case first =>
        have H := HC8.out
        clear HC8
        by_cases c15 : t312 = true
        ·subst c15
         have H1 : (impl_BlockOk.j1 k1 l0 (wrap64 (x3_1 + 1)) l0 (l0.length : Int) x8_1 ((rd_T55 l0 x8_1).f0) ((rd_T55 l0 x8_1).f1) ((rd_T55 l0 x8_1).f2) ((rd_T55 l0 x8_1).f3.f0) ((rd_T55 l0 x8_1).f3.f1) ((rd_T55 l0 x8_1).f3.f2)) = some r := by rw [if_pos rfl] at H; exact H
         clear H
         have H := H1
         clear H1
         have H' := Aside0.mk H
         clear H
         go_wp2
         go_meet
         case rel => exact ⟨_, (wrap64 (x3_1 + 1)), z7_3, H', ⟨by have := HK1.out; first | omega | exact Nat.le_refl _⟩, ⟨by (with_reducible repeat (first | refine blk_drewN ?_ _ | refine blk_drew ?_ | refine blk_alloc ?_ _)); exact BK310.out⟩, ⟨by repeat (first | (with_reducible first | exact HB.out | apply below_alloc | apply pw_below_drewN | apply below_drew1 | refine below_set ?_ GE310.out) | exact HB.out)⟩⟩
        ·replace c15 := Bool.eq_false_iff.mpr c15
         subst c15
         have H1 : (impl_BlockOk.j1 k1 l0 x3_1 l0 (l0.length : Int) x8_1 ((rd_T55 l0 x8_1).f0) ((rd_T55 l0 x8_1).f1) ((rd_T55 l0 x8_1).f2) ((rd_T55 l0 x8_1).f3.f0) ((rd_T55 l0 x8_1).f3.f1) ((rd_T55 l0 x8_1).f3.f2)) = some r := by rw [if_neg (show ¬ (false = true) by decide)] at H; exact H
         clear H
         have H := H1
         clear H1
         have H' := Aside0.mk H
         clear H
         go_wp2
         go_meet
         case rel => exact ⟨_, (x3_1), z7_3, H', ⟨by have := HK1.out; first | omega | exact Nat.le_refl _⟩, ⟨by (with_reducible repeat (first | refine blk_drewN ?_ _ | refine blk_drew ?_ | refine blk_alloc ?_ _)); exact BK310.out⟩, ⟨by repeat (first | (with_reducible first | exact HB.out | apply below_alloc | apply pw_below_drewN | apply below_drew1 | refine below_set ?_ GE310.out) | exact HB.out)⟩⟩
       case rest =>
        clear HC8
        (try clear c2); (try clear c2b0); (try clear c3); (try clear c3b0); (try clear c4); (try clear c4b0); (try clear c6); (try clear hcz10_0); (try clear hcz10_1); (try clear hcz10_2); (try clear hcz10_3); (try clear hcz10_4); (try clear hcz10_5); (try clear hcz12_0); (try clear hcz12_1); (try clear hcz12_2); (try clear hcz12_3); (try clear hcz12_4); (try clear hcz12_5); (try clear hcz14_0); (try clear hcz14_1); (try clear hcz14_2); (try clear hcz14_3); (try clear hcz14_4); (try clear hcz14_5); (try clear hfz10_0); (try clear hfz10_1); (try clear hfz10_2); (try clear hfz10_3); (try clear hfz10_4); (try clear hfz10_5); (try clear hfz12_0); (try clear hfz12_1); (try clear hfz12_2); (try clear hfz12_3); (try clear hfz12_4); (try clear hfz12_5); (try clear hfz14_0); (try clear hfz14_1); (try clear hfz14_2); (try clear hfz14_3); (try clear hfz14_4); (try clear hfz14_5); (try clear hx309_0); (try clear hx309_1); (try clear hx309_2); (try clear hx309_3); (try clear hx309_4); (try clear hx309_5); (try clear p309); (try clear q309)
        obtain ⟨kq, x3_7, rfl, HA, HJ7, BK310, HB⟩ := hcut
        cases kq with
        | zero => exact absurd HA.out (by simp [impl_BlockOk.j1])
        | succ kj7 =>
         have H := HA.out
         clear HA
         simp only [impl_BlockOk.j1] at H
         by_cases c16 : ((rd_T55 l0 x8_1).f0) = 6
         ·rw [if_pos c16] at H
          have c16b0 : (((rd_T55 l0 x8_1).f0) == 6) = true := beq_iff_eq.mpr c16
          have c16b1 : (((rd_T55 l0 x8_1).f0) != 6) = false := bne_eq_false_iff_eq.mpr c16
          clear c16
          by_cases c17 : (wrap64 (x3_7 - 1)) < 0
          ·rw [if_pos c17] at H
           have c17b0 : decide ((wrap64 (x3_7 - 1)) < 0) = true := decide_eq_true c17
           clear c17
           obtain rfl := Option.some.inj H
           have hcz18_0 : wc.cell? ⟨gb310, 0, none⟩ = some (.int .i64 ((rd_T55 l0 x8_1).f0)) := (blk_cell BK310.out 0).trans rfl
           have hcz18_1 : wc.cell? ⟨gb310, 1, none⟩ = some (.int .i64 ((rd_T55 l0 x8_1).f1)) := (blk_cell BK310.out 1).trans rfl
           have hcz18_2 : wc.cell? ⟨gb310, 2, none⟩ = some (.int .i64 ((rd_T55 l0 x8_1).f2)) := (blk_cell BK310.out 2).trans rfl
           have hcz18_3 : wc.cell? ⟨gb310, 3, none⟩ = some (.int .i64 ((rd_T55 l0 x8_1).f3.f0)) := (blk_cell BK310.out 3).trans rfl
           have hcz18_4 : wc.cell? ⟨gb310, 4, none⟩ = some (.int .i64 ((rd_T55 l0 x8_1).f3.f1)) := (blk_cell BK310.out 4).trans rfl
           have hcz18_5 : wc.cell? ⟨gb310, 5, none⟩ = some (.int .i64 ((rd_T55 l0 x8_1).f3.f2)) := (blk_cell BK310.out 5).trans rfl
           have hfz18_0 := blk_frozen BK310.out 0
           have hfz18_1 := blk_frozen BK310.out 1
           have hfz18_2 := blk_frozen BK310.out 2
           have hfz18_3 := blk_frozen BK310.out 3
           have hfz18_4 := blk_frozen BK310.out 4
           have hfz18_5 := blk_frozen BK310.out 5
           go_wp2
           go_ret
           exact ⟨by first | rfl | (simp [errW_none, errW_some] <;> rfl) | (simp [*, errW_none, errW_some] <;> rfl) | (simp [*, errW_none, errW_some, i64_w]; done), by repeat (first | (with_reducible first | exact HB.out | apply below_alloc | apply pw_below_drewN | apply below_drew1 | refine below_set ?_ GE310.out) | exact HB.out)⟩
          ·rw [if_neg c17] at H
           have c17b0 : decide ((wrap64 (x3_7 - 1)) < 0) = false := decide_eq_false c17
           clear c17
           by_cases c19 : (wrap64 (x3_7 - 1)) > 3
           ·rw [if_pos c19] at H
            have c19b0 : decide (3 < (wrap64 (x3_7 - 1))) = true := decide_eq_true c19
            clear c19
            obtain rfl := Option.some.inj H
            have hcz20_0 : wc.cell? ⟨gb310, 0, none⟩ = some (.int .i64 ((rd_T55 l0 x8_1).f0)) := (blk_cell BK310.out 0).trans rfl
            have hcz20_1 : wc.cell? ⟨gb310, 1, none⟩ = some (.int .i64 ((rd_T55 l0 x8_1).f1)) := (blk_cell BK310.out 1).trans rfl
            have hcz20_2 : wc.cell? ⟨gb310, 2, none⟩ = some (.int .i64 ((rd_T55 l0 x8_1).f2)) := (blk_cell BK310.out 2).trans rfl
            have hcz20_3 : wc.cell? ⟨gb310, 3, none⟩ = some (.int .i64 ((rd_T55 l0 x8_1).f3.f0)) := (blk_cell BK310.out 3).trans rfl
            have hcz20_4 : wc.cell? ⟨gb310, 4, none⟩ = some (.int .i64 ((rd_T55 l0 x8_1).f3.f1)) := (blk_cell BK310.out 4).trans rfl
            have hcz20_5 : wc.cell? ⟨gb310, 5, none⟩ = some (.int .i64 ((rd_T55 l0 x8_1).f3.f2)) := (blk_cell BK310.out 5).trans rfl
            have hfz20_0 := blk_frozen BK310.out 0
            have hfz20_1 := blk_frozen BK310.out 1
            have hfz20_2 := blk_frozen BK310.out 2
            have hfz20_3 := blk_frozen BK310.out 3
            have hfz20_4 := blk_frozen BK310.out 4
            have hfz20_5 := blk_frozen BK310.out 5
            go_wp2
            go_ret
            exact ⟨by first | rfl | (simp [errW_none, errW_some] <;> rfl) | (simp [*, errW_none, errW_some] <;> rfl) | (simp [*, errW_none, errW_some, i64_w]; done), by repeat (first | (with_reducible first | exact HB.out | apply below_alloc | apply pw_below_drewN | apply below_drew1 | refine below_set ?_ GE310.out) | exact HB.out)⟩
           ·rw [if_neg c19] at H
            have c19b0 : decide (3 < (wrap64 (x3_7 - 1))) = false := decide_eq_false c19
            clear c19
            have H' := Aside0.mk H
            clear H
            have hcz21_0 : wc.cell? ⟨gb310, 0, none⟩ = some (.int .i64 ((rd_T55 l0 x8_1).f0)) := (blk_cell BK310.out 0).trans rfl
            have hcz21_1 : wc.cell? ⟨gb310, 1, none⟩ = some (.int .i64 ((rd_T55 l0 x8_1).f1)) := (blk_cell BK310.out 1).trans rfl
            have hcz21_2 : wc.cell? ⟨gb310, 2, none⟩ = some (.int .i64 ((rd_T55 l0 x8_1).f2)) := (blk_cell BK310.out 2).trans rfl
            have hcz21_3 : wc.cell? ⟨gb310, 3, none⟩ = some (.int .i64 ((rd_T55 l0 x8_1).f3.f0)) := (blk_cell BK310.out 3).trans rfl
            have hcz21_4 : wc.cell? ⟨gb310, 4, none⟩ = some (.int .i64 ((rd_T55 l0 x8_1).f3.f1)) := (blk_cell BK310.out 4).trans rfl
            have hcz21_5 : wc.cell? ⟨gb310, 5, none⟩ = some (.int .i64 ((rd_T55 l0 x8_1).f3.f2)) := (blk_cell BK310.out 5).trans rfl
            have hfz21_0 := blk_frozen BK310.out 0
            have hfz21_1 := blk_frozen BK310.out 1
            have hfz21_2 := blk_frozen BK310.out 2
            have hfz21_3 := blk_frozen BK310.out 3
            have hfz21_4 := blk_frozen BK310.out 4
            have hfz21_5 := blk_frozen BK310.out 5
            go_wp2
            go_roundg kj7
            case measure => have := HK1.out; have := HJ7.out; omega
            case rel => exact ⟨(wrap64 (x3_7 - 1)), (wrap64 (x8_1 + 1)), z7_3, z7_3, H', ⟨by have := HK1.out; have := HJ7.out; omega⟩, ⟨by repeat (first | (with_reducible first | exact HB.out | apply below_alloc | apply pw_below_drewN | apply below_drew1 | refine below_set ?_ GE310.out) | exact HB.out)⟩⟩
         ·rw [if_neg c16] at H
          have c16b0 : (((rd_T55 l0 x8_1).f0) == 6) = false := beq_eq_false_iff_ne.mpr c16
          have c16b1 : (((rd_T55 l0 x8_1).f0) != 6) = true := bne_iff_ne.mpr c16
          by_cases c22 : x3_7 < 0
          ·rw [if_pos c22] at H
           have c22b0 : decide (x3_7 < 0) = true := decide_eq_true c22
           clear c22
           obtain rfl := Option.some.inj H
           have hcz23_0 : wc.cell? ⟨gb310, 0, none⟩ = some (.int .i64 ((rd_T55 l0 x8_1).f0)) := (blk_cell BK310.out 0).trans rfl
           have hcz23_1 : wc.cell? ⟨gb310, 1, none⟩ = some (.int .i64 ((rd_T55 l0 x8_1).f1)) := (blk_cell BK310.out 1).trans rfl
           have hcz23_2 : wc.cell? ⟨gb310, 2, none⟩ = some (.int .i64 ((rd_T55 l0 x8_1).f2)) := (blk_cell BK310.out 2).trans rfl
           have hcz23_3 : wc.cell? ⟨gb310, 3, none⟩ = some (.int .i64 ((rd_T55 l0 x8_1).f3.f0)) := (blk_cell BK310.out 3).trans rfl
           have hcz23_4 : wc.cell? ⟨gb310, 4, none⟩ = some (.int .i64 ((rd_T55 l0 x8_1).f3.f1)) := (blk_cell BK310.out 4).trans rfl
           have hcz23_5 : wc.cell? ⟨gb310, 5, none⟩ = some (.int .i64 ((rd_T55 l0 x8_1).f3.f2)) := (blk_cell BK310.out 5).trans rfl
           have hfz23_0 := blk_frozen BK310.out 0
           have hfz23_1 := blk_frozen BK310.out 1
           have hfz23_2 := blk_frozen BK310.out 2
           have hfz23_3 := blk_frozen BK310.out 3
           have hfz23_4 := blk_frozen BK310.out 4
           have hfz23_5 := blk_frozen BK310.out 5
           go_wp2
           go_ret
           exact ⟨by first | rfl | (simp [errW_none, errW_some] <;> rfl) | (simp [*, errW_none, errW_some] <;> rfl) | (simp [*, errW_none, errW_some, i64_w]; done), by repeat (first | (with_reducible first | exact HB.out | apply below_alloc | apply pw_below_drewN | apply below_drew1 | refine below_set ?_ GE310.out) | exact HB.out)⟩
          ·rw [if_neg c22] at H
           have c22b0 : decide (x3_7 < 0) = false := decide_eq_false c22
           clear c22
           by_cases c24 : x3_7 > 3
           ·rw [if_pos c24] at H
            have c24b0 : decide (3 < x3_7) = true := decide_eq_true c24
            clear c24
            obtain rfl := Option.some.inj H
            have hcz25_0 : wc.cell? ⟨gb310, 0, none⟩ = some (.int .i64 ((rd_T55 l0 x8_1).f0)) := (blk_cell BK310.out 0).trans rfl
            have hcz25_1 : wc.cell? ⟨gb310, 1, none⟩ = some (.int .i64 ((rd_T55 l0 x8_1).f1)) := (blk_cell BK310.out 1).trans rfl
            have hcz25_2 : wc.cell? ⟨gb310, 2, none⟩ = some (.int .i64 ((rd_T55 l0 x8_1).f2)) := (blk_cell BK310.out 2).trans rfl
            have hcz25_3 : wc.cell? ⟨gb310, 3, none⟩ = some (.int .i64 ((rd_T55 l0 x8_1).f3.f0)) := (blk_cell BK310.out 3).trans rfl
            have hcz25_4 : wc.cell? ⟨gb310, 4, none⟩ = some (.int .i64 ((rd_T55 l0 x8_1).f3.f1)) := (blk_cell BK310.out 4).trans rfl
            have hcz25_5 : wc.cell? ⟨gb310, 5, none⟩ = some (.int .i64 ((rd_T55 l0 x8_1).f3.f2)) := (blk_cell BK310.out 5).trans rfl
            have hfz25_0 := blk_frozen BK310.out 0
            have hfz25_1 := blk_frozen BK310.out 1
            have hfz25_2 := blk_frozen BK310.out 2
            have hfz25_3 := blk_frozen BK310.out 3
            have hfz25_4 := blk_frozen BK310.out 4
            have hfz25_5 := blk_frozen BK310.out 5
            go_wp2
            go_ret
            exact ⟨by first | rfl | (simp [errW_none, errW_some] <;> rfl) | (simp [*, errW_none, errW_some] <;> rfl) | (simp [*, errW_none, errW_some, i64_w]; done), by repeat (first | (with_reducible first | exact HB.out | apply below_alloc | apply pw_below_drewN | apply below_drew1 | refine below_set ?_ GE310.out) | exact HB.out)⟩
           ·rw [if_neg c24] at H
            have c24b0 : decide (3 < x3_7) = false := decide_eq_false c24
            clear c24
            have H' := Aside0.mk H
            clear H
            have hcz26_0 : wc.cell? ⟨gb310, 0, none⟩ = some (.int .i64 ((rd_T55 l0 x8_1).f0)) := (blk_cell BK310.out 0).trans rfl
            have hcz26_1 : wc.cell? ⟨gb310, 1, none⟩ = some (.int .i64 ((rd_T55 l0 x8_1).f1)) := (blk_cell BK310.out 1).trans rfl
            have hcz26_2 : wc.cell? ⟨gb310, 2, none⟩ = some (.int .i64 ((rd_T55 l0 x8_1).f2)) := (blk_cell BK310.out 2).trans rfl
            have hcz26_3 : wc.cell? ⟨gb310, 3, none⟩ = some (.int .i64 ((rd_T55 l0 x8_1).f3.f0)) := (blk_cell BK310.out 3).trans rfl
            have hcz26_4 : wc.cell? ⟨gb310, 4, none⟩ = some (.int .i64 ((rd_T55 l0 x8_1).f3.f1)) := (blk_cell BK310.out 4).trans rfl
            have hcz26_5 : wc.cell? ⟨gb310, 5, none⟩ = some (.int .i64 ((rd_T55 l0 x8_1).f3.f2)) := (blk_cell BK310.out 5).trans rfl
            have hfz26_0 := blk_frozen BK310.out 0
            have hfz26_1 := blk_frozen BK310.out 1
            have hfz26_2 := blk_frozen BK310.out 2
            have hfz26_3 := blk_frozen BK310.out 3
            have hfz26_4 := blk_frozen BK310.out 4
            have hfz26_5 := blk_frozen BK310.out 5
            go_wp2
            go_roundg kj7
            case measure => have := HK1.out; have := HJ7.out; omega
            case rel => exact ⟨(x3_7), (wrap64 (x8_1 + 1)), z7_3, z7_3, H', ⟨by have := HK1.out; have := HJ7.out; omega⟩, ⟨by repeat (first | (with_reducible first | exact HB.out | apply below_alloc | apply pw_below_drewN | apply below_drew1 | refine below_set ?_ GE310.out) | exact HB.out)⟩⟩
      ·replace c6 := Bool.eq_false_iff.mpr c6
       subst c6
       have H1 : (some false) = some r := by rw [if_neg (show ¬ (false = true) by decide)] at H; exact H
       clear H
       have H := H1
       clear H1
       obtain rfl := Option.some.inj H
       have p309 : 0 ≤ (x8_1 : Int) := of_decide_eq_true z7_6
       have q309 : x8_1 < (l0.length : Int) := of_decide_eq_true z7_6
       obtain ⟨ad309, e309, hx309_0, hx309_1, hx309_2, hx309_3, hx309_4, hx309_5⟩ := at_T55 HR0.out x8_1 p309 q309
       cases e309
       replace hx309_0 := (HB.out.cell (World.block_lt_of_cell? w _ hx309_0)).trans hx309_0
       replace hx309_1 := (HB.out.cell (World.block_lt_of_cell? w _ hx309_1)).trans hx309_1
       replace hx309_2 := (HB.out.cell (World.block_lt_of_cell? w _ hx309_2)).trans hx309_2
       replace hx309_3 := (HB.out.cell (World.block_lt_of_cell? w _ hx309_3)).trans hx309_3
       replace hx309_4 := (HB.out.cell (World.block_lt_of_cell? w _ hx309_4)).trans hx309_4
       replace hx309_5 := (HB.out.cell (World.block_lt_of_cell? w _ hx309_5)).trans hx309_5
       replace p309 := eq_true p309
       replace q309 := eq_true q309
       go_wp2_with (first | ((with_reducible refine gate_dst (N := 5) rfl ?_); (try (refine gate_guard (by rfl) ?_; dsimp only)); refine box_event ?hg (N := 5) ?hd (cs := #[.int .i64 0, .int .i64 0, .int .i64 0, .int .i64 0, .int .i64 0, .int .i64 0]) (t := 55) ?hr ?_; (case hd => rfl); (case hg => rfl); (case hr => exact z7_8); intro gb310 hg w27 hbox hb; have n0_ := Aside0.mk (below_step z7_1 hb); have n1_ := Aside0.mk (hbox); have n2_ := Aside0.mk ((z7_9 : w.heap.size ≤ gb310)); have n3_ := Aside0.mk ((z7_9 : w.heap.size ≤ gb310)); clear HB; have HB := n0_; have BK310 := n1_; have GW310 := n2_; have GE310 := n3_; clear n0_ n1_ n2_ n3_; clear hb hbox hg; have hcz28_0 : w27.cell? ⟨gb310, 0, none⟩ = some (.int .i64 0) := (blk_cell BK310.out 0).trans rfl; have hcz28_1 : w27.cell? ⟨gb310, 1, none⟩ = some (.int .i64 0) := (blk_cell BK310.out 1).trans rfl; have hcz28_2 : w27.cell? ⟨gb310, 2, none⟩ = some (.int .i64 0) := (blk_cell BK310.out 2).trans rfl; have hcz28_3 : w27.cell? ⟨gb310, 3, none⟩ = some (.int .i64 0) := (blk_cell BK310.out 3).trans rfl; have hcz28_4 : w27.cell? ⟨gb310, 4, none⟩ = some (.int .i64 0) := (blk_cell BK310.out 4).trans rfl; have hcz28_5 : w27.cell? ⟨gb310, 5, none⟩ = some (.int .i64 0) := (blk_cell BK310.out 5).trans rfl; have hfz28_0 := blk_frozen BK310.out 0; have hfz28_1 := blk_frozen BK310.out 1; have hfz28_2 := blk_frozen BK310.out 2; have hfz28_3 := blk_frozen BK310.out 3; have hfz28_4 := blk_frozen BK310.out 4; have hfz28_5 := blk_frozen BK310.out 5) | ((with_reducible refine gate_store (t := 55) (p := 5) rfl ?_); refine store_event (t := 55) (p := 5) (v := ?vo_w29) (w1 := ((((((w27.setCell ⟨gb310, 0, none⟩ (.int .i64 ((rd_T55 l0 x8_1).f0))).setCell ⟨gb310, 1, none⟩ (.int .i64 ((rd_T55 l0 x8_1).f1))).setCell ⟨gb310, 2, none⟩ (.int .i64 ((rd_T55 l0 x8_1).f2))).setCell ⟨gb310, 3, none⟩ (.int .i64 ((rd_T55 l0 x8_1).f3.f0))).setCell ⟨gb310, 4, none⟩ (.int .i64 ((rd_T55 l0 x8_1).f3.f1))).setCell ⟨gb310, 5, none⟩ (.int .i64 ((rd_T55 l0 x8_1).f3.f2)))) ?hg ?ho ?hn ?hr ?_; (case ho => rfl); (case hg => rfl); (case hn => rfl); (case hr => exact z7_8); intro w29 hw; have n0_ : Aside0 (w29.heap[gb310]? = some (.cells #[.int .i64 ((rd_T55 l0 x8_1).f0), .int .i64 ((rd_T55 l0 x8_1).f1), .int .i64 ((rd_T55 l0 x8_1).f2), .int .i64 ((rd_T55 l0 x8_1).f3.f0), .int .i64 ((rd_T55 l0 x8_1).f3.f1), .int .i64 ((rd_T55 l0 x8_1).f3.f2)] 55 (0, 0))) := ⟨z7_2⟩; have n1_ : Aside0 (Below w.heap.size w w29) := ⟨(by rw [hw]; exact z7_4)⟩; clear hw; clear BK310; clear HB; have BK310 := n0_; have HB := n1_; clear n0_ n1_; have hcz30_0 : w29.cell? ⟨gb310, 0, none⟩ = some (.int .i64 ((rd_T55 l0 x8_1).f0)) := (blk_cell BK310.out 0).trans rfl; have hcz30_1 : w29.cell? ⟨gb310, 1, none⟩ = some (.int .i64 ((rd_T55 l0 x8_1).f1)) := (blk_cell BK310.out 1).trans rfl; have hcz30_2 : w29.cell? ⟨gb310, 2, none⟩ = some (.int .i64 ((rd_T55 l0 x8_1).f2)) := (blk_cell BK310.out 2).trans rfl; have hcz30_3 : w29.cell? ⟨gb310, 3, none⟩ = some (.int .i64 ((rd_T55 l0 x8_1).f3.f0)) := (blk_cell BK310.out 3).trans rfl; have hcz30_4 : w29.cell? ⟨gb310, 4, none⟩ = some (.int .i64 ((rd_T55 l0 x8_1).f3.f1)) := (blk_cell BK310.out 4).trans rfl; have hcz30_5 : w29.cell? ⟨gb310, 5, none⟩ = some (.int .i64 ((rd_T55 l0 x8_1).f3.f2)) := (blk_cell BK310.out 5).trans rfl; have hfz30_0 := blk_frozen BK310.out 0; have hfz30_1 := blk_frozen BK310.out 1; have hfz30_2 := blk_frozen BK310.out 2; have hfz30_3 := blk_frozen BK310.out 3; have hfz30_4 := blk_frozen BK310.out 4; have hfz30_5 := blk_frozen BK310.out 5) | ((with_reducible refine gate_callee (f := 55) rfl ?_); refine goesL_ (some 13) rfl rfl Try.func55 (by kernel_rfl) rfl #[.agg #[.int .i64 ((rd_T55 l0 x8_1).f0), .int .i64 ((rd_T55 l0 x8_1).f1), .int .i64 ((rd_T55 l0 x8_1).f2), .int .i64 ((rd_T55 l0 x8_1).f3.f0), .int .i64 ((rd_T55 l0 x8_1).f3.f1), .int .i64 ((rd_T55 l0 x8_1).f3.f2)]] rfl z7_0 ?_; (with_reducible refine (impl_StmtOk.calls k1 ((rd_T55 l0 x8_1).f0) ((rd_T55 l0 x8_1).f1) ((rd_T55 l0 x8_1).f2) ((rd_T55 l0 x8_1).f3.f0) ((rd_T55 l0 x8_1).f3.f1) ((rd_T55 l0 x8_1).f3.f2) false _ A5.out).mono ?_); rintro e w31 ⟨rfl, hb⟩; refine ⟨_, rfl, ?_⟩; have n0_ := Aside0.mk (blk_below (g := gb310) (o := .cells #[.int .i64 ((rd_T55 l0 x8_1).f0), .int .i64 ((rd_T55 l0 x8_1).f1), .int .i64 ((rd_T55 l0 x8_1).f2), .int .i64 ((rd_T55 l0 x8_1).f3.f0), .int .i64 ((rd_T55 l0 x8_1).f3.f1), .int .i64 ((rd_T55 l0 x8_1).f3.f2)] 55 (0, 0)) (by (with_reducible repeat (first | refine blk_drewN ?_ _ | refine blk_drew ?_ | refine blk_alloc ?_ _)); exact BK310.out) hb); have n1_ := Aside0.mk (below_step z7_4 hb); clear BK310; clear HB; have BK310 := n0_; have HB := n1_; clear n0_ n1_; (try clear hb); (try clear hb2); (try clear hk); (try clear hi)))
       go_ret
       exact ⟨by first | rfl | (simp [errW_none, errW_some] <;> rfl) | (simp [*, errW_none, errW_some] <;> rfl) | (simp [*, errW_none, errW_some, i64_w]; done), by repeat (first | (with_reducible first | exact HB.out | apply below_alloc | apply pw_below_drewN | apply below_drew1 | refine below_set ?_ GE310.out) | exact HB.out)⟩
     ·rw [if_neg c4] at H
      exact absurd H (by simp)
    ·rw [if_neg c3] at H
     exact absurd H (by simp)
   ·rw [if_neg c2] at H
    have c2b0 : decide (x8_1 < (l0.length : Int)) = false := decide_eq_false c2
    clear c2
    by_cases c32 : x3_1 = 0
    ·rw [if_pos c32] at H
     have c32b0 : (x3_1 == 0) = true := beq_iff_eq.mpr c32
     have c32b1 : (x3_1 != 0) = false := bne_eq_false_iff_eq.mpr c32
     clear c32
     obtain rfl := Option.some.inj H
     go_wp2
     go_ret
     exact ⟨by first | rfl | (simp [errW_none, errW_some] <;> rfl) | (simp [*, errW_none, errW_some] <;> rfl) | (simp [*, errW_none, errW_some, i64_w]; done), by repeat (first | (with_reducible first | exact HB.out | apply below_alloc | apply pw_below_drewN | apply below_drew1) | exact HB.out)⟩
    ·rw [if_neg c32] at H
     have c32b0 : (x3_1 == 0) = false := beq_eq_false_iff_ne.mpr c32
     have c32b1 : (x3_1 != 0) = true := bne_iff_ne.mpr c32
     obtain rfl := Option.some.inj H
     go_wp2
     go_ret
     exact ⟨by first | rfl | (simp [errW_none, errW_some] <;> rfl) | (simp [*, errW_none, errW_some] <;> rfl) | (simp [*, errW_none, errW_some, i64_w]; done), by repeat (first | (with_reducible first | exact HB.out | apply below_alloc | apply pw_below_drewN | apply below_drew1) | exact HB.out)⟩
def impl_taskOk.f (k : Nat) (l0_0 : List (S55)) (a0_1 : Int) (a0_2 : Int) (a0_3 : Int) : Option (Bool) := (impl_BlockOk.f k l0_0).bind fun t314 => (if t314 = true then ((impl_ExprOk.f a0_1 a0_2 a0_3).bind fun t315 => (some t315)) else (some false))
theorem impl_taskOk.mono : ∀ a0 a1 a2 a3 k, LeO (impl_taskOk.f k a0 a1 a2 a3) (impl_taskOk.f (k + 1) a0 a1 a2 a3) := by
 intro a0 a1 a2 a3 k
 unfold impl_taskOk.f
 repeat' first
   | (with_reducible exact impl_BlockOk.mono _ _)
   | (with_reducible exact LeO.refl _)
   | (with_reducible exact LeO.none _)
   | (with_reducible refine LeO.ite ?_ ?_)
   | (with_reducible refine LeO.bind ?_ (fun _ => ?_))
   | exact impl_BlockOk.mono _ _
   | exact LeO.none _
   | refine LeO.ite ?_ ?_
   | refine LeO.bind ?_ (fun _ => ?_)
set_option maxHeartbeats 8000000 in
set_option maxRecDepth 100000 in
theorem impl_taskOk.calls (k : Nat) (A0_0 : Option Addr) (c0_0 : Nat) (l0_0 : List (S55)) (a0_1 : Int) (a0_2 : Int) (a0_3 : Int) (r : Bool) (w : World) (hr0_0 : Kd.C k55 w A0_0 l0_0.length l0_0) (hc0_0 : l0_0.length ≤ c0_0) (h : impl_taskOk.f k l0_0 a0_1 a0_2 a0_3 = some r) :
  Calls Try.prog 21 #[.agg #[.slice A0_0 l0_0.length c0_0, .int .i64 a0_1, .int .i64 a0_2, .int .i64 a0_3]] w fun e w' => e = .returned (.bool r) ∧ Below w.heap.size w w' := by
 have hu32 := Try.underlying32
 have hu30 := Try.underlying30
 have HR0_0 := Aside0.mk hr0_0
 have HC0_0 := Aside0.mk hc0_0
 clear hr0_0 hc0_0
 have HB := Aside0.mk (Below.refl w.heap.size w)
 have H : ((impl_BlockOk.f k l0_0).bind fun t314 => (if t314 = true then ((impl_ExprOk.f a0_1 a0_2 a0_3).bind fun t315 => (some t315)) else (some false))) = some r := h
 clear h
 replace H := Option.bind_eq_some_iff.mp H
 obtain ⟨t314, A20, H⟩ := H
 replace H : (if t314 = true then ((impl_ExprOk.f a0_1 a0_2 a0_3).bind fun t315 => (some t315)) else (some false)) = some r := H
 have A2 := Aside0.mk A20
 clear A20
 by_cases c3 : t314 = true
 ·subst c3
  have H1 : ((impl_ExprOk.f a0_1 a0_2 a0_3).bind fun t315 => (some t315)) = some r := by rw [if_pos rfl] at H; exact H
  clear H
  have H := H1
  clear H1
  replace H := Option.bind_eq_some_iff.mp H
  obtain ⟨t315, A40, H⟩ := H
  replace H : (some t315) = some r := H
  have A4 := Aside0.mk A40
  clear A40
  obtain rfl := Option.some.inj H
  go_enter Try.func21, Try.ntmps21
  go_wp2_with (first | ((with_reducible refine gate_dst (N := 1) rfl ?_); refine box_event ?hg (N := 1) ?hd (cs := #[.slice A0_0 l0_0.length c0_0, .int .i64 a0_1, .int .i64 a0_2, .int .i64 a0_3]) (t := 32) ?hr ?_; (case hd => rfl); (case hg => rfl); (case hr => exact z7_8); intro gb313 hg w5 hbox hb; have n0_ := Aside0.mk (below_step z7_1 hb); have n1_ := Aside0.mk (hbox); have n2_ := Aside0.mk ((z7_9 : w.heap.size ≤ gb313)); have n3_ := Aside0.mk ((z7_9 : w.heap.size ≤ gb313)); clear HB; have HB := n0_; have BK313 := n1_; have GW313 := n2_; have GE313 := n3_; clear n0_ n1_ n2_ n3_; clear hb hbox hg; have hcz6_0 : w5.cell? ⟨gb313, 0, none⟩ = some (.slice A0_0 l0_0.length c0_0) := (blk_cell BK313.out 0).trans rfl; have hcz6_1 : w5.cell? ⟨gb313, 1, none⟩ = some (.int .i64 a0_1) := (blk_cell BK313.out 1).trans rfl; have hcz6_2 : w5.cell? ⟨gb313, 2, none⟩ = some (.int .i64 a0_2) := (blk_cell BK313.out 2).trans rfl; have hcz6_3 : w5.cell? ⟨gb313, 3, none⟩ = some (.int .i64 a0_3) := (blk_cell BK313.out 3).trans rfl; have hfz6_0 := blk_frozen BK313.out 0; have hfz6_1 := blk_frozen BK313.out 1; have hfz6_2 := blk_frozen BK313.out 2; have hfz6_3 := blk_frozen BK313.out 3) | ((with_reducible refine gate_callee (f := 36) rfl ?_); refine goesL_ (some 5) rfl rfl Try.func36 (by kernel_rfl) rfl #[.slice A0_0 l0_0.length c0_0] rfl z7_0 ?_; (with_reducible refine (impl_BlockOk.calls k _ _ l0_0 true _ ?side1 ?side2 A2.out).mono ?_); (case side1 => repeat (first | exact (Kd.C_below HR0_0.out HB.out) | (with_reducible refine Kd.C_alloc ?_ _) | (with_reducible refine Kd.C_drewN ?_ _) | (with_reducible refine Kd.C_drew ?_))); (case side2 => exact HC0_0.out); rintro e w7 ⟨rfl, hb⟩; refine ⟨_, rfl, ?_⟩; have n0_ := Aside0.mk (blk_below (g := gb313) (o := .cells #[.slice A0_0 l0_0.length c0_0, .int .i64 a0_1, .int .i64 a0_2, .int .i64 a0_3] 32 (0, 0)) z7_7 hb); have n1_ := Aside0.mk (below_step z7_5 hb); clear BK313; clear HB; have BK313 := n0_; have HB := n1_; clear n0_ n1_; (try clear hb); (try clear hb2); (try clear hk); (try clear hi); have hcz8_0 : w7.cell? ⟨gb313, 0, none⟩ = some (.slice A0_0 l0_0.length c0_0) := (blk_cell BK313.out 0).trans rfl; have hcz8_1 : w7.cell? ⟨gb313, 1, none⟩ = some (.int .i64 a0_1) := (blk_cell BK313.out 1).trans rfl; have hcz8_2 : w7.cell? ⟨gb313, 2, none⟩ = some (.int .i64 a0_2) := (blk_cell BK313.out 2).trans rfl; have hcz8_3 : w7.cell? ⟨gb313, 3, none⟩ = some (.int .i64 a0_3) := (blk_cell BK313.out 3).trans rfl; have hfz8_0 := blk_frozen BK313.out 0; have hfz8_1 := blk_frozen BK313.out 1; have hfz8_2 := blk_frozen BK313.out 2; have hfz8_3 := blk_frozen BK313.out 3) | (go_at_call 37; (with_reducible refine (impl_ExprOk.calls a0_1 a0_2 a0_3 t315 _ A4.out).mono ?_); rintro e w9 ⟨rfl, hb⟩; have n0_ := Aside0.mk (blk_below (g := gb313) (o := .cells #[.slice A0_0 l0_0.length c0_0, .int .i64 a0_1, .int .i64 a0_2, .int .i64 a0_3] 32 (0, 0)) z7_7 hb); have n1_ := Aside0.mk (below_step z7_5 hb); clear BK313; clear HB; have BK313 := n0_; have HB := n1_; clear n0_ n1_; (try clear hb); (try clear hb2); (try clear hk); (try clear hi)))
  go_ret
  exact ⟨by first | rfl | (simp [errW_none, errW_some] <;> rfl) | (simp [*, errW_none, errW_some] <;> rfl) | (simp [*, errW_none, errW_some, i64_w]; done), by repeat (first | (with_reducible first | exact HB.out | apply below_alloc | apply pw_below_drewN | apply below_drew1 | refine below_set ?_ GE313.out) | exact HB.out)⟩
 ·replace c3 := Bool.eq_false_iff.mpr c3
  subst c3
  have H1 : (some false) = some r := by rw [if_neg (show ¬ (false = true) by decide)] at H; exact H
  clear H
  have H := H1
  clear H1
  obtain rfl := Option.some.inj H
  go_enter Try.func21, Try.ntmps21
  go_wp2_with (first | ((with_reducible refine gate_dst (N := 1) rfl ?_); refine box_event ?hg (N := 1) ?hd (cs := #[.slice A0_0 l0_0.length c0_0, .int .i64 a0_1, .int .i64 a0_2, .int .i64 a0_3]) (t := 32) ?hr ?_; (case hd => rfl); (case hg => rfl); (case hr => exact z7_8); intro gb313 hg w10 hbox hb; have n0_ := Aside0.mk (below_step z7_1 hb); have n1_ := Aside0.mk (hbox); have n2_ := Aside0.mk ((z7_9 : w.heap.size ≤ gb313)); have n3_ := Aside0.mk ((z7_9 : w.heap.size ≤ gb313)); clear HB; have HB := n0_; have BK313 := n1_; have GW313 := n2_; have GE313 := n3_; clear n0_ n1_ n2_ n3_; clear hb hbox hg; have hcz11_0 : w10.cell? ⟨gb313, 0, none⟩ = some (.slice A0_0 l0_0.length c0_0) := (blk_cell BK313.out 0).trans rfl; have hcz11_1 : w10.cell? ⟨gb313, 1, none⟩ = some (.int .i64 a0_1) := (blk_cell BK313.out 1).trans rfl; have hcz11_2 : w10.cell? ⟨gb313, 2, none⟩ = some (.int .i64 a0_2) := (blk_cell BK313.out 2).trans rfl; have hcz11_3 : w10.cell? ⟨gb313, 3, none⟩ = some (.int .i64 a0_3) := (blk_cell BK313.out 3).trans rfl; have hfz11_0 := blk_frozen BK313.out 0; have hfz11_1 := blk_frozen BK313.out 1; have hfz11_2 := blk_frozen BK313.out 2; have hfz11_3 := blk_frozen BK313.out 3) | ((with_reducible refine gate_callee (f := 36) rfl ?_); refine goesL_ (some 5) rfl rfl Try.func36 (by kernel_rfl) rfl #[.slice A0_0 l0_0.length c0_0] rfl z7_0 ?_; (with_reducible refine (impl_BlockOk.calls k _ _ l0_0 false _ ?side1 ?side2 A2.out).mono ?_); (case side1 => repeat (first | exact (Kd.C_below HR0_0.out HB.out) | (with_reducible refine Kd.C_alloc ?_ _) | (with_reducible refine Kd.C_drewN ?_ _) | (with_reducible refine Kd.C_drew ?_))); (case side2 => exact HC0_0.out); rintro e w12 ⟨rfl, hb⟩; refine ⟨_, rfl, ?_⟩; have n0_ := Aside0.mk (blk_below (g := gb313) (o := .cells #[.slice A0_0 l0_0.length c0_0, .int .i64 a0_1, .int .i64 a0_2, .int .i64 a0_3] 32 (0, 0)) z7_7 hb); have n1_ := Aside0.mk (below_step z7_5 hb); clear BK313; clear HB; have BK313 := n0_; have HB := n1_; clear n0_ n1_; (try clear hb); (try clear hb2); (try clear hk); (try clear hi)))
  go_ret
  exact ⟨by first | rfl | (simp [errW_none, errW_some] <;> rfl) | (simp [*, errW_none, errW_some] <;> rfl) | (simp [*, errW_none, errW_some, i64_w]; done), by repeat (first | (with_reducible first | exact HB.out | apply below_alloc | apply pw_below_drewN | apply below_drew1 | refine below_set ?_ GE313.out) | exact HB.out)⟩
def slices_Index_int_int.l0 : Nat → List Int → Int → Int → Int → Option (Int)
 | 0, _, _, _, _ => none
 | k + 1, x0, x1, x7, x8 => if x8 < x7 then (if 0 ≤ x8 then (if x8 < (x0.length : Int) then (if x1 = (rd x0 x8) then (some x8) else (slices_Index_int_int.l0 k x0 x1 x7 (wrap64 (x8 + 1)))) else (none)) else (none)) else (some (-1))
def slices_Index_int_int.f (k : Nat) (l0 : List Int) (a1 : Int) : Option (Int) := slices_Index_int_int.l0 k l0 a1 (l0.length : Int) 0
set_option maxHeartbeats 8000000 in
set_option maxRecDepth 100000 in
theorem slices_Index_int_int.calls (k : Nat) (A0 : Option Addr) (c0 : Nat) (l0 : List Int) (a1 : Int) (r : Int) (w : World) (hr0 : Kd.C (Kd.int .i64) w A0 l0.length l0) (hc0 : l0.length ≤ c0) (h : slices_Index_int_int.f k l0 a1 = some r) :
  Calls Try.prog 74 #[.slice A0 l0.length c0, .int .i64 a1] w fun e w' => e = .returned (.int .i64 r) ∧ Drawn0 w w' := by
 have HR0 := Aside0.mk hr0
 have HC0 := Aside0.mk hc0
 clear hr0 hc0
 have H : (slices_Index_int_int.l0 k l0 a1 (l0.length : Int) 0) = some r := h
 clear h
 have H' := Aside0.mk H
 clear H
 go_enter Try.func74, Try.ntmps74
 go_wp2
 go_loopg [8] k (fun kq v8 w' => ∃ (x8_1 : Int), v8 = .int .i64 x8_1 ∧ Aside0 (slices_Index_int_int.l0 kq l0 a1 (l0.length : Int) x8_1 = some r) ∧ Aside0 (kq ≤ k) ∧ Drawn0 w w')
 case atStart => exact ⟨(0), z7_3, H', ⟨Nat.le_refl _⟩, by repeat (first | exact Drawn0.refl _ | apply Drawn0.step)⟩
 case round =>
  clear H'
  obtain ⟨x8_1, rfl, HA, HK1, ⟨m1, rfl⟩⟩ := hrel
  cases gk with
  | zero => exact absurd HA.out (by simp [slices_Index_int_int.l0])
  | succ k1 =>
   have H := HA.out
   clear HA
   simp only [slices_Index_int_int.l0] at H
   by_cases c3 : x8_1 < (l0.length : Int)
   ·rw [if_pos c3] at H
    have c3b0 : decide (x8_1 < (l0.length : Int)) = true := decide_eq_true c3
    clear c3
    by_cases c4 : 0 ≤ x8_1
    ·rw [if_pos c4] at H
     have c4b0 : decide (0 ≤ x8_1) = true := decide_eq_true c4
     clear c4
     by_cases c5 : x8_1 < (l0.length : Int)
     ·rw [if_pos c5] at H
      have c5b0 : decide (x8_1 < (l0.length : Int)) = true := decide_eq_true c5
      clear c5
      by_cases c6 : a1 = (rd l0 x8_1)
      ·rw [if_pos c6] at H
       have c6b0 : (a1 == (rd l0 x8_1)) = true := beq_iff_eq.mpr c6
       have c6b1 : (a1 != (rd l0 x8_1)) = false := bne_eq_false_iff_eq.mpr c6
       clear c6
       obtain rfl := Option.some.inj H
       have p316 : 0 ≤ (x8_1 : Int) := of_decide_eq_true z7_6
       have q316 : x8_1 < (l0.length : Int) := of_decide_eq_true z7_6
       obtain ⟨ad316, e316, hx316_0⟩ := Kd.at_int HR0.out x8_1 p316 q316
       cases e316
       replace p316 := eq_true p316
       replace q316 := eq_true q316
       go_wp2
       go_ret
       exact ⟨by first | rfl | (simp; done) | (simp [*]; done), by repeat (first | exact Drawn0.refl _ | apply Drawn0.step)⟩
      ·rw [if_neg c6] at H
       have c6b0 : (a1 == (rd l0 x8_1)) = false := beq_eq_false_iff_ne.mpr c6
       have c6b1 : (a1 != (rd l0 x8_1)) = true := bne_iff_ne.mpr c6
       have H' := Aside0.mk H
       clear H
       have p316 : 0 ≤ (x8_1 : Int) := of_decide_eq_true z7_6
       have q316 : x8_1 < (l0.length : Int) := of_decide_eq_true z7_6
       obtain ⟨ad316, e316, hx316_0⟩ := Kd.at_int HR0.out x8_1 p316 q316
       cases e316
       replace p316 := eq_true p316
       replace q316 := eq_true q316
       go_wp2
       go_roundg k1
       case measure => have := HK1.out; omega
       case rel => exact ⟨(wrap64 (x8_1 + 1)), z7_3, H', ⟨by have := HK1.out; omega⟩, by repeat (first | exact Drawn0.refl _ | apply Drawn0.step)⟩
     ·rw [if_neg c5] at H
      exact absurd H (by simp)
    ·rw [if_neg c4] at H
     exact absurd H (by simp)
   ·rw [if_neg c3] at H
    have c3b0 : decide (x8_1 < (l0.length : Int)) = false := decide_eq_false c3
    clear c3
    obtain rfl := Option.some.inj H
    go_wp2
    go_ret
    exact ⟨by first | rfl | (simp; done) | (simp [*]; done), by repeat (first | exact Drawn0.refl _ | apply Drawn0.step)⟩
def slices_Contains_int_int.f (k : Nat) (l0 : List Int) (a1 : Int) : Option (Bool) := (slices_Index_int_int.f k l0 a1).bind fun t317 => (some (decide (t317 ≥ 0)))
set_option maxHeartbeats 8000000 in
set_option maxRecDepth 100000 in
theorem slices_Contains_int_int.calls (k : Nat) (A0 : Option Addr) (c0 : Nat) (l0 : List Int) (a1 : Int) (r : Bool) (w : World) (hr0 : Kd.C (Kd.int .i64) w A0 l0.length l0) (hc0 : l0.length ≤ c0) (h : slices_Contains_int_int.f k l0 a1 = some r) :
  Calls Try.prog 57 #[.slice A0 l0.length c0, .int .i64 a1] w fun e w' => e = .returned (.bool r) ∧ Drawn0 w w' := by
 have HR0 := Aside0.mk hr0
 have HC0 := Aside0.mk hc0
 clear hr0 hc0
 have H : ((slices_Index_int_int.f k l0 a1).bind fun t317 => (some (decide (t317 ≥ 0)))) = some r := h
 clear h
 replace H := Option.bind_eq_some_iff.mp H
 obtain ⟨t317, A30, H⟩ := H
 replace H : (some (decide (t317 ≥ 0))) = some r := H
 have A3 := Aside0.mk A30
 clear A30
 obtain rfl := Option.some.inj H
 go_enter Try.func57, Try.ntmps57
 go_wp2_with (first | ((with_reducible refine gate_callee (f := 74) rfl ?_); refine goesL_ (some 7) rfl rfl Try.func74 (by kernel_rfl) rfl #[.slice A0 l0.length c0, .int .i64 a1] rfl z7_0 ?_; (with_reducible refine (slices_Index_int_int.calls k _ _ l0 a1 t317 _ ?side1 ?side2 A3.out).mono ?_); (case side1 => repeat (first | exact HR0.out | (with_reducible refine Kd.C_alloc ?_ _) | (with_reducible refine Kd.C_drewN ?_ _) | (with_reducible refine Kd.C_drew ?_))); (case side2 => exact HC0.out); rintro e w' ⟨rfl, ⟨nd, rfl⟩⟩; refine ⟨_, rfl, ?_⟩))
 go_ret
 exact ⟨by first | rfl | (simp; done) | (simp [*]; done), by repeat (first | exact Drawn0.refl _ | apply Drawn0.step)⟩
def impl_HasVar.f (k : Nat) (l0 : List Int) (a1 : Int) : Option (Bool) := (slices_Contains_int_int.f k l0 a1).bind fun t318 => (some t318)
set_option maxHeartbeats 8000000 in
set_option maxRecDepth 100000 in
theorem impl_HasVar.calls (k : Nat) (A0 : Option Addr) (c0 : Nat) (l0 : List Int) (a1 : Int) (r : Bool) (w : World) (hr0 : Kd.C (Kd.int .i64) w A0 l0.length l0) (hc0 : l0.length ≤ c0) (h : impl_HasVar.f k l0 a1 = some r) :
  Calls Try.prog 39 #[.slice A0 l0.length c0, .int .i64 a1] w fun e w' => e = .returned (.bool r) ∧ Drawn0 w w' := by
 have HR0 := Aside0.mk hr0
 have HC0 := Aside0.mk hc0
 clear hr0 hc0
 have H : ((slices_Contains_int_int.f k l0 a1).bind fun t318 => (some t318)) = some r := h
 clear h
 replace H := Option.bind_eq_some_iff.mp H
 obtain ⟨t318, A30, H⟩ := H
 replace H : (some t318) = some r := H
 have A3 := Aside0.mk A30
 clear A30
 obtain rfl := Option.some.inj H
 go_enter Try.func39, Try.ntmps39
 go_wp2_with (first | ((with_reducible refine gate_callee (f := 57) rfl ?_); refine goesL_ (some 7) rfl rfl Try.func57 (by kernel_rfl) rfl #[.slice A0 l0.length c0, .int .i64 a1] rfl z7_0 ?_; (with_reducible refine (slices_Contains_int_int.calls k _ _ l0 a1 t318 _ ?side1 ?side2 A3.out).mono ?_); (case side1 => repeat (first | exact HR0.out | (with_reducible refine Kd.C_alloc ?_ _) | (with_reducible refine Kd.C_drewN ?_ _) | (with_reducible refine Kd.C_drew ?_))); (case side2 => exact HC0.out); rintro e w' ⟨rfl, ⟨nd, rfl⟩⟩; refine ⟨_, rfl, ?_⟩))
 go_ret
 exact ⟨by first | rfl | (simp; done) | (simp [*]; done), by repeat (first | exact Drawn0.refl _ | apply Drawn0.step)⟩
end Go.Proofs.Ytccjlmpeogifkaa.G
