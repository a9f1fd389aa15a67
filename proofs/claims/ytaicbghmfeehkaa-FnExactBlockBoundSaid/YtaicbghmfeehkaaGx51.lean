/- Functions of the program as plain Lean functions, and that each call comes to its function's answer; written by a program of the session. No condition. -/
import Derived.Test.YtaicbghmfeehkaaGx0
import Derived.Test.YtaicbghmfeehkaaGx33
import Derived.Test.YtaicbghmfeehkaaGx50
namespace Go.Proofs.Ytaicbghmfeehkaa.G
open Go.RowKit Go.Proofs.YtaicbghmfeehkaaW.PrintWords Go.Proofs.YtaicbghmfeehkaaW.PrintLast Go.Proofs.YtaicbghmfeehkaaW.PrintMore
attribute [local go_sem] max2_int min2_int max_two min_two max_three min_three max_four min_four   -- for this text's walks alone
set_option linter.unusedVariables false
set_option linter.unusedSimpArgs false

theorem z51_0 {P : Prop} (h : P := by repeat (first | (with_reducible first | exact HB.out | apply below_alloc | apply pw_below_drewN | apply below_drew1) | exact HB.out)) : P := h
theorem z51_1 {P : Prop} (h : P := by repeat (first | exact (Kd.C_below HR0_0.out HB.out) | (with_reducible refine Kd.C_alloc ?_ _) | (with_reducible refine Kd.C_drewN ?_ _) | (with_reducible refine Kd.C_drew ?_))) : P := h
theorem z51_2 {P : Prop} (h : P := by repeat (first | (with_reducible first | exact HB.out | apply below_alloc | apply pw_below_drewN | apply below_drew1 | refine below_set ?_ GE699.out) | exact HB.out)) : P := h
theorem z51_3 {P : Prop} (h : P := by (try simp only [List.map_toArray, List.map_cons, List.map_nil]); first | done | rfl | (simp only [List.length_drop, List.length_take]; rfl)) : P := h
theorem z51_4 {P : Prop} (h : P := by (with_reducible repeat (first | refine blk_drewN ?_ _ | refine blk_drew ?_ | refine blk_alloc ?_ _)); exact BK699.out) : P := h
/-! ### spec_BlockBound: function 28 -/
def spec_BlockBound.f (k : Nat) (l0_0 : List (S119)) (a0_1 : Int) (a0_2 : Int) (a0_3 : Int) : Option (Int) := (spec_l08Ok.f k l0_0 a0_1 a0_2 a0_3).bind fun t700 => (if t700 = true then ((spec_l21Bound.f k l0_0 0 (l0_0.length : Int)).bind fun t701 => (some t701)) else (some (-1)))
theorem spec_BlockBound.mono : ∀ a0 a1 a2 a3 k, LeO (spec_BlockBound.f k a0 a1 a2 a3) (spec_BlockBound.f (k + 1) a0 a1 a2 a3) := by
  intro a0 a1 a2 a3 k
  unfold spec_BlockBound.f
  repeat' first
      | (with_reducible exact spec_l08Ok.mono _ _ _ _ _)
      | (with_reducible exact spec_l21Bound.mono _ _ _ _)
      | (with_reducible exact LeO.refl _)
      | (with_reducible exact LeO.none _)
      | (with_reducible refine LeO.ite ?_ ?_)
      | (with_reducible refine LeO.bind ?_ (fun _ => ?_))
      | exact spec_l08Ok.mono _ _ _ _ _
      | exact spec_l21Bound.mono _ _ _ _
      | exact LeO.none _
      | refine LeO.ite ?_ ?_
      | refine LeO.bind ?_ (fun _ => ?_)
set_option maxHeartbeats 8000000 in
set_option maxRecDepth 100000 in
theorem spec_BlockBound.calls (k : Nat) (A0_0 : Option Addr) (c0_0 : Nat) (l0_0 : List (S119)) (a0_1 : Int) (a0_2 : Int) (a0_3 : Int) (r : Int) (w : World) (hr0_0 : Kd.C k119 w A0_0 l0_0.length l0_0) (hc0_0 : l0_0.length ≤ c0_0) (h : spec_BlockBound.f k l0_0 a0_1 a0_2 a0_3 = some r) :
    Calls Try.prog 28 #[.agg #[.slice A0_0 l0_0.length c0_0, .int .i64 a0_1, .int .i64 a0_2, .int .i64 a0_3]] w fun e w' => e = .returned (.int .i64 r) ∧ Below w.heap.size w w' := by
  have hu28 := Try.underlying28
  have HR0_0 := Aside0.mk hr0_0
  have HC0_0 := Aside0.mk hc0_0
  clear hr0_0 hc0_0
  have HB := Aside0.mk (Below.refl w.heap.size w)
  have H : ((spec_l08Ok.f k l0_0 a0_1 a0_2 a0_3).bind fun t700 => (if t700 = true then ((spec_l21Bound.f k l0_0 0 (l0_0.length : Int)).bind fun t701 => (some t701)) else (some (-1)))) = some r := h
  clear h
  replace H := Option.bind_eq_some_iff.mp H
  obtain ⟨t700, A20, H⟩ := H
  replace H : (if t700 = true then ((spec_l21Bound.f k l0_0 0 (l0_0.length : Int)).bind fun t701 => (some t701)) else (some (-1))) = some r := H
  have A2 := Aside0.mk A20
  clear A20
  by_cases c3 : t700 = true
  · subst c3
    have H1 : ((spec_l21Bound.f k l0_0 0 (l0_0.length : Int)).bind fun t701 => (some t701)) = some r := by rw [if_pos rfl] at H; exact H
    clear H
    have H := H1
    clear H1
    replace H := Option.bind_eq_some_iff.mp H
    obtain ⟨t701, A40, H⟩ := H
    replace H : (some t701) = some r := H
    have A4 := Aside0.mk A40
    clear A40
    obtain rfl := Option.some.inj H
    go_enter Try.func28, Try.ntmps28
    go_wp2_with (first | ((with_reducible refine gate_dst (N := 1) rfl ?_); refine box_event ?hg (N := 1) ?hd (cs := #[.slice A0_0 l0_0.length c0_0, .int .i64 a0_1, .int .i64 a0_2, .int .i64 a0_3]) (t := 28) ?hr ?_; (case hd => rfl); (case hg => rfl); (case hr => first | (go_simp; done) | (go_simp; rfl)); intro gb699 hg w5 hbox hb; have n0_ := Aside0.mk (below_step z51_0 hb); have n1_ := Aside0.mk (hbox); have n2_ := Aside0.mk ((by rw [hg]; exact (below_size z51_0) : w.heap.size ≤ gb699)); have n3_ := Aside0.mk ((by rw [hg]; exact (below_size z51_0) : w.heap.size ≤ gb699)); clear HB; have HB := n0_; have BK699 := n1_; have GW699 := n2_; have GE699 := n3_; clear n0_ n1_ n2_ n3_; clear hb hbox hg; have hcz6_0 : w5.cell? ⟨gb699, 0, none⟩ = some (.slice A0_0 l0_0.length c0_0) := (blk_cell BK699.out 0).trans rfl; have hcz6_1 : w5.cell? ⟨gb699, 1, none⟩ = some (.int .i64 a0_1) := (blk_cell BK699.out 1).trans rfl; have hcz6_2 : w5.cell? ⟨gb699, 2, none⟩ = some (.int .i64 a0_2) := (blk_cell BK699.out 2).trans rfl; have hcz6_3 : w5.cell? ⟨gb699, 3, none⟩ = some (.int .i64 a0_3) := (blk_cell BK699.out 3).trans rfl; have hfz6_0 := blk_frozen BK699.out 0; have hfz6_1 := blk_frozen BK699.out 1; have hfz6_2 := blk_frozen BK699.out 2; have hfz6_3 := blk_frozen BK699.out 3) | ((first | ((with_reducible refine gate_callee (f := 68) rfl ?_); refine goesL_ (some 4) rfl rfl Try.func68 (by kernel_rfl) rfl #[.agg #[.slice A0_0 l0_0.length c0_0, .int .i64 a0_1, .int .i64 a0_2, .int .i64 a0_3]] rfl z51_3 ?_; (with_reducible refine (spec_l08Ok.calls k _ _ l0_0 a0_1 a0_2 a0_3 true _ ?side1 ?side2 A2.out).mono ?_)) | (go_at_call 68; (with_reducible refine (spec_l08Ok.calls k _ _ l0_0 a0_1 a0_2 a0_3 true _ ?side1 ?side2 A2.out).mono ?_))); (case side1 => exact z51_1); (case side2 => exact HC0_0.out); rintro e w7 ⟨rfl, hb⟩; (first | refine ⟨_, rfl, ?_⟩ | skip); have n0_ := Aside0.mk (blk_below (g := gb699) (o := .cells #[.slice A0_0 l0_0.length c0_0, .int .i64 a0_1, .int .i64 a0_2, .int .i64 a0_3] 28 (0, 0)) z51_4 hb); have n1_ := Aside0.mk (below_step z51_2 hb); clear BK699; clear HB; have BK699 := n0_; have HB := n1_; clear n0_ n1_; (try clear hb); (try clear hb2); (try clear hk); (try clear hi); have hcz8_0 : w7.cell? ⟨gb699, 0, none⟩ = some (.slice A0_0 l0_0.length c0_0) := (blk_cell BK699.out 0).trans rfl; have hcz8_1 : w7.cell? ⟨gb699, 1, none⟩ = some (.int .i64 a0_1) := (blk_cell BK699.out 1).trans rfl; have hcz8_2 : w7.cell? ⟨gb699, 2, none⟩ = some (.int .i64 a0_2) := (blk_cell BK699.out 2).trans rfl; have hcz8_3 : w7.cell? ⟨gb699, 3, none⟩ = some (.int .i64 a0_3) := (blk_cell BK699.out 3).trans rfl; have hfz8_0 := blk_frozen BK699.out 0; have hfz8_1 := blk_frozen BK699.out 1; have hfz8_2 := blk_frozen BK699.out 2; have hfz8_3 := blk_frozen BK699.out 3) | ((first | ((with_reducible refine gate_callee (f := 78) rfl ?_); refine goesL_ (some 11) rfl rfl Try.func78 (by kernel_rfl) rfl #[.slice A0_0 l0_0.length c0_0, .int .i64 0, .int .i64 (l0_0.length : Int)] rfl z51_3 ?_; (with_reducible refine (spec_l21Bound.calls k _ _ l0_0 0 (l0_0.length : Int) t701 _ ?side1 ?side2 A4.out).mono ?_)) | (go_at_call 78; (with_reducible refine (spec_l21Bound.calls k _ _ l0_0 0 (l0_0.length : Int) t701 _ ?side1 ?side2 A4.out).mono ?_))); (case side1 => exact z51_1); (case side2 => exact HC0_0.out); rintro e w9 ⟨rfl, hb⟩; (first | refine ⟨_, rfl, ?_⟩ | skip); have n0_ := Aside0.mk (blk_below (g := gb699) (o := .cells #[.slice A0_0 l0_0.length c0_0, .int .i64 a0_1, .int .i64 a0_2, .int .i64 a0_3] 28 (0, 0)) z51_4 hb); have n1_ := Aside0.mk (below_step z51_2 hb); clear BK699; clear HB; have BK699 := n0_; have HB := n1_; clear n0_ n1_; (try clear hb); (try clear hb2); (try clear hk); (try clear hi)))
    go_ret
    exact ⟨by first | rfl | (simp [errW_none, errW_some] <;> rfl) | (simp [*, errW_none, errW_some] <;> rfl) | (simp [*, errW_none, errW_some, i64_w]; done), by repeat (first | (with_reducible first | exact HB.out | apply below_alloc | apply pw_below_drewN | apply below_drew1 | refine below_set ?_ GE699.out) | exact HB.out)⟩
  · replace c3 := Bool.eq_false_iff.mpr c3
    subst c3
    have H1 : (some (-1)) = some r := by rw [if_neg (show ¬ (false = true) by decide)] at H; exact H
    clear H
    have H := H1
    clear H1
    obtain rfl := Option.some.inj H
    go_enter Try.func28, Try.ntmps28
    go_wp2_with (first | ((with_reducible refine gate_dst (N := 1) rfl ?_); refine box_event ?hg (N := 1) ?hd (cs := #[.slice A0_0 l0_0.length c0_0, .int .i64 a0_1, .int .i64 a0_2, .int .i64 a0_3]) (t := 28) ?hr ?_; (case hd => rfl); (case hg => rfl); (case hr => first | (go_simp; done) | (go_simp; rfl)); intro gb699 hg w10 hbox hb; have n0_ := Aside0.mk (below_step z51_0 hb); have n1_ := Aside0.mk (hbox); have n2_ := Aside0.mk ((by rw [hg]; exact (below_size z51_0) : w.heap.size ≤ gb699)); have n3_ := Aside0.mk ((by rw [hg]; exact (below_size z51_0) : w.heap.size ≤ gb699)); clear HB; have HB := n0_; have BK699 := n1_; have GW699 := n2_; have GE699 := n3_; clear n0_ n1_ n2_ n3_; clear hb hbox hg; have hcz11_0 : w10.cell? ⟨gb699, 0, none⟩ = some (.slice A0_0 l0_0.length c0_0) := (blk_cell BK699.out 0).trans rfl; have hcz11_1 : w10.cell? ⟨gb699, 1, none⟩ = some (.int .i64 a0_1) := (blk_cell BK699.out 1).trans rfl; have hcz11_2 : w10.cell? ⟨gb699, 2, none⟩ = some (.int .i64 a0_2) := (blk_cell BK699.out 2).trans rfl; have hcz11_3 : w10.cell? ⟨gb699, 3, none⟩ = some (.int .i64 a0_3) := (blk_cell BK699.out 3).trans rfl; have hfz11_0 := blk_frozen BK699.out 0; have hfz11_1 := blk_frozen BK699.out 1; have hfz11_2 := blk_frozen BK699.out 2; have hfz11_3 := blk_frozen BK699.out 3) | ((first | ((with_reducible refine gate_callee (f := 68) rfl ?_); refine goesL_ (some 4) rfl rfl Try.func68 (by kernel_rfl) rfl #[.agg #[.slice A0_0 l0_0.length c0_0, .int .i64 a0_1, .int .i64 a0_2, .int .i64 a0_3]] rfl z51_3 ?_; (with_reducible refine (spec_l08Ok.calls k _ _ l0_0 a0_1 a0_2 a0_3 false _ ?side1 ?side2 A2.out).mono ?_)) | (go_at_call 68; (with_reducible refine (spec_l08Ok.calls k _ _ l0_0 a0_1 a0_2 a0_3 false _ ?side1 ?side2 A2.out).mono ?_))); (case side1 => exact z51_1); (case side2 => exact HC0_0.out); rintro e w12 ⟨rfl, hb⟩; (first | refine ⟨_, rfl, ?_⟩ | skip); have n0_ := Aside0.mk (blk_below (g := gb699) (o := .cells #[.slice A0_0 l0_0.length c0_0, .int .i64 a0_1, .int .i64 a0_2, .int .i64 a0_3] 28 (0, 0)) z51_4 hb); have n1_ := Aside0.mk (below_step z51_2 hb); clear BK699; clear HB; have BK699 := n0_; have HB := n1_; clear n0_ n1_; (try clear hb); (try clear hb2); (try clear hk); (try clear hi)))
    go_ret
    exact ⟨by first | rfl | (simp [errW_none, errW_some] <;> rfl) | (simp [*, errW_none, errW_some] <;> rfl) | (simp [*, errW_none, errW_some, i64_w]; done), by repeat (first | (with_reducible first | exact HB.out | apply below_alloc | apply pw_below_drewN | apply below_drew1 | refine below_set ?_ GE699.out) | exact HB.out)⟩

end Go.Proofs.Ytaicbghmfeehkaa.G
