/- Functions of the program as plain Lean functions, and that each call comes to its function's answer; written by a program of the session. No condition. -/
import Derived.Test.YtaicbghmfeehkaaGx0
import Derived.Test.YtaicbghmfeehkaaGx12
namespace Go.Proofs.Ytaicbghmfeehkaa.G
open Go.RowKit Go.Proofs.YtaicbghmfeehkaaW.PrintWords Go.Proofs.YtaicbghmfeehkaaW.PrintLast Go.Proofs.YtaicbghmfeehkaaW.PrintMore
attribute [local go_sem] max2_int min2_int max_two min_two max_three min_three max_four min_four   -- for this text's walks alone
set_option linter.unusedVariables false
set_option linter.unusedSimpArgs false

theorem z53_0 {P : Prop} (h : P := by repeat (first | (with_reducible first | exact HB.out | apply below_alloc | apply pw_below_drewN | apply below_drew1) | exact HB.out)) : P := h
theorem z53_1 {P : Prop} (h : P := by repeat (first | (with_reducible first | exact HB.out | apply below_alloc | apply pw_below_drewN | apply below_drew1 | refine below_set ?_ GE708.out) | exact HB.out)) : P := h
theorem z53_2 {P : Prop} (h : P := by (with_reducible repeat (first | refine blk_drewN ?_ _ | refine blk_drew ?_ | refine blk_alloc ?_ _)); exact BK708.out) : P := h
/-! ### impl_StmtCost: function 116 -/
def impl_StmtCost.f (k : Nat) (a0_0 : Int) (a0_1 : Int) (a0_2 : Int) (a0_3 : Int) (a0_4 : Int) (a0_5 : Int) : Option (Int) := (impl_StmtOk.f k a0_0 a0_1 a0_2 a0_3 a0_4 a0_5).bind fun t709 => (if t709 = true then ((some (([0, 2, 5, 4, 1, 1, 0] : List Int) : List Int)).bind fun y710 => (if 0 ≤ a0_0 then (if a0_0 < (y710.length : Int) then (some (rd y710 a0_0)) else (none)) else (none))) else (some 0))
theorem impl_StmtCost.mono : ∀ a0 a1 a2 a3 a4 a5 k, LeO (impl_StmtCost.f k a0 a1 a2 a3 a4 a5) (impl_StmtCost.f (k + 1) a0 a1 a2 a3 a4 a5) := by
  intro a0 a1 a2 a3 a4 a5 k
  unfold impl_StmtCost.f
  repeat' first
      | (with_reducible exact impl_StmtOk.mono _ _ _ _ _ _ _)
      | (with_reducible exact LeO.refl _)
      | (with_reducible exact LeO.none _)
      | (with_reducible refine LeO.ite ?_ ?_)
      | (with_reducible refine LeO.bind ?_ (fun _ => ?_))
      | exact impl_StmtOk.mono _ _ _ _ _ _ _
      | exact LeO.none _
      | refine LeO.ite ?_ ?_
      | refine LeO.bind ?_ (fun _ => ?_)
set_option maxHeartbeats 8000000 in
set_option maxRecDepth 100000 in
theorem impl_StmtCost.calls (k : Nat) (a0_0 : Int) (a0_1 : Int) (a0_2 : Int) (a0_3 : Int) (a0_4 : Int) (a0_5 : Int) (r : Int) (w : World) (h : impl_StmtCost.f k a0_0 a0_1 a0_2 a0_3 a0_4 a0_5 = some r) :
    Calls Try.prog 116 #[.agg #[.int .i64 a0_0, .int .i64 a0_1, .int .i64 a0_2, .int .i64 a0_3, .int .i64 a0_4, .int .i64 a0_5]] w fun e w' => e = .returned (.int .i64 r) ∧ Below w.heap.size w w' := by
  have hu119 := Try.underlying119
  have HB := Aside0.mk (Below.refl w.heap.size w)
  have H : ((impl_StmtOk.f k a0_0 a0_1 a0_2 a0_3 a0_4 a0_5).bind fun t709 => (if t709 = true then ((some (([0, 2, 5, 4, 1, 1, 0] : List Int) : List Int)).bind fun y710 => (if 0 ≤ a0_0 then (if a0_0 < (y710.length : Int) then (some (rd y710 a0_0)) else (none)) else (none))) else (some 0))) = some r := h
  clear h
  replace H := Option.bind_eq_some_iff.mp H
  obtain ⟨t709, A20, H⟩ := H
  replace H : (if t709 = true then ((some (([0, 2, 5, 4, 1, 1, 0] : List Int) : List Int)).bind fun y710 => (if 0 ≤ a0_0 then (if a0_0 < (y710.length : Int) then (some (rd y710 a0_0)) else (none)) else (none))) else (some 0)) = some r := H
  have A2 := Aside0.mk A20
  clear A20
  by_cases c3 : t709 = true
  · subst c3
    have H1 : ((some (([0, 2, 5, 4, 1, 1, 0] : List Int) : List Int)).bind fun y710 => (if 0 ≤ a0_0 then (if a0_0 < (y710.length : Int) then (some (rd y710 a0_0)) else (none)) else (none))) = some r := by rw [if_pos rfl] at H; exact H
    clear H
    have H := H1
    clear H1
    obtain ⟨y710, hy710⟩ : ∃ y_ : List Int, y_ = (([0, 2, 5, 4, 1, 1, 0] : List Int)) := ⟨_, rfl⟩
    replace H : (if 0 ≤ a0_0 then (if a0_0 < (y710.length : Int) then (some (rd y710 a0_0)) else (none)) else (none)) = some r := by first | (rw [hy710]; with_reducible exact H) | (have H2_ := (Option.bind_some _ _).symm.trans H; rw [hy710]; with_reducible exact H2_) | (have H2_ := (Option.bind_some _ _).symm.trans H; with_reducible exact H2_) | with_reducible exact H | (rw [hy710]; exact H) | exact H
    have Ny710 := Aside0.mk hy710
    clear hy710
    by_cases c4 : 0 ≤ a0_0
    · rw [if_pos c4] at H
      have c4b0 : decide (0 ≤ a0_0) = true := decide_eq_true c4
      clear c4
      by_cases c5 : a0_0 < (y710.length : Int)
      · rw [if_pos c5] at H
        have c5b0 : decide (a0_0 < (y710.length : Int)) = true := decide_eq_true c5
        clear c5
        obtain rfl := Option.some.inj H
        go_enter Try.func116, Try.ntmps116
        go_wp2_with (first | ((with_reducible refine gate_dst (N := 1) rfl ?_); refine box_event ?hg (N := 1) ?hd (cs := #[.int .i64 a0_0, .int .i64 a0_1, .int .i64 a0_2, .int .i64 a0_3, .int .i64 a0_4, .int .i64 a0_5]) (t := 119) ?hr ?_; (case hd => rfl); (case hg => rfl); (case hr => first | (go_simp; done) | (go_simp; rfl)); intro gb708 hg w6 hbox hb; have n0_ := Aside0.mk (below_step z53_0 hb); have n1_ := Aside0.mk (hbox); have n2_ := Aside0.mk ((by rw [hg]; exact (below_size z53_0) : w.heap.size ≤ gb708)); have n3_ := Aside0.mk ((by rw [hg]; exact (below_size z53_0) : w.heap.size ≤ gb708)); clear HB; have HB := n0_; have BK708 := n1_; have GW708 := n2_; have GE708 := n3_; clear n0_ n1_ n2_ n3_; clear hb hbox hg; have hcz7_0 : w6.cell? ⟨gb708, 0, none⟩ = some (.int .i64 a0_0) := (blk_cell BK708.out 0).trans rfl; have hcz7_1 : w6.cell? ⟨gb708, 1, none⟩ = some (.int .i64 a0_1) := (blk_cell BK708.out 1).trans rfl; have hcz7_2 : w6.cell? ⟨gb708, 2, none⟩ = some (.int .i64 a0_2) := (blk_cell BK708.out 2).trans rfl; have hcz7_3 : w6.cell? ⟨gb708, 3, none⟩ = some (.int .i64 a0_3) := (blk_cell BK708.out 3).trans rfl; have hcz7_4 : w6.cell? ⟨gb708, 4, none⟩ = some (.int .i64 a0_4) := (blk_cell BK708.out 4).trans rfl; have hcz7_5 : w6.cell? ⟨gb708, 5, none⟩ = some (.int .i64 a0_5) := (blk_cell BK708.out 5).trans rfl; have hfz7_0 := blk_frozen BK708.out 0; have hfz7_1 := blk_frozen BK708.out 1; have hfz7_2 := blk_frozen BK708.out 2; have hfz7_3 := blk_frozen BK708.out 3; have hfz7_4 := blk_frozen BK708.out 4; have hfz7_5 := blk_frozen BK708.out 5) | ((first | ((with_reducible refine gate_callee (f := 135) rfl ?_); refine goesL_ (some 4) rfl rfl Try.func135 (by kernel_rfl) rfl #[.agg #[.int .i64 a0_0, .int .i64 a0_1, .int .i64 a0_2, .int .i64 a0_3, .int .i64 a0_4, .int .i64 a0_5]] rfl (by (try simp only [List.map_toArray, List.map_cons, List.map_nil]); first | done | rfl | (simp only [List.length_drop, List.length_take]; rfl)) ?_; (with_reducible refine (impl_StmtOk.calls k a0_0 a0_1 a0_2 a0_3 a0_4 a0_5 true _ A2.out).mono ?_)) | (go_at_call 135; (with_reducible refine (impl_StmtOk.calls k a0_0 a0_1 a0_2 a0_3 a0_4 a0_5 true _ A2.out).mono ?_))); rintro e w8 ⟨rfl, hb⟩; (first | refine ⟨_, rfl, ?_⟩ | skip); have n0_ := Aside0.mk (blk_below (g := gb708) (o := .cells #[.int .i64 a0_0, .int .i64 a0_1, .int .i64 a0_2, .int .i64 a0_3, .int .i64 a0_4, .int .i64 a0_5] 119 (0, 0)) z53_2 hb); have n1_ := Aside0.mk (below_step z53_1 hb); clear BK708; clear HB; have BK708 := n0_; have HB := n1_; clear n0_ n1_; (try clear hb); (try clear hb2); (try clear hk); (try clear hi)) | ((with_reducible refine gate_dst (N := 6) rfl ?_); refine Kd.R_lit (Kd.int .i64) _ 3 ?hg (N := 6) ?hd (xs := ([0, 2, 5, 4, 1, 1, 0] : List Int)) (inner := [.int .i64 0, .int .i64 2, .int .i64 5, .int .i64 4, .int .i64 1, .int .i64 1, .int .i64 0]) (ok := fun _ => True) (okp := fun _ => True) ?hr ?hp (fun _ hk => hk) trivial (Below.refl _ _) (Nat.le_refl _) (by simp) ?_; (case hd => rfl); (case hg => rfl); (case hr => first | (go_simp; done) | (go_simp; rfl)); (case hp => exact (Reps.one (show Kd.M (Kd.int .i64) _ _ _ 0 [.int .i64 0] from rfl) (Reps.one (show Kd.M (Kd.int .i64) _ _ _ 2 [.int .i64 2] from rfl) (Reps.one (show Kd.M (Kd.int .i64) _ _ _ 5 [.int .i64 5] from rfl) (Reps.one (show Kd.M (Kd.int .i64) _ _ _ 4 [.int .i64 4] from rfl) (Reps.one (show Kd.M (Kd.int .i64) _ _ _ 1 [.int .i64 1] from rfl) (Reps.one (show Kd.M (Kd.int .i64) _ _ _ 1 [.int .i64 1] from rfl) (Reps.one (show Kd.M (Kd.int .i64) _ _ _ 0 [.int .i64 0] from rfl) (Reps.none _ _))))))))); intro v711 w9 ho10 hb hg_ hnew_; clear hg_ hnew_; (first | rw [← Ny710.out] at ho10 | (simp only [Int.reduceToNat] at ho10; rw [← Ny710.out] at ho10)); have n0_ := Aside0.mk (Kd.R_lower ho10 (below_size z53_1)); have n1_ := Aside0.mk (blk_below (g := gb708) (o := .cells #[.int .i64 a0_0, .int .i64 a0_1, .int .i64 a0_2, .int .i64 a0_3, .int .i64 a0_4, .int .i64 a0_5] 119 (0, 0)) z53_2 hb); have n2_ := Aside0.mk (below_step z53_1 hb); clear BK708; clear HB; have HO712 := n0_; have BK708 := n1_; have HB := n2_; clear n0_ n1_ n2_; clear hb ho10; have hcz11_0 : w9.cell? ⟨gb708, 0, none⟩ = some (.int .i64 a0_0) := (blk_cell BK708.out 0).trans rfl; have hcz11_1 : w9.cell? ⟨gb708, 1, none⟩ = some (.int .i64 a0_1) := (blk_cell BK708.out 1).trans rfl; have hcz11_2 : w9.cell? ⟨gb708, 2, none⟩ = some (.int .i64 a0_2) := (blk_cell BK708.out 2).trans rfl; have hcz11_3 : w9.cell? ⟨gb708, 3, none⟩ = some (.int .i64 a0_3) := (blk_cell BK708.out 3).trans rfl; have hcz11_4 : w9.cell? ⟨gb708, 4, none⟩ = some (.int .i64 a0_4) := (blk_cell BK708.out 4).trans rfl; have hcz11_5 : w9.cell? ⟨gb708, 5, none⟩ = some (.int .i64 a0_5) := (blk_cell BK708.out 5).trans rfl; have hfz11_0 := blk_frozen BK708.out 0; have hfz11_1 := blk_frozen BK708.out 1; have hfz11_2 := blk_frozen BK708.out 2; have hfz11_3 := blk_frozen BK708.out 3; have hfz11_4 := blk_frozen BK708.out 4; have hfz11_5 := blk_frozen BK708.out 5; obtain ⟨Ao12, co12, eo12⟩ := Kd.R_slice HO712.out; subst eo12; have p713 : 0 ≤ (a0_0 : Int) := of_decide_eq_true (by first | (with_reducible assumption) | assumption); have q713 : a0_0 < (y710.length : Int) := of_decide_eq_true (by first | (with_reducible assumption) | assumption); obtain ⟨ad713, e713, hx713_0⟩ := Kd.at_int (Kd.R_reads' HO712.out).2.2 a0_0 p713 q713; cases e713; replace p713 := eq_true p713; replace q713 := eq_true q713))
        go_ret
        exact ⟨by first | rfl | (simp [errW_none, errW_some] <;> rfl) | (simp [*, errW_none, errW_some] <;> rfl) | (simp [*, errW_none, errW_some, i64_w]; done), by repeat (first | (with_reducible first | exact HB.out | apply below_alloc | apply pw_below_drewN | apply below_drew1 | refine below_set ?_ GE708.out) | exact HB.out)⟩
      · rw [if_neg c5] at H
        exact absurd H (by simp)
    · rw [if_neg c4] at H
      exact absurd H (by simp)
  · replace c3 := Bool.eq_false_iff.mpr c3
    subst c3
    have H1 : (some 0) = some r := by rw [if_neg (show ¬ (false = true) by decide)] at H; exact H
    clear H
    have H := H1
    clear H1
    obtain rfl := Option.some.inj H
    go_enter Try.func116, Try.ntmps116
    go_wp2_with (first | ((with_reducible refine gate_dst (N := 1) rfl ?_); refine box_event ?hg (N := 1) ?hd (cs := #[.int .i64 a0_0, .int .i64 a0_1, .int .i64 a0_2, .int .i64 a0_3, .int .i64 a0_4, .int .i64 a0_5]) (t := 119) ?hr ?_; (case hd => rfl); (case hg => rfl); (case hr => first | (go_simp; done) | (go_simp; rfl)); intro gb708 hg w13 hbox hb; have n0_ := Aside0.mk (below_step z53_0 hb); have n1_ := Aside0.mk (hbox); have n2_ := Aside0.mk ((by rw [hg]; exact (below_size z53_0) : w.heap.size ≤ gb708)); have n3_ := Aside0.mk ((by rw [hg]; exact (below_size z53_0) : w.heap.size ≤ gb708)); clear HB; have HB := n0_; have BK708 := n1_; have GW708 := n2_; have GE708 := n3_; clear n0_ n1_ n2_ n3_; clear hb hbox hg; have hcz14_0 : w13.cell? ⟨gb708, 0, none⟩ = some (.int .i64 a0_0) := (blk_cell BK708.out 0).trans rfl; have hcz14_1 : w13.cell? ⟨gb708, 1, none⟩ = some (.int .i64 a0_1) := (blk_cell BK708.out 1).trans rfl; have hcz14_2 : w13.cell? ⟨gb708, 2, none⟩ = some (.int .i64 a0_2) := (blk_cell BK708.out 2).trans rfl; have hcz14_3 : w13.cell? ⟨gb708, 3, none⟩ = some (.int .i64 a0_3) := (blk_cell BK708.out 3).trans rfl; have hcz14_4 : w13.cell? ⟨gb708, 4, none⟩ = some (.int .i64 a0_4) := (blk_cell BK708.out 4).trans rfl; have hcz14_5 : w13.cell? ⟨gb708, 5, none⟩ = some (.int .i64 a0_5) := (blk_cell BK708.out 5).trans rfl; have hfz14_0 := blk_frozen BK708.out 0; have hfz14_1 := blk_frozen BK708.out 1; have hfz14_2 := blk_frozen BK708.out 2; have hfz14_3 := blk_frozen BK708.out 3; have hfz14_4 := blk_frozen BK708.out 4; have hfz14_5 := blk_frozen BK708.out 5) | ((first | ((with_reducible refine gate_callee (f := 135) rfl ?_); refine goesL_ (some 4) rfl rfl Try.func135 (by kernel_rfl) rfl #[.agg #[.int .i64 a0_0, .int .i64 a0_1, .int .i64 a0_2, .int .i64 a0_3, .int .i64 a0_4, .int .i64 a0_5]] rfl (by (try simp only [List.map_toArray, List.map_cons, List.map_nil]); first | done | rfl | (simp only [List.length_drop, List.length_take]; rfl)) ?_; (with_reducible refine (impl_StmtOk.calls k a0_0 a0_1 a0_2 a0_3 a0_4 a0_5 false _ A2.out).mono ?_)) | (go_at_call 135; (with_reducible refine (impl_StmtOk.calls k a0_0 a0_1 a0_2 a0_3 a0_4 a0_5 false _ A2.out).mono ?_))); rintro e w15 ⟨rfl, hb⟩; (first | refine ⟨_, rfl, ?_⟩ | skip); have n0_ := Aside0.mk (blk_below (g := gb708) (o := .cells #[.int .i64 a0_0, .int .i64 a0_1, .int .i64 a0_2, .int .i64 a0_3, .int .i64 a0_4, .int .i64 a0_5] 119 (0, 0)) z53_2 hb); have n1_ := Aside0.mk (below_step z53_1 hb); clear BK708; clear HB; have BK708 := n0_; have HB := n1_; clear n0_ n1_; (try clear hb); (try clear hb2); (try clear hk); (try clear hi)))
    go_ret
    exact ⟨by first | rfl | (simp [errW_none, errW_some] <;> rfl) | (simp [*, errW_none, errW_some] <;> rfl) | (simp [*, errW_none, errW_some, i64_w]; done), by repeat (first | (with_reducible first | exact HB.out | apply below_alloc | apply pw_below_drewN | apply below_drew1 | refine below_set ?_ GE708.out) | exact HB.out)⟩

end Go.Proofs.Ytaicbghmfeehkaa.G
