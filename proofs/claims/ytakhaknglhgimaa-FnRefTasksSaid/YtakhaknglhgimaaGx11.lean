/- Functions of the program as plain Lean functions, and that each call comes to its function's answer; written by a program of the session. No condition. -/
import Derived.Test.YtakhaknglhgimaaGx0
import Derived.Test.YtakhaknglhgimaaGx2
import Derived.Test.YtakhaknglhgimaaGx4
import Derived.Test.YtakhaknglhgimaaGx10
namespace Go.Proofs.Ytakhaknglhgimaa.G
open Go.RowKit Go.Proofs.YtakhaknglhgimaaW.PrintWords Go.Proofs.YtakhaknglhgimaaW.PrintLast Go.Proofs.YtakhaknglhgimaaW.PrintMore
attribute [local go_sem] max2_int min2_int max_two min_two max_three min_three max_four min_four   -- for this text's walks alone
set_option linter.unusedVariables false
set_option linter.unusedSimpArgs false

theorem z11_0 {P : Prop} (h : P := by repeat (first | (with_reducible first | exact HB.out | apply below_alloc | apply pw_below_drewN | apply below_drew1 | refine below_set ?_ GE422.out) | exact HB.out)) : P := h
theorem z11_1 {P : Prop} (h : P := by (with_reducible repeat (first | refine blk_drewN ?_ _ | refine blk_drew ?_ | refine blk_alloc ?_ _)); exact BK422.out) : P := h
theorem z11_2 {P : Prop} (h : P := by repeat (first | (with_reducible exact HR436.out) | (with_reducible refine Kd.C_alloc ?_ _) | (with_reducible refine Kd.C_drewN ?_ _) | (with_reducible refine Kd.C_drew ?_) | exact HR436.out)) : P := h
theorem z11_3 {P : Prop} (h : P := by repeat (first | (with_reducible first | exact HB.out | apply below_alloc | apply pw_below_drewN | apply below_drew1 | refine below_set ?_ GE422.out | refine below_set ?_ GE445.out) | exact HB.out)) : P := h
theorem z11_4 {P : Prop} (h : P := by (with_reducible repeat (first | apply Kd.R_alloc | apply Kd.R_drewN | apply Kd.R_drew)); exact HO_6.out) : P := h
theorem z11_5 {P : Prop} (h : P := by (with_reducible repeat (first | apply Kd.R_alloc | apply Kd.R_drewN | apply Kd.R_drew)); exact HO_4.out) : P := h
theorem z11_6 {P : Prop} (h : P := by (with_reducible repeat (first | apply Kd.S_alloc | apply Kd.S_drewN | apply Kd.S_drew)); exact HO_423000.out) : P := h
theorem z11_7 {P : Prop} (h : P := by (try simp only [List.map_toArray, List.map_cons, List.map_nil]); first | done | rfl | (simp only [List.length_drop, List.length_take]; rfl)) : P := h
theorem z11_8 {P : Prop} (h : P := by (with_reducible repeat (first | apply Kd.S_alloc | apply Kd.S_drewN | apply Kd.S_drew)); exact HO_5.out) : P := h
theorem z11_9 {P : Prop} (h : P := by (with_reducible repeat (first | refine blk_drewN ?_ _ | refine blk_drew ?_ | refine blk_alloc ?_ _)); exact BK445.out) : P := h
theorem z11_10 {P : Prop} (h : P := by repeat (first | exact (Kd.S_reads' HO_423000.out).2.2 | (with_reducible refine Kd.C_alloc ?_ _) | (with_reducible refine Kd.C_drewN ?_ _) | (with_reducible refine Kd.C_drew ?_))) : P := h
theorem z11_11 {P : Prop} (h : P := by repeat (first | exact (Kd.R_reads' HO_4.out).2.2 | (with_reducible refine Kd.C_alloc ?_ _) | (with_reducible refine Kd.C_drewN ?_ _) | (with_reducible refine Kd.C_drew ?_))) : P := h
theorem z11_12 {P : Prop} (h : P := by kernel_rfl) : P := h
theorem z11_13 {P : Prop} (h : P := by (with_reducible repeat (first | apply Kd.S_alloc | apply Kd.S_drewN | apply Kd.S_drew)); exact Kd.S_mono HO_5.out (fun _ hk => ⟨hk.1.2, ⟨hk.2, ⟨hk.1.1.1, hk.1.1.2⟩⟩⟩)) : P := h
theorem z11_14 {P : Prop} (h : P := by (with_reducible repeat (first | apply Kd.R_alloc | apply Kd.R_drewN | apply Kd.R_drew)); exact Kd.R_mono HO442.out (fun _ hk => ⟨hk.1.1, ⟨hk.1.2, hk.2⟩⟩)) : P := h
theorem z11_15 {P : Prop} (h : P := by (with_reducible repeat (first | apply Kd.R_alloc | apply Kd.R_drewN | apply Kd.R_drew)); exact Kd.R_mono HO439.out (fun _ hk => ⟨hk.1.1, ⟨hk.1.2, hk.2⟩⟩)) : P := h
theorem z11_16 {P : Prop} (h : P := by (with_reducible repeat (first | apply Kd.R_alloc | apply Kd.R_drewN | apply Kd.R_drew)); exact Kd.R_mono HO_6.out (fun _ hk => ⟨hk.1.2, ⟨hk.2, hk.1.1⟩⟩)) : P := h
theorem z11_17 {P : Prop} (h : P := by (with_reducible repeat (first | apply Kd.R_alloc | apply Kd.R_drewN | apply Kd.R_drew)); exact Kd.R_mono HO_4.out (fun _ hk => ⟨hk.1.2, ⟨hk.2, hk.1.1⟩⟩)) : P := h
theorem z11_18 {P : Prop} (h : P := by repeat (first | (with_reducible first | exact HB.out | apply below_alloc | apply pw_below_drewN | apply below_drew1) | exact HB.out)) : P := h
theorem z11_19 {P : Prop} (h : P := by simp only [putAll, Act.put, List.setIfInBounds_toArray, List.set_cons_zero, List.set_cons_succ]) : P := h
theorem z11_20 {P : Prop} (h : P := by first | (with_reducible assumption) | assumption) : P := h
theorem z11_21 {P : Prop} (h : P := by (with_reducible repeat (first | apply Kd.R_alloc | apply Kd.R_drewN | apply Kd.R_drew)); exact HO425.out) : P := h
theorem z11_22 {P : Prop} (h : P := by repeat (first | exact HR0.out | (with_reducible refine Kd.C_alloc ?_ _) | (with_reducible refine Kd.C_drewN ?_ _) | (with_reducible refine Kd.C_drew ?_))) : P := h
theorem z11_23 {P : Prop} (h : P := by first | (go_simp; done) | (go_simp; rfl)) : P := h
theorem z11_24 {P : Prop} (h : P := by repeat (first | exact z11_2 | (with_reducible refine Kd.C_alloc ?_ _) | (with_reducible refine Kd.C_drewN ?_ _) | (with_reducible refine Kd.C_drew ?_))) : P := h
theorem z11_25 {P : Prop} (h : P := by rw [hg]; exact Nat.ne_of_lt (blk_lt (g := gb422) (o := .cells #[.slice Ao11 t419.length co11] 26 (0, 0)) z11_1)) : P := h
theorem z11_26 {P : Prop} (h : P := by rw [hg]; exact Nat.ne_of_gt (blk_lt (g := gb422) (o := .cells #[.slice Ao11 t419.length co11] 26 (0, 0)) z11_1)) : P := h
theorem z11_27 {P : Prop} (h : P := by rw [hg]; exact (below_size z11_0)) : P := h
/-! ### laws_FnRefTasks: function 4 -/
mutual
def laws_FnRefTasks.j0 : Nat → List Int → List (List Int) → List Int → Bool → List (S34) → Option (Bool)
  | 0, _, _, _, _, _ => none
  | k + 1, x4, x5, x6, x37, x423000 => if x37 = true then (some false) else (laws_FnRefTasks.l0 k x4 x5 x6 1 x423000)
def laws_FnRefTasks.l0 : Nat → List Int → List (List Int) → List Int → Int → List (S34) → Option (Bool)
  | 0, _, _, _, _, _ => none
  | k + 1, x4, x5, x6, x7, x423000 => if x7 < (x6.length : Int) then (if 0 ≤ x7 then (if x7 ≤ (x5.length : Int) then ((impl_RefRun.f k x423000 0 x4 (x5.take (x7 : Int).toNat)).bind fun bt437 => (if bt437.2.2.2 = true then (if bt437.2.2.1 = (rd x6 x7) then (laws_FnRefTasks.l0 k x4 x5 x6 (wrap64 (x7 + 1)) x423000) else (some false)) else (some false))) else (none)) else (none)) else (some true)
end
def laws_FnRefTasks.f (k : Nat) (l0 : List Int) : Option (Bool) := (laws_big.f l0).bind fun t418 => (if t418 = true then (some true) else ((spec_DrawProgram.f k l0).bind fun t419 => ((spec_DrawVars.f k l0).bind fun t423 => ((spec_DrawUsed.f k l0).bind fun t426 => ((impl_RefTasks.f k t419 0 t423 t426).bind fun t429 => (if (t429.length : Int) = (t426.length : Int) then (if (t429.length : Int) > 0 then (if 0 < (t429.length : Int) then (laws_FnRefTasks.j0 k t423 t426 t429 ((rd t429 0) != 0) t419) else (none)) else (laws_FnRefTasks.j0 k t423 t426 t429 false t419)) else (laws_FnRefTasks.j0 k t423 t426 t429 true t419)))))))
theorem laws_FnRefTasks.mono_l : ∀ k, (∀ y0 y1 y2 y3 y4, LeO (laws_FnRefTasks.j0 k y0 y1 y2 y3 y4) (laws_FnRefTasks.j0 (k + 1) y0 y1 y2 y3 y4)) ∧ (∀ y0 y1 y2 y3 y4, LeO (laws_FnRefTasks.l0 k y0 y1 y2 y3 y4) (laws_FnRefTasks.l0 (k + 1) y0 y1 y2 y3 y4))
  | 0 => ⟨fun _ _ _ _ _ r h => by simp [laws_FnRefTasks.j0] at h, fun _ _ _ _ _ r h => by simp [laws_FnRefTasks.l0] at h⟩
  | k + 1 => by
    obtain ⟨ih0, ih1⟩ := laws_FnRefTasks.mono_l k
    refine ⟨?_, ?_⟩
    · intro y0 y1 y2 y3 y4
      unfold laws_FnRefTasks.j0
      repeat' first
      | (with_reducible exact ih0 _ _ _ _ _)
      | (with_reducible exact ih1 _ _ _ _ _)
      | (with_reducible exact impl_RefRun.mono _ _ _ _ _)
      | (with_reducible exact impl_RefTasks.mono _ _ _ _ _)
      | (with_reducible exact spec_DrawProgram.mono _ _)
      | (with_reducible exact spec_DrawUsed.mono _ _)
      | (with_reducible exact spec_DrawVars.mono _ _)
      | (with_reducible exact LeO.refl _)
      | (with_reducible exact LeO.none _)
      | (with_reducible refine LeO.ite ?_ ?_)
      | (with_reducible refine LeO.bind ?_ (fun _ => ?_))
      | exact ih0 _ _ _ _ _
      | exact ih1 _ _ _ _ _
      | exact impl_RefRun.mono _ _ _ _ _
      | exact impl_RefTasks.mono _ _ _ _ _
      | exact spec_DrawProgram.mono _ _
      | exact spec_DrawUsed.mono _ _
      | exact spec_DrawVars.mono _ _
      | exact LeO.none _
      | refine LeO.ite ?_ ?_
      | refine LeO.bind ?_ (fun _ => ?_)
    · intro y0 y1 y2 y3 y4
      unfold laws_FnRefTasks.l0
      repeat' first
      | (with_reducible exact ih0 _ _ _ _ _)
      | (with_reducible exact ih1 _ _ _ _ _)
      | (with_reducible exact impl_RefRun.mono _ _ _ _ _)
      | (with_reducible exact impl_RefTasks.mono _ _ _ _ _)
      | (with_reducible exact spec_DrawProgram.mono _ _)
      | (with_reducible exact spec_DrawUsed.mono _ _)
      | (with_reducible exact spec_DrawVars.mono _ _)
      | (with_reducible exact LeO.refl _)
      | (with_reducible exact LeO.none _)
      | (with_reducible refine LeO.ite ?_ ?_)
      | (with_reducible refine LeO.bind ?_ (fun _ => ?_))
      | exact ih0 _ _ _ _ _
      | exact ih1 _ _ _ _ _
      | exact impl_RefRun.mono _ _ _ _ _
      | exact impl_RefTasks.mono _ _ _ _ _
      | exact spec_DrawProgram.mono _ _
      | exact spec_DrawUsed.mono _ _
      | exact spec_DrawVars.mono _ _
      | exact LeO.none _
      | refine LeO.ite ?_ ?_
      | refine LeO.bind ?_ (fun _ => ?_)
theorem laws_FnRefTasks.mono : ∀ a0 k, LeO (laws_FnRefTasks.f k a0) (laws_FnRefTasks.f (k + 1) a0) := by
  intro a0 k
  obtain ⟨ih0, ih1⟩ := laws_FnRefTasks.mono_l k
  unfold laws_FnRefTasks.f
  repeat' first
      | (with_reducible exact ih0 _ _ _ _ _)
      | (with_reducible exact ih1 _ _ _ _ _)
      | (with_reducible exact impl_RefRun.mono _ _ _ _ _)
      | (with_reducible exact impl_RefTasks.mono _ _ _ _ _)
      | (with_reducible exact spec_DrawProgram.mono _ _)
      | (with_reducible exact spec_DrawUsed.mono _ _)
      | (with_reducible exact spec_DrawVars.mono _ _)
      | (with_reducible exact LeO.refl _)
      | (with_reducible exact LeO.none _)
      | (with_reducible refine LeO.ite ?_ ?_)
      | (with_reducible refine LeO.bind ?_ (fun _ => ?_))
      | exact ih0 _ _ _ _ _
      | exact ih1 _ _ _ _ _
      | exact impl_RefRun.mono _ _ _ _ _
      | exact impl_RefTasks.mono _ _ _ _ _
      | exact spec_DrawProgram.mono _ _
      | exact spec_DrawUsed.mono _ _
      | exact spec_DrawVars.mono _ _
      | exact LeO.none _
      | refine LeO.ite ?_ ?_
      | refine LeO.bind ?_ (fun _ => ?_)
def laws_FnRefTasks.T12 : Bool × List (List Nat × List Nat) := (true, [([], []), ([], []), ([], []), ([], []), ([2, 3], [2, 3]), ([0, 1, 4], [0, 1, 4]), ([5], [5]), ([6], [6]), ([6], [6]), ([], []), ([9, 7, 5, 0, 1, 2, 3, 4, 5, 6, 7, 9], [7, 9]), ([8, 10, 0, 1, 2, 3, 4, 5, 6, 7, 8, 9, 10], [8])])
def laws_FnRefTasks.B12 : List Nat := [0, 0, 0, 0, 12, 31, 63, 127, 127, 0, 767, 2047]
theorem laws_FnRefTasks.tab12 : rtab .any (opsOf Try.f4 12) = laws_FnRefTasks.T12 := by kernel_rfl
theorem laws_FnRefTasks.bits12 : waitsOk laws_FnRefTasks.T12.2 laws_FnRefTasks.B12 = true := by kernel_rfl
def laws_FnRefTasks.T13 : Bool × List (List Nat × List Nat) := (true, [([], []), ([0], [0]), ([1], [1]), ([2], [2]), ([3, 2], [2, 3]), ([2], [2]), ([2], [2]), ([5, 6, 2], [2, 5, 6]), ([7, 2], [2, 7]), ([4, 8, 2], [2, 4, 8]), ([2, 9], [2, 9])])
def laws_FnRefTasks.B13 : List Nat := [0, 1, 3, 7, 15, 7, 7, 103, 231, 511, 1023]
theorem laws_FnRefTasks.tab13 : rtab .any (opsOf Try.f4 13) = laws_FnRefTasks.T13 := by kernel_rfl
theorem laws_FnRefTasks.bits13 : waitsOk laws_FnRefTasks.T13.2 laws_FnRefTasks.B13 = true := by kernel_rfl
set_option maxHeartbeats 8000000 in
set_option maxRecDepth 100000 in
theorem laws_FnRefTasks.calls (k : Nat) (A0 : Option Addr) (c0 : Nat) (l0 : List Int) (r : Bool) (w : World) (hr0 : Kd.C (Kd.int .u8) w A0 l0.length l0) (hc0 : l0.length ≤ c0) (h : laws_FnRefTasks.f k l0 = some r) :
    Calls Try.prog 4 #[.slice A0 l0.length c0] w fun e w' => e = .returned (.bool r) ∧ Below w.heap.size w w' := by
  have hu26 := Try.underlying26
  have hu44 := Try.underlying44
  have HR0 := Aside0.mk hr0
  have HC0 := Aside0.mk hc0
  clear hr0 hc0
  have HB := Aside0.mk (Below.refl w.heap.size w)
  have H : ((laws_big.f l0).bind fun t418 => (if t418 = true then (some true) else ((spec_DrawProgram.f k l0).bind fun t419 => ((spec_DrawVars.f k l0).bind fun t423 => ((spec_DrawUsed.f k l0).bind fun t426 => ((impl_RefTasks.f k t419 0 t423 t426).bind fun t429 => (if (t429.length : Int) = (t426.length : Int) then (if (t429.length : Int) > 0 then (if 0 < (t429.length : Int) then (laws_FnRefTasks.j0 k t423 t426 t429 ((rd t429 0) != 0) t419) else (none)) else (laws_FnRefTasks.j0 k t423 t426 t429 false t419)) else (laws_FnRefTasks.j0 k t423 t426 t429 true t419)))))))) = some r := h
  clear h
  replace H := Option.bind_eq_some_iff.mp H
  obtain ⟨t418, A20, H⟩ := H
  replace H : (if t418 = true then (some true) else ((spec_DrawProgram.f k l0).bind fun t419 => ((spec_DrawVars.f k l0).bind fun t423 => ((spec_DrawUsed.f k l0).bind fun t426 => ((impl_RefTasks.f k t419 0 t423 t426).bind fun t429 => (if (t429.length : Int) = (t426.length : Int) then (if (t429.length : Int) > 0 then (if 0 < (t429.length : Int) then (laws_FnRefTasks.j0 k t423 t426 t429 ((rd t429 0) != 0) t419) else (none)) else (laws_FnRefTasks.j0 k t423 t426 t429 false t419)) else (laws_FnRefTasks.j0 k t423 t426 t429 true t419))))))) = some r := H
  have A2 := Aside0.mk A20
  clear A20
  by_cases c3 : t418 = true
  · subst c3
    have H1 : (some true) = some r := by rw [if_pos rfl] at H; exact H
    clear H
    have H := H1
    clear H1
    obtain rfl := Option.some.inj H
    go_enter Try.func4, Try.ntmps4
    go_wp2_with (first | ((first | ((with_reducible refine gate_callee (f := 13) rfl ?_); refine goesL_ (some 11) rfl rfl Try.func13 z11_12 rfl #[.slice A0 l0.length c0] rfl z11_7 ?_; (with_reducible refine (laws_big.calls _ _ l0 true _ ?side1 ?side2 A2.out).mono ?_)) | (go_at_call 13; (with_reducible refine (laws_big.calls _ _ l0 true _ ?side1 ?side2 A2.out).mono ?_))); (case side1 => exact z11_22); (case side2 => exact HC0.out); rintro e w' ⟨rfl, ⟨nd, rfl⟩⟩; (first | refine ⟨_, rfl, ?_⟩ | skip)))
    go_ret
    exact ⟨by first | rfl | (simp [errW_none, errW_some] <;> rfl) | (simp [*, errW_none, errW_some] <;> rfl) | (simp [*, errW_none, errW_some, i64_w]; done), by repeat (first | (with_reducible first | exact HB.out | apply below_alloc | apply pw_below_drewN | apply below_drew1) | exact HB.out)⟩
  · replace c3 := Bool.eq_false_iff.mpr c3
    subst c3
    have H1 : ((spec_DrawProgram.f k l0).bind fun t419 => ((spec_DrawVars.f k l0).bind fun t423 => ((spec_DrawUsed.f k l0).bind fun t426 => ((impl_RefTasks.f k t419 0 t423 t426).bind fun t429 => (if (t429.length : Int) = (t426.length : Int) then (if (t429.length : Int) > 0 then (if 0 < (t429.length : Int) then (laws_FnRefTasks.j0 k t423 t426 t429 ((rd t429 0) != 0) t419) else (none)) else (laws_FnRefTasks.j0 k t423 t426 t429 false t419)) else (laws_FnRefTasks.j0 k t423 t426 t429 true t419)))))) = some r := by rw [if_neg (show ¬ (false = true) by decide)] at H; exact H
    clear H
    have H := H1
    clear H1
    replace H := Option.bind_eq_some_iff.mp H
    obtain ⟨t419, A40, H⟩ := H
    replace H : ((spec_DrawVars.f k l0).bind fun t423 => ((spec_DrawUsed.f k l0).bind fun t426 => ((impl_RefTasks.f k t419 0 t423 t426).bind fun t429 => (if (t429.length : Int) = (t426.length : Int) then (if (t429.length : Int) > 0 then (if 0 < (t429.length : Int) then (laws_FnRefTasks.j0 k t423 t426 t429 ((rd t429 0) != 0) t419) else (none)) else (laws_FnRefTasks.j0 k t423 t426 t429 false t419)) else (laws_FnRefTasks.j0 k t423 t426 t429 true t419))))) = some r := H
    have A4 := Aside0.mk A40
    clear A40
    replace H := Option.bind_eq_some_iff.mp H
    obtain ⟨t423, A50, H⟩ := H
    replace H : ((spec_DrawUsed.f k l0).bind fun t426 => ((impl_RefTasks.f k t419 0 t423 t426).bind fun t429 => (if (t429.length : Int) = (t426.length : Int) then (if (t429.length : Int) > 0 then (if 0 < (t429.length : Int) then (laws_FnRefTasks.j0 k t423 t426 t429 ((rd t429 0) != 0) t419) else (none)) else (laws_FnRefTasks.j0 k t423 t426 t429 false t419)) else (laws_FnRefTasks.j0 k t423 t426 t429 true t419)))) = some r := H
    have A5 := Aside0.mk A50
    clear A50
    replace H := Option.bind_eq_some_iff.mp H
    obtain ⟨t426, A60, H⟩ := H
    replace H : ((impl_RefTasks.f k t419 0 t423 t426).bind fun t429 => (if (t429.length : Int) = (t426.length : Int) then (if (t429.length : Int) > 0 then (if 0 < (t429.length : Int) then (laws_FnRefTasks.j0 k t423 t426 t429 ((rd t429 0) != 0) t419) else (none)) else (laws_FnRefTasks.j0 k t423 t426 t429 false t419)) else (laws_FnRefTasks.j0 k t423 t426 t429 true t419))) = some r := H
    have A6 := Aside0.mk A60
    clear A60
    replace H := Option.bind_eq_some_iff.mp H
    obtain ⟨t429, A70, H⟩ := H
    replace H : (if (t429.length : Int) = (t426.length : Int) then (if (t429.length : Int) > 0 then (if 0 < (t429.length : Int) then (laws_FnRefTasks.j0 k t423 t426 t429 ((rd t429 0) != 0) t419) else (none)) else (laws_FnRefTasks.j0 k t423 t426 t429 false t419)) else (laws_FnRefTasks.j0 k t423 t426 t429 true t419)) = some r := H
    have A7 := Aside0.mk A70
    clear A70
    have HC8 := Aside0.mk H
    clear H
    go_enter Try.func4, Try.ntmps4
    go_upto_region 7 with (first | ((first | ((with_reducible refine gate_callee (f := 13) rfl ?_); refine goesL_ (some 11) rfl rfl Try.func13 z11_12 rfl #[.slice A0 l0.length c0] rfl z11_7 ?_; (with_reducible refine (laws_big.calls _ _ l0 false _ ?side1 ?side2 A2.out).mono ?_)) | (go_at_call 13; (with_reducible refine (laws_big.calls _ _ l0 false _ ?side1 ?side2 A2.out).mono ?_))); (case side1 => exact z11_22); (case side2 => exact HC0.out); rintro e w' ⟨rfl, ⟨nd, rfl⟩⟩; (first | refine ⟨_, rfl, ?_⟩ | skip)) | ((first | ((with_reducible refine gate_callee (f := 14) rfl ?_); refine goesL_ (some 13) rfl rfl Try.func14 z11_12 rfl #[.slice A0 l0.length c0] rfl z11_7 ?_; (with_reducible refine (spec_DrawProgram.calls k _ _ l0 t419 _ ?side1 ?side2 A4.out).mono ?_)) | (go_at_call 14; (with_reducible refine (spec_DrawProgram.calls k _ _ l0 t419 _ ?side1 ?side2 A4.out).mono ?_))); (case side1 => exact z11_22); (case side2 => exact HC0.out); rintro e w9 ⟨v420, rfl, ho0, hb⟩; (first | refine ⟨_, rfl, ?_⟩ | skip); have n0_ := Aside0.mk (Kd.S_lower ho0 (below_size z11_18)); have n1_ := Aside0.mk (below_step z11_18 hb); clear HB; have HO421 := n0_; have HB := n1_; clear n0_ n1_; (try clear hb); (try clear hb2); (try clear hk); (try clear hi); (try clear ho0)) | ((with_reducible refine gate_dst (N := 3) rfl ?_); (try (refine gate_guard (by rfl) ?_; dsimp only)); refine box_event ?hg (N := 3) ?hd (cs := #[.slice none 0 0]) (t := 26) ?hr ?_; (case hd => rfl); (case hg => rfl); (case hr => exact z11_23); intro gb422 hg w10 hbox hb; have n0_ := Aside0.mk (Kd.S_below (by (with_reducible repeat (first | apply Kd.S_alloc | apply Kd.S_drewN | apply Kd.S_drew)); exact HO421.out) hb); have n1_ := Aside0.mk (below_step z11_18 hb); have n2_ := Aside0.mk (hbox); have n3_ := Aside0.mk ((by rw [hg]; exact (below_size z11_18) : w.heap.size ≤ gb422)); have n4_ := Aside0.mk ((by rw [hg]; exact (below_size z11_18) : w.heap.size ≤ gb422)); clear HO421; clear HB; have HO421 := n0_; have HB := n1_; have BK422 := n2_; have GW422 := n3_; have GE422 := n4_; clear n0_ n1_ n2_ n3_ n4_; clear hb hbox hg; obtain ⟨Ao11, co11, eo11⟩ := Kd.S_slice HO421.out; subst eo11; have hcz12_0 : w10.cell? ⟨gb422, 0, none⟩ = some (.slice none 0 0) := (blk_cell BK422.out 0).trans rfl; have hfz12_0 := blk_frozen BK422.out 0) | ((first | ((with_reducible refine gate_callee (f := 15) rfl ?_); refine goesL_ (some 15) rfl rfl Try.func15 z11_12 rfl #[.slice A0 l0.length c0] rfl z11_7 ?_; (with_reducible refine (spec_DrawVars.calls k _ _ l0 t423 _ ?side1 ?side2 A5.out).mono ?_)) | (go_at_call 15; (with_reducible refine (spec_DrawVars.calls k _ _ l0 t423 _ ?side1 ?side2 A5.out).mono ?_))); (case side1 => exact Kd.C_below HR0.out z11_0); (case side2 => exact HC0.out); rintro e w13 ⟨v424, rfl, ho0, hb⟩; (first | refine ⟨_, rfl, ?_⟩ | skip); have n0_ := Aside0.mk (Kd.S_below (by (with_reducible repeat (first | apply Kd.S_alloc | apply Kd.S_drewN | apply Kd.S_drew)); exact (Kd.S_mono (Kd.S_far (p := ⟨gb422, 0, none⟩) (Kd.S_types HO421.out BK422.out (by decide)) (fun _ hk => hk.2) (.slice Ao11 t419.length co11)) (fun _ h_ => h_.1))) hb); have n1_ := Aside0.mk (Kd.R_lower ho0 (below_size z11_0)); have n2_ := Aside0.mk (blk_below (g := gb422) (o := .cells #[.slice Ao11 t419.length co11] 26 (0, 0)) (by (with_reducible repeat (first | refine blk_drewN ?_ _ | refine blk_drew ?_ | refine blk_alloc ?_ _)); refine blk_put (cs := #[.slice none 0 0]) ?_ 0 _ rfl; (with_reducible repeat (first | refine blk_drewN ?_ _ | refine blk_drew ?_ | refine blk_alloc ?_ _)); exact BK422.out) hb); have n3_ := Aside0.mk (below_step z11_0 hb); clear HO421; clear BK422; clear HB; have HO421 := n0_; have HO425 := n1_; have BK422 := n2_; have HB := n3_; clear n0_ n1_ n2_ n3_; (try clear hb); (try clear hb2); (try clear hk); (try clear hi); (try clear ho0)) | ((first | ((with_reducible refine gate_callee (f := 19) rfl ?_); refine goesL_ (some 17) rfl rfl Try.func19 z11_12 rfl #[.slice A0 l0.length c0] rfl z11_7 ?_; (with_reducible refine (spec_DrawUsed.calls k _ _ l0 t426 _ ?side1 ?side2 A6.out).mono ?_)) | (go_at_call 19; (with_reducible refine (spec_DrawUsed.calls k _ _ l0 t426 _ ?side1 ?side2 A6.out).mono ?_))); (case side1 => repeat (first | exact (Kd.C_below HR0.out HB.out) | (with_reducible refine Kd.C_alloc ?_ _) | (with_reducible refine Kd.C_drewN ?_ _) | (with_reducible refine Kd.C_drew ?_))); (case side2 => exact HC0.out); rintro e w14 ⟨v427, rfl, ho0, hb⟩; (first | refine ⟨_, rfl, ?_⟩ | skip); have n0_ := Aside0.mk (Kd.S_below (by (with_reducible repeat (first | apply Kd.S_alloc | apply Kd.S_drewN | apply Kd.S_drew)); exact HO421.out) hb); have n1_ := Aside0.mk (Kd.R_below z11_21 hb); have n2_ := Aside0.mk (Kd.S_lower (Kd.S_new' ho0 (Kd.R_lt z11_21)) (below_size z11_0)); have n3_ := Aside0.mk (blk_below (g := gb422) (o := .cells #[.slice Ao11 t419.length co11] 26 (0, 0)) z11_1 hb); have n4_ := Aside0.mk (below_step z11_0 hb); clear HO421; clear HO425; clear BK422; clear HB; have HO421 := n0_; have HO425 := n1_; have HO428 := n2_; have BK422 := n3_; have HB := n4_; clear n0_ n1_ n2_ n3_ n4_; (try clear hb); (try clear hb2); (try clear hk); (try clear hi); (try clear ho0); have hcz15_0 : w14.cell? ⟨gb422, 0, none⟩ = some (.slice Ao11 t419.length co11) := (blk_cell BK422.out 0).trans rfl; have hfz15_0 := blk_frozen BK422.out 0; obtain ⟨Ao16, co16, eo16⟩ := Kd.R_slice HO425.out; subst eo16; obtain ⟨Ao17, co17, eo17⟩ := Kd.S_slice HO428.out; subst eo17) | ((first | ((with_reducible refine gate_callee (f := 20) rfl ?_); refine goesL_ (some 21) rfl rfl Try.func20 z11_12 rfl #[.agg #[.slice Ao11 t419.length co11], .int .i64 0, .slice Ao16 t423.length co16, .slice Ao17 t426.length co17] rfl z11_7 ?_; (with_reducible refine (impl_RefTasks.calls k _ _ t419 0 _ _ t423 _ _ t426 t429 _ ?side1 ?side2 ?side3 ?side4 ?side5 ?side6 A7.out).mono ?_)) | (go_at_call 20; (with_reducible refine (impl_RefTasks.calls k _ _ t419 0 _ _ t423 _ _ t426 t429 _ ?side1 ?side2 ?side3 ?side4 ?side5 ?side6 A7.out).mono ?_))); (case side1 => repeat (first | exact (Kd.S_reads' HO421.out).2.2 | (with_reducible refine Kd.C_alloc ?_ _) | (with_reducible refine Kd.C_drewN ?_ _) | (with_reducible refine Kd.C_drew ?_))); (case side2 => exact (Kd.S_reads' HO421.out).2.1); (case side3 => repeat (first | exact (Kd.R_reads' HO425.out).2.2 | (with_reducible refine Kd.C_alloc ?_ _) | (with_reducible refine Kd.C_drewN ?_ _) | (with_reducible refine Kd.C_drew ?_))); (case side4 => exact (Kd.R_reads' HO425.out).2.1); (case side5 => repeat (first | exact (Kd.S_reads' HO428.out).2.2 | (with_reducible refine Kd.C_alloc ?_ _) | (with_reducible refine Kd.C_drewN ?_ _) | (with_reducible refine Kd.C_drew ?_))); (case side6 => exact (Kd.S_reads' HO428.out).2.1); rintro e w18 ⟨v430, rfl, ho0, hb⟩; (first | refine ⟨_, rfl, ?_⟩ | skip); have n0_ := Aside0.mk (Kd.S_below (by (with_reducible repeat (first | apply Kd.S_alloc | apply Kd.S_drewN | apply Kd.S_drew)); exact HO421.out) hb); have n1_ := Aside0.mk (Kd.R_elder' z11_21 (Kd.R_base ho0) hb); have n2_ := Aside0.mk (Kd.S_elder' (by (with_reducible repeat (first | apply Kd.S_alloc | apply Kd.S_drewN | apply Kd.S_drew)); exact HO428.out) (Kd.R_base ho0) hb); have n3_ := Aside0.mk (Kd.R_lower (Kd.R_new' ho0 (Kd.R_lt z11_21)) (below_size z11_0)); have n4_ := Aside0.mk (blk_below (g := gb422) (o := .cells #[.slice Ao11 t419.length co11] 26 (0, 0)) z11_1 hb); have n5_ := Aside0.mk (below_step z11_0 hb); clear HO421; clear HO425; clear HO428; clear BK422; clear HB; have HO421 := n0_; have HO425 := n1_; have HO428 := n2_; have HO431 := n3_; have BK422 := n4_; have HB := n5_; clear n0_ n1_ n2_ n3_ n4_ n5_; (try clear hb); (try clear hb2); (try clear hk); (try clear hi); (try clear ho0)))
    (try simp only [Act.put, List.setIfInBounds_toArray, List.set_cons_zero, List.set_cons_succ])
    go_cut [37] (fun v37 wc => ∃ (kq : Nat) (x37_7 : Bool), v37 = .bool x37_7 ∧ Aside0 (laws_FnRefTasks.j0 kq t423 t426 t429 x37_7 t419 = some r) ∧ Aside0 (kq ≤ k) ∧ Aside0 (Kd.R (Kd.int .i64) 3 wc w.heap.size (fun k_ => some k_ ≠ (v430 : Value).ownBlock) (.slice Ao16 t423.length co16) t423) ∧ Aside0 (Kd.S (Kd.slice 3 (Kd.int .i64)) 28 wc w.heap.size (fun k_ => some k_ ≠ ((.slice Ao16 t423.length co16) : Value).ownBlock ∧ some k_ ≠ (v430 : Value).ownBlock) (.slice Ao17 t426.length co17) t426) ∧ Aside0 (Kd.R (Kd.int .i64) 3 wc w.heap.size (fun k_ => some k_ ≠ ((.slice Ao16 t423.length co16) : Value).ownBlock) v430 t429) ∧ Aside0 (Kd.S k34 34 wc w.heap.size (fun _ => True) (.slice Ao11 t419.length co11) t419) ∧ Aside0 (wc.heap[gb422]? = some (.cells #[(.slice Ao11 t419.length co11)] 26 (0, 0))) ∧ Aside0 (Below w.heap.size w wc))
    case first =>
      have H := HC8.out
      clear HC8
      by_cases c19 : (t429.length : Int) = (t426.length : Int)
      · rw [if_pos c19] at H
        have c19b0 : ((t429.length : Int) == (t426.length : Int)) = true := beq_iff_eq.mpr c19
        have c19b1 : ((t429.length : Int) != (t426.length : Int)) = false := bne_eq_false_iff_eq.mpr c19
        have c19b2 : (t429.length == t426.length) = true := by first | simpa using c19 | (simp at c19 ⊢; omega)
        clear c19
        (first | rw [c19b0] | (simp only [i64_w, i32_w]; rw [c19b0]) | skip)
        by_cases c20 : (t429.length : Int) > 0
        · rw [if_pos c20] at H
          have c20b0 : decide (0 < (t429.length : Int)) = true := decide_eq_true c20
          have c20b1 : decide (0 < t429.length) = true := decide_eq_true (by omega)
          clear c20
          by_cases c21 : 0 < (t429.length : Int)
          · rw [if_pos c21] at H
            have c21b0 : decide (0 < (t429.length : Int)) = true := decide_eq_true c21
            have c21b1 : decide (0 < t429.length) = true := decide_eq_true (by omega)
            clear c21
            have H' := Aside0.mk H
            clear H
            obtain ⟨Ao22, co22, eo22⟩ := Kd.R_slice HO431.out
            subst eo22
            have p432 : 0 ≤ (0 : Int) := (by omega)
            have q432 : 0 < (t429.length : Int) := of_decide_eq_true z11_20
            obtain ⟨ad432, e432, hx432_0⟩ := Kd.at_int (Kd.R_reads' HO431.out).2.2 0 p432 q432
            cases e432
            have qi432 : (0 < t429.length) = True := eq_true (by omega)
            (try rw [show ((0 : Int)).toNat = 0 from rfl] at hx432_0)
            (try rw [Addr.add_zero'] at hx432_0)
            replace p432 := eq_true p432
            replace q432 := eq_true q432
            go_wp2
            go_meet
            case rel => exact ⟨_, (((rd t429 0) != 0)), (by first | rfl | (simp; done) | (simp [*]; done)), H', ⟨by first | omega | exact Nat.le_refl _⟩, ⟨by (with_reducible repeat (first | apply Kd.R_alloc | apply Kd.R_drewN | apply Kd.R_drew)); exact Kd.R_mono HO425.out (fun _ hk => hk.2)⟩, ⟨by (with_reducible repeat (first | apply Kd.S_alloc | apply Kd.S_drewN | apply Kd.S_drew)); exact Kd.S_mono HO428.out (fun _ hk => ⟨hk.1.2, hk.2⟩)⟩, ⟨by (with_reducible repeat (first | apply Kd.R_alloc | apply Kd.R_drewN | apply Kd.R_drew)); exact Kd.R_mono HO431.out (fun _ hk => hk.2)⟩, ⟨by (with_reducible repeat (first | apply Kd.S_alloc | apply Kd.S_drewN | apply Kd.S_drew)); exact HO421.out⟩, ⟨by (with_reducible repeat (first | refine blk_drewN ?_ _ | refine blk_drew ?_ | refine blk_alloc ?_ _)); exact BK422.out⟩, ⟨by repeat (first | (with_reducible first | exact HB.out | apply below_alloc | apply pw_below_drewN | apply below_drew1 | refine below_set ?_ GE422.out) | exact HB.out)⟩⟩
          · rw [if_neg c21] at H
            exact absurd H (by simp)
        · rw [if_neg c20] at H
          have c20b0 : decide (0 < (t429.length : Int)) = false := decide_eq_false c20
          have c20b1 : decide (0 < t429.length) = false := decide_eq_false (by omega)
          clear c20
          have H' := Aside0.mk H
          clear H
          obtain ⟨Ao23, co23, eo23⟩ := Kd.R_slice HO431.out
          subst eo23
          go_wp2
          go_meet
          case rel => exact ⟨_, (false), (by first | rfl | (simp; done) | (simp [*]; done)), H', ⟨by first | omega | exact Nat.le_refl _⟩, ⟨by (with_reducible repeat (first | apply Kd.R_alloc | apply Kd.R_drewN | apply Kd.R_drew)); exact Kd.R_mono HO425.out (fun _ hk => hk.2)⟩, ⟨by (with_reducible repeat (first | apply Kd.S_alloc | apply Kd.S_drewN | apply Kd.S_drew)); exact Kd.S_mono HO428.out (fun _ hk => ⟨hk.1.2, hk.2⟩)⟩, ⟨by (with_reducible repeat (first | apply Kd.R_alloc | apply Kd.R_drewN | apply Kd.R_drew)); exact Kd.R_mono HO431.out (fun _ hk => hk.2)⟩, ⟨by (with_reducible repeat (first | apply Kd.S_alloc | apply Kd.S_drewN | apply Kd.S_drew)); exact HO421.out⟩, ⟨by (with_reducible repeat (first | refine blk_drewN ?_ _ | refine blk_drew ?_ | refine blk_alloc ?_ _)); exact BK422.out⟩, ⟨by repeat (first | (with_reducible first | exact HB.out | apply below_alloc | apply pw_below_drewN | apply below_drew1 | refine below_set ?_ GE422.out) | exact HB.out)⟩⟩
      · rw [if_neg c19] at H
        have c19b0 : ((t429.length : Int) == (t426.length : Int)) = false := beq_eq_false_iff_ne.mpr c19
        have c19b1 : ((t429.length : Int) != (t426.length : Int)) = true := bne_iff_ne.mpr c19
        have c19b2 : (t429.length == t426.length) = false := by first | simpa using c19 | (simp at c19 ⊢; omega)
        (first | rw [c19b0] | (simp only [i64_w, i32_w]; rw [c19b0]) | skip)
        have H' := Aside0.mk H
        clear H
        obtain ⟨Ao24, co24, eo24⟩ := Kd.R_slice HO431.out
        subst eo24
        go_wp2
        go_meet
        case rel => exact ⟨_, (true), (by first | rfl | (simp; done) | (simp [*]; done)), H', ⟨by first | omega | exact Nat.le_refl _⟩, ⟨by (with_reducible repeat (first | apply Kd.R_alloc | apply Kd.R_drewN | apply Kd.R_drew)); exact Kd.R_mono HO425.out (fun _ hk => hk.2)⟩, ⟨by (with_reducible repeat (first | apply Kd.S_alloc | apply Kd.S_drewN | apply Kd.S_drew)); exact Kd.S_mono HO428.out (fun _ hk => ⟨hk.1.2, hk.2⟩)⟩, ⟨by (with_reducible repeat (first | apply Kd.R_alloc | apply Kd.R_drewN | apply Kd.R_drew)); exact Kd.R_mono HO431.out (fun _ hk => hk.2)⟩, ⟨by (with_reducible repeat (first | apply Kd.S_alloc | apply Kd.S_drewN | apply Kd.S_drew)); exact HO421.out⟩, ⟨by (with_reducible repeat (first | refine blk_drewN ?_ _ | refine blk_drew ?_ | refine blk_alloc ?_ _)); exact BK422.out⟩, ⟨by repeat (first | (with_reducible first | exact HB.out | apply below_alloc | apply pw_below_drewN | apply below_drew1 | refine below_set ?_ GE422.out) | exact HB.out)⟩⟩
    case rest =>
      clear HC8
      (try clear c3); (try clear hcz12_0); (try clear hcz15_0); (try clear hfz12_0); (try clear hfz15_0)
      obtain ⟨kq, x37_7, rfl, HA, HJ7, HO_4, HO_5, HO_6, HO_423000, BK422, HB⟩ := hcut
      cases kq with
      | zero => exact absurd HA.out (by simp [laws_FnRefTasks.j0])
      | succ kj7 =>
        have H := HA.out
        clear HA
        simp only [laws_FnRefTasks.j0] at H
        by_cases c25 : x37_7 = true
        · subst c25
          have H1 : (some false) = some r := by rw [if_pos rfl] at H; exact H
          clear H
          have H := H1
          clear H1
          obtain rfl := Option.some.inj H
          go_wp2
          go_ret
          exact ⟨by first | rfl | (simp [errW_none, errW_some] <;> rfl) | (simp [*, errW_none, errW_some] <;> rfl) | (simp [*, errW_none, errW_some, i64_w]; done), by repeat (first | (with_reducible first | exact HB.out | apply below_alloc | apply pw_below_drewN | apply below_drew1 | refine below_set ?_ GE422.out) | exact HB.out)⟩
        · replace c25 := Bool.eq_false_iff.mpr c25
          subst c25
          have H1 : (laws_FnRefTasks.l0 kj7 t423 t426 t429 1 t419) = some r := by rw [if_neg (show ¬ (false = true) by decide)] at H; exact H
          clear H
          have H := H1
          clear H1
          have H' := Aside0.mk H
          clear H
          go_wp2
          go_loopg [7] kj7 (fun kq v7 w' => ∃ (x7_2 : Int), v7 = .int .i64 x7_2 ∧ Aside0 (laws_FnRefTasks.l0 kq t423 t426 t429 x7_2 t419 = some r) ∧ Aside0 (kq ≤ kj7) ∧ Aside0 (Kd.R (Kd.int .i64) 3 w' w.heap.size (fun k_ => some k_ ≠ (v430 : Value).ownBlock) (.slice Ao16 t423.length co16) t423) ∧ Aside0 (Kd.S (Kd.slice 3 (Kd.int .i64)) 28 w' w.heap.size (fun k_ => some k_ ≠ ((.slice Ao16 t423.length co16) : Value).ownBlock ∧ some k_ ≠ (v430 : Value).ownBlock) (.slice Ao17 t426.length co17) t426) ∧ Aside0 (Kd.R (Kd.int .i64) 3 w' w.heap.size (fun k_ => some k_ ≠ ((.slice Ao16 t423.length co16) : Value).ownBlock) v430 t429) ∧ Aside0 (Kd.S k34 34 w' w.heap.size (fun _ => True) (.slice Ao11 t419.length co11) t419) ∧ Aside0 (w'.heap[gb422]? = some (.cells #[(.slice Ao11 t419.length co11)] 26 (0, 0))) ∧ Aside0 (Below w.heap.size w w'))
          case atStart => exact ⟨(1), (by first | rfl | (simp; done) | (simp [*]; done)), H', ⟨Nat.le_refl _⟩, ⟨by (with_reducible repeat (first | apply Kd.R_alloc | apply Kd.R_drewN | apply Kd.R_drew)); exact HO_4.out⟩, ⟨by (with_reducible repeat (first | apply Kd.S_alloc | apply Kd.S_drewN | apply Kd.S_drew)); exact HO_5.out⟩, ⟨by (with_reducible repeat (first | apply Kd.R_alloc | apply Kd.R_drewN | apply Kd.R_drew)); exact HO_6.out⟩, ⟨by (with_reducible repeat (first | apply Kd.S_alloc | apply Kd.S_drewN | apply Kd.S_drew)); exact HO_423000.out⟩, ⟨by (with_reducible repeat (first | refine blk_drewN ?_ _ | refine blk_drew ?_ | refine blk_alloc ?_ _)); exact BK422.out⟩, ⟨by repeat (first | (with_reducible first | exact HB.out | apply below_alloc | apply pw_below_drewN | apply below_drew1 | refine below_set ?_ GE422.out) | exact HB.out)⟩⟩
          case round =>
            clear H'
            (try clear c3); (try clear c25); (try clear hcz12_0); (try clear hcz15_0); (try clear hfz12_0); (try clear hfz15_0)
            obtain ⟨x7_2, rfl, HA, HK2, HO_4, HO_5, HO_6, HO_423000, BK422, HB⟩ := hrel
            cases gk with
            | zero => exact absurd HA.out (by simp [laws_FnRefTasks.l0])
            | succ k2 =>
              have H := HA.out
              clear HA
              simp only [laws_FnRefTasks.l0] at H
              by_cases c26 : x7_2 < (t429.length : Int)
              · rw [if_pos c26] at H
                have c26b0 : decide (x7_2 < (t429.length : Int)) = true := decide_eq_true c26
                clear c26
                by_cases c27 : 0 ≤ x7_2
                · rw [if_pos c27] at H
                  have c27b0 := eq_true c27
                  have c27b1 : decide (0 ≤ x7_2) = true := decide_eq_true c27
                  clear c27
                  by_cases c28 : x7_2 ≤ (t426.length : Int)
                  · rw [if_pos c28] at H
                    have c28b0 := eq_true c28
                    have c28b1 : decide (x7_2 ≤ (t426.length : Int)) = true := decide_eq_true c28
                    clear c28
                    obtain ⟨y433, hy433⟩ : ∃ y_ : List (List Int), y_ = (t426.take (x7_2 : Int).toNat) := ⟨_, rfl⟩
                    replace H : ((impl_RefRun.f k2 t419 0 t423 y433).bind fun bt437 => (if bt437.2.2.2 = true then (if bt437.2.2.1 = (rd t429 x7_2) then (laws_FnRefTasks.l0 k2 t423 t426 t429 (wrap64 (x7_2 + 1)) t419) else (some false)) else (some false))) = some r := by first | (rw [hy433]; with_reducible exact H) | (have H2_ := (Option.bind_some _ _).symm.trans H; rw [hy433]; with_reducible exact H2_) | (have H2_ := (Option.bind_some _ _).symm.trans H; with_reducible exact H2_) | with_reducible exact H | (rw [hy433]; exact H) | exact H
                    have Ny433 := Aside0.mk hy433
                    clear hy433
                    replace H := Option.bind_eq_some_iff.mp H
                    obtain ⟨⟨t437, t440, t443, t444⟩, A290, H⟩ := H
                    replace H : (if t444 = true then (if t443 = (rd t429 x7_2) then (laws_FnRefTasks.l0 k2 t423 t426 t429 (wrap64 (x7_2 + 1)) t419) else (some false)) else (some false)) = some r := H
                    have A29 := Aside0.mk A290
                    clear A290
                    by_cases c30 : t444 = true
                    · subst c30
                      have H1 : (if t443 = (rd t429 x7_2) then (laws_FnRefTasks.l0 k2 t423 t426 t429 (wrap64 (x7_2 + 1)) t419) else (some false)) = some r := by rw [if_pos rfl] at H; exact H
                      clear H
                      have H := H1
                      clear H1
                      by_cases c31 : t443 = (rd t429 x7_2)
                      · rw [if_pos c31] at H
                        have c31b0 : (t443 == (rd t429 x7_2)) = true := beq_iff_eq.mpr c31
                        have c31b1 : (t443 != (rd t429 x7_2)) = false := bne_eq_false_iff_eq.mpr c31
                        clear c31
                        have H' := Aside0.mk H
                        clear H
                        obtain ⟨Ao32, co32, eo32⟩ := Kd.R_slice HO_6.out
                        subst eo32
                        try go_wp2
                        have n0_ := Aside0.mk (Kd.R_drew HO_4.out)
                        have n1_ := Aside0.mk (Kd.S_drew HO_5.out)
                        have n2_ := Aside0.mk (Kd.R_drew HO_6.out)
                        have n3_ := Aside0.mk (Kd.S_drew HO_423000.out)
                        have n4_ := Aside0.mk (blk_drew BK422.out)
                        have n5_ := Aside0.mk (below_drew1 HB.out)
                        clear HO_4
                        clear HO_5
                        clear HO_6
                        clear HO_423000
                        clear BK422
                        clear HB
                        have HO_4 := n0_
                        have HO_5 := n1_
                        have HO_6 := n2_
                        have HO_423000 := n3_
                        have BK422 := n4_
                        have HB := n5_
                        clear n0_ n1_ n2_ n3_ n4_ n5_
                        have q34 : (x7_2 : Int) ≤ ((t426.length : Int) : Int) := of_decide_eq_true z11_20
                        obtain ⟨i034, hi034, _, hsz34, _⟩ := info_parts info28
                        have hroom34 : t426.length ≤ co17 := (Kd.S_reads' HO_5.out).2.1
                        have hC34 : Kd.C (Kd.slice 3 (Kd.int .i64)) _ Ao17 t426.length t426 := (Kd.S_reads' HO_5.out).2.2
                        have hcut34 := cut_to (P := Try.prog) 40 28 .i64 Try.underlying40 hi034 Ao17 t426.length co17 x7_2 (of_decide_eq_true z11_20) q34 hroom34
                        have hr34 := Kd.C_take (m := (x7_2 : Int).toNat) hC34 (by omega)
                        have hy34 : y433.length = (x7_2 : Int).toNat := (by rw [Ny433.out, List.length_take]; omega)
                        rw [← Ny433.out] at hr34
                        rw [← hy34] at hcut34
                        have HR436 := Aside0.mk hr34
                        have HC436 := Aside0.mk (show y433.length ≤ co17 from by omega)
                        clear hr34 hC34 hroom34 hi034 hsz34
                        have KY34 := Aside0.mk hy34
                        clear hy34
                        have KL34 := Aside0.mk (show (x7_2 : Int).toNat ≤ t426.length from by omega)
                        replace q34 := eq_true q34
                        refine start_ (n := 12) (S := fun w' => w'.cell? ⟨gb422, 0, none⟩ = some (.slice Ao11 t419.length co11)) (ds := []) #[false, false, false, false, false, false, false, false, false, false, false, false] z11_12 rfl rfl ((blk_cell BK422.out 0).trans rfl) (fun hHeld => ?_); refine with_tabW laws_FnRefTasks.tab12 laws_FnRefTasks.bits12 (fun HT_ HW_ => ?_)
                        generalize wr.drew = w33 at HO_4 HO_5 HO_6 HO_423000 BK422 HB HR436 hHeld ⊢
                        refine pure_ (i := 1) (N := some 46) (v := ?_) (a' := ?_) #[false, true, false, false, false, false, false, false, false, false, false, false] rfl rfl (any_of HT_.out z11_12) (fun _ _ _ h => h) (Or.inl ⟨by rfl, ?_⟩) ?_ ?_
                        rotate_left
                        · intro w'
                          go_simp
                          with_reducible rfl
                        rotate_left
                        · simp only [Act.put, List.setIfInBounds_toArray, List.set_cons_zero, List.set_cons_succ, i64_w, i32_w]
                          rfl
                        refine pure_ (i := 2) (N := some 47) (v := ?_) (a' := ?_) #[false, true, true, false, false, false, false, false, false, false, false, false] rfl rfl (any_of HT_.out z11_12) (fun _ _ _ h => h) (Or.inl ⟨by rfl, ?_⟩) ?_ ?_
                        rotate_left
                        · intro w'
                          go_simp
                          with_reducible rfl
                        rotate_left
                        · simp only [Act.put, List.setIfInBounds_toArray, List.set_cons_zero, List.set_cons_succ, i64_w, i32_w]
                          rfl
                        refine pure_ (i := 3) (N := some 48) (v := ?_) (a' := ?_) #[false, true, true, true, false, false, false, false, false, false, false, false] rfl rfl (any_of HT_.out z11_12) (fun _ _ _ h => h) (Or.inl ⟨by rfl, ?_⟩) ?_ ?_
                        rotate_left
                        · intro w'
                          go_simp
                          with_reducible rfl
                        rotate_left
                        · simp only [Act.put, List.setIfInBounds_toArray, List.set_cons_zero, List.set_cons_succ, i64_w, i32_w]
                          rfl
                        refine pure_ (i := 4) (N := some 49) (v := ?_) (a' := ?_) #[false, true, true, true, true, false, false, false, false, false, false, false] rfl rfl (any_of HT_.out z11_12) (fun _ _ _ h => h) (Or.inl ⟨by rfl, ?_⟩) ?_ ?_
                        rotate_left
                        · intro w'
                          go_simp
                          with_reducible rfl
                        rotate_left
                        · simp only [Act.put, List.setIfInBounds_toArray, List.set_cons_zero, List.set_cons_succ, i64_w, i32_w]
                          rfl
                        refine take_ (i := 0) (N := some 45) (v := ?_) (a' := ?_) #[true, true, true, true, true, false, false, false, false, false, false, false] rfl rfl (take_ofW HT_.out HW_.out z11_12) (fun _ _ _ h => h) (Or.inl ⟨by rfl, ?_⟩) hHeld ?_ ?_
                        rotate_left
                        · intro w' s0
                          go_simp
                          with_reducible rfl
                        rotate_left
                        · simp only [Act.put, List.setIfInBounds_toArray, List.set_cons_zero, List.set_cons_succ, i64_w, i32_w]
                          rfl
                        refine join_ (σ := Value × Value × Nat) 2 #[true, true, true, true, true, true, true, true, true, true, false, false] (fun s_ => [(50, .tuple #[.agg #[s_.1, s_.2.1, .int .i64 t443], .bool true]), (8, .pointer (some ⟨s_.2.2, 0, none⟩)), (44, .tuple #[.agg #[s_.1, s_.2.1, .int .i64 t443], .bool true]), (51, .agg #[s_.1, s_.2.1, .int .i64 t443]), (52, .bool true)]) (fun s_ w' => (w'.cell? ⟨gb422, 0, none⟩ = some (.slice Ao11 t419.length co11)) ∧ (Kd.R (Kd.int .i64) 3 w' w.heap.size (fun k_ => some k_ ≠ (s_.2.1 : Value).ownBlock ∧ some k_ ≠ (.slice Ao16 t423.length co16 : Value).ownBlock ∧ some k_ ≠ (.slice Ao32 t429.length co32 : Value).ownBlock) s_.1 t437) ∧ (Kd.R (Kd.int .i64) 3 w' w.heap.size (fun k_ => some k_ ≠ (s_.1 : Value).ownBlock ∧ some k_ ≠ (.slice Ao16 t423.length co16 : Value).ownBlock ∧ some k_ ≠ (.slice Ao32 t429.length co32 : Value).ownBlock) s_.2.1 t440) ∧ (Kd.R (Kd.int .i64) 3 w' w.heap.size (fun k_ => some k_ ≠ (s_.1 : Value).ownBlock ∧ some k_ ≠ (s_.2.1 : Value).ownBlock ∧ some k_ ≠ (.slice Ao32 t429.length co32 : Value).ownBlock) (.slice Ao16 t423.length co16) t423) ∧ (Kd.S k34 34 w' w.heap.size (fun _ => True) (.slice Ao11 t419.length co11) t419) ∧ (Kd.S (Kd.slice 3 (Kd.int .i64)) 28 w' w.heap.size (fun k_ => some k_ ≠ (s_.1 : Value).ownBlock ∧ some k_ ≠ (s_.2.1 : Value).ownBlock ∧ some k_ ≠ (.slice Ao16 t423.length co16 : Value).ownBlock ∧ some k_ ≠ (.slice Ao32 t429.length co32 : Value).ownBlock) (.slice Ao17 t426.length co17) t426) ∧ (Kd.R (Kd.int .i64) 3 w' w.heap.size (fun k_ => some k_ ≠ (s_.1 : Value).ownBlock ∧ some k_ ≠ (s_.2.1 : Value).ownBlock ∧ some k_ ≠ (.slice Ao16 t423.length co16 : Value).ownBlock) (.slice Ao32 t429.length co32) t429) ∧ (w'.heap[gb422]? = some (.cells #[.slice Ao11 t419.length co11] 26 (0, 0))) ∧ (w'.heap[s_.2.2]? = some (.cells #[.slice none 0 0, .slice none 0 0, .int .i64 0] 44 (0, 0))) ∧ (w.heap.size ≤ s_.2.2) ∧ (w.heap.size ≤ s_.2.2) ∧ (gb422 ≠ s_.2.2) ∧ (s_.2.2 ≠ gb422) ∧ (Below w.heap.size w w')) ?_ ?_
                        rotate_left
                        · intro hCont
                          refine two_ (i := 5) (j := 9) (Ni := some 50) (Nj := some 8) #[true, true, true, true, true, true, false, false, false, false, false, false] #[true, true, true, true, true, false, false, false, false, true, false, false] rfl rfl rfl rfl (two_of HT_.out z11_12) (by decide) (by decide) (fun K hK => ?_) (fun K hK => ?_)
                          · skip
                            refine goes_ Try.func21 z11_12 rfl #[.agg #[.slice Ao11 t419.length co11], .int .i64 0, .slice Ao16 t423.length co16, .slice Ao17 y433.length co17] (by rfl) rfl rfl z11_7 ?_
                            with_reducible refine (impl_RefRun.calls k2 _ _ t419 0 _ _ t423 _ _ y433 t437 t440 t443 true _ ?side1 ?side2 ?side3 ?side4 ?side5 ?side6 A29.out).mono ?_
                            (case side1 => exact z11_10)
                            (case side2 => exact (Kd.S_reads' HO_423000.out).2.1)
                            (case side3 => exact z11_11)
                            (case side4 => exact (Kd.R_reads' HO_4.out).2.1)
                            (case side5 => exact z11_24)
                            (case side6 => exact HC436.out)
                            rintro e w35 ⟨v438, v441, rfl, ho0, ho1, hb⟩
                            refine ⟨_, rfl, ?_⟩
                            have n0_ := Aside0.mk (Kd.R_mono (Kd.R_told (Kd.R_told (Kd.R_old z11_5 hb) (Kd.R_base ho0)) (Kd.R_base ho1)) (fun _ h_ => h_.1))
                            have n1_ := Aside0.mk (Kd.S_mono (Kd.S_told (Kd.S_told (Kd.S_old z11_8 hb) (Kd.R_base ho0)) (Kd.R_base ho1)) (fun _ h_ => h_.1))
                            have n2_ := Aside0.mk (Kd.R_mono (Kd.R_told (Kd.R_told (Kd.R_old z11_4 hb) (Kd.R_base ho0)) (Kd.R_base ho1)) (fun _ h_ => h_.1))
                            have n3_ := Aside0.mk (Kd.S_below z11_6 hb)
                            have n4_ := Aside0.mk (Kd.R_lower (Kd.R_new' (Kd.R_new' ho0 (Kd.R_lt z11_5)) (Kd.R_lt z11_4)) (below_size z11_0))
                            have n5_ := Aside0.mk (Kd.R_lower (Kd.R_new' (Kd.R_new' ho1 (Kd.R_lt z11_5)) (Kd.R_lt z11_4)) (below_size z11_0))
                            have n6_ := Aside0.mk (blk_below (g := gb422) (o := .cells #[.slice Ao11 t419.length co11] 26 (0, 0)) z11_1 hb)
                            have n7_ := Aside0.mk (Kd.C_below z11_2 hb)
                            have n8_ := Aside0.mk (below_step z11_0 hb)
                            clear HO_4
                            clear HO_5
                            clear HO_6
                            clear HO_423000
                            clear BK422
                            clear HR436
                            clear HB
                            have HO_4 := n0_
                            have HO_5 := n1_
                            have HO_6 := n2_
                            have HO_423000 := n3_
                            have HO439 := n4_
                            have HO442 := n5_
                            have BK422 := n6_
                            have HR436 := n7_
                            have HB := n8_
                            clear n0_ n1_ n2_ n3_ n4_ n5_ n6_ n7_ n8_
                            (try clear hb)
                            (try clear hb2)
                            (try clear hk)
                            (try clear hi)
                            (try clear ho0)
                            (try clear ho1)
                            refine hK.out _ _ ((blk_cell BK422.out 0).trans rfl) (fun hHeld => ?_)
                            clear hK K
                            refine norm_ (a' := ?_) ?_ ?_
                            rotate_left
                            · show Act.put _ (some 50) _ = _
                              simp only [Act.put, List.setIfInBounds_toArray, List.set_cons_zero, List.set_cons_succ, i64_w, i32_w]
                              rfl
                            refine pure_ (i := 6) (N := some 44) (v := ?_) (a' := ?_) #[true, true, true, true, true, true, true, false, false, false, false, false] rfl rfl (any_of HT_.out z11_12) (fun _ _ _ h => h) (Or.inl ⟨by rfl, ?_⟩) ?_ ?_
                            rotate_left
                            · intro w'
                              go_simp
                              with_reducible rfl
                            rotate_left
                            · simp only [Act.put, List.setIfInBounds_toArray, List.set_cons_zero, List.set_cons_succ, i64_w, i32_w]
                              rfl
                            refine pure_ (i := 7) (N := some 51) (v := ?_) (a' := ?_) #[true, true, true, true, true, true, true, true, false, false, false, false] rfl rfl (any_of HT_.out z11_12) (fun _ _ _ h => h) (Or.inl ⟨by rfl, ?_⟩) ?_ ?_
                            rotate_left
                            · intro w'
                              go_simp
                              with_reducible rfl
                            rotate_left
                            · simp only [Act.put, List.setIfInBounds_toArray, List.set_cons_zero, List.set_cons_succ, i64_w, i32_w]
                              rfl
                            refine pure_ (i := 8) (N := some 52) (v := ?_) (a' := ?_) #[true, true, true, true, true, true, true, true, true, false, false, false] rfl rfl (any_of HT_.out z11_12) (fun _ _ _ h => h) (Or.inl ⟨by rfl, ?_⟩) ?_ ?_
                            rotate_left
                            · intro w'
                              go_simp
                              with_reducible rfl
                            rotate_left
                            · simp only [Act.put, List.setIfInBounds_toArray, List.set_cons_zero, List.set_cons_succ, i64_w, i32_w]
                              rfl
                            refine one_ (i := 9) (N := some 8) #[true, true, true, true, true, true, true, true, true, true, false, false] rfl rfl (one_of HT_.out z11_12) (by decide) (fun K hK => ?_)
                            refine box_step ?hg (N := 8) ?hd (cs := #[.slice none 0 0, .slice none 0 0, .int .i64 0]) (t := 44) ?hr ?_; (case hd => rfl); (case hg => rfl); (case hr => exact z11_23)
                            intro gb445 hg w36 hbox hb
                            have n0_ := Aside0.mk (Kd.R_below z11_5 hb)
                            have n1_ := Aside0.mk (Kd.S_below z11_8 hb)
                            have n2_ := Aside0.mk (Kd.R_below z11_4 hb)
                            have n3_ := Aside0.mk (Kd.S_below z11_6 hb)
                            have n4_ := Aside0.mk (Kd.R_below (by (with_reducible repeat (first | apply Kd.R_alloc | apply Kd.R_drewN | apply Kd.R_drew)); exact HO439.out) hb)
                            have n5_ := Aside0.mk (Kd.R_below (by (with_reducible repeat (first | apply Kd.R_alloc | apply Kd.R_drewN | apply Kd.R_drew)); exact HO442.out) hb)
                            have n6_ := Aside0.mk (blk_below (g := gb422) (o := .cells #[.slice Ao11 t419.length co11] 26 (0, 0)) z11_1 hb)
                            have n7_ := Aside0.mk (Kd.C_below z11_2 hb)
                            have n8_ := Aside0.mk (below_step z11_0 hb)
                            have n9_ := Aside0.mk (hbox)
                            have n10_ := Aside0.mk ((z11_27 : w.heap.size ≤ gb445))
                            have n11_ := Aside0.mk ((z11_27 : w.heap.size ≤ gb445))
                            have n12_ := Aside0.mk ((z11_25 : gb422 ≠ gb445))
                            have n13_ := Aside0.mk ((z11_26 : gb445 ≠ gb422))
                            clear HO_4
                            clear HO_5
                            clear HO_6
                            clear HO_423000
                            clear HO439
                            clear HO442
                            clear BK422
                            clear HR436
                            clear HB
                            have HO_4 := n0_
                            have HO_5 := n1_
                            have HO_6 := n2_
                            have HO_423000 := n3_
                            have HO439 := n4_
                            have HO442 := n5_
                            have BK422 := n6_
                            have HR436 := n7_
                            have HB := n8_
                            have BK445 := n9_
                            have GW445 := n10_
                            have GE445 := n11_
                            have NB422_445 := n12_
                            have NB445_422 := n13_
                            clear n0_ n1_ n2_ n3_ n4_ n5_ n6_ n7_ n8_ n9_ n10_ n11_ n12_ n13_
                            clear hb hbox hg
                            refine hK.out _ _ ((blk_cell BK422.out 0).trans rfl) (fun hHeld => ?_)
                            clear hK K
                            refine norm_ (a' := ?_) ?_ ?_
                            rotate_left
                            · show Act.put _ (some 8) _ = _
                              simp only [Act.put, List.setIfInBounds_toArray, List.set_cons_zero, List.set_cons_succ, i64_w, i32_w]
                              rfl
                            exact norm_ z11_19 (hCont (v438, v441, gb445) _ ⟨hHeld, z11_15, z11_14, z11_17, z11_6, z11_13, z11_16, z11_1, z11_9, GW445.out, GE445.out, NB422_445.out, NB445_422.out, z11_3⟩)
                          · skip
                            refine box_step ?hg (N := 8) ?hd (cs := #[.slice none 0 0, .slice none 0 0, .int .i64 0]) (t := 44) ?hr ?_; (case hd => rfl); (case hg => rfl); (case hr => exact z11_23)
                            intro gb445 hg w35 hbox hb
                            have n0_ := Aside0.mk (Kd.R_below z11_5 hb)
                            have n1_ := Aside0.mk (Kd.S_below z11_8 hb)
                            have n2_ := Aside0.mk (Kd.R_below z11_4 hb)
                            have n3_ := Aside0.mk (Kd.S_below z11_6 hb)
                            have n4_ := Aside0.mk (blk_below (g := gb422) (o := .cells #[.slice Ao11 t419.length co11] 26 (0, 0)) z11_1 hb)
                            have n5_ := Aside0.mk (Kd.C_below z11_2 hb)
                            have n6_ := Aside0.mk (below_step z11_0 hb)
                            have n7_ := Aside0.mk (hbox)
                            have n8_ := Aside0.mk ((z11_27 : w.heap.size ≤ gb445))
                            have n9_ := Aside0.mk ((z11_27 : w.heap.size ≤ gb445))
                            have n10_ := Aside0.mk ((z11_25 : gb422 ≠ gb445))
                            have n11_ := Aside0.mk ((z11_26 : gb445 ≠ gb422))
                            clear HO_4
                            clear HO_5
                            clear HO_6
                            clear HO_423000
                            clear BK422
                            clear HR436
                            clear HB
                            have HO_4 := n0_
                            have HO_5 := n1_
                            have HO_6 := n2_
                            have HO_423000 := n3_
                            have BK422 := n4_
                            have HR436 := n5_
                            have HB := n6_
                            have BK445 := n7_
                            have GW445 := n8_
                            have GE445 := n9_
                            have NB422_445 := n10_
                            have NB445_422 := n11_
                            clear n0_ n1_ n2_ n3_ n4_ n5_ n6_ n7_ n8_ n9_ n10_ n11_
                            clear hb hbox hg
                            refine hK.out _ _ ((blk_cell BK422.out 0).trans rfl) (fun hHeld => ?_)
                            clear hK K
                            refine norm_ (a' := ?_) ?_ ?_
                            rotate_left
                            · show Act.put _ (some 8) _ = _
                              simp only [Act.put, List.setIfInBounds_toArray, List.set_cons_zero, List.set_cons_succ, i64_w, i32_w]
                              rfl
                            refine one_ (i := 5) (N := some 50) #[true, true, true, true, true, true, false, false, false, true, false, false] rfl rfl (one_of HT_.out z11_12) (by decide) (fun K hK => ?_)
                            refine goes_ Try.func21 z11_12 rfl #[.agg #[.slice Ao11 t419.length co11], .int .i64 0, .slice Ao16 t423.length co16, .slice Ao17 y433.length co17] (by rfl) rfl rfl z11_7 ?_
                            with_reducible refine (impl_RefRun.calls k2 _ _ t419 0 _ _ t423 _ _ y433 t437 t440 t443 true _ ?side1 ?side2 ?side3 ?side4 ?side5 ?side6 A29.out).mono ?_
                            (case side1 => exact z11_10)
                            (case side2 => exact (Kd.S_reads' HO_423000.out).2.1)
                            (case side3 => exact z11_11)
                            (case side4 => exact (Kd.R_reads' HO_4.out).2.1)
                            (case side5 => exact z11_24)
                            (case side6 => exact HC436.out)
                            rintro e w36 ⟨v438, v441, rfl, ho0, ho1, hb⟩
                            refine ⟨_, rfl, ?_⟩
                            have n0_ := Aside0.mk (Kd.R_mono (Kd.R_told (Kd.R_told (Kd.R_old z11_5 hb) (Kd.R_base ho0)) (Kd.R_base ho1)) (fun _ h_ => h_.1))
                            have n1_ := Aside0.mk (Kd.S_mono (Kd.S_told (Kd.S_told (Kd.S_old z11_8 hb) (Kd.R_base ho0)) (Kd.R_base ho1)) (fun _ h_ => h_.1))
                            have n2_ := Aside0.mk (Kd.R_mono (Kd.R_told (Kd.R_told (Kd.R_old z11_4 hb) (Kd.R_base ho0)) (Kd.R_base ho1)) (fun _ h_ => h_.1))
                            have n3_ := Aside0.mk (Kd.S_below z11_6 hb)
                            have n4_ := Aside0.mk (Kd.R_lower (Kd.R_new' (Kd.R_new' ho0 (Kd.R_lt z11_5)) (Kd.R_lt z11_4)) (below_size z11_3))
                            have n5_ := Aside0.mk (Kd.R_lower (Kd.R_new' (Kd.R_new' ho1 (Kd.R_lt z11_5)) (Kd.R_lt z11_4)) (below_size z11_3))
                            have n6_ := Aside0.mk (blk_below (g := gb422) (o := .cells #[.slice Ao11 t419.length co11] 26 (0, 0)) z11_1 hb)
                            have n7_ := Aside0.mk (Kd.C_below z11_2 hb)
                            have n8_ := Aside0.mk (blk_below (g := gb445) (o := .cells #[.slice none 0 0, .slice none 0 0, .int .i64 0] 44 (0, 0)) z11_9 hb)
                            have n9_ := Aside0.mk (below_step z11_3 hb)
                            clear HO_4
                            clear HO_5
                            clear HO_6
                            clear HO_423000
                            clear BK422
                            clear HR436
                            clear BK445
                            clear HB
                            have HO_4 := n0_
                            have HO_5 := n1_
                            have HO_6 := n2_
                            have HO_423000 := n3_
                            have HO439 := n4_
                            have HO442 := n5_
                            have BK422 := n6_
                            have HR436 := n7_
                            have BK445 := n8_
                            have HB := n9_
                            clear n0_ n1_ n2_ n3_ n4_ n5_ n6_ n7_ n8_ n9_
                            (try clear hb)
                            (try clear hb2)
                            (try clear hk)
                            (try clear hi)
                            (try clear ho0)
                            (try clear ho1)
                            refine hK.out _ _ ((blk_cell BK422.out 0).trans rfl) (fun hHeld => ?_)
                            clear hK K
                            refine norm_ (a' := ?_) ?_ ?_
                            rotate_left
                            · show Act.put _ (some 50) _ = _
                              simp only [Act.put, List.setIfInBounds_toArray, List.set_cons_zero, List.set_cons_succ, i64_w, i32_w]
                              rfl
                            refine pure_ (i := 6) (N := some 44) (v := ?_) (a' := ?_) #[true, true, true, true, true, true, true, false, false, true, false, false] rfl rfl (any_of HT_.out z11_12) (fun _ _ _ h => h) (Or.inl ⟨by rfl, ?_⟩) ?_ ?_
                            rotate_left
                            · intro w'
                              go_simp
                              with_reducible rfl
                            rotate_left
                            · simp only [Act.put, List.setIfInBounds_toArray, List.set_cons_zero, List.set_cons_succ, i64_w, i32_w]
                              rfl
                            refine pure_ (i := 7) (N := some 51) (v := ?_) (a' := ?_) #[true, true, true, true, true, true, true, true, false, true, false, false] rfl rfl (any_of HT_.out z11_12) (fun _ _ _ h => h) (Or.inl ⟨by rfl, ?_⟩) ?_ ?_
                            rotate_left
                            · intro w'
                              go_simp
                              with_reducible rfl
                            rotate_left
                            · simp only [Act.put, List.setIfInBounds_toArray, List.set_cons_zero, List.set_cons_succ, i64_w, i32_w]
                              rfl
                            refine pure_ (i := 8) (N := some 52) (v := ?_) (a' := ?_) #[true, true, true, true, true, true, true, true, true, true, false, false] rfl rfl (any_of HT_.out z11_12) (fun _ _ _ h => h) (Or.inl ⟨by rfl, ?_⟩) ?_ ?_
                            rotate_left
                            · intro w'
                              go_simp
                              with_reducible rfl
                            rotate_left
                            · simp only [Act.put, List.setIfInBounds_toArray, List.set_cons_zero, List.set_cons_succ, i64_w, i32_w]
                              rfl
                            exact norm_ z11_19 (hCont (v438, v441, gb445) _ ⟨hHeld, z11_15, z11_14, z11_17, z11_6, z11_13, z11_16, z11_1, z11_9, GW445.out, GE445.out, NB422_445.out, NB445_422.out, z11_3⟩)
                        rintro ⟨v438, v441, gb445⟩ w37 ⟨hS_, h0_, h1_, h2_, h3_, h4_, h5_, h6_, h7_, h8_, h9_, h10_, h11_, h12_⟩
                        have n0_ : Aside0 (Kd.R (Kd.int .i64) 3 w37 w.heap.size (fun k_ => some k_ ≠ (v441 : Value).ownBlock ∧ some k_ ≠ (.slice Ao16 t423.length co16 : Value).ownBlock ∧ some k_ ≠ (.slice Ao32 t429.length co32 : Value).ownBlock) v438 t437) := ⟨h0_⟩
                        have n1_ : Aside0 (Kd.R (Kd.int .i64) 3 w37 w.heap.size (fun k_ => some k_ ≠ (v438 : Value).ownBlock ∧ some k_ ≠ (.slice Ao16 t423.length co16 : Value).ownBlock ∧ some k_ ≠ (.slice Ao32 t429.length co32 : Value).ownBlock) v441 t440) := ⟨h1_⟩
                        have n2_ : Aside0 (Kd.R (Kd.int .i64) 3 w37 w.heap.size (fun k_ => some k_ ≠ (v438 : Value).ownBlock ∧ some k_ ≠ (v441 : Value).ownBlock ∧ some k_ ≠ (.slice Ao32 t429.length co32 : Value).ownBlock) (.slice Ao16 t423.length co16) t423) := ⟨h2_⟩
                        have n3_ : Aside0 (Kd.S k34 34 w37 w.heap.size (fun _ => True) (.slice Ao11 t419.length co11) t419) := ⟨h3_⟩
                        have n4_ : Aside0 (Kd.S (Kd.slice 3 (Kd.int .i64)) 28 w37 w.heap.size (fun k_ => some k_ ≠ (v438 : Value).ownBlock ∧ some k_ ≠ (v441 : Value).ownBlock ∧ some k_ ≠ (.slice Ao16 t423.length co16 : Value).ownBlock ∧ some k_ ≠ (.slice Ao32 t429.length co32 : Value).ownBlock) (.slice Ao17 t426.length co17) t426) := ⟨h4_⟩
                        have n5_ : Aside0 (Kd.R (Kd.int .i64) 3 w37 w.heap.size (fun k_ => some k_ ≠ (v438 : Value).ownBlock ∧ some k_ ≠ (v441 : Value).ownBlock ∧ some k_ ≠ (.slice Ao16 t423.length co16 : Value).ownBlock) (.slice Ao32 t429.length co32) t429) := ⟨h5_⟩
                        have n6_ : Aside0 (w37.heap[gb422]? = some (.cells #[.slice Ao11 t419.length co11] 26 (0, 0))) := ⟨h6_⟩
                        have n7_ : Aside0 (w37.heap[gb445]? = some (.cells #[.slice none 0 0, .slice none 0 0, .int .i64 0] 44 (0, 0))) := ⟨h7_⟩
                        have n8_ : Aside0 (w.heap.size ≤ gb445) := ⟨h8_⟩
                        have n9_ : Aside0 (w.heap.size ≤ gb445) := ⟨h9_⟩
                        have n10_ : Aside0 (gb422 ≠ gb445) := ⟨h10_⟩
                        have n11_ : Aside0 (gb445 ≠ gb422) := ⟨h11_⟩
                        have n12_ : Aside0 (Below w.heap.size w w37) := ⟨h12_⟩
                        clear HO_4
                        clear HO_5
                        clear HO_6
                        clear HO_423000
                        clear BK422
                        clear HB
                        clear h0_ h1_ h2_ h3_ h4_ h5_ h6_ h7_ h8_ h9_ h10_ h11_ h12_
                        have HO439 := n0_
                        have HO442 := n1_
                        have HO_4 := n2_
                        have HO_423000 := n3_
                        have HO_5 := n4_
                        have HO_6 := n5_
                        have BK422 := n6_
                        have BK445 := n7_
                        have GW445 := n8_
                        have GE445 := n9_
                        have NB422_445 := n10_
                        have NB445_422 := n11_
                        have HB := n12_
                        clear n0_ n1_ n2_ n3_ n4_ n5_ n6_ n7_ n8_ n9_ n10_ n11_ n12_
                        have hHeld : w37.cell? ⟨gb422, 0, none⟩ = some (.slice Ao11 t419.length co11) := hS_
                        obtain ⟨Ao38, co38, eo38⟩ := Kd.R_slice HO439.out
                        (first | subst eo38 | (injection eo38 with f1_ f2_ f3_; have f4_ := f1_.symm; have f5_ := f3_.symm; clear f1_ f2_ f3_; subst f4_; subst f5_))
                        obtain ⟨Ao40, co40, eo40⟩ := Kd.R_slice HO442.out
                        (first | subst eo40 | (injection eo40 with f1_ f2_ f3_; have f4_ := f1_.symm; have f5_ := f3_.symm; clear f1_ f2_ f3_; subst f4_; subst f5_))
                        refine norm_ (a' := ?_) ?_ ?_
                        rotate_left
                        · simp only [putAll, Act.put, List.setIfInBounds_toArray, List.set_cons_zero, List.set_cons_succ]
                          rfl
                        refine one_ (i := 10) (N := none) #[true, true, true, true, true, true, true, true, true, true, true, false] rfl rfl (one_of HT_.out z11_12) (by decide) (fun K hK => ?_)
                        have hs39 : w37.cell? ⟨gb445, 0, none⟩ = some (.slice none 0 0) := (blk_cell BK445.out 0).trans rfl
                        have hfs39 := blk_frozen BK445.out 0
                        have hns39_0 := NB422_445.out
                        have hms39_0 := NB445_422.out
                        have hs41 : w37.cell? ⟨gb445, 1, none⟩ = some (.slice none 0 0) := (blk_cell BK445.out 1).trans rfl
                        have hfs41 := blk_frozen BK445.out 1
                        have hns41_0 := NB422_445.out
                        have hms41_0 := NB445_422.out
                        have hs42 : w37.cell? ⟨gb445, 2, none⟩ = some (.int .i64 0) := (blk_cell BK445.out 2).trans rfl
                        have hfs42 := blk_frozen BK445.out 2
                        have hns42_0 := NB422_445.out
                        have hms42_0 := NB445_422.out
                        refine skip_ (w1 := ?_) (by rfl) rfl ?_ ?_
                        rotate_left
                        · go_simp
                          rfl
                        refine hK.out _ _ (((cell_far (p := ⟨gb445, _, none⟩) NB422_445.out _).trans (((cell_far (p := ⟨gb445, _, none⟩) NB422_445.out _).trans (((cell_far (p := ⟨gb445, _, none⟩) NB422_445.out _).trans (hHeld))))))) (fun hHeld => ?_)
                        clear hK K
                        refine pure_ (i := 11) (N := some 9) (v := ?_) (a' := ?_) #[true, true, true, true, true, true, true, true, true, true, true, true] rfl rfl (any_of HT_.out z11_12) (fun _ _ _ h => h) (Or.inl ⟨by rfl, ?_⟩) ?_ ?_
                        rotate_left
                        · intro w'
                          go_simp
                          with_reducible rfl
                        rotate_left
                        · simp only [Act.put, List.setIfInBounds_toArray, List.set_cons_zero, List.set_cons_succ, i64_w, i32_w]
                          rfl
                        refine done_ (done_of HT_.out z11_12) ?_
                        try go_wp2
                        have n0_ : Aside0 (Kd.R (Kd.int .i64) 3 (((w37.setCell ⟨gb445, 0, none⟩ (.slice Ao38 t437.length co38)).setCell ⟨gb445, 1, none⟩ (.slice Ao40 t440.length co40)).setCell ⟨gb445, 2, none⟩ (.int .i64 t443)) w.heap.size (fun k_ => some k_ ≠ (.slice Ao32 t429.length co32 : Value).ownBlock ∧ some k_ ≠ (.slice Ao38 t437.length co38 : Value).ownBlock ∧ some k_ ≠ (.slice Ao40 t440.length co40 : Value).ownBlock) (.slice Ao16 t423.length co16) t423) := ⟨by (with_reducible repeat (first | apply Kd.R_alloc | apply Kd.R_drewN | apply Kd.R_drew)); exact Kd.R_mono (Kd.R_far (p := ⟨gb445, 2, none⟩) (Kd.R_far (p := ⟨gb445, 1, none⟩) (Kd.R_far (p := ⟨gb445, 0, none⟩) (Kd.R_types HO_4.out BK445.out (by decide)) (fun _ hk => hk.2) (.slice Ao38 t437.length co38)) (fun _ hk => hk.2) (.slice Ao40 t440.length co40)) (fun _ hk => hk.2) (.int .i64 t443)) (fun _ hk => ⟨hk.1.2.2, ⟨hk.1.1, hk.1.2.1⟩⟩)⟩
                        have n1_ : Aside0 (Kd.S (Kd.slice 3 (Kd.int .i64)) 28 (((w37.setCell ⟨gb445, 0, none⟩ (.slice Ao38 t437.length co38)).setCell ⟨gb445, 1, none⟩ (.slice Ao40 t440.length co40)).setCell ⟨gb445, 2, none⟩ (.int .i64 t443)) w.heap.size (fun k_ => some k_ ≠ (.slice Ao16 t423.length co16 : Value).ownBlock ∧ some k_ ≠ (.slice Ao32 t429.length co32 : Value).ownBlock ∧ some k_ ≠ (.slice Ao38 t437.length co38 : Value).ownBlock ∧ some k_ ≠ (.slice Ao40 t440.length co40 : Value).ownBlock) (.slice Ao17 t426.length co17) t426) := ⟨by (with_reducible repeat (first | apply Kd.S_alloc | apply Kd.S_drewN | apply Kd.S_drew)); exact Kd.S_mono (Kd.S_far (p := ⟨gb445, 2, none⟩) (Kd.S_far (p := ⟨gb445, 1, none⟩) (Kd.S_far (p := ⟨gb445, 0, none⟩) (Kd.S_types HO_5.out BK445.out (by decide)) (fun _ hk => hk.2) (.slice Ao38 t437.length co38)) (fun _ hk => hk.2) (.slice Ao40 t440.length co40)) (fun _ hk => hk.2) (.int .i64 t443)) (fun _ hk => ⟨hk.1.2.2.1, ⟨hk.1.2.2.2, ⟨hk.1.1, hk.1.2.1⟩⟩⟩)⟩
                        have n2_ : Aside0 (Kd.R (Kd.int .i64) 3 (((w37.setCell ⟨gb445, 0, none⟩ (.slice Ao38 t437.length co38)).setCell ⟨gb445, 1, none⟩ (.slice Ao40 t440.length co40)).setCell ⟨gb445, 2, none⟩ (.int .i64 t443)) w.heap.size (fun k_ => some k_ ≠ (.slice Ao16 t423.length co16 : Value).ownBlock ∧ some k_ ≠ (.slice Ao38 t437.length co38 : Value).ownBlock ∧ some k_ ≠ (.slice Ao40 t440.length co40 : Value).ownBlock) (.slice Ao32 t429.length co32) t429) := ⟨by (with_reducible repeat (first | apply Kd.R_alloc | apply Kd.R_drewN | apply Kd.R_drew)); exact Kd.R_mono (Kd.R_far (p := ⟨gb445, 2, none⟩) (Kd.R_far (p := ⟨gb445, 1, none⟩) (Kd.R_far (p := ⟨gb445, 0, none⟩) (Kd.R_types HO_6.out BK445.out (by decide)) (fun _ hk => hk.2) (.slice Ao38 t437.length co38)) (fun _ hk => hk.2) (.slice Ao40 t440.length co40)) (fun _ hk => hk.2) (.int .i64 t443)) (fun _ hk => ⟨hk.1.2.2, ⟨hk.1.1, hk.1.2.1⟩⟩)⟩
                        have n3_ : Aside0 (Kd.S k34 34 (((w37.setCell ⟨gb445, 0, none⟩ (.slice Ao38 t437.length co38)).setCell ⟨gb445, 1, none⟩ (.slice Ao40 t440.length co40)).setCell ⟨gb445, 2, none⟩ (.int .i64 t443)) w.heap.size (fun _ => True) (.slice Ao11 t419.length co11) t419) := ⟨by (with_reducible repeat (first | apply Kd.S_alloc | apply Kd.S_drewN | apply Kd.S_drew)); exact Kd.S_mono (Kd.S_far (p := ⟨gb445, 2, none⟩) (Kd.S_far (p := ⟨gb445, 1, none⟩) (Kd.S_far (p := ⟨gb445, 0, none⟩) (Kd.S_types HO_423000.out BK445.out (by decide)) (fun _ hk => hk.2) (.slice Ao38 t437.length co38)) (fun _ hk => hk.2) (.slice Ao40 t440.length co40)) (fun _ hk => hk.2) (.int .i64 t443)) (fun _ hk => trivial)⟩
                        have n4_ : Aside0 (Kd.R (Kd.int .i64) 3 (((w37.setCell ⟨gb445, 0, none⟩ (.slice Ao38 t437.length co38)).setCell ⟨gb445, 1, none⟩ (.slice Ao40 t440.length co40)).setCell ⟨gb445, 2, none⟩ (.int .i64 t443)) w.heap.size (fun k_ => some k_ ≠ (.slice Ao16 t423.length co16 : Value).ownBlock ∧ some k_ ≠ (.slice Ao32 t429.length co32 : Value).ownBlock ∧ some k_ ≠ (.slice Ao40 t440.length co40 : Value).ownBlock) (.slice Ao38 t437.length co38) t437) := ⟨by (with_reducible repeat (first | apply Kd.R_alloc | apply Kd.R_drewN | apply Kd.R_drew)); exact Kd.R_mono (Kd.R_far (p := ⟨gb445, 2, none⟩) (Kd.R_far (p := ⟨gb445, 1, none⟩) (Kd.R_far (p := ⟨gb445, 0, none⟩) (Kd.R_types HO439.out BK445.out (by decide)) (fun _ hk => hk.2) (.slice Ao38 t437.length co38)) (fun _ hk => hk.2) (.slice Ao40 t440.length co40)) (fun _ hk => hk.2) (.int .i64 t443)) (fun _ hk => ⟨hk.1.2.1, ⟨hk.1.2.2, hk.1.1⟩⟩)⟩
                        have n5_ : Aside0 (Kd.R (Kd.int .i64) 3 (((w37.setCell ⟨gb445, 0, none⟩ (.slice Ao38 t437.length co38)).setCell ⟨gb445, 1, none⟩ (.slice Ao40 t440.length co40)).setCell ⟨gb445, 2, none⟩ (.int .i64 t443)) w.heap.size (fun k_ => some k_ ≠ (.slice Ao16 t423.length co16 : Value).ownBlock ∧ some k_ ≠ (.slice Ao32 t429.length co32 : Value).ownBlock ∧ some k_ ≠ (.slice Ao38 t437.length co38 : Value).ownBlock) (.slice Ao40 t440.length co40) t440) := ⟨by (with_reducible repeat (first | apply Kd.R_alloc | apply Kd.R_drewN | apply Kd.R_drew)); exact Kd.R_mono (Kd.R_far (p := ⟨gb445, 2, none⟩) (Kd.R_far (p := ⟨gb445, 1, none⟩) (Kd.R_far (p := ⟨gb445, 0, none⟩) (Kd.R_types HO442.out BK445.out (by decide)) (fun _ hk => hk.2) (.slice Ao38 t437.length co38)) (fun _ hk => hk.2) (.slice Ao40 t440.length co40)) (fun _ hk => hk.2) (.int .i64 t443)) (fun _ hk => ⟨hk.1.2.1, ⟨hk.1.2.2, hk.1.1⟩⟩)⟩
                        have n6_ : Aside0 ((((w37.setCell ⟨gb445, 0, none⟩ (.slice Ao38 t437.length co38)).setCell ⟨gb445, 1, none⟩ (.slice Ao40 t440.length co40)).setCell ⟨gb445, 2, none⟩ (.int .i64 t443)).heap[gb422]? = some (.cells #[.slice Ao11 t419.length co11] 26 (0, 0))) := ⟨by (with_reducible repeat (first | refine blk_drewN ?_ _ | refine blk_drew ?_ | refine blk_alloc ?_ _)); refine blk_far ?_ NB422_445.out _; (with_reducible repeat (first | refine blk_drewN ?_ _ | refine blk_drew ?_ | refine blk_alloc ?_ _)); refine blk_far ?_ NB422_445.out _; (with_reducible repeat (first | refine blk_drewN ?_ _ | refine blk_drew ?_ | refine blk_alloc ?_ _)); refine blk_far ?_ NB422_445.out _; (with_reducible repeat (first | refine blk_drewN ?_ _ | refine blk_drew ?_ | refine blk_alloc ?_ _)); exact BK422.out⟩
                        have n7_ : Aside0 ((((w37.setCell ⟨gb445, 0, none⟩ (.slice Ao38 t437.length co38)).setCell ⟨gb445, 1, none⟩ (.slice Ao40 t440.length co40)).setCell ⟨gb445, 2, none⟩ (.int .i64 t443)).heap[gb445]? = some (.cells #[.slice Ao38 t437.length co38, .slice Ao40 t440.length co40, .int .i64 t443] 44 (0, 0))) := ⟨by (with_reducible repeat (first | refine blk_drewN ?_ _ | refine blk_drew ?_ | refine blk_alloc ?_ _)); refine blk_put (cs := #[.slice Ao38 t437.length co38, .slice Ao40 t440.length co40, .int .i64 0]) ?_ 2 _ rfl; (with_reducible repeat (first | refine blk_drewN ?_ _ | refine blk_drew ?_ | refine blk_alloc ?_ _)); refine blk_put (cs := #[.slice Ao38 t437.length co38, .slice none 0 0, .int .i64 0]) ?_ 1 _ rfl; (with_reducible repeat (first | refine blk_drewN ?_ _ | refine blk_drew ?_ | refine blk_alloc ?_ _)); refine blk_put (cs := #[.slice none 0 0, .slice none 0 0, .int .i64 0]) ?_ 0 _ rfl; (with_reducible repeat (first | refine blk_drewN ?_ _ | refine blk_drew ?_ | refine blk_alloc ?_ _)); exact BK445.out⟩
                        have n8_ : Aside0 (Below w.heap.size w (((w37.setCell ⟨gb445, 0, none⟩ (.slice Ao38 t437.length co38)).setCell ⟨gb445, 1, none⟩ (.slice Ao40 t440.length co40)).setCell ⟨gb445, 2, none⟩ (.int .i64 t443))) := ⟨by repeat (first | (with_reducible first | exact HB.out | apply below_alloc | apply pw_below_drewN | apply below_drew1 | refine below_set ?_ GE422.out | refine below_set ?_ GE445.out) | exact HB.out)⟩
                        (try clear HO_4)
                        (try clear HO_5)
                        (try clear HO_6)
                        (try clear HO_423000)
                        (try clear HO439)
                        (try clear HO442)
                        (try clear BK422)
                        (try clear BK445)
                        (try clear HB)
                        generalize (((w37.setCell ⟨gb445, 0, none⟩ (.slice Ao38 t437.length co38)).setCell ⟨gb445, 1, none⟩ (.slice Ao40 t440.length co40)).setCell ⟨gb445, 2, none⟩ (.int .i64 t443)) = w43 at n0_ n1_ n2_ n3_ n4_ n5_ n6_ n7_ n8_ ⊢
                        have HO_4 := n0_
                        have HO_5 := n1_
                        have HO_6 := n2_
                        have HO_423000 := n3_
                        have HO439 := n4_
                        have HO442 := n5_
                        have BK422 := n6_
                        have BK445 := n7_
                        have HB := n8_
                        clear n0_ n1_ n2_ n3_ n4_ n5_ n6_ n7_ n8_
                        have n0_ := Aside0.mk (Kd.R_drew HO_4.out)
                        have n1_ := Aside0.mk (Kd.S_drew HO_5.out)
                        have n2_ := Aside0.mk (Kd.R_drew HO_6.out)
                        have n3_ := Aside0.mk (Kd.S_drew HO_423000.out)
                        have n4_ := Aside0.mk (Kd.R_drew HO439.out)
                        have n5_ := Aside0.mk (Kd.R_drew HO442.out)
                        have n6_ := Aside0.mk (blk_drew BK422.out)
                        have n7_ := Aside0.mk (blk_drew BK445.out)
                        have n8_ := Aside0.mk (below_drew1 HB.out)
                        clear HO_4
                        clear HO_5
                        clear HO_6
                        clear HO_423000
                        clear HO439
                        clear HO442
                        clear BK422
                        clear BK445
                        clear HB
                        have HO_4 := n0_
                        have HO_5 := n1_
                        have HO_6 := n2_
                        have HO_423000 := n3_
                        have HO439 := n4_
                        have HO442 := n5_
                        have BK422 := n6_
                        have BK445 := n7_
                        have HB := n8_
                        clear n0_ n1_ n2_ n3_ n4_ n5_ n6_ n7_ n8_
                        have p446 : 0 ≤ (x7_2 : Int) := of_decide_eq_true z11_20
                        have q446 : x7_2 < (t429.length : Int) := of_decide_eq_true z11_20
                        obtain ⟨ad446, e446, hx446_0⟩ := Kd.at_int (Kd.R_reads' HO_6.out).2.2 x7_2 p446 q446
                        cases e446
                        replace p446 := eq_true p446
                        replace q446 := eq_true q446
                        refine start_ (n := 11) (S := fun w' => w'.cell? ⟨gb445, 0, none⟩ = some (.slice Ao38 t437.length co38) ∧ w'.cell? ⟨gb445, 1, none⟩ = some (.slice Ao40 t440.length co40) ∧ w'.cell? ⟨gb445, 2, none⟩ = some (.int .i64 t443) ∧ w'.cell? (ad446.add (x7_2).toNat) = some (.int .i64 (rd t429 x7_2))) (ds := []) #[false, false, false, false, false, false, false, false, false, false, false] z11_12 rfl rfl ⟨(blk_cell BK445.out 0).trans rfl, (blk_cell BK445.out 1).trans rfl, (blk_cell BK445.out 2).trans rfl, hx446_0⟩ (fun hHeld => ?_); refine with_tabW laws_FnRefTasks.tab13 laws_FnRefTasks.bits13 (fun HT_ HW_ => ?_)
                        generalize w43.drew = w44 at HO_4 HO_5 HO_6 HO_423000 HO439 HO442 BK422 BK445 HB hx446_0 hHeld ⊢
                        refine pure_ (i := 0) (N := some 53) (v := ?_) (a' := ?_) #[true, false, false, false, false, false, false, false, false, false, false] rfl rfl (any_of HT_.out z11_12) (fun _ _ _ h => h) (Or.inl ⟨by rfl, ?_⟩) ?_ ?_
                        rotate_left
                        · intro w'
                          go_simp
                          with_reducible rfl
                        rotate_left
                        · simp only [Act.put, List.setIfInBounds_toArray, List.set_cons_zero, List.set_cons_succ, i64_w, i32_w]
                          rfl
                        refine pure_ (i := 1) (N := some 54) (v := ?_) (a' := ?_) #[true, true, false, false, false, false, false, false, false, false, false] rfl rfl (any_of HT_.out z11_12) (fun _ _ _ h => h) (Or.inl ⟨by rfl, ?_⟩) ?_ ?_
                        rotate_left
                        · intro w'
                          go_simp
                          with_reducible rfl
                        rotate_left
                        · simp only [Act.put, List.setIfInBounds_toArray, List.set_cons_zero, List.set_cons_succ, i64_w, i32_w]
                          rfl
                        refine pure_ (i := 2) (N := some 55) (v := ?_) (a' := ?_) #[true, true, true, false, false, false, false, false, false, false, false] rfl rfl (any_of HT_.out z11_12) (fun _ _ _ h => h) (Or.inl ⟨by rfl, ?_⟩) ?_ ?_
                        rotate_left
                        · intro w'
                          go_simp
                          with_reducible rfl
                        rotate_left
                        · simp only [Act.put, List.setIfInBounds_toArray, List.set_cons_zero, List.set_cons_succ, i64_w, i32_w]
                          rfl
                        refine pure_ (i := 3) (N := some 56) (v := ?_) (a' := ?_) #[true, true, true, true, false, false, false, false, false, false, false] rfl rfl (any_of HT_.out z11_12) (fun _ _ _ h => h) (Or.inl ⟨by rfl, ?_⟩) ?_ ?_
                        rotate_left
                        · intro w'
                          go_simp
                          with_reducible rfl
                        rotate_left
                        · simp only [Act.put, List.setIfInBounds_toArray, List.set_cons_zero, List.set_cons_succ, i64_w, i32_w]
                          rfl
                        refine pure_ (i := 5) (N := some 58) (v := ?_) (a' := ?_) #[true, true, true, true, false, true, false, false, false, false, false] rfl rfl (any_of HT_.out z11_12) (fun _ _ _ h => h) (Or.inl ⟨by rfl, ?_⟩) ?_ ?_
                        rotate_left
                        · intro w'
                          go_simp
                          with_reducible rfl
                        rotate_left
                        · simp only [Act.put, List.setIfInBounds_toArray, List.set_cons_zero, List.set_cons_succ, i64_w, i32_w]
                          rfl
                        refine pure_ (i := 6) (N := some 59) (v := ?_) (a' := ?_) #[true, true, true, true, false, true, true, false, false, false, false] rfl rfl (any_of HT_.out z11_12) (fun _ _ _ h => h) (Or.inl ⟨by rfl, ?_⟩) ?_ ?_
                        rotate_left
                        · intro w'
                          go_simp
                          with_reducible rfl
                        rotate_left
                        · simp only [Act.put, List.setIfInBounds_toArray, List.set_cons_zero, List.set_cons_succ, i64_w, i32_w]
                          rfl
                        refine pure_ (i := 7) (N := some 60) (v := ?_) (a' := ?_) #[true, true, true, true, false, true, true, true, false, false, false] rfl rfl (any_of HT_.out z11_12) (fun _ _ _ h => h) (Or.inl ⟨by rfl, ?_⟩) ?_ ?_
                        rotate_left
                        · intro w'
                          go_simp
                          with_reducible rfl
                        rotate_left
                        · simp only [Act.put, List.setIfInBounds_toArray, List.set_cons_zero, List.set_cons_succ, i64_w, i32_w]
                          rfl
                        refine take_ (i := 4) (N := some 57) (v := ?_) (a' := ?_) #[true, true, true, true, true, true, true, true, false, false, false] rfl rfl (take_ofW HT_.out HW_.out z11_12) (fun _ _ _ h => h) (Or.inl ⟨by rfl, ?_⟩) hHeld ?_ ?_
                        rotate_left
                        · rintro w' ⟨s0, s1, s2, s3⟩
                          go_simp
                          with_reducible rfl
                        rotate_left
                        · simp only [Act.put, List.setIfInBounds_toArray, List.set_cons_zero, List.set_cons_succ, i64_w, i32_w]
                          rfl
                        refine take_ (i := 8) (N := some 61) (v := ?_) (a' := ?_) #[true, true, true, true, true, true, true, true, true, false, false] rfl rfl (take_ofW HT_.out HW_.out z11_12) (fun _ _ _ h => h) (Or.inl ⟨by rfl, ?_⟩) hHeld ?_ ?_
                        rotate_left
                        · rintro w' ⟨s0, s1, s2, s3⟩
                          go_simp
                          with_reducible rfl
                        rotate_left
                        · simp only [Act.put, List.setIfInBounds_toArray, List.set_cons_zero, List.set_cons_succ, i64_w, i32_w]
                          rfl
                        refine pure_ (i := 9) (N := some 62) (v := ?_) (a' := ?_) #[true, true, true, true, true, true, true, true, true, true, false] rfl rfl (any_of HT_.out z11_12) (fun _ _ _ h => h) (Or.inl ⟨by rfl, ?_⟩) ?_ ?_
                        rotate_left
                        · intro w'
                          go_simp
                          with_reducible rfl
                        rotate_left
                        · simp only [Act.put, List.setIfInBounds_toArray, List.set_cons_zero, List.set_cons_succ, i64_w, i32_w]
                          rfl
                        refine pure_ (i := 10) (N := some 63) (v := ?_) (a' := ?_) #[true, true, true, true, true, true, true, true, true, true, true] rfl rfl (any_of HT_.out z11_12) (fun _ _ _ h => h) (Or.inl ⟨by rfl, ?_⟩) ?_ ?_
                        rotate_left
                        · intro w'
                          go_simp
                          with_reducible rfl
                        rotate_left
                        · simp only [Act.put, List.setIfInBounds_toArray, List.set_cons_zero, List.set_cons_succ, i64_w, i32_w]
                          rfl
                        refine done_ (done_of HT_.out z11_12) ?_
                        try go_wp2
                        go_roundg k2
                        case measure => have := HJ7.out; have := HK2.out; omega
                        case rel => exact ⟨(wrap64 (x7_2 + 1)), (by first | rfl | (simp; done) | (simp [*]; done)), H', ⟨by have := HJ7.out; have := HK2.out; omega⟩, ⟨by (with_reducible repeat (first | apply Kd.R_alloc | apply Kd.R_drewN | apply Kd.R_drew)); exact Kd.R_mono HO_4.out (fun _ hk => hk.1)⟩, ⟨by (with_reducible repeat (first | apply Kd.S_alloc | apply Kd.S_drewN | apply Kd.S_drew)); exact Kd.S_mono HO_5.out (fun _ hk => ⟨hk.1, hk.2.1⟩)⟩, ⟨by (with_reducible repeat (first | apply Kd.R_alloc | apply Kd.R_drewN | apply Kd.R_drew)); exact Kd.R_mono HO_6.out (fun _ hk => hk.1)⟩, ⟨by (with_reducible repeat (first | apply Kd.S_alloc | apply Kd.S_drewN | apply Kd.S_drew)); exact HO_423000.out⟩, ⟨by (with_reducible repeat (first | refine blk_drewN ?_ _ | refine blk_drew ?_ | refine blk_alloc ?_ _)); exact BK422.out⟩, ⟨by repeat (first | (with_reducible first | exact HB.out | apply below_alloc | apply pw_below_drewN | apply below_drew1 | refine below_set ?_ GE422.out | refine below_set ?_ GE445.out) | exact HB.out)⟩⟩
                      · rw [if_neg c31] at H
                        have c31b0 : (t443 == (rd t429 x7_2)) = false := beq_eq_false_iff_ne.mpr c31
                        have c31b1 : (t443 != (rd t429 x7_2)) = true := bne_iff_ne.mpr c31
                        obtain rfl := Option.some.inj H
                        obtain ⟨Ao45, co45, eo45⟩ := Kd.R_slice HO_6.out
                        subst eo45
                        try go_wp2
                        have n0_ := Aside0.mk (Kd.R_drew HO_4.out)
                        have n1_ := Aside0.mk (Kd.S_drew HO_5.out)
                        have n2_ := Aside0.mk (Kd.R_drew HO_6.out)
                        have n3_ := Aside0.mk (Kd.S_drew HO_423000.out)
                        have n4_ := Aside0.mk (blk_drew BK422.out)
                        have n5_ := Aside0.mk (below_drew1 HB.out)
                        clear HO_4
                        clear HO_5
                        clear HO_6
                        clear HO_423000
                        clear BK422
                        clear HB
                        have HO_4 := n0_
                        have HO_5 := n1_
                        have HO_6 := n2_
                        have HO_423000 := n3_
                        have BK422 := n4_
                        have HB := n5_
                        clear n0_ n1_ n2_ n3_ n4_ n5_
                        have q47 : (x7_2 : Int) ≤ ((t426.length : Int) : Int) := of_decide_eq_true z11_20
                        obtain ⟨i047, hi047, _, hsz47, _⟩ := info_parts info28
                        have hroom47 : t426.length ≤ co17 := (Kd.S_reads' HO_5.out).2.1
                        have hC47 : Kd.C (Kd.slice 3 (Kd.int .i64)) _ Ao17 t426.length t426 := (Kd.S_reads' HO_5.out).2.2
                        have hcut47 := cut_to (P := Try.prog) 40 28 .i64 Try.underlying40 hi047 Ao17 t426.length co17 x7_2 (of_decide_eq_true z11_20) q47 hroom47
                        have hr47 := Kd.C_take (m := (x7_2 : Int).toNat) hC47 (by omega)
                        have hy47 : y433.length = (x7_2 : Int).toNat := (by rw [Ny433.out, List.length_take]; omega)
                        rw [← Ny433.out] at hr47
                        rw [← hy47] at hcut47
                        have HR436 := Aside0.mk hr47
                        have HC436 := Aside0.mk (show y433.length ≤ co17 from by omega)
                        clear hr47 hC47 hroom47 hi047 hsz47
                        have KY47 := Aside0.mk hy47
                        clear hy47
                        have KL47 := Aside0.mk (show (x7_2 : Int).toNat ≤ t426.length from by omega)
                        replace q47 := eq_true q47
                        refine start_ (n := 12) (S := fun w' => w'.cell? ⟨gb422, 0, none⟩ = some (.slice Ao11 t419.length co11)) (ds := []) #[false, false, false, false, false, false, false, false, false, false, false, false] z11_12 rfl rfl ((blk_cell BK422.out 0).trans rfl) (fun hHeld => ?_); refine with_tabW laws_FnRefTasks.tab12 laws_FnRefTasks.bits12 (fun HT_ HW_ => ?_)
                        generalize wr.drew = w46 at HO_4 HO_5 HO_6 HO_423000 BK422 HB HR436 hHeld ⊢
                        refine pure_ (i := 1) (N := some 46) (v := ?_) (a' := ?_) #[false, true, false, false, false, false, false, false, false, false, false, false] rfl rfl (any_of HT_.out z11_12) (fun _ _ _ h => h) (Or.inl ⟨by rfl, ?_⟩) ?_ ?_
                        rotate_left
                        · intro w'
                          go_simp
                          with_reducible rfl
                        rotate_left
                        · simp only [Act.put, List.setIfInBounds_toArray, List.set_cons_zero, List.set_cons_succ, i64_w, i32_w]
                          rfl
                        refine pure_ (i := 2) (N := some 47) (v := ?_) (a' := ?_) #[false, true, true, false, false, false, false, false, false, false, false, false] rfl rfl (any_of HT_.out z11_12) (fun _ _ _ h => h) (Or.inl ⟨by rfl, ?_⟩) ?_ ?_
                        rotate_left
                        · intro w'
                          go_simp
                          with_reducible rfl
                        rotate_left
                        · simp only [Act.put, List.setIfInBounds_toArray, List.set_cons_zero, List.set_cons_succ, i64_w, i32_w]
                          rfl
                        refine pure_ (i := 3) (N := some 48) (v := ?_) (a' := ?_) #[false, true, true, true, false, false, false, false, false, false, false, false] rfl rfl (any_of HT_.out z11_12) (fun _ _ _ h => h) (Or.inl ⟨by rfl, ?_⟩) ?_ ?_
                        rotate_left
                        · intro w'
                          go_simp
                          with_reducible rfl
                        rotate_left
                        · simp only [Act.put, List.setIfInBounds_toArray, List.set_cons_zero, List.set_cons_succ, i64_w, i32_w]
                          rfl
                        refine pure_ (i := 4) (N := some 49) (v := ?_) (a' := ?_) #[false, true, true, true, true, false, false, false, false, false, false, false] rfl rfl (any_of HT_.out z11_12) (fun _ _ _ h => h) (Or.inl ⟨by rfl, ?_⟩) ?_ ?_
                        rotate_left
                        · intro w'
                          go_simp
                          with_reducible rfl
                        rotate_left
                        · simp only [Act.put, List.setIfInBounds_toArray, List.set_cons_zero, List.set_cons_succ, i64_w, i32_w]
                          rfl
                        refine take_ (i := 0) (N := some 45) (v := ?_) (a' := ?_) #[true, true, true, true, true, false, false, false, false, false, false, false] rfl rfl (take_ofW HT_.out HW_.out z11_12) (fun _ _ _ h => h) (Or.inl ⟨by rfl, ?_⟩) hHeld ?_ ?_
                        rotate_left
                        · intro w' s0
                          go_simp
                          with_reducible rfl
                        rotate_left
                        · simp only [Act.put, List.setIfInBounds_toArray, List.set_cons_zero, List.set_cons_succ, i64_w, i32_w]
                          rfl
                        refine join_ (σ := Value × Value × Nat) 2 #[true, true, true, true, true, true, true, true, true, true, false, false] (fun s_ => [(50, .tuple #[.agg #[s_.1, s_.2.1, .int .i64 t443], .bool true]), (8, .pointer (some ⟨s_.2.2, 0, none⟩)), (44, .tuple #[.agg #[s_.1, s_.2.1, .int .i64 t443], .bool true]), (51, .agg #[s_.1, s_.2.1, .int .i64 t443]), (52, .bool true)]) (fun s_ w' => (w'.cell? ⟨gb422, 0, none⟩ = some (.slice Ao11 t419.length co11)) ∧ (Kd.R (Kd.int .i64) 3 w' w.heap.size (fun k_ => some k_ ≠ (s_.2.1 : Value).ownBlock ∧ some k_ ≠ (.slice Ao16 t423.length co16 : Value).ownBlock ∧ some k_ ≠ (.slice Ao45 t429.length co45 : Value).ownBlock) s_.1 t437) ∧ (Kd.R (Kd.int .i64) 3 w' w.heap.size (fun k_ => some k_ ≠ (s_.1 : Value).ownBlock ∧ some k_ ≠ (.slice Ao16 t423.length co16 : Value).ownBlock ∧ some k_ ≠ (.slice Ao45 t429.length co45 : Value).ownBlock) s_.2.1 t440) ∧ (Kd.R (Kd.int .i64) 3 w' w.heap.size (fun k_ => some k_ ≠ (s_.1 : Value).ownBlock ∧ some k_ ≠ (s_.2.1 : Value).ownBlock ∧ some k_ ≠ (.slice Ao45 t429.length co45 : Value).ownBlock) (.slice Ao16 t423.length co16) t423) ∧ (Kd.S k34 34 w' w.heap.size (fun _ => True) (.slice Ao11 t419.length co11) t419) ∧ (Kd.S (Kd.slice 3 (Kd.int .i64)) 28 w' w.heap.size (fun k_ => some k_ ≠ (s_.1 : Value).ownBlock ∧ some k_ ≠ (s_.2.1 : Value).ownBlock ∧ some k_ ≠ (.slice Ao16 t423.length co16 : Value).ownBlock ∧ some k_ ≠ (.slice Ao45 t429.length co45 : Value).ownBlock) (.slice Ao17 t426.length co17) t426) ∧ (Kd.R (Kd.int .i64) 3 w' w.heap.size (fun k_ => some k_ ≠ (s_.1 : Value).ownBlock ∧ some k_ ≠ (s_.2.1 : Value).ownBlock ∧ some k_ ≠ (.slice Ao16 t423.length co16 : Value).ownBlock) (.slice Ao45 t429.length co45) t429) ∧ (w'.heap[gb422]? = some (.cells #[.slice Ao11 t419.length co11] 26 (0, 0))) ∧ (w'.heap[s_.2.2]? = some (.cells #[.slice none 0 0, .slice none 0 0, .int .i64 0] 44 (0, 0))) ∧ (w.heap.size ≤ s_.2.2) ∧ (w.heap.size ≤ s_.2.2) ∧ (gb422 ≠ s_.2.2) ∧ (s_.2.2 ≠ gb422) ∧ (Below w.heap.size w w')) ?_ ?_
                        rotate_left
                        · intro hCont
                          refine two_ (i := 5) (j := 9) (Ni := some 50) (Nj := some 8) #[true, true, true, true, true, true, false, false, false, false, false, false] #[true, true, true, true, true, false, false, false, false, true, false, false] rfl rfl rfl rfl (two_of HT_.out z11_12) (by decide) (by decide) (fun K hK => ?_) (fun K hK => ?_)
                          · skip
                            refine goes_ Try.func21 z11_12 rfl #[.agg #[.slice Ao11 t419.length co11], .int .i64 0, .slice Ao16 t423.length co16, .slice Ao17 y433.length co17] (by rfl) rfl rfl z11_7 ?_
                            with_reducible refine (impl_RefRun.calls k2 _ _ t419 0 _ _ t423 _ _ y433 t437 t440 t443 true _ ?side1 ?side2 ?side3 ?side4 ?side5 ?side6 A29.out).mono ?_
                            (case side1 => exact z11_10)
                            (case side2 => exact (Kd.S_reads' HO_423000.out).2.1)
                            (case side3 => exact z11_11)
                            (case side4 => exact (Kd.R_reads' HO_4.out).2.1)
                            (case side5 => exact z11_24)
                            (case side6 => exact HC436.out)
                            rintro e w48 ⟨v438, v441, rfl, ho0, ho1, hb⟩
                            refine ⟨_, rfl, ?_⟩
                            have n0_ := Aside0.mk (Kd.R_mono (Kd.R_told (Kd.R_told (Kd.R_old z11_5 hb) (Kd.R_base ho0)) (Kd.R_base ho1)) (fun _ h_ => h_.1))
                            have n1_ := Aside0.mk (Kd.S_mono (Kd.S_told (Kd.S_told (Kd.S_old z11_8 hb) (Kd.R_base ho0)) (Kd.R_base ho1)) (fun _ h_ => h_.1))
                            have n2_ := Aside0.mk (Kd.R_mono (Kd.R_told (Kd.R_told (Kd.R_old z11_4 hb) (Kd.R_base ho0)) (Kd.R_base ho1)) (fun _ h_ => h_.1))
                            have n3_ := Aside0.mk (Kd.S_below z11_6 hb)
                            have n4_ := Aside0.mk (Kd.R_lower (Kd.R_new' (Kd.R_new' ho0 (Kd.R_lt z11_5)) (Kd.R_lt z11_4)) (below_size z11_0))
                            have n5_ := Aside0.mk (Kd.R_lower (Kd.R_new' (Kd.R_new' ho1 (Kd.R_lt z11_5)) (Kd.R_lt z11_4)) (below_size z11_0))
                            have n6_ := Aside0.mk (blk_below (g := gb422) (o := .cells #[.slice Ao11 t419.length co11] 26 (0, 0)) z11_1 hb)
                            have n7_ := Aside0.mk (Kd.C_below z11_2 hb)
                            have n8_ := Aside0.mk (below_step z11_0 hb)
                            clear HO_4
                            clear HO_5
                            clear HO_6
                            clear HO_423000
                            clear BK422
                            clear HR436
                            clear HB
                            have HO_4 := n0_
                            have HO_5 := n1_
                            have HO_6 := n2_
                            have HO_423000 := n3_
                            have HO439 := n4_
                            have HO442 := n5_
                            have BK422 := n6_
                            have HR436 := n7_
                            have HB := n8_
                            clear n0_ n1_ n2_ n3_ n4_ n5_ n6_ n7_ n8_
                            (try clear hb)
                            (try clear hb2)
                            (try clear hk)
                            (try clear hi)
                            (try clear ho0)
                            (try clear ho1)
                            refine hK.out _ _ ((blk_cell BK422.out 0).trans rfl) (fun hHeld => ?_)
                            clear hK K
                            refine norm_ (a' := ?_) ?_ ?_
                            rotate_left
                            · show Act.put _ (some 50) _ = _
                              simp only [Act.put, List.setIfInBounds_toArray, List.set_cons_zero, List.set_cons_succ, i64_w, i32_w]
                              rfl
                            refine pure_ (i := 6) (N := some 44) (v := ?_) (a' := ?_) #[true, true, true, true, true, true, true, false, false, false, false, false] rfl rfl (any_of HT_.out z11_12) (fun _ _ _ h => h) (Or.inl ⟨by rfl, ?_⟩) ?_ ?_
                            rotate_left
                            · intro w'
                              go_simp
                              with_reducible rfl
                            rotate_left
                            · simp only [Act.put, List.setIfInBounds_toArray, List.set_cons_zero, List.set_cons_succ, i64_w, i32_w]
                              rfl
                            refine pure_ (i := 7) (N := some 51) (v := ?_) (a' := ?_) #[true, true, true, true, true, true, true, true, false, false, false, false] rfl rfl (any_of HT_.out z11_12) (fun _ _ _ h => h) (Or.inl ⟨by rfl, ?_⟩) ?_ ?_
                            rotate_left
                            · intro w'
                              go_simp
                              with_reducible rfl
                            rotate_left
                            · simp only [Act.put, List.setIfInBounds_toArray, List.set_cons_zero, List.set_cons_succ, i64_w, i32_w]
                              rfl
                            refine pure_ (i := 8) (N := some 52) (v := ?_) (a' := ?_) #[true, true, true, true, true, true, true, true, true, false, false, false] rfl rfl (any_of HT_.out z11_12) (fun _ _ _ h => h) (Or.inl ⟨by rfl, ?_⟩) ?_ ?_
                            rotate_left
                            · intro w'
                              go_simp
                              with_reducible rfl
                            rotate_left
                            · simp only [Act.put, List.setIfInBounds_toArray, List.set_cons_zero, List.set_cons_succ, i64_w, i32_w]
                              rfl
                            refine one_ (i := 9) (N := some 8) #[true, true, true, true, true, true, true, true, true, true, false, false] rfl rfl (one_of HT_.out z11_12) (by decide) (fun K hK => ?_)
                            refine box_step ?hg (N := 8) ?hd (cs := #[.slice none 0 0, .slice none 0 0, .int .i64 0]) (t := 44) ?hr ?_; (case hd => rfl); (case hg => rfl); (case hr => exact z11_23)
                            intro gb445 hg w49 hbox hb
                            have n0_ := Aside0.mk (Kd.R_below z11_5 hb)
                            have n1_ := Aside0.mk (Kd.S_below z11_8 hb)
                            have n2_ := Aside0.mk (Kd.R_below z11_4 hb)
                            have n3_ := Aside0.mk (Kd.S_below z11_6 hb)
                            have n4_ := Aside0.mk (Kd.R_below (by (with_reducible repeat (first | apply Kd.R_alloc | apply Kd.R_drewN | apply Kd.R_drew)); exact HO439.out) hb)
                            have n5_ := Aside0.mk (Kd.R_below (by (with_reducible repeat (first | apply Kd.R_alloc | apply Kd.R_drewN | apply Kd.R_drew)); exact HO442.out) hb)
                            have n6_ := Aside0.mk (blk_below (g := gb422) (o := .cells #[.slice Ao11 t419.length co11] 26 (0, 0)) z11_1 hb)
                            have n7_ := Aside0.mk (Kd.C_below z11_2 hb)
                            have n8_ := Aside0.mk (below_step z11_0 hb)
                            have n9_ := Aside0.mk (hbox)
                            have n10_ := Aside0.mk ((z11_27 : w.heap.size ≤ gb445))
                            have n11_ := Aside0.mk ((z11_27 : w.heap.size ≤ gb445))
                            have n12_ := Aside0.mk ((z11_25 : gb422 ≠ gb445))
                            have n13_ := Aside0.mk ((z11_26 : gb445 ≠ gb422))
                            clear HO_4
                            clear HO_5
                            clear HO_6
                            clear HO_423000
                            clear HO439
                            clear HO442
                            clear BK422
                            clear HR436
                            clear HB
                            have HO_4 := n0_
                            have HO_5 := n1_
                            have HO_6 := n2_
                            have HO_423000 := n3_
                            have HO439 := n4_
                            have HO442 := n5_
                            have BK422 := n6_
                            have HR436 := n7_
                            have HB := n8_
                            have BK445 := n9_
                            have GW445 := n10_
                            have GE445 := n11_
                            have NB422_445 := n12_
                            have NB445_422 := n13_
                            clear n0_ n1_ n2_ n3_ n4_ n5_ n6_ n7_ n8_ n9_ n10_ n11_ n12_ n13_
                            clear hb hbox hg
                            refine hK.out _ _ ((blk_cell BK422.out 0).trans rfl) (fun hHeld => ?_)
                            clear hK K
                            refine norm_ (a' := ?_) ?_ ?_
                            rotate_left
                            · show Act.put _ (some 8) _ = _
                              simp only [Act.put, List.setIfInBounds_toArray, List.set_cons_zero, List.set_cons_succ, i64_w, i32_w]
                              rfl
                            exact norm_ z11_19 (hCont (v438, v441, gb445) _ ⟨hHeld, z11_15, z11_14, z11_17, z11_6, z11_13, z11_16, z11_1, z11_9, GW445.out, GE445.out, NB422_445.out, NB445_422.out, z11_3⟩)
                          · skip
                            refine box_step ?hg (N := 8) ?hd (cs := #[.slice none 0 0, .slice none 0 0, .int .i64 0]) (t := 44) ?hr ?_; (case hd => rfl); (case hg => rfl); (case hr => exact z11_23)
                            intro gb445 hg w48 hbox hb
                            have n0_ := Aside0.mk (Kd.R_below z11_5 hb)
                            have n1_ := Aside0.mk (Kd.S_below z11_8 hb)
                            have n2_ := Aside0.mk (Kd.R_below z11_4 hb)
                            have n3_ := Aside0.mk (Kd.S_below z11_6 hb)
                            have n4_ := Aside0.mk (blk_below (g := gb422) (o := .cells #[.slice Ao11 t419.length co11] 26 (0, 0)) z11_1 hb)
                            have n5_ := Aside0.mk (Kd.C_below z11_2 hb)
                            have n6_ := Aside0.mk (below_step z11_0 hb)
                            have n7_ := Aside0.mk (hbox)
                            have n8_ := Aside0.mk ((z11_27 : w.heap.size ≤ gb445))
                            have n9_ := Aside0.mk ((z11_27 : w.heap.size ≤ gb445))
                            have n10_ := Aside0.mk ((z11_25 : gb422 ≠ gb445))
                            have n11_ := Aside0.mk ((z11_26 : gb445 ≠ gb422))
                            clear HO_4
                            clear HO_5
                            clear HO_6
                            clear HO_423000
                            clear BK422
                            clear HR436
                            clear HB
                            have HO_4 := n0_
                            have HO_5 := n1_
                            have HO_6 := n2_
                            have HO_423000 := n3_
                            have BK422 := n4_
                            have HR436 := n5_
                            have HB := n6_
                            have BK445 := n7_
                            have GW445 := n8_
                            have GE445 := n9_
                            have NB422_445 := n10_
                            have NB445_422 := n11_
                            clear n0_ n1_ n2_ n3_ n4_ n5_ n6_ n7_ n8_ n9_ n10_ n11_
                            clear hb hbox hg
                            refine hK.out _ _ ((blk_cell BK422.out 0).trans rfl) (fun hHeld => ?_)
                            clear hK K
                            refine norm_ (a' := ?_) ?_ ?_
                            rotate_left
                            · show Act.put _ (some 8) _ = _
                              simp only [Act.put, List.setIfInBounds_toArray, List.set_cons_zero, List.set_cons_succ, i64_w, i32_w]
                              rfl
                            refine one_ (i := 5) (N := some 50) #[true, true, true, true, true, true, false, false, false, true, false, false] rfl rfl (one_of HT_.out z11_12) (by decide) (fun K hK => ?_)
                            refine goes_ Try.func21 z11_12 rfl #[.agg #[.slice Ao11 t419.length co11], .int .i64 0, .slice Ao16 t423.length co16, .slice Ao17 y433.length co17] (by rfl) rfl rfl z11_7 ?_
                            with_reducible refine (impl_RefRun.calls k2 _ _ t419 0 _ _ t423 _ _ y433 t437 t440 t443 true _ ?side1 ?side2 ?side3 ?side4 ?side5 ?side6 A29.out).mono ?_
                            (case side1 => exact z11_10)
                            (case side2 => exact (Kd.S_reads' HO_423000.out).2.1)
                            (case side3 => exact z11_11)
                            (case side4 => exact (Kd.R_reads' HO_4.out).2.1)
                            (case side5 => exact z11_24)
                            (case side6 => exact HC436.out)
                            rintro e w49 ⟨v438, v441, rfl, ho0, ho1, hb⟩
                            refine ⟨_, rfl, ?_⟩
                            have n0_ := Aside0.mk (Kd.R_mono (Kd.R_told (Kd.R_told (Kd.R_old z11_5 hb) (Kd.R_base ho0)) (Kd.R_base ho1)) (fun _ h_ => h_.1))
                            have n1_ := Aside0.mk (Kd.S_mono (Kd.S_told (Kd.S_told (Kd.S_old z11_8 hb) (Kd.R_base ho0)) (Kd.R_base ho1)) (fun _ h_ => h_.1))
                            have n2_ := Aside0.mk (Kd.R_mono (Kd.R_told (Kd.R_told (Kd.R_old z11_4 hb) (Kd.R_base ho0)) (Kd.R_base ho1)) (fun _ h_ => h_.1))
                            have n3_ := Aside0.mk (Kd.S_below z11_6 hb)
                            have n4_ := Aside0.mk (Kd.R_lower (Kd.R_new' (Kd.R_new' ho0 (Kd.R_lt z11_5)) (Kd.R_lt z11_4)) (below_size z11_3))
                            have n5_ := Aside0.mk (Kd.R_lower (Kd.R_new' (Kd.R_new' ho1 (Kd.R_lt z11_5)) (Kd.R_lt z11_4)) (below_size z11_3))
                            have n6_ := Aside0.mk (blk_below (g := gb422) (o := .cells #[.slice Ao11 t419.length co11] 26 (0, 0)) z11_1 hb)
                            have n7_ := Aside0.mk (Kd.C_below z11_2 hb)
                            have n8_ := Aside0.mk (blk_below (g := gb445) (o := .cells #[.slice none 0 0, .slice none 0 0, .int .i64 0] 44 (0, 0)) z11_9 hb)
                            have n9_ := Aside0.mk (below_step z11_3 hb)
                            clear HO_4
                            clear HO_5
                            clear HO_6
                            clear HO_423000
                            clear BK422
                            clear HR436
                            clear BK445
                            clear HB
                            have HO_4 := n0_
                            have HO_5 := n1_
                            have HO_6 := n2_
                            have HO_423000 := n3_
                            have HO439 := n4_
                            have HO442 := n5_
                            have BK422 := n6_
                            have HR436 := n7_
                            have BK445 := n8_
                            have HB := n9_
                            clear n0_ n1_ n2_ n3_ n4_ n5_ n6_ n7_ n8_ n9_
                            (try clear hb)
                            (try clear hb2)
                            (try clear hk)
                            (try clear hi)
                            (try clear ho0)
                            (try clear ho1)
                            refine hK.out _ _ ((blk_cell BK422.out 0).trans rfl) (fun hHeld => ?_)
                            clear hK K
                            refine norm_ (a' := ?_) ?_ ?_
                            rotate_left
                            · show Act.put _ (some 50) _ = _
                              simp only [Act.put, List.setIfInBounds_toArray, List.set_cons_zero, List.set_cons_succ, i64_w, i32_w]
                              rfl
                            refine pure_ (i := 6) (N := some 44) (v := ?_) (a' := ?_) #[true, true, true, true, true, true, true, false, false, true, false, false] rfl rfl (any_of HT_.out z11_12) (fun _ _ _ h => h) (Or.inl ⟨by rfl, ?_⟩) ?_ ?_
                            rotate_left
                            · intro w'
                              go_simp
                              with_reducible rfl
                            rotate_left
                            · simp only [Act.put, List.setIfInBounds_toArray, List.set_cons_zero, List.set_cons_succ, i64_w, i32_w]
                              rfl
                            refine pure_ (i := 7) (N := some 51) (v := ?_) (a' := ?_) #[true, true, true, true, true, true, true, true, false, true, false, false] rfl rfl (any_of HT_.out z11_12) (fun _ _ _ h => h) (Or.inl ⟨by rfl, ?_⟩) ?_ ?_
                            rotate_left
                            · intro w'
                              go_simp
                              with_reducible rfl
                            rotate_left
                            · simp only [Act.put, List.setIfInBounds_toArray, List.set_cons_zero, List.set_cons_succ, i64_w, i32_w]
                              rfl
                            refine pure_ (i := 8) (N := some 52) (v := ?_) (a' := ?_) #[true, true, true, true, true, true, true, true, true, true, false, false] rfl rfl (any_of HT_.out z11_12) (fun _ _ _ h => h) (Or.inl ⟨by rfl, ?_⟩) ?_ ?_
                            rotate_left
                            · intro w'
                              go_simp
                              with_reducible rfl
                            rotate_left
                            · simp only [Act.put, List.setIfInBounds_toArray, List.set_cons_zero, List.set_cons_succ, i64_w, i32_w]
                              rfl
                            exact norm_ z11_19 (hCont (v438, v441, gb445) _ ⟨hHeld, z11_15, z11_14, z11_17, z11_6, z11_13, z11_16, z11_1, z11_9, GW445.out, GE445.out, NB422_445.out, NB445_422.out, z11_3⟩)
                        rintro ⟨v438, v441, gb445⟩ w50 ⟨hS_, h0_, h1_, h2_, h3_, h4_, h5_, h6_, h7_, h8_, h9_, h10_, h11_, h12_⟩
                        have n0_ : Aside0 (Kd.R (Kd.int .i64) 3 w50 w.heap.size (fun k_ => some k_ ≠ (v441 : Value).ownBlock ∧ some k_ ≠ (.slice Ao16 t423.length co16 : Value).ownBlock ∧ some k_ ≠ (.slice Ao45 t429.length co45 : Value).ownBlock) v438 t437) := ⟨h0_⟩
                        have n1_ : Aside0 (Kd.R (Kd.int .i64) 3 w50 w.heap.size (fun k_ => some k_ ≠ (v438 : Value).ownBlock ∧ some k_ ≠ (.slice Ao16 t423.length co16 : Value).ownBlock ∧ some k_ ≠ (.slice Ao45 t429.length co45 : Value).ownBlock) v441 t440) := ⟨h1_⟩
                        have n2_ : Aside0 (Kd.R (Kd.int .i64) 3 w50 w.heap.size (fun k_ => some k_ ≠ (v438 : Value).ownBlock ∧ some k_ ≠ (v441 : Value).ownBlock ∧ some k_ ≠ (.slice Ao45 t429.length co45 : Value).ownBlock) (.slice Ao16 t423.length co16) t423) := ⟨h2_⟩
                        have n3_ : Aside0 (Kd.S k34 34 w50 w.heap.size (fun _ => True) (.slice Ao11 t419.length co11) t419) := ⟨h3_⟩
                        have n4_ : Aside0 (Kd.S (Kd.slice 3 (Kd.int .i64)) 28 w50 w.heap.size (fun k_ => some k_ ≠ (v438 : Value).ownBlock ∧ some k_ ≠ (v441 : Value).ownBlock ∧ some k_ ≠ (.slice Ao16 t423.length co16 : Value).ownBlock ∧ some k_ ≠ (.slice Ao45 t429.length co45 : Value).ownBlock) (.slice Ao17 t426.length co17) t426) := ⟨h4_⟩
                        have n5_ : Aside0 (Kd.R (Kd.int .i64) 3 w50 w.heap.size (fun k_ => some k_ ≠ (v438 : Value).ownBlock ∧ some k_ ≠ (v441 : Value).ownBlock ∧ some k_ ≠ (.slice Ao16 t423.length co16 : Value).ownBlock) (.slice Ao45 t429.length co45) t429) := ⟨h5_⟩
                        have n6_ : Aside0 (w50.heap[gb422]? = some (.cells #[.slice Ao11 t419.length co11] 26 (0, 0))) := ⟨h6_⟩
                        have n7_ : Aside0 (w50.heap[gb445]? = some (.cells #[.slice none 0 0, .slice none 0 0, .int .i64 0] 44 (0, 0))) := ⟨h7_⟩
                        have n8_ : Aside0 (w.heap.size ≤ gb445) := ⟨h8_⟩
                        have n9_ : Aside0 (w.heap.size ≤ gb445) := ⟨h9_⟩
                        have n10_ : Aside0 (gb422 ≠ gb445) := ⟨h10_⟩
                        have n11_ : Aside0 (gb445 ≠ gb422) := ⟨h11_⟩
                        have n12_ : Aside0 (Below w.heap.size w w50) := ⟨h12_⟩
                        clear HO_4
                        clear HO_5
                        clear HO_6
                        clear HO_423000
                        clear BK422
                        clear HB
                        clear h0_ h1_ h2_ h3_ h4_ h5_ h6_ h7_ h8_ h9_ h10_ h11_ h12_
                        have HO439 := n0_
                        have HO442 := n1_
                        have HO_4 := n2_
                        have HO_423000 := n3_
                        have HO_5 := n4_
                        have HO_6 := n5_
                        have BK422 := n6_
                        have BK445 := n7_
                        have GW445 := n8_
                        have GE445 := n9_
                        have NB422_445 := n10_
                        have NB445_422 := n11_
                        have HB := n12_
                        clear n0_ n1_ n2_ n3_ n4_ n5_ n6_ n7_ n8_ n9_ n10_ n11_ n12_
                        have hHeld : w50.cell? ⟨gb422, 0, none⟩ = some (.slice Ao11 t419.length co11) := hS_
                        obtain ⟨Ao51, co51, eo51⟩ := Kd.R_slice HO439.out
                        (first | subst eo51 | (injection eo51 with f1_ f2_ f3_; have f4_ := f1_.symm; have f5_ := f3_.symm; clear f1_ f2_ f3_; subst f4_; subst f5_))
                        obtain ⟨Ao53, co53, eo53⟩ := Kd.R_slice HO442.out
                        (first | subst eo53 | (injection eo53 with f1_ f2_ f3_; have f4_ := f1_.symm; have f5_ := f3_.symm; clear f1_ f2_ f3_; subst f4_; subst f5_))
                        refine norm_ (a' := ?_) ?_ ?_
                        rotate_left
                        · simp only [putAll, Act.put, List.setIfInBounds_toArray, List.set_cons_zero, List.set_cons_succ]
                          rfl
                        refine one_ (i := 10) (N := none) #[true, true, true, true, true, true, true, true, true, true, true, false] rfl rfl (one_of HT_.out z11_12) (by decide) (fun K hK => ?_)
                        have hs52 : w50.cell? ⟨gb445, 0, none⟩ = some (.slice none 0 0) := (blk_cell BK445.out 0).trans rfl
                        have hfs52 := blk_frozen BK445.out 0
                        have hns52_0 := NB422_445.out
                        have hms52_0 := NB445_422.out
                        have hs54 : w50.cell? ⟨gb445, 1, none⟩ = some (.slice none 0 0) := (blk_cell BK445.out 1).trans rfl
                        have hfs54 := blk_frozen BK445.out 1
                        have hns54_0 := NB422_445.out
                        have hms54_0 := NB445_422.out
                        have hs55 : w50.cell? ⟨gb445, 2, none⟩ = some (.int .i64 0) := (blk_cell BK445.out 2).trans rfl
                        have hfs55 := blk_frozen BK445.out 2
                        have hns55_0 := NB422_445.out
                        have hms55_0 := NB445_422.out
                        refine skip_ (w1 := ?_) (by rfl) rfl ?_ ?_
                        rotate_left
                        · go_simp
                          rfl
                        refine hK.out _ _ (((cell_far (p := ⟨gb445, _, none⟩) NB422_445.out _).trans (((cell_far (p := ⟨gb445, _, none⟩) NB422_445.out _).trans (((cell_far (p := ⟨gb445, _, none⟩) NB422_445.out _).trans (hHeld))))))) (fun hHeld => ?_)
                        clear hK K
                        refine pure_ (i := 11) (N := some 9) (v := ?_) (a' := ?_) #[true, true, true, true, true, true, true, true, true, true, true, true] rfl rfl (any_of HT_.out z11_12) (fun _ _ _ h => h) (Or.inl ⟨by rfl, ?_⟩) ?_ ?_
                        rotate_left
                        · intro w'
                          go_simp
                          with_reducible rfl
                        rotate_left
                        · simp only [Act.put, List.setIfInBounds_toArray, List.set_cons_zero, List.set_cons_succ, i64_w, i32_w]
                          rfl
                        refine done_ (done_of HT_.out z11_12) ?_
                        try go_wp2
                        have n0_ : Aside0 (Kd.R (Kd.int .i64) 3 (((w50.setCell ⟨gb445, 0, none⟩ (.slice Ao51 t437.length co51)).setCell ⟨gb445, 1, none⟩ (.slice Ao53 t440.length co53)).setCell ⟨gb445, 2, none⟩ (.int .i64 t443)) w.heap.size (fun k_ => some k_ ≠ (.slice Ao45 t429.length co45 : Value).ownBlock ∧ some k_ ≠ (.slice Ao51 t437.length co51 : Value).ownBlock ∧ some k_ ≠ (.slice Ao53 t440.length co53 : Value).ownBlock) (.slice Ao16 t423.length co16) t423) := ⟨by (with_reducible repeat (first | apply Kd.R_alloc | apply Kd.R_drewN | apply Kd.R_drew)); exact Kd.R_mono (Kd.R_far (p := ⟨gb445, 2, none⟩) (Kd.R_far (p := ⟨gb445, 1, none⟩) (Kd.R_far (p := ⟨gb445, 0, none⟩) (Kd.R_types HO_4.out BK445.out (by decide)) (fun _ hk => hk.2) (.slice Ao51 t437.length co51)) (fun _ hk => hk.2) (.slice Ao53 t440.length co53)) (fun _ hk => hk.2) (.int .i64 t443)) (fun _ hk => ⟨hk.1.2.2, ⟨hk.1.1, hk.1.2.1⟩⟩)⟩
                        have n1_ : Aside0 (Kd.S (Kd.slice 3 (Kd.int .i64)) 28 (((w50.setCell ⟨gb445, 0, none⟩ (.slice Ao51 t437.length co51)).setCell ⟨gb445, 1, none⟩ (.slice Ao53 t440.length co53)).setCell ⟨gb445, 2, none⟩ (.int .i64 t443)) w.heap.size (fun k_ => some k_ ≠ (.slice Ao16 t423.length co16 : Value).ownBlock ∧ some k_ ≠ (.slice Ao45 t429.length co45 : Value).ownBlock ∧ some k_ ≠ (.slice Ao51 t437.length co51 : Value).ownBlock ∧ some k_ ≠ (.slice Ao53 t440.length co53 : Value).ownBlock) (.slice Ao17 t426.length co17) t426) := ⟨by (with_reducible repeat (first | apply Kd.S_alloc | apply Kd.S_drewN | apply Kd.S_drew)); exact Kd.S_mono (Kd.S_far (p := ⟨gb445, 2, none⟩) (Kd.S_far (p := ⟨gb445, 1, none⟩) (Kd.S_far (p := ⟨gb445, 0, none⟩) (Kd.S_types HO_5.out BK445.out (by decide)) (fun _ hk => hk.2) (.slice Ao51 t437.length co51)) (fun _ hk => hk.2) (.slice Ao53 t440.length co53)) (fun _ hk => hk.2) (.int .i64 t443)) (fun _ hk => ⟨hk.1.2.2.1, ⟨hk.1.2.2.2, ⟨hk.1.1, hk.1.2.1⟩⟩⟩)⟩
                        have n2_ : Aside0 (Kd.R (Kd.int .i64) 3 (((w50.setCell ⟨gb445, 0, none⟩ (.slice Ao51 t437.length co51)).setCell ⟨gb445, 1, none⟩ (.slice Ao53 t440.length co53)).setCell ⟨gb445, 2, none⟩ (.int .i64 t443)) w.heap.size (fun k_ => some k_ ≠ (.slice Ao16 t423.length co16 : Value).ownBlock ∧ some k_ ≠ (.slice Ao51 t437.length co51 : Value).ownBlock ∧ some k_ ≠ (.slice Ao53 t440.length co53 : Value).ownBlock) (.slice Ao45 t429.length co45) t429) := ⟨by (with_reducible repeat (first | apply Kd.R_alloc | apply Kd.R_drewN | apply Kd.R_drew)); exact Kd.R_mono (Kd.R_far (p := ⟨gb445, 2, none⟩) (Kd.R_far (p := ⟨gb445, 1, none⟩) (Kd.R_far (p := ⟨gb445, 0, none⟩) (Kd.R_types HO_6.out BK445.out (by decide)) (fun _ hk => hk.2) (.slice Ao51 t437.length co51)) (fun _ hk => hk.2) (.slice Ao53 t440.length co53)) (fun _ hk => hk.2) (.int .i64 t443)) (fun _ hk => ⟨hk.1.2.2, ⟨hk.1.1, hk.1.2.1⟩⟩)⟩
                        have n3_ : Aside0 (Kd.S k34 34 (((w50.setCell ⟨gb445, 0, none⟩ (.slice Ao51 t437.length co51)).setCell ⟨gb445, 1, none⟩ (.slice Ao53 t440.length co53)).setCell ⟨gb445, 2, none⟩ (.int .i64 t443)) w.heap.size (fun _ => True) (.slice Ao11 t419.length co11) t419) := ⟨by (with_reducible repeat (first | apply Kd.S_alloc | apply Kd.S_drewN | apply Kd.S_drew)); exact Kd.S_mono (Kd.S_far (p := ⟨gb445, 2, none⟩) (Kd.S_far (p := ⟨gb445, 1, none⟩) (Kd.S_far (p := ⟨gb445, 0, none⟩) (Kd.S_types HO_423000.out BK445.out (by decide)) (fun _ hk => hk.2) (.slice Ao51 t437.length co51)) (fun _ hk => hk.2) (.slice Ao53 t440.length co53)) (fun _ hk => hk.2) (.int .i64 t443)) (fun _ hk => trivial)⟩
                        have n4_ : Aside0 (Kd.R (Kd.int .i64) 3 (((w50.setCell ⟨gb445, 0, none⟩ (.slice Ao51 t437.length co51)).setCell ⟨gb445, 1, none⟩ (.slice Ao53 t440.length co53)).setCell ⟨gb445, 2, none⟩ (.int .i64 t443)) w.heap.size (fun k_ => some k_ ≠ (.slice Ao16 t423.length co16 : Value).ownBlock ∧ some k_ ≠ (.slice Ao45 t429.length co45 : Value).ownBlock ∧ some k_ ≠ (.slice Ao53 t440.length co53 : Value).ownBlock) (.slice Ao51 t437.length co51) t437) := ⟨by (with_reducible repeat (first | apply Kd.R_alloc | apply Kd.R_drewN | apply Kd.R_drew)); exact Kd.R_mono (Kd.R_far (p := ⟨gb445, 2, none⟩) (Kd.R_far (p := ⟨gb445, 1, none⟩) (Kd.R_far (p := ⟨gb445, 0, none⟩) (Kd.R_types HO439.out BK445.out (by decide)) (fun _ hk => hk.2) (.slice Ao51 t437.length co51)) (fun _ hk => hk.2) (.slice Ao53 t440.length co53)) (fun _ hk => hk.2) (.int .i64 t443)) (fun _ hk => ⟨hk.1.2.1, ⟨hk.1.2.2, hk.1.1⟩⟩)⟩
                        have n5_ : Aside0 (Kd.R (Kd.int .i64) 3 (((w50.setCell ⟨gb445, 0, none⟩ (.slice Ao51 t437.length co51)).setCell ⟨gb445, 1, none⟩ (.slice Ao53 t440.length co53)).setCell ⟨gb445, 2, none⟩ (.int .i64 t443)) w.heap.size (fun k_ => some k_ ≠ (.slice Ao16 t423.length co16 : Value).ownBlock ∧ some k_ ≠ (.slice Ao45 t429.length co45 : Value).ownBlock ∧ some k_ ≠ (.slice Ao51 t437.length co51 : Value).ownBlock) (.slice Ao53 t440.length co53) t440) := ⟨by (with_reducible repeat (first | apply Kd.R_alloc | apply Kd.R_drewN | apply Kd.R_drew)); exact Kd.R_mono (Kd.R_far (p := ⟨gb445, 2, none⟩) (Kd.R_far (p := ⟨gb445, 1, none⟩) (Kd.R_far (p := ⟨gb445, 0, none⟩) (Kd.R_types HO442.out BK445.out (by decide)) (fun _ hk => hk.2) (.slice Ao51 t437.length co51)) (fun _ hk => hk.2) (.slice Ao53 t440.length co53)) (fun _ hk => hk.2) (.int .i64 t443)) (fun _ hk => ⟨hk.1.2.1, ⟨hk.1.2.2, hk.1.1⟩⟩)⟩
                        have n6_ : Aside0 ((((w50.setCell ⟨gb445, 0, none⟩ (.slice Ao51 t437.length co51)).setCell ⟨gb445, 1, none⟩ (.slice Ao53 t440.length co53)).setCell ⟨gb445, 2, none⟩ (.int .i64 t443)).heap[gb422]? = some (.cells #[.slice Ao11 t419.length co11] 26 (0, 0))) := ⟨by (with_reducible repeat (first | refine blk_drewN ?_ _ | refine blk_drew ?_ | refine blk_alloc ?_ _)); refine blk_far ?_ NB422_445.out _; (with_reducible repeat (first | refine blk_drewN ?_ _ | refine blk_drew ?_ | refine blk_alloc ?_ _)); refine blk_far ?_ NB422_445.out _; (with_reducible repeat (first | refine blk_drewN ?_ _ | refine blk_drew ?_ | refine blk_alloc ?_ _)); refine blk_far ?_ NB422_445.out _; (with_reducible repeat (first | refine blk_drewN ?_ _ | refine blk_drew ?_ | refine blk_alloc ?_ _)); exact BK422.out⟩
                        have n7_ : Aside0 ((((w50.setCell ⟨gb445, 0, none⟩ (.slice Ao51 t437.length co51)).setCell ⟨gb445, 1, none⟩ (.slice Ao53 t440.length co53)).setCell ⟨gb445, 2, none⟩ (.int .i64 t443)).heap[gb445]? = some (.cells #[.slice Ao51 t437.length co51, .slice Ao53 t440.length co53, .int .i64 t443] 44 (0, 0))) := ⟨by (with_reducible repeat (first | refine blk_drewN ?_ _ | refine blk_drew ?_ | refine blk_alloc ?_ _)); refine blk_put (cs := #[.slice Ao51 t437.length co51, .slice Ao53 t440.length co53, .int .i64 0]) ?_ 2 _ rfl; (with_reducible repeat (first | refine blk_drewN ?_ _ | refine blk_drew ?_ | refine blk_alloc ?_ _)); refine blk_put (cs := #[.slice Ao51 t437.length co51, .slice none 0 0, .int .i64 0]) ?_ 1 _ rfl; (with_reducible repeat (first | refine blk_drewN ?_ _ | refine blk_drew ?_ | refine blk_alloc ?_ _)); refine blk_put (cs := #[.slice none 0 0, .slice none 0 0, .int .i64 0]) ?_ 0 _ rfl; (with_reducible repeat (first | refine blk_drewN ?_ _ | refine blk_drew ?_ | refine blk_alloc ?_ _)); exact BK445.out⟩
                        have n8_ : Aside0 (Below w.heap.size w (((w50.setCell ⟨gb445, 0, none⟩ (.slice Ao51 t437.length co51)).setCell ⟨gb445, 1, none⟩ (.slice Ao53 t440.length co53)).setCell ⟨gb445, 2, none⟩ (.int .i64 t443))) := ⟨by repeat (first | (with_reducible first | exact HB.out | apply below_alloc | apply pw_below_drewN | apply below_drew1 | refine below_set ?_ GE422.out | refine below_set ?_ GE445.out) | exact HB.out)⟩
                        (try clear HO_4)
                        (try clear HO_5)
                        (try clear HO_6)
                        (try clear HO_423000)
                        (try clear HO439)
                        (try clear HO442)
                        (try clear BK422)
                        (try clear BK445)
                        (try clear HB)
                        generalize (((w50.setCell ⟨gb445, 0, none⟩ (.slice Ao51 t437.length co51)).setCell ⟨gb445, 1, none⟩ (.slice Ao53 t440.length co53)).setCell ⟨gb445, 2, none⟩ (.int .i64 t443)) = w56 at n0_ n1_ n2_ n3_ n4_ n5_ n6_ n7_ n8_ ⊢
                        have HO_4 := n0_
                        have HO_5 := n1_
                        have HO_6 := n2_
                        have HO_423000 := n3_
                        have HO439 := n4_
                        have HO442 := n5_
                        have BK422 := n6_
                        have BK445 := n7_
                        have HB := n8_
                        clear n0_ n1_ n2_ n3_ n4_ n5_ n6_ n7_ n8_
                        have n0_ := Aside0.mk (Kd.R_drew HO_4.out)
                        have n1_ := Aside0.mk (Kd.S_drew HO_5.out)
                        have n2_ := Aside0.mk (Kd.R_drew HO_6.out)
                        have n3_ := Aside0.mk (Kd.S_drew HO_423000.out)
                        have n4_ := Aside0.mk (Kd.R_drew HO439.out)
                        have n5_ := Aside0.mk (Kd.R_drew HO442.out)
                        have n6_ := Aside0.mk (blk_drew BK422.out)
                        have n7_ := Aside0.mk (blk_drew BK445.out)
                        have n8_ := Aside0.mk (below_drew1 HB.out)
                        clear HO_4
                        clear HO_5
                        clear HO_6
                        clear HO_423000
                        clear HO439
                        clear HO442
                        clear BK422
                        clear BK445
                        clear HB
                        have HO_4 := n0_
                        have HO_5 := n1_
                        have HO_6 := n2_
                        have HO_423000 := n3_
                        have HO439 := n4_
                        have HO442 := n5_
                        have BK422 := n6_
                        have BK445 := n7_
                        have HB := n8_
                        clear n0_ n1_ n2_ n3_ n4_ n5_ n6_ n7_ n8_
                        have p446 : 0 ≤ (x7_2 : Int) := of_decide_eq_true z11_20
                        have q446 : x7_2 < (t429.length : Int) := of_decide_eq_true z11_20
                        obtain ⟨ad446, e446, hx446_0⟩ := Kd.at_int (Kd.R_reads' HO_6.out).2.2 x7_2 p446 q446
                        cases e446
                        replace p446 := eq_true p446
                        replace q446 := eq_true q446
                        refine start_ (n := 11) (S := fun w' => w'.cell? ⟨gb445, 0, none⟩ = some (.slice Ao51 t437.length co51) ∧ w'.cell? ⟨gb445, 1, none⟩ = some (.slice Ao53 t440.length co53) ∧ w'.cell? ⟨gb445, 2, none⟩ = some (.int .i64 t443) ∧ w'.cell? (ad446.add (x7_2).toNat) = some (.int .i64 (rd t429 x7_2))) (ds := []) #[false, false, false, false, false, false, false, false, false, false, false] z11_12 rfl rfl ⟨(blk_cell BK445.out 0).trans rfl, (blk_cell BK445.out 1).trans rfl, (blk_cell BK445.out 2).trans rfl, hx446_0⟩ (fun hHeld => ?_); refine with_tabW laws_FnRefTasks.tab13 laws_FnRefTasks.bits13 (fun HT_ HW_ => ?_)
                        generalize w56.drew = w57 at HO_4 HO_5 HO_6 HO_423000 HO439 HO442 BK422 BK445 HB hx446_0 hHeld ⊢
                        refine pure_ (i := 0) (N := some 53) (v := ?_) (a' := ?_) #[true, false, false, false, false, false, false, false, false, false, false] rfl rfl (any_of HT_.out z11_12) (fun _ _ _ h => h) (Or.inl ⟨by rfl, ?_⟩) ?_ ?_
                        rotate_left
                        · intro w'
                          go_simp
                          with_reducible rfl
                        rotate_left
                        · simp only [Act.put, List.setIfInBounds_toArray, List.set_cons_zero, List.set_cons_succ, i64_w, i32_w]
                          rfl
                        refine pure_ (i := 1) (N := some 54) (v := ?_) (a' := ?_) #[true, true, false, false, false, false, false, false, false, false, false] rfl rfl (any_of HT_.out z11_12) (fun _ _ _ h => h) (Or.inl ⟨by rfl, ?_⟩) ?_ ?_
                        rotate_left
                        · intro w'
                          go_simp
                          with_reducible rfl
                        rotate_left
                        · simp only [Act.put, List.setIfInBounds_toArray, List.set_cons_zero, List.set_cons_succ, i64_w, i32_w]
                          rfl
                        refine pure_ (i := 2) (N := some 55) (v := ?_) (a' := ?_) #[true, true, true, false, false, false, false, false, false, false, false] rfl rfl (any_of HT_.out z11_12) (fun _ _ _ h => h) (Or.inl ⟨by rfl, ?_⟩) ?_ ?_
                        rotate_left
                        · intro w'
                          go_simp
                          with_reducible rfl
                        rotate_left
                        · simp only [Act.put, List.setIfInBounds_toArray, List.set_cons_zero, List.set_cons_succ, i64_w, i32_w]
                          rfl
                        refine pure_ (i := 3) (N := some 56) (v := ?_) (a' := ?_) #[true, true, true, true, false, false, false, false, false, false, false] rfl rfl (any_of HT_.out z11_12) (fun _ _ _ h => h) (Or.inl ⟨by rfl, ?_⟩) ?_ ?_
                        rotate_left
                        · intro w'
                          go_simp
                          with_reducible rfl
                        rotate_left
                        · simp only [Act.put, List.setIfInBounds_toArray, List.set_cons_zero, List.set_cons_succ, i64_w, i32_w]
                          rfl
                        refine pure_ (i := 5) (N := some 58) (v := ?_) (a' := ?_) #[true, true, true, true, false, true, false, false, false, false, false] rfl rfl (any_of HT_.out z11_12) (fun _ _ _ h => h) (Or.inl ⟨by rfl, ?_⟩) ?_ ?_
                        rotate_left
                        · intro w'
                          go_simp
                          with_reducible rfl
                        rotate_left
                        · simp only [Act.put, List.setIfInBounds_toArray, List.set_cons_zero, List.set_cons_succ, i64_w, i32_w]
                          rfl
                        refine pure_ (i := 6) (N := some 59) (v := ?_) (a' := ?_) #[true, true, true, true, false, true, true, false, false, false, false] rfl rfl (any_of HT_.out z11_12) (fun _ _ _ h => h) (Or.inl ⟨by rfl, ?_⟩) ?_ ?_
                        rotate_left
                        · intro w'
                          go_simp
                          with_reducible rfl
                        rotate_left
                        · simp only [Act.put, List.setIfInBounds_toArray, List.set_cons_zero, List.set_cons_succ, i64_w, i32_w]
                          rfl
                        refine pure_ (i := 7) (N := some 60) (v := ?_) (a' := ?_) #[true, true, true, true, false, true, true, true, false, false, false] rfl rfl (any_of HT_.out z11_12) (fun _ _ _ h => h) (Or.inl ⟨by rfl, ?_⟩) ?_ ?_
                        rotate_left
                        · intro w'
                          go_simp
                          with_reducible rfl
                        rotate_left
                        · simp only [Act.put, List.setIfInBounds_toArray, List.set_cons_zero, List.set_cons_succ, i64_w, i32_w]
                          rfl
                        refine take_ (i := 4) (N := some 57) (v := ?_) (a' := ?_) #[true, true, true, true, true, true, true, true, false, false, false] rfl rfl (take_ofW HT_.out HW_.out z11_12) (fun _ _ _ h => h) (Or.inl ⟨by rfl, ?_⟩) hHeld ?_ ?_
                        rotate_left
                        · rintro w' ⟨s0, s1, s2, s3⟩
                          go_simp
                          with_reducible rfl
                        rotate_left
                        · simp only [Act.put, List.setIfInBounds_toArray, List.set_cons_zero, List.set_cons_succ, i64_w, i32_w]
                          rfl
                        refine take_ (i := 8) (N := some 61) (v := ?_) (a' := ?_) #[true, true, true, true, true, true, true, true, true, false, false] rfl rfl (take_ofW HT_.out HW_.out z11_12) (fun _ _ _ h => h) (Or.inl ⟨by rfl, ?_⟩) hHeld ?_ ?_
                        rotate_left
                        · rintro w' ⟨s0, s1, s2, s3⟩
                          go_simp
                          with_reducible rfl
                        rotate_left
                        · simp only [Act.put, List.setIfInBounds_toArray, List.set_cons_zero, List.set_cons_succ, i64_w, i32_w]
                          rfl
                        refine pure_ (i := 9) (N := some 62) (v := ?_) (a' := ?_) #[true, true, true, true, true, true, true, true, true, true, false] rfl rfl (any_of HT_.out z11_12) (fun _ _ _ h => h) (Or.inl ⟨by rfl, ?_⟩) ?_ ?_
                        rotate_left
                        · intro w'
                          go_simp
                          with_reducible rfl
                        rotate_left
                        · simp only [Act.put, List.setIfInBounds_toArray, List.set_cons_zero, List.set_cons_succ, i64_w, i32_w]
                          rfl
                        refine pure_ (i := 10) (N := some 63) (v := ?_) (a' := ?_) #[true, true, true, true, true, true, true, true, true, true, true] rfl rfl (any_of HT_.out z11_12) (fun _ _ _ h => h) (Or.inl ⟨by rfl, ?_⟩) ?_ ?_
                        rotate_left
                        · intro w'
                          go_simp
                          with_reducible rfl
                        rotate_left
                        · simp only [Act.put, List.setIfInBounds_toArray, List.set_cons_zero, List.set_cons_succ, i64_w, i32_w]
                          rfl
                        refine done_ (done_of HT_.out z11_12) ?_
                        try go_wp2
                        go_ret
                        exact ⟨by first | rfl | (simp [errW_none, errW_some] <;> rfl) | (simp [*, errW_none, errW_some] <;> rfl) | (simp [*, errW_none, errW_some, i64_w]; done), by repeat (first | (with_reducible first | exact HB.out | apply below_alloc | apply pw_below_drewN | apply below_drew1 | refine below_set ?_ GE422.out | refine below_set ?_ GE445.out) | exact HB.out)⟩
                    · replace c30 := Bool.eq_false_iff.mpr c30
                      subst c30
                      have H1 : (some false) = some r := by rw [if_neg (show ¬ (false = true) by decide)] at H; exact H
                      clear H
                      have H := H1
                      clear H1
                      obtain rfl := Option.some.inj H
                      obtain ⟨Ao58, co58, eo58⟩ := Kd.R_slice HO_6.out
                      subst eo58
                      try go_wp2
                      have n0_ := Aside0.mk (Kd.R_drew HO_4.out)
                      have n1_ := Aside0.mk (Kd.S_drew HO_5.out)
                      have n2_ := Aside0.mk (Kd.R_drew HO_6.out)
                      have n3_ := Aside0.mk (Kd.S_drew HO_423000.out)
                      have n4_ := Aside0.mk (blk_drew BK422.out)
                      have n5_ := Aside0.mk (below_drew1 HB.out)
                      clear HO_4
                      clear HO_5
                      clear HO_6
                      clear HO_423000
                      clear BK422
                      clear HB
                      have HO_4 := n0_
                      have HO_5 := n1_
                      have HO_6 := n2_
                      have HO_423000 := n3_
                      have BK422 := n4_
                      have HB := n5_
                      clear n0_ n1_ n2_ n3_ n4_ n5_
                      have q60 : (x7_2 : Int) ≤ ((t426.length : Int) : Int) := of_decide_eq_true z11_20
                      obtain ⟨i060, hi060, _, hsz60, _⟩ := info_parts info28
                      have hroom60 : t426.length ≤ co17 := (Kd.S_reads' HO_5.out).2.1
                      have hC60 : Kd.C (Kd.slice 3 (Kd.int .i64)) _ Ao17 t426.length t426 := (Kd.S_reads' HO_5.out).2.2
                      have hcut60 := cut_to (P := Try.prog) 40 28 .i64 Try.underlying40 hi060 Ao17 t426.length co17 x7_2 (of_decide_eq_true z11_20) q60 hroom60
                      have hr60 := Kd.C_take (m := (x7_2 : Int).toNat) hC60 (by omega)
                      have hy60 : y433.length = (x7_2 : Int).toNat := (by rw [Ny433.out, List.length_take]; omega)
                      rw [← Ny433.out] at hr60
                      rw [← hy60] at hcut60
                      have HR436 := Aside0.mk hr60
                      have HC436 := Aside0.mk (show y433.length ≤ co17 from by omega)
                      clear hr60 hC60 hroom60 hi060 hsz60
                      have KY60 := Aside0.mk hy60
                      clear hy60
                      have KL60 := Aside0.mk (show (x7_2 : Int).toNat ≤ t426.length from by omega)
                      replace q60 := eq_true q60
                      refine start_ (n := 12) (S := fun w' => w'.cell? ⟨gb422, 0, none⟩ = some (.slice Ao11 t419.length co11)) (ds := []) #[false, false, false, false, false, false, false, false, false, false, false, false] z11_12 rfl rfl ((blk_cell BK422.out 0).trans rfl) (fun hHeld => ?_); refine with_tabW laws_FnRefTasks.tab12 laws_FnRefTasks.bits12 (fun HT_ HW_ => ?_)
                      generalize wr.drew = w59 at HO_4 HO_5 HO_6 HO_423000 BK422 HB HR436 hHeld ⊢
                      refine pure_ (i := 1) (N := some 46) (v := ?_) (a' := ?_) #[false, true, false, false, false, false, false, false, false, false, false, false] rfl rfl (any_of HT_.out z11_12) (fun _ _ _ h => h) (Or.inl ⟨by rfl, ?_⟩) ?_ ?_
                      rotate_left
                      · intro w'
                        go_simp
                        with_reducible rfl
                      rotate_left
                      · simp only [Act.put, List.setIfInBounds_toArray, List.set_cons_zero, List.set_cons_succ, i64_w, i32_w]
                        rfl
                      refine pure_ (i := 2) (N := some 47) (v := ?_) (a' := ?_) #[false, true, true, false, false, false, false, false, false, false, false, false] rfl rfl (any_of HT_.out z11_12) (fun _ _ _ h => h) (Or.inl ⟨by rfl, ?_⟩) ?_ ?_
                      rotate_left
                      · intro w'
                        go_simp
                        with_reducible rfl
                      rotate_left
                      · simp only [Act.put, List.setIfInBounds_toArray, List.set_cons_zero, List.set_cons_succ, i64_w, i32_w]
                        rfl
                      refine pure_ (i := 3) (N := some 48) (v := ?_) (a' := ?_) #[false, true, true, true, false, false, false, false, false, false, false, false] rfl rfl (any_of HT_.out z11_12) (fun _ _ _ h => h) (Or.inl ⟨by rfl, ?_⟩) ?_ ?_
                      rotate_left
                      · intro w'
                        go_simp
                        with_reducible rfl
                      rotate_left
                      · simp only [Act.put, List.setIfInBounds_toArray, List.set_cons_zero, List.set_cons_succ, i64_w, i32_w]
                        rfl
                      refine pure_ (i := 4) (N := some 49) (v := ?_) (a' := ?_) #[false, true, true, true, true, false, false, false, false, false, false, false] rfl rfl (any_of HT_.out z11_12) (fun _ _ _ h => h) (Or.inl ⟨by rfl, ?_⟩) ?_ ?_
                      rotate_left
                      · intro w'
                        go_simp
                        with_reducible rfl
                      rotate_left
                      · simp only [Act.put, List.setIfInBounds_toArray, List.set_cons_zero, List.set_cons_succ, i64_w, i32_w]
                        rfl
                      refine take_ (i := 0) (N := some 45) (v := ?_) (a' := ?_) #[true, true, true, true, true, false, false, false, false, false, false, false] rfl rfl (take_ofW HT_.out HW_.out z11_12) (fun _ _ _ h => h) (Or.inl ⟨by rfl, ?_⟩) hHeld ?_ ?_
                      rotate_left
                      · intro w' s0
                        go_simp
                        with_reducible rfl
                      rotate_left
                      · simp only [Act.put, List.setIfInBounds_toArray, List.set_cons_zero, List.set_cons_succ, i64_w, i32_w]
                        rfl
                      refine join_ (σ := Value × Value × Nat) 2 #[true, true, true, true, true, true, true, true, true, true, false, false] (fun s_ => [(50, .tuple #[.agg #[s_.1, s_.2.1, .int .i64 t443], .bool false]), (8, .pointer (some ⟨s_.2.2, 0, none⟩)), (44, .tuple #[.agg #[s_.1, s_.2.1, .int .i64 t443], .bool false]), (51, .agg #[s_.1, s_.2.1, .int .i64 t443]), (52, .bool false)]) (fun s_ w' => (w'.cell? ⟨gb422, 0, none⟩ = some (.slice Ao11 t419.length co11)) ∧ (Kd.R (Kd.int .i64) 3 w' w.heap.size (fun k_ => some k_ ≠ (s_.2.1 : Value).ownBlock ∧ some k_ ≠ (.slice Ao16 t423.length co16 : Value).ownBlock ∧ some k_ ≠ (.slice Ao58 t429.length co58 : Value).ownBlock) s_.1 t437) ∧ (Kd.R (Kd.int .i64) 3 w' w.heap.size (fun k_ => some k_ ≠ (s_.1 : Value).ownBlock ∧ some k_ ≠ (.slice Ao16 t423.length co16 : Value).ownBlock ∧ some k_ ≠ (.slice Ao58 t429.length co58 : Value).ownBlock) s_.2.1 t440) ∧ (Kd.R (Kd.int .i64) 3 w' w.heap.size (fun k_ => some k_ ≠ (s_.1 : Value).ownBlock ∧ some k_ ≠ (s_.2.1 : Value).ownBlock ∧ some k_ ≠ (.slice Ao58 t429.length co58 : Value).ownBlock) (.slice Ao16 t423.length co16) t423) ∧ (Kd.S k34 34 w' w.heap.size (fun _ => True) (.slice Ao11 t419.length co11) t419) ∧ (Kd.S (Kd.slice 3 (Kd.int .i64)) 28 w' w.heap.size (fun k_ => some k_ ≠ (s_.1 : Value).ownBlock ∧ some k_ ≠ (s_.2.1 : Value).ownBlock ∧ some k_ ≠ (.slice Ao16 t423.length co16 : Value).ownBlock ∧ some k_ ≠ (.slice Ao58 t429.length co58 : Value).ownBlock) (.slice Ao17 t426.length co17) t426) ∧ (Kd.R (Kd.int .i64) 3 w' w.heap.size (fun k_ => some k_ ≠ (s_.1 : Value).ownBlock ∧ some k_ ≠ (s_.2.1 : Value).ownBlock ∧ some k_ ≠ (.slice Ao16 t423.length co16 : Value).ownBlock) (.slice Ao58 t429.length co58) t429) ∧ (w'.heap[gb422]? = some (.cells #[.slice Ao11 t419.length co11] 26 (0, 0))) ∧ (w'.heap[s_.2.2]? = some (.cells #[.slice none 0 0, .slice none 0 0, .int .i64 0] 44 (0, 0))) ∧ (w.heap.size ≤ s_.2.2) ∧ (w.heap.size ≤ s_.2.2) ∧ (gb422 ≠ s_.2.2) ∧ (s_.2.2 ≠ gb422) ∧ (Below w.heap.size w w')) ?_ ?_
                      rotate_left
                      · intro hCont
                        refine two_ (i := 5) (j := 9) (Ni := some 50) (Nj := some 8) #[true, true, true, true, true, true, false, false, false, false, false, false] #[true, true, true, true, true, false, false, false, false, true, false, false] rfl rfl rfl rfl (two_of HT_.out z11_12) (by decide) (by decide) (fun K hK => ?_) (fun K hK => ?_)
                        · skip
                          refine goes_ Try.func21 z11_12 rfl #[.agg #[.slice Ao11 t419.length co11], .int .i64 0, .slice Ao16 t423.length co16, .slice Ao17 y433.length co17] (by rfl) rfl rfl z11_7 ?_
                          with_reducible refine (impl_RefRun.calls k2 _ _ t419 0 _ _ t423 _ _ y433 t437 t440 t443 false _ ?side1 ?side2 ?side3 ?side4 ?side5 ?side6 A29.out).mono ?_
                          (case side1 => exact z11_10)
                          (case side2 => exact (Kd.S_reads' HO_423000.out).2.1)
                          (case side3 => exact z11_11)
                          (case side4 => exact (Kd.R_reads' HO_4.out).2.1)
                          (case side5 => exact z11_24)
                          (case side6 => exact HC436.out)
                          rintro e w61 ⟨v438, v441, rfl, ho0, ho1, hb⟩
                          refine ⟨_, rfl, ?_⟩
                          have n0_ := Aside0.mk (Kd.R_mono (Kd.R_told (Kd.R_told (Kd.R_old z11_5 hb) (Kd.R_base ho0)) (Kd.R_base ho1)) (fun _ h_ => h_.1))
                          have n1_ := Aside0.mk (Kd.S_mono (Kd.S_told (Kd.S_told (Kd.S_old z11_8 hb) (Kd.R_base ho0)) (Kd.R_base ho1)) (fun _ h_ => h_.1))
                          have n2_ := Aside0.mk (Kd.R_mono (Kd.R_told (Kd.R_told (Kd.R_old z11_4 hb) (Kd.R_base ho0)) (Kd.R_base ho1)) (fun _ h_ => h_.1))
                          have n3_ := Aside0.mk (Kd.S_below z11_6 hb)
                          have n4_ := Aside0.mk (Kd.R_lower (Kd.R_new' (Kd.R_new' ho0 (Kd.R_lt z11_5)) (Kd.R_lt z11_4)) (below_size z11_0))
                          have n5_ := Aside0.mk (Kd.R_lower (Kd.R_new' (Kd.R_new' ho1 (Kd.R_lt z11_5)) (Kd.R_lt z11_4)) (below_size z11_0))
                          have n6_ := Aside0.mk (blk_below (g := gb422) (o := .cells #[.slice Ao11 t419.length co11] 26 (0, 0)) z11_1 hb)
                          have n7_ := Aside0.mk (Kd.C_below z11_2 hb)
                          have n8_ := Aside0.mk (below_step z11_0 hb)
                          clear HO_4
                          clear HO_5
                          clear HO_6
                          clear HO_423000
                          clear BK422
                          clear HR436
                          clear HB
                          have HO_4 := n0_
                          have HO_5 := n1_
                          have HO_6 := n2_
                          have HO_423000 := n3_
                          have HO439 := n4_
                          have HO442 := n5_
                          have BK422 := n6_
                          have HR436 := n7_
                          have HB := n8_
                          clear n0_ n1_ n2_ n3_ n4_ n5_ n6_ n7_ n8_
                          (try clear hb)
                          (try clear hb2)
                          (try clear hk)
                          (try clear hi)
                          (try clear ho0)
                          (try clear ho1)
                          refine hK.out _ _ ((blk_cell BK422.out 0).trans rfl) (fun hHeld => ?_)
                          clear hK K
                          refine norm_ (a' := ?_) ?_ ?_
                          rotate_left
                          · show Act.put _ (some 50) _ = _
                            simp only [Act.put, List.setIfInBounds_toArray, List.set_cons_zero, List.set_cons_succ, i64_w, i32_w]
                            rfl
                          refine pure_ (i := 6) (N := some 44) (v := ?_) (a' := ?_) #[true, true, true, true, true, true, true, false, false, false, false, false] rfl rfl (any_of HT_.out z11_12) (fun _ _ _ h => h) (Or.inl ⟨by rfl, ?_⟩) ?_ ?_
                          rotate_left
                          · intro w'
                            go_simp
                            with_reducible rfl
                          rotate_left
                          · simp only [Act.put, List.setIfInBounds_toArray, List.set_cons_zero, List.set_cons_succ, i64_w, i32_w]
                            rfl
                          refine pure_ (i := 7) (N := some 51) (v := ?_) (a' := ?_) #[true, true, true, true, true, true, true, true, false, false, false, false] rfl rfl (any_of HT_.out z11_12) (fun _ _ _ h => h) (Or.inl ⟨by rfl, ?_⟩) ?_ ?_
                          rotate_left
                          · intro w'
                            go_simp
                            with_reducible rfl
                          rotate_left
                          · simp only [Act.put, List.setIfInBounds_toArray, List.set_cons_zero, List.set_cons_succ, i64_w, i32_w]
                            rfl
                          refine pure_ (i := 8) (N := some 52) (v := ?_) (a' := ?_) #[true, true, true, true, true, true, true, true, true, false, false, false] rfl rfl (any_of HT_.out z11_12) (fun _ _ _ h => h) (Or.inl ⟨by rfl, ?_⟩) ?_ ?_
                          rotate_left
                          · intro w'
                            go_simp
                            with_reducible rfl
                          rotate_left
                          · simp only [Act.put, List.setIfInBounds_toArray, List.set_cons_zero, List.set_cons_succ, i64_w, i32_w]
                            rfl
                          refine one_ (i := 9) (N := some 8) #[true, true, true, true, true, true, true, true, true, true, false, false] rfl rfl (one_of HT_.out z11_12) (by decide) (fun K hK => ?_)
                          refine box_step ?hg (N := 8) ?hd (cs := #[.slice none 0 0, .slice none 0 0, .int .i64 0]) (t := 44) ?hr ?_; (case hd => rfl); (case hg => rfl); (case hr => exact z11_23)
                          intro gb445 hg w62 hbox hb
                          have n0_ := Aside0.mk (Kd.R_below z11_5 hb)
                          have n1_ := Aside0.mk (Kd.S_below z11_8 hb)
                          have n2_ := Aside0.mk (Kd.R_below z11_4 hb)
                          have n3_ := Aside0.mk (Kd.S_below z11_6 hb)
                          have n4_ := Aside0.mk (Kd.R_below (by (with_reducible repeat (first | apply Kd.R_alloc | apply Kd.R_drewN | apply Kd.R_drew)); exact HO439.out) hb)
                          have n5_ := Aside0.mk (Kd.R_below (by (with_reducible repeat (first | apply Kd.R_alloc | apply Kd.R_drewN | apply Kd.R_drew)); exact HO442.out) hb)
                          have n6_ := Aside0.mk (blk_below (g := gb422) (o := .cells #[.slice Ao11 t419.length co11] 26 (0, 0)) z11_1 hb)
                          have n7_ := Aside0.mk (Kd.C_below z11_2 hb)
                          have n8_ := Aside0.mk (below_step z11_0 hb)
                          have n9_ := Aside0.mk (hbox)
                          have n10_ := Aside0.mk ((z11_27 : w.heap.size ≤ gb445))
                          have n11_ := Aside0.mk ((z11_27 : w.heap.size ≤ gb445))
                          have n12_ := Aside0.mk ((z11_25 : gb422 ≠ gb445))
                          have n13_ := Aside0.mk ((z11_26 : gb445 ≠ gb422))
                          clear HO_4
                          clear HO_5
                          clear HO_6
                          clear HO_423000
                          clear HO439
                          clear HO442
                          clear BK422
                          clear HR436
                          clear HB
                          have HO_4 := n0_
                          have HO_5 := n1_
                          have HO_6 := n2_
                          have HO_423000 := n3_
                          have HO439 := n4_
                          have HO442 := n5_
                          have BK422 := n6_
                          have HR436 := n7_
                          have HB := n8_
                          have BK445 := n9_
                          have GW445 := n10_
                          have GE445 := n11_
                          have NB422_445 := n12_
                          have NB445_422 := n13_
                          clear n0_ n1_ n2_ n3_ n4_ n5_ n6_ n7_ n8_ n9_ n10_ n11_ n12_ n13_
                          clear hb hbox hg
                          refine hK.out _ _ ((blk_cell BK422.out 0).trans rfl) (fun hHeld => ?_)
                          clear hK K
                          refine norm_ (a' := ?_) ?_ ?_
                          rotate_left
                          · show Act.put _ (some 8) _ = _
                            simp only [Act.put, List.setIfInBounds_toArray, List.set_cons_zero, List.set_cons_succ, i64_w, i32_w]
                            rfl
                          exact norm_ z11_19 (hCont (v438, v441, gb445) _ ⟨hHeld, z11_15, z11_14, z11_17, z11_6, z11_13, z11_16, z11_1, z11_9, GW445.out, GE445.out, NB422_445.out, NB445_422.out, z11_3⟩)
                        · skip
                          refine box_step ?hg (N := 8) ?hd (cs := #[.slice none 0 0, .slice none 0 0, .int .i64 0]) (t := 44) ?hr ?_; (case hd => rfl); (case hg => rfl); (case hr => exact z11_23)
                          intro gb445 hg w61 hbox hb
                          have n0_ := Aside0.mk (Kd.R_below z11_5 hb)
                          have n1_ := Aside0.mk (Kd.S_below z11_8 hb)
                          have n2_ := Aside0.mk (Kd.R_below z11_4 hb)
                          have n3_ := Aside0.mk (Kd.S_below z11_6 hb)
                          have n4_ := Aside0.mk (blk_below (g := gb422) (o := .cells #[.slice Ao11 t419.length co11] 26 (0, 0)) z11_1 hb)
                          have n5_ := Aside0.mk (Kd.C_below z11_2 hb)
                          have n6_ := Aside0.mk (below_step z11_0 hb)
                          have n7_ := Aside0.mk (hbox)
                          have n8_ := Aside0.mk ((z11_27 : w.heap.size ≤ gb445))
                          have n9_ := Aside0.mk ((z11_27 : w.heap.size ≤ gb445))
                          have n10_ := Aside0.mk ((z11_25 : gb422 ≠ gb445))
                          have n11_ := Aside0.mk ((z11_26 : gb445 ≠ gb422))
                          clear HO_4
                          clear HO_5
                          clear HO_6
                          clear HO_423000
                          clear BK422
                          clear HR436
                          clear HB
                          have HO_4 := n0_
                          have HO_5 := n1_
                          have HO_6 := n2_
                          have HO_423000 := n3_
                          have BK422 := n4_
                          have HR436 := n5_
                          have HB := n6_
                          have BK445 := n7_
                          have GW445 := n8_
                          have GE445 := n9_
                          have NB422_445 := n10_
                          have NB445_422 := n11_
                          clear n0_ n1_ n2_ n3_ n4_ n5_ n6_ n7_ n8_ n9_ n10_ n11_
                          clear hb hbox hg
                          refine hK.out _ _ ((blk_cell BK422.out 0).trans rfl) (fun hHeld => ?_)
                          clear hK K
                          refine norm_ (a' := ?_) ?_ ?_
                          rotate_left
                          · show Act.put _ (some 8) _ = _
                            simp only [Act.put, List.setIfInBounds_toArray, List.set_cons_zero, List.set_cons_succ, i64_w, i32_w]
                            rfl
                          refine one_ (i := 5) (N := some 50) #[true, true, true, true, true, true, false, false, false, true, false, false] rfl rfl (one_of HT_.out z11_12) (by decide) (fun K hK => ?_)
                          refine goes_ Try.func21 z11_12 rfl #[.agg #[.slice Ao11 t419.length co11], .int .i64 0, .slice Ao16 t423.length co16, .slice Ao17 y433.length co17] (by rfl) rfl rfl z11_7 ?_
                          with_reducible refine (impl_RefRun.calls k2 _ _ t419 0 _ _ t423 _ _ y433 t437 t440 t443 false _ ?side1 ?side2 ?side3 ?side4 ?side5 ?side6 A29.out).mono ?_
                          (case side1 => exact z11_10)
                          (case side2 => exact (Kd.S_reads' HO_423000.out).2.1)
                          (case side3 => exact z11_11)
                          (case side4 => exact (Kd.R_reads' HO_4.out).2.1)
                          (case side5 => exact z11_24)
                          (case side6 => exact HC436.out)
                          rintro e w62 ⟨v438, v441, rfl, ho0, ho1, hb⟩
                          refine ⟨_, rfl, ?_⟩
                          have n0_ := Aside0.mk (Kd.R_mono (Kd.R_told (Kd.R_told (Kd.R_old z11_5 hb) (Kd.R_base ho0)) (Kd.R_base ho1)) (fun _ h_ => h_.1))
                          have n1_ := Aside0.mk (Kd.S_mono (Kd.S_told (Kd.S_told (Kd.S_old z11_8 hb) (Kd.R_base ho0)) (Kd.R_base ho1)) (fun _ h_ => h_.1))
                          have n2_ := Aside0.mk (Kd.R_mono (Kd.R_told (Kd.R_told (Kd.R_old z11_4 hb) (Kd.R_base ho0)) (Kd.R_base ho1)) (fun _ h_ => h_.1))
                          have n3_ := Aside0.mk (Kd.S_below z11_6 hb)
                          have n4_ := Aside0.mk (Kd.R_lower (Kd.R_new' (Kd.R_new' ho0 (Kd.R_lt z11_5)) (Kd.R_lt z11_4)) (below_size z11_3))
                          have n5_ := Aside0.mk (Kd.R_lower (Kd.R_new' (Kd.R_new' ho1 (Kd.R_lt z11_5)) (Kd.R_lt z11_4)) (below_size z11_3))
                          have n6_ := Aside0.mk (blk_below (g := gb422) (o := .cells #[.slice Ao11 t419.length co11] 26 (0, 0)) z11_1 hb)
                          have n7_ := Aside0.mk (Kd.C_below z11_2 hb)
                          have n8_ := Aside0.mk (blk_below (g := gb445) (o := .cells #[.slice none 0 0, .slice none 0 0, .int .i64 0] 44 (0, 0)) z11_9 hb)
                          have n9_ := Aside0.mk (below_step z11_3 hb)
                          clear HO_4
                          clear HO_5
                          clear HO_6
                          clear HO_423000
                          clear BK422
                          clear HR436
                          clear BK445
                          clear HB
                          have HO_4 := n0_
                          have HO_5 := n1_
                          have HO_6 := n2_
                          have HO_423000 := n3_
                          have HO439 := n4_
                          have HO442 := n5_
                          have BK422 := n6_
                          have HR436 := n7_
                          have BK445 := n8_
                          have HB := n9_
                          clear n0_ n1_ n2_ n3_ n4_ n5_ n6_ n7_ n8_ n9_
                          (try clear hb)
                          (try clear hb2)
                          (try clear hk)
                          (try clear hi)
                          (try clear ho0)
                          (try clear ho1)
                          refine hK.out _ _ ((blk_cell BK422.out 0).trans rfl) (fun hHeld => ?_)
                          clear hK K
                          refine norm_ (a' := ?_) ?_ ?_
                          rotate_left
                          · show Act.put _ (some 50) _ = _
                            simp only [Act.put, List.setIfInBounds_toArray, List.set_cons_zero, List.set_cons_succ, i64_w, i32_w]
                            rfl
                          refine pure_ (i := 6) (N := some 44) (v := ?_) (a' := ?_) #[true, true, true, true, true, true, true, false, false, true, false, false] rfl rfl (any_of HT_.out z11_12) (fun _ _ _ h => h) (Or.inl ⟨by rfl, ?_⟩) ?_ ?_
                          rotate_left
                          · intro w'
                            go_simp
                            with_reducible rfl
                          rotate_left
                          · simp only [Act.put, List.setIfInBounds_toArray, List.set_cons_zero, List.set_cons_succ, i64_w, i32_w]
                            rfl
                          refine pure_ (i := 7) (N := some 51) (v := ?_) (a' := ?_) #[true, true, true, true, true, true, true, true, false, true, false, false] rfl rfl (any_of HT_.out z11_12) (fun _ _ _ h => h) (Or.inl ⟨by rfl, ?_⟩) ?_ ?_
                          rotate_left
                          · intro w'
                            go_simp
                            with_reducible rfl
                          rotate_left
                          · simp only [Act.put, List.setIfInBounds_toArray, List.set_cons_zero, List.set_cons_succ, i64_w, i32_w]
                            rfl
                          refine pure_ (i := 8) (N := some 52) (v := ?_) (a' := ?_) #[true, true, true, true, true, true, true, true, true, true, false, false] rfl rfl (any_of HT_.out z11_12) (fun _ _ _ h => h) (Or.inl ⟨by rfl, ?_⟩) ?_ ?_
                          rotate_left
                          · intro w'
                            go_simp
                            with_reducible rfl
                          rotate_left
                          · simp only [Act.put, List.setIfInBounds_toArray, List.set_cons_zero, List.set_cons_succ, i64_w, i32_w]
                            rfl
                          exact norm_ z11_19 (hCont (v438, v441, gb445) _ ⟨hHeld, z11_15, z11_14, z11_17, z11_6, z11_13, z11_16, z11_1, z11_9, GW445.out, GE445.out, NB422_445.out, NB445_422.out, z11_3⟩)
                      rintro ⟨v438, v441, gb445⟩ w63 ⟨hS_, h0_, h1_, h2_, h3_, h4_, h5_, h6_, h7_, h8_, h9_, h10_, h11_, h12_⟩
                      have n0_ : Aside0 (Kd.R (Kd.int .i64) 3 w63 w.heap.size (fun k_ => some k_ ≠ (v441 : Value).ownBlock ∧ some k_ ≠ (.slice Ao16 t423.length co16 : Value).ownBlock ∧ some k_ ≠ (.slice Ao58 t429.length co58 : Value).ownBlock) v438 t437) := ⟨h0_⟩
                      have n1_ : Aside0 (Kd.R (Kd.int .i64) 3 w63 w.heap.size (fun k_ => some k_ ≠ (v438 : Value).ownBlock ∧ some k_ ≠ (.slice Ao16 t423.length co16 : Value).ownBlock ∧ some k_ ≠ (.slice Ao58 t429.length co58 : Value).ownBlock) v441 t440) := ⟨h1_⟩
                      have n2_ : Aside0 (Kd.R (Kd.int .i64) 3 w63 w.heap.size (fun k_ => some k_ ≠ (v438 : Value).ownBlock ∧ some k_ ≠ (v441 : Value).ownBlock ∧ some k_ ≠ (.slice Ao58 t429.length co58 : Value).ownBlock) (.slice Ao16 t423.length co16) t423) := ⟨h2_⟩
                      have n3_ : Aside0 (Kd.S k34 34 w63 w.heap.size (fun _ => True) (.slice Ao11 t419.length co11) t419) := ⟨h3_⟩
                      have n4_ : Aside0 (Kd.S (Kd.slice 3 (Kd.int .i64)) 28 w63 w.heap.size (fun k_ => some k_ ≠ (v438 : Value).ownBlock ∧ some k_ ≠ (v441 : Value).ownBlock ∧ some k_ ≠ (.slice Ao16 t423.length co16 : Value).ownBlock ∧ some k_ ≠ (.slice Ao58 t429.length co58 : Value).ownBlock) (.slice Ao17 t426.length co17) t426) := ⟨h4_⟩
                      have n5_ : Aside0 (Kd.R (Kd.int .i64) 3 w63 w.heap.size (fun k_ => some k_ ≠ (v438 : Value).ownBlock ∧ some k_ ≠ (v441 : Value).ownBlock ∧ some k_ ≠ (.slice Ao16 t423.length co16 : Value).ownBlock) (.slice Ao58 t429.length co58) t429) := ⟨h5_⟩
                      have n6_ : Aside0 (w63.heap[gb422]? = some (.cells #[.slice Ao11 t419.length co11] 26 (0, 0))) := ⟨h6_⟩
                      have n7_ : Aside0 (w63.heap[gb445]? = some (.cells #[.slice none 0 0, .slice none 0 0, .int .i64 0] 44 (0, 0))) := ⟨h7_⟩
                      have n8_ : Aside0 (w.heap.size ≤ gb445) := ⟨h8_⟩
                      have n9_ : Aside0 (w.heap.size ≤ gb445) := ⟨h9_⟩
                      have n10_ : Aside0 (gb422 ≠ gb445) := ⟨h10_⟩
                      have n11_ : Aside0 (gb445 ≠ gb422) := ⟨h11_⟩
                      have n12_ : Aside0 (Below w.heap.size w w63) := ⟨h12_⟩
                      clear HO_4
                      clear HO_5
                      clear HO_6
                      clear HO_423000
                      clear BK422
                      clear HB
                      clear h0_ h1_ h2_ h3_ h4_ h5_ h6_ h7_ h8_ h9_ h10_ h11_ h12_
                      have HO439 := n0_
                      have HO442 := n1_
                      have HO_4 := n2_
                      have HO_423000 := n3_
                      have HO_5 := n4_
                      have HO_6 := n5_
                      have BK422 := n6_
                      have BK445 := n7_
                      have GW445 := n8_
                      have GE445 := n9_
                      have NB422_445 := n10_
                      have NB445_422 := n11_
                      have HB := n12_
                      clear n0_ n1_ n2_ n3_ n4_ n5_ n6_ n7_ n8_ n9_ n10_ n11_ n12_
                      have hHeld : w63.cell? ⟨gb422, 0, none⟩ = some (.slice Ao11 t419.length co11) := hS_
                      obtain ⟨Ao64, co64, eo64⟩ := Kd.R_slice HO439.out
                      (first | subst eo64 | (injection eo64 with f1_ f2_ f3_; have f4_ := f1_.symm; have f5_ := f3_.symm; clear f1_ f2_ f3_; subst f4_; subst f5_))
                      obtain ⟨Ao66, co66, eo66⟩ := Kd.R_slice HO442.out
                      (first | subst eo66 | (injection eo66 with f1_ f2_ f3_; have f4_ := f1_.symm; have f5_ := f3_.symm; clear f1_ f2_ f3_; subst f4_; subst f5_))
                      refine norm_ (a' := ?_) ?_ ?_
                      rotate_left
                      · simp only [putAll, Act.put, List.setIfInBounds_toArray, List.set_cons_zero, List.set_cons_succ]
                        rfl
                      refine one_ (i := 10) (N := none) #[true, true, true, true, true, true, true, true, true, true, true, false] rfl rfl (one_of HT_.out z11_12) (by decide) (fun K hK => ?_)
                      have hs65 : w63.cell? ⟨gb445, 0, none⟩ = some (.slice none 0 0) := (blk_cell BK445.out 0).trans rfl
                      have hfs65 := blk_frozen BK445.out 0
                      have hns65_0 := NB422_445.out
                      have hms65_0 := NB445_422.out
                      have hs67 : w63.cell? ⟨gb445, 1, none⟩ = some (.slice none 0 0) := (blk_cell BK445.out 1).trans rfl
                      have hfs67 := blk_frozen BK445.out 1
                      have hns67_0 := NB422_445.out
                      have hms67_0 := NB445_422.out
                      have hs68 : w63.cell? ⟨gb445, 2, none⟩ = some (.int .i64 0) := (blk_cell BK445.out 2).trans rfl
                      have hfs68 := blk_frozen BK445.out 2
                      have hns68_0 := NB422_445.out
                      have hms68_0 := NB445_422.out
                      refine skip_ (w1 := ?_) (by rfl) rfl ?_ ?_
                      rotate_left
                      · go_simp
                        rfl
                      refine hK.out _ _ (((cell_far (p := ⟨gb445, _, none⟩) NB422_445.out _).trans (((cell_far (p := ⟨gb445, _, none⟩) NB422_445.out _).trans (((cell_far (p := ⟨gb445, _, none⟩) NB422_445.out _).trans (hHeld))))))) (fun hHeld => ?_)
                      clear hK K
                      refine pure_ (i := 11) (N := some 9) (v := ?_) (a' := ?_) #[true, true, true, true, true, true, true, true, true, true, true, true] rfl rfl (any_of HT_.out z11_12) (fun _ _ _ h => h) (Or.inl ⟨by rfl, ?_⟩) ?_ ?_
                      rotate_left
                      · intro w'
                        go_simp
                        with_reducible rfl
                      rotate_left
                      · simp only [Act.put, List.setIfInBounds_toArray, List.set_cons_zero, List.set_cons_succ, i64_w, i32_w]
                        rfl
                      refine done_ (done_of HT_.out z11_12) ?_
                      try go_wp2
                      have n0_ : Aside0 (Kd.R (Kd.int .i64) 3 (((w63.setCell ⟨gb445, 0, none⟩ (.slice Ao64 t437.length co64)).setCell ⟨gb445, 1, none⟩ (.slice Ao66 t440.length co66)).setCell ⟨gb445, 2, none⟩ (.int .i64 t443)) w.heap.size (fun k_ => some k_ ≠ (.slice Ao58 t429.length co58 : Value).ownBlock ∧ some k_ ≠ (.slice Ao64 t437.length co64 : Value).ownBlock ∧ some k_ ≠ (.slice Ao66 t440.length co66 : Value).ownBlock) (.slice Ao16 t423.length co16) t423) := ⟨by (with_reducible repeat (first | apply Kd.R_alloc | apply Kd.R_drewN | apply Kd.R_drew)); exact Kd.R_mono (Kd.R_far (p := ⟨gb445, 2, none⟩) (Kd.R_far (p := ⟨gb445, 1, none⟩) (Kd.R_far (p := ⟨gb445, 0, none⟩) (Kd.R_types HO_4.out BK445.out (by decide)) (fun _ hk => hk.2) (.slice Ao64 t437.length co64)) (fun _ hk => hk.2) (.slice Ao66 t440.length co66)) (fun _ hk => hk.2) (.int .i64 t443)) (fun _ hk => ⟨hk.1.2.2, ⟨hk.1.1, hk.1.2.1⟩⟩)⟩
                      have n1_ : Aside0 (Kd.S (Kd.slice 3 (Kd.int .i64)) 28 (((w63.setCell ⟨gb445, 0, none⟩ (.slice Ao64 t437.length co64)).setCell ⟨gb445, 1, none⟩ (.slice Ao66 t440.length co66)).setCell ⟨gb445, 2, none⟩ (.int .i64 t443)) w.heap.size (fun k_ => some k_ ≠ (.slice Ao16 t423.length co16 : Value).ownBlock ∧ some k_ ≠ (.slice Ao58 t429.length co58 : Value).ownBlock ∧ some k_ ≠ (.slice Ao64 t437.length co64 : Value).ownBlock ∧ some k_ ≠ (.slice Ao66 t440.length co66 : Value).ownBlock) (.slice Ao17 t426.length co17) t426) := ⟨by (with_reducible repeat (first | apply Kd.S_alloc | apply Kd.S_drewN | apply Kd.S_drew)); exact Kd.S_mono (Kd.S_far (p := ⟨gb445, 2, none⟩) (Kd.S_far (p := ⟨gb445, 1, none⟩) (Kd.S_far (p := ⟨gb445, 0, none⟩) (Kd.S_types HO_5.out BK445.out (by decide)) (fun _ hk => hk.2) (.slice Ao64 t437.length co64)) (fun _ hk => hk.2) (.slice Ao66 t440.length co66)) (fun _ hk => hk.2) (.int .i64 t443)) (fun _ hk => ⟨hk.1.2.2.1, ⟨hk.1.2.2.2, ⟨hk.1.1, hk.1.2.1⟩⟩⟩)⟩
                      have n2_ : Aside0 (Kd.R (Kd.int .i64) 3 (((w63.setCell ⟨gb445, 0, none⟩ (.slice Ao64 t437.length co64)).setCell ⟨gb445, 1, none⟩ (.slice Ao66 t440.length co66)).setCell ⟨gb445, 2, none⟩ (.int .i64 t443)) w.heap.size (fun k_ => some k_ ≠ (.slice Ao16 t423.length co16 : Value).ownBlock ∧ some k_ ≠ (.slice Ao64 t437.length co64 : Value).ownBlock ∧ some k_ ≠ (.slice Ao66 t440.length co66 : Value).ownBlock) (.slice Ao58 t429.length co58) t429) := ⟨by (with_reducible repeat (first | apply Kd.R_alloc | apply Kd.R_drewN | apply Kd.R_drew)); exact Kd.R_mono (Kd.R_far (p := ⟨gb445, 2, none⟩) (Kd.R_far (p := ⟨gb445, 1, none⟩) (Kd.R_far (p := ⟨gb445, 0, none⟩) (Kd.R_types HO_6.out BK445.out (by decide)) (fun _ hk => hk.2) (.slice Ao64 t437.length co64)) (fun _ hk => hk.2) (.slice Ao66 t440.length co66)) (fun _ hk => hk.2) (.int .i64 t443)) (fun _ hk => ⟨hk.1.2.2, ⟨hk.1.1, hk.1.2.1⟩⟩)⟩
                      have n3_ : Aside0 (Kd.S k34 34 (((w63.setCell ⟨gb445, 0, none⟩ (.slice Ao64 t437.length co64)).setCell ⟨gb445, 1, none⟩ (.slice Ao66 t440.length co66)).setCell ⟨gb445, 2, none⟩ (.int .i64 t443)) w.heap.size (fun _ => True) (.slice Ao11 t419.length co11) t419) := ⟨by (with_reducible repeat (first | apply Kd.S_alloc | apply Kd.S_drewN | apply Kd.S_drew)); exact Kd.S_mono (Kd.S_far (p := ⟨gb445, 2, none⟩) (Kd.S_far (p := ⟨gb445, 1, none⟩) (Kd.S_far (p := ⟨gb445, 0, none⟩) (Kd.S_types HO_423000.out BK445.out (by decide)) (fun _ hk => hk.2) (.slice Ao64 t437.length co64)) (fun _ hk => hk.2) (.slice Ao66 t440.length co66)) (fun _ hk => hk.2) (.int .i64 t443)) (fun _ hk => trivial)⟩
                      have n4_ : Aside0 (Kd.R (Kd.int .i64) 3 (((w63.setCell ⟨gb445, 0, none⟩ (.slice Ao64 t437.length co64)).setCell ⟨gb445, 1, none⟩ (.slice Ao66 t440.length co66)).setCell ⟨gb445, 2, none⟩ (.int .i64 t443)) w.heap.size (fun k_ => some k_ ≠ (.slice Ao16 t423.length co16 : Value).ownBlock ∧ some k_ ≠ (.slice Ao58 t429.length co58 : Value).ownBlock ∧ some k_ ≠ (.slice Ao66 t440.length co66 : Value).ownBlock) (.slice Ao64 t437.length co64) t437) := ⟨by (with_reducible repeat (first | apply Kd.R_alloc | apply Kd.R_drewN | apply Kd.R_drew)); exact Kd.R_mono (Kd.R_far (p := ⟨gb445, 2, none⟩) (Kd.R_far (p := ⟨gb445, 1, none⟩) (Kd.R_far (p := ⟨gb445, 0, none⟩) (Kd.R_types HO439.out BK445.out (by decide)) (fun _ hk => hk.2) (.slice Ao64 t437.length co64)) (fun _ hk => hk.2) (.slice Ao66 t440.length co66)) (fun _ hk => hk.2) (.int .i64 t443)) (fun _ hk => ⟨hk.1.2.1, ⟨hk.1.2.2, hk.1.1⟩⟩)⟩
                      have n5_ : Aside0 (Kd.R (Kd.int .i64) 3 (((w63.setCell ⟨gb445, 0, none⟩ (.slice Ao64 t437.length co64)).setCell ⟨gb445, 1, none⟩ (.slice Ao66 t440.length co66)).setCell ⟨gb445, 2, none⟩ (.int .i64 t443)) w.heap.size (fun k_ => some k_ ≠ (.slice Ao16 t423.length co16 : Value).ownBlock ∧ some k_ ≠ (.slice Ao58 t429.length co58 : Value).ownBlock ∧ some k_ ≠ (.slice Ao64 t437.length co64 : Value).ownBlock) (.slice Ao66 t440.length co66) t440) := ⟨by (with_reducible repeat (first | apply Kd.R_alloc | apply Kd.R_drewN | apply Kd.R_drew)); exact Kd.R_mono (Kd.R_far (p := ⟨gb445, 2, none⟩) (Kd.R_far (p := ⟨gb445, 1, none⟩) (Kd.R_far (p := ⟨gb445, 0, none⟩) (Kd.R_types HO442.out BK445.out (by decide)) (fun _ hk => hk.2) (.slice Ao64 t437.length co64)) (fun _ hk => hk.2) (.slice Ao66 t440.length co66)) (fun _ hk => hk.2) (.int .i64 t443)) (fun _ hk => ⟨hk.1.2.1, ⟨hk.1.2.2, hk.1.1⟩⟩)⟩
                      have n6_ : Aside0 ((((w63.setCell ⟨gb445, 0, none⟩ (.slice Ao64 t437.length co64)).setCell ⟨gb445, 1, none⟩ (.slice Ao66 t440.length co66)).setCell ⟨gb445, 2, none⟩ (.int .i64 t443)).heap[gb422]? = some (.cells #[.slice Ao11 t419.length co11] 26 (0, 0))) := ⟨by (with_reducible repeat (first | refine blk_drewN ?_ _ | refine blk_drew ?_ | refine blk_alloc ?_ _)); refine blk_far ?_ NB422_445.out _; (with_reducible repeat (first | refine blk_drewN ?_ _ | refine blk_drew ?_ | refine blk_alloc ?_ _)); refine blk_far ?_ NB422_445.out _; (with_reducible repeat (first | refine blk_drewN ?_ _ | refine blk_drew ?_ | refine blk_alloc ?_ _)); refine blk_far ?_ NB422_445.out _; (with_reducible repeat (first | refine blk_drewN ?_ _ | refine blk_drew ?_ | refine blk_alloc ?_ _)); exact BK422.out⟩
                      have n7_ : Aside0 ((((w63.setCell ⟨gb445, 0, none⟩ (.slice Ao64 t437.length co64)).setCell ⟨gb445, 1, none⟩ (.slice Ao66 t440.length co66)).setCell ⟨gb445, 2, none⟩ (.int .i64 t443)).heap[gb445]? = some (.cells #[.slice Ao64 t437.length co64, .slice Ao66 t440.length co66, .int .i64 t443] 44 (0, 0))) := ⟨by (with_reducible repeat (first | refine blk_drewN ?_ _ | refine blk_drew ?_ | refine blk_alloc ?_ _)); refine blk_put (cs := #[.slice Ao64 t437.length co64, .slice Ao66 t440.length co66, .int .i64 0]) ?_ 2 _ rfl; (with_reducible repeat (first | refine blk_drewN ?_ _ | refine blk_drew ?_ | refine blk_alloc ?_ _)); refine blk_put (cs := #[.slice Ao64 t437.length co64, .slice none 0 0, .int .i64 0]) ?_ 1 _ rfl; (with_reducible repeat (first | refine blk_drewN ?_ _ | refine blk_drew ?_ | refine blk_alloc ?_ _)); refine blk_put (cs := #[.slice none 0 0, .slice none 0 0, .int .i64 0]) ?_ 0 _ rfl; (with_reducible repeat (first | refine blk_drewN ?_ _ | refine blk_drew ?_ | refine blk_alloc ?_ _)); exact BK445.out⟩
                      have n8_ : Aside0 (Below w.heap.size w (((w63.setCell ⟨gb445, 0, none⟩ (.slice Ao64 t437.length co64)).setCell ⟨gb445, 1, none⟩ (.slice Ao66 t440.length co66)).setCell ⟨gb445, 2, none⟩ (.int .i64 t443))) := ⟨by repeat (first | (with_reducible first | exact HB.out | apply below_alloc | apply pw_below_drewN | apply below_drew1 | refine below_set ?_ GE422.out | refine below_set ?_ GE445.out) | exact HB.out)⟩
                      (try clear HO_4)
                      (try clear HO_5)
                      (try clear HO_6)
                      (try clear HO_423000)
                      (try clear HO439)
                      (try clear HO442)
                      (try clear BK422)
                      (try clear BK445)
                      (try clear HB)
                      generalize (((w63.setCell ⟨gb445, 0, none⟩ (.slice Ao64 t437.length co64)).setCell ⟨gb445, 1, none⟩ (.slice Ao66 t440.length co66)).setCell ⟨gb445, 2, none⟩ (.int .i64 t443)) = w69 at n0_ n1_ n2_ n3_ n4_ n5_ n6_ n7_ n8_ ⊢
                      have HO_4 := n0_
                      have HO_5 := n1_
                      have HO_6 := n2_
                      have HO_423000 := n3_
                      have HO439 := n4_
                      have HO442 := n5_
                      have BK422 := n6_
                      have BK445 := n7_
                      have HB := n8_
                      clear n0_ n1_ n2_ n3_ n4_ n5_ n6_ n7_ n8_
                      have n0_ := Aside0.mk (Kd.R_drew HO_4.out)
                      have n1_ := Aside0.mk (Kd.S_drew HO_5.out)
                      have n2_ := Aside0.mk (Kd.R_drew HO_6.out)
                      have n3_ := Aside0.mk (Kd.S_drew HO_423000.out)
                      have n4_ := Aside0.mk (Kd.R_drew HO439.out)
                      have n5_ := Aside0.mk (Kd.R_drew HO442.out)
                      have n6_ := Aside0.mk (blk_drew BK422.out)
                      have n7_ := Aside0.mk (blk_drew BK445.out)
                      have n8_ := Aside0.mk (below_drew1 HB.out)
                      clear HO_4
                      clear HO_5
                      clear HO_6
                      clear HO_423000
                      clear HO439
                      clear HO442
                      clear BK422
                      clear BK445
                      clear HB
                      have HO_4 := n0_
                      have HO_5 := n1_
                      have HO_6 := n2_
                      have HO_423000 := n3_
                      have HO439 := n4_
                      have HO442 := n5_
                      have BK422 := n6_
                      have BK445 := n7_
                      have HB := n8_
                      clear n0_ n1_ n2_ n3_ n4_ n5_ n6_ n7_ n8_
                      refine start_ (n := 11) (S := fun w' => True) (ds := []) #[false, false, false, false, false, false, false, false, false, false, false] z11_12 rfl rfl trivial (fun hHeld => ?_); refine with_tabW laws_FnRefTasks.tab13 laws_FnRefTasks.bits13 (fun HT_ HW_ => ?_)
                      generalize w69.drew = w70 at HO_4 HO_5 HO_6 HO_423000 HO439 HO442 BK422 BK445 HB hHeld ⊢
                      refine pure_ (i := 0) (N := some 53) (v := ?_) (a' := ?_) #[true, false, false, false, false, false, false, false, false, false, false] rfl rfl (any_of HT_.out z11_12) (fun _ _ _ h => h) (Or.inl ⟨by rfl, ?_⟩) ?_ ?_
                      rotate_left
                      · intro w'
                        go_simp
                        with_reducible rfl
                      rotate_left
                      · simp only [Act.put, List.setIfInBounds_toArray, List.set_cons_zero, List.set_cons_succ, i64_w, i32_w]
                        rfl
                      refine pure_ (i := 1) (N := some 54) (v := ?_) (a' := ?_) #[true, true, false, false, false, false, false, false, false, false, false] rfl rfl (any_of HT_.out z11_12) (fun _ _ _ h => h) (Or.inl ⟨by rfl, ?_⟩) ?_ ?_
                      rotate_left
                      · intro w'
                        go_simp
                        with_reducible rfl
                      rotate_left
                      · simp only [Act.put, List.setIfInBounds_toArray, List.set_cons_zero, List.set_cons_succ, i64_w, i32_w]
                        rfl
                      refine pure_ (i := 2) (N := some 55) (v := ?_) (a' := ?_) #[true, true, true, false, false, false, false, false, false, false, false] rfl rfl (any_of HT_.out z11_12) (fun _ _ _ h => h) (Or.inl ⟨by rfl, ?_⟩) ?_ ?_
                      rotate_left
                      · intro w'
                        go_simp
                        with_reducible rfl
                      rotate_left
                      · simp only [Act.put, List.setIfInBounds_toArray, List.set_cons_zero, List.set_cons_succ, i64_w, i32_w]
                        rfl
                      refine pure_ (i := 3) (N := some 56) (v := undef) (a' := ?_) #[true, true, true, true, false, false, false, false, false, false, false] rfl rfl (any_of HT_.out z11_12) (fun _ _ _ h => h) (Or.inr ⟨by rfl, rfl⟩) ?_ ?_
                      rotate_left
                      · simp only [Act.put, List.setIfInBounds_toArray, List.set_cons_zero, List.set_cons_succ, i64_w, i32_w]
                        rfl
                      refine pure_ (i := 4) (N := some 57) (v := undef) (a' := ?_) #[true, true, true, true, true, false, false, false, false, false, false] rfl rfl (any_of HT_.out z11_12) (fun _ _ _ h => h) (Or.inr ⟨by rfl, rfl⟩) ?_ ?_
                      rotate_left
                      · simp only [Act.put, List.setIfInBounds_toArray, List.set_cons_zero, List.set_cons_succ, i64_w, i32_w]
                        rfl
                      refine pure_ (i := 5) (N := some 58) (v := undef) (a' := ?_) #[true, true, true, true, true, true, false, false, false, false, false] rfl rfl (any_of HT_.out z11_12) (fun _ _ _ h => h) (Or.inr ⟨by rfl, rfl⟩) ?_ ?_
                      rotate_left
                      · simp only [Act.put, List.setIfInBounds_toArray, List.set_cons_zero, List.set_cons_succ, i64_w, i32_w]
                        rfl
                      refine pure_ (i := 6) (N := some 59) (v := undef) (a' := ?_) #[true, true, true, true, true, true, true, false, false, false, false] rfl rfl (any_of HT_.out z11_12) (fun _ _ _ h => h) (Or.inr ⟨by rfl, rfl⟩) ?_ ?_
                      rotate_left
                      · simp only [Act.put, List.setIfInBounds_toArray, List.set_cons_zero, List.set_cons_succ, i64_w, i32_w]
                        rfl
                      refine pure_ (i := 7) (N := some 60) (v := undef) (a' := ?_) #[true, true, true, true, true, true, true, true, false, false, false] rfl rfl (any_of HT_.out z11_12) (fun _ _ _ h => h) (Or.inr ⟨by rfl, rfl⟩) ?_ ?_
                      rotate_left
                      · simp only [Act.put, List.setIfInBounds_toArray, List.set_cons_zero, List.set_cons_succ, i64_w, i32_w]
                        rfl
                      refine pure_ (i := 8) (N := some 61) (v := undef) (a' := ?_) #[true, true, true, true, true, true, true, true, true, false, false] rfl rfl (any_of HT_.out z11_12) (fun _ _ _ h => h) (Or.inr ⟨by rfl, rfl⟩) ?_ ?_
                      rotate_left
                      · simp only [Act.put, List.setIfInBounds_toArray, List.set_cons_zero, List.set_cons_succ, i64_w, i32_w]
                        rfl
                      refine pure_ (i := 9) (N := some 62) (v := undef) (a' := ?_) #[true, true, true, true, true, true, true, true, true, true, false] rfl rfl (any_of HT_.out z11_12) (fun _ _ _ h => h) (Or.inr ⟨by rfl, rfl⟩) ?_ ?_
                      rotate_left
                      · simp only [Act.put, List.setIfInBounds_toArray, List.set_cons_zero, List.set_cons_succ, i64_w, i32_w]
                        rfl
                      refine pure_ (i := 10) (N := some 63) (v := ?_) (a' := ?_) #[true, true, true, true, true, true, true, true, true, true, true] rfl rfl (any_of HT_.out z11_12) (fun _ _ _ h => h) (Or.inl ⟨by rfl, ?_⟩) ?_ ?_
                      rotate_left
                      · intro w'
                        go_simp
                        with_reducible rfl
                      rotate_left
                      · simp only [Act.put, List.setIfInBounds_toArray, List.set_cons_zero, List.set_cons_succ, i64_w, i32_w]
                        rfl
                      refine done_ (done_of HT_.out z11_12) ?_
                      try go_wp2
                      go_ret
                      exact ⟨by first | rfl | (simp [errW_none, errW_some] <;> rfl) | (simp [*, errW_none, errW_some] <;> rfl) | (simp [*, errW_none, errW_some, i64_w]; done), by repeat (first | (with_reducible first | exact HB.out | apply below_alloc | apply pw_below_drewN | apply below_drew1 | refine below_set ?_ GE422.out | refine below_set ?_ GE445.out) | exact HB.out)⟩
                  · rw [if_neg c28] at H
                    exact absurd H (by simp)
                · rw [if_neg c27] at H
                  exact absurd H (by simp)
              · rw [if_neg c26] at H
                have c26b0 : decide (x7_2 < (t429.length : Int)) = false := decide_eq_false c26
                clear c26
                obtain rfl := Option.some.inj H
                obtain ⟨Ao71, co71, eo71⟩ := Kd.R_slice HO_6.out
                subst eo71
                go_wp2
                go_ret
                exact ⟨by first | rfl | (simp [errW_none, errW_some] <;> rfl) | (simp [*, errW_none, errW_some] <;> rfl) | (simp [*, errW_none, errW_some, i64_w]; done), by repeat (first | (with_reducible first | exact HB.out | apply below_alloc | apply pw_below_drewN | apply below_drew1 | refine below_set ?_ GE422.out) | exact HB.out)⟩

/-- THE ONE PURE STATEMENT of laws_FnRefTasks: yours. -/
def laws_FnRefTasks.Pure : Prop := ∀ (l0 : List Int), l0.length ≤ maxLen → l0.length * 1 ≤ 140737488351232 → (∀ x ∈ l0, (Lit.int .u8 x).wf = true) → ∃ k, laws_FnRefTasks.f k l0 = some true
theorem laws_FnRefTasks.walk (P : laws_FnRefTasks.Pure) (a0 : Option Addr) (len0 cap0 : Nat) (z0 : List Int) (w : World) (w0 : (a0 = none ∧ len0 = 0 ∧ cap0 = 0 ∧ z0 = []) ∨ ∃ x, a0 = some x ∧ len0 ≤ cap0 ∧ cap0 ≤ maxLen ∧ z0.length = cap0 ∧ (∀ i, i < z0.length → w.cell? (x.add i) = some (.int .u8 (z0.getD i 0))) ∧ ∀ n ∈ z0, (Lit.int .u8 n).wf = true) (y0 : len0 * 1 ≤ 140737488351232) :
    Calls Try.prog 4 #[.slice a0 len0 cap0] w fun e w' => e = .returned (.bool true) ∧ Below w.heap.size w w' := by
  obtain ⟨l0, rfl, hr0, hm0, hw0, hc0⟩ := ReadsInt.ofRowC w0
  obtain ⟨k, h⟩ := P l0 hm0 y0 hw0
  refine (laws_FnRefTasks.calls k _ _ l0 true w (Kd.C_of_reads (d := (0 : Int)) (h1 := fun _ => rfl) hr0) hc0 h).mono ?_
  rintro e w' ⟨rfl, hd⟩
  exact ⟨rfl, hd⟩

end Go.Proofs.Ytakhaknglhgimaa.G
