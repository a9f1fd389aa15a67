/- Functions of the program as plain Lean functions, and that each call comes to its function's answer; written by a program of the session. No condition. -/
import Derived.Test.YtakhaknglhgimaaGx0
import Derived.Test.YtakhaknglhgimaaGx2
import Derived.Test.YtakhaknglhgimaaGx3
import Derived.Test.YtakhaknglhgimaaGx5
import Derived.Test.YtakhaknglhgimaaGx12
namespace Go.Proofs.Ytakhaknglhgimaa.G
open Go.RowKit Go.Proofs.YtakhaknglhgimaaW.PrintWords Go.Proofs.YtakhaknglhgimaaW.PrintLast Go.Proofs.YtakhaknglhgimaaW.PrintMore
attribute [local go_sem] max2_int min2_int max_two min_two max_three min_three max_four min_four   -- for this text's walks alone
set_option linter.unusedVariables false
set_option linter.unusedSimpArgs false
abbrev b13_0 : Array Bool := #[false, false, false, false, false, false, false, false, false, false, false, false, false, false, false, false, false, false, false, false, false, false, false, false, false, false, false, false, false, false, false, false, false, false, false, false]
abbrev b13_1 : Array Bool := #[true, false, false, false, false, false, false, false, false, false, false, false, false, false, false, false, false, false, false, false, false, false, false, false, false, false, false, false, false, false, false, false, false, false, false, false]
abbrev b13_2 : Array Bool := #[true, true, false, false, false, false, false, false, false, false, false, false, false, false, false, false, false, false, false, false, false, false, false, false, false, false, false, false, false, false, false, false, false, false, false, false]
abbrev b13_3 : Array Bool := #[true, true, true, false, false, false, false, false, false, false, false, false, false, false, false, false, false, false, false, false, false, false, false, false, false, false, false, false, false, false, false, false, false, false, false, false]
abbrev b13_4 : Array Bool := #[true, true, true, true, false, false, false, false, false, false, false, false, false, false, false, false, false, false, false, false, false, false, false, false, false, false, false, false, false, false, false, false, false, false, false, false]
abbrev b13_5 : Array Bool := #[true, true, true, true, true, false, false, false, false, false, false, false, false, false, false, false, false, false, false, false, false, false, false, false, false, false, false, false, false, false, false, false, false, false, false, false]
abbrev b13_6 : Array Bool := #[true, true, true, true, true, true, false, false, false, false, false, false, false, false, false, false, false, false, false, false, false, false, false, false, false, false, false, false, false, false, false, false, false, false, false, false]
abbrev b13_7 : Array Bool := #[true, true, true, true, true, true, true, false, false, false, false, false, false, false, false, false, false, false, false, false, false, false, false, false, false, false, false, false, false, false, false, false, false, false, false, false]
abbrev b13_8 : Array Bool := #[true, true, true, true, true, true, true, true, false, false, false, false, false, false, false, false, false, false, false, false, false, false, false, false, false, false, false, false, false, false, false, false, false, false, false, false]
abbrev b13_9 : Array Bool := #[true, true, true, true, true, true, true, true, true, false, false, false, false, false, false, false, false, false, false, false, false, false, false, false, false, false, false, false, false, false, false, false, false, false, false, false]
abbrev b13_10 : Array Bool := #[true, true, true, true, true, true, true, true, true, true, false, false, false, false, false, false, false, false, false, false, false, false, false, false, false, false, false, false, false, false, false, false, false, false, false, false]
abbrev b13_11 : Array Bool := #[true, true, true, true, true, true, true, true, true, true, true, false, false, false, false, false, false, false, false, false, false, false, false, false, false, false, false, false, false, false, false, false, false, false, false, false]
abbrev b13_12 : Array Bool := #[true, true, true, true, true, true, true, true, true, true, true, true, false, false, false, false, false, false, false, false, false, false, false, false, false, false, false, false, false, false, false, false, false, false, false, false]
abbrev b13_13 : Array Bool := #[true, true, true, true, true, true, true, true, true, true, true, true, true, false, false, false, false, false, false, false, false, false, false, false, false, false, false, false, false, false, false, false, false, false, false, false]
abbrev b13_14 : Array Bool := #[true, true, true, true, true, true, true, true, true, true, true, true, true, true, false, false, false, false, false, false, false, false, false, false, false, false, false, false, false, false, false, false, false, false, false, false]
abbrev b13_15 : Array Bool := #[true, true, true, true, true, true, true, true, true, true, true, true, true, true, true, false, false, false, false, false, false, false, false, false, false, false, false, false, false, false, false, false, false, false, false, false]
abbrev b13_16 : Array Bool := #[true, true, true, true, true, true, true, true, true, true, true, true, true, true, true, true, false, false, false, false, false, false, false, false, false, false, false, false, false, false, false, false, false, false, false, false]
abbrev b13_17 : Array Bool := #[true, true, true, true, true, true, true, true, true, true, true, true, true, true, true, true, true, false, false, false, false, false, false, false, false, false, false, false, false, false, false, false, false, false, false, false]
abbrev b13_18 : Array Bool := #[true, true, true, true, true, true, true, true, true, true, true, true, true, true, true, true, true, true, false, false, false, false, false, false, false, false, false, false, false, false, false, false, false, false, false, false]
abbrev b13_19 : Array Bool := #[true, true, true, true, true, true, true, true, true, true, true, true, true, true, true, true, true, true, true, false, false, false, false, false, false, false, false, false, false, false, false, false, false, false, false, false]
abbrev b13_20 : Array Bool := #[true, true, true, true, true, true, true, true, true, true, true, true, true, true, true, true, true, true, true, true, false, false, false, false, false, false, false, false, false, false, false, false, false, false, false, false]
abbrev b13_21 : Array Bool := #[true, true, true, true, true, true, true, true, true, true, true, true, true, true, true, true, true, true, true, true, true, false, false, false, false, false, false, false, false, false, false, false, false, false, false, false]
abbrev b13_22 : Array Bool := #[true, true, true, true, true, true, true, true, true, true, true, true, true, true, true, true, true, true, true, true, true, true, false, false, false, false, false, false, false, false, false, false, false, false, false, false]
abbrev b13_23 : Array Bool := #[true, true, true, true, true, true, true, true, true, true, true, true, true, true, true, true, true, true, true, true, true, true, true, false, false, false, false, false, false, false, false, false, false, false, false, false]
abbrev b13_24 : Array Bool := #[true, true, true, true, true, true, true, true, true, true, true, true, true, true, true, true, true, true, true, true, true, true, true, true, false, false, false, false, false, false, false, false, false, false, false, false]
abbrev b13_25 : Array Bool := #[true, true, true, true, true, true, true, true, true, true, true, true, true, true, true, true, true, true, true, true, true, true, true, true, true, false, false, false, false, false, false, false, false, false, false, false]
abbrev b13_26 : Array Bool := #[true, true, true, true, true, true, true, true, true, true, true, true, true, true, true, true, true, true, true, true, true, true, true, true, true, true, false, false, false, false, false, false, false, false, false, false]
abbrev b13_27 : Array Bool := #[true, true, true, true, true, true, true, true, true, true, true, true, true, true, true, true, true, true, true, true, true, true, true, true, true, true, true, false, false, false, false, false, false, false, false, false]
abbrev b13_28 : Array Bool := #[true, true, true, true, true, true, true, true, true, true, true, true, true, true, true, true, true, true, true, true, true, true, true, true, true, true, true, true, false, false, false, false, false, false, false, false]
abbrev b13_29 : Array Bool := #[true, true, true, true, true, true, true, true, true, true, true, true, true, true, true, true, true, true, true, true, true, true, true, true, true, true, true, true, true, false, false, false, false, false, false, false]
abbrev b13_30 : Array Bool := #[true, true, true, true, true, true, true, true, true, true, true, true, true, true, true, true, true, true, true, true, true, true, true, true, true, true, true, true, true, true, false, false, false, false, false, false]
abbrev b13_31 : Array Bool := #[true, true, true, true, true, true, true, true, true, true, true, true, true, true, true, true, true, true, true, true, true, true, true, true, true, true, true, true, true, true, false, true, false, false, false, false]
abbrev b13_32 : Array Bool := #[true, true, true, true, true, true, true, true, true, true, true, true, true, true, true, true, true, true, true, true, true, true, true, true, true, true, true, true, true, true, false, true, true, false, false, false]
abbrev b13_33 : Array Bool := #[true, true, true, true, true, true, true, true, true, true, true, true, true, true, true, true, true, true, true, true, true, true, true, true, true, true, true, true, true, true, true, true, true, false, false, false]
abbrev b13_34 : Array Bool := #[true, true, true, true, true, true, true, true, true, true, true, true, true, true, true, true, true, true, true, true, true, true, true, true, true, true, true, true, true, true, true, true, true, true, false, false]
abbrev b13_35 : Array Bool := #[true, true, true, true, true, true, true, true, true, true, true, true, true, true, true, true, true, true, true, true, true, true, true, true, true, true, true, true, true, true, true, true, true, true, true, false]
abbrev b13_36 : Array Bool := #[true, true, true, true, true, true, true, true, true, true, true, true, true, true, true, true, true, true, true, true, true, true, true, true, true, true, true, true, true, true, true, true, true, true, true, true]
abbrev b13_37 : Array Bool := #[true, true, true, true, true, true, false, true, false, false, false, false, false, false, false, false, false, false, false, false, false, false, false, false, false, false, false, false, false, false, false, false, false, false, false, false]
abbrev b13_38 : Array Bool := #[true, true, true, true, true, true, false, true, false, false, true, false, false, false, false, false, false, false, false, false, false, false, false, false, false, false, false, false, false, false, false, false, false, false, false, false]
abbrev b13_39 : Array Bool := #[true, true, true, true, true, true, false, true, false, false, true, true, false, false, false, false, false, false, false, false, false, false, false, false, false, false, false, false, false, false, false, false, false, false, false, false]
abbrev b13_40 : Array Bool := #[true, true, true, true, true, true, false, true, false, false, true, true, true, false, false, false, false, false, false, false, false, false, false, false, false, false, false, false, false, false, false, false, false, false, false, false]
abbrev b13_41 : Array Bool := #[true, true, true, true, true, true, true, true, false, false, true, true, true, false, false, false, false, false, false, false, false, false, false, false, false, false, false, false, false, false, false, false, false, false, false, false]
abbrev b13_42 : Array Bool := #[true, true, true, true, true, true, true, true, true, false, true, true, true, false, false, false, false, false, false, false, false, false, false, false, false, false, false, false, false, false, false, false, false, false, false, false]
abbrev b13_43 : Array Bool := #[true, true, true, true, true, true, true, true, true, true, true, true, true, true, true, true, true, true, true, true, true, true, true, true, true, true, true, true, true, true, true, false, false, false, false, false]
abbrev b13_44 : Array Bool := #[true, true, true, true, true, true, true, true, true, true, true, true, true, true, true, true, true, true, true, true, true, true, true, true, true, true, true, true, true, true, true, true, false, false, false, false]

theorem z13_0 {P : Prop} (h : P := by (try simp only [List.map_toArray, List.map_cons, List.map_nil]); first | done | rfl | (simp only [List.length_drop, List.length_take]; rfl)) : P := h
theorem z13_1 {P : Prop} (h : P := by repeat (first | exact (Kd.R_reads' HO_7.out).2.2 | (with_reducible refine Kd.C_alloc ?_ _) | (with_reducible refine Kd.C_drewN ?_ _) | (with_reducible refine Kd.C_drew ?_))) : P := h
theorem z13_2 {P : Prop} (h : P := by kernel_rfl) : P := h
theorem z13_3 {P : Prop} (h : P := by repeat (first | (with_reducible first | exact HB.out | apply below_alloc | apply pw_below_drewN | apply below_drew1 | refine below_set ?_ GE519.out) | exact HB.out)) : P := h
theorem z13_4 {P : Prop} (h : P := by repeat (first | exact (Kd.R_reads' HO_8.out).2.2 | (with_reducible refine Kd.C_alloc ?_ _) | (with_reducible refine Kd.C_drewN ?_ _) | (with_reducible refine Kd.C_drew ?_))) : P := h
theorem z13_5 {P : Prop} (h : P := by repeat (first | (with_reducible exact HR526_0.out) | (with_reducible refine Kd.C_alloc ?_ _) | (with_reducible refine Kd.C_drewN ?_ _) | (with_reducible refine Kd.C_drew ?_) | exact HR526_0.out)) : P := h
theorem z13_6 {P : Prop} (h : P := by (with_reducible repeat (first | apply Kd.R_alloc | apply Kd.R_drewN | apply Kd.R_drew)); exact HO522.out) : P := h
theorem z13_7 {P : Prop} (h : P := by first | (with_reducible assumption) | assumption) : P := h
theorem z13_8 {P : Prop} (h : P := by (with_reducible repeat (first | apply Kd.R_alloc | apply Kd.R_drewN | apply Kd.R_drew)); exact HO525.out) : P := h
theorem z13_9 {P : Prop} (h : P := by (with_reducible repeat (first | refine blk_drewN ?_ _ | refine blk_drew ?_ | refine blk_alloc ?_ _)); exact BK519.out) : P := h
theorem z13_10 {P : Prop} (h : P := by exact (Kd.R_reads' HO_7.out).2.1) : P := h
theorem z13_11 {P : Prop} (h : P := by repeat (first | (with_reducible first | exact HB.out | apply below_alloc | apply pw_below_drewN | apply below_drew1) | exact HB.out)) : P := h
theorem z13_12 {P : Prop} (h : P := by (with_reducible repeat (first | apply Kd.S_alloc | apply Kd.S_drewN | apply Kd.S_drew)); exact HO518.out) : P := h
theorem z13_13 {P : Prop} (h : P := by (with_reducible repeat (first | apply Kd.R_alloc | apply Kd.R_drewN | apply Kd.R_drew)); exact HO529.out) : P := h
theorem z13_14 {P : Prop} (h : P := by (with_reducible repeat (first | apply Kd.R_alloc | apply Kd.R_drewN | apply Kd.R_drew)); exact HL526_0.out) : P := h
theorem z13_15 {P : Prop} (h : P := by (with_reducible repeat (first | apply Kd.R_alloc | apply Kd.R_drewN | apply Kd.R_drew)); exact HO532.out) : P := h
theorem z13_16 {P : Prop} (h : P := by repeat (first | exact HR0.out | (with_reducible refine Kd.C_alloc ?_ _) | (with_reducible refine Kd.C_drewN ?_ _) | (with_reducible refine Kd.C_drew ?_))) : P := h
theorem z13_17 {P : Prop} (h : P := by first | rfl | (simp; done) | (simp [*]; done)) : P := h
/-! ### laws_FnWrites: function 10 -/
mutual
def laws_FnWrites.j0 : Nat → List Int → List Int → List Int → Bool → List Int → List Int → Int → Int → Option (Bool)
  | 0, _, _, _, _, _, _, _, _ => none
  | k + 1, x4, x7, x8, x43, x543000, x543001, x543002, x543003 => if x43 = true then (some false) else (laws_FnWrites.l0 k x4 x7 x8 0 x543000 x543001 x543002 x543003)
def laws_FnWrites.l0 : Nat → List Int → List Int → List Int → Int → List Int → List Int → Int → Int → Option (Bool)
  | 0, _, _, _, _, _, _, _, _ => none
  | k + 1, x4, x7, x8, x11, x543000, x543001, x543002, x543003 => if x11 < 8 then ((laws_has.f k x7 x11).bind fun t543 => (if t543 = true then ((laws_has.f k x8 x11).bind fun t544 => (if t544 = true then ((laws_has.f k x7 x11).bind fun t545 => (if t545 = true then ((impl_HasVar.f k x7 x11).bind fun t546 => ((laws_has.f k x7 x11).bind fun t547 => (if (t546 != t547) = true then (some false) else (laws_FnWrites.l0 k x4 x7 x8 (wrap64 (x11 + 1)) x543000 x543001 x543002 x543003)))) else (some false))) else ((impl_HasVar.f k x7 x11).bind fun t548 => ((laws_has.f k x7 x11).bind fun t549 => (if (t548 != t549) = true then (some false) else (laws_FnWrites.l0 k x4 x7 x8 (wrap64 (x11 + 1)) x543000 x543001 x543002 x543003)))))) else (if 0 ≤ x11 then (if x11 < (x543000.length : Int) then (if x11 < (x4.length : Int) then (if (rd x543000 x11) = (rd x4 x11) then ((laws_has.f k x8 x11).bind fun t552 => (if t552 = true then ((laws_has.f k x7 x11).bind fun t553 => (if t553 = true then ((impl_HasVar.f k x7 x11).bind fun t554 => ((laws_has.f k x7 x11).bind fun t555 => (if (t554 != t555) = true then (some false) else (laws_FnWrites.l0 k x4 x7 x8 (wrap64 (x11 + 1)) x543000 x543001 x543002 x543003)))) else (some false))) else ((impl_HasVar.f k x7 x11).bind fun t556 => ((laws_has.f k x7 x11).bind fun t557 => (if (t556 != t557) = true then (some false) else (laws_FnWrites.l0 k x4 x7 x8 (wrap64 (x11 + 1)) x543000 x543001 x543002 x543003)))))) else (some false)) else (none)) else (none)) else (none)))) else (some true)
end
def laws_FnWrites.f (k : Nat) (l0 : List Int) : Option (Bool) := (laws_big.f l0).bind fun t515 => (if t515 = true then (some true) else ((spec_DrawProgram.f k l0).bind fun t516 => ((spec_DrawVars.f k l0).bind fun t520 => ((spec_DrawReadings.f k l0).bind fun t523 => (if 0 < (t516.length : Int) then ((impl_MayWrite.f k ((rd_T34 t516 0).f0)).bind fun t527 => ((impl_MustWrite.f k ((rd_T34 t516 0).f0)).bind fun t530 => ((impl_TaskEffect.f k t516 0 t520 t523).bind fun bt533 => (if bt533.2.2.2.2 = true then (laws_FnWrites.j0 k t520 t527 t530 ((bt533.1.length : Int) != 8) bt533.1 bt533.2.1 bt533.2.2.1 bt533.2.2.2.1) else (laws_FnWrites.j0 k t520 t527 t530 true bt533.1 bt533.2.1 bt533.2.2.1 bt533.2.2.2.1))))) else (none))))))
theorem laws_FnWrites.mono_l : ∀ k, (∀ y0 y1 y2 y3 y4 y5 y6 y7, LeO (laws_FnWrites.j0 k y0 y1 y2 y3 y4 y5 y6 y7) (laws_FnWrites.j0 (k + 1) y0 y1 y2 y3 y4 y5 y6 y7)) ∧ (∀ y0 y1 y2 y3 y4 y5 y6 y7, LeO (laws_FnWrites.l0 k y0 y1 y2 y3 y4 y5 y6 y7) (laws_FnWrites.l0 (k + 1) y0 y1 y2 y3 y4 y5 y6 y7))
  | 0 => ⟨fun _ _ _ _ _ _ _ _ r h => by simp [laws_FnWrites.j0] at h, fun _ _ _ _ _ _ _ _ r h => by simp [laws_FnWrites.l0] at h⟩
  | k + 1 => by
    obtain ⟨ih0, ih1⟩ := laws_FnWrites.mono_l k
    refine ⟨?_, ?_⟩
    · intro y0 y1 y2 y3 y4 y5 y6 y7
      unfold laws_FnWrites.j0
      repeat' first
      | (with_reducible exact ih0 _ _ _ _ _ _ _ _)
      | (with_reducible exact ih1 _ _ _ _ _ _ _ _)
      | (with_reducible exact impl_HasVar.mono _ _ _)
      | (with_reducible exact impl_MayWrite.mono _ _)
      | (with_reducible exact impl_MustWrite.mono _ _)
      | (with_reducible exact impl_TaskEffect.mono _ _ _ _ _)
      | (with_reducible exact laws_has.mono _ _ _)
      | (with_reducible exact spec_DrawProgram.mono _ _)
      | (with_reducible exact spec_DrawReadings.mono _ _)
      | (with_reducible exact spec_DrawVars.mono _ _)
      | (with_reducible exact LeO.refl _)
      | (with_reducible exact LeO.none _)
      | (with_reducible refine LeO.ite ?_ ?_)
      | (with_reducible refine LeO.bind ?_ (fun _ => ?_))
      | exact ih0 _ _ _ _ _ _ _ _
      | exact ih1 _ _ _ _ _ _ _ _
      | exact impl_HasVar.mono _ _ _
      | exact impl_MayWrite.mono _ _
      | exact impl_MustWrite.mono _ _
      | exact impl_TaskEffect.mono _ _ _ _ _
      | exact laws_has.mono _ _ _
      | exact spec_DrawProgram.mono _ _
      | exact spec_DrawReadings.mono _ _
      | exact spec_DrawVars.mono _ _
      | exact LeO.none _
      | refine LeO.ite ?_ ?_
      | refine LeO.bind ?_ (fun _ => ?_)
    · intro y0 y1 y2 y3 y4 y5 y6 y7
      unfold laws_FnWrites.l0
      repeat' first
      | (with_reducible exact ih0 _ _ _ _ _ _ _ _)
      | (with_reducible exact ih1 _ _ _ _ _ _ _ _)
      | (with_reducible exact impl_HasVar.mono _ _ _)
      | (with_reducible exact impl_MayWrite.mono _ _)
      | (with_reducible exact impl_MustWrite.mono _ _)
      | (with_reducible exact impl_TaskEffect.mono _ _ _ _ _)
      | (with_reducible exact laws_has.mono _ _ _)
      | (with_reducible exact spec_DrawProgram.mono _ _)
      | (with_reducible exact spec_DrawReadings.mono _ _)
      | (with_reducible exact spec_DrawVars.mono _ _)
      | (with_reducible exact LeO.refl _)
      | (with_reducible exact LeO.none _)
      | (with_reducible refine LeO.ite ?_ ?_)
      | (with_reducible refine LeO.bind ?_ (fun _ => ?_))
      | exact ih0 _ _ _ _ _ _ _ _
      | exact ih1 _ _ _ _ _ _ _ _
      | exact impl_HasVar.mono _ _ _
      | exact impl_MayWrite.mono _ _
      | exact impl_MustWrite.mono _ _
      | exact impl_TaskEffect.mono _ _ _ _ _
      | exact laws_has.mono _ _ _
      | exact spec_DrawProgram.mono _ _
      | exact spec_DrawReadings.mono _ _
      | exact spec_DrawVars.mono _ _
      | exact LeO.none _
      | refine LeO.ite ?_ ?_
      | refine LeO.bind ?_ (fun _ => ?_)
theorem laws_FnWrites.mono : ∀ a0 k, LeO (laws_FnWrites.f k a0) (laws_FnWrites.f (k + 1) a0) := by
  intro a0 k
  obtain ⟨ih0, ih1⟩ := laws_FnWrites.mono_l k
  unfold laws_FnWrites.f
  repeat' first
      | (with_reducible exact ih0 _ _ _ _ _ _ _ _)
      | (with_reducible exact ih1 _ _ _ _ _ _ _ _)
      | (with_reducible exact impl_HasVar.mono _ _ _)
      | (with_reducible exact impl_MayWrite.mono _ _)
      | (with_reducible exact impl_MustWrite.mono _ _)
      | (with_reducible exact impl_TaskEffect.mono _ _ _ _ _)
      | (with_reducible exact laws_has.mono _ _ _)
      | (with_reducible exact spec_DrawProgram.mono _ _)
      | (with_reducible exact spec_DrawReadings.mono _ _)
      | (with_reducible exact spec_DrawVars.mono _ _)
      | (with_reducible exact LeO.refl _)
      | (with_reducible exact LeO.none _)
      | (with_reducible refine LeO.ite ?_ ?_)
      | (with_reducible refine LeO.bind ?_ (fun _ => ?_))
      | exact ih0 _ _ _ _ _ _ _ _
      | exact ih1 _ _ _ _ _ _ _ _
      | exact impl_HasVar.mono _ _ _
      | exact impl_MayWrite.mono _ _
      | exact impl_MustWrite.mono _ _
      | exact impl_TaskEffect.mono _ _ _ _ _
      | exact laws_has.mono _ _ _
      | exact spec_DrawProgram.mono _ _
      | exact spec_DrawReadings.mono _ _
      | exact spec_DrawVars.mono _ _
      | exact LeO.none _
      | refine LeO.ite ?_ ?_
      | refine LeO.bind ?_ (fun _ => ?_)
def laws_FnWrites.T15 : Bool × List (List Nat × List Nat) := (true, [([], []), ([], []), ([0, 1], [0, 1]), ([2], [2]), ([3, 2], [3]), ([4], [4]), ([5, 4], [4, 5]), ([4], [4]), ([6, 7, 4], [4, 6, 7]), ([8, 4], [4, 8]), ([4], [4]), ([4], [4]), ([10, 11, 4], [4, 10, 11]), ([12, 4], [4, 12]), ([9, 13, 4], [4, 9, 13]), ([4, 14], [4, 14]), ([15, 4], [15]), ([16], [16]), ([16], [16]), ([17, 18, 16, 16], [16, 17, 18]), ([19, 19, 16], [16, 19]), ([20], [20]), ([20], [20]), ([21, 22, 20, 20], [20, 21, 22]), ([23, 20], [20, 23]), ([20, 24, 16], [16, 20, 24]), ([16, 25], [16, 25]), ([26, 23], [26]), ([27], [27]), ([27], [27]), ([28, 29, 27, 27], [27, 28, 29]), ([27], [27]), ([27], [27]), ([31, 32, 30, 27], [27, 31, 32]), ([30, 33, 27], [27, 30, 33]), ([27, 34], [27, 34])])
def laws_FnWrites.B15 : List Nat := [0, 0, 3, 7, 15, 31, 63, 31, 255, 511, 31, 31, 3103, 7199, 16383, 32767, 65535, 131071, 131071, 524287, 1048575, 2097151, 2097151, 8388607, 16777215, 33554431, 67108863, 134217727, 268435455, 268435455, 1073741823, 268435455, 268435455, 8589934591, 17179869183, 34359738367]
theorem laws_FnWrites.tab15 : rtab .any (opsOf Try.f10 15) = laws_FnWrites.T15 := by kernel_rfl
theorem laws_FnWrites.bits15 : waitsOk laws_FnWrites.T15.2 laws_FnWrites.B15 = true := by kernel_rfl
set_option maxHeartbeats 8000000 in
set_option maxRecDepth 100000 in
theorem laws_FnWrites.calls (k : Nat) (A0 : Option Addr) (c0 : Nat) (l0 : List Int) (r : Bool) (w : World) (hr0 : Kd.C (Kd.int .u8) w A0 l0.length l0) (hc0 : l0.length ≤ c0) (h : laws_FnWrites.f k l0 = some r) :
    Calls Try.prog 10 #[.slice A0 l0.length c0] w fun e w' => e = .returned (.bool r) ∧ Below w.heap.size w w' := by
  have hu26 := Try.underlying26
  have hu37 := Try.underlying37
  have HR0 := Aside0.mk hr0
  have HC0 := Aside0.mk hc0
  clear hr0 hc0
  have HB := Aside0.mk (Below.refl w.heap.size w)
  have H : ((laws_big.f l0).bind fun t515 => (if t515 = true then (some true) else ((spec_DrawProgram.f k l0).bind fun t516 => ((spec_DrawVars.f k l0).bind fun t520 => ((spec_DrawReadings.f k l0).bind fun t523 => (if 0 < (t516.length : Int) then ((impl_MayWrite.f k ((rd_T34 t516 0).f0)).bind fun t527 => ((impl_MustWrite.f k ((rd_T34 t516 0).f0)).bind fun t530 => ((impl_TaskEffect.f k t516 0 t520 t523).bind fun bt533 => (if bt533.2.2.2.2 = true then (laws_FnWrites.j0 k t520 t527 t530 ((bt533.1.length : Int) != 8) bt533.1 bt533.2.1 bt533.2.2.1 bt533.2.2.2.1) else (laws_FnWrites.j0 k t520 t527 t530 true bt533.1 bt533.2.1 bt533.2.2.1 bt533.2.2.2.1))))) else (none))))))) = some r := h
  clear h
  replace H := Option.bind_eq_some_iff.mp H
  obtain ⟨t515, A20, H⟩ := H
  replace H : (if t515 = true then (some true) else ((spec_DrawProgram.f k l0).bind fun t516 => ((spec_DrawVars.f k l0).bind fun t520 => ((spec_DrawReadings.f k l0).bind fun t523 => (if 0 < (t516.length : Int) then ((impl_MayWrite.f k ((rd_T34 t516 0).f0)).bind fun t527 => ((impl_MustWrite.f k ((rd_T34 t516 0).f0)).bind fun t530 => ((impl_TaskEffect.f k t516 0 t520 t523).bind fun bt533 => (if bt533.2.2.2.2 = true then (laws_FnWrites.j0 k t520 t527 t530 ((bt533.1.length : Int) != 8) bt533.1 bt533.2.1 bt533.2.2.1 bt533.2.2.2.1) else (laws_FnWrites.j0 k t520 t527 t530 true bt533.1 bt533.2.1 bt533.2.2.1 bt533.2.2.2.1))))) else (none)))))) = some r := H
  have A2 := Aside0.mk A20
  clear A20
  by_cases c3 : t515 = true
  · subst c3
    have H1 : (some true) = some r := by rw [if_pos rfl] at H; exact H
    clear H
    have H := H1
    clear H1
    obtain rfl := Option.some.inj H
    go_enter Try.func10, Try.ntmps10
    go_wp2_with (first | ((first | ((with_reducible refine gate_callee (f := 13) rfl ?_); refine goesL_ (some 13) rfl rfl Try.func13 z13_2 rfl #[.slice A0 l0.length c0] rfl z13_0 ?_; (with_reducible refine (laws_big.calls _ _ l0 true _ ?side1 ?side2 A2.out).mono ?_)) | (go_at_call 13; (with_reducible refine (laws_big.calls _ _ l0 true _ ?side1 ?side2 A2.out).mono ?_))); (case side1 => exact z13_16); (case side2 => exact HC0.out); rintro e w' ⟨rfl, ⟨nd, rfl⟩⟩; (first | refine ⟨_, rfl, ?_⟩ | skip)))
    go_ret
    exact ⟨by first | rfl | (simp [errW_none, errW_some] <;> rfl) | (simp [*, errW_none, errW_some] <;> rfl) | (simp [*, errW_none, errW_some, i64_w]; done), by repeat (first | (with_reducible first | exact HB.out | apply below_alloc | apply pw_below_drewN | apply below_drew1) | exact HB.out)⟩
  · replace c3 := Bool.eq_false_iff.mpr c3
    subst c3
    have H1 : ((spec_DrawProgram.f k l0).bind fun t516 => ((spec_DrawVars.f k l0).bind fun t520 => ((spec_DrawReadings.f k l0).bind fun t523 => (if 0 < (t516.length : Int) then ((impl_MayWrite.f k ((rd_T34 t516 0).f0)).bind fun t527 => ((impl_MustWrite.f k ((rd_T34 t516 0).f0)).bind fun t530 => ((impl_TaskEffect.f k t516 0 t520 t523).bind fun bt533 => (if bt533.2.2.2.2 = true then (laws_FnWrites.j0 k t520 t527 t530 ((bt533.1.length : Int) != 8) bt533.1 bt533.2.1 bt533.2.2.1 bt533.2.2.2.1) else (laws_FnWrites.j0 k t520 t527 t530 true bt533.1 bt533.2.1 bt533.2.2.1 bt533.2.2.2.1))))) else (none))))) = some r := by rw [if_neg (show ¬ (false = true) by decide)] at H; exact H
    clear H
    have H := H1
    clear H1
    replace H := Option.bind_eq_some_iff.mp H
    obtain ⟨t516, A40, H⟩ := H
    replace H : ((spec_DrawVars.f k l0).bind fun t520 => ((spec_DrawReadings.f k l0).bind fun t523 => (if 0 < (t516.length : Int) then ((impl_MayWrite.f k ((rd_T34 t516 0).f0)).bind fun t527 => ((impl_MustWrite.f k ((rd_T34 t516 0).f0)).bind fun t530 => ((impl_TaskEffect.f k t516 0 t520 t523).bind fun bt533 => (if bt533.2.2.2.2 = true then (laws_FnWrites.j0 k t520 t527 t530 ((bt533.1.length : Int) != 8) bt533.1 bt533.2.1 bt533.2.2.1 bt533.2.2.2.1) else (laws_FnWrites.j0 k t520 t527 t530 true bt533.1 bt533.2.1 bt533.2.2.1 bt533.2.2.2.1))))) else (none)))) = some r := H
    have A4 := Aside0.mk A40
    clear A40
    replace H := Option.bind_eq_some_iff.mp H
    obtain ⟨t520, A50, H⟩ := H
    replace H : ((spec_DrawReadings.f k l0).bind fun t523 => (if 0 < (t516.length : Int) then ((impl_MayWrite.f k ((rd_T34 t516 0).f0)).bind fun t527 => ((impl_MustWrite.f k ((rd_T34 t516 0).f0)).bind fun t530 => ((impl_TaskEffect.f k t516 0 t520 t523).bind fun bt533 => (if bt533.2.2.2.2 = true then (laws_FnWrites.j0 k t520 t527 t530 ((bt533.1.length : Int) != 8) bt533.1 bt533.2.1 bt533.2.2.1 bt533.2.2.2.1) else (laws_FnWrites.j0 k t520 t527 t530 true bt533.1 bt533.2.1 bt533.2.2.1 bt533.2.2.2.1))))) else (none))) = some r := H
    have A5 := Aside0.mk A50
    clear A50
    replace H := Option.bind_eq_some_iff.mp H
    obtain ⟨t523, A60, H⟩ := H
    replace H : (if 0 < (t516.length : Int) then ((impl_MayWrite.f k ((rd_T34 t516 0).f0)).bind fun t527 => ((impl_MustWrite.f k ((rd_T34 t516 0).f0)).bind fun t530 => ((impl_TaskEffect.f k t516 0 t520 t523).bind fun bt533 => (if bt533.2.2.2.2 = true then (laws_FnWrites.j0 k t520 t527 t530 ((bt533.1.length : Int) != 8) bt533.1 bt533.2.1 bt533.2.2.1 bt533.2.2.2.1) else (laws_FnWrites.j0 k t520 t527 t530 true bt533.1 bt533.2.1 bt533.2.2.1 bt533.2.2.2.1))))) else (none)) = some r := H
    have A6 := Aside0.mk A60
    clear A60
    by_cases c7 : 0 < (t516.length : Int)
    · rw [if_pos c7] at H
      have c7b0 : decide (0 < (t516.length : Int)) = true := decide_eq_true c7
      have c7b1 : decide (0 < t516.length) = true := decide_eq_true (by omega)
      clear c7
      replace H := Option.bind_eq_some_iff.mp H
      obtain ⟨t527, A80, H⟩ := H
      replace H : ((impl_MustWrite.f k ((rd_T34 t516 0).f0)).bind fun t530 => ((impl_TaskEffect.f k t516 0 t520 t523).bind fun bt533 => (if bt533.2.2.2.2 = true then (laws_FnWrites.j0 k t520 t527 t530 ((bt533.1.length : Int) != 8) bt533.1 bt533.2.1 bt533.2.2.1 bt533.2.2.2.1) else (laws_FnWrites.j0 k t520 t527 t530 true bt533.1 bt533.2.1 bt533.2.2.1 bt533.2.2.2.1)))) = some r := H
      have A8 := Aside0.mk A80
      clear A80
      replace H := Option.bind_eq_some_iff.mp H
      obtain ⟨t530, A90, H⟩ := H
      replace H : ((impl_TaskEffect.f k t516 0 t520 t523).bind fun bt533 => (if bt533.2.2.2.2 = true then (laws_FnWrites.j0 k t520 t527 t530 ((bt533.1.length : Int) != 8) bt533.1 bt533.2.1 bt533.2.2.1 bt533.2.2.2.1) else (laws_FnWrites.j0 k t520 t527 t530 true bt533.1 bt533.2.1 bt533.2.2.1 bt533.2.2.2.1))) = some r := H
      have A9 := Aside0.mk A90
      clear A90
      replace H := Option.bind_eq_some_iff.mp H
      obtain ⟨⟨t533, t536, t539, t540, t541⟩, A100, H⟩ := H
      replace H : (if t541 = true then (laws_FnWrites.j0 k t520 t527 t530 ((t533.length : Int) != 8) t533 t536 t539 t540) else (laws_FnWrites.j0 k t520 t527 t530 true t533 t536 t539 t540)) = some r := H
      have A10 := Aside0.mk A100
      clear A100
      have HC11 := Aside0.mk H
      clear H
      go_enter Try.func10, Try.ntmps10
      go_upto_region 10 with (first | ((first | ((with_reducible refine gate_callee (f := 13) rfl ?_); refine goesL_ (some 13) rfl rfl Try.func13 z13_2 rfl #[.slice A0 l0.length c0] rfl z13_0 ?_; (with_reducible refine (laws_big.calls _ _ l0 false _ ?side1 ?side2 A2.out).mono ?_)) | (go_at_call 13; (with_reducible refine (laws_big.calls _ _ l0 false _ ?side1 ?side2 A2.out).mono ?_))); (case side1 => exact z13_16); (case side2 => exact HC0.out); rintro e w' ⟨rfl, ⟨nd, rfl⟩⟩; (first | refine ⟨_, rfl, ?_⟩ | skip)) | ((first | ((with_reducible refine gate_callee (f := 14) rfl ?_); refine goesL_ (some 15) rfl rfl Try.func14 z13_2 rfl #[.slice A0 l0.length c0] rfl z13_0 ?_; (with_reducible refine (spec_DrawProgram.calls k _ _ l0 t516 _ ?side1 ?side2 A4.out).mono ?_)) | (go_at_call 14; (with_reducible refine (spec_DrawProgram.calls k _ _ l0 t516 _ ?side1 ?side2 A4.out).mono ?_))); (case side1 => exact z13_16); (case side2 => exact HC0.out); rintro e w12 ⟨v517, rfl, ho0, hb⟩; (first | refine ⟨_, rfl, ?_⟩ | skip); have n0_ := Aside0.mk (Kd.S_lower ho0 (below_size z13_11)); have n1_ := Aside0.mk (below_step z13_11 hb); clear HB; have HO518 := n0_; have HB := n1_; clear n0_ n1_; (try clear hb); (try clear hb2); (try clear hk); (try clear hi); (try clear ho0)) | ((with_reducible refine gate_dst (N := 3) rfl ?_); (try (refine gate_guard (by rfl) ?_; dsimp only)); refine box_event ?hg (N := 3) ?hd (cs := #[.slice none 0 0]) (t := 26) ?hr ?_; (case hd => rfl); (case hg => rfl); (case hr => first | (go_simp; done) | (go_simp; rfl)); intro gb519 hg w13 hbox hb; have n0_ := Aside0.mk (Kd.S_below z13_12 hb); have n1_ := Aside0.mk (below_step z13_11 hb); have n2_ := Aside0.mk (hbox); have n3_ := Aside0.mk ((by rw [hg]; exact (below_size z13_11) : w.heap.size ≤ gb519)); have n4_ := Aside0.mk ((by rw [hg]; exact (below_size z13_11) : w.heap.size ≤ gb519)); clear HO518; clear HB; have HO518 := n0_; have HB := n1_; have BK519 := n2_; have GW519 := n3_; have GE519 := n4_; clear n0_ n1_ n2_ n3_ n4_; clear hb hbox hg; obtain ⟨Ao14, co14, eo14⟩ := Kd.S_slice HO518.out; subst eo14; have hcz15_0 : w13.cell? ⟨gb519, 0, none⟩ = some (.slice none 0 0) := (blk_cell BK519.out 0).trans rfl; have hfz15_0 := blk_frozen BK519.out 0) | ((first | ((with_reducible refine gate_callee (f := 15) rfl ?_); refine goesL_ (some 17) rfl rfl Try.func15 z13_2 rfl #[.slice A0 l0.length c0] rfl z13_0 ?_; (with_reducible refine (spec_DrawVars.calls k _ _ l0 t520 _ ?side1 ?side2 A5.out).mono ?_)) | (go_at_call 15; (with_reducible refine (spec_DrawVars.calls k _ _ l0 t520 _ ?side1 ?side2 A5.out).mono ?_))); (case side1 => exact Kd.C_below HR0.out z13_3); (case side2 => exact HC0.out); rintro e w16 ⟨v521, rfl, ho0, hb⟩; (first | refine ⟨_, rfl, ?_⟩ | skip); have n0_ := Aside0.mk (Kd.S_below (by (with_reducible repeat (first | apply Kd.S_alloc | apply Kd.S_drewN | apply Kd.S_drew)); exact (Kd.S_mono (Kd.S_far (p := ⟨gb519, 0, none⟩) (Kd.S_types HO518.out BK519.out (by decide)) (fun _ hk => hk.2) (.slice Ao14 t516.length co14)) (fun _ h_ => h_.1))) hb); have n1_ := Aside0.mk (Kd.R_lower ho0 (below_size z13_3)); have n2_ := Aside0.mk (blk_below (g := gb519) (o := .cells #[.slice Ao14 t516.length co14] 26 (0, 0)) (by (with_reducible repeat (first | refine blk_drewN ?_ _ | refine blk_drew ?_ | refine blk_alloc ?_ _)); refine blk_put (cs := #[.slice none 0 0]) ?_ 0 _ rfl; (with_reducible repeat (first | refine blk_drewN ?_ _ | refine blk_drew ?_ | refine blk_alloc ?_ _)); exact BK519.out) hb); have n3_ := Aside0.mk (below_step z13_3 hb); clear HO518; clear BK519; clear HB; have HO518 := n0_; have HO522 := n1_; have BK519 := n2_; have HB := n3_; clear n0_ n1_ n2_ n3_; (try clear hb); (try clear hb2); (try clear hk); (try clear hi); (try clear ho0)) | ((first | ((with_reducible refine gate_callee (f := 16) rfl ?_); refine goesL_ (some 19) rfl rfl Try.func16 z13_2 rfl #[.slice A0 l0.length c0] rfl z13_0 ?_; (with_reducible refine (spec_DrawReadings.calls k _ _ l0 t523 _ ?side1 ?side2 A6.out).mono ?_)) | (go_at_call 16; (with_reducible refine (spec_DrawReadings.calls k _ _ l0 t523 _ ?side1 ?side2 A6.out).mono ?_))); (case side1 => repeat (first | exact (Kd.C_below HR0.out HB.out) | (with_reducible refine Kd.C_alloc ?_ _) | (with_reducible refine Kd.C_drewN ?_ _) | (with_reducible refine Kd.C_drew ?_))); (case side2 => exact HC0.out); rintro e w17 ⟨v524, rfl, ho0, hb⟩; (first | refine ⟨_, rfl, ?_⟩ | skip); have n0_ := Aside0.mk (Kd.S_below z13_12 hb); have n1_ := Aside0.mk (Kd.R_elder' z13_6 (Kd.R_base ho0) hb); have n2_ := Aside0.mk (Kd.R_lower (Kd.R_new' ho0 (Kd.R_lt z13_6)) (below_size z13_3)); have n3_ := Aside0.mk (blk_below (g := gb519) (o := .cells #[.slice Ao14 t516.length co14] 26 (0, 0)) z13_9 hb); have n4_ := Aside0.mk (below_step z13_3 hb); clear HO518; clear HO522; clear BK519; clear HB; have HO518 := n0_; have HO522 := n1_; have HO525 := n2_; have BK519 := n3_; have HB := n4_; clear n0_ n1_ n2_ n3_ n4_; (try clear hb); (try clear hb2); (try clear hk); (try clear hi); (try clear ho0); have hcz18_0 : w17.cell? ⟨gb519, 0, none⟩ = some (.slice Ao14 t516.length co14) := (blk_cell BK519.out 0).trans rfl; have hfz18_0 := blk_frozen BK519.out 0; have p526 : 0 ≤ (0 : Int) := (by omega); have q526 : 0 < (t516.length : Int) := of_decide_eq_true z13_7; obtain ⟨ad526, A526_0, c526_0, e526, hx526_0, hx526_1, hx526_2, hx526_3, hl526_0, hi526_0⟩ := at_T34 (Kd.S_reads' HO518.out).2.2 0 p526 q526; cases e526; obtain ⟨ce526, hce526, hMe526, hcc526⟩ := Kd.S_get HO518.out z34 0 p526 (by first | exact q526 | exact of_decide_eq_true z13_7 | (have e_ := (Kd.S_reads' HO518.out).1; omega)); obtain ⟨ve526_0, rfl, ge526_0⟩ := k34_openM hMe526; have hv526_0 := hcc526 0 _ rfl; rw [Nat.add_zero] at hv526_0; replace hv526_0 := Option.some.inj (hv526_0.symm.trans hx526_0); rw [hv526_0] at ge526_0; have HL526_0 := Aside0.mk (show Kd.R k77 77 _ _ _ _ ((rd_T34 t516 0).f0) from ge526_0); clear hv526_0 ge526_0; clear hcc526 hce526; have qi526 : (0 < t516.length) = True := eq_true (by omega); (try rw [show ((0 : Int)).toNat = 0 from rfl] at hx526_0); (try rw [show 0 * 4 = 0 from rfl] at hx526_0); (try rw [Addr.add_zero'] at hx526_0); (try rw [show ((0 : Int)).toNat = 0 from rfl] at hx526_1); (try rw [show 0 * 4 = 0 from rfl] at hx526_1); (try rw [Addr.add_zero'] at hx526_1); (try rw [show ((0 : Int)).toNat = 0 from rfl] at hx526_2); (try rw [show 0 * 4 = 0 from rfl] at hx526_2); (try rw [Addr.add_zero'] at hx526_2); (try rw [show ((0 : Int)).toNat = 0 from rfl] at hx526_3); (try rw [show 0 * 4 = 0 from rfl] at hx526_3); (try rw [Addr.add_zero'] at hx526_3); have HR526_0 := Aside0.mk hi526_0; have HC526_0 := Aside0.mk hl526_0; clear hi526_0 hl526_0; replace p526 := eq_true p526; replace q526 := eq_true q526) | ((first | ((with_reducible refine gate_callee (f := 44) rfl ?_); refine goesL_ (some 26) rfl rfl Try.func44 z13_2 rfl #[.slice A526_0 ((rd_T34 t516 0).f0).length c526_0] rfl z13_0 ?_; (with_reducible refine (impl_MayWrite.calls k _ _ ((rd_T34 t516 0).f0) t527 _ ?side1 ?side2 A8.out).mono ?_)) | (go_at_call 44; (with_reducible refine (impl_MayWrite.calls k _ _ ((rd_T34 t516 0).f0) t527 _ ?side1 ?side2 A8.out).mono ?_))); (case side1 => repeat (first | exact z13_5 | (with_reducible refine Kd.C_alloc ?_ _) | (with_reducible refine Kd.C_drewN ?_ _) | (with_reducible refine Kd.C_drew ?_))); (case side2 => exact HC526_0.out); rintro e w19 ⟨v528, rfl, ho0, hb⟩; (first | refine ⟨_, rfl, ?_⟩ | skip); have n0_ := Aside0.mk (Kd.S_below z13_12 hb); have n1_ := Aside0.mk (Kd.R_elder' z13_6 (Kd.R_base ho0) hb); have n2_ := Aside0.mk (Kd.R_elder' z13_8 (Kd.R_base ho0) hb); have n3_ := Aside0.mk (Kd.R_below z13_14 hb); have n4_ := Aside0.mk (Kd.R_lower (Kd.R_new' (Kd.R_new' ho0 (Kd.R_lt z13_6)) (Kd.R_lt z13_8)) (below_size z13_3)); have n5_ := Aside0.mk (blk_below (g := gb519) (o := .cells #[.slice (some ad526) t516.length co14] 26 (0, 0)) z13_9 hb); have n6_ := Aside0.mk (Kd.C_below z13_5 hb); have n7_ := Aside0.mk (below_step z13_3 hb); clear HO518; clear HO522; clear HO525; clear HL526_0; clear BK519; clear HR526_0; clear HB; have HO518 := n0_; have HO522 := n1_; have HO525 := n2_; have HL526_0 := n3_; have HO529 := n4_; have BK519 := n5_; have HR526_0 := n6_; have HB := n7_; clear n0_ n1_ n2_ n3_ n4_ n5_ n6_ n7_; (try clear hb); (try clear hb2); (try clear hk); (try clear hi); (try clear ho0)) | ((first | ((with_reducible refine gate_callee (f := 45) rfl ?_); refine goesL_ (some 28) rfl rfl Try.func45 z13_2 rfl #[.slice A526_0 ((rd_T34 t516 0).f0).length c526_0] rfl z13_0 ?_; (with_reducible refine (impl_MustWrite.calls k _ _ ((rd_T34 t516 0).f0) t530 _ ?side1 ?side2 A9.out).mono ?_)) | (go_at_call 45; (with_reducible refine (impl_MustWrite.calls k _ _ ((rd_T34 t516 0).f0) t530 _ ?side1 ?side2 A9.out).mono ?_))); (case side1 => repeat (first | exact z13_5 | (with_reducible refine Kd.C_alloc ?_ _) | (with_reducible refine Kd.C_drewN ?_ _) | (with_reducible refine Kd.C_drew ?_))); (case side2 => exact HC526_0.out); rintro e w20 ⟨v531, rfl, ho0, hb⟩; (first | refine ⟨_, rfl, ?_⟩ | skip); have n0_ := Aside0.mk (Kd.S_below z13_12 hb); have n1_ := Aside0.mk (Kd.R_elder' z13_6 (Kd.R_base ho0) hb); have n2_ := Aside0.mk (Kd.R_elder' z13_8 (Kd.R_base ho0) hb); have n3_ := Aside0.mk (Kd.R_below z13_14 hb); have n4_ := Aside0.mk (Kd.R_elder' z13_13 (Kd.R_base ho0) hb); have n5_ := Aside0.mk (Kd.R_lower (Kd.R_new' (Kd.R_new' (Kd.R_new' ho0 (Kd.R_lt z13_6)) (Kd.R_lt z13_8)) (Kd.R_lt z13_13)) (below_size z13_3)); have n6_ := Aside0.mk (blk_below (g := gb519) (o := .cells #[.slice (some ad526) t516.length co14] 26 (0, 0)) z13_9 hb); have n7_ := Aside0.mk (Kd.C_below z13_5 hb); have n8_ := Aside0.mk (below_step z13_3 hb); clear HO518; clear HO522; clear HO525; clear HL526_0; clear HO529; clear BK519; clear HR526_0; clear HB; have HO518 := n0_; have HO522 := n1_; have HO525 := n2_; have HL526_0 := n3_; have HO529 := n4_; have HO532 := n5_; have BK519 := n6_; have HR526_0 := n7_; have HB := n8_; clear n0_ n1_ n2_ n3_ n4_ n5_ n6_ n7_ n8_; (try clear hb); (try clear hb2); (try clear hk); (try clear hi); (try clear ho0); have hcz21_0 : w20.cell? ⟨gb519, 0, none⟩ = some (.slice (some ad526) t516.length co14) := (blk_cell BK519.out 0).trans rfl; have hfz21_0 := blk_frozen BK519.out 0; obtain ⟨Ao22, co22, eo22⟩ := Kd.R_slice HO522.out; subst eo22; obtain ⟨Ao23, co23, eo23⟩ := Kd.R_slice HO525.out; subst eo23) | ((first | ((with_reducible refine gate_callee (f := 18) rfl ?_); refine goesL_ (some 33) rfl rfl Try.func18 z13_2 rfl #[.agg #[.slice (some ad526) t516.length co14], .int .i64 0, .slice Ao22 t520.length co22, .slice Ao23 t523.length co23] rfl z13_0 ?_; (with_reducible refine (impl_TaskEffect.calls k _ _ t516 0 _ _ t520 _ _ t523 t533 t536 t539 t540 t541 _ ?side1 ?side2 ?side3 ?side4 ?side5 ?side6 A10.out).mono ?_)) | (go_at_call 18; (with_reducible refine (impl_TaskEffect.calls k _ _ t516 0 _ _ t520 _ _ t523 t533 t536 t539 t540 t541 _ ?side1 ?side2 ?side3 ?side4 ?side5 ?side6 A10.out).mono ?_))); (case side1 => repeat (first | exact (Kd.S_reads' HO518.out).2.2 | (with_reducible refine Kd.C_alloc ?_ _) | (with_reducible refine Kd.C_drewN ?_ _) | (with_reducible refine Kd.C_drew ?_))); (case side2 => exact (Kd.S_reads' HO518.out).2.1); (case side3 => repeat (first | exact (Kd.R_reads' HO522.out).2.2 | (with_reducible refine Kd.C_alloc ?_ _) | (with_reducible refine Kd.C_drewN ?_ _) | (with_reducible refine Kd.C_drew ?_))); (case side4 => exact (Kd.R_reads' HO522.out).2.1); (case side5 => repeat (first | exact (Kd.R_reads' HO525.out).2.2 | (with_reducible refine Kd.C_alloc ?_ _) | (with_reducible refine Kd.C_drewN ?_ _) | (with_reducible refine Kd.C_drew ?_))); (case side6 => exact (Kd.R_reads' HO525.out).2.1); rintro e w24 ⟨v534, v537, rfl, ho0, ho1, hb⟩; (first | refine ⟨_, rfl, ?_⟩ | skip); have n0_ := Aside0.mk (Kd.S_below z13_12 hb); have n1_ := Aside0.mk (Kd.R_mono (Kd.R_told (Kd.R_told (Kd.R_old z13_6 hb) (Kd.R_base ho0)) (Kd.R_base ho1)) (fun _ h_ => h_.1)); have n2_ := Aside0.mk (Kd.R_mono (Kd.R_told (Kd.R_told (Kd.R_old z13_8 hb) (Kd.R_base ho0)) (Kd.R_base ho1)) (fun _ h_ => h_.1)); have n3_ := Aside0.mk (Kd.R_below z13_14 hb); have n4_ := Aside0.mk (Kd.R_mono (Kd.R_told (Kd.R_told (Kd.R_old z13_13 hb) (Kd.R_base ho0)) (Kd.R_base ho1)) (fun _ h_ => h_.1)); have n5_ := Aside0.mk (Kd.R_mono (Kd.R_told (Kd.R_told (Kd.R_old z13_15 hb) (Kd.R_base ho0)) (Kd.R_base ho1)) (fun _ h_ => h_.1)); have n6_ := Aside0.mk (Kd.R_lower (Kd.R_new' (Kd.R_new' (Kd.R_new' (Kd.R_new' ho0 (Kd.R_lt z13_6)) (Kd.R_lt z13_8)) (Kd.R_lt z13_13)) (Kd.R_lt z13_15)) (below_size z13_3)); have n7_ := Aside0.mk (Kd.R_lower (Kd.R_new' (Kd.R_new' (Kd.R_new' (Kd.R_new' ho1 (Kd.R_lt z13_6)) (Kd.R_lt z13_8)) (Kd.R_lt z13_13)) (Kd.R_lt z13_15)) (below_size z13_3)); have n8_ := Aside0.mk (blk_below (g := gb519) (o := .cells #[.slice (some ad526) t516.length co14] 26 (0, 0)) z13_9 hb); have n9_ := Aside0.mk (Kd.C_below z13_5 hb); have n10_ := Aside0.mk (below_step z13_3 hb); clear HO518; clear HO522; clear HO525; clear HL526_0; clear HO529; clear HO532; clear BK519; clear HR526_0; clear HB; have HO518 := n0_; have HO522 := n1_; have HO525 := n2_; have HL526_0 := n3_; have HO529 := n4_; have HO532 := n5_; have HO535 := n6_; have HO538 := n7_; have BK519 := n8_; have HR526_0 := n9_; have HB := n10_; clear n0_ n1_ n2_ n3_ n4_ n5_ n6_ n7_ n8_ n9_ n10_; (try clear hb); (try clear hb2); (try clear hk); (try clear hi); (try clear ho0); (try clear ho1)) | ((with_reducible refine gate_dst (N := 9) rfl ?_); (try (refine gate_guard (by rfl) ?_; dsimp only)); refine box_event ?hg (N := 9) ?hd (cs := #[.slice none 0 0, .slice none 0 0, .int .i64 0, .int .i64 0]) (t := 37) ?hr ?_; (case hd => rfl); (case hg => rfl); (case hr => first | (go_simp; done) | (go_simp; rfl)); intro gb542 hg w25 hbox hb; have n0_ := Aside0.mk (Kd.S_below z13_12 hb); have n1_ := Aside0.mk (Kd.R_below z13_6 hb); have n2_ := Aside0.mk (Kd.R_below z13_8 hb); have n3_ := Aside0.mk (Kd.R_below z13_14 hb); have n4_ := Aside0.mk (Kd.R_below z13_13 hb); have n5_ := Aside0.mk (Kd.R_below z13_15 hb); have n6_ := Aside0.mk (Kd.R_below (by (with_reducible repeat (first | apply Kd.R_alloc | apply Kd.R_drewN | apply Kd.R_drew)); exact HO535.out) hb); have n7_ := Aside0.mk (Kd.R_below (by (with_reducible repeat (first | apply Kd.R_alloc | apply Kd.R_drewN | apply Kd.R_drew)); exact HO538.out) hb); have n8_ := Aside0.mk (blk_below (g := gb519) (o := .cells #[.slice (some ad526) t516.length co14] 26 (0, 0)) z13_9 hb); have n9_ := Aside0.mk (Kd.C_below z13_5 hb); have n10_ := Aside0.mk (below_step z13_3 hb); have n11_ := Aside0.mk (hbox); have n12_ := Aside0.mk ((by rw [hg]; exact (below_size z13_3) : w.heap.size ≤ gb542)); have n13_ := Aside0.mk ((by rw [hg]; exact (below_size z13_3) : w.heap.size ≤ gb542)); have n14_ := Aside0.mk ((by rw [hg]; exact Nat.ne_of_lt (blk_lt (g := gb519) (o := .cells #[.slice (some ad526) t516.length co14] 26 (0, 0)) z13_9) : gb519 ≠ gb542)); have n15_ := Aside0.mk ((by rw [hg]; exact Nat.ne_of_gt (blk_lt (g := gb519) (o := .cells #[.slice (some ad526) t516.length co14] 26 (0, 0)) z13_9) : gb542 ≠ gb519)); clear HO518; clear HO522; clear HO525; clear HL526_0; clear HO529; clear HO532; clear HO535; clear HO538; clear BK519; clear HR526_0; clear HB; have HO518 := n0_; have HO522 := n1_; have HO525 := n2_; have HL526_0 := n3_; have HO529 := n4_; have HO532 := n5_; have HO535 := n6_; have HO538 := n7_; have BK519 := n8_; have HR526_0 := n9_; have HB := n10_; have BK542 := n11_; have GW542 := n12_; have GE542 := n13_; have NB519_542 := n14_; have NB542_519 := n15_; clear n0_ n1_ n2_ n3_ n4_ n5_ n6_ n7_ n8_ n9_ n10_ n11_ n12_ n13_ n14_ n15_; clear hb hbox hg; obtain ⟨Ao26, co26, eo26⟩ := Kd.R_slice HO535.out; subst eo26; have hnb27 := NB542_519.out; have hnc27 := NB519_542.out; have hcz28_0 : w25.cell? ⟨gb542, 0, none⟩ = some (.slice none 0 0) := (blk_cell BK542.out 0).trans rfl; have hcz28_1 : w25.cell? ⟨gb542, 1, none⟩ = some (.slice none 0 0) := (blk_cell BK542.out 1).trans rfl; have hcz28_2 : w25.cell? ⟨gb542, 2, none⟩ = some (.int .i64 0) := (blk_cell BK542.out 2).trans rfl; have hcz28_3 : w25.cell? ⟨gb542, 3, none⟩ = some (.int .i64 0) := (blk_cell BK542.out 3).trans rfl; have hfz28_0 := blk_frozen BK542.out 0; have hfz28_1 := blk_frozen BK542.out 1; have hfz28_2 := blk_frozen BK542.out 2; have hfz28_3 := blk_frozen BK542.out 3; obtain ⟨Ao29, co29, eo29⟩ := Kd.R_slice HO538.out; subst eo29) | ((with_reducible refine gate_store (t := 37) (p := 9) rfl ?_); refine store_event (t := 37) (p := 9) (v := ?vo_w30) (w1 := ((((w25.setCell ⟨gb542, 0, none⟩ (.slice Ao26 t533.length co26)).setCell ⟨gb542, 1, none⟩ (.slice Ao29 t536.length co29)).setCell ⟨gb542, 2, none⟩ (.int .i64 t539)).setCell ⟨gb542, 3, none⟩ (.int .i64 t540))) ?hg ?ho ?hn ?hr ?_; (case ho => rfl); (case hg => rfl); (case hn => rfl); (case hr => first | (go_simp; done) | (go_simp; rfl)); intro w30 hw; have n0_ : Aside0 (Kd.S k34 34 w30 w.heap.size (fun _ => True) (.slice (some ad526) t516.length co14) t516) := ⟨(by rw [hw]; exact (by (with_reducible repeat (first | apply Kd.S_alloc | apply Kd.S_drewN | apply Kd.S_drew)); exact Kd.S_mono (Kd.S_far (p := ⟨gb542, 3, none⟩) (Kd.S_far (p := ⟨gb542, 2, none⟩) (Kd.S_far (p := ⟨gb542, 1, none⟩) (Kd.S_far (p := ⟨gb542, 0, none⟩) (Kd.S_types HO518.out BK542.out (by decide)) (fun _ hk => hk.2) (.slice Ao26 t533.length co26)) (fun _ hk => hk.2) (.slice Ao29 t536.length co29)) (fun _ hk => hk.2) (.int .i64 t539)) (fun _ hk => hk.2) (.int .i64 t540)) (fun _ hk => trivial)))⟩; have n1_ : Aside0 (Kd.R (Kd.int .i64) 3 w30 w.heap.size (fun k_ => some k_ ≠ (.slice Ao23 t523.length co23 : Value).ownBlock ∧ some k_ ≠ (v528 : Value).ownBlock ∧ some k_ ≠ (v531 : Value).ownBlock ∧ some k_ ≠ (.slice Ao26 t533.length co26 : Value).ownBlock ∧ some k_ ≠ (.slice Ao29 t536.length co29 : Value).ownBlock) (.slice Ao22 t520.length co22) t520) := ⟨(by rw [hw]; exact (by (with_reducible repeat (first | apply Kd.R_alloc | apply Kd.R_drewN | apply Kd.R_drew)); exact Kd.R_mono (Kd.R_far (p := ⟨gb542, 3, none⟩) (Kd.R_far (p := ⟨gb542, 2, none⟩) (Kd.R_far (p := ⟨gb542, 1, none⟩) (Kd.R_far (p := ⟨gb542, 0, none⟩) (Kd.R_types HO522.out BK542.out (by decide)) (fun _ hk => hk.2) (.slice Ao26 t533.length co26)) (fun _ hk => hk.2) (.slice Ao29 t536.length co29)) (fun _ hk => hk.2) (.int .i64 t539)) (fun _ hk => hk.2) (.int .i64 t540)) (fun _ hk => ⟨hk.1.1.1.1.1.2, ⟨hk.1.1.1.1.2, ⟨hk.1.1.1.2, ⟨hk.1.1.2, hk.1.2⟩⟩⟩⟩)))⟩; have n2_ : Aside0 (Kd.R (Kd.int .i64) 3 w30 w.heap.size (fun k_ => some k_ ≠ (.slice Ao22 t520.length co22 : Value).ownBlock ∧ some k_ ≠ (v528 : Value).ownBlock ∧ some k_ ≠ (v531 : Value).ownBlock ∧ some k_ ≠ (.slice Ao26 t533.length co26 : Value).ownBlock ∧ some k_ ≠ (.slice Ao29 t536.length co29 : Value).ownBlock) (.slice Ao23 t523.length co23) t523) := ⟨(by rw [hw]; exact (by (with_reducible repeat (first | apply Kd.R_alloc | apply Kd.R_drewN | apply Kd.R_drew)); exact Kd.R_mono (Kd.R_far (p := ⟨gb542, 3, none⟩) (Kd.R_far (p := ⟨gb542, 2, none⟩) (Kd.R_far (p := ⟨gb542, 1, none⟩) (Kd.R_far (p := ⟨gb542, 0, none⟩) (Kd.R_types HO525.out BK542.out (by decide)) (fun _ hk => hk.2) (.slice Ao26 t533.length co26)) (fun _ hk => hk.2) (.slice Ao29 t536.length co29)) (fun _ hk => hk.2) (.int .i64 t539)) (fun _ hk => hk.2) (.int .i64 t540)) (fun _ hk => ⟨hk.1.1.1.1.1.2, ⟨hk.1.1.1.1.2, ⟨hk.1.1.1.2, ⟨hk.1.1.2, hk.1.2⟩⟩⟩⟩)))⟩; have n3_ : Aside0 (Kd.R k77 77 w30 w.heap.size (fun k_ => some k_ ≠ (.slice (some ad526) t516.length co14 : Value).ownBlock) (.slice A526_0 ((rd_T34 t516 0).f0).length c526_0) ((rd_T34 t516 0).f0)) := ⟨(by rw [hw]; exact (by (with_reducible repeat (first | apply Kd.R_alloc | apply Kd.R_drewN | apply Kd.R_drew)); exact Kd.R_mono (Kd.R_far (p := ⟨gb542, 3, none⟩) (Kd.R_far (p := ⟨gb542, 2, none⟩) (Kd.R_far (p := ⟨gb542, 1, none⟩) (Kd.R_far (p := ⟨gb542, 0, none⟩) (Kd.R_types HL526_0.out BK542.out (by decide)) (fun _ hk => hk.2) (.slice Ao26 t533.length co26)) (fun _ hk => hk.2) (.slice Ao29 t536.length co29)) (fun _ hk => hk.2) (.int .i64 t539)) (fun _ hk => hk.2) (.int .i64 t540)) (fun _ hk => hk.1.2)))⟩; have n4_ : Aside0 (Kd.R (Kd.int .i64) 3 w30 w.heap.size (fun k_ => some k_ ≠ (.slice Ao22 t520.length co22 : Value).ownBlock ∧ some k_ ≠ (.slice Ao23 t523.length co23 : Value).ownBlock ∧ some k_ ≠ (v531 : Value).ownBlock ∧ some k_ ≠ (.slice Ao26 t533.length co26 : Value).ownBlock ∧ some k_ ≠ (.slice Ao29 t536.length co29 : Value).ownBlock) v528 t527) := ⟨(by rw [hw]; exact (by (with_reducible repeat (first | apply Kd.R_alloc | apply Kd.R_drewN | apply Kd.R_drew)); exact Kd.R_mono (Kd.R_far (p := ⟨gb542, 3, none⟩) (Kd.R_far (p := ⟨gb542, 2, none⟩) (Kd.R_far (p := ⟨gb542, 1, none⟩) (Kd.R_far (p := ⟨gb542, 0, none⟩) (Kd.R_types HO529.out BK542.out (by decide)) (fun _ hk => hk.2) (.slice Ao26 t533.length co26)) (fun _ hk => hk.2) (.slice Ao29 t536.length co29)) (fun _ hk => hk.2) (.int .i64 t539)) (fun _ hk => hk.2) (.int .i64 t540)) (fun _ hk => ⟨hk.1.1.1.1.1.2, ⟨hk.1.1.1.1.2, ⟨hk.1.1.1.2, ⟨hk.1.1.2, hk.1.2⟩⟩⟩⟩)))⟩; have n5_ : Aside0 (Kd.R (Kd.int .i64) 3 w30 w.heap.size (fun k_ => some k_ ≠ (.slice Ao22 t520.length co22 : Value).ownBlock ∧ some k_ ≠ (.slice Ao23 t523.length co23 : Value).ownBlock ∧ some k_ ≠ (v528 : Value).ownBlock ∧ some k_ ≠ (.slice Ao26 t533.length co26 : Value).ownBlock ∧ some k_ ≠ (.slice Ao29 t536.length co29 : Value).ownBlock) v531 t530) := ⟨(by rw [hw]; exact (by (with_reducible repeat (first | apply Kd.R_alloc | apply Kd.R_drewN | apply Kd.R_drew)); exact Kd.R_mono (Kd.R_far (p := ⟨gb542, 3, none⟩) (Kd.R_far (p := ⟨gb542, 2, none⟩) (Kd.R_far (p := ⟨gb542, 1, none⟩) (Kd.R_far (p := ⟨gb542, 0, none⟩) (Kd.R_types HO532.out BK542.out (by decide)) (fun _ hk => hk.2) (.slice Ao26 t533.length co26)) (fun _ hk => hk.2) (.slice Ao29 t536.length co29)) (fun _ hk => hk.2) (.int .i64 t539)) (fun _ hk => hk.2) (.int .i64 t540)) (fun _ hk => ⟨hk.1.1.1.1.1.2, ⟨hk.1.1.1.1.2, ⟨hk.1.1.1.2, ⟨hk.1.1.2, hk.1.2⟩⟩⟩⟩)))⟩; have n6_ : Aside0 (Kd.R (Kd.int .i64) 3 w30 w.heap.size (fun k_ => some k_ ≠ (.slice Ao22 t520.length co22 : Value).ownBlock ∧ some k_ ≠ (.slice Ao23 t523.length co23 : Value).ownBlock ∧ some k_ ≠ (v528 : Value).ownBlock ∧ some k_ ≠ (v531 : Value).ownBlock ∧ some k_ ≠ (.slice Ao29 t536.length co29 : Value).ownBlock) (.slice Ao26 t533.length co26) t533) := ⟨(by rw [hw]; exact (by (with_reducible repeat (first | apply Kd.R_alloc | apply Kd.R_drewN | apply Kd.R_drew)); exact Kd.R_mono (Kd.R_far (p := ⟨gb542, 3, none⟩) (Kd.R_far (p := ⟨gb542, 2, none⟩) (Kd.R_far (p := ⟨gb542, 1, none⟩) (Kd.R_far (p := ⟨gb542, 0, none⟩) (Kd.R_types HO535.out BK542.out (by decide)) (fun _ hk => hk.2) (.slice Ao26 t533.length co26)) (fun _ hk => hk.2) (.slice Ao29 t536.length co29)) (fun _ hk => hk.2) (.int .i64 t539)) (fun _ hk => hk.2) (.int .i64 t540)) (fun _ hk => ⟨hk.1.1.1.1.2, ⟨hk.1.1.1.2, ⟨hk.1.1.2, ⟨hk.1.2, hk.1.1.1.1.1⟩⟩⟩⟩)))⟩; have n7_ : Aside0 (Kd.R (Kd.int .i64) 3 w30 w.heap.size (fun k_ => some k_ ≠ (.slice Ao22 t520.length co22 : Value).ownBlock ∧ some k_ ≠ (.slice Ao23 t523.length co23 : Value).ownBlock ∧ some k_ ≠ (v528 : Value).ownBlock ∧ some k_ ≠ (v531 : Value).ownBlock ∧ some k_ ≠ (.slice Ao26 t533.length co26 : Value).ownBlock) (.slice Ao29 t536.length co29) t536) := ⟨(by rw [hw]; exact (by (with_reducible repeat (first | apply Kd.R_alloc | apply Kd.R_drewN | apply Kd.R_drew)); exact Kd.R_mono (Kd.R_far (p := ⟨gb542, 3, none⟩) (Kd.R_far (p := ⟨gb542, 2, none⟩) (Kd.R_far (p := ⟨gb542, 1, none⟩) (Kd.R_far (p := ⟨gb542, 0, none⟩) (Kd.R_types HO538.out BK542.out (by decide)) (fun _ hk => hk.2) (.slice Ao26 t533.length co26)) (fun _ hk => hk.2) (.slice Ao29 t536.length co29)) (fun _ hk => hk.2) (.int .i64 t539)) (fun _ hk => hk.2) (.int .i64 t540)) (fun _ hk => ⟨hk.1.1.1.1.2, ⟨hk.1.1.1.2, ⟨hk.1.1.2, ⟨hk.1.2, hk.1.1.1.1.1⟩⟩⟩⟩)))⟩; have n8_ : Aside0 (w30.heap[gb519]? = some (.cells #[.slice (some ad526) t516.length co14] 26 (0, 0))) := ⟨(by rw [hw]; exact (by (with_reducible repeat (first | refine blk_drewN ?_ _ | refine blk_drew ?_ | refine blk_alloc ?_ _)); refine blk_far ?_ NB519_542.out _; (with_reducible repeat (first | refine blk_drewN ?_ _ | refine blk_drew ?_ | refine blk_alloc ?_ _)); refine blk_far ?_ NB519_542.out _; (with_reducible repeat (first | refine blk_drewN ?_ _ | refine blk_drew ?_ | refine blk_alloc ?_ _)); refine blk_far ?_ NB519_542.out _; (with_reducible repeat (first | refine blk_drewN ?_ _ | refine blk_drew ?_ | refine blk_alloc ?_ _)); refine blk_far ?_ NB519_542.out _; (with_reducible repeat (first | refine blk_drewN ?_ _ | refine blk_drew ?_ | refine blk_alloc ?_ _)); exact BK519.out))⟩; have n9_ : Aside0 (w30.heap[gb542]? = some (.cells #[.slice Ao26 t533.length co26, .slice Ao29 t536.length co29, .int .i64 t539, .int .i64 t540] 37 (0, 0))) := ⟨(by rw [hw]; exact (by (with_reducible repeat (first | refine blk_drewN ?_ _ | refine blk_drew ?_ | refine blk_alloc ?_ _)); refine blk_put (cs := #[.slice Ao26 t533.length co26, .slice Ao29 t536.length co29, .int .i64 t539, .int .i64 0]) ?_ 3 _ rfl; (with_reducible repeat (first | refine blk_drewN ?_ _ | refine blk_drew ?_ | refine blk_alloc ?_ _)); refine blk_put (cs := #[.slice Ao26 t533.length co26, .slice Ao29 t536.length co29, .int .i64 0, .int .i64 0]) ?_ 2 _ rfl; (with_reducible repeat (first | refine blk_drewN ?_ _ | refine blk_drew ?_ | refine blk_alloc ?_ _)); refine blk_put (cs := #[.slice Ao26 t533.length co26, .slice none 0 0, .int .i64 0, .int .i64 0]) ?_ 1 _ rfl; (with_reducible repeat (first | refine blk_drewN ?_ _ | refine blk_drew ?_ | refine blk_alloc ?_ _)); refine blk_put (cs := #[.slice none 0 0, .slice none 0 0, .int .i64 0, .int .i64 0]) ?_ 0 _ rfl; (with_reducible repeat (first | refine blk_drewN ?_ _ | refine blk_drew ?_ | refine blk_alloc ?_ _)); exact BK542.out))⟩; have n10_ : Aside0 (Below w.heap.size w w30) := ⟨(by rw [hw]; exact (by repeat (first | (with_reducible first | exact HB.out | apply below_alloc | apply pw_below_drewN | apply below_drew1 | refine below_set ?_ GE519.out | refine below_set ?_ GE542.out) | exact HB.out)))⟩; clear hw; clear HO518; clear HO522; clear HO525; clear HL526_0; clear HO529; clear HO532; clear HO535; clear HO538; clear BK519; clear BK542; clear HB; have HO518 := n0_; have HO522 := n1_; have HO525 := n2_; have HL526_0 := n3_; have HO529 := n4_; have HO532 := n5_; have HO535 := n6_; have HO538 := n7_; have BK519 := n8_; have BK542 := n9_; have HB := n10_; clear n0_ n1_ n2_ n3_ n4_ n5_ n6_ n7_ n8_ n9_ n10_))
      (try simp only [Act.put, List.setIfInBounds_toArray, List.set_cons_zero, List.set_cons_succ])
      go_cut [43] (fun v43 wc => ∃ (kq : Nat) (x43_10 : Bool), v43 = .bool x43_10 ∧ Aside0 (laws_FnWrites.j0 kq t520 t527 t530 x43_10 t533 t536 t539 t540 = some r) ∧ Aside0 (kq ≤ k) ∧ Aside0 (Kd.R (Kd.int .i64) 3 wc w.heap.size (fun k_ => some k_ ≠ (v528 : Value).ownBlock ∧ some k_ ≠ (v531 : Value).ownBlock ∧ some k_ ≠ ((.slice Ao26 t533.length co26) : Value).ownBlock ∧ some k_ ≠ ((.slice Ao29 t536.length co29) : Value).ownBlock) (.slice Ao22 t520.length co22) t520) ∧ Aside0 (Kd.R (Kd.int .i64) 3 wc w.heap.size (fun k_ => some k_ ≠ ((.slice Ao22 t520.length co22) : Value).ownBlock ∧ some k_ ≠ (v531 : Value).ownBlock ∧ some k_ ≠ ((.slice Ao26 t533.length co26) : Value).ownBlock ∧ some k_ ≠ ((.slice Ao29 t536.length co29) : Value).ownBlock) v528 t527) ∧ Aside0 (Kd.R (Kd.int .i64) 3 wc w.heap.size (fun k_ => some k_ ≠ ((.slice Ao22 t520.length co22) : Value).ownBlock ∧ some k_ ≠ (v528 : Value).ownBlock ∧ some k_ ≠ ((.slice Ao26 t533.length co26) : Value).ownBlock ∧ some k_ ≠ ((.slice Ao29 t536.length co29) : Value).ownBlock) v531 t530) ∧ Aside0 (Kd.S k34 34 wc w.heap.size (fun _ => True) (.slice (some ad526) t516.length co14) t516) ∧ Aside0 (Kd.R (Kd.int .i64) 3 wc w.heap.size (fun k_ => some k_ ≠ ((.slice Ao22 t520.length co22) : Value).ownBlock ∧ some k_ ≠ (v528 : Value).ownBlock ∧ some k_ ≠ (v531 : Value).ownBlock ∧ some k_ ≠ ((.slice Ao29 t536.length co29) : Value).ownBlock) (.slice Ao26 t533.length co26) t533) ∧ Aside0 (Kd.R (Kd.int .i64) 3 wc w.heap.size (fun k_ => some k_ ≠ ((.slice Ao22 t520.length co22) : Value).ownBlock ∧ some k_ ≠ (v528 : Value).ownBlock ∧ some k_ ≠ (v531 : Value).ownBlock ∧ some k_ ≠ ((.slice Ao26 t533.length co26) : Value).ownBlock) (.slice Ao29 t536.length co29) t536) ∧ Aside0 (wc.heap[gb519]? = some (.cells #[(.slice (some ad526) t516.length co14)] 26 (0, 0))) ∧ Aside0 (wc.heap[gb542]? = some (.cells #[(.slice Ao26 t533.length co26), (.slice Ao29 t536.length co29), .int .i64 t539, .int .i64 t540] 37 (0, 0))) ∧ Aside0 (Below w.heap.size w wc))
      case first =>
        have H := HC11.out
        clear HC11
        by_cases c31 : t541 = true
        · subst c31
          have H1 : (laws_FnWrites.j0 k t520 t527 t530 ((t533.length : Int) != 8) t533 t536 t539 t540) = some r := by rw [if_pos rfl] at H; exact H
          clear H
          have H := H1
          clear H1
          have H' := Aside0.mk H
          clear H
          have hnb32 := NB542_519.out
          have hnc32 := NB519_542.out
          have hcz33_0 : w30.cell? ⟨gb542, 0, none⟩ = some (.slice Ao26 t533.length co26) := (blk_cell BK542.out 0).trans rfl
          have hcz33_1 : w30.cell? ⟨gb542, 1, none⟩ = some (.slice Ao29 t536.length co29) := (blk_cell BK542.out 1).trans rfl
          have hcz33_2 : w30.cell? ⟨gb542, 2, none⟩ = some (.int .i64 t539) := (blk_cell BK542.out 2).trans rfl
          have hcz33_3 : w30.cell? ⟨gb542, 3, none⟩ = some (.int .i64 t540) := (blk_cell BK542.out 3).trans rfl
          have hfz33_0 := blk_frozen BK542.out 0
          have hfz33_1 := blk_frozen BK542.out 1
          have hfz33_2 := blk_frozen BK542.out 2
          have hfz33_3 := blk_frozen BK542.out 3
          go_wp2
          go_meet
          case rel => exact ⟨_, (((t533.length : Int) != 8)), z13_17, H', ⟨by first | omega | exact Nat.le_refl _⟩, ⟨by (with_reducible repeat (first | apply Kd.R_alloc | apply Kd.R_drewN | apply Kd.R_drew)); exact Kd.R_mono HO522.out (fun _ hk => ⟨hk.2.1, ⟨hk.2.2.1, ⟨hk.2.2.2.1, hk.2.2.2.2⟩⟩⟩)⟩, ⟨by (with_reducible repeat (first | apply Kd.R_alloc | apply Kd.R_drewN | apply Kd.R_drew)); exact Kd.R_mono HO529.out (fun _ hk => ⟨hk.1, ⟨hk.2.2.1, ⟨hk.2.2.2.1, hk.2.2.2.2⟩⟩⟩)⟩, ⟨by (with_reducible repeat (first | apply Kd.R_alloc | apply Kd.R_drewN | apply Kd.R_drew)); exact Kd.R_mono HO532.out (fun _ hk => ⟨hk.1, ⟨hk.2.2.1, ⟨hk.2.2.2.1, hk.2.2.2.2⟩⟩⟩)⟩, ⟨by (with_reducible repeat (first | apply Kd.S_alloc | apply Kd.S_drewN | apply Kd.S_drew)); exact HO518.out⟩, ⟨by (with_reducible repeat (first | apply Kd.R_alloc | apply Kd.R_drewN | apply Kd.R_drew)); exact Kd.R_mono HO535.out (fun _ hk => ⟨hk.1, ⟨hk.2.2.1, ⟨hk.2.2.2.1, hk.2.2.2.2⟩⟩⟩)⟩, ⟨by (with_reducible repeat (first | apply Kd.R_alloc | apply Kd.R_drewN | apply Kd.R_drew)); exact Kd.R_mono HO538.out (fun _ hk => ⟨hk.1, ⟨hk.2.2.1, ⟨hk.2.2.2.1, hk.2.2.2.2⟩⟩⟩)⟩, ⟨by (with_reducible repeat (first | refine blk_drewN ?_ _ | refine blk_drew ?_ | refine blk_alloc ?_ _)); exact BK519.out⟩, ⟨by (with_reducible repeat (first | refine blk_drewN ?_ _ | refine blk_drew ?_ | refine blk_alloc ?_ _)); exact BK542.out⟩, ⟨by repeat (first | (with_reducible first | exact HB.out | apply below_alloc | apply pw_below_drewN | apply below_drew1 | refine below_set ?_ GE519.out | refine below_set ?_ GE542.out) | exact HB.out)⟩⟩
        · replace c31 := Bool.eq_false_iff.mpr c31
          subst c31
          have H1 : (laws_FnWrites.j0 k t520 t527 t530 true t533 t536 t539 t540) = some r := by rw [if_neg (show ¬ (false = true) by decide)] at H; exact H
          clear H
          have H := H1
          clear H1
          have H' := Aside0.mk H
          clear H
          go_wp2
          go_meet
          case rel => exact ⟨_, (true), z13_17, H', ⟨by first | omega | exact Nat.le_refl _⟩, ⟨by (with_reducible repeat (first | apply Kd.R_alloc | apply Kd.R_drewN | apply Kd.R_drew)); exact Kd.R_mono HO522.out (fun _ hk => ⟨hk.2.1, ⟨hk.2.2.1, ⟨hk.2.2.2.1, hk.2.2.2.2⟩⟩⟩)⟩, ⟨by (with_reducible repeat (first | apply Kd.R_alloc | apply Kd.R_drewN | apply Kd.R_drew)); exact Kd.R_mono HO529.out (fun _ hk => ⟨hk.1, ⟨hk.2.2.1, ⟨hk.2.2.2.1, hk.2.2.2.2⟩⟩⟩)⟩, ⟨by (with_reducible repeat (first | apply Kd.R_alloc | apply Kd.R_drewN | apply Kd.R_drew)); exact Kd.R_mono HO532.out (fun _ hk => ⟨hk.1, ⟨hk.2.2.1, ⟨hk.2.2.2.1, hk.2.2.2.2⟩⟩⟩)⟩, ⟨by (with_reducible repeat (first | apply Kd.S_alloc | apply Kd.S_drewN | apply Kd.S_drew)); exact HO518.out⟩, ⟨by (with_reducible repeat (first | apply Kd.R_alloc | apply Kd.R_drewN | apply Kd.R_drew)); exact Kd.R_mono HO535.out (fun _ hk => ⟨hk.1, ⟨hk.2.2.1, ⟨hk.2.2.2.1, hk.2.2.2.2⟩⟩⟩)⟩, ⟨by (with_reducible repeat (first | apply Kd.R_alloc | apply Kd.R_drewN | apply Kd.R_drew)); exact Kd.R_mono HO538.out (fun _ hk => ⟨hk.1, ⟨hk.2.2.1, ⟨hk.2.2.2.1, hk.2.2.2.2⟩⟩⟩)⟩, ⟨by (with_reducible repeat (first | refine blk_drewN ?_ _ | refine blk_drew ?_ | refine blk_alloc ?_ _)); exact BK519.out⟩, ⟨by (with_reducible repeat (first | refine blk_drewN ?_ _ | refine blk_drew ?_ | refine blk_alloc ?_ _)); exact BK542.out⟩, ⟨by repeat (first | (with_reducible first | exact HB.out | apply below_alloc | apply pw_below_drewN | apply below_drew1 | refine below_set ?_ GE519.out | refine below_set ?_ GE542.out) | exact HB.out)⟩⟩
      case rest =>
        clear HC11
        (try clear c3); (try clear c7); (try clear c7b0); (try clear c7b1); (try clear hcz15_0); (try clear hcz18_0); (try clear hcz21_0); (try clear hcz28_0); (try clear hcz28_1); (try clear hcz28_2); (try clear hcz28_3); (try clear hfz15_0); (try clear hfz18_0); (try clear hfz21_0); (try clear hfz28_0); (try clear hfz28_1); (try clear hfz28_2); (try clear hfz28_3); (try clear hx526_0); (try clear hx526_1); (try clear hx526_2); (try clear hx526_3); (try clear p526); (try clear q526)
        obtain ⟨kq, x43_10, rfl, HA, HJ10, HO_4, HO_7, HO_8, HO_520000, HO_543000, HO_543001, BK519, BK542, HB⟩ := hcut
        cases kq with
        | zero => exact absurd HA.out (by simp [laws_FnWrites.j0])
        | succ kj10 =>
          have H := HA.out
          clear HA
          simp only [laws_FnWrites.j0] at H
          by_cases c34 : x43_10 = true
          · subst c34
            have H1 : (some false) = some r := by rw [if_pos rfl] at H; exact H
            clear H
            have H := H1
            clear H1
            obtain rfl := Option.some.inj H
            go_wp2
            go_ret
            exact ⟨by first | rfl | (simp [errW_none, errW_some] <;> rfl) | (simp [*, errW_none, errW_some] <;> rfl) | (simp [*, errW_none, errW_some, i64_w]; done), by repeat (first | (with_reducible first | exact HB.out | apply below_alloc | apply pw_below_drewN | apply below_drew1 | refine below_set ?_ GE519.out | refine below_set ?_ GE542.out) | exact HB.out)⟩
          · replace c34 := Bool.eq_false_iff.mpr c34
            subst c34
            have H1 : (laws_FnWrites.l0 kj10 t520 t527 t530 0 t533 t536 t539 t540) = some r := by rw [if_neg (show ¬ (false = true) by decide)] at H; exact H
            clear H
            have H := H1
            clear H1
            have H' := Aside0.mk H
            clear H
            go_wp2
            go_loopg [11] kj10 (fun kq v11 w' => ∃ (x11_2 : Int), v11 = .int .i64 x11_2 ∧ Aside0 (laws_FnWrites.l0 kq t520 t527 t530 x11_2 t533 t536 t539 t540 = some r) ∧ Aside0 (kq ≤ kj10) ∧ Aside0 (Kd.R (Kd.int .i64) 3 w' w.heap.size (fun k_ => some k_ ≠ (v528 : Value).ownBlock ∧ some k_ ≠ (v531 : Value).ownBlock ∧ some k_ ≠ ((.slice Ao26 t533.length co26) : Value).ownBlock ∧ some k_ ≠ ((.slice Ao29 t536.length co29) : Value).ownBlock) (.slice Ao22 t520.length co22) t520) ∧ Aside0 (Kd.R (Kd.int .i64) 3 w' w.heap.size (fun k_ => some k_ ≠ ((.slice Ao22 t520.length co22) : Value).ownBlock ∧ some k_ ≠ (v531 : Value).ownBlock ∧ some k_ ≠ ((.slice Ao26 t533.length co26) : Value).ownBlock ∧ some k_ ≠ ((.slice Ao29 t536.length co29) : Value).ownBlock) v528 t527) ∧ Aside0 (Kd.R (Kd.int .i64) 3 w' w.heap.size (fun k_ => some k_ ≠ ((.slice Ao22 t520.length co22) : Value).ownBlock ∧ some k_ ≠ (v528 : Value).ownBlock ∧ some k_ ≠ ((.slice Ao26 t533.length co26) : Value).ownBlock ∧ some k_ ≠ ((.slice Ao29 t536.length co29) : Value).ownBlock) v531 t530) ∧ Aside0 (Kd.S k34 34 w' w.heap.size (fun _ => True) (.slice (some ad526) t516.length co14) t516) ∧ Aside0 (Kd.R (Kd.int .i64) 3 w' w.heap.size (fun k_ => some k_ ≠ ((.slice Ao22 t520.length co22) : Value).ownBlock ∧ some k_ ≠ (v528 : Value).ownBlock ∧ some k_ ≠ (v531 : Value).ownBlock ∧ some k_ ≠ ((.slice Ao29 t536.length co29) : Value).ownBlock) (.slice Ao26 t533.length co26) t533) ∧ Aside0 (Kd.R (Kd.int .i64) 3 w' w.heap.size (fun k_ => some k_ ≠ ((.slice Ao22 t520.length co22) : Value).ownBlock ∧ some k_ ≠ (v528 : Value).ownBlock ∧ some k_ ≠ (v531 : Value).ownBlock ∧ some k_ ≠ ((.slice Ao26 t533.length co26) : Value).ownBlock) (.slice Ao29 t536.length co29) t536) ∧ Aside0 (w'.heap[gb519]? = some (.cells #[(.slice (some ad526) t516.length co14)] 26 (0, 0))) ∧ Aside0 (w'.heap[gb542]? = some (.cells #[(.slice Ao26 t533.length co26), (.slice Ao29 t536.length co29), .int .i64 t539, .int .i64 t540] 37 (0, 0))) ∧ Aside0 (Below w.heap.size w w'))
            case atStart => exact ⟨(0), z13_17, H', ⟨Nat.le_refl _⟩, ⟨by (with_reducible repeat (first | apply Kd.R_alloc | apply Kd.R_drewN | apply Kd.R_drew)); exact HO_4.out⟩, ⟨by (with_reducible repeat (first | apply Kd.R_alloc | apply Kd.R_drewN | apply Kd.R_drew)); exact HO_7.out⟩, ⟨by (with_reducible repeat (first | apply Kd.R_alloc | apply Kd.R_drewN | apply Kd.R_drew)); exact HO_8.out⟩, ⟨by (with_reducible repeat (first | apply Kd.S_alloc | apply Kd.S_drewN | apply Kd.S_drew)); exact HO_520000.out⟩, ⟨by (with_reducible repeat (first | apply Kd.R_alloc | apply Kd.R_drewN | apply Kd.R_drew)); exact HO_543000.out⟩, ⟨by (with_reducible repeat (first | apply Kd.R_alloc | apply Kd.R_drewN | apply Kd.R_drew)); exact HO_543001.out⟩, ⟨by (with_reducible repeat (first | refine blk_drewN ?_ _ | refine blk_drew ?_ | refine blk_alloc ?_ _)); exact BK519.out⟩, ⟨by (with_reducible repeat (first | refine blk_drewN ?_ _ | refine blk_drew ?_ | refine blk_alloc ?_ _)); exact BK542.out⟩, ⟨by repeat (first | (with_reducible first | exact HB.out | apply below_alloc | apply pw_below_drewN | apply below_drew1 | refine below_set ?_ GE519.out | refine below_set ?_ GE542.out) | exact HB.out)⟩⟩
            case round =>
              clear H'
              (try clear c3); (try clear c7); (try clear c7b0); (try clear c7b1); (try clear c34); (try clear hcz15_0); (try clear hcz18_0); (try clear hcz21_0); (try clear hcz28_0); (try clear hcz28_1); (try clear hcz28_2); (try clear hcz28_3); (try clear hfz15_0); (try clear hfz18_0); (try clear hfz21_0); (try clear hfz28_0); (try clear hfz28_1); (try clear hfz28_2); (try clear hfz28_3); (try clear hx526_0); (try clear hx526_1); (try clear hx526_2); (try clear hx526_3); (try clear p526); (try clear q526)
              obtain ⟨x11_2, rfl, HA, HK2, HO_4, HO_7, HO_8, HO_520000, HO_543000, HO_543001, BK519, BK542, HB⟩ := hrel
              cases gk with
              | zero => exact absurd HA.out (by simp [laws_FnWrites.l0])
              | succ k2 =>
                have H := HA.out
                clear HA
                simp only [laws_FnWrites.l0] at H
                by_cases c35 : x11_2 < 8
                · rw [if_pos c35] at H
                  have c35b0 : decide (x11_2 < 8) = true := decide_eq_true c35
                  clear c35
                  replace H := Option.bind_eq_some_iff.mp H
                  obtain ⟨t543, A360, H⟩ := H
                  replace H : (if t543 = true then ((laws_has.f k2 t530 x11_2).bind fun t544 => (if t544 = true then ((laws_has.f k2 t527 x11_2).bind fun t545 => (if t545 = true then ((impl_HasVar.f k2 t527 x11_2).bind fun t546 => ((laws_has.f k2 t527 x11_2).bind fun t547 => (if (t546 != t547) = true then (some false) else (laws_FnWrites.l0 k2 t520 t527 t530 (wrap64 (x11_2 + 1)) t533 t536 t539 t540)))) else (some false))) else ((impl_HasVar.f k2 t527 x11_2).bind fun t548 => ((laws_has.f k2 t527 x11_2).bind fun t549 => (if (t548 != t549) = true then (some false) else (laws_FnWrites.l0 k2 t520 t527 t530 (wrap64 (x11_2 + 1)) t533 t536 t539 t540)))))) else (if 0 ≤ x11_2 then (if x11_2 < (t533.length : Int) then (if x11_2 < (t520.length : Int) then (if (rd t533 x11_2) = (rd t520 x11_2) then ((laws_has.f k2 t530 x11_2).bind fun t552 => (if t552 = true then ((laws_has.f k2 t527 x11_2).bind fun t553 => (if t553 = true then ((impl_HasVar.f k2 t527 x11_2).bind fun t554 => ((laws_has.f k2 t527 x11_2).bind fun t555 => (if (t554 != t555) = true then (some false) else (laws_FnWrites.l0 k2 t520 t527 t530 (wrap64 (x11_2 + 1)) t533 t536 t539 t540)))) else (some false))) else ((impl_HasVar.f k2 t527 x11_2).bind fun t556 => ((laws_has.f k2 t527 x11_2).bind fun t557 => (if (t556 != t557) = true then (some false) else (laws_FnWrites.l0 k2 t520 t527 t530 (wrap64 (x11_2 + 1)) t533 t536 t539 t540)))))) else (some false)) else (none)) else (none)) else (none))) = some r := H
                  have A36 := Aside0.mk A360
                  clear A360
                  by_cases c37 : t543 = true
                  · subst c37
                    have H1 : ((laws_has.f k2 t530 x11_2).bind fun t544 => (if t544 = true then ((laws_has.f k2 t527 x11_2).bind fun t545 => (if t545 = true then ((impl_HasVar.f k2 t527 x11_2).bind fun t546 => ((laws_has.f k2 t527 x11_2).bind fun t547 => (if (t546 != t547) = true then (some false) else (laws_FnWrites.l0 k2 t520 t527 t530 (wrap64 (x11_2 + 1)) t533 t536 t539 t540)))) else (some false))) else ((impl_HasVar.f k2 t527 x11_2).bind fun t548 => ((laws_has.f k2 t527 x11_2).bind fun t549 => (if (t548 != t549) = true then (some false) else (laws_FnWrites.l0 k2 t520 t527 t530 (wrap64 (x11_2 + 1)) t533 t536 t539 t540)))))) = some r := by rw [if_pos rfl] at H; exact H
                    clear H
                    have H := H1
                    clear H1
                    replace H := Option.bind_eq_some_iff.mp H
                    obtain ⟨t544, A380, H⟩ := H
                    replace H : (if t544 = true then ((laws_has.f k2 t527 x11_2).bind fun t545 => (if t545 = true then ((impl_HasVar.f k2 t527 x11_2).bind fun t546 => ((laws_has.f k2 t527 x11_2).bind fun t547 => (if (t546 != t547) = true then (some false) else (laws_FnWrites.l0 k2 t520 t527 t530 (wrap64 (x11_2 + 1)) t533 t536 t539 t540)))) else (some false))) else ((impl_HasVar.f k2 t527 x11_2).bind fun t548 => ((laws_has.f k2 t527 x11_2).bind fun t549 => (if (t548 != t549) = true then (some false) else (laws_FnWrites.l0 k2 t520 t527 t530 (wrap64 (x11_2 + 1)) t533 t536 t539 t540))))) = some r := H
                    have A38 := Aside0.mk A380
                    clear A380
                    by_cases c39 : t544 = true
                    · subst c39
                      have H1 : ((laws_has.f k2 t527 x11_2).bind fun t545 => (if t545 = true then ((impl_HasVar.f k2 t527 x11_2).bind fun t546 => ((laws_has.f k2 t527 x11_2).bind fun t547 => (if (t546 != t547) = true then (some false) else (laws_FnWrites.l0 k2 t520 t527 t530 (wrap64 (x11_2 + 1)) t533 t536 t539 t540)))) else (some false))) = some r := by rw [if_pos rfl] at H; exact H
                      clear H
                      have H := H1
                      clear H1
                      replace H := Option.bind_eq_some_iff.mp H
                      obtain ⟨t545, A400, H⟩ := H
                      replace H : (if t545 = true then ((impl_HasVar.f k2 t527 x11_2).bind fun t546 => ((laws_has.f k2 t527 x11_2).bind fun t547 => (if (t546 != t547) = true then (some false) else (laws_FnWrites.l0 k2 t520 t527 t530 (wrap64 (x11_2 + 1)) t533 t536 t539 t540)))) else (some false)) = some r := H
                      have A40 := Aside0.mk A400
                      clear A400
                      by_cases c41 : t545 = true
                      · subst c41
                        have H1 : ((impl_HasVar.f k2 t527 x11_2).bind fun t546 => ((laws_has.f k2 t527 x11_2).bind fun t547 => (if (t546 != t547) = true then (some false) else (laws_FnWrites.l0 k2 t520 t527 t530 (wrap64 (x11_2 + 1)) t533 t536 t539 t540)))) = some r := by rw [if_pos rfl] at H; exact H
                        clear H
                        have H := H1
                        clear H1
                        replace H := Option.bind_eq_some_iff.mp H
                        obtain ⟨t546, A420, H⟩ := H
                        replace H : ((laws_has.f k2 t527 x11_2).bind fun t547 => (if (t546 != t547) = true then (some false) else (laws_FnWrites.l0 k2 t520 t527 t530 (wrap64 (x11_2 + 1)) t533 t536 t539 t540))) = some r := H
                        have A42 := Aside0.mk A420
                        clear A420
                        replace H := Option.bind_eq_some_iff.mp H
                        obtain ⟨t547, A430, H⟩ := H
                        replace H : (if (t546 != t547) = true then (some false) else (laws_FnWrites.l0 k2 t520 t527 t530 (wrap64 (x11_2 + 1)) t533 t536 t539 t540)) = some r := H
                        have A43 := Aside0.mk A430
                        clear A430
                        by_cases c44 : (t546 != t547) = true
                        · rw [if_pos c44] at H
                          have c44b0 : (t546 != t547) = true := c44
                          (try (have c44b1 : decide (t546 = t547) = false := by simpa using c44))
                          (try (have c44b2 : (t546 == t547) = false := by simpa using c44))
                          (try (have c44b3 : ¬ (t546 = t547) := by simpa using c44))
                          clear c44
                          obtain rfl := Option.some.inj H
                          try go_wp2
                          have n0_ := Aside0.mk (Kd.R_drew HO_4.out)
                          have n1_ := Aside0.mk (Kd.R_drew HO_7.out)
                          have n2_ := Aside0.mk (Kd.R_drew HO_8.out)
                          have n3_ := Aside0.mk (Kd.S_drew HO_520000.out)
                          have n4_ := Aside0.mk (Kd.R_drew HO_543000.out)
                          have n5_ := Aside0.mk (Kd.R_drew HO_543001.out)
                          have n6_ := Aside0.mk (blk_drew BK519.out)
                          have n7_ := Aside0.mk (blk_drew BK542.out)
                          have n8_ := Aside0.mk (below_drew1 HB.out)
                          clear HO_4
                          clear HO_7
                          clear HO_8
                          clear HO_520000
                          clear HO_543000
                          clear HO_543001
                          clear BK519
                          clear BK542
                          clear HB
                          have HO_4 := n0_
                          have HO_7 := n1_
                          have HO_8 := n2_
                          have HO_520000 := n3_
                          have HO_543000 := n4_
                          have HO_543001 := n5_
                          have BK519 := n6_
                          have BK542 := n7_
                          have HB := n8_
                          clear n0_ n1_ n2_ n3_ n4_ n5_ n6_ n7_ n8_
                          obtain ⟨Ao46, co46, eo46⟩ := Kd.R_slice HO_7.out
                          (first | subst eo46 | (injection eo46 with f1_ f2_ f3_; have f4_ := f1_.symm; have f5_ := f3_.symm; clear f1_ f2_ f3_; subst f4_; subst f5_))
                          refine start_ (n := 36) (S := fun w' => True) (ds := []) b13_0 z13_2 rfl rfl trivial (fun hHeld => ?_); refine with_tabW laws_FnWrites.tab15 laws_FnWrites.bits15 (fun HT_ HW_ => ?_)
                          generalize wr.drew = w45 at HO_4 HO_7 HO_8 HO_520000 HO_543000 HO_543001 BK519 BK542 HB hHeld ⊢
                          refine pure_ (i := 0) (N := some 48) (v := ?_) (a' := ?_) b13_1 rfl rfl (any_of HT_.out z13_2) (fun _ _ _ h => h) (Or.inl ⟨by rfl, ?_⟩) ?_ ?_
                          rotate_left
                          · intro w'
                            go_simp
                            with_reducible rfl
                          rotate_left
                          · simp only [Act.put, List.setIfInBounds_toArray, List.set_cons_zero, List.set_cons_succ, i64_w, i32_w]
                            rfl
                          refine pure_ (i := 1) (N := some 49) (v := ?_) (a' := ?_) b13_2 rfl rfl (any_of HT_.out z13_2) (fun _ _ _ h => h) (Or.inl ⟨by rfl, ?_⟩) ?_ ?_
                          rotate_left
                          · intro w'
                            go_simp
                            with_reducible rfl
                          rotate_left
                          · simp only [Act.put, List.setIfInBounds_toArray, List.set_cons_zero, List.set_cons_succ, i64_w, i32_w]
                            rfl
                          refine one_ (i := 2) (N := some 50) b13_3 rfl rfl (one_of HT_.out z13_2) (by decide) (fun K hK => ?_)
                          refine goes_ Try.func46 z13_2 rfl #[.slice Ao46 t527.length co46, .int .i64 x11_2] (by rfl) rfl rfl z13_0 ?_
                          with_reducible refine (laws_has.calls k2 _ _ t527 x11_2 true _ ?side1 ?side2 A36.out).mono ?_
                          (case side1 => exact z13_1)
                          (case side2 => exact z13_10)
                          rintro e w' ⟨rfl, ⟨nd, rfl⟩⟩
                          refine ⟨_, rfl, ?_⟩
                          obtain ⟨Ao47, co47, eo47⟩ := Kd.R_slice HO_8.out
                          (first | subst eo47 | (injection eo47 with f1_ f2_ f3_; have f4_ := f1_.symm; have f5_ := f3_.symm; clear f1_ f2_ f3_; subst f4_; subst f5_))
                          refine hK.out _ _ trivial (fun hHeld => ?_)
                          clear hK K
                          refine norm_ (a' := ?_) ?_ ?_
                          rotate_left
                          · show Act.put _ (some 50) _ = _
                            simp only [Act.put, List.setIfInBounds_toArray, List.set_cons_zero, List.set_cons_succ, i64_w, i32_w]
                            rfl
                          refine pure_ (i := 3) (N := some 51) (v := ?_) (a' := ?_) b13_4 rfl rfl (any_of HT_.out z13_2) (fun _ _ _ h => h) (Or.inl ⟨by rfl, ?_⟩) ?_ ?_
                          rotate_left
                          · intro w'
                            go_simp
                            with_reducible rfl
                          rotate_left
                          · simp only [Act.put, List.setIfInBounds_toArray, List.set_cons_zero, List.set_cons_succ, i64_w, i32_w]
                            rfl
                          refine pure_ (i := 4) (N := some 52) (v := ?_) (a' := ?_) b13_5 rfl rfl (any_of HT_.out z13_2) (fun _ _ _ h => h) (Or.inl ⟨by rfl, ?_⟩) ?_ ?_
                          rotate_left
                          · intro w'
                            go_simp
                            with_reducible rfl
                          rotate_left
                          · simp only [Act.put, List.setIfInBounds_toArray, List.set_cons_zero, List.set_cons_succ, i64_w, i32_w]
                            rfl
                          refine pure_ (i := 5) (N := some 53) (v := undef) (a' := ?_) b13_6 rfl rfl (any_of HT_.out z13_2) (fun _ _ _ h => h) (Or.inr ⟨by rfl, rfl⟩) ?_ ?_
                          rotate_left
                          · simp only [Act.put, List.setIfInBounds_toArray, List.set_cons_zero, List.set_cons_succ, i64_w, i32_w]
                            rfl
                          refine pure_ (i := 6) (N := some 54) (v := undef) (a' := ?_) b13_7 rfl rfl (any_of HT_.out z13_2) (fun _ _ _ h => h) (Or.inr ⟨by rfl, rfl⟩) ?_ ?_
                          rotate_left
                          · simp only [Act.put, List.setIfInBounds_toArray, List.set_cons_zero, List.set_cons_succ, i64_w, i32_w]
                            rfl
                          refine pure_ (i := 7) (N := some 55) (v := undef) (a' := ?_) b13_8 rfl rfl (any_of HT_.out z13_2) (fun _ _ _ h => h) (Or.inr ⟨by rfl, rfl⟩) ?_ ?_
                          rotate_left
                          · simp only [Act.put, List.setIfInBounds_toArray, List.set_cons_zero, List.set_cons_succ, i64_w, i32_w]
                            rfl
                          refine pure_ (i := 8) (N := some 56) (v := undef) (a' := ?_) b13_9 rfl rfl (any_of HT_.out z13_2) (fun _ _ _ h => h) (Or.inr ⟨by rfl, rfl⟩) ?_ ?_
                          rotate_left
                          · simp only [Act.put, List.setIfInBounds_toArray, List.set_cons_zero, List.set_cons_succ, i64_w, i32_w]
                            rfl
                          refine pure_ (i := 9) (N := some 57) (v := undef) (a' := ?_) b13_10 rfl rfl (any_of HT_.out z13_2) (fun _ _ _ h => h) (Or.inr ⟨by rfl, rfl⟩) ?_ ?_
                          rotate_left
                          · simp only [Act.put, List.setIfInBounds_toArray, List.set_cons_zero, List.set_cons_succ, i64_w, i32_w]
                            rfl
                          refine pure_ (i := 10) (N := some 58) (v := undef) (a' := ?_) b13_11 rfl rfl (any_of HT_.out z13_2) (fun _ _ _ h => h) (Or.inr ⟨by rfl, rfl⟩) ?_ ?_
                          rotate_left
                          · simp only [Act.put, List.setIfInBounds_toArray, List.set_cons_zero, List.set_cons_succ, i64_w, i32_w]
                            rfl
                          refine pure_ (i := 11) (N := some 59) (v := undef) (a' := ?_) b13_12 rfl rfl (any_of HT_.out z13_2) (fun _ _ _ h => h) (Or.inr ⟨by rfl, rfl⟩) ?_ ?_
                          rotate_left
                          · simp only [Act.put, List.setIfInBounds_toArray, List.set_cons_zero, List.set_cons_succ, i64_w, i32_w]
                            rfl
                          refine pure_ (i := 12) (N := some 60) (v := undef) (a' := ?_) b13_13 rfl rfl (any_of HT_.out z13_2) (fun _ _ _ h => h) (Or.inr ⟨by rfl, rfl⟩) ?_ ?_
                          rotate_left
                          · simp only [Act.put, List.setIfInBounds_toArray, List.set_cons_zero, List.set_cons_succ, i64_w, i32_w]
                            rfl
                          refine pure_ (i := 13) (N := some 61) (v := undef) (a' := ?_) b13_14 rfl rfl (any_of HT_.out z13_2) (fun _ _ _ h => h) (Or.inr ⟨by rfl, rfl⟩) ?_ ?_
                          rotate_left
                          · simp only [Act.put, List.setIfInBounds_toArray, List.set_cons_zero, List.set_cons_succ, i64_w, i32_w]
                            rfl
                          refine pure_ (i := 14) (N := some 62) (v := undef) (a' := ?_) b13_15 rfl rfl (any_of HT_.out z13_2) (fun _ _ _ h => h) (Or.inr ⟨by rfl, rfl⟩) ?_ ?_
                          rotate_left
                          · simp only [Act.put, List.setIfInBounds_toArray, List.set_cons_zero, List.set_cons_succ, i64_w, i32_w]
                            rfl
                          refine pure_ (i := 15) (N := some 63) (v := ?_) (a' := ?_) b13_16 rfl rfl (any_of HT_.out z13_2) (fun _ _ _ h => h) (Or.inl ⟨by rfl, ?_⟩) ?_ ?_
                          rotate_left
                          · intro w'
                            go_simp
                            with_reducible rfl
                          rotate_left
                          · simp only [Act.put, List.setIfInBounds_toArray, List.set_cons_zero, List.set_cons_succ, i64_w, i32_w]
                            rfl
                          refine pure_ (i := 16) (N := some 64) (v := ?_) (a' := ?_) b13_17 rfl rfl (any_of HT_.out z13_2) (fun _ _ _ h => h) (Or.inl ⟨by rfl, ?_⟩) ?_ ?_
                          rotate_left
                          · intro w'
                            go_simp
                            with_reducible rfl
                          rotate_left
                          · simp only [Act.put, List.setIfInBounds_toArray, List.set_cons_zero, List.set_cons_succ, i64_w, i32_w]
                            rfl
                          refine pure_ (i := 17) (N := some 65) (v := ?_) (a' := ?_) b13_18 rfl rfl (any_of HT_.out z13_2) (fun _ _ _ h => h) (Or.inl ⟨by rfl, ?_⟩) ?_ ?_
                          rotate_left
                          · intro w'
                            go_simp
                            with_reducible rfl
                          rotate_left
                          · simp only [Act.put, List.setIfInBounds_toArray, List.set_cons_zero, List.set_cons_succ, i64_w, i32_w]
                            rfl
                          refine pure_ (i := 18) (N := some 66) (v := ?_) (a' := ?_) b13_19 rfl rfl (any_of HT_.out z13_2) (fun _ _ _ h => h) (Or.inl ⟨by rfl, ?_⟩) ?_ ?_
                          rotate_left
                          · intro w'
                            go_simp
                            with_reducible rfl
                          rotate_left
                          · simp only [Act.put, List.setIfInBounds_toArray, List.set_cons_zero, List.set_cons_succ, i64_w, i32_w]
                            rfl
                          refine one_ (i := 19) (N := some 67) b13_20 rfl rfl (one_of HT_.out z13_2) (by decide) (fun K hK => ?_)
                          refine goes_ Try.func46 z13_2 rfl #[.slice Ao47 t530.length co47, .int .i64 x11_2] (by rfl) rfl rfl z13_0 ?_
                          with_reducible refine (laws_has.calls k2 _ _ t530 x11_2 true _ ?side1 ?side2 A38.out).mono ?_
                          (case side1 => exact z13_4)
                          (case side2 => exact (Kd.R_reads' HO_8.out).2.1)
                          rintro e w' ⟨rfl, ⟨nd, rfl⟩⟩
                          refine ⟨_, rfl, ?_⟩
                          refine hK.out _ _ trivial (fun hHeld => ?_)
                          clear hK K
                          refine norm_ (a' := ?_) ?_ ?_
                          rotate_left
                          · show Act.put _ (some 67) _ = _
                            simp only [Act.put, List.setIfInBounds_toArray, List.set_cons_zero, List.set_cons_succ, i64_w, i32_w]
                            rfl
                          refine pure_ (i := 20) (N := some 68) (v := ?_) (a' := ?_) b13_21 rfl rfl (any_of HT_.out z13_2) (fun _ _ _ h => h) (Or.inl ⟨by rfl, ?_⟩) ?_ ?_
                          rotate_left
                          · intro w'
                            go_simp
                            with_reducible rfl
                          rotate_left
                          · simp only [Act.put, List.setIfInBounds_toArray, List.set_cons_zero, List.set_cons_succ, i64_w, i32_w]
                            rfl
                          refine pure_ (i := 21) (N := some 69) (v := ?_) (a' := ?_) b13_22 rfl rfl (any_of HT_.out z13_2) (fun _ _ _ h => h) (Or.inl ⟨by rfl, ?_⟩) ?_ ?_
                          rotate_left
                          · intro w'
                            go_simp
                            with_reducible rfl
                          rotate_left
                          · simp only [Act.put, List.setIfInBounds_toArray, List.set_cons_zero, List.set_cons_succ, i64_w, i32_w]
                            rfl
                          refine pure_ (i := 22) (N := some 70) (v := ?_) (a' := ?_) b13_23 rfl rfl (any_of HT_.out z13_2) (fun _ _ _ h => h) (Or.inl ⟨by rfl, ?_⟩) ?_ ?_
                          rotate_left
                          · intro w'
                            go_simp
                            with_reducible rfl
                          rotate_left
                          · simp only [Act.put, List.setIfInBounds_toArray, List.set_cons_zero, List.set_cons_succ, i64_w, i32_w]
                            rfl
                          refine one_ (i := 23) (N := some 71) b13_24 rfl rfl (one_of HT_.out z13_2) (by decide) (fun K hK => ?_)
                          refine goes_ Try.func46 z13_2 rfl #[.slice Ao46 t527.length co46, .int .i64 x11_2] (by rfl) rfl rfl z13_0 ?_
                          with_reducible refine (laws_has.calls k2 _ _ t527 x11_2 true _ ?side1 ?side2 A40.out).mono ?_
                          (case side1 => exact z13_1)
                          (case side2 => exact z13_10)
                          rintro e w' ⟨rfl, ⟨nd, rfl⟩⟩
                          refine ⟨_, rfl, ?_⟩
                          refine hK.out _ _ trivial (fun hHeld => ?_)
                          clear hK K
                          refine norm_ (a' := ?_) ?_ ?_
                          rotate_left
                          · show Act.put _ (some 71) _ = _
                            simp only [Act.put, List.setIfInBounds_toArray, List.set_cons_zero, List.set_cons_succ, i64_w, i32_w]
                            rfl
                          refine pure_ (i := 24) (N := some 72) (v := ?_) (a' := ?_) b13_25 rfl rfl (any_of HT_.out z13_2) (fun _ _ _ h => h) (Or.inl ⟨by rfl, ?_⟩) ?_ ?_
                          rotate_left
                          · intro w'
                            go_simp
                            with_reducible rfl
                          rotate_left
                          · simp only [Act.put, List.setIfInBounds_toArray, List.set_cons_zero, List.set_cons_succ, i64_w, i32_w]
                            rfl
                          refine pure_ (i := 25) (N := some 73) (v := ?_) (a' := ?_) b13_26 rfl rfl (any_of HT_.out z13_2) (fun _ _ _ h => h) (Or.inl ⟨by rfl, ?_⟩) ?_ ?_
                          rotate_left
                          · intro w'
                            go_simp
                            with_reducible rfl
                          rotate_left
                          · simp only [Act.put, List.setIfInBounds_toArray, List.set_cons_zero, List.set_cons_succ, i64_w, i32_w]
                            rfl
                          refine pure_ (i := 26) (N := some 74) (v := ?_) (a' := ?_) b13_27 rfl rfl (any_of HT_.out z13_2) (fun _ _ _ h => h) (Or.inl ⟨by rfl, ?_⟩) ?_ ?_
                          rotate_left
                          · intro w'
                            go_simp
                            with_reducible rfl
                          rotate_left
                          · simp only [Act.put, List.setIfInBounds_toArray, List.set_cons_zero, List.set_cons_succ, i64_w, i32_w]
                            rfl
                          refine pure_ (i := 27) (N := some 75) (v := ?_) (a' := ?_) b13_28 rfl rfl (any_of HT_.out z13_2) (fun _ _ _ h => h) (Or.inl ⟨by rfl, ?_⟩) ?_ ?_
                          rotate_left
                          · intro w'
                            go_simp
                            with_reducible rfl
                          rotate_left
                          · simp only [Act.put, List.setIfInBounds_toArray, List.set_cons_zero, List.set_cons_succ, i64_w, i32_w]
                            rfl
                          refine pure_ (i := 28) (N := some 76) (v := ?_) (a' := ?_) b13_29 rfl rfl (any_of HT_.out z13_2) (fun _ _ _ h => h) (Or.inl ⟨by rfl, ?_⟩) ?_ ?_
                          rotate_left
                          · intro w'
                            go_simp
                            with_reducible rfl
                          rotate_left
                          · simp only [Act.put, List.setIfInBounds_toArray, List.set_cons_zero, List.set_cons_succ, i64_w, i32_w]
                            rfl
                          refine pure_ (i := 29) (N := some 77) (v := ?_) (a' := ?_) b13_30 rfl rfl (any_of HT_.out z13_2) (fun _ _ _ h => h) (Or.inl ⟨by rfl, ?_⟩) ?_ ?_
                          rotate_left
                          · intro w'
                            go_simp
                            with_reducible rfl
                          rotate_left
                          · simp only [Act.put, List.setIfInBounds_toArray, List.set_cons_zero, List.set_cons_succ, i64_w, i32_w]
                            rfl
                          refine pure_ (i := 31) (N := some 79) (v := ?_) (a' := ?_) b13_31 rfl rfl (any_of HT_.out z13_2) (fun _ _ _ h => h) (Or.inl ⟨by rfl, ?_⟩) ?_ ?_
                          rotate_left
                          · intro w'
                            go_simp
                            with_reducible rfl
                          rotate_left
                          · simp only [Act.put, List.setIfInBounds_toArray, List.set_cons_zero, List.set_cons_succ, i64_w, i32_w]
                            rfl
                          refine pure_ (i := 32) (N := some 80) (v := ?_) (a' := ?_) b13_32 rfl rfl (any_of HT_.out z13_2) (fun _ _ _ h => h) (Or.inl ⟨by rfl, ?_⟩) ?_ ?_
                          rotate_left
                          · intro w'
                            go_simp
                            with_reducible rfl
                          rotate_left
                          · simp only [Act.put, List.setIfInBounds_toArray, List.set_cons_zero, List.set_cons_succ, i64_w, i32_w]
                            rfl
                          refine one_ (i := 30) (N := some 78) b13_33 rfl rfl (one_of HT_.out z13_2) (by decide) (fun K hK => ?_)
                          refine goes_ Try.func47 z13_2 rfl #[.slice Ao46 t527.length co46, .int .i64 x11_2] (by rfl) rfl rfl z13_0 ?_
                          with_reducible refine (impl_HasVar.calls k2 _ _ t527 x11_2 t546 _ ?side1 ?side2 A42.out).mono ?_
                          (case side1 => exact z13_1)
                          (case side2 => exact z13_10)
                          rintro e w' ⟨rfl, ⟨nd, rfl⟩⟩
                          refine ⟨_, rfl, ?_⟩
                          refine hK.out _ _ trivial (fun hHeld => ?_)
                          clear hK K
                          refine norm_ (a' := ?_) ?_ ?_
                          rotate_left
                          · show Act.put _ (some 78) _ = _
                            simp only [Act.put, List.setIfInBounds_toArray, List.set_cons_zero, List.set_cons_succ, i64_w, i32_w]
                            rfl
                          refine one_ (i := 33) (N := some 81) b13_34 rfl rfl (one_of HT_.out z13_2) (by decide) (fun K hK => ?_)
                          refine goes_ Try.func46 z13_2 rfl #[.slice Ao46 t527.length co46, .int .i64 x11_2] (by rfl) rfl rfl z13_0 ?_
                          with_reducible refine (laws_has.calls k2 _ _ t527 x11_2 t547 _ ?side1 ?side2 A43.out).mono ?_
                          (case side1 => exact z13_1)
                          (case side2 => exact z13_10)
                          rintro e w' ⟨rfl, ⟨nd, rfl⟩⟩
                          refine ⟨_, rfl, ?_⟩
                          refine hK.out _ _ trivial (fun hHeld => ?_)
                          clear hK K
                          refine norm_ (a' := ?_) ?_ ?_
                          rotate_left
                          · show Act.put _ (some 81) _ = _
                            simp only [Act.put, List.setIfInBounds_toArray, List.set_cons_zero, List.set_cons_succ, i64_w, i32_w]
                            rfl
                          refine pure_ (i := 34) (N := some 82) (v := ?_) (a' := ?_) b13_35 rfl rfl (any_of HT_.out z13_2) (fun _ _ _ h => h) (Or.inl ⟨by rfl, ?_⟩) ?_ ?_
                          rotate_left
                          · intro w'
                            go_simp
                            with_reducible rfl
                          rotate_left
                          · simp only [Act.put, List.setIfInBounds_toArray, List.set_cons_zero, List.set_cons_succ, i64_w, i32_w]
                            rfl
                          refine pure_ (i := 35) (N := some 83) (v := ?_) (a' := ?_) b13_36 rfl rfl (any_of HT_.out z13_2) (fun _ _ _ h => h) (Or.inl ⟨by rfl, ?_⟩) ?_ ?_
                          rotate_left
                          · intro w'
                            go_simp
                            with_reducible rfl
                          rotate_left
                          · simp only [Act.put, List.setIfInBounds_toArray, List.set_cons_zero, List.set_cons_succ, i64_w, i32_w]
                            rfl
                          refine done_ (done_of HT_.out z13_2) ?_
                          try go_wp2
                          go_ret
                          exact ⟨by first | rfl | (simp [errW_none, errW_some] <;> rfl) | (simp [*, errW_none, errW_some] <;> rfl) | (simp [*, errW_none, errW_some, i64_w]; done), by repeat (first | (with_reducible first | exact HB.out | apply below_alloc | apply pw_below_drewN | apply below_drew1 | refine below_set ?_ GE519.out | refine below_set ?_ GE542.out) | exact HB.out)⟩
                        · rw [if_neg c44] at H
                          have c44b0 : (t546 != t547) = false := by simpa using c44
                          (try (have c44b1 : decide (t546 = t547) = true := by simpa using c44))
                          (try (have c44b2 : (t546 == t547) = true := by simpa using c44))
                          clear c44
                          have H' := Aside0.mk H
                          clear H
                          try go_wp2
                          have n0_ := Aside0.mk (Kd.R_drew HO_4.out)
                          have n1_ := Aside0.mk (Kd.R_drew HO_7.out)
                          have n2_ := Aside0.mk (Kd.R_drew HO_8.out)
                          have n3_ := Aside0.mk (Kd.S_drew HO_520000.out)
                          have n4_ := Aside0.mk (Kd.R_drew HO_543000.out)
                          have n5_ := Aside0.mk (Kd.R_drew HO_543001.out)
                          have n6_ := Aside0.mk (blk_drew BK519.out)
                          have n7_ := Aside0.mk (blk_drew BK542.out)
                          have n8_ := Aside0.mk (below_drew1 HB.out)
                          clear HO_4
                          clear HO_7
                          clear HO_8
                          clear HO_520000
                          clear HO_543000
                          clear HO_543001
                          clear BK519
                          clear BK542
                          clear HB
                          have HO_4 := n0_
                          have HO_7 := n1_
                          have HO_8 := n2_
                          have HO_520000 := n3_
                          have HO_543000 := n4_
                          have HO_543001 := n5_
                          have BK519 := n6_
                          have BK542 := n7_
                          have HB := n8_
                          clear n0_ n1_ n2_ n3_ n4_ n5_ n6_ n7_ n8_
                          obtain ⟨Ao49, co49, eo49⟩ := Kd.R_slice HO_7.out
                          (first | subst eo49 | (injection eo49 with f1_ f2_ f3_; have f4_ := f1_.symm; have f5_ := f3_.symm; clear f1_ f2_ f3_; subst f4_; subst f5_))
                          refine start_ (n := 36) (S := fun w' => True) (ds := []) b13_0 z13_2 rfl rfl trivial (fun hHeld => ?_); refine with_tabW laws_FnWrites.tab15 laws_FnWrites.bits15 (fun HT_ HW_ => ?_)
                          generalize wr.drew = w48 at HO_4 HO_7 HO_8 HO_520000 HO_543000 HO_543001 BK519 BK542 HB hHeld ⊢
                          refine pure_ (i := 0) (N := some 48) (v := ?_) (a' := ?_) b13_1 rfl rfl (any_of HT_.out z13_2) (fun _ _ _ h => h) (Or.inl ⟨by rfl, ?_⟩) ?_ ?_
                          rotate_left
                          · intro w'
                            go_simp
                            with_reducible rfl
                          rotate_left
                          · simp only [Act.put, List.setIfInBounds_toArray, List.set_cons_zero, List.set_cons_succ, i64_w, i32_w]
                            rfl
                          refine pure_ (i := 1) (N := some 49) (v := ?_) (a' := ?_) b13_2 rfl rfl (any_of HT_.out z13_2) (fun _ _ _ h => h) (Or.inl ⟨by rfl, ?_⟩) ?_ ?_
                          rotate_left
                          · intro w'
                            go_simp
                            with_reducible rfl
                          rotate_left
                          · simp only [Act.put, List.setIfInBounds_toArray, List.set_cons_zero, List.set_cons_succ, i64_w, i32_w]
                            rfl
                          refine one_ (i := 2) (N := some 50) b13_3 rfl rfl (one_of HT_.out z13_2) (by decide) (fun K hK => ?_)
                          refine goes_ Try.func46 z13_2 rfl #[.slice Ao49 t527.length co49, .int .i64 x11_2] (by rfl) rfl rfl z13_0 ?_
                          with_reducible refine (laws_has.calls k2 _ _ t527 x11_2 true _ ?side1 ?side2 A36.out).mono ?_
                          (case side1 => exact z13_1)
                          (case side2 => exact z13_10)
                          rintro e w' ⟨rfl, ⟨nd, rfl⟩⟩
                          refine ⟨_, rfl, ?_⟩
                          obtain ⟨Ao50, co50, eo50⟩ := Kd.R_slice HO_8.out
                          (first | subst eo50 | (injection eo50 with f1_ f2_ f3_; have f4_ := f1_.symm; have f5_ := f3_.symm; clear f1_ f2_ f3_; subst f4_; subst f5_))
                          refine hK.out _ _ trivial (fun hHeld => ?_)
                          clear hK K
                          refine norm_ (a' := ?_) ?_ ?_
                          rotate_left
                          · show Act.put _ (some 50) _ = _
                            simp only [Act.put, List.setIfInBounds_toArray, List.set_cons_zero, List.set_cons_succ, i64_w, i32_w]
                            rfl
                          refine pure_ (i := 3) (N := some 51) (v := ?_) (a' := ?_) b13_4 rfl rfl (any_of HT_.out z13_2) (fun _ _ _ h => h) (Or.inl ⟨by rfl, ?_⟩) ?_ ?_
                          rotate_left
                          · intro w'
                            go_simp
                            with_reducible rfl
                          rotate_left
                          · simp only [Act.put, List.setIfInBounds_toArray, List.set_cons_zero, List.set_cons_succ, i64_w, i32_w]
                            rfl
                          refine pure_ (i := 4) (N := some 52) (v := ?_) (a' := ?_) b13_5 rfl rfl (any_of HT_.out z13_2) (fun _ _ _ h => h) (Or.inl ⟨by rfl, ?_⟩) ?_ ?_
                          rotate_left
                          · intro w'
                            go_simp
                            with_reducible rfl
                          rotate_left
                          · simp only [Act.put, List.setIfInBounds_toArray, List.set_cons_zero, List.set_cons_succ, i64_w, i32_w]
                            rfl
                          refine pure_ (i := 5) (N := some 53) (v := undef) (a' := ?_) b13_6 rfl rfl (any_of HT_.out z13_2) (fun _ _ _ h => h) (Or.inr ⟨by rfl, rfl⟩) ?_ ?_
                          rotate_left
                          · simp only [Act.put, List.setIfInBounds_toArray, List.set_cons_zero, List.set_cons_succ, i64_w, i32_w]
                            rfl
                          refine pure_ (i := 6) (N := some 54) (v := undef) (a' := ?_) b13_7 rfl rfl (any_of HT_.out z13_2) (fun _ _ _ h => h) (Or.inr ⟨by rfl, rfl⟩) ?_ ?_
                          rotate_left
                          · simp only [Act.put, List.setIfInBounds_toArray, List.set_cons_zero, List.set_cons_succ, i64_w, i32_w]
                            rfl
                          refine pure_ (i := 7) (N := some 55) (v := undef) (a' := ?_) b13_8 rfl rfl (any_of HT_.out z13_2) (fun _ _ _ h => h) (Or.inr ⟨by rfl, rfl⟩) ?_ ?_
                          rotate_left
                          · simp only [Act.put, List.setIfInBounds_toArray, List.set_cons_zero, List.set_cons_succ, i64_w, i32_w]
                            rfl
                          refine pure_ (i := 8) (N := some 56) (v := undef) (a' := ?_) b13_9 rfl rfl (any_of HT_.out z13_2) (fun _ _ _ h => h) (Or.inr ⟨by rfl, rfl⟩) ?_ ?_
                          rotate_left
                          · simp only [Act.put, List.setIfInBounds_toArray, List.set_cons_zero, List.set_cons_succ, i64_w, i32_w]
                            rfl
                          refine pure_ (i := 9) (N := some 57) (v := undef) (a' := ?_) b13_10 rfl rfl (any_of HT_.out z13_2) (fun _ _ _ h => h) (Or.inr ⟨by rfl, rfl⟩) ?_ ?_
                          rotate_left
                          · simp only [Act.put, List.setIfInBounds_toArray, List.set_cons_zero, List.set_cons_succ, i64_w, i32_w]
                            rfl
                          refine pure_ (i := 10) (N := some 58) (v := undef) (a' := ?_) b13_11 rfl rfl (any_of HT_.out z13_2) (fun _ _ _ h => h) (Or.inr ⟨by rfl, rfl⟩) ?_ ?_
                          rotate_left
                          · simp only [Act.put, List.setIfInBounds_toArray, List.set_cons_zero, List.set_cons_succ, i64_w, i32_w]
                            rfl
                          refine pure_ (i := 11) (N := some 59) (v := undef) (a' := ?_) b13_12 rfl rfl (any_of HT_.out z13_2) (fun _ _ _ h => h) (Or.inr ⟨by rfl, rfl⟩) ?_ ?_
                          rotate_left
                          · simp only [Act.put, List.setIfInBounds_toArray, List.set_cons_zero, List.set_cons_succ, i64_w, i32_w]
                            rfl
                          refine pure_ (i := 12) (N := some 60) (v := undef) (a' := ?_) b13_13 rfl rfl (any_of HT_.out z13_2) (fun _ _ _ h => h) (Or.inr ⟨by rfl, rfl⟩) ?_ ?_
                          rotate_left
                          · simp only [Act.put, List.setIfInBounds_toArray, List.set_cons_zero, List.set_cons_succ, i64_w, i32_w]
                            rfl
                          refine pure_ (i := 13) (N := some 61) (v := undef) (a' := ?_) b13_14 rfl rfl (any_of HT_.out z13_2) (fun _ _ _ h => h) (Or.inr ⟨by rfl, rfl⟩) ?_ ?_
                          rotate_left
                          · simp only [Act.put, List.setIfInBounds_toArray, List.set_cons_zero, List.set_cons_succ, i64_w, i32_w]
                            rfl
                          refine pure_ (i := 14) (N := some 62) (v := undef) (a' := ?_) b13_15 rfl rfl (any_of HT_.out z13_2) (fun _ _ _ h => h) (Or.inr ⟨by rfl, rfl⟩) ?_ ?_
                          rotate_left
                          · simp only [Act.put, List.setIfInBounds_toArray, List.set_cons_zero, List.set_cons_succ, i64_w, i32_w]
                            rfl
                          refine pure_ (i := 15) (N := some 63) (v := ?_) (a' := ?_) b13_16 rfl rfl (any_of HT_.out z13_2) (fun _ _ _ h => h) (Or.inl ⟨by rfl, ?_⟩) ?_ ?_
                          rotate_left
                          · intro w'
                            go_simp
                            with_reducible rfl
                          rotate_left
                          · simp only [Act.put, List.setIfInBounds_toArray, List.set_cons_zero, List.set_cons_succ, i64_w, i32_w]
                            rfl
                          refine pure_ (i := 16) (N := some 64) (v := ?_) (a' := ?_) b13_17 rfl rfl (any_of HT_.out z13_2) (fun _ _ _ h => h) (Or.inl ⟨by rfl, ?_⟩) ?_ ?_
                          rotate_left
                          · intro w'
                            go_simp
                            with_reducible rfl
                          rotate_left
                          · simp only [Act.put, List.setIfInBounds_toArray, List.set_cons_zero, List.set_cons_succ, i64_w, i32_w]
                            rfl
                          refine pure_ (i := 17) (N := some 65) (v := ?_) (a' := ?_) b13_18 rfl rfl (any_of HT_.out z13_2) (fun _ _ _ h => h) (Or.inl ⟨by rfl, ?_⟩) ?_ ?_
                          rotate_left
                          · intro w'
                            go_simp
                            with_reducible rfl
                          rotate_left
                          · simp only [Act.put, List.setIfInBounds_toArray, List.set_cons_zero, List.set_cons_succ, i64_w, i32_w]
                            rfl
                          refine pure_ (i := 18) (N := some 66) (v := ?_) (a' := ?_) b13_19 rfl rfl (any_of HT_.out z13_2) (fun _ _ _ h => h) (Or.inl ⟨by rfl, ?_⟩) ?_ ?_
                          rotate_left
                          · intro w'
                            go_simp
                            with_reducible rfl
                          rotate_left
                          · simp only [Act.put, List.setIfInBounds_toArray, List.set_cons_zero, List.set_cons_succ, i64_w, i32_w]
                            rfl
                          refine one_ (i := 19) (N := some 67) b13_20 rfl rfl (one_of HT_.out z13_2) (by decide) (fun K hK => ?_)
                          refine goes_ Try.func46 z13_2 rfl #[.slice Ao50 t530.length co50, .int .i64 x11_2] (by rfl) rfl rfl z13_0 ?_
                          with_reducible refine (laws_has.calls k2 _ _ t530 x11_2 true _ ?side1 ?side2 A38.out).mono ?_
                          (case side1 => exact z13_4)
                          (case side2 => exact (Kd.R_reads' HO_8.out).2.1)
                          rintro e w' ⟨rfl, ⟨nd, rfl⟩⟩
                          refine ⟨_, rfl, ?_⟩
                          refine hK.out _ _ trivial (fun hHeld => ?_)
                          clear hK K
                          refine norm_ (a' := ?_) ?_ ?_
                          rotate_left
                          · show Act.put _ (some 67) _ = _
                            simp only [Act.put, List.setIfInBounds_toArray, List.set_cons_zero, List.set_cons_succ, i64_w, i32_w]
                            rfl
                          refine pure_ (i := 20) (N := some 68) (v := ?_) (a' := ?_) b13_21 rfl rfl (any_of HT_.out z13_2) (fun _ _ _ h => h) (Or.inl ⟨by rfl, ?_⟩) ?_ ?_
                          rotate_left
                          · intro w'
                            go_simp
                            with_reducible rfl
                          rotate_left
                          · simp only [Act.put, List.setIfInBounds_toArray, List.set_cons_zero, List.set_cons_succ, i64_w, i32_w]
                            rfl
                          refine pure_ (i := 21) (N := some 69) (v := ?_) (a' := ?_) b13_22 rfl rfl (any_of HT_.out z13_2) (fun _ _ _ h => h) (Or.inl ⟨by rfl, ?_⟩) ?_ ?_
                          rotate_left
                          · intro w'
                            go_simp
                            with_reducible rfl
                          rotate_left
                          · simp only [Act.put, List.setIfInBounds_toArray, List.set_cons_zero, List.set_cons_succ, i64_w, i32_w]
                            rfl
                          refine pure_ (i := 22) (N := some 70) (v := ?_) (a' := ?_) b13_23 rfl rfl (any_of HT_.out z13_2) (fun _ _ _ h => h) (Or.inl ⟨by rfl, ?_⟩) ?_ ?_
                          rotate_left
                          · intro w'
                            go_simp
                            with_reducible rfl
                          rotate_left
                          · simp only [Act.put, List.setIfInBounds_toArray, List.set_cons_zero, List.set_cons_succ, i64_w, i32_w]
                            rfl
                          refine one_ (i := 23) (N := some 71) b13_24 rfl rfl (one_of HT_.out z13_2) (by decide) (fun K hK => ?_)
                          refine goes_ Try.func46 z13_2 rfl #[.slice Ao49 t527.length co49, .int .i64 x11_2] (by rfl) rfl rfl z13_0 ?_
                          with_reducible refine (laws_has.calls k2 _ _ t527 x11_2 true _ ?side1 ?side2 A40.out).mono ?_
                          (case side1 => exact z13_1)
                          (case side2 => exact z13_10)
                          rintro e w' ⟨rfl, ⟨nd, rfl⟩⟩
                          refine ⟨_, rfl, ?_⟩
                          refine hK.out _ _ trivial (fun hHeld => ?_)
                          clear hK K
                          refine norm_ (a' := ?_) ?_ ?_
                          rotate_left
                          · show Act.put _ (some 71) _ = _
                            simp only [Act.put, List.setIfInBounds_toArray, List.set_cons_zero, List.set_cons_succ, i64_w, i32_w]
                            rfl
                          refine pure_ (i := 24) (N := some 72) (v := ?_) (a' := ?_) b13_25 rfl rfl (any_of HT_.out z13_2) (fun _ _ _ h => h) (Or.inl ⟨by rfl, ?_⟩) ?_ ?_
                          rotate_left
                          · intro w'
                            go_simp
                            with_reducible rfl
                          rotate_left
                          · simp only [Act.put, List.setIfInBounds_toArray, List.set_cons_zero, List.set_cons_succ, i64_w, i32_w]
                            rfl
                          refine pure_ (i := 25) (N := some 73) (v := ?_) (a' := ?_) b13_26 rfl rfl (any_of HT_.out z13_2) (fun _ _ _ h => h) (Or.inl ⟨by rfl, ?_⟩) ?_ ?_
                          rotate_left
                          · intro w'
                            go_simp
                            with_reducible rfl
                          rotate_left
                          · simp only [Act.put, List.setIfInBounds_toArray, List.set_cons_zero, List.set_cons_succ, i64_w, i32_w]
                            rfl
                          refine pure_ (i := 26) (N := some 74) (v := ?_) (a' := ?_) b13_27 rfl rfl (any_of HT_.out z13_2) (fun _ _ _ h => h) (Or.inl ⟨by rfl, ?_⟩) ?_ ?_
                          rotate_left
                          · intro w'
                            go_simp
                            with_reducible rfl
                          rotate_left
                          · simp only [Act.put, List.setIfInBounds_toArray, List.set_cons_zero, List.set_cons_succ, i64_w, i32_w]
                            rfl
                          refine pure_ (i := 27) (N := some 75) (v := ?_) (a' := ?_) b13_28 rfl rfl (any_of HT_.out z13_2) (fun _ _ _ h => h) (Or.inl ⟨by rfl, ?_⟩) ?_ ?_
                          rotate_left
                          · intro w'
                            go_simp
                            with_reducible rfl
                          rotate_left
                          · simp only [Act.put, List.setIfInBounds_toArray, List.set_cons_zero, List.set_cons_succ, i64_w, i32_w]
                            rfl
                          refine pure_ (i := 28) (N := some 76) (v := ?_) (a' := ?_) b13_29 rfl rfl (any_of HT_.out z13_2) (fun _ _ _ h => h) (Or.inl ⟨by rfl, ?_⟩) ?_ ?_
                          rotate_left
                          · intro w'
                            go_simp
                            with_reducible rfl
                          rotate_left
                          · simp only [Act.put, List.setIfInBounds_toArray, List.set_cons_zero, List.set_cons_succ, i64_w, i32_w]
                            rfl
                          refine pure_ (i := 29) (N := some 77) (v := ?_) (a' := ?_) b13_30 rfl rfl (any_of HT_.out z13_2) (fun _ _ _ h => h) (Or.inl ⟨by rfl, ?_⟩) ?_ ?_
                          rotate_left
                          · intro w'
                            go_simp
                            with_reducible rfl
                          rotate_left
                          · simp only [Act.put, List.setIfInBounds_toArray, List.set_cons_zero, List.set_cons_succ, i64_w, i32_w]
                            rfl
                          refine pure_ (i := 31) (N := some 79) (v := ?_) (a' := ?_) b13_31 rfl rfl (any_of HT_.out z13_2) (fun _ _ _ h => h) (Or.inl ⟨by rfl, ?_⟩) ?_ ?_
                          rotate_left
                          · intro w'
                            go_simp
                            with_reducible rfl
                          rotate_left
                          · simp only [Act.put, List.setIfInBounds_toArray, List.set_cons_zero, List.set_cons_succ, i64_w, i32_w]
                            rfl
                          refine pure_ (i := 32) (N := some 80) (v := ?_) (a' := ?_) b13_32 rfl rfl (any_of HT_.out z13_2) (fun _ _ _ h => h) (Or.inl ⟨by rfl, ?_⟩) ?_ ?_
                          rotate_left
                          · intro w'
                            go_simp
                            with_reducible rfl
                          rotate_left
                          · simp only [Act.put, List.setIfInBounds_toArray, List.set_cons_zero, List.set_cons_succ, i64_w, i32_w]
                            rfl
                          refine one_ (i := 30) (N := some 78) b13_33 rfl rfl (one_of HT_.out z13_2) (by decide) (fun K hK => ?_)
                          refine goes_ Try.func47 z13_2 rfl #[.slice Ao49 t527.length co49, .int .i64 x11_2] (by rfl) rfl rfl z13_0 ?_
                          with_reducible refine (impl_HasVar.calls k2 _ _ t527 x11_2 t546 _ ?side1 ?side2 A42.out).mono ?_
                          (case side1 => exact z13_1)
                          (case side2 => exact z13_10)
                          rintro e w' ⟨rfl, ⟨nd, rfl⟩⟩
                          refine ⟨_, rfl, ?_⟩
                          refine hK.out _ _ trivial (fun hHeld => ?_)
                          clear hK K
                          refine norm_ (a' := ?_) ?_ ?_
                          rotate_left
                          · show Act.put _ (some 78) _ = _
                            simp only [Act.put, List.setIfInBounds_toArray, List.set_cons_zero, List.set_cons_succ, i64_w, i32_w]
                            rfl
                          refine one_ (i := 33) (N := some 81) b13_34 rfl rfl (one_of HT_.out z13_2) (by decide) (fun K hK => ?_)
                          refine goes_ Try.func46 z13_2 rfl #[.slice Ao49 t527.length co49, .int .i64 x11_2] (by rfl) rfl rfl z13_0 ?_
                          with_reducible refine (laws_has.calls k2 _ _ t527 x11_2 t547 _ ?side1 ?side2 A43.out).mono ?_
                          (case side1 => exact z13_1)
                          (case side2 => exact z13_10)
                          rintro e w' ⟨rfl, ⟨nd, rfl⟩⟩
                          refine ⟨_, rfl, ?_⟩
                          refine hK.out _ _ trivial (fun hHeld => ?_)
                          clear hK K
                          refine norm_ (a' := ?_) ?_ ?_
                          rotate_left
                          · show Act.put _ (some 81) _ = _
                            simp only [Act.put, List.setIfInBounds_toArray, List.set_cons_zero, List.set_cons_succ, i64_w, i32_w]
                            rfl
                          refine pure_ (i := 34) (N := some 82) (v := ?_) (a' := ?_) b13_35 rfl rfl (any_of HT_.out z13_2) (fun _ _ _ h => h) (Or.inl ⟨by rfl, ?_⟩) ?_ ?_
                          rotate_left
                          · intro w'
                            go_simp
                            with_reducible rfl
                          rotate_left
                          · simp only [Act.put, List.setIfInBounds_toArray, List.set_cons_zero, List.set_cons_succ, i64_w, i32_w]
                            rfl
                          refine pure_ (i := 35) (N := some 83) (v := ?_) (a' := ?_) b13_36 rfl rfl (any_of HT_.out z13_2) (fun _ _ _ h => h) (Or.inl ⟨by rfl, ?_⟩) ?_ ?_
                          rotate_left
                          · intro w'
                            go_simp
                            with_reducible rfl
                          rotate_left
                          · simp only [Act.put, List.setIfInBounds_toArray, List.set_cons_zero, List.set_cons_succ, i64_w, i32_w]
                            rfl
                          refine done_ (done_of HT_.out z13_2) ?_
                          try go_wp2
                          go_roundg k2
                          case measure => have := HJ10.out; have := HK2.out; omega
                          case rel => exact ⟨(wrap64 (x11_2 + 1)), z13_17, H', ⟨by have := HJ10.out; have := HK2.out; omega⟩, ⟨by (with_reducible repeat (first | apply Kd.R_alloc | apply Kd.R_drewN | apply Kd.R_drew)); exact HO_4.out⟩, ⟨by (with_reducible repeat (first | apply Kd.R_alloc | apply Kd.R_drewN | apply Kd.R_drew)); exact HO_7.out⟩, ⟨by (with_reducible repeat (first | apply Kd.R_alloc | apply Kd.R_drewN | apply Kd.R_drew)); exact HO_8.out⟩, ⟨by (with_reducible repeat (first | apply Kd.S_alloc | apply Kd.S_drewN | apply Kd.S_drew)); exact HO_520000.out⟩, ⟨by (with_reducible repeat (first | apply Kd.R_alloc | apply Kd.R_drewN | apply Kd.R_drew)); exact HO_543000.out⟩, ⟨by (with_reducible repeat (first | apply Kd.R_alloc | apply Kd.R_drewN | apply Kd.R_drew)); exact HO_543001.out⟩, ⟨by (with_reducible repeat (first | refine blk_drewN ?_ _ | refine blk_drew ?_ | refine blk_alloc ?_ _)); exact BK519.out⟩, ⟨by (with_reducible repeat (first | refine blk_drewN ?_ _ | refine blk_drew ?_ | refine blk_alloc ?_ _)); exact BK542.out⟩, ⟨by repeat (first | (with_reducible first | exact HB.out | apply below_alloc | apply pw_below_drewN | apply below_drew1 | refine below_set ?_ GE519.out | refine below_set ?_ GE542.out) | exact HB.out)⟩⟩
                      · replace c41 := Bool.eq_false_iff.mpr c41
                        subst c41
                        have H1 : (some false) = some r := by rw [if_neg (show ¬ (false = true) by decide)] at H; exact H
                        clear H
                        have H := H1
                        clear H1
                        exact absurd (A36.out.symm.trans A40.out) (by simp)
                    · replace c39 := Bool.eq_false_iff.mpr c39
                      subst c39
                      have H1 : ((impl_HasVar.f k2 t527 x11_2).bind fun t548 => ((laws_has.f k2 t527 x11_2).bind fun t549 => (if (t548 != t549) = true then (some false) else (laws_FnWrites.l0 k2 t520 t527 t530 (wrap64 (x11_2 + 1)) t533 t536 t539 t540)))) = some r := by rw [if_neg (show ¬ (false = true) by decide)] at H; exact H
                      clear H
                      have H := H1
                      clear H1
                      replace H := Option.bind_eq_some_iff.mp H
                      obtain ⟨t548, A510, H⟩ := H
                      replace H : ((laws_has.f k2 t527 x11_2).bind fun t549 => (if (t548 != t549) = true then (some false) else (laws_FnWrites.l0 k2 t520 t527 t530 (wrap64 (x11_2 + 1)) t533 t536 t539 t540))) = some r := H
                      have A51 := Aside0.mk A510
                      clear A510
                      replace H := Option.bind_eq_some_iff.mp H
                      obtain ⟨t549, A520, H⟩ := H
                      replace H : (if (t548 != t549) = true then (some false) else (laws_FnWrites.l0 k2 t520 t527 t530 (wrap64 (x11_2 + 1)) t533 t536 t539 t540)) = some r := H
                      have A52 := Aside0.mk A520
                      clear A520
                      by_cases c53 : (t548 != t549) = true
                      · rw [if_pos c53] at H
                        have c53b0 : (t548 != t549) = true := c53
                        (try (have c53b1 : decide (t548 = t549) = false := by simpa using c53))
                        (try (have c53b2 : (t548 == t549) = false := by simpa using c53))
                        (try (have c53b3 : ¬ (t548 = t549) := by simpa using c53))
                        clear c53
                        obtain rfl := Option.some.inj H
                        try go_wp2
                        have n0_ := Aside0.mk (Kd.R_drew HO_4.out)
                        have n1_ := Aside0.mk (Kd.R_drew HO_7.out)
                        have n2_ := Aside0.mk (Kd.R_drew HO_8.out)
                        have n3_ := Aside0.mk (Kd.S_drew HO_520000.out)
                        have n4_ := Aside0.mk (Kd.R_drew HO_543000.out)
                        have n5_ := Aside0.mk (Kd.R_drew HO_543001.out)
                        have n6_ := Aside0.mk (blk_drew BK519.out)
                        have n7_ := Aside0.mk (blk_drew BK542.out)
                        have n8_ := Aside0.mk (below_drew1 HB.out)
                        clear HO_4
                        clear HO_7
                        clear HO_8
                        clear HO_520000
                        clear HO_543000
                        clear HO_543001
                        clear BK519
                        clear BK542
                        clear HB
                        have HO_4 := n0_
                        have HO_7 := n1_
                        have HO_8 := n2_
                        have HO_520000 := n3_
                        have HO_543000 := n4_
                        have HO_543001 := n5_
                        have BK519 := n6_
                        have BK542 := n7_
                        have HB := n8_
                        clear n0_ n1_ n2_ n3_ n4_ n5_ n6_ n7_ n8_
                        obtain ⟨Ao55, co55, eo55⟩ := Kd.R_slice HO_7.out
                        (first | subst eo55 | (injection eo55 with f1_ f2_ f3_; have f4_ := f1_.symm; have f5_ := f3_.symm; clear f1_ f2_ f3_; subst f4_; subst f5_))
                        refine start_ (n := 36) (S := fun w' => True) (ds := []) b13_0 z13_2 rfl rfl trivial (fun hHeld => ?_); refine with_tabW laws_FnWrites.tab15 laws_FnWrites.bits15 (fun HT_ HW_ => ?_)
                        generalize wr.drew = w54 at HO_4 HO_7 HO_8 HO_520000 HO_543000 HO_543001 BK519 BK542 HB hHeld ⊢
                        refine pure_ (i := 0) (N := some 48) (v := ?_) (a' := ?_) b13_1 rfl rfl (any_of HT_.out z13_2) (fun _ _ _ h => h) (Or.inl ⟨by rfl, ?_⟩) ?_ ?_
                        rotate_left
                        · intro w'
                          go_simp
                          with_reducible rfl
                        rotate_left
                        · simp only [Act.put, List.setIfInBounds_toArray, List.set_cons_zero, List.set_cons_succ, i64_w, i32_w]
                          rfl
                        refine pure_ (i := 1) (N := some 49) (v := ?_) (a' := ?_) b13_2 rfl rfl (any_of HT_.out z13_2) (fun _ _ _ h => h) (Or.inl ⟨by rfl, ?_⟩) ?_ ?_
                        rotate_left
                        · intro w'
                          go_simp
                          with_reducible rfl
                        rotate_left
                        · simp only [Act.put, List.setIfInBounds_toArray, List.set_cons_zero, List.set_cons_succ, i64_w, i32_w]
                          rfl
                        refine one_ (i := 2) (N := some 50) b13_3 rfl rfl (one_of HT_.out z13_2) (by decide) (fun K hK => ?_)
                        refine goes_ Try.func46 z13_2 rfl #[.slice Ao55 t527.length co55, .int .i64 x11_2] (by rfl) rfl rfl z13_0 ?_
                        with_reducible refine (laws_has.calls k2 _ _ t527 x11_2 true _ ?side1 ?side2 A36.out).mono ?_
                        (case side1 => exact z13_1)
                        (case side2 => exact z13_10)
                        rintro e w' ⟨rfl, ⟨nd, rfl⟩⟩
                        refine ⟨_, rfl, ?_⟩
                        obtain ⟨Ao56, co56, eo56⟩ := Kd.R_slice HO_8.out
                        (first | subst eo56 | (injection eo56 with f1_ f2_ f3_; have f4_ := f1_.symm; have f5_ := f3_.symm; clear f1_ f2_ f3_; subst f4_; subst f5_))
                        refine hK.out _ _ trivial (fun hHeld => ?_)
                        clear hK K
                        refine norm_ (a' := ?_) ?_ ?_
                        rotate_left
                        · show Act.put _ (some 50) _ = _
                          simp only [Act.put, List.setIfInBounds_toArray, List.set_cons_zero, List.set_cons_succ, i64_w, i32_w]
                          rfl
                        refine pure_ (i := 3) (N := some 51) (v := ?_) (a' := ?_) b13_4 rfl rfl (any_of HT_.out z13_2) (fun _ _ _ h => h) (Or.inl ⟨by rfl, ?_⟩) ?_ ?_
                        rotate_left
                        · intro w'
                          go_simp
                          with_reducible rfl
                        rotate_left
                        · simp only [Act.put, List.setIfInBounds_toArray, List.set_cons_zero, List.set_cons_succ, i64_w, i32_w]
                          rfl
                        refine pure_ (i := 4) (N := some 52) (v := ?_) (a' := ?_) b13_5 rfl rfl (any_of HT_.out z13_2) (fun _ _ _ h => h) (Or.inl ⟨by rfl, ?_⟩) ?_ ?_
                        rotate_left
                        · intro w'
                          go_simp
                          with_reducible rfl
                        rotate_left
                        · simp only [Act.put, List.setIfInBounds_toArray, List.set_cons_zero, List.set_cons_succ, i64_w, i32_w]
                          rfl
                        refine pure_ (i := 5) (N := some 53) (v := undef) (a' := ?_) b13_6 rfl rfl (any_of HT_.out z13_2) (fun _ _ _ h => h) (Or.inr ⟨by rfl, rfl⟩) ?_ ?_
                        rotate_left
                        · simp only [Act.put, List.setIfInBounds_toArray, List.set_cons_zero, List.set_cons_succ, i64_w, i32_w]
                          rfl
                        refine pure_ (i := 6) (N := some 54) (v := undef) (a' := ?_) b13_7 rfl rfl (any_of HT_.out z13_2) (fun _ _ _ h => h) (Or.inr ⟨by rfl, rfl⟩) ?_ ?_
                        rotate_left
                        · simp only [Act.put, List.setIfInBounds_toArray, List.set_cons_zero, List.set_cons_succ, i64_w, i32_w]
                          rfl
                        refine pure_ (i := 7) (N := some 55) (v := undef) (a' := ?_) b13_8 rfl rfl (any_of HT_.out z13_2) (fun _ _ _ h => h) (Or.inr ⟨by rfl, rfl⟩) ?_ ?_
                        rotate_left
                        · simp only [Act.put, List.setIfInBounds_toArray, List.set_cons_zero, List.set_cons_succ, i64_w, i32_w]
                          rfl
                        refine pure_ (i := 8) (N := some 56) (v := undef) (a' := ?_) b13_9 rfl rfl (any_of HT_.out z13_2) (fun _ _ _ h => h) (Or.inr ⟨by rfl, rfl⟩) ?_ ?_
                        rotate_left
                        · simp only [Act.put, List.setIfInBounds_toArray, List.set_cons_zero, List.set_cons_succ, i64_w, i32_w]
                          rfl
                        refine pure_ (i := 9) (N := some 57) (v := undef) (a' := ?_) b13_10 rfl rfl (any_of HT_.out z13_2) (fun _ _ _ h => h) (Or.inr ⟨by rfl, rfl⟩) ?_ ?_
                        rotate_left
                        · simp only [Act.put, List.setIfInBounds_toArray, List.set_cons_zero, List.set_cons_succ, i64_w, i32_w]
                          rfl
                        refine pure_ (i := 10) (N := some 58) (v := undef) (a' := ?_) b13_11 rfl rfl (any_of HT_.out z13_2) (fun _ _ _ h => h) (Or.inr ⟨by rfl, rfl⟩) ?_ ?_
                        rotate_left
                        · simp only [Act.put, List.setIfInBounds_toArray, List.set_cons_zero, List.set_cons_succ, i64_w, i32_w]
                          rfl
                        refine pure_ (i := 11) (N := some 59) (v := undef) (a' := ?_) b13_12 rfl rfl (any_of HT_.out z13_2) (fun _ _ _ h => h) (Or.inr ⟨by rfl, rfl⟩) ?_ ?_
                        rotate_left
                        · simp only [Act.put, List.setIfInBounds_toArray, List.set_cons_zero, List.set_cons_succ, i64_w, i32_w]
                          rfl
                        refine pure_ (i := 12) (N := some 60) (v := undef) (a' := ?_) b13_13 rfl rfl (any_of HT_.out z13_2) (fun _ _ _ h => h) (Or.inr ⟨by rfl, rfl⟩) ?_ ?_
                        rotate_left
                        · simp only [Act.put, List.setIfInBounds_toArray, List.set_cons_zero, List.set_cons_succ, i64_w, i32_w]
                          rfl
                        refine pure_ (i := 13) (N := some 61) (v := undef) (a' := ?_) b13_14 rfl rfl (any_of HT_.out z13_2) (fun _ _ _ h => h) (Or.inr ⟨by rfl, rfl⟩) ?_ ?_
                        rotate_left
                        · simp only [Act.put, List.setIfInBounds_toArray, List.set_cons_zero, List.set_cons_succ, i64_w, i32_w]
                          rfl
                        refine pure_ (i := 14) (N := some 62) (v := undef) (a' := ?_) b13_15 rfl rfl (any_of HT_.out z13_2) (fun _ _ _ h => h) (Or.inr ⟨by rfl, rfl⟩) ?_ ?_
                        rotate_left
                        · simp only [Act.put, List.setIfInBounds_toArray, List.set_cons_zero, List.set_cons_succ, i64_w, i32_w]
                          rfl
                        refine pure_ (i := 15) (N := some 63) (v := ?_) (a' := ?_) b13_16 rfl rfl (any_of HT_.out z13_2) (fun _ _ _ h => h) (Or.inl ⟨by rfl, ?_⟩) ?_ ?_
                        rotate_left
                        · intro w'
                          go_simp
                          with_reducible rfl
                        rotate_left
                        · simp only [Act.put, List.setIfInBounds_toArray, List.set_cons_zero, List.set_cons_succ, i64_w, i32_w]
                          rfl
                        refine pure_ (i := 16) (N := some 64) (v := ?_) (a' := ?_) b13_17 rfl rfl (any_of HT_.out z13_2) (fun _ _ _ h => h) (Or.inl ⟨by rfl, ?_⟩) ?_ ?_
                        rotate_left
                        · intro w'
                          go_simp
                          with_reducible rfl
                        rotate_left
                        · simp only [Act.put, List.setIfInBounds_toArray, List.set_cons_zero, List.set_cons_succ, i64_w, i32_w]
                          rfl
                        refine pure_ (i := 17) (N := some 65) (v := ?_) (a' := ?_) b13_18 rfl rfl (any_of HT_.out z13_2) (fun _ _ _ h => h) (Or.inl ⟨by rfl, ?_⟩) ?_ ?_
                        rotate_left
                        · intro w'
                          go_simp
                          with_reducible rfl
                        rotate_left
                        · simp only [Act.put, List.setIfInBounds_toArray, List.set_cons_zero, List.set_cons_succ, i64_w, i32_w]
                          rfl
                        refine pure_ (i := 18) (N := some 66) (v := ?_) (a' := ?_) b13_19 rfl rfl (any_of HT_.out z13_2) (fun _ _ _ h => h) (Or.inl ⟨by rfl, ?_⟩) ?_ ?_
                        rotate_left
                        · intro w'
                          go_simp
                          with_reducible rfl
                        rotate_left
                        · simp only [Act.put, List.setIfInBounds_toArray, List.set_cons_zero, List.set_cons_succ, i64_w, i32_w]
                          rfl
                        refine one_ (i := 19) (N := some 67) b13_20 rfl rfl (one_of HT_.out z13_2) (by decide) (fun K hK => ?_)
                        refine goes_ Try.func46 z13_2 rfl #[.slice Ao56 t530.length co56, .int .i64 x11_2] (by rfl) rfl rfl z13_0 ?_
                        with_reducible refine (laws_has.calls k2 _ _ t530 x11_2 false _ ?side1 ?side2 A38.out).mono ?_
                        (case side1 => exact z13_4)
                        (case side2 => exact (Kd.R_reads' HO_8.out).2.1)
                        rintro e w' ⟨rfl, ⟨nd, rfl⟩⟩
                        refine ⟨_, rfl, ?_⟩
                        refine hK.out _ _ trivial (fun hHeld => ?_)
                        clear hK K
                        refine norm_ (a' := ?_) ?_ ?_
                        rotate_left
                        · show Act.put _ (some 67) _ = _
                          simp only [Act.put, List.setIfInBounds_toArray, List.set_cons_zero, List.set_cons_succ, i64_w, i32_w]
                          rfl
                        refine pure_ (i := 20) (N := some 68) (v := ?_) (a' := ?_) b13_21 rfl rfl (any_of HT_.out z13_2) (fun _ _ _ h => h) (Or.inl ⟨by rfl, ?_⟩) ?_ ?_
                        rotate_left
                        · intro w'
                          go_simp
                          with_reducible rfl
                        rotate_left
                        · simp only [Act.put, List.setIfInBounds_toArray, List.set_cons_zero, List.set_cons_succ, i64_w, i32_w]
                          rfl
                        refine pure_ (i := 21) (N := some 69) (v := undef) (a' := ?_) b13_22 rfl rfl (any_of HT_.out z13_2) (fun _ _ _ h => h) (Or.inr ⟨by rfl, rfl⟩) ?_ ?_
                        rotate_left
                        · simp only [Act.put, List.setIfInBounds_toArray, List.set_cons_zero, List.set_cons_succ, i64_w, i32_w]
                          rfl
                        refine pure_ (i := 22) (N := some 70) (v := undef) (a' := ?_) b13_23 rfl rfl (any_of HT_.out z13_2) (fun _ _ _ h => h) (Or.inr ⟨by rfl, rfl⟩) ?_ ?_
                        rotate_left
                        · simp only [Act.put, List.setIfInBounds_toArray, List.set_cons_zero, List.set_cons_succ, i64_w, i32_w]
                          rfl
                        refine pure_ (i := 23) (N := some 71) (v := undef) (a' := ?_) b13_24 rfl rfl (any_of HT_.out z13_2) (fun _ _ _ h => h) (Or.inr ⟨by rfl, rfl⟩) ?_ ?_
                        rotate_left
                        · simp only [Act.put, List.setIfInBounds_toArray, List.set_cons_zero, List.set_cons_succ, i64_w, i32_w]
                          rfl
                        refine pure_ (i := 24) (N := some 72) (v := undef) (a' := ?_) b13_25 rfl rfl (any_of HT_.out z13_2) (fun _ _ _ h => h) (Or.inr ⟨by rfl, rfl⟩) ?_ ?_
                        rotate_left
                        · simp only [Act.put, List.setIfInBounds_toArray, List.set_cons_zero, List.set_cons_succ, i64_w, i32_w]
                          rfl
                        refine pure_ (i := 25) (N := some 73) (v := ?_) (a' := ?_) b13_26 rfl rfl (any_of HT_.out z13_2) (fun _ _ _ h => h) (Or.inl ⟨by rfl, ?_⟩) ?_ ?_
                        rotate_left
                        · intro w'
                          go_simp
                          with_reducible rfl
                        rotate_left
                        · simp only [Act.put, List.setIfInBounds_toArray, List.set_cons_zero, List.set_cons_succ, i64_w, i32_w]
                          rfl
                        refine pure_ (i := 26) (N := some 74) (v := ?_) (a' := ?_) b13_27 rfl rfl (any_of HT_.out z13_2) (fun _ _ _ h => h) (Or.inl ⟨by rfl, ?_⟩) ?_ ?_
                        rotate_left
                        · intro w'
                          go_simp
                          with_reducible rfl
                        rotate_left
                        · simp only [Act.put, List.setIfInBounds_toArray, List.set_cons_zero, List.set_cons_succ, i64_w, i32_w]
                          rfl
                        refine pure_ (i := 27) (N := some 75) (v := ?_) (a' := ?_) b13_28 rfl rfl (any_of HT_.out z13_2) (fun _ _ _ h => h) (Or.inl ⟨by rfl, ?_⟩) ?_ ?_
                        rotate_left
                        · intro w'
                          go_simp
                          with_reducible rfl
                        rotate_left
                        · simp only [Act.put, List.setIfInBounds_toArray, List.set_cons_zero, List.set_cons_succ, i64_w, i32_w]
                          rfl
                        refine pure_ (i := 28) (N := some 76) (v := ?_) (a' := ?_) b13_29 rfl rfl (any_of HT_.out z13_2) (fun _ _ _ h => h) (Or.inl ⟨by rfl, ?_⟩) ?_ ?_
                        rotate_left
                        · intro w'
                          go_simp
                          with_reducible rfl
                        rotate_left
                        · simp only [Act.put, List.setIfInBounds_toArray, List.set_cons_zero, List.set_cons_succ, i64_w, i32_w]
                          rfl
                        refine pure_ (i := 29) (N := some 77) (v := ?_) (a' := ?_) b13_30 rfl rfl (any_of HT_.out z13_2) (fun _ _ _ h => h) (Or.inl ⟨by rfl, ?_⟩) ?_ ?_
                        rotate_left
                        · intro w'
                          go_simp
                          with_reducible rfl
                        rotate_left
                        · simp only [Act.put, List.setIfInBounds_toArray, List.set_cons_zero, List.set_cons_succ, i64_w, i32_w]
                          rfl
                        refine pure_ (i := 31) (N := some 79) (v := ?_) (a' := ?_) b13_31 rfl rfl (any_of HT_.out z13_2) (fun _ _ _ h => h) (Or.inl ⟨by rfl, ?_⟩) ?_ ?_
                        rotate_left
                        · intro w'
                          go_simp
                          with_reducible rfl
                        rotate_left
                        · simp only [Act.put, List.setIfInBounds_toArray, List.set_cons_zero, List.set_cons_succ, i64_w, i32_w]
                          rfl
                        refine pure_ (i := 32) (N := some 80) (v := ?_) (a' := ?_) b13_32 rfl rfl (any_of HT_.out z13_2) (fun _ _ _ h => h) (Or.inl ⟨by rfl, ?_⟩) ?_ ?_
                        rotate_left
                        · intro w'
                          go_simp
                          with_reducible rfl
                        rotate_left
                        · simp only [Act.put, List.setIfInBounds_toArray, List.set_cons_zero, List.set_cons_succ, i64_w, i32_w]
                          rfl
                        refine one_ (i := 30) (N := some 78) b13_33 rfl rfl (one_of HT_.out z13_2) (by decide) (fun K hK => ?_)
                        refine goes_ Try.func47 z13_2 rfl #[.slice Ao55 t527.length co55, .int .i64 x11_2] (by rfl) rfl rfl z13_0 ?_
                        with_reducible refine (impl_HasVar.calls k2 _ _ t527 x11_2 t548 _ ?side1 ?side2 A51.out).mono ?_
                        (case side1 => exact z13_1)
                        (case side2 => exact z13_10)
                        rintro e w' ⟨rfl, ⟨nd, rfl⟩⟩
                        refine ⟨_, rfl, ?_⟩
                        refine hK.out _ _ trivial (fun hHeld => ?_)
                        clear hK K
                        refine norm_ (a' := ?_) ?_ ?_
                        rotate_left
                        · show Act.put _ (some 78) _ = _
                          simp only [Act.put, List.setIfInBounds_toArray, List.set_cons_zero, List.set_cons_succ, i64_w, i32_w]
                          rfl
                        refine one_ (i := 33) (N := some 81) b13_34 rfl rfl (one_of HT_.out z13_2) (by decide) (fun K hK => ?_)
                        refine goes_ Try.func46 z13_2 rfl #[.slice Ao55 t527.length co55, .int .i64 x11_2] (by rfl) rfl rfl z13_0 ?_
                        with_reducible refine (laws_has.calls k2 _ _ t527 x11_2 t549 _ ?side1 ?side2 A52.out).mono ?_
                        (case side1 => exact z13_1)
                        (case side2 => exact z13_10)
                        rintro e w' ⟨rfl, ⟨nd, rfl⟩⟩
                        refine ⟨_, rfl, ?_⟩
                        refine hK.out _ _ trivial (fun hHeld => ?_)
                        clear hK K
                        refine norm_ (a' := ?_) ?_ ?_
                        rotate_left
                        · show Act.put _ (some 81) _ = _
                          simp only [Act.put, List.setIfInBounds_toArray, List.set_cons_zero, List.set_cons_succ, i64_w, i32_w]
                          rfl
                        refine pure_ (i := 34) (N := some 82) (v := ?_) (a' := ?_) b13_35 rfl rfl (any_of HT_.out z13_2) (fun _ _ _ h => h) (Or.inl ⟨by rfl, ?_⟩) ?_ ?_
                        rotate_left
                        · intro w'
                          go_simp
                          with_reducible rfl
                        rotate_left
                        · simp only [Act.put, List.setIfInBounds_toArray, List.set_cons_zero, List.set_cons_succ, i64_w, i32_w]
                          rfl
                        refine pure_ (i := 35) (N := some 83) (v := ?_) (a' := ?_) b13_36 rfl rfl (any_of HT_.out z13_2) (fun _ _ _ h => h) (Or.inl ⟨by rfl, ?_⟩) ?_ ?_
                        rotate_left
                        · intro w'
                          go_simp
                          with_reducible rfl
                        rotate_left
                        · simp only [Act.put, List.setIfInBounds_toArray, List.set_cons_zero, List.set_cons_succ, i64_w, i32_w]
                          rfl
                        refine done_ (done_of HT_.out z13_2) ?_
                        try go_wp2
                        go_ret
                        exact ⟨by first | rfl | (simp [errW_none, errW_some] <;> rfl) | (simp [*, errW_none, errW_some] <;> rfl) | (simp [*, errW_none, errW_some, i64_w]; done), by repeat (first | (with_reducible first | exact HB.out | apply below_alloc | apply pw_below_drewN | apply below_drew1 | refine below_set ?_ GE519.out | refine below_set ?_ GE542.out) | exact HB.out)⟩
                      · rw [if_neg c53] at H
                        have c53b0 : (t548 != t549) = false := by simpa using c53
                        (try (have c53b1 : decide (t548 = t549) = true := by simpa using c53))
                        (try (have c53b2 : (t548 == t549) = true := by simpa using c53))
                        clear c53
                        have H' := Aside0.mk H
                        clear H
                        try go_wp2
                        have n0_ := Aside0.mk (Kd.R_drew HO_4.out)
                        have n1_ := Aside0.mk (Kd.R_drew HO_7.out)
                        have n2_ := Aside0.mk (Kd.R_drew HO_8.out)
                        have n3_ := Aside0.mk (Kd.S_drew HO_520000.out)
                        have n4_ := Aside0.mk (Kd.R_drew HO_543000.out)
                        have n5_ := Aside0.mk (Kd.R_drew HO_543001.out)
                        have n6_ := Aside0.mk (blk_drew BK519.out)
                        have n7_ := Aside0.mk (blk_drew BK542.out)
                        have n8_ := Aside0.mk (below_drew1 HB.out)
                        clear HO_4
                        clear HO_7
                        clear HO_8
                        clear HO_520000
                        clear HO_543000
                        clear HO_543001
                        clear BK519
                        clear BK542
                        clear HB
                        have HO_4 := n0_
                        have HO_7 := n1_
                        have HO_8 := n2_
                        have HO_520000 := n3_
                        have HO_543000 := n4_
                        have HO_543001 := n5_
                        have BK519 := n6_
                        have BK542 := n7_
                        have HB := n8_
                        clear n0_ n1_ n2_ n3_ n4_ n5_ n6_ n7_ n8_
                        obtain ⟨Ao58, co58, eo58⟩ := Kd.R_slice HO_7.out
                        (first | subst eo58 | (injection eo58 with f1_ f2_ f3_; have f4_ := f1_.symm; have f5_ := f3_.symm; clear f1_ f2_ f3_; subst f4_; subst f5_))
                        refine start_ (n := 36) (S := fun w' => True) (ds := []) b13_0 z13_2 rfl rfl trivial (fun hHeld => ?_); refine with_tabW laws_FnWrites.tab15 laws_FnWrites.bits15 (fun HT_ HW_ => ?_)
                        generalize wr.drew = w57 at HO_4 HO_7 HO_8 HO_520000 HO_543000 HO_543001 BK519 BK542 HB hHeld ⊢
                        refine pure_ (i := 0) (N := some 48) (v := ?_) (a' := ?_) b13_1 rfl rfl (any_of HT_.out z13_2) (fun _ _ _ h => h) (Or.inl ⟨by rfl, ?_⟩) ?_ ?_
                        rotate_left
                        · intro w'
                          go_simp
                          with_reducible rfl
                        rotate_left
                        · simp only [Act.put, List.setIfInBounds_toArray, List.set_cons_zero, List.set_cons_succ, i64_w, i32_w]
                          rfl
                        refine pure_ (i := 1) (N := some 49) (v := ?_) (a' := ?_) b13_2 rfl rfl (any_of HT_.out z13_2) (fun _ _ _ h => h) (Or.inl ⟨by rfl, ?_⟩) ?_ ?_
                        rotate_left
                        · intro w'
                          go_simp
                          with_reducible rfl
                        rotate_left
                        · simp only [Act.put, List.setIfInBounds_toArray, List.set_cons_zero, List.set_cons_succ, i64_w, i32_w]
                          rfl
                        refine one_ (i := 2) (N := some 50) b13_3 rfl rfl (one_of HT_.out z13_2) (by decide) (fun K hK => ?_)
                        refine goes_ Try.func46 z13_2 rfl #[.slice Ao58 t527.length co58, .int .i64 x11_2] (by rfl) rfl rfl z13_0 ?_
                        with_reducible refine (laws_has.calls k2 _ _ t527 x11_2 true _ ?side1 ?side2 A36.out).mono ?_
                        (case side1 => exact z13_1)
                        (case side2 => exact z13_10)
                        rintro e w' ⟨rfl, ⟨nd, rfl⟩⟩
                        refine ⟨_, rfl, ?_⟩
                        obtain ⟨Ao59, co59, eo59⟩ := Kd.R_slice HO_8.out
                        (first | subst eo59 | (injection eo59 with f1_ f2_ f3_; have f4_ := f1_.symm; have f5_ := f3_.symm; clear f1_ f2_ f3_; subst f4_; subst f5_))
                        refine hK.out _ _ trivial (fun hHeld => ?_)
                        clear hK K
                        refine norm_ (a' := ?_) ?_ ?_
                        rotate_left
                        · show Act.put _ (some 50) _ = _
                          simp only [Act.put, List.setIfInBounds_toArray, List.set_cons_zero, List.set_cons_succ, i64_w, i32_w]
                          rfl
                        refine pure_ (i := 3) (N := some 51) (v := ?_) (a' := ?_) b13_4 rfl rfl (any_of HT_.out z13_2) (fun _ _ _ h => h) (Or.inl ⟨by rfl, ?_⟩) ?_ ?_
                        rotate_left
                        · intro w'
                          go_simp
                          with_reducible rfl
                        rotate_left
                        · simp only [Act.put, List.setIfInBounds_toArray, List.set_cons_zero, List.set_cons_succ, i64_w, i32_w]
                          rfl
                        refine pure_ (i := 4) (N := some 52) (v := ?_) (a' := ?_) b13_5 rfl rfl (any_of HT_.out z13_2) (fun _ _ _ h => h) (Or.inl ⟨by rfl, ?_⟩) ?_ ?_
                        rotate_left
                        · intro w'
                          go_simp
                          with_reducible rfl
                        rotate_left
                        · simp only [Act.put, List.setIfInBounds_toArray, List.set_cons_zero, List.set_cons_succ, i64_w, i32_w]
                          rfl
                        refine pure_ (i := 5) (N := some 53) (v := undef) (a' := ?_) b13_6 rfl rfl (any_of HT_.out z13_2) (fun _ _ _ h => h) (Or.inr ⟨by rfl, rfl⟩) ?_ ?_
                        rotate_left
                        · simp only [Act.put, List.setIfInBounds_toArray, List.set_cons_zero, List.set_cons_succ, i64_w, i32_w]
                          rfl
                        refine pure_ (i := 6) (N := some 54) (v := undef) (a' := ?_) b13_7 rfl rfl (any_of HT_.out z13_2) (fun _ _ _ h => h) (Or.inr ⟨by rfl, rfl⟩) ?_ ?_
                        rotate_left
                        · simp only [Act.put, List.setIfInBounds_toArray, List.set_cons_zero, List.set_cons_succ, i64_w, i32_w]
                          rfl
                        refine pure_ (i := 7) (N := some 55) (v := undef) (a' := ?_) b13_8 rfl rfl (any_of HT_.out z13_2) (fun _ _ _ h => h) (Or.inr ⟨by rfl, rfl⟩) ?_ ?_
                        rotate_left
                        · simp only [Act.put, List.setIfInBounds_toArray, List.set_cons_zero, List.set_cons_succ, i64_w, i32_w]
                          rfl
                        refine pure_ (i := 8) (N := some 56) (v := undef) (a' := ?_) b13_9 rfl rfl (any_of HT_.out z13_2) (fun _ _ _ h => h) (Or.inr ⟨by rfl, rfl⟩) ?_ ?_
                        rotate_left
                        · simp only [Act.put, List.setIfInBounds_toArray, List.set_cons_zero, List.set_cons_succ, i64_w, i32_w]
                          rfl
                        refine pure_ (i := 9) (N := some 57) (v := undef) (a' := ?_) b13_10 rfl rfl (any_of HT_.out z13_2) (fun _ _ _ h => h) (Or.inr ⟨by rfl, rfl⟩) ?_ ?_
                        rotate_left
                        · simp only [Act.put, List.setIfInBounds_toArray, List.set_cons_zero, List.set_cons_succ, i64_w, i32_w]
                          rfl
                        refine pure_ (i := 10) (N := some 58) (v := undef) (a' := ?_) b13_11 rfl rfl (any_of HT_.out z13_2) (fun _ _ _ h => h) (Or.inr ⟨by rfl, rfl⟩) ?_ ?_
                        rotate_left
                        · simp only [Act.put, List.setIfInBounds_toArray, List.set_cons_zero, List.set_cons_succ, i64_w, i32_w]
                          rfl
                        refine pure_ (i := 11) (N := some 59) (v := undef) (a' := ?_) b13_12 rfl rfl (any_of HT_.out z13_2) (fun _ _ _ h => h) (Or.inr ⟨by rfl, rfl⟩) ?_ ?_
                        rotate_left
                        · simp only [Act.put, List.setIfInBounds_toArray, List.set_cons_zero, List.set_cons_succ, i64_w, i32_w]
                          rfl
                        refine pure_ (i := 12) (N := some 60) (v := undef) (a' := ?_) b13_13 rfl rfl (any_of HT_.out z13_2) (fun _ _ _ h => h) (Or.inr ⟨by rfl, rfl⟩) ?_ ?_
                        rotate_left
                        · simp only [Act.put, List.setIfInBounds_toArray, List.set_cons_zero, List.set_cons_succ, i64_w, i32_w]
                          rfl
                        refine pure_ (i := 13) (N := some 61) (v := undef) (a' := ?_) b13_14 rfl rfl (any_of HT_.out z13_2) (fun _ _ _ h => h) (Or.inr ⟨by rfl, rfl⟩) ?_ ?_
                        rotate_left
                        · simp only [Act.put, List.setIfInBounds_toArray, List.set_cons_zero, List.set_cons_succ, i64_w, i32_w]
                          rfl
                        refine pure_ (i := 14) (N := some 62) (v := undef) (a' := ?_) b13_15 rfl rfl (any_of HT_.out z13_2) (fun _ _ _ h => h) (Or.inr ⟨by rfl, rfl⟩) ?_ ?_
                        rotate_left
                        · simp only [Act.put, List.setIfInBounds_toArray, List.set_cons_zero, List.set_cons_succ, i64_w, i32_w]
                          rfl
                        refine pure_ (i := 15) (N := some 63) (v := ?_) (a' := ?_) b13_16 rfl rfl (any_of HT_.out z13_2) (fun _ _ _ h => h) (Or.inl ⟨by rfl, ?_⟩) ?_ ?_
                        rotate_left
                        · intro w'
                          go_simp
                          with_reducible rfl
                        rotate_left
                        · simp only [Act.put, List.setIfInBounds_toArray, List.set_cons_zero, List.set_cons_succ, i64_w, i32_w]
                          rfl
                        refine pure_ (i := 16) (N := some 64) (v := ?_) (a' := ?_) b13_17 rfl rfl (any_of HT_.out z13_2) (fun _ _ _ h => h) (Or.inl ⟨by rfl, ?_⟩) ?_ ?_
                        rotate_left
                        · intro w'
                          go_simp
                          with_reducible rfl
                        rotate_left
                        · simp only [Act.put, List.setIfInBounds_toArray, List.set_cons_zero, List.set_cons_succ, i64_w, i32_w]
                          rfl
                        refine pure_ (i := 17) (N := some 65) (v := ?_) (a' := ?_) b13_18 rfl rfl (any_of HT_.out z13_2) (fun _ _ _ h => h) (Or.inl ⟨by rfl, ?_⟩) ?_ ?_
                        rotate_left
                        · intro w'
                          go_simp
                          with_reducible rfl
                        rotate_left
                        · simp only [Act.put, List.setIfInBounds_toArray, List.set_cons_zero, List.set_cons_succ, i64_w, i32_w]
                          rfl
                        refine pure_ (i := 18) (N := some 66) (v := ?_) (a' := ?_) b13_19 rfl rfl (any_of HT_.out z13_2) (fun _ _ _ h => h) (Or.inl ⟨by rfl, ?_⟩) ?_ ?_
                        rotate_left
                        · intro w'
                          go_simp
                          with_reducible rfl
                        rotate_left
                        · simp only [Act.put, List.setIfInBounds_toArray, List.set_cons_zero, List.set_cons_succ, i64_w, i32_w]
                          rfl
                        refine one_ (i := 19) (N := some 67) b13_20 rfl rfl (one_of HT_.out z13_2) (by decide) (fun K hK => ?_)
                        refine goes_ Try.func46 z13_2 rfl #[.slice Ao59 t530.length co59, .int .i64 x11_2] (by rfl) rfl rfl z13_0 ?_
                        with_reducible refine (laws_has.calls k2 _ _ t530 x11_2 false _ ?side1 ?side2 A38.out).mono ?_
                        (case side1 => exact z13_4)
                        (case side2 => exact (Kd.R_reads' HO_8.out).2.1)
                        rintro e w' ⟨rfl, ⟨nd, rfl⟩⟩
                        refine ⟨_, rfl, ?_⟩
                        refine hK.out _ _ trivial (fun hHeld => ?_)
                        clear hK K
                        refine norm_ (a' := ?_) ?_ ?_
                        rotate_left
                        · show Act.put _ (some 67) _ = _
                          simp only [Act.put, List.setIfInBounds_toArray, List.set_cons_zero, List.set_cons_succ, i64_w, i32_w]
                          rfl
                        refine pure_ (i := 20) (N := some 68) (v := ?_) (a' := ?_) b13_21 rfl rfl (any_of HT_.out z13_2) (fun _ _ _ h => h) (Or.inl ⟨by rfl, ?_⟩) ?_ ?_
                        rotate_left
                        · intro w'
                          go_simp
                          with_reducible rfl
                        rotate_left
                        · simp only [Act.put, List.setIfInBounds_toArray, List.set_cons_zero, List.set_cons_succ, i64_w, i32_w]
                          rfl
                        refine pure_ (i := 21) (N := some 69) (v := undef) (a' := ?_) b13_22 rfl rfl (any_of HT_.out z13_2) (fun _ _ _ h => h) (Or.inr ⟨by rfl, rfl⟩) ?_ ?_
                        rotate_left
                        · simp only [Act.put, List.setIfInBounds_toArray, List.set_cons_zero, List.set_cons_succ, i64_w, i32_w]
                          rfl
                        refine pure_ (i := 22) (N := some 70) (v := undef) (a' := ?_) b13_23 rfl rfl (any_of HT_.out z13_2) (fun _ _ _ h => h) (Or.inr ⟨by rfl, rfl⟩) ?_ ?_
                        rotate_left
                        · simp only [Act.put, List.setIfInBounds_toArray, List.set_cons_zero, List.set_cons_succ, i64_w, i32_w]
                          rfl
                        refine pure_ (i := 23) (N := some 71) (v := undef) (a' := ?_) b13_24 rfl rfl (any_of HT_.out z13_2) (fun _ _ _ h => h) (Or.inr ⟨by rfl, rfl⟩) ?_ ?_
                        rotate_left
                        · simp only [Act.put, List.setIfInBounds_toArray, List.set_cons_zero, List.set_cons_succ, i64_w, i32_w]
                          rfl
                        refine pure_ (i := 24) (N := some 72) (v := undef) (a' := ?_) b13_25 rfl rfl (any_of HT_.out z13_2) (fun _ _ _ h => h) (Or.inr ⟨by rfl, rfl⟩) ?_ ?_
                        rotate_left
                        · simp only [Act.put, List.setIfInBounds_toArray, List.set_cons_zero, List.set_cons_succ, i64_w, i32_w]
                          rfl
                        refine pure_ (i := 25) (N := some 73) (v := ?_) (a' := ?_) b13_26 rfl rfl (any_of HT_.out z13_2) (fun _ _ _ h => h) (Or.inl ⟨by rfl, ?_⟩) ?_ ?_
                        rotate_left
                        · intro w'
                          go_simp
                          with_reducible rfl
                        rotate_left
                        · simp only [Act.put, List.setIfInBounds_toArray, List.set_cons_zero, List.set_cons_succ, i64_w, i32_w]
                          rfl
                        refine pure_ (i := 26) (N := some 74) (v := ?_) (a' := ?_) b13_27 rfl rfl (any_of HT_.out z13_2) (fun _ _ _ h => h) (Or.inl ⟨by rfl, ?_⟩) ?_ ?_
                        rotate_left
                        · intro w'
                          go_simp
                          with_reducible rfl
                        rotate_left
                        · simp only [Act.put, List.setIfInBounds_toArray, List.set_cons_zero, List.set_cons_succ, i64_w, i32_w]
                          rfl
                        refine pure_ (i := 27) (N := some 75) (v := ?_) (a' := ?_) b13_28 rfl rfl (any_of HT_.out z13_2) (fun _ _ _ h => h) (Or.inl ⟨by rfl, ?_⟩) ?_ ?_
                        rotate_left
                        · intro w'
                          go_simp
                          with_reducible rfl
                        rotate_left
                        · simp only [Act.put, List.setIfInBounds_toArray, List.set_cons_zero, List.set_cons_succ, i64_w, i32_w]
                          rfl
                        refine pure_ (i := 28) (N := some 76) (v := ?_) (a' := ?_) b13_29 rfl rfl (any_of HT_.out z13_2) (fun _ _ _ h => h) (Or.inl ⟨by rfl, ?_⟩) ?_ ?_
                        rotate_left
                        · intro w'
                          go_simp
                          with_reducible rfl
                        rotate_left
                        · simp only [Act.put, List.setIfInBounds_toArray, List.set_cons_zero, List.set_cons_succ, i64_w, i32_w]
                          rfl
                        refine pure_ (i := 29) (N := some 77) (v := ?_) (a' := ?_) b13_30 rfl rfl (any_of HT_.out z13_2) (fun _ _ _ h => h) (Or.inl ⟨by rfl, ?_⟩) ?_ ?_
                        rotate_left
                        · intro w'
                          go_simp
                          with_reducible rfl
                        rotate_left
                        · simp only [Act.put, List.setIfInBounds_toArray, List.set_cons_zero, List.set_cons_succ, i64_w, i32_w]
                          rfl
                        refine pure_ (i := 31) (N := some 79) (v := ?_) (a' := ?_) b13_31 rfl rfl (any_of HT_.out z13_2) (fun _ _ _ h => h) (Or.inl ⟨by rfl, ?_⟩) ?_ ?_
                        rotate_left
                        · intro w'
                          go_simp
                          with_reducible rfl
                        rotate_left
                        · simp only [Act.put, List.setIfInBounds_toArray, List.set_cons_zero, List.set_cons_succ, i64_w, i32_w]
                          rfl
                        refine pure_ (i := 32) (N := some 80) (v := ?_) (a' := ?_) b13_32 rfl rfl (any_of HT_.out z13_2) (fun _ _ _ h => h) (Or.inl ⟨by rfl, ?_⟩) ?_ ?_
                        rotate_left
                        · intro w'
                          go_simp
                          with_reducible rfl
                        rotate_left
                        · simp only [Act.put, List.setIfInBounds_toArray, List.set_cons_zero, List.set_cons_succ, i64_w, i32_w]
                          rfl
                        refine one_ (i := 30) (N := some 78) b13_33 rfl rfl (one_of HT_.out z13_2) (by decide) (fun K hK => ?_)
                        refine goes_ Try.func47 z13_2 rfl #[.slice Ao58 t527.length co58, .int .i64 x11_2] (by rfl) rfl rfl z13_0 ?_
                        with_reducible refine (impl_HasVar.calls k2 _ _ t527 x11_2 t548 _ ?side1 ?side2 A51.out).mono ?_
                        (case side1 => exact z13_1)
                        (case side2 => exact z13_10)
                        rintro e w' ⟨rfl, ⟨nd, rfl⟩⟩
                        refine ⟨_, rfl, ?_⟩
                        refine hK.out _ _ trivial (fun hHeld => ?_)
                        clear hK K
                        refine norm_ (a' := ?_) ?_ ?_
                        rotate_left
                        · show Act.put _ (some 78) _ = _
                          simp only [Act.put, List.setIfInBounds_toArray, List.set_cons_zero, List.set_cons_succ, i64_w, i32_w]
                          rfl
                        refine one_ (i := 33) (N := some 81) b13_34 rfl rfl (one_of HT_.out z13_2) (by decide) (fun K hK => ?_)
                        refine goes_ Try.func46 z13_2 rfl #[.slice Ao58 t527.length co58, .int .i64 x11_2] (by rfl) rfl rfl z13_0 ?_
                        with_reducible refine (laws_has.calls k2 _ _ t527 x11_2 t549 _ ?side1 ?side2 A52.out).mono ?_
                        (case side1 => exact z13_1)
                        (case side2 => exact z13_10)
                        rintro e w' ⟨rfl, ⟨nd, rfl⟩⟩
                        refine ⟨_, rfl, ?_⟩
                        refine hK.out _ _ trivial (fun hHeld => ?_)
                        clear hK K
                        refine norm_ (a' := ?_) ?_ ?_
                        rotate_left
                        · show Act.put _ (some 81) _ = _
                          simp only [Act.put, List.setIfInBounds_toArray, List.set_cons_zero, List.set_cons_succ, i64_w, i32_w]
                          rfl
                        refine pure_ (i := 34) (N := some 82) (v := ?_) (a' := ?_) b13_35 rfl rfl (any_of HT_.out z13_2) (fun _ _ _ h => h) (Or.inl ⟨by rfl, ?_⟩) ?_ ?_
                        rotate_left
                        · intro w'
                          go_simp
                          with_reducible rfl
                        rotate_left
                        · simp only [Act.put, List.setIfInBounds_toArray, List.set_cons_zero, List.set_cons_succ, i64_w, i32_w]
                          rfl
                        refine pure_ (i := 35) (N := some 83) (v := ?_) (a' := ?_) b13_36 rfl rfl (any_of HT_.out z13_2) (fun _ _ _ h => h) (Or.inl ⟨by rfl, ?_⟩) ?_ ?_
                        rotate_left
                        · intro w'
                          go_simp
                          with_reducible rfl
                        rotate_left
                        · simp only [Act.put, List.setIfInBounds_toArray, List.set_cons_zero, List.set_cons_succ, i64_w, i32_w]
                          rfl
                        refine done_ (done_of HT_.out z13_2) ?_
                        try go_wp2
                        go_roundg k2
                        case measure => have := HJ10.out; have := HK2.out; omega
                        case rel => exact ⟨(wrap64 (x11_2 + 1)), z13_17, H', ⟨by have := HJ10.out; have := HK2.out; omega⟩, ⟨by (with_reducible repeat (first | apply Kd.R_alloc | apply Kd.R_drewN | apply Kd.R_drew)); exact HO_4.out⟩, ⟨by (with_reducible repeat (first | apply Kd.R_alloc | apply Kd.R_drewN | apply Kd.R_drew)); exact HO_7.out⟩, ⟨by (with_reducible repeat (first | apply Kd.R_alloc | apply Kd.R_drewN | apply Kd.R_drew)); exact HO_8.out⟩, ⟨by (with_reducible repeat (first | apply Kd.S_alloc | apply Kd.S_drewN | apply Kd.S_drew)); exact HO_520000.out⟩, ⟨by (with_reducible repeat (first | apply Kd.R_alloc | apply Kd.R_drewN | apply Kd.R_drew)); exact HO_543000.out⟩, ⟨by (with_reducible repeat (first | apply Kd.R_alloc | apply Kd.R_drewN | apply Kd.R_drew)); exact HO_543001.out⟩, ⟨by (with_reducible repeat (first | refine blk_drewN ?_ _ | refine blk_drew ?_ | refine blk_alloc ?_ _)); exact BK519.out⟩, ⟨by (with_reducible repeat (first | refine blk_drewN ?_ _ | refine blk_drew ?_ | refine blk_alloc ?_ _)); exact BK542.out⟩, ⟨by repeat (first | (with_reducible first | exact HB.out | apply below_alloc | apply pw_below_drewN | apply below_drew1 | refine below_set ?_ GE519.out | refine below_set ?_ GE542.out) | exact HB.out)⟩⟩
                  · replace c37 := Bool.eq_false_iff.mpr c37
                    subst c37
                    have H1 : (if 0 ≤ x11_2 then (if x11_2 < (t533.length : Int) then (if x11_2 < (t520.length : Int) then (if (rd t533 x11_2) = (rd t520 x11_2) then ((laws_has.f k2 t530 x11_2).bind fun t552 => (if t552 = true then ((laws_has.f k2 t527 x11_2).bind fun t553 => (if t553 = true then ((impl_HasVar.f k2 t527 x11_2).bind fun t554 => ((laws_has.f k2 t527 x11_2).bind fun t555 => (if (t554 != t555) = true then (some false) else (laws_FnWrites.l0 k2 t520 t527 t530 (wrap64 (x11_2 + 1)) t533 t536 t539 t540)))) else (some false))) else ((impl_HasVar.f k2 t527 x11_2).bind fun t556 => ((laws_has.f k2 t527 x11_2).bind fun t557 => (if (t556 != t557) = true then (some false) else (laws_FnWrites.l0 k2 t520 t527 t530 (wrap64 (x11_2 + 1)) t533 t536 t539 t540)))))) else (some false)) else (none)) else (none)) else (none)) = some r := by rw [if_neg (show ¬ (false = true) by decide)] at H; exact H
                    clear H
                    have H := H1
                    clear H1
                    by_cases c60 : 0 ≤ x11_2
                    · rw [if_pos c60] at H
                      have c60b0 : decide (0 ≤ x11_2) = true := decide_eq_true c60
                      clear c60
                      by_cases c61 : x11_2 < (t533.length : Int)
                      · rw [if_pos c61] at H
                        have c61b0 : decide (x11_2 < (t533.length : Int)) = true := decide_eq_true c61
                        clear c61
                        by_cases c62 : x11_2 < (t520.length : Int)
                        · rw [if_pos c62] at H
                          have c62b0 : decide (x11_2 < (t520.length : Int)) = true := decide_eq_true c62
                          clear c62
                          by_cases c63 : (rd t533 x11_2) = (rd t520 x11_2)
                          · rw [if_pos c63] at H
                            have c63b0 : ((rd t533 x11_2) == (rd t520 x11_2)) = true := beq_iff_eq.mpr c63
                            have c63b1 : ((rd t533 x11_2) != (rd t520 x11_2)) = false := bne_eq_false_iff_eq.mpr c63
                            clear c63
                            replace H := Option.bind_eq_some_iff.mp H
                            obtain ⟨t552, A640, H⟩ := H
                            replace H : (if t552 = true then ((laws_has.f k2 t527 x11_2).bind fun t553 => (if t553 = true then ((impl_HasVar.f k2 t527 x11_2).bind fun t554 => ((laws_has.f k2 t527 x11_2).bind fun t555 => (if (t554 != t555) = true then (some false) else (laws_FnWrites.l0 k2 t520 t527 t530 (wrap64 (x11_2 + 1)) t533 t536 t539 t540)))) else (some false))) else ((impl_HasVar.f k2 t527 x11_2).bind fun t556 => ((laws_has.f k2 t527 x11_2).bind fun t557 => (if (t556 != t557) = true then (some false) else (laws_FnWrites.l0 k2 t520 t527 t530 (wrap64 (x11_2 + 1)) t533 t536 t539 t540))))) = some r := H
                            have A64 := Aside0.mk A640
                            clear A640
                            by_cases c65 : t552 = true
                            · subst c65
                              have H1 : ((laws_has.f k2 t527 x11_2).bind fun t553 => (if t553 = true then ((impl_HasVar.f k2 t527 x11_2).bind fun t554 => ((laws_has.f k2 t527 x11_2).bind fun t555 => (if (t554 != t555) = true then (some false) else (laws_FnWrites.l0 k2 t520 t527 t530 (wrap64 (x11_2 + 1)) t533 t536 t539 t540)))) else (some false))) = some r := by rw [if_pos rfl] at H; exact H
                              clear H
                              have H := H1
                              clear H1
                              replace H := Option.bind_eq_some_iff.mp H
                              obtain ⟨t553, A660, H⟩ := H
                              replace H : (if t553 = true then ((impl_HasVar.f k2 t527 x11_2).bind fun t554 => ((laws_has.f k2 t527 x11_2).bind fun t555 => (if (t554 != t555) = true then (some false) else (laws_FnWrites.l0 k2 t520 t527 t530 (wrap64 (x11_2 + 1)) t533 t536 t539 t540)))) else (some false)) = some r := H
                              have A66 := Aside0.mk A660
                              clear A660
                              by_cases c67 : t553 = true
                              · subst c67
                                have H1 : ((impl_HasVar.f k2 t527 x11_2).bind fun t554 => ((laws_has.f k2 t527 x11_2).bind fun t555 => (if (t554 != t555) = true then (some false) else (laws_FnWrites.l0 k2 t520 t527 t530 (wrap64 (x11_2 + 1)) t533 t536 t539 t540)))) = some r := by rw [if_pos rfl] at H; exact H
                                clear H
                                have H := H1
                                clear H1
                                exact absurd (A36.out.symm.trans A66.out) (by simp)
                              · replace c67 := Bool.eq_false_iff.mpr c67
                                subst c67
                                have H1 : (some false) = some r := by rw [if_neg (show ¬ (false = true) by decide)] at H; exact H
                                clear H
                                have H := H1
                                clear H1
                                obtain rfl := Option.some.inj H
                                try go_wp2
                                have n0_ := Aside0.mk (Kd.R_drew HO_4.out)
                                have n1_ := Aside0.mk (Kd.R_drew HO_7.out)
                                have n2_ := Aside0.mk (Kd.R_drew HO_8.out)
                                have n3_ := Aside0.mk (Kd.S_drew HO_520000.out)
                                have n4_ := Aside0.mk (Kd.R_drew HO_543000.out)
                                have n5_ := Aside0.mk (Kd.R_drew HO_543001.out)
                                have n6_ := Aside0.mk (blk_drew BK519.out)
                                have n7_ := Aside0.mk (blk_drew BK542.out)
                                have n8_ := Aside0.mk (below_drew1 HB.out)
                                clear HO_4
                                clear HO_7
                                clear HO_8
                                clear HO_520000
                                clear HO_543000
                                clear HO_543001
                                clear BK519
                                clear BK542
                                clear HB
                                have HO_4 := n0_
                                have HO_7 := n1_
                                have HO_8 := n2_
                                have HO_520000 := n3_
                                have HO_543000 := n4_
                                have HO_543001 := n5_
                                have BK519 := n6_
                                have BK542 := n7_
                                have HB := n8_
                                clear n0_ n1_ n2_ n3_ n4_ n5_ n6_ n7_ n8_
                                obtain ⟨Ao69, co69, eo69⟩ := Kd.R_slice HO_7.out
                                (first | subst eo69 | (injection eo69 with f1_ f2_ f3_; have f4_ := f1_.symm; have f5_ := f3_.symm; clear f1_ f2_ f3_; subst f4_; subst f5_))
                                have p550 : 0 ≤ (x11_2 : Int) := of_decide_eq_true z13_7
                                have q550 : x11_2 < (t533.length : Int) := of_decide_eq_true z13_7
                                obtain ⟨ad550, e550, hx550_0⟩ := Kd.at_int (Kd.R_reads' HO_543000.out).2.2 x11_2 p550 q550
                                cases e550
                                replace p550 := eq_true p550
                                replace q550 := eq_true q550
                                have p551 : 0 ≤ (x11_2 : Int) := of_decide_eq_true z13_7
                                have q551 : x11_2 < (t520.length : Int) := of_decide_eq_true z13_7
                                obtain ⟨ad551, e551, hx551_0⟩ := Kd.at_int (Kd.R_reads' HO_4.out).2.2 x11_2 p551 q551
                                cases e551
                                replace p551 := eq_true p551
                                replace q551 := eq_true q551
                                refine start_ (n := 36) (S := fun w' => w'.cell? ⟨gb542, 0, none⟩ = some (.slice (some ad550) t533.length co26) ∧ w'.cell? ⟨gb542, 1, none⟩ = some (.slice Ao29 t536.length co29) ∧ w'.cell? ⟨gb542, 2, none⟩ = some (.int .i64 t539) ∧ w'.cell? ⟨gb542, 3, none⟩ = some (.int .i64 t540) ∧ w'.cell? (ad550.add (x11_2).toNat) = some (.int .i64 (rd t533 x11_2)) ∧ w'.cell? (ad551.add (x11_2).toNat) = some (.int .i64 (rd t520 x11_2))) (ds := []) b13_0 z13_2 rfl rfl ⟨(blk_cell BK542.out 0).trans rfl, (blk_cell BK542.out 1).trans rfl, (blk_cell BK542.out 2).trans rfl, (blk_cell BK542.out 3).trans rfl, hx550_0, hx551_0⟩ (fun hHeld => ?_); refine with_tabW laws_FnWrites.tab15 laws_FnWrites.bits15 (fun HT_ HW_ => ?_)
                                generalize wr.drew = w68 at HO_4 HO_7 HO_8 HO_520000 HO_543000 HO_543001 BK519 BK542 HB hx550_0 hx551_0 hHeld ⊢
                                refine pure_ (i := 0) (N := some 48) (v := ?_) (a' := ?_) b13_1 rfl rfl (any_of HT_.out z13_2) (fun _ _ _ h => h) (Or.inl ⟨by rfl, ?_⟩) ?_ ?_
                                rotate_left
                                · intro w'
                                  go_simp
                                  with_reducible rfl
                                rotate_left
                                · simp only [Act.put, List.setIfInBounds_toArray, List.set_cons_zero, List.set_cons_succ, i64_w, i32_w]
                                  rfl
                                refine pure_ (i := 1) (N := some 49) (v := ?_) (a' := ?_) b13_2 rfl rfl (any_of HT_.out z13_2) (fun _ _ _ h => h) (Or.inl ⟨by rfl, ?_⟩) ?_ ?_
                                rotate_left
                                · intro w'
                                  go_simp
                                  with_reducible rfl
                                rotate_left
                                · simp only [Act.put, List.setIfInBounds_toArray, List.set_cons_zero, List.set_cons_succ, i64_w, i32_w]
                                  rfl
                                refine one_ (i := 2) (N := some 50) b13_3 rfl rfl (one_of HT_.out z13_2) (by decide) (fun K hK => ?_)
                                refine goes_ Try.func46 z13_2 rfl #[.slice Ao69 t527.length co69, .int .i64 x11_2] (by rfl) rfl rfl z13_0 ?_
                                with_reducible refine (laws_has.calls k2 _ _ t527 x11_2 false _ ?side1 ?side2 A36.out).mono ?_
                                (case side1 => exact z13_1)
                                (case side2 => exact z13_10)
                                rintro e w' ⟨rfl, ⟨nd, rfl⟩⟩
                                refine ⟨_, rfl, ?_⟩
                                obtain ⟨Ao70, co70, eo70⟩ := Kd.R_slice HO_8.out
                                (first | subst eo70 | (injection eo70 with f1_ f2_ f3_; have f4_ := f1_.symm; have f5_ := f3_.symm; clear f1_ f2_ f3_; subst f4_; subst f5_))
                                refine hK.out _ _ ⟨(blk_cell BK542.out 0).trans rfl, (blk_cell BK542.out 1).trans rfl, (blk_cell BK542.out 2).trans rfl, (blk_cell BK542.out 3).trans rfl, hHeld.2.2.2.2.1, hHeld.2.2.2.2.2⟩ (fun hHeld => ?_)
                                clear hK K
                                refine norm_ (a' := ?_) ?_ ?_
                                rotate_left
                                · show Act.put _ (some 50) _ = _
                                  simp only [Act.put, List.setIfInBounds_toArray, List.set_cons_zero, List.set_cons_succ, i64_w, i32_w]
                                  rfl
                                refine pure_ (i := 3) (N := some 51) (v := ?_) (a' := ?_) b13_4 rfl rfl (any_of HT_.out z13_2) (fun _ _ _ h => h) (Or.inl ⟨by rfl, ?_⟩) ?_ ?_
                                rotate_left
                                · intro w'
                                  go_simp
                                  with_reducible rfl
                                rotate_left
                                · simp only [Act.put, List.setIfInBounds_toArray, List.set_cons_zero, List.set_cons_succ, i64_w, i32_w]
                                  rfl
                                refine pure_ (i := 4) (N := some 52) (v := ?_) (a' := ?_) b13_5 rfl rfl (any_of HT_.out z13_2) (fun _ _ _ h => h) (Or.inl ⟨by rfl, ?_⟩) ?_ ?_
                                rotate_left
                                · intro w'
                                  go_simp
                                  with_reducible rfl
                                rotate_left
                                · simp only [Act.put, List.setIfInBounds_toArray, List.set_cons_zero, List.set_cons_succ, i64_w, i32_w]
                                  rfl
                                refine pure_ (i := 5) (N := some 53) (v := ?_) (a' := ?_) b13_6 rfl rfl (any_of HT_.out z13_2) (fun _ _ _ h => h) (Or.inl ⟨by rfl, ?_⟩) ?_ ?_
                                rotate_left
                                · intro w'
                                  go_simp
                                  with_reducible rfl
                                rotate_left
                                · simp only [Act.put, List.setIfInBounds_toArray, List.set_cons_zero, List.set_cons_succ, i64_w, i32_w]
                                  rfl
                                refine pure_ (i := 7) (N := some 55) (v := ?_) (a' := ?_) b13_37 rfl rfl (any_of HT_.out z13_2) (fun _ _ _ h => h) (Or.inl ⟨by rfl, ?_⟩) ?_ ?_
                                rotate_left
                                · intro w'
                                  go_simp
                                  with_reducible rfl
                                rotate_left
                                · simp only [Act.put, List.setIfInBounds_toArray, List.set_cons_zero, List.set_cons_succ, i64_w, i32_w]
                                  rfl
                                refine pure_ (i := 10) (N := some 58) (v := ?_) (a' := ?_) b13_38 rfl rfl (any_of HT_.out z13_2) (fun _ _ _ h => h) (Or.inl ⟨by rfl, ?_⟩) ?_ ?_
                                rotate_left
                                · intro w'
                                  go_simp
                                  with_reducible rfl
                                rotate_left
                                · simp only [Act.put, List.setIfInBounds_toArray, List.set_cons_zero, List.set_cons_succ, i64_w, i32_w]
                                  rfl
                                refine pure_ (i := 11) (N := some 59) (v := ?_) (a' := ?_) b13_39 rfl rfl (any_of HT_.out z13_2) (fun _ _ _ h => h) (Or.inl ⟨by rfl, ?_⟩) ?_ ?_
                                rotate_left
                                · intro w'
                                  go_simp
                                  with_reducible rfl
                                rotate_left
                                · simp only [Act.put, List.setIfInBounds_toArray, List.set_cons_zero, List.set_cons_succ, i64_w, i32_w]
                                  rfl
                                refine pure_ (i := 12) (N := some 60) (v := ?_) (a' := ?_) b13_40 rfl rfl (any_of HT_.out z13_2) (fun _ _ _ h => h) (Or.inl ⟨by rfl, ?_⟩) ?_ ?_
                                rotate_left
                                · intro w'
                                  go_simp
                                  with_reducible rfl
                                rotate_left
                                · simp only [Act.put, List.setIfInBounds_toArray, List.set_cons_zero, List.set_cons_succ, i64_w, i32_w]
                                  rfl
                                refine take_ (i := 6) (N := some 54) (v := ?_) (a' := ?_) b13_41 rfl rfl (take_ofW HT_.out HW_.out z13_2) (fun _ _ _ h => h) (Or.inl ⟨by rfl, ?_⟩) hHeld ?_ ?_
                                rotate_left
                                · rintro w' ⟨s0, s1, s2, s3, s4, s5⟩
                                  go_simp
                                  with_reducible rfl
                                rotate_left
                                · simp only [Act.put, List.setIfInBounds_toArray, List.set_cons_zero, List.set_cons_succ, i64_w, i32_w]
                                  rfl
                                refine pure_ (i := 8) (N := some 56) (v := ?_) (a' := ?_) b13_42 rfl rfl (any_of HT_.out z13_2) (fun _ _ _ h => h) (Or.inl ⟨by rfl, ?_⟩) ?_ ?_
                                rotate_left
                                · intro w'
                                  go_simp
                                  with_reducible rfl
                                rotate_left
                                · simp only [Act.put, List.setIfInBounds_toArray, List.set_cons_zero, List.set_cons_succ, i64_w, i32_w]
                                  rfl
                                refine take_ (i := 9) (N := some 57) (v := ?_) (a' := ?_) b13_13 rfl rfl (take_ofW HT_.out HW_.out z13_2) (fun _ _ _ h => h) (Or.inl ⟨by rfl, ?_⟩) hHeld ?_ ?_
                                rotate_left
                                · rintro w' ⟨s0, s1, s2, s3, s4, s5⟩
                                  go_simp
                                  with_reducible rfl
                                rotate_left
                                · simp only [Act.put, List.setIfInBounds_toArray, List.set_cons_zero, List.set_cons_succ, i64_w, i32_w]
                                  rfl
                                refine take_ (i := 13) (N := some 61) (v := ?_) (a' := ?_) b13_14 rfl rfl (take_ofW HT_.out HW_.out z13_2) (fun _ _ _ h => h) (Or.inl ⟨by rfl, ?_⟩) hHeld ?_ ?_
                                rotate_left
                                · rintro w' ⟨s0, s1, s2, s3, s4, s5⟩
                                  go_simp
                                  with_reducible rfl
                                rotate_left
                                · simp only [Act.put, List.setIfInBounds_toArray, List.set_cons_zero, List.set_cons_succ, i64_w, i32_w]
                                  rfl
                                refine pure_ (i := 14) (N := some 62) (v := ?_) (a' := ?_) b13_15 rfl rfl (any_of HT_.out z13_2) (fun _ _ _ h => h) (Or.inl ⟨by rfl, ?_⟩) ?_ ?_
                                rotate_left
                                · intro w'
                                  go_simp
                                  with_reducible rfl
                                rotate_left
                                · simp only [Act.put, List.setIfInBounds_toArray, List.set_cons_zero, List.set_cons_succ, i64_w, i32_w]
                                  rfl
                                refine pure_ (i := 15) (N := some 63) (v := ?_) (a' := ?_) b13_16 rfl rfl (any_of HT_.out z13_2) (fun _ _ _ h => h) (Or.inl ⟨by rfl, ?_⟩) ?_ ?_
                                rotate_left
                                · intro w'
                                  go_simp
                                  with_reducible rfl
                                rotate_left
                                · simp only [Act.put, List.setIfInBounds_toArray, List.set_cons_zero, List.set_cons_succ, i64_w, i32_w]
                                  rfl
                                refine pure_ (i := 16) (N := some 64) (v := ?_) (a' := ?_) b13_17 rfl rfl (any_of HT_.out z13_2) (fun _ _ _ h => h) (Or.inl ⟨by rfl, ?_⟩) ?_ ?_
                                rotate_left
                                · intro w'
                                  go_simp
                                  with_reducible rfl
                                rotate_left
                                · simp only [Act.put, List.setIfInBounds_toArray, List.set_cons_zero, List.set_cons_succ, i64_w, i32_w]
                                  rfl
                                refine pure_ (i := 17) (N := some 65) (v := ?_) (a' := ?_) b13_18 rfl rfl (any_of HT_.out z13_2) (fun _ _ _ h => h) (Or.inl ⟨by rfl, ?_⟩) ?_ ?_
                                rotate_left
                                · intro w'
                                  go_simp
                                  with_reducible rfl
                                rotate_left
                                · simp only [Act.put, List.setIfInBounds_toArray, List.set_cons_zero, List.set_cons_succ, i64_w, i32_w]
                                  rfl
                                refine pure_ (i := 18) (N := some 66) (v := ?_) (a' := ?_) b13_19 rfl rfl (any_of HT_.out z13_2) (fun _ _ _ h => h) (Or.inl ⟨by rfl, ?_⟩) ?_ ?_
                                rotate_left
                                · intro w'
                                  go_simp
                                  with_reducible rfl
                                rotate_left
                                · simp only [Act.put, List.setIfInBounds_toArray, List.set_cons_zero, List.set_cons_succ, i64_w, i32_w]
                                  rfl
                                refine one_ (i := 19) (N := some 67) b13_20 rfl rfl (one_of HT_.out z13_2) (by decide) (fun K hK => ?_)
                                refine goes_ Try.func46 z13_2 rfl #[.slice Ao70 t530.length co70, .int .i64 x11_2] (by rfl) rfl rfl z13_0 ?_
                                with_reducible refine (laws_has.calls k2 _ _ t530 x11_2 true _ ?side1 ?side2 A64.out).mono ?_
                                (case side1 => exact z13_4)
                                (case side2 => exact (Kd.R_reads' HO_8.out).2.1)
                                rintro e w' ⟨rfl, ⟨nd, rfl⟩⟩
                                refine ⟨_, rfl, ?_⟩
                                refine hK.out _ _ ⟨(blk_cell BK542.out 0).trans rfl, (blk_cell BK542.out 1).trans rfl, (blk_cell BK542.out 2).trans rfl, (blk_cell BK542.out 3).trans rfl, hHeld.2.2.2.2.1, hHeld.2.2.2.2.2⟩ (fun hHeld => ?_)
                                clear hK K
                                refine norm_ (a' := ?_) ?_ ?_
                                rotate_left
                                · show Act.put _ (some 67) _ = _
                                  simp only [Act.put, List.setIfInBounds_toArray, List.set_cons_zero, List.set_cons_succ, i64_w, i32_w]
                                  rfl
                                refine pure_ (i := 20) (N := some 68) (v := ?_) (a' := ?_) b13_21 rfl rfl (any_of HT_.out z13_2) (fun _ _ _ h => h) (Or.inl ⟨by rfl, ?_⟩) ?_ ?_
                                rotate_left
                                · intro w'
                                  go_simp
                                  with_reducible rfl
                                rotate_left
                                · simp only [Act.put, List.setIfInBounds_toArray, List.set_cons_zero, List.set_cons_succ, i64_w, i32_w]
                                  rfl
                                refine pure_ (i := 21) (N := some 69) (v := ?_) (a' := ?_) b13_22 rfl rfl (any_of HT_.out z13_2) (fun _ _ _ h => h) (Or.inl ⟨by rfl, ?_⟩) ?_ ?_
                                rotate_left
                                · intro w'
                                  go_simp
                                  with_reducible rfl
                                rotate_left
                                · simp only [Act.put, List.setIfInBounds_toArray, List.set_cons_zero, List.set_cons_succ, i64_w, i32_w]
                                  rfl
                                refine pure_ (i := 22) (N := some 70) (v := ?_) (a' := ?_) b13_23 rfl rfl (any_of HT_.out z13_2) (fun _ _ _ h => h) (Or.inl ⟨by rfl, ?_⟩) ?_ ?_
                                rotate_left
                                · intro w'
                                  go_simp
                                  with_reducible rfl
                                rotate_left
                                · simp only [Act.put, List.setIfInBounds_toArray, List.set_cons_zero, List.set_cons_succ, i64_w, i32_w]
                                  rfl
                                refine one_ (i := 23) (N := some 71) b13_24 rfl rfl (one_of HT_.out z13_2) (by decide) (fun K hK => ?_)
                                refine goes_ Try.func46 z13_2 rfl #[.slice Ao69 t527.length co69, .int .i64 x11_2] (by rfl) rfl rfl z13_0 ?_
                                with_reducible refine (laws_has.calls k2 _ _ t527 x11_2 false _ ?side1 ?side2 A66.out).mono ?_
                                (case side1 => exact z13_1)
                                (case side2 => exact z13_10)
                                rintro e w' ⟨rfl, ⟨nd, rfl⟩⟩
                                refine ⟨_, rfl, ?_⟩
                                refine hK.out _ _ ⟨(blk_cell BK542.out 0).trans rfl, (blk_cell BK542.out 1).trans rfl, (blk_cell BK542.out 2).trans rfl, (blk_cell BK542.out 3).trans rfl, hHeld.2.2.2.2.1, hHeld.2.2.2.2.2⟩ (fun hHeld => ?_)
                                clear hK K
                                refine norm_ (a' := ?_) ?_ ?_
                                rotate_left
                                · show Act.put _ (some 71) _ = _
                                  simp only [Act.put, List.setIfInBounds_toArray, List.set_cons_zero, List.set_cons_succ, i64_w, i32_w]
                                  rfl
                                refine pure_ (i := 24) (N := some 72) (v := ?_) (a' := ?_) b13_25 rfl rfl (any_of HT_.out z13_2) (fun _ _ _ h => h) (Or.inl ⟨by rfl, ?_⟩) ?_ ?_
                                rotate_left
                                · intro w'
                                  go_simp
                                  with_reducible rfl
                                rotate_left
                                · simp only [Act.put, List.setIfInBounds_toArray, List.set_cons_zero, List.set_cons_succ, i64_w, i32_w]
                                  rfl
                                refine pure_ (i := 25) (N := some 73) (v := ?_) (a' := ?_) b13_26 rfl rfl (any_of HT_.out z13_2) (fun _ _ _ h => h) (Or.inl ⟨by rfl, ?_⟩) ?_ ?_
                                rotate_left
                                · intro w'
                                  go_simp
                                  with_reducible rfl
                                rotate_left
                                · simp only [Act.put, List.setIfInBounds_toArray, List.set_cons_zero, List.set_cons_succ, i64_w, i32_w]
                                  rfl
                                refine pure_ (i := 26) (N := some 74) (v := ?_) (a' := ?_) b13_27 rfl rfl (any_of HT_.out z13_2) (fun _ _ _ h => h) (Or.inl ⟨by rfl, ?_⟩) ?_ ?_
                                rotate_left
                                · intro w'
                                  go_simp
                                  with_reducible rfl
                                rotate_left
                                · simp only [Act.put, List.setIfInBounds_toArray, List.set_cons_zero, List.set_cons_succ, i64_w, i32_w]
                                  rfl
                                refine pure_ (i := 27) (N := some 75) (v := ?_) (a' := ?_) b13_28 rfl rfl (any_of HT_.out z13_2) (fun _ _ _ h => h) (Or.inl ⟨by rfl, ?_⟩) ?_ ?_
                                rotate_left
                                · intro w'
                                  go_simp
                                  with_reducible rfl
                                rotate_left
                                · simp only [Act.put, List.setIfInBounds_toArray, List.set_cons_zero, List.set_cons_succ, i64_w, i32_w]
                                  rfl
                                refine pure_ (i := 28) (N := some 76) (v := undef) (a' := ?_) b13_29 rfl rfl (any_of HT_.out z13_2) (fun _ _ _ h => h) (Or.inr ⟨by rfl, rfl⟩) ?_ ?_
                                rotate_left
                                · simp only [Act.put, List.setIfInBounds_toArray, List.set_cons_zero, List.set_cons_succ, i64_w, i32_w]
                                  rfl
                                refine pure_ (i := 29) (N := some 77) (v := undef) (a' := ?_) b13_30 rfl rfl (any_of HT_.out z13_2) (fun _ _ _ h => h) (Or.inr ⟨by rfl, rfl⟩) ?_ ?_
                                rotate_left
                                · simp only [Act.put, List.setIfInBounds_toArray, List.set_cons_zero, List.set_cons_succ, i64_w, i32_w]
                                  rfl
                                refine pure_ (i := 30) (N := some 78) (v := undef) (a' := ?_) b13_43 rfl rfl (any_of HT_.out z13_2) (fun _ _ _ h => h) (Or.inr ⟨by rfl, rfl⟩) ?_ ?_
                                rotate_left
                                · simp only [Act.put, List.setIfInBounds_toArray, List.set_cons_zero, List.set_cons_succ, i64_w, i32_w]
                                  rfl
                                refine pure_ (i := 31) (N := some 79) (v := undef) (a' := ?_) b13_44 rfl rfl (any_of HT_.out z13_2) (fun _ _ _ h => h) (Or.inr ⟨by rfl, rfl⟩) ?_ ?_
                                rotate_left
                                · simp only [Act.put, List.setIfInBounds_toArray, List.set_cons_zero, List.set_cons_succ, i64_w, i32_w]
                                  rfl
                                refine pure_ (i := 32) (N := some 80) (v := undef) (a' := ?_) b13_33 rfl rfl (any_of HT_.out z13_2) (fun _ _ _ h => h) (Or.inr ⟨by rfl, rfl⟩) ?_ ?_
                                rotate_left
                                · simp only [Act.put, List.setIfInBounds_toArray, List.set_cons_zero, List.set_cons_succ, i64_w, i32_w]
                                  rfl
                                refine pure_ (i := 33) (N := some 81) (v := undef) (a' := ?_) b13_34 rfl rfl (any_of HT_.out z13_2) (fun _ _ _ h => h) (Or.inr ⟨by rfl, rfl⟩) ?_ ?_
                                rotate_left
                                · simp only [Act.put, List.setIfInBounds_toArray, List.set_cons_zero, List.set_cons_succ, i64_w, i32_w]
                                  rfl
                                refine pure_ (i := 34) (N := some 82) (v := undef) (a' := ?_) b13_35 rfl rfl (any_of HT_.out z13_2) (fun _ _ _ h => h) (Or.inr ⟨by rfl, rfl⟩) ?_ ?_
                                rotate_left
                                · simp only [Act.put, List.setIfInBounds_toArray, List.set_cons_zero, List.set_cons_succ, i64_w, i32_w]
                                  rfl
                                refine pure_ (i := 35) (N := some 83) (v := ?_) (a' := ?_) b13_36 rfl rfl (any_of HT_.out z13_2) (fun _ _ _ h => h) (Or.inl ⟨by rfl, ?_⟩) ?_ ?_
                                rotate_left
                                · intro w'
                                  go_simp
                                  with_reducible rfl
                                rotate_left
                                · simp only [Act.put, List.setIfInBounds_toArray, List.set_cons_zero, List.set_cons_succ, i64_w, i32_w]
                                  rfl
                                refine done_ (done_of HT_.out z13_2) ?_
                                try go_wp2
                                go_ret
                                exact ⟨by first | rfl | (simp [errW_none, errW_some] <;> rfl) | (simp [*, errW_none, errW_some] <;> rfl) | (simp [*, errW_none, errW_some, i64_w]; done), by repeat (first | (with_reducible first | exact HB.out | apply below_alloc | apply pw_below_drewN | apply below_drew1 | refine below_set ?_ GE519.out | refine below_set ?_ GE542.out) | exact HB.out)⟩
                            · replace c65 := Bool.eq_false_iff.mpr c65
                              subst c65
                              have H1 : ((impl_HasVar.f k2 t527 x11_2).bind fun t556 => ((laws_has.f k2 t527 x11_2).bind fun t557 => (if (t556 != t557) = true then (some false) else (laws_FnWrites.l0 k2 t520 t527 t530 (wrap64 (x11_2 + 1)) t533 t536 t539 t540)))) = some r := by rw [if_neg (show ¬ (false = true) by decide)] at H; exact H
                              clear H
                              have H := H1
                              clear H1
                              replace H := Option.bind_eq_some_iff.mp H
                              obtain ⟨t556, A710, H⟩ := H
                              replace H : ((laws_has.f k2 t527 x11_2).bind fun t557 => (if (t556 != t557) = true then (some false) else (laws_FnWrites.l0 k2 t520 t527 t530 (wrap64 (x11_2 + 1)) t533 t536 t539 t540))) = some r := H
                              have A71 := Aside0.mk A710
                              clear A710
                              replace H := Option.bind_eq_some_iff.mp H
                              obtain ⟨t557, A720, H⟩ := H
                              replace H : (if (t556 != t557) = true then (some false) else (laws_FnWrites.l0 k2 t520 t527 t530 (wrap64 (x11_2 + 1)) t533 t536 t539 t540)) = some r := H
                              have A72 := Aside0.mk A720
                              clear A720
                              by_cases c73 : (t556 != t557) = true
                              · rw [if_pos c73] at H
                                have c73b0 : (t556 != t557) = true := c73
                                (try (have c73b1 : decide (t556 = t557) = false := by simpa using c73))
                                (try (have c73b2 : (t556 == t557) = false := by simpa using c73))
                                (try (have c73b3 : ¬ (t556 = t557) := by simpa using c73))
                                clear c73
                                obtain rfl := Option.some.inj H
                                try go_wp2
                                have n0_ := Aside0.mk (Kd.R_drew HO_4.out)
                                have n1_ := Aside0.mk (Kd.R_drew HO_7.out)
                                have n2_ := Aside0.mk (Kd.R_drew HO_8.out)
                                have n3_ := Aside0.mk (Kd.S_drew HO_520000.out)
                                have n4_ := Aside0.mk (Kd.R_drew HO_543000.out)
                                have n5_ := Aside0.mk (Kd.R_drew HO_543001.out)
                                have n6_ := Aside0.mk (blk_drew BK519.out)
                                have n7_ := Aside0.mk (blk_drew BK542.out)
                                have n8_ := Aside0.mk (below_drew1 HB.out)
                                clear HO_4
                                clear HO_7
                                clear HO_8
                                clear HO_520000
                                clear HO_543000
                                clear HO_543001
                                clear BK519
                                clear BK542
                                clear HB
                                have HO_4 := n0_
                                have HO_7 := n1_
                                have HO_8 := n2_
                                have HO_520000 := n3_
                                have HO_543000 := n4_
                                have HO_543001 := n5_
                                have BK519 := n6_
                                have BK542 := n7_
                                have HB := n8_
                                clear n0_ n1_ n2_ n3_ n4_ n5_ n6_ n7_ n8_
                                obtain ⟨Ao75, co75, eo75⟩ := Kd.R_slice HO_7.out
                                (first | subst eo75 | (injection eo75 with f1_ f2_ f3_; have f4_ := f1_.symm; have f5_ := f3_.symm; clear f1_ f2_ f3_; subst f4_; subst f5_))
                                have p550 : 0 ≤ (x11_2 : Int) := of_decide_eq_true z13_7
                                have q550 : x11_2 < (t533.length : Int) := of_decide_eq_true z13_7
                                obtain ⟨ad550, e550, hx550_0⟩ := Kd.at_int (Kd.R_reads' HO_543000.out).2.2 x11_2 p550 q550
                                cases e550
                                replace p550 := eq_true p550
                                replace q550 := eq_true q550
                                have p551 : 0 ≤ (x11_2 : Int) := of_decide_eq_true z13_7
                                have q551 : x11_2 < (t520.length : Int) := of_decide_eq_true z13_7
                                obtain ⟨ad551, e551, hx551_0⟩ := Kd.at_int (Kd.R_reads' HO_4.out).2.2 x11_2 p551 q551
                                cases e551
                                replace p551 := eq_true p551
                                replace q551 := eq_true q551
                                refine start_ (n := 36) (S := fun w' => w'.cell? ⟨gb542, 0, none⟩ = some (.slice (some ad550) t533.length co26) ∧ w'.cell? ⟨gb542, 1, none⟩ = some (.slice Ao29 t536.length co29) ∧ w'.cell? ⟨gb542, 2, none⟩ = some (.int .i64 t539) ∧ w'.cell? ⟨gb542, 3, none⟩ = some (.int .i64 t540) ∧ w'.cell? (ad550.add (x11_2).toNat) = some (.int .i64 (rd t533 x11_2)) ∧ w'.cell? (ad551.add (x11_2).toNat) = some (.int .i64 (rd t520 x11_2))) (ds := []) b13_0 z13_2 rfl rfl ⟨(blk_cell BK542.out 0).trans rfl, (blk_cell BK542.out 1).trans rfl, (blk_cell BK542.out 2).trans rfl, (blk_cell BK542.out 3).trans rfl, hx550_0, hx551_0⟩ (fun hHeld => ?_); refine with_tabW laws_FnWrites.tab15 laws_FnWrites.bits15 (fun HT_ HW_ => ?_)
                                generalize wr.drew = w74 at HO_4 HO_7 HO_8 HO_520000 HO_543000 HO_543001 BK519 BK542 HB hx550_0 hx551_0 hHeld ⊢
                                refine pure_ (i := 0) (N := some 48) (v := ?_) (a' := ?_) b13_1 rfl rfl (any_of HT_.out z13_2) (fun _ _ _ h => h) (Or.inl ⟨by rfl, ?_⟩) ?_ ?_
                                rotate_left
                                · intro w'
                                  go_simp
                                  with_reducible rfl
                                rotate_left
                                · simp only [Act.put, List.setIfInBounds_toArray, List.set_cons_zero, List.set_cons_succ, i64_w, i32_w]
                                  rfl
                                refine pure_ (i := 1) (N := some 49) (v := ?_) (a' := ?_) b13_2 rfl rfl (any_of HT_.out z13_2) (fun _ _ _ h => h) (Or.inl ⟨by rfl, ?_⟩) ?_ ?_
                                rotate_left
                                · intro w'
                                  go_simp
                                  with_reducible rfl
                                rotate_left
                                · simp only [Act.put, List.setIfInBounds_toArray, List.set_cons_zero, List.set_cons_succ, i64_w, i32_w]
                                  rfl
                                refine one_ (i := 2) (N := some 50) b13_3 rfl rfl (one_of HT_.out z13_2) (by decide) (fun K hK => ?_)
                                refine goes_ Try.func46 z13_2 rfl #[.slice Ao75 t527.length co75, .int .i64 x11_2] (by rfl) rfl rfl z13_0 ?_
                                with_reducible refine (laws_has.calls k2 _ _ t527 x11_2 false _ ?side1 ?side2 A36.out).mono ?_
                                (case side1 => exact z13_1)
                                (case side2 => exact z13_10)
                                rintro e w' ⟨rfl, ⟨nd, rfl⟩⟩
                                refine ⟨_, rfl, ?_⟩
                                obtain ⟨Ao76, co76, eo76⟩ := Kd.R_slice HO_8.out
                                (first | subst eo76 | (injection eo76 with f1_ f2_ f3_; have f4_ := f1_.symm; have f5_ := f3_.symm; clear f1_ f2_ f3_; subst f4_; subst f5_))
                                refine hK.out _ _ ⟨(blk_cell BK542.out 0).trans rfl, (blk_cell BK542.out 1).trans rfl, (blk_cell BK542.out 2).trans rfl, (blk_cell BK542.out 3).trans rfl, hHeld.2.2.2.2.1, hHeld.2.2.2.2.2⟩ (fun hHeld => ?_)
                                clear hK K
                                refine norm_ (a' := ?_) ?_ ?_
                                rotate_left
                                · show Act.put _ (some 50) _ = _
                                  simp only [Act.put, List.setIfInBounds_toArray, List.set_cons_zero, List.set_cons_succ, i64_w, i32_w]
                                  rfl
                                refine pure_ (i := 3) (N := some 51) (v := ?_) (a' := ?_) b13_4 rfl rfl (any_of HT_.out z13_2) (fun _ _ _ h => h) (Or.inl ⟨by rfl, ?_⟩) ?_ ?_
                                rotate_left
                                · intro w'
                                  go_simp
                                  with_reducible rfl
                                rotate_left
                                · simp only [Act.put, List.setIfInBounds_toArray, List.set_cons_zero, List.set_cons_succ, i64_w, i32_w]
                                  rfl
                                refine pure_ (i := 4) (N := some 52) (v := ?_) (a' := ?_) b13_5 rfl rfl (any_of HT_.out z13_2) (fun _ _ _ h => h) (Or.inl ⟨by rfl, ?_⟩) ?_ ?_
                                rotate_left
                                · intro w'
                                  go_simp
                                  with_reducible rfl
                                rotate_left
                                · simp only [Act.put, List.setIfInBounds_toArray, List.set_cons_zero, List.set_cons_succ, i64_w, i32_w]
                                  rfl
                                refine pure_ (i := 5) (N := some 53) (v := ?_) (a' := ?_) b13_6 rfl rfl (any_of HT_.out z13_2) (fun _ _ _ h => h) (Or.inl ⟨by rfl, ?_⟩) ?_ ?_
                                rotate_left
                                · intro w'
                                  go_simp
                                  with_reducible rfl
                                rotate_left
                                · simp only [Act.put, List.setIfInBounds_toArray, List.set_cons_zero, List.set_cons_succ, i64_w, i32_w]
                                  rfl
                                refine pure_ (i := 7) (N := some 55) (v := ?_) (a' := ?_) b13_37 rfl rfl (any_of HT_.out z13_2) (fun _ _ _ h => h) (Or.inl ⟨by rfl, ?_⟩) ?_ ?_
                                rotate_left
                                · intro w'
                                  go_simp
                                  with_reducible rfl
                                rotate_left
                                · simp only [Act.put, List.setIfInBounds_toArray, List.set_cons_zero, List.set_cons_succ, i64_w, i32_w]
                                  rfl
                                refine pure_ (i := 10) (N := some 58) (v := ?_) (a' := ?_) b13_38 rfl rfl (any_of HT_.out z13_2) (fun _ _ _ h => h) (Or.inl ⟨by rfl, ?_⟩) ?_ ?_
                                rotate_left
                                · intro w'
                                  go_simp
                                  with_reducible rfl
                                rotate_left
                                · simp only [Act.put, List.setIfInBounds_toArray, List.set_cons_zero, List.set_cons_succ, i64_w, i32_w]
                                  rfl
                                refine pure_ (i := 11) (N := some 59) (v := ?_) (a' := ?_) b13_39 rfl rfl (any_of HT_.out z13_2) (fun _ _ _ h => h) (Or.inl ⟨by rfl, ?_⟩) ?_ ?_
                                rotate_left
                                · intro w'
                                  go_simp
                                  with_reducible rfl
                                rotate_left
                                · simp only [Act.put, List.setIfInBounds_toArray, List.set_cons_zero, List.set_cons_succ, i64_w, i32_w]
                                  rfl
                                refine pure_ (i := 12) (N := some 60) (v := ?_) (a' := ?_) b13_40 rfl rfl (any_of HT_.out z13_2) (fun _ _ _ h => h) (Or.inl ⟨by rfl, ?_⟩) ?_ ?_
                                rotate_left
                                · intro w'
                                  go_simp
                                  with_reducible rfl
                                rotate_left
                                · simp only [Act.put, List.setIfInBounds_toArray, List.set_cons_zero, List.set_cons_succ, i64_w, i32_w]
                                  rfl
                                refine take_ (i := 6) (N := some 54) (v := ?_) (a' := ?_) b13_41 rfl rfl (take_ofW HT_.out HW_.out z13_2) (fun _ _ _ h => h) (Or.inl ⟨by rfl, ?_⟩) hHeld ?_ ?_
                                rotate_left
                                · rintro w' ⟨s0, s1, s2, s3, s4, s5⟩
                                  go_simp
                                  with_reducible rfl
                                rotate_left
                                · simp only [Act.put, List.setIfInBounds_toArray, List.set_cons_zero, List.set_cons_succ, i64_w, i32_w]
                                  rfl
                                refine pure_ (i := 8) (N := some 56) (v := ?_) (a' := ?_) b13_42 rfl rfl (any_of HT_.out z13_2) (fun _ _ _ h => h) (Or.inl ⟨by rfl, ?_⟩) ?_ ?_
                                rotate_left
                                · intro w'
                                  go_simp
                                  with_reducible rfl
                                rotate_left
                                · simp only [Act.put, List.setIfInBounds_toArray, List.set_cons_zero, List.set_cons_succ, i64_w, i32_w]
                                  rfl
                                refine take_ (i := 9) (N := some 57) (v := ?_) (a' := ?_) b13_13 rfl rfl (take_ofW HT_.out HW_.out z13_2) (fun _ _ _ h => h) (Or.inl ⟨by rfl, ?_⟩) hHeld ?_ ?_
                                rotate_left
                                · rintro w' ⟨s0, s1, s2, s3, s4, s5⟩
                                  go_simp
                                  with_reducible rfl
                                rotate_left
                                · simp only [Act.put, List.setIfInBounds_toArray, List.set_cons_zero, List.set_cons_succ, i64_w, i32_w]
                                  rfl
                                refine take_ (i := 13) (N := some 61) (v := ?_) (a' := ?_) b13_14 rfl rfl (take_ofW HT_.out HW_.out z13_2) (fun _ _ _ h => h) (Or.inl ⟨by rfl, ?_⟩) hHeld ?_ ?_
                                rotate_left
                                · rintro w' ⟨s0, s1, s2, s3, s4, s5⟩
                                  go_simp
                                  with_reducible rfl
                                rotate_left
                                · simp only [Act.put, List.setIfInBounds_toArray, List.set_cons_zero, List.set_cons_succ, i64_w, i32_w]
                                  rfl
                                refine pure_ (i := 14) (N := some 62) (v := ?_) (a' := ?_) b13_15 rfl rfl (any_of HT_.out z13_2) (fun _ _ _ h => h) (Or.inl ⟨by rfl, ?_⟩) ?_ ?_
                                rotate_left
                                · intro w'
                                  go_simp
                                  with_reducible rfl
                                rotate_left
                                · simp only [Act.put, List.setIfInBounds_toArray, List.set_cons_zero, List.set_cons_succ, i64_w, i32_w]
                                  rfl
                                refine pure_ (i := 15) (N := some 63) (v := ?_) (a' := ?_) b13_16 rfl rfl (any_of HT_.out z13_2) (fun _ _ _ h => h) (Or.inl ⟨by rfl, ?_⟩) ?_ ?_
                                rotate_left
                                · intro w'
                                  go_simp
                                  with_reducible rfl
                                rotate_left
                                · simp only [Act.put, List.setIfInBounds_toArray, List.set_cons_zero, List.set_cons_succ, i64_w, i32_w]
                                  rfl
                                refine pure_ (i := 16) (N := some 64) (v := ?_) (a' := ?_) b13_17 rfl rfl (any_of HT_.out z13_2) (fun _ _ _ h => h) (Or.inl ⟨by rfl, ?_⟩) ?_ ?_
                                rotate_left
                                · intro w'
                                  go_simp
                                  with_reducible rfl
                                rotate_left
                                · simp only [Act.put, List.setIfInBounds_toArray, List.set_cons_zero, List.set_cons_succ, i64_w, i32_w]
                                  rfl
                                refine pure_ (i := 17) (N := some 65) (v := ?_) (a' := ?_) b13_18 rfl rfl (any_of HT_.out z13_2) (fun _ _ _ h => h) (Or.inl ⟨by rfl, ?_⟩) ?_ ?_
                                rotate_left
                                · intro w'
                                  go_simp
                                  with_reducible rfl
                                rotate_left
                                · simp only [Act.put, List.setIfInBounds_toArray, List.set_cons_zero, List.set_cons_succ, i64_w, i32_w]
                                  rfl
                                refine pure_ (i := 18) (N := some 66) (v := ?_) (a' := ?_) b13_19 rfl rfl (any_of HT_.out z13_2) (fun _ _ _ h => h) (Or.inl ⟨by rfl, ?_⟩) ?_ ?_
                                rotate_left
                                · intro w'
                                  go_simp
                                  with_reducible rfl
                                rotate_left
                                · simp only [Act.put, List.setIfInBounds_toArray, List.set_cons_zero, List.set_cons_succ, i64_w, i32_w]
                                  rfl
                                refine one_ (i := 19) (N := some 67) b13_20 rfl rfl (one_of HT_.out z13_2) (by decide) (fun K hK => ?_)
                                refine goes_ Try.func46 z13_2 rfl #[.slice Ao76 t530.length co76, .int .i64 x11_2] (by rfl) rfl rfl z13_0 ?_
                                with_reducible refine (laws_has.calls k2 _ _ t530 x11_2 false _ ?side1 ?side2 A64.out).mono ?_
                                (case side1 => exact z13_4)
                                (case side2 => exact (Kd.R_reads' HO_8.out).2.1)
                                rintro e w' ⟨rfl, ⟨nd, rfl⟩⟩
                                refine ⟨_, rfl, ?_⟩
                                refine hK.out _ _ ⟨(blk_cell BK542.out 0).trans rfl, (blk_cell BK542.out 1).trans rfl, (blk_cell BK542.out 2).trans rfl, (blk_cell BK542.out 3).trans rfl, hHeld.2.2.2.2.1, hHeld.2.2.2.2.2⟩ (fun hHeld => ?_)
                                clear hK K
                                refine norm_ (a' := ?_) ?_ ?_
                                rotate_left
                                · show Act.put _ (some 67) _ = _
                                  simp only [Act.put, List.setIfInBounds_toArray, List.set_cons_zero, List.set_cons_succ, i64_w, i32_w]
                                  rfl
                                refine pure_ (i := 20) (N := some 68) (v := ?_) (a' := ?_) b13_21 rfl rfl (any_of HT_.out z13_2) (fun _ _ _ h => h) (Or.inl ⟨by rfl, ?_⟩) ?_ ?_
                                rotate_left
                                · intro w'
                                  go_simp
                                  with_reducible rfl
                                rotate_left
                                · simp only [Act.put, List.setIfInBounds_toArray, List.set_cons_zero, List.set_cons_succ, i64_w, i32_w]
                                  rfl
                                refine pure_ (i := 21) (N := some 69) (v := undef) (a' := ?_) b13_22 rfl rfl (any_of HT_.out z13_2) (fun _ _ _ h => h) (Or.inr ⟨by rfl, rfl⟩) ?_ ?_
                                rotate_left
                                · simp only [Act.put, List.setIfInBounds_toArray, List.set_cons_zero, List.set_cons_succ, i64_w, i32_w]
                                  rfl
                                refine pure_ (i := 22) (N := some 70) (v := undef) (a' := ?_) b13_23 rfl rfl (any_of HT_.out z13_2) (fun _ _ _ h => h) (Or.inr ⟨by rfl, rfl⟩) ?_ ?_
                                rotate_left
                                · simp only [Act.put, List.setIfInBounds_toArray, List.set_cons_zero, List.set_cons_succ, i64_w, i32_w]
                                  rfl
                                refine pure_ (i := 23) (N := some 71) (v := undef) (a' := ?_) b13_24 rfl rfl (any_of HT_.out z13_2) (fun _ _ _ h => h) (Or.inr ⟨by rfl, rfl⟩) ?_ ?_
                                rotate_left
                                · simp only [Act.put, List.setIfInBounds_toArray, List.set_cons_zero, List.set_cons_succ, i64_w, i32_w]
                                  rfl
                                refine pure_ (i := 24) (N := some 72) (v := undef) (a' := ?_) b13_25 rfl rfl (any_of HT_.out z13_2) (fun _ _ _ h => h) (Or.inr ⟨by rfl, rfl⟩) ?_ ?_
                                rotate_left
                                · simp only [Act.put, List.setIfInBounds_toArray, List.set_cons_zero, List.set_cons_succ, i64_w, i32_w]
                                  rfl
                                refine pure_ (i := 25) (N := some 73) (v := ?_) (a' := ?_) b13_26 rfl rfl (any_of HT_.out z13_2) (fun _ _ _ h => h) (Or.inl ⟨by rfl, ?_⟩) ?_ ?_
                                rotate_left
                                · intro w'
                                  go_simp
                                  with_reducible rfl
                                rotate_left
                                · simp only [Act.put, List.setIfInBounds_toArray, List.set_cons_zero, List.set_cons_succ, i64_w, i32_w]
                                  rfl
                                refine pure_ (i := 26) (N := some 74) (v := ?_) (a' := ?_) b13_27 rfl rfl (any_of HT_.out z13_2) (fun _ _ _ h => h) (Or.inl ⟨by rfl, ?_⟩) ?_ ?_
                                rotate_left
                                · intro w'
                                  go_simp
                                  with_reducible rfl
                                rotate_left
                                · simp only [Act.put, List.setIfInBounds_toArray, List.set_cons_zero, List.set_cons_succ, i64_w, i32_w]
                                  rfl
                                refine pure_ (i := 27) (N := some 75) (v := ?_) (a' := ?_) b13_28 rfl rfl (any_of HT_.out z13_2) (fun _ _ _ h => h) (Or.inl ⟨by rfl, ?_⟩) ?_ ?_
                                rotate_left
                                · intro w'
                                  go_simp
                                  with_reducible rfl
                                rotate_left
                                · simp only [Act.put, List.setIfInBounds_toArray, List.set_cons_zero, List.set_cons_succ, i64_w, i32_w]
                                  rfl
                                refine pure_ (i := 28) (N := some 76) (v := ?_) (a' := ?_) b13_29 rfl rfl (any_of HT_.out z13_2) (fun _ _ _ h => h) (Or.inl ⟨by rfl, ?_⟩) ?_ ?_
                                rotate_left
                                · intro w'
                                  go_simp
                                  with_reducible rfl
                                rotate_left
                                · simp only [Act.put, List.setIfInBounds_toArray, List.set_cons_zero, List.set_cons_succ, i64_w, i32_w]
                                  rfl
                                refine pure_ (i := 29) (N := some 77) (v := ?_) (a' := ?_) b13_30 rfl rfl (any_of HT_.out z13_2) (fun _ _ _ h => h) (Or.inl ⟨by rfl, ?_⟩) ?_ ?_
                                rotate_left
                                · intro w'
                                  go_simp
                                  with_reducible rfl
                                rotate_left
                                · simp only [Act.put, List.setIfInBounds_toArray, List.set_cons_zero, List.set_cons_succ, i64_w, i32_w]
                                  rfl
                                refine pure_ (i := 31) (N := some 79) (v := ?_) (a' := ?_) b13_31 rfl rfl (any_of HT_.out z13_2) (fun _ _ _ h => h) (Or.inl ⟨by rfl, ?_⟩) ?_ ?_
                                rotate_left
                                · intro w'
                                  go_simp
                                  with_reducible rfl
                                rotate_left
                                · simp only [Act.put, List.setIfInBounds_toArray, List.set_cons_zero, List.set_cons_succ, i64_w, i32_w]
                                  rfl
                                refine pure_ (i := 32) (N := some 80) (v := ?_) (a' := ?_) b13_32 rfl rfl (any_of HT_.out z13_2) (fun _ _ _ h => h) (Or.inl ⟨by rfl, ?_⟩) ?_ ?_
                                rotate_left
                                · intro w'
                                  go_simp
                                  with_reducible rfl
                                rotate_left
                                · simp only [Act.put, List.setIfInBounds_toArray, List.set_cons_zero, List.set_cons_succ, i64_w, i32_w]
                                  rfl
                                refine one_ (i := 30) (N := some 78) b13_33 rfl rfl (one_of HT_.out z13_2) (by decide) (fun K hK => ?_)
                                refine goes_ Try.func47 z13_2 rfl #[.slice Ao75 t527.length co75, .int .i64 x11_2] (by rfl) rfl rfl z13_0 ?_
                                with_reducible refine (impl_HasVar.calls k2 _ _ t527 x11_2 t556 _ ?side1 ?side2 A71.out).mono ?_
                                (case side1 => exact z13_1)
                                (case side2 => exact z13_10)
                                rintro e w' ⟨rfl, ⟨nd, rfl⟩⟩
                                refine ⟨_, rfl, ?_⟩
                                refine hK.out _ _ ⟨(blk_cell BK542.out 0).trans rfl, (blk_cell BK542.out 1).trans rfl, (blk_cell BK542.out 2).trans rfl, (blk_cell BK542.out 3).trans rfl, hHeld.2.2.2.2.1, hHeld.2.2.2.2.2⟩ (fun hHeld => ?_)
                                clear hK K
                                refine norm_ (a' := ?_) ?_ ?_
                                rotate_left
                                · show Act.put _ (some 78) _ = _
                                  simp only [Act.put, List.setIfInBounds_toArray, List.set_cons_zero, List.set_cons_succ, i64_w, i32_w]
                                  rfl
                                refine one_ (i := 33) (N := some 81) b13_34 rfl rfl (one_of HT_.out z13_2) (by decide) (fun K hK => ?_)
                                refine goes_ Try.func46 z13_2 rfl #[.slice Ao75 t527.length co75, .int .i64 x11_2] (by rfl) rfl rfl z13_0 ?_
                                with_reducible refine (laws_has.calls k2 _ _ t527 x11_2 t557 _ ?side1 ?side2 A72.out).mono ?_
                                (case side1 => exact z13_1)
                                (case side2 => exact z13_10)
                                rintro e w' ⟨rfl, ⟨nd, rfl⟩⟩
                                refine ⟨_, rfl, ?_⟩
                                refine hK.out _ _ ⟨(blk_cell BK542.out 0).trans rfl, (blk_cell BK542.out 1).trans rfl, (blk_cell BK542.out 2).trans rfl, (blk_cell BK542.out 3).trans rfl, hHeld.2.2.2.2.1, hHeld.2.2.2.2.2⟩ (fun hHeld => ?_)
                                clear hK K
                                refine norm_ (a' := ?_) ?_ ?_
                                rotate_left
                                · show Act.put _ (some 81) _ = _
                                  simp only [Act.put, List.setIfInBounds_toArray, List.set_cons_zero, List.set_cons_succ, i64_w, i32_w]
                                  rfl
                                refine pure_ (i := 34) (N := some 82) (v := ?_) (a' := ?_) b13_35 rfl rfl (any_of HT_.out z13_2) (fun _ _ _ h => h) (Or.inl ⟨by rfl, ?_⟩) ?_ ?_
                                rotate_left
                                · intro w'
                                  go_simp
                                  with_reducible rfl
                                rotate_left
                                · simp only [Act.put, List.setIfInBounds_toArray, List.set_cons_zero, List.set_cons_succ, i64_w, i32_w]
                                  rfl
                                refine pure_ (i := 35) (N := some 83) (v := ?_) (a' := ?_) b13_36 rfl rfl (any_of HT_.out z13_2) (fun _ _ _ h => h) (Or.inl ⟨by rfl, ?_⟩) ?_ ?_
                                rotate_left
                                · intro w'
                                  go_simp
                                  with_reducible rfl
                                rotate_left
                                · simp only [Act.put, List.setIfInBounds_toArray, List.set_cons_zero, List.set_cons_succ, i64_w, i32_w]
                                  rfl
                                refine done_ (done_of HT_.out z13_2) ?_
                                try go_wp2
                                go_ret
                                exact ⟨by first | rfl | (simp [errW_none, errW_some] <;> rfl) | (simp [*, errW_none, errW_some] <;> rfl) | (simp [*, errW_none, errW_some, i64_w]; done), by repeat (first | (with_reducible first | exact HB.out | apply below_alloc | apply pw_below_drewN | apply below_drew1 | refine below_set ?_ GE519.out | refine below_set ?_ GE542.out) | exact HB.out)⟩
                              · rw [if_neg c73] at H
                                have c73b0 : (t556 != t557) = false := by simpa using c73
                                (try (have c73b1 : decide (t556 = t557) = true := by simpa using c73))
                                (try (have c73b2 : (t556 == t557) = true := by simpa using c73))
                                clear c73
                                have H' := Aside0.mk H
                                clear H
                                try go_wp2
                                have n0_ := Aside0.mk (Kd.R_drew HO_4.out)
                                have n1_ := Aside0.mk (Kd.R_drew HO_7.out)
                                have n2_ := Aside0.mk (Kd.R_drew HO_8.out)
                                have n3_ := Aside0.mk (Kd.S_drew HO_520000.out)
                                have n4_ := Aside0.mk (Kd.R_drew HO_543000.out)
                                have n5_ := Aside0.mk (Kd.R_drew HO_543001.out)
                                have n6_ := Aside0.mk (blk_drew BK519.out)
                                have n7_ := Aside0.mk (blk_drew BK542.out)
                                have n8_ := Aside0.mk (below_drew1 HB.out)
                                clear HO_4
                                clear HO_7
                                clear HO_8
                                clear HO_520000
                                clear HO_543000
                                clear HO_543001
                                clear BK519
                                clear BK542
                                clear HB
                                have HO_4 := n0_
                                have HO_7 := n1_
                                have HO_8 := n2_
                                have HO_520000 := n3_
                                have HO_543000 := n4_
                                have HO_543001 := n5_
                                have BK519 := n6_
                                have BK542 := n7_
                                have HB := n8_
                                clear n0_ n1_ n2_ n3_ n4_ n5_ n6_ n7_ n8_
                                obtain ⟨Ao78, co78, eo78⟩ := Kd.R_slice HO_7.out
                                (first | subst eo78 | (injection eo78 with f1_ f2_ f3_; have f4_ := f1_.symm; have f5_ := f3_.symm; clear f1_ f2_ f3_; subst f4_; subst f5_))
                                have p550 : 0 ≤ (x11_2 : Int) := of_decide_eq_true z13_7
                                have q550 : x11_2 < (t533.length : Int) := of_decide_eq_true z13_7
                                obtain ⟨ad550, e550, hx550_0⟩ := Kd.at_int (Kd.R_reads' HO_543000.out).2.2 x11_2 p550 q550
                                cases e550
                                replace p550 := eq_true p550
                                replace q550 := eq_true q550
                                have p551 : 0 ≤ (x11_2 : Int) := of_decide_eq_true z13_7
                                have q551 : x11_2 < (t520.length : Int) := of_decide_eq_true z13_7
                                obtain ⟨ad551, e551, hx551_0⟩ := Kd.at_int (Kd.R_reads' HO_4.out).2.2 x11_2 p551 q551
                                cases e551
                                replace p551 := eq_true p551
                                replace q551 := eq_true q551
                                refine start_ (n := 36) (S := fun w' => w'.cell? ⟨gb542, 0, none⟩ = some (.slice (some ad550) t533.length co26) ∧ w'.cell? ⟨gb542, 1, none⟩ = some (.slice Ao29 t536.length co29) ∧ w'.cell? ⟨gb542, 2, none⟩ = some (.int .i64 t539) ∧ w'.cell? ⟨gb542, 3, none⟩ = some (.int .i64 t540) ∧ w'.cell? (ad550.add (x11_2).toNat) = some (.int .i64 (rd t533 x11_2)) ∧ w'.cell? (ad551.add (x11_2).toNat) = some (.int .i64 (rd t520 x11_2))) (ds := []) b13_0 z13_2 rfl rfl ⟨(blk_cell BK542.out 0).trans rfl, (blk_cell BK542.out 1).trans rfl, (blk_cell BK542.out 2).trans rfl, (blk_cell BK542.out 3).trans rfl, hx550_0, hx551_0⟩ (fun hHeld => ?_); refine with_tabW laws_FnWrites.tab15 laws_FnWrites.bits15 (fun HT_ HW_ => ?_)
                                generalize wr.drew = w77 at HO_4 HO_7 HO_8 HO_520000 HO_543000 HO_543001 BK519 BK542 HB hx550_0 hx551_0 hHeld ⊢
                                refine pure_ (i := 0) (N := some 48) (v := ?_) (a' := ?_) b13_1 rfl rfl (any_of HT_.out z13_2) (fun _ _ _ h => h) (Or.inl ⟨by rfl, ?_⟩) ?_ ?_
                                rotate_left
                                · intro w'
                                  go_simp
                                  with_reducible rfl
                                rotate_left
                                · simp only [Act.put, List.setIfInBounds_toArray, List.set_cons_zero, List.set_cons_succ, i64_w, i32_w]
                                  rfl
                                refine pure_ (i := 1) (N := some 49) (v := ?_) (a' := ?_) b13_2 rfl rfl (any_of HT_.out z13_2) (fun _ _ _ h => h) (Or.inl ⟨by rfl, ?_⟩) ?_ ?_
                                rotate_left
                                · intro w'
                                  go_simp
                                  with_reducible rfl
                                rotate_left
                                · simp only [Act.put, List.setIfInBounds_toArray, List.set_cons_zero, List.set_cons_succ, i64_w, i32_w]
                                  rfl
                                refine one_ (i := 2) (N := some 50) b13_3 rfl rfl (one_of HT_.out z13_2) (by decide) (fun K hK => ?_)
                                refine goes_ Try.func46 z13_2 rfl #[.slice Ao78 t527.length co78, .int .i64 x11_2] (by rfl) rfl rfl z13_0 ?_
                                with_reducible refine (laws_has.calls k2 _ _ t527 x11_2 false _ ?side1 ?side2 A36.out).mono ?_
                                (case side1 => exact z13_1)
                                (case side2 => exact z13_10)
                                rintro e w' ⟨rfl, ⟨nd, rfl⟩⟩
                                refine ⟨_, rfl, ?_⟩
                                obtain ⟨Ao79, co79, eo79⟩ := Kd.R_slice HO_8.out
                                (first | subst eo79 | (injection eo79 with f1_ f2_ f3_; have f4_ := f1_.symm; have f5_ := f3_.symm; clear f1_ f2_ f3_; subst f4_; subst f5_))
                                refine hK.out _ _ ⟨(blk_cell BK542.out 0).trans rfl, (blk_cell BK542.out 1).trans rfl, (blk_cell BK542.out 2).trans rfl, (blk_cell BK542.out 3).trans rfl, hHeld.2.2.2.2.1, hHeld.2.2.2.2.2⟩ (fun hHeld => ?_)
                                clear hK K
                                refine norm_ (a' := ?_) ?_ ?_
                                rotate_left
                                · show Act.put _ (some 50) _ = _
                                  simp only [Act.put, List.setIfInBounds_toArray, List.set_cons_zero, List.set_cons_succ, i64_w, i32_w]
                                  rfl
                                refine pure_ (i := 3) (N := some 51) (v := ?_) (a' := ?_) b13_4 rfl rfl (any_of HT_.out z13_2) (fun _ _ _ h => h) (Or.inl ⟨by rfl, ?_⟩) ?_ ?_
                                rotate_left
                                · intro w'
                                  go_simp
                                  with_reducible rfl
                                rotate_left
                                · simp only [Act.put, List.setIfInBounds_toArray, List.set_cons_zero, List.set_cons_succ, i64_w, i32_w]
                                  rfl
                                refine pure_ (i := 4) (N := some 52) (v := ?_) (a' := ?_) b13_5 rfl rfl (any_of HT_.out z13_2) (fun _ _ _ h => h) (Or.inl ⟨by rfl, ?_⟩) ?_ ?_
                                rotate_left
                                · intro w'
                                  go_simp
                                  with_reducible rfl
                                rotate_left
                                · simp only [Act.put, List.setIfInBounds_toArray, List.set_cons_zero, List.set_cons_succ, i64_w, i32_w]
                                  rfl
                                refine pure_ (i := 5) (N := some 53) (v := ?_) (a' := ?_) b13_6 rfl rfl (any_of HT_.out z13_2) (fun _ _ _ h => h) (Or.inl ⟨by rfl, ?_⟩) ?_ ?_
                                rotate_left
                                · intro w'
                                  go_simp
                                  with_reducible rfl
                                rotate_left
                                · simp only [Act.put, List.setIfInBounds_toArray, List.set_cons_zero, List.set_cons_succ, i64_w, i32_w]
                                  rfl
                                refine pure_ (i := 7) (N := some 55) (v := ?_) (a' := ?_) b13_37 rfl rfl (any_of HT_.out z13_2) (fun _ _ _ h => h) (Or.inl ⟨by rfl, ?_⟩) ?_ ?_
                                rotate_left
                                · intro w'
                                  go_simp
                                  with_reducible rfl
                                rotate_left
                                · simp only [Act.put, List.setIfInBounds_toArray, List.set_cons_zero, List.set_cons_succ, i64_w, i32_w]
                                  rfl
                                refine pure_ (i := 10) (N := some 58) (v := ?_) (a' := ?_) b13_38 rfl rfl (any_of HT_.out z13_2) (fun _ _ _ h => h) (Or.inl ⟨by rfl, ?_⟩) ?_ ?_
                                rotate_left
                                · intro w'
                                  go_simp
                                  with_reducible rfl
                                rotate_left
                                · simp only [Act.put, List.setIfInBounds_toArray, List.set_cons_zero, List.set_cons_succ, i64_w, i32_w]
                                  rfl
                                refine pure_ (i := 11) (N := some 59) (v := ?_) (a' := ?_) b13_39 rfl rfl (any_of HT_.out z13_2) (fun _ _ _ h => h) (Or.inl ⟨by rfl, ?_⟩) ?_ ?_
                                rotate_left
                                · intro w'
                                  go_simp
                                  with_reducible rfl
                                rotate_left
                                · simp only [Act.put, List.setIfInBounds_toArray, List.set_cons_zero, List.set_cons_succ, i64_w, i32_w]
                                  rfl
                                refine pure_ (i := 12) (N := some 60) (v := ?_) (a' := ?_) b13_40 rfl rfl (any_of HT_.out z13_2) (fun _ _ _ h => h) (Or.inl ⟨by rfl, ?_⟩) ?_ ?_
                                rotate_left
                                · intro w'
                                  go_simp
                                  with_reducible rfl
                                rotate_left
                                · simp only [Act.put, List.setIfInBounds_toArray, List.set_cons_zero, List.set_cons_succ, i64_w, i32_w]
                                  rfl
                                refine take_ (i := 6) (N := some 54) (v := ?_) (a' := ?_) b13_41 rfl rfl (take_ofW HT_.out HW_.out z13_2) (fun _ _ _ h => h) (Or.inl ⟨by rfl, ?_⟩) hHeld ?_ ?_
                                rotate_left
                                · rintro w' ⟨s0, s1, s2, s3, s4, s5⟩
                                  go_simp
                                  with_reducible rfl
                                rotate_left
                                · simp only [Act.put, List.setIfInBounds_toArray, List.set_cons_zero, List.set_cons_succ, i64_w, i32_w]
                                  rfl
                                refine pure_ (i := 8) (N := some 56) (v := ?_) (a' := ?_) b13_42 rfl rfl (any_of HT_.out z13_2) (fun _ _ _ h => h) (Or.inl ⟨by rfl, ?_⟩) ?_ ?_
                                rotate_left
                                · intro w'
                                  go_simp
                                  with_reducible rfl
                                rotate_left
                                · simp only [Act.put, List.setIfInBounds_toArray, List.set_cons_zero, List.set_cons_succ, i64_w, i32_w]
                                  rfl
                                refine take_ (i := 9) (N := some 57) (v := ?_) (a' := ?_) b13_13 rfl rfl (take_ofW HT_.out HW_.out z13_2) (fun _ _ _ h => h) (Or.inl ⟨by rfl, ?_⟩) hHeld ?_ ?_
                                rotate_left
                                · rintro w' ⟨s0, s1, s2, s3, s4, s5⟩
                                  go_simp
                                  with_reducible rfl
                                rotate_left
                                · simp only [Act.put, List.setIfInBounds_toArray, List.set_cons_zero, List.set_cons_succ, i64_w, i32_w]
                                  rfl
                                refine take_ (i := 13) (N := some 61) (v := ?_) (a' := ?_) b13_14 rfl rfl (take_ofW HT_.out HW_.out z13_2) (fun _ _ _ h => h) (Or.inl ⟨by rfl, ?_⟩) hHeld ?_ ?_
                                rotate_left
                                · rintro w' ⟨s0, s1, s2, s3, s4, s5⟩
                                  go_simp
                                  with_reducible rfl
                                rotate_left
                                · simp only [Act.put, List.setIfInBounds_toArray, List.set_cons_zero, List.set_cons_succ, i64_w, i32_w]
                                  rfl
                                refine pure_ (i := 14) (N := some 62) (v := ?_) (a' := ?_) b13_15 rfl rfl (any_of HT_.out z13_2) (fun _ _ _ h => h) (Or.inl ⟨by rfl, ?_⟩) ?_ ?_
                                rotate_left
                                · intro w'
                                  go_simp
                                  with_reducible rfl
                                rotate_left
                                · simp only [Act.put, List.setIfInBounds_toArray, List.set_cons_zero, List.set_cons_succ, i64_w, i32_w]
                                  rfl
                                refine pure_ (i := 15) (N := some 63) (v := ?_) (a' := ?_) b13_16 rfl rfl (any_of HT_.out z13_2) (fun _ _ _ h => h) (Or.inl ⟨by rfl, ?_⟩) ?_ ?_
                                rotate_left
                                · intro w'
                                  go_simp
                                  with_reducible rfl
                                rotate_left
                                · simp only [Act.put, List.setIfInBounds_toArray, List.set_cons_zero, List.set_cons_succ, i64_w, i32_w]
                                  rfl
                                refine pure_ (i := 16) (N := some 64) (v := ?_) (a' := ?_) b13_17 rfl rfl (any_of HT_.out z13_2) (fun _ _ _ h => h) (Or.inl ⟨by rfl, ?_⟩) ?_ ?_
                                rotate_left
                                · intro w'
                                  go_simp
                                  with_reducible rfl
                                rotate_left
                                · simp only [Act.put, List.setIfInBounds_toArray, List.set_cons_zero, List.set_cons_succ, i64_w, i32_w]
                                  rfl
                                refine pure_ (i := 17) (N := some 65) (v := ?_) (a' := ?_) b13_18 rfl rfl (any_of HT_.out z13_2) (fun _ _ _ h => h) (Or.inl ⟨by rfl, ?_⟩) ?_ ?_
                                rotate_left
                                · intro w'
                                  go_simp
                                  with_reducible rfl
                                rotate_left
                                · simp only [Act.put, List.setIfInBounds_toArray, List.set_cons_zero, List.set_cons_succ, i64_w, i32_w]
                                  rfl
                                refine pure_ (i := 18) (N := some 66) (v := ?_) (a' := ?_) b13_19 rfl rfl (any_of HT_.out z13_2) (fun _ _ _ h => h) (Or.inl ⟨by rfl, ?_⟩) ?_ ?_
                                rotate_left
                                · intro w'
                                  go_simp
                                  with_reducible rfl
                                rotate_left
                                · simp only [Act.put, List.setIfInBounds_toArray, List.set_cons_zero, List.set_cons_succ, i64_w, i32_w]
                                  rfl
                                refine one_ (i := 19) (N := some 67) b13_20 rfl rfl (one_of HT_.out z13_2) (by decide) (fun K hK => ?_)
                                refine goes_ Try.func46 z13_2 rfl #[.slice Ao79 t530.length co79, .int .i64 x11_2] (by rfl) rfl rfl z13_0 ?_
                                with_reducible refine (laws_has.calls k2 _ _ t530 x11_2 false _ ?side1 ?side2 A64.out).mono ?_
                                (case side1 => exact z13_4)
                                (case side2 => exact (Kd.R_reads' HO_8.out).2.1)
                                rintro e w' ⟨rfl, ⟨nd, rfl⟩⟩
                                refine ⟨_, rfl, ?_⟩
                                refine hK.out _ _ ⟨(blk_cell BK542.out 0).trans rfl, (blk_cell BK542.out 1).trans rfl, (blk_cell BK542.out 2).trans rfl, (blk_cell BK542.out 3).trans rfl, hHeld.2.2.2.2.1, hHeld.2.2.2.2.2⟩ (fun hHeld => ?_)
                                clear hK K
                                refine norm_ (a' := ?_) ?_ ?_
                                rotate_left
                                · show Act.put _ (some 67) _ = _
                                  simp only [Act.put, List.setIfInBounds_toArray, List.set_cons_zero, List.set_cons_succ, i64_w, i32_w]
                                  rfl
                                refine pure_ (i := 20) (N := some 68) (v := ?_) (a' := ?_) b13_21 rfl rfl (any_of HT_.out z13_2) (fun _ _ _ h => h) (Or.inl ⟨by rfl, ?_⟩) ?_ ?_
                                rotate_left
                                · intro w'
                                  go_simp
                                  with_reducible rfl
                                rotate_left
                                · simp only [Act.put, List.setIfInBounds_toArray, List.set_cons_zero, List.set_cons_succ, i64_w, i32_w]
                                  rfl
                                refine pure_ (i := 21) (N := some 69) (v := undef) (a' := ?_) b13_22 rfl rfl (any_of HT_.out z13_2) (fun _ _ _ h => h) (Or.inr ⟨by rfl, rfl⟩) ?_ ?_
                                rotate_left
                                · simp only [Act.put, List.setIfInBounds_toArray, List.set_cons_zero, List.set_cons_succ, i64_w, i32_w]
                                  rfl
                                refine pure_ (i := 22) (N := some 70) (v := undef) (a' := ?_) b13_23 rfl rfl (any_of HT_.out z13_2) (fun _ _ _ h => h) (Or.inr ⟨by rfl, rfl⟩) ?_ ?_
                                rotate_left
                                · simp only [Act.put, List.setIfInBounds_toArray, List.set_cons_zero, List.set_cons_succ, i64_w, i32_w]
                                  rfl
                                refine pure_ (i := 23) (N := some 71) (v := undef) (a' := ?_) b13_24 rfl rfl (any_of HT_.out z13_2) (fun _ _ _ h => h) (Or.inr ⟨by rfl, rfl⟩) ?_ ?_
                                rotate_left
                                · simp only [Act.put, List.setIfInBounds_toArray, List.set_cons_zero, List.set_cons_succ, i64_w, i32_w]
                                  rfl
                                refine pure_ (i := 24) (N := some 72) (v := undef) (a' := ?_) b13_25 rfl rfl (any_of HT_.out z13_2) (fun _ _ _ h => h) (Or.inr ⟨by rfl, rfl⟩) ?_ ?_
                                rotate_left
                                · simp only [Act.put, List.setIfInBounds_toArray, List.set_cons_zero, List.set_cons_succ, i64_w, i32_w]
                                  rfl
                                refine pure_ (i := 25) (N := some 73) (v := ?_) (a' := ?_) b13_26 rfl rfl (any_of HT_.out z13_2) (fun _ _ _ h => h) (Or.inl ⟨by rfl, ?_⟩) ?_ ?_
                                rotate_left
                                · intro w'
                                  go_simp
                                  with_reducible rfl
                                rotate_left
                                · simp only [Act.put, List.setIfInBounds_toArray, List.set_cons_zero, List.set_cons_succ, i64_w, i32_w]
                                  rfl
                                refine pure_ (i := 26) (N := some 74) (v := ?_) (a' := ?_) b13_27 rfl rfl (any_of HT_.out z13_2) (fun _ _ _ h => h) (Or.inl ⟨by rfl, ?_⟩) ?_ ?_
                                rotate_left
                                · intro w'
                                  go_simp
                                  with_reducible rfl
                                rotate_left
                                · simp only [Act.put, List.setIfInBounds_toArray, List.set_cons_zero, List.set_cons_succ, i64_w, i32_w]
                                  rfl
                                refine pure_ (i := 27) (N := some 75) (v := ?_) (a' := ?_) b13_28 rfl rfl (any_of HT_.out z13_2) (fun _ _ _ h => h) (Or.inl ⟨by rfl, ?_⟩) ?_ ?_
                                rotate_left
                                · intro w'
                                  go_simp
                                  with_reducible rfl
                                rotate_left
                                · simp only [Act.put, List.setIfInBounds_toArray, List.set_cons_zero, List.set_cons_succ, i64_w, i32_w]
                                  rfl
                                refine pure_ (i := 28) (N := some 76) (v := ?_) (a' := ?_) b13_29 rfl rfl (any_of HT_.out z13_2) (fun _ _ _ h => h) (Or.inl ⟨by rfl, ?_⟩) ?_ ?_
                                rotate_left
                                · intro w'
                                  go_simp
                                  with_reducible rfl
                                rotate_left
                                · simp only [Act.put, List.setIfInBounds_toArray, List.set_cons_zero, List.set_cons_succ, i64_w, i32_w]
                                  rfl
                                refine pure_ (i := 29) (N := some 77) (v := ?_) (a' := ?_) b13_30 rfl rfl (any_of HT_.out z13_2) (fun _ _ _ h => h) (Or.inl ⟨by rfl, ?_⟩) ?_ ?_
                                rotate_left
                                · intro w'
                                  go_simp
                                  with_reducible rfl
                                rotate_left
                                · simp only [Act.put, List.setIfInBounds_toArray, List.set_cons_zero, List.set_cons_succ, i64_w, i32_w]
                                  rfl
                                refine pure_ (i := 31) (N := some 79) (v := ?_) (a' := ?_) b13_31 rfl rfl (any_of HT_.out z13_2) (fun _ _ _ h => h) (Or.inl ⟨by rfl, ?_⟩) ?_ ?_
                                rotate_left
                                · intro w'
                                  go_simp
                                  with_reducible rfl
                                rotate_left
                                · simp only [Act.put, List.setIfInBounds_toArray, List.set_cons_zero, List.set_cons_succ, i64_w, i32_w]
                                  rfl
                                refine pure_ (i := 32) (N := some 80) (v := ?_) (a' := ?_) b13_32 rfl rfl (any_of HT_.out z13_2) (fun _ _ _ h => h) (Or.inl ⟨by rfl, ?_⟩) ?_ ?_
                                rotate_left
                                · intro w'
                                  go_simp
                                  with_reducible rfl
                                rotate_left
                                · simp only [Act.put, List.setIfInBounds_toArray, List.set_cons_zero, List.set_cons_succ, i64_w, i32_w]
                                  rfl
                                refine one_ (i := 30) (N := some 78) b13_33 rfl rfl (one_of HT_.out z13_2) (by decide) (fun K hK => ?_)
                                refine goes_ Try.func47 z13_2 rfl #[.slice Ao78 t527.length co78, .int .i64 x11_2] (by rfl) rfl rfl z13_0 ?_
                                with_reducible refine (impl_HasVar.calls k2 _ _ t527 x11_2 t556 _ ?side1 ?side2 A71.out).mono ?_
                                (case side1 => exact z13_1)
                                (case side2 => exact z13_10)
                                rintro e w' ⟨rfl, ⟨nd, rfl⟩⟩
                                refine ⟨_, rfl, ?_⟩
                                refine hK.out _ _ ⟨(blk_cell BK542.out 0).trans rfl, (blk_cell BK542.out 1).trans rfl, (blk_cell BK542.out 2).trans rfl, (blk_cell BK542.out 3).trans rfl, hHeld.2.2.2.2.1, hHeld.2.2.2.2.2⟩ (fun hHeld => ?_)
                                clear hK K
                                refine norm_ (a' := ?_) ?_ ?_
                                rotate_left
                                · show Act.put _ (some 78) _ = _
                                  simp only [Act.put, List.setIfInBounds_toArray, List.set_cons_zero, List.set_cons_succ, i64_w, i32_w]
                                  rfl
                                refine one_ (i := 33) (N := some 81) b13_34 rfl rfl (one_of HT_.out z13_2) (by decide) (fun K hK => ?_)
                                refine goes_ Try.func46 z13_2 rfl #[.slice Ao78 t527.length co78, .int .i64 x11_2] (by rfl) rfl rfl z13_0 ?_
                                with_reducible refine (laws_has.calls k2 _ _ t527 x11_2 t557 _ ?side1 ?side2 A72.out).mono ?_
                                (case side1 => exact z13_1)
                                (case side2 => exact z13_10)
                                rintro e w' ⟨rfl, ⟨nd, rfl⟩⟩
                                refine ⟨_, rfl, ?_⟩
                                refine hK.out _ _ ⟨(blk_cell BK542.out 0).trans rfl, (blk_cell BK542.out 1).trans rfl, (blk_cell BK542.out 2).trans rfl, (blk_cell BK542.out 3).trans rfl, hHeld.2.2.2.2.1, hHeld.2.2.2.2.2⟩ (fun hHeld => ?_)
                                clear hK K
                                refine norm_ (a' := ?_) ?_ ?_
                                rotate_left
                                · show Act.put _ (some 81) _ = _
                                  simp only [Act.put, List.setIfInBounds_toArray, List.set_cons_zero, List.set_cons_succ, i64_w, i32_w]
                                  rfl
                                refine pure_ (i := 34) (N := some 82) (v := ?_) (a' := ?_) b13_35 rfl rfl (any_of HT_.out z13_2) (fun _ _ _ h => h) (Or.inl ⟨by rfl, ?_⟩) ?_ ?_
                                rotate_left
                                · intro w'
                                  go_simp
                                  with_reducible rfl
                                rotate_left
                                · simp only [Act.put, List.setIfInBounds_toArray, List.set_cons_zero, List.set_cons_succ, i64_w, i32_w]
                                  rfl
                                refine pure_ (i := 35) (N := some 83) (v := ?_) (a' := ?_) b13_36 rfl rfl (any_of HT_.out z13_2) (fun _ _ _ h => h) (Or.inl ⟨by rfl, ?_⟩) ?_ ?_
                                rotate_left
                                · intro w'
                                  go_simp
                                  with_reducible rfl
                                rotate_left
                                · simp only [Act.put, List.setIfInBounds_toArray, List.set_cons_zero, List.set_cons_succ, i64_w, i32_w]
                                  rfl
                                refine done_ (done_of HT_.out z13_2) ?_
                                try go_wp2
                                go_roundg k2
                                case measure => have := HJ10.out; have := HK2.out; omega
                                case rel => exact ⟨(wrap64 (x11_2 + 1)), z13_17, H', ⟨by have := HJ10.out; have := HK2.out; omega⟩, ⟨by (with_reducible repeat (first | apply Kd.R_alloc | apply Kd.R_drewN | apply Kd.R_drew)); exact HO_4.out⟩, ⟨by (with_reducible repeat (first | apply Kd.R_alloc | apply Kd.R_drewN | apply Kd.R_drew)); exact HO_7.out⟩, ⟨by (with_reducible repeat (first | apply Kd.R_alloc | apply Kd.R_drewN | apply Kd.R_drew)); exact HO_8.out⟩, ⟨by (with_reducible repeat (first | apply Kd.S_alloc | apply Kd.S_drewN | apply Kd.S_drew)); exact HO_520000.out⟩, ⟨by (with_reducible repeat (first | apply Kd.R_alloc | apply Kd.R_drewN | apply Kd.R_drew)); exact HO_543000.out⟩, ⟨by (with_reducible repeat (first | apply Kd.R_alloc | apply Kd.R_drewN | apply Kd.R_drew)); exact HO_543001.out⟩, ⟨by (with_reducible repeat (first | refine blk_drewN ?_ _ | refine blk_drew ?_ | refine blk_alloc ?_ _)); exact BK519.out⟩, ⟨by (with_reducible repeat (first | refine blk_drewN ?_ _ | refine blk_drew ?_ | refine blk_alloc ?_ _)); exact BK542.out⟩, ⟨by repeat (first | (with_reducible first | exact HB.out | apply below_alloc | apply pw_below_drewN | apply below_drew1 | refine below_set ?_ GE519.out | refine below_set ?_ GE542.out) | exact HB.out)⟩⟩
                          · rw [if_neg c63] at H
                            have c63b0 : ((rd t533 x11_2) == (rd t520 x11_2)) = false := beq_eq_false_iff_ne.mpr c63
                            have c63b1 : ((rd t533 x11_2) != (rd t520 x11_2)) = true := bne_iff_ne.mpr c63
                            obtain rfl := Option.some.inj H
                            try go_wp2
                            have n0_ := Aside0.mk (Kd.R_drew HO_4.out)
                            have n1_ := Aside0.mk (Kd.R_drew HO_7.out)
                            have n2_ := Aside0.mk (Kd.R_drew HO_8.out)
                            have n3_ := Aside0.mk (Kd.S_drew HO_520000.out)
                            have n4_ := Aside0.mk (Kd.R_drew HO_543000.out)
                            have n5_ := Aside0.mk (Kd.R_drew HO_543001.out)
                            have n6_ := Aside0.mk (blk_drew BK519.out)
                            have n7_ := Aside0.mk (blk_drew BK542.out)
                            have n8_ := Aside0.mk (below_drew1 HB.out)
                            clear HO_4
                            clear HO_7
                            clear HO_8
                            clear HO_520000
                            clear HO_543000
                            clear HO_543001
                            clear BK519
                            clear BK542
                            clear HB
                            have HO_4 := n0_
                            have HO_7 := n1_
                            have HO_8 := n2_
                            have HO_520000 := n3_
                            have HO_543000 := n4_
                            have HO_543001 := n5_
                            have BK519 := n6_
                            have BK542 := n7_
                            have HB := n8_
                            clear n0_ n1_ n2_ n3_ n4_ n5_ n6_ n7_ n8_
                            obtain ⟨Ao81, co81, eo81⟩ := Kd.R_slice HO_7.out
                            (first | subst eo81 | (injection eo81 with f1_ f2_ f3_; have f4_ := f1_.symm; have f5_ := f3_.symm; clear f1_ f2_ f3_; subst f4_; subst f5_))
                            have p550 : 0 ≤ (x11_2 : Int) := of_decide_eq_true z13_7
                            have q550 : x11_2 < (t533.length : Int) := of_decide_eq_true z13_7
                            obtain ⟨ad550, e550, hx550_0⟩ := Kd.at_int (Kd.R_reads' HO_543000.out).2.2 x11_2 p550 q550
                            cases e550
                            replace p550 := eq_true p550
                            replace q550 := eq_true q550
                            have p551 : 0 ≤ (x11_2 : Int) := of_decide_eq_true z13_7
                            have q551 : x11_2 < (t520.length : Int) := of_decide_eq_true z13_7
                            obtain ⟨ad551, e551, hx551_0⟩ := Kd.at_int (Kd.R_reads' HO_4.out).2.2 x11_2 p551 q551
                            cases e551
                            replace p551 := eq_true p551
                            replace q551 := eq_true q551
                            refine start_ (n := 36) (S := fun w' => w'.cell? ⟨gb542, 0, none⟩ = some (.slice (some ad550) t533.length co26) ∧ w'.cell? ⟨gb542, 1, none⟩ = some (.slice Ao29 t536.length co29) ∧ w'.cell? ⟨gb542, 2, none⟩ = some (.int .i64 t539) ∧ w'.cell? ⟨gb542, 3, none⟩ = some (.int .i64 t540) ∧ w'.cell? (ad550.add (x11_2).toNat) = some (.int .i64 (rd t533 x11_2)) ∧ w'.cell? (ad551.add (x11_2).toNat) = some (.int .i64 (rd t520 x11_2))) (ds := []) b13_0 z13_2 rfl rfl ⟨(blk_cell BK542.out 0).trans rfl, (blk_cell BK542.out 1).trans rfl, (blk_cell BK542.out 2).trans rfl, (blk_cell BK542.out 3).trans rfl, hx550_0, hx551_0⟩ (fun hHeld => ?_); refine with_tabW laws_FnWrites.tab15 laws_FnWrites.bits15 (fun HT_ HW_ => ?_)
                            generalize wr.drew = w80 at HO_4 HO_7 HO_8 HO_520000 HO_543000 HO_543001 BK519 BK542 HB hx550_0 hx551_0 hHeld ⊢
                            refine pure_ (i := 0) (N := some 48) (v := ?_) (a' := ?_) b13_1 rfl rfl (any_of HT_.out z13_2) (fun _ _ _ h => h) (Or.inl ⟨by rfl, ?_⟩) ?_ ?_
                            rotate_left
                            · intro w'
                              go_simp
                              with_reducible rfl
                            rotate_left
                            · simp only [Act.put, List.setIfInBounds_toArray, List.set_cons_zero, List.set_cons_succ, i64_w, i32_w]
                              rfl
                            refine pure_ (i := 1) (N := some 49) (v := ?_) (a' := ?_) b13_2 rfl rfl (any_of HT_.out z13_2) (fun _ _ _ h => h) (Or.inl ⟨by rfl, ?_⟩) ?_ ?_
                            rotate_left
                            · intro w'
                              go_simp
                              with_reducible rfl
                            rotate_left
                            · simp only [Act.put, List.setIfInBounds_toArray, List.set_cons_zero, List.set_cons_succ, i64_w, i32_w]
                              rfl
                            refine one_ (i := 2) (N := some 50) b13_3 rfl rfl (one_of HT_.out z13_2) (by decide) (fun K hK => ?_)
                            refine goes_ Try.func46 z13_2 rfl #[.slice Ao81 t527.length co81, .int .i64 x11_2] (by rfl) rfl rfl z13_0 ?_
                            with_reducible refine (laws_has.calls k2 _ _ t527 x11_2 false _ ?side1 ?side2 A36.out).mono ?_
                            (case side1 => exact z13_1)
                            (case side2 => exact z13_10)
                            rintro e w' ⟨rfl, ⟨nd, rfl⟩⟩
                            refine ⟨_, rfl, ?_⟩
                            refine hK.out _ _ ⟨(blk_cell BK542.out 0).trans rfl, (blk_cell BK542.out 1).trans rfl, (blk_cell BK542.out 2).trans rfl, (blk_cell BK542.out 3).trans rfl, hHeld.2.2.2.2.1, hHeld.2.2.2.2.2⟩ (fun hHeld => ?_)
                            clear hK K
                            refine norm_ (a' := ?_) ?_ ?_
                            rotate_left
                            · show Act.put _ (some 50) _ = _
                              simp only [Act.put, List.setIfInBounds_toArray, List.set_cons_zero, List.set_cons_succ, i64_w, i32_w]
                              rfl
                            refine pure_ (i := 3) (N := some 51) (v := ?_) (a' := ?_) b13_4 rfl rfl (any_of HT_.out z13_2) (fun _ _ _ h => h) (Or.inl ⟨by rfl, ?_⟩) ?_ ?_
                            rotate_left
                            · intro w'
                              go_simp
                              with_reducible rfl
                            rotate_left
                            · simp only [Act.put, List.setIfInBounds_toArray, List.set_cons_zero, List.set_cons_succ, i64_w, i32_w]
                              rfl
                            refine pure_ (i := 4) (N := some 52) (v := ?_) (a' := ?_) b13_5 rfl rfl (any_of HT_.out z13_2) (fun _ _ _ h => h) (Or.inl ⟨by rfl, ?_⟩) ?_ ?_
                            rotate_left
                            · intro w'
                              go_simp
                              with_reducible rfl
                            rotate_left
                            · simp only [Act.put, List.setIfInBounds_toArray, List.set_cons_zero, List.set_cons_succ, i64_w, i32_w]
                              rfl
                            refine pure_ (i := 5) (N := some 53) (v := ?_) (a' := ?_) b13_6 rfl rfl (any_of HT_.out z13_2) (fun _ _ _ h => h) (Or.inl ⟨by rfl, ?_⟩) ?_ ?_
                            rotate_left
                            · intro w'
                              go_simp
                              with_reducible rfl
                            rotate_left
                            · simp only [Act.put, List.setIfInBounds_toArray, List.set_cons_zero, List.set_cons_succ, i64_w, i32_w]
                              rfl
                            refine pure_ (i := 7) (N := some 55) (v := ?_) (a' := ?_) b13_37 rfl rfl (any_of HT_.out z13_2) (fun _ _ _ h => h) (Or.inl ⟨by rfl, ?_⟩) ?_ ?_
                            rotate_left
                            · intro w'
                              go_simp
                              with_reducible rfl
                            rotate_left
                            · simp only [Act.put, List.setIfInBounds_toArray, List.set_cons_zero, List.set_cons_succ, i64_w, i32_w]
                              rfl
                            refine pure_ (i := 10) (N := some 58) (v := ?_) (a' := ?_) b13_38 rfl rfl (any_of HT_.out z13_2) (fun _ _ _ h => h) (Or.inl ⟨by rfl, ?_⟩) ?_ ?_
                            rotate_left
                            · intro w'
                              go_simp
                              with_reducible rfl
                            rotate_left
                            · simp only [Act.put, List.setIfInBounds_toArray, List.set_cons_zero, List.set_cons_succ, i64_w, i32_w]
                              rfl
                            refine pure_ (i := 11) (N := some 59) (v := ?_) (a' := ?_) b13_39 rfl rfl (any_of HT_.out z13_2) (fun _ _ _ h => h) (Or.inl ⟨by rfl, ?_⟩) ?_ ?_
                            rotate_left
                            · intro w'
                              go_simp
                              with_reducible rfl
                            rotate_left
                            · simp only [Act.put, List.setIfInBounds_toArray, List.set_cons_zero, List.set_cons_succ, i64_w, i32_w]
                              rfl
                            refine pure_ (i := 12) (N := some 60) (v := ?_) (a' := ?_) b13_40 rfl rfl (any_of HT_.out z13_2) (fun _ _ _ h => h) (Or.inl ⟨by rfl, ?_⟩) ?_ ?_
                            rotate_left
                            · intro w'
                              go_simp
                              with_reducible rfl
                            rotate_left
                            · simp only [Act.put, List.setIfInBounds_toArray, List.set_cons_zero, List.set_cons_succ, i64_w, i32_w]
                              rfl
                            refine take_ (i := 6) (N := some 54) (v := ?_) (a' := ?_) b13_41 rfl rfl (take_ofW HT_.out HW_.out z13_2) (fun _ _ _ h => h) (Or.inl ⟨by rfl, ?_⟩) hHeld ?_ ?_
                            rotate_left
                            · rintro w' ⟨s0, s1, s2, s3, s4, s5⟩
                              go_simp
                              with_reducible rfl
                            rotate_left
                            · simp only [Act.put, List.setIfInBounds_toArray, List.set_cons_zero, List.set_cons_succ, i64_w, i32_w]
                              rfl
                            refine pure_ (i := 8) (N := some 56) (v := ?_) (a' := ?_) b13_42 rfl rfl (any_of HT_.out z13_2) (fun _ _ _ h => h) (Or.inl ⟨by rfl, ?_⟩) ?_ ?_
                            rotate_left
                            · intro w'
                              go_simp
                              with_reducible rfl
                            rotate_left
                            · simp only [Act.put, List.setIfInBounds_toArray, List.set_cons_zero, List.set_cons_succ, i64_w, i32_w]
                              rfl
                            refine take_ (i := 9) (N := some 57) (v := ?_) (a' := ?_) b13_13 rfl rfl (take_ofW HT_.out HW_.out z13_2) (fun _ _ _ h => h) (Or.inl ⟨by rfl, ?_⟩) hHeld ?_ ?_
                            rotate_left
                            · rintro w' ⟨s0, s1, s2, s3, s4, s5⟩
                              go_simp
                              with_reducible rfl
                            rotate_left
                            · simp only [Act.put, List.setIfInBounds_toArray, List.set_cons_zero, List.set_cons_succ, i64_w, i32_w]
                              rfl
                            refine take_ (i := 13) (N := some 61) (v := ?_) (a' := ?_) b13_14 rfl rfl (take_ofW HT_.out HW_.out z13_2) (fun _ _ _ h => h) (Or.inl ⟨by rfl, ?_⟩) hHeld ?_ ?_
                            rotate_left
                            · rintro w' ⟨s0, s1, s2, s3, s4, s5⟩
                              go_simp
                              with_reducible rfl
                            rotate_left
                            · simp only [Act.put, List.setIfInBounds_toArray, List.set_cons_zero, List.set_cons_succ, i64_w, i32_w]
                              rfl
                            refine pure_ (i := 14) (N := some 62) (v := ?_) (a' := ?_) b13_15 rfl rfl (any_of HT_.out z13_2) (fun _ _ _ h => h) (Or.inl ⟨by rfl, ?_⟩) ?_ ?_
                            rotate_left
                            · intro w'
                              go_simp
                              with_reducible rfl
                            rotate_left
                            · simp only [Act.put, List.setIfInBounds_toArray, List.set_cons_zero, List.set_cons_succ, i64_w, i32_w]
                              rfl
                            refine pure_ (i := 15) (N := some 63) (v := ?_) (a' := ?_) b13_16 rfl rfl (any_of HT_.out z13_2) (fun _ _ _ h => h) (Or.inl ⟨by rfl, ?_⟩) ?_ ?_
                            rotate_left
                            · intro w'
                              go_simp
                              with_reducible rfl
                            rotate_left
                            · simp only [Act.put, List.setIfInBounds_toArray, List.set_cons_zero, List.set_cons_succ, i64_w, i32_w]
                              rfl
                            refine pure_ (i := 16) (N := some 64) (v := ?_) (a' := ?_) b13_17 rfl rfl (any_of HT_.out z13_2) (fun _ _ _ h => h) (Or.inl ⟨by rfl, ?_⟩) ?_ ?_
                            rotate_left
                            · intro w'
                              go_simp
                              with_reducible rfl
                            rotate_left
                            · simp only [Act.put, List.setIfInBounds_toArray, List.set_cons_zero, List.set_cons_succ, i64_w, i32_w]
                              rfl
                            refine pure_ (i := 17) (N := some 65) (v := undef) (a' := ?_) b13_18 rfl rfl (any_of HT_.out z13_2) (fun _ _ _ h => h) (Or.inr ⟨by rfl, rfl⟩) ?_ ?_
                            rotate_left
                            · simp only [Act.put, List.setIfInBounds_toArray, List.set_cons_zero, List.set_cons_succ, i64_w, i32_w]
                              rfl
                            refine pure_ (i := 18) (N := some 66) (v := undef) (a' := ?_) b13_19 rfl rfl (any_of HT_.out z13_2) (fun _ _ _ h => h) (Or.inr ⟨by rfl, rfl⟩) ?_ ?_
                            rotate_left
                            · simp only [Act.put, List.setIfInBounds_toArray, List.set_cons_zero, List.set_cons_succ, i64_w, i32_w]
                              rfl
                            refine pure_ (i := 19) (N := some 67) (v := undef) (a' := ?_) b13_20 rfl rfl (any_of HT_.out z13_2) (fun _ _ _ h => h) (Or.inr ⟨by rfl, rfl⟩) ?_ ?_
                            rotate_left
                            · simp only [Act.put, List.setIfInBounds_toArray, List.set_cons_zero, List.set_cons_succ, i64_w, i32_w]
                              rfl
                            refine pure_ (i := 20) (N := some 68) (v := undef) (a' := ?_) b13_21 rfl rfl (any_of HT_.out z13_2) (fun _ _ _ h => h) (Or.inr ⟨by rfl, rfl⟩) ?_ ?_
                            rotate_left
                            · simp only [Act.put, List.setIfInBounds_toArray, List.set_cons_zero, List.set_cons_succ, i64_w, i32_w]
                              rfl
                            refine pure_ (i := 21) (N := some 69) (v := undef) (a' := ?_) b13_22 rfl rfl (any_of HT_.out z13_2) (fun _ _ _ h => h) (Or.inr ⟨by rfl, rfl⟩) ?_ ?_
                            rotate_left
                            · simp only [Act.put, List.setIfInBounds_toArray, List.set_cons_zero, List.set_cons_succ, i64_w, i32_w]
                              rfl
                            refine pure_ (i := 22) (N := some 70) (v := undef) (a' := ?_) b13_23 rfl rfl (any_of HT_.out z13_2) (fun _ _ _ h => h) (Or.inr ⟨by rfl, rfl⟩) ?_ ?_
                            rotate_left
                            · simp only [Act.put, List.setIfInBounds_toArray, List.set_cons_zero, List.set_cons_succ, i64_w, i32_w]
                              rfl
                            refine pure_ (i := 23) (N := some 71) (v := undef) (a' := ?_) b13_24 rfl rfl (any_of HT_.out z13_2) (fun _ _ _ h => h) (Or.inr ⟨by rfl, rfl⟩) ?_ ?_
                            rotate_left
                            · simp only [Act.put, List.setIfInBounds_toArray, List.set_cons_zero, List.set_cons_succ, i64_w, i32_w]
                              rfl
                            refine pure_ (i := 24) (N := some 72) (v := undef) (a' := ?_) b13_25 rfl rfl (any_of HT_.out z13_2) (fun _ _ _ h => h) (Or.inr ⟨by rfl, rfl⟩) ?_ ?_
                            rotate_left
                            · simp only [Act.put, List.setIfInBounds_toArray, List.set_cons_zero, List.set_cons_succ, i64_w, i32_w]
                              rfl
                            refine pure_ (i := 25) (N := some 73) (v := undef) (a' := ?_) b13_26 rfl rfl (any_of HT_.out z13_2) (fun _ _ _ h => h) (Or.inr ⟨by rfl, rfl⟩) ?_ ?_
                            rotate_left
                            · simp only [Act.put, List.setIfInBounds_toArray, List.set_cons_zero, List.set_cons_succ, i64_w, i32_w]
                              rfl
                            refine pure_ (i := 26) (N := some 74) (v := ?_) (a' := ?_) b13_27 rfl rfl (any_of HT_.out z13_2) (fun _ _ _ h => h) (Or.inl ⟨by rfl, ?_⟩) ?_ ?_
                            rotate_left
                            · intro w'
                              go_simp
                              with_reducible rfl
                            rotate_left
                            · simp only [Act.put, List.setIfInBounds_toArray, List.set_cons_zero, List.set_cons_succ, i64_w, i32_w]
                              rfl
                            refine pure_ (i := 27) (N := some 75) (v := ?_) (a' := ?_) b13_28 rfl rfl (any_of HT_.out z13_2) (fun _ _ _ h => h) (Or.inl ⟨by rfl, ?_⟩) ?_ ?_
                            rotate_left
                            · intro w'
                              go_simp
                              with_reducible rfl
                            rotate_left
                            · simp only [Act.put, List.setIfInBounds_toArray, List.set_cons_zero, List.set_cons_succ, i64_w, i32_w]
                              rfl
                            refine pure_ (i := 28) (N := some 76) (v := undef) (a' := ?_) b13_29 rfl rfl (any_of HT_.out z13_2) (fun _ _ _ h => h) (Or.inr ⟨by rfl, rfl⟩) ?_ ?_
                            rotate_left
                            · simp only [Act.put, List.setIfInBounds_toArray, List.set_cons_zero, List.set_cons_succ, i64_w, i32_w]
                              rfl
                            refine pure_ (i := 29) (N := some 77) (v := undef) (a' := ?_) b13_30 rfl rfl (any_of HT_.out z13_2) (fun _ _ _ h => h) (Or.inr ⟨by rfl, rfl⟩) ?_ ?_
                            rotate_left
                            · simp only [Act.put, List.setIfInBounds_toArray, List.set_cons_zero, List.set_cons_succ, i64_w, i32_w]
                              rfl
                            refine pure_ (i := 30) (N := some 78) (v := undef) (a' := ?_) b13_43 rfl rfl (any_of HT_.out z13_2) (fun _ _ _ h => h) (Or.inr ⟨by rfl, rfl⟩) ?_ ?_
                            rotate_left
                            · simp only [Act.put, List.setIfInBounds_toArray, List.set_cons_zero, List.set_cons_succ, i64_w, i32_w]
                              rfl
                            refine pure_ (i := 31) (N := some 79) (v := undef) (a' := ?_) b13_44 rfl rfl (any_of HT_.out z13_2) (fun _ _ _ h => h) (Or.inr ⟨by rfl, rfl⟩) ?_ ?_
                            rotate_left
                            · simp only [Act.put, List.setIfInBounds_toArray, List.set_cons_zero, List.set_cons_succ, i64_w, i32_w]
                              rfl
                            refine pure_ (i := 32) (N := some 80) (v := undef) (a' := ?_) b13_33 rfl rfl (any_of HT_.out z13_2) (fun _ _ _ h => h) (Or.inr ⟨by rfl, rfl⟩) ?_ ?_
                            rotate_left
                            · simp only [Act.put, List.setIfInBounds_toArray, List.set_cons_zero, List.set_cons_succ, i64_w, i32_w]
                              rfl
                            refine pure_ (i := 33) (N := some 81) (v := undef) (a' := ?_) b13_34 rfl rfl (any_of HT_.out z13_2) (fun _ _ _ h => h) (Or.inr ⟨by rfl, rfl⟩) ?_ ?_
                            rotate_left
                            · simp only [Act.put, List.setIfInBounds_toArray, List.set_cons_zero, List.set_cons_succ, i64_w, i32_w]
                              rfl
                            refine pure_ (i := 34) (N := some 82) (v := undef) (a' := ?_) b13_35 rfl rfl (any_of HT_.out z13_2) (fun _ _ _ h => h) (Or.inr ⟨by rfl, rfl⟩) ?_ ?_
                            rotate_left
                            · simp only [Act.put, List.setIfInBounds_toArray, List.set_cons_zero, List.set_cons_succ, i64_w, i32_w]
                              rfl
                            refine pure_ (i := 35) (N := some 83) (v := ?_) (a' := ?_) b13_36 rfl rfl (any_of HT_.out z13_2) (fun _ _ _ h => h) (Or.inl ⟨by rfl, ?_⟩) ?_ ?_
                            rotate_left
                            · intro w'
                              go_simp
                              with_reducible rfl
                            rotate_left
                            · simp only [Act.put, List.setIfInBounds_toArray, List.set_cons_zero, List.set_cons_succ, i64_w, i32_w]
                              rfl
                            refine done_ (done_of HT_.out z13_2) ?_
                            try go_wp2
                            go_ret
                            exact ⟨by first | rfl | (simp [errW_none, errW_some] <;> rfl) | (simp [*, errW_none, errW_some] <;> rfl) | (simp [*, errW_none, errW_some, i64_w]; done), by repeat (first | (with_reducible first | exact HB.out | apply below_alloc | apply pw_below_drewN | apply below_drew1 | refine below_set ?_ GE519.out | refine below_set ?_ GE542.out) | exact HB.out)⟩
                        · rw [if_neg c62] at H
                          exact absurd H (by simp)
                      · rw [if_neg c61] at H
                        exact absurd H (by simp)
                    · rw [if_neg c60] at H
                      exact absurd H (by simp)
                · rw [if_neg c35] at H
                  have c35b0 : decide (x11_2 < 8) = false := decide_eq_false c35
                  clear c35
                  obtain rfl := Option.some.inj H
                  go_wp2
                  go_ret
                  exact ⟨by first | rfl | (simp [errW_none, errW_some] <;> rfl) | (simp [*, errW_none, errW_some] <;> rfl) | (simp [*, errW_none, errW_some, i64_w]; done), by repeat (first | (with_reducible first | exact HB.out | apply below_alloc | apply pw_below_drewN | apply below_drew1 | refine below_set ?_ GE519.out | refine below_set ?_ GE542.out) | exact HB.out)⟩
    · rw [if_neg c7] at H
      exact absurd H (by simp)

/-- THE ONE PURE STATEMENT of laws_FnWrites: yours. -/
def laws_FnWrites.Pure : Prop := ∀ (l0 : List Int), l0.length ≤ maxLen → l0.length * 1 ≤ 140737488351232 → (∀ x ∈ l0, (Lit.int .u8 x).wf = true) → ∃ k, laws_FnWrites.f k l0 = some true
theorem laws_FnWrites.walk (P : laws_FnWrites.Pure) (a0 : Option Addr) (len0 cap0 : Nat) (z0 : List Int) (w : World) (w0 : (a0 = none ∧ len0 = 0 ∧ cap0 = 0 ∧ z0 = []) ∨ ∃ x, a0 = some x ∧ len0 ≤ cap0 ∧ cap0 ≤ maxLen ∧ z0.length = cap0 ∧ (∀ i, i < z0.length → w.cell? (x.add i) = some (.int .u8 (z0.getD i 0))) ∧ ∀ n ∈ z0, (Lit.int .u8 n).wf = true) (y0 : len0 * 1 ≤ 140737488351232) :
    Calls Try.prog 10 #[.slice a0 len0 cap0] w fun e w' => e = .returned (.bool true) ∧ Below w.heap.size w w' := by
  obtain ⟨l0, rfl, hr0, hm0, hw0, hc0⟩ := ReadsInt.ofRowC w0
  obtain ⟨k, h⟩ := P l0 hm0 y0 hw0
  refine (laws_FnWrites.calls k _ _ l0 true w (Kd.C_of_reads (d := (0 : Int)) (h1 := fun _ => rfl) hr0) hc0 h).mono ?_
  rintro e w' ⟨rfl, hd⟩
  exact ⟨rfl, hd⟩

end Go.Proofs.Ytakhaknglhgimaa.G
