/- Functions of the program as plain Lean functions, and that each call comes to its function's answer; written by a program of the session. No condition. -/
import Derived.Test.YtonibkcjccloiaaGx0
import Derived.Test.YtonibkcjccloiaaGx1
import Derived.Test.YtonibkcjccloiaaGx3
import Derived.Test.YtonibkcjccloiaaGx4
import Derived.Test.YtonibkcjccloiaaGx6
import Derived.Test.YtonibkcjccloiaaGx8
namespace Go.Proofs.Ytonibkcjccloiaa.G
open Go.RowKit Go.Proofs.YtonibkcjccloiaaW.PrintWords Go.Proofs.YtonibkcjccloiaaW.PrintLast Go.Proofs.YtonibkcjccloiaaW.PrintMore
attribute [local go_sem] max2_int min2_int max_two min_two max_three min_three max_four min_four   -- for this text's walks alone
set_option linter.unusedVariables false
set_option linter.unusedSimpArgs false

theorem z9_0 {P : Prop} (h : P := by repeat (first | (with_reducible first | exact HB.out | apply below_alloc | apply pw_below_drewN | apply below_drew1 | refine below_set ?_ GE137.out | refine below_set ?_ GE138.out) | exact HB.out)) : P := h
theorem z9_1 {P : Prop} (h : P := by (with_reducible repeat (first | refine blk_drewN ?_ _ | refine blk_drew ?_ | refine blk_alloc ?_ _)); exact BK137.out) : P := h
theorem z9_2 {P : Prop} (h : P := by repeat (first | (with_reducible first | exact HB.out | apply below_alloc | apply pw_below_drewN | apply below_drew1 | refine below_set ?_ GE137.out | refine below_set ?_ GE138.out | refine below_set ?_ GE163.out) | exact HB.out)) : P := h
theorem z9_3 {P : Prop} (h : P := by (with_reducible repeat (first | refine blk_drewN ?_ _ | refine blk_drew ?_ | refine blk_alloc ?_ _)); exact BK138.out) : P := h
theorem z9_4 {P : Prop} (h : P := by (try simp only [List.map_toArray, List.map_cons, List.map_nil]); first | done | rfl | (simp only [List.length_drop, List.length_take]; rfl)) : P := h
theorem z9_5 {P : Prop} (h : P := by repeat (first | (with_reducible first | exact HB.out | apply below_alloc | apply pw_below_drewN | apply below_drew1 | refine below_set ?_ GE137.out | refine below_set ?_ GE138.out | refine below_set ?_ GE163.out | refine below_set ?_ GE171.out) | exact HB.out)) : P := h
theorem z9_6 {P : Prop} (h : P := by (with_reducible repeat (first | apply Kd.R_alloc | apply Kd.R_drewN | apply Kd.R_drew)); exact HO146.out) : P := h
theorem z9_7 {P : Prop} (h : P := by (with_reducible repeat (first | apply Kd.R_alloc | apply Kd.R_drewN | apply Kd.R_drew)); exact HO143.out) : P := h
theorem z9_8 {P : Prop} (h : P := by (with_reducible repeat (first | apply Kd.R_alloc | apply Kd.R_drewN | apply Kd.R_drew)); exact HO153.out) : P := h
theorem z9_9 {P : Prop} (h : P := by (with_reducible repeat (first | apply Kd.R_alloc | apply Kd.R_drewN | apply Kd.R_drew)); exact HO150.out) : P := h
theorem z9_10 {P : Prop} (h : P := by repeat (first | exact (Kd.C_below HR0_1.out HB.out) | (with_reducible refine Kd.C_alloc ?_ _) | (with_reducible refine Kd.C_drewN ?_ _) | (with_reducible refine Kd.C_drew ?_))) : P := h
theorem z9_11 {P : Prop} (h : P := by repeat (first | exact (Kd.C_below HR0_0.out HB.out) | (with_reducible refine Kd.C_alloc ?_ _) | (with_reducible refine Kd.C_drewN ?_ _) | (with_reducible refine Kd.C_drew ?_))) : P := h
theorem z9_12 {P : Prop} (h : P := by repeat (first | (with_reducible first | exact HB.out | apply below_alloc | apply pw_below_drewN | apply below_drew1 | refine below_set ?_ GE137.out) | exact HB.out)) : P := h
theorem z9_13 {P : Prop} (h : P := by (with_reducible repeat (first | apply Kd.R_alloc | apply Kd.R_drewN | apply Kd.R_drew)); exact HO161.out) : P := h
theorem z9_14 {P : Prop} (h : P := by (with_reducible repeat (first | apply Kd.R_alloc | apply Kd.R_drewN | apply Kd.R_drew)); exact HO158.out) : P := h
theorem z9_15 {P : Prop} (h : P := by (with_reducible repeat (first | refine blk_drewN ?_ _ | refine blk_drew ?_ | refine blk_alloc ?_ _)); exact BK163.out) : P := h
theorem z9_16 {P : Prop} (h : P := by (with_reducible repeat (first | apply Kd.R_alloc | apply Kd.R_drewN | apply Kd.R_drew)); exact HO169.out) : P := h
theorem z9_17 {P : Prop} (h : P := by (with_reducible repeat (first | apply Kd.R_alloc | apply Kd.R_drewN | apply Kd.R_drew)); exact HO166.out) : P := h
theorem z9_18 {P : Prop} (h : P := by repeat (first | (with_reducible first | exact HB.out | apply below_alloc | apply pw_below_drewN | apply below_drew1) | exact HB.out)) : P := h
theorem z9_19 {P : Prop} (h : P := by repeat (first | exact (Kd.C_below HR1_1.out HB.out) | (with_reducible refine Kd.C_alloc ?_ _) | (with_reducible refine Kd.C_drewN ?_ _) | (with_reducible refine Kd.C_drew ?_))) : P := h
theorem z9_20 {P : Prop} (h : P := by repeat (first | exact (Kd.C_below HR1_0.out HB.out) | (with_reducible refine Kd.C_alloc ?_ _) | (with_reducible refine Kd.C_drewN ?_ _) | (with_reducible refine Kd.C_drew ?_))) : P := h
theorem z9_21 {P : Prop} (h : P := by (with_reducible repeat (first | refine blk_drewN ?_ _ | refine blk_drew ?_ | refine blk_alloc ?_ _)); refine blk_far ?_ NB163_171.out _; (with_reducible repeat (first | refine blk_drewN ?_ _ | refine blk_drew ?_ | refine blk_alloc ?_ _)); refine blk_far ?_ NB163_171.out _; (with_reducible repeat (first | refine blk_drewN ?_ _ | refine blk_drew ?_ | refine blk_alloc ?_ _)); refine blk_far ?_ NB163_171.out _; (with_reducible repeat (first | refine blk_drewN ?_ _ | refine blk_drew ?_ | refine blk_alloc ?_ _)); exact BK163.out) : P := h
theorem z9_22 {P : Prop} (h : P := by (with_reducible repeat (first | refine blk_drewN ?_ _ | refine blk_drew ?_ | refine blk_alloc ?_ _)); refine blk_far ?_ NB138_171.out _; (with_reducible repeat (first | refine blk_drewN ?_ _ | refine blk_drew ?_ | refine blk_alloc ?_ _)); refine blk_far ?_ NB138_171.out _; (with_reducible repeat (first | refine blk_drewN ?_ _ | refine blk_drew ?_ | refine blk_alloc ?_ _)); refine blk_far ?_ NB138_171.out _; (with_reducible repeat (first | refine blk_drewN ?_ _ | refine blk_drew ?_ | refine blk_alloc ?_ _)); exact BK138.out) : P := h
theorem z9_23 {P : Prop} (h : P := by (with_reducible repeat (first | refine blk_drewN ?_ _ | refine blk_drew ?_ | refine blk_alloc ?_ _)); refine blk_far ?_ NB138_163.out _; (with_reducible repeat (first | refine blk_drewN ?_ _ | refine blk_drew ?_ | refine blk_alloc ?_ _)); refine blk_far ?_ NB138_163.out _; (with_reducible repeat (first | refine blk_drewN ?_ _ | refine blk_drew ?_ | refine blk_alloc ?_ _)); refine blk_far ?_ NB138_163.out _; (with_reducible repeat (first | refine blk_drewN ?_ _ | refine blk_drew ?_ | refine blk_alloc ?_ _)); exact BK138.out) : P := h
theorem z9_24 {P : Prop} (h : P := by (with_reducible repeat (first | refine blk_drewN ?_ _ | refine blk_drew ?_ | refine blk_alloc ?_ _)); refine blk_far ?_ NB137_171.out _; (with_reducible repeat (first | refine blk_drewN ?_ _ | refine blk_drew ?_ | refine blk_alloc ?_ _)); refine blk_far ?_ NB137_171.out _; (with_reducible repeat (first | refine blk_drewN ?_ _ | refine blk_drew ?_ | refine blk_alloc ?_ _)); refine blk_far ?_ NB137_171.out _; (with_reducible repeat (first | refine blk_drewN ?_ _ | refine blk_drew ?_ | refine blk_alloc ?_ _)); exact BK137.out) : P := h
theorem z9_25 {P : Prop} (h : P := by (with_reducible repeat (first | refine blk_drewN ?_ _ | refine blk_drew ?_ | refine blk_alloc ?_ _)); refine blk_far ?_ NB137_163.out _; (with_reducible repeat (first | refine blk_drewN ?_ _ | refine blk_drew ?_ | refine blk_alloc ?_ _)); refine blk_far ?_ NB137_163.out _; (with_reducible repeat (first | refine blk_drewN ?_ _ | refine blk_drew ?_ | refine blk_alloc ?_ _)); refine blk_far ?_ NB137_163.out _; (with_reducible repeat (first | refine blk_drewN ?_ _ | refine blk_drew ?_ | refine blk_alloc ?_ _)); exact BK137.out) : P := h
theorem z9_26 {P : Prop} (h : P := by (with_reducible repeat (first | refine blk_drewN ?_ _ | refine blk_drew ?_ | refine blk_alloc ?_ _)); exact BK171.out) : P := h
theorem z9_27 {P : Prop} (h : P := by (with_reducible repeat (first | apply Kd.R_alloc | apply Kd.R_drewN | apply Kd.R_drew)); exact HO178.out) : P := h
theorem z9_28 {P : Prop} (h : P := by (with_reducible repeat (first | apply Kd.R_alloc | apply Kd.R_drewN | apply Kd.R_drew)); exact HO175.out) : P := h
theorem z9_29 {P : Prop} (h : P := by kernel_rfl) : P := h
theorem z9_30 {P : Prop} (h : P := by (with_reducible repeat (first | apply Kd.R_alloc | apply Kd.R_drewN | apply Kd.R_drew)); exact (Kd.R_mono (Kd.R_far (p := ⟨gb163, 2, none⟩) (Kd.R_far (p := ⟨gb163, 1, none⟩) (Kd.R_far (p := ⟨gb163, 0, none⟩) (Kd.R_types HO161.out BK163.out (by decide)) (fun _ hk => hk.2) (.slice Ao172 t156.length co172)) (fun _ hk => hk.2) (.slice Ao176 t159.length co176)) (fun _ hk => hk.2) (.int .i64 t162)) (fun _ h_ => h_.1))) : P := h
theorem z9_31 {P : Prop} (h : P := by (with_reducible repeat (first | apply Kd.R_alloc | apply Kd.R_drewN | apply Kd.R_drew)); exact (Kd.R_mono (Kd.R_far (p := ⟨gb163, 2, none⟩) (Kd.R_far (p := ⟨gb163, 1, none⟩) (Kd.R_far (p := ⟨gb163, 0, none⟩) (Kd.R_types HO161.out BK163.out (by decide)) (fun _ hk => hk.2) (.slice Ao128 t156.length co128)) (fun _ hk => hk.2) (.slice Ao132 t159.length co132)) (fun _ hk => hk.2) (.int .i64 t162)) (fun _ h_ => h_.1))) : P := h
theorem z9_32 {P : Prop} (h : P := by (with_reducible repeat (first | apply Kd.R_alloc | apply Kd.R_drewN | apply Kd.R_drew)); exact (Kd.R_mono (Kd.R_far (p := ⟨gb163, 2, none⟩) (Kd.R_far (p := ⟨gb163, 1, none⟩) (Kd.R_far (p := ⟨gb163, 0, none⟩) (Kd.R_types HO158.out BK163.out (by decide)) (fun _ hk => hk.2) (.slice Ao172 t156.length co172)) (fun _ hk => hk.2) (.slice Ao176 t159.length co176)) (fun _ hk => hk.2) (.int .i64 t162)) (fun _ h_ => h_.1))) : P := h
theorem z9_33 {P : Prop} (h : P := by (with_reducible repeat (first | apply Kd.R_alloc | apply Kd.R_drewN | apply Kd.R_drew)); exact (Kd.R_mono (Kd.R_far (p := ⟨gb163, 2, none⟩) (Kd.R_far (p := ⟨gb163, 1, none⟩) (Kd.R_far (p := ⟨gb163, 0, none⟩) (Kd.R_types HO158.out BK163.out (by decide)) (fun _ hk => hk.2) (.slice Ao128 t156.length co128)) (fun _ hk => hk.2) (.slice Ao132 t159.length co132)) (fun _ hk => hk.2) (.int .i64 t162)) (fun _ h_ => h_.1))) : P := h
theorem z9_34 {P : Prop} (h : P := by (with_reducible repeat (first | apply Kd.R_alloc | apply Kd.R_drewN | apply Kd.R_drew)); exact (Kd.R_mono (Kd.R_far (p := ⟨gb163, 2, none⟩) (Kd.R_far (p := ⟨gb163, 1, none⟩) (Kd.R_far (p := ⟨gb163, 0, none⟩) (Kd.R_types HO153.out BK163.out (by decide)) (fun _ hk => hk.2) (.slice Ao172 t156.length co172)) (fun _ hk => hk.2) (.slice Ao176 t159.length co176)) (fun _ hk => hk.2) (.int .i64 t162)) (fun _ h_ => h_.1))) : P := h
theorem z9_35 {P : Prop} (h : P := by (with_reducible repeat (first | apply Kd.R_alloc | apply Kd.R_drewN | apply Kd.R_drew)); exact (Kd.R_mono (Kd.R_far (p := ⟨gb163, 2, none⟩) (Kd.R_far (p := ⟨gb163, 1, none⟩) (Kd.R_far (p := ⟨gb163, 0, none⟩) (Kd.R_types HO153.out BK163.out (by decide)) (fun _ hk => hk.2) (.slice Ao128 t156.length co128)) (fun _ hk => hk.2) (.slice Ao132 t159.length co132)) (fun _ hk => hk.2) (.int .i64 t162)) (fun _ h_ => h_.1))) : P := h
theorem z9_36 {P : Prop} (h : P := by (with_reducible repeat (first | apply Kd.R_alloc | apply Kd.R_drewN | apply Kd.R_drew)); exact (Kd.R_mono (Kd.R_far (p := ⟨gb163, 2, none⟩) (Kd.R_far (p := ⟨gb163, 1, none⟩) (Kd.R_far (p := ⟨gb163, 0, none⟩) (Kd.R_types HO150.out BK163.out (by decide)) (fun _ hk => hk.2) (.slice Ao172 t156.length co172)) (fun _ hk => hk.2) (.slice Ao176 t159.length co176)) (fun _ hk => hk.2) (.int .i64 t162)) (fun _ h_ => h_.1))) : P := h
theorem z9_37 {P : Prop} (h : P := by (with_reducible repeat (first | apply Kd.R_alloc | apply Kd.R_drewN | apply Kd.R_drew)); exact (Kd.R_mono (Kd.R_far (p := ⟨gb163, 2, none⟩) (Kd.R_far (p := ⟨gb163, 1, none⟩) (Kd.R_far (p := ⟨gb163, 0, none⟩) (Kd.R_types HO150.out BK163.out (by decide)) (fun _ hk => hk.2) (.slice Ao128 t156.length co128)) (fun _ hk => hk.2) (.slice Ao132 t159.length co132)) (fun _ hk => hk.2) (.int .i64 t162)) (fun _ h_ => h_.1))) : P := h
theorem z9_38 {P : Prop} (h : P := by (with_reducible repeat (first | apply Kd.R_alloc | apply Kd.R_drewN | apply Kd.R_drew)); exact (Kd.R_mono (Kd.R_far (p := ⟨gb163, 2, none⟩) (Kd.R_far (p := ⟨gb163, 1, none⟩) (Kd.R_far (p := ⟨gb163, 0, none⟩) (Kd.R_types HO146.out BK163.out (by decide)) (fun _ hk => hk.2) (.slice Ao172 t156.length co172)) (fun _ hk => hk.2) (.slice Ao176 t159.length co176)) (fun _ hk => hk.2) (.int .i64 t162)) (fun _ h_ => h_.1))) : P := h
theorem z9_39 {P : Prop} (h : P := by (with_reducible repeat (first | apply Kd.R_alloc | apply Kd.R_drewN | apply Kd.R_drew)); exact (Kd.R_mono (Kd.R_far (p := ⟨gb163, 2, none⟩) (Kd.R_far (p := ⟨gb163, 1, none⟩) (Kd.R_far (p := ⟨gb163, 0, none⟩) (Kd.R_types HO146.out BK163.out (by decide)) (fun _ hk => hk.2) (.slice Ao128 t156.length co128)) (fun _ hk => hk.2) (.slice Ao132 t159.length co132)) (fun _ hk => hk.2) (.int .i64 t162)) (fun _ h_ => h_.1))) : P := h
theorem z9_40 {P : Prop} (h : P := by (with_reducible repeat (first | apply Kd.R_alloc | apply Kd.R_drewN | apply Kd.R_drew)); exact (Kd.R_mono (Kd.R_far (p := ⟨gb163, 2, none⟩) (Kd.R_far (p := ⟨gb163, 1, none⟩) (Kd.R_far (p := ⟨gb163, 0, none⟩) (Kd.R_types HO143.out BK163.out (by decide)) (fun _ hk => hk.2) (.slice Ao172 t156.length co172)) (fun _ hk => hk.2) (.slice Ao176 t159.length co176)) (fun _ hk => hk.2) (.int .i64 t162)) (fun _ h_ => h_.1))) : P := h
theorem z9_41 {P : Prop} (h : P := by (with_reducible repeat (first | apply Kd.R_alloc | apply Kd.R_drewN | apply Kd.R_drew)); exact (Kd.R_mono (Kd.R_far (p := ⟨gb163, 2, none⟩) (Kd.R_far (p := ⟨gb163, 1, none⟩) (Kd.R_far (p := ⟨gb163, 0, none⟩) (Kd.R_types HO143.out BK163.out (by decide)) (fun _ hk => hk.2) (.slice Ao128 t156.length co128)) (fun _ hk => hk.2) (.slice Ao132 t159.length co132)) (fun _ hk => hk.2) (.int .i64 t162)) (fun _ h_ => h_.1))) : P := h
theorem z9_42 {P : Prop} (h : P := by (with_reducible repeat (first | apply Kd.R_alloc | apply Kd.R_drewN | apply Kd.R_drew)); exact (Kd.R_mono (Kd.R_far (p := ⟨gb163, 2, none⟩) (Kd.R_far (p := ⟨gb163, 1, none⟩) (Kd.R_far (p := ⟨gb163, 0, none⟩) (Kd.R_types HO161.out BK163.out (by decide)) (fun _ hk => hk.2) (.slice Ao84 t156.length co84)) (fun _ hk => hk.2) (.slice Ao88 t159.length co88)) (fun _ hk => hk.2) (.int .i64 t162)) (fun _ h_ => h_.1))) : P := h
theorem z9_43 {P : Prop} (h : P := by (with_reducible repeat (first | apply Kd.R_alloc | apply Kd.R_drewN | apply Kd.R_drew)); exact (Kd.R_mono (Kd.R_far (p := ⟨gb163, 2, none⟩) (Kd.R_far (p := ⟨gb163, 1, none⟩) (Kd.R_far (p := ⟨gb163, 0, none⟩) (Kd.R_types HO161.out BK163.out (by decide)) (fun _ hk => hk.2) (.slice Ao44 t156.length co44)) (fun _ hk => hk.2) (.slice Ao48 t159.length co48)) (fun _ hk => hk.2) (.int .i64 t162)) (fun _ h_ => h_.1))) : P := h
theorem z9_44 {P : Prop} (h : P := by (with_reducible repeat (first | apply Kd.R_alloc | apply Kd.R_drewN | apply Kd.R_drew)); exact (Kd.R_mono (Kd.R_far (p := ⟨gb163, 2, none⟩) (Kd.R_far (p := ⟨gb163, 1, none⟩) (Kd.R_far (p := ⟨gb163, 0, none⟩) (Kd.R_types HO158.out BK163.out (by decide)) (fun _ hk => hk.2) (.slice Ao84 t156.length co84)) (fun _ hk => hk.2) (.slice Ao88 t159.length co88)) (fun _ hk => hk.2) (.int .i64 t162)) (fun _ h_ => h_.1))) : P := h
theorem z9_45 {P : Prop} (h : P := by (with_reducible repeat (first | apply Kd.R_alloc | apply Kd.R_drewN | apply Kd.R_drew)); exact (Kd.R_mono (Kd.R_far (p := ⟨gb163, 2, none⟩) (Kd.R_far (p := ⟨gb163, 1, none⟩) (Kd.R_far (p := ⟨gb163, 0, none⟩) (Kd.R_types HO158.out BK163.out (by decide)) (fun _ hk => hk.2) (.slice Ao44 t156.length co44)) (fun _ hk => hk.2) (.slice Ao48 t159.length co48)) (fun _ hk => hk.2) (.int .i64 t162)) (fun _ h_ => h_.1))) : P := h
theorem z9_46 {P : Prop} (h : P := by (with_reducible repeat (first | apply Kd.R_alloc | apply Kd.R_drewN | apply Kd.R_drew)); exact (Kd.R_mono (Kd.R_far (p := ⟨gb163, 2, none⟩) (Kd.R_far (p := ⟨gb163, 1, none⟩) (Kd.R_far (p := ⟨gb163, 0, none⟩) (Kd.R_types HO153.out BK163.out (by decide)) (fun _ hk => hk.2) (.slice Ao84 t156.length co84)) (fun _ hk => hk.2) (.slice Ao88 t159.length co88)) (fun _ hk => hk.2) (.int .i64 t162)) (fun _ h_ => h_.1))) : P := h
theorem z9_47 {P : Prop} (h : P := by (with_reducible repeat (first | apply Kd.R_alloc | apply Kd.R_drewN | apply Kd.R_drew)); exact (Kd.R_mono (Kd.R_far (p := ⟨gb163, 2, none⟩) (Kd.R_far (p := ⟨gb163, 1, none⟩) (Kd.R_far (p := ⟨gb163, 0, none⟩) (Kd.R_types HO153.out BK163.out (by decide)) (fun _ hk => hk.2) (.slice Ao44 t156.length co44)) (fun _ hk => hk.2) (.slice Ao48 t159.length co48)) (fun _ hk => hk.2) (.int .i64 t162)) (fun _ h_ => h_.1))) : P := h
theorem z9_48 {P : Prop} (h : P := by (with_reducible repeat (first | apply Kd.R_alloc | apply Kd.R_drewN | apply Kd.R_drew)); exact (Kd.R_mono (Kd.R_far (p := ⟨gb163, 2, none⟩) (Kd.R_far (p := ⟨gb163, 1, none⟩) (Kd.R_far (p := ⟨gb163, 0, none⟩) (Kd.R_types HO150.out BK163.out (by decide)) (fun _ hk => hk.2) (.slice Ao84 t156.length co84)) (fun _ hk => hk.2) (.slice Ao88 t159.length co88)) (fun _ hk => hk.2) (.int .i64 t162)) (fun _ h_ => h_.1))) : P := h
theorem z9_49 {P : Prop} (h : P := by (with_reducible repeat (first | apply Kd.R_alloc | apply Kd.R_drewN | apply Kd.R_drew)); exact (Kd.R_mono (Kd.R_far (p := ⟨gb163, 2, none⟩) (Kd.R_far (p := ⟨gb163, 1, none⟩) (Kd.R_far (p := ⟨gb163, 0, none⟩) (Kd.R_types HO150.out BK163.out (by decide)) (fun _ hk => hk.2) (.slice Ao44 t156.length co44)) (fun _ hk => hk.2) (.slice Ao48 t159.length co48)) (fun _ hk => hk.2) (.int .i64 t162)) (fun _ h_ => h_.1))) : P := h
theorem z9_50 {P : Prop} (h : P := by (with_reducible repeat (first | apply Kd.R_alloc | apply Kd.R_drewN | apply Kd.R_drew)); exact (Kd.R_mono (Kd.R_far (p := ⟨gb163, 2, none⟩) (Kd.R_far (p := ⟨gb163, 1, none⟩) (Kd.R_far (p := ⟨gb163, 0, none⟩) (Kd.R_types HO146.out BK163.out (by decide)) (fun _ hk => hk.2) (.slice Ao84 t156.length co84)) (fun _ hk => hk.2) (.slice Ao88 t159.length co88)) (fun _ hk => hk.2) (.int .i64 t162)) (fun _ h_ => h_.1))) : P := h
theorem z9_51 {P : Prop} (h : P := by (with_reducible repeat (first | apply Kd.R_alloc | apply Kd.R_drewN | apply Kd.R_drew)); exact (Kd.R_mono (Kd.R_far (p := ⟨gb163, 2, none⟩) (Kd.R_far (p := ⟨gb163, 1, none⟩) (Kd.R_far (p := ⟨gb163, 0, none⟩) (Kd.R_types HO146.out BK163.out (by decide)) (fun _ hk => hk.2) (.slice Ao44 t156.length co44)) (fun _ hk => hk.2) (.slice Ao48 t159.length co48)) (fun _ hk => hk.2) (.int .i64 t162)) (fun _ h_ => h_.1))) : P := h
theorem z9_52 {P : Prop} (h : P := by rw [hg]; exact Nat.ne_of_lt (blk_lt (g := gb137) (o := .cells #[.slice A0_0 l0_0.length c0_0, .slice A0_1 l0_1.length c0_1, .int .i64 a0_2] 51 (0, 0)) z9_1)) : P := h
theorem z9_53 {P : Prop} (h : P := by rw [hg]; exact Nat.ne_of_gt (blk_lt (g := gb137) (o := .cells #[.slice A0_0 l0_0.length c0_0, .slice A0_1 l0_1.length c0_1, .int .i64 a0_2] 51 (0, 0)) z9_1)) : P := h
theorem z9_54 {P : Prop} (h : P := by rw [hg]; exact Nat.ne_of_lt (blk_lt (g := gb138) (o := .cells #[.slice A1_0 l1_0.length c1_0, .slice A1_1 l1_1.length c1_1, .int .i64 a1_2] 51 (0, 0)) z9_3)) : P := h
theorem z9_55 {P : Prop} (h : P := by rw [hg]; exact Nat.ne_of_gt (blk_lt (g := gb138) (o := .cells #[.slice A1_0 l1_0.length c1_0, .slice A1_1 l1_1.length c1_1, .int .i64 a1_2] 51 (0, 0)) z9_3)) : P := h
theorem z9_56 {P : Prop} (h : P := by (with_reducible repeat (first | apply Kd.R_alloc | apply Kd.R_drewN | apply Kd.R_drew)); exact (Kd.R_mono (Kd.R_far (p := ⟨gb163, 2, none⟩) (Kd.R_far (p := ⟨gb163, 1, none⟩) (Kd.R_far (p := ⟨gb163, 0, none⟩) (Kd.R_types HO143.out BK163.out (by decide)) (fun _ hk => hk.2) (.slice Ao84 t156.length co84)) (fun _ hk => hk.2) (.slice Ao88 t159.length co88)) (fun _ hk => hk.2) (.int .i64 t162)) (fun _ h_ => h_.1))) : P := h
theorem z9_57 {P : Prop} (h : P := by (with_reducible repeat (first | apply Kd.R_alloc | apply Kd.R_drewN | apply Kd.R_drew)); exact (Kd.R_mono (Kd.R_far (p := ⟨gb163, 2, none⟩) (Kd.R_far (p := ⟨gb163, 1, none⟩) (Kd.R_far (p := ⟨gb163, 0, none⟩) (Kd.R_types HO143.out BK163.out (by decide)) (fun _ hk => hk.2) (.slice Ao44 t156.length co44)) (fun _ hk => hk.2) (.slice Ao48 t159.length co48)) (fun _ hk => hk.2) (.int .i64 t162)) (fun _ h_ => h_.1))) : P := h
theorem z9_58 {P : Prop} (h : P := by first | (go_simp; done) | (go_simp; rfl)) : P := h
theorem z9_59 {P : Prop} (h : P := by repeat (first | exact (Kd.R_reads' HO153.out).2.2 | (with_reducible refine Kd.C_alloc ?_ _) | (with_reducible refine Kd.C_drewN ?_ _) | (with_reducible refine Kd.C_drew ?_))) : P := h
theorem z9_60 {P : Prop} (h : P := by repeat (first | exact (Kd.R_reads' HO150.out).2.2 | (with_reducible refine Kd.C_alloc ?_ _) | (with_reducible refine Kd.C_drewN ?_ _) | (with_reducible refine Kd.C_drew ?_))) : P := h
theorem z9_61 {P : Prop} (h : P := by repeat (first | exact (Kd.R_reads' HO146.out).2.2 | (with_reducible refine Kd.C_alloc ?_ _) | (with_reducible refine Kd.C_drewN ?_ _) | (with_reducible refine Kd.C_drew ?_))) : P := h
theorem z9_62 {P : Prop} (h : P := by repeat (first | exact (Kd.R_reads' HO143.out).2.2 | (with_reducible refine Kd.C_alloc ?_ _) | (with_reducible refine Kd.C_drewN ?_ _) | (with_reducible refine Kd.C_drew ?_))) : P := h
theorem z9_63 {P : Prop} (h : P := by (with_reducible repeat (first | apply Kd.R_alloc | apply Kd.R_drewN | apply Kd.R_drew)); exact (Kd.R_mono (Kd.R_far (p := ⟨gb171, 2, none⟩) (Kd.R_far (p := ⟨gb171, 1, none⟩) (Kd.R_far (p := ⟨gb171, 0, none⟩) (Kd.R_types HO169.out BK171.out (by decide)) (fun _ hk => hk.2) (.slice Ao180 t164.length co180)) (fun _ hk => hk.2) (.slice Ao185 t167.length co185)) (fun _ hk => hk.2) (.int .i64 t170)) (fun _ h_ => h_.1))) : P := h
theorem z9_64 {P : Prop} (h : P := by (with_reducible repeat (first | apply Kd.R_alloc | apply Kd.R_drewN | apply Kd.R_drew)); exact (Kd.R_mono (Kd.R_far (p := ⟨gb171, 2, none⟩) (Kd.R_far (p := ⟨gb171, 1, none⟩) (Kd.R_far (p := ⟨gb171, 0, none⟩) (Kd.R_types HO169.out BK171.out (by decide)) (fun _ hk => hk.2) (.slice Ao136 t164.length co136)) (fun _ hk => hk.2) (.slice Ao141 t167.length co141)) (fun _ hk => hk.2) (.int .i64 t170)) (fun _ h_ => h_.1))) : P := h
theorem z9_65 {P : Prop} (h : P := by (with_reducible repeat (first | apply Kd.R_alloc | apply Kd.R_drewN | apply Kd.R_drew)); exact (Kd.R_mono (Kd.R_far (p := ⟨gb171, 2, none⟩) (Kd.R_far (p := ⟨gb171, 1, none⟩) (Kd.R_far (p := ⟨gb171, 0, none⟩) (Kd.R_types HO166.out BK171.out (by decide)) (fun _ hk => hk.2) (.slice Ao180 t164.length co180)) (fun _ hk => hk.2) (.slice Ao185 t167.length co185)) (fun _ hk => hk.2) (.int .i64 t170)) (fun _ h_ => h_.1))) : P := h
theorem z9_66 {P : Prop} (h : P := by (with_reducible repeat (first | apply Kd.R_alloc | apply Kd.R_drewN | apply Kd.R_drew)); exact (Kd.R_mono (Kd.R_far (p := ⟨gb171, 2, none⟩) (Kd.R_far (p := ⟨gb171, 1, none⟩) (Kd.R_far (p := ⟨gb171, 0, none⟩) (Kd.R_types HO166.out BK171.out (by decide)) (fun _ hk => hk.2) (.slice Ao136 t164.length co136)) (fun _ hk => hk.2) (.slice Ao141 t167.length co141)) (fun _ hk => hk.2) (.int .i64 t170)) (fun _ h_ => h_.1))) : P := h
theorem z9_67 {P : Prop} (h : P := by (with_reducible repeat (first | apply Kd.R_alloc | apply Kd.R_drewN | apply Kd.R_drew)); exact (Kd.R_mono (Kd.R_far (p := ⟨gb171, 2, none⟩) (Kd.R_far (p := ⟨gb171, 1, none⟩) (Kd.R_far (p := ⟨gb171, 0, none⟩) (Kd.R_types HO161.out BK171.out (by decide)) (fun _ hk => hk.2) (.slice Ao180 t164.length co180)) (fun _ hk => hk.2) (.slice Ao185 t167.length co185)) (fun _ hk => hk.2) (.int .i64 t170)) (fun _ h_ => h_.1))) : P := h
theorem z9_68 {P : Prop} (h : P := by (with_reducible repeat (first | apply Kd.R_alloc | apply Kd.R_drewN | apply Kd.R_drew)); exact (Kd.R_mono (Kd.R_far (p := ⟨gb171, 2, none⟩) (Kd.R_far (p := ⟨gb171, 1, none⟩) (Kd.R_far (p := ⟨gb171, 0, none⟩) (Kd.R_types HO161.out BK171.out (by decide)) (fun _ hk => hk.2) (.slice Ao136 t164.length co136)) (fun _ hk => hk.2) (.slice Ao141 t167.length co141)) (fun _ hk => hk.2) (.int .i64 t170)) (fun _ h_ => h_.1))) : P := h
theorem z9_69 {P : Prop} (h : P := by (with_reducible repeat (first | apply Kd.R_alloc | apply Kd.R_drewN | apply Kd.R_drew)); exact (Kd.R_mono (Kd.R_far (p := ⟨gb171, 2, none⟩) (Kd.R_far (p := ⟨gb171, 1, none⟩) (Kd.R_far (p := ⟨gb171, 0, none⟩) (Kd.R_types HO158.out BK171.out (by decide)) (fun _ hk => hk.2) (.slice Ao180 t164.length co180)) (fun _ hk => hk.2) (.slice Ao185 t167.length co185)) (fun _ hk => hk.2) (.int .i64 t170)) (fun _ h_ => h_.1))) : P := h
theorem z9_70 {P : Prop} (h : P := by (with_reducible repeat (first | apply Kd.R_alloc | apply Kd.R_drewN | apply Kd.R_drew)); exact (Kd.R_mono (Kd.R_far (p := ⟨gb171, 2, none⟩) (Kd.R_far (p := ⟨gb171, 1, none⟩) (Kd.R_far (p := ⟨gb171, 0, none⟩) (Kd.R_types HO158.out BK171.out (by decide)) (fun _ hk => hk.2) (.slice Ao136 t164.length co136)) (fun _ hk => hk.2) (.slice Ao141 t167.length co141)) (fun _ hk => hk.2) (.int .i64 t170)) (fun _ h_ => h_.1))) : P := h
theorem z9_71 {P : Prop} (h : P := by (with_reducible repeat (first | apply Kd.R_alloc | apply Kd.R_drewN | apply Kd.R_drew)); exact (Kd.R_mono (Kd.R_far (p := ⟨gb171, 2, none⟩) (Kd.R_far (p := ⟨gb171, 1, none⟩) (Kd.R_far (p := ⟨gb171, 0, none⟩) (Kd.R_types HO169.out BK171.out (by decide)) (fun _ hk => hk.2) (.slice Ao92 t164.length co92)) (fun _ hk => hk.2) (.slice Ao97 t167.length co97)) (fun _ hk => hk.2) (.int .i64 t170)) (fun _ h_ => h_.1))) : P := h
theorem z9_72 {P : Prop} (h : P := by (with_reducible repeat (first | apply Kd.R_alloc | apply Kd.R_drewN | apply Kd.R_drew)); exact (Kd.R_mono (Kd.R_far (p := ⟨gb171, 2, none⟩) (Kd.R_far (p := ⟨gb171, 1, none⟩) (Kd.R_far (p := ⟨gb171, 0, none⟩) (Kd.R_types HO169.out BK171.out (by decide)) (fun _ hk => hk.2) (.slice Ao52 t164.length co52)) (fun _ hk => hk.2) (.slice Ao57 t167.length co57)) (fun _ hk => hk.2) (.int .i64 t170)) (fun _ h_ => h_.1))) : P := h
theorem z9_73 {P : Prop} (h : P := by (with_reducible repeat (first | apply Kd.R_alloc | apply Kd.R_drewN | apply Kd.R_drew)); exact (Kd.R_mono (Kd.R_far (p := ⟨gb171, 2, none⟩) (Kd.R_far (p := ⟨gb171, 1, none⟩) (Kd.R_far (p := ⟨gb171, 0, none⟩) (Kd.R_types HO166.out BK171.out (by decide)) (fun _ hk => hk.2) (.slice Ao92 t164.length co92)) (fun _ hk => hk.2) (.slice Ao97 t167.length co97)) (fun _ hk => hk.2) (.int .i64 t170)) (fun _ h_ => h_.1))) : P := h
theorem z9_74 {P : Prop} (h : P := by (with_reducible repeat (first | apply Kd.R_alloc | apply Kd.R_drewN | apply Kd.R_drew)); exact (Kd.R_mono (Kd.R_far (p := ⟨gb171, 2, none⟩) (Kd.R_far (p := ⟨gb171, 1, none⟩) (Kd.R_far (p := ⟨gb171, 0, none⟩) (Kd.R_types HO166.out BK171.out (by decide)) (fun _ hk => hk.2) (.slice Ao52 t164.length co52)) (fun _ hk => hk.2) (.slice Ao57 t167.length co57)) (fun _ hk => hk.2) (.int .i64 t170)) (fun _ h_ => h_.1))) : P := h
theorem z9_75 {P : Prop} (h : P := by (with_reducible repeat (first | apply Kd.R_alloc | apply Kd.R_drewN | apply Kd.R_drew)); exact (Kd.R_mono (Kd.R_far (p := ⟨gb171, 2, none⟩) (Kd.R_far (p := ⟨gb171, 1, none⟩) (Kd.R_far (p := ⟨gb171, 0, none⟩) (Kd.R_types HO161.out BK171.out (by decide)) (fun _ hk => hk.2) (.slice Ao92 t164.length co92)) (fun _ hk => hk.2) (.slice Ao97 t167.length co97)) (fun _ hk => hk.2) (.int .i64 t170)) (fun _ h_ => h_.1))) : P := h
theorem z9_76 {P : Prop} (h : P := by (with_reducible repeat (first | apply Kd.R_alloc | apply Kd.R_drewN | apply Kd.R_drew)); exact (Kd.R_mono (Kd.R_far (p := ⟨gb171, 2, none⟩) (Kd.R_far (p := ⟨gb171, 1, none⟩) (Kd.R_far (p := ⟨gb171, 0, none⟩) (Kd.R_types HO161.out BK171.out (by decide)) (fun _ hk => hk.2) (.slice Ao52 t164.length co52)) (fun _ hk => hk.2) (.slice Ao57 t167.length co57)) (fun _ hk => hk.2) (.int .i64 t170)) (fun _ h_ => h_.1))) : P := h
theorem z9_77 {P : Prop} (h : P := by (with_reducible repeat (first | apply Kd.R_alloc | apply Kd.R_drewN | apply Kd.R_drew)); exact (Kd.R_mono (Kd.R_far (p := ⟨gb171, 2, none⟩) (Kd.R_far (p := ⟨gb171, 1, none⟩) (Kd.R_far (p := ⟨gb171, 0, none⟩) (Kd.R_types HO158.out BK171.out (by decide)) (fun _ hk => hk.2) (.slice Ao92 t164.length co92)) (fun _ hk => hk.2) (.slice Ao97 t167.length co97)) (fun _ hk => hk.2) (.int .i64 t170)) (fun _ h_ => h_.1))) : P := h
theorem z9_78 {P : Prop} (h : P := by (with_reducible repeat (first | apply Kd.R_alloc | apply Kd.R_drewN | apply Kd.R_drew)); exact (Kd.R_mono (Kd.R_far (p := ⟨gb171, 2, none⟩) (Kd.R_far (p := ⟨gb171, 1, none⟩) (Kd.R_far (p := ⟨gb171, 0, none⟩) (Kd.R_types HO158.out BK171.out (by decide)) (fun _ hk => hk.2) (.slice Ao52 t164.length co52)) (fun _ hk => hk.2) (.slice Ao57 t167.length co57)) (fun _ hk => hk.2) (.int .i64 t170)) (fun _ h_ => h_.1))) : P := h
theorem z9_79 {P : Prop} (h : P := by repeat (first | exact (Kd.R_reads' HO178.out).2.2 | (with_reducible refine Kd.C_alloc ?_ _) | (with_reducible refine Kd.C_drewN ?_ _) | (with_reducible refine Kd.C_drew ?_))) : P := h
theorem z9_80 {P : Prop} (h : P := by repeat (first | exact (Kd.R_reads' HO175.out).2.2 | (with_reducible refine Kd.C_alloc ?_ _) | (with_reducible refine Kd.C_drewN ?_ _) | (with_reducible refine Kd.C_drew ?_))) : P := h
theorem z9_81 {P : Prop} (h : P := by repeat (first | exact (Kd.R_reads' HO161.out).2.2 | (with_reducible refine Kd.C_alloc ?_ _) | (with_reducible refine Kd.C_drewN ?_ _) | (with_reducible refine Kd.C_drew ?_))) : P := h
theorem z9_82 {P : Prop} (h : P := by repeat (first | exact (Kd.R_reads' HO158.out).2.2 | (with_reducible refine Kd.C_alloc ?_ _) | (with_reducible refine Kd.C_drewN ?_ _) | (with_reducible refine Kd.C_drew ?_))) : P := h
theorem z9_83 {P : Prop} (h : P := by rw [hg]; exact (below_size z9_18)) : P := h
theorem z9_84 {P : Prop} (h : P := by rw [hg]; exact (below_size z9_12)) : P := h
theorem z9_85 {P : Prop} (h : P := by decide) : P := h
theorem z9_86 {P : Prop} (h : P := by rw [hg]; exact (below_size z9_2)) : P := h
theorem z9_87 {P : Prop} (h : P := by rw [hg]; exact (below_size z9_0)) : P := h
theorem z9_88 {P : Prop} (h : P := by exact HC0_1.out) : P := h
theorem z9_89 {P : Prop} (h : P := by exact HC0_0.out) : P := h
/-! ### laws_FnExactSameRef: function 14 -/
def laws_FnExactSameRef.f (k : Nat) (l0_0 : List Int) (l0_1 : List Int) (a0_2 : Int) (l1_0 : List Int) (l1_1 : List Int) (a1_2 : Int) : Option (Bool) := (laws_szRef.f l0_0 l0_1 a0_2 1048576).bind fun t139 => (if t139 < 0 then (some true) else ((laws_szRef.f l1_0 l1_1 a1_2 t139).bind fun t140 => (if t140 < 0 then (some true) else ((laws_toRef.f k l0_0 l0_1 a0_2).bind fun bt141 => ((laws_toRef.f k l1_0 l1_1 a1_2).bind fun bt148 => ((spec_SameRef.f k bt141.1 bt141.2.1 bt141.2.2 bt148.1 bt148.2.1 bt148.2.2).bind fun t155 => ((laws_toRef.f k l0_0 l0_1 a0_2).bind fun bt156 => ((laws_toRef.f k l1_0 l1_1 a1_2).bind fun bt164 => ((impl_SameRef.f k bt156.1 bt156.2.1 bt156.2.2 bt164.1 bt164.2.1 bt164.2.2).bind fun t172 => (if (t172 != t155) = true then (some false) else ((laws_toRef.f k l0_0 l0_1 a0_2).bind fun bt173 => ((laws_eqRef.f k bt156.1 bt156.2.1 bt156.2.2 bt173.1 bt173.2.1 bt173.2.2).bind fun t180 => (if t180 = true then ((laws_toRef.f k l1_0 l1_1 a1_2).bind fun bt181 => ((laws_eqRef.f k bt164.1 bt164.2.1 bt164.2.2 bt181.1 bt181.2.1 bt181.2.2).bind fun t188 => (if t188 = true then (some true) else (some false)))) else (some false))))))))))))))
theorem laws_FnExactSameRef.mono : ∀ a0 a1 a2 a3 a4 a5 k, LeO (laws_FnExactSameRef.f k a0 a1 a2 a3 a4 a5) (laws_FnExactSameRef.f (k + 1) a0 a1 a2 a3 a4 a5) := by
  intro a0 a1 a2 a3 a4 a5 k
  unfold laws_FnExactSameRef.f
  repeat' first
      | (with_reducible exact impl_SameRef.mono _ _ _ _ _ _ _)
      | (with_reducible exact laws_eqRef.mono _ _ _ _ _ _ _)
      | (with_reducible exact laws_toRef.mono _ _ _ _)
      | (with_reducible exact spec_SameRef.mono _ _ _ _ _ _ _)
      | (with_reducible exact LeO.refl _)
      | (with_reducible exact LeO.none _)
      | (with_reducible refine LeO.ite ?_ ?_)
      | (with_reducible refine LeO.bind ?_ (fun _ => ?_))
      | exact impl_SameRef.mono _ _ _ _ _ _ _
      | exact laws_eqRef.mono _ _ _ _ _ _ _
      | exact laws_toRef.mono _ _ _ _
      | exact spec_SameRef.mono _ _ _ _ _ _ _
      | exact LeO.none _
      | refine LeO.ite ?_ ?_
      | refine LeO.bind ?_ (fun _ => ?_)
set_option maxHeartbeats 8000000 in
set_option maxRecDepth 100000 in
theorem laws_FnExactSameRef.calls (k : Nat) (A0_0 : Option Addr) (c0_0 : Nat) (l0_0 : List Int) (A0_1 : Option Addr) (c0_1 : Nat) (l0_1 : List Int) (a0_2 : Int) (A1_0 : Option Addr) (c1_0 : Nat) (l1_0 : List Int) (A1_1 : Option Addr) (c1_1 : Nat) (l1_1 : List Int) (a1_2 : Int) (r : Bool) (w : World) (hr0_0 : Kd.C (Kd.int .i64) w A0_0 l0_0.length l0_0) (hc0_0 : l0_0.length ≤ c0_0) (hr0_1 : Kd.C (Kd.int .i64) w A0_1 l0_1.length l0_1) (hc0_1 : l0_1.length ≤ c0_1) (hr1_0 : Kd.C (Kd.int .i64) w A1_0 l1_0.length l1_0) (hc1_0 : l1_0.length ≤ c1_0) (hr1_1 : Kd.C (Kd.int .i64) w A1_1 l1_1.length l1_1) (hc1_1 : l1_1.length ≤ c1_1) (h : laws_FnExactSameRef.f k l0_0 l0_1 a0_2 l1_0 l1_1 a1_2 = some r) :
    Calls Try.prog 14 #[.agg #[.slice A0_0 l0_0.length c0_0, .slice A0_1 l0_1.length c0_1, .int .i64 a0_2], .agg #[.slice A1_0 l1_0.length c1_0, .slice A1_1 l1_1.length c1_1, .int .i64 a1_2]] w fun e w' => e = .returned (.bool r) ∧ Below w.heap.size w w' := by
  have hu51 := Try.underlying51
  have hu54 := Try.underlying54
  have HR0_0 := Aside0.mk hr0_0
  have HC0_0 := Aside0.mk hc0_0
  clear hr0_0 hc0_0
  have HR0_1 := Aside0.mk hr0_1
  have HC0_1 := Aside0.mk hc0_1
  clear hr0_1 hc0_1
  have HR1_0 := Aside0.mk hr1_0
  have HC1_0 := Aside0.mk hc1_0
  clear hr1_0 hc1_0
  have HR1_1 := Aside0.mk hr1_1
  have HC1_1 := Aside0.mk hc1_1
  clear hr1_1 hc1_1
  have HB := Aside0.mk (Below.refl w.heap.size w)
  have H : ((laws_szRef.f l0_0 l0_1 a0_2 1048576).bind fun t139 => (if t139 < 0 then (some true) else ((laws_szRef.f l1_0 l1_1 a1_2 t139).bind fun t140 => (if t140 < 0 then (some true) else ((laws_toRef.f k l0_0 l0_1 a0_2).bind fun bt141 => ((laws_toRef.f k l1_0 l1_1 a1_2).bind fun bt148 => ((spec_SameRef.f k bt141.1 bt141.2.1 bt141.2.2 bt148.1 bt148.2.1 bt148.2.2).bind fun t155 => ((laws_toRef.f k l0_0 l0_1 a0_2).bind fun bt156 => ((laws_toRef.f k l1_0 l1_1 a1_2).bind fun bt164 => ((impl_SameRef.f k bt156.1 bt156.2.1 bt156.2.2 bt164.1 bt164.2.1 bt164.2.2).bind fun t172 => (if (t172 != t155) = true then (some false) else ((laws_toRef.f k l0_0 l0_1 a0_2).bind fun bt173 => ((laws_eqRef.f k bt156.1 bt156.2.1 bt156.2.2 bt173.1 bt173.2.1 bt173.2.2).bind fun t180 => (if t180 = true then ((laws_toRef.f k l1_0 l1_1 a1_2).bind fun bt181 => ((laws_eqRef.f k bt164.1 bt164.2.1 bt164.2.2 bt181.1 bt181.2.1 bt181.2.2).bind fun t188 => (if t188 = true then (some true) else (some false)))) else (some false))))))))))))))) = some r := h
  clear h
  replace H := Option.bind_eq_some_iff.mp H
  obtain ⟨t139, A30, H⟩ := H
  replace H : (if t139 < 0 then (some true) else ((laws_szRef.f l1_0 l1_1 a1_2 t139).bind fun t140 => (if t140 < 0 then (some true) else ((laws_toRef.f k l0_0 l0_1 a0_2).bind fun bt141 => ((laws_toRef.f k l1_0 l1_1 a1_2).bind fun bt148 => ((spec_SameRef.f k bt141.1 bt141.2.1 bt141.2.2 bt148.1 bt148.2.1 bt148.2.2).bind fun t155 => ((laws_toRef.f k l0_0 l0_1 a0_2).bind fun bt156 => ((laws_toRef.f k l1_0 l1_1 a1_2).bind fun bt164 => ((impl_SameRef.f k bt156.1 bt156.2.1 bt156.2.2 bt164.1 bt164.2.1 bt164.2.2).bind fun t172 => (if (t172 != t155) = true then (some false) else ((laws_toRef.f k l0_0 l0_1 a0_2).bind fun bt173 => ((laws_eqRef.f k bt156.1 bt156.2.1 bt156.2.2 bt173.1 bt173.2.1 bt173.2.2).bind fun t180 => (if t180 = true then ((laws_toRef.f k l1_0 l1_1 a1_2).bind fun bt181 => ((laws_eqRef.f k bt164.1 bt164.2.1 bt164.2.2 bt181.1 bt181.2.1 bt181.2.2).bind fun t188 => (if t188 = true then (some true) else (some false)))) else (some false)))))))))))))) = some r := H
  have A3 := Aside0.mk A30
  clear A30
  by_cases c4 : t139 < 0
  · rw [if_pos c4] at H
    have c4b0 : decide (t139 < 0) = true := decide_eq_true c4
    clear c4
    obtain rfl := Option.some.inj H
    go_enter Try.func14, Try.ntmps14
    go_wp2_with (first | ((with_reducible refine gate_dst (N := 2) rfl ?_); refine box_event ?hg (N := 2) ?hd (cs := #[.slice A0_0 l0_0.length c0_0, .slice A0_1 l0_1.length c0_1, .int .i64 a0_2]) (t := 51) ?hr ?_; (case hd => rfl); (case hg => rfl); (case hr => exact z9_58); intro gb137 hg w5 hbox hb; have n0_ := Aside0.mk (below_step z9_18 hb); have n1_ := Aside0.mk (hbox); have n2_ := Aside0.mk ((z9_83 : w.heap.size ≤ gb137)); have n3_ := Aside0.mk ((z9_83 : w.heap.size ≤ gb137)); clear HB; have HB := n0_; have BK137 := n1_; have GW137 := n2_; have GE137 := n3_; clear n0_ n1_ n2_ n3_; clear hb hbox hg) | ((with_reducible refine gate_dst (N := 3) rfl ?_); refine box_event ?hg (N := 3) ?hd (cs := #[.slice A1_0 l1_0.length c1_0, .slice A1_1 l1_1.length c1_1, .int .i64 a1_2]) (t := 51) ?hr ?_; (case hd => rfl); (case hg => rfl); (case hr => exact z9_58); intro gb138 hg w6 hbox hb; have n0_ := Aside0.mk (blk_below (g := gb137) (o := .cells #[.slice A0_0 l0_0.length c0_0, .slice A0_1 l0_1.length c0_1, .int .i64 a0_2] 51 (0, 0)) z9_1 hb); have n1_ := Aside0.mk (below_step z9_12 hb); have n2_ := Aside0.mk (hbox); have n3_ := Aside0.mk ((z9_84 : w.heap.size ≤ gb138)); have n4_ := Aside0.mk ((z9_84 : w.heap.size ≤ gb138)); have n5_ := Aside0.mk ((z9_52 : gb137 ≠ gb138)); have n6_ := Aside0.mk ((z9_53 : gb138 ≠ gb137)); clear BK137; clear HB; have BK137 := n0_; have HB := n1_; have BK138 := n2_; have GW138 := n3_; have GE138 := n4_; have NB137_138 := n5_; have NB138_137 := n6_; clear n0_ n1_ n2_ n3_ n4_ n5_ n6_; clear hb hbox hg; have hnb7 := NB137_138.out; have hnc7 := NB138_137.out; have hcz8_0 : w6.cell? ⟨gb137, 0, none⟩ = some (.slice A0_0 l0_0.length c0_0) := (blk_cell BK137.out 0).trans rfl; have hcz8_1 : w6.cell? ⟨gb137, 1, none⟩ = some (.slice A0_1 l0_1.length c0_1) := (blk_cell BK137.out 1).trans rfl; have hcz8_2 : w6.cell? ⟨gb137, 2, none⟩ = some (.int .i64 a0_2) := (blk_cell BK137.out 2).trans rfl; have hfz8_0 := blk_frozen BK137.out 0; have hfz8_1 := blk_frozen BK137.out 1; have hfz8_2 := blk_frozen BK137.out 2) | ((first | ((with_reducible refine gate_callee (f := 42) rfl ?_); refine goesL_ (some 12) rfl rfl Try.func42 z9_29 rfl #[.agg #[.slice A0_0 l0_0.length c0_0, .slice A0_1 l0_1.length c0_1, .int .i64 a0_2], .int .i64 1048576] rfl z9_4 ?_; (with_reducible refine (laws_szRef.calls _ _ l0_0 _ _ l0_1 a0_2 1048576 t139 _ ?side1 ?side2 ?side3 ?side4 A3.out).mono ?_)) | (go_at_call 42; (with_reducible refine (laws_szRef.calls _ _ l0_0 _ _ l0_1 a0_2 1048576 t139 _ ?side1 ?side2 ?side3 ?side4 A3.out).mono ?_))); (case side1 => exact z9_11); (case side2 => exact z9_89); (case side3 => exact z9_10); (case side4 => exact z9_88); rintro e w9 ⟨rfl, hb⟩; (first | refine ⟨_, rfl, ?_⟩ | skip); have n0_ := Aside0.mk (blk_below (g := gb137) (o := .cells #[.slice A0_0 l0_0.length c0_0, .slice A0_1 l0_1.length c0_1, .int .i64 a0_2] 51 (0, 0)) z9_1 hb); have n1_ := Aside0.mk (blk_below (g := gb138) (o := .cells #[.slice A1_0 l1_0.length c1_0, .slice A1_1 l1_1.length c1_1, .int .i64 a1_2] 51 (0, 0)) z9_3 hb); have n2_ := Aside0.mk (below_step z9_0 hb); clear BK137; clear BK138; clear HB; have BK137 := n0_; have BK138 := n1_; have HB := n2_; clear n0_ n1_ n2_; (try clear hb); (try clear hb2); (try clear hk); (try clear hi)))
    go_ret
    exact ⟨by first | rfl | (simp [errW_none, errW_some] <;> rfl) | (simp [*, errW_none, errW_some] <;> rfl) | (simp [*, errW_none, errW_some, i64_w]; done), by repeat (first | (with_reducible first | exact HB.out | apply below_alloc | apply pw_below_drewN | apply below_drew1 | refine below_set ?_ GE137.out | refine below_set ?_ GE138.out) | exact HB.out)⟩
  · rw [if_neg c4] at H
    have c4b0 : decide (t139 < 0) = false := decide_eq_false c4
    clear c4
    replace H := Option.bind_eq_some_iff.mp H
    obtain ⟨t140, A100, H⟩ := H
    replace H : (if t140 < 0 then (some true) else ((laws_toRef.f k l0_0 l0_1 a0_2).bind fun bt141 => ((laws_toRef.f k l1_0 l1_1 a1_2).bind fun bt148 => ((spec_SameRef.f k bt141.1 bt141.2.1 bt141.2.2 bt148.1 bt148.2.1 bt148.2.2).bind fun t155 => ((laws_toRef.f k l0_0 l0_1 a0_2).bind fun bt156 => ((laws_toRef.f k l1_0 l1_1 a1_2).bind fun bt164 => ((impl_SameRef.f k bt156.1 bt156.2.1 bt156.2.2 bt164.1 bt164.2.1 bt164.2.2).bind fun t172 => (if (t172 != t155) = true then (some false) else ((laws_toRef.f k l0_0 l0_1 a0_2).bind fun bt173 => ((laws_eqRef.f k bt156.1 bt156.2.1 bt156.2.2 bt173.1 bt173.2.1 bt173.2.2).bind fun t180 => (if t180 = true then ((laws_toRef.f k l1_0 l1_1 a1_2).bind fun bt181 => ((laws_eqRef.f k bt164.1 bt164.2.1 bt164.2.2 bt181.1 bt181.2.1 bt181.2.2).bind fun t188 => (if t188 = true then (some true) else (some false)))) else (some false)))))))))))) = some r := H
    have A10 := Aside0.mk A100
    clear A100
    by_cases c11 : t140 < 0
    · rw [if_pos c11] at H
      have c11b0 : decide (t140 < 0) = true := decide_eq_true c11
      clear c11
      obtain rfl := Option.some.inj H
      go_enter Try.func14, Try.ntmps14
      go_wp2_with (first | ((with_reducible refine gate_dst (N := 2) rfl ?_); refine box_event ?hg (N := 2) ?hd (cs := #[.slice A0_0 l0_0.length c0_0, .slice A0_1 l0_1.length c0_1, .int .i64 a0_2]) (t := 51) ?hr ?_; (case hd => rfl); (case hg => rfl); (case hr => exact z9_58); intro gb137 hg w12 hbox hb; have n0_ := Aside0.mk (below_step z9_18 hb); have n1_ := Aside0.mk (hbox); have n2_ := Aside0.mk ((z9_83 : w.heap.size ≤ gb137)); have n3_ := Aside0.mk ((z9_83 : w.heap.size ≤ gb137)); clear HB; have HB := n0_; have BK137 := n1_; have GW137 := n2_; have GE137 := n3_; clear n0_ n1_ n2_ n3_; clear hb hbox hg) | ((with_reducible refine gate_dst (N := 3) rfl ?_); refine box_event ?hg (N := 3) ?hd (cs := #[.slice A1_0 l1_0.length c1_0, .slice A1_1 l1_1.length c1_1, .int .i64 a1_2]) (t := 51) ?hr ?_; (case hd => rfl); (case hg => rfl); (case hr => exact z9_58); intro gb138 hg w13 hbox hb; have n0_ := Aside0.mk (blk_below (g := gb137) (o := .cells #[.slice A0_0 l0_0.length c0_0, .slice A0_1 l0_1.length c0_1, .int .i64 a0_2] 51 (0, 0)) z9_1 hb); have n1_ := Aside0.mk (below_step z9_12 hb); have n2_ := Aside0.mk (hbox); have n3_ := Aside0.mk ((z9_84 : w.heap.size ≤ gb138)); have n4_ := Aside0.mk ((z9_84 : w.heap.size ≤ gb138)); have n5_ := Aside0.mk ((z9_52 : gb137 ≠ gb138)); have n6_ := Aside0.mk ((z9_53 : gb138 ≠ gb137)); clear BK137; clear HB; have BK137 := n0_; have HB := n1_; have BK138 := n2_; have GW138 := n3_; have GE138 := n4_; have NB137_138 := n5_; have NB138_137 := n6_; clear n0_ n1_ n2_ n3_ n4_ n5_ n6_; clear hb hbox hg; have hnb14 := NB137_138.out; have hnc14 := NB138_137.out; have hcz15_0 : w13.cell? ⟨gb137, 0, none⟩ = some (.slice A0_0 l0_0.length c0_0) := (blk_cell BK137.out 0).trans rfl; have hcz15_1 : w13.cell? ⟨gb137, 1, none⟩ = some (.slice A0_1 l0_1.length c0_1) := (blk_cell BK137.out 1).trans rfl; have hcz15_2 : w13.cell? ⟨gb137, 2, none⟩ = some (.int .i64 a0_2) := (blk_cell BK137.out 2).trans rfl; have hfz15_0 := blk_frozen BK137.out 0; have hfz15_1 := blk_frozen BK137.out 1; have hfz15_2 := blk_frozen BK137.out 2) | ((first | ((with_reducible refine gate_callee (f := 42) rfl ?_); refine goesL_ (some 12) rfl rfl Try.func42 z9_29 rfl #[.agg #[.slice A0_0 l0_0.length c0_0, .slice A0_1 l0_1.length c0_1, .int .i64 a0_2], .int .i64 1048576] rfl z9_4 ?_; (with_reducible refine (laws_szRef.calls _ _ l0_0 _ _ l0_1 a0_2 1048576 t139 _ ?side1 ?side2 ?side3 ?side4 A3.out).mono ?_)) | (go_at_call 42; (with_reducible refine (laws_szRef.calls _ _ l0_0 _ _ l0_1 a0_2 1048576 t139 _ ?side1 ?side2 ?side3 ?side4 A3.out).mono ?_))); (case side1 => exact z9_11); (case side2 => exact z9_89); (case side3 => exact z9_10); (case side4 => exact z9_88); rintro e w16 ⟨rfl, hb⟩; (first | refine ⟨_, rfl, ?_⟩ | skip); have n0_ := Aside0.mk (blk_below (g := gb137) (o := .cells #[.slice A0_0 l0_0.length c0_0, .slice A0_1 l0_1.length c0_1, .int .i64 a0_2] 51 (0, 0)) z9_1 hb); have n1_ := Aside0.mk (blk_below (g := gb138) (o := .cells #[.slice A1_0 l1_0.length c1_0, .slice A1_1 l1_1.length c1_1, .int .i64 a1_2] 51 (0, 0)) z9_3 hb); have n2_ := Aside0.mk (below_step z9_0 hb); clear BK137; clear BK138; clear HB; have BK137 := n0_; have BK138 := n1_; have HB := n2_; clear n0_ n1_ n2_; (try clear hb); (try clear hb2); (try clear hk); (try clear hi); have hcz17_0 : w16.cell? ⟨gb138, 0, none⟩ = some (.slice A1_0 l1_0.length c1_0) := (blk_cell BK138.out 0).trans rfl; have hcz17_1 : w16.cell? ⟨gb138, 1, none⟩ = some (.slice A1_1 l1_1.length c1_1) := (blk_cell BK138.out 1).trans rfl; have hcz17_2 : w16.cell? ⟨gb138, 2, none⟩ = some (.int .i64 a1_2) := (blk_cell BK138.out 2).trans rfl; have hfz17_0 := blk_frozen BK138.out 0; have hfz17_1 := blk_frozen BK138.out 1; have hfz17_2 := blk_frozen BK138.out 2) | ((first | ((with_reducible refine gate_callee (f := 42) rfl ?_); refine goesL_ (some 17) rfl rfl Try.func42 z9_29 rfl #[.agg #[.slice A1_0 l1_0.length c1_0, .slice A1_1 l1_1.length c1_1, .int .i64 a1_2], .int .i64 t139] rfl z9_4 ?_; (with_reducible refine (laws_szRef.calls _ _ l1_0 _ _ l1_1 a1_2 t139 t140 _ ?side1 ?side2 ?side3 ?side4 A10.out).mono ?_)) | (go_at_call 42; (with_reducible refine (laws_szRef.calls _ _ l1_0 _ _ l1_1 a1_2 t139 t140 _ ?side1 ?side2 ?side3 ?side4 A10.out).mono ?_))); (case side1 => exact z9_20); (case side2 => exact HC1_0.out); (case side3 => exact z9_19); (case side4 => exact HC1_1.out); rintro e w18 ⟨rfl, hb⟩; (first | refine ⟨_, rfl, ?_⟩ | skip); have n0_ := Aside0.mk (blk_below (g := gb137) (o := .cells #[.slice A0_0 l0_0.length c0_0, .slice A0_1 l0_1.length c0_1, .int .i64 a0_2] 51 (0, 0)) z9_1 hb); have n1_ := Aside0.mk (blk_below (g := gb138) (o := .cells #[.slice A1_0 l1_0.length c1_0, .slice A1_1 l1_1.length c1_1, .int .i64 a1_2] 51 (0, 0)) z9_3 hb); have n2_ := Aside0.mk (below_step z9_0 hb); clear BK137; clear BK138; clear HB; have BK137 := n0_; have BK138 := n1_; have HB := n2_; clear n0_ n1_ n2_; (try clear hb); (try clear hb2); (try clear hk); (try clear hi)))
      go_ret
      exact ⟨by first | rfl | (simp [errW_none, errW_some] <;> rfl) | (simp [*, errW_none, errW_some] <;> rfl) | (simp [*, errW_none, errW_some, i64_w]; done), by repeat (first | (with_reducible first | exact HB.out | apply below_alloc | apply pw_below_drewN | apply below_drew1 | refine below_set ?_ GE137.out | refine below_set ?_ GE138.out) | exact HB.out)⟩
    · rw [if_neg c11] at H
      have c11b0 : decide (t140 < 0) = false := decide_eq_false c11
      clear c11
      replace H := Option.bind_eq_some_iff.mp H
      obtain ⟨⟨t141, t144, t147⟩, A190, H⟩ := H
      replace H : ((laws_toRef.f k l1_0 l1_1 a1_2).bind fun bt148 => ((spec_SameRef.f k t141 t144 t147 bt148.1 bt148.2.1 bt148.2.2).bind fun t155 => ((laws_toRef.f k l0_0 l0_1 a0_2).bind fun bt156 => ((laws_toRef.f k l1_0 l1_1 a1_2).bind fun bt164 => ((impl_SameRef.f k bt156.1 bt156.2.1 bt156.2.2 bt164.1 bt164.2.1 bt164.2.2).bind fun t172 => (if (t172 != t155) = true then (some false) else ((laws_toRef.f k l0_0 l0_1 a0_2).bind fun bt173 => ((laws_eqRef.f k bt156.1 bt156.2.1 bt156.2.2 bt173.1 bt173.2.1 bt173.2.2).bind fun t180 => (if t180 = true then ((laws_toRef.f k l1_0 l1_1 a1_2).bind fun bt181 => ((laws_eqRef.f k bt164.1 bt164.2.1 bt164.2.2 bt181.1 bt181.2.1 bt181.2.2).bind fun t188 => (if t188 = true then (some true) else (some false)))) else (some false)))))))))) = some r := H
      have A19 := Aside0.mk A190
      clear A190
      replace H := Option.bind_eq_some_iff.mp H
      obtain ⟨⟨t148, t151, t154⟩, A200, H⟩ := H
      replace H : ((spec_SameRef.f k t141 t144 t147 t148 t151 t154).bind fun t155 => ((laws_toRef.f k l0_0 l0_1 a0_2).bind fun bt156 => ((laws_toRef.f k l1_0 l1_1 a1_2).bind fun bt164 => ((impl_SameRef.f k bt156.1 bt156.2.1 bt156.2.2 bt164.1 bt164.2.1 bt164.2.2).bind fun t172 => (if (t172 != t155) = true then (some false) else ((laws_toRef.f k l0_0 l0_1 a0_2).bind fun bt173 => ((laws_eqRef.f k bt156.1 bt156.2.1 bt156.2.2 bt173.1 bt173.2.1 bt173.2.2).bind fun t180 => (if t180 = true then ((laws_toRef.f k l1_0 l1_1 a1_2).bind fun bt181 => ((laws_eqRef.f k bt164.1 bt164.2.1 bt164.2.2 bt181.1 bt181.2.1 bt181.2.2).bind fun t188 => (if t188 = true then (some true) else (some false)))) else (some false))))))))) = some r := H
      have A20 := Aside0.mk A200
      clear A200
      replace H := Option.bind_eq_some_iff.mp H
      obtain ⟨t155, A210, H⟩ := H
      replace H : ((laws_toRef.f k l0_0 l0_1 a0_2).bind fun bt156 => ((laws_toRef.f k l1_0 l1_1 a1_2).bind fun bt164 => ((impl_SameRef.f k bt156.1 bt156.2.1 bt156.2.2 bt164.1 bt164.2.1 bt164.2.2).bind fun t172 => (if (t172 != t155) = true then (some false) else ((laws_toRef.f k l0_0 l0_1 a0_2).bind fun bt173 => ((laws_eqRef.f k bt156.1 bt156.2.1 bt156.2.2 bt173.1 bt173.2.1 bt173.2.2).bind fun t180 => (if t180 = true then ((laws_toRef.f k l1_0 l1_1 a1_2).bind fun bt181 => ((laws_eqRef.f k bt164.1 bt164.2.1 bt164.2.2 bt181.1 bt181.2.1 bt181.2.2).bind fun t188 => (if t188 = true then (some true) else (some false)))) else (some false)))))))) = some r := H
      have A21 := Aside0.mk A210
      clear A210
      replace H := Option.bind_eq_some_iff.mp H
      obtain ⟨⟨t156, t159, t162⟩, A220, H⟩ := H
      replace H : ((laws_toRef.f k l1_0 l1_1 a1_2).bind fun bt164 => ((impl_SameRef.f k t156 t159 t162 bt164.1 bt164.2.1 bt164.2.2).bind fun t172 => (if (t172 != t155) = true then (some false) else ((laws_toRef.f k l0_0 l0_1 a0_2).bind fun bt173 => ((laws_eqRef.f k t156 t159 t162 bt173.1 bt173.2.1 bt173.2.2).bind fun t180 => (if t180 = true then ((laws_toRef.f k l1_0 l1_1 a1_2).bind fun bt181 => ((laws_eqRef.f k bt164.1 bt164.2.1 bt164.2.2 bt181.1 bt181.2.1 bt181.2.2).bind fun t188 => (if t188 = true then (some true) else (some false)))) else (some false))))))) = some r := H
      have A22 := Aside0.mk A220
      clear A220
      replace H := Option.bind_eq_some_iff.mp H
      obtain ⟨⟨t164, t167, t170⟩, A230, H⟩ := H
      replace H : ((impl_SameRef.f k t156 t159 t162 t164 t167 t170).bind fun t172 => (if (t172 != t155) = true then (some false) else ((laws_toRef.f k l0_0 l0_1 a0_2).bind fun bt173 => ((laws_eqRef.f k t156 t159 t162 bt173.1 bt173.2.1 bt173.2.2).bind fun t180 => (if t180 = true then ((laws_toRef.f k l1_0 l1_1 a1_2).bind fun bt181 => ((laws_eqRef.f k t164 t167 t170 bt181.1 bt181.2.1 bt181.2.2).bind fun t188 => (if t188 = true then (some true) else (some false)))) else (some false)))))) = some r := H
      have A23 := Aside0.mk A230
      clear A230
      replace H := Option.bind_eq_some_iff.mp H
      obtain ⟨t172, A240, H⟩ := H
      replace H : (if (t172 != t155) = true then (some false) else ((laws_toRef.f k l0_0 l0_1 a0_2).bind fun bt173 => ((laws_eqRef.f k t156 t159 t162 bt173.1 bt173.2.1 bt173.2.2).bind fun t180 => (if t180 = true then ((laws_toRef.f k l1_0 l1_1 a1_2).bind fun bt181 => ((laws_eqRef.f k t164 t167 t170 bt181.1 bt181.2.1 bt181.2.2).bind fun t188 => (if t188 = true then (some true) else (some false)))) else (some false))))) = some r := H
      have A24 := Aside0.mk A240
      clear A240
      by_cases c25 : (t172 != t155) = true
      · rw [if_pos c25] at H
        have c25b0 : (t172 != t155) = true := c25
        (try (have c25b1 : decide (t172 = t155) = false := by simpa using c25))
        (try (have c25b2 : (t172 == t155) = false := by simpa using c25))
        (try (have c25b3 : ¬ (t172 = t155) := by simpa using c25))
        clear c25
        obtain rfl := Option.some.inj H
        go_enter Try.func14, Try.ntmps14
        try go_wp2_with (first | ((with_reducible refine gate_dst (N := 2) rfl ?_); refine box_event ?hg (N := 2) ?hd (cs := #[.slice A0_0 l0_0.length c0_0, .slice A0_1 l0_1.length c0_1, .int .i64 a0_2]) (t := 51) ?hr ?_; (case hd => rfl); (case hg => rfl); (case hr => exact z9_58); intro gb137 hg w26 hbox hb; have n0_ := Aside0.mk (below_step z9_18 hb); have n1_ := Aside0.mk (hbox); have n2_ := Aside0.mk ((z9_83 : w.heap.size ≤ gb137)); have n3_ := Aside0.mk ((z9_83 : w.heap.size ≤ gb137)); clear HB; have HB := n0_; have BK137 := n1_; have GW137 := n2_; have GE137 := n3_; clear n0_ n1_ n2_ n3_; clear hb hbox hg) | ((with_reducible refine gate_dst (N := 3) rfl ?_); refine box_event ?hg (N := 3) ?hd (cs := #[.slice A1_0 l1_0.length c1_0, .slice A1_1 l1_1.length c1_1, .int .i64 a1_2]) (t := 51) ?hr ?_; (case hd => rfl); (case hg => rfl); (case hr => exact z9_58); intro gb138 hg w27 hbox hb; have n0_ := Aside0.mk (blk_below (g := gb137) (o := .cells #[.slice A0_0 l0_0.length c0_0, .slice A0_1 l0_1.length c0_1, .int .i64 a0_2] 51 (0, 0)) z9_1 hb); have n1_ := Aside0.mk (below_step z9_12 hb); have n2_ := Aside0.mk (hbox); have n3_ := Aside0.mk ((z9_84 : w.heap.size ≤ gb138)); have n4_ := Aside0.mk ((z9_84 : w.heap.size ≤ gb138)); have n5_ := Aside0.mk ((z9_52 : gb137 ≠ gb138)); have n6_ := Aside0.mk ((z9_53 : gb138 ≠ gb137)); clear BK137; clear HB; have BK137 := n0_; have HB := n1_; have BK138 := n2_; have GW138 := n3_; have GE138 := n4_; have NB137_138 := n5_; have NB138_137 := n6_; clear n0_ n1_ n2_ n3_ n4_ n5_ n6_; clear hb hbox hg; have hnb28 := NB137_138.out; have hnc28 := NB138_137.out; have hcz29_0 : w27.cell? ⟨gb137, 0, none⟩ = some (.slice A0_0 l0_0.length c0_0) := (blk_cell BK137.out 0).trans rfl; have hcz29_1 : w27.cell? ⟨gb137, 1, none⟩ = some (.slice A0_1 l0_1.length c0_1) := (blk_cell BK137.out 1).trans rfl; have hcz29_2 : w27.cell? ⟨gb137, 2, none⟩ = some (.int .i64 a0_2) := (blk_cell BK137.out 2).trans rfl; have hfz29_0 := blk_frozen BK137.out 0; have hfz29_1 := blk_frozen BK137.out 1; have hfz29_2 := blk_frozen BK137.out 2) | ((first | ((with_reducible refine gate_callee (f := 42) rfl ?_); refine goesL_ (some 12) rfl rfl Try.func42 z9_29 rfl #[.agg #[.slice A0_0 l0_0.length c0_0, .slice A0_1 l0_1.length c0_1, .int .i64 a0_2], .int .i64 1048576] rfl z9_4 ?_; (with_reducible refine (laws_szRef.calls _ _ l0_0 _ _ l0_1 a0_2 1048576 t139 _ ?side1 ?side2 ?side3 ?side4 A3.out).mono ?_)) | (go_at_call 42; (with_reducible refine (laws_szRef.calls _ _ l0_0 _ _ l0_1 a0_2 1048576 t139 _ ?side1 ?side2 ?side3 ?side4 A3.out).mono ?_))); (case side1 => exact z9_11); (case side2 => exact z9_89); (case side3 => exact z9_10); (case side4 => exact z9_88); rintro e w30 ⟨rfl, hb⟩; (first | refine ⟨_, rfl, ?_⟩ | skip); have n0_ := Aside0.mk (blk_below (g := gb137) (o := .cells #[.slice A0_0 l0_0.length c0_0, .slice A0_1 l0_1.length c0_1, .int .i64 a0_2] 51 (0, 0)) z9_1 hb); have n1_ := Aside0.mk (blk_below (g := gb138) (o := .cells #[.slice A1_0 l1_0.length c1_0, .slice A1_1 l1_1.length c1_1, .int .i64 a1_2] 51 (0, 0)) z9_3 hb); have n2_ := Aside0.mk (below_step z9_0 hb); clear BK137; clear BK138; clear HB; have BK137 := n0_; have BK138 := n1_; have HB := n2_; clear n0_ n1_ n2_; (try clear hb); (try clear hb2); (try clear hk); (try clear hi); have hcz31_0 : w30.cell? ⟨gb138, 0, none⟩ = some (.slice A1_0 l1_0.length c1_0) := (blk_cell BK138.out 0).trans rfl; have hcz31_1 : w30.cell? ⟨gb138, 1, none⟩ = some (.slice A1_1 l1_1.length c1_1) := (blk_cell BK138.out 1).trans rfl; have hcz31_2 : w30.cell? ⟨gb138, 2, none⟩ = some (.int .i64 a1_2) := (blk_cell BK138.out 2).trans rfl; have hfz31_0 := blk_frozen BK138.out 0; have hfz31_1 := blk_frozen BK138.out 1; have hfz31_2 := blk_frozen BK138.out 2) | ((first | ((with_reducible refine gate_callee (f := 42) rfl ?_); refine goesL_ (some 17) rfl rfl Try.func42 z9_29 rfl #[.agg #[.slice A1_0 l1_0.length c1_0, .slice A1_1 l1_1.length c1_1, .int .i64 a1_2], .int .i64 t139] rfl z9_4 ?_; (with_reducible refine (laws_szRef.calls _ _ l1_0 _ _ l1_1 a1_2 t139 t140 _ ?side1 ?side2 ?side3 ?side4 A10.out).mono ?_)) | (go_at_call 42; (with_reducible refine (laws_szRef.calls _ _ l1_0 _ _ l1_1 a1_2 t139 t140 _ ?side1 ?side2 ?side3 ?side4 A10.out).mono ?_))); (case side1 => exact z9_20); (case side2 => exact HC1_0.out); (case side3 => exact z9_19); (case side4 => exact HC1_1.out); rintro e w32 ⟨rfl, hb⟩; (first | refine ⟨_, rfl, ?_⟩ | skip); have n0_ := Aside0.mk (blk_below (g := gb137) (o := .cells #[.slice A0_0 l0_0.length c0_0, .slice A0_1 l0_1.length c0_1, .int .i64 a0_2] 51 (0, 0)) z9_1 hb); have n1_ := Aside0.mk (blk_below (g := gb138) (o := .cells #[.slice A1_0 l1_0.length c1_0, .slice A1_1 l1_1.length c1_1, .int .i64 a1_2] 51 (0, 0)) z9_3 hb); have n2_ := Aside0.mk (below_step z9_0 hb); clear BK137; clear BK138; clear HB; have BK137 := n0_; have BK138 := n1_; have HB := n2_; clear n0_ n1_ n2_; (try clear hb); (try clear hb2); (try clear hk); (try clear hi)))
        have n0_ := Aside0.mk (blk_drew BK137.out)
        have n1_ := Aside0.mk (blk_drew BK138.out)
        have n2_ := Aside0.mk (below_drew1 HB.out)
        clear BK137
        clear BK138
        clear HB
        have BK137 := n0_
        have BK138 := n1_
        have HB := n2_
        clear n0_ n1_ n2_
        refine start_ (n := 6) (S := fun w' => w'.cell? ⟨gb137, 0, none⟩ = some (.slice A0_0 l0_0.length c0_0) ∧ w'.cell? ⟨gb137, 1, none⟩ = some (.slice A0_1 l0_1.length c0_1) ∧ w'.cell? ⟨gb137, 2, none⟩ = some (.int .i64 a0_2) ∧ w'.cell? ⟨gb138, 0, none⟩ = some (.slice A1_0 l1_0.length c1_0) ∧ w'.cell? ⟨gb138, 1, none⟩ = some (.slice A1_1 l1_1.length c1_1) ∧ w'.cell? ⟨gb138, 2, none⟩ = some (.int .i64 a1_2)) (ds := []) #[false, false, false, false, false, false] z9_29 rfl rfl ⟨(blk_cell BK137.out 0).trans rfl, (blk_cell BK137.out 1).trans rfl, (blk_cell BK137.out 2).trans rfl, (blk_cell BK138.out 0).trans rfl, (blk_cell BK138.out 1).trans rfl, (blk_cell BK138.out 2).trans rfl⟩ (fun hHeld => ?_)
        generalize w32.drew = w33 at BK137 BK138 HB hHeld ⊢
        refine take_ (i := 0) (N := some 20) (v := ?_) (a' := ?_) #[true, false, false, false, false, false] rfl rfl z9_29 (fun _ _ _ h => h) (Or.inl ⟨by rfl, ?_⟩) hHeld ?_ ?_
        rotate_left
        · rintro w' ⟨s0, s1, s2, s3, s4, s5⟩
          go_simp
          with_reducible rfl
        rotate_left
        · simp only [Act.put, List.setIfInBounds_toArray, List.set_cons_zero, List.set_cons_succ, i64_w, i32_w]
          rfl
        refine take_ (i := 2) (N := some 22) (v := ?_) (a' := ?_) #[true, false, true, false, false, false] rfl rfl z9_29 (fun _ _ _ h => h) (Or.inl ⟨by rfl, ?_⟩) hHeld ?_ ?_
        rotate_left
        · rintro w' ⟨s0, s1, s2, s3, s4, s5⟩
          go_simp
          with_reducible rfl
        rotate_left
        · simp only [Act.put, List.setIfInBounds_toArray, List.set_cons_zero, List.set_cons_succ, i64_w, i32_w]
          rfl
        refine one_ (i := 1) (N := some 21) #[true, true, true, false, false, false] rfl rfl z9_29 z9_85 (fun K hK => ?_)
        refine goes_ Try.func44 z9_29 rfl #[.agg #[.slice A0_0 l0_0.length c0_0, .slice A0_1 l0_1.length c0_1, .int .i64 a0_2]] (by rfl) rfl rfl z9_4 ?_
        with_reducible refine (laws_toRef.calls k _ _ l0_0 _ _ l0_1 a0_2 t141 t144 t147 _ ?side1 ?side2 ?side3 ?side4 A19.out).mono ?_
        (case side1 => exact z9_11)
        (case side2 => exact z9_89)
        (case side3 => exact z9_10)
        (case side4 => exact z9_88)
        rintro e w34 ⟨v142, v145, rfl, ho0, ho1, hb⟩
        refine ⟨_, rfl, ?_⟩
        have n0_ := Aside0.mk (Kd.R_lower ho0 (below_size z9_0))
        have n1_ := Aside0.mk (Kd.R_lower ho1 (below_size z9_0))
        have n2_ := Aside0.mk (blk_below (g := gb137) (o := .cells #[.slice A0_0 l0_0.length c0_0, .slice A0_1 l0_1.length c0_1, .int .i64 a0_2] 51 (0, 0)) z9_1 hb)
        have n3_ := Aside0.mk (blk_below (g := gb138) (o := .cells #[.slice A1_0 l1_0.length c1_0, .slice A1_1 l1_1.length c1_1, .int .i64 a1_2] 51 (0, 0)) z9_3 hb)
        have n4_ := Aside0.mk (below_step z9_0 hb)
        clear BK137
        clear BK138
        clear HB
        have HO143 := n0_
        have HO146 := n1_
        have BK137 := n2_
        have BK138 := n3_
        have HB := n4_
        clear n0_ n1_ n2_ n3_ n4_
        (try clear hb)
        (try clear hb2)
        (try clear hk)
        (try clear hi)
        (try clear ho0)
        (try clear ho1)
        refine hK.out _ _ ⟨(blk_cell BK137.out 0).trans rfl, (blk_cell BK137.out 1).trans rfl, (blk_cell BK137.out 2).trans rfl, (blk_cell BK138.out 0).trans rfl, (blk_cell BK138.out 1).trans rfl, (blk_cell BK138.out 2).trans rfl⟩ (fun hHeld => ?_)
        clear hK K
        refine norm_ (a' := ?_) ?_ ?_
        rotate_left
        · show Act.put _ (some 21) _ = _
          simp only [Act.put, List.setIfInBounds_toArray, List.set_cons_zero, List.set_cons_succ, i64_w, i32_w]
          rfl
        refine one_ (i := 3) (N := some 23) #[true, true, true, true, false, false] rfl rfl z9_29 z9_85 (fun K hK => ?_)
        refine goes_ Try.func44 z9_29 rfl #[.agg #[.slice A1_0 l1_0.length c1_0, .slice A1_1 l1_1.length c1_1, .int .i64 a1_2]] (by rfl) rfl rfl z9_4 ?_
        with_reducible refine (laws_toRef.calls k _ _ l1_0 _ _ l1_1 a1_2 t148 t151 t154 _ ?side1 ?side2 ?side3 ?side4 A20.out).mono ?_
        (case side1 => exact z9_20)
        (case side2 => exact HC1_0.out)
        (case side3 => exact z9_19)
        (case side4 => exact HC1_1.out)
        rintro e w35 ⟨v149, v152, rfl, ho0, ho1, hb⟩
        refine ⟨_, rfl, ?_⟩
        have n0_ := Aside0.mk (Kd.R_mono (Kd.R_told (Kd.R_told (Kd.R_old z9_7 hb) (Kd.R_base ho0)) (Kd.R_base ho1)) (fun _ h_ => h_.1))
        have n1_ := Aside0.mk (Kd.R_mono (Kd.R_told (Kd.R_told (Kd.R_old z9_6 hb) (Kd.R_base ho0)) (Kd.R_base ho1)) (fun _ h_ => h_.1))
        have n2_ := Aside0.mk (Kd.R_lower (Kd.R_new' (Kd.R_new' ho0 (Kd.R_lt z9_7)) (Kd.R_lt z9_6)) (below_size z9_0))
        have n3_ := Aside0.mk (Kd.R_lower (Kd.R_new' (Kd.R_new' ho1 (Kd.R_lt z9_7)) (Kd.R_lt z9_6)) (below_size z9_0))
        have n4_ := Aside0.mk (blk_below (g := gb137) (o := .cells #[.slice A0_0 l0_0.length c0_0, .slice A0_1 l0_1.length c0_1, .int .i64 a0_2] 51 (0, 0)) z9_1 hb)
        have n5_ := Aside0.mk (blk_below (g := gb138) (o := .cells #[.slice A1_0 l1_0.length c1_0, .slice A1_1 l1_1.length c1_1, .int .i64 a1_2] 51 (0, 0)) z9_3 hb)
        have n6_ := Aside0.mk (below_step z9_0 hb)
        clear HO143
        clear HO146
        clear BK137
        clear BK138
        clear HB
        have HO143 := n0_
        have HO146 := n1_
        have HO150 := n2_
        have HO153 := n3_
        have BK137 := n4_
        have BK138 := n5_
        have HB := n6_
        clear n0_ n1_ n2_ n3_ n4_ n5_ n6_
        (try clear hb)
        (try clear hb2)
        (try clear hk)
        (try clear hi)
        (try clear ho0)
        (try clear ho1)
        obtain ⟨Ao36, co36, eo36⟩ := Kd.R_slice HO143.out
        (first | subst eo36 | (injection eo36 with f1_ f2_ f3_; have f4_ := f1_.symm; have f5_ := f3_.symm; clear f1_ f2_ f3_; subst f4_; subst f5_))
        obtain ⟨Ao37, co37, eo37⟩ := Kd.R_slice HO146.out
        (first | subst eo37 | (injection eo37 with f1_ f2_ f3_; have f4_ := f1_.symm; have f5_ := f3_.symm; clear f1_ f2_ f3_; subst f4_; subst f5_))
        obtain ⟨Ao38, co38, eo38⟩ := Kd.R_slice HO150.out
        (first | subst eo38 | (injection eo38 with f1_ f2_ f3_; have f4_ := f1_.symm; have f5_ := f3_.symm; clear f1_ f2_ f3_; subst f4_; subst f5_))
        obtain ⟨Ao39, co39, eo39⟩ := Kd.R_slice HO153.out
        (first | subst eo39 | (injection eo39 with f1_ f2_ f3_; have f4_ := f1_.symm; have f5_ := f3_.symm; clear f1_ f2_ f3_; subst f4_; subst f5_))
        refine hK.out _ _ ⟨(blk_cell BK137.out 0).trans rfl, (blk_cell BK137.out 1).trans rfl, (blk_cell BK137.out 2).trans rfl, (blk_cell BK138.out 0).trans rfl, (blk_cell BK138.out 1).trans rfl, (blk_cell BK138.out 2).trans rfl⟩ (fun hHeld => ?_)
        clear hK K
        refine norm_ (a' := ?_) ?_ ?_
        rotate_left
        · show Act.put _ (some 23) _ = _
          simp only [Act.put, List.setIfInBounds_toArray, List.set_cons_zero, List.set_cons_succ, i64_w, i32_w]
          rfl
        refine one_ (i := 4) (N := some 24) #[true, true, true, true, true, false] rfl rfl z9_29 z9_85 (fun K hK => ?_)
        refine goes_ Try.func43 z9_29 rfl #[.agg #[.slice Ao36 t141.length co36, .slice Ao37 t144.length co37, .int .i64 t147], .agg #[.slice Ao38 t148.length co38, .slice Ao39 t151.length co39, .int .i64 t154]] (by rfl) rfl rfl z9_4 ?_
        with_reducible refine (spec_SameRef.calls k _ _ t141 _ _ t144 t147 _ _ t148 _ _ t151 t154 t155 _ ?side1 ?side2 ?side3 ?side4 ?side5 ?side6 ?side7 ?side8 A21.out).mono ?_
        (case side1 => exact z9_62)
        (case side2 => exact (Kd.R_reads' HO143.out).2.1)
        (case side3 => exact z9_61)
        (case side4 => exact (Kd.R_reads' HO146.out).2.1)
        (case side5 => exact z9_60)
        (case side6 => exact (Kd.R_reads' HO150.out).2.1)
        (case side7 => exact z9_59)
        (case side8 => exact (Kd.R_reads' HO153.out).2.1)
        rintro e w40 ⟨rfl, hb⟩
        refine ⟨_, rfl, ?_⟩
        have n0_ := Aside0.mk (Kd.R_below z9_7 hb)
        have n1_ := Aside0.mk (Kd.R_below z9_6 hb)
        have n2_ := Aside0.mk (Kd.R_below z9_9 hb)
        have n3_ := Aside0.mk (Kd.R_below z9_8 hb)
        have n4_ := Aside0.mk (blk_below (g := gb137) (o := .cells #[.slice A0_0 l0_0.length c0_0, .slice A0_1 l0_1.length c0_1, .int .i64 a0_2] 51 (0, 0)) z9_1 hb)
        have n5_ := Aside0.mk (blk_below (g := gb138) (o := .cells #[.slice A1_0 l1_0.length c1_0, .slice A1_1 l1_1.length c1_1, .int .i64 a1_2] 51 (0, 0)) z9_3 hb)
        have n6_ := Aside0.mk (below_step z9_0 hb)
        clear HO143
        clear HO146
        clear HO150
        clear HO153
        clear BK137
        clear BK138
        clear HB
        have HO143 := n0_
        have HO146 := n1_
        have HO150 := n2_
        have HO153 := n3_
        have BK137 := n4_
        have BK138 := n5_
        have HB := n6_
        clear n0_ n1_ n2_ n3_ n4_ n5_ n6_
        (try clear hb)
        (try clear hb2)
        (try clear hk)
        (try clear hi)
        refine hK.out _ _ ⟨(blk_cell BK137.out 0).trans rfl, (blk_cell BK137.out 1).trans rfl, (blk_cell BK137.out 2).trans rfl, (blk_cell BK138.out 0).trans rfl, (blk_cell BK138.out 1).trans rfl, (blk_cell BK138.out 2).trans rfl⟩ (fun hHeld => ?_)
        clear hK K
        refine norm_ (a' := ?_) ?_ ?_
        rotate_left
        · show Act.put _ (some 24) _ = _
          simp only [Act.put, List.setIfInBounds_toArray, List.set_cons_zero, List.set_cons_succ, i64_w, i32_w]
          rfl
        refine pure_ (i := 5) (N := some 6) (v := ?_) (a' := ?_) #[true, true, true, true, true, true] rfl rfl z9_29 (fun _ _ _ h => h) (Or.inl ⟨by rfl, ?_⟩) ?_ ?_
        rotate_left
        · intro w'
          go_simp
          with_reducible rfl
        rotate_left
        · simp only [Act.put, List.setIfInBounds_toArray, List.set_cons_zero, List.set_cons_succ, i64_w, i32_w]
          rfl
        refine done_ z9_29 ?_
        have hcz41_0 : w40.cell? ⟨gb137, 0, none⟩ = some (.slice A0_0 l0_0.length c0_0) := (blk_cell BK137.out 0).trans rfl
        have hcz41_1 : w40.cell? ⟨gb137, 1, none⟩ = some (.slice A0_1 l0_1.length c0_1) := (blk_cell BK137.out 1).trans rfl
        have hcz41_2 : w40.cell? ⟨gb137, 2, none⟩ = some (.int .i64 a0_2) := (blk_cell BK137.out 2).trans rfl
        have hfz41_0 := blk_frozen BK137.out 0
        have hfz41_1 := blk_frozen BK137.out 1
        have hfz41_2 := blk_frozen BK137.out 2
        try go_wp2_with (first | ((first | ((with_reducible refine gate_callee (f := 44) rfl ?_); refine goesL_ (some 26) rfl rfl Try.func44 z9_29 rfl #[.agg #[.slice A0_0 l0_0.length c0_0, .slice A0_1 l0_1.length c0_1, .int .i64 a0_2]] rfl z9_4 ?_; (with_reducible refine (laws_toRef.calls k _ _ l0_0 _ _ l0_1 a0_2 t156 t159 t162 _ ?side1 ?side2 ?side3 ?side4 A22.out).mono ?_)) | (go_at_call 44; (with_reducible refine (laws_toRef.calls k _ _ l0_0 _ _ l0_1 a0_2 t156 t159 t162 _ ?side1 ?side2 ?side3 ?side4 A22.out).mono ?_))); (case side1 => exact z9_11); (case side2 => exact z9_89); (case side3 => exact z9_10); (case side4 => exact z9_88); rintro e w42 ⟨v157, v160, rfl, ho0, ho1, hb⟩; (first | refine ⟨_, rfl, ?_⟩ | skip); have n0_ := Aside0.mk (Kd.R_mono (Kd.R_told (Kd.R_told (Kd.R_old z9_7 hb) (Kd.R_base ho0)) (Kd.R_base ho1)) (fun _ h_ => h_.1)); have n1_ := Aside0.mk (Kd.R_mono (Kd.R_told (Kd.R_told (Kd.R_old z9_6 hb) (Kd.R_base ho0)) (Kd.R_base ho1)) (fun _ h_ => h_.1)); have n2_ := Aside0.mk (Kd.R_mono (Kd.R_told (Kd.R_told (Kd.R_old z9_9 hb) (Kd.R_base ho0)) (Kd.R_base ho1)) (fun _ h_ => h_.1)); have n3_ := Aside0.mk (Kd.R_mono (Kd.R_told (Kd.R_told (Kd.R_old z9_8 hb) (Kd.R_base ho0)) (Kd.R_base ho1)) (fun _ h_ => h_.1)); have n4_ := Aside0.mk (Kd.R_lower (Kd.R_new' (Kd.R_new' (Kd.R_new' (Kd.R_new' ho0 (Kd.R_lt z9_7)) (Kd.R_lt z9_6)) (Kd.R_lt z9_9)) (Kd.R_lt z9_8)) (below_size z9_0)); have n5_ := Aside0.mk (Kd.R_lower (Kd.R_new' (Kd.R_new' (Kd.R_new' (Kd.R_new' ho1 (Kd.R_lt z9_7)) (Kd.R_lt z9_6)) (Kd.R_lt z9_9)) (Kd.R_lt z9_8)) (below_size z9_0)); have n6_ := Aside0.mk (blk_below (g := gb137) (o := .cells #[.slice A0_0 l0_0.length c0_0, .slice A0_1 l0_1.length c0_1, .int .i64 a0_2] 51 (0, 0)) z9_1 hb); have n7_ := Aside0.mk (blk_below (g := gb138) (o := .cells #[.slice A1_0 l1_0.length c1_0, .slice A1_1 l1_1.length c1_1, .int .i64 a1_2] 51 (0, 0)) z9_3 hb); have n8_ := Aside0.mk (below_step z9_0 hb); clear HO143; clear HO146; clear HO150; clear HO153; clear BK137; clear BK138; clear HB; have HO143 := n0_; have HO146 := n1_; have HO150 := n2_; have HO153 := n3_; have HO158 := n4_; have HO161 := n5_; have BK137 := n6_; have BK138 := n7_; have HB := n8_; clear n0_ n1_ n2_ n3_ n4_ n5_ n6_ n7_ n8_; (try clear hb); (try clear hb2); (try clear hk); (try clear hi); (try clear ho0); (try clear ho1)) | ((with_reducible refine gate_dst (N := 7) rfl ?_); refine box_event ?hg (N := 7) ?hd (cs := #[.slice none 0 0, .slice none 0 0, .int .i64 0]) (t := 54) ?hr ?_; (case hd => rfl); (case hg => rfl); (case hr => exact z9_58); intro gb163 hg w43 hbox hb; have n0_ := Aside0.mk (Kd.R_below z9_7 hb); have n1_ := Aside0.mk (Kd.R_below z9_6 hb); have n2_ := Aside0.mk (Kd.R_below z9_9 hb); have n3_ := Aside0.mk (Kd.R_below z9_8 hb); have n4_ := Aside0.mk (Kd.R_below z9_14 hb); have n5_ := Aside0.mk (Kd.R_below z9_13 hb); have n6_ := Aside0.mk (blk_below (g := gb137) (o := .cells #[.slice A0_0 l0_0.length c0_0, .slice A0_1 l0_1.length c0_1, .int .i64 a0_2] 51 (0, 0)) z9_1 hb); have n7_ := Aside0.mk (blk_below (g := gb138) (o := .cells #[.slice A1_0 l1_0.length c1_0, .slice A1_1 l1_1.length c1_1, .int .i64 a1_2] 51 (0, 0)) z9_3 hb); have n8_ := Aside0.mk (below_step z9_0 hb); have n9_ := Aside0.mk (hbox); have n10_ := Aside0.mk ((z9_87 : w.heap.size ≤ gb163)); have n11_ := Aside0.mk ((z9_87 : w.heap.size ≤ gb163)); have n12_ := Aside0.mk ((z9_52 : gb137 ≠ gb163)); have n13_ := Aside0.mk ((z9_53 : gb163 ≠ gb137)); have n14_ := Aside0.mk ((z9_54 : gb138 ≠ gb163)); have n15_ := Aside0.mk ((z9_55 : gb163 ≠ gb138)); clear HO143; clear HO146; clear HO150; clear HO153; clear HO158; clear HO161; clear BK137; clear BK138; clear HB; have HO143 := n0_; have HO146 := n1_; have HO150 := n2_; have HO153 := n3_; have HO158 := n4_; have HO161 := n5_; have BK137 := n6_; have BK138 := n7_; have HB := n8_; have BK163 := n9_; have GW163 := n10_; have GE163 := n11_; have NB137_163 := n12_; have NB163_137 := n13_; have NB138_163 := n14_; have NB163_138 := n15_; clear n0_ n1_ n2_ n3_ n4_ n5_ n6_ n7_ n8_ n9_ n10_ n11_ n12_ n13_ n14_ n15_; clear hb hbox hg; obtain ⟨Ao44, co44, eo44⟩ := Kd.R_slice HO158.out; subst eo44; have hnb45 := NB163_137.out; have hnc45 := NB137_163.out; have hnb46 := NB163_138.out; have hnc46 := NB138_163.out; have hcz47_0 : w43.cell? ⟨gb163, 0, none⟩ = some (.slice none 0 0) := (blk_cell BK163.out 0).trans rfl; have hcz47_1 : w43.cell? ⟨gb163, 1, none⟩ = some (.slice none 0 0) := (blk_cell BK163.out 1).trans rfl; have hcz47_2 : w43.cell? ⟨gb163, 2, none⟩ = some (.int .i64 0) := (blk_cell BK163.out 2).trans rfl; have hfz47_0 := blk_frozen BK163.out 0; have hfz47_1 := blk_frozen BK163.out 1; have hfz47_2 := blk_frozen BK163.out 2; obtain ⟨Ao48, co48, eo48⟩ := Kd.R_slice HO161.out; subst eo48; have hcz49_0 : w43.cell? ⟨gb138, 0, none⟩ = some (.slice A1_0 l1_0.length c1_0) := (blk_cell BK138.out 0).trans rfl; have hcz49_1 : w43.cell? ⟨gb138, 1, none⟩ = some (.slice A1_1 l1_1.length c1_1) := (blk_cell BK138.out 1).trans rfl; have hcz49_2 : w43.cell? ⟨gb138, 2, none⟩ = some (.int .i64 a1_2) := (blk_cell BK138.out 2).trans rfl; have hfz49_0 := blk_frozen BK138.out 0; have hfz49_1 := blk_frozen BK138.out 1; have hfz49_2 := blk_frozen BK138.out 2) | ((first | ((with_reducible refine gate_callee (f := 44) rfl ?_); refine goesL_ (some 28) rfl rfl Try.func44 z9_29 rfl #[.agg #[.slice A1_0 l1_0.length c1_0, .slice A1_1 l1_1.length c1_1, .int .i64 a1_2]] rfl z9_4 ?_; (with_reducible refine (laws_toRef.calls k _ _ l1_0 _ _ l1_1 a1_2 t164 t167 t170 _ ?side1 ?side2 ?side3 ?side4 A23.out).mono ?_)) | (go_at_call 44; (with_reducible refine (laws_toRef.calls k _ _ l1_0 _ _ l1_1 a1_2 t164 t167 t170 _ ?side1 ?side2 ?side3 ?side4 A23.out).mono ?_))); (case side1 => exact Kd.C_below HR1_0.out z9_2); (case side2 => exact HC1_0.out); (case side3 => exact Kd.C_below HR1_1.out z9_2); (case side4 => exact HC1_1.out); rintro e w50 ⟨v165, v168, rfl, ho0, ho1, hb⟩; (first | refine ⟨_, rfl, ?_⟩ | skip); have n0_ := Aside0.mk (Kd.R_mono (Kd.R_told (Kd.R_told (Kd.R_old z9_57 hb) (Kd.R_base ho0)) (Kd.R_base ho1)) (fun _ h_ => h_.1)); have n1_ := Aside0.mk (Kd.R_mono (Kd.R_told (Kd.R_told (Kd.R_old z9_51 hb) (Kd.R_base ho0)) (Kd.R_base ho1)) (fun _ h_ => h_.1)); have n2_ := Aside0.mk (Kd.R_mono (Kd.R_told (Kd.R_told (Kd.R_old z9_49 hb) (Kd.R_base ho0)) (Kd.R_base ho1)) (fun _ h_ => h_.1)); have n3_ := Aside0.mk (Kd.R_mono (Kd.R_told (Kd.R_told (Kd.R_old z9_47 hb) (Kd.R_base ho0)) (Kd.R_base ho1)) (fun _ h_ => h_.1)); have n4_ := Aside0.mk (Kd.R_mono (Kd.R_told (Kd.R_told (Kd.R_old z9_45 hb) (Kd.R_base ho0)) (Kd.R_base ho1)) (fun _ h_ => h_.1)); have n5_ := Aside0.mk (Kd.R_mono (Kd.R_told (Kd.R_told (Kd.R_old z9_43 hb) (Kd.R_base ho0)) (Kd.R_base ho1)) (fun _ h_ => h_.1)); have n6_ := Aside0.mk (Kd.R_lower (Kd.R_new' (Kd.R_new' (Kd.R_new' (Kd.R_new' (Kd.R_new' (Kd.R_new' ho0 (Kd.R_lt z9_57)) (Kd.R_lt z9_51)) (Kd.R_lt z9_49)) (Kd.R_lt z9_47)) (Kd.R_lt z9_45)) (Kd.R_lt z9_43)) (below_size z9_2)); have n7_ := Aside0.mk (Kd.R_lower (Kd.R_new' (Kd.R_new' (Kd.R_new' (Kd.R_new' (Kd.R_new' (Kd.R_new' ho1 (Kd.R_lt z9_57)) (Kd.R_lt z9_51)) (Kd.R_lt z9_49)) (Kd.R_lt z9_47)) (Kd.R_lt z9_45)) (Kd.R_lt z9_43)) (below_size z9_2)); have n8_ := Aside0.mk (blk_below (g := gb137) (o := .cells #[.slice A0_0 l0_0.length c0_0, .slice A0_1 l0_1.length c0_1, .int .i64 a0_2] 51 (0, 0)) z9_25 hb); have n9_ := Aside0.mk (blk_below (g := gb138) (o := .cells #[.slice A1_0 l1_0.length c1_0, .slice A1_1 l1_1.length c1_1, .int .i64 a1_2] 51 (0, 0)) z9_23 hb); have n10_ := Aside0.mk (blk_below (g := gb163) (o := .cells #[.slice Ao44 t156.length co44, .slice Ao48 t159.length co48, .int .i64 t162] 54 (0, 0)) (by (with_reducible repeat (first | refine blk_drewN ?_ _ | refine blk_drew ?_ | refine blk_alloc ?_ _)); refine blk_put (cs := #[.slice Ao44 t156.length co44, .slice Ao48 t159.length co48, .int .i64 0]) ?_ 2 _ rfl; (with_reducible repeat (first | refine blk_drewN ?_ _ | refine blk_drew ?_ | refine blk_alloc ?_ _)); refine blk_put (cs := #[.slice Ao44 t156.length co44, .slice none 0 0, .int .i64 0]) ?_ 1 _ rfl; (with_reducible repeat (first | refine blk_drewN ?_ _ | refine blk_drew ?_ | refine blk_alloc ?_ _)); refine blk_put (cs := #[.slice none 0 0, .slice none 0 0, .int .i64 0]) ?_ 0 _ rfl; (with_reducible repeat (first | refine blk_drewN ?_ _ | refine blk_drew ?_ | refine blk_alloc ?_ _)); exact BK163.out) hb); have n11_ := Aside0.mk (below_step z9_2 hb); clear HO143; clear HO146; clear HO150; clear HO153; clear HO158; clear HO161; clear BK137; clear BK138; clear BK163; clear HB; have HO143 := n0_; have HO146 := n1_; have HO150 := n2_; have HO153 := n3_; have HO158 := n4_; have HO161 := n5_; have HO166 := n6_; have HO169 := n7_; have BK137 := n8_; have BK138 := n9_; have BK163 := n10_; have HB := n11_; clear n0_ n1_ n2_ n3_ n4_ n5_ n6_ n7_ n8_ n9_ n10_ n11_; (try clear hb); (try clear hb2); (try clear hk); (try clear hi); (try clear ho0); (try clear ho1)) | ((with_reducible refine gate_dst (N := 8) rfl ?_); refine box_event ?hg (N := 8) ?hd (cs := #[.slice none 0 0, .slice none 0 0, .int .i64 0]) (t := 54) ?hr ?_; (case hd => rfl); (case hg => rfl); (case hr => exact z9_58); intro gb171 hg w51 hbox hb; have n0_ := Aside0.mk (Kd.R_below z9_7 hb); have n1_ := Aside0.mk (Kd.R_below z9_6 hb); have n2_ := Aside0.mk (Kd.R_below z9_9 hb); have n3_ := Aside0.mk (Kd.R_below z9_8 hb); have n4_ := Aside0.mk (Kd.R_below z9_14 hb); have n5_ := Aside0.mk (Kd.R_below z9_13 hb); have n6_ := Aside0.mk (Kd.R_below z9_17 hb); have n7_ := Aside0.mk (Kd.R_below z9_16 hb); have n8_ := Aside0.mk (blk_below (g := gb137) (o := .cells #[.slice A0_0 l0_0.length c0_0, .slice A0_1 l0_1.length c0_1, .int .i64 a0_2] 51 (0, 0)) z9_1 hb); have n9_ := Aside0.mk (blk_below (g := gb138) (o := .cells #[.slice A1_0 l1_0.length c1_0, .slice A1_1 l1_1.length c1_1, .int .i64 a1_2] 51 (0, 0)) z9_3 hb); have n10_ := Aside0.mk (blk_below (g := gb163) (o := .cells #[.slice Ao44 t156.length co44, .slice Ao48 t159.length co48, .int .i64 t162] 54 (0, 0)) z9_15 hb); have n11_ := Aside0.mk (below_step z9_2 hb); have n12_ := Aside0.mk (hbox); have n13_ := Aside0.mk ((z9_86 : w.heap.size ≤ gb171)); have n14_ := Aside0.mk ((z9_86 : w.heap.size ≤ gb171)); have n15_ := Aside0.mk ((z9_52 : gb137 ≠ gb171)); have n16_ := Aside0.mk ((z9_53 : gb171 ≠ gb137)); have n17_ := Aside0.mk ((z9_54 : gb138 ≠ gb171)); have n18_ := Aside0.mk ((z9_55 : gb171 ≠ gb138)); have n19_ := Aside0.mk ((by rw [hg]; exact Nat.ne_of_lt (blk_lt (g := gb163) (o := .cells #[.slice Ao44 t156.length co44, .slice Ao48 t159.length co48, .int .i64 t162] 54 (0, 0)) z9_15) : gb163 ≠ gb171)); have n20_ := Aside0.mk ((by rw [hg]; exact Nat.ne_of_gt (blk_lt (g := gb163) (o := .cells #[.slice Ao44 t156.length co44, .slice Ao48 t159.length co48, .int .i64 t162] 54 (0, 0)) z9_15) : gb171 ≠ gb163)); clear HO143; clear HO146; clear HO150; clear HO153; clear HO158; clear HO161; clear HO166; clear HO169; clear BK137; clear BK138; clear BK163; clear HB; have HO143 := n0_; have HO146 := n1_; have HO150 := n2_; have HO153 := n3_; have HO158 := n4_; have HO161 := n5_; have HO166 := n6_; have HO169 := n7_; have BK137 := n8_; have BK138 := n9_; have BK163 := n10_; have HB := n11_; have BK171 := n12_; have GW171 := n13_; have GE171 := n14_; have NB137_171 := n15_; have NB171_137 := n16_; have NB138_171 := n17_; have NB171_138 := n18_; have NB163_171 := n19_; have NB171_163 := n20_; clear n0_ n1_ n2_ n3_ n4_ n5_ n6_ n7_ n8_ n9_ n10_ n11_ n12_ n13_ n14_ n15_ n16_ n17_ n18_ n19_ n20_; clear hb hbox hg; obtain ⟨Ao52, co52, eo52⟩ := Kd.R_slice HO166.out; subst eo52; have hnb53 := NB171_137.out; have hnc53 := NB137_171.out; have hnb54 := NB171_138.out; have hnc54 := NB138_171.out; have hnb55 := NB171_163.out; have hnc55 := NB163_171.out; have hcz56_0 : w51.cell? ⟨gb171, 0, none⟩ = some (.slice none 0 0) := (blk_cell BK171.out 0).trans rfl; have hcz56_1 : w51.cell? ⟨gb171, 1, none⟩ = some (.slice none 0 0) := (blk_cell BK171.out 1).trans rfl; have hcz56_2 : w51.cell? ⟨gb171, 2, none⟩ = some (.int .i64 0) := (blk_cell BK171.out 2).trans rfl; have hfz56_0 := blk_frozen BK171.out 0; have hfz56_1 := blk_frozen BK171.out 1; have hfz56_2 := blk_frozen BK171.out 2; obtain ⟨Ao57, co57, eo57⟩ := Kd.R_slice HO169.out; subst eo57; have hcz58_0 : w51.cell? ⟨gb163, 0, none⟩ = some (.slice Ao44 t156.length co44) := (blk_cell BK163.out 0).trans rfl; have hcz58_1 : w51.cell? ⟨gb163, 1, none⟩ = some (.slice Ao48 t159.length co48) := (blk_cell BK163.out 1).trans rfl; have hcz58_2 : w51.cell? ⟨gb163, 2, none⟩ = some (.int .i64 t162) := (blk_cell BK163.out 2).trans rfl; have hfz58_0 := blk_frozen BK163.out 0; have hfz58_1 := blk_frozen BK163.out 1; have hfz58_2 := blk_frozen BK163.out 2) | ((first | ((with_reducible refine gate_callee (f := 45) rfl ?_); refine goesL_ (some 31) rfl rfl Try.func45 z9_29 rfl #[.agg #[.slice Ao44 t156.length co44, .slice Ao48 t159.length co48, .int .i64 t162], .agg #[.slice Ao52 t164.length co52, .slice Ao57 t167.length co57, .int .i64 t170]] rfl z9_4 ?_; (with_reducible refine (impl_SameRef.calls k _ _ t156 _ _ t159 t162 _ _ t164 _ _ t167 t170 t172 _ ?side1 ?side2 ?side3 ?side4 ?side5 ?side6 ?side7 ?side8 A24.out).mono ?_)) | (go_at_call 45; (with_reducible refine (impl_SameRef.calls k _ _ t156 _ _ t159 t162 _ _ t164 _ _ t167 t170 t172 _ ?side1 ?side2 ?side3 ?side4 ?side5 ?side6 ?side7 ?side8 A24.out).mono ?_))); (case side1 => refine (Kd.R_reads' (e := 3) (base := w.heap.size) (ok := fun k_ => ((((((some k_ ≠ (.slice Ao48 t159.length co48 : Value).ownBlock ∧ some k_ ≠ (.slice Ao36 t141.length co36 : Value).ownBlock) ∧ some k_ ≠ (.slice Ao37 t144.length co37 : Value).ownBlock) ∧ some k_ ≠ (.slice Ao38 t148.length co38 : Value).ownBlock) ∧ some k_ ≠ (.slice Ao39 t151.length co39 : Value).ownBlock) ∧ some k_ ≠ (.slice Ao52 t164.length co52 : Value).ownBlock) ∧ some k_ ≠ (.slice Ao57 t167.length co57 : Value).ownBlock)) (n := t156.length) (c := co44) ?_).2.2; exact z9_78); (case side2 => exact (Kd.R_reads' HO158.out).2.1); (case side3 => refine (Kd.R_reads' (e := 3) (base := w.heap.size) (ok := fun k_ => ((((((some k_ ≠ (.slice Ao44 t156.length co44 : Value).ownBlock ∧ some k_ ≠ (.slice Ao36 t141.length co36 : Value).ownBlock) ∧ some k_ ≠ (.slice Ao37 t144.length co37 : Value).ownBlock) ∧ some k_ ≠ (.slice Ao38 t148.length co38 : Value).ownBlock) ∧ some k_ ≠ (.slice Ao39 t151.length co39 : Value).ownBlock) ∧ some k_ ≠ (.slice Ao52 t164.length co52 : Value).ownBlock) ∧ some k_ ≠ (.slice Ao57 t167.length co57 : Value).ownBlock)) (n := t159.length) (c := co48) ?_).2.2; exact z9_76); (case side4 => exact (Kd.R_reads' HO161.out).2.1); (case side5 => refine (Kd.R_reads' (e := 3) (base := w.heap.size) (ok := fun k_ => ((((((some k_ ≠ (.slice Ao57 t167.length co57 : Value).ownBlock ∧ some k_ ≠ (.slice Ao36 t141.length co36 : Value).ownBlock) ∧ some k_ ≠ (.slice Ao37 t144.length co37 : Value).ownBlock) ∧ some k_ ≠ (.slice Ao38 t148.length co38 : Value).ownBlock) ∧ some k_ ≠ (.slice Ao39 t151.length co39 : Value).ownBlock) ∧ some k_ ≠ (.slice Ao44 t156.length co44 : Value).ownBlock) ∧ some k_ ≠ (.slice Ao48 t159.length co48 : Value).ownBlock)) (n := t164.length) (c := co52) ?_).2.2; exact z9_74); (case side6 => exact (Kd.R_reads' HO166.out).2.1); (case side7 => refine (Kd.R_reads' (e := 3) (base := w.heap.size) (ok := fun k_ => ((((((some k_ ≠ (.slice Ao52 t164.length co52 : Value).ownBlock ∧ some k_ ≠ (.slice Ao36 t141.length co36 : Value).ownBlock) ∧ some k_ ≠ (.slice Ao37 t144.length co37 : Value).ownBlock) ∧ some k_ ≠ (.slice Ao38 t148.length co38 : Value).ownBlock) ∧ some k_ ≠ (.slice Ao39 t151.length co39 : Value).ownBlock) ∧ some k_ ≠ (.slice Ao44 t156.length co44 : Value).ownBlock) ∧ some k_ ≠ (.slice Ao48 t159.length co48 : Value).ownBlock)) (n := t167.length) (c := co57) ?_).2.2; exact z9_72); (case side8 => exact (Kd.R_reads' HO169.out).2.1); rintro e w59 ⟨rfl, hb⟩; (first | refine ⟨_, rfl, ?_⟩ | skip); have n0_ := Aside0.mk (Kd.R_below (by (with_reducible repeat (first | apply Kd.R_alloc | apply Kd.R_drewN | apply Kd.R_drew)); exact (Kd.R_mono (Kd.R_far (p := ⟨gb171, 2, none⟩) (Kd.R_far (p := ⟨gb171, 1, none⟩) (Kd.R_far (p := ⟨gb171, 0, none⟩) (Kd.R_types HO143.out BK171.out z9_85) (fun _ hk => hk.2) (.slice Ao52 t164.length co52)) (fun _ hk => hk.2) (.slice Ao57 t167.length co57)) (fun _ hk => hk.2) (.int .i64 t170)) (fun _ h_ => h_.1))) hb); have n1_ := Aside0.mk (Kd.R_below (by (with_reducible repeat (first | apply Kd.R_alloc | apply Kd.R_drewN | apply Kd.R_drew)); exact (Kd.R_mono (Kd.R_far (p := ⟨gb171, 2, none⟩) (Kd.R_far (p := ⟨gb171, 1, none⟩) (Kd.R_far (p := ⟨gb171, 0, none⟩) (Kd.R_types HO146.out BK171.out z9_85) (fun _ hk => hk.2) (.slice Ao52 t164.length co52)) (fun _ hk => hk.2) (.slice Ao57 t167.length co57)) (fun _ hk => hk.2) (.int .i64 t170)) (fun _ h_ => h_.1))) hb); have n2_ := Aside0.mk (Kd.R_below (by (with_reducible repeat (first | apply Kd.R_alloc | apply Kd.R_drewN | apply Kd.R_drew)); exact (Kd.R_mono (Kd.R_far (p := ⟨gb171, 2, none⟩) (Kd.R_far (p := ⟨gb171, 1, none⟩) (Kd.R_far (p := ⟨gb171, 0, none⟩) (Kd.R_types HO150.out BK171.out z9_85) (fun _ hk => hk.2) (.slice Ao52 t164.length co52)) (fun _ hk => hk.2) (.slice Ao57 t167.length co57)) (fun _ hk => hk.2) (.int .i64 t170)) (fun _ h_ => h_.1))) hb); have n3_ := Aside0.mk (Kd.R_below (by (with_reducible repeat (first | apply Kd.R_alloc | apply Kd.R_drewN | apply Kd.R_drew)); exact (Kd.R_mono (Kd.R_far (p := ⟨gb171, 2, none⟩) (Kd.R_far (p := ⟨gb171, 1, none⟩) (Kd.R_far (p := ⟨gb171, 0, none⟩) (Kd.R_types HO153.out BK171.out z9_85) (fun _ hk => hk.2) (.slice Ao52 t164.length co52)) (fun _ hk => hk.2) (.slice Ao57 t167.length co57)) (fun _ hk => hk.2) (.int .i64 t170)) (fun _ h_ => h_.1))) hb); have n4_ := Aside0.mk (Kd.R_below z9_78 hb); have n5_ := Aside0.mk (Kd.R_below z9_76 hb); have n6_ := Aside0.mk (Kd.R_below z9_74 hb); have n7_ := Aside0.mk (Kd.R_below z9_72 hb); have n8_ := Aside0.mk (blk_below (g := gb137) (o := .cells #[.slice A0_0 l0_0.length c0_0, .slice A0_1 l0_1.length c0_1, .int .i64 a0_2] 51 (0, 0)) z9_24 hb); have n9_ := Aside0.mk (blk_below (g := gb138) (o := .cells #[.slice A1_0 l1_0.length c1_0, .slice A1_1 l1_1.length c1_1, .int .i64 a1_2] 51 (0, 0)) z9_22 hb); have n10_ := Aside0.mk (blk_below (g := gb163) (o := .cells #[.slice Ao44 t156.length co44, .slice Ao48 t159.length co48, .int .i64 t162] 54 (0, 0)) z9_21 hb); have n11_ := Aside0.mk (blk_below (g := gb171) (o := .cells #[.slice Ao52 t164.length co52, .slice Ao57 t167.length co57, .int .i64 t170] 54 (0, 0)) (by (with_reducible repeat (first | refine blk_drewN ?_ _ | refine blk_drew ?_ | refine blk_alloc ?_ _)); refine blk_put (cs := #[.slice Ao52 t164.length co52, .slice Ao57 t167.length co57, .int .i64 0]) ?_ 2 _ rfl; (with_reducible repeat (first | refine blk_drewN ?_ _ | refine blk_drew ?_ | refine blk_alloc ?_ _)); refine blk_put (cs := #[.slice Ao52 t164.length co52, .slice none 0 0, .int .i64 0]) ?_ 1 _ rfl; (with_reducible repeat (first | refine blk_drewN ?_ _ | refine blk_drew ?_ | refine blk_alloc ?_ _)); refine blk_put (cs := #[.slice none 0 0, .slice none 0 0, .int .i64 0]) ?_ 0 _ rfl; (with_reducible repeat (first | refine blk_drewN ?_ _ | refine blk_drew ?_ | refine blk_alloc ?_ _)); exact BK171.out) hb); have n12_ := Aside0.mk (below_step z9_5 hb); clear HO143; clear HO146; clear HO150; clear HO153; clear HO158; clear HO161; clear HO166; clear HO169; clear BK137; clear BK138; clear BK163; clear BK171; clear HB; have HO143 := n0_; have HO146 := n1_; have HO150 := n2_; have HO153 := n3_; have HO158 := n4_; have HO161 := n5_; have HO166 := n6_; have HO169 := n7_; have BK137 := n8_; have BK138 := n9_; have BK163 := n10_; have BK171 := n11_; have HB := n12_; clear n0_ n1_ n2_ n3_ n4_ n5_ n6_ n7_ n8_ n9_ n10_ n11_ n12_; (try clear hb); (try clear hb2); (try clear hk); (try clear hi)))
        go_ret
        exact ⟨by first | rfl | (simp [errW_none, errW_some] <;> rfl) | (simp [*, errW_none, errW_some] <;> rfl) | (simp [*, errW_none, errW_some, i64_w]; done), by repeat (first | (with_reducible first | exact HB.out | apply below_alloc | apply pw_below_drewN | apply below_drew1 | refine below_set ?_ GE137.out | refine below_set ?_ GE138.out | refine below_set ?_ GE163.out | refine below_set ?_ GE171.out) | exact HB.out)⟩
      · rw [if_neg c25] at H
        have c25b0 : (t172 != t155) = false := by simpa using c25
        (try (have c25b1 : decide (t172 = t155) = true := by simpa using c25))
        (try (have c25b2 : (t172 == t155) = true := by simpa using c25))
        clear c25
        replace H := Option.bind_eq_some_iff.mp H
        obtain ⟨⟨t173, t176, t179⟩, A600, H⟩ := H
        replace H : ((laws_eqRef.f k t156 t159 t162 t173 t176 t179).bind fun t180 => (if t180 = true then ((laws_toRef.f k l1_0 l1_1 a1_2).bind fun bt181 => ((laws_eqRef.f k t164 t167 t170 bt181.1 bt181.2.1 bt181.2.2).bind fun t188 => (if t188 = true then (some true) else (some false)))) else (some false))) = some r := H
        have A60 := Aside0.mk A600
        clear A600
        replace H := Option.bind_eq_some_iff.mp H
        obtain ⟨t180, A610, H⟩ := H
        replace H : (if t180 = true then ((laws_toRef.f k l1_0 l1_1 a1_2).bind fun bt181 => ((laws_eqRef.f k t164 t167 t170 bt181.1 bt181.2.1 bt181.2.2).bind fun t188 => (if t188 = true then (some true) else (some false)))) else (some false)) = some r := H
        have A61 := Aside0.mk A610
        clear A610
        by_cases c62 : t180 = true
        · subst c62
          have H1 : ((laws_toRef.f k l1_0 l1_1 a1_2).bind fun bt181 => ((laws_eqRef.f k t164 t167 t170 bt181.1 bt181.2.1 bt181.2.2).bind fun t188 => (if t188 = true then (some true) else (some false)))) = some r := by rw [if_pos rfl] at H; exact H
          clear H
          have H := H1
          clear H1
          replace H := Option.bind_eq_some_iff.mp H
          obtain ⟨⟨t181, t184, t187⟩, A630, H⟩ := H
          replace H : ((laws_eqRef.f k t164 t167 t170 t181 t184 t187).bind fun t188 => (if t188 = true then (some true) else (some false))) = some r := H
          have A63 := Aside0.mk A630
          clear A630
          replace H := Option.bind_eq_some_iff.mp H
          obtain ⟨t188, A640, H⟩ := H
          replace H : (if t188 = true then (some true) else (some false)) = some r := H
          have A64 := Aside0.mk A640
          clear A640
          by_cases c65 : t188 = true
          · subst c65
            have H1 : (some true) = some r := by rw [if_pos rfl] at H; exact H
            clear H
            have H := H1
            clear H1
            obtain rfl := Option.some.inj H
            go_enter Try.func14, Try.ntmps14
            try go_wp2_with (first | ((with_reducible refine gate_dst (N := 2) rfl ?_); refine box_event ?hg (N := 2) ?hd (cs := #[.slice A0_0 l0_0.length c0_0, .slice A0_1 l0_1.length c0_1, .int .i64 a0_2]) (t := 51) ?hr ?_; (case hd => rfl); (case hg => rfl); (case hr => exact z9_58); intro gb137 hg w66 hbox hb; have n0_ := Aside0.mk (below_step z9_18 hb); have n1_ := Aside0.mk (hbox); have n2_ := Aside0.mk ((z9_83 : w.heap.size ≤ gb137)); have n3_ := Aside0.mk ((z9_83 : w.heap.size ≤ gb137)); clear HB; have HB := n0_; have BK137 := n1_; have GW137 := n2_; have GE137 := n3_; clear n0_ n1_ n2_ n3_; clear hb hbox hg) | ((with_reducible refine gate_dst (N := 3) rfl ?_); refine box_event ?hg (N := 3) ?hd (cs := #[.slice A1_0 l1_0.length c1_0, .slice A1_1 l1_1.length c1_1, .int .i64 a1_2]) (t := 51) ?hr ?_; (case hd => rfl); (case hg => rfl); (case hr => exact z9_58); intro gb138 hg w67 hbox hb; have n0_ := Aside0.mk (blk_below (g := gb137) (o := .cells #[.slice A0_0 l0_0.length c0_0, .slice A0_1 l0_1.length c0_1, .int .i64 a0_2] 51 (0, 0)) z9_1 hb); have n1_ := Aside0.mk (below_step z9_12 hb); have n2_ := Aside0.mk (hbox); have n3_ := Aside0.mk ((z9_84 : w.heap.size ≤ gb138)); have n4_ := Aside0.mk ((z9_84 : w.heap.size ≤ gb138)); have n5_ := Aside0.mk ((z9_52 : gb137 ≠ gb138)); have n6_ := Aside0.mk ((z9_53 : gb138 ≠ gb137)); clear BK137; clear HB; have BK137 := n0_; have HB := n1_; have BK138 := n2_; have GW138 := n3_; have GE138 := n4_; have NB137_138 := n5_; have NB138_137 := n6_; clear n0_ n1_ n2_ n3_ n4_ n5_ n6_; clear hb hbox hg; have hnb68 := NB137_138.out; have hnc68 := NB138_137.out; have hcz69_0 : w67.cell? ⟨gb137, 0, none⟩ = some (.slice A0_0 l0_0.length c0_0) := (blk_cell BK137.out 0).trans rfl; have hcz69_1 : w67.cell? ⟨gb137, 1, none⟩ = some (.slice A0_1 l0_1.length c0_1) := (blk_cell BK137.out 1).trans rfl; have hcz69_2 : w67.cell? ⟨gb137, 2, none⟩ = some (.int .i64 a0_2) := (blk_cell BK137.out 2).trans rfl; have hfz69_0 := blk_frozen BK137.out 0; have hfz69_1 := blk_frozen BK137.out 1; have hfz69_2 := blk_frozen BK137.out 2) | ((first | ((with_reducible refine gate_callee (f := 42) rfl ?_); refine goesL_ (some 12) rfl rfl Try.func42 z9_29 rfl #[.agg #[.slice A0_0 l0_0.length c0_0, .slice A0_1 l0_1.length c0_1, .int .i64 a0_2], .int .i64 1048576] rfl z9_4 ?_; (with_reducible refine (laws_szRef.calls _ _ l0_0 _ _ l0_1 a0_2 1048576 t139 _ ?side1 ?side2 ?side3 ?side4 A3.out).mono ?_)) | (go_at_call 42; (with_reducible refine (laws_szRef.calls _ _ l0_0 _ _ l0_1 a0_2 1048576 t139 _ ?side1 ?side2 ?side3 ?side4 A3.out).mono ?_))); (case side1 => exact z9_11); (case side2 => exact z9_89); (case side3 => exact z9_10); (case side4 => exact z9_88); rintro e w70 ⟨rfl, hb⟩; (first | refine ⟨_, rfl, ?_⟩ | skip); have n0_ := Aside0.mk (blk_below (g := gb137) (o := .cells #[.slice A0_0 l0_0.length c0_0, .slice A0_1 l0_1.length c0_1, .int .i64 a0_2] 51 (0, 0)) z9_1 hb); have n1_ := Aside0.mk (blk_below (g := gb138) (o := .cells #[.slice A1_0 l1_0.length c1_0, .slice A1_1 l1_1.length c1_1, .int .i64 a1_2] 51 (0, 0)) z9_3 hb); have n2_ := Aside0.mk (below_step z9_0 hb); clear BK137; clear BK138; clear HB; have BK137 := n0_; have BK138 := n1_; have HB := n2_; clear n0_ n1_ n2_; (try clear hb); (try clear hb2); (try clear hk); (try clear hi); have hcz71_0 : w70.cell? ⟨gb138, 0, none⟩ = some (.slice A1_0 l1_0.length c1_0) := (blk_cell BK138.out 0).trans rfl; have hcz71_1 : w70.cell? ⟨gb138, 1, none⟩ = some (.slice A1_1 l1_1.length c1_1) := (blk_cell BK138.out 1).trans rfl; have hcz71_2 : w70.cell? ⟨gb138, 2, none⟩ = some (.int .i64 a1_2) := (blk_cell BK138.out 2).trans rfl; have hfz71_0 := blk_frozen BK138.out 0; have hfz71_1 := blk_frozen BK138.out 1; have hfz71_2 := blk_frozen BK138.out 2) | ((first | ((with_reducible refine gate_callee (f := 42) rfl ?_); refine goesL_ (some 17) rfl rfl Try.func42 z9_29 rfl #[.agg #[.slice A1_0 l1_0.length c1_0, .slice A1_1 l1_1.length c1_1, .int .i64 a1_2], .int .i64 t139] rfl z9_4 ?_; (with_reducible refine (laws_szRef.calls _ _ l1_0 _ _ l1_1 a1_2 t139 t140 _ ?side1 ?side2 ?side3 ?side4 A10.out).mono ?_)) | (go_at_call 42; (with_reducible refine (laws_szRef.calls _ _ l1_0 _ _ l1_1 a1_2 t139 t140 _ ?side1 ?side2 ?side3 ?side4 A10.out).mono ?_))); (case side1 => exact z9_20); (case side2 => exact HC1_0.out); (case side3 => exact z9_19); (case side4 => exact HC1_1.out); rintro e w72 ⟨rfl, hb⟩; (first | refine ⟨_, rfl, ?_⟩ | skip); have n0_ := Aside0.mk (blk_below (g := gb137) (o := .cells #[.slice A0_0 l0_0.length c0_0, .slice A0_1 l0_1.length c0_1, .int .i64 a0_2] 51 (0, 0)) z9_1 hb); have n1_ := Aside0.mk (blk_below (g := gb138) (o := .cells #[.slice A1_0 l1_0.length c1_0, .slice A1_1 l1_1.length c1_1, .int .i64 a1_2] 51 (0, 0)) z9_3 hb); have n2_ := Aside0.mk (below_step z9_0 hb); clear BK137; clear BK138; clear HB; have BK137 := n0_; have BK138 := n1_; have HB := n2_; clear n0_ n1_ n2_; (try clear hb); (try clear hb2); (try clear hk); (try clear hi)))
            have n0_ := Aside0.mk (blk_drew BK137.out)
            have n1_ := Aside0.mk (blk_drew BK138.out)
            have n2_ := Aside0.mk (below_drew1 HB.out)
            clear BK137
            clear BK138
            clear HB
            have BK137 := n0_
            have BK138 := n1_
            have HB := n2_
            clear n0_ n1_ n2_
            refine start_ (n := 6) (S := fun w' => w'.cell? ⟨gb137, 0, none⟩ = some (.slice A0_0 l0_0.length c0_0) ∧ w'.cell? ⟨gb137, 1, none⟩ = some (.slice A0_1 l0_1.length c0_1) ∧ w'.cell? ⟨gb137, 2, none⟩ = some (.int .i64 a0_2) ∧ w'.cell? ⟨gb138, 0, none⟩ = some (.slice A1_0 l1_0.length c1_0) ∧ w'.cell? ⟨gb138, 1, none⟩ = some (.slice A1_1 l1_1.length c1_1) ∧ w'.cell? ⟨gb138, 2, none⟩ = some (.int .i64 a1_2)) (ds := []) #[false, false, false, false, false, false] z9_29 rfl rfl ⟨(blk_cell BK137.out 0).trans rfl, (blk_cell BK137.out 1).trans rfl, (blk_cell BK137.out 2).trans rfl, (blk_cell BK138.out 0).trans rfl, (blk_cell BK138.out 1).trans rfl, (blk_cell BK138.out 2).trans rfl⟩ (fun hHeld => ?_)
            generalize w72.drew = w73 at BK137 BK138 HB hHeld ⊢
            refine take_ (i := 0) (N := some 20) (v := ?_) (a' := ?_) #[true, false, false, false, false, false] rfl rfl z9_29 (fun _ _ _ h => h) (Or.inl ⟨by rfl, ?_⟩) hHeld ?_ ?_
            rotate_left
            · rintro w' ⟨s0, s1, s2, s3, s4, s5⟩
              go_simp
              with_reducible rfl
            rotate_left
            · simp only [Act.put, List.setIfInBounds_toArray, List.set_cons_zero, List.set_cons_succ, i64_w, i32_w]
              rfl
            refine take_ (i := 2) (N := some 22) (v := ?_) (a' := ?_) #[true, false, true, false, false, false] rfl rfl z9_29 (fun _ _ _ h => h) (Or.inl ⟨by rfl, ?_⟩) hHeld ?_ ?_
            rotate_left
            · rintro w' ⟨s0, s1, s2, s3, s4, s5⟩
              go_simp
              with_reducible rfl
            rotate_left
            · simp only [Act.put, List.setIfInBounds_toArray, List.set_cons_zero, List.set_cons_succ, i64_w, i32_w]
              rfl
            refine one_ (i := 1) (N := some 21) #[true, true, true, false, false, false] rfl rfl z9_29 z9_85 (fun K hK => ?_)
            refine goes_ Try.func44 z9_29 rfl #[.agg #[.slice A0_0 l0_0.length c0_0, .slice A0_1 l0_1.length c0_1, .int .i64 a0_2]] (by rfl) rfl rfl z9_4 ?_
            with_reducible refine (laws_toRef.calls k _ _ l0_0 _ _ l0_1 a0_2 t141 t144 t147 _ ?side1 ?side2 ?side3 ?side4 A19.out).mono ?_
            (case side1 => exact z9_11)
            (case side2 => exact z9_89)
            (case side3 => exact z9_10)
            (case side4 => exact z9_88)
            rintro e w74 ⟨v142, v145, rfl, ho0, ho1, hb⟩
            refine ⟨_, rfl, ?_⟩
            have n0_ := Aside0.mk (Kd.R_lower ho0 (below_size z9_0))
            have n1_ := Aside0.mk (Kd.R_lower ho1 (below_size z9_0))
            have n2_ := Aside0.mk (blk_below (g := gb137) (o := .cells #[.slice A0_0 l0_0.length c0_0, .slice A0_1 l0_1.length c0_1, .int .i64 a0_2] 51 (0, 0)) z9_1 hb)
            have n3_ := Aside0.mk (blk_below (g := gb138) (o := .cells #[.slice A1_0 l1_0.length c1_0, .slice A1_1 l1_1.length c1_1, .int .i64 a1_2] 51 (0, 0)) z9_3 hb)
            have n4_ := Aside0.mk (below_step z9_0 hb)
            clear BK137
            clear BK138
            clear HB
            have HO143 := n0_
            have HO146 := n1_
            have BK137 := n2_
            have BK138 := n3_
            have HB := n4_
            clear n0_ n1_ n2_ n3_ n4_
            (try clear hb)
            (try clear hb2)
            (try clear hk)
            (try clear hi)
            (try clear ho0)
            (try clear ho1)
            refine hK.out _ _ ⟨(blk_cell BK137.out 0).trans rfl, (blk_cell BK137.out 1).trans rfl, (blk_cell BK137.out 2).trans rfl, (blk_cell BK138.out 0).trans rfl, (blk_cell BK138.out 1).trans rfl, (blk_cell BK138.out 2).trans rfl⟩ (fun hHeld => ?_)
            clear hK K
            refine norm_ (a' := ?_) ?_ ?_
            rotate_left
            · show Act.put _ (some 21) _ = _
              simp only [Act.put, List.setIfInBounds_toArray, List.set_cons_zero, List.set_cons_succ, i64_w, i32_w]
              rfl
            refine one_ (i := 3) (N := some 23) #[true, true, true, true, false, false] rfl rfl z9_29 z9_85 (fun K hK => ?_)
            refine goes_ Try.func44 z9_29 rfl #[.agg #[.slice A1_0 l1_0.length c1_0, .slice A1_1 l1_1.length c1_1, .int .i64 a1_2]] (by rfl) rfl rfl z9_4 ?_
            with_reducible refine (laws_toRef.calls k _ _ l1_0 _ _ l1_1 a1_2 t148 t151 t154 _ ?side1 ?side2 ?side3 ?side4 A20.out).mono ?_
            (case side1 => exact z9_20)
            (case side2 => exact HC1_0.out)
            (case side3 => exact z9_19)
            (case side4 => exact HC1_1.out)
            rintro e w75 ⟨v149, v152, rfl, ho0, ho1, hb⟩
            refine ⟨_, rfl, ?_⟩
            have n0_ := Aside0.mk (Kd.R_mono (Kd.R_told (Kd.R_told (Kd.R_old z9_7 hb) (Kd.R_base ho0)) (Kd.R_base ho1)) (fun _ h_ => h_.1))
            have n1_ := Aside0.mk (Kd.R_mono (Kd.R_told (Kd.R_told (Kd.R_old z9_6 hb) (Kd.R_base ho0)) (Kd.R_base ho1)) (fun _ h_ => h_.1))
            have n2_ := Aside0.mk (Kd.R_lower (Kd.R_new' (Kd.R_new' ho0 (Kd.R_lt z9_7)) (Kd.R_lt z9_6)) (below_size z9_0))
            have n3_ := Aside0.mk (Kd.R_lower (Kd.R_new' (Kd.R_new' ho1 (Kd.R_lt z9_7)) (Kd.R_lt z9_6)) (below_size z9_0))
            have n4_ := Aside0.mk (blk_below (g := gb137) (o := .cells #[.slice A0_0 l0_0.length c0_0, .slice A0_1 l0_1.length c0_1, .int .i64 a0_2] 51 (0, 0)) z9_1 hb)
            have n5_ := Aside0.mk (blk_below (g := gb138) (o := .cells #[.slice A1_0 l1_0.length c1_0, .slice A1_1 l1_1.length c1_1, .int .i64 a1_2] 51 (0, 0)) z9_3 hb)
            have n6_ := Aside0.mk (below_step z9_0 hb)
            clear HO143
            clear HO146
            clear BK137
            clear BK138
            clear HB
            have HO143 := n0_
            have HO146 := n1_
            have HO150 := n2_
            have HO153 := n3_
            have BK137 := n4_
            have BK138 := n5_
            have HB := n6_
            clear n0_ n1_ n2_ n3_ n4_ n5_ n6_
            (try clear hb)
            (try clear hb2)
            (try clear hk)
            (try clear hi)
            (try clear ho0)
            (try clear ho1)
            obtain ⟨Ao76, co76, eo76⟩ := Kd.R_slice HO143.out
            (first | subst eo76 | (injection eo76 with f1_ f2_ f3_; have f4_ := f1_.symm; have f5_ := f3_.symm; clear f1_ f2_ f3_; subst f4_; subst f5_))
            obtain ⟨Ao77, co77, eo77⟩ := Kd.R_slice HO146.out
            (first | subst eo77 | (injection eo77 with f1_ f2_ f3_; have f4_ := f1_.symm; have f5_ := f3_.symm; clear f1_ f2_ f3_; subst f4_; subst f5_))
            obtain ⟨Ao78, co78, eo78⟩ := Kd.R_slice HO150.out
            (first | subst eo78 | (injection eo78 with f1_ f2_ f3_; have f4_ := f1_.symm; have f5_ := f3_.symm; clear f1_ f2_ f3_; subst f4_; subst f5_))
            obtain ⟨Ao79, co79, eo79⟩ := Kd.R_slice HO153.out
            (first | subst eo79 | (injection eo79 with f1_ f2_ f3_; have f4_ := f1_.symm; have f5_ := f3_.symm; clear f1_ f2_ f3_; subst f4_; subst f5_))
            refine hK.out _ _ ⟨(blk_cell BK137.out 0).trans rfl, (blk_cell BK137.out 1).trans rfl, (blk_cell BK137.out 2).trans rfl, (blk_cell BK138.out 0).trans rfl, (blk_cell BK138.out 1).trans rfl, (blk_cell BK138.out 2).trans rfl⟩ (fun hHeld => ?_)
            clear hK K
            refine norm_ (a' := ?_) ?_ ?_
            rotate_left
            · show Act.put _ (some 23) _ = _
              simp only [Act.put, List.setIfInBounds_toArray, List.set_cons_zero, List.set_cons_succ, i64_w, i32_w]
              rfl
            refine one_ (i := 4) (N := some 24) #[true, true, true, true, true, false] rfl rfl z9_29 z9_85 (fun K hK => ?_)
            refine goes_ Try.func43 z9_29 rfl #[.agg #[.slice Ao76 t141.length co76, .slice Ao77 t144.length co77, .int .i64 t147], .agg #[.slice Ao78 t148.length co78, .slice Ao79 t151.length co79, .int .i64 t154]] (by rfl) rfl rfl z9_4 ?_
            with_reducible refine (spec_SameRef.calls k _ _ t141 _ _ t144 t147 _ _ t148 _ _ t151 t154 t155 _ ?side1 ?side2 ?side3 ?side4 ?side5 ?side6 ?side7 ?side8 A21.out).mono ?_
            (case side1 => exact z9_62)
            (case side2 => exact (Kd.R_reads' HO143.out).2.1)
            (case side3 => exact z9_61)
            (case side4 => exact (Kd.R_reads' HO146.out).2.1)
            (case side5 => exact z9_60)
            (case side6 => exact (Kd.R_reads' HO150.out).2.1)
            (case side7 => exact z9_59)
            (case side8 => exact (Kd.R_reads' HO153.out).2.1)
            rintro e w80 ⟨rfl, hb⟩
            refine ⟨_, rfl, ?_⟩
            have n0_ := Aside0.mk (Kd.R_below z9_7 hb)
            have n1_ := Aside0.mk (Kd.R_below z9_6 hb)
            have n2_ := Aside0.mk (Kd.R_below z9_9 hb)
            have n3_ := Aside0.mk (Kd.R_below z9_8 hb)
            have n4_ := Aside0.mk (blk_below (g := gb137) (o := .cells #[.slice A0_0 l0_0.length c0_0, .slice A0_1 l0_1.length c0_1, .int .i64 a0_2] 51 (0, 0)) z9_1 hb)
            have n5_ := Aside0.mk (blk_below (g := gb138) (o := .cells #[.slice A1_0 l1_0.length c1_0, .slice A1_1 l1_1.length c1_1, .int .i64 a1_2] 51 (0, 0)) z9_3 hb)
            have n6_ := Aside0.mk (below_step z9_0 hb)
            clear HO143
            clear HO146
            clear HO150
            clear HO153
            clear BK137
            clear BK138
            clear HB
            have HO143 := n0_
            have HO146 := n1_
            have HO150 := n2_
            have HO153 := n3_
            have BK137 := n4_
            have BK138 := n5_
            have HB := n6_
            clear n0_ n1_ n2_ n3_ n4_ n5_ n6_
            (try clear hb)
            (try clear hb2)
            (try clear hk)
            (try clear hi)
            refine hK.out _ _ ⟨(blk_cell BK137.out 0).trans rfl, (blk_cell BK137.out 1).trans rfl, (blk_cell BK137.out 2).trans rfl, (blk_cell BK138.out 0).trans rfl, (blk_cell BK138.out 1).trans rfl, (blk_cell BK138.out 2).trans rfl⟩ (fun hHeld => ?_)
            clear hK K
            refine norm_ (a' := ?_) ?_ ?_
            rotate_left
            · show Act.put _ (some 24) _ = _
              simp only [Act.put, List.setIfInBounds_toArray, List.set_cons_zero, List.set_cons_succ, i64_w, i32_w]
              rfl
            refine pure_ (i := 5) (N := some 6) (v := ?_) (a' := ?_) #[true, true, true, true, true, true] rfl rfl z9_29 (fun _ _ _ h => h) (Or.inl ⟨by rfl, ?_⟩) ?_ ?_
            rotate_left
            · intro w'
              go_simp
              with_reducible rfl
            rotate_left
            · simp only [Act.put, List.setIfInBounds_toArray, List.set_cons_zero, List.set_cons_succ, i64_w, i32_w]
              rfl
            refine done_ z9_29 ?_
            have hcz81_0 : w80.cell? ⟨gb137, 0, none⟩ = some (.slice A0_0 l0_0.length c0_0) := (blk_cell BK137.out 0).trans rfl
            have hcz81_1 : w80.cell? ⟨gb137, 1, none⟩ = some (.slice A0_1 l0_1.length c0_1) := (blk_cell BK137.out 1).trans rfl
            have hcz81_2 : w80.cell? ⟨gb137, 2, none⟩ = some (.int .i64 a0_2) := (blk_cell BK137.out 2).trans rfl
            have hfz81_0 := blk_frozen BK137.out 0
            have hfz81_1 := blk_frozen BK137.out 1
            have hfz81_2 := blk_frozen BK137.out 2
            try go_wp2_with (first | ((first | ((with_reducible refine gate_callee (f := 44) rfl ?_); refine goesL_ (some 26) rfl rfl Try.func44 z9_29 rfl #[.agg #[.slice A0_0 l0_0.length c0_0, .slice A0_1 l0_1.length c0_1, .int .i64 a0_2]] rfl z9_4 ?_; (with_reducible refine (laws_toRef.calls k _ _ l0_0 _ _ l0_1 a0_2 t156 t159 t162 _ ?side1 ?side2 ?side3 ?side4 A22.out).mono ?_)) | (go_at_call 44; (with_reducible refine (laws_toRef.calls k _ _ l0_0 _ _ l0_1 a0_2 t156 t159 t162 _ ?side1 ?side2 ?side3 ?side4 A22.out).mono ?_))); (case side1 => exact z9_11); (case side2 => exact z9_89); (case side3 => exact z9_10); (case side4 => exact z9_88); rintro e w82 ⟨v157, v160, rfl, ho0, ho1, hb⟩; (first | refine ⟨_, rfl, ?_⟩ | skip); have n0_ := Aside0.mk (Kd.R_mono (Kd.R_told (Kd.R_told (Kd.R_old z9_7 hb) (Kd.R_base ho0)) (Kd.R_base ho1)) (fun _ h_ => h_.1)); have n1_ := Aside0.mk (Kd.R_mono (Kd.R_told (Kd.R_told (Kd.R_old z9_6 hb) (Kd.R_base ho0)) (Kd.R_base ho1)) (fun _ h_ => h_.1)); have n2_ := Aside0.mk (Kd.R_mono (Kd.R_told (Kd.R_told (Kd.R_old z9_9 hb) (Kd.R_base ho0)) (Kd.R_base ho1)) (fun _ h_ => h_.1)); have n3_ := Aside0.mk (Kd.R_mono (Kd.R_told (Kd.R_told (Kd.R_old z9_8 hb) (Kd.R_base ho0)) (Kd.R_base ho1)) (fun _ h_ => h_.1)); have n4_ := Aside0.mk (Kd.R_lower (Kd.R_new' (Kd.R_new' (Kd.R_new' (Kd.R_new' ho0 (Kd.R_lt z9_7)) (Kd.R_lt z9_6)) (Kd.R_lt z9_9)) (Kd.R_lt z9_8)) (below_size z9_0)); have n5_ := Aside0.mk (Kd.R_lower (Kd.R_new' (Kd.R_new' (Kd.R_new' (Kd.R_new' ho1 (Kd.R_lt z9_7)) (Kd.R_lt z9_6)) (Kd.R_lt z9_9)) (Kd.R_lt z9_8)) (below_size z9_0)); have n6_ := Aside0.mk (blk_below (g := gb137) (o := .cells #[.slice A0_0 l0_0.length c0_0, .slice A0_1 l0_1.length c0_1, .int .i64 a0_2] 51 (0, 0)) z9_1 hb); have n7_ := Aside0.mk (blk_below (g := gb138) (o := .cells #[.slice A1_0 l1_0.length c1_0, .slice A1_1 l1_1.length c1_1, .int .i64 a1_2] 51 (0, 0)) z9_3 hb); have n8_ := Aside0.mk (below_step z9_0 hb); clear HO143; clear HO146; clear HO150; clear HO153; clear BK137; clear BK138; clear HB; have HO143 := n0_; have HO146 := n1_; have HO150 := n2_; have HO153 := n3_; have HO158 := n4_; have HO161 := n5_; have BK137 := n6_; have BK138 := n7_; have HB := n8_; clear n0_ n1_ n2_ n3_ n4_ n5_ n6_ n7_ n8_; (try clear hb); (try clear hb2); (try clear hk); (try clear hi); (try clear ho0); (try clear ho1)) | ((with_reducible refine gate_dst (N := 7) rfl ?_); refine box_event ?hg (N := 7) ?hd (cs := #[.slice none 0 0, .slice none 0 0, .int .i64 0]) (t := 54) ?hr ?_; (case hd => rfl); (case hg => rfl); (case hr => exact z9_58); intro gb163 hg w83 hbox hb; have n0_ := Aside0.mk (Kd.R_below z9_7 hb); have n1_ := Aside0.mk (Kd.R_below z9_6 hb); have n2_ := Aside0.mk (Kd.R_below z9_9 hb); have n3_ := Aside0.mk (Kd.R_below z9_8 hb); have n4_ := Aside0.mk (Kd.R_below z9_14 hb); have n5_ := Aside0.mk (Kd.R_below z9_13 hb); have n6_ := Aside0.mk (blk_below (g := gb137) (o := .cells #[.slice A0_0 l0_0.length c0_0, .slice A0_1 l0_1.length c0_1, .int .i64 a0_2] 51 (0, 0)) z9_1 hb); have n7_ := Aside0.mk (blk_below (g := gb138) (o := .cells #[.slice A1_0 l1_0.length c1_0, .slice A1_1 l1_1.length c1_1, .int .i64 a1_2] 51 (0, 0)) z9_3 hb); have n8_ := Aside0.mk (below_step z9_0 hb); have n9_ := Aside0.mk (hbox); have n10_ := Aside0.mk ((z9_87 : w.heap.size ≤ gb163)); have n11_ := Aside0.mk ((z9_87 : w.heap.size ≤ gb163)); have n12_ := Aside0.mk ((z9_52 : gb137 ≠ gb163)); have n13_ := Aside0.mk ((z9_53 : gb163 ≠ gb137)); have n14_ := Aside0.mk ((z9_54 : gb138 ≠ gb163)); have n15_ := Aside0.mk ((z9_55 : gb163 ≠ gb138)); clear HO143; clear HO146; clear HO150; clear HO153; clear HO158; clear HO161; clear BK137; clear BK138; clear HB; have HO143 := n0_; have HO146 := n1_; have HO150 := n2_; have HO153 := n3_; have HO158 := n4_; have HO161 := n5_; have BK137 := n6_; have BK138 := n7_; have HB := n8_; have BK163 := n9_; have GW163 := n10_; have GE163 := n11_; have NB137_163 := n12_; have NB163_137 := n13_; have NB138_163 := n14_; have NB163_138 := n15_; clear n0_ n1_ n2_ n3_ n4_ n5_ n6_ n7_ n8_ n9_ n10_ n11_ n12_ n13_ n14_ n15_; clear hb hbox hg; obtain ⟨Ao84, co84, eo84⟩ := Kd.R_slice HO158.out; subst eo84; have hnb85 := NB163_137.out; have hnc85 := NB137_163.out; have hnb86 := NB163_138.out; have hnc86 := NB138_163.out; have hcz87_0 : w83.cell? ⟨gb163, 0, none⟩ = some (.slice none 0 0) := (blk_cell BK163.out 0).trans rfl; have hcz87_1 : w83.cell? ⟨gb163, 1, none⟩ = some (.slice none 0 0) := (blk_cell BK163.out 1).trans rfl; have hcz87_2 : w83.cell? ⟨gb163, 2, none⟩ = some (.int .i64 0) := (blk_cell BK163.out 2).trans rfl; have hfz87_0 := blk_frozen BK163.out 0; have hfz87_1 := blk_frozen BK163.out 1; have hfz87_2 := blk_frozen BK163.out 2; obtain ⟨Ao88, co88, eo88⟩ := Kd.R_slice HO161.out; subst eo88; have hcz89_0 : w83.cell? ⟨gb138, 0, none⟩ = some (.slice A1_0 l1_0.length c1_0) := (blk_cell BK138.out 0).trans rfl; have hcz89_1 : w83.cell? ⟨gb138, 1, none⟩ = some (.slice A1_1 l1_1.length c1_1) := (blk_cell BK138.out 1).trans rfl; have hcz89_2 : w83.cell? ⟨gb138, 2, none⟩ = some (.int .i64 a1_2) := (blk_cell BK138.out 2).trans rfl; have hfz89_0 := blk_frozen BK138.out 0; have hfz89_1 := blk_frozen BK138.out 1; have hfz89_2 := blk_frozen BK138.out 2) | ((first | ((with_reducible refine gate_callee (f := 44) rfl ?_); refine goesL_ (some 28) rfl rfl Try.func44 z9_29 rfl #[.agg #[.slice A1_0 l1_0.length c1_0, .slice A1_1 l1_1.length c1_1, .int .i64 a1_2]] rfl z9_4 ?_; (with_reducible refine (laws_toRef.calls k _ _ l1_0 _ _ l1_1 a1_2 t164 t167 t170 _ ?side1 ?side2 ?side3 ?side4 A23.out).mono ?_)) | (go_at_call 44; (with_reducible refine (laws_toRef.calls k _ _ l1_0 _ _ l1_1 a1_2 t164 t167 t170 _ ?side1 ?side2 ?side3 ?side4 A23.out).mono ?_))); (case side1 => exact Kd.C_below HR1_0.out z9_2); (case side2 => exact HC1_0.out); (case side3 => exact Kd.C_below HR1_1.out z9_2); (case side4 => exact HC1_1.out); rintro e w90 ⟨v165, v168, rfl, ho0, ho1, hb⟩; (first | refine ⟨_, rfl, ?_⟩ | skip); have n0_ := Aside0.mk (Kd.R_mono (Kd.R_told (Kd.R_told (Kd.R_old z9_56 hb) (Kd.R_base ho0)) (Kd.R_base ho1)) (fun _ h_ => h_.1)); have n1_ := Aside0.mk (Kd.R_mono (Kd.R_told (Kd.R_told (Kd.R_old z9_50 hb) (Kd.R_base ho0)) (Kd.R_base ho1)) (fun _ h_ => h_.1)); have n2_ := Aside0.mk (Kd.R_mono (Kd.R_told (Kd.R_told (Kd.R_old z9_48 hb) (Kd.R_base ho0)) (Kd.R_base ho1)) (fun _ h_ => h_.1)); have n3_ := Aside0.mk (Kd.R_mono (Kd.R_told (Kd.R_told (Kd.R_old z9_46 hb) (Kd.R_base ho0)) (Kd.R_base ho1)) (fun _ h_ => h_.1)); have n4_ := Aside0.mk (Kd.R_mono (Kd.R_told (Kd.R_told (Kd.R_old z9_44 hb) (Kd.R_base ho0)) (Kd.R_base ho1)) (fun _ h_ => h_.1)); have n5_ := Aside0.mk (Kd.R_mono (Kd.R_told (Kd.R_told (Kd.R_old z9_42 hb) (Kd.R_base ho0)) (Kd.R_base ho1)) (fun _ h_ => h_.1)); have n6_ := Aside0.mk (Kd.R_lower (Kd.R_new' (Kd.R_new' (Kd.R_new' (Kd.R_new' (Kd.R_new' (Kd.R_new' ho0 (Kd.R_lt z9_56)) (Kd.R_lt z9_50)) (Kd.R_lt z9_48)) (Kd.R_lt z9_46)) (Kd.R_lt z9_44)) (Kd.R_lt z9_42)) (below_size z9_2)); have n7_ := Aside0.mk (Kd.R_lower (Kd.R_new' (Kd.R_new' (Kd.R_new' (Kd.R_new' (Kd.R_new' (Kd.R_new' ho1 (Kd.R_lt z9_56)) (Kd.R_lt z9_50)) (Kd.R_lt z9_48)) (Kd.R_lt z9_46)) (Kd.R_lt z9_44)) (Kd.R_lt z9_42)) (below_size z9_2)); have n8_ := Aside0.mk (blk_below (g := gb137) (o := .cells #[.slice A0_0 l0_0.length c0_0, .slice A0_1 l0_1.length c0_1, .int .i64 a0_2] 51 (0, 0)) z9_25 hb); have n9_ := Aside0.mk (blk_below (g := gb138) (o := .cells #[.slice A1_0 l1_0.length c1_0, .slice A1_1 l1_1.length c1_1, .int .i64 a1_2] 51 (0, 0)) z9_23 hb); have n10_ := Aside0.mk (blk_below (g := gb163) (o := .cells #[.slice Ao84 t156.length co84, .slice Ao88 t159.length co88, .int .i64 t162] 54 (0, 0)) (by (with_reducible repeat (first | refine blk_drewN ?_ _ | refine blk_drew ?_ | refine blk_alloc ?_ _)); refine blk_put (cs := #[.slice Ao84 t156.length co84, .slice Ao88 t159.length co88, .int .i64 0]) ?_ 2 _ rfl; (with_reducible repeat (first | refine blk_drewN ?_ _ | refine blk_drew ?_ | refine blk_alloc ?_ _)); refine blk_put (cs := #[.slice Ao84 t156.length co84, .slice none 0 0, .int .i64 0]) ?_ 1 _ rfl; (with_reducible repeat (first | refine blk_drewN ?_ _ | refine blk_drew ?_ | refine blk_alloc ?_ _)); refine blk_put (cs := #[.slice none 0 0, .slice none 0 0, .int .i64 0]) ?_ 0 _ rfl; (with_reducible repeat (first | refine blk_drewN ?_ _ | refine blk_drew ?_ | refine blk_alloc ?_ _)); exact BK163.out) hb); have n11_ := Aside0.mk (below_step z9_2 hb); clear HO143; clear HO146; clear HO150; clear HO153; clear HO158; clear HO161; clear BK137; clear BK138; clear BK163; clear HB; have HO143 := n0_; have HO146 := n1_; have HO150 := n2_; have HO153 := n3_; have HO158 := n4_; have HO161 := n5_; have HO166 := n6_; have HO169 := n7_; have BK137 := n8_; have BK138 := n9_; have BK163 := n10_; have HB := n11_; clear n0_ n1_ n2_ n3_ n4_ n5_ n6_ n7_ n8_ n9_ n10_ n11_; (try clear hb); (try clear hb2); (try clear hk); (try clear hi); (try clear ho0); (try clear ho1)) | ((with_reducible refine gate_dst (N := 8) rfl ?_); refine box_event ?hg (N := 8) ?hd (cs := #[.slice none 0 0, .slice none 0 0, .int .i64 0]) (t := 54) ?hr ?_; (case hd => rfl); (case hg => rfl); (case hr => exact z9_58); intro gb171 hg w91 hbox hb; have n0_ := Aside0.mk (Kd.R_below z9_7 hb); have n1_ := Aside0.mk (Kd.R_below z9_6 hb); have n2_ := Aside0.mk (Kd.R_below z9_9 hb); have n3_ := Aside0.mk (Kd.R_below z9_8 hb); have n4_ := Aside0.mk (Kd.R_below z9_14 hb); have n5_ := Aside0.mk (Kd.R_below z9_13 hb); have n6_ := Aside0.mk (Kd.R_below z9_17 hb); have n7_ := Aside0.mk (Kd.R_below z9_16 hb); have n8_ := Aside0.mk (blk_below (g := gb137) (o := .cells #[.slice A0_0 l0_0.length c0_0, .slice A0_1 l0_1.length c0_1, .int .i64 a0_2] 51 (0, 0)) z9_1 hb); have n9_ := Aside0.mk (blk_below (g := gb138) (o := .cells #[.slice A1_0 l1_0.length c1_0, .slice A1_1 l1_1.length c1_1, .int .i64 a1_2] 51 (0, 0)) z9_3 hb); have n10_ := Aside0.mk (blk_below (g := gb163) (o := .cells #[.slice Ao84 t156.length co84, .slice Ao88 t159.length co88, .int .i64 t162] 54 (0, 0)) z9_15 hb); have n11_ := Aside0.mk (below_step z9_2 hb); have n12_ := Aside0.mk (hbox); have n13_ := Aside0.mk ((z9_86 : w.heap.size ≤ gb171)); have n14_ := Aside0.mk ((z9_86 : w.heap.size ≤ gb171)); have n15_ := Aside0.mk ((z9_52 : gb137 ≠ gb171)); have n16_ := Aside0.mk ((z9_53 : gb171 ≠ gb137)); have n17_ := Aside0.mk ((z9_54 : gb138 ≠ gb171)); have n18_ := Aside0.mk ((z9_55 : gb171 ≠ gb138)); have n19_ := Aside0.mk ((by rw [hg]; exact Nat.ne_of_lt (blk_lt (g := gb163) (o := .cells #[.slice Ao84 t156.length co84, .slice Ao88 t159.length co88, .int .i64 t162] 54 (0, 0)) z9_15) : gb163 ≠ gb171)); have n20_ := Aside0.mk ((by rw [hg]; exact Nat.ne_of_gt (blk_lt (g := gb163) (o := .cells #[.slice Ao84 t156.length co84, .slice Ao88 t159.length co88, .int .i64 t162] 54 (0, 0)) z9_15) : gb171 ≠ gb163)); clear HO143; clear HO146; clear HO150; clear HO153; clear HO158; clear HO161; clear HO166; clear HO169; clear BK137; clear BK138; clear BK163; clear HB; have HO143 := n0_; have HO146 := n1_; have HO150 := n2_; have HO153 := n3_; have HO158 := n4_; have HO161 := n5_; have HO166 := n6_; have HO169 := n7_; have BK137 := n8_; have BK138 := n9_; have BK163 := n10_; have HB := n11_; have BK171 := n12_; have GW171 := n13_; have GE171 := n14_; have NB137_171 := n15_; have NB171_137 := n16_; have NB138_171 := n17_; have NB171_138 := n18_; have NB163_171 := n19_; have NB171_163 := n20_; clear n0_ n1_ n2_ n3_ n4_ n5_ n6_ n7_ n8_ n9_ n10_ n11_ n12_ n13_ n14_ n15_ n16_ n17_ n18_ n19_ n20_; clear hb hbox hg; obtain ⟨Ao92, co92, eo92⟩ := Kd.R_slice HO166.out; subst eo92; have hnb93 := NB171_137.out; have hnc93 := NB137_171.out; have hnb94 := NB171_138.out; have hnc94 := NB138_171.out; have hnb95 := NB171_163.out; have hnc95 := NB163_171.out; have hcz96_0 : w91.cell? ⟨gb171, 0, none⟩ = some (.slice none 0 0) := (blk_cell BK171.out 0).trans rfl; have hcz96_1 : w91.cell? ⟨gb171, 1, none⟩ = some (.slice none 0 0) := (blk_cell BK171.out 1).trans rfl; have hcz96_2 : w91.cell? ⟨gb171, 2, none⟩ = some (.int .i64 0) := (blk_cell BK171.out 2).trans rfl; have hfz96_0 := blk_frozen BK171.out 0; have hfz96_1 := blk_frozen BK171.out 1; have hfz96_2 := blk_frozen BK171.out 2; obtain ⟨Ao97, co97, eo97⟩ := Kd.R_slice HO169.out; subst eo97; have hcz98_0 : w91.cell? ⟨gb163, 0, none⟩ = some (.slice Ao84 t156.length co84) := (blk_cell BK163.out 0).trans rfl; have hcz98_1 : w91.cell? ⟨gb163, 1, none⟩ = some (.slice Ao88 t159.length co88) := (blk_cell BK163.out 1).trans rfl; have hcz98_2 : w91.cell? ⟨gb163, 2, none⟩ = some (.int .i64 t162) := (blk_cell BK163.out 2).trans rfl; have hfz98_0 := blk_frozen BK163.out 0; have hfz98_1 := blk_frozen BK163.out 1; have hfz98_2 := blk_frozen BK163.out 2) | ((first | ((with_reducible refine gate_callee (f := 45) rfl ?_); refine goesL_ (some 31) rfl rfl Try.func45 z9_29 rfl #[.agg #[.slice Ao84 t156.length co84, .slice Ao88 t159.length co88, .int .i64 t162], .agg #[.slice Ao92 t164.length co92, .slice Ao97 t167.length co97, .int .i64 t170]] rfl z9_4 ?_; (with_reducible refine (impl_SameRef.calls k _ _ t156 _ _ t159 t162 _ _ t164 _ _ t167 t170 t172 _ ?side1 ?side2 ?side3 ?side4 ?side5 ?side6 ?side7 ?side8 A24.out).mono ?_)) | (go_at_call 45; (with_reducible refine (impl_SameRef.calls k _ _ t156 _ _ t159 t162 _ _ t164 _ _ t167 t170 t172 _ ?side1 ?side2 ?side3 ?side4 ?side5 ?side6 ?side7 ?side8 A24.out).mono ?_))); (case side1 => refine (Kd.R_reads' (e := 3) (base := w.heap.size) (ok := fun k_ => ((((((some k_ ≠ (.slice Ao88 t159.length co88 : Value).ownBlock ∧ some k_ ≠ (.slice Ao76 t141.length co76 : Value).ownBlock) ∧ some k_ ≠ (.slice Ao77 t144.length co77 : Value).ownBlock) ∧ some k_ ≠ (.slice Ao78 t148.length co78 : Value).ownBlock) ∧ some k_ ≠ (.slice Ao79 t151.length co79 : Value).ownBlock) ∧ some k_ ≠ (.slice Ao92 t164.length co92 : Value).ownBlock) ∧ some k_ ≠ (.slice Ao97 t167.length co97 : Value).ownBlock)) (n := t156.length) (c := co84) ?_).2.2; exact z9_77); (case side2 => exact (Kd.R_reads' HO158.out).2.1); (case side3 => refine (Kd.R_reads' (e := 3) (base := w.heap.size) (ok := fun k_ => ((((((some k_ ≠ (.slice Ao84 t156.length co84 : Value).ownBlock ∧ some k_ ≠ (.slice Ao76 t141.length co76 : Value).ownBlock) ∧ some k_ ≠ (.slice Ao77 t144.length co77 : Value).ownBlock) ∧ some k_ ≠ (.slice Ao78 t148.length co78 : Value).ownBlock) ∧ some k_ ≠ (.slice Ao79 t151.length co79 : Value).ownBlock) ∧ some k_ ≠ (.slice Ao92 t164.length co92 : Value).ownBlock) ∧ some k_ ≠ (.slice Ao97 t167.length co97 : Value).ownBlock)) (n := t159.length) (c := co88) ?_).2.2; exact z9_75); (case side4 => exact (Kd.R_reads' HO161.out).2.1); (case side5 => refine (Kd.R_reads' (e := 3) (base := w.heap.size) (ok := fun k_ => ((((((some k_ ≠ (.slice Ao97 t167.length co97 : Value).ownBlock ∧ some k_ ≠ (.slice Ao76 t141.length co76 : Value).ownBlock) ∧ some k_ ≠ (.slice Ao77 t144.length co77 : Value).ownBlock) ∧ some k_ ≠ (.slice Ao78 t148.length co78 : Value).ownBlock) ∧ some k_ ≠ (.slice Ao79 t151.length co79 : Value).ownBlock) ∧ some k_ ≠ (.slice Ao84 t156.length co84 : Value).ownBlock) ∧ some k_ ≠ (.slice Ao88 t159.length co88 : Value).ownBlock)) (n := t164.length) (c := co92) ?_).2.2; exact z9_73); (case side6 => exact (Kd.R_reads' HO166.out).2.1); (case side7 => refine (Kd.R_reads' (e := 3) (base := w.heap.size) (ok := fun k_ => ((((((some k_ ≠ (.slice Ao92 t164.length co92 : Value).ownBlock ∧ some k_ ≠ (.slice Ao76 t141.length co76 : Value).ownBlock) ∧ some k_ ≠ (.slice Ao77 t144.length co77 : Value).ownBlock) ∧ some k_ ≠ (.slice Ao78 t148.length co78 : Value).ownBlock) ∧ some k_ ≠ (.slice Ao79 t151.length co79 : Value).ownBlock) ∧ some k_ ≠ (.slice Ao84 t156.length co84 : Value).ownBlock) ∧ some k_ ≠ (.slice Ao88 t159.length co88 : Value).ownBlock)) (n := t167.length) (c := co97) ?_).2.2; exact z9_71); (case side8 => exact (Kd.R_reads' HO169.out).2.1); rintro e w99 ⟨rfl, hb⟩; (first | refine ⟨_, rfl, ?_⟩ | skip); have n0_ := Aside0.mk (Kd.R_below (by (with_reducible repeat (first | apply Kd.R_alloc | apply Kd.R_drewN | apply Kd.R_drew)); exact (Kd.R_mono (Kd.R_far (p := ⟨gb171, 2, none⟩) (Kd.R_far (p := ⟨gb171, 1, none⟩) (Kd.R_far (p := ⟨gb171, 0, none⟩) (Kd.R_types HO143.out BK171.out z9_85) (fun _ hk => hk.2) (.slice Ao92 t164.length co92)) (fun _ hk => hk.2) (.slice Ao97 t167.length co97)) (fun _ hk => hk.2) (.int .i64 t170)) (fun _ h_ => h_.1))) hb); have n1_ := Aside0.mk (Kd.R_below (by (with_reducible repeat (first | apply Kd.R_alloc | apply Kd.R_drewN | apply Kd.R_drew)); exact (Kd.R_mono (Kd.R_far (p := ⟨gb171, 2, none⟩) (Kd.R_far (p := ⟨gb171, 1, none⟩) (Kd.R_far (p := ⟨gb171, 0, none⟩) (Kd.R_types HO146.out BK171.out z9_85) (fun _ hk => hk.2) (.slice Ao92 t164.length co92)) (fun _ hk => hk.2) (.slice Ao97 t167.length co97)) (fun _ hk => hk.2) (.int .i64 t170)) (fun _ h_ => h_.1))) hb); have n2_ := Aside0.mk (Kd.R_below (by (with_reducible repeat (first | apply Kd.R_alloc | apply Kd.R_drewN | apply Kd.R_drew)); exact (Kd.R_mono (Kd.R_far (p := ⟨gb171, 2, none⟩) (Kd.R_far (p := ⟨gb171, 1, none⟩) (Kd.R_far (p := ⟨gb171, 0, none⟩) (Kd.R_types HO150.out BK171.out z9_85) (fun _ hk => hk.2) (.slice Ao92 t164.length co92)) (fun _ hk => hk.2) (.slice Ao97 t167.length co97)) (fun _ hk => hk.2) (.int .i64 t170)) (fun _ h_ => h_.1))) hb); have n3_ := Aside0.mk (Kd.R_below (by (with_reducible repeat (first | apply Kd.R_alloc | apply Kd.R_drewN | apply Kd.R_drew)); exact (Kd.R_mono (Kd.R_far (p := ⟨gb171, 2, none⟩) (Kd.R_far (p := ⟨gb171, 1, none⟩) (Kd.R_far (p := ⟨gb171, 0, none⟩) (Kd.R_types HO153.out BK171.out z9_85) (fun _ hk => hk.2) (.slice Ao92 t164.length co92)) (fun _ hk => hk.2) (.slice Ao97 t167.length co97)) (fun _ hk => hk.2) (.int .i64 t170)) (fun _ h_ => h_.1))) hb); have n4_ := Aside0.mk (Kd.R_below z9_77 hb); have n5_ := Aside0.mk (Kd.R_below z9_75 hb); have n6_ := Aside0.mk (Kd.R_below z9_73 hb); have n7_ := Aside0.mk (Kd.R_below z9_71 hb); have n8_ := Aside0.mk (blk_below (g := gb137) (o := .cells #[.slice A0_0 l0_0.length c0_0, .slice A0_1 l0_1.length c0_1, .int .i64 a0_2] 51 (0, 0)) z9_24 hb); have n9_ := Aside0.mk (blk_below (g := gb138) (o := .cells #[.slice A1_0 l1_0.length c1_0, .slice A1_1 l1_1.length c1_1, .int .i64 a1_2] 51 (0, 0)) z9_22 hb); have n10_ := Aside0.mk (blk_below (g := gb163) (o := .cells #[.slice Ao84 t156.length co84, .slice Ao88 t159.length co88, .int .i64 t162] 54 (0, 0)) z9_21 hb); have n11_ := Aside0.mk (blk_below (g := gb171) (o := .cells #[.slice Ao92 t164.length co92, .slice Ao97 t167.length co97, .int .i64 t170] 54 (0, 0)) (by (with_reducible repeat (first | refine blk_drewN ?_ _ | refine blk_drew ?_ | refine blk_alloc ?_ _)); refine blk_put (cs := #[.slice Ao92 t164.length co92, .slice Ao97 t167.length co97, .int .i64 0]) ?_ 2 _ rfl; (with_reducible repeat (first | refine blk_drewN ?_ _ | refine blk_drew ?_ | refine blk_alloc ?_ _)); refine blk_put (cs := #[.slice Ao92 t164.length co92, .slice none 0 0, .int .i64 0]) ?_ 1 _ rfl; (with_reducible repeat (first | refine blk_drewN ?_ _ | refine blk_drew ?_ | refine blk_alloc ?_ _)); refine blk_put (cs := #[.slice none 0 0, .slice none 0 0, .int .i64 0]) ?_ 0 _ rfl; (with_reducible repeat (first | refine blk_drewN ?_ _ | refine blk_drew ?_ | refine blk_alloc ?_ _)); exact BK171.out) hb); have n12_ := Aside0.mk (below_step z9_5 hb); clear HO143; clear HO146; clear HO150; clear HO153; clear HO158; clear HO161; clear HO166; clear HO169; clear BK137; clear BK138; clear BK163; clear BK171; clear HB; have HO143 := n0_; have HO146 := n1_; have HO150 := n2_; have HO153 := n3_; have HO158 := n4_; have HO161 := n5_; have HO166 := n6_; have HO169 := n7_; have BK137 := n8_; have BK138 := n9_; have BK163 := n10_; have BK171 := n11_; have HB := n12_; clear n0_ n1_ n2_ n3_ n4_ n5_ n6_ n7_ n8_ n9_ n10_ n11_ n12_; (try clear hb); (try clear hb2); (try clear hk); (try clear hi)))
            have n0_ := Aside0.mk (Kd.R_drew HO143.out)
            have n1_ := Aside0.mk (Kd.R_drew HO146.out)
            have n2_ := Aside0.mk (Kd.R_drew HO150.out)
            have n3_ := Aside0.mk (Kd.R_drew HO153.out)
            have n4_ := Aside0.mk (Kd.R_drew HO158.out)
            have n5_ := Aside0.mk (Kd.R_drew HO161.out)
            have n6_ := Aside0.mk (Kd.R_drew HO166.out)
            have n7_ := Aside0.mk (Kd.R_drew HO169.out)
            have n8_ := Aside0.mk (blk_drew BK137.out)
            have n9_ := Aside0.mk (blk_drew BK138.out)
            have n10_ := Aside0.mk (blk_drew BK163.out)
            have n11_ := Aside0.mk (blk_drew BK171.out)
            have n12_ := Aside0.mk (below_drew1 HB.out)
            clear HO143
            clear HO146
            clear HO150
            clear HO153
            clear HO158
            clear HO161
            clear HO166
            clear HO169
            clear BK137
            clear BK138
            clear BK163
            clear BK171
            clear HB
            have HO143 := n0_
            have HO146 := n1_
            have HO150 := n2_
            have HO153 := n3_
            have HO158 := n4_
            have HO161 := n5_
            have HO166 := n6_
            have HO169 := n7_
            have BK137 := n8_
            have BK138 := n9_
            have BK163 := n10_
            have BK171 := n11_
            have HB := n12_
            clear n0_ n1_ n2_ n3_ n4_ n5_ n6_ n7_ n8_ n9_ n10_ n11_ n12_
            refine start_ (n := 5) (S := fun w' => w'.cell? ⟨gb163, 0, none⟩ = some (.slice Ao84 t156.length co84) ∧ w'.cell? ⟨gb163, 1, none⟩ = some (.slice Ao88 t159.length co88) ∧ w'.cell? ⟨gb163, 2, none⟩ = some (.int .i64 t162) ∧ w'.cell? ⟨gb137, 0, none⟩ = some (.slice A0_0 l0_0.length c0_0) ∧ w'.cell? ⟨gb137, 1, none⟩ = some (.slice A0_1 l0_1.length c0_1) ∧ w'.cell? ⟨gb137, 2, none⟩ = some (.int .i64 a0_2)) (ds := []) #[false, false, false, false, false] z9_29 rfl rfl ⟨(blk_cell BK163.out 0).trans rfl, (blk_cell BK163.out 1).trans rfl, (blk_cell BK163.out 2).trans rfl, (blk_cell BK137.out 0).trans rfl, (blk_cell BK137.out 1).trans rfl, (blk_cell BK137.out 2).trans rfl⟩ (fun hHeld => ?_)
            generalize w99.drew = w100 at HO143 HO146 HO150 HO153 HO158 HO161 HO166 HO169 BK137 BK138 BK163 BK171 HB hHeld ⊢
            refine take_ (i := 0) (N := some 35) (v := ?_) (a' := ?_) #[true, false, false, false, false] rfl rfl z9_29 (fun _ _ _ h => h) (Or.inl ⟨by rfl, ?_⟩) hHeld ?_ ?_
            rotate_left
            · rintro w' ⟨s0, s1, s2, s3, s4, s5⟩
              go_simp
              with_reducible rfl
            rotate_left
            · simp only [Act.put, List.setIfInBounds_toArray, List.set_cons_zero, List.set_cons_succ, i64_w, i32_w]
              rfl
            refine take_ (i := 1) (N := some 36) (v := ?_) (a' := ?_) #[true, true, false, false, false] rfl rfl z9_29 (fun _ _ _ h => h) (Or.inl ⟨by rfl, ?_⟩) hHeld ?_ ?_
            rotate_left
            · rintro w' ⟨s0, s1, s2, s3, s4, s5⟩
              go_simp
              with_reducible rfl
            rotate_left
            · simp only [Act.put, List.setIfInBounds_toArray, List.set_cons_zero, List.set_cons_succ, i64_w, i32_w]
              rfl
            refine one_ (i := 2) (N := some 37) #[true, true, true, false, false] rfl rfl z9_29 z9_85 (fun K hK => ?_)
            refine goes_ Try.func44 z9_29 rfl #[.agg #[.slice A0_0 l0_0.length c0_0, .slice A0_1 l0_1.length c0_1, .int .i64 a0_2]] (by rfl) rfl rfl z9_4 ?_
            with_reducible refine (laws_toRef.calls k _ _ l0_0 _ _ l0_1 a0_2 t173 t176 t179 _ ?side1 ?side2 ?side3 ?side4 A60.out).mono ?_
            (case side1 => exact z9_11)
            (case side2 => exact z9_89)
            (case side3 => exact z9_10)
            (case side4 => exact z9_88)
            rintro e w101 ⟨v174, v177, rfl, ho0, ho1, hb⟩
            refine ⟨_, rfl, ?_⟩
            have n0_ := Aside0.mk (Kd.R_mono (Kd.R_told (Kd.R_told (Kd.R_old z9_7 hb) (Kd.R_base ho0)) (Kd.R_base ho1)) (fun _ h_ => h_.1))
            have n1_ := Aside0.mk (Kd.R_mono (Kd.R_told (Kd.R_told (Kd.R_old z9_6 hb) (Kd.R_base ho0)) (Kd.R_base ho1)) (fun _ h_ => h_.1))
            have n2_ := Aside0.mk (Kd.R_mono (Kd.R_told (Kd.R_told (Kd.R_old z9_9 hb) (Kd.R_base ho0)) (Kd.R_base ho1)) (fun _ h_ => h_.1))
            have n3_ := Aside0.mk (Kd.R_mono (Kd.R_told (Kd.R_told (Kd.R_old z9_8 hb) (Kd.R_base ho0)) (Kd.R_base ho1)) (fun _ h_ => h_.1))
            have n4_ := Aside0.mk (Kd.R_mono (Kd.R_told (Kd.R_told (Kd.R_old z9_14 hb) (Kd.R_base ho0)) (Kd.R_base ho1)) (fun _ h_ => h_.1))
            have n5_ := Aside0.mk (Kd.R_mono (Kd.R_told (Kd.R_told (Kd.R_old z9_13 hb) (Kd.R_base ho0)) (Kd.R_base ho1)) (fun _ h_ => h_.1))
            have n6_ := Aside0.mk (Kd.R_mono (Kd.R_told (Kd.R_told (Kd.R_old z9_17 hb) (Kd.R_base ho0)) (Kd.R_base ho1)) (fun _ h_ => h_.1))
            have n7_ := Aside0.mk (Kd.R_mono (Kd.R_told (Kd.R_told (Kd.R_old z9_16 hb) (Kd.R_base ho0)) (Kd.R_base ho1)) (fun _ h_ => h_.1))
            have n8_ := Aside0.mk (Kd.R_lower (Kd.R_new' (Kd.R_new' (Kd.R_new' (Kd.R_new' (Kd.R_new' (Kd.R_new' (Kd.R_new' (Kd.R_new' ho0 (Kd.R_lt z9_7)) (Kd.R_lt z9_6)) (Kd.R_lt z9_9)) (Kd.R_lt z9_8)) (Kd.R_lt z9_14)) (Kd.R_lt z9_13)) (Kd.R_lt z9_17)) (Kd.R_lt z9_16)) (below_size z9_5))
            have n9_ := Aside0.mk (Kd.R_lower (Kd.R_new' (Kd.R_new' (Kd.R_new' (Kd.R_new' (Kd.R_new' (Kd.R_new' (Kd.R_new' (Kd.R_new' ho1 (Kd.R_lt z9_7)) (Kd.R_lt z9_6)) (Kd.R_lt z9_9)) (Kd.R_lt z9_8)) (Kd.R_lt z9_14)) (Kd.R_lt z9_13)) (Kd.R_lt z9_17)) (Kd.R_lt z9_16)) (below_size z9_5))
            have n10_ := Aside0.mk (blk_below (g := gb137) (o := .cells #[.slice A0_0 l0_0.length c0_0, .slice A0_1 l0_1.length c0_1, .int .i64 a0_2] 51 (0, 0)) z9_1 hb)
            have n11_ := Aside0.mk (blk_below (g := gb138) (o := .cells #[.slice A1_0 l1_0.length c1_0, .slice A1_1 l1_1.length c1_1, .int .i64 a1_2] 51 (0, 0)) z9_3 hb)
            have n12_ := Aside0.mk (blk_below (g := gb163) (o := .cells #[.slice Ao84 t156.length co84, .slice Ao88 t159.length co88, .int .i64 t162] 54 (0, 0)) z9_15 hb)
            have n13_ := Aside0.mk (blk_below (g := gb171) (o := .cells #[.slice Ao92 t164.length co92, .slice Ao97 t167.length co97, .int .i64 t170] 54 (0, 0)) z9_26 hb)
            have n14_ := Aside0.mk (below_step z9_5 hb)
            clear HO143
            clear HO146
            clear HO150
            clear HO153
            clear HO158
            clear HO161
            clear HO166
            clear HO169
            clear BK137
            clear BK138
            clear BK163
            clear BK171
            clear HB
            have HO143 := n0_
            have HO146 := n1_
            have HO150 := n2_
            have HO153 := n3_
            have HO158 := n4_
            have HO161 := n5_
            have HO166 := n6_
            have HO169 := n7_
            have HO175 := n8_
            have HO178 := n9_
            have BK137 := n10_
            have BK138 := n11_
            have BK163 := n12_
            have BK171 := n13_
            have HB := n14_
            clear n0_ n1_ n2_ n3_ n4_ n5_ n6_ n7_ n8_ n9_ n10_ n11_ n12_ n13_ n14_
            (try clear hb)
            (try clear hb2)
            (try clear hk)
            (try clear hi)
            (try clear ho0)
            (try clear ho1)
            obtain ⟨Ao102, co102, eo102⟩ := Kd.R_slice HO175.out
            (first | subst eo102 | (injection eo102 with f1_ f2_ f3_; have f4_ := f1_.symm; have f5_ := f3_.symm; clear f1_ f2_ f3_; subst f4_; subst f5_))
            obtain ⟨Ao103, co103, eo103⟩ := Kd.R_slice HO178.out
            (first | subst eo103 | (injection eo103 with f1_ f2_ f3_; have f4_ := f1_.symm; have f5_ := f3_.symm; clear f1_ f2_ f3_; subst f4_; subst f5_))
            refine hK.out _ _ ⟨(blk_cell BK163.out 0).trans rfl, (blk_cell BK163.out 1).trans rfl, (blk_cell BK163.out 2).trans rfl, (blk_cell BK137.out 0).trans rfl, (blk_cell BK137.out 1).trans rfl, (blk_cell BK137.out 2).trans rfl⟩ (fun hHeld => ?_)
            clear hK K
            refine norm_ (a' := ?_) ?_ ?_
            rotate_left
            · show Act.put _ (some 37) _ = _
              simp only [Act.put, List.setIfInBounds_toArray, List.set_cons_zero, List.set_cons_succ, i64_w, i32_w]
              rfl
            refine one_ (i := 3) (N := some 38) #[true, true, true, true, false] rfl rfl z9_29 z9_85 (fun K hK => ?_)
            refine goes_ Try.func46 z9_29 rfl #[.agg #[.slice Ao84 t156.length co84, .slice Ao88 t159.length co88, .int .i64 t162], .agg #[.slice Ao102 t173.length co102, .slice Ao103 t176.length co103, .int .i64 t179]] (by rfl) rfl rfl z9_4 ?_
            with_reducible refine (laws_eqRef.calls k _ _ t156 _ _ t159 t162 _ _ t173 _ _ t176 t179 true _ ?side1 ?side2 ?side3 ?side4 ?side5 ?side6 ?side7 ?side8 A61.out).mono ?_
            (case side1 => exact z9_82)
            (case side2 => exact (Kd.R_reads' HO158.out).2.1)
            (case side3 => exact z9_81)
            (case side4 => exact (Kd.R_reads' HO161.out).2.1)
            (case side5 => exact z9_80)
            (case side6 => exact (Kd.R_reads' HO175.out).2.1)
            (case side7 => exact z9_79)
            (case side8 => exact (Kd.R_reads' HO178.out).2.1)
            rintro e w104 ⟨rfl, hb⟩
            refine ⟨_, rfl, ?_⟩
            have n0_ := Aside0.mk (Kd.R_below z9_7 hb)
            have n1_ := Aside0.mk (Kd.R_below z9_6 hb)
            have n2_ := Aside0.mk (Kd.R_below z9_9 hb)
            have n3_ := Aside0.mk (Kd.R_below z9_8 hb)
            have n4_ := Aside0.mk (Kd.R_below z9_14 hb)
            have n5_ := Aside0.mk (Kd.R_below z9_13 hb)
            have n6_ := Aside0.mk (Kd.R_below z9_17 hb)
            have n7_ := Aside0.mk (Kd.R_below z9_16 hb)
            have n8_ := Aside0.mk (Kd.R_below z9_28 hb)
            have n9_ := Aside0.mk (Kd.R_below z9_27 hb)
            have n10_ := Aside0.mk (blk_below (g := gb137) (o := .cells #[.slice A0_0 l0_0.length c0_0, .slice A0_1 l0_1.length c0_1, .int .i64 a0_2] 51 (0, 0)) z9_1 hb)
            have n11_ := Aside0.mk (blk_below (g := gb138) (o := .cells #[.slice A1_0 l1_0.length c1_0, .slice A1_1 l1_1.length c1_1, .int .i64 a1_2] 51 (0, 0)) z9_3 hb)
            have n12_ := Aside0.mk (blk_below (g := gb163) (o := .cells #[.slice Ao84 t156.length co84, .slice Ao88 t159.length co88, .int .i64 t162] 54 (0, 0)) z9_15 hb)
            have n13_ := Aside0.mk (blk_below (g := gb171) (o := .cells #[.slice Ao92 t164.length co92, .slice Ao97 t167.length co97, .int .i64 t170] 54 (0, 0)) z9_26 hb)
            have n14_ := Aside0.mk (below_step z9_5 hb)
            clear HO143
            clear HO146
            clear HO150
            clear HO153
            clear HO158
            clear HO161
            clear HO166
            clear HO169
            clear HO175
            clear HO178
            clear BK137
            clear BK138
            clear BK163
            clear BK171
            clear HB
            have HO143 := n0_
            have HO146 := n1_
            have HO150 := n2_
            have HO153 := n3_
            have HO158 := n4_
            have HO161 := n5_
            have HO166 := n6_
            have HO169 := n7_
            have HO175 := n8_
            have HO178 := n9_
            have BK137 := n10_
            have BK138 := n11_
            have BK163 := n12_
            have BK171 := n13_
            have HB := n14_
            clear n0_ n1_ n2_ n3_ n4_ n5_ n6_ n7_ n8_ n9_ n10_ n11_ n12_ n13_ n14_
            (try clear hb)
            (try clear hb2)
            (try clear hk)
            (try clear hi)
            refine hK.out _ _ ⟨(blk_cell BK163.out 0).trans rfl, (blk_cell BK163.out 1).trans rfl, (blk_cell BK163.out 2).trans rfl, (blk_cell BK137.out 0).trans rfl, (blk_cell BK137.out 1).trans rfl, (blk_cell BK137.out 2).trans rfl⟩ (fun hHeld => ?_)
            clear hK K
            refine norm_ (a' := ?_) ?_ ?_
            rotate_left
            · show Act.put _ (some 38) _ = _
              simp only [Act.put, List.setIfInBounds_toArray, List.set_cons_zero, List.set_cons_succ, i64_w, i32_w]
              rfl
            refine pure_ (i := 4) (N := some 39) (v := ?_) (a' := ?_) #[true, true, true, true, true] rfl rfl z9_29 (fun _ _ _ h => h) (Or.inl ⟨by rfl, ?_⟩) ?_ ?_
            rotate_left
            · intro w'
              go_simp
              with_reducible rfl
            rotate_left
            · simp only [Act.put, List.setIfInBounds_toArray, List.set_cons_zero, List.set_cons_succ, i64_w, i32_w]
              rfl
            refine done_ z9_29 ?_
            try go_wp2
            have n0_ := Aside0.mk (Kd.R_drew HO143.out)
            have n1_ := Aside0.mk (Kd.R_drew HO146.out)
            have n2_ := Aside0.mk (Kd.R_drew HO150.out)
            have n3_ := Aside0.mk (Kd.R_drew HO153.out)
            have n4_ := Aside0.mk (Kd.R_drew HO158.out)
            have n5_ := Aside0.mk (Kd.R_drew HO161.out)
            have n6_ := Aside0.mk (Kd.R_drew HO166.out)
            have n7_ := Aside0.mk (Kd.R_drew HO169.out)
            have n8_ := Aside0.mk (Kd.R_drew HO175.out)
            have n9_ := Aside0.mk (Kd.R_drew HO178.out)
            have n10_ := Aside0.mk (blk_drew BK137.out)
            have n11_ := Aside0.mk (blk_drew BK138.out)
            have n12_ := Aside0.mk (blk_drew BK163.out)
            have n13_ := Aside0.mk (blk_drew BK171.out)
            have n14_ := Aside0.mk (below_drew1 HB.out)
            clear HO143
            clear HO146
            clear HO150
            clear HO153
            clear HO158
            clear HO161
            clear HO166
            clear HO169
            clear HO175
            clear HO178
            clear BK137
            clear BK138
            clear BK163
            clear BK171
            clear HB
            have HO143 := n0_
            have HO146 := n1_
            have HO150 := n2_
            have HO153 := n3_
            have HO158 := n4_
            have HO161 := n5_
            have HO166 := n6_
            have HO169 := n7_
            have HO175 := n8_
            have HO178 := n9_
            have BK137 := n10_
            have BK138 := n11_
            have BK163 := n12_
            have BK171 := n13_
            have HB := n14_
            clear n0_ n1_ n2_ n3_ n4_ n5_ n6_ n7_ n8_ n9_ n10_ n11_ n12_ n13_ n14_
            refine start_ (n := 5) (S := fun w' => w'.cell? ⟨gb171, 0, none⟩ = some (.slice Ao92 t164.length co92) ∧ w'.cell? ⟨gb171, 1, none⟩ = some (.slice Ao97 t167.length co97) ∧ w'.cell? ⟨gb171, 2, none⟩ = some (.int .i64 t170) ∧ w'.cell? ⟨gb138, 0, none⟩ = some (.slice A1_0 l1_0.length c1_0) ∧ w'.cell? ⟨gb138, 1, none⟩ = some (.slice A1_1 l1_1.length c1_1) ∧ w'.cell? ⟨gb138, 2, none⟩ = some (.int .i64 a1_2)) (ds := []) #[false, false, false, false, false] z9_29 rfl rfl ⟨(blk_cell BK171.out 0).trans rfl, (blk_cell BK171.out 1).trans rfl, (blk_cell BK171.out 2).trans rfl, (blk_cell BK138.out 0).trans rfl, (blk_cell BK138.out 1).trans rfl, (blk_cell BK138.out 2).trans rfl⟩ (fun hHeld => ?_)
            generalize w104.drew = w105 at HO143 HO146 HO150 HO153 HO158 HO161 HO166 HO169 HO175 HO178 BK137 BK138 BK163 BK171 HB hHeld ⊢
            refine take_ (i := 0) (N := some 40) (v := ?_) (a' := ?_) #[true, false, false, false, false] rfl rfl z9_29 (fun _ _ _ h => h) (Or.inl ⟨by rfl, ?_⟩) hHeld ?_ ?_
            rotate_left
            · rintro w' ⟨s0, s1, s2, s3, s4, s5⟩
              go_simp
              with_reducible rfl
            rotate_left
            · simp only [Act.put, List.setIfInBounds_toArray, List.set_cons_zero, List.set_cons_succ, i64_w, i32_w]
              rfl
            refine take_ (i := 1) (N := some 41) (v := ?_) (a' := ?_) #[true, true, false, false, false] rfl rfl z9_29 (fun _ _ _ h => h) (Or.inl ⟨by rfl, ?_⟩) hHeld ?_ ?_
            rotate_left
            · rintro w' ⟨s0, s1, s2, s3, s4, s5⟩
              go_simp
              with_reducible rfl
            rotate_left
            · simp only [Act.put, List.setIfInBounds_toArray, List.set_cons_zero, List.set_cons_succ, i64_w, i32_w]
              rfl
            refine one_ (i := 2) (N := some 42) #[true, true, true, false, false] rfl rfl z9_29 z9_85 (fun K hK => ?_)
            refine goes_ Try.func44 z9_29 rfl #[.agg #[.slice A1_0 l1_0.length c1_0, .slice A1_1 l1_1.length c1_1, .int .i64 a1_2]] (by rfl) rfl rfl z9_4 ?_
            with_reducible refine (laws_toRef.calls k _ _ l1_0 _ _ l1_1 a1_2 t181 t184 t187 _ ?side1 ?side2 ?side3 ?side4 A63.out).mono ?_
            (case side1 => exact z9_20)
            (case side2 => exact HC1_0.out)
            (case side3 => exact z9_19)
            (case side4 => exact HC1_1.out)
            rintro e w106 ⟨v182, v185, rfl, ho0, ho1, hb⟩
            refine ⟨_, rfl, ?_⟩
            have n0_ := Aside0.mk (Kd.R_mono (Kd.R_told (Kd.R_told (Kd.R_old z9_7 hb) (Kd.R_base ho0)) (Kd.R_base ho1)) (fun _ h_ => h_.1))
            have n1_ := Aside0.mk (Kd.R_mono (Kd.R_told (Kd.R_told (Kd.R_old z9_6 hb) (Kd.R_base ho0)) (Kd.R_base ho1)) (fun _ h_ => h_.1))
            have n2_ := Aside0.mk (Kd.R_mono (Kd.R_told (Kd.R_told (Kd.R_old z9_9 hb) (Kd.R_base ho0)) (Kd.R_base ho1)) (fun _ h_ => h_.1))
            have n3_ := Aside0.mk (Kd.R_mono (Kd.R_told (Kd.R_told (Kd.R_old z9_8 hb) (Kd.R_base ho0)) (Kd.R_base ho1)) (fun _ h_ => h_.1))
            have n4_ := Aside0.mk (Kd.R_mono (Kd.R_told (Kd.R_told (Kd.R_old z9_14 hb) (Kd.R_base ho0)) (Kd.R_base ho1)) (fun _ h_ => h_.1))
            have n5_ := Aside0.mk (Kd.R_mono (Kd.R_told (Kd.R_told (Kd.R_old z9_13 hb) (Kd.R_base ho0)) (Kd.R_base ho1)) (fun _ h_ => h_.1))
            have n6_ := Aside0.mk (Kd.R_mono (Kd.R_told (Kd.R_told (Kd.R_old z9_17 hb) (Kd.R_base ho0)) (Kd.R_base ho1)) (fun _ h_ => h_.1))
            have n7_ := Aside0.mk (Kd.R_mono (Kd.R_told (Kd.R_told (Kd.R_old z9_16 hb) (Kd.R_base ho0)) (Kd.R_base ho1)) (fun _ h_ => h_.1))
            have n8_ := Aside0.mk (Kd.R_mono (Kd.R_told (Kd.R_told (Kd.R_old z9_28 hb) (Kd.R_base ho0)) (Kd.R_base ho1)) (fun _ h_ => h_.1))
            have n9_ := Aside0.mk (Kd.R_mono (Kd.R_told (Kd.R_told (Kd.R_old z9_27 hb) (Kd.R_base ho0)) (Kd.R_base ho1)) (fun _ h_ => h_.1))
            have n10_ := Aside0.mk (Kd.R_lower (Kd.R_new' (Kd.R_new' (Kd.R_new' (Kd.R_new' (Kd.R_new' (Kd.R_new' (Kd.R_new' (Kd.R_new' (Kd.R_new' (Kd.R_new' ho0 (Kd.R_lt z9_7)) (Kd.R_lt z9_6)) (Kd.R_lt z9_9)) (Kd.R_lt z9_8)) (Kd.R_lt z9_14)) (Kd.R_lt z9_13)) (Kd.R_lt z9_17)) (Kd.R_lt z9_16)) (Kd.R_lt z9_28)) (Kd.R_lt z9_27)) (below_size z9_5))
            have n11_ := Aside0.mk (Kd.R_lower (Kd.R_new' (Kd.R_new' (Kd.R_new' (Kd.R_new' (Kd.R_new' (Kd.R_new' (Kd.R_new' (Kd.R_new' (Kd.R_new' (Kd.R_new' ho1 (Kd.R_lt z9_7)) (Kd.R_lt z9_6)) (Kd.R_lt z9_9)) (Kd.R_lt z9_8)) (Kd.R_lt z9_14)) (Kd.R_lt z9_13)) (Kd.R_lt z9_17)) (Kd.R_lt z9_16)) (Kd.R_lt z9_28)) (Kd.R_lt z9_27)) (below_size z9_5))
            have n12_ := Aside0.mk (blk_below (g := gb137) (o := .cells #[.slice A0_0 l0_0.length c0_0, .slice A0_1 l0_1.length c0_1, .int .i64 a0_2] 51 (0, 0)) z9_1 hb)
            have n13_ := Aside0.mk (blk_below (g := gb138) (o := .cells #[.slice A1_0 l1_0.length c1_0, .slice A1_1 l1_1.length c1_1, .int .i64 a1_2] 51 (0, 0)) z9_3 hb)
            have n14_ := Aside0.mk (blk_below (g := gb163) (o := .cells #[.slice Ao84 t156.length co84, .slice Ao88 t159.length co88, .int .i64 t162] 54 (0, 0)) z9_15 hb)
            have n15_ := Aside0.mk (blk_below (g := gb171) (o := .cells #[.slice Ao92 t164.length co92, .slice Ao97 t167.length co97, .int .i64 t170] 54 (0, 0)) z9_26 hb)
            have n16_ := Aside0.mk (below_step z9_5 hb)
            clear HO143
            clear HO146
            clear HO150
            clear HO153
            clear HO158
            clear HO161
            clear HO166
            clear HO169
            clear HO175
            clear HO178
            clear BK137
            clear BK138
            clear BK163
            clear BK171
            clear HB
            have HO143 := n0_
            have HO146 := n1_
            have HO150 := n2_
            have HO153 := n3_
            have HO158 := n4_
            have HO161 := n5_
            have HO166 := n6_
            have HO169 := n7_
            have HO175 := n8_
            have HO178 := n9_
            have HO183 := n10_
            have HO186 := n11_
            have BK137 := n12_
            have BK138 := n13_
            have BK163 := n14_
            have BK171 := n15_
            have HB := n16_
            clear n0_ n1_ n2_ n3_ n4_ n5_ n6_ n7_ n8_ n9_ n10_ n11_ n12_ n13_ n14_ n15_ n16_
            (try clear hb)
            (try clear hb2)
            (try clear hk)
            (try clear hi)
            (try clear ho0)
            (try clear ho1)
            obtain ⟨Ao107, co107, eo107⟩ := Kd.R_slice HO183.out
            (first | subst eo107 | (injection eo107 with f1_ f2_ f3_; have f4_ := f1_.symm; have f5_ := f3_.symm; clear f1_ f2_ f3_; subst f4_; subst f5_))
            obtain ⟨Ao108, co108, eo108⟩ := Kd.R_slice HO186.out
            (first | subst eo108 | (injection eo108 with f1_ f2_ f3_; have f4_ := f1_.symm; have f5_ := f3_.symm; clear f1_ f2_ f3_; subst f4_; subst f5_))
            refine hK.out _ _ ⟨(blk_cell BK171.out 0).trans rfl, (blk_cell BK171.out 1).trans rfl, (blk_cell BK171.out 2).trans rfl, (blk_cell BK138.out 0).trans rfl, (blk_cell BK138.out 1).trans rfl, (blk_cell BK138.out 2).trans rfl⟩ (fun hHeld => ?_)
            clear hK K
            refine norm_ (a' := ?_) ?_ ?_
            rotate_left
            · show Act.put _ (some 42) _ = _
              simp only [Act.put, List.setIfInBounds_toArray, List.set_cons_zero, List.set_cons_succ, i64_w, i32_w]
              rfl
            refine one_ (i := 3) (N := some 43) #[true, true, true, true, false] rfl rfl z9_29 z9_85 (fun K hK => ?_)
            refine goes_ Try.func46 z9_29 rfl #[.agg #[.slice Ao92 t164.length co92, .slice Ao97 t167.length co97, .int .i64 t170], .agg #[.slice Ao107 t181.length co107, .slice Ao108 t184.length co108, .int .i64 t187]] (by rfl) rfl rfl z9_4 ?_
            with_reducible refine (laws_eqRef.calls k _ _ t164 _ _ t167 t170 _ _ t181 _ _ t184 t187 true _ ?side1 ?side2 ?side3 ?side4 ?side5 ?side6 ?side7 ?side8 A64.out).mono ?_
            (case side1 => repeat (first | exact (Kd.R_reads' HO166.out).2.2 | (with_reducible refine Kd.C_alloc ?_ _) | (with_reducible refine Kd.C_drewN ?_ _) | (with_reducible refine Kd.C_drew ?_)))
            (case side2 => exact (Kd.R_reads' HO166.out).2.1)
            (case side3 => repeat (first | exact (Kd.R_reads' HO169.out).2.2 | (with_reducible refine Kd.C_alloc ?_ _) | (with_reducible refine Kd.C_drewN ?_ _) | (with_reducible refine Kd.C_drew ?_)))
            (case side4 => exact (Kd.R_reads' HO169.out).2.1)
            (case side5 => repeat (first | exact (Kd.R_reads' HO183.out).2.2 | (with_reducible refine Kd.C_alloc ?_ _) | (with_reducible refine Kd.C_drewN ?_ _) | (with_reducible refine Kd.C_drew ?_)))
            (case side6 => exact (Kd.R_reads' HO183.out).2.1)
            (case side7 => repeat (first | exact (Kd.R_reads' HO186.out).2.2 | (with_reducible refine Kd.C_alloc ?_ _) | (with_reducible refine Kd.C_drewN ?_ _) | (with_reducible refine Kd.C_drew ?_)))
            (case side8 => exact (Kd.R_reads' HO186.out).2.1)
            rintro e w109 ⟨rfl, hb⟩
            refine ⟨_, rfl, ?_⟩
            have n0_ := Aside0.mk (Kd.R_below z9_7 hb)
            have n1_ := Aside0.mk (Kd.R_below z9_6 hb)
            have n2_ := Aside0.mk (Kd.R_below z9_9 hb)
            have n3_ := Aside0.mk (Kd.R_below z9_8 hb)
            have n4_ := Aside0.mk (Kd.R_below z9_14 hb)
            have n5_ := Aside0.mk (Kd.R_below z9_13 hb)
            have n6_ := Aside0.mk (Kd.R_below z9_17 hb)
            have n7_ := Aside0.mk (Kd.R_below z9_16 hb)
            have n8_ := Aside0.mk (Kd.R_below z9_28 hb)
            have n9_ := Aside0.mk (Kd.R_below z9_27 hb)
            have n10_ := Aside0.mk (Kd.R_below (by (with_reducible repeat (first | apply Kd.R_alloc | apply Kd.R_drewN | apply Kd.R_drew)); exact HO183.out) hb)
            have n11_ := Aside0.mk (Kd.R_below (by (with_reducible repeat (first | apply Kd.R_alloc | apply Kd.R_drewN | apply Kd.R_drew)); exact HO186.out) hb)
            have n12_ := Aside0.mk (blk_below (g := gb137) (o := .cells #[.slice A0_0 l0_0.length c0_0, .slice A0_1 l0_1.length c0_1, .int .i64 a0_2] 51 (0, 0)) z9_1 hb)
            have n13_ := Aside0.mk (blk_below (g := gb138) (o := .cells #[.slice A1_0 l1_0.length c1_0, .slice A1_1 l1_1.length c1_1, .int .i64 a1_2] 51 (0, 0)) z9_3 hb)
            have n14_ := Aside0.mk (blk_below (g := gb163) (o := .cells #[.slice Ao84 t156.length co84, .slice Ao88 t159.length co88, .int .i64 t162] 54 (0, 0)) z9_15 hb)
            have n15_ := Aside0.mk (blk_below (g := gb171) (o := .cells #[.slice Ao92 t164.length co92, .slice Ao97 t167.length co97, .int .i64 t170] 54 (0, 0)) z9_26 hb)
            have n16_ := Aside0.mk (below_step z9_5 hb)
            clear HO143
            clear HO146
            clear HO150
            clear HO153
            clear HO158
            clear HO161
            clear HO166
            clear HO169
            clear HO175
            clear HO178
            clear HO183
            clear HO186
            clear BK137
            clear BK138
            clear BK163
            clear BK171
            clear HB
            have HO143 := n0_
            have HO146 := n1_
            have HO150 := n2_
            have HO153 := n3_
            have HO158 := n4_
            have HO161 := n5_
            have HO166 := n6_
            have HO169 := n7_
            have HO175 := n8_
            have HO178 := n9_
            have HO183 := n10_
            have HO186 := n11_
            have BK137 := n12_
            have BK138 := n13_
            have BK163 := n14_
            have BK171 := n15_
            have HB := n16_
            clear n0_ n1_ n2_ n3_ n4_ n5_ n6_ n7_ n8_ n9_ n10_ n11_ n12_ n13_ n14_ n15_ n16_
            (try clear hb)
            (try clear hb2)
            (try clear hk)
            (try clear hi)
            refine hK.out _ _ ⟨(blk_cell BK171.out 0).trans rfl, (blk_cell BK171.out 1).trans rfl, (blk_cell BK171.out 2).trans rfl, (blk_cell BK138.out 0).trans rfl, (blk_cell BK138.out 1).trans rfl, (blk_cell BK138.out 2).trans rfl⟩ (fun hHeld => ?_)
            clear hK K
            refine norm_ (a' := ?_) ?_ ?_
            rotate_left
            · show Act.put _ (some 43) _ = _
              simp only [Act.put, List.setIfInBounds_toArray, List.set_cons_zero, List.set_cons_succ, i64_w, i32_w]
              rfl
            refine pure_ (i := 4) (N := some 44) (v := ?_) (a' := ?_) #[true, true, true, true, true] rfl rfl z9_29 (fun _ _ _ h => h) (Or.inl ⟨by rfl, ?_⟩) ?_ ?_
            rotate_left
            · intro w'
              go_simp
              with_reducible rfl
            rotate_left
            · simp only [Act.put, List.setIfInBounds_toArray, List.set_cons_zero, List.set_cons_succ, i64_w, i32_w]
              rfl
            refine done_ z9_29 ?_
            try go_wp2
            go_ret
            exact ⟨by first | rfl | (simp [errW_none, errW_some] <;> rfl) | (simp [*, errW_none, errW_some] <;> rfl) | (simp [*, errW_none, errW_some, i64_w]; done), by repeat (first | (with_reducible first | exact HB.out | apply below_alloc | apply pw_below_drewN | apply below_drew1 | refine below_set ?_ GE137.out | refine below_set ?_ GE138.out | refine below_set ?_ GE163.out | refine below_set ?_ GE171.out) | exact HB.out)⟩
          · replace c65 := Bool.eq_false_iff.mpr c65
            subst c65
            have H1 : (some false) = some r := by rw [if_neg (show ¬ (false = true) by decide)] at H; exact H
            clear H
            have H := H1
            clear H1
            obtain rfl := Option.some.inj H
            go_enter Try.func14, Try.ntmps14
            try go_wp2_with (first | ((with_reducible refine gate_dst (N := 2) rfl ?_); refine box_event ?hg (N := 2) ?hd (cs := #[.slice A0_0 l0_0.length c0_0, .slice A0_1 l0_1.length c0_1, .int .i64 a0_2]) (t := 51) ?hr ?_; (case hd => rfl); (case hg => rfl); (case hr => exact z9_58); intro gb137 hg w110 hbox hb; have n0_ := Aside0.mk (below_step z9_18 hb); have n1_ := Aside0.mk (hbox); have n2_ := Aside0.mk ((z9_83 : w.heap.size ≤ gb137)); have n3_ := Aside0.mk ((z9_83 : w.heap.size ≤ gb137)); clear HB; have HB := n0_; have BK137 := n1_; have GW137 := n2_; have GE137 := n3_; clear n0_ n1_ n2_ n3_; clear hb hbox hg) | ((with_reducible refine gate_dst (N := 3) rfl ?_); refine box_event ?hg (N := 3) ?hd (cs := #[.slice A1_0 l1_0.length c1_0, .slice A1_1 l1_1.length c1_1, .int .i64 a1_2]) (t := 51) ?hr ?_; (case hd => rfl); (case hg => rfl); (case hr => exact z9_58); intro gb138 hg w111 hbox hb; have n0_ := Aside0.mk (blk_below (g := gb137) (o := .cells #[.slice A0_0 l0_0.length c0_0, .slice A0_1 l0_1.length c0_1, .int .i64 a0_2] 51 (0, 0)) z9_1 hb); have n1_ := Aside0.mk (below_step z9_12 hb); have n2_ := Aside0.mk (hbox); have n3_ := Aside0.mk ((z9_84 : w.heap.size ≤ gb138)); have n4_ := Aside0.mk ((z9_84 : w.heap.size ≤ gb138)); have n5_ := Aside0.mk ((z9_52 : gb137 ≠ gb138)); have n6_ := Aside0.mk ((z9_53 : gb138 ≠ gb137)); clear BK137; clear HB; have BK137 := n0_; have HB := n1_; have BK138 := n2_; have GW138 := n3_; have GE138 := n4_; have NB137_138 := n5_; have NB138_137 := n6_; clear n0_ n1_ n2_ n3_ n4_ n5_ n6_; clear hb hbox hg; have hnb112 := NB137_138.out; have hnc112 := NB138_137.out; have hcz113_0 : w111.cell? ⟨gb137, 0, none⟩ = some (.slice A0_0 l0_0.length c0_0) := (blk_cell BK137.out 0).trans rfl; have hcz113_1 : w111.cell? ⟨gb137, 1, none⟩ = some (.slice A0_1 l0_1.length c0_1) := (blk_cell BK137.out 1).trans rfl; have hcz113_2 : w111.cell? ⟨gb137, 2, none⟩ = some (.int .i64 a0_2) := (blk_cell BK137.out 2).trans rfl; have hfz113_0 := blk_frozen BK137.out 0; have hfz113_1 := blk_frozen BK137.out 1; have hfz113_2 := blk_frozen BK137.out 2) | ((first | ((with_reducible refine gate_callee (f := 42) rfl ?_); refine goesL_ (some 12) rfl rfl Try.func42 z9_29 rfl #[.agg #[.slice A0_0 l0_0.length c0_0, .slice A0_1 l0_1.length c0_1, .int .i64 a0_2], .int .i64 1048576] rfl z9_4 ?_; (with_reducible refine (laws_szRef.calls _ _ l0_0 _ _ l0_1 a0_2 1048576 t139 _ ?side1 ?side2 ?side3 ?side4 A3.out).mono ?_)) | (go_at_call 42; (with_reducible refine (laws_szRef.calls _ _ l0_0 _ _ l0_1 a0_2 1048576 t139 _ ?side1 ?side2 ?side3 ?side4 A3.out).mono ?_))); (case side1 => exact z9_11); (case side2 => exact z9_89); (case side3 => exact z9_10); (case side4 => exact z9_88); rintro e w114 ⟨rfl, hb⟩; (first | refine ⟨_, rfl, ?_⟩ | skip); have n0_ := Aside0.mk (blk_below (g := gb137) (o := .cells #[.slice A0_0 l0_0.length c0_0, .slice A0_1 l0_1.length c0_1, .int .i64 a0_2] 51 (0, 0)) z9_1 hb); have n1_ := Aside0.mk (blk_below (g := gb138) (o := .cells #[.slice A1_0 l1_0.length c1_0, .slice A1_1 l1_1.length c1_1, .int .i64 a1_2] 51 (0, 0)) z9_3 hb); have n2_ := Aside0.mk (below_step z9_0 hb); clear BK137; clear BK138; clear HB; have BK137 := n0_; have BK138 := n1_; have HB := n2_; clear n0_ n1_ n2_; (try clear hb); (try clear hb2); (try clear hk); (try clear hi); have hcz115_0 : w114.cell? ⟨gb138, 0, none⟩ = some (.slice A1_0 l1_0.length c1_0) := (blk_cell BK138.out 0).trans rfl; have hcz115_1 : w114.cell? ⟨gb138, 1, none⟩ = some (.slice A1_1 l1_1.length c1_1) := (blk_cell BK138.out 1).trans rfl; have hcz115_2 : w114.cell? ⟨gb138, 2, none⟩ = some (.int .i64 a1_2) := (blk_cell BK138.out 2).trans rfl; have hfz115_0 := blk_frozen BK138.out 0; have hfz115_1 := blk_frozen BK138.out 1; have hfz115_2 := blk_frozen BK138.out 2) | ((first | ((with_reducible refine gate_callee (f := 42) rfl ?_); refine goesL_ (some 17) rfl rfl Try.func42 z9_29 rfl #[.agg #[.slice A1_0 l1_0.length c1_0, .slice A1_1 l1_1.length c1_1, .int .i64 a1_2], .int .i64 t139] rfl z9_4 ?_; (with_reducible refine (laws_szRef.calls _ _ l1_0 _ _ l1_1 a1_2 t139 t140 _ ?side1 ?side2 ?side3 ?side4 A10.out).mono ?_)) | (go_at_call 42; (with_reducible refine (laws_szRef.calls _ _ l1_0 _ _ l1_1 a1_2 t139 t140 _ ?side1 ?side2 ?side3 ?side4 A10.out).mono ?_))); (case side1 => exact z9_20); (case side2 => exact HC1_0.out); (case side3 => exact z9_19); (case side4 => exact HC1_1.out); rintro e w116 ⟨rfl, hb⟩; (first | refine ⟨_, rfl, ?_⟩ | skip); have n0_ := Aside0.mk (blk_below (g := gb137) (o := .cells #[.slice A0_0 l0_0.length c0_0, .slice A0_1 l0_1.length c0_1, .int .i64 a0_2] 51 (0, 0)) z9_1 hb); have n1_ := Aside0.mk (blk_below (g := gb138) (o := .cells #[.slice A1_0 l1_0.length c1_0, .slice A1_1 l1_1.length c1_1, .int .i64 a1_2] 51 (0, 0)) z9_3 hb); have n2_ := Aside0.mk (below_step z9_0 hb); clear BK137; clear BK138; clear HB; have BK137 := n0_; have BK138 := n1_; have HB := n2_; clear n0_ n1_ n2_; (try clear hb); (try clear hb2); (try clear hk); (try clear hi)))
            have n0_ := Aside0.mk (blk_drew BK137.out)
            have n1_ := Aside0.mk (blk_drew BK138.out)
            have n2_ := Aside0.mk (below_drew1 HB.out)
            clear BK137
            clear BK138
            clear HB
            have BK137 := n0_
            have BK138 := n1_
            have HB := n2_
            clear n0_ n1_ n2_
            refine start_ (n := 6) (S := fun w' => w'.cell? ⟨gb137, 0, none⟩ = some (.slice A0_0 l0_0.length c0_0) ∧ w'.cell? ⟨gb137, 1, none⟩ = some (.slice A0_1 l0_1.length c0_1) ∧ w'.cell? ⟨gb137, 2, none⟩ = some (.int .i64 a0_2) ∧ w'.cell? ⟨gb138, 0, none⟩ = some (.slice A1_0 l1_0.length c1_0) ∧ w'.cell? ⟨gb138, 1, none⟩ = some (.slice A1_1 l1_1.length c1_1) ∧ w'.cell? ⟨gb138, 2, none⟩ = some (.int .i64 a1_2)) (ds := []) #[false, false, false, false, false, false] z9_29 rfl rfl ⟨(blk_cell BK137.out 0).trans rfl, (blk_cell BK137.out 1).trans rfl, (blk_cell BK137.out 2).trans rfl, (blk_cell BK138.out 0).trans rfl, (blk_cell BK138.out 1).trans rfl, (blk_cell BK138.out 2).trans rfl⟩ (fun hHeld => ?_)
            generalize w116.drew = w117 at BK137 BK138 HB hHeld ⊢
            refine take_ (i := 0) (N := some 20) (v := ?_) (a' := ?_) #[true, false, false, false, false, false] rfl rfl z9_29 (fun _ _ _ h => h) (Or.inl ⟨by rfl, ?_⟩) hHeld ?_ ?_
            rotate_left
            · rintro w' ⟨s0, s1, s2, s3, s4, s5⟩
              go_simp
              with_reducible rfl
            rotate_left
            · simp only [Act.put, List.setIfInBounds_toArray, List.set_cons_zero, List.set_cons_succ, i64_w, i32_w]
              rfl
            refine take_ (i := 2) (N := some 22) (v := ?_) (a' := ?_) #[true, false, true, false, false, false] rfl rfl z9_29 (fun _ _ _ h => h) (Or.inl ⟨by rfl, ?_⟩) hHeld ?_ ?_
            rotate_left
            · rintro w' ⟨s0, s1, s2, s3, s4, s5⟩
              go_simp
              with_reducible rfl
            rotate_left
            · simp only [Act.put, List.setIfInBounds_toArray, List.set_cons_zero, List.set_cons_succ, i64_w, i32_w]
              rfl
            refine one_ (i := 1) (N := some 21) #[true, true, true, false, false, false] rfl rfl z9_29 z9_85 (fun K hK => ?_)
            refine goes_ Try.func44 z9_29 rfl #[.agg #[.slice A0_0 l0_0.length c0_0, .slice A0_1 l0_1.length c0_1, .int .i64 a0_2]] (by rfl) rfl rfl z9_4 ?_
            with_reducible refine (laws_toRef.calls k _ _ l0_0 _ _ l0_1 a0_2 t141 t144 t147 _ ?side1 ?side2 ?side3 ?side4 A19.out).mono ?_
            (case side1 => exact z9_11)
            (case side2 => exact z9_89)
            (case side3 => exact z9_10)
            (case side4 => exact z9_88)
            rintro e w118 ⟨v142, v145, rfl, ho0, ho1, hb⟩
            refine ⟨_, rfl, ?_⟩
            have n0_ := Aside0.mk (Kd.R_lower ho0 (below_size z9_0))
            have n1_ := Aside0.mk (Kd.R_lower ho1 (below_size z9_0))
            have n2_ := Aside0.mk (blk_below (g := gb137) (o := .cells #[.slice A0_0 l0_0.length c0_0, .slice A0_1 l0_1.length c0_1, .int .i64 a0_2] 51 (0, 0)) z9_1 hb)
            have n3_ := Aside0.mk (blk_below (g := gb138) (o := .cells #[.slice A1_0 l1_0.length c1_0, .slice A1_1 l1_1.length c1_1, .int .i64 a1_2] 51 (0, 0)) z9_3 hb)
            have n4_ := Aside0.mk (below_step z9_0 hb)
            clear BK137
            clear BK138
            clear HB
            have HO143 := n0_
            have HO146 := n1_
            have BK137 := n2_
            have BK138 := n3_
            have HB := n4_
            clear n0_ n1_ n2_ n3_ n4_
            (try clear hb)
            (try clear hb2)
            (try clear hk)
            (try clear hi)
            (try clear ho0)
            (try clear ho1)
            refine hK.out _ _ ⟨(blk_cell BK137.out 0).trans rfl, (blk_cell BK137.out 1).trans rfl, (blk_cell BK137.out 2).trans rfl, (blk_cell BK138.out 0).trans rfl, (blk_cell BK138.out 1).trans rfl, (blk_cell BK138.out 2).trans rfl⟩ (fun hHeld => ?_)
            clear hK K
            refine norm_ (a' := ?_) ?_ ?_
            rotate_left
            · show Act.put _ (some 21) _ = _
              simp only [Act.put, List.setIfInBounds_toArray, List.set_cons_zero, List.set_cons_succ, i64_w, i32_w]
              rfl
            refine one_ (i := 3) (N := some 23) #[true, true, true, true, false, false] rfl rfl z9_29 z9_85 (fun K hK => ?_)
            refine goes_ Try.func44 z9_29 rfl #[.agg #[.slice A1_0 l1_0.length c1_0, .slice A1_1 l1_1.length c1_1, .int .i64 a1_2]] (by rfl) rfl rfl z9_4 ?_
            with_reducible refine (laws_toRef.calls k _ _ l1_0 _ _ l1_1 a1_2 t148 t151 t154 _ ?side1 ?side2 ?side3 ?side4 A20.out).mono ?_
            (case side1 => exact z9_20)
            (case side2 => exact HC1_0.out)
            (case side3 => exact z9_19)
            (case side4 => exact HC1_1.out)
            rintro e w119 ⟨v149, v152, rfl, ho0, ho1, hb⟩
            refine ⟨_, rfl, ?_⟩
            have n0_ := Aside0.mk (Kd.R_mono (Kd.R_told (Kd.R_told (Kd.R_old z9_7 hb) (Kd.R_base ho0)) (Kd.R_base ho1)) (fun _ h_ => h_.1))
            have n1_ := Aside0.mk (Kd.R_mono (Kd.R_told (Kd.R_told (Kd.R_old z9_6 hb) (Kd.R_base ho0)) (Kd.R_base ho1)) (fun _ h_ => h_.1))
            have n2_ := Aside0.mk (Kd.R_lower (Kd.R_new' (Kd.R_new' ho0 (Kd.R_lt z9_7)) (Kd.R_lt z9_6)) (below_size z9_0))
            have n3_ := Aside0.mk (Kd.R_lower (Kd.R_new' (Kd.R_new' ho1 (Kd.R_lt z9_7)) (Kd.R_lt z9_6)) (below_size z9_0))
            have n4_ := Aside0.mk (blk_below (g := gb137) (o := .cells #[.slice A0_0 l0_0.length c0_0, .slice A0_1 l0_1.length c0_1, .int .i64 a0_2] 51 (0, 0)) z9_1 hb)
            have n5_ := Aside0.mk (blk_below (g := gb138) (o := .cells #[.slice A1_0 l1_0.length c1_0, .slice A1_1 l1_1.length c1_1, .int .i64 a1_2] 51 (0, 0)) z9_3 hb)
            have n6_ := Aside0.mk (below_step z9_0 hb)
            clear HO143
            clear HO146
            clear BK137
            clear BK138
            clear HB
            have HO143 := n0_
            have HO146 := n1_
            have HO150 := n2_
            have HO153 := n3_
            have BK137 := n4_
            have BK138 := n5_
            have HB := n6_
            clear n0_ n1_ n2_ n3_ n4_ n5_ n6_
            (try clear hb)
            (try clear hb2)
            (try clear hk)
            (try clear hi)
            (try clear ho0)
            (try clear ho1)
            obtain ⟨Ao120, co120, eo120⟩ := Kd.R_slice HO143.out
            (first | subst eo120 | (injection eo120 with f1_ f2_ f3_; have f4_ := f1_.symm; have f5_ := f3_.symm; clear f1_ f2_ f3_; subst f4_; subst f5_))
            obtain ⟨Ao121, co121, eo121⟩ := Kd.R_slice HO146.out
            (first | subst eo121 | (injection eo121 with f1_ f2_ f3_; have f4_ := f1_.symm; have f5_ := f3_.symm; clear f1_ f2_ f3_; subst f4_; subst f5_))
            obtain ⟨Ao122, co122, eo122⟩ := Kd.R_slice HO150.out
            (first | subst eo122 | (injection eo122 with f1_ f2_ f3_; have f4_ := f1_.symm; have f5_ := f3_.symm; clear f1_ f2_ f3_; subst f4_; subst f5_))
            obtain ⟨Ao123, co123, eo123⟩ := Kd.R_slice HO153.out
            (first | subst eo123 | (injection eo123 with f1_ f2_ f3_; have f4_ := f1_.symm; have f5_ := f3_.symm; clear f1_ f2_ f3_; subst f4_; subst f5_))
            refine hK.out _ _ ⟨(blk_cell BK137.out 0).trans rfl, (blk_cell BK137.out 1).trans rfl, (blk_cell BK137.out 2).trans rfl, (blk_cell BK138.out 0).trans rfl, (blk_cell BK138.out 1).trans rfl, (blk_cell BK138.out 2).trans rfl⟩ (fun hHeld => ?_)
            clear hK K
            refine norm_ (a' := ?_) ?_ ?_
            rotate_left
            · show Act.put _ (some 23) _ = _
              simp only [Act.put, List.setIfInBounds_toArray, List.set_cons_zero, List.set_cons_succ, i64_w, i32_w]
              rfl
            refine one_ (i := 4) (N := some 24) #[true, true, true, true, true, false] rfl rfl z9_29 z9_85 (fun K hK => ?_)
            refine goes_ Try.func43 z9_29 rfl #[.agg #[.slice Ao120 t141.length co120, .slice Ao121 t144.length co121, .int .i64 t147], .agg #[.slice Ao122 t148.length co122, .slice Ao123 t151.length co123, .int .i64 t154]] (by rfl) rfl rfl z9_4 ?_
            with_reducible refine (spec_SameRef.calls k _ _ t141 _ _ t144 t147 _ _ t148 _ _ t151 t154 t155 _ ?side1 ?side2 ?side3 ?side4 ?side5 ?side6 ?side7 ?side8 A21.out).mono ?_
            (case side1 => exact z9_62)
            (case side2 => exact (Kd.R_reads' HO143.out).2.1)
            (case side3 => exact z9_61)
            (case side4 => exact (Kd.R_reads' HO146.out).2.1)
            (case side5 => exact z9_60)
            (case side6 => exact (Kd.R_reads' HO150.out).2.1)
            (case side7 => exact z9_59)
            (case side8 => exact (Kd.R_reads' HO153.out).2.1)
            rintro e w124 ⟨rfl, hb⟩
            refine ⟨_, rfl, ?_⟩
            have n0_ := Aside0.mk (Kd.R_below z9_7 hb)
            have n1_ := Aside0.mk (Kd.R_below z9_6 hb)
            have n2_ := Aside0.mk (Kd.R_below z9_9 hb)
            have n3_ := Aside0.mk (Kd.R_below z9_8 hb)
            have n4_ := Aside0.mk (blk_below (g := gb137) (o := .cells #[.slice A0_0 l0_0.length c0_0, .slice A0_1 l0_1.length c0_1, .int .i64 a0_2] 51 (0, 0)) z9_1 hb)
            have n5_ := Aside0.mk (blk_below (g := gb138) (o := .cells #[.slice A1_0 l1_0.length c1_0, .slice A1_1 l1_1.length c1_1, .int .i64 a1_2] 51 (0, 0)) z9_3 hb)
            have n6_ := Aside0.mk (below_step z9_0 hb)
            clear HO143
            clear HO146
            clear HO150
            clear HO153
            clear BK137
            clear BK138
            clear HB
            have HO143 := n0_
            have HO146 := n1_
            have HO150 := n2_
            have HO153 := n3_
            have BK137 := n4_
            have BK138 := n5_
            have HB := n6_
            clear n0_ n1_ n2_ n3_ n4_ n5_ n6_
            (try clear hb)
            (try clear hb2)
            (try clear hk)
            (try clear hi)
            refine hK.out _ _ ⟨(blk_cell BK137.out 0).trans rfl, (blk_cell BK137.out 1).trans rfl, (blk_cell BK137.out 2).trans rfl, (blk_cell BK138.out 0).trans rfl, (blk_cell BK138.out 1).trans rfl, (blk_cell BK138.out 2).trans rfl⟩ (fun hHeld => ?_)
            clear hK K
            refine norm_ (a' := ?_) ?_ ?_
            rotate_left
            · show Act.put _ (some 24) _ = _
              simp only [Act.put, List.setIfInBounds_toArray, List.set_cons_zero, List.set_cons_succ, i64_w, i32_w]
              rfl
            refine pure_ (i := 5) (N := some 6) (v := ?_) (a' := ?_) #[true, true, true, true, true, true] rfl rfl z9_29 (fun _ _ _ h => h) (Or.inl ⟨by rfl, ?_⟩) ?_ ?_
            rotate_left
            · intro w'
              go_simp
              with_reducible rfl
            rotate_left
            · simp only [Act.put, List.setIfInBounds_toArray, List.set_cons_zero, List.set_cons_succ, i64_w, i32_w]
              rfl
            refine done_ z9_29 ?_
            have hcz125_0 : w124.cell? ⟨gb137, 0, none⟩ = some (.slice A0_0 l0_0.length c0_0) := (blk_cell BK137.out 0).trans rfl
            have hcz125_1 : w124.cell? ⟨gb137, 1, none⟩ = some (.slice A0_1 l0_1.length c0_1) := (blk_cell BK137.out 1).trans rfl
            have hcz125_2 : w124.cell? ⟨gb137, 2, none⟩ = some (.int .i64 a0_2) := (blk_cell BK137.out 2).trans rfl
            have hfz125_0 := blk_frozen BK137.out 0
            have hfz125_1 := blk_frozen BK137.out 1
            have hfz125_2 := blk_frozen BK137.out 2
            try go_wp2_with (first | ((first | ((with_reducible refine gate_callee (f := 44) rfl ?_); refine goesL_ (some 26) rfl rfl Try.func44 z9_29 rfl #[.agg #[.slice A0_0 l0_0.length c0_0, .slice A0_1 l0_1.length c0_1, .int .i64 a0_2]] rfl z9_4 ?_; (with_reducible refine (laws_toRef.calls k _ _ l0_0 _ _ l0_1 a0_2 t156 t159 t162 _ ?side1 ?side2 ?side3 ?side4 A22.out).mono ?_)) | (go_at_call 44; (with_reducible refine (laws_toRef.calls k _ _ l0_0 _ _ l0_1 a0_2 t156 t159 t162 _ ?side1 ?side2 ?side3 ?side4 A22.out).mono ?_))); (case side1 => exact z9_11); (case side2 => exact z9_89); (case side3 => exact z9_10); (case side4 => exact z9_88); rintro e w126 ⟨v157, v160, rfl, ho0, ho1, hb⟩; (first | refine ⟨_, rfl, ?_⟩ | skip); have n0_ := Aside0.mk (Kd.R_mono (Kd.R_told (Kd.R_told (Kd.R_old z9_7 hb) (Kd.R_base ho0)) (Kd.R_base ho1)) (fun _ h_ => h_.1)); have n1_ := Aside0.mk (Kd.R_mono (Kd.R_told (Kd.R_told (Kd.R_old z9_6 hb) (Kd.R_base ho0)) (Kd.R_base ho1)) (fun _ h_ => h_.1)); have n2_ := Aside0.mk (Kd.R_mono (Kd.R_told (Kd.R_told (Kd.R_old z9_9 hb) (Kd.R_base ho0)) (Kd.R_base ho1)) (fun _ h_ => h_.1)); have n3_ := Aside0.mk (Kd.R_mono (Kd.R_told (Kd.R_told (Kd.R_old z9_8 hb) (Kd.R_base ho0)) (Kd.R_base ho1)) (fun _ h_ => h_.1)); have n4_ := Aside0.mk (Kd.R_lower (Kd.R_new' (Kd.R_new' (Kd.R_new' (Kd.R_new' ho0 (Kd.R_lt z9_7)) (Kd.R_lt z9_6)) (Kd.R_lt z9_9)) (Kd.R_lt z9_8)) (below_size z9_0)); have n5_ := Aside0.mk (Kd.R_lower (Kd.R_new' (Kd.R_new' (Kd.R_new' (Kd.R_new' ho1 (Kd.R_lt z9_7)) (Kd.R_lt z9_6)) (Kd.R_lt z9_9)) (Kd.R_lt z9_8)) (below_size z9_0)); have n6_ := Aside0.mk (blk_below (g := gb137) (o := .cells #[.slice A0_0 l0_0.length c0_0, .slice A0_1 l0_1.length c0_1, .int .i64 a0_2] 51 (0, 0)) z9_1 hb); have n7_ := Aside0.mk (blk_below (g := gb138) (o := .cells #[.slice A1_0 l1_0.length c1_0, .slice A1_1 l1_1.length c1_1, .int .i64 a1_2] 51 (0, 0)) z9_3 hb); have n8_ := Aside0.mk (below_step z9_0 hb); clear HO143; clear HO146; clear HO150; clear HO153; clear BK137; clear BK138; clear HB; have HO143 := n0_; have HO146 := n1_; have HO150 := n2_; have HO153 := n3_; have HO158 := n4_; have HO161 := n5_; have BK137 := n6_; have BK138 := n7_; have HB := n8_; clear n0_ n1_ n2_ n3_ n4_ n5_ n6_ n7_ n8_; (try clear hb); (try clear hb2); (try clear hk); (try clear hi); (try clear ho0); (try clear ho1)) | ((with_reducible refine gate_dst (N := 7) rfl ?_); refine box_event ?hg (N := 7) ?hd (cs := #[.slice none 0 0, .slice none 0 0, .int .i64 0]) (t := 54) ?hr ?_; (case hd => rfl); (case hg => rfl); (case hr => exact z9_58); intro gb163 hg w127 hbox hb; have n0_ := Aside0.mk (Kd.R_below z9_7 hb); have n1_ := Aside0.mk (Kd.R_below z9_6 hb); have n2_ := Aside0.mk (Kd.R_below z9_9 hb); have n3_ := Aside0.mk (Kd.R_below z9_8 hb); have n4_ := Aside0.mk (Kd.R_below z9_14 hb); have n5_ := Aside0.mk (Kd.R_below z9_13 hb); have n6_ := Aside0.mk (blk_below (g := gb137) (o := .cells #[.slice A0_0 l0_0.length c0_0, .slice A0_1 l0_1.length c0_1, .int .i64 a0_2] 51 (0, 0)) z9_1 hb); have n7_ := Aside0.mk (blk_below (g := gb138) (o := .cells #[.slice A1_0 l1_0.length c1_0, .slice A1_1 l1_1.length c1_1, .int .i64 a1_2] 51 (0, 0)) z9_3 hb); have n8_ := Aside0.mk (below_step z9_0 hb); have n9_ := Aside0.mk (hbox); have n10_ := Aside0.mk ((z9_87 : w.heap.size ≤ gb163)); have n11_ := Aside0.mk ((z9_87 : w.heap.size ≤ gb163)); have n12_ := Aside0.mk ((z9_52 : gb137 ≠ gb163)); have n13_ := Aside0.mk ((z9_53 : gb163 ≠ gb137)); have n14_ := Aside0.mk ((z9_54 : gb138 ≠ gb163)); have n15_ := Aside0.mk ((z9_55 : gb163 ≠ gb138)); clear HO143; clear HO146; clear HO150; clear HO153; clear HO158; clear HO161; clear BK137; clear BK138; clear HB; have HO143 := n0_; have HO146 := n1_; have HO150 := n2_; have HO153 := n3_; have HO158 := n4_; have HO161 := n5_; have BK137 := n6_; have BK138 := n7_; have HB := n8_; have BK163 := n9_; have GW163 := n10_; have GE163 := n11_; have NB137_163 := n12_; have NB163_137 := n13_; have NB138_163 := n14_; have NB163_138 := n15_; clear n0_ n1_ n2_ n3_ n4_ n5_ n6_ n7_ n8_ n9_ n10_ n11_ n12_ n13_ n14_ n15_; clear hb hbox hg; obtain ⟨Ao128, co128, eo128⟩ := Kd.R_slice HO158.out; subst eo128; have hnb129 := NB163_137.out; have hnc129 := NB137_163.out; have hnb130 := NB163_138.out; have hnc130 := NB138_163.out; have hcz131_0 : w127.cell? ⟨gb163, 0, none⟩ = some (.slice none 0 0) := (blk_cell BK163.out 0).trans rfl; have hcz131_1 : w127.cell? ⟨gb163, 1, none⟩ = some (.slice none 0 0) := (blk_cell BK163.out 1).trans rfl; have hcz131_2 : w127.cell? ⟨gb163, 2, none⟩ = some (.int .i64 0) := (blk_cell BK163.out 2).trans rfl; have hfz131_0 := blk_frozen BK163.out 0; have hfz131_1 := blk_frozen BK163.out 1; have hfz131_2 := blk_frozen BK163.out 2; obtain ⟨Ao132, co132, eo132⟩ := Kd.R_slice HO161.out; subst eo132; have hcz133_0 : w127.cell? ⟨gb138, 0, none⟩ = some (.slice A1_0 l1_0.length c1_0) := (blk_cell BK138.out 0).trans rfl; have hcz133_1 : w127.cell? ⟨gb138, 1, none⟩ = some (.slice A1_1 l1_1.length c1_1) := (blk_cell BK138.out 1).trans rfl; have hcz133_2 : w127.cell? ⟨gb138, 2, none⟩ = some (.int .i64 a1_2) := (blk_cell BK138.out 2).trans rfl; have hfz133_0 := blk_frozen BK138.out 0; have hfz133_1 := blk_frozen BK138.out 1; have hfz133_2 := blk_frozen BK138.out 2) | ((first | ((with_reducible refine gate_callee (f := 44) rfl ?_); refine goesL_ (some 28) rfl rfl Try.func44 z9_29 rfl #[.agg #[.slice A1_0 l1_0.length c1_0, .slice A1_1 l1_1.length c1_1, .int .i64 a1_2]] rfl z9_4 ?_; (with_reducible refine (laws_toRef.calls k _ _ l1_0 _ _ l1_1 a1_2 t164 t167 t170 _ ?side1 ?side2 ?side3 ?side4 A23.out).mono ?_)) | (go_at_call 44; (with_reducible refine (laws_toRef.calls k _ _ l1_0 _ _ l1_1 a1_2 t164 t167 t170 _ ?side1 ?side2 ?side3 ?side4 A23.out).mono ?_))); (case side1 => exact Kd.C_below HR1_0.out z9_2); (case side2 => exact HC1_0.out); (case side3 => exact Kd.C_below HR1_1.out z9_2); (case side4 => exact HC1_1.out); rintro e w134 ⟨v165, v168, rfl, ho0, ho1, hb⟩; (first | refine ⟨_, rfl, ?_⟩ | skip); have n0_ := Aside0.mk (Kd.R_mono (Kd.R_told (Kd.R_told (Kd.R_old z9_41 hb) (Kd.R_base ho0)) (Kd.R_base ho1)) (fun _ h_ => h_.1)); have n1_ := Aside0.mk (Kd.R_mono (Kd.R_told (Kd.R_told (Kd.R_old z9_39 hb) (Kd.R_base ho0)) (Kd.R_base ho1)) (fun _ h_ => h_.1)); have n2_ := Aside0.mk (Kd.R_mono (Kd.R_told (Kd.R_told (Kd.R_old z9_37 hb) (Kd.R_base ho0)) (Kd.R_base ho1)) (fun _ h_ => h_.1)); have n3_ := Aside0.mk (Kd.R_mono (Kd.R_told (Kd.R_told (Kd.R_old z9_35 hb) (Kd.R_base ho0)) (Kd.R_base ho1)) (fun _ h_ => h_.1)); have n4_ := Aside0.mk (Kd.R_mono (Kd.R_told (Kd.R_told (Kd.R_old z9_33 hb) (Kd.R_base ho0)) (Kd.R_base ho1)) (fun _ h_ => h_.1)); have n5_ := Aside0.mk (Kd.R_mono (Kd.R_told (Kd.R_told (Kd.R_old z9_31 hb) (Kd.R_base ho0)) (Kd.R_base ho1)) (fun _ h_ => h_.1)); have n6_ := Aside0.mk (Kd.R_lower (Kd.R_new' (Kd.R_new' (Kd.R_new' (Kd.R_new' (Kd.R_new' (Kd.R_new' ho0 (Kd.R_lt z9_41)) (Kd.R_lt z9_39)) (Kd.R_lt z9_37)) (Kd.R_lt z9_35)) (Kd.R_lt z9_33)) (Kd.R_lt z9_31)) (below_size z9_2)); have n7_ := Aside0.mk (Kd.R_lower (Kd.R_new' (Kd.R_new' (Kd.R_new' (Kd.R_new' (Kd.R_new' (Kd.R_new' ho1 (Kd.R_lt z9_41)) (Kd.R_lt z9_39)) (Kd.R_lt z9_37)) (Kd.R_lt z9_35)) (Kd.R_lt z9_33)) (Kd.R_lt z9_31)) (below_size z9_2)); have n8_ := Aside0.mk (blk_below (g := gb137) (o := .cells #[.slice A0_0 l0_0.length c0_0, .slice A0_1 l0_1.length c0_1, .int .i64 a0_2] 51 (0, 0)) z9_25 hb); have n9_ := Aside0.mk (blk_below (g := gb138) (o := .cells #[.slice A1_0 l1_0.length c1_0, .slice A1_1 l1_1.length c1_1, .int .i64 a1_2] 51 (0, 0)) z9_23 hb); have n10_ := Aside0.mk (blk_below (g := gb163) (o := .cells #[.slice Ao128 t156.length co128, .slice Ao132 t159.length co132, .int .i64 t162] 54 (0, 0)) (by (with_reducible repeat (first | refine blk_drewN ?_ _ | refine blk_drew ?_ | refine blk_alloc ?_ _)); refine blk_put (cs := #[.slice Ao128 t156.length co128, .slice Ao132 t159.length co132, .int .i64 0]) ?_ 2 _ rfl; (with_reducible repeat (first | refine blk_drewN ?_ _ | refine blk_drew ?_ | refine blk_alloc ?_ _)); refine blk_put (cs := #[.slice Ao128 t156.length co128, .slice none 0 0, .int .i64 0]) ?_ 1 _ rfl; (with_reducible repeat (first | refine blk_drewN ?_ _ | refine blk_drew ?_ | refine blk_alloc ?_ _)); refine blk_put (cs := #[.slice none 0 0, .slice none 0 0, .int .i64 0]) ?_ 0 _ rfl; (with_reducible repeat (first | refine blk_drewN ?_ _ | refine blk_drew ?_ | refine blk_alloc ?_ _)); exact BK163.out) hb); have n11_ := Aside0.mk (below_step z9_2 hb); clear HO143; clear HO146; clear HO150; clear HO153; clear HO158; clear HO161; clear BK137; clear BK138; clear BK163; clear HB; have HO143 := n0_; have HO146 := n1_; have HO150 := n2_; have HO153 := n3_; have HO158 := n4_; have HO161 := n5_; have HO166 := n6_; have HO169 := n7_; have BK137 := n8_; have BK138 := n9_; have BK163 := n10_; have HB := n11_; clear n0_ n1_ n2_ n3_ n4_ n5_ n6_ n7_ n8_ n9_ n10_ n11_; (try clear hb); (try clear hb2); (try clear hk); (try clear hi); (try clear ho0); (try clear ho1)) | ((with_reducible refine gate_dst (N := 8) rfl ?_); refine box_event ?hg (N := 8) ?hd (cs := #[.slice none 0 0, .slice none 0 0, .int .i64 0]) (t := 54) ?hr ?_; (case hd => rfl); (case hg => rfl); (case hr => exact z9_58); intro gb171 hg w135 hbox hb; have n0_ := Aside0.mk (Kd.R_below z9_7 hb); have n1_ := Aside0.mk (Kd.R_below z9_6 hb); have n2_ := Aside0.mk (Kd.R_below z9_9 hb); have n3_ := Aside0.mk (Kd.R_below z9_8 hb); have n4_ := Aside0.mk (Kd.R_below z9_14 hb); have n5_ := Aside0.mk (Kd.R_below z9_13 hb); have n6_ := Aside0.mk (Kd.R_below z9_17 hb); have n7_ := Aside0.mk (Kd.R_below z9_16 hb); have n8_ := Aside0.mk (blk_below (g := gb137) (o := .cells #[.slice A0_0 l0_0.length c0_0, .slice A0_1 l0_1.length c0_1, .int .i64 a0_2] 51 (0, 0)) z9_1 hb); have n9_ := Aside0.mk (blk_below (g := gb138) (o := .cells #[.slice A1_0 l1_0.length c1_0, .slice A1_1 l1_1.length c1_1, .int .i64 a1_2] 51 (0, 0)) z9_3 hb); have n10_ := Aside0.mk (blk_below (g := gb163) (o := .cells #[.slice Ao128 t156.length co128, .slice Ao132 t159.length co132, .int .i64 t162] 54 (0, 0)) z9_15 hb); have n11_ := Aside0.mk (below_step z9_2 hb); have n12_ := Aside0.mk (hbox); have n13_ := Aside0.mk ((z9_86 : w.heap.size ≤ gb171)); have n14_ := Aside0.mk ((z9_86 : w.heap.size ≤ gb171)); have n15_ := Aside0.mk ((z9_52 : gb137 ≠ gb171)); have n16_ := Aside0.mk ((z9_53 : gb171 ≠ gb137)); have n17_ := Aside0.mk ((z9_54 : gb138 ≠ gb171)); have n18_ := Aside0.mk ((z9_55 : gb171 ≠ gb138)); have n19_ := Aside0.mk ((by rw [hg]; exact Nat.ne_of_lt (blk_lt (g := gb163) (o := .cells #[.slice Ao128 t156.length co128, .slice Ao132 t159.length co132, .int .i64 t162] 54 (0, 0)) z9_15) : gb163 ≠ gb171)); have n20_ := Aside0.mk ((by rw [hg]; exact Nat.ne_of_gt (blk_lt (g := gb163) (o := .cells #[.slice Ao128 t156.length co128, .slice Ao132 t159.length co132, .int .i64 t162] 54 (0, 0)) z9_15) : gb171 ≠ gb163)); clear HO143; clear HO146; clear HO150; clear HO153; clear HO158; clear HO161; clear HO166; clear HO169; clear BK137; clear BK138; clear BK163; clear HB; have HO143 := n0_; have HO146 := n1_; have HO150 := n2_; have HO153 := n3_; have HO158 := n4_; have HO161 := n5_; have HO166 := n6_; have HO169 := n7_; have BK137 := n8_; have BK138 := n9_; have BK163 := n10_; have HB := n11_; have BK171 := n12_; have GW171 := n13_; have GE171 := n14_; have NB137_171 := n15_; have NB171_137 := n16_; have NB138_171 := n17_; have NB171_138 := n18_; have NB163_171 := n19_; have NB171_163 := n20_; clear n0_ n1_ n2_ n3_ n4_ n5_ n6_ n7_ n8_ n9_ n10_ n11_ n12_ n13_ n14_ n15_ n16_ n17_ n18_ n19_ n20_; clear hb hbox hg; obtain ⟨Ao136, co136, eo136⟩ := Kd.R_slice HO166.out; subst eo136; have hnb137 := NB171_137.out; have hnc137 := NB137_171.out; have hnb138 := NB171_138.out; have hnc138 := NB138_171.out; have hnb139 := NB171_163.out; have hnc139 := NB163_171.out; have hcz140_0 : w135.cell? ⟨gb171, 0, none⟩ = some (.slice none 0 0) := (blk_cell BK171.out 0).trans rfl; have hcz140_1 : w135.cell? ⟨gb171, 1, none⟩ = some (.slice none 0 0) := (blk_cell BK171.out 1).trans rfl; have hcz140_2 : w135.cell? ⟨gb171, 2, none⟩ = some (.int .i64 0) := (blk_cell BK171.out 2).trans rfl; have hfz140_0 := blk_frozen BK171.out 0; have hfz140_1 := blk_frozen BK171.out 1; have hfz140_2 := blk_frozen BK171.out 2; obtain ⟨Ao141, co141, eo141⟩ := Kd.R_slice HO169.out; subst eo141; have hcz142_0 : w135.cell? ⟨gb163, 0, none⟩ = some (.slice Ao128 t156.length co128) := (blk_cell BK163.out 0).trans rfl; have hcz142_1 : w135.cell? ⟨gb163, 1, none⟩ = some (.slice Ao132 t159.length co132) := (blk_cell BK163.out 1).trans rfl; have hcz142_2 : w135.cell? ⟨gb163, 2, none⟩ = some (.int .i64 t162) := (blk_cell BK163.out 2).trans rfl; have hfz142_0 := blk_frozen BK163.out 0; have hfz142_1 := blk_frozen BK163.out 1; have hfz142_2 := blk_frozen BK163.out 2) | ((first | ((with_reducible refine gate_callee (f := 45) rfl ?_); refine goesL_ (some 31) rfl rfl Try.func45 z9_29 rfl #[.agg #[.slice Ao128 t156.length co128, .slice Ao132 t159.length co132, .int .i64 t162], .agg #[.slice Ao136 t164.length co136, .slice Ao141 t167.length co141, .int .i64 t170]] rfl z9_4 ?_; (with_reducible refine (impl_SameRef.calls k _ _ t156 _ _ t159 t162 _ _ t164 _ _ t167 t170 t172 _ ?side1 ?side2 ?side3 ?side4 ?side5 ?side6 ?side7 ?side8 A24.out).mono ?_)) | (go_at_call 45; (with_reducible refine (impl_SameRef.calls k _ _ t156 _ _ t159 t162 _ _ t164 _ _ t167 t170 t172 _ ?side1 ?side2 ?side3 ?side4 ?side5 ?side6 ?side7 ?side8 A24.out).mono ?_))); (case side1 => refine (Kd.R_reads' (e := 3) (base := w.heap.size) (ok := fun k_ => ((((((some k_ ≠ (.slice Ao132 t159.length co132 : Value).ownBlock ∧ some k_ ≠ (.slice Ao120 t141.length co120 : Value).ownBlock) ∧ some k_ ≠ (.slice Ao121 t144.length co121 : Value).ownBlock) ∧ some k_ ≠ (.slice Ao122 t148.length co122 : Value).ownBlock) ∧ some k_ ≠ (.slice Ao123 t151.length co123 : Value).ownBlock) ∧ some k_ ≠ (.slice Ao136 t164.length co136 : Value).ownBlock) ∧ some k_ ≠ (.slice Ao141 t167.length co141 : Value).ownBlock)) (n := t156.length) (c := co128) ?_).2.2; exact z9_70); (case side2 => exact (Kd.R_reads' HO158.out).2.1); (case side3 => refine (Kd.R_reads' (e := 3) (base := w.heap.size) (ok := fun k_ => ((((((some k_ ≠ (.slice Ao128 t156.length co128 : Value).ownBlock ∧ some k_ ≠ (.slice Ao120 t141.length co120 : Value).ownBlock) ∧ some k_ ≠ (.slice Ao121 t144.length co121 : Value).ownBlock) ∧ some k_ ≠ (.slice Ao122 t148.length co122 : Value).ownBlock) ∧ some k_ ≠ (.slice Ao123 t151.length co123 : Value).ownBlock) ∧ some k_ ≠ (.slice Ao136 t164.length co136 : Value).ownBlock) ∧ some k_ ≠ (.slice Ao141 t167.length co141 : Value).ownBlock)) (n := t159.length) (c := co132) ?_).2.2; exact z9_68); (case side4 => exact (Kd.R_reads' HO161.out).2.1); (case side5 => refine (Kd.R_reads' (e := 3) (base := w.heap.size) (ok := fun k_ => ((((((some k_ ≠ (.slice Ao141 t167.length co141 : Value).ownBlock ∧ some k_ ≠ (.slice Ao120 t141.length co120 : Value).ownBlock) ∧ some k_ ≠ (.slice Ao121 t144.length co121 : Value).ownBlock) ∧ some k_ ≠ (.slice Ao122 t148.length co122 : Value).ownBlock) ∧ some k_ ≠ (.slice Ao123 t151.length co123 : Value).ownBlock) ∧ some k_ ≠ (.slice Ao128 t156.length co128 : Value).ownBlock) ∧ some k_ ≠ (.slice Ao132 t159.length co132 : Value).ownBlock)) (n := t164.length) (c := co136) ?_).2.2; exact z9_66); (case side6 => exact (Kd.R_reads' HO166.out).2.1); (case side7 => refine (Kd.R_reads' (e := 3) (base := w.heap.size) (ok := fun k_ => ((((((some k_ ≠ (.slice Ao136 t164.length co136 : Value).ownBlock ∧ some k_ ≠ (.slice Ao120 t141.length co120 : Value).ownBlock) ∧ some k_ ≠ (.slice Ao121 t144.length co121 : Value).ownBlock) ∧ some k_ ≠ (.slice Ao122 t148.length co122 : Value).ownBlock) ∧ some k_ ≠ (.slice Ao123 t151.length co123 : Value).ownBlock) ∧ some k_ ≠ (.slice Ao128 t156.length co128 : Value).ownBlock) ∧ some k_ ≠ (.slice Ao132 t159.length co132 : Value).ownBlock)) (n := t167.length) (c := co141) ?_).2.2; exact z9_64); (case side8 => exact (Kd.R_reads' HO169.out).2.1); rintro e w143 ⟨rfl, hb⟩; (first | refine ⟨_, rfl, ?_⟩ | skip); have n0_ := Aside0.mk (Kd.R_below (by (with_reducible repeat (first | apply Kd.R_alloc | apply Kd.R_drewN | apply Kd.R_drew)); exact (Kd.R_mono (Kd.R_far (p := ⟨gb171, 2, none⟩) (Kd.R_far (p := ⟨gb171, 1, none⟩) (Kd.R_far (p := ⟨gb171, 0, none⟩) (Kd.R_types HO143.out BK171.out z9_85) (fun _ hk => hk.2) (.slice Ao136 t164.length co136)) (fun _ hk => hk.2) (.slice Ao141 t167.length co141)) (fun _ hk => hk.2) (.int .i64 t170)) (fun _ h_ => h_.1))) hb); have n1_ := Aside0.mk (Kd.R_below (by (with_reducible repeat (first | apply Kd.R_alloc | apply Kd.R_drewN | apply Kd.R_drew)); exact (Kd.R_mono (Kd.R_far (p := ⟨gb171, 2, none⟩) (Kd.R_far (p := ⟨gb171, 1, none⟩) (Kd.R_far (p := ⟨gb171, 0, none⟩) (Kd.R_types HO146.out BK171.out z9_85) (fun _ hk => hk.2) (.slice Ao136 t164.length co136)) (fun _ hk => hk.2) (.slice Ao141 t167.length co141)) (fun _ hk => hk.2) (.int .i64 t170)) (fun _ h_ => h_.1))) hb); have n2_ := Aside0.mk (Kd.R_below (by (with_reducible repeat (first | apply Kd.R_alloc | apply Kd.R_drewN | apply Kd.R_drew)); exact (Kd.R_mono (Kd.R_far (p := ⟨gb171, 2, none⟩) (Kd.R_far (p := ⟨gb171, 1, none⟩) (Kd.R_far (p := ⟨gb171, 0, none⟩) (Kd.R_types HO150.out BK171.out z9_85) (fun _ hk => hk.2) (.slice Ao136 t164.length co136)) (fun _ hk => hk.2) (.slice Ao141 t167.length co141)) (fun _ hk => hk.2) (.int .i64 t170)) (fun _ h_ => h_.1))) hb); have n3_ := Aside0.mk (Kd.R_below (by (with_reducible repeat (first | apply Kd.R_alloc | apply Kd.R_drewN | apply Kd.R_drew)); exact (Kd.R_mono (Kd.R_far (p := ⟨gb171, 2, none⟩) (Kd.R_far (p := ⟨gb171, 1, none⟩) (Kd.R_far (p := ⟨gb171, 0, none⟩) (Kd.R_types HO153.out BK171.out z9_85) (fun _ hk => hk.2) (.slice Ao136 t164.length co136)) (fun _ hk => hk.2) (.slice Ao141 t167.length co141)) (fun _ hk => hk.2) (.int .i64 t170)) (fun _ h_ => h_.1))) hb); have n4_ := Aside0.mk (Kd.R_below z9_70 hb); have n5_ := Aside0.mk (Kd.R_below z9_68 hb); have n6_ := Aside0.mk (Kd.R_below z9_66 hb); have n7_ := Aside0.mk (Kd.R_below z9_64 hb); have n8_ := Aside0.mk (blk_below (g := gb137) (o := .cells #[.slice A0_0 l0_0.length c0_0, .slice A0_1 l0_1.length c0_1, .int .i64 a0_2] 51 (0, 0)) z9_24 hb); have n9_ := Aside0.mk (blk_below (g := gb138) (o := .cells #[.slice A1_0 l1_0.length c1_0, .slice A1_1 l1_1.length c1_1, .int .i64 a1_2] 51 (0, 0)) z9_22 hb); have n10_ := Aside0.mk (blk_below (g := gb163) (o := .cells #[.slice Ao128 t156.length co128, .slice Ao132 t159.length co132, .int .i64 t162] 54 (0, 0)) z9_21 hb); have n11_ := Aside0.mk (blk_below (g := gb171) (o := .cells #[.slice Ao136 t164.length co136, .slice Ao141 t167.length co141, .int .i64 t170] 54 (0, 0)) (by (with_reducible repeat (first | refine blk_drewN ?_ _ | refine blk_drew ?_ | refine blk_alloc ?_ _)); refine blk_put (cs := #[.slice Ao136 t164.length co136, .slice Ao141 t167.length co141, .int .i64 0]) ?_ 2 _ rfl; (with_reducible repeat (first | refine blk_drewN ?_ _ | refine blk_drew ?_ | refine blk_alloc ?_ _)); refine blk_put (cs := #[.slice Ao136 t164.length co136, .slice none 0 0, .int .i64 0]) ?_ 1 _ rfl; (with_reducible repeat (first | refine blk_drewN ?_ _ | refine blk_drew ?_ | refine blk_alloc ?_ _)); refine blk_put (cs := #[.slice none 0 0, .slice none 0 0, .int .i64 0]) ?_ 0 _ rfl; (with_reducible repeat (first | refine blk_drewN ?_ _ | refine blk_drew ?_ | refine blk_alloc ?_ _)); exact BK171.out) hb); have n12_ := Aside0.mk (below_step z9_5 hb); clear HO143; clear HO146; clear HO150; clear HO153; clear HO158; clear HO161; clear HO166; clear HO169; clear BK137; clear BK138; clear BK163; clear BK171; clear HB; have HO143 := n0_; have HO146 := n1_; have HO150 := n2_; have HO153 := n3_; have HO158 := n4_; have HO161 := n5_; have HO166 := n6_; have HO169 := n7_; have BK137 := n8_; have BK138 := n9_; have BK163 := n10_; have BK171 := n11_; have HB := n12_; clear n0_ n1_ n2_ n3_ n4_ n5_ n6_ n7_ n8_ n9_ n10_ n11_ n12_; (try clear hb); (try clear hb2); (try clear hk); (try clear hi)))
            have n0_ := Aside0.mk (Kd.R_drew HO143.out)
            have n1_ := Aside0.mk (Kd.R_drew HO146.out)
            have n2_ := Aside0.mk (Kd.R_drew HO150.out)
            have n3_ := Aside0.mk (Kd.R_drew HO153.out)
            have n4_ := Aside0.mk (Kd.R_drew HO158.out)
            have n5_ := Aside0.mk (Kd.R_drew HO161.out)
            have n6_ := Aside0.mk (Kd.R_drew HO166.out)
            have n7_ := Aside0.mk (Kd.R_drew HO169.out)
            have n8_ := Aside0.mk (blk_drew BK137.out)
            have n9_ := Aside0.mk (blk_drew BK138.out)
            have n10_ := Aside0.mk (blk_drew BK163.out)
            have n11_ := Aside0.mk (blk_drew BK171.out)
            have n12_ := Aside0.mk (below_drew1 HB.out)
            clear HO143
            clear HO146
            clear HO150
            clear HO153
            clear HO158
            clear HO161
            clear HO166
            clear HO169
            clear BK137
            clear BK138
            clear BK163
            clear BK171
            clear HB
            have HO143 := n0_
            have HO146 := n1_
            have HO150 := n2_
            have HO153 := n3_
            have HO158 := n4_
            have HO161 := n5_
            have HO166 := n6_
            have HO169 := n7_
            have BK137 := n8_
            have BK138 := n9_
            have BK163 := n10_
            have BK171 := n11_
            have HB := n12_
            clear n0_ n1_ n2_ n3_ n4_ n5_ n6_ n7_ n8_ n9_ n10_ n11_ n12_
            refine start_ (n := 5) (S := fun w' => w'.cell? ⟨gb163, 0, none⟩ = some (.slice Ao128 t156.length co128) ∧ w'.cell? ⟨gb163, 1, none⟩ = some (.slice Ao132 t159.length co132) ∧ w'.cell? ⟨gb163, 2, none⟩ = some (.int .i64 t162) ∧ w'.cell? ⟨gb137, 0, none⟩ = some (.slice A0_0 l0_0.length c0_0) ∧ w'.cell? ⟨gb137, 1, none⟩ = some (.slice A0_1 l0_1.length c0_1) ∧ w'.cell? ⟨gb137, 2, none⟩ = some (.int .i64 a0_2)) (ds := []) #[false, false, false, false, false] z9_29 rfl rfl ⟨(blk_cell BK163.out 0).trans rfl, (blk_cell BK163.out 1).trans rfl, (blk_cell BK163.out 2).trans rfl, (blk_cell BK137.out 0).trans rfl, (blk_cell BK137.out 1).trans rfl, (blk_cell BK137.out 2).trans rfl⟩ (fun hHeld => ?_)
            generalize w143.drew = w144 at HO143 HO146 HO150 HO153 HO158 HO161 HO166 HO169 BK137 BK138 BK163 BK171 HB hHeld ⊢
            refine take_ (i := 0) (N := some 35) (v := ?_) (a' := ?_) #[true, false, false, false, false] rfl rfl z9_29 (fun _ _ _ h => h) (Or.inl ⟨by rfl, ?_⟩) hHeld ?_ ?_
            rotate_left
            · rintro w' ⟨s0, s1, s2, s3, s4, s5⟩
              go_simp
              with_reducible rfl
            rotate_left
            · simp only [Act.put, List.setIfInBounds_toArray, List.set_cons_zero, List.set_cons_succ, i64_w, i32_w]
              rfl
            refine take_ (i := 1) (N := some 36) (v := ?_) (a' := ?_) #[true, true, false, false, false] rfl rfl z9_29 (fun _ _ _ h => h) (Or.inl ⟨by rfl, ?_⟩) hHeld ?_ ?_
            rotate_left
            · rintro w' ⟨s0, s1, s2, s3, s4, s5⟩
              go_simp
              with_reducible rfl
            rotate_left
            · simp only [Act.put, List.setIfInBounds_toArray, List.set_cons_zero, List.set_cons_succ, i64_w, i32_w]
              rfl
            refine one_ (i := 2) (N := some 37) #[true, true, true, false, false] rfl rfl z9_29 z9_85 (fun K hK => ?_)
            refine goes_ Try.func44 z9_29 rfl #[.agg #[.slice A0_0 l0_0.length c0_0, .slice A0_1 l0_1.length c0_1, .int .i64 a0_2]] (by rfl) rfl rfl z9_4 ?_
            with_reducible refine (laws_toRef.calls k _ _ l0_0 _ _ l0_1 a0_2 t173 t176 t179 _ ?side1 ?side2 ?side3 ?side4 A60.out).mono ?_
            (case side1 => exact z9_11)
            (case side2 => exact z9_89)
            (case side3 => exact z9_10)
            (case side4 => exact z9_88)
            rintro e w145 ⟨v174, v177, rfl, ho0, ho1, hb⟩
            refine ⟨_, rfl, ?_⟩
            have n0_ := Aside0.mk (Kd.R_mono (Kd.R_told (Kd.R_told (Kd.R_old z9_7 hb) (Kd.R_base ho0)) (Kd.R_base ho1)) (fun _ h_ => h_.1))
            have n1_ := Aside0.mk (Kd.R_mono (Kd.R_told (Kd.R_told (Kd.R_old z9_6 hb) (Kd.R_base ho0)) (Kd.R_base ho1)) (fun _ h_ => h_.1))
            have n2_ := Aside0.mk (Kd.R_mono (Kd.R_told (Kd.R_told (Kd.R_old z9_9 hb) (Kd.R_base ho0)) (Kd.R_base ho1)) (fun _ h_ => h_.1))
            have n3_ := Aside0.mk (Kd.R_mono (Kd.R_told (Kd.R_told (Kd.R_old z9_8 hb) (Kd.R_base ho0)) (Kd.R_base ho1)) (fun _ h_ => h_.1))
            have n4_ := Aside0.mk (Kd.R_mono (Kd.R_told (Kd.R_told (Kd.R_old z9_14 hb) (Kd.R_base ho0)) (Kd.R_base ho1)) (fun _ h_ => h_.1))
            have n5_ := Aside0.mk (Kd.R_mono (Kd.R_told (Kd.R_told (Kd.R_old z9_13 hb) (Kd.R_base ho0)) (Kd.R_base ho1)) (fun _ h_ => h_.1))
            have n6_ := Aside0.mk (Kd.R_mono (Kd.R_told (Kd.R_told (Kd.R_old z9_17 hb) (Kd.R_base ho0)) (Kd.R_base ho1)) (fun _ h_ => h_.1))
            have n7_ := Aside0.mk (Kd.R_mono (Kd.R_told (Kd.R_told (Kd.R_old z9_16 hb) (Kd.R_base ho0)) (Kd.R_base ho1)) (fun _ h_ => h_.1))
            have n8_ := Aside0.mk (Kd.R_lower (Kd.R_new' (Kd.R_new' (Kd.R_new' (Kd.R_new' (Kd.R_new' (Kd.R_new' (Kd.R_new' (Kd.R_new' ho0 (Kd.R_lt z9_7)) (Kd.R_lt z9_6)) (Kd.R_lt z9_9)) (Kd.R_lt z9_8)) (Kd.R_lt z9_14)) (Kd.R_lt z9_13)) (Kd.R_lt z9_17)) (Kd.R_lt z9_16)) (below_size z9_5))
            have n9_ := Aside0.mk (Kd.R_lower (Kd.R_new' (Kd.R_new' (Kd.R_new' (Kd.R_new' (Kd.R_new' (Kd.R_new' (Kd.R_new' (Kd.R_new' ho1 (Kd.R_lt z9_7)) (Kd.R_lt z9_6)) (Kd.R_lt z9_9)) (Kd.R_lt z9_8)) (Kd.R_lt z9_14)) (Kd.R_lt z9_13)) (Kd.R_lt z9_17)) (Kd.R_lt z9_16)) (below_size z9_5))
            have n10_ := Aside0.mk (blk_below (g := gb137) (o := .cells #[.slice A0_0 l0_0.length c0_0, .slice A0_1 l0_1.length c0_1, .int .i64 a0_2] 51 (0, 0)) z9_1 hb)
            have n11_ := Aside0.mk (blk_below (g := gb138) (o := .cells #[.slice A1_0 l1_0.length c1_0, .slice A1_1 l1_1.length c1_1, .int .i64 a1_2] 51 (0, 0)) z9_3 hb)
            have n12_ := Aside0.mk (blk_below (g := gb163) (o := .cells #[.slice Ao128 t156.length co128, .slice Ao132 t159.length co132, .int .i64 t162] 54 (0, 0)) z9_15 hb)
            have n13_ := Aside0.mk (blk_below (g := gb171) (o := .cells #[.slice Ao136 t164.length co136, .slice Ao141 t167.length co141, .int .i64 t170] 54 (0, 0)) z9_26 hb)
            have n14_ := Aside0.mk (below_step z9_5 hb)
            clear HO143
            clear HO146
            clear HO150
            clear HO153
            clear HO158
            clear HO161
            clear HO166
            clear HO169
            clear BK137
            clear BK138
            clear BK163
            clear BK171
            clear HB
            have HO143 := n0_
            have HO146 := n1_
            have HO150 := n2_
            have HO153 := n3_
            have HO158 := n4_
            have HO161 := n5_
            have HO166 := n6_
            have HO169 := n7_
            have HO175 := n8_
            have HO178 := n9_
            have BK137 := n10_
            have BK138 := n11_
            have BK163 := n12_
            have BK171 := n13_
            have HB := n14_
            clear n0_ n1_ n2_ n3_ n4_ n5_ n6_ n7_ n8_ n9_ n10_ n11_ n12_ n13_ n14_
            (try clear hb)
            (try clear hb2)
            (try clear hk)
            (try clear hi)
            (try clear ho0)
            (try clear ho1)
            obtain ⟨Ao146, co146, eo146⟩ := Kd.R_slice HO175.out
            (first | subst eo146 | (injection eo146 with f1_ f2_ f3_; have f4_ := f1_.symm; have f5_ := f3_.symm; clear f1_ f2_ f3_; subst f4_; subst f5_))
            obtain ⟨Ao147, co147, eo147⟩ := Kd.R_slice HO178.out
            (first | subst eo147 | (injection eo147 with f1_ f2_ f3_; have f4_ := f1_.symm; have f5_ := f3_.symm; clear f1_ f2_ f3_; subst f4_; subst f5_))
            refine hK.out _ _ ⟨(blk_cell BK163.out 0).trans rfl, (blk_cell BK163.out 1).trans rfl, (blk_cell BK163.out 2).trans rfl, (blk_cell BK137.out 0).trans rfl, (blk_cell BK137.out 1).trans rfl, (blk_cell BK137.out 2).trans rfl⟩ (fun hHeld => ?_)
            clear hK K
            refine norm_ (a' := ?_) ?_ ?_
            rotate_left
            · show Act.put _ (some 37) _ = _
              simp only [Act.put, List.setIfInBounds_toArray, List.set_cons_zero, List.set_cons_succ, i64_w, i32_w]
              rfl
            refine one_ (i := 3) (N := some 38) #[true, true, true, true, false] rfl rfl z9_29 z9_85 (fun K hK => ?_)
            refine goes_ Try.func46 z9_29 rfl #[.agg #[.slice Ao128 t156.length co128, .slice Ao132 t159.length co132, .int .i64 t162], .agg #[.slice Ao146 t173.length co146, .slice Ao147 t176.length co147, .int .i64 t179]] (by rfl) rfl rfl z9_4 ?_
            with_reducible refine (laws_eqRef.calls k _ _ t156 _ _ t159 t162 _ _ t173 _ _ t176 t179 true _ ?side1 ?side2 ?side3 ?side4 ?side5 ?side6 ?side7 ?side8 A61.out).mono ?_
            (case side1 => exact z9_82)
            (case side2 => exact (Kd.R_reads' HO158.out).2.1)
            (case side3 => exact z9_81)
            (case side4 => exact (Kd.R_reads' HO161.out).2.1)
            (case side5 => exact z9_80)
            (case side6 => exact (Kd.R_reads' HO175.out).2.1)
            (case side7 => exact z9_79)
            (case side8 => exact (Kd.R_reads' HO178.out).2.1)
            rintro e w148 ⟨rfl, hb⟩
            refine ⟨_, rfl, ?_⟩
            have n0_ := Aside0.mk (Kd.R_below z9_7 hb)
            have n1_ := Aside0.mk (Kd.R_below z9_6 hb)
            have n2_ := Aside0.mk (Kd.R_below z9_9 hb)
            have n3_ := Aside0.mk (Kd.R_below z9_8 hb)
            have n4_ := Aside0.mk (Kd.R_below z9_14 hb)
            have n5_ := Aside0.mk (Kd.R_below z9_13 hb)
            have n6_ := Aside0.mk (Kd.R_below z9_17 hb)
            have n7_ := Aside0.mk (Kd.R_below z9_16 hb)
            have n8_ := Aside0.mk (Kd.R_below z9_28 hb)
            have n9_ := Aside0.mk (Kd.R_below z9_27 hb)
            have n10_ := Aside0.mk (blk_below (g := gb137) (o := .cells #[.slice A0_0 l0_0.length c0_0, .slice A0_1 l0_1.length c0_1, .int .i64 a0_2] 51 (0, 0)) z9_1 hb)
            have n11_ := Aside0.mk (blk_below (g := gb138) (o := .cells #[.slice A1_0 l1_0.length c1_0, .slice A1_1 l1_1.length c1_1, .int .i64 a1_2] 51 (0, 0)) z9_3 hb)
            have n12_ := Aside0.mk (blk_below (g := gb163) (o := .cells #[.slice Ao128 t156.length co128, .slice Ao132 t159.length co132, .int .i64 t162] 54 (0, 0)) z9_15 hb)
            have n13_ := Aside0.mk (blk_below (g := gb171) (o := .cells #[.slice Ao136 t164.length co136, .slice Ao141 t167.length co141, .int .i64 t170] 54 (0, 0)) z9_26 hb)
            have n14_ := Aside0.mk (below_step z9_5 hb)
            clear HO143
            clear HO146
            clear HO150
            clear HO153
            clear HO158
            clear HO161
            clear HO166
            clear HO169
            clear HO175
            clear HO178
            clear BK137
            clear BK138
            clear BK163
            clear BK171
            clear HB
            have HO143 := n0_
            have HO146 := n1_
            have HO150 := n2_
            have HO153 := n3_
            have HO158 := n4_
            have HO161 := n5_
            have HO166 := n6_
            have HO169 := n7_
            have HO175 := n8_
            have HO178 := n9_
            have BK137 := n10_
            have BK138 := n11_
            have BK163 := n12_
            have BK171 := n13_
            have HB := n14_
            clear n0_ n1_ n2_ n3_ n4_ n5_ n6_ n7_ n8_ n9_ n10_ n11_ n12_ n13_ n14_
            (try clear hb)
            (try clear hb2)
            (try clear hk)
            (try clear hi)
            refine hK.out _ _ ⟨(blk_cell BK163.out 0).trans rfl, (blk_cell BK163.out 1).trans rfl, (blk_cell BK163.out 2).trans rfl, (blk_cell BK137.out 0).trans rfl, (blk_cell BK137.out 1).trans rfl, (blk_cell BK137.out 2).trans rfl⟩ (fun hHeld => ?_)
            clear hK K
            refine norm_ (a' := ?_) ?_ ?_
            rotate_left
            · show Act.put _ (some 38) _ = _
              simp only [Act.put, List.setIfInBounds_toArray, List.set_cons_zero, List.set_cons_succ, i64_w, i32_w]
              rfl
            refine pure_ (i := 4) (N := some 39) (v := ?_) (a' := ?_) #[true, true, true, true, true] rfl rfl z9_29 (fun _ _ _ h => h) (Or.inl ⟨by rfl, ?_⟩) ?_ ?_
            rotate_left
            · intro w'
              go_simp
              with_reducible rfl
            rotate_left
            · simp only [Act.put, List.setIfInBounds_toArray, List.set_cons_zero, List.set_cons_succ, i64_w, i32_w]
              rfl
            refine done_ z9_29 ?_
            try go_wp2
            have n0_ := Aside0.mk (Kd.R_drew HO143.out)
            have n1_ := Aside0.mk (Kd.R_drew HO146.out)
            have n2_ := Aside0.mk (Kd.R_drew HO150.out)
            have n3_ := Aside0.mk (Kd.R_drew HO153.out)
            have n4_ := Aside0.mk (Kd.R_drew HO158.out)
            have n5_ := Aside0.mk (Kd.R_drew HO161.out)
            have n6_ := Aside0.mk (Kd.R_drew HO166.out)
            have n7_ := Aside0.mk (Kd.R_drew HO169.out)
            have n8_ := Aside0.mk (Kd.R_drew HO175.out)
            have n9_ := Aside0.mk (Kd.R_drew HO178.out)
            have n10_ := Aside0.mk (blk_drew BK137.out)
            have n11_ := Aside0.mk (blk_drew BK138.out)
            have n12_ := Aside0.mk (blk_drew BK163.out)
            have n13_ := Aside0.mk (blk_drew BK171.out)
            have n14_ := Aside0.mk (below_drew1 HB.out)
            clear HO143
            clear HO146
            clear HO150
            clear HO153
            clear HO158
            clear HO161
            clear HO166
            clear HO169
            clear HO175
            clear HO178
            clear BK137
            clear BK138
            clear BK163
            clear BK171
            clear HB
            have HO143 := n0_
            have HO146 := n1_
            have HO150 := n2_
            have HO153 := n3_
            have HO158 := n4_
            have HO161 := n5_
            have HO166 := n6_
            have HO169 := n7_
            have HO175 := n8_
            have HO178 := n9_
            have BK137 := n10_
            have BK138 := n11_
            have BK163 := n12_
            have BK171 := n13_
            have HB := n14_
            clear n0_ n1_ n2_ n3_ n4_ n5_ n6_ n7_ n8_ n9_ n10_ n11_ n12_ n13_ n14_
            refine start_ (n := 5) (S := fun w' => w'.cell? ⟨gb171, 0, none⟩ = some (.slice Ao136 t164.length co136) ∧ w'.cell? ⟨gb171, 1, none⟩ = some (.slice Ao141 t167.length co141) ∧ w'.cell? ⟨gb171, 2, none⟩ = some (.int .i64 t170) ∧ w'.cell? ⟨gb138, 0, none⟩ = some (.slice A1_0 l1_0.length c1_0) ∧ w'.cell? ⟨gb138, 1, none⟩ = some (.slice A1_1 l1_1.length c1_1) ∧ w'.cell? ⟨gb138, 2, none⟩ = some (.int .i64 a1_2)) (ds := []) #[false, false, false, false, false] z9_29 rfl rfl ⟨(blk_cell BK171.out 0).trans rfl, (blk_cell BK171.out 1).trans rfl, (blk_cell BK171.out 2).trans rfl, (blk_cell BK138.out 0).trans rfl, (blk_cell BK138.out 1).trans rfl, (blk_cell BK138.out 2).trans rfl⟩ (fun hHeld => ?_)
            generalize w148.drew = w149 at HO143 HO146 HO150 HO153 HO158 HO161 HO166 HO169 HO175 HO178 BK137 BK138 BK163 BK171 HB hHeld ⊢
            refine take_ (i := 0) (N := some 40) (v := ?_) (a' := ?_) #[true, false, false, false, false] rfl rfl z9_29 (fun _ _ _ h => h) (Or.inl ⟨by rfl, ?_⟩) hHeld ?_ ?_
            rotate_left
            · rintro w' ⟨s0, s1, s2, s3, s4, s5⟩
              go_simp
              with_reducible rfl
            rotate_left
            · simp only [Act.put, List.setIfInBounds_toArray, List.set_cons_zero, List.set_cons_succ, i64_w, i32_w]
              rfl
            refine take_ (i := 1) (N := some 41) (v := ?_) (a' := ?_) #[true, true, false, false, false] rfl rfl z9_29 (fun _ _ _ h => h) (Or.inl ⟨by rfl, ?_⟩) hHeld ?_ ?_
            rotate_left
            · rintro w' ⟨s0, s1, s2, s3, s4, s5⟩
              go_simp
              with_reducible rfl
            rotate_left
            · simp only [Act.put, List.setIfInBounds_toArray, List.set_cons_zero, List.set_cons_succ, i64_w, i32_w]
              rfl
            refine one_ (i := 2) (N := some 42) #[true, true, true, false, false] rfl rfl z9_29 z9_85 (fun K hK => ?_)
            refine goes_ Try.func44 z9_29 rfl #[.agg #[.slice A1_0 l1_0.length c1_0, .slice A1_1 l1_1.length c1_1, .int .i64 a1_2]] (by rfl) rfl rfl z9_4 ?_
            with_reducible refine (laws_toRef.calls k _ _ l1_0 _ _ l1_1 a1_2 t181 t184 t187 _ ?side1 ?side2 ?side3 ?side4 A63.out).mono ?_
            (case side1 => exact z9_20)
            (case side2 => exact HC1_0.out)
            (case side3 => exact z9_19)
            (case side4 => exact HC1_1.out)
            rintro e w150 ⟨v182, v185, rfl, ho0, ho1, hb⟩
            refine ⟨_, rfl, ?_⟩
            have n0_ := Aside0.mk (Kd.R_mono (Kd.R_told (Kd.R_told (Kd.R_old z9_7 hb) (Kd.R_base ho0)) (Kd.R_base ho1)) (fun _ h_ => h_.1))
            have n1_ := Aside0.mk (Kd.R_mono (Kd.R_told (Kd.R_told (Kd.R_old z9_6 hb) (Kd.R_base ho0)) (Kd.R_base ho1)) (fun _ h_ => h_.1))
            have n2_ := Aside0.mk (Kd.R_mono (Kd.R_told (Kd.R_told (Kd.R_old z9_9 hb) (Kd.R_base ho0)) (Kd.R_base ho1)) (fun _ h_ => h_.1))
            have n3_ := Aside0.mk (Kd.R_mono (Kd.R_told (Kd.R_told (Kd.R_old z9_8 hb) (Kd.R_base ho0)) (Kd.R_base ho1)) (fun _ h_ => h_.1))
            have n4_ := Aside0.mk (Kd.R_mono (Kd.R_told (Kd.R_told (Kd.R_old z9_14 hb) (Kd.R_base ho0)) (Kd.R_base ho1)) (fun _ h_ => h_.1))
            have n5_ := Aside0.mk (Kd.R_mono (Kd.R_told (Kd.R_told (Kd.R_old z9_13 hb) (Kd.R_base ho0)) (Kd.R_base ho1)) (fun _ h_ => h_.1))
            have n6_ := Aside0.mk (Kd.R_mono (Kd.R_told (Kd.R_told (Kd.R_old z9_17 hb) (Kd.R_base ho0)) (Kd.R_base ho1)) (fun _ h_ => h_.1))
            have n7_ := Aside0.mk (Kd.R_mono (Kd.R_told (Kd.R_told (Kd.R_old z9_16 hb) (Kd.R_base ho0)) (Kd.R_base ho1)) (fun _ h_ => h_.1))
            have n8_ := Aside0.mk (Kd.R_mono (Kd.R_told (Kd.R_told (Kd.R_old z9_28 hb) (Kd.R_base ho0)) (Kd.R_base ho1)) (fun _ h_ => h_.1))
            have n9_ := Aside0.mk (Kd.R_mono (Kd.R_told (Kd.R_told (Kd.R_old z9_27 hb) (Kd.R_base ho0)) (Kd.R_base ho1)) (fun _ h_ => h_.1))
            have n10_ := Aside0.mk (Kd.R_lower (Kd.R_new' (Kd.R_new' (Kd.R_new' (Kd.R_new' (Kd.R_new' (Kd.R_new' (Kd.R_new' (Kd.R_new' (Kd.R_new' (Kd.R_new' ho0 (Kd.R_lt z9_7)) (Kd.R_lt z9_6)) (Kd.R_lt z9_9)) (Kd.R_lt z9_8)) (Kd.R_lt z9_14)) (Kd.R_lt z9_13)) (Kd.R_lt z9_17)) (Kd.R_lt z9_16)) (Kd.R_lt z9_28)) (Kd.R_lt z9_27)) (below_size z9_5))
            have n11_ := Aside0.mk (Kd.R_lower (Kd.R_new' (Kd.R_new' (Kd.R_new' (Kd.R_new' (Kd.R_new' (Kd.R_new' (Kd.R_new' (Kd.R_new' (Kd.R_new' (Kd.R_new' ho1 (Kd.R_lt z9_7)) (Kd.R_lt z9_6)) (Kd.R_lt z9_9)) (Kd.R_lt z9_8)) (Kd.R_lt z9_14)) (Kd.R_lt z9_13)) (Kd.R_lt z9_17)) (Kd.R_lt z9_16)) (Kd.R_lt z9_28)) (Kd.R_lt z9_27)) (below_size z9_5))
            have n12_ := Aside0.mk (blk_below (g := gb137) (o := .cells #[.slice A0_0 l0_0.length c0_0, .slice A0_1 l0_1.length c0_1, .int .i64 a0_2] 51 (0, 0)) z9_1 hb)
            have n13_ := Aside0.mk (blk_below (g := gb138) (o := .cells #[.slice A1_0 l1_0.length c1_0, .slice A1_1 l1_1.length c1_1, .int .i64 a1_2] 51 (0, 0)) z9_3 hb)
            have n14_ := Aside0.mk (blk_below (g := gb163) (o := .cells #[.slice Ao128 t156.length co128, .slice Ao132 t159.length co132, .int .i64 t162] 54 (0, 0)) z9_15 hb)
            have n15_ := Aside0.mk (blk_below (g := gb171) (o := .cells #[.slice Ao136 t164.length co136, .slice Ao141 t167.length co141, .int .i64 t170] 54 (0, 0)) z9_26 hb)
            have n16_ := Aside0.mk (below_step z9_5 hb)
            clear HO143
            clear HO146
            clear HO150
            clear HO153
            clear HO158
            clear HO161
            clear HO166
            clear HO169
            clear HO175
            clear HO178
            clear BK137
            clear BK138
            clear BK163
            clear BK171
            clear HB
            have HO143 := n0_
            have HO146 := n1_
            have HO150 := n2_
            have HO153 := n3_
            have HO158 := n4_
            have HO161 := n5_
            have HO166 := n6_
            have HO169 := n7_
            have HO175 := n8_
            have HO178 := n9_
            have HO183 := n10_
            have HO186 := n11_
            have BK137 := n12_
            have BK138 := n13_
            have BK163 := n14_
            have BK171 := n15_
            have HB := n16_
            clear n0_ n1_ n2_ n3_ n4_ n5_ n6_ n7_ n8_ n9_ n10_ n11_ n12_ n13_ n14_ n15_ n16_
            (try clear hb)
            (try clear hb2)
            (try clear hk)
            (try clear hi)
            (try clear ho0)
            (try clear ho1)
            obtain ⟨Ao151, co151, eo151⟩ := Kd.R_slice HO183.out
            (first | subst eo151 | (injection eo151 with f1_ f2_ f3_; have f4_ := f1_.symm; have f5_ := f3_.symm; clear f1_ f2_ f3_; subst f4_; subst f5_))
            obtain ⟨Ao152, co152, eo152⟩ := Kd.R_slice HO186.out
            (first | subst eo152 | (injection eo152 with f1_ f2_ f3_; have f4_ := f1_.symm; have f5_ := f3_.symm; clear f1_ f2_ f3_; subst f4_; subst f5_))
            refine hK.out _ _ ⟨(blk_cell BK171.out 0).trans rfl, (blk_cell BK171.out 1).trans rfl, (blk_cell BK171.out 2).trans rfl, (blk_cell BK138.out 0).trans rfl, (blk_cell BK138.out 1).trans rfl, (blk_cell BK138.out 2).trans rfl⟩ (fun hHeld => ?_)
            clear hK K
            refine norm_ (a' := ?_) ?_ ?_
            rotate_left
            · show Act.put _ (some 42) _ = _
              simp only [Act.put, List.setIfInBounds_toArray, List.set_cons_zero, List.set_cons_succ, i64_w, i32_w]
              rfl
            refine one_ (i := 3) (N := some 43) #[true, true, true, true, false] rfl rfl z9_29 z9_85 (fun K hK => ?_)
            refine goes_ Try.func46 z9_29 rfl #[.agg #[.slice Ao136 t164.length co136, .slice Ao141 t167.length co141, .int .i64 t170], .agg #[.slice Ao151 t181.length co151, .slice Ao152 t184.length co152, .int .i64 t187]] (by rfl) rfl rfl z9_4 ?_
            with_reducible refine (laws_eqRef.calls k _ _ t164 _ _ t167 t170 _ _ t181 _ _ t184 t187 false _ ?side1 ?side2 ?side3 ?side4 ?side5 ?side6 ?side7 ?side8 A64.out).mono ?_
            (case side1 => repeat (first | exact (Kd.R_reads' HO166.out).2.2 | (with_reducible refine Kd.C_alloc ?_ _) | (with_reducible refine Kd.C_drewN ?_ _) | (with_reducible refine Kd.C_drew ?_)))
            (case side2 => exact (Kd.R_reads' HO166.out).2.1)
            (case side3 => repeat (first | exact (Kd.R_reads' HO169.out).2.2 | (with_reducible refine Kd.C_alloc ?_ _) | (with_reducible refine Kd.C_drewN ?_ _) | (with_reducible refine Kd.C_drew ?_)))
            (case side4 => exact (Kd.R_reads' HO169.out).2.1)
            (case side5 => repeat (first | exact (Kd.R_reads' HO183.out).2.2 | (with_reducible refine Kd.C_alloc ?_ _) | (with_reducible refine Kd.C_drewN ?_ _) | (with_reducible refine Kd.C_drew ?_)))
            (case side6 => exact (Kd.R_reads' HO183.out).2.1)
            (case side7 => repeat (first | exact (Kd.R_reads' HO186.out).2.2 | (with_reducible refine Kd.C_alloc ?_ _) | (with_reducible refine Kd.C_drewN ?_ _) | (with_reducible refine Kd.C_drew ?_)))
            (case side8 => exact (Kd.R_reads' HO186.out).2.1)
            rintro e w153 ⟨rfl, hb⟩
            refine ⟨_, rfl, ?_⟩
            have n0_ := Aside0.mk (Kd.R_below z9_7 hb)
            have n1_ := Aside0.mk (Kd.R_below z9_6 hb)
            have n2_ := Aside0.mk (Kd.R_below z9_9 hb)
            have n3_ := Aside0.mk (Kd.R_below z9_8 hb)
            have n4_ := Aside0.mk (Kd.R_below z9_14 hb)
            have n5_ := Aside0.mk (Kd.R_below z9_13 hb)
            have n6_ := Aside0.mk (Kd.R_below z9_17 hb)
            have n7_ := Aside0.mk (Kd.R_below z9_16 hb)
            have n8_ := Aside0.mk (Kd.R_below z9_28 hb)
            have n9_ := Aside0.mk (Kd.R_below z9_27 hb)
            have n10_ := Aside0.mk (Kd.R_below (by (with_reducible repeat (first | apply Kd.R_alloc | apply Kd.R_drewN | apply Kd.R_drew)); exact HO183.out) hb)
            have n11_ := Aside0.mk (Kd.R_below (by (with_reducible repeat (first | apply Kd.R_alloc | apply Kd.R_drewN | apply Kd.R_drew)); exact HO186.out) hb)
            have n12_ := Aside0.mk (blk_below (g := gb137) (o := .cells #[.slice A0_0 l0_0.length c0_0, .slice A0_1 l0_1.length c0_1, .int .i64 a0_2] 51 (0, 0)) z9_1 hb)
            have n13_ := Aside0.mk (blk_below (g := gb138) (o := .cells #[.slice A1_0 l1_0.length c1_0, .slice A1_1 l1_1.length c1_1, .int .i64 a1_2] 51 (0, 0)) z9_3 hb)
            have n14_ := Aside0.mk (blk_below (g := gb163) (o := .cells #[.slice Ao128 t156.length co128, .slice Ao132 t159.length co132, .int .i64 t162] 54 (0, 0)) z9_15 hb)
            have n15_ := Aside0.mk (blk_below (g := gb171) (o := .cells #[.slice Ao136 t164.length co136, .slice Ao141 t167.length co141, .int .i64 t170] 54 (0, 0)) z9_26 hb)
            have n16_ := Aside0.mk (below_step z9_5 hb)
            clear HO143
            clear HO146
            clear HO150
            clear HO153
            clear HO158
            clear HO161
            clear HO166
            clear HO169
            clear HO175
            clear HO178
            clear HO183
            clear HO186
            clear BK137
            clear BK138
            clear BK163
            clear BK171
            clear HB
            have HO143 := n0_
            have HO146 := n1_
            have HO150 := n2_
            have HO153 := n3_
            have HO158 := n4_
            have HO161 := n5_
            have HO166 := n6_
            have HO169 := n7_
            have HO175 := n8_
            have HO178 := n9_
            have HO183 := n10_
            have HO186 := n11_
            have BK137 := n12_
            have BK138 := n13_
            have BK163 := n14_
            have BK171 := n15_
            have HB := n16_
            clear n0_ n1_ n2_ n3_ n4_ n5_ n6_ n7_ n8_ n9_ n10_ n11_ n12_ n13_ n14_ n15_ n16_
            (try clear hb)
            (try clear hb2)
            (try clear hk)
            (try clear hi)
            refine hK.out _ _ ⟨(blk_cell BK171.out 0).trans rfl, (blk_cell BK171.out 1).trans rfl, (blk_cell BK171.out 2).trans rfl, (blk_cell BK138.out 0).trans rfl, (blk_cell BK138.out 1).trans rfl, (blk_cell BK138.out 2).trans rfl⟩ (fun hHeld => ?_)
            clear hK K
            refine norm_ (a' := ?_) ?_ ?_
            rotate_left
            · show Act.put _ (some 43) _ = _
              simp only [Act.put, List.setIfInBounds_toArray, List.set_cons_zero, List.set_cons_succ, i64_w, i32_w]
              rfl
            refine pure_ (i := 4) (N := some 44) (v := ?_) (a' := ?_) #[true, true, true, true, true] rfl rfl z9_29 (fun _ _ _ h => h) (Or.inl ⟨by rfl, ?_⟩) ?_ ?_
            rotate_left
            · intro w'
              go_simp
              with_reducible rfl
            rotate_left
            · simp only [Act.put, List.setIfInBounds_toArray, List.set_cons_zero, List.set_cons_succ, i64_w, i32_w]
              rfl
            refine done_ z9_29 ?_
            try go_wp2
            go_ret
            exact ⟨by first | rfl | (simp [errW_none, errW_some] <;> rfl) | (simp [*, errW_none, errW_some] <;> rfl) | (simp [*, errW_none, errW_some, i64_w]; done), by repeat (first | (with_reducible first | exact HB.out | apply below_alloc | apply pw_below_drewN | apply below_drew1 | refine below_set ?_ GE137.out | refine below_set ?_ GE138.out | refine below_set ?_ GE163.out | refine below_set ?_ GE171.out) | exact HB.out)⟩
        · replace c62 := Bool.eq_false_iff.mpr c62
          subst c62
          have H1 : (some false) = some r := by rw [if_neg (show ¬ (false = true) by decide)] at H; exact H
          clear H
          have H := H1
          clear H1
          obtain rfl := Option.some.inj H
          go_enter Try.func14, Try.ntmps14
          try go_wp2_with (first | ((with_reducible refine gate_dst (N := 2) rfl ?_); refine box_event ?hg (N := 2) ?hd (cs := #[.slice A0_0 l0_0.length c0_0, .slice A0_1 l0_1.length c0_1, .int .i64 a0_2]) (t := 51) ?hr ?_; (case hd => rfl); (case hg => rfl); (case hr => exact z9_58); intro gb137 hg w154 hbox hb; have n0_ := Aside0.mk (below_step z9_18 hb); have n1_ := Aside0.mk (hbox); have n2_ := Aside0.mk ((z9_83 : w.heap.size ≤ gb137)); have n3_ := Aside0.mk ((z9_83 : w.heap.size ≤ gb137)); clear HB; have HB := n0_; have BK137 := n1_; have GW137 := n2_; have GE137 := n3_; clear n0_ n1_ n2_ n3_; clear hb hbox hg) | ((with_reducible refine gate_dst (N := 3) rfl ?_); refine box_event ?hg (N := 3) ?hd (cs := #[.slice A1_0 l1_0.length c1_0, .slice A1_1 l1_1.length c1_1, .int .i64 a1_2]) (t := 51) ?hr ?_; (case hd => rfl); (case hg => rfl); (case hr => exact z9_58); intro gb138 hg w155 hbox hb; have n0_ := Aside0.mk (blk_below (g := gb137) (o := .cells #[.slice A0_0 l0_0.length c0_0, .slice A0_1 l0_1.length c0_1, .int .i64 a0_2] 51 (0, 0)) z9_1 hb); have n1_ := Aside0.mk (below_step z9_12 hb); have n2_ := Aside0.mk (hbox); have n3_ := Aside0.mk ((z9_84 : w.heap.size ≤ gb138)); have n4_ := Aside0.mk ((z9_84 : w.heap.size ≤ gb138)); have n5_ := Aside0.mk ((z9_52 : gb137 ≠ gb138)); have n6_ := Aside0.mk ((z9_53 : gb138 ≠ gb137)); clear BK137; clear HB; have BK137 := n0_; have HB := n1_; have BK138 := n2_; have GW138 := n3_; have GE138 := n4_; have NB137_138 := n5_; have NB138_137 := n6_; clear n0_ n1_ n2_ n3_ n4_ n5_ n6_; clear hb hbox hg; have hnb156 := NB137_138.out; have hnc156 := NB138_137.out; have hcz157_0 : w155.cell? ⟨gb137, 0, none⟩ = some (.slice A0_0 l0_0.length c0_0) := (blk_cell BK137.out 0).trans rfl; have hcz157_1 : w155.cell? ⟨gb137, 1, none⟩ = some (.slice A0_1 l0_1.length c0_1) := (blk_cell BK137.out 1).trans rfl; have hcz157_2 : w155.cell? ⟨gb137, 2, none⟩ = some (.int .i64 a0_2) := (blk_cell BK137.out 2).trans rfl; have hfz157_0 := blk_frozen BK137.out 0; have hfz157_1 := blk_frozen BK137.out 1; have hfz157_2 := blk_frozen BK137.out 2) | ((first | ((with_reducible refine gate_callee (f := 42) rfl ?_); refine goesL_ (some 12) rfl rfl Try.func42 z9_29 rfl #[.agg #[.slice A0_0 l0_0.length c0_0, .slice A0_1 l0_1.length c0_1, .int .i64 a0_2], .int .i64 1048576] rfl z9_4 ?_; (with_reducible refine (laws_szRef.calls _ _ l0_0 _ _ l0_1 a0_2 1048576 t139 _ ?side1 ?side2 ?side3 ?side4 A3.out).mono ?_)) | (go_at_call 42; (with_reducible refine (laws_szRef.calls _ _ l0_0 _ _ l0_1 a0_2 1048576 t139 _ ?side1 ?side2 ?side3 ?side4 A3.out).mono ?_))); (case side1 => exact z9_11); (case side2 => exact z9_89); (case side3 => exact z9_10); (case side4 => exact z9_88); rintro e w158 ⟨rfl, hb⟩; (first | refine ⟨_, rfl, ?_⟩ | skip); have n0_ := Aside0.mk (blk_below (g := gb137) (o := .cells #[.slice A0_0 l0_0.length c0_0, .slice A0_1 l0_1.length c0_1, .int .i64 a0_2] 51 (0, 0)) z9_1 hb); have n1_ := Aside0.mk (blk_below (g := gb138) (o := .cells #[.slice A1_0 l1_0.length c1_0, .slice A1_1 l1_1.length c1_1, .int .i64 a1_2] 51 (0, 0)) z9_3 hb); have n2_ := Aside0.mk (below_step z9_0 hb); clear BK137; clear BK138; clear HB; have BK137 := n0_; have BK138 := n1_; have HB := n2_; clear n0_ n1_ n2_; (try clear hb); (try clear hb2); (try clear hk); (try clear hi); have hcz159_0 : w158.cell? ⟨gb138, 0, none⟩ = some (.slice A1_0 l1_0.length c1_0) := (blk_cell BK138.out 0).trans rfl; have hcz159_1 : w158.cell? ⟨gb138, 1, none⟩ = some (.slice A1_1 l1_1.length c1_1) := (blk_cell BK138.out 1).trans rfl; have hcz159_2 : w158.cell? ⟨gb138, 2, none⟩ = some (.int .i64 a1_2) := (blk_cell BK138.out 2).trans rfl; have hfz159_0 := blk_frozen BK138.out 0; have hfz159_1 := blk_frozen BK138.out 1; have hfz159_2 := blk_frozen BK138.out 2) | ((first | ((with_reducible refine gate_callee (f := 42) rfl ?_); refine goesL_ (some 17) rfl rfl Try.func42 z9_29 rfl #[.agg #[.slice A1_0 l1_0.length c1_0, .slice A1_1 l1_1.length c1_1, .int .i64 a1_2], .int .i64 t139] rfl z9_4 ?_; (with_reducible refine (laws_szRef.calls _ _ l1_0 _ _ l1_1 a1_2 t139 t140 _ ?side1 ?side2 ?side3 ?side4 A10.out).mono ?_)) | (go_at_call 42; (with_reducible refine (laws_szRef.calls _ _ l1_0 _ _ l1_1 a1_2 t139 t140 _ ?side1 ?side2 ?side3 ?side4 A10.out).mono ?_))); (case side1 => exact z9_20); (case side2 => exact HC1_0.out); (case side3 => exact z9_19); (case side4 => exact HC1_1.out); rintro e w160 ⟨rfl, hb⟩; (first | refine ⟨_, rfl, ?_⟩ | skip); have n0_ := Aside0.mk (blk_below (g := gb137) (o := .cells #[.slice A0_0 l0_0.length c0_0, .slice A0_1 l0_1.length c0_1, .int .i64 a0_2] 51 (0, 0)) z9_1 hb); have n1_ := Aside0.mk (blk_below (g := gb138) (o := .cells #[.slice A1_0 l1_0.length c1_0, .slice A1_1 l1_1.length c1_1, .int .i64 a1_2] 51 (0, 0)) z9_3 hb); have n2_ := Aside0.mk (below_step z9_0 hb); clear BK137; clear BK138; clear HB; have BK137 := n0_; have BK138 := n1_; have HB := n2_; clear n0_ n1_ n2_; (try clear hb); (try clear hb2); (try clear hk); (try clear hi)))
          have n0_ := Aside0.mk (blk_drew BK137.out)
          have n1_ := Aside0.mk (blk_drew BK138.out)
          have n2_ := Aside0.mk (below_drew1 HB.out)
          clear BK137
          clear BK138
          clear HB
          have BK137 := n0_
          have BK138 := n1_
          have HB := n2_
          clear n0_ n1_ n2_
          refine start_ (n := 6) (S := fun w' => w'.cell? ⟨gb137, 0, none⟩ = some (.slice A0_0 l0_0.length c0_0) ∧ w'.cell? ⟨gb137, 1, none⟩ = some (.slice A0_1 l0_1.length c0_1) ∧ w'.cell? ⟨gb137, 2, none⟩ = some (.int .i64 a0_2) ∧ w'.cell? ⟨gb138, 0, none⟩ = some (.slice A1_0 l1_0.length c1_0) ∧ w'.cell? ⟨gb138, 1, none⟩ = some (.slice A1_1 l1_1.length c1_1) ∧ w'.cell? ⟨gb138, 2, none⟩ = some (.int .i64 a1_2)) (ds := []) #[false, false, false, false, false, false] z9_29 rfl rfl ⟨(blk_cell BK137.out 0).trans rfl, (blk_cell BK137.out 1).trans rfl, (blk_cell BK137.out 2).trans rfl, (blk_cell BK138.out 0).trans rfl, (blk_cell BK138.out 1).trans rfl, (blk_cell BK138.out 2).trans rfl⟩ (fun hHeld => ?_)
          generalize w160.drew = w161 at BK137 BK138 HB hHeld ⊢
          refine take_ (i := 0) (N := some 20) (v := ?_) (a' := ?_) #[true, false, false, false, false, false] rfl rfl z9_29 (fun _ _ _ h => h) (Or.inl ⟨by rfl, ?_⟩) hHeld ?_ ?_
          rotate_left
          · rintro w' ⟨s0, s1, s2, s3, s4, s5⟩
            go_simp
            with_reducible rfl
          rotate_left
          · simp only [Act.put, List.setIfInBounds_toArray, List.set_cons_zero, List.set_cons_succ, i64_w, i32_w]
            rfl
          refine take_ (i := 2) (N := some 22) (v := ?_) (a' := ?_) #[true, false, true, false, false, false] rfl rfl z9_29 (fun _ _ _ h => h) (Or.inl ⟨by rfl, ?_⟩) hHeld ?_ ?_
          rotate_left
          · rintro w' ⟨s0, s1, s2, s3, s4, s5⟩
            go_simp
            with_reducible rfl
          rotate_left
          · simp only [Act.put, List.setIfInBounds_toArray, List.set_cons_zero, List.set_cons_succ, i64_w, i32_w]
            rfl
          refine one_ (i := 1) (N := some 21) #[true, true, true, false, false, false] rfl rfl z9_29 z9_85 (fun K hK => ?_)
          refine goes_ Try.func44 z9_29 rfl #[.agg #[.slice A0_0 l0_0.length c0_0, .slice A0_1 l0_1.length c0_1, .int .i64 a0_2]] (by rfl) rfl rfl z9_4 ?_
          with_reducible refine (laws_toRef.calls k _ _ l0_0 _ _ l0_1 a0_2 t141 t144 t147 _ ?side1 ?side2 ?side3 ?side4 A19.out).mono ?_
          (case side1 => exact z9_11)
          (case side2 => exact z9_89)
          (case side3 => exact z9_10)
          (case side4 => exact z9_88)
          rintro e w162 ⟨v142, v145, rfl, ho0, ho1, hb⟩
          refine ⟨_, rfl, ?_⟩
          have n0_ := Aside0.mk (Kd.R_lower ho0 (below_size z9_0))
          have n1_ := Aside0.mk (Kd.R_lower ho1 (below_size z9_0))
          have n2_ := Aside0.mk (blk_below (g := gb137) (o := .cells #[.slice A0_0 l0_0.length c0_0, .slice A0_1 l0_1.length c0_1, .int .i64 a0_2] 51 (0, 0)) z9_1 hb)
          have n3_ := Aside0.mk (blk_below (g := gb138) (o := .cells #[.slice A1_0 l1_0.length c1_0, .slice A1_1 l1_1.length c1_1, .int .i64 a1_2] 51 (0, 0)) z9_3 hb)
          have n4_ := Aside0.mk (below_step z9_0 hb)
          clear BK137
          clear BK138
          clear HB
          have HO143 := n0_
          have HO146 := n1_
          have BK137 := n2_
          have BK138 := n3_
          have HB := n4_
          clear n0_ n1_ n2_ n3_ n4_
          (try clear hb)
          (try clear hb2)
          (try clear hk)
          (try clear hi)
          (try clear ho0)
          (try clear ho1)
          refine hK.out _ _ ⟨(blk_cell BK137.out 0).trans rfl, (blk_cell BK137.out 1).trans rfl, (blk_cell BK137.out 2).trans rfl, (blk_cell BK138.out 0).trans rfl, (blk_cell BK138.out 1).trans rfl, (blk_cell BK138.out 2).trans rfl⟩ (fun hHeld => ?_)
          clear hK K
          refine norm_ (a' := ?_) ?_ ?_
          rotate_left
          · show Act.put _ (some 21) _ = _
            simp only [Act.put, List.setIfInBounds_toArray, List.set_cons_zero, List.set_cons_succ, i64_w, i32_w]
            rfl
          refine one_ (i := 3) (N := some 23) #[true, true, true, true, false, false] rfl rfl z9_29 z9_85 (fun K hK => ?_)
          refine goes_ Try.func44 z9_29 rfl #[.agg #[.slice A1_0 l1_0.length c1_0, .slice A1_1 l1_1.length c1_1, .int .i64 a1_2]] (by rfl) rfl rfl z9_4 ?_
          with_reducible refine (laws_toRef.calls k _ _ l1_0 _ _ l1_1 a1_2 t148 t151 t154 _ ?side1 ?side2 ?side3 ?side4 A20.out).mono ?_
          (case side1 => exact z9_20)
          (case side2 => exact HC1_0.out)
          (case side3 => exact z9_19)
          (case side4 => exact HC1_1.out)
          rintro e w163 ⟨v149, v152, rfl, ho0, ho1, hb⟩
          refine ⟨_, rfl, ?_⟩
          have n0_ := Aside0.mk (Kd.R_mono (Kd.R_told (Kd.R_told (Kd.R_old z9_7 hb) (Kd.R_base ho0)) (Kd.R_base ho1)) (fun _ h_ => h_.1))
          have n1_ := Aside0.mk (Kd.R_mono (Kd.R_told (Kd.R_told (Kd.R_old z9_6 hb) (Kd.R_base ho0)) (Kd.R_base ho1)) (fun _ h_ => h_.1))
          have n2_ := Aside0.mk (Kd.R_lower (Kd.R_new' (Kd.R_new' ho0 (Kd.R_lt z9_7)) (Kd.R_lt z9_6)) (below_size z9_0))
          have n3_ := Aside0.mk (Kd.R_lower (Kd.R_new' (Kd.R_new' ho1 (Kd.R_lt z9_7)) (Kd.R_lt z9_6)) (below_size z9_0))
          have n4_ := Aside0.mk (blk_below (g := gb137) (o := .cells #[.slice A0_0 l0_0.length c0_0, .slice A0_1 l0_1.length c0_1, .int .i64 a0_2] 51 (0, 0)) z9_1 hb)
          have n5_ := Aside0.mk (blk_below (g := gb138) (o := .cells #[.slice A1_0 l1_0.length c1_0, .slice A1_1 l1_1.length c1_1, .int .i64 a1_2] 51 (0, 0)) z9_3 hb)
          have n6_ := Aside0.mk (below_step z9_0 hb)
          clear HO143
          clear HO146
          clear BK137
          clear BK138
          clear HB
          have HO143 := n0_
          have HO146 := n1_
          have HO150 := n2_
          have HO153 := n3_
          have BK137 := n4_
          have BK138 := n5_
          have HB := n6_
          clear n0_ n1_ n2_ n3_ n4_ n5_ n6_
          (try clear hb)
          (try clear hb2)
          (try clear hk)
          (try clear hi)
          (try clear ho0)
          (try clear ho1)
          obtain ⟨Ao164, co164, eo164⟩ := Kd.R_slice HO143.out
          (first | subst eo164 | (injection eo164 with f1_ f2_ f3_; have f4_ := f1_.symm; have f5_ := f3_.symm; clear f1_ f2_ f3_; subst f4_; subst f5_))
          obtain ⟨Ao165, co165, eo165⟩ := Kd.R_slice HO146.out
          (first | subst eo165 | (injection eo165 with f1_ f2_ f3_; have f4_ := f1_.symm; have f5_ := f3_.symm; clear f1_ f2_ f3_; subst f4_; subst f5_))
          obtain ⟨Ao166, co166, eo166⟩ := Kd.R_slice HO150.out
          (first | subst eo166 | (injection eo166 with f1_ f2_ f3_; have f4_ := f1_.symm; have f5_ := f3_.symm; clear f1_ f2_ f3_; subst f4_; subst f5_))
          obtain ⟨Ao167, co167, eo167⟩ := Kd.R_slice HO153.out
          (first | subst eo167 | (injection eo167 with f1_ f2_ f3_; have f4_ := f1_.symm; have f5_ := f3_.symm; clear f1_ f2_ f3_; subst f4_; subst f5_))
          refine hK.out _ _ ⟨(blk_cell BK137.out 0).trans rfl, (blk_cell BK137.out 1).trans rfl, (blk_cell BK137.out 2).trans rfl, (blk_cell BK138.out 0).trans rfl, (blk_cell BK138.out 1).trans rfl, (blk_cell BK138.out 2).trans rfl⟩ (fun hHeld => ?_)
          clear hK K
          refine norm_ (a' := ?_) ?_ ?_
          rotate_left
          · show Act.put _ (some 23) _ = _
            simp only [Act.put, List.setIfInBounds_toArray, List.set_cons_zero, List.set_cons_succ, i64_w, i32_w]
            rfl
          refine one_ (i := 4) (N := some 24) #[true, true, true, true, true, false] rfl rfl z9_29 z9_85 (fun K hK => ?_)
          refine goes_ Try.func43 z9_29 rfl #[.agg #[.slice Ao164 t141.length co164, .slice Ao165 t144.length co165, .int .i64 t147], .agg #[.slice Ao166 t148.length co166, .slice Ao167 t151.length co167, .int .i64 t154]] (by rfl) rfl rfl z9_4 ?_
          with_reducible refine (spec_SameRef.calls k _ _ t141 _ _ t144 t147 _ _ t148 _ _ t151 t154 t155 _ ?side1 ?side2 ?side3 ?side4 ?side5 ?side6 ?side7 ?side8 A21.out).mono ?_
          (case side1 => exact z9_62)
          (case side2 => exact (Kd.R_reads' HO143.out).2.1)
          (case side3 => exact z9_61)
          (case side4 => exact (Kd.R_reads' HO146.out).2.1)
          (case side5 => exact z9_60)
          (case side6 => exact (Kd.R_reads' HO150.out).2.1)
          (case side7 => exact z9_59)
          (case side8 => exact (Kd.R_reads' HO153.out).2.1)
          rintro e w168 ⟨rfl, hb⟩
          refine ⟨_, rfl, ?_⟩
          have n0_ := Aside0.mk (Kd.R_below z9_7 hb)
          have n1_ := Aside0.mk (Kd.R_below z9_6 hb)
          have n2_ := Aside0.mk (Kd.R_below z9_9 hb)
          have n3_ := Aside0.mk (Kd.R_below z9_8 hb)
          have n4_ := Aside0.mk (blk_below (g := gb137) (o := .cells #[.slice A0_0 l0_0.length c0_0, .slice A0_1 l0_1.length c0_1, .int .i64 a0_2] 51 (0, 0)) z9_1 hb)
          have n5_ := Aside0.mk (blk_below (g := gb138) (o := .cells #[.slice A1_0 l1_0.length c1_0, .slice A1_1 l1_1.length c1_1, .int .i64 a1_2] 51 (0, 0)) z9_3 hb)
          have n6_ := Aside0.mk (below_step z9_0 hb)
          clear HO143
          clear HO146
          clear HO150
          clear HO153
          clear BK137
          clear BK138
          clear HB
          have HO143 := n0_
          have HO146 := n1_
          have HO150 := n2_
          have HO153 := n3_
          have BK137 := n4_
          have BK138 := n5_
          have HB := n6_
          clear n0_ n1_ n2_ n3_ n4_ n5_ n6_
          (try clear hb)
          (try clear hb2)
          (try clear hk)
          (try clear hi)
          refine hK.out _ _ ⟨(blk_cell BK137.out 0).trans rfl, (blk_cell BK137.out 1).trans rfl, (blk_cell BK137.out 2).trans rfl, (blk_cell BK138.out 0).trans rfl, (blk_cell BK138.out 1).trans rfl, (blk_cell BK138.out 2).trans rfl⟩ (fun hHeld => ?_)
          clear hK K
          refine norm_ (a' := ?_) ?_ ?_
          rotate_left
          · show Act.put _ (some 24) _ = _
            simp only [Act.put, List.setIfInBounds_toArray, List.set_cons_zero, List.set_cons_succ, i64_w, i32_w]
            rfl
          refine pure_ (i := 5) (N := some 6) (v := ?_) (a' := ?_) #[true, true, true, true, true, true] rfl rfl z9_29 (fun _ _ _ h => h) (Or.inl ⟨by rfl, ?_⟩) ?_ ?_
          rotate_left
          · intro w'
            go_simp
            with_reducible rfl
          rotate_left
          · simp only [Act.put, List.setIfInBounds_toArray, List.set_cons_zero, List.set_cons_succ, i64_w, i32_w]
            rfl
          refine done_ z9_29 ?_
          have hcz169_0 : w168.cell? ⟨gb137, 0, none⟩ = some (.slice A0_0 l0_0.length c0_0) := (blk_cell BK137.out 0).trans rfl
          have hcz169_1 : w168.cell? ⟨gb137, 1, none⟩ = some (.slice A0_1 l0_1.length c0_1) := (blk_cell BK137.out 1).trans rfl
          have hcz169_2 : w168.cell? ⟨gb137, 2, none⟩ = some (.int .i64 a0_2) := (blk_cell BK137.out 2).trans rfl
          have hfz169_0 := blk_frozen BK137.out 0
          have hfz169_1 := blk_frozen BK137.out 1
          have hfz169_2 := blk_frozen BK137.out 2
          try go_wp2_with (first | ((first | ((with_reducible refine gate_callee (f := 44) rfl ?_); refine goesL_ (some 26) rfl rfl Try.func44 z9_29 rfl #[.agg #[.slice A0_0 l0_0.length c0_0, .slice A0_1 l0_1.length c0_1, .int .i64 a0_2]] rfl z9_4 ?_; (with_reducible refine (laws_toRef.calls k _ _ l0_0 _ _ l0_1 a0_2 t156 t159 t162 _ ?side1 ?side2 ?side3 ?side4 A22.out).mono ?_)) | (go_at_call 44; (with_reducible refine (laws_toRef.calls k _ _ l0_0 _ _ l0_1 a0_2 t156 t159 t162 _ ?side1 ?side2 ?side3 ?side4 A22.out).mono ?_))); (case side1 => exact z9_11); (case side2 => exact z9_89); (case side3 => exact z9_10); (case side4 => exact z9_88); rintro e w170 ⟨v157, v160, rfl, ho0, ho1, hb⟩; (first | refine ⟨_, rfl, ?_⟩ | skip); have n0_ := Aside0.mk (Kd.R_mono (Kd.R_told (Kd.R_told (Kd.R_old z9_7 hb) (Kd.R_base ho0)) (Kd.R_base ho1)) (fun _ h_ => h_.1)); have n1_ := Aside0.mk (Kd.R_mono (Kd.R_told (Kd.R_told (Kd.R_old z9_6 hb) (Kd.R_base ho0)) (Kd.R_base ho1)) (fun _ h_ => h_.1)); have n2_ := Aside0.mk (Kd.R_mono (Kd.R_told (Kd.R_told (Kd.R_old z9_9 hb) (Kd.R_base ho0)) (Kd.R_base ho1)) (fun _ h_ => h_.1)); have n3_ := Aside0.mk (Kd.R_mono (Kd.R_told (Kd.R_told (Kd.R_old z9_8 hb) (Kd.R_base ho0)) (Kd.R_base ho1)) (fun _ h_ => h_.1)); have n4_ := Aside0.mk (Kd.R_lower (Kd.R_new' (Kd.R_new' (Kd.R_new' (Kd.R_new' ho0 (Kd.R_lt z9_7)) (Kd.R_lt z9_6)) (Kd.R_lt z9_9)) (Kd.R_lt z9_8)) (below_size z9_0)); have n5_ := Aside0.mk (Kd.R_lower (Kd.R_new' (Kd.R_new' (Kd.R_new' (Kd.R_new' ho1 (Kd.R_lt z9_7)) (Kd.R_lt z9_6)) (Kd.R_lt z9_9)) (Kd.R_lt z9_8)) (below_size z9_0)); have n6_ := Aside0.mk (blk_below (g := gb137) (o := .cells #[.slice A0_0 l0_0.length c0_0, .slice A0_1 l0_1.length c0_1, .int .i64 a0_2] 51 (0, 0)) z9_1 hb); have n7_ := Aside0.mk (blk_below (g := gb138) (o := .cells #[.slice A1_0 l1_0.length c1_0, .slice A1_1 l1_1.length c1_1, .int .i64 a1_2] 51 (0, 0)) z9_3 hb); have n8_ := Aside0.mk (below_step z9_0 hb); clear HO143; clear HO146; clear HO150; clear HO153; clear BK137; clear BK138; clear HB; have HO143 := n0_; have HO146 := n1_; have HO150 := n2_; have HO153 := n3_; have HO158 := n4_; have HO161 := n5_; have BK137 := n6_; have BK138 := n7_; have HB := n8_; clear n0_ n1_ n2_ n3_ n4_ n5_ n6_ n7_ n8_; (try clear hb); (try clear hb2); (try clear hk); (try clear hi); (try clear ho0); (try clear ho1)) | ((with_reducible refine gate_dst (N := 7) rfl ?_); refine box_event ?hg (N := 7) ?hd (cs := #[.slice none 0 0, .slice none 0 0, .int .i64 0]) (t := 54) ?hr ?_; (case hd => rfl); (case hg => rfl); (case hr => exact z9_58); intro gb163 hg w171 hbox hb; have n0_ := Aside0.mk (Kd.R_below z9_7 hb); have n1_ := Aside0.mk (Kd.R_below z9_6 hb); have n2_ := Aside0.mk (Kd.R_below z9_9 hb); have n3_ := Aside0.mk (Kd.R_below z9_8 hb); have n4_ := Aside0.mk (Kd.R_below z9_14 hb); have n5_ := Aside0.mk (Kd.R_below z9_13 hb); have n6_ := Aside0.mk (blk_below (g := gb137) (o := .cells #[.slice A0_0 l0_0.length c0_0, .slice A0_1 l0_1.length c0_1, .int .i64 a0_2] 51 (0, 0)) z9_1 hb); have n7_ := Aside0.mk (blk_below (g := gb138) (o := .cells #[.slice A1_0 l1_0.length c1_0, .slice A1_1 l1_1.length c1_1, .int .i64 a1_2] 51 (0, 0)) z9_3 hb); have n8_ := Aside0.mk (below_step z9_0 hb); have n9_ := Aside0.mk (hbox); have n10_ := Aside0.mk ((z9_87 : w.heap.size ≤ gb163)); have n11_ := Aside0.mk ((z9_87 : w.heap.size ≤ gb163)); have n12_ := Aside0.mk ((z9_52 : gb137 ≠ gb163)); have n13_ := Aside0.mk ((z9_53 : gb163 ≠ gb137)); have n14_ := Aside0.mk ((z9_54 : gb138 ≠ gb163)); have n15_ := Aside0.mk ((z9_55 : gb163 ≠ gb138)); clear HO143; clear HO146; clear HO150; clear HO153; clear HO158; clear HO161; clear BK137; clear BK138; clear HB; have HO143 := n0_; have HO146 := n1_; have HO150 := n2_; have HO153 := n3_; have HO158 := n4_; have HO161 := n5_; have BK137 := n6_; have BK138 := n7_; have HB := n8_; have BK163 := n9_; have GW163 := n10_; have GE163 := n11_; have NB137_163 := n12_; have NB163_137 := n13_; have NB138_163 := n14_; have NB163_138 := n15_; clear n0_ n1_ n2_ n3_ n4_ n5_ n6_ n7_ n8_ n9_ n10_ n11_ n12_ n13_ n14_ n15_; clear hb hbox hg; obtain ⟨Ao172, co172, eo172⟩ := Kd.R_slice HO158.out; subst eo172; have hnb173 := NB163_137.out; have hnc173 := NB137_163.out; have hnb174 := NB163_138.out; have hnc174 := NB138_163.out; have hcz175_0 : w171.cell? ⟨gb163, 0, none⟩ = some (.slice none 0 0) := (blk_cell BK163.out 0).trans rfl; have hcz175_1 : w171.cell? ⟨gb163, 1, none⟩ = some (.slice none 0 0) := (blk_cell BK163.out 1).trans rfl; have hcz175_2 : w171.cell? ⟨gb163, 2, none⟩ = some (.int .i64 0) := (blk_cell BK163.out 2).trans rfl; have hfz175_0 := blk_frozen BK163.out 0; have hfz175_1 := blk_frozen BK163.out 1; have hfz175_2 := blk_frozen BK163.out 2; obtain ⟨Ao176, co176, eo176⟩ := Kd.R_slice HO161.out; subst eo176; have hcz177_0 : w171.cell? ⟨gb138, 0, none⟩ = some (.slice A1_0 l1_0.length c1_0) := (blk_cell BK138.out 0).trans rfl; have hcz177_1 : w171.cell? ⟨gb138, 1, none⟩ = some (.slice A1_1 l1_1.length c1_1) := (blk_cell BK138.out 1).trans rfl; have hcz177_2 : w171.cell? ⟨gb138, 2, none⟩ = some (.int .i64 a1_2) := (blk_cell BK138.out 2).trans rfl; have hfz177_0 := blk_frozen BK138.out 0; have hfz177_1 := blk_frozen BK138.out 1; have hfz177_2 := blk_frozen BK138.out 2) | ((first | ((with_reducible refine gate_callee (f := 44) rfl ?_); refine goesL_ (some 28) rfl rfl Try.func44 z9_29 rfl #[.agg #[.slice A1_0 l1_0.length c1_0, .slice A1_1 l1_1.length c1_1, .int .i64 a1_2]] rfl z9_4 ?_; (with_reducible refine (laws_toRef.calls k _ _ l1_0 _ _ l1_1 a1_2 t164 t167 t170 _ ?side1 ?side2 ?side3 ?side4 A23.out).mono ?_)) | (go_at_call 44; (with_reducible refine (laws_toRef.calls k _ _ l1_0 _ _ l1_1 a1_2 t164 t167 t170 _ ?side1 ?side2 ?side3 ?side4 A23.out).mono ?_))); (case side1 => exact Kd.C_below HR1_0.out z9_2); (case side2 => exact HC1_0.out); (case side3 => exact Kd.C_below HR1_1.out z9_2); (case side4 => exact HC1_1.out); rintro e w178 ⟨v165, v168, rfl, ho0, ho1, hb⟩; (first | refine ⟨_, rfl, ?_⟩ | skip); have n0_ := Aside0.mk (Kd.R_mono (Kd.R_told (Kd.R_told (Kd.R_old z9_40 hb) (Kd.R_base ho0)) (Kd.R_base ho1)) (fun _ h_ => h_.1)); have n1_ := Aside0.mk (Kd.R_mono (Kd.R_told (Kd.R_told (Kd.R_old z9_38 hb) (Kd.R_base ho0)) (Kd.R_base ho1)) (fun _ h_ => h_.1)); have n2_ := Aside0.mk (Kd.R_mono (Kd.R_told (Kd.R_told (Kd.R_old z9_36 hb) (Kd.R_base ho0)) (Kd.R_base ho1)) (fun _ h_ => h_.1)); have n3_ := Aside0.mk (Kd.R_mono (Kd.R_told (Kd.R_told (Kd.R_old z9_34 hb) (Kd.R_base ho0)) (Kd.R_base ho1)) (fun _ h_ => h_.1)); have n4_ := Aside0.mk (Kd.R_mono (Kd.R_told (Kd.R_told (Kd.R_old z9_32 hb) (Kd.R_base ho0)) (Kd.R_base ho1)) (fun _ h_ => h_.1)); have n5_ := Aside0.mk (Kd.R_mono (Kd.R_told (Kd.R_told (Kd.R_old z9_30 hb) (Kd.R_base ho0)) (Kd.R_base ho1)) (fun _ h_ => h_.1)); have n6_ := Aside0.mk (Kd.R_lower (Kd.R_new' (Kd.R_new' (Kd.R_new' (Kd.R_new' (Kd.R_new' (Kd.R_new' ho0 (Kd.R_lt z9_40)) (Kd.R_lt z9_38)) (Kd.R_lt z9_36)) (Kd.R_lt z9_34)) (Kd.R_lt z9_32)) (Kd.R_lt z9_30)) (below_size z9_2)); have n7_ := Aside0.mk (Kd.R_lower (Kd.R_new' (Kd.R_new' (Kd.R_new' (Kd.R_new' (Kd.R_new' (Kd.R_new' ho1 (Kd.R_lt z9_40)) (Kd.R_lt z9_38)) (Kd.R_lt z9_36)) (Kd.R_lt z9_34)) (Kd.R_lt z9_32)) (Kd.R_lt z9_30)) (below_size z9_2)); have n8_ := Aside0.mk (blk_below (g := gb137) (o := .cells #[.slice A0_0 l0_0.length c0_0, .slice A0_1 l0_1.length c0_1, .int .i64 a0_2] 51 (0, 0)) z9_25 hb); have n9_ := Aside0.mk (blk_below (g := gb138) (o := .cells #[.slice A1_0 l1_0.length c1_0, .slice A1_1 l1_1.length c1_1, .int .i64 a1_2] 51 (0, 0)) z9_23 hb); have n10_ := Aside0.mk (blk_below (g := gb163) (o := .cells #[.slice Ao172 t156.length co172, .slice Ao176 t159.length co176, .int .i64 t162] 54 (0, 0)) (by (with_reducible repeat (first | refine blk_drewN ?_ _ | refine blk_drew ?_ | refine blk_alloc ?_ _)); refine blk_put (cs := #[.slice Ao172 t156.length co172, .slice Ao176 t159.length co176, .int .i64 0]) ?_ 2 _ rfl; (with_reducible repeat (first | refine blk_drewN ?_ _ | refine blk_drew ?_ | refine blk_alloc ?_ _)); refine blk_put (cs := #[.slice Ao172 t156.length co172, .slice none 0 0, .int .i64 0]) ?_ 1 _ rfl; (with_reducible repeat (first | refine blk_drewN ?_ _ | refine blk_drew ?_ | refine blk_alloc ?_ _)); refine blk_put (cs := #[.slice none 0 0, .slice none 0 0, .int .i64 0]) ?_ 0 _ rfl; (with_reducible repeat (first | refine blk_drewN ?_ _ | refine blk_drew ?_ | refine blk_alloc ?_ _)); exact BK163.out) hb); have n11_ := Aside0.mk (below_step z9_2 hb); clear HO143; clear HO146; clear HO150; clear HO153; clear HO158; clear HO161; clear BK137; clear BK138; clear BK163; clear HB; have HO143 := n0_; have HO146 := n1_; have HO150 := n2_; have HO153 := n3_; have HO158 := n4_; have HO161 := n5_; have HO166 := n6_; have HO169 := n7_; have BK137 := n8_; have BK138 := n9_; have BK163 := n10_; have HB := n11_; clear n0_ n1_ n2_ n3_ n4_ n5_ n6_ n7_ n8_ n9_ n10_ n11_; (try clear hb); (try clear hb2); (try clear hk); (try clear hi); (try clear ho0); (try clear ho1)) | ((with_reducible refine gate_dst (N := 8) rfl ?_); refine box_event ?hg (N := 8) ?hd (cs := #[.slice none 0 0, .slice none 0 0, .int .i64 0]) (t := 54) ?hr ?_; (case hd => rfl); (case hg => rfl); (case hr => exact z9_58); intro gb171 hg w179 hbox hb; have n0_ := Aside0.mk (Kd.R_below z9_7 hb); have n1_ := Aside0.mk (Kd.R_below z9_6 hb); have n2_ := Aside0.mk (Kd.R_below z9_9 hb); have n3_ := Aside0.mk (Kd.R_below z9_8 hb); have n4_ := Aside0.mk (Kd.R_below z9_14 hb); have n5_ := Aside0.mk (Kd.R_below z9_13 hb); have n6_ := Aside0.mk (Kd.R_below z9_17 hb); have n7_ := Aside0.mk (Kd.R_below z9_16 hb); have n8_ := Aside0.mk (blk_below (g := gb137) (o := .cells #[.slice A0_0 l0_0.length c0_0, .slice A0_1 l0_1.length c0_1, .int .i64 a0_2] 51 (0, 0)) z9_1 hb); have n9_ := Aside0.mk (blk_below (g := gb138) (o := .cells #[.slice A1_0 l1_0.length c1_0, .slice A1_1 l1_1.length c1_1, .int .i64 a1_2] 51 (0, 0)) z9_3 hb); have n10_ := Aside0.mk (blk_below (g := gb163) (o := .cells #[.slice Ao172 t156.length co172, .slice Ao176 t159.length co176, .int .i64 t162] 54 (0, 0)) z9_15 hb); have n11_ := Aside0.mk (below_step z9_2 hb); have n12_ := Aside0.mk (hbox); have n13_ := Aside0.mk ((z9_86 : w.heap.size ≤ gb171)); have n14_ := Aside0.mk ((z9_86 : w.heap.size ≤ gb171)); have n15_ := Aside0.mk ((z9_52 : gb137 ≠ gb171)); have n16_ := Aside0.mk ((z9_53 : gb171 ≠ gb137)); have n17_ := Aside0.mk ((z9_54 : gb138 ≠ gb171)); have n18_ := Aside0.mk ((z9_55 : gb171 ≠ gb138)); have n19_ := Aside0.mk ((by rw [hg]; exact Nat.ne_of_lt (blk_lt (g := gb163) (o := .cells #[.slice Ao172 t156.length co172, .slice Ao176 t159.length co176, .int .i64 t162] 54 (0, 0)) z9_15) : gb163 ≠ gb171)); have n20_ := Aside0.mk ((by rw [hg]; exact Nat.ne_of_gt (blk_lt (g := gb163) (o := .cells #[.slice Ao172 t156.length co172, .slice Ao176 t159.length co176, .int .i64 t162] 54 (0, 0)) z9_15) : gb171 ≠ gb163)); clear HO143; clear HO146; clear HO150; clear HO153; clear HO158; clear HO161; clear HO166; clear HO169; clear BK137; clear BK138; clear BK163; clear HB; have HO143 := n0_; have HO146 := n1_; have HO150 := n2_; have HO153 := n3_; have HO158 := n4_; have HO161 := n5_; have HO166 := n6_; have HO169 := n7_; have BK137 := n8_; have BK138 := n9_; have BK163 := n10_; have HB := n11_; have BK171 := n12_; have GW171 := n13_; have GE171 := n14_; have NB137_171 := n15_; have NB171_137 := n16_; have NB138_171 := n17_; have NB171_138 := n18_; have NB163_171 := n19_; have NB171_163 := n20_; clear n0_ n1_ n2_ n3_ n4_ n5_ n6_ n7_ n8_ n9_ n10_ n11_ n12_ n13_ n14_ n15_ n16_ n17_ n18_ n19_ n20_; clear hb hbox hg; obtain ⟨Ao180, co180, eo180⟩ := Kd.R_slice HO166.out; subst eo180; have hnb181 := NB171_137.out; have hnc181 := NB137_171.out; have hnb182 := NB171_138.out; have hnc182 := NB138_171.out; have hnb183 := NB171_163.out; have hnc183 := NB163_171.out; have hcz184_0 : w179.cell? ⟨gb171, 0, none⟩ = some (.slice none 0 0) := (blk_cell BK171.out 0).trans rfl; have hcz184_1 : w179.cell? ⟨gb171, 1, none⟩ = some (.slice none 0 0) := (blk_cell BK171.out 1).trans rfl; have hcz184_2 : w179.cell? ⟨gb171, 2, none⟩ = some (.int .i64 0) := (blk_cell BK171.out 2).trans rfl; have hfz184_0 := blk_frozen BK171.out 0; have hfz184_1 := blk_frozen BK171.out 1; have hfz184_2 := blk_frozen BK171.out 2; obtain ⟨Ao185, co185, eo185⟩ := Kd.R_slice HO169.out; subst eo185; have hcz186_0 : w179.cell? ⟨gb163, 0, none⟩ = some (.slice Ao172 t156.length co172) := (blk_cell BK163.out 0).trans rfl; have hcz186_1 : w179.cell? ⟨gb163, 1, none⟩ = some (.slice Ao176 t159.length co176) := (blk_cell BK163.out 1).trans rfl; have hcz186_2 : w179.cell? ⟨gb163, 2, none⟩ = some (.int .i64 t162) := (blk_cell BK163.out 2).trans rfl; have hfz186_0 := blk_frozen BK163.out 0; have hfz186_1 := blk_frozen BK163.out 1; have hfz186_2 := blk_frozen BK163.out 2) | ((first | ((with_reducible refine gate_callee (f := 45) rfl ?_); refine goesL_ (some 31) rfl rfl Try.func45 z9_29 rfl #[.agg #[.slice Ao172 t156.length co172, .slice Ao176 t159.length co176, .int .i64 t162], .agg #[.slice Ao180 t164.length co180, .slice Ao185 t167.length co185, .int .i64 t170]] rfl z9_4 ?_; (with_reducible refine (impl_SameRef.calls k _ _ t156 _ _ t159 t162 _ _ t164 _ _ t167 t170 t172 _ ?side1 ?side2 ?side3 ?side4 ?side5 ?side6 ?side7 ?side8 A24.out).mono ?_)) | (go_at_call 45; (with_reducible refine (impl_SameRef.calls k _ _ t156 _ _ t159 t162 _ _ t164 _ _ t167 t170 t172 _ ?side1 ?side2 ?side3 ?side4 ?side5 ?side6 ?side7 ?side8 A24.out).mono ?_))); (case side1 => refine (Kd.R_reads' (e := 3) (base := w.heap.size) (ok := fun k_ => ((((((some k_ ≠ (.slice Ao176 t159.length co176 : Value).ownBlock ∧ some k_ ≠ (.slice Ao164 t141.length co164 : Value).ownBlock) ∧ some k_ ≠ (.slice Ao165 t144.length co165 : Value).ownBlock) ∧ some k_ ≠ (.slice Ao166 t148.length co166 : Value).ownBlock) ∧ some k_ ≠ (.slice Ao167 t151.length co167 : Value).ownBlock) ∧ some k_ ≠ (.slice Ao180 t164.length co180 : Value).ownBlock) ∧ some k_ ≠ (.slice Ao185 t167.length co185 : Value).ownBlock)) (n := t156.length) (c := co172) ?_).2.2; exact z9_69); (case side2 => exact (Kd.R_reads' HO158.out).2.1); (case side3 => refine (Kd.R_reads' (e := 3) (base := w.heap.size) (ok := fun k_ => ((((((some k_ ≠ (.slice Ao172 t156.length co172 : Value).ownBlock ∧ some k_ ≠ (.slice Ao164 t141.length co164 : Value).ownBlock) ∧ some k_ ≠ (.slice Ao165 t144.length co165 : Value).ownBlock) ∧ some k_ ≠ (.slice Ao166 t148.length co166 : Value).ownBlock) ∧ some k_ ≠ (.slice Ao167 t151.length co167 : Value).ownBlock) ∧ some k_ ≠ (.slice Ao180 t164.length co180 : Value).ownBlock) ∧ some k_ ≠ (.slice Ao185 t167.length co185 : Value).ownBlock)) (n := t159.length) (c := co176) ?_).2.2; exact z9_67); (case side4 => exact (Kd.R_reads' HO161.out).2.1); (case side5 => refine (Kd.R_reads' (e := 3) (base := w.heap.size) (ok := fun k_ => ((((((some k_ ≠ (.slice Ao185 t167.length co185 : Value).ownBlock ∧ some k_ ≠ (.slice Ao164 t141.length co164 : Value).ownBlock) ∧ some k_ ≠ (.slice Ao165 t144.length co165 : Value).ownBlock) ∧ some k_ ≠ (.slice Ao166 t148.length co166 : Value).ownBlock) ∧ some k_ ≠ (.slice Ao167 t151.length co167 : Value).ownBlock) ∧ some k_ ≠ (.slice Ao172 t156.length co172 : Value).ownBlock) ∧ some k_ ≠ (.slice Ao176 t159.length co176 : Value).ownBlock)) (n := t164.length) (c := co180) ?_).2.2; exact z9_65); (case side6 => exact (Kd.R_reads' HO166.out).2.1); (case side7 => refine (Kd.R_reads' (e := 3) (base := w.heap.size) (ok := fun k_ => ((((((some k_ ≠ (.slice Ao180 t164.length co180 : Value).ownBlock ∧ some k_ ≠ (.slice Ao164 t141.length co164 : Value).ownBlock) ∧ some k_ ≠ (.slice Ao165 t144.length co165 : Value).ownBlock) ∧ some k_ ≠ (.slice Ao166 t148.length co166 : Value).ownBlock) ∧ some k_ ≠ (.slice Ao167 t151.length co167 : Value).ownBlock) ∧ some k_ ≠ (.slice Ao172 t156.length co172 : Value).ownBlock) ∧ some k_ ≠ (.slice Ao176 t159.length co176 : Value).ownBlock)) (n := t167.length) (c := co185) ?_).2.2; exact z9_63); (case side8 => exact (Kd.R_reads' HO169.out).2.1); rintro e w187 ⟨rfl, hb⟩; (first | refine ⟨_, rfl, ?_⟩ | skip); have n0_ := Aside0.mk (Kd.R_below (by (with_reducible repeat (first | apply Kd.R_alloc | apply Kd.R_drewN | apply Kd.R_drew)); exact (Kd.R_mono (Kd.R_far (p := ⟨gb171, 2, none⟩) (Kd.R_far (p := ⟨gb171, 1, none⟩) (Kd.R_far (p := ⟨gb171, 0, none⟩) (Kd.R_types HO143.out BK171.out z9_85) (fun _ hk => hk.2) (.slice Ao180 t164.length co180)) (fun _ hk => hk.2) (.slice Ao185 t167.length co185)) (fun _ hk => hk.2) (.int .i64 t170)) (fun _ h_ => h_.1))) hb); have n1_ := Aside0.mk (Kd.R_below (by (with_reducible repeat (first | apply Kd.R_alloc | apply Kd.R_drewN | apply Kd.R_drew)); exact (Kd.R_mono (Kd.R_far (p := ⟨gb171, 2, none⟩) (Kd.R_far (p := ⟨gb171, 1, none⟩) (Kd.R_far (p := ⟨gb171, 0, none⟩) (Kd.R_types HO146.out BK171.out z9_85) (fun _ hk => hk.2) (.slice Ao180 t164.length co180)) (fun _ hk => hk.2) (.slice Ao185 t167.length co185)) (fun _ hk => hk.2) (.int .i64 t170)) (fun _ h_ => h_.1))) hb); have n2_ := Aside0.mk (Kd.R_below (by (with_reducible repeat (first | apply Kd.R_alloc | apply Kd.R_drewN | apply Kd.R_drew)); exact (Kd.R_mono (Kd.R_far (p := ⟨gb171, 2, none⟩) (Kd.R_far (p := ⟨gb171, 1, none⟩) (Kd.R_far (p := ⟨gb171, 0, none⟩) (Kd.R_types HO150.out BK171.out z9_85) (fun _ hk => hk.2) (.slice Ao180 t164.length co180)) (fun _ hk => hk.2) (.slice Ao185 t167.length co185)) (fun _ hk => hk.2) (.int .i64 t170)) (fun _ h_ => h_.1))) hb); have n3_ := Aside0.mk (Kd.R_below (by (with_reducible repeat (first | apply Kd.R_alloc | apply Kd.R_drewN | apply Kd.R_drew)); exact (Kd.R_mono (Kd.R_far (p := ⟨gb171, 2, none⟩) (Kd.R_far (p := ⟨gb171, 1, none⟩) (Kd.R_far (p := ⟨gb171, 0, none⟩) (Kd.R_types HO153.out BK171.out z9_85) (fun _ hk => hk.2) (.slice Ao180 t164.length co180)) (fun _ hk => hk.2) (.slice Ao185 t167.length co185)) (fun _ hk => hk.2) (.int .i64 t170)) (fun _ h_ => h_.1))) hb); have n4_ := Aside0.mk (Kd.R_below z9_69 hb); have n5_ := Aside0.mk (Kd.R_below z9_67 hb); have n6_ := Aside0.mk (Kd.R_below z9_65 hb); have n7_ := Aside0.mk (Kd.R_below z9_63 hb); have n8_ := Aside0.mk (blk_below (g := gb137) (o := .cells #[.slice A0_0 l0_0.length c0_0, .slice A0_1 l0_1.length c0_1, .int .i64 a0_2] 51 (0, 0)) z9_24 hb); have n9_ := Aside0.mk (blk_below (g := gb138) (o := .cells #[.slice A1_0 l1_0.length c1_0, .slice A1_1 l1_1.length c1_1, .int .i64 a1_2] 51 (0, 0)) z9_22 hb); have n10_ := Aside0.mk (blk_below (g := gb163) (o := .cells #[.slice Ao172 t156.length co172, .slice Ao176 t159.length co176, .int .i64 t162] 54 (0, 0)) z9_21 hb); have n11_ := Aside0.mk (blk_below (g := gb171) (o := .cells #[.slice Ao180 t164.length co180, .slice Ao185 t167.length co185, .int .i64 t170] 54 (0, 0)) (by (with_reducible repeat (first | refine blk_drewN ?_ _ | refine blk_drew ?_ | refine blk_alloc ?_ _)); refine blk_put (cs := #[.slice Ao180 t164.length co180, .slice Ao185 t167.length co185, .int .i64 0]) ?_ 2 _ rfl; (with_reducible repeat (first | refine blk_drewN ?_ _ | refine blk_drew ?_ | refine blk_alloc ?_ _)); refine blk_put (cs := #[.slice Ao180 t164.length co180, .slice none 0 0, .int .i64 0]) ?_ 1 _ rfl; (with_reducible repeat (first | refine blk_drewN ?_ _ | refine blk_drew ?_ | refine blk_alloc ?_ _)); refine blk_put (cs := #[.slice none 0 0, .slice none 0 0, .int .i64 0]) ?_ 0 _ rfl; (with_reducible repeat (first | refine blk_drewN ?_ _ | refine blk_drew ?_ | refine blk_alloc ?_ _)); exact BK171.out) hb); have n12_ := Aside0.mk (below_step z9_5 hb); clear HO143; clear HO146; clear HO150; clear HO153; clear HO158; clear HO161; clear HO166; clear HO169; clear BK137; clear BK138; clear BK163; clear BK171; clear HB; have HO143 := n0_; have HO146 := n1_; have HO150 := n2_; have HO153 := n3_; have HO158 := n4_; have HO161 := n5_; have HO166 := n6_; have HO169 := n7_; have BK137 := n8_; have BK138 := n9_; have BK163 := n10_; have BK171 := n11_; have HB := n12_; clear n0_ n1_ n2_ n3_ n4_ n5_ n6_ n7_ n8_ n9_ n10_ n11_ n12_; (try clear hb); (try clear hb2); (try clear hk); (try clear hi)))
          have n0_ := Aside0.mk (Kd.R_drew HO143.out)
          have n1_ := Aside0.mk (Kd.R_drew HO146.out)
          have n2_ := Aside0.mk (Kd.R_drew HO150.out)
          have n3_ := Aside0.mk (Kd.R_drew HO153.out)
          have n4_ := Aside0.mk (Kd.R_drew HO158.out)
          have n5_ := Aside0.mk (Kd.R_drew HO161.out)
          have n6_ := Aside0.mk (Kd.R_drew HO166.out)
          have n7_ := Aside0.mk (Kd.R_drew HO169.out)
          have n8_ := Aside0.mk (blk_drew BK137.out)
          have n9_ := Aside0.mk (blk_drew BK138.out)
          have n10_ := Aside0.mk (blk_drew BK163.out)
          have n11_ := Aside0.mk (blk_drew BK171.out)
          have n12_ := Aside0.mk (below_drew1 HB.out)
          clear HO143
          clear HO146
          clear HO150
          clear HO153
          clear HO158
          clear HO161
          clear HO166
          clear HO169
          clear BK137
          clear BK138
          clear BK163
          clear BK171
          clear HB
          have HO143 := n0_
          have HO146 := n1_
          have HO150 := n2_
          have HO153 := n3_
          have HO158 := n4_
          have HO161 := n5_
          have HO166 := n6_
          have HO169 := n7_
          have BK137 := n8_
          have BK138 := n9_
          have BK163 := n10_
          have BK171 := n11_
          have HB := n12_
          clear n0_ n1_ n2_ n3_ n4_ n5_ n6_ n7_ n8_ n9_ n10_ n11_ n12_
          refine start_ (n := 5) (S := fun w' => w'.cell? ⟨gb163, 0, none⟩ = some (.slice Ao172 t156.length co172) ∧ w'.cell? ⟨gb163, 1, none⟩ = some (.slice Ao176 t159.length co176) ∧ w'.cell? ⟨gb163, 2, none⟩ = some (.int .i64 t162) ∧ w'.cell? ⟨gb137, 0, none⟩ = some (.slice A0_0 l0_0.length c0_0) ∧ w'.cell? ⟨gb137, 1, none⟩ = some (.slice A0_1 l0_1.length c0_1) ∧ w'.cell? ⟨gb137, 2, none⟩ = some (.int .i64 a0_2)) (ds := []) #[false, false, false, false, false] z9_29 rfl rfl ⟨(blk_cell BK163.out 0).trans rfl, (blk_cell BK163.out 1).trans rfl, (blk_cell BK163.out 2).trans rfl, (blk_cell BK137.out 0).trans rfl, (blk_cell BK137.out 1).trans rfl, (blk_cell BK137.out 2).trans rfl⟩ (fun hHeld => ?_)
          generalize w187.drew = w188 at HO143 HO146 HO150 HO153 HO158 HO161 HO166 HO169 BK137 BK138 BK163 BK171 HB hHeld ⊢
          refine take_ (i := 0) (N := some 35) (v := ?_) (a' := ?_) #[true, false, false, false, false] rfl rfl z9_29 (fun _ _ _ h => h) (Or.inl ⟨by rfl, ?_⟩) hHeld ?_ ?_
          rotate_left
          · rintro w' ⟨s0, s1, s2, s3, s4, s5⟩
            go_simp
            with_reducible rfl
          rotate_left
          · simp only [Act.put, List.setIfInBounds_toArray, List.set_cons_zero, List.set_cons_succ, i64_w, i32_w]
            rfl
          refine take_ (i := 1) (N := some 36) (v := ?_) (a' := ?_) #[true, true, false, false, false] rfl rfl z9_29 (fun _ _ _ h => h) (Or.inl ⟨by rfl, ?_⟩) hHeld ?_ ?_
          rotate_left
          · rintro w' ⟨s0, s1, s2, s3, s4, s5⟩
            go_simp
            with_reducible rfl
          rotate_left
          · simp only [Act.put, List.setIfInBounds_toArray, List.set_cons_zero, List.set_cons_succ, i64_w, i32_w]
            rfl
          refine one_ (i := 2) (N := some 37) #[true, true, true, false, false] rfl rfl z9_29 z9_85 (fun K hK => ?_)
          refine goes_ Try.func44 z9_29 rfl #[.agg #[.slice A0_0 l0_0.length c0_0, .slice A0_1 l0_1.length c0_1, .int .i64 a0_2]] (by rfl) rfl rfl z9_4 ?_
          with_reducible refine (laws_toRef.calls k _ _ l0_0 _ _ l0_1 a0_2 t173 t176 t179 _ ?side1 ?side2 ?side3 ?side4 A60.out).mono ?_
          (case side1 => exact z9_11)
          (case side2 => exact z9_89)
          (case side3 => exact z9_10)
          (case side4 => exact z9_88)
          rintro e w189 ⟨v174, v177, rfl, ho0, ho1, hb⟩
          refine ⟨_, rfl, ?_⟩
          have n0_ := Aside0.mk (Kd.R_mono (Kd.R_told (Kd.R_told (Kd.R_old z9_7 hb) (Kd.R_base ho0)) (Kd.R_base ho1)) (fun _ h_ => h_.1))
          have n1_ := Aside0.mk (Kd.R_mono (Kd.R_told (Kd.R_told (Kd.R_old z9_6 hb) (Kd.R_base ho0)) (Kd.R_base ho1)) (fun _ h_ => h_.1))
          have n2_ := Aside0.mk (Kd.R_mono (Kd.R_told (Kd.R_told (Kd.R_old z9_9 hb) (Kd.R_base ho0)) (Kd.R_base ho1)) (fun _ h_ => h_.1))
          have n3_ := Aside0.mk (Kd.R_mono (Kd.R_told (Kd.R_told (Kd.R_old z9_8 hb) (Kd.R_base ho0)) (Kd.R_base ho1)) (fun _ h_ => h_.1))
          have n4_ := Aside0.mk (Kd.R_mono (Kd.R_told (Kd.R_told (Kd.R_old z9_14 hb) (Kd.R_base ho0)) (Kd.R_base ho1)) (fun _ h_ => h_.1))
          have n5_ := Aside0.mk (Kd.R_mono (Kd.R_told (Kd.R_told (Kd.R_old z9_13 hb) (Kd.R_base ho0)) (Kd.R_base ho1)) (fun _ h_ => h_.1))
          have n6_ := Aside0.mk (Kd.R_mono (Kd.R_told (Kd.R_told (Kd.R_old z9_17 hb) (Kd.R_base ho0)) (Kd.R_base ho1)) (fun _ h_ => h_.1))
          have n7_ := Aside0.mk (Kd.R_mono (Kd.R_told (Kd.R_told (Kd.R_old z9_16 hb) (Kd.R_base ho0)) (Kd.R_base ho1)) (fun _ h_ => h_.1))
          have n8_ := Aside0.mk (Kd.R_lower (Kd.R_new' (Kd.R_new' (Kd.R_new' (Kd.R_new' (Kd.R_new' (Kd.R_new' (Kd.R_new' (Kd.R_new' ho0 (Kd.R_lt z9_7)) (Kd.R_lt z9_6)) (Kd.R_lt z9_9)) (Kd.R_lt z9_8)) (Kd.R_lt z9_14)) (Kd.R_lt z9_13)) (Kd.R_lt z9_17)) (Kd.R_lt z9_16)) (below_size z9_5))
          have n9_ := Aside0.mk (Kd.R_lower (Kd.R_new' (Kd.R_new' (Kd.R_new' (Kd.R_new' (Kd.R_new' (Kd.R_new' (Kd.R_new' (Kd.R_new' ho1 (Kd.R_lt z9_7)) (Kd.R_lt z9_6)) (Kd.R_lt z9_9)) (Kd.R_lt z9_8)) (Kd.R_lt z9_14)) (Kd.R_lt z9_13)) (Kd.R_lt z9_17)) (Kd.R_lt z9_16)) (below_size z9_5))
          have n10_ := Aside0.mk (blk_below (g := gb137) (o := .cells #[.slice A0_0 l0_0.length c0_0, .slice A0_1 l0_1.length c0_1, .int .i64 a0_2] 51 (0, 0)) z9_1 hb)
          have n11_ := Aside0.mk (blk_below (g := gb138) (o := .cells #[.slice A1_0 l1_0.length c1_0, .slice A1_1 l1_1.length c1_1, .int .i64 a1_2] 51 (0, 0)) z9_3 hb)
          have n12_ := Aside0.mk (blk_below (g := gb163) (o := .cells #[.slice Ao172 t156.length co172, .slice Ao176 t159.length co176, .int .i64 t162] 54 (0, 0)) z9_15 hb)
          have n13_ := Aside0.mk (blk_below (g := gb171) (o := .cells #[.slice Ao180 t164.length co180, .slice Ao185 t167.length co185, .int .i64 t170] 54 (0, 0)) z9_26 hb)
          have n14_ := Aside0.mk (below_step z9_5 hb)
          clear HO143
          clear HO146
          clear HO150
          clear HO153
          clear HO158
          clear HO161
          clear HO166
          clear HO169
          clear BK137
          clear BK138
          clear BK163
          clear BK171
          clear HB
          have HO143 := n0_
          have HO146 := n1_
          have HO150 := n2_
          have HO153 := n3_
          have HO158 := n4_
          have HO161 := n5_
          have HO166 := n6_
          have HO169 := n7_
          have HO175 := n8_
          have HO178 := n9_
          have BK137 := n10_
          have BK138 := n11_
          have BK163 := n12_
          have BK171 := n13_
          have HB := n14_
          clear n0_ n1_ n2_ n3_ n4_ n5_ n6_ n7_ n8_ n9_ n10_ n11_ n12_ n13_ n14_
          (try clear hb)
          (try clear hb2)
          (try clear hk)
          (try clear hi)
          (try clear ho0)
          (try clear ho1)
          obtain ⟨Ao190, co190, eo190⟩ := Kd.R_slice HO175.out
          (first | subst eo190 | (injection eo190 with f1_ f2_ f3_; have f4_ := f1_.symm; have f5_ := f3_.symm; clear f1_ f2_ f3_; subst f4_; subst f5_))
          obtain ⟨Ao191, co191, eo191⟩ := Kd.R_slice HO178.out
          (first | subst eo191 | (injection eo191 with f1_ f2_ f3_; have f4_ := f1_.symm; have f5_ := f3_.symm; clear f1_ f2_ f3_; subst f4_; subst f5_))
          refine hK.out _ _ ⟨(blk_cell BK163.out 0).trans rfl, (blk_cell BK163.out 1).trans rfl, (blk_cell BK163.out 2).trans rfl, (blk_cell BK137.out 0).trans rfl, (blk_cell BK137.out 1).trans rfl, (blk_cell BK137.out 2).trans rfl⟩ (fun hHeld => ?_)
          clear hK K
          refine norm_ (a' := ?_) ?_ ?_
          rotate_left
          · show Act.put _ (some 37) _ = _
            simp only [Act.put, List.setIfInBounds_toArray, List.set_cons_zero, List.set_cons_succ, i64_w, i32_w]
            rfl
          refine one_ (i := 3) (N := some 38) #[true, true, true, true, false] rfl rfl z9_29 z9_85 (fun K hK => ?_)
          refine goes_ Try.func46 z9_29 rfl #[.agg #[.slice Ao172 t156.length co172, .slice Ao176 t159.length co176, .int .i64 t162], .agg #[.slice Ao190 t173.length co190, .slice Ao191 t176.length co191, .int .i64 t179]] (by rfl) rfl rfl z9_4 ?_
          with_reducible refine (laws_eqRef.calls k _ _ t156 _ _ t159 t162 _ _ t173 _ _ t176 t179 false _ ?side1 ?side2 ?side3 ?side4 ?side5 ?side6 ?side7 ?side8 A61.out).mono ?_
          (case side1 => exact z9_82)
          (case side2 => exact (Kd.R_reads' HO158.out).2.1)
          (case side3 => exact z9_81)
          (case side4 => exact (Kd.R_reads' HO161.out).2.1)
          (case side5 => exact z9_80)
          (case side6 => exact (Kd.R_reads' HO175.out).2.1)
          (case side7 => exact z9_79)
          (case side8 => exact (Kd.R_reads' HO178.out).2.1)
          rintro e w192 ⟨rfl, hb⟩
          refine ⟨_, rfl, ?_⟩
          have n0_ := Aside0.mk (Kd.R_below z9_7 hb)
          have n1_ := Aside0.mk (Kd.R_below z9_6 hb)
          have n2_ := Aside0.mk (Kd.R_below z9_9 hb)
          have n3_ := Aside0.mk (Kd.R_below z9_8 hb)
          have n4_ := Aside0.mk (Kd.R_below z9_14 hb)
          have n5_ := Aside0.mk (Kd.R_below z9_13 hb)
          have n6_ := Aside0.mk (Kd.R_below z9_17 hb)
          have n7_ := Aside0.mk (Kd.R_below z9_16 hb)
          have n8_ := Aside0.mk (Kd.R_below z9_28 hb)
          have n9_ := Aside0.mk (Kd.R_below z9_27 hb)
          have n10_ := Aside0.mk (blk_below (g := gb137) (o := .cells #[.slice A0_0 l0_0.length c0_0, .slice A0_1 l0_1.length c0_1, .int .i64 a0_2] 51 (0, 0)) z9_1 hb)
          have n11_ := Aside0.mk (blk_below (g := gb138) (o := .cells #[.slice A1_0 l1_0.length c1_0, .slice A1_1 l1_1.length c1_1, .int .i64 a1_2] 51 (0, 0)) z9_3 hb)
          have n12_ := Aside0.mk (blk_below (g := gb163) (o := .cells #[.slice Ao172 t156.length co172, .slice Ao176 t159.length co176, .int .i64 t162] 54 (0, 0)) z9_15 hb)
          have n13_ := Aside0.mk (blk_below (g := gb171) (o := .cells #[.slice Ao180 t164.length co180, .slice Ao185 t167.length co185, .int .i64 t170] 54 (0, 0)) z9_26 hb)
          have n14_ := Aside0.mk (below_step z9_5 hb)
          clear HO143
          clear HO146
          clear HO150
          clear HO153
          clear HO158
          clear HO161
          clear HO166
          clear HO169
          clear HO175
          clear HO178
          clear BK137
          clear BK138
          clear BK163
          clear BK171
          clear HB
          have HO143 := n0_
          have HO146 := n1_
          have HO150 := n2_
          have HO153 := n3_
          have HO158 := n4_
          have HO161 := n5_
          have HO166 := n6_
          have HO169 := n7_
          have HO175 := n8_
          have HO178 := n9_
          have BK137 := n10_
          have BK138 := n11_
          have BK163 := n12_
          have BK171 := n13_
          have HB := n14_
          clear n0_ n1_ n2_ n3_ n4_ n5_ n6_ n7_ n8_ n9_ n10_ n11_ n12_ n13_ n14_
          (try clear hb)
          (try clear hb2)
          (try clear hk)
          (try clear hi)
          refine hK.out _ _ ⟨(blk_cell BK163.out 0).trans rfl, (blk_cell BK163.out 1).trans rfl, (blk_cell BK163.out 2).trans rfl, (blk_cell BK137.out 0).trans rfl, (blk_cell BK137.out 1).trans rfl, (blk_cell BK137.out 2).trans rfl⟩ (fun hHeld => ?_)
          clear hK K
          refine norm_ (a' := ?_) ?_ ?_
          rotate_left
          · show Act.put _ (some 38) _ = _
            simp only [Act.put, List.setIfInBounds_toArray, List.set_cons_zero, List.set_cons_succ, i64_w, i32_w]
            rfl
          refine pure_ (i := 4) (N := some 39) (v := ?_) (a' := ?_) #[true, true, true, true, true] rfl rfl z9_29 (fun _ _ _ h => h) (Or.inl ⟨by rfl, ?_⟩) ?_ ?_
          rotate_left
          · intro w'
            go_simp
            with_reducible rfl
          rotate_left
          · simp only [Act.put, List.setIfInBounds_toArray, List.set_cons_zero, List.set_cons_succ, i64_w, i32_w]
            rfl
          refine done_ z9_29 ?_
          try go_wp2
          go_ret
          exact ⟨by first | rfl | (simp [errW_none, errW_some] <;> rfl) | (simp [*, errW_none, errW_some] <;> rfl) | (simp [*, errW_none, errW_some, i64_w]; done), by repeat (first | (with_reducible first | exact HB.out | apply below_alloc | apply pw_below_drewN | apply below_drew1 | refine below_set ?_ GE137.out | refine below_set ?_ GE138.out | refine below_set ?_ GE163.out | refine below_set ?_ GE171.out) | exact HB.out)⟩

/-- THE ONE PURE STATEMENT of laws_FnExactSameRef. -/
def laws_FnExactSameRef.Pure : Prop := ∀ (x0 : S51) (x1 : S51), gd51 x0 → gd51 x1 → ∃ k, laws_FnExactSameRef.f k x0.f0 x0.f1 x0.f2 x1.f0 x1.f1 x1.f2 = some true
theorem laws_FnExactSameRef.walk (P : laws_FnExactSameRef.Pure) (x0 : S51) (c0 : Array Value) (x1 : S51) (c1 : Array Value) (w : World) (K0 : k51.K w x0 c0.toList) (G0 : gd51 x0) (K1 : k51.K w x1 c1.toList) (G1 : gd51 x1) :
    Calls Try.prog 14 #[.agg c0, .agg c1] w fun e w' => e = .returned (.bool true) ∧ Below w.heap.size w w' := by
  obtain ⟨A0_0, c0_0, A0_1, c0_1, e0, l0_0, g0_0, l0_1, g0_1⟩ := k51_open K0
  have e0' : c0 = #[.slice A0_0 x0.f0.length c0_0, .slice A0_1 x0.f1.length c0_1, .int .i64 x0.f2] := by rw [← Array.toList_inj]; exact e0
  subst e0'
  obtain ⟨A1_0, c1_0, A1_1, c1_1, e1, l1_0, g1_0, l1_1, g1_1⟩ := k51_open K1
  have e1' : c1 = #[.slice A1_0 x1.f0.length c1_0, .slice A1_1 x1.f1.length c1_1, .int .i64 x1.f2] := by rw [← Array.toList_inj]; exact e1
  subst e1'
  obtain ⟨k, h⟩ := P x0 x1 G0 G1
  refine (laws_FnExactSameRef.calls k _ _ x0.f0 _ _ x0.f1 x0.f2 _ _ x1.f0 _ _ x1.f1 x1.f2 true w g0_0 l0_0 g0_1 l0_1 g1_0 l1_0 g1_1 l1_1 h).mono ?_
  rintro e w' ⟨rfl, hd⟩
  exact ⟨rfl, hd⟩

end Go.Proofs.Ytonibkcjccloiaa.G
