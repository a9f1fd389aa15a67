/- Functions of the program as plain Lean functions, and that each call comes to its function's answer; written by a program of the session. No condition. -/
import Derived.Test.YtchbedkcfphlfaaGx0
import Derived.Test.YtchbedkcfphlfaaGx8
import Derived.Test.YtchbedkcfphlfaaGx11
import Derived.Test.YtchbedkcfphlfaaGx12
import Derived.Test.YtchbedkcfphlfaaGx19
import Derived.Test.YtchbedkcfphlfaaGx20
import Derived.Test.YtchbedkcfphlfaaGx21
import Derived.Test.YtchbedkcfphlfaaGx22
import Derived.Test.YtchbedkcfphlfaaGx25
import Derived.Test.YtchbedkcfphlfaaGx26
namespace Go.Proofs.Ytchbedkcfphlfaa.G
open Go.RowKit Go.Proofs.YtchbedkcfphlfaaW.PrintWords Go.Proofs.YtchbedkcfphlfaaW.PrintLast Go.Proofs.YtchbedkcfphlfaaW.PrintMore
attribute [local go_sem] max2_int min2_int max_two min_two max_three min_three max_four min_four   -- for this text's walks alone
set_option linter.unusedVariables false
set_option linter.unusedSimpArgs false

theorem z27_0 {P : Prop} (h : P := by repeat (first | (with_reducible first | exact HB.out | apply below_alloc | apply pw_below_drewN | apply below_drew1 | refine below_set ?_ GE321.out | refine below_set ?_ GE338.out) | exact HB.out)) : P := h
theorem z27_1 {P : Prop} (h : P := by repeat (first | (with_reducible first | exact HB.out | apply below_alloc | apply pw_below_drewN | apply below_drew1 | refine below_set ?_ GE321.out) | exact HB.out)) : P := h
theorem z27_2 {P : Prop} (h : P := by (try simp only [List.map_toArray, List.map_cons, List.map_nil]); first | done | rfl | (simp only [List.length_drop, List.length_take]; rfl)) : P := h
theorem z27_3 {P : Prop} (h : P := by (with_reducible repeat (first | refine blk_drewN ?_ _ | refine blk_drew ?_ | refine blk_alloc ?_ _)); exact BK321.out) : P := h
theorem z27_4 {P : Prop} (h : P := by (with_reducible repeat (first | refine blk_drewN ?_ _ | refine blk_drew ?_ | refine blk_alloc ?_ _)); exact BK338.out) : P := h
theorem z27_5 {P : Prop} (h : P := by (with_reducible repeat (first | apply Kd.R_alloc | apply Kd.R_drewN | apply Kd.R_drew)); exact HO328.out) : P := h
theorem z27_6 {P : Prop} (h : P := by (with_reducible repeat (first | apply Kd.R_alloc | apply Kd.R_drewN | apply Kd.R_drew)); exact HO325.out) : P := h
theorem z27_7 {P : Prop} (h : P := by repeat (first | exact (Kd.C_below HR0_1.out HB.out) | (with_reducible refine Kd.C_alloc ?_ _) | (with_reducible refine Kd.C_drewN ?_ _) | (with_reducible refine Kd.C_drew ?_))) : P := h
theorem z27_8 {P : Prop} (h : P := by repeat (first | exact (Kd.C_below HR0_0.out HB.out) | (with_reducible refine Kd.C_alloc ?_ _) | (with_reducible refine Kd.C_drewN ?_ _) | (with_reducible refine Kd.C_drew ?_))) : P := h
theorem z27_9 {P : Prop} (h : P := by (try simp only [List.map_toArray, List.map_cons, List.map_nil]); first | done | (rw [show t355.length = t339.length from (Kd.R_reads' HO_6.out).1.symm] <;> rfl) | rfl | (simp only [List.length_drop, List.length_take]; rfl)) : P := h
theorem z27_10 {P : Prop} (h : P := by (with_reducible repeat (first | apply Kd.R_alloc | apply Kd.R_drewN | apply Kd.R_drew)); exact HO_339001.out) : P := h
theorem z27_11 {P : Prop} (h : P := by (with_reducible repeat (first | apply Kd.R_alloc | apply Kd.R_drewN | apply Kd.R_drew)); exact HO_339000.out) : P := h
theorem z27_12 {P : Prop} (h : P := by (with_reducible repeat (first | apply Kd.R_alloc | apply Kd.R_drewN | apply Kd.R_drew)); exact HO_6.out) : P := h
theorem z27_13 {P : Prop} (h : P := by (with_reducible repeat (first | apply Kd.R_alloc | apply Kd.R_drewN | apply Kd.R_drew)); exact HO_4.out) : P := h
theorem z27_14 {P : Prop} (h : P := by repeat (first | (with_reducible first | exact HB.out | apply below_alloc | apply pw_below_drewN | apply below_drew1) | exact HB.out)) : P := h
theorem z27_15 {P : Prop} (h : P := by repeat (first | exact (Kd.R_reads' HO_6.out).2.2 | (with_reducible refine Kd.C_alloc ?_ _) | (with_reducible refine Kd.C_drewN ?_ _) | (with_reducible refine Kd.C_drew ?_))) : P := h
theorem z27_16 {P : Prop} (h : P := by (with_reducible repeat (first | apply Kd.R_alloc | apply Kd.R_drewN | apply Kd.R_drew)); exact HO331.out) : P := h
theorem z27_17 {P : Prop} (h : P := by (with_reducible repeat (first | apply Kd.R_alloc | apply Kd.R_drewN | apply Kd.R_drew)); exact HO337.out) : P := h
theorem z27_18 {P : Prop} (h : P := by (with_reducible repeat (first | apply Kd.R_alloc | apply Kd.R_drewN | apply Kd.R_drew)); exact HO334.out) : P := h
theorem z27_19 {P : Prop} (h : P := by rw [show t355.length = t339.length from (Kd.R_reads' HO_6.out).1.symm]; exact (Kd.R_reads' HO_6.out).2.1) : P := h
theorem z27_20 {P : Prop} (h : P := by (with_reducible repeat (first | refine blk_drewN ?_ _ | refine blk_drew ?_ | refine blk_alloc ?_ _)); refine blk_far ?_ NB321_338.out _; (with_reducible repeat (first | refine blk_drewN ?_ _ | refine blk_drew ?_ | refine blk_alloc ?_ _)); refine blk_far ?_ NB321_338.out _; (with_reducible repeat (first | refine blk_drewN ?_ _ | refine blk_drew ?_ | refine blk_alloc ?_ _)); exact BK321.out) : P := h
theorem z27_21 {P : Prop} (h : P := by (with_reducible repeat (first | apply Kd.R_alloc | apply Kd.R_drewN | apply Kd.R_drew)); exact HO362.out) : P := h
theorem z27_22 {P : Prop} (h : P := by (with_reducible repeat (first | apply Kd.R_alloc | apply Kd.R_drewN | apply Kd.R_drew)); exact HO359.out) : P := h
theorem z27_23 {P : Prop} (h : P := by (with_reducible repeat (first | apply Kd.R_alloc | apply Kd.R_drewN | apply Kd.R_drew)); exact HO341.out) : P := h
theorem z27_24 {P : Prop} (h : P := by repeat (first | exact (Kd.R_reads' HO365.out).2.2 | (with_reducible refine Kd.C_alloc ?_ _) | (with_reducible refine Kd.C_drewN ?_ _) | (with_reducible refine Kd.C_drew ?_))) : P := h
theorem z27_25 {P : Prop} (h : P := by repeat (first | exact (Kd.R_reads' HO362.out).2.2 | (with_reducible refine Kd.C_alloc ?_ _) | (with_reducible refine Kd.C_drewN ?_ _) | (with_reducible refine Kd.C_drew ?_))) : P := h
theorem z27_26 {P : Prop} (h : P := by repeat (first | exact (Kd.R_reads' HO359.out).2.2 | (with_reducible refine Kd.C_alloc ?_ _) | (with_reducible refine Kd.C_drewN ?_ _) | (with_reducible refine Kd.C_drew ?_))) : P := h
theorem z27_27 {P : Prop} (h : P := by repeat (first | exact (Kd.R_reads' HO341.out).2.2 | (with_reducible refine Kd.C_alloc ?_ _) | (with_reducible refine Kd.C_drewN ?_ _) | (with_reducible refine Kd.C_drew ?_))) : P := h
theorem z27_28 {P : Prop} (h : P := by repeat (first | exact (Kd.R_reads' HO331.out).2.2 | (with_reducible refine Kd.C_alloc ?_ _) | (with_reducible refine Kd.C_drewN ?_ _) | (with_reducible refine Kd.C_drew ?_))) : P := h
theorem z27_29 {P : Prop} (h : P := by kernel_rfl) : P := h
theorem z27_30 {P : Prop} (h : P := by repeat (first | exact (Kd.R_reads' HO_4.out).2.2 | (with_reducible refine Kd.C_alloc ?_ _) | (with_reducible refine Kd.C_drewN ?_ _) | (with_reducible refine Kd.C_drew ?_))) : P := h
theorem z27_31 {P : Prop} (h : P := by repeat (first | exact (Kd.R_reads' HO328.out).2.2 | (with_reducible refine Kd.C_alloc ?_ _) | (with_reducible refine Kd.C_drewN ?_ _) | (with_reducible refine Kd.C_drew ?_))) : P := h
theorem z27_32 {P : Prop} (h : P := by repeat (first | exact (Kd.R_reads' HO325.out).2.2 | (with_reducible refine Kd.C_alloc ?_ _) | (with_reducible refine Kd.C_drewN ?_ _) | (with_reducible refine Kd.C_drew ?_))) : P := h
theorem z27_33 {P : Prop} (h : P := by (with_reducible repeat (first | apply Kd.R_alloc | apply Kd.R_drewN | apply Kd.R_drew)); exact (Kd.R_mono (Kd.R_far (p := ⟨gb338, 1, none⟩) (Kd.R_far (p := ⟨gb338, 0, none⟩) (Kd.R_types HO337.out BK338.out (by decide)) (fun _ hk => hk.2) (.slice Ao132 t332.length co132)) (fun _ hk => hk.2) (.slice Ao135 t335.length co135)) (fun _ h_ => h_.1))) : P := h
theorem z27_34 {P : Prop} (h : P := by (with_reducible repeat (first | apply Kd.R_alloc | apply Kd.R_drewN | apply Kd.R_drew)); exact (Kd.R_mono (Kd.R_far (p := ⟨gb338, 1, none⟩) (Kd.R_far (p := ⟨gb338, 0, none⟩) (Kd.R_types HO337.out BK338.out (by decide)) (fun _ hk => hk.2) (.slice Ao108 t332.length co108)) (fun _ hk => hk.2) (.slice Ao111 t335.length co111)) (fun _ h_ => h_.1))) : P := h
theorem z27_35 {P : Prop} (h : P := by (with_reducible repeat (first | apply Kd.R_alloc | apply Kd.R_drewN | apply Kd.R_drew)); exact (Kd.R_mono (Kd.R_far (p := ⟨gb338, 1, none⟩) (Kd.R_far (p := ⟨gb338, 0, none⟩) (Kd.R_types HO334.out BK338.out (by decide)) (fun _ hk => hk.2) (.slice Ao132 t332.length co132)) (fun _ hk => hk.2) (.slice Ao135 t335.length co135)) (fun _ h_ => h_.1))) : P := h
theorem z27_36 {P : Prop} (h : P := by (with_reducible repeat (first | apply Kd.R_alloc | apply Kd.R_drewN | apply Kd.R_drew)); exact (Kd.R_mono (Kd.R_far (p := ⟨gb338, 1, none⟩) (Kd.R_far (p := ⟨gb338, 0, none⟩) (Kd.R_types HO334.out BK338.out (by decide)) (fun _ hk => hk.2) (.slice Ao108 t332.length co108)) (fun _ hk => hk.2) (.slice Ao111 t335.length co111)) (fun _ h_ => h_.1))) : P := h
theorem z27_37 {P : Prop} (h : P := by (with_reducible repeat (first | apply Kd.R_alloc | apply Kd.R_drewN | apply Kd.R_drew)); exact (Kd.R_mono (Kd.R_far (p := ⟨gb338, 1, none⟩) (Kd.R_far (p := ⟨gb338, 0, none⟩) (Kd.R_types HO331.out BK338.out (by decide)) (fun _ hk => hk.2) (.slice Ao132 t332.length co132)) (fun _ hk => hk.2) (.slice Ao135 t335.length co135)) (fun _ h_ => h_.1))) : P := h
theorem z27_38 {P : Prop} (h : P := by (with_reducible repeat (first | apply Kd.R_alloc | apply Kd.R_drewN | apply Kd.R_drew)); exact (Kd.R_mono (Kd.R_far (p := ⟨gb338, 1, none⟩) (Kd.R_far (p := ⟨gb338, 0, none⟩) (Kd.R_types HO331.out BK338.out (by decide)) (fun _ hk => hk.2) (.slice Ao108 t332.length co108)) (fun _ hk => hk.2) (.slice Ao111 t335.length co111)) (fun _ h_ => h_.1))) : P := h
theorem z27_39 {P : Prop} (h : P := by (with_reducible repeat (first | apply Kd.R_alloc | apply Kd.R_drewN | apply Kd.R_drew)); exact (Kd.R_mono (Kd.R_far (p := ⟨gb338, 1, none⟩) (Kd.R_far (p := ⟨gb338, 0, none⟩) (Kd.R_types HO337.out BK338.out (by decide)) (fun _ hk => hk.2) (.slice Ao29 t332.length co29)) (fun _ hk => hk.2) (.slice Ao32 t335.length co32)) (fun _ h_ => h_.1))) : P := h
theorem z27_40 {P : Prop} (h : P := by (with_reducible repeat (first | apply Kd.R_alloc | apply Kd.R_drewN | apply Kd.R_drew)); exact (Kd.R_mono (Kd.R_far (p := ⟨gb338, 1, none⟩) (Kd.R_far (p := ⟨gb338, 0, none⟩) (Kd.R_types HO334.out BK338.out (by decide)) (fun _ hk => hk.2) (.slice Ao29 t332.length co29)) (fun _ hk => hk.2) (.slice Ao32 t335.length co32)) (fun _ h_ => h_.1))) : P := h
theorem z27_41 {P : Prop} (h : P := by (with_reducible repeat (first | apply Kd.R_alloc | apply Kd.R_drewN | apply Kd.R_drew)); exact (Kd.R_mono (Kd.R_far (p := ⟨gb338, 1, none⟩) (Kd.R_far (p := ⟨gb338, 0, none⟩) (Kd.R_types HO331.out BK338.out (by decide)) (fun _ hk => hk.2) (.slice Ao29 t332.length co29)) (fun _ hk => hk.2) (.slice Ao32 t335.length co32)) (fun _ h_ => h_.1))) : P := h
theorem z27_42 {P : Prop} (h : P := by (with_reducible repeat (first | apply Kd.R_alloc | apply Kd.R_drewN | apply Kd.R_drew)); exact HO365.out) : P := h
theorem z27_43 {P : Prop} (h : P := by decide) : P := h
theorem z27_44 {P : Prop} (h : P := by first | (go_simp; done) | (go_simp; rfl)) : P := h
theorem z27_45 {P : Prop} (h : P := by repeat (first | exact (Kd.C_below HR0_1.out z27_0) | (with_reducible refine Kd.C_alloc ?_ _) | (with_reducible refine Kd.C_drewN ?_ _) | (with_reducible refine Kd.C_drew ?_))) : P := h
theorem z27_46 {P : Prop} (h : P := by repeat (first | exact (Kd.C_below HR0_0.out z27_0) | (with_reducible refine Kd.C_alloc ?_ _) | (with_reducible refine Kd.C_drewN ?_ _) | (with_reducible refine Kd.C_drew ?_))) : P := h
theorem z27_47 {P : Prop} (h : P := by rw [hg]; exact Nat.ne_of_lt (blk_lt (g := gb321) (o := .cells #[.slice A0_0 l0_0.length c0_0, .slice A0_1 l0_1.length c0_1] 33 (0, 0)) z27_3)) : P := h
theorem z27_48 {P : Prop} (h : P := by rw [hg]; exact Nat.ne_of_gt (blk_lt (g := gb321) (o := .cells #[.slice A0_0 l0_0.length c0_0, .slice A0_1 l0_1.length c0_1] 33 (0, 0)) z27_3)) : P := h
theorem z27_49 {P : Prop} (h : P := by rw [hg]; exact (below_size z27_14)) : P := h
/-! ### laws_FnExactWritesOf: function 5 -/
def laws_FnExactWritesOf.j0 : Nat → List (S47) → List (S47) → Bool → List (S59) → List Int → Option (Bool)
  | 0, _, _, _, _, _ => none
  | k + 1, x4, x6, x42, x322000, x322001 => if x42 = true then (some false) else ((laws_markWriteS.f k x6 1).bind fun bt354 => ((laws_heldWriteS.f k bt354.2 1).bind fun t356 => (if t356 < 0 then (some false) else (if t356 = bt354.1 then ((laws_toTrace.f k x322000 x322001).bind fun bt357 => ((impl_WritesOf.f k bt357.1 bt357.2).bind fun t363 => ((laws_eqWriteS.f k t363 x4).bind fun t366 => (if t366 = true then ((laws_heldWriteS.f k bt354.2 1).bind fun t367 => (if t367 < 0 then (some false) else (if t367 = bt354.1 then (some true) else (some false)))) else (some false))))) else (some false)))))
def laws_FnExactWritesOf.f (k : Nat) (l0_0 : List (S59)) (l0_1 : List Int) : Option (Bool) := (laws_szTrace.f l0_0 l0_1 1048576).bind fun t322 => (if t322 < 0 then (some true) else ((laws_toTrace.f k l0_0 l0_1).bind fun bt323 => ((spec_WritesOf.f k bt323.1 bt323.2).bind fun t329 => ((laws_toTrace.f k l0_0 l0_1).bind fun bt332 => ((impl_WritesOf.f k bt332.1 bt332.2).bind fun t339 => ((laws_eqWriteS.f k t339 t329).bind fun t342 => (if t342 = true then ((laws_toTrace.f k l0_0 l0_1).bind fun bt343 => ((laws_eqTrace.f k bt332.1 bt332.2 bt343.1 bt343.2).bind fun t349 => (if t349 = true then ((laws_markTrace.f k bt332.1 bt332.2 1).bind fun bt350 => (if bt350.1 < 0 then (laws_FnExactWritesOf.j0 k t329 t339 true l0_0 l0_1) else ((laws_eqWriteS.f k t339 t329).bind fun t353 => (laws_FnExactWritesOf.j0 k t329 t339 (!t353) l0_0 l0_1)))) else (some false)))) else (some false))))))))
theorem laws_FnExactWritesOf.mono_l : ∀ k, (∀ y0 y1 y2 y3 y4, LeO (laws_FnExactWritesOf.j0 k y0 y1 y2 y3 y4) (laws_FnExactWritesOf.j0 (k + 1) y0 y1 y2 y3 y4))
  | 0 => fun _ _ _ _ _ r h => by simp [laws_FnExactWritesOf.j0] at h
  | k + 1 => by
    have ih0 := laws_FnExactWritesOf.mono_l k
    · intro y0 y1 y2 y3 y4
      unfold laws_FnExactWritesOf.j0
      repeat' first
      | (with_reducible exact ih0 _ _ _ _ _)
      | (with_reducible exact impl_WritesOf.mono _ _ _)
      | (with_reducible exact laws_eqTrace.mono _ _ _ _ _)
      | (with_reducible exact laws_eqWriteS.mono _ _ _)
      | (with_reducible exact laws_heldWriteS.mono _ _ _)
      | (with_reducible exact laws_markTrace.mono _ _ _ _)
      | (with_reducible exact laws_markWriteS.mono _ _ _)
      | (with_reducible exact laws_toTrace.mono _ _ _)
      | (with_reducible exact spec_WritesOf.mono _ _ _)
      | (with_reducible exact LeO.refl _)
      | (with_reducible exact LeO.none _)
      | (with_reducible refine LeO.ite ?_ ?_)
      | (with_reducible refine LeO.bind ?_ (fun _ => ?_))
      | exact ih0 _ _ _ _ _
      | exact impl_WritesOf.mono _ _ _
      | exact laws_eqTrace.mono _ _ _ _ _
      | exact laws_eqWriteS.mono _ _ _
      | exact laws_heldWriteS.mono _ _ _
      | exact laws_markTrace.mono _ _ _ _
      | exact laws_markWriteS.mono _ _ _
      | exact laws_toTrace.mono _ _ _
      | exact spec_WritesOf.mono _ _ _
      | exact LeO.none _
      | refine LeO.ite ?_ ?_
      | refine LeO.bind ?_ (fun _ => ?_)
theorem laws_FnExactWritesOf.mono : ∀ a0 a1 k, LeO (laws_FnExactWritesOf.f k a0 a1) (laws_FnExactWritesOf.f (k + 1) a0 a1) := by
  intro a0 a1 k
  have ih0 := laws_FnExactWritesOf.mono_l k
  unfold laws_FnExactWritesOf.f
  repeat' first
      | (with_reducible exact ih0 _ _ _ _ _)
      | (with_reducible exact impl_WritesOf.mono _ _ _)
      | (with_reducible exact laws_eqTrace.mono _ _ _ _ _)
      | (with_reducible exact laws_eqWriteS.mono _ _ _)
      | (with_reducible exact laws_heldWriteS.mono _ _ _)
      | (with_reducible exact laws_markTrace.mono _ _ _ _)
      | (with_reducible exact laws_markWriteS.mono _ _ _)
      | (with_reducible exact laws_toTrace.mono _ _ _)
      | (with_reducible exact spec_WritesOf.mono _ _ _)
      | (with_reducible exact LeO.refl _)
      | (with_reducible exact LeO.none _)
      | (with_reducible refine LeO.ite ?_ ?_)
      | (with_reducible refine LeO.bind ?_ (fun _ => ?_))
      | exact ih0 _ _ _ _ _
      | exact impl_WritesOf.mono _ _ _
      | exact laws_eqTrace.mono _ _ _ _ _
      | exact laws_eqWriteS.mono _ _ _
      | exact laws_heldWriteS.mono _ _ _
      | exact laws_markTrace.mono _ _ _ _
      | exact laws_markWriteS.mono _ _ _
      | exact laws_toTrace.mono _ _ _
      | exact spec_WritesOf.mono _ _ _
      | exact LeO.none _
      | refine LeO.ite ?_ ?_
      | refine LeO.bind ?_ (fun _ => ?_)
set_option maxHeartbeats 8000000 in
set_option maxRecDepth 100000 in
theorem laws_FnExactWritesOf.calls (k : Nat) (A0_0 : Option Addr) (c0_0 : Nat) (l0_0 : List (S59)) (A0_1 : Option Addr) (c0_1 : Nat) (l0_1 : List Int) (r : Bool) (w : World) (hr0_0 : Kd.C k59 w A0_0 l0_0.length l0_0) (hc0_0 : l0_0.length ≤ c0_0) (hr0_1 : Kd.C (Kd.int .i64) w A0_1 l0_1.length l0_1) (hc0_1 : l0_1.length ≤ c0_1) (h : laws_FnExactWritesOf.f k l0_0 l0_1 = some r) :
    Calls Try.prog 5 #[.agg #[.slice A0_0 l0_0.length c0_0, .slice A0_1 l0_1.length c0_1]] w fun e w' => e = .returned (.bool r) ∧ Below w.heap.size w w' := by
  have hu33 := Try.underlying33
  have hu38 := Try.underlying38
  have HR0_0 := Aside0.mk hr0_0
  have HC0_0 := Aside0.mk hc0_0
  clear hr0_0 hc0_0
  have HR0_1 := Aside0.mk hr0_1
  have HC0_1 := Aside0.mk hc0_1
  clear hr0_1 hc0_1
  have HB := Aside0.mk (Below.refl w.heap.size w)
  have H : ((laws_szTrace.f l0_0 l0_1 1048576).bind fun t322 => (if t322 < 0 then (some true) else ((laws_toTrace.f k l0_0 l0_1).bind fun bt323 => ((spec_WritesOf.f k bt323.1 bt323.2).bind fun t329 => ((laws_toTrace.f k l0_0 l0_1).bind fun bt332 => ((impl_WritesOf.f k bt332.1 bt332.2).bind fun t339 => ((laws_eqWriteS.f k t339 t329).bind fun t342 => (if t342 = true then ((laws_toTrace.f k l0_0 l0_1).bind fun bt343 => ((laws_eqTrace.f k bt332.1 bt332.2 bt343.1 bt343.2).bind fun t349 => (if t349 = true then ((laws_markTrace.f k bt332.1 bt332.2 1).bind fun bt350 => (if bt350.1 < 0 then (laws_FnExactWritesOf.j0 k t329 t339 true l0_0 l0_1) else ((laws_eqWriteS.f k t339 t329).bind fun t353 => (laws_FnExactWritesOf.j0 k t329 t339 (!t353) l0_0 l0_1)))) else (some false)))) else (some false))))))))) = some r := h
  clear h
  replace H := Option.bind_eq_some_iff.mp H
  obtain ⟨t322, A20, H⟩ := H
  replace H : (if t322 < 0 then (some true) else ((laws_toTrace.f k l0_0 l0_1).bind fun bt323 => ((spec_WritesOf.f k bt323.1 bt323.2).bind fun t329 => ((laws_toTrace.f k l0_0 l0_1).bind fun bt332 => ((impl_WritesOf.f k bt332.1 bt332.2).bind fun t339 => ((laws_eqWriteS.f k t339 t329).bind fun t342 => (if t342 = true then ((laws_toTrace.f k l0_0 l0_1).bind fun bt343 => ((laws_eqTrace.f k bt332.1 bt332.2 bt343.1 bt343.2).bind fun t349 => (if t349 = true then ((laws_markTrace.f k bt332.1 bt332.2 1).bind fun bt350 => (if bt350.1 < 0 then (laws_FnExactWritesOf.j0 k t329 t339 true l0_0 l0_1) else ((laws_eqWriteS.f k t339 t329).bind fun t353 => (laws_FnExactWritesOf.j0 k t329 t339 (!t353) l0_0 l0_1)))) else (some false)))) else (some false)))))))) = some r := H
  have A2 := Aside0.mk A20
  clear A20
  by_cases c3 : t322 < 0
  · rw [if_pos c3] at H
    have c3b0 : decide (t322 < 0) = true := decide_eq_true c3
    clear c3
    obtain rfl := Option.some.inj H
    go_enter Try.func5, Try.ntmps5
    go_wp2_with (first | ((with_reducible refine gate_dst (N := 1) rfl ?_); refine box_event ?hg (N := 1) ?hd (cs := #[.slice A0_0 l0_0.length c0_0, .slice A0_1 l0_1.length c0_1]) (t := 33) ?hr ?_; (case hd => rfl); (case hg => rfl); (case hr => exact z27_44); intro gb321 hg w4 hbox hb; have n0_ := Aside0.mk (below_step z27_14 hb); have n1_ := Aside0.mk (hbox); have n2_ := Aside0.mk ((z27_49 : w.heap.size ≤ gb321)); have n3_ := Aside0.mk ((z27_49 : w.heap.size ≤ gb321)); clear HB; have HB := n0_; have BK321 := n1_; have GW321 := n2_; have GE321 := n3_; clear n0_ n1_ n2_ n3_; clear hb hbox hg; have hcz5_0 : w4.cell? ⟨gb321, 0, none⟩ = some (.slice A0_0 l0_0.length c0_0) := (blk_cell BK321.out 0).trans rfl; have hcz5_1 : w4.cell? ⟨gb321, 1, none⟩ = some (.slice A0_1 l0_1.length c0_1) := (blk_cell BK321.out 1).trans rfl; have hfz5_0 := blk_frozen BK321.out 0; have hfz5_1 := blk_frozen BK321.out 1) | ((first | ((with_reducible refine gate_callee (f := 17) rfl ?_); refine goesL_ (some 13) rfl rfl Try.func17 z27_29 rfl #[.agg #[.slice A0_0 l0_0.length c0_0, .slice A0_1 l0_1.length c0_1], .int .i64 1048576] rfl z27_2 ?_; (with_reducible refine (laws_szTrace.calls _ _ l0_0 _ _ l0_1 1048576 t322 _ ?side1 ?side2 ?side3 ?side4 A2.out).mono ?_)) | (go_at_call 17; (with_reducible refine (laws_szTrace.calls _ _ l0_0 _ _ l0_1 1048576 t322 _ ?side1 ?side2 ?side3 ?side4 A2.out).mono ?_))); (case side1 => exact z27_8); (case side2 => exact HC0_0.out); (case side3 => exact z27_7); (case side4 => exact HC0_1.out); rintro e w6 ⟨rfl, hb⟩; (first | refine ⟨_, rfl, ?_⟩ | skip); have n0_ := Aside0.mk (blk_below (g := gb321) (o := .cells #[.slice A0_0 l0_0.length c0_0, .slice A0_1 l0_1.length c0_1] 33 (0, 0)) z27_3 hb); have n1_ := Aside0.mk (below_step z27_1 hb); clear BK321; clear HB; have BK321 := n0_; have HB := n1_; clear n0_ n1_; (try clear hb); (try clear hb2); (try clear hk); (try clear hi)))
    go_ret
    exact ⟨by first | rfl | (simp [errW_none, errW_some] <;> rfl) | (simp [*, errW_none, errW_some] <;> rfl) | (simp [*, errW_none, errW_some, i64_w]; done), by repeat (first | (with_reducible first | exact HB.out | apply below_alloc | apply pw_below_drewN | apply below_drew1 | refine below_set ?_ GE321.out) | exact HB.out)⟩
  · rw [if_neg c3] at H
    have c3b0 : decide (t322 < 0) = false := decide_eq_false c3
    clear c3
    replace H := Option.bind_eq_some_iff.mp H
    obtain ⟨⟨t323, t326⟩, A70, H⟩ := H
    replace H : ((spec_WritesOf.f k t323 t326).bind fun t329 => ((laws_toTrace.f k l0_0 l0_1).bind fun bt332 => ((impl_WritesOf.f k bt332.1 bt332.2).bind fun t339 => ((laws_eqWriteS.f k t339 t329).bind fun t342 => (if t342 = true then ((laws_toTrace.f k l0_0 l0_1).bind fun bt343 => ((laws_eqTrace.f k bt332.1 bt332.2 bt343.1 bt343.2).bind fun t349 => (if t349 = true then ((laws_markTrace.f k bt332.1 bt332.2 1).bind fun bt350 => (if bt350.1 < 0 then (laws_FnExactWritesOf.j0 k t329 t339 true l0_0 l0_1) else ((laws_eqWriteS.f k t339 t329).bind fun t353 => (laws_FnExactWritesOf.j0 k t329 t339 (!t353) l0_0 l0_1)))) else (some false)))) else (some false)))))) = some r := H
    have A7 := Aside0.mk A70
    clear A70
    replace H := Option.bind_eq_some_iff.mp H
    obtain ⟨t329, A80, H⟩ := H
    replace H : ((laws_toTrace.f k l0_0 l0_1).bind fun bt332 => ((impl_WritesOf.f k bt332.1 bt332.2).bind fun t339 => ((laws_eqWriteS.f k t339 t329).bind fun t342 => (if t342 = true then ((laws_toTrace.f k l0_0 l0_1).bind fun bt343 => ((laws_eqTrace.f k bt332.1 bt332.2 bt343.1 bt343.2).bind fun t349 => (if t349 = true then ((laws_markTrace.f k bt332.1 bt332.2 1).bind fun bt350 => (if bt350.1 < 0 then (laws_FnExactWritesOf.j0 k t329 t339 true l0_0 l0_1) else ((laws_eqWriteS.f k t339 t329).bind fun t353 => (laws_FnExactWritesOf.j0 k t329 t339 (!t353) l0_0 l0_1)))) else (some false)))) else (some false))))) = some r := H
    have A8 := Aside0.mk A80
    clear A80
    replace H := Option.bind_eq_some_iff.mp H
    obtain ⟨⟨t332, t335⟩, A90, H⟩ := H
    replace H : ((impl_WritesOf.f k t332 t335).bind fun t339 => ((laws_eqWriteS.f k t339 t329).bind fun t342 => (if t342 = true then ((laws_toTrace.f k l0_0 l0_1).bind fun bt343 => ((laws_eqTrace.f k t332 t335 bt343.1 bt343.2).bind fun t349 => (if t349 = true then ((laws_markTrace.f k t332 t335 1).bind fun bt350 => (if bt350.1 < 0 then (laws_FnExactWritesOf.j0 k t329 t339 true l0_0 l0_1) else ((laws_eqWriteS.f k t339 t329).bind fun t353 => (laws_FnExactWritesOf.j0 k t329 t339 (!t353) l0_0 l0_1)))) else (some false)))) else (some false)))) = some r := H
    have A9 := Aside0.mk A90
    clear A90
    replace H := Option.bind_eq_some_iff.mp H
    obtain ⟨t339, A100, H⟩ := H
    replace H : ((laws_eqWriteS.f k t339 t329).bind fun t342 => (if t342 = true then ((laws_toTrace.f k l0_0 l0_1).bind fun bt343 => ((laws_eqTrace.f k t332 t335 bt343.1 bt343.2).bind fun t349 => (if t349 = true then ((laws_markTrace.f k t332 t335 1).bind fun bt350 => (if bt350.1 < 0 then (laws_FnExactWritesOf.j0 k t329 t339 true l0_0 l0_1) else ((laws_eqWriteS.f k t339 t329).bind fun t353 => (laws_FnExactWritesOf.j0 k t329 t339 (!t353) l0_0 l0_1)))) else (some false)))) else (some false))) = some r := H
    have A10 := Aside0.mk A100
    clear A100
    replace H := Option.bind_eq_some_iff.mp H
    obtain ⟨t342, A110, H⟩ := H
    replace H : (if t342 = true then ((laws_toTrace.f k l0_0 l0_1).bind fun bt343 => ((laws_eqTrace.f k t332 t335 bt343.1 bt343.2).bind fun t349 => (if t349 = true then ((laws_markTrace.f k t332 t335 1).bind fun bt350 => (if bt350.1 < 0 then (laws_FnExactWritesOf.j0 k t329 t339 true l0_0 l0_1) else ((laws_eqWriteS.f k t339 t329).bind fun t353 => (laws_FnExactWritesOf.j0 k t329 t339 (!t353) l0_0 l0_1)))) else (some false)))) else (some false)) = some r := H
    have A11 := Aside0.mk A110
    clear A110
    by_cases c12 : t342 = true
    · subst c12
      have H1 : ((laws_toTrace.f k l0_0 l0_1).bind fun bt343 => ((laws_eqTrace.f k t332 t335 bt343.1 bt343.2).bind fun t349 => (if t349 = true then ((laws_markTrace.f k t332 t335 1).bind fun bt350 => (if bt350.1 < 0 then (laws_FnExactWritesOf.j0 k t329 t339 true l0_0 l0_1) else ((laws_eqWriteS.f k t339 t329).bind fun t353 => (laws_FnExactWritesOf.j0 k t329 t339 (!t353) l0_0 l0_1)))) else (some false)))) = some r := by rw [if_pos rfl] at H; exact H
      clear H
      have H := H1
      clear H1
      replace H := Option.bind_eq_some_iff.mp H
      obtain ⟨⟨t343, t346⟩, A130, H⟩ := H
      replace H : ((laws_eqTrace.f k t332 t335 t343 t346).bind fun t349 => (if t349 = true then ((laws_markTrace.f k t332 t335 1).bind fun bt350 => (if bt350.1 < 0 then (laws_FnExactWritesOf.j0 k t329 t339 true l0_0 l0_1) else ((laws_eqWriteS.f k t339 t329).bind fun t353 => (laws_FnExactWritesOf.j0 k t329 t339 (!t353) l0_0 l0_1)))) else (some false))) = some r := H
      have A13 := Aside0.mk A130
      clear A130
      replace H := Option.bind_eq_some_iff.mp H
      obtain ⟨t349, A140, H⟩ := H
      replace H : (if t349 = true then ((laws_markTrace.f k t332 t335 1).bind fun bt350 => (if bt350.1 < 0 then (laws_FnExactWritesOf.j0 k t329 t339 true l0_0 l0_1) else ((laws_eqWriteS.f k t339 t329).bind fun t353 => (laws_FnExactWritesOf.j0 k t329 t339 (!t353) l0_0 l0_1)))) else (some false)) = some r := H
      have A14 := Aside0.mk A140
      clear A140
      by_cases c15 : t349 = true
      · subst c15
        have H1 : ((laws_markTrace.f k t332 t335 1).bind fun bt350 => (if bt350.1 < 0 then (laws_FnExactWritesOf.j0 k t329 t339 true l0_0 l0_1) else ((laws_eqWriteS.f k t339 t329).bind fun t353 => (laws_FnExactWritesOf.j0 k t329 t339 (!t353) l0_0 l0_1)))) = some r := by rw [if_pos rfl] at H; exact H
        clear H
        have H := H1
        clear H1
        replace H := Option.bind_eq_some_iff.mp H
        obtain ⟨⟨t350, t351, t352⟩, A160, H⟩ := H
        replace H : (if t350 < 0 then (laws_FnExactWritesOf.j0 k t329 t339 true l0_0 l0_1) else ((laws_eqWriteS.f k t339 t329).bind fun t353 => (laws_FnExactWritesOf.j0 k t329 t339 (!t353) l0_0 l0_1))) = some r := H
        have A16 := Aside0.mk A160
        clear A160
        have HC17 := Aside0.mk H
        clear H
        go_enter Try.func5, Try.ntmps5
        try go_wp2_with (first | ((with_reducible refine gate_dst (N := 1) rfl ?_); refine box_event ?hg (N := 1) ?hd (cs := #[.slice A0_0 l0_0.length c0_0, .slice A0_1 l0_1.length c0_1]) (t := 33) ?hr ?_; (case hd => rfl); (case hg => rfl); (case hr => exact z27_44); intro gb321 hg w18 hbox hb; have n0_ := Aside0.mk (below_step z27_14 hb); have n1_ := Aside0.mk (hbox); have n2_ := Aside0.mk ((z27_49 : w.heap.size ≤ gb321)); have n3_ := Aside0.mk ((z27_49 : w.heap.size ≤ gb321)); clear HB; have HB := n0_; have BK321 := n1_; have GW321 := n2_; have GE321 := n3_; clear n0_ n1_ n2_ n3_; clear hb hbox hg; have hcz19_0 : w18.cell? ⟨gb321, 0, none⟩ = some (.slice A0_0 l0_0.length c0_0) := (blk_cell BK321.out 0).trans rfl; have hcz19_1 : w18.cell? ⟨gb321, 1, none⟩ = some (.slice A0_1 l0_1.length c0_1) := (blk_cell BK321.out 1).trans rfl; have hfz19_0 := blk_frozen BK321.out 0; have hfz19_1 := blk_frozen BK321.out 1) | ((first | ((with_reducible refine gate_callee (f := 17) rfl ?_); refine goesL_ (some 13) rfl rfl Try.func17 z27_29 rfl #[.agg #[.slice A0_0 l0_0.length c0_0, .slice A0_1 l0_1.length c0_1], .int .i64 1048576] rfl z27_2 ?_; (with_reducible refine (laws_szTrace.calls _ _ l0_0 _ _ l0_1 1048576 t322 _ ?side1 ?side2 ?side3 ?side4 A2.out).mono ?_)) | (go_at_call 17; (with_reducible refine (laws_szTrace.calls _ _ l0_0 _ _ l0_1 1048576 t322 _ ?side1 ?side2 ?side3 ?side4 A2.out).mono ?_))); (case side1 => exact z27_8); (case side2 => exact HC0_0.out); (case side3 => exact z27_7); (case side4 => exact HC0_1.out); rintro e w20 ⟨rfl, hb⟩; (first | refine ⟨_, rfl, ?_⟩ | skip); have n0_ := Aside0.mk (blk_below (g := gb321) (o := .cells #[.slice A0_0 l0_0.length c0_0, .slice A0_1 l0_1.length c0_1] 33 (0, 0)) z27_3 hb); have n1_ := Aside0.mk (below_step z27_1 hb); clear BK321; clear HB; have BK321 := n0_; have HB := n1_; clear n0_ n1_; (try clear hb); (try clear hb2); (try clear hk); (try clear hi); have hcz21_0 : w20.cell? ⟨gb321, 0, none⟩ = some (.slice A0_0 l0_0.length c0_0) := (blk_cell BK321.out 0).trans rfl; have hcz21_1 : w20.cell? ⟨gb321, 1, none⟩ = some (.slice A0_1 l0_1.length c0_1) := (blk_cell BK321.out 1).trans rfl; have hfz21_0 := blk_frozen BK321.out 0; have hfz21_1 := blk_frozen BK321.out 1) | ((first | ((with_reducible refine gate_callee (f := 19) rfl ?_); refine goesL_ (some 17) rfl rfl Try.func19 z27_29 rfl #[.agg #[.slice A0_0 l0_0.length c0_0, .slice A0_1 l0_1.length c0_1]] rfl z27_2 ?_; (with_reducible refine (laws_toTrace.calls k _ _ l0_0 _ _ l0_1 t323 t326 _ ?side1 ?side2 ?side3 ?side4 A7.out).mono ?_)) | (go_at_call 19; (with_reducible refine (laws_toTrace.calls k _ _ l0_0 _ _ l0_1 t323 t326 _ ?side1 ?side2 ?side3 ?side4 A7.out).mono ?_))); (case side1 => exact z27_8); (case side2 => exact HC0_0.out); (case side3 => exact z27_7); (case side4 => exact HC0_1.out); rintro e w22 ⟨v324, v327, rfl, ho0, ho1, hb⟩; (first | refine ⟨_, rfl, ?_⟩ | skip); have n0_ := Aside0.mk (Kd.R_lower ho0 (below_size z27_1)); have n1_ := Aside0.mk (Kd.R_lower ho1 (below_size z27_1)); have n2_ := Aside0.mk (blk_below (g := gb321) (o := .cells #[.slice A0_0 l0_0.length c0_0, .slice A0_1 l0_1.length c0_1] 33 (0, 0)) z27_3 hb); have n3_ := Aside0.mk (below_step z27_1 hb); clear BK321; clear HB; have HO325 := n0_; have HO328 := n1_; have BK321 := n2_; have HB := n3_; clear n0_ n1_ n2_ n3_; (try clear hb); (try clear hb2); (try clear hk); (try clear hi); (try clear ho0); (try clear ho1); obtain ⟨Ao23, co23, eo23⟩ := Kd.R_slice HO325.out; subst eo23; obtain ⟨Ao24, co24, eo24⟩ := Kd.R_slice HO328.out; subst eo24) | ((first | ((with_reducible refine gate_callee (f := 18) rfl ?_); refine goesL_ (some 18) rfl rfl Try.func18 z27_29 rfl #[.agg #[.slice Ao23 t323.length co23, .slice Ao24 t326.length co24]] rfl z27_2 ?_; (with_reducible refine (spec_WritesOf.calls k _ _ t323 _ _ t326 t329 _ ?side1 ?side2 ?side3 ?side4 A8.out).mono ?_)) | (go_at_call 18; (with_reducible refine (spec_WritesOf.calls k _ _ t323 _ _ t326 t329 _ ?side1 ?side2 ?side3 ?side4 A8.out).mono ?_))); (case side1 => exact z27_32); (case side2 => exact (Kd.R_reads' HO325.out).2.1); (case side3 => exact z27_31); (case side4 => exact (Kd.R_reads' HO328.out).2.1); rintro e w25 ⟨v330, rfl, ho0, hb⟩; (first | refine ⟨_, rfl, ?_⟩ | skip); have n0_ := Aside0.mk (Kd.R_below z27_6 hb); have n1_ := Aside0.mk (Kd.R_below z27_5 hb); have n2_ := Aside0.mk (Kd.R_lower ho0 (below_size z27_1)); have n3_ := Aside0.mk (blk_below (g := gb321) (o := .cells #[.slice A0_0 l0_0.length c0_0, .slice A0_1 l0_1.length c0_1] 33 (0, 0)) z27_3 hb); have n4_ := Aside0.mk (below_step z27_1 hb); clear HO325; clear HO328; clear BK321; clear HB; have HO325 := n0_; have HO328 := n1_; have HO331 := n2_; have BK321 := n3_; have HB := n4_; clear n0_ n1_ n2_ n3_ n4_; (try clear hb); (try clear hb2); (try clear hk); (try clear hi); (try clear ho0); have hcz26_0 : w25.cell? ⟨gb321, 0, none⟩ = some (.slice A0_0 l0_0.length c0_0) := (blk_cell BK321.out 0).trans rfl; have hcz26_1 : w25.cell? ⟨gb321, 1, none⟩ = some (.slice A0_1 l0_1.length c0_1) := (blk_cell BK321.out 1).trans rfl; have hfz26_0 := blk_frozen BK321.out 0; have hfz26_1 := blk_frozen BK321.out 1) | ((first | ((with_reducible refine gate_callee (f := 19) rfl ?_); refine goesL_ (some 20) rfl rfl Try.func19 z27_29 rfl #[.agg #[.slice A0_0 l0_0.length c0_0, .slice A0_1 l0_1.length c0_1]] rfl z27_2 ?_; (with_reducible refine (laws_toTrace.calls k _ _ l0_0 _ _ l0_1 t332 t335 _ ?side1 ?side2 ?side3 ?side4 A9.out).mono ?_)) | (go_at_call 19; (with_reducible refine (laws_toTrace.calls k _ _ l0_0 _ _ l0_1 t332 t335 _ ?side1 ?side2 ?side3 ?side4 A9.out).mono ?_))); (case side1 => exact z27_8); (case side2 => exact HC0_0.out); (case side3 => exact z27_7); (case side4 => exact HC0_1.out); rintro e w27 ⟨v333, v336, rfl, ho0, ho1, hb⟩; (first | refine ⟨_, rfl, ?_⟩ | skip); have n0_ := Aside0.mk (Kd.R_elder' z27_6 (Kd.R_base ho0) hb); have n1_ := Aside0.mk (Kd.R_elder' z27_5 (Kd.R_base ho1) hb); have n2_ := Aside0.mk (Kd.R_below z27_16 hb); have n3_ := Aside0.mk (Kd.R_lower (Kd.R_new' ho0 (Kd.R_lt z27_6)) (below_size z27_1)); have n4_ := Aside0.mk (Kd.R_lower (Kd.R_new' ho1 (Kd.R_lt z27_5)) (below_size z27_1)); have n5_ := Aside0.mk (blk_below (g := gb321) (o := .cells #[.slice A0_0 l0_0.length c0_0, .slice A0_1 l0_1.length c0_1] 33 (0, 0)) z27_3 hb); have n6_ := Aside0.mk (below_step z27_1 hb); clear HO325; clear HO328; clear HO331; clear BK321; clear HB; have HO325 := n0_; have HO328 := n1_; have HO331 := n2_; have HO334 := n3_; have HO337 := n4_; have BK321 := n5_; have HB := n6_; clear n0_ n1_ n2_ n3_ n4_ n5_ n6_; (try clear hb); (try clear hb2); (try clear hk); (try clear hi); (try clear ho0); (try clear ho1)) | ((with_reducible refine gate_dst (N := 5) rfl ?_); refine box_event ?hg (N := 5) ?hd (cs := #[.slice none 0 0, .slice none 0 0]) (t := 38) ?hr ?_; (case hd => rfl); (case hg => rfl); (case hr => exact z27_44); intro gb338 hg w28 hbox hb; have n0_ := Aside0.mk (Kd.R_below z27_6 hb); have n1_ := Aside0.mk (Kd.R_below z27_5 hb); have n2_ := Aside0.mk (Kd.R_below z27_16 hb); have n3_ := Aside0.mk (Kd.R_below z27_18 hb); have n4_ := Aside0.mk (Kd.R_below z27_17 hb); have n5_ := Aside0.mk (blk_below (g := gb321) (o := .cells #[.slice A0_0 l0_0.length c0_0, .slice A0_1 l0_1.length c0_1] 33 (0, 0)) z27_3 hb); have n6_ := Aside0.mk (below_step z27_1 hb); have n7_ := Aside0.mk (hbox); have n8_ := Aside0.mk ((by rw [hg]; exact (below_size z27_1) : w.heap.size ≤ gb338)); have n9_ := Aside0.mk ((by rw [hg]; exact (below_size z27_1) : w.heap.size ≤ gb338)); have n10_ := Aside0.mk ((z27_47 : gb321 ≠ gb338)); have n11_ := Aside0.mk ((z27_48 : gb338 ≠ gb321)); clear HO325; clear HO328; clear HO331; clear HO334; clear HO337; clear BK321; clear HB; have HO325 := n0_; have HO328 := n1_; have HO331 := n2_; have HO334 := n3_; have HO337 := n4_; have BK321 := n5_; have HB := n6_; have BK338 := n7_; have GW338 := n8_; have GE338 := n9_; have NB321_338 := n10_; have NB338_321 := n11_; clear n0_ n1_ n2_ n3_ n4_ n5_ n6_ n7_ n8_ n9_ n10_ n11_; clear hb hbox hg; obtain ⟨Ao29, co29, eo29⟩ := Kd.R_slice HO334.out; subst eo29; have hnb30 := NB338_321.out; have hnc30 := NB321_338.out; have hcz31_0 : w28.cell? ⟨gb338, 0, none⟩ = some (.slice none 0 0) := (blk_cell BK338.out 0).trans rfl; have hcz31_1 : w28.cell? ⟨gb338, 1, none⟩ = some (.slice none 0 0) := (blk_cell BK338.out 1).trans rfl; have hfz31_0 := blk_frozen BK338.out 0; have hfz31_1 := blk_frozen BK338.out 1; obtain ⟨Ao32, co32, eo32⟩ := Kd.R_slice HO337.out; subst eo32) | ((first | ((with_reducible refine gate_callee (f := 20) rfl ?_); refine goesL_ (some 22) rfl rfl Try.func20 z27_29 rfl #[.agg #[.slice Ao29 t332.length co29, .slice Ao32 t335.length co32]] rfl z27_2 ?_; (with_reducible refine (impl_WritesOf.calls k _ _ t332 _ _ t335 t339 _ ?side1 ?side2 ?side3 ?side4 A10.out).mono ?_)) | (go_at_call 20; (with_reducible refine (impl_WritesOf.calls k _ _ t332 _ _ t335 t339 _ ?side1 ?side2 ?side3 ?side4 A10.out).mono ?_))); (case side1 => refine (Kd.R_reads' (e := 54) (base := w.heap.size) (ok := fun k_ => (True ∧ some k_ ≠ (.slice Ao23 t323.length co23 : Value).ownBlock)) (n := t332.length) (c := co29) ?_).2.2; exact z27_40); (case side2 => exact (Kd.R_reads' HO334.out).2.1); (case side3 => refine (Kd.R_reads' (e := 3) (base := w.heap.size) (ok := fun k_ => (True ∧ some k_ ≠ (.slice Ao24 t326.length co24 : Value).ownBlock)) (n := t335.length) (c := co32) ?_).2.2; exact z27_39); (case side4 => exact (Kd.R_reads' HO337.out).2.1); rintro e w33 ⟨v340, rfl, ho0, hb⟩; (first | refine ⟨_, rfl, ?_⟩ | skip); have n0_ := Aside0.mk (Kd.R_below (by (with_reducible repeat (first | apply Kd.R_alloc | apply Kd.R_drewN | apply Kd.R_drew)); exact (Kd.R_mono (Kd.R_far (p := ⟨gb338, 1, none⟩) (Kd.R_far (p := ⟨gb338, 0, none⟩) (Kd.R_types HO325.out BK338.out z27_43) (fun _ hk => hk.2) (.slice Ao29 t332.length co29)) (fun _ hk => hk.2) (.slice Ao32 t335.length co32)) (fun _ h_ => h_.1))) hb); have n1_ := Aside0.mk (Kd.R_below (by (with_reducible repeat (first | apply Kd.R_alloc | apply Kd.R_drewN | apply Kd.R_drew)); exact (Kd.R_mono (Kd.R_far (p := ⟨gb338, 1, none⟩) (Kd.R_far (p := ⟨gb338, 0, none⟩) (Kd.R_types HO328.out BK338.out z27_43) (fun _ hk => hk.2) (.slice Ao29 t332.length co29)) (fun _ hk => hk.2) (.slice Ao32 t335.length co32)) (fun _ h_ => h_.1))) hb); have n2_ := Aside0.mk (Kd.R_elder' z27_41 (Kd.R_base ho0) hb); have n3_ := Aside0.mk (Kd.R_below z27_40 hb); have n4_ := Aside0.mk (Kd.R_below z27_39 hb); have n5_ := Aside0.mk (Kd.R_lower (Kd.R_new' ho0 (Kd.R_lt z27_41)) (below_size z27_0)); have n6_ := Aside0.mk (blk_below (g := gb321) (o := .cells #[.slice A0_0 l0_0.length c0_0, .slice A0_1 l0_1.length c0_1] 33 (0, 0)) z27_20 hb); have n7_ := Aside0.mk (blk_below (g := gb338) (o := .cells #[.slice Ao29 t332.length co29, .slice Ao32 t335.length co32] 38 (0, 0)) (by (with_reducible repeat (first | refine blk_drewN ?_ _ | refine blk_drew ?_ | refine blk_alloc ?_ _)); refine blk_put (cs := #[.slice Ao29 t332.length co29, .slice none 0 0]) ?_ 1 _ rfl; (with_reducible repeat (first | refine blk_drewN ?_ _ | refine blk_drew ?_ | refine blk_alloc ?_ _)); refine blk_put (cs := #[.slice none 0 0, .slice none 0 0]) ?_ 0 _ rfl; (with_reducible repeat (first | refine blk_drewN ?_ _ | refine blk_drew ?_ | refine blk_alloc ?_ _)); exact BK338.out) hb); have n8_ := Aside0.mk (below_step z27_0 hb); clear HO325; clear HO328; clear HO331; clear HO334; clear HO337; clear BK321; clear BK338; clear HB; have HO325 := n0_; have HO328 := n1_; have HO331 := n2_; have HO334 := n3_; have HO337 := n4_; have HO341 := n5_; have BK321 := n6_; have BK338 := n7_; have HB := n8_; clear n0_ n1_ n2_ n3_ n4_ n5_ n6_ n7_ n8_; (try clear hb); (try clear hb2); (try clear hk); (try clear hi); (try clear ho0); obtain ⟨Ao34, co34, eo34⟩ := Kd.R_slice HO341.out; subst eo34; obtain ⟨Ao35, co35, eo35⟩ := Kd.R_slice HO331.out; subst eo35) | ((first | ((with_reducible refine gate_callee (f := 9) rfl ?_); refine goesL_ (some 25) rfl rfl Try.func9 z27_29 rfl #[.slice Ao34 t339.length co34, .slice Ao35 t329.length co35] rfl z27_2 ?_; (with_reducible refine (laws_eqWriteS.calls k _ _ t339 _ _ t329 true _ ?side1 ?side2 ?side3 ?side4 A11.out).mono ?_)) | (go_at_call 9; (with_reducible refine (laws_eqWriteS.calls k _ _ t339 _ _ t329 true _ ?side1 ?side2 ?side3 ?side4 A11.out).mono ?_))); (case side1 => exact z27_27); (case side2 => exact (Kd.R_reads' HO341.out).2.1); (case side3 => exact z27_28); (case side4 => exact (Kd.R_reads' HO331.out).2.1); rintro e w36 ⟨rfl, hb⟩; (first | refine ⟨_, rfl, ?_⟩ | skip); have n0_ := Aside0.mk (Kd.R_below z27_6 hb); have n1_ := Aside0.mk (Kd.R_below z27_5 hb); have n2_ := Aside0.mk (Kd.R_below z27_16 hb); have n3_ := Aside0.mk (Kd.R_below z27_18 hb); have n4_ := Aside0.mk (Kd.R_below z27_17 hb); have n5_ := Aside0.mk (Kd.R_below z27_23 hb); have n6_ := Aside0.mk (blk_below (g := gb321) (o := .cells #[.slice A0_0 l0_0.length c0_0, .slice A0_1 l0_1.length c0_1] 33 (0, 0)) z27_3 hb); have n7_ := Aside0.mk (blk_below (g := gb338) (o := .cells #[.slice Ao29 t332.length co29, .slice Ao32 t335.length co32] 38 (0, 0)) z27_4 hb); have n8_ := Aside0.mk (below_step z27_0 hb); clear HO325; clear HO328; clear HO331; clear HO334; clear HO337; clear HO341; clear BK321; clear BK338; clear HB; have HO325 := n0_; have HO328 := n1_; have HO331 := n2_; have HO334 := n3_; have HO337 := n4_; have HO341 := n5_; have BK321 := n6_; have BK338 := n7_; have HB := n8_; clear n0_ n1_ n2_ n3_ n4_ n5_ n6_ n7_ n8_; (try clear hb); (try clear hb2); (try clear hk); (try clear hi)))
        have n0_ := Aside0.mk (Kd.R_drew HO325.out)
        have n1_ := Aside0.mk (Kd.R_drew HO328.out)
        have n2_ := Aside0.mk (Kd.R_drew HO331.out)
        have n3_ := Aside0.mk (Kd.R_drew HO334.out)
        have n4_ := Aside0.mk (Kd.R_drew HO337.out)
        have n5_ := Aside0.mk (Kd.R_drew HO341.out)
        have n6_ := Aside0.mk (blk_drew BK321.out)
        have n7_ := Aside0.mk (blk_drew BK338.out)
        have n8_ := Aside0.mk (below_drew1 HB.out)
        clear HO325
        clear HO328
        clear HO331
        clear HO334
        clear HO337
        clear HO341
        clear BK321
        clear BK338
        clear HB
        have HO325 := n0_
        have HO328 := n1_
        have HO331 := n2_
        have HO334 := n3_
        have HO337 := n4_
        have HO341 := n5_
        have BK321 := n6_
        have BK338 := n7_
        have HB := n8_
        clear n0_ n1_ n2_ n3_ n4_ n5_ n6_ n7_ n8_
        refine start_ (n := 5) (S := fun w' => w'.cell? ⟨gb338, 0, none⟩ = some (.slice Ao29 t332.length co29) ∧ w'.cell? ⟨gb338, 1, none⟩ = some (.slice Ao32 t335.length co32) ∧ w'.cell? ⟨gb321, 0, none⟩ = some (.slice A0_0 l0_0.length c0_0) ∧ w'.cell? ⟨gb321, 1, none⟩ = some (.slice A0_1 l0_1.length c0_1)) (ds := []) #[false, false, false, false, false] z27_29 rfl rfl ⟨(blk_cell BK338.out 0).trans rfl, (blk_cell BK338.out 1).trans rfl, (blk_cell BK321.out 0).trans rfl, (blk_cell BK321.out 1).trans rfl⟩ (fun hHeld => ?_)
        generalize w36.drew = w37 at HO325 HO328 HO331 HO334 HO337 HO341 BK321 BK338 HB hHeld ⊢
        refine take_ (i := 0) (N := some 27) (v := ?_) (a' := ?_) #[true, false, false, false, false] rfl rfl z27_29 (fun _ _ _ h => h) (Or.inl ⟨by rfl, ?_⟩) hHeld ?_ ?_
        rotate_left
        · rintro w' ⟨s0, s1, s2, s3⟩
          go_simp
          with_reducible rfl
        rotate_left
        · simp only [Act.put, List.setIfInBounds_toArray, List.set_cons_zero, List.set_cons_succ, i64_w, i32_w]
          rfl
        refine take_ (i := 1) (N := some 28) (v := ?_) (a' := ?_) #[true, true, false, false, false] rfl rfl z27_29 (fun _ _ _ h => h) (Or.inl ⟨by rfl, ?_⟩) hHeld ?_ ?_
        rotate_left
        · rintro w' ⟨s0, s1, s2, s3⟩
          go_simp
          with_reducible rfl
        rotate_left
        · simp only [Act.put, List.setIfInBounds_toArray, List.set_cons_zero, List.set_cons_succ, i64_w, i32_w]
          rfl
        refine one_ (i := 2) (N := some 29) #[true, true, true, false, false] rfl rfl z27_29 z27_43 (fun K hK => ?_)
        refine goes_ Try.func19 z27_29 rfl #[.agg #[.slice A0_0 l0_0.length c0_0, .slice A0_1 l0_1.length c0_1]] (by rfl) rfl rfl z27_2 ?_
        with_reducible refine (laws_toTrace.calls k _ _ l0_0 _ _ l0_1 t343 t346 _ ?side1 ?side2 ?side3 ?side4 A13.out).mono ?_
        (case side1 => exact z27_8)
        (case side2 => exact HC0_0.out)
        (case side3 => exact z27_7)
        (case side4 => exact HC0_1.out)
        rintro e w38 ⟨v344, v347, rfl, ho0, ho1, hb⟩
        refine ⟨_, rfl, ?_⟩
        have n0_ := Aside0.mk (Kd.R_elder' z27_6 (Kd.R_base ho0) hb)
        have n1_ := Aside0.mk (Kd.R_elder' z27_5 (Kd.R_base ho1) hb)
        have n2_ := Aside0.mk (Kd.R_below z27_16 hb)
        have n3_ := Aside0.mk (Kd.R_elder' z27_18 (Kd.R_base ho0) hb)
        have n4_ := Aside0.mk (Kd.R_elder' z27_17 (Kd.R_base ho1) hb)
        have n5_ := Aside0.mk (Kd.R_below z27_23 hb)
        have n6_ := Aside0.mk (Kd.R_lower (Kd.R_new' (Kd.R_new' ho0 (Kd.R_lt z27_6)) (Kd.R_lt z27_18)) (below_size z27_0))
        have n7_ := Aside0.mk (Kd.R_lower (Kd.R_new' (Kd.R_new' ho1 (Kd.R_lt z27_5)) (Kd.R_lt z27_17)) (below_size z27_0))
        have n8_ := Aside0.mk (blk_below (g := gb321) (o := .cells #[.slice A0_0 l0_0.length c0_0, .slice A0_1 l0_1.length c0_1] 33 (0, 0)) z27_3 hb)
        have n9_ := Aside0.mk (blk_below (g := gb338) (o := .cells #[.slice Ao29 t332.length co29, .slice Ao32 t335.length co32] 38 (0, 0)) z27_4 hb)
        have n10_ := Aside0.mk (below_step z27_0 hb)
        clear HO325
        clear HO328
        clear HO331
        clear HO334
        clear HO337
        clear HO341
        clear BK321
        clear BK338
        clear HB
        have HO325 := n0_
        have HO328 := n1_
        have HO331 := n2_
        have HO334 := n3_
        have HO337 := n4_
        have HO341 := n5_
        have HO345 := n6_
        have HO348 := n7_
        have BK321 := n8_
        have BK338 := n9_
        have HB := n10_
        clear n0_ n1_ n2_ n3_ n4_ n5_ n6_ n7_ n8_ n9_ n10_
        (try clear hb)
        (try clear hb2)
        (try clear hk)
        (try clear hi)
        (try clear ho0)
        (try clear ho1)
        obtain ⟨Ao39, co39, eo39⟩ := Kd.R_slice HO345.out
        (first | subst eo39 | (injection eo39 with f1_ f2_ f3_; have f4_ := f1_.symm; have f5_ := f3_.symm; clear f1_ f2_ f3_; subst f4_; subst f5_))
        obtain ⟨Ao40, co40, eo40⟩ := Kd.R_slice HO348.out
        (first | subst eo40 | (injection eo40 with f1_ f2_ f3_; have f4_ := f1_.symm; have f5_ := f3_.symm; clear f1_ f2_ f3_; subst f4_; subst f5_))
        refine hK.out _ _ ⟨(blk_cell BK338.out 0).trans rfl, (blk_cell BK338.out 1).trans rfl, (blk_cell BK321.out 0).trans rfl, (blk_cell BK321.out 1).trans rfl⟩ (fun hHeld => ?_)
        clear hK K
        refine norm_ (a' := ?_) ?_ ?_
        rotate_left
        · show Act.put _ (some 29) _ = _
          simp only [Act.put, List.setIfInBounds_toArray, List.set_cons_zero, List.set_cons_succ, i64_w, i32_w]
          rfl
        refine one_ (i := 3) (N := some 30) #[true, true, true, true, false] rfl rfl z27_29 z27_43 (fun K hK => ?_)
        refine goes_ Try.func21 z27_29 rfl #[.agg #[.slice Ao29 t332.length co29, .slice Ao32 t335.length co32], .agg #[.slice Ao39 t343.length co39, .slice Ao40 t346.length co40]] (by rfl) rfl rfl z27_2 ?_
        with_reducible refine (laws_eqTrace.calls k _ _ t332 _ _ t335 _ _ t343 _ _ t346 true _ ?side1 ?side2 ?side3 ?side4 ?side5 ?side6 ?side7 ?side8 A14.out).mono ?_
        (case side1 => repeat (first | exact (Kd.R_reads' HO334.out).2.2 | (with_reducible refine Kd.C_alloc ?_ _) | (with_reducible refine Kd.C_drewN ?_ _) | (with_reducible refine Kd.C_drew ?_)))
        (case side2 => exact (Kd.R_reads' HO334.out).2.1)
        (case side3 => repeat (first | exact (Kd.R_reads' HO337.out).2.2 | (with_reducible refine Kd.C_alloc ?_ _) | (with_reducible refine Kd.C_drewN ?_ _) | (with_reducible refine Kd.C_drew ?_)))
        (case side4 => exact (Kd.R_reads' HO337.out).2.1)
        (case side5 => repeat (first | exact (Kd.R_reads' HO345.out).2.2 | (with_reducible refine Kd.C_alloc ?_ _) | (with_reducible refine Kd.C_drewN ?_ _) | (with_reducible refine Kd.C_drew ?_)))
        (case side6 => exact (Kd.R_reads' HO345.out).2.1)
        (case side7 => repeat (first | exact (Kd.R_reads' HO348.out).2.2 | (with_reducible refine Kd.C_alloc ?_ _) | (with_reducible refine Kd.C_drewN ?_ _) | (with_reducible refine Kd.C_drew ?_)))
        (case side8 => exact (Kd.R_reads' HO348.out).2.1)
        rintro e w41 ⟨rfl, hb⟩
        refine ⟨_, rfl, ?_⟩
        have n0_ := Aside0.mk (Kd.R_below z27_6 hb)
        have n1_ := Aside0.mk (Kd.R_below z27_5 hb)
        have n2_ := Aside0.mk (Kd.R_below z27_16 hb)
        have n3_ := Aside0.mk (Kd.R_below z27_18 hb)
        have n4_ := Aside0.mk (Kd.R_below z27_17 hb)
        have n5_ := Aside0.mk (Kd.R_below z27_23 hb)
        have n6_ := Aside0.mk (Kd.R_below (by (with_reducible repeat (first | apply Kd.R_alloc | apply Kd.R_drewN | apply Kd.R_drew)); exact HO345.out) hb)
        have n7_ := Aside0.mk (Kd.R_below (by (with_reducible repeat (first | apply Kd.R_alloc | apply Kd.R_drewN | apply Kd.R_drew)); exact HO348.out) hb)
        have n8_ := Aside0.mk (blk_below (g := gb321) (o := .cells #[.slice A0_0 l0_0.length c0_0, .slice A0_1 l0_1.length c0_1] 33 (0, 0)) z27_3 hb)
        have n9_ := Aside0.mk (blk_below (g := gb338) (o := .cells #[.slice Ao29 t332.length co29, .slice Ao32 t335.length co32] 38 (0, 0)) z27_4 hb)
        have n10_ := Aside0.mk (below_step z27_0 hb)
        clear HO325
        clear HO328
        clear HO331
        clear HO334
        clear HO337
        clear HO341
        clear HO345
        clear HO348
        clear BK321
        clear BK338
        clear HB
        have HO325 := n0_
        have HO328 := n1_
        have HO331 := n2_
        have HO334 := n3_
        have HO337 := n4_
        have HO341 := n5_
        have HO345 := n6_
        have HO348 := n7_
        have BK321 := n8_
        have BK338 := n9_
        have HB := n10_
        clear n0_ n1_ n2_ n3_ n4_ n5_ n6_ n7_ n8_ n9_ n10_
        (try clear hb)
        (try clear hb2)
        (try clear hk)
        (try clear hi)
        refine hK.out _ _ ⟨(blk_cell BK338.out 0).trans rfl, (blk_cell BK338.out 1).trans rfl, (blk_cell BK321.out 0).trans rfl, (blk_cell BK321.out 1).trans rfl⟩ (fun hHeld => ?_)
        clear hK K
        refine norm_ (a' := ?_) ?_ ?_
        rotate_left
        · show Act.put _ (some 30) _ = _
          simp only [Act.put, List.setIfInBounds_toArray, List.set_cons_zero, List.set_cons_succ, i64_w, i32_w]
          rfl
        refine pure_ (i := 4) (N := some 31) (v := ?_) (a' := ?_) #[true, true, true, true, true] rfl rfl z27_29 (fun _ _ _ h => h) (Or.inl ⟨by rfl, ?_⟩) ?_ ?_
        rotate_left
        · intro w'
          go_simp
          with_reducible rfl
        rotate_left
        · simp only [Act.put, List.setIfInBounds_toArray, List.set_cons_zero, List.set_cons_succ, i64_w, i32_w]
          rfl
        refine done_ z27_29 ?_
        have hcz42_0 : w41.cell? ⟨gb338, 0, none⟩ = some (.slice Ao29 t332.length co29) := (blk_cell BK338.out 0).trans rfl
        have hcz42_1 : w41.cell? ⟨gb338, 1, none⟩ = some (.slice Ao32 t335.length co32) := (blk_cell BK338.out 1).trans rfl
        have hfz42_0 := blk_frozen BK338.out 0
        have hfz42_1 := blk_frozen BK338.out 1
        go_upto_region 14 with (first | ((first | ((with_reducible refine gate_callee (f := 22) rfl ?_); refine goesL_ (some 34) rfl rfl Try.func22 z27_29 rfl #[.agg #[.slice Ao29 t332.length co29, .slice Ao32 t335.length co32], .int .i64 1] rfl z27_2 ?_; (with_reducible refine (laws_markTrace.calls k (fun k_ => some k_ = (.slice Ao29 t332.length co29 : Value).ownBlock) (.slice Ao29 t332.length co29) t332 (fun k_ => some k_ = (.slice Ao32 t335.length co32 : Value).ownBlock) (.slice Ao32 t335.length co32) t335 1 t350 t351 t352 w _ ?side1 ?side2 ?side3 A16.out).mono ?_)) | (go_at_call 22; (with_reducible refine (laws_markTrace.calls k (fun k_ => some k_ = (.slice Ao29 t332.length co29 : Value).ownBlock) (.slice Ao29 t332.length co29) t332 (fun k_ => some k_ = (.slice Ao32 t335.length co32 : Value).ownBlock) (.slice Ao32 t335.length co32) t335 1 t350 t351 t352 w _ ?side1 ?side2 ?side3 A16.out).mono ?_))); (case side1 => exact z27_0); (case side2 => exact Kd.R_tight rfl HO334.out); (case side3 => exact Kd.R_tight rfl HO337.out); rintro e w43 ⟨rfl, hy0, hy1, hb, hkp⟩; (first | refine ⟨_, rfl, ?_⟩ | skip); have n0_ := Aside0.mk (blk_kept z27_3 hkp (fun hs_ => Or.elim hs_ (fun e_ => (fun e_ => (Kd.R_ne HO334.out BK321.out z27_43) e_) e_) (fun e_ => (fun e_ => (Kd.R_ne HO337.out BK321.out z27_43) e_) e_))); have n1_ := Aside0.mk (Kd.R_mono (ok' := fun k_ => some k_ ≠ (.slice Ao29 t332.length co29 : Value).ownBlock ∧ some k_ ≠ (.slice Ao39 t343.length co39 : Value).ownBlock) (Kd.R_keptB ((Kd.R_apart' HO325.out (Kd.R_typed HO337.out) z27_43)) hkp (fun k_ hk_ hs_ => Or.elim hs_ (fun e_ => (hk_.1.1.2) e_) (fun e_ => (hk_.2) e_))) (fun k_ hk_ => ⟨hk_.1.1.1.2, hk_.1.1.2⟩)); have n2_ := Aside0.mk (Kd.R_mono (ok' := fun k_ => some k_ ≠ (.slice Ao32 t335.length co32 : Value).ownBlock ∧ some k_ ≠ (.slice Ao40 t346.length co40 : Value).ownBlock) (Kd.R_keptB ((Kd.R_apart' HO328.out (Kd.R_typed HO334.out) z27_43)) hkp (fun k_ hk_ hs_ => Or.elim hs_ (fun e_ => (hk_.2) e_) (fun e_ => (hk_.1.1.2) e_))) (fun k_ hk_ => ⟨hk_.1.1.1.2, hk_.1.1.2⟩)); have n3_ := Aside0.mk (Kd.R_mono (ok' := fun k_ => some k_ ≠ (.slice Ao34 t339.length co34 : Value).ownBlock) (Kd.R_keptB ((Kd.R_apart' (Kd.R_apart' HO331.out (Kd.R_typed HO334.out) z27_43) (Kd.R_typed HO337.out) z27_43)) hkp (fun k_ hk_ hs_ => Or.elim hs_ (fun e_ => (hk_.1.2) e_) (fun e_ => (hk_.2) e_))) (fun k_ hk_ => hk_.1.1.1.2)); have n4_ := Aside0.mk (Kd.R_reok rfl hy0 (fun k_ e_ => HO334.out.1 k_ e_)); have n5_ := Aside0.mk (Kd.R_reok rfl hy1 (fun k_ e_ => HO337.out.1 k_ e_)); have n6_ := Aside0.mk (blk_kept z27_4 hkp (fun hs_ => Or.elim hs_ (fun e_ => (fun e_ => (Kd.R_ne HO334.out BK338.out z27_43) e_) e_) (fun e_ => (fun e_ => (Kd.R_ne HO337.out BK338.out z27_43) e_) e_))); have n7_ := Aside0.mk (Kd.R_mono (ok' := fun k_ => some k_ ≠ (.slice Ao35 t329.length co35 : Value).ownBlock) (Kd.R_keptB ((Kd.R_apart' (Kd.R_apart' HO341.out (Kd.R_typed HO334.out) z27_43) (Kd.R_typed HO337.out) z27_43)) hkp (fun k_ hk_ hs_ => Or.elim hs_ (fun e_ => (hk_.1.2) e_) (fun e_ => (hk_.2) e_))) (fun k_ hk_ => hk_.1.1.1.2)); have n8_ := Aside0.mk (Kd.R_mono (ok' := fun k_ => some k_ ≠ (.slice Ao23 t323.length co23 : Value).ownBlock ∧ some k_ ≠ (.slice Ao29 t332.length co29 : Value).ownBlock) (Kd.R_keptB ((Kd.R_apart' HO345.out (Kd.R_typed HO337.out) z27_43)) hkp (fun k_ hk_ hs_ => Or.elim hs_ (fun e_ => (hk_.1.2) e_) (fun e_ => (hk_.2) e_))) (fun k_ hk_ => ⟨hk_.1.1.1.2, hk_.1.1.2⟩)); have n9_ := Aside0.mk (Kd.R_mono (ok' := fun k_ => some k_ ≠ (.slice Ao24 t326.length co24 : Value).ownBlock ∧ some k_ ≠ (.slice Ao32 t335.length co32 : Value).ownBlock) (Kd.R_keptB ((Kd.R_apart' HO348.out (Kd.R_typed HO334.out) z27_43)) hkp (fun k_ hk_ hs_ => Or.elim hs_ (fun e_ => (hk_.2) e_) (fun e_ => (hk_.1.2) e_))) (fun k_ hk_ => ⟨hk_.1.1.1.2, hk_.1.1.2⟩)); have n10_ := Aside0.mk (hb); clear BK321; clear HO325; clear HO328; clear HO331; clear HO334; clear HO337; clear BK338; clear HO341; clear HO345; clear HO348; clear HB; have BK321 := n0_; have HO325 := n1_; have HO328 := n2_; have HO331 := n3_; have HO334 := n4_; have HO337 := n5_; have BK338 := n6_; have HO341 := n7_; have HO345 := n8_; have HO348 := n9_; have HB := n10_; clear n0_ n1_ n2_ n3_ n4_ n5_ n6_ n7_ n8_ n9_ n10_; (try clear hb); (try clear hkp); (try clear hy0); (try clear hy1)))
        (try simp only [Act.put, List.setIfInBounds_toArray, List.set_cons_zero, List.set_cons_succ])
        go_cut [42] (fun v42 wc => ∃ (kq : Nat) (x42_16 : Bool), v42 = .bool x42_16 ∧ Aside0 (laws_FnExactWritesOf.j0 kq t329 t339 x42_16 l0_0 l0_1 = some r) ∧ Aside0 (kq ≤ k) ∧ Aside0 (Kd.R k47 47 wc w.heap.size (fun k_ => some k_ ≠ ((.slice Ao34 t339.length co34) : Value).ownBlock) (.slice Ao35 t329.length co35) t329) ∧ Aside0 (Kd.R k47 47 wc w.heap.size (fun k_ => some k_ ≠ ((.slice Ao35 t329.length co35) : Value).ownBlock) (.slice Ao34 t339.length co34) t339) ∧ Aside0 (Kd.R k54 54 wc w.heap.size (fun _ => True) (.slice Ao29 t332.length co29) t351) ∧ Aside0 (Kd.R (Kd.int .i64) 3 wc w.heap.size (fun _ => True) (.slice Ao32 t335.length co32) t352) ∧ Aside0 (wc.heap[gb321]? = some (.cells #[(.slice A0_0 l0_0.length c0_0), (.slice A0_1 l0_1.length c0_1)] 33 (0, 0))) ∧ Aside0 (wc.heap[gb338]? = some (.cells #[(.slice Ao29 t332.length co29), (.slice Ao32 t335.length co32)] 38 (0, 0))) ∧ Aside0 (Below w.heap.size w wc))
        case first =>
          have H := HC17.out
          clear HC17
          by_cases c44 : t350 < 0
          · rw [if_pos c44] at H
            have c44b0 : decide (t350 < 0) = true := decide_eq_true c44
            clear c44
            (first | rw [c44b0] | (simp only [i64_w, i32_w]; rw [c44b0]) | skip)
            have H' := Aside0.mk H
            clear H
            go_wp2
            go_meet
            case rel => exact ⟨_, (true), (by first | rfl | (simp; done) | (simp [*]; done)), H', ⟨by first | omega | exact Nat.le_refl _⟩, ⟨by (with_reducible repeat (first | apply Kd.R_alloc | apply Kd.R_drewN | apply Kd.R_drew)); exact HO331.out⟩, ⟨by (with_reducible repeat (first | apply Kd.R_alloc | apply Kd.R_drewN | apply Kd.R_drew)); exact HO341.out⟩, ⟨by (with_reducible repeat (first | apply Kd.R_alloc | apply Kd.R_drewN | apply Kd.R_drew)); exact Kd.R_mono HO334.out (fun _ hk => trivial)⟩, ⟨by (with_reducible repeat (first | apply Kd.R_alloc | apply Kd.R_drewN | apply Kd.R_drew)); exact Kd.R_mono HO337.out (fun _ hk => trivial)⟩, ⟨by (with_reducible repeat (first | refine blk_drewN ?_ _ | refine blk_drew ?_ | refine blk_alloc ?_ _)); exact BK321.out⟩, ⟨by (with_reducible repeat (first | refine blk_drewN ?_ _ | refine blk_drew ?_ | refine blk_alloc ?_ _)); exact BK338.out⟩, ⟨by repeat (first | (with_reducible first | exact HB.out | apply below_alloc | apply pw_below_drewN | apply below_drew1 | refine below_set ?_ GE321.out | refine below_set ?_ GE338.out) | exact HB.out)⟩⟩
          · rw [if_neg c44] at H
            have c44b0 : decide (t350 < 0) = false := decide_eq_false c44
            clear c44
            (first | rw [c44b0] | (simp only [i64_w, i32_w]; rw [c44b0]) | skip)
            replace H := Option.bind_eq_some_iff.mp H
            obtain ⟨t353, A450, H⟩ := H
            replace H : (laws_FnExactWritesOf.j0 k t329 t339 (!t353) l0_0 l0_1) = some r := H
            have A45 := Aside0.mk A450
            clear A450
            have H' := Aside0.mk H
            clear H
            go_wp2_with (first | (go_at_call 9; (with_reducible refine (laws_eqWriteS.calls k _ _ t339 _ _ t329 t353 _ ?side1 ?side2 ?side3 ?side4 A45.out).mono ?_); (case side1 => exact z27_27); (case side2 => exact (Kd.R_reads' HO341.out).2.1); (case side3 => exact z27_28); (case side4 => exact (Kd.R_reads' HO331.out).2.1); rintro e w46 ⟨rfl, hb⟩; have n0_ := Aside0.mk (Kd.R_below z27_6 hb); have n1_ := Aside0.mk (Kd.R_below z27_5 hb); have n2_ := Aside0.mk (Kd.R_below z27_16 hb); have n3_ := Aside0.mk (Kd.R_below z27_18 hb); have n4_ := Aside0.mk (Kd.R_below z27_17 hb); have n5_ := Aside0.mk (Kd.R_below z27_23 hb); have n6_ := Aside0.mk (Kd.R_below (by (with_reducible repeat (first | apply Kd.R_alloc | apply Kd.R_drewN | apply Kd.R_drew)); exact HO345.out) hb); have n7_ := Aside0.mk (Kd.R_below (by (with_reducible repeat (first | apply Kd.R_alloc | apply Kd.R_drewN | apply Kd.R_drew)); exact HO348.out) hb); have n8_ := Aside0.mk (blk_below (g := gb321) (o := .cells #[.slice A0_0 l0_0.length c0_0, .slice A0_1 l0_1.length c0_1] 33 (0, 0)) z27_3 hb); have n9_ := Aside0.mk (blk_below (g := gb338) (o := .cells #[.slice Ao29 t332.length co29, .slice Ao32 t335.length co32] 38 (0, 0)) z27_4 hb); have n10_ := Aside0.mk (below_step z27_0 hb); clear HO325; clear HO328; clear HO331; clear HO334; clear HO337; clear HO341; clear HO345; clear HO348; clear BK321; clear BK338; clear HB; have HO325 := n0_; have HO328 := n1_; have HO331 := n2_; have HO334 := n3_; have HO337 := n4_; have HO341 := n5_; have HO345 := n6_; have HO348 := n7_; have BK321 := n8_; have BK338 := n9_; have HB := n10_; clear n0_ n1_ n2_ n3_ n4_ n5_ n6_ n7_ n8_ n9_ n10_; (try clear hb); (try clear hb2); (try clear hk); (try clear hi)))
            go_meet
            case rel => exact ⟨_, (!t353), (by first | rfl | (simp; done) | (simp [*]; done)), H', ⟨by first | omega | exact Nat.le_refl _⟩, ⟨by (with_reducible repeat (first | apply Kd.R_alloc | apply Kd.R_drewN | apply Kd.R_drew)); exact HO331.out⟩, ⟨by (with_reducible repeat (first | apply Kd.R_alloc | apply Kd.R_drewN | apply Kd.R_drew)); exact HO341.out⟩, ⟨by (with_reducible repeat (first | apply Kd.R_alloc | apply Kd.R_drewN | apply Kd.R_drew)); exact Kd.R_mono HO334.out (fun _ hk => trivial)⟩, ⟨by (with_reducible repeat (first | apply Kd.R_alloc | apply Kd.R_drewN | apply Kd.R_drew)); exact Kd.R_mono HO337.out (fun _ hk => trivial)⟩, ⟨by (with_reducible repeat (first | refine blk_drewN ?_ _ | refine blk_drew ?_ | refine blk_alloc ?_ _)); exact BK321.out⟩, ⟨by (with_reducible repeat (first | refine blk_drewN ?_ _ | refine blk_drew ?_ | refine blk_alloc ?_ _)); exact BK338.out⟩, ⟨by repeat (first | (with_reducible first | exact HB.out | apply below_alloc | apply pw_below_drewN | apply below_drew1 | refine below_set ?_ GE321.out | refine below_set ?_ GE338.out) | exact HB.out)⟩⟩
        case rest =>
          clear HC17
          (try clear c3); (try clear c3b0); (try clear c12); (try clear c15); (try clear hcz19_0); (try clear hcz19_1); (try clear hcz21_0); (try clear hcz21_1); (try clear hcz26_0); (try clear hcz26_1); (try clear hcz31_0); (try clear hcz31_1); (try clear hcz42_0); (try clear hcz42_1); (try clear hfz19_0); (try clear hfz19_1); (try clear hfz21_0); (try clear hfz21_1); (try clear hfz26_0); (try clear hfz26_1); (try clear hfz31_0); (try clear hfz31_1); (try clear hfz42_0); (try clear hfz42_1)
          obtain ⟨kq, x42_16, rfl, HA, HJ16, HO_4, HO_6, HO_339000, HO_339001, BK321, BK338, HB⟩ := hcut
          have hl339000_16 := (Kd.R_reads' HO_339000.out).1
          rw [hl339000_16] at HO_339000
          (try simp only [hl339000_16])
          (try simp only [hl339000_16] at BK321)
          (try simp only [hl339000_16] at BK338)
          (try simp only [hl339000_16] at HO_4)
          (try simp only [hl339000_16] at HO_6)
          (try simp only [hl339000_16] at HO_339001)
          have hl339001_16 := (Kd.R_reads' HO_339001.out).1
          rw [hl339001_16] at HO_339001
          (try simp only [hl339001_16])
          (try simp only [hl339001_16] at BK321)
          (try simp only [hl339001_16] at BK338)
          (try simp only [hl339001_16] at HO_4)
          (try simp only [hl339001_16] at HO_6)
          (try simp only [hl339001_16] at HO_339000)
          cases kq with
          | zero => exact absurd HA.out (by simp [laws_FnExactWritesOf.j0])
          | succ kj16 =>
            have H := HA.out
            clear HA
            simp only [laws_FnExactWritesOf.j0] at H
            by_cases c47 : x42_16 = true
            · subst c47
              have H1 : (some false) = some r := by rw [if_pos rfl] at H; exact H
              clear H
              have H := H1
              clear H1
              obtain rfl := Option.some.inj H
              go_wp2
              go_ret
              exact ⟨by first | rfl | (simp [errW_none, errW_some] <;> rfl) | (simp [*, errW_none, errW_some] <;> rfl) | (simp [*, errW_none, errW_some, i64_w]; done), by repeat (first | (with_reducible first | exact HB.out | apply below_alloc | apply pw_below_drewN | apply below_drew1 | refine below_set ?_ GE321.out | refine below_set ?_ GE338.out) | exact HB.out)⟩
            · replace c47 := Bool.eq_false_iff.mpr c47
              subst c47
              have H1 : ((laws_markWriteS.f kj16 t339 1).bind fun bt354 => ((laws_heldWriteS.f kj16 bt354.2 1).bind fun t356 => (if t356 < 0 then (some false) else (if t356 = bt354.1 then ((laws_toTrace.f kj16 l0_0 l0_1).bind fun bt357 => ((impl_WritesOf.f kj16 bt357.1 bt357.2).bind fun t363 => ((laws_eqWriteS.f kj16 t363 t329).bind fun t366 => (if t366 = true then ((laws_heldWriteS.f kj16 bt354.2 1).bind fun t367 => (if t367 < 0 then (some false) else (if t367 = bt354.1 then (some true) else (some false)))) else (some false))))) else (some false))))) = some r := by rw [if_neg (show ¬ (false = true) by decide)] at H; exact H
              clear H
              have H := H1
              clear H1
              replace H := Option.bind_eq_some_iff.mp H
              obtain ⟨⟨t354, t355⟩, A480, H⟩ := H
              replace H : ((laws_heldWriteS.f kj16 t355 1).bind fun t356 => (if t356 < 0 then (some false) else (if t356 = t354 then ((laws_toTrace.f kj16 l0_0 l0_1).bind fun bt357 => ((impl_WritesOf.f kj16 bt357.1 bt357.2).bind fun t363 => ((laws_eqWriteS.f kj16 t363 t329).bind fun t366 => (if t366 = true then ((laws_heldWriteS.f kj16 t355 1).bind fun t367 => (if t367 < 0 then (some false) else (if t367 = t354 then (some true) else (some false)))) else (some false))))) else (some false)))) = some r := H
              have A48 := Aside0.mk A480
              clear A480
              replace H := Option.bind_eq_some_iff.mp H
              obtain ⟨t356, A490, H⟩ := H
              replace H : (if t356 < 0 then (some false) else (if t356 = t354 then ((laws_toTrace.f kj16 l0_0 l0_1).bind fun bt357 => ((impl_WritesOf.f kj16 bt357.1 bt357.2).bind fun t363 => ((laws_eqWriteS.f kj16 t363 t329).bind fun t366 => (if t366 = true then ((laws_heldWriteS.f kj16 t355 1).bind fun t367 => (if t367 < 0 then (some false) else (if t367 = t354 then (some true) else (some false)))) else (some false))))) else (some false))) = some r := H
              have A49 := Aside0.mk A490
              clear A490
              by_cases c50 : t356 < 0
              · rw [if_pos c50] at H
                have c50b0 : decide (t356 < 0) = true := decide_eq_true c50
                clear c50
                obtain rfl := Option.some.inj H
                go_wp2_with (first | ((first | ((with_reducible refine gate_callee (f := 12) rfl ?_); refine goesL_ (some 45) rfl rfl Try.func12 z27_29 rfl #[.slice Ao34 t339.length co34, .int .i64 1] rfl z27_2 ?_; (with_reducible refine (laws_markWriteS.calls kj16 (fun k_ => some k_ = (.slice Ao34 t339.length co34 : Value).ownBlock) (.slice Ao34 t339.length co34) t339 1 t354 t355 w _ ?side1 ?side2 A48.out).mono ?_)) | (go_at_call 12; (with_reducible refine (laws_markWriteS.calls kj16 (fun k_ => some k_ = (.slice Ao34 t339.length co34 : Value).ownBlock) (.slice Ao34 t339.length co34) t339 1 t354 t355 w _ ?side1 ?side2 A48.out).mono ?_))); (case side1 => exact z27_0); (case side2 => exact Kd.R_tight rfl HO_6.out); rintro e w51 ⟨rfl, hy0, hb, hkp⟩; (first | refine ⟨_, rfl, ?_⟩ | skip); have n0_ := Aside0.mk (Kd.R_mono (ok' := fun k_ => some k_ ≠ (.slice Ao34 t339.length co34 : Value).ownBlock) (Kd.R_keptB (HO_4.out) hkp (fun k_ hk_ hs_ => (hk_) hs_)) (fun k_ hk_ => hk_.1)); have n1_ := Aside0.mk (Kd.R_reok rfl hy0 (fun k_ e_ => HO_6.out.1 k_ e_)); have n2_ := Aside0.mk (Kd.R_mono (ok' := fun k_ => True) (Kd.R_keptB ((Kd.R_apart' HO_339000.out (Kd.R_typed HO_6.out) z27_43)) hkp (fun k_ hk_ hs_ => (hk_.2) hs_)) (fun k_ hk_ => trivial)); have n3_ := Aside0.mk (Kd.R_mono (ok' := fun k_ => True) (Kd.R_keptB ((Kd.R_apart' HO_339001.out (Kd.R_typed HO_6.out) z27_43)) hkp (fun k_ hk_ hs_ => (hk_.2) hs_)) (fun k_ hk_ => trivial)); have n4_ := Aside0.mk (blk_kept z27_3 hkp (fun hs_ => (fun e_ => (Kd.R_ne HO_6.out BK321.out z27_43) e_) hs_)); have n5_ := Aside0.mk (blk_kept z27_4 hkp (fun hs_ => (fun e_ => (Kd.R_ne HO_6.out BK338.out z27_43) e_) hs_)); have n6_ := Aside0.mk (hb); clear HO_4; clear HO_6; clear HO_339000; clear HO_339001; clear BK321; clear BK338; clear HB; have HO_4 := n0_; have HO_6 := n1_; have HO_339000 := n2_; have HO_339001 := n3_; have BK321 := n4_; have BK338 := n5_; have HB := n6_; clear n0_ n1_ n2_ n3_ n4_ n5_ n6_; (try clear hb); (try clear hkp); (try clear hy0)) | ((first | ((with_reducible refine gate_callee (f := 13) rfl ?_); refine goesL_ (some 48) rfl rfl Try.func13 z27_29 rfl #[.slice Ao34 t355.length co34, .int .i64 1] rfl z27_9 ?_; (with_reducible refine (laws_heldWriteS.calls kj16 _ _ t355 1 t356 _ ?side1 ?side2 A49.out).mono ?_)) | (go_at_call 13; (with_reducible refine (laws_heldWriteS.calls kj16 _ _ t355 1 t356 _ ?side1 ?side2 A49.out).mono ?_))); (case side1 => exact z27_15); (case side2 => exact z27_19); rintro e w' ⟨rfl, ⟨nd, rfl⟩⟩; (first | refine ⟨_, rfl, ?_⟩ | skip)))
                go_ret
                exact ⟨by first | rfl | (simp [errW_none, errW_some] <;> rfl) | (simp [*, errW_none, errW_some] <;> rfl) | (simp [*, errW_none, errW_some, i64_w]; done), by repeat (first | (with_reducible first | exact HB.out | apply below_alloc | apply pw_below_drewN | apply below_drew1 | refine below_set ?_ GE321.out | refine below_set ?_ GE338.out) | exact HB.out)⟩
              · rw [if_neg c50] at H
                have c50b0 : decide (t356 < 0) = false := decide_eq_false c50
                clear c50
                by_cases c52 : t356 = t354
                · rw [if_pos c52] at H
                  have c52b0 : (t356 == t354) = true := beq_iff_eq.mpr c52
                  have c52b1 : (t356 != t354) = false := bne_eq_false_iff_eq.mpr c52
                  clear c52
                  replace H := Option.bind_eq_some_iff.mp H
                  obtain ⟨⟨t357, t360⟩, A530, H⟩ := H
                  replace H : ((impl_WritesOf.f kj16 t357 t360).bind fun t363 => ((laws_eqWriteS.f kj16 t363 t329).bind fun t366 => (if t366 = true then ((laws_heldWriteS.f kj16 t355 1).bind fun t367 => (if t367 < 0 then (some false) else (if t367 = t354 then (some true) else (some false)))) else (some false)))) = some r := H
                  have A53 := Aside0.mk A530
                  clear A530
                  replace H := Option.bind_eq_some_iff.mp H
                  obtain ⟨t363, A540, H⟩ := H
                  replace H : ((laws_eqWriteS.f kj16 t363 t329).bind fun t366 => (if t366 = true then ((laws_heldWriteS.f kj16 t355 1).bind fun t367 => (if t367 < 0 then (some false) else (if t367 = t354 then (some true) else (some false)))) else (some false))) = some r := H
                  have A54 := Aside0.mk A540
                  clear A540
                  replace H := Option.bind_eq_some_iff.mp H
                  obtain ⟨t366, A550, H⟩ := H
                  replace H : (if t366 = true then ((laws_heldWriteS.f kj16 t355 1).bind fun t367 => (if t367 < 0 then (some false) else (if t367 = t354 then (some true) else (some false)))) else (some false)) = some r := H
                  have A55 := Aside0.mk A550
                  clear A550
                  by_cases c56 : t366 = true
                  · subst c56
                    have H1 : ((laws_heldWriteS.f kj16 t355 1).bind fun t367 => (if t367 < 0 then (some false) else (if t367 = t354 then (some true) else (some false)))) = some r := by rw [if_pos rfl] at H; exact H
                    clear H
                    have H := H1
                    clear H1
                    replace H := Option.bind_eq_some_iff.mp H
                    obtain ⟨t367, A570, H⟩ := H
                    replace H : (if t367 < 0 then (some false) else (if t367 = t354 then (some true) else (some false))) = some r := H
                    have A57 := Aside0.mk A570
                    clear A570
                    by_cases c58 : t367 < 0
                    · rw [if_pos c58] at H
                      have c58b0 : decide (t367 < 0) = true := decide_eq_true c58
                      clear c58
                      obtain rfl := Option.some.inj H
                      go_wp2_with (first | ((first | ((with_reducible refine gate_callee (f := 12) rfl ?_); refine goesL_ (some 45) rfl rfl Try.func12 z27_29 rfl #[.slice Ao34 t339.length co34, .int .i64 1] rfl z27_2 ?_; (with_reducible refine (laws_markWriteS.calls kj16 (fun k_ => some k_ = (.slice Ao34 t339.length co34 : Value).ownBlock) (.slice Ao34 t339.length co34) t339 1 t354 t355 w _ ?side1 ?side2 A48.out).mono ?_)) | (go_at_call 12; (with_reducible refine (laws_markWriteS.calls kj16 (fun k_ => some k_ = (.slice Ao34 t339.length co34 : Value).ownBlock) (.slice Ao34 t339.length co34) t339 1 t354 t355 w _ ?side1 ?side2 A48.out).mono ?_))); (case side1 => exact z27_0); (case side2 => exact Kd.R_tight rfl HO_6.out); rintro e w59 ⟨rfl, hy0, hb, hkp⟩; (first | refine ⟨_, rfl, ?_⟩ | skip); have n0_ := Aside0.mk (Kd.R_mono (ok' := fun k_ => some k_ ≠ (.slice Ao34 t339.length co34 : Value).ownBlock) (Kd.R_keptB (HO_4.out) hkp (fun k_ hk_ hs_ => (hk_) hs_)) (fun k_ hk_ => hk_.1)); have n1_ := Aside0.mk (Kd.R_reok rfl hy0 (fun k_ e_ => HO_6.out.1 k_ e_)); have n2_ := Aside0.mk (Kd.R_mono (ok' := fun k_ => True) (Kd.R_keptB ((Kd.R_apart' HO_339000.out (Kd.R_typed HO_6.out) z27_43)) hkp (fun k_ hk_ hs_ => (hk_.2) hs_)) (fun k_ hk_ => trivial)); have n3_ := Aside0.mk (Kd.R_mono (ok' := fun k_ => True) (Kd.R_keptB ((Kd.R_apart' HO_339001.out (Kd.R_typed HO_6.out) z27_43)) hkp (fun k_ hk_ hs_ => (hk_.2) hs_)) (fun k_ hk_ => trivial)); have n4_ := Aside0.mk (blk_kept z27_3 hkp (fun hs_ => (fun e_ => (Kd.R_ne HO_6.out BK321.out z27_43) e_) hs_)); have n5_ := Aside0.mk (blk_kept z27_4 hkp (fun hs_ => (fun e_ => (Kd.R_ne HO_6.out BK338.out z27_43) e_) hs_)); have n6_ := Aside0.mk (hb); clear HO_4; clear HO_6; clear HO_339000; clear HO_339001; clear BK321; clear BK338; clear HB; have HO_4 := n0_; have HO_6 := n1_; have HO_339000 := n2_; have HO_339001 := n3_; have BK321 := n4_; have BK338 := n5_; have HB := n6_; clear n0_ n1_ n2_ n3_ n4_ n5_ n6_; (try clear hb); (try clear hkp); (try clear hy0)) | ((first | ((with_reducible refine gate_callee (f := 13) rfl ?_); refine goesL_ (some 48) rfl rfl Try.func13 z27_29 rfl #[.slice Ao34 t355.length co34, .int .i64 1] rfl z27_9 ?_; (with_reducible refine (laws_heldWriteS.calls kj16 _ _ t355 1 t356 _ ?side1 ?side2 A49.out).mono ?_)) | (go_at_call 13; (with_reducible refine (laws_heldWriteS.calls kj16 _ _ t355 1 t356 _ ?side1 ?side2 A49.out).mono ?_))); (case side1 => exact z27_15); (case side2 => exact z27_19); rintro e w' ⟨rfl, ⟨nd, rfl⟩⟩; (first | refine ⟨_, rfl, ?_⟩ | skip); have hnb60 := NB321_338.out; have hnc60 := NB338_321.out; have hcz61_0 : w59.cell? ⟨gb321, 0, none⟩ = some (.slice A0_0 l0_0.length c0_0) := (blk_cell BK321.out 0).trans rfl; have hcz61_1 : w59.cell? ⟨gb321, 1, none⟩ = some (.slice A0_1 l0_1.length c0_1) := (blk_cell BK321.out 1).trans rfl; have hfz61_0 := blk_frozen BK321.out 0; have hfz61_1 := blk_frozen BK321.out 1) | ((first | ((with_reducible refine gate_callee (f := 19) rfl ?_); refine goesL_ (some 55) rfl rfl Try.func19 z27_29 rfl #[.agg #[.slice A0_0 l0_0.length c0_0, .slice A0_1 l0_1.length c0_1]] rfl z27_2 ?_; (with_reducible refine (laws_toTrace.calls kj16 _ _ l0_0 _ _ l0_1 t357 t360 _ ?side1 ?side2 ?side3 ?side4 A53.out).mono ?_)) | (go_at_call 19; (with_reducible refine (laws_toTrace.calls kj16 _ _ l0_0 _ _ l0_1 t357 t360 _ ?side1 ?side2 ?side3 ?side4 A53.out).mono ?_))); (case side1 => exact z27_46); (case side2 => exact HC0_0.out); (case side3 => exact z27_45); (case side4 => exact HC0_1.out); rintro e w62 ⟨v358, v361, rfl, ho0, ho1, hb⟩; (first | refine ⟨_, rfl, ?_⟩ | skip); have n0_ := Aside0.mk (Kd.R_below z27_13 hb); have n1_ := Aside0.mk (Kd.R_below z27_12 hb); have n2_ := Aside0.mk (Kd.R_elder' z27_11 (Kd.R_base ho0) hb); have n3_ := Aside0.mk (Kd.R_elder' z27_10 (Kd.R_base ho1) hb); have n4_ := Aside0.mk (Kd.R_lower (Kd.R_new' ho0 (Kd.R_lt z27_11)) (below_size z27_0)); have n5_ := Aside0.mk (Kd.R_lower (Kd.R_new' ho1 (Kd.R_lt z27_10)) (below_size z27_0)); have n6_ := Aside0.mk (blk_below (g := gb321) (o := .cells #[.slice A0_0 l0_0.length c0_0, .slice A0_1 l0_1.length c0_1] 33 (0, 0)) z27_3 hb); have n7_ := Aside0.mk (blk_below (g := gb338) (o := .cells #[.slice Ao29 t351.length co29, .slice Ao32 t352.length co32] 38 (0, 0)) z27_4 hb); have n8_ := Aside0.mk (below_step z27_0 hb); clear HO_4; clear HO_6; clear HO_339000; clear HO_339001; clear BK321; clear BK338; clear HB; have HO_4 := n0_; have HO_6 := n1_; have HO_339000 := n2_; have HO_339001 := n3_; have HO359 := n4_; have HO362 := n5_; have BK321 := n6_; have BK338 := n7_; have HB := n8_; clear n0_ n1_ n2_ n3_ n4_ n5_ n6_ n7_ n8_; (try clear hb); (try clear hb2); (try clear hk); (try clear hi); (try clear ho0); (try clear ho1); obtain ⟨Ao63, co63, eo63⟩ := Kd.R_slice HO359.out; subst eo63; obtain ⟨Ao64, co64, eo64⟩ := Kd.R_slice HO362.out; subst eo64) | ((first | ((with_reducible refine gate_callee (f := 20) rfl ?_); refine goesL_ (some 56) rfl rfl Try.func20 z27_29 rfl #[.agg #[.slice Ao63 t357.length co63, .slice Ao64 t360.length co64]] rfl z27_2 ?_; (with_reducible refine (impl_WritesOf.calls kj16 _ _ t357 _ _ t360 t363 _ ?side1 ?side2 ?side3 ?side4 A54.out).mono ?_)) | (go_at_call 20; (with_reducible refine (impl_WritesOf.calls kj16 _ _ t357 _ _ t360 t363 _ ?side1 ?side2 ?side3 ?side4 A54.out).mono ?_))); (case side1 => exact z27_26); (case side2 => exact (Kd.R_reads' HO359.out).2.1); (case side3 => exact z27_25); (case side4 => exact (Kd.R_reads' HO362.out).2.1); rintro e w65 ⟨v364, rfl, ho0, hb⟩; (first | refine ⟨_, rfl, ?_⟩ | skip); have n0_ := Aside0.mk (Kd.R_elder' z27_13 (Kd.R_base ho0) hb); have n1_ := Aside0.mk (Kd.R_elder' z27_12 (Kd.R_base ho0) hb); have n2_ := Aside0.mk (Kd.R_below z27_11 hb); have n3_ := Aside0.mk (Kd.R_below z27_10 hb); have n4_ := Aside0.mk (Kd.R_below z27_22 hb); have n5_ := Aside0.mk (Kd.R_below z27_21 hb); have n6_ := Aside0.mk (Kd.R_lower (Kd.R_new' (Kd.R_new' ho0 (Kd.R_lt z27_13)) (Kd.R_lt z27_12)) (below_size z27_0)); have n7_ := Aside0.mk (blk_below (g := gb321) (o := .cells #[.slice A0_0 l0_0.length c0_0, .slice A0_1 l0_1.length c0_1] 33 (0, 0)) z27_3 hb); have n8_ := Aside0.mk (blk_below (g := gb338) (o := .cells #[.slice Ao29 t351.length co29, .slice Ao32 t352.length co32] 38 (0, 0)) z27_4 hb); have n9_ := Aside0.mk (below_step z27_0 hb); clear HO_4; clear HO_6; clear HO_339000; clear HO_339001; clear HO359; clear HO362; clear BK321; clear BK338; clear HB; have HO_4 := n0_; have HO_6 := n1_; have HO_339000 := n2_; have HO_339001 := n3_; have HO359 := n4_; have HO362 := n5_; have HO365 := n6_; have BK321 := n7_; have BK338 := n8_; have HB := n9_; clear n0_ n1_ n2_ n3_ n4_ n5_ n6_ n7_ n8_ n9_; (try clear hb); (try clear hb2); (try clear hk); (try clear hi); (try clear ho0); obtain ⟨Ao66, co66, eo66⟩ := Kd.R_slice HO365.out; subst eo66) | ((first | ((with_reducible refine gate_callee (f := 9) rfl ?_); refine goesL_ (some 59) rfl rfl Try.func9 z27_29 rfl #[.slice Ao66 t363.length co66, .slice Ao35 t329.length co35] rfl z27_2 ?_; (with_reducible refine (laws_eqWriteS.calls kj16 _ _ t363 _ _ t329 true _ ?side1 ?side2 ?side3 ?side4 A55.out).mono ?_)) | (go_at_call 9; (with_reducible refine (laws_eqWriteS.calls kj16 _ _ t363 _ _ t329 true _ ?side1 ?side2 ?side3 ?side4 A55.out).mono ?_))); (case side1 => exact z27_24); (case side2 => exact (Kd.R_reads' HO365.out).2.1); (case side3 => exact z27_30); (case side4 => exact (Kd.R_reads' HO_4.out).2.1); rintro e w67 ⟨rfl, hb⟩; (first | refine ⟨_, rfl, ?_⟩ | skip); have n0_ := Aside0.mk (Kd.R_below z27_13 hb); have n1_ := Aside0.mk (Kd.R_below z27_12 hb); have n2_ := Aside0.mk (Kd.R_below z27_11 hb); have n3_ := Aside0.mk (Kd.R_below z27_10 hb); have n4_ := Aside0.mk (Kd.R_below z27_22 hb); have n5_ := Aside0.mk (Kd.R_below z27_21 hb); have n6_ := Aside0.mk (Kd.R_below z27_42 hb); have n7_ := Aside0.mk (blk_below (g := gb321) (o := .cells #[.slice A0_0 l0_0.length c0_0, .slice A0_1 l0_1.length c0_1] 33 (0, 0)) z27_3 hb); have n8_ := Aside0.mk (blk_below (g := gb338) (o := .cells #[.slice Ao29 t351.length co29, .slice Ao32 t352.length co32] 38 (0, 0)) z27_4 hb); have n9_ := Aside0.mk (below_step z27_0 hb); clear HO_4; clear HO_6; clear HO_339000; clear HO_339001; clear HO359; clear HO362; clear HO365; clear BK321; clear BK338; clear HB; have HO_4 := n0_; have HO_6 := n1_; have HO_339000 := n2_; have HO_339001 := n3_; have HO359 := n4_; have HO362 := n5_; have HO365 := n6_; have BK321 := n7_; have BK338 := n8_; have HB := n9_; clear n0_ n1_ n2_ n3_ n4_ n5_ n6_ n7_ n8_ n9_; (try clear hb); (try clear hb2); (try clear hk); (try clear hi)) | ((first | ((with_reducible refine gate_callee (f := 13) rfl ?_); refine goesL_ (some 63) rfl rfl Try.func13 z27_29 rfl #[.slice Ao34 t355.length co34, .int .i64 1] rfl z27_9 ?_; (with_reducible refine (laws_heldWriteS.calls kj16 _ _ t355 1 t367 _ ?side1 ?side2 A57.out).mono ?_)) | (go_at_call 13; (with_reducible refine (laws_heldWriteS.calls kj16 _ _ t355 1 t367 _ ?side1 ?side2 A57.out).mono ?_))); (case side1 => exact z27_15); (case side2 => exact z27_19); rintro e w' ⟨rfl, ⟨nd, rfl⟩⟩; (first | refine ⟨_, rfl, ?_⟩ | skip)))
                      go_ret
                      exact ⟨by first | rfl | (simp [errW_none, errW_some] <;> rfl) | (simp [*, errW_none, errW_some] <;> rfl) | (simp [*, errW_none, errW_some, i64_w]; done), by repeat (first | (with_reducible first | exact HB.out | apply below_alloc | apply pw_below_drewN | apply below_drew1 | refine below_set ?_ GE321.out | refine below_set ?_ GE338.out) | exact HB.out)⟩
                    · rw [if_neg c58] at H
                      have c58b0 : decide (t367 < 0) = false := decide_eq_false c58
                      clear c58
                      by_cases c68 : t367 = t354
                      · rw [if_pos c68] at H
                        have c68b0 : (t367 == t354) = true := beq_iff_eq.mpr c68
                        have c68b1 : (t367 != t354) = false := bne_eq_false_iff_eq.mpr c68
                        clear c68
                        obtain rfl := Option.some.inj H
                        go_wp2_with (first | ((first | ((with_reducible refine gate_callee (f := 12) rfl ?_); refine goesL_ (some 45) rfl rfl Try.func12 z27_29 rfl #[.slice Ao34 t339.length co34, .int .i64 1] rfl z27_2 ?_; (with_reducible refine (laws_markWriteS.calls kj16 (fun k_ => some k_ = (.slice Ao34 t339.length co34 : Value).ownBlock) (.slice Ao34 t339.length co34) t339 1 t354 t355 w _ ?side1 ?side2 A48.out).mono ?_)) | (go_at_call 12; (with_reducible refine (laws_markWriteS.calls kj16 (fun k_ => some k_ = (.slice Ao34 t339.length co34 : Value).ownBlock) (.slice Ao34 t339.length co34) t339 1 t354 t355 w _ ?side1 ?side2 A48.out).mono ?_))); (case side1 => exact z27_0); (case side2 => exact Kd.R_tight rfl HO_6.out); rintro e w69 ⟨rfl, hy0, hb, hkp⟩; (first | refine ⟨_, rfl, ?_⟩ | skip); have n0_ := Aside0.mk (Kd.R_mono (ok' := fun k_ => some k_ ≠ (.slice Ao34 t339.length co34 : Value).ownBlock) (Kd.R_keptB (HO_4.out) hkp (fun k_ hk_ hs_ => (hk_) hs_)) (fun k_ hk_ => hk_.1)); have n1_ := Aside0.mk (Kd.R_reok rfl hy0 (fun k_ e_ => HO_6.out.1 k_ e_)); have n2_ := Aside0.mk (Kd.R_mono (ok' := fun k_ => True) (Kd.R_keptB ((Kd.R_apart' HO_339000.out (Kd.R_typed HO_6.out) z27_43)) hkp (fun k_ hk_ hs_ => (hk_.2) hs_)) (fun k_ hk_ => trivial)); have n3_ := Aside0.mk (Kd.R_mono (ok' := fun k_ => True) (Kd.R_keptB ((Kd.R_apart' HO_339001.out (Kd.R_typed HO_6.out) z27_43)) hkp (fun k_ hk_ hs_ => (hk_.2) hs_)) (fun k_ hk_ => trivial)); have n4_ := Aside0.mk (blk_kept z27_3 hkp (fun hs_ => (fun e_ => (Kd.R_ne HO_6.out BK321.out z27_43) e_) hs_)); have n5_ := Aside0.mk (blk_kept z27_4 hkp (fun hs_ => (fun e_ => (Kd.R_ne HO_6.out BK338.out z27_43) e_) hs_)); have n6_ := Aside0.mk (hb); clear HO_4; clear HO_6; clear HO_339000; clear HO_339001; clear BK321; clear BK338; clear HB; have HO_4 := n0_; have HO_6 := n1_; have HO_339000 := n2_; have HO_339001 := n3_; have BK321 := n4_; have BK338 := n5_; have HB := n6_; clear n0_ n1_ n2_ n3_ n4_ n5_ n6_; (try clear hb); (try clear hkp); (try clear hy0)) | ((first | ((with_reducible refine gate_callee (f := 13) rfl ?_); refine goesL_ (some 48) rfl rfl Try.func13 z27_29 rfl #[.slice Ao34 t355.length co34, .int .i64 1] rfl z27_9 ?_; (with_reducible refine (laws_heldWriteS.calls kj16 _ _ t355 1 t356 _ ?side1 ?side2 A49.out).mono ?_)) | (go_at_call 13; (with_reducible refine (laws_heldWriteS.calls kj16 _ _ t355 1 t356 _ ?side1 ?side2 A49.out).mono ?_))); (case side1 => exact z27_15); (case side2 => exact z27_19); rintro e w' ⟨rfl, ⟨nd, rfl⟩⟩; (first | refine ⟨_, rfl, ?_⟩ | skip); have hnb70 := NB321_338.out; have hnc70 := NB338_321.out; have hcz71_0 : w69.cell? ⟨gb321, 0, none⟩ = some (.slice A0_0 l0_0.length c0_0) := (blk_cell BK321.out 0).trans rfl; have hcz71_1 : w69.cell? ⟨gb321, 1, none⟩ = some (.slice A0_1 l0_1.length c0_1) := (blk_cell BK321.out 1).trans rfl; have hfz71_0 := blk_frozen BK321.out 0; have hfz71_1 := blk_frozen BK321.out 1) | ((first | ((with_reducible refine gate_callee (f := 19) rfl ?_); refine goesL_ (some 55) rfl rfl Try.func19 z27_29 rfl #[.agg #[.slice A0_0 l0_0.length c0_0, .slice A0_1 l0_1.length c0_1]] rfl z27_2 ?_; (with_reducible refine (laws_toTrace.calls kj16 _ _ l0_0 _ _ l0_1 t357 t360 _ ?side1 ?side2 ?side3 ?side4 A53.out).mono ?_)) | (go_at_call 19; (with_reducible refine (laws_toTrace.calls kj16 _ _ l0_0 _ _ l0_1 t357 t360 _ ?side1 ?side2 ?side3 ?side4 A53.out).mono ?_))); (case side1 => exact z27_46); (case side2 => exact HC0_0.out); (case side3 => exact z27_45); (case side4 => exact HC0_1.out); rintro e w72 ⟨v358, v361, rfl, ho0, ho1, hb⟩; (first | refine ⟨_, rfl, ?_⟩ | skip); have n0_ := Aside0.mk (Kd.R_below z27_13 hb); have n1_ := Aside0.mk (Kd.R_below z27_12 hb); have n2_ := Aside0.mk (Kd.R_elder' z27_11 (Kd.R_base ho0) hb); have n3_ := Aside0.mk (Kd.R_elder' z27_10 (Kd.R_base ho1) hb); have n4_ := Aside0.mk (Kd.R_lower (Kd.R_new' ho0 (Kd.R_lt z27_11)) (below_size z27_0)); have n5_ := Aside0.mk (Kd.R_lower (Kd.R_new' ho1 (Kd.R_lt z27_10)) (below_size z27_0)); have n6_ := Aside0.mk (blk_below (g := gb321) (o := .cells #[.slice A0_0 l0_0.length c0_0, .slice A0_1 l0_1.length c0_1] 33 (0, 0)) z27_3 hb); have n7_ := Aside0.mk (blk_below (g := gb338) (o := .cells #[.slice Ao29 t351.length co29, .slice Ao32 t352.length co32] 38 (0, 0)) z27_4 hb); have n8_ := Aside0.mk (below_step z27_0 hb); clear HO_4; clear HO_6; clear HO_339000; clear HO_339001; clear BK321; clear BK338; clear HB; have HO_4 := n0_; have HO_6 := n1_; have HO_339000 := n2_; have HO_339001 := n3_; have HO359 := n4_; have HO362 := n5_; have BK321 := n6_; have BK338 := n7_; have HB := n8_; clear n0_ n1_ n2_ n3_ n4_ n5_ n6_ n7_ n8_; (try clear hb); (try clear hb2); (try clear hk); (try clear hi); (try clear ho0); (try clear ho1); obtain ⟨Ao73, co73, eo73⟩ := Kd.R_slice HO359.out; subst eo73; obtain ⟨Ao74, co74, eo74⟩ := Kd.R_slice HO362.out; subst eo74) | ((first | ((with_reducible refine gate_callee (f := 20) rfl ?_); refine goesL_ (some 56) rfl rfl Try.func20 z27_29 rfl #[.agg #[.slice Ao73 t357.length co73, .slice Ao74 t360.length co74]] rfl z27_2 ?_; (with_reducible refine (impl_WritesOf.calls kj16 _ _ t357 _ _ t360 t363 _ ?side1 ?side2 ?side3 ?side4 A54.out).mono ?_)) | (go_at_call 20; (with_reducible refine (impl_WritesOf.calls kj16 _ _ t357 _ _ t360 t363 _ ?side1 ?side2 ?side3 ?side4 A54.out).mono ?_))); (case side1 => exact z27_26); (case side2 => exact (Kd.R_reads' HO359.out).2.1); (case side3 => exact z27_25); (case side4 => exact (Kd.R_reads' HO362.out).2.1); rintro e w75 ⟨v364, rfl, ho0, hb⟩; (first | refine ⟨_, rfl, ?_⟩ | skip); have n0_ := Aside0.mk (Kd.R_elder' z27_13 (Kd.R_base ho0) hb); have n1_ := Aside0.mk (Kd.R_elder' z27_12 (Kd.R_base ho0) hb); have n2_ := Aside0.mk (Kd.R_below z27_11 hb); have n3_ := Aside0.mk (Kd.R_below z27_10 hb); have n4_ := Aside0.mk (Kd.R_below z27_22 hb); have n5_ := Aside0.mk (Kd.R_below z27_21 hb); have n6_ := Aside0.mk (Kd.R_lower (Kd.R_new' (Kd.R_new' ho0 (Kd.R_lt z27_13)) (Kd.R_lt z27_12)) (below_size z27_0)); have n7_ := Aside0.mk (blk_below (g := gb321) (o := .cells #[.slice A0_0 l0_0.length c0_0, .slice A0_1 l0_1.length c0_1] 33 (0, 0)) z27_3 hb); have n8_ := Aside0.mk (blk_below (g := gb338) (o := .cells #[.slice Ao29 t351.length co29, .slice Ao32 t352.length co32] 38 (0, 0)) z27_4 hb); have n9_ := Aside0.mk (below_step z27_0 hb); clear HO_4; clear HO_6; clear HO_339000; clear HO_339001; clear HO359; clear HO362; clear BK321; clear BK338; clear HB; have HO_4 := n0_; have HO_6 := n1_; have HO_339000 := n2_; have HO_339001 := n3_; have HO359 := n4_; have HO362 := n5_; have HO365 := n6_; have BK321 := n7_; have BK338 := n8_; have HB := n9_; clear n0_ n1_ n2_ n3_ n4_ n5_ n6_ n7_ n8_ n9_; (try clear hb); (try clear hb2); (try clear hk); (try clear hi); (try clear ho0); obtain ⟨Ao76, co76, eo76⟩ := Kd.R_slice HO365.out; subst eo76) | ((first | ((with_reducible refine gate_callee (f := 9) rfl ?_); refine goesL_ (some 59) rfl rfl Try.func9 z27_29 rfl #[.slice Ao76 t363.length co76, .slice Ao35 t329.length co35] rfl z27_2 ?_; (with_reducible refine (laws_eqWriteS.calls kj16 _ _ t363 _ _ t329 true _ ?side1 ?side2 ?side3 ?side4 A55.out).mono ?_)) | (go_at_call 9; (with_reducible refine (laws_eqWriteS.calls kj16 _ _ t363 _ _ t329 true _ ?side1 ?side2 ?side3 ?side4 A55.out).mono ?_))); (case side1 => exact z27_24); (case side2 => exact (Kd.R_reads' HO365.out).2.1); (case side3 => exact z27_30); (case side4 => exact (Kd.R_reads' HO_4.out).2.1); rintro e w77 ⟨rfl, hb⟩; (first | refine ⟨_, rfl, ?_⟩ | skip); have n0_ := Aside0.mk (Kd.R_below z27_13 hb); have n1_ := Aside0.mk (Kd.R_below z27_12 hb); have n2_ := Aside0.mk (Kd.R_below z27_11 hb); have n3_ := Aside0.mk (Kd.R_below z27_10 hb); have n4_ := Aside0.mk (Kd.R_below z27_22 hb); have n5_ := Aside0.mk (Kd.R_below z27_21 hb); have n6_ := Aside0.mk (Kd.R_below z27_42 hb); have n7_ := Aside0.mk (blk_below (g := gb321) (o := .cells #[.slice A0_0 l0_0.length c0_0, .slice A0_1 l0_1.length c0_1] 33 (0, 0)) z27_3 hb); have n8_ := Aside0.mk (blk_below (g := gb338) (o := .cells #[.slice Ao29 t351.length co29, .slice Ao32 t352.length co32] 38 (0, 0)) z27_4 hb); have n9_ := Aside0.mk (below_step z27_0 hb); clear HO_4; clear HO_6; clear HO_339000; clear HO_339001; clear HO359; clear HO362; clear HO365; clear BK321; clear BK338; clear HB; have HO_4 := n0_; have HO_6 := n1_; have HO_339000 := n2_; have HO_339001 := n3_; have HO359 := n4_; have HO362 := n5_; have HO365 := n6_; have BK321 := n7_; have BK338 := n8_; have HB := n9_; clear n0_ n1_ n2_ n3_ n4_ n5_ n6_ n7_ n8_ n9_; (try clear hb); (try clear hb2); (try clear hk); (try clear hi)) | ((first | ((with_reducible refine gate_callee (f := 13) rfl ?_); refine goesL_ (some 63) rfl rfl Try.func13 z27_29 rfl #[.slice Ao34 t355.length co34, .int .i64 1] rfl z27_9 ?_; (with_reducible refine (laws_heldWriteS.calls kj16 _ _ t355 1 t367 _ ?side1 ?side2 A57.out).mono ?_)) | (go_at_call 13; (with_reducible refine (laws_heldWriteS.calls kj16 _ _ t355 1 t367 _ ?side1 ?side2 A57.out).mono ?_))); (case side1 => exact z27_15); (case side2 => exact z27_19); rintro e w' ⟨rfl, ⟨nd, rfl⟩⟩; (first | refine ⟨_, rfl, ?_⟩ | skip)))
                        go_ret
                        exact ⟨by first | rfl | (simp [errW_none, errW_some] <;> rfl) | (simp [*, errW_none, errW_some] <;> rfl) | (simp [*, errW_none, errW_some, i64_w]; done), by repeat (first | (with_reducible first | exact HB.out | apply below_alloc | apply pw_below_drewN | apply below_drew1 | refine below_set ?_ GE321.out | refine below_set ?_ GE338.out) | exact HB.out)⟩
                      · rw [if_neg c68] at H
                        have c68b0 : (t367 == t354) = false := beq_eq_false_iff_ne.mpr c68
                        have c68b1 : (t367 != t354) = true := bne_iff_ne.mpr c68
                        obtain rfl := Option.some.inj H
                        go_wp2_with (first | ((first | ((with_reducible refine gate_callee (f := 12) rfl ?_); refine goesL_ (some 45) rfl rfl Try.func12 z27_29 rfl #[.slice Ao34 t339.length co34, .int .i64 1] rfl z27_2 ?_; (with_reducible refine (laws_markWriteS.calls kj16 (fun k_ => some k_ = (.slice Ao34 t339.length co34 : Value).ownBlock) (.slice Ao34 t339.length co34) t339 1 t354 t355 w _ ?side1 ?side2 A48.out).mono ?_)) | (go_at_call 12; (with_reducible refine (laws_markWriteS.calls kj16 (fun k_ => some k_ = (.slice Ao34 t339.length co34 : Value).ownBlock) (.slice Ao34 t339.length co34) t339 1 t354 t355 w _ ?side1 ?side2 A48.out).mono ?_))); (case side1 => exact z27_0); (case side2 => exact Kd.R_tight rfl HO_6.out); rintro e w78 ⟨rfl, hy0, hb, hkp⟩; (first | refine ⟨_, rfl, ?_⟩ | skip); have n0_ := Aside0.mk (Kd.R_mono (ok' := fun k_ => some k_ ≠ (.slice Ao34 t339.length co34 : Value).ownBlock) (Kd.R_keptB (HO_4.out) hkp (fun k_ hk_ hs_ => (hk_) hs_)) (fun k_ hk_ => hk_.1)); have n1_ := Aside0.mk (Kd.R_reok rfl hy0 (fun k_ e_ => HO_6.out.1 k_ e_)); have n2_ := Aside0.mk (Kd.R_mono (ok' := fun k_ => True) (Kd.R_keptB ((Kd.R_apart' HO_339000.out (Kd.R_typed HO_6.out) z27_43)) hkp (fun k_ hk_ hs_ => (hk_.2) hs_)) (fun k_ hk_ => trivial)); have n3_ := Aside0.mk (Kd.R_mono (ok' := fun k_ => True) (Kd.R_keptB ((Kd.R_apart' HO_339001.out (Kd.R_typed HO_6.out) z27_43)) hkp (fun k_ hk_ hs_ => (hk_.2) hs_)) (fun k_ hk_ => trivial)); have n4_ := Aside0.mk (blk_kept z27_3 hkp (fun hs_ => (fun e_ => (Kd.R_ne HO_6.out BK321.out z27_43) e_) hs_)); have n5_ := Aside0.mk (blk_kept z27_4 hkp (fun hs_ => (fun e_ => (Kd.R_ne HO_6.out BK338.out z27_43) e_) hs_)); have n6_ := Aside0.mk (hb); clear HO_4; clear HO_6; clear HO_339000; clear HO_339001; clear BK321; clear BK338; clear HB; have HO_4 := n0_; have HO_6 := n1_; have HO_339000 := n2_; have HO_339001 := n3_; have BK321 := n4_; have BK338 := n5_; have HB := n6_; clear n0_ n1_ n2_ n3_ n4_ n5_ n6_; (try clear hb); (try clear hkp); (try clear hy0)) | ((first | ((with_reducible refine gate_callee (f := 13) rfl ?_); refine goesL_ (some 48) rfl rfl Try.func13 z27_29 rfl #[.slice Ao34 t355.length co34, .int .i64 1] rfl z27_9 ?_; (with_reducible refine (laws_heldWriteS.calls kj16 _ _ t355 1 t356 _ ?side1 ?side2 A49.out).mono ?_)) | (go_at_call 13; (with_reducible refine (laws_heldWriteS.calls kj16 _ _ t355 1 t356 _ ?side1 ?side2 A49.out).mono ?_))); (case side1 => exact z27_15); (case side2 => exact z27_19); rintro e w' ⟨rfl, ⟨nd, rfl⟩⟩; (first | refine ⟨_, rfl, ?_⟩ | skip); have hnb79 := NB321_338.out; have hnc79 := NB338_321.out; have hcz80_0 : w78.cell? ⟨gb321, 0, none⟩ = some (.slice A0_0 l0_0.length c0_0) := (blk_cell BK321.out 0).trans rfl; have hcz80_1 : w78.cell? ⟨gb321, 1, none⟩ = some (.slice A0_1 l0_1.length c0_1) := (blk_cell BK321.out 1).trans rfl; have hfz80_0 := blk_frozen BK321.out 0; have hfz80_1 := blk_frozen BK321.out 1) | ((first | ((with_reducible refine gate_callee (f := 19) rfl ?_); refine goesL_ (some 55) rfl rfl Try.func19 z27_29 rfl #[.agg #[.slice A0_0 l0_0.length c0_0, .slice A0_1 l0_1.length c0_1]] rfl z27_2 ?_; (with_reducible refine (laws_toTrace.calls kj16 _ _ l0_0 _ _ l0_1 t357 t360 _ ?side1 ?side2 ?side3 ?side4 A53.out).mono ?_)) | (go_at_call 19; (with_reducible refine (laws_toTrace.calls kj16 _ _ l0_0 _ _ l0_1 t357 t360 _ ?side1 ?side2 ?side3 ?side4 A53.out).mono ?_))); (case side1 => exact z27_46); (case side2 => exact HC0_0.out); (case side3 => exact z27_45); (case side4 => exact HC0_1.out); rintro e w81 ⟨v358, v361, rfl, ho0, ho1, hb⟩; (first | refine ⟨_, rfl, ?_⟩ | skip); have n0_ := Aside0.mk (Kd.R_below z27_13 hb); have n1_ := Aside0.mk (Kd.R_below z27_12 hb); have n2_ := Aside0.mk (Kd.R_elder' z27_11 (Kd.R_base ho0) hb); have n3_ := Aside0.mk (Kd.R_elder' z27_10 (Kd.R_base ho1) hb); have n4_ := Aside0.mk (Kd.R_lower (Kd.R_new' ho0 (Kd.R_lt z27_11)) (below_size z27_0)); have n5_ := Aside0.mk (Kd.R_lower (Kd.R_new' ho1 (Kd.R_lt z27_10)) (below_size z27_0)); have n6_ := Aside0.mk (blk_below (g := gb321) (o := .cells #[.slice A0_0 l0_0.length c0_0, .slice A0_1 l0_1.length c0_1] 33 (0, 0)) z27_3 hb); have n7_ := Aside0.mk (blk_below (g := gb338) (o := .cells #[.slice Ao29 t351.length co29, .slice Ao32 t352.length co32] 38 (0, 0)) z27_4 hb); have n8_ := Aside0.mk (below_step z27_0 hb); clear HO_4; clear HO_6; clear HO_339000; clear HO_339001; clear BK321; clear BK338; clear HB; have HO_4 := n0_; have HO_6 := n1_; have HO_339000 := n2_; have HO_339001 := n3_; have HO359 := n4_; have HO362 := n5_; have BK321 := n6_; have BK338 := n7_; have HB := n8_; clear n0_ n1_ n2_ n3_ n4_ n5_ n6_ n7_ n8_; (try clear hb); (try clear hb2); (try clear hk); (try clear hi); (try clear ho0); (try clear ho1); obtain ⟨Ao82, co82, eo82⟩ := Kd.R_slice HO359.out; subst eo82; obtain ⟨Ao83, co83, eo83⟩ := Kd.R_slice HO362.out; subst eo83) | ((first | ((with_reducible refine gate_callee (f := 20) rfl ?_); refine goesL_ (some 56) rfl rfl Try.func20 z27_29 rfl #[.agg #[.slice Ao82 t357.length co82, .slice Ao83 t360.length co83]] rfl z27_2 ?_; (with_reducible refine (impl_WritesOf.calls kj16 _ _ t357 _ _ t360 t363 _ ?side1 ?side2 ?side3 ?side4 A54.out).mono ?_)) | (go_at_call 20; (with_reducible refine (impl_WritesOf.calls kj16 _ _ t357 _ _ t360 t363 _ ?side1 ?side2 ?side3 ?side4 A54.out).mono ?_))); (case side1 => exact z27_26); (case side2 => exact (Kd.R_reads' HO359.out).2.1); (case side3 => exact z27_25); (case side4 => exact (Kd.R_reads' HO362.out).2.1); rintro e w84 ⟨v364, rfl, ho0, hb⟩; (first | refine ⟨_, rfl, ?_⟩ | skip); have n0_ := Aside0.mk (Kd.R_elder' z27_13 (Kd.R_base ho0) hb); have n1_ := Aside0.mk (Kd.R_elder' z27_12 (Kd.R_base ho0) hb); have n2_ := Aside0.mk (Kd.R_below z27_11 hb); have n3_ := Aside0.mk (Kd.R_below z27_10 hb); have n4_ := Aside0.mk (Kd.R_below z27_22 hb); have n5_ := Aside0.mk (Kd.R_below z27_21 hb); have n6_ := Aside0.mk (Kd.R_lower (Kd.R_new' (Kd.R_new' ho0 (Kd.R_lt z27_13)) (Kd.R_lt z27_12)) (below_size z27_0)); have n7_ := Aside0.mk (blk_below (g := gb321) (o := .cells #[.slice A0_0 l0_0.length c0_0, .slice A0_1 l0_1.length c0_1] 33 (0, 0)) z27_3 hb); have n8_ := Aside0.mk (blk_below (g := gb338) (o := .cells #[.slice Ao29 t351.length co29, .slice Ao32 t352.length co32] 38 (0, 0)) z27_4 hb); have n9_ := Aside0.mk (below_step z27_0 hb); clear HO_4; clear HO_6; clear HO_339000; clear HO_339001; clear HO359; clear HO362; clear BK321; clear BK338; clear HB; have HO_4 := n0_; have HO_6 := n1_; have HO_339000 := n2_; have HO_339001 := n3_; have HO359 := n4_; have HO362 := n5_; have HO365 := n6_; have BK321 := n7_; have BK338 := n8_; have HB := n9_; clear n0_ n1_ n2_ n3_ n4_ n5_ n6_ n7_ n8_ n9_; (try clear hb); (try clear hb2); (try clear hk); (try clear hi); (try clear ho0); obtain ⟨Ao85, co85, eo85⟩ := Kd.R_slice HO365.out; subst eo85) | ((first | ((with_reducible refine gate_callee (f := 9) rfl ?_); refine goesL_ (some 59) rfl rfl Try.func9 z27_29 rfl #[.slice Ao85 t363.length co85, .slice Ao35 t329.length co35] rfl z27_2 ?_; (with_reducible refine (laws_eqWriteS.calls kj16 _ _ t363 _ _ t329 true _ ?side1 ?side2 ?side3 ?side4 A55.out).mono ?_)) | (go_at_call 9; (with_reducible refine (laws_eqWriteS.calls kj16 _ _ t363 _ _ t329 true _ ?side1 ?side2 ?side3 ?side4 A55.out).mono ?_))); (case side1 => exact z27_24); (case side2 => exact (Kd.R_reads' HO365.out).2.1); (case side3 => exact z27_30); (case side4 => exact (Kd.R_reads' HO_4.out).2.1); rintro e w86 ⟨rfl, hb⟩; (first | refine ⟨_, rfl, ?_⟩ | skip); have n0_ := Aside0.mk (Kd.R_below z27_13 hb); have n1_ := Aside0.mk (Kd.R_below z27_12 hb); have n2_ := Aside0.mk (Kd.R_below z27_11 hb); have n3_ := Aside0.mk (Kd.R_below z27_10 hb); have n4_ := Aside0.mk (Kd.R_below z27_22 hb); have n5_ := Aside0.mk (Kd.R_below z27_21 hb); have n6_ := Aside0.mk (Kd.R_below z27_42 hb); have n7_ := Aside0.mk (blk_below (g := gb321) (o := .cells #[.slice A0_0 l0_0.length c0_0, .slice A0_1 l0_1.length c0_1] 33 (0, 0)) z27_3 hb); have n8_ := Aside0.mk (blk_below (g := gb338) (o := .cells #[.slice Ao29 t351.length co29, .slice Ao32 t352.length co32] 38 (0, 0)) z27_4 hb); have n9_ := Aside0.mk (below_step z27_0 hb); clear HO_4; clear HO_6; clear HO_339000; clear HO_339001; clear HO359; clear HO362; clear HO365; clear BK321; clear BK338; clear HB; have HO_4 := n0_; have HO_6 := n1_; have HO_339000 := n2_; have HO_339001 := n3_; have HO359 := n4_; have HO362 := n5_; have HO365 := n6_; have BK321 := n7_; have BK338 := n8_; have HB := n9_; clear n0_ n1_ n2_ n3_ n4_ n5_ n6_ n7_ n8_ n9_; (try clear hb); (try clear hb2); (try clear hk); (try clear hi)) | ((first | ((with_reducible refine gate_callee (f := 13) rfl ?_); refine goesL_ (some 63) rfl rfl Try.func13 z27_29 rfl #[.slice Ao34 t355.length co34, .int .i64 1] rfl z27_9 ?_; (with_reducible refine (laws_heldWriteS.calls kj16 _ _ t355 1 t367 _ ?side1 ?side2 A57.out).mono ?_)) | (go_at_call 13; (with_reducible refine (laws_heldWriteS.calls kj16 _ _ t355 1 t367 _ ?side1 ?side2 A57.out).mono ?_))); (case side1 => exact z27_15); (case side2 => exact z27_19); rintro e w' ⟨rfl, ⟨nd, rfl⟩⟩; (first | refine ⟨_, rfl, ?_⟩ | skip)))
                        go_ret
                        exact ⟨by first | rfl | (simp [errW_none, errW_some] <;> rfl) | (simp [*, errW_none, errW_some] <;> rfl) | (simp [*, errW_none, errW_some, i64_w]; done), by repeat (first | (with_reducible first | exact HB.out | apply below_alloc | apply pw_below_drewN | apply below_drew1 | refine below_set ?_ GE321.out | refine below_set ?_ GE338.out) | exact HB.out)⟩
                  · replace c56 := Bool.eq_false_iff.mpr c56
                    subst c56
                    have H1 : (some false) = some r := by rw [if_neg (show ¬ (false = true) by decide)] at H; exact H
                    clear H
                    have H := H1
                    clear H1
                    obtain rfl := Option.some.inj H
                    go_wp2_with (first | ((first | ((with_reducible refine gate_callee (f := 12) rfl ?_); refine goesL_ (some 45) rfl rfl Try.func12 z27_29 rfl #[.slice Ao34 t339.length co34, .int .i64 1] rfl z27_2 ?_; (with_reducible refine (laws_markWriteS.calls kj16 (fun k_ => some k_ = (.slice Ao34 t339.length co34 : Value).ownBlock) (.slice Ao34 t339.length co34) t339 1 t354 t355 w _ ?side1 ?side2 A48.out).mono ?_)) | (go_at_call 12; (with_reducible refine (laws_markWriteS.calls kj16 (fun k_ => some k_ = (.slice Ao34 t339.length co34 : Value).ownBlock) (.slice Ao34 t339.length co34) t339 1 t354 t355 w _ ?side1 ?side2 A48.out).mono ?_))); (case side1 => exact z27_0); (case side2 => exact Kd.R_tight rfl HO_6.out); rintro e w87 ⟨rfl, hy0, hb, hkp⟩; (first | refine ⟨_, rfl, ?_⟩ | skip); have n0_ := Aside0.mk (Kd.R_mono (ok' := fun k_ => some k_ ≠ (.slice Ao34 t339.length co34 : Value).ownBlock) (Kd.R_keptB (HO_4.out) hkp (fun k_ hk_ hs_ => (hk_) hs_)) (fun k_ hk_ => hk_.1)); have n1_ := Aside0.mk (Kd.R_reok rfl hy0 (fun k_ e_ => HO_6.out.1 k_ e_)); have n2_ := Aside0.mk (Kd.R_mono (ok' := fun k_ => True) (Kd.R_keptB ((Kd.R_apart' HO_339000.out (Kd.R_typed HO_6.out) z27_43)) hkp (fun k_ hk_ hs_ => (hk_.2) hs_)) (fun k_ hk_ => trivial)); have n3_ := Aside0.mk (Kd.R_mono (ok' := fun k_ => True) (Kd.R_keptB ((Kd.R_apart' HO_339001.out (Kd.R_typed HO_6.out) z27_43)) hkp (fun k_ hk_ hs_ => (hk_.2) hs_)) (fun k_ hk_ => trivial)); have n4_ := Aside0.mk (blk_kept z27_3 hkp (fun hs_ => (fun e_ => (Kd.R_ne HO_6.out BK321.out z27_43) e_) hs_)); have n5_ := Aside0.mk (blk_kept z27_4 hkp (fun hs_ => (fun e_ => (Kd.R_ne HO_6.out BK338.out z27_43) e_) hs_)); have n6_ := Aside0.mk (hb); clear HO_4; clear HO_6; clear HO_339000; clear HO_339001; clear BK321; clear BK338; clear HB; have HO_4 := n0_; have HO_6 := n1_; have HO_339000 := n2_; have HO_339001 := n3_; have BK321 := n4_; have BK338 := n5_; have HB := n6_; clear n0_ n1_ n2_ n3_ n4_ n5_ n6_; (try clear hb); (try clear hkp); (try clear hy0)) | ((first | ((with_reducible refine gate_callee (f := 13) rfl ?_); refine goesL_ (some 48) rfl rfl Try.func13 z27_29 rfl #[.slice Ao34 t355.length co34, .int .i64 1] rfl z27_9 ?_; (with_reducible refine (laws_heldWriteS.calls kj16 _ _ t355 1 t356 _ ?side1 ?side2 A49.out).mono ?_)) | (go_at_call 13; (with_reducible refine (laws_heldWriteS.calls kj16 _ _ t355 1 t356 _ ?side1 ?side2 A49.out).mono ?_))); (case side1 => exact z27_15); (case side2 => exact z27_19); rintro e w' ⟨rfl, ⟨nd, rfl⟩⟩; (first | refine ⟨_, rfl, ?_⟩ | skip); have hnb88 := NB321_338.out; have hnc88 := NB338_321.out; have hcz89_0 : w87.cell? ⟨gb321, 0, none⟩ = some (.slice A0_0 l0_0.length c0_0) := (blk_cell BK321.out 0).trans rfl; have hcz89_1 : w87.cell? ⟨gb321, 1, none⟩ = some (.slice A0_1 l0_1.length c0_1) := (blk_cell BK321.out 1).trans rfl; have hfz89_0 := blk_frozen BK321.out 0; have hfz89_1 := blk_frozen BK321.out 1) | ((first | ((with_reducible refine gate_callee (f := 19) rfl ?_); refine goesL_ (some 55) rfl rfl Try.func19 z27_29 rfl #[.agg #[.slice A0_0 l0_0.length c0_0, .slice A0_1 l0_1.length c0_1]] rfl z27_2 ?_; (with_reducible refine (laws_toTrace.calls kj16 _ _ l0_0 _ _ l0_1 t357 t360 _ ?side1 ?side2 ?side3 ?side4 A53.out).mono ?_)) | (go_at_call 19; (with_reducible refine (laws_toTrace.calls kj16 _ _ l0_0 _ _ l0_1 t357 t360 _ ?side1 ?side2 ?side3 ?side4 A53.out).mono ?_))); (case side1 => exact z27_46); (case side2 => exact HC0_0.out); (case side3 => exact z27_45); (case side4 => exact HC0_1.out); rintro e w90 ⟨v358, v361, rfl, ho0, ho1, hb⟩; (first | refine ⟨_, rfl, ?_⟩ | skip); have n0_ := Aside0.mk (Kd.R_below z27_13 hb); have n1_ := Aside0.mk (Kd.R_below z27_12 hb); have n2_ := Aside0.mk (Kd.R_elder' z27_11 (Kd.R_base ho0) hb); have n3_ := Aside0.mk (Kd.R_elder' z27_10 (Kd.R_base ho1) hb); have n4_ := Aside0.mk (Kd.R_lower (Kd.R_new' ho0 (Kd.R_lt z27_11)) (below_size z27_0)); have n5_ := Aside0.mk (Kd.R_lower (Kd.R_new' ho1 (Kd.R_lt z27_10)) (below_size z27_0)); have n6_ := Aside0.mk (blk_below (g := gb321) (o := .cells #[.slice A0_0 l0_0.length c0_0, .slice A0_1 l0_1.length c0_1] 33 (0, 0)) z27_3 hb); have n7_ := Aside0.mk (blk_below (g := gb338) (o := .cells #[.slice Ao29 t351.length co29, .slice Ao32 t352.length co32] 38 (0, 0)) z27_4 hb); have n8_ := Aside0.mk (below_step z27_0 hb); clear HO_4; clear HO_6; clear HO_339000; clear HO_339001; clear BK321; clear BK338; clear HB; have HO_4 := n0_; have HO_6 := n1_; have HO_339000 := n2_; have HO_339001 := n3_; have HO359 := n4_; have HO362 := n5_; have BK321 := n6_; have BK338 := n7_; have HB := n8_; clear n0_ n1_ n2_ n3_ n4_ n5_ n6_ n7_ n8_; (try clear hb); (try clear hb2); (try clear hk); (try clear hi); (try clear ho0); (try clear ho1); obtain ⟨Ao91, co91, eo91⟩ := Kd.R_slice HO359.out; subst eo91; obtain ⟨Ao92, co92, eo92⟩ := Kd.R_slice HO362.out; subst eo92) | ((first | ((with_reducible refine gate_callee (f := 20) rfl ?_); refine goesL_ (some 56) rfl rfl Try.func20 z27_29 rfl #[.agg #[.slice Ao91 t357.length co91, .slice Ao92 t360.length co92]] rfl z27_2 ?_; (with_reducible refine (impl_WritesOf.calls kj16 _ _ t357 _ _ t360 t363 _ ?side1 ?side2 ?side3 ?side4 A54.out).mono ?_)) | (go_at_call 20; (with_reducible refine (impl_WritesOf.calls kj16 _ _ t357 _ _ t360 t363 _ ?side1 ?side2 ?side3 ?side4 A54.out).mono ?_))); (case side1 => exact z27_26); (case side2 => exact (Kd.R_reads' HO359.out).2.1); (case side3 => exact z27_25); (case side4 => exact (Kd.R_reads' HO362.out).2.1); rintro e w93 ⟨v364, rfl, ho0, hb⟩; (first | refine ⟨_, rfl, ?_⟩ | skip); have n0_ := Aside0.mk (Kd.R_elder' z27_13 (Kd.R_base ho0) hb); have n1_ := Aside0.mk (Kd.R_elder' z27_12 (Kd.R_base ho0) hb); have n2_ := Aside0.mk (Kd.R_below z27_11 hb); have n3_ := Aside0.mk (Kd.R_below z27_10 hb); have n4_ := Aside0.mk (Kd.R_below z27_22 hb); have n5_ := Aside0.mk (Kd.R_below z27_21 hb); have n6_ := Aside0.mk (Kd.R_lower (Kd.R_new' (Kd.R_new' ho0 (Kd.R_lt z27_13)) (Kd.R_lt z27_12)) (below_size z27_0)); have n7_ := Aside0.mk (blk_below (g := gb321) (o := .cells #[.slice A0_0 l0_0.length c0_0, .slice A0_1 l0_1.length c0_1] 33 (0, 0)) z27_3 hb); have n8_ := Aside0.mk (blk_below (g := gb338) (o := .cells #[.slice Ao29 t351.length co29, .slice Ao32 t352.length co32] 38 (0, 0)) z27_4 hb); have n9_ := Aside0.mk (below_step z27_0 hb); clear HO_4; clear HO_6; clear HO_339000; clear HO_339001; clear HO359; clear HO362; clear BK321; clear BK338; clear HB; have HO_4 := n0_; have HO_6 := n1_; have HO_339000 := n2_; have HO_339001 := n3_; have HO359 := n4_; have HO362 := n5_; have HO365 := n6_; have BK321 := n7_; have BK338 := n8_; have HB := n9_; clear n0_ n1_ n2_ n3_ n4_ n5_ n6_ n7_ n8_ n9_; (try clear hb); (try clear hb2); (try clear hk); (try clear hi); (try clear ho0); obtain ⟨Ao94, co94, eo94⟩ := Kd.R_slice HO365.out; subst eo94) | ((first | ((with_reducible refine gate_callee (f := 9) rfl ?_); refine goesL_ (some 59) rfl rfl Try.func9 z27_29 rfl #[.slice Ao94 t363.length co94, .slice Ao35 t329.length co35] rfl z27_2 ?_; (with_reducible refine (laws_eqWriteS.calls kj16 _ _ t363 _ _ t329 false _ ?side1 ?side2 ?side3 ?side4 A55.out).mono ?_)) | (go_at_call 9; (with_reducible refine (laws_eqWriteS.calls kj16 _ _ t363 _ _ t329 false _ ?side1 ?side2 ?side3 ?side4 A55.out).mono ?_))); (case side1 => exact z27_24); (case side2 => exact (Kd.R_reads' HO365.out).2.1); (case side3 => exact z27_30); (case side4 => exact (Kd.R_reads' HO_4.out).2.1); rintro e w95 ⟨rfl, hb⟩; (first | refine ⟨_, rfl, ?_⟩ | skip); have n0_ := Aside0.mk (Kd.R_below z27_13 hb); have n1_ := Aside0.mk (Kd.R_below z27_12 hb); have n2_ := Aside0.mk (Kd.R_below z27_11 hb); have n3_ := Aside0.mk (Kd.R_below z27_10 hb); have n4_ := Aside0.mk (Kd.R_below z27_22 hb); have n5_ := Aside0.mk (Kd.R_below z27_21 hb); have n6_ := Aside0.mk (Kd.R_below z27_42 hb); have n7_ := Aside0.mk (blk_below (g := gb321) (o := .cells #[.slice A0_0 l0_0.length c0_0, .slice A0_1 l0_1.length c0_1] 33 (0, 0)) z27_3 hb); have n8_ := Aside0.mk (blk_below (g := gb338) (o := .cells #[.slice Ao29 t351.length co29, .slice Ao32 t352.length co32] 38 (0, 0)) z27_4 hb); have n9_ := Aside0.mk (below_step z27_0 hb); clear HO_4; clear HO_6; clear HO_339000; clear HO_339001; clear HO359; clear HO362; clear HO365; clear BK321; clear BK338; clear HB; have HO_4 := n0_; have HO_6 := n1_; have HO_339000 := n2_; have HO_339001 := n3_; have HO359 := n4_; have HO362 := n5_; have HO365 := n6_; have BK321 := n7_; have BK338 := n8_; have HB := n9_; clear n0_ n1_ n2_ n3_ n4_ n5_ n6_ n7_ n8_ n9_; (try clear hb); (try clear hb2); (try clear hk); (try clear hi)))
                    go_ret
                    exact ⟨by first | rfl | (simp [errW_none, errW_some] <;> rfl) | (simp [*, errW_none, errW_some] <;> rfl) | (simp [*, errW_none, errW_some, i64_w]; done), by repeat (first | (with_reducible first | exact HB.out | apply below_alloc | apply pw_below_drewN | apply below_drew1 | refine below_set ?_ GE321.out | refine below_set ?_ GE338.out) | exact HB.out)⟩
                · rw [if_neg c52] at H
                  have c52b0 : (t356 == t354) = false := beq_eq_false_iff_ne.mpr c52
                  have c52b1 : (t356 != t354) = true := bne_iff_ne.mpr c52
                  obtain rfl := Option.some.inj H
                  go_wp2_with (first | ((first | ((with_reducible refine gate_callee (f := 12) rfl ?_); refine goesL_ (some 45) rfl rfl Try.func12 z27_29 rfl #[.slice Ao34 t339.length co34, .int .i64 1] rfl z27_2 ?_; (with_reducible refine (laws_markWriteS.calls kj16 (fun k_ => some k_ = (.slice Ao34 t339.length co34 : Value).ownBlock) (.slice Ao34 t339.length co34) t339 1 t354 t355 w _ ?side1 ?side2 A48.out).mono ?_)) | (go_at_call 12; (with_reducible refine (laws_markWriteS.calls kj16 (fun k_ => some k_ = (.slice Ao34 t339.length co34 : Value).ownBlock) (.slice Ao34 t339.length co34) t339 1 t354 t355 w _ ?side1 ?side2 A48.out).mono ?_))); (case side1 => exact z27_0); (case side2 => exact Kd.R_tight rfl HO_6.out); rintro e w96 ⟨rfl, hy0, hb, hkp⟩; (first | refine ⟨_, rfl, ?_⟩ | skip); have n0_ := Aside0.mk (Kd.R_mono (ok' := fun k_ => some k_ ≠ (.slice Ao34 t339.length co34 : Value).ownBlock) (Kd.R_keptB (HO_4.out) hkp (fun k_ hk_ hs_ => (hk_) hs_)) (fun k_ hk_ => hk_.1)); have n1_ := Aside0.mk (Kd.R_reok rfl hy0 (fun k_ e_ => HO_6.out.1 k_ e_)); have n2_ := Aside0.mk (Kd.R_mono (ok' := fun k_ => True) (Kd.R_keptB ((Kd.R_apart' HO_339000.out (Kd.R_typed HO_6.out) z27_43)) hkp (fun k_ hk_ hs_ => (hk_.2) hs_)) (fun k_ hk_ => trivial)); have n3_ := Aside0.mk (Kd.R_mono (ok' := fun k_ => True) (Kd.R_keptB ((Kd.R_apart' HO_339001.out (Kd.R_typed HO_6.out) z27_43)) hkp (fun k_ hk_ hs_ => (hk_.2) hs_)) (fun k_ hk_ => trivial)); have n4_ := Aside0.mk (blk_kept z27_3 hkp (fun hs_ => (fun e_ => (Kd.R_ne HO_6.out BK321.out z27_43) e_) hs_)); have n5_ := Aside0.mk (blk_kept z27_4 hkp (fun hs_ => (fun e_ => (Kd.R_ne HO_6.out BK338.out z27_43) e_) hs_)); have n6_ := Aside0.mk (hb); clear HO_4; clear HO_6; clear HO_339000; clear HO_339001; clear BK321; clear BK338; clear HB; have HO_4 := n0_; have HO_6 := n1_; have HO_339000 := n2_; have HO_339001 := n3_; have BK321 := n4_; have BK338 := n5_; have HB := n6_; clear n0_ n1_ n2_ n3_ n4_ n5_ n6_; (try clear hb); (try clear hkp); (try clear hy0)) | ((first | ((with_reducible refine gate_callee (f := 13) rfl ?_); refine goesL_ (some 48) rfl rfl Try.func13 z27_29 rfl #[.slice Ao34 t355.length co34, .int .i64 1] rfl z27_9 ?_; (with_reducible refine (laws_heldWriteS.calls kj16 _ _ t355 1 t356 _ ?side1 ?side2 A49.out).mono ?_)) | (go_at_call 13; (with_reducible refine (laws_heldWriteS.calls kj16 _ _ t355 1 t356 _ ?side1 ?side2 A49.out).mono ?_))); (case side1 => exact z27_15); (case side2 => exact z27_19); rintro e w' ⟨rfl, ⟨nd, rfl⟩⟩; (first | refine ⟨_, rfl, ?_⟩ | skip)))
                  go_ret
                  exact ⟨by first | rfl | (simp [errW_none, errW_some] <;> rfl) | (simp [*, errW_none, errW_some] <;> rfl) | (simp [*, errW_none, errW_some, i64_w]; done), by repeat (first | (with_reducible first | exact HB.out | apply below_alloc | apply pw_below_drewN | apply below_drew1 | refine below_set ?_ GE321.out | refine below_set ?_ GE338.out) | exact HB.out)⟩
      · replace c15 := Bool.eq_false_iff.mpr c15
        subst c15
        have H1 : (some false) = some r := by rw [if_neg (show ¬ (false = true) by decide)] at H; exact H
        clear H
        have H := H1
        clear H1
        obtain rfl := Option.some.inj H
        go_enter Try.func5, Try.ntmps5
        try go_wp2_with (first | ((with_reducible refine gate_dst (N := 1) rfl ?_); refine box_event ?hg (N := 1) ?hd (cs := #[.slice A0_0 l0_0.length c0_0, .slice A0_1 l0_1.length c0_1]) (t := 33) ?hr ?_; (case hd => rfl); (case hg => rfl); (case hr => exact z27_44); intro gb321 hg w97 hbox hb; have n0_ := Aside0.mk (below_step z27_14 hb); have n1_ := Aside0.mk (hbox); have n2_ := Aside0.mk ((z27_49 : w.heap.size ≤ gb321)); have n3_ := Aside0.mk ((z27_49 : w.heap.size ≤ gb321)); clear HB; have HB := n0_; have BK321 := n1_; have GW321 := n2_; have GE321 := n3_; clear n0_ n1_ n2_ n3_; clear hb hbox hg; have hcz98_0 : w97.cell? ⟨gb321, 0, none⟩ = some (.slice A0_0 l0_0.length c0_0) := (blk_cell BK321.out 0).trans rfl; have hcz98_1 : w97.cell? ⟨gb321, 1, none⟩ = some (.slice A0_1 l0_1.length c0_1) := (blk_cell BK321.out 1).trans rfl; have hfz98_0 := blk_frozen BK321.out 0; have hfz98_1 := blk_frozen BK321.out 1) | ((first | ((with_reducible refine gate_callee (f := 17) rfl ?_); refine goesL_ (some 13) rfl rfl Try.func17 z27_29 rfl #[.agg #[.slice A0_0 l0_0.length c0_0, .slice A0_1 l0_1.length c0_1], .int .i64 1048576] rfl z27_2 ?_; (with_reducible refine (laws_szTrace.calls _ _ l0_0 _ _ l0_1 1048576 t322 _ ?side1 ?side2 ?side3 ?side4 A2.out).mono ?_)) | (go_at_call 17; (with_reducible refine (laws_szTrace.calls _ _ l0_0 _ _ l0_1 1048576 t322 _ ?side1 ?side2 ?side3 ?side4 A2.out).mono ?_))); (case side1 => exact z27_8); (case side2 => exact HC0_0.out); (case side3 => exact z27_7); (case side4 => exact HC0_1.out); rintro e w99 ⟨rfl, hb⟩; (first | refine ⟨_, rfl, ?_⟩ | skip); have n0_ := Aside0.mk (blk_below (g := gb321) (o := .cells #[.slice A0_0 l0_0.length c0_0, .slice A0_1 l0_1.length c0_1] 33 (0, 0)) z27_3 hb); have n1_ := Aside0.mk (below_step z27_1 hb); clear BK321; clear HB; have BK321 := n0_; have HB := n1_; clear n0_ n1_; (try clear hb); (try clear hb2); (try clear hk); (try clear hi); have hcz100_0 : w99.cell? ⟨gb321, 0, none⟩ = some (.slice A0_0 l0_0.length c0_0) := (blk_cell BK321.out 0).trans rfl; have hcz100_1 : w99.cell? ⟨gb321, 1, none⟩ = some (.slice A0_1 l0_1.length c0_1) := (blk_cell BK321.out 1).trans rfl; have hfz100_0 := blk_frozen BK321.out 0; have hfz100_1 := blk_frozen BK321.out 1) | ((first | ((with_reducible refine gate_callee (f := 19) rfl ?_); refine goesL_ (some 17) rfl rfl Try.func19 z27_29 rfl #[.agg #[.slice A0_0 l0_0.length c0_0, .slice A0_1 l0_1.length c0_1]] rfl z27_2 ?_; (with_reducible refine (laws_toTrace.calls k _ _ l0_0 _ _ l0_1 t323 t326 _ ?side1 ?side2 ?side3 ?side4 A7.out).mono ?_)) | (go_at_call 19; (with_reducible refine (laws_toTrace.calls k _ _ l0_0 _ _ l0_1 t323 t326 _ ?side1 ?side2 ?side3 ?side4 A7.out).mono ?_))); (case side1 => exact z27_8); (case side2 => exact HC0_0.out); (case side3 => exact z27_7); (case side4 => exact HC0_1.out); rintro e w101 ⟨v324, v327, rfl, ho0, ho1, hb⟩; (first | refine ⟨_, rfl, ?_⟩ | skip); have n0_ := Aside0.mk (Kd.R_lower ho0 (below_size z27_1)); have n1_ := Aside0.mk (Kd.R_lower ho1 (below_size z27_1)); have n2_ := Aside0.mk (blk_below (g := gb321) (o := .cells #[.slice A0_0 l0_0.length c0_0, .slice A0_1 l0_1.length c0_1] 33 (0, 0)) z27_3 hb); have n3_ := Aside0.mk (below_step z27_1 hb); clear BK321; clear HB; have HO325 := n0_; have HO328 := n1_; have BK321 := n2_; have HB := n3_; clear n0_ n1_ n2_ n3_; (try clear hb); (try clear hb2); (try clear hk); (try clear hi); (try clear ho0); (try clear ho1); obtain ⟨Ao102, co102, eo102⟩ := Kd.R_slice HO325.out; subst eo102; obtain ⟨Ao103, co103, eo103⟩ := Kd.R_slice HO328.out; subst eo103) | ((first | ((with_reducible refine gate_callee (f := 18) rfl ?_); refine goesL_ (some 18) rfl rfl Try.func18 z27_29 rfl #[.agg #[.slice Ao102 t323.length co102, .slice Ao103 t326.length co103]] rfl z27_2 ?_; (with_reducible refine (spec_WritesOf.calls k _ _ t323 _ _ t326 t329 _ ?side1 ?side2 ?side3 ?side4 A8.out).mono ?_)) | (go_at_call 18; (with_reducible refine (spec_WritesOf.calls k _ _ t323 _ _ t326 t329 _ ?side1 ?side2 ?side3 ?side4 A8.out).mono ?_))); (case side1 => exact z27_32); (case side2 => exact (Kd.R_reads' HO325.out).2.1); (case side3 => exact z27_31); (case side4 => exact (Kd.R_reads' HO328.out).2.1); rintro e w104 ⟨v330, rfl, ho0, hb⟩; (first | refine ⟨_, rfl, ?_⟩ | skip); have n0_ := Aside0.mk (Kd.R_below z27_6 hb); have n1_ := Aside0.mk (Kd.R_below z27_5 hb); have n2_ := Aside0.mk (Kd.R_lower ho0 (below_size z27_1)); have n3_ := Aside0.mk (blk_below (g := gb321) (o := .cells #[.slice A0_0 l0_0.length c0_0, .slice A0_1 l0_1.length c0_1] 33 (0, 0)) z27_3 hb); have n4_ := Aside0.mk (below_step z27_1 hb); clear HO325; clear HO328; clear BK321; clear HB; have HO325 := n0_; have HO328 := n1_; have HO331 := n2_; have BK321 := n3_; have HB := n4_; clear n0_ n1_ n2_ n3_ n4_; (try clear hb); (try clear hb2); (try clear hk); (try clear hi); (try clear ho0); have hcz105_0 : w104.cell? ⟨gb321, 0, none⟩ = some (.slice A0_0 l0_0.length c0_0) := (blk_cell BK321.out 0).trans rfl; have hcz105_1 : w104.cell? ⟨gb321, 1, none⟩ = some (.slice A0_1 l0_1.length c0_1) := (blk_cell BK321.out 1).trans rfl; have hfz105_0 := blk_frozen BK321.out 0; have hfz105_1 := blk_frozen BK321.out 1) | ((first | ((with_reducible refine gate_callee (f := 19) rfl ?_); refine goesL_ (some 20) rfl rfl Try.func19 z27_29 rfl #[.agg #[.slice A0_0 l0_0.length c0_0, .slice A0_1 l0_1.length c0_1]] rfl z27_2 ?_; (with_reducible refine (laws_toTrace.calls k _ _ l0_0 _ _ l0_1 t332 t335 _ ?side1 ?side2 ?side3 ?side4 A9.out).mono ?_)) | (go_at_call 19; (with_reducible refine (laws_toTrace.calls k _ _ l0_0 _ _ l0_1 t332 t335 _ ?side1 ?side2 ?side3 ?side4 A9.out).mono ?_))); (case side1 => exact z27_8); (case side2 => exact HC0_0.out); (case side3 => exact z27_7); (case side4 => exact HC0_1.out); rintro e w106 ⟨v333, v336, rfl, ho0, ho1, hb⟩; (first | refine ⟨_, rfl, ?_⟩ | skip); have n0_ := Aside0.mk (Kd.R_elder' z27_6 (Kd.R_base ho0) hb); have n1_ := Aside0.mk (Kd.R_elder' z27_5 (Kd.R_base ho1) hb); have n2_ := Aside0.mk (Kd.R_below z27_16 hb); have n3_ := Aside0.mk (Kd.R_lower (Kd.R_new' ho0 (Kd.R_lt z27_6)) (below_size z27_1)); have n4_ := Aside0.mk (Kd.R_lower (Kd.R_new' ho1 (Kd.R_lt z27_5)) (below_size z27_1)); have n5_ := Aside0.mk (blk_below (g := gb321) (o := .cells #[.slice A0_0 l0_0.length c0_0, .slice A0_1 l0_1.length c0_1] 33 (0, 0)) z27_3 hb); have n6_ := Aside0.mk (below_step z27_1 hb); clear HO325; clear HO328; clear HO331; clear BK321; clear HB; have HO325 := n0_; have HO328 := n1_; have HO331 := n2_; have HO334 := n3_; have HO337 := n4_; have BK321 := n5_; have HB := n6_; clear n0_ n1_ n2_ n3_ n4_ n5_ n6_; (try clear hb); (try clear hb2); (try clear hk); (try clear hi); (try clear ho0); (try clear ho1)) | ((with_reducible refine gate_dst (N := 5) rfl ?_); refine box_event ?hg (N := 5) ?hd (cs := #[.slice none 0 0, .slice none 0 0]) (t := 38) ?hr ?_; (case hd => rfl); (case hg => rfl); (case hr => exact z27_44); intro gb338 hg w107 hbox hb; have n0_ := Aside0.mk (Kd.R_below z27_6 hb); have n1_ := Aside0.mk (Kd.R_below z27_5 hb); have n2_ := Aside0.mk (Kd.R_below z27_16 hb); have n3_ := Aside0.mk (Kd.R_below z27_18 hb); have n4_ := Aside0.mk (Kd.R_below z27_17 hb); have n5_ := Aside0.mk (blk_below (g := gb321) (o := .cells #[.slice A0_0 l0_0.length c0_0, .slice A0_1 l0_1.length c0_1] 33 (0, 0)) z27_3 hb); have n6_ := Aside0.mk (below_step z27_1 hb); have n7_ := Aside0.mk (hbox); have n8_ := Aside0.mk ((by rw [hg]; exact (below_size z27_1) : w.heap.size ≤ gb338)); have n9_ := Aside0.mk ((by rw [hg]; exact (below_size z27_1) : w.heap.size ≤ gb338)); have n10_ := Aside0.mk ((z27_47 : gb321 ≠ gb338)); have n11_ := Aside0.mk ((z27_48 : gb338 ≠ gb321)); clear HO325; clear HO328; clear HO331; clear HO334; clear HO337; clear BK321; clear HB; have HO325 := n0_; have HO328 := n1_; have HO331 := n2_; have HO334 := n3_; have HO337 := n4_; have BK321 := n5_; have HB := n6_; have BK338 := n7_; have GW338 := n8_; have GE338 := n9_; have NB321_338 := n10_; have NB338_321 := n11_; clear n0_ n1_ n2_ n3_ n4_ n5_ n6_ n7_ n8_ n9_ n10_ n11_; clear hb hbox hg; obtain ⟨Ao108, co108, eo108⟩ := Kd.R_slice HO334.out; subst eo108; have hnb109 := NB338_321.out; have hnc109 := NB321_338.out; have hcz110_0 : w107.cell? ⟨gb338, 0, none⟩ = some (.slice none 0 0) := (blk_cell BK338.out 0).trans rfl; have hcz110_1 : w107.cell? ⟨gb338, 1, none⟩ = some (.slice none 0 0) := (blk_cell BK338.out 1).trans rfl; have hfz110_0 := blk_frozen BK338.out 0; have hfz110_1 := blk_frozen BK338.out 1; obtain ⟨Ao111, co111, eo111⟩ := Kd.R_slice HO337.out; subst eo111) | ((first | ((with_reducible refine gate_callee (f := 20) rfl ?_); refine goesL_ (some 22) rfl rfl Try.func20 z27_29 rfl #[.agg #[.slice Ao108 t332.length co108, .slice Ao111 t335.length co111]] rfl z27_2 ?_; (with_reducible refine (impl_WritesOf.calls k _ _ t332 _ _ t335 t339 _ ?side1 ?side2 ?side3 ?side4 A10.out).mono ?_)) | (go_at_call 20; (with_reducible refine (impl_WritesOf.calls k _ _ t332 _ _ t335 t339 _ ?side1 ?side2 ?side3 ?side4 A10.out).mono ?_))); (case side1 => refine (Kd.R_reads' (e := 54) (base := w.heap.size) (ok := fun k_ => (True ∧ some k_ ≠ (.slice Ao102 t323.length co102 : Value).ownBlock)) (n := t332.length) (c := co108) ?_).2.2; exact z27_36); (case side2 => exact (Kd.R_reads' HO334.out).2.1); (case side3 => refine (Kd.R_reads' (e := 3) (base := w.heap.size) (ok := fun k_ => (True ∧ some k_ ≠ (.slice Ao103 t326.length co103 : Value).ownBlock)) (n := t335.length) (c := co111) ?_).2.2; exact z27_34); (case side4 => exact (Kd.R_reads' HO337.out).2.1); rintro e w112 ⟨v340, rfl, ho0, hb⟩; (first | refine ⟨_, rfl, ?_⟩ | skip); have n0_ := Aside0.mk (Kd.R_below (by (with_reducible repeat (first | apply Kd.R_alloc | apply Kd.R_drewN | apply Kd.R_drew)); exact (Kd.R_mono (Kd.R_far (p := ⟨gb338, 1, none⟩) (Kd.R_far (p := ⟨gb338, 0, none⟩) (Kd.R_types HO325.out BK338.out z27_43) (fun _ hk => hk.2) (.slice Ao108 t332.length co108)) (fun _ hk => hk.2) (.slice Ao111 t335.length co111)) (fun _ h_ => h_.1))) hb); have n1_ := Aside0.mk (Kd.R_below (by (with_reducible repeat (first | apply Kd.R_alloc | apply Kd.R_drewN | apply Kd.R_drew)); exact (Kd.R_mono (Kd.R_far (p := ⟨gb338, 1, none⟩) (Kd.R_far (p := ⟨gb338, 0, none⟩) (Kd.R_types HO328.out BK338.out z27_43) (fun _ hk => hk.2) (.slice Ao108 t332.length co108)) (fun _ hk => hk.2) (.slice Ao111 t335.length co111)) (fun _ h_ => h_.1))) hb); have n2_ := Aside0.mk (Kd.R_elder' z27_38 (Kd.R_base ho0) hb); have n3_ := Aside0.mk (Kd.R_below z27_36 hb); have n4_ := Aside0.mk (Kd.R_below z27_34 hb); have n5_ := Aside0.mk (Kd.R_lower (Kd.R_new' ho0 (Kd.R_lt z27_38)) (below_size z27_0)); have n6_ := Aside0.mk (blk_below (g := gb321) (o := .cells #[.slice A0_0 l0_0.length c0_0, .slice A0_1 l0_1.length c0_1] 33 (0, 0)) z27_20 hb); have n7_ := Aside0.mk (blk_below (g := gb338) (o := .cells #[.slice Ao108 t332.length co108, .slice Ao111 t335.length co111] 38 (0, 0)) (by (with_reducible repeat (first | refine blk_drewN ?_ _ | refine blk_drew ?_ | refine blk_alloc ?_ _)); refine blk_put (cs := #[.slice Ao108 t332.length co108, .slice none 0 0]) ?_ 1 _ rfl; (with_reducible repeat (first | refine blk_drewN ?_ _ | refine blk_drew ?_ | refine blk_alloc ?_ _)); refine blk_put (cs := #[.slice none 0 0, .slice none 0 0]) ?_ 0 _ rfl; (with_reducible repeat (first | refine blk_drewN ?_ _ | refine blk_drew ?_ | refine blk_alloc ?_ _)); exact BK338.out) hb); have n8_ := Aside0.mk (below_step z27_0 hb); clear HO325; clear HO328; clear HO331; clear HO334; clear HO337; clear BK321; clear BK338; clear HB; have HO325 := n0_; have HO328 := n1_; have HO331 := n2_; have HO334 := n3_; have HO337 := n4_; have HO341 := n5_; have BK321 := n6_; have BK338 := n7_; have HB := n8_; clear n0_ n1_ n2_ n3_ n4_ n5_ n6_ n7_ n8_; (try clear hb); (try clear hb2); (try clear hk); (try clear hi); (try clear ho0); obtain ⟨Ao113, co113, eo113⟩ := Kd.R_slice HO341.out; subst eo113; obtain ⟨Ao114, co114, eo114⟩ := Kd.R_slice HO331.out; subst eo114) | ((first | ((with_reducible refine gate_callee (f := 9) rfl ?_); refine goesL_ (some 25) rfl rfl Try.func9 z27_29 rfl #[.slice Ao113 t339.length co113, .slice Ao114 t329.length co114] rfl z27_2 ?_; (with_reducible refine (laws_eqWriteS.calls k _ _ t339 _ _ t329 true _ ?side1 ?side2 ?side3 ?side4 A11.out).mono ?_)) | (go_at_call 9; (with_reducible refine (laws_eqWriteS.calls k _ _ t339 _ _ t329 true _ ?side1 ?side2 ?side3 ?side4 A11.out).mono ?_))); (case side1 => exact z27_27); (case side2 => exact (Kd.R_reads' HO341.out).2.1); (case side3 => exact z27_28); (case side4 => exact (Kd.R_reads' HO331.out).2.1); rintro e w115 ⟨rfl, hb⟩; (first | refine ⟨_, rfl, ?_⟩ | skip); have n0_ := Aside0.mk (Kd.R_below z27_6 hb); have n1_ := Aside0.mk (Kd.R_below z27_5 hb); have n2_ := Aside0.mk (Kd.R_below z27_16 hb); have n3_ := Aside0.mk (Kd.R_below z27_18 hb); have n4_ := Aside0.mk (Kd.R_below z27_17 hb); have n5_ := Aside0.mk (Kd.R_below z27_23 hb); have n6_ := Aside0.mk (blk_below (g := gb321) (o := .cells #[.slice A0_0 l0_0.length c0_0, .slice A0_1 l0_1.length c0_1] 33 (0, 0)) z27_3 hb); have n7_ := Aside0.mk (blk_below (g := gb338) (o := .cells #[.slice Ao108 t332.length co108, .slice Ao111 t335.length co111] 38 (0, 0)) z27_4 hb); have n8_ := Aside0.mk (below_step z27_0 hb); clear HO325; clear HO328; clear HO331; clear HO334; clear HO337; clear HO341; clear BK321; clear BK338; clear HB; have HO325 := n0_; have HO328 := n1_; have HO331 := n2_; have HO334 := n3_; have HO337 := n4_; have HO341 := n5_; have BK321 := n6_; have BK338 := n7_; have HB := n8_; clear n0_ n1_ n2_ n3_ n4_ n5_ n6_ n7_ n8_; (try clear hb); (try clear hb2); (try clear hk); (try clear hi)))
        have n0_ := Aside0.mk (Kd.R_drew HO325.out)
        have n1_ := Aside0.mk (Kd.R_drew HO328.out)
        have n2_ := Aside0.mk (Kd.R_drew HO331.out)
        have n3_ := Aside0.mk (Kd.R_drew HO334.out)
        have n4_ := Aside0.mk (Kd.R_drew HO337.out)
        have n5_ := Aside0.mk (Kd.R_drew HO341.out)
        have n6_ := Aside0.mk (blk_drew BK321.out)
        have n7_ := Aside0.mk (blk_drew BK338.out)
        have n8_ := Aside0.mk (below_drew1 HB.out)
        clear HO325
        clear HO328
        clear HO331
        clear HO334
        clear HO337
        clear HO341
        clear BK321
        clear BK338
        clear HB
        have HO325 := n0_
        have HO328 := n1_
        have HO331 := n2_
        have HO334 := n3_
        have HO337 := n4_
        have HO341 := n5_
        have BK321 := n6_
        have BK338 := n7_
        have HB := n8_
        clear n0_ n1_ n2_ n3_ n4_ n5_ n6_ n7_ n8_
        refine start_ (n := 5) (S := fun w' => w'.cell? ⟨gb338, 0, none⟩ = some (.slice Ao108 t332.length co108) ∧ w'.cell? ⟨gb338, 1, none⟩ = some (.slice Ao111 t335.length co111) ∧ w'.cell? ⟨gb321, 0, none⟩ = some (.slice A0_0 l0_0.length c0_0) ∧ w'.cell? ⟨gb321, 1, none⟩ = some (.slice A0_1 l0_1.length c0_1)) (ds := []) #[false, false, false, false, false] z27_29 rfl rfl ⟨(blk_cell BK338.out 0).trans rfl, (blk_cell BK338.out 1).trans rfl, (blk_cell BK321.out 0).trans rfl, (blk_cell BK321.out 1).trans rfl⟩ (fun hHeld => ?_)
        generalize w115.drew = w116 at HO325 HO328 HO331 HO334 HO337 HO341 BK321 BK338 HB hHeld ⊢
        refine take_ (i := 0) (N := some 27) (v := ?_) (a' := ?_) #[true, false, false, false, false] rfl rfl z27_29 (fun _ _ _ h => h) (Or.inl ⟨by rfl, ?_⟩) hHeld ?_ ?_
        rotate_left
        · rintro w' ⟨s0, s1, s2, s3⟩
          go_simp
          with_reducible rfl
        rotate_left
        · simp only [Act.put, List.setIfInBounds_toArray, List.set_cons_zero, List.set_cons_succ, i64_w, i32_w]
          rfl
        refine take_ (i := 1) (N := some 28) (v := ?_) (a' := ?_) #[true, true, false, false, false] rfl rfl z27_29 (fun _ _ _ h => h) (Or.inl ⟨by rfl, ?_⟩) hHeld ?_ ?_
        rotate_left
        · rintro w' ⟨s0, s1, s2, s3⟩
          go_simp
          with_reducible rfl
        rotate_left
        · simp only [Act.put, List.setIfInBounds_toArray, List.set_cons_zero, List.set_cons_succ, i64_w, i32_w]
          rfl
        refine one_ (i := 2) (N := some 29) #[true, true, true, false, false] rfl rfl z27_29 z27_43 (fun K hK => ?_)
        refine goes_ Try.func19 z27_29 rfl #[.agg #[.slice A0_0 l0_0.length c0_0, .slice A0_1 l0_1.length c0_1]] (by rfl) rfl rfl z27_2 ?_
        with_reducible refine (laws_toTrace.calls k _ _ l0_0 _ _ l0_1 t343 t346 _ ?side1 ?side2 ?side3 ?side4 A13.out).mono ?_
        (case side1 => exact z27_8)
        (case side2 => exact HC0_0.out)
        (case side3 => exact z27_7)
        (case side4 => exact HC0_1.out)
        rintro e w117 ⟨v344, v347, rfl, ho0, ho1, hb⟩
        refine ⟨_, rfl, ?_⟩
        have n0_ := Aside0.mk (Kd.R_elder' z27_6 (Kd.R_base ho0) hb)
        have n1_ := Aside0.mk (Kd.R_elder' z27_5 (Kd.R_base ho1) hb)
        have n2_ := Aside0.mk (Kd.R_below z27_16 hb)
        have n3_ := Aside0.mk (Kd.R_elder' z27_18 (Kd.R_base ho0) hb)
        have n4_ := Aside0.mk (Kd.R_elder' z27_17 (Kd.R_base ho1) hb)
        have n5_ := Aside0.mk (Kd.R_below z27_23 hb)
        have n6_ := Aside0.mk (Kd.R_lower (Kd.R_new' (Kd.R_new' ho0 (Kd.R_lt z27_6)) (Kd.R_lt z27_18)) (below_size z27_0))
        have n7_ := Aside0.mk (Kd.R_lower (Kd.R_new' (Kd.R_new' ho1 (Kd.R_lt z27_5)) (Kd.R_lt z27_17)) (below_size z27_0))
        have n8_ := Aside0.mk (blk_below (g := gb321) (o := .cells #[.slice A0_0 l0_0.length c0_0, .slice A0_1 l0_1.length c0_1] 33 (0, 0)) z27_3 hb)
        have n9_ := Aside0.mk (blk_below (g := gb338) (o := .cells #[.slice Ao108 t332.length co108, .slice Ao111 t335.length co111] 38 (0, 0)) z27_4 hb)
        have n10_ := Aside0.mk (below_step z27_0 hb)
        clear HO325
        clear HO328
        clear HO331
        clear HO334
        clear HO337
        clear HO341
        clear BK321
        clear BK338
        clear HB
        have HO325 := n0_
        have HO328 := n1_
        have HO331 := n2_
        have HO334 := n3_
        have HO337 := n4_
        have HO341 := n5_
        have HO345 := n6_
        have HO348 := n7_
        have BK321 := n8_
        have BK338 := n9_
        have HB := n10_
        clear n0_ n1_ n2_ n3_ n4_ n5_ n6_ n7_ n8_ n9_ n10_
        (try clear hb)
        (try clear hb2)
        (try clear hk)
        (try clear hi)
        (try clear ho0)
        (try clear ho1)
        obtain ⟨Ao118, co118, eo118⟩ := Kd.R_slice HO345.out
        (first | subst eo118 | (injection eo118 with f1_ f2_ f3_; have f4_ := f1_.symm; have f5_ := f3_.symm; clear f1_ f2_ f3_; subst f4_; subst f5_))
        obtain ⟨Ao119, co119, eo119⟩ := Kd.R_slice HO348.out
        (first | subst eo119 | (injection eo119 with f1_ f2_ f3_; have f4_ := f1_.symm; have f5_ := f3_.symm; clear f1_ f2_ f3_; subst f4_; subst f5_))
        refine hK.out _ _ ⟨(blk_cell BK338.out 0).trans rfl, (blk_cell BK338.out 1).trans rfl, (blk_cell BK321.out 0).trans rfl, (blk_cell BK321.out 1).trans rfl⟩ (fun hHeld => ?_)
        clear hK K
        refine norm_ (a' := ?_) ?_ ?_
        rotate_left
        · show Act.put _ (some 29) _ = _
          simp only [Act.put, List.setIfInBounds_toArray, List.set_cons_zero, List.set_cons_succ, i64_w, i32_w]
          rfl
        refine one_ (i := 3) (N := some 30) #[true, true, true, true, false] rfl rfl z27_29 z27_43 (fun K hK => ?_)
        refine goes_ Try.func21 z27_29 rfl #[.agg #[.slice Ao108 t332.length co108, .slice Ao111 t335.length co111], .agg #[.slice Ao118 t343.length co118, .slice Ao119 t346.length co119]] (by rfl) rfl rfl z27_2 ?_
        with_reducible refine (laws_eqTrace.calls k _ _ t332 _ _ t335 _ _ t343 _ _ t346 false _ ?side1 ?side2 ?side3 ?side4 ?side5 ?side6 ?side7 ?side8 A14.out).mono ?_
        (case side1 => repeat (first | exact (Kd.R_reads' HO334.out).2.2 | (with_reducible refine Kd.C_alloc ?_ _) | (with_reducible refine Kd.C_drewN ?_ _) | (with_reducible refine Kd.C_drew ?_)))
        (case side2 => exact (Kd.R_reads' HO334.out).2.1)
        (case side3 => repeat (first | exact (Kd.R_reads' HO337.out).2.2 | (with_reducible refine Kd.C_alloc ?_ _) | (with_reducible refine Kd.C_drewN ?_ _) | (with_reducible refine Kd.C_drew ?_)))
        (case side4 => exact (Kd.R_reads' HO337.out).2.1)
        (case side5 => repeat (first | exact (Kd.R_reads' HO345.out).2.2 | (with_reducible refine Kd.C_alloc ?_ _) | (with_reducible refine Kd.C_drewN ?_ _) | (with_reducible refine Kd.C_drew ?_)))
        (case side6 => exact (Kd.R_reads' HO345.out).2.1)
        (case side7 => repeat (first | exact (Kd.R_reads' HO348.out).2.2 | (with_reducible refine Kd.C_alloc ?_ _) | (with_reducible refine Kd.C_drewN ?_ _) | (with_reducible refine Kd.C_drew ?_)))
        (case side8 => exact (Kd.R_reads' HO348.out).2.1)
        rintro e w120 ⟨rfl, hb⟩
        refine ⟨_, rfl, ?_⟩
        have n0_ := Aside0.mk (Kd.R_below z27_6 hb)
        have n1_ := Aside0.mk (Kd.R_below z27_5 hb)
        have n2_ := Aside0.mk (Kd.R_below z27_16 hb)
        have n3_ := Aside0.mk (Kd.R_below z27_18 hb)
        have n4_ := Aside0.mk (Kd.R_below z27_17 hb)
        have n5_ := Aside0.mk (Kd.R_below z27_23 hb)
        have n6_ := Aside0.mk (Kd.R_below (by (with_reducible repeat (first | apply Kd.R_alloc | apply Kd.R_drewN | apply Kd.R_drew)); exact HO345.out) hb)
        have n7_ := Aside0.mk (Kd.R_below (by (with_reducible repeat (first | apply Kd.R_alloc | apply Kd.R_drewN | apply Kd.R_drew)); exact HO348.out) hb)
        have n8_ := Aside0.mk (blk_below (g := gb321) (o := .cells #[.slice A0_0 l0_0.length c0_0, .slice A0_1 l0_1.length c0_1] 33 (0, 0)) z27_3 hb)
        have n9_ := Aside0.mk (blk_below (g := gb338) (o := .cells #[.slice Ao108 t332.length co108, .slice Ao111 t335.length co111] 38 (0, 0)) z27_4 hb)
        have n10_ := Aside0.mk (below_step z27_0 hb)
        clear HO325
        clear HO328
        clear HO331
        clear HO334
        clear HO337
        clear HO341
        clear HO345
        clear HO348
        clear BK321
        clear BK338
        clear HB
        have HO325 := n0_
        have HO328 := n1_
        have HO331 := n2_
        have HO334 := n3_
        have HO337 := n4_
        have HO341 := n5_
        have HO345 := n6_
        have HO348 := n7_
        have BK321 := n8_
        have BK338 := n9_
        have HB := n10_
        clear n0_ n1_ n2_ n3_ n4_ n5_ n6_ n7_ n8_ n9_ n10_
        (try clear hb)
        (try clear hb2)
        (try clear hk)
        (try clear hi)
        refine hK.out _ _ ⟨(blk_cell BK338.out 0).trans rfl, (blk_cell BK338.out 1).trans rfl, (blk_cell BK321.out 0).trans rfl, (blk_cell BK321.out 1).trans rfl⟩ (fun hHeld => ?_)
        clear hK K
        refine norm_ (a' := ?_) ?_ ?_
        rotate_left
        · show Act.put _ (some 30) _ = _
          simp only [Act.put, List.setIfInBounds_toArray, List.set_cons_zero, List.set_cons_succ, i64_w, i32_w]
          rfl
        refine pure_ (i := 4) (N := some 31) (v := ?_) (a' := ?_) #[true, true, true, true, true] rfl rfl z27_29 (fun _ _ _ h => h) (Or.inl ⟨by rfl, ?_⟩) ?_ ?_
        rotate_left
        · intro w'
          go_simp
          with_reducible rfl
        rotate_left
        · simp only [Act.put, List.setIfInBounds_toArray, List.set_cons_zero, List.set_cons_succ, i64_w, i32_w]
          rfl
        refine done_ z27_29 ?_
        try go_wp2
        go_ret
        exact ⟨by first | rfl | (simp [errW_none, errW_some] <;> rfl) | (simp [*, errW_none, errW_some] <;> rfl) | (simp [*, errW_none, errW_some, i64_w]; done), by repeat (first | (with_reducible first | exact HB.out | apply below_alloc | apply pw_below_drewN | apply below_drew1 | refine below_set ?_ GE321.out | refine below_set ?_ GE338.out) | exact HB.out)⟩
    · replace c12 := Bool.eq_false_iff.mpr c12
      subst c12
      have H1 : (some false) = some r := by rw [if_neg (show ¬ (false = true) by decide)] at H; exact H
      clear H
      have H := H1
      clear H1
      obtain rfl := Option.some.inj H
      go_enter Try.func5, Try.ntmps5
      go_wp2_with (first | ((with_reducible refine gate_dst (N := 1) rfl ?_); refine box_event ?hg (N := 1) ?hd (cs := #[.slice A0_0 l0_0.length c0_0, .slice A0_1 l0_1.length c0_1]) (t := 33) ?hr ?_; (case hd => rfl); (case hg => rfl); (case hr => exact z27_44); intro gb321 hg w121 hbox hb; have n0_ := Aside0.mk (below_step z27_14 hb); have n1_ := Aside0.mk (hbox); have n2_ := Aside0.mk ((z27_49 : w.heap.size ≤ gb321)); have n3_ := Aside0.mk ((z27_49 : w.heap.size ≤ gb321)); clear HB; have HB := n0_; have BK321 := n1_; have GW321 := n2_; have GE321 := n3_; clear n0_ n1_ n2_ n3_; clear hb hbox hg; have hcz122_0 : w121.cell? ⟨gb321, 0, none⟩ = some (.slice A0_0 l0_0.length c0_0) := (blk_cell BK321.out 0).trans rfl; have hcz122_1 : w121.cell? ⟨gb321, 1, none⟩ = some (.slice A0_1 l0_1.length c0_1) := (blk_cell BK321.out 1).trans rfl; have hfz122_0 := blk_frozen BK321.out 0; have hfz122_1 := blk_frozen BK321.out 1) | ((first | ((with_reducible refine gate_callee (f := 17) rfl ?_); refine goesL_ (some 13) rfl rfl Try.func17 z27_29 rfl #[.agg #[.slice A0_0 l0_0.length c0_0, .slice A0_1 l0_1.length c0_1], .int .i64 1048576] rfl z27_2 ?_; (with_reducible refine (laws_szTrace.calls _ _ l0_0 _ _ l0_1 1048576 t322 _ ?side1 ?side2 ?side3 ?side4 A2.out).mono ?_)) | (go_at_call 17; (with_reducible refine (laws_szTrace.calls _ _ l0_0 _ _ l0_1 1048576 t322 _ ?side1 ?side2 ?side3 ?side4 A2.out).mono ?_))); (case side1 => exact z27_8); (case side2 => exact HC0_0.out); (case side3 => exact z27_7); (case side4 => exact HC0_1.out); rintro e w123 ⟨rfl, hb⟩; (first | refine ⟨_, rfl, ?_⟩ | skip); have n0_ := Aside0.mk (blk_below (g := gb321) (o := .cells #[.slice A0_0 l0_0.length c0_0, .slice A0_1 l0_1.length c0_1] 33 (0, 0)) z27_3 hb); have n1_ := Aside0.mk (below_step z27_1 hb); clear BK321; clear HB; have BK321 := n0_; have HB := n1_; clear n0_ n1_; (try clear hb); (try clear hb2); (try clear hk); (try clear hi); have hcz124_0 : w123.cell? ⟨gb321, 0, none⟩ = some (.slice A0_0 l0_0.length c0_0) := (blk_cell BK321.out 0).trans rfl; have hcz124_1 : w123.cell? ⟨gb321, 1, none⟩ = some (.slice A0_1 l0_1.length c0_1) := (blk_cell BK321.out 1).trans rfl; have hfz124_0 := blk_frozen BK321.out 0; have hfz124_1 := blk_frozen BK321.out 1) | ((first | ((with_reducible refine gate_callee (f := 19) rfl ?_); refine goesL_ (some 17) rfl rfl Try.func19 z27_29 rfl #[.agg #[.slice A0_0 l0_0.length c0_0, .slice A0_1 l0_1.length c0_1]] rfl z27_2 ?_; (with_reducible refine (laws_toTrace.calls k _ _ l0_0 _ _ l0_1 t323 t326 _ ?side1 ?side2 ?side3 ?side4 A7.out).mono ?_)) | (go_at_call 19; (with_reducible refine (laws_toTrace.calls k _ _ l0_0 _ _ l0_1 t323 t326 _ ?side1 ?side2 ?side3 ?side4 A7.out).mono ?_))); (case side1 => exact z27_8); (case side2 => exact HC0_0.out); (case side3 => exact z27_7); (case side4 => exact HC0_1.out); rintro e w125 ⟨v324, v327, rfl, ho0, ho1, hb⟩; (first | refine ⟨_, rfl, ?_⟩ | skip); have n0_ := Aside0.mk (Kd.R_lower ho0 (below_size z27_1)); have n1_ := Aside0.mk (Kd.R_lower ho1 (below_size z27_1)); have n2_ := Aside0.mk (blk_below (g := gb321) (o := .cells #[.slice A0_0 l0_0.length c0_0, .slice A0_1 l0_1.length c0_1] 33 (0, 0)) z27_3 hb); have n3_ := Aside0.mk (below_step z27_1 hb); clear BK321; clear HB; have HO325 := n0_; have HO328 := n1_; have BK321 := n2_; have HB := n3_; clear n0_ n1_ n2_ n3_; (try clear hb); (try clear hb2); (try clear hk); (try clear hi); (try clear ho0); (try clear ho1); obtain ⟨Ao126, co126, eo126⟩ := Kd.R_slice HO325.out; subst eo126; obtain ⟨Ao127, co127, eo127⟩ := Kd.R_slice HO328.out; subst eo127) | ((first | ((with_reducible refine gate_callee (f := 18) rfl ?_); refine goesL_ (some 18) rfl rfl Try.func18 z27_29 rfl #[.agg #[.slice Ao126 t323.length co126, .slice Ao127 t326.length co127]] rfl z27_2 ?_; (with_reducible refine (spec_WritesOf.calls k _ _ t323 _ _ t326 t329 _ ?side1 ?side2 ?side3 ?side4 A8.out).mono ?_)) | (go_at_call 18; (with_reducible refine (spec_WritesOf.calls k _ _ t323 _ _ t326 t329 _ ?side1 ?side2 ?side3 ?side4 A8.out).mono ?_))); (case side1 => exact z27_32); (case side2 => exact (Kd.R_reads' HO325.out).2.1); (case side3 => exact z27_31); (case side4 => exact (Kd.R_reads' HO328.out).2.1); rintro e w128 ⟨v330, rfl, ho0, hb⟩; (first | refine ⟨_, rfl, ?_⟩ | skip); have n0_ := Aside0.mk (Kd.R_below z27_6 hb); have n1_ := Aside0.mk (Kd.R_below z27_5 hb); have n2_ := Aside0.mk (Kd.R_lower ho0 (below_size z27_1)); have n3_ := Aside0.mk (blk_below (g := gb321) (o := .cells #[.slice A0_0 l0_0.length c0_0, .slice A0_1 l0_1.length c0_1] 33 (0, 0)) z27_3 hb); have n4_ := Aside0.mk (below_step z27_1 hb); clear HO325; clear HO328; clear BK321; clear HB; have HO325 := n0_; have HO328 := n1_; have HO331 := n2_; have BK321 := n3_; have HB := n4_; clear n0_ n1_ n2_ n3_ n4_; (try clear hb); (try clear hb2); (try clear hk); (try clear hi); (try clear ho0); have hcz129_0 : w128.cell? ⟨gb321, 0, none⟩ = some (.slice A0_0 l0_0.length c0_0) := (blk_cell BK321.out 0).trans rfl; have hcz129_1 : w128.cell? ⟨gb321, 1, none⟩ = some (.slice A0_1 l0_1.length c0_1) := (blk_cell BK321.out 1).trans rfl; have hfz129_0 := blk_frozen BK321.out 0; have hfz129_1 := blk_frozen BK321.out 1) | ((first | ((with_reducible refine gate_callee (f := 19) rfl ?_); refine goesL_ (some 20) rfl rfl Try.func19 z27_29 rfl #[.agg #[.slice A0_0 l0_0.length c0_0, .slice A0_1 l0_1.length c0_1]] rfl z27_2 ?_; (with_reducible refine (laws_toTrace.calls k _ _ l0_0 _ _ l0_1 t332 t335 _ ?side1 ?side2 ?side3 ?side4 A9.out).mono ?_)) | (go_at_call 19; (with_reducible refine (laws_toTrace.calls k _ _ l0_0 _ _ l0_1 t332 t335 _ ?side1 ?side2 ?side3 ?side4 A9.out).mono ?_))); (case side1 => exact z27_8); (case side2 => exact HC0_0.out); (case side3 => exact z27_7); (case side4 => exact HC0_1.out); rintro e w130 ⟨v333, v336, rfl, ho0, ho1, hb⟩; (first | refine ⟨_, rfl, ?_⟩ | skip); have n0_ := Aside0.mk (Kd.R_elder' z27_6 (Kd.R_base ho0) hb); have n1_ := Aside0.mk (Kd.R_elder' z27_5 (Kd.R_base ho1) hb); have n2_ := Aside0.mk (Kd.R_below z27_16 hb); have n3_ := Aside0.mk (Kd.R_lower (Kd.R_new' ho0 (Kd.R_lt z27_6)) (below_size z27_1)); have n4_ := Aside0.mk (Kd.R_lower (Kd.R_new' ho1 (Kd.R_lt z27_5)) (below_size z27_1)); have n5_ := Aside0.mk (blk_below (g := gb321) (o := .cells #[.slice A0_0 l0_0.length c0_0, .slice A0_1 l0_1.length c0_1] 33 (0, 0)) z27_3 hb); have n6_ := Aside0.mk (below_step z27_1 hb); clear HO325; clear HO328; clear HO331; clear BK321; clear HB; have HO325 := n0_; have HO328 := n1_; have HO331 := n2_; have HO334 := n3_; have HO337 := n4_; have BK321 := n5_; have HB := n6_; clear n0_ n1_ n2_ n3_ n4_ n5_ n6_; (try clear hb); (try clear hb2); (try clear hk); (try clear hi); (try clear ho0); (try clear ho1)) | ((with_reducible refine gate_dst (N := 5) rfl ?_); refine box_event ?hg (N := 5) ?hd (cs := #[.slice none 0 0, .slice none 0 0]) (t := 38) ?hr ?_; (case hd => rfl); (case hg => rfl); (case hr => exact z27_44); intro gb338 hg w131 hbox hb; have n0_ := Aside0.mk (Kd.R_below z27_6 hb); have n1_ := Aside0.mk (Kd.R_below z27_5 hb); have n2_ := Aside0.mk (Kd.R_below z27_16 hb); have n3_ := Aside0.mk (Kd.R_below z27_18 hb); have n4_ := Aside0.mk (Kd.R_below z27_17 hb); have n5_ := Aside0.mk (blk_below (g := gb321) (o := .cells #[.slice A0_0 l0_0.length c0_0, .slice A0_1 l0_1.length c0_1] 33 (0, 0)) z27_3 hb); have n6_ := Aside0.mk (below_step z27_1 hb); have n7_ := Aside0.mk (hbox); have n8_ := Aside0.mk ((by rw [hg]; exact (below_size z27_1) : w.heap.size ≤ gb338)); have n9_ := Aside0.mk ((by rw [hg]; exact (below_size z27_1) : w.heap.size ≤ gb338)); have n10_ := Aside0.mk ((z27_47 : gb321 ≠ gb338)); have n11_ := Aside0.mk ((z27_48 : gb338 ≠ gb321)); clear HO325; clear HO328; clear HO331; clear HO334; clear HO337; clear BK321; clear HB; have HO325 := n0_; have HO328 := n1_; have HO331 := n2_; have HO334 := n3_; have HO337 := n4_; have BK321 := n5_; have HB := n6_; have BK338 := n7_; have GW338 := n8_; have GE338 := n9_; have NB321_338 := n10_; have NB338_321 := n11_; clear n0_ n1_ n2_ n3_ n4_ n5_ n6_ n7_ n8_ n9_ n10_ n11_; clear hb hbox hg; obtain ⟨Ao132, co132, eo132⟩ := Kd.R_slice HO334.out; subst eo132; have hnb133 := NB338_321.out; have hnc133 := NB321_338.out; have hcz134_0 : w131.cell? ⟨gb338, 0, none⟩ = some (.slice none 0 0) := (blk_cell BK338.out 0).trans rfl; have hcz134_1 : w131.cell? ⟨gb338, 1, none⟩ = some (.slice none 0 0) := (blk_cell BK338.out 1).trans rfl; have hfz134_0 := blk_frozen BK338.out 0; have hfz134_1 := blk_frozen BK338.out 1; obtain ⟨Ao135, co135, eo135⟩ := Kd.R_slice HO337.out; subst eo135) | ((first | ((with_reducible refine gate_callee (f := 20) rfl ?_); refine goesL_ (some 22) rfl rfl Try.func20 z27_29 rfl #[.agg #[.slice Ao132 t332.length co132, .slice Ao135 t335.length co135]] rfl z27_2 ?_; (with_reducible refine (impl_WritesOf.calls k _ _ t332 _ _ t335 t339 _ ?side1 ?side2 ?side3 ?side4 A10.out).mono ?_)) | (go_at_call 20; (with_reducible refine (impl_WritesOf.calls k _ _ t332 _ _ t335 t339 _ ?side1 ?side2 ?side3 ?side4 A10.out).mono ?_))); (case side1 => refine (Kd.R_reads' (e := 54) (base := w.heap.size) (ok := fun k_ => (True ∧ some k_ ≠ (.slice Ao126 t323.length co126 : Value).ownBlock)) (n := t332.length) (c := co132) ?_).2.2; exact z27_35); (case side2 => exact (Kd.R_reads' HO334.out).2.1); (case side3 => refine (Kd.R_reads' (e := 3) (base := w.heap.size) (ok := fun k_ => (True ∧ some k_ ≠ (.slice Ao127 t326.length co127 : Value).ownBlock)) (n := t335.length) (c := co135) ?_).2.2; exact z27_33); (case side4 => exact (Kd.R_reads' HO337.out).2.1); rintro e w136 ⟨v340, rfl, ho0, hb⟩; (first | refine ⟨_, rfl, ?_⟩ | skip); have n0_ := Aside0.mk (Kd.R_below (by (with_reducible repeat (first | apply Kd.R_alloc | apply Kd.R_drewN | apply Kd.R_drew)); exact (Kd.R_mono (Kd.R_far (p := ⟨gb338, 1, none⟩) (Kd.R_far (p := ⟨gb338, 0, none⟩) (Kd.R_types HO325.out BK338.out z27_43) (fun _ hk => hk.2) (.slice Ao132 t332.length co132)) (fun _ hk => hk.2) (.slice Ao135 t335.length co135)) (fun _ h_ => h_.1))) hb); have n1_ := Aside0.mk (Kd.R_below (by (with_reducible repeat (first | apply Kd.R_alloc | apply Kd.R_drewN | apply Kd.R_drew)); exact (Kd.R_mono (Kd.R_far (p := ⟨gb338, 1, none⟩) (Kd.R_far (p := ⟨gb338, 0, none⟩) (Kd.R_types HO328.out BK338.out z27_43) (fun _ hk => hk.2) (.slice Ao132 t332.length co132)) (fun _ hk => hk.2) (.slice Ao135 t335.length co135)) (fun _ h_ => h_.1))) hb); have n2_ := Aside0.mk (Kd.R_elder' z27_37 (Kd.R_base ho0) hb); have n3_ := Aside0.mk (Kd.R_below z27_35 hb); have n4_ := Aside0.mk (Kd.R_below z27_33 hb); have n5_ := Aside0.mk (Kd.R_lower (Kd.R_new' ho0 (Kd.R_lt z27_37)) (below_size z27_0)); have n6_ := Aside0.mk (blk_below (g := gb321) (o := .cells #[.slice A0_0 l0_0.length c0_0, .slice A0_1 l0_1.length c0_1] 33 (0, 0)) z27_20 hb); have n7_ := Aside0.mk (blk_below (g := gb338) (o := .cells #[.slice Ao132 t332.length co132, .slice Ao135 t335.length co135] 38 (0, 0)) (by (with_reducible repeat (first | refine blk_drewN ?_ _ | refine blk_drew ?_ | refine blk_alloc ?_ _)); refine blk_put (cs := #[.slice Ao132 t332.length co132, .slice none 0 0]) ?_ 1 _ rfl; (with_reducible repeat (first | refine blk_drewN ?_ _ | refine blk_drew ?_ | refine blk_alloc ?_ _)); refine blk_put (cs := #[.slice none 0 0, .slice none 0 0]) ?_ 0 _ rfl; (with_reducible repeat (first | refine blk_drewN ?_ _ | refine blk_drew ?_ | refine blk_alloc ?_ _)); exact BK338.out) hb); have n8_ := Aside0.mk (below_step z27_0 hb); clear HO325; clear HO328; clear HO331; clear HO334; clear HO337; clear BK321; clear BK338; clear HB; have HO325 := n0_; have HO328 := n1_; have HO331 := n2_; have HO334 := n3_; have HO337 := n4_; have HO341 := n5_; have BK321 := n6_; have BK338 := n7_; have HB := n8_; clear n0_ n1_ n2_ n3_ n4_ n5_ n6_ n7_ n8_; (try clear hb); (try clear hb2); (try clear hk); (try clear hi); (try clear ho0); obtain ⟨Ao137, co137, eo137⟩ := Kd.R_slice HO341.out; subst eo137; obtain ⟨Ao138, co138, eo138⟩ := Kd.R_slice HO331.out; subst eo138) | ((first | ((with_reducible refine gate_callee (f := 9) rfl ?_); refine goesL_ (some 25) rfl rfl Try.func9 z27_29 rfl #[.slice Ao137 t339.length co137, .slice Ao138 t329.length co138] rfl z27_2 ?_; (with_reducible refine (laws_eqWriteS.calls k _ _ t339 _ _ t329 false _ ?side1 ?side2 ?side3 ?side4 A11.out).mono ?_)) | (go_at_call 9; (with_reducible refine (laws_eqWriteS.calls k _ _ t339 _ _ t329 false _ ?side1 ?side2 ?side3 ?side4 A11.out).mono ?_))); (case side1 => exact z27_27); (case side2 => exact (Kd.R_reads' HO341.out).2.1); (case side3 => exact z27_28); (case side4 => exact (Kd.R_reads' HO331.out).2.1); rintro e w139 ⟨rfl, hb⟩; (first | refine ⟨_, rfl, ?_⟩ | skip); have n0_ := Aside0.mk (Kd.R_below z27_6 hb); have n1_ := Aside0.mk (Kd.R_below z27_5 hb); have n2_ := Aside0.mk (Kd.R_below z27_16 hb); have n3_ := Aside0.mk (Kd.R_below z27_18 hb); have n4_ := Aside0.mk (Kd.R_below z27_17 hb); have n5_ := Aside0.mk (Kd.R_below z27_23 hb); have n6_ := Aside0.mk (blk_below (g := gb321) (o := .cells #[.slice A0_0 l0_0.length c0_0, .slice A0_1 l0_1.length c0_1] 33 (0, 0)) z27_3 hb); have n7_ := Aside0.mk (blk_below (g := gb338) (o := .cells #[.slice Ao132 t332.length co132, .slice Ao135 t335.length co135] 38 (0, 0)) z27_4 hb); have n8_ := Aside0.mk (below_step z27_0 hb); clear HO325; clear HO328; clear HO331; clear HO334; clear HO337; clear HO341; clear BK321; clear BK338; clear HB; have HO325 := n0_; have HO328 := n1_; have HO331 := n2_; have HO334 := n3_; have HO337 := n4_; have HO341 := n5_; have BK321 := n6_; have BK338 := n7_; have HB := n8_; clear n0_ n1_ n2_ n3_ n4_ n5_ n6_ n7_ n8_; (try clear hb); (try clear hb2); (try clear hk); (try clear hi)))
      go_ret
      exact ⟨by first | rfl | (simp [errW_none, errW_some] <;> rfl) | (simp [*, errW_none, errW_some] <;> rfl) | (simp [*, errW_none, errW_some, i64_w]; done), by repeat (first | (with_reducible first | exact HB.out | apply below_alloc | apply pw_below_drewN | apply below_drew1 | refine below_set ?_ GE321.out | refine below_set ?_ GE338.out) | exact HB.out)⟩

/-- THE ONE PURE STATEMENT of laws_FnExactWritesOf. -/
def laws_FnExactWritesOf.Pure : Prop := ∀ (x0 : S33), gd33 x0 → ∃ k, laws_FnExactWritesOf.f k x0.f0 x0.f1 = some true
theorem laws_FnExactWritesOf.walk (P : laws_FnExactWritesOf.Pure) (x0 : S33) (c0 : Array Value) (w : World) (K0 : k33.K w x0 c0.toList) (G0 : gd33 x0) :
    Calls Try.prog 5 #[.agg c0] w fun e w' => e = .returned (.bool true) ∧ Below w.heap.size w w' := by
  obtain ⟨A0_0, c0_0, A0_1, c0_1, e0, l0_0, g0_0, l0_1, g0_1⟩ := k33_open K0
  have e0' : c0 = #[.slice A0_0 x0.f0.length c0_0, .slice A0_1 x0.f1.length c0_1] := by rw [← Array.toList_inj]; exact e0
  subst e0'
  obtain ⟨k, h⟩ := P x0 G0
  refine (laws_FnExactWritesOf.calls k _ _ x0.f0 _ _ x0.f1 true w g0_0 l0_0 g0_1 l0_1 h).mono ?_
  rintro e w' ⟨rfl, hd⟩
  exact ⟨rfl, hd⟩

end Go.Proofs.Ytchbedkcfphlfaa.G
