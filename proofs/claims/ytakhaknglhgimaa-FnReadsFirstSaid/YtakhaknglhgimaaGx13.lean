/- Functions of the program as plain Lean functions, and that each call comes to its function's answer; written by a program of the session. No condition. -/
import Derived.Test.YtakhaknglhgimaaGx0
import Derived.Test.YtakhaknglhgimaaGx2
import Derived.Test.YtakhaknglhgimaaGx3
import Derived.Test.YtakhaknglhgimaaGx5
import Derived.Test.YtakhaknglhgimaaGx12
namespace Go.Proofs.Ytakhaknglhgimaa.G
open Go.RowKit Go.Proofs.YtakhaknglhgimaaW.PrintWords Go.Proofs.YtakhaknglhgimaaW.PrintLast Go.Proofs.YtakhaknglhgimaaW.PrintMore
attribute [local go_sem] max2_int min2_int max_two min_two max_three min_three max_four min_four   -- for this text's walks alone
set_option linter.unusedVariables false
set_option linter.unusedSimpArgs false

theorem z13_0 {P : Prop} (h : P := by repeat (first | (with_reducible first | exact HB.out | apply below_alloc | apply pw_below_drewN | apply below_drew1 | refine below_set ?_ GE531.out) | exact HB.out)) : P := h
theorem z13_1 {P : Prop} (h : P := by (with_reducible repeat (first | apply Kd.R_alloc | apply Kd.R_drewN | apply Kd.R_drew)); exact HO534.out) : P := h
theorem z13_2 {P : Prop} (h : P := by (try simp only [List.map_toArray, List.map_cons, List.map_nil]); first | done | rfl | (simp only [List.length_drop, List.length_take]; rfl)) : P := h
theorem z13_3 {P : Prop} (h : P := by (with_reducible repeat (first | refine blk_drewN ?_ _ | refine blk_drew ?_ | refine blk_alloc ?_ _)); exact BK531.out) : P := h
theorem z13_4 {P : Prop} (h : P := by (with_reducible repeat (first | apply Kd.R_alloc | apply Kd.R_drewN | apply Kd.R_drew)); exact HO537.out) : P := h
theorem z13_5 {P : Prop} (h : P := by (with_reducible repeat (first | apply Kd.R_alloc | apply Kd.R_drewN | apply Kd.R_drew)); exact HO540.out) : P := h
theorem z13_6 {P : Prop} (h : P := by (with_reducible repeat (first | apply Kd.S_alloc | apply Kd.S_drewN | apply Kd.S_drew)); exact HO530.out) : P := h
theorem z13_7 {P : Prop} (h : P := by (with_reducible repeat (first | apply Kd.R_alloc | apply Kd.R_drewN | apply Kd.R_drew)); exact HO545.out) : P := h
theorem z13_8 {P : Prop} (h : P := by first | (with_reducible assumption) | assumption) : P := h
theorem z13_9 {P : Prop} (h : P := by repeat (first | (with_reducible first | exact HB.out | apply below_alloc | apply pw_below_drewN | apply below_drew1) | exact HB.out)) : P := h
theorem z13_10 {P : Prop} (h : P := by repeat (first | (with_reducible first | exact HB.out | apply below_alloc | apply pw_below_drewN | apply below_drew1 | refine below_set ?_ GE531.out | refine below_set ?_ GE564.out) | exact HB.out)) : P := h
theorem z13_11 {P : Prop} (h : P := by kernel_rfl) : P := h
theorem z13_12 {P : Prop} (h : P := by repeat (first | (with_reducible exact HR542_0.out) | (with_reducible refine Kd.C_alloc ?_ _) | (with_reducible refine Kd.C_drewN ?_ _) | (with_reducible refine Kd.C_drew ?_) | exact HR542_0.out)) : P := h
theorem z13_13 {P : Prop} (h : P := by repeat (first | (with_reducible first | exact HB.out | apply below_alloc | apply pw_below_drewN | apply below_drew1 | refine below_set ?_ GE531.out | refine below_set ?_ GE564.out | refine below_set ?_ GE574.out) | exact HB.out)) : P := h
theorem z13_14 {P : Prop} (h : P := by (with_reducible repeat (first | apply Kd.R_alloc | apply Kd.R_drewN | apply Kd.R_drew)); exact HL542_0.out) : P := h
theorem z13_15 {P : Prop} (h : P := by (with_reducible repeat (first | apply Kd.R_alloc | apply Kd.R_drewN | apply Kd.R_drew)); exact HO552.out) : P := h
theorem z13_16 {P : Prop} (h : P := by repeat (first | exact HR0.out | (with_reducible refine Kd.C_alloc ?_ _) | (with_reducible refine Kd.C_drewN ?_ _) | (with_reducible refine Kd.C_drew ?_))) : P := h
theorem z13_17 {P : Prop} (h : P := by repeat (first | (with_reducible exact HR578_0.out) | (with_reducible refine Kd.C_alloc ?_ _) | (with_reducible refine Kd.C_drewN ?_ _) | (with_reducible refine Kd.C_drew ?_) | exact HR578_0.out)) : P := h
theorem z13_18 {P : Prop} (h : P := by (with_reducible repeat (first | refine blk_drewN ?_ _ | refine blk_drew ?_ | refine blk_alloc ?_ _)); exact BK564.out) : P := h
theorem z13_19 {P : Prop} (h : P := by repeat (first | exact (Kd.C_below HR0.out HB.out) | (with_reducible refine Kd.C_alloc ?_ _) | (with_reducible refine Kd.C_drewN ?_ _) | (with_reducible refine Kd.C_drew ?_))) : P := h
theorem z13_20 {P : Prop} (h : P := by (with_reducible repeat (first | apply Kd.R_alloc | apply Kd.R_drewN | apply Kd.R_drew)); exact HO560.out) : P := h
theorem z13_21 {P : Prop} (h : P := by (with_reducible repeat (first | apply Kd.R_alloc | apply Kd.R_drewN | apply Kd.R_drew)); exact HO557.out) : P := h
theorem z13_22 {P : Prop} (h : P := by first | rfl | (simp; done) | (simp [*]; done)) : P := h
theorem z13_23 {P : Prop} (h : P := by repeat (first | exact (Kd.R_reads' HO570.out).2.2 | (with_reducible refine Kd.C_alloc ?_ _) | (with_reducible refine Kd.C_drewN ?_ _) | (with_reducible refine Kd.C_drew ?_))) : P := h
theorem z13_24 {P : Prop} (h : P := by repeat (first | exact (Kd.R_reads' HO560.out).2.2 | (with_reducible refine Kd.C_alloc ?_ _) | (with_reducible refine Kd.C_drewN ?_ _) | (with_reducible refine Kd.C_drew ?_))) : P := h
theorem z13_25 {P : Prop} (h : P := by (try simp only [List.map_toArray, List.map_cons, List.map_nil]); first | done | (simp only [hji26]; rfl) | rfl | (simp only [List.length_drop, List.length_take]; rfl)) : P := h
theorem z13_26 {P : Prop} (h : P := by (with_reducible repeat (first | apply Kd.R_alloc | apply Kd.R_drewN | apply Kd.R_drew)); exact HO_575001.out) : P := h
theorem z13_27 {P : Prop} (h : P := by (with_reducible repeat (first | apply Kd.R_alloc | apply Kd.R_drewN | apply Kd.R_drew)); exact HO_575000.out) : P := h
theorem z13_28 {P : Prop} (h : P := by (with_reducible repeat (first | apply Kd.R_alloc | apply Kd.R_drewN | apply Kd.R_drew)); exact HO_565001.out) : P := h
theorem z13_29 {P : Prop} (h : P := by (with_reducible repeat (first | apply Kd.R_alloc | apply Kd.R_drewN | apply Kd.R_drew)); exact HO_565000.out) : P := h
theorem z13_30 {P : Prop} (h : P := by (with_reducible repeat (first | refine blk_drewN ?_ _ | refine blk_drew ?_ | refine blk_alloc ?_ _)); refine blk_put (cs := #[.slice none 0 0]) ?_ 0 _ rfl; (with_reducible repeat (first | refine blk_drewN ?_ _ | refine blk_drew ?_ | refine blk_alloc ?_ _)); exact BK531.out) : P := h
theorem z13_31 {P : Prop} (h : P := by first | (go_simp; done) | (go_simp; rfl)) : P := h
/-! ### laws_FnReadsFirst: function 11 -/
mutual
def laws_FnReadsFirst.j0 : Nat → Int → Bool → List (S34) → List Int → List Int → Int → Int → List Int → List Int → Int → Int → Option (Bool)
  | 0, _, _, _, _, _, _, _, _, _, _, _ => none
  | k + 1, x7, x98, x532000, x565000, x565001, x565002, x565003, x575000, x575001, x575002, x575003 => if x98 = true then (some false) else (laws_FnReadsFirst.l0 k x7 0 x532000 x565000 x565001 x565002 x565003 x575000 x575001 x575002 x575003)
def laws_FnReadsFirst.l0 : Nat → Int → Int → List (S34) → List Int → List Int → Int → Int → List Int → List Int → Int → Int → Option (Bool)
  | 0, _, _, _, _, _, _, _, _, _, _, _ => none
  | k + 1, x7, x13, x532000, x565000, x565001, x565002, x565003, x575000, x575001, x575002, x575003 => if x13 < 8 then (if x13 = x7 then (laws_FnReadsFirst.l0 k x7 (wrap64 (x13 + 1)) x532000 x565000 x565001 x565002 x565003 x575000 x575001 x575002 x575003) else (if 0 ≤ x13 then (if x13 < (x565000.length : Int) then (if x13 < (x575000.length : Int) then (if (rd x565000 x13) = (rd x575000 x13) then (laws_FnReadsFirst.l0 k x7 (wrap64 (x13 + 1)) x532000 x565000 x565001 x565002 x565003 x575000 x575001 x575002 x575003) else (some false)) else (none)) else (none)) else (none))) else (if 0 < (x532000.length : Int) then ((impl_MustWrite.f k ((rd_T34 x532000 0).f0)).bind fun t579 => ((laws_has.f k t579 x7).bind fun t582 => (if t582 = true then (if 0 ≤ x7 then (if x7 < (x565000.length : Int) then (if x7 < (x575000.length : Int) then (some ((rd x565000 x7) == (rd x575000 x7))) else (none)) else (none)) else (none)) else (some true)))) else (none))
end
def laws_FnReadsFirst.f (k : Nat) (l0 : List Int) : Option (Bool) := (laws_big.f l0).bind fun t527 => (if t527 = true then (some true) else ((spec_DrawProgram.f k l0).bind fun t528 => ((spec_DrawVars.f k l0).bind fun t532 => ((spec_DrawReadings.f k l0).bind fun t535 => ((spec_DrawPlaces.f k l0).bind fun t538 => (if 0 < (t538.length : Int) then (if 0 < (t528.length : Int) then ((impl_MayReadFirst.f k ((rd_T34 t528 0).f0) ((rd_T34 t528 0).f1.f0) ((rd_T34 t528 0).f1.f1) ((rd_T34 t528 0).f1.f2)).bind fun t543 => ((laws_has.f k t543 (Int.tmod (rd t538 0) 8)).bind fun t546 => (if t546 = true then (some true) else ((some (([] : List Int) : List Int)).bind fun y547 => (if y547.length + t532.length < 17592186044416 then ((some (y547 ++ t532 : List Int)).bind fun y550 => (if 1 < (t538.length : Int) then (if 0 ≤ (Int.tmod (rd t538 0) 8) then (if (Int.tmod (rd t538 0) 8) < (y550.length : Int) then ((impl_TaskEffect.f k t528 0 t532 t535).bind fun bt555 => ((impl_TaskEffect.f k t528 0 (y550.set ((Int.tmod (rd t538 0) 8) : Int).toNat (wrap64 ((rd t538 1) - 5000))) t535).bind fun bt565 => (if bt555.2.2.2.2 = true then (if bt565.2.2.2.2 = true then (if (bt555.1.length : Int) = 8 then (if (bt565.1.length : Int) = 8 then ((laws_sameInts.f k bt555.2.1 bt565.2.1).bind fun t575 => (if t575 = true then (if bt555.2.2.1 = bt565.2.2.1 then (laws_FnReadsFirst.j0 k (Int.tmod (rd t538 0) 8) (bt555.2.2.2.1 != bt565.2.2.2.1) t528 bt555.1 bt555.2.1 bt555.2.2.1 bt555.2.2.2.1 bt565.1 bt565.2.1 bt565.2.2.1 bt565.2.2.2.1) else (laws_FnReadsFirst.j0 k (Int.tmod (rd t538 0) 8) true t528 bt555.1 bt555.2.1 bt555.2.2.1 bt555.2.2.2.1 bt565.1 bt565.2.1 bt565.2.2.1 bt565.2.2.2.1)) else (laws_FnReadsFirst.j0 k (Int.tmod (rd t538 0) 8) true t528 bt555.1 bt555.2.1 bt555.2.2.1 bt555.2.2.2.1 bt565.1 bt565.2.1 bt565.2.2.1 bt565.2.2.2.1))) else (laws_FnReadsFirst.j0 k (Int.tmod (rd t538 0) 8) true t528 bt555.1 bt555.2.1 bt555.2.2.1 bt555.2.2.2.1 bt565.1 bt565.2.1 bt565.2.2.1 bt565.2.2.2.1)) else (laws_FnReadsFirst.j0 k (Int.tmod (rd t538 0) 8) true t528 bt555.1 bt555.2.1 bt555.2.2.1 bt555.2.2.2.1 bt565.1 bt565.2.1 bt565.2.2.1 bt565.2.2.2.1)) else (laws_FnReadsFirst.j0 k (Int.tmod (rd t538 0) 8) true t528 bt555.1 bt555.2.1 bt555.2.2.1 bt555.2.2.2.1 bt565.1 bt565.2.1 bt565.2.2.1 bt565.2.2.2.1)) else (laws_FnReadsFirst.j0 k (Int.tmod (rd t538 0) 8) true t528 bt555.1 bt555.2.1 bt555.2.2.1 bt555.2.2.2.1 bt565.1 bt565.2.1 bt565.2.2.1 bt565.2.2.2.1)))) else (none)) else (none)) else (none))) else (none)))))) else (none)) else (none)))))))
theorem laws_FnReadsFirst.mono_l : ∀ k, (∀ y0 y1 y2 y3 y4 y5 y6 y7 y8 y9 y10, LeO (laws_FnReadsFirst.j0 k y0 y1 y2 y3 y4 y5 y6 y7 y8 y9 y10) (laws_FnReadsFirst.j0 (k + 1) y0 y1 y2 y3 y4 y5 y6 y7 y8 y9 y10)) ∧ (∀ y0 y1 y2 y3 y4 y5 y6 y7 y8 y9 y10, LeO (laws_FnReadsFirst.l0 k y0 y1 y2 y3 y4 y5 y6 y7 y8 y9 y10) (laws_FnReadsFirst.l0 (k + 1) y0 y1 y2 y3 y4 y5 y6 y7 y8 y9 y10))
  | 0 => ⟨fun _ _ _ _ _ _ _ _ _ _ _ r h => by simp [laws_FnReadsFirst.j0] at h, fun _ _ _ _ _ _ _ _ _ _ _ r h => by simp [laws_FnReadsFirst.l0] at h⟩
  | k + 1 => by
    obtain ⟨ih0, ih1⟩ := laws_FnReadsFirst.mono_l k
    refine ⟨?_, ?_⟩
    · intro y0 y1 y2 y3 y4 y5 y6 y7 y8 y9 y10
      unfold laws_FnReadsFirst.j0
      repeat' first
      | (with_reducible exact ih0 _ _ _ _ _ _ _ _ _ _ _)
      | (with_reducible exact ih1 _ _ _ _ _ _ _ _ _ _ _)
      | (with_reducible exact impl_MayReadFirst.mono _ _ _ _ _)
      | (with_reducible exact impl_MustWrite.mono _ _)
      | (with_reducible exact impl_TaskEffect.mono _ _ _ _ _)
      | (with_reducible exact laws_has.mono _ _ _)
      | (with_reducible exact laws_sameInts.mono _ _ _)
      | (with_reducible exact spec_DrawPlaces.mono _ _)
      | (with_reducible exact spec_DrawProgram.mono _ _)
      | (with_reducible exact spec_DrawReadings.mono _ _)
      | (with_reducible exact spec_DrawVars.mono _ _)
      | (with_reducible exact LeO.refl _)
      | (with_reducible exact LeO.none _)
      | (with_reducible refine LeO.ite ?_ ?_)
      | (with_reducible refine LeO.bind ?_ (fun _ => ?_))
      | exact ih0 _ _ _ _ _ _ _ _ _ _ _
      | exact ih1 _ _ _ _ _ _ _ _ _ _ _
      | exact impl_MayReadFirst.mono _ _ _ _ _
      | exact impl_MustWrite.mono _ _
      | exact impl_TaskEffect.mono _ _ _ _ _
      | exact laws_has.mono _ _ _
      | exact laws_sameInts.mono _ _ _
      | exact spec_DrawPlaces.mono _ _
      | exact spec_DrawProgram.mono _ _
      | exact spec_DrawReadings.mono _ _
      | exact spec_DrawVars.mono _ _
      | exact LeO.none _
      | refine LeO.ite ?_ ?_
      | refine LeO.bind ?_ (fun _ => ?_)
    · intro y0 y1 y2 y3 y4 y5 y6 y7 y8 y9 y10
      unfold laws_FnReadsFirst.l0
      repeat' first
      | (with_reducible exact ih0 _ _ _ _ _ _ _ _ _ _ _)
      | (with_reducible exact ih1 _ _ _ _ _ _ _ _ _ _ _)
      | (with_reducible exact impl_MayReadFirst.mono _ _ _ _ _)
      | (with_reducible exact impl_MustWrite.mono _ _)
      | (with_reducible exact impl_TaskEffect.mono _ _ _ _ _)
      | (with_reducible exact laws_has.mono _ _ _)
      | (with_reducible exact laws_sameInts.mono _ _ _)
      | (with_reducible exact spec_DrawPlaces.mono _ _)
      | (with_reducible exact spec_DrawProgram.mono _ _)
      | (with_reducible exact spec_DrawReadings.mono _ _)
      | (with_reducible exact spec_DrawVars.mono _ _)
      | (with_reducible exact LeO.refl _)
      | (with_reducible exact LeO.none _)
      | (with_reducible refine LeO.ite ?_ ?_)
      | (with_reducible refine LeO.bind ?_ (fun _ => ?_))
      | exact ih0 _ _ _ _ _ _ _ _ _ _ _
      | exact ih1 _ _ _ _ _ _ _ _ _ _ _
      | exact impl_MayReadFirst.mono _ _ _ _ _
      | exact impl_MustWrite.mono _ _
      | exact impl_TaskEffect.mono _ _ _ _ _
      | exact laws_has.mono _ _ _
      | exact laws_sameInts.mono _ _ _
      | exact spec_DrawPlaces.mono _ _
      | exact spec_DrawProgram.mono _ _
      | exact spec_DrawReadings.mono _ _
      | exact spec_DrawVars.mono _ _
      | exact LeO.none _
      | refine LeO.ite ?_ ?_
      | refine LeO.bind ?_ (fun _ => ?_)
theorem laws_FnReadsFirst.mono : ∀ a0 k, LeO (laws_FnReadsFirst.f k a0) (laws_FnReadsFirst.f (k + 1) a0) := by
  intro a0 k
  obtain ⟨ih0, ih1⟩ := laws_FnReadsFirst.mono_l k
  unfold laws_FnReadsFirst.f
  repeat' first
      | (with_reducible exact ih0 _ _ _ _ _ _ _ _ _ _ _)
      | (with_reducible exact ih1 _ _ _ _ _ _ _ _ _ _ _)
      | (with_reducible exact impl_MayReadFirst.mono _ _ _ _ _)
      | (with_reducible exact impl_MustWrite.mono _ _)
      | (with_reducible exact impl_TaskEffect.mono _ _ _ _ _)
      | (with_reducible exact laws_has.mono _ _ _)
      | (with_reducible exact laws_sameInts.mono _ _ _)
      | (with_reducible exact spec_DrawPlaces.mono _ _)
      | (with_reducible exact spec_DrawProgram.mono _ _)
      | (with_reducible exact spec_DrawReadings.mono _ _)
      | (with_reducible exact spec_DrawVars.mono _ _)
      | (with_reducible exact LeO.refl _)
      | (with_reducible exact LeO.none _)
      | (with_reducible refine LeO.ite ?_ ?_)
      | (with_reducible refine LeO.bind ?_ (fun _ => ?_))
      | exact ih0 _ _ _ _ _ _ _ _ _ _ _
      | exact ih1 _ _ _ _ _ _ _ _ _ _ _
      | exact impl_MayReadFirst.mono _ _ _ _ _
      | exact impl_MustWrite.mono _ _
      | exact impl_TaskEffect.mono _ _ _ _ _
      | exact laws_has.mono _ _ _
      | exact laws_sameInts.mono _ _ _
      | exact spec_DrawPlaces.mono _ _
      | exact spec_DrawProgram.mono _ _
      | exact spec_DrawReadings.mono _ _
      | exact spec_DrawVars.mono _ _
      | exact LeO.none _
      | refine LeO.ite ?_ ?_
      | refine LeO.bind ?_ (fun _ => ?_)
def laws_FnReadsFirst.T19 : Bool × List (List Nat × List Nat) := (true, [([], []), ([], []), ([0, 1], [0, 1]), ([2], [2]), ([3], [3]), ([4, 3], [3, 4]), ([3], [3]), ([5, 6, 3], [3, 5, 6]), ([7, 3], [3, 7]), ([3], [3]), ([9, 3], [3, 9]), ([3], [3]), ([10, 11, 3], [3, 10, 11]), ([12, 3], [3, 12]), ([8, 13, 3], [3, 8, 13]), ([3, 14], [3, 14])])
def laws_FnReadsFirst.B19 : List Nat := [0, 0, 3, 7, 15, 31, 15, 127, 255, 15, 527, 15, 3599, 7695, 16383, 32767]
theorem laws_FnReadsFirst.tab19 : rtab .any (opsOf Try.f11 19) = laws_FnReadsFirst.T19 := by kernel_rfl
theorem laws_FnReadsFirst.bits19 : waitsOk laws_FnReadsFirst.T19.2 laws_FnReadsFirst.B19 = true := by kernel_rfl
def laws_FnReadsFirst.T21 : Bool × List (List Nat × List Nat) := (true, [([], []), ([0], [0]), ([1], [1]), ([2], [2]), ([3], [3]), ([4], [4]), ([], []), ([5, 6, 5], [5, 6]), ([7], [7]), ([8, 7], [8]), ([9], [9]), ([10, 9], [9, 10]), ([9], [9]), ([11, 12, 9], [9, 11, 12]), ([13, 9], [9, 13]), ([9], [9]), ([15, 9], [9, 15]), ([9], [9]), ([16, 17, 9], [9, 16, 17]), ([18, 9], [9, 18]), ([14, 19, 9], [9, 14, 19]), ([9, 20], [9, 20]), ([21, 9, 0, 1, 2, 3, 4, 5, 6, 7, 8, 9, 10, 11, 12, 13, 14, 15, 16, 17, 18, 19, 20, 21], [21])])
def laws_FnReadsFirst.B21 : List Nat := [0, 1, 3, 7, 15, 31, 0, 127, 255, 511, 1023, 2047, 1023, 8191, 16383, 1023, 33791, 1023, 230399, 492543, 1048575, 2097151, 4194303]
theorem laws_FnReadsFirst.tab21 : rtab .any (opsOf Try.f11 21) = laws_FnReadsFirst.T21 := by kernel_rfl
theorem laws_FnReadsFirst.bits21 : waitsOk laws_FnReadsFirst.T21.2 laws_FnReadsFirst.B21 = true := by kernel_rfl
set_option maxHeartbeats 8000000 in
set_option maxRecDepth 100000 in
theorem laws_FnReadsFirst.calls (k : Nat) (A0 : Option Addr) (c0 : Nat) (l0 : List Int) (r : Bool) (w : World) (hr0 : Kd.C (Kd.int .u8) w A0 l0.length l0) (hc0 : l0.length ≤ c0) (h : laws_FnReadsFirst.f k l0 = some r) :
    Calls Try.prog 11 #[.slice A0 l0.length c0] w fun e w' => e = .returned (.bool r) ∧ Below w.heap.size w w' := by
  have hu26 := Try.underlying26
  have hu34 := Try.underlying34
  have hu37 := Try.underlying37
  have HR0 := Aside0.mk hr0
  have HC0 := Aside0.mk hc0
  clear hr0 hc0
  have HB := Aside0.mk (Below.refl w.heap.size w)
  have H : ((laws_big.f l0).bind fun t527 => (if t527 = true then (some true) else ((spec_DrawProgram.f k l0).bind fun t528 => ((spec_DrawVars.f k l0).bind fun t532 => ((spec_DrawReadings.f k l0).bind fun t535 => ((spec_DrawPlaces.f k l0).bind fun t538 => (if 0 < (t538.length : Int) then (if 0 < (t528.length : Int) then ((impl_MayReadFirst.f k ((rd_T34 t528 0).f0) ((rd_T34 t528 0).f1.f0) ((rd_T34 t528 0).f1.f1) ((rd_T34 t528 0).f1.f2)).bind fun t543 => ((laws_has.f k t543 (Int.tmod (rd t538 0) 8)).bind fun t546 => (if t546 = true then (some true) else ((some (([] : List Int) : List Int)).bind fun y547 => (if y547.length + t532.length < 17592186044416 then ((some (y547 ++ t532 : List Int)).bind fun y550 => (if 1 < (t538.length : Int) then (if 0 ≤ (Int.tmod (rd t538 0) 8) then (if (Int.tmod (rd t538 0) 8) < (y550.length : Int) then ((impl_TaskEffect.f k t528 0 t532 t535).bind fun bt555 => ((impl_TaskEffect.f k t528 0 (y550.set ((Int.tmod (rd t538 0) 8) : Int).toNat (wrap64 ((rd t538 1) - 5000))) t535).bind fun bt565 => (if bt555.2.2.2.2 = true then (if bt565.2.2.2.2 = true then (if (bt555.1.length : Int) = 8 then (if (bt565.1.length : Int) = 8 then ((laws_sameInts.f k bt555.2.1 bt565.2.1).bind fun t575 => (if t575 = true then (if bt555.2.2.1 = bt565.2.2.1 then (laws_FnReadsFirst.j0 k (Int.tmod (rd t538 0) 8) (bt555.2.2.2.1 != bt565.2.2.2.1) t528 bt555.1 bt555.2.1 bt555.2.2.1 bt555.2.2.2.1 bt565.1 bt565.2.1 bt565.2.2.1 bt565.2.2.2.1) else (laws_FnReadsFirst.j0 k (Int.tmod (rd t538 0) 8) true t528 bt555.1 bt555.2.1 bt555.2.2.1 bt555.2.2.2.1 bt565.1 bt565.2.1 bt565.2.2.1 bt565.2.2.2.1)) else (laws_FnReadsFirst.j0 k (Int.tmod (rd t538 0) 8) true t528 bt555.1 bt555.2.1 bt555.2.2.1 bt555.2.2.2.1 bt565.1 bt565.2.1 bt565.2.2.1 bt565.2.2.2.1))) else (laws_FnReadsFirst.j0 k (Int.tmod (rd t538 0) 8) true t528 bt555.1 bt555.2.1 bt555.2.2.1 bt555.2.2.2.1 bt565.1 bt565.2.1 bt565.2.2.1 bt565.2.2.2.1)) else (laws_FnReadsFirst.j0 k (Int.tmod (rd t538 0) 8) true t528 bt555.1 bt555.2.1 bt555.2.2.1 bt555.2.2.2.1 bt565.1 bt565.2.1 bt565.2.2.1 bt565.2.2.2.1)) else (laws_FnReadsFirst.j0 k (Int.tmod (rd t538 0) 8) true t528 bt555.1 bt555.2.1 bt555.2.2.1 bt555.2.2.2.1 bt565.1 bt565.2.1 bt565.2.2.1 bt565.2.2.2.1)) else (laws_FnReadsFirst.j0 k (Int.tmod (rd t538 0) 8) true t528 bt555.1 bt555.2.1 bt555.2.2.1 bt555.2.2.2.1 bt565.1 bt565.2.1 bt565.2.2.1 bt565.2.2.2.1)))) else (none)) else (none)) else (none))) else (none)))))) else (none)) else (none)))))))) = some r := h
  clear h
  replace H := Option.bind_eq_some_iff.mp H
  obtain ⟨t527, A20, H⟩ := H
  replace H : (if t527 = true then (some true) else ((spec_DrawProgram.f k l0).bind fun t528 => ((spec_DrawVars.f k l0).bind fun t532 => ((spec_DrawReadings.f k l0).bind fun t535 => ((spec_DrawPlaces.f k l0).bind fun t538 => (if 0 < (t538.length : Int) then (if 0 < (t528.length : Int) then ((impl_MayReadFirst.f k ((rd_T34 t528 0).f0) ((rd_T34 t528 0).f1.f0) ((rd_T34 t528 0).f1.f1) ((rd_T34 t528 0).f1.f2)).bind fun t543 => ((laws_has.f k t543 (Int.tmod (rd t538 0) 8)).bind fun t546 => (if t546 = true then (some true) else ((some (([] : List Int) : List Int)).bind fun y547 => (if y547.length + t532.length < 17592186044416 then ((some (y547 ++ t532 : List Int)).bind fun y550 => (if 1 < (t538.length : Int) then (if 0 ≤ (Int.tmod (rd t538 0) 8) then (if (Int.tmod (rd t538 0) 8) < (y550.length : Int) then ((impl_TaskEffect.f k t528 0 t532 t535).bind fun bt555 => ((impl_TaskEffect.f k t528 0 (y550.set ((Int.tmod (rd t538 0) 8) : Int).toNat (wrap64 ((rd t538 1) - 5000))) t535).bind fun bt565 => (if bt555.2.2.2.2 = true then (if bt565.2.2.2.2 = true then (if (bt555.1.length : Int) = 8 then (if (bt565.1.length : Int) = 8 then ((laws_sameInts.f k bt555.2.1 bt565.2.1).bind fun t575 => (if t575 = true then (if bt555.2.2.1 = bt565.2.2.1 then (laws_FnReadsFirst.j0 k (Int.tmod (rd t538 0) 8) (bt555.2.2.2.1 != bt565.2.2.2.1) t528 bt555.1 bt555.2.1 bt555.2.2.1 bt555.2.2.2.1 bt565.1 bt565.2.1 bt565.2.2.1 bt565.2.2.2.1) else (laws_FnReadsFirst.j0 k (Int.tmod (rd t538 0) 8) true t528 bt555.1 bt555.2.1 bt555.2.2.1 bt555.2.2.2.1 bt565.1 bt565.2.1 bt565.2.2.1 bt565.2.2.2.1)) else (laws_FnReadsFirst.j0 k (Int.tmod (rd t538 0) 8) true t528 bt555.1 bt555.2.1 bt555.2.2.1 bt555.2.2.2.1 bt565.1 bt565.2.1 bt565.2.2.1 bt565.2.2.2.1))) else (laws_FnReadsFirst.j0 k (Int.tmod (rd t538 0) 8) true t528 bt555.1 bt555.2.1 bt555.2.2.1 bt555.2.2.2.1 bt565.1 bt565.2.1 bt565.2.2.1 bt565.2.2.2.1)) else (laws_FnReadsFirst.j0 k (Int.tmod (rd t538 0) 8) true t528 bt555.1 bt555.2.1 bt555.2.2.1 bt555.2.2.2.1 bt565.1 bt565.2.1 bt565.2.2.1 bt565.2.2.2.1)) else (laws_FnReadsFirst.j0 k (Int.tmod (rd t538 0) 8) true t528 bt555.1 bt555.2.1 bt555.2.2.1 bt555.2.2.2.1 bt565.1 bt565.2.1 bt565.2.2.1 bt565.2.2.2.1)) else (laws_FnReadsFirst.j0 k (Int.tmod (rd t538 0) 8) true t528 bt555.1 bt555.2.1 bt555.2.2.1 bt555.2.2.2.1 bt565.1 bt565.2.1 bt565.2.2.1 bt565.2.2.2.1)))) else (none)) else (none)) else (none))) else (none)))))) else (none)) else (none))))))) = some r := H
  have A2 := Aside0.mk A20
  clear A20
  by_cases c3 : t527 = true
  · subst c3
    have H1 : (some true) = some r := by rw [if_pos rfl] at H; exact H
    clear H
    have H := H1
    clear H1
    obtain rfl := Option.some.inj H
    go_enter Try.func11, Try.ntmps11
    go_wp2_with (first | ((with_reducible refine gate_callee (f := 13) rfl ?_); refine goesL_ (some 15) rfl rfl Try.func13 z13_11 rfl #[.slice A0 l0.length c0] rfl z13_2 ?_; (with_reducible refine (laws_big.calls _ _ l0 true _ ?side1 ?side2 A2.out).mono ?_); (case side1 => exact z13_16); (case side2 => exact HC0.out); rintro e w' ⟨rfl, ⟨nd, rfl⟩⟩; refine ⟨_, rfl, ?_⟩))
    go_ret
    exact ⟨by first | rfl | (simp [errW_none, errW_some] <;> rfl) | (simp [*, errW_none, errW_some] <;> rfl) | (simp [*, errW_none, errW_some, i64_w]; done), by repeat (first | (with_reducible first | exact HB.out | apply below_alloc | apply pw_below_drewN | apply below_drew1) | exact HB.out)⟩
  · replace c3 := Bool.eq_false_iff.mpr c3
    subst c3
    have H1 : ((spec_DrawProgram.f k l0).bind fun t528 => ((spec_DrawVars.f k l0).bind fun t532 => ((spec_DrawReadings.f k l0).bind fun t535 => ((spec_DrawPlaces.f k l0).bind fun t538 => (if 0 < (t538.length : Int) then (if 0 < (t528.length : Int) then ((impl_MayReadFirst.f k ((rd_T34 t528 0).f0) ((rd_T34 t528 0).f1.f0) ((rd_T34 t528 0).f1.f1) ((rd_T34 t528 0).f1.f2)).bind fun t543 => ((laws_has.f k t543 (Int.tmod (rd t538 0) 8)).bind fun t546 => (if t546 = true then (some true) else ((some (([] : List Int) : List Int)).bind fun y547 => (if y547.length + t532.length < 17592186044416 then ((some (y547 ++ t532 : List Int)).bind fun y550 => (if 1 < (t538.length : Int) then (if 0 ≤ (Int.tmod (rd t538 0) 8) then (if (Int.tmod (rd t538 0) 8) < (y550.length : Int) then ((impl_TaskEffect.f k t528 0 t532 t535).bind fun bt555 => ((impl_TaskEffect.f k t528 0 (y550.set ((Int.tmod (rd t538 0) 8) : Int).toNat (wrap64 ((rd t538 1) - 5000))) t535).bind fun bt565 => (if bt555.2.2.2.2 = true then (if bt565.2.2.2.2 = true then (if (bt555.1.length : Int) = 8 then (if (bt565.1.length : Int) = 8 then ((laws_sameInts.f k bt555.2.1 bt565.2.1).bind fun t575 => (if t575 = true then (if bt555.2.2.1 = bt565.2.2.1 then (laws_FnReadsFirst.j0 k (Int.tmod (rd t538 0) 8) (bt555.2.2.2.1 != bt565.2.2.2.1) t528 bt555.1 bt555.2.1 bt555.2.2.1 bt555.2.2.2.1 bt565.1 bt565.2.1 bt565.2.2.1 bt565.2.2.2.1) else (laws_FnReadsFirst.j0 k (Int.tmod (rd t538 0) 8) true t528 bt555.1 bt555.2.1 bt555.2.2.1 bt555.2.2.2.1 bt565.1 bt565.2.1 bt565.2.2.1 bt565.2.2.2.1)) else (laws_FnReadsFirst.j0 k (Int.tmod (rd t538 0) 8) true t528 bt555.1 bt555.2.1 bt555.2.2.1 bt555.2.2.2.1 bt565.1 bt565.2.1 bt565.2.2.1 bt565.2.2.2.1))) else (laws_FnReadsFirst.j0 k (Int.tmod (rd t538 0) 8) true t528 bt555.1 bt555.2.1 bt555.2.2.1 bt555.2.2.2.1 bt565.1 bt565.2.1 bt565.2.2.1 bt565.2.2.2.1)) else (laws_FnReadsFirst.j0 k (Int.tmod (rd t538 0) 8) true t528 bt555.1 bt555.2.1 bt555.2.2.1 bt555.2.2.2.1 bt565.1 bt565.2.1 bt565.2.2.1 bt565.2.2.2.1)) else (laws_FnReadsFirst.j0 k (Int.tmod (rd t538 0) 8) true t528 bt555.1 bt555.2.1 bt555.2.2.1 bt555.2.2.2.1 bt565.1 bt565.2.1 bt565.2.2.1 bt565.2.2.2.1)) else (laws_FnReadsFirst.j0 k (Int.tmod (rd t538 0) 8) true t528 bt555.1 bt555.2.1 bt555.2.2.1 bt555.2.2.2.1 bt565.1 bt565.2.1 bt565.2.2.1 bt565.2.2.2.1)))) else (none)) else (none)) else (none))) else (none)))))) else (none)) else (none)))))) = some r := by rw [if_neg (show ¬ (false = true) by decide)] at H; exact H
    clear H
    have H := H1
    clear H1
    replace H := Option.bind_eq_some_iff.mp H
    obtain ⟨t528, A40, H⟩ := H
    replace H : ((spec_DrawVars.f k l0).bind fun t532 => ((spec_DrawReadings.f k l0).bind fun t535 => ((spec_DrawPlaces.f k l0).bind fun t538 => (if 0 < (t538.length : Int) then (if 0 < (t528.length : Int) then ((impl_MayReadFirst.f k ((rd_T34 t528 0).f0) ((rd_T34 t528 0).f1.f0) ((rd_T34 t528 0).f1.f1) ((rd_T34 t528 0).f1.f2)).bind fun t543 => ((laws_has.f k t543 (Int.tmod (rd t538 0) 8)).bind fun t546 => (if t546 = true then (some true) else ((some (([] : List Int) : List Int)).bind fun y547 => (if y547.length + t532.length < 17592186044416 then ((some (y547 ++ t532 : List Int)).bind fun y550 => (if 1 < (t538.length : Int) then (if 0 ≤ (Int.tmod (rd t538 0) 8) then (if (Int.tmod (rd t538 0) 8) < (y550.length : Int) then ((impl_TaskEffect.f k t528 0 t532 t535).bind fun bt555 => ((impl_TaskEffect.f k t528 0 (y550.set ((Int.tmod (rd t538 0) 8) : Int).toNat (wrap64 ((rd t538 1) - 5000))) t535).bind fun bt565 => (if bt555.2.2.2.2 = true then (if bt565.2.2.2.2 = true then (if (bt555.1.length : Int) = 8 then (if (bt565.1.length : Int) = 8 then ((laws_sameInts.f k bt555.2.1 bt565.2.1).bind fun t575 => (if t575 = true then (if bt555.2.2.1 = bt565.2.2.1 then (laws_FnReadsFirst.j0 k (Int.tmod (rd t538 0) 8) (bt555.2.2.2.1 != bt565.2.2.2.1) t528 bt555.1 bt555.2.1 bt555.2.2.1 bt555.2.2.2.1 bt565.1 bt565.2.1 bt565.2.2.1 bt565.2.2.2.1) else (laws_FnReadsFirst.j0 k (Int.tmod (rd t538 0) 8) true t528 bt555.1 bt555.2.1 bt555.2.2.1 bt555.2.2.2.1 bt565.1 bt565.2.1 bt565.2.2.1 bt565.2.2.2.1)) else (laws_FnReadsFirst.j0 k (Int.tmod (rd t538 0) 8) true t528 bt555.1 bt555.2.1 bt555.2.2.1 bt555.2.2.2.1 bt565.1 bt565.2.1 bt565.2.2.1 bt565.2.2.2.1))) else (laws_FnReadsFirst.j0 k (Int.tmod (rd t538 0) 8) true t528 bt555.1 bt555.2.1 bt555.2.2.1 bt555.2.2.2.1 bt565.1 bt565.2.1 bt565.2.2.1 bt565.2.2.2.1)) else (laws_FnReadsFirst.j0 k (Int.tmod (rd t538 0) 8) true t528 bt555.1 bt555.2.1 bt555.2.2.1 bt555.2.2.2.1 bt565.1 bt565.2.1 bt565.2.2.1 bt565.2.2.2.1)) else (laws_FnReadsFirst.j0 k (Int.tmod (rd t538 0) 8) true t528 bt555.1 bt555.2.1 bt555.2.2.1 bt555.2.2.2.1 bt565.1 bt565.2.1 bt565.2.2.1 bt565.2.2.2.1)) else (laws_FnReadsFirst.j0 k (Int.tmod (rd t538 0) 8) true t528 bt555.1 bt555.2.1 bt555.2.2.1 bt555.2.2.2.1 bt565.1 bt565.2.1 bt565.2.2.1 bt565.2.2.2.1)))) else (none)) else (none)) else (none))) else (none)))))) else (none)) else (none))))) = some r := H
    have A4 := Aside0.mk A40
    clear A40
    replace H := Option.bind_eq_some_iff.mp H
    obtain ⟨t532, A50, H⟩ := H
    replace H : ((spec_DrawReadings.f k l0).bind fun t535 => ((spec_DrawPlaces.f k l0).bind fun t538 => (if 0 < (t538.length : Int) then (if 0 < (t528.length : Int) then ((impl_MayReadFirst.f k ((rd_T34 t528 0).f0) ((rd_T34 t528 0).f1.f0) ((rd_T34 t528 0).f1.f1) ((rd_T34 t528 0).f1.f2)).bind fun t543 => ((laws_has.f k t543 (Int.tmod (rd t538 0) 8)).bind fun t546 => (if t546 = true then (some true) else ((some (([] : List Int) : List Int)).bind fun y547 => (if y547.length + t532.length < 17592186044416 then ((some (y547 ++ t532 : List Int)).bind fun y550 => (if 1 < (t538.length : Int) then (if 0 ≤ (Int.tmod (rd t538 0) 8) then (if (Int.tmod (rd t538 0) 8) < (y550.length : Int) then ((impl_TaskEffect.f k t528 0 t532 t535).bind fun bt555 => ((impl_TaskEffect.f k t528 0 (y550.set ((Int.tmod (rd t538 0) 8) : Int).toNat (wrap64 ((rd t538 1) - 5000))) t535).bind fun bt565 => (if bt555.2.2.2.2 = true then (if bt565.2.2.2.2 = true then (if (bt555.1.length : Int) = 8 then (if (bt565.1.length : Int) = 8 then ((laws_sameInts.f k bt555.2.1 bt565.2.1).bind fun t575 => (if t575 = true then (if bt555.2.2.1 = bt565.2.2.1 then (laws_FnReadsFirst.j0 k (Int.tmod (rd t538 0) 8) (bt555.2.2.2.1 != bt565.2.2.2.1) t528 bt555.1 bt555.2.1 bt555.2.2.1 bt555.2.2.2.1 bt565.1 bt565.2.1 bt565.2.2.1 bt565.2.2.2.1) else (laws_FnReadsFirst.j0 k (Int.tmod (rd t538 0) 8) true t528 bt555.1 bt555.2.1 bt555.2.2.1 bt555.2.2.2.1 bt565.1 bt565.2.1 bt565.2.2.1 bt565.2.2.2.1)) else (laws_FnReadsFirst.j0 k (Int.tmod (rd t538 0) 8) true t528 bt555.1 bt555.2.1 bt555.2.2.1 bt555.2.2.2.1 bt565.1 bt565.2.1 bt565.2.2.1 bt565.2.2.2.1))) else (laws_FnReadsFirst.j0 k (Int.tmod (rd t538 0) 8) true t528 bt555.1 bt555.2.1 bt555.2.2.1 bt555.2.2.2.1 bt565.1 bt565.2.1 bt565.2.2.1 bt565.2.2.2.1)) else (laws_FnReadsFirst.j0 k (Int.tmod (rd t538 0) 8) true t528 bt555.1 bt555.2.1 bt555.2.2.1 bt555.2.2.2.1 bt565.1 bt565.2.1 bt565.2.2.1 bt565.2.2.2.1)) else (laws_FnReadsFirst.j0 k (Int.tmod (rd t538 0) 8) true t528 bt555.1 bt555.2.1 bt555.2.2.1 bt555.2.2.2.1 bt565.1 bt565.2.1 bt565.2.2.1 bt565.2.2.2.1)) else (laws_FnReadsFirst.j0 k (Int.tmod (rd t538 0) 8) true t528 bt555.1 bt555.2.1 bt555.2.2.1 bt555.2.2.2.1 bt565.1 bt565.2.1 bt565.2.2.1 bt565.2.2.2.1)))) else (none)) else (none)) else (none))) else (none)))))) else (none)) else (none)))) = some r := H
    have A5 := Aside0.mk A50
    clear A50
    replace H := Option.bind_eq_some_iff.mp H
    obtain ⟨t535, A60, H⟩ := H
    replace H : ((spec_DrawPlaces.f k l0).bind fun t538 => (if 0 < (t538.length : Int) then (if 0 < (t528.length : Int) then ((impl_MayReadFirst.f k ((rd_T34 t528 0).f0) ((rd_T34 t528 0).f1.f0) ((rd_T34 t528 0).f1.f1) ((rd_T34 t528 0).f1.f2)).bind fun t543 => ((laws_has.f k t543 (Int.tmod (rd t538 0) 8)).bind fun t546 => (if t546 = true then (some true) else ((some (([] : List Int) : List Int)).bind fun y547 => (if y547.length + t532.length < 17592186044416 then ((some (y547 ++ t532 : List Int)).bind fun y550 => (if 1 < (t538.length : Int) then (if 0 ≤ (Int.tmod (rd t538 0) 8) then (if (Int.tmod (rd t538 0) 8) < (y550.length : Int) then ((impl_TaskEffect.f k t528 0 t532 t535).bind fun bt555 => ((impl_TaskEffect.f k t528 0 (y550.set ((Int.tmod (rd t538 0) 8) : Int).toNat (wrap64 ((rd t538 1) - 5000))) t535).bind fun bt565 => (if bt555.2.2.2.2 = true then (if bt565.2.2.2.2 = true then (if (bt555.1.length : Int) = 8 then (if (bt565.1.length : Int) = 8 then ((laws_sameInts.f k bt555.2.1 bt565.2.1).bind fun t575 => (if t575 = true then (if bt555.2.2.1 = bt565.2.2.1 then (laws_FnReadsFirst.j0 k (Int.tmod (rd t538 0) 8) (bt555.2.2.2.1 != bt565.2.2.2.1) t528 bt555.1 bt555.2.1 bt555.2.2.1 bt555.2.2.2.1 bt565.1 bt565.2.1 bt565.2.2.1 bt565.2.2.2.1) else (laws_FnReadsFirst.j0 k (Int.tmod (rd t538 0) 8) true t528 bt555.1 bt555.2.1 bt555.2.2.1 bt555.2.2.2.1 bt565.1 bt565.2.1 bt565.2.2.1 bt565.2.2.2.1)) else (laws_FnReadsFirst.j0 k (Int.tmod (rd t538 0) 8) true t528 bt555.1 bt555.2.1 bt555.2.2.1 bt555.2.2.2.1 bt565.1 bt565.2.1 bt565.2.2.1 bt565.2.2.2.1))) else (laws_FnReadsFirst.j0 k (Int.tmod (rd t538 0) 8) true t528 bt555.1 bt555.2.1 bt555.2.2.1 bt555.2.2.2.1 bt565.1 bt565.2.1 bt565.2.2.1 bt565.2.2.2.1)) else (laws_FnReadsFirst.j0 k (Int.tmod (rd t538 0) 8) true t528 bt555.1 bt555.2.1 bt555.2.2.1 bt555.2.2.2.1 bt565.1 bt565.2.1 bt565.2.2.1 bt565.2.2.2.1)) else (laws_FnReadsFirst.j0 k (Int.tmod (rd t538 0) 8) true t528 bt555.1 bt555.2.1 bt555.2.2.1 bt555.2.2.2.1 bt565.1 bt565.2.1 bt565.2.2.1 bt565.2.2.2.1)) else (laws_FnReadsFirst.j0 k (Int.tmod (rd t538 0) 8) true t528 bt555.1 bt555.2.1 bt555.2.2.1 bt555.2.2.2.1 bt565.1 bt565.2.1 bt565.2.2.1 bt565.2.2.2.1)))) else (none)) else (none)) else (none))) else (none)))))) else (none)) else (none))) = some r := H
    have A6 := Aside0.mk A60
    clear A60
    replace H := Option.bind_eq_some_iff.mp H
    obtain ⟨t538, A70, H⟩ := H
    replace H : (if 0 < (t538.length : Int) then (if 0 < (t528.length : Int) then ((impl_MayReadFirst.f k ((rd_T34 t528 0).f0) ((rd_T34 t528 0).f1.f0) ((rd_T34 t528 0).f1.f1) ((rd_T34 t528 0).f1.f2)).bind fun t543 => ((laws_has.f k t543 (Int.tmod (rd t538 0) 8)).bind fun t546 => (if t546 = true then (some true) else ((some (([] : List Int) : List Int)).bind fun y547 => (if y547.length + t532.length < 17592186044416 then ((some (y547 ++ t532 : List Int)).bind fun y550 => (if 1 < (t538.length : Int) then (if 0 ≤ (Int.tmod (rd t538 0) 8) then (if (Int.tmod (rd t538 0) 8) < (y550.length : Int) then ((impl_TaskEffect.f k t528 0 t532 t535).bind fun bt555 => ((impl_TaskEffect.f k t528 0 (y550.set ((Int.tmod (rd t538 0) 8) : Int).toNat (wrap64 ((rd t538 1) - 5000))) t535).bind fun bt565 => (if bt555.2.2.2.2 = true then (if bt565.2.2.2.2 = true then (if (bt555.1.length : Int) = 8 then (if (bt565.1.length : Int) = 8 then ((laws_sameInts.f k bt555.2.1 bt565.2.1).bind fun t575 => (if t575 = true then (if bt555.2.2.1 = bt565.2.2.1 then (laws_FnReadsFirst.j0 k (Int.tmod (rd t538 0) 8) (bt555.2.2.2.1 != bt565.2.2.2.1) t528 bt555.1 bt555.2.1 bt555.2.2.1 bt555.2.2.2.1 bt565.1 bt565.2.1 bt565.2.2.1 bt565.2.2.2.1) else (laws_FnReadsFirst.j0 k (Int.tmod (rd t538 0) 8) true t528 bt555.1 bt555.2.1 bt555.2.2.1 bt555.2.2.2.1 bt565.1 bt565.2.1 bt565.2.2.1 bt565.2.2.2.1)) else (laws_FnReadsFirst.j0 k (Int.tmod (rd t538 0) 8) true t528 bt555.1 bt555.2.1 bt555.2.2.1 bt555.2.2.2.1 bt565.1 bt565.2.1 bt565.2.2.1 bt565.2.2.2.1))) else (laws_FnReadsFirst.j0 k (Int.tmod (rd t538 0) 8) true t528 bt555.1 bt555.2.1 bt555.2.2.1 bt555.2.2.2.1 bt565.1 bt565.2.1 bt565.2.2.1 bt565.2.2.2.1)) else (laws_FnReadsFirst.j0 k (Int.tmod (rd t538 0) 8) true t528 bt555.1 bt555.2.1 bt555.2.2.1 bt555.2.2.2.1 bt565.1 bt565.2.1 bt565.2.2.1 bt565.2.2.2.1)) else (laws_FnReadsFirst.j0 k (Int.tmod (rd t538 0) 8) true t528 bt555.1 bt555.2.1 bt555.2.2.1 bt555.2.2.2.1 bt565.1 bt565.2.1 bt565.2.2.1 bt565.2.2.2.1)) else (laws_FnReadsFirst.j0 k (Int.tmod (rd t538 0) 8) true t528 bt555.1 bt555.2.1 bt555.2.2.1 bt555.2.2.2.1 bt565.1 bt565.2.1 bt565.2.2.1 bt565.2.2.2.1)))) else (none)) else (none)) else (none))) else (none)))))) else (none)) else (none)) = some r := H
    have A7 := Aside0.mk A70
    clear A70
    by_cases c8 : 0 < (t538.length : Int)
    · rw [if_pos c8] at H
      have c8b0 : decide (0 < (t538.length : Int)) = true := decide_eq_true c8
      have c8b1 : decide (0 < t538.length) = true := decide_eq_true (by omega)
      clear c8
      by_cases c9 : 0 < (t528.length : Int)
      · rw [if_pos c9] at H
        have c9b0 : decide (0 < (t528.length : Int)) = true := decide_eq_true c9
        have c9b1 : decide (0 < t528.length) = true := decide_eq_true (by omega)
        clear c9
        replace H := Option.bind_eq_some_iff.mp H
        obtain ⟨t543, A100, H⟩ := H
        replace H : ((laws_has.f k t543 (Int.tmod (rd t538 0) 8)).bind fun t546 => (if t546 = true then (some true) else ((some (([] : List Int) : List Int)).bind fun y547 => (if y547.length + t532.length < 17592186044416 then ((some (y547 ++ t532 : List Int)).bind fun y550 => (if 1 < (t538.length : Int) then (if 0 ≤ (Int.tmod (rd t538 0) 8) then (if (Int.tmod (rd t538 0) 8) < (y550.length : Int) then ((impl_TaskEffect.f k t528 0 t532 t535).bind fun bt555 => ((impl_TaskEffect.f k t528 0 (y550.set ((Int.tmod (rd t538 0) 8) : Int).toNat (wrap64 ((rd t538 1) - 5000))) t535).bind fun bt565 => (if bt555.2.2.2.2 = true then (if bt565.2.2.2.2 = true then (if (bt555.1.length : Int) = 8 then (if (bt565.1.length : Int) = 8 then ((laws_sameInts.f k bt555.2.1 bt565.2.1).bind fun t575 => (if t575 = true then (if bt555.2.2.1 = bt565.2.2.1 then (laws_FnReadsFirst.j0 k (Int.tmod (rd t538 0) 8) (bt555.2.2.2.1 != bt565.2.2.2.1) t528 bt555.1 bt555.2.1 bt555.2.2.1 bt555.2.2.2.1 bt565.1 bt565.2.1 bt565.2.2.1 bt565.2.2.2.1) else (laws_FnReadsFirst.j0 k (Int.tmod (rd t538 0) 8) true t528 bt555.1 bt555.2.1 bt555.2.2.1 bt555.2.2.2.1 bt565.1 bt565.2.1 bt565.2.2.1 bt565.2.2.2.1)) else (laws_FnReadsFirst.j0 k (Int.tmod (rd t538 0) 8) true t528 bt555.1 bt555.2.1 bt555.2.2.1 bt555.2.2.2.1 bt565.1 bt565.2.1 bt565.2.2.1 bt565.2.2.2.1))) else (laws_FnReadsFirst.j0 k (Int.tmod (rd t538 0) 8) true t528 bt555.1 bt555.2.1 bt555.2.2.1 bt555.2.2.2.1 bt565.1 bt565.2.1 bt565.2.2.1 bt565.2.2.2.1)) else (laws_FnReadsFirst.j0 k (Int.tmod (rd t538 0) 8) true t528 bt555.1 bt555.2.1 bt555.2.2.1 bt555.2.2.2.1 bt565.1 bt565.2.1 bt565.2.2.1 bt565.2.2.2.1)) else (laws_FnReadsFirst.j0 k (Int.tmod (rd t538 0) 8) true t528 bt555.1 bt555.2.1 bt555.2.2.1 bt555.2.2.2.1 bt565.1 bt565.2.1 bt565.2.2.1 bt565.2.2.2.1)) else (laws_FnReadsFirst.j0 k (Int.tmod (rd t538 0) 8) true t528 bt555.1 bt555.2.1 bt555.2.2.1 bt555.2.2.2.1 bt565.1 bt565.2.1 bt565.2.2.1 bt565.2.2.2.1)))) else (none)) else (none)) else (none))) else (none))))) = some r := H
        have A10 := Aside0.mk A100
        clear A100
        replace H := Option.bind_eq_some_iff.mp H
        obtain ⟨t546, A110, H⟩ := H
        replace H : (if t546 = true then (some true) else ((some (([] : List Int) : List Int)).bind fun y547 => (if y547.length + t532.length < 17592186044416 then ((some (y547 ++ t532 : List Int)).bind fun y550 => (if 1 < (t538.length : Int) then (if 0 ≤ (Int.tmod (rd t538 0) 8) then (if (Int.tmod (rd t538 0) 8) < (y550.length : Int) then ((impl_TaskEffect.f k t528 0 t532 t535).bind fun bt555 => ((impl_TaskEffect.f k t528 0 (y550.set ((Int.tmod (rd t538 0) 8) : Int).toNat (wrap64 ((rd t538 1) - 5000))) t535).bind fun bt565 => (if bt555.2.2.2.2 = true then (if bt565.2.2.2.2 = true then (if (bt555.1.length : Int) = 8 then (if (bt565.1.length : Int) = 8 then ((laws_sameInts.f k bt555.2.1 bt565.2.1).bind fun t575 => (if t575 = true then (if bt555.2.2.1 = bt565.2.2.1 then (laws_FnReadsFirst.j0 k (Int.tmod (rd t538 0) 8) (bt555.2.2.2.1 != bt565.2.2.2.1) t528 bt555.1 bt555.2.1 bt555.2.2.1 bt555.2.2.2.1 bt565.1 bt565.2.1 bt565.2.2.1 bt565.2.2.2.1) else (laws_FnReadsFirst.j0 k (Int.tmod (rd t538 0) 8) true t528 bt555.1 bt555.2.1 bt555.2.2.1 bt555.2.2.2.1 bt565.1 bt565.2.1 bt565.2.2.1 bt565.2.2.2.1)) else (laws_FnReadsFirst.j0 k (Int.tmod (rd t538 0) 8) true t528 bt555.1 bt555.2.1 bt555.2.2.1 bt555.2.2.2.1 bt565.1 bt565.2.1 bt565.2.2.1 bt565.2.2.2.1))) else (laws_FnReadsFirst.j0 k (Int.tmod (rd t538 0) 8) true t528 bt555.1 bt555.2.1 bt555.2.2.1 bt555.2.2.2.1 bt565.1 bt565.2.1 bt565.2.2.1 bt565.2.2.2.1)) else (laws_FnReadsFirst.j0 k (Int.tmod (rd t538 0) 8) true t528 bt555.1 bt555.2.1 bt555.2.2.1 bt555.2.2.2.1 bt565.1 bt565.2.1 bt565.2.2.1 bt565.2.2.2.1)) else (laws_FnReadsFirst.j0 k (Int.tmod (rd t538 0) 8) true t528 bt555.1 bt555.2.1 bt555.2.2.1 bt555.2.2.2.1 bt565.1 bt565.2.1 bt565.2.2.1 bt565.2.2.2.1)) else (laws_FnReadsFirst.j0 k (Int.tmod (rd t538 0) 8) true t528 bt555.1 bt555.2.1 bt555.2.2.1 bt555.2.2.2.1 bt565.1 bt565.2.1 bt565.2.2.1 bt565.2.2.2.1)))) else (none)) else (none)) else (none))) else (none)))) = some r := H
        have A11 := Aside0.mk A110
        clear A110
        by_cases c12 : t546 = true
        · subst c12
          have H1 : (some true) = some r := by rw [if_pos rfl] at H; exact H
          clear H
          have H := H1
          clear H1
          obtain rfl := Option.some.inj H
          go_enter Try.func11, Try.ntmps11
          go_wp2_with (first | ((with_reducible refine gate_callee (f := 13) rfl ?_); refine goesL_ (some 15) rfl rfl Try.func13 z13_11 rfl #[.slice A0 l0.length c0] rfl z13_2 ?_; (with_reducible refine (laws_big.calls _ _ l0 false _ ?side1 ?side2 A2.out).mono ?_); (case side1 => exact z13_16); (case side2 => exact HC0.out); rintro e w' ⟨rfl, ⟨nd, rfl⟩⟩; refine ⟨_, rfl, ?_⟩) | ((with_reducible refine gate_callee (f := 14) rfl ?_); refine goesL_ (some 17) rfl rfl Try.func14 z13_11 rfl #[.slice A0 l0.length c0] rfl z13_2 ?_; (with_reducible refine (spec_DrawProgram.calls k _ _ l0 t528 _ ?side1 ?side2 A4.out).mono ?_); (case side1 => exact z13_16); (case side2 => exact HC0.out); rintro e w13 ⟨v529, rfl, ho0, hb⟩; refine ⟨_, rfl, ?_⟩; have n0_ := Aside0.mk (Kd.S_lower ho0 (below_size z13_9)); have n1_ := Aside0.mk (below_step z13_9 hb); clear HB; have HO530 := n0_; have HB := n1_; clear n0_ n1_; (try clear hb); (try clear hb2); (try clear hk); (try clear hi); (try clear ho0)) | ((with_reducible refine gate_dst (N := 3) rfl ?_); (try (refine gate_guard (by rfl) ?_; dsimp only)); refine box_event ?hg (N := 3) ?hd (cs := #[.slice none 0 0]) (t := 26) ?hr ?_; (case hd => rfl); (case hg => rfl); (case hr => exact z13_31); intro gb531 hg w14 hbox hb; have n0_ := Aside0.mk (Kd.S_below z13_6 hb); have n1_ := Aside0.mk (below_step z13_9 hb); have n2_ := Aside0.mk (hbox); have n3_ := Aside0.mk ((by rw [hg]; exact (below_size z13_9) : w.heap.size ≤ gb531)); have n4_ := Aside0.mk ((by rw [hg]; exact (below_size z13_9) : w.heap.size ≤ gb531)); clear HO530; clear HB; have HO530 := n0_; have HB := n1_; have BK531 := n2_; have GW531 := n3_; have GE531 := n4_; clear n0_ n1_ n2_ n3_ n4_; clear hb hbox hg; obtain ⟨Ao15, co15, eo15⟩ := Kd.S_slice HO530.out; subst eo15; have hcz16_0 : w14.cell? ⟨gb531, 0, none⟩ = some (.slice none 0 0) := (blk_cell BK531.out 0).trans rfl; have hfz16_0 := blk_frozen BK531.out 0) | ((with_reducible refine gate_callee (f := 15) rfl ?_); refine goesL_ (some 19) rfl rfl Try.func15 z13_11 rfl #[.slice A0 l0.length c0] rfl z13_2 ?_; (with_reducible refine (spec_DrawVars.calls k _ _ l0 t532 _ ?side1 ?side2 A5.out).mono ?_); (case side1 => exact Kd.C_below HR0.out z13_0); (case side2 => exact HC0.out); rintro e w17 ⟨v533, rfl, ho0, hb⟩; refine ⟨_, rfl, ?_⟩; have n0_ := Aside0.mk (Kd.S_below (by (with_reducible repeat (first | apply Kd.S_alloc | apply Kd.S_drewN | apply Kd.S_drew)); exact (Kd.S_mono (Kd.S_far (p := ⟨gb531, 0, none⟩) (Kd.S_types HO530.out BK531.out (by decide)) (fun _ hk => hk.2) (.slice Ao15 t528.length co15)) (fun _ h_ => h_.1))) hb); have n1_ := Aside0.mk (Kd.R_lower ho0 (below_size z13_0)); have n2_ := Aside0.mk (blk_below (g := gb531) (o := .cells #[.slice Ao15 t528.length co15] 26 (0, 0)) z13_30 hb); have n3_ := Aside0.mk (below_step z13_0 hb); clear HO530; clear BK531; clear HB; have HO530 := n0_; have HO534 := n1_; have BK531 := n2_; have HB := n3_; clear n0_ n1_ n2_ n3_; (try clear hb); (try clear hb2); (try clear hk); (try clear hi); (try clear ho0)) | ((with_reducible refine gate_callee (f := 16) rfl ?_); refine goesL_ (some 21) rfl rfl Try.func16 z13_11 rfl #[.slice A0 l0.length c0] rfl z13_2 ?_; (with_reducible refine (spec_DrawReadings.calls k _ _ l0 t535 _ ?side1 ?side2 A6.out).mono ?_); (case side1 => exact z13_19); (case side2 => exact HC0.out); rintro e w18 ⟨v536, rfl, ho0, hb⟩; refine ⟨_, rfl, ?_⟩; have n0_ := Aside0.mk (Kd.S_below z13_6 hb); have n1_ := Aside0.mk (Kd.R_elder' z13_1 (Kd.R_base ho0) hb); have n2_ := Aside0.mk (Kd.R_lower (Kd.R_new' ho0 (Kd.R_lt z13_1)) (below_size z13_0)); have n3_ := Aside0.mk (blk_below (g := gb531) (o := .cells #[.slice Ao15 t528.length co15] 26 (0, 0)) z13_3 hb); have n4_ := Aside0.mk (below_step z13_0 hb); clear HO530; clear HO534; clear BK531; clear HB; have HO530 := n0_; have HO534 := n1_; have HO537 := n2_; have BK531 := n3_; have HB := n4_; clear n0_ n1_ n2_ n3_ n4_; (try clear hb); (try clear hb2); (try clear hk); (try clear hi); (try clear ho0)) | ((with_reducible refine gate_callee (f := 22) rfl ?_); refine goesL_ (some 23) rfl rfl Try.func22 z13_11 rfl #[.slice A0 l0.length c0] rfl z13_2 ?_; (with_reducible refine (spec_DrawPlaces.calls k _ _ l0 t538 _ ?side1 ?side2 A7.out).mono ?_); (case side1 => exact z13_19); (case side2 => exact HC0.out); rintro e w19 ⟨v539, rfl, ho0, hb⟩; refine ⟨_, rfl, ?_⟩; have n0_ := Aside0.mk (Kd.S_below z13_6 hb); have n1_ := Aside0.mk (Kd.R_elder' z13_1 (Kd.R_base ho0) hb); have n2_ := Aside0.mk (Kd.R_elder' z13_4 (Kd.R_base ho0) hb); have n3_ := Aside0.mk (Kd.R_lower (Kd.R_new' (Kd.R_new' ho0 (Kd.R_lt z13_1)) (Kd.R_lt z13_4)) (below_size z13_0)); have n4_ := Aside0.mk (blk_below (g := gb531) (o := .cells #[.slice Ao15 t528.length co15] 26 (0, 0)) z13_3 hb); have n5_ := Aside0.mk (below_step z13_0 hb); clear HO530; clear HO534; clear HO537; clear BK531; clear HB; have HO530 := n0_; have HO534 := n1_; have HO537 := n2_; have HO540 := n3_; have BK531 := n4_; have HB := n5_; clear n0_ n1_ n2_ n3_ n4_ n5_; (try clear hb); (try clear hb2); (try clear hk); (try clear hi); (try clear ho0); obtain ⟨Ao20, co20, eo20⟩ := Kd.R_slice HO540.out; subst eo20; have p541 : 0 ≤ (0 : Int) := (by omega); have q541 : 0 < (t538.length : Int) := of_decide_eq_true z13_8; obtain ⟨ad541, e541, hx541_0⟩ := Kd.at_int (Kd.R_reads' HO540.out).2.2 0 p541 q541; cases e541; have qi541 : (0 < t538.length) = True := eq_true (by omega); (try rw [show ((0 : Int)).toNat = 0 from rfl] at hx541_0); (try rw [Addr.add_zero'] at hx541_0); replace p541 := eq_true p541; replace q541 := eq_true q541; have hcz21_0 : w19.cell? ⟨gb531, 0, none⟩ = some (.slice Ao15 t528.length co15) := (blk_cell BK531.out 0).trans rfl; have hfz21_0 := blk_frozen BK531.out 0; have p542 : 0 ≤ (0 : Int) := (by omega); have q542 : 0 < (t528.length : Int) := of_decide_eq_true z13_8; obtain ⟨ad542, A542_0, c542_0, e542, hx542_0, hx542_1, hx542_2, hx542_3, hl542_0, hi542_0⟩ := at_T34 (Kd.S_reads' HO530.out).2.2 0 p542 q542; cases e542; obtain ⟨ce542, hce542, hMe542, hcc542⟩ := Kd.S_get HO530.out z34 0 p542 (by first | exact q542 | exact of_decide_eq_true z13_8 | (have e_ := (Kd.S_reads' HO530.out).1; omega)); obtain ⟨ve542_0, rfl, ge542_0⟩ := k34_openM hMe542; have hv542_0 := hcc542 0 _ rfl; rw [Nat.add_zero] at hv542_0; replace hv542_0 := Option.some.inj (hv542_0.symm.trans hx542_0); rw [hv542_0] at ge542_0; have HL542_0 := Aside0.mk (show Kd.R k77 77 _ _ _ _ ((rd_T34 t528 0).f0) from ge542_0); clear hv542_0 ge542_0; clear hcc542 hce542; have qi542 : (0 < t528.length) = True := eq_true (by omega); (try rw [show ((0 : Int)).toNat = 0 from rfl] at hx542_0); (try rw [show 0 * 4 = 0 from rfl] at hx542_0); (try rw [Addr.add_zero'] at hx542_0); (try rw [show ((0 : Int)).toNat = 0 from rfl] at hx542_1); (try rw [show 0 * 4 = 0 from rfl] at hx542_1); (try rw [Addr.add_zero'] at hx542_1); (try rw [show ((0 : Int)).toNat = 0 from rfl] at hx542_2); (try rw [show 0 * 4 = 0 from rfl] at hx542_2); (try rw [Addr.add_zero'] at hx542_2); (try rw [show ((0 : Int)).toNat = 0 from rfl] at hx542_3); (try rw [show 0 * 4 = 0 from rfl] at hx542_3); (try rw [Addr.add_zero'] at hx542_3); have HR542_0 := Aside0.mk hi542_0; have HC542_0 := Aside0.mk hl542_0; clear hi542_0 hl542_0; replace p542 := eq_true p542; replace q542 := eq_true q542) | ((with_reducible refine gate_callee (f := 48) rfl ?_); refine goesL_ (some 32) rfl rfl Try.func48 z13_11 rfl #[.agg #[.slice A542_0 ((rd_T34 t528 0).f0).length c542_0, .int .i64 ((rd_T34 t528 0).f1.f0), .int .i64 ((rd_T34 t528 0).f1.f1), .int .i64 ((rd_T34 t528 0).f1.f2)]] rfl z13_2 ?_; (with_reducible refine (impl_MayReadFirst.calls k _ _ ((rd_T34 t528 0).f0) ((rd_T34 t528 0).f1.f0) ((rd_T34 t528 0).f1.f1) ((rd_T34 t528 0).f1.f2) t543 _ ?side1 ?side2 A10.out).mono ?_); (case side1 => repeat (first | exact z13_12 | (with_reducible refine Kd.C_alloc ?_ _) | (with_reducible refine Kd.C_drewN ?_ _) | (with_reducible refine Kd.C_drew ?_))); (case side2 => exact HC542_0.out); rintro e w22 ⟨v544, rfl, ho0, hb⟩; refine ⟨_, rfl, ?_⟩; have n0_ := Aside0.mk (Kd.S_below z13_6 hb); have n1_ := Aside0.mk (Kd.R_elder' z13_1 (Kd.R_base ho0) hb); have n2_ := Aside0.mk (Kd.R_elder' z13_4 (Kd.R_base ho0) hb); have n3_ := Aside0.mk (Kd.R_elder' z13_5 (Kd.R_base ho0) hb); have n4_ := Aside0.mk (Kd.R_below z13_14 hb); have n5_ := Aside0.mk (Kd.R_lower (Kd.R_new' (Kd.R_new' (Kd.R_new' ho0 (Kd.R_lt z13_1)) (Kd.R_lt z13_4)) (Kd.R_lt z13_5)) (below_size z13_0)); have n6_ := Aside0.mk (blk_below (g := gb531) (o := .cells #[.slice (some ad542) t528.length co15] 26 (0, 0)) z13_3 hb); have n7_ := Aside0.mk (Kd.C_below z13_12 hb); have n8_ := Aside0.mk (below_step z13_0 hb); clear HO530; clear HO534; clear HO537; clear HO540; clear HL542_0; clear BK531; clear HR542_0; clear HB; have HO530 := n0_; have HO534 := n1_; have HO537 := n2_; have HO540 := n3_; have HL542_0 := n4_; have HO545 := n5_; have BK531 := n6_; have HR542_0 := n7_; have HB := n8_; clear n0_ n1_ n2_ n3_ n4_ n5_ n6_ n7_ n8_; (try clear hb); (try clear hb2); (try clear hk); (try clear hi); (try clear ho0); obtain ⟨Ao23, co23, eo23⟩ := Kd.R_slice HO545.out; subst eo23) | ((with_reducible refine gate_callee (f := 46) rfl ?_); refine goesL_ (some 34) rfl rfl Try.func46 z13_11 rfl #[.slice Ao23 t543.length co23, .int .i64 (Int.tmod (rd t538 0) 8)] rfl z13_2 ?_; (with_reducible refine (laws_has.calls k _ _ t543 (Int.tmod (rd t538 0) 8) true _ ?side1 ?side2 A11.out).mono ?_); (case side1 => repeat (first | exact (Kd.R_reads' HO545.out).2.2 | (with_reducible refine Kd.C_alloc ?_ _) | (with_reducible refine Kd.C_drewN ?_ _) | (with_reducible refine Kd.C_drew ?_))); (case side2 => exact (Kd.R_reads' HO545.out).2.1); rintro e w' ⟨rfl, ⟨nd, rfl⟩⟩; refine ⟨_, rfl, ?_⟩))
          go_ret
          exact ⟨by first | rfl | (simp [errW_none, errW_some] <;> rfl) | (simp [*, errW_none, errW_some] <;> rfl) | (simp [*, errW_none, errW_some, i64_w]; done), by repeat (first | (with_reducible first | exact HB.out | apply below_alloc | apply pw_below_drewN | apply below_drew1 | refine below_set ?_ GE531.out) | exact HB.out)⟩
        · replace c12 := Bool.eq_false_iff.mpr c12
          subst c12
          have H1 : ((some (([] : List Int) : List Int)).bind fun y547 => (if y547.length + t532.length < 17592186044416 then ((some (y547 ++ t532 : List Int)).bind fun y550 => (if 1 < (t538.length : Int) then (if 0 ≤ (Int.tmod (rd t538 0) 8) then (if (Int.tmod (rd t538 0) 8) < (y550.length : Int) then ((impl_TaskEffect.f k t528 0 t532 t535).bind fun bt555 => ((impl_TaskEffect.f k t528 0 (y550.set ((Int.tmod (rd t538 0) 8) : Int).toNat (wrap64 ((rd t538 1) - 5000))) t535).bind fun bt565 => (if bt555.2.2.2.2 = true then (if bt565.2.2.2.2 = true then (if (bt555.1.length : Int) = 8 then (if (bt565.1.length : Int) = 8 then ((laws_sameInts.f k bt555.2.1 bt565.2.1).bind fun t575 => (if t575 = true then (if bt555.2.2.1 = bt565.2.2.1 then (laws_FnReadsFirst.j0 k (Int.tmod (rd t538 0) 8) (bt555.2.2.2.1 != bt565.2.2.2.1) t528 bt555.1 bt555.2.1 bt555.2.2.1 bt555.2.2.2.1 bt565.1 bt565.2.1 bt565.2.2.1 bt565.2.2.2.1) else (laws_FnReadsFirst.j0 k (Int.tmod (rd t538 0) 8) true t528 bt555.1 bt555.2.1 bt555.2.2.1 bt555.2.2.2.1 bt565.1 bt565.2.1 bt565.2.2.1 bt565.2.2.2.1)) else (laws_FnReadsFirst.j0 k (Int.tmod (rd t538 0) 8) true t528 bt555.1 bt555.2.1 bt555.2.2.1 bt555.2.2.2.1 bt565.1 bt565.2.1 bt565.2.2.1 bt565.2.2.2.1))) else (laws_FnReadsFirst.j0 k (Int.tmod (rd t538 0) 8) true t528 bt555.1 bt555.2.1 bt555.2.2.1 bt555.2.2.2.1 bt565.1 bt565.2.1 bt565.2.2.1 bt565.2.2.2.1)) else (laws_FnReadsFirst.j0 k (Int.tmod (rd t538 0) 8) true t528 bt555.1 bt555.2.1 bt555.2.2.1 bt555.2.2.2.1 bt565.1 bt565.2.1 bt565.2.2.1 bt565.2.2.2.1)) else (laws_FnReadsFirst.j0 k (Int.tmod (rd t538 0) 8) true t528 bt555.1 bt555.2.1 bt555.2.2.1 bt555.2.2.2.1 bt565.1 bt565.2.1 bt565.2.2.1 bt565.2.2.2.1)) else (laws_FnReadsFirst.j0 k (Int.tmod (rd t538 0) 8) true t528 bt555.1 bt555.2.1 bt555.2.2.1 bt555.2.2.2.1 bt565.1 bt565.2.1 bt565.2.2.1 bt565.2.2.2.1)))) else (none)) else (none)) else (none))) else (none))) = some r := by rw [if_neg (show ¬ (false = true) by decide)] at H; exact H
          clear H
          have H := H1
          clear H1
          obtain ⟨y547, hy547⟩ : ∃ y_ : List Int, y_ = (([] : List Int)) := ⟨_, rfl⟩
          replace H : (if y547.length + t532.length < 17592186044416 then ((some (y547 ++ t532 : List Int)).bind fun y550 => (if 1 < (t538.length : Int) then (if 0 ≤ (Int.tmod (rd t538 0) 8) then (if (Int.tmod (rd t538 0) 8) < (y550.length : Int) then ((impl_TaskEffect.f k t528 0 t532 t535).bind fun bt555 => ((impl_TaskEffect.f k t528 0 (y550.set ((Int.tmod (rd t538 0) 8) : Int).toNat (wrap64 ((rd t538 1) - 5000))) t535).bind fun bt565 => (if bt555.2.2.2.2 = true then (if bt565.2.2.2.2 = true then (if (bt555.1.length : Int) = 8 then (if (bt565.1.length : Int) = 8 then ((laws_sameInts.f k bt555.2.1 bt565.2.1).bind fun t575 => (if t575 = true then (if bt555.2.2.1 = bt565.2.2.1 then (laws_FnReadsFirst.j0 k (Int.tmod (rd t538 0) 8) (bt555.2.2.2.1 != bt565.2.2.2.1) t528 bt555.1 bt555.2.1 bt555.2.2.1 bt555.2.2.2.1 bt565.1 bt565.2.1 bt565.2.2.1 bt565.2.2.2.1) else (laws_FnReadsFirst.j0 k (Int.tmod (rd t538 0) 8) true t528 bt555.1 bt555.2.1 bt555.2.2.1 bt555.2.2.2.1 bt565.1 bt565.2.1 bt565.2.2.1 bt565.2.2.2.1)) else (laws_FnReadsFirst.j0 k (Int.tmod (rd t538 0) 8) true t528 bt555.1 bt555.2.1 bt555.2.2.1 bt555.2.2.2.1 bt565.1 bt565.2.1 bt565.2.2.1 bt565.2.2.2.1))) else (laws_FnReadsFirst.j0 k (Int.tmod (rd t538 0) 8) true t528 bt555.1 bt555.2.1 bt555.2.2.1 bt555.2.2.2.1 bt565.1 bt565.2.1 bt565.2.2.1 bt565.2.2.2.1)) else (laws_FnReadsFirst.j0 k (Int.tmod (rd t538 0) 8) true t528 bt555.1 bt555.2.1 bt555.2.2.1 bt555.2.2.2.1 bt565.1 bt565.2.1 bt565.2.2.1 bt565.2.2.2.1)) else (laws_FnReadsFirst.j0 k (Int.tmod (rd t538 0) 8) true t528 bt555.1 bt555.2.1 bt555.2.2.1 bt555.2.2.2.1 bt565.1 bt565.2.1 bt565.2.2.1 bt565.2.2.2.1)) else (laws_FnReadsFirst.j0 k (Int.tmod (rd t538 0) 8) true t528 bt555.1 bt555.2.1 bt555.2.2.1 bt555.2.2.2.1 bt565.1 bt565.2.1 bt565.2.2.1 bt565.2.2.2.1)))) else (none)) else (none)) else (none))) else (none)) = some r := by first | (rw [hy547]; with_reducible exact H) | (have H2_ := (Option.bind_some _ _).symm.trans H; rw [hy547]; with_reducible exact H2_) | (have H2_ := (Option.bind_some _ _).symm.trans H; with_reducible exact H2_) | with_reducible exact H | (rw [hy547]; exact H) | exact H
          have Ny547 := Aside0.mk hy547
          clear hy547
          by_cases c24 : y547.length + t532.length < 17592186044416
          · rw [if_pos c24] at H
            have LMc24 := Aside0.mk c24
            clear c24
            obtain ⟨y550, hy550⟩ : ∃ y_ : List Int, y_ = (y547 ++ t532) := ⟨_, rfl⟩
            replace H : (if 1 < (t538.length : Int) then (if 0 ≤ (Int.tmod (rd t538 0) 8) then (if (Int.tmod (rd t538 0) 8) < (y550.length : Int) then ((impl_TaskEffect.f k t528 0 t532 t535).bind fun bt555 => ((impl_TaskEffect.f k t528 0 (y550.set ((Int.tmod (rd t538 0) 8) : Int).toNat (wrap64 ((rd t538 1) - 5000))) t535).bind fun bt565 => (if bt555.2.2.2.2 = true then (if bt565.2.2.2.2 = true then (if (bt555.1.length : Int) = 8 then (if (bt565.1.length : Int) = 8 then ((laws_sameInts.f k bt555.2.1 bt565.2.1).bind fun t575 => (if t575 = true then (if bt555.2.2.1 = bt565.2.2.1 then (laws_FnReadsFirst.j0 k (Int.tmod (rd t538 0) 8) (bt555.2.2.2.1 != bt565.2.2.2.1) t528 bt555.1 bt555.2.1 bt555.2.2.1 bt555.2.2.2.1 bt565.1 bt565.2.1 bt565.2.2.1 bt565.2.2.2.1) else (laws_FnReadsFirst.j0 k (Int.tmod (rd t538 0) 8) true t528 bt555.1 bt555.2.1 bt555.2.2.1 bt555.2.2.2.1 bt565.1 bt565.2.1 bt565.2.2.1 bt565.2.2.2.1)) else (laws_FnReadsFirst.j0 k (Int.tmod (rd t538 0) 8) true t528 bt555.1 bt555.2.1 bt555.2.2.1 bt555.2.2.2.1 bt565.1 bt565.2.1 bt565.2.2.1 bt565.2.2.2.1))) else (laws_FnReadsFirst.j0 k (Int.tmod (rd t538 0) 8) true t528 bt555.1 bt555.2.1 bt555.2.2.1 bt555.2.2.2.1 bt565.1 bt565.2.1 bt565.2.2.1 bt565.2.2.2.1)) else (laws_FnReadsFirst.j0 k (Int.tmod (rd t538 0) 8) true t528 bt555.1 bt555.2.1 bt555.2.2.1 bt555.2.2.2.1 bt565.1 bt565.2.1 bt565.2.2.1 bt565.2.2.2.1)) else (laws_FnReadsFirst.j0 k (Int.tmod (rd t538 0) 8) true t528 bt555.1 bt555.2.1 bt555.2.2.1 bt555.2.2.2.1 bt565.1 bt565.2.1 bt565.2.2.1 bt565.2.2.2.1)) else (laws_FnReadsFirst.j0 k (Int.tmod (rd t538 0) 8) true t528 bt555.1 bt555.2.1 bt555.2.2.1 bt555.2.2.2.1 bt565.1 bt565.2.1 bt565.2.2.1 bt565.2.2.2.1)))) else (none)) else (none)) else (none)) = some r := by first | (rw [hy550]; with_reducible exact H) | (have H2_ := (Option.bind_some _ _).symm.trans H; rw [hy550]; with_reducible exact H2_) | (have H2_ := (Option.bind_some _ _).symm.trans H; with_reducible exact H2_) | with_reducible exact H | (rw [hy550]; exact H) | exact H
            have Ny550 := Aside0.mk hy550
            clear hy550
            by_cases c25 : 1 < (t538.length : Int)
            · rw [if_pos c25] at H
              have c25b0 : decide (1 < (t538.length : Int)) = true := decide_eq_true c25
              have c25b1 : decide (1 < t538.length) = true := decide_eq_true (by omega)
              clear c25
              obtain ⟨ji26, hji26⟩ : ∃ j_ : Int, (Int.tmod (rd t538 0) 8) = j_ := ⟨_, rfl⟩
              replace H : (if 0 ≤ (ji26) then (if (ji26) < (y550.length : Int) then ((impl_TaskEffect.f k t528 0 t532 t535).bind fun bt555 => ((impl_TaskEffect.f k t528 0 (y550.set ((ji26) : Int).toNat (wrap64 ((rd t538 1) - 5000))) t535).bind fun bt565 => (if bt555.2.2.2.2 = true then (if bt565.2.2.2.2 = true then (if (bt555.1.length : Int) = 8 then (if (bt565.1.length : Int) = 8 then ((laws_sameInts.f k bt555.2.1 bt565.2.1).bind fun t575 => (if t575 = true then (if bt555.2.2.1 = bt565.2.2.1 then (laws_FnReadsFirst.j0 k ji26 (bt555.2.2.2.1 != bt565.2.2.2.1) t528 bt555.1 bt555.2.1 bt555.2.2.1 bt555.2.2.2.1 bt565.1 bt565.2.1 bt565.2.2.1 bt565.2.2.2.1) else (laws_FnReadsFirst.j0 k ji26 true t528 bt555.1 bt555.2.1 bt555.2.2.1 bt555.2.2.2.1 bt565.1 bt565.2.1 bt565.2.2.1 bt565.2.2.2.1)) else (laws_FnReadsFirst.j0 k ji26 true t528 bt555.1 bt555.2.1 bt555.2.2.1 bt555.2.2.2.1 bt565.1 bt565.2.1 bt565.2.2.1 bt565.2.2.2.1))) else (laws_FnReadsFirst.j0 k ji26 true t528 bt555.1 bt555.2.1 bt555.2.2.1 bt555.2.2.2.1 bt565.1 bt565.2.1 bt565.2.2.1 bt565.2.2.2.1)) else (laws_FnReadsFirst.j0 k ji26 true t528 bt555.1 bt555.2.1 bt555.2.2.1 bt555.2.2.2.1 bt565.1 bt565.2.1 bt565.2.2.1 bt565.2.2.2.1)) else (laws_FnReadsFirst.j0 k ji26 true t528 bt555.1 bt555.2.1 bt555.2.2.1 bt555.2.2.2.1 bt565.1 bt565.2.1 bt565.2.2.1 bt565.2.2.2.1)) else (laws_FnReadsFirst.j0 k ji26 true t528 bt555.1 bt555.2.1 bt555.2.2.1 bt555.2.2.2.1 bt565.1 bt565.2.1 bt565.2.2.1 bt565.2.2.2.1)))) else (none)) else (none)) = some r := by first | (rw [hji26] at H; exact H) | (simp only [hji26] at H ⊢; exact H)
              (try rw [hji26] at A2)
              (try rw [hji26] at A4)
              (try rw [hji26] at A5)
              (try rw [hji26] at A6)
              (try rw [hji26] at A7)
              (try rw [hji26] at A10)
              (try rw [hji26] at A11)
              by_cases c27 : 0 ≤ (ji26)
              · rw [if_pos c27] at H
                have c27b0 : decide (0 ≤ (ji26)) = true := decide_eq_true c27
                clear c27
                by_cases c28 : (ji26) < (y550.length : Int)
                · rw [if_pos c28] at H
                  have c28b0 : decide ((ji26) < (y550.length : Int)) = true := decide_eq_true c28
                  clear c28
                  obtain ⟨y554, hy554⟩ : ∃ y_ : List Int, y_ = (y550.set ((ji26) : Int).toNat (wrap64 ((rd t538 1) - 5000))) := ⟨_, rfl⟩
                  replace H : ((impl_TaskEffect.f k t528 0 t532 t535).bind fun bt555 => ((impl_TaskEffect.f k t528 0 y554 t535).bind fun bt565 => (if bt555.2.2.2.2 = true then (if bt565.2.2.2.2 = true then (if (bt555.1.length : Int) = 8 then (if (bt565.1.length : Int) = 8 then ((laws_sameInts.f k bt555.2.1 bt565.2.1).bind fun t575 => (if t575 = true then (if bt555.2.2.1 = bt565.2.2.1 then (laws_FnReadsFirst.j0 k ji26 (bt555.2.2.2.1 != bt565.2.2.2.1) t528 bt555.1 bt555.2.1 bt555.2.2.1 bt555.2.2.2.1 bt565.1 bt565.2.1 bt565.2.2.1 bt565.2.2.2.1) else (laws_FnReadsFirst.j0 k ji26 true t528 bt555.1 bt555.2.1 bt555.2.2.1 bt555.2.2.2.1 bt565.1 bt565.2.1 bt565.2.2.1 bt565.2.2.2.1)) else (laws_FnReadsFirst.j0 k ji26 true t528 bt555.1 bt555.2.1 bt555.2.2.1 bt555.2.2.2.1 bt565.1 bt565.2.1 bt565.2.2.1 bt565.2.2.2.1))) else (laws_FnReadsFirst.j0 k ji26 true t528 bt555.1 bt555.2.1 bt555.2.2.1 bt555.2.2.2.1 bt565.1 bt565.2.1 bt565.2.2.1 bt565.2.2.2.1)) else (laws_FnReadsFirst.j0 k ji26 true t528 bt555.1 bt555.2.1 bt555.2.2.1 bt555.2.2.2.1 bt565.1 bt565.2.1 bt565.2.2.1 bt565.2.2.2.1)) else (laws_FnReadsFirst.j0 k ji26 true t528 bt555.1 bt555.2.1 bt555.2.2.1 bt555.2.2.2.1 bt565.1 bt565.2.1 bt565.2.2.1 bt565.2.2.2.1)) else (laws_FnReadsFirst.j0 k ji26 true t528 bt555.1 bt555.2.1 bt555.2.2.1 bt555.2.2.2.1 bt565.1 bt565.2.1 bt565.2.2.1 bt565.2.2.2.1)))) = some r := by first | (rw [hy554]; with_reducible exact H) | (have H2_ := (Option.bind_some _ _).symm.trans H; rw [hy554]; with_reducible exact H2_) | (have H2_ := (Option.bind_some _ _).symm.trans H; with_reducible exact H2_) | with_reducible exact H | (rw [hy554]; exact H) | exact H
                  have Ny554 := Aside0.mk hy554
                  clear hy554
                  replace H := Option.bind_eq_some_iff.mp H
                  obtain ⟨⟨t555, t558, t561, t562, t563⟩, A300, H⟩ := H
                  replace H : ((impl_TaskEffect.f k t528 0 y554 t535).bind fun bt565 => (if t563 = true then (if bt565.2.2.2.2 = true then (if (t555.length : Int) = 8 then (if (bt565.1.length : Int) = 8 then ((laws_sameInts.f k t558 bt565.2.1).bind fun t575 => (if t575 = true then (if t561 = bt565.2.2.1 then (laws_FnReadsFirst.j0 k ji26 (t562 != bt565.2.2.2.1) t528 t555 t558 t561 t562 bt565.1 bt565.2.1 bt565.2.2.1 bt565.2.2.2.1) else (laws_FnReadsFirst.j0 k ji26 true t528 t555 t558 t561 t562 bt565.1 bt565.2.1 bt565.2.2.1 bt565.2.2.2.1)) else (laws_FnReadsFirst.j0 k ji26 true t528 t555 t558 t561 t562 bt565.1 bt565.2.1 bt565.2.2.1 bt565.2.2.2.1))) else (laws_FnReadsFirst.j0 k ji26 true t528 t555 t558 t561 t562 bt565.1 bt565.2.1 bt565.2.2.1 bt565.2.2.2.1)) else (laws_FnReadsFirst.j0 k ji26 true t528 t555 t558 t561 t562 bt565.1 bt565.2.1 bt565.2.2.1 bt565.2.2.2.1)) else (laws_FnReadsFirst.j0 k ji26 true t528 t555 t558 t561 t562 bt565.1 bt565.2.1 bt565.2.2.1 bt565.2.2.2.1)) else (laws_FnReadsFirst.j0 k ji26 true t528 t555 t558 t561 t562 bt565.1 bt565.2.1 bt565.2.2.1 bt565.2.2.2.1))) = some r := H
                  have A30 := Aside0.mk A300
                  clear A300
                  replace H := Option.bind_eq_some_iff.mp H
                  obtain ⟨⟨t565, t568, t571, t572, t573⟩, A310, H⟩ := H
                  replace H : (if t563 = true then (if t573 = true then (if (t555.length : Int) = 8 then (if (t565.length : Int) = 8 then ((laws_sameInts.f k t558 t568).bind fun t575 => (if t575 = true then (if t561 = t571 then (laws_FnReadsFirst.j0 k ji26 (t562 != t572) t528 t555 t558 t561 t562 t565 t568 t571 t572) else (laws_FnReadsFirst.j0 k ji26 true t528 t555 t558 t561 t562 t565 t568 t571 t572)) else (laws_FnReadsFirst.j0 k ji26 true t528 t555 t558 t561 t562 t565 t568 t571 t572))) else (laws_FnReadsFirst.j0 k ji26 true t528 t555 t558 t561 t562 t565 t568 t571 t572)) else (laws_FnReadsFirst.j0 k ji26 true t528 t555 t558 t561 t562 t565 t568 t571 t572)) else (laws_FnReadsFirst.j0 k ji26 true t528 t555 t558 t561 t562 t565 t568 t571 t572)) else (laws_FnReadsFirst.j0 k ji26 true t528 t555 t558 t561 t562 t565 t568 t571 t572)) = some r := H
                  have A31 := Aside0.mk A310
                  clear A310
                  have HC32 := Aside0.mk H
                  clear H
                  go_enter Try.func11, Try.ntmps11
                  go_upto_region 14 with (first | ((with_reducible refine gate_callee (f := 13) rfl ?_); refine goesL_ (some 15) rfl rfl Try.func13 z13_11 rfl #[.slice A0 l0.length c0] rfl z13_2 ?_; (with_reducible refine (laws_big.calls _ _ l0 false _ ?side1 ?side2 A2.out).mono ?_); (case side1 => exact z13_16); (case side2 => exact HC0.out); rintro e w' ⟨rfl, ⟨nd, rfl⟩⟩; refine ⟨_, rfl, ?_⟩) | ((with_reducible refine gate_callee (f := 14) rfl ?_); refine goesL_ (some 17) rfl rfl Try.func14 z13_11 rfl #[.slice A0 l0.length c0] rfl z13_2 ?_; (with_reducible refine (spec_DrawProgram.calls k _ _ l0 t528 _ ?side1 ?side2 A4.out).mono ?_); (case side1 => exact z13_16); (case side2 => exact HC0.out); rintro e w33 ⟨v529, rfl, ho0, hb⟩; refine ⟨_, rfl, ?_⟩; have n0_ := Aside0.mk (Kd.S_lower ho0 (below_size z13_9)); have n1_ := Aside0.mk (below_step z13_9 hb); clear HB; have HO530 := n0_; have HB := n1_; clear n0_ n1_; (try clear hb); (try clear hb2); (try clear hk); (try clear hi); (try clear ho0)) | ((with_reducible refine gate_dst (N := 3) rfl ?_); (try (refine gate_guard (by rfl) ?_; dsimp only)); refine box_event ?hg (N := 3) ?hd (cs := #[.slice none 0 0]) (t := 26) ?hr ?_; (case hd => rfl); (case hg => rfl); (case hr => exact z13_31); intro gb531 hg w34 hbox hb; have n0_ := Aside0.mk (Kd.S_below z13_6 hb); have n1_ := Aside0.mk (below_step z13_9 hb); have n2_ := Aside0.mk (hbox); have n3_ := Aside0.mk ((by rw [hg]; exact (below_size z13_9) : w.heap.size ≤ gb531)); have n4_ := Aside0.mk ((by rw [hg]; exact (below_size z13_9) : w.heap.size ≤ gb531)); clear HO530; clear HB; have HO530 := n0_; have HB := n1_; have BK531 := n2_; have GW531 := n3_; have GE531 := n4_; clear n0_ n1_ n2_ n3_ n4_; clear hb hbox hg; obtain ⟨Ao35, co35, eo35⟩ := Kd.S_slice HO530.out; subst eo35; have hcz36_0 : w34.cell? ⟨gb531, 0, none⟩ = some (.slice none 0 0) := (blk_cell BK531.out 0).trans rfl; have hfz36_0 := blk_frozen BK531.out 0) | ((with_reducible refine gate_callee (f := 15) rfl ?_); refine goesL_ (some 19) rfl rfl Try.func15 z13_11 rfl #[.slice A0 l0.length c0] rfl z13_2 ?_; (with_reducible refine (spec_DrawVars.calls k _ _ l0 t532 _ ?side1 ?side2 A5.out).mono ?_); (case side1 => exact Kd.C_below HR0.out z13_0); (case side2 => exact HC0.out); rintro e w37 ⟨v533, rfl, ho0, hb⟩; refine ⟨_, rfl, ?_⟩; have n0_ := Aside0.mk (Kd.S_below (by (with_reducible repeat (first | apply Kd.S_alloc | apply Kd.S_drewN | apply Kd.S_drew)); exact (Kd.S_mono (Kd.S_far (p := ⟨gb531, 0, none⟩) (Kd.S_types HO530.out BK531.out (by decide)) (fun _ hk => hk.2) (.slice Ao35 t528.length co35)) (fun _ h_ => h_.1))) hb); have n1_ := Aside0.mk (Kd.R_lower ho0 (below_size z13_0)); have n2_ := Aside0.mk (blk_below (g := gb531) (o := .cells #[.slice Ao35 t528.length co35] 26 (0, 0)) z13_30 hb); have n3_ := Aside0.mk (below_step z13_0 hb); clear HO530; clear BK531; clear HB; have HO530 := n0_; have HO534 := n1_; have BK531 := n2_; have HB := n3_; clear n0_ n1_ n2_ n3_; (try clear hb); (try clear hb2); (try clear hk); (try clear hi); (try clear ho0)) | ((with_reducible refine gate_callee (f := 16) rfl ?_); refine goesL_ (some 21) rfl rfl Try.func16 z13_11 rfl #[.slice A0 l0.length c0] rfl z13_2 ?_; (with_reducible refine (spec_DrawReadings.calls k _ _ l0 t535 _ ?side1 ?side2 A6.out).mono ?_); (case side1 => exact z13_19); (case side2 => exact HC0.out); rintro e w38 ⟨v536, rfl, ho0, hb⟩; refine ⟨_, rfl, ?_⟩; have n0_ := Aside0.mk (Kd.S_below z13_6 hb); have n1_ := Aside0.mk (Kd.R_elder' z13_1 (Kd.R_base ho0) hb); have n2_ := Aside0.mk (Kd.R_lower (Kd.R_new' ho0 (Kd.R_lt z13_1)) (below_size z13_0)); have n3_ := Aside0.mk (blk_below (g := gb531) (o := .cells #[.slice Ao35 t528.length co35] 26 (0, 0)) z13_3 hb); have n4_ := Aside0.mk (below_step z13_0 hb); clear HO530; clear HO534; clear BK531; clear HB; have HO530 := n0_; have HO534 := n1_; have HO537 := n2_; have BK531 := n3_; have HB := n4_; clear n0_ n1_ n2_ n3_ n4_; (try clear hb); (try clear hb2); (try clear hk); (try clear hi); (try clear ho0)) | ((with_reducible refine gate_callee (f := 22) rfl ?_); refine goesL_ (some 23) rfl rfl Try.func22 z13_11 rfl #[.slice A0 l0.length c0] rfl z13_2 ?_; (with_reducible refine (spec_DrawPlaces.calls k _ _ l0 t538 _ ?side1 ?side2 A7.out).mono ?_); (case side1 => exact z13_19); (case side2 => exact HC0.out); rintro e w39 ⟨v539, rfl, ho0, hb⟩; refine ⟨_, rfl, ?_⟩; have n0_ := Aside0.mk (Kd.S_below z13_6 hb); have n1_ := Aside0.mk (Kd.R_elder' z13_1 (Kd.R_base ho0) hb); have n2_ := Aside0.mk (Kd.R_elder' z13_4 (Kd.R_base ho0) hb); have n3_ := Aside0.mk (Kd.R_lower (Kd.R_new' (Kd.R_new' ho0 (Kd.R_lt z13_1)) (Kd.R_lt z13_4)) (below_size z13_0)); have n4_ := Aside0.mk (blk_below (g := gb531) (o := .cells #[.slice Ao35 t528.length co35] 26 (0, 0)) z13_3 hb); have n5_ := Aside0.mk (below_step z13_0 hb); clear HO530; clear HO534; clear HO537; clear BK531; clear HB; have HO530 := n0_; have HO534 := n1_; have HO537 := n2_; have HO540 := n3_; have BK531 := n4_; have HB := n5_; clear n0_ n1_ n2_ n3_ n4_ n5_; (try clear hb); (try clear hb2); (try clear hk); (try clear hi); (try clear ho0); obtain ⟨Ao40, co40, eo40⟩ := Kd.R_slice HO540.out; subst eo40; have p541 : 0 ≤ (0 : Int) := (by omega); have q541 : 0 < (t538.length : Int) := of_decide_eq_true z13_8; obtain ⟨ad541, e541, hx541_0⟩ := Kd.at_int (Kd.R_reads' HO540.out).2.2 0 p541 q541; cases e541; have qi541 : (0 < t538.length) = True := eq_true (by omega); (try rw [show ((0 : Int)).toNat = 0 from rfl] at hx541_0); (try rw [Addr.add_zero'] at hx541_0); replace p541 := eq_true p541; replace q541 := eq_true q541; have hcz41_0 : w39.cell? ⟨gb531, 0, none⟩ = some (.slice Ao35 t528.length co35) := (blk_cell BK531.out 0).trans rfl; have hfz41_0 := blk_frozen BK531.out 0; have p542 : 0 ≤ (0 : Int) := (by omega); have q542 : 0 < (t528.length : Int) := of_decide_eq_true z13_8; obtain ⟨ad542, A542_0, c542_0, e542, hx542_0, hx542_1, hx542_2, hx542_3, hl542_0, hi542_0⟩ := at_T34 (Kd.S_reads' HO530.out).2.2 0 p542 q542; cases e542; obtain ⟨ce542, hce542, hMe542, hcc542⟩ := Kd.S_get HO530.out z34 0 p542 (by first | exact q542 | exact of_decide_eq_true z13_8 | (have e_ := (Kd.S_reads' HO530.out).1; omega)); obtain ⟨ve542_0, rfl, ge542_0⟩ := k34_openM hMe542; have hv542_0 := hcc542 0 _ rfl; rw [Nat.add_zero] at hv542_0; replace hv542_0 := Option.some.inj (hv542_0.symm.trans hx542_0); rw [hv542_0] at ge542_0; have HL542_0 := Aside0.mk (show Kd.R k77 77 _ _ _ _ ((rd_T34 t528 0).f0) from ge542_0); clear hv542_0 ge542_0; clear hcc542 hce542; have qi542 : (0 < t528.length) = True := eq_true (by omega); (try rw [show ((0 : Int)).toNat = 0 from rfl] at hx542_0); (try rw [show 0 * 4 = 0 from rfl] at hx542_0); (try rw [Addr.add_zero'] at hx542_0); (try rw [show ((0 : Int)).toNat = 0 from rfl] at hx542_1); (try rw [show 0 * 4 = 0 from rfl] at hx542_1); (try rw [Addr.add_zero'] at hx542_1); (try rw [show ((0 : Int)).toNat = 0 from rfl] at hx542_2); (try rw [show 0 * 4 = 0 from rfl] at hx542_2); (try rw [Addr.add_zero'] at hx542_2); (try rw [show ((0 : Int)).toNat = 0 from rfl] at hx542_3); (try rw [show 0 * 4 = 0 from rfl] at hx542_3); (try rw [Addr.add_zero'] at hx542_3); have HR542_0 := Aside0.mk hi542_0; have HC542_0 := Aside0.mk hl542_0; clear hi542_0 hl542_0; replace p542 := eq_true p542; replace q542 := eq_true q542) | ((with_reducible refine gate_callee (f := 48) rfl ?_); refine goesL_ (some 32) rfl rfl Try.func48 z13_11 rfl #[.agg #[.slice A542_0 ((rd_T34 t528 0).f0).length c542_0, .int .i64 ((rd_T34 t528 0).f1.f0), .int .i64 ((rd_T34 t528 0).f1.f1), .int .i64 ((rd_T34 t528 0).f1.f2)]] rfl z13_2 ?_; (with_reducible refine (impl_MayReadFirst.calls k _ _ ((rd_T34 t528 0).f0) ((rd_T34 t528 0).f1.f0) ((rd_T34 t528 0).f1.f1) ((rd_T34 t528 0).f1.f2) t543 _ ?side1 ?side2 A10.out).mono ?_); (case side1 => repeat (first | exact z13_12 | (with_reducible refine Kd.C_alloc ?_ _) | (with_reducible refine Kd.C_drewN ?_ _) | (with_reducible refine Kd.C_drew ?_))); (case side2 => exact HC542_0.out); rintro e w42 ⟨v544, rfl, ho0, hb⟩; refine ⟨_, rfl, ?_⟩; have n0_ := Aside0.mk (Kd.S_below z13_6 hb); have n1_ := Aside0.mk (Kd.R_elder' z13_1 (Kd.R_base ho0) hb); have n2_ := Aside0.mk (Kd.R_elder' z13_4 (Kd.R_base ho0) hb); have n3_ := Aside0.mk (Kd.R_elder' z13_5 (Kd.R_base ho0) hb); have n4_ := Aside0.mk (Kd.R_below z13_14 hb); have n5_ := Aside0.mk (Kd.R_lower (Kd.R_new' (Kd.R_new' (Kd.R_new' ho0 (Kd.R_lt z13_1)) (Kd.R_lt z13_4)) (Kd.R_lt z13_5)) (below_size z13_0)); have n6_ := Aside0.mk (blk_below (g := gb531) (o := .cells #[.slice (some ad542) t528.length co35] 26 (0, 0)) z13_3 hb); have n7_ := Aside0.mk (Kd.C_below z13_12 hb); have n8_ := Aside0.mk (below_step z13_0 hb); clear HO530; clear HO534; clear HO537; clear HO540; clear HL542_0; clear BK531; clear HR542_0; clear HB; have HO530 := n0_; have HO534 := n1_; have HO537 := n2_; have HO540 := n3_; have HL542_0 := n4_; have HO545 := n5_; have BK531 := n6_; have HR542_0 := n7_; have HB := n8_; clear n0_ n1_ n2_ n3_ n4_ n5_ n6_ n7_ n8_; (try clear hb); (try clear hb2); (try clear hk); (try clear hi); (try clear ho0); obtain ⟨Ao43, co43, eo43⟩ := Kd.R_slice HO545.out; subst eo43) | ((with_reducible refine gate_callee (f := 46) rfl ?_); refine goesL_ (some 34) rfl rfl Try.func46 z13_11 rfl #[.slice Ao43 t543.length co43, .int .i64 ji26] rfl z13_25 ?_; (with_reducible refine (laws_has.calls k _ _ t543 ji26 false _ ?side1 ?side2 A11.out).mono ?_); (case side1 => repeat (first | exact (Kd.R_reads' HO545.out).2.2 | (with_reducible refine Kd.C_alloc ?_ _) | (with_reducible refine Kd.C_drewN ?_ _) | (with_reducible refine Kd.C_drew ?_))); (case side2 => exact (Kd.R_reads' HO545.out).2.1); rintro e w' ⟨rfl, ⟨nd, rfl⟩⟩; refine ⟨_, rfl, ?_⟩; (try (rw [drewN_self w42]; generalize hq_ : World.drewN w42 _ = w42; have n0_ : Aside0 (Kd.R k77 77 w42 w.heap.size (fun k_ => some k_ ≠ (.slice (some ad542) t528.length co35 : Value).ownBlock) (.slice A542_0 ((rd_T34 t528 0).f0).length c542_0) ((rd_T34 t528 0).f0)) := ⟨by rw [← hq_]; exact (by (with_reducible repeat (first | apply Kd.R_alloc | apply Kd.R_drewN | apply Kd.R_drew)); exact Kd.R_mono HL542_0.out (fun _ hk => hk.2))⟩; have n1_ : Aside0 (Kd.S k34 34 w42 w.heap.size (fun _ => True) (.slice (some ad542) t528.length co35) t528) := ⟨by rw [← hq_]; exact z13_6⟩; have n2_ : Aside0 (Kd.R (Kd.int .i64) 3 w42 w.heap.size (fun k_ => some k_ ≠ (v536 : Value).ownBlock ∧ some k_ ≠ (.slice (some ad541) t538.length co40 : Value).ownBlock ∧ some k_ ≠ (.slice Ao43 t543.length co43 : Value).ownBlock) v533 t532) := ⟨by rw [← hq_]; exact (by (with_reducible repeat (first | apply Kd.R_alloc | apply Kd.R_drewN | apply Kd.R_drew)); exact Kd.R_mono HO534.out (fun _ hk => ⟨hk.1.1.2, ⟨hk.1.2, hk.2⟩⟩))⟩; have n3_ : Aside0 (Kd.R (Kd.int .i64) 3 w42 w.heap.size (fun k_ => some k_ ≠ (v533 : Value).ownBlock ∧ some k_ ≠ (.slice (some ad541) t538.length co40 : Value).ownBlock ∧ some k_ ≠ (.slice Ao43 t543.length co43 : Value).ownBlock) v536 t535) := ⟨by rw [← hq_]; exact (by (with_reducible repeat (first | apply Kd.R_alloc | apply Kd.R_drewN | apply Kd.R_drew)); exact Kd.R_mono HO537.out (fun _ hk => ⟨hk.1.1.2, ⟨hk.1.2, hk.2⟩⟩))⟩; have n4_ : Aside0 (Kd.R (Kd.int .i64) 3 w42 w.heap.size (fun k_ => some k_ ≠ (v533 : Value).ownBlock ∧ some k_ ≠ (v536 : Value).ownBlock ∧ some k_ ≠ (.slice Ao43 t543.length co43 : Value).ownBlock) (.slice (some ad541) t538.length co40) t538) := ⟨by rw [← hq_]; exact (by (with_reducible repeat (first | apply Kd.R_alloc | apply Kd.R_drewN | apply Kd.R_drew)); exact Kd.R_mono HO540.out (fun _ hk => ⟨hk.1.1.2, ⟨hk.1.2, hk.2⟩⟩))⟩; have n5_ : Aside0 (Kd.R (Kd.int .i64) 3 w42 w.heap.size (fun k_ => some k_ ≠ (v533 : Value).ownBlock ∧ some k_ ≠ (v536 : Value).ownBlock ∧ some k_ ≠ (.slice (some ad541) t538.length co40 : Value).ownBlock) (.slice Ao43 t543.length co43) t543) := ⟨by rw [← hq_]; exact (by (with_reducible repeat (first | apply Kd.R_alloc | apply Kd.R_drewN | apply Kd.R_drew)); exact Kd.R_mono HO545.out (fun _ hk => ⟨hk.1.1.2, ⟨hk.1.2, hk.2⟩⟩))⟩; have n6_ : Aside0 (w42.heap[gb531]? = some (.cells #[.slice (some ad542) t528.length co35] 26 (0, 0))) := ⟨by rw [← hq_]; exact z13_3⟩; have n7_ : Aside0 (Below w.heap.size w w42) := ⟨by rw [← hq_]; exact z13_0⟩; have n8_ : Aside0 (Kd.C k77 w42 A542_0 ((rd_T34 t528 0).f0).length ((rd_T34 t528 0).f0)) := ⟨by rw [← hq_]; exact z13_12⟩; clear HL542_0 HO530 HO534 HO537 HO540 HO545 BK531 HB HR542_0 hq_; have HL542_0 := n0_; have HO530 := n1_; have HO534 := n2_; have HO537 := n3_; have HO540 := n4_; have HO545 := n5_; have BK531 := n6_; have HB := n7_; have HR542_0 := n8_; clear n0_ n1_ n2_ n3_ n4_ n5_ n6_ n7_ n8_))) | ((with_reducible refine gate_dst (N := 35) rfl ?_); (try (refine gate_guard (by rfl) ?_; dsimp only)); refine Kd.R_lit (Kd.int .i64) _ 3 ?hg (N := 35) ?hd (xs := ([] : List Int)) (inner := []) (ok := fun _ => True) (okp := fun _ => True) ?hr ?hp (fun _ hk => hk) trivial (Below.refl _ _) (Nat.le_refl _) (by simp) ?_; (case hd => rfl); (case hg => rfl); (case hr => exact z13_31); (case hp => exact (Reps.none _ _)); intro v548 w44 ho45 hb hg_ hnew_; clear hg_ hnew_; (first | rw [← Ny547.out] at ho45 | (simp only [Int.reduceToNat] at ho45; rw [← Ny547.out] at ho45)); have n0_ := Aside0.mk (Kd.S_below z13_6 hb); have n1_ := Aside0.mk (Kd.R_elder' z13_1 (Kd.R_base ho45) hb); have n2_ := Aside0.mk (Kd.R_elder' z13_4 (Kd.R_base ho45) hb); have n3_ := Aside0.mk (Kd.R_elder' z13_5 (Kd.R_base ho45) hb); have n4_ := Aside0.mk (Kd.R_below z13_14 hb); have n5_ := Aside0.mk (Kd.R_elder' z13_7 (Kd.R_base ho45) hb); have n6_ := Aside0.mk (Kd.R_lower (Kd.R_new' (Kd.R_new' (Kd.R_new' (Kd.R_new' ho45 (Kd.R_lt z13_1)) (Kd.R_lt z13_4)) (Kd.R_lt z13_5)) (Kd.R_lt z13_7)) (below_size z13_0)); have n7_ := Aside0.mk (blk_below (g := gb531) (o := .cells #[.slice (some ad542) t528.length co35] 26 (0, 0)) z13_3 hb); have n8_ := Aside0.mk (Kd.C_below z13_12 hb); have n9_ := Aside0.mk (below_step z13_0 hb); clear HO530; clear HO534; clear HO537; clear HO540; clear HL542_0; clear HO545; clear BK531; clear HR542_0; clear HB; have HO530 := n0_; have HO534 := n1_; have HO537 := n2_; have HO540 := n3_; have HL542_0 := n4_; have HO545 := n5_; have HO549 := n6_; have BK531 := n7_; have HR542_0 := n8_; have HB := n9_; clear n0_ n1_ n2_ n3_ n4_ n5_ n6_ n7_ n8_ n9_; clear hb ho45; obtain ⟨Ao47, co47, eo47⟩ := Kd.R_slice HO534.out; subst eo47) | ((with_reducible refine gate_builtin (b := .append) (xs := #[.tmp 35, .tmp 36]) rfl ?_); (try (refine gate_guard (by rfl) ?_; dsimp only)); at_builtin; refine Kd.R_append_rows (Kd.int .i64) (w0 := w) w.heap.size rfl (.tmp 35) (.tmp 36) 28 3 (.int .i64 0) 8 rfl Try.underlying28 info3 rfl (by decide) (by omega) v548 y547 t532 _ _ _ (fun k_ => some k_ ≠ (.slice Ao47 t532.length co47 : Value).ownBlock ∧ some k_ ≠ (v536 : Value).ownBlock ∧ some k_ ≠ (.slice (some ad541) t538.length co40 : Value).ownBlock ∧ some k_ ≠ (.slice Ao43 t543.length co43 : Value).ownBlock) (fun _ => False) rfl rfl ?aO ?aR (fun _ _ h => h) (fun _ h => h.elim) ?aF ?aB ?aS ?aL ?_; (case aR => repeat (first | exact (Kd.R_reads' HO534.out).2.2 | (with_reducible refine Kd.C_alloc ?_ _) | (with_reducible refine Kd.C_drewN ?_ _) | (with_reducible refine Kd.C_drew ?_))); (case aB => exact z13_0); (case aF => exact (fun k_ hk => ⟨Kd.fresh' (Kd.R_lt z13_1) k_ hk, Kd.fresh' (Kd.R_lt z13_4) k_ hk, Kd.fresh' (Kd.R_lt z13_5) k_ hk, Kd.fresh' (Kd.R_lt z13_7) k_ hk⟩)); (case aO => exact (by (with_reducible repeat (first | apply Kd.R_alloc | apply Kd.R_drewN | apply Kd.R_drew)); exact Kd.R_mono HO549.out (fun _ hk => ⟨hk.1.1.1.2, ⟨hk.1.1.2, ⟨hk.1.2, hk.2⟩⟩⟩))); (case aS => exact (below_size z13_0)); (case aL => have := LMc24.out; omega); intro v551 w46 ho hb hg hat; rw [← Ny550.out] at ho; have n0_ := Aside0.mk (Kd.S_over' z13_6 (Kd.R_typed (by (with_reducible repeat (first | apply Kd.R_alloc | apply Kd.R_drewN | apply Kd.R_drew)); exact HO549.out)) (by decide) hg); have n1_ := Aside0.mk (blk_grown (g := gb531) (o := .cells #[.slice (some ad542) t528.length co35] 26 (0, 0)) z13_3 hg (Kd.R_ne HO549.out BK531.out (by decide))); have n2_ := Aside0.mk (Kd.R_after (ok := (fun k_ => some k_ ≠ (v536 : Value).ownBlock ∧ some k_ ≠ (.slice (some ad541) t538.length co40 : Value).ownBlock ∧ some k_ ≠ (.slice Ao43 t543.length co43 : Value).ownBlock)) z13_1 hg hat); have n3_ := Aside0.mk (Kd.R_after (ok := (fun k_ => some k_ ≠ (.slice Ao47 t532.length co47 : Value).ownBlock ∧ some k_ ≠ (.slice (some ad541) t538.length co40 : Value).ownBlock ∧ some k_ ≠ (.slice Ao43 t543.length co43 : Value).ownBlock)) z13_4 hg hat); have n4_ := Aside0.mk (Kd.R_after (ok := (fun k_ => some k_ ≠ (.slice Ao47 t532.length co47 : Value).ownBlock ∧ some k_ ≠ (v536 : Value).ownBlock ∧ some k_ ≠ (.slice Ao43 t543.length co43 : Value).ownBlock)) z13_5 hg hat); have n5_ := Aside0.mk (Kd.R_over' z13_14 (Kd.R_typed (by (with_reducible repeat (first | apply Kd.R_alloc | apply Kd.R_drewN | apply Kd.R_drew)); exact HO549.out)) (by decide) hg); have n6_ := Aside0.mk (Kd.R_after (ok := (fun k_ => some k_ ≠ (.slice Ao47 t532.length co47 : Value).ownBlock ∧ some k_ ≠ (v536 : Value).ownBlock ∧ some k_ ≠ (.slice (some ad541) t538.length co40 : Value).ownBlock)) z13_7 hg hat); have n7_ := Aside0.mk (hb); have n8_ := Aside0.mk (ho); clear HO530; clear BK531; clear HO534; clear HO537; clear HO540; clear HL542_0; clear HO545; clear HB; clear HO549; have HO530 := n0_; have BK531 := n1_; have HO534 := n2_; have HO537 := n3_; have HO540 := n4_; have HL542_0 := n5_; have HO545 := n6_; have HB := n7_; have HO552 := n8_; clear n0_ n1_ n2_ n3_ n4_ n5_ n6_ n7_ n8_; clear ho hb hg hat; have p553 : 0 ≤ (1 : Int) := (by omega); have q553 : 1 < (t538.length : Int) := of_decide_eq_true z13_8; obtain ⟨ad553, e553, hx553_0⟩ := Kd.at_int (Kd.R_reads' HO540.out).2.2 1 p553 q553; obtain rfl : ad541 = ad553 := (by injection e553); (try simp only [show (1 : Int).toNat = 1 from rfl, Nat.reduceMul, Nat.reduceEqDiff, Go.Addr.add, ↓reduceIte] at hx553_0); have qi553 : (1 < t538.length) = True := eq_true (by omega); (try rw [show ((1 : Int)).toNat = 1 from rfl] at hx553_0); replace p553 := eq_true p553; replace q553 := eq_true q553; have p29 : 0 ≤ ((ji26) : Int) := of_decide_eq_true z13_8; have q29 : ((ji26) : Int) < ((y550.length : Int) : Int) := of_decide_eq_true z13_8; obtain ⟨go29, co29, eo29, gb29, gl29, cl29, HG29⟩ := Kd.R_form HO552.out (by omega); (first | cases eo29 | (injection eo29 with ea_ en_ ec_; (first | subst ea_ | (injection ea_ with ea_; subst ea_)); subst ec_; clear en_)); have GB29 := Aside0.mk gb29; have GG29 := Aside0.mk HG29; clear gb29 gl29 HG29; obtain ⟨hx29_0, hf29_0⟩ := Kd.R_celln 0 HO552.out ((ji26) : Int) p29 q29; replace p29 := eq_true p29; replace q29 := eq_true q29; obtain ⟨hy48_, hz48_⟩ := Kd.R_celln 0 HO552.out ((ji26) : Int) (of_decide_eq_true z13_8) (of_decide_eq_true z13_8); have HP48 := Kd.R_putg HO552.out ((ji26) : Int) (wrap64 ((rd t538 1) - 5000))) | ((with_reducible refine gate_store (t := 3) (p := 44) rfl ?_); refine store_event (t := 3) (p := 44) (v := ?vo_w49) (w1 := (w46.setCell ⟨go29, ((ji26) : Int).toNat, none⟩ (.int .i64 (wrap64 ((rd t538 1) - 5000))))) ?hg ?ho ?hn ?hr ?_; (case ho => rfl); (case hg => rfl); (case hn => rfl); (case hr => exact z13_31); intro w49 hw; have hg : w46.grownBy w49 (some go29) := (by rw [hw]; exact HP48.2); have hp_ : Kd.R (Kd.int .i64) 3 w49 w.heap.size (fun k_ => some k_ ≠ (.slice Ao47 t532.length co47 : Value).ownBlock ∧ some k_ ≠ (v536 : Value).ownBlock ∧ some k_ ≠ (.slice (some ad541) t538.length co40 : Value).ownBlock ∧ some k_ ≠ (.slice Ao43 t543.length co43 : Value).ownBlock) (.slice (some ⟨go29, 0, none⟩) y550.length co29) y554 := (by rw [hw, Ny554.out]; exact HP48.1); clear HP48; have n0_ := Aside0.mk (Kd.S_over' (v := (.slice (some ⟨go29, 0, none⟩) y550.length co29)) z13_6 (Kd.R_typed HO552.out) (by decide) hg); have n1_ := Aside0.mk (blk_grown (g := gb531) (o := .cells #[.slice (some ad542) t528.length co35] 26 (0, 0)) z13_3 hg (Kd.R_ne HO552.out BK531.out (by decide))); have n2_ := Aside0.mk (Kd.R_after (v := (.slice (some ⟨go29, 0, none⟩) y550.length co29)) (v1 := (.slice (some ⟨go29, 0, none⟩) y550.length co29)) (ok := (fun k_ => some k_ ≠ (v536 : Value).ownBlock ∧ some k_ ≠ (.slice (some ad541) t538.length co40 : Value).ownBlock ∧ some k_ ≠ (.slice Ao43 t543.length co43 : Value).ownBlock)) z13_1 hg (.inl rfl)); have n3_ := Aside0.mk (Kd.R_after (v := (.slice (some ⟨go29, 0, none⟩) y550.length co29)) (v1 := (.slice (some ⟨go29, 0, none⟩) y550.length co29)) (ok := (fun k_ => some k_ ≠ (.slice Ao47 t532.length co47 : Value).ownBlock ∧ some k_ ≠ (.slice (some ad541) t538.length co40 : Value).ownBlock ∧ some k_ ≠ (.slice Ao43 t543.length co43 : Value).ownBlock)) z13_4 hg (.inl rfl)); have n4_ := Aside0.mk (Kd.R_after (v := (.slice (some ⟨go29, 0, none⟩) y550.length co29)) (v1 := (.slice (some ⟨go29, 0, none⟩) y550.length co29)) (ok := (fun k_ => some k_ ≠ (.slice Ao47 t532.length co47 : Value).ownBlock ∧ some k_ ≠ (v536 : Value).ownBlock ∧ some k_ ≠ (.slice Ao43 t543.length co43 : Value).ownBlock)) z13_5 hg (.inl rfl)); have n5_ := Aside0.mk (Kd.R_over' (v := (.slice (some ⟨go29, 0, none⟩) y550.length co29)) z13_14 (Kd.R_typed HO552.out) (by decide) hg); have n6_ := Aside0.mk (Kd.R_after (v := (.slice (some ⟨go29, 0, none⟩) y550.length co29)) (v1 := (.slice (some ⟨go29, 0, none⟩) y550.length co29)) (ok := (fun k_ => some k_ ≠ (.slice Ao47 t532.length co47 : Value).ownBlock ∧ some k_ ≠ (v536 : Value).ownBlock ∧ some k_ ≠ (.slice (some ad541) t538.length co40 : Value).ownBlock)) z13_7 hg (.inl rfl)); have n7_ := Aside0.mk (hp_); have n8_ := Aside0.mk ((by rw [hw]; exact below_set (HB.out) GB29.out : Below w.heap.size w w49)); clear HO530; clear BK531; clear HO534; clear HO537; clear HO540; clear HL542_0; clear HO545; clear HO552; clear HB; have HO530 := n0_; have BK531 := n1_; have HO534 := n2_; have HO537 := n3_; have HO540 := n4_; have HL542_0 := n5_; have HO545 := n6_; have HO552 := n7_; have HB := n8_; clear n0_ n1_ n2_ n3_ n4_ n5_ n6_ n7_ n8_; clear hg hw hp_; have hcz50_0 : w49.cell? ⟨gb531, 0, none⟩ = some (.slice (some ad542) t528.length co35) := (blk_cell BK531.out 0).trans rfl; have hfz50_0 := blk_frozen BK531.out 0; obtain ⟨Ao51, co51, eo51⟩ := Kd.R_slice HO537.out; subst eo51) | ((with_reducible refine gate_callee (f := 18) rfl ?_); refine goesL_ (some 49) rfl rfl Try.func18 z13_11 rfl #[.agg #[.slice (some ad542) t528.length co35], .int .i64 0, .slice Ao47 t532.length co47, .slice Ao51 t535.length co51] rfl z13_2 ?_; (with_reducible refine (impl_TaskEffect.calls k _ _ t528 0 _ _ t532 _ _ t535 t555 t558 t561 t562 t563 _ ?side1 ?side2 ?side3 ?side4 ?side5 ?side6 A30.out).mono ?_); (case side1 => repeat (first | exact (Kd.S_reads' HO530.out).2.2 | (with_reducible refine Kd.C_alloc ?_ _) | (with_reducible refine Kd.C_drewN ?_ _) | (with_reducible refine Kd.C_drew ?_))); (case side2 => exact (Kd.S_reads' HO530.out).2.1); (case side3 => repeat (first | exact (Kd.R_reads' HO534.out).2.2 | (with_reducible refine Kd.C_alloc ?_ _) | (with_reducible refine Kd.C_drewN ?_ _) | (with_reducible refine Kd.C_drew ?_))); (case side4 => exact (Kd.R_reads' HO534.out).2.1); (case side5 => repeat (first | exact (Kd.R_reads' HO537.out).2.2 | (with_reducible refine Kd.C_alloc ?_ _) | (with_reducible refine Kd.C_drewN ?_ _) | (with_reducible refine Kd.C_drew ?_))); (case side6 => exact (Kd.R_reads' HO537.out).2.1); rintro e w52 ⟨v556, v559, rfl, ho0, ho1, hb⟩; refine ⟨_, rfl, ?_⟩; have n0_ := Aside0.mk (Kd.S_below z13_6 hb); have n1_ := Aside0.mk (Kd.R_mono (Kd.R_told (Kd.R_told (Kd.R_old z13_1 hb) (Kd.R_base ho0)) (Kd.R_base ho1)) (fun _ h_ => h_.1)); have n2_ := Aside0.mk (Kd.R_mono (Kd.R_told (Kd.R_told (Kd.R_old z13_4 hb) (Kd.R_base ho0)) (Kd.R_base ho1)) (fun _ h_ => h_.1)); have n3_ := Aside0.mk (Kd.R_mono (Kd.R_told (Kd.R_told (Kd.R_old z13_5 hb) (Kd.R_base ho0)) (Kd.R_base ho1)) (fun _ h_ => h_.1)); have n4_ := Aside0.mk (Kd.R_below z13_14 hb); have n5_ := Aside0.mk (Kd.R_mono (Kd.R_told (Kd.R_told (Kd.R_old z13_7 hb) (Kd.R_base ho0)) (Kd.R_base ho1)) (fun _ h_ => h_.1)); have n6_ := Aside0.mk (Kd.R_mono (Kd.R_told (Kd.R_told (Kd.R_old z13_15 hb) (Kd.R_base ho0)) (Kd.R_base ho1)) (fun _ h_ => h_.1)); have n7_ := Aside0.mk (Kd.R_lower (Kd.R_new' (Kd.R_new' (Kd.R_new' (Kd.R_new' (Kd.R_new' ho0 (Kd.R_lt z13_1)) (Kd.R_lt z13_4)) (Kd.R_lt z13_5)) (Kd.R_lt z13_7)) (Kd.R_lt z13_15)) (below_size z13_0)); have n8_ := Aside0.mk (Kd.R_lower (Kd.R_new' (Kd.R_new' (Kd.R_new' (Kd.R_new' (Kd.R_new' ho1 (Kd.R_lt z13_1)) (Kd.R_lt z13_4)) (Kd.R_lt z13_5)) (Kd.R_lt z13_7)) (Kd.R_lt z13_15)) (below_size z13_0)); have n9_ := Aside0.mk (blk_below (g := gb531) (o := .cells #[.slice (some ad542) t528.length co35] 26 (0, 0)) z13_3 hb); have n10_ := Aside0.mk (below_step z13_0 hb); clear HO530; clear HO534; clear HO537; clear HO540; clear HL542_0; clear HO545; clear HO552; clear BK531; clear HB; have HO530 := n0_; have HO534 := n1_; have HO537 := n2_; have HO540 := n3_; have HL542_0 := n4_; have HO545 := n5_; have HO552 := n6_; have HO557 := n7_; have HO560 := n8_; have BK531 := n9_; have HB := n10_; clear n0_ n1_ n2_ n3_ n4_ n5_ n6_ n7_ n8_ n9_ n10_; (try clear hb); (try clear hb2); (try clear hk); (try clear hi); (try clear ho0); (try clear ho1)) | ((with_reducible refine gate_dst (N := 9) rfl ?_); (try (refine gate_guard (by rfl) ?_; dsimp only)); refine box_event ?hg (N := 9) ?hd (cs := #[.slice none 0 0, .slice none 0 0, .int .i64 0, .int .i64 0]) (t := 37) ?hr ?_; (case hd => rfl); (case hg => rfl); (case hr => exact z13_31); intro gb564 hg w53 hbox hb; have n0_ := Aside0.mk (Kd.S_below z13_6 hb); have n1_ := Aside0.mk (Kd.R_below z13_1 hb); have n2_ := Aside0.mk (Kd.R_below z13_4 hb); have n3_ := Aside0.mk (Kd.R_below z13_5 hb); have n4_ := Aside0.mk (Kd.R_below z13_14 hb); have n5_ := Aside0.mk (Kd.R_below z13_7 hb); have n6_ := Aside0.mk (Kd.R_below z13_15 hb); have n7_ := Aside0.mk (Kd.R_below z13_21 hb); have n8_ := Aside0.mk (Kd.R_below z13_20 hb); have n9_ := Aside0.mk (blk_below (g := gb531) (o := .cells #[.slice (some ad542) t528.length co35] 26 (0, 0)) z13_3 hb); have n10_ := Aside0.mk (below_step z13_0 hb); have n11_ := Aside0.mk (hbox); have n12_ := Aside0.mk ((by rw [hg]; exact (below_size z13_0) : w.heap.size ≤ gb564)); have n13_ := Aside0.mk ((by rw [hg]; exact (below_size z13_0) : w.heap.size ≤ gb564)); have n14_ := Aside0.mk ((by rw [hg]; exact Nat.ne_of_lt (blk_lt (g := gb531) (o := .cells #[.slice (some ad542) t528.length co35] 26 (0, 0)) z13_3) : gb531 ≠ gb564)); have n15_ := Aside0.mk ((by rw [hg]; exact Nat.ne_of_gt (blk_lt (g := gb531) (o := .cells #[.slice (some ad542) t528.length co35] 26 (0, 0)) z13_3) : gb564 ≠ gb531)); clear HO530; clear HO534; clear HO537; clear HO540; clear HL542_0; clear HO545; clear HO552; clear HO557; clear HO560; clear BK531; clear HB; have HO530 := n0_; have HO534 := n1_; have HO537 := n2_; have HO540 := n3_; have HL542_0 := n4_; have HO545 := n5_; have HO552 := n6_; have HO557 := n7_; have HO560 := n8_; have BK531 := n9_; have HB := n10_; have BK564 := n11_; have GW564 := n12_; have GE564 := n13_; have NB531_564 := n14_; have NB564_531 := n15_; clear n0_ n1_ n2_ n3_ n4_ n5_ n6_ n7_ n8_ n9_ n10_ n11_ n12_ n13_ n14_ n15_; clear hb hbox hg; obtain ⟨Ao54, co54, eo54⟩ := Kd.R_slice HO557.out; subst eo54; have hnb55 := NB564_531.out; have hnc55 := NB531_564.out; have hcz56_0 : w53.cell? ⟨gb564, 0, none⟩ = some (.slice none 0 0) := (blk_cell BK564.out 0).trans rfl; have hcz56_1 : w53.cell? ⟨gb564, 1, none⟩ = some (.slice none 0 0) := (blk_cell BK564.out 1).trans rfl; have hcz56_2 : w53.cell? ⟨gb564, 2, none⟩ = some (.int .i64 0) := (blk_cell BK564.out 2).trans rfl; have hcz56_3 : w53.cell? ⟨gb564, 3, none⟩ = some (.int .i64 0) := (blk_cell BK564.out 3).trans rfl; have hfz56_0 := blk_frozen BK564.out 0; have hfz56_1 := blk_frozen BK564.out 1; have hfz56_2 := blk_frozen BK564.out 2; have hfz56_3 := blk_frozen BK564.out 3; obtain ⟨Ao57, co57, eo57⟩ := Kd.R_slice HO560.out; subst eo57) | ((with_reducible refine gate_store (t := 37) (p := 9) rfl ?_); refine store_event (t := 37) (p := 9) (v := ?vo_w58) (w1 := ((((w53.setCell ⟨gb564, 0, none⟩ (.slice Ao54 t555.length co54)).setCell ⟨gb564, 1, none⟩ (.slice Ao57 t558.length co57)).setCell ⟨gb564, 2, none⟩ (.int .i64 t561)).setCell ⟨gb564, 3, none⟩ (.int .i64 t562))) ?hg ?ho ?hn ?hr ?_; (case ho => rfl); (case hg => rfl); (case hn => rfl); (case hr => exact z13_31); intro w58 hw; have n0_ : Aside0 (Kd.S k34 34 w58 w.heap.size (fun _ => True) (.slice (some ad542) t528.length co35) t528) := ⟨(by rw [hw]; exact (by (with_reducible repeat (first | apply Kd.S_alloc | apply Kd.S_drewN | apply Kd.S_drew)); exact Kd.S_mono (Kd.S_far (p := ⟨gb564, 3, none⟩) (Kd.S_far (p := ⟨gb564, 2, none⟩) (Kd.S_far (p := ⟨gb564, 1, none⟩) (Kd.S_far (p := ⟨gb564, 0, none⟩) (Kd.S_types HO530.out BK564.out (by decide)) (fun _ hk => hk.2) (.slice Ao54 t555.length co54)) (fun _ hk => hk.2) (.slice Ao57 t558.length co57)) (fun _ hk => hk.2) (.int .i64 t561)) (fun _ hk => hk.2) (.int .i64 t562)) (fun _ hk => trivial)))⟩; have n1_ : Aside0 (Kd.R (Kd.int .i64) 3 w58 w.heap.size (fun k_ => some k_ ≠ (.slice Ao51 t535.length co51 : Value).ownBlock ∧ some k_ ≠ (.slice (some ad541) t538.length co40 : Value).ownBlock ∧ some k_ ≠ (.slice Ao43 t543.length co43 : Value).ownBlock ∧ some k_ ≠ (.slice (some ⟨go29, 0, none⟩) y550.length co29 : Value).ownBlock ∧ some k_ ≠ (.slice Ao54 t555.length co54 : Value).ownBlock ∧ some k_ ≠ (.slice Ao57 t558.length co57 : Value).ownBlock) (.slice Ao47 t532.length co47) t532) := ⟨(by rw [hw]; exact (by (with_reducible repeat (first | apply Kd.R_alloc | apply Kd.R_drewN | apply Kd.R_drew)); exact Kd.R_mono (Kd.R_far (p := ⟨gb564, 3, none⟩) (Kd.R_far (p := ⟨gb564, 2, none⟩) (Kd.R_far (p := ⟨gb564, 1, none⟩) (Kd.R_far (p := ⟨gb564, 0, none⟩) (Kd.R_types HO534.out BK564.out (by decide)) (fun _ hk => hk.2) (.slice Ao54 t555.length co54)) (fun _ hk => hk.2) (.slice Ao57 t558.length co57)) (fun _ hk => hk.2) (.int .i64 t561)) (fun _ hk => hk.2) (.int .i64 t562)) (fun _ hk => ⟨hk.1.1.1.1.1, ⟨hk.1.1.1.1.2.1, ⟨hk.1.1.1.1.2.2, ⟨hk.1.1.1.2, ⟨hk.1.1.2, hk.1.2⟩⟩⟩⟩⟩)))⟩; have n2_ : Aside0 (Kd.R (Kd.int .i64) 3 w58 w.heap.size (fun k_ => some k_ ≠ (.slice Ao47 t532.length co47 : Value).ownBlock ∧ some k_ ≠ (.slice (some ad541) t538.length co40 : Value).ownBlock ∧ some k_ ≠ (.slice Ao43 t543.length co43 : Value).ownBlock ∧ some k_ ≠ (.slice (some ⟨go29, 0, none⟩) y550.length co29 : Value).ownBlock ∧ some k_ ≠ (.slice Ao54 t555.length co54 : Value).ownBlock ∧ some k_ ≠ (.slice Ao57 t558.length co57 : Value).ownBlock) (.slice Ao51 t535.length co51) t535) := ⟨(by rw [hw]; exact (by (with_reducible repeat (first | apply Kd.R_alloc | apply Kd.R_drewN | apply Kd.R_drew)); exact Kd.R_mono (Kd.R_far (p := ⟨gb564, 3, none⟩) (Kd.R_far (p := ⟨gb564, 2, none⟩) (Kd.R_far (p := ⟨gb564, 1, none⟩) (Kd.R_far (p := ⟨gb564, 0, none⟩) (Kd.R_types HO537.out BK564.out (by decide)) (fun _ hk => hk.2) (.slice Ao54 t555.length co54)) (fun _ hk => hk.2) (.slice Ao57 t558.length co57)) (fun _ hk => hk.2) (.int .i64 t561)) (fun _ hk => hk.2) (.int .i64 t562)) (fun _ hk => ⟨hk.1.1.1.1.1, ⟨hk.1.1.1.1.2.1, ⟨hk.1.1.1.1.2.2, ⟨hk.1.1.1.2, ⟨hk.1.1.2, hk.1.2⟩⟩⟩⟩⟩)))⟩; have n3_ : Aside0 (Kd.R (Kd.int .i64) 3 w58 w.heap.size (fun k_ => some k_ ≠ (.slice Ao47 t532.length co47 : Value).ownBlock ∧ some k_ ≠ (.slice Ao51 t535.length co51 : Value).ownBlock ∧ some k_ ≠ (.slice Ao43 t543.length co43 : Value).ownBlock ∧ some k_ ≠ (.slice (some ⟨go29, 0, none⟩) y550.length co29 : Value).ownBlock ∧ some k_ ≠ (.slice Ao54 t555.length co54 : Value).ownBlock ∧ some k_ ≠ (.slice Ao57 t558.length co57 : Value).ownBlock) (.slice (some ad541) t538.length co40) t538) := ⟨(by rw [hw]; exact (by (with_reducible repeat (first | apply Kd.R_alloc | apply Kd.R_drewN | apply Kd.R_drew)); exact Kd.R_mono (Kd.R_far (p := ⟨gb564, 3, none⟩) (Kd.R_far (p := ⟨gb564, 2, none⟩) (Kd.R_far (p := ⟨gb564, 1, none⟩) (Kd.R_far (p := ⟨gb564, 0, none⟩) (Kd.R_types HO540.out BK564.out (by decide)) (fun _ hk => hk.2) (.slice Ao54 t555.length co54)) (fun _ hk => hk.2) (.slice Ao57 t558.length co57)) (fun _ hk => hk.2) (.int .i64 t561)) (fun _ hk => hk.2) (.int .i64 t562)) (fun _ hk => ⟨hk.1.1.1.1.1, ⟨hk.1.1.1.1.2.1, ⟨hk.1.1.1.1.2.2, ⟨hk.1.1.1.2, ⟨hk.1.1.2, hk.1.2⟩⟩⟩⟩⟩)))⟩; have n4_ : Aside0 (Kd.R k77 77 w58 w.heap.size (fun k_ => some k_ ≠ (.slice (some ad542) t528.length co35 : Value).ownBlock) (.slice A542_0 ((rd_T34 t528 0).f0).length c542_0) ((rd_T34 t528 0).f0)) := ⟨(by rw [hw]; exact (by (with_reducible repeat (first | apply Kd.R_alloc | apply Kd.R_drewN | apply Kd.R_drew)); exact Kd.R_mono (Kd.R_far (p := ⟨gb564, 3, none⟩) (Kd.R_far (p := ⟨gb564, 2, none⟩) (Kd.R_far (p := ⟨gb564, 1, none⟩) (Kd.R_far (p := ⟨gb564, 0, none⟩) (Kd.R_types HL542_0.out BK564.out (by decide)) (fun _ hk => hk.2) (.slice Ao54 t555.length co54)) (fun _ hk => hk.2) (.slice Ao57 t558.length co57)) (fun _ hk => hk.2) (.int .i64 t561)) (fun _ hk => hk.2) (.int .i64 t562)) (fun _ hk => hk.1)))⟩; have n5_ : Aside0 (Kd.R (Kd.int .i64) 3 w58 w.heap.size (fun k_ => some k_ ≠ (.slice Ao47 t532.length co47 : Value).ownBlock ∧ some k_ ≠ (.slice Ao51 t535.length co51 : Value).ownBlock ∧ some k_ ≠ (.slice (some ad541) t538.length co40 : Value).ownBlock ∧ some k_ ≠ (.slice (some ⟨go29, 0, none⟩) y550.length co29 : Value).ownBlock ∧ some k_ ≠ (.slice Ao54 t555.length co54 : Value).ownBlock ∧ some k_ ≠ (.slice Ao57 t558.length co57 : Value).ownBlock) (.slice Ao43 t543.length co43) t543) := ⟨(by rw [hw]; exact (by (with_reducible repeat (first | apply Kd.R_alloc | apply Kd.R_drewN | apply Kd.R_drew)); exact Kd.R_mono (Kd.R_far (p := ⟨gb564, 3, none⟩) (Kd.R_far (p := ⟨gb564, 2, none⟩) (Kd.R_far (p := ⟨gb564, 1, none⟩) (Kd.R_far (p := ⟨gb564, 0, none⟩) (Kd.R_types HO545.out BK564.out (by decide)) (fun _ hk => hk.2) (.slice Ao54 t555.length co54)) (fun _ hk => hk.2) (.slice Ao57 t558.length co57)) (fun _ hk => hk.2) (.int .i64 t561)) (fun _ hk => hk.2) (.int .i64 t562)) (fun _ hk => ⟨hk.1.1.1.1.1, ⟨hk.1.1.1.1.2.1, ⟨hk.1.1.1.1.2.2, ⟨hk.1.1.1.2, ⟨hk.1.1.2, hk.1.2⟩⟩⟩⟩⟩)))⟩; have n6_ : Aside0 (Kd.R (Kd.int .i64) 3 w58 w.heap.size (fun k_ => some k_ ≠ (.slice Ao47 t532.length co47 : Value).ownBlock ∧ some k_ ≠ (.slice Ao51 t535.length co51 : Value).ownBlock ∧ some k_ ≠ (.slice (some ad541) t538.length co40 : Value).ownBlock ∧ some k_ ≠ (.slice Ao43 t543.length co43 : Value).ownBlock ∧ some k_ ≠ (.slice Ao54 t555.length co54 : Value).ownBlock ∧ some k_ ≠ (.slice Ao57 t558.length co57 : Value).ownBlock) (.slice (some ⟨go29, 0, none⟩) y550.length co29) y554) := ⟨(by rw [hw]; exact (by (with_reducible repeat (first | apply Kd.R_alloc | apply Kd.R_drewN | apply Kd.R_drew)); exact Kd.R_mono (Kd.R_far (p := ⟨gb564, 3, none⟩) (Kd.R_far (p := ⟨gb564, 2, none⟩) (Kd.R_far (p := ⟨gb564, 1, none⟩) (Kd.R_far (p := ⟨gb564, 0, none⟩) (Kd.R_types HO552.out BK564.out (by decide)) (fun _ hk => hk.2) (.slice Ao54 t555.length co54)) (fun _ hk => hk.2) (.slice Ao57 t558.length co57)) (fun _ hk => hk.2) (.int .i64 t561)) (fun _ hk => hk.2) (.int .i64 t562)) (fun _ hk => ⟨hk.1.1.1.1, ⟨hk.1.1.1.2.1, ⟨hk.1.1.1.2.2.1, ⟨hk.1.1.1.2.2.2, ⟨hk.1.1.2, hk.1.2⟩⟩⟩⟩⟩)))⟩; have n7_ : Aside0 (Kd.R (Kd.int .i64) 3 w58 w.heap.size (fun k_ => some k_ ≠ (.slice Ao47 t532.length co47 : Value).ownBlock ∧ some k_ ≠ (.slice Ao51 t535.length co51 : Value).ownBlock ∧ some k_ ≠ (.slice (some ad541) t538.length co40 : Value).ownBlock ∧ some k_ ≠ (.slice Ao43 t543.length co43 : Value).ownBlock ∧ some k_ ≠ (.slice (some ⟨go29, 0, none⟩) y550.length co29 : Value).ownBlock ∧ some k_ ≠ (.slice Ao57 t558.length co57 : Value).ownBlock) (.slice Ao54 t555.length co54) t555) := ⟨(by rw [hw]; exact (by (with_reducible repeat (first | apply Kd.R_alloc | apply Kd.R_drewN | apply Kd.R_drew)); exact Kd.R_mono (Kd.R_far (p := ⟨gb564, 3, none⟩) (Kd.R_far (p := ⟨gb564, 2, none⟩) (Kd.R_far (p := ⟨gb564, 1, none⟩) (Kd.R_far (p := ⟨gb564, 0, none⟩) (Kd.R_types HO557.out BK564.out (by decide)) (fun _ hk => hk.2) (.slice Ao54 t555.length co54)) (fun _ hk => hk.2) (.slice Ao57 t558.length co57)) (fun _ hk => hk.2) (.int .i64 t561)) (fun _ hk => hk.2) (.int .i64 t562)) (fun _ hk => ⟨hk.1.1.1.1.1.2, ⟨hk.1.1.1.1.2, ⟨hk.1.1.1.2, ⟨hk.1.1.2, ⟨hk.1.2, hk.1.1.1.1.1.1⟩⟩⟩⟩⟩)))⟩; have n8_ : Aside0 (Kd.R (Kd.int .i64) 3 w58 w.heap.size (fun k_ => some k_ ≠ (.slice Ao47 t532.length co47 : Value).ownBlock ∧ some k_ ≠ (.slice Ao51 t535.length co51 : Value).ownBlock ∧ some k_ ≠ (.slice (some ad541) t538.length co40 : Value).ownBlock ∧ some k_ ≠ (.slice Ao43 t543.length co43 : Value).ownBlock ∧ some k_ ≠ (.slice (some ⟨go29, 0, none⟩) y550.length co29 : Value).ownBlock ∧ some k_ ≠ (.slice Ao54 t555.length co54 : Value).ownBlock) (.slice Ao57 t558.length co57) t558) := ⟨(by rw [hw]; exact (by (with_reducible repeat (first | apply Kd.R_alloc | apply Kd.R_drewN | apply Kd.R_drew)); exact Kd.R_mono (Kd.R_far (p := ⟨gb564, 3, none⟩) (Kd.R_far (p := ⟨gb564, 2, none⟩) (Kd.R_far (p := ⟨gb564, 1, none⟩) (Kd.R_far (p := ⟨gb564, 0, none⟩) (Kd.R_types HO560.out BK564.out (by decide)) (fun _ hk => hk.2) (.slice Ao54 t555.length co54)) (fun _ hk => hk.2) (.slice Ao57 t558.length co57)) (fun _ hk => hk.2) (.int .i64 t561)) (fun _ hk => hk.2) (.int .i64 t562)) (fun _ hk => ⟨hk.1.1.1.1.1.2, ⟨hk.1.1.1.1.2, ⟨hk.1.1.1.2, ⟨hk.1.1.2, ⟨hk.1.2, hk.1.1.1.1.1.1⟩⟩⟩⟩⟩)))⟩; have n9_ : Aside0 (w58.heap[gb531]? = some (.cells #[.slice (some ad542) t528.length co35] 26 (0, 0))) := ⟨(by rw [hw]; exact (by (with_reducible repeat (first | refine blk_drewN ?_ _ | refine blk_drew ?_ | refine blk_alloc ?_ _)); refine blk_far ?_ NB531_564.out _; (with_reducible repeat (first | refine blk_drewN ?_ _ | refine blk_drew ?_ | refine blk_alloc ?_ _)); refine blk_far ?_ NB531_564.out _; (with_reducible repeat (first | refine blk_drewN ?_ _ | refine blk_drew ?_ | refine blk_alloc ?_ _)); refine blk_far ?_ NB531_564.out _; (with_reducible repeat (first | refine blk_drewN ?_ _ | refine blk_drew ?_ | refine blk_alloc ?_ _)); refine blk_far ?_ NB531_564.out _; (with_reducible repeat (first | refine blk_drewN ?_ _ | refine blk_drew ?_ | refine blk_alloc ?_ _)); exact BK531.out))⟩; have n10_ : Aside0 (w58.heap[gb564]? = some (.cells #[.slice Ao54 t555.length co54, .slice Ao57 t558.length co57, .int .i64 t561, .int .i64 t562] 37 (0, 0))) := ⟨(by rw [hw]; exact (by (with_reducible repeat (first | refine blk_drewN ?_ _ | refine blk_drew ?_ | refine blk_alloc ?_ _)); refine blk_put (cs := #[.slice Ao54 t555.length co54, .slice Ao57 t558.length co57, .int .i64 t561, .int .i64 0]) ?_ 3 _ rfl; (with_reducible repeat (first | refine blk_drewN ?_ _ | refine blk_drew ?_ | refine blk_alloc ?_ _)); refine blk_put (cs := #[.slice Ao54 t555.length co54, .slice Ao57 t558.length co57, .int .i64 0, .int .i64 0]) ?_ 2 _ rfl; (with_reducible repeat (first | refine blk_drewN ?_ _ | refine blk_drew ?_ | refine blk_alloc ?_ _)); refine blk_put (cs := #[.slice Ao54 t555.length co54, .slice none 0 0, .int .i64 0, .int .i64 0]) ?_ 1 _ rfl; (with_reducible repeat (first | refine blk_drewN ?_ _ | refine blk_drew ?_ | refine blk_alloc ?_ _)); refine blk_put (cs := #[.slice none 0 0, .slice none 0 0, .int .i64 0, .int .i64 0]) ?_ 0 _ rfl; (with_reducible repeat (first | refine blk_drewN ?_ _ | refine blk_drew ?_ | refine blk_alloc ?_ _)); exact BK564.out))⟩; have n11_ : Aside0 (Below w.heap.size w w58) := ⟨(by rw [hw]; exact z13_10)⟩; clear hw; clear HO530; clear HO534; clear HO537; clear HO540; clear HL542_0; clear HO545; clear HO552; clear HO557; clear HO560; clear BK531; clear BK564; clear HB; have HO530 := n0_; have HO534 := n1_; have HO537 := n2_; have HO540 := n3_; have HL542_0 := n4_; have HO545 := n5_; have HO552 := n6_; have HO557 := n7_; have HO560 := n8_; have BK531 := n9_; have BK564 := n10_; have HB := n11_; clear n0_ n1_ n2_ n3_ n4_ n5_ n6_ n7_ n8_ n9_ n10_ n11_; have hcz59_0 : w58.cell? ⟨gb531, 0, none⟩ = some (.slice (some ad542) t528.length co35) := (blk_cell BK531.out 0).trans rfl; have hfz59_0 := blk_frozen BK531.out 0) | ((with_reducible refine gate_callee (f := 18) rfl ?_); refine goesL_ (some 56) rfl rfl Try.func18 z13_11 rfl #[.agg #[.slice (some ad542) t528.length co35], .int .i64 0, .slice (some ⟨go29, 0, none⟩) y554.length co29, .slice Ao51 t535.length co51] rfl (by (try simp only [List.map_toArray, List.map_cons, List.map_nil]); first | done | (rw [show y554.length = y550.length from (Kd.R_reads' HO552.out).1.symm] <;> rfl) | rfl | (simp only [List.length_drop, List.length_take]; rfl)) ?_; (with_reducible refine (impl_TaskEffect.calls k _ _ t528 0 _ _ y554 _ _ t535 t565 t568 t571 t572 t573 _ ?side1 ?side2 ?side3 ?side4 ?side5 ?side6 A31.out).mono ?_); (case side1 => repeat (first | exact (Kd.S_reads' HO530.out).2.2 | (with_reducible refine Kd.C_alloc ?_ _) | (with_reducible refine Kd.C_drewN ?_ _) | (with_reducible refine Kd.C_drew ?_))); (case side2 => exact (Kd.S_reads' HO530.out).2.1); (case side3 => repeat (first | exact (Kd.R_reads' HO552.out).2.2 | (with_reducible refine Kd.C_alloc ?_ _) | (with_reducible refine Kd.C_drewN ?_ _) | (with_reducible refine Kd.C_drew ?_))); (case side4 => rw [show y554.length = y550.length from (Kd.R_reads' HO552.out).1.symm]; exact (Kd.R_reads' HO552.out).2.1); (case side5 => repeat (first | exact (Kd.R_reads' HO537.out).2.2 | (with_reducible refine Kd.C_alloc ?_ _) | (with_reducible refine Kd.C_drewN ?_ _) | (with_reducible refine Kd.C_drew ?_))); (case side6 => exact (Kd.R_reads' HO537.out).2.1); rintro e w60 ⟨v566, v569, rfl, ho0, ho1, hb⟩; refine ⟨_, rfl, ?_⟩; have n0_ := Aside0.mk (Kd.S_below z13_6 hb); have n1_ := Aside0.mk (Kd.R_mono (Kd.R_told (Kd.R_told (Kd.R_old z13_1 hb) (Kd.R_base ho0)) (Kd.R_base ho1)) (fun _ h_ => h_.1)); have n2_ := Aside0.mk (Kd.R_mono (Kd.R_told (Kd.R_told (Kd.R_old z13_4 hb) (Kd.R_base ho0)) (Kd.R_base ho1)) (fun _ h_ => h_.1)); have n3_ := Aside0.mk (Kd.R_mono (Kd.R_told (Kd.R_told (Kd.R_old z13_5 hb) (Kd.R_base ho0)) (Kd.R_base ho1)) (fun _ h_ => h_.1)); have n4_ := Aside0.mk (Kd.R_below z13_14 hb); have n5_ := Aside0.mk (Kd.R_mono (Kd.R_told (Kd.R_told (Kd.R_old z13_7 hb) (Kd.R_base ho0)) (Kd.R_base ho1)) (fun _ h_ => h_.1)); have n6_ := Aside0.mk (Kd.R_mono (Kd.R_told (Kd.R_told (Kd.R_old z13_15 hb) (Kd.R_base ho0)) (Kd.R_base ho1)) (fun _ h_ => h_.1)); have n7_ := Aside0.mk (Kd.R_mono (Kd.R_told (Kd.R_told (Kd.R_old z13_21 hb) (Kd.R_base ho0)) (Kd.R_base ho1)) (fun _ h_ => h_.1)); have n8_ := Aside0.mk (Kd.R_mono (Kd.R_told (Kd.R_told (Kd.R_old z13_20 hb) (Kd.R_base ho0)) (Kd.R_base ho1)) (fun _ h_ => h_.1)); have n9_ := Aside0.mk (Kd.R_lower (Kd.R_new' (Kd.R_new' (Kd.R_new' (Kd.R_new' (Kd.R_new' (Kd.R_new' (Kd.R_new' ho0 (Kd.R_lt z13_1)) (Kd.R_lt z13_4)) (Kd.R_lt z13_5)) (Kd.R_lt z13_7)) (Kd.R_lt z13_15)) (Kd.R_lt z13_21)) (Kd.R_lt z13_20)) (below_size z13_10)); have n10_ := Aside0.mk (Kd.R_lower (Kd.R_new' (Kd.R_new' (Kd.R_new' (Kd.R_new' (Kd.R_new' (Kd.R_new' (Kd.R_new' ho1 (Kd.R_lt z13_1)) (Kd.R_lt z13_4)) (Kd.R_lt z13_5)) (Kd.R_lt z13_7)) (Kd.R_lt z13_15)) (Kd.R_lt z13_21)) (Kd.R_lt z13_20)) (below_size z13_10)); have n11_ := Aside0.mk (blk_below (g := gb531) (o := .cells #[.slice (some ad542) t528.length co35] 26 (0, 0)) z13_3 hb); have n12_ := Aside0.mk (blk_below (g := gb564) (o := .cells #[.slice Ao54 t555.length co54, .slice Ao57 t558.length co57, .int .i64 t561, .int .i64 t562] 37 (0, 0)) z13_18 hb); have n13_ := Aside0.mk (below_step z13_10 hb); clear HO530; clear HO534; clear HO537; clear HO540; clear HL542_0; clear HO545; clear HO552; clear HO557; clear HO560; clear BK531; clear BK564; clear HB; have HO530 := n0_; have HO534 := n1_; have HO537 := n2_; have HO540 := n3_; have HL542_0 := n4_; have HO545 := n5_; have HO552 := n6_; have HO557 := n7_; have HO560 := n8_; have HO567 := n9_; have HO570 := n10_; have BK531 := n11_; have BK564 := n12_; have HB := n13_; clear n0_ n1_ n2_ n3_ n4_ n5_ n6_ n7_ n8_ n9_ n10_ n11_ n12_ n13_; (try clear hb); (try clear hb2); (try clear hk); (try clear hi); (try clear ho0); (try clear ho1)) | ((with_reducible refine gate_dst (N := 11) rfl ?_); (try (refine gate_guard (by rfl) ?_; dsimp only)); refine box_event ?hg (N := 11) ?hd (cs := #[.slice none 0 0, .slice none 0 0, .int .i64 0, .int .i64 0]) (t := 37) ?hr ?_; (case hd => rfl); (case hg => rfl); (case hr => exact z13_31); intro gb574 hg w61 hbox hb; have n0_ := Aside0.mk (Kd.S_below z13_6 hb); have n1_ := Aside0.mk (Kd.R_below z13_1 hb); have n2_ := Aside0.mk (Kd.R_below z13_4 hb); have n3_ := Aside0.mk (Kd.R_below z13_5 hb); have n4_ := Aside0.mk (Kd.R_below z13_14 hb); have n5_ := Aside0.mk (Kd.R_below z13_7 hb); have n6_ := Aside0.mk (Kd.R_below z13_15 hb); have n7_ := Aside0.mk (Kd.R_below z13_21 hb); have n8_ := Aside0.mk (Kd.R_below z13_20 hb); have n9_ := Aside0.mk (Kd.R_below (by (with_reducible repeat (first | apply Kd.R_alloc | apply Kd.R_drewN | apply Kd.R_drew)); exact HO567.out) hb); have n10_ := Aside0.mk (Kd.R_below (by (with_reducible repeat (first | apply Kd.R_alloc | apply Kd.R_drewN | apply Kd.R_drew)); exact HO570.out) hb); have n11_ := Aside0.mk (blk_below (g := gb531) (o := .cells #[.slice (some ad542) t528.length co35] 26 (0, 0)) z13_3 hb); have n12_ := Aside0.mk (blk_below (g := gb564) (o := .cells #[.slice Ao54 t555.length co54, .slice Ao57 t558.length co57, .int .i64 t561, .int .i64 t562] 37 (0, 0)) z13_18 hb); have n13_ := Aside0.mk (below_step z13_10 hb); have n14_ := Aside0.mk (hbox); have n15_ := Aside0.mk ((by rw [hg]; exact (below_size z13_10) : w.heap.size ≤ gb574)); have n16_ := Aside0.mk ((by rw [hg]; exact (below_size z13_10) : w.heap.size ≤ gb574)); have n17_ := Aside0.mk ((by rw [hg]; exact Nat.ne_of_lt (blk_lt (g := gb531) (o := .cells #[.slice (some ad542) t528.length co35] 26 (0, 0)) z13_3) : gb531 ≠ gb574)); have n18_ := Aside0.mk ((by rw [hg]; exact Nat.ne_of_gt (blk_lt (g := gb531) (o := .cells #[.slice (some ad542) t528.length co35] 26 (0, 0)) z13_3) : gb574 ≠ gb531)); have n19_ := Aside0.mk ((by rw [hg]; exact Nat.ne_of_lt (blk_lt (g := gb564) (o := .cells #[.slice Ao54 t555.length co54, .slice Ao57 t558.length co57, .int .i64 t561, .int .i64 t562] 37 (0, 0)) z13_18) : gb564 ≠ gb574)); have n20_ := Aside0.mk ((by rw [hg]; exact Nat.ne_of_gt (blk_lt (g := gb564) (o := .cells #[.slice Ao54 t555.length co54, .slice Ao57 t558.length co57, .int .i64 t561, .int .i64 t562] 37 (0, 0)) z13_18) : gb574 ≠ gb564)); clear HO530; clear HO534; clear HO537; clear HO540; clear HL542_0; clear HO545; clear HO552; clear HO557; clear HO560; clear HO567; clear HO570; clear BK531; clear BK564; clear HB; have HO530 := n0_; have HO534 := n1_; have HO537 := n2_; have HO540 := n3_; have HL542_0 := n4_; have HO545 := n5_; have HO552 := n6_; have HO557 := n7_; have HO560 := n8_; have HO567 := n9_; have HO570 := n10_; have BK531 := n11_; have BK564 := n12_; have HB := n13_; have BK574 := n14_; have GW574 := n15_; have GE574 := n16_; have NB531_574 := n17_; have NB574_531 := n18_; have NB564_574 := n19_; have NB574_564 := n20_; clear n0_ n1_ n2_ n3_ n4_ n5_ n6_ n7_ n8_ n9_ n10_ n11_ n12_ n13_ n14_ n15_ n16_ n17_ n18_ n19_ n20_; clear hb hbox hg; obtain ⟨Ao62, co62, eo62⟩ := Kd.R_slice HO567.out; subst eo62; have hnb63 := NB574_531.out; have hnc63 := NB531_574.out; have hnb64 := NB574_564.out; have hnc64 := NB564_574.out; have hcz65_0 : w61.cell? ⟨gb574, 0, none⟩ = some (.slice none 0 0) := (blk_cell BK574.out 0).trans rfl; have hcz65_1 : w61.cell? ⟨gb574, 1, none⟩ = some (.slice none 0 0) := (blk_cell BK574.out 1).trans rfl; have hcz65_2 : w61.cell? ⟨gb574, 2, none⟩ = some (.int .i64 0) := (blk_cell BK574.out 2).trans rfl; have hcz65_3 : w61.cell? ⟨gb574, 3, none⟩ = some (.int .i64 0) := (blk_cell BK574.out 3).trans rfl; have hfz65_0 := blk_frozen BK574.out 0; have hfz65_1 := blk_frozen BK574.out 1; have hfz65_2 := blk_frozen BK574.out 2; have hfz65_3 := blk_frozen BK574.out 3; obtain ⟨Ao66, co66, eo66⟩ := Kd.R_slice HO570.out; subst eo66) | ((with_reducible refine gate_store (t := 37) (p := 11) rfl ?_); refine store_event (t := 37) (p := 11) (v := ?vo_w67) (w1 := ((((w61.setCell ⟨gb574, 0, none⟩ (.slice Ao62 t565.length co62)).setCell ⟨gb574, 1, none⟩ (.slice Ao66 t568.length co66)).setCell ⟨gb574, 2, none⟩ (.int .i64 t571)).setCell ⟨gb574, 3, none⟩ (.int .i64 t572))) ?hg ?ho ?hn ?hr ?_; (case ho => rfl); (case hg => rfl); (case hn => rfl); (case hr => exact z13_31); intro w67 hw; have n0_ : Aside0 (Kd.S k34 34 w67 w.heap.size (fun _ => True) (.slice (some ad542) t528.length co35) t528) := ⟨(by rw [hw]; exact (by (with_reducible repeat (first | apply Kd.S_alloc | apply Kd.S_drewN | apply Kd.S_drew)); exact Kd.S_mono (Kd.S_far (p := ⟨gb574, 3, none⟩) (Kd.S_far (p := ⟨gb574, 2, none⟩) (Kd.S_far (p := ⟨gb574, 1, none⟩) (Kd.S_far (p := ⟨gb574, 0, none⟩) (Kd.S_types HO530.out BK574.out (by decide)) (fun _ hk => hk.2) (.slice Ao62 t565.length co62)) (fun _ hk => hk.2) (.slice Ao66 t568.length co66)) (fun _ hk => hk.2) (.int .i64 t571)) (fun _ hk => hk.2) (.int .i64 t572)) (fun _ hk => trivial)))⟩; have n1_ : Aside0 (Kd.R (Kd.int .i64) 3 w67 w.heap.size (fun k_ => some k_ ≠ (.slice Ao51 t535.length co51 : Value).ownBlock ∧ some k_ ≠ (.slice (some ad541) t538.length co40 : Value).ownBlock ∧ some k_ ≠ (.slice Ao43 t543.length co43 : Value).ownBlock ∧ some k_ ≠ (.slice (some ⟨go29, 0, none⟩) y550.length co29 : Value).ownBlock ∧ some k_ ≠ (.slice Ao54 t555.length co54 : Value).ownBlock ∧ some k_ ≠ (.slice Ao57 t558.length co57 : Value).ownBlock ∧ some k_ ≠ (.slice Ao62 t565.length co62 : Value).ownBlock ∧ some k_ ≠ (.slice Ao66 t568.length co66 : Value).ownBlock) (.slice Ao47 t532.length co47) t532) := ⟨(by rw [hw]; exact (by (with_reducible repeat (first | apply Kd.R_alloc | apply Kd.R_drewN | apply Kd.R_drew)); exact Kd.R_mono (Kd.R_far (p := ⟨gb574, 3, none⟩) (Kd.R_far (p := ⟨gb574, 2, none⟩) (Kd.R_far (p := ⟨gb574, 1, none⟩) (Kd.R_far (p := ⟨gb574, 0, none⟩) (Kd.R_types HO534.out BK574.out (by decide)) (fun _ hk => hk.2) (.slice Ao62 t565.length co62)) (fun _ hk => hk.2) (.slice Ao66 t568.length co66)) (fun _ hk => hk.2) (.int .i64 t571)) (fun _ hk => hk.2) (.int .i64 t572)) (fun _ hk => ⟨hk.1.1.1.1, ⟨hk.1.1.1.2.1, ⟨hk.1.1.1.2.2.1, ⟨hk.1.1.1.2.2.2.1, ⟨hk.1.1.1.2.2.2.2.1, ⟨hk.1.1.1.2.2.2.2.2, ⟨hk.1.1.2, hk.1.2⟩⟩⟩⟩⟩⟩⟩)))⟩; have n2_ : Aside0 (Kd.R (Kd.int .i64) 3 w67 w.heap.size (fun k_ => some k_ ≠ (.slice Ao47 t532.length co47 : Value).ownBlock ∧ some k_ ≠ (.slice (some ad541) t538.length co40 : Value).ownBlock ∧ some k_ ≠ (.slice Ao43 t543.length co43 : Value).ownBlock ∧ some k_ ≠ (.slice (some ⟨go29, 0, none⟩) y550.length co29 : Value).ownBlock ∧ some k_ ≠ (.slice Ao54 t555.length co54 : Value).ownBlock ∧ some k_ ≠ (.slice Ao57 t558.length co57 : Value).ownBlock ∧ some k_ ≠ (.slice Ao62 t565.length co62 : Value).ownBlock ∧ some k_ ≠ (.slice Ao66 t568.length co66 : Value).ownBlock) (.slice Ao51 t535.length co51) t535) := ⟨(by rw [hw]; exact (by (with_reducible repeat (first | apply Kd.R_alloc | apply Kd.R_drewN | apply Kd.R_drew)); exact Kd.R_mono (Kd.R_far (p := ⟨gb574, 3, none⟩) (Kd.R_far (p := ⟨gb574, 2, none⟩) (Kd.R_far (p := ⟨gb574, 1, none⟩) (Kd.R_far (p := ⟨gb574, 0, none⟩) (Kd.R_types HO537.out BK574.out (by decide)) (fun _ hk => hk.2) (.slice Ao62 t565.length co62)) (fun _ hk => hk.2) (.slice Ao66 t568.length co66)) (fun _ hk => hk.2) (.int .i64 t571)) (fun _ hk => hk.2) (.int .i64 t572)) (fun _ hk => ⟨hk.1.1.1.1, ⟨hk.1.1.1.2.1, ⟨hk.1.1.1.2.2.1, ⟨hk.1.1.1.2.2.2.1, ⟨hk.1.1.1.2.2.2.2.1, ⟨hk.1.1.1.2.2.2.2.2, ⟨hk.1.1.2, hk.1.2⟩⟩⟩⟩⟩⟩⟩)))⟩; have n3_ : Aside0 (Kd.R (Kd.int .i64) 3 w67 w.heap.size (fun k_ => some k_ ≠ (.slice Ao47 t532.length co47 : Value).ownBlock ∧ some k_ ≠ (.slice Ao51 t535.length co51 : Value).ownBlock ∧ some k_ ≠ (.slice Ao43 t543.length co43 : Value).ownBlock ∧ some k_ ≠ (.slice (some ⟨go29, 0, none⟩) y550.length co29 : Value).ownBlock ∧ some k_ ≠ (.slice Ao54 t555.length co54 : Value).ownBlock ∧ some k_ ≠ (.slice Ao57 t558.length co57 : Value).ownBlock ∧ some k_ ≠ (.slice Ao62 t565.length co62 : Value).ownBlock ∧ some k_ ≠ (.slice Ao66 t568.length co66 : Value).ownBlock) (.slice (some ad541) t538.length co40) t538) := ⟨(by rw [hw]; exact (by (with_reducible repeat (first | apply Kd.R_alloc | apply Kd.R_drewN | apply Kd.R_drew)); exact Kd.R_mono (Kd.R_far (p := ⟨gb574, 3, none⟩) (Kd.R_far (p := ⟨gb574, 2, none⟩) (Kd.R_far (p := ⟨gb574, 1, none⟩) (Kd.R_far (p := ⟨gb574, 0, none⟩) (Kd.R_types HO540.out BK574.out (by decide)) (fun _ hk => hk.2) (.slice Ao62 t565.length co62)) (fun _ hk => hk.2) (.slice Ao66 t568.length co66)) (fun _ hk => hk.2) (.int .i64 t571)) (fun _ hk => hk.2) (.int .i64 t572)) (fun _ hk => ⟨hk.1.1.1.1, ⟨hk.1.1.1.2.1, ⟨hk.1.1.1.2.2.1, ⟨hk.1.1.1.2.2.2.1, ⟨hk.1.1.1.2.2.2.2.1, ⟨hk.1.1.1.2.2.2.2.2, ⟨hk.1.1.2, hk.1.2⟩⟩⟩⟩⟩⟩⟩)))⟩; have n4_ : Aside0 (Kd.R k77 77 w67 w.heap.size (fun k_ => some k_ ≠ (.slice (some ad542) t528.length co35 : Value).ownBlock) (.slice A542_0 ((rd_T34 t528 0).f0).length c542_0) ((rd_T34 t528 0).f0)) := ⟨(by rw [hw]; exact (by (with_reducible repeat (first | apply Kd.R_alloc | apply Kd.R_drewN | apply Kd.R_drew)); exact Kd.R_mono (Kd.R_far (p := ⟨gb574, 3, none⟩) (Kd.R_far (p := ⟨gb574, 2, none⟩) (Kd.R_far (p := ⟨gb574, 1, none⟩) (Kd.R_far (p := ⟨gb574, 0, none⟩) (Kd.R_types HL542_0.out BK574.out (by decide)) (fun _ hk => hk.2) (.slice Ao62 t565.length co62)) (fun _ hk => hk.2) (.slice Ao66 t568.length co66)) (fun _ hk => hk.2) (.int .i64 t571)) (fun _ hk => hk.2) (.int .i64 t572)) (fun _ hk => hk.1)))⟩; have n5_ : Aside0 (Kd.R (Kd.int .i64) 3 w67 w.heap.size (fun k_ => some k_ ≠ (.slice Ao47 t532.length co47 : Value).ownBlock ∧ some k_ ≠ (.slice Ao51 t535.length co51 : Value).ownBlock ∧ some k_ ≠ (.slice (some ad541) t538.length co40 : Value).ownBlock ∧ some k_ ≠ (.slice (some ⟨go29, 0, none⟩) y550.length co29 : Value).ownBlock ∧ some k_ ≠ (.slice Ao54 t555.length co54 : Value).ownBlock ∧ some k_ ≠ (.slice Ao57 t558.length co57 : Value).ownBlock ∧ some k_ ≠ (.slice Ao62 t565.length co62 : Value).ownBlock ∧ some k_ ≠ (.slice Ao66 t568.length co66 : Value).ownBlock) (.slice Ao43 t543.length co43) t543) := ⟨(by rw [hw]; exact (by (with_reducible repeat (first | apply Kd.R_alloc | apply Kd.R_drewN | apply Kd.R_drew)); exact Kd.R_mono (Kd.R_far (p := ⟨gb574, 3, none⟩) (Kd.R_far (p := ⟨gb574, 2, none⟩) (Kd.R_far (p := ⟨gb574, 1, none⟩) (Kd.R_far (p := ⟨gb574, 0, none⟩) (Kd.R_types HO545.out BK574.out (by decide)) (fun _ hk => hk.2) (.slice Ao62 t565.length co62)) (fun _ hk => hk.2) (.slice Ao66 t568.length co66)) (fun _ hk => hk.2) (.int .i64 t571)) (fun _ hk => hk.2) (.int .i64 t572)) (fun _ hk => ⟨hk.1.1.1.1, ⟨hk.1.1.1.2.1, ⟨hk.1.1.1.2.2.1, ⟨hk.1.1.1.2.2.2.1, ⟨hk.1.1.1.2.2.2.2.1, ⟨hk.1.1.1.2.2.2.2.2, ⟨hk.1.1.2, hk.1.2⟩⟩⟩⟩⟩⟩⟩)))⟩; have n6_ : Aside0 (Kd.R (Kd.int .i64) 3 w67 w.heap.size (fun k_ => some k_ ≠ (.slice Ao47 t532.length co47 : Value).ownBlock ∧ some k_ ≠ (.slice Ao51 t535.length co51 : Value).ownBlock ∧ some k_ ≠ (.slice (some ad541) t538.length co40 : Value).ownBlock ∧ some k_ ≠ (.slice Ao43 t543.length co43 : Value).ownBlock ∧ some k_ ≠ (.slice Ao54 t555.length co54 : Value).ownBlock ∧ some k_ ≠ (.slice Ao57 t558.length co57 : Value).ownBlock ∧ some k_ ≠ (.slice Ao62 t565.length co62 : Value).ownBlock ∧ some k_ ≠ (.slice Ao66 t568.length co66 : Value).ownBlock) (.slice (some ⟨go29, 0, none⟩) y550.length co29) y554) := ⟨(by rw [hw]; exact (by (with_reducible repeat (first | apply Kd.R_alloc | apply Kd.R_drewN | apply Kd.R_drew)); exact Kd.R_mono (Kd.R_far (p := ⟨gb574, 3, none⟩) (Kd.R_far (p := ⟨gb574, 2, none⟩) (Kd.R_far (p := ⟨gb574, 1, none⟩) (Kd.R_far (p := ⟨gb574, 0, none⟩) (Kd.R_types HO552.out BK574.out (by decide)) (fun _ hk => hk.2) (.slice Ao62 t565.length co62)) (fun _ hk => hk.2) (.slice Ao66 t568.length co66)) (fun _ hk => hk.2) (.int .i64 t571)) (fun _ hk => hk.2) (.int .i64 t572)) (fun _ hk => ⟨hk.1.1.1.1, ⟨hk.1.1.1.2.1, ⟨hk.1.1.1.2.2.1, ⟨hk.1.1.1.2.2.2.1, ⟨hk.1.1.1.2.2.2.2.1, ⟨hk.1.1.1.2.2.2.2.2, ⟨hk.1.1.2, hk.1.2⟩⟩⟩⟩⟩⟩⟩)))⟩; have n7_ : Aside0 (Kd.R (Kd.int .i64) 3 w67 w.heap.size (fun k_ => some k_ ≠ (.slice Ao47 t532.length co47 : Value).ownBlock ∧ some k_ ≠ (.slice Ao51 t535.length co51 : Value).ownBlock ∧ some k_ ≠ (.slice (some ad541) t538.length co40 : Value).ownBlock ∧ some k_ ≠ (.slice Ao43 t543.length co43 : Value).ownBlock ∧ some k_ ≠ (.slice (some ⟨go29, 0, none⟩) y550.length co29 : Value).ownBlock ∧ some k_ ≠ (.slice Ao57 t558.length co57 : Value).ownBlock ∧ some k_ ≠ (.slice Ao62 t565.length co62 : Value).ownBlock ∧ some k_ ≠ (.slice Ao66 t568.length co66 : Value).ownBlock) (.slice Ao54 t555.length co54) t555) := ⟨(by rw [hw]; exact (by (with_reducible repeat (first | apply Kd.R_alloc | apply Kd.R_drewN | apply Kd.R_drew)); exact Kd.R_mono (Kd.R_far (p := ⟨gb574, 3, none⟩) (Kd.R_far (p := ⟨gb574, 2, none⟩) (Kd.R_far (p := ⟨gb574, 1, none⟩) (Kd.R_far (p := ⟨gb574, 0, none⟩) (Kd.R_types HO557.out BK574.out (by decide)) (fun _ hk => hk.2) (.slice Ao62 t565.length co62)) (fun _ hk => hk.2) (.slice Ao66 t568.length co66)) (fun _ hk => hk.2) (.int .i64 t571)) (fun _ hk => hk.2) (.int .i64 t572)) (fun _ hk => ⟨hk.1.1.1.1, ⟨hk.1.1.1.2.1, ⟨hk.1.1.1.2.2.1, ⟨hk.1.1.1.2.2.2.1, ⟨hk.1.1.1.2.2.2.2.1, ⟨hk.1.1.1.2.2.2.2.2, ⟨hk.1.1.2, hk.1.2⟩⟩⟩⟩⟩⟩⟩)))⟩; have n8_ : Aside0 (Kd.R (Kd.int .i64) 3 w67 w.heap.size (fun k_ => some k_ ≠ (.slice Ao47 t532.length co47 : Value).ownBlock ∧ some k_ ≠ (.slice Ao51 t535.length co51 : Value).ownBlock ∧ some k_ ≠ (.slice (some ad541) t538.length co40 : Value).ownBlock ∧ some k_ ≠ (.slice Ao43 t543.length co43 : Value).ownBlock ∧ some k_ ≠ (.slice (some ⟨go29, 0, none⟩) y550.length co29 : Value).ownBlock ∧ some k_ ≠ (.slice Ao54 t555.length co54 : Value).ownBlock ∧ some k_ ≠ (.slice Ao62 t565.length co62 : Value).ownBlock ∧ some k_ ≠ (.slice Ao66 t568.length co66 : Value).ownBlock) (.slice Ao57 t558.length co57) t558) := ⟨(by rw [hw]; exact (by (with_reducible repeat (first | apply Kd.R_alloc | apply Kd.R_drewN | apply Kd.R_drew)); exact Kd.R_mono (Kd.R_far (p := ⟨gb574, 3, none⟩) (Kd.R_far (p := ⟨gb574, 2, none⟩) (Kd.R_far (p := ⟨gb574, 1, none⟩) (Kd.R_far (p := ⟨gb574, 0, none⟩) (Kd.R_types HO560.out BK574.out (by decide)) (fun _ hk => hk.2) (.slice Ao62 t565.length co62)) (fun _ hk => hk.2) (.slice Ao66 t568.length co66)) (fun _ hk => hk.2) (.int .i64 t571)) (fun _ hk => hk.2) (.int .i64 t572)) (fun _ hk => ⟨hk.1.1.1.1, ⟨hk.1.1.1.2.1, ⟨hk.1.1.1.2.2.1, ⟨hk.1.1.1.2.2.2.1, ⟨hk.1.1.1.2.2.2.2.1, ⟨hk.1.1.1.2.2.2.2.2, ⟨hk.1.1.2, hk.1.2⟩⟩⟩⟩⟩⟩⟩)))⟩; have n9_ : Aside0 (Kd.R (Kd.int .i64) 3 w67 w.heap.size (fun k_ => some k_ ≠ (.slice Ao47 t532.length co47 : Value).ownBlock ∧ some k_ ≠ (.slice Ao51 t535.length co51 : Value).ownBlock ∧ some k_ ≠ (.slice (some ad541) t538.length co40 : Value).ownBlock ∧ some k_ ≠ (.slice Ao43 t543.length co43 : Value).ownBlock ∧ some k_ ≠ (.slice (some ⟨go29, 0, none⟩) y550.length co29 : Value).ownBlock ∧ some k_ ≠ (.slice Ao54 t555.length co54 : Value).ownBlock ∧ some k_ ≠ (.slice Ao57 t558.length co57 : Value).ownBlock ∧ some k_ ≠ (.slice Ao66 t568.length co66 : Value).ownBlock) (.slice Ao62 t565.length co62) t565) := ⟨(by rw [hw]; exact (by (with_reducible repeat (first | apply Kd.R_alloc | apply Kd.R_drewN | apply Kd.R_drew)); exact Kd.R_mono (Kd.R_far (p := ⟨gb574, 3, none⟩) (Kd.R_far (p := ⟨gb574, 2, none⟩) (Kd.R_far (p := ⟨gb574, 1, none⟩) (Kd.R_far (p := ⟨gb574, 0, none⟩) (Kd.R_types HO567.out BK574.out (by decide)) (fun _ hk => hk.2) (.slice Ao62 t565.length co62)) (fun _ hk => hk.2) (.slice Ao66 t568.length co66)) (fun _ hk => hk.2) (.int .i64 t571)) (fun _ hk => hk.2) (.int .i64 t572)) (fun _ hk => ⟨hk.1.1.1.1.1.1.1.2, ⟨hk.1.1.1.1.1.1.2, ⟨hk.1.1.1.1.1.2, ⟨hk.1.1.1.1.2, ⟨hk.1.1.1.2, ⟨hk.1.1.2, ⟨hk.1.2, hk.1.1.1.1.1.1.1.1⟩⟩⟩⟩⟩⟩⟩)))⟩; have n10_ : Aside0 (Kd.R (Kd.int .i64) 3 w67 w.heap.size (fun k_ => some k_ ≠ (.slice Ao47 t532.length co47 : Value).ownBlock ∧ some k_ ≠ (.slice Ao51 t535.length co51 : Value).ownBlock ∧ some k_ ≠ (.slice (some ad541) t538.length co40 : Value).ownBlock ∧ some k_ ≠ (.slice Ao43 t543.length co43 : Value).ownBlock ∧ some k_ ≠ (.slice (some ⟨go29, 0, none⟩) y550.length co29 : Value).ownBlock ∧ some k_ ≠ (.slice Ao54 t555.length co54 : Value).ownBlock ∧ some k_ ≠ (.slice Ao57 t558.length co57 : Value).ownBlock ∧ some k_ ≠ (.slice Ao62 t565.length co62 : Value).ownBlock) (.slice Ao66 t568.length co66) t568) := ⟨(by rw [hw]; exact (by (with_reducible repeat (first | apply Kd.R_alloc | apply Kd.R_drewN | apply Kd.R_drew)); exact Kd.R_mono (Kd.R_far (p := ⟨gb574, 3, none⟩) (Kd.R_far (p := ⟨gb574, 2, none⟩) (Kd.R_far (p := ⟨gb574, 1, none⟩) (Kd.R_far (p := ⟨gb574, 0, none⟩) (Kd.R_types HO570.out BK574.out (by decide)) (fun _ hk => hk.2) (.slice Ao62 t565.length co62)) (fun _ hk => hk.2) (.slice Ao66 t568.length co66)) (fun _ hk => hk.2) (.int .i64 t571)) (fun _ hk => hk.2) (.int .i64 t572)) (fun _ hk => ⟨hk.1.1.1.1.1.1.1.2, ⟨hk.1.1.1.1.1.1.2, ⟨hk.1.1.1.1.1.2, ⟨hk.1.1.1.1.2, ⟨hk.1.1.1.2, ⟨hk.1.1.2, ⟨hk.1.2, hk.1.1.1.1.1.1.1.1⟩⟩⟩⟩⟩⟩⟩)))⟩; have n11_ : Aside0 (w67.heap[gb531]? = some (.cells #[.slice (some ad542) t528.length co35] 26 (0, 0))) := ⟨(by rw [hw]; exact (by (with_reducible repeat (first | refine blk_drewN ?_ _ | refine blk_drew ?_ | refine blk_alloc ?_ _)); refine blk_far ?_ NB531_574.out _; (with_reducible repeat (first | refine blk_drewN ?_ _ | refine blk_drew ?_ | refine blk_alloc ?_ _)); refine blk_far ?_ NB531_574.out _; (with_reducible repeat (first | refine blk_drewN ?_ _ | refine blk_drew ?_ | refine blk_alloc ?_ _)); refine blk_far ?_ NB531_574.out _; (with_reducible repeat (first | refine blk_drewN ?_ _ | refine blk_drew ?_ | refine blk_alloc ?_ _)); refine blk_far ?_ NB531_574.out _; (with_reducible repeat (first | refine blk_drewN ?_ _ | refine blk_drew ?_ | refine blk_alloc ?_ _)); exact BK531.out))⟩; have n12_ : Aside0 (w67.heap[gb564]? = some (.cells #[.slice Ao54 t555.length co54, .slice Ao57 t558.length co57, .int .i64 t561, .int .i64 t562] 37 (0, 0))) := ⟨(by rw [hw]; exact (by (with_reducible repeat (first | refine blk_drewN ?_ _ | refine blk_drew ?_ | refine blk_alloc ?_ _)); refine blk_far ?_ NB564_574.out _; (with_reducible repeat (first | refine blk_drewN ?_ _ | refine blk_drew ?_ | refine blk_alloc ?_ _)); refine blk_far ?_ NB564_574.out _; (with_reducible repeat (first | refine blk_drewN ?_ _ | refine blk_drew ?_ | refine blk_alloc ?_ _)); refine blk_far ?_ NB564_574.out _; (with_reducible repeat (first | refine blk_drewN ?_ _ | refine blk_drew ?_ | refine blk_alloc ?_ _)); refine blk_far ?_ NB564_574.out _; (with_reducible repeat (first | refine blk_drewN ?_ _ | refine blk_drew ?_ | refine blk_alloc ?_ _)); exact BK564.out))⟩; have n13_ : Aside0 (w67.heap[gb574]? = some (.cells #[.slice Ao62 t565.length co62, .slice Ao66 t568.length co66, .int .i64 t571, .int .i64 t572] 37 (0, 0))) := ⟨(by rw [hw]; exact (by (with_reducible repeat (first | refine blk_drewN ?_ _ | refine blk_drew ?_ | refine blk_alloc ?_ _)); refine blk_put (cs := #[.slice Ao62 t565.length co62, .slice Ao66 t568.length co66, .int .i64 t571, .int .i64 0]) ?_ 3 _ rfl; (with_reducible repeat (first | refine blk_drewN ?_ _ | refine blk_drew ?_ | refine blk_alloc ?_ _)); refine blk_put (cs := #[.slice Ao62 t565.length co62, .slice Ao66 t568.length co66, .int .i64 0, .int .i64 0]) ?_ 2 _ rfl; (with_reducible repeat (first | refine blk_drewN ?_ _ | refine blk_drew ?_ | refine blk_alloc ?_ _)); refine blk_put (cs := #[.slice Ao62 t565.length co62, .slice none 0 0, .int .i64 0, .int .i64 0]) ?_ 1 _ rfl; (with_reducible repeat (first | refine blk_drewN ?_ _ | refine blk_drew ?_ | refine blk_alloc ?_ _)); refine blk_put (cs := #[.slice none 0 0, .slice none 0 0, .int .i64 0, .int .i64 0]) ?_ 0 _ rfl; (with_reducible repeat (first | refine blk_drewN ?_ _ | refine blk_drew ?_ | refine blk_alloc ?_ _)); exact BK574.out))⟩; have n14_ : Aside0 (Below w.heap.size w w67) := ⟨(by rw [hw]; exact z13_13)⟩; clear hw; clear HO530; clear HO534; clear HO537; clear HO540; clear HL542_0; clear HO545; clear HO552; clear HO557; clear HO560; clear HO567; clear HO570; clear BK531; clear BK564; clear BK574; clear HB; have HO530 := n0_; have HO534 := n1_; have HO537 := n2_; have HO540 := n3_; have HL542_0 := n4_; have HO545 := n5_; have HO552 := n6_; have HO557 := n7_; have HO560 := n8_; have HO567 := n9_; have HO570 := n10_; have BK531 := n11_; have BK564 := n12_; have BK574 := n13_; have HB := n14_; clear n0_ n1_ n2_ n3_ n4_ n5_ n6_ n7_ n8_ n9_ n10_ n11_ n12_ n13_ n14_))
                  (try simp only [Act.put, List.setIfInBounds_toArray, List.set_cons_zero, List.set_cons_succ])
                  go_cut [98] (fun v98 wc => ∃ (kq : Nat) (x98_31 : Bool), v98 = .bool x98_31 ∧ Aside0 (laws_FnReadsFirst.j0 kq ji26 x98_31 t528 t555 t558 t561 t562 t565 t568 t571 t572 = some r) ∧ Aside0 (kq ≤ k) ∧ Aside0 (Kd.S k34 34 wc w.heap.size (fun _ => True) (.slice (some ad542) t528.length co35) t528) ∧ Aside0 (Kd.R (Kd.int .i64) 3 wc w.heap.size (fun k_ => some k_ ≠ ((.slice Ao57 t558.length co57) : Value).ownBlock ∧ some k_ ≠ ((.slice Ao62 t565.length co62) : Value).ownBlock ∧ some k_ ≠ ((.slice Ao66 t568.length co66) : Value).ownBlock) (.slice Ao54 t555.length co54) t555) ∧ Aside0 (Kd.R (Kd.int .i64) 3 wc w.heap.size (fun k_ => some k_ ≠ ((.slice Ao54 t555.length co54) : Value).ownBlock ∧ some k_ ≠ ((.slice Ao62 t565.length co62) : Value).ownBlock ∧ some k_ ≠ ((.slice Ao66 t568.length co66) : Value).ownBlock) (.slice Ao57 t558.length co57) t558) ∧ Aside0 (Kd.R (Kd.int .i64) 3 wc w.heap.size (fun k_ => some k_ ≠ ((.slice Ao54 t555.length co54) : Value).ownBlock ∧ some k_ ≠ ((.slice Ao57 t558.length co57) : Value).ownBlock ∧ some k_ ≠ ((.slice Ao66 t568.length co66) : Value).ownBlock) (.slice Ao62 t565.length co62) t565) ∧ Aside0 (Kd.R (Kd.int .i64) 3 wc w.heap.size (fun k_ => some k_ ≠ ((.slice Ao54 t555.length co54) : Value).ownBlock ∧ some k_ ≠ ((.slice Ao57 t558.length co57) : Value).ownBlock ∧ some k_ ≠ ((.slice Ao62 t565.length co62) : Value).ownBlock) (.slice Ao66 t568.length co66) t568) ∧ Aside0 (wc.heap[gb531]? = some (.cells #[(.slice (some ad542) t528.length co35)] 26 (0, 0))) ∧ Aside0 (wc.heap[gb564]? = some (.cells #[(.slice Ao54 t555.length co54), (.slice Ao57 t558.length co57), .int .i64 t561, .int .i64 t562] 37 (0, 0))) ∧ Aside0 (wc.heap[gb574]? = some (.cells #[(.slice Ao62 t565.length co62), (.slice Ao66 t568.length co66), .int .i64 t571, .int .i64 t572] 37 (0, 0))) ∧ Aside0 (Below w.heap.size w wc))
                  case first =>
                    have H := HC32.out
                    clear HC32
                    by_cases c68 : t563 = true
                    · subst c68
                      have H1 : (if t573 = true then (if (t555.length : Int) = 8 then (if (t565.length : Int) = 8 then ((laws_sameInts.f k t558 t568).bind fun t575 => (if t575 = true then (if t561 = t571 then (laws_FnReadsFirst.j0 k ji26 (t562 != t572) t528 t555 t558 t561 t562 t565 t568 t571 t572) else (laws_FnReadsFirst.j0 k ji26 true t528 t555 t558 t561 t562 t565 t568 t571 t572)) else (laws_FnReadsFirst.j0 k ji26 true t528 t555 t558 t561 t562 t565 t568 t571 t572))) else (laws_FnReadsFirst.j0 k ji26 true t528 t555 t558 t561 t562 t565 t568 t571 t572)) else (laws_FnReadsFirst.j0 k ji26 true t528 t555 t558 t561 t562 t565 t568 t571 t572)) else (laws_FnReadsFirst.j0 k ji26 true t528 t555 t558 t561 t562 t565 t568 t571 t572)) = some r := by rw [if_pos rfl] at H; exact H
                      clear H
                      have H := H1
                      clear H1
                      by_cases c69 : t573 = true
                      · subst c69
                        have H1 : (if (t555.length : Int) = 8 then (if (t565.length : Int) = 8 then ((laws_sameInts.f k t558 t568).bind fun t575 => (if t575 = true then (if t561 = t571 then (laws_FnReadsFirst.j0 k ji26 (t562 != t572) t528 t555 t558 t561 t562 t565 t568 t571 t572) else (laws_FnReadsFirst.j0 k ji26 true t528 t555 t558 t561 t562 t565 t568 t571 t572)) else (laws_FnReadsFirst.j0 k ji26 true t528 t555 t558 t561 t562 t565 t568 t571 t572))) else (laws_FnReadsFirst.j0 k ji26 true t528 t555 t558 t561 t562 t565 t568 t571 t572)) else (laws_FnReadsFirst.j0 k ji26 true t528 t555 t558 t561 t562 t565 t568 t571 t572)) = some r := by rw [if_pos rfl] at H; exact H
                        clear H
                        have H := H1
                        clear H1
                        by_cases c70 : (t555.length : Int) = 8
                        · rw [if_pos c70] at H
                          have c70b0 : ((t555.length : Int) == 8) = true := beq_iff_eq.mpr c70
                          have c70b1 : ((t555.length : Int) != 8) = false := bne_eq_false_iff_eq.mpr c70
                          clear c70
                          (first | rw [c70b0] | (simp only [i64_w, i32_w]; rw [c70b0]) | skip)
                          by_cases c71 : (t565.length : Int) = 8
                          · rw [if_pos c71] at H
                            have c71b0 : ((t565.length : Int) == 8) = true := beq_iff_eq.mpr c71
                            have c71b1 : ((t565.length : Int) != 8) = false := bne_eq_false_iff_eq.mpr c71
                            clear c71
                            replace H := Option.bind_eq_some_iff.mp H
                            obtain ⟨t575, A720, H⟩ := H
                            replace H : (if t575 = true then (if t561 = t571 then (laws_FnReadsFirst.j0 k ji26 (t562 != t572) t528 t555 t558 t561 t562 t565 t568 t571 t572) else (laws_FnReadsFirst.j0 k ji26 true t528 t555 t558 t561 t562 t565 t568 t571 t572)) else (laws_FnReadsFirst.j0 k ji26 true t528 t555 t558 t561 t562 t565 t568 t571 t572)) = some r := H
                            have A72 := Aside0.mk A720
                            clear A720
                            by_cases c73 : t575 = true
                            · subst c73
                              have H1 : (if t561 = t571 then (laws_FnReadsFirst.j0 k ji26 (t562 != t572) t528 t555 t558 t561 t562 t565 t568 t571 t572) else (laws_FnReadsFirst.j0 k ji26 true t528 t555 t558 t561 t562 t565 t568 t571 t572)) = some r := by rw [if_pos rfl] at H; exact H
                              clear H
                              have H := H1
                              clear H1
                              by_cases c74 : t561 = t571
                              · rw [if_pos c74] at H
                                have c74b0 : (t561 == t571) = true := beq_iff_eq.mpr c74
                                have c74b1 : (t561 != t571) = false := bne_eq_false_iff_eq.mpr c74
                                clear c74
                                have H' := Aside0.mk H
                                clear H
                                have hnb75 := NB564_531.out
                                have hnc75 := NB531_564.out
                                have hnb76 := NB564_574.out
                                have hnc76 := NB574_564.out
                                have hcz77_0 : w67.cell? ⟨gb564, 0, none⟩ = some (.slice Ao54 t555.length co54) := (blk_cell BK564.out 0).trans rfl
                                have hcz77_1 : w67.cell? ⟨gb564, 1, none⟩ = some (.slice Ao57 t558.length co57) := (blk_cell BK564.out 1).trans rfl
                                have hcz77_2 : w67.cell? ⟨gb564, 2, none⟩ = some (.int .i64 t561) := (blk_cell BK564.out 2).trans rfl
                                have hcz77_3 : w67.cell? ⟨gb564, 3, none⟩ = some (.int .i64 t562) := (blk_cell BK564.out 3).trans rfl
                                have hfz77_0 := blk_frozen BK564.out 0
                                have hfz77_1 := blk_frozen BK564.out 1
                                have hfz77_2 := blk_frozen BK564.out 2
                                have hfz77_3 := blk_frozen BK564.out 3
                                have hnb78 := NB574_531.out
                                have hnc78 := NB531_574.out
                                have hcz79_0 : w67.cell? ⟨gb574, 0, none⟩ = some (.slice Ao62 t565.length co62) := (blk_cell BK574.out 0).trans rfl
                                have hcz79_1 : w67.cell? ⟨gb574, 1, none⟩ = some (.slice Ao66 t568.length co66) := (blk_cell BK574.out 1).trans rfl
                                have hcz79_2 : w67.cell? ⟨gb574, 2, none⟩ = some (.int .i64 t571) := (blk_cell BK574.out 2).trans rfl
                                have hcz79_3 : w67.cell? ⟨gb574, 3, none⟩ = some (.int .i64 t572) := (blk_cell BK574.out 3).trans rfl
                                have hfz79_0 := blk_frozen BK574.out 0
                                have hfz79_1 := blk_frozen BK574.out 1
                                have hfz79_2 := blk_frozen BK574.out 2
                                have hfz79_3 := blk_frozen BK574.out 3
                                go_wp2_with (first | (go_at_call 49; (with_reducible refine (laws_sameInts.calls k _ _ t558 _ _ t568 true _ ?side1 ?side2 ?side3 ?side4 A72.out).mono ?_); (case side1 => exact z13_24); (case side2 => exact (Kd.R_reads' HO560.out).2.1); (case side3 => exact z13_23); (case side4 => exact (Kd.R_reads' HO570.out).2.1); rintro e w' ⟨rfl, ⟨nd, rfl⟩⟩))
                                go_meet
                                case rel => exact ⟨_, ((t562 != t572)), z13_22, H', ⟨by first | omega | exact Nat.le_refl _⟩, ⟨by (with_reducible repeat (first | apply Kd.S_alloc | apply Kd.S_drewN | apply Kd.S_drew)); exact HO530.out⟩, ⟨by (with_reducible repeat (first | apply Kd.R_alloc | apply Kd.R_drewN | apply Kd.R_drew)); exact Kd.R_mono HO557.out (fun _ hk => ⟨hk.2.2.2.2.2.1, ⟨hk.2.2.2.2.2.2.1, hk.2.2.2.2.2.2.2⟩⟩)⟩, ⟨by (with_reducible repeat (first | apply Kd.R_alloc | apply Kd.R_drewN | apply Kd.R_drew)); exact Kd.R_mono HO560.out (fun _ hk => ⟨hk.2.2.2.2.2.1, ⟨hk.2.2.2.2.2.2.1, hk.2.2.2.2.2.2.2⟩⟩)⟩, ⟨by (with_reducible repeat (first | apply Kd.R_alloc | apply Kd.R_drewN | apply Kd.R_drew)); exact Kd.R_mono HO567.out (fun _ hk => ⟨hk.2.2.2.2.2.1, ⟨hk.2.2.2.2.2.2.1, hk.2.2.2.2.2.2.2⟩⟩)⟩, ⟨by (with_reducible repeat (first | apply Kd.R_alloc | apply Kd.R_drewN | apply Kd.R_drew)); exact Kd.R_mono HO570.out (fun _ hk => ⟨hk.2.2.2.2.2.1, ⟨hk.2.2.2.2.2.2.1, hk.2.2.2.2.2.2.2⟩⟩)⟩, ⟨by (with_reducible repeat (first | refine blk_drewN ?_ _ | refine blk_drew ?_ | refine blk_alloc ?_ _)); exact BK531.out⟩, ⟨by (with_reducible repeat (first | refine blk_drewN ?_ _ | refine blk_drew ?_ | refine blk_alloc ?_ _)); exact BK564.out⟩, ⟨by (with_reducible repeat (first | refine blk_drewN ?_ _ | refine blk_drew ?_ | refine blk_alloc ?_ _)); exact BK574.out⟩, ⟨by repeat (first | (with_reducible first | exact HB.out | apply below_alloc | apply pw_below_drewN | apply below_drew1 | refine below_set ?_ GE531.out | refine below_set ?_ GE564.out | refine below_set ?_ GE574.out) | exact HB.out)⟩⟩
                              · rw [if_neg c74] at H
                                have c74b0 : (t561 == t571) = false := beq_eq_false_iff_ne.mpr c74
                                have c74b1 : (t561 != t571) = true := bne_iff_ne.mpr c74
                                have H' := Aside0.mk H
                                clear H
                                have hnb80 := NB564_531.out
                                have hnc80 := NB531_564.out
                                have hnb81 := NB564_574.out
                                have hnc81 := NB574_564.out
                                have hcz82_0 : w67.cell? ⟨gb564, 0, none⟩ = some (.slice Ao54 t555.length co54) := (blk_cell BK564.out 0).trans rfl
                                have hcz82_1 : w67.cell? ⟨gb564, 1, none⟩ = some (.slice Ao57 t558.length co57) := (blk_cell BK564.out 1).trans rfl
                                have hcz82_2 : w67.cell? ⟨gb564, 2, none⟩ = some (.int .i64 t561) := (blk_cell BK564.out 2).trans rfl
                                have hcz82_3 : w67.cell? ⟨gb564, 3, none⟩ = some (.int .i64 t562) := (blk_cell BK564.out 3).trans rfl
                                have hfz82_0 := blk_frozen BK564.out 0
                                have hfz82_1 := blk_frozen BK564.out 1
                                have hfz82_2 := blk_frozen BK564.out 2
                                have hfz82_3 := blk_frozen BK564.out 3
                                have hnb83 := NB574_531.out
                                have hnc83 := NB531_574.out
                                have hcz84_0 : w67.cell? ⟨gb574, 0, none⟩ = some (.slice Ao62 t565.length co62) := (blk_cell BK574.out 0).trans rfl
                                have hcz84_1 : w67.cell? ⟨gb574, 1, none⟩ = some (.slice Ao66 t568.length co66) := (blk_cell BK574.out 1).trans rfl
                                have hcz84_2 : w67.cell? ⟨gb574, 2, none⟩ = some (.int .i64 t571) := (blk_cell BK574.out 2).trans rfl
                                have hcz84_3 : w67.cell? ⟨gb574, 3, none⟩ = some (.int .i64 t572) := (blk_cell BK574.out 3).trans rfl
                                have hfz84_0 := blk_frozen BK574.out 0
                                have hfz84_1 := blk_frozen BK574.out 1
                                have hfz84_2 := blk_frozen BK574.out 2
                                have hfz84_3 := blk_frozen BK574.out 3
                                go_wp2_with (first | (go_at_call 49; (with_reducible refine (laws_sameInts.calls k _ _ t558 _ _ t568 true _ ?side1 ?side2 ?side3 ?side4 A72.out).mono ?_); (case side1 => exact z13_24); (case side2 => exact (Kd.R_reads' HO560.out).2.1); (case side3 => exact z13_23); (case side4 => exact (Kd.R_reads' HO570.out).2.1); rintro e w' ⟨rfl, ⟨nd, rfl⟩⟩))
                                go_meet
                                case rel => exact ⟨_, (true), z13_22, H', ⟨by first | omega | exact Nat.le_refl _⟩, ⟨by (with_reducible repeat (first | apply Kd.S_alloc | apply Kd.S_drewN | apply Kd.S_drew)); exact HO530.out⟩, ⟨by (with_reducible repeat (first | apply Kd.R_alloc | apply Kd.R_drewN | apply Kd.R_drew)); exact Kd.R_mono HO557.out (fun _ hk => ⟨hk.2.2.2.2.2.1, ⟨hk.2.2.2.2.2.2.1, hk.2.2.2.2.2.2.2⟩⟩)⟩, ⟨by (with_reducible repeat (first | apply Kd.R_alloc | apply Kd.R_drewN | apply Kd.R_drew)); exact Kd.R_mono HO560.out (fun _ hk => ⟨hk.2.2.2.2.2.1, ⟨hk.2.2.2.2.2.2.1, hk.2.2.2.2.2.2.2⟩⟩)⟩, ⟨by (with_reducible repeat (first | apply Kd.R_alloc | apply Kd.R_drewN | apply Kd.R_drew)); exact Kd.R_mono HO567.out (fun _ hk => ⟨hk.2.2.2.2.2.1, ⟨hk.2.2.2.2.2.2.1, hk.2.2.2.2.2.2.2⟩⟩)⟩, ⟨by (with_reducible repeat (first | apply Kd.R_alloc | apply Kd.R_drewN | apply Kd.R_drew)); exact Kd.R_mono HO570.out (fun _ hk => ⟨hk.2.2.2.2.2.1, ⟨hk.2.2.2.2.2.2.1, hk.2.2.2.2.2.2.2⟩⟩)⟩, ⟨by (with_reducible repeat (first | refine blk_drewN ?_ _ | refine blk_drew ?_ | refine blk_alloc ?_ _)); exact BK531.out⟩, ⟨by (with_reducible repeat (first | refine blk_drewN ?_ _ | refine blk_drew ?_ | refine blk_alloc ?_ _)); exact BK564.out⟩, ⟨by (with_reducible repeat (first | refine blk_drewN ?_ _ | refine blk_drew ?_ | refine blk_alloc ?_ _)); exact BK574.out⟩, ⟨by repeat (first | (with_reducible first | exact HB.out | apply below_alloc | apply pw_below_drewN | apply below_drew1 | refine below_set ?_ GE531.out | refine below_set ?_ GE564.out | refine below_set ?_ GE574.out) | exact HB.out)⟩⟩
                            · replace c73 := Bool.eq_false_iff.mpr c73
                              subst c73
                              have H1 : (laws_FnReadsFirst.j0 k ji26 true t528 t555 t558 t561 t562 t565 t568 t571 t572) = some r := by rw [if_neg (show ¬ (false = true) by decide)] at H; exact H
                              clear H
                              have H := H1
                              clear H1
                              have H' := Aside0.mk H
                              clear H
                              have hnb85 := NB564_531.out
                              have hnc85 := NB531_564.out
                              have hnb86 := NB564_574.out
                              have hnc86 := NB574_564.out
                              have hcz87_0 : w67.cell? ⟨gb564, 0, none⟩ = some (.slice Ao54 t555.length co54) := (blk_cell BK564.out 0).trans rfl
                              have hcz87_1 : w67.cell? ⟨gb564, 1, none⟩ = some (.slice Ao57 t558.length co57) := (blk_cell BK564.out 1).trans rfl
                              have hcz87_2 : w67.cell? ⟨gb564, 2, none⟩ = some (.int .i64 t561) := (blk_cell BK564.out 2).trans rfl
                              have hcz87_3 : w67.cell? ⟨gb564, 3, none⟩ = some (.int .i64 t562) := (blk_cell BK564.out 3).trans rfl
                              have hfz87_0 := blk_frozen BK564.out 0
                              have hfz87_1 := blk_frozen BK564.out 1
                              have hfz87_2 := blk_frozen BK564.out 2
                              have hfz87_3 := blk_frozen BK564.out 3
                              have hnb88 := NB574_531.out
                              have hnc88 := NB531_574.out
                              have hcz89_0 : w67.cell? ⟨gb574, 0, none⟩ = some (.slice Ao62 t565.length co62) := (blk_cell BK574.out 0).trans rfl
                              have hcz89_1 : w67.cell? ⟨gb574, 1, none⟩ = some (.slice Ao66 t568.length co66) := (blk_cell BK574.out 1).trans rfl
                              have hcz89_2 : w67.cell? ⟨gb574, 2, none⟩ = some (.int .i64 t571) := (blk_cell BK574.out 2).trans rfl
                              have hcz89_3 : w67.cell? ⟨gb574, 3, none⟩ = some (.int .i64 t572) := (blk_cell BK574.out 3).trans rfl
                              have hfz89_0 := blk_frozen BK574.out 0
                              have hfz89_1 := blk_frozen BK574.out 1
                              have hfz89_2 := blk_frozen BK574.out 2
                              have hfz89_3 := blk_frozen BK574.out 3
                              go_wp2_with (first | (go_at_call 49; (with_reducible refine (laws_sameInts.calls k _ _ t558 _ _ t568 false _ ?side1 ?side2 ?side3 ?side4 A72.out).mono ?_); (case side1 => exact z13_24); (case side2 => exact (Kd.R_reads' HO560.out).2.1); (case side3 => exact z13_23); (case side4 => exact (Kd.R_reads' HO570.out).2.1); rintro e w' ⟨rfl, ⟨nd, rfl⟩⟩))
                              go_meet
                              case rel => exact ⟨_, (true), z13_22, H', ⟨by first | omega | exact Nat.le_refl _⟩, ⟨by (with_reducible repeat (first | apply Kd.S_alloc | apply Kd.S_drewN | apply Kd.S_drew)); exact HO530.out⟩, ⟨by (with_reducible repeat (first | apply Kd.R_alloc | apply Kd.R_drewN | apply Kd.R_drew)); exact Kd.R_mono HO557.out (fun _ hk => ⟨hk.2.2.2.2.2.1, ⟨hk.2.2.2.2.2.2.1, hk.2.2.2.2.2.2.2⟩⟩)⟩, ⟨by (with_reducible repeat (first | apply Kd.R_alloc | apply Kd.R_drewN | apply Kd.R_drew)); exact Kd.R_mono HO560.out (fun _ hk => ⟨hk.2.2.2.2.2.1, ⟨hk.2.2.2.2.2.2.1, hk.2.2.2.2.2.2.2⟩⟩)⟩, ⟨by (with_reducible repeat (first | apply Kd.R_alloc | apply Kd.R_drewN | apply Kd.R_drew)); exact Kd.R_mono HO567.out (fun _ hk => ⟨hk.2.2.2.2.2.1, ⟨hk.2.2.2.2.2.2.1, hk.2.2.2.2.2.2.2⟩⟩)⟩, ⟨by (with_reducible repeat (first | apply Kd.R_alloc | apply Kd.R_drewN | apply Kd.R_drew)); exact Kd.R_mono HO570.out (fun _ hk => ⟨hk.2.2.2.2.2.1, ⟨hk.2.2.2.2.2.2.1, hk.2.2.2.2.2.2.2⟩⟩)⟩, ⟨by (with_reducible repeat (first | refine blk_drewN ?_ _ | refine blk_drew ?_ | refine blk_alloc ?_ _)); exact BK531.out⟩, ⟨by (with_reducible repeat (first | refine blk_drewN ?_ _ | refine blk_drew ?_ | refine blk_alloc ?_ _)); exact BK564.out⟩, ⟨by (with_reducible repeat (first | refine blk_drewN ?_ _ | refine blk_drew ?_ | refine blk_alloc ?_ _)); exact BK574.out⟩, ⟨by repeat (first | (with_reducible first | exact HB.out | apply below_alloc | apply pw_below_drewN | apply below_drew1 | refine below_set ?_ GE531.out | refine below_set ?_ GE564.out | refine below_set ?_ GE574.out) | exact HB.out)⟩⟩
                          · rw [if_neg c71] at H
                            have c71b0 : ((t565.length : Int) == 8) = false := beq_eq_false_iff_ne.mpr c71
                            have c71b1 : ((t565.length : Int) != 8) = true := bne_iff_ne.mpr c71
                            have H' := Aside0.mk H
                            clear H
                            have hnb90 := NB564_531.out
                            have hnc90 := NB531_564.out
                            have hnb91 := NB564_574.out
                            have hnc91 := NB574_564.out
                            have hcz92_0 : w67.cell? ⟨gb564, 0, none⟩ = some (.slice Ao54 t555.length co54) := (blk_cell BK564.out 0).trans rfl
                            have hcz92_1 : w67.cell? ⟨gb564, 1, none⟩ = some (.slice Ao57 t558.length co57) := (blk_cell BK564.out 1).trans rfl
                            have hcz92_2 : w67.cell? ⟨gb564, 2, none⟩ = some (.int .i64 t561) := (blk_cell BK564.out 2).trans rfl
                            have hcz92_3 : w67.cell? ⟨gb564, 3, none⟩ = some (.int .i64 t562) := (blk_cell BK564.out 3).trans rfl
                            have hfz92_0 := blk_frozen BK564.out 0
                            have hfz92_1 := blk_frozen BK564.out 1
                            have hfz92_2 := blk_frozen BK564.out 2
                            have hfz92_3 := blk_frozen BK564.out 3
                            have hnb93 := NB574_531.out
                            have hnc93 := NB531_574.out
                            have hcz94_0 : w67.cell? ⟨gb574, 0, none⟩ = some (.slice Ao62 t565.length co62) := (blk_cell BK574.out 0).trans rfl
                            have hcz94_1 : w67.cell? ⟨gb574, 1, none⟩ = some (.slice Ao66 t568.length co66) := (blk_cell BK574.out 1).trans rfl
                            have hcz94_2 : w67.cell? ⟨gb574, 2, none⟩ = some (.int .i64 t571) := (blk_cell BK574.out 2).trans rfl
                            have hcz94_3 : w67.cell? ⟨gb574, 3, none⟩ = some (.int .i64 t572) := (blk_cell BK574.out 3).trans rfl
                            have hfz94_0 := blk_frozen BK574.out 0
                            have hfz94_1 := blk_frozen BK574.out 1
                            have hfz94_2 := blk_frozen BK574.out 2
                            have hfz94_3 := blk_frozen BK574.out 3
                            go_wp2
                            go_meet
                            case rel => exact ⟨_, (true), z13_22, H', ⟨by first | omega | exact Nat.le_refl _⟩, ⟨by (with_reducible repeat (first | apply Kd.S_alloc | apply Kd.S_drewN | apply Kd.S_drew)); exact HO530.out⟩, ⟨by (with_reducible repeat (first | apply Kd.R_alloc | apply Kd.R_drewN | apply Kd.R_drew)); exact Kd.R_mono HO557.out (fun _ hk => ⟨hk.2.2.2.2.2.1, ⟨hk.2.2.2.2.2.2.1, hk.2.2.2.2.2.2.2⟩⟩)⟩, ⟨by (with_reducible repeat (first | apply Kd.R_alloc | apply Kd.R_drewN | apply Kd.R_drew)); exact Kd.R_mono HO560.out (fun _ hk => ⟨hk.2.2.2.2.2.1, ⟨hk.2.2.2.2.2.2.1, hk.2.2.2.2.2.2.2⟩⟩)⟩, ⟨by (with_reducible repeat (first | apply Kd.R_alloc | apply Kd.R_drewN | apply Kd.R_drew)); exact Kd.R_mono HO567.out (fun _ hk => ⟨hk.2.2.2.2.2.1, ⟨hk.2.2.2.2.2.2.1, hk.2.2.2.2.2.2.2⟩⟩)⟩, ⟨by (with_reducible repeat (first | apply Kd.R_alloc | apply Kd.R_drewN | apply Kd.R_drew)); exact Kd.R_mono HO570.out (fun _ hk => ⟨hk.2.2.2.2.2.1, ⟨hk.2.2.2.2.2.2.1, hk.2.2.2.2.2.2.2⟩⟩)⟩, ⟨by (with_reducible repeat (first | refine blk_drewN ?_ _ | refine blk_drew ?_ | refine blk_alloc ?_ _)); exact BK531.out⟩, ⟨by (with_reducible repeat (first | refine blk_drewN ?_ _ | refine blk_drew ?_ | refine blk_alloc ?_ _)); exact BK564.out⟩, ⟨by (with_reducible repeat (first | refine blk_drewN ?_ _ | refine blk_drew ?_ | refine blk_alloc ?_ _)); exact BK574.out⟩, ⟨by repeat (first | (with_reducible first | exact HB.out | apply below_alloc | apply pw_below_drewN | apply below_drew1 | refine below_set ?_ GE531.out | refine below_set ?_ GE564.out | refine below_set ?_ GE574.out) | exact HB.out)⟩⟩
                        · rw [if_neg c70] at H
                          have c70b0 : ((t555.length : Int) == 8) = false := beq_eq_false_iff_ne.mpr c70
                          have c70b1 : ((t555.length : Int) != 8) = true := bne_iff_ne.mpr c70
                          (first | rw [c70b0] | (simp only [i64_w, i32_w]; rw [c70b0]) | skip)
                          have H' := Aside0.mk H
                          clear H
                          have hnb95 := NB564_531.out
                          have hnc95 := NB531_564.out
                          have hnb96 := NB564_574.out
                          have hnc96 := NB574_564.out
                          have hcz97_0 : w67.cell? ⟨gb564, 0, none⟩ = some (.slice Ao54 t555.length co54) := (blk_cell BK564.out 0).trans rfl
                          have hcz97_1 : w67.cell? ⟨gb564, 1, none⟩ = some (.slice Ao57 t558.length co57) := (blk_cell BK564.out 1).trans rfl
                          have hcz97_2 : w67.cell? ⟨gb564, 2, none⟩ = some (.int .i64 t561) := (blk_cell BK564.out 2).trans rfl
                          have hcz97_3 : w67.cell? ⟨gb564, 3, none⟩ = some (.int .i64 t562) := (blk_cell BK564.out 3).trans rfl
                          have hfz97_0 := blk_frozen BK564.out 0
                          have hfz97_1 := blk_frozen BK564.out 1
                          have hfz97_2 := blk_frozen BK564.out 2
                          have hfz97_3 := blk_frozen BK564.out 3
                          go_wp2
                          go_meet
                          case rel => exact ⟨_, (true), z13_22, H', ⟨by first | omega | exact Nat.le_refl _⟩, ⟨by (with_reducible repeat (first | apply Kd.S_alloc | apply Kd.S_drewN | apply Kd.S_drew)); exact HO530.out⟩, ⟨by (with_reducible repeat (first | apply Kd.R_alloc | apply Kd.R_drewN | apply Kd.R_drew)); exact Kd.R_mono HO557.out (fun _ hk => ⟨hk.2.2.2.2.2.1, ⟨hk.2.2.2.2.2.2.1, hk.2.2.2.2.2.2.2⟩⟩)⟩, ⟨by (with_reducible repeat (first | apply Kd.R_alloc | apply Kd.R_drewN | apply Kd.R_drew)); exact Kd.R_mono HO560.out (fun _ hk => ⟨hk.2.2.2.2.2.1, ⟨hk.2.2.2.2.2.2.1, hk.2.2.2.2.2.2.2⟩⟩)⟩, ⟨by (with_reducible repeat (first | apply Kd.R_alloc | apply Kd.R_drewN | apply Kd.R_drew)); exact Kd.R_mono HO567.out (fun _ hk => ⟨hk.2.2.2.2.2.1, ⟨hk.2.2.2.2.2.2.1, hk.2.2.2.2.2.2.2⟩⟩)⟩, ⟨by (with_reducible repeat (first | apply Kd.R_alloc | apply Kd.R_drewN | apply Kd.R_drew)); exact Kd.R_mono HO570.out (fun _ hk => ⟨hk.2.2.2.2.2.1, ⟨hk.2.2.2.2.2.2.1, hk.2.2.2.2.2.2.2⟩⟩)⟩, ⟨by (with_reducible repeat (first | refine blk_drewN ?_ _ | refine blk_drew ?_ | refine blk_alloc ?_ _)); exact BK531.out⟩, ⟨by (with_reducible repeat (first | refine blk_drewN ?_ _ | refine blk_drew ?_ | refine blk_alloc ?_ _)); exact BK564.out⟩, ⟨by (with_reducible repeat (first | refine blk_drewN ?_ _ | refine blk_drew ?_ | refine blk_alloc ?_ _)); exact BK574.out⟩, ⟨by repeat (first | (with_reducible first | exact HB.out | apply below_alloc | apply pw_below_drewN | apply below_drew1 | refine below_set ?_ GE531.out | refine below_set ?_ GE564.out | refine below_set ?_ GE574.out) | exact HB.out)⟩⟩
                      · replace c69 := Bool.eq_false_iff.mpr c69
                        subst c69
                        have H1 : (laws_FnReadsFirst.j0 k ji26 true t528 t555 t558 t561 t562 t565 t568 t571 t572) = some r := by rw [if_neg (show ¬ (false = true) by decide)] at H; exact H
                        clear H
                        have H := H1
                        clear H1
                        have H' := Aside0.mk H
                        clear H
                        go_wp2
                        go_meet
                        case rel => exact ⟨_, (true), z13_22, H', ⟨by first | omega | exact Nat.le_refl _⟩, ⟨by (with_reducible repeat (first | apply Kd.S_alloc | apply Kd.S_drewN | apply Kd.S_drew)); exact HO530.out⟩, ⟨by (with_reducible repeat (first | apply Kd.R_alloc | apply Kd.R_drewN | apply Kd.R_drew)); exact Kd.R_mono HO557.out (fun _ hk => ⟨hk.2.2.2.2.2.1, ⟨hk.2.2.2.2.2.2.1, hk.2.2.2.2.2.2.2⟩⟩)⟩, ⟨by (with_reducible repeat (first | apply Kd.R_alloc | apply Kd.R_drewN | apply Kd.R_drew)); exact Kd.R_mono HO560.out (fun _ hk => ⟨hk.2.2.2.2.2.1, ⟨hk.2.2.2.2.2.2.1, hk.2.2.2.2.2.2.2⟩⟩)⟩, ⟨by (with_reducible repeat (first | apply Kd.R_alloc | apply Kd.R_drewN | apply Kd.R_drew)); exact Kd.R_mono HO567.out (fun _ hk => ⟨hk.2.2.2.2.2.1, ⟨hk.2.2.2.2.2.2.1, hk.2.2.2.2.2.2.2⟩⟩)⟩, ⟨by (with_reducible repeat (first | apply Kd.R_alloc | apply Kd.R_drewN | apply Kd.R_drew)); exact Kd.R_mono HO570.out (fun _ hk => ⟨hk.2.2.2.2.2.1, ⟨hk.2.2.2.2.2.2.1, hk.2.2.2.2.2.2.2⟩⟩)⟩, ⟨by (with_reducible repeat (first | refine blk_drewN ?_ _ | refine blk_drew ?_ | refine blk_alloc ?_ _)); exact BK531.out⟩, ⟨by (with_reducible repeat (first | refine blk_drewN ?_ _ | refine blk_drew ?_ | refine blk_alloc ?_ _)); exact BK564.out⟩, ⟨by (with_reducible repeat (first | refine blk_drewN ?_ _ | refine blk_drew ?_ | refine blk_alloc ?_ _)); exact BK574.out⟩, ⟨by repeat (first | (with_reducible first | exact HB.out | apply below_alloc | apply pw_below_drewN | apply below_drew1 | refine below_set ?_ GE531.out | refine below_set ?_ GE564.out | refine below_set ?_ GE574.out) | exact HB.out)⟩⟩
                    · replace c68 := Bool.eq_false_iff.mpr c68
                      subst c68
                      have H1 : (laws_FnReadsFirst.j0 k ji26 true t528 t555 t558 t561 t562 t565 t568 t571 t572) = some r := by rw [if_neg (show ¬ (false = true) by decide)] at H; exact H
                      clear H
                      have H := H1
                      clear H1
                      have H' := Aside0.mk H
                      clear H
                      go_wp2
                      go_meet
                      case rel => exact ⟨_, (true), z13_22, H', ⟨by first | omega | exact Nat.le_refl _⟩, ⟨by (with_reducible repeat (first | apply Kd.S_alloc | apply Kd.S_drewN | apply Kd.S_drew)); exact HO530.out⟩, ⟨by (with_reducible repeat (first | apply Kd.R_alloc | apply Kd.R_drewN | apply Kd.R_drew)); exact Kd.R_mono HO557.out (fun _ hk => ⟨hk.2.2.2.2.2.1, ⟨hk.2.2.2.2.2.2.1, hk.2.2.2.2.2.2.2⟩⟩)⟩, ⟨by (with_reducible repeat (first | apply Kd.R_alloc | apply Kd.R_drewN | apply Kd.R_drew)); exact Kd.R_mono HO560.out (fun _ hk => ⟨hk.2.2.2.2.2.1, ⟨hk.2.2.2.2.2.2.1, hk.2.2.2.2.2.2.2⟩⟩)⟩, ⟨by (with_reducible repeat (first | apply Kd.R_alloc | apply Kd.R_drewN | apply Kd.R_drew)); exact Kd.R_mono HO567.out (fun _ hk => ⟨hk.2.2.2.2.2.1, ⟨hk.2.2.2.2.2.2.1, hk.2.2.2.2.2.2.2⟩⟩)⟩, ⟨by (with_reducible repeat (first | apply Kd.R_alloc | apply Kd.R_drewN | apply Kd.R_drew)); exact Kd.R_mono HO570.out (fun _ hk => ⟨hk.2.2.2.2.2.1, ⟨hk.2.2.2.2.2.2.1, hk.2.2.2.2.2.2.2⟩⟩)⟩, ⟨by (with_reducible repeat (first | refine blk_drewN ?_ _ | refine blk_drew ?_ | refine blk_alloc ?_ _)); exact BK531.out⟩, ⟨by (with_reducible repeat (first | refine blk_drewN ?_ _ | refine blk_drew ?_ | refine blk_alloc ?_ _)); exact BK564.out⟩, ⟨by (with_reducible repeat (first | refine blk_drewN ?_ _ | refine blk_drew ?_ | refine blk_alloc ?_ _)); exact BK574.out⟩, ⟨by repeat (first | (with_reducible first | exact HB.out | apply below_alloc | apply pw_below_drewN | apply below_drew1 | refine below_set ?_ GE531.out | refine below_set ?_ GE564.out | refine below_set ?_ GE574.out) | exact HB.out)⟩⟩
                  case rest =>
                    clear HC32
                    (try clear c3); (try clear c8); (try clear c8b0); (try clear c8b1); (try clear c9); (try clear c9b0); (try clear c9b1); (try clear c12); (try clear c24); (try clear c25); (try clear c25b0); (try clear c25b1); (try clear c27); (try clear c27b0); (try clear c28); (try clear c28b0); (try clear p29); (try clear q29); (try clear hcz36_0); (try clear hcz41_0); (try clear hcz50_0); (try clear hcz56_0); (try clear hcz56_1); (try clear hcz56_2); (try clear hcz56_3); (try clear hcz59_0); (try clear hcz65_0); (try clear hcz65_1); (try clear hcz65_2); (try clear hcz65_3); (try clear hfz36_0); (try clear hfz41_0); (try clear hfz50_0); (try clear hfz56_0); (try clear hfz56_1); (try clear hfz56_2); (try clear hfz56_3); (try clear hfz59_0); (try clear hfz65_0); (try clear hfz65_1); (try clear hfz65_2); (try clear hfz65_3); (try clear hx29_0); (try clear hx541_0); (try clear hx542_0); (try clear hx542_1); (try clear hx542_2); (try clear hx542_3); (try clear hx553_0); (try clear p29); (try clear p541); (try clear p542); (try clear p553); (try clear q29); (try clear q541); (try clear q542); (try clear q553)
                    obtain ⟨kq, x98_31, rfl, HA, HJ31, HO_532000, HO_565000, HO_565001, HO_575000, HO_575001, BK531, BK564, BK574, HB⟩ := hcut
                    cases kq with
                    | zero => exact absurd HA.out (by simp [laws_FnReadsFirst.j0])
                    | succ kj31 =>
                      have H := HA.out
                      clear HA
                      simp only [laws_FnReadsFirst.j0] at H
                      by_cases c98 : x98_31 = true
                      · subst c98
                        have H1 : (some false) = some r := by rw [if_pos rfl] at H; exact H
                        clear H
                        have H := H1
                        clear H1
                        obtain rfl := Option.some.inj H
                        go_wp2
                        go_ret
                        exact ⟨by first | rfl | (simp [errW_none, errW_some] <;> rfl) | (simp only [← hji26]; first | rfl | (simp [errW_none, errW_some] <;> rfl)) | (simp [*, errW_none, errW_some] <;> rfl) | (simp [*, errW_none, errW_some, i64_w]; done), by repeat (first | (with_reducible first | exact HB.out | apply below_alloc | apply pw_below_drewN | apply below_drew1 | refine below_set ?_ GE531.out | refine below_set ?_ GE564.out | refine below_set ?_ GE574.out) | exact HB.out)⟩
                      · replace c98 := Bool.eq_false_iff.mpr c98
                        subst c98
                        have H1 : (laws_FnReadsFirst.l0 kj31 ji26 0 t528 t555 t558 t561 t562 t565 t568 t571 t572) = some r := by rw [if_neg (show ¬ (false = true) by decide)] at H; exact H
                        clear H
                        have H := H1
                        clear H1
                        have H' := Aside0.mk H
                        clear H
                        go_wp2
                        go_loopg [13] kj31 (fun kq v13 w' => ∃ (x13_2 : Int), v13 = .int .i64 x13_2 ∧ Aside0 (laws_FnReadsFirst.l0 kq ji26 x13_2 t528 t555 t558 t561 t562 t565 t568 t571 t572 = some r) ∧ Aside0 (kq ≤ kj31) ∧ Aside0 (Kd.S k34 34 w' w.heap.size (fun _ => True) (.slice (some ad542) t528.length co35) t528) ∧ Aside0 (Kd.R (Kd.int .i64) 3 w' w.heap.size (fun k_ => some k_ ≠ ((.slice Ao57 t558.length co57) : Value).ownBlock ∧ some k_ ≠ ((.slice Ao62 t565.length co62) : Value).ownBlock ∧ some k_ ≠ ((.slice Ao66 t568.length co66) : Value).ownBlock) (.slice Ao54 t555.length co54) t555) ∧ Aside0 (Kd.R (Kd.int .i64) 3 w' w.heap.size (fun k_ => some k_ ≠ ((.slice Ao54 t555.length co54) : Value).ownBlock ∧ some k_ ≠ ((.slice Ao62 t565.length co62) : Value).ownBlock ∧ some k_ ≠ ((.slice Ao66 t568.length co66) : Value).ownBlock) (.slice Ao57 t558.length co57) t558) ∧ Aside0 (Kd.R (Kd.int .i64) 3 w' w.heap.size (fun k_ => some k_ ≠ ((.slice Ao54 t555.length co54) : Value).ownBlock ∧ some k_ ≠ ((.slice Ao57 t558.length co57) : Value).ownBlock ∧ some k_ ≠ ((.slice Ao66 t568.length co66) : Value).ownBlock) (.slice Ao62 t565.length co62) t565) ∧ Aside0 (Kd.R (Kd.int .i64) 3 w' w.heap.size (fun k_ => some k_ ≠ ((.slice Ao54 t555.length co54) : Value).ownBlock ∧ some k_ ≠ ((.slice Ao57 t558.length co57) : Value).ownBlock ∧ some k_ ≠ ((.slice Ao62 t565.length co62) : Value).ownBlock) (.slice Ao66 t568.length co66) t568) ∧ Aside0 (w'.heap[gb531]? = some (.cells #[(.slice (some ad542) t528.length co35)] 26 (0, 0))) ∧ Aside0 (w'.heap[gb564]? = some (.cells #[(.slice Ao54 t555.length co54), (.slice Ao57 t558.length co57), .int .i64 t561, .int .i64 t562] 37 (0, 0))) ∧ Aside0 (w'.heap[gb574]? = some (.cells #[(.slice Ao62 t565.length co62), (.slice Ao66 t568.length co66), .int .i64 t571, .int .i64 t572] 37 (0, 0))) ∧ Aside0 (Below w.heap.size w w'))
                        case atStart => exact ⟨(0), z13_22, H', ⟨Nat.le_refl _⟩, ⟨by (with_reducible repeat (first | apply Kd.S_alloc | apply Kd.S_drewN | apply Kd.S_drew)); exact HO_532000.out⟩, ⟨by (with_reducible repeat (first | apply Kd.R_alloc | apply Kd.R_drewN | apply Kd.R_drew)); exact HO_565000.out⟩, ⟨by (with_reducible repeat (first | apply Kd.R_alloc | apply Kd.R_drewN | apply Kd.R_drew)); exact HO_565001.out⟩, ⟨by (with_reducible repeat (first | apply Kd.R_alloc | apply Kd.R_drewN | apply Kd.R_drew)); exact HO_575000.out⟩, ⟨by (with_reducible repeat (first | apply Kd.R_alloc | apply Kd.R_drewN | apply Kd.R_drew)); exact HO_575001.out⟩, ⟨by (with_reducible repeat (first | refine blk_drewN ?_ _ | refine blk_drew ?_ | refine blk_alloc ?_ _)); exact BK531.out⟩, ⟨by (with_reducible repeat (first | refine blk_drewN ?_ _ | refine blk_drew ?_ | refine blk_alloc ?_ _)); exact BK564.out⟩, ⟨by (with_reducible repeat (first | refine blk_drewN ?_ _ | refine blk_drew ?_ | refine blk_alloc ?_ _)); exact BK574.out⟩, ⟨by repeat (first | (with_reducible first | exact HB.out | apply below_alloc | apply pw_below_drewN | apply below_drew1 | refine below_set ?_ GE531.out | refine below_set ?_ GE564.out | refine below_set ?_ GE574.out) | exact HB.out)⟩⟩
                        case round =>
                          clear H'
                          (try clear c3); (try clear c8); (try clear c8b0); (try clear c8b1); (try clear c9); (try clear c9b0); (try clear c9b1); (try clear c12); (try clear c24); (try clear c25); (try clear c25b0); (try clear c25b1); (try clear c27); (try clear c27b0); (try clear c28); (try clear c28b0); (try clear p29); (try clear q29); (try clear c98); (try clear hcz36_0); (try clear hcz41_0); (try clear hcz50_0); (try clear hcz56_0); (try clear hcz56_1); (try clear hcz56_2); (try clear hcz56_3); (try clear hcz59_0); (try clear hcz65_0); (try clear hcz65_1); (try clear hcz65_2); (try clear hcz65_3); (try clear hfz36_0); (try clear hfz41_0); (try clear hfz50_0); (try clear hfz56_0); (try clear hfz56_1); (try clear hfz56_2); (try clear hfz56_3); (try clear hfz59_0); (try clear hfz65_0); (try clear hfz65_1); (try clear hfz65_2); (try clear hfz65_3); (try clear hx29_0); (try clear hx541_0); (try clear hx542_0); (try clear hx542_1); (try clear hx542_2); (try clear hx542_3); (try clear hx553_0); (try clear p29); (try clear p541); (try clear p542); (try clear p553); (try clear q29); (try clear q541); (try clear q542); (try clear q553)
                          obtain ⟨x13_2, rfl, HA, HK2, HO_532000, HO_565000, HO_565001, HO_575000, HO_575001, BK531, BK564, BK574, HB⟩ := hrel
                          cases gk with
                          | zero => exact absurd HA.out (by simp [laws_FnReadsFirst.l0])
                          | succ k2 =>
                            have H := HA.out
                            clear HA
                            simp only [laws_FnReadsFirst.l0] at H
                            by_cases c99 : x13_2 < 8
                            · rw [if_pos c99] at H
                              have c99b0 : decide (x13_2 < 8) = true := decide_eq_true c99
                              clear c99
                              by_cases c100 : x13_2 = ji26
                              · rw [if_pos c100] at H
                                have c100b0 : (x13_2 == ji26) = true := beq_iff_eq.mpr c100
                                have c100b1 : (x13_2 != ji26) = false := bne_eq_false_iff_eq.mpr c100
                                clear c100
                                have H' := Aside0.mk H
                                clear H
                                try go_wp2
                                have n0_ := Aside0.mk (Kd.S_drew HO_532000.out)
                                have n1_ := Aside0.mk (Kd.R_drew HO_565000.out)
                                have n2_ := Aside0.mk (Kd.R_drew HO_565001.out)
                                have n3_ := Aside0.mk (Kd.R_drew HO_575000.out)
                                have n4_ := Aside0.mk (Kd.R_drew HO_575001.out)
                                have n5_ := Aside0.mk (blk_drew BK531.out)
                                have n6_ := Aside0.mk (blk_drew BK564.out)
                                have n7_ := Aside0.mk (blk_drew BK574.out)
                                have n8_ := Aside0.mk (below_drew1 HB.out)
                                clear HO_532000
                                clear HO_565000
                                clear HO_565001
                                clear HO_575000
                                clear HO_575001
                                clear BK531
                                clear BK564
                                clear BK574
                                clear HB
                                have HO_532000 := n0_
                                have HO_565000 := n1_
                                have HO_565001 := n2_
                                have HO_575000 := n3_
                                have HO_575001 := n4_
                                have BK531 := n5_
                                have BK564 := n6_
                                have BK574 := n7_
                                have HB := n8_
                                clear n0_ n1_ n2_ n3_ n4_ n5_ n6_ n7_ n8_
                                refine start_ (n := 16) (S := fun w' => True) (ds := []) #[false, false, false, false, false, false, false, false, false, false, false, false, false, false, false, false] z13_11 rfl rfl trivial (fun hHeld => ?_); refine with_tabW laws_FnReadsFirst.tab19 laws_FnReadsFirst.bits19 (fun HT_ HW_ => ?_)
                                generalize wr.drew = w101 at HO_532000 HO_565000 HO_565001 HO_575000 HO_575001 BK531 BK564 BK574 HB hHeld ⊢
                                refine pure_ (i := 0) (N := some 103) (v := ?_) (a' := ?_) #[true, false, false, false, false, false, false, false, false, false, false, false, false, false, false, false] rfl rfl (any_of HT_.out z13_11) (fun _ _ _ h => h) (Or.inl ⟨by rfl, ?_⟩) ?_ ?_
                                rotate_left
                                · intro w'
                                  go_simp
                                  with_reducible rfl
                                rotate_left
                                · simp only [Act.put, List.setIfInBounds_toArray, List.set_cons_zero, List.set_cons_succ, i64_w, i32_w]
                                  rfl
                                refine pure_ (i := 1) (N := some 104) (v := ?_) (a' := ?_) #[true, true, false, false, false, false, false, false, false, false, false, false, false, false, false, false] rfl rfl (any_of HT_.out z13_11) (fun _ _ _ h => h) (Or.inl ⟨by rfl, ?_⟩) ?_ ?_
                                rotate_left
                                · intro w'
                                  go_simp
                                  with_reducible rfl
                                rotate_left
                                · simp only [Act.put, List.setIfInBounds_toArray, List.set_cons_zero, List.set_cons_succ, i64_w, i32_w]
                                  rfl
                                refine pure_ (i := 2) (N := some 105) (v := ?_) (a' := ?_) #[true, true, true, false, false, false, false, false, false, false, false, false, false, false, false, false] rfl rfl (any_of HT_.out z13_11) (fun _ _ _ h => h) (Or.inl ⟨by rfl, ?_⟩) ?_ ?_
                                rotate_left
                                · intro w'
                                  go_simp
                                  with_reducible rfl
                                rotate_left
                                · simp only [Act.put, List.setIfInBounds_toArray, List.set_cons_zero, List.set_cons_succ, i64_w, i32_w]
                                  rfl
                                refine pure_ (i := 3) (N := some 106) (v := ?_) (a' := ?_) #[true, true, true, true, false, false, false, false, false, false, false, false, false, false, false, false] rfl rfl (any_of HT_.out z13_11) (fun _ _ _ h => h) (Or.inl ⟨by rfl, ?_⟩) ?_ ?_
                                rotate_left
                                · intro w'
                                  go_simp
                                  with_reducible rfl
                                rotate_left
                                · simp only [Act.put, List.setIfInBounds_toArray, List.set_cons_zero, List.set_cons_succ, i64_w, i32_w]
                                  rfl
                                refine pure_ (i := 4) (N := some 107) (v := undef) (a' := ?_) #[true, true, true, true, true, false, false, false, false, false, false, false, false, false, false, false] rfl rfl (any_of HT_.out z13_11) (fun _ _ _ h => h) (Or.inr ⟨by rfl, rfl⟩) ?_ ?_
                                rotate_left
                                · simp only [Act.put, List.setIfInBounds_toArray, List.set_cons_zero, List.set_cons_succ, i64_w, i32_w]
                                  rfl
                                refine pure_ (i := 5) (N := some 108) (v := undef) (a' := ?_) #[true, true, true, true, true, true, false, false, false, false, false, false, false, false, false, false] rfl rfl (any_of HT_.out z13_11) (fun _ _ _ h => h) (Or.inr ⟨by rfl, rfl⟩) ?_ ?_
                                rotate_left
                                · simp only [Act.put, List.setIfInBounds_toArray, List.set_cons_zero, List.set_cons_succ, i64_w, i32_w]
                                  rfl
                                refine pure_ (i := 6) (N := some 109) (v := undef) (a' := ?_) #[true, true, true, true, true, true, true, false, false, false, false, false, false, false, false, false] rfl rfl (any_of HT_.out z13_11) (fun _ _ _ h => h) (Or.inr ⟨by rfl, rfl⟩) ?_ ?_
                                rotate_left
                                · simp only [Act.put, List.setIfInBounds_toArray, List.set_cons_zero, List.set_cons_succ, i64_w, i32_w]
                                  rfl
                                refine pure_ (i := 7) (N := some 110) (v := undef) (a' := ?_) #[true, true, true, true, true, true, true, true, false, false, false, false, false, false, false, false] rfl rfl (any_of HT_.out z13_11) (fun _ _ _ h => h) (Or.inr ⟨by rfl, rfl⟩) ?_ ?_
                                rotate_left
                                · simp only [Act.put, List.setIfInBounds_toArray, List.set_cons_zero, List.set_cons_succ, i64_w, i32_w]
                                  rfl
                                refine pure_ (i := 8) (N := some 111) (v := undef) (a' := ?_) #[true, true, true, true, true, true, true, true, true, false, false, false, false, false, false, false] rfl rfl (any_of HT_.out z13_11) (fun _ _ _ h => h) (Or.inr ⟨by rfl, rfl⟩) ?_ ?_
                                rotate_left
                                · simp only [Act.put, List.setIfInBounds_toArray, List.set_cons_zero, List.set_cons_succ, i64_w, i32_w]
                                  rfl
                                refine pure_ (i := 9) (N := some 112) (v := undef) (a' := ?_) #[true, true, true, true, true, true, true, true, true, true, false, false, false, false, false, false] rfl rfl (any_of HT_.out z13_11) (fun _ _ _ h => h) (Or.inr ⟨by rfl, rfl⟩) ?_ ?_
                                rotate_left
                                · simp only [Act.put, List.setIfInBounds_toArray, List.set_cons_zero, List.set_cons_succ, i64_w, i32_w]
                                  rfl
                                refine pure_ (i := 10) (N := some 113) (v := undef) (a' := ?_) #[true, true, true, true, true, true, true, true, true, true, true, false, false, false, false, false] rfl rfl (any_of HT_.out z13_11) (fun _ _ _ h => h) (Or.inr ⟨by rfl, rfl⟩) ?_ ?_
                                rotate_left
                                · simp only [Act.put, List.setIfInBounds_toArray, List.set_cons_zero, List.set_cons_succ, i64_w, i32_w]
                                  rfl
                                refine pure_ (i := 11) (N := some 114) (v := undef) (a' := ?_) #[true, true, true, true, true, true, true, true, true, true, true, true, false, false, false, false] rfl rfl (any_of HT_.out z13_11) (fun _ _ _ h => h) (Or.inr ⟨by rfl, rfl⟩) ?_ ?_
                                rotate_left
                                · simp only [Act.put, List.setIfInBounds_toArray, List.set_cons_zero, List.set_cons_succ, i64_w, i32_w]
                                  rfl
                                refine pure_ (i := 12) (N := some 115) (v := undef) (a' := ?_) #[true, true, true, true, true, true, true, true, true, true, true, true, true, false, false, false] rfl rfl (any_of HT_.out z13_11) (fun _ _ _ h => h) (Or.inr ⟨by rfl, rfl⟩) ?_ ?_
                                rotate_left
                                · simp only [Act.put, List.setIfInBounds_toArray, List.set_cons_zero, List.set_cons_succ, i64_w, i32_w]
                                  rfl
                                refine pure_ (i := 13) (N := some 116) (v := undef) (a' := ?_) #[true, true, true, true, true, true, true, true, true, true, true, true, true, true, false, false] rfl rfl (any_of HT_.out z13_11) (fun _ _ _ h => h) (Or.inr ⟨by rfl, rfl⟩) ?_ ?_
                                rotate_left
                                · simp only [Act.put, List.setIfInBounds_toArray, List.set_cons_zero, List.set_cons_succ, i64_w, i32_w]
                                  rfl
                                refine pure_ (i := 14) (N := some 117) (v := undef) (a' := ?_) #[true, true, true, true, true, true, true, true, true, true, true, true, true, true, true, false] rfl rfl (any_of HT_.out z13_11) (fun _ _ _ h => h) (Or.inr ⟨by rfl, rfl⟩) ?_ ?_
                                rotate_left
                                · simp only [Act.put, List.setIfInBounds_toArray, List.set_cons_zero, List.set_cons_succ, i64_w, i32_w]
                                  rfl
                                refine pure_ (i := 15) (N := some 118) (v := ?_) (a' := ?_) #[true, true, true, true, true, true, true, true, true, true, true, true, true, true, true, true] rfl rfl (any_of HT_.out z13_11) (fun _ _ _ h => h) (Or.inl ⟨by rfl, ?_⟩) ?_ ?_
                                rotate_left
                                · intro w'
                                  go_simp
                                  with_reducible rfl
                                rotate_left
                                · simp only [Act.put, List.setIfInBounds_toArray, List.set_cons_zero, List.set_cons_succ, i64_w, i32_w]
                                  rfl
                                refine done_ (done_of HT_.out z13_11) ?_
                                try go_wp2
                                go_roundg k2
                                case measure => have := HJ31.out; have := HK2.out; omega
                                case rel => exact ⟨(wrap64 (x13_2 + 1)), z13_22, H', ⟨by have := HJ31.out; have := HK2.out; omega⟩, ⟨by (with_reducible repeat (first | apply Kd.S_alloc | apply Kd.S_drewN | apply Kd.S_drew)); exact HO_532000.out⟩, ⟨by (with_reducible repeat (first | apply Kd.R_alloc | apply Kd.R_drewN | apply Kd.R_drew)); exact HO_565000.out⟩, ⟨by (with_reducible repeat (first | apply Kd.R_alloc | apply Kd.R_drewN | apply Kd.R_drew)); exact HO_565001.out⟩, ⟨by (with_reducible repeat (first | apply Kd.R_alloc | apply Kd.R_drewN | apply Kd.R_drew)); exact HO_575000.out⟩, ⟨by (with_reducible repeat (first | apply Kd.R_alloc | apply Kd.R_drewN | apply Kd.R_drew)); exact HO_575001.out⟩, ⟨by (with_reducible repeat (first | refine blk_drewN ?_ _ | refine blk_drew ?_ | refine blk_alloc ?_ _)); exact BK531.out⟩, ⟨by (with_reducible repeat (first | refine blk_drewN ?_ _ | refine blk_drew ?_ | refine blk_alloc ?_ _)); exact BK564.out⟩, ⟨by (with_reducible repeat (first | refine blk_drewN ?_ _ | refine blk_drew ?_ | refine blk_alloc ?_ _)); exact BK574.out⟩, ⟨by repeat (first | (with_reducible first | exact HB.out | apply below_alloc | apply pw_below_drewN | apply below_drew1 | refine below_set ?_ GE531.out | refine below_set ?_ GE564.out | refine below_set ?_ GE574.out) | exact HB.out)⟩⟩
                              · rw [if_neg c100] at H
                                have c100b0 : (x13_2 == ji26) = false := beq_eq_false_iff_ne.mpr c100
                                have c100b1 : (x13_2 != ji26) = true := bne_iff_ne.mpr c100
                                by_cases c102 : 0 ≤ x13_2
                                · rw [if_pos c102] at H
                                  have c102b0 : decide (0 ≤ x13_2) = true := decide_eq_true c102
                                  clear c102
                                  by_cases c103 : x13_2 < (t555.length : Int)
                                  · rw [if_pos c103] at H
                                    have c103b0 : decide (x13_2 < (t555.length : Int)) = true := decide_eq_true c103
                                    clear c103
                                    by_cases c104 : x13_2 < (t565.length : Int)
                                    · rw [if_pos c104] at H
                                      have c104b0 : decide (x13_2 < (t565.length : Int)) = true := decide_eq_true c104
                                      clear c104
                                      by_cases c105 : (rd t555 x13_2) = (rd t565 x13_2)
                                      · rw [if_pos c105] at H
                                        have c105b0 : ((rd t555 x13_2) == (rd t565 x13_2)) = true := beq_iff_eq.mpr c105
                                        have c105b1 : ((rd t555 x13_2) != (rd t565 x13_2)) = false := bne_eq_false_iff_eq.mpr c105
                                        clear c105
                                        have H' := Aside0.mk H
                                        clear H
                                        try go_wp2
                                        have n0_ := Aside0.mk (Kd.S_drew HO_532000.out)
                                        have n1_ := Aside0.mk (Kd.R_drew HO_565000.out)
                                        have n2_ := Aside0.mk (Kd.R_drew HO_565001.out)
                                        have n3_ := Aside0.mk (Kd.R_drew HO_575000.out)
                                        have n4_ := Aside0.mk (Kd.R_drew HO_575001.out)
                                        have n5_ := Aside0.mk (blk_drew BK531.out)
                                        have n6_ := Aside0.mk (blk_drew BK564.out)
                                        have n7_ := Aside0.mk (blk_drew BK574.out)
                                        have n8_ := Aside0.mk (below_drew1 HB.out)
                                        clear HO_532000
                                        clear HO_565000
                                        clear HO_565001
                                        clear HO_575000
                                        clear HO_575001
                                        clear BK531
                                        clear BK564
                                        clear BK574
                                        clear HB
                                        have HO_532000 := n0_
                                        have HO_565000 := n1_
                                        have HO_565001 := n2_
                                        have HO_575000 := n3_
                                        have HO_575001 := n4_
                                        have BK531 := n5_
                                        have BK564 := n6_
                                        have BK574 := n7_
                                        have HB := n8_
                                        clear n0_ n1_ n2_ n3_ n4_ n5_ n6_ n7_ n8_
                                        have p576 : 0 ≤ (x13_2 : Int) := of_decide_eq_true z13_8
                                        have q576 : x13_2 < (t555.length : Int) := of_decide_eq_true z13_8
                                        obtain ⟨ad576, e576, hx576_0⟩ := Kd.at_int (Kd.R_reads' HO_565000.out).2.2 x13_2 p576 q576
                                        cases e576
                                        replace p576 := eq_true p576
                                        replace q576 := eq_true q576
                                        have p577 : 0 ≤ (x13_2 : Int) := of_decide_eq_true z13_8
                                        have q577 : x13_2 < (t565.length : Int) := of_decide_eq_true z13_8
                                        obtain ⟨ad577, e577, hx577_0⟩ := Kd.at_int (Kd.R_reads' HO_575000.out).2.2 x13_2 p577 q577
                                        cases e577
                                        replace p577 := eq_true p577
                                        replace q577 := eq_true q577
                                        refine start_ (n := 16) (S := fun w' => w'.cell? ⟨gb564, 0, none⟩ = some (.slice (some ad576) t555.length co54) ∧ w'.cell? ⟨gb564, 1, none⟩ = some (.slice Ao57 t558.length co57) ∧ w'.cell? ⟨gb564, 2, none⟩ = some (.int .i64 t561) ∧ w'.cell? ⟨gb564, 3, none⟩ = some (.int .i64 t562) ∧ w'.cell? ⟨gb574, 0, none⟩ = some (.slice (some ad577) t565.length co62) ∧ w'.cell? ⟨gb574, 1, none⟩ = some (.slice Ao66 t568.length co66) ∧ w'.cell? ⟨gb574, 2, none⟩ = some (.int .i64 t571) ∧ w'.cell? ⟨gb574, 3, none⟩ = some (.int .i64 t572) ∧ w'.cell? (ad576.add (x13_2).toNat) = some (.int .i64 (rd t555 x13_2)) ∧ w'.cell? (ad577.add (x13_2).toNat) = some (.int .i64 (rd t565 x13_2))) (ds := []) #[false, false, false, false, false, false, false, false, false, false, false, false, false, false, false, false] z13_11 rfl rfl ⟨(blk_cell BK564.out 0).trans rfl, (blk_cell BK564.out 1).trans rfl, (blk_cell BK564.out 2).trans rfl, (blk_cell BK564.out 3).trans rfl, (blk_cell BK574.out 0).trans rfl, (blk_cell BK574.out 1).trans rfl, (blk_cell BK574.out 2).trans rfl, (blk_cell BK574.out 3).trans rfl, hx576_0, hx577_0⟩ (fun hHeld => ?_); refine with_tabW laws_FnReadsFirst.tab19 laws_FnReadsFirst.bits19 (fun HT_ HW_ => ?_)
                                        generalize wr.drew = w106 at HO_532000 HO_565000 HO_565001 HO_575000 HO_575001 BK531 BK564 BK574 HB hx576_0 hx577_0 hHeld ⊢
                                        refine pure_ (i := 0) (N := some 103) (v := ?_) (a' := ?_) #[true, false, false, false, false, false, false, false, false, false, false, false, false, false, false, false] rfl rfl (any_of HT_.out z13_11) (fun _ _ _ h => h) (Or.inl ⟨by rfl, ?_⟩) ?_ ?_
                                        rotate_left
                                        · intro w'
                                          go_simp
                                          with_reducible rfl
                                        rotate_left
                                        · simp only [Act.put, List.setIfInBounds_toArray, List.set_cons_zero, List.set_cons_succ, i64_w, i32_w]
                                          rfl
                                        refine pure_ (i := 1) (N := some 104) (v := ?_) (a' := ?_) #[true, true, false, false, false, false, false, false, false, false, false, false, false, false, false, false] rfl rfl (any_of HT_.out z13_11) (fun _ _ _ h => h) (Or.inl ⟨by rfl, ?_⟩) ?_ ?_
                                        rotate_left
                                        · intro w'
                                          go_simp
                                          with_reducible rfl
                                        rotate_left
                                        · simp only [Act.put, List.setIfInBounds_toArray, List.set_cons_zero, List.set_cons_succ, i64_w, i32_w]
                                          rfl
                                        refine pure_ (i := 2) (N := some 105) (v := ?_) (a' := ?_) #[true, true, true, false, false, false, false, false, false, false, false, false, false, false, false, false] rfl rfl (any_of HT_.out z13_11) (fun _ _ _ h => h) (Or.inl ⟨by rfl, ?_⟩) ?_ ?_
                                        rotate_left
                                        · intro w'
                                          go_simp
                                          with_reducible rfl
                                        rotate_left
                                        · simp only [Act.put, List.setIfInBounds_toArray, List.set_cons_zero, List.set_cons_succ, i64_w, i32_w]
                                          rfl
                                        refine pure_ (i := 3) (N := some 106) (v := ?_) (a' := ?_) #[true, true, true, true, false, false, false, false, false, false, false, false, false, false, false, false] rfl rfl (any_of HT_.out z13_11) (fun _ _ _ h => h) (Or.inl ⟨by rfl, ?_⟩) ?_ ?_
                                        rotate_left
                                        · intro w'
                                          go_simp
                                          with_reducible rfl
                                        rotate_left
                                        · simp only [Act.put, List.setIfInBounds_toArray, List.set_cons_zero, List.set_cons_succ, i64_w, i32_w]
                                          rfl
                                        refine pure_ (i := 4) (N := some 107) (v := ?_) (a' := ?_) #[true, true, true, true, true, false, false, false, false, false, false, false, false, false, false, false] rfl rfl (any_of HT_.out z13_11) (fun _ _ _ h => h) (Or.inl ⟨by rfl, ?_⟩) ?_ ?_
                                        rotate_left
                                        · intro w'
                                          go_simp
                                          with_reducible rfl
                                        rotate_left
                                        · simp only [Act.put, List.setIfInBounds_toArray, List.set_cons_zero, List.set_cons_succ, i64_w, i32_w]
                                          rfl
                                        refine pure_ (i := 6) (N := some 109) (v := ?_) (a' := ?_) #[true, true, true, true, true, false, true, false, false, false, false, false, false, false, false, false] rfl rfl (any_of HT_.out z13_11) (fun _ _ _ h => h) (Or.inl ⟨by rfl, ?_⟩) ?_ ?_
                                        rotate_left
                                        · intro w'
                                          go_simp
                                          with_reducible rfl
                                        rotate_left
                                        · simp only [Act.put, List.setIfInBounds_toArray, List.set_cons_zero, List.set_cons_succ, i64_w, i32_w]
                                          rfl
                                        refine pure_ (i := 9) (N := some 112) (v := ?_) (a' := ?_) #[true, true, true, true, true, false, true, false, false, true, false, false, false, false, false, false] rfl rfl (any_of HT_.out z13_11) (fun _ _ _ h => h) (Or.inl ⟨by rfl, ?_⟩) ?_ ?_
                                        rotate_left
                                        · intro w'
                                          go_simp
                                          with_reducible rfl
                                        rotate_left
                                        · simp only [Act.put, List.setIfInBounds_toArray, List.set_cons_zero, List.set_cons_succ, i64_w, i32_w]
                                          rfl
                                        refine pure_ (i := 11) (N := some 114) (v := ?_) (a' := ?_) #[true, true, true, true, true, false, true, false, false, true, false, true, false, false, false, false] rfl rfl (any_of HT_.out z13_11) (fun _ _ _ h => h) (Or.inl ⟨by rfl, ?_⟩) ?_ ?_
                                        rotate_left
                                        · intro w'
                                          go_simp
                                          with_reducible rfl
                                        rotate_left
                                        · simp only [Act.put, List.setIfInBounds_toArray, List.set_cons_zero, List.set_cons_succ, i64_w, i32_w]
                                          rfl
                                        refine take_ (i := 5) (N := some 108) (v := ?_) (a' := ?_) #[true, true, true, true, true, true, true, false, false, true, false, true, false, false, false, false] rfl rfl (take_ofW HT_.out HW_.out z13_11) (fun _ _ _ h => h) (Or.inl ⟨by rfl, ?_⟩) hHeld ?_ ?_
                                        rotate_left
                                        · rintro w' ⟨s0, s1, s2, s3, s4, s5, s6, s7, s8, s9⟩
                                          go_simp
                                          with_reducible rfl
                                        rotate_left
                                        · simp only [Act.put, List.setIfInBounds_toArray, List.set_cons_zero, List.set_cons_succ, i64_w, i32_w]
                                          rfl
                                        refine pure_ (i := 7) (N := some 110) (v := ?_) (a' := ?_) #[true, true, true, true, true, true, true, true, false, true, false, true, false, false, false, false] rfl rfl (any_of HT_.out z13_11) (fun _ _ _ h => h) (Or.inl ⟨by rfl, ?_⟩) ?_ ?_
                                        rotate_left
                                        · intro w'
                                          go_simp
                                          with_reducible rfl
                                        rotate_left
                                        · simp only [Act.put, List.setIfInBounds_toArray, List.set_cons_zero, List.set_cons_succ, i64_w, i32_w]
                                          rfl
                                        refine take_ (i := 8) (N := some 111) (v := ?_) (a' := ?_) #[true, true, true, true, true, true, true, true, true, true, false, true, false, false, false, false] rfl rfl (take_ofW HT_.out HW_.out z13_11) (fun _ _ _ h => h) (Or.inl ⟨by rfl, ?_⟩) hHeld ?_ ?_
                                        rotate_left
                                        · rintro w' ⟨s0, s1, s2, s3, s4, s5, s6, s7, s8, s9⟩
                                          go_simp
                                          with_reducible rfl
                                        rotate_left
                                        · simp only [Act.put, List.setIfInBounds_toArray, List.set_cons_zero, List.set_cons_succ, i64_w, i32_w]
                                          rfl
                                        refine take_ (i := 10) (N := some 113) (v := ?_) (a' := ?_) #[true, true, true, true, true, true, true, true, true, true, true, true, false, false, false, false] rfl rfl (take_ofW HT_.out HW_.out z13_11) (fun _ _ _ h => h) (Or.inl ⟨by rfl, ?_⟩) hHeld ?_ ?_
                                        rotate_left
                                        · rintro w' ⟨s0, s1, s2, s3, s4, s5, s6, s7, s8, s9⟩
                                          go_simp
                                          with_reducible rfl
                                        rotate_left
                                        · simp only [Act.put, List.setIfInBounds_toArray, List.set_cons_zero, List.set_cons_succ, i64_w, i32_w]
                                          rfl
                                        refine pure_ (i := 12) (N := some 115) (v := ?_) (a' := ?_) #[true, true, true, true, true, true, true, true, true, true, true, true, true, false, false, false] rfl rfl (any_of HT_.out z13_11) (fun _ _ _ h => h) (Or.inl ⟨by rfl, ?_⟩) ?_ ?_
                                        rotate_left
                                        · intro w'
                                          go_simp
                                          with_reducible rfl
                                        rotate_left
                                        · simp only [Act.put, List.setIfInBounds_toArray, List.set_cons_zero, List.set_cons_succ, i64_w, i32_w]
                                          rfl
                                        refine take_ (i := 13) (N := some 116) (v := ?_) (a' := ?_) #[true, true, true, true, true, true, true, true, true, true, true, true, true, true, false, false] rfl rfl (take_ofW HT_.out HW_.out z13_11) (fun _ _ _ h => h) (Or.inl ⟨by rfl, ?_⟩) hHeld ?_ ?_
                                        rotate_left
                                        · rintro w' ⟨s0, s1, s2, s3, s4, s5, s6, s7, s8, s9⟩
                                          go_simp
                                          with_reducible rfl
                                        rotate_left
                                        · simp only [Act.put, List.setIfInBounds_toArray, List.set_cons_zero, List.set_cons_succ, i64_w, i32_w]
                                          rfl
                                        refine pure_ (i := 14) (N := some 117) (v := ?_) (a' := ?_) #[true, true, true, true, true, true, true, true, true, true, true, true, true, true, true, false] rfl rfl (any_of HT_.out z13_11) (fun _ _ _ h => h) (Or.inl ⟨by rfl, ?_⟩) ?_ ?_
                                        rotate_left
                                        · intro w'
                                          go_simp
                                          with_reducible rfl
                                        rotate_left
                                        · simp only [Act.put, List.setIfInBounds_toArray, List.set_cons_zero, List.set_cons_succ, i64_w, i32_w]
                                          rfl
                                        refine pure_ (i := 15) (N := some 118) (v := ?_) (a' := ?_) #[true, true, true, true, true, true, true, true, true, true, true, true, true, true, true, true] rfl rfl (any_of HT_.out z13_11) (fun _ _ _ h => h) (Or.inl ⟨by rfl, ?_⟩) ?_ ?_
                                        rotate_left
                                        · intro w'
                                          go_simp
                                          with_reducible rfl
                                        rotate_left
                                        · simp only [Act.put, List.setIfInBounds_toArray, List.set_cons_zero, List.set_cons_succ, i64_w, i32_w]
                                          rfl
                                        refine done_ (done_of HT_.out z13_11) ?_
                                        try go_wp2
                                        go_roundg k2
                                        case measure => have := HJ31.out; have := HK2.out; omega
                                        case rel => exact ⟨(wrap64 (x13_2 + 1)), z13_22, H', ⟨by have := HJ31.out; have := HK2.out; omega⟩, ⟨by (with_reducible repeat (first | apply Kd.S_alloc | apply Kd.S_drewN | apply Kd.S_drew)); exact HO_532000.out⟩, ⟨by (with_reducible repeat (first | apply Kd.R_alloc | apply Kd.R_drewN | apply Kd.R_drew)); exact HO_565000.out⟩, ⟨by (with_reducible repeat (first | apply Kd.R_alloc | apply Kd.R_drewN | apply Kd.R_drew)); exact HO_565001.out⟩, ⟨by (with_reducible repeat (first | apply Kd.R_alloc | apply Kd.R_drewN | apply Kd.R_drew)); exact HO_575000.out⟩, ⟨by (with_reducible repeat (first | apply Kd.R_alloc | apply Kd.R_drewN | apply Kd.R_drew)); exact HO_575001.out⟩, ⟨by (with_reducible repeat (first | refine blk_drewN ?_ _ | refine blk_drew ?_ | refine blk_alloc ?_ _)); exact BK531.out⟩, ⟨by (with_reducible repeat (first | refine blk_drewN ?_ _ | refine blk_drew ?_ | refine blk_alloc ?_ _)); exact BK564.out⟩, ⟨by (with_reducible repeat (first | refine blk_drewN ?_ _ | refine blk_drew ?_ | refine blk_alloc ?_ _)); exact BK574.out⟩, ⟨by repeat (first | (with_reducible first | exact HB.out | apply below_alloc | apply pw_below_drewN | apply below_drew1 | refine below_set ?_ GE531.out | refine below_set ?_ GE564.out | refine below_set ?_ GE574.out) | exact HB.out)⟩⟩
                                      · rw [if_neg c105] at H
                                        have c105b0 : ((rd t555 x13_2) == (rd t565 x13_2)) = false := beq_eq_false_iff_ne.mpr c105
                                        have c105b1 : ((rd t555 x13_2) != (rd t565 x13_2)) = true := bne_iff_ne.mpr c105
                                        obtain rfl := Option.some.inj H
                                        try go_wp2
                                        have n0_ := Aside0.mk (Kd.S_drew HO_532000.out)
                                        have n1_ := Aside0.mk (Kd.R_drew HO_565000.out)
                                        have n2_ := Aside0.mk (Kd.R_drew HO_565001.out)
                                        have n3_ := Aside0.mk (Kd.R_drew HO_575000.out)
                                        have n4_ := Aside0.mk (Kd.R_drew HO_575001.out)
                                        have n5_ := Aside0.mk (blk_drew BK531.out)
                                        have n6_ := Aside0.mk (blk_drew BK564.out)
                                        have n7_ := Aside0.mk (blk_drew BK574.out)
                                        have n8_ := Aside0.mk (below_drew1 HB.out)
                                        clear HO_532000
                                        clear HO_565000
                                        clear HO_565001
                                        clear HO_575000
                                        clear HO_575001
                                        clear BK531
                                        clear BK564
                                        clear BK574
                                        clear HB
                                        have HO_532000 := n0_
                                        have HO_565000 := n1_
                                        have HO_565001 := n2_
                                        have HO_575000 := n3_
                                        have HO_575001 := n4_
                                        have BK531 := n5_
                                        have BK564 := n6_
                                        have BK574 := n7_
                                        have HB := n8_
                                        clear n0_ n1_ n2_ n3_ n4_ n5_ n6_ n7_ n8_
                                        have p576 : 0 ≤ (x13_2 : Int) := of_decide_eq_true z13_8
                                        have q576 : x13_2 < (t555.length : Int) := of_decide_eq_true z13_8
                                        obtain ⟨ad576, e576, hx576_0⟩ := Kd.at_int (Kd.R_reads' HO_565000.out).2.2 x13_2 p576 q576
                                        cases e576
                                        replace p576 := eq_true p576
                                        replace q576 := eq_true q576
                                        have p577 : 0 ≤ (x13_2 : Int) := of_decide_eq_true z13_8
                                        have q577 : x13_2 < (t565.length : Int) := of_decide_eq_true z13_8
                                        obtain ⟨ad577, e577, hx577_0⟩ := Kd.at_int (Kd.R_reads' HO_575000.out).2.2 x13_2 p577 q577
                                        cases e577
                                        replace p577 := eq_true p577
                                        replace q577 := eq_true q577
                                        refine start_ (n := 16) (S := fun w' => w'.cell? ⟨gb564, 0, none⟩ = some (.slice (some ad576) t555.length co54) ∧ w'.cell? ⟨gb564, 1, none⟩ = some (.slice Ao57 t558.length co57) ∧ w'.cell? ⟨gb564, 2, none⟩ = some (.int .i64 t561) ∧ w'.cell? ⟨gb564, 3, none⟩ = some (.int .i64 t562) ∧ w'.cell? ⟨gb574, 0, none⟩ = some (.slice (some ad577) t565.length co62) ∧ w'.cell? ⟨gb574, 1, none⟩ = some (.slice Ao66 t568.length co66) ∧ w'.cell? ⟨gb574, 2, none⟩ = some (.int .i64 t571) ∧ w'.cell? ⟨gb574, 3, none⟩ = some (.int .i64 t572) ∧ w'.cell? (ad576.add (x13_2).toNat) = some (.int .i64 (rd t555 x13_2)) ∧ w'.cell? (ad577.add (x13_2).toNat) = some (.int .i64 (rd t565 x13_2))) (ds := []) #[false, false, false, false, false, false, false, false, false, false, false, false, false, false, false, false] z13_11 rfl rfl ⟨(blk_cell BK564.out 0).trans rfl, (blk_cell BK564.out 1).trans rfl, (blk_cell BK564.out 2).trans rfl, (blk_cell BK564.out 3).trans rfl, (blk_cell BK574.out 0).trans rfl, (blk_cell BK574.out 1).trans rfl, (blk_cell BK574.out 2).trans rfl, (blk_cell BK574.out 3).trans rfl, hx576_0, hx577_0⟩ (fun hHeld => ?_); refine with_tabW laws_FnReadsFirst.tab19 laws_FnReadsFirst.bits19 (fun HT_ HW_ => ?_)
                                        generalize wr.drew = w107 at HO_532000 HO_565000 HO_565001 HO_575000 HO_575001 BK531 BK564 BK574 HB hx576_0 hx577_0 hHeld ⊢
                                        refine pure_ (i := 0) (N := some 103) (v := ?_) (a' := ?_) #[true, false, false, false, false, false, false, false, false, false, false, false, false, false, false, false] rfl rfl (any_of HT_.out z13_11) (fun _ _ _ h => h) (Or.inl ⟨by rfl, ?_⟩) ?_ ?_
                                        rotate_left
                                        · intro w'
                                          go_simp
                                          with_reducible rfl
                                        rotate_left
                                        · simp only [Act.put, List.setIfInBounds_toArray, List.set_cons_zero, List.set_cons_succ, i64_w, i32_w]
                                          rfl
                                        refine pure_ (i := 1) (N := some 104) (v := ?_) (a' := ?_) #[true, true, false, false, false, false, false, false, false, false, false, false, false, false, false, false] rfl rfl (any_of HT_.out z13_11) (fun _ _ _ h => h) (Or.inl ⟨by rfl, ?_⟩) ?_ ?_
                                        rotate_left
                                        · intro w'
                                          go_simp
                                          with_reducible rfl
                                        rotate_left
                                        · simp only [Act.put, List.setIfInBounds_toArray, List.set_cons_zero, List.set_cons_succ, i64_w, i32_w]
                                          rfl
                                        refine pure_ (i := 2) (N := some 105) (v := ?_) (a' := ?_) #[true, true, true, false, false, false, false, false, false, false, false, false, false, false, false, false] rfl rfl (any_of HT_.out z13_11) (fun _ _ _ h => h) (Or.inl ⟨by rfl, ?_⟩) ?_ ?_
                                        rotate_left
                                        · intro w'
                                          go_simp
                                          with_reducible rfl
                                        rotate_left
                                        · simp only [Act.put, List.setIfInBounds_toArray, List.set_cons_zero, List.set_cons_succ, i64_w, i32_w]
                                          rfl
                                        refine pure_ (i := 3) (N := some 106) (v := ?_) (a' := ?_) #[true, true, true, true, false, false, false, false, false, false, false, false, false, false, false, false] rfl rfl (any_of HT_.out z13_11) (fun _ _ _ h => h) (Or.inl ⟨by rfl, ?_⟩) ?_ ?_
                                        rotate_left
                                        · intro w'
                                          go_simp
                                          with_reducible rfl
                                        rotate_left
                                        · simp only [Act.put, List.setIfInBounds_toArray, List.set_cons_zero, List.set_cons_succ, i64_w, i32_w]
                                          rfl
                                        refine pure_ (i := 4) (N := some 107) (v := ?_) (a' := ?_) #[true, true, true, true, true, false, false, false, false, false, false, false, false, false, false, false] rfl rfl (any_of HT_.out z13_11) (fun _ _ _ h => h) (Or.inl ⟨by rfl, ?_⟩) ?_ ?_
                                        rotate_left
                                        · intro w'
                                          go_simp
                                          with_reducible rfl
                                        rotate_left
                                        · simp only [Act.put, List.setIfInBounds_toArray, List.set_cons_zero, List.set_cons_succ, i64_w, i32_w]
                                          rfl
                                        refine pure_ (i := 6) (N := some 109) (v := ?_) (a' := ?_) #[true, true, true, true, true, false, true, false, false, false, false, false, false, false, false, false] rfl rfl (any_of HT_.out z13_11) (fun _ _ _ h => h) (Or.inl ⟨by rfl, ?_⟩) ?_ ?_
                                        rotate_left
                                        · intro w'
                                          go_simp
                                          with_reducible rfl
                                        rotate_left
                                        · simp only [Act.put, List.setIfInBounds_toArray, List.set_cons_zero, List.set_cons_succ, i64_w, i32_w]
                                          rfl
                                        refine pure_ (i := 9) (N := some 112) (v := ?_) (a' := ?_) #[true, true, true, true, true, false, true, false, false, true, false, false, false, false, false, false] rfl rfl (any_of HT_.out z13_11) (fun _ _ _ h => h) (Or.inl ⟨by rfl, ?_⟩) ?_ ?_
                                        rotate_left
                                        · intro w'
                                          go_simp
                                          with_reducible rfl
                                        rotate_left
                                        · simp only [Act.put, List.setIfInBounds_toArray, List.set_cons_zero, List.set_cons_succ, i64_w, i32_w]
                                          rfl
                                        refine pure_ (i := 11) (N := some 114) (v := ?_) (a' := ?_) #[true, true, true, true, true, false, true, false, false, true, false, true, false, false, false, false] rfl rfl (any_of HT_.out z13_11) (fun _ _ _ h => h) (Or.inl ⟨by rfl, ?_⟩) ?_ ?_
                                        rotate_left
                                        · intro w'
                                          go_simp
                                          with_reducible rfl
                                        rotate_left
                                        · simp only [Act.put, List.setIfInBounds_toArray, List.set_cons_zero, List.set_cons_succ, i64_w, i32_w]
                                          rfl
                                        refine take_ (i := 5) (N := some 108) (v := ?_) (a' := ?_) #[true, true, true, true, true, true, true, false, false, true, false, true, false, false, false, false] rfl rfl (take_ofW HT_.out HW_.out z13_11) (fun _ _ _ h => h) (Or.inl ⟨by rfl, ?_⟩) hHeld ?_ ?_
                                        rotate_left
                                        · rintro w' ⟨s0, s1, s2, s3, s4, s5, s6, s7, s8, s9⟩
                                          go_simp
                                          with_reducible rfl
                                        rotate_left
                                        · simp only [Act.put, List.setIfInBounds_toArray, List.set_cons_zero, List.set_cons_succ, i64_w, i32_w]
                                          rfl
                                        refine pure_ (i := 7) (N := some 110) (v := ?_) (a' := ?_) #[true, true, true, true, true, true, true, true, false, true, false, true, false, false, false, false] rfl rfl (any_of HT_.out z13_11) (fun _ _ _ h => h) (Or.inl ⟨by rfl, ?_⟩) ?_ ?_
                                        rotate_left
                                        · intro w'
                                          go_simp
                                          with_reducible rfl
                                        rotate_left
                                        · simp only [Act.put, List.setIfInBounds_toArray, List.set_cons_zero, List.set_cons_succ, i64_w, i32_w]
                                          rfl
                                        refine take_ (i := 8) (N := some 111) (v := ?_) (a' := ?_) #[true, true, true, true, true, true, true, true, true, true, false, true, false, false, false, false] rfl rfl (take_ofW HT_.out HW_.out z13_11) (fun _ _ _ h => h) (Or.inl ⟨by rfl, ?_⟩) hHeld ?_ ?_
                                        rotate_left
                                        · rintro w' ⟨s0, s1, s2, s3, s4, s5, s6, s7, s8, s9⟩
                                          go_simp
                                          with_reducible rfl
                                        rotate_left
                                        · simp only [Act.put, List.setIfInBounds_toArray, List.set_cons_zero, List.set_cons_succ, i64_w, i32_w]
                                          rfl
                                        refine take_ (i := 10) (N := some 113) (v := ?_) (a' := ?_) #[true, true, true, true, true, true, true, true, true, true, true, true, false, false, false, false] rfl rfl (take_ofW HT_.out HW_.out z13_11) (fun _ _ _ h => h) (Or.inl ⟨by rfl, ?_⟩) hHeld ?_ ?_
                                        rotate_left
                                        · rintro w' ⟨s0, s1, s2, s3, s4, s5, s6, s7, s8, s9⟩
                                          go_simp
                                          with_reducible rfl
                                        rotate_left
                                        · simp only [Act.put, List.setIfInBounds_toArray, List.set_cons_zero, List.set_cons_succ, i64_w, i32_w]
                                          rfl
                                        refine pure_ (i := 12) (N := some 115) (v := ?_) (a' := ?_) #[true, true, true, true, true, true, true, true, true, true, true, true, true, false, false, false] rfl rfl (any_of HT_.out z13_11) (fun _ _ _ h => h) (Or.inl ⟨by rfl, ?_⟩) ?_ ?_
                                        rotate_left
                                        · intro w'
                                          go_simp
                                          with_reducible rfl
                                        rotate_left
                                        · simp only [Act.put, List.setIfInBounds_toArray, List.set_cons_zero, List.set_cons_succ, i64_w, i32_w]
                                          rfl
                                        refine take_ (i := 13) (N := some 116) (v := ?_) (a' := ?_) #[true, true, true, true, true, true, true, true, true, true, true, true, true, true, false, false] rfl rfl (take_ofW HT_.out HW_.out z13_11) (fun _ _ _ h => h) (Or.inl ⟨by rfl, ?_⟩) hHeld ?_ ?_
                                        rotate_left
                                        · rintro w' ⟨s0, s1, s2, s3, s4, s5, s6, s7, s8, s9⟩
                                          go_simp
                                          with_reducible rfl
                                        rotate_left
                                        · simp only [Act.put, List.setIfInBounds_toArray, List.set_cons_zero, List.set_cons_succ, i64_w, i32_w]
                                          rfl
                                        refine pure_ (i := 14) (N := some 117) (v := ?_) (a' := ?_) #[true, true, true, true, true, true, true, true, true, true, true, true, true, true, true, false] rfl rfl (any_of HT_.out z13_11) (fun _ _ _ h => h) (Or.inl ⟨by rfl, ?_⟩) ?_ ?_
                                        rotate_left
                                        · intro w'
                                          go_simp
                                          with_reducible rfl
                                        rotate_left
                                        · simp only [Act.put, List.setIfInBounds_toArray, List.set_cons_zero, List.set_cons_succ, i64_w, i32_w]
                                          rfl
                                        refine pure_ (i := 15) (N := some 118) (v := ?_) (a' := ?_) #[true, true, true, true, true, true, true, true, true, true, true, true, true, true, true, true] rfl rfl (any_of HT_.out z13_11) (fun _ _ _ h => h) (Or.inl ⟨by rfl, ?_⟩) ?_ ?_
                                        rotate_left
                                        · intro w'
                                          go_simp
                                          with_reducible rfl
                                        rotate_left
                                        · simp only [Act.put, List.setIfInBounds_toArray, List.set_cons_zero, List.set_cons_succ, i64_w, i32_w]
                                          rfl
                                        refine done_ (done_of HT_.out z13_11) ?_
                                        try go_wp2
                                        go_ret
                                        exact ⟨by first | rfl | (simp [errW_none, errW_some] <;> rfl) | (simp only [← hji26]; first | rfl | (simp [errW_none, errW_some] <;> rfl)) | (simp [*, errW_none, errW_some] <;> rfl) | (simp [*, errW_none, errW_some, i64_w]; done), by repeat (first | (with_reducible first | exact HB.out | apply below_alloc | apply pw_below_drewN | apply below_drew1 | refine below_set ?_ GE531.out | refine below_set ?_ GE564.out | refine below_set ?_ GE574.out) | exact HB.out)⟩
                                    · rw [if_neg c104] at H
                                      exact absurd H (by simp)
                                  · rw [if_neg c103] at H
                                    exact absurd H (by simp)
                                · rw [if_neg c102] at H
                                  exact absurd H (by simp)
                            · rw [if_neg c99] at H
                              have c99b0 : decide (x13_2 < 8) = false := decide_eq_false c99
                              clear c99
                              by_cases c108 : 0 < (t528.length : Int)
                              · rw [if_pos c108] at H
                                have c108b0 : decide (0 < (t528.length : Int)) = true := decide_eq_true c108
                                have c108b1 : decide (0 < t528.length) = true := decide_eq_true (by omega)
                                clear c108
                                replace H := Option.bind_eq_some_iff.mp H
                                obtain ⟨t579, A1090, H⟩ := H
                                replace H : ((laws_has.f k2 t579 ji26).bind fun t582 => (if t582 = true then (if 0 ≤ ji26 then (if ji26 < (t555.length : Int) then (if ji26 < (t565.length : Int) then (some ((rd t555 ji26) == (rd t565 ji26))) else (none)) else (none)) else (none)) else (some true))) = some r := H
                                have A109 := Aside0.mk A1090
                                clear A1090
                                replace H := Option.bind_eq_some_iff.mp H
                                obtain ⟨t582, A1100, H⟩ := H
                                replace H : (if t582 = true then (if 0 ≤ ji26 then (if ji26 < (t555.length : Int) then (if ji26 < (t565.length : Int) then (some ((rd t555 ji26) == (rd t565 ji26))) else (none)) else (none)) else (none)) else (some true)) = some r := H
                                have A110 := Aside0.mk A1100
                                clear A1100
                                by_cases c111 : t582 = true
                                · subst c111
                                  have H1 : (if 0 ≤ ji26 then (if ji26 < (t555.length : Int) then (if ji26 < (t565.length : Int) then (some ((rd t555 ji26) == (rd t565 ji26))) else (none)) else (none)) else (none)) = some r := by rw [if_pos rfl] at H; exact H
                                  clear H
                                  have H := H1
                                  clear H1
                                  by_cases c112 : 0 ≤ ji26
                                  · rw [if_pos c112] at H
                                    have c112b0 : decide (0 ≤ ji26) = true := decide_eq_true c112
                                    clear c112
                                    by_cases c113 : ji26 < (t555.length : Int)
                                    · rw [if_pos c113] at H
                                      have c113b0 : decide (ji26 < (t555.length : Int)) = true := decide_eq_true c113
                                      clear c113
                                      by_cases c114 : ji26 < (t565.length : Int)
                                      · rw [if_pos c114] at H
                                        have c114b0 : decide (ji26 < (t565.length : Int)) = true := decide_eq_true c114
                                        clear c114
                                        obtain rfl := Option.some.inj H
                                        try go_wp2
                                        have n0_ := Aside0.mk (Kd.S_drew HO_532000.out)
                                        have n1_ := Aside0.mk (Kd.R_drew HO_565000.out)
                                        have n2_ := Aside0.mk (Kd.R_drew HO_565001.out)
                                        have n3_ := Aside0.mk (Kd.R_drew HO_575000.out)
                                        have n4_ := Aside0.mk (Kd.R_drew HO_575001.out)
                                        have n5_ := Aside0.mk (blk_drew BK531.out)
                                        have n6_ := Aside0.mk (blk_drew BK564.out)
                                        have n7_ := Aside0.mk (blk_drew BK574.out)
                                        have n8_ := Aside0.mk (below_drew1 HB.out)
                                        clear HO_532000
                                        clear HO_565000
                                        clear HO_565001
                                        clear HO_575000
                                        clear HO_575001
                                        clear BK531
                                        clear BK564
                                        clear BK574
                                        clear HB
                                        have HO_532000 := n0_
                                        have HO_565000 := n1_
                                        have HO_565001 := n2_
                                        have HO_575000 := n3_
                                        have HO_575001 := n4_
                                        have BK531 := n5_
                                        have BK564 := n6_
                                        have BK574 := n7_
                                        have HB := n8_
                                        clear n0_ n1_ n2_ n3_ n4_ n5_ n6_ n7_ n8_
                                        have p578 : 0 ≤ (0 : Int) := (by omega)
                                        have q578 : 0 < (t528.length : Int) := of_decide_eq_true z13_8
                                        obtain ⟨ad578, A578_0, c578_0, e578, hx578_0, hx578_1, hx578_2, hx578_3, hl578_0, hi578_0⟩ := at_T34 (Kd.S_reads' HO_532000.out).2.2 0 p578 q578
                                        obtain rfl : ad542 = ad578 := (by injection e578)
                                        obtain ⟨ce578, hce578, hMe578, hcc578⟩ := Kd.S_get HO_532000.out z34 0 p578 (by first | exact q578 | exact of_decide_eq_true z13_8 | (have e_ := (Kd.S_reads' HO_532000.out).1; omega))
                                        obtain ⟨ve578_0, rfl, ge578_0⟩ := k34_openM hMe578
                                        have hv578_0 := hcc578 0 _ rfl
                                        rw [Nat.add_zero] at hv578_0
                                        replace hv578_0 := Option.some.inj (hv578_0.symm.trans hx578_0)
                                        rw [hv578_0] at ge578_0
                                        have HL578_0 := Aside0.mk (show Kd.R k77 77 _ _ _ _ ((rd_T34 t528 0).f0) from ge578_0)
                                        clear hv578_0 ge578_0
                                        clear hcc578 hce578
                                        have qi578 : (0 < t528.length) = True := eq_true (by omega)
                                        (try rw [show ((0 : Int)).toNat = 0 from rfl] at hx578_0)
                                        (try rw [show 0 * 4 = 0 from rfl] at hx578_0)
                                        (try rw [Addr.add_zero'] at hx578_0)
                                        (try rw [show ((0 : Int)).toNat = 0 from rfl] at hx578_1)
                                        (try rw [show 0 * 4 = 0 from rfl] at hx578_1)
                                        (try rw [Addr.add_zero'] at hx578_1)
                                        (try rw [show ((0 : Int)).toNat = 0 from rfl] at hx578_2)
                                        (try rw [show 0 * 4 = 0 from rfl] at hx578_2)
                                        (try rw [Addr.add_zero'] at hx578_2)
                                        (try rw [show ((0 : Int)).toNat = 0 from rfl] at hx578_3)
                                        (try rw [show 0 * 4 = 0 from rfl] at hx578_3)
                                        (try rw [Addr.add_zero'] at hx578_3)
                                        have HR578_0 := Aside0.mk hi578_0
                                        have HC578_0 := Aside0.mk hl578_0
                                        clear hi578_0 hl578_0
                                        replace p578 := eq_true p578
                                        replace q578 := eq_true q578
                                        have p583 : 0 ≤ (ji26 : Int) := of_decide_eq_true z13_8
                                        have q583 : ji26 < (t555.length : Int) := of_decide_eq_true z13_8
                                        obtain ⟨ad583, e583, hx583_0⟩ := Kd.at_int (Kd.R_reads' HO_565000.out).2.2 ji26 p583 q583
                                        cases e583
                                        replace p583 := eq_true p583
                                        replace q583 := eq_true q583
                                        have p584 : 0 ≤ (ji26 : Int) := of_decide_eq_true z13_8
                                        have q584 : ji26 < (t565.length : Int) := of_decide_eq_true z13_8
                                        obtain ⟨ad584, e584, hx584_0⟩ := Kd.at_int (Kd.R_reads' HO_575000.out).2.2 ji26 p584 q584
                                        cases e584
                                        replace p584 := eq_true p584
                                        replace q584 := eq_true q584
                                        refine start_ (n := 23) (S := fun w' => w'.cell? ⟨gb531, 0, none⟩ = some (.slice (some ad542) t528.length co35) ∧ w'.cell? ⟨gb564, 0, none⟩ = some (.slice (some ad583) t555.length co54) ∧ w'.cell? ⟨gb564, 1, none⟩ = some (.slice Ao57 t558.length co57) ∧ w'.cell? ⟨gb564, 2, none⟩ = some (.int .i64 t561) ∧ w'.cell? ⟨gb564, 3, none⟩ = some (.int .i64 t562) ∧ w'.cell? ⟨gb574, 0, none⟩ = some (.slice (some ad584) t565.length co62) ∧ w'.cell? ⟨gb574, 1, none⟩ = some (.slice Ao66 t568.length co66) ∧ w'.cell? ⟨gb574, 2, none⟩ = some (.int .i64 t571) ∧ w'.cell? ⟨gb574, 3, none⟩ = some (.int .i64 t572) ∧ w'.cell? ad542 = some (.slice A578_0 ((rd_T34 t528 0).f0).length c578_0) ∧ w'.cell? ⟨ad542.block, ad542.off + 1, none⟩ = some (.int .i64 ((rd_T34 t528 0).f1.f0)) ∧ w'.cell? ⟨ad542.block, ad542.off + 2, none⟩ = some (.int .i64 ((rd_T34 t528 0).f1.f1)) ∧ w'.cell? ⟨ad542.block, ad542.off + 3, none⟩ = some (.int .i64 ((rd_T34 t528 0).f1.f2)) ∧ w'.cell? (ad583.add (ji26).toNat) = some (.int .i64 (rd t555 ji26)) ∧ w'.cell? (ad584.add (ji26).toNat) = some (.int .i64 (rd t565 ji26))) (ds := []) #[false, false, false, false, false, false, false, false, false, false, false, false, false, false, false, false, false, false, false, false, false, false, false] z13_11 rfl rfl ⟨(blk_cell BK531.out 0).trans rfl, (blk_cell BK564.out 0).trans rfl, (blk_cell BK564.out 1).trans rfl, (blk_cell BK564.out 2).trans rfl, (blk_cell BK564.out 3).trans rfl, (blk_cell BK574.out 0).trans rfl, (blk_cell BK574.out 1).trans rfl, (blk_cell BK574.out 2).trans rfl, (blk_cell BK574.out 3).trans rfl, hx578_0, hx578_1, hx578_2, hx578_3, hx583_0, hx584_0⟩ (fun hHeld => ?_); refine with_tabW laws_FnReadsFirst.tab21 laws_FnReadsFirst.bits21 (fun HT_ HW_ => ?_)
                                        generalize wr.drew = w115 at HO_532000 HO_565000 HO_565001 HO_575000 HO_575001 BK531 BK564 BK574 HB HL578_0 HR578_0 hx578_0 hx578_1 hx578_2 hx578_3 hx583_0 hx584_0 hHeld ⊢
                                        refine pure_ (i := 0) (N := some 119) (v := ?_) (a' := ?_) #[true, false, false, false, false, false, false, false, false, false, false, false, false, false, false, false, false, false, false, false, false, false, false] rfl rfl (any_of HT_.out z13_11) (fun _ _ _ h => h) (Or.inl ⟨by rfl, ?_⟩) ?_ ?_
                                        rotate_left
                                        · intro w'
                                          go_simp
                                          with_reducible rfl
                                        rotate_left
                                        · simp only [Act.put, List.setIfInBounds_toArray, List.set_cons_zero, List.set_cons_succ, i64_w, i32_w]
                                          rfl
                                        refine pure_ (i := 6) (N := some 125) (v := ?_) (a' := ?_) #[true, false, false, false, false, false, true, false, false, false, false, false, false, false, false, false, false, false, false, false, false, false, false] rfl rfl (any_of HT_.out z13_11) (fun _ _ _ h => h) (Or.inl ⟨by rfl, ?_⟩) ?_ ?_
                                        rotate_left
                                        · intro w'
                                          go_simp
                                          with_reducible rfl
                                        rotate_left
                                        · simp only [Act.put, List.setIfInBounds_toArray, List.set_cons_zero, List.set_cons_succ, i64_w, i32_w]
                                          rfl
                                        refine take_ (i := 1) (N := some 120) (v := ?_) (a' := ?_) #[true, true, false, false, false, false, true, false, false, false, false, false, false, false, false, false, false, false, false, false, false, false, false] rfl rfl (take_ofW HT_.out HW_.out z13_11) (fun _ _ _ h => h) (Or.inl ⟨by rfl, ?_⟩) hHeld ?_ ?_
                                        rotate_left
                                        · rintro w' ⟨s0, s1, s2, s3, s4, s5, s6, s7, s8, s9, s10, s11, s12, s13, s14⟩
                                          go_simp
                                          with_reducible rfl
                                        rotate_left
                                        · simp only [Act.put, List.setIfInBounds_toArray, List.set_cons_zero, List.set_cons_succ, i64_w, i32_w]
                                          rfl
                                        refine pure_ (i := 2) (N := some 121) (v := ?_) (a' := ?_) #[true, true, true, false, false, false, true, false, false, false, false, false, false, false, false, false, false, false, false, false, false, false, false] rfl rfl (any_of HT_.out z13_11) (fun _ _ _ h => h) (Or.inl ⟨by rfl, ?_⟩) ?_ ?_
                                        rotate_left
                                        · intro w'
                                          go_simp
                                          with_reducible rfl
                                        rotate_left
                                        · simp only [Act.put, List.setIfInBounds_toArray, List.set_cons_zero, List.set_cons_succ, i64_w, i32_w]
                                          rfl
                                        refine pure_ (i := 3) (N := some 122) (v := ?_) (a' := ?_) #[true, true, true, true, false, false, true, false, false, false, false, false, false, false, false, false, false, false, false, false, false, false, false] rfl rfl (any_of HT_.out z13_11) (fun _ _ _ h => h) (Or.inl ⟨by rfl, ?_⟩) ?_ ?_
                                        rotate_left
                                        · intro w'
                                          go_simp
                                          with_reducible rfl
                                        rotate_left
                                        · simp only [Act.put, List.setIfInBounds_toArray, List.set_cons_zero, List.set_cons_succ, i64_w, i32_w]
                                          rfl
                                        refine take_ (i := 4) (N := some 123) (v := ?_) (a' := ?_) #[true, true, true, true, true, false, true, false, false, false, false, false, false, false, false, false, false, false, false, false, false, false, false] rfl rfl (take_ofW HT_.out HW_.out z13_11) (fun _ _ _ h => h) (Or.inl ⟨by rfl, ?_⟩) hHeld ?_ ?_
                                        rotate_left
                                        · rintro w' ⟨s0, s1, s2, s3, s4, s5, s6, s7, s8, s9, s10, s11, s12, s13, s14⟩
                                          go_simp
                                          with_reducible rfl
                                        rotate_left
                                        · simp only [Act.put, List.setIfInBounds_toArray, List.set_cons_zero, List.set_cons_succ, i64_w, i32_w]
                                          rfl
                                        refine one_ (i := 5) (N := some 124) #[true, true, true, true, true, true, true, false, false, false, false, false, false, false, false, false, false, false, false, false, false, false, false] rfl rfl (one_of HT_.out z13_11) (by decide) (fun K hK => ?_)
                                        refine goes_ Try.func45 z13_11 rfl #[.slice A578_0 ((rd_T34 t528 0).f0).length c578_0] (by rfl) rfl rfl z13_2 ?_
                                        with_reducible refine (impl_MustWrite.calls k2 _ _ ((rd_T34 t528 0).f0) t579 _ ?side1 ?side2 A109.out).mono ?_
                                        (case side1 => repeat (first | exact z13_17 | (with_reducible refine Kd.C_alloc ?_ _) | (with_reducible refine Kd.C_drewN ?_ _) | (with_reducible refine Kd.C_drew ?_)))
                                        (case side2 => exact HC578_0.out)
                                        rintro e w116 ⟨v580, rfl, ho0, hb⟩
                                        have HS9_ := (hb.cell (World.block_lt_of_cell? _ _ (hHeld.2.2.2.2.2.2.2.2.2.1))).trans (hHeld.2.2.2.2.2.2.2.2.2.1)
                                        have HS10_ := (hb.cell (World.block_lt_of_cell? _ _ (hHeld.2.2.2.2.2.2.2.2.2.2.1))).trans (hHeld.2.2.2.2.2.2.2.2.2.2.1)
                                        have HS11_ := (hb.cell (World.block_lt_of_cell? _ _ (hHeld.2.2.2.2.2.2.2.2.2.2.2.1))).trans (hHeld.2.2.2.2.2.2.2.2.2.2.2.1)
                                        have HS12_ := (hb.cell (World.block_lt_of_cell? _ _ (hHeld.2.2.2.2.2.2.2.2.2.2.2.2.1))).trans (hHeld.2.2.2.2.2.2.2.2.2.2.2.2.1)
                                        have HS13_ := (hb.cell (World.block_lt_of_cell? _ _ (hHeld.2.2.2.2.2.2.2.2.2.2.2.2.2.1))).trans (hHeld.2.2.2.2.2.2.2.2.2.2.2.2.2.1)
                                        have HS14_ := (hb.cell (World.block_lt_of_cell? _ _ (hHeld.2.2.2.2.2.2.2.2.2.2.2.2.2.2))).trans (hHeld.2.2.2.2.2.2.2.2.2.2.2.2.2.2)
                                        refine ⟨_, rfl, ?_⟩
                                        have n0_ := Aside0.mk (Kd.S_below (by (with_reducible repeat (first | apply Kd.S_alloc | apply Kd.S_drewN | apply Kd.S_drew)); exact HO_532000.out) hb)
                                        have n1_ := Aside0.mk (Kd.R_elder' z13_29 (Kd.R_base ho0) hb)
                                        have n2_ := Aside0.mk (Kd.R_elder' z13_28 (Kd.R_base ho0) hb)
                                        have n3_ := Aside0.mk (Kd.R_elder' z13_27 (Kd.R_base ho0) hb)
                                        have n4_ := Aside0.mk (Kd.R_elder' z13_26 (Kd.R_base ho0) hb)
                                        have n5_ := Aside0.mk (Kd.R_below (by (with_reducible repeat (first | apply Kd.R_alloc | apply Kd.R_drewN | apply Kd.R_drew)); exact HL578_0.out) hb)
                                        have n6_ := Aside0.mk (Kd.R_lower (Kd.R_new' (Kd.R_new' (Kd.R_new' (Kd.R_new' ho0 (Kd.R_lt z13_29)) (Kd.R_lt z13_28)) (Kd.R_lt z13_27)) (Kd.R_lt z13_26)) (below_size z13_13))
                                        have n7_ := Aside0.mk (blk_below (g := gb531) (o := .cells #[.slice (some ad542) t528.length co35] 26 (0, 0)) z13_3 hb)
                                        have n8_ := Aside0.mk (blk_below (g := gb564) (o := .cells #[.slice (some ad583) t555.length co54, .slice Ao57 t558.length co57, .int .i64 t561, .int .i64 t562] 37 (0, 0)) z13_18 hb)
                                        have n9_ := Aside0.mk (blk_below (g := gb574) (o := .cells #[.slice (some ad584) t565.length co62, .slice Ao66 t568.length co66, .int .i64 t571, .int .i64 t572] 37 (0, 0)) (by (with_reducible repeat (first | refine blk_drewN ?_ _ | refine blk_drew ?_ | refine blk_alloc ?_ _)); exact BK574.out) hb)
                                        have n10_ := Aside0.mk (Kd.C_below z13_17 hb)
                                        have n11_ := Aside0.mk (below_step z13_13 hb)
                                        clear HO_532000
                                        clear HO_565000
                                        clear HO_565001
                                        clear HO_575000
                                        clear HO_575001
                                        clear HL578_0
                                        clear BK531
                                        clear BK564
                                        clear BK574
                                        clear HR578_0
                                        clear HB
                                        have HO_532000 := n0_
                                        have HO_565000 := n1_
                                        have HO_565001 := n2_
                                        have HO_575000 := n3_
                                        have HO_575001 := n4_
                                        have HL578_0 := n5_
                                        have HO581 := n6_
                                        have BK531 := n7_
                                        have BK564 := n8_
                                        have BK574 := n9_
                                        have HR578_0 := n10_
                                        have HB := n11_
                                        clear n0_ n1_ n2_ n3_ n4_ n5_ n6_ n7_ n8_ n9_ n10_ n11_
                                        (try clear hb)
                                        (try clear hb2)
                                        (try clear hk)
                                        (try clear hi)
                                        (try clear ho0)
                                        obtain ⟨Ao117, co117, eo117⟩ := Kd.R_slice HO581.out
                                        (first | subst eo117 | (injection eo117 with f1_ f2_ f3_; have f4_ := f1_.symm; have f5_ := f3_.symm; clear f1_ f2_ f3_; subst f4_; subst f5_))
                                        refine hK.out _ _ ⟨(blk_cell BK531.out 0).trans rfl, (blk_cell BK564.out 0).trans rfl, (blk_cell BK564.out 1).trans rfl, (blk_cell BK564.out 2).trans rfl, (blk_cell BK564.out 3).trans rfl, (blk_cell BK574.out 0).trans rfl, (blk_cell BK574.out 1).trans rfl, (blk_cell BK574.out 2).trans rfl, (blk_cell BK574.out 3).trans rfl, HS9_, HS10_, HS11_, HS12_, HS13_, HS14_⟩ (fun hHeld => ?_)
                                        clear hK K
                                        refine norm_ (a' := ?_) ?_ ?_
                                        rotate_left
                                        · show Act.put _ (some 124) _ = _
                                          simp only [Act.put, List.setIfInBounds_toArray, List.set_cons_zero, List.set_cons_succ, i64_w, i32_w]
                                          rfl
                                        refine one_ (i := 7) (N := some 126) #[true, true, true, true, true, true, true, true, false, false, false, false, false, false, false, false, false, false, false, false, false, false, false] rfl rfl (one_of HT_.out z13_11) (by decide) (fun K hK => ?_)
                                        refine goes_ Try.func46 z13_11 rfl #[.slice Ao117 t579.length co117, .int .i64 ji26] (by rfl) rfl rfl z13_25 ?_
                                        with_reducible refine (laws_has.calls k2 _ _ t579 ji26 true _ ?side1 ?side2 A110.out).mono ?_
                                        (case side1 => repeat (first | exact (Kd.R_reads' HO581.out).2.2 | (with_reducible refine Kd.C_alloc ?_ _) | (with_reducible refine Kd.C_drewN ?_ _) | (with_reducible refine Kd.C_drew ?_)))
                                        (case side2 => exact (Kd.R_reads' HO581.out).2.1)
                                        rintro e w' ⟨rfl, ⟨nd, rfl⟩⟩
                                        refine ⟨_, rfl, ?_⟩
                                        refine hK.out _ _ ⟨(blk_cell BK531.out 0).trans rfl, (blk_cell BK564.out 0).trans rfl, (blk_cell BK564.out 1).trans rfl, (blk_cell BK564.out 2).trans rfl, (blk_cell BK564.out 3).trans rfl, (blk_cell BK574.out 0).trans rfl, (blk_cell BK574.out 1).trans rfl, (blk_cell BK574.out 2).trans rfl, (blk_cell BK574.out 3).trans rfl, hHeld.2.2.2.2.2.2.2.2.2.1, hHeld.2.2.2.2.2.2.2.2.2.2.1, hHeld.2.2.2.2.2.2.2.2.2.2.2.1, hHeld.2.2.2.2.2.2.2.2.2.2.2.2.1, hHeld.2.2.2.2.2.2.2.2.2.2.2.2.2.1, hHeld.2.2.2.2.2.2.2.2.2.2.2.2.2.2⟩ (fun hHeld => ?_)
                                        clear hK K
                                        refine norm_ (a' := ?_) ?_ ?_
                                        rotate_left
                                        · show Act.put _ (some 126) _ = _
                                          simp only [Act.put, List.setIfInBounds_toArray, List.set_cons_zero, List.set_cons_succ, i64_w, i32_w]
                                          rfl
                                        refine pure_ (i := 8) (N := some 127) (v := ?_) (a' := ?_) #[true, true, true, true, true, true, true, true, true, false, false, false, false, false, false, false, false, false, false, false, false, false, false] rfl rfl (any_of HT_.out z13_11) (fun _ _ _ h => h) (Or.inl ⟨by rfl, ?_⟩) ?_ ?_
                                        rotate_left
                                        · intro w'
                                          go_simp
                                          with_reducible rfl
                                        rotate_left
                                        · simp only [Act.put, List.setIfInBounds_toArray, List.set_cons_zero, List.set_cons_succ, i64_w, i32_w]
                                          rfl
                                        refine pure_ (i := 9) (N := some 128) (v := ?_) (a' := ?_) #[true, true, true, true, true, true, true, true, true, true, false, false, false, false, false, false, false, false, false, false, false, false, false] rfl rfl (any_of HT_.out z13_11) (fun _ _ _ h => h) (Or.inl ⟨by rfl, ?_⟩) ?_ ?_
                                        rotate_left
                                        · intro w'
                                          go_simp
                                          with_reducible rfl
                                        rotate_left
                                        · simp only [Act.put, List.setIfInBounds_toArray, List.set_cons_zero, List.set_cons_succ, i64_w, i32_w]
                                          rfl
                                        refine pure_ (i := 10) (N := some 129) (v := ?_) (a' := ?_) #[true, true, true, true, true, true, true, true, true, true, true, false, false, false, false, false, false, false, false, false, false, false, false] rfl rfl (any_of HT_.out z13_11) (fun _ _ _ h => h) (Or.inl ⟨by rfl, ?_⟩) ?_ ?_
                                        rotate_left
                                        · intro w'
                                          go_simp
                                          with_reducible rfl
                                        rotate_left
                                        · simp only [Act.put, List.setIfInBounds_toArray, List.set_cons_zero, List.set_cons_succ, i64_w, i32_w]
                                          rfl
                                        refine pure_ (i := 12) (N := some 131) (v := ?_) (a' := ?_) #[true, true, true, true, true, true, true, true, true, true, true, false, true, false, false, false, false, false, false, false, false, false, false] rfl rfl (any_of HT_.out z13_11) (fun _ _ _ h => h) (Or.inl ⟨by rfl, ?_⟩) ?_ ?_
                                        rotate_left
                                        · intro w'
                                          go_simp
                                          with_reducible rfl
                                        rotate_left
                                        · simp only [Act.put, List.setIfInBounds_toArray, List.set_cons_zero, List.set_cons_succ, i64_w, i32_w]
                                          rfl
                                        refine pure_ (i := 15) (N := some 134) (v := ?_) (a' := ?_) #[true, true, true, true, true, true, true, true, true, true, true, false, true, false, false, true, false, false, false, false, false, false, false] rfl rfl (any_of HT_.out z13_11) (fun _ _ _ h => h) (Or.inl ⟨by rfl, ?_⟩) ?_ ?_
                                        rotate_left
                                        · intro w'
                                          go_simp
                                          with_reducible rfl
                                        rotate_left
                                        · simp only [Act.put, List.setIfInBounds_toArray, List.set_cons_zero, List.set_cons_succ, i64_w, i32_w]
                                          rfl
                                        refine pure_ (i := 17) (N := some 136) (v := ?_) (a' := ?_) #[true, true, true, true, true, true, true, true, true, true, true, false, true, false, false, true, false, true, false, false, false, false, false] rfl rfl (any_of HT_.out z13_11) (fun _ _ _ h => h) (Or.inl ⟨by rfl, ?_⟩) ?_ ?_
                                        rotate_left
                                        · intro w'
                                          go_simp
                                          with_reducible rfl
                                        rotate_left
                                        · simp only [Act.put, List.setIfInBounds_toArray, List.set_cons_zero, List.set_cons_succ, i64_w, i32_w]
                                          rfl
                                        refine take_ (i := 11) (N := some 130) (v := ?_) (a' := ?_) #[true, true, true, true, true, true, true, true, true, true, true, true, true, false, false, true, false, true, false, false, false, false, false] rfl rfl (take_ofW HT_.out HW_.out z13_11) (fun _ _ _ h => h) (Or.inl ⟨by rfl, ?_⟩) hHeld ?_ ?_
                                        rotate_left
                                        · rintro w' ⟨s0, s1, s2, s3, s4, s5, s6, s7, s8, s9, s10, s11, s12, s13, s14⟩
                                          go_simp
                                          with_reducible rfl
                                        rotate_left
                                        · simp only [Act.put, List.setIfInBounds_toArray, List.set_cons_zero, List.set_cons_succ, i64_w, i32_w]
                                          rfl
                                        refine pure_ (i := 13) (N := some 132) (v := ?_) (a' := ?_) #[true, true, true, true, true, true, true, true, true, true, true, true, true, true, false, true, false, true, false, false, false, false, false] rfl rfl (any_of HT_.out z13_11) (fun _ _ _ h => h) (Or.inl ⟨by rfl, ?_⟩) ?_ ?_
                                        rotate_left
                                        · intro w'
                                          go_simp
                                          with_reducible rfl
                                        rotate_left
                                        · simp only [Act.put, List.setIfInBounds_toArray, List.set_cons_zero, List.set_cons_succ, i64_w, i32_w]
                                          rfl
                                        refine take_ (i := 14) (N := some 133) (v := ?_) (a' := ?_) #[true, true, true, true, true, true, true, true, true, true, true, true, true, true, true, true, false, true, false, false, false, false, false] rfl rfl (take_ofW HT_.out HW_.out z13_11) (fun _ _ _ h => h) (Or.inl ⟨by rfl, ?_⟩) hHeld ?_ ?_
                                        rotate_left
                                        · rintro w' ⟨s0, s1, s2, s3, s4, s5, s6, s7, s8, s9, s10, s11, s12, s13, s14⟩
                                          go_simp
                                          with_reducible rfl
                                        rotate_left
                                        · simp only [Act.put, List.setIfInBounds_toArray, List.set_cons_zero, List.set_cons_succ, i64_w, i32_w]
                                          rfl
                                        refine take_ (i := 16) (N := some 135) (v := ?_) (a' := ?_) #[true, true, true, true, true, true, true, true, true, true, true, true, true, true, true, true, true, true, false, false, false, false, false] rfl rfl (take_ofW HT_.out HW_.out z13_11) (fun _ _ _ h => h) (Or.inl ⟨by rfl, ?_⟩) hHeld ?_ ?_
                                        rotate_left
                                        · rintro w' ⟨s0, s1, s2, s3, s4, s5, s6, s7, s8, s9, s10, s11, s12, s13, s14⟩
                                          go_simp
                                          with_reducible rfl
                                        rotate_left
                                        · simp only [Act.put, List.setIfInBounds_toArray, List.set_cons_zero, List.set_cons_succ, i64_w, i32_w]
                                          rfl
                                        refine pure_ (i := 18) (N := some 137) (v := ?_) (a' := ?_) #[true, true, true, true, true, true, true, true, true, true, true, true, true, true, true, true, true, true, true, false, false, false, false] rfl rfl (any_of HT_.out z13_11) (fun _ _ _ h => h) (Or.inl ⟨by rfl, ?_⟩) ?_ ?_
                                        rotate_left
                                        · intro w'
                                          go_simp
                                          with_reducible rfl
                                        rotate_left
                                        · simp only [Act.put, List.setIfInBounds_toArray, List.set_cons_zero, List.set_cons_succ, i64_w, i32_w]
                                          rfl
                                        refine take_ (i := 19) (N := some 138) (v := ?_) (a' := ?_) #[true, true, true, true, true, true, true, true, true, true, true, true, true, true, true, true, true, true, true, true, false, false, false] rfl rfl (take_ofW HT_.out HW_.out z13_11) (fun _ _ _ h => h) (Or.inl ⟨by rfl, ?_⟩) hHeld ?_ ?_
                                        rotate_left
                                        · rintro w' ⟨s0, s1, s2, s3, s4, s5, s6, s7, s8, s9, s10, s11, s12, s13, s14⟩
                                          go_simp
                                          with_reducible rfl
                                        rotate_left
                                        · simp only [Act.put, List.setIfInBounds_toArray, List.set_cons_zero, List.set_cons_succ, i64_w, i32_w]
                                          rfl
                                        refine pure_ (i := 20) (N := some 139) (v := ?_) (a' := ?_) #[true, true, true, true, true, true, true, true, true, true, true, true, true, true, true, true, true, true, true, true, true, false, false] rfl rfl (any_of HT_.out z13_11) (fun _ _ _ h => h) (Or.inl ⟨by rfl, ?_⟩) ?_ ?_
                                        rotate_left
                                        · intro w'
                                          go_simp
                                          with_reducible rfl
                                        rotate_left
                                        · simp only [Act.put, List.setIfInBounds_toArray, List.set_cons_zero, List.set_cons_succ, i64_w, i32_w]
                                          rfl
                                        refine pure_ (i := 21) (N := some 140) (v := ?_) (a' := ?_) #[true, true, true, true, true, true, true, true, true, true, true, true, true, true, true, true, true, true, true, true, true, true, false] rfl rfl (any_of HT_.out z13_11) (fun _ _ _ h => h) (Or.inl ⟨by rfl, ?_⟩) ?_ ?_
                                        rotate_left
                                        · intro w'
                                          go_simp
                                          with_reducible rfl
                                        rotate_left
                                        · simp only [Act.put, List.setIfInBounds_toArray, List.set_cons_zero, List.set_cons_succ, i64_w, i32_w]
                                          rfl
                                        refine pure_ (i := 22) (N := some 2) (v := ?_) (a' := ?_) #[true, true, true, true, true, true, true, true, true, true, true, true, true, true, true, true, true, true, true, true, true, true, true] rfl rfl (any_of HT_.out z13_11) (fun _ _ _ h => h) (Or.inl ⟨by rfl, ?_⟩) ?_ ?_
                                        rotate_left
                                        · intro w'
                                          go_simp
                                          with_reducible rfl
                                        rotate_left
                                        · simp only [Act.put, List.setIfInBounds_toArray, List.set_cons_zero, List.set_cons_succ, i64_w, i32_w]
                                          rfl
                                        refine done_ (done_of HT_.out z13_11) ?_
                                        try go_wp2
                                        go_ret
                                        exact ⟨by first | rfl | (simp [errW_none, errW_some] <;> rfl) | (simp only [← hji26]; first | rfl | (simp [errW_none, errW_some] <;> rfl)) | (simp [*, errW_none, errW_some] <;> rfl) | (simp [*, errW_none, errW_some, i64_w]; done), by repeat (first | (with_reducible first | exact HB.out | apply below_alloc | apply pw_below_drewN | apply below_drew1 | refine below_set ?_ GE531.out | refine below_set ?_ GE564.out | refine below_set ?_ GE574.out) | exact HB.out)⟩
                                      · rw [if_neg c114] at H
                                        exact absurd H (by simp)
                                    · rw [if_neg c113] at H
                                      exact absurd H (by simp)
                                  · rw [if_neg c112] at H
                                    exact absurd H (by simp)
                                · replace c111 := Bool.eq_false_iff.mpr c111
                                  subst c111
                                  have H1 : (some true) = some r := by rw [if_neg (show ¬ (false = true) by decide)] at H; exact H
                                  clear H
                                  have H := H1
                                  clear H1
                                  obtain rfl := Option.some.inj H
                                  try go_wp2
                                  have n0_ := Aside0.mk (Kd.S_drew HO_532000.out)
                                  have n1_ := Aside0.mk (Kd.R_drew HO_565000.out)
                                  have n2_ := Aside0.mk (Kd.R_drew HO_565001.out)
                                  have n3_ := Aside0.mk (Kd.R_drew HO_575000.out)
                                  have n4_ := Aside0.mk (Kd.R_drew HO_575001.out)
                                  have n5_ := Aside0.mk (blk_drew BK531.out)
                                  have n6_ := Aside0.mk (blk_drew BK564.out)
                                  have n7_ := Aside0.mk (blk_drew BK574.out)
                                  have n8_ := Aside0.mk (below_drew1 HB.out)
                                  clear HO_532000
                                  clear HO_565000
                                  clear HO_565001
                                  clear HO_575000
                                  clear HO_575001
                                  clear BK531
                                  clear BK564
                                  clear BK574
                                  clear HB
                                  have HO_532000 := n0_
                                  have HO_565000 := n1_
                                  have HO_565001 := n2_
                                  have HO_575000 := n3_
                                  have HO_575001 := n4_
                                  have BK531 := n5_
                                  have BK564 := n6_
                                  have BK574 := n7_
                                  have HB := n8_
                                  clear n0_ n1_ n2_ n3_ n4_ n5_ n6_ n7_ n8_
                                  have p578 : 0 ≤ (0 : Int) := (by omega)
                                  have q578 : 0 < (t528.length : Int) := of_decide_eq_true z13_8
                                  obtain ⟨ad578, A578_0, c578_0, e578, hx578_0, hx578_1, hx578_2, hx578_3, hl578_0, hi578_0⟩ := at_T34 (Kd.S_reads' HO_532000.out).2.2 0 p578 q578
                                  obtain rfl : ad542 = ad578 := (by injection e578)
                                  obtain ⟨ce578, hce578, hMe578, hcc578⟩ := Kd.S_get HO_532000.out z34 0 p578 (by first | exact q578 | exact of_decide_eq_true z13_8 | (have e_ := (Kd.S_reads' HO_532000.out).1; omega))
                                  obtain ⟨ve578_0, rfl, ge578_0⟩ := k34_openM hMe578
                                  have hv578_0 := hcc578 0 _ rfl
                                  rw [Nat.add_zero] at hv578_0
                                  replace hv578_0 := Option.some.inj (hv578_0.symm.trans hx578_0)
                                  rw [hv578_0] at ge578_0
                                  have HL578_0 := Aside0.mk (show Kd.R k77 77 _ _ _ _ ((rd_T34 t528 0).f0) from ge578_0)
                                  clear hv578_0 ge578_0
                                  clear hcc578 hce578
                                  have qi578 : (0 < t528.length) = True := eq_true (by omega)
                                  (try rw [show ((0 : Int)).toNat = 0 from rfl] at hx578_0)
                                  (try rw [show 0 * 4 = 0 from rfl] at hx578_0)
                                  (try rw [Addr.add_zero'] at hx578_0)
                                  (try rw [show ((0 : Int)).toNat = 0 from rfl] at hx578_1)
                                  (try rw [show 0 * 4 = 0 from rfl] at hx578_1)
                                  (try rw [Addr.add_zero'] at hx578_1)
                                  (try rw [show ((0 : Int)).toNat = 0 from rfl] at hx578_2)
                                  (try rw [show 0 * 4 = 0 from rfl] at hx578_2)
                                  (try rw [Addr.add_zero'] at hx578_2)
                                  (try rw [show ((0 : Int)).toNat = 0 from rfl] at hx578_3)
                                  (try rw [show 0 * 4 = 0 from rfl] at hx578_3)
                                  (try rw [Addr.add_zero'] at hx578_3)
                                  have HR578_0 := Aside0.mk hi578_0
                                  have HC578_0 := Aside0.mk hl578_0
                                  clear hi578_0 hl578_0
                                  replace p578 := eq_true p578
                                  replace q578 := eq_true q578
                                  refine start_ (n := 23) (S := fun w' => w'.cell? ⟨gb531, 0, none⟩ = some (.slice (some ad542) t528.length co35) ∧ w'.cell? ad542 = some (.slice A578_0 ((rd_T34 t528 0).f0).length c578_0) ∧ w'.cell? ⟨ad542.block, ad542.off + 1, none⟩ = some (.int .i64 ((rd_T34 t528 0).f1.f0)) ∧ w'.cell? ⟨ad542.block, ad542.off + 2, none⟩ = some (.int .i64 ((rd_T34 t528 0).f1.f1)) ∧ w'.cell? ⟨ad542.block, ad542.off + 3, none⟩ = some (.int .i64 ((rd_T34 t528 0).f1.f2))) (ds := []) #[false, false, false, false, false, false, false, false, false, false, false, false, false, false, false, false, false, false, false, false, false, false, false] z13_11 rfl rfl ⟨(blk_cell BK531.out 0).trans rfl, hx578_0, hx578_1, hx578_2, hx578_3⟩ (fun hHeld => ?_); refine with_tabW laws_FnReadsFirst.tab21 laws_FnReadsFirst.bits21 (fun HT_ HW_ => ?_)
                                  generalize wr.drew = w118 at HO_532000 HO_565000 HO_565001 HO_575000 HO_575001 BK531 BK564 BK574 HB HL578_0 HR578_0 hx578_0 hx578_1 hx578_2 hx578_3 hHeld ⊢
                                  refine pure_ (i := 0) (N := some 119) (v := ?_) (a' := ?_) #[true, false, false, false, false, false, false, false, false, false, false, false, false, false, false, false, false, false, false, false, false, false, false] rfl rfl (any_of HT_.out z13_11) (fun _ _ _ h => h) (Or.inl ⟨by rfl, ?_⟩) ?_ ?_
                                  rotate_left
                                  · intro w'
                                    go_simp
                                    with_reducible rfl
                                  rotate_left
                                  · simp only [Act.put, List.setIfInBounds_toArray, List.set_cons_zero, List.set_cons_succ, i64_w, i32_w]
                                    rfl
                                  refine pure_ (i := 6) (N := some 125) (v := ?_) (a' := ?_) #[true, false, false, false, false, false, true, false, false, false, false, false, false, false, false, false, false, false, false, false, false, false, false] rfl rfl (any_of HT_.out z13_11) (fun _ _ _ h => h) (Or.inl ⟨by rfl, ?_⟩) ?_ ?_
                                  rotate_left
                                  · intro w'
                                    go_simp
                                    with_reducible rfl
                                  rotate_left
                                  · simp only [Act.put, List.setIfInBounds_toArray, List.set_cons_zero, List.set_cons_succ, i64_w, i32_w]
                                    rfl
                                  refine take_ (i := 1) (N := some 120) (v := ?_) (a' := ?_) #[true, true, false, false, false, false, true, false, false, false, false, false, false, false, false, false, false, false, false, false, false, false, false] rfl rfl (take_ofW HT_.out HW_.out z13_11) (fun _ _ _ h => h) (Or.inl ⟨by rfl, ?_⟩) hHeld ?_ ?_
                                  rotate_left
                                  · rintro w' ⟨s0, s1, s2, s3, s4⟩
                                    go_simp
                                    with_reducible rfl
                                  rotate_left
                                  · simp only [Act.put, List.setIfInBounds_toArray, List.set_cons_zero, List.set_cons_succ, i64_w, i32_w]
                                    rfl
                                  refine pure_ (i := 2) (N := some 121) (v := ?_) (a' := ?_) #[true, true, true, false, false, false, true, false, false, false, false, false, false, false, false, false, false, false, false, false, false, false, false] rfl rfl (any_of HT_.out z13_11) (fun _ _ _ h => h) (Or.inl ⟨by rfl, ?_⟩) ?_ ?_
                                  rotate_left
                                  · intro w'
                                    go_simp
                                    with_reducible rfl
                                  rotate_left
                                  · simp only [Act.put, List.setIfInBounds_toArray, List.set_cons_zero, List.set_cons_succ, i64_w, i32_w]
                                    rfl
                                  refine pure_ (i := 3) (N := some 122) (v := ?_) (a' := ?_) #[true, true, true, true, false, false, true, false, false, false, false, false, false, false, false, false, false, false, false, false, false, false, false] rfl rfl (any_of HT_.out z13_11) (fun _ _ _ h => h) (Or.inl ⟨by rfl, ?_⟩) ?_ ?_
                                  rotate_left
                                  · intro w'
                                    go_simp
                                    with_reducible rfl
                                  rotate_left
                                  · simp only [Act.put, List.setIfInBounds_toArray, List.set_cons_zero, List.set_cons_succ, i64_w, i32_w]
                                    rfl
                                  refine take_ (i := 4) (N := some 123) (v := ?_) (a' := ?_) #[true, true, true, true, true, false, true, false, false, false, false, false, false, false, false, false, false, false, false, false, false, false, false] rfl rfl (take_ofW HT_.out HW_.out z13_11) (fun _ _ _ h => h) (Or.inl ⟨by rfl, ?_⟩) hHeld ?_ ?_
                                  rotate_left
                                  · rintro w' ⟨s0, s1, s2, s3, s4⟩
                                    go_simp
                                    with_reducible rfl
                                  rotate_left
                                  · simp only [Act.put, List.setIfInBounds_toArray, List.set_cons_zero, List.set_cons_succ, i64_w, i32_w]
                                    rfl
                                  refine one_ (i := 5) (N := some 124) #[true, true, true, true, true, true, true, false, false, false, false, false, false, false, false, false, false, false, false, false, false, false, false] rfl rfl (one_of HT_.out z13_11) (by decide) (fun K hK => ?_)
                                  refine goes_ Try.func45 z13_11 rfl #[.slice A578_0 ((rd_T34 t528 0).f0).length c578_0] (by rfl) rfl rfl z13_2 ?_
                                  with_reducible refine (impl_MustWrite.calls k2 _ _ ((rd_T34 t528 0).f0) t579 _ ?side1 ?side2 A109.out).mono ?_
                                  (case side1 => repeat (first | exact z13_17 | (with_reducible refine Kd.C_alloc ?_ _) | (with_reducible refine Kd.C_drewN ?_ _) | (with_reducible refine Kd.C_drew ?_)))
                                  (case side2 => exact HC578_0.out)
                                  rintro e w119 ⟨v580, rfl, ho0, hb⟩
                                  have HS1_ := (hb.cell (World.block_lt_of_cell? _ _ (hHeld.2.1))).trans (hHeld.2.1)
                                  have HS2_ := (hb.cell (World.block_lt_of_cell? _ _ (hHeld.2.2.1))).trans (hHeld.2.2.1)
                                  have HS3_ := (hb.cell (World.block_lt_of_cell? _ _ (hHeld.2.2.2.1))).trans (hHeld.2.2.2.1)
                                  have HS4_ := (hb.cell (World.block_lt_of_cell? _ _ (hHeld.2.2.2.2))).trans (hHeld.2.2.2.2)
                                  refine ⟨_, rfl, ?_⟩
                                  have n0_ := Aside0.mk (Kd.S_below (by (with_reducible repeat (first | apply Kd.S_alloc | apply Kd.S_drewN | apply Kd.S_drew)); exact HO_532000.out) hb)
                                  have n1_ := Aside0.mk (Kd.R_elder' z13_29 (Kd.R_base ho0) hb)
                                  have n2_ := Aside0.mk (Kd.R_elder' z13_28 (Kd.R_base ho0) hb)
                                  have n3_ := Aside0.mk (Kd.R_elder' z13_27 (Kd.R_base ho0) hb)
                                  have n4_ := Aside0.mk (Kd.R_elder' z13_26 (Kd.R_base ho0) hb)
                                  have n5_ := Aside0.mk (Kd.R_below (by (with_reducible repeat (first | apply Kd.R_alloc | apply Kd.R_drewN | apply Kd.R_drew)); exact HL578_0.out) hb)
                                  have n6_ := Aside0.mk (Kd.R_lower (Kd.R_new' (Kd.R_new' (Kd.R_new' (Kd.R_new' ho0 (Kd.R_lt z13_29)) (Kd.R_lt z13_28)) (Kd.R_lt z13_27)) (Kd.R_lt z13_26)) (below_size z13_13))
                                  have n7_ := Aside0.mk (blk_below (g := gb531) (o := .cells #[.slice (some ad542) t528.length co35] 26 (0, 0)) z13_3 hb)
                                  have n8_ := Aside0.mk (blk_below (g := gb564) (o := .cells #[.slice Ao54 t555.length co54, .slice Ao57 t558.length co57, .int .i64 t561, .int .i64 t562] 37 (0, 0)) z13_18 hb)
                                  have n9_ := Aside0.mk (blk_below (g := gb574) (o := .cells #[.slice Ao62 t565.length co62, .slice Ao66 t568.length co66, .int .i64 t571, .int .i64 t572] 37 (0, 0)) (by (with_reducible repeat (first | refine blk_drewN ?_ _ | refine blk_drew ?_ | refine blk_alloc ?_ _)); exact BK574.out) hb)
                                  have n10_ := Aside0.mk (Kd.C_below z13_17 hb)
                                  have n11_ := Aside0.mk (below_step z13_13 hb)
                                  clear HO_532000
                                  clear HO_565000
                                  clear HO_565001
                                  clear HO_575000
                                  clear HO_575001
                                  clear HL578_0
                                  clear BK531
                                  clear BK564
                                  clear BK574
                                  clear HR578_0
                                  clear HB
                                  have HO_532000 := n0_
                                  have HO_565000 := n1_
                                  have HO_565001 := n2_
                                  have HO_575000 := n3_
                                  have HO_575001 := n4_
                                  have HL578_0 := n5_
                                  have HO581 := n6_
                                  have BK531 := n7_
                                  have BK564 := n8_
                                  have BK574 := n9_
                                  have HR578_0 := n10_
                                  have HB := n11_
                                  clear n0_ n1_ n2_ n3_ n4_ n5_ n6_ n7_ n8_ n9_ n10_ n11_
                                  (try clear hb)
                                  (try clear hb2)
                                  (try clear hk)
                                  (try clear hi)
                                  (try clear ho0)
                                  obtain ⟨Ao120, co120, eo120⟩ := Kd.R_slice HO581.out
                                  (first | subst eo120 | (injection eo120 with f1_ f2_ f3_; have f4_ := f1_.symm; have f5_ := f3_.symm; clear f1_ f2_ f3_; subst f4_; subst f5_))
                                  refine hK.out _ _ ⟨(blk_cell BK531.out 0).trans rfl, HS1_, HS2_, HS3_, HS4_⟩ (fun hHeld => ?_)
                                  clear hK K
                                  refine norm_ (a' := ?_) ?_ ?_
                                  rotate_left
                                  · show Act.put _ (some 124) _ = _
                                    simp only [Act.put, List.setIfInBounds_toArray, List.set_cons_zero, List.set_cons_succ, i64_w, i32_w]
                                    rfl
                                  refine one_ (i := 7) (N := some 126) #[true, true, true, true, true, true, true, true, false, false, false, false, false, false, false, false, false, false, false, false, false, false, false] rfl rfl (one_of HT_.out z13_11) (by decide) (fun K hK => ?_)
                                  refine goes_ Try.func46 z13_11 rfl #[.slice Ao120 t579.length co120, .int .i64 ji26] (by rfl) rfl rfl z13_25 ?_
                                  with_reducible refine (laws_has.calls k2 _ _ t579 ji26 false _ ?side1 ?side2 A110.out).mono ?_
                                  (case side1 => repeat (first | exact (Kd.R_reads' HO581.out).2.2 | (with_reducible refine Kd.C_alloc ?_ _) | (with_reducible refine Kd.C_drewN ?_ _) | (with_reducible refine Kd.C_drew ?_)))
                                  (case side2 => exact (Kd.R_reads' HO581.out).2.1)
                                  rintro e w' ⟨rfl, ⟨nd, rfl⟩⟩
                                  refine ⟨_, rfl, ?_⟩
                                  refine hK.out _ _ ⟨(blk_cell BK531.out 0).trans rfl, hHeld.2.1, hHeld.2.2.1, hHeld.2.2.2.1, hHeld.2.2.2.2⟩ (fun hHeld => ?_)
                                  clear hK K
                                  refine norm_ (a' := ?_) ?_ ?_
                                  rotate_left
                                  · show Act.put _ (some 126) _ = _
                                    simp only [Act.put, List.setIfInBounds_toArray, List.set_cons_zero, List.set_cons_succ, i64_w, i32_w]
                                    rfl
                                  refine pure_ (i := 8) (N := some 127) (v := ?_) (a' := ?_) #[true, true, true, true, true, true, true, true, true, false, false, false, false, false, false, false, false, false, false, false, false, false, false] rfl rfl (any_of HT_.out z13_11) (fun _ _ _ h => h) (Or.inl ⟨by rfl, ?_⟩) ?_ ?_
                                  rotate_left
                                  · intro w'
                                    go_simp
                                    with_reducible rfl
                                  rotate_left
                                  · simp only [Act.put, List.setIfInBounds_toArray, List.set_cons_zero, List.set_cons_succ, i64_w, i32_w]
                                    rfl
                                  refine pure_ (i := 9) (N := some 128) (v := ?_) (a' := ?_) #[true, true, true, true, true, true, true, true, true, true, false, false, false, false, false, false, false, false, false, false, false, false, false] rfl rfl (any_of HT_.out z13_11) (fun _ _ _ h => h) (Or.inl ⟨by rfl, ?_⟩) ?_ ?_
                                  rotate_left
                                  · intro w'
                                    go_simp
                                    with_reducible rfl
                                  rotate_left
                                  · simp only [Act.put, List.setIfInBounds_toArray, List.set_cons_zero, List.set_cons_succ, i64_w, i32_w]
                                    rfl
                                  refine pure_ (i := 10) (N := some 129) (v := undef) (a' := ?_) #[true, true, true, true, true, true, true, true, true, true, true, false, false, false, false, false, false, false, false, false, false, false, false] rfl rfl (any_of HT_.out z13_11) (fun _ _ _ h => h) (Or.inr ⟨by rfl, rfl⟩) ?_ ?_
                                  rotate_left
                                  · simp only [Act.put, List.setIfInBounds_toArray, List.set_cons_zero, List.set_cons_succ, i64_w, i32_w]
                                    rfl
                                  refine pure_ (i := 11) (N := some 130) (v := undef) (a' := ?_) #[true, true, true, true, true, true, true, true, true, true, true, true, false, false, false, false, false, false, false, false, false, false, false] rfl rfl (any_of HT_.out z13_11) (fun _ _ _ h => h) (Or.inr ⟨by rfl, rfl⟩) ?_ ?_
                                  rotate_left
                                  · simp only [Act.put, List.setIfInBounds_toArray, List.set_cons_zero, List.set_cons_succ, i64_w, i32_w]
                                    rfl
                                  refine pure_ (i := 12) (N := some 131) (v := undef) (a' := ?_) #[true, true, true, true, true, true, true, true, true, true, true, true, true, false, false, false, false, false, false, false, false, false, false] rfl rfl (any_of HT_.out z13_11) (fun _ _ _ h => h) (Or.inr ⟨by rfl, rfl⟩) ?_ ?_
                                  rotate_left
                                  · simp only [Act.put, List.setIfInBounds_toArray, List.set_cons_zero, List.set_cons_succ, i64_w, i32_w]
                                    rfl
                                  refine pure_ (i := 13) (N := some 132) (v := undef) (a' := ?_) #[true, true, true, true, true, true, true, true, true, true, true, true, true, true, false, false, false, false, false, false, false, false, false] rfl rfl (any_of HT_.out z13_11) (fun _ _ _ h => h) (Or.inr ⟨by rfl, rfl⟩) ?_ ?_
                                  rotate_left
                                  · simp only [Act.put, List.setIfInBounds_toArray, List.set_cons_zero, List.set_cons_succ, i64_w, i32_w]
                                    rfl
                                  refine pure_ (i := 14) (N := some 133) (v := undef) (a' := ?_) #[true, true, true, true, true, true, true, true, true, true, true, true, true, true, true, false, false, false, false, false, false, false, false] rfl rfl (any_of HT_.out z13_11) (fun _ _ _ h => h) (Or.inr ⟨by rfl, rfl⟩) ?_ ?_
                                  rotate_left
                                  · simp only [Act.put, List.setIfInBounds_toArray, List.set_cons_zero, List.set_cons_succ, i64_w, i32_w]
                                    rfl
                                  refine pure_ (i := 15) (N := some 134) (v := undef) (a' := ?_) #[true, true, true, true, true, true, true, true, true, true, true, true, true, true, true, true, false, false, false, false, false, false, false] rfl rfl (any_of HT_.out z13_11) (fun _ _ _ h => h) (Or.inr ⟨by rfl, rfl⟩) ?_ ?_
                                  rotate_left
                                  · simp only [Act.put, List.setIfInBounds_toArray, List.set_cons_zero, List.set_cons_succ, i64_w, i32_w]
                                    rfl
                                  refine pure_ (i := 16) (N := some 135) (v := undef) (a' := ?_) #[true, true, true, true, true, true, true, true, true, true, true, true, true, true, true, true, true, false, false, false, false, false, false] rfl rfl (any_of HT_.out z13_11) (fun _ _ _ h => h) (Or.inr ⟨by rfl, rfl⟩) ?_ ?_
                                  rotate_left
                                  · simp only [Act.put, List.setIfInBounds_toArray, List.set_cons_zero, List.set_cons_succ, i64_w, i32_w]
                                    rfl
                                  refine pure_ (i := 17) (N := some 136) (v := undef) (a' := ?_) #[true, true, true, true, true, true, true, true, true, true, true, true, true, true, true, true, true, true, false, false, false, false, false] rfl rfl (any_of HT_.out z13_11) (fun _ _ _ h => h) (Or.inr ⟨by rfl, rfl⟩) ?_ ?_
                                  rotate_left
                                  · simp only [Act.put, List.setIfInBounds_toArray, List.set_cons_zero, List.set_cons_succ, i64_w, i32_w]
                                    rfl
                                  refine pure_ (i := 18) (N := some 137) (v := undef) (a' := ?_) #[true, true, true, true, true, true, true, true, true, true, true, true, true, true, true, true, true, true, true, false, false, false, false] rfl rfl (any_of HT_.out z13_11) (fun _ _ _ h => h) (Or.inr ⟨by rfl, rfl⟩) ?_ ?_
                                  rotate_left
                                  · simp only [Act.put, List.setIfInBounds_toArray, List.set_cons_zero, List.set_cons_succ, i64_w, i32_w]
                                    rfl
                                  refine pure_ (i := 19) (N := some 138) (v := undef) (a' := ?_) #[true, true, true, true, true, true, true, true, true, true, true, true, true, true, true, true, true, true, true, true, false, false, false] rfl rfl (any_of HT_.out z13_11) (fun _ _ _ h => h) (Or.inr ⟨by rfl, rfl⟩) ?_ ?_
                                  rotate_left
                                  · simp only [Act.put, List.setIfInBounds_toArray, List.set_cons_zero, List.set_cons_succ, i64_w, i32_w]
                                    rfl
                                  refine pure_ (i := 20) (N := some 139) (v := undef) (a' := ?_) #[true, true, true, true, true, true, true, true, true, true, true, true, true, true, true, true, true, true, true, true, true, false, false] rfl rfl (any_of HT_.out z13_11) (fun _ _ _ h => h) (Or.inr ⟨by rfl, rfl⟩) ?_ ?_
                                  rotate_left
                                  · simp only [Act.put, List.setIfInBounds_toArray, List.set_cons_zero, List.set_cons_succ, i64_w, i32_w]
                                    rfl
                                  refine pure_ (i := 21) (N := some 140) (v := ?_) (a' := ?_) #[true, true, true, true, true, true, true, true, true, true, true, true, true, true, true, true, true, true, true, true, true, true, false] rfl rfl (any_of HT_.out z13_11) (fun _ _ _ h => h) (Or.inl ⟨by rfl, ?_⟩) ?_ ?_
                                  rotate_left
                                  · intro w'
                                    go_simp
                                    with_reducible rfl
                                  rotate_left
                                  · simp only [Act.put, List.setIfInBounds_toArray, List.set_cons_zero, List.set_cons_succ, i64_w, i32_w]
                                    rfl
                                  refine pure_ (i := 22) (N := some 2) (v := ?_) (a' := ?_) #[true, true, true, true, true, true, true, true, true, true, true, true, true, true, true, true, true, true, true, true, true, true, true] rfl rfl (any_of HT_.out z13_11) (fun _ _ _ h => h) (Or.inl ⟨by rfl, ?_⟩) ?_ ?_
                                  rotate_left
                                  · intro w'
                                    go_simp
                                    with_reducible rfl
                                  rotate_left
                                  · simp only [Act.put, List.setIfInBounds_toArray, List.set_cons_zero, List.set_cons_succ, i64_w, i32_w]
                                    rfl
                                  refine done_ (done_of HT_.out z13_11) ?_
                                  try go_wp2
                                  go_ret
                                  exact ⟨by first | rfl | (simp [errW_none, errW_some] <;> rfl) | (simp only [← hji26]; first | rfl | (simp [errW_none, errW_some] <;> rfl)) | (simp [*, errW_none, errW_some] <;> rfl) | (simp [*, errW_none, errW_some, i64_w]; done), by repeat (first | (with_reducible first | exact HB.out | apply below_alloc | apply pw_below_drewN | apply below_drew1 | refine below_set ?_ GE531.out | refine below_set ?_ GE564.out | refine below_set ?_ GE574.out) | exact HB.out)⟩
                              · rw [if_neg c108] at H
                                exact absurd H (by simp)
                · rw [if_neg c28] at H
                  exact absurd H (by simp)
              · rw [if_neg c27] at H
                exact absurd H (by simp)
            · rw [if_neg c25] at H
              exact absurd H (by simp)
          · rw [if_neg c24] at H
            exact absurd H (by simp)
      · rw [if_neg c9] at H
        exact absurd H (by simp)
    · rw [if_neg c8] at H
      exact absurd H (by simp)

/-- THE ONE PURE STATEMENT of laws_FnReadsFirst: yours. -/
def laws_FnReadsFirst.Pure : Prop := ∀ (l0 : List Int), l0.length ≤ maxLen → l0.length * 1 ≤ 140737488351232 → (∀ x ∈ l0, (Lit.int .u8 x).wf = true) → ∃ k, laws_FnReadsFirst.f k l0 = some true
theorem laws_FnReadsFirst.walk (P : laws_FnReadsFirst.Pure) (a0 : Option Addr) (len0 cap0 : Nat) (z0 : List Int) (w : World) (w0 : (a0 = none ∧ len0 = 0 ∧ cap0 = 0 ∧ z0 = []) ∨ ∃ x, a0 = some x ∧ len0 ≤ cap0 ∧ cap0 ≤ maxLen ∧ z0.length = cap0 ∧ (∀ i, i < z0.length → w.cell? (x.add i) = some (.int .u8 (z0.getD i 0))) ∧ ∀ n ∈ z0, (Lit.int .u8 n).wf = true) (y0 : len0 * 1 ≤ 140737488351232) :
    Calls Try.prog 11 #[.slice a0 len0 cap0] w fun e w' => e = .returned (.bool true) ∧ Below w.heap.size w w' := by
  obtain ⟨l0, rfl, hr0, hm0, hw0, hc0⟩ := ReadsInt.ofRowC w0
  obtain ⟨k, h⟩ := P l0 hm0 y0 hw0
  refine (laws_FnReadsFirst.calls k _ _ l0 true w (Kd.C_of_reads (d := (0 : Int)) (h1 := fun _ => rfl) hr0) hc0 h).mono ?_
  rintro e w' ⟨rfl, hd⟩
  exact ⟨rfl, hd⟩

end Go.Proofs.Ytakhaknglhgimaa.G
