/- Functions of the program as plain Lean functions, and that each call comes to its function's answer; written by a program of the session. No condition. -/
import Derived.Test.YtaicbghmfeehkaaGx0
import Derived.Test.YtaicbghmfeehkaaGx3
import Derived.Test.YtaicbghmfeehkaaGx5
import Derived.Test.YtaicbghmfeehkaaGx7
namespace Go.Proofs.Ytaicbghmfeehkaa.G
open Go.RowKit Go.Proofs.YtaicbghmfeehkaaW.PrintWords Go.Proofs.YtaicbghmfeehkaaW.PrintLast Go.Proofs.YtaicbghmfeehkaaW.PrintMore
attribute [local go_sem] max2_int min2_int max_two min_two max_three min_three max_four min_four   -- for this text's walks alone
set_option linter.unusedVariables false
set_option linter.unusedSimpArgs false

theorem z8_0 {P : Prop} (h : P := by repeat (first | (with_reducible first | exact HB.out | apply below_alloc | apply pw_below_drewN | apply below_drew1 | refine below_set ?_ GE289.out) | exact HB.out)) : P := h
theorem z8_1 {P : Prop} (h : P := by (try simp only [List.map_toArray, List.map_cons, List.map_nil]); first | done | rfl | (simp only [List.length_drop, List.length_take]; rfl)) : P := h
theorem z8_2 {P : Prop} (h : P := by repeat (first | (with_reducible first | exact HB.out | apply below_alloc | apply pw_below_drewN | apply below_drew1 | refine below_set ?_ GE289.out | refine below_set ?_ GE301.out) | exact HB.out)) : P := h
theorem z8_3 {P : Prop} (h : P := by (with_reducible repeat (first | refine blk_drewN ?_ _ | refine blk_drew ?_ | refine blk_alloc ?_ _)); exact BK289.out) : P := h
theorem z8_4 {P : Prop} (h : P := by (with_reducible repeat (first | apply Kd.S_alloc | apply Kd.S_drewN | apply Kd.S_drew)); exact HO293.out) : P := h
theorem z8_5 {P : Prop} (h : P := by repeat (first | (with_reducible first | exact HB.out | apply below_alloc | apply pw_below_drewN | apply below_drew1) | exact HB.out)) : P := h
theorem z8_6 {P : Prop} (h : P := by repeat (first | exact (Kd.C_below HR0_0.out HB.out) | (with_reducible refine Kd.C_alloc ?_ _) | (with_reducible refine Kd.C_drewN ?_ _) | (with_reducible refine Kd.C_drew ?_))) : P := h
theorem z8_7 {P : Prop} (h : P := by (with_reducible repeat (first | apply Kd.R_alloc | apply Kd.R_drewN | apply Kd.R_drew)); exact HO296.out) : P := h
theorem z8_8 {P : Prop} (h : P := by (with_reducible repeat (first | apply Kd.S_alloc | apply Kd.S_drewN | apply Kd.S_drew)); exact HO300.out) : P := h
theorem z8_9 {P : Prop} (h : P := by (with_reducible repeat (first | apply Kd.R_alloc | apply Kd.R_drewN | apply Kd.R_drew)); exact HO304.out) : P := h
theorem z8_10 {P : Prop} (h : P := by (with_reducible repeat (first | refine blk_drewN ?_ _ | refine blk_drew ?_ | refine blk_alloc ?_ _)); exact BK301.out) : P := h
theorem z8_11 {P : Prop} (h : P := by repeat (first | exact (Kd.S_reads' HO300.out).2.2 | (with_reducible refine Kd.C_alloc ?_ _) | (with_reducible refine Kd.C_drewN ?_ _) | (with_reducible refine Kd.C_drew ?_))) : P := h
theorem z8_12 {P : Prop} (h : P := by repeat (first | exact (Kd.R_reads' HO304.out).2.2 | (with_reducible refine Kd.C_alloc ?_ _) | (with_reducible refine Kd.C_drewN ?_ _) | (with_reducible refine Kd.C_drew ?_))) : P := h
theorem z8_13 {P : Prop} (h : P := by repeat (first | exact (Kd.C_below HR1.out HB.out) | (with_reducible refine Kd.C_alloc ?_ _) | (with_reducible refine Kd.C_drewN ?_ _) | (with_reducible refine Kd.C_drew ?_))) : P := h
theorem z8_14 {P : Prop} (h : P := by (with_reducible repeat (first | refine blk_drewN ?_ _ | refine blk_drew ?_ | refine blk_alloc ?_ _)); refine blk_put (cs := #[.slice none 0 0]) ?_ 0 _ rfl; (with_reducible repeat (first | refine blk_drewN ?_ _ | refine blk_drew ?_ | refine blk_alloc ?_ _)); exact BK301.out) : P := h
theorem z8_15 {P : Prop} (h : P := by repeat (first | (with_reducible first | exact HB.out | apply below_alloc | apply pw_below_drewN | apply below_drew1 | refine below_set ?_ GE284.out) | exact HB.out)) : P := h
theorem z8_16 {P : Prop} (h : P := by (with_reducible repeat (first | refine blk_drewN ?_ _ | refine blk_drew ?_ | refine blk_alloc ?_ _)); exact BK284.out) : P := h
theorem z8_17 {P : Prop} (h : P := by (with_reducible repeat (first | refine blk_drewN ?_ _ | refine blk_drew ?_ | refine blk_alloc ?_ _)); refine blk_far ?_ NB289_301.out _; (with_reducible repeat (first | refine blk_drewN ?_ _ | refine blk_drew ?_ | refine blk_alloc ?_ _)); exact BK289.out) : P := h
theorem z8_18 {P : Prop} (h : P := by kernel_rfl) : P := h
theorem z8_19 {P : Prop} (h : P := by first | (with_reducible assumption) | assumption) : P := h
theorem z8_20 {P : Prop} (h : P := by repeat (first | exact (Kd.S_reads' HO293.out).2.2 | (with_reducible refine Kd.C_alloc ?_ _) | (with_reducible refine Kd.C_drewN ?_ _) | (with_reducible refine Kd.C_drew ?_))) : P := h
theorem z8_21 {P : Prop} (h : P := by repeat (first | exact (Kd.R_reads' HO296.out).2.2 | (with_reducible refine Kd.C_alloc ?_ _) | (with_reducible refine Kd.C_drewN ?_ _) | (with_reducible refine Kd.C_drew ?_))) : P := h
theorem z8_22 {P : Prop} (h : P := by first | (go_simp; done) | (go_simp; rfl)) : P := h
theorem z8_23 {P : Prop} (h : P := by (with_reducible repeat (first | apply Kd.S_alloc | apply Kd.S_drewN | apply Kd.S_drew)); exact HO308.out) : P := h
theorem z8_24 {P : Prop} (h : P := by repeat (first | exact (Kd.S_reads' HO308.out).2.2 | (with_reducible refine Kd.C_alloc ?_ _) | (with_reducible refine Kd.C_drewN ?_ _) | (with_reducible refine Kd.C_drew ?_))) : P := h
theorem z8_25 {P : Prop} (h : P := by (with_reducible repeat (first | apply Kd.R_alloc | apply Kd.R_drewN | apply Kd.R_drew)); exact (Kd.R_mono (Kd.R_far (p := ⟨gb301, 0, none⟩) (Kd.R_types HO296.out BK301.out (by decide)) (fun _ hk => hk.2) (.slice Ao108 t298.length co108)) (fun _ h_ => h_.1))) : P := h
theorem z8_26 {P : Prop} (h : P := by (with_reducible repeat (first | apply Kd.R_alloc | apply Kd.R_drewN | apply Kd.R_drew)); exact (Kd.R_mono (Kd.R_far (p := ⟨gb301, 0, none⟩) (Kd.R_types HO296.out BK301.out (by decide)) (fun _ hk => hk.2) (.slice Ao85 t298.length co85)) (fun _ h_ => h_.1))) : P := h
theorem z8_27 {P : Prop} (h : P := by (with_reducible repeat (first | apply Kd.R_alloc | apply Kd.R_drewN | apply Kd.R_drew)); exact (Kd.R_mono (Kd.R_far (p := ⟨gb301, 0, none⟩) (Kd.R_types HO296.out BK301.out (by decide)) (fun _ hk => hk.2) (.slice Ao60 t298.length co60)) (fun _ h_ => h_.1))) : P := h
theorem z8_28 {P : Prop} (h : P := by (with_reducible repeat (first | apply Kd.R_alloc | apply Kd.R_drewN | apply Kd.R_drew)); exact (Kd.R_mono (Kd.R_far (p := ⟨gb301, 0, none⟩) (Kd.R_types HO296.out BK301.out (by decide)) (fun _ hk => hk.2) (.slice Ao35 t298.length co35)) (fun _ h_ => h_.1))) : P := h
theorem z8_29 {P : Prop} (h : P := by exact HC0_0.out) : P := h
theorem z8_30 {P : Prop} (h : P := by rw [hg]; exact (below_size z8_5)) : P := h
theorem z8_31 {P : Prop} (h : P := by rw [hg]; exact Nat.ne_of_lt (blk_lt (g := gb289) (o := .cells #[.slice A0_0 l0_0.length c0_0] 48 (0, 0)) z8_3)) : P := h
theorem z8_32 {P : Prop} (h : P := by rw [hg]; exact Nat.ne_of_gt (blk_lt (g := gb289) (o := .cells #[.slice A0_0 l0_0.length c0_0] 48 (0, 0)) z8_3)) : P := h
theorem z8_33 {P : Prop} (h : P := by rw [hg]; exact (below_size z8_0)) : P := h
/-! ### laws_eqTaskS: function 84 -/
def laws_eqTaskS.l0 : Nat → List (S28) → List (S28) → Int → Option (Bool)
  | 0, _, _, _ => none
  | k + 1, x0, x1, x5 => if x5 < (x0.length : Int) then (if 0 ≤ x5 then (if x5 < (x1.length : Int) then ((laws_eqTask.f k ((rd_T28 x0 x5).f0) ((rd_T28 x0 x5).f1.f0) ((rd_T28 x0 x5).f1.f1) ((rd_T28 x0 x5).f1.f2) ((rd_T28 x1 x5).f0) ((rd_T28 x1 x5).f1.f0) ((rd_T28 x1 x5).f1.f1) ((rd_T28 x1 x5).f1.f2)).bind fun t283 => (if t283 = true then (laws_eqTaskS.l0 k x0 x1 (wrap64 (x5 + 1))) else (some false))) else (none)) else (none)) else (some true)
def laws_eqTaskS.f (k : Nat) (l0 : List (S28)) (l1 : List (S28)) : Option (Bool) := if (l0.length : Int) = (l1.length : Int) then (laws_eqTaskS.l0 k l0 l1 0) else (some false)
theorem laws_eqTaskS.mono_l : ∀ k, (∀ y0 y1 y2, LeO (laws_eqTaskS.l0 k y0 y1 y2) (laws_eqTaskS.l0 (k + 1) y0 y1 y2))
  | 0 => fun _ _ _ r h => by simp [laws_eqTaskS.l0] at h
  | k + 1 => by
    have ih0 := laws_eqTaskS.mono_l k
    · intro y0 y1 y2
      unfold laws_eqTaskS.l0
      repeat' first
      | (with_reducible exact ih0 _ _ _)
      | (with_reducible exact laws_eqTask.mono _ _ _ _ _ _ _ _ _)
      | (with_reducible exact LeO.refl _)
      | (with_reducible exact LeO.none _)
      | (with_reducible refine LeO.ite ?_ ?_)
      | (with_reducible refine LeO.bind ?_ (fun _ => ?_))
      | exact ih0 _ _ _
      | exact laws_eqTask.mono _ _ _ _ _ _ _ _ _
      | exact LeO.none _
      | refine LeO.ite ?_ ?_
      | refine LeO.bind ?_ (fun _ => ?_)
theorem laws_eqTaskS.mono : ∀ a0 a1 k, LeO (laws_eqTaskS.f k a0 a1) (laws_eqTaskS.f (k + 1) a0 a1) := by
  intro a0 a1 k
  have ih0 := laws_eqTaskS.mono_l k
  unfold laws_eqTaskS.f
  repeat' first
      | (with_reducible exact ih0 _ _ _)
      | (with_reducible exact laws_eqTask.mono _ _ _ _ _ _ _ _ _)
      | (with_reducible exact LeO.refl _)
      | (with_reducible exact LeO.none _)
      | (with_reducible refine LeO.ite ?_ ?_)
      | (with_reducible refine LeO.bind ?_ (fun _ => ?_))
      | exact ih0 _ _ _
      | exact laws_eqTask.mono _ _ _ _ _ _ _ _ _
      | exact LeO.none _
      | refine LeO.ite ?_ ?_
      | refine LeO.bind ?_ (fun _ => ?_)
def laws_eqTaskS.T6 : Bool × List (List Nat × List Nat) := (true, [([], []), ([], []), ([0, 1], [0, 1]), ([2], [2]), ([], []), ([], []), ([4, 5], [4, 5]), ([6], [6]), ([3, 7], [3, 7]), ([8], [8])])
def laws_eqTaskS.B6 : List Nat := [0, 0, 3, 7, 0, 0, 48, 112, 255, 511]
theorem laws_eqTaskS.tab6 : rtab .any (opsOf Try.f84 6) = laws_eqTaskS.T6 := by kernel_rfl
theorem laws_eqTaskS.bits6 : waitsOk laws_eqTaskS.T6.2 laws_eqTaskS.B6 = true := by kernel_rfl
set_option maxHeartbeats 8000000 in
set_option maxRecDepth 100000 in
theorem laws_eqTaskS.calls (k : Nat) (A0 : Option Addr) (c0 : Nat) (l0 : List (S28)) (A1 : Option Addr) (c1 : Nat) (l1 : List (S28)) (r : Bool) (w : World) (hr0 : Kd.C k28 w A0 l0.length l0) (hc0 : l0.length ≤ c0) (hr1 : Kd.C k28 w A1 l1.length l1) (hc1 : l1.length ≤ c1) (h : laws_eqTaskS.f k l0 l1 = some r) :
    Calls Try.prog 84 #[.slice A0 l0.length c0, .slice A1 l1.length c1] w fun e w' => e = .returned (.bool r) ∧ Below w.heap.size w w' := by
  have hu28 := Try.underlying28
  have HR0 := Aside0.mk hr0
  have HC0 := Aside0.mk hc0
  clear hr0 hc0
  have HR1 := Aside0.mk hr1
  have HC1 := Aside0.mk hc1
  clear hr1 hc1
  have HB := Aside0.mk (Below.refl w.heap.size w)
  have H : (if (l0.length : Int) = (l1.length : Int) then (laws_eqTaskS.l0 k l0 l1 0) else (some false)) = some r := h
  clear h
  by_cases c3 : (l0.length : Int) = (l1.length : Int)
  · rw [if_pos c3] at H
    have c3b0 : ((l0.length : Int) == (l1.length : Int)) = true := beq_iff_eq.mpr c3
    have c3b1 : ((l0.length : Int) != (l1.length : Int)) = false := bne_eq_false_iff_eq.mpr c3
    have c3b2 : (l0.length == l1.length) = true := by first | simpa using c3 | (simp at c3 ⊢; omega)
    clear c3
    have H' := Aside0.mk H
    clear H
    go_enter Try.func84, Try.ntmps84
    go_wp2
    go_loopg [5] k (fun kq v5 w' => ∃ (x5_1 : Int), v5 = .int .i64 x5_1 ∧ Aside0 (laws_eqTaskS.l0 kq l0 l1 x5_1 = some r) ∧ Aside0 (kq ≤ k) ∧ Aside0 (Below w.heap.size w w'))
    case atStart => exact ⟨(0), (by first | rfl | (simp; done) | (simp [*]; done)), H', ⟨Nat.le_refl _⟩, ⟨by repeat (first | (with_reducible first | exact HB.out | apply below_alloc | apply pw_below_drewN | apply below_drew1) | exact HB.out)⟩⟩
    case round =>
      clear H'
      (try clear c1); (try clear c3); (try clear c3b0); (try clear c3b1); (try clear c3b2)
      obtain ⟨x5_1, rfl, HA, HK1, HB⟩ := hrel
      cases gk with
      | zero => exact absurd HA.out (by simp [laws_eqTaskS.l0])
      | succ k1 =>
        have H := HA.out
        clear HA
        simp only [laws_eqTaskS.l0] at H
        by_cases c4 : x5_1 < (l0.length : Int)
        · rw [if_pos c4] at H
          have c4b0 : decide (x5_1 < (l0.length : Int)) = true := decide_eq_true c4
          clear c4
          by_cases c5 : 0 ≤ x5_1
          · rw [if_pos c5] at H
            have c5b0 : decide (0 ≤ x5_1) = true := decide_eq_true c5
            clear c5
            by_cases c6 : x5_1 < (l1.length : Int)
            · rw [if_pos c6] at H
              have c6b0 : decide (x5_1 < (l1.length : Int)) = true := decide_eq_true c6
              clear c6
              replace H := Option.bind_eq_some_iff.mp H
              obtain ⟨t283, A70, H⟩ := H
              replace H : (if t283 = true then (laws_eqTaskS.l0 k1 l0 l1 (wrap64 (x5_1 + 1))) else (some false)) = some r := H
              have A7 := Aside0.mk A70
              clear A70
              by_cases c8 : t283 = true
              · subst c8
                have H1 : (laws_eqTaskS.l0 k1 l0 l1 (wrap64 (x5_1 + 1))) = some r := by rw [if_pos rfl] at H; exact H
                clear H
                have H := H1
                clear H1
                have H' := Aside0.mk H
                clear H
                try go_wp2
                have n0_ := Aside0.mk (below_drew1 HB.out)
                clear HB
                have HB := n0_
                clear n0_
                have p281 : 0 ≤ (x5_1 : Int) := of_decide_eq_true z8_19
                have q281 : x5_1 < (l0.length : Int) := of_decide_eq_true z8_19
                obtain ⟨ad281, A281_0, c281_0, e281, hx281_0, hx281_1, hx281_2, hx281_3, hl281_0, hi281_0⟩ := at_T28 HR0.out x5_1 p281 q281
                have hw281_3 := hx281_3
                have hw281_2 := hx281_2
                have hw281_1 := hx281_1
                have hw281_0 := hx281_0
                cases e281
                replace hx281_0 := (HB.out.cell (World.block_lt_of_cell? w _ hx281_0)).trans hx281_0
                replace hx281_1 := (HB.out.cell (World.block_lt_of_cell? w _ hx281_1)).trans hx281_1
                replace hx281_2 := (HB.out.cell (World.block_lt_of_cell? w _ hx281_2)).trans hx281_2
                replace hx281_3 := (HB.out.cell (World.block_lt_of_cell? w _ hx281_3)).trans hx281_3
                have HR281_0 := Aside0.mk hi281_0
                have HC281_0 := Aside0.mk hl281_0
                clear hi281_0 hl281_0
                replace p281 := eq_true p281
                replace q281 := eq_true q281
                have p282 : 0 ≤ (x5_1 : Int) := of_decide_eq_true z8_19
                have q282 : x5_1 < (l1.length : Int) := of_decide_eq_true z8_19
                obtain ⟨ad282, A282_0, c282_0, e282, hx282_0, hx282_1, hx282_2, hx282_3, hl282_0, hi282_0⟩ := at_T28 HR1.out x5_1 p282 q282
                have hw282_3 := hx282_3
                have hw282_2 := hx282_2
                have hw282_1 := hx282_1
                have hw282_0 := hx282_0
                cases e282
                replace hx282_0 := (HB.out.cell (World.block_lt_of_cell? w _ hx282_0)).trans hx282_0
                replace hx282_1 := (HB.out.cell (World.block_lt_of_cell? w _ hx282_1)).trans hx282_1
                replace hx282_2 := (HB.out.cell (World.block_lt_of_cell? w _ hx282_2)).trans hx282_2
                replace hx282_3 := (HB.out.cell (World.block_lt_of_cell? w _ hx282_3)).trans hx282_3
                have HR282_0 := Aside0.mk hi282_0
                have HC282_0 := Aside0.mk hl282_0
                clear hi282_0 hl282_0
                replace p282 := eq_true p282
                replace q282 := eq_true q282
                refine start_ (n := 10) (S := fun w' => w'.cell? (ad281.add ((x5_1).toNat * 4)) = some (.slice A281_0 ((rd_T28 l0 x5_1).f0).length c281_0) ∧ w'.cell? ⟨(ad281.add ((x5_1).toNat * 4)).block, (ad281.add ((x5_1).toNat * 4)).off + 1, none⟩ = some (.int .i64 ((rd_T28 l0 x5_1).f1.f0)) ∧ w'.cell? ⟨(ad281.add ((x5_1).toNat * 4)).block, (ad281.add ((x5_1).toNat * 4)).off + 2, none⟩ = some (.int .i64 ((rd_T28 l0 x5_1).f1.f1)) ∧ w'.cell? ⟨(ad281.add ((x5_1).toNat * 4)).block, (ad281.add ((x5_1).toNat * 4)).off + 3, none⟩ = some (.int .i64 ((rd_T28 l0 x5_1).f1.f2)) ∧ w'.cell? (ad282.add ((x5_1).toNat * 4)) = some (.slice A282_0 ((rd_T28 l1 x5_1).f0).length c282_0) ∧ w'.cell? ⟨(ad282.add ((x5_1).toNat * 4)).block, (ad282.add ((x5_1).toNat * 4)).off + 1, none⟩ = some (.int .i64 ((rd_T28 l1 x5_1).f1.f0)) ∧ w'.cell? ⟨(ad282.add ((x5_1).toNat * 4)).block, (ad282.add ((x5_1).toNat * 4)).off + 2, none⟩ = some (.int .i64 ((rd_T28 l1 x5_1).f1.f1)) ∧ w'.cell? ⟨(ad282.add ((x5_1).toNat * 4)).block, (ad282.add ((x5_1).toNat * 4)).off + 3, none⟩ = some (.int .i64 ((rd_T28 l1 x5_1).f1.f2))) (ds := []) #[false, false, false, false, false, false, false, false, false, false] z8_18 rfl rfl ⟨((HB.out.cell (World.block_lt_of_cell? w _ hw281_0)).trans hw281_0), ((HB.out.cell (World.block_lt_of_cell? w _ hw281_1)).trans hw281_1), ((HB.out.cell (World.block_lt_of_cell? w _ hw281_2)).trans hw281_2), ((HB.out.cell (World.block_lt_of_cell? w _ hw281_3)).trans hw281_3), ((HB.out.cell (World.block_lt_of_cell? w _ hw282_0)).trans hw282_0), ((HB.out.cell (World.block_lt_of_cell? w _ hw282_1)).trans hw282_1), ((HB.out.cell (World.block_lt_of_cell? w _ hw282_2)).trans hw282_2), ((HB.out.cell (World.block_lt_of_cell? w _ hw282_3)).trans hw282_3)⟩ (fun hHeld => ?_); refine with_tabW laws_eqTaskS.tab6 laws_eqTaskS.bits6 (fun HT_ HW_ => ?_)
                generalize wr.drew = w9 at HB HR281_0 HR282_0 hx281_0 hx281_1 hx281_2 hx281_3 hx282_0 hx282_1 hx282_2 hx282_3 hHeld ⊢
                refine pure_ (i := 0) (N := some 17) (v := ?_) (a' := ?_) #[true, false, false, false, false, false, false, false, false, false] rfl rfl (any_of HT_.out z8_18) (fun _ _ _ h => h) (Or.inl ⟨by rfl, ?_⟩) ?_ ?_
                rotate_left
                · intro w'
                  go_simp
                  with_reducible rfl
                rotate_left
                · simp only [Act.put, List.setIfInBounds_toArray, List.set_cons_zero, List.set_cons_succ, i64_w, i32_w]
                  rfl
                refine pure_ (i := 1) (N := some 18) (v := ?_) (a' := ?_) #[true, true, false, false, false, false, false, false, false, false] rfl rfl (any_of HT_.out z8_18) (fun _ _ _ h => h) (Or.inl ⟨by rfl, ?_⟩) ?_ ?_
                rotate_left
                · intro w'
                  go_simp
                  with_reducible rfl
                rotate_left
                · simp only [Act.put, List.setIfInBounds_toArray, List.set_cons_zero, List.set_cons_succ, i64_w, i32_w]
                  rfl
                refine pure_ (i := 2) (N := some 19) (v := ?_) (a' := ?_) #[true, true, true, false, false, false, false, false, false, false] rfl rfl (any_of HT_.out z8_18) (fun _ _ _ h => h) (Or.inl ⟨by rfl, ?_⟩) ?_ ?_
                rotate_left
                · intro w'
                  go_simp
                  with_reducible rfl
                rotate_left
                · simp only [Act.put, List.setIfInBounds_toArray, List.set_cons_zero, List.set_cons_succ, i64_w, i32_w]
                  rfl
                refine pure_ (i := 4) (N := some 21) (v := ?_) (a' := ?_) #[true, true, true, false, true, false, false, false, false, false] rfl rfl (any_of HT_.out z8_18) (fun _ _ _ h => h) (Or.inl ⟨by rfl, ?_⟩) ?_ ?_
                rotate_left
                · intro w'
                  go_simp
                  with_reducible rfl
                rotate_left
                · simp only [Act.put, List.setIfInBounds_toArray, List.set_cons_zero, List.set_cons_succ, i64_w, i32_w]
                  rfl
                refine pure_ (i := 5) (N := some 22) (v := ?_) (a' := ?_) #[true, true, true, false, true, true, false, false, false, false] rfl rfl (any_of HT_.out z8_18) (fun _ _ _ h => h) (Or.inl ⟨by rfl, ?_⟩) ?_ ?_
                rotate_left
                · intro w'
                  go_simp
                  with_reducible rfl
                rotate_left
                · simp only [Act.put, List.setIfInBounds_toArray, List.set_cons_zero, List.set_cons_succ, i64_w, i32_w]
                  rfl
                refine pure_ (i := 6) (N := some 23) (v := ?_) (a' := ?_) #[true, true, true, false, true, true, true, false, false, false] rfl rfl (any_of HT_.out z8_18) (fun _ _ _ h => h) (Or.inl ⟨by rfl, ?_⟩) ?_ ?_
                rotate_left
                · intro w'
                  go_simp
                  with_reducible rfl
                rotate_left
                · simp only [Act.put, List.setIfInBounds_toArray, List.set_cons_zero, List.set_cons_succ, i64_w, i32_w]
                  rfl
                refine take_ (i := 3) (N := some 20) (v := ?_) (a' := ?_) #[true, true, true, true, true, true, true, false, false, false] rfl rfl (take_ofW HT_.out HW_.out z8_18) (fun _ _ _ h => h) (Or.inl ⟨by rfl, ?_⟩) hHeld ?_ ?_
                rotate_left
                · rintro w' ⟨s0, s1, s2, s3, s4, s5, s6, s7⟩
                  go_simp
                  with_reducible rfl
                rotate_left
                · simp only [Act.put, List.setIfInBounds_toArray, List.set_cons_zero, List.set_cons_succ, i64_w, i32_w]
                  rfl
                refine take_ (i := 7) (N := some 24) (v := ?_) (a' := ?_) #[true, true, true, true, true, true, true, true, false, false] rfl rfl (take_ofW HT_.out HW_.out z8_18) (fun _ _ _ h => h) (Or.inl ⟨by rfl, ?_⟩) hHeld ?_ ?_
                rotate_left
                · rintro w' ⟨s0, s1, s2, s3, s4, s5, s6, s7⟩
                  go_simp
                  with_reducible rfl
                rotate_left
                · simp only [Act.put, List.setIfInBounds_toArray, List.set_cons_zero, List.set_cons_succ, i64_w, i32_w]
                  rfl
                refine one_ (i := 8) (N := some 25) #[true, true, true, true, true, true, true, true, true, false] rfl rfl (one_of HT_.out z8_18) (by decide) (fun K hK => ?_)
                refine goes_ Try.func23 z8_18 rfl #[.agg #[.slice A281_0 ((rd_T28 l0 x5_1).f0).length c281_0, .int .i64 ((rd_T28 l0 x5_1).f1.f0), .int .i64 ((rd_T28 l0 x5_1).f1.f1), .int .i64 ((rd_T28 l0 x5_1).f1.f2)], .agg #[.slice A282_0 ((rd_T28 l1 x5_1).f0).length c282_0, .int .i64 ((rd_T28 l1 x5_1).f1.f0), .int .i64 ((rd_T28 l1 x5_1).f1.f1), .int .i64 ((rd_T28 l1 x5_1).f1.f2)]] (by rfl) rfl rfl z8_1 ?_
                with_reducible refine (laws_eqTask.calls k1 _ _ ((rd_T28 l0 x5_1).f0) ((rd_T28 l0 x5_1).f1.f0) ((rd_T28 l0 x5_1).f1.f1) ((rd_T28 l0 x5_1).f1.f2) _ _ ((rd_T28 l1 x5_1).f0) ((rd_T28 l1 x5_1).f1.f0) ((rd_T28 l1 x5_1).f1.f1) ((rd_T28 l1 x5_1).f1.f2) true _ ?side1 ?side2 ?side3 ?side4 A7.out).mono ?_
                (case side1 => repeat (first | exact (Kd.C_below HR281_0.out HB.out) | (with_reducible refine Kd.C_alloc ?_ _) | (with_reducible refine Kd.C_drewN ?_ _) | (with_reducible refine Kd.C_drew ?_)))
                (case side2 => exact HC281_0.out)
                (case side3 => repeat (first | exact (Kd.C_below HR282_0.out HB.out) | (with_reducible refine Kd.C_alloc ?_ _) | (with_reducible refine Kd.C_drewN ?_ _) | (with_reducible refine Kd.C_drew ?_)))
                (case side4 => exact HC282_0.out)
                rintro e w10 ⟨rfl, hb⟩
                refine ⟨_, rfl, ?_⟩
                have n0_ := Aside0.mk (below_step z8_5 hb)
                clear HB
                have HB := n0_
                clear n0_
                (try clear hb)
                (try clear hb2)
                (try clear hk)
                (try clear hi)
                refine hK.out _ _ ⟨((HB.out.cell (World.block_lt_of_cell? w _ hw281_0)).trans hw281_0), ((HB.out.cell (World.block_lt_of_cell? w _ hw281_1)).trans hw281_1), ((HB.out.cell (World.block_lt_of_cell? w _ hw281_2)).trans hw281_2), ((HB.out.cell (World.block_lt_of_cell? w _ hw281_3)).trans hw281_3), ((HB.out.cell (World.block_lt_of_cell? w _ hw282_0)).trans hw282_0), ((HB.out.cell (World.block_lt_of_cell? w _ hw282_1)).trans hw282_1), ((HB.out.cell (World.block_lt_of_cell? w _ hw282_2)).trans hw282_2), ((HB.out.cell (World.block_lt_of_cell? w _ hw282_3)).trans hw282_3)⟩ (fun hHeld => ?_)
                clear hK K
                refine norm_ (a' := ?_) ?_ ?_
                rotate_left
                · show Act.put _ (some 25) _ = _
                  simp only [Act.put, List.setIfInBounds_toArray, List.set_cons_zero, List.set_cons_succ, i64_w, i32_w]
                  rfl
                refine pure_ (i := 9) (N := some 26) (v := ?_) (a' := ?_) #[true, true, true, true, true, true, true, true, true, true] rfl rfl (any_of HT_.out z8_18) (fun _ _ _ h => h) (Or.inl ⟨by rfl, ?_⟩) ?_ ?_
                rotate_left
                · intro w'
                  go_simp
                  with_reducible rfl
                rotate_left
                · simp only [Act.put, List.setIfInBounds_toArray, List.set_cons_zero, List.set_cons_succ, i64_w, i32_w]
                  rfl
                refine done_ (done_of HT_.out z8_18) ?_
                try go_wp2
                go_roundg k1
                case measure => have := HK1.out; omega
                case rel => exact ⟨(wrap64 (x5_1 + 1)), (by first | rfl | (simp; done) | (simp [*]; done)), H', ⟨by have := HK1.out; omega⟩, ⟨by repeat (first | (with_reducible first | exact HB.out | apply below_alloc | apply pw_below_drewN | apply below_drew1) | exact HB.out)⟩⟩
              · replace c8 := Bool.eq_false_iff.mpr c8
                subst c8
                have H1 : (some false) = some r := by rw [if_neg (show ¬ (false = true) by decide)] at H; exact H
                clear H
                have H := H1
                clear H1
                obtain rfl := Option.some.inj H
                try go_wp2
                have n0_ := Aside0.mk (below_drew1 HB.out)
                clear HB
                have HB := n0_
                clear n0_
                have p281 : 0 ≤ (x5_1 : Int) := of_decide_eq_true z8_19
                have q281 : x5_1 < (l0.length : Int) := of_decide_eq_true z8_19
                obtain ⟨ad281, A281_0, c281_0, e281, hx281_0, hx281_1, hx281_2, hx281_3, hl281_0, hi281_0⟩ := at_T28 HR0.out x5_1 p281 q281
                have hw281_3 := hx281_3
                have hw281_2 := hx281_2
                have hw281_1 := hx281_1
                have hw281_0 := hx281_0
                cases e281
                replace hx281_0 := (HB.out.cell (World.block_lt_of_cell? w _ hx281_0)).trans hx281_0
                replace hx281_1 := (HB.out.cell (World.block_lt_of_cell? w _ hx281_1)).trans hx281_1
                replace hx281_2 := (HB.out.cell (World.block_lt_of_cell? w _ hx281_2)).trans hx281_2
                replace hx281_3 := (HB.out.cell (World.block_lt_of_cell? w _ hx281_3)).trans hx281_3
                have HR281_0 := Aside0.mk hi281_0
                have HC281_0 := Aside0.mk hl281_0
                clear hi281_0 hl281_0
                replace p281 := eq_true p281
                replace q281 := eq_true q281
                have p282 : 0 ≤ (x5_1 : Int) := of_decide_eq_true z8_19
                have q282 : x5_1 < (l1.length : Int) := of_decide_eq_true z8_19
                obtain ⟨ad282, A282_0, c282_0, e282, hx282_0, hx282_1, hx282_2, hx282_3, hl282_0, hi282_0⟩ := at_T28 HR1.out x5_1 p282 q282
                have hw282_3 := hx282_3
                have hw282_2 := hx282_2
                have hw282_1 := hx282_1
                have hw282_0 := hx282_0
                cases e282
                replace hx282_0 := (HB.out.cell (World.block_lt_of_cell? w _ hx282_0)).trans hx282_0
                replace hx282_1 := (HB.out.cell (World.block_lt_of_cell? w _ hx282_1)).trans hx282_1
                replace hx282_2 := (HB.out.cell (World.block_lt_of_cell? w _ hx282_2)).trans hx282_2
                replace hx282_3 := (HB.out.cell (World.block_lt_of_cell? w _ hx282_3)).trans hx282_3
                have HR282_0 := Aside0.mk hi282_0
                have HC282_0 := Aside0.mk hl282_0
                clear hi282_0 hl282_0
                replace p282 := eq_true p282
                replace q282 := eq_true q282
                refine start_ (n := 10) (S := fun w' => w'.cell? (ad281.add ((x5_1).toNat * 4)) = some (.slice A281_0 ((rd_T28 l0 x5_1).f0).length c281_0) ∧ w'.cell? ⟨(ad281.add ((x5_1).toNat * 4)).block, (ad281.add ((x5_1).toNat * 4)).off + 1, none⟩ = some (.int .i64 ((rd_T28 l0 x5_1).f1.f0)) ∧ w'.cell? ⟨(ad281.add ((x5_1).toNat * 4)).block, (ad281.add ((x5_1).toNat * 4)).off + 2, none⟩ = some (.int .i64 ((rd_T28 l0 x5_1).f1.f1)) ∧ w'.cell? ⟨(ad281.add ((x5_1).toNat * 4)).block, (ad281.add ((x5_1).toNat * 4)).off + 3, none⟩ = some (.int .i64 ((rd_T28 l0 x5_1).f1.f2)) ∧ w'.cell? (ad282.add ((x5_1).toNat * 4)) = some (.slice A282_0 ((rd_T28 l1 x5_1).f0).length c282_0) ∧ w'.cell? ⟨(ad282.add ((x5_1).toNat * 4)).block, (ad282.add ((x5_1).toNat * 4)).off + 1, none⟩ = some (.int .i64 ((rd_T28 l1 x5_1).f1.f0)) ∧ w'.cell? ⟨(ad282.add ((x5_1).toNat * 4)).block, (ad282.add ((x5_1).toNat * 4)).off + 2, none⟩ = some (.int .i64 ((rd_T28 l1 x5_1).f1.f1)) ∧ w'.cell? ⟨(ad282.add ((x5_1).toNat * 4)).block, (ad282.add ((x5_1).toNat * 4)).off + 3, none⟩ = some (.int .i64 ((rd_T28 l1 x5_1).f1.f2))) (ds := []) #[false, false, false, false, false, false, false, false, false, false] z8_18 rfl rfl ⟨((HB.out.cell (World.block_lt_of_cell? w _ hw281_0)).trans hw281_0), ((HB.out.cell (World.block_lt_of_cell? w _ hw281_1)).trans hw281_1), ((HB.out.cell (World.block_lt_of_cell? w _ hw281_2)).trans hw281_2), ((HB.out.cell (World.block_lt_of_cell? w _ hw281_3)).trans hw281_3), ((HB.out.cell (World.block_lt_of_cell? w _ hw282_0)).trans hw282_0), ((HB.out.cell (World.block_lt_of_cell? w _ hw282_1)).trans hw282_1), ((HB.out.cell (World.block_lt_of_cell? w _ hw282_2)).trans hw282_2), ((HB.out.cell (World.block_lt_of_cell? w _ hw282_3)).trans hw282_3)⟩ (fun hHeld => ?_); refine with_tabW laws_eqTaskS.tab6 laws_eqTaskS.bits6 (fun HT_ HW_ => ?_)
                generalize wr.drew = w11 at HB HR281_0 HR282_0 hx281_0 hx281_1 hx281_2 hx281_3 hx282_0 hx282_1 hx282_2 hx282_3 hHeld ⊢
                refine pure_ (i := 0) (N := some 17) (v := ?_) (a' := ?_) #[true, false, false, false, false, false, false, false, false, false] rfl rfl (any_of HT_.out z8_18) (fun _ _ _ h => h) (Or.inl ⟨by rfl, ?_⟩) ?_ ?_
                rotate_left
                · intro w'
                  go_simp
                  with_reducible rfl
                rotate_left
                · simp only [Act.put, List.setIfInBounds_toArray, List.set_cons_zero, List.set_cons_succ, i64_w, i32_w]
                  rfl
                refine pure_ (i := 1) (N := some 18) (v := ?_) (a' := ?_) #[true, true, false, false, false, false, false, false, false, false] rfl rfl (any_of HT_.out z8_18) (fun _ _ _ h => h) (Or.inl ⟨by rfl, ?_⟩) ?_ ?_
                rotate_left
                · intro w'
                  go_simp
                  with_reducible rfl
                rotate_left
                · simp only [Act.put, List.setIfInBounds_toArray, List.set_cons_zero, List.set_cons_succ, i64_w, i32_w]
                  rfl
                refine pure_ (i := 2) (N := some 19) (v := ?_) (a' := ?_) #[true, true, true, false, false, false, false, false, false, false] rfl rfl (any_of HT_.out z8_18) (fun _ _ _ h => h) (Or.inl ⟨by rfl, ?_⟩) ?_ ?_
                rotate_left
                · intro w'
                  go_simp
                  with_reducible rfl
                rotate_left
                · simp only [Act.put, List.setIfInBounds_toArray, List.set_cons_zero, List.set_cons_succ, i64_w, i32_w]
                  rfl
                refine pure_ (i := 4) (N := some 21) (v := ?_) (a' := ?_) #[true, true, true, false, true, false, false, false, false, false] rfl rfl (any_of HT_.out z8_18) (fun _ _ _ h => h) (Or.inl ⟨by rfl, ?_⟩) ?_ ?_
                rotate_left
                · intro w'
                  go_simp
                  with_reducible rfl
                rotate_left
                · simp only [Act.put, List.setIfInBounds_toArray, List.set_cons_zero, List.set_cons_succ, i64_w, i32_w]
                  rfl
                refine pure_ (i := 5) (N := some 22) (v := ?_) (a' := ?_) #[true, true, true, false, true, true, false, false, false, false] rfl rfl (any_of HT_.out z8_18) (fun _ _ _ h => h) (Or.inl ⟨by rfl, ?_⟩) ?_ ?_
                rotate_left
                · intro w'
                  go_simp
                  with_reducible rfl
                rotate_left
                · simp only [Act.put, List.setIfInBounds_toArray, List.set_cons_zero, List.set_cons_succ, i64_w, i32_w]
                  rfl
                refine pure_ (i := 6) (N := some 23) (v := ?_) (a' := ?_) #[true, true, true, false, true, true, true, false, false, false] rfl rfl (any_of HT_.out z8_18) (fun _ _ _ h => h) (Or.inl ⟨by rfl, ?_⟩) ?_ ?_
                rotate_left
                · intro w'
                  go_simp
                  with_reducible rfl
                rotate_left
                · simp only [Act.put, List.setIfInBounds_toArray, List.set_cons_zero, List.set_cons_succ, i64_w, i32_w]
                  rfl
                refine take_ (i := 3) (N := some 20) (v := ?_) (a' := ?_) #[true, true, true, true, true, true, true, false, false, false] rfl rfl (take_ofW HT_.out HW_.out z8_18) (fun _ _ _ h => h) (Or.inl ⟨by rfl, ?_⟩) hHeld ?_ ?_
                rotate_left
                · rintro w' ⟨s0, s1, s2, s3, s4, s5, s6, s7⟩
                  go_simp
                  with_reducible rfl
                rotate_left
                · simp only [Act.put, List.setIfInBounds_toArray, List.set_cons_zero, List.set_cons_succ, i64_w, i32_w]
                  rfl
                refine take_ (i := 7) (N := some 24) (v := ?_) (a' := ?_) #[true, true, true, true, true, true, true, true, false, false] rfl rfl (take_ofW HT_.out HW_.out z8_18) (fun _ _ _ h => h) (Or.inl ⟨by rfl, ?_⟩) hHeld ?_ ?_
                rotate_left
                · rintro w' ⟨s0, s1, s2, s3, s4, s5, s6, s7⟩
                  go_simp
                  with_reducible rfl
                rotate_left
                · simp only [Act.put, List.setIfInBounds_toArray, List.set_cons_zero, List.set_cons_succ, i64_w, i32_w]
                  rfl
                refine one_ (i := 8) (N := some 25) #[true, true, true, true, true, true, true, true, true, false] rfl rfl (one_of HT_.out z8_18) (by decide) (fun K hK => ?_)
                refine goes_ Try.func23 z8_18 rfl #[.agg #[.slice A281_0 ((rd_T28 l0 x5_1).f0).length c281_0, .int .i64 ((rd_T28 l0 x5_1).f1.f0), .int .i64 ((rd_T28 l0 x5_1).f1.f1), .int .i64 ((rd_T28 l0 x5_1).f1.f2)], .agg #[.slice A282_0 ((rd_T28 l1 x5_1).f0).length c282_0, .int .i64 ((rd_T28 l1 x5_1).f1.f0), .int .i64 ((rd_T28 l1 x5_1).f1.f1), .int .i64 ((rd_T28 l1 x5_1).f1.f2)]] (by rfl) rfl rfl z8_1 ?_
                with_reducible refine (laws_eqTask.calls k1 _ _ ((rd_T28 l0 x5_1).f0) ((rd_T28 l0 x5_1).f1.f0) ((rd_T28 l0 x5_1).f1.f1) ((rd_T28 l0 x5_1).f1.f2) _ _ ((rd_T28 l1 x5_1).f0) ((rd_T28 l1 x5_1).f1.f0) ((rd_T28 l1 x5_1).f1.f1) ((rd_T28 l1 x5_1).f1.f2) false _ ?side1 ?side2 ?side3 ?side4 A7.out).mono ?_
                (case side1 => repeat (first | exact (Kd.C_below HR281_0.out HB.out) | (with_reducible refine Kd.C_alloc ?_ _) | (with_reducible refine Kd.C_drewN ?_ _) | (with_reducible refine Kd.C_drew ?_)))
                (case side2 => exact HC281_0.out)
                (case side3 => repeat (first | exact (Kd.C_below HR282_0.out HB.out) | (with_reducible refine Kd.C_alloc ?_ _) | (with_reducible refine Kd.C_drewN ?_ _) | (with_reducible refine Kd.C_drew ?_)))
                (case side4 => exact HC282_0.out)
                rintro e w12 ⟨rfl, hb⟩
                refine ⟨_, rfl, ?_⟩
                have n0_ := Aside0.mk (below_step z8_5 hb)
                clear HB
                have HB := n0_
                clear n0_
                (try clear hb)
                (try clear hb2)
                (try clear hk)
                (try clear hi)
                refine hK.out _ _ ⟨((HB.out.cell (World.block_lt_of_cell? w _ hw281_0)).trans hw281_0), ((HB.out.cell (World.block_lt_of_cell? w _ hw281_1)).trans hw281_1), ((HB.out.cell (World.block_lt_of_cell? w _ hw281_2)).trans hw281_2), ((HB.out.cell (World.block_lt_of_cell? w _ hw281_3)).trans hw281_3), ((HB.out.cell (World.block_lt_of_cell? w _ hw282_0)).trans hw282_0), ((HB.out.cell (World.block_lt_of_cell? w _ hw282_1)).trans hw282_1), ((HB.out.cell (World.block_lt_of_cell? w _ hw282_2)).trans hw282_2), ((HB.out.cell (World.block_lt_of_cell? w _ hw282_3)).trans hw282_3)⟩ (fun hHeld => ?_)
                clear hK K
                refine norm_ (a' := ?_) ?_ ?_
                rotate_left
                · show Act.put _ (some 25) _ = _
                  simp only [Act.put, List.setIfInBounds_toArray, List.set_cons_zero, List.set_cons_succ, i64_w, i32_w]
                  rfl
                refine pure_ (i := 9) (N := some 26) (v := ?_) (a' := ?_) #[true, true, true, true, true, true, true, true, true, true] rfl rfl (any_of HT_.out z8_18) (fun _ _ _ h => h) (Or.inl ⟨by rfl, ?_⟩) ?_ ?_
                rotate_left
                · intro w'
                  go_simp
                  with_reducible rfl
                rotate_left
                · simp only [Act.put, List.setIfInBounds_toArray, List.set_cons_zero, List.set_cons_succ, i64_w, i32_w]
                  rfl
                refine done_ (done_of HT_.out z8_18) ?_
                try go_wp2
                go_ret
                exact ⟨by first | rfl | (simp [errW_none, errW_some] <;> rfl) | (simp [*, errW_none, errW_some] <;> rfl) | (simp [*, errW_none, errW_some, i64_w]; done), by repeat (first | (with_reducible first | exact HB.out | apply below_alloc | apply pw_below_drewN | apply below_drew1) | exact HB.out)⟩
            · rw [if_neg c6] at H
              exact absurd H (by simp)
          · rw [if_neg c5] at H
            exact absurd H (by simp)
        · rw [if_neg c4] at H
          have c4b0 : decide (x5_1 < (l0.length : Int)) = false := decide_eq_false c4
          clear c4
          obtain rfl := Option.some.inj H
          go_wp2
          go_ret
          exact ⟨by first | rfl | (simp [errW_none, errW_some] <;> rfl) | (simp [*, errW_none, errW_some] <;> rfl) | (simp [*, errW_none, errW_some, i64_w]; done), by repeat (first | (with_reducible first | exact HB.out | apply below_alloc | apply pw_below_drewN | apply below_drew1) | exact HB.out)⟩
  · rw [if_neg c3] at H
    have c3b0 : ((l0.length : Int) == (l1.length : Int)) = false := beq_eq_false_iff_ne.mpr c3
    have c3b1 : ((l0.length : Int) != (l1.length : Int)) = true := bne_iff_ne.mpr c3
    have c3b2 : (l0.length == l1.length) = false := by first | simpa using c3 | (simp at c3 ⊢; omega)
    obtain rfl := Option.some.inj H
    go_enter Try.func84, Try.ntmps84
    go_wp2
    go_ret
    exact ⟨by first | rfl | (simp [errW_none, errW_some] <;> rfl) | (simp [*, errW_none, errW_some] <;> rfl) | (simp [*, errW_none, errW_some, i64_w]; done), by repeat (first | (with_reducible first | exact HB.out | apply below_alloc | apply pw_below_drewN | apply below_drew1) | exact HB.out)⟩

/-! ### laws_eqProgram: function 35 -/
def laws_eqProgram.f (k : Nat) (l0_0 : List (S28)) (l1_0 : List (S28)) : Option (Bool) := (laws_eqTaskS.f k l0_0 l1_0).bind fun t286 => (if t286 = true then (some true) else (some false))
theorem laws_eqProgram.mono : ∀ a0 a1 k, LeO (laws_eqProgram.f k a0 a1) (laws_eqProgram.f (k + 1) a0 a1) := by
  intro a0 a1 k
  unfold laws_eqProgram.f
  repeat' first
      | (with_reducible exact laws_eqTaskS.mono _ _ _)
      | (with_reducible exact LeO.refl _)
      | (with_reducible exact LeO.none _)
      | (with_reducible refine LeO.ite ?_ ?_)
      | (with_reducible refine LeO.bind ?_ (fun _ => ?_))
      | exact laws_eqTaskS.mono _ _ _
      | exact LeO.none _
      | refine LeO.ite ?_ ?_
      | refine LeO.bind ?_ (fun _ => ?_)
set_option maxHeartbeats 8000000 in
set_option maxRecDepth 100000 in
theorem laws_eqProgram.calls (k : Nat) (A0_0 : Option Addr) (c0_0 : Nat) (l0_0 : List (S28)) (A1_0 : Option Addr) (c1_0 : Nat) (l1_0 : List (S28)) (r : Bool) (w : World) (hr0_0 : Kd.C k28 w A0_0 l0_0.length l0_0) (hc0_0 : l0_0.length ≤ c0_0) (hr1_0 : Kd.C k28 w A1_0 l1_0.length l1_0) (hc1_0 : l1_0.length ≤ c1_0) (h : laws_eqProgram.f k l0_0 l1_0 = some r) :
    Calls Try.prog 35 #[.agg #[.slice A0_0 l0_0.length c0_0], .agg #[.slice A1_0 l1_0.length c1_0]] w fun e w' => e = .returned (.bool r) ∧ Below w.heap.size w w' := by
  have hu53 := Try.underlying53
  have HR0_0 := Aside0.mk hr0_0
  have HC0_0 := Aside0.mk hc0_0
  clear hr0_0 hc0_0
  have HR1_0 := Aside0.mk hr1_0
  have HC1_0 := Aside0.mk hc1_0
  clear hr1_0 hc1_0
  have HB := Aside0.mk (Below.refl w.heap.size w)
  have H : ((laws_eqTaskS.f k l0_0 l1_0).bind fun t286 => (if t286 = true then (some true) else (some false))) = some r := h
  clear h
  replace H := Option.bind_eq_some_iff.mp H
  obtain ⟨t286, A30, H⟩ := H
  replace H : (if t286 = true then (some true) else (some false)) = some r := H
  have A3 := Aside0.mk A30
  clear A30
  by_cases c4 : t286 = true
  · subst c4
    have H1 : (some true) = some r := by rw [if_pos rfl] at H; exact H
    clear H
    have H := H1
    clear H1
    obtain rfl := Option.some.inj H
    go_enter Try.func35, Try.ntmps35
    go_wp2_with (first | ((with_reducible refine gate_dst (N := 2) rfl ?_); refine box_event ?hg (N := 2) ?hd (cs := #[.slice A0_0 l0_0.length c0_0]) (t := 53) ?hr ?_; (case hd => rfl); (case hg => rfl); (case hr => exact z8_22); intro gb284 hg w5 hbox hb; have n0_ := Aside0.mk (below_step z8_5 hb); have n1_ := Aside0.mk (hbox); have n2_ := Aside0.mk ((z8_30 : w.heap.size ≤ gb284)); have n3_ := Aside0.mk ((z8_30 : w.heap.size ≤ gb284)); clear HB; have HB := n0_; have BK284 := n1_; have GW284 := n2_; have GE284 := n3_; clear n0_ n1_ n2_ n3_; clear hb hbox hg) | ((with_reducible refine gate_dst (N := 3) rfl ?_); refine box_event ?hg (N := 3) ?hd (cs := #[.slice A1_0 l1_0.length c1_0]) (t := 53) ?hr ?_; (case hd => rfl); (case hg => rfl); (case hr => exact z8_22); intro gb285 hg w6 hbox hb; have n0_ := Aside0.mk (blk_below (g := gb284) (o := .cells #[.slice A0_0 l0_0.length c0_0] 53 (0, 0)) z8_16 hb); have n1_ := Aside0.mk (below_step z8_15 hb); have n2_ := Aside0.mk (hbox); have n3_ := Aside0.mk ((by rw [hg]; exact (below_size z8_15) : w.heap.size ≤ gb285)); have n4_ := Aside0.mk ((by rw [hg]; exact (below_size z8_15) : w.heap.size ≤ gb285)); have n5_ := Aside0.mk ((by rw [hg]; exact Nat.ne_of_lt (blk_lt (g := gb284) (o := .cells #[.slice A0_0 l0_0.length c0_0] 53 (0, 0)) z8_16) : gb284 ≠ gb285)); have n6_ := Aside0.mk ((by rw [hg]; exact Nat.ne_of_gt (blk_lt (g := gb284) (o := .cells #[.slice A0_0 l0_0.length c0_0] 53 (0, 0)) z8_16) : gb285 ≠ gb284)); clear BK284; clear HB; have BK284 := n0_; have HB := n1_; have BK285 := n2_; have GW285 := n3_; have GE285 := n4_; have NB284_285 := n5_; have NB285_284 := n6_; clear n0_ n1_ n2_ n3_ n4_ n5_ n6_; clear hb hbox hg; have hnb7 := NB284_285.out; have hnc7 := NB285_284.out; have hcz8_0 : w6.cell? ⟨gb284, 0, none⟩ = some (.slice A0_0 l0_0.length c0_0) := (blk_cell BK284.out 0).trans rfl; have hfz8_0 := blk_frozen BK284.out 0; have hcz9_0 : w6.cell? ⟨gb285, 0, none⟩ = some (.slice A1_0 l1_0.length c1_0) := (blk_cell BK285.out 0).trans rfl; have hfz9_0 := blk_frozen BK285.out 0) | ((first | ((with_reducible refine gate_callee (f := 84) rfl ?_); refine goesL_ (some 9) rfl rfl Try.func84 z8_18 rfl #[.slice A0_0 l0_0.length c0_0, .slice A1_0 l1_0.length c1_0] rfl z8_1 ?_; (with_reducible refine (laws_eqTaskS.calls k _ _ l0_0 _ _ l1_0 true _ ?side1 ?side2 ?side3 ?side4 A3.out).mono ?_)) | (go_at_call 84; (with_reducible refine (laws_eqTaskS.calls k _ _ l0_0 _ _ l1_0 true _ ?side1 ?side2 ?side3 ?side4 A3.out).mono ?_))); (case side1 => exact z8_6); (case side2 => exact z8_29); (case side3 => repeat (first | exact (Kd.C_below HR1_0.out HB.out) | (with_reducible refine Kd.C_alloc ?_ _) | (with_reducible refine Kd.C_drewN ?_ _) | (with_reducible refine Kd.C_drew ?_))); (case side4 => exact HC1_0.out); rintro e w10 ⟨rfl, hb⟩; (first | refine ⟨_, rfl, ?_⟩ | skip); have n0_ := Aside0.mk (blk_below (g := gb284) (o := .cells #[.slice A0_0 l0_0.length c0_0] 53 (0, 0)) z8_16 hb); have n1_ := Aside0.mk (blk_below (g := gb285) (o := .cells #[.slice A1_0 l1_0.length c1_0] 53 (0, 0)) (by (with_reducible repeat (first | refine blk_drewN ?_ _ | refine blk_drew ?_ | refine blk_alloc ?_ _)); exact BK285.out) hb); have n2_ := Aside0.mk (below_step (by repeat (first | (with_reducible first | exact HB.out | apply below_alloc | apply pw_below_drewN | apply below_drew1 | refine below_set ?_ GE284.out | refine below_set ?_ GE285.out) | exact HB.out)) hb); clear BK284; clear BK285; clear HB; have BK284 := n0_; have BK285 := n1_; have HB := n2_; clear n0_ n1_ n2_; (try clear hb); (try clear hb2); (try clear hk); (try clear hi)))
    go_ret
    exact ⟨by first | rfl | (simp [errW_none, errW_some] <;> rfl) | (simp [*, errW_none, errW_some] <;> rfl) | (simp [*, errW_none, errW_some, i64_w]; done), by repeat (first | (with_reducible first | exact HB.out | apply below_alloc | apply pw_below_drewN | apply below_drew1 | refine below_set ?_ GE284.out | refine below_set ?_ GE285.out) | exact HB.out)⟩
  · replace c4 := Bool.eq_false_iff.mpr c4
    subst c4
    have H1 : (some false) = some r := by rw [if_neg (show ¬ (false = true) by decide)] at H; exact H
    clear H
    have H := H1
    clear H1
    obtain rfl := Option.some.inj H
    go_enter Try.func35, Try.ntmps35
    go_wp2_with (first | ((with_reducible refine gate_dst (N := 2) rfl ?_); refine box_event ?hg (N := 2) ?hd (cs := #[.slice A0_0 l0_0.length c0_0]) (t := 53) ?hr ?_; (case hd => rfl); (case hg => rfl); (case hr => exact z8_22); intro gb284 hg w11 hbox hb; have n0_ := Aside0.mk (below_step z8_5 hb); have n1_ := Aside0.mk (hbox); have n2_ := Aside0.mk ((z8_30 : w.heap.size ≤ gb284)); have n3_ := Aside0.mk ((z8_30 : w.heap.size ≤ gb284)); clear HB; have HB := n0_; have BK284 := n1_; have GW284 := n2_; have GE284 := n3_; clear n0_ n1_ n2_ n3_; clear hb hbox hg) | ((with_reducible refine gate_dst (N := 3) rfl ?_); refine box_event ?hg (N := 3) ?hd (cs := #[.slice A1_0 l1_0.length c1_0]) (t := 53) ?hr ?_; (case hd => rfl); (case hg => rfl); (case hr => exact z8_22); intro gb285 hg w12 hbox hb; have n0_ := Aside0.mk (blk_below (g := gb284) (o := .cells #[.slice A0_0 l0_0.length c0_0] 53 (0, 0)) z8_16 hb); have n1_ := Aside0.mk (below_step z8_15 hb); have n2_ := Aside0.mk (hbox); have n3_ := Aside0.mk ((by rw [hg]; exact (below_size z8_15) : w.heap.size ≤ gb285)); have n4_ := Aside0.mk ((by rw [hg]; exact (below_size z8_15) : w.heap.size ≤ gb285)); have n5_ := Aside0.mk ((by rw [hg]; exact Nat.ne_of_lt (blk_lt (g := gb284) (o := .cells #[.slice A0_0 l0_0.length c0_0] 53 (0, 0)) z8_16) : gb284 ≠ gb285)); have n6_ := Aside0.mk ((by rw [hg]; exact Nat.ne_of_gt (blk_lt (g := gb284) (o := .cells #[.slice A0_0 l0_0.length c0_0] 53 (0, 0)) z8_16) : gb285 ≠ gb284)); clear BK284; clear HB; have BK284 := n0_; have HB := n1_; have BK285 := n2_; have GW285 := n3_; have GE285 := n4_; have NB284_285 := n5_; have NB285_284 := n6_; clear n0_ n1_ n2_ n3_ n4_ n5_ n6_; clear hb hbox hg; have hnb13 := NB284_285.out; have hnc13 := NB285_284.out; have hcz14_0 : w12.cell? ⟨gb284, 0, none⟩ = some (.slice A0_0 l0_0.length c0_0) := (blk_cell BK284.out 0).trans rfl; have hfz14_0 := blk_frozen BK284.out 0; have hcz15_0 : w12.cell? ⟨gb285, 0, none⟩ = some (.slice A1_0 l1_0.length c1_0) := (blk_cell BK285.out 0).trans rfl; have hfz15_0 := blk_frozen BK285.out 0) | ((first | ((with_reducible refine gate_callee (f := 84) rfl ?_); refine goesL_ (some 9) rfl rfl Try.func84 z8_18 rfl #[.slice A0_0 l0_0.length c0_0, .slice A1_0 l1_0.length c1_0] rfl z8_1 ?_; (with_reducible refine (laws_eqTaskS.calls k _ _ l0_0 _ _ l1_0 false _ ?side1 ?side2 ?side3 ?side4 A3.out).mono ?_)) | (go_at_call 84; (with_reducible refine (laws_eqTaskS.calls k _ _ l0_0 _ _ l1_0 false _ ?side1 ?side2 ?side3 ?side4 A3.out).mono ?_))); (case side1 => exact z8_6); (case side2 => exact z8_29); (case side3 => repeat (first | exact (Kd.C_below HR1_0.out HB.out) | (with_reducible refine Kd.C_alloc ?_ _) | (with_reducible refine Kd.C_drewN ?_ _) | (with_reducible refine Kd.C_drew ?_))); (case side4 => exact HC1_0.out); rintro e w16 ⟨rfl, hb⟩; (first | refine ⟨_, rfl, ?_⟩ | skip); have n0_ := Aside0.mk (blk_below (g := gb284) (o := .cells #[.slice A0_0 l0_0.length c0_0] 53 (0, 0)) z8_16 hb); have n1_ := Aside0.mk (blk_below (g := gb285) (o := .cells #[.slice A1_0 l1_0.length c1_0] 53 (0, 0)) (by (with_reducible repeat (first | refine blk_drewN ?_ _ | refine blk_drew ?_ | refine blk_alloc ?_ _)); exact BK285.out) hb); have n2_ := Aside0.mk (below_step (by repeat (first | (with_reducible first | exact HB.out | apply below_alloc | apply pw_below_drewN | apply below_drew1 | refine below_set ?_ GE284.out | refine below_set ?_ GE285.out) | exact HB.out)) hb); clear BK284; clear BK285; clear HB; have BK284 := n0_; have BK285 := n1_; have HB := n2_; clear n0_ n1_ n2_; (try clear hb); (try clear hb2); (try clear hk); (try clear hi)))
    go_ret
    exact ⟨by first | rfl | (simp [errW_none, errW_some] <;> rfl) | (simp [*, errW_none, errW_some] <;> rfl) | (simp [*, errW_none, errW_some, i64_w]; done), by repeat (first | (with_reducible first | exact HB.out | apply below_alloc | apply pw_below_drewN | apply below_drew1 | refine below_set ?_ GE284.out | refine below_set ?_ GE285.out) | exact HB.out)⟩

/-! ### laws_eqIntS: function 36 -/
def laws_eqIntS.l0 : Nat → List Int → List Int → Int → Option (Bool)
  | 0, _, _, _ => none
  | k + 1, x0, x1, x5 => if x5 < (x0.length : Int) then (if 0 ≤ x5 then (if x5 < (x1.length : Int) then (if (rd x0 x5) = (rd x1 x5) then (laws_eqIntS.l0 k x0 x1 (wrap64 (x5 + 1))) else (some false)) else (none)) else (none)) else (some true)
def laws_eqIntS.f (k : Nat) (l0 : List Int) (l1 : List Int) : Option (Bool) := if (l0.length : Int) = (l1.length : Int) then (laws_eqIntS.l0 k l0 l1 0) else (some false)
theorem laws_eqIntS.mono_l : ∀ k, (∀ y0 y1 y2, LeO (laws_eqIntS.l0 k y0 y1 y2) (laws_eqIntS.l0 (k + 1) y0 y1 y2))
  | 0 => fun _ _ _ r h => by simp [laws_eqIntS.l0] at h
  | k + 1 => by
    have ih0 := laws_eqIntS.mono_l k
    · intro y0 y1 y2
      unfold laws_eqIntS.l0
      repeat' first
      | (with_reducible exact ih0 _ _ _)
      | (with_reducible exact LeO.refl _)
      | (with_reducible exact LeO.none _)
      | (with_reducible refine LeO.ite ?_ ?_)
      | (with_reducible refine LeO.bind ?_ (fun _ => ?_))
      | exact ih0 _ _ _
      | exact LeO.none _
      | refine LeO.ite ?_ ?_
      | refine LeO.bind ?_ (fun _ => ?_)
theorem laws_eqIntS.mono : ∀ a0 a1 k, LeO (laws_eqIntS.f k a0 a1) (laws_eqIntS.f (k + 1) a0 a1) := by
  intro a0 a1 k
  have ih0 := laws_eqIntS.mono_l k
  unfold laws_eqIntS.f
  repeat' first
      | (with_reducible exact ih0 _ _ _)
      | (with_reducible exact LeO.refl _)
      | (with_reducible exact LeO.none _)
      | (with_reducible refine LeO.ite ?_ ?_)
      | (with_reducible refine LeO.bind ?_ (fun _ => ?_))
      | exact ih0 _ _ _
      | exact LeO.none _
      | refine LeO.ite ?_ ?_
      | refine LeO.bind ?_ (fun _ => ?_)
set_option maxHeartbeats 8000000 in
set_option maxRecDepth 100000 in
theorem laws_eqIntS.calls (k : Nat) (A0 : Option Addr) (c0 : Nat) (l0 : List Int) (A1 : Option Addr) (c1 : Nat) (l1 : List Int) (r : Bool) (w : World) (hr0 : Kd.C (Kd.int .i64) w A0 l0.length l0) (hc0 : l0.length ≤ c0) (hr1 : Kd.C (Kd.int .i64) w A1 l1.length l1) (hc1 : l1.length ≤ c1) (h : laws_eqIntS.f k l0 l1 = some r) :
    Calls Try.prog 36 #[.slice A0 l0.length c0, .slice A1 l1.length c1] w fun e w' => e = .returned (.bool r) ∧ Drawn0 w w' := by
  have HR0 := Aside0.mk hr0
  have HC0 := Aside0.mk hc0
  clear hr0 hc0
  have HR1 := Aside0.mk hr1
  have HC1 := Aside0.mk hc1
  clear hr1 hc1
  have H : (if (l0.length : Int) = (l1.length : Int) then (laws_eqIntS.l0 k l0 l1 0) else (some false)) = some r := h
  clear h
  by_cases c3 : (l0.length : Int) = (l1.length : Int)
  · rw [if_pos c3] at H
    have c3b0 : ((l0.length : Int) == (l1.length : Int)) = true := beq_iff_eq.mpr c3
    have c3b1 : ((l0.length : Int) != (l1.length : Int)) = false := bne_eq_false_iff_eq.mpr c3
    have c3b2 : (l0.length == l1.length) = true := by first | simpa using c3 | (simp at c3 ⊢; omega)
    clear c3
    have H' := Aside0.mk H
    clear H
    go_enter Try.func36, Try.ntmps36
    go_wp2
    repeat (go_quiet (fail); try go_wp2)
    go_loopg [5] k (fun kq v5 w' => ∃ (x5_1 : Int), v5 = .int .i64 x5_1 ∧ Aside0 (laws_eqIntS.l0 kq l0 l1 x5_1 = some r) ∧ Aside0 (kq ≤ k) ∧ Drawn0 w w')
    case atStart => exact ⟨(0), (by first | rfl | (simp; done) | (simp [*]; done)), H', ⟨Nat.le_refl _⟩, by repeat (first | exact Drawn0.refl _ | apply Drawn0.step)⟩
    case round =>
      clear H'
      (try clear c1); (try clear c3); (try clear c3b0); (try clear c3b1); (try clear c3b2)
      obtain ⟨x5_1, rfl, HA, HK1, ⟨m1, rfl⟩⟩ := hrel
      cases gk with
      | zero => exact absurd HA.out (by simp [laws_eqIntS.l0])
      | succ k1 =>
        have H := HA.out
        clear HA
        simp only [laws_eqIntS.l0] at H
        by_cases c4 : x5_1 < (l0.length : Int)
        · rw [if_pos c4] at H
          have c4b0 : decide (x5_1 < (l0.length : Int)) = true := decide_eq_true c4
          clear c4
          by_cases c5 : 0 ≤ x5_1
          · rw [if_pos c5] at H
            have c5b0 : decide (0 ≤ x5_1) = true := decide_eq_true c5
            clear c5
            by_cases c6 : x5_1 < (l1.length : Int)
            · rw [if_pos c6] at H
              have c6b0 : decide (x5_1 < (l1.length : Int)) = true := decide_eq_true c6
              clear c6
              by_cases c7 : (rd l0 x5_1) = (rd l1 x5_1)
              · rw [if_pos c7] at H
                have c7b0 : ((rd l0 x5_1) == (rd l1 x5_1)) = true := beq_iff_eq.mpr c7
                have c7b1 : ((rd l0 x5_1) != (rd l1 x5_1)) = false := bne_eq_false_iff_eq.mpr c7
                clear c7
                have H' := Aside0.mk H
                clear H
                have p287 : 0 ≤ (x5_1 : Int) := of_decide_eq_true z8_19
                have q287 : x5_1 < (l0.length : Int) := of_decide_eq_true z8_19
                obtain ⟨ad287, e287, hx287_0⟩ := Kd.at_int HR0.out x5_1 p287 q287
                cases e287
                replace p287 := eq_true p287
                replace q287 := eq_true q287
                have p288 : 0 ≤ (x5_1 : Int) := of_decide_eq_true z8_19
                have q288 : x5_1 < (l1.length : Int) := of_decide_eq_true z8_19
                obtain ⟨ad288, e288, hx288_0⟩ := Kd.at_int HR1.out x5_1 p288 q288
                cases e288
                replace p288 := eq_true p288
                replace q288 := eq_true q288
                go_wp2
                repeat (go_quiet (fail); try go_wp2)
                go_roundg k1
                case measure => have := HK1.out; omega
                case rel => exact ⟨(wrap64 (x5_1 + 1)), (by first | rfl | (simp; done) | (simp [*]; done)), H', ⟨by have := HK1.out; omega⟩, by repeat (first | exact Drawn0.refl _ | apply Drawn0.step)⟩
              · rw [if_neg c7] at H
                have c7b0 : ((rd l0 x5_1) == (rd l1 x5_1)) = false := beq_eq_false_iff_ne.mpr c7
                have c7b1 : ((rd l0 x5_1) != (rd l1 x5_1)) = true := bne_iff_ne.mpr c7
                obtain rfl := Option.some.inj H
                have p287 : 0 ≤ (x5_1 : Int) := of_decide_eq_true z8_19
                have q287 : x5_1 < (l0.length : Int) := of_decide_eq_true z8_19
                obtain ⟨ad287, e287, hx287_0⟩ := Kd.at_int HR0.out x5_1 p287 q287
                cases e287
                replace p287 := eq_true p287
                replace q287 := eq_true q287
                have p288 : 0 ≤ (x5_1 : Int) := of_decide_eq_true z8_19
                have q288 : x5_1 < (l1.length : Int) := of_decide_eq_true z8_19
                obtain ⟨ad288, e288, hx288_0⟩ := Kd.at_int HR1.out x5_1 p288 q288
                cases e288
                replace p288 := eq_true p288
                replace q288 := eq_true q288
                go_wp2
                repeat (go_quiet (fail); try go_wp2)
                go_ret
                exact ⟨by first | rfl | (simp; done) | (simp [*]; done), by repeat (first | exact Drawn0.refl _ | apply Drawn0.step)⟩
            · rw [if_neg c6] at H
              exact absurd H (by simp)
          · rw [if_neg c5] at H
            exact absurd H (by simp)
        · rw [if_neg c4] at H
          have c4b0 : decide (x5_1 < (l0.length : Int)) = false := decide_eq_false c4
          clear c4
          obtain rfl := Option.some.inj H
          go_wp2
          repeat (go_quiet (fail); try go_wp2)
          go_ret
          exact ⟨by first | rfl | (simp; done) | (simp [*]; done), by repeat (first | exact Drawn0.refl _ | apply Drawn0.step)⟩
  · rw [if_neg c3] at H
    have c3b0 : ((l0.length : Int) == (l1.length : Int)) = false := beq_eq_false_iff_ne.mpr c3
    have c3b1 : ((l0.length : Int) != (l1.length : Int)) = true := bne_iff_ne.mpr c3
    have c3b2 : (l0.length == l1.length) = false := by first | simpa using c3 | (simp at c3 ⊢; omega)
    obtain rfl := Option.some.inj H
    go_enter Try.func36, Try.ntmps36
    go_wp2
    repeat (go_quiet (fail); try go_wp2)
    go_ret
    exact ⟨by first | rfl | (simp; done) | (simp [*]; done), by repeat (first | exact Drawn0.refl _ | apply Drawn0.step)⟩

/-! ### laws_FnExactLostWork: function 8 -/
def laws_FnExactLostWork.f (k : Nat) (l0_0 : List (S39)) (l1 : List Int) : Option (Bool) := if (l1.length : Int) > 1048576 then (some true) else ((laws_szProgram.f k l0_0 1048576).bind fun t290 => (if t290 < 0 then (some true) else ((laws_toProgram.f k l0_0).bind fun t291 => ((laws_toIntS.f k l1).bind fun t294 => ((spec_LostWork.f k t291 t294).bind fun t297 => ((laws_toProgram.f k l0_0).bind fun t298 => ((laws_toIntS.f k l1).bind fun t302 => ((impl_LostWork.f k t298 t302).bind fun t305 => (if t305 = t297 then ((laws_toProgram.f k l0_0).bind fun t306 => ((laws_eqProgram.f k t298 t306).bind fun t309 => (if t309 = true then ((laws_toIntS.f k l1).bind fun t310 => ((laws_eqIntS.f k t302 t310).bind fun t313 => (if t313 = true then (some true) else (some false)))) else (some false)))) else (some false))))))))))
theorem laws_FnExactLostWork.mono : ∀ a0 a1 k, LeO (laws_FnExactLostWork.f k a0 a1) (laws_FnExactLostWork.f (k + 1) a0 a1) := by
  intro a0 a1 k
  unfold laws_FnExactLostWork.f
  repeat' first
      | (with_reducible exact impl_LostWork.mono _ _ _)
      | (with_reducible exact laws_eqIntS.mono _ _ _)
      | (with_reducible exact laws_eqProgram.mono _ _ _)
      | (with_reducible exact laws_szProgram.mono _ _ _)
      | (with_reducible exact laws_toIntS.mono _ _)
      | (with_reducible exact laws_toProgram.mono _ _)
      | (with_reducible exact spec_LostWork.mono _ _ _)
      | (with_reducible exact LeO.refl _)
      | (with_reducible exact LeO.none _)
      | (with_reducible refine LeO.ite ?_ ?_)
      | (with_reducible refine LeO.bind ?_ (fun _ => ?_))
      | exact impl_LostWork.mono _ _ _
      | exact laws_eqIntS.mono _ _ _
      | exact laws_eqProgram.mono _ _ _
      | exact laws_szProgram.mono _ _ _
      | exact laws_toIntS.mono _ _
      | exact laws_toProgram.mono _ _
      | exact spec_LostWork.mono _ _ _
      | exact LeO.none _
      | refine LeO.ite ?_ ?_
      | refine LeO.bind ?_ (fun _ => ?_)
set_option maxHeartbeats 8000000 in
set_option maxRecDepth 100000 in
theorem laws_FnExactLostWork.calls (k : Nat) (A0_0 : Option Addr) (c0_0 : Nat) (l0_0 : List (S39)) (A1 : Option Addr) (c1 : Nat) (l1 : List Int) (r : Bool) (w : World) (hr0_0 : Kd.C k39 w A0_0 l0_0.length l0_0) (hc0_0 : l0_0.length ≤ c0_0) (hr1 : Kd.C (Kd.int .i64) w A1 l1.length l1) (hc1 : l1.length ≤ c1) (h : laws_FnExactLostWork.f k l0_0 l1 = some r) :
    Calls Try.prog 8 #[.agg #[.slice A0_0 l0_0.length c0_0], .slice A1 l1.length c1] w fun e w' => e = .returned (.bool r) ∧ Below w.heap.size w w' := by
  have hu48 := Try.underlying48
  have hu53 := Try.underlying53
  have HR0_0 := Aside0.mk hr0_0
  have HC0_0 := Aside0.mk hc0_0
  clear hr0_0 hc0_0
  have HR1 := Aside0.mk hr1
  have HC1 := Aside0.mk hc1
  clear hr1 hc1
  have HB := Aside0.mk (Below.refl w.heap.size w)
  have H : (if (l1.length : Int) > 1048576 then (some true) else ((laws_szProgram.f k l0_0 1048576).bind fun t290 => (if t290 < 0 then (some true) else ((laws_toProgram.f k l0_0).bind fun t291 => ((laws_toIntS.f k l1).bind fun t294 => ((spec_LostWork.f k t291 t294).bind fun t297 => ((laws_toProgram.f k l0_0).bind fun t298 => ((laws_toIntS.f k l1).bind fun t302 => ((impl_LostWork.f k t298 t302).bind fun t305 => (if t305 = t297 then ((laws_toProgram.f k l0_0).bind fun t306 => ((laws_eqProgram.f k t298 t306).bind fun t309 => (if t309 = true then ((laws_toIntS.f k l1).bind fun t310 => ((laws_eqIntS.f k t302 t310).bind fun t313 => (if t313 = true then (some true) else (some false)))) else (some false)))) else (some false))))))))))) = some r := h
  clear h
  by_cases c3 : (l1.length : Int) > 1048576
  · rw [if_pos c3] at H
    have c3b0 : decide (1048576 < (l1.length : Int)) = true := decide_eq_true c3
    have c3b1 : decide (1048576 < l1.length) = true := decide_eq_true (by omega)
    clear c3
    obtain rfl := Option.some.inj H
    go_enter Try.func8, Try.ntmps8
    go_wp2_with (first | ((with_reducible refine gate_dst (N := 2) rfl ?_); refine box_event ?hg (N := 2) ?hd (cs := #[.slice A0_0 l0_0.length c0_0]) (t := 48) ?hr ?_; (case hd => rfl); (case hg => rfl); (case hr => exact z8_22); intro gb289 hg w4 hbox hb; have n0_ := Aside0.mk (below_step z8_5 hb); have n1_ := Aside0.mk (hbox); have n2_ := Aside0.mk ((z8_30 : w.heap.size ≤ gb289)); have n3_ := Aside0.mk ((z8_30 : w.heap.size ≤ gb289)); clear HB; have HB := n0_; have BK289 := n1_; have GW289 := n2_; have GE289 := n3_; clear n0_ n1_ n2_ n3_; clear hb hbox hg))
    go_ret
    exact ⟨by first | rfl | (simp [errW_none, errW_some] <;> rfl) | (simp [*, errW_none, errW_some] <;> rfl) | (simp [*, errW_none, errW_some, i64_w]; done), by repeat (first | (with_reducible first | exact HB.out | apply below_alloc | apply pw_below_drewN | apply below_drew1 | refine below_set ?_ GE289.out) | exact HB.out)⟩
  · rw [if_neg c3] at H
    have c3b0 : decide (1048576 < (l1.length : Int)) = false := decide_eq_false c3
    have c3b1 : decide (1048576 < l1.length) = false := decide_eq_false (by omega)
    clear c3
    replace H := Option.bind_eq_some_iff.mp H
    obtain ⟨t290, A50, H⟩ := H
    replace H : (if t290 < 0 then (some true) else ((laws_toProgram.f k l0_0).bind fun t291 => ((laws_toIntS.f k l1).bind fun t294 => ((spec_LostWork.f k t291 t294).bind fun t297 => ((laws_toProgram.f k l0_0).bind fun t298 => ((laws_toIntS.f k l1).bind fun t302 => ((impl_LostWork.f k t298 t302).bind fun t305 => (if t305 = t297 then ((laws_toProgram.f k l0_0).bind fun t306 => ((laws_eqProgram.f k t298 t306).bind fun t309 => (if t309 = true then ((laws_toIntS.f k l1).bind fun t310 => ((laws_eqIntS.f k t302 t310).bind fun t313 => (if t313 = true then (some true) else (some false)))) else (some false)))) else (some false))))))))) = some r := H
    have A5 := Aside0.mk A50
    clear A50
    by_cases c6 : t290 < 0
    · rw [if_pos c6] at H
      have c6b0 : decide (t290 < 0) = true := decide_eq_true c6
      clear c6
      obtain rfl := Option.some.inj H
      go_enter Try.func8, Try.ntmps8
      go_wp2_with (first | ((with_reducible refine gate_dst (N := 2) rfl ?_); refine box_event ?hg (N := 2) ?hd (cs := #[.slice A0_0 l0_0.length c0_0]) (t := 48) ?hr ?_; (case hd => rfl); (case hg => rfl); (case hr => exact z8_22); intro gb289 hg w7 hbox hb; have n0_ := Aside0.mk (below_step z8_5 hb); have n1_ := Aside0.mk (hbox); have n2_ := Aside0.mk ((z8_30 : w.heap.size ≤ gb289)); have n3_ := Aside0.mk ((z8_30 : w.heap.size ≤ gb289)); clear HB; have HB := n0_; have BK289 := n1_; have GW289 := n2_; have GE289 := n3_; clear n0_ n1_ n2_ n3_; clear hb hbox hg; have hcz8_0 : w7.cell? ⟨gb289, 0, none⟩ = some (.slice A0_0 l0_0.length c0_0) := (blk_cell BK289.out 0).trans rfl; have hfz8_0 := blk_frozen BK289.out 0) | ((first | ((with_reducible refine gate_callee (f := 30) rfl ?_); refine goesL_ (some 15) rfl rfl Try.func30 z8_18 rfl #[.agg #[.slice A0_0 l0_0.length c0_0], .int .i64 1048576] rfl z8_1 ?_; (with_reducible refine (laws_szProgram.calls k _ _ l0_0 1048576 t290 _ ?side1 ?side2 A5.out).mono ?_)) | (go_at_call 30; (with_reducible refine (laws_szProgram.calls k _ _ l0_0 1048576 t290 _ ?side1 ?side2 A5.out).mono ?_))); (case side1 => exact z8_6); (case side2 => exact z8_29); rintro e w9 ⟨rfl, hb⟩; (first | refine ⟨_, rfl, ?_⟩ | skip); have n0_ := Aside0.mk (blk_below (g := gb289) (o := .cells #[.slice A0_0 l0_0.length c0_0] 48 (0, 0)) z8_3 hb); have n1_ := Aside0.mk (below_step z8_0 hb); clear BK289; clear HB; have BK289 := n0_; have HB := n1_; clear n0_ n1_; (try clear hb); (try clear hb2); (try clear hk); (try clear hi)))
      go_ret
      exact ⟨by first | rfl | (simp [errW_none, errW_some] <;> rfl) | (simp [*, errW_none, errW_some] <;> rfl) | (simp [*, errW_none, errW_some, i64_w]; done), by repeat (first | (with_reducible first | exact HB.out | apply below_alloc | apply pw_below_drewN | apply below_drew1 | refine below_set ?_ GE289.out) | exact HB.out)⟩
    · rw [if_neg c6] at H
      have c6b0 : decide (t290 < 0) = false := decide_eq_false c6
      clear c6
      replace H := Option.bind_eq_some_iff.mp H
      obtain ⟨t291, A100, H⟩ := H
      replace H : ((laws_toIntS.f k l1).bind fun t294 => ((spec_LostWork.f k t291 t294).bind fun t297 => ((laws_toProgram.f k l0_0).bind fun t298 => ((laws_toIntS.f k l1).bind fun t302 => ((impl_LostWork.f k t298 t302).bind fun t305 => (if t305 = t297 then ((laws_toProgram.f k l0_0).bind fun t306 => ((laws_eqProgram.f k t298 t306).bind fun t309 => (if t309 = true then ((laws_toIntS.f k l1).bind fun t310 => ((laws_eqIntS.f k t302 t310).bind fun t313 => (if t313 = true then (some true) else (some false)))) else (some false)))) else (some false))))))) = some r := H
      have A10 := Aside0.mk A100
      clear A100
      replace H := Option.bind_eq_some_iff.mp H
      obtain ⟨t294, A110, H⟩ := H
      replace H : ((spec_LostWork.f k t291 t294).bind fun t297 => ((laws_toProgram.f k l0_0).bind fun t298 => ((laws_toIntS.f k l1).bind fun t302 => ((impl_LostWork.f k t298 t302).bind fun t305 => (if t305 = t297 then ((laws_toProgram.f k l0_0).bind fun t306 => ((laws_eqProgram.f k t298 t306).bind fun t309 => (if t309 = true then ((laws_toIntS.f k l1).bind fun t310 => ((laws_eqIntS.f k t302 t310).bind fun t313 => (if t313 = true then (some true) else (some false)))) else (some false)))) else (some false)))))) = some r := H
      have A11 := Aside0.mk A110
      clear A110
      replace H := Option.bind_eq_some_iff.mp H
      obtain ⟨t297, A120, H⟩ := H
      replace H : ((laws_toProgram.f k l0_0).bind fun t298 => ((laws_toIntS.f k l1).bind fun t302 => ((impl_LostWork.f k t298 t302).bind fun t305 => (if t305 = t297 then ((laws_toProgram.f k l0_0).bind fun t306 => ((laws_eqProgram.f k t298 t306).bind fun t309 => (if t309 = true then ((laws_toIntS.f k l1).bind fun t310 => ((laws_eqIntS.f k t302 t310).bind fun t313 => (if t313 = true then (some true) else (some false)))) else (some false)))) else (some false))))) = some r := H
      have A12 := Aside0.mk A120
      clear A120
      replace H := Option.bind_eq_some_iff.mp H
      obtain ⟨t298, A130, H⟩ := H
      replace H : ((laws_toIntS.f k l1).bind fun t302 => ((impl_LostWork.f k t298 t302).bind fun t305 => (if t305 = t297 then ((laws_toProgram.f k l0_0).bind fun t306 => ((laws_eqProgram.f k t298 t306).bind fun t309 => (if t309 = true then ((laws_toIntS.f k l1).bind fun t310 => ((laws_eqIntS.f k t302 t310).bind fun t313 => (if t313 = true then (some true) else (some false)))) else (some false)))) else (some false)))) = some r := H
      have A13 := Aside0.mk A130
      clear A130
      replace H := Option.bind_eq_some_iff.mp H
      obtain ⟨t302, A140, H⟩ := H
      replace H : ((impl_LostWork.f k t298 t302).bind fun t305 => (if t305 = t297 then ((laws_toProgram.f k l0_0).bind fun t306 => ((laws_eqProgram.f k t298 t306).bind fun t309 => (if t309 = true then ((laws_toIntS.f k l1).bind fun t310 => ((laws_eqIntS.f k t302 t310).bind fun t313 => (if t313 = true then (some true) else (some false)))) else (some false)))) else (some false))) = some r := H
      have A14 := Aside0.mk A140
      clear A140
      replace H := Option.bind_eq_some_iff.mp H
      obtain ⟨t305, A150, H⟩ := H
      replace H : (if t305 = t297 then ((laws_toProgram.f k l0_0).bind fun t306 => ((laws_eqProgram.f k t298 t306).bind fun t309 => (if t309 = true then ((laws_toIntS.f k l1).bind fun t310 => ((laws_eqIntS.f k t302 t310).bind fun t313 => (if t313 = true then (some true) else (some false)))) else (some false)))) else (some false)) = some r := H
      have A15 := Aside0.mk A150
      clear A150
      by_cases c16 : t305 = t297
      · rw [if_pos c16] at H
        have c16b0 : (t305 == t297) = true := beq_iff_eq.mpr c16
        have c16b1 : (t305 != t297) = false := bne_eq_false_iff_eq.mpr c16
        clear c16
        replace H := Option.bind_eq_some_iff.mp H
        obtain ⟨t306, A170, H⟩ := H
        replace H : ((laws_eqProgram.f k t298 t306).bind fun t309 => (if t309 = true then ((laws_toIntS.f k l1).bind fun t310 => ((laws_eqIntS.f k t302 t310).bind fun t313 => (if t313 = true then (some true) else (some false)))) else (some false))) = some r := H
        have A17 := Aside0.mk A170
        clear A170
        replace H := Option.bind_eq_some_iff.mp H
        obtain ⟨t309, A180, H⟩ := H
        replace H : (if t309 = true then ((laws_toIntS.f k l1).bind fun t310 => ((laws_eqIntS.f k t302 t310).bind fun t313 => (if t313 = true then (some true) else (some false)))) else (some false)) = some r := H
        have A18 := Aside0.mk A180
        clear A180
        by_cases c19 : t309 = true
        · subst c19
          have H1 : ((laws_toIntS.f k l1).bind fun t310 => ((laws_eqIntS.f k t302 t310).bind fun t313 => (if t313 = true then (some true) else (some false)))) = some r := by rw [if_pos rfl] at H; exact H
          clear H
          have H := H1
          clear H1
          replace H := Option.bind_eq_some_iff.mp H
          obtain ⟨t310, A200, H⟩ := H
          replace H : ((laws_eqIntS.f k t302 t310).bind fun t313 => (if t313 = true then (some true) else (some false))) = some r := H
          have A20 := Aside0.mk A200
          clear A200
          replace H := Option.bind_eq_some_iff.mp H
          obtain ⟨t313, A210, H⟩ := H
          replace H : (if t313 = true then (some true) else (some false)) = some r := H
          have A21 := Aside0.mk A210
          clear A210
          by_cases c22 : t313 = true
          · subst c22
            have H1 : (some true) = some r := by rw [if_pos rfl] at H; exact H
            clear H
            have H := H1
            clear H1
            obtain rfl := Option.some.inj H
            go_enter Try.func8, Try.ntmps8
            try go_wp2_with (first | ((with_reducible refine gate_dst (N := 2) rfl ?_); refine box_event ?hg (N := 2) ?hd (cs := #[.slice A0_0 l0_0.length c0_0]) (t := 48) ?hr ?_; (case hd => rfl); (case hg => rfl); (case hr => exact z8_22); intro gb289 hg w23 hbox hb; have n0_ := Aside0.mk (below_step z8_5 hb); have n1_ := Aside0.mk (hbox); have n2_ := Aside0.mk ((z8_30 : w.heap.size ≤ gb289)); have n3_ := Aside0.mk ((z8_30 : w.heap.size ≤ gb289)); clear HB; have HB := n0_; have BK289 := n1_; have GW289 := n2_; have GE289 := n3_; clear n0_ n1_ n2_ n3_; clear hb hbox hg; have hcz24_0 : w23.cell? ⟨gb289, 0, none⟩ = some (.slice A0_0 l0_0.length c0_0) := (blk_cell BK289.out 0).trans rfl; have hfz24_0 := blk_frozen BK289.out 0) | ((first | ((with_reducible refine gate_callee (f := 30) rfl ?_); refine goesL_ (some 15) rfl rfl Try.func30 z8_18 rfl #[.agg #[.slice A0_0 l0_0.length c0_0], .int .i64 1048576] rfl z8_1 ?_; (with_reducible refine (laws_szProgram.calls k _ _ l0_0 1048576 t290 _ ?side1 ?side2 A5.out).mono ?_)) | (go_at_call 30; (with_reducible refine (laws_szProgram.calls k _ _ l0_0 1048576 t290 _ ?side1 ?side2 A5.out).mono ?_))); (case side1 => exact z8_6); (case side2 => exact z8_29); rintro e w25 ⟨rfl, hb⟩; (first | refine ⟨_, rfl, ?_⟩ | skip); have n0_ := Aside0.mk (blk_below (g := gb289) (o := .cells #[.slice A0_0 l0_0.length c0_0] 48 (0, 0)) z8_3 hb); have n1_ := Aside0.mk (below_step z8_0 hb); clear BK289; clear HB; have BK289 := n0_; have HB := n1_; clear n0_ n1_; (try clear hb); (try clear hb2); (try clear hk); (try clear hi); have hcz26_0 : w25.cell? ⟨gb289, 0, none⟩ = some (.slice A0_0 l0_0.length c0_0) := (blk_cell BK289.out 0).trans rfl; have hfz26_0 := blk_frozen BK289.out 0) | ((first | ((with_reducible refine gate_callee (f := 32) rfl ?_); refine goesL_ (some 19) rfl rfl Try.func32 z8_18 rfl #[.agg #[.slice A0_0 l0_0.length c0_0]] rfl z8_1 ?_; (with_reducible refine (laws_toProgram.calls k _ _ l0_0 t291 _ ?side1 ?side2 A10.out).mono ?_)) | (go_at_call 32; (with_reducible refine (laws_toProgram.calls k _ _ l0_0 t291 _ ?side1 ?side2 A10.out).mono ?_))); (case side1 => exact z8_6); (case side2 => exact z8_29); rintro e w27 ⟨v292, rfl, ho0, hb⟩; (first | refine ⟨_, rfl, ?_⟩ | skip); have n0_ := Aside0.mk (Kd.S_lower ho0 (below_size z8_0)); have n1_ := Aside0.mk (blk_below (g := gb289) (o := .cells #[.slice A0_0 l0_0.length c0_0] 48 (0, 0)) z8_3 hb); have n2_ := Aside0.mk (below_step z8_0 hb); clear BK289; clear HB; have HO293 := n0_; have BK289 := n1_; have HB := n2_; clear n0_ n1_ n2_; (try clear hb); (try clear hb2); (try clear hk); (try clear hi); (try clear ho0)) | ((first | ((with_reducible refine gate_callee (f := 33) rfl ?_); refine goesL_ (some 21) rfl rfl Try.func33 z8_18 rfl #[.slice A1 l1.length c1] rfl z8_1 ?_; (with_reducible refine (laws_toIntS.calls k _ _ l1 t294 _ ?side1 ?side2 A11.out).mono ?_)) | (go_at_call 33; (with_reducible refine (laws_toIntS.calls k _ _ l1 t294 _ ?side1 ?side2 A11.out).mono ?_))); (case side1 => exact z8_13); (case side2 => exact HC1.out); rintro e w28 ⟨v295, rfl, ho0, hb⟩; (first | refine ⟨_, rfl, ?_⟩ | skip); have n0_ := Aside0.mk (Kd.S_below z8_4 hb); have n1_ := Aside0.mk (Kd.R_lower ho0 (below_size z8_0)); have n2_ := Aside0.mk (blk_below (g := gb289) (o := .cells #[.slice A0_0 l0_0.length c0_0] 48 (0, 0)) z8_3 hb); have n3_ := Aside0.mk (below_step z8_0 hb); clear HO293; clear BK289; clear HB; have HO293 := n0_; have HO296 := n1_; have BK289 := n2_; have HB := n3_; clear n0_ n1_ n2_ n3_; (try clear hb); (try clear hb2); (try clear hk); (try clear hi); (try clear ho0); obtain ⟨Ao29, co29, eo29⟩ := Kd.S_slice HO293.out; subst eo29; obtain ⟨Ao30, co30, eo30⟩ := Kd.R_slice HO296.out; subst eo30) | ((first | ((with_reducible refine gate_callee (f := 31) rfl ?_); refine goesL_ (some 22) rfl rfl Try.func31 z8_18 rfl #[.agg #[.slice Ao29 t291.length co29], .slice Ao30 t294.length co30] rfl z8_1 ?_; (with_reducible refine (spec_LostWork.calls k _ _ t291 _ _ t294 t297 _ ?side1 ?side2 ?side3 ?side4 A12.out).mono ?_)) | (go_at_call 31; (with_reducible refine (spec_LostWork.calls k _ _ t291 _ _ t294 t297 _ ?side1 ?side2 ?side3 ?side4 A12.out).mono ?_))); (case side1 => exact z8_20); (case side2 => exact (Kd.S_reads' HO293.out).2.1); (case side3 => exact z8_21); (case side4 => exact (Kd.R_reads' HO296.out).2.1); rintro e w31 ⟨rfl, hb⟩; (first | refine ⟨_, rfl, ?_⟩ | skip); have n0_ := Aside0.mk (Kd.S_below z8_4 hb); have n1_ := Aside0.mk (Kd.R_below z8_7 hb); have n2_ := Aside0.mk (blk_below (g := gb289) (o := .cells #[.slice A0_0 l0_0.length c0_0] 48 (0, 0)) z8_3 hb); have n3_ := Aside0.mk (below_step z8_0 hb); clear HO293; clear HO296; clear BK289; clear HB; have HO293 := n0_; have HO296 := n1_; have BK289 := n2_; have HB := n3_; clear n0_ n1_ n2_ n3_; (try clear hb); (try clear hb2); (try clear hk); (try clear hi); have hcz32_0 : w31.cell? ⟨gb289, 0, none⟩ = some (.slice A0_0 l0_0.length c0_0) := (blk_cell BK289.out 0).trans rfl; have hfz32_0 := blk_frozen BK289.out 0) | ((first | ((with_reducible refine gate_callee (f := 32) rfl ?_); refine goesL_ (some 24) rfl rfl Try.func32 z8_18 rfl #[.agg #[.slice A0_0 l0_0.length c0_0]] rfl z8_1 ?_; (with_reducible refine (laws_toProgram.calls k _ _ l0_0 t298 _ ?side1 ?side2 A13.out).mono ?_)) | (go_at_call 32; (with_reducible refine (laws_toProgram.calls k _ _ l0_0 t298 _ ?side1 ?side2 A13.out).mono ?_))); (case side1 => exact z8_6); (case side2 => exact z8_29); rintro e w33 ⟨v299, rfl, ho0, hb⟩; (first | refine ⟨_, rfl, ?_⟩ | skip); have n0_ := Aside0.mk (Kd.S_elder' z8_4 (Kd.S_base ho0) hb); have n1_ := Aside0.mk (Kd.R_below z8_7 hb); have n2_ := Aside0.mk (Kd.S_lower (Kd.S_new' ho0 (Kd.S_lt z8_4)) (below_size z8_0)); have n3_ := Aside0.mk (blk_below (g := gb289) (o := .cells #[.slice A0_0 l0_0.length c0_0] 48 (0, 0)) z8_3 hb); have n4_ := Aside0.mk (below_step z8_0 hb); clear HO293; clear HO296; clear BK289; clear HB; have HO293 := n0_; have HO296 := n1_; have HO300 := n2_; have BK289 := n3_; have HB := n4_; clear n0_ n1_ n2_ n3_ n4_; (try clear hb); (try clear hb2); (try clear hk); (try clear hi); (try clear ho0)) | ((with_reducible refine gate_dst (N := 7) rfl ?_); refine box_event ?hg (N := 7) ?hd (cs := #[.slice none 0 0]) (t := 53) ?hr ?_; (case hd => rfl); (case hg => rfl); (case hr => exact z8_22); intro gb301 hg w34 hbox hb; have n0_ := Aside0.mk (Kd.S_below z8_4 hb); have n1_ := Aside0.mk (Kd.R_below z8_7 hb); have n2_ := Aside0.mk (Kd.S_below z8_8 hb); have n3_ := Aside0.mk (blk_below (g := gb289) (o := .cells #[.slice A0_0 l0_0.length c0_0] 48 (0, 0)) z8_3 hb); have n4_ := Aside0.mk (below_step z8_0 hb); have n5_ := Aside0.mk (hbox); have n6_ := Aside0.mk ((z8_33 : w.heap.size ≤ gb301)); have n7_ := Aside0.mk ((z8_33 : w.heap.size ≤ gb301)); have n8_ := Aside0.mk ((z8_31 : gb289 ≠ gb301)); have n9_ := Aside0.mk ((z8_32 : gb301 ≠ gb289)); clear HO293; clear HO296; clear HO300; clear BK289; clear HB; have HO293 := n0_; have HO296 := n1_; have HO300 := n2_; have BK289 := n3_; have HB := n4_; have BK301 := n5_; have GW301 := n6_; have GE301 := n7_; have NB289_301 := n8_; have NB301_289 := n9_; clear n0_ n1_ n2_ n3_ n4_ n5_ n6_ n7_ n8_ n9_; clear hb hbox hg; obtain ⟨Ao35, co35, eo35⟩ := Kd.S_slice HO300.out; subst eo35; have hnb36 := NB301_289.out; have hnc36 := NB289_301.out; have hcz37_0 : w34.cell? ⟨gb301, 0, none⟩ = some (.slice none 0 0) := (blk_cell BK301.out 0).trans rfl; have hfz37_0 := blk_frozen BK301.out 0) | ((first | ((with_reducible refine gate_callee (f := 33) rfl ?_); refine goesL_ (some 26) rfl rfl Try.func33 z8_18 rfl #[.slice A1 l1.length c1] rfl z8_1 ?_; (with_reducible refine (laws_toIntS.calls k _ _ l1 t302 _ ?side1 ?side2 A14.out).mono ?_)) | (go_at_call 33; (with_reducible refine (laws_toIntS.calls k _ _ l1 t302 _ ?side1 ?side2 A14.out).mono ?_))); (case side1 => exact Kd.C_below HR1.out z8_2); (case side2 => exact HC1.out); rintro e w38 ⟨v303, rfl, ho0, hb⟩; (first | refine ⟨_, rfl, ?_⟩ | skip); have n0_ := Aside0.mk (Kd.S_below (by (with_reducible repeat (first | apply Kd.S_alloc | apply Kd.S_drewN | apply Kd.S_drew)); exact (Kd.S_mono (Kd.S_far (p := ⟨gb301, 0, none⟩) (Kd.S_types HO293.out BK301.out (by decide)) (fun _ hk => hk.2) (.slice Ao35 t298.length co35)) (fun _ h_ => h_.1))) hb); have n1_ := Aside0.mk (Kd.R_elder' z8_28 (Kd.R_base ho0) hb); have n2_ := Aside0.mk (Kd.S_below (by (with_reducible repeat (first | apply Kd.S_alloc | apply Kd.S_drewN | apply Kd.S_drew)); exact (Kd.S_mono (Kd.S_far (p := ⟨gb301, 0, none⟩) (Kd.S_types HO300.out BK301.out (by decide)) (fun _ hk => hk.2) (.slice Ao35 t298.length co35)) (fun _ h_ => h_.1))) hb); have n3_ := Aside0.mk (Kd.R_lower (Kd.R_new' ho0 (Kd.R_lt z8_28)) (below_size z8_2)); have n4_ := Aside0.mk (blk_below (g := gb289) (o := .cells #[.slice A0_0 l0_0.length c0_0] 48 (0, 0)) z8_17 hb); have n5_ := Aside0.mk (blk_below (g := gb301) (o := .cells #[.slice Ao35 t298.length co35] 53 (0, 0)) z8_14 hb); have n6_ := Aside0.mk (below_step z8_2 hb); clear HO293; clear HO296; clear HO300; clear BK289; clear BK301; clear HB; have HO293 := n0_; have HO296 := n1_; have HO300 := n2_; have HO304 := n3_; have BK289 := n4_; have BK301 := n5_; have HB := n6_; clear n0_ n1_ n2_ n3_ n4_ n5_ n6_; (try clear hb); (try clear hb2); (try clear hk); (try clear hi); (try clear ho0); have hcz39_0 : w38.cell? ⟨gb301, 0, none⟩ = some (.slice Ao35 t298.length co35) := (blk_cell BK301.out 0).trans rfl; have hfz39_0 := blk_frozen BK301.out 0; obtain ⟨Ao40, co40, eo40⟩ := Kd.R_slice HO304.out; subst eo40) | ((first | ((with_reducible refine gate_callee (f := 34) rfl ?_); refine goesL_ (some 29) rfl rfl Try.func34 z8_18 rfl #[.agg #[.slice Ao35 t298.length co35], .slice Ao40 t302.length co40] rfl z8_1 ?_; (with_reducible refine (impl_LostWork.calls k _ _ t298 _ _ t302 t305 _ ?side1 ?side2 ?side3 ?side4 A15.out).mono ?_)) | (go_at_call 34; (with_reducible refine (impl_LostWork.calls k _ _ t298 _ _ t302 t305 _ ?side1 ?side2 ?side3 ?side4 A15.out).mono ?_))); (case side1 => exact z8_11); (case side2 => exact (Kd.S_reads' HO300.out).2.1); (case side3 => exact z8_12); (case side4 => exact (Kd.R_reads' HO304.out).2.1); rintro e w41 ⟨rfl, hb⟩; (first | refine ⟨_, rfl, ?_⟩ | skip); have n0_ := Aside0.mk (Kd.S_below z8_4 hb); have n1_ := Aside0.mk (Kd.R_below z8_7 hb); have n2_ := Aside0.mk (Kd.S_below z8_8 hb); have n3_ := Aside0.mk (Kd.R_below z8_9 hb); have n4_ := Aside0.mk (blk_below (g := gb289) (o := .cells #[.slice A0_0 l0_0.length c0_0] 48 (0, 0)) z8_3 hb); have n5_ := Aside0.mk (blk_below (g := gb301) (o := .cells #[.slice Ao35 t298.length co35] 53 (0, 0)) z8_10 hb); have n6_ := Aside0.mk (below_step z8_2 hb); clear HO293; clear HO296; clear HO300; clear HO304; clear BK289; clear BK301; clear HB; have HO293 := n0_; have HO296 := n1_; have HO300 := n2_; have HO304 := n3_; have BK289 := n4_; have BK301 := n5_; have HB := n6_; clear n0_ n1_ n2_ n3_ n4_ n5_ n6_; (try clear hb); (try clear hb2); (try clear hk); (try clear hi)))
            have n0_ := Aside0.mk (Kd.S_drew HO293.out)
            have n1_ := Aside0.mk (Kd.R_drew HO296.out)
            have n2_ := Aside0.mk (Kd.S_drew HO300.out)
            have n3_ := Aside0.mk (Kd.R_drew HO304.out)
            have n4_ := Aside0.mk (blk_drew BK289.out)
            have n5_ := Aside0.mk (blk_drew BK301.out)
            have n6_ := Aside0.mk (below_drew1 HB.out)
            clear HO293
            clear HO296
            clear HO300
            clear HO304
            clear BK289
            clear BK301
            clear HB
            have HO293 := n0_
            have HO296 := n1_
            have HO300 := n2_
            have HO304 := n3_
            have BK289 := n4_
            have BK301 := n5_
            have HB := n6_
            clear n0_ n1_ n2_ n3_ n4_ n5_ n6_
            refine start_ (n := 5) (S := fun w' => w'.cell? ⟨gb301, 0, none⟩ = some (.slice Ao35 t298.length co35) ∧ w'.cell? ⟨gb289, 0, none⟩ = some (.slice A0_0 l0_0.length c0_0)) (ds := []) #[false, false, false, false, false] z8_18 rfl rfl ⟨(blk_cell BK301.out 0).trans rfl, (blk_cell BK289.out 0).trans rfl⟩ (fun hHeld => ?_)
            generalize w41.drew = w42 at HO293 HO296 HO300 HO304 BK289 BK301 HB hHeld ⊢
            refine take_ (i := 0) (N := some 33) (v := ?_) (a' := ?_) #[true, false, false, false, false] rfl rfl z8_18 (fun _ _ _ h => h) (Or.inl ⟨by rfl, ?_⟩) hHeld ?_ ?_
            rotate_left
            · rintro w' ⟨s0, s1⟩
              go_simp
              with_reducible rfl
            rotate_left
            · simp only [Act.put, List.setIfInBounds_toArray, List.set_cons_zero, List.set_cons_succ, i64_w, i32_w]
              rfl
            refine take_ (i := 1) (N := some 34) (v := ?_) (a' := ?_) #[true, true, false, false, false] rfl rfl z8_18 (fun _ _ _ h => h) (Or.inl ⟨by rfl, ?_⟩) hHeld ?_ ?_
            rotate_left
            · rintro w' ⟨s0, s1⟩
              go_simp
              with_reducible rfl
            rotate_left
            · simp only [Act.put, List.setIfInBounds_toArray, List.set_cons_zero, List.set_cons_succ, i64_w, i32_w]
              rfl
            refine one_ (i := 2) (N := some 35) #[true, true, true, false, false] rfl rfl z8_18 (by decide) (fun K hK => ?_)
            refine goes_ Try.func32 z8_18 rfl #[.agg #[.slice A0_0 l0_0.length c0_0]] (by rfl) rfl rfl z8_1 ?_
            with_reducible refine (laws_toProgram.calls k _ _ l0_0 t306 _ ?side1 ?side2 A17.out).mono ?_
            (case side1 => exact z8_6)
            (case side2 => exact z8_29)
            rintro e w43 ⟨v307, rfl, ho0, hb⟩
            refine ⟨_, rfl, ?_⟩
            have n0_ := Aside0.mk (Kd.S_elder' z8_4 (Kd.S_base ho0) hb)
            have n1_ := Aside0.mk (Kd.R_below z8_7 hb)
            have n2_ := Aside0.mk (Kd.S_elder' z8_8 (Kd.S_base ho0) hb)
            have n3_ := Aside0.mk (Kd.R_below z8_9 hb)
            have n4_ := Aside0.mk (Kd.S_lower (Kd.S_new' (Kd.S_new' ho0 (Kd.S_lt z8_4)) (Kd.S_lt z8_8)) (below_size z8_2))
            have n5_ := Aside0.mk (blk_below (g := gb289) (o := .cells #[.slice A0_0 l0_0.length c0_0] 48 (0, 0)) z8_3 hb)
            have n6_ := Aside0.mk (blk_below (g := gb301) (o := .cells #[.slice Ao35 t298.length co35] 53 (0, 0)) z8_10 hb)
            have n7_ := Aside0.mk (below_step z8_2 hb)
            clear HO293
            clear HO296
            clear HO300
            clear HO304
            clear BK289
            clear BK301
            clear HB
            have HO293 := n0_
            have HO296 := n1_
            have HO300 := n2_
            have HO304 := n3_
            have HO308 := n4_
            have BK289 := n5_
            have BK301 := n6_
            have HB := n7_
            clear n0_ n1_ n2_ n3_ n4_ n5_ n6_ n7_
            (try clear hb)
            (try clear hb2)
            (try clear hk)
            (try clear hi)
            (try clear ho0)
            obtain ⟨Ao44, co44, eo44⟩ := Kd.S_slice HO308.out
            (first | subst eo44 | (injection eo44 with f1_ f2_ f3_; have f4_ := f1_.symm; have f5_ := f3_.symm; clear f1_ f2_ f3_; subst f4_; subst f5_))
            refine hK.out _ _ ⟨(blk_cell BK301.out 0).trans rfl, (blk_cell BK289.out 0).trans rfl⟩ (fun hHeld => ?_)
            clear hK K
            refine norm_ (a' := ?_) ?_ ?_
            rotate_left
            · show Act.put _ (some 35) _ = _
              simp only [Act.put, List.setIfInBounds_toArray, List.set_cons_zero, List.set_cons_succ, i64_w, i32_w]
              rfl
            refine one_ (i := 3) (N := some 36) #[true, true, true, true, false] rfl rfl z8_18 (by decide) (fun K hK => ?_)
            refine goes_ Try.func35 z8_18 rfl #[.agg #[.slice Ao35 t298.length co35], .agg #[.slice Ao44 t306.length co44]] (by rfl) rfl rfl z8_1 ?_
            with_reducible refine (laws_eqProgram.calls k _ _ t298 _ _ t306 true _ ?side1 ?side2 ?side3 ?side4 A18.out).mono ?_
            (case side1 => exact z8_11)
            (case side2 => exact (Kd.S_reads' HO300.out).2.1)
            (case side3 => exact z8_24)
            (case side4 => exact (Kd.S_reads' HO308.out).2.1)
            rintro e w45 ⟨rfl, hb⟩
            refine ⟨_, rfl, ?_⟩
            have n0_ := Aside0.mk (Kd.S_below z8_4 hb)
            have n1_ := Aside0.mk (Kd.R_below z8_7 hb)
            have n2_ := Aside0.mk (Kd.S_below z8_8 hb)
            have n3_ := Aside0.mk (Kd.R_below z8_9 hb)
            have n4_ := Aside0.mk (Kd.S_below z8_23 hb)
            have n5_ := Aside0.mk (blk_below (g := gb289) (o := .cells #[.slice A0_0 l0_0.length c0_0] 48 (0, 0)) z8_3 hb)
            have n6_ := Aside0.mk (blk_below (g := gb301) (o := .cells #[.slice Ao35 t298.length co35] 53 (0, 0)) z8_10 hb)
            have n7_ := Aside0.mk (below_step z8_2 hb)
            clear HO293
            clear HO296
            clear HO300
            clear HO304
            clear HO308
            clear BK289
            clear BK301
            clear HB
            have HO293 := n0_
            have HO296 := n1_
            have HO300 := n2_
            have HO304 := n3_
            have HO308 := n4_
            have BK289 := n5_
            have BK301 := n6_
            have HB := n7_
            clear n0_ n1_ n2_ n3_ n4_ n5_ n6_ n7_
            (try clear hb)
            (try clear hb2)
            (try clear hk)
            (try clear hi)
            refine hK.out _ _ ⟨(blk_cell BK301.out 0).trans rfl, (blk_cell BK289.out 0).trans rfl⟩ (fun hHeld => ?_)
            clear hK K
            refine norm_ (a' := ?_) ?_ ?_
            rotate_left
            · show Act.put _ (some 36) _ = _
              simp only [Act.put, List.setIfInBounds_toArray, List.set_cons_zero, List.set_cons_succ, i64_w, i32_w]
              rfl
            refine pure_ (i := 4) (N := some 37) (v := ?_) (a' := ?_) #[true, true, true, true, true] rfl rfl z8_18 (fun _ _ _ h => h) (Or.inl ⟨by rfl, ?_⟩) ?_ ?_
            rotate_left
            · intro w'
              go_simp
              with_reducible rfl
            rotate_left
            · simp only [Act.put, List.setIfInBounds_toArray, List.set_cons_zero, List.set_cons_succ, i64_w, i32_w]
              rfl
            refine done_ z8_18 ?_
            try go_wp2_with (first | ((first | ((with_reducible refine gate_callee (f := 33) rfl ?_); refine goesL_ (some 40) rfl rfl Try.func33 z8_18 rfl #[.slice A1 l1.length c1] rfl z8_1 ?_; (with_reducible refine (laws_toIntS.calls k _ _ l1 t310 _ ?side1 ?side2 A20.out).mono ?_)) | (go_at_call 33; (with_reducible refine (laws_toIntS.calls k _ _ l1 t310 _ ?side1 ?side2 A20.out).mono ?_))); (case side1 => exact z8_13); (case side2 => exact HC1.out); rintro e w46 ⟨v311, rfl, ho0, hb⟩; (first | refine ⟨_, rfl, ?_⟩ | skip); have n0_ := Aside0.mk (Kd.S_below z8_4 hb); have n1_ := Aside0.mk (Kd.R_elder' z8_7 (Kd.R_base ho0) hb); have n2_ := Aside0.mk (Kd.S_below z8_8 hb); have n3_ := Aside0.mk (Kd.R_elder' z8_9 (Kd.R_base ho0) hb); have n4_ := Aside0.mk (Kd.S_below z8_23 hb); have n5_ := Aside0.mk (Kd.R_lower (Kd.R_new' (Kd.R_new' ho0 (Kd.R_lt z8_7)) (Kd.R_lt z8_9)) (below_size z8_2)); have n6_ := Aside0.mk (blk_below (g := gb289) (o := .cells #[.slice A0_0 l0_0.length c0_0] 48 (0, 0)) z8_3 hb); have n7_ := Aside0.mk (blk_below (g := gb301) (o := .cells #[.slice Ao35 t298.length co35] 53 (0, 0)) z8_10 hb); have n8_ := Aside0.mk (below_step z8_2 hb); clear HO293; clear HO296; clear HO300; clear HO304; clear HO308; clear BK289; clear BK301; clear HB; have HO293 := n0_; have HO296 := n1_; have HO300 := n2_; have HO304 := n3_; have HO308 := n4_; have HO312 := n5_; have BK289 := n6_; have BK301 := n7_; have HB := n8_; clear n0_ n1_ n2_ n3_ n4_ n5_ n6_ n7_ n8_; (try clear hb); (try clear hb2); (try clear hk); (try clear hi); (try clear ho0); obtain ⟨Ao47, co47, eo47⟩ := Kd.R_slice HO312.out; subst eo47) | ((first | ((with_reducible refine gate_callee (f := 36) rfl ?_); refine goesL_ (some 41) rfl rfl Try.func36 z8_18 rfl #[.slice Ao40 t302.length co40, .slice Ao47 t310.length co47] rfl z8_1 ?_; (with_reducible refine (laws_eqIntS.calls k _ _ t302 _ _ t310 true _ ?side1 ?side2 ?side3 ?side4 A21.out).mono ?_)) | (go_at_call 36; (with_reducible refine (laws_eqIntS.calls k _ _ t302 _ _ t310 true _ ?side1 ?side2 ?side3 ?side4 A21.out).mono ?_))); (case side1 => exact z8_12); (case side2 => exact (Kd.R_reads' HO304.out).2.1); (case side3 => repeat (first | exact (Kd.R_reads' HO312.out).2.2 | (with_reducible refine Kd.C_alloc ?_ _) | (with_reducible refine Kd.C_drewN ?_ _) | (with_reducible refine Kd.C_drew ?_))); (case side4 => exact (Kd.R_reads' HO312.out).2.1); rintro e w' ⟨rfl, ⟨nd, rfl⟩⟩; (first | refine ⟨_, rfl, ?_⟩ | skip)))
            go_ret
            exact ⟨by first | rfl | (simp [errW_none, errW_some] <;> rfl) | (simp [*, errW_none, errW_some] <;> rfl) | (simp [*, errW_none, errW_some, i64_w]; done), by repeat (first | (with_reducible first | exact HB.out | apply below_alloc | apply pw_below_drewN | apply below_drew1 | refine below_set ?_ GE289.out | refine below_set ?_ GE301.out) | exact HB.out)⟩
          · replace c22 := Bool.eq_false_iff.mpr c22
            subst c22
            have H1 : (some false) = some r := by rw [if_neg (show ¬ (false = true) by decide)] at H; exact H
            clear H
            have H := H1
            clear H1
            obtain rfl := Option.some.inj H
            go_enter Try.func8, Try.ntmps8
            try go_wp2_with (first | ((with_reducible refine gate_dst (N := 2) rfl ?_); refine box_event ?hg (N := 2) ?hd (cs := #[.slice A0_0 l0_0.length c0_0]) (t := 48) ?hr ?_; (case hd => rfl); (case hg => rfl); (case hr => exact z8_22); intro gb289 hg w48 hbox hb; have n0_ := Aside0.mk (below_step z8_5 hb); have n1_ := Aside0.mk (hbox); have n2_ := Aside0.mk ((z8_30 : w.heap.size ≤ gb289)); have n3_ := Aside0.mk ((z8_30 : w.heap.size ≤ gb289)); clear HB; have HB := n0_; have BK289 := n1_; have GW289 := n2_; have GE289 := n3_; clear n0_ n1_ n2_ n3_; clear hb hbox hg; have hcz49_0 : w48.cell? ⟨gb289, 0, none⟩ = some (.slice A0_0 l0_0.length c0_0) := (blk_cell BK289.out 0).trans rfl; have hfz49_0 := blk_frozen BK289.out 0) | ((first | ((with_reducible refine gate_callee (f := 30) rfl ?_); refine goesL_ (some 15) rfl rfl Try.func30 z8_18 rfl #[.agg #[.slice A0_0 l0_0.length c0_0], .int .i64 1048576] rfl z8_1 ?_; (with_reducible refine (laws_szProgram.calls k _ _ l0_0 1048576 t290 _ ?side1 ?side2 A5.out).mono ?_)) | (go_at_call 30; (with_reducible refine (laws_szProgram.calls k _ _ l0_0 1048576 t290 _ ?side1 ?side2 A5.out).mono ?_))); (case side1 => exact z8_6); (case side2 => exact z8_29); rintro e w50 ⟨rfl, hb⟩; (first | refine ⟨_, rfl, ?_⟩ | skip); have n0_ := Aside0.mk (blk_below (g := gb289) (o := .cells #[.slice A0_0 l0_0.length c0_0] 48 (0, 0)) z8_3 hb); have n1_ := Aside0.mk (below_step z8_0 hb); clear BK289; clear HB; have BK289 := n0_; have HB := n1_; clear n0_ n1_; (try clear hb); (try clear hb2); (try clear hk); (try clear hi); have hcz51_0 : w50.cell? ⟨gb289, 0, none⟩ = some (.slice A0_0 l0_0.length c0_0) := (blk_cell BK289.out 0).trans rfl; have hfz51_0 := blk_frozen BK289.out 0) | ((first | ((with_reducible refine gate_callee (f := 32) rfl ?_); refine goesL_ (some 19) rfl rfl Try.func32 z8_18 rfl #[.agg #[.slice A0_0 l0_0.length c0_0]] rfl z8_1 ?_; (with_reducible refine (laws_toProgram.calls k _ _ l0_0 t291 _ ?side1 ?side2 A10.out).mono ?_)) | (go_at_call 32; (with_reducible refine (laws_toProgram.calls k _ _ l0_0 t291 _ ?side1 ?side2 A10.out).mono ?_))); (case side1 => exact z8_6); (case side2 => exact z8_29); rintro e w52 ⟨v292, rfl, ho0, hb⟩; (first | refine ⟨_, rfl, ?_⟩ | skip); have n0_ := Aside0.mk (Kd.S_lower ho0 (below_size z8_0)); have n1_ := Aside0.mk (blk_below (g := gb289) (o := .cells #[.slice A0_0 l0_0.length c0_0] 48 (0, 0)) z8_3 hb); have n2_ := Aside0.mk (below_step z8_0 hb); clear BK289; clear HB; have HO293 := n0_; have BK289 := n1_; have HB := n2_; clear n0_ n1_ n2_; (try clear hb); (try clear hb2); (try clear hk); (try clear hi); (try clear ho0)) | ((first | ((with_reducible refine gate_callee (f := 33) rfl ?_); refine goesL_ (some 21) rfl rfl Try.func33 z8_18 rfl #[.slice A1 l1.length c1] rfl z8_1 ?_; (with_reducible refine (laws_toIntS.calls k _ _ l1 t294 _ ?side1 ?side2 A11.out).mono ?_)) | (go_at_call 33; (with_reducible refine (laws_toIntS.calls k _ _ l1 t294 _ ?side1 ?side2 A11.out).mono ?_))); (case side1 => exact z8_13); (case side2 => exact HC1.out); rintro e w53 ⟨v295, rfl, ho0, hb⟩; (first | refine ⟨_, rfl, ?_⟩ | skip); have n0_ := Aside0.mk (Kd.S_below z8_4 hb); have n1_ := Aside0.mk (Kd.R_lower ho0 (below_size z8_0)); have n2_ := Aside0.mk (blk_below (g := gb289) (o := .cells #[.slice A0_0 l0_0.length c0_0] 48 (0, 0)) z8_3 hb); have n3_ := Aside0.mk (below_step z8_0 hb); clear HO293; clear BK289; clear HB; have HO293 := n0_; have HO296 := n1_; have BK289 := n2_; have HB := n3_; clear n0_ n1_ n2_ n3_; (try clear hb); (try clear hb2); (try clear hk); (try clear hi); (try clear ho0); obtain ⟨Ao54, co54, eo54⟩ := Kd.S_slice HO293.out; subst eo54; obtain ⟨Ao55, co55, eo55⟩ := Kd.R_slice HO296.out; subst eo55) | ((first | ((with_reducible refine gate_callee (f := 31) rfl ?_); refine goesL_ (some 22) rfl rfl Try.func31 z8_18 rfl #[.agg #[.slice Ao54 t291.length co54], .slice Ao55 t294.length co55] rfl z8_1 ?_; (with_reducible refine (spec_LostWork.calls k _ _ t291 _ _ t294 t297 _ ?side1 ?side2 ?side3 ?side4 A12.out).mono ?_)) | (go_at_call 31; (with_reducible refine (spec_LostWork.calls k _ _ t291 _ _ t294 t297 _ ?side1 ?side2 ?side3 ?side4 A12.out).mono ?_))); (case side1 => exact z8_20); (case side2 => exact (Kd.S_reads' HO293.out).2.1); (case side3 => exact z8_21); (case side4 => exact (Kd.R_reads' HO296.out).2.1); rintro e w56 ⟨rfl, hb⟩; (first | refine ⟨_, rfl, ?_⟩ | skip); have n0_ := Aside0.mk (Kd.S_below z8_4 hb); have n1_ := Aside0.mk (Kd.R_below z8_7 hb); have n2_ := Aside0.mk (blk_below (g := gb289) (o := .cells #[.slice A0_0 l0_0.length c0_0] 48 (0, 0)) z8_3 hb); have n3_ := Aside0.mk (below_step z8_0 hb); clear HO293; clear HO296; clear BK289; clear HB; have HO293 := n0_; have HO296 := n1_; have BK289 := n2_; have HB := n3_; clear n0_ n1_ n2_ n3_; (try clear hb); (try clear hb2); (try clear hk); (try clear hi); have hcz57_0 : w56.cell? ⟨gb289, 0, none⟩ = some (.slice A0_0 l0_0.length c0_0) := (blk_cell BK289.out 0).trans rfl; have hfz57_0 := blk_frozen BK289.out 0) | ((first | ((with_reducible refine gate_callee (f := 32) rfl ?_); refine goesL_ (some 24) rfl rfl Try.func32 z8_18 rfl #[.agg #[.slice A0_0 l0_0.length c0_0]] rfl z8_1 ?_; (with_reducible refine (laws_toProgram.calls k _ _ l0_0 t298 _ ?side1 ?side2 A13.out).mono ?_)) | (go_at_call 32; (with_reducible refine (laws_toProgram.calls k _ _ l0_0 t298 _ ?side1 ?side2 A13.out).mono ?_))); (case side1 => exact z8_6); (case side2 => exact z8_29); rintro e w58 ⟨v299, rfl, ho0, hb⟩; (first | refine ⟨_, rfl, ?_⟩ | skip); have n0_ := Aside0.mk (Kd.S_elder' z8_4 (Kd.S_base ho0) hb); have n1_ := Aside0.mk (Kd.R_below z8_7 hb); have n2_ := Aside0.mk (Kd.S_lower (Kd.S_new' ho0 (Kd.S_lt z8_4)) (below_size z8_0)); have n3_ := Aside0.mk (blk_below (g := gb289) (o := .cells #[.slice A0_0 l0_0.length c0_0] 48 (0, 0)) z8_3 hb); have n4_ := Aside0.mk (below_step z8_0 hb); clear HO293; clear HO296; clear BK289; clear HB; have HO293 := n0_; have HO296 := n1_; have HO300 := n2_; have BK289 := n3_; have HB := n4_; clear n0_ n1_ n2_ n3_ n4_; (try clear hb); (try clear hb2); (try clear hk); (try clear hi); (try clear ho0)) | ((with_reducible refine gate_dst (N := 7) rfl ?_); refine box_event ?hg (N := 7) ?hd (cs := #[.slice none 0 0]) (t := 53) ?hr ?_; (case hd => rfl); (case hg => rfl); (case hr => exact z8_22); intro gb301 hg w59 hbox hb; have n0_ := Aside0.mk (Kd.S_below z8_4 hb); have n1_ := Aside0.mk (Kd.R_below z8_7 hb); have n2_ := Aside0.mk (Kd.S_below z8_8 hb); have n3_ := Aside0.mk (blk_below (g := gb289) (o := .cells #[.slice A0_0 l0_0.length c0_0] 48 (0, 0)) z8_3 hb); have n4_ := Aside0.mk (below_step z8_0 hb); have n5_ := Aside0.mk (hbox); have n6_ := Aside0.mk ((z8_33 : w.heap.size ≤ gb301)); have n7_ := Aside0.mk ((z8_33 : w.heap.size ≤ gb301)); have n8_ := Aside0.mk ((z8_31 : gb289 ≠ gb301)); have n9_ := Aside0.mk ((z8_32 : gb301 ≠ gb289)); clear HO293; clear HO296; clear HO300; clear BK289; clear HB; have HO293 := n0_; have HO296 := n1_; have HO300 := n2_; have BK289 := n3_; have HB := n4_; have BK301 := n5_; have GW301 := n6_; have GE301 := n7_; have NB289_301 := n8_; have NB301_289 := n9_; clear n0_ n1_ n2_ n3_ n4_ n5_ n6_ n7_ n8_ n9_; clear hb hbox hg; obtain ⟨Ao60, co60, eo60⟩ := Kd.S_slice HO300.out; subst eo60; have hnb61 := NB301_289.out; have hnc61 := NB289_301.out; have hcz62_0 : w59.cell? ⟨gb301, 0, none⟩ = some (.slice none 0 0) := (blk_cell BK301.out 0).trans rfl; have hfz62_0 := blk_frozen BK301.out 0) | ((first | ((with_reducible refine gate_callee (f := 33) rfl ?_); refine goesL_ (some 26) rfl rfl Try.func33 z8_18 rfl #[.slice A1 l1.length c1] rfl z8_1 ?_; (with_reducible refine (laws_toIntS.calls k _ _ l1 t302 _ ?side1 ?side2 A14.out).mono ?_)) | (go_at_call 33; (with_reducible refine (laws_toIntS.calls k _ _ l1 t302 _ ?side1 ?side2 A14.out).mono ?_))); (case side1 => exact Kd.C_below HR1.out z8_2); (case side2 => exact HC1.out); rintro e w63 ⟨v303, rfl, ho0, hb⟩; (first | refine ⟨_, rfl, ?_⟩ | skip); have n0_ := Aside0.mk (Kd.S_below (by (with_reducible repeat (first | apply Kd.S_alloc | apply Kd.S_drewN | apply Kd.S_drew)); exact (Kd.S_mono (Kd.S_far (p := ⟨gb301, 0, none⟩) (Kd.S_types HO293.out BK301.out (by decide)) (fun _ hk => hk.2) (.slice Ao60 t298.length co60)) (fun _ h_ => h_.1))) hb); have n1_ := Aside0.mk (Kd.R_elder' z8_27 (Kd.R_base ho0) hb); have n2_ := Aside0.mk (Kd.S_below (by (with_reducible repeat (first | apply Kd.S_alloc | apply Kd.S_drewN | apply Kd.S_drew)); exact (Kd.S_mono (Kd.S_far (p := ⟨gb301, 0, none⟩) (Kd.S_types HO300.out BK301.out (by decide)) (fun _ hk => hk.2) (.slice Ao60 t298.length co60)) (fun _ h_ => h_.1))) hb); have n3_ := Aside0.mk (Kd.R_lower (Kd.R_new' ho0 (Kd.R_lt z8_27)) (below_size z8_2)); have n4_ := Aside0.mk (blk_below (g := gb289) (o := .cells #[.slice A0_0 l0_0.length c0_0] 48 (0, 0)) z8_17 hb); have n5_ := Aside0.mk (blk_below (g := gb301) (o := .cells #[.slice Ao60 t298.length co60] 53 (0, 0)) z8_14 hb); have n6_ := Aside0.mk (below_step z8_2 hb); clear HO293; clear HO296; clear HO300; clear BK289; clear BK301; clear HB; have HO293 := n0_; have HO296 := n1_; have HO300 := n2_; have HO304 := n3_; have BK289 := n4_; have BK301 := n5_; have HB := n6_; clear n0_ n1_ n2_ n3_ n4_ n5_ n6_; (try clear hb); (try clear hb2); (try clear hk); (try clear hi); (try clear ho0); have hcz64_0 : w63.cell? ⟨gb301, 0, none⟩ = some (.slice Ao60 t298.length co60) := (blk_cell BK301.out 0).trans rfl; have hfz64_0 := blk_frozen BK301.out 0; obtain ⟨Ao65, co65, eo65⟩ := Kd.R_slice HO304.out; subst eo65) | ((first | ((with_reducible refine gate_callee (f := 34) rfl ?_); refine goesL_ (some 29) rfl rfl Try.func34 z8_18 rfl #[.agg #[.slice Ao60 t298.length co60], .slice Ao65 t302.length co65] rfl z8_1 ?_; (with_reducible refine (impl_LostWork.calls k _ _ t298 _ _ t302 t305 _ ?side1 ?side2 ?side3 ?side4 A15.out).mono ?_)) | (go_at_call 34; (with_reducible refine (impl_LostWork.calls k _ _ t298 _ _ t302 t305 _ ?side1 ?side2 ?side3 ?side4 A15.out).mono ?_))); (case side1 => exact z8_11); (case side2 => exact (Kd.S_reads' HO300.out).2.1); (case side3 => exact z8_12); (case side4 => exact (Kd.R_reads' HO304.out).2.1); rintro e w66 ⟨rfl, hb⟩; (first | refine ⟨_, rfl, ?_⟩ | skip); have n0_ := Aside0.mk (Kd.S_below z8_4 hb); have n1_ := Aside0.mk (Kd.R_below z8_7 hb); have n2_ := Aside0.mk (Kd.S_below z8_8 hb); have n3_ := Aside0.mk (Kd.R_below z8_9 hb); have n4_ := Aside0.mk (blk_below (g := gb289) (o := .cells #[.slice A0_0 l0_0.length c0_0] 48 (0, 0)) z8_3 hb); have n5_ := Aside0.mk (blk_below (g := gb301) (o := .cells #[.slice Ao60 t298.length co60] 53 (0, 0)) z8_10 hb); have n6_ := Aside0.mk (below_step z8_2 hb); clear HO293; clear HO296; clear HO300; clear HO304; clear BK289; clear BK301; clear HB; have HO293 := n0_; have HO296 := n1_; have HO300 := n2_; have HO304 := n3_; have BK289 := n4_; have BK301 := n5_; have HB := n6_; clear n0_ n1_ n2_ n3_ n4_ n5_ n6_; (try clear hb); (try clear hb2); (try clear hk); (try clear hi)))
            have n0_ := Aside0.mk (Kd.S_drew HO293.out)
            have n1_ := Aside0.mk (Kd.R_drew HO296.out)
            have n2_ := Aside0.mk (Kd.S_drew HO300.out)
            have n3_ := Aside0.mk (Kd.R_drew HO304.out)
            have n4_ := Aside0.mk (blk_drew BK289.out)
            have n5_ := Aside0.mk (blk_drew BK301.out)
            have n6_ := Aside0.mk (below_drew1 HB.out)
            clear HO293
            clear HO296
            clear HO300
            clear HO304
            clear BK289
            clear BK301
            clear HB
            have HO293 := n0_
            have HO296 := n1_
            have HO300 := n2_
            have HO304 := n3_
            have BK289 := n4_
            have BK301 := n5_
            have HB := n6_
            clear n0_ n1_ n2_ n3_ n4_ n5_ n6_
            refine start_ (n := 5) (S := fun w' => w'.cell? ⟨gb301, 0, none⟩ = some (.slice Ao60 t298.length co60) ∧ w'.cell? ⟨gb289, 0, none⟩ = some (.slice A0_0 l0_0.length c0_0)) (ds := []) #[false, false, false, false, false] z8_18 rfl rfl ⟨(blk_cell BK301.out 0).trans rfl, (blk_cell BK289.out 0).trans rfl⟩ (fun hHeld => ?_)
            generalize w66.drew = w67 at HO293 HO296 HO300 HO304 BK289 BK301 HB hHeld ⊢
            refine take_ (i := 0) (N := some 33) (v := ?_) (a' := ?_) #[true, false, false, false, false] rfl rfl z8_18 (fun _ _ _ h => h) (Or.inl ⟨by rfl, ?_⟩) hHeld ?_ ?_
            rotate_left
            · rintro w' ⟨s0, s1⟩
              go_simp
              with_reducible rfl
            rotate_left
            · simp only [Act.put, List.setIfInBounds_toArray, List.set_cons_zero, List.set_cons_succ, i64_w, i32_w]
              rfl
            refine take_ (i := 1) (N := some 34) (v := ?_) (a' := ?_) #[true, true, false, false, false] rfl rfl z8_18 (fun _ _ _ h => h) (Or.inl ⟨by rfl, ?_⟩) hHeld ?_ ?_
            rotate_left
            · rintro w' ⟨s0, s1⟩
              go_simp
              with_reducible rfl
            rotate_left
            · simp only [Act.put, List.setIfInBounds_toArray, List.set_cons_zero, List.set_cons_succ, i64_w, i32_w]
              rfl
            refine one_ (i := 2) (N := some 35) #[true, true, true, false, false] rfl rfl z8_18 (by decide) (fun K hK => ?_)
            refine goes_ Try.func32 z8_18 rfl #[.agg #[.slice A0_0 l0_0.length c0_0]] (by rfl) rfl rfl z8_1 ?_
            with_reducible refine (laws_toProgram.calls k _ _ l0_0 t306 _ ?side1 ?side2 A17.out).mono ?_
            (case side1 => exact z8_6)
            (case side2 => exact z8_29)
            rintro e w68 ⟨v307, rfl, ho0, hb⟩
            refine ⟨_, rfl, ?_⟩
            have n0_ := Aside0.mk (Kd.S_elder' z8_4 (Kd.S_base ho0) hb)
            have n1_ := Aside0.mk (Kd.R_below z8_7 hb)
            have n2_ := Aside0.mk (Kd.S_elder' z8_8 (Kd.S_base ho0) hb)
            have n3_ := Aside0.mk (Kd.R_below z8_9 hb)
            have n4_ := Aside0.mk (Kd.S_lower (Kd.S_new' (Kd.S_new' ho0 (Kd.S_lt z8_4)) (Kd.S_lt z8_8)) (below_size z8_2))
            have n5_ := Aside0.mk (blk_below (g := gb289) (o := .cells #[.slice A0_0 l0_0.length c0_0] 48 (0, 0)) z8_3 hb)
            have n6_ := Aside0.mk (blk_below (g := gb301) (o := .cells #[.slice Ao60 t298.length co60] 53 (0, 0)) z8_10 hb)
            have n7_ := Aside0.mk (below_step z8_2 hb)
            clear HO293
            clear HO296
            clear HO300
            clear HO304
            clear BK289
            clear BK301
            clear HB
            have HO293 := n0_
            have HO296 := n1_
            have HO300 := n2_
            have HO304 := n3_
            have HO308 := n4_
            have BK289 := n5_
            have BK301 := n6_
            have HB := n7_
            clear n0_ n1_ n2_ n3_ n4_ n5_ n6_ n7_
            (try clear hb)
            (try clear hb2)
            (try clear hk)
            (try clear hi)
            (try clear ho0)
            obtain ⟨Ao69, co69, eo69⟩ := Kd.S_slice HO308.out
            (first | subst eo69 | (injection eo69 with f1_ f2_ f3_; have f4_ := f1_.symm; have f5_ := f3_.symm; clear f1_ f2_ f3_; subst f4_; subst f5_))
            refine hK.out _ _ ⟨(blk_cell BK301.out 0).trans rfl, (blk_cell BK289.out 0).trans rfl⟩ (fun hHeld => ?_)
            clear hK K
            refine norm_ (a' := ?_) ?_ ?_
            rotate_left
            · show Act.put _ (some 35) _ = _
              simp only [Act.put, List.setIfInBounds_toArray, List.set_cons_zero, List.set_cons_succ, i64_w, i32_w]
              rfl
            refine one_ (i := 3) (N := some 36) #[true, true, true, true, false] rfl rfl z8_18 (by decide) (fun K hK => ?_)
            refine goes_ Try.func35 z8_18 rfl #[.agg #[.slice Ao60 t298.length co60], .agg #[.slice Ao69 t306.length co69]] (by rfl) rfl rfl z8_1 ?_
            with_reducible refine (laws_eqProgram.calls k _ _ t298 _ _ t306 true _ ?side1 ?side2 ?side3 ?side4 A18.out).mono ?_
            (case side1 => exact z8_11)
            (case side2 => exact (Kd.S_reads' HO300.out).2.1)
            (case side3 => exact z8_24)
            (case side4 => exact (Kd.S_reads' HO308.out).2.1)
            rintro e w70 ⟨rfl, hb⟩
            refine ⟨_, rfl, ?_⟩
            have n0_ := Aside0.mk (Kd.S_below z8_4 hb)
            have n1_ := Aside0.mk (Kd.R_below z8_7 hb)
            have n2_ := Aside0.mk (Kd.S_below z8_8 hb)
            have n3_ := Aside0.mk (Kd.R_below z8_9 hb)
            have n4_ := Aside0.mk (Kd.S_below z8_23 hb)
            have n5_ := Aside0.mk (blk_below (g := gb289) (o := .cells #[.slice A0_0 l0_0.length c0_0] 48 (0, 0)) z8_3 hb)
            have n6_ := Aside0.mk (blk_below (g := gb301) (o := .cells #[.slice Ao60 t298.length co60] 53 (0, 0)) z8_10 hb)
            have n7_ := Aside0.mk (below_step z8_2 hb)
            clear HO293
            clear HO296
            clear HO300
            clear HO304
            clear HO308
            clear BK289
            clear BK301
            clear HB
            have HO293 := n0_
            have HO296 := n1_
            have HO300 := n2_
            have HO304 := n3_
            have HO308 := n4_
            have BK289 := n5_
            have BK301 := n6_
            have HB := n7_
            clear n0_ n1_ n2_ n3_ n4_ n5_ n6_ n7_
            (try clear hb)
            (try clear hb2)
            (try clear hk)
            (try clear hi)
            refine hK.out _ _ ⟨(blk_cell BK301.out 0).trans rfl, (blk_cell BK289.out 0).trans rfl⟩ (fun hHeld => ?_)
            clear hK K
            refine norm_ (a' := ?_) ?_ ?_
            rotate_left
            · show Act.put _ (some 36) _ = _
              simp only [Act.put, List.setIfInBounds_toArray, List.set_cons_zero, List.set_cons_succ, i64_w, i32_w]
              rfl
            refine pure_ (i := 4) (N := some 37) (v := ?_) (a' := ?_) #[true, true, true, true, true] rfl rfl z8_18 (fun _ _ _ h => h) (Or.inl ⟨by rfl, ?_⟩) ?_ ?_
            rotate_left
            · intro w'
              go_simp
              with_reducible rfl
            rotate_left
            · simp only [Act.put, List.setIfInBounds_toArray, List.set_cons_zero, List.set_cons_succ, i64_w, i32_w]
              rfl
            refine done_ z8_18 ?_
            try go_wp2_with (first | ((first | ((with_reducible refine gate_callee (f := 33) rfl ?_); refine goesL_ (some 40) rfl rfl Try.func33 z8_18 rfl #[.slice A1 l1.length c1] rfl z8_1 ?_; (with_reducible refine (laws_toIntS.calls k _ _ l1 t310 _ ?side1 ?side2 A20.out).mono ?_)) | (go_at_call 33; (with_reducible refine (laws_toIntS.calls k _ _ l1 t310 _ ?side1 ?side2 A20.out).mono ?_))); (case side1 => exact z8_13); (case side2 => exact HC1.out); rintro e w71 ⟨v311, rfl, ho0, hb⟩; (first | refine ⟨_, rfl, ?_⟩ | skip); have n0_ := Aside0.mk (Kd.S_below z8_4 hb); have n1_ := Aside0.mk (Kd.R_elder' z8_7 (Kd.R_base ho0) hb); have n2_ := Aside0.mk (Kd.S_below z8_8 hb); have n3_ := Aside0.mk (Kd.R_elder' z8_9 (Kd.R_base ho0) hb); have n4_ := Aside0.mk (Kd.S_below z8_23 hb); have n5_ := Aside0.mk (Kd.R_lower (Kd.R_new' (Kd.R_new' ho0 (Kd.R_lt z8_7)) (Kd.R_lt z8_9)) (below_size z8_2)); have n6_ := Aside0.mk (blk_below (g := gb289) (o := .cells #[.slice A0_0 l0_0.length c0_0] 48 (0, 0)) z8_3 hb); have n7_ := Aside0.mk (blk_below (g := gb301) (o := .cells #[.slice Ao60 t298.length co60] 53 (0, 0)) z8_10 hb); have n8_ := Aside0.mk (below_step z8_2 hb); clear HO293; clear HO296; clear HO300; clear HO304; clear HO308; clear BK289; clear BK301; clear HB; have HO293 := n0_; have HO296 := n1_; have HO300 := n2_; have HO304 := n3_; have HO308 := n4_; have HO312 := n5_; have BK289 := n6_; have BK301 := n7_; have HB := n8_; clear n0_ n1_ n2_ n3_ n4_ n5_ n6_ n7_ n8_; (try clear hb); (try clear hb2); (try clear hk); (try clear hi); (try clear ho0); obtain ⟨Ao72, co72, eo72⟩ := Kd.R_slice HO312.out; subst eo72) | ((first | ((with_reducible refine gate_callee (f := 36) rfl ?_); refine goesL_ (some 41) rfl rfl Try.func36 z8_18 rfl #[.slice Ao65 t302.length co65, .slice Ao72 t310.length co72] rfl z8_1 ?_; (with_reducible refine (laws_eqIntS.calls k _ _ t302 _ _ t310 false _ ?side1 ?side2 ?side3 ?side4 A21.out).mono ?_)) | (go_at_call 36; (with_reducible refine (laws_eqIntS.calls k _ _ t302 _ _ t310 false _ ?side1 ?side2 ?side3 ?side4 A21.out).mono ?_))); (case side1 => exact z8_12); (case side2 => exact (Kd.R_reads' HO304.out).2.1); (case side3 => repeat (first | exact (Kd.R_reads' HO312.out).2.2 | (with_reducible refine Kd.C_alloc ?_ _) | (with_reducible refine Kd.C_drewN ?_ _) | (with_reducible refine Kd.C_drew ?_))); (case side4 => exact (Kd.R_reads' HO312.out).2.1); rintro e w' ⟨rfl, ⟨nd, rfl⟩⟩; (first | refine ⟨_, rfl, ?_⟩ | skip)))
            go_ret
            exact ⟨by first | rfl | (simp [errW_none, errW_some] <;> rfl) | (simp [*, errW_none, errW_some] <;> rfl) | (simp [*, errW_none, errW_some, i64_w]; done), by repeat (first | (with_reducible first | exact HB.out | apply below_alloc | apply pw_below_drewN | apply below_drew1 | refine below_set ?_ GE289.out | refine below_set ?_ GE301.out) | exact HB.out)⟩
        · replace c19 := Bool.eq_false_iff.mpr c19
          subst c19
          have H1 : (some false) = some r := by rw [if_neg (show ¬ (false = true) by decide)] at H; exact H
          clear H
          have H := H1
          clear H1
          obtain rfl := Option.some.inj H
          go_enter Try.func8, Try.ntmps8
          try go_wp2_with (first | ((with_reducible refine gate_dst (N := 2) rfl ?_); refine box_event ?hg (N := 2) ?hd (cs := #[.slice A0_0 l0_0.length c0_0]) (t := 48) ?hr ?_; (case hd => rfl); (case hg => rfl); (case hr => exact z8_22); intro gb289 hg w73 hbox hb; have n0_ := Aside0.mk (below_step z8_5 hb); have n1_ := Aside0.mk (hbox); have n2_ := Aside0.mk ((z8_30 : w.heap.size ≤ gb289)); have n3_ := Aside0.mk ((z8_30 : w.heap.size ≤ gb289)); clear HB; have HB := n0_; have BK289 := n1_; have GW289 := n2_; have GE289 := n3_; clear n0_ n1_ n2_ n3_; clear hb hbox hg; have hcz74_0 : w73.cell? ⟨gb289, 0, none⟩ = some (.slice A0_0 l0_0.length c0_0) := (blk_cell BK289.out 0).trans rfl; have hfz74_0 := blk_frozen BK289.out 0) | ((first | ((with_reducible refine gate_callee (f := 30) rfl ?_); refine goesL_ (some 15) rfl rfl Try.func30 z8_18 rfl #[.agg #[.slice A0_0 l0_0.length c0_0], .int .i64 1048576] rfl z8_1 ?_; (with_reducible refine (laws_szProgram.calls k _ _ l0_0 1048576 t290 _ ?side1 ?side2 A5.out).mono ?_)) | (go_at_call 30; (with_reducible refine (laws_szProgram.calls k _ _ l0_0 1048576 t290 _ ?side1 ?side2 A5.out).mono ?_))); (case side1 => exact z8_6); (case side2 => exact z8_29); rintro e w75 ⟨rfl, hb⟩; (first | refine ⟨_, rfl, ?_⟩ | skip); have n0_ := Aside0.mk (blk_below (g := gb289) (o := .cells #[.slice A0_0 l0_0.length c0_0] 48 (0, 0)) z8_3 hb); have n1_ := Aside0.mk (below_step z8_0 hb); clear BK289; clear HB; have BK289 := n0_; have HB := n1_; clear n0_ n1_; (try clear hb); (try clear hb2); (try clear hk); (try clear hi); have hcz76_0 : w75.cell? ⟨gb289, 0, none⟩ = some (.slice A0_0 l0_0.length c0_0) := (blk_cell BK289.out 0).trans rfl; have hfz76_0 := blk_frozen BK289.out 0) | ((first | ((with_reducible refine gate_callee (f := 32) rfl ?_); refine goesL_ (some 19) rfl rfl Try.func32 z8_18 rfl #[.agg #[.slice A0_0 l0_0.length c0_0]] rfl z8_1 ?_; (with_reducible refine (laws_toProgram.calls k _ _ l0_0 t291 _ ?side1 ?side2 A10.out).mono ?_)) | (go_at_call 32; (with_reducible refine (laws_toProgram.calls k _ _ l0_0 t291 _ ?side1 ?side2 A10.out).mono ?_))); (case side1 => exact z8_6); (case side2 => exact z8_29); rintro e w77 ⟨v292, rfl, ho0, hb⟩; (first | refine ⟨_, rfl, ?_⟩ | skip); have n0_ := Aside0.mk (Kd.S_lower ho0 (below_size z8_0)); have n1_ := Aside0.mk (blk_below (g := gb289) (o := .cells #[.slice A0_0 l0_0.length c0_0] 48 (0, 0)) z8_3 hb); have n2_ := Aside0.mk (below_step z8_0 hb); clear BK289; clear HB; have HO293 := n0_; have BK289 := n1_; have HB := n2_; clear n0_ n1_ n2_; (try clear hb); (try clear hb2); (try clear hk); (try clear hi); (try clear ho0)) | ((first | ((with_reducible refine gate_callee (f := 33) rfl ?_); refine goesL_ (some 21) rfl rfl Try.func33 z8_18 rfl #[.slice A1 l1.length c1] rfl z8_1 ?_; (with_reducible refine (laws_toIntS.calls k _ _ l1 t294 _ ?side1 ?side2 A11.out).mono ?_)) | (go_at_call 33; (with_reducible refine (laws_toIntS.calls k _ _ l1 t294 _ ?side1 ?side2 A11.out).mono ?_))); (case side1 => exact z8_13); (case side2 => exact HC1.out); rintro e w78 ⟨v295, rfl, ho0, hb⟩; (first | refine ⟨_, rfl, ?_⟩ | skip); have n0_ := Aside0.mk (Kd.S_below z8_4 hb); have n1_ := Aside0.mk (Kd.R_lower ho0 (below_size z8_0)); have n2_ := Aside0.mk (blk_below (g := gb289) (o := .cells #[.slice A0_0 l0_0.length c0_0] 48 (0, 0)) z8_3 hb); have n3_ := Aside0.mk (below_step z8_0 hb); clear HO293; clear BK289; clear HB; have HO293 := n0_; have HO296 := n1_; have BK289 := n2_; have HB := n3_; clear n0_ n1_ n2_ n3_; (try clear hb); (try clear hb2); (try clear hk); (try clear hi); (try clear ho0); obtain ⟨Ao79, co79, eo79⟩ := Kd.S_slice HO293.out; subst eo79; obtain ⟨Ao80, co80, eo80⟩ := Kd.R_slice HO296.out; subst eo80) | ((first | ((with_reducible refine gate_callee (f := 31) rfl ?_); refine goesL_ (some 22) rfl rfl Try.func31 z8_18 rfl #[.agg #[.slice Ao79 t291.length co79], .slice Ao80 t294.length co80] rfl z8_1 ?_; (with_reducible refine (spec_LostWork.calls k _ _ t291 _ _ t294 t297 _ ?side1 ?side2 ?side3 ?side4 A12.out).mono ?_)) | (go_at_call 31; (with_reducible refine (spec_LostWork.calls k _ _ t291 _ _ t294 t297 _ ?side1 ?side2 ?side3 ?side4 A12.out).mono ?_))); (case side1 => exact z8_20); (case side2 => exact (Kd.S_reads' HO293.out).2.1); (case side3 => exact z8_21); (case side4 => exact (Kd.R_reads' HO296.out).2.1); rintro e w81 ⟨rfl, hb⟩; (first | refine ⟨_, rfl, ?_⟩ | skip); have n0_ := Aside0.mk (Kd.S_below z8_4 hb); have n1_ := Aside0.mk (Kd.R_below z8_7 hb); have n2_ := Aside0.mk (blk_below (g := gb289) (o := .cells #[.slice A0_0 l0_0.length c0_0] 48 (0, 0)) z8_3 hb); have n3_ := Aside0.mk (below_step z8_0 hb); clear HO293; clear HO296; clear BK289; clear HB; have HO293 := n0_; have HO296 := n1_; have BK289 := n2_; have HB := n3_; clear n0_ n1_ n2_ n3_; (try clear hb); (try clear hb2); (try clear hk); (try clear hi); have hcz82_0 : w81.cell? ⟨gb289, 0, none⟩ = some (.slice A0_0 l0_0.length c0_0) := (blk_cell BK289.out 0).trans rfl; have hfz82_0 := blk_frozen BK289.out 0) | ((first | ((with_reducible refine gate_callee (f := 32) rfl ?_); refine goesL_ (some 24) rfl rfl Try.func32 z8_18 rfl #[.agg #[.slice A0_0 l0_0.length c0_0]] rfl z8_1 ?_; (with_reducible refine (laws_toProgram.calls k _ _ l0_0 t298 _ ?side1 ?side2 A13.out).mono ?_)) | (go_at_call 32; (with_reducible refine (laws_toProgram.calls k _ _ l0_0 t298 _ ?side1 ?side2 A13.out).mono ?_))); (case side1 => exact z8_6); (case side2 => exact z8_29); rintro e w83 ⟨v299, rfl, ho0, hb⟩; (first | refine ⟨_, rfl, ?_⟩ | skip); have n0_ := Aside0.mk (Kd.S_elder' z8_4 (Kd.S_base ho0) hb); have n1_ := Aside0.mk (Kd.R_below z8_7 hb); have n2_ := Aside0.mk (Kd.S_lower (Kd.S_new' ho0 (Kd.S_lt z8_4)) (below_size z8_0)); have n3_ := Aside0.mk (blk_below (g := gb289) (o := .cells #[.slice A0_0 l0_0.length c0_0] 48 (0, 0)) z8_3 hb); have n4_ := Aside0.mk (below_step z8_0 hb); clear HO293; clear HO296; clear BK289; clear HB; have HO293 := n0_; have HO296 := n1_; have HO300 := n2_; have BK289 := n3_; have HB := n4_; clear n0_ n1_ n2_ n3_ n4_; (try clear hb); (try clear hb2); (try clear hk); (try clear hi); (try clear ho0)) | ((with_reducible refine gate_dst (N := 7) rfl ?_); refine box_event ?hg (N := 7) ?hd (cs := #[.slice none 0 0]) (t := 53) ?hr ?_; (case hd => rfl); (case hg => rfl); (case hr => exact z8_22); intro gb301 hg w84 hbox hb; have n0_ := Aside0.mk (Kd.S_below z8_4 hb); have n1_ := Aside0.mk (Kd.R_below z8_7 hb); have n2_ := Aside0.mk (Kd.S_below z8_8 hb); have n3_ := Aside0.mk (blk_below (g := gb289) (o := .cells #[.slice A0_0 l0_0.length c0_0] 48 (0, 0)) z8_3 hb); have n4_ := Aside0.mk (below_step z8_0 hb); have n5_ := Aside0.mk (hbox); have n6_ := Aside0.mk ((z8_33 : w.heap.size ≤ gb301)); have n7_ := Aside0.mk ((z8_33 : w.heap.size ≤ gb301)); have n8_ := Aside0.mk ((z8_31 : gb289 ≠ gb301)); have n9_ := Aside0.mk ((z8_32 : gb301 ≠ gb289)); clear HO293; clear HO296; clear HO300; clear BK289; clear HB; have HO293 := n0_; have HO296 := n1_; have HO300 := n2_; have BK289 := n3_; have HB := n4_; have BK301 := n5_; have GW301 := n6_; have GE301 := n7_; have NB289_301 := n8_; have NB301_289 := n9_; clear n0_ n1_ n2_ n3_ n4_ n5_ n6_ n7_ n8_ n9_; clear hb hbox hg; obtain ⟨Ao85, co85, eo85⟩ := Kd.S_slice HO300.out; subst eo85; have hnb86 := NB301_289.out; have hnc86 := NB289_301.out; have hcz87_0 : w84.cell? ⟨gb301, 0, none⟩ = some (.slice none 0 0) := (blk_cell BK301.out 0).trans rfl; have hfz87_0 := blk_frozen BK301.out 0) | ((first | ((with_reducible refine gate_callee (f := 33) rfl ?_); refine goesL_ (some 26) rfl rfl Try.func33 z8_18 rfl #[.slice A1 l1.length c1] rfl z8_1 ?_; (with_reducible refine (laws_toIntS.calls k _ _ l1 t302 _ ?side1 ?side2 A14.out).mono ?_)) | (go_at_call 33; (with_reducible refine (laws_toIntS.calls k _ _ l1 t302 _ ?side1 ?side2 A14.out).mono ?_))); (case side1 => exact Kd.C_below HR1.out z8_2); (case side2 => exact HC1.out); rintro e w88 ⟨v303, rfl, ho0, hb⟩; (first | refine ⟨_, rfl, ?_⟩ | skip); have n0_ := Aside0.mk (Kd.S_below (by (with_reducible repeat (first | apply Kd.S_alloc | apply Kd.S_drewN | apply Kd.S_drew)); exact (Kd.S_mono (Kd.S_far (p := ⟨gb301, 0, none⟩) (Kd.S_types HO293.out BK301.out (by decide)) (fun _ hk => hk.2) (.slice Ao85 t298.length co85)) (fun _ h_ => h_.1))) hb); have n1_ := Aside0.mk (Kd.R_elder' z8_26 (Kd.R_base ho0) hb); have n2_ := Aside0.mk (Kd.S_below (by (with_reducible repeat (first | apply Kd.S_alloc | apply Kd.S_drewN | apply Kd.S_drew)); exact (Kd.S_mono (Kd.S_far (p := ⟨gb301, 0, none⟩) (Kd.S_types HO300.out BK301.out (by decide)) (fun _ hk => hk.2) (.slice Ao85 t298.length co85)) (fun _ h_ => h_.1))) hb); have n3_ := Aside0.mk (Kd.R_lower (Kd.R_new' ho0 (Kd.R_lt z8_26)) (below_size z8_2)); have n4_ := Aside0.mk (blk_below (g := gb289) (o := .cells #[.slice A0_0 l0_0.length c0_0] 48 (0, 0)) z8_17 hb); have n5_ := Aside0.mk (blk_below (g := gb301) (o := .cells #[.slice Ao85 t298.length co85] 53 (0, 0)) z8_14 hb); have n6_ := Aside0.mk (below_step z8_2 hb); clear HO293; clear HO296; clear HO300; clear BK289; clear BK301; clear HB; have HO293 := n0_; have HO296 := n1_; have HO300 := n2_; have HO304 := n3_; have BK289 := n4_; have BK301 := n5_; have HB := n6_; clear n0_ n1_ n2_ n3_ n4_ n5_ n6_; (try clear hb); (try clear hb2); (try clear hk); (try clear hi); (try clear ho0); have hcz89_0 : w88.cell? ⟨gb301, 0, none⟩ = some (.slice Ao85 t298.length co85) := (blk_cell BK301.out 0).trans rfl; have hfz89_0 := blk_frozen BK301.out 0; obtain ⟨Ao90, co90, eo90⟩ := Kd.R_slice HO304.out; subst eo90) | ((first | ((with_reducible refine gate_callee (f := 34) rfl ?_); refine goesL_ (some 29) rfl rfl Try.func34 z8_18 rfl #[.agg #[.slice Ao85 t298.length co85], .slice Ao90 t302.length co90] rfl z8_1 ?_; (with_reducible refine (impl_LostWork.calls k _ _ t298 _ _ t302 t305 _ ?side1 ?side2 ?side3 ?side4 A15.out).mono ?_)) | (go_at_call 34; (with_reducible refine (impl_LostWork.calls k _ _ t298 _ _ t302 t305 _ ?side1 ?side2 ?side3 ?side4 A15.out).mono ?_))); (case side1 => exact z8_11); (case side2 => exact (Kd.S_reads' HO300.out).2.1); (case side3 => exact z8_12); (case side4 => exact (Kd.R_reads' HO304.out).2.1); rintro e w91 ⟨rfl, hb⟩; (first | refine ⟨_, rfl, ?_⟩ | skip); have n0_ := Aside0.mk (Kd.S_below z8_4 hb); have n1_ := Aside0.mk (Kd.R_below z8_7 hb); have n2_ := Aside0.mk (Kd.S_below z8_8 hb); have n3_ := Aside0.mk (Kd.R_below z8_9 hb); have n4_ := Aside0.mk (blk_below (g := gb289) (o := .cells #[.slice A0_0 l0_0.length c0_0] 48 (0, 0)) z8_3 hb); have n5_ := Aside0.mk (blk_below (g := gb301) (o := .cells #[.slice Ao85 t298.length co85] 53 (0, 0)) z8_10 hb); have n6_ := Aside0.mk (below_step z8_2 hb); clear HO293; clear HO296; clear HO300; clear HO304; clear BK289; clear BK301; clear HB; have HO293 := n0_; have HO296 := n1_; have HO300 := n2_; have HO304 := n3_; have BK289 := n4_; have BK301 := n5_; have HB := n6_; clear n0_ n1_ n2_ n3_ n4_ n5_ n6_; (try clear hb); (try clear hb2); (try clear hk); (try clear hi)))
          have n0_ := Aside0.mk (Kd.S_drew HO293.out)
          have n1_ := Aside0.mk (Kd.R_drew HO296.out)
          have n2_ := Aside0.mk (Kd.S_drew HO300.out)
          have n3_ := Aside0.mk (Kd.R_drew HO304.out)
          have n4_ := Aside0.mk (blk_drew BK289.out)
          have n5_ := Aside0.mk (blk_drew BK301.out)
          have n6_ := Aside0.mk (below_drew1 HB.out)
          clear HO293
          clear HO296
          clear HO300
          clear HO304
          clear BK289
          clear BK301
          clear HB
          have HO293 := n0_
          have HO296 := n1_
          have HO300 := n2_
          have HO304 := n3_
          have BK289 := n4_
          have BK301 := n5_
          have HB := n6_
          clear n0_ n1_ n2_ n3_ n4_ n5_ n6_
          refine start_ (n := 5) (S := fun w' => w'.cell? ⟨gb301, 0, none⟩ = some (.slice Ao85 t298.length co85) ∧ w'.cell? ⟨gb289, 0, none⟩ = some (.slice A0_0 l0_0.length c0_0)) (ds := []) #[false, false, false, false, false] z8_18 rfl rfl ⟨(blk_cell BK301.out 0).trans rfl, (blk_cell BK289.out 0).trans rfl⟩ (fun hHeld => ?_)
          generalize w91.drew = w92 at HO293 HO296 HO300 HO304 BK289 BK301 HB hHeld ⊢
          refine take_ (i := 0) (N := some 33) (v := ?_) (a' := ?_) #[true, false, false, false, false] rfl rfl z8_18 (fun _ _ _ h => h) (Or.inl ⟨by rfl, ?_⟩) hHeld ?_ ?_
          rotate_left
          · rintro w' ⟨s0, s1⟩
            go_simp
            with_reducible rfl
          rotate_left
          · simp only [Act.put, List.setIfInBounds_toArray, List.set_cons_zero, List.set_cons_succ, i64_w, i32_w]
            rfl
          refine take_ (i := 1) (N := some 34) (v := ?_) (a' := ?_) #[true, true, false, false, false] rfl rfl z8_18 (fun _ _ _ h => h) (Or.inl ⟨by rfl, ?_⟩) hHeld ?_ ?_
          rotate_left
          · rintro w' ⟨s0, s1⟩
            go_simp
            with_reducible rfl
          rotate_left
          · simp only [Act.put, List.setIfInBounds_toArray, List.set_cons_zero, List.set_cons_succ, i64_w, i32_w]
            rfl
          refine one_ (i := 2) (N := some 35) #[true, true, true, false, false] rfl rfl z8_18 (by decide) (fun K hK => ?_)
          refine goes_ Try.func32 z8_18 rfl #[.agg #[.slice A0_0 l0_0.length c0_0]] (by rfl) rfl rfl z8_1 ?_
          with_reducible refine (laws_toProgram.calls k _ _ l0_0 t306 _ ?side1 ?side2 A17.out).mono ?_
          (case side1 => exact z8_6)
          (case side2 => exact z8_29)
          rintro e w93 ⟨v307, rfl, ho0, hb⟩
          refine ⟨_, rfl, ?_⟩
          have n0_ := Aside0.mk (Kd.S_elder' z8_4 (Kd.S_base ho0) hb)
          have n1_ := Aside0.mk (Kd.R_below z8_7 hb)
          have n2_ := Aside0.mk (Kd.S_elder' z8_8 (Kd.S_base ho0) hb)
          have n3_ := Aside0.mk (Kd.R_below z8_9 hb)
          have n4_ := Aside0.mk (Kd.S_lower (Kd.S_new' (Kd.S_new' ho0 (Kd.S_lt z8_4)) (Kd.S_lt z8_8)) (below_size z8_2))
          have n5_ := Aside0.mk (blk_below (g := gb289) (o := .cells #[.slice A0_0 l0_0.length c0_0] 48 (0, 0)) z8_3 hb)
          have n6_ := Aside0.mk (blk_below (g := gb301) (o := .cells #[.slice Ao85 t298.length co85] 53 (0, 0)) z8_10 hb)
          have n7_ := Aside0.mk (below_step z8_2 hb)
          clear HO293
          clear HO296
          clear HO300
          clear HO304
          clear BK289
          clear BK301
          clear HB
          have HO293 := n0_
          have HO296 := n1_
          have HO300 := n2_
          have HO304 := n3_
          have HO308 := n4_
          have BK289 := n5_
          have BK301 := n6_
          have HB := n7_
          clear n0_ n1_ n2_ n3_ n4_ n5_ n6_ n7_
          (try clear hb)
          (try clear hb2)
          (try clear hk)
          (try clear hi)
          (try clear ho0)
          obtain ⟨Ao94, co94, eo94⟩ := Kd.S_slice HO308.out
          (first | subst eo94 | (injection eo94 with f1_ f2_ f3_; have f4_ := f1_.symm; have f5_ := f3_.symm; clear f1_ f2_ f3_; subst f4_; subst f5_))
          refine hK.out _ _ ⟨(blk_cell BK301.out 0).trans rfl, (blk_cell BK289.out 0).trans rfl⟩ (fun hHeld => ?_)
          clear hK K
          refine norm_ (a' := ?_) ?_ ?_
          rotate_left
          · show Act.put _ (some 35) _ = _
            simp only [Act.put, List.setIfInBounds_toArray, List.set_cons_zero, List.set_cons_succ, i64_w, i32_w]
            rfl
          refine one_ (i := 3) (N := some 36) #[true, true, true, true, false] rfl rfl z8_18 (by decide) (fun K hK => ?_)
          refine goes_ Try.func35 z8_18 rfl #[.agg #[.slice Ao85 t298.length co85], .agg #[.slice Ao94 t306.length co94]] (by rfl) rfl rfl z8_1 ?_
          with_reducible refine (laws_eqProgram.calls k _ _ t298 _ _ t306 false _ ?side1 ?side2 ?side3 ?side4 A18.out).mono ?_
          (case side1 => exact z8_11)
          (case side2 => exact (Kd.S_reads' HO300.out).2.1)
          (case side3 => exact z8_24)
          (case side4 => exact (Kd.S_reads' HO308.out).2.1)
          rintro e w95 ⟨rfl, hb⟩
          refine ⟨_, rfl, ?_⟩
          have n0_ := Aside0.mk (Kd.S_below z8_4 hb)
          have n1_ := Aside0.mk (Kd.R_below z8_7 hb)
          have n2_ := Aside0.mk (Kd.S_below z8_8 hb)
          have n3_ := Aside0.mk (Kd.R_below z8_9 hb)
          have n4_ := Aside0.mk (Kd.S_below z8_23 hb)
          have n5_ := Aside0.mk (blk_below (g := gb289) (o := .cells #[.slice A0_0 l0_0.length c0_0] 48 (0, 0)) z8_3 hb)
          have n6_ := Aside0.mk (blk_below (g := gb301) (o := .cells #[.slice Ao85 t298.length co85] 53 (0, 0)) z8_10 hb)
          have n7_ := Aside0.mk (below_step z8_2 hb)
          clear HO293
          clear HO296
          clear HO300
          clear HO304
          clear HO308
          clear BK289
          clear BK301
          clear HB
          have HO293 := n0_
          have HO296 := n1_
          have HO300 := n2_
          have HO304 := n3_
          have HO308 := n4_
          have BK289 := n5_
          have BK301 := n6_
          have HB := n7_
          clear n0_ n1_ n2_ n3_ n4_ n5_ n6_ n7_
          (try clear hb)
          (try clear hb2)
          (try clear hk)
          (try clear hi)
          refine hK.out _ _ ⟨(blk_cell BK301.out 0).trans rfl, (blk_cell BK289.out 0).trans rfl⟩ (fun hHeld => ?_)
          clear hK K
          refine norm_ (a' := ?_) ?_ ?_
          rotate_left
          · show Act.put _ (some 36) _ = _
            simp only [Act.put, List.setIfInBounds_toArray, List.set_cons_zero, List.set_cons_succ, i64_w, i32_w]
            rfl
          refine pure_ (i := 4) (N := some 37) (v := ?_) (a' := ?_) #[true, true, true, true, true] rfl rfl z8_18 (fun _ _ _ h => h) (Or.inl ⟨by rfl, ?_⟩) ?_ ?_
          rotate_left
          · intro w'
            go_simp
            with_reducible rfl
          rotate_left
          · simp only [Act.put, List.setIfInBounds_toArray, List.set_cons_zero, List.set_cons_succ, i64_w, i32_w]
            rfl
          refine done_ z8_18 ?_
          try go_wp2
          go_ret
          exact ⟨by first | rfl | (simp [errW_none, errW_some] <;> rfl) | (simp [*, errW_none, errW_some] <;> rfl) | (simp [*, errW_none, errW_some, i64_w]; done), by repeat (first | (with_reducible first | exact HB.out | apply below_alloc | apply pw_below_drewN | apply below_drew1 | refine below_set ?_ GE289.out | refine below_set ?_ GE301.out) | exact HB.out)⟩
      · rw [if_neg c16] at H
        have c16b0 : (t305 == t297) = false := beq_eq_false_iff_ne.mpr c16
        have c16b1 : (t305 != t297) = true := bne_iff_ne.mpr c16
        obtain rfl := Option.some.inj H
        go_enter Try.func8, Try.ntmps8
        go_wp2_with (first | ((with_reducible refine gate_dst (N := 2) rfl ?_); refine box_event ?hg (N := 2) ?hd (cs := #[.slice A0_0 l0_0.length c0_0]) (t := 48) ?hr ?_; (case hd => rfl); (case hg => rfl); (case hr => exact z8_22); intro gb289 hg w96 hbox hb; have n0_ := Aside0.mk (below_step z8_5 hb); have n1_ := Aside0.mk (hbox); have n2_ := Aside0.mk ((z8_30 : w.heap.size ≤ gb289)); have n3_ := Aside0.mk ((z8_30 : w.heap.size ≤ gb289)); clear HB; have HB := n0_; have BK289 := n1_; have GW289 := n2_; have GE289 := n3_; clear n0_ n1_ n2_ n3_; clear hb hbox hg; have hcz97_0 : w96.cell? ⟨gb289, 0, none⟩ = some (.slice A0_0 l0_0.length c0_0) := (blk_cell BK289.out 0).trans rfl; have hfz97_0 := blk_frozen BK289.out 0) | ((first | ((with_reducible refine gate_callee (f := 30) rfl ?_); refine goesL_ (some 15) rfl rfl Try.func30 z8_18 rfl #[.agg #[.slice A0_0 l0_0.length c0_0], .int .i64 1048576] rfl z8_1 ?_; (with_reducible refine (laws_szProgram.calls k _ _ l0_0 1048576 t290 _ ?side1 ?side2 A5.out).mono ?_)) | (go_at_call 30; (with_reducible refine (laws_szProgram.calls k _ _ l0_0 1048576 t290 _ ?side1 ?side2 A5.out).mono ?_))); (case side1 => exact z8_6); (case side2 => exact z8_29); rintro e w98 ⟨rfl, hb⟩; (first | refine ⟨_, rfl, ?_⟩ | skip); have n0_ := Aside0.mk (blk_below (g := gb289) (o := .cells #[.slice A0_0 l0_0.length c0_0] 48 (0, 0)) z8_3 hb); have n1_ := Aside0.mk (below_step z8_0 hb); clear BK289; clear HB; have BK289 := n0_; have HB := n1_; clear n0_ n1_; (try clear hb); (try clear hb2); (try clear hk); (try clear hi); have hcz99_0 : w98.cell? ⟨gb289, 0, none⟩ = some (.slice A0_0 l0_0.length c0_0) := (blk_cell BK289.out 0).trans rfl; have hfz99_0 := blk_frozen BK289.out 0) | ((first | ((with_reducible refine gate_callee (f := 32) rfl ?_); refine goesL_ (some 19) rfl rfl Try.func32 z8_18 rfl #[.agg #[.slice A0_0 l0_0.length c0_0]] rfl z8_1 ?_; (with_reducible refine (laws_toProgram.calls k _ _ l0_0 t291 _ ?side1 ?side2 A10.out).mono ?_)) | (go_at_call 32; (with_reducible refine (laws_toProgram.calls k _ _ l0_0 t291 _ ?side1 ?side2 A10.out).mono ?_))); (case side1 => exact z8_6); (case side2 => exact z8_29); rintro e w100 ⟨v292, rfl, ho0, hb⟩; (first | refine ⟨_, rfl, ?_⟩ | skip); have n0_ := Aside0.mk (Kd.S_lower ho0 (below_size z8_0)); have n1_ := Aside0.mk (blk_below (g := gb289) (o := .cells #[.slice A0_0 l0_0.length c0_0] 48 (0, 0)) z8_3 hb); have n2_ := Aside0.mk (below_step z8_0 hb); clear BK289; clear HB; have HO293 := n0_; have BK289 := n1_; have HB := n2_; clear n0_ n1_ n2_; (try clear hb); (try clear hb2); (try clear hk); (try clear hi); (try clear ho0)) | ((first | ((with_reducible refine gate_callee (f := 33) rfl ?_); refine goesL_ (some 21) rfl rfl Try.func33 z8_18 rfl #[.slice A1 l1.length c1] rfl z8_1 ?_; (with_reducible refine (laws_toIntS.calls k _ _ l1 t294 _ ?side1 ?side2 A11.out).mono ?_)) | (go_at_call 33; (with_reducible refine (laws_toIntS.calls k _ _ l1 t294 _ ?side1 ?side2 A11.out).mono ?_))); (case side1 => exact z8_13); (case side2 => exact HC1.out); rintro e w101 ⟨v295, rfl, ho0, hb⟩; (first | refine ⟨_, rfl, ?_⟩ | skip); have n0_ := Aside0.mk (Kd.S_below z8_4 hb); have n1_ := Aside0.mk (Kd.R_lower ho0 (below_size z8_0)); have n2_ := Aside0.mk (blk_below (g := gb289) (o := .cells #[.slice A0_0 l0_0.length c0_0] 48 (0, 0)) z8_3 hb); have n3_ := Aside0.mk (below_step z8_0 hb); clear HO293; clear BK289; clear HB; have HO293 := n0_; have HO296 := n1_; have BK289 := n2_; have HB := n3_; clear n0_ n1_ n2_ n3_; (try clear hb); (try clear hb2); (try clear hk); (try clear hi); (try clear ho0); obtain ⟨Ao102, co102, eo102⟩ := Kd.S_slice HO293.out; subst eo102; obtain ⟨Ao103, co103, eo103⟩ := Kd.R_slice HO296.out; subst eo103) | ((first | ((with_reducible refine gate_callee (f := 31) rfl ?_); refine goesL_ (some 22) rfl rfl Try.func31 z8_18 rfl #[.agg #[.slice Ao102 t291.length co102], .slice Ao103 t294.length co103] rfl z8_1 ?_; (with_reducible refine (spec_LostWork.calls k _ _ t291 _ _ t294 t297 _ ?side1 ?side2 ?side3 ?side4 A12.out).mono ?_)) | (go_at_call 31; (with_reducible refine (spec_LostWork.calls k _ _ t291 _ _ t294 t297 _ ?side1 ?side2 ?side3 ?side4 A12.out).mono ?_))); (case side1 => exact z8_20); (case side2 => exact (Kd.S_reads' HO293.out).2.1); (case side3 => exact z8_21); (case side4 => exact (Kd.R_reads' HO296.out).2.1); rintro e w104 ⟨rfl, hb⟩; (first | refine ⟨_, rfl, ?_⟩ | skip); have n0_ := Aside0.mk (Kd.S_below z8_4 hb); have n1_ := Aside0.mk (Kd.R_below z8_7 hb); have n2_ := Aside0.mk (blk_below (g := gb289) (o := .cells #[.slice A0_0 l0_0.length c0_0] 48 (0, 0)) z8_3 hb); have n3_ := Aside0.mk (below_step z8_0 hb); clear HO293; clear HO296; clear BK289; clear HB; have HO293 := n0_; have HO296 := n1_; have BK289 := n2_; have HB := n3_; clear n0_ n1_ n2_ n3_; (try clear hb); (try clear hb2); (try clear hk); (try clear hi); have hcz105_0 : w104.cell? ⟨gb289, 0, none⟩ = some (.slice A0_0 l0_0.length c0_0) := (blk_cell BK289.out 0).trans rfl; have hfz105_0 := blk_frozen BK289.out 0) | ((first | ((with_reducible refine gate_callee (f := 32) rfl ?_); refine goesL_ (some 24) rfl rfl Try.func32 z8_18 rfl #[.agg #[.slice A0_0 l0_0.length c0_0]] rfl z8_1 ?_; (with_reducible refine (laws_toProgram.calls k _ _ l0_0 t298 _ ?side1 ?side2 A13.out).mono ?_)) | (go_at_call 32; (with_reducible refine (laws_toProgram.calls k _ _ l0_0 t298 _ ?side1 ?side2 A13.out).mono ?_))); (case side1 => exact z8_6); (case side2 => exact z8_29); rintro e w106 ⟨v299, rfl, ho0, hb⟩; (first | refine ⟨_, rfl, ?_⟩ | skip); have n0_ := Aside0.mk (Kd.S_elder' z8_4 (Kd.S_base ho0) hb); have n1_ := Aside0.mk (Kd.R_below z8_7 hb); have n2_ := Aside0.mk (Kd.S_lower (Kd.S_new' ho0 (Kd.S_lt z8_4)) (below_size z8_0)); have n3_ := Aside0.mk (blk_below (g := gb289) (o := .cells #[.slice A0_0 l0_0.length c0_0] 48 (0, 0)) z8_3 hb); have n4_ := Aside0.mk (below_step z8_0 hb); clear HO293; clear HO296; clear BK289; clear HB; have HO293 := n0_; have HO296 := n1_; have HO300 := n2_; have BK289 := n3_; have HB := n4_; clear n0_ n1_ n2_ n3_ n4_; (try clear hb); (try clear hb2); (try clear hk); (try clear hi); (try clear ho0)) | ((with_reducible refine gate_dst (N := 7) rfl ?_); refine box_event ?hg (N := 7) ?hd (cs := #[.slice none 0 0]) (t := 53) ?hr ?_; (case hd => rfl); (case hg => rfl); (case hr => exact z8_22); intro gb301 hg w107 hbox hb; have n0_ := Aside0.mk (Kd.S_below z8_4 hb); have n1_ := Aside0.mk (Kd.R_below z8_7 hb); have n2_ := Aside0.mk (Kd.S_below z8_8 hb); have n3_ := Aside0.mk (blk_below (g := gb289) (o := .cells #[.slice A0_0 l0_0.length c0_0] 48 (0, 0)) z8_3 hb); have n4_ := Aside0.mk (below_step z8_0 hb); have n5_ := Aside0.mk (hbox); have n6_ := Aside0.mk ((z8_33 : w.heap.size ≤ gb301)); have n7_ := Aside0.mk ((z8_33 : w.heap.size ≤ gb301)); have n8_ := Aside0.mk ((z8_31 : gb289 ≠ gb301)); have n9_ := Aside0.mk ((z8_32 : gb301 ≠ gb289)); clear HO293; clear HO296; clear HO300; clear BK289; clear HB; have HO293 := n0_; have HO296 := n1_; have HO300 := n2_; have BK289 := n3_; have HB := n4_; have BK301 := n5_; have GW301 := n6_; have GE301 := n7_; have NB289_301 := n8_; have NB301_289 := n9_; clear n0_ n1_ n2_ n3_ n4_ n5_ n6_ n7_ n8_ n9_; clear hb hbox hg; obtain ⟨Ao108, co108, eo108⟩ := Kd.S_slice HO300.out; subst eo108; have hnb109 := NB301_289.out; have hnc109 := NB289_301.out; have hcz110_0 : w107.cell? ⟨gb301, 0, none⟩ = some (.slice none 0 0) := (blk_cell BK301.out 0).trans rfl; have hfz110_0 := blk_frozen BK301.out 0) | ((first | ((with_reducible refine gate_callee (f := 33) rfl ?_); refine goesL_ (some 26) rfl rfl Try.func33 z8_18 rfl #[.slice A1 l1.length c1] rfl z8_1 ?_; (with_reducible refine (laws_toIntS.calls k _ _ l1 t302 _ ?side1 ?side2 A14.out).mono ?_)) | (go_at_call 33; (with_reducible refine (laws_toIntS.calls k _ _ l1 t302 _ ?side1 ?side2 A14.out).mono ?_))); (case side1 => exact Kd.C_below HR1.out z8_2); (case side2 => exact HC1.out); rintro e w111 ⟨v303, rfl, ho0, hb⟩; (first | refine ⟨_, rfl, ?_⟩ | skip); have n0_ := Aside0.mk (Kd.S_below (by (with_reducible repeat (first | apply Kd.S_alloc | apply Kd.S_drewN | apply Kd.S_drew)); exact (Kd.S_mono (Kd.S_far (p := ⟨gb301, 0, none⟩) (Kd.S_types HO293.out BK301.out (by decide)) (fun _ hk => hk.2) (.slice Ao108 t298.length co108)) (fun _ h_ => h_.1))) hb); have n1_ := Aside0.mk (Kd.R_elder' z8_25 (Kd.R_base ho0) hb); have n2_ := Aside0.mk (Kd.S_below (by (with_reducible repeat (first | apply Kd.S_alloc | apply Kd.S_drewN | apply Kd.S_drew)); exact (Kd.S_mono (Kd.S_far (p := ⟨gb301, 0, none⟩) (Kd.S_types HO300.out BK301.out (by decide)) (fun _ hk => hk.2) (.slice Ao108 t298.length co108)) (fun _ h_ => h_.1))) hb); have n3_ := Aside0.mk (Kd.R_lower (Kd.R_new' ho0 (Kd.R_lt z8_25)) (below_size z8_2)); have n4_ := Aside0.mk (blk_below (g := gb289) (o := .cells #[.slice A0_0 l0_0.length c0_0] 48 (0, 0)) z8_17 hb); have n5_ := Aside0.mk (blk_below (g := gb301) (o := .cells #[.slice Ao108 t298.length co108] 53 (0, 0)) z8_14 hb); have n6_ := Aside0.mk (below_step z8_2 hb); clear HO293; clear HO296; clear HO300; clear BK289; clear BK301; clear HB; have HO293 := n0_; have HO296 := n1_; have HO300 := n2_; have HO304 := n3_; have BK289 := n4_; have BK301 := n5_; have HB := n6_; clear n0_ n1_ n2_ n3_ n4_ n5_ n6_; (try clear hb); (try clear hb2); (try clear hk); (try clear hi); (try clear ho0); have hcz112_0 : w111.cell? ⟨gb301, 0, none⟩ = some (.slice Ao108 t298.length co108) := (blk_cell BK301.out 0).trans rfl; have hfz112_0 := blk_frozen BK301.out 0; obtain ⟨Ao113, co113, eo113⟩ := Kd.R_slice HO304.out; subst eo113) | ((first | ((with_reducible refine gate_callee (f := 34) rfl ?_); refine goesL_ (some 29) rfl rfl Try.func34 z8_18 rfl #[.agg #[.slice Ao108 t298.length co108], .slice Ao113 t302.length co113] rfl z8_1 ?_; (with_reducible refine (impl_LostWork.calls k _ _ t298 _ _ t302 t305 _ ?side1 ?side2 ?side3 ?side4 A15.out).mono ?_)) | (go_at_call 34; (with_reducible refine (impl_LostWork.calls k _ _ t298 _ _ t302 t305 _ ?side1 ?side2 ?side3 ?side4 A15.out).mono ?_))); (case side1 => exact z8_11); (case side2 => exact (Kd.S_reads' HO300.out).2.1); (case side3 => exact z8_12); (case side4 => exact (Kd.R_reads' HO304.out).2.1); rintro e w114 ⟨rfl, hb⟩; (first | refine ⟨_, rfl, ?_⟩ | skip); have n0_ := Aside0.mk (Kd.S_below z8_4 hb); have n1_ := Aside0.mk (Kd.R_below z8_7 hb); have n2_ := Aside0.mk (Kd.S_below z8_8 hb); have n3_ := Aside0.mk (Kd.R_below z8_9 hb); have n4_ := Aside0.mk (blk_below (g := gb289) (o := .cells #[.slice A0_0 l0_0.length c0_0] 48 (0, 0)) z8_3 hb); have n5_ := Aside0.mk (blk_below (g := gb301) (o := .cells #[.slice Ao108 t298.length co108] 53 (0, 0)) z8_10 hb); have n6_ := Aside0.mk (below_step z8_2 hb); clear HO293; clear HO296; clear HO300; clear HO304; clear BK289; clear BK301; clear HB; have HO293 := n0_; have HO296 := n1_; have HO300 := n2_; have HO304 := n3_; have BK289 := n4_; have BK301 := n5_; have HB := n6_; clear n0_ n1_ n2_ n3_ n4_ n5_ n6_; (try clear hb); (try clear hb2); (try clear hk); (try clear hi)))
        go_ret
        exact ⟨by first | rfl | (simp [errW_none, errW_some] <;> rfl) | (simp [*, errW_none, errW_some] <;> rfl) | (simp [*, errW_none, errW_some, i64_w]; done), by repeat (first | (with_reducible first | exact HB.out | apply below_alloc | apply pw_below_drewN | apply below_drew1 | refine below_set ?_ GE289.out | refine below_set ?_ GE301.out) | exact HB.out)⟩

/-- THE ONE PURE STATEMENT of laws_FnExactLostWork. -/
def laws_FnExactLostWork.Pure : Prop := ∀ (x0 : S48) (x1 : List Int), gd48 x0 → (x1.length ≤ maxLen ∧ ∀ y0 ∈ x1, (Lit.int .i64 y0).wf = true) → ∃ k, laws_FnExactLostWork.f k x0.f0 x1 = some true
theorem laws_FnExactLostWork.walk (P : laws_FnExactLostWork.Pure) (x0 : S48) (c0 : Array Value) (x1 : List Int) (a1 : Option Addr) (n1 m1 : Nat) (w : World) (K0 : k48.K w x0 c0.toList) (G0 : gd48 x0) (K1 : (Kd.slice 3 (Kd.int .i64)).K w x1 [.slice a1 n1 m1]) (G1 : (x1.length ≤ maxLen ∧ ∀ y0 ∈ x1, (Lit.int .i64 y0).wf = true)) :
    Calls Try.prog 8 #[.agg c0, .slice a1 n1 m1] w fun e w' => e = .returned (.bool true) ∧ Below w.heap.size w w' := by
  obtain ⟨A0_0, c0_0, e0, l0_0, g0_0⟩ := k48_open K0
  have e0' : c0 = #[.slice A0_0 x0.f0.length c0_0] := by rw [← Array.toList_inj]; exact e0
  subst e0'
  obtain ⟨A1_0, c1_0, e1, l1_0, g1_0⟩ := K1
  injection e1 with e1 _
  injection e1 with e1a e1b e1c
  subst e1a
  subst e1b
  subst e1c
  obtain ⟨k, h⟩ := P x0 x1 G0 G1
  refine (laws_FnExactLostWork.calls k _ _ x0.f0 _ _ x1 true w g0_0 l0_0 g1_0 l1_0 h).mono ?_
  rintro e w' ⟨rfl, hd⟩
  exact ⟨rfl, hd⟩

end Go.Proofs.Ytaicbghmfeehkaa.G
