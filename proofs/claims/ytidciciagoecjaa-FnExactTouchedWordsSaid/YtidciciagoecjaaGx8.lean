/- Functions of the program as plain Lean functions, and that each call comes to its function's answer; written by a program of the session. No condition. -/
import Derived.Test.YtidciciagoecjaaGx0
import Derived.Test.YtidciciagoecjaaGx7
namespace Go.Proofs.Ytidciciagoecjaa.G
open Go.RowKit Go.Proofs.YtidciciagoecjaaW.PrintWords Go.Proofs.YtidciciagoecjaaW.PrintLast Go.Proofs.YtidciciagoecjaaW.PrintMore
attribute [local go_sem] max2_int min2_int max_two min_two max_three min_three max_four min_four   -- for this text's walks alone
set_option linter.unusedVariables false
set_option linter.unusedSimpArgs false

theorem z8_0 {P : Prop} (h : P := by repeat (first | (with_reducible first | exact HB.out | apply below_alloc | apply pw_below_drewN | apply below_drew1) | exact HB.out)) : P := h
theorem z8_1 {P : Prop} (h : P := by (try simp only [List.map_toArray, List.map_cons, List.map_nil]); first | done | rfl | (simp only [List.length_drop, List.length_take]; rfl)) : P := h
theorem z8_2 {P : Prop} (h : P := by (try simp only [List.map_toArray, List.map_cons, List.map_nil]); first | done | (rw [show t327.length = t315.length from (Kd.R_reads' HO_6.out).1.symm] <;> rfl) | rfl | (simp only [List.length_drop, List.length_take]; rfl)) : P := h
theorem z8_3 {P : Prop} (h : P := by (with_reducible repeat (first | apply Kd.R_alloc | apply Kd.R_drewN | apply Kd.R_drew)); exact HO308.out) : P := h
theorem z8_4 {P : Prop} (h : P := by repeat (first | (with_reducible first | exact HB.out | apply below_alloc | apply pw_below_drewN | apply below_drew1 | refine below_set ?_ (IsS55.ge HI359.out)) | exact HB.out)) : P := h
theorem z8_5 {P : Prop} (h : P := by repeat (first | (with_reducible first | exact HI359.out | apply IsS55.alloc | apply IsS55.drewN | apply IsS55.drew | apply IsS55.set_1 | apply IsS55.set_2) | exact HI359.out)) : P := h
theorem z8_6 {P : Prop} (h : P := by repeat (first | exact (Kd.R_reads' HO_6.out).2.2 | (with_reducible refine Kd.C_alloc ?_ _) | (with_reducible refine Kd.C_drewN ?_ _) | (with_reducible refine Kd.C_drew ?_))) : P := h
theorem z8_7 {P : Prop} (h : P := by (with_reducible repeat (first | apply Kd.R_alloc | apply Kd.R_drewN | apply Kd.R_drew)); exact HO_4.out) : P := h
theorem z8_8 {P : Prop} (h : P := by (with_reducible repeat (first | apply Kd.R_alloc | apply Kd.R_drewN | apply Kd.R_drew)); exact HO311.out) : P := h
theorem z8_9 {P : Prop} (h : P := by (with_reducible repeat (first | apply Kd.R_alloc | apply Kd.R_drewN | apply Kd.R_drew)); exact HO_6.out) : P := h
theorem z8_10 {P : Prop} (h : P := by repeat (first | exact HR0.out | (with_reducible refine Kd.C_alloc ?_ _) | (with_reducible refine Kd.C_drewN ?_ _) | (with_reducible refine Kd.C_drew ?_))) : P := h
theorem z8_11 {P : Prop} (h : P := by first | (with_reducible assumption) | assumption) : P := h
theorem z8_12 {P : Prop} (h : P := by repeat (first | exact (Kd.C_below HR0.out HB.out) | (with_reducible refine Kd.C_alloc ?_ _) | (with_reducible refine Kd.C_drewN ?_ _) | (with_reducible refine Kd.C_drew ?_))) : P := h
theorem z8_13 {P : Prop} (h : P := by rw [show t327.length = t315.length from (Kd.R_reads' HO_6.out).1.symm]; exact (Kd.R_reads' HO_6.out).2.1) : P := h
theorem z8_14 {P : Prop} (h : P := by (with_reducible repeat (first | apply Kd.R_alloc | apply Kd.R_drewN | apply Kd.R_drew)); exact HO314.out) : P := h
theorem z8_15 {P : Prop} (h : P := by first | rfl | (simp; done) | (simp [*]; done)) : P := h
theorem z8_16 {P : Prop} (h : P := by repeat (first | (with_reducible first | exact HB.out | apply below_alloc | apply pw_below_drewN | apply below_drew1 | refine below_set ?_ (IsS55.ge HI386.out)) | exact HB.out)) : P := h
theorem z8_17 {P : Prop} (h : P := by repeat (first | exact (Kd.R_reads' HO314.out).2.2 | (with_reducible refine Kd.C_alloc ?_ _) | (with_reducible refine Kd.C_drewN ?_ _) | (with_reducible refine Kd.C_drew ?_))) : P := h
theorem z8_18 {P : Prop} (h : P := by repeat (first | (with_reducible first | exact HB.out | apply below_alloc | apply pw_below_drewN | apply below_drew1 | refine below_set ?_ (IsS55.ge HI0.out)) | exact HB.out)) : P := h
theorem z8_19 {P : Prop} (h : P := by repeat (first | (with_reducible first | exact HI0.out | apply IsS55.alloc | apply IsS55.drewN | apply IsS55.drew | apply IsS55.set_1 | apply IsS55.set_2) | exact HI0.out)) : P := h
theorem z8_20 {P : Prop} (h : P := by repeat (first | (with_reducible first | exact HB.out | apply below_alloc | apply pw_below_drewN | apply below_drew1 | refine below_set ?_ GE396.out) | exact HB.out)) : P := h
theorem z8_21 {P : Prop} (h : P := by (with_reducible repeat (first | apply Kd.R_alloc | apply Kd.R_drewN | apply Kd.R_drew)); exact HO_5.out) : P := h
theorem z8_22 {P : Prop} (h : P := by repeat (first | (with_reducible first | exact HK.out | apply KeepBut.set_ | apply keep_drewN | apply keep_drew | apply keep_alloc) | exact HK.out)) : P := h
theorem z8_23 {P : Prop} (h : P := by kernel_rfl) : P := h
theorem z8_24 {P : Prop} (h : P := by repeat (first | exact (Kd.R_reads' HO334.out).2.2 | (with_reducible refine Kd.C_alloc ?_ _) | (with_reducible refine Kd.C_drewN ?_ _) | (with_reducible refine Kd.C_drew ?_))) : P := h
theorem z8_25 {P : Prop} (h : P := by repeat (first | exact (Kd.R_reads' HO331.out).2.2 | (with_reducible refine Kd.C_alloc ?_ _) | (with_reducible refine Kd.C_drewN ?_ _) | (with_reducible refine Kd.C_drew ?_))) : P := h
theorem z8_26 {P : Prop} (h : P := by repeat (first | exact (Kd.R_reads' HO317.out).2.2 | (with_reducible refine Kd.C_alloc ?_ _) | (with_reducible refine Kd.C_drewN ?_ _) | (with_reducible refine Kd.C_drew ?_))) : P := h
theorem z8_27 {P : Prop} (h : P := by repeat (first | exact (Kd.R_reads' HO311.out).2.2 | (with_reducible refine Kd.C_alloc ?_ _) | (with_reducible refine Kd.C_drewN ?_ _) | (with_reducible refine Kd.C_drew ?_))) : P := h
theorem z8_28 {P : Prop} (h : P := by repeat (first | exact (Kd.R_reads' HO_4.out).2.2 | (with_reducible refine Kd.C_alloc ?_ _) | (with_reducible refine Kd.C_drewN ?_ _) | (with_reducible refine Kd.C_drew ?_))) : P := h
theorem z8_29 {P : Prop} (h : P := by (with_reducible repeat (first | apply Kd.R_alloc | apply Kd.R_drewN | apply Kd.R_drew)); exact HO_7.out) : P := h
theorem z8_30 {P : Prop} (h : P := by rw [hg]; exact (below_size (by repeat (first | (with_reducible first | exact HBW.out | apply below_alloc | apply pw_below_drewN | apply below_drew1) | exact HBW.out)))) : P := h
theorem z8_31 {P : Prop} (h : P := by (with_reducible repeat (first | refine blk_drewN ?_ _ | refine blk_drew ?_ | refine blk_alloc ?_ _)); exact BK396.out) : P := h
theorem z8_32 {P : Prop} (h : P := by repeat (first | (with_reducible first | exact HI386.out | apply IsS55.alloc | apply IsS55.drewN | apply IsS55.drew | apply IsS55.set_1 | apply IsS55.set_2) | exact HI386.out)) : P := h
theorem z8_33 {P : Prop} (h : P := by repeat (first | exact (Kd.R_reads' HO308.out).2.2 | (with_reducible refine Kd.C_alloc ?_ _) | (with_reducible refine Kd.C_drewN ?_ _) | (with_reducible refine Kd.C_drew ?_))) : P := h
theorem z8_34 {P : Prop} (h : P := by (with_reducible repeat (first | apply Kd.R_alloc | apply Kd.R_drewN | apply Kd.R_drew)); exact HO331.out) : P := h
theorem z8_35 {P : Prop} (h : P := by (with_reducible repeat (first | apply Kd.R_alloc | apply Kd.R_drewN | apply Kd.R_drew)); exact HO317.out) : P := h
theorem z8_36 {P : Prop} (h : P := by first | (go_simp; done) | (go_simp; rfl)) : P := h
theorem z8_37 {P : Prop} (h : P := by exact HC0.out) : P := h
theorem z8_38 {P : Prop} (h : P := by repeat (first | exact (Kd.C_below HR0.out z8_0) | (with_reducible refine Kd.C_alloc ?_ _) | (with_reducible refine Kd.C_drewN ?_ _) | (with_reducible refine Kd.C_drew ?_))) : P := h
/-! ### laws_heldIntS: function 20 -/
def laws_heldIntS.l0 : Nat → List Int → Int → Int → Option (Int)
  | 0, _, _, _ => none
  | k + 1, x0, x1, x5 => if x5 < (x0.length : Int) then (if 0 ≤ x5 then (if (rd x0 x5) = x1 then (laws_heldIntS.l0 k x0 (wrap64 (x1 + 1)) (wrap64 (x5 + 1))) else (some (-1))) else (none)) else (some x1)
def laws_heldIntS.f (k : Nat) (l0 : List Int) (a1 : Int) : Option (Int) := laws_heldIntS.l0 k l0 a1 0
theorem laws_heldIntS.mono_l : ∀ k, (∀ y0 y1 y2, LeO (laws_heldIntS.l0 k y0 y1 y2) (laws_heldIntS.l0 (k + 1) y0 y1 y2))
  | 0 => fun _ _ _ r h => by simp [laws_heldIntS.l0] at h
  | k + 1 => by
    have ih0 := laws_heldIntS.mono_l k
    · intro y0 y1 y2
      unfold laws_heldIntS.l0
      repeat' first
      | (with_reducible exact ih0 _ _ _)
      | (with_reducible exact LeO.refl _)
      | (with_reducible exact LeO.none _)
      | (with_reducible refine LeO.ite ?_ ?_)
      | (with_reducible refine LeO.bind ?_ (fun _ => ?_))
      | exact ih0 _ _ _
      | exact LeO.none _
      | refine LeO.ite ?_ ?_
      | refine LeO.bind ?_ (fun _ => ?_)
theorem laws_heldIntS.mono : ∀ a0 a1 k, LeO (laws_heldIntS.f k a0 a1) (laws_heldIntS.f (k + 1) a0 a1) := by
  intro a0 a1 k
  have ih0 := laws_heldIntS.mono_l k
  unfold laws_heldIntS.f
  repeat' first
      | (with_reducible exact ih0 _ _ _)
      | (with_reducible exact LeO.refl _)
      | (with_reducible exact LeO.none _)
      | (with_reducible refine LeO.ite ?_ ?_)
      | (with_reducible refine LeO.bind ?_ (fun _ => ?_))
      | exact ih0 _ _ _
      | exact LeO.none _
      | refine LeO.ite ?_ ?_
      | refine LeO.bind ?_ (fun _ => ?_)
set_option maxHeartbeats 8000000 in
set_option maxRecDepth 100000 in
theorem laws_heldIntS.calls (k : Nat) (A0 : Option Addr) (c0 : Nat) (l0 : List Int) (a1 : Int) (r : Int) (w : World) (hr0 : Kd.C (Kd.int .i64) w A0 l0.length l0) (hc0 : l0.length ≤ c0) (h : laws_heldIntS.f k l0 a1 = some r) :
    Calls Try.prog 20 #[.slice A0 l0.length c0, .int .i64 a1] w fun e w' => e = .returned (.int .i64 r) ∧ Drawn0 w w' := by
  have HR0 := Aside0.mk hr0
  have HC0 := Aside0.mk hc0
  clear hr0 hc0
  have H : (laws_heldIntS.l0 k l0 a1 0) = some r := h
  clear h
  have H' := Aside0.mk H
  clear H
  go_enter Try.func20, Try.ntmps20
  go_wp2
  go_loopg [1, 5] k (fun kq v1 v5 w' => ∃ (x1_1 : Int) (x5_1 : Int), v1 = .int .i64 x1_1 ∧ v5 = .int .i64 x5_1 ∧ Aside0 (laws_heldIntS.l0 kq l0 x1_1 x5_1 = some r) ∧ Aside0 (kq ≤ k) ∧ Drawn0 w w')
  case atStart => exact ⟨(a1), (0), z8_15, z8_15, H', ⟨Nat.le_refl _⟩, by repeat (first | exact Drawn0.refl _ | apply Drawn0.step)⟩
  case round =>
    clear H'
    obtain ⟨x1_1, x5_1, rfl, rfl, HA, HK1, ⟨m1, rfl⟩⟩ := hrel
    cases gk with
    | zero => exact absurd HA.out (by simp [laws_heldIntS.l0])
    | succ k1 =>
      have H := HA.out
      clear HA
      simp only [laws_heldIntS.l0] at H
      by_cases c3 : x5_1 < (l0.length : Int)
      · rw [if_pos c3] at H
        have c3b0 : decide (x5_1 < (l0.length : Int)) = true := decide_eq_true c3
        clear c3
        by_cases c4 : 0 ≤ x5_1
        · rw [if_pos c4] at H
          have c4b0 : decide (0 ≤ x5_1) = true := decide_eq_true c4
          clear c4
          by_cases c5 : (rd l0 x5_1) = x1_1
          · rw [if_pos c5] at H
            have c5b0 : ((rd l0 x5_1) == x1_1) = true := beq_iff_eq.mpr c5
            have c5b1 : ((rd l0 x5_1) != x1_1) = false := bne_eq_false_iff_eq.mpr c5
            clear c5
            have H' := Aside0.mk H
            clear H
            have p304 : 0 ≤ (x5_1 : Int) := of_decide_eq_true z8_11
            have q304 : x5_1 < (l0.length : Int) := of_decide_eq_true z8_11
            obtain ⟨ad304, e304, hx304_0⟩ := Kd.at_int HR0.out x5_1 p304 q304
            cases e304
            replace p304 := eq_true p304
            replace q304 := eq_true q304
            go_wp2
            go_roundg k1
            case measure => have := HK1.out; omega
            case rel => exact ⟨(wrap64 (x1_1 + 1)), (wrap64 (x5_1 + 1)), z8_15, z8_15, H', ⟨by have := HK1.out; omega⟩, by repeat (first | exact Drawn0.refl _ | apply Drawn0.step)⟩
          · rw [if_neg c5] at H
            have c5b0 : ((rd l0 x5_1) == x1_1) = false := beq_eq_false_iff_ne.mpr c5
            have c5b1 : ((rd l0 x5_1) != x1_1) = true := bne_iff_ne.mpr c5
            obtain rfl := Option.some.inj H
            have p304 : 0 ≤ (x5_1 : Int) := of_decide_eq_true z8_11
            have q304 : x5_1 < (l0.length : Int) := of_decide_eq_true z8_11
            obtain ⟨ad304, e304, hx304_0⟩ := Kd.at_int HR0.out x5_1 p304 q304
            cases e304
            replace p304 := eq_true p304
            replace q304 := eq_true q304
            go_wp2
            go_ret
            exact ⟨by first | rfl | (simp; done) | (simp [*]; done), by repeat (first | exact Drawn0.refl _ | apply Drawn0.step)⟩
        · rw [if_neg c4] at H
          exact absurd H (by simp)
      · rw [if_neg c3] at H
        have c3b0 : decide (x5_1 < (l0.length : Int)) = false := decide_eq_false c3
        clear c3
        obtain rfl := Option.some.inj H
        go_wp2
        go_ret
        exact ⟨by first | rfl | (simp; done) | (simp [*]; done), by repeat (first | exact Drawn0.refl _ | apply Drawn0.step)⟩

/-! ### laws_FnExactTouchedWords: function 4 -/
def laws_FnExactTouchedWords.j0 : Nat → List (S51) → List Int → List Int → Bool → Option (Bool)
  | 0, _, _, _, _ => none
  | k + 1, x0, x4, x6, x42 => if x42 = true then (some false) else ((laws_markIntS.f k x6 1).bind fun bt326 => ((laws_heldIntS.f k bt326.2 1).bind fun t328 => (if t328 < 0 then (some false) else (if t328 = bt326.1 then ((laws_toWriteS.f k x0).bind fun t329 => ((impl_TouchedWords.f t329).bind fun t332 => ((laws_eqIntS.f k t332 x4).bind fun t335 => (if t335 = true then ((laws_heldIntS.f k bt326.2 1).bind fun t336 => (if t336 < 0 then (some false) else (if t336 = bt326.1 then (some true) else (some false)))) else (some false))))) else (some false)))))
def laws_FnExactTouchedWords.f (k : Nat) (l0 : List (S51)) : Option (Bool) := (laws_szWriteS.f l0 1048576).bind fun t305 => (if t305 < 0 then (some true) else ((laws_toWriteS.f k l0).bind fun t306 => ((spec_TouchedWords.f k t306).bind fun t309 => ((laws_toWriteS.f k l0).bind fun t312 => ((impl_TouchedWords.f t312).bind fun t315 => ((laws_eqIntS.f k t315 t309).bind fun t318 => (if t318 = true then ((laws_toWriteS.f k l0).bind fun t319 => ((laws_eqWriteS.f k t312 t319).bind fun t322 => (if t322 = true then ((laws_markWriteS.f k t312 1).bind fun bt323 => (if bt323.1 < 0 then (laws_FnExactTouchedWords.j0 k l0 t309 t315 true) else ((laws_eqIntS.f k t315 t309).bind fun t325 => (laws_FnExactTouchedWords.j0 k l0 t309 t315 (!t325))))) else (some false)))) else (some false))))))))
theorem laws_FnExactTouchedWords.mono_l : ∀ k, (∀ y0 y1 y2 y3, LeO (laws_FnExactTouchedWords.j0 k y0 y1 y2 y3) (laws_FnExactTouchedWords.j0 (k + 1) y0 y1 y2 y3))
  | 0 => fun _ _ _ _ r h => by simp [laws_FnExactTouchedWords.j0] at h
  | k + 1 => by
    have ih0 := laws_FnExactTouchedWords.mono_l k
    · intro y0 y1 y2 y3
      unfold laws_FnExactTouchedWords.j0
      repeat' first
      | (with_reducible exact ih0 _ _ _ _)
      | (with_reducible exact laws_eqIntS.mono _ _ _)
      | (with_reducible exact laws_eqWriteS.mono _ _ _)
      | (with_reducible exact laws_heldIntS.mono _ _ _)
      | (with_reducible exact laws_markIntS.mono _ _ _)
      | (with_reducible exact laws_markWriteS.mono _ _ _)
      | (with_reducible exact laws_toWriteS.mono _ _)
      | (with_reducible exact spec_TouchedWords.mono _ _)
      | (with_reducible exact LeO.refl _)
      | (with_reducible exact LeO.none _)
      | (with_reducible refine LeO.ite ?_ ?_)
      | (with_reducible refine LeO.bind ?_ (fun _ => ?_))
      | exact ih0 _ _ _ _
      | exact laws_eqIntS.mono _ _ _
      | exact laws_eqWriteS.mono _ _ _
      | exact laws_heldIntS.mono _ _ _
      | exact laws_markIntS.mono _ _ _
      | exact laws_markWriteS.mono _ _ _
      | exact laws_toWriteS.mono _ _
      | exact spec_TouchedWords.mono _ _
      | exact LeO.none _
      | refine LeO.ite ?_ ?_
      | refine LeO.bind ?_ (fun _ => ?_)
theorem laws_FnExactTouchedWords.mono : ∀ a0 k, LeO (laws_FnExactTouchedWords.f k a0) (laws_FnExactTouchedWords.f (k + 1) a0) := by
  intro a0 k
  have ih0 := laws_FnExactTouchedWords.mono_l k
  unfold laws_FnExactTouchedWords.f
  repeat' first
      | (with_reducible exact ih0 _ _ _ _)
      | (with_reducible exact laws_eqIntS.mono _ _ _)
      | (with_reducible exact laws_eqWriteS.mono _ _ _)
      | (with_reducible exact laws_heldIntS.mono _ _ _)
      | (with_reducible exact laws_markIntS.mono _ _ _)
      | (with_reducible exact laws_markWriteS.mono _ _ _)
      | (with_reducible exact laws_toWriteS.mono _ _)
      | (with_reducible exact spec_TouchedWords.mono _ _)
      | (with_reducible exact LeO.refl _)
      | (with_reducible exact LeO.none _)
      | (with_reducible refine LeO.ite ?_ ?_)
      | (with_reducible refine LeO.bind ?_ (fun _ => ?_))
      | exact ih0 _ _ _ _
      | exact laws_eqIntS.mono _ _ _
      | exact laws_eqWriteS.mono _ _ _
      | exact laws_heldIntS.mono _ _ _
      | exact laws_markIntS.mono _ _ _
      | exact laws_markWriteS.mono _ _ _
      | exact laws_toWriteS.mono _ _
      | exact spec_TouchedWords.mono _ _
      | exact LeO.none _
      | refine LeO.ite ?_ ?_
      | refine LeO.bind ?_ (fun _ => ?_)
set_option maxHeartbeats 8000000 in
set_option maxRecDepth 100000 in
theorem laws_FnExactTouchedWords.calls (k : Nat) (A0 : Option Addr) (c0 : Nat) (l0 : List (S51)) (r : Bool) (w : World) (hr0 : Kd.C k51 w A0 l0.length l0) (hc0 : l0.length ≤ c0) (h : laws_FnExactTouchedWords.f k l0 = some r) :
    Calls Try.prog 4 #[.slice A0 l0.length c0] w fun e w' => e = .returned (.bool r) ∧ Below w.heap.size w w' := by
  have HR0 := Aside0.mk hr0
  have HC0 := Aside0.mk hc0
  clear hr0 hc0
  have HB := Aside0.mk (Below.refl w.heap.size w)
  have H : ((laws_szWriteS.f l0 1048576).bind fun t305 => (if t305 < 0 then (some true) else ((laws_toWriteS.f k l0).bind fun t306 => ((spec_TouchedWords.f k t306).bind fun t309 => ((laws_toWriteS.f k l0).bind fun t312 => ((impl_TouchedWords.f t312).bind fun t315 => ((laws_eqIntS.f k t315 t309).bind fun t318 => (if t318 = true then ((laws_toWriteS.f k l0).bind fun t319 => ((laws_eqWriteS.f k t312 t319).bind fun t322 => (if t322 = true then ((laws_markWriteS.f k t312 1).bind fun bt323 => (if bt323.1 < 0 then (laws_FnExactTouchedWords.j0 k l0 t309 t315 true) else ((laws_eqIntS.f k t315 t309).bind fun t325 => (laws_FnExactTouchedWords.j0 k l0 t309 t315 (!t325))))) else (some false)))) else (some false))))))))) = some r := h
  clear h
  replace H := Option.bind_eq_some_iff.mp H
  obtain ⟨t305, A20, H⟩ := H
  replace H : (if t305 < 0 then (some true) else ((laws_toWriteS.f k l0).bind fun t306 => ((spec_TouchedWords.f k t306).bind fun t309 => ((laws_toWriteS.f k l0).bind fun t312 => ((impl_TouchedWords.f t312).bind fun t315 => ((laws_eqIntS.f k t315 t309).bind fun t318 => (if t318 = true then ((laws_toWriteS.f k l0).bind fun t319 => ((laws_eqWriteS.f k t312 t319).bind fun t322 => (if t322 = true then ((laws_markWriteS.f k t312 1).bind fun bt323 => (if bt323.1 < 0 then (laws_FnExactTouchedWords.j0 k l0 t309 t315 true) else ((laws_eqIntS.f k t315 t309).bind fun t325 => (laws_FnExactTouchedWords.j0 k l0 t309 t315 (!t325))))) else (some false)))) else (some false)))))))) = some r := H
  have A2 := Aside0.mk A20
  clear A20
  by_cases c3 : t305 < 0
  · rw [if_pos c3] at H
    have c3b0 : decide (t305 < 0) = true := decide_eq_true c3
    clear c3
    obtain rfl := Option.some.inj H
    go_enter Try.func4, Try.ntmps4
    go_wp2_with (first | ((first | ((with_reducible refine gate_callee (f := 13) rfl ?_); refine goesL_ (some 13) rfl rfl Try.func13 z8_23 rfl #[.slice A0 l0.length c0, .int .i64 1048576] rfl z8_1 ?_; (with_reducible refine (laws_szWriteS.calls _ _ l0 1048576 t305 _ ?side1 ?side2 A2.out).mono ?_)) | (go_at_call 13; (with_reducible refine (laws_szWriteS.calls _ _ l0 1048576 t305 _ ?side1 ?side2 A2.out).mono ?_))); (case side1 => exact z8_10); (case side2 => exact z8_37); rintro e w' ⟨rfl, ⟨nd, rfl⟩⟩; (first | refine ⟨_, rfl, ?_⟩ | skip)))
    go_ret
    exact ⟨by first | rfl | (simp [errW_none, errW_some] <;> rfl) | (simp [*, errW_none, errW_some] <;> rfl) | (simp [*, errW_none, errW_some, i64_w]; done), by repeat (first | (with_reducible first | exact HB.out | apply below_alloc | apply pw_below_drewN | apply below_drew1) | exact HB.out)⟩
  · rw [if_neg c3] at H
    have c3b0 : decide (t305 < 0) = false := decide_eq_false c3
    clear c3
    replace H := Option.bind_eq_some_iff.mp H
    obtain ⟨t306, A40, H⟩ := H
    replace H : ((spec_TouchedWords.f k t306).bind fun t309 => ((laws_toWriteS.f k l0).bind fun t312 => ((impl_TouchedWords.f t312).bind fun t315 => ((laws_eqIntS.f k t315 t309).bind fun t318 => (if t318 = true then ((laws_toWriteS.f k l0).bind fun t319 => ((laws_eqWriteS.f k t312 t319).bind fun t322 => (if t322 = true then ((laws_markWriteS.f k t312 1).bind fun bt323 => (if bt323.1 < 0 then (laws_FnExactTouchedWords.j0 k l0 t309 t315 true) else ((laws_eqIntS.f k t315 t309).bind fun t325 => (laws_FnExactTouchedWords.j0 k l0 t309 t315 (!t325))))) else (some false)))) else (some false)))))) = some r := H
    have A4 := Aside0.mk A40
    clear A40
    replace H := Option.bind_eq_some_iff.mp H
    obtain ⟨t309, A50, H⟩ := H
    replace H : ((laws_toWriteS.f k l0).bind fun t312 => ((impl_TouchedWords.f t312).bind fun t315 => ((laws_eqIntS.f k t315 t309).bind fun t318 => (if t318 = true then ((laws_toWriteS.f k l0).bind fun t319 => ((laws_eqWriteS.f k t312 t319).bind fun t322 => (if t322 = true then ((laws_markWriteS.f k t312 1).bind fun bt323 => (if bt323.1 < 0 then (laws_FnExactTouchedWords.j0 k l0 t309 t315 true) else ((laws_eqIntS.f k t315 t309).bind fun t325 => (laws_FnExactTouchedWords.j0 k l0 t309 t315 (!t325))))) else (some false)))) else (some false))))) = some r := H
    have A5 := Aside0.mk A50
    clear A50
    replace H := Option.bind_eq_some_iff.mp H
    obtain ⟨t312, A60, H⟩ := H
    replace H : ((impl_TouchedWords.f t312).bind fun t315 => ((laws_eqIntS.f k t315 t309).bind fun t318 => (if t318 = true then ((laws_toWriteS.f k l0).bind fun t319 => ((laws_eqWriteS.f k t312 t319).bind fun t322 => (if t322 = true then ((laws_markWriteS.f k t312 1).bind fun bt323 => (if bt323.1 < 0 then (laws_FnExactTouchedWords.j0 k l0 t309 t315 true) else ((laws_eqIntS.f k t315 t309).bind fun t325 => (laws_FnExactTouchedWords.j0 k l0 t309 t315 (!t325))))) else (some false)))) else (some false)))) = some r := H
    have A6 := Aside0.mk A60
    clear A60
    replace H := Option.bind_eq_some_iff.mp H
    obtain ⟨t315, A70, H⟩ := H
    replace H : ((laws_eqIntS.f k t315 t309).bind fun t318 => (if t318 = true then ((laws_toWriteS.f k l0).bind fun t319 => ((laws_eqWriteS.f k t312 t319).bind fun t322 => (if t322 = true then ((laws_markWriteS.f k t312 1).bind fun bt323 => (if bt323.1 < 0 then (laws_FnExactTouchedWords.j0 k l0 t309 t315 true) else ((laws_eqIntS.f k t315 t309).bind fun t325 => (laws_FnExactTouchedWords.j0 k l0 t309 t315 (!t325))))) else (some false)))) else (some false))) = some r := H
    have A7 := Aside0.mk A70
    clear A70
    replace H := Option.bind_eq_some_iff.mp H
    obtain ⟨t318, A80, H⟩ := H
    replace H : (if t318 = true then ((laws_toWriteS.f k l0).bind fun t319 => ((laws_eqWriteS.f k t312 t319).bind fun t322 => (if t322 = true then ((laws_markWriteS.f k t312 1).bind fun bt323 => (if bt323.1 < 0 then (laws_FnExactTouchedWords.j0 k l0 t309 t315 true) else ((laws_eqIntS.f k t315 t309).bind fun t325 => (laws_FnExactTouchedWords.j0 k l0 t309 t315 (!t325))))) else (some false)))) else (some false)) = some r := H
    have A8 := Aside0.mk A80
    clear A80
    by_cases c9 : t318 = true
    · subst c9
      have H1 : ((laws_toWriteS.f k l0).bind fun t319 => ((laws_eqWriteS.f k t312 t319).bind fun t322 => (if t322 = true then ((laws_markWriteS.f k t312 1).bind fun bt323 => (if bt323.1 < 0 then (laws_FnExactTouchedWords.j0 k l0 t309 t315 true) else ((laws_eqIntS.f k t315 t309).bind fun t325 => (laws_FnExactTouchedWords.j0 k l0 t309 t315 (!t325))))) else (some false)))) = some r := by rw [if_pos rfl] at H; exact H
      clear H
      have H := H1
      clear H1
      replace H := Option.bind_eq_some_iff.mp H
      obtain ⟨t319, A100, H⟩ := H
      replace H : ((laws_eqWriteS.f k t312 t319).bind fun t322 => (if t322 = true then ((laws_markWriteS.f k t312 1).bind fun bt323 => (if bt323.1 < 0 then (laws_FnExactTouchedWords.j0 k l0 t309 t315 true) else ((laws_eqIntS.f k t315 t309).bind fun t325 => (laws_FnExactTouchedWords.j0 k l0 t309 t315 (!t325))))) else (some false))) = some r := H
      have A10 := Aside0.mk A100
      clear A100
      replace H := Option.bind_eq_some_iff.mp H
      obtain ⟨t322, A110, H⟩ := H
      replace H : (if t322 = true then ((laws_markWriteS.f k t312 1).bind fun bt323 => (if bt323.1 < 0 then (laws_FnExactTouchedWords.j0 k l0 t309 t315 true) else ((laws_eqIntS.f k t315 t309).bind fun t325 => (laws_FnExactTouchedWords.j0 k l0 t309 t315 (!t325))))) else (some false)) = some r := H
      have A11 := Aside0.mk A110
      clear A110
      by_cases c12 : t322 = true
      · subst c12
        have H1 : ((laws_markWriteS.f k t312 1).bind fun bt323 => (if bt323.1 < 0 then (laws_FnExactTouchedWords.j0 k l0 t309 t315 true) else ((laws_eqIntS.f k t315 t309).bind fun t325 => (laws_FnExactTouchedWords.j0 k l0 t309 t315 (!t325))))) = some r := by rw [if_pos rfl] at H; exact H
        clear H
        have H := H1
        clear H1
        replace H := Option.bind_eq_some_iff.mp H
        obtain ⟨⟨t323, t324⟩, A130, H⟩ := H
        replace H : (if t323 < 0 then (laws_FnExactTouchedWords.j0 k l0 t309 t315 true) else ((laws_eqIntS.f k t315 t309).bind fun t325 => (laws_FnExactTouchedWords.j0 k l0 t309 t315 (!t325)))) = some r := H
        have A13 := Aside0.mk A130
        clear A130
        have HC14 := Aside0.mk H
        clear H
        go_enter Try.func4, Try.ntmps4
        go_upto_region 14 with (first | ((first | ((with_reducible refine gate_callee (f := 13) rfl ?_); refine goesL_ (some 13) rfl rfl Try.func13 z8_23 rfl #[.slice A0 l0.length c0, .int .i64 1048576] rfl z8_1 ?_; (with_reducible refine (laws_szWriteS.calls _ _ l0 1048576 t305 _ ?side1 ?side2 A2.out).mono ?_)) | (go_at_call 13; (with_reducible refine (laws_szWriteS.calls _ _ l0 1048576 t305 _ ?side1 ?side2 A2.out).mono ?_))); (case side1 => exact z8_10); (case side2 => exact z8_37); rintro e w' ⟨rfl, ⟨nd, rfl⟩⟩; (first | refine ⟨_, rfl, ?_⟩ | skip)) | ((first | ((with_reducible refine gate_callee (f := 15) rfl ?_); refine goesL_ (some 17) rfl rfl Try.func15 z8_23 rfl #[.slice A0 l0.length c0] rfl z8_1 ?_; (with_reducible refine (laws_toWriteS.calls k _ _ l0 t306 _ ?side1 ?side2 A4.out).mono ?_)) | (go_at_call 15; (with_reducible refine (laws_toWriteS.calls k _ _ l0 t306 _ ?side1 ?side2 A4.out).mono ?_))); (case side1 => exact z8_10); (case side2 => exact z8_37); rintro e w15 ⟨v307, rfl, ho0, hb⟩; (first | refine ⟨_, rfl, ?_⟩ | skip); have n0_ := Aside0.mk (Kd.R_lower ho0 (below_size z8_0)); have n1_ := Aside0.mk (below_step z8_0 hb); clear HB; have HO308 := n0_; have HB := n1_; clear n0_ n1_; (try clear hb); (try clear hb2); (try clear hk); (try clear hi); (try clear ho0); obtain ⟨Ao16, co16, eo16⟩ := Kd.R_slice HO308.out; subst eo16) | ((first | ((with_reducible refine gate_callee (f := 14) rfl ?_); refine goesL_ (some 18) rfl rfl Try.func14 z8_23 rfl #[.slice Ao16 t306.length co16] rfl z8_1 ?_; (with_reducible refine (spec_TouchedWords.calls k _ _ t306 t309 _ ?side1 ?side2 A5.out).mono ?_)) | (go_at_call 14; (with_reducible refine (spec_TouchedWords.calls k _ _ t306 t309 _ ?side1 ?side2 A5.out).mono ?_))); (case side1 => exact z8_33); (case side2 => exact (Kd.R_reads' HO308.out).2.1); rintro e w17 ⟨v310, rfl, ho0, hb⟩; (first | refine ⟨_, rfl, ?_⟩ | skip); have n0_ := Aside0.mk (Kd.R_below z8_3 hb); have n1_ := Aside0.mk (Kd.R_lower ho0 (below_size z8_0)); have n2_ := Aside0.mk (below_step z8_0 hb); clear HO308; clear HB; have HO308 := n0_; have HO311 := n1_; have HB := n2_; clear n0_ n1_ n2_; (try clear hb); (try clear hb2); (try clear hk); (try clear hi); (try clear ho0)) | ((first | ((with_reducible refine gate_callee (f := 15) rfl ?_); refine goesL_ (some 20) rfl rfl Try.func15 z8_23 rfl #[.slice A0 l0.length c0] rfl z8_1 ?_; (with_reducible refine (laws_toWriteS.calls k _ _ l0 t312 _ ?side1 ?side2 A6.out).mono ?_)) | (go_at_call 15; (with_reducible refine (laws_toWriteS.calls k _ _ l0 t312 _ ?side1 ?side2 A6.out).mono ?_))); (case side1 => exact z8_12); (case side2 => exact z8_37); rintro e w18 ⟨v313, rfl, ho0, hb⟩; (first | refine ⟨_, rfl, ?_⟩ | skip); have n0_ := Aside0.mk (Kd.R_elder' z8_3 (Kd.R_base ho0) hb); have n1_ := Aside0.mk (Kd.R_below z8_8 hb); have n2_ := Aside0.mk (Kd.R_lower (Kd.R_new' ho0 (Kd.R_lt z8_3)) (below_size z8_0)); have n3_ := Aside0.mk (below_step z8_0 hb); clear HO308; clear HO311; clear HB; have HO308 := n0_; have HO311 := n1_; have HO314 := n2_; have HB := n3_; clear n0_ n1_ n2_ n3_; (try clear hb); (try clear hb2); (try clear hk); (try clear hi); (try clear ho0); obtain ⟨Ao19, co19, eo19⟩ := Kd.R_slice HO314.out; subst eo19) | ((first | ((with_reducible refine gate_callee (f := 8) rfl ?_); refine goesL_ (some 22) rfl rfl Try.func8 z8_23 rfl #[.slice Ao19 t312.length co19] rfl z8_1 ?_; (with_reducible refine (impl_TouchedWords.calls _ _ t312 t315 _ ?side1 ?side2 A7.out).mono ?_)) | (go_at_call 8; (with_reducible refine (impl_TouchedWords.calls _ _ t312 t315 _ ?side1 ?side2 A7.out).mono ?_))); (case side1 => exact z8_17); (case side2 => exact (Kd.R_reads' HO314.out).2.1); rintro e w20 ⟨v316, rfl, ho0, hb⟩; (first | refine ⟨_, rfl, ?_⟩ | skip); have n0_ := Aside0.mk (Kd.R_below z8_3 hb); have n1_ := Aside0.mk (Kd.R_elder' z8_8 (Kd.R_base ho0) hb); have n2_ := Aside0.mk (Kd.R_below z8_14 hb); have n3_ := Aside0.mk (Kd.R_lower (Kd.R_new' ho0 (Kd.R_lt z8_8)) (below_size z8_0)); have n4_ := Aside0.mk (below_step z8_0 hb); clear HO308; clear HO311; clear HO314; clear HB; have HO308 := n0_; have HO311 := n1_; have HO314 := n2_; have HO317 := n3_; have HB := n4_; clear n0_ n1_ n2_ n3_ n4_; (try clear hb); (try clear hb2); (try clear hk); (try clear hi); (try clear ho0); obtain ⟨Ao21, co21, eo21⟩ := Kd.R_slice HO317.out; subst eo21; obtain ⟨Ao22, co22, eo22⟩ := Kd.R_slice HO311.out; subst eo22) | ((first | ((with_reducible refine gate_callee (f := 16) rfl ?_); refine goesL_ (some 25) rfl rfl Try.func16 z8_23 rfl #[.slice Ao21 t315.length co21, .slice Ao22 t309.length co22] rfl z8_1 ?_; (with_reducible refine (laws_eqIntS.calls k _ _ t315 _ _ t309 true _ ?side1 ?side2 ?side3 ?side4 A8.out).mono ?_)) | (go_at_call 16; (with_reducible refine (laws_eqIntS.calls k _ _ t315 _ _ t309 true _ ?side1 ?side2 ?side3 ?side4 A8.out).mono ?_))); (case side1 => exact z8_26); (case side2 => exact (Kd.R_reads' HO317.out).2.1); (case side3 => exact z8_27); (case side4 => exact (Kd.R_reads' HO311.out).2.1); rintro e w' ⟨rfl, ⟨nd, rfl⟩⟩; (first | refine ⟨_, rfl, ?_⟩ | skip)) | ((first | ((with_reducible refine gate_callee (f := 15) rfl ?_); refine goesL_ (some 29) rfl rfl Try.func15 z8_23 rfl #[.slice A0 l0.length c0] rfl z8_1 ?_; (with_reducible refine (laws_toWriteS.calls k _ _ l0 t319 _ ?side1 ?side2 A10.out).mono ?_)) | (go_at_call 15; (with_reducible refine (laws_toWriteS.calls k _ _ l0 t319 _ ?side1 ?side2 A10.out).mono ?_))); (case side1 => exact z8_38); (case side2 => exact z8_37); rintro e w23 ⟨v320, rfl, ho0, hb⟩; (first | refine ⟨_, rfl, ?_⟩ | skip); have n0_ := Aside0.mk (Kd.R_elder' z8_3 (Kd.R_base ho0) hb); have n1_ := Aside0.mk (Kd.R_below z8_8 hb); have n2_ := Aside0.mk (Kd.R_elder' z8_14 (Kd.R_base ho0) hb); have n3_ := Aside0.mk (Kd.R_below z8_35 hb); have n4_ := Aside0.mk (Kd.R_lower (Kd.R_new' (Kd.R_new' ho0 (Kd.R_lt z8_3)) (Kd.R_lt z8_14)) (below_size z8_0)); have n5_ := Aside0.mk (below_step z8_0 hb); clear HO308; clear HO311; clear HO314; clear HO317; clear HB; have HO308 := n0_; have HO311 := n1_; have HO314 := n2_; have HO317 := n3_; have HO321 := n4_; have HB := n5_; clear n0_ n1_ n2_ n3_ n4_ n5_; (try clear hb); (try clear hb2); (try clear hk); (try clear hi); (try clear ho0); obtain ⟨Ao24, co24, eo24⟩ := Kd.R_slice HO321.out; subst eo24) | ((first | ((with_reducible refine gate_callee (f := 17) rfl ?_); refine goesL_ (some 30) rfl rfl Try.func17 z8_23 rfl #[.slice Ao19 t312.length co19, .slice Ao24 t319.length co24] rfl z8_1 ?_; (with_reducible refine (laws_eqWriteS.calls k _ _ t312 _ _ t319 true _ ?side1 ?side2 ?side3 ?side4 A11.out).mono ?_)) | (go_at_call 17; (with_reducible refine (laws_eqWriteS.calls k _ _ t312 _ _ t319 true _ ?side1 ?side2 ?side3 ?side4 A11.out).mono ?_))); (case side1 => exact z8_17); (case side2 => exact (Kd.R_reads' HO314.out).2.1); (case side3 => repeat (first | exact (Kd.R_reads' HO321.out).2.2 | (with_reducible refine Kd.C_alloc ?_ _) | (with_reducible refine Kd.C_drewN ?_ _) | (with_reducible refine Kd.C_drew ?_))); (case side4 => exact (Kd.R_reads' HO321.out).2.1); rintro e w25 ⟨rfl, hb⟩; (first | refine ⟨_, rfl, ?_⟩ | skip); have n0_ := Aside0.mk (Kd.R_below z8_3 hb); have n1_ := Aside0.mk (Kd.R_below z8_8 hb); have n2_ := Aside0.mk (Kd.R_below z8_14 hb); have n3_ := Aside0.mk (Kd.R_below z8_35 hb); have n4_ := Aside0.mk (Kd.R_below (by (with_reducible repeat (first | apply Kd.R_alloc | apply Kd.R_drewN | apply Kd.R_drew)); exact HO321.out) hb); have n5_ := Aside0.mk (below_step z8_0 hb); clear HO308; clear HO311; clear HO314; clear HO317; clear HO321; clear HB; have HO308 := n0_; have HO311 := n1_; have HO314 := n2_; have HO317 := n3_; have HO321 := n4_; have HB := n5_; clear n0_ n1_ n2_ n3_ n4_ n5_; (try clear hb); (try clear hb2); (try clear hk); (try clear hi)) | ((first | ((with_reducible refine gate_callee (f := 18) rfl ?_); refine goesL_ (some 34) rfl rfl Try.func18 z8_23 rfl #[.slice Ao19 t312.length co19, .int .i64 1] rfl z8_1 ?_; (with_reducible refine (laws_markWriteS.calls k (fun k_ => some k_ = (.slice Ao19 t312.length co19 : Value).ownBlock) (.slice Ao19 t312.length co19) t312 1 t323 t324 w _ ?side1 ?side2 A13.out).mono ?_)) | (go_at_call 18; (with_reducible refine (laws_markWriteS.calls k (fun k_ => some k_ = (.slice Ao19 t312.length co19 : Value).ownBlock) (.slice Ao19 t312.length co19) t312 1 t323 t324 w _ ?side1 ?side2 A13.out).mono ?_))); (case side1 => exact z8_0); (case side2 => exact Kd.R_tight rfl HO314.out); rintro e w26 ⟨rfl, hy0, hb, hkp⟩; (first | refine ⟨_, rfl, ?_⟩ | skip); have n0_ := Aside0.mk (Kd.R_mono (ok' := fun k_ => some k_ ≠ (.slice Ao19 t312.length co19 : Value).ownBlock ∧ some k_ ≠ (.slice Ao24 t319.length co24 : Value).ownBlock) (Kd.R_keptB (HO308.out) hkp (fun k_ hk_ hs_ => (hk_.1.2) hs_)) (fun k_ hk_ => ⟨hk_.1.1.2, hk_.1.2⟩)); have n1_ := Aside0.mk (Kd.R_mono (ok' := fun k_ => some k_ ≠ (.slice Ao21 t315.length co21 : Value).ownBlock) (Kd.R_keptB ((Kd.R_apart' HO311.out (Kd.R_typed HO314.out) (by decide))) hkp (fun k_ hk_ hs_ => (hk_.2) hs_)) (fun k_ hk_ => hk_.1.1.2)); have n2_ := Aside0.mk (Kd.R_reok rfl hy0 (fun k_ e_ => HO314.out.1 k_ e_)); have n3_ := Aside0.mk (Kd.R_mono (ok' := fun k_ => some k_ ≠ (.slice Ao22 t309.length co22 : Value).ownBlock) (Kd.R_keptB ((Kd.R_apart' HO317.out (Kd.R_typed HO314.out) (by decide))) hkp (fun k_ hk_ hs_ => (hk_.2) hs_)) (fun k_ hk_ => hk_.1.1.2)); have n4_ := Aside0.mk (Kd.R_mono (ok' := fun k_ => some k_ ≠ (.slice Ao16 t306.length co16 : Value).ownBlock ∧ some k_ ≠ (.slice Ao19 t312.length co19 : Value).ownBlock) (Kd.R_keptB (HO321.out) hkp (fun k_ hk_ hs_ => (hk_.2) hs_)) (fun k_ hk_ => ⟨hk_.1.1.2, hk_.1.2⟩)); have n5_ := Aside0.mk (hb); clear HO308; clear HO311; clear HO314; clear HO317; clear HO321; clear HB; have HO308 := n0_; have HO311 := n1_; have HO314 := n2_; have HO317 := n3_; have HO321 := n4_; have HB := n5_; clear n0_ n1_ n2_ n3_ n4_ n5_; (try clear hb); (try clear hkp); (try clear hy0)))
        (try simp only [Act.put, List.setIfInBounds_toArray, List.set_cons_zero, List.set_cons_succ])
        go_cut [42] (fun v42 wc => ∃ (kq : Nat) (x42_13 : Bool), v42 = .bool x42_13 ∧ Aside0 (laws_FnExactTouchedWords.j0 kq l0 t309 t315 x42_13 = some r) ∧ Aside0 (kq ≤ k) ∧ Aside0 (Kd.R (Kd.int .i64) 3 wc w.heap.size (fun k_ => some k_ ≠ ((.slice Ao21 t315.length co21) : Value).ownBlock) (.slice Ao22 t309.length co22) t309) ∧ Aside0 (Kd.R (Kd.int .i64) 3 wc w.heap.size (fun k_ => some k_ ≠ ((.slice Ao22 t309.length co22) : Value).ownBlock) (.slice Ao21 t315.length co21) t315) ∧ Aside0 (Below w.heap.size w wc))
        case first =>
          have H := HC14.out
          clear HC14
          by_cases c27 : t323 < 0
          · rw [if_pos c27] at H
            have c27b0 : decide (t323 < 0) = true := decide_eq_true c27
            clear c27
            (first | rw [c27b0] | (simp only [i64_w, i32_w]; rw [c27b0]) | skip)
            have H' := Aside0.mk H
            clear H
            go_wp2
            go_meet
            case rel => exact ⟨_, (true), z8_15, H', ⟨by first | omega | exact Nat.le_refl _⟩, ⟨by (with_reducible repeat (first | apply Kd.R_alloc | apply Kd.R_drewN | apply Kd.R_drew)); exact HO311.out⟩, ⟨by (with_reducible repeat (first | apply Kd.R_alloc | apply Kd.R_drewN | apply Kd.R_drew)); exact HO317.out⟩, ⟨by repeat (first | (with_reducible first | exact HB.out | apply below_alloc | apply pw_below_drewN | apply below_drew1) | exact HB.out)⟩⟩
          · rw [if_neg c27] at H
            have c27b0 : decide (t323 < 0) = false := decide_eq_false c27
            clear c27
            (first | rw [c27b0] | (simp only [i64_w, i32_w]; rw [c27b0]) | skip)
            replace H := Option.bind_eq_some_iff.mp H
            obtain ⟨t325, A280, H⟩ := H
            replace H : (laws_FnExactTouchedWords.j0 k l0 t309 t315 (!t325)) = some r := H
            have A28 := Aside0.mk A280
            clear A280
            have H' := Aside0.mk H
            clear H
            go_wp2_with (first | (go_at_call 16; (with_reducible refine (laws_eqIntS.calls k _ _ t315 _ _ t309 t325 _ ?side1 ?side2 ?side3 ?side4 A28.out).mono ?_); (case side1 => exact z8_26); (case side2 => exact (Kd.R_reads' HO317.out).2.1); (case side3 => exact z8_27); (case side4 => exact (Kd.R_reads' HO311.out).2.1); rintro e w' ⟨rfl, ⟨nd, rfl⟩⟩))
            go_meet
            case rel => exact ⟨_, (!t325), z8_15, H', ⟨by first | omega | exact Nat.le_refl _⟩, ⟨by (with_reducible repeat (first | apply Kd.R_alloc | apply Kd.R_drewN | apply Kd.R_drew)); exact HO311.out⟩, ⟨by (with_reducible repeat (first | apply Kd.R_alloc | apply Kd.R_drewN | apply Kd.R_drew)); exact HO317.out⟩, ⟨by repeat (first | (with_reducible first | exact HB.out | apply below_alloc | apply pw_below_drewN | apply below_drew1) | exact HB.out)⟩⟩
        case rest =>
          clear HC14
          (try clear c3); (try clear c3b0); (try clear c9); (try clear c12)
          obtain ⟨kq, x42_13, rfl, HA, HJ13, HO_4, HO_6, HB⟩ := hcut
          cases kq with
          | zero => exact absurd HA.out (by simp [laws_FnExactTouchedWords.j0])
          | succ kj13 =>
            have H := HA.out
            clear HA
            simp only [laws_FnExactTouchedWords.j0] at H
            by_cases c29 : x42_13 = true
            · subst c29
              have H1 : (some false) = some r := by rw [if_pos rfl] at H; exact H
              clear H
              have H := H1
              clear H1
              obtain rfl := Option.some.inj H
              go_wp2
              go_ret
              exact ⟨by first | rfl | (simp [errW_none, errW_some] <;> rfl) | (simp [*, errW_none, errW_some] <;> rfl) | (simp [*, errW_none, errW_some, i64_w]; done), by repeat (first | (with_reducible first | exact HB.out | apply below_alloc | apply pw_below_drewN | apply below_drew1) | exact HB.out)⟩
            · replace c29 := Bool.eq_false_iff.mpr c29
              subst c29
              have H1 : ((laws_markIntS.f kj13 t315 1).bind fun bt326 => ((laws_heldIntS.f kj13 bt326.2 1).bind fun t328 => (if t328 < 0 then (some false) else (if t328 = bt326.1 then ((laws_toWriteS.f kj13 l0).bind fun t329 => ((impl_TouchedWords.f t329).bind fun t332 => ((laws_eqIntS.f kj13 t332 t309).bind fun t335 => (if t335 = true then ((laws_heldIntS.f kj13 bt326.2 1).bind fun t336 => (if t336 < 0 then (some false) else (if t336 = bt326.1 then (some true) else (some false)))) else (some false))))) else (some false))))) = some r := by rw [if_neg (show ¬ (false = true) by decide)] at H; exact H
              clear H
              have H := H1
              clear H1
              replace H := Option.bind_eq_some_iff.mp H
              obtain ⟨⟨t326, t327⟩, A300, H⟩ := H
              replace H : ((laws_heldIntS.f kj13 t327 1).bind fun t328 => (if t328 < 0 then (some false) else (if t328 = t326 then ((laws_toWriteS.f kj13 l0).bind fun t329 => ((impl_TouchedWords.f t329).bind fun t332 => ((laws_eqIntS.f kj13 t332 t309).bind fun t335 => (if t335 = true then ((laws_heldIntS.f kj13 t327 1).bind fun t336 => (if t336 < 0 then (some false) else (if t336 = t326 then (some true) else (some false)))) else (some false))))) else (some false)))) = some r := H
              have A30 := Aside0.mk A300
              clear A300
              replace H := Option.bind_eq_some_iff.mp H
              obtain ⟨t328, A310, H⟩ := H
              replace H : (if t328 < 0 then (some false) else (if t328 = t326 then ((laws_toWriteS.f kj13 l0).bind fun t329 => ((impl_TouchedWords.f t329).bind fun t332 => ((laws_eqIntS.f kj13 t332 t309).bind fun t335 => (if t335 = true then ((laws_heldIntS.f kj13 t327 1).bind fun t336 => (if t336 < 0 then (some false) else (if t336 = t326 then (some true) else (some false)))) else (some false))))) else (some false))) = some r := H
              have A31 := Aside0.mk A310
              clear A310
              by_cases c32 : t328 < 0
              · rw [if_pos c32] at H
                have c32b0 : decide (t328 < 0) = true := decide_eq_true c32
                clear c32
                obtain rfl := Option.some.inj H
                go_wp2_with (first | ((first | ((with_reducible refine gate_callee (f := 19) rfl ?_); refine goesL_ (some 45) rfl rfl Try.func19 z8_23 rfl #[.slice Ao21 t315.length co21, .int .i64 1] rfl z8_1 ?_; (with_reducible refine (laws_markIntS.calls kj13 (fun k_ => some k_ = (.slice Ao21 t315.length co21 : Value).ownBlock) (.slice Ao21 t315.length co21) t315 1 t326 t327 w _ ?side1 ?side2 A30.out).mono ?_)) | (go_at_call 19; (with_reducible refine (laws_markIntS.calls kj13 (fun k_ => some k_ = (.slice Ao21 t315.length co21 : Value).ownBlock) (.slice Ao21 t315.length co21) t315 1 t326 t327 w _ ?side1 ?side2 A30.out).mono ?_))); (case side1 => exact z8_0); (case side2 => exact Kd.R_tight rfl HO_6.out); rintro e w33 ⟨rfl, hy0, hb, hkp⟩; (first | refine ⟨_, rfl, ?_⟩ | skip); have n0_ := Aside0.mk (Kd.R_mono (ok' := fun k_ => some k_ ≠ (.slice Ao21 t315.length co21 : Value).ownBlock) (Kd.R_keptB (HO_4.out) hkp (fun k_ hk_ hs_ => (hk_) hs_)) (fun k_ hk_ => hk_.1)); have n1_ := Aside0.mk (Kd.R_reok rfl hy0 (fun k_ e_ => HO_6.out.1 k_ e_)); have n2_ := Aside0.mk (hb); clear HO_4; clear HO_6; clear HB; have HO_4 := n0_; have HO_6 := n1_; have HB := n2_; clear n0_ n1_ n2_; (try clear hb); (try clear hkp); (try clear hy0)) | ((first | ((with_reducible refine gate_callee (f := 20) rfl ?_); refine goesL_ (some 48) rfl rfl Try.func20 z8_23 rfl #[.slice Ao21 t327.length co21, .int .i64 1] rfl z8_2 ?_; (with_reducible refine (laws_heldIntS.calls kj13 _ _ t327 1 t328 _ ?side1 ?side2 A31.out).mono ?_)) | (go_at_call 20; (with_reducible refine (laws_heldIntS.calls kj13 _ _ t327 1 t328 _ ?side1 ?side2 A31.out).mono ?_))); (case side1 => exact z8_6); (case side2 => exact z8_13); rintro e w' ⟨rfl, ⟨nd, rfl⟩⟩; (first | refine ⟨_, rfl, ?_⟩ | skip)))
                go_ret
                exact ⟨by first | rfl | (simp [errW_none, errW_some] <;> rfl) | (simp [*, errW_none, errW_some] <;> rfl) | (simp [*, errW_none, errW_some, i64_w]; done), by repeat (first | (with_reducible first | exact HB.out | apply below_alloc | apply pw_below_drewN | apply below_drew1) | exact HB.out)⟩
              · rw [if_neg c32] at H
                have c32b0 : decide (t328 < 0) = false := decide_eq_false c32
                clear c32
                by_cases c34 : t328 = t326
                · rw [if_pos c34] at H
                  have c34b0 : (t328 == t326) = true := beq_iff_eq.mpr c34
                  have c34b1 : (t328 != t326) = false := bne_eq_false_iff_eq.mpr c34
                  clear c34
                  replace H := Option.bind_eq_some_iff.mp H
                  obtain ⟨t329, A350, H⟩ := H
                  replace H : ((impl_TouchedWords.f t329).bind fun t332 => ((laws_eqIntS.f kj13 t332 t309).bind fun t335 => (if t335 = true then ((laws_heldIntS.f kj13 t327 1).bind fun t336 => (if t336 < 0 then (some false) else (if t336 = t326 then (some true) else (some false)))) else (some false)))) = some r := H
                  have A35 := Aside0.mk A350
                  clear A350
                  replace H := Option.bind_eq_some_iff.mp H
                  obtain ⟨t332, A360, H⟩ := H
                  replace H : ((laws_eqIntS.f kj13 t332 t309).bind fun t335 => (if t335 = true then ((laws_heldIntS.f kj13 t327 1).bind fun t336 => (if t336 < 0 then (some false) else (if t336 = t326 then (some true) else (some false)))) else (some false))) = some r := H
                  have A36 := Aside0.mk A360
                  clear A360
                  replace H := Option.bind_eq_some_iff.mp H
                  obtain ⟨t335, A370, H⟩ := H
                  replace H : (if t335 = true then ((laws_heldIntS.f kj13 t327 1).bind fun t336 => (if t336 < 0 then (some false) else (if t336 = t326 then (some true) else (some false)))) else (some false)) = some r := H
                  have A37 := Aside0.mk A370
                  clear A370
                  by_cases c38 : t335 = true
                  · subst c38
                    have H1 : ((laws_heldIntS.f kj13 t327 1).bind fun t336 => (if t336 < 0 then (some false) else (if t336 = t326 then (some true) else (some false)))) = some r := by rw [if_pos rfl] at H; exact H
                    clear H
                    have H := H1
                    clear H1
                    replace H := Option.bind_eq_some_iff.mp H
                    obtain ⟨t336, A390, H⟩ := H
                    replace H : (if t336 < 0 then (some false) else (if t336 = t326 then (some true) else (some false))) = some r := H
                    have A39 := Aside0.mk A390
                    clear A390
                    by_cases c40 : t336 < 0
                    · rw [if_pos c40] at H
                      have c40b0 : decide (t336 < 0) = true := decide_eq_true c40
                      clear c40
                      obtain rfl := Option.some.inj H
                      go_wp2_with (first | ((first | ((with_reducible refine gate_callee (f := 19) rfl ?_); refine goesL_ (some 45) rfl rfl Try.func19 z8_23 rfl #[.slice Ao21 t315.length co21, .int .i64 1] rfl z8_1 ?_; (with_reducible refine (laws_markIntS.calls kj13 (fun k_ => some k_ = (.slice Ao21 t315.length co21 : Value).ownBlock) (.slice Ao21 t315.length co21) t315 1 t326 t327 w _ ?side1 ?side2 A30.out).mono ?_)) | (go_at_call 19; (with_reducible refine (laws_markIntS.calls kj13 (fun k_ => some k_ = (.slice Ao21 t315.length co21 : Value).ownBlock) (.slice Ao21 t315.length co21) t315 1 t326 t327 w _ ?side1 ?side2 A30.out).mono ?_))); (case side1 => exact z8_0); (case side2 => exact Kd.R_tight rfl HO_6.out); rintro e w41 ⟨rfl, hy0, hb, hkp⟩; (first | refine ⟨_, rfl, ?_⟩ | skip); have n0_ := Aside0.mk (Kd.R_mono (ok' := fun k_ => some k_ ≠ (.slice Ao21 t315.length co21 : Value).ownBlock) (Kd.R_keptB (HO_4.out) hkp (fun k_ hk_ hs_ => (hk_) hs_)) (fun k_ hk_ => hk_.1)); have n1_ := Aside0.mk (Kd.R_reok rfl hy0 (fun k_ e_ => HO_6.out.1 k_ e_)); have n2_ := Aside0.mk (hb); clear HO_4; clear HO_6; clear HB; have HO_4 := n0_; have HO_6 := n1_; have HB := n2_; clear n0_ n1_ n2_; (try clear hb); (try clear hkp); (try clear hy0)) | ((first | ((with_reducible refine gate_callee (f := 20) rfl ?_); refine goesL_ (some 48) rfl rfl Try.func20 z8_23 rfl #[.slice Ao21 t327.length co21, .int .i64 1] rfl z8_2 ?_; (with_reducible refine (laws_heldIntS.calls kj13 _ _ t327 1 t328 _ ?side1 ?side2 A31.out).mono ?_)) | (go_at_call 20; (with_reducible refine (laws_heldIntS.calls kj13 _ _ t327 1 t328 _ ?side1 ?side2 A31.out).mono ?_))); (case side1 => exact z8_6); (case side2 => exact z8_13); rintro e w' ⟨rfl, ⟨nd, rfl⟩⟩; (first | refine ⟨_, rfl, ?_⟩ | skip)) | ((first | ((with_reducible refine gate_callee (f := 15) rfl ?_); refine goesL_ (some 55) rfl rfl Try.func15 z8_23 rfl #[.slice A0 l0.length c0] rfl z8_1 ?_; (with_reducible refine (laws_toWriteS.calls kj13 _ _ l0 t329 _ ?side1 ?side2 A35.out).mono ?_)) | (go_at_call 15; (with_reducible refine (laws_toWriteS.calls kj13 _ _ l0 t329 _ ?side1 ?side2 A35.out).mono ?_))); (case side1 => exact z8_38); (case side2 => exact z8_37); rintro e w42 ⟨v330, rfl, ho0, hb⟩; (first | refine ⟨_, rfl, ?_⟩ | skip); have n0_ := Aside0.mk (Kd.R_below z8_7 hb); have n1_ := Aside0.mk (Kd.R_below z8_9 hb); have n2_ := Aside0.mk (Kd.R_lower ho0 (below_size z8_0)); have n3_ := Aside0.mk (below_step z8_0 hb); clear HO_4; clear HO_6; clear HB; have HO_4 := n0_; have HO_6 := n1_; have HO331 := n2_; have HB := n3_; clear n0_ n1_ n2_ n3_; (try clear hb); (try clear hb2); (try clear hk); (try clear hi); (try clear ho0); obtain ⟨Ao43, co43, eo43⟩ := Kd.R_slice HO331.out; subst eo43) | ((first | ((with_reducible refine gate_callee (f := 8) rfl ?_); refine goesL_ (some 56) rfl rfl Try.func8 z8_23 rfl #[.slice Ao43 t329.length co43] rfl z8_1 ?_; (with_reducible refine (impl_TouchedWords.calls _ _ t329 t332 _ ?side1 ?side2 A36.out).mono ?_)) | (go_at_call 8; (with_reducible refine (impl_TouchedWords.calls _ _ t329 t332 _ ?side1 ?side2 A36.out).mono ?_))); (case side1 => exact z8_25); (case side2 => exact (Kd.R_reads' HO331.out).2.1); rintro e w44 ⟨v333, rfl, ho0, hb⟩; (first | refine ⟨_, rfl, ?_⟩ | skip); have n0_ := Aside0.mk (Kd.R_elder' z8_7 (Kd.R_base ho0) hb); have n1_ := Aside0.mk (Kd.R_elder' z8_9 (Kd.R_base ho0) hb); have n2_ := Aside0.mk (Kd.R_below z8_34 hb); have n3_ := Aside0.mk (Kd.R_lower (Kd.R_new' (Kd.R_new' ho0 (Kd.R_lt z8_7)) (Kd.R_lt z8_9)) (below_size z8_0)); have n4_ := Aside0.mk (below_step z8_0 hb); clear HO_4; clear HO_6; clear HO331; clear HB; have HO_4 := n0_; have HO_6 := n1_; have HO331 := n2_; have HO334 := n3_; have HB := n4_; clear n0_ n1_ n2_ n3_ n4_; (try clear hb); (try clear hb2); (try clear hk); (try clear hi); (try clear ho0); obtain ⟨Ao45, co45, eo45⟩ := Kd.R_slice HO334.out; subst eo45) | ((first | ((with_reducible refine gate_callee (f := 16) rfl ?_); refine goesL_ (some 59) rfl rfl Try.func16 z8_23 rfl #[.slice Ao45 t332.length co45, .slice Ao22 t309.length co22] rfl z8_1 ?_; (with_reducible refine (laws_eqIntS.calls kj13 _ _ t332 _ _ t309 true _ ?side1 ?side2 ?side3 ?side4 A37.out).mono ?_)) | (go_at_call 16; (with_reducible refine (laws_eqIntS.calls kj13 _ _ t332 _ _ t309 true _ ?side1 ?side2 ?side3 ?side4 A37.out).mono ?_))); (case side1 => exact z8_24); (case side2 => exact (Kd.R_reads' HO334.out).2.1); (case side3 => exact z8_28); (case side4 => exact (Kd.R_reads' HO_4.out).2.1); rintro e w' ⟨rfl, ⟨nd, rfl⟩⟩; (first | refine ⟨_, rfl, ?_⟩ | skip)) | ((first | ((with_reducible refine gate_callee (f := 20) rfl ?_); refine goesL_ (some 63) rfl rfl Try.func20 z8_23 rfl #[.slice Ao21 t327.length co21, .int .i64 1] rfl z8_2 ?_; (with_reducible refine (laws_heldIntS.calls kj13 _ _ t327 1 t336 _ ?side1 ?side2 A39.out).mono ?_)) | (go_at_call 20; (with_reducible refine (laws_heldIntS.calls kj13 _ _ t327 1 t336 _ ?side1 ?side2 A39.out).mono ?_))); (case side1 => exact z8_6); (case side2 => exact z8_13); rintro e w' ⟨rfl, ⟨nd, rfl⟩⟩; (first | refine ⟨_, rfl, ?_⟩ | skip)))
                      go_ret
                      exact ⟨by first | rfl | (simp [errW_none, errW_some] <;> rfl) | (simp [*, errW_none, errW_some] <;> rfl) | (simp [*, errW_none, errW_some, i64_w]; done), by repeat (first | (with_reducible first | exact HB.out | apply below_alloc | apply pw_below_drewN | apply below_drew1) | exact HB.out)⟩
                    · rw [if_neg c40] at H
                      have c40b0 : decide (t336 < 0) = false := decide_eq_false c40
                      clear c40
                      by_cases c46 : t336 = t326
                      · rw [if_pos c46] at H
                        have c46b0 : (t336 == t326) = true := beq_iff_eq.mpr c46
                        have c46b1 : (t336 != t326) = false := bne_eq_false_iff_eq.mpr c46
                        clear c46
                        obtain rfl := Option.some.inj H
                        go_wp2_with (first | ((first | ((with_reducible refine gate_callee (f := 19) rfl ?_); refine goesL_ (some 45) rfl rfl Try.func19 z8_23 rfl #[.slice Ao21 t315.length co21, .int .i64 1] rfl z8_1 ?_; (with_reducible refine (laws_markIntS.calls kj13 (fun k_ => some k_ = (.slice Ao21 t315.length co21 : Value).ownBlock) (.slice Ao21 t315.length co21) t315 1 t326 t327 w _ ?side1 ?side2 A30.out).mono ?_)) | (go_at_call 19; (with_reducible refine (laws_markIntS.calls kj13 (fun k_ => some k_ = (.slice Ao21 t315.length co21 : Value).ownBlock) (.slice Ao21 t315.length co21) t315 1 t326 t327 w _ ?side1 ?side2 A30.out).mono ?_))); (case side1 => exact z8_0); (case side2 => exact Kd.R_tight rfl HO_6.out); rintro e w47 ⟨rfl, hy0, hb, hkp⟩; (first | refine ⟨_, rfl, ?_⟩ | skip); have n0_ := Aside0.mk (Kd.R_mono (ok' := fun k_ => some k_ ≠ (.slice Ao21 t315.length co21 : Value).ownBlock) (Kd.R_keptB (HO_4.out) hkp (fun k_ hk_ hs_ => (hk_) hs_)) (fun k_ hk_ => hk_.1)); have n1_ := Aside0.mk (Kd.R_reok rfl hy0 (fun k_ e_ => HO_6.out.1 k_ e_)); have n2_ := Aside0.mk (hb); clear HO_4; clear HO_6; clear HB; have HO_4 := n0_; have HO_6 := n1_; have HB := n2_; clear n0_ n1_ n2_; (try clear hb); (try clear hkp); (try clear hy0)) | ((first | ((with_reducible refine gate_callee (f := 20) rfl ?_); refine goesL_ (some 48) rfl rfl Try.func20 z8_23 rfl #[.slice Ao21 t327.length co21, .int .i64 1] rfl z8_2 ?_; (with_reducible refine (laws_heldIntS.calls kj13 _ _ t327 1 t328 _ ?side1 ?side2 A31.out).mono ?_)) | (go_at_call 20; (with_reducible refine (laws_heldIntS.calls kj13 _ _ t327 1 t328 _ ?side1 ?side2 A31.out).mono ?_))); (case side1 => exact z8_6); (case side2 => exact z8_13); rintro e w' ⟨rfl, ⟨nd, rfl⟩⟩; (first | refine ⟨_, rfl, ?_⟩ | skip)) | ((first | ((with_reducible refine gate_callee (f := 15) rfl ?_); refine goesL_ (some 55) rfl rfl Try.func15 z8_23 rfl #[.slice A0 l0.length c0] rfl z8_1 ?_; (with_reducible refine (laws_toWriteS.calls kj13 _ _ l0 t329 _ ?side1 ?side2 A35.out).mono ?_)) | (go_at_call 15; (with_reducible refine (laws_toWriteS.calls kj13 _ _ l0 t329 _ ?side1 ?side2 A35.out).mono ?_))); (case side1 => exact z8_38); (case side2 => exact z8_37); rintro e w48 ⟨v330, rfl, ho0, hb⟩; (first | refine ⟨_, rfl, ?_⟩ | skip); have n0_ := Aside0.mk (Kd.R_below z8_7 hb); have n1_ := Aside0.mk (Kd.R_below z8_9 hb); have n2_ := Aside0.mk (Kd.R_lower ho0 (below_size z8_0)); have n3_ := Aside0.mk (below_step z8_0 hb); clear HO_4; clear HO_6; clear HB; have HO_4 := n0_; have HO_6 := n1_; have HO331 := n2_; have HB := n3_; clear n0_ n1_ n2_ n3_; (try clear hb); (try clear hb2); (try clear hk); (try clear hi); (try clear ho0); obtain ⟨Ao49, co49, eo49⟩ := Kd.R_slice HO331.out; subst eo49) | ((first | ((with_reducible refine gate_callee (f := 8) rfl ?_); refine goesL_ (some 56) rfl rfl Try.func8 z8_23 rfl #[.slice Ao49 t329.length co49] rfl z8_1 ?_; (with_reducible refine (impl_TouchedWords.calls _ _ t329 t332 _ ?side1 ?side2 A36.out).mono ?_)) | (go_at_call 8; (with_reducible refine (impl_TouchedWords.calls _ _ t329 t332 _ ?side1 ?side2 A36.out).mono ?_))); (case side1 => exact z8_25); (case side2 => exact (Kd.R_reads' HO331.out).2.1); rintro e w50 ⟨v333, rfl, ho0, hb⟩; (first | refine ⟨_, rfl, ?_⟩ | skip); have n0_ := Aside0.mk (Kd.R_elder' z8_7 (Kd.R_base ho0) hb); have n1_ := Aside0.mk (Kd.R_elder' z8_9 (Kd.R_base ho0) hb); have n2_ := Aside0.mk (Kd.R_below z8_34 hb); have n3_ := Aside0.mk (Kd.R_lower (Kd.R_new' (Kd.R_new' ho0 (Kd.R_lt z8_7)) (Kd.R_lt z8_9)) (below_size z8_0)); have n4_ := Aside0.mk (below_step z8_0 hb); clear HO_4; clear HO_6; clear HO331; clear HB; have HO_4 := n0_; have HO_6 := n1_; have HO331 := n2_; have HO334 := n3_; have HB := n4_; clear n0_ n1_ n2_ n3_ n4_; (try clear hb); (try clear hb2); (try clear hk); (try clear hi); (try clear ho0); obtain ⟨Ao51, co51, eo51⟩ := Kd.R_slice HO334.out; subst eo51) | ((first | ((with_reducible refine gate_callee (f := 16) rfl ?_); refine goesL_ (some 59) rfl rfl Try.func16 z8_23 rfl #[.slice Ao51 t332.length co51, .slice Ao22 t309.length co22] rfl z8_1 ?_; (with_reducible refine (laws_eqIntS.calls kj13 _ _ t332 _ _ t309 true _ ?side1 ?side2 ?side3 ?side4 A37.out).mono ?_)) | (go_at_call 16; (with_reducible refine (laws_eqIntS.calls kj13 _ _ t332 _ _ t309 true _ ?side1 ?side2 ?side3 ?side4 A37.out).mono ?_))); (case side1 => exact z8_24); (case side2 => exact (Kd.R_reads' HO334.out).2.1); (case side3 => exact z8_28); (case side4 => exact (Kd.R_reads' HO_4.out).2.1); rintro e w' ⟨rfl, ⟨nd, rfl⟩⟩; (first | refine ⟨_, rfl, ?_⟩ | skip)) | ((first | ((with_reducible refine gate_callee (f := 20) rfl ?_); refine goesL_ (some 63) rfl rfl Try.func20 z8_23 rfl #[.slice Ao21 t327.length co21, .int .i64 1] rfl z8_2 ?_; (with_reducible refine (laws_heldIntS.calls kj13 _ _ t327 1 t336 _ ?side1 ?side2 A39.out).mono ?_)) | (go_at_call 20; (with_reducible refine (laws_heldIntS.calls kj13 _ _ t327 1 t336 _ ?side1 ?side2 A39.out).mono ?_))); (case side1 => exact z8_6); (case side2 => exact z8_13); rintro e w' ⟨rfl, ⟨nd, rfl⟩⟩; (first | refine ⟨_, rfl, ?_⟩ | skip)))
                        go_ret
                        exact ⟨by first | rfl | (simp [errW_none, errW_some] <;> rfl) | (simp [*, errW_none, errW_some] <;> rfl) | (simp [*, errW_none, errW_some, i64_w]; done), by repeat (first | (with_reducible first | exact HB.out | apply below_alloc | apply pw_below_drewN | apply below_drew1) | exact HB.out)⟩
                      · rw [if_neg c46] at H
                        have c46b0 : (t336 == t326) = false := beq_eq_false_iff_ne.mpr c46
                        have c46b1 : (t336 != t326) = true := bne_iff_ne.mpr c46
                        obtain rfl := Option.some.inj H
                        go_wp2_with (first | ((first | ((with_reducible refine gate_callee (f := 19) rfl ?_); refine goesL_ (some 45) rfl rfl Try.func19 z8_23 rfl #[.slice Ao21 t315.length co21, .int .i64 1] rfl z8_1 ?_; (with_reducible refine (laws_markIntS.calls kj13 (fun k_ => some k_ = (.slice Ao21 t315.length co21 : Value).ownBlock) (.slice Ao21 t315.length co21) t315 1 t326 t327 w _ ?side1 ?side2 A30.out).mono ?_)) | (go_at_call 19; (with_reducible refine (laws_markIntS.calls kj13 (fun k_ => some k_ = (.slice Ao21 t315.length co21 : Value).ownBlock) (.slice Ao21 t315.length co21) t315 1 t326 t327 w _ ?side1 ?side2 A30.out).mono ?_))); (case side1 => exact z8_0); (case side2 => exact Kd.R_tight rfl HO_6.out); rintro e w52 ⟨rfl, hy0, hb, hkp⟩; (first | refine ⟨_, rfl, ?_⟩ | skip); have n0_ := Aside0.mk (Kd.R_mono (ok' := fun k_ => some k_ ≠ (.slice Ao21 t315.length co21 : Value).ownBlock) (Kd.R_keptB (HO_4.out) hkp (fun k_ hk_ hs_ => (hk_) hs_)) (fun k_ hk_ => hk_.1)); have n1_ := Aside0.mk (Kd.R_reok rfl hy0 (fun k_ e_ => HO_6.out.1 k_ e_)); have n2_ := Aside0.mk (hb); clear HO_4; clear HO_6; clear HB; have HO_4 := n0_; have HO_6 := n1_; have HB := n2_; clear n0_ n1_ n2_; (try clear hb); (try clear hkp); (try clear hy0)) | ((first | ((with_reducible refine gate_callee (f := 20) rfl ?_); refine goesL_ (some 48) rfl rfl Try.func20 z8_23 rfl #[.slice Ao21 t327.length co21, .int .i64 1] rfl z8_2 ?_; (with_reducible refine (laws_heldIntS.calls kj13 _ _ t327 1 t328 _ ?side1 ?side2 A31.out).mono ?_)) | (go_at_call 20; (with_reducible refine (laws_heldIntS.calls kj13 _ _ t327 1 t328 _ ?side1 ?side2 A31.out).mono ?_))); (case side1 => exact z8_6); (case side2 => exact z8_13); rintro e w' ⟨rfl, ⟨nd, rfl⟩⟩; (first | refine ⟨_, rfl, ?_⟩ | skip)) | ((first | ((with_reducible refine gate_callee (f := 15) rfl ?_); refine goesL_ (some 55) rfl rfl Try.func15 z8_23 rfl #[.slice A0 l0.length c0] rfl z8_1 ?_; (with_reducible refine (laws_toWriteS.calls kj13 _ _ l0 t329 _ ?side1 ?side2 A35.out).mono ?_)) | (go_at_call 15; (with_reducible refine (laws_toWriteS.calls kj13 _ _ l0 t329 _ ?side1 ?side2 A35.out).mono ?_))); (case side1 => exact z8_38); (case side2 => exact z8_37); rintro e w53 ⟨v330, rfl, ho0, hb⟩; (first | refine ⟨_, rfl, ?_⟩ | skip); have n0_ := Aside0.mk (Kd.R_below z8_7 hb); have n1_ := Aside0.mk (Kd.R_below z8_9 hb); have n2_ := Aside0.mk (Kd.R_lower ho0 (below_size z8_0)); have n3_ := Aside0.mk (below_step z8_0 hb); clear HO_4; clear HO_6; clear HB; have HO_4 := n0_; have HO_6 := n1_; have HO331 := n2_; have HB := n3_; clear n0_ n1_ n2_ n3_; (try clear hb); (try clear hb2); (try clear hk); (try clear hi); (try clear ho0); obtain ⟨Ao54, co54, eo54⟩ := Kd.R_slice HO331.out; subst eo54) | ((first | ((with_reducible refine gate_callee (f := 8) rfl ?_); refine goesL_ (some 56) rfl rfl Try.func8 z8_23 rfl #[.slice Ao54 t329.length co54] rfl z8_1 ?_; (with_reducible refine (impl_TouchedWords.calls _ _ t329 t332 _ ?side1 ?side2 A36.out).mono ?_)) | (go_at_call 8; (with_reducible refine (impl_TouchedWords.calls _ _ t329 t332 _ ?side1 ?side2 A36.out).mono ?_))); (case side1 => exact z8_25); (case side2 => exact (Kd.R_reads' HO331.out).2.1); rintro e w55 ⟨v333, rfl, ho0, hb⟩; (first | refine ⟨_, rfl, ?_⟩ | skip); have n0_ := Aside0.mk (Kd.R_elder' z8_7 (Kd.R_base ho0) hb); have n1_ := Aside0.mk (Kd.R_elder' z8_9 (Kd.R_base ho0) hb); have n2_ := Aside0.mk (Kd.R_below z8_34 hb); have n3_ := Aside0.mk (Kd.R_lower (Kd.R_new' (Kd.R_new' ho0 (Kd.R_lt z8_7)) (Kd.R_lt z8_9)) (below_size z8_0)); have n4_ := Aside0.mk (below_step z8_0 hb); clear HO_4; clear HO_6; clear HO331; clear HB; have HO_4 := n0_; have HO_6 := n1_; have HO331 := n2_; have HO334 := n3_; have HB := n4_; clear n0_ n1_ n2_ n3_ n4_; (try clear hb); (try clear hb2); (try clear hk); (try clear hi); (try clear ho0); obtain ⟨Ao56, co56, eo56⟩ := Kd.R_slice HO334.out; subst eo56) | ((first | ((with_reducible refine gate_callee (f := 16) rfl ?_); refine goesL_ (some 59) rfl rfl Try.func16 z8_23 rfl #[.slice Ao56 t332.length co56, .slice Ao22 t309.length co22] rfl z8_1 ?_; (with_reducible refine (laws_eqIntS.calls kj13 _ _ t332 _ _ t309 true _ ?side1 ?side2 ?side3 ?side4 A37.out).mono ?_)) | (go_at_call 16; (with_reducible refine (laws_eqIntS.calls kj13 _ _ t332 _ _ t309 true _ ?side1 ?side2 ?side3 ?side4 A37.out).mono ?_))); (case side1 => exact z8_24); (case side2 => exact (Kd.R_reads' HO334.out).2.1); (case side3 => exact z8_28); (case side4 => exact (Kd.R_reads' HO_4.out).2.1); rintro e w' ⟨rfl, ⟨nd, rfl⟩⟩; (first | refine ⟨_, rfl, ?_⟩ | skip)) | ((first | ((with_reducible refine gate_callee (f := 20) rfl ?_); refine goesL_ (some 63) rfl rfl Try.func20 z8_23 rfl #[.slice Ao21 t327.length co21, .int .i64 1] rfl z8_2 ?_; (with_reducible refine (laws_heldIntS.calls kj13 _ _ t327 1 t336 _ ?side1 ?side2 A39.out).mono ?_)) | (go_at_call 20; (with_reducible refine (laws_heldIntS.calls kj13 _ _ t327 1 t336 _ ?side1 ?side2 A39.out).mono ?_))); (case side1 => exact z8_6); (case side2 => exact z8_13); rintro e w' ⟨rfl, ⟨nd, rfl⟩⟩; (first | refine ⟨_, rfl, ?_⟩ | skip)))
                        go_ret
                        exact ⟨by first | rfl | (simp [errW_none, errW_some] <;> rfl) | (simp [*, errW_none, errW_some] <;> rfl) | (simp [*, errW_none, errW_some, i64_w]; done), by repeat (first | (with_reducible first | exact HB.out | apply below_alloc | apply pw_below_drewN | apply below_drew1) | exact HB.out)⟩
                  · replace c38 := Bool.eq_false_iff.mpr c38
                    subst c38
                    have H1 : (some false) = some r := by rw [if_neg (show ¬ (false = true) by decide)] at H; exact H
                    clear H
                    have H := H1
                    clear H1
                    obtain rfl := Option.some.inj H
                    go_wp2_with (first | ((first | ((with_reducible refine gate_callee (f := 19) rfl ?_); refine goesL_ (some 45) rfl rfl Try.func19 z8_23 rfl #[.slice Ao21 t315.length co21, .int .i64 1] rfl z8_1 ?_; (with_reducible refine (laws_markIntS.calls kj13 (fun k_ => some k_ = (.slice Ao21 t315.length co21 : Value).ownBlock) (.slice Ao21 t315.length co21) t315 1 t326 t327 w _ ?side1 ?side2 A30.out).mono ?_)) | (go_at_call 19; (with_reducible refine (laws_markIntS.calls kj13 (fun k_ => some k_ = (.slice Ao21 t315.length co21 : Value).ownBlock) (.slice Ao21 t315.length co21) t315 1 t326 t327 w _ ?side1 ?side2 A30.out).mono ?_))); (case side1 => exact z8_0); (case side2 => exact Kd.R_tight rfl HO_6.out); rintro e w57 ⟨rfl, hy0, hb, hkp⟩; (first | refine ⟨_, rfl, ?_⟩ | skip); have n0_ := Aside0.mk (Kd.R_mono (ok' := fun k_ => some k_ ≠ (.slice Ao21 t315.length co21 : Value).ownBlock) (Kd.R_keptB (HO_4.out) hkp (fun k_ hk_ hs_ => (hk_) hs_)) (fun k_ hk_ => hk_.1)); have n1_ := Aside0.mk (Kd.R_reok rfl hy0 (fun k_ e_ => HO_6.out.1 k_ e_)); have n2_ := Aside0.mk (hb); clear HO_4; clear HO_6; clear HB; have HO_4 := n0_; have HO_6 := n1_; have HB := n2_; clear n0_ n1_ n2_; (try clear hb); (try clear hkp); (try clear hy0)) | ((first | ((with_reducible refine gate_callee (f := 20) rfl ?_); refine goesL_ (some 48) rfl rfl Try.func20 z8_23 rfl #[.slice Ao21 t327.length co21, .int .i64 1] rfl z8_2 ?_; (with_reducible refine (laws_heldIntS.calls kj13 _ _ t327 1 t328 _ ?side1 ?side2 A31.out).mono ?_)) | (go_at_call 20; (with_reducible refine (laws_heldIntS.calls kj13 _ _ t327 1 t328 _ ?side1 ?side2 A31.out).mono ?_))); (case side1 => exact z8_6); (case side2 => exact z8_13); rintro e w' ⟨rfl, ⟨nd, rfl⟩⟩; (first | refine ⟨_, rfl, ?_⟩ | skip)) | ((first | ((with_reducible refine gate_callee (f := 15) rfl ?_); refine goesL_ (some 55) rfl rfl Try.func15 z8_23 rfl #[.slice A0 l0.length c0] rfl z8_1 ?_; (with_reducible refine (laws_toWriteS.calls kj13 _ _ l0 t329 _ ?side1 ?side2 A35.out).mono ?_)) | (go_at_call 15; (with_reducible refine (laws_toWriteS.calls kj13 _ _ l0 t329 _ ?side1 ?side2 A35.out).mono ?_))); (case side1 => exact z8_38); (case side2 => exact z8_37); rintro e w58 ⟨v330, rfl, ho0, hb⟩; (first | refine ⟨_, rfl, ?_⟩ | skip); have n0_ := Aside0.mk (Kd.R_below z8_7 hb); have n1_ := Aside0.mk (Kd.R_below z8_9 hb); have n2_ := Aside0.mk (Kd.R_lower ho0 (below_size z8_0)); have n3_ := Aside0.mk (below_step z8_0 hb); clear HO_4; clear HO_6; clear HB; have HO_4 := n0_; have HO_6 := n1_; have HO331 := n2_; have HB := n3_; clear n0_ n1_ n2_ n3_; (try clear hb); (try clear hb2); (try clear hk); (try clear hi); (try clear ho0); obtain ⟨Ao59, co59, eo59⟩ := Kd.R_slice HO331.out; subst eo59) | ((first | ((with_reducible refine gate_callee (f := 8) rfl ?_); refine goesL_ (some 56) rfl rfl Try.func8 z8_23 rfl #[.slice Ao59 t329.length co59] rfl z8_1 ?_; (with_reducible refine (impl_TouchedWords.calls _ _ t329 t332 _ ?side1 ?side2 A36.out).mono ?_)) | (go_at_call 8; (with_reducible refine (impl_TouchedWords.calls _ _ t329 t332 _ ?side1 ?side2 A36.out).mono ?_))); (case side1 => exact z8_25); (case side2 => exact (Kd.R_reads' HO331.out).2.1); rintro e w60 ⟨v333, rfl, ho0, hb⟩; (first | refine ⟨_, rfl, ?_⟩ | skip); have n0_ := Aside0.mk (Kd.R_elder' z8_7 (Kd.R_base ho0) hb); have n1_ := Aside0.mk (Kd.R_elder' z8_9 (Kd.R_base ho0) hb); have n2_ := Aside0.mk (Kd.R_below z8_34 hb); have n3_ := Aside0.mk (Kd.R_lower (Kd.R_new' (Kd.R_new' ho0 (Kd.R_lt z8_7)) (Kd.R_lt z8_9)) (below_size z8_0)); have n4_ := Aside0.mk (below_step z8_0 hb); clear HO_4; clear HO_6; clear HO331; clear HB; have HO_4 := n0_; have HO_6 := n1_; have HO331 := n2_; have HO334 := n3_; have HB := n4_; clear n0_ n1_ n2_ n3_ n4_; (try clear hb); (try clear hb2); (try clear hk); (try clear hi); (try clear ho0); obtain ⟨Ao61, co61, eo61⟩ := Kd.R_slice HO334.out; subst eo61) | ((first | ((with_reducible refine gate_callee (f := 16) rfl ?_); refine goesL_ (some 59) rfl rfl Try.func16 z8_23 rfl #[.slice Ao61 t332.length co61, .slice Ao22 t309.length co22] rfl z8_1 ?_; (with_reducible refine (laws_eqIntS.calls kj13 _ _ t332 _ _ t309 false _ ?side1 ?side2 ?side3 ?side4 A37.out).mono ?_)) | (go_at_call 16; (with_reducible refine (laws_eqIntS.calls kj13 _ _ t332 _ _ t309 false _ ?side1 ?side2 ?side3 ?side4 A37.out).mono ?_))); (case side1 => exact z8_24); (case side2 => exact (Kd.R_reads' HO334.out).2.1); (case side3 => exact z8_28); (case side4 => exact (Kd.R_reads' HO_4.out).2.1); rintro e w' ⟨rfl, ⟨nd, rfl⟩⟩; (first | refine ⟨_, rfl, ?_⟩ | skip)))
                    go_ret
                    exact ⟨by first | rfl | (simp [errW_none, errW_some] <;> rfl) | (simp [*, errW_none, errW_some] <;> rfl) | (simp [*, errW_none, errW_some, i64_w]; done), by repeat (first | (with_reducible first | exact HB.out | apply below_alloc | apply pw_below_drewN | apply below_drew1) | exact HB.out)⟩
                · rw [if_neg c34] at H
                  have c34b0 : (t328 == t326) = false := beq_eq_false_iff_ne.mpr c34
                  have c34b1 : (t328 != t326) = true := bne_iff_ne.mpr c34
                  obtain rfl := Option.some.inj H
                  go_wp2_with (first | ((first | ((with_reducible refine gate_callee (f := 19) rfl ?_); refine goesL_ (some 45) rfl rfl Try.func19 z8_23 rfl #[.slice Ao21 t315.length co21, .int .i64 1] rfl z8_1 ?_; (with_reducible refine (laws_markIntS.calls kj13 (fun k_ => some k_ = (.slice Ao21 t315.length co21 : Value).ownBlock) (.slice Ao21 t315.length co21) t315 1 t326 t327 w _ ?side1 ?side2 A30.out).mono ?_)) | (go_at_call 19; (with_reducible refine (laws_markIntS.calls kj13 (fun k_ => some k_ = (.slice Ao21 t315.length co21 : Value).ownBlock) (.slice Ao21 t315.length co21) t315 1 t326 t327 w _ ?side1 ?side2 A30.out).mono ?_))); (case side1 => exact z8_0); (case side2 => exact Kd.R_tight rfl HO_6.out); rintro e w62 ⟨rfl, hy0, hb, hkp⟩; (first | refine ⟨_, rfl, ?_⟩ | skip); have n0_ := Aside0.mk (Kd.R_mono (ok' := fun k_ => some k_ ≠ (.slice Ao21 t315.length co21 : Value).ownBlock) (Kd.R_keptB (HO_4.out) hkp (fun k_ hk_ hs_ => (hk_) hs_)) (fun k_ hk_ => hk_.1)); have n1_ := Aside0.mk (Kd.R_reok rfl hy0 (fun k_ e_ => HO_6.out.1 k_ e_)); have n2_ := Aside0.mk (hb); clear HO_4; clear HO_6; clear HB; have HO_4 := n0_; have HO_6 := n1_; have HB := n2_; clear n0_ n1_ n2_; (try clear hb); (try clear hkp); (try clear hy0)) | ((first | ((with_reducible refine gate_callee (f := 20) rfl ?_); refine goesL_ (some 48) rfl rfl Try.func20 z8_23 rfl #[.slice Ao21 t327.length co21, .int .i64 1] rfl z8_2 ?_; (with_reducible refine (laws_heldIntS.calls kj13 _ _ t327 1 t328 _ ?side1 ?side2 A31.out).mono ?_)) | (go_at_call 20; (with_reducible refine (laws_heldIntS.calls kj13 _ _ t327 1 t328 _ ?side1 ?side2 A31.out).mono ?_))); (case side1 => exact z8_6); (case side2 => exact z8_13); rintro e w' ⟨rfl, ⟨nd, rfl⟩⟩; (first | refine ⟨_, rfl, ?_⟩ | skip)))
                  go_ret
                  exact ⟨by first | rfl | (simp [errW_none, errW_some] <;> rfl) | (simp [*, errW_none, errW_some] <;> rfl) | (simp [*, errW_none, errW_some, i64_w]; done), by repeat (first | (with_reducible first | exact HB.out | apply below_alloc | apply pw_below_drewN | apply below_drew1) | exact HB.out)⟩
      · replace c12 := Bool.eq_false_iff.mpr c12
        subst c12
        have H1 : (some false) = some r := by rw [if_neg (show ¬ (false = true) by decide)] at H; exact H
        clear H
        have H := H1
        clear H1
        obtain rfl := Option.some.inj H
        go_enter Try.func4, Try.ntmps4
        go_wp2_with (first | ((first | ((with_reducible refine gate_callee (f := 13) rfl ?_); refine goesL_ (some 13) rfl rfl Try.func13 z8_23 rfl #[.slice A0 l0.length c0, .int .i64 1048576] rfl z8_1 ?_; (with_reducible refine (laws_szWriteS.calls _ _ l0 1048576 t305 _ ?side1 ?side2 A2.out).mono ?_)) | (go_at_call 13; (with_reducible refine (laws_szWriteS.calls _ _ l0 1048576 t305 _ ?side1 ?side2 A2.out).mono ?_))); (case side1 => exact z8_10); (case side2 => exact z8_37); rintro e w' ⟨rfl, ⟨nd, rfl⟩⟩; (first | refine ⟨_, rfl, ?_⟩ | skip)) | ((first | ((with_reducible refine gate_callee (f := 15) rfl ?_); refine goesL_ (some 17) rfl rfl Try.func15 z8_23 rfl #[.slice A0 l0.length c0] rfl z8_1 ?_; (with_reducible refine (laws_toWriteS.calls k _ _ l0 t306 _ ?side1 ?side2 A4.out).mono ?_)) | (go_at_call 15; (with_reducible refine (laws_toWriteS.calls k _ _ l0 t306 _ ?side1 ?side2 A4.out).mono ?_))); (case side1 => exact z8_10); (case side2 => exact z8_37); rintro e w63 ⟨v307, rfl, ho0, hb⟩; (first | refine ⟨_, rfl, ?_⟩ | skip); have n0_ := Aside0.mk (Kd.R_lower ho0 (below_size z8_0)); have n1_ := Aside0.mk (below_step z8_0 hb); clear HB; have HO308 := n0_; have HB := n1_; clear n0_ n1_; (try clear hb); (try clear hb2); (try clear hk); (try clear hi); (try clear ho0); obtain ⟨Ao64, co64, eo64⟩ := Kd.R_slice HO308.out; subst eo64) | ((first | ((with_reducible refine gate_callee (f := 14) rfl ?_); refine goesL_ (some 18) rfl rfl Try.func14 z8_23 rfl #[.slice Ao64 t306.length co64] rfl z8_1 ?_; (with_reducible refine (spec_TouchedWords.calls k _ _ t306 t309 _ ?side1 ?side2 A5.out).mono ?_)) | (go_at_call 14; (with_reducible refine (spec_TouchedWords.calls k _ _ t306 t309 _ ?side1 ?side2 A5.out).mono ?_))); (case side1 => exact z8_33); (case side2 => exact (Kd.R_reads' HO308.out).2.1); rintro e w65 ⟨v310, rfl, ho0, hb⟩; (first | refine ⟨_, rfl, ?_⟩ | skip); have n0_ := Aside0.mk (Kd.R_below z8_3 hb); have n1_ := Aside0.mk (Kd.R_lower ho0 (below_size z8_0)); have n2_ := Aside0.mk (below_step z8_0 hb); clear HO308; clear HB; have HO308 := n0_; have HO311 := n1_; have HB := n2_; clear n0_ n1_ n2_; (try clear hb); (try clear hb2); (try clear hk); (try clear hi); (try clear ho0)) | ((first | ((with_reducible refine gate_callee (f := 15) rfl ?_); refine goesL_ (some 20) rfl rfl Try.func15 z8_23 rfl #[.slice A0 l0.length c0] rfl z8_1 ?_; (with_reducible refine (laws_toWriteS.calls k _ _ l0 t312 _ ?side1 ?side2 A6.out).mono ?_)) | (go_at_call 15; (with_reducible refine (laws_toWriteS.calls k _ _ l0 t312 _ ?side1 ?side2 A6.out).mono ?_))); (case side1 => exact z8_12); (case side2 => exact z8_37); rintro e w66 ⟨v313, rfl, ho0, hb⟩; (first | refine ⟨_, rfl, ?_⟩ | skip); have n0_ := Aside0.mk (Kd.R_elder' z8_3 (Kd.R_base ho0) hb); have n1_ := Aside0.mk (Kd.R_below z8_8 hb); have n2_ := Aside0.mk (Kd.R_lower (Kd.R_new' ho0 (Kd.R_lt z8_3)) (below_size z8_0)); have n3_ := Aside0.mk (below_step z8_0 hb); clear HO308; clear HO311; clear HB; have HO308 := n0_; have HO311 := n1_; have HO314 := n2_; have HB := n3_; clear n0_ n1_ n2_ n3_; (try clear hb); (try clear hb2); (try clear hk); (try clear hi); (try clear ho0); obtain ⟨Ao67, co67, eo67⟩ := Kd.R_slice HO314.out; subst eo67) | ((first | ((with_reducible refine gate_callee (f := 8) rfl ?_); refine goesL_ (some 22) rfl rfl Try.func8 z8_23 rfl #[.slice Ao67 t312.length co67] rfl z8_1 ?_; (with_reducible refine (impl_TouchedWords.calls _ _ t312 t315 _ ?side1 ?side2 A7.out).mono ?_)) | (go_at_call 8; (with_reducible refine (impl_TouchedWords.calls _ _ t312 t315 _ ?side1 ?side2 A7.out).mono ?_))); (case side1 => exact z8_17); (case side2 => exact (Kd.R_reads' HO314.out).2.1); rintro e w68 ⟨v316, rfl, ho0, hb⟩; (first | refine ⟨_, rfl, ?_⟩ | skip); have n0_ := Aside0.mk (Kd.R_below z8_3 hb); have n1_ := Aside0.mk (Kd.R_elder' z8_8 (Kd.R_base ho0) hb); have n2_ := Aside0.mk (Kd.R_below z8_14 hb); have n3_ := Aside0.mk (Kd.R_lower (Kd.R_new' ho0 (Kd.R_lt z8_8)) (below_size z8_0)); have n4_ := Aside0.mk (below_step z8_0 hb); clear HO308; clear HO311; clear HO314; clear HB; have HO308 := n0_; have HO311 := n1_; have HO314 := n2_; have HO317 := n3_; have HB := n4_; clear n0_ n1_ n2_ n3_ n4_; (try clear hb); (try clear hb2); (try clear hk); (try clear hi); (try clear ho0); obtain ⟨Ao69, co69, eo69⟩ := Kd.R_slice HO317.out; subst eo69; obtain ⟨Ao70, co70, eo70⟩ := Kd.R_slice HO311.out; subst eo70) | ((first | ((with_reducible refine gate_callee (f := 16) rfl ?_); refine goesL_ (some 25) rfl rfl Try.func16 z8_23 rfl #[.slice Ao69 t315.length co69, .slice Ao70 t309.length co70] rfl z8_1 ?_; (with_reducible refine (laws_eqIntS.calls k _ _ t315 _ _ t309 true _ ?side1 ?side2 ?side3 ?side4 A8.out).mono ?_)) | (go_at_call 16; (with_reducible refine (laws_eqIntS.calls k _ _ t315 _ _ t309 true _ ?side1 ?side2 ?side3 ?side4 A8.out).mono ?_))); (case side1 => exact z8_26); (case side2 => exact (Kd.R_reads' HO317.out).2.1); (case side3 => exact z8_27); (case side4 => exact (Kd.R_reads' HO311.out).2.1); rintro e w' ⟨rfl, ⟨nd, rfl⟩⟩; (first | refine ⟨_, rfl, ?_⟩ | skip)) | ((first | ((with_reducible refine gate_callee (f := 15) rfl ?_); refine goesL_ (some 29) rfl rfl Try.func15 z8_23 rfl #[.slice A0 l0.length c0] rfl z8_1 ?_; (with_reducible refine (laws_toWriteS.calls k _ _ l0 t319 _ ?side1 ?side2 A10.out).mono ?_)) | (go_at_call 15; (with_reducible refine (laws_toWriteS.calls k _ _ l0 t319 _ ?side1 ?side2 A10.out).mono ?_))); (case side1 => exact z8_38); (case side2 => exact z8_37); rintro e w71 ⟨v320, rfl, ho0, hb⟩; (first | refine ⟨_, rfl, ?_⟩ | skip); have n0_ := Aside0.mk (Kd.R_elder' z8_3 (Kd.R_base ho0) hb); have n1_ := Aside0.mk (Kd.R_below z8_8 hb); have n2_ := Aside0.mk (Kd.R_elder' z8_14 (Kd.R_base ho0) hb); have n3_ := Aside0.mk (Kd.R_below z8_35 hb); have n4_ := Aside0.mk (Kd.R_lower (Kd.R_new' (Kd.R_new' ho0 (Kd.R_lt z8_3)) (Kd.R_lt z8_14)) (below_size z8_0)); have n5_ := Aside0.mk (below_step z8_0 hb); clear HO308; clear HO311; clear HO314; clear HO317; clear HB; have HO308 := n0_; have HO311 := n1_; have HO314 := n2_; have HO317 := n3_; have HO321 := n4_; have HB := n5_; clear n0_ n1_ n2_ n3_ n4_ n5_; (try clear hb); (try clear hb2); (try clear hk); (try clear hi); (try clear ho0); obtain ⟨Ao72, co72, eo72⟩ := Kd.R_slice HO321.out; subst eo72) | ((first | ((with_reducible refine gate_callee (f := 17) rfl ?_); refine goesL_ (some 30) rfl rfl Try.func17 z8_23 rfl #[.slice Ao67 t312.length co67, .slice Ao72 t319.length co72] rfl z8_1 ?_; (with_reducible refine (laws_eqWriteS.calls k _ _ t312 _ _ t319 false _ ?side1 ?side2 ?side3 ?side4 A11.out).mono ?_)) | (go_at_call 17; (with_reducible refine (laws_eqWriteS.calls k _ _ t312 _ _ t319 false _ ?side1 ?side2 ?side3 ?side4 A11.out).mono ?_))); (case side1 => exact z8_17); (case side2 => exact (Kd.R_reads' HO314.out).2.1); (case side3 => repeat (first | exact (Kd.R_reads' HO321.out).2.2 | (with_reducible refine Kd.C_alloc ?_ _) | (with_reducible refine Kd.C_drewN ?_ _) | (with_reducible refine Kd.C_drew ?_))); (case side4 => exact (Kd.R_reads' HO321.out).2.1); rintro e w73 ⟨rfl, hb⟩; (first | refine ⟨_, rfl, ?_⟩ | skip); have n0_ := Aside0.mk (Kd.R_below z8_3 hb); have n1_ := Aside0.mk (Kd.R_below z8_8 hb); have n2_ := Aside0.mk (Kd.R_below z8_14 hb); have n3_ := Aside0.mk (Kd.R_below z8_35 hb); have n4_ := Aside0.mk (Kd.R_below (by (with_reducible repeat (first | apply Kd.R_alloc | apply Kd.R_drewN | apply Kd.R_drew)); exact HO321.out) hb); have n5_ := Aside0.mk (below_step z8_0 hb); clear HO308; clear HO311; clear HO314; clear HO317; clear HO321; clear HB; have HO308 := n0_; have HO311 := n1_; have HO314 := n2_; have HO317 := n3_; have HO321 := n4_; have HB := n5_; clear n0_ n1_ n2_ n3_ n4_ n5_; (try clear hb); (try clear hb2); (try clear hk); (try clear hi)))
        go_ret
        exact ⟨by first | rfl | (simp [errW_none, errW_some] <;> rfl) | (simp [*, errW_none, errW_some] <;> rfl) | (simp [*, errW_none, errW_some, i64_w]; done), by repeat (first | (with_reducible first | exact HB.out | apply below_alloc | apply pw_below_drewN | apply below_drew1) | exact HB.out)⟩
    · replace c9 := Bool.eq_false_iff.mpr c9
      subst c9
      have H1 : (some false) = some r := by rw [if_neg (show ¬ (false = true) by decide)] at H; exact H
      clear H
      have H := H1
      clear H1
      obtain rfl := Option.some.inj H
      go_enter Try.func4, Try.ntmps4
      go_wp2_with (first | ((first | ((with_reducible refine gate_callee (f := 13) rfl ?_); refine goesL_ (some 13) rfl rfl Try.func13 z8_23 rfl #[.slice A0 l0.length c0, .int .i64 1048576] rfl z8_1 ?_; (with_reducible refine (laws_szWriteS.calls _ _ l0 1048576 t305 _ ?side1 ?side2 A2.out).mono ?_)) | (go_at_call 13; (with_reducible refine (laws_szWriteS.calls _ _ l0 1048576 t305 _ ?side1 ?side2 A2.out).mono ?_))); (case side1 => exact z8_10); (case side2 => exact z8_37); rintro e w' ⟨rfl, ⟨nd, rfl⟩⟩; (first | refine ⟨_, rfl, ?_⟩ | skip)) | ((first | ((with_reducible refine gate_callee (f := 15) rfl ?_); refine goesL_ (some 17) rfl rfl Try.func15 z8_23 rfl #[.slice A0 l0.length c0] rfl z8_1 ?_; (with_reducible refine (laws_toWriteS.calls k _ _ l0 t306 _ ?side1 ?side2 A4.out).mono ?_)) | (go_at_call 15; (with_reducible refine (laws_toWriteS.calls k _ _ l0 t306 _ ?side1 ?side2 A4.out).mono ?_))); (case side1 => exact z8_10); (case side2 => exact z8_37); rintro e w74 ⟨v307, rfl, ho0, hb⟩; (first | refine ⟨_, rfl, ?_⟩ | skip); have n0_ := Aside0.mk (Kd.R_lower ho0 (below_size z8_0)); have n1_ := Aside0.mk (below_step z8_0 hb); clear HB; have HO308 := n0_; have HB := n1_; clear n0_ n1_; (try clear hb); (try clear hb2); (try clear hk); (try clear hi); (try clear ho0); obtain ⟨Ao75, co75, eo75⟩ := Kd.R_slice HO308.out; subst eo75) | ((first | ((with_reducible refine gate_callee (f := 14) rfl ?_); refine goesL_ (some 18) rfl rfl Try.func14 z8_23 rfl #[.slice Ao75 t306.length co75] rfl z8_1 ?_; (with_reducible refine (spec_TouchedWords.calls k _ _ t306 t309 _ ?side1 ?side2 A5.out).mono ?_)) | (go_at_call 14; (with_reducible refine (spec_TouchedWords.calls k _ _ t306 t309 _ ?side1 ?side2 A5.out).mono ?_))); (case side1 => exact z8_33); (case side2 => exact (Kd.R_reads' HO308.out).2.1); rintro e w76 ⟨v310, rfl, ho0, hb⟩; (first | refine ⟨_, rfl, ?_⟩ | skip); have n0_ := Aside0.mk (Kd.R_below z8_3 hb); have n1_ := Aside0.mk (Kd.R_lower ho0 (below_size z8_0)); have n2_ := Aside0.mk (below_step z8_0 hb); clear HO308; clear HB; have HO308 := n0_; have HO311 := n1_; have HB := n2_; clear n0_ n1_ n2_; (try clear hb); (try clear hb2); (try clear hk); (try clear hi); (try clear ho0)) | ((first | ((with_reducible refine gate_callee (f := 15) rfl ?_); refine goesL_ (some 20) rfl rfl Try.func15 z8_23 rfl #[.slice A0 l0.length c0] rfl z8_1 ?_; (with_reducible refine (laws_toWriteS.calls k _ _ l0 t312 _ ?side1 ?side2 A6.out).mono ?_)) | (go_at_call 15; (with_reducible refine (laws_toWriteS.calls k _ _ l0 t312 _ ?side1 ?side2 A6.out).mono ?_))); (case side1 => exact z8_12); (case side2 => exact z8_37); rintro e w77 ⟨v313, rfl, ho0, hb⟩; (first | refine ⟨_, rfl, ?_⟩ | skip); have n0_ := Aside0.mk (Kd.R_elder' z8_3 (Kd.R_base ho0) hb); have n1_ := Aside0.mk (Kd.R_below z8_8 hb); have n2_ := Aside0.mk (Kd.R_lower (Kd.R_new' ho0 (Kd.R_lt z8_3)) (below_size z8_0)); have n3_ := Aside0.mk (below_step z8_0 hb); clear HO308; clear HO311; clear HB; have HO308 := n0_; have HO311 := n1_; have HO314 := n2_; have HB := n3_; clear n0_ n1_ n2_ n3_; (try clear hb); (try clear hb2); (try clear hk); (try clear hi); (try clear ho0); obtain ⟨Ao78, co78, eo78⟩ := Kd.R_slice HO314.out; subst eo78) | ((first | ((with_reducible refine gate_callee (f := 8) rfl ?_); refine goesL_ (some 22) rfl rfl Try.func8 z8_23 rfl #[.slice Ao78 t312.length co78] rfl z8_1 ?_; (with_reducible refine (impl_TouchedWords.calls _ _ t312 t315 _ ?side1 ?side2 A7.out).mono ?_)) | (go_at_call 8; (with_reducible refine (impl_TouchedWords.calls _ _ t312 t315 _ ?side1 ?side2 A7.out).mono ?_))); (case side1 => exact z8_17); (case side2 => exact (Kd.R_reads' HO314.out).2.1); rintro e w79 ⟨v316, rfl, ho0, hb⟩; (first | refine ⟨_, rfl, ?_⟩ | skip); have n0_ := Aside0.mk (Kd.R_below z8_3 hb); have n1_ := Aside0.mk (Kd.R_elder' z8_8 (Kd.R_base ho0) hb); have n2_ := Aside0.mk (Kd.R_below z8_14 hb); have n3_ := Aside0.mk (Kd.R_lower (Kd.R_new' ho0 (Kd.R_lt z8_8)) (below_size z8_0)); have n4_ := Aside0.mk (below_step z8_0 hb); clear HO308; clear HO311; clear HO314; clear HB; have HO308 := n0_; have HO311 := n1_; have HO314 := n2_; have HO317 := n3_; have HB := n4_; clear n0_ n1_ n2_ n3_ n4_; (try clear hb); (try clear hb2); (try clear hk); (try clear hi); (try clear ho0); obtain ⟨Ao80, co80, eo80⟩ := Kd.R_slice HO317.out; subst eo80; obtain ⟨Ao81, co81, eo81⟩ := Kd.R_slice HO311.out; subst eo81) | ((first | ((with_reducible refine gate_callee (f := 16) rfl ?_); refine goesL_ (some 25) rfl rfl Try.func16 z8_23 rfl #[.slice Ao80 t315.length co80, .slice Ao81 t309.length co81] rfl z8_1 ?_; (with_reducible refine (laws_eqIntS.calls k _ _ t315 _ _ t309 false _ ?side1 ?side2 ?side3 ?side4 A8.out).mono ?_)) | (go_at_call 16; (with_reducible refine (laws_eqIntS.calls k _ _ t315 _ _ t309 false _ ?side1 ?side2 ?side3 ?side4 A8.out).mono ?_))); (case side1 => exact z8_26); (case side2 => exact (Kd.R_reads' HO317.out).2.1); (case side3 => exact z8_27); (case side4 => exact (Kd.R_reads' HO311.out).2.1); rintro e w' ⟨rfl, ⟨nd, rfl⟩⟩; (first | refine ⟨_, rfl, ?_⟩ | skip)))
      go_ret
      exact ⟨by first | rfl | (simp [errW_none, errW_some] <;> rfl) | (simp [*, errW_none, errW_some] <;> rfl) | (simp [*, errW_none, errW_some, i64_w]; done), by repeat (first | (with_reducible first | exact HB.out | apply below_alloc | apply pw_below_drewN | apply below_drew1) | exact HB.out)⟩

/-- THE ONE PURE STATEMENT of laws_FnExactTouchedWords. -/
def laws_FnExactTouchedWords.Pure : Prop := ∀ (x0 : List (S51)), (x0.length ≤ maxLen ∧ ∀ y0 ∈ x0, gd51 y0) → ∃ k, laws_FnExactTouchedWords.f k x0 = some true
theorem laws_FnExactTouchedWords.walk (P : laws_FnExactTouchedWords.Pure) (x0 : List (S51)) (a0 : Option Addr) (n0 m0 : Nat) (w : World) (K0 : (Kd.slice 51 k51).K w x0 [.slice a0 n0 m0]) (G0 : (x0.length ≤ maxLen ∧ ∀ y0 ∈ x0, gd51 y0)) :
    Calls Try.prog 4 #[.slice a0 n0 m0] w fun e w' => e = .returned (.bool true) ∧ Below w.heap.size w w' := by
  obtain ⟨A0_0, c0_0, e0, l0_0, g0_0⟩ := K0
  injection e0 with e0 _
  injection e0 with e0a e0b e0c
  subst e0a
  subst e0b
  subst e0c
  obtain ⟨k, h⟩ := P x0 G0
  refine (laws_FnExactTouchedWords.calls k _ _ x0 true w g0_0 l0_0 h).mono ?_
  rintro e w' ⟨rfl, hd⟩
  exact ⟨rfl, hd⟩

/-! ### laws_big: function 6 -/
def laws_big.f (l0 : List Int) : Option (Bool) := some (decide ((l0.length : Int) > 1048576))
set_option maxHeartbeats 8000000 in
set_option maxRecDepth 100000 in
theorem laws_big.calls (A0 : Option Addr) (c0 : Nat) (l0 : List Int) (r : Bool) (w : World) (hr0 : Kd.C (Kd.int .u8) w A0 l0.length l0) (hc0 : l0.length ≤ c0) (h : laws_big.f l0 = some r) :
    Calls Try.prog 6 #[.slice A0 l0.length c0] w fun e w' => e = .returned (.bool r) ∧ Drawn0 w w' := by
  have HR0 := Aside0.mk hr0
  have HC0 := Aside0.mk hc0
  clear hr0 hc0
  have H : (some (decide ((l0.length : Int) > 1048576))) = some r := h
  clear h
  obtain rfl := Option.some.inj H
  go_enter Try.func6, Try.ntmps6
  go_wp2
  go_ret
  exact ⟨by first | rfl | (simp; done) | (simp [*]; done), by repeat (first | exact Drawn0.refl _ | apply Drawn0.step)⟩

/-- A state of type 55 at block g of W; what its slices lead to came in by w0. -/
def IsS55 (w0 W : World) (g : Nat) (f0 : List Int) (f1 : Int) (f2 : Int) : Prop := ∃ A0 c0, W.heap[g]? = some (.cells #[.slice A0 f0.length c0, .int .i64 f1, .int .i64 f2] 55 (0, 0)) ∧ w0.heap.size ≤ g ∧ Kd.C (Kd.int .u8) w0 A0 f0.length f0
theorem IsS55.grown {w0 W : World} {g : Nat} {f0 : List Int} {f1 : Int} {f2 : Int} {W1 : World} {row : Option Nat} (h : IsS55 w0 W g f0 f1 f2) (hw : W.grownBy W1 row) (hne : some g ≠ row) : IsS55 w0 W1 g f0 f1 f2 := by
  obtain ⟨A0, c0, hb, hg, hr0⟩ := h
  exact ⟨A0, c0, blk_grown hb hw hne, hg, hr0⟩
theorem IsS55.own_neN {w0 W : World} {g : Nat} {f0 : List Int} {f1 : Int} {f2 : Int} {α : Type} {d : Kd α} {e : Nat} {base : Nat} {ok : Nat → Prop} {v : Value} {xs : List α} (h : IsS55 w0 W g f0 f1 f2) (ho : Kd.N d e W base ok v xs) (ht : e ≠ 55) : some g ≠ v.ownBlock := by
  obtain ⟨A0, c0, hb, hg, hr0⟩ := h
  exact Kd.N_ne ho hb ht
theorem IsS55.fresh {w0 W : World} {g : Nat} {f0 : List Int} {f1 : Int} {f2 : Int} (h : IsS55 w0 W g f0 f1 f2) : ∀ k, W.heap.size ≤ k → k ≠ g := by
  obtain ⟨A0, c0, hb, hg, hr0⟩ := h
  exact Kd.freshB hb
theorem IsS55.kept {w0 W : World} {g : Nat} {f0 : List Int} {f1 : Int} {f2 : Int} {W1 : World} {S : Nat → Prop} (h : IsS55 w0 W g f0 f1 f2) (hk : Kept W W1 S) (hne : ¬ S g) : IsS55 w0 W1 g f0 f1 f2 := by
  obtain ⟨A0, c0, hb, hg, hr0⟩ := h
  exact ⟨A0, c0, blk_kept hb hk hne, hg, hr0⟩
theorem IsS55.below {w0 W : World} {g : Nat} {f0 : List Int} {f1 : Int} {f2 : Int} {W1 : World} (h : IsS55 w0 W g f0 f1 f2) (hw : Below W.heap.size W W1) : IsS55 w0 W1 g f0 f1 f2 := h.grown (grown_of_below hw none) (by simp)
theorem IsS55.alloc {w0 W : World} {g : Nat} {f0 : List Int} {f1 : Int} {f2 : Int} (h : IsS55 w0 W g f0 f1 f2) (o : Obj) : IsS55 w0 (W.alloc o) g f0 f1 f2 := h.below (below_alloc (Below.refl _ _) o)
theorem IsS55.drewN {w0 W : World} {g : Nat} {f0 : List Int} {f1 : Int} {f2 : Int} (h : IsS55 w0 W g f0 f1 f2) (m : Nat) : IsS55 w0 (W.drewN m) g f0 f1 f2 := h
theorem IsS55.drew {w0 W : World} {g : Nat} {f0 : List Int} {f1 : Int} {f2 : Int} (h : IsS55 w0 W g f0 f1 f2) : IsS55 w0 W.drew g f0 f1 f2 := h
theorem IsS55.at_ {w0 W : World} {g : Nat} {f0 : List Int} {f1 : Int} {f2 : Int} {w' : World} {m : Nat} (hq : W.drewN m = w') (h : IsS55 w0 W g f0 f1 f2) : IsS55 w0 w' g f0 f1 f2 := by subst hq; exact IsS55.drewN h m
theorem IsS55.apart {w0 W : World} {g : Nat} {f0 : List Int} {f1 : Int} {f2 : Int} {α : Type} {d : Kd α} {e : Nat} {base : Nat} {ok : Nat → Prop} {v : Value} {xs : List α} (h : IsS55 w0 W g f0 f1 f2) (ho : d.R e W base ok v xs) (ht : ∀ q, q ∈ e :: d.E → q ≠ 55) : d.R e W base (fun k => ok k ∧ k ≠ g) v xs := by
  obtain ⟨A0, c0, hb, hg, hr0⟩ := h
  exact Kd.R_types ho hb ht
theorem IsS55.own_ne {w0 W : World} {g : Nat} {f0 : List Int} {f1 : Int} {f2 : Int} {α : Type} {d : Kd α} {e : Nat} {base : Nat} {ok : Nat → Prop} {v : Value} {xs : List α} (h : IsS55 w0 W g f0 f1 f2) (ho : d.R e W base ok v xs) (ht : e ≠ 55) : some g ≠ v.ownBlock := by
  obtain ⟨A0, c0, hb, hg, hr0⟩ := h
  exact Kd.R_ne ho hb ht
theorem IsS55.apartQ {w0 W : World} {g : Nat} {f0 : List Int} {f1 : Int} {f2 : Int} {α : Type} {d : Kd α} {e : Nat} {base : Nat} {ok : Nat → Prop} {v : Value} {xs : List α} (h : IsS55 w0 W g f0 f1 f2) (ho : d.Q e W base ok v xs) (ht : ∀ q, q ∈ e :: d.E → q ≠ 55) : d.Q e W base (fun k => ok k ∧ k ≠ g) v xs := by
  obtain ⟨A0, c0, hb, hg, hr0⟩ := h
  exact Kd.Q_types ho hb ht
theorem IsS55.own_neQ {w0 W : World} {g : Nat} {f0 : List Int} {f1 : Int} {f2 : Int} {α : Type} {d : Kd α} {e : Nat} {base : Nat} {ok : Nat → Prop} {v : Value} {xs : List α} (h : IsS55 w0 W g f0 f1 f2) (ho : d.Q e W base ok v xs) (ht : e ≠ 55) : some g ≠ v.ownBlock := by
  obtain ⟨A0, c0, hb, hg, hr0⟩ := h
  exact Kd.Q_ne ho hb ht
theorem IsS55.apartS {w0 W : World} {g : Nat} {f0 : List Int} {f1 : Int} {f2 : Int} {α : Type} {d : Kd α} {e : Nat} {base : Nat} {ok : Nat → Prop} {v : Value} {xs : List α} (h : IsS55 w0 W g f0 f1 f2) (ho : d.S e W base ok v xs) (ht : ∀ q, q ∈ e :: d.E → q ≠ 55) : d.S e W base (fun k => ok k ∧ k ≠ g) v xs := by
  obtain ⟨A0, c0, hb, hg, hr0⟩ := h
  exact Kd.S_types ho hb ht
theorem IsS55.own_neS {w0 W : World} {g : Nat} {f0 : List Int} {f1 : Int} {f2 : Int} {α : Type} {d : Kd α} {e : Nat} {base : Nat} {ok : Nat → Prop} {v : Value} {xs : List α} (h : IsS55 w0 W g f0 f1 f2) (ho : d.S e W base ok v xs) (ht : e ≠ 55) : some g ≠ v.ownBlock := by
  obtain ⟨A0, c0, hb, hg, hr0⟩ := h
  exact Kd.S_ne ho hb ht
theorem IsS55.lt {w0 W : World} {g : Nat} {f0 : List Int} {f1 : Int} {f2 : Int} (h : IsS55 w0 W g f0 f1 f2) : g < W.heap.size := by
  obtain ⟨A0, c0, hb, hg, hr0⟩ := h
  exact blk_lt hb
theorem IsS55.ge {w0 W : World} {g : Nat} {f0 : List Int} {f1 : Int} {f2 : Int} (h : IsS55 w0 W g f0 f1 f2) : w0.heap.size ≤ g := by
  obtain ⟨A0, c0, hb, hg, hr0⟩ := h
  exact hg
theorem IsS55.ne_blk {w0 W : World} {g : Nat} {f0 : List Int} {f1 : Int} {f2 : Int} {a : Nat} {cs : Array Value} {t : TypeId} {fr : Nat × Nat} (h : IsS55 w0 W g f0 f1 f2) (hb2 : W.heap[a]? = some (.cells cs t fr)) (ht : t ≠ 55) : g ≠ a := by
  obtain ⟨A0, c0, hb, hg, hr0⟩ := h
  rintro rfl
  rw [hb] at hb2
  injection hb2 with hb2
  injection hb2 with _ ht2
  exact ht ht2.symm
theorem IsS55.far {w0 W : World} {g : Nat} {f0 : List Int} {f1 : Int} {f2 : Int} {p : Addr} (h : IsS55 w0 W g f0 f1 f2) (hne : g ≠ p.block) (u : Value) : IsS55 w0 (W.setCell p u) g f0 f1 f2 := by
  obtain ⟨A0, c0, hb, hg, hr0⟩ := h
  exact ⟨A0, c0, blk_far hb hne u, hg, hr0⟩
theorem cellS55_0 {W : World} {g : Nat} {A0 : Option Addr} {c0 : Nat} {f0 : List Int} {f1 : Int} {f2 : Int} (h : W.heap[g]? = some (.cells #[.slice A0 f0.length c0, .int .i64 f1, .int .i64 f2] 55 (0, 0))) : W.cell? ⟨g, 0, none⟩ = some (.slice A0 f0.length c0) := (blk_cell h 0).trans rfl
theorem cellS55_1 {W : World} {g : Nat} {A0 : Option Addr} {c0 : Nat} {f0 : List Int} {f1 : Int} {f2 : Int} (h : W.heap[g]? = some (.cells #[.slice A0 f0.length c0, .int .i64 f1, .int .i64 f2] 55 (0, 0))) : W.cell? ⟨g, 1, none⟩ = some (.int .i64 f1) := (blk_cell h 1).trans rfl
theorem IsS55.set_1 {w0 W : World} {g : Nat} {f0 : List Int} {f1 : Int} {f2 : Int} (h : IsS55 w0 W g f0 f1 f2) (x : Int) : IsS55 w0 (W.setCell ⟨g, 1, none⟩ (.int .i64 x)) g f0 x f2 := by
  obtain ⟨A0, c0, hb, hg, hr0⟩ := h
  exact ⟨A0, c0, by simpa using blk_set hb 1 (.int .i64 x), hg, hr0⟩
theorem cellS55_2 {W : World} {g : Nat} {A0 : Option Addr} {c0 : Nat} {f0 : List Int} {f1 : Int} {f2 : Int} (h : W.heap[g]? = some (.cells #[.slice A0 f0.length c0, .int .i64 f1, .int .i64 f2] 55 (0, 0))) : W.cell? ⟨g, 2, none⟩ = some (.int .i64 f2) := (blk_cell h 2).trans rfl
theorem IsS55.set_2 {w0 W : World} {g : Nat} {f0 : List Int} {f1 : Int} {f2 : Int} (h : IsS55 w0 W g f0 f1 f2) (x : Int) : IsS55 w0 (W.setCell ⟨g, 2, none⟩ (.int .i64 x)) g f0 f1 x := by
  obtain ⟨A0, c0, hb, hg, hr0⟩ := h
  exact ⟨A0, c0, by simpa using blk_set hb 2 (.int .i64 x), hg, hr0⟩
theorem IsS55.new (w0 W : World) (A0 : Option Addr) (c0 : Nat) (f0 : List Int) (f1 : Int) (f2 : Int) (hB : Below w0.heap.size w0 W) (hr0 : Kd.C (Kd.int .u8) w0 A0 f0.length f0) : IsS55 w0 (W.alloc (.cells #[.slice A0 f0.length c0, .int .i64 f1, .int .i64 f2] 55)) W.heap.size f0 f1 f2 := ⟨A0, c0, by simpa using heap_alloc_new W _, hB.size, hr0⟩

/-! ### spec_l01New: function 23 -/
def spec_l01New.l0 : Nat → List Int → Int → Int → Option (List Int × Int × Int)
  | 0, _, _, _ => none
  | k + 1, x0, x3, x4 => if x4 < (x0.length : Int) then (if x4 < 4000 then (if 0 ≤ x4 then (spec_l01New.l0 k x0 (Go.bits .and .i64 (wrap64 ((wrap64 ((wrap64 (x3 * 131)) + (wrap64 (rd x0 x4)))) + 7)) 1073741823) (wrap64 (x4 + 1))) else (none)) else (some (x0, 0, x3))) else (some (x0, 0, x3))
def spec_l01New.f (k : Nat) (l0 : List Int) : Option (List Int × Int × Int) := spec_l01New.l0 k l0 (wrap64 (98347 + (l0.length : Int))) 0
theorem spec_l01New.mono_l : ∀ k, (∀ y0 y1 y2, LeO (spec_l01New.l0 k y0 y1 y2) (spec_l01New.l0 (k + 1) y0 y1 y2))
  | 0 => fun _ _ _ r h => by simp [spec_l01New.l0] at h
  | k + 1 => by
    have ih0 := spec_l01New.mono_l k
    · intro y0 y1 y2
      unfold spec_l01New.l0
      repeat' first
      | (with_reducible exact ih0 _ _ _)
      | (with_reducible exact LeO.refl _)
      | (with_reducible exact LeO.none _)
      | (with_reducible refine LeO.ite ?_ ?_)
      | (with_reducible refine LeO.bind ?_ (fun _ => ?_))
      | exact ih0 _ _ _
      | exact LeO.none _
      | refine LeO.ite ?_ ?_
      | refine LeO.bind ?_ (fun _ => ?_)
theorem spec_l01New.mono : ∀ a0 k, LeO (spec_l01New.f k a0) (spec_l01New.f (k + 1) a0) := by
  intro a0 k
  have ih0 := spec_l01New.mono_l k
  unfold spec_l01New.f
  repeat' first
      | (with_reducible exact ih0 _ _ _)
      | (with_reducible exact LeO.refl _)
      | (with_reducible exact LeO.none _)
      | (with_reducible refine LeO.ite ?_ ?_)
      | (with_reducible refine LeO.bind ?_ (fun _ => ?_))
      | exact ih0 _ _ _
      | exact LeO.none _
      | refine LeO.ite ?_ ?_
      | refine LeO.bind ?_ (fun _ => ?_)
set_option maxHeartbeats 8000000 in
set_option maxRecDepth 100000 in
theorem spec_l01New.calls (k : Nat) (A0 : Option Addr) (c0 : Nat) (l0 : List Int) (r1 : List Int) (r2 : Int) (r3 : Int) (w0 w : World) (hB : Below w0.heap.size w0 w) (hr0 : Kd.C (Kd.int .u8) w0 A0 l0.length l0) (hc0 : l0.length ≤ c0) (h : spec_l01New.f k l0 = some (r1, r2, r3)) :
    Calls Try.prog 23 #[.slice A0 l0.length c0] w fun e w' => ∃ g_ : Nat, e = .returned (.pointer (some ⟨g_, 0, none⟩)) ∧ IsS55 w0 w' g_ r1 r2 r3 ∧ Below w0.heap.size w0 w' ∧ Below w.heap.size w w' := by
  have hu55 := Try.underlying55
  have HR0 := Aside0.mk hr0
  have HC0 := Aside0.mk hc0
  clear hr0 hc0
  have HBW := Aside0.mk (Below.refl w.heap.size w)
  have HW0 := Aside0.mk hB.size
  have HB := Aside0.mk hB
  clear hB
  have H : (spec_l01New.l0 k l0 (wrap64 (98347 + (l0.length : Int))) 0) = some (r1, r2, r3) := h
  clear h
  have H' := Aside0.mk H
  clear H
  go_enter Try.func23, Try.ntmps23
  go_wp2
  go_loopg [3, 4] k (fun kq v3 v4 w' => ∃ (x3_1 : Int) (x4_1 : Int), v3 = .int .i64 x3_1 ∧ v4 = .int .i64 x4_1 ∧ Aside0 (spec_l01New.l0 kq l0 x3_1 x4_1 = some (r1, r2, r3)) ∧ Aside0 (kq ≤ k) ∧ Aside0 (Below w0.heap.size w0 w') ∧ Aside0 (Below w.heap.size w w'))
  case atStart => exact ⟨(wrap64 (98347 + (l0.length : Int))), (0), z8_15, z8_15, H', ⟨Nat.le_refl _⟩, ⟨by repeat (first | (with_reducible first | exact HB.out | apply below_alloc | apply pw_below_drewN | apply below_drew1) | exact HB.out)⟩, ⟨by repeat (first | (with_reducible first | exact HBW.out | apply below_alloc | apply pw_below_drewN | apply below_drew1) | exact HBW.out)⟩⟩
  case round =>
    clear H'
    obtain ⟨x3_1, x4_1, rfl, rfl, HA, HK1, HB, HBW⟩ := hrel
    cases gk with
    | zero => exact absurd HA.out (by simp [spec_l01New.l0])
    | succ k1 =>
      have H := HA.out
      clear HA
      simp only [spec_l01New.l0] at H
      by_cases c2 : x4_1 < (l0.length : Int)
      · rw [if_pos c2] at H
        have c2b0 : decide (x4_1 < (l0.length : Int)) = true := decide_eq_true c2
        clear c2
        by_cases c3 : x4_1 < 4000
        · rw [if_pos c3] at H
          have c3b0 : decide (x4_1 < 4000) = true := decide_eq_true c3
          clear c3
          by_cases c4 : 0 ≤ x4_1
          · rw [if_pos c4] at H
            have c4b0 : decide (0 ≤ x4_1) = true := decide_eq_true c4
            clear c4
            have H' := Aside0.mk H
            clear H
            have p337 : 0 ≤ (x4_1 : Int) := of_decide_eq_true z8_11
            have q337 : x4_1 < (l0.length : Int) := of_decide_eq_true z8_11
            obtain ⟨ad337, e337, hx337_0⟩ := Kd.at_int HR0.out x4_1 p337 q337
            cases e337
            replace hx337_0 := pw_cell_below HB.out hx337_0
            replace p337 := eq_true p337
            replace q337 := eq_true q337
            go_wp2
            go_roundg k1
            case measure => have := HK1.out; omega
            case rel => exact ⟨(Go.bits .and .i64 (wrap64 ((wrap64 ((wrap64 (x3_1 * 131)) + (wrap64 (rd l0 x4_1)))) + 7)) 1073741823), (wrap64 (x4_1 + 1)), z8_15, z8_15, H', ⟨by have := HK1.out; omega⟩, ⟨by repeat (first | (with_reducible first | exact HB.out | apply below_alloc | apply pw_below_drewN | apply below_drew1) | exact HB.out)⟩, ⟨by repeat (first | (with_reducible first | exact HBW.out | apply below_alloc | apply pw_below_drewN | apply below_drew1) | exact HBW.out)⟩⟩
          · rw [if_neg c4] at H
            exact absurd H (by simp)
        · rw [if_neg c3] at H
          have c3b0 : decide (x4_1 < 4000) = false := decide_eq_false c3
          clear c3
          simp only [Option.some.injEq, Prod.mk.injEq] at H
          obtain ⟨rfl, rfl, rfl⟩ := H
          go_wp2_with (first | ((with_reducible refine gate_dst (N := 31) rfl ?_); refine box_event ?hg (N := 31) ?hd (cs := #[.slice A0 l0.length c0, .int .i64 0, .int .i64 x3_1]) (t := 55) ?hr ?_; (case hd => rfl); (case hg => rfl); (case hr => exact z8_36); intro gb338 hg w5 hbox hb; have n0_ := Aside0.mk (below_step HBW.out hb); have n1_ := Aside0.mk (below_step z8_0 hb); have n2_ := Aside0.mk (hbox); have n3_ := Aside0.mk ((z8_30 : w.heap.size ≤ gb338)); have n4_ := Aside0.mk ((Nat.le_trans HW0.out (z8_30 : w.heap.size ≤ gb338) : w0.heap.size ≤ gb338)); clear HBW; clear HB; have HBW := n0_; have HB := n1_; have BK338 := n2_; have GW338 := n3_; have GE338 := n4_; clear n0_ n1_ n2_ n3_ n4_; clear hb hbox hg))
          go_ret
          exact ⟨_, rfl, (show IsS55 w0 _ gb338 l0 0 x3_1 from ⟨_, _, by (with_reducible repeat (first | refine blk_drewN ?_ _ | refine blk_drew ?_ | refine blk_alloc ?_ _)); exact BK338.out, GE338.out, HR0.out⟩), by repeat (first | (with_reducible first | exact HB.out | apply below_alloc | apply pw_below_drewN | apply below_drew1 | refine below_set ?_ GE338.out) | exact HB.out), by repeat (first | (with_reducible first | exact HBW.out | apply below_alloc | apply pw_below_drewN | apply below_drew1 | refine below_set ?_ GW338.out) | exact HBW.out)⟩
      · rw [if_neg c2] at H
        have c2b0 : decide (x4_1 < (l0.length : Int)) = false := decide_eq_false c2
        clear c2
        simp only [Option.some.injEq, Prod.mk.injEq] at H
        obtain ⟨rfl, rfl, rfl⟩ := H
        go_wp2_with (first | ((with_reducible refine gate_dst (N := 31) rfl ?_); refine box_event ?hg (N := 31) ?hd (cs := #[.slice A0 l0.length c0, .int .i64 0, .int .i64 x3_1]) (t := 55) ?hr ?_; (case hd => rfl); (case hg => rfl); (case hr => exact z8_36); intro gb339 hg w6 hbox hb; have n0_ := Aside0.mk (below_step HBW.out hb); have n1_ := Aside0.mk (below_step z8_0 hb); have n2_ := Aside0.mk (hbox); have n3_ := Aside0.mk ((z8_30 : w.heap.size ≤ gb339)); have n4_ := Aside0.mk ((Nat.le_trans HW0.out (z8_30 : w.heap.size ≤ gb339) : w0.heap.size ≤ gb339)); clear HBW; clear HB; have HBW := n0_; have HB := n1_; have BK339 := n2_; have GW339 := n3_; have GE339 := n4_; clear n0_ n1_ n2_ n3_ n4_; clear hb hbox hg))
        go_ret
        exact ⟨_, rfl, (show IsS55 w0 _ gb339 l0 0 x3_1 from ⟨_, _, by (with_reducible repeat (first | refine blk_drewN ?_ _ | refine blk_drew ?_ | refine blk_alloc ?_ _)); exact BK339.out, GE339.out, HR0.out⟩), by repeat (first | (with_reducible first | exact HB.out | apply below_alloc | apply pw_below_drewN | apply below_drew1 | refine below_set ?_ GE339.out) | exact HB.out), by repeat (first | (with_reducible first | exact HBW.out | apply below_alloc | apply pw_below_drewN | apply below_drew1 | refine below_set ?_ GW339.out) | exact HBW.out)⟩

/-! ### spec_l01Byte: function 32 -/
def spec_l01Byte.f (s0_0 : List Int) (s0_1 : Int) (s0_2 : Int) : Option (Int × Int × Int) := if s0_1 < (s0_0.length : Int) then (if 0 ≤ s0_1 then (some (Go.bits .and .i64 (wrap64 ((Go.bits .and .i64 (Go.bits .xor .i64 ((wrap64 ((wrap64 (s0_2 * 6364136223846793005)) + 1442695040888963407)) / 8589934592) ((wrap64 ((wrap64 (s0_2 * 6364136223846793005)) + 1442695040888963407)) / 35184372088832)) 255) + (wrap64 (rd s0_0 s0_1)))) 255, wrap64 (s0_1 + 1), wrap64 ((wrap64 (s0_2 * 6364136223846793005)) + 1442695040888963407))) else (none)) else (some (Go.bits .and .i64 (Go.bits .xor .i64 ((wrap64 ((wrap64 (s0_2 * 6364136223846793005)) + 1442695040888963407)) / 8589934592) ((wrap64 ((wrap64 (s0_2 * 6364136223846793005)) + 1442695040888963407)) / 35184372088832)) 255, s0_1, wrap64 ((wrap64 (s0_2 * 6364136223846793005)) + 1442695040888963407)))
set_option maxHeartbeats 8000000 in
set_option maxRecDepth 100000 in
theorem spec_l01Byte.calls (g : Nat) (s0_0 : List Int) (s0_1 : Int) (s0_2 : Int) (r1 : Int) (r2 : Int) (r3 : Int) (w0 w : World) (hI : IsS55 w0 w g s0_0 s0_1 s0_2) (hB : Below w0.heap.size w0 w) (h : spec_l01Byte.f s0_0 s0_1 s0_2 = some (r1, r2, r3)) :
    Calls Try.prog 32 #[.pointer (some ⟨g, 0, none⟩)] w fun e w' => e = .returned (.int .i64 r1) ∧ IsS55 w0 w' g s0_0 r2 r3 ∧ Below w0.heap.size w0 w' ∧ KeepBut w w' g none := by
  have HI0 := Aside0.mk hI
  have HK := Aside0.mk (KeepBut.refl w g none)
  have HL := Aside0.mk hB.size
  clear hI
  have HW0 := Aside0.mk hB.size
  have HB := Aside0.mk hB
  clear hB
  have H : (if s0_1 < (s0_0.length : Int) then (if 0 ≤ s0_1 then (some (Go.bits .and .i64 (wrap64 ((Go.bits .and .i64 (Go.bits .xor .i64 ((wrap64 ((wrap64 (s0_2 * 6364136223846793005)) + 1442695040888963407)) / 8589934592) ((wrap64 ((wrap64 (s0_2 * 6364136223846793005)) + 1442695040888963407)) / 35184372088832)) 255) + (wrap64 (rd s0_0 s0_1)))) 255, wrap64 (s0_1 + 1), wrap64 ((wrap64 (s0_2 * 6364136223846793005)) + 1442695040888963407))) else (none)) else (some (Go.bits .and .i64 (Go.bits .xor .i64 ((wrap64 ((wrap64 (s0_2 * 6364136223846793005)) + 1442695040888963407)) / 8589934592) ((wrap64 ((wrap64 (s0_2 * 6364136223846793005)) + 1442695040888963407)) / 35184372088832)) 255, s0_1, wrap64 ((wrap64 (s0_2 * 6364136223846793005)) + 1442695040888963407)))) = some (r1, r2, r3) := h
  clear h
  by_cases c2 : s0_1 < (s0_0.length : Int)
  · rw [if_pos c2] at H
    have c2b0 : decide (s0_1 < (s0_0.length : Int)) = true := decide_eq_true c2
    clear c2
    by_cases c3 : 0 ≤ s0_1
    · rw [if_pos c3] at H
      have c3b0 : decide (0 ≤ s0_1) = true := decide_eq_true c3
      clear c3
      simp only [Option.some.injEq, Prod.mk.injEq] at H
      obtain ⟨rfl, rfl, rfl⟩ := H
      obtain ⟨ASz4_0, cSz4_0, HGz4, hgz4, HSz4_0⟩ := HI0.out
      have hcz4_0 := cellS55_0 HGz4
      have hcz4_1 := cellS55_1 HGz4
      have hcz4_2 := cellS55_2 HGz4
      have hfz4_1 := blk_frozen HGz4 1
      have hfz4_2 := blk_frozen HGz4 2
      clear HGz4 hgz4
      have p340 : 0 ≤ (s0_1 : Int) := of_decide_eq_true z8_11
      have q340 : s0_1 < (s0_0.length : Int) := of_decide_eq_true z8_11
      obtain ⟨ad340, e340, hx340_0⟩ := Kd.at_int HSz4_0 s0_1 p340 q340
      cases e340
      have hn340_0 : ad340.block ≠ g := Nat.ne_of_lt (Nat.lt_of_lt_of_le (by have := World.block_lt_of_cell? _ _ hx340_0; first | rwa [add_block] at this | exact this) (IsS55.ge HI0.out))
      replace hx340_0 := pw_cell_below HB.out hx340_0
      replace hx340_0 := (cell_far (p := ⟨g, 2, none⟩) (by first | (rw [add_block]; exact hn340_0) | (show (Addr.add _ _).block ≠ _; rw [add_block]; exact hn340_0) | exact hn340_0) (.int .i64 (wrap64 ((wrap64 (s0_2 * 6364136223846793005)) + 1442695040888963407)))).trans hx340_0
      (try have hy340_0 := fun (n_ : Nat) => (show (((w.drewN n_).setCell ⟨g, 2, none⟩ (.int .i64 (wrap64 ((wrap64 (s0_2 * 6364136223846793005)) + 1442695040888963407))))).cell? _ = some _ from hx340_0))
      clear hn340_0
      replace p340 := eq_true p340
      replace q340 := eq_true q340
      go_enter Try.func32, Try.ntmps32
      go_wp2
      repeat (go_quiet (fail); try go_wp2)
      go_ret
      exact ⟨by first | rfl | (simp [errW_none, errW_some] <;> rfl) | (simp [*, errW_none, errW_some] <;> rfl) | (simp [*, errW_none, errW_some, i64_w]; done), by repeat (first | (with_reducible first | exact HI0.out | apply IsS55.alloc | apply IsS55.drewN | apply IsS55.drew | apply IsS55.set_1 | apply IsS55.set_2) | exact HI0.out), by repeat (first | (with_reducible first | exact HB.out | apply below_alloc | apply pw_below_drewN | apply below_drew1 | refine below_set ?_ (IsS55.ge HI0.out)) | exact HB.out), by repeat (first | (with_reducible first | exact HK.out | apply KeepBut.set_ | apply keep_drewN | apply keep_drew | apply keep_alloc) | exact HK.out)⟩
    · rw [if_neg c3] at H
      exact absurd H (by simp)
  · rw [if_neg c2] at H
    have c2b0 : decide (s0_1 < (s0_0.length : Int)) = false := decide_eq_false c2
    clear c2
    simp only [Option.some.injEq, Prod.mk.injEq] at H
    obtain ⟨rfl, rfl, rfl⟩ := H
    obtain ⟨ASz5_0, cSz5_0, HGz5, hgz5, HSz5_0⟩ := HI0.out
    have hcz5_0 := cellS55_0 HGz5
    have hcz5_1 := cellS55_1 HGz5
    have hcz5_2 := cellS55_2 HGz5
    have hfz5_1 := blk_frozen HGz5 1
    have hfz5_2 := blk_frozen HGz5 2
    clear HGz5 hgz5
    go_enter Try.func32, Try.ntmps32
    go_wp2
    repeat (go_quiet (fail); try go_wp2)
    go_ret
    exact ⟨by first | rfl | (simp [errW_none, errW_some] <;> rfl) | (simp [*, errW_none, errW_some] <;> rfl) | (simp [*, errW_none, errW_some, i64_w]; done), by repeat (first | (with_reducible first | exact HI0.out | apply IsS55.alloc | apply IsS55.drewN | apply IsS55.drew | apply IsS55.set_1 | apply IsS55.set_2) | exact HI0.out), by repeat (first | (with_reducible first | exact HB.out | apply below_alloc | apply pw_below_drewN | apply below_drew1 | refine below_set ?_ (IsS55.ge HI0.out)) | exact HB.out), by repeat (first | (with_reducible first | exact HK.out | apply KeepBut.set_ | apply keep_drewN | apply keep_drew | apply keep_alloc) | exact HK.out)⟩

/-! ### spec_l01Below: function 24 -/
def spec_l01Below.f (s0_0 : List Int) (s0_1 : Int) (s0_2 : Int) (a1 : Int) : Option (Int × Int × Int) := if a1 ≤ 0 then (some (0, s0_1, s0_2)) else (if a1 ≤ 256 then ((spec_l01Byte.f s0_0 s0_1 s0_2).bind fun bt341 => (if a1 = 0 then (none) else (some (Int.tmod bt341.1 a1, bt341.2.1, bt341.2.2)))) else ((spec_l01Byte.f s0_0 s0_1 s0_2).bind fun bt344 => ((spec_l01Byte.f s0_0 bt344.2.1 bt344.2.2).bind fun bt347 => ((spec_l01Byte.f s0_0 bt347.2.1 bt347.2.2).bind fun bt350 => ((spec_l01Byte.f s0_0 bt350.2.1 bt350.2.2).bind fun bt353 => (if a1 = 0 then (none) else (some (Int.tmod (wrap64 ((wrap64 ((wrap64 ((wrap64 (bt344.1 * 16777216)) + (wrap64 (bt347.1 * 65536)))) + (wrap64 (bt350.1 * 256)))) + bt353.1)) a1, bt353.2.1, bt353.2.2))))))))
set_option maxHeartbeats 8000000 in
set_option maxRecDepth 100000 in
theorem spec_l01Below.calls (g : Nat) (s0_0 : List Int) (s0_1 : Int) (s0_2 : Int) (a1 : Int) (r1 : Int) (r2 : Int) (r3 : Int) (w0 w : World) (hI : IsS55 w0 w g s0_0 s0_1 s0_2) (hB : Below w0.heap.size w0 w) (h : spec_l01Below.f s0_0 s0_1 s0_2 a1 = some (r1, r2, r3)) :
    Calls Try.prog 24 #[.pointer (some ⟨g, 0, none⟩), .int .i64 a1] w fun e w' => e = .returned (.int .i64 r1) ∧ IsS55 w0 w' g s0_0 r2 r3 ∧ Below w0.heap.size w0 w' ∧ KeepBut w w' g none := by
  have HI0 := Aside0.mk hI
  have HK := Aside0.mk (KeepBut.refl w g none)
  have HL := Aside0.mk hB.size
  clear hI
  have HW0 := Aside0.mk hB.size
  have HB := Aside0.mk hB
  clear hB
  have H : (if a1 ≤ 0 then (some (0, s0_1, s0_2)) else (if a1 ≤ 256 then ((spec_l01Byte.f s0_0 s0_1 s0_2).bind fun bt341 => (if a1 = 0 then (none) else (some (Int.tmod bt341.1 a1, bt341.2.1, bt341.2.2)))) else ((spec_l01Byte.f s0_0 s0_1 s0_2).bind fun bt344 => ((spec_l01Byte.f s0_0 bt344.2.1 bt344.2.2).bind fun bt347 => ((spec_l01Byte.f s0_0 bt347.2.1 bt347.2.2).bind fun bt350 => ((spec_l01Byte.f s0_0 bt350.2.1 bt350.2.2).bind fun bt353 => (if a1 = 0 then (none) else (some (Int.tmod (wrap64 ((wrap64 ((wrap64 ((wrap64 (bt344.1 * 16777216)) + (wrap64 (bt347.1 * 65536)))) + (wrap64 (bt350.1 * 256)))) + bt353.1)) a1, bt353.2.1, bt353.2.2))))))))) = some (r1, r2, r3) := h
  clear h
  by_cases c3 : a1 ≤ 0
  · rw [if_pos c3] at H
    have c3b0 : decide (a1 ≤ 0) = true := decide_eq_true c3
    clear c3
    simp only [Option.some.injEq, Prod.mk.injEq] at H
    obtain ⟨rfl, rfl, rfl⟩ := H
    go_enter Try.func24, Try.ntmps24
    go_wp2
    go_ret
    exact ⟨by first | rfl | (simp [errW_none, errW_some] <;> rfl) | (simp [*, errW_none, errW_some] <;> rfl) | (simp [*, errW_none, errW_some, i64_w]; done), by repeat (first | (with_reducible first | exact HI0.out | apply IsS55.alloc | apply IsS55.drewN | apply IsS55.drew | apply IsS55.set_1 | apply IsS55.set_2) | exact HI0.out), by repeat (first | (with_reducible first | exact HB.out | apply below_alloc | apply pw_below_drewN | apply below_drew1 | refine below_set ?_ (IsS55.ge HI0.out)) | exact HB.out), by repeat (first | (with_reducible first | exact HK.out | apply KeepBut.set_ | apply keep_drewN | apply keep_drew | apply keep_alloc) | exact HK.out)⟩
  · rw [if_neg c3] at H
    have c3b0 : decide (a1 ≤ 0) = false := decide_eq_false c3
    clear c3
    by_cases c4 : a1 ≤ 256
    · rw [if_pos c4] at H
      have c4b0 : decide (a1 ≤ 256) = true := decide_eq_true c4
      clear c4
      replace H := Option.bind_eq_some_iff.mp H
      obtain ⟨⟨t341, t342, t343⟩, A50, H⟩ := H
      replace H : (if a1 = 0 then (none) else (some (Int.tmod t341 a1, t342, t343))) = some (r1, r2, r3) := H
      have A5 := Aside0.mk A50
      clear A50
      by_cases c6 : a1 = 0
      · rw [if_pos c6] at H
        exact absurd H (by simp)
      · rw [if_neg c6] at H
        have c6b0 : (a1 == 0) = false := beq_eq_false_iff_ne.mpr c6
        have c6b1 : (a1 != 0) = true := bne_iff_ne.mpr c6
        simp only [Option.some.injEq, Prod.mk.injEq] at H
        obtain ⟨rfl, rfl, rfl⟩ := H
        go_enter Try.func24, Try.ntmps24
        go_wp2_with (first | ((first | ((with_reducible refine gate_callee (f := 32) rfl ?_); refine goesL_ (some 14) rfl rfl Try.func32 z8_23 rfl #[.pointer (some ⟨g, 0, none⟩)] rfl z8_1 ?_; (with_reducible refine (spec_l01Byte.calls g s0_0 s0_1 s0_2 t341 t342 t343 w0 _ ?side1 ?side2 A5.out).mono ?_)) | (go_at_call 32; (with_reducible refine (spec_l01Byte.calls g s0_0 s0_1 s0_2 t341 t342 t343 w0 _ ?side1 ?side2 A5.out).mono ?_))); (case side1 => exact z8_19); (case side2 => exact z8_18); rintro e w7 ⟨rfl, hi, hb, hk⟩; (first | refine ⟨_, rfl, ?_⟩ | skip); have n0_ := Aside0.mk (KeepBut.trans z8_22 hk (.inl rfl)); have n1_ := Aside0.mk (hb); have n2_ := Aside0.mk (hi); clear HK; clear HB; clear HI0; have HK := n0_; have HB := n1_; have HI0 := n2_; clear n0_ n1_ n2_; (try clear hb); (try clear hb2); (try clear hk); (try clear hi)))
        go_ret
        exact ⟨by first | rfl | (simp [errW_none, errW_some] <;> rfl) | (simp [*, errW_none, errW_some] <;> rfl) | (simp [*, errW_none, errW_some, i64_w]; done), by repeat (first | (with_reducible first | exact HI0.out | apply IsS55.alloc | apply IsS55.drewN | apply IsS55.drew | apply IsS55.set_1 | apply IsS55.set_2) | exact HI0.out), by repeat (first | (with_reducible first | exact HB.out | apply below_alloc | apply pw_below_drewN | apply below_drew1 | refine below_set ?_ (IsS55.ge HI0.out)) | exact HB.out), by repeat (first | (with_reducible first | exact HK.out | apply KeepBut.set_ | apply keep_drewN | apply keep_drew | apply keep_alloc) | exact HK.out)⟩
    · rw [if_neg c4] at H
      have c4b0 : decide (a1 ≤ 256) = false := decide_eq_false c4
      clear c4
      replace H := Option.bind_eq_some_iff.mp H
      obtain ⟨⟨t344, t345, t346⟩, A80, H⟩ := H
      replace H : ((spec_l01Byte.f s0_0 t345 t346).bind fun bt347 => ((spec_l01Byte.f s0_0 bt347.2.1 bt347.2.2).bind fun bt350 => ((spec_l01Byte.f s0_0 bt350.2.1 bt350.2.2).bind fun bt353 => (if a1 = 0 then (none) else (some (Int.tmod (wrap64 ((wrap64 ((wrap64 ((wrap64 (t344 * 16777216)) + (wrap64 (bt347.1 * 65536)))) + (wrap64 (bt350.1 * 256)))) + bt353.1)) a1, bt353.2.1, bt353.2.2)))))) = some (r1, r2, r3) := H
      have A8 := Aside0.mk A80
      clear A80
      replace H := Option.bind_eq_some_iff.mp H
      obtain ⟨⟨t347, t348, t349⟩, A90, H⟩ := H
      replace H : ((spec_l01Byte.f s0_0 t348 t349).bind fun bt350 => ((spec_l01Byte.f s0_0 bt350.2.1 bt350.2.2).bind fun bt353 => (if a1 = 0 then (none) else (some (Int.tmod (wrap64 ((wrap64 ((wrap64 ((wrap64 (t344 * 16777216)) + (wrap64 (t347 * 65536)))) + (wrap64 (bt350.1 * 256)))) + bt353.1)) a1, bt353.2.1, bt353.2.2))))) = some (r1, r2, r3) := H
      have A9 := Aside0.mk A90
      clear A90
      replace H := Option.bind_eq_some_iff.mp H
      obtain ⟨⟨t350, t351, t352⟩, A100, H⟩ := H
      replace H : ((spec_l01Byte.f s0_0 t351 t352).bind fun bt353 => (if a1 = 0 then (none) else (some (Int.tmod (wrap64 ((wrap64 ((wrap64 ((wrap64 (t344 * 16777216)) + (wrap64 (t347 * 65536)))) + (wrap64 (t350 * 256)))) + bt353.1)) a1, bt353.2.1, bt353.2.2)))) = some (r1, r2, r3) := H
      have A10 := Aside0.mk A100
      clear A100
      replace H := Option.bind_eq_some_iff.mp H
      obtain ⟨⟨t353, t354, t355⟩, A110, H⟩ := H
      replace H : (if a1 = 0 then (none) else (some (Int.tmod (wrap64 ((wrap64 ((wrap64 ((wrap64 (t344 * 16777216)) + (wrap64 (t347 * 65536)))) + (wrap64 (t350 * 256)))) + t353)) a1, t354, t355))) = some (r1, r2, r3) := H
      have A11 := Aside0.mk A110
      clear A110
      by_cases c12 : a1 = 0
      · rw [if_pos c12] at H
        exact absurd H (by simp)
      · rw [if_neg c12] at H
        have c12b0 : (a1 == 0) = false := beq_eq_false_iff_ne.mpr c12
        have c12b1 : (a1 != 0) = true := bne_iff_ne.mpr c12
        simp only [Option.some.injEq, Prod.mk.injEq] at H
        obtain ⟨rfl, rfl, rfl⟩ := H
        go_enter Try.func24, Try.ntmps24
        go_wp2_with (first | ((first | ((with_reducible refine gate_callee (f := 32) rfl ?_); refine goesL_ (some 18) rfl rfl Try.func32 z8_23 rfl #[.pointer (some ⟨g, 0, none⟩)] rfl z8_1 ?_; (with_reducible refine (spec_l01Byte.calls g s0_0 s0_1 s0_2 t344 t345 t346 w0 _ ?side1 ?side2 A8.out).mono ?_)) | (go_at_call 32; (with_reducible refine (spec_l01Byte.calls g s0_0 s0_1 s0_2 t344 t345 t346 w0 _ ?side1 ?side2 A8.out).mono ?_))); (case side1 => exact z8_19); (case side2 => exact z8_18); rintro e w13 ⟨rfl, hi, hb, hk⟩; (first | refine ⟨_, rfl, ?_⟩ | skip); have n0_ := Aside0.mk (KeepBut.trans z8_22 hk (.inl rfl)); have n1_ := Aside0.mk (hb); have n2_ := Aside0.mk (hi); clear HK; clear HB; clear HI0; have HK := n0_; have HB := n1_; have HI0 := n2_; clear n0_ n1_ n2_; (try clear hb); (try clear hb2); (try clear hk); (try clear hi)) | ((first | ((with_reducible refine gate_callee (f := 32) rfl ?_); refine goesL_ (some 20) rfl rfl Try.func32 z8_23 rfl #[.pointer (some ⟨g, 0, none⟩)] rfl z8_1 ?_; (with_reducible refine (spec_l01Byte.calls g s0_0 t345 t346 t347 t348 t349 w0 _ ?side1 ?side2 A9.out).mono ?_)) | (go_at_call 32; (with_reducible refine (spec_l01Byte.calls g s0_0 t345 t346 t347 t348 t349 w0 _ ?side1 ?side2 A9.out).mono ?_))); (case side1 => exact z8_19); (case side2 => exact z8_18); rintro e w14 ⟨rfl, hi, hb, hk⟩; (first | refine ⟨_, rfl, ?_⟩ | skip); have n0_ := Aside0.mk (KeepBut.trans z8_22 hk (.inl rfl)); have n1_ := Aside0.mk (hb); have n2_ := Aside0.mk (hi); clear HK; clear HB; clear HI0; have HK := n0_; have HB := n1_; have HI0 := n2_; clear n0_ n1_ n2_; (try clear hb); (try clear hb2); (try clear hk); (try clear hi)) | ((first | ((with_reducible refine gate_callee (f := 32) rfl ?_); refine goesL_ (some 22) rfl rfl Try.func32 z8_23 rfl #[.pointer (some ⟨g, 0, none⟩)] rfl z8_1 ?_; (with_reducible refine (spec_l01Byte.calls g s0_0 t348 t349 t350 t351 t352 w0 _ ?side1 ?side2 A10.out).mono ?_)) | (go_at_call 32; (with_reducible refine (spec_l01Byte.calls g s0_0 t348 t349 t350 t351 t352 w0 _ ?side1 ?side2 A10.out).mono ?_))); (case side1 => exact z8_19); (case side2 => exact z8_18); rintro e w15 ⟨rfl, hi, hb, hk⟩; (first | refine ⟨_, rfl, ?_⟩ | skip); have n0_ := Aside0.mk (KeepBut.trans z8_22 hk (.inl rfl)); have n1_ := Aside0.mk (hb); have n2_ := Aside0.mk (hi); clear HK; clear HB; clear HI0; have HK := n0_; have HB := n1_; have HI0 := n2_; clear n0_ n1_ n2_; (try clear hb); (try clear hb2); (try clear hk); (try clear hi)) | ((first | ((with_reducible refine gate_callee (f := 32) rfl ?_); refine goesL_ (some 24) rfl rfl Try.func32 z8_23 rfl #[.pointer (some ⟨g, 0, none⟩)] rfl z8_1 ?_; (with_reducible refine (spec_l01Byte.calls g s0_0 t351 t352 t353 t354 t355 w0 _ ?side1 ?side2 A11.out).mono ?_)) | (go_at_call 32; (with_reducible refine (spec_l01Byte.calls g s0_0 t351 t352 t353 t354 t355 w0 _ ?side1 ?side2 A11.out).mono ?_))); (case side1 => exact z8_19); (case side2 => exact z8_18); rintro e w16 ⟨rfl, hi, hb, hk⟩; (first | refine ⟨_, rfl, ?_⟩ | skip); have n0_ := Aside0.mk (KeepBut.trans z8_22 hk (.inl rfl)); have n1_ := Aside0.mk (hb); have n2_ := Aside0.mk (hi); clear HK; clear HB; clear HI0; have HK := n0_; have HB := n1_; have HI0 := n2_; clear n0_ n1_ n2_; (try clear hb); (try clear hb2); (try clear hk); (try clear hi)))
        go_ret
        exact ⟨by first | rfl | (simp [errW_none, errW_some] <;> rfl) | (simp [*, errW_none, errW_some] <;> rfl) | (simp [*, errW_none, errW_some, i64_w]; done), by repeat (first | (with_reducible first | exact HI0.out | apply IsS55.alloc | apply IsS55.drewN | apply IsS55.drew | apply IsS55.set_1 | apply IsS55.set_2) | exact HI0.out), by repeat (first | (with_reducible first | exact HB.out | apply below_alloc | apply pw_below_drewN | apply below_drew1 | refine below_set ?_ (IsS55.ge HI0.out)) | exact HB.out), by repeat (first | (with_reducible first | exact HK.out | apply KeepBut.set_ | apply keep_drewN | apply keep_drew | apply keep_alloc) | exact HK.out)⟩

/-! ### spec_DrawWrites: function 7 -/
mutual
def spec_DrawWrites.l0 : Nat → List Int → Int → List Int → Int → Int → Option (List Int × (List (S31)))
  | 0, _, _, _, _, _ => none
  | k + 1, x5, x6, x360000, x360001, x360002 => if x6 < 12 then ((spec_l01Below.f x360000 x360001 x360002 99).bind fun bt363 => (if 0 ≤ x6 then (if x6 < (x5.length : Int) then (spec_DrawWrites.l0 k (x5.set (x6 : Int).toNat bt363.1) (wrap64 (x6 + 1)) x360000 bt363.2.1 bt363.2.2) else (none)) else (none))) else (spec_DrawWrites.l1 k x5 (([] : List (S31))) 0 x360000 x360001 x360002)
def spec_DrawWrites.l1 : Nat → List Int → List (S31) → Int → List Int → Int → Int → Option (List Int × (List (S31)))
  | 0, _, _, _, _, _, _ => none
  | k + 1, x5, x7, x8, x360000, x360001, x360002 => (spec_l01Below.f x360000 x360001 x360002 9).bind fun bt370 => (if x8 < bt370.1 then ((spec_l01Below.f x360000 bt370.2.1 bt370.2.2 12).bind fun bt373 => ((spec_l01Below.f x360000 bt373.2.1 bt373.2.2 99).bind fun bt376 => (if x7.length < 8796093022208 then (spec_DrawWrites.l1 k x5 (x7 ++ [(⟨bt373.1, bt376.1⟩ : S31)]) (wrap64 (x8 + 1)) x360000 bt376.2.1 bt376.2.2) else (none)))) else (some (x5, x7)))
end
def spec_DrawWrites.f (k : Nat) (l0 : List Int) : Option (List Int × (List (S31))) := (spec_l01New.f k l0).bind fun bt356 => (if 12 ≤ 35184372088832 then (spec_DrawWrites.l0 k (List.replicate 12 0) 0 bt356.1 bt356.2.1 bt356.2.2) else (none))
theorem spec_DrawWrites.mono_l : ∀ k, (∀ y0 y1 y2 y3 y4, LeO (spec_DrawWrites.l0 k y0 y1 y2 y3 y4) (spec_DrawWrites.l0 (k + 1) y0 y1 y2 y3 y4)) ∧ (∀ y0 y1 y2 y3 y4 y5, LeO (spec_DrawWrites.l1 k y0 y1 y2 y3 y4 y5) (spec_DrawWrites.l1 (k + 1) y0 y1 y2 y3 y4 y5))
  | 0 => ⟨fun _ _ _ _ _ r h => by simp [spec_DrawWrites.l0] at h, fun _ _ _ _ _ _ r h => by simp [spec_DrawWrites.l1] at h⟩
  | k + 1 => by
    obtain ⟨ih0, ih1⟩ := spec_DrawWrites.mono_l k
    refine ⟨?_, ?_⟩
    · intro y0 y1 y2 y3 y4
      unfold spec_DrawWrites.l0
      repeat' first
      | (with_reducible exact ih0 _ _ _ _ _)
      | (with_reducible exact ih1 _ _ _ _ _ _)
      | (with_reducible exact spec_l01New.mono _ _)
      | (with_reducible exact LeO.refl _)
      | (with_reducible exact LeO.none _)
      | (with_reducible refine LeO.ite ?_ ?_)
      | (with_reducible refine LeO.bind ?_ (fun _ => ?_))
      | exact ih0 _ _ _ _ _
      | exact ih1 _ _ _ _ _ _
      | exact spec_l01New.mono _ _
      | exact LeO.none _
      | refine LeO.ite ?_ ?_
      | refine LeO.bind ?_ (fun _ => ?_)
    · intro y0 y1 y2 y3 y4 y5
      unfold spec_DrawWrites.l1
      repeat' first
      | (with_reducible exact ih0 _ _ _ _ _)
      | (with_reducible exact ih1 _ _ _ _ _ _)
      | (with_reducible exact spec_l01New.mono _ _)
      | (with_reducible exact LeO.refl _)
      | (with_reducible exact LeO.none _)
      | (with_reducible refine LeO.ite ?_ ?_)
      | (with_reducible refine LeO.bind ?_ (fun _ => ?_))
      | exact ih0 _ _ _ _ _
      | exact ih1 _ _ _ _ _ _
      | exact spec_l01New.mono _ _
      | exact LeO.none _
      | refine LeO.ite ?_ ?_
      | refine LeO.bind ?_ (fun _ => ?_)
theorem spec_DrawWrites.mono : ∀ a0 k, LeO (spec_DrawWrites.f k a0) (spec_DrawWrites.f (k + 1) a0) := by
  intro a0 k
  obtain ⟨ih0, ih1⟩ := spec_DrawWrites.mono_l k
  unfold spec_DrawWrites.f
  repeat' first
      | (with_reducible exact ih0 _ _ _ _ _)
      | (with_reducible exact ih1 _ _ _ _ _ _)
      | (with_reducible exact spec_l01New.mono _ _)
      | (with_reducible exact LeO.refl _)
      | (with_reducible exact LeO.none _)
      | (with_reducible refine LeO.ite ?_ ?_)
      | (with_reducible refine LeO.bind ?_ (fun _ => ?_))
      | exact ih0 _ _ _ _ _
      | exact ih1 _ _ _ _ _ _
      | exact spec_l01New.mono _ _
      | exact LeO.none _
      | refine LeO.ite ?_ ?_
      | refine LeO.bind ?_ (fun _ => ?_)
set_option maxHeartbeats 8000000 in
set_option maxRecDepth 100000 in
theorem spec_DrawWrites.calls (k : Nat) (A0 : Option Addr) (c0 : Nat) (l0 : List Int) (r1 : List Int) (r2 : List (S31)) (w : World) (hr0 : Kd.C (Kd.int .u8) w A0 l0.length l0) (hc0 : l0.length ≤ c0) (h : spec_DrawWrites.f k l0 = some (r1, r2)) :
    Calls Try.prog 7 #[.slice A0 l0.length c0] w fun e w' => ∃ v0_ v1_ : Value, e = .returned (.tuple #[v0_, v1_]) ∧ Kd.R (Kd.int .i64) 3 w' w.heap.size (fun _ => True) v0_ r1 ∧ Kd.R k31 31 w' w.heap.size (fun _ => True) v1_ r2 ∧ Below w.heap.size w w' := by
  have hu31 := Try.underlying31
  have HR0 := Aside0.mk hr0
  have HC0 := Aside0.mk hc0
  clear hr0 hc0
  have HB := Aside0.mk (Below.refl w.heap.size w)
  have H : ((spec_l01New.f k l0).bind fun bt356 => (if 12 ≤ 35184372088832 then (spec_DrawWrites.l0 k (List.replicate 12 0) 0 bt356.1 bt356.2.1 bt356.2.2) else (none))) = some (r1, r2) := h
  clear h
  replace H := Option.bind_eq_some_iff.mp H
  obtain ⟨⟨t356, t357, t358⟩, A20, H⟩ := H
  replace H : (if 12 ≤ 35184372088832 then (spec_DrawWrites.l0 k (List.replicate 12 0) 0 t356 t357 t358) else (none)) = some (r1, r2) := H
  have A2 := Aside0.mk A20
  clear A20
  by_cases c3 : 12 ≤ 35184372088832
  · rw [if_pos c3] at H
    have c3b0 := eq_true c3
    have c3b1 : decide (12 ≤ 35184372088832) = true := decide_eq_true c3
    clear c3
    obtain ⟨y360, hy360⟩ : ∃ y_ : List Int, y_ = (List.replicate 12 0) := ⟨_, rfl⟩
    replace H : (spec_DrawWrites.l0 k y360 0 t356 t357 t358) = some (r1, r2) := by first | (rw [hy360]; with_reducible exact H) | (have H2_ := (Option.bind_some _ _).symm.trans H; rw [hy360]; with_reducible exact H2_) | (have H2_ := (Option.bind_some _ _).symm.trans H; with_reducible exact H2_) | with_reducible exact H | (rw [hy360]; exact H) | exact H
    have Ny360 := Aside0.mk hy360
    clear hy360
    have H' := Aside0.mk H
    clear H
    go_enter Try.func7, Try.ntmps7
    go_wp2_with (first | ((first | ((with_reducible refine gate_callee (f := 23) rfl ?_); refine goesL_ (some 10) rfl rfl Try.func23 z8_23 rfl #[.slice A0 l0.length c0] rfl z8_1 ?_; (with_reducible refine (spec_l01New.calls k _ _ l0 t356 t357 t358 w _ ?side1 ?side2 ?side3 A2.out).mono ?_)) | (go_at_call 23; (with_reducible refine (spec_l01New.calls k _ _ l0 t356 t357 t358 w _ ?side1 ?side2 ?side3 A2.out).mono ?_))); (case side1 => exact z8_0); (case side2 => exact HR0.out); (case side3 => exact z8_37); rintro e w4 ⟨g359, rfl, hi, hb, hb2⟩; (first | refine ⟨_, rfl, ?_⟩ | skip); have n0_ := Aside0.mk (hb); have n1_ := Aside0.mk (hi); clear HB; have HB := n0_; have HI359 := n1_; clear n0_ n1_; (try clear hb); (try clear hb2); (try clear hk); (try clear hi)) | ((with_reducible refine gate_dst (N := 11) rfl ?_); refine Kd.R_make (Kd.int .i64) _ 3 rfl (N := 11) rfl 24 _ _ rfl 12 rfl rfl Try.underlying24 (.int .i64 0) 8 info3 rfl (by decide) (by omega) 0 (ok := fun _ => True) (okp := fun _ => True) rfl (fun _ hk => hk) trivial (by omega) (by omega) (Below.refl _ _) (Nat.le_refl _) ?_; intro v361 w5 ho6 hb hg_ hnew_; clear hg_ hnew_; (first | rw [← Ny360.out] at ho6 | (simp only [Int.reduceToNat] at ho6; rw [← Ny360.out] at ho6)); have n0_ := Aside0.mk (Kd.R_lower ho6 (below_size z8_4)); have n1_ := Aside0.mk (IsS55.below z8_5 hb); have n2_ := Aside0.mk (below_step z8_4 hb); clear HI359; clear HB; have HO362 := n0_; have HI359 := n1_; have HB := n2_; clear n0_ n1_ n2_; clear hb ho6))
    go_loopg [6] k (fun kq v6 w' => ∃ (x5_1 : List Int) (x6_1 : Int) (x360001_1 : Int) (x360002_1 : Int), v6 = .int .i64 x6_1 ∧ Aside0 (spec_DrawWrites.l0 kq x5_1 x6_1 t356 x360001_1 x360002_1 = some (r1, r2)) ∧ Aside0 (kq ≤ k) ∧ Aside0 (Kd.R (Kd.int .i64) 3 w' w.heap.size (fun _ => True) v361 x5_1) ∧ Aside0 (IsS55 w w' g359 t356 x360001_1 x360002_1) ∧ Aside0 (Below w.heap.size w w'))
    case atStart => exact ⟨(y360), (0), (t357), (t358), z8_15, H', ⟨Nat.le_refl _⟩, ⟨by (with_reducible repeat (first | apply Kd.R_alloc | apply Kd.R_drewN | apply Kd.R_drew)); exact HO362.out⟩, ⟨by repeat (first | (with_reducible first | exact HI359.out | apply IsS55.alloc | apply IsS55.drewN | apply IsS55.drew | apply IsS55.set_1 | apply IsS55.set_2) | exact HI359.out)⟩, ⟨by repeat (first | (with_reducible first | exact HB.out | apply below_alloc | apply pw_below_drewN | apply below_drew1 | refine below_set ?_ (IsS55.ge HI359.out)) | exact HB.out)⟩⟩
    case round =>
      clear H'
      (try clear c3); (try clear c3b0); (try clear c3b1)
      obtain ⟨x5_1, x6_1, x360001_1, x360002_1, rfl, HA, HK1, HO_5, HI359, HB⟩ := hrel
      cases gk with
      | zero => exact absurd HA.out (by simp [spec_DrawWrites.l0])
      | succ k1 =>
        have H := HA.out
        clear HA
        simp only [spec_DrawWrites.l0] at H
        by_cases c7 : x6_1 < 12
        · rw [if_pos c7] at H
          have c7b0 : decide (x6_1 < 12) = true := decide_eq_true c7
          clear c7
          replace H := Option.bind_eq_some_iff.mp H
          obtain ⟨⟨t363, t364, t365⟩, A80, H⟩ := H
          replace H : (if 0 ≤ x6_1 then (if x6_1 < (x5_1.length : Int) then (spec_DrawWrites.l0 k1 (x5_1.set (x6_1 : Int).toNat t363) (wrap64 (x6_1 + 1)) t356 t364 t365) else (none)) else (none)) = some (r1, r2) := H
          have A8 := Aside0.mk A80
          clear A80
          by_cases c9 : 0 ≤ x6_1
          · rw [if_pos c9] at H
            have c9b0 : decide (0 ≤ x6_1) = true := decide_eq_true c9
            clear c9
            by_cases c10 : x6_1 < (x5_1.length : Int)
            · rw [if_pos c10] at H
              have c10b0 : decide (x6_1 < (x5_1.length : Int)) = true := decide_eq_true c10
              clear c10
              obtain ⟨y366, hy366⟩ : ∃ y_ : List Int, y_ = (x5_1.set (x6_1 : Int).toNat t363) := ⟨_, rfl⟩
              replace H : (spec_DrawWrites.l0 k1 y366 (wrap64 (x6_1 + 1)) t356 t364 t365) = some (r1, r2) := by first | (rw [hy366]; with_reducible exact H) | (have H2_ := (Option.bind_some _ _).symm.trans H; rw [hy366]; with_reducible exact H2_) | (have H2_ := (Option.bind_some _ _).symm.trans H; with_reducible exact H2_) | with_reducible exact H | (rw [hy366]; exact H) | exact H
              have Ny366 := Aside0.mk hy366
              clear hy366
              have H' := Aside0.mk H
              clear H
              go_wp2_with (first | ((first | ((with_reducible refine gate_callee (f := 24) rfl ?_); refine goesL_ (some 19) rfl rfl Try.func24 z8_23 rfl #[.pointer (some ⟨g359, 0, none⟩), .int .i64 99] rfl z8_1 ?_; (with_reducible refine (spec_l01Below.calls g359 t356 x360001_1 x360002_1 99 t363 t364 t365 w _ ?side1 ?side2 A8.out).mono ?_)) | (go_at_call 24; (with_reducible refine (spec_l01Below.calls g359 t356 x360001_1 x360002_1 99 t363 t364 t365 w _ ?side1 ?side2 A8.out).mono ?_))); (case side1 => exact z8_5); (case side2 => exact z8_4); rintro e w12 ⟨rfl, hi, hb, hk⟩; (first | refine ⟨_, rfl, ?_⟩ | skip); have n0_ := Aside0.mk (Kd.R_mono (Kd.R_keep (IsS55.apart (show IsS55 w _ g359 t356 x360001_1 x360002_1 from by repeat (first | (with_reducible first | exact HI359.out | apply IsS55.alloc | apply IsS55.drewN | apply IsS55.drew | apply IsS55.set_1 | apply IsS55.set_2) | exact HI359.out)) z8_21 (by decide)) hk (fun _ h => h.2)) (fun _ h => h.1)); have n1_ := Aside0.mk (hb); have n2_ := Aside0.mk (hi); clear HO_5; clear HB; clear HI359; have HO_5 := n0_; have HB := n1_; have HI359 := n2_; clear n0_ n1_ n2_; (try clear hb); (try clear hb2); (try clear hk); (try clear hi); have p11 : 0 ≤ (x6_1 : Int) := of_decide_eq_true z8_11; have q11 : (x6_1 : Int) < ((x5_1.length : Int) : Int) := of_decide_eq_true z8_11; obtain ⟨go11, co11, eo11, gb11, gl11, cl11, HG11⟩ := Kd.R_form HO_5.out (by omega); (first | cases eo11 | (injection eo11 with ea_ en_ ec_; (first | subst ea_ | (injection ea_ with ea_; subst ea_)); subst ec_; clear en_)); have GB11 := Aside0.mk gb11; have GG11 := Aside0.mk HG11; clear gb11 gl11 HG11; obtain ⟨hx11_0, hf11_0⟩ := Kd.R_celln 0 HO_5.out (x6_1 : Int) p11 q11; replace p11 := eq_true p11; replace q11 := eq_true q11; obtain ⟨hy13_, hz13_⟩ := Kd.R_celln 0 HO_5.out (x6_1 : Int) (of_decide_eq_true z8_11) (of_decide_eq_true z8_11); have HP13 := Kd.R_putg HO_5.out (x6_1 : Int) t363) | ((with_reducible refine gate_store (t := 3) (p := 20) rfl ?_); refine store_event (t := 3) (p := 20) (v := ?vo_w14) (w1 := (w12.setCell ⟨go11, (x6_1 : Int).toNat, none⟩ (.int .i64 t363))) ?hg ?ho ?hn ?hr ?_; (case ho => rfl); (case hg => rfl); (case hn => rfl); (case hr => exact z8_36); intro w14 hw; have hg : w12.grownBy w14 (some go11) := (by rw [hw]; exact HP13.2); have hp_ : Kd.R (Kd.int .i64) 3 w14 w.heap.size (fun _ => True) (.slice (some ⟨go11, 0, none⟩) x5_1.length co11) y366 := (by rw [hw, Ny366.out]; exact HP13.1); clear HP13; have n0_ := Aside0.mk (hp_); have n1_ := Aside0.mk (IsS55.grown z8_5 hg (IsS55.own_ne HI359.out HO_5.out (by decide))); have n2_ := Aside0.mk ((by rw [hw]; exact below_set (HB.out) GB11.out : Below w.heap.size w w14)); clear HO_5; clear HI359; clear HB; have HO_5 := n0_; have HI359 := n1_; have HB := n2_; clear n0_ n1_ n2_; clear hg hw hp_))
              go_roundg k1
              case measure => have := HK1.out; omega
              case rel => exact ⟨(y366), (wrap64 (x6_1 + 1)), (t364), (t365), z8_15, H', ⟨by have := HK1.out; omega⟩, ⟨by (with_reducible repeat (first | apply Kd.R_alloc | apply Kd.R_drewN | apply Kd.R_drew)); exact HO_5.out⟩, ⟨by repeat (first | (with_reducible first | exact HI359.out | apply IsS55.alloc | apply IsS55.drewN | apply IsS55.drew | apply IsS55.set_1 | apply IsS55.set_2) | exact HI359.out)⟩, ⟨by repeat (first | (with_reducible first | exact HB.out | apply below_alloc | apply pw_below_drewN | apply below_drew1 | refine below_set ?_ (IsS55.ge HI359.out)) | exact HB.out)⟩⟩
            · rw [if_neg c10] at H
              exact absurd H (by simp)
          · rw [if_neg c9] at H
            exact absurd H (by simp)
        · rw [if_neg c7] at H
          have c7b0 : decide (x6_1 < 12) = false := decide_eq_false c7
          clear c7
          obtain ⟨y367, hy367⟩ : ∃ y_ : List (S31), y_ = (([] : List (S31))) := ⟨_, rfl⟩
          replace H : (spec_DrawWrites.l1 k1 x5_1 y367 0 t356 x360001_1 x360002_1) = some (r1, r2) := by first | (rw [hy367]; with_reducible exact H) | (have H2_ := (Option.bind_some _ _).symm.trans H; rw [hy367]; with_reducible exact H2_) | (have H2_ := (Option.bind_some _ _).symm.trans H; with_reducible exact H2_) | with_reducible exact H | (rw [hy367]; exact H) | exact H
          have Ny367 := Aside0.mk hy367
          clear hy367
          have H' := Aside0.mk H
          clear H
          go_wp2_with (first | ((with_reducible refine gate_dst (N := 21) rfl ?_); refine Kd.R_lit k31 _ 31 ?hg (N := 21) ?hd (xs := ([] : List (S31))) (inner := []) (ok := fun _ => True) (okp := fun _ => True) ?hr ?hp (fun _ hk => hk) trivial (Below.refl _ _) (Nat.le_refl _) (by simp) ?_; (case hd => rfl); (case hg => rfl); (case hr => exact z8_36); (case hp => exact (Reps.none _ _)); intro v368 w15 ho16 hb hg_ hnew_; clear hg_ hnew_; (first | rw [← Ny367.out] at ho16 | (simp only [Int.reduceToNat] at ho16; rw [← Ny367.out] at ho16)); have n0_ := Aside0.mk (Kd.R_below z8_21 hb); have n1_ := Aside0.mk (Kd.R_lower ho16 (below_size z8_4)); have n2_ := Aside0.mk (IsS55.below z8_5 hb); have n3_ := Aside0.mk (below_step z8_4 hb); clear HO_5; clear HI359; clear HB; have HO_5 := n0_; have HO369 := n1_; have HI359 := n2_; have HB := n3_; clear n0_ n1_ n2_ n3_; clear hb ho16))
          go_loopg [7, 8] k1 (fun kq v7 v8 w' => ∃ (x7_2 : List (S31)) (x8_2 : Int) (x360001_2 : Int) (x360002_2 : Int), v8 = .int .i64 x8_2 ∧ Aside0 (spec_DrawWrites.l1 kq x5_1 x7_2 x8_2 t356 x360001_2 x360002_2 = some (r1, r2)) ∧ Aside0 (kq ≤ k1) ∧ Aside0 (Kd.R (Kd.int .i64) 3 w' w.heap.size (fun _ => True) v361 x5_1) ∧ Aside0 (Kd.R k31 31 w' w.heap.size (fun _ => True) v7 x7_2) ∧ Aside0 (IsS55 w w' g359 t356 x360001_2 x360002_2) ∧ Aside0 (Below w.heap.size w w'))
          case atStart => exact ⟨(y367), (0), (x360001_1), (x360002_1), z8_15, H', ⟨Nat.le_refl _⟩, ⟨by (with_reducible repeat (first | apply Kd.R_alloc | apply Kd.R_drewN | apply Kd.R_drew)); exact HO_5.out⟩, ⟨by (with_reducible repeat (first | apply Kd.R_alloc | apply Kd.R_drewN | apply Kd.R_drew)); exact HO369.out⟩, ⟨by repeat (first | (with_reducible first | exact HI359.out | apply IsS55.alloc | apply IsS55.drewN | apply IsS55.drew | apply IsS55.set_1 | apply IsS55.set_2) | exact HI359.out)⟩, ⟨by repeat (first | (with_reducible first | exact HB.out | apply below_alloc | apply pw_below_drewN | apply below_drew1 | refine below_set ?_ (IsS55.ge HI359.out)) | exact HB.out)⟩⟩
          case round =>
            clear H'
            (try clear c3); (try clear c3b0); (try clear c3b1); (try clear c7); (try clear c7b0)
            obtain ⟨x7_2, x8_2, x360001_2, x360002_2, rfl, HA, HK2, HO_5, HO_7, HI359, HB⟩ := hrel
            cases gk with
            | zero => exact absurd HA.out (by simp [spec_DrawWrites.l1])
            | succ k2 =>
              have H := HA.out
              clear HA
              simp only [spec_DrawWrites.l1] at H
              replace H := Option.bind_eq_some_iff.mp H
              obtain ⟨⟨t370, t371, t372⟩, A170, H⟩ := H
              replace H : (if x8_2 < t370 then ((spec_l01Below.f t356 t371 t372 12).bind fun bt373 => ((spec_l01Below.f t356 bt373.2.1 bt373.2.2 99).bind fun bt376 => (if x7_2.length < 8796093022208 then (spec_DrawWrites.l1 k2 x5_1 (x7_2 ++ [(⟨bt373.1, bt376.1⟩ : S31)]) (wrap64 (x8_2 + 1)) t356 bt376.2.1 bt376.2.2) else (none)))) else (some (x5_1, x7_2))) = some (r1, r2) := H
              have A17 := Aside0.mk A170
              clear A170
              by_cases c18 : x8_2 < t370
              · rw [if_pos c18] at H
                have c18b0 : decide (x8_2 < t370) = true := decide_eq_true c18
                clear c18
                replace H := Option.bind_eq_some_iff.mp H
                obtain ⟨⟨t373, t374, t375⟩, A190, H⟩ := H
                replace H : ((spec_l01Below.f t356 t374 t375 99).bind fun bt376 => (if x7_2.length < 8796093022208 then (spec_DrawWrites.l1 k2 x5_1 (x7_2 ++ [(⟨t373, bt376.1⟩ : S31)]) (wrap64 (x8_2 + 1)) t356 bt376.2.1 bt376.2.2) else (none))) = some (r1, r2) := H
                have A19 := Aside0.mk A190
                clear A190
                replace H := Option.bind_eq_some_iff.mp H
                obtain ⟨⟨t376, t377, t378⟩, A200, H⟩ := H
                replace H : (if x7_2.length < 8796093022208 then (spec_DrawWrites.l1 k2 x5_1 (x7_2 ++ [(⟨t373, t376⟩ : S31)]) (wrap64 (x8_2 + 1)) t356 t377 t378) else (none)) = some (r1, r2) := H
                have A20 := Aside0.mk A200
                clear A200
                by_cases c21 : x7_2.length < 8796093022208
                · rw [if_pos c21] at H
                  have LMc21 := Aside0.mk c21
                  clear c21
                  obtain ⟨y379, hy379⟩ : ∃ y_ : List (S31), y_ = (x7_2 ++ [(⟨t373, t376⟩ : S31)]) := ⟨_, rfl⟩
                  replace H : (spec_DrawWrites.l1 k2 x5_1 y379 (wrap64 (x8_2 + 1)) t356 t377 t378) = some (r1, r2) := by first | (rw [hy379]; with_reducible exact H) | (have H2_ := (Option.bind_some _ _).symm.trans H; rw [hy379]; with_reducible exact H2_) | (have H2_ := (Option.bind_some _ _).symm.trans H; with_reducible exact H2_) | with_reducible exact H | (rw [hy379]; exact H) | exact H
                  have Ny379 := Aside0.mk hy379
                  clear hy379
                  have H' := Aside0.mk H
                  clear H
                  go_wp2_with (first | ((first | ((with_reducible refine gate_callee (f := 24) rfl ?_); refine goesL_ (some 24) rfl rfl Try.func24 z8_23 rfl #[.pointer (some ⟨g359, 0, none⟩), .int .i64 9] rfl z8_1 ?_; (with_reducible refine (spec_l01Below.calls g359 t356 x360001_2 x360002_2 9 t370 t371 t372 w _ ?side1 ?side2 A17.out).mono ?_)) | (go_at_call 24; (with_reducible refine (spec_l01Below.calls g359 t356 x360001_2 x360002_2 9 t370 t371 t372 w _ ?side1 ?side2 A17.out).mono ?_))); (case side1 => exact z8_5); (case side2 => exact z8_4); rintro e w22 ⟨rfl, hi, hb, hk⟩; (first | refine ⟨_, rfl, ?_⟩ | skip); have n0_ := Aside0.mk (Kd.R_mono (Kd.R_keep (IsS55.apart (show IsS55 w _ g359 t356 x360001_2 x360002_2 from by repeat (first | (with_reducible first | exact HI359.out | apply IsS55.alloc | apply IsS55.drewN | apply IsS55.drew | apply IsS55.set_1 | apply IsS55.set_2) | exact HI359.out)) z8_21 (by decide)) hk (fun _ h => h.2)) (fun _ h => h.1)); have n1_ := Aside0.mk (Kd.R_mono (Kd.R_keep (IsS55.apart (show IsS55 w _ g359 t356 x360001_2 x360002_2 from by repeat (first | (with_reducible first | exact HI359.out | apply IsS55.alloc | apply IsS55.drewN | apply IsS55.drew | apply IsS55.set_1 | apply IsS55.set_2) | exact HI359.out)) z8_29 (by decide)) hk (fun _ h => h.2)) (fun _ h => h.1)); have n2_ := Aside0.mk (hb); have n3_ := Aside0.mk (hi); clear HO_5; clear HO_7; clear HB; clear HI359; have HO_5 := n0_; have HO_7 := n1_; have HB := n2_; have HI359 := n3_; clear n0_ n1_ n2_ n3_; (try clear hb); (try clear hb2); (try clear hk); (try clear hi)) | ((first | ((with_reducible refine gate_callee (f := 24) rfl ?_); refine goesL_ (some 30) rfl rfl Try.func24 z8_23 rfl #[.pointer (some ⟨g359, 0, none⟩), .int .i64 12] rfl z8_1 ?_; (with_reducible refine (spec_l01Below.calls g359 t356 t371 t372 12 t373 t374 t375 w _ ?side1 ?side2 A19.out).mono ?_)) | (go_at_call 24; (with_reducible refine (spec_l01Below.calls g359 t356 t371 t372 12 t373 t374 t375 w _ ?side1 ?side2 A19.out).mono ?_))); (case side1 => exact z8_5); (case side2 => exact z8_4); rintro e w23 ⟨rfl, hi, hb, hk⟩; (first | refine ⟨_, rfl, ?_⟩ | skip); have n0_ := Aside0.mk (Kd.R_mono (Kd.R_keep (IsS55.apart (show IsS55 w _ g359 t356 t371 t372 from by repeat (first | (with_reducible first | exact HI359.out | apply IsS55.alloc | apply IsS55.drewN | apply IsS55.drew | apply IsS55.set_1 | apply IsS55.set_2) | exact HI359.out)) z8_21 (by decide)) hk (fun _ h => h.2)) (fun _ h => h.1)); have n1_ := Aside0.mk (Kd.R_mono (Kd.R_keep (IsS55.apart (show IsS55 w _ g359 t356 t371 t372 from by repeat (first | (with_reducible first | exact HI359.out | apply IsS55.alloc | apply IsS55.drewN | apply IsS55.drew | apply IsS55.set_1 | apply IsS55.set_2) | exact HI359.out)) z8_29 (by decide)) hk (fun _ h => h.2)) (fun _ h => h.1)); have n2_ := Aside0.mk (hb); have n3_ := Aside0.mk (hi); clear HO_5; clear HO_7; clear HB; clear HI359; have HO_5 := n0_; have HO_7 := n1_; have HB := n2_; have HI359 := n3_; clear n0_ n1_ n2_ n3_; (try clear hb); (try clear hb2); (try clear hk); (try clear hi)) | ((first | ((with_reducible refine gate_callee (f := 24) rfl ?_); refine goesL_ (some 32) rfl rfl Try.func24 z8_23 rfl #[.pointer (some ⟨g359, 0, none⟩), .int .i64 99] rfl z8_1 ?_; (with_reducible refine (spec_l01Below.calls g359 t356 t374 t375 99 t376 t377 t378 w _ ?side1 ?side2 A20.out).mono ?_)) | (go_at_call 24; (with_reducible refine (spec_l01Below.calls g359 t356 t374 t375 99 t376 t377 t378 w _ ?side1 ?side2 A20.out).mono ?_))); (case side1 => exact z8_5); (case side2 => exact z8_4); rintro e w24 ⟨rfl, hi, hb, hk⟩; (first | refine ⟨_, rfl, ?_⟩ | skip); have n0_ := Aside0.mk (Kd.R_mono (Kd.R_keep (IsS55.apart (show IsS55 w _ g359 t356 t374 t375 from by repeat (first | (with_reducible first | exact HI359.out | apply IsS55.alloc | apply IsS55.drewN | apply IsS55.drew | apply IsS55.set_1 | apply IsS55.set_2) | exact HI359.out)) z8_21 (by decide)) hk (fun _ h => h.2)) (fun _ h => h.1)); have n1_ := Aside0.mk (Kd.R_mono (Kd.R_keep (IsS55.apart (show IsS55 w _ g359 t356 t374 t375 from by repeat (first | (with_reducible first | exact HI359.out | apply IsS55.alloc | apply IsS55.drewN | apply IsS55.drew | apply IsS55.set_1 | apply IsS55.set_2) | exact HI359.out)) z8_29 (by decide)) hk (fun _ h => h.2)) (fun _ h => h.1)); have n2_ := Aside0.mk (hb); have n3_ := Aside0.mk (hi); clear HO_5; clear HO_7; clear HB; clear HI359; have HO_5 := n0_; have HO_7 := n1_; have HB := n2_; have HI359 := n3_; clear n0_ n1_ n2_ n3_; (try clear hb); (try clear hb2); (try clear hk); (try clear hi)) | ((with_reducible refine gate_builtin (b := .append) (xs := #[.tmp 28, .tmp 34]) rfl ?_); at_builtin; refine Kd.R_append k31 (w0 := w) w.heap.size rfl (.tmp 28) (.tmp 34) 25 31 (.agg #[(.int .i64 0), (.int .i64 0)]) 16 rfl Try.underlying25 info31 rfl (by decide) (by omega) u7 x7_2 (⟨t373, t376⟩ : S31) [.int .i64 t373, .int .i64 t376] (fun _ => True) (fun _ => False) rfl rfl ?aP (fun _ hk => hk.elim) ?aF ?aO ?aB ?aS ?aL ?_; (case aP => exact k31_mkM _ _ _ (⟨t373, t376⟩ : S31)); (case aB => exact z8_4); (case aF => exact (fun _ _ => trivial)); (case aO => exact z8_29); (case aS => exact (below_size z8_4)); (case aL => have := LMc21.out; omega); intro v380 w25 ho hb hg hat; rw [← Ny379.out] at ho; have n0_ := Aside0.mk (Kd.R_over' z8_21 (Kd.R_typed z8_29) (by decide) hg); have n1_ := Aside0.mk (IsS55.grown z8_5 hg (IsS55.own_ne HI359.out HO_7.out (by decide))); have n2_ := Aside0.mk (hb); have n3_ := Aside0.mk (ho); clear HO_5; clear HI359; clear HB; clear HO_7; have HO_5 := n0_; have HI359 := n1_; have HB := n2_; have HO381 := n3_; clear n0_ n1_ n2_ n3_; clear ho hb hg hat))
                  go_roundg k2
                  case measure => have := HK1.out; have := HK2.out; omega
                  case rel => exact ⟨(y379), (wrap64 (x8_2 + 1)), (t377), (t378), z8_15, H', ⟨by have := HK1.out; have := HK2.out; omega⟩, ⟨by (with_reducible repeat (first | apply Kd.R_alloc | apply Kd.R_drewN | apply Kd.R_drew)); exact HO_5.out⟩, ⟨by (with_reducible repeat (first | apply Kd.R_alloc | apply Kd.R_drewN | apply Kd.R_drew)); exact HO381.out⟩, ⟨by repeat (first | (with_reducible first | exact HI359.out | apply IsS55.alloc | apply IsS55.drewN | apply IsS55.drew | apply IsS55.set_1 | apply IsS55.set_2) | exact HI359.out)⟩, ⟨by repeat (first | (with_reducible first | exact HB.out | apply below_alloc | apply pw_below_drewN | apply below_drew1 | refine below_set ?_ (IsS55.ge HI359.out)) | exact HB.out)⟩⟩
                · rw [if_neg c21] at H
                  exact absurd H (by simp)
              · rw [if_neg c18] at H
                have c18b0 : decide (x8_2 < t370) = false := decide_eq_false c18
                clear c18
                simp only [Option.some.injEq, Prod.mk.injEq] at H
                obtain ⟨rfl, rfl⟩ := H
                go_wp2_with (first | ((first | ((with_reducible refine gate_callee (f := 24) rfl ?_); refine goesL_ (some 24) rfl rfl Try.func24 z8_23 rfl #[.pointer (some ⟨g359, 0, none⟩), .int .i64 9] rfl z8_1 ?_; (with_reducible refine (spec_l01Below.calls g359 t356 x360001_2 x360002_2 9 t370 t371 t372 w _ ?side1 ?side2 A17.out).mono ?_)) | (go_at_call 24; (with_reducible refine (spec_l01Below.calls g359 t356 x360001_2 x360002_2 9 t370 t371 t372 w _ ?side1 ?side2 A17.out).mono ?_))); (case side1 => exact z8_5); (case side2 => exact z8_4); rintro e w26 ⟨rfl, hi, hb, hk⟩; (first | refine ⟨_, rfl, ?_⟩ | skip); have n0_ := Aside0.mk (Kd.R_mono (Kd.R_keep (IsS55.apart (show IsS55 w _ g359 t356 x360001_2 x360002_2 from by repeat (first | (with_reducible first | exact HI359.out | apply IsS55.alloc | apply IsS55.drewN | apply IsS55.drew | apply IsS55.set_1 | apply IsS55.set_2) | exact HI359.out)) z8_21 (by decide)) hk (fun _ h => h.2)) (fun _ h => h.1)); have n1_ := Aside0.mk (Kd.R_mono (Kd.R_keep (IsS55.apart (show IsS55 w _ g359 t356 x360001_2 x360002_2 from by repeat (first | (with_reducible first | exact HI359.out | apply IsS55.alloc | apply IsS55.drewN | apply IsS55.drew | apply IsS55.set_1 | apply IsS55.set_2) | exact HI359.out)) z8_29 (by decide)) hk (fun _ h => h.2)) (fun _ h => h.1)); have n2_ := Aside0.mk (hb); have n3_ := Aside0.mk (hi); clear HO_5; clear HO_7; clear HB; clear HI359; have HO_5 := n0_; have HO_7 := n1_; have HB := n2_; have HI359 := n3_; clear n0_ n1_ n2_ n3_; (try clear hb); (try clear hb2); (try clear hk); (try clear hi)))
                go_ret2
                exact ⟨_, _, by first | rfl | (simp [errW_none, errW_some] <;> rfl) | (simp [*, errW_none, errW_some] <;> rfl) | (simp [*, errW_none, errW_some, i64_w]; done), by (with_reducible repeat (first | apply Kd.R_alloc | apply Kd.R_drewN | apply Kd.R_drew)); exact HO_5.out, by (with_reducible repeat (first | apply Kd.R_alloc | apply Kd.R_drewN | apply Kd.R_drew)); exact HO_7.out, by repeat (first | (with_reducible first | exact HB.out | apply below_alloc | apply pw_below_drewN | apply below_drew1 | refine below_set ?_ (IsS55.ge HI359.out)) | exact HB.out)⟩
  · rw [if_neg c3] at H
    exact absurd H (by simp)

/-! ### laws_has: function 9 -/
def laws_has.l0 : Nat → List Int → Int → Int → Option (Bool)
  | 0, _, _, _ => none
  | k + 1, x0, x1, x5 => if x5 < (x0.length : Int) then (if 0 ≤ x5 then (if (rd x0 x5) = x1 then (some true) else (laws_has.l0 k x0 x1 (wrap64 (x5 + 1)))) else (none)) else (some false)
def laws_has.f (k : Nat) (l0 : List Int) (a1 : Int) : Option (Bool) := laws_has.l0 k l0 a1 0
theorem laws_has.mono_l : ∀ k, (∀ y0 y1 y2, LeO (laws_has.l0 k y0 y1 y2) (laws_has.l0 (k + 1) y0 y1 y2))
  | 0 => fun _ _ _ r h => by simp [laws_has.l0] at h
  | k + 1 => by
    have ih0 := laws_has.mono_l k
    · intro y0 y1 y2
      unfold laws_has.l0
      repeat' first
      | (with_reducible exact ih0 _ _ _)
      | (with_reducible exact LeO.refl _)
      | (with_reducible exact LeO.none _)
      | (with_reducible refine LeO.ite ?_ ?_)
      | (with_reducible refine LeO.bind ?_ (fun _ => ?_))
      | exact ih0 _ _ _
      | exact LeO.none _
      | refine LeO.ite ?_ ?_
      | refine LeO.bind ?_ (fun _ => ?_)
theorem laws_has.mono : ∀ a0 a1 k, LeO (laws_has.f k a0 a1) (laws_has.f (k + 1) a0 a1) := by
  intro a0 a1 k
  have ih0 := laws_has.mono_l k
  unfold laws_has.f
  repeat' first
      | (with_reducible exact ih0 _ _ _)
      | (with_reducible exact LeO.refl _)
      | (with_reducible exact LeO.none _)
      | (with_reducible refine LeO.ite ?_ ?_)
      | (with_reducible refine LeO.bind ?_ (fun _ => ?_))
      | exact ih0 _ _ _
      | exact LeO.none _
      | refine LeO.ite ?_ ?_
      | refine LeO.bind ?_ (fun _ => ?_)
set_option maxHeartbeats 8000000 in
set_option maxRecDepth 100000 in
theorem laws_has.calls (k : Nat) (A0 : Option Addr) (c0 : Nat) (l0 : List Int) (a1 : Int) (r : Bool) (w : World) (hr0 : Kd.C (Kd.int .i64) w A0 l0.length l0) (hc0 : l0.length ≤ c0) (h : laws_has.f k l0 a1 = some r) :
    Calls Try.prog 9 #[.slice A0 l0.length c0, .int .i64 a1] w fun e w' => e = .returned (.bool r) ∧ Drawn0 w w' := by
  have HR0 := Aside0.mk hr0
  have HC0 := Aside0.mk hc0
  clear hr0 hc0
  have H : (laws_has.l0 k l0 a1 0) = some r := h
  clear h
  have H' := Aside0.mk H
  clear H
  go_enter Try.func9, Try.ntmps9
  go_wp2
  go_loopg [5] k (fun kq v5 w' => ∃ (x5_1 : Int), v5 = .int .i64 x5_1 ∧ Aside0 (laws_has.l0 kq l0 a1 x5_1 = some r) ∧ Aside0 (kq ≤ k) ∧ Drawn0 w w')
  case atStart => exact ⟨(0), z8_15, H', ⟨Nat.le_refl _⟩, by repeat (first | exact Drawn0.refl _ | apply Drawn0.step)⟩
  case round =>
    clear H'
    obtain ⟨x5_1, rfl, HA, HK1, ⟨m1, rfl⟩⟩ := hrel
    cases gk with
    | zero => exact absurd HA.out (by simp [laws_has.l0])
    | succ k1 =>
      have H := HA.out
      clear HA
      simp only [laws_has.l0] at H
      by_cases c3 : x5_1 < (l0.length : Int)
      · rw [if_pos c3] at H
        have c3b0 : decide (x5_1 < (l0.length : Int)) = true := decide_eq_true c3
        clear c3
        by_cases c4 : 0 ≤ x5_1
        · rw [if_pos c4] at H
          have c4b0 : decide (0 ≤ x5_1) = true := decide_eq_true c4
          clear c4
          by_cases c5 : (rd l0 x5_1) = a1
          · rw [if_pos c5] at H
            have c5b0 : ((rd l0 x5_1) == a1) = true := beq_iff_eq.mpr c5
            have c5b1 : ((rd l0 x5_1) != a1) = false := bne_eq_false_iff_eq.mpr c5
            clear c5
            obtain rfl := Option.some.inj H
            have p382 : 0 ≤ (x5_1 : Int) := of_decide_eq_true z8_11
            have q382 : x5_1 < (l0.length : Int) := of_decide_eq_true z8_11
            obtain ⟨ad382, e382, hx382_0⟩ := Kd.at_int HR0.out x5_1 p382 q382
            cases e382
            replace p382 := eq_true p382
            replace q382 := eq_true q382
            go_wp2
            go_ret
            exact ⟨by first | rfl | (simp; done) | (simp [*]; done), by repeat (first | exact Drawn0.refl _ | apply Drawn0.step)⟩
          · rw [if_neg c5] at H
            have c5b0 : ((rd l0 x5_1) == a1) = false := beq_eq_false_iff_ne.mpr c5
            have c5b1 : ((rd l0 x5_1) != a1) = true := bne_iff_ne.mpr c5
            have H' := Aside0.mk H
            clear H
            have p382 : 0 ≤ (x5_1 : Int) := of_decide_eq_true z8_11
            have q382 : x5_1 < (l0.length : Int) := of_decide_eq_true z8_11
            obtain ⟨ad382, e382, hx382_0⟩ := Kd.at_int HR0.out x5_1 p382 q382
            cases e382
            replace p382 := eq_true p382
            replace q382 := eq_true q382
            go_wp2
            go_roundg k1
            case measure => have := HK1.out; omega
            case rel => exact ⟨(wrap64 (x5_1 + 1)), z8_15, H', ⟨by have := HK1.out; omega⟩, by repeat (first | exact Drawn0.refl _ | apply Drawn0.step)⟩
        · rw [if_neg c4] at H
          exact absurd H (by simp)
      · rw [if_neg c3] at H
        have c3b0 : decide (x5_1 < (l0.length : Int)) = false := decide_eq_false c3
        clear c3
        obtain rfl := Option.some.inj H
        go_wp2
        go_ret
        exact ⟨by first | rfl | (simp; done) | (simp [*]; done), by repeat (first | exact Drawn0.refl _ | apply Drawn0.step)⟩

/-! ### spec_DrawPlaces: function 10 -/
def spec_DrawPlaces.l0 : Nat → List Int → Int → List Int → Int → Int → Option (List Int)
  | 0, _, _, _, _, _ => none
  | k + 1, x4, x5, x387000, x387001, x387002 => if x5 < 12 then ((spec_l01Below.f x387000 x387001 x387002 10000).bind fun bt390 => (if x4.length < 17592186044416 then (spec_DrawPlaces.l0 k (x4 ++ [bt390.1]) (wrap64 (x5 + 1)) x387000 bt390.2.1 bt390.2.2) else (none))) else (some x4)
def spec_DrawPlaces.f (k : Nat) (l0 : List Int) : Option (List Int) := (spec_l01New.f k l0).bind fun bt383 => (spec_DrawPlaces.l0 k (([] : List Int)) 0 bt383.1 bt383.2.1 bt383.2.2)
theorem spec_DrawPlaces.mono_l : ∀ k, (∀ y0 y1 y2 y3 y4, LeO (spec_DrawPlaces.l0 k y0 y1 y2 y3 y4) (spec_DrawPlaces.l0 (k + 1) y0 y1 y2 y3 y4))
  | 0 => fun _ _ _ _ _ r h => by simp [spec_DrawPlaces.l0] at h
  | k + 1 => by
    have ih0 := spec_DrawPlaces.mono_l k
    · intro y0 y1 y2 y3 y4
      unfold spec_DrawPlaces.l0
      repeat' first
      | (with_reducible exact ih0 _ _ _ _ _)
      | (with_reducible exact spec_l01New.mono _ _)
      | (with_reducible exact LeO.refl _)
      | (with_reducible exact LeO.none _)
      | (with_reducible refine LeO.ite ?_ ?_)
      | (with_reducible refine LeO.bind ?_ (fun _ => ?_))
      | exact ih0 _ _ _ _ _
      | exact spec_l01New.mono _ _
      | exact LeO.none _
      | refine LeO.ite ?_ ?_
      | refine LeO.bind ?_ (fun _ => ?_)
theorem spec_DrawPlaces.mono : ∀ a0 k, LeO (spec_DrawPlaces.f k a0) (spec_DrawPlaces.f (k + 1) a0) := by
  intro a0 k
  have ih0 := spec_DrawPlaces.mono_l k
  unfold spec_DrawPlaces.f
  repeat' first
      | (with_reducible exact ih0 _ _ _ _ _)
      | (with_reducible exact spec_l01New.mono _ _)
      | (with_reducible exact LeO.refl _)
      | (with_reducible exact LeO.none _)
      | (with_reducible refine LeO.ite ?_ ?_)
      | (with_reducible refine LeO.bind ?_ (fun _ => ?_))
      | exact ih0 _ _ _ _ _
      | exact spec_l01New.mono _ _
      | exact LeO.none _
      | refine LeO.ite ?_ ?_
      | refine LeO.bind ?_ (fun _ => ?_)
set_option maxHeartbeats 8000000 in
set_option maxRecDepth 100000 in
theorem spec_DrawPlaces.calls (k : Nat) (A0 : Option Addr) (c0 : Nat) (l0 : List Int) (r : List Int) (w : World) (hr0 : Kd.C (Kd.int .u8) w A0 l0.length l0) (hc0 : l0.length ≤ c0) (h : spec_DrawPlaces.f k l0 = some r) :
    Calls Try.prog 10 #[.slice A0 l0.length c0] w fun e w' => ∃ v0_ : Value, e = .returned (v0_) ∧ Kd.R (Kd.int .i64) 3 w' w.heap.size (fun _ => True) v0_ r ∧ Below w.heap.size w w' := by
  have HR0 := Aside0.mk hr0
  have HC0 := Aside0.mk hc0
  clear hr0 hc0
  have HB := Aside0.mk (Below.refl w.heap.size w)
  have H : ((spec_l01New.f k l0).bind fun bt383 => (spec_DrawPlaces.l0 k (([] : List Int)) 0 bt383.1 bt383.2.1 bt383.2.2)) = some r := h
  clear h
  replace H := Option.bind_eq_some_iff.mp H
  obtain ⟨⟨t383, t384, t385⟩, A20, H⟩ := H
  replace H : (spec_DrawPlaces.l0 k (([] : List Int)) 0 t383 t384 t385) = some r := H
  have A2 := Aside0.mk A20
  clear A20
  obtain ⟨y387, hy387⟩ : ∃ y_ : List Int, y_ = (([] : List Int)) := ⟨_, rfl⟩
  replace H : (spec_DrawPlaces.l0 k y387 0 t383 t384 t385) = some r := by first | (rw [hy387]; with_reducible exact H) | (have H2_ := (Option.bind_some _ _).symm.trans H; rw [hy387]; with_reducible exact H2_) | (have H2_ := (Option.bind_some _ _).symm.trans H; with_reducible exact H2_) | with_reducible exact H | (rw [hy387]; exact H) | exact H
  have Ny387 := Aside0.mk hy387
  clear hy387
  have H' := Aside0.mk H
  clear H
  go_enter Try.func10, Try.ntmps10
  go_wp2_with (first | ((first | ((with_reducible refine gate_callee (f := 23) rfl ?_); refine goesL_ (some 7) rfl rfl Try.func23 z8_23 rfl #[.slice A0 l0.length c0] rfl z8_1 ?_; (with_reducible refine (spec_l01New.calls k _ _ l0 t383 t384 t385 w _ ?side1 ?side2 ?side3 A2.out).mono ?_)) | (go_at_call 23; (with_reducible refine (spec_l01New.calls k _ _ l0 t383 t384 t385 w _ ?side1 ?side2 ?side3 A2.out).mono ?_))); (case side1 => exact z8_0); (case side2 => exact HR0.out); (case side3 => exact z8_37); rintro e w3 ⟨g386, rfl, hi, hb, hb2⟩; (first | refine ⟨_, rfl, ?_⟩ | skip); have n0_ := Aside0.mk (hb); have n1_ := Aside0.mk (hi); clear HB; have HB := n0_; have HI386 := n1_; clear n0_ n1_; (try clear hb); (try clear hb2); (try clear hk); (try clear hi)) | ((with_reducible refine gate_dst (N := 8) rfl ?_); refine Kd.R_lit (Kd.int .i64) _ 3 ?hg (N := 8) ?hd (xs := ([] : List Int)) (inner := []) (ok := fun _ => True) (okp := fun _ => True) ?hr ?hp (fun _ hk => hk) trivial (Below.refl _ _) (Nat.le_refl _) (by simp) ?_; (case hd => rfl); (case hg => rfl); (case hr => exact z8_36); (case hp => exact (Reps.none _ _)); intro v388 w4 ho5 hb hg_ hnew_; clear hg_ hnew_; (first | rw [← Ny387.out] at ho5 | (simp only [Int.reduceToNat] at ho5; rw [← Ny387.out] at ho5)); have n0_ := Aside0.mk (Kd.R_lower ho5 (below_size z8_16)); have n1_ := Aside0.mk (IsS55.below z8_32 hb); have n2_ := Aside0.mk (below_step z8_16 hb); clear HI386; clear HB; have HO389 := n0_; have HI386 := n1_; have HB := n2_; clear n0_ n1_ n2_; clear hb ho5))
  go_loopg [4, 5] k (fun kq v4 v5 w' => ∃ (x4_1 : List Int) (x5_1 : Int) (x387001_1 : Int) (x387002_1 : Int), v5 = .int .i64 x5_1 ∧ Aside0 (spec_DrawPlaces.l0 kq x4_1 x5_1 t383 x387001_1 x387002_1 = some r) ∧ Aside0 (kq ≤ k) ∧ Aside0 (Kd.R (Kd.int .i64) 3 w' w.heap.size (fun _ => True) v4 x4_1) ∧ Aside0 (IsS55 w w' g386 t383 x387001_1 x387002_1) ∧ Aside0 (Below w.heap.size w w'))
  case atStart => exact ⟨(y387), (0), (t384), (t385), z8_15, H', ⟨Nat.le_refl _⟩, ⟨by (with_reducible repeat (first | apply Kd.R_alloc | apply Kd.R_drewN | apply Kd.R_drew)); exact HO389.out⟩, ⟨by repeat (first | (with_reducible first | exact HI386.out | apply IsS55.alloc | apply IsS55.drewN | apply IsS55.drew | apply IsS55.set_1 | apply IsS55.set_2) | exact HI386.out)⟩, ⟨by repeat (first | (with_reducible first | exact HB.out | apply below_alloc | apply pw_below_drewN | apply below_drew1 | refine below_set ?_ (IsS55.ge HI386.out)) | exact HB.out)⟩⟩
  case round =>
    clear H'
    obtain ⟨x4_1, x5_1, x387001_1, x387002_1, rfl, HA, HK1, HO_4, HI386, HB⟩ := hrel
    cases gk with
    | zero => exact absurd HA.out (by simp [spec_DrawPlaces.l0])
    | succ k1 =>
      have H := HA.out
      clear HA
      simp only [spec_DrawPlaces.l0] at H
      by_cases c6 : x5_1 < 12
      · rw [if_pos c6] at H
        have c6b0 : decide (x5_1 < 12) = true := decide_eq_true c6
        clear c6
        replace H := Option.bind_eq_some_iff.mp H
        obtain ⟨⟨t390, t391, t392⟩, A70, H⟩ := H
        replace H : (if x4_1.length < 17592186044416 then (spec_DrawPlaces.l0 k1 (x4_1 ++ [t390]) (wrap64 (x5_1 + 1)) t383 t391 t392) else (none)) = some r := H
        have A7 := Aside0.mk A70
        clear A70
        by_cases c8 : x4_1.length < 17592186044416
        · rw [if_pos c8] at H
          have LMc8 := Aside0.mk c8
          clear c8
          obtain ⟨y393, hy393⟩ : ∃ y_ : List Int, y_ = (x4_1 ++ [t390]) := ⟨_, rfl⟩
          replace H : (spec_DrawPlaces.l0 k1 y393 (wrap64 (x5_1 + 1)) t383 t391 t392) = some r := by first | (rw [hy393]; with_reducible exact H) | (have H2_ := (Option.bind_some _ _).symm.trans H; rw [hy393]; with_reducible exact H2_) | (have H2_ := (Option.bind_some _ _).symm.trans H; with_reducible exact H2_) | with_reducible exact H | (rw [hy393]; exact H) | exact H
          have Ny393 := Aside0.mk hy393
          clear hy393
          have H' := Aside0.mk H
          clear H
          go_wp2_with (first | ((first | ((with_reducible refine gate_callee (f := 24) rfl ?_); refine goesL_ (some 15) rfl rfl Try.func24 z8_23 rfl #[.pointer (some ⟨g386, 0, none⟩), .int .i64 10000] rfl z8_1 ?_; (with_reducible refine (spec_l01Below.calls g386 t383 x387001_1 x387002_1 10000 t390 t391 t392 w _ ?side1 ?side2 A7.out).mono ?_)) | (go_at_call 24; (with_reducible refine (spec_l01Below.calls g386 t383 x387001_1 x387002_1 10000 t390 t391 t392 w _ ?side1 ?side2 A7.out).mono ?_))); (case side1 => exact z8_32); (case side2 => exact z8_16); rintro e w9 ⟨rfl, hi, hb, hk⟩; (first | refine ⟨_, rfl, ?_⟩ | skip); have n0_ := Aside0.mk (Kd.R_mono (Kd.R_keep (IsS55.apart (show IsS55 w _ g386 t383 x387001_1 x387002_1 from by repeat (first | (with_reducible first | exact HI386.out | apply IsS55.alloc | apply IsS55.drewN | apply IsS55.drew | apply IsS55.set_1 | apply IsS55.set_2) | exact HI386.out)) z8_7 (by decide)) hk (fun _ h => h.2)) (fun _ h => h.1)); have n1_ := Aside0.mk (hb); have n2_ := Aside0.mk (hi); clear HO_4; clear HB; clear HI386; have HO_4 := n0_; have HB := n1_; have HI386 := n2_; clear n0_ n1_ n2_; (try clear hb); (try clear hb2); (try clear hk); (try clear hi)) | ((with_reducible refine gate_builtin (b := .append) (xs := #[.tmp 13, .tmp 16]) rfl ?_); at_builtin; refine Kd.R_append (Kd.int .i64) (w0 := w) w.heap.size rfl (.tmp 13) (.tmp 16) 24 3 (.int .i64 0) 8 rfl Try.underlying24 info3 rfl (by decide) (by omega) u4 x4_1 t390 [.int .i64 t390] (fun _ => True) (fun _ => False) rfl rfl ?aP (fun _ hk => hk.elim) ?aF ?aO ?aB ?aS ?aL ?_; (case aP => exact rfl); (case aB => exact z8_16); (case aF => exact (fun _ _ => trivial)); (case aO => exact z8_7); (case aS => exact (below_size z8_16)); (case aL => have := LMc8.out; omega); intro v394 w10 ho hb hg hat; rw [← Ny393.out] at ho; have n0_ := Aside0.mk (IsS55.grown z8_32 hg (IsS55.own_ne HI386.out HO_4.out (by decide))); have n1_ := Aside0.mk (hb); have n2_ := Aside0.mk (ho); clear HI386; clear HB; clear HO_4; have HI386 := n0_; have HB := n1_; have HO395 := n2_; clear n0_ n1_ n2_; clear ho hb hg hat))
          go_roundg k1
          case measure => have := HK1.out; omega
          case rel => exact ⟨(y393), (wrap64 (x5_1 + 1)), (t391), (t392), z8_15, H', ⟨by have := HK1.out; omega⟩, ⟨by (with_reducible repeat (first | apply Kd.R_alloc | apply Kd.R_drewN | apply Kd.R_drew)); exact HO395.out⟩, ⟨by repeat (first | (with_reducible first | exact HI386.out | apply IsS55.alloc | apply IsS55.drewN | apply IsS55.drew | apply IsS55.set_1 | apply IsS55.set_2) | exact HI386.out)⟩, ⟨by repeat (first | (with_reducible first | exact HB.out | apply below_alloc | apply pw_below_drewN | apply below_drew1 | refine below_set ?_ (IsS55.ge HI386.out)) | exact HB.out)⟩⟩
        · rw [if_neg c8] at H
          exact absurd H (by simp)
      · rw [if_neg c6] at H
        have c6b0 : decide (x5_1 < 12) = false := decide_eq_false c6
        clear c6
        obtain rfl := Option.some.inj H
        go_wp2
        go_ret
        exact ⟨_, by first | rfl | (simp [errW_none, errW_some] <;> rfl) | (simp [*, errW_none, errW_some] <;> rfl) | (simp [*, errW_none, errW_some, i64_w]; done), by (with_reducible repeat (first | apply Kd.R_alloc | apply Kd.R_drewN | apply Kd.R_drew)); exact HO_4.out, by repeat (first | (with_reducible first | exact HB.out | apply below_alloc | apply pw_below_drewN | apply below_drew1 | refine below_set ?_ (IsS55.ge HI386.out)) | exact HB.out)⟩

/-! ### slices_Clone_int_int: function 27 -/
def slices_Clone_int_int.f (l0 : List Int) : Option (List Int) := if l0.length < 17592186044416 then some l0 else none
set_option maxHeartbeats 8000000 in
set_option maxRecDepth 100000 in
theorem slices_Clone_int_int.calls (A0 : Option Addr) (c0 : Nat) (l0 : List Int) (r : List Int) (w : World) (hr0 : Kd.C (Kd.int .i64) w A0 l0.length l0) (hc0 : l0.length ≤ c0) (h : slices_Clone_int_int.f l0 = some r) :
    Calls Try.prog 27 #[.slice A0 l0.length c0] w fun e w' => ∃ v0_ : Value, e = .returned (v0_) ∧ Kd.R (Kd.int .i64) 3 w' w.heap.size (fun _ => True) v0_ r ∧ Below w.heap.size w w' := by
  have HR0 := Aside0.mk hr0
  have HC0 := Aside0.mk hc0
  have HB := Aside0.mk (Below.refl w.heap.size w)
  unfold slices_Clone_int_int.f at h
  by_cases hl : l0.length < 17592186044416
  · rw [if_pos hl] at h
    obtain rfl := Option.some.inj h
    clear h
    obtain ⟨y0, hy0⟩ : ∃ y_ : List Int, y_ = ([] : List Int) := ⟨_, rfl⟩
    obtain ⟨y1, hy1⟩ : ∃ y_ : List Int, y_ = y0 ++ l0 := ⟨_, rfl⟩
    have hl2 : y0.length + l0.length < 17592186044416 := by
      rw [hy0]
      simpa using hl
    have e1 : y1 = l0 := by rw [hy1, hy0, List.nil_append]
    have LM := Aside0.mk hl2
    have N0 := Aside0.mk hy0
    have N1 := Aside0.mk hy1
    have E1 := Aside0.mk e1
    clear hl2 hy0 hy1 e1
    cases A0 with
    | none =>
      have l0e : l0 = [] := by
        cases l0 with
        | nil => rfl
        | cons x t =>
          obtain ⟨ad, e, _⟩ := hr0.2.2 (by simp)
          cases e
      subst l0e
      have he : ∀ w : World, (binOp .eql 24 (.slice none 0 c0) (.slice none 0 0)).run Try.prog w = .ok (.bool true) w := fun _ => rfl
      go_enter Try.func27, Try.ntmps27
      go_wp2
      go_ret
      exact ⟨_, rfl, Kd.R_nil _ _ _ _ _, HB.out⟩
    | some a0 =>
      have he : ∀ w : World, (binOp .eql 24 (.slice (some a0) l0.length c0) (.slice none 0 0)).run Try.prog w = .ok (.bool false) w := fun _ => rfl
      go_enter Try.func27, Try.ntmps27
      go_wp2_with (first | ((with_reducible refine gate_dst (N := 5) rfl ?_); refine Kd.R_lit (Kd.int .i64) _ 3 ?hg (N := 5) ?hd (xs := ([] : List Int)) (inner := []) (ok := fun _ => True) (okp := fun _ => True) ?hr ?hp (fun _ hk => hk) trivial (Below.refl _ _) (Nat.le_refl _) (by simp) ?_; (case hd => rfl); (case hg => rfl); (case hr => exact z8_36); (case hp => exact (Reps.none _ _)); intro v196 w5 ho6 hb hg_ hnew_; clear hg_ hnew_; rw [← N0.out] at ho6; have HO197 := Aside0.mk ho6; have n1_ := Aside0.mk (below_step HB.out hb); clear HB; have HB := n1_; clear n1_; clear hb ho6) | ((with_reducible refine gate_builtin (b := .append) (xs := #[.tmp 5, .tmp 6]) rfl ?_); at_builtin; refine Kd.R_append_rows (Kd.int .i64) (w0 := w) w.heap.size rfl (.tmp 5) (.tmp 6) 24 3 (.int .i64 0) 8 rfl Try.underlying24 info3 rfl (by decide) (by omega) v196 y0 l0 _ _ _ (fun _ => True) (fun _ => False) rfl rfl ?aO ?aR (fun _ _ h => h) (fun _ h => h.elim) ?aF ?aB ?aS ?aL ?_; (case aR => exact z8_12); (case aB => exact z8_0); (case aF => exact (fun _ _ => trivial)); (case aO => exact (by (with_reducible repeat (first | apply Kd.R_alloc | apply Kd.R_drewN | apply Kd.R_drew)); exact HO197.out)); (case aS => exact (below_size z8_0)); (case aL => have := LM.out; omega); intro v199 w7 ho hb hg hat; rw [← N1.out] at ho; have n0_ := Aside0.mk (hb); have n1_ := Aside0.mk (ho); clear HB; have HB := n0_; have HO200 := n1_; clear n0_ n1_; clear ho hb hg hat))
      go_ret
      exact ⟨_, rfl, by rw [← E1.out]; repeat (first | exact HO200.out | apply Kd.R_alloc | apply Kd.R_drewN | apply Kd.R_drew), by repeat (first | (with_reducible first | exact HB.out | apply below_alloc | apply pw_below_drewN | apply below_drew1) | exact HB.out)⟩
  · rw [if_neg hl] at h
    exact absurd h (by simp)

/-! ### impl_within: function 28 -/
def impl_within.f (a0 : Int) (a1 : Int) (a2 : Int) : Option (Bool) := if a0 ≥ a1 then (some (decide (a0 ≤ a2))) else (some false)
set_option maxHeartbeats 8000000 in
set_option maxRecDepth 100000 in
theorem impl_within.calls (a0 : Int) (a1 : Int) (a2 : Int) (r : Bool) (w : World) (h : impl_within.f a0 a1 a2 = some r) :
    Calls Try.prog 28 #[.int .i64 a0, .int .i64 a1, .int .i64 a2] w fun e w' => e = .returned (.bool r) ∧ Drawn0 w w' := by
  have H : (if a0 ≥ a1 then (some (decide (a0 ≤ a2))) else (some false)) = some r := h
  clear h
  by_cases c4 : a0 ≥ a1
  · rw [if_pos c4] at H
    have c4b0 : decide (a1 ≤ a0) = true := decide_eq_true c4
    clear c4
    obtain rfl := Option.some.inj H
    go_enter Try.func28, Try.ntmps28
    go_wp2
    go_ret
    exact ⟨by first | rfl | (simp; done) | (simp [*]; done), by repeat (first | exact Drawn0.refl _ | apply Drawn0.step)⟩
  · rw [if_neg c4] at H
    have c4b0 : decide (a1 ≤ a0) = false := decide_eq_false c4
    clear c4
    obtain rfl := Option.some.inj H
    go_enter Try.func28, Try.ntmps28
    go_wp2
    go_ret
    exact ⟨by first | rfl | (simp; done) | (simp [*]; done), by repeat (first | exact Drawn0.refl _ | apply Drawn0.step)⟩

/-! ### impl_WriteWord: function 11 -/
def impl_WriteWord.f (l0 : List Int) (a1_0 : Int) (a1_1 : Int) : Option (List Int) := (slices_Clone_int_int.f l0).bind fun t397 => ((impl_within.f a1_0 0 (wrap64 ((l0.length : Int) - 1))).bind fun t400 => (if t400 = true then (if 0 ≤ a1_0 then (if a1_0 < (t397.length : Int) then (some (t397.set (a1_0 : Int).toNat a1_1)) else (none)) else (none)) else (some t397)))
set_option maxHeartbeats 8000000 in
set_option maxRecDepth 100000 in
theorem impl_WriteWord.calls (A0 : Option Addr) (c0 : Nat) (l0 : List Int) (a1_0 : Int) (a1_1 : Int) (r : List Int) (w : World) (hr0 : Kd.C (Kd.int .i64) w A0 l0.length l0) (hc0 : l0.length ≤ c0) (h : impl_WriteWord.f l0 a1_0 a1_1 = some r) :
    Calls Try.prog 11 #[.slice A0 l0.length c0, .agg #[.int .i64 a1_0, .int .i64 a1_1]] w fun e w' => ∃ v0_ : Value, e = .returned (v0_) ∧ Kd.R (Kd.int .i64) 3 w' w.heap.size (fun _ => True) v0_ r ∧ Below w.heap.size w w' := by
  have hu31 := Try.underlying31
  have HR0 := Aside0.mk hr0
  have HC0 := Aside0.mk hc0
  clear hr0 hc0
  have HB := Aside0.mk (Below.refl w.heap.size w)
  have H : ((slices_Clone_int_int.f l0).bind fun t397 => ((impl_within.f a1_0 0 (wrap64 ((l0.length : Int) - 1))).bind fun t400 => (if t400 = true then (if 0 ≤ a1_0 then (if a1_0 < (t397.length : Int) then (some (t397.set (a1_0 : Int).toNat a1_1)) else (none)) else (none)) else (some t397)))) = some r := h
  clear h
  replace H := Option.bind_eq_some_iff.mp H
  obtain ⟨t397, A30, H⟩ := H
  replace H : ((impl_within.f a1_0 0 (wrap64 ((l0.length : Int) - 1))).bind fun t400 => (if t400 = true then (if 0 ≤ a1_0 then (if a1_0 < (t397.length : Int) then (some (t397.set (a1_0 : Int).toNat a1_1)) else (none)) else (none)) else (some t397))) = some r := H
  have A3 := Aside0.mk A30
  clear A30
  replace H := Option.bind_eq_some_iff.mp H
  obtain ⟨t400, A40, H⟩ := H
  replace H : (if t400 = true then (if 0 ≤ a1_0 then (if a1_0 < (t397.length : Int) then (some (t397.set (a1_0 : Int).toNat a1_1)) else (none)) else (none)) else (some t397)) = some r := H
  have A4 := Aside0.mk A40
  clear A40
  by_cases c5 : t400 = true
  · subst c5
    have H1 : (if 0 ≤ a1_0 then (if a1_0 < (t397.length : Int) then (some (t397.set (a1_0 : Int).toNat a1_1)) else (none)) else (none)) = some r := by rw [if_pos rfl] at H; exact H
    clear H
    have H := H1
    clear H1
    by_cases c6 : 0 ≤ a1_0
    · rw [if_pos c6] at H
      have c6b0 : decide (0 ≤ a1_0) = true := decide_eq_true c6
      clear c6
      by_cases c7 : a1_0 < (t397.length : Int)
      · rw [if_pos c7] at H
        have c7b0 : decide (a1_0 < (t397.length : Int)) = true := decide_eq_true c7
        clear c7
        obtain ⟨y401, hy401⟩ : ∃ y_ : List Int, y_ = (t397.set (a1_0 : Int).toNat a1_1) := ⟨_, rfl⟩
        replace H : (some y401) = some r := by first | (rw [hy401]; with_reducible exact H) | (have H2_ := (Option.bind_some _ _).symm.trans H; rw [hy401]; with_reducible exact H2_) | (have H2_ := (Option.bind_some _ _).symm.trans H; with_reducible exact H2_) | with_reducible exact H | (rw [hy401]; exact H) | exact H
        have Ny401 := Aside0.mk hy401
        clear hy401
        obtain rfl := Option.some.inj H
        go_enter Try.func11, Try.ntmps11
        go_wp2_with (first | ((with_reducible refine gate_dst (N := 3) rfl ?_); refine box_event ?hg (N := 3) ?hd (cs := #[.int .i64 a1_0, .int .i64 a1_1]) (t := 31) ?hr ?_; (case hd => rfl); (case hg => rfl); (case hr => exact z8_36); intro gb396 hg w9 hbox hb; have n0_ := Aside0.mk (below_step z8_0 hb); have n1_ := Aside0.mk (hbox); have n2_ := Aside0.mk ((by rw [hg]; exact (below_size z8_0) : w.heap.size ≤ gb396)); have n3_ := Aside0.mk ((by rw [hg]; exact (below_size z8_0) : w.heap.size ≤ gb396)); clear HB; have HB := n0_; have BK396 := n1_; have GW396 := n2_; have GE396 := n3_; clear n0_ n1_ n2_ n3_; clear hb hbox hg) | ((first | ((with_reducible refine gate_callee (f := 27) rfl ?_); refine goesL_ (some 7) rfl rfl Try.func27 z8_23 rfl #[.slice A0 l0.length c0] rfl z8_1 ?_; (with_reducible refine (slices_Clone_int_int.calls _ _ l0 t397 _ ?side1 ?side2 A3.out).mono ?_)) | (go_at_call 27; (with_reducible refine (slices_Clone_int_int.calls _ _ l0 t397 _ ?side1 ?side2 A3.out).mono ?_))); (case side1 => exact z8_12); (case side2 => exact z8_37); rintro e w10 ⟨v398, rfl, ho0, hb⟩; (first | refine ⟨_, rfl, ?_⟩ | skip); have n0_ := Aside0.mk (Kd.R_lower ho0 (below_size z8_20)); have n1_ := Aside0.mk (blk_below (g := gb396) (o := .cells #[.int .i64 a1_0, .int .i64 a1_1] 31 (0, 0)) z8_31 hb); have n2_ := Aside0.mk (below_step z8_20 hb); clear BK396; clear HB; have HO399 := n0_; have BK396 := n1_; have HB := n2_; clear n0_ n1_ n2_; (try clear hb); (try clear hb2); (try clear hk); (try clear hi); (try clear ho0); have hcz11_0 : w10.cell? ⟨gb396, 0, none⟩ = some (.int .i64 a1_0) := (blk_cell BK396.out 0).trans rfl; have hcz11_1 : w10.cell? ⟨gb396, 1, none⟩ = some (.int .i64 a1_1) := (blk_cell BK396.out 1).trans rfl; have hfz11_0 := blk_frozen BK396.out 0; have hfz11_1 := blk_frozen BK396.out 1) | ((first | ((with_reducible refine gate_callee (f := 28) rfl ?_); refine goesL_ (some 13) rfl rfl Try.func28 z8_23 rfl #[.int .i64 a1_0, .int .i64 0, .int .i64 (wrap64 ((l0.length : Int) - 1))] rfl z8_1 ?_; (with_reducible refine (impl_within.calls a1_0 0 (wrap64 ((l0.length : Int) - 1)) true _ A4.out).mono ?_)) | (go_at_call 28; (with_reducible refine (impl_within.calls a1_0 0 (wrap64 ((l0.length : Int) - 1)) true _ A4.out).mono ?_))); rintro e w' ⟨rfl, ⟨nd, rfl⟩⟩; (first | refine ⟨_, rfl, ?_⟩ | skip); (try (rw [drewN_self w10]; generalize hq_ : World.drewN w10 _ = w10; have n0_ : Aside0 (Kd.R (Kd.int .i64) 3 w10 w.heap.size (fun _ => True) v398 t397) := ⟨by rw [← hq_]; exact (by (with_reducible repeat (first | apply Kd.R_alloc | apply Kd.R_drewN | apply Kd.R_drew)); exact HO399.out)⟩; have n1_ : Aside0 (w10.heap[gb396]? = some (.cells #[.int .i64 a1_0, .int .i64 a1_1] 31 (0, 0))) := ⟨by rw [← hq_]; exact z8_31⟩; have n2_ : Aside0 (Below w.heap.size w w10) := ⟨by rw [← hq_]; exact z8_20⟩; clear HO399 BK396 HB hq_; have HO399 := n0_; have BK396 := n1_; have HB := n2_; clear n0_ n1_ n2_)); (try (have hcuz12_0 : w10.cell? ⟨gb396, 0, none⟩ = some (.int .i64 a1_0) := (blk_cell BK396.out 0).trans rfl; have hcuz12_1 : w10.cell? ⟨gb396, 1, none⟩ = some (.int .i64 a1_1) := (blk_cell BK396.out 1).trans rfl; have hfuz12_0 := blk_frozen BK396.out 0; have hfuz12_1 := blk_frozen BK396.out 1)); have p8 : 0 ≤ (a1_0 : Int) := of_decide_eq_true z8_11; have q8 : (a1_0 : Int) < ((t397.length : Int) : Int) := of_decide_eq_true z8_11; obtain ⟨go8, co8, eo8, gb8, gl8, cl8, HG8⟩ := Kd.R_form HO399.out (by omega); (first | cases eo8 | (injection eo8 with ea_ en_ ec_; (first | subst ea_ | (injection ea_ with ea_; subst ea_)); subst ec_; clear en_)); have GB8 := Aside0.mk gb8; have GG8 := Aside0.mk HG8; clear gb8 gl8 HG8; obtain ⟨hx8_0, hf8_0⟩ := Kd.R_celln 0 HO399.out (a1_0 : Int) p8 q8; replace p8 := eq_true p8; replace q8 := eq_true q8; obtain ⟨hy13_, hz13_⟩ := Kd.R_celln 0 HO399.out (a1_0 : Int) (of_decide_eq_true z8_11) (of_decide_eq_true z8_11); have HP13 := Kd.R_putg HO399.out (a1_0 : Int) a1_1) | ((with_reducible refine gate_store (t := 3) (p := 19) rfl ?_); refine store_event (t := 3) (p := 19) (v := ?vo_w14) (w1 := (w10.setCell ⟨go8, (a1_0 : Int).toNat, none⟩ (.int .i64 a1_1))) ?hg ?ho ?hn ?hr ?_; (case ho => rfl); (case hg => rfl); (case hn => rfl); (case hr => exact z8_36); intro w14 hw; have hg : w10.grownBy w14 (some go8) := (by rw [hw]; exact HP13.2); have hp_ : Kd.R (Kd.int .i64) 3 w14 w.heap.size (fun _ => True) (.slice (some ⟨go8, 0, none⟩) t397.length co8) y401 := (by rw [hw, Ny401.out]; exact HP13.1); clear HP13; have n0_ := Aside0.mk (blk_grown (g := gb396) (o := .cells #[.int .i64 a1_0, .int .i64 a1_1] 31 (0, 0)) z8_31 hg (Kd.R_ne HO399.out BK396.out (by decide))); have n1_ := Aside0.mk (hp_); have n2_ := Aside0.mk ((by rw [hw]; exact below_set (HB.out) GB8.out : Below w.heap.size w w14)); clear BK396; clear HO399; clear HB; have BK396 := n0_; have HO399 := n1_; have HB := n2_; clear n0_ n1_ n2_; clear hg hw hp_))
        go_ret
        exact ⟨_, by first | rfl | (simp [errW_none, errW_some] <;> rfl) | (simp [*, errW_none, errW_some] <;> rfl) | (simp [*, errW_none, errW_some, i64_w]; done), by (with_reducible repeat (first | apply Kd.R_alloc | apply Kd.R_drewN | apply Kd.R_drew)); exact HO399.out, by repeat (first | (with_reducible first | exact HB.out | apply below_alloc | apply pw_below_drewN | apply below_drew1 | refine below_set ?_ GE396.out) | exact HB.out)⟩
      · rw [if_neg c7] at H
        exact absurd H (by simp)
    · rw [if_neg c6] at H
      exact absurd H (by simp)
  · replace c5 := Bool.eq_false_iff.mpr c5
    subst c5
    have H1 : (some t397) = some r := by rw [if_neg (show ¬ (false = true) by decide)] at H; exact H
    clear H
    have H := H1
    clear H1
    obtain rfl := Option.some.inj H
    go_enter Try.func11, Try.ntmps11
    go_wp2_with (first | ((with_reducible refine gate_dst (N := 3) rfl ?_); refine box_event ?hg (N := 3) ?hd (cs := #[.int .i64 a1_0, .int .i64 a1_1]) (t := 31) ?hr ?_; (case hd => rfl); (case hg => rfl); (case hr => exact z8_36); intro gb396 hg w15 hbox hb; have n0_ := Aside0.mk (below_step z8_0 hb); have n1_ := Aside0.mk (hbox); have n2_ := Aside0.mk ((by rw [hg]; exact (below_size z8_0) : w.heap.size ≤ gb396)); have n3_ := Aside0.mk ((by rw [hg]; exact (below_size z8_0) : w.heap.size ≤ gb396)); clear HB; have HB := n0_; have BK396 := n1_; have GW396 := n2_; have GE396 := n3_; clear n0_ n1_ n2_ n3_; clear hb hbox hg) | ((first | ((with_reducible refine gate_callee (f := 27) rfl ?_); refine goesL_ (some 7) rfl rfl Try.func27 z8_23 rfl #[.slice A0 l0.length c0] rfl z8_1 ?_; (with_reducible refine (slices_Clone_int_int.calls _ _ l0 t397 _ ?side1 ?side2 A3.out).mono ?_)) | (go_at_call 27; (with_reducible refine (slices_Clone_int_int.calls _ _ l0 t397 _ ?side1 ?side2 A3.out).mono ?_))); (case side1 => exact z8_12); (case side2 => exact z8_37); rintro e w16 ⟨v398, rfl, ho0, hb⟩; (first | refine ⟨_, rfl, ?_⟩ | skip); have n0_ := Aside0.mk (Kd.R_lower ho0 (below_size z8_20)); have n1_ := Aside0.mk (blk_below (g := gb396) (o := .cells #[.int .i64 a1_0, .int .i64 a1_1] 31 (0, 0)) z8_31 hb); have n2_ := Aside0.mk (below_step z8_20 hb); clear BK396; clear HB; have HO399 := n0_; have BK396 := n1_; have HB := n2_; clear n0_ n1_ n2_; (try clear hb); (try clear hb2); (try clear hk); (try clear hi); (try clear ho0); have hcz17_0 : w16.cell? ⟨gb396, 0, none⟩ = some (.int .i64 a1_0) := (blk_cell BK396.out 0).trans rfl; have hcz17_1 : w16.cell? ⟨gb396, 1, none⟩ = some (.int .i64 a1_1) := (blk_cell BK396.out 1).trans rfl; have hfz17_0 := blk_frozen BK396.out 0; have hfz17_1 := blk_frozen BK396.out 1) | ((first | ((with_reducible refine gate_callee (f := 28) rfl ?_); refine goesL_ (some 13) rfl rfl Try.func28 z8_23 rfl #[.int .i64 a1_0, .int .i64 0, .int .i64 (wrap64 ((l0.length : Int) - 1))] rfl z8_1 ?_; (with_reducible refine (impl_within.calls a1_0 0 (wrap64 ((l0.length : Int) - 1)) false _ A4.out).mono ?_)) | (go_at_call 28; (with_reducible refine (impl_within.calls a1_0 0 (wrap64 ((l0.length : Int) - 1)) false _ A4.out).mono ?_))); rintro e w' ⟨rfl, ⟨nd, rfl⟩⟩; (first | refine ⟨_, rfl, ?_⟩ | skip)))
    go_ret
    exact ⟨_, by first | rfl | (simp [errW_none, errW_some] <;> rfl) | (simp [*, errW_none, errW_some] <;> rfl) | (simp [*, errW_none, errW_some, i64_w]; done), by (with_reducible repeat (first | apply Kd.R_alloc | apply Kd.R_drewN | apply Kd.R_drew)); exact HO399.out, by repeat (first | (with_reducible first | exact HB.out | apply below_alloc | apply pw_below_drewN | apply below_drew1 | refine below_set ?_ GE396.out) | exact HB.out)⟩

end Go.Proofs.Ytidciciagoecjaa.G
