/- Functions of the program as plain Lean functions, and that each call comes to its function's answer; written by a program of the session. No condition. -/
import Derived.Test.YtchbedkcfphlfaaGx0
import Derived.Test.YtchbedkcfphlfaaGx1
import Derived.Test.YtchbedkcfphlfaaGx2
namespace Go.Proofs.Ytchbedkcfphlfaa.G
open Go.RowKit Go.Proofs.YtchbedkcfphlfaaW.PrintWords Go.Proofs.YtchbedkcfphlfaaW.PrintLast Go.Proofs.YtchbedkcfphlfaaW.PrintMore
attribute [local go_sem] max2_int min2_int max_two min_two max_three min_three max_four min_four   -- for this text's walks alone
set_option linter.unusedVariables false
set_option linter.unusedSimpArgs false

theorem z3_0 {P : Prop} (h : P := by repeat (first | (with_reducible first | exact HB.out | apply below_alloc | apply pw_below_drewN | apply below_drew1) | exact HB.out)) : P := h
theorem z3_1 {P : Prop} (h : P := by (with_reducible repeat (first | apply Kd.R_alloc | apply Kd.R_drewN | apply Kd.R_drew)); exact HO_3.out) : P := h
theorem z3_2 {P : Prop} (h : P := by first | (with_reducible assumption) | assumption) : P := h
/-! ### spec_RecoveryWrites: function 6 -/
def spec_RecoveryWrites.l0 : Nat → List Int → List (S47) → Int → Int → Int → Int → Option ((List (S47)))
  | 0, _, _, _, _, _, _ => none
  | k + 1, x0, x3, x4, x5, x6, x7 => if x7 ≥ 0 then (if 0 ≤ (wrap64 (9 + (wrap64 (2 * x7)))) then (if (wrap64 (9 + (wrap64 (2 * x7)))) < (x0.length : Int) then ((spec_l01In.f (rd x0 (wrap64 (9 + (wrap64 (2 * x7))))) 0 7).bind fun t113 => (if t113 = true then (if 0 ≤ (wrap64 ((wrap64 (9 + (wrap64 (2 * x7)))) + 1)) then (if (wrap64 ((wrap64 (9 + (wrap64 (2 * x7)))) + 1)) < (x0.length : Int) then (if x3.length < 8796093022208 then (spec_RecoveryWrites.l0 k x0 (x3 ++ [(⟨rd x0 (wrap64 (9 + (wrap64 (2 * x7)))), rd x0 (wrap64 ((wrap64 (9 + (wrap64 (2 * x7)))) + 1))⟩ : S47)]) x4 x5 x6 (wrap64 (x7 - 1))) else (none)) else (none)) else (none)) else (some (([] : List (S47)))))) else (none)) else (none)) else (if x5 ≤ 0 then (some x3) else ((spec_PackControl.f x4 0 x6).bind fun t121 => (if x3.length < 8796093022208 then (some (x3 ++ [(⟨8, t121⟩ : S47)])) else (none))))
def spec_RecoveryWrites.f (k : Nat) (l0 : List Int) : Option ((List (S47))) := (some (([] : List (S47)) : List (S47))).bind fun y105 => (if (l0.length : Int) = 49 then (if 8 < (l0.length : Int) then ((spec_UnpackControl.f k (rd l0 8)).bind fun bt109 => (spec_RecoveryWrites.l0 k l0 y105 bt109.1 bt109.2.1 bt109.2.2 (wrap64 (bt109.2.1 - 1)))) else (none)) else (some y105))
theorem spec_RecoveryWrites.mono_l : ∀ k, (∀ y0 y1 y2 y3 y4 y5, LeO (spec_RecoveryWrites.l0 k y0 y1 y2 y3 y4 y5) (spec_RecoveryWrites.l0 (k + 1) y0 y1 y2 y3 y4 y5))
  | 0 => fun _ _ _ _ _ _ r h => by simp [spec_RecoveryWrites.l0] at h
  | k + 1 => by
    have ih0 := spec_RecoveryWrites.mono_l k
    · intro y0 y1 y2 y3 y4 y5
      unfold spec_RecoveryWrites.l0
      repeat' first
      | (with_reducible exact ih0 _ _ _ _ _ _)
      | (with_reducible exact spec_UnpackControl.mono _ _)
      | (with_reducible exact LeO.refl _)
      | (with_reducible exact LeO.none _)
      | (with_reducible refine LeO.ite ?_ ?_)
      | (with_reducible refine LeO.bind ?_ (fun _ => ?_))
      | exact ih0 _ _ _ _ _ _
      | exact spec_UnpackControl.mono _ _
      | exact LeO.none _
      | refine LeO.ite ?_ ?_
      | refine LeO.bind ?_ (fun _ => ?_)
theorem spec_RecoveryWrites.mono : ∀ a0 k, LeO (spec_RecoveryWrites.f k a0) (spec_RecoveryWrites.f (k + 1) a0) := by
  intro a0 k
  have ih0 := spec_RecoveryWrites.mono_l k
  unfold spec_RecoveryWrites.f
  repeat' first
      | (with_reducible exact ih0 _ _ _ _ _ _)
      | (with_reducible exact spec_UnpackControl.mono _ _)
      | (with_reducible exact LeO.refl _)
      | (with_reducible exact LeO.none _)
      | (with_reducible refine LeO.ite ?_ ?_)
      | (with_reducible refine LeO.bind ?_ (fun _ => ?_))
      | exact ih0 _ _ _ _ _ _
      | exact spec_UnpackControl.mono _ _
      | exact LeO.none _
      | refine LeO.ite ?_ ?_
      | refine LeO.bind ?_ (fun _ => ?_)
set_option maxHeartbeats 8000000 in
set_option maxRecDepth 100000 in
theorem spec_RecoveryWrites.calls (k : Nat) (A0 : Option Addr) (c0 : Nat) (l0 : List Int) (r : List (S47)) (w : World) (hr0 : Kd.C (Kd.int .i64) w A0 l0.length l0) (hc0 : l0.length ≤ c0) (h : spec_RecoveryWrites.f k l0 = some r) :
    Calls Try.prog 6 #[.slice A0 l0.length c0] w fun e w' => ∃ v0_ : Value, e = .returned (v0_) ∧ Kd.R k47 47 w' w.heap.size (fun _ => True) v0_ r ∧ Below w.heap.size w w' := by
  have hu47 := Try.underlying47
  have HR0 := Aside0.mk hr0
  have HC0 := Aside0.mk hc0
  clear hr0 hc0
  have HB := Aside0.mk (Below.refl w.heap.size w)
  have H : ((some (([] : List (S47)) : List (S47))).bind fun y105 => (if (l0.length : Int) = 49 then (if 8 < (l0.length : Int) then ((spec_UnpackControl.f k (rd l0 8)).bind fun bt109 => (spec_RecoveryWrites.l0 k l0 y105 bt109.1 bt109.2.1 bt109.2.2 (wrap64 (bt109.2.1 - 1)))) else (none)) else (some y105))) = some r := h
  clear h
  obtain ⟨y105, hy105⟩ : ∃ y_ : List (S47), y_ = (([] : List (S47))) := ⟨_, rfl⟩
  replace H : (if (l0.length : Int) = 49 then (if 8 < (l0.length : Int) then ((spec_UnpackControl.f k (rd l0 8)).bind fun bt109 => (spec_RecoveryWrites.l0 k l0 y105 bt109.1 bt109.2.1 bt109.2.2 (wrap64 (bt109.2.1 - 1)))) else (none)) else (some y105)) = some r := by first | (rw [hy105]; with_reducible exact H) | (have H2_ := (Option.bind_some _ _).symm.trans H; rw [hy105]; with_reducible exact H2_) | (have H2_ := (Option.bind_some _ _).symm.trans H; with_reducible exact H2_) | with_reducible exact H | (rw [hy105]; exact H) | exact H
  have Ny105 := Aside0.mk hy105
  clear hy105
  by_cases c2 : (l0.length : Int) = 49
  · rw [if_pos c2] at H
    have c2b0 : ((l0.length : Int) == 49) = true := beq_iff_eq.mpr c2
    have c2b1 : ((l0.length : Int) != 49) = false := bne_eq_false_iff_eq.mpr c2
    clear c2
    by_cases c3 : 8 < (l0.length : Int)
    · rw [if_pos c3] at H
      have c3b0 : decide (8 < (l0.length : Int)) = true := decide_eq_true c3
      have c3b1 : decide (8 < l0.length) = true := decide_eq_true (by omega)
      clear c3
      replace H := Option.bind_eq_some_iff.mp H
      obtain ⟨⟨t109, t110, t111⟩, A40, H⟩ := H
      replace H : (spec_RecoveryWrites.l0 k l0 y105 t109 t110 t111 (wrap64 (t110 - 1))) = some r := H
      have A4 := Aside0.mk A40
      clear A40
      have H' := Aside0.mk H
      clear H
      go_enter Try.func6, Try.ntmps6
      go_wp2_with (first | ((with_reducible refine gate_dst (N := 9) rfl ?_); refine Kd.R_lit k47 _ 47 ?hg (N := 9) ?hd (xs := ([] : List (S47))) (inner := []) (ok := fun _ => True) (okp := fun _ => True) ?hr ?hp (fun _ hk => hk) trivial (Below.refl _ _) (Nat.le_refl _) (by simp) ?_; (case hd => rfl); (case hg => rfl); (case hr => first | (go_simp; done) | (go_simp; rfl)); (case hp => exact (Reps.none _ _)); intro v106 w5 ho6 hb hg_ hnew_; clear hg_ hnew_; (first | rw [← Ny105.out] at ho6 | (simp only [Int.reduceToNat] at ho6; rw [← Ny105.out] at ho6)); have n0_ := Aside0.mk (Kd.R_lower ho6 (below_size z3_0)); have n1_ := Aside0.mk (below_step z3_0 hb); clear HB; have HO107 := n0_; have HB := n1_; clear n0_ n1_; clear hb ho6; have p108 : 0 ≤ (8 : Int) := (by omega); have q108 : 8 < (l0.length : Int) := of_decide_eq_true z3_2; obtain ⟨ad108, e108, hx108_0⟩ := Kd.at_int HR0.out 8 p108 q108; cases e108; (try simp only [show (8 : Int).toNat = 8 from rfl, Nat.reduceMul, Nat.reduceEqDiff, Go.Addr.add, ↓reduceIte] at hx108_0); have qi108 : (8 < l0.length) = True := eq_true (by omega); (try rw [show ((8 : Int)).toNat = 8 from rfl] at hx108_0); replace hx108_0 := (HB.out.cell (World.block_lt_of_cell? w _ hx108_0)).trans hx108_0; replace p108 := eq_true p108; replace q108 := eq_true q108) | ((first | ((with_reducible refine gate_callee (f := 23) rfl ?_); refine goesL_ (some 18) rfl rfl Try.func23 (by kernel_rfl) rfl #[.int .i64 (rd l0 8)] rfl (by (try simp only [List.map_toArray, List.map_cons, List.map_nil]); first | done | rfl | (simp only [List.length_drop, List.length_take]; rfl)) ?_; (with_reducible refine (spec_UnpackControl.calls k (rd l0 8) t109 t110 t111 _ A4.out).mono ?_)) | (go_at_call 23; (with_reducible refine (spec_UnpackControl.calls k (rd l0 8) t109 t110 t111 _ A4.out).mono ?_))); rintro e w' ⟨rfl, ⟨nd, rfl⟩⟩; (first | refine ⟨_, rfl, ?_⟩ | skip)))
      go_loopg [3, 7] k (fun kq v3 v7 w' => ∃ (x3_1 : List (S47)) (x7_1 : Int), v7 = .int .i64 x7_1 ∧ Aside0 (spec_RecoveryWrites.l0 kq l0 x3_1 t109 t110 t111 x7_1 = some r) ∧ Aside0 (kq ≤ k) ∧ Aside0 (Kd.R k47 47 w' w.heap.size (fun _ => True) v3 x3_1) ∧ Aside0 (Below w.heap.size w w'))
      case atStart => exact ⟨(y105), (wrap64 (t110 - 1)), (by first | rfl | (simp; done) | (simp [*]; done)), H', ⟨Nat.le_refl _⟩, ⟨by (with_reducible repeat (first | apply Kd.R_alloc | apply Kd.R_drewN | apply Kd.R_drew)); exact HO107.out⟩, ⟨by repeat (first | (with_reducible first | exact HB.out | apply below_alloc | apply pw_below_drewN | apply below_drew1) | exact HB.out)⟩⟩
      case round =>
        clear H'
        (try clear c2); (try clear c2b0); (try clear c2b1); (try clear c3); (try clear c3b0); (try clear c3b1); (try clear hx108_0); (try clear p108); (try clear q108)
        obtain ⟨x3_1, x7_1, rfl, HA, HK1, HO_3, HB⟩ := hrel
        cases gk with
        | zero => exact absurd HA.out (by simp [spec_RecoveryWrites.l0])
        | succ k1 =>
          have H := HA.out
          clear HA
          simp only [spec_RecoveryWrites.l0] at H
          by_cases c7 : x7_1 ≥ 0
          · rw [if_pos c7] at H
            have c7b0 : decide (0 ≤ x7_1) = true := decide_eq_true c7
            clear c7
            obtain ⟨ji8, hji8⟩ : ∃ j_ : Int, (wrap64 (9 + (wrap64 (2 * x7_1)))) = j_ := ⟨_, rfl⟩
            replace H : (if 0 ≤ (ji8) then (if (ji8) < (l0.length : Int) then ((spec_l01In.f (rd l0 (ji8)) 0 7).bind fun t113 => (if t113 = true then (if 0 ≤ (wrap64 ((ji8) + 1)) then (if (wrap64 ((ji8) + 1)) < (l0.length : Int) then (if x3_1.length < 8796093022208 then (spec_RecoveryWrites.l0 k1 l0 (x3_1 ++ [(⟨rd l0 (ji8), rd l0 (wrap64 ((ji8) + 1))⟩ : S47)]) t109 t110 t111 (wrap64 (x7_1 - 1))) else (none)) else (none)) else (none)) else (some (([] : List (S47)))))) else (none)) else (none)) = some r := by first | (rw [hji8] at H; exact H) | (simp only [hji8] at H ⊢; exact H)
            have hji8w : (IntKind.i64.wrap (9 + (wrap64 (2 * x7_1)))) = ji8 := (i64_w _).trans hji8
            by_cases c9 : 0 ≤ (ji8)
            · rw [if_pos c9] at H
              have c9b0 : decide (0 ≤ (ji8)) = true := decide_eq_true c9
              clear c9
              by_cases c10 : (ji8) < (l0.length : Int)
              · rw [if_pos c10] at H
                have c10b0 : decide ((ji8) < (l0.length : Int)) = true := decide_eq_true c10
                clear c10
                replace H := Option.bind_eq_some_iff.mp H
                obtain ⟨t113, A110, H⟩ := H
                replace H : (if t113 = true then (if 0 ≤ (wrap64 ((ji8) + 1)) then (if (wrap64 ((ji8) + 1)) < (l0.length : Int) then (if x3_1.length < 8796093022208 then (spec_RecoveryWrites.l0 k1 l0 (x3_1 ++ [(⟨rd l0 (ji8), rd l0 (wrap64 ((ji8) + 1))⟩ : S47)]) t109 t110 t111 (wrap64 (x7_1 - 1))) else (none)) else (none)) else (none)) else (some (([] : List (S47))))) = some r := H
                have A11 := Aside0.mk A110
                clear A110
                by_cases c12 : t113 = true
                · subst c12
                  have H1 : (if 0 ≤ (wrap64 ((ji8) + 1)) then (if (wrap64 ((ji8) + 1)) < (l0.length : Int) then (if x3_1.length < 8796093022208 then (spec_RecoveryWrites.l0 k1 l0 (x3_1 ++ [(⟨rd l0 (ji8), rd l0 (wrap64 ((ji8) + 1))⟩ : S47)]) t109 t110 t111 (wrap64 (x7_1 - 1))) else (none)) else (none)) else (none)) = some r := by rw [if_pos rfl] at H; exact H
                  clear H
                  have H := H1
                  clear H1
                  obtain ⟨ji13, hji13⟩ : ∃ j_ : Int, (wrap64 ((ji8) + 1)) = j_ := ⟨_, rfl⟩
                  replace H : (if 0 ≤ (ji13) then (if (ji13) < (l0.length : Int) then (if x3_1.length < 8796093022208 then (spec_RecoveryWrites.l0 k1 l0 (x3_1 ++ [(⟨rd l0 (ji8), rd l0 (ji13)⟩ : S47)]) t109 t110 t111 (wrap64 (x7_1 - 1))) else (none)) else (none)) else (none)) = some r := by first | (rw [hji13] at H; exact H) | (simp only [hji13] at H ⊢; exact H)
                  (try rw [hji13] at A11)
                  have hji13w : (IntKind.i64.wrap ((ji8) + 1)) = ji13 := (i64_w _).trans hji13
                  by_cases c14 : 0 ≤ (ji13)
                  · rw [if_pos c14] at H
                    have c14b0 : decide (0 ≤ (ji13)) = true := decide_eq_true c14
                    clear c14
                    by_cases c15 : (ji13) < (l0.length : Int)
                    · rw [if_pos c15] at H
                      have c15b0 : decide ((ji13) < (l0.length : Int)) = true := decide_eq_true c15
                      clear c15
                      by_cases c16 : x3_1.length < 8796093022208
                      · rw [if_pos c16] at H
                        have LMc16 := Aside0.mk c16
                        clear c16
                        obtain ⟨y115, hy115⟩ : ∃ y_ : List (S47), y_ = (x3_1 ++ [(⟨rd l0 (ji8), rd l0 (ji13)⟩ : S47)]) := ⟨_, rfl⟩
                        replace H : (spec_RecoveryWrites.l0 k1 l0 y115 t109 t110 t111 (wrap64 (x7_1 - 1))) = some r := by first | (rw [hy115]; with_reducible exact H) | (have H2_ := (Option.bind_some _ _).symm.trans H; rw [hy115]; with_reducible exact H2_) | (have H2_ := (Option.bind_some _ _).symm.trans H; with_reducible exact H2_) | with_reducible exact H | (rw [hy115]; exact H) | exact H
                        have Ny115 := Aside0.mk hy115
                        clear hy115
                        have H' := Aside0.mk H
                        clear H
                        have p112 : 0 ≤ ((ji8) : Int) := of_decide_eq_true z3_2
                        have q112 : (ji8) < (l0.length : Int) := of_decide_eq_true z3_2
                        obtain ⟨ad112, e112, hx112_0⟩ := Kd.at_int HR0.out (ji8) p112 q112
                        obtain rfl : ad108 = ad112 := (by injection e112)
                        replace hx112_0 := (HB.out.cell (World.block_lt_of_cell? w _ hx112_0)).trans hx112_0
                        replace p112 := eq_true p112
                        replace q112 := eq_true q112
                        go_wp2_with (first | ((first | ((with_reducible refine gate_callee (f := 24) rfl ?_); refine goesL_ (some 35) rfl rfl Try.func24 (by kernel_rfl) rfl #[.int .i64 (rd l0 (ji8)), .int .i64 0, .int .i64 7] rfl (by (try simp only [List.map_toArray, List.map_cons, List.map_nil]); first | done | (simp only [hji8]; rfl) | rfl | (simp only [List.length_drop, List.length_take]; rfl)) ?_; (with_reducible refine (spec_l01In.calls (rd l0 (ji8)) 0 7 true _ A11.out).mono ?_)) | (go_at_call 24; (with_reducible refine (spec_l01In.calls (rd l0 (ji8)) 0 7 true _ A11.out).mono ?_))); rintro e w' ⟨rfl, ⟨nd, rfl⟩⟩; (first | refine ⟨_, rfl, ?_⟩ | skip); have p114 : 0 ≤ ((ji13) : Int) := of_decide_eq_true z3_2; have q114 : (ji13) < (l0.length : Int) := of_decide_eq_true z3_2; obtain ⟨ad114, e114, hx114_0⟩ := Kd.at_int HR0.out (ji13) p114 q114; obtain rfl : ad108 = ad114 := (by injection e114); replace hx114_0 := (HB.out.cell (World.block_lt_of_cell? w _ hx114_0)).trans hx114_0; replace p114 := eq_true p114; replace q114 := eq_true q114) | ((with_reducible refine gate_builtin (b := .append) (xs := #[.tmp 38, .tmp 48]) rfl ?_); at_builtin; refine Kd.R_append k47 (w0 := w) w.heap.size rfl (.tmp 38) (.tmp 48) 23 47 (.agg #[(.int .i64 0), (.int .i64 0)]) 16 rfl Try.underlying23 info47 rfl (by decide) (by omega) u3 x3_1 (⟨rd l0 (ji8), rd l0 (ji13)⟩ : S47) [.int .i64 (rd l0 (ji8)), .int .i64 (rd l0 (ji13))] (fun _ => True) (fun _ => False) rfl rfl ?aP (fun _ hk => hk.elim) ?aF ?aO ?aB ?aS ?aL ?_; (case aP => exact k47_mkM _ _ _ (⟨rd l0 (ji8), rd l0 (ji13)⟩ : S47)); (case aB => exact z3_0); (case aF => exact (fun _ _ => trivial)); (case aO => exact z3_1); (case aS => exact (below_size z3_0)); (case aL => have := LMc16.out; omega); intro v116 w17 ho hb hg hat; rw [← Ny115.out] at ho; have n0_ := Aside0.mk (hb); have n1_ := Aside0.mk (ho); clear HB; clear HO_3; have HB := n0_; have HO117 := n1_; clear n0_ n1_; clear ho hb hg hat))
                        go_roundg k1
                        case measure => have := HK1.out; omega
                        case rel => exact ⟨(y115), (wrap64 (x7_1 - 1)), (by first | rfl | (simp; done) | (simp [*]; done)), H', ⟨by have := HK1.out; omega⟩, ⟨by (with_reducible repeat (first | apply Kd.R_alloc | apply Kd.R_drewN | apply Kd.R_drew)); exact HO117.out⟩, ⟨by repeat (first | (with_reducible first | exact HB.out | apply below_alloc | apply pw_below_drewN | apply below_drew1) | exact HB.out)⟩⟩
                      · rw [if_neg c16] at H
                        exact absurd H (by simp)
                    · rw [if_neg c15] at H
                      exact absurd H (by simp)
                  · rw [if_neg c14] at H
                    exact absurd H (by simp)
                · replace c12 := Bool.eq_false_iff.mpr c12
                  subst c12
                  have H1 : (some (([] : List (S47)))) = some r := by rw [if_neg (show ¬ (false = true) by decide)] at H; exact H
                  clear H
                  have H := H1
                  clear H1
                  obtain ⟨y118, hy118⟩ : ∃ y_ : List (S47), y_ = (([] : List (S47))) := ⟨_, rfl⟩
                  replace H : (some y118) = some r := by first | (rw [hy118]; with_reducible exact H) | (have H2_ := (Option.bind_some _ _).symm.trans H; rw [hy118]; with_reducible exact H2_) | (have H2_ := (Option.bind_some _ _).symm.trans H; with_reducible exact H2_) | with_reducible exact H | (rw [hy118]; exact H) | exact H
                  have Ny118 := Aside0.mk hy118
                  clear hy118
                  obtain rfl := Option.some.inj H
                  have p112 : 0 ≤ ((ji8) : Int) := of_decide_eq_true z3_2
                  have q112 : (ji8) < (l0.length : Int) := of_decide_eq_true z3_2
                  obtain ⟨ad112, e112, hx112_0⟩ := Kd.at_int HR0.out (ji8) p112 q112
                  obtain rfl : ad108 = ad112 := (by injection e112)
                  replace hx112_0 := (HB.out.cell (World.block_lt_of_cell? w _ hx112_0)).trans hx112_0
                  replace p112 := eq_true p112
                  replace q112 := eq_true q112
                  go_wp2_with (first | ((first | ((with_reducible refine gate_callee (f := 24) rfl ?_); refine goesL_ (some 35) rfl rfl Try.func24 (by kernel_rfl) rfl #[.int .i64 (rd l0 (ji8)), .int .i64 0, .int .i64 7] rfl (by (try simp only [List.map_toArray, List.map_cons, List.map_nil]); first | done | (simp only [hji8]; rfl) | rfl | (simp only [List.length_drop, List.length_take]; rfl)) ?_; (with_reducible refine (spec_l01In.calls (rd l0 (ji8)) 0 7 false _ A11.out).mono ?_)) | (go_at_call 24; (with_reducible refine (spec_l01In.calls (rd l0 (ji8)) 0 7 false _ A11.out).mono ?_))); rintro e w' ⟨rfl, ⟨nd, rfl⟩⟩; (first | refine ⟨_, rfl, ?_⟩ | skip)) | ((with_reducible refine gate_dst (N := 37) rfl ?_); refine Kd.R_lit k47 _ 47 ?hg (N := 37) ?hd (xs := ([] : List (S47))) (inner := []) (ok := fun _ => True) (okp := fun _ => True) ?hr ?hp (fun _ hk => hk) trivial (Below.refl _ _) (Nat.le_refl _) (by simp) ?_; (case hd => rfl); (case hg => rfl); (case hr => first | (go_simp; done) | (go_simp; rfl)); (case hp => exact (Reps.none _ _)); intro v119 w18 ho19 hb hg_ hnew_; clear hg_ hnew_; (first | rw [← Ny118.out] at ho19 | (simp only [Int.reduceToNat] at ho19; rw [← Ny118.out] at ho19)); have n0_ := Aside0.mk (Kd.R_elder' z3_1 (Kd.R_base ho19) hb); have n1_ := Aside0.mk (Kd.R_lower (Kd.R_new' ho19 (Kd.R_lt z3_1)) (below_size z3_0)); have n2_ := Aside0.mk (below_step z3_0 hb); clear HO_3; clear HB; have HO_3 := n0_; have HO120 := n1_; have HB := n2_; clear n0_ n1_ n2_; clear hb ho19))
                  go_ret
                  exact ⟨_, by first | rfl | (simp [errW_none, errW_some] <;> rfl) | (simp only [← hji8]; first | rfl | (simp [errW_none, errW_some] <;> rfl)) | (simp [*, errW_none, errW_some] <;> rfl) | (simp [*, errW_none, errW_some, i64_w]; done), by (with_reducible repeat (first | apply Kd.R_alloc | apply Kd.R_drewN | apply Kd.R_drew)); exact Kd.R_mono HO120.out (fun _ hk => trivial), by repeat (first | (with_reducible first | exact HB.out | apply below_alloc | apply pw_below_drewN | apply below_drew1) | exact HB.out)⟩
              · rw [if_neg c10] at H
                exact absurd H (by simp)
            · rw [if_neg c9] at H
              exact absurd H (by simp)
          · rw [if_neg c7] at H
            have c7b0 : decide (0 ≤ x7_1) = false := decide_eq_false c7
            clear c7
            by_cases c20 : t110 ≤ 0
            · rw [if_pos c20] at H
              have c20b0 : decide (t110 ≤ 0) = true := decide_eq_true c20
              clear c20
              obtain rfl := Option.some.inj H
              go_wp2
              go_ret
              exact ⟨_, by first | rfl | (simp [errW_none, errW_some] <;> rfl) | (simp [*, errW_none, errW_some] <;> rfl) | (simp [*, errW_none, errW_some, i64_w]; done), by (with_reducible repeat (first | apply Kd.R_alloc | apply Kd.R_drewN | apply Kd.R_drew)); exact HO_3.out, by repeat (first | (with_reducible first | exact HB.out | apply below_alloc | apply pw_below_drewN | apply below_drew1) | exact HB.out)⟩
            · rw [if_neg c20] at H
              have c20b0 : decide (t110 ≤ 0) = false := decide_eq_false c20
              clear c20
              replace H := Option.bind_eq_some_iff.mp H
              obtain ⟨t121, A210, H⟩ := H
              replace H : (if x3_1.length < 8796093022208 then (some (x3_1 ++ [(⟨8, t121⟩ : S47)])) else (none)) = some r := H
              have A21 := Aside0.mk A210
              clear A210
              by_cases c22 : x3_1.length < 8796093022208
              · rw [if_pos c22] at H
                have LMc22 := Aside0.mk c22
                clear c22
                obtain ⟨y122, hy122⟩ : ∃ y_ : List (S47), y_ = (x3_1 ++ [(⟨8, t121⟩ : S47)]) := ⟨_, rfl⟩
                replace H : (some y122) = some r := by first | (rw [hy122]; with_reducible exact H) | (have H2_ := (Option.bind_some _ _).symm.trans H; rw [hy122]; with_reducible exact H2_) | (have H2_ := (Option.bind_some _ _).symm.trans H; with_reducible exact H2_) | with_reducible exact H | (rw [hy122]; exact H) | exact H
                have Ny122 := Aside0.mk hy122
                clear hy122
                obtain rfl := Option.some.inj H
                go_wp2_with (first | ((first | ((with_reducible refine gate_callee (f := 25) rfl ?_); refine goesL_ (some 56) rfl rfl Try.func25 (by kernel_rfl) rfl #[.int .i64 t109, .int .i64 0, .int .i64 t111] rfl (by (try simp only [List.map_toArray, List.map_cons, List.map_nil]); first | done | rfl | (simp only [List.length_drop, List.length_take]; rfl)) ?_; (with_reducible refine (spec_PackControl.calls t109 0 t111 t121 _ A21.out).mono ?_)) | (go_at_call 25; (with_reducible refine (spec_PackControl.calls t109 0 t111 t121 _ A21.out).mono ?_))); rintro e w' ⟨rfl, ⟨nd, rfl⟩⟩; (first | refine ⟨_, rfl, ?_⟩ | skip)) | ((with_reducible refine gate_builtin (b := .append) (xs := #[.tmp 53, .tmp 58]) rfl ?_); at_builtin; refine Kd.R_append k47 (w0 := w) w.heap.size rfl (.tmp 53) (.tmp 58) 23 47 (.agg #[(.int .i64 0), (.int .i64 0)]) 16 rfl Try.underlying23 info47 rfl (by decide) (by omega) u3 x3_1 (⟨8, t121⟩ : S47) [.int .i64 8, .int .i64 t121] (fun _ => True) (fun _ => False) rfl rfl ?aP (fun _ hk => hk.elim) ?aF ?aO ?aB ?aS ?aL ?_; (case aP => exact k47_mkM _ _ _ (⟨8, t121⟩ : S47)); (case aB => exact z3_0); (case aF => exact (fun _ _ => trivial)); (case aO => exact z3_1); (case aS => exact (below_size z3_0)); (case aL => have := LMc22.out; omega); intro v123 w23 ho hb hg hat; rw [← Ny122.out] at ho; have n0_ := Aside0.mk (hb); have n1_ := Aside0.mk (ho); clear HB; clear HO_3; have HB := n0_; have HO124 := n1_; clear n0_ n1_; clear ho hb hg hat))
                go_ret
                exact ⟨_, by first | rfl | (simp [errW_none, errW_some] <;> rfl) | (simp [*, errW_none, errW_some] <;> rfl) | (simp [*, errW_none, errW_some, i64_w]; done), by (with_reducible repeat (first | apply Kd.R_alloc | apply Kd.R_drewN | apply Kd.R_drew)); exact HO124.out, by repeat (first | (with_reducible first | exact HB.out | apply below_alloc | apply pw_below_drewN | apply below_drew1) | exact HB.out)⟩
              · rw [if_neg c22] at H
                exact absurd H (by simp)
    · rw [if_neg c3] at H
      exact absurd H (by simp)
  · rw [if_neg c2] at H
    have c2b0 : ((l0.length : Int) == 49) = false := beq_eq_false_iff_ne.mpr c2
    have c2b1 : ((l0.length : Int) != 49) = true := bne_iff_ne.mpr c2
    obtain rfl := Option.some.inj H
    go_enter Try.func6, Try.ntmps6
    go_wp2_with (first | ((with_reducible refine gate_dst (N := 9) rfl ?_); refine Kd.R_lit k47 _ 47 ?hg (N := 9) ?hd (xs := ([] : List (S47))) (inner := []) (ok := fun _ => True) (okp := fun _ => True) ?hr ?hp (fun _ hk => hk) trivial (Below.refl _ _) (Nat.le_refl _) (by simp) ?_; (case hd => rfl); (case hg => rfl); (case hr => first | (go_simp; done) | (go_simp; rfl)); (case hp => exact (Reps.none _ _)); intro v106 w24 ho25 hb hg_ hnew_; clear hg_ hnew_; (first | rw [← Ny105.out] at ho25 | (simp only [Int.reduceToNat] at ho25; rw [← Ny105.out] at ho25)); have n0_ := Aside0.mk (Kd.R_lower ho25 (below_size z3_0)); have n1_ := Aside0.mk (below_step z3_0 hb); clear HB; have HO107 := n0_; have HB := n1_; clear n0_ n1_; clear hb ho25))
    go_ret
    exact ⟨_, by first | rfl | (simp [errW_none, errW_some] <;> rfl) | (simp [*, errW_none, errW_some] <;> rfl) | (simp [*, errW_none, errW_some, i64_w]; done), by (with_reducible repeat (first | apply Kd.R_alloc | apply Kd.R_drewN | apply Kd.R_drew)); exact HO107.out, by repeat (first | (with_reducible first | exact HB.out | apply below_alloc | apply pw_below_drewN | apply below_drew1) | exact HB.out)⟩

end Go.Proofs.Ytchbedkcfphlfaa.G
