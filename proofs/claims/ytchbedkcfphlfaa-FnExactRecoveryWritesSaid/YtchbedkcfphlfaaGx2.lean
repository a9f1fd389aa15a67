/- Functions of the program as plain Lean functions, and that each call comes to its function's answer; written by a program of the session. No condition. -/
import Derived.Test.YtchbedkcfphlfaaGx0
import Derived.Test.YtchbedkcfphlfaaGx1
namespace Go.Proofs.Ytchbedkcfphlfaa.G
open Go.RowKit Go.Proofs.YtchbedkcfphlfaaW.PrintWords Go.Proofs.YtchbedkcfphlfaaW.PrintLast Go.Proofs.YtchbedkcfphlfaaW.PrintMore
attribute [local go_sem] max2_int min2_int max_two min_two max_three min_three max_four min_four   -- for this text's walks alone
set_option linter.unusedVariables false
set_option linter.unusedSimpArgs false

/-! ### spec_UnpackControl: function 23 -/
def spec_UnpackControl.j0 : Nat → Int → Bool → Option (Int × Int × Int)
  | 0, _, _ => none
  | k + 1, x0, x13 => if x13 = true then (some ((-1), (-1), (-1))) else ((spec_PackControl.f (Int.tmod x0 8) (Int.tmod (wrap64 (Int.tdiv x0 8)) 16) (wrap64 (Int.tdiv x0 128))).bind fun t104 => (if t104 = x0 then (some (Int.tmod x0 8, Int.tmod (wrap64 (Int.tdiv x0 8)) 16, wrap64 (Int.tdiv x0 128))) else (some ((-1), (-1), (-1)))))
def spec_UnpackControl.f (k : Nat) (a0 : Int) : Option (Int × Int × Int) := if a0 < 0 then (spec_UnpackControl.j0 k a0 true) else (spec_UnpackControl.j0 k a0 (decide (a0 > 100000)))
theorem spec_UnpackControl.mono_l : ∀ k, (∀ y0 y1, LeO (spec_UnpackControl.j0 k y0 y1) (spec_UnpackControl.j0 (k + 1) y0 y1))
  | 0 => fun _ _ r h => by simp [spec_UnpackControl.j0] at h
  | k + 1 => by
    have ih0 := spec_UnpackControl.mono_l k
    · intro y0 y1
      unfold spec_UnpackControl.j0
      repeat' first
      | (with_reducible exact ih0 _ _)
      | (with_reducible exact LeO.refl _)
      | (with_reducible exact LeO.none _)
      | (with_reducible refine LeO.ite ?_ ?_)
      | (with_reducible refine LeO.bind ?_ (fun _ => ?_))
      | exact ih0 _ _
      | exact LeO.none _
      | refine LeO.ite ?_ ?_
      | refine LeO.bind ?_ (fun _ => ?_)
theorem spec_UnpackControl.mono : ∀ a0 k, LeO (spec_UnpackControl.f k a0) (spec_UnpackControl.f (k + 1) a0) := by
  intro a0 k
  have ih0 := spec_UnpackControl.mono_l k
  unfold spec_UnpackControl.f
  repeat' first
      | (with_reducible exact ih0 _ _)
      | (with_reducible exact LeO.refl _)
      | (with_reducible exact LeO.none _)
      | (with_reducible refine LeO.ite ?_ ?_)
      | (with_reducible refine LeO.bind ?_ (fun _ => ?_))
      | exact ih0 _ _
      | exact LeO.none _
      | refine LeO.ite ?_ ?_
      | refine LeO.bind ?_ (fun _ => ?_)
set_option maxHeartbeats 8000000 in
set_option maxRecDepth 100000 in
theorem spec_UnpackControl.calls (k : Nat) (a0 : Int) (r1 : Int) (r2 : Int) (r3 : Int) (w : World) (h : spec_UnpackControl.f k a0 = some (r1, r2, r3)) :
    Calls Try.prog 23 #[.int .i64 a0] w fun e w' => e = .returned (.tuple #[.int .i64 r1, .int .i64 r2, .int .i64 r3]) ∧ Drawn0 w w' := by
  have H : (if a0 < 0 then (spec_UnpackControl.j0 k a0 true) else (spec_UnpackControl.j0 k a0 (decide (a0 > 100000)))) = some (r1, r2, r3) := h
  clear h
  have HC2 := Aside0.mk H
  clear H
  go_enter Try.func23, Try.ntmps23
  go_upto_region 1 with (fail)
  go_cut [13] (fun v13 wc => ∃ (kq : Nat) (x13_1 : Bool), v13 = .bool x13_1 ∧ Aside0 (spec_UnpackControl.j0 kq a0 x13_1 = some (r1, r2, r3)) ∧ Aside0 (kq ≤ k) ∧ Drawn0 w wc)
  case first =>
    have H := HC2.out
    clear HC2
    by_cases c3 : a0 < 0
    · rw [if_pos c3] at H
      have c3b0 : decide (a0 < 0) = true := decide_eq_true c3
      clear c3
      (first | rw [c3b0] | (simp only [i64_w, i32_w]; rw [c3b0]) | skip)
      have H' := Aside0.mk H
      clear H
      go_wp2
      go_meet
      case rel => exact ⟨_, (true), (by first | rfl | (simp; done) | (simp [*]; done)), H', ⟨by first | omega | exact Nat.le_refl _⟩, by repeat (first | exact Drawn0.refl _ | apply Drawn0.step)⟩
    · rw [if_neg c3] at H
      have c3b0 : decide (a0 < 0) = false := decide_eq_false c3
      clear c3
      (first | rw [c3b0] | (simp only [i64_w, i32_w]; rw [c3b0]) | skip)
      have H' := Aside0.mk H
      clear H
      go_wp2
      go_meet
      case rel => exact ⟨_, (decide (a0 > 100000)), (by first | rfl | (simp; done) | (simp [*]; done)), H', ⟨by first | omega | exact Nat.le_refl _⟩, by repeat (first | exact Drawn0.refl _ | apply Drawn0.step)⟩
  case rest =>
    clear HC2
    obtain ⟨kq, x13_1, rfl, HA, HJ1, ⟨mc1, rfl⟩⟩ := hcut
    cases kq with
    | zero => exact absurd HA.out (by simp [spec_UnpackControl.j0])
    | succ kj1 =>
      have H := HA.out
      clear HA
      simp only [spec_UnpackControl.j0] at H
      by_cases c4 : x13_1 = true
      · subst c4
        have H1 : (some ((-1), (-1), (-1))) = some (r1, r2, r3) := by rw [if_pos rfl] at H; exact H
        clear H
        have H := H1
        clear H1
        simp only [Option.some.injEq, Prod.mk.injEq] at H
        obtain ⟨rfl, rfl, rfl⟩ := H
        go_wp2
        go_ret3
        exact ⟨by first | rfl | (simp; done) | (simp [*]; done), by repeat (first | exact Drawn0.refl _ | apply Drawn0.step)⟩
      · replace c4 := Bool.eq_false_iff.mpr c4
        subst c4
        have H1 : ((spec_PackControl.f (Int.tmod a0 8) (Int.tmod (wrap64 (Int.tdiv a0 8)) 16) (wrap64 (Int.tdiv a0 128))).bind fun t104 => (if t104 = a0 then (some (Int.tmod a0 8, Int.tmod (wrap64 (Int.tdiv a0 8)) 16, wrap64 (Int.tdiv a0 128))) else (some ((-1), (-1), (-1))))) = some (r1, r2, r3) := by rw [if_neg (show ¬ (false = true) by decide)] at H; exact H
        clear H
        have H := H1
        clear H1
        replace H := Option.bind_eq_some_iff.mp H
        obtain ⟨t104, A50, H⟩ := H
        replace H : (if t104 = a0 then (some (Int.tmod a0 8, Int.tmod (wrap64 (Int.tdiv a0 8)) 16, wrap64 (Int.tdiv a0 128))) else (some ((-1), (-1), (-1)))) = some (r1, r2, r3) := H
        have A5 := Aside0.mk A50
        clear A50
        by_cases c6 : t104 = a0
        · rw [if_pos c6] at H
          have c6b0 : (t104 == a0) = true := beq_iff_eq.mpr c6
          have c6b1 : (t104 != a0) = false := bne_eq_false_iff_eq.mpr c6
          clear c6
          simp only [Option.some.injEq, Prod.mk.injEq] at H
          obtain ⟨rfl, rfl, rfl⟩ := H
          go_wp2_with (first | ((first | ((with_reducible refine gate_callee (f := 25) rfl ?_); refine goesL_ (some 24) rfl rfl Try.func25 (by kernel_rfl) rfl #[.int .i64 (Int.tmod a0 8), .int .i64 (Int.tmod (wrap64 (Int.tdiv a0 8)) 16), .int .i64 (wrap64 (Int.tdiv a0 128))] rfl (by (try simp only [List.map_toArray, List.map_cons, List.map_nil]); first | done | rfl | (simp only [List.length_drop, List.length_take]; rfl)) ?_; (with_reducible refine (spec_PackControl.calls (Int.tmod a0 8) (Int.tmod (wrap64 (Int.tdiv a0 8)) 16) (wrap64 (Int.tdiv a0 128)) t104 _ A5.out).mono ?_)) | (go_at_call 25; (with_reducible refine (spec_PackControl.calls (Int.tmod a0 8) (Int.tmod (wrap64 (Int.tdiv a0 8)) 16) (wrap64 (Int.tdiv a0 128)) t104 _ A5.out).mono ?_))); rintro e w' ⟨rfl, ⟨nd, rfl⟩⟩; (first | refine ⟨_, rfl, ?_⟩ | skip)))
          go_ret3
          exact ⟨by first | rfl | (simp; done) | (simp [*]; done), by repeat (first | exact Drawn0.refl _ | apply Drawn0.step)⟩
        · rw [if_neg c6] at H
          have c6b0 : (t104 == a0) = false := beq_eq_false_iff_ne.mpr c6
          have c6b1 : (t104 != a0) = true := bne_iff_ne.mpr c6
          simp only [Option.some.injEq, Prod.mk.injEq] at H
          obtain ⟨rfl, rfl, rfl⟩ := H
          go_wp2_with (first | ((first | ((with_reducible refine gate_callee (f := 25) rfl ?_); refine goesL_ (some 24) rfl rfl Try.func25 (by kernel_rfl) rfl #[.int .i64 (Int.tmod a0 8), .int .i64 (Int.tmod (wrap64 (Int.tdiv a0 8)) 16), .int .i64 (wrap64 (Int.tdiv a0 128))] rfl (by (try simp only [List.map_toArray, List.map_cons, List.map_nil]); first | done | rfl | (simp only [List.length_drop, List.length_take]; rfl)) ?_; (with_reducible refine (spec_PackControl.calls (Int.tmod a0 8) (Int.tmod (wrap64 (Int.tdiv a0 8)) 16) (wrap64 (Int.tdiv a0 128)) t104 _ A5.out).mono ?_)) | (go_at_call 25; (with_reducible refine (spec_PackControl.calls (Int.tmod a0 8) (Int.tmod (wrap64 (Int.tdiv a0 8)) 16) (wrap64 (Int.tdiv a0 128)) t104 _ A5.out).mono ?_))); rintro e w' ⟨rfl, ⟨nd, rfl⟩⟩; (first | refine ⟨_, rfl, ?_⟩ | skip)))
          go_ret3
          exact ⟨by first | rfl | (simp; done) | (simp [*]; done), by repeat (first | exact Drawn0.refl _ | apply Drawn0.step)⟩

end Go.Proofs.Ytchbedkcfphlfaa.G
