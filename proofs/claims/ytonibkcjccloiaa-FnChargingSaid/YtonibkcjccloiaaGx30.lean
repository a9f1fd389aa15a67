/- Functions of the program as plain Lean functions, and that each call comes to its function's answer; written by a program of the session. No condition. -/
import Derived.Test.YtonibkcjccloiaaGx0
import Derived.Test.YtonibkcjccloiaaGx2
namespace Go.Proofs.Ytonibkcjccloiaa.G
open Go.RowKit Go.Proofs.YtonibkcjccloiaaW.PrintWords Go.Proofs.YtonibkcjccloiaaW.PrintLast Go.Proofs.YtonibkcjccloiaaW.PrintMore
attribute [local go_sem] max2_int min2_int max_two min_two max_three min_three max_four min_four   -- for this text's walks alone
set_option linter.unusedVariables false
set_option linter.unusedSimpArgs false

/-! ### impl_PackControl: function 72 -/
def impl_PackControl.f (a0 : Int) (a1 : Int) (a2 : Int) : Option (Int) := (impl_within.f a0 0 5).bind fun t407 => (if t407 = true then ((impl_within.f a1 0 8).bind fun t408 => (if t408 = true then ((impl_within.f a2 0 24).bind fun t409 => (if t409 = true then (some (wrap64 (a0 + (wrap64 (8 * (wrap64 (a1 + (wrap64 (16 * a2))))))))) else (some (-1)))) else (some (-1)))) else (some (-1)))
set_option maxHeartbeats 8000000 in
set_option maxRecDepth 100000 in
theorem impl_PackControl.calls (a0 : Int) (a1 : Int) (a2 : Int) (r : Int) (w : World) (h : impl_PackControl.f a0 a1 a2 = some r) :
    Calls Try.prog 72 #[.int .i64 a0, .int .i64 a1, .int .i64 a2] w fun e w' => e = .returned (.int .i64 r) ∧ Drawn0 w w' := by
  have H : ((impl_within.f a0 0 5).bind fun t407 => (if t407 = true then ((impl_within.f a1 0 8).bind fun t408 => (if t408 = true then ((impl_within.f a2 0 24).bind fun t409 => (if t409 = true then (some (wrap64 (a0 + (wrap64 (8 * (wrap64 (a1 + (wrap64 (16 * a2))))))))) else (some (-1)))) else (some (-1)))) else (some (-1)))) = some r := h
  clear h
  replace H := Option.bind_eq_some_iff.mp H
  obtain ⟨t407, A40, H⟩ := H
  replace H : (if t407 = true then ((impl_within.f a1 0 8).bind fun t408 => (if t408 = true then ((impl_within.f a2 0 24).bind fun t409 => (if t409 = true then (some (wrap64 (a0 + (wrap64 (8 * (wrap64 (a1 + (wrap64 (16 * a2))))))))) else (some (-1)))) else (some (-1)))) else (some (-1))) = some r := H
  have A4 := Aside0.mk A40
  clear A40
  by_cases c5 : t407 = true
  · subst c5
    have H1 : ((impl_within.f a1 0 8).bind fun t408 => (if t408 = true then ((impl_within.f a2 0 24).bind fun t409 => (if t409 = true then (some (wrap64 (a0 + (wrap64 (8 * (wrap64 (a1 + (wrap64 (16 * a2))))))))) else (some (-1)))) else (some (-1)))) = some r := by rw [if_pos rfl] at H; exact H
    clear H
    have H := H1
    clear H1
    replace H := Option.bind_eq_some_iff.mp H
    obtain ⟨t408, A60, H⟩ := H
    replace H : (if t408 = true then ((impl_within.f a2 0 24).bind fun t409 => (if t409 = true then (some (wrap64 (a0 + (wrap64 (8 * (wrap64 (a1 + (wrap64 (16 * a2))))))))) else (some (-1)))) else (some (-1))) = some r := H
    have A6 := Aside0.mk A60
    clear A60
    by_cases c7 : t408 = true
    · subst c7
      have H1 : ((impl_within.f a2 0 24).bind fun t409 => (if t409 = true then (some (wrap64 (a0 + (wrap64 (8 * (wrap64 (a1 + (wrap64 (16 * a2))))))))) else (some (-1)))) = some r := by rw [if_pos rfl] at H; exact H
      clear H
      have H := H1
      clear H1
      replace H := Option.bind_eq_some_iff.mp H
      obtain ⟨t409, A80, H⟩ := H
      replace H : (if t409 = true then (some (wrap64 (a0 + (wrap64 (8 * (wrap64 (a1 + (wrap64 (16 * a2))))))))) else (some (-1))) = some r := H
      have A8 := Aside0.mk A80
      clear A80
      by_cases c9 : t409 = true
      · subst c9
        have H1 : (some (wrap64 (a0 + (wrap64 (8 * (wrap64 (a1 + (wrap64 (16 * a2))))))))) = some r := by rw [if_pos rfl] at H; exact H
        clear H
        have H := H1
        clear H1
        obtain rfl := Option.some.inj H
        go_enter Try.func72, Try.ntmps72
        go_wp2_with (first | ((first | ((with_reducible refine gate_callee (f := 48) rfl ?_); refine goesL_ (some 8) rfl rfl Try.func48 (by kernel_rfl) rfl #[.int .i64 a0, .int .i64 0, .int .i64 5] rfl (by (try simp only [List.map_toArray, List.map_cons, List.map_nil]); first | done | rfl | (simp only [List.length_drop, List.length_take]; rfl)) ?_; (with_reducible refine (impl_within.calls a0 0 5 true _ A4.out).mono ?_)) | (go_at_call 48; (with_reducible refine (impl_within.calls a0 0 5 true _ A4.out).mono ?_))); rintro e w' ⟨rfl, ⟨nd, rfl⟩⟩; (first | refine ⟨_, rfl, ?_⟩ | skip)) | (go_at_call 48; (with_reducible refine (impl_within.calls a1 0 8 true _ A6.out).mono ?_); rintro e w' ⟨rfl, ⟨nd, rfl⟩⟩) | (go_at_call 48; (with_reducible refine (impl_within.calls a2 0 24 true _ A8.out).mono ?_); rintro e w' ⟨rfl, ⟨nd, rfl⟩⟩))
        go_ret
        exact ⟨by first | rfl | (simp; done) | (simp [*]; done), by repeat (first | exact Drawn0.refl _ | apply Drawn0.step)⟩
      · replace c9 := Bool.eq_false_iff.mpr c9
        subst c9
        have H1 : (some (-1)) = some r := by rw [if_neg (show ¬ (false = true) by decide)] at H; exact H
        clear H
        have H := H1
        clear H1
        obtain rfl := Option.some.inj H
        go_enter Try.func72, Try.ntmps72
        go_wp2_with (first | ((first | ((with_reducible refine gate_callee (f := 48) rfl ?_); refine goesL_ (some 8) rfl rfl Try.func48 (by kernel_rfl) rfl #[.int .i64 a0, .int .i64 0, .int .i64 5] rfl (by (try simp only [List.map_toArray, List.map_cons, List.map_nil]); first | done | rfl | (simp only [List.length_drop, List.length_take]; rfl)) ?_; (with_reducible refine (impl_within.calls a0 0 5 true _ A4.out).mono ?_)) | (go_at_call 48; (with_reducible refine (impl_within.calls a0 0 5 true _ A4.out).mono ?_))); rintro e w' ⟨rfl, ⟨nd, rfl⟩⟩; (first | refine ⟨_, rfl, ?_⟩ | skip)) | (go_at_call 48; (with_reducible refine (impl_within.calls a1 0 8 true _ A6.out).mono ?_); rintro e w' ⟨rfl, ⟨nd, rfl⟩⟩) | (go_at_call 48; (with_reducible refine (impl_within.calls a2 0 24 false _ A8.out).mono ?_); rintro e w' ⟨rfl, ⟨nd, rfl⟩⟩))
        go_ret
        exact ⟨by first | rfl | (simp; done) | (simp [*]; done), by repeat (first | exact Drawn0.refl _ | apply Drawn0.step)⟩
    · replace c7 := Bool.eq_false_iff.mpr c7
      subst c7
      have H1 : (some (-1)) = some r := by rw [if_neg (show ¬ (false = true) by decide)] at H; exact H
      clear H
      have H := H1
      clear H1
      obtain rfl := Option.some.inj H
      go_enter Try.func72, Try.ntmps72
      go_wp2_with (first | ((first | ((with_reducible refine gate_callee (f := 48) rfl ?_); refine goesL_ (some 8) rfl rfl Try.func48 (by kernel_rfl) rfl #[.int .i64 a0, .int .i64 0, .int .i64 5] rfl (by (try simp only [List.map_toArray, List.map_cons, List.map_nil]); first | done | rfl | (simp only [List.length_drop, List.length_take]; rfl)) ?_; (with_reducible refine (impl_within.calls a0 0 5 true _ A4.out).mono ?_)) | (go_at_call 48; (with_reducible refine (impl_within.calls a0 0 5 true _ A4.out).mono ?_))); rintro e w' ⟨rfl, ⟨nd, rfl⟩⟩; (first | refine ⟨_, rfl, ?_⟩ | skip)) | (go_at_call 48; (with_reducible refine (impl_within.calls a1 0 8 false _ A6.out).mono ?_); rintro e w' ⟨rfl, ⟨nd, rfl⟩⟩))
      go_ret
      exact ⟨by first | rfl | (simp; done) | (simp [*]; done), by repeat (first | exact Drawn0.refl _ | apply Drawn0.step)⟩
  · replace c5 := Bool.eq_false_iff.mpr c5
    subst c5
    have H1 : (some (-1)) = some r := by rw [if_neg (show ¬ (false = true) by decide)] at H; exact H
    clear H
    have H := H1
    clear H1
    obtain rfl := Option.some.inj H
    go_enter Try.func72, Try.ntmps72
    go_wp2_with (first | ((first | ((with_reducible refine gate_callee (f := 48) rfl ?_); refine goesL_ (some 8) rfl rfl Try.func48 (by kernel_rfl) rfl #[.int .i64 a0, .int .i64 0, .int .i64 5] rfl (by (try simp only [List.map_toArray, List.map_cons, List.map_nil]); first | done | rfl | (simp only [List.length_drop, List.length_take]; rfl)) ?_; (with_reducible refine (impl_within.calls a0 0 5 false _ A4.out).mono ?_)) | (go_at_call 48; (with_reducible refine (impl_within.calls a0 0 5 false _ A4.out).mono ?_))); rintro e w' ⟨rfl, ⟨nd, rfl⟩⟩; (first | refine ⟨_, rfl, ?_⟩ | skip)))
    go_ret
    exact ⟨by first | rfl | (simp; done) | (simp [*]; done), by repeat (first | exact Drawn0.refl _ | apply Drawn0.step)⟩

/-! ### impl_UnpackControl: function 60 -/
def impl_UnpackControl.f (a0 : Int) : Option (Int × Int × Int) := if a0 < 0 then (some ((-1), (-1), (-1))) else ((impl_PackControl.f (Int.tmod a0 8) (Int.tmod (wrap64 (Int.tdiv a0 8)) 16) (wrap64 (Int.tdiv a0 128))).bind fun t410 => (if t410 = a0 then (some (Int.tmod a0 8, Int.tmod (wrap64 (Int.tdiv a0 8)) 16, wrap64 (Int.tdiv a0 128))) else (some ((-1), (-1), (-1)))))
set_option maxHeartbeats 8000000 in
set_option maxRecDepth 100000 in
theorem impl_UnpackControl.calls (a0 : Int) (r1 : Int) (r2 : Int) (r3 : Int) (w : World) (h : impl_UnpackControl.f a0 = some (r1, r2, r3)) :
    Calls Try.prog 60 #[.int .i64 a0] w fun e w' => e = .returned (.tuple #[.int .i64 r1, .int .i64 r2, .int .i64 r3]) ∧ Drawn0 w w' := by
  have H : (if a0 < 0 then (some ((-1), (-1), (-1))) else ((impl_PackControl.f (Int.tmod a0 8) (Int.tmod (wrap64 (Int.tdiv a0 8)) 16) (wrap64 (Int.tdiv a0 128))).bind fun t410 => (if t410 = a0 then (some (Int.tmod a0 8, Int.tmod (wrap64 (Int.tdiv a0 8)) 16, wrap64 (Int.tdiv a0 128))) else (some ((-1), (-1), (-1)))))) = some (r1, r2, r3) := h
  clear h
  by_cases c2 : a0 < 0
  · rw [if_pos c2] at H
    have c2b0 : decide (a0 < 0) = true := decide_eq_true c2
    clear c2
    simp only [Option.some.injEq, Prod.mk.injEq] at H
    obtain ⟨rfl, rfl, rfl⟩ := H
    go_enter Try.func60, Try.ntmps60
    go_wp2
    go_ret3
    exact ⟨by first | rfl | (simp; done) | (simp [*]; done), by repeat (first | exact Drawn0.refl _ | apply Drawn0.step)⟩
  · rw [if_neg c2] at H
    have c2b0 : decide (a0 < 0) = false := decide_eq_false c2
    clear c2
    replace H := Option.bind_eq_some_iff.mp H
    obtain ⟨t410, A30, H⟩ := H
    replace H : (if t410 = a0 then (some (Int.tmod a0 8, Int.tmod (wrap64 (Int.tdiv a0 8)) 16, wrap64 (Int.tdiv a0 128))) else (some ((-1), (-1), (-1)))) = some (r1, r2, r3) := H
    have A3 := Aside0.mk A30
    clear A30
    by_cases c4 : t410 = a0
    · rw [if_pos c4] at H
      have c4b0 : (t410 == a0) = true := beq_iff_eq.mpr c4
      have c4b1 : (t410 != a0) = false := bne_eq_false_iff_eq.mpr c4
      clear c4
      simp only [Option.some.injEq, Prod.mk.injEq] at H
      obtain ⟨rfl, rfl, rfl⟩ := H
      go_enter Try.func60, Try.ntmps60
      go_wp2_with (first | (go_at_call 72; (with_reducible refine (impl_PackControl.calls (Int.tmod a0 8) (Int.tmod (wrap64 (Int.tdiv a0 8)) 16) (wrap64 (Int.tdiv a0 128)) t410 _ A3.out).mono ?_); rintro e w' ⟨rfl, ⟨nd, rfl⟩⟩))
      go_ret3
      exact ⟨by first | rfl | (simp; done) | (simp [*]; done), by repeat (first | exact Drawn0.refl _ | apply Drawn0.step)⟩
    · rw [if_neg c4] at H
      have c4b0 : (t410 == a0) = false := beq_eq_false_iff_ne.mpr c4
      have c4b1 : (t410 != a0) = true := bne_iff_ne.mpr c4
      simp only [Option.some.injEq, Prod.mk.injEq] at H
      obtain ⟨rfl, rfl, rfl⟩ := H
      go_enter Try.func60, Try.ntmps60
      go_wp2_with (first | (go_at_call 72; (with_reducible refine (impl_PackControl.calls (Int.tmod a0 8) (Int.tmod (wrap64 (Int.tdiv a0 8)) 16) (wrap64 (Int.tdiv a0 128)) t410 _ A3.out).mono ?_); rintro e w' ⟨rfl, ⟨nd, rfl⟩⟩))
      go_ret3
      exact ⟨by first | rfl | (simp; done) | (simp [*]; done), by repeat (first | exact Drawn0.refl _ | apply Drawn0.step)⟩

/-! ### impl_IsClean: function 40 -/
def impl_IsClean.f (l0 : List Int) : Option (Bool) := if (l0.length : Int) = 49 then (if 8 < (l0.length : Int) then ((impl_UnpackControl.f (rd l0 8)).bind fun bt412 => (some (bt412.2.1 == 0))) else (none)) else (some false)
set_option maxHeartbeats 8000000 in
set_option maxRecDepth 100000 in
theorem impl_IsClean.calls (A0 : Option Addr) (c0 : Nat) (l0 : List Int) (r : Bool) (w : World) (hr0 : Kd.C (Kd.int .i64) w A0 l0.length l0) (hc0 : l0.length ≤ c0) (h : impl_IsClean.f l0 = some r) :
    Calls Try.prog 40 #[.slice A0 l0.length c0] w fun e w' => e = .returned (.bool r) ∧ Drawn0 w w' := by
  have HR0 := Aside0.mk hr0
  have HC0 := Aside0.mk hc0
  clear hr0 hc0
  have H : (if (l0.length : Int) = 49 then (if 8 < (l0.length : Int) then ((impl_UnpackControl.f (rd l0 8)).bind fun bt412 => (some (bt412.2.1 == 0))) else (none)) else (some false)) = some r := h
  clear h
  by_cases c2 : (l0.length : Int) = 49
  · rw [if_pos c2] at H
    have c2b0 : ((l0.length : Int) == 49) = true := beq_iff_eq.mpr c2
    have c2b1 : ((l0.length : Int) != 49) = false := bne_eq_false_iff_eq.mpr c2
    clear c2
    by_cases c3 : 8 < (l0.length : Int)
    · rw [if_pos c3] at H
      have c3b0 : decide (8 < (l0.length : Int)) = true := decide_eq_true c3
      have c3b1 : decide (8 < l0.length) = true := decide_eq_true (by omega)
      clear c3
      replace H := Option.bind_eq_some_iff.mp H
      obtain ⟨⟨t412, t413, t414⟩, A40, H⟩ := H
      replace H : (some (t413 == 0)) = some r := H
      have A4 := Aside0.mk A40
      clear A40
      obtain rfl := Option.some.inj H
      have p411 : 0 ≤ (8 : Int) := (by omega)
      have q411 : 8 < (l0.length : Int) := of_decide_eq_true (by first | (with_reducible assumption) | assumption)
      obtain ⟨ad411, e411, hx411_0⟩ := Kd.at_int HR0.out 8 p411 q411
      cases e411
      (try simp only [show (8 : Int).toNat = 8 from rfl, Nat.reduceMul, Nat.reduceEqDiff, Go.Addr.add, ↓reduceIte] at hx411_0)
      have qi411 : (8 < l0.length) = True := eq_true (by omega)
      (try rw [show ((8 : Int)).toNat = 8 from rfl] at hx411_0)
      replace p411 := eq_true p411
      replace q411 := eq_true q411
      go_enter Try.func40, Try.ntmps40
      go_wp2_with (first | ((first | ((with_reducible refine gate_callee (f := 60) rfl ?_); refine goesL_ (some 13) rfl rfl Try.func60 (by kernel_rfl) rfl #[.int .i64 (rd l0 8)] rfl (by (try simp only [List.map_toArray, List.map_cons, List.map_nil]); first | done | rfl | (simp only [List.length_drop, List.length_take]; rfl)) ?_; (with_reducible refine (impl_UnpackControl.calls (rd l0 8) t412 t413 t414 _ A4.out).mono ?_)) | (go_at_call 60; (with_reducible refine (impl_UnpackControl.calls (rd l0 8) t412 t413 t414 _ A4.out).mono ?_))); rintro e w' ⟨rfl, ⟨nd, rfl⟩⟩; (first | refine ⟨_, rfl, ?_⟩ | skip)))
      go_ret
      exact ⟨by first | rfl | (simp; done) | (simp [*]; done), by repeat (first | exact Drawn0.refl _ | apply Drawn0.step)⟩
    · rw [if_neg c3] at H
      exact absurd H (by simp)
  · rw [if_neg c2] at H
    have c2b0 : ((l0.length : Int) == 49) = false := beq_eq_false_iff_ne.mpr c2
    have c2b1 : ((l0.length : Int) != 49) = true := bne_iff_ne.mpr c2
    obtain rfl := Option.some.inj H
    go_enter Try.func40, Try.ntmps40
    go_wp2
    go_ret
    exact ⟨by first | rfl | (simp; done) | (simp [*]; done), by repeat (first | exact Drawn0.refl _ | apply Drawn0.step)⟩

end Go.Proofs.Ytonibkcjccloiaa.G
