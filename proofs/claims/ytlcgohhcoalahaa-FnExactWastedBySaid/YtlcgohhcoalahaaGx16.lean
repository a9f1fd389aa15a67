/- Functions of the program as plain Lean functions, and that each call comes to its function's answer; written by a program of the session. No condition. -/
import Derived.Test.YtlcgohhcoalahaaGx0
import Derived.Test.YtlcgohhcoalahaaGx14
import Derived.Test.YtlcgohhcoalahaaGx15
namespace Go.Proofs.Ytlcgohhcoalahaa.G
open Go.RowKit Go.Proofs.YtlcgohhcoalahaaW.PrintWords Go.Proofs.YtlcgohhcoalahaaW.PrintLast Go.Proofs.YtlcgohhcoalahaaW.PrintMore
attribute [local go_sem] max2_int min2_int max_two min_two max_three min_three max_four min_four   -- for this text's walks alone
set_option linter.unusedVariables false
set_option linter.unusedSimpArgs false

/-! ### impl_areHarvests: function 60 -/
/-- The closure's question. -/
def harvP (x : Int) : Bool := decide (0 ≤ x ∧ x ≤ 1000)
theorem harvP_eq (x : Int) : impl_isHarvest.f x = some (harvP x) := by
  unfold impl_isHarvest.f impl_within.f harvP
  by_cases h : 0 ≤ x <;> simp [h]
set_option maxRecDepth 100000 in
theorem harvP_clo (x : Int) (b : Bool) (w : World) (hb : harvP x = b) : Calls Try.prog 80 #[.int .i64 x] w fun e w' => e = .returned (.bool (!b)) ∧ Drawn0 w w' := by
  have Hb := Aside0.mk ((harvP_eq x).trans (congrArg some hb))
  clear hb
  go_enter Try.func80, Try.ntmps80
  go_wp2_with (go_at_call 62; (with_reducible refine (impl_isHarvest.calls x b _ Hb.out).mono ?_); rintro e w' ⟨rfl, ⟨nd, rfl⟩⟩)
  go_ret
  exact ⟨rfl, by repeat (first | exact Drawn0.refl _ | apply Drawn0.step)⟩
theorem harvP_none (l : List Int) (h : ∀ i : Int, 0 ≤ i → i < (l.length : Int) → harvP (rd l i) = true) : l.any (fun x => !harvP x) = false := by
  rw [List.any_eq_false]
  intro x hx
  obtain ⟨i, hi⟩ := List.getElem?_of_mem hx
  have hl := (List.getElem?_eq_some_iff.1 hi).1
  have := h (i : Int) (by omega) (by omega)
  unfold rd at this
  rw [Int.toNat_natCast, List.getD_eq_getElem?_getD, hi] at this
  simpa using this
theorem harvP_some (l : List Int) (i : Int) (h0 : 0 ≤ i) (h1 : i < (l.length : Int)) (h : harvP (rd l i) = false) : l.any (fun x => !harvP x) = true := by
  rw [List.any_eq_true]
  refine ⟨rd l i, ?_, by simpa using h⟩
  unfold rd
  rw [List.getD_eq_getElem?_getD, List.getElem?_eq_getElem (by omega)]
  exact List.getElem_mem _
set_option maxHeartbeats 8000000 in
set_option maxRecDepth 100000 in
theorem harvP_index (A : Option Addr) (c : Nat) (l : List Int) (w : World) (hr : Kd.C (Kd.int .i64) w A l.length l) :
    Calls Try.prog 94 #[.slice A l.length c, .func (.func 80) #[] #[]] w fun e w' => ∃ i : Int, e = .returned (.int .i64 i) ∧ decide (i ≥ 0) = l.any (fun x => !harvP x) ∧ Drawn0 w w' := by
  have HR := Aside0.mk hr
  have hlen : l.length ≤ 9223372036854775807 := hr.2.1
  clear hr
  go_enter Try.func94, Try.ntmps94
  go_wp2
  go_loopw [8] (fun v8 w' => ∃ x : Int, v8 = .int .i64 x ∧ Aside0 (0 ≤ x) ∧ Aside0 (x ≤ (l.length : Int)) ∧ Aside0 (∀ i : Int, 0 ≤ i → i < x → harvP (rd l i) = true) ∧ Drawn0 w w') (fun v8 _ => l.length - (intOf v8).toNat)
  case atStart => exact ⟨0, rfl, ⟨by omega⟩, ⟨by omega⟩, ⟨fun i h0 h1 => by omega⟩, Drawn0.refl _⟩
  case round =>
    obtain ⟨x, rfl, Hx0, Hx1, Hp, ⟨m, rfl⟩⟩ := hrel
    by_cases hlt : x < (l.length : Int)
    · have c1 : decide (x < (l.length : Int)) = true := decide_eq_true hlt
      have h0 := Hx0.out
      obtain ⟨ad, e, hx⟩ := Kd.at_int HR.out x h0 hlt
      cases e
      obtain ⟨b, hb⟩ : ∃ b, harvP (rd l x) = b := ⟨_, rfl⟩
      have Hb := Aside0.mk hb
      have Hlt := Aside0.mk hlt
      clear hb hlt
      have p1 := eq_true h0
      have q1 := eq_true Hlt.out
      have hsum : wrap64 (x + 1) = x + 1 := by have := Hlt.out; unfold wrap64; omega
      have Hs := Aside0.mk hsum
      clear hsum h0
      cases b with
      | true =>
        go_wp2_with (go_at_call 80; (with_reducible refine (harvP_clo (rd l x) true _ Hb.out).mono ?_); rintro e w' ⟨rfl, ⟨nd, rfl⟩⟩)
        go_roundw
        case rel => exact ⟨x + 1, by rw [Hs.out], ⟨by have := Hx0.out; omega⟩, ⟨by have := Hlt.out; omega⟩, ⟨fun i h0 h1 => by
          by_cases e : i = x
          · rw [e]; exact Hb.out
          · exact Hp.out i h0 (by omega)⟩, by repeat (first | exact Drawn0.refl _ | apply Drawn0.step)⟩
        case measure =>
          have := Hlt.out
          have := Hx0.out
          rw [Hs.out]
          simp [intOf]
          omega
      | false =>
        go_wp2_with (go_at_call 80; (with_reducible refine (harvP_clo (rd l x) false _ Hb.out).mono ?_); rintro e w' ⟨rfl, ⟨nd, rfl⟩⟩)
        go_ret
        exact ⟨x, rfl, by rw [harvP_some l x Hx0.out Hlt.out Hb.out]; simpa using Hx0.out, by repeat (first | exact Drawn0.refl _ | apply Drawn0.step)⟩
    · have c1 : decide (x < (l.length : Int)) = false := decide_eq_false hlt
      have hx : x = (l.length : Int) := by have := Hx1.out; omega
      have Hx := Aside0.mk hx
      clear hx hlt
      go_wp2
      go_ret
      exact ⟨-1, rfl, by rw [harvP_none l (fun i h0 h1 => Hp.out i h0 (by have := Hx.out; omega))]; rfl, by repeat (first | exact Drawn0.refl _ | apply Drawn0.step)⟩
set_option maxRecDepth 100000 in
theorem harvP_contains (A : Option Addr) (c : Nat) (l : List Int) (b : Bool) (hb : l.any (fun x => !harvP x) = b) (w : World) (hr : Kd.C (Kd.int .i64) w A l.length l) :
    Calls Try.prog 79 #[.slice A l.length c, .func (.func 80) #[] #[]] w fun e w' => e = .returned (.bool b) ∧ Drawn0 w w' := by
  have HR := Aside0.mk hr
  have Hb := Aside0.mk hb
  clear hr hb
  go_enter Try.func79, Try.ntmps79
  go_wp2_with fail
  refine (harvP_index A c l _ HR.out).mono ?_
  rintro e w' ⟨i, rfl, hi, ⟨nd, rfl⟩⟩
  rw [Hb.out] at hi
  have Hi := Aside0.mk hi
  clear hi
  go_wp2
  go_ret
  exact ⟨by first | rfl | (rw [Hi.out]; done) | (simp [Hi.out]; done) | (have e := Hi.out; simp at e ⊢; exact e), by repeat (first | exact Drawn0.refl _ | apply Drawn0.step)⟩
def impl_areHarvests.f (l0 : List Int) : Option Bool := some (!(l0.any fun x => !harvP x))
set_option maxRecDepth 100000 in
theorem impl_areHarvests.calls (A0 : Option Addr) (c0 : Nat) (l0 : List Int) (r : Bool) (w : World) (hr0 : Kd.C (Kd.int .i64) w A0 l0.length l0) (hc0 : l0.length ≤ c0) (h : impl_areHarvests.f l0 = some r) :
    Calls Try.prog 60 #[.slice A0 l0.length c0] w fun e w' => e = .returned (.bool r) ∧ Drawn0 w w' := by
  obtain ⟨b, hb⟩ : ∃ b, l0.any (fun x => !harvP x) = b := ⟨_, rfl⟩
  unfold impl_areHarvests.f at h
  rw [hb] at h
  obtain rfl := Option.some.inj h
  have HR := Aside0.mk hr0
  have Hb := Aside0.mk hb
  clear hr0 hb h hc0
  go_enter Try.func60, Try.ntmps60
  go_wp2_with fail
  refine (harvP_contains A0 c0 l0 b Hb.out _ HR.out).mono ?_
  rintro e w' ⟨rfl, ⟨nd, rfl⟩⟩
  go_wp2
  go_ret
  exact ⟨rfl, by repeat (first | exact Drawn0.refl _ | apply Drawn0.step)⟩


/-! ### impl_Clamp: function 81 -/
def impl_Clamp.f (a0 : Int) (a1 : Int) (a2 : Int) : Option (Int) := if a2 < a1 then (some a1) else (some (mn (mx a0 a1) a2))
set_option maxHeartbeats 8000000 in
set_option maxRecDepth 100000 in
theorem impl_Clamp.calls (a0 : Int) (a1 : Int) (a2 : Int) (r : Int) (w : World) (h : impl_Clamp.f a0 a1 a2 = some r) :
    Calls Try.prog 81 #[.int .i64 a0, .int .i64 a1, .int .i64 a2] w fun e w' => e = .returned (.int .i64 r) ∧ Drawn0 w w' := by
  have H : (if a2 < a1 then (some a1) else (some (mn (mx a0 a1) a2))) = some r := h
  clear h
  by_cases c4 : a2 < a1
  · rw [if_pos c4] at H
    have c4b0 : decide (a2 < a1) = true := decide_eq_true c4
    clear c4
    obtain rfl := Option.some.inj H
    go_enter Try.func81, Try.ntmps81
    go_wp2
    go_ret
    exact ⟨by first | rfl | (simp; done) | (simp [*]; done), by repeat (first | exact Drawn0.refl _ | apply Drawn0.step)⟩
  · rw [if_neg c4] at H
    have c4b0 : decide (a2 < a1) = false := decide_eq_false c4
    clear c4
    obtain ⟨ji5, hji5⟩ : ∃ j_ : Int, (mx a0 a1) = j_ := ⟨_, rfl⟩
    replace H : (some (mn (ji5) a2)) = some r := by first | (rw [hji5] at H; exact H) | (simp only [hji5] at H ⊢; exact H)
    have hji5_ : (if a0 < a1 then a1 else a0) = ji5 := hji5
    obtain ⟨ji6, hji6⟩ : ∃ j_ : Int, (mn (ji5) a2) = j_ := ⟨_, rfl⟩
    replace H : (some ji6) = some r := by first | (rw [hji6] at H; exact H) | (simp only [hji6] at H ⊢; exact H)
    have hji6_ : (if a2 < (ji5) then a2 else (ji5)) = ji6 := hji6
    obtain rfl := Option.some.inj H
    go_enter Try.func81, Try.ntmps81
    go_wp2
    go_ret
    exact ⟨by first | rfl | (simp; done) | (simp only [← hji5, ← hji6] <;> (first | rfl | simp)) | (simp [*]; done), by repeat (first | exact Drawn0.refl _ | apply Drawn0.step)⟩

end Go.Proofs.Ytlcgohhcoalahaa.G
