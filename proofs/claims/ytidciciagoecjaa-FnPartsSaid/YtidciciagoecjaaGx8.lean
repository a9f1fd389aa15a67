/- Functions of the program as plain Lean functions, and that each call comes to its function's answer; written by a program of the session. No condition. -/
import Derived.Test.YtidciciagoecjaaGx0
import Derived.Test.YtidciciagoecjaaGx1
import Derived.Test.YtidciciagoecjaaGx7
namespace Go.Proofs.Ytidciciagoecjaa.G
open Go.RowKit Go.Proofs.YtidciciagoecjaaW.PrintWords Go.Proofs.YtidciciagoecjaaW.PrintLast Go.Proofs.YtidciciagoecjaaW.PrintMore
attribute [local go_sem] max2_int min2_int max_two min_two max_three min_three max_four min_four   -- for this text's walks alone
set_option linter.unusedVariables false
set_option linter.unusedSimpArgs false

theorem z8_0 {P : Prop} (h : P := by repeat (first | (with_reducible first | exact HB.out | apply below_alloc | apply pw_below_drewN | apply below_drew1) | exact HB.out)) : P := h
theorem z8_1 {P : Prop} (h : P := by (with_reducible repeat (first | apply Kd.R_alloc | apply Kd.R_drewN | apply Kd.R_drew)); exact HO344.out) : P := h
theorem z8_2 {P : Prop} (h : P := by (with_reducible repeat (first | apply Kd.R_alloc | apply Kd.R_drewN | apply Kd.R_drew)); exact HO349.out) : P := h
theorem z8_3 {P : Prop} (h : P := by repeat (first | (with_reducible exact HR357.out) | (with_reducible refine Kd.C_alloc ?_ _) | (with_reducible refine Kd.C_drewN ?_ _) | (with_reducible refine Kd.C_drew ?_) | exact HR357.out)) : P := h
theorem z8_4 {P : Prop} (h : P := by first | (with_reducible assumption) | assumption) : P := h
theorem z8_5 {P : Prop} (h : P := by (with_reducible repeat (first | apply Kd.R_alloc | apply Kd.R_drewN | apply Kd.R_drew)); exact HO353.out) : P := h
theorem z8_6 {P : Prop} (h : P := by (with_reducible repeat (first | apply Kd.R_alloc | apply Kd.R_drewN | apply Kd.R_drew)); exact HO346.out) : P := h
theorem z8_7 {P : Prop} (h : P := by repeat (first | exact (Kd.R_reads' HO_10.out).2.2 | (with_reducible refine Kd.C_alloc ?_ _) | (with_reducible refine Kd.C_drewN ?_ _) | (with_reducible refine Kd.C_drew ?_))) : P := h
theorem z8_8 {P : Prop} (h : P := by repeat (first | exact HR0.out | (with_reducible refine Kd.C_alloc ?_ _) | (with_reducible refine Kd.C_drewN ?_ _) | (with_reducible refine Kd.C_drew ?_))) : P := h
theorem z8_9 {P : Prop} (h : P := by (with_reducible repeat (first | apply Kd.R_alloc | apply Kd.R_drewN | apply Kd.R_drew)); exact HO360.out) : P := h
theorem z8_10 {P : Prop} (h : P := by repeat (first | (with_reducible exact HR367.out) | (with_reducible refine Kd.C_alloc ?_ _) | (with_reducible refine Kd.C_drewN ?_ _) | (with_reducible refine Kd.C_drew ?_) | exact HR367.out)) : P := h
theorem z8_11 {P : Prop} (h : P := by repeat (first | exact (Kd.R_reads' HO346.out).2.2 | (with_reducible refine Kd.C_alloc ?_ _) | (with_reducible refine Kd.C_drewN ?_ _) | (with_reducible refine Kd.C_drew ?_))) : P := h
theorem z8_12 {P : Prop} (h : P := by repeat (first | exact (Kd.R_reads' HO344.out).2.2 | (with_reducible refine Kd.C_alloc ?_ _) | (with_reducible refine Kd.C_drewN ?_ _) | (with_reducible refine Kd.C_drew ?_))) : P := h
theorem z8_13 {P : Prop} (h : P := by (with_reducible repeat (first | apply Kd.R_alloc | apply Kd.R_drewN | apply Kd.R_drew)); exact HO363.out) : P := h
theorem z8_14 {P : Prop} (h : P := by repeat (first | exact (Kd.R_reads' HO363.out).2.2 | (with_reducible refine Kd.C_alloc ?_ _) | (with_reducible refine Kd.C_drewN ?_ _) | (with_reducible refine Kd.C_drew ?_))) : P := h
theorem z8_15 {P : Prop} (h : P := by repeat (first | exact (Kd.R_reads' HO360.out).2.2 | (with_reducible refine Kd.C_alloc ?_ _) | (with_reducible refine Kd.C_drewN ?_ _) | (with_reducible refine Kd.C_drew ?_))) : P := h
theorem z8_16 {P : Prop} (h : P := by repeat (first | exact (Kd.R_reads' HO353.out).2.2 | (with_reducible refine Kd.C_alloc ?_ _) | (with_reducible refine Kd.C_drewN ?_ _) | (with_reducible refine Kd.C_drew ?_))) : P := h
theorem z8_17 {P : Prop} (h : P := by repeat (first | exact (Kd.C_below HR0.out HB.out) | (with_reducible refine Kd.C_alloc ?_ _) | (with_reducible refine Kd.C_drewN ?_ _) | (with_reducible refine Kd.C_drew ?_))) : P := h
theorem z8_18 {P : Prop} (h : P := by exact (Kd.R_reads' HO_10.out).2.1) : P := h
theorem z8_19 {P : Prop} (h : P := by repeat (first | exact z8_10 | (with_reducible refine Kd.C_alloc ?_ _) | (with_reducible refine Kd.C_drewN ?_ _) | (with_reducible refine Kd.C_drew ?_))) : P := h
theorem z8_20 {P : Prop} (h : P := by repeat (first | exact z8_3 | (with_reducible refine Kd.C_alloc ?_ _) | (with_reducible refine Kd.C_drewN ?_ _) | (with_reducible refine Kd.C_drew ?_))) : P := h
/-! ### laws_FnParts: function 5 -/
mutual
def laws_FnParts.j0 : Nat → List Int → List Int → List Int → Bool → Option (Bool)
  | 0, _, _, _, _ => none
  | k + 1, x3, x7, x10, x58 => if x58 = true then (some false) else (laws_FnParts.l0 k x3 x7 x10 0)
def laws_FnParts.l0 : Nat → List Int → List Int → List Int → Int → Option (Bool)
  | 0, _, _, _, _ => none
  | k + 1, x3, x7, x10, x11 => if x11 < (x3.length : Int) then ((laws_has.f k x10 x11).bind fun t372 => (if t372 = true then (laws_FnParts.l0 k x3 x7 x10 (wrap64 (x11 + 1))) else (if 0 ≤ x11 then (if x11 < (x7.length : Int) then (if (rd x7 x11) = (rd x3 x11) then (laws_FnParts.l0 k x3 x7 x10 (wrap64 (x11 + 1))) else (some false)) else (none)) else (none)))) else (some true)
end
def laws_FnParts.f (k : Nat) (l0 : List Int) : Option (Bool) := (laws_big.f l0).bind fun t340 => (if t340 = true then (some true) else ((spec_DrawWrites.f k l0).bind fun bt341 => ((spec_DrawPlaces.f k l0).bind fun t347 => (if 0 < (t347.length : Int) then (if (wrap64 ((bt341.2.length : Int) + 1)) = 0 then (none) else ((impl_ApplyWrites.f k bt341.1 bt341.2 (Int.tmod (rd t347 0) (wrap64 ((bt341.2.length : Int) + 1)))).bind fun t351 => (if 0 ≤ (Int.tmod (rd t347 0) (wrap64 ((bt341.2.length : Int) + 1))) then (if (Int.tmod (rd t347 0) (wrap64 ((bt341.2.length : Int) + 1))) ≤ (bt341.2.length : Int) then ((impl_ApplyWrites.f k t351 (bt341.2.drop ((Int.tmod (rd t347 0) (wrap64 ((bt341.2.length : Int) + 1))) : Int).toNat) (bt341.2.length : Int)).bind fun t358 => ((impl_ApplyWrites.f k bt341.1 bt341.2 (bt341.2.length : Int)).bind fun t361 => ((impl_TouchedWords.f (bt341.2.take ((Int.tmod (rd t347 0) (wrap64 ((bt341.2.length : Int) + 1))) : Int).toNat)).bind fun t368 => (if (t351.length : Int) = (bt341.1.length : Int) then ((laws_sameInts.f k t361 t358).bind fun t371 => (laws_FnParts.j0 k bt341.1 t351 t368 (!t371))) else (laws_FnParts.j0 k bt341.1 t351 t368 true))))) else (none)) else (none)))) else (none)))))
theorem laws_FnParts.mono_l : ∀ k, (∀ y0 y1 y2 y3, LeO (laws_FnParts.j0 k y0 y1 y2 y3) (laws_FnParts.j0 (k + 1) y0 y1 y2 y3)) ∧ (∀ y0 y1 y2 y3, LeO (laws_FnParts.l0 k y0 y1 y2 y3) (laws_FnParts.l0 (k + 1) y0 y1 y2 y3))
  | 0 => ⟨fun _ _ _ _ r h => by simp [laws_FnParts.j0] at h, fun _ _ _ _ r h => by simp [laws_FnParts.l0] at h⟩
  | k + 1 => by
    obtain ⟨ih0, ih1⟩ := laws_FnParts.mono_l k
    refine ⟨?_, ?_⟩
    · intro y0 y1 y2 y3
      unfold laws_FnParts.j0
      repeat' first
      | (with_reducible exact ih0 _ _ _ _)
      | (with_reducible exact ih1 _ _ _ _)
      | (with_reducible exact impl_ApplyWrites.mono _ _ _ _)
      | (with_reducible exact laws_has.mono _ _ _)
      | (with_reducible exact laws_sameInts.mono _ _ _)
      | (with_reducible exact spec_DrawPlaces.mono _ _)
      | (with_reducible exact spec_DrawWrites.mono _ _)
      | (with_reducible exact LeO.refl _)
      | (with_reducible exact LeO.none _)
      | (with_reducible refine LeO.ite ?_ ?_)
      | (with_reducible refine LeO.bind ?_ (fun _ => ?_))
      | exact ih0 _ _ _ _
      | exact ih1 _ _ _ _
      | exact impl_ApplyWrites.mono _ _ _ _
      | exact laws_has.mono _ _ _
      | exact laws_sameInts.mono _ _ _
      | exact spec_DrawPlaces.mono _ _
      | exact spec_DrawWrites.mono _ _
      | exact LeO.none _
      | refine LeO.ite ?_ ?_
      | refine LeO.bind ?_ (fun _ => ?_)
    · intro y0 y1 y2 y3
      unfold laws_FnParts.l0
      repeat' first
      | (with_reducible exact ih0 _ _ _ _)
      | (with_reducible exact ih1 _ _ _ _)
      | (with_reducible exact impl_ApplyWrites.mono _ _ _ _)
      | (with_reducible exact laws_has.mono _ _ _)
      | (with_reducible exact laws_sameInts.mono _ _ _)
      | (with_reducible exact spec_DrawPlaces.mono _ _)
      | (with_reducible exact spec_DrawWrites.mono _ _)
      | (with_reducible exact LeO.refl _)
      | (with_reducible exact LeO.none _)
      | (with_reducible refine LeO.ite ?_ ?_)
      | (with_reducible refine LeO.bind ?_ (fun _ => ?_))
      | exact ih0 _ _ _ _
      | exact ih1 _ _ _ _
      | exact impl_ApplyWrites.mono _ _ _ _
      | exact laws_has.mono _ _ _
      | exact laws_sameInts.mono _ _ _
      | exact spec_DrawPlaces.mono _ _
      | exact spec_DrawWrites.mono _ _
      | exact LeO.none _
      | refine LeO.ite ?_ ?_
      | refine LeO.bind ?_ (fun _ => ?_)
theorem laws_FnParts.mono : ∀ a0 k, LeO (laws_FnParts.f k a0) (laws_FnParts.f (k + 1) a0) := by
  intro a0 k
  obtain ⟨ih0, ih1⟩ := laws_FnParts.mono_l k
  unfold laws_FnParts.f
  repeat' first
      | (with_reducible exact ih0 _ _ _ _)
      | (with_reducible exact ih1 _ _ _ _)
      | (with_reducible exact impl_ApplyWrites.mono _ _ _ _)
      | (with_reducible exact laws_has.mono _ _ _)
      | (with_reducible exact laws_sameInts.mono _ _ _)
      | (with_reducible exact spec_DrawPlaces.mono _ _)
      | (with_reducible exact spec_DrawWrites.mono _ _)
      | (with_reducible exact LeO.refl _)
      | (with_reducible exact LeO.none _)
      | (with_reducible refine LeO.ite ?_ ?_)
      | (with_reducible refine LeO.bind ?_ (fun _ => ?_))
      | exact ih0 _ _ _ _
      | exact ih1 _ _ _ _
      | exact impl_ApplyWrites.mono _ _ _ _
      | exact laws_has.mono _ _ _
      | exact laws_sameInts.mono _ _ _
      | exact spec_DrawPlaces.mono _ _
      | exact spec_DrawWrites.mono _ _
      | exact LeO.none _
      | refine LeO.ite ?_ ?_
      | refine LeO.bind ?_ (fun _ => ?_)
set_option maxHeartbeats 8000000 in
set_option maxRecDepth 100000 in
theorem laws_FnParts.calls (k : Nat) (A0 : Option Addr) (c0 : Nat) (l0 : List Int) (r : Bool) (w : World) (hr0 : Kd.C (Kd.int .u8) w A0 l0.length l0) (hc0 : l0.length ≤ c0) (h : laws_FnParts.f k l0 = some r) :
    Calls Try.prog 5 #[.slice A0 l0.length c0] w fun e w' => e = .returned (.bool r) ∧ Below w.heap.size w w' := by
  have HR0 := Aside0.mk hr0
  have HC0 := Aside0.mk hc0
  clear hr0 hc0
  have HB := Aside0.mk (Below.refl w.heap.size w)
  have H : ((laws_big.f l0).bind fun t340 => (if t340 = true then (some true) else ((spec_DrawWrites.f k l0).bind fun bt341 => ((spec_DrawPlaces.f k l0).bind fun t347 => (if 0 < (t347.length : Int) then (if (wrap64 ((bt341.2.length : Int) + 1)) = 0 then (none) else ((impl_ApplyWrites.f k bt341.1 bt341.2 (Int.tmod (rd t347 0) (wrap64 ((bt341.2.length : Int) + 1)))).bind fun t351 => (if 0 ≤ (Int.tmod (rd t347 0) (wrap64 ((bt341.2.length : Int) + 1))) then (if (Int.tmod (rd t347 0) (wrap64 ((bt341.2.length : Int) + 1))) ≤ (bt341.2.length : Int) then ((impl_ApplyWrites.f k t351 (bt341.2.drop ((Int.tmod (rd t347 0) (wrap64 ((bt341.2.length : Int) + 1))) : Int).toNat) (bt341.2.length : Int)).bind fun t358 => ((impl_ApplyWrites.f k bt341.1 bt341.2 (bt341.2.length : Int)).bind fun t361 => ((impl_TouchedWords.f (bt341.2.take ((Int.tmod (rd t347 0) (wrap64 ((bt341.2.length : Int) + 1))) : Int).toNat)).bind fun t368 => (if (t351.length : Int) = (bt341.1.length : Int) then ((laws_sameInts.f k t361 t358).bind fun t371 => (laws_FnParts.j0 k bt341.1 t351 t368 (!t371))) else (laws_FnParts.j0 k bt341.1 t351 t368 true))))) else (none)) else (none)))) else (none)))))) = some r := h
  clear h
  replace H := Option.bind_eq_some_iff.mp H
  obtain ⟨t340, A20, H⟩ := H
  replace H : (if t340 = true then (some true) else ((spec_DrawWrites.f k l0).bind fun bt341 => ((spec_DrawPlaces.f k l0).bind fun t347 => (if 0 < (t347.length : Int) then (if (wrap64 ((bt341.2.length : Int) + 1)) = 0 then (none) else ((impl_ApplyWrites.f k bt341.1 bt341.2 (Int.tmod (rd t347 0) (wrap64 ((bt341.2.length : Int) + 1)))).bind fun t351 => (if 0 ≤ (Int.tmod (rd t347 0) (wrap64 ((bt341.2.length : Int) + 1))) then (if (Int.tmod (rd t347 0) (wrap64 ((bt341.2.length : Int) + 1))) ≤ (bt341.2.length : Int) then ((impl_ApplyWrites.f k t351 (bt341.2.drop ((Int.tmod (rd t347 0) (wrap64 ((bt341.2.length : Int) + 1))) : Int).toNat) (bt341.2.length : Int)).bind fun t358 => ((impl_ApplyWrites.f k bt341.1 bt341.2 (bt341.2.length : Int)).bind fun t361 => ((impl_TouchedWords.f (bt341.2.take ((Int.tmod (rd t347 0) (wrap64 ((bt341.2.length : Int) + 1))) : Int).toNat)).bind fun t368 => (if (t351.length : Int) = (bt341.1.length : Int) then ((laws_sameInts.f k t361 t358).bind fun t371 => (laws_FnParts.j0 k bt341.1 t351 t368 (!t371))) else (laws_FnParts.j0 k bt341.1 t351 t368 true))))) else (none)) else (none)))) else (none))))) = some r := H
  have A2 := Aside0.mk A20
  clear A20
  by_cases c3 : t340 = true
  · subst c3
    have H1 : (some true) = some r := by rw [if_pos rfl] at H; exact H
    clear H
    have H := H1
    clear H1
    obtain rfl := Option.some.inj H
    go_enter Try.func5, Try.ntmps5
    go_wp2_with (first | (go_at_call 6; (with_reducible refine (laws_big.calls _ _ l0 true _ ?side1 ?side2 A2.out).mono ?_); (case side1 => exact z8_8); (case side2 => exact HC0.out); rintro e w' ⟨rfl, ⟨nd, rfl⟩⟩; (try first | exact ⟨rfl, _, World.drewN_drewN _ _ _⟩ | exact ⟨rfl, _, Eq.trans (World.drewN_drewN _ _ _) (congrArg (World.drewN _) (Nat.add_assoc _ _ _))⟩)))
    repeat (go_quiet (first | (go_at_call 6; (with_reducible refine (laws_big.calls _ _ l0 true _ ?side1 ?side2 A2.out).mono ?_); (case side1 => exact z8_8); (case side2 => exact HC0.out); rintro e w' ⟨rfl, ⟨nd, rfl⟩⟩; (try first | exact ⟨rfl, _, World.drewN_drewN _ _ _⟩ | exact ⟨rfl, _, Eq.trans (World.drewN_drewN _ _ _) (congrArg (World.drewN _) (Nat.add_assoc _ _ _))⟩))); try go_wp2_with (first | (go_at_call 6; (with_reducible refine (laws_big.calls _ _ l0 true _ ?side1 ?side2 A2.out).mono ?_); (case side1 => exact z8_8); (case side2 => exact HC0.out); rintro e w' ⟨rfl, ⟨nd, rfl⟩⟩; (try first | exact ⟨rfl, _, World.drewN_drewN _ _ _⟩ | exact ⟨rfl, _, Eq.trans (World.drewN_drewN _ _ _) (congrArg (World.drewN _) (Nat.add_assoc _ _ _))⟩))))
    go_ret
    exact ⟨by first | rfl | (simp [errW_none, errW_some] <;> rfl) | (simp [*, errW_none, errW_some] <;> rfl) | (simp [*, errW_none, errW_some, i64_w]; done), by repeat (first | (with_reducible first | exact HB.out | apply below_alloc | apply pw_below_drewN | apply below_drew1) | exact HB.out)⟩
  · replace c3 := Bool.eq_false_iff.mpr c3
    subst c3
    have H1 : ((spec_DrawWrites.f k l0).bind fun bt341 => ((spec_DrawPlaces.f k l0).bind fun t347 => (if 0 < (t347.length : Int) then (if (wrap64 ((bt341.2.length : Int) + 1)) = 0 then (none) else ((impl_ApplyWrites.f k bt341.1 bt341.2 (Int.tmod (rd t347 0) (wrap64 ((bt341.2.length : Int) + 1)))).bind fun t351 => (if 0 ≤ (Int.tmod (rd t347 0) (wrap64 ((bt341.2.length : Int) + 1))) then (if (Int.tmod (rd t347 0) (wrap64 ((bt341.2.length : Int) + 1))) ≤ (bt341.2.length : Int) then ((impl_ApplyWrites.f k t351 (bt341.2.drop ((Int.tmod (rd t347 0) (wrap64 ((bt341.2.length : Int) + 1))) : Int).toNat) (bt341.2.length : Int)).bind fun t358 => ((impl_ApplyWrites.f k bt341.1 bt341.2 (bt341.2.length : Int)).bind fun t361 => ((impl_TouchedWords.f (bt341.2.take ((Int.tmod (rd t347 0) (wrap64 ((bt341.2.length : Int) + 1))) : Int).toNat)).bind fun t368 => (if (t351.length : Int) = (bt341.1.length : Int) then ((laws_sameInts.f k t361 t358).bind fun t371 => (laws_FnParts.j0 k bt341.1 t351 t368 (!t371))) else (laws_FnParts.j0 k bt341.1 t351 t368 true))))) else (none)) else (none)))) else (none)))) = some r := by rw [if_neg (show ¬ (false = true) by decide)] at H; exact H
    clear H
    have H := H1
    clear H1
    replace H := Option.bind_eq_some_iff.mp H
    obtain ⟨⟨t341, t342⟩, A40, H⟩ := H
    replace H : ((spec_DrawPlaces.f k l0).bind fun t347 => (if 0 < (t347.length : Int) then (if (wrap64 ((t342.length : Int) + 1)) = 0 then (none) else ((impl_ApplyWrites.f k t341 t342 (Int.tmod (rd t347 0) (wrap64 ((t342.length : Int) + 1)))).bind fun t351 => (if 0 ≤ (Int.tmod (rd t347 0) (wrap64 ((t342.length : Int) + 1))) then (if (Int.tmod (rd t347 0) (wrap64 ((t342.length : Int) + 1))) ≤ (t342.length : Int) then ((impl_ApplyWrites.f k t351 (t342.drop ((Int.tmod (rd t347 0) (wrap64 ((t342.length : Int) + 1))) : Int).toNat) (t342.length : Int)).bind fun t358 => ((impl_ApplyWrites.f k t341 t342 (t342.length : Int)).bind fun t361 => ((impl_TouchedWords.f (t342.take ((Int.tmod (rd t347 0) (wrap64 ((t342.length : Int) + 1))) : Int).toNat)).bind fun t368 => (if (t351.length : Int) = (t341.length : Int) then ((laws_sameInts.f k t361 t358).bind fun t371 => (laws_FnParts.j0 k t341 t351 t368 (!t371))) else (laws_FnParts.j0 k t341 t351 t368 true))))) else (none)) else (none)))) else (none))) = some r := H
    have A4 := Aside0.mk A40
    clear A40
    replace H := Option.bind_eq_some_iff.mp H
    obtain ⟨t347, A50, H⟩ := H
    replace H : (if 0 < (t347.length : Int) then (if (wrap64 ((t342.length : Int) + 1)) = 0 then (none) else ((impl_ApplyWrites.f k t341 t342 (Int.tmod (rd t347 0) (wrap64 ((t342.length : Int) + 1)))).bind fun t351 => (if 0 ≤ (Int.tmod (rd t347 0) (wrap64 ((t342.length : Int) + 1))) then (if (Int.tmod (rd t347 0) (wrap64 ((t342.length : Int) + 1))) ≤ (t342.length : Int) then ((impl_ApplyWrites.f k t351 (t342.drop ((Int.tmod (rd t347 0) (wrap64 ((t342.length : Int) + 1))) : Int).toNat) (t342.length : Int)).bind fun t358 => ((impl_ApplyWrites.f k t341 t342 (t342.length : Int)).bind fun t361 => ((impl_TouchedWords.f (t342.take ((Int.tmod (rd t347 0) (wrap64 ((t342.length : Int) + 1))) : Int).toNat)).bind fun t368 => (if (t351.length : Int) = (t341.length : Int) then ((laws_sameInts.f k t361 t358).bind fun t371 => (laws_FnParts.j0 k t341 t351 t368 (!t371))) else (laws_FnParts.j0 k t341 t351 t368 true))))) else (none)) else (none)))) else (none)) = some r := H
    have A5 := Aside0.mk A50
    clear A50
    by_cases c6 : 0 < (t347.length : Int)
    · rw [if_pos c6] at H
      have c6b0 : decide (0 < (t347.length : Int)) = true := decide_eq_true c6
      have c6b1 : decide (0 < t347.length) = true := decide_eq_true (by omega)
      clear c6
      by_cases c7 : (wrap64 ((t342.length : Int) + 1)) = 0
      · rw [if_pos c7] at H
        exact absurd H (by simp)
      · rw [if_neg c7] at H
        have c7b0 : ((wrap64 ((t342.length : Int) + 1)) == 0) = false := beq_eq_false_iff_ne.mpr c7
        have c7b1 : ((wrap64 ((t342.length : Int) + 1)) != 0) = true := bne_iff_ne.mpr c7
        replace H := Option.bind_eq_some_iff.mp H
        obtain ⟨t351, A80, H⟩ := H
        replace H : (if 0 ≤ (Int.tmod (rd t347 0) (wrap64 ((t342.length : Int) + 1))) then (if (Int.tmod (rd t347 0) (wrap64 ((t342.length : Int) + 1))) ≤ (t342.length : Int) then ((impl_ApplyWrites.f k t351 (t342.drop ((Int.tmod (rd t347 0) (wrap64 ((t342.length : Int) + 1))) : Int).toNat) (t342.length : Int)).bind fun t358 => ((impl_ApplyWrites.f k t341 t342 (t342.length : Int)).bind fun t361 => ((impl_TouchedWords.f (t342.take ((Int.tmod (rd t347 0) (wrap64 ((t342.length : Int) + 1))) : Int).toNat)).bind fun t368 => (if (t351.length : Int) = (t341.length : Int) then ((laws_sameInts.f k t361 t358).bind fun t371 => (laws_FnParts.j0 k t341 t351 t368 (!t371))) else (laws_FnParts.j0 k t341 t351 t368 true))))) else (none)) else (none)) = some r := H
        have A8 := Aside0.mk A80
        clear A80
        obtain ⟨ji9, hji9⟩ : ∃ j_ : Int, (Int.tmod (rd t347 0) (wrap64 ((t342.length : Int) + 1))) = j_ := ⟨_, rfl⟩
        replace H : (if 0 ≤ (ji9) then (if (ji9) ≤ (t342.length : Int) then ((impl_ApplyWrites.f k t351 (t342.drop ((ji9) : Int).toNat) (t342.length : Int)).bind fun t358 => ((impl_ApplyWrites.f k t341 t342 (t342.length : Int)).bind fun t361 => ((impl_TouchedWords.f (t342.take ((ji9) : Int).toNat)).bind fun t368 => (if (t351.length : Int) = (t341.length : Int) then ((laws_sameInts.f k t361 t358).bind fun t371 => (laws_FnParts.j0 k t341 t351 t368 (!t371))) else (laws_FnParts.j0 k t341 t351 t368 true))))) else (none)) else (none)) = some r := by first | (rw [hji9] at H; exact H) | (simp only [hji9] at H ⊢; exact H)
        (try rw [hji9] at A2)
        (try rw [hji9] at A4)
        (try rw [hji9] at A5)
        (try rw [hji9] at A8)
        by_cases c10 : 0 ≤ (ji9)
        · rw [if_pos c10] at H
          have c10b0 := eq_true c10
          have c10b1 : decide (0 ≤ (ji9)) = true := decide_eq_true c10
          clear c10
          by_cases c11 : (ji9) ≤ (t342.length : Int)
          · rw [if_pos c11] at H
            have c11b0 := eq_true c11
            have c11b1 : decide ((ji9) ≤ (t342.length : Int)) = true := decide_eq_true c11
            clear c11
            obtain ⟨y354, hy354⟩ : ∃ y_ : List (S31), y_ = (t342.drop ((ji9) : Int).toNat) := ⟨_, rfl⟩
            replace H : ((impl_ApplyWrites.f k t351 y354 (t342.length : Int)).bind fun t358 => ((impl_ApplyWrites.f k t341 t342 (t342.length : Int)).bind fun t361 => ((impl_TouchedWords.f (t342.take ((ji9) : Int).toNat)).bind fun t368 => (if (t351.length : Int) = (t341.length : Int) then ((laws_sameInts.f k t361 t358).bind fun t371 => (laws_FnParts.j0 k t341 t351 t368 (!t371))) else (laws_FnParts.j0 k t341 t351 t368 true))))) = some r := by first | (rw [hy354]; with_reducible exact H) | (have H2_ := (Option.bind_some _ _).symm.trans H; rw [hy354]; with_reducible exact H2_) | (have H2_ := (Option.bind_some _ _).symm.trans H; with_reducible exact H2_) | with_reducible exact H | (rw [hy354]; exact H) | exact H
            have Ny354 := Aside0.mk hy354
            clear hy354
            replace H := Option.bind_eq_some_iff.mp H
            obtain ⟨t358, A120, H⟩ := H
            replace H : ((impl_ApplyWrites.f k t341 t342 (t342.length : Int)).bind fun t361 => ((impl_TouchedWords.f (t342.take ((ji9) : Int).toNat)).bind fun t368 => (if (t351.length : Int) = (t341.length : Int) then ((laws_sameInts.f k t361 t358).bind fun t371 => (laws_FnParts.j0 k t341 t351 t368 (!t371))) else (laws_FnParts.j0 k t341 t351 t368 true)))) = some r := H
            have A12 := Aside0.mk A120
            clear A120
            replace H := Option.bind_eq_some_iff.mp H
            obtain ⟨t361, A130, H⟩ := H
            replace H : ((impl_TouchedWords.f (t342.take ((ji9) : Int).toNat)).bind fun t368 => (if (t351.length : Int) = (t341.length : Int) then ((laws_sameInts.f k t361 t358).bind fun t371 => (laws_FnParts.j0 k t341 t351 t368 (!t371))) else (laws_FnParts.j0 k t341 t351 t368 true))) = some r := H
            have A13 := Aside0.mk A130
            clear A130
            have c14b0 := eq_true (of_decide_eq_true z8_4 : 0 ≤ (ji9))
            have c15b0 := eq_true (of_decide_eq_true z8_4 : (ji9) ≤ (t342.length : Int))
            obtain ⟨y364, hy364⟩ : ∃ y_ : List (S31), y_ = (t342.take ((ji9) : Int).toNat) := ⟨_, rfl⟩
            replace H : ((impl_TouchedWords.f y364).bind fun t368 => (if (t351.length : Int) = (t341.length : Int) then ((laws_sameInts.f k t361 t358).bind fun t371 => (laws_FnParts.j0 k t341 t351 t368 (!t371))) else (laws_FnParts.j0 k t341 t351 t368 true))) = some r := by first | (rw [hy364]; with_reducible exact H) | (have H2_ := (Option.bind_some _ _).symm.trans H; rw [hy364]; with_reducible exact H2_) | (have H2_ := (Option.bind_some _ _).symm.trans H; with_reducible exact H2_) | with_reducible exact H | (rw [hy364]; exact H) | exact H
            have Ny364 := Aside0.mk hy364
            clear hy364
            replace H := Option.bind_eq_some_iff.mp H
            obtain ⟨t368, A160, H⟩ := H
            replace H : (if (t351.length : Int) = (t341.length : Int) then ((laws_sameInts.f k t361 t358).bind fun t371 => (laws_FnParts.j0 k t341 t351 t368 (!t371))) else (laws_FnParts.j0 k t341 t351 t368 true)) = some r := H
            have A16 := Aside0.mk A160
            clear A160
            have HC17 := Aside0.mk H
            clear H
            go_enter Try.func5, Try.ntmps5
            go_upto_region 10 with (first | (go_at_call 6; (with_reducible refine (laws_big.calls _ _ l0 false _ ?side1 ?side2 A2.out).mono ?_); (case side1 => exact z8_8); (case side2 => exact HC0.out); rintro e w' ⟨rfl, ⟨nd, rfl⟩⟩; (try first | exact ⟨rfl, _, World.drewN_drewN _ _ _⟩ | exact ⟨rfl, _, Eq.trans (World.drewN_drewN _ _ _) (congrArg (World.drewN _) (Nat.add_assoc _ _ _))⟩)) | (go_at_call 7; (with_reducible refine (spec_DrawWrites.calls k _ _ l0 t341 t342 _ ?side1 ?side2 A4.out).mono ?_); (case side1 => exact z8_8); (case side2 => exact HC0.out); rintro e w18 ⟨v343, v345, rfl, ho0, ho1, hb⟩; have n0_ := Aside0.mk (Kd.R_lower ho0 (below_size z8_0)); have n1_ := Aside0.mk (Kd.R_lower ho1 (below_size z8_0)); have n2_ := Aside0.mk (below_step z8_0 hb); clear HB; have HO344 := n0_; have HO346 := n1_; have HB := n2_; clear n0_ n1_ n2_; (try clear hb); (try clear hb2); (try clear hk); (try clear hi); (try clear ho0); (try clear ho1)) | (go_at_call 10; (with_reducible refine (spec_DrawPlaces.calls k _ _ l0 t347 _ ?side1 ?side2 A5.out).mono ?_); (case side1 => exact z8_17); (case side2 => exact HC0.out); rintro e w19 ⟨v348, rfl, ho0, hb⟩; have n0_ := Aside0.mk (Kd.R_elder' z8_1 (Kd.R_base ho0) hb); have n1_ := Aside0.mk (Kd.R_below z8_6 hb); have n2_ := Aside0.mk (Kd.R_lower (Kd.R_new' ho0 (Kd.R_lt z8_1)) (below_size z8_0)); have n3_ := Aside0.mk (below_step z8_0 hb); clear HO344; clear HO346; clear HB; have HO344 := n0_; have HO346 := n1_; have HO349 := n2_; have HB := n3_; clear n0_ n1_ n2_ n3_; (try clear hb); (try clear hb2); (try clear hk); (try clear hi); (try clear ho0); obtain ⟨Ao20, co20, eo20⟩ := Kd.R_slice HO349.out; subst eo20; have p350 : 0 ≤ (0 : Int) := (by omega); have q350 : 0 < (t347.length : Int) := of_decide_eq_true z8_4; obtain ⟨ad350, e350, hx350_0⟩ := Kd.at_int (Kd.R_reads' HO349.out).2.2 0 p350 q350; cases e350; have qi350 : (0 < t347.length) = True := eq_true (by omega); (try rw [show ((0 : Int)).toNat = 0 from rfl] at hx350_0); (try rw [Addr.add_zero'] at hx350_0); replace p350 := eq_true p350; replace q350 := eq_true q350; obtain ⟨Ao21, co21, eo21⟩ := Kd.R_slice HO346.out; subst eo21; obtain ⟨Ao22, co22, eo22⟩ := Kd.R_slice HO344.out; subst eo22) | (go_at_call 21; (with_reducible refine (impl_ApplyWrites.calls k _ _ t341 _ _ t342 ji9 t351 _ ?side1 ?side2 ?side3 ?side4 A8.out).mono ?_); (case side1 => exact z8_12); (case side2 => exact (Kd.R_reads' HO344.out).2.1); (case side3 => exact z8_11); (case side4 => exact (Kd.R_reads' HO346.out).2.1); rintro e w23 ⟨v352, rfl, ho0, hb⟩; have n0_ := Aside0.mk (Kd.R_elder' z8_1 (Kd.R_base ho0) hb); have n1_ := Aside0.mk (Kd.R_below z8_6 hb); have n2_ := Aside0.mk (Kd.R_elder' z8_2 (Kd.R_base ho0) hb); have n3_ := Aside0.mk (Kd.R_lower (Kd.R_new' (Kd.R_new' ho0 (Kd.R_lt z8_1)) (Kd.R_lt z8_2)) (below_size z8_0)); have n4_ := Aside0.mk (below_step z8_0 hb); clear HO344; clear HO346; clear HO349; clear HB; have HO344 := n0_; have HO346 := n1_; have HO349 := n2_; have HO353 := n3_; have HB := n4_; clear n0_ n1_ n2_ n3_ n4_; (try clear hb); (try clear hb2); (try clear hk); (try clear hi); (try clear ho0); have q24 : ((ji9) : Int) ≤ ((t342.length : Int) : Int) := of_decide_eq_true z8_4; obtain ⟨i024, hi024, _, hsz24, _⟩ := info_parts info31; have hroom24 : t342.length ≤ co21 := (Kd.R_reads' HO346.out).2.1; have hC24 : Kd.C k31 _ Ao21 t342.length t342 := (Kd.R_reads' HO346.out).2.2; have q024 : (0 : Int) ≤ ((ji9) : Int) := of_decide_eq_true z8_4; have hcut24 := cut_from (P := Try.prog) 25 31 .i64 Try.underlying25 hi024 2 hsz24 Ao21 t342.length co21 (ji9) q024 q24; have hr24 := Kd.C_drop (m := ((ji9) : Int).toNat) (c := co21) hC24 (by omega) hroom24; obtain ⟨A24, hA24⟩ : ∃ A1, A1 = (if co21 = ((ji9) : Int).toNat then Ao21 else (Ao21 : Option Addr).map (·.add (((ji9) : Int).toNat * 2))) := ⟨_, rfl⟩; obtain ⟨c24, hc24⟩ : ∃ c1, c1 = co21 - ((ji9) : Int).toNat := ⟨_, rfl⟩; have hy24 : y354.length = t342.length - ((ji9) : Int).toNat := (by rw [Ny354.out, List.length_drop] <;> omega); rw [show (t342).drop ((ji9) : Int).toNat = y354 from Ny354.out.symm] at hr24; replace hr24 : Kd.C k31 _ A24 y354.length y354 := (by rw [hA24]; exact hr24); rw [← hy24, ← hA24, ← hc24] at hcut24; have HR357 := Aside0.mk hr24; have HC357 := Aside0.mk (show y354.length ≤ c24 from by rw [hy24, hc24]; exact Nat.sub_le_sub_right hroom24 _); clear hr24 hC24 hroom24 hi024 hsz24 hc24; have KY24 := Aside0.mk hy24; have KA24 := Aside0.mk hA24; clear hy24 hA24; have KL24 := Aside0.mk (show ((ji9) : Int).toNat ≤ t342.length from by omega); replace q24 := eq_true q24; obtain ⟨Ao25, co25, eo25⟩ := Kd.R_slice HO353.out; subst eo25) | (go_at_call 21; (with_reducible refine (impl_ApplyWrites.calls k _ _ t351 _ _ y354 (t342.length : Int) t358 _ ?side1 ?side2 ?side3 ?side4 A12.out).mono ?_); (case side1 => exact z8_16); (case side2 => exact (Kd.R_reads' HO353.out).2.1); (case side3 => exact z8_20); (case side4 => exact HC357.out); rintro e w26 ⟨v359, rfl, ho0, hb⟩; have n0_ := Aside0.mk (Kd.R_elder' z8_1 (Kd.R_base ho0) hb); have n1_ := Aside0.mk (Kd.R_below z8_6 hb); have n2_ := Aside0.mk (Kd.R_elder' z8_2 (Kd.R_base ho0) hb); have n3_ := Aside0.mk (Kd.R_elder' z8_5 (Kd.R_base ho0) hb); have n4_ := Aside0.mk (Kd.R_lower (Kd.R_new' (Kd.R_new' (Kd.R_new' ho0 (Kd.R_lt z8_1)) (Kd.R_lt z8_2)) (Kd.R_lt z8_5)) (below_size z8_0)); have n5_ := Aside0.mk (Kd.C_below z8_3 hb); have n6_ := Aside0.mk (below_step z8_0 hb); clear HO344; clear HO346; clear HO349; clear HO353; clear HR357; clear HB; have HO344 := n0_; have HO346 := n1_; have HO349 := n2_; have HO353 := n3_; have HO360 := n4_; have HR357 := n5_; have HB := n6_; clear n0_ n1_ n2_ n3_ n4_ n5_ n6_; (try clear hb); (try clear hb2); (try clear hk); (try clear hi); (try clear ho0)) | (go_at_call 21; (with_reducible refine (impl_ApplyWrites.calls k _ _ t341 _ _ t342 (t342.length : Int) t361 _ ?side1 ?side2 ?side3 ?side4 A13.out).mono ?_); (case side1 => exact z8_12); (case side2 => exact (Kd.R_reads' HO344.out).2.1); (case side3 => exact z8_11); (case side4 => exact (Kd.R_reads' HO346.out).2.1); rintro e w27 ⟨v362, rfl, ho0, hb⟩; have n0_ := Aside0.mk (Kd.R_elder' z8_1 (Kd.R_base ho0) hb); have n1_ := Aside0.mk (Kd.R_below z8_6 hb); have n2_ := Aside0.mk (Kd.R_elder' z8_2 (Kd.R_base ho0) hb); have n3_ := Aside0.mk (Kd.R_elder' z8_5 (Kd.R_base ho0) hb); have n4_ := Aside0.mk (Kd.R_elder' z8_9 (Kd.R_base ho0) hb); have n5_ := Aside0.mk (Kd.R_lower (Kd.R_new' (Kd.R_new' (Kd.R_new' (Kd.R_new' ho0 (Kd.R_lt z8_1)) (Kd.R_lt z8_2)) (Kd.R_lt z8_5)) (Kd.R_lt z8_9)) (below_size z8_0)); have n6_ := Aside0.mk (Kd.C_below z8_3 hb); have n7_ := Aside0.mk (below_step z8_0 hb); clear HO344; clear HO346; clear HO349; clear HO353; clear HO360; clear HR357; clear HB; have HO344 := n0_; have HO346 := n1_; have HO349 := n2_; have HO353 := n3_; have HO360 := n4_; have HO363 := n5_; have HR357 := n6_; have HB := n7_; clear n0_ n1_ n2_ n3_ n4_ n5_ n6_ n7_; (try clear hb); (try clear hb2); (try clear hk); (try clear hi); (try clear ho0); have q28 : ((ji9) : Int) ≤ ((t342.length : Int) : Int) := of_decide_eq_true z8_4; obtain ⟨i028, hi028, _, hsz28, _⟩ := info_parts info31; have hroom28 : t342.length ≤ co21 := (Kd.R_reads' HO346.out).2.1; have hC28 : Kd.C k31 _ Ao21 t342.length t342 := (Kd.R_reads' HO346.out).2.2; have hcut28 := cut_to (P := Try.prog) 25 31 .i64 Try.underlying25 hi028 Ao21 t342.length co21 (ji9) (of_decide_eq_true z8_4) q28 hroom28; have hr28 := Kd.C_take (m := ((ji9) : Int).toNat) hC28 (by omega); have hy28 : y364.length = ((ji9) : Int).toNat := (by rw [Ny364.out, List.length_take]; omega); rw [← Ny364.out] at hr28; rw [← hy28] at hcut28; have HR367 := Aside0.mk hr28; have HC367 := Aside0.mk (show y364.length ≤ co21 from by omega); clear hr28 hC28 hroom28 hi028 hsz28; have KY28 := Aside0.mk hy28; clear hy28; have KL28 := Aside0.mk (show ((ji9) : Int).toNat ≤ t342.length from by omega); replace q28 := eq_true q28) | (go_at_call 8; (with_reducible refine (impl_TouchedWords.calls _ _ y364 t368 _ ?side1 ?side2 A16.out).mono ?_); (case side1 => exact z8_19); (case side2 => exact HC367.out); rintro e w29 ⟨v369, rfl, ho0, hb⟩; have n0_ := Aside0.mk (Kd.R_elder' z8_1 (Kd.R_base ho0) hb); have n1_ := Aside0.mk (Kd.R_below z8_6 hb); have n2_ := Aside0.mk (Kd.R_elder' z8_2 (Kd.R_base ho0) hb); have n3_ := Aside0.mk (Kd.R_elder' z8_5 (Kd.R_base ho0) hb); have n4_ := Aside0.mk (Kd.R_elder' z8_9 (Kd.R_base ho0) hb); have n5_ := Aside0.mk (Kd.R_elder' z8_13 (Kd.R_base ho0) hb); have n6_ := Aside0.mk (Kd.R_lower (Kd.R_new' (Kd.R_new' (Kd.R_new' (Kd.R_new' (Kd.R_new' ho0 (Kd.R_lt z8_1)) (Kd.R_lt z8_2)) (Kd.R_lt z8_5)) (Kd.R_lt z8_9)) (Kd.R_lt z8_13)) (below_size z8_0)); have n7_ := Aside0.mk (Kd.C_below z8_3 hb); have n8_ := Aside0.mk (Kd.C_below z8_10 hb); have n9_ := Aside0.mk (below_step z8_0 hb); clear HO344; clear HO346; clear HO349; clear HO353; clear HO360; clear HO363; clear HR357; clear HR367; clear HB; have HO344 := n0_; have HO346 := n1_; have HO349 := n2_; have HO353 := n3_; have HO360 := n4_; have HO363 := n5_; have HO370 := n6_; have HR357 := n7_; have HR367 := n8_; have HB := n9_; clear n0_ n1_ n2_ n3_ n4_ n5_ n6_ n7_ n8_ n9_; (try clear hb); (try clear hb2); (try clear hk); (try clear hi); (try clear ho0)))
            repeat (go_quiet (first | (go_at_call 6; (with_reducible refine (laws_big.calls _ _ l0 false _ ?side1 ?side2 A2.out).mono ?_); (case side1 => exact z8_8); (case side2 => exact HC0.out); rintro e w' ⟨rfl, ⟨nd, rfl⟩⟩; (try first | exact ⟨rfl, _, World.drewN_drewN _ _ _⟩ | exact ⟨rfl, _, Eq.trans (World.drewN_drewN _ _ _) (congrArg (World.drewN _) (Nat.add_assoc _ _ _))⟩)) | (go_at_call 7; (with_reducible refine (spec_DrawWrites.calls k _ _ l0 t341 t342 _ ?side1 ?side2 A4.out).mono ?_); (case side1 => exact z8_8); (case side2 => exact HC0.out); rintro e w18 ⟨v343, v345, rfl, ho0, ho1, hb⟩; have n0_ := Aside0.mk (Kd.R_lower ho0 (below_size z8_0)); have n1_ := Aside0.mk (Kd.R_lower ho1 (below_size z8_0)); have n2_ := Aside0.mk (below_step z8_0 hb); clear HB; have HO344 := n0_; have HO346 := n1_; have HB := n2_; clear n0_ n1_ n2_; (try clear hb); (try clear hb2); (try clear hk); (try clear hi); (try clear ho0); (try clear ho1)) | (go_at_call 10; (with_reducible refine (spec_DrawPlaces.calls k _ _ l0 t347 _ ?side1 ?side2 A5.out).mono ?_); (case side1 => exact z8_17); (case side2 => exact HC0.out); rintro e w19 ⟨v348, rfl, ho0, hb⟩; have n0_ := Aside0.mk (Kd.R_elder' z8_1 (Kd.R_base ho0) hb); have n1_ := Aside0.mk (Kd.R_below z8_6 hb); have n2_ := Aside0.mk (Kd.R_lower (Kd.R_new' ho0 (Kd.R_lt z8_1)) (below_size z8_0)); have n3_ := Aside0.mk (below_step z8_0 hb); clear HO344; clear HO346; clear HB; have HO344 := n0_; have HO346 := n1_; have HO349 := n2_; have HB := n3_; clear n0_ n1_ n2_ n3_; (try clear hb); (try clear hb2); (try clear hk); (try clear hi); (try clear ho0); obtain ⟨Ao20, co20, eo20⟩ := Kd.R_slice HO349.out; subst eo20; have p350 : 0 ≤ (0 : Int) := (by omega); have q350 : 0 < (t347.length : Int) := of_decide_eq_true z8_4; obtain ⟨ad350, e350, hx350_0⟩ := Kd.at_int (Kd.R_reads' HO349.out).2.2 0 p350 q350; cases e350; have qi350 : (0 < t347.length) = True := eq_true (by omega); (try rw [show ((0 : Int)).toNat = 0 from rfl] at hx350_0); (try rw [Addr.add_zero'] at hx350_0); replace p350 := eq_true p350; replace q350 := eq_true q350; obtain ⟨Ao21, co21, eo21⟩ := Kd.R_slice HO346.out; subst eo21; obtain ⟨Ao22, co22, eo22⟩ := Kd.R_slice HO344.out; subst eo22) | (go_at_call 21; (with_reducible refine (impl_ApplyWrites.calls k _ _ t341 _ _ t342 ji9 t351 _ ?side1 ?side2 ?side3 ?side4 A8.out).mono ?_); (case side1 => exact z8_12); (case side2 => exact (Kd.R_reads' HO344.out).2.1); (case side3 => exact z8_11); (case side4 => exact (Kd.R_reads' HO346.out).2.1); rintro e w23 ⟨v352, rfl, ho0, hb⟩; have n0_ := Aside0.mk (Kd.R_elder' z8_1 (Kd.R_base ho0) hb); have n1_ := Aside0.mk (Kd.R_below z8_6 hb); have n2_ := Aside0.mk (Kd.R_elder' z8_2 (Kd.R_base ho0) hb); have n3_ := Aside0.mk (Kd.R_lower (Kd.R_new' (Kd.R_new' ho0 (Kd.R_lt z8_1)) (Kd.R_lt z8_2)) (below_size z8_0)); have n4_ := Aside0.mk (below_step z8_0 hb); clear HO344; clear HO346; clear HO349; clear HB; have HO344 := n0_; have HO346 := n1_; have HO349 := n2_; have HO353 := n3_; have HB := n4_; clear n0_ n1_ n2_ n3_ n4_; (try clear hb); (try clear hb2); (try clear hk); (try clear hi); (try clear ho0); have q24 : ((ji9) : Int) ≤ ((t342.length : Int) : Int) := of_decide_eq_true z8_4; obtain ⟨i024, hi024, _, hsz24, _⟩ := info_parts info31; have hroom24 : t342.length ≤ co21 := (Kd.R_reads' HO346.out).2.1; have hC24 : Kd.C k31 _ Ao21 t342.length t342 := (Kd.R_reads' HO346.out).2.2; have q024 : (0 : Int) ≤ ((ji9) : Int) := of_decide_eq_true z8_4; have hcut24 := cut_from (P := Try.prog) 25 31 .i64 Try.underlying25 hi024 2 hsz24 Ao21 t342.length co21 (ji9) q024 q24; have hr24 := Kd.C_drop (m := ((ji9) : Int).toNat) (c := co21) hC24 (by omega) hroom24; obtain ⟨A24, hA24⟩ : ∃ A1, A1 = (if co21 = ((ji9) : Int).toNat then Ao21 else (Ao21 : Option Addr).map (·.add (((ji9) : Int).toNat * 2))) := ⟨_, rfl⟩; obtain ⟨c24, hc24⟩ : ∃ c1, c1 = co21 - ((ji9) : Int).toNat := ⟨_, rfl⟩; have hy24 : y354.length = t342.length - ((ji9) : Int).toNat := (by rw [Ny354.out, List.length_drop] <;> omega); rw [show (t342).drop ((ji9) : Int).toNat = y354 from Ny354.out.symm] at hr24; replace hr24 : Kd.C k31 _ A24 y354.length y354 := (by rw [hA24]; exact hr24); rw [← hy24, ← hA24, ← hc24] at hcut24; have HR357 := Aside0.mk hr24; have HC357 := Aside0.mk (show y354.length ≤ c24 from by rw [hy24, hc24]; exact Nat.sub_le_sub_right hroom24 _); clear hr24 hC24 hroom24 hi024 hsz24 hc24; have KY24 := Aside0.mk hy24; have KA24 := Aside0.mk hA24; clear hy24 hA24; have KL24 := Aside0.mk (show ((ji9) : Int).toNat ≤ t342.length from by omega); replace q24 := eq_true q24; obtain ⟨Ao25, co25, eo25⟩ := Kd.R_slice HO353.out; subst eo25) | (go_at_call 21; (with_reducible refine (impl_ApplyWrites.calls k _ _ t351 _ _ y354 (t342.length : Int) t358 _ ?side1 ?side2 ?side3 ?side4 A12.out).mono ?_); (case side1 => exact z8_16); (case side2 => exact (Kd.R_reads' HO353.out).2.1); (case side3 => exact z8_20); (case side4 => exact HC357.out); rintro e w26 ⟨v359, rfl, ho0, hb⟩; have n0_ := Aside0.mk (Kd.R_elder' z8_1 (Kd.R_base ho0) hb); have n1_ := Aside0.mk (Kd.R_below z8_6 hb); have n2_ := Aside0.mk (Kd.R_elder' z8_2 (Kd.R_base ho0) hb); have n3_ := Aside0.mk (Kd.R_elder' z8_5 (Kd.R_base ho0) hb); have n4_ := Aside0.mk (Kd.R_lower (Kd.R_new' (Kd.R_new' (Kd.R_new' ho0 (Kd.R_lt z8_1)) (Kd.R_lt z8_2)) (Kd.R_lt z8_5)) (below_size z8_0)); have n5_ := Aside0.mk (Kd.C_below z8_3 hb); have n6_ := Aside0.mk (below_step z8_0 hb); clear HO344; clear HO346; clear HO349; clear HO353; clear HR357; clear HB; have HO344 := n0_; have HO346 := n1_; have HO349 := n2_; have HO353 := n3_; have HO360 := n4_; have HR357 := n5_; have HB := n6_; clear n0_ n1_ n2_ n3_ n4_ n5_ n6_; (try clear hb); (try clear hb2); (try clear hk); (try clear hi); (try clear ho0)) | (go_at_call 21; (with_reducible refine (impl_ApplyWrites.calls k _ _ t341 _ _ t342 (t342.length : Int) t361 _ ?side1 ?side2 ?side3 ?side4 A13.out).mono ?_); (case side1 => exact z8_12); (case side2 => exact (Kd.R_reads' HO344.out).2.1); (case side3 => exact z8_11); (case side4 => exact (Kd.R_reads' HO346.out).2.1); rintro e w27 ⟨v362, rfl, ho0, hb⟩; have n0_ := Aside0.mk (Kd.R_elder' z8_1 (Kd.R_base ho0) hb); have n1_ := Aside0.mk (Kd.R_below z8_6 hb); have n2_ := Aside0.mk (Kd.R_elder' z8_2 (Kd.R_base ho0) hb); have n3_ := Aside0.mk (Kd.R_elder' z8_5 (Kd.R_base ho0) hb); have n4_ := Aside0.mk (Kd.R_elder' z8_9 (Kd.R_base ho0) hb); have n5_ := Aside0.mk (Kd.R_lower (Kd.R_new' (Kd.R_new' (Kd.R_new' (Kd.R_new' ho0 (Kd.R_lt z8_1)) (Kd.R_lt z8_2)) (Kd.R_lt z8_5)) (Kd.R_lt z8_9)) (below_size z8_0)); have n6_ := Aside0.mk (Kd.C_below z8_3 hb); have n7_ := Aside0.mk (below_step z8_0 hb); clear HO344; clear HO346; clear HO349; clear HO353; clear HO360; clear HR357; clear HB; have HO344 := n0_; have HO346 := n1_; have HO349 := n2_; have HO353 := n3_; have HO360 := n4_; have HO363 := n5_; have HR357 := n6_; have HB := n7_; clear n0_ n1_ n2_ n3_ n4_ n5_ n6_ n7_; (try clear hb); (try clear hb2); (try clear hk); (try clear hi); (try clear ho0); have q28 : ((ji9) : Int) ≤ ((t342.length : Int) : Int) := of_decide_eq_true z8_4; obtain ⟨i028, hi028, _, hsz28, _⟩ := info_parts info31; have hroom28 : t342.length ≤ co21 := (Kd.R_reads' HO346.out).2.1; have hC28 : Kd.C k31 _ Ao21 t342.length t342 := (Kd.R_reads' HO346.out).2.2; have hcut28 := cut_to (P := Try.prog) 25 31 .i64 Try.underlying25 hi028 Ao21 t342.length co21 (ji9) (of_decide_eq_true z8_4) q28 hroom28; have hr28 := Kd.C_take (m := ((ji9) : Int).toNat) hC28 (by omega); have hy28 : y364.length = ((ji9) : Int).toNat := (by rw [Ny364.out, List.length_take]; omega); rw [← Ny364.out] at hr28; rw [← hy28] at hcut28; have HR367 := Aside0.mk hr28; have HC367 := Aside0.mk (show y364.length ≤ co21 from by omega); clear hr28 hC28 hroom28 hi028 hsz28; have KY28 := Aside0.mk hy28; clear hy28; have KL28 := Aside0.mk (show ((ji9) : Int).toNat ≤ t342.length from by omega); replace q28 := eq_true q28) | (go_at_call 8; (with_reducible refine (impl_TouchedWords.calls _ _ y364 t368 _ ?side1 ?side2 A16.out).mono ?_); (case side1 => exact z8_19); (case side2 => exact HC367.out); rintro e w29 ⟨v369, rfl, ho0, hb⟩; have n0_ := Aside0.mk (Kd.R_elder' z8_1 (Kd.R_base ho0) hb); have n1_ := Aside0.mk (Kd.R_below z8_6 hb); have n2_ := Aside0.mk (Kd.R_elder' z8_2 (Kd.R_base ho0) hb); have n3_ := Aside0.mk (Kd.R_elder' z8_5 (Kd.R_base ho0) hb); have n4_ := Aside0.mk (Kd.R_elder' z8_9 (Kd.R_base ho0) hb); have n5_ := Aside0.mk (Kd.R_elder' z8_13 (Kd.R_base ho0) hb); have n6_ := Aside0.mk (Kd.R_lower (Kd.R_new' (Kd.R_new' (Kd.R_new' (Kd.R_new' (Kd.R_new' ho0 (Kd.R_lt z8_1)) (Kd.R_lt z8_2)) (Kd.R_lt z8_5)) (Kd.R_lt z8_9)) (Kd.R_lt z8_13)) (below_size z8_0)); have n7_ := Aside0.mk (Kd.C_below z8_3 hb); have n8_ := Aside0.mk (Kd.C_below z8_10 hb); have n9_ := Aside0.mk (below_step z8_0 hb); clear HO344; clear HO346; clear HO349; clear HO353; clear HO360; clear HO363; clear HR357; clear HR367; clear HB; have HO344 := n0_; have HO346 := n1_; have HO349 := n2_; have HO353 := n3_; have HO360 := n4_; have HO363 := n5_; have HO370 := n6_; have HR357 := n7_; have HR367 := n8_; have HB := n9_; clear n0_ n1_ n2_ n3_ n4_ n5_ n6_ n7_ n8_ n9_; (try clear hb); (try clear hb2); (try clear hk); (try clear hi); (try clear ho0))); go_upto_region 10 with (first | (go_at_call 6; (with_reducible refine (laws_big.calls _ _ l0 false _ ?side1 ?side2 A2.out).mono ?_); (case side1 => exact z8_8); (case side2 => exact HC0.out); rintro e w' ⟨rfl, ⟨nd, rfl⟩⟩; (try first | exact ⟨rfl, _, World.drewN_drewN _ _ _⟩ | exact ⟨rfl, _, Eq.trans (World.drewN_drewN _ _ _) (congrArg (World.drewN _) (Nat.add_assoc _ _ _))⟩)) | (go_at_call 7; (with_reducible refine (spec_DrawWrites.calls k _ _ l0 t341 t342 _ ?side1 ?side2 A4.out).mono ?_); (case side1 => exact z8_8); (case side2 => exact HC0.out); rintro e w18 ⟨v343, v345, rfl, ho0, ho1, hb⟩; have n0_ := Aside0.mk (Kd.R_lower ho0 (below_size z8_0)); have n1_ := Aside0.mk (Kd.R_lower ho1 (below_size z8_0)); have n2_ := Aside0.mk (below_step z8_0 hb); clear HB; have HO344 := n0_; have HO346 := n1_; have HB := n2_; clear n0_ n1_ n2_; (try clear hb); (try clear hb2); (try clear hk); (try clear hi); (try clear ho0); (try clear ho1)) | (go_at_call 10; (with_reducible refine (spec_DrawPlaces.calls k _ _ l0 t347 _ ?side1 ?side2 A5.out).mono ?_); (case side1 => exact z8_17); (case side2 => exact HC0.out); rintro e w19 ⟨v348, rfl, ho0, hb⟩; have n0_ := Aside0.mk (Kd.R_elder' z8_1 (Kd.R_base ho0) hb); have n1_ := Aside0.mk (Kd.R_below z8_6 hb); have n2_ := Aside0.mk (Kd.R_lower (Kd.R_new' ho0 (Kd.R_lt z8_1)) (below_size z8_0)); have n3_ := Aside0.mk (below_step z8_0 hb); clear HO344; clear HO346; clear HB; have HO344 := n0_; have HO346 := n1_; have HO349 := n2_; have HB := n3_; clear n0_ n1_ n2_ n3_; (try clear hb); (try clear hb2); (try clear hk); (try clear hi); (try clear ho0); obtain ⟨Ao20, co20, eo20⟩ := Kd.R_slice HO349.out; subst eo20; have p350 : 0 ≤ (0 : Int) := (by omega); have q350 : 0 < (t347.length : Int) := of_decide_eq_true z8_4; obtain ⟨ad350, e350, hx350_0⟩ := Kd.at_int (Kd.R_reads' HO349.out).2.2 0 p350 q350; cases e350; have qi350 : (0 < t347.length) = True := eq_true (by omega); (try rw [show ((0 : Int)).toNat = 0 from rfl] at hx350_0); (try rw [Addr.add_zero'] at hx350_0); replace p350 := eq_true p350; replace q350 := eq_true q350; obtain ⟨Ao21, co21, eo21⟩ := Kd.R_slice HO346.out; subst eo21; obtain ⟨Ao22, co22, eo22⟩ := Kd.R_slice HO344.out; subst eo22) | (go_at_call 21; (with_reducible refine (impl_ApplyWrites.calls k _ _ t341 _ _ t342 ji9 t351 _ ?side1 ?side2 ?side3 ?side4 A8.out).mono ?_); (case side1 => exact z8_12); (case side2 => exact (Kd.R_reads' HO344.out).2.1); (case side3 => exact z8_11); (case side4 => exact (Kd.R_reads' HO346.out).2.1); rintro e w23 ⟨v352, rfl, ho0, hb⟩; have n0_ := Aside0.mk (Kd.R_elder' z8_1 (Kd.R_base ho0) hb); have n1_ := Aside0.mk (Kd.R_below z8_6 hb); have n2_ := Aside0.mk (Kd.R_elder' z8_2 (Kd.R_base ho0) hb); have n3_ := Aside0.mk (Kd.R_lower (Kd.R_new' (Kd.R_new' ho0 (Kd.R_lt z8_1)) (Kd.R_lt z8_2)) (below_size z8_0)); have n4_ := Aside0.mk (below_step z8_0 hb); clear HO344; clear HO346; clear HO349; clear HB; have HO344 := n0_; have HO346 := n1_; have HO349 := n2_; have HO353 := n3_; have HB := n4_; clear n0_ n1_ n2_ n3_ n4_; (try clear hb); (try clear hb2); (try clear hk); (try clear hi); (try clear ho0); have q24 : ((ji9) : Int) ≤ ((t342.length : Int) : Int) := of_decide_eq_true z8_4; obtain ⟨i024, hi024, _, hsz24, _⟩ := info_parts info31; have hroom24 : t342.length ≤ co21 := (Kd.R_reads' HO346.out).2.1; have hC24 : Kd.C k31 _ Ao21 t342.length t342 := (Kd.R_reads' HO346.out).2.2; have q024 : (0 : Int) ≤ ((ji9) : Int) := of_decide_eq_true z8_4; have hcut24 := cut_from (P := Try.prog) 25 31 .i64 Try.underlying25 hi024 2 hsz24 Ao21 t342.length co21 (ji9) q024 q24; have hr24 := Kd.C_drop (m := ((ji9) : Int).toNat) (c := co21) hC24 (by omega) hroom24; obtain ⟨A24, hA24⟩ : ∃ A1, A1 = (if co21 = ((ji9) : Int).toNat then Ao21 else (Ao21 : Option Addr).map (·.add (((ji9) : Int).toNat * 2))) := ⟨_, rfl⟩; obtain ⟨c24, hc24⟩ : ∃ c1, c1 = co21 - ((ji9) : Int).toNat := ⟨_, rfl⟩; have hy24 : y354.length = t342.length - ((ji9) : Int).toNat := (by rw [Ny354.out, List.length_drop] <;> omega); rw [show (t342).drop ((ji9) : Int).toNat = y354 from Ny354.out.symm] at hr24; replace hr24 : Kd.C k31 _ A24 y354.length y354 := (by rw [hA24]; exact hr24); rw [← hy24, ← hA24, ← hc24] at hcut24; have HR357 := Aside0.mk hr24; have HC357 := Aside0.mk (show y354.length ≤ c24 from by rw [hy24, hc24]; exact Nat.sub_le_sub_right hroom24 _); clear hr24 hC24 hroom24 hi024 hsz24 hc24; have KY24 := Aside0.mk hy24; have KA24 := Aside0.mk hA24; clear hy24 hA24; have KL24 := Aside0.mk (show ((ji9) : Int).toNat ≤ t342.length from by omega); replace q24 := eq_true q24; obtain ⟨Ao25, co25, eo25⟩ := Kd.R_slice HO353.out; subst eo25) | (go_at_call 21; (with_reducible refine (impl_ApplyWrites.calls k _ _ t351 _ _ y354 (t342.length : Int) t358 _ ?side1 ?side2 ?side3 ?side4 A12.out).mono ?_); (case side1 => exact z8_16); (case side2 => exact (Kd.R_reads' HO353.out).2.1); (case side3 => exact z8_20); (case side4 => exact HC357.out); rintro e w26 ⟨v359, rfl, ho0, hb⟩; have n0_ := Aside0.mk (Kd.R_elder' z8_1 (Kd.R_base ho0) hb); have n1_ := Aside0.mk (Kd.R_below z8_6 hb); have n2_ := Aside0.mk (Kd.R_elder' z8_2 (Kd.R_base ho0) hb); have n3_ := Aside0.mk (Kd.R_elder' z8_5 (Kd.R_base ho0) hb); have n4_ := Aside0.mk (Kd.R_lower (Kd.R_new' (Kd.R_new' (Kd.R_new' ho0 (Kd.R_lt z8_1)) (Kd.R_lt z8_2)) (Kd.R_lt z8_5)) (below_size z8_0)); have n5_ := Aside0.mk (Kd.C_below z8_3 hb); have n6_ := Aside0.mk (below_step z8_0 hb); clear HO344; clear HO346; clear HO349; clear HO353; clear HR357; clear HB; have HO344 := n0_; have HO346 := n1_; have HO349 := n2_; have HO353 := n3_; have HO360 := n4_; have HR357 := n5_; have HB := n6_; clear n0_ n1_ n2_ n3_ n4_ n5_ n6_; (try clear hb); (try clear hb2); (try clear hk); (try clear hi); (try clear ho0)) | (go_at_call 21; (with_reducible refine (impl_ApplyWrites.calls k _ _ t341 _ _ t342 (t342.length : Int) t361 _ ?side1 ?side2 ?side3 ?side4 A13.out).mono ?_); (case side1 => exact z8_12); (case side2 => exact (Kd.R_reads' HO344.out).2.1); (case side3 => exact z8_11); (case side4 => exact (Kd.R_reads' HO346.out).2.1); rintro e w27 ⟨v362, rfl, ho0, hb⟩; have n0_ := Aside0.mk (Kd.R_elder' z8_1 (Kd.R_base ho0) hb); have n1_ := Aside0.mk (Kd.R_below z8_6 hb); have n2_ := Aside0.mk (Kd.R_elder' z8_2 (Kd.R_base ho0) hb); have n3_ := Aside0.mk (Kd.R_elder' z8_5 (Kd.R_base ho0) hb); have n4_ := Aside0.mk (Kd.R_elder' z8_9 (Kd.R_base ho0) hb); have n5_ := Aside0.mk (Kd.R_lower (Kd.R_new' (Kd.R_new' (Kd.R_new' (Kd.R_new' ho0 (Kd.R_lt z8_1)) (Kd.R_lt z8_2)) (Kd.R_lt z8_5)) (Kd.R_lt z8_9)) (below_size z8_0)); have n6_ := Aside0.mk (Kd.C_below z8_3 hb); have n7_ := Aside0.mk (below_step z8_0 hb); clear HO344; clear HO346; clear HO349; clear HO353; clear HO360; clear HR357; clear HB; have HO344 := n0_; have HO346 := n1_; have HO349 := n2_; have HO353 := n3_; have HO360 := n4_; have HO363 := n5_; have HR357 := n6_; have HB := n7_; clear n0_ n1_ n2_ n3_ n4_ n5_ n6_ n7_; (try clear hb); (try clear hb2); (try clear hk); (try clear hi); (try clear ho0); have q28 : ((ji9) : Int) ≤ ((t342.length : Int) : Int) := of_decide_eq_true z8_4; obtain ⟨i028, hi028, _, hsz28, _⟩ := info_parts info31; have hroom28 : t342.length ≤ co21 := (Kd.R_reads' HO346.out).2.1; have hC28 : Kd.C k31 _ Ao21 t342.length t342 := (Kd.R_reads' HO346.out).2.2; have hcut28 := cut_to (P := Try.prog) 25 31 .i64 Try.underlying25 hi028 Ao21 t342.length co21 (ji9) (of_decide_eq_true z8_4) q28 hroom28; have hr28 := Kd.C_take (m := ((ji9) : Int).toNat) hC28 (by omega); have hy28 : y364.length = ((ji9) : Int).toNat := (by rw [Ny364.out, List.length_take]; omega); rw [← Ny364.out] at hr28; rw [← hy28] at hcut28; have HR367 := Aside0.mk hr28; have HC367 := Aside0.mk (show y364.length ≤ co21 from by omega); clear hr28 hC28 hroom28 hi028 hsz28; have KY28 := Aside0.mk hy28; clear hy28; have KL28 := Aside0.mk (show ((ji9) : Int).toNat ≤ t342.length from by omega); replace q28 := eq_true q28) | (go_at_call 8; (with_reducible refine (impl_TouchedWords.calls _ _ y364 t368 _ ?side1 ?side2 A16.out).mono ?_); (case side1 => exact z8_19); (case side2 => exact HC367.out); rintro e w29 ⟨v369, rfl, ho0, hb⟩; have n0_ := Aside0.mk (Kd.R_elder' z8_1 (Kd.R_base ho0) hb); have n1_ := Aside0.mk (Kd.R_below z8_6 hb); have n2_ := Aside0.mk (Kd.R_elder' z8_2 (Kd.R_base ho0) hb); have n3_ := Aside0.mk (Kd.R_elder' z8_5 (Kd.R_base ho0) hb); have n4_ := Aside0.mk (Kd.R_elder' z8_9 (Kd.R_base ho0) hb); have n5_ := Aside0.mk (Kd.R_elder' z8_13 (Kd.R_base ho0) hb); have n6_ := Aside0.mk (Kd.R_lower (Kd.R_new' (Kd.R_new' (Kd.R_new' (Kd.R_new' (Kd.R_new' ho0 (Kd.R_lt z8_1)) (Kd.R_lt z8_2)) (Kd.R_lt z8_5)) (Kd.R_lt z8_9)) (Kd.R_lt z8_13)) (below_size z8_0)); have n7_ := Aside0.mk (Kd.C_below z8_3 hb); have n8_ := Aside0.mk (Kd.C_below z8_10 hb); have n9_ := Aside0.mk (below_step z8_0 hb); clear HO344; clear HO346; clear HO349; clear HO353; clear HO360; clear HO363; clear HR357; clear HR367; clear HB; have HO344 := n0_; have HO346 := n1_; have HO349 := n2_; have HO353 := n3_; have HO360 := n4_; have HO363 := n5_; have HO370 := n6_; have HR357 := n7_; have HR367 := n8_; have HB := n9_; clear n0_ n1_ n2_ n3_ n4_ n5_ n6_ n7_ n8_ n9_; (try clear hb); (try clear hb2); (try clear hk); (try clear hi); (try clear ho0))))
            (try simp only [Act.put, List.setIfInBounds_toArray, List.set_cons_zero, List.set_cons_succ])
            go_cut [58] (fun v58 wc => ∃ (kq : Nat) (x58_16 : Bool), v58 = .bool x58_16 ∧ Aside0 (laws_FnParts.j0 kq t341 t351 t368 x58_16 = some r) ∧ Aside0 (kq ≤ k) ∧ Aside0 (Kd.R (Kd.int .i64) 3 wc w.heap.size (fun k_ => some k_ ≠ ((.slice Ao25 t351.length co25) : Value).ownBlock ∧ some k_ ≠ (v369 : Value).ownBlock) (.slice Ao22 t341.length co22) t341) ∧ Aside0 (Kd.R (Kd.int .i64) 3 wc w.heap.size (fun k_ => some k_ ≠ ((.slice Ao22 t341.length co22) : Value).ownBlock ∧ some k_ ≠ (v369 : Value).ownBlock) (.slice Ao25 t351.length co25) t351) ∧ Aside0 (Kd.R (Kd.int .i64) 3 wc w.heap.size (fun k_ => some k_ ≠ ((.slice Ao22 t341.length co22) : Value).ownBlock ∧ some k_ ≠ ((.slice Ao25 t351.length co25) : Value).ownBlock) v369 t368) ∧ Aside0 (Kd.C k31 wc A24 y354.length y354) ∧ Aside0 (Kd.C k31 wc Ao21 y364.length y364) ∧ Aside0 (Below w.heap.size w wc))
            case first =>
              have H := HC17.out
              clear HC17
              by_cases c30 : (t351.length : Int) = (t341.length : Int)
              · rw [if_pos c30] at H
                have c30b0 : ((t351.length : Int) == (t341.length : Int)) = true := beq_iff_eq.mpr c30
                have c30b1 : ((t351.length : Int) != (t341.length : Int)) = false := bne_eq_false_iff_eq.mpr c30
                have c30b2 : (t351.length == t341.length) = true := by first | simpa using c30 | (simp at c30 ⊢; omega)
                clear c30
                (first | rw [c30b0] | (simp only [i64_w, i32_w]; rw [c30b0]) | skip)
                replace H := Option.bind_eq_some_iff.mp H
                obtain ⟨t371, A310, H⟩ := H
                replace H : (laws_FnParts.j0 k t341 t351 t368 (!t371)) = some r := H
                have A31 := Aside0.mk A310
                clear A310
                have H' := Aside0.mk H
                clear H
                obtain ⟨Ao32, co32, eo32⟩ := Kd.R_slice HO363.out
                subst eo32
                obtain ⟨Ao33, co33, eo33⟩ := Kd.R_slice HO360.out
                subst eo33
                go_wp2_with (first | (go_at_call 22; (with_reducible refine (laws_sameInts.calls k _ _ t361 _ _ t358 t371 _ ?side1 ?side2 ?side3 ?side4 A31.out).mono ?_); (case side1 => exact z8_14); (case side2 => exact (Kd.R_reads' HO363.out).2.1); (case side3 => exact z8_15); (case side4 => exact (Kd.R_reads' HO360.out).2.1); rintro e w' ⟨rfl, ⟨nd, rfl⟩⟩; (try first | exact ⟨rfl, _, World.drewN_drewN _ _ _⟩ | exact ⟨rfl, _, Eq.trans (World.drewN_drewN _ _ _) (congrArg (World.drewN _) (Nat.add_assoc _ _ _))⟩)))
                repeat (go_quiet (first | (go_at_call 22; (with_reducible refine (laws_sameInts.calls k _ _ t361 _ _ t358 t371 _ ?side1 ?side2 ?side3 ?side4 A31.out).mono ?_); (case side1 => exact z8_14); (case side2 => exact (Kd.R_reads' HO363.out).2.1); (case side3 => exact z8_15); (case side4 => exact (Kd.R_reads' HO360.out).2.1); rintro e w' ⟨rfl, ⟨nd, rfl⟩⟩; (try first | exact ⟨rfl, _, World.drewN_drewN _ _ _⟩ | exact ⟨rfl, _, Eq.trans (World.drewN_drewN _ _ _) (congrArg (World.drewN _) (Nat.add_assoc _ _ _))⟩))); try go_wp2_with (first | (go_at_call 22; (with_reducible refine (laws_sameInts.calls k _ _ t361 _ _ t358 t371 _ ?side1 ?side2 ?side3 ?side4 A31.out).mono ?_); (case side1 => exact z8_14); (case side2 => exact (Kd.R_reads' HO363.out).2.1); (case side3 => exact z8_15); (case side4 => exact (Kd.R_reads' HO360.out).2.1); rintro e w' ⟨rfl, ⟨nd, rfl⟩⟩; (try first | exact ⟨rfl, _, World.drewN_drewN _ _ _⟩ | exact ⟨rfl, _, Eq.trans (World.drewN_drewN _ _ _) (congrArg (World.drewN _) (Nat.add_assoc _ _ _))⟩))))
                go_meet
                case rel => exact ⟨_, (!t371), (by first | rfl | (simp; done) | (simp [*]; done)), H', ⟨by first | omega | exact Nat.le_refl _⟩, ⟨by (with_reducible repeat (first | apply Kd.R_alloc | apply Kd.R_drewN | apply Kd.R_drew)); exact Kd.R_mono HO344.out (fun _ hk => ⟨hk.1.1.1.2, hk.2⟩)⟩, ⟨by (with_reducible repeat (first | apply Kd.R_alloc | apply Kd.R_drewN | apply Kd.R_drew)); exact Kd.R_mono HO353.out (fun _ hk => ⟨hk.1.1.1.1.2, hk.2⟩)⟩, ⟨by (with_reducible repeat (first | apply Kd.R_alloc | apply Kd.R_drewN | apply Kd.R_drew)); exact Kd.R_mono HO370.out (fun _ hk => ⟨hk.1.1.1.1.2, hk.1.1.2⟩)⟩, ⟨by repeat (first | (with_reducible exact HR357.out) | (with_reducible refine Kd.C_alloc ?_ _) | (with_reducible refine Kd.C_drewN ?_ _) | (with_reducible refine Kd.C_drew ?_) | exact HR357.out)⟩, ⟨by repeat (first | (with_reducible exact HR367.out) | (with_reducible refine Kd.C_alloc ?_ _) | (with_reducible refine Kd.C_drewN ?_ _) | (with_reducible refine Kd.C_drew ?_) | exact HR367.out)⟩, ⟨by repeat (first | (with_reducible first | exact HB.out | apply below_alloc | apply pw_below_drewN | apply below_drew1) | exact HB.out)⟩⟩
              · rw [if_neg c30] at H
                have c30b0 : ((t351.length : Int) == (t341.length : Int)) = false := beq_eq_false_iff_ne.mpr c30
                have c30b1 : ((t351.length : Int) != (t341.length : Int)) = true := bne_iff_ne.mpr c30
                have c30b2 : (t351.length == t341.length) = false := by first | simpa using c30 | (simp at c30 ⊢; omega)
                (first | rw [c30b0] | (simp only [i64_w, i32_w]; rw [c30b0]) | skip)
                have H' := Aside0.mk H
                clear H
                go_wp2
                repeat (go_quiet (fail); try go_wp2)
                go_meet
                case rel => exact ⟨_, (true), (by first | rfl | (simp; done) | (simp [*]; done)), H', ⟨by first | omega | exact Nat.le_refl _⟩, ⟨by (with_reducible repeat (first | apply Kd.R_alloc | apply Kd.R_drewN | apply Kd.R_drew)); exact Kd.R_mono HO344.out (fun _ hk => ⟨hk.1.1.1.2, hk.2⟩)⟩, ⟨by (with_reducible repeat (first | apply Kd.R_alloc | apply Kd.R_drewN | apply Kd.R_drew)); exact Kd.R_mono HO353.out (fun _ hk => ⟨hk.1.1.1.1.2, hk.2⟩)⟩, ⟨by (with_reducible repeat (first | apply Kd.R_alloc | apply Kd.R_drewN | apply Kd.R_drew)); exact Kd.R_mono HO370.out (fun _ hk => ⟨hk.1.1.1.1.2, hk.1.1.2⟩)⟩, ⟨by repeat (first | (with_reducible exact HR357.out) | (with_reducible refine Kd.C_alloc ?_ _) | (with_reducible refine Kd.C_drewN ?_ _) | (with_reducible refine Kd.C_drew ?_) | exact HR357.out)⟩, ⟨by repeat (first | (with_reducible exact HR367.out) | (with_reducible refine Kd.C_alloc ?_ _) | (with_reducible refine Kd.C_drewN ?_ _) | (with_reducible refine Kd.C_drew ?_) | exact HR367.out)⟩, ⟨by repeat (first | (with_reducible first | exact HB.out | apply below_alloc | apply pw_below_drewN | apply below_drew1) | exact HB.out)⟩⟩
            case rest =>
              clear HC17
              (try clear c1); (try clear c3); (try clear c6); (try clear c6b0); (try clear c6b1); (try clear c7); (try clear c7b0); (try clear c7b1); (try clear c10); (try clear c10b0); (try clear c10b1); (try clear c11); (try clear c11b0); (try clear c11b1); (try clear c14b0); (try clear c15b0); (try clear c24); (try clear q24); (try clear q28); (try clear hx350_0); (try clear p350); (try clear q024); (try clear q24); (try clear q28); (try clear q350)
              obtain ⟨kq, x58_16, rfl, HA, HJ16, HO_3, HO_7, HO_10, HR357, HR367, HB⟩ := hcut
              cases kq with
              | zero => exact absurd HA.out (by simp [laws_FnParts.j0])
              | succ kj16 =>
                have H := HA.out
                clear HA
                simp only [laws_FnParts.j0] at H
                by_cases c34 : x58_16 = true
                · subst c34
                  have H1 : (some false) = some r := by rw [if_pos rfl] at H; exact H
                  clear H
                  have H := H1
                  clear H1
                  obtain rfl := Option.some.inj H
                  go_wp2
                  repeat (go_quiet (fail); try go_wp2)
                  go_ret
                  exact ⟨by first | rfl | (simp [errW_none, errW_some] <;> rfl) | (simp only [← hji9]; first | rfl | (simp [errW_none, errW_some] <;> rfl)) | (simp [*, errW_none, errW_some] <;> rfl) | (simp [*, errW_none, errW_some, i64_w]; done), by repeat (first | (with_reducible first | exact HB.out | apply below_alloc | apply pw_below_drewN | apply below_drew1) | exact HB.out)⟩
                · replace c34 := Bool.eq_false_iff.mpr c34
                  subst c34
                  have H1 : (laws_FnParts.l0 kj16 t341 t351 t368 0) = some r := by rw [if_neg (show ¬ (false = true) by decide)] at H; exact H
                  clear H
                  have H := H1
                  clear H1
                  have H' := Aside0.mk H
                  clear H
                  go_wp2
                  repeat (go_quiet (fail); try go_wp2)
                  go_loopg [11] kj16 (fun kq v11 w' => ∃ (x11_2 : Int), v11 = .int .i64 x11_2 ∧ Aside0 (laws_FnParts.l0 kq t341 t351 t368 x11_2 = some r) ∧ Aside0 (kq ≤ kj16) ∧ Aside0 (Kd.R (Kd.int .i64) 3 w' w.heap.size (fun k_ => some k_ ≠ ((.slice Ao25 t351.length co25) : Value).ownBlock ∧ some k_ ≠ (v369 : Value).ownBlock) (.slice Ao22 t341.length co22) t341) ∧ Aside0 (Kd.R (Kd.int .i64) 3 w' w.heap.size (fun k_ => some k_ ≠ ((.slice Ao22 t341.length co22) : Value).ownBlock ∧ some k_ ≠ (v369 : Value).ownBlock) (.slice Ao25 t351.length co25) t351) ∧ Aside0 (Kd.R (Kd.int .i64) 3 w' w.heap.size (fun k_ => some k_ ≠ ((.slice Ao22 t341.length co22) : Value).ownBlock ∧ some k_ ≠ ((.slice Ao25 t351.length co25) : Value).ownBlock) v369 t368) ∧ Aside0 (Kd.C k31 w' A24 y354.length y354) ∧ Aside0 (Kd.C k31 w' Ao21 y364.length y364) ∧ Aside0 (Below w.heap.size w w'))
                  case atStart => exact ⟨(0), (by first | rfl | (simp; done) | (simp [*]; done)), H', ⟨Nat.le_refl _⟩, ⟨by (with_reducible repeat (first | apply Kd.R_alloc | apply Kd.R_drewN | apply Kd.R_drew)); exact HO_3.out⟩, ⟨by (with_reducible repeat (first | apply Kd.R_alloc | apply Kd.R_drewN | apply Kd.R_drew)); exact HO_7.out⟩, ⟨by (with_reducible repeat (first | apply Kd.R_alloc | apply Kd.R_drewN | apply Kd.R_drew)); exact HO_10.out⟩, ⟨by repeat (first | (with_reducible exact HR357.out) | (with_reducible refine Kd.C_alloc ?_ _) | (with_reducible refine Kd.C_drewN ?_ _) | (with_reducible refine Kd.C_drew ?_) | exact HR357.out)⟩, ⟨by repeat (first | (with_reducible exact HR367.out) | (with_reducible refine Kd.C_alloc ?_ _) | (with_reducible refine Kd.C_drewN ?_ _) | (with_reducible refine Kd.C_drew ?_) | exact HR367.out)⟩, ⟨by repeat (first | (with_reducible first | exact HB.out | apply below_alloc | apply pw_below_drewN | apply below_drew1) | exact HB.out)⟩⟩
                  case round =>
                    clear H'
                    (try clear c1); (try clear c3); (try clear c6); (try clear c6b0); (try clear c6b1); (try clear c7); (try clear c7b0); (try clear c7b1); (try clear c10); (try clear c10b0); (try clear c10b1); (try clear c11); (try clear c11b0); (try clear c11b1); (try clear c14b0); (try clear c15b0); (try clear c24); (try clear q24); (try clear q28); (try clear c34); (try clear hx350_0); (try clear p350); (try clear q024); (try clear q24); (try clear q28); (try clear q350)
                    obtain ⟨x11_2, rfl, HA, HK2, HO_3, HO_7, HO_10, HR357, HR367, HB⟩ := hrel
                    cases gk with
                    | zero => exact absurd HA.out (by simp [laws_FnParts.l0])
                    | succ k2 =>
                      have H := HA.out
                      clear HA
                      simp only [laws_FnParts.l0] at H
                      by_cases c35 : x11_2 < (t341.length : Int)
                      · rw [if_pos c35] at H
                        have c35b0 : decide (x11_2 < (t341.length : Int)) = true := decide_eq_true c35
                        clear c35
                        replace H := Option.bind_eq_some_iff.mp H
                        obtain ⟨t372, A360, H⟩ := H
                        replace H : (if t372 = true then (laws_FnParts.l0 k2 t341 t351 t368 (wrap64 (x11_2 + 1))) else (if 0 ≤ x11_2 then (if x11_2 < (t351.length : Int) then (if (rd t351 x11_2) = (rd t341 x11_2) then (laws_FnParts.l0 k2 t341 t351 t368 (wrap64 (x11_2 + 1))) else (some false)) else (none)) else (none))) = some r := H
                        have A36 := Aside0.mk A360
                        clear A360
                        by_cases c37 : t372 = true
                        · subst c37
                          have H1 : (laws_FnParts.l0 k2 t341 t351 t368 (wrap64 (x11_2 + 1))) = some r := by rw [if_pos rfl] at H; exact H
                          clear H
                          have H := H1
                          clear H1
                          have H' := Aside0.mk H
                          clear H
                          obtain ⟨Ao38, co38, eo38⟩ := Kd.R_slice HO_10.out
                          subst eo38
                          go_wp2_with (first | (go_at_call 9; (with_reducible refine (laws_has.calls k2 _ _ t368 x11_2 true _ ?side1 ?side2 A36.out).mono ?_); (case side1 => exact z8_7); (case side2 => exact z8_18); rintro e w' ⟨rfl, ⟨nd, rfl⟩⟩; (try first | exact ⟨rfl, _, World.drewN_drewN _ _ _⟩ | exact ⟨rfl, _, Eq.trans (World.drewN_drewN _ _ _) (congrArg (World.drewN _) (Nat.add_assoc _ _ _))⟩)))
                          repeat (go_quiet (first | (go_at_call 9; (with_reducible refine (laws_has.calls k2 _ _ t368 x11_2 true _ ?side1 ?side2 A36.out).mono ?_); (case side1 => exact z8_7); (case side2 => exact z8_18); rintro e w' ⟨rfl, ⟨nd, rfl⟩⟩; (try first | exact ⟨rfl, _, World.drewN_drewN _ _ _⟩ | exact ⟨rfl, _, Eq.trans (World.drewN_drewN _ _ _) (congrArg (World.drewN _) (Nat.add_assoc _ _ _))⟩))); try go_wp2_with (first | (go_at_call 9; (with_reducible refine (laws_has.calls k2 _ _ t368 x11_2 true _ ?side1 ?side2 A36.out).mono ?_); (case side1 => exact z8_7); (case side2 => exact z8_18); rintro e w' ⟨rfl, ⟨nd, rfl⟩⟩; (try first | exact ⟨rfl, _, World.drewN_drewN _ _ _⟩ | exact ⟨rfl, _, Eq.trans (World.drewN_drewN _ _ _) (congrArg (World.drewN _) (Nat.add_assoc _ _ _))⟩))))
                          go_roundg k2
                          case measure => have := HJ16.out; have := HK2.out; omega
                          case rel => exact ⟨(wrap64 (x11_2 + 1)), (by first | rfl | (simp; done) | (simp [*]; done)), H', ⟨by have := HJ16.out; have := HK2.out; omega⟩, ⟨by (with_reducible repeat (first | apply Kd.R_alloc | apply Kd.R_drewN | apply Kd.R_drew)); exact HO_3.out⟩, ⟨by (with_reducible repeat (first | apply Kd.R_alloc | apply Kd.R_drewN | apply Kd.R_drew)); exact HO_7.out⟩, ⟨by (with_reducible repeat (first | apply Kd.R_alloc | apply Kd.R_drewN | apply Kd.R_drew)); exact HO_10.out⟩, ⟨by repeat (first | (with_reducible exact HR357.out) | (with_reducible refine Kd.C_alloc ?_ _) | (with_reducible refine Kd.C_drewN ?_ _) | (with_reducible refine Kd.C_drew ?_) | exact HR357.out)⟩, ⟨by repeat (first | (with_reducible exact HR367.out) | (with_reducible refine Kd.C_alloc ?_ _) | (with_reducible refine Kd.C_drewN ?_ _) | (with_reducible refine Kd.C_drew ?_) | exact HR367.out)⟩, ⟨by repeat (first | (with_reducible first | exact HB.out | apply below_alloc | apply pw_below_drewN | apply below_drew1) | exact HB.out)⟩⟩
                        · replace c37 := Bool.eq_false_iff.mpr c37
                          subst c37
                          have H1 : (if 0 ≤ x11_2 then (if x11_2 < (t351.length : Int) then (if (rd t351 x11_2) = (rd t341 x11_2) then (laws_FnParts.l0 k2 t341 t351 t368 (wrap64 (x11_2 + 1))) else (some false)) else (none)) else (none)) = some r := by rw [if_neg (show ¬ (false = true) by decide)] at H; exact H
                          clear H
                          have H := H1
                          clear H1
                          by_cases c39 : 0 ≤ x11_2
                          · rw [if_pos c39] at H
                            have c39b0 : decide (0 ≤ x11_2) = true := decide_eq_true c39
                            clear c39
                            by_cases c40 : x11_2 < (t351.length : Int)
                            · rw [if_pos c40] at H
                              have c40b0 : decide (x11_2 < (t351.length : Int)) = true := decide_eq_true c40
                              clear c40
                              by_cases c41 : (rd t351 x11_2) = (rd t341 x11_2)
                              · rw [if_pos c41] at H
                                have c41b0 : ((rd t351 x11_2) == (rd t341 x11_2)) = true := beq_iff_eq.mpr c41
                                have c41b1 : ((rd t351 x11_2) != (rd t341 x11_2)) = false := bne_eq_false_iff_eq.mpr c41
                                clear c41
                                have H' := Aside0.mk H
                                clear H
                                obtain ⟨Ao42, co42, eo42⟩ := Kd.R_slice HO_10.out
                                subst eo42
                                go_wp2_with (first | (go_at_call 9; (with_reducible refine (laws_has.calls k2 _ _ t368 x11_2 false _ ?side1 ?side2 A36.out).mono ?_); (case side1 => exact z8_7); (case side2 => exact z8_18); rintro e w' ⟨rfl, ⟨nd, rfl⟩⟩; (try first | exact ⟨rfl, _, World.drewN_drewN _ _ _⟩ | exact ⟨rfl, _, Eq.trans (World.drewN_drewN _ _ _) (congrArg (World.drewN _) (Nat.add_assoc _ _ _))⟩); have p373 : 0 ≤ (x11_2 : Int) := of_decide_eq_true z8_4; have q373 : x11_2 < (t351.length : Int) := of_decide_eq_true z8_4; obtain ⟨ad373, e373, hx373_0⟩ := Kd.at_int (Kd.R_reads' HO_7.out).2.2 x11_2 p373 q373; cases e373; replace p373 := eq_true p373; replace q373 := eq_true q373; have p374 : 0 ≤ (x11_2 : Int) := of_decide_eq_true z8_4; have q374 : x11_2 < (t341.length : Int) := of_decide_eq_true z8_4; obtain ⟨ad374, e374, hx374_0⟩ := Kd.at_int (Kd.R_reads' HO_3.out).2.2 x11_2 p374 q374; cases e374; replace p374 := eq_true p374; replace q374 := eq_true q374))
                                repeat (go_quiet (first | (go_at_call 9; (with_reducible refine (laws_has.calls k2 _ _ t368 x11_2 false _ ?side1 ?side2 A36.out).mono ?_); (case side1 => exact z8_7); (case side2 => exact z8_18); rintro e w' ⟨rfl, ⟨nd, rfl⟩⟩; (try first | exact ⟨rfl, _, World.drewN_drewN _ _ _⟩ | exact ⟨rfl, _, Eq.trans (World.drewN_drewN _ _ _) (congrArg (World.drewN _) (Nat.add_assoc _ _ _))⟩); have p373 : 0 ≤ (x11_2 : Int) := of_decide_eq_true z8_4; have q373 : x11_2 < (t351.length : Int) := of_decide_eq_true z8_4; obtain ⟨ad373, e373, hx373_0⟩ := Kd.at_int (Kd.R_reads' HO_7.out).2.2 x11_2 p373 q373; cases e373; replace p373 := eq_true p373; replace q373 := eq_true q373; have p374 : 0 ≤ (x11_2 : Int) := of_decide_eq_true z8_4; have q374 : x11_2 < (t341.length : Int) := of_decide_eq_true z8_4; obtain ⟨ad374, e374, hx374_0⟩ := Kd.at_int (Kd.R_reads' HO_3.out).2.2 x11_2 p374 q374; cases e374; replace p374 := eq_true p374; replace q374 := eq_true q374)); try go_wp2_with (first | (go_at_call 9; (with_reducible refine (laws_has.calls k2 _ _ t368 x11_2 false _ ?side1 ?side2 A36.out).mono ?_); (case side1 => exact z8_7); (case side2 => exact z8_18); rintro e w' ⟨rfl, ⟨nd, rfl⟩⟩; (try first | exact ⟨rfl, _, World.drewN_drewN _ _ _⟩ | exact ⟨rfl, _, Eq.trans (World.drewN_drewN _ _ _) (congrArg (World.drewN _) (Nat.add_assoc _ _ _))⟩); have p373 : 0 ≤ (x11_2 : Int) := of_decide_eq_true z8_4; have q373 : x11_2 < (t351.length : Int) := of_decide_eq_true z8_4; obtain ⟨ad373, e373, hx373_0⟩ := Kd.at_int (Kd.R_reads' HO_7.out).2.2 x11_2 p373 q373; cases e373; replace p373 := eq_true p373; replace q373 := eq_true q373; have p374 : 0 ≤ (x11_2 : Int) := of_decide_eq_true z8_4; have q374 : x11_2 < (t341.length : Int) := of_decide_eq_true z8_4; obtain ⟨ad374, e374, hx374_0⟩ := Kd.at_int (Kd.R_reads' HO_3.out).2.2 x11_2 p374 q374; cases e374; replace p374 := eq_true p374; replace q374 := eq_true q374)))
                                go_roundg k2
                                case measure => have := HJ16.out; have := HK2.out; omega
                                case rel => exact ⟨(wrap64 (x11_2 + 1)), (by first | rfl | (simp; done) | (simp [*]; done)), H', ⟨by have := HJ16.out; have := HK2.out; omega⟩, ⟨by (with_reducible repeat (first | apply Kd.R_alloc | apply Kd.R_drewN | apply Kd.R_drew)); exact HO_3.out⟩, ⟨by (with_reducible repeat (first | apply Kd.R_alloc | apply Kd.R_drewN | apply Kd.R_drew)); exact HO_7.out⟩, ⟨by (with_reducible repeat (first | apply Kd.R_alloc | apply Kd.R_drewN | apply Kd.R_drew)); exact HO_10.out⟩, ⟨by repeat (first | (with_reducible exact HR357.out) | (with_reducible refine Kd.C_alloc ?_ _) | (with_reducible refine Kd.C_drewN ?_ _) | (with_reducible refine Kd.C_drew ?_) | exact HR357.out)⟩, ⟨by repeat (first | (with_reducible exact HR367.out) | (with_reducible refine Kd.C_alloc ?_ _) | (with_reducible refine Kd.C_drewN ?_ _) | (with_reducible refine Kd.C_drew ?_) | exact HR367.out)⟩, ⟨by repeat (first | (with_reducible first | exact HB.out | apply below_alloc | apply pw_below_drewN | apply below_drew1) | exact HB.out)⟩⟩
                              · rw [if_neg c41] at H
                                have c41b0 : ((rd t351 x11_2) == (rd t341 x11_2)) = false := beq_eq_false_iff_ne.mpr c41
                                have c41b1 : ((rd t351 x11_2) != (rd t341 x11_2)) = true := bne_iff_ne.mpr c41
                                obtain rfl := Option.some.inj H
                                obtain ⟨Ao43, co43, eo43⟩ := Kd.R_slice HO_10.out
                                subst eo43
                                go_wp2_with (first | (go_at_call 9; (with_reducible refine (laws_has.calls k2 _ _ t368 x11_2 false _ ?side1 ?side2 A36.out).mono ?_); (case side1 => exact z8_7); (case side2 => exact z8_18); rintro e w' ⟨rfl, ⟨nd, rfl⟩⟩; (try first | exact ⟨rfl, _, World.drewN_drewN _ _ _⟩ | exact ⟨rfl, _, Eq.trans (World.drewN_drewN _ _ _) (congrArg (World.drewN _) (Nat.add_assoc _ _ _))⟩); have p373 : 0 ≤ (x11_2 : Int) := of_decide_eq_true z8_4; have q373 : x11_2 < (t351.length : Int) := of_decide_eq_true z8_4; obtain ⟨ad373, e373, hx373_0⟩ := Kd.at_int (Kd.R_reads' HO_7.out).2.2 x11_2 p373 q373; cases e373; replace p373 := eq_true p373; replace q373 := eq_true q373; have p374 : 0 ≤ (x11_2 : Int) := of_decide_eq_true z8_4; have q374 : x11_2 < (t341.length : Int) := of_decide_eq_true z8_4; obtain ⟨ad374, e374, hx374_0⟩ := Kd.at_int (Kd.R_reads' HO_3.out).2.2 x11_2 p374 q374; cases e374; replace p374 := eq_true p374; replace q374 := eq_true q374))
                                repeat (go_quiet (first | (go_at_call 9; (with_reducible refine (laws_has.calls k2 _ _ t368 x11_2 false _ ?side1 ?side2 A36.out).mono ?_); (case side1 => exact z8_7); (case side2 => exact z8_18); rintro e w' ⟨rfl, ⟨nd, rfl⟩⟩; (try first | exact ⟨rfl, _, World.drewN_drewN _ _ _⟩ | exact ⟨rfl, _, Eq.trans (World.drewN_drewN _ _ _) (congrArg (World.drewN _) (Nat.add_assoc _ _ _))⟩); have p373 : 0 ≤ (x11_2 : Int) := of_decide_eq_true z8_4; have q373 : x11_2 < (t351.length : Int) := of_decide_eq_true z8_4; obtain ⟨ad373, e373, hx373_0⟩ := Kd.at_int (Kd.R_reads' HO_7.out).2.2 x11_2 p373 q373; cases e373; replace p373 := eq_true p373; replace q373 := eq_true q373; have p374 : 0 ≤ (x11_2 : Int) := of_decide_eq_true z8_4; have q374 : x11_2 < (t341.length : Int) := of_decide_eq_true z8_4; obtain ⟨ad374, e374, hx374_0⟩ := Kd.at_int (Kd.R_reads' HO_3.out).2.2 x11_2 p374 q374; cases e374; replace p374 := eq_true p374; replace q374 := eq_true q374)); try go_wp2_with (first | (go_at_call 9; (with_reducible refine (laws_has.calls k2 _ _ t368 x11_2 false _ ?side1 ?side2 A36.out).mono ?_); (case side1 => exact z8_7); (case side2 => exact z8_18); rintro e w' ⟨rfl, ⟨nd, rfl⟩⟩; (try first | exact ⟨rfl, _, World.drewN_drewN _ _ _⟩ | exact ⟨rfl, _, Eq.trans (World.drewN_drewN _ _ _) (congrArg (World.drewN _) (Nat.add_assoc _ _ _))⟩); have p373 : 0 ≤ (x11_2 : Int) := of_decide_eq_true z8_4; have q373 : x11_2 < (t351.length : Int) := of_decide_eq_true z8_4; obtain ⟨ad373, e373, hx373_0⟩ := Kd.at_int (Kd.R_reads' HO_7.out).2.2 x11_2 p373 q373; cases e373; replace p373 := eq_true p373; replace q373 := eq_true q373; have p374 : 0 ≤ (x11_2 : Int) := of_decide_eq_true z8_4; have q374 : x11_2 < (t341.length : Int) := of_decide_eq_true z8_4; obtain ⟨ad374, e374, hx374_0⟩ := Kd.at_int (Kd.R_reads' HO_3.out).2.2 x11_2 p374 q374; cases e374; replace p374 := eq_true p374; replace q374 := eq_true q374)))
                                go_ret
                                exact ⟨by first | rfl | (simp [errW_none, errW_some] <;> rfl) | (simp only [← hji9]; first | rfl | (simp [errW_none, errW_some] <;> rfl)) | (simp [*, errW_none, errW_some] <;> rfl) | (simp [*, errW_none, errW_some, i64_w]; done), by repeat (first | (with_reducible first | exact HB.out | apply below_alloc | apply pw_below_drewN | apply below_drew1) | exact HB.out)⟩
                            · rw [if_neg c40] at H
                              exact absurd H (by simp)
                          · rw [if_neg c39] at H
                            exact absurd H (by simp)
                      · rw [if_neg c35] at H
                        have c35b0 : decide (x11_2 < (t341.length : Int)) = false := decide_eq_false c35
                        clear c35
                        obtain rfl := Option.some.inj H
                        go_wp2
                        repeat (go_quiet (fail); try go_wp2)
                        go_ret
                        exact ⟨by first | rfl | (simp [errW_none, errW_some] <;> rfl) | (simp only [← hji9]; first | rfl | (simp [errW_none, errW_some] <;> rfl)) | (simp [*, errW_none, errW_some] <;> rfl) | (simp [*, errW_none, errW_some, i64_w]; done), by repeat (first | (with_reducible first | exact HB.out | apply below_alloc | apply pw_below_drewN | apply below_drew1) | exact HB.out)⟩
          · rw [if_neg c11] at H
            exact absurd H (by simp)
        · rw [if_neg c10] at H
          exact absurd H (by simp)
    · rw [if_neg c6] at H
      exact absurd H (by simp)

/-- THE ONE PURE STATEMENT of laws_FnParts: yours. -/
def laws_FnParts.Pure : Prop := ∀ (l0 : List Int), l0.length ≤ maxLen → l0.length * 1 ≤ 140737488351232 → (∀ x ∈ l0, (Lit.int .u8 x).wf = true) → ∃ k, laws_FnParts.f k l0 = some true
theorem laws_FnParts.walk (P : laws_FnParts.Pure) (a0 : Option Addr) (len0 cap0 : Nat) (z0 : List Int) (w : World) (w0 : (a0 = none ∧ len0 = 0 ∧ cap0 = 0 ∧ z0 = []) ∨ ∃ x, a0 = some x ∧ len0 ≤ cap0 ∧ cap0 ≤ maxLen ∧ z0.length = cap0 ∧ (∀ i, i < z0.length → w.cell? (x.add i) = some (.int .u8 (z0.getD i 0))) ∧ ∀ n ∈ z0, (Lit.int .u8 n).wf = true) (y0 : len0 * 1 ≤ 140737488351232) :
    Calls Try.prog 5 #[.slice a0 len0 cap0] w fun e w' => e = .returned (.bool true) ∧ Below w.heap.size w w' := by
  obtain ⟨l0, rfl, hr0, hm0, hw0, hc0⟩ := ReadsInt.ofRowC w0
  obtain ⟨k, h⟩ := P l0 hm0 y0 hw0
  refine (laws_FnParts.calls k _ _ l0 true w (Kd.C_of_reads (d := (0 : Int)) (h1 := fun _ => rfl) hr0) hc0 h).mono ?_
  rintro e w' ⟨rfl, hd⟩
  exact ⟨rfl, hd⟩

end Go.Proofs.Ytidciciagoecjaa.G
