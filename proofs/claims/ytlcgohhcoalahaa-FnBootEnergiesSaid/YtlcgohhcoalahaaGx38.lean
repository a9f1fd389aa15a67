/- Functions of the program as plain Lean functions, and that each call comes to its function's answer; written by a program of the session. No condition. -/
import Derived.Test.YtlcgohhcoalahaaGx0
import Derived.Test.YtlcgohhcoalahaaGx11
import Derived.Test.YtlcgohhcoalahaaGx13
import Derived.Test.YtlcgohhcoalahaaGx14
import Derived.Test.YtlcgohhcoalahaaGx37
namespace Go.Proofs.Ytlcgohhcoalahaa.G
open Go.RowKit Go.Proofs.YtlcgohhcoalahaaW.PrintWords Go.Proofs.YtlcgohhcoalahaaW.PrintLast Go.Proofs.YtlcgohhcoalahaaW.PrintMore
attribute [local go_sem] max2_int min2_int max_two min_two max_three min_three max_four min_four   -- for this text's walks alone
set_option linter.unusedVariables false
set_option linter.unusedSimpArgs false

/-! ### laws_FnBootEnergies: function 8 -/
def laws_FnBootEnergies.l0 : Nat → List Int → List Int → Bool → Int → Int → Int → Int → Int → Int → Option (Bool)
  | 0, _, _, _, _, _, _, _, _, _ => none
  | k + 1, x4, x5, x6, x7, x8, x486000, x486001, x486002, x486003 => if x8 < (x5.length : Int) then (if 0 ≤ x8 then (if (rd x5 x8) < x486002 then (some false) else (if (rd x5 x8) > x486001 then (some false) else (laws_FnBootEnergies.l0 k x4 x5 x6 x7 (wrap64 (x8 + 1)) x486000 x486001 x486002 x486003))) else (none)) else (if x6 = true then (if x7 ≥ 0 then (if (x5.length : Int) ≤ (x4.length : Int) then ((laws_sumOf.f k x5).bind fun t496 => ((laws_sumOf.f k x4).bind fun t497 => (some (decide ((wrap64 (t496 + x7)) ≤ (wrap64 (x486000 + t497))))))) else (some false)) else (some false)) else (some false))
def laws_FnBootEnergies.f (k : Nat) (l0 : List Int) : Option (Bool) := (laws_big.f l0).bind fun t480 => (if t480 = true then (some true) else ((spec_DrawStore.f k l0).bind fun bt481 => ((spec_DrawHarvest.f k l0).bind fun t486 => ((impl_EnergiesOf.f k bt481.1 bt481.2.1 bt481.2.2.1 bt481.2.2.2 t486).bind fun bt489 => ((impl_WastedBy.f k bt481.1 bt481.2.1 bt481.2.2.1 bt481.2.2.2 t486).bind fun t493 => (laws_FnBootEnergies.l0 k t486 bt489.1 bt489.2 t493 0 bt481.1 bt481.2.1 bt481.2.2.1 bt481.2.2.2))))))
theorem laws_FnBootEnergies.mono_l : ∀ k, (∀ y0 y1 y2 y3 y4 y5 y6 y7 y8, LeO (laws_FnBootEnergies.l0 k y0 y1 y2 y3 y4 y5 y6 y7 y8) (laws_FnBootEnergies.l0 (k + 1) y0 y1 y2 y3 y4 y5 y6 y7 y8))
  | 0 => fun _ _ _ _ _ _ _ _ _ r h => by simp [laws_FnBootEnergies.l0] at h
  | k + 1 => by
    have ih0 := laws_FnBootEnergies.mono_l k
    · intro y0 y1 y2 y3 y4 y5 y6 y7 y8
      unfold laws_FnBootEnergies.l0
      repeat' first
      | (with_reducible exact ih0 _ _ _ _ _ _ _ _ _)
      | (with_reducible exact impl_EnergiesOf.mono _ _ _ _ _ _)
      | (with_reducible exact impl_WastedBy.mono _ _ _ _ _ _)
      | (with_reducible exact laws_sumOf.mono _ _)
      | (with_reducible exact spec_DrawHarvest.mono _ _)
      | (with_reducible exact spec_DrawStore.mono _ _)
      | (with_reducible exact LeO.refl _)
      | (with_reducible exact LeO.none _)
      | (with_reducible refine LeO.ite ?_ ?_)
      | (with_reducible refine LeO.bind ?_ (fun _ => ?_))
      | exact ih0 _ _ _ _ _ _ _ _ _
      | exact impl_EnergiesOf.mono _ _ _ _ _ _
      | exact impl_WastedBy.mono _ _ _ _ _ _
      | exact laws_sumOf.mono _ _
      | exact spec_DrawHarvest.mono _ _
      | exact spec_DrawStore.mono _ _
      | exact LeO.none _
      | refine LeO.ite ?_ ?_
      | refine LeO.bind ?_ (fun _ => ?_)
theorem laws_FnBootEnergies.mono : ∀ a0 k, LeO (laws_FnBootEnergies.f k a0) (laws_FnBootEnergies.f (k + 1) a0) := by
  intro a0 k
  have ih0 := laws_FnBootEnergies.mono_l k
  unfold laws_FnBootEnergies.f
  repeat' first
      | (with_reducible exact ih0 _ _ _ _ _ _ _ _ _)
      | (with_reducible exact impl_EnergiesOf.mono _ _ _ _ _ _)
      | (with_reducible exact impl_WastedBy.mono _ _ _ _ _ _)
      | (with_reducible exact laws_sumOf.mono _ _)
      | (with_reducible exact spec_DrawHarvest.mono _ _)
      | (with_reducible exact spec_DrawStore.mono _ _)
      | (with_reducible exact LeO.refl _)
      | (with_reducible exact LeO.none _)
      | (with_reducible refine LeO.ite ?_ ?_)
      | (with_reducible refine LeO.bind ?_ (fun _ => ?_))
      | exact ih0 _ _ _ _ _ _ _ _ _
      | exact impl_EnergiesOf.mono _ _ _ _ _ _
      | exact impl_WastedBy.mono _ _ _ _ _ _
      | exact laws_sumOf.mono _ _
      | exact spec_DrawHarvest.mono _ _
      | exact spec_DrawStore.mono _ _
      | exact LeO.none _
      | refine LeO.ite ?_ ?_
      | refine LeO.bind ?_ (fun _ => ?_)
set_option maxHeartbeats 8000000 in
set_option maxRecDepth 100000 in
theorem laws_FnBootEnergies.calls (k : Nat) (A0 : Option Addr) (c0 : Nat) (l0 : List Int) (r : Bool) (w : World) (hr0 : Kd.C (Kd.int .u8) w A0 l0.length l0) (hc0 : l0.length ≤ c0) (h : laws_FnBootEnergies.f k l0 = some r) :
    Calls Try.prog 8 #[.slice A0 l0.length c0] w fun e w' => e = .returned (.bool r) ∧ Below w.heap.size w w' := by
  have hu35 := Try.underlying35
  have HR0 := Aside0.mk hr0
  have HC0 := Aside0.mk hc0
  clear hr0 hc0
  have HB := Aside0.mk (Below.refl w.heap.size w)
  have H : ((laws_big.f l0).bind fun t480 => (if t480 = true then (some true) else ((spec_DrawStore.f k l0).bind fun bt481 => ((spec_DrawHarvest.f k l0).bind fun t486 => ((impl_EnergiesOf.f k bt481.1 bt481.2.1 bt481.2.2.1 bt481.2.2.2 t486).bind fun bt489 => ((impl_WastedBy.f k bt481.1 bt481.2.1 bt481.2.2.1 bt481.2.2.2 t486).bind fun t493 => (laws_FnBootEnergies.l0 k t486 bt489.1 bt489.2 t493 0 bt481.1 bt481.2.1 bt481.2.2.1 bt481.2.2.2))))))) = some r := h
  clear h
  replace H := Option.bind_eq_some_iff.mp H
  obtain ⟨t480, A20, H⟩ := H
  replace H : (if t480 = true then (some true) else ((spec_DrawStore.f k l0).bind fun bt481 => ((spec_DrawHarvest.f k l0).bind fun t486 => ((impl_EnergiesOf.f k bt481.1 bt481.2.1 bt481.2.2.1 bt481.2.2.2 t486).bind fun bt489 => ((impl_WastedBy.f k bt481.1 bt481.2.1 bt481.2.2.1 bt481.2.2.2 t486).bind fun t493 => (laws_FnBootEnergies.l0 k t486 bt489.1 bt489.2 t493 0 bt481.1 bt481.2.1 bt481.2.2.1 bt481.2.2.2)))))) = some r := H
  have A2 := Aside0.mk A20
  clear A20
  by_cases c3 : t480 = true
  · subst c3
    have H1 : (some true) = some r := by rw [if_pos rfl] at H; exact H
    clear H
    have H := H1
    clear H1
    obtain rfl := Option.some.inj H
    go_enter Try.func8, Try.ntmps8
    go_wp2_with (first | (go_at_call 19; (with_reducible refine (laws_big.calls _ _ l0 true _ ?side1 ?side2 A2.out).mono ?_); (case side1 => repeat (first | exact HR0.out | (with_reducible refine Kd.C_alloc ?_ _) | (with_reducible refine Kd.C_drewN ?_ _) | (with_reducible refine Kd.C_drew ?_))); (case side2 => exact HC0.out); rintro e w' ⟨rfl, ⟨nd, rfl⟩⟩; (try first | exact ⟨rfl, _, World.drewN_drewN _ _ _⟩ | exact ⟨rfl, _, Eq.trans (World.drewN_drewN _ _ _) (congrArg (World.drewN _) (Nat.add_assoc _ _ _))⟩)))
    repeat (go_quiet (first | (go_at_call 19; (with_reducible refine (laws_big.calls _ _ l0 true _ ?side1 ?side2 A2.out).mono ?_); (case side1 => repeat (first | exact HR0.out | (with_reducible refine Kd.C_alloc ?_ _) | (with_reducible refine Kd.C_drewN ?_ _) | (with_reducible refine Kd.C_drew ?_))); (case side2 => exact HC0.out); rintro e w' ⟨rfl, ⟨nd, rfl⟩⟩; (try first | exact ⟨rfl, _, World.drewN_drewN _ _ _⟩ | exact ⟨rfl, _, Eq.trans (World.drewN_drewN _ _ _) (congrArg (World.drewN _) (Nat.add_assoc _ _ _))⟩))); try go_wp2_with (first | (go_at_call 19; (with_reducible refine (laws_big.calls _ _ l0 true _ ?side1 ?side2 A2.out).mono ?_); (case side1 => repeat (first | exact HR0.out | (with_reducible refine Kd.C_alloc ?_ _) | (with_reducible refine Kd.C_drewN ?_ _) | (with_reducible refine Kd.C_drew ?_))); (case side2 => exact HC0.out); rintro e w' ⟨rfl, ⟨nd, rfl⟩⟩; (try first | exact ⟨rfl, _, World.drewN_drewN _ _ _⟩ | exact ⟨rfl, _, Eq.trans (World.drewN_drewN _ _ _) (congrArg (World.drewN _) (Nat.add_assoc _ _ _))⟩))))
    go_ret
    exact ⟨by first | rfl | (simp [errW_none, errW_some] <;> rfl) | (simp [*, errW_none, errW_some] <;> rfl) | (simp [*, errW_none, errW_some, i64_w]; done), by repeat (first | (with_reducible first | exact HB.out | apply below_alloc | apply pw_below_drewN | apply below_drew1) | exact HB.out)⟩
  · replace c3 := Bool.eq_false_iff.mpr c3
    subst c3
    have H1 : ((spec_DrawStore.f k l0).bind fun bt481 => ((spec_DrawHarvest.f k l0).bind fun t486 => ((impl_EnergiesOf.f k bt481.1 bt481.2.1 bt481.2.2.1 bt481.2.2.2 t486).bind fun bt489 => ((impl_WastedBy.f k bt481.1 bt481.2.1 bt481.2.2.1 bt481.2.2.2 t486).bind fun t493 => (laws_FnBootEnergies.l0 k t486 bt489.1 bt489.2 t493 0 bt481.1 bt481.2.1 bt481.2.2.1 bt481.2.2.2))))) = some r := by rw [if_neg (show ¬ (false = true) by decide)] at H; exact H
    clear H
    have H := H1
    clear H1
    replace H := Option.bind_eq_some_iff.mp H
    obtain ⟨⟨t481, t482, t483, t484⟩, A40, H⟩ := H
    replace H : ((spec_DrawHarvest.f k l0).bind fun t486 => ((impl_EnergiesOf.f k t481 t482 t483 t484 t486).bind fun bt489 => ((impl_WastedBy.f k t481 t482 t483 t484 t486).bind fun t493 => (laws_FnBootEnergies.l0 k t486 bt489.1 bt489.2 t493 0 t481 t482 t483 t484)))) = some r := H
    have A4 := Aside0.mk A40
    clear A40
    replace H := Option.bind_eq_some_iff.mp H
    obtain ⟨t486, A50, H⟩ := H
    replace H : ((impl_EnergiesOf.f k t481 t482 t483 t484 t486).bind fun bt489 => ((impl_WastedBy.f k t481 t482 t483 t484 t486).bind fun t493 => (laws_FnBootEnergies.l0 k t486 bt489.1 bt489.2 t493 0 t481 t482 t483 t484))) = some r := H
    have A5 := Aside0.mk A50
    clear A50
    replace H := Option.bind_eq_some_iff.mp H
    obtain ⟨⟨t489, t492⟩, A60, H⟩ := H
    replace H : ((impl_WastedBy.f k t481 t482 t483 t484 t486).bind fun t493 => (laws_FnBootEnergies.l0 k t486 t489 t492 t493 0 t481 t482 t483 t484)) = some r := H
    have A6 := Aside0.mk A60
    clear A60
    replace H := Option.bind_eq_some_iff.mp H
    obtain ⟨t493, A70, H⟩ := H
    replace H : (laws_FnBootEnergies.l0 k t486 t489 t492 t493 0 t481 t482 t483 t484) = some r := H
    have A7 := Aside0.mk A70
    clear A70
    have H' := Aside0.mk H
    clear H
    go_enter Try.func8, Try.ntmps8
    go_wp2_with (first | (go_at_call 19; (with_reducible refine (laws_big.calls _ _ l0 false _ ?side1 ?side2 A2.out).mono ?_); (case side1 => repeat (first | exact HR0.out | (with_reducible refine Kd.C_alloc ?_ _) | (with_reducible refine Kd.C_drewN ?_ _) | (with_reducible refine Kd.C_drew ?_))); (case side2 => exact HC0.out); rintro e w' ⟨rfl, ⟨nd, rfl⟩⟩; (try first | exact ⟨rfl, _, World.drewN_drewN _ _ _⟩ | exact ⟨rfl, _, Eq.trans (World.drewN_drewN _ _ _) (congrArg (World.drewN _) (Nat.add_assoc _ _ _))⟩)) | (go_at_call 20; (with_reducible refine (spec_DrawStore.calls k _ _ l0 t481 t482 t483 t484 _ ?side1 ?side2 A4.out).mono ?_); (case side1 => repeat (first | exact HR0.out | (with_reducible refine Kd.C_alloc ?_ _) | (with_reducible refine Kd.C_drewN ?_ _) | (with_reducible refine Kd.C_drew ?_))); (case side2 => exact HC0.out); rintro e w8 ⟨rfl, hb⟩; have n0_ := Aside0.mk (below_step (by repeat (first | (with_reducible first | exact HB.out | apply below_alloc | apply pw_below_drewN | apply below_drew1) | exact HB.out)) hb); clear HB; have HB := n0_; clear n0_; (try clear hb); (try clear hb2); (try clear hk); (try clear hi)) | ((with_reducible refine gate_dst (N := 3) rfl ?_); (try (refine gate_guard (by rfl) ?_; dsimp only)); refine box_event ?hg (N := 3) ?hd (cs := #[.int .i64 0, .int .i64 0, .int .i64 0, .int .i64 0]) (t := 35) ?hr ?_; (case hd => rfl); (case hg => rfl); (case hr => first | (go_simp; done) | (go_simp; rfl)); intro gb485 hg w9 hbox hb; have n0_ := Aside0.mk (below_step (by repeat (first | (with_reducible first | exact HB.out | apply below_alloc | apply pw_below_drewN | apply below_drew1) | exact HB.out)) hb); have n1_ := Aside0.mk (hbox); have n2_ := Aside0.mk ((by rw [hg]; exact (below_size (by repeat (first | (with_reducible first | exact HB.out | apply below_alloc | apply pw_below_drewN | apply below_drew1) | exact HB.out))) : w.heap.size ≤ gb485)); have n3_ := Aside0.mk ((by rw [hg]; exact (below_size (by repeat (first | (with_reducible first | exact HB.out | apply below_alloc | apply pw_below_drewN | apply below_drew1) | exact HB.out))) : w.heap.size ≤ gb485)); clear HB; have HB := n0_; have BK485 := n1_; have GW485 := n2_; have GE485 := n3_; clear n0_ n1_ n2_ n3_; clear hb hbox hg; have hcz10_0 : w9.cell? ⟨gb485, 0, none⟩ = some (.int .i64 0) := (blk_cell BK485.out 0).trans rfl; have hcz10_1 : w9.cell? ⟨gb485, 1, none⟩ = some (.int .i64 0) := (blk_cell BK485.out 1).trans rfl; have hcz10_2 : w9.cell? ⟨gb485, 2, none⟩ = some (.int .i64 0) := (blk_cell BK485.out 2).trans rfl; have hcz10_3 : w9.cell? ⟨gb485, 3, none⟩ = some (.int .i64 0) := (blk_cell BK485.out 3).trans rfl; have hfz10_0 := blk_frozen BK485.out 0; have hfz10_1 := blk_frozen BK485.out 1; have hfz10_2 := blk_frozen BK485.out 2; have hfz10_3 := blk_frozen BK485.out 3) | ((with_reducible refine gate_store (t := 35) (p := 3) rfl ?_); (try (rw [drewN_self w9]; generalize hq_ : World.drewN w9 _ = w9; have n0_ := Aside0.mk (blk_at hq_ BK485.out); have n1_ := Aside0.mk (below_at hq_ HB.out); clear hq_ BK485 HB; have BK485 := n0_; have HB := n1_; clear n0_ n1_)); refine store_event (t := 35) (p := 3) (v := ?vo_w11) (w1 := ((((w9.setCell ⟨gb485, 0, none⟩ (.int .i64 t481)).setCell ⟨gb485, 1, none⟩ (.int .i64 t482)).setCell ⟨gb485, 2, none⟩ (.int .i64 t483)).setCell ⟨gb485, 3, none⟩ (.int .i64 t484))) ?hg ?ho ?hn ?hr ?_; (case ho => rfl); (case hg => rfl); (case hn => rfl); (case hr => first | (go_simp; done) | (go_simp; rfl)); intro w11 hw; have n0_ : Aside0 (w11.heap[gb485]? = some (.cells #[.int .i64 t481, .int .i64 t482, .int .i64 t483, .int .i64 t484] 35 (0, 0))) := ⟨(by rw [hw]; exact (by (with_reducible repeat (first | refine blk_drewN ?_ _ | refine blk_drew ?_ | refine blk_alloc ?_ _)); refine blk_put (cs := #[.int .i64 t481, .int .i64 t482, .int .i64 t483, .int .i64 0]) ?_ 3 _ rfl; (with_reducible repeat (first | refine blk_drewN ?_ _ | refine blk_drew ?_ | refine blk_alloc ?_ _)); refine blk_put (cs := #[.int .i64 t481, .int .i64 t482, .int .i64 0, .int .i64 0]) ?_ 2 _ rfl; (with_reducible repeat (first | refine blk_drewN ?_ _ | refine blk_drew ?_ | refine blk_alloc ?_ _)); refine blk_put (cs := #[.int .i64 t481, .int .i64 0, .int .i64 0, .int .i64 0]) ?_ 1 _ rfl; (with_reducible repeat (first | refine blk_drewN ?_ _ | refine blk_drew ?_ | refine blk_alloc ?_ _)); refine blk_put (cs := #[.int .i64 0, .int .i64 0, .int .i64 0, .int .i64 0]) ?_ 0 _ rfl; (with_reducible repeat (first | refine blk_drewN ?_ _ | refine blk_drew ?_ | refine blk_alloc ?_ _)); exact BK485.out))⟩; have n1_ : Aside0 (Below w.heap.size w w11) := ⟨(by rw [hw]; exact (by repeat (first | (with_reducible first | exact HB.out | apply below_alloc | apply pw_below_drewN | apply below_drew1 | refine below_set ?_ GE485.out) | exact HB.out)))⟩; clear hw; clear BK485; clear HB; have BK485 := n0_; have HB := n1_; clear n0_ n1_) | (go_at_call 21; (with_reducible refine (spec_DrawHarvest.calls k _ _ l0 t486 _ ?side1 ?side2 A5.out).mono ?_); (case side1 => repeat (first | exact (Kd.C_below HR0.out HB.out) | (with_reducible refine Kd.C_alloc ?_ _) | (with_reducible refine Kd.C_drewN ?_ _) | (with_reducible refine Kd.C_drew ?_))); (case side2 => exact HC0.out); rintro e w12 ⟨v487, rfl, ho0, hb⟩; have n0_ := Aside0.mk (Kd.R_lower ho0 (below_size (by repeat (first | (with_reducible first | exact HB.out | apply below_alloc | apply pw_below_drewN | apply below_drew1 | refine below_set ?_ GE485.out) | exact HB.out)))); have n1_ := Aside0.mk (blk_below (g := gb485) (o := .cells #[.int .i64 t481, .int .i64 t482, .int .i64 t483, .int .i64 t484] 35 (0, 0)) (by (with_reducible repeat (first | refine blk_drewN ?_ _ | refine blk_drew ?_ | refine blk_alloc ?_ _)); exact BK485.out) hb); have n2_ := Aside0.mk (below_step (by repeat (first | (with_reducible first | exact HB.out | apply below_alloc | apply pw_below_drewN | apply below_drew1 | refine below_set ?_ GE485.out) | exact HB.out)) hb); clear BK485; clear HB; have HO488 := n0_; have BK485 := n1_; have HB := n2_; clear n0_ n1_ n2_; (try clear hb); (try clear hb2); (try clear hk); (try clear hi); (try clear ho0); have hcz13_0 : w12.cell? ⟨gb485, 0, none⟩ = some (.int .i64 t481) := (blk_cell BK485.out 0).trans rfl; have hcz13_1 : w12.cell? ⟨gb485, 1, none⟩ = some (.int .i64 t482) := (blk_cell BK485.out 1).trans rfl; have hcz13_2 : w12.cell? ⟨gb485, 2, none⟩ = some (.int .i64 t483) := (blk_cell BK485.out 2).trans rfl; have hcz13_3 : w12.cell? ⟨gb485, 3, none⟩ = some (.int .i64 t484) := (blk_cell BK485.out 3).trans rfl; have hfz13_0 := blk_frozen BK485.out 0; have hfz13_1 := blk_frozen BK485.out 1; have hfz13_2 := blk_frozen BK485.out 2; have hfz13_3 := blk_frozen BK485.out 3; obtain ⟨Ao14, co14, eo14⟩ := Kd.R_slice HO488.out; subst eo14) | (go_at_call 36; (with_reducible refine (impl_EnergiesOf.calls k t481 t482 t483 t484 _ _ t486 t489 t492 _ ?side1 ?side2 A6.out).mono ?_); (case side1 => repeat (first | exact (Kd.R_reads' HO488.out).2.2 | (with_reducible refine Kd.C_alloc ?_ _) | (with_reducible refine Kd.C_drewN ?_ _) | (with_reducible refine Kd.C_drew ?_))); (case side2 => exact (Kd.R_reads' HO488.out).2.1); rintro e w15 ⟨v490, rfl, ho0, hb⟩; have n0_ := Aside0.mk (Kd.R_elder' (by (with_reducible repeat (first | apply Kd.R_alloc | apply Kd.R_drewN | apply Kd.R_drew)); exact HO488.out) (Kd.R_base ho0) hb); have n1_ := Aside0.mk (Kd.R_lower (Kd.R_new' ho0 (Kd.R_lt (by (with_reducible repeat (first | apply Kd.R_alloc | apply Kd.R_drewN | apply Kd.R_drew)); exact HO488.out))) (below_size (by repeat (first | (with_reducible first | exact HB.out | apply below_alloc | apply pw_below_drewN | apply below_drew1 | refine below_set ?_ GE485.out) | exact HB.out)))); have n2_ := Aside0.mk (blk_below (g := gb485) (o := .cells #[.int .i64 t481, .int .i64 t482, .int .i64 t483, .int .i64 t484] 35 (0, 0)) (by (with_reducible repeat (first | refine blk_drewN ?_ _ | refine blk_drew ?_ | refine blk_alloc ?_ _)); exact BK485.out) hb); have n3_ := Aside0.mk (below_step (by repeat (first | (with_reducible first | exact HB.out | apply below_alloc | apply pw_below_drewN | apply below_drew1 | refine below_set ?_ GE485.out) | exact HB.out)) hb); clear HO488; clear BK485; clear HB; have HO488 := n0_; have HO491 := n1_; have BK485 := n2_; have HB := n3_; clear n0_ n1_ n2_ n3_; (try clear hb); (try clear hb2); (try clear hk); (try clear hi); (try clear ho0); have hcz16_0 : w15.cell? ⟨gb485, 0, none⟩ = some (.int .i64 t481) := (blk_cell BK485.out 0).trans rfl; have hcz16_1 : w15.cell? ⟨gb485, 1, none⟩ = some (.int .i64 t482) := (blk_cell BK485.out 1).trans rfl; have hcz16_2 : w15.cell? ⟨gb485, 2, none⟩ = some (.int .i64 t483) := (blk_cell BK485.out 2).trans rfl; have hcz16_3 : w15.cell? ⟨gb485, 3, none⟩ = some (.int .i64 t484) := (blk_cell BK485.out 3).trans rfl; have hfz16_0 := blk_frozen BK485.out 0; have hfz16_1 := blk_frozen BK485.out 1; have hfz16_2 := blk_frozen BK485.out 2; have hfz16_3 := blk_frozen BK485.out 3) | (go_at_call 37; (with_reducible refine (impl_WastedBy.calls k t481 t482 t483 t484 _ _ t486 t493 _ ?side1 ?side2 A7.out).mono ?_); (case side1 => repeat (first | exact (Kd.R_reads' HO488.out).2.2 | (with_reducible refine Kd.C_alloc ?_ _) | (with_reducible refine Kd.C_drewN ?_ _) | (with_reducible refine Kd.C_drew ?_))); (case side2 => exact (Kd.R_reads' HO488.out).2.1); rintro e w17 ⟨rfl, hb⟩; have n0_ := Aside0.mk (Kd.R_below (by (with_reducible repeat (first | apply Kd.R_alloc | apply Kd.R_drewN | apply Kd.R_drew)); exact HO488.out) hb); have n1_ := Aside0.mk (Kd.R_below (by (with_reducible repeat (first | apply Kd.R_alloc | apply Kd.R_drewN | apply Kd.R_drew)); exact HO491.out) hb); have n2_ := Aside0.mk (blk_below (g := gb485) (o := .cells #[.int .i64 t481, .int .i64 t482, .int .i64 t483, .int .i64 t484] 35 (0, 0)) (by (with_reducible repeat (first | refine blk_drewN ?_ _ | refine blk_drew ?_ | refine blk_alloc ?_ _)); exact BK485.out) hb); have n3_ := Aside0.mk (below_step (by repeat (first | (with_reducible first | exact HB.out | apply below_alloc | apply pw_below_drewN | apply below_drew1 | refine below_set ?_ GE485.out) | exact HB.out)) hb); clear HO488; clear HO491; clear BK485; clear HB; have HO488 := n0_; have HO491 := n1_; have BK485 := n2_; have HB := n3_; clear n0_ n1_ n2_ n3_; (try clear hb); (try clear hb2); (try clear hk); (try clear hi)))
    repeat (go_quiet (first | (go_at_call 19; (with_reducible refine (laws_big.calls _ _ l0 false _ ?side1 ?side2 A2.out).mono ?_); (case side1 => repeat (first | exact HR0.out | (with_reducible refine Kd.C_alloc ?_ _) | (with_reducible refine Kd.C_drewN ?_ _) | (with_reducible refine Kd.C_drew ?_))); (case side2 => exact HC0.out); rintro e w' ⟨rfl, ⟨nd, rfl⟩⟩; (try first | exact ⟨rfl, _, World.drewN_drewN _ _ _⟩ | exact ⟨rfl, _, Eq.trans (World.drewN_drewN _ _ _) (congrArg (World.drewN _) (Nat.add_assoc _ _ _))⟩)) | (go_at_call 20; (with_reducible refine (spec_DrawStore.calls k _ _ l0 t481 t482 t483 t484 _ ?side1 ?side2 A4.out).mono ?_); (case side1 => repeat (first | exact HR0.out | (with_reducible refine Kd.C_alloc ?_ _) | (with_reducible refine Kd.C_drewN ?_ _) | (with_reducible refine Kd.C_drew ?_))); (case side2 => exact HC0.out); rintro e w8 ⟨rfl, hb⟩; have n0_ := Aside0.mk (below_step (by repeat (first | (with_reducible first | exact HB.out | apply below_alloc | apply pw_below_drewN | apply below_drew1) | exact HB.out)) hb); clear HB; have HB := n0_; clear n0_; (try clear hb); (try clear hb2); (try clear hk); (try clear hi)) | ((with_reducible refine gate_dst (N := 3) rfl ?_); (try (refine gate_guard (by rfl) ?_; dsimp only)); refine box_event ?hg (N := 3) ?hd (cs := #[.int .i64 0, .int .i64 0, .int .i64 0, .int .i64 0]) (t := 35) ?hr ?_; (case hd => rfl); (case hg => rfl); (case hr => first | (go_simp; done) | (go_simp; rfl)); intro gb485 hg w9 hbox hb; have n0_ := Aside0.mk (below_step (by repeat (first | (with_reducible first | exact HB.out | apply below_alloc | apply pw_below_drewN | apply below_drew1) | exact HB.out)) hb); have n1_ := Aside0.mk (hbox); have n2_ := Aside0.mk ((by rw [hg]; exact (below_size (by repeat (first | (with_reducible first | exact HB.out | apply below_alloc | apply pw_below_drewN | apply below_drew1) | exact HB.out))) : w.heap.size ≤ gb485)); have n3_ := Aside0.mk ((by rw [hg]; exact (below_size (by repeat (first | (with_reducible first | exact HB.out | apply below_alloc | apply pw_below_drewN | apply below_drew1) | exact HB.out))) : w.heap.size ≤ gb485)); clear HB; have HB := n0_; have BK485 := n1_; have GW485 := n2_; have GE485 := n3_; clear n0_ n1_ n2_ n3_; clear hb hbox hg; have hcz10_0 : w9.cell? ⟨gb485, 0, none⟩ = some (.int .i64 0) := (blk_cell BK485.out 0).trans rfl; have hcz10_1 : w9.cell? ⟨gb485, 1, none⟩ = some (.int .i64 0) := (blk_cell BK485.out 1).trans rfl; have hcz10_2 : w9.cell? ⟨gb485, 2, none⟩ = some (.int .i64 0) := (blk_cell BK485.out 2).trans rfl; have hcz10_3 : w9.cell? ⟨gb485, 3, none⟩ = some (.int .i64 0) := (blk_cell BK485.out 3).trans rfl; have hfz10_0 := blk_frozen BK485.out 0; have hfz10_1 := blk_frozen BK485.out 1; have hfz10_2 := blk_frozen BK485.out 2; have hfz10_3 := blk_frozen BK485.out 3) | ((with_reducible refine gate_store (t := 35) (p := 3) rfl ?_); (try (rw [drewN_self w9]; generalize hq_ : World.drewN w9 _ = w9; have n0_ := Aside0.mk (blk_at hq_ BK485.out); have n1_ := Aside0.mk (below_at hq_ HB.out); clear hq_ BK485 HB; have BK485 := n0_; have HB := n1_; clear n0_ n1_)); refine store_event (t := 35) (p := 3) (v := ?vo_w11) (w1 := ((((w9.setCell ⟨gb485, 0, none⟩ (.int .i64 t481)).setCell ⟨gb485, 1, none⟩ (.int .i64 t482)).setCell ⟨gb485, 2, none⟩ (.int .i64 t483)).setCell ⟨gb485, 3, none⟩ (.int .i64 t484))) ?hg ?ho ?hn ?hr ?_; (case ho => rfl); (case hg => rfl); (case hn => rfl); (case hr => first | (go_simp; done) | (go_simp; rfl)); intro w11 hw; have n0_ : Aside0 (w11.heap[gb485]? = some (.cells #[.int .i64 t481, .int .i64 t482, .int .i64 t483, .int .i64 t484] 35 (0, 0))) := ⟨(by rw [hw]; exact (by (with_reducible repeat (first | refine blk_drewN ?_ _ | refine blk_drew ?_ | refine blk_alloc ?_ _)); refine blk_put (cs := #[.int .i64 t481, .int .i64 t482, .int .i64 t483, .int .i64 0]) ?_ 3 _ rfl; (with_reducible repeat (first | refine blk_drewN ?_ _ | refine blk_drew ?_ | refine blk_alloc ?_ _)); refine blk_put (cs := #[.int .i64 t481, .int .i64 t482, .int .i64 0, .int .i64 0]) ?_ 2 _ rfl; (with_reducible repeat (first | refine blk_drewN ?_ _ | refine blk_drew ?_ | refine blk_alloc ?_ _)); refine blk_put (cs := #[.int .i64 t481, .int .i64 0, .int .i64 0, .int .i64 0]) ?_ 1 _ rfl; (with_reducible repeat (first | refine blk_drewN ?_ _ | refine blk_drew ?_ | refine blk_alloc ?_ _)); refine blk_put (cs := #[.int .i64 0, .int .i64 0, .int .i64 0, .int .i64 0]) ?_ 0 _ rfl; (with_reducible repeat (first | refine blk_drewN ?_ _ | refine blk_drew ?_ | refine blk_alloc ?_ _)); exact BK485.out))⟩; have n1_ : Aside0 (Below w.heap.size w w11) := ⟨(by rw [hw]; exact (by repeat (first | (with_reducible first | exact HB.out | apply below_alloc | apply pw_below_drewN | apply below_drew1 | refine below_set ?_ GE485.out) | exact HB.out)))⟩; clear hw; clear BK485; clear HB; have BK485 := n0_; have HB := n1_; clear n0_ n1_) | (go_at_call 21; (with_reducible refine (spec_DrawHarvest.calls k _ _ l0 t486 _ ?side1 ?side2 A5.out).mono ?_); (case side1 => repeat (first | exact (Kd.C_below HR0.out HB.out) | (with_reducible refine Kd.C_alloc ?_ _) | (with_reducible refine Kd.C_drewN ?_ _) | (with_reducible refine Kd.C_drew ?_))); (case side2 => exact HC0.out); rintro e w12 ⟨v487, rfl, ho0, hb⟩; have n0_ := Aside0.mk (Kd.R_lower ho0 (below_size (by repeat (first | (with_reducible first | exact HB.out | apply below_alloc | apply pw_below_drewN | apply below_drew1 | refine below_set ?_ GE485.out) | exact HB.out)))); have n1_ := Aside0.mk (blk_below (g := gb485) (o := .cells #[.int .i64 t481, .int .i64 t482, .int .i64 t483, .int .i64 t484] 35 (0, 0)) (by (with_reducible repeat (first | refine blk_drewN ?_ _ | refine blk_drew ?_ | refine blk_alloc ?_ _)); exact BK485.out) hb); have n2_ := Aside0.mk (below_step (by repeat (first | (with_reducible first | exact HB.out | apply below_alloc | apply pw_below_drewN | apply below_drew1 | refine below_set ?_ GE485.out) | exact HB.out)) hb); clear BK485; clear HB; have HO488 := n0_; have BK485 := n1_; have HB := n2_; clear n0_ n1_ n2_; (try clear hb); (try clear hb2); (try clear hk); (try clear hi); (try clear ho0); have hcz13_0 : w12.cell? ⟨gb485, 0, none⟩ = some (.int .i64 t481) := (blk_cell BK485.out 0).trans rfl; have hcz13_1 : w12.cell? ⟨gb485, 1, none⟩ = some (.int .i64 t482) := (blk_cell BK485.out 1).trans rfl; have hcz13_2 : w12.cell? ⟨gb485, 2, none⟩ = some (.int .i64 t483) := (blk_cell BK485.out 2).trans rfl; have hcz13_3 : w12.cell? ⟨gb485, 3, none⟩ = some (.int .i64 t484) := (blk_cell BK485.out 3).trans rfl; have hfz13_0 := blk_frozen BK485.out 0; have hfz13_1 := blk_frozen BK485.out 1; have hfz13_2 := blk_frozen BK485.out 2; have hfz13_3 := blk_frozen BK485.out 3; obtain ⟨Ao14, co14, eo14⟩ := Kd.R_slice HO488.out; subst eo14) | (go_at_call 36; (with_reducible refine (impl_EnergiesOf.calls k t481 t482 t483 t484 _ _ t486 t489 t492 _ ?side1 ?side2 A6.out).mono ?_); (case side1 => repeat (first | exact (Kd.R_reads' HO488.out).2.2 | (with_reducible refine Kd.C_alloc ?_ _) | (with_reducible refine Kd.C_drewN ?_ _) | (with_reducible refine Kd.C_drew ?_))); (case side2 => exact (Kd.R_reads' HO488.out).2.1); rintro e w15 ⟨v490, rfl, ho0, hb⟩; have n0_ := Aside0.mk (Kd.R_elder' (by (with_reducible repeat (first | apply Kd.R_alloc | apply Kd.R_drewN | apply Kd.R_drew)); exact HO488.out) (Kd.R_base ho0) hb); have n1_ := Aside0.mk (Kd.R_lower (Kd.R_new' ho0 (Kd.R_lt (by (with_reducible repeat (first | apply Kd.R_alloc | apply Kd.R_drewN | apply Kd.R_drew)); exact HO488.out))) (below_size (by repeat (first | (with_reducible first | exact HB.out | apply below_alloc | apply pw_below_drewN | apply below_drew1 | refine below_set ?_ GE485.out) | exact HB.out)))); have n2_ := Aside0.mk (blk_below (g := gb485) (o := .cells #[.int .i64 t481, .int .i64 t482, .int .i64 t483, .int .i64 t484] 35 (0, 0)) (by (with_reducible repeat (first | refine blk_drewN ?_ _ | refine blk_drew ?_ | refine blk_alloc ?_ _)); exact BK485.out) hb); have n3_ := Aside0.mk (below_step (by repeat (first | (with_reducible first | exact HB.out | apply below_alloc | apply pw_below_drewN | apply below_drew1 | refine below_set ?_ GE485.out) | exact HB.out)) hb); clear HO488; clear BK485; clear HB; have HO488 := n0_; have HO491 := n1_; have BK485 := n2_; have HB := n3_; clear n0_ n1_ n2_ n3_; (try clear hb); (try clear hb2); (try clear hk); (try clear hi); (try clear ho0); have hcz16_0 : w15.cell? ⟨gb485, 0, none⟩ = some (.int .i64 t481) := (blk_cell BK485.out 0).trans rfl; have hcz16_1 : w15.cell? ⟨gb485, 1, none⟩ = some (.int .i64 t482) := (blk_cell BK485.out 1).trans rfl; have hcz16_2 : w15.cell? ⟨gb485, 2, none⟩ = some (.int .i64 t483) := (blk_cell BK485.out 2).trans rfl; have hcz16_3 : w15.cell? ⟨gb485, 3, none⟩ = some (.int .i64 t484) := (blk_cell BK485.out 3).trans rfl; have hfz16_0 := blk_frozen BK485.out 0; have hfz16_1 := blk_frozen BK485.out 1; have hfz16_2 := blk_frozen BK485.out 2; have hfz16_3 := blk_frozen BK485.out 3) | (go_at_call 37; (with_reducible refine (impl_WastedBy.calls k t481 t482 t483 t484 _ _ t486 t493 _ ?side1 ?side2 A7.out).mono ?_); (case side1 => repeat (first | exact (Kd.R_reads' HO488.out).2.2 | (with_reducible refine Kd.C_alloc ?_ _) | (with_reducible refine Kd.C_drewN ?_ _) | (with_reducible refine Kd.C_drew ?_))); (case side2 => exact (Kd.R_reads' HO488.out).2.1); rintro e w17 ⟨rfl, hb⟩; have n0_ := Aside0.mk (Kd.R_below (by (with_reducible repeat (first | apply Kd.R_alloc | apply Kd.R_drewN | apply Kd.R_drew)); exact HO488.out) hb); have n1_ := Aside0.mk (Kd.R_below (by (with_reducible repeat (first | apply Kd.R_alloc | apply Kd.R_drewN | apply Kd.R_drew)); exact HO491.out) hb); have n2_ := Aside0.mk (blk_below (g := gb485) (o := .cells #[.int .i64 t481, .int .i64 t482, .int .i64 t483, .int .i64 t484] 35 (0, 0)) (by (with_reducible repeat (first | refine blk_drewN ?_ _ | refine blk_drew ?_ | refine blk_alloc ?_ _)); exact BK485.out) hb); have n3_ := Aside0.mk (below_step (by repeat (first | (with_reducible first | exact HB.out | apply below_alloc | apply pw_below_drewN | apply below_drew1 | refine below_set ?_ GE485.out) | exact HB.out)) hb); clear HO488; clear HO491; clear BK485; clear HB; have HO488 := n0_; have HO491 := n1_; have BK485 := n2_; have HB := n3_; clear n0_ n1_ n2_ n3_; (try clear hb); (try clear hb2); (try clear hk); (try clear hi))); try go_wp2_with (first | (go_at_call 19; (with_reducible refine (laws_big.calls _ _ l0 false _ ?side1 ?side2 A2.out).mono ?_); (case side1 => repeat (first | exact HR0.out | (with_reducible refine Kd.C_alloc ?_ _) | (with_reducible refine Kd.C_drewN ?_ _) | (with_reducible refine Kd.C_drew ?_))); (case side2 => exact HC0.out); rintro e w' ⟨rfl, ⟨nd, rfl⟩⟩; (try first | exact ⟨rfl, _, World.drewN_drewN _ _ _⟩ | exact ⟨rfl, _, Eq.trans (World.drewN_drewN _ _ _) (congrArg (World.drewN _) (Nat.add_assoc _ _ _))⟩)) | (go_at_call 20; (with_reducible refine (spec_DrawStore.calls k _ _ l0 t481 t482 t483 t484 _ ?side1 ?side2 A4.out).mono ?_); (case side1 => repeat (first | exact HR0.out | (with_reducible refine Kd.C_alloc ?_ _) | (with_reducible refine Kd.C_drewN ?_ _) | (with_reducible refine Kd.C_drew ?_))); (case side2 => exact HC0.out); rintro e w8 ⟨rfl, hb⟩; have n0_ := Aside0.mk (below_step (by repeat (first | (with_reducible first | exact HB.out | apply below_alloc | apply pw_below_drewN | apply below_drew1) | exact HB.out)) hb); clear HB; have HB := n0_; clear n0_; (try clear hb); (try clear hb2); (try clear hk); (try clear hi)) | ((with_reducible refine gate_dst (N := 3) rfl ?_); (try (refine gate_guard (by rfl) ?_; dsimp only)); refine box_event ?hg (N := 3) ?hd (cs := #[.int .i64 0, .int .i64 0, .int .i64 0, .int .i64 0]) (t := 35) ?hr ?_; (case hd => rfl); (case hg => rfl); (case hr => first | (go_simp; done) | (go_simp; rfl)); intro gb485 hg w9 hbox hb; have n0_ := Aside0.mk (below_step (by repeat (first | (with_reducible first | exact HB.out | apply below_alloc | apply pw_below_drewN | apply below_drew1) | exact HB.out)) hb); have n1_ := Aside0.mk (hbox); have n2_ := Aside0.mk ((by rw [hg]; exact (below_size (by repeat (first | (with_reducible first | exact HB.out | apply below_alloc | apply pw_below_drewN | apply below_drew1) | exact HB.out))) : w.heap.size ≤ gb485)); have n3_ := Aside0.mk ((by rw [hg]; exact (below_size (by repeat (first | (with_reducible first | exact HB.out | apply below_alloc | apply pw_below_drewN | apply below_drew1) | exact HB.out))) : w.heap.size ≤ gb485)); clear HB; have HB := n0_; have BK485 := n1_; have GW485 := n2_; have GE485 := n3_; clear n0_ n1_ n2_ n3_; clear hb hbox hg; have hcz10_0 : w9.cell? ⟨gb485, 0, none⟩ = some (.int .i64 0) := (blk_cell BK485.out 0).trans rfl; have hcz10_1 : w9.cell? ⟨gb485, 1, none⟩ = some (.int .i64 0) := (blk_cell BK485.out 1).trans rfl; have hcz10_2 : w9.cell? ⟨gb485, 2, none⟩ = some (.int .i64 0) := (blk_cell BK485.out 2).trans rfl; have hcz10_3 : w9.cell? ⟨gb485, 3, none⟩ = some (.int .i64 0) := (blk_cell BK485.out 3).trans rfl; have hfz10_0 := blk_frozen BK485.out 0; have hfz10_1 := blk_frozen BK485.out 1; have hfz10_2 := blk_frozen BK485.out 2; have hfz10_3 := blk_frozen BK485.out 3) | ((with_reducible refine gate_store (t := 35) (p := 3) rfl ?_); (try (rw [drewN_self w9]; generalize hq_ : World.drewN w9 _ = w9; have n0_ := Aside0.mk (blk_at hq_ BK485.out); have n1_ := Aside0.mk (below_at hq_ HB.out); clear hq_ BK485 HB; have BK485 := n0_; have HB := n1_; clear n0_ n1_)); refine store_event (t := 35) (p := 3) (v := ?vo_w11) (w1 := ((((w9.setCell ⟨gb485, 0, none⟩ (.int .i64 t481)).setCell ⟨gb485, 1, none⟩ (.int .i64 t482)).setCell ⟨gb485, 2, none⟩ (.int .i64 t483)).setCell ⟨gb485, 3, none⟩ (.int .i64 t484))) ?hg ?ho ?hn ?hr ?_; (case ho => rfl); (case hg => rfl); (case hn => rfl); (case hr => first | (go_simp; done) | (go_simp; rfl)); intro w11 hw; have n0_ : Aside0 (w11.heap[gb485]? = some (.cells #[.int .i64 t481, .int .i64 t482, .int .i64 t483, .int .i64 t484] 35 (0, 0))) := ⟨(by rw [hw]; exact (by (with_reducible repeat (first | refine blk_drewN ?_ _ | refine blk_drew ?_ | refine blk_alloc ?_ _)); refine blk_put (cs := #[.int .i64 t481, .int .i64 t482, .int .i64 t483, .int .i64 0]) ?_ 3 _ rfl; (with_reducible repeat (first | refine blk_drewN ?_ _ | refine blk_drew ?_ | refine blk_alloc ?_ _)); refine blk_put (cs := #[.int .i64 t481, .int .i64 t482, .int .i64 0, .int .i64 0]) ?_ 2 _ rfl; (with_reducible repeat (first | refine blk_drewN ?_ _ | refine blk_drew ?_ | refine blk_alloc ?_ _)); refine blk_put (cs := #[.int .i64 t481, .int .i64 0, .int .i64 0, .int .i64 0]) ?_ 1 _ rfl; (with_reducible repeat (first | refine blk_drewN ?_ _ | refine blk_drew ?_ | refine blk_alloc ?_ _)); refine blk_put (cs := #[.int .i64 0, .int .i64 0, .int .i64 0, .int .i64 0]) ?_ 0 _ rfl; (with_reducible repeat (first | refine blk_drewN ?_ _ | refine blk_drew ?_ | refine blk_alloc ?_ _)); exact BK485.out))⟩; have n1_ : Aside0 (Below w.heap.size w w11) := ⟨(by rw [hw]; exact (by repeat (first | (with_reducible first | exact HB.out | apply below_alloc | apply pw_below_drewN | apply below_drew1 | refine below_set ?_ GE485.out) | exact HB.out)))⟩; clear hw; clear BK485; clear HB; have BK485 := n0_; have HB := n1_; clear n0_ n1_) | (go_at_call 21; (with_reducible refine (spec_DrawHarvest.calls k _ _ l0 t486 _ ?side1 ?side2 A5.out).mono ?_); (case side1 => repeat (first | exact (Kd.C_below HR0.out HB.out) | (with_reducible refine Kd.C_alloc ?_ _) | (with_reducible refine Kd.C_drewN ?_ _) | (with_reducible refine Kd.C_drew ?_))); (case side2 => exact HC0.out); rintro e w12 ⟨v487, rfl, ho0, hb⟩; have n0_ := Aside0.mk (Kd.R_lower ho0 (below_size (by repeat (first | (with_reducible first | exact HB.out | apply below_alloc | apply pw_below_drewN | apply below_drew1 | refine below_set ?_ GE485.out) | exact HB.out)))); have n1_ := Aside0.mk (blk_below (g := gb485) (o := .cells #[.int .i64 t481, .int .i64 t482, .int .i64 t483, .int .i64 t484] 35 (0, 0)) (by (with_reducible repeat (first | refine blk_drewN ?_ _ | refine blk_drew ?_ | refine blk_alloc ?_ _)); exact BK485.out) hb); have n2_ := Aside0.mk (below_step (by repeat (first | (with_reducible first | exact HB.out | apply below_alloc | apply pw_below_drewN | apply below_drew1 | refine below_set ?_ GE485.out) | exact HB.out)) hb); clear BK485; clear HB; have HO488 := n0_; have BK485 := n1_; have HB := n2_; clear n0_ n1_ n2_; (try clear hb); (try clear hb2); (try clear hk); (try clear hi); (try clear ho0); have hcz13_0 : w12.cell? ⟨gb485, 0, none⟩ = some (.int .i64 t481) := (blk_cell BK485.out 0).trans rfl; have hcz13_1 : w12.cell? ⟨gb485, 1, none⟩ = some (.int .i64 t482) := (blk_cell BK485.out 1).trans rfl; have hcz13_2 : w12.cell? ⟨gb485, 2, none⟩ = some (.int .i64 t483) := (blk_cell BK485.out 2).trans rfl; have hcz13_3 : w12.cell? ⟨gb485, 3, none⟩ = some (.int .i64 t484) := (blk_cell BK485.out 3).trans rfl; have hfz13_0 := blk_frozen BK485.out 0; have hfz13_1 := blk_frozen BK485.out 1; have hfz13_2 := blk_frozen BK485.out 2; have hfz13_3 := blk_frozen BK485.out 3; obtain ⟨Ao14, co14, eo14⟩ := Kd.R_slice HO488.out; subst eo14) | (go_at_call 36; (with_reducible refine (impl_EnergiesOf.calls k t481 t482 t483 t484 _ _ t486 t489 t492 _ ?side1 ?side2 A6.out).mono ?_); (case side1 => repeat (first | exact (Kd.R_reads' HO488.out).2.2 | (with_reducible refine Kd.C_alloc ?_ _) | (with_reducible refine Kd.C_drewN ?_ _) | (with_reducible refine Kd.C_drew ?_))); (case side2 => exact (Kd.R_reads' HO488.out).2.1); rintro e w15 ⟨v490, rfl, ho0, hb⟩; have n0_ := Aside0.mk (Kd.R_elder' (by (with_reducible repeat (first | apply Kd.R_alloc | apply Kd.R_drewN | apply Kd.R_drew)); exact HO488.out) (Kd.R_base ho0) hb); have n1_ := Aside0.mk (Kd.R_lower (Kd.R_new' ho0 (Kd.R_lt (by (with_reducible repeat (first | apply Kd.R_alloc | apply Kd.R_drewN | apply Kd.R_drew)); exact HO488.out))) (below_size (by repeat (first | (with_reducible first | exact HB.out | apply below_alloc | apply pw_below_drewN | apply below_drew1 | refine below_set ?_ GE485.out) | exact HB.out)))); have n2_ := Aside0.mk (blk_below (g := gb485) (o := .cells #[.int .i64 t481, .int .i64 t482, .int .i64 t483, .int .i64 t484] 35 (0, 0)) (by (with_reducible repeat (first | refine blk_drewN ?_ _ | refine blk_drew ?_ | refine blk_alloc ?_ _)); exact BK485.out) hb); have n3_ := Aside0.mk (below_step (by repeat (first | (with_reducible first | exact HB.out | apply below_alloc | apply pw_below_drewN | apply below_drew1 | refine below_set ?_ GE485.out) | exact HB.out)) hb); clear HO488; clear BK485; clear HB; have HO488 := n0_; have HO491 := n1_; have BK485 := n2_; have HB := n3_; clear n0_ n1_ n2_ n3_; (try clear hb); (try clear hb2); (try clear hk); (try clear hi); (try clear ho0); have hcz16_0 : w15.cell? ⟨gb485, 0, none⟩ = some (.int .i64 t481) := (blk_cell BK485.out 0).trans rfl; have hcz16_1 : w15.cell? ⟨gb485, 1, none⟩ = some (.int .i64 t482) := (blk_cell BK485.out 1).trans rfl; have hcz16_2 : w15.cell? ⟨gb485, 2, none⟩ = some (.int .i64 t483) := (blk_cell BK485.out 2).trans rfl; have hcz16_3 : w15.cell? ⟨gb485, 3, none⟩ = some (.int .i64 t484) := (blk_cell BK485.out 3).trans rfl; have hfz16_0 := blk_frozen BK485.out 0; have hfz16_1 := blk_frozen BK485.out 1; have hfz16_2 := blk_frozen BK485.out 2; have hfz16_3 := blk_frozen BK485.out 3) | (go_at_call 37; (with_reducible refine (impl_WastedBy.calls k t481 t482 t483 t484 _ _ t486 t493 _ ?side1 ?side2 A7.out).mono ?_); (case side1 => repeat (first | exact (Kd.R_reads' HO488.out).2.2 | (with_reducible refine Kd.C_alloc ?_ _) | (with_reducible refine Kd.C_drewN ?_ _) | (with_reducible refine Kd.C_drew ?_))); (case side2 => exact (Kd.R_reads' HO488.out).2.1); rintro e w17 ⟨rfl, hb⟩; have n0_ := Aside0.mk (Kd.R_below (by (with_reducible repeat (first | apply Kd.R_alloc | apply Kd.R_drewN | apply Kd.R_drew)); exact HO488.out) hb); have n1_ := Aside0.mk (Kd.R_below (by (with_reducible repeat (first | apply Kd.R_alloc | apply Kd.R_drewN | apply Kd.R_drew)); exact HO491.out) hb); have n2_ := Aside0.mk (blk_below (g := gb485) (o := .cells #[.int .i64 t481, .int .i64 t482, .int .i64 t483, .int .i64 t484] 35 (0, 0)) (by (with_reducible repeat (first | refine blk_drewN ?_ _ | refine blk_drew ?_ | refine blk_alloc ?_ _)); exact BK485.out) hb); have n3_ := Aside0.mk (below_step (by repeat (first | (with_reducible first | exact HB.out | apply below_alloc | apply pw_below_drewN | apply below_drew1 | refine below_set ?_ GE485.out) | exact HB.out)) hb); clear HO488; clear HO491; clear BK485; clear HB; have HO488 := n0_; have HO491 := n1_; have BK485 := n2_; have HB := n3_; clear n0_ n1_ n2_ n3_; (try clear hb); (try clear hb2); (try clear hk); (try clear hi))))
    go_loopg [8] k (fun kq v8 w' => ∃ (x8_1 : Int), v8 = .int .i64 x8_1 ∧ Aside0 (laws_FnBootEnergies.l0 kq t486 t489 t492 t493 x8_1 t481 t482 t483 t484 = some r) ∧ Aside0 (kq ≤ k) ∧ Aside0 (Kd.R (Kd.int .i64) 3 w' w.heap.size (fun k_ => some k_ ≠ (v490 : Value).ownBlock) (.slice Ao14 t486.length co14) t486) ∧ Aside0 (Kd.R (Kd.int .i64) 3 w' w.heap.size (fun k_ => some k_ ≠ ((.slice Ao14 t486.length co14) : Value).ownBlock) v490 t489) ∧ Aside0 (w'.heap[gb485]? = some (.cells #[.int .i64 t481, .int .i64 t482, .int .i64 t483, .int .i64 t484] 35 (0, 0))) ∧ Aside0 (Below w.heap.size w w'))
    case atStart => exact ⟨(0), (by first | rfl | (simp; done) | (simp [*]; done)), H', ⟨Nat.le_refl _⟩, ⟨by (with_reducible repeat (first | apply Kd.R_alloc | apply Kd.R_drewN | apply Kd.R_drew)); exact Kd.R_mono HO488.out (fun _ hk => hk.2)⟩, ⟨by (with_reducible repeat (first | apply Kd.R_alloc | apply Kd.R_drewN | apply Kd.R_drew)); exact Kd.R_mono HO491.out (fun _ hk => hk.2)⟩, ⟨by (with_reducible repeat (first | refine blk_drewN ?_ _ | refine blk_drew ?_ | refine blk_alloc ?_ _)); exact BK485.out⟩, ⟨by repeat (first | (with_reducible first | exact HB.out | apply below_alloc | apply pw_below_drewN | apply below_drew1 | refine below_set ?_ GE485.out) | exact HB.out)⟩⟩
    case round =>
      clear H'
      try clear p2
      try clear c3
      try clear c8
      try clear hcz10_0
      try clear hcz10_1
      try clear hcz10_2
      try clear hcz10_3
      try clear hcz13_0
      try clear hcz13_1
      try clear hcz13_2
      try clear hcz13_3
      try clear hcz16_0
      try clear hcz16_1
      try clear hcz16_2
      try clear hcz16_3
      try clear hfz10_0
      try clear hfz10_1
      try clear hfz10_2
      try clear hfz10_3
      try clear hfz13_0
      try clear hfz13_1
      try clear hfz13_2
      try clear hfz13_3
      try clear hfz16_0
      try clear hfz16_1
      try clear hfz16_2
      try clear hfz16_3
      obtain ⟨x8_1, rfl, HA, HK1, HO_4, HO_5, BK485, HB⟩ := hrel
      cases gk with
      | zero => exact absurd HA.out (by simp [laws_FnBootEnergies.l0])
      | succ k1 =>
        have H := HA.out
        clear HA
        simp only [laws_FnBootEnergies.l0] at H
        by_cases c18 : x8_1 < (t489.length : Int)
        · rw [if_pos c18] at H
          have c18b0 : decide (x8_1 < (t489.length : Int)) = true := decide_eq_true c18
          clear c18
          by_cases c19 : 0 ≤ x8_1
          · rw [if_pos c19] at H
            have c19b0 : decide (0 ≤ x8_1) = true := decide_eq_true c19
            clear c19
            by_cases c20 : (rd t489 x8_1) < t483
            · rw [if_pos c20] at H
              have c20b0 : decide ((rd t489 x8_1) < t483) = true := decide_eq_true c20
              clear c20
              obtain rfl := Option.some.inj H
              obtain ⟨Ao21, co21, eo21⟩ := Kd.R_slice HO_5.out
              subst eo21
              have p494 : 0 ≤ (x8_1 : Int) := of_decide_eq_true (by first | (with_reducible assumption) | assumption)
              have q494 : x8_1 < (t489.length : Int) := of_decide_eq_true (by first | (with_reducible assumption) | assumption)
              obtain ⟨ad494, e494, hx494_0⟩ := Kd.at_int (Kd.R_reads' HO_5.out).2.2 x8_1 p494 q494
              cases e494
              replace p494 := eq_true p494
              replace q494 := eq_true q494
              have hcz22_0 : wr.cell? ⟨gb485, 0, none⟩ = some (.int .i64 t481) := (blk_cell BK485.out 0).trans rfl
              have hcz22_1 : wr.cell? ⟨gb485, 1, none⟩ = some (.int .i64 t482) := (blk_cell BK485.out 1).trans rfl
              have hcz22_2 : wr.cell? ⟨gb485, 2, none⟩ = some (.int .i64 t483) := (blk_cell BK485.out 2).trans rfl
              have hcz22_3 : wr.cell? ⟨gb485, 3, none⟩ = some (.int .i64 t484) := (blk_cell BK485.out 3).trans rfl
              have hfz22_0 := blk_frozen BK485.out 0
              have hfz22_1 := blk_frozen BK485.out 1
              have hfz22_2 := blk_frozen BK485.out 2
              have hfz22_3 := blk_frozen BK485.out 3
              go_wp2
              repeat (go_quiet (fail); try go_wp2)
              go_ret
              exact ⟨by first | rfl | (simp [errW_none, errW_some] <;> rfl) | (simp [*, errW_none, errW_some] <;> rfl) | (simp [*, errW_none, errW_some, i64_w]; done), by repeat (first | (with_reducible first | exact HB.out | apply below_alloc | apply pw_below_drewN | apply below_drew1 | refine below_set ?_ GE485.out) | exact HB.out)⟩
            · rw [if_neg c20] at H
              have c20b0 : decide ((rd t489 x8_1) < t483) = false := decide_eq_false c20
              clear c20
              by_cases c23 : (rd t489 x8_1) > t482
              · rw [if_pos c23] at H
                have c23b0 : decide (t482 < (rd t489 x8_1)) = true := decide_eq_true c23
                clear c23
                obtain rfl := Option.some.inj H
                obtain ⟨Ao24, co24, eo24⟩ := Kd.R_slice HO_5.out
                subst eo24
                have p494 : 0 ≤ (x8_1 : Int) := of_decide_eq_true (by first | (with_reducible assumption) | assumption)
                have q494 : x8_1 < (t489.length : Int) := of_decide_eq_true (by first | (with_reducible assumption) | assumption)
                obtain ⟨ad494, e494, hx494_0⟩ := Kd.at_int (Kd.R_reads' HO_5.out).2.2 x8_1 p494 q494
                cases e494
                replace p494 := eq_true p494
                replace q494 := eq_true q494
                have hcz25_0 : wr.cell? ⟨gb485, 0, none⟩ = some (.int .i64 t481) := (blk_cell BK485.out 0).trans rfl
                have hcz25_1 : wr.cell? ⟨gb485, 1, none⟩ = some (.int .i64 t482) := (blk_cell BK485.out 1).trans rfl
                have hcz25_2 : wr.cell? ⟨gb485, 2, none⟩ = some (.int .i64 t483) := (blk_cell BK485.out 2).trans rfl
                have hcz25_3 : wr.cell? ⟨gb485, 3, none⟩ = some (.int .i64 t484) := (blk_cell BK485.out 3).trans rfl
                have hfz25_0 := blk_frozen BK485.out 0
                have hfz25_1 := blk_frozen BK485.out 1
                have hfz25_2 := blk_frozen BK485.out 2
                have hfz25_3 := blk_frozen BK485.out 3
                have p495 : 0 ≤ (x8_1 : Int) := of_decide_eq_true (by first | (with_reducible assumption) | assumption)
                have q495 : x8_1 < (t489.length : Int) := of_decide_eq_true (by first | (with_reducible assumption) | assumption)
                obtain ⟨ad495, e495, hx495_0⟩ := Kd.at_int (Kd.R_reads' HO_5.out).2.2 x8_1 p495 q495
                obtain rfl : ad494 = ad495 := (by injection e495)
                replace p495 := eq_true p495
                replace q495 := eq_true q495
                go_wp2
                repeat (go_quiet (fail); try go_wp2)
                go_ret
                exact ⟨by first | rfl | (simp [errW_none, errW_some] <;> rfl) | (simp [*, errW_none, errW_some] <;> rfl) | (simp [*, errW_none, errW_some, i64_w]; done), by repeat (first | (with_reducible first | exact HB.out | apply below_alloc | apply pw_below_drewN | apply below_drew1 | refine below_set ?_ GE485.out) | exact HB.out)⟩
              · rw [if_neg c23] at H
                have c23b0 : decide (t482 < (rd t489 x8_1)) = false := decide_eq_false c23
                clear c23
                have H' := Aside0.mk H
                clear H
                obtain ⟨Ao26, co26, eo26⟩ := Kd.R_slice HO_5.out
                subst eo26
                have p494 : 0 ≤ (x8_1 : Int) := of_decide_eq_true (by first | (with_reducible assumption) | assumption)
                have q494 : x8_1 < (t489.length : Int) := of_decide_eq_true (by first | (with_reducible assumption) | assumption)
                obtain ⟨ad494, e494, hx494_0⟩ := Kd.at_int (Kd.R_reads' HO_5.out).2.2 x8_1 p494 q494
                cases e494
                replace p494 := eq_true p494
                replace q494 := eq_true q494
                have hcz27_0 : wr.cell? ⟨gb485, 0, none⟩ = some (.int .i64 t481) := (blk_cell BK485.out 0).trans rfl
                have hcz27_1 : wr.cell? ⟨gb485, 1, none⟩ = some (.int .i64 t482) := (blk_cell BK485.out 1).trans rfl
                have hcz27_2 : wr.cell? ⟨gb485, 2, none⟩ = some (.int .i64 t483) := (blk_cell BK485.out 2).trans rfl
                have hcz27_3 : wr.cell? ⟨gb485, 3, none⟩ = some (.int .i64 t484) := (blk_cell BK485.out 3).trans rfl
                have hfz27_0 := blk_frozen BK485.out 0
                have hfz27_1 := blk_frozen BK485.out 1
                have hfz27_2 := blk_frozen BK485.out 2
                have hfz27_3 := blk_frozen BK485.out 3
                have p495 : 0 ≤ (x8_1 : Int) := of_decide_eq_true (by first | (with_reducible assumption) | assumption)
                have q495 : x8_1 < (t489.length : Int) := of_decide_eq_true (by first | (with_reducible assumption) | assumption)
                obtain ⟨ad495, e495, hx495_0⟩ := Kd.at_int (Kd.R_reads' HO_5.out).2.2 x8_1 p495 q495
                obtain rfl : ad494 = ad495 := (by injection e495)
                replace p495 := eq_true p495
                replace q495 := eq_true q495
                go_wp2
                repeat (go_quiet (fail); try go_wp2)
                go_roundg k1
                case measure => have := HK1.out; omega
                case rel => exact ⟨(wrap64 (x8_1 + 1)), (by first | rfl | (simp; done) | (simp [*]; done)), H', ⟨by have := HK1.out; omega⟩, ⟨by (with_reducible repeat (first | apply Kd.R_alloc | apply Kd.R_drewN | apply Kd.R_drew)); exact HO_4.out⟩, ⟨by (with_reducible repeat (first | apply Kd.R_alloc | apply Kd.R_drewN | apply Kd.R_drew)); exact HO_5.out⟩, ⟨by (with_reducible repeat (first | refine blk_drewN ?_ _ | refine blk_drew ?_ | refine blk_alloc ?_ _)); exact BK485.out⟩, ⟨by repeat (first | (with_reducible first | exact HB.out | apply below_alloc | apply pw_below_drewN | apply below_drew1 | refine below_set ?_ GE485.out) | exact HB.out)⟩⟩
          · rw [if_neg c19] at H
            exact absurd H (by simp)
        · rw [if_neg c18] at H
          have c18b0 : decide (x8_1 < (t489.length : Int)) = false := decide_eq_false c18
          clear c18
          by_cases c28 : t492 = true
          · subst c28
            have H1 : (if t493 ≥ 0 then (if (t489.length : Int) ≤ (t486.length : Int) then ((laws_sumOf.f k1 t489).bind fun t496 => ((laws_sumOf.f k1 t486).bind fun t497 => (some (decide ((wrap64 (t496 + t493)) ≤ (wrap64 (t481 + t497))))))) else (some false)) else (some false)) = some r := by rw [if_pos rfl] at H; exact H
            clear H
            have H := H1
            clear H1
            by_cases c29 : t493 ≥ 0
            · rw [if_pos c29] at H
              have c29b0 : decide (0 ≤ t493) = true := decide_eq_true c29
              clear c29
              by_cases c30 : (t489.length : Int) ≤ (t486.length : Int)
              · rw [if_pos c30] at H
                have c30b0 : decide ((t489.length : Int) ≤ (t486.length : Int)) = true := decide_eq_true c30
                have c30b1 : decide (t489.length ≤ t486.length) = true := decide_eq_true (Int.ofNat_le.mp c30)
                clear c30
                replace H := Option.bind_eq_some_iff.mp H
                obtain ⟨t496, A310, H⟩ := H
                replace H : ((laws_sumOf.f k1 t486).bind fun t497 => (some (decide ((wrap64 (t496 + t493)) ≤ (wrap64 (t481 + t497)))))) = some r := H
                have A31 := Aside0.mk A310
                clear A310
                replace H := Option.bind_eq_some_iff.mp H
                obtain ⟨t497, A320, H⟩ := H
                replace H : (some (decide ((wrap64 (t496 + t493)) ≤ (wrap64 (t481 + t497))))) = some r := H
                have A32 := Aside0.mk A320
                clear A320
                obtain rfl := Option.some.inj H
                obtain ⟨Ao33, co33, eo33⟩ := Kd.R_slice HO_5.out
                subst eo33
                go_wp2_with (first | (go_at_call 38; (with_reducible refine (laws_sumOf.calls k1 _ _ t489 t496 _ ?side1 ?side2 A31.out).mono ?_); (case side1 => repeat (first | exact (Kd.R_reads' HO_5.out).2.2 | (with_reducible refine Kd.C_alloc ?_ _) | (with_reducible refine Kd.C_drewN ?_ _) | (with_reducible refine Kd.C_drew ?_))); (case side2 => exact (Kd.R_reads' HO_5.out).2.1); rintro e w' ⟨rfl, ⟨nd, rfl⟩⟩; (try first | exact ⟨rfl, _, World.drewN_drewN _ _ _⟩ | exact ⟨rfl, _, Eq.trans (World.drewN_drewN _ _ _) (congrArg (World.drewN _) (Nat.add_assoc _ _ _))⟩); have hcz34_0 : wr.cell? ⟨gb485, 0, none⟩ = some (.int .i64 t481) := (blk_cell BK485.out 0).trans rfl; have hcz34_1 : wr.cell? ⟨gb485, 1, none⟩ = some (.int .i64 t482) := (blk_cell BK485.out 1).trans rfl; have hcz34_2 : wr.cell? ⟨gb485, 2, none⟩ = some (.int .i64 t483) := (blk_cell BK485.out 2).trans rfl; have hcz34_3 : wr.cell? ⟨gb485, 3, none⟩ = some (.int .i64 t484) := (blk_cell BK485.out 3).trans rfl; have hfz34_0 := blk_frozen BK485.out 0; have hfz34_1 := blk_frozen BK485.out 1; have hfz34_2 := blk_frozen BK485.out 2; have hfz34_3 := blk_frozen BK485.out 3) | (go_at_call 38; (with_reducible refine (laws_sumOf.calls k1 _ _ t486 t497 _ ?side1 ?side2 A32.out).mono ?_); (case side1 => repeat (first | exact (Kd.R_reads' HO_4.out).2.2 | (with_reducible refine Kd.C_alloc ?_ _) | (with_reducible refine Kd.C_drewN ?_ _) | (with_reducible refine Kd.C_drew ?_))); (case side2 => exact (Kd.R_reads' HO_4.out).2.1); rintro e w' ⟨rfl, ⟨nd, rfl⟩⟩; (try first | exact ⟨rfl, _, World.drewN_drewN _ _ _⟩ | exact ⟨rfl, _, Eq.trans (World.drewN_drewN _ _ _) (congrArg (World.drewN _) (Nat.add_assoc _ _ _))⟩)))
                repeat (go_quiet (first | (go_at_call 38; (with_reducible refine (laws_sumOf.calls k1 _ _ t489 t496 _ ?side1 ?side2 A31.out).mono ?_); (case side1 => repeat (first | exact (Kd.R_reads' HO_5.out).2.2 | (with_reducible refine Kd.C_alloc ?_ _) | (with_reducible refine Kd.C_drewN ?_ _) | (with_reducible refine Kd.C_drew ?_))); (case side2 => exact (Kd.R_reads' HO_5.out).2.1); rintro e w' ⟨rfl, ⟨nd, rfl⟩⟩; (try first | exact ⟨rfl, _, World.drewN_drewN _ _ _⟩ | exact ⟨rfl, _, Eq.trans (World.drewN_drewN _ _ _) (congrArg (World.drewN _) (Nat.add_assoc _ _ _))⟩); have hcz34_0 : wr.cell? ⟨gb485, 0, none⟩ = some (.int .i64 t481) := (blk_cell BK485.out 0).trans rfl; have hcz34_1 : wr.cell? ⟨gb485, 1, none⟩ = some (.int .i64 t482) := (blk_cell BK485.out 1).trans rfl; have hcz34_2 : wr.cell? ⟨gb485, 2, none⟩ = some (.int .i64 t483) := (blk_cell BK485.out 2).trans rfl; have hcz34_3 : wr.cell? ⟨gb485, 3, none⟩ = some (.int .i64 t484) := (blk_cell BK485.out 3).trans rfl; have hfz34_0 := blk_frozen BK485.out 0; have hfz34_1 := blk_frozen BK485.out 1; have hfz34_2 := blk_frozen BK485.out 2; have hfz34_3 := blk_frozen BK485.out 3) | (go_at_call 38; (with_reducible refine (laws_sumOf.calls k1 _ _ t486 t497 _ ?side1 ?side2 A32.out).mono ?_); (case side1 => repeat (first | exact (Kd.R_reads' HO_4.out).2.2 | (with_reducible refine Kd.C_alloc ?_ _) | (with_reducible refine Kd.C_drewN ?_ _) | (with_reducible refine Kd.C_drew ?_))); (case side2 => exact (Kd.R_reads' HO_4.out).2.1); rintro e w' ⟨rfl, ⟨nd, rfl⟩⟩; (try first | exact ⟨rfl, _, World.drewN_drewN _ _ _⟩ | exact ⟨rfl, _, Eq.trans (World.drewN_drewN _ _ _) (congrArg (World.drewN _) (Nat.add_assoc _ _ _))⟩))); try go_wp2_with (first | (go_at_call 38; (with_reducible refine (laws_sumOf.calls k1 _ _ t489 t496 _ ?side1 ?side2 A31.out).mono ?_); (case side1 => repeat (first | exact (Kd.R_reads' HO_5.out).2.2 | (with_reducible refine Kd.C_alloc ?_ _) | (with_reducible refine Kd.C_drewN ?_ _) | (with_reducible refine Kd.C_drew ?_))); (case side2 => exact (Kd.R_reads' HO_5.out).2.1); rintro e w' ⟨rfl, ⟨nd, rfl⟩⟩; (try first | exact ⟨rfl, _, World.drewN_drewN _ _ _⟩ | exact ⟨rfl, _, Eq.trans (World.drewN_drewN _ _ _) (congrArg (World.drewN _) (Nat.add_assoc _ _ _))⟩); have hcz34_0 : wr.cell? ⟨gb485, 0, none⟩ = some (.int .i64 t481) := (blk_cell BK485.out 0).trans rfl; have hcz34_1 : wr.cell? ⟨gb485, 1, none⟩ = some (.int .i64 t482) := (blk_cell BK485.out 1).trans rfl; have hcz34_2 : wr.cell? ⟨gb485, 2, none⟩ = some (.int .i64 t483) := (blk_cell BK485.out 2).trans rfl; have hcz34_3 : wr.cell? ⟨gb485, 3, none⟩ = some (.int .i64 t484) := (blk_cell BK485.out 3).trans rfl; have hfz34_0 := blk_frozen BK485.out 0; have hfz34_1 := blk_frozen BK485.out 1; have hfz34_2 := blk_frozen BK485.out 2; have hfz34_3 := blk_frozen BK485.out 3) | (go_at_call 38; (with_reducible refine (laws_sumOf.calls k1 _ _ t486 t497 _ ?side1 ?side2 A32.out).mono ?_); (case side1 => repeat (first | exact (Kd.R_reads' HO_4.out).2.2 | (with_reducible refine Kd.C_alloc ?_ _) | (with_reducible refine Kd.C_drewN ?_ _) | (with_reducible refine Kd.C_drew ?_))); (case side2 => exact (Kd.R_reads' HO_4.out).2.1); rintro e w' ⟨rfl, ⟨nd, rfl⟩⟩; (try first | exact ⟨rfl, _, World.drewN_drewN _ _ _⟩ | exact ⟨rfl, _, Eq.trans (World.drewN_drewN _ _ _) (congrArg (World.drewN _) (Nat.add_assoc _ _ _))⟩))))
                go_ret
                exact ⟨by first | rfl | (simp [errW_none, errW_some] <;> rfl) | (simp [*, errW_none, errW_some] <;> rfl) | (simp [*, errW_none, errW_some, i64_w]; done), by repeat (first | (with_reducible first | exact HB.out | apply below_alloc | apply pw_below_drewN | apply below_drew1 | refine below_set ?_ GE485.out) | exact HB.out)⟩
              · rw [if_neg c30] at H
                have c30b0 : decide ((t489.length : Int) ≤ (t486.length : Int)) = false := decide_eq_false c30
                have c30b1 : decide (t489.length ≤ t486.length) = false := decide_eq_false (fun h => c30 (Int.ofNat_le.mpr h))
                clear c30
                obtain rfl := Option.some.inj H
                obtain ⟨Ao35, co35, eo35⟩ := Kd.R_slice HO_5.out
                subst eo35
                go_wp2
                repeat (go_quiet (fail); try go_wp2)
                go_ret
                exact ⟨by first | rfl | (simp [errW_none, errW_some] <;> rfl) | (simp [*, errW_none, errW_some] <;> rfl) | (simp [*, errW_none, errW_some, i64_w]; done), by repeat (first | (with_reducible first | exact HB.out | apply below_alloc | apply pw_below_drewN | apply below_drew1 | refine below_set ?_ GE485.out) | exact HB.out)⟩
            · rw [if_neg c29] at H
              have c29b0 : decide (0 ≤ t493) = false := decide_eq_false c29
              clear c29
              obtain rfl := Option.some.inj H
              obtain ⟨Ao36, co36, eo36⟩ := Kd.R_slice HO_5.out
              subst eo36
              go_wp2
              repeat (go_quiet (fail); try go_wp2)
              go_ret
              exact ⟨by first | rfl | (simp [errW_none, errW_some] <;> rfl) | (simp [*, errW_none, errW_some] <;> rfl) | (simp [*, errW_none, errW_some, i64_w]; done), by repeat (first | (with_reducible first | exact HB.out | apply below_alloc | apply pw_below_drewN | apply below_drew1 | refine below_set ?_ GE485.out) | exact HB.out)⟩
          · replace c28 := Bool.eq_false_iff.mpr c28
            subst c28
            have H1 : (some false) = some r := by rw [if_neg (show ¬ (false = true) by decide)] at H; exact H
            clear H
            have H := H1
            clear H1
            obtain rfl := Option.some.inj H
            obtain ⟨Ao37, co37, eo37⟩ := Kd.R_slice HO_5.out
            subst eo37
            go_wp2
            repeat (go_quiet (fail); try go_wp2)
            go_ret
            exact ⟨by first | rfl | (simp [errW_none, errW_some] <;> rfl) | (simp [*, errW_none, errW_some] <;> rfl) | (simp [*, errW_none, errW_some, i64_w]; done), by repeat (first | (with_reducible first | exact HB.out | apply below_alloc | apply pw_below_drewN | apply below_drew1 | refine below_set ?_ GE485.out) | exact HB.out)⟩

/-- THE ONE PURE STATEMENT of laws_FnBootEnergies: yours. -/
def laws_FnBootEnergies.Pure : Prop := ∀ (l0 : List Int), l0.length ≤ maxLen → l0.length * 1 ≤ 140737488351232 → (∀ x ∈ l0, (Lit.int .u8 x).wf = true) → ∃ k, laws_FnBootEnergies.f k l0 = some true
theorem laws_FnBootEnergies.walk (P : laws_FnBootEnergies.Pure) (a0 : Option Addr) (len0 cap0 : Nat) (z0 : List Int) (w : World) (w0 : (a0 = none ∧ len0 = 0 ∧ cap0 = 0 ∧ z0 = []) ∨ ∃ x, a0 = some x ∧ len0 ≤ cap0 ∧ cap0 ≤ maxLen ∧ z0.length = cap0 ∧ (∀ i, i < z0.length → w.cell? (x.add i) = some (.int .u8 (z0.getD i 0))) ∧ ∀ n ∈ z0, (Lit.int .u8 n).wf = true) (y0 : len0 * 1 ≤ 140737488351232) :
    Calls Try.prog 8 #[.slice a0 len0 cap0] w fun e w' => e = .returned (.bool true) ∧ Below w.heap.size w w' := by
  obtain ⟨l0, rfl, hr0, hm0, hw0, hc0⟩ := ReadsInt.ofRowC w0
  obtain ⟨k, h⟩ := P l0 hm0 y0 hw0
  refine (laws_FnBootEnergies.calls k _ _ l0 true w (Kd.C_of_reads (d := (0 : Int)) (h1 := fun _ => rfl) hr0) hc0 h).mono ?_
  rintro e w' ⟨rfl, hd⟩
  exact ⟨rfl, hd⟩

end Go.Proofs.Ytlcgohhcoalahaa.G
