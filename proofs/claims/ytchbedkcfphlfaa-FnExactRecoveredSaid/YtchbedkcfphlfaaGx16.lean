/- Functions of the program as plain Lean functions, and that each call comes to its function's answer; written by a program of the session. No condition. -/
import Derived.Test.YtchbedkcfphlfaaGx0
import Derived.Test.YtchbedkcfphlfaaGx4
import Derived.Test.YtchbedkcfphlfaaGx15
namespace Go.Proofs.Ytchbedkcfphlfaa.G
open Go.RowKit Go.Proofs.YtchbedkcfphlfaaW.PrintWords Go.Proofs.YtchbedkcfphlfaaW.PrintLast Go.Proofs.YtchbedkcfphlfaaW.PrintMore
attribute [local go_sem] max2_int min2_int max_two min_two max_three min_three max_four min_four   -- for this text's walks alone
set_option linter.unusedVariables false
set_option linter.unusedSimpArgs false

theorem z16_0 {P : Prop} (h : P := by repeat (first | (with_reducible first | exact HB.out | apply below_alloc | apply pw_below_drewN | apply below_drew1) | exact HB.out)) : P := h
theorem z16_1 {P : Prop} (h : P := by first | (with_reducible assumption) | assumption) : P := h
theorem z16_2 {P : Prop} (h : P := by (try simp only [List.map_toArray, List.map_cons, List.map_nil]); first | done | rfl | (simp only [List.length_drop, List.length_take]; rfl)) : P := h
/-! ### impl_ApplyWrites: function 31 -/
def impl_ApplyWrites.l0 : Nat → List Int → List (S47) → Int → Int → Option (List Int)
  | 0, _, _, _, _ => none
  | k + 1, x7, x17, x18, x19 => if x19 < x18 then (if 0 ≤ x19 then (if x19 < (x17.length : Int) then ((impl_within.f ((rd_T47 x17 x19).f0) 0 (wrap64 ((x7.length : Int) - 1))).bind fun t222 => (if t222 = true then (if 0 ≤ ((rd_T47 x17 x19).f0) then (if ((rd_T47 x17 x19).f0) < (x7.length : Int) then (impl_ApplyWrites.l0 k (x7.set (((rd_T47 x17 x19).f0) : Int).toNat ((rd_T47 x17 x19).f1)) x17 x18 (wrap64 (x19 + 1))) else (none)) else (none)) else (impl_ApplyWrites.l0 k x7 x17 x18 (wrap64 (x19 + 1))))) else (none)) else (none)) else (some x7)
def impl_ApplyWrites.f (k : Nat) (l0 : List Int) (l1 : List (S47)) (a2 : Int) : Option (List Int) := (slices_Clone_int_int.f l0).bind fun t212 => ((impl_Clamp.f a2 0 (l1.length : Int)).bind fun t215 => (if 0 ≤ t215 then (if t215 ≤ (l1.length : Int) then ((some (l1.take (t215 : Int).toNat : List (S47))).bind fun y216 => (impl_ApplyWrites.l0 k t212 y216 (y216.length : Int) 0)) else (none)) else (none)))
theorem impl_ApplyWrites.mono_l : ∀ k, (∀ y0 y1 y2 y3, LeO (impl_ApplyWrites.l0 k y0 y1 y2 y3) (impl_ApplyWrites.l0 (k + 1) y0 y1 y2 y3))
  | 0 => fun _ _ _ _ r h => by simp [impl_ApplyWrites.l0] at h
  | k + 1 => by
    have ih0 := impl_ApplyWrites.mono_l k
    · intro y0 y1 y2 y3
      unfold impl_ApplyWrites.l0
      repeat' first
      | (with_reducible exact ih0 _ _ _ _)
      | (with_reducible exact LeO.refl _)
      | (with_reducible exact LeO.none _)
      | (with_reducible refine LeO.ite ?_ ?_)
      | (with_reducible refine LeO.bind ?_ (fun _ => ?_))
      | exact ih0 _ _ _ _
      | exact LeO.none _
      | refine LeO.ite ?_ ?_
      | refine LeO.bind ?_ (fun _ => ?_)
theorem impl_ApplyWrites.mono : ∀ a0 a1 a2 k, LeO (impl_ApplyWrites.f k a0 a1 a2) (impl_ApplyWrites.f (k + 1) a0 a1 a2) := by
  intro a0 a1 a2 k
  have ih0 := impl_ApplyWrites.mono_l k
  unfold impl_ApplyWrites.f
  repeat' first
      | (with_reducible exact ih0 _ _ _ _)
      | (with_reducible exact LeO.refl _)
      | (with_reducible exact LeO.none _)
      | (with_reducible refine LeO.ite ?_ ?_)
      | (with_reducible refine LeO.bind ?_ (fun _ => ?_))
      | exact ih0 _ _ _ _
      | exact LeO.none _
      | refine LeO.ite ?_ ?_
      | refine LeO.bind ?_ (fun _ => ?_)
set_option maxHeartbeats 8000000 in
set_option maxRecDepth 100000 in
theorem impl_ApplyWrites.calls (k : Nat) (A0 : Option Addr) (c0 : Nat) (l0 : List Int) (A1 : Option Addr) (c1 : Nat) (l1 : List (S47)) (a2 : Int) (r : List Int) (w : World) (hr0 : Kd.C (Kd.int .i64) w A0 l0.length l0) (hc0 : l0.length ≤ c0) (hr1 : Kd.C k47 w A1 l1.length l1) (hc1 : l1.length ≤ c1) (h : impl_ApplyWrites.f k l0 l1 a2 = some r) :
    Calls Try.prog 31 #[.slice A0 l0.length c0, .slice A1 l1.length c1, .int .i64 a2] w fun e w' => ∃ v0_ : Value, e = .returned (v0_) ∧ Kd.R (Kd.int .i64) 3 w' w.heap.size (fun _ => True) v0_ r ∧ Below w.heap.size w w' := by
  have hu47 := Try.underlying47
  have HR0 := Aside0.mk hr0
  have HC0 := Aside0.mk hc0
  clear hr0 hc0
  have HR1 := Aside0.mk hr1
  have HC1 := Aside0.mk hc1
  clear hr1 hc1
  have HB := Aside0.mk (Below.refl w.heap.size w)
  have H : ((slices_Clone_int_int.f l0).bind fun t212 => ((impl_Clamp.f a2 0 (l1.length : Int)).bind fun t215 => (if 0 ≤ t215 then (if t215 ≤ (l1.length : Int) then ((some (l1.take (t215 : Int).toNat : List (S47))).bind fun y216 => (impl_ApplyWrites.l0 k t212 y216 (y216.length : Int) 0)) else (none)) else (none)))) = some r := h
  clear h
  replace H := Option.bind_eq_some_iff.mp H
  obtain ⟨t212, A40, H⟩ := H
  replace H : ((impl_Clamp.f a2 0 (l1.length : Int)).bind fun t215 => (if 0 ≤ t215 then (if t215 ≤ (l1.length : Int) then ((some (l1.take (t215 : Int).toNat : List (S47))).bind fun y216 => (impl_ApplyWrites.l0 k t212 y216 (y216.length : Int) 0)) else (none)) else (none))) = some r := H
  have A4 := Aside0.mk A40
  clear A40
  replace H := Option.bind_eq_some_iff.mp H
  obtain ⟨t215, A50, H⟩ := H
  replace H : (if 0 ≤ t215 then (if t215 ≤ (l1.length : Int) then ((some (l1.take (t215 : Int).toNat : List (S47))).bind fun y216 => (impl_ApplyWrites.l0 k t212 y216 (y216.length : Int) 0)) else (none)) else (none)) = some r := H
  have A5 := Aside0.mk A50
  clear A50
  by_cases c6 : 0 ≤ t215
  · rw [if_pos c6] at H
    have c6b0 := eq_true c6
    have c6b1 : decide (0 ≤ t215) = true := decide_eq_true c6
    clear c6
    by_cases c7 : t215 ≤ (l1.length : Int)
    · rw [if_pos c7] at H
      have c7b0 := eq_true c7
      have c7b1 : decide (t215 ≤ (l1.length : Int)) = true := decide_eq_true c7
      clear c7
      obtain ⟨y216, hy216⟩ : ∃ y_ : List (S47), y_ = (l1.take (t215 : Int).toNat) := ⟨_, rfl⟩
      replace H : (impl_ApplyWrites.l0 k t212 y216 (y216.length : Int) 0) = some r := by first | (rw [hy216]; with_reducible exact H) | (have H2_ := (Option.bind_some _ _).symm.trans H; rw [hy216]; with_reducible exact H2_) | (have H2_ := (Option.bind_some _ _).symm.trans H; with_reducible exact H2_) | with_reducible exact H | (rw [hy216]; exact H) | exact H
      have Ny216 := Aside0.mk hy216
      clear hy216
      have H' := Aside0.mk H
      clear H
      go_enter Try.func31, Try.ntmps31
      go_wp2_with (first | ((first | ((with_reducible refine gate_callee (f := 38) rfl ?_); refine goesL_ (some 11) rfl rfl Try.func38 (by kernel_rfl) rfl #[.slice A0 l0.length c0] rfl z16_2 ?_; (with_reducible refine (slices_Clone_int_int.calls _ _ l0 t212 _ ?side1 ?side2 A4.out).mono ?_)) | (go_at_call 38; (with_reducible refine (slices_Clone_int_int.calls _ _ l0 t212 _ ?side1 ?side2 A4.out).mono ?_))); (case side1 => repeat (first | exact HR0.out | (with_reducible refine Kd.C_alloc ?_ _) | (with_reducible refine Kd.C_drewN ?_ _) | (with_reducible refine Kd.C_drew ?_))); (case side2 => exact HC0.out); rintro e w8 ⟨v213, rfl, ho0, hb⟩; (first | refine ⟨_, rfl, ?_⟩ | skip); have n0_ := Aside0.mk (Kd.R_lower ho0 (below_size z16_0)); have n1_ := Aside0.mk (below_step z16_0 hb); clear HB; have HO214 := n0_; have HB := n1_; clear n0_ n1_; (try clear hb); (try clear hb2); (try clear hk); (try clear hi); (try clear ho0)) | ((first | ((with_reducible refine gate_callee (f := 39) rfl ?_); refine goesL_ (some 16) rfl rfl Try.func39 (by kernel_rfl) rfl #[.int .i64 a2, .int .i64 0, .int .i64 (l1.length : Int)] rfl z16_2 ?_; (with_reducible refine (impl_Clamp.calls a2 0 (l1.length : Int) t215 _ A5.out).mono ?_)) | (go_at_call 39; (with_reducible refine (impl_Clamp.calls a2 0 (l1.length : Int) t215 _ A5.out).mono ?_))); rintro e w' ⟨rfl, ⟨nd, rfl⟩⟩; (first | refine ⟨_, rfl, ?_⟩ | skip); have q9 : (t215 : Int) ≤ ((l1.length : Int) : Int) := of_decide_eq_true z16_1; obtain ⟨i09, hi09, _, hsz9, _⟩ := info_parts info47; have hroom9 : l1.length ≤ c1 := HC1.out; have hC9 : Kd.C k47 _ A1 l1.length l1 := HR1.out; have hcut9 := cut_to (P := Try.prog) 23 47 .i64 Try.underlying23 hi09 A1 l1.length c1 t215 (of_decide_eq_true z16_1) q9 hroom9; have hr9 := Kd.C_take (m := (t215 : Int).toNat) hC9 (by omega); have hy9 : y216.length = (t215 : Int).toNat := (by rw [Ny216.out, List.length_take]; omega); rw [← Ny216.out] at hr9; rw [← hy9] at hcut9; have HR219 := Aside0.mk hr9; have HC219 := Aside0.mk (show y216.length ≤ c1 from by omega); clear hr9 hC9 hroom9 hi09 hsz9; have KY9 := Aside0.mk hy9; clear hy9; replace q9 := eq_true q9))
      go_loopg [19] k (fun kq v19 w' => ∃ (x7_1 : List Int) (x19_1 : Int), v19 = .int .i64 x19_1 ∧ Aside0 (impl_ApplyWrites.l0 kq x7_1 y216 (y216.length : Int) x19_1 = some r) ∧ Aside0 (kq ≤ k) ∧ Aside0 (Kd.R (Kd.int .i64) 3 w' w.heap.size (fun _ => True) v213 x7_1) ∧ Aside0 (Below w.heap.size w w'))
      case atStart => exact ⟨(t212), (0), (by first | rfl | (simp; done) | (simp [*]; done)), H', ⟨Nat.le_refl _⟩, ⟨by (with_reducible repeat (first | apply Kd.R_alloc | apply Kd.R_drewN | apply Kd.R_drew)); exact HO214.out⟩, ⟨by repeat (first | (with_reducible first | exact HB.out | apply below_alloc | apply pw_below_drewN | apply below_drew1) | exact HB.out)⟩⟩
      case round =>
        clear H'
        (try clear c1); (try clear c6); (try clear c6b0); (try clear c6b1); (try clear c7); (try clear c7b0); (try clear c7b1); (try clear q9); (try clear q9)
        obtain ⟨x7_1, x19_1, rfl, HA, HK1, HO_7, HB⟩ := hrel
        cases gk with
        | zero => exact absurd HA.out (by simp [impl_ApplyWrites.l0])
        | succ k1 =>
          have H := HA.out
          clear HA
          simp only [impl_ApplyWrites.l0] at H
          by_cases c10 : x19_1 < (y216.length : Int)
          · rw [if_pos c10] at H
            have c10b0 : decide (x19_1 < (y216.length : Int)) = true := decide_eq_true c10
            clear c10
            by_cases c11 : 0 ≤ x19_1
            · rw [if_pos c11] at H
              have c11b0 : decide (0 ≤ x19_1) = true := decide_eq_true c11
              clear c11
              by_cases c12 : x19_1 < (y216.length : Int)
              · rw [if_pos c12] at H
                have c12b0 : decide (x19_1 < (y216.length : Int)) = true := decide_eq_true c12
                clear c12
                replace H := Option.bind_eq_some_iff.mp H
                obtain ⟨t222, A130, H⟩ := H
                replace H : (if t222 = true then (if 0 ≤ ((rd_T47 y216 x19_1).f0) then (if ((rd_T47 y216 x19_1).f0) < (x7_1.length : Int) then (impl_ApplyWrites.l0 k1 (x7_1.set (((rd_T47 y216 x19_1).f0) : Int).toNat ((rd_T47 y216 x19_1).f1)) y216 (y216.length : Int) (wrap64 (x19_1 + 1))) else (none)) else (none)) else (impl_ApplyWrites.l0 k1 x7_1 y216 (y216.length : Int) (wrap64 (x19_1 + 1)))) = some r := H
                have A13 := Aside0.mk A130
                clear A130
                by_cases c14 : t222 = true
                · subst c14
                  have H1 : (if 0 ≤ ((rd_T47 y216 x19_1).f0) then (if ((rd_T47 y216 x19_1).f0) < (x7_1.length : Int) then (impl_ApplyWrites.l0 k1 (x7_1.set (((rd_T47 y216 x19_1).f0) : Int).toNat ((rd_T47 y216 x19_1).f1)) y216 (y216.length : Int) (wrap64 (x19_1 + 1))) else (none)) else (none)) = some r := by rw [if_pos rfl] at H; exact H
                  clear H
                  have H := H1
                  clear H1
                  by_cases c15 : 0 ≤ ((rd_T47 y216 x19_1).f0)
                  · rw [if_pos c15] at H
                    have c15b0 : decide (0 ≤ ((rd_T47 y216 x19_1).f0)) = true := decide_eq_true c15
                    clear c15
                    by_cases c16 : ((rd_T47 y216 x19_1).f0) < (x7_1.length : Int)
                    · rw [if_pos c16] at H
                      have c16b0 : decide (((rd_T47 y216 x19_1).f0) < (x7_1.length : Int)) = true := decide_eq_true c16
                      clear c16
                      obtain ⟨y223, hy223⟩ : ∃ y_ : List Int, y_ = (x7_1.set (((rd_T47 y216 x19_1).f0) : Int).toNat ((rd_T47 y216 x19_1).f1)) := ⟨_, rfl⟩
                      replace H : (impl_ApplyWrites.l0 k1 y223 y216 (y216.length : Int) (wrap64 (x19_1 + 1))) = some r := by first | (rw [hy223]; with_reducible exact H) | (have H2_ := (Option.bind_some _ _).symm.trans H; rw [hy223]; with_reducible exact H2_) | (have H2_ := (Option.bind_some _ _).symm.trans H; with_reducible exact H2_) | with_reducible exact H | (rw [hy223]; exact H) | exact H
                      have Ny223 := Aside0.mk hy223
                      clear hy223
                      have H' := Aside0.mk H
                      clear H
                      have p220 : 0 ≤ (x19_1 : Int) := of_decide_eq_true z16_1
                      have q220 : x19_1 < (y216.length : Int) := of_decide_eq_true z16_1
                      obtain ⟨ad220, e220, hx220_0, hx220_1⟩ := at_T47 HR219.out x19_1 p220 q220
                      cases e220
                      replace hx220_0 := (HB.out.cell (World.block_lt_of_cell? w _ hx220_0)).trans hx220_0
                      replace hx220_1 := (HB.out.cell (World.block_lt_of_cell? w _ hx220_1)).trans hx220_1
                      replace p220 := eq_true p220
                      replace q220 := eq_true q220
                      go_wp2_with (first | ((with_reducible refine gate_dst (N := 9) rfl ?_); refine box_event ?hg (N := 9) ?hd (cs := #[.int .i64 0, .int .i64 0]) (t := 47) ?hr ?_; (case hd => rfl); (case hg => rfl); (case hr => first | (go_simp; done) | (go_simp; rfl)); intro gb221 hg w18 hbox hb; have n0_ := Aside0.mk (Kd.R_below (by (with_reducible repeat (first | apply Kd.R_alloc | apply Kd.R_drewN | apply Kd.R_drew)); exact HO_7.out) hb); have n1_ := Aside0.mk (below_step z16_0 hb); have n2_ := Aside0.mk (hbox); have n3_ := Aside0.mk ((by rw [hg]; exact (below_size z16_0) : w.heap.size ≤ gb221)); have n4_ := Aside0.mk ((by rw [hg]; exact (below_size z16_0) : w.heap.size ≤ gb221)); clear HO_7; clear HB; have HO_7 := n0_; have HB := n1_; have BK221 := n2_; have GW221 := n3_; have GE221 := n4_; clear n0_ n1_ n2_ n3_ n4_; clear hb hbox hg; have hcz19_0 : w18.cell? ⟨gb221, 0, none⟩ = some (.int .i64 0) := (blk_cell BK221.out 0).trans rfl; have hcz19_1 : w18.cell? ⟨gb221, 1, none⟩ = some (.int .i64 0) := (blk_cell BK221.out 1).trans rfl; have hfz19_0 := blk_frozen BK221.out 0; have hfz19_1 := blk_frozen BK221.out 1) | ((with_reducible refine gate_store (t := 47) (p := 9) rfl ?_); refine store_event (t := 47) (p := 9) (v := ?vo_w20) (w1 := ((w18.setCell ⟨gb221, 0, none⟩ (.int .i64 ((rd_T47 y216 x19_1).f0))).setCell ⟨gb221, 1, none⟩ (.int .i64 ((rd_T47 y216 x19_1).f1)))) ?hg ?ho ?hn ?hr ?_; (case ho => rfl); (case hg => rfl); (case hn => rfl); (case hr => first | (go_simp; done) | (go_simp; rfl)); intro w20 hw; have n0_ : Aside0 (Kd.R (Kd.int .i64) 3 w20 w.heap.size (fun _ => True) v213 x7_1) := ⟨(by rw [hw]; exact (by (with_reducible repeat (first | apply Kd.R_alloc | apply Kd.R_drewN | apply Kd.R_drew)); exact Kd.R_mono (Kd.R_far (p := ⟨gb221, 1, none⟩) (Kd.R_far (p := ⟨gb221, 0, none⟩) (Kd.R_types HO_7.out BK221.out (by decide)) (fun _ hk => hk.2) (.int .i64 ((rd_T47 y216 x19_1).f0))) (fun _ hk => hk.2) (.int .i64 ((rd_T47 y216 x19_1).f1))) (fun _ hk => trivial)))⟩; have n1_ : Aside0 (w20.heap[gb221]? = some (.cells #[.int .i64 ((rd_T47 y216 x19_1).f0), .int .i64 ((rd_T47 y216 x19_1).f1)] 47 (0, 0))) := ⟨(by rw [hw]; exact (by (with_reducible repeat (first | refine blk_drewN ?_ _ | refine blk_drew ?_ | refine blk_alloc ?_ _)); refine blk_put (cs := #[.int .i64 ((rd_T47 y216 x19_1).f0), .int .i64 0]) ?_ 1 _ rfl; (with_reducible repeat (first | refine blk_drewN ?_ _ | refine blk_drew ?_ | refine blk_alloc ?_ _)); refine blk_put (cs := #[.int .i64 0, .int .i64 0]) ?_ 0 _ rfl; (with_reducible repeat (first | refine blk_drewN ?_ _ | refine blk_drew ?_ | refine blk_alloc ?_ _)); exact BK221.out))⟩; have n2_ : Aside0 (Below w.heap.size w w20) := ⟨(by rw [hw]; exact (by repeat (first | (with_reducible first | exact HB.out | apply below_alloc | apply pw_below_drewN | apply below_drew1 | refine below_set ?_ GE221.out) | exact HB.out)))⟩; clear hw; clear HO_7; clear BK221; clear HB; have HO_7 := n0_; have BK221 := n1_; have HB := n2_; clear n0_ n1_ n2_; have hcz21_0 : w20.cell? ⟨gb221, 0, none⟩ = some (.int .i64 ((rd_T47 y216 x19_1).f0)) := (blk_cell BK221.out 0).trans rfl; have hcz21_1 : w20.cell? ⟨gb221, 1, none⟩ = some (.int .i64 ((rd_T47 y216 x19_1).f1)) := (blk_cell BK221.out 1).trans rfl; have hfz21_0 := blk_frozen BK221.out 0; have hfz21_1 := blk_frozen BK221.out 1; obtain ⟨Ao22, co22, eo22⟩ := Kd.R_slice HO_7.out; subst eo22) | ((first | ((with_reducible refine gate_callee (f := 37) rfl ?_); refine goesL_ (some 28) rfl rfl Try.func37 (by kernel_rfl) rfl #[.int .i64 ((rd_T47 y216 x19_1).f0), .int .i64 0, .int .i64 (wrap64 ((x7_1.length : Int) - 1))] rfl z16_2 ?_; (with_reducible refine (impl_within.calls ((rd_T47 y216 x19_1).f0) 0 (wrap64 ((x7_1.length : Int) - 1)) true _ A13.out).mono ?_)) | (go_at_call 37; (with_reducible refine (impl_within.calls ((rd_T47 y216 x19_1).f0) 0 (wrap64 ((x7_1.length : Int) - 1)) true _ A13.out).mono ?_))); rintro e w' ⟨rfl, ⟨nd, rfl⟩⟩; (first | refine ⟨_, rfl, ?_⟩ | skip); (try (rw [drewN_self w20]; generalize hq_ : World.drewN w20 _ = w20; have n0_ : Aside0 (Kd.R (Kd.int .i64) 3 w20 w.heap.size (fun _ => True) (.slice Ao22 x7_1.length co22) x7_1) := ⟨by rw [← hq_]; exact (by (with_reducible repeat (first | apply Kd.R_alloc | apply Kd.R_drewN | apply Kd.R_drew)); exact HO_7.out)⟩; have n1_ : Aside0 (w20.heap[gb221]? = some (.cells #[.int .i64 ((rd_T47 y216 x19_1).f0), .int .i64 ((rd_T47 y216 x19_1).f1)] 47 (0, 0))) := ⟨by rw [← hq_]; exact (by (with_reducible repeat (first | refine blk_drewN ?_ _ | refine blk_drew ?_ | refine blk_alloc ?_ _)); exact BK221.out)⟩; have n2_ : Aside0 (Below w.heap.size w w20) := ⟨by rw [← hq_]; exact (by repeat (first | (with_reducible first | exact HB.out | apply below_alloc | apply pw_below_drewN | apply below_drew1 | refine below_set ?_ GE221.out) | exact HB.out))⟩; clear HO_7 BK221 HB hq_; have HO_7 := n0_; have BK221 := n1_; have HB := n2_; clear n0_ n1_ n2_)); (try (have hcuz23_0 : w20.cell? ⟨gb221, 0, none⟩ = some (.int .i64 ((rd_T47 y216 x19_1).f0)) := (blk_cell BK221.out 0).trans rfl; have hcuz23_1 : w20.cell? ⟨gb221, 1, none⟩ = some (.int .i64 ((rd_T47 y216 x19_1).f1)) := (blk_cell BK221.out 1).trans rfl; have hfuz23_0 := blk_frozen BK221.out 0; have hfuz23_1 := blk_frozen BK221.out 1)); have p17 : 0 ≤ (((rd_T47 y216 x19_1).f0) : Int) := of_decide_eq_true z16_1; have q17 : (((rd_T47 y216 x19_1).f0) : Int) < ((x7_1.length : Int) : Int) := of_decide_eq_true z16_1; obtain ⟨go17, co17, eo17, gb17, gl17, cl17, HG17⟩ := Kd.R_form HO_7.out (by omega); (first | cases eo17 | (injection eo17 with ea_ en_ ec_; (first | subst ea_ | (injection ea_ with ea_; subst ea_)); subst ec_; clear en_)); have GB17 := Aside0.mk gb17; have GG17 := Aside0.mk HG17; clear gb17 gl17 HG17; obtain ⟨hx17_0, hf17_0⟩ := Kd.R_celln 0 HO_7.out (((rd_T47 y216 x19_1).f0) : Int) p17 q17; replace p17 := eq_true p17; replace q17 := eq_true q17; obtain ⟨hy24_, hz24_⟩ := Kd.R_celln 0 HO_7.out (((rd_T47 y216 x19_1).f0) : Int) (of_decide_eq_true z16_1) (of_decide_eq_true z16_1); have HP24 := Kd.R_putg HO_7.out (((rd_T47 y216 x19_1).f0) : Int) ((rd_T47 y216 x19_1).f1)) | ((with_reducible refine gate_store (t := 3) (p := 34) rfl ?_); refine store_event (t := 3) (p := 34) (v := ?vo_w25) (w1 := (w20.setCell ⟨go17, (((rd_T47 y216 x19_1).f0) : Int).toNat, none⟩ (.int .i64 ((rd_T47 y216 x19_1).f1)))) ?hg ?ho ?hn ?hr ?_; (case ho => rfl); (case hg => rfl); (case hn => rfl); (case hr => first | (go_simp; done) | (go_simp; rfl)); intro w25 hw; have hg : w20.grownBy w25 (some go17) := (by rw [hw]; exact HP24.2); have hp_ : Kd.R (Kd.int .i64) 3 w25 w.heap.size (fun _ => True) (.slice (some ⟨go17, 0, none⟩) x7_1.length co22) y223 := (by rw [hw, Ny223.out]; exact HP24.1); clear HP24; have n0_ := Aside0.mk (hp_); have n1_ := Aside0.mk (blk_grown (g := gb221) (o := .cells #[.int .i64 ((rd_T47 y216 x19_1).f0), .int .i64 ((rd_T47 y216 x19_1).f1)] 47 (0, 0)) (by (with_reducible repeat (first | refine blk_drewN ?_ _ | refine blk_drew ?_ | refine blk_alloc ?_ _)); exact BK221.out) hg (Kd.R_ne HO_7.out BK221.out (by decide))); have n2_ := Aside0.mk ((by rw [hw]; exact below_set (HB.out) GB17.out : Below w.heap.size w w25)); clear HO_7; clear BK221; clear HB; have HO_7 := n0_; have BK221 := n1_; have HB := n2_; clear n0_ n1_ n2_; clear hg hw hp_))
                      go_roundg k1
                      case measure => have := HK1.out; omega
                      case rel => exact ⟨(y223), (wrap64 (x19_1 + 1)), (by first | rfl | (simp; done) | (simp [*]; done)), H', ⟨by have := HK1.out; omega⟩, ⟨by (with_reducible repeat (first | apply Kd.R_alloc | apply Kd.R_drewN | apply Kd.R_drew)); exact HO_7.out⟩, ⟨by repeat (first | (with_reducible first | exact HB.out | apply below_alloc | apply pw_below_drewN | apply below_drew1 | refine below_set ?_ GE221.out) | exact HB.out)⟩⟩
                    · rw [if_neg c16] at H
                      exact absurd H (by simp)
                  · rw [if_neg c15] at H
                    exact absurd H (by simp)
                · replace c14 := Bool.eq_false_iff.mpr c14
                  subst c14
                  have H1 : (impl_ApplyWrites.l0 k1 x7_1 y216 (y216.length : Int) (wrap64 (x19_1 + 1))) = some r := by rw [if_neg (show ¬ (false = true) by decide)] at H; exact H
                  clear H
                  have H := H1
                  clear H1
                  have H' := Aside0.mk H
                  clear H
                  have p220 : 0 ≤ (x19_1 : Int) := of_decide_eq_true z16_1
                  have q220 : x19_1 < (y216.length : Int) := of_decide_eq_true z16_1
                  obtain ⟨ad220, e220, hx220_0, hx220_1⟩ := at_T47 HR219.out x19_1 p220 q220
                  cases e220
                  replace hx220_0 := (HB.out.cell (World.block_lt_of_cell? w _ hx220_0)).trans hx220_0
                  replace hx220_1 := (HB.out.cell (World.block_lt_of_cell? w _ hx220_1)).trans hx220_1
                  replace p220 := eq_true p220
                  replace q220 := eq_true q220
                  go_wp2_with (first | ((with_reducible refine gate_dst (N := 9) rfl ?_); refine box_event ?hg (N := 9) ?hd (cs := #[.int .i64 0, .int .i64 0]) (t := 47) ?hr ?_; (case hd => rfl); (case hg => rfl); (case hr => first | (go_simp; done) | (go_simp; rfl)); intro gb221 hg w26 hbox hb; have n0_ := Aside0.mk (Kd.R_below (by (with_reducible repeat (first | apply Kd.R_alloc | apply Kd.R_drewN | apply Kd.R_drew)); exact HO_7.out) hb); have n1_ := Aside0.mk (below_step z16_0 hb); have n2_ := Aside0.mk (hbox); have n3_ := Aside0.mk ((by rw [hg]; exact (below_size z16_0) : w.heap.size ≤ gb221)); have n4_ := Aside0.mk ((by rw [hg]; exact (below_size z16_0) : w.heap.size ≤ gb221)); clear HO_7; clear HB; have HO_7 := n0_; have HB := n1_; have BK221 := n2_; have GW221 := n3_; have GE221 := n4_; clear n0_ n1_ n2_ n3_ n4_; clear hb hbox hg; have hcz27_0 : w26.cell? ⟨gb221, 0, none⟩ = some (.int .i64 0) := (blk_cell BK221.out 0).trans rfl; have hcz27_1 : w26.cell? ⟨gb221, 1, none⟩ = some (.int .i64 0) := (blk_cell BK221.out 1).trans rfl; have hfz27_0 := blk_frozen BK221.out 0; have hfz27_1 := blk_frozen BK221.out 1; obtain ⟨Ao28, co28, eo28⟩ := Kd.R_slice HO_7.out; subst eo28) | ((first | ((with_reducible refine gate_callee (f := 37) rfl ?_); refine goesL_ (some 28) rfl rfl Try.func37 (by kernel_rfl) rfl #[.int .i64 ((rd_T47 y216 x19_1).f0), .int .i64 0, .int .i64 (wrap64 ((x7_1.length : Int) - 1))] rfl z16_2 ?_; (with_reducible refine (impl_within.calls ((rd_T47 y216 x19_1).f0) 0 (wrap64 ((x7_1.length : Int) - 1)) false _ A13.out).mono ?_)) | (go_at_call 37; (with_reducible refine (impl_within.calls ((rd_T47 y216 x19_1).f0) 0 (wrap64 ((x7_1.length : Int) - 1)) false _ A13.out).mono ?_))); rintro e w' ⟨rfl, ⟨nd, rfl⟩⟩; (first | refine ⟨_, rfl, ?_⟩ | skip)))
                  go_roundg k1
                  case measure => have := HK1.out; omega
                  case rel => exact ⟨(x7_1), (wrap64 (x19_1 + 1)), (by first | rfl | (simp; done) | (simp [*]; done)), H', ⟨by have := HK1.out; omega⟩, ⟨by (with_reducible repeat (first | apply Kd.R_alloc | apply Kd.R_drewN | apply Kd.R_drew)); exact Kd.R_mono (Kd.R_far (p := ⟨gb221, 1, none⟩) (Kd.R_far (p := ⟨gb221, 0, none⟩) (Kd.R_types HO_7.out BK221.out (by decide)) (fun _ hk => hk.2) (.int .i64 ((rd_T47 y216 x19_1).f0))) (fun _ hk => hk.2) (.int .i64 ((rd_T47 y216 x19_1).f1))) (fun _ hk => trivial)⟩, ⟨by repeat (first | (with_reducible first | exact HB.out | apply below_alloc | apply pw_below_drewN | apply below_drew1 | refine below_set ?_ GE221.out) | exact HB.out)⟩⟩
              · rw [if_neg c12] at H
                exact absurd H (by simp)
            · rw [if_neg c11] at H
              exact absurd H (by simp)
          · rw [if_neg c10] at H
            have c10b0 : decide (x19_1 < (y216.length : Int)) = false := decide_eq_false c10
            clear c10
            obtain rfl := Option.some.inj H
            go_wp2
            go_ret
            exact ⟨_, by first | rfl | (simp [errW_none, errW_some] <;> rfl) | (simp [*, errW_none, errW_some] <;> rfl) | (simp [*, errW_none, errW_some, i64_w]; done), by (with_reducible repeat (first | apply Kd.R_alloc | apply Kd.R_drewN | apply Kd.R_drew)); exact HO_7.out, by repeat (first | (with_reducible first | exact HB.out | apply below_alloc | apply pw_below_drewN | apply below_drew1) | exact HB.out)⟩
    · rw [if_neg c7] at H
      exact absurd H (by simp)
  · rw [if_neg c6] at H
    exact absurd H (by simp)

end Go.Proofs.Ytchbedkcfphlfaa.G
