/- Functions of the program as plain Lean functions, and that each call comes to its function's answer; written by a program of the session. No condition. -/
import Derived.Test.YtccjlmpeogifkaaGx0
import Derived.Test.YtccjlmpeogifkaaGx3
import Derived.Test.YtccjlmpeogifkaaGx4
namespace Go.Proofs.Ytccjlmpeogifkaa.G
open Go.RowKit Go.Proofs.YtccjlmpeogifkaaW.PrintWords Go.Proofs.YtccjlmpeogifkaaW.PrintLast Go.Proofs.YtccjlmpeogifkaaW.PrintMore
attribute [local go_sem] max2_int min2_int max_two min_two max_three min_three max_four min_four   -- for this text's walks alone
set_option linter.unusedVariables false
set_option linter.unusedSimpArgs false
theorem z5_0 {P : Prop} (h : P := by rw [hw]; exact (by (with_reducible repeat (first | refine blk_drewN ?_ _ | refine blk_drew ?_ | refine blk_alloc ?_ _)); refine blk_put (cs := #[.int .i64 ((rd_T55 l0 x10_1).f0), .int .i64 ((rd_T55 l0 x10_1).f1), .int .i64 ((rd_T55 l0 x10_1).f2), .int .i64 ((rd_T55 l0 x10_1).f3.f0), .int .i64 ((rd_T55 l0 x10_1).f3.f1), .int .i64 0]) ?_ 5 _ rfl; (with_reducible repeat (first | refine blk_drewN ?_ _ | refine blk_drew ?_ | refine blk_alloc ?_ _)); refine blk_put (cs := #[.int .i64 ((rd_T55 l0 x10_1).f0), .int .i64 ((rd_T55 l0 x10_1).f1), .int .i64 ((rd_T55 l0 x10_1).f2), .int .i64 ((rd_T55 l0 x10_1).f3.f0), .int .i64 0, .int .i64 0]) ?_ 4 _ rfl; (with_reducible repeat (first | refine blk_drewN ?_ _ | refine blk_drew ?_ | refine blk_alloc ?_ _)); refine blk_put (cs := #[.int .i64 ((rd_T55 l0 x10_1).f0), .int .i64 ((rd_T55 l0 x10_1).f1), .int .i64 ((rd_T55 l0 x10_1).f2), .int .i64 0, .int .i64 0, .int .i64 0]) ?_ 3 _ rfl; (with_reducible repeat (first | refine blk_drewN ?_ _ | refine blk_drew ?_ | refine blk_alloc ?_ _)); refine blk_put (cs := #[.int .i64 ((rd_T55 l0 x10_1).f0), .int .i64 ((rd_T55 l0 x10_1).f1), .int .i64 0, .int .i64 0, .int .i64 0, .int .i64 0]) ?_ 2 _ rfl; (with_reducible repeat (first | refine blk_drewN ?_ _ | refine blk_drew ?_ | refine blk_alloc ?_ _)); refine blk_put (cs := #[.int .i64 ((rd_T55 l0 x10_1).f0), .int .i64 0, .int .i64 0, .int .i64 0, .int .i64 0, .int .i64 0]) ?_ 1 _ rfl; (with_reducible repeat (first | refine blk_drewN ?_ _ | refine blk_drew ?_ | refine blk_alloc ?_ _)); refine blk_put (cs := #[.int .i64 0, .int .i64 0, .int .i64 0, .int .i64 0, .int .i64 0, .int .i64 0]) ?_ 0 _ rfl; (with_reducible repeat (first | refine blk_drewN ?_ _ | refine blk_drew ?_ | refine blk_alloc ?_ _)); exact BK190.out)) : P := h
theorem z5_1 {P : Prop} (h : P := by rw [hw]; exact (by (with_reducible repeat (first | apply Kd.R_alloc | apply Kd.R_drewN | apply Kd.R_drew)); exact Kd.R_mono (Kd.R_far (p := ⟨gb190, 5, none⟩) (Kd.R_far (p := ⟨gb190, 4, none⟩) (Kd.R_far (p := ⟨gb190, 3, none⟩) (Kd.R_far (p := ⟨gb190, 2, none⟩) (Kd.R_far (p := ⟨gb190, 1, none⟩) (Kd.R_far (p := ⟨gb190, 0, none⟩) (Kd.R_types HO_4.out BK190.out (by decide)) (fun _ hk => hk.2) (.int .i64 ((rd_T55 l0 x10_1).f0))) (fun _ hk => hk.2) (.int .i64 ((rd_T55 l0 x10_1).f1))) (fun _ hk => hk.2) (.int .i64 ((rd_T55 l0 x10_1).f2))) (fun _ hk => hk.2) (.int .i64 ((rd_T55 l0 x10_1).f3.f0))) (fun _ hk => hk.2) (.int .i64 ((rd_T55 l0 x10_1).f3.f1))) (fun _ hk => hk.2) (.int .i64 ((rd_T55 l0 x10_1).f3.f2))) (fun _ hk => ⟨hk.1.1, hk.1.2⟩))) : P := h
theorem z5_2 {P : Prop} (h : P := by rw [hw]; exact (by (with_reducible repeat (first | apply Kd.R_alloc | apply Kd.R_drewN | apply Kd.R_drew)); exact Kd.R_mono (Kd.R_far (p := ⟨gb190, 5, none⟩) (Kd.R_far (p := ⟨gb190, 4, none⟩) (Kd.R_far (p := ⟨gb190, 3, none⟩) (Kd.R_far (p := ⟨gb190, 2, none⟩) (Kd.R_far (p := ⟨gb190, 1, none⟩) (Kd.R_far (p := ⟨gb190, 0, none⟩) (Kd.R_types HO_3.out BK190.out (by decide)) (fun _ hk => hk.2) (.int .i64 ((rd_T55 l0 x10_1).f0))) (fun _ hk => hk.2) (.int .i64 ((rd_T55 l0 x10_1).f1))) (fun _ hk => hk.2) (.int .i64 ((rd_T55 l0 x10_1).f2))) (fun _ hk => hk.2) (.int .i64 ((rd_T55 l0 x10_1).f3.f0))) (fun _ hk => hk.2) (.int .i64 ((rd_T55 l0 x10_1).f3.f1))) (fun _ hk => hk.2) (.int .i64 ((rd_T55 l0 x10_1).f3.f2))) (fun _ hk => ⟨hk.1.1, hk.1.2⟩))) : P := h
theorem z5_3 {P : Prop} (h : P := by repeat (first | (with_reducible first | exact HB.out | apply below_alloc | apply pw_below_drewN | apply below_drew1) | exact HB.out)) : P := h
theorem z5_4 {P : Prop} (h : P := by repeat (first | (with_reducible first | exact HK.out | apply Kept.alloc | apply Kept.drewN | apply Kept.drew | refine Kept.setCell ?_ (.inr GW190.out) _) | exact HK.out)) : P := h
theorem z5_5 {P : Prop} (h : P := by repeat (first | (with_reducible first | exact HB.out | apply below_alloc | apply pw_below_drewN | apply below_drew1 | refine below_set ?_ GE190.out) | exact HB.out)) : P := h
theorem z5_6 {P : Prop} (h : P := by (with_reducible repeat (first | apply Kd.R_alloc | apply Kd.R_drewN | apply Kd.R_drew)); exact HO_3.out) : P := h
theorem z5_7 {P : Prop} (h : P := by first | (with_reducible assumption) | assumption) : P := h
theorem z5_8 {P : Prop} (h : P := by repeat (first | (with_reducible first | exact HB.out | apply below_alloc | apply pw_below_drewN | apply below_drew1 | refine below_set ?_ GE208.out) | exact HB.out)) : P := h
theorem z5_9 {P : Prop} (h : P := by (try simp only [List.map_toArray, List.map_cons, List.map_nil]); first | done | rfl | (simp only [List.length_drop, List.length_take]; rfl)) : P := h
theorem z5_10 {P : Prop} (h : P := by (with_reducible repeat (first | apply Kd.R_alloc | apply Kd.R_drewN | apply Kd.R_drew)); exact HO_4.out) : P := h
theorem z5_11 {P : Prop} (h : P := by (with_reducible repeat (first | refine blk_drewN ?_ _ | refine blk_drew ?_ | refine blk_alloc ?_ _)); exact BK190.out) : P := h
theorem z5_12 {P : Prop} (h : P := by rw [hg]; exact (by first | exact HK.out.1 | exact (show Kept w _ (fun k_ => P3_ k_ ∨ P4_ k_) from by repeat (first | (with_reducible first | exact HK.out | apply Kept.alloc | apply Kept.drewN | apply Kept.drew) | exact HK.out)).1)) : P := h
theorem z5_13 {P : Prop} (h : P := by first | rfl | (simp; done) | (simp [*]; done)) : P := h
theorem z5_14 {P : Prop} (h : P := by repeat (first | (with_reducible first | exact HB.out | apply below_alloc | apply pw_below_drewN | apply below_drew1 | refine below_set ?_ GE170.out) | exact HB.out)) : P := h
theorem z5_15 {P : Prop} (h : P := by (with_reducible repeat (first | refine blk_drewN ?_ _ | refine blk_drew ?_ | refine blk_alloc ?_ _)); exact BK208.out) : P := h
theorem z5_16 {P : Prop} (h : P := by first | (go_simp; done) | (go_simp; rfl)) : P := h
theorem z5_17 {P : Prop} (h : P := by repeat (first | (with_reducible first | exact HK.out | apply Kept.alloc | apply Kept.drewN | apply Kept.drew) | exact HK.out)) : P := h
theorem z5_18 {P : Prop} (h : P := by repeat (first | exact (Kd.R_reads' HO_3.out).2.2 | (with_reducible refine Kd.C_alloc ?_ _) | (with_reducible refine Kd.C_drewN ?_ _) | (with_reducible refine Kd.C_drew ?_))) : P := h
theorem z5_19 {P : Prop} (h : P := by first | exact Kd.C_kept_own (HO_3.out) (fun k_ hk_ hs_ => (hk_.2) hs_) | (have h_ := HO_3.out; rw [(Kd.R_reads' HO_3.out).1] at h_; exact Kd.C_kept_own h_ (fun k_ hk_ hs_ => (hk_.2) hs_))) : P := h
theorem z5_20 {P : Prop} (h : P := by (with_reducible repeat (first | refine blk_drewN ?_ _ | refine blk_drew ?_ | refine blk_alloc ?_ _)); exact BK170.out) : P := h
theorem z5_21 {P : Prop} (h : P := by first | exact HK.out.1 | exact (show Kept w _ (fun k_ => P3_ k_ ∨ P4_ k_) from by repeat (first | (with_reducible first | exact HK.out | apply Kept.alloc | apply Kept.drewN | apply Kept.drew | refine Kept.setCell ?_ (.inr GW190.out) _) | exact HK.out)).1) : P := h
theorem z5_22 {P : Prop} (h : P := by rw [hg]; exact (below_size z5_3)) : P := h
/-! ### spec_MustWrite: function 43 -/
mutual
def spec_MustWrite.l0 : Nat → List (S55) → List Bool → Int → Option (List Int)
 | 0, _, _, _ => none
 | k + 1, x0, x3, x4 => if x4 < (x0.length : Int) then ((spec_BlockOk.f k x0).bind fun t160 => (spec_MustWrite.j1 k x0 x3 x4 t160)) else (spec_MustWrite.j1 k x0 x3 x4 false)
def spec_MustWrite.j1 : Nat → List (S55) → List Bool → Int → Bool → Option (List Int)
 | 0, _, _, _, _ => none
 | k + 1, x0, x3, x4, x13 => if x13 = true then (if 0 ≤ x4 then (if x4 < (x0.length : Int) then (if ((rd_T55 x0 x4).f0) = 4 then ((spec_l05End.f k x0 x4).bind fun t165 => (spec_MustWrite.l0 k x0 x3 (wrap64 (t165 + 1)))) else ((spec_l07Writes.f ((rd_T55 x0 x4).f0) ((rd_T55 x0 x4).f1) ((rd_T55 x0 x4).f2) ((rd_T55 x0 x4).f3.f0) ((rd_T55 x0 x4).f3.f1) ((rd_T55 x0 x4).f3.f2)).bind fun t167 => (if t167 = true then (if 0 ≤ ((rd_T55 x0 x4).f1) then (if ((rd_T55 x0 x4).f1) < (x3.length : Int) then (spec_MustWrite.l0 k x0 (x3.set (((rd_T55 x0 x4).f1) : Int).toNat true) (wrap64 (x4 + 1))) else (none)) else (none)) else (spec_MustWrite.l0 k x0 x3 (wrap64 (x4 + 1)))))) else (none)) else (none)) else ((spec_l07List.f k x3).bind fun t161 => (some t161))
end
def spec_MustWrite.f (k : Nat) (l0 : List (S55)) : Option (List Int) := if 8 ≤ 281474976710656 then (spec_MustWrite.l0 k l0 (List.replicate 8 false) 0) else (none)
theorem spec_MustWrite.mono_l : ∀ k, (∀ y0 y1 y2, LeO (spec_MustWrite.l0 k y0 y1 y2) (spec_MustWrite.l0 (k + 1) y0 y1 y2)) ∧ (∀ y0 y1 y2 y3, LeO (spec_MustWrite.j1 k y0 y1 y2 y3) (spec_MustWrite.j1 (k + 1) y0 y1 y2 y3))
 | 0 => ⟨fun _ _ _ r h => by simp [spec_MustWrite.l0] at h, fun _ _ _ _ r h => by simp [spec_MustWrite.j1] at h⟩
 | k + 1 => by
  obtain ⟨ih0, ih1⟩ := spec_MustWrite.mono_l k
  refine ⟨?_, ?_⟩
  ·intro y0 y1 y2
   unfold spec_MustWrite.l0
   repeat' first
   | (with_reducible exact ih0 _ _ _)
   | (with_reducible exact ih1 _ _ _ _)
   | (with_reducible exact spec_BlockOk.mono _ _)
   | (with_reducible exact spec_l05End.mono _ _ _)
   | (with_reducible exact spec_l07List.mono _ _)
   | (with_reducible exact LeO.refl _)
   | (with_reducible exact LeO.none _)
   | (with_reducible refine LeO.ite ?_ ?_)
   | (with_reducible refine LeO.bind ?_ (fun _ => ?_))
   | exact ih0 _ _ _
   | exact ih1 _ _ _ _
   | exact spec_BlockOk.mono _ _
   | exact spec_l05End.mono _ _ _
   | exact spec_l07List.mono _ _
   | exact LeO.none _
   | refine LeO.ite ?_ ?_
   | refine LeO.bind ?_ (fun _ => ?_)
  ·intro y0 y1 y2 y3
   unfold spec_MustWrite.j1
   repeat' first
   | (with_reducible exact ih0 _ _ _)
   | (with_reducible exact ih1 _ _ _ _)
   | (with_reducible exact spec_BlockOk.mono _ _)
   | (with_reducible exact spec_l05End.mono _ _ _)
   | (with_reducible exact spec_l07List.mono _ _)
   | (with_reducible exact LeO.refl _)
   | (with_reducible exact LeO.none _)
   | (with_reducible refine LeO.ite ?_ ?_)
   | (with_reducible refine LeO.bind ?_ (fun _ => ?_))
   | exact ih0 _ _ _
   | exact ih1 _ _ _ _
   | exact spec_BlockOk.mono _ _
   | exact spec_l05End.mono _ _ _
   | exact spec_l07List.mono _ _
   | exact LeO.none _
   | refine LeO.ite ?_ ?_
   | refine LeO.bind ?_ (fun _ => ?_)
theorem spec_MustWrite.mono : ∀ a0 k, LeO (spec_MustWrite.f k a0) (spec_MustWrite.f (k + 1) a0) := by
 intro a0 k
 obtain ⟨ih0, ih1⟩ := spec_MustWrite.mono_l k
 unfold spec_MustWrite.f
 repeat' first
   | (with_reducible exact ih0 _ _ _)
   | (with_reducible exact ih1 _ _ _ _)
   | (with_reducible exact spec_BlockOk.mono _ _)
   | (with_reducible exact spec_l05End.mono _ _ _)
   | (with_reducible exact spec_l07List.mono _ _)
   | (with_reducible exact LeO.refl _)
   | (with_reducible exact LeO.none _)
   | (with_reducible refine LeO.ite ?_ ?_)
   | (with_reducible refine LeO.bind ?_ (fun _ => ?_))
   | exact ih0 _ _ _
   | exact ih1 _ _ _ _
   | exact spec_BlockOk.mono _ _
   | exact spec_l05End.mono _ _ _
   | exact spec_l07List.mono _ _
   | exact LeO.none _
   | refine LeO.ite ?_ ?_
   | refine LeO.bind ?_ (fun _ => ?_)
set_option maxHeartbeats 8000000 in
set_option maxRecDepth 100000 in
theorem spec_MustWrite.calls (k : Nat) (A0 : Option Addr) (c0 : Nat) (l0 : List (S55)) (r : List Int) (w : World) (hr0 : Kd.C k55 w A0 l0.length l0) (hc0 : l0.length ≤ c0) (h : spec_MustWrite.f k l0 = some r) :
  Calls Try.prog 43 #[.slice A0 l0.length c0] w fun e w' => ∃ v0_ : Value, e = .returned (v0_) ∧ Kd.R (Kd.int .i64) 3 w' w.heap.size (fun _ => True) v0_ r ∧ Below w.heap.size w w' := by
 have hu55 := Try.underlying55
 have HR0 := Aside0.mk hr0
 have HC0 := Aside0.mk hc0
 clear hr0 hc0
 have HB := Aside0.mk (Below.refl w.heap.size w)
 have H : (if 8 ≤ 281474976710656 then (spec_MustWrite.l0 k l0 (List.replicate 8 false) 0) else (none)) = some r := h
 clear h
 by_cases c2 : 8 ≤ 281474976710656
 ·rw [if_pos c2] at H
  have c2b0 := eq_true c2
  have c2b1 : decide (8 ≤ 281474976710656) = true := decide_eq_true c2
  clear c2
  obtain ⟨y157, hy157⟩ : ∃ y_ : List Bool, y_ = (List.replicate 8 false) := ⟨_, rfl⟩
  replace H : (spec_MustWrite.l0 k l0 y157 0) = some r := by first | (rw [hy157]; with_reducible exact H) | (have H2_ := (Option.bind_some _ _).symm.trans H; rw [hy157]; with_reducible exact H2_) | (have H2_ := (Option.bind_some _ _).symm.trans H; with_reducible exact H2_) | with_reducible exact H | (rw [hy157]; exact H) | exact H
  have Ny157 := Aside0.mk hy157
  clear hy157
  have H' := Aside0.mk H
  clear H
  go_enter Try.func43, Try.ntmps43
  go_wp2_with (first | ((with_reducible refine gate_dst (N := 5) rfl ?_); refine Kd.R_make Kd.bool _ 4 rfl (N := 5) rfl 66 _ _ rfl 8 rfl rfl Try.underlying66 (.bool false) 1 info4 rfl (by decide) (by omega) false (ok := fun _ => True) (okp := fun _ => True) rfl (fun _ hk => hk) trivial (by omega) (by omega) (Below.refl _ _) (Nat.le_refl _) ?_; intro v158 w3 ho4 hb hg_ hnew_; clear hg_ hnew_; (first | rw [← Ny157.out] at ho4 | (simp only [Int.reduceToNat] at ho4; rw [← Ny157.out] at ho4)); have n0_ := Aside0.mk (Kd.R_lower ho4 (below_size z5_3)); have n1_ := Aside0.mk (below_step z5_3 hb); clear HB; have HO159 := n0_; have HB := n1_; clear n0_ n1_; clear hb ho4))
  go_loopg [4] k (fun kq v4 w' => ∃ (x3_1 : List Bool) (x4_1 : Int), v4 = .int .i64 x4_1 ∧ Aside0 (spec_MustWrite.l0 kq l0 x3_1 x4_1 = some r) ∧ Aside0 (kq ≤ k) ∧ Aside0 (Kd.R Kd.bool 4 w' w.heap.size (fun _ => True) v158 x3_1) ∧ Aside0 (Below w.heap.size w w'))
  case atStart => exact ⟨(y157), (0), z5_13, H', ⟨Nat.le_refl _⟩, ⟨by (with_reducible repeat (first | apply Kd.R_alloc | apply Kd.R_drewN | apply Kd.R_drew)); exact HO159.out⟩, ⟨by repeat (first | (with_reducible first | exact HB.out | apply below_alloc | apply pw_below_drewN | apply below_drew1) | exact HB.out)⟩⟩
  case round =>
   clear H'
   (try clear c2); (try clear c2b0); (try clear c2b1)
   obtain ⟨x3_1, x4_1, rfl, HA, HK1, HO_3, HB⟩ := hrel
   cases gk with
   | zero => exact absurd HA.out (by simp [spec_MustWrite.l0])
   | succ k1 =>
    have H := HA.out
    clear HA
    simp only [spec_MustWrite.l0] at H
    have HC5 := Aside0.mk H
    clear H
    go_upto_region 3 with (fail)
    go_cut [13] (fun v13 wc => ∃ (kq : Nat) (x13_4 : Bool), v13 = .bool x13_4 ∧ Aside0 (spec_MustWrite.j1 kq l0 x3_1 x4_1 x13_4 = some r) ∧ Aside0 (kq ≤ k1) ∧ Aside0 (Kd.R Kd.bool 4 wc w.heap.size (fun _ => True) v158 x3_1) ∧ Aside0 (Below w.heap.size w wc))
    case first =>
     have H := HC5.out
     clear HC5
     by_cases c6 : x4_1 < (l0.length : Int)
     ·rw [if_pos c6] at H
      have c6b0 : decide (x4_1 < (l0.length : Int)) = true := decide_eq_true c6
      clear c6
      (first | rw [c6b0] | (simp only [i64_w, i32_w]; rw [c6b0]) | skip)
      replace H := Option.bind_eq_some_iff.mp H
      obtain ⟨t160, A70, H⟩ := H
      replace H : (spec_MustWrite.j1 k1 l0 x3_1 x4_1 t160) = some r := H
      have A7 := Aside0.mk A70
      clear A70
      have H' := Aside0.mk H
      clear H
      go_wp2_with (first | (go_at_call 32; (with_reducible refine (spec_BlockOk.calls k1 _ _ l0 t160 _ ?side1 ?side2 A7.out).mono ?_); (case side1 => repeat (first | exact (Kd.C_below HR0.out HB.out) | (with_reducible refine Kd.C_alloc ?_ _) | (with_reducible refine Kd.C_drewN ?_ _) | (with_reducible refine Kd.C_drew ?_))); (case side2 => exact HC0.out); rintro e w8 ⟨rfl, hb⟩; have n0_ := Aside0.mk (Kd.R_below z5_6 hb); have n1_ := Aside0.mk (below_step z5_3 hb); clear HO_3; clear HB; have HO_3 := n0_; have HB := n1_; clear n0_ n1_; (try clear hb); (try clear hb2); (try clear hk); (try clear hi)))
      go_meet
      case rel => exact ⟨_, (t160), z5_13, H', ⟨by have := HK1.out; first | omega | exact Nat.le_refl _⟩, ⟨by (with_reducible repeat (first | apply Kd.R_alloc | apply Kd.R_drewN | apply Kd.R_drew)); exact HO_3.out⟩, ⟨by repeat (first | (with_reducible first | exact HB.out | apply below_alloc | apply pw_below_drewN | apply below_drew1) | exact HB.out)⟩⟩
     ·rw [if_neg c6] at H
      have c6b0 : decide (x4_1 < (l0.length : Int)) = false := decide_eq_false c6
      clear c6
      (first | rw [c6b0] | (simp only [i64_w, i32_w]; rw [c6b0]) | skip)
      have H' := Aside0.mk H
      clear H
      go_wp2
      go_meet
      case rel => exact ⟨_, (false), z5_13, H', ⟨by have := HK1.out; first | omega | exact Nat.le_refl _⟩, ⟨by (with_reducible repeat (first | apply Kd.R_alloc | apply Kd.R_drewN | apply Kd.R_drew)); exact HO_3.out⟩, ⟨by repeat (first | (with_reducible first | exact HB.out | apply below_alloc | apply pw_below_drewN | apply below_drew1) | exact HB.out)⟩⟩
    case rest =>
     clear HC5
     (try clear c2); (try clear c2b0); (try clear c2b1)
     obtain ⟨kq, x13_4, rfl, HA, HJ4, HO_3, HB⟩ := hcut
     cases kq with
     | zero => exact absurd HA.out (by simp [spec_MustWrite.j1])
     | succ kj4 =>
      have H := HA.out
      clear HA
      simp only [spec_MustWrite.j1] at H
      by_cases c9 : x13_4 = true
      ·subst c9
       have H1 : (if 0 ≤ x4_1 then (if x4_1 < (l0.length : Int) then (if ((rd_T55 l0 x4_1).f0) = 4 then ((spec_l05End.f kj4 l0 x4_1).bind fun t165 => (spec_MustWrite.l0 kj4 l0 x3_1 (wrap64 (t165 + 1)))) else ((spec_l07Writes.f ((rd_T55 l0 x4_1).f0) ((rd_T55 l0 x4_1).f1) ((rd_T55 l0 x4_1).f2) ((rd_T55 l0 x4_1).f3.f0) ((rd_T55 l0 x4_1).f3.f1) ((rd_T55 l0 x4_1).f3.f2)).bind fun t167 => (if t167 = true then (if 0 ≤ ((rd_T55 l0 x4_1).f1) then (if ((rd_T55 l0 x4_1).f1) < (x3_1.length : Int) then (spec_MustWrite.l0 kj4 l0 (x3_1.set (((rd_T55 l0 x4_1).f1) : Int).toNat true) (wrap64 (x4_1 + 1))) else (none)) else (none)) else (spec_MustWrite.l0 kj4 l0 x3_1 (wrap64 (x4_1 + 1)))))) else (none)) else (none)) = some r := by rw [if_pos rfl] at H; exact H
       clear H
       have H := H1
       clear H1
       by_cases c10 : 0 ≤ x4_1
       ·rw [if_pos c10] at H
        have c10b0 : decide (0 ≤ x4_1) = true := decide_eq_true c10
        clear c10
        by_cases c11 : x4_1 < (l0.length : Int)
        ·rw [if_pos c11] at H
         have c11b0 : decide (x4_1 < (l0.length : Int)) = true := decide_eq_true c11
         clear c11
         by_cases c12 : ((rd_T55 l0 x4_1).f0) = 4
         ·rw [if_pos c12] at H
          have c12b0 : (((rd_T55 l0 x4_1).f0) == 4) = true := beq_iff_eq.mpr c12
          have c12b1 : (((rd_T55 l0 x4_1).f0) != 4) = false := bne_eq_false_iff_eq.mpr c12
          clear c12
          replace H := Option.bind_eq_some_iff.mp H
          obtain ⟨t165, A130, H⟩ := H
          replace H : (spec_MustWrite.l0 kj4 l0 x3_1 (wrap64 (t165 + 1))) = some r := H
          have A13 := Aside0.mk A130
          clear A130
          have H' := Aside0.mk H
          clear H
          have p164 : 0 ≤ (x4_1 : Int) := of_decide_eq_true z5_7
          have q164 : x4_1 < (l0.length : Int) := of_decide_eq_true z5_7
          obtain ⟨ad164, e164, hx164_0, hx164_1, hx164_2, hx164_3, hx164_4, hx164_5⟩ := at_T55 HR0.out x4_1 p164 q164
          cases e164
          replace hx164_0 := (HB.out.cell (World.block_lt_of_cell? w _ hx164_0)).trans hx164_0
          replace hx164_1 := (HB.out.cell (World.block_lt_of_cell? w _ hx164_1)).trans hx164_1
          replace hx164_2 := (HB.out.cell (World.block_lt_of_cell? w _ hx164_2)).trans hx164_2
          replace hx164_3 := (HB.out.cell (World.block_lt_of_cell? w _ hx164_3)).trans hx164_3
          replace hx164_4 := (HB.out.cell (World.block_lt_of_cell? w _ hx164_4)).trans hx164_4
          replace hx164_5 := (HB.out.cell (World.block_lt_of_cell? w _ hx164_5)).trans hx164_5
          replace p164 := eq_true p164
          replace q164 := eq_true q164
          go_wp2_with (first | ((with_reducible refine gate_callee (f := 58) rfl ?_); refine goesL_ (some 24) rfl rfl Try.func58 (by kernel_rfl) rfl #[.slice (some ad164) l0.length c0, .int .i64 x4_1] rfl z5_9 ?_; (with_reducible refine (spec_l05End.calls kj4 _ _ l0 x4_1 t165 _ ?side1 ?side2 A13.out).mono ?_); (case side1 => repeat (first | exact (Kd.C_below HR0.out HB.out) | (with_reducible refine Kd.C_alloc ?_ _) | (with_reducible refine Kd.C_drewN ?_ _) | (with_reducible refine Kd.C_drew ?_))); (case side2 => exact HC0.out); rintro e w14 ⟨rfl, hb⟩; refine ⟨_, rfl, ?_⟩; have n0_ := Aside0.mk (Kd.R_below z5_6 hb); have n1_ := Aside0.mk (below_step z5_3 hb); clear HO_3; clear HB; have HO_3 := n0_; have HB := n1_; clear n0_ n1_; (try clear hb); (try clear hb2); (try clear hk); (try clear hi)))
          go_roundg kj4
          case measure => have := HK1.out; have := HJ4.out; omega
          case rel => exact ⟨(x3_1), (wrap64 (t165 + 1)), z5_13, H', ⟨by have := HK1.out; have := HJ4.out; omega⟩, ⟨by (with_reducible repeat (first | apply Kd.R_alloc | apply Kd.R_drewN | apply Kd.R_drew)); exact HO_3.out⟩, ⟨by repeat (first | (with_reducible first | exact HB.out | apply below_alloc | apply pw_below_drewN | apply below_drew1) | exact HB.out)⟩⟩
         ·rw [if_neg c12] at H
          have c12b0 : (((rd_T55 l0 x4_1).f0) == 4) = false := beq_eq_false_iff_ne.mpr c12
          have c12b1 : (((rd_T55 l0 x4_1).f0) != 4) = true := bne_iff_ne.mpr c12
          replace H := Option.bind_eq_some_iff.mp H
          obtain ⟨t167, A150, H⟩ := H
          replace H : (if t167 = true then (if 0 ≤ ((rd_T55 l0 x4_1).f1) then (if ((rd_T55 l0 x4_1).f1) < (x3_1.length : Int) then (spec_MustWrite.l0 kj4 l0 (x3_1.set (((rd_T55 l0 x4_1).f1) : Int).toNat true) (wrap64 (x4_1 + 1))) else (none)) else (none)) else (spec_MustWrite.l0 kj4 l0 x3_1 (wrap64 (x4_1 + 1)))) = some r := H
          have A15 := Aside0.mk A150
          clear A150
          by_cases c16 : t167 = true
          ·subst c16
           have H1 : (if 0 ≤ ((rd_T55 l0 x4_1).f1) then (if ((rd_T55 l0 x4_1).f1) < (x3_1.length : Int) then (spec_MustWrite.l0 kj4 l0 (x3_1.set (((rd_T55 l0 x4_1).f1) : Int).toNat true) (wrap64 (x4_1 + 1))) else (none)) else (none)) = some r := by rw [if_pos rfl] at H; exact H
           clear H
           have H := H1
           clear H1
           by_cases c17 : 0 ≤ ((rd_T55 l0 x4_1).f1)
           ·rw [if_pos c17] at H
            have c17b0 : decide (0 ≤ ((rd_T55 l0 x4_1).f1)) = true := decide_eq_true c17
            clear c17
            by_cases c18 : ((rd_T55 l0 x4_1).f1) < (x3_1.length : Int)
            ·rw [if_pos c18] at H
             have c18b0 : decide (((rd_T55 l0 x4_1).f1) < (x3_1.length : Int)) = true := decide_eq_true c18
             clear c18
             obtain ⟨y169, hy169⟩ : ∃ y_ : List Bool, y_ = (x3_1.set (((rd_T55 l0 x4_1).f1) : Int).toNat true) := ⟨_, rfl⟩
             replace H : (spec_MustWrite.l0 kj4 l0 y169 (wrap64 (x4_1 + 1))) = some r := by first | (rw [hy169]; with_reducible exact H) | (have H2_ := (Option.bind_some _ _).symm.trans H; rw [hy169]; with_reducible exact H2_) | (have H2_ := (Option.bind_some _ _).symm.trans H; with_reducible exact H2_) | with_reducible exact H | (rw [hy169]; exact H) | exact H
             have Ny169 := Aside0.mk hy169
             clear hy169
             have H' := Aside0.mk H
             clear H
             have p164 : 0 ≤ (x4_1 : Int) := of_decide_eq_true z5_7
             have q164 : x4_1 < (l0.length : Int) := of_decide_eq_true z5_7
             obtain ⟨ad164, e164, hx164_0, hx164_1, hx164_2, hx164_3, hx164_4, hx164_5⟩ := at_T55 HR0.out x4_1 p164 q164
             cases e164
             replace hx164_0 := (HB.out.cell (World.block_lt_of_cell? w _ hx164_0)).trans hx164_0
             replace hx164_1 := (HB.out.cell (World.block_lt_of_cell? w _ hx164_1)).trans hx164_1
             replace hx164_2 := (HB.out.cell (World.block_lt_of_cell? w _ hx164_2)).trans hx164_2
             replace hx164_3 := (HB.out.cell (World.block_lt_of_cell? w _ hx164_3)).trans hx164_3
             replace hx164_4 := (HB.out.cell (World.block_lt_of_cell? w _ hx164_4)).trans hx164_4
             replace hx164_5 := (HB.out.cell (World.block_lt_of_cell? w _ hx164_5)).trans hx164_5
             replace p164 := eq_true p164
             replace q164 := eq_true q164
             have p166 : 0 ≤ (x4_1 : Int) := of_decide_eq_true z5_7
             have q166 : x4_1 < (l0.length : Int) := of_decide_eq_true z5_7
             obtain ⟨ad166, e166, hx166_0, hx166_1, hx166_2, hx166_3, hx166_4, hx166_5⟩ := at_T55 HR0.out x4_1 p166 q166
             obtain rfl : ad164 = ad166 := (by injection e166)
             replace hx166_0 := (HB.out.cell (World.block_lt_of_cell? w _ hx166_0)).trans hx166_0
             replace hx166_1 := (HB.out.cell (World.block_lt_of_cell? w _ hx166_1)).trans hx166_1
             replace hx166_2 := (HB.out.cell (World.block_lt_of_cell? w _ hx166_2)).trans hx166_2
             replace hx166_3 := (HB.out.cell (World.block_lt_of_cell? w _ hx166_3)).trans hx166_3
             replace hx166_4 := (HB.out.cell (World.block_lt_of_cell? w _ hx166_4)).trans hx166_4
             replace hx166_5 := (HB.out.cell (World.block_lt_of_cell? w _ hx166_5)).trans hx166_5
             replace p166 := eq_true p166
             replace q166 := eq_true q166
             go_wp2_with (first | ((with_reducible refine gate_callee (f := 60) rfl ?_); refine goesL_ (some 29) rfl rfl Try.func60 (by kernel_rfl) rfl #[.agg #[.int .i64 ((rd_T55 l0 x4_1).f0), .int .i64 ((rd_T55 l0 x4_1).f1), .int .i64 ((rd_T55 l0 x4_1).f2), .int .i64 ((rd_T55 l0 x4_1).f3.f0), .int .i64 ((rd_T55 l0 x4_1).f3.f1), .int .i64 ((rd_T55 l0 x4_1).f3.f2)]] rfl z5_9 ?_; (with_reducible refine (spec_l07Writes.calls ((rd_T55 l0 x4_1).f0) ((rd_T55 l0 x4_1).f1) ((rd_T55 l0 x4_1).f2) ((rd_T55 l0 x4_1).f3.f0) ((rd_T55 l0 x4_1).f3.f1) ((rd_T55 l0 x4_1).f3.f2) true _ A15.out).mono ?_); rintro e w20 ⟨rfl, hb⟩; refine ⟨_, rfl, ?_⟩; have n0_ := Aside0.mk (Kd.R_below z5_6 hb); have n1_ := Aside0.mk (below_step z5_3 hb); clear HO_3; clear HB; have HO_3 := n0_; have HB := n1_; clear n0_ n1_; (try clear hb); (try clear hb2); (try clear hk); (try clear hi); have p168 : 0 ≤ (x4_1 : Int) := of_decide_eq_true z5_7; have q168 : x4_1 < (l0.length : Int) := of_decide_eq_true z5_7; obtain ⟨ad168, e168, hx168_0, hx168_1, hx168_2, hx168_3, hx168_4, hx168_5⟩ := at_T55 HR0.out x4_1 p168 q168; obtain rfl : ad164 = ad168 := (by injection e168); replace hx168_0 := (HB.out.cell (World.block_lt_of_cell? w _ hx168_0)).trans hx168_0; replace hx168_1 := (HB.out.cell (World.block_lt_of_cell? w _ hx168_1)).trans hx168_1; replace hx168_2 := (HB.out.cell (World.block_lt_of_cell? w _ hx168_2)).trans hx168_2; replace hx168_3 := (HB.out.cell (World.block_lt_of_cell? w _ hx168_3)).trans hx168_3; replace hx168_4 := (HB.out.cell (World.block_lt_of_cell? w _ hx168_4)).trans hx168_4; replace hx168_5 := (HB.out.cell (World.block_lt_of_cell? w _ hx168_5)).trans hx168_5; replace p168 := eq_true p168; replace q168 := eq_true q168; have p19 : 0 ≤ (((rd_T55 l0 x4_1).f1) : Int) := of_decide_eq_true z5_7; have q19 : (((rd_T55 l0 x4_1).f1) : Int) < ((x3_1.length : Int) : Int) := of_decide_eq_true z5_7; obtain ⟨go19, co19, eo19, gb19, gl19, cl19, HG19⟩ := Kd.R_form HO_3.out (by omega); (first | cases eo19 | (injection eo19 with ea_ en_ ec_; (first | subst ea_ | (injection ea_ with ea_; subst ea_)); subst ec_; clear en_)); have GB19 := Aside0.mk gb19; have GG19 := Aside0.mk HG19; clear gb19 gl19 HG19; obtain ⟨hx19_0, hf19_0⟩ := Kd.R_celln false HO_3.out (((rd_T55 l0 x4_1).f1) : Int) p19 q19; replace p19 := eq_true p19; replace q19 := eq_true q19; obtain ⟨hy21_, hz21_⟩ := Kd.R_celln false HO_3.out (((rd_T55 l0 x4_1).f1) : Int) (of_decide_eq_true z5_7) (of_decide_eq_true z5_7); have HP21 := Kd.R_putg HO_3.out (((rd_T55 l0 x4_1).f1) : Int) true) | ((with_reducible refine gate_store (t := 4) (p := 36) rfl ?_); refine store_event (t := 4) (p := 36) (v := ?vo_w22) (w1 := (w20.setCell ⟨go19, (((rd_T55 l0 x4_1).f1) : Int).toNat, none⟩ (.bool true))) ?hg ?ho ?hn ?hr ?_; (case ho => rfl); (case hg => rfl); (case hn => rfl); (case hr => exact z5_16); intro w22 hw; have hg : w20.grownBy w22 (some go19) := (by rw [hw]; exact HP21.2); have hp_ : Kd.R Kd.bool 4 w22 w.heap.size (fun _ => True) (.slice (some ⟨go19, 0, none⟩) x3_1.length co19) y169 := (by rw [hw, Ny169.out]; exact HP21.1); clear HP21; have n0_ := Aside0.mk (hp_); have n1_ := Aside0.mk ((by rw [hw]; exact below_set (HB.out) GB19.out : Below w.heap.size w w22)); clear HO_3; clear HB; have HO_3 := n0_; have HB := n1_; clear n0_ n1_; clear hg hw hp_))
             go_roundg kj4
             case measure => have := HK1.out; have := HJ4.out; omega
             case rel => exact ⟨(y169), (wrap64 (x4_1 + 1)), z5_13, H', ⟨by have := HK1.out; have := HJ4.out; omega⟩, ⟨by (with_reducible repeat (first | apply Kd.R_alloc | apply Kd.R_drewN | apply Kd.R_drew)); exact HO_3.out⟩, ⟨by repeat (first | (with_reducible first | exact HB.out | apply below_alloc | apply pw_below_drewN | apply below_drew1) | exact HB.out)⟩⟩
            ·rw [if_neg c18] at H
             exact absurd H (by simp)
           ·rw [if_neg c17] at H
            exact absurd H (by simp)
          ·replace c16 := Bool.eq_false_iff.mpr c16
           subst c16
           have H1 : (spec_MustWrite.l0 kj4 l0 x3_1 (wrap64 (x4_1 + 1))) = some r := by rw [if_neg (show ¬ (false = true) by decide)] at H; exact H
           clear H
           have H := H1
           clear H1
           have H' := Aside0.mk H
           clear H
           have p164 : 0 ≤ (x4_1 : Int) := of_decide_eq_true z5_7
           have q164 : x4_1 < (l0.length : Int) := of_decide_eq_true z5_7
           obtain ⟨ad164, e164, hx164_0, hx164_1, hx164_2, hx164_3, hx164_4, hx164_5⟩ := at_T55 HR0.out x4_1 p164 q164
           cases e164
           replace hx164_0 := (HB.out.cell (World.block_lt_of_cell? w _ hx164_0)).trans hx164_0
           replace hx164_1 := (HB.out.cell (World.block_lt_of_cell? w _ hx164_1)).trans hx164_1
           replace hx164_2 := (HB.out.cell (World.block_lt_of_cell? w _ hx164_2)).trans hx164_2
           replace hx164_3 := (HB.out.cell (World.block_lt_of_cell? w _ hx164_3)).trans hx164_3
           replace hx164_4 := (HB.out.cell (World.block_lt_of_cell? w _ hx164_4)).trans hx164_4
           replace hx164_5 := (HB.out.cell (World.block_lt_of_cell? w _ hx164_5)).trans hx164_5
           replace p164 := eq_true p164
           replace q164 := eq_true q164
           have p166 : 0 ≤ (x4_1 : Int) := of_decide_eq_true z5_7
           have q166 : x4_1 < (l0.length : Int) := of_decide_eq_true z5_7
           obtain ⟨ad166, e166, hx166_0, hx166_1, hx166_2, hx166_3, hx166_4, hx166_5⟩ := at_T55 HR0.out x4_1 p166 q166
           obtain rfl : ad164 = ad166 := (by injection e166)
           replace hx166_0 := (HB.out.cell (World.block_lt_of_cell? w _ hx166_0)).trans hx166_0
           replace hx166_1 := (HB.out.cell (World.block_lt_of_cell? w _ hx166_1)).trans hx166_1
           replace hx166_2 := (HB.out.cell (World.block_lt_of_cell? w _ hx166_2)).trans hx166_2
           replace hx166_3 := (HB.out.cell (World.block_lt_of_cell? w _ hx166_3)).trans hx166_3
           replace hx166_4 := (HB.out.cell (World.block_lt_of_cell? w _ hx166_4)).trans hx166_4
           replace hx166_5 := (HB.out.cell (World.block_lt_of_cell? w _ hx166_5)).trans hx166_5
           replace p166 := eq_true p166
           replace q166 := eq_true q166
           go_wp2_with (first | ((with_reducible refine gate_callee (f := 60) rfl ?_); refine goesL_ (some 29) rfl rfl Try.func60 (by kernel_rfl) rfl #[.agg #[.int .i64 ((rd_T55 l0 x4_1).f0), .int .i64 ((rd_T55 l0 x4_1).f1), .int .i64 ((rd_T55 l0 x4_1).f2), .int .i64 ((rd_T55 l0 x4_1).f3.f0), .int .i64 ((rd_T55 l0 x4_1).f3.f1), .int .i64 ((rd_T55 l0 x4_1).f3.f2)]] rfl z5_9 ?_; (with_reducible refine (spec_l07Writes.calls ((rd_T55 l0 x4_1).f0) ((rd_T55 l0 x4_1).f1) ((rd_T55 l0 x4_1).f2) ((rd_T55 l0 x4_1).f3.f0) ((rd_T55 l0 x4_1).f3.f1) ((rd_T55 l0 x4_1).f3.f2) false _ A15.out).mono ?_); rintro e w23 ⟨rfl, hb⟩; refine ⟨_, rfl, ?_⟩; have n0_ := Aside0.mk (Kd.R_below z5_6 hb); have n1_ := Aside0.mk (below_step z5_3 hb); clear HO_3; clear HB; have HO_3 := n0_; have HB := n1_; clear n0_ n1_; (try clear hb); (try clear hb2); (try clear hk); (try clear hi)))
           go_roundg kj4
           case measure => have := HK1.out; have := HJ4.out; omega
           case rel => exact ⟨(x3_1), (wrap64 (x4_1 + 1)), z5_13, H', ⟨by have := HK1.out; have := HJ4.out; omega⟩, ⟨by (with_reducible repeat (first | apply Kd.R_alloc | apply Kd.R_drewN | apply Kd.R_drew)); exact HO_3.out⟩, ⟨by repeat (first | (with_reducible first | exact HB.out | apply below_alloc | apply pw_below_drewN | apply below_drew1) | exact HB.out)⟩⟩
        ·rw [if_neg c11] at H
         exact absurd H (by simp)
       ·rw [if_neg c10] at H
        exact absurd H (by simp)
      ·replace c9 := Bool.eq_false_iff.mpr c9
       subst c9
       have H1 : ((spec_l07List.f kj4 x3_1).bind fun t161 => (some t161)) = some r := by rw [if_neg (show ¬ (false = true) by decide)] at H; exact H
       clear H
       have H := H1
       clear H1
       replace H := Option.bind_eq_some_iff.mp H
       obtain ⟨t161, A240, H⟩ := H
       replace H : (some t161) = some r := H
       have A24 := Aside0.mk A240
       clear A240
       obtain rfl := Option.some.inj H
       obtain ⟨Ao25, co25, eo25⟩ := Kd.R_slice HO_3.out
       subst eo25
       go_wp2_with (first | ((with_reducible refine gate_callee (f := 61) rfl ?_); refine goesL_ (some 38) rfl rfl Try.func61 (by kernel_rfl) rfl #[.slice Ao25 x3_1.length co25] rfl z5_9 ?_; (with_reducible refine (spec_l07List.calls kj4 _ _ x3_1 t161 _ ?side1 ?side2 A24.out).mono ?_); (case side1 => exact z5_18); (case side2 => exact (Kd.R_reads' HO_3.out).2.1); rintro e w26 ⟨v162, rfl, ho0, hb⟩; refine ⟨_, rfl, ?_⟩; have n0_ := Aside0.mk (Kd.R_below z5_6 hb); have n1_ := Aside0.mk (Kd.R_lower ho0 (below_size z5_3)); have n2_ := Aside0.mk (below_step z5_3 hb); clear HO_3; clear HB; have HO_3 := n0_; have HO163 := n1_; have HB := n2_; clear n0_ n1_ n2_; (try clear hb); (try clear hb2); (try clear hk); (try clear hi); (try clear ho0)))
       go_ret
       exact ⟨_, by first | rfl | (simp [errW_none, errW_some] <;> rfl) | (simp [*, errW_none, errW_some] <;> rfl) | (simp [*, errW_none, errW_some, i64_w]; done), by (with_reducible repeat (first | apply Kd.R_alloc | apply Kd.R_drewN | apply Kd.R_drew)); exact HO163.out, by repeat (first | (with_reducible first | exact HB.out | apply below_alloc | apply pw_below_drewN | apply below_drew1) | exact HB.out)⟩
 ·rw [if_neg c2] at H
  exact absurd H (by simp)
/-! ### spec_ReadsOf: function 76 -/
mutual
def spec_ReadsOf.l0 : Nat → List Int → Int → Int → Int → Int → Option (List Int)
 | 0, _, _, _, _, _ => none
 | k + 1, x3, x4, x171000, x171001, x171002 => if x4 < 8 then ((spec_ExprOk.f x171000 x171001 x171002).bind fun t174 => (spec_ReadsOf.j1 k x3 x4 t174 x171000 x171001 x171002)) else (spec_ReadsOf.j1 k x3 x4 false x171000 x171001 x171002)
def spec_ReadsOf.j1 : Nat → List Int → Int → Bool → Int → Int → Int → Option (List Int)
 | 0, _, _, _, _, _, _ => none
 | k + 1, x3, x4, x11, x171000, x171001, x171002 => if x11 = true then (if x171001 = (wrap64 ((-1) - x4)) then (if x3.length < 17592186044416 then (spec_ReadsOf.l0 k (x3 ++ [x4]) (wrap64 (x4 + 1)) x171000 x171001 x171002) else (none)) else (if x171002 = (wrap64 ((-1) - x4)) then (if x3.length < 17592186044416 then (spec_ReadsOf.l0 k (x3 ++ [x4]) (wrap64 (x4 + 1)) x171000 x171001 x171002) else (none)) else (spec_ReadsOf.l0 k x3 (wrap64 (x4 + 1)) x171000 x171001 x171002))) else (some x3)
end
def spec_ReadsOf.f (k : Nat) (a0_0 : Int) (a0_1 : Int) (a0_2 : Int) : Option (List Int) := spec_ReadsOf.l0 k (([] : List Int)) 0 a0_0 a0_1 a0_2
theorem spec_ReadsOf.mono_l : ∀ k, (∀ y0 y1 y2 y3 y4, LeO (spec_ReadsOf.l0 k y0 y1 y2 y3 y4) (spec_ReadsOf.l0 (k + 1) y0 y1 y2 y3 y4)) ∧ (∀ y0 y1 y2 y3 y4 y5, LeO (spec_ReadsOf.j1 k y0 y1 y2 y3 y4 y5) (spec_ReadsOf.j1 (k + 1) y0 y1 y2 y3 y4 y5))
 | 0 => ⟨fun _ _ _ _ _ r h => by simp [spec_ReadsOf.l0] at h, fun _ _ _ _ _ _ r h => by simp [spec_ReadsOf.j1] at h⟩
 | k + 1 => by
  obtain ⟨ih0, ih1⟩ := spec_ReadsOf.mono_l k
  refine ⟨?_, ?_⟩
  ·intro y0 y1 y2 y3 y4
   unfold spec_ReadsOf.l0
   repeat' first
   | (with_reducible exact ih0 _ _ _ _ _)
   | (with_reducible exact ih1 _ _ _ _ _ _)
   | (with_reducible exact LeO.refl _)
   | (with_reducible exact LeO.none _)
   | (with_reducible refine LeO.ite ?_ ?_)
   | (with_reducible refine LeO.bind ?_ (fun _ => ?_))
   | exact ih0 _ _ _ _ _
   | exact ih1 _ _ _ _ _ _
   | exact LeO.none _
   | refine LeO.ite ?_ ?_
   | refine LeO.bind ?_ (fun _ => ?_)
  ·intro y0 y1 y2 y3 y4 y5
   unfold spec_ReadsOf.j1
   repeat' first
   | (with_reducible exact ih0 _ _ _ _ _)
   | (with_reducible exact ih1 _ _ _ _ _ _)
   | (with_reducible exact LeO.refl _)
   | (with_reducible exact LeO.none _)
   | (with_reducible refine LeO.ite ?_ ?_)
   | (with_reducible refine LeO.bind ?_ (fun _ => ?_))
   | exact ih0 _ _ _ _ _
   | exact ih1 _ _ _ _ _ _
   | exact LeO.none _
   | refine LeO.ite ?_ ?_
   | refine LeO.bind ?_ (fun _ => ?_)
theorem spec_ReadsOf.mono : ∀ a0 a1 a2 k, LeO (spec_ReadsOf.f k a0 a1 a2) (spec_ReadsOf.f (k + 1) a0 a1 a2) := by
 intro a0 a1 a2 k
 obtain ⟨ih0, ih1⟩ := spec_ReadsOf.mono_l k
 unfold spec_ReadsOf.f
 repeat' first
   | (with_reducible exact ih0 _ _ _ _ _)
   | (with_reducible exact ih1 _ _ _ _ _ _)
   | (with_reducible exact LeO.refl _)
   | (with_reducible exact LeO.none _)
   | (with_reducible refine LeO.ite ?_ ?_)
   | (with_reducible refine LeO.bind ?_ (fun _ => ?_))
   | exact ih0 _ _ _ _ _
   | exact ih1 _ _ _ _ _ _
   | exact LeO.none _
   | refine LeO.ite ?_ ?_
   | refine LeO.bind ?_ (fun _ => ?_)
set_option maxHeartbeats 8000000 in
set_option maxRecDepth 100000 in
theorem spec_ReadsOf.calls (k : Nat) (a0_0 : Int) (a0_1 : Int) (a0_2 : Int) (r : List Int) (w : World) (h : spec_ReadsOf.f k a0_0 a0_1 a0_2 = some r) :
  Calls Try.prog 76 #[.agg #[.int .i64 a0_0, .int .i64 a0_1, .int .i64 a0_2]] w fun e w' => ∃ v0_ : Value, e = .returned (v0_) ∧ Kd.R (Kd.int .i64) 3 w' w.heap.size (fun _ => True) v0_ r ∧ Below w.heap.size w w' := by
 have hu30 := Try.underlying30
 have HB := Aside0.mk (Below.refl w.heap.size w)
 have H : (spec_ReadsOf.l0 k (([] : List Int)) 0 a0_0 a0_1 a0_2) = some r := h
 clear h
 obtain ⟨y171, hy171⟩ : ∃ y_ : List Int, y_ = (([] : List Int)) := ⟨_, rfl⟩
 replace H : (spec_ReadsOf.l0 k y171 0 a0_0 a0_1 a0_2) = some r := by first | (rw [hy171]; with_reducible exact H) | (have H2_ := (Option.bind_some _ _).symm.trans H; rw [hy171]; with_reducible exact H2_) | (have H2_ := (Option.bind_some _ _).symm.trans H; with_reducible exact H2_) | with_reducible exact H | (rw [hy171]; exact H) | exact H
 have Ny171 := Aside0.mk hy171
 clear hy171
 have H' := Aside0.mk H
 clear H
 go_enter Try.func76, Try.ntmps76
 go_wp2_with (first | ((with_reducible refine gate_dst (N := 1) rfl ?_); refine box_event ?hg (N := 1) ?hd (cs := #[.int .i64 a0_0, .int .i64 a0_1, .int .i64 a0_2]) (t := 30) ?hr ?_; (case hd => rfl); (case hg => rfl); (case hr => exact z5_16); intro gb170 hg w2 hbox hb; have n0_ := Aside0.mk (below_step z5_3 hb); have n1_ := Aside0.mk (hbox); have n2_ := Aside0.mk ((z5_22 : w.heap.size ≤ gb170)); have n3_ := Aside0.mk ((z5_22 : w.heap.size ≤ gb170)); clear HB; have HB := n0_; have BK170 := n1_; have GW170 := n2_; have GE170 := n3_; clear n0_ n1_ n2_ n3_; clear hb hbox hg) | ((with_reducible refine gate_dst (N := 5) rfl ?_); refine Kd.R_lit (Kd.int .i64) _ 3 ?hg (N := 5) ?hd (xs := ([] : List Int)) (inner := []) (ok := fun _ => True) (okp := fun _ => True) ?hr ?hp (fun _ hk => hk) trivial (Below.refl _ _) (Nat.le_refl _) (by simp) ?_; (case hd => rfl); (case hg => rfl); (case hr => exact z5_16); (case hp => exact (Reps.none _ _)); intro v172 w3 ho4 hb hg_ hnew_; clear hg_ hnew_; (first | rw [← Ny171.out] at ho4 | (simp only [Int.reduceToNat] at ho4; rw [← Ny171.out] at ho4)); have n0_ := Aside0.mk (Kd.R_lower ho4 (below_size z5_14)); have n1_ := Aside0.mk (blk_below (g := gb170) (o := .cells #[.int .i64 a0_0, .int .i64 a0_1, .int .i64 a0_2] 30 (0, 0)) z5_20 hb); have n2_ := Aside0.mk (below_step z5_14 hb); clear BK170; clear HB; have HO173 := n0_; have BK170 := n1_; have HB := n2_; clear n0_ n1_ n2_; clear hb ho4))
 go_loopg [3, 4] k (fun kq v3 v4 w' => ∃ (x3_1 : List Int) (x4_1 : Int), v4 = .int .i64 x4_1 ∧ Aside0 (spec_ReadsOf.l0 kq x3_1 x4_1 a0_0 a0_1 a0_2 = some r) ∧ Aside0 (kq ≤ k) ∧ Aside0 (Kd.R (Kd.int .i64) 3 w' w.heap.size (fun _ => True) v3 x3_1) ∧ Aside0 (w'.heap[gb170]? = some (.cells #[.int .i64 a0_0, .int .i64 a0_1, .int .i64 a0_2] 30 (0, 0))) ∧ Aside0 (Below w.heap.size w w'))
 case atStart => exact ⟨(y171), (0), z5_13, H', ⟨Nat.le_refl _⟩, ⟨by (with_reducible repeat (first | apply Kd.R_alloc | apply Kd.R_drewN | apply Kd.R_drew)); exact HO173.out⟩, ⟨by (with_reducible repeat (first | refine blk_drewN ?_ _ | refine blk_drew ?_ | refine blk_alloc ?_ _)); exact BK170.out⟩, ⟨by repeat (first | (with_reducible first | exact HB.out | apply below_alloc | apply pw_below_drewN | apply below_drew1 | refine below_set ?_ GE170.out) | exact HB.out)⟩⟩
 case round =>
  clear H'
  obtain ⟨x3_1, x4_1, rfl, HA, HK1, HO_3, BK170, HB⟩ := hrel
  cases gk with
  | zero => exact absurd HA.out (by simp [spec_ReadsOf.l0])
  | succ k1 =>
   have H := HA.out
   clear HA
   simp only [spec_ReadsOf.l0] at H
   have HC5 := Aside0.mk H
   clear H
   go_upto_region 3 with (fail)
   go_cut [11] (fun v11 wc => ∃ (kq : Nat) (x11_4 : Bool), v11 = .bool x11_4 ∧ Aside0 (spec_ReadsOf.j1 kq x3_1 x4_1 x11_4 a0_0 a0_1 a0_2 = some r) ∧ Aside0 (kq ≤ k1) ∧ Aside0 (Kd.R (Kd.int .i64) 3 wc w.heap.size (fun _ => True) u3 x3_1) ∧ Aside0 (wc.heap[gb170]? = some (.cells #[.int .i64 a0_0, .int .i64 a0_1, .int .i64 a0_2] 30 (0, 0))) ∧ Aside0 (Below w.heap.size w wc))
   case first =>
    have H := HC5.out
    clear HC5
    by_cases c6 : x4_1 < 8
    ·rw [if_pos c6] at H
     have c6b0 : decide (x4_1 < 8) = true := decide_eq_true c6
     clear c6
     (first | rw [c6b0] | (simp only [i64_w, i32_w]; rw [c6b0]) | skip)
     replace H := Option.bind_eq_some_iff.mp H
     obtain ⟨t174, A70, H⟩ := H
     replace H : (spec_ReadsOf.j1 k1 x3_1 x4_1 t174 a0_0 a0_1 a0_2) = some r := H
     have A7 := Aside0.mk A70
     clear A70
     have H' := Aside0.mk H
     clear H
     have hcz8_0 : wr.cell? ⟨gb170, 0, none⟩ = some (.int .i64 a0_0) := (blk_cell BK170.out 0).trans rfl
     have hcz8_1 : wr.cell? ⟨gb170, 1, none⟩ = some (.int .i64 a0_1) := (blk_cell BK170.out 1).trans rfl
     have hcz8_2 : wr.cell? ⟨gb170, 2, none⟩ = some (.int .i64 a0_2) := (blk_cell BK170.out 2).trans rfl
     have hfz8_0 := blk_frozen BK170.out 0
     have hfz8_1 := blk_frozen BK170.out 1
     have hfz8_2 := blk_frozen BK170.out 2
     go_wp2_with (first | (go_at_call 33; (with_reducible refine (spec_ExprOk.calls a0_0 a0_1 a0_2 t174 _ A7.out).mono ?_); rintro e w9 ⟨rfl, hb⟩; have n0_ := Aside0.mk (Kd.R_below z5_6 hb); have n1_ := Aside0.mk (blk_below (g := gb170) (o := .cells #[.int .i64 a0_0, .int .i64 a0_1, .int .i64 a0_2] 30 (0, 0)) z5_20 hb); have n2_ := Aside0.mk (below_step z5_14 hb); clear HO_3; clear BK170; clear HB; have HO_3 := n0_; have BK170 := n1_; have HB := n2_; clear n0_ n1_ n2_; (try clear hb); (try clear hb2); (try clear hk); (try clear hi)))
     go_meet
     case rel => exact ⟨_, (t174), z5_13, H', ⟨by have := HK1.out; first | omega | exact Nat.le_refl _⟩, ⟨by (with_reducible repeat (first | apply Kd.R_alloc | apply Kd.R_drewN | apply Kd.R_drew)); exact HO_3.out⟩, ⟨by (with_reducible repeat (first | refine blk_drewN ?_ _ | refine blk_drew ?_ | refine blk_alloc ?_ _)); exact BK170.out⟩, ⟨by repeat (first | (with_reducible first | exact HB.out | apply below_alloc | apply pw_below_drewN | apply below_drew1 | refine below_set ?_ GE170.out) | exact HB.out)⟩⟩
    ·rw [if_neg c6] at H
     have c6b0 : decide (x4_1 < 8) = false := decide_eq_false c6
     clear c6
     (first | rw [c6b0] | (simp only [i64_w, i32_w]; rw [c6b0]) | skip)
     have H' := Aside0.mk H
     clear H
     go_wp2
     go_meet
     case rel => exact ⟨_, (false), z5_13, H', ⟨by have := HK1.out; first | omega | exact Nat.le_refl _⟩, ⟨by (with_reducible repeat (first | apply Kd.R_alloc | apply Kd.R_drewN | apply Kd.R_drew)); exact HO_3.out⟩, ⟨by (with_reducible repeat (first | refine blk_drewN ?_ _ | refine blk_drew ?_ | refine blk_alloc ?_ _)); exact BK170.out⟩, ⟨by repeat (first | (with_reducible first | exact HB.out | apply below_alloc | apply pw_below_drewN | apply below_drew1 | refine below_set ?_ GE170.out) | exact HB.out)⟩⟩
   case rest =>
    clear HC5
    obtain ⟨kq, x11_4, rfl, HA, HJ4, HO_3, BK170, HB⟩ := hcut
    cases kq with
    | zero => exact absurd HA.out (by simp [spec_ReadsOf.j1])
    | succ kj4 =>
     have H := HA.out
     clear HA
     simp only [spec_ReadsOf.j1] at H
     by_cases c10 : x11_4 = true
     ·subst c10
      have H1 : (if a0_1 = (wrap64 ((-1) - x4_1)) then (if x3_1.length < 17592186044416 then (spec_ReadsOf.l0 kj4 (x3_1 ++ [x4_1]) (wrap64 (x4_1 + 1)) a0_0 a0_1 a0_2) else (none)) else (if a0_2 = (wrap64 ((-1) - x4_1)) then (if x3_1.length < 17592186044416 then (spec_ReadsOf.l0 kj4 (x3_1 ++ [x4_1]) (wrap64 (x4_1 + 1)) a0_0 a0_1 a0_2) else (none)) else (spec_ReadsOf.l0 kj4 x3_1 (wrap64 (x4_1 + 1)) a0_0 a0_1 a0_2))) = some r := by rw [if_pos rfl] at H; exact H
      clear H
      have H := H1
      clear H1
      by_cases c11 : a0_1 = (wrap64 ((-1) - x4_1))
      ·rw [if_pos c11] at H
       have c11b0 : (a0_1 == (wrap64 ((-1) - x4_1))) = true := beq_iff_eq.mpr c11
       have c11b1 : (a0_1 != (wrap64 ((-1) - x4_1))) = false := bne_eq_false_iff_eq.mpr c11
       clear c11
       by_cases c12 : x3_1.length < 17592186044416
       ·rw [if_pos c12] at H
        have LMc12 := Aside0.mk c12
        clear c12
        obtain ⟨y175, hy175⟩ : ∃ y_ : List Int, y_ = (x3_1 ++ [x4_1]) := ⟨_, rfl⟩
        replace H : (spec_ReadsOf.l0 kj4 y175 (wrap64 (x4_1 + 1)) a0_0 a0_1 a0_2) = some r := by first | (rw [hy175]; with_reducible exact H) | (have H2_ := (Option.bind_some _ _).symm.trans H; rw [hy175]; with_reducible exact H2_) | (have H2_ := (Option.bind_some _ _).symm.trans H; with_reducible exact H2_) | with_reducible exact H | (rw [hy175]; exact H) | exact H
        have Ny175 := Aside0.mk hy175
        clear hy175
        have H' := Aside0.mk H
        clear H
        have hcz13_0 : wc.cell? ⟨gb170, 0, none⟩ = some (.int .i64 a0_0) := (blk_cell BK170.out 0).trans rfl
        have hcz13_1 : wc.cell? ⟨gb170, 1, none⟩ = some (.int .i64 a0_1) := (blk_cell BK170.out 1).trans rfl
        have hcz13_2 : wc.cell? ⟨gb170, 2, none⟩ = some (.int .i64 a0_2) := (blk_cell BK170.out 2).trans rfl
        have hfz13_0 := blk_frozen BK170.out 0
        have hfz13_1 := blk_frozen BK170.out 1
        have hfz13_2 := blk_frozen BK170.out 2
        go_wp2_with (first | ((with_reducible refine gate_builtin (b := .append) (xs := #[.tmp 26, .tmp 28]) rfl ?_); at_builtin; refine Kd.R_append (Kd.int .i64) (w0 := w) w.heap.size rfl (.tmp 26) (.tmp 28) 47 3 (.int .i64 0) 8 rfl Try.underlying47 info3 rfl (by decide) (by omega) u3 x3_1 x4_1 [.int .i64 x4_1] (fun _ => True) (fun _ => False) rfl rfl ?aP (fun _ hk => hk.elim) ?aF ?aO ?aB ?aS ?aL ?_; (case aP => exact rfl); (case aB => exact z5_14); (case aF => exact (fun _ _ => trivial)); (case aO => exact z5_6); (case aS => exact (below_size z5_14)); (case aL => have := LMc12.out; omega); intro v176 w14 ho hb hg hat; rw [← Ny175.out] at ho; have n0_ := Aside0.mk (blk_grown (g := gb170) (o := .cells #[.int .i64 a0_0, .int .i64 a0_1, .int .i64 a0_2] 30 (0, 0)) z5_20 hg (Kd.R_ne HO_3.out BK170.out (by decide))); have n1_ := Aside0.mk (hb); have n2_ := Aside0.mk (ho); clear BK170; clear HB; clear HO_3; have BK170 := n0_; have HB := n1_; have HO177 := n2_; clear n0_ n1_ n2_; clear ho hb hg hat))
        go_roundg kj4
        case measure => have := HK1.out; have := HJ4.out; omega
        case rel => exact ⟨(y175), (wrap64 (x4_1 + 1)), z5_13, H', ⟨by have := HK1.out; have := HJ4.out; omega⟩, ⟨by (with_reducible repeat (first | apply Kd.R_alloc | apply Kd.R_drewN | apply Kd.R_drew)); exact HO177.out⟩, ⟨by (with_reducible repeat (first | refine blk_drewN ?_ _ | refine blk_drew ?_ | refine blk_alloc ?_ _)); exact BK170.out⟩, ⟨by repeat (first | (with_reducible first | exact HB.out | apply below_alloc | apply pw_below_drewN | apply below_drew1 | refine below_set ?_ GE170.out) | exact HB.out)⟩⟩
       ·rw [if_neg c12] at H
        exact absurd H (by simp)
      ·rw [if_neg c11] at H
       have c11b0 : (a0_1 == (wrap64 ((-1) - x4_1))) = false := beq_eq_false_iff_ne.mpr c11
       have c11b1 : (a0_1 != (wrap64 ((-1) - x4_1))) = true := bne_iff_ne.mpr c11
       by_cases c15 : a0_2 = (wrap64 ((-1) - x4_1))
       ·rw [if_pos c15] at H
        have c15b0 : (a0_2 == (wrap64 ((-1) - x4_1))) = true := beq_iff_eq.mpr c15
        have c15b1 : (a0_2 != (wrap64 ((-1) - x4_1))) = false := bne_eq_false_iff_eq.mpr c15
        clear c15
        by_cases c16 : x3_1.length < 17592186044416
        ·rw [if_pos c16] at H
         have LMc16 := Aside0.mk c16
         clear c16
         obtain ⟨y178, hy178⟩ : ∃ y_ : List Int, y_ = (x3_1 ++ [x4_1]) := ⟨_, rfl⟩
         replace H : (spec_ReadsOf.l0 kj4 y178 (wrap64 (x4_1 + 1)) a0_0 a0_1 a0_2) = some r := by first | (rw [hy178]; with_reducible exact H) | (have H2_ := (Option.bind_some _ _).symm.trans H; rw [hy178]; with_reducible exact H2_) | (have H2_ := (Option.bind_some _ _).symm.trans H; with_reducible exact H2_) | with_reducible exact H | (rw [hy178]; exact H) | exact H
         have Ny178 := Aside0.mk hy178
         clear hy178
         have H' := Aside0.mk H
         clear H
         have hcz17_0 : wc.cell? ⟨gb170, 0, none⟩ = some (.int .i64 a0_0) := (blk_cell BK170.out 0).trans rfl
         have hcz17_1 : wc.cell? ⟨gb170, 1, none⟩ = some (.int .i64 a0_1) := (blk_cell BK170.out 1).trans rfl
         have hcz17_2 : wc.cell? ⟨gb170, 2, none⟩ = some (.int .i64 a0_2) := (blk_cell BK170.out 2).trans rfl
         have hfz17_0 := blk_frozen BK170.out 0
         have hfz17_1 := blk_frozen BK170.out 1
         have hfz17_2 := blk_frozen BK170.out 2
         go_wp2_with (first | ((with_reducible refine gate_builtin (b := .append) (xs := #[.tmp 26, .tmp 28]) rfl ?_); at_builtin; refine Kd.R_append (Kd.int .i64) (w0 := w) w.heap.size rfl (.tmp 26) (.tmp 28) 47 3 (.int .i64 0) 8 rfl Try.underlying47 info3 rfl (by decide) (by omega) u3 x3_1 x4_1 [.int .i64 x4_1] (fun _ => True) (fun _ => False) rfl rfl ?aP (fun _ hk => hk.elim) ?aF ?aO ?aB ?aS ?aL ?_; (case aP => exact rfl); (case aB => exact z5_14); (case aF => exact (fun _ _ => trivial)); (case aO => exact z5_6); (case aS => exact (below_size z5_14)); (case aL => have := LMc16.out; omega); intro v179 w18 ho hb hg hat; rw [← Ny178.out] at ho; have n0_ := Aside0.mk (blk_grown (g := gb170) (o := .cells #[.int .i64 a0_0, .int .i64 a0_1, .int .i64 a0_2] 30 (0, 0)) z5_20 hg (Kd.R_ne HO_3.out BK170.out (by decide))); have n1_ := Aside0.mk (hb); have n2_ := Aside0.mk (ho); clear BK170; clear HB; clear HO_3; have BK170 := n0_; have HB := n1_; have HO180 := n2_; clear n0_ n1_ n2_; clear ho hb hg hat))
         go_roundg kj4
         case measure => have := HK1.out; have := HJ4.out; omega
         case rel => exact ⟨(y178), (wrap64 (x4_1 + 1)), z5_13, H', ⟨by have := HK1.out; have := HJ4.out; omega⟩, ⟨by (with_reducible repeat (first | apply Kd.R_alloc | apply Kd.R_drewN | apply Kd.R_drew)); exact HO180.out⟩, ⟨by (with_reducible repeat (first | refine blk_drewN ?_ _ | refine blk_drew ?_ | refine blk_alloc ?_ _)); exact BK170.out⟩, ⟨by repeat (first | (with_reducible first | exact HB.out | apply below_alloc | apply pw_below_drewN | apply below_drew1 | refine below_set ?_ GE170.out) | exact HB.out)⟩⟩
        ·rw [if_neg c16] at H
         exact absurd H (by simp)
       ·rw [if_neg c15] at H
        have c15b0 : (a0_2 == (wrap64 ((-1) - x4_1))) = false := beq_eq_false_iff_ne.mpr c15
        have c15b1 : (a0_2 != (wrap64 ((-1) - x4_1))) = true := bne_iff_ne.mpr c15
        have H' := Aside0.mk H
        clear H
        have hcz19_0 : wc.cell? ⟨gb170, 0, none⟩ = some (.int .i64 a0_0) := (blk_cell BK170.out 0).trans rfl
        have hcz19_1 : wc.cell? ⟨gb170, 1, none⟩ = some (.int .i64 a0_1) := (blk_cell BK170.out 1).trans rfl
        have hcz19_2 : wc.cell? ⟨gb170, 2, none⟩ = some (.int .i64 a0_2) := (blk_cell BK170.out 2).trans rfl
        have hfz19_0 := blk_frozen BK170.out 0
        have hfz19_1 := blk_frozen BK170.out 1
        have hfz19_2 := blk_frozen BK170.out 2
        go_wp2
        go_roundg kj4
        case measure => have := HK1.out; have := HJ4.out; omega
        case rel => exact ⟨(x3_1), (wrap64 (x4_1 + 1)), z5_13, H', ⟨by have := HK1.out; have := HJ4.out; omega⟩, ⟨by (with_reducible repeat (first | apply Kd.R_alloc | apply Kd.R_drewN | apply Kd.R_drew)); exact HO_3.out⟩, ⟨by (with_reducible repeat (first | refine blk_drewN ?_ _ | refine blk_drew ?_ | refine blk_alloc ?_ _)); exact BK170.out⟩, ⟨by repeat (first | (with_reducible first | exact HB.out | apply below_alloc | apply pw_below_drewN | apply below_drew1 | refine below_set ?_ GE170.out) | exact HB.out)⟩⟩
     ·replace c10 := Bool.eq_false_iff.mpr c10
      subst c10
      have H1 : (some x3_1) = some r := by rw [if_neg (show ¬ (false = true) by decide)] at H; exact H
      clear H
      have H := H1
      clear H1
      obtain rfl := Option.some.inj H
      go_wp2
      go_ret
      exact ⟨_, by first | rfl | (simp [errW_none, errW_some] <;> rfl) | (simp [*, errW_none, errW_some] <;> rfl) | (simp [*, errW_none, errW_some, i64_w]; done), by (with_reducible repeat (first | apply Kd.R_alloc | apply Kd.R_drewN | apply Kd.R_drew)); exact HO_3.out, by repeat (first | (with_reducible first | exact HB.out | apply below_alloc | apply pw_below_drewN | apply below_drew1 | refine below_set ?_ GE170.out) | exact HB.out)⟩
def spec_l07Note.l0 : Nat → List Bool → List Bool → List Int → Int → Option (List Bool)
 | 0, _, _, _, _ => none
 | k + 1, x0, x1, x6, x7 => if x7 < (x6.length : Int) then (if 0 ≤ x7 then (if 0 ≤ (rd x6 x7) then (if (rd x6 x7) < (x1.length : Int) then (if (rdOf false x1 (rd x6 x7) = true) then (spec_l07Note.l0 k x0 x1 x6 (wrap64 (x7 + 1))) else (if (rd x6 x7) < (x0.length : Int) then (spec_l07Note.l0 k (x0.set ((rd x6 x7) : Int).toNat true) x1 x6 (wrap64 (x7 + 1))) else (none))) else (none)) else (none)) else (none)) else (some x0)
def spec_l07Note.f (k : Nat) (l0 : List Bool) (l1 : List Bool) (a2_0 : Int) (a2_1 : Int) (a2_2 : Int) : Option (List Bool) := (spec_ReadsOf.f k a2_0 a2_1 a2_2).bind fun t182 => (spec_l07Note.l0 k l0 l1 t182 0)
theorem spec_l07Note.mono_l : ∀ k, (∀ y0 y1 y2 y3, LeO (spec_l07Note.l0 k y0 y1 y2 y3) (spec_l07Note.l0 (k + 1) y0 y1 y2 y3))
 | 0 => fun _ _ _ _ r h => by simp [spec_l07Note.l0] at h
 | k + 1 => by
  have ih0 := spec_l07Note.mono_l k
  ·intro y0 y1 y2 y3
   unfold spec_l07Note.l0
   repeat' first
   | (with_reducible exact ih0 _ _ _ _)
   | (with_reducible exact spec_ReadsOf.mono _ _ _ _)
   | (with_reducible exact LeO.refl _)
   | (with_reducible exact LeO.none _)
   | (with_reducible refine LeO.ite ?_ ?_)
   | (with_reducible refine LeO.bind ?_ (fun _ => ?_))
   | exact ih0 _ _ _ _
   | exact spec_ReadsOf.mono _ _ _ _
   | exact LeO.none _
   | refine LeO.ite ?_ ?_
   | refine LeO.bind ?_ (fun _ => ?_)
theorem spec_l07Note.mono : ∀ a0 a1 a2 a3 a4 k, LeO (spec_l07Note.f k a0 a1 a2 a3 a4) (spec_l07Note.f (k + 1) a0 a1 a2 a3 a4) := by
 intro a0 a1 a2 a3 a4 k
 have ih0 := spec_l07Note.mono_l k
 unfold spec_l07Note.f
 repeat' first
   | (with_reducible exact ih0 _ _ _ _)
   | (with_reducible exact spec_ReadsOf.mono _ _ _ _)
   | (with_reducible exact LeO.refl _)
   | (with_reducible exact LeO.none _)
   | (with_reducible refine LeO.ite ?_ ?_)
   | (with_reducible refine LeO.bind ?_ (fun _ => ?_))
   | exact ih0 _ _ _ _
   | exact spec_ReadsOf.mono _ _ _ _
   | exact LeO.none _
   | refine LeO.ite ?_ ?_
   | refine LeO.bind ?_ (fun _ => ?_)
set_option maxHeartbeats 8000000 in
set_option maxRecDepth 100000 in
theorem spec_l07Note.calls (k : Nat) (P0_ : Nat → Prop) (u9000_ : Value) (l0 : List Bool) (A1 : Option Addr) (c1 : Nat) (l1 : List Bool) (a2_0 : Int) (a2_1 : Int) (a2_2 : Int) (r : List Bool) (w0 w : World) (hB : Below w0.heap.size w0 w) (ho0 : Kd.R Kd.bool 4 w w0.heap.size P0_ u9000_ l0) (hr1 : ∀ W_, Kept w W_ (fun k_ => P0_ k_) → Kd.C Kd.bool W_ A1 l1.length l1) (hc1 : l1.length ≤ c1) (h : spec_l07Note.f k l0 l1 a2_0 a2_1 a2_2 = some r) :
  Calls Try.prog 63 #[u9000_, .slice A1 l1.length c1, .agg #[.int .i64 a2_0, .int .i64 a2_1, .int .i64 a2_2]] w fun e w' => e = .returned (.tuple #[]) ∧ Kd.R Kd.bool 4 w' w0.heap.size (fun k_ => (P0_ k_ ∨ w.heap.size ≤ k_)) u9000_ r ∧ Below w0.heap.size w0 w' ∧ Kept w w' (fun k_ => P0_ k_) := by
 have hu30 := Try.underlying30
 have HO0 := Aside0.mk (show Kd.R Kd.bool 4 w w0.heap.size (fun k_ => (P0_ k_ ∨ w.heap.size ≤ k_)) u9000_ l0 from Kd.R_mono ho0 (fun k_ hk => (.inl hk)))
 have HR1 := Aside0.mk hr1
 have HC1 := Aside0.mk hc1
 clear hr1 hc1
 have HK := Aside0.mk (Kept.refl w (fun k_ => P0_ k_))
 have HW0 := Aside0.mk hB.size
 have HB := Aside0.mk hB
 clear hB
 have H : ((spec_ReadsOf.f k a2_0 a2_1 a2_2).bind fun t182 => (spec_l07Note.l0 k l0 l1 t182 0)) = some r := h
 clear h
 replace H := Option.bind_eq_some_iff.mp H
 obtain ⟨t182, A40, H⟩ := H
 replace H : (spec_l07Note.l0 k l0 l1 t182 0) = some r := H
 have A4 := Aside0.mk A40
 clear A40
 have H' := Aside0.mk H
 clear H
 go_enter Try.func63, Try.ntmps63
 go_wp2_with (first | ((with_reducible refine gate_dst (N := 5) rfl ?_); refine box_event ?hg (N := 5) ?hd (cs := #[.int .i64 a2_0, .int .i64 a2_1, .int .i64 a2_2]) (t := 30) ?hr ?_; (case hd => rfl); (case hg => rfl); (case hr => exact z5_16); intro gb181 hg w5 hbox hb; have n0_ := Aside0.mk (Kd.R_below (by (with_reducible repeat (first | apply Kd.R_alloc | apply Kd.R_drewN | apply Kd.R_drew)); exact HO0.out) hb); have n1_ := Aside0.mk (Kept.below (S := (fun k_ => P0_ k_)) z5_17 hb); have n2_ := Aside0.mk (below_step z5_3 hb); have n3_ := Aside0.mk (hbox); have n4_ := Aside0.mk ((by rw [hg]; exact (by first | exact HK.out.1 | exact (show Kept w _ (fun k_ => P0_ k_) from by repeat (first | (with_reducible first | exact HK.out | apply Kept.alloc | apply Kept.drewN | apply Kept.drew) | exact HK.out)).1) : w.heap.size ≤ gb181)); have n5_ := Aside0.mk ((z5_22 : w0.heap.size ≤ gb181)); clear HO0; clear HK; clear HB; have HO0 := n0_; have HK := n1_; have HB := n2_; have BK181 := n3_; have GW181 := n4_; have GE181 := n5_; clear n0_ n1_ n2_ n3_ n4_ n5_; clear hb hbox hg; have hcz6_0 : w5.cell? ⟨gb181, 0, none⟩ = some (.int .i64 a2_0) := (blk_cell BK181.out 0).trans rfl; have hcz6_1 : w5.cell? ⟨gb181, 1, none⟩ = some (.int .i64 a2_1) := (blk_cell BK181.out 1).trans rfl; have hcz6_2 : w5.cell? ⟨gb181, 2, none⟩ = some (.int .i64 a2_2) := (blk_cell BK181.out 2).trans rfl; have hfz6_0 := blk_frozen BK181.out 0; have hfz6_1 := blk_frozen BK181.out 1; have hfz6_2 := blk_frozen BK181.out 2) | ((with_reducible refine gate_callee (f := 76) rfl ?_); refine goesL_ (some 9) rfl rfl Try.func76 (by kernel_rfl) rfl #[.agg #[.int .i64 a2_0, .int .i64 a2_1, .int .i64 a2_2]] rfl z5_9 ?_; (with_reducible refine (spec_ReadsOf.calls k a2_0 a2_1 a2_2 t182 _ A4.out).mono ?_); rintro e w7 ⟨v183, rfl, ho0, hb⟩; refine ⟨_, rfl, ?_⟩; have n0_ := Aside0.mk (Kd.R_below (by (with_reducible repeat (first | apply Kd.R_alloc | apply Kd.R_drewN | apply Kd.R_drew)); exact HO0.out) hb); have n1_ := Aside0.mk (Kd.R_lower (Kd.R_newM (M := fun k_ => (P0_ k_ ∨ w.heap.size ≤ k_)) ho0 (by first | exact HK.out.1 | exact (show Kept w _ (fun k_ => P0_ k_) from by repeat (first | (with_reducible first | exact HK.out | apply Kept.alloc | apply Kept.drewN | apply Kept.drew | refine Kept.setCell ?_ (.inr GW181.out) _) | exact HK.out)).1) (fun k_ h_ => .inr h_)) (below_size (by repeat (first | (with_reducible first | exact HB.out | apply below_alloc | apply pw_below_drewN | apply below_drew1 | refine below_set ?_ GE181.out) | exact HB.out)))); have n2_ := Aside0.mk (blk_below (g := gb181) (o := .cells #[.int .i64 a2_0, .int .i64 a2_1, .int .i64 a2_2] 30 (0, 0)) (by (with_reducible repeat (first | refine blk_drewN ?_ _ | refine blk_drew ?_ | refine blk_alloc ?_ _)); exact BK181.out) hb); have n3_ := Aside0.mk (Kept.below (S := (fun k_ => P0_ k_)) (by repeat (first | (with_reducible first | exact HK.out | apply Kept.alloc | apply Kept.drewN | apply Kept.drew | refine Kept.setCell ?_ (.inr GW181.out) _) | exact HK.out)) hb); have n4_ := Aside0.mk (below_step (by repeat (first | (with_reducible first | exact HB.out | apply below_alloc | apply pw_below_drewN | apply below_drew1 | refine below_set ?_ GE181.out) | exact HB.out)) hb); clear HO0; clear BK181; clear HK; clear HB; have HO0 := n0_; have HO184 := n1_; have BK181 := n2_; have HK := n3_; have HB := n4_; clear n0_ n1_ n2_ n3_ n4_; (try clear hb); (try clear hb2); (try clear hk); (try clear hi); (try clear ho0)))
 go_loopg [7] k (fun kq v7 w' => ∃ (x0_1 : List Bool) (x7_1 : Int), v7 = .int .i64 x7_1 ∧ Aside0 (spec_l07Note.l0 kq x0_1 l1 t182 x7_1 = some r) ∧ Aside0 (kq ≤ k) ∧ Aside0 (Kd.R Kd.bool 4 w' w0.heap.size (fun k_ => (P0_ k_ ∨ w.heap.size ≤ k_)) u9000_ x0_1) ∧ Aside0 (Kd.R (Kd.int .i64) 3 w' w0.heap.size (fun k_ => (P0_ k_ ∨ w.heap.size ≤ k_)) v183 t182) ∧ Aside0 (w'.heap[gb181]? = some (.cells #[.int .i64 a2_0, .int .i64 a2_1, .int .i64 a2_2] 30 (0, 0))) ∧ Aside0 (Kept w w' (fun k_ => P0_ k_)) ∧ Aside0 (Below w0.heap.size w0 w'))
 case atStart => exact ⟨(l0), (0), z5_13, H', ⟨Nat.le_refl _⟩, ⟨by (with_reducible repeat (first | apply Kd.R_alloc | apply Kd.R_drewN | apply Kd.R_drew)); exact HO0.out⟩, ⟨by (with_reducible repeat (first | apply Kd.R_alloc | apply Kd.R_drewN | apply Kd.R_drew)); exact Kd.R_mono HO184.out (fun _ hk => hk.1)⟩, ⟨by (with_reducible repeat (first | refine blk_drewN ?_ _ | refine blk_drew ?_ | refine blk_alloc ?_ _)); exact BK181.out⟩, ⟨by repeat (first | (with_reducible first | exact HK.out | apply Kept.alloc | apply Kept.drewN | apply Kept.drew | refine Kept.setCell ?_ (.inr GW181.out) _) | exact HK.out)⟩, ⟨by repeat (first | (with_reducible first | exact HB.out | apply below_alloc | apply pw_below_drewN | apply below_drew1 | refine below_set ?_ GE181.out) | exact HB.out)⟩⟩
 case round =>
  clear H'
  (try clear c1); (try clear hcz6_0); (try clear hcz6_1); (try clear hcz6_2); (try clear hfz6_0); (try clear hfz6_1); (try clear hfz6_2)
  obtain ⟨x0_1, x7_1, rfl, HA, HK1, HO_0, HO_6, BK181, HK, HB⟩ := hrel
  cases gk with
  | zero => exact absurd HA.out (by simp [spec_l07Note.l0])
  | succ k1 =>
   have H := HA.out
   clear HA
   simp only [spec_l07Note.l0] at H
   by_cases c8 : x7_1 < (t182.length : Int)
   ·rw [if_pos c8] at H
    have c8b0 : decide (x7_1 < (t182.length : Int)) = true := decide_eq_true c8
    clear c8
    by_cases c9 : 0 ≤ x7_1
    ·rw [if_pos c9] at H
     have c9b0 : decide (0 ≤ x7_1) = true := decide_eq_true c9
     clear c9
     by_cases c10 : 0 ≤ (rd t182 x7_1)
     ·rw [if_pos c10] at H
      have c10b0 : decide (0 ≤ (rd t182 x7_1)) = true := decide_eq_true c10
      clear c10
      by_cases c11 : (rd t182 x7_1) < (l1.length : Int)
      ·rw [if_pos c11] at H
       have c11b0 : decide ((rd t182 x7_1) < (l1.length : Int)) = true := decide_eq_true c11
       clear c11
       obtain ⟨bq12, hbq12⟩ : ∃ b_ : Bool, b_ = (rdOf false l1 (rd t182 x7_1)) := ⟨_, rfl⟩
       replace H : (if (bq12 = true) then (spec_l07Note.l0 k1 x0_1 l1 t182 (wrap64 (x7_1 + 1))) else (if (rd t182 x7_1) < (x0_1.length : Int) then (spec_l07Note.l0 k1 (x0_1.set ((rd t182 x7_1) : Int).toNat true) l1 t182 (wrap64 (x7_1 + 1))) else (none))) = some r := by rw [← hbq12] at H; exact H
       have Nbq12 := Aside0.mk hbq12
       clear hbq12
       by_cases c13 : (bq12 = true)
       ·subst c13
        have H1 : (spec_l07Note.l0 k1 x0_1 l1 t182 (wrap64 (x7_1 + 1))) = some r := by rw [if_pos rfl] at H; exact H
        clear H
        have H := H1
        clear H1
        have H' := Aside0.mk H
        clear H
        obtain ⟨Ao14, co14, eo14⟩ := Kd.R_slice HO_6.out
        subst eo14
        have p185 : 0 ≤ (x7_1 : Int) := of_decide_eq_true z5_7
        have q185 : x7_1 < (t182.length : Int) := of_decide_eq_true z5_7
        obtain ⟨ad185, e185, hx185_0⟩ := Kd.at_int (Kd.R_reads' HO_6.out).2.2 x7_1 p185 q185
        cases e185
        replace p185 := eq_true p185
        replace q185 := eq_true q185
        have p186 : 0 ≤ ((rd t182 x7_1) : Int) := of_decide_eq_true z5_7
        have q186 : (rd t182 x7_1) < (l1.length : Int) := of_decide_eq_true z5_7
        obtain ⟨ad186, e186, hx186_0⟩ := Kd.at_bool (Kd.C_kept_now HR1.out HK.out) (rd t182 x7_1) p186 q186
        (try rw [← Nbq12.out] at hx186_0)
        cases e186
        replace p186 := eq_true p186
        replace q186 := eq_true q186
        go_wp2
        go_roundg k1
        case measure => have := HK1.out; omega
        case rel => exact ⟨(x0_1), (wrap64 (x7_1 + 1)), z5_13, H', ⟨by have := HK1.out; omega⟩, ⟨by (with_reducible repeat (first | apply Kd.R_alloc | apply Kd.R_drewN | apply Kd.R_drew)); exact HO_0.out⟩, ⟨by (with_reducible repeat (first | apply Kd.R_alloc | apply Kd.R_drewN | apply Kd.R_drew)); exact HO_6.out⟩, ⟨by (with_reducible repeat (first | refine blk_drewN ?_ _ | refine blk_drew ?_ | refine blk_alloc ?_ _)); exact BK181.out⟩, ⟨by repeat (first | (with_reducible first | exact HK.out | apply Kept.alloc | apply Kept.drewN | apply Kept.drew | refine Kept.setCell ?_ (.inr GW181.out) _) | exact HK.out)⟩, ⟨by repeat (first | (with_reducible first | exact HB.out | apply below_alloc | apply pw_below_drewN | apply below_drew1 | refine below_set ?_ GE181.out) | exact HB.out)⟩⟩
       ·replace c13 := Bool.eq_false_iff.mpr c13
        subst c13
        have H1 : (if (rd t182 x7_1) < (x0_1.length : Int) then (spec_l07Note.l0 k1 (x0_1.set ((rd t182 x7_1) : Int).toNat true) l1 t182 (wrap64 (x7_1 + 1))) else (none)) = some r := by rw [if_neg (show ¬ (false = true) by decide)] at H; exact H
        clear H
        have H := H1
        clear H1
        by_cases c15 : (rd t182 x7_1) < (x0_1.length : Int)
        ·rw [if_pos c15] at H
         have c15b0 : decide ((rd t182 x7_1) < (x0_1.length : Int)) = true := decide_eq_true c15
         clear c15
         obtain ⟨y188, hy188⟩ : ∃ y_ : List Bool, y_ = (x0_1.set ((rd t182 x7_1) : Int).toNat true) := ⟨_, rfl⟩
         replace H : (spec_l07Note.l0 k1 y188 l1 t182 (wrap64 (x7_1 + 1))) = some r := by first | (rw [hy188]; with_reducible exact H) | (have H2_ := (Option.bind_some _ _).symm.trans H; rw [hy188]; with_reducible exact H2_) | (have H2_ := (Option.bind_some _ _).symm.trans H; with_reducible exact H2_) | with_reducible exact H | (rw [hy188]; exact H) | exact H
         have Ny188 := Aside0.mk hy188
         clear hy188
         have H' := Aside0.mk H
         clear H
         obtain ⟨Ao17, co17, eo17⟩ := Kd.R_slice HO_6.out
         subst eo17
         have p185 : 0 ≤ (x7_1 : Int) := of_decide_eq_true z5_7
         have q185 : x7_1 < (t182.length : Int) := of_decide_eq_true z5_7
         obtain ⟨ad185, e185, hx185_0⟩ := Kd.at_int (Kd.R_reads' HO_6.out).2.2 x7_1 p185 q185
         cases e185
         replace p185 := eq_true p185
         replace q185 := eq_true q185
         have p186 : 0 ≤ ((rd t182 x7_1) : Int) := of_decide_eq_true z5_7
         have q186 : (rd t182 x7_1) < (l1.length : Int) := of_decide_eq_true z5_7
         obtain ⟨ad186, e186, hx186_0⟩ := Kd.at_bool (Kd.C_kept_now HR1.out HK.out) (rd t182 x7_1) p186 q186
         (try rw [← Nbq12.out] at hx186_0)
         cases e186
         replace p186 := eq_true p186
         replace q186 := eq_true q186
         have p187 : 0 ≤ (x7_1 : Int) := of_decide_eq_true z5_7
         have q187 : x7_1 < (t182.length : Int) := of_decide_eq_true z5_7
         obtain ⟨ad187, e187, hx187_0⟩ := Kd.at_int (Kd.R_reads' HO_6.out).2.2 x7_1 p187 q187
         obtain rfl : ad185 = ad187 := (by injection e187)
         replace p187 := eq_true p187
         replace q187 := eq_true q187
         have p16 : 0 ≤ ((rd t182 x7_1) : Int) := of_decide_eq_true z5_7
         have q16 : ((rd t182 x7_1) : Int) < ((x0_1.length : Int) : Int) := of_decide_eq_true z5_7
         obtain ⟨go16, co16, eo16, gb16, gl16, cl16, HG16⟩ := Kd.R_form HO_0.out (by omega)
         (first | cases eo16 | (injection eo16 with ea_ en_ ec_; (first | subst ea_ | (injection ea_ with ea_; subst ea_)); subst ec_; clear en_))
         have GB16 := Aside0.mk gb16
         have GG16 := Aside0.mk HG16
         clear gb16 gl16 HG16
         have HMgo16 := Aside0.mk (show (P0_ go16 ∨ w.heap.size ≤ go16) from (HO_0.out.1 _ rfl))
         obtain ⟨hx16_0, hf16_0⟩ := Kd.R_celln false HO_0.out ((rd t182 x7_1) : Int) p16 q16
         replace p16 := eq_true p16
         replace q16 := eq_true q16
         have HP18 := Kd.R_putg HO_0.out ((rd t182 x7_1) : Int) true
         go_wp2_with (first | ((with_reducible refine gate_store (t := 4) (p := 29) rfl ?_); refine store_event (t := 4) (p := 29) (v := ?vo_w19) (w1 := (wr.setCell ⟨go16, ((rd t182 x7_1) : Int).toNat, none⟩ (.bool true))) ?hg ?ho ?hn ?hr ?_; (case ho => rfl); (case hg => rfl); (case hn => rfl); (case hr => exact z5_16); intro w19 hw; have hg : wr.grownBy w19 (some go16) := (by rw [hw]; exact HP18.2); have hp_ : Kd.R Kd.bool 4 w19 w0.heap.size (fun k_ => (P0_ k_ ∨ w.heap.size ≤ k_)) (.slice (some ⟨go16, 0, none⟩) x0_1.length co16) y188 := (by rw [hw, Ny188.out]; exact HP18.1); clear HP18; have n0_ := Aside0.mk (hp_); have n1_ := Aside0.mk (Kd.R_over' (v := (.slice (some ⟨go16, 0, none⟩) x0_1.length co16)) (by (with_reducible repeat (first | apply Kd.R_alloc | apply Kd.R_drewN | apply Kd.R_drew)); exact HO_6.out) (Kd.R_typed HO_0.out) (by decide) hg); have n2_ := Aside0.mk (blk_grown (g := gb181) (o := .cells #[.int .i64 a2_0, .int .i64 a2_1, .int .i64 a2_2] 30 (0, 0)) (by (with_reducible repeat (first | refine blk_drewN ?_ _ | refine blk_drew ?_ | refine blk_alloc ?_ _)); exact BK181.out) hg (Kd.R_ne HO_0.out BK181.out (by decide))); have n3_ := Aside0.mk ((by rw [hw]; exact below_set (HB.out) GB16.out : Below w0.heap.size w0 w19)); have n4_ := Aside0.mk (Kept.of_grown (S := (fun k_ => P0_ k_)) hg (by repeat (first | (with_reducible first | exact HK.out | apply Kept.alloc | apply Kept.drewN | apply Kept.drew | refine Kept.setCell ?_ (.inr GW181.out) _) | exact HK.out)) (fun k_ e_ => (HO_0.out.1 k_ e_))); clear HO_0; clear HO_6; clear BK181; clear HB; clear HK; have HO_0 := n0_; have HO_6 := n1_; have BK181 := n2_; have HB := n3_; have HK := n4_; clear n0_ n1_ n2_ n3_ n4_; clear hg hw hp_))
         go_roundg k1
         case measure => have := HK1.out; omega
         case rel => exact ⟨(y188), (wrap64 (x7_1 + 1)), z5_13, H', ⟨by have := HK1.out; omega⟩, ⟨by (with_reducible repeat (first | apply Kd.R_alloc | apply Kd.R_drewN | apply Kd.R_drew)); exact HO_0.out⟩, ⟨by (with_reducible repeat (first | apply Kd.R_alloc | apply Kd.R_drewN | apply Kd.R_drew)); exact HO_6.out⟩, ⟨by (with_reducible repeat (first | refine blk_drewN ?_ _ | refine blk_drew ?_ | refine blk_alloc ?_ _)); exact BK181.out⟩, ⟨by repeat (first | (with_reducible first | exact HK.out | apply Kept.alloc | apply Kept.drewN | apply Kept.drew | refine Kept.setCell ?_ (.inr GW181.out) _) | exact HK.out)⟩, ⟨by repeat (first | (with_reducible first | exact HB.out | apply below_alloc | apply pw_below_drewN | apply below_drew1 | refine below_set ?_ GE181.out) | exact HB.out)⟩⟩
        ·rw [if_neg c15] at H
         exact absurd H (by simp)
      ·rw [if_neg c11] at H
       exact absurd H (by simp)
     ·rw [if_neg c10] at H
      exact absurd H (by simp)
    ·rw [if_neg c9] at H
     exact absurd H (by simp)
   ·rw [if_neg c8] at H
    have c8b0 : decide (x7_1 < (t182.length : Int)) = false := decide_eq_false c8
    clear c8
    obtain rfl := Option.some.inj H
    obtain ⟨Ao20, co20, eo20⟩ := Kd.R_slice HO_6.out
    subst eo20
    go_wp2
    first | go_end0 | ((try simp only [Exit.inBlock, Exit.then]); refine bodyPost_ret (results_none rfl _ _ _) rfl ?_)
    exact ⟨by first | rfl | (simp [errW_none, errW_some] <;> rfl) | (simp [*, errW_none, errW_some] <;> rfl) | (simp [*, errW_none, errW_some, i64_w]; done), by (with_reducible repeat (first | apply Kd.R_alloc | apply Kd.R_drewN | apply Kd.R_drew)); exact HO_0.out, by repeat (first | (with_reducible first | exact HB.out | apply below_alloc | apply pw_below_drewN | apply below_drew1 | refine below_set ?_ GE181.out) | exact HB.out), by repeat (first | (with_reducible first | exact HK.out | apply Kept.alloc | apply Kept.drewN | apply Kept.drew | refine Kept.setCell ?_ (.inr GW181.out) _) | exact HK.out)⟩
/-! ### spec_l07Pass: function 62 -/
mutual
def spec_l07Pass.l0 : Nat → List (S55) → Int → List Bool → List Bool → Int → Option (List Bool × List Bool)
 | 0, _, _, _, _, _ => none
 | k + 1, x0, x2, x3, x4, x10 => if x10 < x2 then (if 0 ≤ x10 then (if x10 < (x0.length : Int) then (if ((rd_T55 x0 x10).f0) = 1 then ((spec_l07Note.f k x4 x3 ((rd_T55 x0 x10).f3.f0) ((rd_T55 x0 x10).f3.f1) ((rd_T55 x0 x10).f3.f2)).bind fun t191 => (if 0 ≤ ((rd_T55 x0 x10).f1) then (if ((rd_T55 x0 x10).f1) < (x3.length : Int) then (spec_l07Pass.l0 k x0 x2 (x3.set (((rd_T55 x0 x10).f1) : Int).toNat true) t191 (wrap64 (x10 + 1))) else (none)) else (none))) else (if ((rd_T55 x0 x10).f0) = 2 then (if 0 ≤ ((rd_T55 x0 x10).f1) then (if ((rd_T55 x0 x10).f1) < (x3.length : Int) then (spec_l07Pass.l0 k x0 x2 (x3.set (((rd_T55 x0 x10).f1) : Int).toNat true) x4 (wrap64 (x10 + 1))) else (none)) else (none)) else (if ((rd_T55 x0 x10).f0) = 3 then ((spec_l07Note.f k x4 x3 ((rd_T55 x0 x10).f3.f0) ((rd_T55 x0 x10).f3.f1) ((rd_T55 x0 x10).f3.f2)).bind fun t194 => (spec_l07Pass.l0 k x0 x2 x3 t194 (wrap64 (x10 + 1)))) else (if ((rd_T55 x0 x10).f0) = 4 then ((spec_l07Note.f k x4 x3 ((rd_T55 x0 x10).f3.f0) ((rd_T55 x0 x10).f3.f1) ((rd_T55 x0 x10).f3.f2)).bind fun t195 => ((spec_l05End.f k x0 x10).bind fun t196 => ((some (([] : List Bool) : List Bool)).bind fun y197 => (if y197.length + x3.length < 140737488355328 then ((spec_l07Pass.f k x0 (wrap64 (x10 + 1)) t196 (y197 ++ x3) t195).bind fun bt203 => (spec_l07Pass.l0 k x0 x2 x3 bt203.2 (wrap64 (t196 + 1)))) else (none))))) else (if ((rd_T55 x0 x10).f0) = 5 then ((spec_l05End.f k x0 x10).bind fun t205 => ((spec_l07Pass.f k x0 (wrap64 (x10 + 1)) t205 x3 x4).bind fun bt206 => (spec_l07Pass.l0 k x0 x2 bt206.1 bt206.2 (wrap64 (t205 + 1))))) else (spec_l07Pass.l0 k x0 x2 x3 x4 (wrap64 (x10 + 1)))))))) else (none)) else (none)) else (some (x3, x4))
def spec_l07Pass.f : Nat → List (S55) → Int → Int → List Bool → List Bool → Option (List Bool × List Bool)
 | 0, _, _, _, _, _ => none
 | k + 1, l0, a1, a2, l3, l4 => spec_l07Pass.l0 k l0 a2 l3 l4 a1
end
theorem spec_l07Pass.mono_l : ∀ k, (∀ y0 y1 y2 y3 y4, LeO (spec_l07Pass.f k y0 y1 y2 y3 y4) (spec_l07Pass.f (k + 1) y0 y1 y2 y3 y4)) ∧ (∀ y0 y1 y2 y3 y4, LeO (spec_l07Pass.l0 k y0 y1 y2 y3 y4) (spec_l07Pass.l0 (k + 1) y0 y1 y2 y3 y4))
 | 0 => ⟨fun _ _ _ _ _ r h => by simp [spec_l07Pass.f] at h, fun _ _ _ _ _ r h => by simp [spec_l07Pass.l0] at h⟩
 | k + 1 => by
  obtain ⟨ih0, ih1⟩ := spec_l07Pass.mono_l k
  refine ⟨?_, ?_⟩
  ·intro y0 y1 y2 y3 y4
   unfold spec_l07Pass.f
   repeat' first
   | (with_reducible exact ih0 _ _ _ _ _)
   | (with_reducible exact ih1 _ _ _ _ _)
   | (with_reducible exact spec_l05End.mono _ _ _)
   | (with_reducible exact spec_l07Note.mono _ _ _ _ _ _)
   | (with_reducible exact LeO.refl _)
   | (with_reducible exact LeO.none _)
   | (with_reducible refine LeO.ite ?_ ?_)
   | (with_reducible refine LeO.bind ?_ (fun _ => ?_))
   | exact ih0 _ _ _ _ _
   | exact ih1 _ _ _ _ _
   | exact spec_l05End.mono _ _ _
   | exact spec_l07Note.mono _ _ _ _ _ _
   | exact LeO.none _
   | refine LeO.ite ?_ ?_
   | refine LeO.bind ?_ (fun _ => ?_)
  ·intro y0 y1 y2 y3 y4
   unfold spec_l07Pass.l0
   repeat' first
   | (with_reducible exact ih0 _ _ _ _ _)
   | (with_reducible exact ih1 _ _ _ _ _)
   | (with_reducible exact spec_l05End.mono _ _ _)
   | (with_reducible exact spec_l07Note.mono _ _ _ _ _ _)
   | (with_reducible exact LeO.refl _)
   | (with_reducible exact LeO.none _)
   | (with_reducible refine LeO.ite ?_ ?_)
   | (with_reducible refine LeO.bind ?_ (fun _ => ?_))
   | exact ih0 _ _ _ _ _
   | exact ih1 _ _ _ _ _
   | exact spec_l05End.mono _ _ _
   | exact spec_l07Note.mono _ _ _ _ _ _
   | exact LeO.none _
   | refine LeO.ite ?_ ?_
   | refine LeO.bind ?_ (fun _ => ?_)
theorem spec_l07Pass.mono : ∀ a0 a1 a2 a3 a4 k, LeO (spec_l07Pass.f k a0 a1 a2 a3 a4) (spec_l07Pass.f (k + 1) a0 a1 a2 a3 a4) := by
 intro a0 a1 a2 a3 a4 k
 obtain ⟨ih0, ih1⟩ := spec_l07Pass.mono_l k
 exact ih0 a0 a1 a2 a3 a4
set_option maxHeartbeats 8000000 in
set_option maxRecDepth 100000 in
theorem spec_l07Pass.calls (k : Nat) : ∀ (A0 : Option Addr) (c0 : Nat) (l0 : List (S55)) (a1 : Int) (a2 : Int) (P3_ : Nat → Prop) (u9000_ : Value) (l3 : List Bool) (P4_ : Nat → Prop) (u9001_ : Value) (l4 : List Bool) (r1 : List Bool) (r2 : List Bool) (w0 w : World) (hB : Below w0.heap.size w0 w) (hr0 : ∀ W_, Kept w W_ (fun k_ => P3_ k_ ∨ P4_ k_) → Kd.C k55 W_ A0 l0.length l0) (hc0 : l0.length ≤ c0) (ho3 : Kd.R Kd.bool 4 w w0.heap.size P3_ u9000_ l3) (hp3_4 : ∀ k_, P3_ k_ → ¬ P4_ k_) (ho4 : Kd.R Kd.bool 4 w w0.heap.size P4_ u9001_ l4) (hp4_3 : ∀ k_, P4_ k_ → ¬ P3_ k_) (h : spec_l07Pass.f k l0 a1 a2 l3 l4 = some (r1, r2)),
  Calls Try.prog 62 #[.slice A0 l0.length c0, .int .i64 a1, .int .i64 a2, u9000_, u9001_] w fun e w' => e = .returned (.tuple #[]) ∧ Kd.R Kd.bool 4 w' w0.heap.size (fun k_ => ((P3_ k_ ∨ P4_ k_) ∨ w.heap.size ≤ k_)) u9000_ r1 ∧ Kd.R Kd.bool 4 w' w0.heap.size (fun k_ => ((P3_ k_ ∨ P4_ k_) ∨ w.heap.size ≤ k_)) u9001_ r2 ∧ Below w0.heap.size w0 w' ∧ Kept w w' (fun k_ => P3_ k_ ∨ P4_ k_) := by
 induction k using Nat.strongRecOn with
 | _ k ih =>
 intro A0 c0 l0 a1 a2 P3_ u9000_ l3 P4_ u9001_ l4 r1 r2 w0 w hB hr0 hc0 ho3 hp3_4 ho4 hp4_3 h
 cases k with
 | zero => exact absurd h (by simp [spec_l07Pass.f])
 | succ k =>
 simp only [spec_l07Pass.f] at h
 have hu55 := Try.underlying55
 have hu30 := Try.underlying30
 have HR0 := Aside0.mk hr0
 have HC0 := Aside0.mk hc0
 clear hr0 hc0
 have HO3 := Aside0.mk (show Kd.R Kd.bool 4 w w0.heap.size (fun k_ => ((P3_ k_ ∨ P4_ k_) ∨ w.heap.size ≤ k_) ∧ some k_ ≠ (u9001_ : Value).ownBlock) u9000_ l3 from Kd.R_mono ho3 (fun k_ hk => ⟨(.inl (.inl hk)), fun e_ => hp3_4 k_ hk (ho4.1 k_ e_.symm)⟩))
 have HO4 := Aside0.mk (show Kd.R Kd.bool 4 w w0.heap.size (fun k_ => ((P3_ k_ ∨ P4_ k_) ∨ w.heap.size ≤ k_) ∧ some k_ ≠ (u9000_ : Value).ownBlock) u9001_ l4 from Kd.R_mono ho4 (fun k_ hk => ⟨(.inl (.inr hk)), fun e_ => hp4_3 k_ hk (ho3.1 k_ e_.symm)⟩))
 have HK := Aside0.mk (Kept.refl w (fun k_ => P3_ k_ ∨ P4_ k_))
 have HW0 := Aside0.mk hB.size
 have HB := Aside0.mk hB
 clear hB
 have H : (spec_l07Pass.l0 k l0 a2 l3 l4 a1) = some (r1, r2) := h
 clear h
 have H' := Aside0.mk H
 clear H
 go_enter Try.func62, Try.ntmps62
 go_wp2
 go_loopg [10] k (fun kq v10 w' => ∃ (x3_1 : List Bool) (x4_1 : List Bool) (x10_1 : Int), v10 = .int .i64 x10_1 ∧ Aside0 (spec_l07Pass.l0 kq l0 a2 x3_1 x4_1 x10_1 = some (r1, r2)) ∧ Aside0 (kq ≤ k) ∧ Aside0 (Kd.R Kd.bool 4 w' w0.heap.size (fun k_ => ((P3_ k_ ∨ P4_ k_) ∨ w.heap.size ≤ k_) ∧ some k_ ≠ (u9001_ : Value).ownBlock) u9000_ x3_1) ∧ Aside0 (Kd.R Kd.bool 4 w' w0.heap.size (fun k_ => ((P3_ k_ ∨ P4_ k_) ∨ w.heap.size ≤ k_) ∧ some k_ ≠ (u9000_ : Value).ownBlock) u9001_ x4_1) ∧ Aside0 (Kept w w' (fun k_ => P3_ k_ ∨ P4_ k_)) ∧ Aside0 (Below w0.heap.size w0 w'))
 case atStart => exact ⟨(l3), (l4), (a1), z5_13, H', ⟨Nat.le_refl _⟩, ⟨by (with_reducible repeat (first | apply Kd.R_alloc | apply Kd.R_drewN | apply Kd.R_drew)); exact HO3.out⟩, ⟨by (with_reducible repeat (first | apply Kd.R_alloc | apply Kd.R_drewN | apply Kd.R_drew)); exact HO4.out⟩, ⟨by repeat (first | (with_reducible first | exact HK.out | apply Kept.alloc | apply Kept.drewN | apply Kept.drew) | exact HK.out)⟩, ⟨by repeat (first | (with_reducible first | exact HB.out | apply below_alloc | apply pw_below_drewN | apply below_drew1) | exact HB.out)⟩⟩
 case round =>
  clear H'
  obtain ⟨x3_1, x4_1, x10_1, rfl, HA, HK1, HO_3, HO_4, HK, HB⟩ := hrel
  cases gk with
  | zero => exact absurd HA.out (by simp [spec_l07Pass.l0])
  | succ k1 =>
   have H := HA.out
   clear HA
   simp only [spec_l07Pass.l0] at H
   by_cases c6 : x10_1 < a2
   ·rw [if_pos c6] at H
    have c6b0 : decide (x10_1 < a2) = true := decide_eq_true c6
    clear c6
    by_cases c7 : 0 ≤ x10_1
    ·rw [if_pos c7] at H
     have c7b0 : decide (0 ≤ x10_1) = true := decide_eq_true c7
     clear c7
     by_cases c8 : x10_1 < (l0.length : Int)
     ·rw [if_pos c8] at H
      have c8b0 : decide (x10_1 < (l0.length : Int)) = true := decide_eq_true c8
      clear c8
      by_cases c9 : ((rd_T55 l0 x10_1).f0) = 1
      ·rw [if_pos c9] at H
       have c9b0 : (((rd_T55 l0 x10_1).f0) == 1) = true := beq_iff_eq.mpr c9
       have c9b1 : (((rd_T55 l0 x10_1).f0) != 1) = false := bne_eq_false_iff_eq.mpr c9
       clear c9
       replace H := Option.bind_eq_some_iff.mp H
       obtain ⟨t191, A100, H⟩ := H
       replace H : (if 0 ≤ ((rd_T55 l0 x10_1).f1) then (if ((rd_T55 l0 x10_1).f1) < (x3_1.length : Int) then (spec_l07Pass.l0 k1 l0 a2 (x3_1.set (((rd_T55 l0 x10_1).f1) : Int).toNat true) t191 (wrap64 (x10_1 + 1))) else (none)) else (none)) = some (r1, r2) := H
       have A10 := Aside0.mk A100
       clear A100
       by_cases c11 : 0 ≤ ((rd_T55 l0 x10_1).f1)
       ·rw [if_pos c11] at H
        have c11b0 : decide (0 ≤ ((rd_T55 l0 x10_1).f1)) = true := decide_eq_true c11
        clear c11
        by_cases c12 : ((rd_T55 l0 x10_1).f1) < (x3_1.length : Int)
        ·rw [if_pos c12] at H
         have c12b0 : decide (((rd_T55 l0 x10_1).f1) < (x3_1.length : Int)) = true := decide_eq_true c12
         clear c12
         obtain ⟨y192, hy192⟩ : ∃ y_ : List Bool, y_ = (x3_1.set (((rd_T55 l0 x10_1).f1) : Int).toNat true) := ⟨_, rfl⟩
         replace H : (spec_l07Pass.l0 k1 l0 a2 y192 t191 (wrap64 (x10_1 + 1))) = some (r1, r2) := by first | (rw [hy192]; with_reducible exact H) | (have H2_ := (Option.bind_some _ _).symm.trans H; rw [hy192]; with_reducible exact H2_) | (have H2_ := (Option.bind_some _ _).symm.trans H; with_reducible exact H2_) | with_reducible exact H | (rw [hy192]; exact H) | exact H
         have Ny192 := Aside0.mk hy192
         clear hy192
         have H' := Aside0.mk H
         clear H
         have p189 : 0 ≤ (x10_1 : Int) := of_decide_eq_true z5_7
         have q189 : x10_1 < (l0.length : Int) := of_decide_eq_true z5_7
         obtain ⟨ad189, e189, hx189_0, hx189_1, hx189_2, hx189_3, hx189_4, hx189_5⟩ := at_T55 (Kd.C_kept_now HR0.out HK.out) x10_1 p189 q189
         cases e189
         replace p189 := eq_true p189
         replace q189 := eq_true q189
         go_wp2_with (first | ((with_reducible refine gate_dst (N := 11) rfl ?_); refine box_event ?hg (N := 11) ?hd (cs := #[.int .i64 0, .int .i64 0, .int .i64 0, .int .i64 0, .int .i64 0, .int .i64 0]) (t := 55) ?hr ?_; (case hd => rfl); (case hg => rfl); (case hr => exact z5_16); intro gb190 hg w14 hbox hb; have n0_ := Aside0.mk (Kd.R_below z5_6 hb); have n1_ := Aside0.mk (Kd.R_below z5_10 hb); have n2_ := Aside0.mk (Kept.below (S := (fun k_ => P3_ k_ ∨ P4_ k_)) z5_17 hb); have n3_ := Aside0.mk (below_step z5_3 hb); have n4_ := Aside0.mk (hbox); have n5_ := Aside0.mk ((z5_12 : w.heap.size ≤ gb190)); have n6_ := Aside0.mk ((z5_22 : w0.heap.size ≤ gb190)); clear HO_3; clear HO_4; clear HK; clear HB; have HO_3 := n0_; have HO_4 := n1_; have HK := n2_; have HB := n3_; have BK190 := n4_; have GW190 := n5_; have GE190 := n6_; clear n0_ n1_ n2_ n3_ n4_ n5_ n6_; clear hb hbox hg; have hcz15_0 : w14.cell? ⟨gb190, 0, none⟩ = some (.int .i64 0) := (blk_cell BK190.out 0).trans rfl; have hcz15_1 : w14.cell? ⟨gb190, 1, none⟩ = some (.int .i64 0) := (blk_cell BK190.out 1).trans rfl; have hcz15_2 : w14.cell? ⟨gb190, 2, none⟩ = some (.int .i64 0) := (blk_cell BK190.out 2).trans rfl; have hcz15_3 : w14.cell? ⟨gb190, 3, none⟩ = some (.int .i64 0) := (blk_cell BK190.out 3).trans rfl; have hcz15_4 : w14.cell? ⟨gb190, 4, none⟩ = some (.int .i64 0) := (blk_cell BK190.out 4).trans rfl; have hcz15_5 : w14.cell? ⟨gb190, 5, none⟩ = some (.int .i64 0) := (blk_cell BK190.out 5).trans rfl; have hfz15_0 := blk_frozen BK190.out 0; have hfz15_1 := blk_frozen BK190.out 1; have hfz15_2 := blk_frozen BK190.out 2; have hfz15_3 := blk_frozen BK190.out 3; have hfz15_4 := blk_frozen BK190.out 4; have hfz15_5 := blk_frozen BK190.out 5) | ((with_reducible refine gate_store (t := 55) (p := 11) rfl ?_); refine store_event (t := 55) (p := 11) (v := ?vo_w16) (w1 := ((((((w14.setCell ⟨gb190, 0, none⟩ (.int .i64 ((rd_T55 l0 x10_1).f0))).setCell ⟨gb190, 1, none⟩ (.int .i64 ((rd_T55 l0 x10_1).f1))).setCell ⟨gb190, 2, none⟩ (.int .i64 ((rd_T55 l0 x10_1).f2))).setCell ⟨gb190, 3, none⟩ (.int .i64 ((rd_T55 l0 x10_1).f3.f0))).setCell ⟨gb190, 4, none⟩ (.int .i64 ((rd_T55 l0 x10_1).f3.f1))).setCell ⟨gb190, 5, none⟩ (.int .i64 ((rd_T55 l0 x10_1).f3.f2)))) ?hg ?ho ?hn ?hr ?_; (case ho => rfl); (case hg => rfl); (case hn => rfl); (case hr => exact z5_16); intro w16 hw; have n0_ : Aside0 (Kd.R Kd.bool 4 w16 w0.heap.size (fun k_ => ((P3_ k_ ∨ P4_ k_) ∨ w.heap.size ≤ k_) ∧ some k_ ≠ (u9001_ : Value).ownBlock) u9000_ x3_1) := ⟨z5_2⟩; have n1_ : Aside0 (Kd.R Kd.bool 4 w16 w0.heap.size (fun k_ => ((P3_ k_ ∨ P4_ k_) ∨ w.heap.size ≤ k_) ∧ some k_ ≠ (u9000_ : Value).ownBlock) u9001_ x4_1) := ⟨z5_1⟩; have n2_ : Aside0 (w16.heap[gb190]? = some (.cells #[.int .i64 ((rd_T55 l0 x10_1).f0), .int .i64 ((rd_T55 l0 x10_1).f1), .int .i64 ((rd_T55 l0 x10_1).f2), .int .i64 ((rd_T55 l0 x10_1).f3.f0), .int .i64 ((rd_T55 l0 x10_1).f3.f1), .int .i64 ((rd_T55 l0 x10_1).f3.f2)] 55 (0, 0))) := ⟨z5_0⟩; have n3_ : Aside0 (Kept w w16 (fun k_ => P3_ k_ ∨ P4_ k_)) := ⟨(by rw [hw]; exact z5_4)⟩; have n4_ : Aside0 (Below w0.heap.size w0 w16) := ⟨(by rw [hw]; exact z5_5)⟩; clear hw; clear HO_3; clear HO_4; clear BK190; clear HK; clear HB; have HO_3 := n0_; have HO_4 := n1_; have BK190 := n2_; have HK := n3_; have HB := n4_; clear n0_ n1_ n2_ n3_ n4_; have hcz17_0 : w16.cell? ⟨gb190, 0, none⟩ = some (.int .i64 ((rd_T55 l0 x10_1).f0)) := (blk_cell BK190.out 0).trans rfl; have hcz17_1 : w16.cell? ⟨gb190, 1, none⟩ = some (.int .i64 ((rd_T55 l0 x10_1).f1)) := (blk_cell BK190.out 1).trans rfl; have hcz17_2 : w16.cell? ⟨gb190, 2, none⟩ = some (.int .i64 ((rd_T55 l0 x10_1).f2)) := (blk_cell BK190.out 2).trans rfl; have hcz17_3 : w16.cell? ⟨gb190, 3, none⟩ = some (.int .i64 ((rd_T55 l0 x10_1).f3.f0)) := (blk_cell BK190.out 3).trans rfl; have hcz17_4 : w16.cell? ⟨gb190, 4, none⟩ = some (.int .i64 ((rd_T55 l0 x10_1).f3.f1)) := (blk_cell BK190.out 4).trans rfl; have hcz17_5 : w16.cell? ⟨gb190, 5, none⟩ = some (.int .i64 ((rd_T55 l0 x10_1).f3.f2)) := (blk_cell BK190.out 5).trans rfl; have hfz17_0 := blk_frozen BK190.out 0; have hfz17_1 := blk_frozen BK190.out 1; have hfz17_2 := blk_frozen BK190.out 2; have hfz17_3 := blk_frozen BK190.out 3; have hfz17_4 := blk_frozen BK190.out 4; have hfz17_5 := blk_frozen BK190.out 5; obtain ⟨Ao18, co18, eo18⟩ := Kd.R_slice HO_4.out; subst eo18; obtain ⟨Ao19, co19, eo19⟩ := Kd.R_slice HO_3.out; subst eo19) | ((with_reducible refine gate_callee (f := 63) rfl ?_); refine goesL_ (some 32) rfl rfl Try.func63 (by kernel_rfl) rfl #[.slice Ao18 x4_1.length co18, .slice Ao19 x3_1.length co19, .agg #[.int .i64 ((rd_T55 l0 x10_1).f3.f0), .int .i64 ((rd_T55 l0 x10_1).f3.f1), .int .i64 ((rd_T55 l0 x10_1).f3.f2)]] rfl z5_9 ?_; (with_reducible refine (spec_l07Note.calls k1 (fun k_ => some k_ = (.slice Ao18 x4_1.length co18 : Value).ownBlock) (.slice Ao18 x4_1.length co18) x4_1 _ _ x3_1 ((rd_T55 l0 x10_1).f3.f0) ((rd_T55 l0 x10_1).f3.f1) ((rd_T55 l0 x10_1).f3.f2) t191 w0 _ ?side1 ?side2 ?side3 ?side4 A10.out).mono ?_); (case side1 => exact z5_5); (case side2 => exact Kd.R_tight rfl HO_4.out); (case side3 => exact z5_19); (case side4 => exact (Kd.R_reads' HO_3.out).2.1); rintro e w20 ⟨rfl, hy0, hb, hkp⟩; refine ⟨_, rfl, ?_⟩; have n0_ := Aside0.mk (Kd.R_mono (ok' := fun k_ => ((P3_ k_ ∨ P4_ k_) ∨ w.heap.size ≤ k_) ∧ some k_ ≠ (.slice Ao18 x4_1.length co18 : Value).ownBlock) (Kd.R_keptB (HO_3.out) hkp (fun k_ hk_ hs_ => (hk_.2) hs_)) (fun k_ hk_ => ⟨hk_.1.1, hk_.1.2⟩)); have n1_ := Aside0.mk (Kd.R_reok rfl hy0 (fun k_ e_ => HO_4.out.1 k_ e_)); have n2_ := Aside0.mk (blk_kept z5_11 hkp (fun hs_ => (fun e_ => (Kd.R_ne HO_4.out BK190.out (by decide)) e_) hs_)); have n3_ := Aside0.mk (Kept.then_ (S := (fun k_ => P3_ k_ ∨ P4_ k_)) z5_4 hkp (fun k_ hs_ => (fun e_ => (HO_4.out.1 k_ e_.symm).1) hs_)); have n4_ := Aside0.mk (hb); clear HO_3; clear HO_4; clear BK190; clear HK; clear HB; have HO_3 := n0_; have HO_4 := n1_; have BK190 := n2_; have HK := n3_; have HB := n4_; clear n0_ n1_ n2_ n3_ n4_; (try clear hb); (try clear hkp); (try clear hy0); have hcz21_0 : w20.cell? ⟨gb190, 0, none⟩ = some (.int .i64 ((rd_T55 l0 x10_1).f0)) := (blk_cell BK190.out 0).trans rfl; have hcz21_1 : w20.cell? ⟨gb190, 1, none⟩ = some (.int .i64 ((rd_T55 l0 x10_1).f1)) := (blk_cell BK190.out 1).trans rfl; have hcz21_2 : w20.cell? ⟨gb190, 2, none⟩ = some (.int .i64 ((rd_T55 l0 x10_1).f2)) := (blk_cell BK190.out 2).trans rfl; have hcz21_3 : w20.cell? ⟨gb190, 3, none⟩ = some (.int .i64 ((rd_T55 l0 x10_1).f3.f0)) := (blk_cell BK190.out 3).trans rfl; have hcz21_4 : w20.cell? ⟨gb190, 4, none⟩ = some (.int .i64 ((rd_T55 l0 x10_1).f3.f1)) := (blk_cell BK190.out 4).trans rfl; have hcz21_5 : w20.cell? ⟨gb190, 5, none⟩ = some (.int .i64 ((rd_T55 l0 x10_1).f3.f2)) := (blk_cell BK190.out 5).trans rfl; have hfz21_0 := blk_frozen BK190.out 0; have hfz21_1 := blk_frozen BK190.out 1; have hfz21_2 := blk_frozen BK190.out 2; have hfz21_3 := blk_frozen BK190.out 3; have hfz21_4 := blk_frozen BK190.out 4; have hfz21_5 := blk_frozen BK190.out 5; have p13 : 0 ≤ (((rd_T55 l0 x10_1).f1) : Int) := of_decide_eq_true z5_7; have q13 : (((rd_T55 l0 x10_1).f1) : Int) < ((x3_1.length : Int) : Int) := of_decide_eq_true z5_7; obtain ⟨go13, co13, eo13, gb13, gl13, cl13, HG13⟩ := Kd.R_form HO_3.out (by omega); (first | cases eo13 | (injection eo13 with ea_ en_ ec_; (first | subst ea_ | (injection ea_ with ea_; subst ea_)); subst ec_; clear en_)); have GB13 := Aside0.mk gb13; have GG13 := Aside0.mk HG13; clear gb13 gl13 HG13; have HMgo13 := Aside0.mk (show ((P3_ go13 ∨ P4_ go13) ∨ w.heap.size ≤ go13) from (HO_3.out.1 _ rfl).1); obtain ⟨hx13_0, hf13_0⟩ := Kd.R_celln false HO_3.out (((rd_T55 l0 x10_1).f1) : Int) p13 q13; replace p13 := eq_true p13; replace q13 := eq_true q13; obtain ⟨hy22_, hz22_⟩ := Kd.R_celln false HO_3.out (((rd_T55 l0 x10_1).f1) : Int) (of_decide_eq_true z5_7) (of_decide_eq_true z5_7); have HP22 := Kd.R_putg HO_3.out (((rd_T55 l0 x10_1).f1) : Int) true) | ((with_reducible refine gate_store (t := 4) (p := 36) rfl ?_); refine store_event (t := 4) (p := 36) (v := ?vo_w23) (w1 := (w20.setCell ⟨go13, (((rd_T55 l0 x10_1).f1) : Int).toNat, none⟩ (.bool true))) ?hg ?ho ?hn ?hr ?_; (case ho => rfl); (case hg => rfl); (case hn => rfl); (case hr => exact z5_16); intro w23 hw; have hg : w20.grownBy w23 (some go13) := (by rw [hw]; exact HP22.2); have hp_ : Kd.R Kd.bool 4 w23 w0.heap.size (fun k_ => ((P3_ k_ ∨ P4_ k_) ∨ w.heap.size ≤ k_) ∧ some k_ ≠ (.slice Ao18 x4_1.length co18 : Value).ownBlock) (.slice (some ⟨go13, 0, none⟩) x3_1.length co19) y192 := (by rw [hw, Ny192.out]; exact HP22.1); clear HP22; have n0_ := Aside0.mk (hp_); have n1_ := Aside0.mk (Kd.R_after (v := (.slice (some ⟨go13, 0, none⟩) x3_1.length co19)) (v1 := (.slice (some ⟨go13, 0, none⟩) x3_1.length co19)) (ok := (fun k_ => ((P3_ k_ ∨ P4_ k_) ∨ w.heap.size ≤ k_))) z5_10 hg (.inl rfl)); have n2_ := Aside0.mk (blk_grown (g := gb190) (o := .cells #[.int .i64 ((rd_T55 l0 x10_1).f0), .int .i64 ((rd_T55 l0 x10_1).f1), .int .i64 ((rd_T55 l0 x10_1).f2), .int .i64 ((rd_T55 l0 x10_1).f3.f0), .int .i64 ((rd_T55 l0 x10_1).f3.f1), .int .i64 ((rd_T55 l0 x10_1).f3.f2)] 55 (0, 0)) z5_11 hg (Kd.R_ne HO_3.out BK190.out (by decide))); have n3_ := Aside0.mk ((by rw [hw]; exact below_set (HB.out) GB13.out : Below w0.heap.size w0 w23)); have n4_ := Aside0.mk (Kept.of_grown (S := (fun k_ => P3_ k_ ∨ P4_ k_)) hg z5_4 (fun k_ e_ => (HO_3.out.1 k_ e_).1)); clear HO_3; clear HO_4; clear BK190; clear HB; clear HK; have HO_3 := n0_; have HO_4 := n1_; have BK190 := n2_; have HB := n3_; have HK := n4_; clear n0_ n1_ n2_ n3_ n4_; clear hg hw hp_))
         go_roundg k1
         case measure => have := HK1.out; omega
         case rel => exact ⟨(y192), (t191), (wrap64 (x10_1 + 1)), z5_13, H', ⟨by have := HK1.out; omega⟩, ⟨by (with_reducible repeat (first | apply Kd.R_alloc | apply Kd.R_drewN | apply Kd.R_drew)); exact HO_3.out⟩, ⟨by (with_reducible repeat (first | apply Kd.R_alloc | apply Kd.R_drewN | apply Kd.R_drew)); exact HO_4.out⟩, ⟨by repeat (first | (with_reducible first | exact HK.out | apply Kept.alloc | apply Kept.drewN | apply Kept.drew | refine Kept.setCell ?_ (.inr GW190.out) _) | exact HK.out)⟩, ⟨by repeat (first | (with_reducible first | exact HB.out | apply below_alloc | apply pw_below_drewN | apply below_drew1 | refine below_set ?_ GE190.out) | exact HB.out)⟩⟩
        ·rw [if_neg c12] at H
         exact absurd H (by simp)
       ·rw [if_neg c11] at H
        exact absurd H (by simp)
      ·rw [if_neg c9] at H
       have c9b0 : (((rd_T55 l0 x10_1).f0) == 1) = false := beq_eq_false_iff_ne.mpr c9
       have c9b1 : (((rd_T55 l0 x10_1).f0) != 1) = true := bne_iff_ne.mpr c9
       by_cases c24 : ((rd_T55 l0 x10_1).f0) = 2
       ·rw [if_pos c24] at H
        have c24b0 : (((rd_T55 l0 x10_1).f0) == 2) = true := beq_iff_eq.mpr c24
        have c24b1 : (((rd_T55 l0 x10_1).f0) != 2) = false := bne_eq_false_iff_eq.mpr c24
        clear c24
        by_cases c25 : 0 ≤ ((rd_T55 l0 x10_1).f1)
        ·rw [if_pos c25] at H
         have c25b0 : decide (0 ≤ ((rd_T55 l0 x10_1).f1)) = true := decide_eq_true c25
         clear c25
         by_cases c26 : ((rd_T55 l0 x10_1).f1) < (x3_1.length : Int)
         ·rw [if_pos c26] at H
          have c26b0 : decide (((rd_T55 l0 x10_1).f1) < (x3_1.length : Int)) = true := decide_eq_true c26
          clear c26
          obtain ⟨y193, hy193⟩ : ∃ y_ : List Bool, y_ = (x3_1.set (((rd_T55 l0 x10_1).f1) : Int).toNat true) := ⟨_, rfl⟩
          replace H : (spec_l07Pass.l0 k1 l0 a2 y193 x4_1 (wrap64 (x10_1 + 1))) = some (r1, r2) := by first | (rw [hy193]; with_reducible exact H) | (have H2_ := (Option.bind_some _ _).symm.trans H; rw [hy193]; with_reducible exact H2_) | (have H2_ := (Option.bind_some _ _).symm.trans H; with_reducible exact H2_) | with_reducible exact H | (rw [hy193]; exact H) | exact H
          have Ny193 := Aside0.mk hy193
          clear hy193
          have H' := Aside0.mk H
          clear H
          have p189 : 0 ≤ (x10_1 : Int) := of_decide_eq_true z5_7
          have q189 : x10_1 < (l0.length : Int) := of_decide_eq_true z5_7
          obtain ⟨ad189, e189, hx189_0, hx189_1, hx189_2, hx189_3, hx189_4, hx189_5⟩ := at_T55 (Kd.C_kept_now HR0.out HK.out) x10_1 p189 q189
          cases e189
          replace p189 := eq_true p189
          replace q189 := eq_true q189
          go_wp2_with (first | ((with_reducible refine gate_dst (N := 11) rfl ?_); refine box_event ?hg (N := 11) ?hd (cs := #[.int .i64 0, .int .i64 0, .int .i64 0, .int .i64 0, .int .i64 0, .int .i64 0]) (t := 55) ?hr ?_; (case hd => rfl); (case hg => rfl); (case hr => exact z5_16); intro gb190 hg w28 hbox hb; have n0_ := Aside0.mk (Kd.R_below z5_6 hb); have n1_ := Aside0.mk (Kd.R_below z5_10 hb); have n2_ := Aside0.mk (Kept.below (S := (fun k_ => P3_ k_ ∨ P4_ k_)) z5_17 hb); have n3_ := Aside0.mk (below_step z5_3 hb); have n4_ := Aside0.mk (hbox); have n5_ := Aside0.mk ((z5_12 : w.heap.size ≤ gb190)); have n6_ := Aside0.mk ((z5_22 : w0.heap.size ≤ gb190)); clear HO_3; clear HO_4; clear HK; clear HB; have HO_3 := n0_; have HO_4 := n1_; have HK := n2_; have HB := n3_; have BK190 := n4_; have GW190 := n5_; have GE190 := n6_; clear n0_ n1_ n2_ n3_ n4_ n5_ n6_; clear hb hbox hg; have hcz29_0 : w28.cell? ⟨gb190, 0, none⟩ = some (.int .i64 0) := (blk_cell BK190.out 0).trans rfl; have hcz29_1 : w28.cell? ⟨gb190, 1, none⟩ = some (.int .i64 0) := (blk_cell BK190.out 1).trans rfl; have hcz29_2 : w28.cell? ⟨gb190, 2, none⟩ = some (.int .i64 0) := (blk_cell BK190.out 2).trans rfl; have hcz29_3 : w28.cell? ⟨gb190, 3, none⟩ = some (.int .i64 0) := (blk_cell BK190.out 3).trans rfl; have hcz29_4 : w28.cell? ⟨gb190, 4, none⟩ = some (.int .i64 0) := (blk_cell BK190.out 4).trans rfl; have hcz29_5 : w28.cell? ⟨gb190, 5, none⟩ = some (.int .i64 0) := (blk_cell BK190.out 5).trans rfl; have hfz29_0 := blk_frozen BK190.out 0; have hfz29_1 := blk_frozen BK190.out 1; have hfz29_2 := blk_frozen BK190.out 2; have hfz29_3 := blk_frozen BK190.out 3; have hfz29_4 := blk_frozen BK190.out 4; have hfz29_5 := blk_frozen BK190.out 5) | ((with_reducible refine gate_store (t := 55) (p := 11) rfl ?_); refine store_event (t := 55) (p := 11) (v := ?vo_w30) (w1 := ((((((w28.setCell ⟨gb190, 0, none⟩ (.int .i64 ((rd_T55 l0 x10_1).f0))).setCell ⟨gb190, 1, none⟩ (.int .i64 ((rd_T55 l0 x10_1).f1))).setCell ⟨gb190, 2, none⟩ (.int .i64 ((rd_T55 l0 x10_1).f2))).setCell ⟨gb190, 3, none⟩ (.int .i64 ((rd_T55 l0 x10_1).f3.f0))).setCell ⟨gb190, 4, none⟩ (.int .i64 ((rd_T55 l0 x10_1).f3.f1))).setCell ⟨gb190, 5, none⟩ (.int .i64 ((rd_T55 l0 x10_1).f3.f2)))) ?hg ?ho ?hn ?hr ?_; (case ho => rfl); (case hg => rfl); (case hn => rfl); (case hr => exact z5_16); intro w30 hw; have n0_ : Aside0 (Kd.R Kd.bool 4 w30 w0.heap.size (fun k_ => ((P3_ k_ ∨ P4_ k_) ∨ w.heap.size ≤ k_) ∧ some k_ ≠ (u9001_ : Value).ownBlock) u9000_ x3_1) := ⟨z5_2⟩; have n1_ : Aside0 (Kd.R Kd.bool 4 w30 w0.heap.size (fun k_ => ((P3_ k_ ∨ P4_ k_) ∨ w.heap.size ≤ k_) ∧ some k_ ≠ (u9000_ : Value).ownBlock) u9001_ x4_1) := ⟨z5_1⟩; have n2_ : Aside0 (w30.heap[gb190]? = some (.cells #[.int .i64 ((rd_T55 l0 x10_1).f0), .int .i64 ((rd_T55 l0 x10_1).f1), .int .i64 ((rd_T55 l0 x10_1).f2), .int .i64 ((rd_T55 l0 x10_1).f3.f0), .int .i64 ((rd_T55 l0 x10_1).f3.f1), .int .i64 ((rd_T55 l0 x10_1).f3.f2)] 55 (0, 0))) := ⟨z5_0⟩; have n3_ : Aside0 (Kept w w30 (fun k_ => P3_ k_ ∨ P4_ k_)) := ⟨(by rw [hw]; exact z5_4)⟩; have n4_ : Aside0 (Below w0.heap.size w0 w30) := ⟨(by rw [hw]; exact z5_5)⟩; clear hw; clear HO_3; clear HO_4; clear BK190; clear HK; clear HB; have HO_3 := n0_; have HO_4 := n1_; have BK190 := n2_; have HK := n3_; have HB := n4_; clear n0_ n1_ n2_ n3_ n4_; have hcz31_0 : w30.cell? ⟨gb190, 0, none⟩ = some (.int .i64 ((rd_T55 l0 x10_1).f0)) := (blk_cell BK190.out 0).trans rfl; have hcz31_1 : w30.cell? ⟨gb190, 1, none⟩ = some (.int .i64 ((rd_T55 l0 x10_1).f1)) := (blk_cell BK190.out 1).trans rfl; have hcz31_2 : w30.cell? ⟨gb190, 2, none⟩ = some (.int .i64 ((rd_T55 l0 x10_1).f2)) := (blk_cell BK190.out 2).trans rfl; have hcz31_3 : w30.cell? ⟨gb190, 3, none⟩ = some (.int .i64 ((rd_T55 l0 x10_1).f3.f0)) := (blk_cell BK190.out 3).trans rfl; have hcz31_4 : w30.cell? ⟨gb190, 4, none⟩ = some (.int .i64 ((rd_T55 l0 x10_1).f3.f1)) := (blk_cell BK190.out 4).trans rfl; have hcz31_5 : w30.cell? ⟨gb190, 5, none⟩ = some (.int .i64 ((rd_T55 l0 x10_1).f3.f2)) := (blk_cell BK190.out 5).trans rfl; have hfz31_0 := blk_frozen BK190.out 0; have hfz31_1 := blk_frozen BK190.out 1; have hfz31_2 := blk_frozen BK190.out 2; have hfz31_3 := blk_frozen BK190.out 3; have hfz31_4 := blk_frozen BK190.out 4; have hfz31_5 := blk_frozen BK190.out 5; have p27 : 0 ≤ (((rd_T55 l0 x10_1).f1) : Int) := of_decide_eq_true z5_7; have q27 : (((rd_T55 l0 x10_1).f1) : Int) < ((x3_1.length : Int) : Int) := of_decide_eq_true z5_7; obtain ⟨go27, co27, eo27, gb27, gl27, cl27, HG27⟩ := Kd.R_form HO_3.out (by omega); (first | cases eo27 | (injection eo27 with ea_ en_ ec_; (first | subst ea_ | (injection ea_ with ea_; subst ea_)); subst ec_; clear en_)); have GB27 := Aside0.mk gb27; have GG27 := Aside0.mk HG27; clear gb27 gl27 HG27; have HMgo27 := Aside0.mk (show ((P3_ go27 ∨ P4_ go27) ∨ w.heap.size ≤ go27) from (HO_3.out.1 _ rfl).1); obtain ⟨hx27_0, hf27_0⟩ := Kd.R_celln false HO_3.out (((rd_T55 l0 x10_1).f1) : Int) p27 q27; replace p27 := eq_true p27; replace q27 := eq_true q27; obtain ⟨hy32_, hz32_⟩ := Kd.R_celln false HO_3.out (((rd_T55 l0 x10_1).f1) : Int) (of_decide_eq_true z5_7) (of_decide_eq_true z5_7); have HP32 := Kd.R_putg HO_3.out (((rd_T55 l0 x10_1).f1) : Int) true) | ((with_reducible refine gate_store (t := 4) (p := 42) rfl ?_); refine store_event (t := 4) (p := 42) (v := ?vo_w33) (w1 := (w30.setCell ⟨go27, (((rd_T55 l0 x10_1).f1) : Int).toNat, none⟩ (.bool true))) ?hg ?ho ?hn ?hr ?_; (case ho => rfl); (case hg => rfl); (case hn => rfl); (case hr => exact z5_16); intro w33 hw; have hg : w30.grownBy w33 (some go27) := (by rw [hw]; exact HP32.2); have hp_ : Kd.R Kd.bool 4 w33 w0.heap.size (fun k_ => ((P3_ k_ ∨ P4_ k_) ∨ w.heap.size ≤ k_) ∧ some k_ ≠ (u9001_ : Value).ownBlock) (.slice (some ⟨go27, 0, none⟩) x3_1.length co27) y193 := (by rw [hw, Ny193.out]; exact HP32.1); clear HP32; have n0_ := Aside0.mk (hp_); have n1_ := Aside0.mk (Kd.R_after (v := (.slice (some ⟨go27, 0, none⟩) x3_1.length co27)) (v1 := (.slice (some ⟨go27, 0, none⟩) x3_1.length co27)) (ok := (fun k_ => ((P3_ k_ ∨ P4_ k_) ∨ w.heap.size ≤ k_))) z5_10 hg (.inl rfl)); have n2_ := Aside0.mk (blk_grown (g := gb190) (o := .cells #[.int .i64 ((rd_T55 l0 x10_1).f0), .int .i64 ((rd_T55 l0 x10_1).f1), .int .i64 ((rd_T55 l0 x10_1).f2), .int .i64 ((rd_T55 l0 x10_1).f3.f0), .int .i64 ((rd_T55 l0 x10_1).f3.f1), .int .i64 ((rd_T55 l0 x10_1).f3.f2)] 55 (0, 0)) z5_11 hg (Kd.R_ne HO_3.out BK190.out (by decide))); have n3_ := Aside0.mk ((by rw [hw]; exact below_set (HB.out) GB27.out : Below w0.heap.size w0 w33)); have n4_ := Aside0.mk (Kept.of_grown (S := (fun k_ => P3_ k_ ∨ P4_ k_)) hg z5_4 (fun k_ e_ => (HO_3.out.1 k_ e_).1)); clear HO_3; clear HO_4; clear BK190; clear HB; clear HK; have HO_3 := n0_; have HO_4 := n1_; have BK190 := n2_; have HB := n3_; have HK := n4_; clear n0_ n1_ n2_ n3_ n4_; clear hg hw hp_))
          go_roundg k1
          case measure => have := HK1.out; omega
          case rel => exact ⟨(y193), (x4_1), (wrap64 (x10_1 + 1)), z5_13, H', ⟨by have := HK1.out; omega⟩, ⟨by (with_reducible repeat (first | apply Kd.R_alloc | apply Kd.R_drewN | apply Kd.R_drew)); exact HO_3.out⟩, ⟨by (with_reducible repeat (first | apply Kd.R_alloc | apply Kd.R_drewN | apply Kd.R_drew)); exact HO_4.out⟩, ⟨by repeat (first | (with_reducible first | exact HK.out | apply Kept.alloc | apply Kept.drewN | apply Kept.drew | refine Kept.setCell ?_ (.inr GW190.out) _) | exact HK.out)⟩, ⟨by repeat (first | (with_reducible first | exact HB.out | apply below_alloc | apply pw_below_drewN | apply below_drew1 | refine below_set ?_ GE190.out) | exact HB.out)⟩⟩
         ·rw [if_neg c26] at H
          exact absurd H (by simp)
        ·rw [if_neg c25] at H
         exact absurd H (by simp)
       ·rw [if_neg c24] at H
        have c24b0 : (((rd_T55 l0 x10_1).f0) == 2) = false := beq_eq_false_iff_ne.mpr c24
        have c24b1 : (((rd_T55 l0 x10_1).f0) != 2) = true := bne_iff_ne.mpr c24
        by_cases c34 : ((rd_T55 l0 x10_1).f0) = 3
        ·rw [if_pos c34] at H
         have c34b0 : (((rd_T55 l0 x10_1).f0) == 3) = true := beq_iff_eq.mpr c34
         have c34b1 : (((rd_T55 l0 x10_1).f0) != 3) = false := bne_eq_false_iff_eq.mpr c34
         clear c34
         replace H := Option.bind_eq_some_iff.mp H
         obtain ⟨t194, A350, H⟩ := H
         replace H : (spec_l07Pass.l0 k1 l0 a2 x3_1 t194 (wrap64 (x10_1 + 1))) = some (r1, r2) := H
         have A35 := Aside0.mk A350
         clear A350
         have H' := Aside0.mk H
         clear H
         have p189 : 0 ≤ (x10_1 : Int) := of_decide_eq_true z5_7
         have q189 : x10_1 < (l0.length : Int) := of_decide_eq_true z5_7
         obtain ⟨ad189, e189, hx189_0, hx189_1, hx189_2, hx189_3, hx189_4, hx189_5⟩ := at_T55 (Kd.C_kept_now HR0.out HK.out) x10_1 p189 q189
         cases e189
         replace p189 := eq_true p189
         replace q189 := eq_true q189
         go_wp2_with (first | ((with_reducible refine gate_dst (N := 11) rfl ?_); refine box_event ?hg (N := 11) ?hd (cs := #[.int .i64 0, .int .i64 0, .int .i64 0, .int .i64 0, .int .i64 0, .int .i64 0]) (t := 55) ?hr ?_; (case hd => rfl); (case hg => rfl); (case hr => exact z5_16); intro gb190 hg w36 hbox hb; have n0_ := Aside0.mk (Kd.R_below z5_6 hb); have n1_ := Aside0.mk (Kd.R_below z5_10 hb); have n2_ := Aside0.mk (Kept.below (S := (fun k_ => P3_ k_ ∨ P4_ k_)) z5_17 hb); have n3_ := Aside0.mk (below_step z5_3 hb); have n4_ := Aside0.mk (hbox); have n5_ := Aside0.mk ((z5_12 : w.heap.size ≤ gb190)); have n6_ := Aside0.mk ((z5_22 : w0.heap.size ≤ gb190)); clear HO_3; clear HO_4; clear HK; clear HB; have HO_3 := n0_; have HO_4 := n1_; have HK := n2_; have HB := n3_; have BK190 := n4_; have GW190 := n5_; have GE190 := n6_; clear n0_ n1_ n2_ n3_ n4_ n5_ n6_; clear hb hbox hg; have hcz37_0 : w36.cell? ⟨gb190, 0, none⟩ = some (.int .i64 0) := (blk_cell BK190.out 0).trans rfl; have hcz37_1 : w36.cell? ⟨gb190, 1, none⟩ = some (.int .i64 0) := (blk_cell BK190.out 1).trans rfl; have hcz37_2 : w36.cell? ⟨gb190, 2, none⟩ = some (.int .i64 0) := (blk_cell BK190.out 2).trans rfl; have hcz37_3 : w36.cell? ⟨gb190, 3, none⟩ = some (.int .i64 0) := (blk_cell BK190.out 3).trans rfl; have hcz37_4 : w36.cell? ⟨gb190, 4, none⟩ = some (.int .i64 0) := (blk_cell BK190.out 4).trans rfl; have hcz37_5 : w36.cell? ⟨gb190, 5, none⟩ = some (.int .i64 0) := (blk_cell BK190.out 5).trans rfl; have hfz37_0 := blk_frozen BK190.out 0; have hfz37_1 := blk_frozen BK190.out 1; have hfz37_2 := blk_frozen BK190.out 2; have hfz37_3 := blk_frozen BK190.out 3; have hfz37_4 := blk_frozen BK190.out 4; have hfz37_5 := blk_frozen BK190.out 5) | ((with_reducible refine gate_store (t := 55) (p := 11) rfl ?_); refine store_event (t := 55) (p := 11) (v := ?vo_w38) (w1 := ((((((w36.setCell ⟨gb190, 0, none⟩ (.int .i64 ((rd_T55 l0 x10_1).f0))).setCell ⟨gb190, 1, none⟩ (.int .i64 ((rd_T55 l0 x10_1).f1))).setCell ⟨gb190, 2, none⟩ (.int .i64 ((rd_T55 l0 x10_1).f2))).setCell ⟨gb190, 3, none⟩ (.int .i64 ((rd_T55 l0 x10_1).f3.f0))).setCell ⟨gb190, 4, none⟩ (.int .i64 ((rd_T55 l0 x10_1).f3.f1))).setCell ⟨gb190, 5, none⟩ (.int .i64 ((rd_T55 l0 x10_1).f3.f2)))) ?hg ?ho ?hn ?hr ?_; (case ho => rfl); (case hg => rfl); (case hn => rfl); (case hr => exact z5_16); intro w38 hw; have n0_ : Aside0 (Kd.R Kd.bool 4 w38 w0.heap.size (fun k_ => ((P3_ k_ ∨ P4_ k_) ∨ w.heap.size ≤ k_) ∧ some k_ ≠ (u9001_ : Value).ownBlock) u9000_ x3_1) := ⟨z5_2⟩; have n1_ : Aside0 (Kd.R Kd.bool 4 w38 w0.heap.size (fun k_ => ((P3_ k_ ∨ P4_ k_) ∨ w.heap.size ≤ k_) ∧ some k_ ≠ (u9000_ : Value).ownBlock) u9001_ x4_1) := ⟨z5_1⟩; have n2_ : Aside0 (w38.heap[gb190]? = some (.cells #[.int .i64 ((rd_T55 l0 x10_1).f0), .int .i64 ((rd_T55 l0 x10_1).f1), .int .i64 ((rd_T55 l0 x10_1).f2), .int .i64 ((rd_T55 l0 x10_1).f3.f0), .int .i64 ((rd_T55 l0 x10_1).f3.f1), .int .i64 ((rd_T55 l0 x10_1).f3.f2)] 55 (0, 0))) := ⟨z5_0⟩; have n3_ : Aside0 (Kept w w38 (fun k_ => P3_ k_ ∨ P4_ k_)) := ⟨(by rw [hw]; exact z5_4)⟩; have n4_ : Aside0 (Below w0.heap.size w0 w38) := ⟨(by rw [hw]; exact z5_5)⟩; clear hw; clear HO_3; clear HO_4; clear BK190; clear HK; clear HB; have HO_3 := n0_; have HO_4 := n1_; have BK190 := n2_; have HK := n3_; have HB := n4_; clear n0_ n1_ n2_ n3_ n4_; have hcz39_0 : w38.cell? ⟨gb190, 0, none⟩ = some (.int .i64 ((rd_T55 l0 x10_1).f0)) := (blk_cell BK190.out 0).trans rfl; have hcz39_1 : w38.cell? ⟨gb190, 1, none⟩ = some (.int .i64 ((rd_T55 l0 x10_1).f1)) := (blk_cell BK190.out 1).trans rfl; have hcz39_2 : w38.cell? ⟨gb190, 2, none⟩ = some (.int .i64 ((rd_T55 l0 x10_1).f2)) := (blk_cell BK190.out 2).trans rfl; have hcz39_3 : w38.cell? ⟨gb190, 3, none⟩ = some (.int .i64 ((rd_T55 l0 x10_1).f3.f0)) := (blk_cell BK190.out 3).trans rfl; have hcz39_4 : w38.cell? ⟨gb190, 4, none⟩ = some (.int .i64 ((rd_T55 l0 x10_1).f3.f1)) := (blk_cell BK190.out 4).trans rfl; have hcz39_5 : w38.cell? ⟨gb190, 5, none⟩ = some (.int .i64 ((rd_T55 l0 x10_1).f3.f2)) := (blk_cell BK190.out 5).trans rfl; have hfz39_0 := blk_frozen BK190.out 0; have hfz39_1 := blk_frozen BK190.out 1; have hfz39_2 := blk_frozen BK190.out 2; have hfz39_3 := blk_frozen BK190.out 3; have hfz39_4 := blk_frozen BK190.out 4; have hfz39_5 := blk_frozen BK190.out 5; obtain ⟨Ao40, co40, eo40⟩ := Kd.R_slice HO_4.out; subst eo40; obtain ⟨Ao41, co41, eo41⟩ := Kd.R_slice HO_3.out; subst eo41) | ((with_reducible refine gate_callee (f := 63) rfl ?_); refine goesL_ (some 49) rfl rfl Try.func63 (by kernel_rfl) rfl #[.slice Ao40 x4_1.length co40, .slice Ao41 x3_1.length co41, .agg #[.int .i64 ((rd_T55 l0 x10_1).f3.f0), .int .i64 ((rd_T55 l0 x10_1).f3.f1), .int .i64 ((rd_T55 l0 x10_1).f3.f2)]] rfl z5_9 ?_; (with_reducible refine (spec_l07Note.calls k1 (fun k_ => some k_ = (.slice Ao40 x4_1.length co40 : Value).ownBlock) (.slice Ao40 x4_1.length co40) x4_1 _ _ x3_1 ((rd_T55 l0 x10_1).f3.f0) ((rd_T55 l0 x10_1).f3.f1) ((rd_T55 l0 x10_1).f3.f2) t194 w0 _ ?side1 ?side2 ?side3 ?side4 A35.out).mono ?_); (case side1 => exact z5_5); (case side2 => exact Kd.R_tight rfl HO_4.out); (case side3 => exact z5_19); (case side4 => exact (Kd.R_reads' HO_3.out).2.1); rintro e w42 ⟨rfl, hy0, hb, hkp⟩; refine ⟨_, rfl, ?_⟩; have n0_ := Aside0.mk (Kd.R_mono (ok' := fun k_ => ((P3_ k_ ∨ P4_ k_) ∨ w.heap.size ≤ k_) ∧ some k_ ≠ (.slice Ao40 x4_1.length co40 : Value).ownBlock) (Kd.R_keptB (HO_3.out) hkp (fun k_ hk_ hs_ => (hk_.2) hs_)) (fun k_ hk_ => ⟨hk_.1.1, hk_.1.2⟩)); have n1_ := Aside0.mk (Kd.R_reok rfl hy0 (fun k_ e_ => HO_4.out.1 k_ e_)); have n2_ := Aside0.mk (blk_kept z5_11 hkp (fun hs_ => (fun e_ => (Kd.R_ne HO_4.out BK190.out (by decide)) e_) hs_)); have n3_ := Aside0.mk (Kept.then_ (S := (fun k_ => P3_ k_ ∨ P4_ k_)) z5_4 hkp (fun k_ hs_ => (fun e_ => (HO_4.out.1 k_ e_.symm).1) hs_)); have n4_ := Aside0.mk (hb); clear HO_3; clear HO_4; clear BK190; clear HK; clear HB; have HO_3 := n0_; have HO_4 := n1_; have BK190 := n2_; have HK := n3_; have HB := n4_; clear n0_ n1_ n2_ n3_ n4_; (try clear hb); (try clear hkp); (try clear hy0)))
         go_roundg k1
         case measure => have := HK1.out; omega
         case rel => exact ⟨(x3_1), (t194), (wrap64 (x10_1 + 1)), z5_13, H', ⟨by have := HK1.out; omega⟩, ⟨by (with_reducible repeat (first | apply Kd.R_alloc | apply Kd.R_drewN | apply Kd.R_drew)); exact HO_3.out⟩, ⟨by (with_reducible repeat (first | apply Kd.R_alloc | apply Kd.R_drewN | apply Kd.R_drew)); exact HO_4.out⟩, ⟨by repeat (first | (with_reducible first | exact HK.out | apply Kept.alloc | apply Kept.drewN | apply Kept.drew | refine Kept.setCell ?_ (.inr GW190.out) _) | exact HK.out)⟩, ⟨by repeat (first | (with_reducible first | exact HB.out | apply below_alloc | apply pw_below_drewN | apply below_drew1 | refine below_set ?_ GE190.out) | exact HB.out)⟩⟩
        ·rw [if_neg c34] at H
         have c34b0 : (((rd_T55 l0 x10_1).f0) == 3) = false := beq_eq_false_iff_ne.mpr c34
         have c34b1 : (((rd_T55 l0 x10_1).f0) != 3) = true := bne_iff_ne.mpr c34
         by_cases c43 : ((rd_T55 l0 x10_1).f0) = 4
         ·rw [if_pos c43] at H
          have c43b0 : (((rd_T55 l0 x10_1).f0) == 4) = true := beq_iff_eq.mpr c43
          have c43b1 : (((rd_T55 l0 x10_1).f0) != 4) = false := bne_eq_false_iff_eq.mpr c43
          clear c43
          replace H := Option.bind_eq_some_iff.mp H
          obtain ⟨t195, A440, H⟩ := H
          replace H : ((spec_l05End.f k1 l0 x10_1).bind fun t196 => ((some (([] : List Bool) : List Bool)).bind fun y197 => (if y197.length + x3_1.length < 140737488355328 then ((spec_l07Pass.f k1 l0 (wrap64 (x10_1 + 1)) t196 (y197 ++ x3_1) t195).bind fun bt203 => (spec_l07Pass.l0 k1 l0 a2 x3_1 bt203.2 (wrap64 (t196 + 1)))) else (none)))) = some (r1, r2) := H
          have A44 := Aside0.mk A440
          clear A440
          replace H := Option.bind_eq_some_iff.mp H
          obtain ⟨t196, A450, H⟩ := H
          replace H : ((some (([] : List Bool) : List Bool)).bind fun y197 => (if y197.length + x3_1.length < 140737488355328 then ((spec_l07Pass.f k1 l0 (wrap64 (x10_1 + 1)) t196 (y197 ++ x3_1) t195).bind fun bt203 => (spec_l07Pass.l0 k1 l0 a2 x3_1 bt203.2 (wrap64 (t196 + 1)))) else (none))) = some (r1, r2) := H
          have A45 := Aside0.mk A450
          clear A450
          obtain ⟨y197, hy197⟩ : ∃ y_ : List Bool, y_ = (([] : List Bool)) := ⟨_, rfl⟩
          replace H : (if y197.length + x3_1.length < 140737488355328 then ((spec_l07Pass.f k1 l0 (wrap64 (x10_1 + 1)) t196 (y197 ++ x3_1) t195).bind fun bt203 => (spec_l07Pass.l0 k1 l0 a2 x3_1 bt203.2 (wrap64 (t196 + 1)))) else (none)) = some (r1, r2) := by first | (rw [hy197]; with_reducible exact H) | (have H2_ := (Option.bind_some _ _).symm.trans H; rw [hy197]; with_reducible exact H2_) | (have H2_ := (Option.bind_some _ _).symm.trans H; with_reducible exact H2_) | with_reducible exact H | (rw [hy197]; exact H) | exact H
          have Ny197 := Aside0.mk hy197
          clear hy197
          by_cases c46 : y197.length + x3_1.length < 140737488355328
          ·rw [if_pos c46] at H
           have LMc46 := Aside0.mk c46
           clear c46
           obtain ⟨y200, hy200⟩ : ∃ y_ : List Bool, y_ = (y197 ++ x3_1) := ⟨_, rfl⟩
           replace H : ((spec_l07Pass.f k1 l0 (wrap64 (x10_1 + 1)) t196 y200 t195).bind fun bt203 => (spec_l07Pass.l0 k1 l0 a2 x3_1 bt203.2 (wrap64 (t196 + 1)))) = some (r1, r2) := by first | (rw [hy200]; with_reducible exact H) | (have H2_ := (Option.bind_some _ _).symm.trans H; rw [hy200]; with_reducible exact H2_) | (have H2_ := (Option.bind_some _ _).symm.trans H; with_reducible exact H2_) | with_reducible exact H | (rw [hy200]; exact H) | exact H
           have Ny200 := Aside0.mk hy200
           clear hy200
           replace H := Option.bind_eq_some_iff.mp H
           obtain ⟨⟨t203, t204⟩, A470, H⟩ := H
           replace H : (spec_l07Pass.l0 k1 l0 a2 x3_1 t204 (wrap64 (t196 + 1))) = some (r1, r2) := H
           have A47 := Aside0.mk A470
           clear A470
           have H' := Aside0.mk H
           clear H
           have p189 : 0 ≤ (x10_1 : Int) := of_decide_eq_true z5_7
           have q189 : x10_1 < (l0.length : Int) := of_decide_eq_true z5_7
           obtain ⟨ad189, e189, hx189_0, hx189_1, hx189_2, hx189_3, hx189_4, hx189_5⟩ := at_T55 (Kd.C_kept_now HR0.out HK.out) x10_1 p189 q189
           cases e189
           replace p189 := eq_true p189
           replace q189 := eq_true q189
           go_wp2_with (first | ((with_reducible refine gate_dst (N := 11) rfl ?_); refine box_event ?hg (N := 11) ?hd (cs := #[.int .i64 0, .int .i64 0, .int .i64 0, .int .i64 0, .int .i64 0, .int .i64 0]) (t := 55) ?hr ?_; (case hd => rfl); (case hg => rfl); (case hr => exact z5_16); intro gb190 hg w48 hbox hb; have n0_ := Aside0.mk (Kd.R_below z5_6 hb); have n1_ := Aside0.mk (Kd.R_below z5_10 hb); have n2_ := Aside0.mk (Kept.below (S := (fun k_ => P3_ k_ ∨ P4_ k_)) z5_17 hb); have n3_ := Aside0.mk (below_step z5_3 hb); have n4_ := Aside0.mk (hbox); have n5_ := Aside0.mk ((z5_12 : w.heap.size ≤ gb190)); have n6_ := Aside0.mk ((z5_22 : w0.heap.size ≤ gb190)); clear HO_3; clear HO_4; clear HK; clear HB; have HO_3 := n0_; have HO_4 := n1_; have HK := n2_; have HB := n3_; have BK190 := n4_; have GW190 := n5_; have GE190 := n6_; clear n0_ n1_ n2_ n3_ n4_ n5_ n6_; clear hb hbox hg; have hcz49_0 : w48.cell? ⟨gb190, 0, none⟩ = some (.int .i64 0) := (blk_cell BK190.out 0).trans rfl; have hcz49_1 : w48.cell? ⟨gb190, 1, none⟩ = some (.int .i64 0) := (blk_cell BK190.out 1).trans rfl; have hcz49_2 : w48.cell? ⟨gb190, 2, none⟩ = some (.int .i64 0) := (blk_cell BK190.out 2).trans rfl; have hcz49_3 : w48.cell? ⟨gb190, 3, none⟩ = some (.int .i64 0) := (blk_cell BK190.out 3).trans rfl; have hcz49_4 : w48.cell? ⟨gb190, 4, none⟩ = some (.int .i64 0) := (blk_cell BK190.out 4).trans rfl; have hcz49_5 : w48.cell? ⟨gb190, 5, none⟩ = some (.int .i64 0) := (blk_cell BK190.out 5).trans rfl; have hfz49_0 := blk_frozen BK190.out 0; have hfz49_1 := blk_frozen BK190.out 1; have hfz49_2 := blk_frozen BK190.out 2; have hfz49_3 := blk_frozen BK190.out 3; have hfz49_4 := blk_frozen BK190.out 4; have hfz49_5 := blk_frozen BK190.out 5) | ((with_reducible refine gate_store (t := 55) (p := 11) rfl ?_); refine store_event (t := 55) (p := 11) (v := ?vo_w50) (w1 := ((((((w48.setCell ⟨gb190, 0, none⟩ (.int .i64 ((rd_T55 l0 x10_1).f0))).setCell ⟨gb190, 1, none⟩ (.int .i64 ((rd_T55 l0 x10_1).f1))).setCell ⟨gb190, 2, none⟩ (.int .i64 ((rd_T55 l0 x10_1).f2))).setCell ⟨gb190, 3, none⟩ (.int .i64 ((rd_T55 l0 x10_1).f3.f0))).setCell ⟨gb190, 4, none⟩ (.int .i64 ((rd_T55 l0 x10_1).f3.f1))).setCell ⟨gb190, 5, none⟩ (.int .i64 ((rd_T55 l0 x10_1).f3.f2)))) ?hg ?ho ?hn ?hr ?_; (case ho => rfl); (case hg => rfl); (case hn => rfl); (case hr => exact z5_16); intro w50 hw; have n0_ : Aside0 (Kd.R Kd.bool 4 w50 w0.heap.size (fun k_ => ((P3_ k_ ∨ P4_ k_) ∨ w.heap.size ≤ k_) ∧ some k_ ≠ (u9001_ : Value).ownBlock) u9000_ x3_1) := ⟨z5_2⟩; have n1_ : Aside0 (Kd.R Kd.bool 4 w50 w0.heap.size (fun k_ => ((P3_ k_ ∨ P4_ k_) ∨ w.heap.size ≤ k_) ∧ some k_ ≠ (u9000_ : Value).ownBlock) u9001_ x4_1) := ⟨z5_1⟩; have n2_ : Aside0 (w50.heap[gb190]? = some (.cells #[.int .i64 ((rd_T55 l0 x10_1).f0), .int .i64 ((rd_T55 l0 x10_1).f1), .int .i64 ((rd_T55 l0 x10_1).f2), .int .i64 ((rd_T55 l0 x10_1).f3.f0), .int .i64 ((rd_T55 l0 x10_1).f3.f1), .int .i64 ((rd_T55 l0 x10_1).f3.f2)] 55 (0, 0))) := ⟨z5_0⟩; have n3_ : Aside0 (Kept w w50 (fun k_ => P3_ k_ ∨ P4_ k_)) := ⟨(by rw [hw]; exact z5_4)⟩; have n4_ : Aside0 (Below w0.heap.size w0 w50) := ⟨(by rw [hw]; exact z5_5)⟩; clear hw; clear HO_3; clear HO_4; clear BK190; clear HK; clear HB; have HO_3 := n0_; have HO_4 := n1_; have BK190 := n2_; have HK := n3_; have HB := n4_; clear n0_ n1_ n2_ n3_ n4_; have hcz51_0 : w50.cell? ⟨gb190, 0, none⟩ = some (.int .i64 ((rd_T55 l0 x10_1).f0)) := (blk_cell BK190.out 0).trans rfl; have hcz51_1 : w50.cell? ⟨gb190, 1, none⟩ = some (.int .i64 ((rd_T55 l0 x10_1).f1)) := (blk_cell BK190.out 1).trans rfl; have hcz51_2 : w50.cell? ⟨gb190, 2, none⟩ = some (.int .i64 ((rd_T55 l0 x10_1).f2)) := (blk_cell BK190.out 2).trans rfl; have hcz51_3 : w50.cell? ⟨gb190, 3, none⟩ = some (.int .i64 ((rd_T55 l0 x10_1).f3.f0)) := (blk_cell BK190.out 3).trans rfl; have hcz51_4 : w50.cell? ⟨gb190, 4, none⟩ = some (.int .i64 ((rd_T55 l0 x10_1).f3.f1)) := (blk_cell BK190.out 4).trans rfl; have hcz51_5 : w50.cell? ⟨gb190, 5, none⟩ = some (.int .i64 ((rd_T55 l0 x10_1).f3.f2)) := (blk_cell BK190.out 5).trans rfl; have hfz51_0 := blk_frozen BK190.out 0; have hfz51_1 := blk_frozen BK190.out 1; have hfz51_2 := blk_frozen BK190.out 2; have hfz51_3 := blk_frozen BK190.out 3; have hfz51_4 := blk_frozen BK190.out 4; have hfz51_5 := blk_frozen BK190.out 5; obtain ⟨Ao52, co52, eo52⟩ := Kd.R_slice HO_4.out; subst eo52; obtain ⟨Ao53, co53, eo53⟩ := Kd.R_slice HO_3.out; subst eo53) | ((with_reducible refine gate_callee (f := 63) rfl ?_); refine goesL_ (some 56) rfl rfl Try.func63 (by kernel_rfl) rfl #[.slice Ao52 x4_1.length co52, .slice Ao53 x3_1.length co53, .agg #[.int .i64 ((rd_T55 l0 x10_1).f3.f0), .int .i64 ((rd_T55 l0 x10_1).f3.f1), .int .i64 ((rd_T55 l0 x10_1).f3.f2)]] rfl z5_9 ?_; (with_reducible refine (spec_l07Note.calls k1 (fun k_ => some k_ = (.slice Ao52 x4_1.length co52 : Value).ownBlock) (.slice Ao52 x4_1.length co52) x4_1 _ _ x3_1 ((rd_T55 l0 x10_1).f3.f0) ((rd_T55 l0 x10_1).f3.f1) ((rd_T55 l0 x10_1).f3.f2) t195 w0 _ ?side1 ?side2 ?side3 ?side4 A44.out).mono ?_); (case side1 => exact z5_5); (case side2 => exact Kd.R_tight rfl HO_4.out); (case side3 => exact z5_19); (case side4 => exact (Kd.R_reads' HO_3.out).2.1); rintro e w54 ⟨rfl, hy0, hb, hkp⟩; refine ⟨_, rfl, ?_⟩; have n0_ := Aside0.mk (Kd.R_mono (ok' := fun k_ => ((P3_ k_ ∨ P4_ k_) ∨ w.heap.size ≤ k_) ∧ some k_ ≠ (.slice Ao52 x4_1.length co52 : Value).ownBlock) (Kd.R_keptB (HO_3.out) hkp (fun k_ hk_ hs_ => (hk_.2) hs_)) (fun k_ hk_ => ⟨hk_.1.1, hk_.1.2⟩)); have n1_ := Aside0.mk (Kd.R_reok rfl hy0 (fun k_ e_ => HO_4.out.1 k_ e_)); have n2_ := Aside0.mk (blk_kept z5_11 hkp (fun hs_ => (fun e_ => (Kd.R_ne HO_4.out BK190.out (by decide)) e_) hs_)); have n3_ := Aside0.mk (Kept.then_ (S := (fun k_ => P3_ k_ ∨ P4_ k_)) z5_4 hkp (fun k_ hs_ => (fun e_ => (HO_4.out.1 k_ e_.symm).1) hs_)); have n4_ := Aside0.mk (hb); clear HO_3; clear HO_4; clear BK190; clear HK; clear HB; have HO_3 := n0_; have HO_4 := n1_; have BK190 := n2_; have HK := n3_; have HB := n4_; clear n0_ n1_ n2_ n3_ n4_; (try clear hb); (try clear hkp); (try clear hy0)) | ((with_reducible refine gate_callee (f := 58) rfl ?_); refine goesL_ (some 59) rfl rfl Try.func58 (by kernel_rfl) rfl #[.slice (some ad189) l0.length c0, .int .i64 x10_1] rfl z5_9 ?_; (with_reducible refine (spec_l05End.calls k1 _ _ l0 x10_1 t196 _ ?side1 ?side2 A45.out).mono ?_); (case side1 => exact Kd.C_kept_now HR0.out z5_4); (case side2 => exact HC0.out); rintro e w55 ⟨rfl, hb⟩; refine ⟨_, rfl, ?_⟩; have n0_ := Aside0.mk (Kd.R_below z5_6 hb); have n1_ := Aside0.mk (Kd.R_below z5_10 hb); have n2_ := Aside0.mk (blk_below (g := gb190) (o := .cells #[.int .i64 ((rd_T55 l0 x10_1).f0), .int .i64 ((rd_T55 l0 x10_1).f1), .int .i64 ((rd_T55 l0 x10_1).f2), .int .i64 ((rd_T55 l0 x10_1).f3.f0), .int .i64 ((rd_T55 l0 x10_1).f3.f1), .int .i64 ((rd_T55 l0 x10_1).f3.f2)] 55 (0, 0)) z5_11 hb); have n3_ := Aside0.mk (Kept.below (S := (fun k_ => P3_ k_ ∨ P4_ k_)) z5_4 hb); have n4_ := Aside0.mk (below_step z5_5 hb); clear HO_3; clear HO_4; clear BK190; clear HK; clear HB; have HO_3 := n0_; have HO_4 := n1_; have BK190 := n2_; have HK := n3_; have HB := n4_; clear n0_ n1_ n2_ n3_ n4_; (try clear hb); (try clear hb2); (try clear hk); (try clear hi)) | ((with_reducible refine gate_dst (N := 64) rfl ?_); refine Kd.R_lit Kd.bool _ 4 ?hg (N := 64) ?hd (xs := ([] : List Bool)) (inner := []) (ok := fun _ => True) (okp := fun _ => True) ?hr ?hp (fun _ hk => hk) trivial (Below.refl _ _) (Nat.le_refl _) (by simp) ?_; (case hd => rfl); (case hg => rfl); (case hr => exact z5_16); (case hp => exact (Reps.none _ _)); intro v198 w56 ho57 hb hg_ hnew_; clear hg_ hnew_; (first | rw [← Ny197.out] at ho57 | (simp only [Int.reduceToNat] at ho57; rw [← Ny197.out] at ho57)); have n0_ := Aside0.mk (Kd.R_elder' z5_6 (Kd.R_base ho57) hb); have n1_ := Aside0.mk (Kd.R_elder' z5_10 (Kd.R_base ho57) hb); have n2_ := Aside0.mk (Kd.R_lower (Kd.R_new' (Kd.R_new' (Kd.R_newM (M := fun k_ => ((P3_ k_ ∨ P4_ k_) ∨ w.heap.size ≤ k_)) ho57 z5_21 (fun k_ h_ => .inr h_)) (Kd.R_lt z5_6)) (Kd.R_lt z5_10)) (below_size z5_5)); have n3_ := Aside0.mk (blk_below (g := gb190) (o := .cells #[.int .i64 ((rd_T55 l0 x10_1).f0), .int .i64 ((rd_T55 l0 x10_1).f1), .int .i64 ((rd_T55 l0 x10_1).f2), .int .i64 ((rd_T55 l0 x10_1).f3.f0), .int .i64 ((rd_T55 l0 x10_1).f3.f1), .int .i64 ((rd_T55 l0 x10_1).f3.f2)] 55 (0, 0)) z5_11 hb); have n4_ := Aside0.mk (Kept.below (S := (fun k_ => P3_ k_ ∨ P4_ k_)) z5_4 hb); have n5_ := Aside0.mk (below_step z5_5 hb); clear HO_3; clear HO_4; clear BK190; clear HK; clear HB; have HO_3 := n0_; have HO_4 := n1_; have HO199 := n2_; have BK190 := n3_; have HK := n4_; have HB := n5_; clear n0_ n1_ n2_ n3_ n4_ n5_; clear hb ho57) | ((with_reducible refine gate_builtin (b := .append) (xs := #[.tmp 64, .tmp 65]) rfl ?_); at_builtin; refine Kd.R_append_rows Kd.bool (w0 := w0) w0.heap.size rfl (.tmp 64) (.tmp 65) 66 4 (.bool false) 1 rfl Try.underlying66 info4 rfl (by decide) (by omega) v198 y197 x3_1 _ _ _ (fun k_ => ((P3_ k_ ∨ P4_ k_) ∨ w.heap.size ≤ k_) ∧ some k_ ≠ (.slice Ao53 x3_1.length co53 : Value).ownBlock ∧ some k_ ≠ (.slice Ao52 x4_1.length co52 : Value).ownBlock) (fun _ => False) rfl rfl ?aO ?aR (fun _ _ h => h) (fun _ h => h.elim) ?aF ?aB ?aS ?aL ?_; (case aR => exact z5_18); (case aB => exact z5_5); (case aF => exact (fun k_ hk => ⟨(.inr (Nat.le_trans z5_21 hk)), Kd.fresh' (Kd.R_lt z5_6) k_ hk, Kd.fresh' (Kd.R_lt z5_10) k_ hk⟩)); (case aO => exact (by (with_reducible repeat (first | apply Kd.R_alloc | apply Kd.R_drewN | apply Kd.R_drew)); exact Kd.R_mono HO199.out (fun _ hk => ⟨hk.1.1.1, ⟨hk.1.2, hk.2⟩⟩))); (case aS => exact (below_size z5_5)); (case aL => have := LMc46.out; omega); intro v201 w58 ho hb hg hat; rw [← Ny200.out] at ho; have n0_ := Aside0.mk (Kd.R_after (ok := (fun k_ => ((P3_ k_ ∨ P4_ k_) ∨ w.heap.size ≤ k_) ∧ some k_ ≠ (.slice Ao52 x4_1.length co52 : Value).ownBlock)) z5_6 hg hat); have n1_ := Aside0.mk (Kd.R_after (ok := (fun k_ => ((P3_ k_ ∨ P4_ k_) ∨ w.heap.size ≤ k_) ∧ some k_ ≠ (.slice Ao53 x3_1.length co53 : Value).ownBlock)) z5_10 hg hat); have n2_ := Aside0.mk (blk_grown (g := gb190) (o := .cells #[.int .i64 ((rd_T55 l0 x10_1).f0), .int .i64 ((rd_T55 l0 x10_1).f1), .int .i64 ((rd_T55 l0 x10_1).f2), .int .i64 ((rd_T55 l0 x10_1).f3.f0), .int .i64 ((rd_T55 l0 x10_1).f3.f1), .int .i64 ((rd_T55 l0 x10_1).f3.f2)] 55 (0, 0)) z5_11 hg (Kd.R_ne HO199.out BK190.out (by decide))); have n3_ := Aside0.mk (hb); have n4_ := Aside0.mk (Kept.of_grown (S := (fun k_ => P3_ k_ ∨ P4_ k_)) hg z5_4 (fun k_ e_ => (HO199.out.1 k_ e_).1.1.1)); have n5_ := Aside0.mk (ho); clear HO_3; clear HO_4; clear BK190; clear HB; clear HK; clear HO199; have HO_3 := n0_; have HO_4 := n1_; have BK190 := n2_; have HB := n3_; have HK := n4_; have HO202 := n5_; clear n0_ n1_ n2_ n3_ n4_ n5_; clear ho hb hg hat; obtain ⟨Ao59, co59, eo59⟩ := Kd.R_slice HO202.out; subst eo59) | ((with_reducible refine gate_callee (f := 62) rfl ?_); refine goesL_ (some 68) rfl rfl Try.func62 (by kernel_rfl) rfl #[.slice (some ad189) l0.length c0, .int .i64 (wrap64 (x10_1 + 1)), .int .i64 t196, .slice Ao59 y200.length co59, .slice Ao52 x4_1.length co52] rfl z5_9 ?_; (with_reducible refine (ih k1 (by have := HK1.out; omega) _ _ l0 (wrap64 (x10_1 + 1)) t196 (fun k_ => some k_ = (.slice Ao59 y200.length co59 : Value).ownBlock) (.slice Ao59 y200.length co59) y200 (fun k_ => some k_ = (.slice Ao52 x4_1.length co52 : Value).ownBlock) (.slice Ao52 x4_1.length co52) t195 t203 t204 w0 _ ?side1 ?side2 ?side3 ?side4 ?side5 ?side6 ?side7 A47.out).mono ?_); (case side1 => exact z5_5); (case side2 => exact Kd.C_kept_call HR0.out z5_4 (fun k_ hs_ => Or.elim hs_ (fun e_ => (fun e_ => (HO202.out.1 k_ e_.symm).1) e_) (fun e_ => (fun e_ => (HO_4.out.1 k_ e_.symm).1.1) e_))); (case side3 => exact HC0.out); (case side4 => exact Kd.R_tight rfl HO202.out); (case side5 => exact fun k_ e_ => (HO202.out.1 k_ e_.symm).2.2); (case side6 => exact Kd.R_tight rfl HO_4.out); (case side7 => exact fun k_ e_ => (HO_4.out.1 k_ e_.symm).2); rintro e w60 ⟨rfl, hy0, hy1, hb, hkp⟩; refine ⟨_, rfl, ?_⟩; have n0_ := Aside0.mk (Kd.R_mono (ok' := fun k_ => ((P3_ k_ ∨ P4_ k_) ∨ w.heap.size ≤ k_) ∧ some k_ ≠ (.slice Ao52 x4_1.length co52 : Value).ownBlock ∧ some k_ ≠ (.slice Ao59 y200.length co59 : Value).ownBlock) (Kd.R_keptB (HO_3.out) hkp (fun k_ hk_ hs_ => Or.elim hs_ (fun e_ => (hk_.2) e_) (fun e_ => (hk_.1.2) e_))) (fun k_ hk_ => ⟨hk_.1.1.1, hk_.1.1.2, hk_.1.2⟩)); have n1_ := Aside0.mk (Kd.R_reok rfl hy1 (fun k_ e_ => HO_4.out.1 k_ e_)); have n2_ := Aside0.mk (blk_kept z5_11 hkp (fun hs_ => Or.elim hs_ (fun e_ => (fun e_ => (Kd.R_ne HO202.out BK190.out (by decide)) e_) e_) (fun e_ => (fun e_ => (Kd.R_ne HO_4.out BK190.out (by decide)) e_) e_))); have n3_ := Aside0.mk (Kd.R_reok rfl hy0 (fun k_ e_ => HO202.out.1 k_ e_)); have n4_ := Aside0.mk (Kept.then_ (S := (fun k_ => P3_ k_ ∨ P4_ k_)) z5_4 hkp (fun k_ hs_ => Or.elim hs_ (fun e_ => (fun e_ => (HO202.out.1 k_ e_.symm).1) e_) (fun e_ => (fun e_ => (HO_4.out.1 k_ e_.symm).1.1) e_))); have n5_ := Aside0.mk (hb); clear HO_3; clear HO_4; clear BK190; clear HO202; clear HK; clear HB; have HO_3 := n0_; have HO_4 := n1_; have BK190 := n2_; have HO202 := n3_; have HK := n4_; have HB := n5_; clear n0_ n1_ n2_ n3_ n4_ n5_; (try clear hb); (try clear hkp); (try clear hy0); (try clear hy1)))
           go_roundg k1
           case measure => have := HK1.out; omega
           case rel => exact ⟨(x3_1), (t204), (wrap64 (t196 + 1)), z5_13, H', ⟨by have := HK1.out; omega⟩, ⟨by (with_reducible repeat (first | apply Kd.R_alloc | apply Kd.R_drewN | apply Kd.R_drew)); exact Kd.R_mono HO_3.out (fun _ hk => ⟨hk.1, hk.2.1⟩)⟩, ⟨by (with_reducible repeat (first | apply Kd.R_alloc | apply Kd.R_drewN | apply Kd.R_drew)); exact Kd.R_mono HO_4.out (fun _ hk => ⟨hk.1.1, hk.1.2⟩)⟩, ⟨by repeat (first | (with_reducible first | exact HK.out | apply Kept.alloc | apply Kept.drewN | apply Kept.drew | refine Kept.setCell ?_ (.inr GW190.out) _) | exact HK.out)⟩, ⟨by repeat (first | (with_reducible first | exact HB.out | apply below_alloc | apply pw_below_drewN | apply below_drew1 | refine below_set ?_ GE190.out) | exact HB.out)⟩⟩
          ·rw [if_neg c46] at H
           exact absurd H (by simp)
         ·rw [if_neg c43] at H
          have c43b0 : (((rd_T55 l0 x10_1).f0) == 4) = false := beq_eq_false_iff_ne.mpr c43
          have c43b1 : (((rd_T55 l0 x10_1).f0) != 4) = true := bne_iff_ne.mpr c43
          by_cases c61 : ((rd_T55 l0 x10_1).f0) = 5
          ·rw [if_pos c61] at H
           have c61b0 : (((rd_T55 l0 x10_1).f0) == 5) = true := beq_iff_eq.mpr c61
           have c61b1 : (((rd_T55 l0 x10_1).f0) != 5) = false := bne_eq_false_iff_eq.mpr c61
           clear c61
           replace H := Option.bind_eq_some_iff.mp H
           obtain ⟨t205, A620, H⟩ := H
           replace H : ((spec_l07Pass.f k1 l0 (wrap64 (x10_1 + 1)) t205 x3_1 x4_1).bind fun bt206 => (spec_l07Pass.l0 k1 l0 a2 bt206.1 bt206.2 (wrap64 (t205 + 1)))) = some (r1, r2) := H
           have A62 := Aside0.mk A620
           clear A620
           replace H := Option.bind_eq_some_iff.mp H
           obtain ⟨⟨t206, t207⟩, A630, H⟩ := H
           replace H : (spec_l07Pass.l0 k1 l0 a2 t206 t207 (wrap64 (t205 + 1))) = some (r1, r2) := H
           have A63 := Aside0.mk A630
           clear A630
           have H' := Aside0.mk H
           clear H
           have p189 : 0 ≤ (x10_1 : Int) := of_decide_eq_true z5_7
           have q189 : x10_1 < (l0.length : Int) := of_decide_eq_true z5_7
           obtain ⟨ad189, e189, hx189_0, hx189_1, hx189_2, hx189_3, hx189_4, hx189_5⟩ := at_T55 (Kd.C_kept_now HR0.out HK.out) x10_1 p189 q189
           cases e189
           replace p189 := eq_true p189
           replace q189 := eq_true q189
           go_wp2_with (first | ((with_reducible refine gate_dst (N := 11) rfl ?_); refine box_event ?hg (N := 11) ?hd (cs := #[.int .i64 0, .int .i64 0, .int .i64 0, .int .i64 0, .int .i64 0, .int .i64 0]) (t := 55) ?hr ?_; (case hd => rfl); (case hg => rfl); (case hr => exact z5_16); intro gb190 hg w64 hbox hb; have n0_ := Aside0.mk (Kd.R_below z5_6 hb); have n1_ := Aside0.mk (Kd.R_below z5_10 hb); have n2_ := Aside0.mk (Kept.below (S := (fun k_ => P3_ k_ ∨ P4_ k_)) z5_17 hb); have n3_ := Aside0.mk (below_step z5_3 hb); have n4_ := Aside0.mk (hbox); have n5_ := Aside0.mk ((z5_12 : w.heap.size ≤ gb190)); have n6_ := Aside0.mk ((z5_22 : w0.heap.size ≤ gb190)); clear HO_3; clear HO_4; clear HK; clear HB; have HO_3 := n0_; have HO_4 := n1_; have HK := n2_; have HB := n3_; have BK190 := n4_; have GW190 := n5_; have GE190 := n6_; clear n0_ n1_ n2_ n3_ n4_ n5_ n6_; clear hb hbox hg; have hcz65_0 : w64.cell? ⟨gb190, 0, none⟩ = some (.int .i64 0) := (blk_cell BK190.out 0).trans rfl; have hcz65_1 : w64.cell? ⟨gb190, 1, none⟩ = some (.int .i64 0) := (blk_cell BK190.out 1).trans rfl; have hcz65_2 : w64.cell? ⟨gb190, 2, none⟩ = some (.int .i64 0) := (blk_cell BK190.out 2).trans rfl; have hcz65_3 : w64.cell? ⟨gb190, 3, none⟩ = some (.int .i64 0) := (blk_cell BK190.out 3).trans rfl; have hcz65_4 : w64.cell? ⟨gb190, 4, none⟩ = some (.int .i64 0) := (blk_cell BK190.out 4).trans rfl; have hcz65_5 : w64.cell? ⟨gb190, 5, none⟩ = some (.int .i64 0) := (blk_cell BK190.out 5).trans rfl; have hfz65_0 := blk_frozen BK190.out 0; have hfz65_1 := blk_frozen BK190.out 1; have hfz65_2 := blk_frozen BK190.out 2; have hfz65_3 := blk_frozen BK190.out 3; have hfz65_4 := blk_frozen BK190.out 4; have hfz65_5 := blk_frozen BK190.out 5) | ((with_reducible refine gate_store (t := 55) (p := 11) rfl ?_); refine store_event (t := 55) (p := 11) (v := ?vo_w66) (w1 := ((((((w64.setCell ⟨gb190, 0, none⟩ (.int .i64 ((rd_T55 l0 x10_1).f0))).setCell ⟨gb190, 1, none⟩ (.int .i64 ((rd_T55 l0 x10_1).f1))).setCell ⟨gb190, 2, none⟩ (.int .i64 ((rd_T55 l0 x10_1).f2))).setCell ⟨gb190, 3, none⟩ (.int .i64 ((rd_T55 l0 x10_1).f3.f0))).setCell ⟨gb190, 4, none⟩ (.int .i64 ((rd_T55 l0 x10_1).f3.f1))).setCell ⟨gb190, 5, none⟩ (.int .i64 ((rd_T55 l0 x10_1).f3.f2)))) ?hg ?ho ?hn ?hr ?_; (case ho => rfl); (case hg => rfl); (case hn => rfl); (case hr => exact z5_16); intro w66 hw; have n0_ : Aside0 (Kd.R Kd.bool 4 w66 w0.heap.size (fun k_ => ((P3_ k_ ∨ P4_ k_) ∨ w.heap.size ≤ k_) ∧ some k_ ≠ (u9001_ : Value).ownBlock) u9000_ x3_1) := ⟨z5_2⟩; have n1_ : Aside0 (Kd.R Kd.bool 4 w66 w0.heap.size (fun k_ => ((P3_ k_ ∨ P4_ k_) ∨ w.heap.size ≤ k_) ∧ some k_ ≠ (u9000_ : Value).ownBlock) u9001_ x4_1) := ⟨z5_1⟩; have n2_ : Aside0 (w66.heap[gb190]? = some (.cells #[.int .i64 ((rd_T55 l0 x10_1).f0), .int .i64 ((rd_T55 l0 x10_1).f1), .int .i64 ((rd_T55 l0 x10_1).f2), .int .i64 ((rd_T55 l0 x10_1).f3.f0), .int .i64 ((rd_T55 l0 x10_1).f3.f1), .int .i64 ((rd_T55 l0 x10_1).f3.f2)] 55 (0, 0))) := ⟨z5_0⟩; have n3_ : Aside0 (Kept w w66 (fun k_ => P3_ k_ ∨ P4_ k_)) := ⟨(by rw [hw]; exact z5_4)⟩; have n4_ : Aside0 (Below w0.heap.size w0 w66) := ⟨(by rw [hw]; exact z5_5)⟩; clear hw; clear HO_3; clear HO_4; clear BK190; clear HK; clear HB; have HO_3 := n0_; have HO_4 := n1_; have BK190 := n2_; have HK := n3_; have HB := n4_; clear n0_ n1_ n2_ n3_ n4_; have hcz67_0 : w66.cell? ⟨gb190, 0, none⟩ = some (.int .i64 ((rd_T55 l0 x10_1).f0)) := (blk_cell BK190.out 0).trans rfl; have hcz67_1 : w66.cell? ⟨gb190, 1, none⟩ = some (.int .i64 ((rd_T55 l0 x10_1).f1)) := (blk_cell BK190.out 1).trans rfl; have hcz67_2 : w66.cell? ⟨gb190, 2, none⟩ = some (.int .i64 ((rd_T55 l0 x10_1).f2)) := (blk_cell BK190.out 2).trans rfl; have hcz67_3 : w66.cell? ⟨gb190, 3, none⟩ = some (.int .i64 ((rd_T55 l0 x10_1).f3.f0)) := (blk_cell BK190.out 3).trans rfl; have hcz67_4 : w66.cell? ⟨gb190, 4, none⟩ = some (.int .i64 ((rd_T55 l0 x10_1).f3.f1)) := (blk_cell BK190.out 4).trans rfl; have hcz67_5 : w66.cell? ⟨gb190, 5, none⟩ = some (.int .i64 ((rd_T55 l0 x10_1).f3.f2)) := (blk_cell BK190.out 5).trans rfl; have hfz67_0 := blk_frozen BK190.out 0; have hfz67_1 := blk_frozen BK190.out 1; have hfz67_2 := blk_frozen BK190.out 2; have hfz67_3 := blk_frozen BK190.out 3; have hfz67_4 := blk_frozen BK190.out 4; have hfz67_5 := blk_frozen BK190.out 5) | ((with_reducible refine gate_callee (f := 58) rfl ?_); refine goesL_ (some 74) rfl rfl Try.func58 (by kernel_rfl) rfl #[.slice (some ad189) l0.length c0, .int .i64 x10_1] rfl z5_9 ?_; (with_reducible refine (spec_l05End.calls k1 _ _ l0 x10_1 t205 _ ?side1 ?side2 A62.out).mono ?_); (case side1 => exact Kd.C_kept_now HR0.out z5_4); (case side2 => exact HC0.out); rintro e w68 ⟨rfl, hb⟩; refine ⟨_, rfl, ?_⟩; have n0_ := Aside0.mk (Kd.R_below z5_6 hb); have n1_ := Aside0.mk (Kd.R_below z5_10 hb); have n2_ := Aside0.mk (blk_below (g := gb190) (o := .cells #[.int .i64 ((rd_T55 l0 x10_1).f0), .int .i64 ((rd_T55 l0 x10_1).f1), .int .i64 ((rd_T55 l0 x10_1).f2), .int .i64 ((rd_T55 l0 x10_1).f3.f0), .int .i64 ((rd_T55 l0 x10_1).f3.f1), .int .i64 ((rd_T55 l0 x10_1).f3.f2)] 55 (0, 0)) z5_11 hb); have n3_ := Aside0.mk (Kept.below (S := (fun k_ => P3_ k_ ∨ P4_ k_)) z5_4 hb); have n4_ := Aside0.mk (below_step z5_5 hb); clear HO_3; clear HO_4; clear BK190; clear HK; clear HB; have HO_3 := n0_; have HO_4 := n1_; have BK190 := n2_; have HK := n3_; have HB := n4_; clear n0_ n1_ n2_ n3_ n4_; (try clear hb); (try clear hb2); (try clear hk); (try clear hi); obtain ⟨Ao69, co69, eo69⟩ := Kd.R_slice HO_3.out; subst eo69; obtain ⟨Ao70, co70, eo70⟩ := Kd.R_slice HO_4.out; subst eo70) | ((with_reducible refine gate_callee (f := 62) rfl ?_); refine goesL_ (some 81) rfl rfl Try.func62 (by kernel_rfl) rfl #[.slice (some ad189) l0.length c0, .int .i64 (wrap64 (x10_1 + 1)), .int .i64 t205, .slice Ao69 x3_1.length co69, .slice Ao70 x4_1.length co70] rfl z5_9 ?_; (with_reducible refine (ih k1 (by have := HK1.out; omega) _ _ l0 (wrap64 (x10_1 + 1)) t205 (fun k_ => some k_ = (.slice Ao69 x3_1.length co69 : Value).ownBlock) (.slice Ao69 x3_1.length co69) x3_1 (fun k_ => some k_ = (.slice Ao70 x4_1.length co70 : Value).ownBlock) (.slice Ao70 x4_1.length co70) x4_1 t206 t207 w0 _ ?side1 ?side2 ?side3 ?side4 ?side5 ?side6 ?side7 A63.out).mono ?_); (case side1 => exact z5_5); (case side2 => exact Kd.C_kept_call HR0.out z5_4 (fun k_ hs_ => Or.elim hs_ (fun e_ => (fun e_ => (HO_3.out.1 k_ e_.symm).1) e_) (fun e_ => (fun e_ => (HO_4.out.1 k_ e_.symm).1) e_))); (case side3 => exact HC0.out); (case side4 => exact Kd.R_tight rfl HO_3.out); (case side5 => exact fun k_ e_ => (HO_3.out.1 k_ e_.symm).2); (case side6 => exact Kd.R_tight rfl HO_4.out); (case side7 => exact fun k_ e_ => (HO_4.out.1 k_ e_.symm).2); rintro e w71 ⟨rfl, hy0, hy1, hb, hkp⟩; refine ⟨_, rfl, ?_⟩; have n0_ := Aside0.mk (Kd.R_reok rfl hy0 (fun k_ e_ => HO_3.out.1 k_ e_)); have n1_ := Aside0.mk (Kd.R_reok rfl hy1 (fun k_ e_ => HO_4.out.1 k_ e_)); have n2_ := Aside0.mk (blk_kept z5_11 hkp (fun hs_ => Or.elim hs_ (fun e_ => (fun e_ => (Kd.R_ne HO_3.out BK190.out (by decide)) e_) e_) (fun e_ => (fun e_ => (Kd.R_ne HO_4.out BK190.out (by decide)) e_) e_))); have n3_ := Aside0.mk (Kept.then_ (S := (fun k_ => P3_ k_ ∨ P4_ k_)) z5_4 hkp (fun k_ hs_ => Or.elim hs_ (fun e_ => (fun e_ => (HO_3.out.1 k_ e_.symm).1) e_) (fun e_ => (fun e_ => (HO_4.out.1 k_ e_.symm).1) e_))); have n4_ := Aside0.mk (hb); clear HO_3; clear HO_4; clear BK190; clear HK; clear HB; have HO_3 := n0_; have HO_4 := n1_; have BK190 := n2_; have HK := n3_; have HB := n4_; clear n0_ n1_ n2_ n3_ n4_; (try clear hb); (try clear hkp); (try clear hy0); (try clear hy1)))
           go_roundg k1
           case measure => have := HK1.out; omega
           case rel => exact ⟨(t206), (t207), (wrap64 (t205 + 1)), z5_13, H', ⟨by have := HK1.out; omega⟩, ⟨by (with_reducible repeat (first | apply Kd.R_alloc | apply Kd.R_drewN | apply Kd.R_drew)); exact HO_3.out⟩, ⟨by (with_reducible repeat (first | apply Kd.R_alloc | apply Kd.R_drewN | apply Kd.R_drew)); exact HO_4.out⟩, ⟨by repeat (first | (with_reducible first | exact HK.out | apply Kept.alloc | apply Kept.drewN | apply Kept.drew | refine Kept.setCell ?_ (.inr GW190.out) _) | exact HK.out)⟩, ⟨by repeat (first | (with_reducible first | exact HB.out | apply below_alloc | apply pw_below_drewN | apply below_drew1 | refine below_set ?_ GE190.out) | exact HB.out)⟩⟩
          ·rw [if_neg c61] at H
           have c61b0 : (((rd_T55 l0 x10_1).f0) == 5) = false := beq_eq_false_iff_ne.mpr c61
           have c61b1 : (((rd_T55 l0 x10_1).f0) != 5) = true := bne_iff_ne.mpr c61
           have H' := Aside0.mk H
           clear H
           have p189 : 0 ≤ (x10_1 : Int) := of_decide_eq_true z5_7
           have q189 : x10_1 < (l0.length : Int) := of_decide_eq_true z5_7
           obtain ⟨ad189, e189, hx189_0, hx189_1, hx189_2, hx189_3, hx189_4, hx189_5⟩ := at_T55 (Kd.C_kept_now HR0.out HK.out) x10_1 p189 q189
           cases e189
           replace p189 := eq_true p189
           replace q189 := eq_true q189
           go_wp2_with (first | ((with_reducible refine gate_dst (N := 11) rfl ?_); refine box_event ?hg (N := 11) ?hd (cs := #[.int .i64 0, .int .i64 0, .int .i64 0, .int .i64 0, .int .i64 0, .int .i64 0]) (t := 55) ?hr ?_; (case hd => rfl); (case hg => rfl); (case hr => exact z5_16); intro gb190 hg w72 hbox hb; have n0_ := Aside0.mk (Kd.R_below z5_6 hb); have n1_ := Aside0.mk (Kd.R_below z5_10 hb); have n2_ := Aside0.mk (Kept.below (S := (fun k_ => P3_ k_ ∨ P4_ k_)) z5_17 hb); have n3_ := Aside0.mk (below_step z5_3 hb); have n4_ := Aside0.mk (hbox); have n5_ := Aside0.mk ((z5_12 : w.heap.size ≤ gb190)); have n6_ := Aside0.mk ((z5_22 : w0.heap.size ≤ gb190)); clear HO_3; clear HO_4; clear HK; clear HB; have HO_3 := n0_; have HO_4 := n1_; have HK := n2_; have HB := n3_; have BK190 := n4_; have GW190 := n5_; have GE190 := n6_; clear n0_ n1_ n2_ n3_ n4_ n5_ n6_; clear hb hbox hg; have hcz73_0 : w72.cell? ⟨gb190, 0, none⟩ = some (.int .i64 0) := (blk_cell BK190.out 0).trans rfl; have hcz73_1 : w72.cell? ⟨gb190, 1, none⟩ = some (.int .i64 0) := (blk_cell BK190.out 1).trans rfl; have hcz73_2 : w72.cell? ⟨gb190, 2, none⟩ = some (.int .i64 0) := (blk_cell BK190.out 2).trans rfl; have hcz73_3 : w72.cell? ⟨gb190, 3, none⟩ = some (.int .i64 0) := (blk_cell BK190.out 3).trans rfl; have hcz73_4 : w72.cell? ⟨gb190, 4, none⟩ = some (.int .i64 0) := (blk_cell BK190.out 4).trans rfl; have hcz73_5 : w72.cell? ⟨gb190, 5, none⟩ = some (.int .i64 0) := (blk_cell BK190.out 5).trans rfl; have hfz73_0 := blk_frozen BK190.out 0; have hfz73_1 := blk_frozen BK190.out 1; have hfz73_2 := blk_frozen BK190.out 2; have hfz73_3 := blk_frozen BK190.out 3; have hfz73_4 := blk_frozen BK190.out 4; have hfz73_5 := blk_frozen BK190.out 5) | ((with_reducible refine gate_store (t := 55) (p := 11) rfl ?_); refine store_event (t := 55) (p := 11) (v := ?vo_w74) (w1 := ((((((w72.setCell ⟨gb190, 0, none⟩ (.int .i64 ((rd_T55 l0 x10_1).f0))).setCell ⟨gb190, 1, none⟩ (.int .i64 ((rd_T55 l0 x10_1).f1))).setCell ⟨gb190, 2, none⟩ (.int .i64 ((rd_T55 l0 x10_1).f2))).setCell ⟨gb190, 3, none⟩ (.int .i64 ((rd_T55 l0 x10_1).f3.f0))).setCell ⟨gb190, 4, none⟩ (.int .i64 ((rd_T55 l0 x10_1).f3.f1))).setCell ⟨gb190, 5, none⟩ (.int .i64 ((rd_T55 l0 x10_1).f3.f2)))) ?hg ?ho ?hn ?hr ?_; (case ho => rfl); (case hg => rfl); (case hn => rfl); (case hr => exact z5_16); intro w74 hw; have n0_ : Aside0 (Kd.R Kd.bool 4 w74 w0.heap.size (fun k_ => ((P3_ k_ ∨ P4_ k_) ∨ w.heap.size ≤ k_) ∧ some k_ ≠ (u9001_ : Value).ownBlock) u9000_ x3_1) := ⟨z5_2⟩; have n1_ : Aside0 (Kd.R Kd.bool 4 w74 w0.heap.size (fun k_ => ((P3_ k_ ∨ P4_ k_) ∨ w.heap.size ≤ k_) ∧ some k_ ≠ (u9000_ : Value).ownBlock) u9001_ x4_1) := ⟨z5_1⟩; have n2_ : Aside0 (w74.heap[gb190]? = some (.cells #[.int .i64 ((rd_T55 l0 x10_1).f0), .int .i64 ((rd_T55 l0 x10_1).f1), .int .i64 ((rd_T55 l0 x10_1).f2), .int .i64 ((rd_T55 l0 x10_1).f3.f0), .int .i64 ((rd_T55 l0 x10_1).f3.f1), .int .i64 ((rd_T55 l0 x10_1).f3.f2)] 55 (0, 0))) := ⟨z5_0⟩; have n3_ : Aside0 (Kept w w74 (fun k_ => P3_ k_ ∨ P4_ k_)) := ⟨(by rw [hw]; exact z5_4)⟩; have n4_ : Aside0 (Below w0.heap.size w0 w74) := ⟨(by rw [hw]; exact z5_5)⟩; clear hw; clear HO_3; clear HO_4; clear BK190; clear HK; clear HB; have HO_3 := n0_; have HO_4 := n1_; have BK190 := n2_; have HK := n3_; have HB := n4_; clear n0_ n1_ n2_ n3_ n4_; have hcz75_0 : w74.cell? ⟨gb190, 0, none⟩ = some (.int .i64 ((rd_T55 l0 x10_1).f0)) := (blk_cell BK190.out 0).trans rfl; have hcz75_1 : w74.cell? ⟨gb190, 1, none⟩ = some (.int .i64 ((rd_T55 l0 x10_1).f1)) := (blk_cell BK190.out 1).trans rfl; have hcz75_2 : w74.cell? ⟨gb190, 2, none⟩ = some (.int .i64 ((rd_T55 l0 x10_1).f2)) := (blk_cell BK190.out 2).trans rfl; have hcz75_3 : w74.cell? ⟨gb190, 3, none⟩ = some (.int .i64 ((rd_T55 l0 x10_1).f3.f0)) := (blk_cell BK190.out 3).trans rfl; have hcz75_4 : w74.cell? ⟨gb190, 4, none⟩ = some (.int .i64 ((rd_T55 l0 x10_1).f3.f1)) := (blk_cell BK190.out 4).trans rfl; have hcz75_5 : w74.cell? ⟨gb190, 5, none⟩ = some (.int .i64 ((rd_T55 l0 x10_1).f3.f2)) := (blk_cell BK190.out 5).trans rfl; have hfz75_0 := blk_frozen BK190.out 0; have hfz75_1 := blk_frozen BK190.out 1; have hfz75_2 := blk_frozen BK190.out 2; have hfz75_3 := blk_frozen BK190.out 3; have hfz75_4 := blk_frozen BK190.out 4; have hfz75_5 := blk_frozen BK190.out 5))
           go_roundg k1
           case measure => have := HK1.out; omega
           case rel => exact ⟨(x3_1), (x4_1), (wrap64 (x10_1 + 1)), z5_13, H', ⟨by have := HK1.out; omega⟩, ⟨by (with_reducible repeat (first | apply Kd.R_alloc | apply Kd.R_drewN | apply Kd.R_drew)); exact HO_3.out⟩, ⟨by (with_reducible repeat (first | apply Kd.R_alloc | apply Kd.R_drewN | apply Kd.R_drew)); exact HO_4.out⟩, ⟨by repeat (first | (with_reducible first | exact HK.out | apply Kept.alloc | apply Kept.drewN | apply Kept.drew | refine Kept.setCell ?_ (.inr GW190.out) _) | exact HK.out)⟩, ⟨by repeat (first | (with_reducible first | exact HB.out | apply below_alloc | apply pw_below_drewN | apply below_drew1 | refine below_set ?_ GE190.out) | exact HB.out)⟩⟩
     ·rw [if_neg c8] at H
      exact absurd H (by simp)
    ·rw [if_neg c7] at H
     exact absurd H (by simp)
   ·rw [if_neg c6] at H
    have c6b0 : decide (x10_1 < a2) = false := decide_eq_false c6
    clear c6
    simp only [Option.some.injEq, Prod.mk.injEq] at H
    obtain ⟨rfl, rfl⟩ := H
    go_wp2
    first | go_end0 | ((try simp only [Exit.inBlock, Exit.then]); refine bodyPost_ret (results_none rfl _ _ _) rfl ?_)
    exact ⟨by first | rfl | (simp [errW_none, errW_some] <;> rfl) | (simp [*, errW_none, errW_some] <;> rfl) | (simp [*, errW_none, errW_some, i64_w]; done), by (with_reducible repeat (first | apply Kd.R_alloc | apply Kd.R_drewN | apply Kd.R_drew)); exact Kd.R_mono HO_3.out (fun _ hk => hk.1), by (with_reducible repeat (first | apply Kd.R_alloc | apply Kd.R_drewN | apply Kd.R_drew)); exact Kd.R_mono HO_4.out (fun _ hk => hk.1), by repeat (first | (with_reducible first | exact HB.out | apply below_alloc | apply pw_below_drewN | apply below_drew1) | exact HB.out), by repeat (first | (with_reducible first | exact HK.out | apply Kept.alloc | apply Kept.drewN | apply Kept.drew) | exact HK.out)⟩
def spec_MayReadFirst.j0 : Nat → List Bool → Bool → List (S55) → Int → Int → Int → Option (List Int)
 | 0, _, _, _, _, _, _ => none
 | k + 1, x3, x13, x209000, x209001, x209002, x209003 => if x13 = true then (if 8 ≤ 281474976710656 then ((spec_l07Pass.f k x209000 0 (x209000.length : Int) (List.replicate 8 false) x3).bind fun bt217 => ((spec_l07Note.f k bt217.2 bt217.1 x209001 x209002 x209003).bind fun t219 => ((spec_l07List.f k t219).bind fun t220 => (some t220)))) else (none)) else ((spec_l07List.f k x3).bind fun t223 => (some t223))
def spec_MayReadFirst.f (k : Nat) (l0_0 : List (S55)) (a0_1 : Int) (a0_2 : Int) (a0_3 : Int) : Option (List Int) := if 8 ≤ 281474976710656 then ((some (List.replicate 8 false : List Bool)).bind fun y209 => ((spec_BlockOk.f k l0_0).bind fun t212 => (if t212 = true then ((spec_ExprOk.f a0_1 a0_2 a0_3).bind fun t213 => (spec_MayReadFirst.j0 k y209 t213 l0_0 a0_1 a0_2 a0_3)) else (spec_MayReadFirst.j0 k y209 false l0_0 a0_1 a0_2 a0_3)))) else (none)
theorem spec_MayReadFirst.mono_l : ∀ k, (∀ y0 y1 y2 y3 y4 y5, LeO (spec_MayReadFirst.j0 k y0 y1 y2 y3 y4 y5) (spec_MayReadFirst.j0 (k + 1) y0 y1 y2 y3 y4 y5))
 | 0 => fun _ _ _ _ _ _ r h => by simp [spec_MayReadFirst.j0] at h
 | k + 1 => by
  have ih0 := spec_MayReadFirst.mono_l k
  ·intro y0 y1 y2 y3 y4 y5
   unfold spec_MayReadFirst.j0
   repeat' first
   | (with_reducible exact ih0 _ _ _ _ _ _)
   | (with_reducible exact spec_BlockOk.mono _ _)
   | (with_reducible exact spec_l07List.mono _ _)
   | (with_reducible exact spec_l07Note.mono _ _ _ _ _ _)
   | (with_reducible exact spec_l07Pass.mono _ _ _ _ _ _)
   | (with_reducible exact LeO.refl _)
   | (with_reducible exact LeO.none _)
   | (with_reducible refine LeO.ite ?_ ?_)
   | (with_reducible refine LeO.bind ?_ (fun _ => ?_))
   | exact ih0 _ _ _ _ _ _
   | exact spec_BlockOk.mono _ _
   | exact spec_l07List.mono _ _
   | exact spec_l07Note.mono _ _ _ _ _ _
   | exact spec_l07Pass.mono _ _ _ _ _ _
   | exact LeO.none _
   | refine LeO.ite ?_ ?_
   | refine LeO.bind ?_ (fun _ => ?_)
theorem spec_MayReadFirst.mono : ∀ a0 a1 a2 a3 k, LeO (spec_MayReadFirst.f k a0 a1 a2 a3) (spec_MayReadFirst.f (k + 1) a0 a1 a2 a3) := by
 intro a0 a1 a2 a3 k
 have ih0 := spec_MayReadFirst.mono_l k
 unfold spec_MayReadFirst.f
 repeat' first
   | (with_reducible exact ih0 _ _ _ _ _ _)
   | (with_reducible exact spec_BlockOk.mono _ _)
   | (with_reducible exact spec_l07List.mono _ _)
   | (with_reducible exact spec_l07Note.mono _ _ _ _ _ _)
   | (with_reducible exact spec_l07Pass.mono _ _ _ _ _ _)
   | (with_reducible exact LeO.refl _)
   | (with_reducible exact LeO.none _)
   | (with_reducible refine LeO.ite ?_ ?_)
   | (with_reducible refine LeO.bind ?_ (fun _ => ?_))
   | exact ih0 _ _ _ _ _ _
   | exact spec_BlockOk.mono _ _
   | exact spec_l07List.mono _ _
   | exact spec_l07Note.mono _ _ _ _ _ _
   | exact spec_l07Pass.mono _ _ _ _ _ _
   | exact LeO.none _
   | refine LeO.ite ?_ ?_
   | refine LeO.bind ?_ (fun _ => ?_)
set_option maxHeartbeats 8000000 in
set_option maxRecDepth 100000 in
theorem spec_MayReadFirst.calls (k : Nat) (A0_0 : Option Addr) (c0_0 : Nat) (l0_0 : List (S55)) (a0_1 : Int) (a0_2 : Int) (a0_3 : Int) (r : List Int) (w : World) (hr0_0 : Kd.C k55 w A0_0 l0_0.length l0_0) (hc0_0 : l0_0.length ≤ c0_0) (h : spec_MayReadFirst.f k l0_0 a0_1 a0_2 a0_3 = some r) :
  Calls Try.prog 44 #[.agg #[.slice A0_0 l0_0.length c0_0, .int .i64 a0_1, .int .i64 a0_2, .int .i64 a0_3]] w fun e w' => ∃ v0_ : Value, e = .returned (v0_) ∧ Kd.R (Kd.int .i64) 3 w' w.heap.size (fun _ => True) v0_ r ∧ Below w.heap.size w w' := by
 have hu32 := Try.underlying32
 have hu30 := Try.underlying30
 have HR0_0 := Aside0.mk hr0_0
 have HC0_0 := Aside0.mk hc0_0
 clear hr0_0 hc0_0
 have HB := Aside0.mk (Below.refl w.heap.size w)
 have H : (if 8 ≤ 281474976710656 then ((some (List.replicate 8 false : List Bool)).bind fun y209 => ((spec_BlockOk.f k l0_0).bind fun t212 => (if t212 = true then ((spec_ExprOk.f a0_1 a0_2 a0_3).bind fun t213 => (spec_MayReadFirst.j0 k y209 t213 l0_0 a0_1 a0_2 a0_3)) else (spec_MayReadFirst.j0 k y209 false l0_0 a0_1 a0_2 a0_3)))) else (none)) = some r := h
 clear h
 by_cases c2 : 8 ≤ 281474976710656
 ·rw [if_pos c2] at H
  have c2b0 := eq_true c2
  have c2b1 : decide (8 ≤ 281474976710656) = true := decide_eq_true c2
  clear c2
  obtain ⟨y209, hy209⟩ : ∃ y_ : List Bool, y_ = (List.replicate 8 false) := ⟨_, rfl⟩
  replace H : ((spec_BlockOk.f k l0_0).bind fun t212 => (if t212 = true then ((spec_ExprOk.f a0_1 a0_2 a0_3).bind fun t213 => (spec_MayReadFirst.j0 k y209 t213 l0_0 a0_1 a0_2 a0_3)) else (spec_MayReadFirst.j0 k y209 false l0_0 a0_1 a0_2 a0_3))) = some r := by first | (rw [hy209]; with_reducible exact H) | (have H2_ := (Option.bind_some _ _).symm.trans H; rw [hy209]; with_reducible exact H2_) | (have H2_ := (Option.bind_some _ _).symm.trans H; with_reducible exact H2_) | with_reducible exact H | (rw [hy209]; exact H) | exact H
  have Ny209 := Aside0.mk hy209
  clear hy209
  have HC3 := Aside0.mk H
  clear H
  go_enter Try.func44, Try.ntmps44
  go_upto_region 2 with (first | ((with_reducible refine gate_dst (N := 1) rfl ?_); refine box_event ?hg (N := 1) ?hd (cs := #[.slice A0_0 l0_0.length c0_0, .int .i64 a0_1, .int .i64 a0_2, .int .i64 a0_3]) (t := 32) ?hr ?_; (case hd => rfl); (case hg => rfl); (case hr => exact z5_16); intro gb208 hg w4 hbox hb; have n0_ := Aside0.mk (below_step z5_3 hb); have n1_ := Aside0.mk (hbox); have n2_ := Aside0.mk ((z5_22 : w.heap.size ≤ gb208)); have n3_ := Aside0.mk ((z5_22 : w.heap.size ≤ gb208)); clear HB; have HB := n0_; have BK208 := n1_; have GW208 := n2_; have GE208 := n3_; clear n0_ n1_ n2_ n3_; clear hb hbox hg) | ((with_reducible refine gate_dst (N := 5) rfl ?_); refine Kd.R_make Kd.bool _ 4 rfl (N := 5) rfl 66 _ _ rfl 8 rfl rfl Try.underlying66 (.bool false) 1 info4 rfl (by decide) (by omega) false (ok := fun _ => True) (okp := fun _ => True) rfl (fun _ hk => hk) trivial (by omega) (by omega) (Below.refl _ _) (Nat.le_refl _) ?_; intro v210 w5 ho6 hb hg_ hnew_; clear hg_ hnew_; (first | rw [← Ny209.out] at ho6 | (simp only [Int.reduceToNat] at ho6; rw [← Ny209.out] at ho6)); have n0_ := Aside0.mk (Kd.R_lower ho6 (below_size z5_8)); have n1_ := Aside0.mk (blk_below (g := gb208) (o := .cells #[.slice A0_0 l0_0.length c0_0, .int .i64 a0_1, .int .i64 a0_2, .int .i64 a0_3] 32 (0, 0)) z5_15 hb); have n2_ := Aside0.mk (below_step z5_8 hb); clear BK208; clear HB; have HO211 := n0_; have BK208 := n1_; have HB := n2_; clear n0_ n1_ n2_; clear hb ho6))
  (try simp only [Act.put, List.setIfInBounds_toArray, List.set_cons_zero, List.set_cons_succ])
  go_cut [13] (fun v13 wc => ∃ (kq : Nat) (x13_2 : Bool), v13 = .bool x13_2 ∧ Aside0 (spec_MayReadFirst.j0 kq y209 x13_2 l0_0 a0_1 a0_2 a0_3 = some r) ∧ Aside0 (kq ≤ k) ∧ Aside0 (Kd.R Kd.bool 4 wc w.heap.size (fun _ => True) v210 y209) ∧ Aside0 (wc.heap[gb208]? = some (.cells #[(.slice A0_0 l0_0.length c0_0), .int .i64 a0_1, .int .i64 a0_2, .int .i64 a0_3] 32 (0, 0))) ∧ Aside0 (Below w.heap.size w wc))
  case first =>
   have H := HC3.out
   clear HC3
   replace H := Option.bind_eq_some_iff.mp H
   obtain ⟨t212, A70, H⟩ := H
   replace H : (if t212 = true then ((spec_ExprOk.f a0_1 a0_2 a0_3).bind fun t213 => (spec_MayReadFirst.j0 k y209 t213 l0_0 a0_1 a0_2 a0_3)) else (spec_MayReadFirst.j0 k y209 false l0_0 a0_1 a0_2 a0_3)) = some r := H
   have A7 := Aside0.mk A70
   clear A70
   by_cases c8 : t212 = true
   ·subst c8
    have H1 : ((spec_ExprOk.f a0_1 a0_2 a0_3).bind fun t213 => (spec_MayReadFirst.j0 k y209 t213 l0_0 a0_1 a0_2 a0_3)) = some r := by rw [if_pos rfl] at H; exact H
    clear H
    have H := H1
    clear H1
    replace H := Option.bind_eq_some_iff.mp H
    obtain ⟨t213, A90, H⟩ := H
    replace H : (spec_MayReadFirst.j0 k y209 t213 l0_0 a0_1 a0_2 a0_3) = some r := H
    have A9 := Aside0.mk A90
    clear A90
    have H' := Aside0.mk H
    clear H
    have hcz10_0 : w5.cell? ⟨gb208, 0, none⟩ = some (.slice A0_0 l0_0.length c0_0) := (blk_cell BK208.out 0).trans rfl
    have hcz10_1 : w5.cell? ⟨gb208, 1, none⟩ = some (.int .i64 a0_1) := (blk_cell BK208.out 1).trans rfl
    have hcz10_2 : w5.cell? ⟨gb208, 2, none⟩ = some (.int .i64 a0_2) := (blk_cell BK208.out 2).trans rfl
    have hcz10_3 : w5.cell? ⟨gb208, 3, none⟩ = some (.int .i64 a0_3) := (blk_cell BK208.out 3).trans rfl
    have hfz10_0 := blk_frozen BK208.out 0
    have hfz10_1 := blk_frozen BK208.out 1
    have hfz10_2 := blk_frozen BK208.out 2
    have hfz10_3 := blk_frozen BK208.out 3
    go_wp2_with (first | ((with_reducible refine gate_callee (f := 32) rfl ?_); refine goesL_ (some 8) rfl rfl Try.func32 (by kernel_rfl) rfl #[.slice A0_0 l0_0.length c0_0] rfl z5_9 ?_; (with_reducible refine (spec_BlockOk.calls k _ _ l0_0 true _ ?side1 ?side2 A7.out).mono ?_); (case side1 => repeat (first | exact (Kd.C_below HR0_0.out HB.out) | (with_reducible refine Kd.C_alloc ?_ _) | (with_reducible refine Kd.C_drewN ?_ _) | (with_reducible refine Kd.C_drew ?_))); (case side2 => exact HC0_0.out); rintro e w11 ⟨rfl, hb⟩; refine ⟨_, rfl, ?_⟩; have n0_ := Aside0.mk (Kd.R_below (by (with_reducible repeat (first | apply Kd.R_alloc | apply Kd.R_drewN | apply Kd.R_drew)); exact HO211.out) hb); have n1_ := Aside0.mk (blk_below (g := gb208) (o := .cells #[.slice A0_0 l0_0.length c0_0, .int .i64 a0_1, .int .i64 a0_2, .int .i64 a0_3] 32 (0, 0)) z5_15 hb); have n2_ := Aside0.mk (below_step z5_8 hb); clear HO211; clear BK208; clear HB; have HO211 := n0_; have BK208 := n1_; have HB := n2_; clear n0_ n1_ n2_; (try clear hb); (try clear hb2); (try clear hk); (try clear hi); have hcz12_0 : w11.cell? ⟨gb208, 0, none⟩ = some (.slice A0_0 l0_0.length c0_0) := (blk_cell BK208.out 0).trans rfl; have hcz12_1 : w11.cell? ⟨gb208, 1, none⟩ = some (.int .i64 a0_1) := (blk_cell BK208.out 1).trans rfl; have hcz12_2 : w11.cell? ⟨gb208, 2, none⟩ = some (.int .i64 a0_2) := (blk_cell BK208.out 2).trans rfl; have hcz12_3 : w11.cell? ⟨gb208, 3, none⟩ = some (.int .i64 a0_3) := (blk_cell BK208.out 3).trans rfl; have hfz12_0 := blk_frozen BK208.out 0; have hfz12_1 := blk_frozen BK208.out 1; have hfz12_2 := blk_frozen BK208.out 2; have hfz12_3 := blk_frozen BK208.out 3) | (go_at_call 33; (with_reducible refine (spec_ExprOk.calls a0_1 a0_2 a0_3 t213 _ A9.out).mono ?_); rintro e w13 ⟨rfl, hb⟩; have n0_ := Aside0.mk (Kd.R_below (by (with_reducible repeat (first | apply Kd.R_alloc | apply Kd.R_drewN | apply Kd.R_drew)); exact HO211.out) hb); have n1_ := Aside0.mk (blk_below (g := gb208) (o := .cells #[.slice A0_0 l0_0.length c0_0, .int .i64 a0_1, .int .i64 a0_2, .int .i64 a0_3] 32 (0, 0)) z5_15 hb); have n2_ := Aside0.mk (below_step z5_8 hb); clear HO211; clear BK208; clear HB; have HO211 := n0_; have BK208 := n1_; have HB := n2_; clear n0_ n1_ n2_; (try clear hb); (try clear hb2); (try clear hk); (try clear hi)))
    go_meet
    case rel => exact ⟨_, (t213), z5_13, H', ⟨by first | omega | exact Nat.le_refl _⟩, ⟨by (with_reducible repeat (first | apply Kd.R_alloc | apply Kd.R_drewN | apply Kd.R_drew)); exact HO211.out⟩, ⟨by (with_reducible repeat (first | refine blk_drewN ?_ _ | refine blk_drew ?_ | refine blk_alloc ?_ _)); exact BK208.out⟩, ⟨by repeat (first | (with_reducible first | exact HB.out | apply below_alloc | apply pw_below_drewN | apply below_drew1 | refine below_set ?_ GE208.out) | exact HB.out)⟩⟩
   ·replace c8 := Bool.eq_false_iff.mpr c8
    subst c8
    have H1 : (spec_MayReadFirst.j0 k y209 false l0_0 a0_1 a0_2 a0_3) = some r := by rw [if_neg (show ¬ (false = true) by decide)] at H; exact H
    clear H
    have H := H1
    clear H1
    have H' := Aside0.mk H
    clear H
    have hcz14_0 : w5.cell? ⟨gb208, 0, none⟩ = some (.slice A0_0 l0_0.length c0_0) := (blk_cell BK208.out 0).trans rfl
    have hcz14_1 : w5.cell? ⟨gb208, 1, none⟩ = some (.int .i64 a0_1) := (blk_cell BK208.out 1).trans rfl
    have hcz14_2 : w5.cell? ⟨gb208, 2, none⟩ = some (.int .i64 a0_2) := (blk_cell BK208.out 2).trans rfl
    have hcz14_3 : w5.cell? ⟨gb208, 3, none⟩ = some (.int .i64 a0_3) := (blk_cell BK208.out 3).trans rfl
    have hfz14_0 := blk_frozen BK208.out 0
    have hfz14_1 := blk_frozen BK208.out 1
    have hfz14_2 := blk_frozen BK208.out 2
    have hfz14_3 := blk_frozen BK208.out 3
    go_wp2_with (first | ((with_reducible refine gate_callee (f := 32) rfl ?_); refine goesL_ (some 8) rfl rfl Try.func32 (by kernel_rfl) rfl #[.slice A0_0 l0_0.length c0_0] rfl z5_9 ?_; (with_reducible refine (spec_BlockOk.calls k _ _ l0_0 false _ ?side1 ?side2 A7.out).mono ?_); (case side1 => repeat (first | exact (Kd.C_below HR0_0.out HB.out) | (with_reducible refine Kd.C_alloc ?_ _) | (with_reducible refine Kd.C_drewN ?_ _) | (with_reducible refine Kd.C_drew ?_))); (case side2 => exact HC0_0.out); rintro e w15 ⟨rfl, hb⟩; refine ⟨_, rfl, ?_⟩; have n0_ := Aside0.mk (Kd.R_below (by (with_reducible repeat (first | apply Kd.R_alloc | apply Kd.R_drewN | apply Kd.R_drew)); exact HO211.out) hb); have n1_ := Aside0.mk (blk_below (g := gb208) (o := .cells #[.slice A0_0 l0_0.length c0_0, .int .i64 a0_1, .int .i64 a0_2, .int .i64 a0_3] 32 (0, 0)) z5_15 hb); have n2_ := Aside0.mk (below_step z5_8 hb); clear HO211; clear BK208; clear HB; have HO211 := n0_; have BK208 := n1_; have HB := n2_; clear n0_ n1_ n2_; (try clear hb); (try clear hb2); (try clear hk); (try clear hi)))
    go_meet
    case rel => exact ⟨_, (false), z5_13, H', ⟨by first | omega | exact Nat.le_refl _⟩, ⟨by (with_reducible repeat (first | apply Kd.R_alloc | apply Kd.R_drewN | apply Kd.R_drew)); exact HO211.out⟩, ⟨by (with_reducible repeat (first | refine blk_drewN ?_ _ | refine blk_drew ?_ | refine blk_alloc ?_ _)); exact BK208.out⟩, ⟨by repeat (first | (with_reducible first | exact HB.out | apply below_alloc | apply pw_below_drewN | apply below_drew1 | refine below_set ?_ GE208.out) | exact HB.out)⟩⟩
  case rest =>
   clear HC3
   (try clear c2); (try clear c2b0); (try clear c2b1)
   obtain ⟨kq, x13_2, rfl, HA, HJ2, HO_3, BK208, HB⟩ := hcut
   cases kq with
   | zero => exact absurd HA.out (by simp [spec_MayReadFirst.j0])
   | succ kj2 =>
    have H := HA.out
    clear HA
    simp only [spec_MayReadFirst.j0] at H
    by_cases c16 : x13_2 = true
    ·subst c16
     have H1 : (if 8 ≤ 281474976710656 then ((spec_l07Pass.f kj2 l0_0 0 (l0_0.length : Int) (List.replicate 8 false) y209).bind fun bt217 => ((spec_l07Note.f kj2 bt217.2 bt217.1 a0_1 a0_2 a0_3).bind fun t219 => ((spec_l07List.f kj2 t219).bind fun t220 => (some t220)))) else (none)) = some r := by rw [if_pos rfl] at H; exact H
     clear H
     have H := H1
     clear H1
     by_cases c17 : 8 ≤ 281474976710656
     ·rw [if_pos c17] at H
      have c17b0 := eq_true c17
      have c17b1 : decide (8 ≤ 281474976710656) = true := decide_eq_true c17
      clear c17
      obtain ⟨y214, hy214⟩ : ∃ y_ : List Bool, y_ = (List.replicate 8 false) := ⟨_, rfl⟩
      replace H : ((spec_l07Pass.f kj2 l0_0 0 (l0_0.length : Int) y214 y209).bind fun bt217 => ((spec_l07Note.f kj2 bt217.2 bt217.1 a0_1 a0_2 a0_3).bind fun t219 => ((spec_l07List.f kj2 t219).bind fun t220 => (some t220)))) = some r := by first | (rw [hy214]; with_reducible exact H) | (have H2_ := (Option.bind_some _ _).symm.trans H; rw [hy214]; with_reducible exact H2_) | (have H2_ := (Option.bind_some _ _).symm.trans H; with_reducible exact H2_) | with_reducible exact H | (rw [hy214]; exact H) | exact H
      have Ny214 := Aside0.mk hy214
      clear hy214
      replace H := Option.bind_eq_some_iff.mp H
      obtain ⟨⟨t217, t218⟩, A180, H⟩ := H
      replace H : ((spec_l07Note.f kj2 t218 t217 a0_1 a0_2 a0_3).bind fun t219 => ((spec_l07List.f kj2 t219).bind fun t220 => (some t220))) = some r := H
      have A18 := Aside0.mk A180
      clear A180
      replace H := Option.bind_eq_some_iff.mp H
      obtain ⟨t219, A190, H⟩ := H
      replace H : ((spec_l07List.f kj2 t219).bind fun t220 => (some t220)) = some r := H
      have A19 := Aside0.mk A190
      clear A190
      replace H := Option.bind_eq_some_iff.mp H
      obtain ⟨t220, A200, H⟩ := H
      replace H : (some t220) = some r := H
      have A20 := Aside0.mk A200
      clear A200
      obtain rfl := Option.some.inj H
      go_wp2_with (first | ((with_reducible refine gate_dst (N := 14) rfl ?_); refine Kd.R_make Kd.bool _ 4 rfl (N := 14) rfl 66 _ _ rfl 8 rfl rfl Try.underlying66 (.bool false) 1 info4 rfl (by decide) (by omega) false (ok := fun _ => True) (okp := fun _ => True) rfl (fun _ hk => hk) trivial (by omega) (by omega) (Below.refl _ _) (Nat.le_refl _) ?_; intro v215 w21 ho22 hb hg_ hnew_; clear hg_ hnew_; (first | rw [← Ny214.out] at ho22 | (simp only [Int.reduceToNat] at ho22; rw [← Ny214.out] at ho22)); have n0_ := Aside0.mk (Kd.R_elder' z5_6 (Kd.R_base ho22) hb); have n1_ := Aside0.mk (Kd.R_lower (Kd.R_new' ho22 (Kd.R_lt z5_6)) (below_size z5_8)); have n2_ := Aside0.mk (blk_below (g := gb208) (o := .cells #[.slice A0_0 l0_0.length c0_0, .int .i64 a0_1, .int .i64 a0_2, .int .i64 a0_3] 32 (0, 0)) z5_15 hb); have n3_ := Aside0.mk (below_step z5_8 hb); clear HO_3; clear BK208; clear HB; have HO_3 := n0_; have HO216 := n1_; have BK208 := n2_; have HB := n3_; clear n0_ n1_ n2_ n3_; clear hb ho22; have hcz23_0 : w21.cell? ⟨gb208, 0, none⟩ = some (.slice A0_0 l0_0.length c0_0) := (blk_cell BK208.out 0).trans rfl; have hcz23_1 : w21.cell? ⟨gb208, 1, none⟩ = some (.int .i64 a0_1) := (blk_cell BK208.out 1).trans rfl; have hcz23_2 : w21.cell? ⟨gb208, 2, none⟩ = some (.int .i64 a0_2) := (blk_cell BK208.out 2).trans rfl; have hcz23_3 : w21.cell? ⟨gb208, 3, none⟩ = some (.int .i64 a0_3) := (blk_cell BK208.out 3).trans rfl; have hfz23_0 := blk_frozen BK208.out 0; have hfz23_1 := blk_frozen BK208.out 1; have hfz23_2 := blk_frozen BK208.out 2; have hfz23_3 := blk_frozen BK208.out 3; obtain ⟨Ao24, co24, eo24⟩ := Kd.R_slice HO216.out; subst eo24; obtain ⟨Ao25, co25, eo25⟩ := Kd.R_slice HO_3.out; subst eo25) | ((with_reducible refine gate_callee (f := 62) rfl ?_); refine goesL_ (some 22) rfl rfl Try.func62 (by kernel_rfl) rfl #[.slice A0_0 l0_0.length c0_0, .int .i64 0, .int .i64 (l0_0.length : Int), .slice Ao24 y214.length co24, .slice Ao25 y209.length co25] rfl z5_9 ?_; (with_reducible refine (spec_l07Pass.calls kj2 _ _ l0_0 0 (l0_0.length : Int) (fun k_ => some k_ = (.slice Ao24 y214.length co24 : Value).ownBlock) (.slice Ao24 y214.length co24) y214 (fun k_ => some k_ = (.slice Ao25 y209.length co25 : Value).ownBlock) (.slice Ao25 y209.length co25) y209 t217 t218 w _ ?side1 ?side2 ?side3 ?side4 ?side5 ?side6 ?side7 A18.out).mono ?_); (case side1 => exact z5_8); (case side2 => exact Kd.C_kept_came k55_heap HR0_0.out z5_8 (fun k_ hs_ => Or.elim hs_ (fun e_ => (fun e_ => Kd.R_base HO216.out k_ e_.symm) e_) (fun e_ => (fun e_ => Kd.R_base HO_3.out k_ e_.symm) e_))); (case side3 => exact HC0_0.out); (case side4 => exact Kd.R_tight rfl HO216.out); (case side5 => exact fun k_ e_ => (HO216.out.1 k_ e_.symm).2); (case side6 => exact Kd.R_tight rfl HO_3.out); (case side7 => exact fun k_ e_ => (HO_3.out.1 k_ e_.symm).2); rintro e w26 ⟨rfl, hy0, hy1, hb, hkp⟩; refine ⟨_, rfl, ?_⟩; have n0_ := Aside0.mk (Kd.R_reok rfl hy1 (fun k_ e_ => HO_3.out.1 k_ e_)); have n1_ := Aside0.mk (blk_kept z5_15 hkp (fun hs_ => Or.elim hs_ (fun e_ => (fun e_ => (Kd.R_ne HO216.out BK208.out (by decide)) e_) e_) (fun e_ => (fun e_ => (Kd.R_ne HO_3.out BK208.out (by decide)) e_) e_))); have n2_ := Aside0.mk (Kd.R_reok rfl hy0 (fun k_ e_ => HO216.out.1 k_ e_)); have n3_ := Aside0.mk (hb); clear HO_3; clear BK208; clear HO216; clear HB; have HO_3 := n0_; have BK208 := n1_; have HO216 := n2_; have HB := n3_; clear n0_ n1_ n2_ n3_; (try clear hb); (try clear hkp); (try clear hy0); (try clear hy1); have hcz27_0 : w26.cell? ⟨gb208, 0, none⟩ = some (.slice A0_0 l0_0.length c0_0) := (blk_cell BK208.out 0).trans rfl; have hcz27_1 : w26.cell? ⟨gb208, 1, none⟩ = some (.int .i64 a0_1) := (blk_cell BK208.out 1).trans rfl; have hcz27_2 : w26.cell? ⟨gb208, 2, none⟩ = some (.int .i64 a0_2) := (blk_cell BK208.out 2).trans rfl; have hcz27_3 : w26.cell? ⟨gb208, 3, none⟩ = some (.int .i64 a0_3) := (blk_cell BK208.out 3).trans rfl; have hfz27_0 := blk_frozen BK208.out 0; have hfz27_1 := blk_frozen BK208.out 1; have hfz27_2 := blk_frozen BK208.out 2; have hfz27_3 := blk_frozen BK208.out 3) | ((with_reducible refine gate_callee (f := 63) rfl ?_); refine goesL_ (some 27) rfl rfl Try.func63 (by kernel_rfl) rfl #[.slice Ao25 y209.length co25, .slice Ao24 t217.length co24, .agg #[.int .i64 a0_1, .int .i64 a0_2, .int .i64 a0_3]] rfl (by (try simp only [List.map_toArray, List.map_cons, List.map_nil]); first | done | (rw [show t217.length = y214.length from (Kd.R_reads' HO216.out).1.symm] <;> rfl) | rfl | (simp only [List.length_drop, List.length_take]; rfl)) ?_; (with_reducible refine (spec_l07Note.calls kj2 (fun k_ => some k_ = (.slice Ao25 y209.length co25 : Value).ownBlock) (.slice Ao25 y209.length co25) t218 _ _ t217 a0_1 a0_2 a0_3 t219 w _ ?side1 ?side2 ?side3 ?side4 A19.out).mono ?_); (case side1 => exact z5_8); (case side2 => exact Kd.R_tight rfl HO_3.out); (case side3 => first | exact Kd.C_kept_own (HO216.out) (fun k_ hk_ hs_ => (hk_.2) hs_) | (have h_ := HO216.out; rw [(Kd.R_reads' HO216.out).1] at h_; exact Kd.C_kept_own h_ (fun k_ hk_ hs_ => (hk_.2) hs_))); (case side4 => rw [show t217.length = y214.length from (Kd.R_reads' HO216.out).1.symm]; exact (Kd.R_reads' HO216.out).2.1); rintro e w28 ⟨rfl, hy0, hb, hkp⟩; refine ⟨_, rfl, ?_⟩; have n0_ := Aside0.mk (Kd.R_reok rfl hy0 (fun k_ e_ => HO_3.out.1 k_ e_)); have n1_ := Aside0.mk (blk_kept z5_15 hkp (fun hs_ => (fun e_ => (Kd.R_ne HO_3.out BK208.out (by decide)) e_) hs_)); have n2_ := Aside0.mk (Kd.R_mono (ok' := fun k_ => some k_ ≠ (.slice Ao25 y209.length co25 : Value).ownBlock) (Kd.R_keptB (HO216.out) hkp (fun k_ hk_ hs_ => (hk_.2) hs_)) (fun k_ hk_ => hk_.1.2)); have n3_ := Aside0.mk (hb); clear HO_3; clear BK208; clear HO216; clear HB; have HO_3 := n0_; have BK208 := n1_; have HO216 := n2_; have HB := n3_; clear n0_ n1_ n2_ n3_; (try clear hb); (try clear hkp); (try clear hy0)) | ((with_reducible refine gate_callee (f := 61) rfl ?_); refine goesL_ (some 29) rfl rfl Try.func61 (by kernel_rfl) rfl #[.slice Ao25 t219.length co25] rfl (by (try simp only [List.map_toArray, List.map_cons, List.map_nil]); first | done | (rw [show t219.length = y209.length from (Kd.R_reads' HO_3.out).1.symm] <;> rfl) | rfl | (simp only [List.length_drop, List.length_take]; rfl)) ?_; (with_reducible refine (spec_l07List.calls kj2 _ _ t219 t220 _ ?side1 ?side2 A20.out).mono ?_); (case side1 => exact z5_18); (case side2 => rw [show t219.length = y209.length from (Kd.R_reads' HO_3.out).1.symm]; exact (Kd.R_reads' HO_3.out).2.1); rintro e w29 ⟨v221, rfl, ho0, hb⟩; refine ⟨_, rfl, ?_⟩; have n0_ := Aside0.mk (Kd.R_below z5_6 hb); have n1_ := Aside0.mk (Kd.R_below (by (with_reducible repeat (first | apply Kd.R_alloc | apply Kd.R_drewN | apply Kd.R_drew)); exact HO216.out) hb); have n2_ := Aside0.mk (Kd.R_lower ho0 (below_size z5_8)); have n3_ := Aside0.mk (blk_below (g := gb208) (o := .cells #[.slice A0_0 l0_0.length c0_0, .int .i64 a0_1, .int .i64 a0_2, .int .i64 a0_3] 32 (0, 0)) z5_15 hb); have n4_ := Aside0.mk (below_step z5_8 hb); clear HO_3; clear HO216; clear BK208; clear HB; have HO_3 := n0_; have HO216 := n1_; have HO222 := n2_; have BK208 := n3_; have HB := n4_; clear n0_ n1_ n2_ n3_ n4_; (try clear hb); (try clear hb2); (try clear hk); (try clear hi); (try clear ho0)))
      go_ret
      exact ⟨_, by first | rfl | (simp [errW_none, errW_some] <;> rfl) | (simp [*, errW_none, errW_some] <;> rfl) | (simp [*, errW_none, errW_some, i64_w]; done), by (with_reducible repeat (first | apply Kd.R_alloc | apply Kd.R_drewN | apply Kd.R_drew)); exact HO222.out, by repeat (first | (with_reducible first | exact HB.out | apply below_alloc | apply pw_below_drewN | apply below_drew1 | refine below_set ?_ GE208.out) | exact HB.out)⟩
     ·rw [if_neg c17] at H
      exact absurd H (by simp)
    ·replace c16 := Bool.eq_false_iff.mpr c16
     subst c16
     have H1 : ((spec_l07List.f kj2 y209).bind fun t223 => (some t223)) = some r := by rw [if_neg (show ¬ (false = true) by decide)] at H; exact H
     clear H
     have H := H1
     clear H1
     replace H := Option.bind_eq_some_iff.mp H
     obtain ⟨t223, A300, H⟩ := H
     replace H : (some t223) = some r := H
     have A30 := Aside0.mk A300
     clear A300
     obtain rfl := Option.some.inj H
     obtain ⟨Ao31, co31, eo31⟩ := Kd.R_slice HO_3.out
     subst eo31
     go_wp2_with (first | ((with_reducible refine gate_callee (f := 61) rfl ?_); refine goesL_ (some 29) rfl rfl Try.func61 (by kernel_rfl) rfl #[.slice Ao31 y209.length co31] rfl z5_9 ?_; (with_reducible refine (spec_l07List.calls kj2 _ _ y209 t223 _ ?side1 ?side2 A30.out).mono ?_); (case side1 => exact z5_18); (case side2 => exact (Kd.R_reads' HO_3.out).2.1); rintro e w32 ⟨v224, rfl, ho0, hb⟩; refine ⟨_, rfl, ?_⟩; have n0_ := Aside0.mk (Kd.R_below z5_6 hb); have n1_ := Aside0.mk (Kd.R_lower ho0 (below_size z5_8)); have n2_ := Aside0.mk (blk_below (g := gb208) (o := .cells #[.slice A0_0 l0_0.length c0_0, .int .i64 a0_1, .int .i64 a0_2, .int .i64 a0_3] 32 (0, 0)) z5_15 hb); have n3_ := Aside0.mk (below_step z5_8 hb); clear HO_3; clear BK208; clear HB; have HO_3 := n0_; have HO225 := n1_; have BK208 := n2_; have HB := n3_; clear n0_ n1_ n2_ n3_; (try clear hb); (try clear hb2); (try clear hk); (try clear hi); (try clear ho0)))
     go_ret
     exact ⟨_, by first | rfl | (simp [errW_none, errW_some] <;> rfl) | (simp [*, errW_none, errW_some] <;> rfl) | (simp [*, errW_none, errW_some, i64_w]; done), by (with_reducible repeat (first | apply Kd.R_alloc | apply Kd.R_drewN | apply Kd.R_drew)); exact HO225.out, by repeat (first | (with_reducible first | exact HB.out | apply below_alloc | apply pw_below_drewN | apply below_drew1 | refine below_set ?_ GE208.out) | exact HB.out)⟩
 ·rw [if_neg c2] at H
  exact absurd H (by simp)
end Go.Proofs.Ytccjlmpeogifkaa.G
