/- Functions of the program as plain Lean functions, and that each call comes to its function's answer; written by a program of the session. No condition. -/
import Derived.Test.YtakhaknglhgimaaGx0
namespace Go.Proofs.Ytakhaknglhgimaa.G
open Go.RowKit Go.Proofs.YtakhaknglhgimaaW.PrintWords Go.Proofs.YtakhaknglhgimaaW.PrintLast Go.Proofs.YtakhaknglhgimaaW.PrintMore
attribute [local go_sem] max2_int min2_int max_two min_two max_three min_three max_four min_four   -- for this text's walks alone
set_option linter.unusedVariables false
set_option linter.unusedSimpArgs false

theorem z2_0 {P : Prop} (h : P := by repeat (first | (with_reducible first | exact HK.out | apply KeepBut.set_ | apply keep_drewN | apply keep_drew | apply keep_alloc) | exact HK.out)) : P := h
theorem z2_1 {P : Prop} (h : P := by (try simp only [List.map_toArray, List.map_cons, List.map_nil]); first | done | rfl | (simp only [List.length_drop, List.length_take]; rfl)) : P := h
theorem z2_2 {P : Prop} (h : P := by repeat (first | (with_reducible first | exact HI0.out | apply IsS116.alloc | apply IsS116.drewN | apply IsS116.drew | apply IsS116.set_1 | apply IsS116.set_2) | exact HI0.out)) : P := h
theorem z2_3 {P : Prop} (h : P := by repeat (first | (with_reducible first | exact HB.out | apply below_alloc | apply pw_below_drewN | apply below_drew1 | refine below_set ?_ (IsS116.ge HI0.out)) | exact HB.out)) : P := h
theorem z2_4 {P : Prop} (h : P := by repeat (first | (with_reducible first | exact HK.out | apply KeepBut.set_ | apply keep_drewN | apply keep_drew | apply keep_alloc | refine keep_far ?_ GW178.out _) | exact HK.out)) : P := h
theorem z2_5 {P : Prop} (h : P := by repeat (first | (with_reducible first | exact HI0.out | apply IsS116.alloc | apply IsS116.drewN | apply IsS116.drew | apply IsS116.set_1 | apply IsS116.set_2 | refine IsS116.far ?_ NB0_178.out _) | exact HI0.out)) : P := h
theorem z2_6 {P : Prop} (h : P := by repeat (first | (with_reducible first | exact HB.out | apply below_alloc | apply pw_below_drewN | apply below_drew1 | refine below_set ?_ (IsS116.ge HI0.out) | refine below_set ?_ GE178.out) | exact HB.out)) : P := h
theorem z2_7 {P : Prop} (h : P := by (with_reducible repeat (first | refine blk_drewN ?_ _ | refine blk_drew ?_ | refine blk_alloc ?_ _)); exact BK178.out) : P := h
theorem z2_8 {P : Prop} (h : P := by repeat (first | (with_reducible first | exact HI0.out | apply IsS116.alloc | apply IsS116.drewN | apply IsS116.drew | apply IsS116.set_1 | apply IsS116.set_2 | refine IsS116.far ?_ NB0_146.out _) | exact HI0.out)) : P := h
theorem z2_9 {P : Prop} (h : P := by repeat (first | (with_reducible first | exact HB.out | apply below_alloc | apply pw_below_drewN | apply below_drew1 | refine below_set ?_ (IsS116.ge HI0.out) | refine below_set ?_ GE146.out) | exact HB.out)) : P := h
theorem z2_10 {P : Prop} (h : P := by rw [hw]; exact (by (with_reducible repeat (first | refine blk_drewN ?_ _ | refine blk_drew ?_ | refine blk_alloc ?_ _)); refine blk_put (cs := #[.int .i64 5, .int .i64 0, .int .i64 (wrap64 (1 + t175)), .int .i64 0, .int .i64 0, .int .i64 0]) ?_ 5 _ rfl; (with_reducible repeat (first | refine blk_drewN ?_ _ | refine blk_drew ?_ | refine blk_alloc ?_ _)); refine blk_put (cs := #[.int .i64 5, .int .i64 0, .int .i64 (wrap64 (1 + t175)), .int .i64 0, .int .i64 0, .int .i64 0]) ?_ 4 _ rfl; (with_reducible repeat (first | refine blk_drewN ?_ _ | refine blk_drew ?_ | refine blk_alloc ?_ _)); refine blk_put (cs := #[.int .i64 5, .int .i64 0, .int .i64 (wrap64 (1 + t175)), .int .i64 0, .int .i64 0, .int .i64 0]) ?_ 3 _ rfl; (with_reducible repeat (first | refine blk_drewN ?_ _ | refine blk_drew ?_ | refine blk_alloc ?_ _)); refine blk_put (cs := #[.int .i64 5, .int .i64 0, .int .i64 0, .int .i64 0, .int .i64 0, .int .i64 0]) ?_ 2 _ rfl; (with_reducible repeat (first | refine blk_drewN ?_ _ | refine blk_drew ?_ | refine blk_alloc ?_ _)); refine blk_put (cs := #[.int .i64 5, .int .i64 0, .int .i64 0, .int .i64 0, .int .i64 0, .int .i64 0]) ?_ 1 _ rfl; (with_reducible repeat (first | refine blk_drewN ?_ _ | refine blk_drew ?_ | refine blk_alloc ?_ _)); refine blk_put (cs := #[.int .i64 0, .int .i64 0, .int .i64 0, .int .i64 0, .int .i64 0, .int .i64 0]) ?_ 0 _ rfl; (with_reducible repeat (first | refine blk_drewN ?_ _ | refine blk_drew ?_ | refine blk_alloc ?_ _)); exact BK178.out)) : P := h
theorem z2_11 {P : Prop} (h : P := by repeat (first | (with_reducible first | exact HK.out | apply KeepBut.set_ | apply keep_drewN | apply keep_drew | apply keep_alloc | refine keep_far ?_ GW146.out _) | exact HK.out)) : P := h
theorem z2_12 {P : Prop} (h : P := by repeat (first | (with_reducible first | exact HK.out | apply KeepBut.set_ | apply keep_drewN | apply keep_drew | apply keep_alloc | refine keep_far ?_ GW240.out _ | refine keep_far ?_ GW241.out _) | exact HK.out)) : P := h
theorem z2_13 {P : Prop} (h : P := by (with_reducible repeat (first | apply Kd.R_alloc | apply Kd.R_drewN | apply Kd.R_drew)); exact HO_7.out) : P := h
theorem z2_14 {P : Prop} (h : P := by repeat (first | (with_reducible first | exact HI0.out | apply IsS116.alloc | apply IsS116.drewN | apply IsS116.drew | apply IsS116.set_1 | apply IsS116.set_2 | refine IsS116.far ?_ NB0_240.out _ | refine IsS116.far ?_ NB0_241.out _) | exact HI0.out)) : P := h
theorem z2_15 {P : Prop} (h : P := by repeat (first | (with_reducible first | exact HB.out | apply below_alloc | apply pw_below_drewN | apply below_drew1 | refine below_set ?_ (IsS116.ge HI0.out) | refine below_set ?_ GE240.out | refine below_set ?_ GE241.out) | exact HB.out)) : P := h
theorem z2_16 {P : Prop} (h : P := by (with_reducible repeat (first | refine blk_drewN ?_ _ | refine blk_drew ?_ | refine blk_alloc ?_ _)); exact BK146.out) : P := h
theorem z2_17 {P : Prop} (h : P := by (with_reducible repeat (first | refine blk_drewN ?_ _ | refine blk_drew ?_ | refine blk_alloc ?_ _)); exact BK240.out) : P := h
theorem z2_18 {P : Prop} (h : P := by rw [hw]; exact (by (with_reducible repeat (first | apply Kd.R_alloc | apply Kd.R_drewN | apply Kd.R_drew)); exact Kd.R_mono (Kd.R_far (p := ⟨gb178, 5, none⟩) (Kd.R_far (p := ⟨gb178, 4, none⟩) (Kd.R_far (p := ⟨gb178, 3, none⟩) (Kd.R_far (p := ⟨gb178, 2, none⟩) (Kd.R_far (p := ⟨gb178, 1, none⟩) (Kd.R_far (p := ⟨gb178, 0, none⟩) (Kd.R_mono HO_7.out (fun k_ hk => (⟨hk, hk.2⟩ : _ ∧ k_ ≠ gb178))) (fun _ hk => hk.2) (.int .i64 5)) (fun _ hk => hk.2) (.int .i64 0)) (fun _ hk => hk.2) (.int .i64 (wrap64 (1 + t175)))) (fun _ hk => hk.2) (.int .i64 0)) (fun _ hk => hk.2) (.int .i64 0)) (fun _ hk => hk.2) (.int .i64 0)) (fun _ hk => hk.1.2))) : P := h
theorem z2_19 {P : Prop} (h : P := by first | (go_simp; done) | (go_simp; rfl)) : P := h
theorem z2_20 {P : Prop} (h : P := by first | rfl | (simp; done) | (simp [*]; done)) : P := h
theorem z2_21 {P : Prop} (h : P := by repeat (first | (with_reducible first | exact HB.out | apply below_alloc | apply pw_below_drewN | apply below_drew1) | exact HB.out)) : P := h
theorem z2_22 {P : Prop} (h : P := by rw [hg]; exact Nat.ne_of_lt (IsS116.lt (show IsS116 w0 _ g s0_0 s0_1 s0_2 from by repeat (first | (with_reducible first | exact HI0.out | apply IsS116.alloc | apply IsS116.drewN | apply IsS116.drew | apply IsS116.set_1 | apply IsS116.set_2) | exact HI0.out)))) : P := h
theorem z2_23 {P : Prop} (h : P := by rw [hg]; exact Nat.ne_of_gt (IsS116.lt (show IsS116 w0 _ g s0_0 s0_1 s0_2 from by repeat (first | (with_reducible first | exact HI0.out | apply IsS116.alloc | apply IsS116.drewN | apply IsS116.drew | apply IsS116.set_1 | apply IsS116.set_2) | exact HI0.out)))) : P := h
theorem z2_24 {P : Prop} (h : P := by rw [hg]; exact (below_size (by repeat (first | (with_reducible first | exact HBW.out | apply below_alloc | apply pw_below_drewN | apply below_drew1) | exact HBW.out)))) : P := h
theorem z2_25 {P : Prop} (h : P := by (with_reducible repeat (first | refine blk_drewN ?_ _ | refine blk_drew ?_ | refine blk_alloc ?_ _)); exact BK241.out) : P := h
theorem z2_26 {P : Prop} (h : P := by kernel_rfl) : P := h
theorem z2_27 {P : Prop} (h : P := by repeat (first | (with_reducible first | exact HI0.out | apply IsS116.alloc | apply IsS116.drewN | apply IsS116.drew | apply IsS116.set_1 | apply IsS116.set_2 | refine IsS116.far ?_ NB0_136.out _) | exact HI0.out)) : P := h
theorem z2_28 {P : Prop} (h : P := by repeat (first | (with_reducible first | exact HB.out | apply below_alloc | apply pw_below_drewN | apply below_drew1 | refine below_set ?_ (IsS116.ge HI0.out) | refine below_set ?_ GE136.out) | exact HB.out)) : P := h
theorem z2_29 {P : Prop} (h : P := by repeat (first | (with_reducible first | exact HK.out | apply KeepBut.set_ | apply keep_drewN | apply keep_drew | apply keep_alloc | refine keep_far ?_ GW240.out _) | exact HK.out)) : P := h
theorem z2_30 {P : Prop} (h : P := by repeat (first | (with_reducible first | exact HK.out | apply KeepBut.set_ | apply keep_drewN | apply keep_drew | apply keep_alloc | refine keep_far ?_ GW136.out _) | exact HK.out)) : P := h
theorem z2_31 {P : Prop} (h : P := by (with_reducible repeat (first | refine blk_drewN ?_ _ | refine blk_drew ?_ | refine blk_alloc ?_ _)); exact BK261.out) : P := h
theorem z2_32 {P : Prop} (h : P := by (with_reducible repeat (first | apply Kd.S_alloc | apply Kd.S_drewN | apply Kd.S_drew)); exact HO_242000.out) : P := h
theorem z2_33 {P : Prop} (h : P := by rw [hg]; exact Nat.ne_of_lt (IsS116.lt (show IsS116 w0 _ g s0_0 t176 t177 from by repeat (first | (with_reducible first | exact HI0.out | apply IsS116.alloc | apply IsS116.drewN | apply IsS116.drew | apply IsS116.set_1 | apply IsS116.set_2) | exact HI0.out)))) : P := h
theorem z2_34 {P : Prop} (h : P := by rw [hg]; exact Nat.ne_of_gt (IsS116.lt (show IsS116 w0 _ g s0_0 t176 t177 from by repeat (first | (with_reducible first | exact HI0.out | apply IsS116.alloc | apply IsS116.drewN | apply IsS116.drew | apply IsS116.set_1 | apply IsS116.set_2) | exact HI0.out)))) : P := h
theorem z2_35 {P : Prop} (h : P := by first | (with_reducible assumption) | assumption) : P := h
theorem z2_36 {P : Prop} (h : P := by (with_reducible repeat (first | refine blk_drewN ?_ _ | refine blk_drew ?_ | refine blk_alloc ?_ _)); exact BK136.out) : P := h
theorem z2_37 {P : Prop} (h : P := by repeat (first | (with_reducible first | exact HB.out | apply below_alloc | apply pw_below_drewN | apply below_drew1 | refine below_set ?_ (IsS116.ge HI265.out) | refine below_set ?_ GE261.out) | exact HB.out)) : P := h
theorem z2_38 {P : Prop} (h : P := by rw [hg]; exact (keep_size (w := w) (g := g) (row := none) z2_0)) : P := h
theorem z2_39 {P : Prop} (h : P := by exact (fun k_ hk => ⟨Kd.fresh' (Kd.R_lt (by (with_reducible repeat (first | apply Kd.R_alloc | apply Kd.R_drewN | apply Kd.R_drew)); exact HO212.out)) k_ hk, Kd.freshB (g := gb178) (o := .cells #[.int .i64 5, .int .i64 0, .int .i64 (wrap64 (1 + t175)), .int .i64 0, .int .i64 0, .int .i64 0] 77 (0, 0)) z2_7 k_ hk⟩)) : P := h
theorem z2_40 {P : Prop} (h : P := by exact (fun k_ hk => ⟨Kd.fresh' (Kd.R_lt (by (with_reducible repeat (first | apply Kd.R_alloc | apply Kd.R_drewN | apply Kd.R_drew)); exact HO195.out)) k_ hk, Kd.freshB (g := gb178) (o := .cells #[.int .i64 4, .int .i64 0, .int .i64 0, .int .i64 t182, .int .i64 t183, .int .i64 t184] 77 (0, 0)) z2_7 k_ hk⟩)) : P := h
theorem z2_41 {P : Prop} (h : P := by exact (keep_size (w := w) (g := g) (row := none) z2_4)) : P := h
/-! ### laws_big: function 13 -/
def laws_big.f (l0 : List Int) : Option (Bool) := some (decide ((l0.length : Int) > 1048576))
set_option maxHeartbeats 8000000 in
set_option maxRecDepth 100000 in
theorem laws_big.calls (A0 : Option Addr) (c0 : Nat) (l0 : List Int) (r : Bool) (w : World) (hr0 : Kd.C (Kd.int .u8) w A0 l0.length l0) (hc0 : l0.length ≤ c0) (h : laws_big.f l0 = some r) :
    Calls Try.prog 13 #[.slice A0 l0.length c0] w fun e w' => e = .returned (.bool r) ∧ Drawn0 w w' := by
  have HR0 := Aside0.mk hr0
  have HC0 := Aside0.mk hc0
  clear hr0 hc0
  have H : (some (decide ((l0.length : Int) > 1048576))) = some r := h
  clear h
  obtain rfl := Option.some.inj H
  go_enter Try.func13, Try.ntmps13
  go_wp2
  go_ret
  exact ⟨by first | rfl | (simp; done) | (simp [*]; done), by repeat (first | exact Drawn0.refl _ | apply Drawn0.step)⟩

/-- A state of type 116 at block g of W; what its slices lead to came in by w0. -/
def IsS116 (w0 W : World) (g : Nat) (f0 : List Int) (f1 : Int) (f2 : Int) : Prop := ∃ A0 c0, W.heap[g]? = some (.cells #[.slice A0 f0.length c0, .int .i64 f1, .int .i64 f2] 116 (0, 0)) ∧ w0.heap.size ≤ g ∧ Kd.C (Kd.int .u8) w0 A0 f0.length f0
theorem IsS116.grown {w0 W : World} {g : Nat} {f0 : List Int} {f1 : Int} {f2 : Int} {W1 : World} {row : Option Nat} (h : IsS116 w0 W g f0 f1 f2) (hw : W.grownBy W1 row) (hne : some g ≠ row) : IsS116 w0 W1 g f0 f1 f2 := by
  obtain ⟨A0, c0, hb, hg, hr0⟩ := h
  exact ⟨A0, c0, blk_grown hb hw hne, hg, hr0⟩
theorem IsS116.own_neN {w0 W : World} {g : Nat} {f0 : List Int} {f1 : Int} {f2 : Int} {α : Type} {d : Kd α} {e : Nat} {base : Nat} {ok : Nat → Prop} {v : Value} {xs : List α} (h : IsS116 w0 W g f0 f1 f2) (ho : Kd.N d e W base ok v xs) (ht : e ≠ 116) : some g ≠ v.ownBlock := by
  obtain ⟨A0, c0, hb, hg, hr0⟩ := h
  exact Kd.N_ne ho hb ht
theorem IsS116.fresh {w0 W : World} {g : Nat} {f0 : List Int} {f1 : Int} {f2 : Int} (h : IsS116 w0 W g f0 f1 f2) : ∀ k, W.heap.size ≤ k → k ≠ g := by
  obtain ⟨A0, c0, hb, hg, hr0⟩ := h
  exact Kd.freshB hb
theorem IsS116.kept {w0 W : World} {g : Nat} {f0 : List Int} {f1 : Int} {f2 : Int} {W1 : World} {S : Nat → Prop} (h : IsS116 w0 W g f0 f1 f2) (hk : Kept W W1 S) (hne : ¬ S g) : IsS116 w0 W1 g f0 f1 f2 := by
  obtain ⟨A0, c0, hb, hg, hr0⟩ := h
  exact ⟨A0, c0, blk_kept hb hk hne, hg, hr0⟩
theorem IsS116.below {w0 W : World} {g : Nat} {f0 : List Int} {f1 : Int} {f2 : Int} {W1 : World} (h : IsS116 w0 W g f0 f1 f2) (hw : Below W.heap.size W W1) : IsS116 w0 W1 g f0 f1 f2 := h.grown (grown_of_below hw none) (by simp)
theorem IsS116.alloc {w0 W : World} {g : Nat} {f0 : List Int} {f1 : Int} {f2 : Int} (h : IsS116 w0 W g f0 f1 f2) (o : Obj) : IsS116 w0 (W.alloc o) g f0 f1 f2 := h.below (below_alloc (Below.refl _ _) o)
theorem IsS116.drewN {w0 W : World} {g : Nat} {f0 : List Int} {f1 : Int} {f2 : Int} (h : IsS116 w0 W g f0 f1 f2) (m : Nat) : IsS116 w0 (W.drewN m) g f0 f1 f2 := h
theorem IsS116.drew {w0 W : World} {g : Nat} {f0 : List Int} {f1 : Int} {f2 : Int} (h : IsS116 w0 W g f0 f1 f2) : IsS116 w0 W.drew g f0 f1 f2 := h
theorem IsS116.at_ {w0 W : World} {g : Nat} {f0 : List Int} {f1 : Int} {f2 : Int} {w' : World} {m : Nat} (hq : W.drewN m = w') (h : IsS116 w0 W g f0 f1 f2) : IsS116 w0 w' g f0 f1 f2 := by subst hq; exact IsS116.drewN h m
theorem IsS116.apart {w0 W : World} {g : Nat} {f0 : List Int} {f1 : Int} {f2 : Int} {α : Type} {d : Kd α} {e : Nat} {base : Nat} {ok : Nat → Prop} {v : Value} {xs : List α} (h : IsS116 w0 W g f0 f1 f2) (ho : d.R e W base ok v xs) (ht : ∀ q, q ∈ e :: d.E → q ≠ 116) : d.R e W base (fun k => ok k ∧ k ≠ g) v xs := by
  obtain ⟨A0, c0, hb, hg, hr0⟩ := h
  exact Kd.R_types ho hb ht
theorem IsS116.own_ne {w0 W : World} {g : Nat} {f0 : List Int} {f1 : Int} {f2 : Int} {α : Type} {d : Kd α} {e : Nat} {base : Nat} {ok : Nat → Prop} {v : Value} {xs : List α} (h : IsS116 w0 W g f0 f1 f2) (ho : d.R e W base ok v xs) (ht : e ≠ 116) : some g ≠ v.ownBlock := by
  obtain ⟨A0, c0, hb, hg, hr0⟩ := h
  exact Kd.R_ne ho hb ht
theorem IsS116.apartQ {w0 W : World} {g : Nat} {f0 : List Int} {f1 : Int} {f2 : Int} {α : Type} {d : Kd α} {e : Nat} {base : Nat} {ok : Nat → Prop} {v : Value} {xs : List α} (h : IsS116 w0 W g f0 f1 f2) (ho : d.Q e W base ok v xs) (ht : ∀ q, q ∈ e :: d.E → q ≠ 116) : d.Q e W base (fun k => ok k ∧ k ≠ g) v xs := by
  obtain ⟨A0, c0, hb, hg, hr0⟩ := h
  exact Kd.Q_types ho hb ht
theorem IsS116.own_neQ {w0 W : World} {g : Nat} {f0 : List Int} {f1 : Int} {f2 : Int} {α : Type} {d : Kd α} {e : Nat} {base : Nat} {ok : Nat → Prop} {v : Value} {xs : List α} (h : IsS116 w0 W g f0 f1 f2) (ho : d.Q e W base ok v xs) (ht : e ≠ 116) : some g ≠ v.ownBlock := by
  obtain ⟨A0, c0, hb, hg, hr0⟩ := h
  exact Kd.Q_ne ho hb ht
theorem IsS116.apartS {w0 W : World} {g : Nat} {f0 : List Int} {f1 : Int} {f2 : Int} {α : Type} {d : Kd α} {e : Nat} {base : Nat} {ok : Nat → Prop} {v : Value} {xs : List α} (h : IsS116 w0 W g f0 f1 f2) (ho : d.S e W base ok v xs) (ht : ∀ q, q ∈ e :: d.E → q ≠ 116) : d.S e W base (fun k => ok k ∧ k ≠ g) v xs := by
  obtain ⟨A0, c0, hb, hg, hr0⟩ := h
  exact Kd.S_types ho hb ht
theorem IsS116.own_neS {w0 W : World} {g : Nat} {f0 : List Int} {f1 : Int} {f2 : Int} {α : Type} {d : Kd α} {e : Nat} {base : Nat} {ok : Nat → Prop} {v : Value} {xs : List α} (h : IsS116 w0 W g f0 f1 f2) (ho : d.S e W base ok v xs) (ht : e ≠ 116) : some g ≠ v.ownBlock := by
  obtain ⟨A0, c0, hb, hg, hr0⟩ := h
  exact Kd.S_ne ho hb ht
theorem IsS116.lt {w0 W : World} {g : Nat} {f0 : List Int} {f1 : Int} {f2 : Int} (h : IsS116 w0 W g f0 f1 f2) : g < W.heap.size := by
  obtain ⟨A0, c0, hb, hg, hr0⟩ := h
  exact blk_lt hb
theorem IsS116.ge {w0 W : World} {g : Nat} {f0 : List Int} {f1 : Int} {f2 : Int} (h : IsS116 w0 W g f0 f1 f2) : w0.heap.size ≤ g := by
  obtain ⟨A0, c0, hb, hg, hr0⟩ := h
  exact hg
theorem IsS116.ne_blk {w0 W : World} {g : Nat} {f0 : List Int} {f1 : Int} {f2 : Int} {a : Nat} {cs : Array Value} {t : TypeId} {fr : Nat × Nat} (h : IsS116 w0 W g f0 f1 f2) (hb2 : W.heap[a]? = some (.cells cs t fr)) (ht : t ≠ 116) : g ≠ a := by
  obtain ⟨A0, c0, hb, hg, hr0⟩ := h
  rintro rfl
  rw [hb] at hb2
  injection hb2 with hb2
  injection hb2 with _ ht2
  exact ht ht2.symm
theorem IsS116.far {w0 W : World} {g : Nat} {f0 : List Int} {f1 : Int} {f2 : Int} {p : Addr} (h : IsS116 w0 W g f0 f1 f2) (hne : g ≠ p.block) (u : Value) : IsS116 w0 (W.setCell p u) g f0 f1 f2 := by
  obtain ⟨A0, c0, hb, hg, hr0⟩ := h
  exact ⟨A0, c0, blk_far hb hne u, hg, hr0⟩
theorem cellS116_0 {W : World} {g : Nat} {A0 : Option Addr} {c0 : Nat} {f0 : List Int} {f1 : Int} {f2 : Int} (h : W.heap[g]? = some (.cells #[.slice A0 f0.length c0, .int .i64 f1, .int .i64 f2] 116 (0, 0))) : W.cell? ⟨g, 0, none⟩ = some (.slice A0 f0.length c0) := (blk_cell h 0).trans rfl
theorem cellS116_1 {W : World} {g : Nat} {A0 : Option Addr} {c0 : Nat} {f0 : List Int} {f1 : Int} {f2 : Int} (h : W.heap[g]? = some (.cells #[.slice A0 f0.length c0, .int .i64 f1, .int .i64 f2] 116 (0, 0))) : W.cell? ⟨g, 1, none⟩ = some (.int .i64 f1) := (blk_cell h 1).trans rfl
theorem IsS116.set_1 {w0 W : World} {g : Nat} {f0 : List Int} {f1 : Int} {f2 : Int} (h : IsS116 w0 W g f0 f1 f2) (x : Int) : IsS116 w0 (W.setCell ⟨g, 1, none⟩ (.int .i64 x)) g f0 x f2 := by
  obtain ⟨A0, c0, hb, hg, hr0⟩ := h
  exact ⟨A0, c0, by simpa using blk_set hb 1 (.int .i64 x), hg, hr0⟩
theorem cellS116_2 {W : World} {g : Nat} {A0 : Option Addr} {c0 : Nat} {f0 : List Int} {f1 : Int} {f2 : Int} (h : W.heap[g]? = some (.cells #[.slice A0 f0.length c0, .int .i64 f1, .int .i64 f2] 116 (0, 0))) : W.cell? ⟨g, 2, none⟩ = some (.int .i64 f2) := (blk_cell h 2).trans rfl
theorem IsS116.set_2 {w0 W : World} {g : Nat} {f0 : List Int} {f1 : Int} {f2 : Int} (h : IsS116 w0 W g f0 f1 f2) (x : Int) : IsS116 w0 (W.setCell ⟨g, 2, none⟩ (.int .i64 x)) g f0 f1 x := by
  obtain ⟨A0, c0, hb, hg, hr0⟩ := h
  exact ⟨A0, c0, by simpa using blk_set hb 2 (.int .i64 x), hg, hr0⟩
theorem IsS116.new (w0 W : World) (A0 : Option Addr) (c0 : Nat) (f0 : List Int) (f1 : Int) (f2 : Int) (hB : Below w0.heap.size w0 W) (hr0 : Kd.C (Kd.int .u8) w0 A0 f0.length f0) : IsS116 w0 (W.alloc (.cells #[.slice A0 f0.length c0, .int .i64 f1, .int .i64 f2] 116)) W.heap.size f0 f1 f2 := ⟨A0, c0, by simpa using heap_alloc_new W _, hB.size, hr0⟩

/-! ### spec_l01Byte: function 110 -/
def spec_l01Byte.f (s0_0 : List Int) (s0_1 : Int) (s0_2 : Int) : Option (Int × Int × Int) := if s0_1 < (s0_0.length : Int) then (if 0 ≤ s0_1 then (some (Go.bits .and .i64 (wrap64 ((Go.bits .and .i64 (Go.bits .xor .i64 ((wrap64 ((wrap64 (s0_2 * 6364136223846793005)) + 1442695040888963407)) / 8589934592) ((wrap64 ((wrap64 (s0_2 * 6364136223846793005)) + 1442695040888963407)) / 35184372088832)) 255) + (wrap64 (rd s0_0 s0_1)))) 255, wrap64 (s0_1 + 1), wrap64 ((wrap64 (s0_2 * 6364136223846793005)) + 1442695040888963407))) else (none)) else (some (Go.bits .and .i64 (Go.bits .xor .i64 ((wrap64 ((wrap64 (s0_2 * 6364136223846793005)) + 1442695040888963407)) / 8589934592) ((wrap64 ((wrap64 (s0_2 * 6364136223846793005)) + 1442695040888963407)) / 35184372088832)) 255, s0_1, wrap64 ((wrap64 (s0_2 * 6364136223846793005)) + 1442695040888963407)))
set_option maxHeartbeats 8000000 in
set_option maxRecDepth 100000 in
theorem spec_l01Byte.calls (g : Nat) (s0_0 : List Int) (s0_1 : Int) (s0_2 : Int) (r1 : Int) (r2 : Int) (r3 : Int) (w0 w : World) (hI : IsS116 w0 w g s0_0 s0_1 s0_2) (hB : Below w0.heap.size w0 w) (h : spec_l01Byte.f s0_0 s0_1 s0_2 = some (r1, r2, r3)) :
    Calls Try.prog 110 #[.pointer (some ⟨g, 0, none⟩)] w fun e w' => e = .returned (.int .i64 r1) ∧ IsS116 w0 w' g s0_0 r2 r3 ∧ Below w0.heap.size w0 w' ∧ KeepBut w w' g none := by
  have HI0 := Aside0.mk hI
  have HK := Aside0.mk (KeepBut.refl w g none)
  have HL := Aside0.mk hB.size
  clear hI
  have HW0 := Aside0.mk hB.size
  have HB := Aside0.mk hB
  clear hB
  have H : (if s0_1 < (s0_0.length : Int) then (if 0 ≤ s0_1 then (some (Go.bits .and .i64 (wrap64 ((Go.bits .and .i64 (Go.bits .xor .i64 ((wrap64 ((wrap64 (s0_2 * 6364136223846793005)) + 1442695040888963407)) / 8589934592) ((wrap64 ((wrap64 (s0_2 * 6364136223846793005)) + 1442695040888963407)) / 35184372088832)) 255) + (wrap64 (rd s0_0 s0_1)))) 255, wrap64 (s0_1 + 1), wrap64 ((wrap64 (s0_2 * 6364136223846793005)) + 1442695040888963407))) else (none)) else (some (Go.bits .and .i64 (Go.bits .xor .i64 ((wrap64 ((wrap64 (s0_2 * 6364136223846793005)) + 1442695040888963407)) / 8589934592) ((wrap64 ((wrap64 (s0_2 * 6364136223846793005)) + 1442695040888963407)) / 35184372088832)) 255, s0_1, wrap64 ((wrap64 (s0_2 * 6364136223846793005)) + 1442695040888963407)))) = some (r1, r2, r3) := h
  clear h
  by_cases c2 : s0_1 < (s0_0.length : Int)
  · rw [if_pos c2] at H
    have c2b0 : decide (s0_1 < (s0_0.length : Int)) = true := decide_eq_true c2
    clear c2
    by_cases c3 : 0 ≤ s0_1
    · rw [if_pos c3] at H
      have c3b0 : decide (0 ≤ s0_1) = true := decide_eq_true c3
      clear c3
      simp only [Option.some.injEq, Prod.mk.injEq] at H
      obtain ⟨rfl, rfl, rfl⟩ := H
      obtain ⟨ASz4_0, cSz4_0, HGz4, hgz4, HSz4_0⟩ := HI0.out
      have hcz4_0 := cellS116_0 HGz4
      have hcz4_1 := cellS116_1 HGz4
      have hcz4_2 := cellS116_2 HGz4
      have hfz4_1 := blk_frozen HGz4 1
      have hfz4_2 := blk_frozen HGz4 2
      clear HGz4 hgz4
      have p101 : 0 ≤ (s0_1 : Int) := of_decide_eq_true z2_35
      have q101 : s0_1 < (s0_0.length : Int) := of_decide_eq_true z2_35
      obtain ⟨ad101, e101, hx101_0⟩ := Kd.at_int HSz4_0 s0_1 p101 q101
      cases e101
      have hn101_0 : ad101.block ≠ g := Nat.ne_of_lt (Nat.lt_of_lt_of_le (by have := World.block_lt_of_cell? _ _ hx101_0; first | rwa [add_block] at this | exact this) (IsS116.ge HI0.out))
      replace hx101_0 := pw_cell_below HB.out hx101_0
      replace hx101_0 := (cell_far (p := ⟨g, 2, none⟩) (by first | (rw [add_block]; exact hn101_0) | (show (Addr.add _ _).block ≠ _; rw [add_block]; exact hn101_0) | exact hn101_0) (.int .i64 (wrap64 ((wrap64 (s0_2 * 6364136223846793005)) + 1442695040888963407)))).trans hx101_0
      (try have hy101_0 := fun (n_ : Nat) => (show (((w.drewN n_).setCell ⟨g, 2, none⟩ (.int .i64 (wrap64 ((wrap64 (s0_2 * 6364136223846793005)) + 1442695040888963407))))).cell? _ = some _ from hx101_0))
      clear hn101_0
      replace p101 := eq_true p101
      replace q101 := eq_true q101
      go_enter Try.func110, Try.ntmps110
      go_wp2
      repeat (go_quiet (fail); try go_wp2)
      go_ret
      exact ⟨by first | rfl | (simp [errW_none, errW_some] <;> rfl) | (simp [*, errW_none, errW_some] <;> rfl) | (simp [*, errW_none, errW_some, i64_w]; done), by repeat (first | (with_reducible first | exact HI0.out | apply IsS116.alloc | apply IsS116.drewN | apply IsS116.drew | apply IsS116.set_1 | apply IsS116.set_2) | exact HI0.out), by repeat (first | (with_reducible first | exact HB.out | apply below_alloc | apply pw_below_drewN | apply below_drew1 | refine below_set ?_ (IsS116.ge HI0.out)) | exact HB.out), by repeat (first | (with_reducible first | exact HK.out | apply KeepBut.set_ | apply keep_drewN | apply keep_drew | apply keep_alloc) | exact HK.out)⟩
    · rw [if_neg c3] at H
      exact absurd H (by simp)
  · rw [if_neg c2] at H
    have c2b0 : decide (s0_1 < (s0_0.length : Int)) = false := decide_eq_false c2
    clear c2
    simp only [Option.some.injEq, Prod.mk.injEq] at H
    obtain ⟨rfl, rfl, rfl⟩ := H
    obtain ⟨ASz5_0, cSz5_0, HGz5, hgz5, HSz5_0⟩ := HI0.out
    have hcz5_0 := cellS116_0 HGz5
    have hcz5_1 := cellS116_1 HGz5
    have hcz5_2 := cellS116_2 HGz5
    have hfz5_1 := blk_frozen HGz5 1
    have hfz5_2 := blk_frozen HGz5 2
    clear HGz5 hgz5
    go_enter Try.func110, Try.ntmps110
    go_wp2
    repeat (go_quiet (fail); try go_wp2)
    go_ret
    exact ⟨by first | rfl | (simp [errW_none, errW_some] <;> rfl) | (simp [*, errW_none, errW_some] <;> rfl) | (simp [*, errW_none, errW_some, i64_w]; done), by repeat (first | (with_reducible first | exact HI0.out | apply IsS116.alloc | apply IsS116.drewN | apply IsS116.drew | apply IsS116.set_1 | apply IsS116.set_2) | exact HI0.out), by repeat (first | (with_reducible first | exact HB.out | apply below_alloc | apply pw_below_drewN | apply below_drew1 | refine below_set ?_ (IsS116.ge HI0.out)) | exact HB.out), by repeat (first | (with_reducible first | exact HK.out | apply KeepBut.set_ | apply keep_drewN | apply keep_drew | apply keep_alloc) | exact HK.out)⟩

/-! ### spec_l01Below: function 68 -/
def spec_l01Below.f (s0_0 : List Int) (s0_1 : Int) (s0_2 : Int) (a1 : Int) : Option (Int × Int × Int) := if a1 ≤ 0 then (some (0, s0_1, s0_2)) else (if a1 ≤ 256 then ((spec_l01Byte.f s0_0 s0_1 s0_2).bind fun bt102 => (if a1 = 0 then (none) else (some (Int.tmod bt102.1 a1, bt102.2.1, bt102.2.2)))) else ((spec_l01Byte.f s0_0 s0_1 s0_2).bind fun bt105 => ((spec_l01Byte.f s0_0 bt105.2.1 bt105.2.2).bind fun bt108 => ((spec_l01Byte.f s0_0 bt108.2.1 bt108.2.2).bind fun bt111 => ((spec_l01Byte.f s0_0 bt111.2.1 bt111.2.2).bind fun bt114 => (if a1 = 0 then (none) else (some (Int.tmod (wrap64 ((wrap64 ((wrap64 ((wrap64 (bt105.1 * 16777216)) + (wrap64 (bt108.1 * 65536)))) + (wrap64 (bt111.1 * 256)))) + bt114.1)) a1, bt114.2.1, bt114.2.2))))))))
set_option maxHeartbeats 8000000 in
set_option maxRecDepth 100000 in
theorem spec_l01Below.calls (g : Nat) (s0_0 : List Int) (s0_1 : Int) (s0_2 : Int) (a1 : Int) (r1 : Int) (r2 : Int) (r3 : Int) (w0 w : World) (hI : IsS116 w0 w g s0_0 s0_1 s0_2) (hB : Below w0.heap.size w0 w) (h : spec_l01Below.f s0_0 s0_1 s0_2 a1 = some (r1, r2, r3)) :
    Calls Try.prog 68 #[.pointer (some ⟨g, 0, none⟩), .int .i64 a1] w fun e w' => e = .returned (.int .i64 r1) ∧ IsS116 w0 w' g s0_0 r2 r3 ∧ Below w0.heap.size w0 w' ∧ KeepBut w w' g none := by
  have HI0 := Aside0.mk hI
  have HK := Aside0.mk (KeepBut.refl w g none)
  have HL := Aside0.mk hB.size
  clear hI
  have HW0 := Aside0.mk hB.size
  have HB := Aside0.mk hB
  clear hB
  have H : (if a1 ≤ 0 then (some (0, s0_1, s0_2)) else (if a1 ≤ 256 then ((spec_l01Byte.f s0_0 s0_1 s0_2).bind fun bt102 => (if a1 = 0 then (none) else (some (Int.tmod bt102.1 a1, bt102.2.1, bt102.2.2)))) else ((spec_l01Byte.f s0_0 s0_1 s0_2).bind fun bt105 => ((spec_l01Byte.f s0_0 bt105.2.1 bt105.2.2).bind fun bt108 => ((spec_l01Byte.f s0_0 bt108.2.1 bt108.2.2).bind fun bt111 => ((spec_l01Byte.f s0_0 bt111.2.1 bt111.2.2).bind fun bt114 => (if a1 = 0 then (none) else (some (Int.tmod (wrap64 ((wrap64 ((wrap64 ((wrap64 (bt105.1 * 16777216)) + (wrap64 (bt108.1 * 65536)))) + (wrap64 (bt111.1 * 256)))) + bt114.1)) a1, bt114.2.1, bt114.2.2))))))))) = some (r1, r2, r3) := h
  clear h
  by_cases c3 : a1 ≤ 0
  · rw [if_pos c3] at H
    have c3b0 : decide (a1 ≤ 0) = true := decide_eq_true c3
    clear c3
    simp only [Option.some.injEq, Prod.mk.injEq] at H
    obtain ⟨rfl, rfl, rfl⟩ := H
    go_enter Try.func68, Try.ntmps68
    go_wp2
    go_ret
    exact ⟨by first | rfl | (simp [errW_none, errW_some] <;> rfl) | (simp [*, errW_none, errW_some] <;> rfl) | (simp [*, errW_none, errW_some, i64_w]; done), by repeat (first | (with_reducible first | exact HI0.out | apply IsS116.alloc | apply IsS116.drewN | apply IsS116.drew | apply IsS116.set_1 | apply IsS116.set_2) | exact HI0.out), by repeat (first | (with_reducible first | exact HB.out | apply below_alloc | apply pw_below_drewN | apply below_drew1 | refine below_set ?_ (IsS116.ge HI0.out)) | exact HB.out), by repeat (first | (with_reducible first | exact HK.out | apply KeepBut.set_ | apply keep_drewN | apply keep_drew | apply keep_alloc) | exact HK.out)⟩
  · rw [if_neg c3] at H
    have c3b0 : decide (a1 ≤ 0) = false := decide_eq_false c3
    clear c3
    by_cases c4 : a1 ≤ 256
    · rw [if_pos c4] at H
      have c4b0 : decide (a1 ≤ 256) = true := decide_eq_true c4
      clear c4
      replace H := Option.bind_eq_some_iff.mp H
      obtain ⟨⟨t102, t103, t104⟩, A50, H⟩ := H
      replace H : (if a1 = 0 then (none) else (some (Int.tmod t102 a1, t103, t104))) = some (r1, r2, r3) := H
      have A5 := Aside0.mk A50
      clear A50
      by_cases c6 : a1 = 0
      · rw [if_pos c6] at H
        exact absurd H (by simp)
      · rw [if_neg c6] at H
        have c6b0 : (a1 == 0) = false := beq_eq_false_iff_ne.mpr c6
        have c6b1 : (a1 != 0) = true := bne_iff_ne.mpr c6
        simp only [Option.some.injEq, Prod.mk.injEq] at H
        obtain ⟨rfl, rfl, rfl⟩ := H
        go_enter Try.func68, Try.ntmps68
        go_wp2_with (first | ((first | ((with_reducible refine gate_callee (f := 110) rfl ?_); refine goesL_ (some 14) rfl rfl Try.func110 z2_26 rfl #[.pointer (some ⟨g, 0, none⟩)] rfl z2_1 ?_; (with_reducible refine (spec_l01Byte.calls g s0_0 s0_1 s0_2 t102 t103 t104 w0 _ ?side1 ?side2 A5.out).mono ?_)) | (go_at_call 110; (with_reducible refine (spec_l01Byte.calls g s0_0 s0_1 s0_2 t102 t103 t104 w0 _ ?side1 ?side2 A5.out).mono ?_))); (case side1 => exact z2_2); (case side2 => exact z2_3); rintro e w7 ⟨rfl, hi, hb, hk⟩; (first | refine ⟨_, rfl, ?_⟩ | skip); have n0_ := Aside0.mk (KeepBut.trans z2_0 hk (.inl rfl)); have n1_ := Aside0.mk (hb); have n2_ := Aside0.mk (hi); clear HK; clear HB; clear HI0; have HK := n0_; have HB := n1_; have HI0 := n2_; clear n0_ n1_ n2_; (try clear hb); (try clear hb2); (try clear hk); (try clear hi)))
        go_ret
        exact ⟨by first | rfl | (simp [errW_none, errW_some] <;> rfl) | (simp [*, errW_none, errW_some] <;> rfl) | (simp [*, errW_none, errW_some, i64_w]; done), by repeat (first | (with_reducible first | exact HI0.out | apply IsS116.alloc | apply IsS116.drewN | apply IsS116.drew | apply IsS116.set_1 | apply IsS116.set_2) | exact HI0.out), by repeat (first | (with_reducible first | exact HB.out | apply below_alloc | apply pw_below_drewN | apply below_drew1 | refine below_set ?_ (IsS116.ge HI0.out)) | exact HB.out), by repeat (first | (with_reducible first | exact HK.out | apply KeepBut.set_ | apply keep_drewN | apply keep_drew | apply keep_alloc) | exact HK.out)⟩
    · rw [if_neg c4] at H
      have c4b0 : decide (a1 ≤ 256) = false := decide_eq_false c4
      clear c4
      replace H := Option.bind_eq_some_iff.mp H
      obtain ⟨⟨t105, t106, t107⟩, A80, H⟩ := H
      replace H : ((spec_l01Byte.f s0_0 t106 t107).bind fun bt108 => ((spec_l01Byte.f s0_0 bt108.2.1 bt108.2.2).bind fun bt111 => ((spec_l01Byte.f s0_0 bt111.2.1 bt111.2.2).bind fun bt114 => (if a1 = 0 then (none) else (some (Int.tmod (wrap64 ((wrap64 ((wrap64 ((wrap64 (t105 * 16777216)) + (wrap64 (bt108.1 * 65536)))) + (wrap64 (bt111.1 * 256)))) + bt114.1)) a1, bt114.2.1, bt114.2.2)))))) = some (r1, r2, r3) := H
      have A8 := Aside0.mk A80
      clear A80
      replace H := Option.bind_eq_some_iff.mp H
      obtain ⟨⟨t108, t109, t110⟩, A90, H⟩ := H
      replace H : ((spec_l01Byte.f s0_0 t109 t110).bind fun bt111 => ((spec_l01Byte.f s0_0 bt111.2.1 bt111.2.2).bind fun bt114 => (if a1 = 0 then (none) else (some (Int.tmod (wrap64 ((wrap64 ((wrap64 ((wrap64 (t105 * 16777216)) + (wrap64 (t108 * 65536)))) + (wrap64 (bt111.1 * 256)))) + bt114.1)) a1, bt114.2.1, bt114.2.2))))) = some (r1, r2, r3) := H
      have A9 := Aside0.mk A90
      clear A90
      replace H := Option.bind_eq_some_iff.mp H
      obtain ⟨⟨t111, t112, t113⟩, A100, H⟩ := H
      replace H : ((spec_l01Byte.f s0_0 t112 t113).bind fun bt114 => (if a1 = 0 then (none) else (some (Int.tmod (wrap64 ((wrap64 ((wrap64 ((wrap64 (t105 * 16777216)) + (wrap64 (t108 * 65536)))) + (wrap64 (t111 * 256)))) + bt114.1)) a1, bt114.2.1, bt114.2.2)))) = some (r1, r2, r3) := H
      have A10 := Aside0.mk A100
      clear A100
      replace H := Option.bind_eq_some_iff.mp H
      obtain ⟨⟨t114, t115, t116⟩, A110, H⟩ := H
      replace H : (if a1 = 0 then (none) else (some (Int.tmod (wrap64 ((wrap64 ((wrap64 ((wrap64 (t105 * 16777216)) + (wrap64 (t108 * 65536)))) + (wrap64 (t111 * 256)))) + t114)) a1, t115, t116))) = some (r1, r2, r3) := H
      have A11 := Aside0.mk A110
      clear A110
      by_cases c12 : a1 = 0
      · rw [if_pos c12] at H
        exact absurd H (by simp)
      · rw [if_neg c12] at H
        have c12b0 : (a1 == 0) = false := beq_eq_false_iff_ne.mpr c12
        have c12b1 : (a1 != 0) = true := bne_iff_ne.mpr c12
        simp only [Option.some.injEq, Prod.mk.injEq] at H
        obtain ⟨rfl, rfl, rfl⟩ := H
        go_enter Try.func68, Try.ntmps68
        go_wp2_with (first | ((first | ((with_reducible refine gate_callee (f := 110) rfl ?_); refine goesL_ (some 18) rfl rfl Try.func110 z2_26 rfl #[.pointer (some ⟨g, 0, none⟩)] rfl z2_1 ?_; (with_reducible refine (spec_l01Byte.calls g s0_0 s0_1 s0_2 t105 t106 t107 w0 _ ?side1 ?side2 A8.out).mono ?_)) | (go_at_call 110; (with_reducible refine (spec_l01Byte.calls g s0_0 s0_1 s0_2 t105 t106 t107 w0 _ ?side1 ?side2 A8.out).mono ?_))); (case side1 => exact z2_2); (case side2 => exact z2_3); rintro e w13 ⟨rfl, hi, hb, hk⟩; (first | refine ⟨_, rfl, ?_⟩ | skip); have n0_ := Aside0.mk (KeepBut.trans z2_0 hk (.inl rfl)); have n1_ := Aside0.mk (hb); have n2_ := Aside0.mk (hi); clear HK; clear HB; clear HI0; have HK := n0_; have HB := n1_; have HI0 := n2_; clear n0_ n1_ n2_; (try clear hb); (try clear hb2); (try clear hk); (try clear hi)) | ((first | ((with_reducible refine gate_callee (f := 110) rfl ?_); refine goesL_ (some 20) rfl rfl Try.func110 z2_26 rfl #[.pointer (some ⟨g, 0, none⟩)] rfl z2_1 ?_; (with_reducible refine (spec_l01Byte.calls g s0_0 t106 t107 t108 t109 t110 w0 _ ?side1 ?side2 A9.out).mono ?_)) | (go_at_call 110; (with_reducible refine (spec_l01Byte.calls g s0_0 t106 t107 t108 t109 t110 w0 _ ?side1 ?side2 A9.out).mono ?_))); (case side1 => exact z2_2); (case side2 => exact z2_3); rintro e w14 ⟨rfl, hi, hb, hk⟩; (first | refine ⟨_, rfl, ?_⟩ | skip); have n0_ := Aside0.mk (KeepBut.trans z2_0 hk (.inl rfl)); have n1_ := Aside0.mk (hb); have n2_ := Aside0.mk (hi); clear HK; clear HB; clear HI0; have HK := n0_; have HB := n1_; have HI0 := n2_; clear n0_ n1_ n2_; (try clear hb); (try clear hb2); (try clear hk); (try clear hi)) | ((first | ((with_reducible refine gate_callee (f := 110) rfl ?_); refine goesL_ (some 22) rfl rfl Try.func110 z2_26 rfl #[.pointer (some ⟨g, 0, none⟩)] rfl z2_1 ?_; (with_reducible refine (spec_l01Byte.calls g s0_0 t109 t110 t111 t112 t113 w0 _ ?side1 ?side2 A10.out).mono ?_)) | (go_at_call 110; (with_reducible refine (spec_l01Byte.calls g s0_0 t109 t110 t111 t112 t113 w0 _ ?side1 ?side2 A10.out).mono ?_))); (case side1 => exact z2_2); (case side2 => exact z2_3); rintro e w15 ⟨rfl, hi, hb, hk⟩; (first | refine ⟨_, rfl, ?_⟩ | skip); have n0_ := Aside0.mk (KeepBut.trans z2_0 hk (.inl rfl)); have n1_ := Aside0.mk (hb); have n2_ := Aside0.mk (hi); clear HK; clear HB; clear HI0; have HK := n0_; have HB := n1_; have HI0 := n2_; clear n0_ n1_ n2_; (try clear hb); (try clear hb2); (try clear hk); (try clear hi)) | ((first | ((with_reducible refine gate_callee (f := 110) rfl ?_); refine goesL_ (some 24) rfl rfl Try.func110 z2_26 rfl #[.pointer (some ⟨g, 0, none⟩)] rfl z2_1 ?_; (with_reducible refine (spec_l01Byte.calls g s0_0 t112 t113 t114 t115 t116 w0 _ ?side1 ?side2 A11.out).mono ?_)) | (go_at_call 110; (with_reducible refine (spec_l01Byte.calls g s0_0 t112 t113 t114 t115 t116 w0 _ ?side1 ?side2 A11.out).mono ?_))); (case side1 => exact z2_2); (case side2 => exact z2_3); rintro e w16 ⟨rfl, hi, hb, hk⟩; (first | refine ⟨_, rfl, ?_⟩ | skip); have n0_ := Aside0.mk (KeepBut.trans z2_0 hk (.inl rfl)); have n1_ := Aside0.mk (hb); have n2_ := Aside0.mk (hi); clear HK; clear HB; clear HI0; have HK := n0_; have HB := n1_; have HI0 := n2_; clear n0_ n1_ n2_; (try clear hb); (try clear hb2); (try clear hk); (try clear hi)))
        go_ret
        exact ⟨by first | rfl | (simp [errW_none, errW_some] <;> rfl) | (simp [*, errW_none, errW_some] <;> rfl) | (simp [*, errW_none, errW_some, i64_w]; done), by repeat (first | (with_reducible first | exact HI0.out | apply IsS116.alloc | apply IsS116.drewN | apply IsS116.drew | apply IsS116.set_1 | apply IsS116.set_2) | exact HI0.out), by repeat (first | (with_reducible first | exact HB.out | apply below_alloc | apply pw_below_drewN | apply below_drew1 | refine below_set ?_ (IsS116.ge HI0.out)) | exact HB.out), by repeat (first | (with_reducible first | exact HK.out | apply KeepBut.set_ | apply keep_drewN | apply keep_drew | apply keep_alloc) | exact HK.out)⟩

/-! ### spec_l01PickInt: function 97 -/
def spec_l01PickInt.f (s0_0 : List Int) (s0_1 : Int) (s0_2 : Int) (l1 : List Int) : Option (Int × Int × Int) := (spec_l01Below.f s0_0 s0_1 s0_2 (l1.length : Int)).bind fun bt117 => (if 0 ≤ bt117.1 then (if bt117.1 < (l1.length : Int) then (some (rd l1 bt117.1, bt117.2.1, bt117.2.2)) else (none)) else (none))
set_option maxHeartbeats 8000000 in
set_option maxRecDepth 100000 in
theorem spec_l01PickInt.calls (g : Nat) (s0_0 : List Int) (s0_1 : Int) (s0_2 : Int) (A1 : Option Addr) (c1 : Nat) (l1 : List Int) (r1 : Int) (r2 : Int) (r3 : Int) (w0 w : World) (hI : IsS116 w0 w g s0_0 s0_1 s0_2) (hB : Below w0.heap.size w0 w) (hr1 : Kd.C (Kd.int .i64) w A1 l1.length l1) (hc1 : l1.length ≤ c1) (hf1 : ∀ ad, A1 = some ad → 0 < l1.length → ad.block ≠ g) (h : spec_l01PickInt.f s0_0 s0_1 s0_2 l1 = some (r1, r2, r3)) :
    Calls Try.prog 97 #[.pointer (some ⟨g, 0, none⟩), .slice A1 l1.length c1] w fun e w' => e = .returned (.int .i64 r1) ∧ IsS116 w0 w' g s0_0 r2 r3 ∧ Below w0.heap.size w0 w' ∧ KeepBut w w' g none := by
  have HR1 := Aside0.mk hr1
  have HC1 := Aside0.mk hc1
  clear hr1 hc1
  have HI0 := Aside0.mk hI
  have HK := Aside0.mk (KeepBut.refl w g none)
  have HL := Aside0.mk hB.size
  clear hI
  have HW0 := Aside0.mk hB.size
  have HB := Aside0.mk hB
  clear hB
  have H : ((spec_l01Below.f s0_0 s0_1 s0_2 (l1.length : Int)).bind fun bt117 => (if 0 ≤ bt117.1 then (if bt117.1 < (l1.length : Int) then (some (rd l1 bt117.1, bt117.2.1, bt117.2.2)) else (none)) else (none))) = some (r1, r2, r3) := h
  clear h
  replace H := Option.bind_eq_some_iff.mp H
  obtain ⟨⟨t117, t118, t119⟩, A30, H⟩ := H
  replace H : (if 0 ≤ t117 then (if t117 < (l1.length : Int) then (some (rd l1 t117, t118, t119)) else (none)) else (none)) = some (r1, r2, r3) := H
  have A3 := Aside0.mk A30
  clear A30
  by_cases c4 : 0 ≤ t117
  · rw [if_pos c4] at H
    have c4b0 : decide (0 ≤ t117) = true := decide_eq_true c4
    clear c4
    by_cases c5 : t117 < (l1.length : Int)
    · rw [if_pos c5] at H
      have c5b0 : decide (t117 < (l1.length : Int)) = true := decide_eq_true c5
      clear c5
      simp only [Option.some.injEq, Prod.mk.injEq] at H
      obtain ⟨rfl, rfl, rfl⟩ := H
      go_enter Try.func97, Try.ntmps97
      go_wp2_with (first | ((first | ((with_reducible refine gate_callee (f := 68) rfl ?_); refine goesL_ (some 9) rfl rfl Try.func68 z2_26 rfl #[.pointer (some ⟨g, 0, none⟩), .int .i64 (l1.length : Int)] rfl z2_1 ?_; (with_reducible refine (spec_l01Below.calls g s0_0 s0_1 s0_2 (l1.length : Int) t117 t118 t119 w0 _ ?side1 ?side2 A3.out).mono ?_)) | (go_at_call 68; (with_reducible refine (spec_l01Below.calls g s0_0 s0_1 s0_2 (l1.length : Int) t117 t118 t119 w0 _ ?side1 ?side2 A3.out).mono ?_))); (case side1 => exact z2_2); (case side2 => exact z2_3); rintro e w6 ⟨rfl, hi, hb, hk⟩; (first | refine ⟨_, rfl, ?_⟩ | skip); have n0_ := Aside0.mk (KeepBut.trans z2_0 hk (.inl rfl)); have n1_ := Aside0.mk (hb); have n2_ := Aside0.mk (hi); clear HK; clear HB; clear HI0; have HK := n0_; have HB := n1_; have HI0 := n2_; clear n0_ n1_ n2_; (try clear hb); (try clear hb2); (try clear hk); (try clear hi); have p120 : 0 ≤ (t117 : Int) := of_decide_eq_true z2_35; have q120 : t117 < (l1.length : Int) := of_decide_eq_true z2_35; obtain ⟨ad120, e120, hx120_0⟩ := Kd.at_int HR1.out t117 p120 q120; cases e120; replace hx120_0 := keep_cell HK.out hx120_0 (by first | (rw [add_block]; exact hf1 _ rfl (by omega)) | exact hf1 _ rfl (by omega) | exact hf1 ad120 rfl (by omega)); replace p120 := eq_true p120; replace q120 := eq_true q120))
      go_ret
      exact ⟨by first | rfl | (simp [errW_none, errW_some] <;> rfl) | (simp [*, errW_none, errW_some] <;> rfl) | (simp [*, errW_none, errW_some, i64_w]; done), by repeat (first | (with_reducible first | exact HI0.out | apply IsS116.alloc | apply IsS116.drewN | apply IsS116.drew | apply IsS116.set_1 | apply IsS116.set_2) | exact HI0.out), by repeat (first | (with_reducible first | exact HB.out | apply below_alloc | apply pw_below_drewN | apply below_drew1 | refine below_set ?_ (IsS116.ge HI0.out)) | exact HB.out), by repeat (first | (with_reducible first | exact HK.out | apply KeepBut.set_ | apply keep_drewN | apply keep_drew | apply keep_alloc) | exact HK.out)⟩
    · rw [if_neg c5] at H
      exact absurd H (by simp)
  · rw [if_neg c4] at H
    exact absurd H (by simp)

/-! ### spec_l01Once: function 159 -/
def spec_l01Once.f (s0_0 : List Int) (s0_1 : Int) (s0_2 : Int) (a1 : Int) : Option (Bool × Int × Int) := (spec_l01Below.f s0_0 s0_1 s0_2 a1).bind fun bt121 => (some ((bt121.1 == 0), bt121.2.1, bt121.2.2))
set_option maxHeartbeats 8000000 in
set_option maxRecDepth 100000 in
theorem spec_l01Once.calls (g : Nat) (s0_0 : List Int) (s0_1 : Int) (s0_2 : Int) (a1 : Int) (r1 : Bool) (r2 : Int) (r3 : Int) (w0 w : World) (hI : IsS116 w0 w g s0_0 s0_1 s0_2) (hB : Below w0.heap.size w0 w) (h : spec_l01Once.f s0_0 s0_1 s0_2 a1 = some (r1, r2, r3)) :
    Calls Try.prog 159 #[.pointer (some ⟨g, 0, none⟩), .int .i64 a1] w fun e w' => e = .returned (.bool r1) ∧ IsS116 w0 w' g s0_0 r2 r3 ∧ Below w0.heap.size w0 w' ∧ KeepBut w w' g none := by
  have HI0 := Aside0.mk hI
  have HK := Aside0.mk (KeepBut.refl w g none)
  have HL := Aside0.mk hB.size
  clear hI
  have HW0 := Aside0.mk hB.size
  have HB := Aside0.mk hB
  clear hB
  have H : ((spec_l01Below.f s0_0 s0_1 s0_2 a1).bind fun bt121 => (some ((bt121.1 == 0), bt121.2.1, bt121.2.2))) = some (r1, r2, r3) := h
  clear h
  replace H := Option.bind_eq_some_iff.mp H
  obtain ⟨⟨t121, t122, t123⟩, A30, H⟩ := H
  replace H : (some ((t121 == 0), t122, t123)) = some (r1, r2, r3) := H
  have A3 := Aside0.mk A30
  clear A30
  simp only [Option.some.injEq, Prod.mk.injEq] at H
  obtain ⟨rfl, rfl, rfl⟩ := H
  go_enter Try.func159, Try.ntmps159
  go_wp2_with (first | ((first | ((with_reducible refine gate_callee (f := 68) rfl ?_); refine goesL_ (some 7) rfl rfl Try.func68 z2_26 rfl #[.pointer (some ⟨g, 0, none⟩), .int .i64 a1] rfl z2_1 ?_; (with_reducible refine (spec_l01Below.calls g s0_0 s0_1 s0_2 a1 t121 t122 t123 w0 _ ?side1 ?side2 A3.out).mono ?_)) | (go_at_call 68; (with_reducible refine (spec_l01Below.calls g s0_0 s0_1 s0_2 a1 t121 t122 t123 w0 _ ?side1 ?side2 A3.out).mono ?_))); (case side1 => exact z2_2); (case side2 => exact z2_3); rintro e w4 ⟨rfl, hi, hb, hk⟩; (first | refine ⟨_, rfl, ?_⟩ | skip); have n0_ := Aside0.mk (KeepBut.trans z2_0 hk (.inl rfl)); have n1_ := Aside0.mk (hb); have n2_ := Aside0.mk (hi); clear HK; clear HB; clear HI0; have HK := n0_; have HB := n1_; have HI0 := n2_; clear n0_ n1_ n2_; (try clear hb); (try clear hb2); (try clear hk); (try clear hi)))
  go_ret
  exact ⟨by first | rfl | (simp [errW_none, errW_some] <;> rfl) | (simp [*, errW_none, errW_some] <;> rfl) | (simp [*, errW_none, errW_some, i64_w]; done), by repeat (first | (with_reducible first | exact HI0.out | apply IsS116.alloc | apply IsS116.drewN | apply IsS116.drew | apply IsS116.set_1 | apply IsS116.set_2) | exact HI0.out), by repeat (first | (with_reducible first | exact HB.out | apply below_alloc | apply pw_below_drewN | apply below_drew1 | refine below_set ?_ (IsS116.ge HI0.out)) | exact HB.out), by repeat (first | (with_reducible first | exact HK.out | apply KeepBut.set_ | apply keep_drewN | apply keep_drew | apply keep_alloc) | exact HK.out)⟩

/-! ### spec_l03Operand: function 134 -/
def spec_l03Operand.f (s0_0 : List Int) (s0_1 : Int) (s0_2 : Int) : Option (Int × Int × Int) := (spec_l01Once.f s0_0 s0_1 s0_2 2).bind fun bt124 => (if bt124.1 = true then ((spec_l01Below.f s0_0 bt124.2.1 bt124.2.2 5).bind fun bt127 => (some (wrap64 ((-1) - bt127.1), bt127.2.1, bt127.2.2))) else ((spec_l01PickInt.f s0_0 bt124.2.1 bt124.2.2 (([0, 1, 2, 3, 10, 999] : List Int))).bind fun bt133 => (some (bt133.1, bt133.2.1, bt133.2.2))))
set_option maxHeartbeats 8000000 in
set_option maxRecDepth 100000 in
theorem spec_l03Operand.calls (g : Nat) (s0_0 : List Int) (s0_1 : Int) (s0_2 : Int) (r1 : Int) (r2 : Int) (r3 : Int) (w0 w : World) (hI : IsS116 w0 w g s0_0 s0_1 s0_2) (hB : Below w0.heap.size w0 w) (h : spec_l03Operand.f s0_0 s0_1 s0_2 = some (r1, r2, r3)) :
    Calls Try.prog 134 #[.pointer (some ⟨g, 0, none⟩)] w fun e w' => e = .returned (.int .i64 r1) ∧ IsS116 w0 w' g s0_0 r2 r3 ∧ Below w0.heap.size w0 w' ∧ KeepBut w w' g none := by
  have HI0 := Aside0.mk hI
  have HK := Aside0.mk (KeepBut.refl w g none)
  have HL := Aside0.mk hB.size
  clear hI
  have HW0 := Aside0.mk hB.size
  have HB := Aside0.mk hB
  clear hB
  have H : ((spec_l01Once.f s0_0 s0_1 s0_2 2).bind fun bt124 => (if bt124.1 = true then ((spec_l01Below.f s0_0 bt124.2.1 bt124.2.2 5).bind fun bt127 => (some (wrap64 ((-1) - bt127.1), bt127.2.1, bt127.2.2))) else ((spec_l01PickInt.f s0_0 bt124.2.1 bt124.2.2 (([0, 1, 2, 3, 10, 999] : List Int))).bind fun bt133 => (some (bt133.1, bt133.2.1, bt133.2.2))))) = some (r1, r2, r3) := h
  clear h
  replace H := Option.bind_eq_some_iff.mp H
  obtain ⟨⟨t124, t125, t126⟩, A20, H⟩ := H
  replace H : (if t124 = true then ((spec_l01Below.f s0_0 t125 t126 5).bind fun bt127 => (some (wrap64 ((-1) - bt127.1), bt127.2.1, bt127.2.2))) else ((spec_l01PickInt.f s0_0 t125 t126 (([0, 1, 2, 3, 10, 999] : List Int))).bind fun bt133 => (some (bt133.1, bt133.2.1, bt133.2.2)))) = some (r1, r2, r3) := H
  have A2 := Aside0.mk A20
  clear A20
  by_cases c3 : t124 = true
  · subst c3
    have H1 : ((spec_l01Below.f s0_0 t125 t126 5).bind fun bt127 => (some (wrap64 ((-1) - bt127.1), bt127.2.1, bt127.2.2))) = some (r1, r2, r3) := by rw [if_pos rfl] at H; exact H
    clear H
    have H := H1
    clear H1
    replace H := Option.bind_eq_some_iff.mp H
    obtain ⟨⟨t127, t128, t129⟩, A40, H⟩ := H
    replace H : (some (wrap64 ((-1) - t127), t128, t129)) = some (r1, r2, r3) := H
    have A4 := Aside0.mk A40
    clear A40
    simp only [Option.some.injEq, Prod.mk.injEq] at H
    obtain ⟨rfl, rfl, rfl⟩ := H
    go_enter Try.func134, Try.ntmps134
    go_wp2_with (first | ((first | ((with_reducible refine gate_callee (f := 159) rfl ?_); refine goesL_ (some 4) rfl rfl Try.func159 z2_26 rfl #[.pointer (some ⟨g, 0, none⟩), .int .i64 2] rfl z2_1 ?_; (with_reducible refine (spec_l01Once.calls g s0_0 s0_1 s0_2 2 true t125 t126 w0 _ ?side1 ?side2 A2.out).mono ?_)) | (go_at_call 159; (with_reducible refine (spec_l01Once.calls g s0_0 s0_1 s0_2 2 true t125 t126 w0 _ ?side1 ?side2 A2.out).mono ?_))); (case side1 => exact z2_2); (case side2 => exact z2_3); rintro e w5 ⟨rfl, hi, hb, hk⟩; (first | refine ⟨_, rfl, ?_⟩ | skip); have n0_ := Aside0.mk (KeepBut.trans z2_0 hk (.inl rfl)); have n1_ := Aside0.mk (hb); have n2_ := Aside0.mk (hi); clear HK; clear HB; clear HI0; have HK := n0_; have HB := n1_; have HI0 := n2_; clear n0_ n1_ n2_; (try clear hb); (try clear hb2); (try clear hk); (try clear hi)) | ((first | ((with_reducible refine gate_callee (f := 68) rfl ?_); refine goesL_ (some 6) rfl rfl Try.func68 z2_26 rfl #[.pointer (some ⟨g, 0, none⟩), .int .i64 5] rfl z2_1 ?_; (with_reducible refine (spec_l01Below.calls g s0_0 t125 t126 5 t127 t128 t129 w0 _ ?side1 ?side2 A4.out).mono ?_)) | (go_at_call 68; (with_reducible refine (spec_l01Below.calls g s0_0 t125 t126 5 t127 t128 t129 w0 _ ?side1 ?side2 A4.out).mono ?_))); (case side1 => exact z2_2); (case side2 => exact z2_3); rintro e w6 ⟨rfl, hi, hb, hk⟩; (first | refine ⟨_, rfl, ?_⟩ | skip); have n0_ := Aside0.mk (KeepBut.trans z2_0 hk (.inl rfl)); have n1_ := Aside0.mk (hb); have n2_ := Aside0.mk (hi); clear HK; clear HB; clear HI0; have HK := n0_; have HB := n1_; have HI0 := n2_; clear n0_ n1_ n2_; (try clear hb); (try clear hb2); (try clear hk); (try clear hi)))
    go_ret
    exact ⟨by first | rfl | (simp [errW_none, errW_some] <;> rfl) | (simp [*, errW_none, errW_some] <;> rfl) | (simp [*, errW_none, errW_some, i64_w]; done), by repeat (first | (with_reducible first | exact HI0.out | apply IsS116.alloc | apply IsS116.drewN | apply IsS116.drew | apply IsS116.set_1 | apply IsS116.set_2) | exact HI0.out), by repeat (first | (with_reducible first | exact HB.out | apply below_alloc | apply pw_below_drewN | apply below_drew1 | refine below_set ?_ (IsS116.ge HI0.out)) | exact HB.out), by repeat (first | (with_reducible first | exact HK.out | apply KeepBut.set_ | apply keep_drewN | apply keep_drew | apply keep_alloc) | exact HK.out)⟩
  · replace c3 := Bool.eq_false_iff.mpr c3
    subst c3
    have H1 : ((spec_l01PickInt.f s0_0 t125 t126 (([0, 1, 2, 3, 10, 999] : List Int))).bind fun bt133 => (some (bt133.1, bt133.2.1, bt133.2.2))) = some (r1, r2, r3) := by rw [if_neg (show ¬ (false = true) by decide)] at H; exact H
    clear H
    have H := H1
    clear H1
    obtain ⟨y130, hy130⟩ : ∃ y_ : List Int, y_ = (([0, 1, 2, 3, 10, 999] : List Int)) := ⟨_, rfl⟩
    replace H : ((spec_l01PickInt.f s0_0 t125 t126 y130).bind fun bt133 => (some (bt133.1, bt133.2.1, bt133.2.2))) = some (r1, r2, r3) := by first | (rw [hy130]; with_reducible exact H) | (have H2_ := (Option.bind_some _ _).symm.trans H; rw [hy130]; with_reducible exact H2_) | (have H2_ := (Option.bind_some _ _).symm.trans H; with_reducible exact H2_) | with_reducible exact H | (rw [hy130]; exact H) | exact H
    have Ny130 := Aside0.mk hy130
    clear hy130
    replace H := Option.bind_eq_some_iff.mp H
    obtain ⟨⟨t133, t134, t135⟩, A70, H⟩ := H
    replace H : (some (t133, t134, t135)) = some (r1, r2, r3) := H
    have A7 := Aside0.mk A70
    clear A70
    simp only [Option.some.injEq, Prod.mk.injEq] at H
    obtain ⟨rfl, rfl, rfl⟩ := H
    go_enter Try.func134, Try.ntmps134
    go_wp2_with (first | ((first | ((with_reducible refine gate_callee (f := 159) rfl ?_); refine goesL_ (some 4) rfl rfl Try.func159 z2_26 rfl #[.pointer (some ⟨g, 0, none⟩), .int .i64 2] rfl z2_1 ?_; (with_reducible refine (spec_l01Once.calls g s0_0 s0_1 s0_2 2 false t125 t126 w0 _ ?side1 ?side2 A2.out).mono ?_)) | (go_at_call 159; (with_reducible refine (spec_l01Once.calls g s0_0 s0_1 s0_2 2 false t125 t126 w0 _ ?side1 ?side2 A2.out).mono ?_))); (case side1 => exact z2_2); (case side2 => exact z2_3); rintro e w8 ⟨rfl, hi, hb, hk⟩; (first | refine ⟨_, rfl, ?_⟩ | skip); have n0_ := Aside0.mk (KeepBut.trans z2_0 hk (.inl rfl)); have n1_ := Aside0.mk (hb); have n2_ := Aside0.mk (hi); clear HK; clear HB; clear HI0; have HK := n0_; have HB := n1_; have HI0 := n2_; clear n0_ n1_ n2_; (try clear hb); (try clear hb2); (try clear hk); (try clear hi)) | ((with_reducible refine gate_dst (N := 9) rfl ?_); refine Kd.R_lit (Kd.int .i64) _ 3 ?hg (N := 9) ?hd (xs := ([0, 1, 2, 3, 10, 999] : List Int)) (inner := [.int .i64 0, .int .i64 1, .int .i64 2, .int .i64 3, .int .i64 10, .int .i64 999]) (ok := fun _ => True) (okp := fun _ => True) ?hr ?hp (fun _ hk => hk) trivial (Below.refl _ _) (Nat.le_refl _) (by simp) ?_; (case hd => rfl); (case hg => rfl); (case hr => exact z2_19); (case hp => exact (Reps.one (show Kd.M (Kd.int .i64) _ _ _ 0 [.int .i64 0] from rfl) (Reps.one (show Kd.M (Kd.int .i64) _ _ _ 1 [.int .i64 1] from rfl) (Reps.one (show Kd.M (Kd.int .i64) _ _ _ 2 [.int .i64 2] from rfl) (Reps.one (show Kd.M (Kd.int .i64) _ _ _ 3 [.int .i64 3] from rfl) (Reps.one (show Kd.M (Kd.int .i64) _ _ _ 10 [.int .i64 10] from rfl) (Reps.one (show Kd.M (Kd.int .i64) _ _ _ 999 [.int .i64 999] from rfl) (Reps.none _ _)))))))); intro v131 w9 ho10 hb hg_ hnew_; clear hg_ hnew_; (first | rw [← Ny130.out] at ho10 | (simp only [Int.reduceToNat] at ho10; rw [← Ny130.out] at ho10)); have n0_ := Aside0.mk (Kd.R_lower ho10 (keep_size (w := w) (g := g) (row := none) z2_0)); have n1_ := Aside0.mk (IsS116.below z2_2 hb); have n2_ := Aside0.mk (KeepBut.trans z2_0 (KeepBut.of_below hb g none) (.inl rfl)); have n3_ := Aside0.mk (below_step z2_3 hb); clear HI0; clear HK; clear HB; have HO132 := n0_; have HI0 := n1_; have HK := n2_; have HB := n3_; clear n0_ n1_ n2_ n3_; clear hb ho10; obtain ⟨Ao11, co11, eo11⟩ := Kd.R_slice HO132.out; subst eo11) | ((first | ((with_reducible refine gate_callee (f := 97) rfl ?_); refine goesL_ (some 10) rfl rfl Try.func97 z2_26 rfl #[.pointer (some ⟨g, 0, none⟩), .slice Ao11 y130.length co11] rfl z2_1 ?_; (with_reducible refine (spec_l01PickInt.calls g s0_0 t125 t126 _ _ y130 t133 t134 t135 w0 _ ?side1 ?side2 ?side3 ?side4 ?side5 A7.out).mono ?_)) | (go_at_call 97; (with_reducible refine (spec_l01PickInt.calls g s0_0 t125 t126 _ _ y130 t133 t134 t135 w0 _ ?side1 ?side2 ?side3 ?side4 ?side5 A7.out).mono ?_))); (case side1 => exact z2_2); (case side2 => exact z2_3); (case side3 => repeat (first | exact (Kd.R_reads' HO132.out).2.2 | (with_reducible refine Kd.C_alloc ?_ _) | (with_reducible refine Kd.C_drewN ?_ _) | (with_reducible refine Kd.C_drew ?_))); (case side4 => exact (Kd.R_reads' HO132.out).2.1); (case side5 => exact far_slice (IsS116.own_ne HI0.out HO132.out (by decide))); rintro e w12 ⟨rfl, hi, hb, hk⟩; (first | refine ⟨_, rfl, ?_⟩ | skip); have n0_ := Aside0.mk (Kd.R_mono (Kd.R_keep (IsS116.apart (show IsS116 w0 _ g s0_0 t125 t126 from by repeat (first | (with_reducible first | exact HI0.out | apply IsS116.alloc | apply IsS116.drewN | apply IsS116.drew | apply IsS116.set_1 | apply IsS116.set_2) | exact HI0.out)) (by (with_reducible repeat (first | apply Kd.R_alloc | apply Kd.R_drewN | apply Kd.R_drew)); exact HO132.out) (by decide)) hk (fun _ h => h.2)) (fun _ h => h.1)); have n1_ := Aside0.mk (KeepBut.trans z2_0 hk (.inl rfl)); have n2_ := Aside0.mk (hb); have n3_ := Aside0.mk (hi); clear HO132; clear HK; clear HB; clear HI0; have HO132 := n0_; have HK := n1_; have HB := n2_; have HI0 := n3_; clear n0_ n1_ n2_ n3_; (try clear hb); (try clear hb2); (try clear hk); (try clear hi)))
    go_ret
    exact ⟨by first | rfl | (simp [errW_none, errW_some] <;> rfl) | (simp [*, errW_none, errW_some] <;> rfl) | (simp [*, errW_none, errW_some, i64_w]; done), by repeat (first | (with_reducible first | exact HI0.out | apply IsS116.alloc | apply IsS116.drewN | apply IsS116.drew | apply IsS116.set_1 | apply IsS116.set_2) | exact HI0.out), by repeat (first | (with_reducible first | exact HB.out | apply below_alloc | apply pw_below_drewN | apply below_drew1 | refine below_set ?_ (IsS116.ge HI0.out)) | exact HB.out), by repeat (first | (with_reducible first | exact HK.out | apply KeepBut.set_ | apply keep_drewN | apply keep_drew | apply keep_alloc) | exact HK.out)⟩

/-! ### spec_l03Expr: function 96 -/
def spec_l03Expr.f (s0_0 : List Int) (s0_1 : Int) (s0_2 : Int) : Option (Int × Int × Int × Int × Int) := (spec_l01Below.f s0_0 s0_1 s0_2 7).bind fun bt137 => ((spec_l03Operand.f s0_0 bt137.2.1 bt137.2.2).bind fun bt140 => ((spec_l03Operand.f s0_0 bt140.2.1 bt140.2.2).bind fun bt143 => (some (wrap64 (1 + bt137.1), bt140.1, bt143.1, bt143.2.1, bt143.2.2))))
set_option maxHeartbeats 8000000 in
set_option maxRecDepth 100000 in
theorem spec_l03Expr.calls (g : Nat) (s0_0 : List Int) (s0_1 : Int) (s0_2 : Int) (r1 : Int) (r2 : Int) (r3 : Int) (r4 : Int) (r5 : Int) (w0 w : World) (hI : IsS116 w0 w g s0_0 s0_1 s0_2) (hB : Below w0.heap.size w0 w) (h : spec_l03Expr.f s0_0 s0_1 s0_2 = some (r1, r2, r3, r4, r5)) :
    Calls Try.prog 96 #[.pointer (some ⟨g, 0, none⟩)] w fun e w' => e = .returned (.agg #[.int .i64 r1, .int .i64 r2, .int .i64 r3]) ∧ IsS116 w0 w' g s0_0 r4 r5 ∧ Below w0.heap.size w0 w' ∧ KeepBut w w' g none := by
  have hu32 := Try.underlying32
  have HI0 := Aside0.mk hI
  have HK := Aside0.mk (KeepBut.refl w g none)
  have HL := Aside0.mk hB.size
  clear hI
  have HW0 := Aside0.mk hB.size
  have HB := Aside0.mk hB
  clear hB
  have H : ((spec_l01Below.f s0_0 s0_1 s0_2 7).bind fun bt137 => ((spec_l03Operand.f s0_0 bt137.2.1 bt137.2.2).bind fun bt140 => ((spec_l03Operand.f s0_0 bt140.2.1 bt140.2.2).bind fun bt143 => (some (wrap64 (1 + bt137.1), bt140.1, bt143.1, bt143.2.1, bt143.2.2))))) = some (r1, r2, r3, r4, r5) := h
  clear h
  replace H := Option.bind_eq_some_iff.mp H
  obtain ⟨⟨t137, t138, t139⟩, A20, H⟩ := H
  replace H : ((spec_l03Operand.f s0_0 t138 t139).bind fun bt140 => ((spec_l03Operand.f s0_0 bt140.2.1 bt140.2.2).bind fun bt143 => (some (wrap64 (1 + t137), bt140.1, bt143.1, bt143.2.1, bt143.2.2)))) = some (r1, r2, r3, r4, r5) := H
  have A2 := Aside0.mk A20
  clear A20
  replace H := Option.bind_eq_some_iff.mp H
  obtain ⟨⟨t140, t141, t142⟩, A30, H⟩ := H
  replace H : ((spec_l03Operand.f s0_0 t141 t142).bind fun bt143 => (some (wrap64 (1 + t137), t140, bt143.1, bt143.2.1, bt143.2.2))) = some (r1, r2, r3, r4, r5) := H
  have A3 := Aside0.mk A30
  clear A30
  replace H := Option.bind_eq_some_iff.mp H
  obtain ⟨⟨t143, t144, t145⟩, A40, H⟩ := H
  replace H : (some (wrap64 (1 + t137), t140, t143, t144, t145)) = some (r1, r2, r3, r4, r5) := H
  have A4 := Aside0.mk A40
  clear A40
  simp only [Option.some.injEq, Prod.mk.injEq] at H
  obtain ⟨rfl, rfl, rfl, rfl, rfl⟩ := H
  go_enter Try.func96, Try.ntmps96
  go_wp2_with (first | ((with_reducible refine gate_dst (N := 2) rfl ?_); refine box_event ?hg (N := 2) ?hd (cs := #[.int .i64 0, .int .i64 0, .int .i64 0]) (t := 32) ?hr ?_; (case hd => rfl); (case hg => rfl); (case hr => exact z2_19); intro gb136 hg w5 hbox hb; have n0_ := Aside0.mk (IsS116.below z2_2 hb); have n1_ := Aside0.mk (KeepBut.trans z2_0 (KeepBut.of_below hb g none) (.inl rfl)); have n2_ := Aside0.mk (below_step z2_3 hb); have n3_ := Aside0.mk (hbox); have n4_ := Aside0.mk ((z2_38 : w.heap.size ≤ gb136)); have n5_ := Aside0.mk ((Nat.le_trans HW0.out (z2_38 : w.heap.size ≤ gb136) : w0.heap.size ≤ gb136)); have n6_ := Aside0.mk ((z2_22 : g ≠ gb136)); have n7_ := Aside0.mk ((z2_23 : gb136 ≠ g)); clear HI0; clear HK; clear HB; have HI0 := n0_; have HK := n1_; have HB := n2_; have BK136 := n3_; have GW136 := n4_; have GE136 := n5_; have NB0_136 := n6_; have NB136_0 := n7_; clear n0_ n1_ n2_ n3_ n4_ n5_ n6_ n7_; clear hb hbox hg) | ((first | ((with_reducible refine gate_callee (f := 68) rfl ?_); refine goesL_ (some 4) rfl rfl Try.func68 z2_26 rfl #[.pointer (some ⟨g, 0, none⟩), .int .i64 7] rfl z2_1 ?_; (with_reducible refine (spec_l01Below.calls g s0_0 s0_1 s0_2 7 t137 t138 t139 w0 _ ?side1 ?side2 A2.out).mono ?_)) | (go_at_call 68; (with_reducible refine (spec_l01Below.calls g s0_0 s0_1 s0_2 7 t137 t138 t139 w0 _ ?side1 ?side2 A2.out).mono ?_))); (case side1 => exact z2_27); (case side2 => exact z2_28); rintro e w6 ⟨rfl, hi, hb, hk⟩; (first | refine ⟨_, rfl, ?_⟩ | skip); have n0_ := Aside0.mk (KeepBut.blk hk (g' := gb136) (o := .cells #[.int .i64 0, .int .i64 0, .int .i64 0] 32 (0, 0)) z2_36 NB136_0.out (by simp)); have n1_ := Aside0.mk (KeepBut.trans z2_30 hk (.inl rfl)); have n2_ := Aside0.mk (hb); have n3_ := Aside0.mk (hi); clear BK136; clear HK; clear HB; clear HI0; have BK136 := n0_; have HK := n1_; have HB := n2_; have HI0 := n3_; clear n0_ n1_ n2_ n3_; (try clear hb); (try clear hb2); (try clear hk); (try clear hi)) | ((first | ((with_reducible refine gate_callee (f := 134) rfl ?_); refine goesL_ (some 7) rfl rfl Try.func134 z2_26 rfl #[.pointer (some ⟨g, 0, none⟩)] rfl z2_1 ?_; (with_reducible refine (spec_l03Operand.calls g s0_0 t138 t139 t140 t141 t142 w0 _ ?side1 ?side2 A3.out).mono ?_)) | (go_at_call 134; (with_reducible refine (spec_l03Operand.calls g s0_0 t138 t139 t140 t141 t142 w0 _ ?side1 ?side2 A3.out).mono ?_))); (case side1 => exact z2_27); (case side2 => exact z2_28); rintro e w7 ⟨rfl, hi, hb, hk⟩; (first | refine ⟨_, rfl, ?_⟩ | skip); have n0_ := Aside0.mk (KeepBut.blk hk (g' := gb136) (o := .cells #[.int .i64 0, .int .i64 0, .int .i64 0] 32 (0, 0)) z2_36 NB136_0.out (by simp)); have n1_ := Aside0.mk (KeepBut.trans z2_30 hk (.inl rfl)); have n2_ := Aside0.mk (hb); have n3_ := Aside0.mk (hi); clear BK136; clear HK; clear HB; clear HI0; have BK136 := n0_; have HK := n1_; have HB := n2_; have HI0 := n3_; clear n0_ n1_ n2_ n3_; (try clear hb); (try clear hb2); (try clear hk); (try clear hi)) | ((first | ((with_reducible refine gate_callee (f := 134) rfl ?_); refine goesL_ (some 9) rfl rfl Try.func134 z2_26 rfl #[.pointer (some ⟨g, 0, none⟩)] rfl z2_1 ?_; (with_reducible refine (spec_l03Operand.calls g s0_0 t141 t142 t143 t144 t145 w0 _ ?side1 ?side2 A4.out).mono ?_)) | (go_at_call 134; (with_reducible refine (spec_l03Operand.calls g s0_0 t141 t142 t143 t144 t145 w0 _ ?side1 ?side2 A4.out).mono ?_))); (case side1 => exact z2_27); (case side2 => exact z2_28); rintro e w8 ⟨rfl, hi, hb, hk⟩; (first | refine ⟨_, rfl, ?_⟩ | skip); have n0_ := Aside0.mk (KeepBut.blk hk (g' := gb136) (o := .cells #[.int .i64 0, .int .i64 0, .int .i64 0] 32 (0, 0)) z2_36 NB136_0.out (by simp)); have n1_ := Aside0.mk (KeepBut.trans z2_30 hk (.inl rfl)); have n2_ := Aside0.mk (hb); have n3_ := Aside0.mk (hi); clear BK136; clear HK; clear HB; clear HI0; have BK136 := n0_; have HK := n1_; have HB := n2_; have HI0 := n3_; clear n0_ n1_ n2_ n3_; (try clear hb); (try clear hb2); (try clear hk); (try clear hi); have hnb9 := NB136_0.out; have hnc9 := NB0_136.out; have hcz10_0 : w8.cell? ⟨gb136, 0, none⟩ = some (.int .i64 0) := (blk_cell BK136.out 0).trans rfl; have hcz10_1 : w8.cell? ⟨gb136, 1, none⟩ = some (.int .i64 0) := (blk_cell BK136.out 1).trans rfl; have hcz10_2 : w8.cell? ⟨gb136, 2, none⟩ = some (.int .i64 0) := (blk_cell BK136.out 2).trans rfl; have hfz10_0 := blk_frozen BK136.out 0; have hfz10_1 := blk_frozen BK136.out 1; have hfz10_2 := blk_frozen BK136.out 2))
  refine bodyPost_ret (results_cell_row rfl _ _ gb136 32 #[.int .i64 (wrap64 (1 + t137)), .int .i64 t140, .int .i64 t143] (0, 0) _ rfl (by (with_reducible repeat (first | refine blk_drewN ?_ _ | refine blk_drew ?_ | refine blk_alloc ?_ _)); refine blk_put (cs := #[.int .i64 (wrap64 (1 + t137)), .int .i64 t140, .int .i64 0]) ?_ 2 _ rfl; (with_reducible repeat (first | refine blk_drewN ?_ _ | refine blk_drew ?_ | refine blk_alloc ?_ _)); refine blk_put (cs := #[.int .i64 (wrap64 (1 + t137)), .int .i64 0, .int .i64 0]) ?_ 1 _ rfl; (with_reducible repeat (first | refine blk_drewN ?_ _ | refine blk_drew ?_ | refine blk_alloc ?_ _)); refine blk_put (cs := #[.int .i64 0, .int .i64 0, .int .i64 0]) ?_ 0 _ rfl; (with_reducible repeat (first | refine blk_drewN ?_ _ | refine blk_drew ?_ | refine blk_alloc ?_ _)); exact BK136.out) Try.underlying32 rfl z2_26) rfl ?_
  exact ⟨by first | rfl | (simp [errW_none, errW_some] <;> rfl) | (simp [*, errW_none, errW_some] <;> rfl) | (simp [*, errW_none, errW_some, i64_w]; done), by repeat (first | (with_reducible first | exact HI0.out | apply IsS116.alloc | apply IsS116.drewN | apply IsS116.drew | apply IsS116.set_1 | apply IsS116.set_2 | refine IsS116.far ?_ NB0_136.out _) | exact HI0.out), by repeat (first | (with_reducible first | exact HB.out | apply below_alloc | apply pw_below_drewN | apply below_drew1 | refine below_set ?_ (IsS116.ge HI0.out) | refine below_set ?_ GE136.out) | exact HB.out), by repeat (first | (with_reducible first | exact HK.out | apply KeepBut.set_ | apply keep_drewN | apply keep_drew | apply keep_alloc | refine keep_far ?_ GW136.out _) | exact HK.out)⟩

/-! ### spec_l04Stmt: function 160 -/
def spec_l04Stmt.j0 : Nat → Int → Bool → List Int → Int → Int → Option (Int × Int × Int × Int × Int × Int × Int × Int)
  | 0, _, _, _, _, _ => none
  | k + 1, x4, x5, x1000, x1001, x1002 => if x5 = true then ((spec_l01Below.f x1000 x1001 x1002 5).bind fun bt150 => ((spec_l01Below.f x1000 bt150.2.1 bt150.2.2 4).bind fun bt153 => (some (2, bt150.1, bt153.1, 0, 0, 0, bt153.2.1, bt153.2.2)))) else (if x4 = 2 then ((spec_l03Expr.f x1000 x1001 x1002).bind fun bt156 => (some (3, 0, 0, bt156.1, bt156.2.1, bt156.2.2.1, bt156.2.2.2.1, bt156.2.2.2.2))) else ((spec_l01Below.f x1000 x1001 x1002 5).bind fun bt161 => ((spec_l03Expr.f x1000 bt161.2.1 bt161.2.2).bind fun bt164 => (some (1, bt161.1, 0, bt164.1, bt164.2.1, bt164.2.2.1, bt164.2.2.2.1, bt164.2.2.2.2)))))
def spec_l04Stmt.f (k : Nat) (s0_0 : List Int) (s0_1 : Int) (s0_2 : Int) : Option (Int × Int × Int × Int × Int × Int × Int × Int) := (spec_l01Below.f s0_0 s0_1 s0_2 7).bind fun bt147 => (if bt147.1 = 0 then (spec_l04Stmt.j0 k bt147.1 (bt147.1 == 0) s0_0 bt147.2.1 bt147.2.2) else (spec_l04Stmt.j0 k bt147.1 (bt147.1 == 1) s0_0 bt147.2.1 bt147.2.2))
theorem spec_l04Stmt.mono_l : ∀ k, (∀ y0 y1 y2 y3 y4, LeO (spec_l04Stmt.j0 k y0 y1 y2 y3 y4) (spec_l04Stmt.j0 (k + 1) y0 y1 y2 y3 y4))
  | 0 => fun _ _ _ _ _ r h => by simp [spec_l04Stmt.j0] at h
  | k + 1 => by
    have ih0 := spec_l04Stmt.mono_l k
    · intro y0 y1 y2 y3 y4
      unfold spec_l04Stmt.j0
      repeat' first
      | (with_reducible exact ih0 _ _ _ _ _)
      | (with_reducible exact LeO.refl _)
      | (with_reducible exact LeO.none _)
      | (with_reducible refine LeO.ite ?_ ?_)
      | (with_reducible refine LeO.bind ?_ (fun _ => ?_))
      | exact ih0 _ _ _ _ _
      | exact LeO.none _
      | refine LeO.ite ?_ ?_
      | refine LeO.bind ?_ (fun _ => ?_)
theorem spec_l04Stmt.mono : ∀ a0 a1 a2 k, LeO (spec_l04Stmt.f k a0 a1 a2) (spec_l04Stmt.f (k + 1) a0 a1 a2) := by
  intro a0 a1 a2 k
  have ih0 := spec_l04Stmt.mono_l k
  unfold spec_l04Stmt.f
  repeat' first
      | (with_reducible exact ih0 _ _ _ _ _)
      | (with_reducible exact LeO.refl _)
      | (with_reducible exact LeO.none _)
      | (with_reducible refine LeO.ite ?_ ?_)
      | (with_reducible refine LeO.bind ?_ (fun _ => ?_))
      | exact ih0 _ _ _ _ _
      | exact LeO.none _
      | refine LeO.ite ?_ ?_
      | refine LeO.bind ?_ (fun _ => ?_)
set_option maxHeartbeats 8000000 in
set_option maxRecDepth 100000 in
theorem spec_l04Stmt.calls (k : Nat) (g : Nat) (s0_0 : List Int) (s0_1 : Int) (s0_2 : Int) (r1 : Int) (r2 : Int) (r3 : Int) (r4 : Int) (r5 : Int) (r6 : Int) (r7 : Int) (r8 : Int) (w0 w : World) (hI : IsS116 w0 w g s0_0 s0_1 s0_2) (hB : Below w0.heap.size w0 w) (h : spec_l04Stmt.f k s0_0 s0_1 s0_2 = some (r1, r2, r3, r4, r5, r6, r7, r8)) :
    Calls Try.prog 160 #[.pointer (some ⟨g, 0, none⟩)] w fun e w' => e = .returned (.agg #[.int .i64 r1, .int .i64 r2, .int .i64 r3, .int .i64 r4, .int .i64 r5, .int .i64 r6]) ∧ IsS116 w0 w' g s0_0 r7 r8 ∧ Below w0.heap.size w0 w' ∧ KeepBut w w' g none := by
  have hu77 := Try.underlying77
  have HI0 := Aside0.mk hI
  have HK := Aside0.mk (KeepBut.refl w g none)
  have HL := Aside0.mk hB.size
  clear hI
  have HW0 := Aside0.mk hB.size
  have HB := Aside0.mk hB
  clear hB
  have H : ((spec_l01Below.f s0_0 s0_1 s0_2 7).bind fun bt147 => (if bt147.1 = 0 then (spec_l04Stmt.j0 k bt147.1 (bt147.1 == 0) s0_0 bt147.2.1 bt147.2.2) else (spec_l04Stmt.j0 k bt147.1 (bt147.1 == 1) s0_0 bt147.2.1 bt147.2.2))) = some (r1, r2, r3, r4, r5, r6, r7, r8) := h
  clear h
  replace H := Option.bind_eq_some_iff.mp H
  obtain ⟨⟨t147, t148, t149⟩, A20, H⟩ := H
  replace H : (if t147 = 0 then (spec_l04Stmt.j0 k t147 (t147 == 0) s0_0 t148 t149) else (spec_l04Stmt.j0 k t147 (t147 == 1) s0_0 t148 t149)) = some (r1, r2, r3, r4, r5, r6, r7, r8) := H
  have A2 := Aside0.mk A20
  clear A20
  have HC3 := Aside0.mk H
  clear H
  go_enter Try.func160, Try.ntmps160
  go_upto_if 5 with (first | ((with_reducible refine gate_dst (N := 2) rfl ?_); refine box_event ?hg (N := 2) ?hd (cs := #[.int .i64 0, .int .i64 0, .int .i64 0, .int .i64 0, .int .i64 0, .int .i64 0]) (t := 77) ?hr ?_; (case hd => rfl); (case hg => rfl); (case hr => exact z2_19); intro gb146 hg w4 hbox hb; have n0_ := Aside0.mk (IsS116.below z2_2 hb); have n1_ := Aside0.mk (KeepBut.trans z2_0 (KeepBut.of_below hb g none) (.inl rfl)); have n2_ := Aside0.mk (below_step z2_3 hb); have n3_ := Aside0.mk (hbox); have n4_ := Aside0.mk ((z2_38 : w.heap.size ≤ gb146)); have n5_ := Aside0.mk ((Nat.le_trans HW0.out (z2_38 : w.heap.size ≤ gb146) : w0.heap.size ≤ gb146)); have n6_ := Aside0.mk ((z2_22 : g ≠ gb146)); have n7_ := Aside0.mk ((z2_23 : gb146 ≠ g)); clear HI0; clear HK; clear HB; have HI0 := n0_; have HK := n1_; have HB := n2_; have BK146 := n3_; have GW146 := n4_; have GE146 := n5_; have NB0_146 := n6_; have NB146_0 := n7_; clear n0_ n1_ n2_ n3_ n4_ n5_ n6_ n7_; clear hb hbox hg) | ((first | ((with_reducible refine gate_callee (f := 68) rfl ?_); refine goesL_ (some 4) rfl rfl Try.func68 z2_26 rfl #[.pointer (some ⟨g, 0, none⟩), .int .i64 7] rfl z2_1 ?_; (with_reducible refine (spec_l01Below.calls g s0_0 s0_1 s0_2 7 t147 t148 t149 w0 _ ?side1 ?side2 A2.out).mono ?_)) | (go_at_call 68; (with_reducible refine (spec_l01Below.calls g s0_0 s0_1 s0_2 7 t147 t148 t149 w0 _ ?side1 ?side2 A2.out).mono ?_))); (case side1 => exact z2_8); (case side2 => exact z2_9); rintro e w5 ⟨rfl, hi, hb, hk⟩; (first | refine ⟨_, rfl, ?_⟩ | skip); have n0_ := Aside0.mk (KeepBut.blk hk (g' := gb146) (o := .cells #[.int .i64 0, .int .i64 0, .int .i64 0, .int .i64 0, .int .i64 0, .int .i64 0] 77 (0, 0)) z2_16 NB146_0.out (by simp)); have n1_ := Aside0.mk (KeepBut.trans z2_11 hk (.inl rfl)); have n2_ := Aside0.mk (hb); have n3_ := Aside0.mk (hi); clear BK146; clear HK; clear HB; clear HI0; have BK146 := n0_; have HK := n1_; have HB := n2_; have HI0 := n3_; clear n0_ n1_ n2_ n3_; (try clear hb); (try clear hb2); (try clear hk); (try clear hi)))
  (try simp only [Act.put, List.setIfInBounds_toArray, List.set_cons_zero, List.set_cons_succ])
  go_cut [5] (fun v5 wc => ∃ (kq : Nat) (x5_2 : Bool), v5 = .bool x5_2 ∧ Aside0 (spec_l04Stmt.j0 kq t147 x5_2 s0_0 t148 t149 = some (r1, r2, r3, r4, r5, r6, r7, r8)) ∧ Aside0 (kq ≤ k) ∧ Aside0 (wc.heap[gb146]? = some (.cells #[.int .i64 0, .int .i64 0, .int .i64 0, .int .i64 0, .int .i64 0, .int .i64 0] 77 (0, 0))) ∧ Aside0 (IsS116 w0 wc g s0_0 t148 t149) ∧ Aside0 (KeepBut w wc g none) ∧ Aside0 (Below w0.heap.size w0 wc))
  case first =>
    have H := HC3.out
    clear HC3
    by_cases c6 : t147 = 0
    · rw [if_pos c6] at H
      have c6b0 : (t147 == 0) = true := beq_iff_eq.mpr c6
      have c6b1 : (t147 != 0) = false := bne_eq_false_iff_eq.mpr c6
      clear c6
      (first | rw [c6b0] | (simp only [i64_w, i32_w]; rw [c6b0]) | skip)
      have H' := Aside0.mk H
      clear H
      go_wp2
      go_meet
      case rel => exact ⟨_, ((t147 == 0)), z2_20, H', ⟨by first | omega | exact Nat.le_refl _⟩, ⟨by (with_reducible repeat (first | refine blk_drewN ?_ _ | refine blk_drew ?_ | refine blk_alloc ?_ _)); exact BK146.out⟩, ⟨by repeat (first | (with_reducible first | exact HI0.out | apply IsS116.alloc | apply IsS116.drewN | apply IsS116.drew | apply IsS116.set_1 | apply IsS116.set_2 | refine IsS116.far ?_ NB0_146.out _) | exact HI0.out)⟩, ⟨by repeat (first | (with_reducible first | exact HK.out | apply KeepBut.set_ | apply keep_drewN | apply keep_drew | apply keep_alloc | refine keep_far ?_ GW146.out _) | exact HK.out)⟩, ⟨by repeat (first | (with_reducible first | exact HB.out | apply below_alloc | apply pw_below_drewN | apply below_drew1 | refine below_set ?_ (IsS116.ge HI0.out) | refine below_set ?_ GE146.out) | exact HB.out)⟩⟩
    · rw [if_neg c6] at H
      have c6b0 : (t147 == 0) = false := beq_eq_false_iff_ne.mpr c6
      have c6b1 : (t147 != 0) = true := bne_iff_ne.mpr c6
      (first | rw [c6b0] | (simp only [i64_w, i32_w]; rw [c6b0]) | skip)
      have H' := Aside0.mk H
      clear H
      go_wp2
      go_meet
      case rel => exact ⟨_, ((t147 == 1)), z2_20, H', ⟨by first | omega | exact Nat.le_refl _⟩, ⟨by (with_reducible repeat (first | refine blk_drewN ?_ _ | refine blk_drew ?_ | refine blk_alloc ?_ _)); exact BK146.out⟩, ⟨by repeat (first | (with_reducible first | exact HI0.out | apply IsS116.alloc | apply IsS116.drewN | apply IsS116.drew | apply IsS116.set_1 | apply IsS116.set_2 | refine IsS116.far ?_ NB0_146.out _) | exact HI0.out)⟩, ⟨by repeat (first | (with_reducible first | exact HK.out | apply KeepBut.set_ | apply keep_drewN | apply keep_drew | apply keep_alloc | refine keep_far ?_ GW146.out _) | exact HK.out)⟩, ⟨by repeat (first | (with_reducible first | exact HB.out | apply below_alloc | apply pw_below_drewN | apply below_drew1 | refine below_set ?_ (IsS116.ge HI0.out) | refine below_set ?_ GE146.out) | exact HB.out)⟩⟩
  case rest =>
    clear HC3
    obtain ⟨kq, x5_2, rfl, HA, HJ2, BK146, HI0, HK, HB⟩ := hcut
    cases kq with
    | zero => exact absurd HA.out (by simp [spec_l04Stmt.j0])
    | succ kj2 =>
      have H := HA.out
      clear HA
      simp only [spec_l04Stmt.j0] at H
      by_cases c7 : x5_2 = true
      · subst c7
        have H1 : ((spec_l01Below.f s0_0 t148 t149 5).bind fun bt150 => ((spec_l01Below.f s0_0 bt150.2.1 bt150.2.2 4).bind fun bt153 => (some (2, bt150.1, bt153.1, 0, 0, 0, bt153.2.1, bt153.2.2)))) = some (r1, r2, r3, r4, r5, r6, r7, r8) := by rw [if_pos rfl] at H; exact H
        clear H
        have H := H1
        clear H1
        replace H := Option.bind_eq_some_iff.mp H
        obtain ⟨⟨t150, t151, t152⟩, A80, H⟩ := H
        replace H : ((spec_l01Below.f s0_0 t151 t152 4).bind fun bt153 => (some (2, t150, bt153.1, 0, 0, 0, bt153.2.1, bt153.2.2))) = some (r1, r2, r3, r4, r5, r6, r7, r8) := H
        have A8 := Aside0.mk A80
        clear A80
        replace H := Option.bind_eq_some_iff.mp H
        obtain ⟨⟨t153, t154, t155⟩, A90, H⟩ := H
        replace H : (some (2, t150, t153, 0, 0, 0, t154, t155)) = some (r1, r2, r3, r4, r5, r6, r7, r8) := H
        have A9 := Aside0.mk A90
        clear A90
        simp only [Option.some.injEq, Prod.mk.injEq] at H
        obtain ⟨rfl, rfl, rfl, rfl, rfl, rfl, rfl, rfl⟩ := H
        go_wp2_with (first | ((first | ((with_reducible refine gate_callee (f := 68) rfl ?_); refine goesL_ (some 9) rfl rfl Try.func68 z2_26 rfl #[.pointer (some ⟨g, 0, none⟩), .int .i64 5] rfl z2_1 ?_; (with_reducible refine (spec_l01Below.calls g s0_0 t148 t149 5 t150 t151 t152 w0 _ ?side1 ?side2 A8.out).mono ?_)) | (go_at_call 68; (with_reducible refine (spec_l01Below.calls g s0_0 t148 t149 5 t150 t151 t152 w0 _ ?side1 ?side2 A8.out).mono ?_))); (case side1 => exact z2_8); (case side2 => exact z2_9); rintro e w10 ⟨rfl, hi, hb, hk⟩; (first | refine ⟨_, rfl, ?_⟩ | skip); have n0_ := Aside0.mk (KeepBut.blk hk (g' := gb146) (o := .cells #[.int .i64 0, .int .i64 0, .int .i64 0, .int .i64 0, .int .i64 0, .int .i64 0] 77 (0, 0)) z2_16 NB146_0.out (by simp)); have n1_ := Aside0.mk (KeepBut.trans z2_11 hk (.inl rfl)); have n2_ := Aside0.mk (hb); have n3_ := Aside0.mk (hi); clear BK146; clear HK; clear HB; clear HI0; have BK146 := n0_; have HK := n1_; have HB := n2_; have HI0 := n3_; clear n0_ n1_ n2_ n3_; (try clear hb); (try clear hb2); (try clear hk); (try clear hi)) | ((first | ((with_reducible refine gate_callee (f := 68) rfl ?_); refine goesL_ (some 11) rfl rfl Try.func68 z2_26 rfl #[.pointer (some ⟨g, 0, none⟩), .int .i64 4] rfl z2_1 ?_; (with_reducible refine (spec_l01Below.calls g s0_0 t151 t152 4 t153 t154 t155 w0 _ ?side1 ?side2 A9.out).mono ?_)) | (go_at_call 68; (with_reducible refine (spec_l01Below.calls g s0_0 t151 t152 4 t153 t154 t155 w0 _ ?side1 ?side2 A9.out).mono ?_))); (case side1 => exact z2_8); (case side2 => exact z2_9); rintro e w11 ⟨rfl, hi, hb, hk⟩; (first | refine ⟨_, rfl, ?_⟩ | skip); have n0_ := Aside0.mk (KeepBut.blk hk (g' := gb146) (o := .cells #[.int .i64 0, .int .i64 0, .int .i64 0, .int .i64 0, .int .i64 0, .int .i64 0] 77 (0, 0)) z2_16 NB146_0.out (by simp)); have n1_ := Aside0.mk (KeepBut.trans z2_11 hk (.inl rfl)); have n2_ := Aside0.mk (hb); have n3_ := Aside0.mk (hi); clear BK146; clear HK; clear HB; clear HI0; have BK146 := n0_; have HK := n1_; have HB := n2_; have HI0 := n3_; clear n0_ n1_ n2_ n3_; (try clear hb); (try clear hb2); (try clear hk); (try clear hi); have hnb12 := NB146_0.out; have hnc12 := NB0_146.out; have hcz13_0 : w11.cell? ⟨gb146, 0, none⟩ = some (.int .i64 0) := (blk_cell BK146.out 0).trans rfl; have hcz13_1 : w11.cell? ⟨gb146, 1, none⟩ = some (.int .i64 0) := (blk_cell BK146.out 1).trans rfl; have hcz13_2 : w11.cell? ⟨gb146, 2, none⟩ = some (.int .i64 0) := (blk_cell BK146.out 2).trans rfl; have hcz13_3 : w11.cell? ⟨gb146, 3, none⟩ = some (.int .i64 0) := (blk_cell BK146.out 3).trans rfl; have hcz13_4 : w11.cell? ⟨gb146, 4, none⟩ = some (.int .i64 0) := (blk_cell BK146.out 4).trans rfl; have hcz13_5 : w11.cell? ⟨gb146, 5, none⟩ = some (.int .i64 0) := (blk_cell BK146.out 5).trans rfl; have hfz13_0 := blk_frozen BK146.out 0; have hfz13_1 := blk_frozen BK146.out 1; have hfz13_2 := blk_frozen BK146.out 2; have hfz13_3 := blk_frozen BK146.out 3; have hfz13_4 := blk_frozen BK146.out 4; have hfz13_5 := blk_frozen BK146.out 5) | ((with_reducible refine gate_store (t := 77) (p := 2) rfl ?_); refine store_event (t := 77) (p := 2) (v := ?vo_w14) (w1 := ((((((w11.setCell ⟨gb146, 0, none⟩ (.int .i64 2)).setCell ⟨gb146, 1, none⟩ (.int .i64 t150)).setCell ⟨gb146, 2, none⟩ (.int .i64 t153)).setCell ⟨gb146, 3, none⟩ (.int .i64 0)).setCell ⟨gb146, 4, none⟩ (.int .i64 0)).setCell ⟨gb146, 5, none⟩ (.int .i64 0))) ?hg ?ho ?hn ?hr ?_; (case ho => rfl); (case hg => rfl); (case hn => rfl); (case hr => exact z2_19); intro w14 hw; have n0_ : Aside0 (w14.heap[gb146]? = some (.cells #[.int .i64 2, .int .i64 t150, .int .i64 t153, .int .i64 0, .int .i64 0, .int .i64 0] 77 (0, 0))) := ⟨(by rw [hw]; exact (by (with_reducible repeat (first | refine blk_drewN ?_ _ | refine blk_drew ?_ | refine blk_alloc ?_ _)); refine blk_put (cs := #[.int .i64 2, .int .i64 t150, .int .i64 t153, .int .i64 0, .int .i64 0, .int .i64 0]) ?_ 5 _ rfl; (with_reducible repeat (first | refine blk_drewN ?_ _ | refine blk_drew ?_ | refine blk_alloc ?_ _)); refine blk_put (cs := #[.int .i64 2, .int .i64 t150, .int .i64 t153, .int .i64 0, .int .i64 0, .int .i64 0]) ?_ 4 _ rfl; (with_reducible repeat (first | refine blk_drewN ?_ _ | refine blk_drew ?_ | refine blk_alloc ?_ _)); refine blk_put (cs := #[.int .i64 2, .int .i64 t150, .int .i64 t153, .int .i64 0, .int .i64 0, .int .i64 0]) ?_ 3 _ rfl; (with_reducible repeat (first | refine blk_drewN ?_ _ | refine blk_drew ?_ | refine blk_alloc ?_ _)); refine blk_put (cs := #[.int .i64 2, .int .i64 t150, .int .i64 0, .int .i64 0, .int .i64 0, .int .i64 0]) ?_ 2 _ rfl; (with_reducible repeat (first | refine blk_drewN ?_ _ | refine blk_drew ?_ | refine blk_alloc ?_ _)); refine blk_put (cs := #[.int .i64 2, .int .i64 0, .int .i64 0, .int .i64 0, .int .i64 0, .int .i64 0]) ?_ 1 _ rfl; (with_reducible repeat (first | refine blk_drewN ?_ _ | refine blk_drew ?_ | refine blk_alloc ?_ _)); refine blk_put (cs := #[.int .i64 0, .int .i64 0, .int .i64 0, .int .i64 0, .int .i64 0, .int .i64 0]) ?_ 0 _ rfl; (with_reducible repeat (first | refine blk_drewN ?_ _ | refine blk_drew ?_ | refine blk_alloc ?_ _)); exact BK146.out))⟩; have n1_ : Aside0 (IsS116 w0 w14 g s0_0 t154 t155) := ⟨(by rw [hw]; exact z2_8)⟩; have n2_ : Aside0 (KeepBut w w14 g none) := ⟨(by rw [hw]; exact z2_11)⟩; have n3_ : Aside0 (Below w0.heap.size w0 w14) := ⟨(by rw [hw]; exact z2_9)⟩; clear hw; clear BK146; clear HI0; clear HK; clear HB; have BK146 := n0_; have HI0 := n1_; have HK := n2_; have HB := n3_; clear n0_ n1_ n2_ n3_))
        refine bodyPost_ret (results_cell_row rfl _ _ gb146 77 #[.int .i64 2, .int .i64 t150, .int .i64 t153, .int .i64 0, .int .i64 0, .int .i64 0] (0, 0) _ rfl z2_16 Try.underlying77 rfl z2_26) rfl ?_
        exact ⟨by first | rfl | (simp [errW_none, errW_some] <;> rfl) | (simp [*, errW_none, errW_some] <;> rfl) | (simp [*, errW_none, errW_some, i64_w]; done), by repeat (first | (with_reducible first | exact HI0.out | apply IsS116.alloc | apply IsS116.drewN | apply IsS116.drew | apply IsS116.set_1 | apply IsS116.set_2 | refine IsS116.far ?_ NB0_146.out _) | exact HI0.out), by repeat (first | (with_reducible first | exact HB.out | apply below_alloc | apply pw_below_drewN | apply below_drew1 | refine below_set ?_ (IsS116.ge HI0.out) | refine below_set ?_ GE146.out) | exact HB.out), by repeat (first | (with_reducible first | exact HK.out | apply KeepBut.set_ | apply keep_drewN | apply keep_drew | apply keep_alloc | refine keep_far ?_ GW146.out _) | exact HK.out)⟩
      · replace c7 := Bool.eq_false_iff.mpr c7
        subst c7
        have H1 : (if t147 = 2 then ((spec_l03Expr.f s0_0 t148 t149).bind fun bt156 => (some (3, 0, 0, bt156.1, bt156.2.1, bt156.2.2.1, bt156.2.2.2.1, bt156.2.2.2.2))) else ((spec_l01Below.f s0_0 t148 t149 5).bind fun bt161 => ((spec_l03Expr.f s0_0 bt161.2.1 bt161.2.2).bind fun bt164 => (some (1, bt161.1, 0, bt164.1, bt164.2.1, bt164.2.2.1, bt164.2.2.2.1, bt164.2.2.2.2))))) = some (r1, r2, r3, r4, r5, r6, r7, r8) := by rw [if_neg (show ¬ (false = true) by decide)] at H; exact H
        clear H
        have H := H1
        clear H1
        by_cases c15 : t147 = 2
        · rw [if_pos c15] at H
          have c15b0 : (t147 == 2) = true := beq_iff_eq.mpr c15
          have c15b1 : (t147 != 2) = false := bne_eq_false_iff_eq.mpr c15
          clear c15
          replace H := Option.bind_eq_some_iff.mp H
          obtain ⟨⟨t156, t157, t158, t159, t160⟩, A160, H⟩ := H
          replace H : (some (3, 0, 0, t156, t157, t158, t159, t160)) = some (r1, r2, r3, r4, r5, r6, r7, r8) := H
          have A16 := Aside0.mk A160
          clear A160
          simp only [Option.some.injEq, Prod.mk.injEq] at H
          obtain ⟨rfl, rfl, rfl, rfl, rfl, rfl, rfl, rfl⟩ := H
          go_wp2_with (first | ((first | ((with_reducible refine gate_callee (f := 96) rfl ?_); refine goesL_ (some 16) rfl rfl Try.func96 z2_26 rfl #[.pointer (some ⟨g, 0, none⟩)] rfl z2_1 ?_; (with_reducible refine (spec_l03Expr.calls g s0_0 t148 t149 t156 t157 t158 t159 t160 w0 _ ?side1 ?side2 A16.out).mono ?_)) | (go_at_call 96; (with_reducible refine (spec_l03Expr.calls g s0_0 t148 t149 t156 t157 t158 t159 t160 w0 _ ?side1 ?side2 A16.out).mono ?_))); (case side1 => exact z2_8); (case side2 => exact z2_9); rintro e w17 ⟨rfl, hi, hb, hk⟩; (first | refine ⟨_, rfl, ?_⟩ | skip); have n0_ := Aside0.mk (KeepBut.blk hk (g' := gb146) (o := .cells #[.int .i64 0, .int .i64 0, .int .i64 0, .int .i64 0, .int .i64 0, .int .i64 0] 77 (0, 0)) z2_16 NB146_0.out (by simp)); have n1_ := Aside0.mk (KeepBut.trans z2_11 hk (.inl rfl)); have n2_ := Aside0.mk (hb); have n3_ := Aside0.mk (hi); clear BK146; clear HK; clear HB; clear HI0; have BK146 := n0_; have HK := n1_; have HB := n2_; have HI0 := n3_; clear n0_ n1_ n2_ n3_; (try clear hb); (try clear hb2); (try clear hk); (try clear hi); have hnb18 := NB146_0.out; have hnc18 := NB0_146.out; have hcz19_0 : w17.cell? ⟨gb146, 0, none⟩ = some (.int .i64 0) := (blk_cell BK146.out 0).trans rfl; have hcz19_1 : w17.cell? ⟨gb146, 1, none⟩ = some (.int .i64 0) := (blk_cell BK146.out 1).trans rfl; have hcz19_2 : w17.cell? ⟨gb146, 2, none⟩ = some (.int .i64 0) := (blk_cell BK146.out 2).trans rfl; have hcz19_3 : w17.cell? ⟨gb146, 3, none⟩ = some (.int .i64 0) := (blk_cell BK146.out 3).trans rfl; have hcz19_4 : w17.cell? ⟨gb146, 4, none⟩ = some (.int .i64 0) := (blk_cell BK146.out 4).trans rfl; have hcz19_5 : w17.cell? ⟨gb146, 5, none⟩ = some (.int .i64 0) := (blk_cell BK146.out 5).trans rfl; have hfz19_0 := blk_frozen BK146.out 0; have hfz19_1 := blk_frozen BK146.out 1; have hfz19_2 := blk_frozen BK146.out 2; have hfz19_3 := blk_frozen BK146.out 3; have hfz19_4 := blk_frozen BK146.out 4; have hfz19_5 := blk_frozen BK146.out 5) | ((with_reducible refine gate_store (t := 77) (p := 2) rfl ?_); refine store_event (t := 77) (p := 2) (v := ?vo_w20) (w1 := ((((((w17.setCell ⟨gb146, 0, none⟩ (.int .i64 3)).setCell ⟨gb146, 1, none⟩ (.int .i64 0)).setCell ⟨gb146, 2, none⟩ (.int .i64 0)).setCell ⟨gb146, 3, none⟩ (.int .i64 t156)).setCell ⟨gb146, 4, none⟩ (.int .i64 t157)).setCell ⟨gb146, 5, none⟩ (.int .i64 t158))) ?hg ?ho ?hn ?hr ?_; (case ho => rfl); (case hg => rfl); (case hn => rfl); (case hr => exact z2_19); intro w20 hw; have n0_ : Aside0 (w20.heap[gb146]? = some (.cells #[.int .i64 3, .int .i64 0, .int .i64 0, .int .i64 t156, .int .i64 t157, .int .i64 t158] 77 (0, 0))) := ⟨(by rw [hw]; exact (by (with_reducible repeat (first | refine blk_drewN ?_ _ | refine blk_drew ?_ | refine blk_alloc ?_ _)); refine blk_put (cs := #[.int .i64 3, .int .i64 0, .int .i64 0, .int .i64 t156, .int .i64 t157, .int .i64 0]) ?_ 5 _ rfl; (with_reducible repeat (first | refine blk_drewN ?_ _ | refine blk_drew ?_ | refine blk_alloc ?_ _)); refine blk_put (cs := #[.int .i64 3, .int .i64 0, .int .i64 0, .int .i64 t156, .int .i64 0, .int .i64 0]) ?_ 4 _ rfl; (with_reducible repeat (first | refine blk_drewN ?_ _ | refine blk_drew ?_ | refine blk_alloc ?_ _)); refine blk_put (cs := #[.int .i64 3, .int .i64 0, .int .i64 0, .int .i64 0, .int .i64 0, .int .i64 0]) ?_ 3 _ rfl; (with_reducible repeat (first | refine blk_drewN ?_ _ | refine blk_drew ?_ | refine blk_alloc ?_ _)); refine blk_put (cs := #[.int .i64 3, .int .i64 0, .int .i64 0, .int .i64 0, .int .i64 0, .int .i64 0]) ?_ 2 _ rfl; (with_reducible repeat (first | refine blk_drewN ?_ _ | refine blk_drew ?_ | refine blk_alloc ?_ _)); refine blk_put (cs := #[.int .i64 3, .int .i64 0, .int .i64 0, .int .i64 0, .int .i64 0, .int .i64 0]) ?_ 1 _ rfl; (with_reducible repeat (first | refine blk_drewN ?_ _ | refine blk_drew ?_ | refine blk_alloc ?_ _)); refine blk_put (cs := #[.int .i64 0, .int .i64 0, .int .i64 0, .int .i64 0, .int .i64 0, .int .i64 0]) ?_ 0 _ rfl; (with_reducible repeat (first | refine blk_drewN ?_ _ | refine blk_drew ?_ | refine blk_alloc ?_ _)); exact BK146.out))⟩; have n1_ : Aside0 (IsS116 w0 w20 g s0_0 t159 t160) := ⟨(by rw [hw]; exact z2_8)⟩; have n2_ : Aside0 (KeepBut w w20 g none) := ⟨(by rw [hw]; exact z2_11)⟩; have n3_ : Aside0 (Below w0.heap.size w0 w20) := ⟨(by rw [hw]; exact z2_9)⟩; clear hw; clear BK146; clear HI0; clear HK; clear HB; have BK146 := n0_; have HI0 := n1_; have HK := n2_; have HB := n3_; clear n0_ n1_ n2_ n3_))
          refine bodyPost_ret (results_cell_row rfl _ _ gb146 77 #[.int .i64 3, .int .i64 0, .int .i64 0, .int .i64 t156, .int .i64 t157, .int .i64 t158] (0, 0) _ rfl z2_16 Try.underlying77 rfl z2_26) rfl ?_
          exact ⟨by first | rfl | (simp [errW_none, errW_some] <;> rfl) | (simp [*, errW_none, errW_some] <;> rfl) | (simp [*, errW_none, errW_some, i64_w]; done), by repeat (first | (with_reducible first | exact HI0.out | apply IsS116.alloc | apply IsS116.drewN | apply IsS116.drew | apply IsS116.set_1 | apply IsS116.set_2 | refine IsS116.far ?_ NB0_146.out _) | exact HI0.out), by repeat (first | (with_reducible first | exact HB.out | apply below_alloc | apply pw_below_drewN | apply below_drew1 | refine below_set ?_ (IsS116.ge HI0.out) | refine below_set ?_ GE146.out) | exact HB.out), by repeat (first | (with_reducible first | exact HK.out | apply KeepBut.set_ | apply keep_drewN | apply keep_drew | apply keep_alloc | refine keep_far ?_ GW146.out _) | exact HK.out)⟩
        · rw [if_neg c15] at H
          have c15b0 : (t147 == 2) = false := beq_eq_false_iff_ne.mpr c15
          have c15b1 : (t147 != 2) = true := bne_iff_ne.mpr c15
          replace H := Option.bind_eq_some_iff.mp H
          obtain ⟨⟨t161, t162, t163⟩, A210, H⟩ := H
          replace H : ((spec_l03Expr.f s0_0 t162 t163).bind fun bt164 => (some (1, t161, 0, bt164.1, bt164.2.1, bt164.2.2.1, bt164.2.2.2.1, bt164.2.2.2.2))) = some (r1, r2, r3, r4, r5, r6, r7, r8) := H
          have A21 := Aside0.mk A210
          clear A210
          replace H := Option.bind_eq_some_iff.mp H
          obtain ⟨⟨t164, t165, t166, t167, t168⟩, A220, H⟩ := H
          replace H : (some (1, t161, 0, t164, t165, t166, t167, t168)) = some (r1, r2, r3, r4, r5, r6, r7, r8) := H
          have A22 := Aside0.mk A220
          clear A220
          simp only [Option.some.injEq, Prod.mk.injEq] at H
          obtain ⟨rfl, rfl, rfl, rfl, rfl, rfl, rfl, rfl⟩ := H
          go_wp2_with (first | ((first | ((with_reducible refine gate_callee (f := 68) rfl ?_); refine goesL_ (some 19) rfl rfl Try.func68 z2_26 rfl #[.pointer (some ⟨g, 0, none⟩), .int .i64 5] rfl z2_1 ?_; (with_reducible refine (spec_l01Below.calls g s0_0 t148 t149 5 t161 t162 t163 w0 _ ?side1 ?side2 A21.out).mono ?_)) | (go_at_call 68; (with_reducible refine (spec_l01Below.calls g s0_0 t148 t149 5 t161 t162 t163 w0 _ ?side1 ?side2 A21.out).mono ?_))); (case side1 => exact z2_8); (case side2 => exact z2_9); rintro e w23 ⟨rfl, hi, hb, hk⟩; (first | refine ⟨_, rfl, ?_⟩ | skip); have n0_ := Aside0.mk (KeepBut.blk hk (g' := gb146) (o := .cells #[.int .i64 0, .int .i64 0, .int .i64 0, .int .i64 0, .int .i64 0, .int .i64 0] 77 (0, 0)) z2_16 NB146_0.out (by simp)); have n1_ := Aside0.mk (KeepBut.trans z2_11 hk (.inl rfl)); have n2_ := Aside0.mk (hb); have n3_ := Aside0.mk (hi); clear BK146; clear HK; clear HB; clear HI0; have BK146 := n0_; have HK := n1_; have HB := n2_; have HI0 := n3_; clear n0_ n1_ n2_ n3_; (try clear hb); (try clear hb2); (try clear hk); (try clear hi)) | ((first | ((with_reducible refine gate_callee (f := 96) rfl ?_); refine goesL_ (some 21) rfl rfl Try.func96 z2_26 rfl #[.pointer (some ⟨g, 0, none⟩)] rfl z2_1 ?_; (with_reducible refine (spec_l03Expr.calls g s0_0 t162 t163 t164 t165 t166 t167 t168 w0 _ ?side1 ?side2 A22.out).mono ?_)) | (go_at_call 96; (with_reducible refine (spec_l03Expr.calls g s0_0 t162 t163 t164 t165 t166 t167 t168 w0 _ ?side1 ?side2 A22.out).mono ?_))); (case side1 => exact z2_8); (case side2 => exact z2_9); rintro e w24 ⟨rfl, hi, hb, hk⟩; (first | refine ⟨_, rfl, ?_⟩ | skip); have n0_ := Aside0.mk (KeepBut.blk hk (g' := gb146) (o := .cells #[.int .i64 0, .int .i64 0, .int .i64 0, .int .i64 0, .int .i64 0, .int .i64 0] 77 (0, 0)) z2_16 NB146_0.out (by simp)); have n1_ := Aside0.mk (KeepBut.trans z2_11 hk (.inl rfl)); have n2_ := Aside0.mk (hb); have n3_ := Aside0.mk (hi); clear BK146; clear HK; clear HB; clear HI0; have BK146 := n0_; have HK := n1_; have HB := n2_; have HI0 := n3_; clear n0_ n1_ n2_ n3_; (try clear hb); (try clear hb2); (try clear hk); (try clear hi); have hnb25 := NB146_0.out; have hnc25 := NB0_146.out; have hcz26_0 : w24.cell? ⟨gb146, 0, none⟩ = some (.int .i64 0) := (blk_cell BK146.out 0).trans rfl; have hcz26_1 : w24.cell? ⟨gb146, 1, none⟩ = some (.int .i64 0) := (blk_cell BK146.out 1).trans rfl; have hcz26_2 : w24.cell? ⟨gb146, 2, none⟩ = some (.int .i64 0) := (blk_cell BK146.out 2).trans rfl; have hcz26_3 : w24.cell? ⟨gb146, 3, none⟩ = some (.int .i64 0) := (blk_cell BK146.out 3).trans rfl; have hcz26_4 : w24.cell? ⟨gb146, 4, none⟩ = some (.int .i64 0) := (blk_cell BK146.out 4).trans rfl; have hcz26_5 : w24.cell? ⟨gb146, 5, none⟩ = some (.int .i64 0) := (blk_cell BK146.out 5).trans rfl; have hfz26_0 := blk_frozen BK146.out 0; have hfz26_1 := blk_frozen BK146.out 1; have hfz26_2 := blk_frozen BK146.out 2; have hfz26_3 := blk_frozen BK146.out 3; have hfz26_4 := blk_frozen BK146.out 4; have hfz26_5 := blk_frozen BK146.out 5) | ((with_reducible refine gate_store (t := 77) (p := 2) rfl ?_); refine store_event (t := 77) (p := 2) (v := ?vo_w27) (w1 := ((((((w24.setCell ⟨gb146, 0, none⟩ (.int .i64 1)).setCell ⟨gb146, 1, none⟩ (.int .i64 t161)).setCell ⟨gb146, 2, none⟩ (.int .i64 0)).setCell ⟨gb146, 3, none⟩ (.int .i64 t164)).setCell ⟨gb146, 4, none⟩ (.int .i64 t165)).setCell ⟨gb146, 5, none⟩ (.int .i64 t166))) ?hg ?ho ?hn ?hr ?_; (case ho => rfl); (case hg => rfl); (case hn => rfl); (case hr => exact z2_19); intro w27 hw; have n0_ : Aside0 (w27.heap[gb146]? = some (.cells #[.int .i64 1, .int .i64 t161, .int .i64 0, .int .i64 t164, .int .i64 t165, .int .i64 t166] 77 (0, 0))) := ⟨(by rw [hw]; exact (by (with_reducible repeat (first | refine blk_drewN ?_ _ | refine blk_drew ?_ | refine blk_alloc ?_ _)); refine blk_put (cs := #[.int .i64 1, .int .i64 t161, .int .i64 0, .int .i64 t164, .int .i64 t165, .int .i64 0]) ?_ 5 _ rfl; (with_reducible repeat (first | refine blk_drewN ?_ _ | refine blk_drew ?_ | refine blk_alloc ?_ _)); refine blk_put (cs := #[.int .i64 1, .int .i64 t161, .int .i64 0, .int .i64 t164, .int .i64 0, .int .i64 0]) ?_ 4 _ rfl; (with_reducible repeat (first | refine blk_drewN ?_ _ | refine blk_drew ?_ | refine blk_alloc ?_ _)); refine blk_put (cs := #[.int .i64 1, .int .i64 t161, .int .i64 0, .int .i64 0, .int .i64 0, .int .i64 0]) ?_ 3 _ rfl; (with_reducible repeat (first | refine blk_drewN ?_ _ | refine blk_drew ?_ | refine blk_alloc ?_ _)); refine blk_put (cs := #[.int .i64 1, .int .i64 t161, .int .i64 0, .int .i64 0, .int .i64 0, .int .i64 0]) ?_ 2 _ rfl; (with_reducible repeat (first | refine blk_drewN ?_ _ | refine blk_drew ?_ | refine blk_alloc ?_ _)); refine blk_put (cs := #[.int .i64 1, .int .i64 0, .int .i64 0, .int .i64 0, .int .i64 0, .int .i64 0]) ?_ 1 _ rfl; (with_reducible repeat (first | refine blk_drewN ?_ _ | refine blk_drew ?_ | refine blk_alloc ?_ _)); refine blk_put (cs := #[.int .i64 0, .int .i64 0, .int .i64 0, .int .i64 0, .int .i64 0, .int .i64 0]) ?_ 0 _ rfl; (with_reducible repeat (first | refine blk_drewN ?_ _ | refine blk_drew ?_ | refine blk_alloc ?_ _)); exact BK146.out))⟩; have n1_ : Aside0 (IsS116 w0 w27 g s0_0 t167 t168) := ⟨(by rw [hw]; exact z2_8)⟩; have n2_ : Aside0 (KeepBut w w27 g none) := ⟨(by rw [hw]; exact z2_11)⟩; have n3_ : Aside0 (Below w0.heap.size w0 w27) := ⟨(by rw [hw]; exact z2_9)⟩; clear hw; clear BK146; clear HI0; clear HK; clear HB; have BK146 := n0_; have HI0 := n1_; have HK := n2_; have HB := n3_; clear n0_ n1_ n2_ n3_))
          refine bodyPost_ret (results_cell_row rfl _ _ gb146 77 #[.int .i64 1, .int .i64 t161, .int .i64 0, .int .i64 t164, .int .i64 t165, .int .i64 t166] (0, 0) _ rfl z2_16 Try.underlying77 rfl z2_26) rfl ?_
          exact ⟨by first | rfl | (simp [errW_none, errW_some] <;> rfl) | (simp [*, errW_none, errW_some] <;> rfl) | (simp [*, errW_none, errW_some, i64_w]; done), by repeat (first | (with_reducible first | exact HI0.out | apply IsS116.alloc | apply IsS116.drewN | apply IsS116.drew | apply IsS116.set_1 | apply IsS116.set_2 | refine IsS116.far ?_ NB0_146.out _) | exact HI0.out), by repeat (first | (with_reducible first | exact HB.out | apply below_alloc | apply pw_below_drewN | apply below_drew1 | refine below_set ?_ (IsS116.ge HI0.out) | refine below_set ?_ GE146.out) | exact HB.out), by repeat (first | (with_reducible first | exact HK.out | apply KeepBut.set_ | apply keep_drewN | apply keep_drew | apply keep_alloc | refine keep_far ?_ GW146.out _) | exact HK.out)⟩

/-! ### spec_l05Block: function 133 -/
mutual
def spec_l05Block.l0 : Nat → Int → Int → List (S77) → Int → List Int → Int → Int → Option ((List (S77)) × Int × Int)
  | 0, _, _, _, _, _, _, _ => none
  | k + 1, x1, x2, x7, x8, x1000, x1001, x1002 => if x8 < x1 then (if x2 < 2 then (if (x7.length : Int) < 6 then ((spec_l01Once.f x1000 x1001 x1002 5).bind fun bt172 => (spec_l05Block.j1 k x1 x2 x7 x8 bt172.1 x1000 bt172.2.1 bt172.2.2)) else (spec_l05Block.j1 k x1 x2 x7 x8 false x1000 x1001 x1002)) else (spec_l05Block.j1 k x1 x2 x7 x8 false x1000 x1001 x1002)) else (some (x7, x1001, x1002))
def spec_l05Block.j1 : Nat → Int → Int → List (S77) → Int → Bool → List Int → Int → Int → Option ((List (S77)) × Int × Int)
  | 0, _, _, _, _, _, _, _, _ => none
  | k + 1, x1, x2, x7, x8, x26, x1000, x1001, x1002 => if x26 = true then ((spec_l01Below.f x1000 x1001 x1002 3).bind fun bt175 => ((spec_l01Once.f x1000 bt175.2.1 bt175.2.2 2).bind fun bt179 => (if bt179.1 = true then ((spec_l03Expr.f x1000 bt179.2.1 bt179.2.2).bind fun bt182 => (if x7.length < 2932031007402 then ((some (x7 ++ [(⟨4, 0, 0, (⟨bt182.1, bt182.2.1, bt182.2.2.1⟩ : S32)⟩ : S77)] : List (S77))).bind fun y187 => ((spec_l01Below.f x1000 bt182.2.2.2.1 bt182.2.2.2.2 2).bind fun bt190 => ((spec_l05Block.f k x1000 bt190.2.1 bt190.2.2 (wrap64 (1 + bt190.1)) (wrap64 (x2 + 1))).bind fun bt193 => (if y187.length + bt193.1.length < 2932031007402 then ((some (y187 ++ bt193.1 : List (S77))).bind fun y198 => (if y198.length < 2932031007402 then (spec_l05Block.l0 k x1 x2 (y198 ++ [(⟨6, 0, 0, (⟨0, 0, 0⟩ : S32)⟩ : S77)]) (wrap64 (x8 + 1)) x1000 bt193.2.1 bt193.2.2) else (none))) else (none))))) else (none))) else (if x7.length < 2932031007402 then ((some (x7 ++ [(⟨5, 0, wrap64 (1 + bt175.1), (⟨0, 0, 0⟩ : S32)⟩ : S77)] : List (S77))).bind fun y204 => ((spec_l01Below.f x1000 bt179.2.1 bt179.2.2 2).bind fun bt207 => ((spec_l05Block.f k x1000 bt207.2.1 bt207.2.2 (wrap64 (1 + bt207.1)) (wrap64 (x2 + 1))).bind fun bt210 => (if y204.length + bt210.1.length < 2932031007402 then ((some (y204 ++ bt210.1 : List (S77))).bind fun y215 => (if y215.length < 2932031007402 then (spec_l05Block.l0 k x1 x2 (y215 ++ [(⟨6, 0, 0, (⟨0, 0, 0⟩ : S32)⟩ : S77)]) (wrap64 (x8 + 1)) x1000 bt210.2.1 bt210.2.2) else (none))) else (none))))) else (none))))) else ((spec_l04Stmt.f k x1000 x1001 x1002).bind fun bt221 => (if x7.length < 2932031007402 then (spec_l05Block.l0 k x1 x2 (x7 ++ [(⟨bt221.1, bt221.2.1, bt221.2.2.1, (⟨bt221.2.2.2.1, bt221.2.2.2.2.1, bt221.2.2.2.2.2.1⟩ : S32)⟩ : S77)]) (wrap64 (x8 + 1)) x1000 bt221.2.2.2.2.2.2.1 bt221.2.2.2.2.2.2.2) else (none)))
def spec_l05Block.f : Nat → List Int → Int → Int → Int → Int → Option ((List (S77)) × Int × Int)
  | 0, _, _, _, _, _ => none
  | k + 1, s0_0, s0_1, s0_2, a1, a2 => spec_l05Block.l0 k a1 a2 (([] : List (S77))) 0 s0_0 s0_1 s0_2
end
theorem spec_l05Block.mono_l : ∀ k, (∀ y0 y1 y2 y3 y4, LeO (spec_l05Block.f k y0 y1 y2 y3 y4) (spec_l05Block.f (k + 1) y0 y1 y2 y3 y4)) ∧ (∀ y0 y1 y2 y3 y4 y5 y6, LeO (spec_l05Block.l0 k y0 y1 y2 y3 y4 y5 y6) (spec_l05Block.l0 (k + 1) y0 y1 y2 y3 y4 y5 y6)) ∧ (∀ y0 y1 y2 y3 y4 y5 y6 y7, LeO (spec_l05Block.j1 k y0 y1 y2 y3 y4 y5 y6 y7) (spec_l05Block.j1 (k + 1) y0 y1 y2 y3 y4 y5 y6 y7))
  | 0 => ⟨fun _ _ _ _ _ r h => by simp [spec_l05Block.f] at h, fun _ _ _ _ _ _ _ r h => by simp [spec_l05Block.l0] at h, fun _ _ _ _ _ _ _ _ r h => by simp [spec_l05Block.j1] at h⟩
  | k + 1 => by
    obtain ⟨ih0, ih1, ih2⟩ := spec_l05Block.mono_l k
    refine ⟨?_, ?_, ?_⟩
    · intro y0 y1 y2 y3 y4
      unfold spec_l05Block.f
      repeat' first
      | (with_reducible exact ih0 _ _ _ _ _)
      | (with_reducible exact ih1 _ _ _ _ _ _ _)
      | (with_reducible exact ih2 _ _ _ _ _ _ _ _)
      | (with_reducible exact spec_l04Stmt.mono _ _ _ _)
      | (with_reducible exact LeO.refl _)
      | (with_reducible exact LeO.none _)
      | (with_reducible refine LeO.ite ?_ ?_)
      | (with_reducible refine LeO.bind ?_ (fun _ => ?_))
      | exact ih0 _ _ _ _ _
      | exact ih1 _ _ _ _ _ _ _
      | exact ih2 _ _ _ _ _ _ _ _
      | exact spec_l04Stmt.mono _ _ _ _
      | exact LeO.none _
      | refine LeO.ite ?_ ?_
      | refine LeO.bind ?_ (fun _ => ?_)
    · intro y0 y1 y2 y3 y4 y5 y6
      unfold spec_l05Block.l0
      repeat' first
      | (with_reducible exact ih0 _ _ _ _ _)
      | (with_reducible exact ih1 _ _ _ _ _ _ _)
      | (with_reducible exact ih2 _ _ _ _ _ _ _ _)
      | (with_reducible exact spec_l04Stmt.mono _ _ _ _)
      | (with_reducible exact LeO.refl _)
      | (with_reducible exact LeO.none _)
      | (with_reducible refine LeO.ite ?_ ?_)
      | (with_reducible refine LeO.bind ?_ (fun _ => ?_))
      | exact ih0 _ _ _ _ _
      | exact ih1 _ _ _ _ _ _ _
      | exact ih2 _ _ _ _ _ _ _ _
      | exact spec_l04Stmt.mono _ _ _ _
      | exact LeO.none _
      | refine LeO.ite ?_ ?_
      | refine LeO.bind ?_ (fun _ => ?_)
    · intro y0 y1 y2 y3 y4 y5 y6 y7
      unfold spec_l05Block.j1
      repeat' first
      | (with_reducible exact ih0 _ _ _ _ _)
      | (with_reducible exact ih1 _ _ _ _ _ _ _)
      | (with_reducible exact ih2 _ _ _ _ _ _ _ _)
      | (with_reducible exact spec_l04Stmt.mono _ _ _ _)
      | (with_reducible exact LeO.refl _)
      | (with_reducible exact LeO.none _)
      | (with_reducible refine LeO.ite ?_ ?_)
      | (with_reducible refine LeO.bind ?_ (fun _ => ?_))
      | exact ih0 _ _ _ _ _
      | exact ih1 _ _ _ _ _ _ _
      | exact ih2 _ _ _ _ _ _ _ _
      | exact spec_l04Stmt.mono _ _ _ _
      | exact LeO.none _
      | refine LeO.ite ?_ ?_
      | refine LeO.bind ?_ (fun _ => ?_)
theorem spec_l05Block.mono : ∀ a0 a1 a2 a3 a4 k, LeO (spec_l05Block.f k a0 a1 a2 a3 a4) (spec_l05Block.f (k + 1) a0 a1 a2 a3 a4) := by
  intro a0 a1 a2 a3 a4 k
  obtain ⟨ih0, ih1, ih2⟩ := spec_l05Block.mono_l k
  exact ih0 a0 a1 a2 a3 a4
set_option maxHeartbeats 8000000 in
set_option maxRecDepth 100000 in
theorem spec_l05Block.calls (k : Nat) : ∀ (g : Nat) (s0_0 : List Int) (s0_1 : Int) (s0_2 : Int) (a1 : Int) (a2 : Int) (r1 : List (S77)) (r2 : Int) (r3 : Int) (w0 w : World) (hI : IsS116 w0 w g s0_0 s0_1 s0_2) (hB : Below w0.heap.size w0 w) (h : spec_l05Block.f k s0_0 s0_1 s0_2 a1 a2 = some (r1, r2, r3)),
    Calls Try.prog 133 #[.pointer (some ⟨g, 0, none⟩), .int .i64 a1, .int .i64 a2] w fun e w' => ∃ v0_ : Value, e = .returned (v0_) ∧ Kd.R k77 77 w' w.heap.size (fun _ => True) v0_ r1 ∧ IsS116 w0 w' g s0_0 r2 r3 ∧ Below w0.heap.size w0 w' ∧ KeepBut w w' g none := by
  induction k using Nat.strongRecOn with
  | _ k ih =>
  intro g s0_0 s0_1 s0_2 a1 a2 r1 r2 r3 w0 w hI hB h
  cases k with
  | zero => exact absurd h (by simp [spec_l05Block.f])
  | succ k =>
  simp only [spec_l05Block.f] at h
  have hu77 := Try.underlying77
  have HI0 := Aside0.mk hI
  have HK := Aside0.mk (KeepBut.refl w g none)
  have HL := Aside0.mk hB.size
  clear hI
  have HW0 := Aside0.mk hB.size
  have HB := Aside0.mk hB
  clear hB
  have H : (spec_l05Block.l0 k a1 a2 (([] : List (S77))) 0 s0_0 s0_1 s0_2) = some (r1, r2, r3) := h
  clear h
  obtain ⟨y169, hy169⟩ : ∃ y_ : List (S77), y_ = (([] : List (S77))) := ⟨_, rfl⟩
  replace H : (spec_l05Block.l0 k a1 a2 y169 0 s0_0 s0_1 s0_2) = some (r1, r2, r3) := by first | (rw [hy169]; with_reducible exact H) | (have H2_ := (Option.bind_some _ _).symm.trans H; rw [hy169]; with_reducible exact H2_) | (have H2_ := (Option.bind_some _ _).symm.trans H; with_reducible exact H2_) | with_reducible exact H | (rw [hy169]; exact H) | exact H
  have Ny169 := Aside0.mk hy169
  clear hy169
  have H' := Aside0.mk H
  clear H
  go_enter Try.func133, Try.ntmps133
  go_wp2_with (first | ((with_reducible refine gate_dst (N := 10) rfl ?_); (try (refine gate_guard (by rfl) ?_; dsimp only)); refine Kd.R_lit k77 _ 77 ?hg (N := 10) ?hd (xs := ([] : List (S77))) (inner := []) (ok := fun _ => True) (okp := fun _ => True) ?hr ?hp (fun _ hk => hk) trivial (Below.refl _ _) (Nat.le_refl _) (by simp) ?_; (case hd => rfl); (case hg => rfl); (case hr => exact z2_19); (case hp => exact (Reps.none _ _)); intro v170 w4 ho5 hb hg_ hnew_; clear hg_ hnew_; (first | rw [← Ny169.out] at ho5 | (simp only [Int.reduceToNat] at ho5; rw [← Ny169.out] at ho5)); have n0_ := Aside0.mk (Kd.R_lower ho5 (keep_size (w := w) (g := g) (row := none) z2_0)); have n1_ := Aside0.mk (IsS116.below z2_2 hb); have n2_ := Aside0.mk (KeepBut.trans z2_0 (KeepBut.of_below hb g none) (.inl rfl)); have n3_ := Aside0.mk (below_step z2_3 hb); clear HI0; clear HK; clear HB; have HO171 := n0_; have HI0 := n1_; have HK := n2_; have HB := n3_; clear n0_ n1_ n2_ n3_; clear hb ho5))
  go_loopg [7, 8] k (fun kq v7 v8 w' => ∃ (x7_1 : List (S77)) (x8_1 : Int) (x1001_1 : Int) (x1002_1 : Int), v8 = .int .i64 x8_1 ∧ Aside0 (spec_l05Block.l0 kq a1 a2 x7_1 x8_1 s0_0 x1001_1 x1002_1 = some (r1, r2, r3)) ∧ Aside0 (kq ≤ k) ∧ Aside0 (Kd.R k77 77 w' w.heap.size (fun _ => True) v7 x7_1) ∧ Aside0 (IsS116 w0 w' g s0_0 x1001_1 x1002_1) ∧ Aside0 (KeepBut w w' g none) ∧ Aside0 (Below w0.heap.size w0 w'))
  case atStart => exact ⟨(y169), (0), (s0_1), (s0_2), z2_20, H', ⟨Nat.le_refl _⟩, ⟨by (with_reducible repeat (first | apply Kd.R_alloc | apply Kd.R_drewN | apply Kd.R_drew)); exact HO171.out⟩, ⟨by repeat (first | (with_reducible first | exact HI0.out | apply IsS116.alloc | apply IsS116.drewN | apply IsS116.drew | apply IsS116.set_1 | apply IsS116.set_2) | exact HI0.out)⟩, ⟨by repeat (first | (with_reducible first | exact HK.out | apply KeepBut.set_ | apply keep_drewN | apply keep_drew | apply keep_alloc) | exact HK.out)⟩, ⟨by repeat (first | (with_reducible first | exact HB.out | apply below_alloc | apply pw_below_drewN | apply below_drew1 | refine below_set ?_ (IsS116.ge HI0.out)) | exact HB.out)⟩⟩
  case round =>
    clear H'
    obtain ⟨x7_1, x8_1, x1001_1, x1002_1, rfl, HA, HK1, HO_7, HI0, HK, HB⟩ := hrel
    cases gk with
    | zero => exact absurd HA.out (by simp [spec_l05Block.l0])
    | succ k1 =>
      have H := HA.out
      clear HA
      simp only [spec_l05Block.l0] at H
      by_cases c6 : x8_1 < a1
      · rw [if_pos c6] at H
        have c6b0 : decide (x8_1 < a1) = true := decide_eq_true c6
        clear c6
        have HC7 := Aside0.mk H
        clear H
        go_upto_region 5 with (fail)
        go_cut [26] (fun v26 wc => ∃ (kq : Nat) (x26_6 : Bool) (x1001_6 : Int) (x1002_6 : Int), v26 = .bool x26_6 ∧ Aside0 (spec_l05Block.j1 kq a1 a2 x7_1 x8_1 x26_6 s0_0 x1001_6 x1002_6 = some (r1, r2, r3)) ∧ Aside0 (kq ≤ k1) ∧ Aside0 (Kd.R k77 77 wc w.heap.size (fun _ => True) u7 x7_1) ∧ Aside0 (IsS116 w0 wc g s0_0 x1001_6 x1002_6) ∧ Aside0 (KeepBut w wc g none) ∧ Aside0 (Below w0.heap.size w0 wc))
        case first =>
          have H := HC7.out
          clear HC7
          by_cases c8 : a2 < 2
          · rw [if_pos c8] at H
            have c8b0 : decide (a2 < 2) = true := decide_eq_true c8
            clear c8
            (first | rw [c8b0] | (simp only [i64_w, i32_w]; rw [c8b0]) | skip)
            by_cases c9 : (x7_1.length : Int) < 6
            · rw [if_pos c9] at H
              have c9b0 : decide ((x7_1.length : Int) < 6) = true := decide_eq_true c9
              have c9b1 : decide (x7_1.length < 6) = true := decide_eq_true (by omega)
              clear c9
              replace H := Option.bind_eq_some_iff.mp H
              obtain ⟨⟨t172, t173, t174⟩, A100, H⟩ := H
              replace H : (spec_l05Block.j1 k1 a1 a2 x7_1 x8_1 t172 s0_0 t173 t174) = some (r1, r2, r3) := H
              have A10 := Aside0.mk A100
              clear A100
              have H' := Aside0.mk H
              clear H
              obtain ⟨Ao11, co11, eo11⟩ := Kd.R_slice HO_7.out
              subst eo11
              go_wp2_with (first | (go_at_call 159; (with_reducible refine (spec_l01Once.calls g s0_0 x1001_1 x1002_1 5 t172 t173 t174 w0 _ ?side1 ?side2 A10.out).mono ?_); (case side1 => exact z2_2); (case side2 => exact z2_3); rintro e w12 ⟨rfl, hi, hb, hk⟩; have n0_ := Aside0.mk (Kd.R_mono (Kd.R_keep (IsS116.apart (show IsS116 w0 _ g s0_0 x1001_1 x1002_1 from by repeat (first | (with_reducible first | exact HI0.out | apply IsS116.alloc | apply IsS116.drewN | apply IsS116.drew | apply IsS116.set_1 | apply IsS116.set_2) | exact HI0.out)) z2_13 (by decide)) hk (fun _ h => h.2)) (fun _ h => h.1)); have n1_ := Aside0.mk (KeepBut.trans z2_0 hk (.inl rfl)); have n2_ := Aside0.mk (hb); have n3_ := Aside0.mk (hi); clear HO_7; clear HK; clear HB; clear HI0; have HO_7 := n0_; have HK := n1_; have HB := n2_; have HI0 := n3_; clear n0_ n1_ n2_ n3_; (try clear hb); (try clear hb2); (try clear hk); (try clear hi)))
              go_meet
              case rel => exact ⟨_, (t172), (t173), (t174), z2_20, H', ⟨by have := HK1.out; first | omega | exact Nat.le_refl _⟩, ⟨by (with_reducible repeat (first | apply Kd.R_alloc | apply Kd.R_drewN | apply Kd.R_drew)); exact HO_7.out⟩, ⟨by repeat (first | (with_reducible first | exact HI0.out | apply IsS116.alloc | apply IsS116.drewN | apply IsS116.drew | apply IsS116.set_1 | apply IsS116.set_2) | exact HI0.out)⟩, ⟨by repeat (first | (with_reducible first | exact HK.out | apply KeepBut.set_ | apply keep_drewN | apply keep_drew | apply keep_alloc) | exact HK.out)⟩, ⟨by repeat (first | (with_reducible first | exact HB.out | apply below_alloc | apply pw_below_drewN | apply below_drew1 | refine below_set ?_ (IsS116.ge HI0.out)) | exact HB.out)⟩⟩
            · rw [if_neg c9] at H
              have c9b0 : decide ((x7_1.length : Int) < 6) = false := decide_eq_false c9
              have c9b1 : decide (x7_1.length < 6) = false := decide_eq_false (by omega)
              clear c9
              have H' := Aside0.mk H
              clear H
              obtain ⟨Ao13, co13, eo13⟩ := Kd.R_slice HO_7.out
              subst eo13
              go_wp2
              go_meet
              case rel => exact ⟨_, (false), (x1001_1), (x1002_1), z2_20, H', ⟨by have := HK1.out; first | omega | exact Nat.le_refl _⟩, ⟨by (with_reducible repeat (first | apply Kd.R_alloc | apply Kd.R_drewN | apply Kd.R_drew)); exact HO_7.out⟩, ⟨by repeat (first | (with_reducible first | exact HI0.out | apply IsS116.alloc | apply IsS116.drewN | apply IsS116.drew | apply IsS116.set_1 | apply IsS116.set_2) | exact HI0.out)⟩, ⟨by repeat (first | (with_reducible first | exact HK.out | apply KeepBut.set_ | apply keep_drewN | apply keep_drew | apply keep_alloc) | exact HK.out)⟩, ⟨by repeat (first | (with_reducible first | exact HB.out | apply below_alloc | apply pw_below_drewN | apply below_drew1 | refine below_set ?_ (IsS116.ge HI0.out)) | exact HB.out)⟩⟩
          · rw [if_neg c8] at H
            have c8b0 : decide (a2 < 2) = false := decide_eq_false c8
            clear c8
            (first | rw [c8b0] | (simp only [i64_w, i32_w]; rw [c8b0]) | skip)
            have H' := Aside0.mk H
            clear H
            go_wp2
            go_meet
            case rel => exact ⟨_, (false), (x1001_1), (x1002_1), z2_20, H', ⟨by have := HK1.out; first | omega | exact Nat.le_refl _⟩, ⟨by (with_reducible repeat (first | apply Kd.R_alloc | apply Kd.R_drewN | apply Kd.R_drew)); exact HO_7.out⟩, ⟨by repeat (first | (with_reducible first | exact HI0.out | apply IsS116.alloc | apply IsS116.drewN | apply IsS116.drew | apply IsS116.set_1 | apply IsS116.set_2) | exact HI0.out)⟩, ⟨by repeat (first | (with_reducible first | exact HK.out | apply KeepBut.set_ | apply keep_drewN | apply keep_drew | apply keep_alloc) | exact HK.out)⟩, ⟨by repeat (first | (with_reducible first | exact HB.out | apply below_alloc | apply pw_below_drewN | apply below_drew1 | refine below_set ?_ (IsS116.ge HI0.out)) | exact HB.out)⟩⟩
        case rest =>
          clear HC7
          (try clear c6); (try clear c6b0)
          obtain ⟨kq, x26_6, x1001_6, x1002_6, rfl, HA, HJ6, HO_7, HI0, HK, HB⟩ := hcut
          cases kq with
          | zero => exact absurd HA.out (by simp [spec_l05Block.j1])
          | succ kj6 =>
            have H := HA.out
            clear HA
            simp only [spec_l05Block.j1] at H
            by_cases c14 : x26_6 = true
            · subst c14
              have H1 : ((spec_l01Below.f s0_0 x1001_6 x1002_6 3).bind fun bt175 => ((spec_l01Once.f s0_0 bt175.2.1 bt175.2.2 2).bind fun bt179 => (if bt179.1 = true then ((spec_l03Expr.f s0_0 bt179.2.1 bt179.2.2).bind fun bt182 => (if x7_1.length < 2932031007402 then ((some (x7_1 ++ [(⟨4, 0, 0, (⟨bt182.1, bt182.2.1, bt182.2.2.1⟩ : S32)⟩ : S77)] : List (S77))).bind fun y187 => ((spec_l01Below.f s0_0 bt182.2.2.2.1 bt182.2.2.2.2 2).bind fun bt190 => ((spec_l05Block.f kj6 s0_0 bt190.2.1 bt190.2.2 (wrap64 (1 + bt190.1)) (wrap64 (a2 + 1))).bind fun bt193 => (if y187.length + bt193.1.length < 2932031007402 then ((some (y187 ++ bt193.1 : List (S77))).bind fun y198 => (if y198.length < 2932031007402 then (spec_l05Block.l0 kj6 a1 a2 (y198 ++ [(⟨6, 0, 0, (⟨0, 0, 0⟩ : S32)⟩ : S77)]) (wrap64 (x8_1 + 1)) s0_0 bt193.2.1 bt193.2.2) else (none))) else (none))))) else (none))) else (if x7_1.length < 2932031007402 then ((some (x7_1 ++ [(⟨5, 0, wrap64 (1 + bt175.1), (⟨0, 0, 0⟩ : S32)⟩ : S77)] : List (S77))).bind fun y204 => ((spec_l01Below.f s0_0 bt179.2.1 bt179.2.2 2).bind fun bt207 => ((spec_l05Block.f kj6 s0_0 bt207.2.1 bt207.2.2 (wrap64 (1 + bt207.1)) (wrap64 (a2 + 1))).bind fun bt210 => (if y204.length + bt210.1.length < 2932031007402 then ((some (y204 ++ bt210.1 : List (S77))).bind fun y215 => (if y215.length < 2932031007402 then (spec_l05Block.l0 kj6 a1 a2 (y215 ++ [(⟨6, 0, 0, (⟨0, 0, 0⟩ : S32)⟩ : S77)]) (wrap64 (x8_1 + 1)) s0_0 bt210.2.1 bt210.2.2) else (none))) else (none))))) else (none))))) = some (r1, r2, r3) := by rw [if_pos rfl] at H; exact H
              clear H
              have H := H1
              clear H1
              replace H := Option.bind_eq_some_iff.mp H
              obtain ⟨⟨t175, t176, t177⟩, A150, H⟩ := H
              replace H : ((spec_l01Once.f s0_0 t176 t177 2).bind fun bt179 => (if bt179.1 = true then ((spec_l03Expr.f s0_0 bt179.2.1 bt179.2.2).bind fun bt182 => (if x7_1.length < 2932031007402 then ((some (x7_1 ++ [(⟨4, 0, 0, (⟨bt182.1, bt182.2.1, bt182.2.2.1⟩ : S32)⟩ : S77)] : List (S77))).bind fun y187 => ((spec_l01Below.f s0_0 bt182.2.2.2.1 bt182.2.2.2.2 2).bind fun bt190 => ((spec_l05Block.f kj6 s0_0 bt190.2.1 bt190.2.2 (wrap64 (1 + bt190.1)) (wrap64 (a2 + 1))).bind fun bt193 => (if y187.length + bt193.1.length < 2932031007402 then ((some (y187 ++ bt193.1 : List (S77))).bind fun y198 => (if y198.length < 2932031007402 then (spec_l05Block.l0 kj6 a1 a2 (y198 ++ [(⟨6, 0, 0, (⟨0, 0, 0⟩ : S32)⟩ : S77)]) (wrap64 (x8_1 + 1)) s0_0 bt193.2.1 bt193.2.2) else (none))) else (none))))) else (none))) else (if x7_1.length < 2932031007402 then ((some (x7_1 ++ [(⟨5, 0, wrap64 (1 + t175), (⟨0, 0, 0⟩ : S32)⟩ : S77)] : List (S77))).bind fun y204 => ((spec_l01Below.f s0_0 bt179.2.1 bt179.2.2 2).bind fun bt207 => ((spec_l05Block.f kj6 s0_0 bt207.2.1 bt207.2.2 (wrap64 (1 + bt207.1)) (wrap64 (a2 + 1))).bind fun bt210 => (if y204.length + bt210.1.length < 2932031007402 then ((some (y204 ++ bt210.1 : List (S77))).bind fun y215 => (if y215.length < 2932031007402 then (spec_l05Block.l0 kj6 a1 a2 (y215 ++ [(⟨6, 0, 0, (⟨0, 0, 0⟩ : S32)⟩ : S77)]) (wrap64 (x8_1 + 1)) s0_0 bt210.2.1 bt210.2.2) else (none))) else (none))))) else (none)))) = some (r1, r2, r3) := H
              have A15 := Aside0.mk A150
              clear A150
              replace H := Option.bind_eq_some_iff.mp H
              obtain ⟨⟨t179, t180, t181⟩, A160, H⟩ := H
              replace H : (if t179 = true then ((spec_l03Expr.f s0_0 t180 t181).bind fun bt182 => (if x7_1.length < 2932031007402 then ((some (x7_1 ++ [(⟨4, 0, 0, (⟨bt182.1, bt182.2.1, bt182.2.2.1⟩ : S32)⟩ : S77)] : List (S77))).bind fun y187 => ((spec_l01Below.f s0_0 bt182.2.2.2.1 bt182.2.2.2.2 2).bind fun bt190 => ((spec_l05Block.f kj6 s0_0 bt190.2.1 bt190.2.2 (wrap64 (1 + bt190.1)) (wrap64 (a2 + 1))).bind fun bt193 => (if y187.length + bt193.1.length < 2932031007402 then ((some (y187 ++ bt193.1 : List (S77))).bind fun y198 => (if y198.length < 2932031007402 then (spec_l05Block.l0 kj6 a1 a2 (y198 ++ [(⟨6, 0, 0, (⟨0, 0, 0⟩ : S32)⟩ : S77)]) (wrap64 (x8_1 + 1)) s0_0 bt193.2.1 bt193.2.2) else (none))) else (none))))) else (none))) else (if x7_1.length < 2932031007402 then ((some (x7_1 ++ [(⟨5, 0, wrap64 (1 + t175), (⟨0, 0, 0⟩ : S32)⟩ : S77)] : List (S77))).bind fun y204 => ((spec_l01Below.f s0_0 t180 t181 2).bind fun bt207 => ((spec_l05Block.f kj6 s0_0 bt207.2.1 bt207.2.2 (wrap64 (1 + bt207.1)) (wrap64 (a2 + 1))).bind fun bt210 => (if y204.length + bt210.1.length < 2932031007402 then ((some (y204 ++ bt210.1 : List (S77))).bind fun y215 => (if y215.length < 2932031007402 then (spec_l05Block.l0 kj6 a1 a2 (y215 ++ [(⟨6, 0, 0, (⟨0, 0, 0⟩ : S32)⟩ : S77)]) (wrap64 (x8_1 + 1)) s0_0 bt210.2.1 bt210.2.2) else (none))) else (none))))) else (none))) = some (r1, r2, r3) := H
              have A16 := Aside0.mk A160
              clear A160
              by_cases c17 : t179 = true
              · subst c17
                have H1 : ((spec_l03Expr.f s0_0 t180 t181).bind fun bt182 => (if x7_1.length < 2932031007402 then ((some (x7_1 ++ [(⟨4, 0, 0, (⟨bt182.1, bt182.2.1, bt182.2.2.1⟩ : S32)⟩ : S77)] : List (S77))).bind fun y187 => ((spec_l01Below.f s0_0 bt182.2.2.2.1 bt182.2.2.2.2 2).bind fun bt190 => ((spec_l05Block.f kj6 s0_0 bt190.2.1 bt190.2.2 (wrap64 (1 + bt190.1)) (wrap64 (a2 + 1))).bind fun bt193 => (if y187.length + bt193.1.length < 2932031007402 then ((some (y187 ++ bt193.1 : List (S77))).bind fun y198 => (if y198.length < 2932031007402 then (spec_l05Block.l0 kj6 a1 a2 (y198 ++ [(⟨6, 0, 0, (⟨0, 0, 0⟩ : S32)⟩ : S77)]) (wrap64 (x8_1 + 1)) s0_0 bt193.2.1 bt193.2.2) else (none))) else (none))))) else (none))) = some (r1, r2, r3) := by rw [if_pos rfl] at H; exact H
                clear H
                have H := H1
                clear H1
                replace H := Option.bind_eq_some_iff.mp H
                obtain ⟨⟨t182, t183, t184, t185, t186⟩, A180, H⟩ := H
                replace H : (if x7_1.length < 2932031007402 then ((some (x7_1 ++ [(⟨4, 0, 0, (⟨t182, t183, t184⟩ : S32)⟩ : S77)] : List (S77))).bind fun y187 => ((spec_l01Below.f s0_0 t185 t186 2).bind fun bt190 => ((spec_l05Block.f kj6 s0_0 bt190.2.1 bt190.2.2 (wrap64 (1 + bt190.1)) (wrap64 (a2 + 1))).bind fun bt193 => (if y187.length + bt193.1.length < 2932031007402 then ((some (y187 ++ bt193.1 : List (S77))).bind fun y198 => (if y198.length < 2932031007402 then (spec_l05Block.l0 kj6 a1 a2 (y198 ++ [(⟨6, 0, 0, (⟨0, 0, 0⟩ : S32)⟩ : S77)]) (wrap64 (x8_1 + 1)) s0_0 bt193.2.1 bt193.2.2) else (none))) else (none))))) else (none)) = some (r1, r2, r3) := H
                have A18 := Aside0.mk A180
                clear A180
                by_cases c19 : x7_1.length < 2932031007402
                · rw [if_pos c19] at H
                  have LMc19 := Aside0.mk c19
                  clear c19
                  obtain ⟨y187, hy187⟩ : ∃ y_ : List (S77), y_ = (x7_1 ++ [(⟨4, 0, 0, (⟨t182, t183, t184⟩ : S32)⟩ : S77)]) := ⟨_, rfl⟩
                  replace H : ((spec_l01Below.f s0_0 t185 t186 2).bind fun bt190 => ((spec_l05Block.f kj6 s0_0 bt190.2.1 bt190.2.2 (wrap64 (1 + bt190.1)) (wrap64 (a2 + 1))).bind fun bt193 => (if y187.length + bt193.1.length < 2932031007402 then ((some (y187 ++ bt193.1 : List (S77))).bind fun y198 => (if y198.length < 2932031007402 then (spec_l05Block.l0 kj6 a1 a2 (y198 ++ [(⟨6, 0, 0, (⟨0, 0, 0⟩ : S32)⟩ : S77)]) (wrap64 (x8_1 + 1)) s0_0 bt193.2.1 bt193.2.2) else (none))) else (none)))) = some (r1, r2, r3) := by first | (rw [hy187]; with_reducible exact H) | (have H2_ := (Option.bind_some _ _).symm.trans H; rw [hy187]; with_reducible exact H2_) | (have H2_ := (Option.bind_some _ _).symm.trans H; with_reducible exact H2_) | with_reducible exact H | (rw [hy187]; exact H) | exact H
                  have Ny187 := Aside0.mk hy187
                  clear hy187
                  replace H := Option.bind_eq_some_iff.mp H
                  obtain ⟨⟨t190, t191, t192⟩, A200, H⟩ := H
                  replace H : ((spec_l05Block.f kj6 s0_0 t191 t192 (wrap64 (1 + t190)) (wrap64 (a2 + 1))).bind fun bt193 => (if y187.length + bt193.1.length < 2932031007402 then ((some (y187 ++ bt193.1 : List (S77))).bind fun y198 => (if y198.length < 2932031007402 then (spec_l05Block.l0 kj6 a1 a2 (y198 ++ [(⟨6, 0, 0, (⟨0, 0, 0⟩ : S32)⟩ : S77)]) (wrap64 (x8_1 + 1)) s0_0 bt193.2.1 bt193.2.2) else (none))) else (none))) = some (r1, r2, r3) := H
                  have A20 := Aside0.mk A200
                  clear A200
                  replace H := Option.bind_eq_some_iff.mp H
                  obtain ⟨⟨t193, t196, t197⟩, A210, H⟩ := H
                  replace H : (if y187.length + t193.length < 2932031007402 then ((some (y187 ++ t193 : List (S77))).bind fun y198 => (if y198.length < 2932031007402 then (spec_l05Block.l0 kj6 a1 a2 (y198 ++ [(⟨6, 0, 0, (⟨0, 0, 0⟩ : S32)⟩ : S77)]) (wrap64 (x8_1 + 1)) s0_0 t196 t197) else (none))) else (none)) = some (r1, r2, r3) := H
                  have A21 := Aside0.mk A210
                  clear A210
                  by_cases c22 : y187.length + t193.length < 2932031007402
                  · rw [if_pos c22] at H
                    have LMc22 := Aside0.mk c22
                    clear c22
                    obtain ⟨y198, hy198⟩ : ∃ y_ : List (S77), y_ = (y187 ++ t193) := ⟨_, rfl⟩
                    replace H : (if y198.length < 2932031007402 then (spec_l05Block.l0 kj6 a1 a2 (y198 ++ [(⟨6, 0, 0, (⟨0, 0, 0⟩ : S32)⟩ : S77)]) (wrap64 (x8_1 + 1)) s0_0 t196 t197) else (none)) = some (r1, r2, r3) := by first | (rw [hy198]; with_reducible exact H) | (have H2_ := (Option.bind_some _ _).symm.trans H; rw [hy198]; with_reducible exact H2_) | (have H2_ := (Option.bind_some _ _).symm.trans H; with_reducible exact H2_) | with_reducible exact H | (rw [hy198]; exact H) | exact H
                    have Ny198 := Aside0.mk hy198
                    clear hy198
                    by_cases c23 : y198.length < 2932031007402
                    · rw [if_pos c23] at H
                      have LMc23 := Aside0.mk c23
                      clear c23
                      obtain ⟨y201, hy201⟩ : ∃ y_ : List (S77), y_ = (y198 ++ [(⟨6, 0, 0, (⟨0, 0, 0⟩ : S32)⟩ : S77)]) := ⟨_, rfl⟩
                      replace H : (spec_l05Block.l0 kj6 a1 a2 y201 (wrap64 (x8_1 + 1)) s0_0 t196 t197) = some (r1, r2, r3) := by first | (rw [hy201]; with_reducible exact H) | (have H2_ := (Option.bind_some _ _).symm.trans H; rw [hy201]; with_reducible exact H2_) | (have H2_ := (Option.bind_some _ _).symm.trans H; with_reducible exact H2_) | with_reducible exact H | (rw [hy201]; exact H) | exact H
                      have Ny201 := Aside0.mk hy201
                      clear hy201
                      have H' := Aside0.mk H
                      clear H
                      go_wp2_with (first | ((first | ((with_reducible refine gate_callee (f := 68) rfl ?_); refine goesL_ (some 28) rfl rfl Try.func68 z2_26 rfl #[.pointer (some ⟨g, 0, none⟩), .int .i64 3] rfl z2_1 ?_; (with_reducible refine (spec_l01Below.calls g s0_0 x1001_6 x1002_6 3 t175 t176 t177 w0 _ ?side1 ?side2 A15.out).mono ?_)) | (go_at_call 68; (with_reducible refine (spec_l01Below.calls g s0_0 x1001_6 x1002_6 3 t175 t176 t177 w0 _ ?side1 ?side2 A15.out).mono ?_))); (case side1 => exact z2_2); (case side2 => exact z2_3); rintro e w24 ⟨rfl, hi, hb, hk⟩; (first | refine ⟨_, rfl, ?_⟩ | skip); have n0_ := Aside0.mk (Kd.R_mono (Kd.R_keep (IsS116.apart (show IsS116 w0 _ g s0_0 x1001_6 x1002_6 from by repeat (first | (with_reducible first | exact HI0.out | apply IsS116.alloc | apply IsS116.drewN | apply IsS116.drew | apply IsS116.set_1 | apply IsS116.set_2) | exact HI0.out)) z2_13 (by decide)) hk (fun _ h => h.2)) (fun _ h => h.1)); have n1_ := Aside0.mk (KeepBut.trans z2_0 hk (.inl rfl)); have n2_ := Aside0.mk (hb); have n3_ := Aside0.mk (hi); clear HO_7; clear HK; clear HB; clear HI0; have HO_7 := n0_; have HK := n1_; have HB := n2_; have HI0 := n3_; clear n0_ n1_ n2_ n3_; (try clear hb); (try clear hb2); (try clear hk); (try clear hi)) | ((with_reducible refine gate_dst (N := 9) rfl ?_); (try (refine gate_guard (by rfl) ?_; dsimp only)); refine box_event ?hg (N := 9) ?hd (cs := #[.int .i64 0, .int .i64 0, .int .i64 0, .int .i64 0, .int .i64 0, .int .i64 0]) (t := 77) ?hr ?_; (case hd => rfl); (case hg => rfl); (case hr => exact z2_19); intro gb178 hg w25 hbox hb; have n0_ := Aside0.mk (Kd.R_below (Kd.R_elderB z2_13 gb178 (Nat.le_of_eq hg.symm)) hb); have n1_ := Aside0.mk (IsS116.below z2_2 hb); have n2_ := Aside0.mk (KeepBut.trans z2_0 (KeepBut.of_below hb g none) (.inl rfl)); have n3_ := Aside0.mk (below_step z2_3 hb); have n4_ := Aside0.mk (hbox); have n5_ := Aside0.mk ((z2_38 : w.heap.size ≤ gb178)); have n6_ := Aside0.mk ((Nat.le_trans HW0.out (z2_38 : w.heap.size ≤ gb178) : w0.heap.size ≤ gb178)); have n7_ := Aside0.mk ((z2_33 : g ≠ gb178)); have n8_ := Aside0.mk ((z2_34 : gb178 ≠ g)); clear HO_7; clear HI0; clear HK; clear HB; have HO_7 := n0_; have HI0 := n1_; have HK := n2_; have HB := n3_; have BK178 := n4_; have GW178 := n5_; have GE178 := n6_; have NB0_178 := n7_; have NB178_0 := n8_; clear n0_ n1_ n2_ n3_ n4_ n5_ n6_ n7_ n8_; clear hb hbox hg; have hnb26 := NB178_0.out; have hnc26 := NB0_178.out; have hcz27_0 : w25.cell? ⟨gb178, 0, none⟩ = some (.int .i64 0) := (blk_cell BK178.out 0).trans rfl; have hcz27_1 : w25.cell? ⟨gb178, 1, none⟩ = some (.int .i64 0) := (blk_cell BK178.out 1).trans rfl; have hcz27_2 : w25.cell? ⟨gb178, 2, none⟩ = some (.int .i64 0) := (blk_cell BK178.out 2).trans rfl; have hcz27_3 : w25.cell? ⟨gb178, 3, none⟩ = some (.int .i64 0) := (blk_cell BK178.out 3).trans rfl; have hcz27_4 : w25.cell? ⟨gb178, 4, none⟩ = some (.int .i64 0) := (blk_cell BK178.out 4).trans rfl; have hcz27_5 : w25.cell? ⟨gb178, 5, none⟩ = some (.int .i64 0) := (blk_cell BK178.out 5).trans rfl; have hfz27_0 := blk_frozen BK178.out 0; have hfz27_1 := blk_frozen BK178.out 1; have hfz27_2 := blk_frozen BK178.out 2; have hfz27_3 := blk_frozen BK178.out 3; have hfz27_4 := blk_frozen BK178.out 4; have hfz27_5 := blk_frozen BK178.out 5) | ((with_reducible refine gate_store (t := 77) (p := 9) rfl ?_); refine store_event (t := 77) (p := 9) (v := ?vo_w28) (w1 := ((((((w25.setCell ⟨gb178, 0, none⟩ (.int .i64 5)).setCell ⟨gb178, 1, none⟩ (.int .i64 0)).setCell ⟨gb178, 2, none⟩ (.int .i64 (wrap64 (1 + t175)))).setCell ⟨gb178, 3, none⟩ (.int .i64 0)).setCell ⟨gb178, 4, none⟩ (.int .i64 0)).setCell ⟨gb178, 5, none⟩ (.int .i64 0))) ?hg ?ho ?hn ?hr ?_; (case ho => rfl); (case hg => rfl); (case hn => rfl); (case hr => exact z2_19); intro w28 hw; have n0_ : Aside0 (Kd.R k77 77 w28 w.heap.size (fun k_ => k_ ≠ gb178) u7 x7_1) := ⟨z2_18⟩; have n1_ : Aside0 (w28.heap[gb178]? = some (.cells #[.int .i64 5, .int .i64 0, .int .i64 (wrap64 (1 + t175)), .int .i64 0, .int .i64 0, .int .i64 0] 77 (0, 0))) := ⟨z2_10⟩; have n2_ : Aside0 (IsS116 w0 w28 g s0_0 t176 t177) := ⟨(by rw [hw]; exact z2_5)⟩; have n3_ : Aside0 (KeepBut w w28 g none) := ⟨(by rw [hw]; exact z2_4)⟩; have n4_ : Aside0 (Below w0.heap.size w0 w28) := ⟨(by rw [hw]; exact z2_6)⟩; clear hw; clear HO_7; clear BK178; clear HI0; clear HK; clear HB; have HO_7 := n0_; have BK178 := n1_; have HI0 := n2_; have HK := n3_; have HB := n4_; clear n0_ n1_ n2_ n3_ n4_) | ((first | ((with_reducible refine gate_callee (f := 159) rfl ?_); refine goesL_ (some 32) rfl rfl Try.func159 z2_26 rfl #[.pointer (some ⟨g, 0, none⟩), .int .i64 2] rfl z2_1 ?_; (with_reducible refine (spec_l01Once.calls g s0_0 t176 t177 2 true t180 t181 w0 _ ?side1 ?side2 A16.out).mono ?_)) | (go_at_call 159; (with_reducible refine (spec_l01Once.calls g s0_0 t176 t177 2 true t180 t181 w0 _ ?side1 ?side2 A16.out).mono ?_))); (case side1 => exact z2_5); (case side2 => exact z2_6); rintro e w29 ⟨rfl, hi, hb, hk⟩; (first | refine ⟨_, rfl, ?_⟩ | skip); have n0_ := Aside0.mk (Kd.R_mono (Kd.R_keep (IsS116.apart (show IsS116 w0 _ g s0_0 t176 t177 from by repeat (first | (with_reducible first | exact HI0.out | apply IsS116.alloc | apply IsS116.drewN | apply IsS116.drew | apply IsS116.set_1 | apply IsS116.set_2 | refine IsS116.far ?_ NB0_178.out _) | exact HI0.out)) z2_13 (by decide)) hk (fun _ h => h.2)) (fun _ h => h.1)); have n1_ := Aside0.mk (KeepBut.blk hk (g' := gb178) (o := .cells #[.int .i64 5, .int .i64 0, .int .i64 (wrap64 (1 + t175)), .int .i64 0, .int .i64 0, .int .i64 0] 77 (0, 0)) z2_7 NB178_0.out (by simp)); have n2_ := Aside0.mk (KeepBut.trans z2_4 hk (.inl rfl)); have n3_ := Aside0.mk (hb); have n4_ := Aside0.mk (hi); clear HO_7; clear BK178; clear HK; clear HB; clear HI0; have HO_7 := n0_; have BK178 := n1_; have HK := n2_; have HB := n3_; have HI0 := n4_; clear n0_ n1_ n2_ n3_ n4_; (try clear hb); (try clear hb2); (try clear hk); (try clear hi)) | ((first | ((with_reducible refine gate_callee (f := 96) rfl ?_); refine goesL_ (some 34) rfl rfl Try.func96 z2_26 rfl #[.pointer (some ⟨g, 0, none⟩)] rfl z2_1 ?_; (with_reducible refine (spec_l03Expr.calls g s0_0 t180 t181 t182 t183 t184 t185 t186 w0 _ ?side1 ?side2 A18.out).mono ?_)) | (go_at_call 96; (with_reducible refine (spec_l03Expr.calls g s0_0 t180 t181 t182 t183 t184 t185 t186 w0 _ ?side1 ?side2 A18.out).mono ?_))); (case side1 => exact z2_5); (case side2 => exact z2_6); rintro e w30 ⟨rfl, hi, hb, hk⟩; (first | refine ⟨_, rfl, ?_⟩ | skip); have n0_ := Aside0.mk (Kd.R_mono (Kd.R_keep (IsS116.apart (show IsS116 w0 _ g s0_0 t180 t181 from by repeat (first | (with_reducible first | exact HI0.out | apply IsS116.alloc | apply IsS116.drewN | apply IsS116.drew | apply IsS116.set_1 | apply IsS116.set_2 | refine IsS116.far ?_ NB0_178.out _) | exact HI0.out)) z2_13 (by decide)) hk (fun _ h => h.2)) (fun _ h => h.1)); have n1_ := Aside0.mk (KeepBut.blk hk (g' := gb178) (o := .cells #[.int .i64 5, .int .i64 0, .int .i64 (wrap64 (1 + t175)), .int .i64 0, .int .i64 0, .int .i64 0] 77 (0, 0)) z2_7 NB178_0.out (by simp)); have n2_ := Aside0.mk (KeepBut.trans z2_4 hk (.inl rfl)); have n3_ := Aside0.mk (hb); have n4_ := Aside0.mk (hi); clear HO_7; clear BK178; clear HK; clear HB; clear HI0; have HO_7 := n0_; have BK178 := n1_; have HK := n2_; have HB := n3_; have HI0 := n4_; clear n0_ n1_ n2_ n3_ n4_; (try clear hb); (try clear hb2); (try clear hk); (try clear hi); have hcz31_0 : w30.cell? ⟨gb178, 0, none⟩ = some (.int .i64 5) := (blk_cell BK178.out 0).trans rfl; have hcz31_1 : w30.cell? ⟨gb178, 1, none⟩ = some (.int .i64 0) := (blk_cell BK178.out 1).trans rfl; have hcz31_2 : w30.cell? ⟨gb178, 2, none⟩ = some (.int .i64 (wrap64 (1 + t175))) := (blk_cell BK178.out 2).trans rfl; have hcz31_3 : w30.cell? ⟨gb178, 3, none⟩ = some (.int .i64 0) := (blk_cell BK178.out 3).trans rfl; have hcz31_4 : w30.cell? ⟨gb178, 4, none⟩ = some (.int .i64 0) := (blk_cell BK178.out 4).trans rfl; have hcz31_5 : w30.cell? ⟨gb178, 5, none⟩ = some (.int .i64 0) := (blk_cell BK178.out 5).trans rfl; have hfz31_0 := blk_frozen BK178.out 0; have hfz31_1 := blk_frozen BK178.out 1; have hfz31_2 := blk_frozen BK178.out 2; have hfz31_3 := blk_frozen BK178.out 3; have hfz31_4 := blk_frozen BK178.out 4; have hfz31_5 := blk_frozen BK178.out 5) | ((with_reducible refine gate_store (t := 77) (p := 9) rfl ?_); refine store_event (t := 77) (p := 9) (v := ?vo_w32) (w1 := ((((((w30.setCell ⟨gb178, 0, none⟩ (.int .i64 4)).setCell ⟨gb178, 1, none⟩ (.int .i64 0)).setCell ⟨gb178, 2, none⟩ (.int .i64 0)).setCell ⟨gb178, 3, none⟩ (.int .i64 t182)).setCell ⟨gb178, 4, none⟩ (.int .i64 t183)).setCell ⟨gb178, 5, none⟩ (.int .i64 t184))) ?hg ?ho ?hn ?hr ?_; (case ho => rfl); (case hg => rfl); (case hn => rfl); (case hr => exact z2_19); intro w32 hw; have n0_ : Aside0 (Kd.R k77 77 w32 w.heap.size (fun k_ => k_ ≠ gb178) u7 x7_1) := ⟨(by rw [hw]; exact (by (with_reducible repeat (first | apply Kd.R_alloc | apply Kd.R_drewN | apply Kd.R_drew)); exact Kd.R_mono (Kd.R_far (p := ⟨gb178, 5, none⟩) (Kd.R_far (p := ⟨gb178, 4, none⟩) (Kd.R_far (p := ⟨gb178, 3, none⟩) (Kd.R_far (p := ⟨gb178, 2, none⟩) (Kd.R_far (p := ⟨gb178, 1, none⟩) (Kd.R_far (p := ⟨gb178, 0, none⟩) (Kd.R_mono HO_7.out (fun k_ hk => (⟨hk, hk⟩ : _ ∧ k_ ≠ gb178))) (fun _ hk => hk.2) (.int .i64 4)) (fun _ hk => hk.2) (.int .i64 0)) (fun _ hk => hk.2) (.int .i64 0)) (fun _ hk => hk.2) (.int .i64 t182)) (fun _ hk => hk.2) (.int .i64 t183)) (fun _ hk => hk.2) (.int .i64 t184)) (fun _ hk => hk.1)))⟩; have n1_ : Aside0 (w32.heap[gb178]? = some (.cells #[.int .i64 4, .int .i64 0, .int .i64 0, .int .i64 t182, .int .i64 t183, .int .i64 t184] 77 (0, 0))) := ⟨(by rw [hw]; exact (by (with_reducible repeat (first | refine blk_drewN ?_ _ | refine blk_drew ?_ | refine blk_alloc ?_ _)); refine blk_put (cs := #[.int .i64 4, .int .i64 0, .int .i64 0, .int .i64 t182, .int .i64 t183, .int .i64 0]) ?_ 5 _ rfl; (with_reducible repeat (first | refine blk_drewN ?_ _ | refine blk_drew ?_ | refine blk_alloc ?_ _)); refine blk_put (cs := #[.int .i64 4, .int .i64 0, .int .i64 0, .int .i64 t182, .int .i64 0, .int .i64 0]) ?_ 4 _ rfl; (with_reducible repeat (first | refine blk_drewN ?_ _ | refine blk_drew ?_ | refine blk_alloc ?_ _)); refine blk_put (cs := #[.int .i64 4, .int .i64 0, .int .i64 0, .int .i64 0, .int .i64 0, .int .i64 0]) ?_ 3 _ rfl; (with_reducible repeat (first | refine blk_drewN ?_ _ | refine blk_drew ?_ | refine blk_alloc ?_ _)); refine blk_put (cs := #[.int .i64 4, .int .i64 0, .int .i64 (wrap64 (1 + t175)), .int .i64 0, .int .i64 0, .int .i64 0]) ?_ 2 _ rfl; (with_reducible repeat (first | refine blk_drewN ?_ _ | refine blk_drew ?_ | refine blk_alloc ?_ _)); refine blk_put (cs := #[.int .i64 4, .int .i64 0, .int .i64 (wrap64 (1 + t175)), .int .i64 0, .int .i64 0, .int .i64 0]) ?_ 1 _ rfl; (with_reducible repeat (first | refine blk_drewN ?_ _ | refine blk_drew ?_ | refine blk_alloc ?_ _)); refine blk_put (cs := #[.int .i64 5, .int .i64 0, .int .i64 (wrap64 (1 + t175)), .int .i64 0, .int .i64 0, .int .i64 0]) ?_ 0 _ rfl; (with_reducible repeat (first | refine blk_drewN ?_ _ | refine blk_drew ?_ | refine blk_alloc ?_ _)); exact BK178.out))⟩; have n2_ : Aside0 (IsS116 w0 w32 g s0_0 t185 t186) := ⟨(by rw [hw]; exact z2_5)⟩; have n3_ : Aside0 (KeepBut w w32 g none) := ⟨(by rw [hw]; exact z2_4)⟩; have n4_ : Aside0 (Below w0.heap.size w0 w32) := ⟨(by rw [hw]; exact z2_6)⟩; clear hw; clear HO_7; clear BK178; clear HI0; clear HK; clear HB; have HO_7 := n0_; have BK178 := n1_; have HI0 := n2_; have HK := n3_; have HB := n4_; clear n0_ n1_ n2_ n3_ n4_; have hcz33_0 : w32.cell? ⟨gb178, 0, none⟩ = some (.int .i64 4) := (blk_cell BK178.out 0).trans rfl; have hcz33_1 : w32.cell? ⟨gb178, 1, none⟩ = some (.int .i64 0) := (blk_cell BK178.out 1).trans rfl; have hcz33_2 : w32.cell? ⟨gb178, 2, none⟩ = some (.int .i64 0) := (blk_cell BK178.out 2).trans rfl; have hcz33_3 : w32.cell? ⟨gb178, 3, none⟩ = some (.int .i64 t182) := (blk_cell BK178.out 3).trans rfl; have hcz33_4 : w32.cell? ⟨gb178, 4, none⟩ = some (.int .i64 t183) := (blk_cell BK178.out 4).trans rfl; have hcz33_5 : w32.cell? ⟨gb178, 5, none⟩ = some (.int .i64 t184) := (blk_cell BK178.out 5).trans rfl; have hfz33_0 := blk_frozen BK178.out 0; have hfz33_1 := blk_frozen BK178.out 1; have hfz33_2 := blk_frozen BK178.out 2; have hfz33_3 := blk_frozen BK178.out 3; have hfz33_4 := blk_frozen BK178.out 4; have hfz33_5 := blk_frozen BK178.out 5) | ((with_reducible refine gate_builtin (b := .append) (xs := #[.tmp 36, .tmp 38]) rfl ?_); (try (refine gate_guard (by rfl) ?_; dsimp only)); at_builtin; refine Kd.R_append k77 w.heap.size rfl (.tmp 36) (.tmp 38) 30 77 (.agg #[(.int .i64 0), (.int .i64 0), (.int .i64 0), (.int .i64 0), (.int .i64 0), (.int .i64 0)]) 48 rfl Try.underlying30 info77 rfl (by decide) (by omega) u7 x7_1 (⟨4, 0, 0, (⟨t182, t183, t184⟩ : S32)⟩ : S77) [.int .i64 4, .int .i64 0, .int .i64 0, .int .i64 t182, .int .i64 t183, .int .i64 t184] (fun k_ => k_ ≠ gb178) (fun _ => False) rfl rfl ?aP (fun _ hk => hk.elim) ?aF ?aO (Below.refl _ _) ?aS ?aL ?_; (case aP => exact k77_mkM _ _ _ (⟨4, 0, 0, (⟨t182, t183, t184⟩ : S32)⟩ : S77)); (case aF => exact (fun k_ hk => Kd.freshB (g := gb178) (o := .cells #[.int .i64 4, .int .i64 0, .int .i64 0, .int .i64 t182, .int .i64 t183, .int .i64 t184] 77 (0, 0)) z2_7 k_ hk)); (case aO => exact z2_13); (case aS => exact z2_41); (case aL => have := LMc19.out; omega); intro v188 w34 ho hb hg hat; rw [← Ny187.out] at ho; have n0_ := Aside0.mk (IsS116.grown z2_5 hg (IsS116.own_ne HI0.out HO_7.out (by decide))); have n1_ := Aside0.mk (blk_grown (g := gb178) (o := .cells #[.int .i64 4, .int .i64 0, .int .i64 0, .int .i64 t182, .int .i64 t183, .int .i64 t184] 77 (0, 0)) z2_7 hg (Kd.R_away HO_7.out (fun _ hk => hk))); have n2_ := Aside0.mk (below_weaken z2_6 HL.out hb); have n3_ := Aside0.mk (KeepBut.trans z2_4 (KeepBut.of_grown hg g) (Kd.R_base2 HO_7.out)); have n4_ := Aside0.mk (ho); clear HI0; clear BK178; clear HB; clear HK; clear HO_7; have HI0 := n0_; have BK178 := n1_; have HB := n2_; have HK := n3_; have HO189 := n4_; clear n0_ n1_ n2_ n3_ n4_; clear ho hb hg hat) | ((first | ((with_reducible refine gate_callee (f := 68) rfl ?_); refine goesL_ (some 43) rfl rfl Try.func68 z2_26 rfl #[.pointer (some ⟨g, 0, none⟩), .int .i64 2] rfl z2_1 ?_; (with_reducible refine (spec_l01Below.calls g s0_0 t185 t186 2 t190 t191 t192 w0 _ ?side1 ?side2 A20.out).mono ?_)) | (go_at_call 68; (with_reducible refine (spec_l01Below.calls g s0_0 t185 t186 2 t190 t191 t192 w0 _ ?side1 ?side2 A20.out).mono ?_))); (case side1 => exact z2_5); (case side2 => exact z2_6); rintro e w35 ⟨rfl, hi, hb, hk⟩; (first | refine ⟨_, rfl, ?_⟩ | skip); have n0_ := Aside0.mk (KeepBut.blk hk (g' := gb178) (o := .cells #[.int .i64 4, .int .i64 0, .int .i64 0, .int .i64 t182, .int .i64 t183, .int .i64 t184] 77 (0, 0)) z2_7 NB178_0.out (by simp)); have n1_ := Aside0.mk (Kd.R_mono (Kd.R_keep (IsS116.apart (show IsS116 w0 _ g s0_0 t185 t186 from by repeat (first | (with_reducible first | exact HI0.out | apply IsS116.alloc | apply IsS116.drewN | apply IsS116.drew | apply IsS116.set_1 | apply IsS116.set_2 | refine IsS116.far ?_ NB0_178.out _) | exact HI0.out)) (by (with_reducible repeat (first | apply Kd.R_alloc | apply Kd.R_drewN | apply Kd.R_drew)); exact HO189.out) (by decide)) hk (fun _ h => h.2)) (fun _ h => h.1)); have n2_ := Aside0.mk (KeepBut.trans z2_4 hk (.inl rfl)); have n3_ := Aside0.mk (hb); have n4_ := Aside0.mk (hi); clear BK178; clear HO189; clear HK; clear HB; clear HI0; have BK178 := n0_; have HO189 := n1_; have HK := n2_; have HB := n3_; have HI0 := n4_; clear n0_ n1_ n2_ n3_ n4_; (try clear hb); (try clear hb2); (try clear hk); (try clear hi)) | ((first | ((with_reducible refine gate_callee (f := 133) rfl ?_); refine goesL_ (some 47) rfl rfl Try.func133 z2_26 rfl #[.pointer (some ⟨g, 0, none⟩), .int .i64 (wrap64 (1 + t190)), .int .i64 (wrap64 (a2 + 1))] rfl z2_1 ?_; (with_reducible refine (ih kj6 (by have := HK1.out; have := HJ6.out; omega) g s0_0 t191 t192 (wrap64 (1 + t190)) (wrap64 (a2 + 1)) t193 t196 t197 w0 _ ?side1 ?side2 A21.out).mono ?_)) | (go_at_call 133; (with_reducible refine (ih kj6 (by have := HK1.out; have := HJ6.out; omega) g s0_0 t191 t192 (wrap64 (1 + t190)) (wrap64 (a2 + 1)) t193 t196 t197 w0 _ ?side1 ?side2 A21.out).mono ?_))); (case side1 => exact z2_5); (case side2 => exact z2_6); rintro e w36 ⟨v194, rfl, ho0, hi, hb, hk⟩; (first | refine ⟨_, rfl, ?_⟩ | skip); have n0_ := Aside0.mk (KeepBut.blk hk (g' := gb178) (o := .cells #[.int .i64 4, .int .i64 0, .int .i64 0, .int .i64 t182, .int .i64 t183, .int .i64 t184] 77 (0, 0)) z2_7 NB178_0.out (by simp)); have n1_ := Aside0.mk (Kd.R_mono (Kd.R_told (Kd.R_oldK (IsS116.apart (show IsS116 w0 _ g s0_0 t191 t192 from by repeat (first | (with_reducible first | exact HI0.out | apply IsS116.alloc | apply IsS116.drewN | apply IsS116.drew | apply IsS116.set_1 | apply IsS116.set_2 | refine IsS116.far ?_ NB0_178.out _) | exact HI0.out)) (by (with_reducible repeat (first | apply Kd.R_alloc | apply Kd.R_drewN | apply Kd.R_drew)); exact HO189.out) (by decide)) hk) (Kd.R_base ho0)) (fun _ h_ => h_.1)); have n2_ := Aside0.mk (Kd.R_lower (Kd.R_newB (Kd.R_new' ho0 (Kd.R_lt (by (with_reducible repeat (first | apply Kd.R_alloc | apply Kd.R_drewN | apply Kd.R_drew)); exact HO189.out))) (g := gb178) (o := .cells #[.int .i64 4, .int .i64 0, .int .i64 0, .int .i64 t182, .int .i64 t183, .int .i64 t184] 77 (0, 0)) z2_7) (keep_size (w := w) (g := g) (row := none) z2_4)); have n3_ := Aside0.mk (KeepBut.trans z2_4 hk (.inl rfl)); have n4_ := Aside0.mk (hb); have n5_ := Aside0.mk (hi); clear BK178; clear HO189; clear HK; clear HB; clear HI0; have BK178 := n0_; have HO189 := n1_; have HO195 := n2_; have HK := n3_; have HB := n4_; have HI0 := n5_; clear n0_ n1_ n2_ n3_ n4_ n5_; (try clear hb); (try clear hb2); (try clear hk); (try clear hi); (try clear ho0); obtain ⟨Ao38, co38, eo38⟩ := Kd.R_slice HO195.out; subst eo38) | ((with_reducible refine gate_builtin (b := .append) (xs := #[.tmp 40, .tmp 47]) rfl ?_); (try (refine gate_guard (by rfl) ?_; dsimp only)); at_builtin; refine Kd.R_append_rows k77 w.heap.size rfl (.tmp 40) (.tmp 47) 30 77 (.agg #[(.int .i64 0), (.int .i64 0), (.int .i64 0), (.int .i64 0), (.int .i64 0), (.int .i64 0)]) 48 rfl Try.underlying30 info77 rfl (by decide) (by omega) v188 y187 t193 _ _ _ (fun k_ => some k_ ≠ (.slice Ao38 t193.length co38 : Value).ownBlock ∧ k_ ≠ gb178) (fun _ => False) rfl rfl ?aO ?aR (fun _ _ h => h) (fun _ h => h.elim) ?aF (Below.refl _ _) ?aS ?aL ?_; (case aR => repeat (first | exact (Kd.R_reads' HO195.out).2.2 | (with_reducible refine Kd.C_alloc ?_ _) | (with_reducible refine Kd.C_drewN ?_ _) | (with_reducible refine Kd.C_drew ?_))); (case aF => exact z2_40); (case aO => exact (by (with_reducible repeat (first | apply Kd.R_alloc | apply Kd.R_drewN | apply Kd.R_drew)); exact Kd.R_mono HO189.out (fun _ hk => ⟨hk.2, hk.1⟩))); (case aS => exact z2_41); (case aL => have := LMc22.out; omega); intro v199 w37 ho hb hg hat; rw [← Ny198.out] at ho; have n0_ := Aside0.mk (IsS116.grown z2_5 hg (IsS116.own_ne HI0.out HO189.out (by decide))); have n1_ := Aside0.mk (blk_grown (g := gb178) (o := .cells #[.int .i64 4, .int .i64 0, .int .i64 0, .int .i64 t182, .int .i64 t183, .int .i64 t184] 77 (0, 0)) z2_7 hg (Kd.R_away HO189.out (fun _ hk => hk.1))); have n2_ := Aside0.mk (Kd.R_after (ok := (fun k_ => k_ ≠ gb178)) (by (with_reducible repeat (first | apply Kd.R_alloc | apply Kd.R_drewN | apply Kd.R_drew)); exact Kd.R_mono HO195.out (fun _ hk => ⟨hk.2, hk.1.2⟩)) hg hat); have n3_ := Aside0.mk (below_weaken z2_6 HL.out hb); have n4_ := Aside0.mk (KeepBut.trans z2_4 (KeepBut.of_grown hg g) (Kd.R_base2 HO189.out)); have n5_ := Aside0.mk (ho); clear HI0; clear BK178; clear HO195; clear HB; clear HK; clear HO189; have HI0 := n0_; have BK178 := n1_; have HO195 := n2_; have HB := n3_; have HK := n4_; have HO200 := n5_; clear n0_ n1_ n2_ n3_ n4_ n5_; clear ho hb hg hat) | ((with_reducible refine gate_builtin (b := .append) (xs := #[.tmp 49, .tmp 51]) rfl ?_); (try (refine gate_guard (by rfl) ?_; dsimp only)); at_builtin; refine Kd.R_append k77 w.heap.size rfl (.tmp 49) (.tmp 51) 30 77 (.agg #[(.int .i64 0), (.int .i64 0), (.int .i64 0), (.int .i64 0), (.int .i64 0), (.int .i64 0)]) 48 rfl Try.underlying30 info77 rfl (by decide) (by omega) v199 y198 (⟨6, 0, 0, (⟨0, 0, 0⟩ : S32)⟩ : S77) [.int .i64 6, .int .i64 0, .int .i64 0, .int .i64 0, .int .i64 0, .int .i64 0] (fun k_ => some k_ ≠ (.slice Ao38 t193.length co38 : Value).ownBlock ∧ k_ ≠ gb178) (fun _ => False) rfl rfl ?aP (fun _ hk => hk.elim) ?aF ?aO (Below.refl _ _) ?aS ?aL ?_; (case aP => exact k77_mkM _ _ _ (⟨6, 0, 0, (⟨0, 0, 0⟩ : S32)⟩ : S77)); (case aF => exact z2_40); (case aO => exact (by (with_reducible repeat (first | apply Kd.R_alloc | apply Kd.R_drewN | apply Kd.R_drew)); exact HO200.out)); (case aS => exact z2_41); (case aL => have := LMc23.out; omega); intro v202 w39 ho hb hg hat; rw [← Ny201.out] at ho; have n0_ := Aside0.mk (IsS116.grown z2_5 hg (IsS116.own_ne HI0.out HO200.out (by decide))); have n1_ := Aside0.mk (blk_grown (g := gb178) (o := .cells #[.int .i64 4, .int .i64 0, .int .i64 0, .int .i64 t182, .int .i64 t183, .int .i64 t184] 77 (0, 0)) z2_7 hg (Kd.R_away HO200.out (fun _ hk => hk.2))); have n2_ := Aside0.mk (Kd.R_after (ok := (fun k_ => k_ ≠ gb178)) (by (with_reducible repeat (first | apply Kd.R_alloc | apply Kd.R_drewN | apply Kd.R_drew)); exact HO195.out) hg hat); have n3_ := Aside0.mk (below_weaken z2_6 HL.out hb); have n4_ := Aside0.mk (KeepBut.trans z2_4 (KeepBut.of_grown hg g) (Kd.R_base2 HO200.out)); have n5_ := Aside0.mk (ho); clear HI0; clear BK178; clear HO195; clear HB; clear HK; clear HO200; have HI0 := n0_; have BK178 := n1_; have HO195 := n2_; have HB := n3_; have HK := n4_; have HO203 := n5_; clear n0_ n1_ n2_ n3_ n4_ n5_; clear ho hb hg hat))
                      go_roundg kj6
                      case measure => have := HK1.out; have := HJ6.out; omega
                      case rel => exact ⟨(y201), (wrap64 (x8_1 + 1)), (t196), (t197), z2_20, H', ⟨by have := HK1.out; have := HJ6.out; omega⟩, ⟨by (with_reducible repeat (first | apply Kd.R_alloc | apply Kd.R_drewN | apply Kd.R_drew)); exact Kd.R_mono HO203.out (fun _ hk => trivial)⟩, ⟨by repeat (first | (with_reducible first | exact HI0.out | apply IsS116.alloc | apply IsS116.drewN | apply IsS116.drew | apply IsS116.set_1 | apply IsS116.set_2 | refine IsS116.far ?_ NB0_178.out _) | exact HI0.out)⟩, ⟨by repeat (first | (with_reducible first | exact HK.out | apply KeepBut.set_ | apply keep_drewN | apply keep_drew | apply keep_alloc | refine keep_far ?_ GW178.out _) | exact HK.out)⟩, ⟨by repeat (first | (with_reducible first | exact HB.out | apply below_alloc | apply pw_below_drewN | apply below_drew1 | refine below_set ?_ (IsS116.ge HI0.out) | refine below_set ?_ GE178.out) | exact HB.out)⟩⟩
                    · rw [if_neg c23] at H
                      exact absurd H (by simp)
                  · rw [if_neg c22] at H
                    exact absurd H (by simp)
                · rw [if_neg c19] at H
                  exact absurd H (by simp)
              · replace c17 := Bool.eq_false_iff.mpr c17
                subst c17
                have H1 : (if x7_1.length < 2932031007402 then ((some (x7_1 ++ [(⟨5, 0, wrap64 (1 + t175), (⟨0, 0, 0⟩ : S32)⟩ : S77)] : List (S77))).bind fun y204 => ((spec_l01Below.f s0_0 t180 t181 2).bind fun bt207 => ((spec_l05Block.f kj6 s0_0 bt207.2.1 bt207.2.2 (wrap64 (1 + bt207.1)) (wrap64 (a2 + 1))).bind fun bt210 => (if y204.length + bt210.1.length < 2932031007402 then ((some (y204 ++ bt210.1 : List (S77))).bind fun y215 => (if y215.length < 2932031007402 then (spec_l05Block.l0 kj6 a1 a2 (y215 ++ [(⟨6, 0, 0, (⟨0, 0, 0⟩ : S32)⟩ : S77)]) (wrap64 (x8_1 + 1)) s0_0 bt210.2.1 bt210.2.2) else (none))) else (none))))) else (none)) = some (r1, r2, r3) := by rw [if_neg (show ¬ (false = true) by decide)] at H; exact H
                clear H
                have H := H1
                clear H1
                by_cases c40 : x7_1.length < 2932031007402
                · rw [if_pos c40] at H
                  have LMc40 := Aside0.mk c40
                  clear c40
                  obtain ⟨y204, hy204⟩ : ∃ y_ : List (S77), y_ = (x7_1 ++ [(⟨5, 0, wrap64 (1 + t175), (⟨0, 0, 0⟩ : S32)⟩ : S77)]) := ⟨_, rfl⟩
                  replace H : ((spec_l01Below.f s0_0 t180 t181 2).bind fun bt207 => ((spec_l05Block.f kj6 s0_0 bt207.2.1 bt207.2.2 (wrap64 (1 + bt207.1)) (wrap64 (a2 + 1))).bind fun bt210 => (if y204.length + bt210.1.length < 2932031007402 then ((some (y204 ++ bt210.1 : List (S77))).bind fun y215 => (if y215.length < 2932031007402 then (spec_l05Block.l0 kj6 a1 a2 (y215 ++ [(⟨6, 0, 0, (⟨0, 0, 0⟩ : S32)⟩ : S77)]) (wrap64 (x8_1 + 1)) s0_0 bt210.2.1 bt210.2.2) else (none))) else (none)))) = some (r1, r2, r3) := by first | (rw [hy204]; with_reducible exact H) | (have H2_ := (Option.bind_some _ _).symm.trans H; rw [hy204]; with_reducible exact H2_) | (have H2_ := (Option.bind_some _ _).symm.trans H; with_reducible exact H2_) | with_reducible exact H | (rw [hy204]; exact H) | exact H
                  have Ny204 := Aside0.mk hy204
                  clear hy204
                  replace H := Option.bind_eq_some_iff.mp H
                  obtain ⟨⟨t207, t208, t209⟩, A410, H⟩ := H
                  replace H : ((spec_l05Block.f kj6 s0_0 t208 t209 (wrap64 (1 + t207)) (wrap64 (a2 + 1))).bind fun bt210 => (if y204.length + bt210.1.length < 2932031007402 then ((some (y204 ++ bt210.1 : List (S77))).bind fun y215 => (if y215.length < 2932031007402 then (spec_l05Block.l0 kj6 a1 a2 (y215 ++ [(⟨6, 0, 0, (⟨0, 0, 0⟩ : S32)⟩ : S77)]) (wrap64 (x8_1 + 1)) s0_0 bt210.2.1 bt210.2.2) else (none))) else (none))) = some (r1, r2, r3) := H
                  have A41 := Aside0.mk A410
                  clear A410
                  replace H := Option.bind_eq_some_iff.mp H
                  obtain ⟨⟨t210, t213, t214⟩, A420, H⟩ := H
                  replace H : (if y204.length + t210.length < 2932031007402 then ((some (y204 ++ t210 : List (S77))).bind fun y215 => (if y215.length < 2932031007402 then (spec_l05Block.l0 kj6 a1 a2 (y215 ++ [(⟨6, 0, 0, (⟨0, 0, 0⟩ : S32)⟩ : S77)]) (wrap64 (x8_1 + 1)) s0_0 t213 t214) else (none))) else (none)) = some (r1, r2, r3) := H
                  have A42 := Aside0.mk A420
                  clear A420
                  by_cases c43 : y204.length + t210.length < 2932031007402
                  · rw [if_pos c43] at H
                    have LMc43 := Aside0.mk c43
                    clear c43
                    obtain ⟨y215, hy215⟩ : ∃ y_ : List (S77), y_ = (y204 ++ t210) := ⟨_, rfl⟩
                    replace H : (if y215.length < 2932031007402 then (spec_l05Block.l0 kj6 a1 a2 (y215 ++ [(⟨6, 0, 0, (⟨0, 0, 0⟩ : S32)⟩ : S77)]) (wrap64 (x8_1 + 1)) s0_0 t213 t214) else (none)) = some (r1, r2, r3) := by first | (rw [hy215]; with_reducible exact H) | (have H2_ := (Option.bind_some _ _).symm.trans H; rw [hy215]; with_reducible exact H2_) | (have H2_ := (Option.bind_some _ _).symm.trans H; with_reducible exact H2_) | with_reducible exact H | (rw [hy215]; exact H) | exact H
                    have Ny215 := Aside0.mk hy215
                    clear hy215
                    by_cases c44 : y215.length < 2932031007402
                    · rw [if_pos c44] at H
                      have LMc44 := Aside0.mk c44
                      clear c44
                      obtain ⟨y218, hy218⟩ : ∃ y_ : List (S77), y_ = (y215 ++ [(⟨6, 0, 0, (⟨0, 0, 0⟩ : S32)⟩ : S77)]) := ⟨_, rfl⟩
                      replace H : (spec_l05Block.l0 kj6 a1 a2 y218 (wrap64 (x8_1 + 1)) s0_0 t213 t214) = some (r1, r2, r3) := by first | (rw [hy218]; with_reducible exact H) | (have H2_ := (Option.bind_some _ _).symm.trans H; rw [hy218]; with_reducible exact H2_) | (have H2_ := (Option.bind_some _ _).symm.trans H; with_reducible exact H2_) | with_reducible exact H | (rw [hy218]; exact H) | exact H
                      have Ny218 := Aside0.mk hy218
                      clear hy218
                      have H' := Aside0.mk H
                      clear H
                      go_wp2_with (first | ((first | ((with_reducible refine gate_callee (f := 68) rfl ?_); refine goesL_ (some 28) rfl rfl Try.func68 z2_26 rfl #[.pointer (some ⟨g, 0, none⟩), .int .i64 3] rfl z2_1 ?_; (with_reducible refine (spec_l01Below.calls g s0_0 x1001_6 x1002_6 3 t175 t176 t177 w0 _ ?side1 ?side2 A15.out).mono ?_)) | (go_at_call 68; (with_reducible refine (spec_l01Below.calls g s0_0 x1001_6 x1002_6 3 t175 t176 t177 w0 _ ?side1 ?side2 A15.out).mono ?_))); (case side1 => exact z2_2); (case side2 => exact z2_3); rintro e w45 ⟨rfl, hi, hb, hk⟩; (first | refine ⟨_, rfl, ?_⟩ | skip); have n0_ := Aside0.mk (Kd.R_mono (Kd.R_keep (IsS116.apart (show IsS116 w0 _ g s0_0 x1001_6 x1002_6 from by repeat (first | (with_reducible first | exact HI0.out | apply IsS116.alloc | apply IsS116.drewN | apply IsS116.drew | apply IsS116.set_1 | apply IsS116.set_2) | exact HI0.out)) z2_13 (by decide)) hk (fun _ h => h.2)) (fun _ h => h.1)); have n1_ := Aside0.mk (KeepBut.trans z2_0 hk (.inl rfl)); have n2_ := Aside0.mk (hb); have n3_ := Aside0.mk (hi); clear HO_7; clear HK; clear HB; clear HI0; have HO_7 := n0_; have HK := n1_; have HB := n2_; have HI0 := n3_; clear n0_ n1_ n2_ n3_; (try clear hb); (try clear hb2); (try clear hk); (try clear hi)) | ((with_reducible refine gate_dst (N := 9) rfl ?_); (try (refine gate_guard (by rfl) ?_; dsimp only)); refine box_event ?hg (N := 9) ?hd (cs := #[.int .i64 0, .int .i64 0, .int .i64 0, .int .i64 0, .int .i64 0, .int .i64 0]) (t := 77) ?hr ?_; (case hd => rfl); (case hg => rfl); (case hr => exact z2_19); intro gb178 hg w46 hbox hb; have n0_ := Aside0.mk (Kd.R_below (Kd.R_elderB z2_13 gb178 (Nat.le_of_eq hg.symm)) hb); have n1_ := Aside0.mk (IsS116.below z2_2 hb); have n2_ := Aside0.mk (KeepBut.trans z2_0 (KeepBut.of_below hb g none) (.inl rfl)); have n3_ := Aside0.mk (below_step z2_3 hb); have n4_ := Aside0.mk (hbox); have n5_ := Aside0.mk ((z2_38 : w.heap.size ≤ gb178)); have n6_ := Aside0.mk ((Nat.le_trans HW0.out (z2_38 : w.heap.size ≤ gb178) : w0.heap.size ≤ gb178)); have n7_ := Aside0.mk ((z2_33 : g ≠ gb178)); have n8_ := Aside0.mk ((z2_34 : gb178 ≠ g)); clear HO_7; clear HI0; clear HK; clear HB; have HO_7 := n0_; have HI0 := n1_; have HK := n2_; have HB := n3_; have BK178 := n4_; have GW178 := n5_; have GE178 := n6_; have NB0_178 := n7_; have NB178_0 := n8_; clear n0_ n1_ n2_ n3_ n4_ n5_ n6_ n7_ n8_; clear hb hbox hg; have hnb47 := NB178_0.out; have hnc47 := NB0_178.out; have hcz48_0 : w46.cell? ⟨gb178, 0, none⟩ = some (.int .i64 0) := (blk_cell BK178.out 0).trans rfl; have hcz48_1 : w46.cell? ⟨gb178, 1, none⟩ = some (.int .i64 0) := (blk_cell BK178.out 1).trans rfl; have hcz48_2 : w46.cell? ⟨gb178, 2, none⟩ = some (.int .i64 0) := (blk_cell BK178.out 2).trans rfl; have hcz48_3 : w46.cell? ⟨gb178, 3, none⟩ = some (.int .i64 0) := (blk_cell BK178.out 3).trans rfl; have hcz48_4 : w46.cell? ⟨gb178, 4, none⟩ = some (.int .i64 0) := (blk_cell BK178.out 4).trans rfl; have hcz48_5 : w46.cell? ⟨gb178, 5, none⟩ = some (.int .i64 0) := (blk_cell BK178.out 5).trans rfl; have hfz48_0 := blk_frozen BK178.out 0; have hfz48_1 := blk_frozen BK178.out 1; have hfz48_2 := blk_frozen BK178.out 2; have hfz48_3 := blk_frozen BK178.out 3; have hfz48_4 := blk_frozen BK178.out 4; have hfz48_5 := blk_frozen BK178.out 5) | ((with_reducible refine gate_store (t := 77) (p := 9) rfl ?_); refine store_event (t := 77) (p := 9) (v := ?vo_w49) (w1 := ((((((w46.setCell ⟨gb178, 0, none⟩ (.int .i64 5)).setCell ⟨gb178, 1, none⟩ (.int .i64 0)).setCell ⟨gb178, 2, none⟩ (.int .i64 (wrap64 (1 + t175)))).setCell ⟨gb178, 3, none⟩ (.int .i64 0)).setCell ⟨gb178, 4, none⟩ (.int .i64 0)).setCell ⟨gb178, 5, none⟩ (.int .i64 0))) ?hg ?ho ?hn ?hr ?_; (case ho => rfl); (case hg => rfl); (case hn => rfl); (case hr => exact z2_19); intro w49 hw; have n0_ : Aside0 (Kd.R k77 77 w49 w.heap.size (fun k_ => k_ ≠ gb178) u7 x7_1) := ⟨z2_18⟩; have n1_ : Aside0 (w49.heap[gb178]? = some (.cells #[.int .i64 5, .int .i64 0, .int .i64 (wrap64 (1 + t175)), .int .i64 0, .int .i64 0, .int .i64 0] 77 (0, 0))) := ⟨z2_10⟩; have n2_ : Aside0 (IsS116 w0 w49 g s0_0 t176 t177) := ⟨(by rw [hw]; exact z2_5)⟩; have n3_ : Aside0 (KeepBut w w49 g none) := ⟨(by rw [hw]; exact z2_4)⟩; have n4_ : Aside0 (Below w0.heap.size w0 w49) := ⟨(by rw [hw]; exact z2_6)⟩; clear hw; clear HO_7; clear BK178; clear HI0; clear HK; clear HB; have HO_7 := n0_; have BK178 := n1_; have HI0 := n2_; have HK := n3_; have HB := n4_; clear n0_ n1_ n2_ n3_ n4_) | ((first | ((with_reducible refine gate_callee (f := 159) rfl ?_); refine goesL_ (some 32) rfl rfl Try.func159 z2_26 rfl #[.pointer (some ⟨g, 0, none⟩), .int .i64 2] rfl z2_1 ?_; (with_reducible refine (spec_l01Once.calls g s0_0 t176 t177 2 false t180 t181 w0 _ ?side1 ?side2 A16.out).mono ?_)) | (go_at_call 159; (with_reducible refine (spec_l01Once.calls g s0_0 t176 t177 2 false t180 t181 w0 _ ?side1 ?side2 A16.out).mono ?_))); (case side1 => exact z2_5); (case side2 => exact z2_6); rintro e w50 ⟨rfl, hi, hb, hk⟩; (first | refine ⟨_, rfl, ?_⟩ | skip); have n0_ := Aside0.mk (Kd.R_mono (Kd.R_keep (IsS116.apart (show IsS116 w0 _ g s0_0 t176 t177 from by repeat (first | (with_reducible first | exact HI0.out | apply IsS116.alloc | apply IsS116.drewN | apply IsS116.drew | apply IsS116.set_1 | apply IsS116.set_2 | refine IsS116.far ?_ NB0_178.out _) | exact HI0.out)) z2_13 (by decide)) hk (fun _ h => h.2)) (fun _ h => h.1)); have n1_ := Aside0.mk (KeepBut.blk hk (g' := gb178) (o := .cells #[.int .i64 5, .int .i64 0, .int .i64 (wrap64 (1 + t175)), .int .i64 0, .int .i64 0, .int .i64 0] 77 (0, 0)) z2_7 NB178_0.out (by simp)); have n2_ := Aside0.mk (KeepBut.trans z2_4 hk (.inl rfl)); have n3_ := Aside0.mk (hb); have n4_ := Aside0.mk (hi); clear HO_7; clear BK178; clear HK; clear HB; clear HI0; have HO_7 := n0_; have BK178 := n1_; have HK := n2_; have HB := n3_; have HI0 := n4_; clear n0_ n1_ n2_ n3_ n4_; (try clear hb); (try clear hb2); (try clear hk); (try clear hi); have hcz51_0 : w50.cell? ⟨gb178, 0, none⟩ = some (.int .i64 5) := (blk_cell BK178.out 0).trans rfl; have hcz51_1 : w50.cell? ⟨gb178, 1, none⟩ = some (.int .i64 0) := (blk_cell BK178.out 1).trans rfl; have hcz51_2 : w50.cell? ⟨gb178, 2, none⟩ = some (.int .i64 (wrap64 (1 + t175))) := (blk_cell BK178.out 2).trans rfl; have hcz51_3 : w50.cell? ⟨gb178, 3, none⟩ = some (.int .i64 0) := (blk_cell BK178.out 3).trans rfl; have hcz51_4 : w50.cell? ⟨gb178, 4, none⟩ = some (.int .i64 0) := (blk_cell BK178.out 4).trans rfl; have hcz51_5 : w50.cell? ⟨gb178, 5, none⟩ = some (.int .i64 0) := (blk_cell BK178.out 5).trans rfl; have hfz51_0 := blk_frozen BK178.out 0; have hfz51_1 := blk_frozen BK178.out 1; have hfz51_2 := blk_frozen BK178.out 2; have hfz51_3 := blk_frozen BK178.out 3; have hfz51_4 := blk_frozen BK178.out 4; have hfz51_5 := blk_frozen BK178.out 5) | ((with_reducible refine gate_builtin (b := .append) (xs := #[.tmp 36, .tmp 38]) rfl ?_); (try (refine gate_guard (by rfl) ?_; dsimp only)); at_builtin; refine Kd.R_append k77 w.heap.size rfl (.tmp 36) (.tmp 38) 30 77 (.agg #[(.int .i64 0), (.int .i64 0), (.int .i64 0), (.int .i64 0), (.int .i64 0), (.int .i64 0)]) 48 rfl Try.underlying30 info77 rfl (by decide) (by omega) u7 x7_1 (⟨5, 0, wrap64 (1 + t175), (⟨0, 0, 0⟩ : S32)⟩ : S77) [.int .i64 5, .int .i64 0, .int .i64 (wrap64 (1 + t175)), .int .i64 0, .int .i64 0, .int .i64 0] (fun k_ => k_ ≠ gb178) (fun _ => False) rfl rfl ?aP (fun _ hk => hk.elim) ?aF ?aO (Below.refl _ _) ?aS ?aL ?_; (case aP => exact k77_mkM _ _ _ (⟨5, 0, wrap64 (1 + t175), (⟨0, 0, 0⟩ : S32)⟩ : S77)); (case aF => exact (fun k_ hk => Kd.freshB (g := gb178) (o := .cells #[.int .i64 5, .int .i64 0, .int .i64 (wrap64 (1 + t175)), .int .i64 0, .int .i64 0, .int .i64 0] 77 (0, 0)) z2_7 k_ hk)); (case aO => exact z2_13); (case aS => exact z2_41); (case aL => have := LMc40.out; omega); intro v205 w52 ho hb hg hat; rw [← Ny204.out] at ho; have n0_ := Aside0.mk (IsS116.grown z2_5 hg (IsS116.own_ne HI0.out HO_7.out (by decide))); have n1_ := Aside0.mk (blk_grown (g := gb178) (o := .cells #[.int .i64 5, .int .i64 0, .int .i64 (wrap64 (1 + t175)), .int .i64 0, .int .i64 0, .int .i64 0] 77 (0, 0)) z2_7 hg (Kd.R_away HO_7.out (fun _ hk => hk))); have n2_ := Aside0.mk (below_weaken z2_6 HL.out hb); have n3_ := Aside0.mk (KeepBut.trans z2_4 (KeepBut.of_grown hg g) (Kd.R_base2 HO_7.out)); have n4_ := Aside0.mk (ho); clear HI0; clear BK178; clear HB; clear HK; clear HO_7; have HI0 := n0_; have BK178 := n1_; have HB := n2_; have HK := n3_; have HO206 := n4_; clear n0_ n1_ n2_ n3_ n4_; clear ho hb hg hat) | ((first | ((with_reducible refine gate_callee (f := 68) rfl ?_); refine goesL_ (some 43) rfl rfl Try.func68 z2_26 rfl #[.pointer (some ⟨g, 0, none⟩), .int .i64 2] rfl z2_1 ?_; (with_reducible refine (spec_l01Below.calls g s0_0 t180 t181 2 t207 t208 t209 w0 _ ?side1 ?side2 A41.out).mono ?_)) | (go_at_call 68; (with_reducible refine (spec_l01Below.calls g s0_0 t180 t181 2 t207 t208 t209 w0 _ ?side1 ?side2 A41.out).mono ?_))); (case side1 => exact z2_5); (case side2 => exact z2_6); rintro e w53 ⟨rfl, hi, hb, hk⟩; (first | refine ⟨_, rfl, ?_⟩ | skip); have n0_ := Aside0.mk (KeepBut.blk hk (g' := gb178) (o := .cells #[.int .i64 5, .int .i64 0, .int .i64 (wrap64 (1 + t175)), .int .i64 0, .int .i64 0, .int .i64 0] 77 (0, 0)) z2_7 NB178_0.out (by simp)); have n1_ := Aside0.mk (Kd.R_mono (Kd.R_keep (IsS116.apart (show IsS116 w0 _ g s0_0 t180 t181 from by repeat (first | (with_reducible first | exact HI0.out | apply IsS116.alloc | apply IsS116.drewN | apply IsS116.drew | apply IsS116.set_1 | apply IsS116.set_2 | refine IsS116.far ?_ NB0_178.out _) | exact HI0.out)) (by (with_reducible repeat (first | apply Kd.R_alloc | apply Kd.R_drewN | apply Kd.R_drew)); exact HO206.out) (by decide)) hk (fun _ h => h.2)) (fun _ h => h.1)); have n2_ := Aside0.mk (KeepBut.trans z2_4 hk (.inl rfl)); have n3_ := Aside0.mk (hb); have n4_ := Aside0.mk (hi); clear BK178; clear HO206; clear HK; clear HB; clear HI0; have BK178 := n0_; have HO206 := n1_; have HK := n2_; have HB := n3_; have HI0 := n4_; clear n0_ n1_ n2_ n3_ n4_; (try clear hb); (try clear hb2); (try clear hk); (try clear hi)) | ((first | ((with_reducible refine gate_callee (f := 133) rfl ?_); refine goesL_ (some 47) rfl rfl Try.func133 z2_26 rfl #[.pointer (some ⟨g, 0, none⟩), .int .i64 (wrap64 (1 + t207)), .int .i64 (wrap64 (a2 + 1))] rfl z2_1 ?_; (with_reducible refine (ih kj6 (by have := HK1.out; have := HJ6.out; omega) g s0_0 t208 t209 (wrap64 (1 + t207)) (wrap64 (a2 + 1)) t210 t213 t214 w0 _ ?side1 ?side2 A42.out).mono ?_)) | (go_at_call 133; (with_reducible refine (ih kj6 (by have := HK1.out; have := HJ6.out; omega) g s0_0 t208 t209 (wrap64 (1 + t207)) (wrap64 (a2 + 1)) t210 t213 t214 w0 _ ?side1 ?side2 A42.out).mono ?_))); (case side1 => exact z2_5); (case side2 => exact z2_6); rintro e w54 ⟨v211, rfl, ho0, hi, hb, hk⟩; (first | refine ⟨_, rfl, ?_⟩ | skip); have n0_ := Aside0.mk (KeepBut.blk hk (g' := gb178) (o := .cells #[.int .i64 5, .int .i64 0, .int .i64 (wrap64 (1 + t175)), .int .i64 0, .int .i64 0, .int .i64 0] 77 (0, 0)) z2_7 NB178_0.out (by simp)); have n1_ := Aside0.mk (Kd.R_mono (Kd.R_told (Kd.R_oldK (IsS116.apart (show IsS116 w0 _ g s0_0 t208 t209 from by repeat (first | (with_reducible first | exact HI0.out | apply IsS116.alloc | apply IsS116.drewN | apply IsS116.drew | apply IsS116.set_1 | apply IsS116.set_2 | refine IsS116.far ?_ NB0_178.out _) | exact HI0.out)) (by (with_reducible repeat (first | apply Kd.R_alloc | apply Kd.R_drewN | apply Kd.R_drew)); exact HO206.out) (by decide)) hk) (Kd.R_base ho0)) (fun _ h_ => h_.1)); have n2_ := Aside0.mk (Kd.R_lower (Kd.R_newB (Kd.R_new' ho0 (Kd.R_lt (by (with_reducible repeat (first | apply Kd.R_alloc | apply Kd.R_drewN | apply Kd.R_drew)); exact HO206.out))) (g := gb178) (o := .cells #[.int .i64 5, .int .i64 0, .int .i64 (wrap64 (1 + t175)), .int .i64 0, .int .i64 0, .int .i64 0] 77 (0, 0)) z2_7) (keep_size (w := w) (g := g) (row := none) z2_4)); have n3_ := Aside0.mk (KeepBut.trans z2_4 hk (.inl rfl)); have n4_ := Aside0.mk (hb); have n5_ := Aside0.mk (hi); clear BK178; clear HO206; clear HK; clear HB; clear HI0; have BK178 := n0_; have HO206 := n1_; have HO212 := n2_; have HK := n3_; have HB := n4_; have HI0 := n5_; clear n0_ n1_ n2_ n3_ n4_ n5_; (try clear hb); (try clear hb2); (try clear hk); (try clear hi); (try clear ho0); obtain ⟨Ao56, co56, eo56⟩ := Kd.R_slice HO212.out; subst eo56) | ((with_reducible refine gate_builtin (b := .append) (xs := #[.tmp 40, .tmp 47]) rfl ?_); (try (refine gate_guard (by rfl) ?_; dsimp only)); at_builtin; refine Kd.R_append_rows k77 w.heap.size rfl (.tmp 40) (.tmp 47) 30 77 (.agg #[(.int .i64 0), (.int .i64 0), (.int .i64 0), (.int .i64 0), (.int .i64 0), (.int .i64 0)]) 48 rfl Try.underlying30 info77 rfl (by decide) (by omega) v205 y204 t210 _ _ _ (fun k_ => some k_ ≠ (.slice Ao56 t210.length co56 : Value).ownBlock ∧ k_ ≠ gb178) (fun _ => False) rfl rfl ?aO ?aR (fun _ _ h => h) (fun _ h => h.elim) ?aF (Below.refl _ _) ?aS ?aL ?_; (case aR => repeat (first | exact (Kd.R_reads' HO212.out).2.2 | (with_reducible refine Kd.C_alloc ?_ _) | (with_reducible refine Kd.C_drewN ?_ _) | (with_reducible refine Kd.C_drew ?_))); (case aF => exact z2_39); (case aO => exact (by (with_reducible repeat (first | apply Kd.R_alloc | apply Kd.R_drewN | apply Kd.R_drew)); exact Kd.R_mono HO206.out (fun _ hk => ⟨hk.2, hk.1⟩))); (case aS => exact z2_41); (case aL => have := LMc43.out; omega); intro v216 w55 ho hb hg hat; rw [← Ny215.out] at ho; have n0_ := Aside0.mk (IsS116.grown z2_5 hg (IsS116.own_ne HI0.out HO206.out (by decide))); have n1_ := Aside0.mk (blk_grown (g := gb178) (o := .cells #[.int .i64 5, .int .i64 0, .int .i64 (wrap64 (1 + t175)), .int .i64 0, .int .i64 0, .int .i64 0] 77 (0, 0)) z2_7 hg (Kd.R_away HO206.out (fun _ hk => hk.1))); have n2_ := Aside0.mk (Kd.R_after (ok := (fun k_ => k_ ≠ gb178)) (by (with_reducible repeat (first | apply Kd.R_alloc | apply Kd.R_drewN | apply Kd.R_drew)); exact Kd.R_mono HO212.out (fun _ hk => ⟨hk.2, hk.1.2⟩)) hg hat); have n3_ := Aside0.mk (below_weaken z2_6 HL.out hb); have n4_ := Aside0.mk (KeepBut.trans z2_4 (KeepBut.of_grown hg g) (Kd.R_base2 HO206.out)); have n5_ := Aside0.mk (ho); clear HI0; clear BK178; clear HO212; clear HB; clear HK; clear HO206; have HI0 := n0_; have BK178 := n1_; have HO212 := n2_; have HB := n3_; have HK := n4_; have HO217 := n5_; clear n0_ n1_ n2_ n3_ n4_ n5_; clear ho hb hg hat) | ((with_reducible refine gate_builtin (b := .append) (xs := #[.tmp 49, .tmp 51]) rfl ?_); (try (refine gate_guard (by rfl) ?_; dsimp only)); at_builtin; refine Kd.R_append k77 w.heap.size rfl (.tmp 49) (.tmp 51) 30 77 (.agg #[(.int .i64 0), (.int .i64 0), (.int .i64 0), (.int .i64 0), (.int .i64 0), (.int .i64 0)]) 48 rfl Try.underlying30 info77 rfl (by decide) (by omega) v216 y215 (⟨6, 0, 0, (⟨0, 0, 0⟩ : S32)⟩ : S77) [.int .i64 6, .int .i64 0, .int .i64 0, .int .i64 0, .int .i64 0, .int .i64 0] (fun k_ => some k_ ≠ (.slice Ao56 t210.length co56 : Value).ownBlock ∧ k_ ≠ gb178) (fun _ => False) rfl rfl ?aP (fun _ hk => hk.elim) ?aF ?aO (Below.refl _ _) ?aS ?aL ?_; (case aP => exact k77_mkM _ _ _ (⟨6, 0, 0, (⟨0, 0, 0⟩ : S32)⟩ : S77)); (case aF => exact z2_39); (case aO => exact (by (with_reducible repeat (first | apply Kd.R_alloc | apply Kd.R_drewN | apply Kd.R_drew)); exact HO217.out)); (case aS => exact z2_41); (case aL => have := LMc44.out; omega); intro v219 w57 ho hb hg hat; rw [← Ny218.out] at ho; have n0_ := Aside0.mk (IsS116.grown z2_5 hg (IsS116.own_ne HI0.out HO217.out (by decide))); have n1_ := Aside0.mk (blk_grown (g := gb178) (o := .cells #[.int .i64 5, .int .i64 0, .int .i64 (wrap64 (1 + t175)), .int .i64 0, .int .i64 0, .int .i64 0] 77 (0, 0)) z2_7 hg (Kd.R_away HO217.out (fun _ hk => hk.2))); have n2_ := Aside0.mk (Kd.R_after (ok := (fun k_ => k_ ≠ gb178)) (by (with_reducible repeat (first | apply Kd.R_alloc | apply Kd.R_drewN | apply Kd.R_drew)); exact HO212.out) hg hat); have n3_ := Aside0.mk (below_weaken z2_6 HL.out hb); have n4_ := Aside0.mk (KeepBut.trans z2_4 (KeepBut.of_grown hg g) (Kd.R_base2 HO217.out)); have n5_ := Aside0.mk (ho); clear HI0; clear BK178; clear HO212; clear HB; clear HK; clear HO217; have HI0 := n0_; have BK178 := n1_; have HO212 := n2_; have HB := n3_; have HK := n4_; have HO220 := n5_; clear n0_ n1_ n2_ n3_ n4_ n5_; clear ho hb hg hat))
                      go_roundg kj6
                      case measure => have := HK1.out; have := HJ6.out; omega
                      case rel => exact ⟨(y218), (wrap64 (x8_1 + 1)), (t213), (t214), z2_20, H', ⟨by have := HK1.out; have := HJ6.out; omega⟩, ⟨by (with_reducible repeat (first | apply Kd.R_alloc | apply Kd.R_drewN | apply Kd.R_drew)); exact Kd.R_mono HO220.out (fun _ hk => trivial)⟩, ⟨by repeat (first | (with_reducible first | exact HI0.out | apply IsS116.alloc | apply IsS116.drewN | apply IsS116.drew | apply IsS116.set_1 | apply IsS116.set_2 | refine IsS116.far ?_ NB0_178.out _) | exact HI0.out)⟩, ⟨by repeat (first | (with_reducible first | exact HK.out | apply KeepBut.set_ | apply keep_drewN | apply keep_drew | apply keep_alloc | refine keep_far ?_ GW178.out _) | exact HK.out)⟩, ⟨by repeat (first | (with_reducible first | exact HB.out | apply below_alloc | apply pw_below_drewN | apply below_drew1 | refine below_set ?_ (IsS116.ge HI0.out) | refine below_set ?_ GE178.out) | exact HB.out)⟩⟩
                    · rw [if_neg c44] at H
                      exact absurd H (by simp)
                  · rw [if_neg c43] at H
                    exact absurd H (by simp)
                · rw [if_neg c40] at H
                  exact absurd H (by simp)
            · replace c14 := Bool.eq_false_iff.mpr c14
              subst c14
              have H1 : ((spec_l04Stmt.f kj6 s0_0 x1001_6 x1002_6).bind fun bt221 => (if x7_1.length < 2932031007402 then (spec_l05Block.l0 kj6 a1 a2 (x7_1 ++ [(⟨bt221.1, bt221.2.1, bt221.2.2.1, (⟨bt221.2.2.2.1, bt221.2.2.2.2.1, bt221.2.2.2.2.2.1⟩ : S32)⟩ : S77)]) (wrap64 (x8_1 + 1)) s0_0 bt221.2.2.2.2.2.2.1 bt221.2.2.2.2.2.2.2) else (none))) = some (r1, r2, r3) := by rw [if_neg (show ¬ (false = true) by decide)] at H; exact H
              clear H
              have H := H1
              clear H1
              replace H := Option.bind_eq_some_iff.mp H
              obtain ⟨⟨t221, t222, t223, t224, t225, t226, t227, t228⟩, A580, H⟩ := H
              replace H : (if x7_1.length < 2932031007402 then (spec_l05Block.l0 kj6 a1 a2 (x7_1 ++ [(⟨t221, t222, t223, (⟨t224, t225, t226⟩ : S32)⟩ : S77)]) (wrap64 (x8_1 + 1)) s0_0 t227 t228) else (none)) = some (r1, r2, r3) := H
              have A58 := Aside0.mk A580
              clear A580
              by_cases c59 : x7_1.length < 2932031007402
              · rw [if_pos c59] at H
                have LMc59 := Aside0.mk c59
                clear c59
                obtain ⟨y229, hy229⟩ : ∃ y_ : List (S77), y_ = (x7_1 ++ [(⟨t221, t222, t223, (⟨t224, t225, t226⟩ : S32)⟩ : S77)]) := ⟨_, rfl⟩
                replace H : (spec_l05Block.l0 kj6 a1 a2 y229 (wrap64 (x8_1 + 1)) s0_0 t227 t228) = some (r1, r2, r3) := by first | (rw [hy229]; with_reducible exact H) | (have H2_ := (Option.bind_some _ _).symm.trans H; rw [hy229]; with_reducible exact H2_) | (have H2_ := (Option.bind_some _ _).symm.trans H; with_reducible exact H2_) | with_reducible exact H | (rw [hy229]; exact H) | exact H
                have Ny229 := Aside0.mk hy229
                clear hy229
                have H' := Aside0.mk H
                clear H
                go_wp2_with (first | ((first | ((with_reducible refine gate_callee (f := 160) rfl ?_); refine goesL_ (some 55) rfl rfl Try.func160 z2_26 rfl #[.pointer (some ⟨g, 0, none⟩)] rfl z2_1 ?_; (with_reducible refine (spec_l04Stmt.calls kj6 g s0_0 x1001_6 x1002_6 t221 t222 t223 t224 t225 t226 t227 t228 w0 _ ?side1 ?side2 A58.out).mono ?_)) | (go_at_call 160; (with_reducible refine (spec_l04Stmt.calls kj6 g s0_0 x1001_6 x1002_6 t221 t222 t223 t224 t225 t226 t227 t228 w0 _ ?side1 ?side2 A58.out).mono ?_))); (case side1 => exact z2_2); (case side2 => exact z2_3); rintro e w60 ⟨rfl, hi, hb, hk⟩; (first | refine ⟨_, rfl, ?_⟩ | skip); have n0_ := Aside0.mk (Kd.R_mono (Kd.R_keep (IsS116.apart (show IsS116 w0 _ g s0_0 x1001_6 x1002_6 from by repeat (first | (with_reducible first | exact HI0.out | apply IsS116.alloc | apply IsS116.drewN | apply IsS116.drew | apply IsS116.set_1 | apply IsS116.set_2) | exact HI0.out)) z2_13 (by decide)) hk (fun _ h => h.2)) (fun _ h => h.1)); have n1_ := Aside0.mk (KeepBut.trans z2_0 hk (.inl rfl)); have n2_ := Aside0.mk (hb); have n3_ := Aside0.mk (hi); clear HO_7; clear HK; clear HB; clear HI0; have HO_7 := n0_; have HK := n1_; have HB := n2_; have HI0 := n3_; clear n0_ n1_ n2_ n3_; (try clear hb); (try clear hb2); (try clear hk); (try clear hi)) | ((with_reducible refine gate_builtin (b := .append) (xs := #[.tmp 53, .tmp 56]) rfl ?_); (try (refine gate_guard (by rfl) ?_; dsimp only)); at_builtin; refine Kd.R_append k77 w.heap.size rfl (.tmp 53) (.tmp 56) 30 77 (.agg #[(.int .i64 0), (.int .i64 0), (.int .i64 0), (.int .i64 0), (.int .i64 0), (.int .i64 0)]) 48 rfl Try.underlying30 info77 rfl (by decide) (by omega) u7 x7_1 (⟨t221, t222, t223, (⟨t224, t225, t226⟩ : S32)⟩ : S77) [.int .i64 t221, .int .i64 t222, .int .i64 t223, .int .i64 t224, .int .i64 t225, .int .i64 t226] (fun _ => True) (fun _ => False) rfl rfl ?aP (fun _ hk => hk.elim) ?aF ?aO (Below.refl _ _) ?aS ?aL ?_; (case aP => exact k77_mkM _ _ _ (⟨t221, t222, t223, (⟨t224, t225, t226⟩ : S32)⟩ : S77)); (case aF => exact (fun _ _ => trivial)); (case aO => exact z2_13); (case aS => exact (keep_size (w := w) (g := g) (row := none) z2_0)); (case aL => have := LMc59.out; omega); intro v230 w61 ho hb hg hat; rw [← Ny229.out] at ho; have n0_ := Aside0.mk (IsS116.grown z2_2 hg (IsS116.own_ne HI0.out HO_7.out (by decide))); have n1_ := Aside0.mk (below_weaken z2_3 HL.out hb); have n2_ := Aside0.mk (KeepBut.trans z2_0 (KeepBut.of_grown hg g) (Kd.R_base2 HO_7.out)); have n3_ := Aside0.mk (ho); clear HI0; clear HB; clear HK; clear HO_7; have HI0 := n0_; have HB := n1_; have HK := n2_; have HO231 := n3_; clear n0_ n1_ n2_ n3_; clear ho hb hg hat))
                go_roundg kj6
                case measure => have := HK1.out; have := HJ6.out; omega
                case rel => exact ⟨(y229), (wrap64 (x8_1 + 1)), (t227), (t228), z2_20, H', ⟨by have := HK1.out; have := HJ6.out; omega⟩, ⟨by (with_reducible repeat (first | apply Kd.R_alloc | apply Kd.R_drewN | apply Kd.R_drew)); exact HO231.out⟩, ⟨by repeat (first | (with_reducible first | exact HI0.out | apply IsS116.alloc | apply IsS116.drewN | apply IsS116.drew | apply IsS116.set_1 | apply IsS116.set_2) | exact HI0.out)⟩, ⟨by repeat (first | (with_reducible first | exact HK.out | apply KeepBut.set_ | apply keep_drewN | apply keep_drew | apply keep_alloc) | exact HK.out)⟩, ⟨by repeat (first | (with_reducible first | exact HB.out | apply below_alloc | apply pw_below_drewN | apply below_drew1 | refine below_set ?_ (IsS116.ge HI0.out)) | exact HB.out)⟩⟩
              · rw [if_neg c59] at H
                exact absurd H (by simp)
      · rw [if_neg c6] at H
        have c6b0 : decide (x8_1 < a1) = false := decide_eq_false c6
        clear c6
        simp only [Option.some.injEq, Prod.mk.injEq] at H
        obtain ⟨rfl, rfl, rfl⟩ := H
        go_wp2
        go_ret
        exact ⟨_, by first | rfl | (simp [errW_none, errW_some] <;> rfl) | (simp [*, errW_none, errW_some] <;> rfl) | (simp [*, errW_none, errW_some, i64_w]; done), by (with_reducible repeat (first | apply Kd.R_alloc | apply Kd.R_drewN | apply Kd.R_drew)); exact HO_7.out, by repeat (first | (with_reducible first | exact HI0.out | apply IsS116.alloc | apply IsS116.drewN | apply IsS116.drew | apply IsS116.set_1 | apply IsS116.set_2) | exact HI0.out), by repeat (first | (with_reducible first | exact HB.out | apply below_alloc | apply pw_below_drewN | apply below_drew1 | refine below_set ?_ (IsS116.ge HI0.out)) | exact HB.out), by repeat (first | (with_reducible first | exact HK.out | apply KeepBut.set_ | apply keep_drewN | apply keep_drew | apply keep_alloc) | exact HK.out)⟩

/-! ### spec_l05Case: function 95 -/
def spec_l05Case.f (k : Nat) (s0_0 : List Int) (s0_1 : Int) (s0_2 : Int) : Option ((List (S77)) × Int × Int) := (spec_l01Below.f s0_0 s0_1 s0_2 6).bind fun bt232 => ((spec_l05Block.f k s0_0 bt232.2.1 bt232.2.2 bt232.1 0).bind fun bt235 => (some (bt235.1, bt235.2.1, bt235.2.2)))
theorem spec_l05Case.mono : ∀ a0 a1 a2 k, LeO (spec_l05Case.f k a0 a1 a2) (spec_l05Case.f (k + 1) a0 a1 a2) := by
  intro a0 a1 a2 k
  unfold spec_l05Case.f
  repeat' first
      | (with_reducible exact spec_l05Block.mono _ _ _ _ _ _)
      | (with_reducible exact LeO.refl _)
      | (with_reducible exact LeO.none _)
      | (with_reducible refine LeO.ite ?_ ?_)
      | (with_reducible refine LeO.bind ?_ (fun _ => ?_))
      | exact spec_l05Block.mono _ _ _ _ _ _
      | exact LeO.none _
      | refine LeO.ite ?_ ?_
      | refine LeO.bind ?_ (fun _ => ?_)
set_option maxHeartbeats 8000000 in
set_option maxRecDepth 100000 in
theorem spec_l05Case.calls (k : Nat) (g : Nat) (s0_0 : List Int) (s0_1 : Int) (s0_2 : Int) (r1 : List (S77)) (r2 : Int) (r3 : Int) (w0 w : World) (hI : IsS116 w0 w g s0_0 s0_1 s0_2) (hB : Below w0.heap.size w0 w) (h : spec_l05Case.f k s0_0 s0_1 s0_2 = some (r1, r2, r3)) :
    Calls Try.prog 95 #[.pointer (some ⟨g, 0, none⟩)] w fun e w' => ∃ v0_ : Value, e = .returned (v0_) ∧ Kd.R k77 77 w' w.heap.size (fun _ => True) v0_ r1 ∧ IsS116 w0 w' g s0_0 r2 r3 ∧ Below w0.heap.size w0 w' ∧ KeepBut w w' g none := by
  have HI0 := Aside0.mk hI
  have HK := Aside0.mk (KeepBut.refl w g none)
  have HL := Aside0.mk hB.size
  clear hI
  have HW0 := Aside0.mk hB.size
  have HB := Aside0.mk hB
  clear hB
  have H : ((spec_l01Below.f s0_0 s0_1 s0_2 6).bind fun bt232 => ((spec_l05Block.f k s0_0 bt232.2.1 bt232.2.2 bt232.1 0).bind fun bt235 => (some (bt235.1, bt235.2.1, bt235.2.2)))) = some (r1, r2, r3) := h
  clear h
  replace H := Option.bind_eq_some_iff.mp H
  obtain ⟨⟨t232, t233, t234⟩, A20, H⟩ := H
  replace H : ((spec_l05Block.f k s0_0 t233 t234 t232 0).bind fun bt235 => (some (bt235.1, bt235.2.1, bt235.2.2))) = some (r1, r2, r3) := H
  have A2 := Aside0.mk A20
  clear A20
  replace H := Option.bind_eq_some_iff.mp H
  obtain ⟨⟨t235, t238, t239⟩, A30, H⟩ := H
  replace H : (some (t235, t238, t239)) = some (r1, r2, r3) := H
  have A3 := Aside0.mk A30
  clear A30
  simp only [Option.some.injEq, Prod.mk.injEq] at H
  obtain ⟨rfl, rfl, rfl⟩ := H
  go_enter Try.func95, Try.ntmps95
  go_wp2_with (first | ((first | ((with_reducible refine gate_callee (f := 68) rfl ?_); refine goesL_ (some 5) rfl rfl Try.func68 z2_26 rfl #[.pointer (some ⟨g, 0, none⟩), .int .i64 6] rfl z2_1 ?_; (with_reducible refine (spec_l01Below.calls g s0_0 s0_1 s0_2 6 t232 t233 t234 w0 _ ?side1 ?side2 A2.out).mono ?_)) | (go_at_call 68; (with_reducible refine (spec_l01Below.calls g s0_0 s0_1 s0_2 6 t232 t233 t234 w0 _ ?side1 ?side2 A2.out).mono ?_))); (case side1 => exact z2_2); (case side2 => exact z2_3); rintro e w4 ⟨rfl, hi, hb, hk⟩; (first | refine ⟨_, rfl, ?_⟩ | skip); have n0_ := Aside0.mk (KeepBut.trans z2_0 hk (.inl rfl)); have n1_ := Aside0.mk (hb); have n2_ := Aside0.mk (hi); clear HK; clear HB; clear HI0; have HK := n0_; have HB := n1_; have HI0 := n2_; clear n0_ n1_ n2_; (try clear hb); (try clear hb2); (try clear hk); (try clear hi)) | ((first | ((with_reducible refine gate_callee (f := 133) rfl ?_); refine goesL_ (some 6) rfl rfl Try.func133 z2_26 rfl #[.pointer (some ⟨g, 0, none⟩), .int .i64 t232, .int .i64 0] rfl z2_1 ?_; (with_reducible refine (spec_l05Block.calls k g s0_0 t233 t234 t232 0 t235 t238 t239 w0 _ ?side1 ?side2 A3.out).mono ?_)) | (go_at_call 133; (with_reducible refine (spec_l05Block.calls k g s0_0 t233 t234 t232 0 t235 t238 t239 w0 _ ?side1 ?side2 A3.out).mono ?_))); (case side1 => exact z2_2); (case side2 => exact z2_3); rintro e w5 ⟨v236, rfl, ho0, hi, hb, hk⟩; (first | refine ⟨_, rfl, ?_⟩ | skip); have n0_ := Aside0.mk (Kd.R_lower ho0 (keep_size (w := w) (g := g) (row := none) z2_0)); have n1_ := Aside0.mk (KeepBut.trans z2_0 hk (.inl rfl)); have n2_ := Aside0.mk (hb); have n3_ := Aside0.mk (hi); clear HK; clear HB; clear HI0; have HO237 := n0_; have HK := n1_; have HB := n2_; have HI0 := n3_; clear n0_ n1_ n2_ n3_; (try clear hb); (try clear hb2); (try clear hk); (try clear hi); (try clear ho0)))
  go_ret
  exact ⟨_, by first | rfl | (simp [errW_none, errW_some] <;> rfl) | (simp [*, errW_none, errW_some] <;> rfl) | (simp [*, errW_none, errW_some, i64_w]; done), by (with_reducible repeat (first | apply Kd.R_alloc | apply Kd.R_drewN | apply Kd.R_drew)); exact HO237.out, by repeat (first | (with_reducible first | exact HI0.out | apply IsS116.alloc | apply IsS116.drewN | apply IsS116.drew | apply IsS116.set_1 | apply IsS116.set_2) | exact HI0.out), by repeat (first | (with_reducible first | exact HB.out | apply below_alloc | apply pw_below_drewN | apply below_drew1 | refine below_set ?_ (IsS116.ge HI0.out)) | exact HB.out), by repeat (first | (with_reducible first | exact HK.out | apply KeepBut.set_ | apply keep_drewN | apply keep_drew | apply keep_alloc) | exact HK.out)⟩

/-! ### spec_l06Program: function 51 -/
def spec_l06Program.l0 : Nat → Int → List Int → Int → Int → List (S34) → Option ((List (S34)) × Int × Int)
  | 0, _, _, _, _, _ => none
  | k + 1, x4, x1000, x1001, x1002, x242000 => (spec_l01Below.f x1000 x1001 x1002 3).bind fun bt242 => (if x4 < (wrap64 (1 + bt242.1)) then ((spec_l05Case.f k x1000 bt242.2.1 bt242.2.2).bind fun bt245 => ((spec_l03Expr.f x1000 bt245.2.1 bt245.2.2).bind fun bt250 => (if x242000.length < 2932031007402 then (spec_l06Program.l0 k (wrap64 (x4 + 1)) x1000 bt250.2.2.2.1 bt250.2.2.2.2 (x242000 ++ [(⟨bt245.1, (⟨bt250.1, bt250.2.1, bt250.2.2.1⟩ : S32)⟩ : S34)])) else (none)))) else (some (x242000, bt242.2.1, bt242.2.2)))
def spec_l06Program.f (k : Nat) (s0_0 : List Int) (s0_1 : Int) (s0_2 : Int) : Option ((List (S34)) × Int × Int) := spec_l06Program.l0 k 0 s0_0 s0_1 s0_2 ([] : List (S34))
theorem spec_l06Program.mono_l : ∀ k, (∀ y0 y1 y2 y3 y4, LeO (spec_l06Program.l0 k y0 y1 y2 y3 y4) (spec_l06Program.l0 (k + 1) y0 y1 y2 y3 y4))
  | 0 => fun _ _ _ _ _ r h => by simp [spec_l06Program.l0] at h
  | k + 1 => by
    have ih0 := spec_l06Program.mono_l k
    · intro y0 y1 y2 y3 y4
      unfold spec_l06Program.l0
      repeat' first
      | (with_reducible exact ih0 _ _ _ _ _)
      | (with_reducible exact spec_l05Case.mono _ _ _ _)
      | (with_reducible exact LeO.refl _)
      | (with_reducible exact LeO.none _)
      | (with_reducible refine LeO.ite ?_ ?_)
      | (with_reducible refine LeO.bind ?_ (fun _ => ?_))
      | exact ih0 _ _ _ _ _
      | exact spec_l05Case.mono _ _ _ _
      | exact LeO.none _
      | refine LeO.ite ?_ ?_
      | refine LeO.bind ?_ (fun _ => ?_)
theorem spec_l06Program.mono : ∀ a0 a1 a2 k, LeO (spec_l06Program.f k a0 a1 a2) (spec_l06Program.f (k + 1) a0 a1 a2) := by
  intro a0 a1 a2 k
  have ih0 := spec_l06Program.mono_l k
  unfold spec_l06Program.f
  repeat' first
      | (with_reducible exact ih0 _ _ _ _ _)
      | (with_reducible exact spec_l05Case.mono _ _ _ _)
      | (with_reducible exact LeO.refl _)
      | (with_reducible exact LeO.none _)
      | (with_reducible refine LeO.ite ?_ ?_)
      | (with_reducible refine LeO.bind ?_ (fun _ => ?_))
      | exact ih0 _ _ _ _ _
      | exact spec_l05Case.mono _ _ _ _
      | exact LeO.none _
      | refine LeO.ite ?_ ?_
      | refine LeO.bind ?_ (fun _ => ?_)
def spec_l06Program.T5 : Bool × List (List Nat × List Nat) := (true, [([], []), ([0], [0]), ([], []), ([2], [2]), ([], []), ([4, 3], [4]), ([3, 5], [3, 5]), ([6], [6]), ([1, 7, 5], [1, 7]), ([0, 1, 2, 3, 4, 5, 6, 7, 8], []), ([9, 8, 8, 0, 1, 2, 3, 4, 5, 6, 7, 8], [8, 9])])
def spec_l06Program.B5 : List Nat := [0, 1, 0, 4, 0, 28, 60, 124, 255, 511, 1023]
theorem spec_l06Program.tab5 : rtab .any (opsOf Try.f51 5) = spec_l06Program.T5 := by kernel_rfl
theorem spec_l06Program.bits5 : waitsOk spec_l06Program.T5.2 spec_l06Program.B5 = true := by kernel_rfl
set_option maxHeartbeats 8000000 in
set_option maxRecDepth 100000 in
theorem spec_l06Program.calls (k : Nat) (g : Nat) (s0_0 : List Int) (s0_1 : Int) (s0_2 : Int) (r1 : List (S34)) (r2 : Int) (r3 : Int) (w0 w : World) (hI : IsS116 w0 w g s0_0 s0_1 s0_2) (hB : Below w0.heap.size w0 w) (h : spec_l06Program.f k s0_0 s0_1 s0_2 = some (r1, r2, r3)) :
    Calls Try.prog 51 #[.pointer (some ⟨g, 0, none⟩)] w fun e w' => ∃ v0_ : Value, e = .returned (.agg #[v0_]) ∧ Kd.S k34 34 w' w.heap.size (fun _ => True) v0_ r1 ∧ IsS116 w0 w' g s0_0 r2 r3 ∧ Below w0.heap.size w0 w' ∧ KeepBut w w' g none := by
  have hu26 := Try.underlying26
  have hu34 := Try.underlying34
  have HI0 := Aside0.mk hI
  have HK := Aside0.mk (KeepBut.refl w g none)
  have HL := Aside0.mk hB.size
  clear hI
  have HW0 := Aside0.mk hB.size
  have HB := Aside0.mk hB
  clear hB
  have H : (spec_l06Program.l0 k 0 s0_0 s0_1 s0_2 ([] : List (S34))) = some (r1, r2, r3) := h
  clear h
  have H' := Aside0.mk H
  clear H
  go_enter Try.func51, Try.ntmps51
  go_wp2_with (first | ((with_reducible refine gate_dst (N := 2) rfl ?_); refine box_event ?hg (N := 2) ?hd (cs := #[.slice none 0 0]) (t := 26) ?hr ?_; (case hd => rfl); (case hg => rfl); (case hr => exact z2_19); intro gb240 hg w2 hbox hb; have n0_ := Aside0.mk (IsS116.below z2_2 hb); have n1_ := Aside0.mk (KeepBut.trans z2_0 (KeepBut.of_below hb g none) (.inl rfl)); have n2_ := Aside0.mk (below_step z2_3 hb); have n3_ := Aside0.mk (hbox); have n4_ := Aside0.mk ((z2_38 : w.heap.size ≤ gb240)); have n5_ := Aside0.mk ((Nat.le_trans HW0.out (z2_38 : w.heap.size ≤ gb240) : w0.heap.size ≤ gb240)); have n6_ := Aside0.mk ((z2_22 : g ≠ gb240)); have n7_ := Aside0.mk ((z2_23 : gb240 ≠ g)); clear HI0; clear HK; clear HB; have HI0 := n0_; have HK := n1_; have HB := n2_; have BK240 := n3_; have GW240 := n4_; have GE240 := n5_; have NB0_240 := n6_; have NB240_0 := n7_; clear n0_ n1_ n2_ n3_ n4_ n5_ n6_ n7_; clear hb hbox hg) | ((with_reducible refine gate_dst (N := 3) rfl ?_); refine box_event ?hg (N := 3) ?hd (cs := #[.slice none 0 0]) (t := 26) ?hr ?_; (case hd => rfl); (case hg => rfl); (case hr => exact z2_19); intro gb241 hg w3 hbox hb; have n0_ := Aside0.mk (IsS116.below (by repeat (first | (with_reducible first | exact HI0.out | apply IsS116.alloc | apply IsS116.drewN | apply IsS116.drew | apply IsS116.set_1 | apply IsS116.set_2 | refine IsS116.far ?_ NB0_240.out _) | exact HI0.out)) hb); have n1_ := Aside0.mk (blk_below (g := gb240) (o := .cells #[.slice none 0 0] 26 (0, 0)) z2_17 hb); have n2_ := Aside0.mk (KeepBut.trans z2_29 (KeepBut.of_below hb g none) (.inl rfl)); have n3_ := Aside0.mk (below_step (by repeat (first | (with_reducible first | exact HB.out | apply below_alloc | apply pw_below_drewN | apply below_drew1 | refine below_set ?_ (IsS116.ge HI0.out) | refine below_set ?_ GE240.out) | exact HB.out)) hb); have n4_ := Aside0.mk (hbox); have n5_ := Aside0.mk ((by rw [hg]; exact (keep_size (w := w) (g := g) (row := none) z2_29) : w.heap.size ≤ gb241)); have n6_ := Aside0.mk ((Nat.le_trans HW0.out (by rw [hg]; exact (keep_size (w := w) (g := g) (row := none) z2_29) : w.heap.size ≤ gb241) : w0.heap.size ≤ gb241)); have n7_ := Aside0.mk ((by rw [hg]; exact Nat.ne_of_lt (blk_lt (g := gb240) (o := .cells #[.slice none 0 0] 26 (0, 0)) z2_17) : gb240 ≠ gb241)); have n8_ := Aside0.mk ((by rw [hg]; exact Nat.ne_of_gt (blk_lt (g := gb240) (o := .cells #[.slice none 0 0] 26 (0, 0)) z2_17) : gb241 ≠ gb240)); have n9_ := Aside0.mk ((by rw [hg]; exact Nat.ne_of_lt (IsS116.lt (show IsS116 w0 _ g s0_0 s0_1 s0_2 from by repeat (first | (with_reducible first | exact HI0.out | apply IsS116.alloc | apply IsS116.drewN | apply IsS116.drew | apply IsS116.set_1 | apply IsS116.set_2 | refine IsS116.far ?_ NB0_240.out _) | exact HI0.out))) : g ≠ gb241)); have n10_ := Aside0.mk ((by rw [hg]; exact Nat.ne_of_gt (IsS116.lt (show IsS116 w0 _ g s0_0 s0_1 s0_2 from by repeat (first | (with_reducible first | exact HI0.out | apply IsS116.alloc | apply IsS116.drewN | apply IsS116.drew | apply IsS116.set_1 | apply IsS116.set_2 | refine IsS116.far ?_ NB0_240.out _) | exact HI0.out))) : gb241 ≠ g)); clear HI0; clear BK240; clear HK; clear HB; have HI0 := n0_; have BK240 := n1_; have HK := n2_; have HB := n3_; have BK241 := n4_; have GW241 := n5_; have GE241 := n6_; have NB240_241 := n7_; have NB241_240 := n8_; have NB0_241 := n9_; have NB241_0 := n10_; clear n0_ n1_ n2_ n3_ n4_ n5_ n6_ n7_ n8_ n9_ n10_; clear hb hbox hg; have hnb4 := NB241_240.out; have hnc4 := NB240_241.out; have hnb5 := NB241_0.out; have hnc5 := NB0_241.out; have hcz6_0 : w3.cell? ⟨gb241, 0, none⟩ = some (.slice none 0 0) := (blk_cell BK241.out 0).trans rfl; have hfz6_0 := blk_frozen BK241.out 0))
  go_loopg [4] k (fun kq v4 w' => ∃ (x4_1 : Int) (x1001_1 : Int) (x1002_1 : Int) (x242000_1 : List (S34)) (u242000 : Value), v4 = .int .i64 x4_1 ∧ Aside0 (spec_l06Program.l0 kq x4_1 s0_0 x1001_1 x1002_1 x242000_1 = some (r1, r2, r3)) ∧ Aside0 (kq ≤ k) ∧ Aside0 (Kd.S k34 34 w' w.heap.size (fun _ => True) u242000 x242000_1) ∧ Aside0 (w'.heap[gb240]? = some (.cells #[(.slice none 0 0)] 26 (0, 0))) ∧ Aside0 (w'.heap[gb241]? = some (.cells #[u242000] 26 (0, 0))) ∧ Aside0 (IsS116 w0 w' g s0_0 x1001_1 x1002_1) ∧ Aside0 (KeepBut w w' g none) ∧ Aside0 (Below w0.heap.size w0 w'))
  case atStart => exact ⟨(0), (s0_1), (s0_2), (([] : List (S34))), (.slice none 0 0), z2_20, H', ⟨Nat.le_refl _⟩, ⟨by first | exact Kd.S_nil _ _ _ _ _ | exact Kd.N_nil _ _ _ _ _ | exact Kd.V_nil _ _ _ _ _ | exact Kd.Q_nil _ _ _ _ _ | exact Kd.R_nil _ _ _ _ _⟩, ⟨by (with_reducible repeat (first | refine blk_drewN ?_ _ | refine blk_drew ?_ | refine blk_alloc ?_ _)); refine blk_far ?_ NB240_241.out _; (with_reducible repeat (first | refine blk_drewN ?_ _ | refine blk_drew ?_ | refine blk_alloc ?_ _)); exact BK240.out⟩, ⟨by (with_reducible repeat (first | refine blk_drewN ?_ _ | refine blk_drew ?_ | refine blk_alloc ?_ _)); refine blk_put (cs := #[.slice none 0 0]) ?_ 0 _ rfl; (with_reducible repeat (first | refine blk_drewN ?_ _ | refine blk_drew ?_ | refine blk_alloc ?_ _)); exact BK241.out⟩, ⟨by repeat (first | (with_reducible first | exact HI0.out | apply IsS116.alloc | apply IsS116.drewN | apply IsS116.drew | apply IsS116.set_1 | apply IsS116.set_2 | refine IsS116.far ?_ NB0_240.out _ | refine IsS116.far ?_ NB0_241.out _) | exact HI0.out)⟩, ⟨by repeat (first | (with_reducible first | exact HK.out | apply KeepBut.set_ | apply keep_drewN | apply keep_drew | apply keep_alloc | refine keep_far ?_ GW240.out _ | refine keep_far ?_ GW241.out _) | exact HK.out)⟩, ⟨by repeat (first | (with_reducible first | exact HB.out | apply below_alloc | apply pw_below_drewN | apply below_drew1 | refine below_set ?_ (IsS116.ge HI0.out) | refine below_set ?_ GE240.out | refine below_set ?_ GE241.out) | exact HB.out)⟩⟩
  case round =>
    clear H'
    (try clear hcz6_0); (try clear hfz6_0)
    obtain ⟨x4_1, x1001_1, x1002_1, x242000_1, u242000, rfl, HA, HK1, HO_242000, BK240, BK241, HI0, HK, HB⟩ := hrel
    cases gk with
    | zero => exact absurd HA.out (by simp [spec_l06Program.l0])
    | succ k1 =>
      have H := HA.out
      clear HA
      simp only [spec_l06Program.l0] at H
      replace H := Option.bind_eq_some_iff.mp H
      obtain ⟨⟨t242, t243, t244⟩, A70, H⟩ := H
      replace H : (if x4_1 < (wrap64 (1 + t242)) then ((spec_l05Case.f k1 s0_0 t243 t244).bind fun bt245 => ((spec_l03Expr.f s0_0 bt245.2.1 bt245.2.2).bind fun bt250 => (if x242000_1.length < 2932031007402 then (spec_l06Program.l0 k1 (wrap64 (x4_1 + 1)) s0_0 bt250.2.2.2.1 bt250.2.2.2.2 (x242000_1 ++ [(⟨bt245.1, (⟨bt250.1, bt250.2.1, bt250.2.2.1⟩ : S32)⟩ : S34)])) else (none)))) else (some (x242000_1, t243, t244))) = some (r1, r2, r3) := H
      have A7 := Aside0.mk A70
      clear A70
      by_cases c8 : x4_1 < (wrap64 (1 + t242))
      · rw [if_pos c8] at H
        have c8b0 : decide (x4_1 < (wrap64 (1 + t242))) = true := decide_eq_true c8
        clear c8
        replace H := Option.bind_eq_some_iff.mp H
        obtain ⟨⟨t245, t248, t249⟩, A90, H⟩ := H
        replace H : ((spec_l03Expr.f s0_0 t248 t249).bind fun bt250 => (if x242000_1.length < 2932031007402 then (spec_l06Program.l0 k1 (wrap64 (x4_1 + 1)) s0_0 bt250.2.2.2.1 bt250.2.2.2.2 (x242000_1 ++ [(⟨t245, (⟨bt250.1, bt250.2.1, bt250.2.2.1⟩ : S32)⟩ : S34)])) else (none))) = some (r1, r2, r3) := H
        have A9 := Aside0.mk A90
        clear A90
        replace H := Option.bind_eq_some_iff.mp H
        obtain ⟨⟨t250, t251, t252, t253, t254⟩, A100, H⟩ := H
        replace H : (if x242000_1.length < 2932031007402 then (spec_l06Program.l0 k1 (wrap64 (x4_1 + 1)) s0_0 t253 t254 (x242000_1 ++ [(⟨t245, (⟨t250, t251, t252⟩ : S32)⟩ : S34)])) else (none)) = some (r1, r2, r3) := H
        have A10 := Aside0.mk A100
        clear A100
        by_cases c11 : x242000_1.length < 2932031007402
        · rw [if_pos c11] at H
          have LMc11 := Aside0.mk c11
          clear c11
          obtain ⟨y255, hy255⟩ : ∃ y_ : List (S34), y_ = (x242000_1 ++ [(⟨t245, (⟨t250, t251, t252⟩ : S32)⟩ : S34)]) := ⟨_, rfl⟩
          replace H : (spec_l06Program.l0 k1 (wrap64 (x4_1 + 1)) s0_0 t253 t254 y255) = some (r1, r2, r3) := by first | (rw [hy255]; with_reducible exact H) | (have H2_ := (Option.bind_some _ _).symm.trans H; rw [hy255]; with_reducible exact H2_) | (have H2_ := (Option.bind_some _ _).symm.trans H; with_reducible exact H2_) | with_reducible exact H | (rw [hy255]; exact H) | exact H
          have Ny255 := Aside0.mk hy255
          clear hy255
          have H' := Aside0.mk H
          clear H
          try go_wp2_with (first | ((first | ((with_reducible refine gate_callee (f := 68) rfl ?_); refine goesL_ (some 8) rfl rfl Try.func68 z2_26 rfl #[.pointer (some ⟨g, 0, none⟩), .int .i64 3] rfl z2_1 ?_; (with_reducible refine (spec_l01Below.calls g s0_0 x1001_1 x1002_1 3 t242 t243 t244 w0 _ ?side1 ?side2 A7.out).mono ?_)) | (go_at_call 68; (with_reducible refine (spec_l01Below.calls g s0_0 x1001_1 x1002_1 3 t242 t243 t244 w0 _ ?side1 ?side2 A7.out).mono ?_))); (case side1 => exact z2_14); (case side2 => exact z2_15); rintro e w12 ⟨rfl, hi, hb, hk⟩; (first | refine ⟨_, rfl, ?_⟩ | skip); have n0_ := Aside0.mk (Kd.S_mono (Kd.S_keep (IsS116.apartS (show IsS116 w0 _ g s0_0 x1001_1 x1002_1 from by repeat (first | (with_reducible first | exact HI0.out | apply IsS116.alloc | apply IsS116.drewN | apply IsS116.drew | apply IsS116.set_1 | apply IsS116.set_2 | refine IsS116.far ?_ NB0_240.out _ | refine IsS116.far ?_ NB0_241.out _) | exact HI0.out)) z2_32 (by decide)) hk (fun _ h => h.2)) (fun _ h => h.1)); have n1_ := Aside0.mk (KeepBut.blk hk (g' := gb240) (o := .cells #[.slice none 0 0] 26 (0, 0)) z2_17 NB240_0.out (by simp)); have n2_ := Aside0.mk (KeepBut.blk hk (g' := gb241) (o := .cells #[u242000] 26 (0, 0)) z2_25 NB241_0.out (by simp)); have n3_ := Aside0.mk (KeepBut.trans z2_12 hk (.inl rfl)); have n4_ := Aside0.mk (hb); have n5_ := Aside0.mk (hi); clear HO_242000; clear BK240; clear BK241; clear HK; clear HB; clear HI0; have HO_242000 := n0_; have BK240 := n1_; have BK241 := n2_; have HK := n3_; have HB := n4_; have HI0 := n5_; clear n0_ n1_ n2_ n3_ n4_ n5_; (try clear hb); (try clear hb2); (try clear hk); (try clear hi)))
          have n0_ := Aside0.mk (Kd.S_drew HO_242000.out)
          have n1_ := Aside0.mk (blk_drew BK240.out)
          have n2_ := Aside0.mk (blk_drew BK241.out)
          have n3_ := Aside0.mk (IsS116.drew HI0.out)
          have n4_ := Aside0.mk (keep_drew HK.out)
          have n5_ := Aside0.mk (below_drew1 HB.out)
          clear HO_242000
          clear BK240
          clear BK241
          clear HI0
          clear HK
          clear HB
          have HO_242000 := n0_
          have BK240 := n1_
          have BK241 := n2_
          have HI0 := n3_
          have HK := n4_
          have HB := n5_
          clear n0_ n1_ n2_ n3_ n4_ n5_
          refine start_ (n := 11) (S := fun w' => w'.cell? ⟨gb241, 0, none⟩ = some (u242000)) (ds := [10]) #[false, false, false, false, false, false, false, false, false, false, false] z2_26 rfl rfl ((blk_cell BK241.out 0).trans rfl) (fun hHeld => ?_); refine with_tabW spec_l06Program.tab5 spec_l06Program.bits5 (fun HT_ HW_ => ?_)
          generalize w12.drew = w13 at HO_242000 BK240 BK241 HI0 HK HB hHeld ⊢
          refine pure_ (i := 0) (N := some 13) (v := ?_) (a' := ?_) #[true, false, false, false, false, false, false, false, false, false, false] rfl rfl (any_of HT_.out z2_26) (fun _ _ _ h => h) (Or.inl ⟨by rfl, ?_⟩) ?_ ?_
          rotate_left
          · intro w'
            go_simp
            with_reducible rfl
          rotate_left
          · simp only [Act.put, List.setIfInBounds_toArray, List.set_cons_zero, List.set_cons_succ, i64_w, i32_w]
            rfl
          refine pure_ (i := 2) (N := some 15) (v := ?_) (a' := ?_) #[true, false, true, false, false, false, false, false, false, false, false] rfl rfl (any_of HT_.out z2_26) (fun _ _ _ h => h) (Or.inl ⟨by rfl, ?_⟩) ?_ ?_
          rotate_left
          · intro w'
            go_simp
            with_reducible rfl
          rotate_left
          · simp only [Act.put, List.setIfInBounds_toArray, List.set_cons_zero, List.set_cons_succ, i64_w, i32_w]
            rfl
          refine pure_ (i := 4) (N := some 17) (v := ?_) (a' := ?_) #[true, false, true, false, true, false, false, false, false, false, false] rfl rfl (any_of HT_.out z2_26) (fun _ _ _ h => h) (Or.inl ⟨by rfl, ?_⟩) ?_ ?_
          rotate_left
          · intro w'
            go_simp
            with_reducible rfl
          rotate_left
          · simp only [Act.put, List.setIfInBounds_toArray, List.set_cons_zero, List.set_cons_succ, i64_w, i32_w]
            rfl
          refine take_ (i := 1) (N := some 14) (v := ?_) (a' := ?_) #[true, true, true, false, true, false, false, false, false, false, false] rfl rfl (take_ofW HT_.out HW_.out z2_26) (fun _ _ _ h => h) (Or.inl ⟨by rfl, ?_⟩) hHeld ?_ ?_
          rotate_left
          · intro w' s0
            go_simp
            with_reducible rfl
          rotate_left
          · simp only [Act.put, List.setIfInBounds_toArray, List.set_cons_zero, List.set_cons_succ, i64_w, i32_w]
            rfl
          refine one_ (i := 3) (N := some 16) #[true, true, true, true, true, false, false, false, false, false, false] rfl rfl (one_of HT_.out z2_26) (by decide) (fun K hK => ?_)
          refine goes_ Try.func95 z2_26 rfl #[.pointer (some ⟨g, 0, none⟩)] (by rfl) rfl rfl z2_1 ?_
          with_reducible refine (spec_l05Case.calls k1 g s0_0 t243 t244 t245 t248 t249 w0 _ ?side1 ?side2 A9.out).mono ?_
          (case side1 => exact z2_14)
          (case side2 => exact z2_15)
          rintro e w14 ⟨v246, rfl, ho0, hi, hb, hk⟩
          refine ⟨_, rfl, ?_⟩
          have n0_ := Aside0.mk (Kd.S_mono (Kd.S_told (Kd.S_oldK (IsS116.apartS (show IsS116 w0 _ g s0_0 t243 t244 from by repeat (first | (with_reducible first | exact HI0.out | apply IsS116.alloc | apply IsS116.drewN | apply IsS116.drew | apply IsS116.set_1 | apply IsS116.set_2 | refine IsS116.far ?_ NB0_240.out _ | refine IsS116.far ?_ NB0_241.out _) | exact HI0.out)) z2_32 (by decide)) hk) (Kd.R_base ho0)) (fun _ h_ => h_.1))
          have n1_ := Aside0.mk (KeepBut.blk hk (g' := gb240) (o := .cells #[.slice none 0 0] 26 (0, 0)) z2_17 NB240_0.out (by simp))
          have n2_ := Aside0.mk (KeepBut.blk hk (g' := gb241) (o := .cells #[u242000] 26 (0, 0)) z2_25 NB241_0.out (by simp))
          have n3_ := Aside0.mk (Kd.R_lower ho0 (keep_size (w := w) (g := g) (row := none) z2_12))
          have n4_ := Aside0.mk (KeepBut.trans z2_12 hk (.inl rfl))
          have n5_ := Aside0.mk (hb)
          have n6_ := Aside0.mk (hi)
          clear HO_242000
          clear BK240
          clear BK241
          clear HK
          clear HB
          clear HI0
          have HO_242000 := n0_
          have BK240 := n1_
          have BK241 := n2_
          have HO247 := n3_
          have HK := n4_
          have HB := n5_
          have HI0 := n6_
          clear n0_ n1_ n2_ n3_ n4_ n5_ n6_
          (try clear hb)
          (try clear hb2)
          (try clear hk)
          (try clear hi)
          (try clear ho0)
          refine hK.out _ _ ((blk_cell BK241.out 0).trans rfl) (fun hHeld => ?_)
          clear hK K
          refine norm_ (a' := ?_) ?_ ?_
          rotate_left
          · show Act.put _ (some 16) _ = _
            simp only [Act.put, List.setIfInBounds_toArray, List.set_cons_zero, List.set_cons_succ, i64_w, i32_w]
            rfl
          refine one_ (i := 5) (N := some 18) #[true, true, true, true, true, true, false, false, false, false, false] rfl rfl (one_of HT_.out z2_26) (by decide) (fun K hK => ?_)
          refine goes_ Try.func96 z2_26 rfl #[.pointer (some ⟨g, 0, none⟩)] (by rfl) rfl rfl z2_1 ?_
          with_reducible refine (spec_l03Expr.calls g s0_0 t248 t249 t250 t251 t252 t253 t254 w0 _ ?side1 ?side2 A10.out).mono ?_
          (case side1 => exact z2_14)
          (case side2 => exact z2_15)
          rintro e w15 ⟨rfl, hi, hb, hk⟩
          refine ⟨_, rfl, ?_⟩
          have n0_ := Aside0.mk (Kd.S_mono (Kd.S_keep (IsS116.apartS (show IsS116 w0 _ g s0_0 t248 t249 from by repeat (first | (with_reducible first | exact HI0.out | apply IsS116.alloc | apply IsS116.drewN | apply IsS116.drew | apply IsS116.set_1 | apply IsS116.set_2 | refine IsS116.far ?_ NB0_240.out _ | refine IsS116.far ?_ NB0_241.out _) | exact HI0.out)) z2_32 (by decide)) hk (fun _ h => h.2)) (fun _ h => h.1))
          have n1_ := Aside0.mk (KeepBut.blk hk (g' := gb240) (o := .cells #[.slice none 0 0] 26 (0, 0)) z2_17 NB240_0.out (by simp))
          have n2_ := Aside0.mk (KeepBut.blk hk (g' := gb241) (o := .cells #[u242000] 26 (0, 0)) z2_25 NB241_0.out (by simp))
          have n3_ := Aside0.mk (Kd.R_mono (Kd.R_keep (IsS116.apart (show IsS116 w0 _ g s0_0 t248 t249 from by repeat (first | (with_reducible first | exact HI0.out | apply IsS116.alloc | apply IsS116.drewN | apply IsS116.drew | apply IsS116.set_1 | apply IsS116.set_2 | refine IsS116.far ?_ NB0_240.out _ | refine IsS116.far ?_ NB0_241.out _) | exact HI0.out)) (by (with_reducible repeat (first | apply Kd.R_alloc | apply Kd.R_drewN | apply Kd.R_drew)); exact HO247.out) (by decide)) hk (fun _ h => h.2)) (fun _ h => h.1))
          have n4_ := Aside0.mk (KeepBut.trans z2_12 hk (.inl rfl))
          have n5_ := Aside0.mk (hb)
          have n6_ := Aside0.mk (hi)
          clear HO_242000
          clear BK240
          clear BK241
          clear HO247
          clear HK
          clear HB
          clear HI0
          have HO_242000 := n0_
          have BK240 := n1_
          have BK241 := n2_
          have HO247 := n3_
          have HK := n4_
          have HB := n5_
          have HI0 := n6_
          clear n0_ n1_ n2_ n3_ n4_ n5_ n6_
          (try clear hb)
          (try clear hb2)
          (try clear hk)
          (try clear hi)
          obtain ⟨Ao16, co16, eo16⟩ := Kd.R_slice HO247.out
          (first | subst eo16 | (injection eo16 with f1_ f2_ f3_; have f4_ := f1_.symm; have f5_ := f3_.symm; clear f1_ f2_ f3_; subst f4_; subst f5_))
          refine hK.out _ _ ((blk_cell BK241.out 0).trans rfl) (fun hHeld => ?_)
          clear hK K
          refine norm_ (a' := ?_) ?_ ?_
          rotate_left
          · show Act.put _ (some 18) _ = _
            simp only [Act.put, List.setIfInBounds_toArray, List.set_cons_zero, List.set_cons_succ, i64_w, i32_w]
            rfl
          refine pure_ (i := 6) (N := some 19) (v := ?_) (a' := ?_) #[true, true, true, true, true, true, true, false, false, false, false] rfl rfl (any_of HT_.out z2_26) (fun _ _ _ h => h) (Or.inl ⟨by rfl, ?_⟩) ?_ ?_
          rotate_left
          · intro w'
            go_simp
            with_reducible rfl
          rotate_left
          · simp only [Act.put, List.setIfInBounds_toArray, List.set_cons_zero, List.set_cons_succ, i64_w, i32_w]
            rfl
          refine one_ (i := 7) (N := some 20) #[true, true, true, true, true, true, true, true, false, false, false] rfl rfl (one_of HT_.out z2_26) (by decide) (fun K hK => ?_)
          refine value_ (w1 := ?_) (v := ?_) (by rfl) rfl ?_ ?_
          rotate_left 2
          · go_simp
            constructor
            · rfl
            · rfl
          refine hK.out _ _ ((blk_cell (blk_alloc BK241.out _) 0).trans rfl) (fun hHeld => ?_)
          clear hK K
          refine norm_ (a' := ?_) ?_ ?_
          rotate_left
          · show Act.put _ (some 20) _ = _
            simp only [Act.put, List.setIfInBounds_toArray, List.set_cons_zero, List.set_cons_succ, i64_w, i32_w]
            rfl
          refine one_ (i := 8) (N := some 21) #[true, true, true, true, true, true, true, true, true, false, false] rfl rfl (one_of HT_.out z2_26) (by decide) (fun K hK => ?_)
          refine Kd.S_append_step k34 w.heap.size (by rfl) (.tmp 14) (.tmp 20) 24 34 (.agg #[(.slice none 0 0), (.int .i64 0), (.int .i64 0), (.int .i64 0)]) 48 rfl Try.underlying24 info34 rfl (by decide) (by omega) u242000 x242000_1 (⟨t245, (⟨t250, t251, t252⟩ : S32)⟩ : S34) [.slice Ao16 t245.length co16, .int .i64 t250, .int .i64 t251, .int .i64 t252] (fun _ => True) (fun k_ => some k_ = (.slice Ao16 t245.length co16 : Value).ownBlock) rfl rfl ?aP (fun k_ hk_ => ((Kd.R_mono (ok' := fun k_ => ((fun _ => True)) k_ ∧ some k_ ≠ (u242000 : Value).ownBlock) (Kd.R_apart' (HO247.out) (Kd.S_typed HO_242000.out) (by decide)) (fun k_ hk => ⟨trivial, hk.2⟩))).1 k_ hk_.symm) ?aF ?aO (Below.refl _ _) ?aS ?aL ?_
          (case aP => exact k34_mkM _ _ _ (⟨t245, (⟨t250, t251, t252⟩ : S32)⟩ : S34) (Kd.R_mono (Kd.R_tight rfl (Kd.R_mono (ok' := fun k_ => ((fun _ => True)) k_ ∧ some k_ ≠ (u242000 : Value).ownBlock) (Kd.R_apart' (HO247.out) (Kd.S_typed HO_242000.out) (by decide)) (fun k_ hk => ⟨trivial, hk.2⟩))) (fun _ h_ => h_)))
          (case aF => exact (fun _ _ => trivial))
          (case aO => exact (by (with_reducible repeat (first | apply Kd.S_alloc | apply Kd.S_drewN | apply Kd.S_drew)); exact Kd.S_mono HO_242000.out (fun k_ hk => ⟨trivial, fun e_ => hk.2 e_⟩)))
          (case aS => exact (keep_size (w := w) (g := g) (row := none) z2_12))
          (case aL => have := LMc11.out; omega)
          intro v256 w17 ho hb hg hat
          rw [← Ny255.out] at ho
          have n0_ := Aside0.mk (blk_grown (g := gb240) (o := .cells #[.slice none 0 0] 26 (0, 0)) z2_17 hg (Kd.S_ne HO_242000.out BK240.out (by decide)))
          have n1_ := Aside0.mk (blk_grown (g := gb241) (o := .cells #[u242000] 26 (0, 0)) z2_25 hg (Kd.S_ne HO_242000.out BK241.out (by decide)))
          have n2_ := Aside0.mk (IsS116.grown z2_14 hg (IsS116.own_neS HI0.out HO_242000.out (by decide)))
          have n3_ := Aside0.mk (below_weaken z2_15 HL.out hb)
          have n4_ := Aside0.mk (KeepBut.trans z2_12 (KeepBut.of_grown hg g) (Kd.S_base2 HO_242000.out))
          have n5_ := Aside0.mk (ho)
          clear BK240
          clear BK241
          clear HI0
          clear HB
          clear HK
          clear HO_242000
          clear HO247
          have BK240 := n0_
          have BK241 := n1_
          have HI0 := n2_
          have HB := n3_
          have HK := n4_
          have HO257 := n5_
          clear n0_ n1_ n2_ n3_ n4_ n5_
          clear ho hb hg hat
          obtain ⟨Ao18, co18, eo18⟩ := Kd.S_slice HO257.out
          (first | subst eo18 | (injection eo18 with f1_ f2_ f3_; have f4_ := f1_.symm; have f5_ := f3_.symm; clear f1_ f2_ f3_; subst f4_; subst f5_))
          refine hK.out _ _ ((blk_cell BK241.out 0).trans rfl) (fun hHeld => ?_)
          clear hK K
          refine norm_ (a' := ?_) ?_ ?_
          rotate_left
          · show Act.put _ (some 21) _ = _
            simp only [Act.put, List.setIfInBounds_toArray, List.set_cons_zero, List.set_cons_succ, i64_w, i32_w]
            rfl
          refine pure_ (i := 9) (N := some 22) (v := ?_) (a' := ?_) #[true, true, true, true, true, true, true, true, true, true, false] rfl rfl (any_of HT_.out z2_26) (fun _ _ _ h => h) (Or.inl ⟨by rfl, ?_⟩) ?_ ?_
          rotate_left
          · intro w'
            go_simp
            with_reducible rfl
          rotate_left
          · simp only [Act.put, List.setIfInBounds_toArray, List.set_cons_zero, List.set_cons_succ, i64_w, i32_w]
            rfl
          refine last_ (i := 10) (N := none) #[true, true, true, true, true, true, true, true, true, true, true] rfl rfl (one_of HT_.out z2_26) (by decide) (fun K hK => ?_)
          have hs19 : w17.cell? ⟨gb241, 0, none⟩ = some (u242000) := (blk_cell BK241.out 0).trans rfl
          have hfs19 := blk_frozen BK241.out 0
          have hns19_0 := NB240_241.out
          have hms19_0 := NB241_240.out
          refine skip_ (w1 := ?_) (by rfl) rfl ?_ ?_
          rotate_left
          · go_simp
            rfl
          refine hK.out _ _ ?_
          clear hK K
          refine done_ (done_of HT_.out z2_26) ?_
          try go_wp2
          go_roundg k1
          case measure => have := HK1.out; omega
          case rel => exact ⟨(wrap64 (x4_1 + 1)), (t253), (t254), (y255), (.slice Ao18 y255.length co18), z2_20, H', ⟨by have := HK1.out; omega⟩, ⟨by (with_reducible repeat (first | apply Kd.S_alloc | apply Kd.S_drewN | apply Kd.S_drew)); exact Kd.S_mono (Kd.S_far (p := ⟨gb241, 0, none⟩) (Kd.S_types HO257.out BK241.out (by decide)) (fun _ hk => hk.2) (.slice Ao18 y255.length co18)) (fun _ hk => trivial)⟩, ⟨by (with_reducible repeat (first | refine blk_drewN ?_ _ | refine blk_drew ?_ | refine blk_alloc ?_ _)); refine blk_far ?_ NB240_241.out _; (with_reducible repeat (first | refine blk_drewN ?_ _ | refine blk_drew ?_ | refine blk_alloc ?_ _)); exact BK240.out⟩, ⟨by (with_reducible repeat (first | refine blk_drewN ?_ _ | refine blk_drew ?_ | refine blk_alloc ?_ _)); refine blk_put (cs := #[u242000]) ?_ 0 _ rfl; (with_reducible repeat (first | refine blk_drewN ?_ _ | refine blk_drew ?_ | refine blk_alloc ?_ _)); exact BK241.out⟩, ⟨by repeat (first | (with_reducible first | exact HI0.out | apply IsS116.alloc | apply IsS116.drewN | apply IsS116.drew | apply IsS116.set_1 | apply IsS116.set_2 | refine IsS116.far ?_ NB0_240.out _ | refine IsS116.far ?_ NB0_241.out _) | exact HI0.out)⟩, ⟨by repeat (first | (with_reducible first | exact HK.out | apply KeepBut.set_ | apply keep_drewN | apply keep_drew | apply keep_alloc | refine keep_far ?_ GW240.out _ | refine keep_far ?_ GW241.out _) | exact HK.out)⟩, ⟨by repeat (first | (with_reducible first | exact HB.out | apply below_alloc | apply pw_below_drewN | apply below_drew1 | refine below_set ?_ (IsS116.ge HI0.out) | refine below_set ?_ GE240.out | refine below_set ?_ GE241.out) | exact HB.out)⟩⟩
        · rw [if_neg c11] at H
          exact absurd H (by simp)
      · rw [if_neg c8] at H
        have c8b0 : decide (x4_1 < (wrap64 (1 + t242))) = false := decide_eq_false c8
        clear c8
        simp only [Option.some.injEq, Prod.mk.injEq] at H
        obtain ⟨rfl, rfl, rfl⟩ := H
        go_wp2_with (first | ((first | ((with_reducible refine gate_callee (f := 68) rfl ?_); refine goesL_ (some 8) rfl rfl Try.func68 z2_26 rfl #[.pointer (some ⟨g, 0, none⟩), .int .i64 3] rfl z2_1 ?_; (with_reducible refine (spec_l01Below.calls g s0_0 x1001_1 x1002_1 3 t242 t243 t244 w0 _ ?side1 ?side2 A7.out).mono ?_)) | (go_at_call 68; (with_reducible refine (spec_l01Below.calls g s0_0 x1001_1 x1002_1 3 t242 t243 t244 w0 _ ?side1 ?side2 A7.out).mono ?_))); (case side1 => exact z2_14); (case side2 => exact z2_15); rintro e w20 ⟨rfl, hi, hb, hk⟩; (first | refine ⟨_, rfl, ?_⟩ | skip); have n0_ := Aside0.mk (Kd.S_mono (Kd.S_keep (IsS116.apartS (show IsS116 w0 _ g s0_0 x1001_1 x1002_1 from by repeat (first | (with_reducible first | exact HI0.out | apply IsS116.alloc | apply IsS116.drewN | apply IsS116.drew | apply IsS116.set_1 | apply IsS116.set_2 | refine IsS116.far ?_ NB0_240.out _ | refine IsS116.far ?_ NB0_241.out _) | exact HI0.out)) z2_32 (by decide)) hk (fun _ h => h.2)) (fun _ h => h.1)); have n1_ := Aside0.mk (KeepBut.blk hk (g' := gb240) (o := .cells #[.slice none 0 0] 26 (0, 0)) z2_17 NB240_0.out (by simp)); have n2_ := Aside0.mk (KeepBut.blk hk (g' := gb241) (o := .cells #[u242000] 26 (0, 0)) z2_25 NB241_0.out (by simp)); have n3_ := Aside0.mk (KeepBut.trans z2_12 hk (.inl rfl)); have n4_ := Aside0.mk (hb); have n5_ := Aside0.mk (hi); clear HO_242000; clear BK240; clear BK241; clear HK; clear HB; clear HI0; have HO_242000 := n0_; have BK240 := n1_; have BK241 := n2_; have HK := n3_; have HB := n4_; have HI0 := n5_; clear n0_ n1_ n2_ n3_ n4_ n5_; (try clear hb); (try clear hb2); (try clear hk); (try clear hi); have hnb21 := NB241_240.out; have hnc21 := NB240_241.out; have hnb22 := NB241_0.out; have hnc22 := NB0_241.out; have hcz23_0 : w20.cell? ⟨gb241, 0, none⟩ = some (u242000) := (blk_cell BK241.out 0).trans rfl; have hfz23_0 := blk_frozen BK241.out 0; obtain ⟨Ao24, co24, eo24⟩ := Kd.S_slice HO_242000.out; subst eo24; have hnb25 := NB240_0.out; have hnc25 := NB0_240.out; have hcz26_0 : w20.cell? ⟨gb240, 0, none⟩ = some (.slice none 0 0) := (blk_cell BK240.out 0).trans rfl; have hfz26_0 := blk_frozen BK240.out 0))
        refine bodyPost_ret (results_cell_row rfl _ _ gb240 26 #[.slice Ao24 x242000_1.length co24] (0, 0) _ rfl (by (with_reducible repeat (first | refine blk_drewN ?_ _ | refine blk_drew ?_ | refine blk_alloc ?_ _)); refine blk_put (cs := #[.slice none 0 0]) ?_ 0 _ rfl; (with_reducible repeat (first | refine blk_drewN ?_ _ | refine blk_drew ?_ | refine blk_alloc ?_ _)); exact BK240.out) Try.underlying26 rfl z2_26) rfl ?_
        exact ⟨_, by first | rfl | (simp [errW_none, errW_some] <;> rfl) | (simp [*, errW_none, errW_some] <;> rfl) | (simp [*, errW_none, errW_some, i64_w]; done), by (with_reducible repeat (first | apply Kd.S_alloc | apply Kd.S_drewN | apply Kd.S_drew)); exact Kd.S_mono (Kd.S_far (p := ⟨gb240, 0, none⟩) (Kd.S_types HO_242000.out BK240.out (by decide)) (fun _ hk => hk.2) (.slice Ao24 x242000_1.length co24)) (fun _ hk => trivial), by repeat (first | (with_reducible first | exact HI0.out | apply IsS116.alloc | apply IsS116.drewN | apply IsS116.drew | apply IsS116.set_1 | apply IsS116.set_2 | refine IsS116.far ?_ NB0_240.out _ | refine IsS116.far ?_ NB0_241.out _) | exact HI0.out), by repeat (first | (with_reducible first | exact HB.out | apply below_alloc | apply pw_below_drewN | apply below_drew1 | refine below_set ?_ (IsS116.ge HI0.out) | refine below_set ?_ GE240.out | refine below_set ?_ GE241.out) | exact HB.out), by repeat (first | (with_reducible first | exact HK.out | apply KeepBut.set_ | apply keep_drewN | apply keep_drew | apply keep_alloc | refine keep_far ?_ GW240.out _ | refine keep_far ?_ GW241.out _) | exact HK.out)⟩

/-! ### spec_l01New: function 52 -/
def spec_l01New.l0 : Nat → List Int → Int → Int → Option (List Int × Int × Int)
  | 0, _, _, _ => none
  | k + 1, x0, x3, x4 => if x4 < (x0.length : Int) then (if x4 < 4000 then (if 0 ≤ x4 then (spec_l01New.l0 k x0 (Go.bits .and .i64 (wrap64 ((wrap64 ((wrap64 (x3 * 131)) + (wrap64 (rd x0 x4)))) + 7)) 1073741823) (wrap64 (x4 + 1))) else (none)) else (some (x0, 0, x3))) else (some (x0, 0, x3))
def spec_l01New.f (k : Nat) (l0 : List Int) : Option (List Int × Int × Int) := spec_l01New.l0 k l0 (wrap64 (98347 + (l0.length : Int))) 0
theorem spec_l01New.mono_l : ∀ k, (∀ y0 y1 y2, LeO (spec_l01New.l0 k y0 y1 y2) (spec_l01New.l0 (k + 1) y0 y1 y2))
  | 0 => fun _ _ _ r h => by simp [spec_l01New.l0] at h
  | k + 1 => by
    have ih0 := spec_l01New.mono_l k
    · intro y0 y1 y2
      unfold spec_l01New.l0
      repeat' first
      | (with_reducible exact ih0 _ _ _)
      | (with_reducible exact LeO.refl _)
      | (with_reducible exact LeO.none _)
      | (with_reducible refine LeO.ite ?_ ?_)
      | (with_reducible refine LeO.bind ?_ (fun _ => ?_))
      | exact ih0 _ _ _
      | exact LeO.none _
      | refine LeO.ite ?_ ?_
      | refine LeO.bind ?_ (fun _ => ?_)
theorem spec_l01New.mono : ∀ a0 k, LeO (spec_l01New.f k a0) (spec_l01New.f (k + 1) a0) := by
  intro a0 k
  have ih0 := spec_l01New.mono_l k
  unfold spec_l01New.f
  repeat' first
      | (with_reducible exact ih0 _ _ _)
      | (with_reducible exact LeO.refl _)
      | (with_reducible exact LeO.none _)
      | (with_reducible refine LeO.ite ?_ ?_)
      | (with_reducible refine LeO.bind ?_ (fun _ => ?_))
      | exact ih0 _ _ _
      | exact LeO.none _
      | refine LeO.ite ?_ ?_
      | refine LeO.bind ?_ (fun _ => ?_)
set_option maxHeartbeats 8000000 in
set_option maxRecDepth 100000 in
theorem spec_l01New.calls (k : Nat) (A0 : Option Addr) (c0 : Nat) (l0 : List Int) (r1 : List Int) (r2 : Int) (r3 : Int) (w0 w : World) (hB : Below w0.heap.size w0 w) (hr0 : Kd.C (Kd.int .u8) w0 A0 l0.length l0) (hc0 : l0.length ≤ c0) (h : spec_l01New.f k l0 = some (r1, r2, r3)) :
    Calls Try.prog 52 #[.slice A0 l0.length c0] w fun e w' => ∃ g_ : Nat, e = .returned (.pointer (some ⟨g_, 0, none⟩)) ∧ IsS116 w0 w' g_ r1 r2 r3 ∧ Below w0.heap.size w0 w' ∧ Below w.heap.size w w' := by
  have hu116 := Try.underlying116
  have HR0 := Aside0.mk hr0
  have HC0 := Aside0.mk hc0
  clear hr0 hc0
  have HBW := Aside0.mk (Below.refl w.heap.size w)
  have HW0 := Aside0.mk hB.size
  have HB := Aside0.mk hB
  clear hB
  have H : (spec_l01New.l0 k l0 (wrap64 (98347 + (l0.length : Int))) 0) = some (r1, r2, r3) := h
  clear h
  have H' := Aside0.mk H
  clear H
  go_enter Try.func52, Try.ntmps52
  go_wp2
  go_loopg [3, 4] k (fun kq v3 v4 w' => ∃ (x3_1 : Int) (x4_1 : Int), v3 = .int .i64 x3_1 ∧ v4 = .int .i64 x4_1 ∧ Aside0 (spec_l01New.l0 kq l0 x3_1 x4_1 = some (r1, r2, r3)) ∧ Aside0 (kq ≤ k) ∧ Aside0 (Below w0.heap.size w0 w') ∧ Aside0 (Below w.heap.size w w'))
  case atStart => exact ⟨(wrap64 (98347 + (l0.length : Int))), (0), z2_20, z2_20, H', ⟨Nat.le_refl _⟩, ⟨by repeat (first | (with_reducible first | exact HB.out | apply below_alloc | apply pw_below_drewN | apply below_drew1) | exact HB.out)⟩, ⟨by repeat (first | (with_reducible first | exact HBW.out | apply below_alloc | apply pw_below_drewN | apply below_drew1) | exact HBW.out)⟩⟩
  case round =>
    clear H'
    obtain ⟨x3_1, x4_1, rfl, rfl, HA, HK1, HB, HBW⟩ := hrel
    cases gk with
    | zero => exact absurd HA.out (by simp [spec_l01New.l0])
    | succ k1 =>
      have H := HA.out
      clear HA
      simp only [spec_l01New.l0] at H
      by_cases c2 : x4_1 < (l0.length : Int)
      · rw [if_pos c2] at H
        have c2b0 : decide (x4_1 < (l0.length : Int)) = true := decide_eq_true c2
        clear c2
        by_cases c3 : x4_1 < 4000
        · rw [if_pos c3] at H
          have c3b0 : decide (x4_1 < 4000) = true := decide_eq_true c3
          clear c3
          by_cases c4 : 0 ≤ x4_1
          · rw [if_pos c4] at H
            have c4b0 : decide (0 ≤ x4_1) = true := decide_eq_true c4
            clear c4
            have H' := Aside0.mk H
            clear H
            have p258 : 0 ≤ (x4_1 : Int) := of_decide_eq_true z2_35
            have q258 : x4_1 < (l0.length : Int) := of_decide_eq_true z2_35
            obtain ⟨ad258, e258, hx258_0⟩ := Kd.at_int HR0.out x4_1 p258 q258
            cases e258
            replace hx258_0 := pw_cell_below HB.out hx258_0
            replace p258 := eq_true p258
            replace q258 := eq_true q258
            go_wp2
            go_roundg k1
            case measure => have := HK1.out; omega
            case rel => exact ⟨(Go.bits .and .i64 (wrap64 ((wrap64 ((wrap64 (x3_1 * 131)) + (wrap64 (rd l0 x4_1)))) + 7)) 1073741823), (wrap64 (x4_1 + 1)), z2_20, z2_20, H', ⟨by have := HK1.out; omega⟩, ⟨by repeat (first | (with_reducible first | exact HB.out | apply below_alloc | apply pw_below_drewN | apply below_drew1) | exact HB.out)⟩, ⟨by repeat (first | (with_reducible first | exact HBW.out | apply below_alloc | apply pw_below_drewN | apply below_drew1) | exact HBW.out)⟩⟩
          · rw [if_neg c4] at H
            exact absurd H (by simp)
        · rw [if_neg c3] at H
          have c3b0 : decide (x4_1 < 4000) = false := decide_eq_false c3
          clear c3
          simp only [Option.some.injEq, Prod.mk.injEq] at H
          obtain ⟨rfl, rfl, rfl⟩ := H
          go_wp2_with (first | ((with_reducible refine gate_dst (N := 31) rfl ?_); refine box_event ?hg (N := 31) ?hd (cs := #[.slice A0 l0.length c0, .int .i64 0, .int .i64 x3_1]) (t := 116) ?hr ?_; (case hd => rfl); (case hg => rfl); (case hr => exact z2_19); intro gb259 hg w5 hbox hb; have n0_ := Aside0.mk (below_step HBW.out hb); have n1_ := Aside0.mk (below_step z2_21 hb); have n2_ := Aside0.mk (hbox); have n3_ := Aside0.mk ((z2_24 : w.heap.size ≤ gb259)); have n4_ := Aside0.mk ((Nat.le_trans HW0.out (z2_24 : w.heap.size ≤ gb259) : w0.heap.size ≤ gb259)); clear HBW; clear HB; have HBW := n0_; have HB := n1_; have BK259 := n2_; have GW259 := n3_; have GE259 := n4_; clear n0_ n1_ n2_ n3_ n4_; clear hb hbox hg))
          go_ret
          exact ⟨_, rfl, (show IsS116 w0 _ gb259 l0 0 x3_1 from ⟨_, _, by (with_reducible repeat (first | refine blk_drewN ?_ _ | refine blk_drew ?_ | refine blk_alloc ?_ _)); exact BK259.out, GE259.out, HR0.out⟩), by repeat (first | (with_reducible first | exact HB.out | apply below_alloc | apply pw_below_drewN | apply below_drew1 | refine below_set ?_ GE259.out) | exact HB.out), by repeat (first | (with_reducible first | exact HBW.out | apply below_alloc | apply pw_below_drewN | apply below_drew1 | refine below_set ?_ GW259.out) | exact HBW.out)⟩
      · rw [if_neg c2] at H
        have c2b0 : decide (x4_1 < (l0.length : Int)) = false := decide_eq_false c2
        clear c2
        simp only [Option.some.injEq, Prod.mk.injEq] at H
        obtain ⟨rfl, rfl, rfl⟩ := H
        go_wp2_with (first | ((with_reducible refine gate_dst (N := 31) rfl ?_); refine box_event ?hg (N := 31) ?hd (cs := #[.slice A0 l0.length c0, .int .i64 0, .int .i64 x3_1]) (t := 116) ?hr ?_; (case hd => rfl); (case hg => rfl); (case hr => exact z2_19); intro gb260 hg w6 hbox hb; have n0_ := Aside0.mk (below_step HBW.out hb); have n1_ := Aside0.mk (below_step z2_21 hb); have n2_ := Aside0.mk (hbox); have n3_ := Aside0.mk ((z2_24 : w.heap.size ≤ gb260)); have n4_ := Aside0.mk ((Nat.le_trans HW0.out (z2_24 : w.heap.size ≤ gb260) : w0.heap.size ≤ gb260)); clear HBW; clear HB; have HBW := n0_; have HB := n1_; have BK260 := n2_; have GW260 := n3_; have GE260 := n4_; clear n0_ n1_ n2_ n3_ n4_; clear hb hbox hg))
        go_ret
        exact ⟨_, rfl, (show IsS116 w0 _ gb260 l0 0 x3_1 from ⟨_, _, by (with_reducible repeat (first | refine blk_drewN ?_ _ | refine blk_drew ?_ | refine blk_alloc ?_ _)); exact BK260.out, GE260.out, HR0.out⟩), by repeat (first | (with_reducible first | exact HB.out | apply below_alloc | apply pw_below_drewN | apply below_drew1 | refine below_set ?_ GE260.out) | exact HB.out), by repeat (first | (with_reducible first | exact HBW.out | apply below_alloc | apply pw_below_drewN | apply below_drew1 | refine below_set ?_ GW260.out) | exact HBW.out)⟩

/-! ### spec_DrawProgram: function 14 -/
def spec_DrawProgram.f (k : Nat) (l0 : List Int) : Option ((List (S34))) := (spec_l01New.f k l0).bind fun bt262 => ((spec_l06Program.f k bt262.1 bt262.2.1 bt262.2.2).bind fun bt266 => (some bt266.1))
theorem spec_DrawProgram.mono : ∀ a0 k, LeO (spec_DrawProgram.f k a0) (spec_DrawProgram.f (k + 1) a0) := by
  intro a0 k
  unfold spec_DrawProgram.f
  repeat' first
      | (with_reducible exact spec_l01New.mono _ _)
      | (with_reducible exact spec_l06Program.mono _ _ _ _)
      | (with_reducible exact LeO.refl _)
      | (with_reducible exact LeO.none _)
      | (with_reducible refine LeO.ite ?_ ?_)
      | (with_reducible refine LeO.bind ?_ (fun _ => ?_))
      | exact spec_l01New.mono _ _
      | exact spec_l06Program.mono _ _ _ _
      | exact LeO.none _
      | refine LeO.ite ?_ ?_
      | refine LeO.bind ?_ (fun _ => ?_)
set_option maxHeartbeats 8000000 in
set_option maxRecDepth 100000 in
theorem spec_DrawProgram.calls (k : Nat) (A0 : Option Addr) (c0 : Nat) (l0 : List Int) (r : List (S34)) (w : World) (hr0 : Kd.C (Kd.int .u8) w A0 l0.length l0) (hc0 : l0.length ≤ c0) (h : spec_DrawProgram.f k l0 = some r) :
    Calls Try.prog 14 #[.slice A0 l0.length c0] w fun e w' => ∃ v0_ : Value, e = .returned (.agg #[v0_]) ∧ Kd.S k34 34 w' w.heap.size (fun _ => True) v0_ r ∧ Below w.heap.size w w' := by
  have hu26 := Try.underlying26
  have HR0 := Aside0.mk hr0
  have HC0 := Aside0.mk hc0
  clear hr0 hc0
  have HB := Aside0.mk (Below.refl w.heap.size w)
  have H : ((spec_l01New.f k l0).bind fun bt262 => ((spec_l06Program.f k bt262.1 bt262.2.1 bt262.2.2).bind fun bt266 => (some bt266.1))) = some r := h
  clear h
  replace H := Option.bind_eq_some_iff.mp H
  obtain ⟨⟨t262, t263, t264⟩, A20, H⟩ := H
  replace H : ((spec_l06Program.f k t262 t263 t264).bind fun bt266 => (some bt266.1)) = some r := H
  have A2 := Aside0.mk A20
  clear A20
  replace H := Option.bind_eq_some_iff.mp H
  obtain ⟨⟨t266, t269, t270⟩, A30, H⟩ := H
  replace H : (some t266) = some r := H
  have A3 := Aside0.mk A30
  clear A30
  obtain rfl := Option.some.inj H
  go_enter Try.func14, Try.ntmps14
  go_wp2_with (first | ((with_reducible refine gate_dst (N := 2) rfl ?_); refine box_event ?hg (N := 2) ?hd (cs := #[.slice none 0 0]) (t := 26) ?hr ?_; (case hd => rfl); (case hg => rfl); (case hr => exact z2_19); intro gb261 hg w4 hbox hb; have n0_ := Aside0.mk (below_step z2_21 hb); have n1_ := Aside0.mk (hbox); have n2_ := Aside0.mk ((by rw [hg]; exact (below_size z2_21) : w.heap.size ≤ gb261)); have n3_ := Aside0.mk ((by rw [hg]; exact (below_size z2_21) : w.heap.size ≤ gb261)); clear HB; have HB := n0_; have BK261 := n1_; have GW261 := n2_; have GE261 := n3_; clear n0_ n1_ n2_ n3_; clear hb hbox hg) | ((first | ((with_reducible refine gate_callee (f := 52) rfl ?_); refine goesL_ (some 4) rfl rfl Try.func52 z2_26 rfl #[.slice A0 l0.length c0] rfl z2_1 ?_; (with_reducible refine (spec_l01New.calls k _ _ l0 t262 t263 t264 w _ ?side1 ?side2 ?side3 A2.out).mono ?_)) | (go_at_call 52; (with_reducible refine (spec_l01New.calls k _ _ l0 t262 t263 t264 w _ ?side1 ?side2 ?side3 A2.out).mono ?_))); (case side1 => repeat (first | (with_reducible first | exact HB.out | apply below_alloc | apply pw_below_drewN | apply below_drew1 | refine below_set ?_ GE261.out) | exact HB.out)); (case side2 => exact HR0.out); (case side3 => exact HC0.out); rintro e w5 ⟨g265, rfl, hi, hb, hb2⟩; (first | refine ⟨_, rfl, ?_⟩ | skip); have n0_ := Aside0.mk (blk_below (g := gb261) (o := .cells #[.slice none 0 0] 26 (0, 0)) z2_31 hb2); have n1_ := Aside0.mk (hb); have n2_ := Aside0.mk (hi); have n3_ := Aside0.mk (IsS116.ne_blk hi (blk_below (g := gb261) (o := .cells #[.slice none 0 0] 26 (0, 0)) z2_31 hb2) (by decide)); have n4_ := Aside0.mk (Ne.symm (IsS116.ne_blk hi (blk_below (g := gb261) (o := .cells #[.slice none 0 0] 26 (0, 0)) z2_31 hb2) (by decide))); clear BK261; clear HB; have BK261 := n0_; have HB := n1_; have HI265 := n2_; have NB265_261 := n3_; have NB261_265 := n4_; clear n0_ n1_ n2_ n3_ n4_; (try clear hb); (try clear hb2); (try clear hk); (try clear hi)) | ((first | ((with_reducible refine gate_callee (f := 51) rfl ?_); refine goesL_ (some 5) rfl rfl Try.func51 z2_26 rfl #[.pointer (some ⟨g265, 0, none⟩)] rfl z2_1 ?_; (with_reducible refine (spec_l06Program.calls k g265 t262 t263 t264 t266 t269 t270 w _ ?side1 ?side2 A3.out).mono ?_)) | (go_at_call 51; (with_reducible refine (spec_l06Program.calls k g265 t262 t263 t264 t266 t269 t270 w _ ?side1 ?side2 A3.out).mono ?_))); (case side1 => repeat (first | (with_reducible first | exact HI265.out | apply IsS116.alloc | apply IsS116.drewN | apply IsS116.drew | apply IsS116.set_1 | apply IsS116.set_2 | refine IsS116.far ?_ NB265_261.out _) | exact HI265.out)); (case side2 => exact z2_37); rintro e w6 ⟨v267, rfl, ho0, hi, hb, hk⟩; (first | refine ⟨_, rfl, ?_⟩ | skip); have n0_ := Aside0.mk (KeepBut.blk hk (g' := gb261) (o := .cells #[.slice none 0 0] 26 (0, 0)) z2_31 NB261_265.out (by simp)); have n1_ := Aside0.mk (Kd.S_lower ho0 (below_size z2_37)); have n2_ := Aside0.mk (hb); have n3_ := Aside0.mk (hi); clear BK261; clear HB; clear HI265; have BK261 := n0_; have HO268 := n1_; have HB := n2_; have HI265 := n3_; clear n0_ n1_ n2_ n3_; (try clear hb); (try clear hb2); (try clear hk); (try clear hi); (try clear ho0); obtain ⟨Ao7, co7, eo7⟩ := Kd.S_slice HO268.out; subst eo7; have hnb8 := NB261_265.out; have hnc8 := NB265_261.out; have hcz9_0 : w6.cell? ⟨gb261, 0, none⟩ = some (.slice none 0 0) := (blk_cell BK261.out 0).trans rfl; have hfz9_0 := blk_frozen BK261.out 0))
  refine bodyPost_ret (results_cell_row rfl _ _ gb261 26 #[.slice Ao7 t266.length co7] (0, 0) _ rfl (by (with_reducible repeat (first | refine blk_drewN ?_ _ | refine blk_drew ?_ | refine blk_alloc ?_ _)); refine blk_put (cs := #[.slice none 0 0]) ?_ 0 _ rfl; (with_reducible repeat (first | refine blk_drewN ?_ _ | refine blk_drew ?_ | refine blk_alloc ?_ _)); exact BK261.out) Try.underlying26 rfl z2_26) rfl ?_
  exact ⟨_, by first | rfl | (simp [errW_none, errW_some] <;> rfl) | (simp [*, errW_none, errW_some] <;> rfl) | (simp [*, errW_none, errW_some, i64_w]; done), by (with_reducible repeat (first | apply Kd.S_alloc | apply Kd.S_drewN | apply Kd.S_drew)); exact Kd.S_mono (Kd.S_far (p := ⟨gb261, 0, none⟩) (Kd.S_types HO268.out BK261.out (by decide)) (fun _ hk => hk.2) (.slice Ao7 t266.length co7)) (fun _ hk => trivial), by repeat (first | (with_reducible first | exact HB.out | apply below_alloc | apply pw_below_drewN | apply below_drew1 | refine below_set ?_ (IsS116.ge HI265.out) | refine below_set ?_ GE261.out) | exact HB.out)⟩

end Go.Proofs.Ytakhaknglhgimaa.G
