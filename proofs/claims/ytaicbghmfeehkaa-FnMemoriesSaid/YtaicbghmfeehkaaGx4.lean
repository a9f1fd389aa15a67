/- Functions of the program as plain Lean functions, and that each call comes to its function's answer; written by a program of the session. No condition. -/
import Derived.Test.YtaicbghmfeehkaaGx0
import Derived.Test.YtaicbghmfeehkaaGx3
namespace Go.Proofs.Ytaicbghmfeehkaa.G
open Go.RowKit Go.Proofs.YtaicbghmfeehkaaW.PrintWords Go.Proofs.YtaicbghmfeehkaaW.PrintLast Go.Proofs.YtaicbghmfeehkaaW.PrintMore
attribute [local go_sem] max2_int min2_int max_two min_two max_three min_three max_four min_four   -- for this text's walks alone
set_option linter.unusedVariables false
set_option linter.unusedSimpArgs false

theorem z4_0 {P : Prop} (h : P := by repeat (first | (with_reducible first | exact HK.out | apply KeepBut.set_ | apply keep_drewN | apply keep_drew | apply keep_alloc) | exact HK.out)) : P := h
theorem z4_1 {P : Prop} (h : P := by (try simp only [List.map_toArray, List.map_cons, List.map_nil]); first | done | rfl | (simp only [List.length_drop, List.length_take]; rfl)) : P := h
theorem z4_2 {P : Prop} (h : P := by repeat (first | (with_reducible first | exact HK.out | apply KeepBut.set_ | apply keep_drewN | apply keep_drew | apply keep_alloc | refine keep_far ?_ GW232.out _) | exact HK.out)) : P := h
theorem z4_3 {P : Prop} (h : P := by repeat (first | (with_reducible first | exact HI0.out | apply IsS111.alloc | apply IsS111.drewN | apply IsS111.drew | apply IsS111.set_1 | apply IsS111.set_2 | refine IsS111.far ?_ NB0_232.out _) | exact HI0.out)) : P := h
theorem z4_4 {P : Prop} (h : P := by repeat (first | (with_reducible first | exact HB.out | apply below_alloc | apply pw_below_drewN | apply below_drew1 | refine below_set ?_ (IsS111.ge HI0.out) | refine below_set ?_ GE232.out) | exact HB.out)) : P := h
theorem z4_5 {P : Prop} (h : P := by repeat (first | (with_reducible first | exact HI0.out | apply IsS111.alloc | apply IsS111.drewN | apply IsS111.drew | apply IsS111.set_1 | apply IsS111.set_2) | exact HI0.out)) : P := h
theorem z4_6 {P : Prop} (h : P := by repeat (first | (with_reducible first | exact HB.out | apply below_alloc | apply pw_below_drewN | apply below_drew1 | refine below_set ?_ (IsS111.ge HI0.out)) | exact HB.out)) : P := h
theorem z4_7 {P : Prop} (h : P := by (with_reducible repeat (first | refine blk_drewN ?_ _ | refine blk_drew ?_ | refine blk_alloc ?_ _)); exact BK232.out) : P := h
theorem z4_8 {P : Prop} (h : P := by repeat (first | (with_reducible first | exact HI0.out | apply IsS111.alloc | apply IsS111.drewN | apply IsS111.drew | apply IsS111.set_1 | apply IsS111.set_2 | refine IsS111.far ?_ NB0_200.out _) | exact HI0.out)) : P := h
theorem z4_9 {P : Prop} (h : P := by repeat (first | (with_reducible first | exact HB.out | apply below_alloc | apply pw_below_drewN | apply below_drew1 | refine below_set ?_ (IsS111.ge HI0.out) | refine below_set ?_ GE200.out) | exact HB.out)) : P := h
theorem z4_10 {P : Prop} (h : P := by rw [hw]; exact (by (with_reducible repeat (first | refine blk_drewN ?_ _ | refine blk_drew ?_ | refine blk_alloc ?_ _)); refine blk_put (cs := #[.int .i64 5, .int .i64 0, .int .i64 (wrap64 (1 + t229)), .int .i64 0, .int .i64 0, .int .i64 0]) ?_ 5 _ rfl; (with_reducible repeat (first | refine blk_drewN ?_ _ | refine blk_drew ?_ | refine blk_alloc ?_ _)); refine blk_put (cs := #[.int .i64 5, .int .i64 0, .int .i64 (wrap64 (1 + t229)), .int .i64 0, .int .i64 0, .int .i64 0]) ?_ 4 _ rfl; (with_reducible repeat (first | refine blk_drewN ?_ _ | refine blk_drew ?_ | refine blk_alloc ?_ _)); refine blk_put (cs := #[.int .i64 5, .int .i64 0, .int .i64 (wrap64 (1 + t229)), .int .i64 0, .int .i64 0, .int .i64 0]) ?_ 3 _ rfl; (with_reducible repeat (first | refine blk_drewN ?_ _ | refine blk_drew ?_ | refine blk_alloc ?_ _)); refine blk_put (cs := #[.int .i64 5, .int .i64 0, .int .i64 0, .int .i64 0, .int .i64 0, .int .i64 0]) ?_ 2 _ rfl; (with_reducible repeat (first | refine blk_drewN ?_ _ | refine blk_drew ?_ | refine blk_alloc ?_ _)); refine blk_put (cs := #[.int .i64 5, .int .i64 0, .int .i64 0, .int .i64 0, .int .i64 0, .int .i64 0]) ?_ 1 _ rfl; (with_reducible repeat (first | refine blk_drewN ?_ _ | refine blk_drew ?_ | refine blk_alloc ?_ _)); refine blk_put (cs := #[.int .i64 0, .int .i64 0, .int .i64 0, .int .i64 0, .int .i64 0, .int .i64 0]) ?_ 0 _ rfl; (with_reducible repeat (first | refine blk_drewN ?_ _ | refine blk_drew ?_ | refine blk_alloc ?_ _)); exact BK232.out)) : P := h
theorem z4_11 {P : Prop} (h : P := by repeat (first | (with_reducible first | exact HB.out | apply below_alloc | apply pw_below_drewN | apply below_drew1) | exact HB.out)) : P := h
theorem z4_12 {P : Prop} (h : P := by repeat (first | (with_reducible first | exact HK.out | apply KeepBut.set_ | apply keep_drewN | apply keep_drew | apply keep_alloc | refine keep_far ?_ GW200.out _) | exact HK.out)) : P := h
theorem z4_13 {P : Prop} (h : P := by repeat (first | (with_reducible first | exact HK.out | apply KeepBut.set_ | apply keep_drewN | apply keep_drew | apply keep_alloc | refine keep_far ?_ GW294.out _ | refine keep_far ?_ GW295.out _) | exact HK.out)) : P := h
theorem z4_14 {P : Prop} (h : P := by (with_reducible repeat (first | apply Kd.R_alloc | apply Kd.R_drewN | apply Kd.R_drew)); exact HO_7.out) : P := h
theorem z4_15 {P : Prop} (h : P := by repeat (first | (with_reducible first | exact HI0.out | apply IsS111.alloc | apply IsS111.drewN | apply IsS111.drew | apply IsS111.set_1 | apply IsS111.set_2 | refine IsS111.far ?_ NB0_294.out _ | refine IsS111.far ?_ NB0_295.out _) | exact HI0.out)) : P := h
theorem z4_16 {P : Prop} (h : P := by repeat (first | (with_reducible first | exact HB.out | apply below_alloc | apply pw_below_drewN | apply below_drew1 | refine below_set ?_ (IsS111.ge HI0.out) | refine below_set ?_ GE294.out | refine below_set ?_ GE295.out) | exact HB.out)) : P := h
theorem z4_17 {P : Prop} (h : P := by (with_reducible repeat (first | refine blk_drewN ?_ _ | refine blk_drew ?_ | refine blk_alloc ?_ _)); exact BK200.out) : P := h
theorem z4_18 {P : Prop} (h : P := by (with_reducible repeat (first | refine blk_drewN ?_ _ | refine blk_drew ?_ | refine blk_alloc ?_ _)); exact BK294.out) : P := h
theorem z4_19 {P : Prop} (h : P := by rw [hw]; exact (by (with_reducible repeat (first | apply Kd.R_alloc | apply Kd.R_drewN | apply Kd.R_drew)); exact Kd.R_mono (Kd.R_far (p := ⟨gb232, 5, none⟩) (Kd.R_far (p := ⟨gb232, 4, none⟩) (Kd.R_far (p := ⟨gb232, 3, none⟩) (Kd.R_far (p := ⟨gb232, 2, none⟩) (Kd.R_far (p := ⟨gb232, 1, none⟩) (Kd.R_far (p := ⟨gb232, 0, none⟩) (Kd.R_mono HO_7.out (fun k_ hk => (⟨hk, hk.2⟩ : _ ∧ k_ ≠ gb232))) (fun _ hk => hk.2) (.int .i64 5)) (fun _ hk => hk.2) (.int .i64 0)) (fun _ hk => hk.2) (.int .i64 (wrap64 (1 + t229)))) (fun _ hk => hk.2) (.int .i64 0)) (fun _ hk => hk.2) (.int .i64 0)) (fun _ hk => hk.2) (.int .i64 0)) (fun _ hk => hk.1.2))) : P := h
theorem z4_20 {P : Prop} (h : P := by first | rfl | (simp; done) | (simp [*]; done)) : P := h
theorem z4_21 {P : Prop} (h : P := by first | (go_simp; done) | (go_simp; rfl)) : P := h
theorem z4_22 {P : Prop} (h : P := by (with_reducible repeat (first | refine blk_drewN ?_ _ | refine blk_drew ?_ | refine blk_alloc ?_ _)); exact BK295.out) : P := h
theorem z4_23 {P : Prop} (h : P := by repeat (first | exact HR0.out | (with_reducible refine Kd.C_alloc ?_ _) | (with_reducible refine Kd.C_drewN ?_ _) | (with_reducible refine Kd.C_drew ?_))) : P := h
theorem z4_24 {P : Prop} (h : P := by first | (with_reducible assumption) | assumption) : P := h
theorem z4_25 {P : Prop} (h : P := by kernel_rfl) : P := h
theorem z4_26 {P : Prop} (h : P := by repeat (first | (with_reducible first | exact HK.out | apply KeepBut.set_ | apply keep_drewN | apply keep_drew | apply keep_alloc | refine keep_far ?_ GW294.out _) | exact HK.out)) : P := h
theorem z4_27 {P : Prop} (h : P := by (with_reducible repeat (first | refine blk_drewN ?_ _ | refine blk_drew ?_ | refine blk_alloc ?_ _)); exact BK312.out) : P := h
theorem z4_28 {P : Prop} (h : P := by (with_reducible repeat (first | apply Kd.S_alloc | apply Kd.S_drewN | apply Kd.S_drew)); exact HO_296000.out) : P := h
theorem z4_29 {P : Prop} (h : P := by (with_reducible repeat (first | apply Kd.R_alloc | apply Kd.R_drewN | apply Kd.R_drew)); exact HO_3.out) : P := h
theorem z4_30 {P : Prop} (h : P := by rw [hg]; exact Nat.ne_of_lt (IsS111.lt (show IsS111 w0 _ g s0_0 t230 t231 from by repeat (first | (with_reducible first | exact HI0.out | apply IsS111.alloc | apply IsS111.drewN | apply IsS111.drew | apply IsS111.set_1 | apply IsS111.set_2) | exact HI0.out)))) : P := h
theorem z4_31 {P : Prop} (h : P := by rw [hg]; exact Nat.ne_of_lt (IsS111.lt (show IsS111 w0 _ g s0_0 s0_1 s0_2 from by repeat (first | (with_reducible first | exact HI0.out | apply IsS111.alloc | apply IsS111.drewN | apply IsS111.drew | apply IsS111.set_1 | apply IsS111.set_2) | exact HI0.out)))) : P := h
theorem z4_32 {P : Prop} (h : P := by rw [hg]; exact Nat.ne_of_gt (IsS111.lt (show IsS111 w0 _ g s0_0 t230 t231 from by repeat (first | (with_reducible first | exact HI0.out | apply IsS111.alloc | apply IsS111.drewN | apply IsS111.drew | apply IsS111.set_1 | apply IsS111.set_2) | exact HI0.out)))) : P := h
theorem z4_33 {P : Prop} (h : P := by rw [hg]; exact Nat.ne_of_gt (IsS111.lt (show IsS111 w0 _ g s0_0 s0_1 s0_2 from by repeat (first | (with_reducible first | exact HI0.out | apply IsS111.alloc | apply IsS111.drewN | apply IsS111.drew | apply IsS111.set_1 | apply IsS111.set_2) | exact HI0.out)))) : P := h
theorem z4_34 {P : Prop} (h : P := by decide) : P := h
theorem z4_35 {P : Prop} (h : P := by repeat (first | (with_reducible first | exact HB.out | apply below_alloc | apply pw_below_drewN | apply below_drew1 | refine below_set ?_ (IsS111.ge HI316.out) | refine below_set ?_ GE312.out) | exact HB.out)) : P := h
theorem z4_36 {P : Prop} (h : P := by rw [hg]; exact (keep_size (w := w) (g := g) (row := none) z4_0)) : P := h
theorem z4_37 {P : Prop} (h : P := by exact (fun k_ hk => ⟨Kd.fresh' (Kd.R_lt (by (with_reducible repeat (first | apply Kd.R_alloc | apply Kd.R_drewN | apply Kd.R_drew)); exact HO266.out)) k_ hk, Kd.freshB (g := gb232) (o := .cells #[.int .i64 5, .int .i64 0, .int .i64 (wrap64 (1 + t229)), .int .i64 0, .int .i64 0, .int .i64 0] 119 (0, 0)) z4_7 k_ hk⟩)) : P := h
theorem z4_38 {P : Prop} (h : P := by exact (fun k_ hk => ⟨Kd.fresh' (Kd.R_lt (by (with_reducible repeat (first | apply Kd.R_alloc | apply Kd.R_drewN | apply Kd.R_drew)); exact HO249.out)) k_ hk, Kd.freshB (g := gb232) (o := .cells #[.int .i64 4, .int .i64 0, .int .i64 0, .int .i64 t236, .int .i64 t237, .int .i64 t238] 119 (0, 0)) z4_7 k_ hk⟩)) : P := h
theorem z4_39 {P : Prop} (h : P := by exact (keep_size (w := w) (g := g) (row := none) z4_2)) : P := h
/-! ### spec_l04Stmt: function 134 -/
def spec_l04Stmt.j0 : Nat → Int → Bool → List Int → Int → Int → Option (Int × Int × Int × Int × Int × Int × Int × Int)
  | 0, _, _, _, _, _ => none
  | k + 1, x4, x5, x1000, x1001, x1002 => if x5 = true then ((spec_l01Below.f x1000 x1001 x1002 5).bind fun bt204 => ((spec_l01Below.f x1000 bt204.2.1 bt204.2.2 4).bind fun bt207 => (some (2, bt204.1, bt207.1, 0, 0, 0, bt207.2.1, bt207.2.2)))) else (if x4 = 2 then ((spec_l03Expr.f x1000 x1001 x1002).bind fun bt210 => (some (3, 0, 0, bt210.1, bt210.2.1, bt210.2.2.1, bt210.2.2.2.1, bt210.2.2.2.2))) else ((spec_l01Below.f x1000 x1001 x1002 5).bind fun bt215 => ((spec_l03Expr.f x1000 bt215.2.1 bt215.2.2).bind fun bt218 => (some (1, bt215.1, 0, bt218.1, bt218.2.1, bt218.2.2.1, bt218.2.2.2.1, bt218.2.2.2.2)))))
def spec_l04Stmt.f (k : Nat) (s0_0 : List Int) (s0_1 : Int) (s0_2 : Int) : Option (Int × Int × Int × Int × Int × Int × Int × Int) := (spec_l01Below.f s0_0 s0_1 s0_2 7).bind fun bt201 => (if bt201.1 = 0 then (spec_l04Stmt.j0 k bt201.1 (bt201.1 == 0) s0_0 bt201.2.1 bt201.2.2) else (spec_l04Stmt.j0 k bt201.1 (bt201.1 == 1) s0_0 bt201.2.1 bt201.2.2))
theorem spec_l04Stmt.mono_l : ∀ k, (∀ y0 y1 y2 y3 y4, LeO (spec_l04Stmt.j0 k y0 y1 y2 y3 y4) (spec_l04Stmt.j0 (k + 1) y0 y1 y2 y3 y4))
  | 0 => fun _ _ _ _ _ r h => by simp [spec_l04Stmt.j0] at h
  | k + 1 => by
    have ih0 := spec_l04Stmt.mono_l k
    · intro y0 y1 y2 y3 y4
      unfold spec_l04Stmt.j0
      repeat' first
      | (with_reducible exact ih0 _ _ _ _ _)
      | (with_reducible exact LeO.refl _)
      | (with_reducible exact LeO.none _)
      | (with_reducible refine LeO.ite ?_ ?_)
      | (with_reducible refine LeO.bind ?_ (fun _ => ?_))
      | exact ih0 _ _ _ _ _
      | exact LeO.none _
      | refine LeO.ite ?_ ?_
      | refine LeO.bind ?_ (fun _ => ?_)
theorem spec_l04Stmt.mono : ∀ a0 a1 a2 k, LeO (spec_l04Stmt.f k a0 a1 a2) (spec_l04Stmt.f (k + 1) a0 a1 a2) := by
  intro a0 a1 a2 k
  have ih0 := spec_l04Stmt.mono_l k
  unfold spec_l04Stmt.f
  repeat' first
      | (with_reducible exact ih0 _ _ _ _ _)
      | (with_reducible exact LeO.refl _)
      | (with_reducible exact LeO.none _)
      | (with_reducible refine LeO.ite ?_ ?_)
      | (with_reducible refine LeO.bind ?_ (fun _ => ?_))
      | exact ih0 _ _ _ _ _
      | exact LeO.none _
      | refine LeO.ite ?_ ?_
      | refine LeO.bind ?_ (fun _ => ?_)
set_option maxHeartbeats 8000000 in
set_option maxRecDepth 100000 in
theorem spec_l04Stmt.calls (k : Nat) (g : Nat) (s0_0 : List Int) (s0_1 : Int) (s0_2 : Int) (r1 : Int) (r2 : Int) (r3 : Int) (r4 : Int) (r5 : Int) (r6 : Int) (r7 : Int) (r8 : Int) (w0 w : World) (hI : IsS111 w0 w g s0_0 s0_1 s0_2) (hB : Below w0.heap.size w0 w) (h : spec_l04Stmt.f k s0_0 s0_1 s0_2 = some (r1, r2, r3, r4, r5, r6, r7, r8)) :
    Calls Try.prog 134 #[.pointer (some ⟨g, 0, none⟩)] w fun e w' => e = .returned (.agg #[.int .i64 r1, .int .i64 r2, .int .i64 r3, .int .i64 r4, .int .i64 r5, .int .i64 r6]) ∧ IsS111 w0 w' g s0_0 r7 r8 ∧ Below w0.heap.size w0 w' ∧ KeepBut w w' g none := by
  have hu119 := Try.underlying119
  have HI0 := Aside0.mk hI
  have HK := Aside0.mk (KeepBut.refl w g none)
  have HL := Aside0.mk hB.size
  clear hI
  have HW0 := Aside0.mk hB.size
  have HB := Aside0.mk hB
  clear hB
  have H : ((spec_l01Below.f s0_0 s0_1 s0_2 7).bind fun bt201 => (if bt201.1 = 0 then (spec_l04Stmt.j0 k bt201.1 (bt201.1 == 0) s0_0 bt201.2.1 bt201.2.2) else (spec_l04Stmt.j0 k bt201.1 (bt201.1 == 1) s0_0 bt201.2.1 bt201.2.2))) = some (r1, r2, r3, r4, r5, r6, r7, r8) := h
  clear h
  replace H := Option.bind_eq_some_iff.mp H
  obtain ⟨⟨t201, t202, t203⟩, A20, H⟩ := H
  replace H : (if t201 = 0 then (spec_l04Stmt.j0 k t201 (t201 == 0) s0_0 t202 t203) else (spec_l04Stmt.j0 k t201 (t201 == 1) s0_0 t202 t203)) = some (r1, r2, r3, r4, r5, r6, r7, r8) := H
  have A2 := Aside0.mk A20
  clear A20
  have HC3 := Aside0.mk H
  clear H
  go_enter Try.func134, Try.ntmps134
  go_upto_if 5 with (first | ((with_reducible refine gate_dst (N := 2) rfl ?_); refine box_event ?hg (N := 2) ?hd (cs := #[.int .i64 0, .int .i64 0, .int .i64 0, .int .i64 0, .int .i64 0, .int .i64 0]) (t := 119) ?hr ?_; (case hd => rfl); (case hg => rfl); (case hr => exact z4_21); intro gb200 hg w4 hbox hb; have n0_ := Aside0.mk (IsS111.below z4_5 hb); have n1_ := Aside0.mk (KeepBut.trans z4_0 (KeepBut.of_below hb g none) (.inl rfl)); have n2_ := Aside0.mk (below_step z4_6 hb); have n3_ := Aside0.mk (hbox); have n4_ := Aside0.mk ((z4_36 : w.heap.size ≤ gb200)); have n5_ := Aside0.mk ((Nat.le_trans HW0.out (z4_36 : w.heap.size ≤ gb200) : w0.heap.size ≤ gb200)); have n6_ := Aside0.mk ((z4_31 : g ≠ gb200)); have n7_ := Aside0.mk ((z4_33 : gb200 ≠ g)); clear HI0; clear HK; clear HB; have HI0 := n0_; have HK := n1_; have HB := n2_; have BK200 := n3_; have GW200 := n4_; have GE200 := n5_; have NB0_200 := n6_; have NB200_0 := n7_; clear n0_ n1_ n2_ n3_ n4_ n5_ n6_ n7_; clear hb hbox hg) | ((first | ((with_reducible refine gate_callee (f := 66) rfl ?_); refine goesL_ (some 4) rfl rfl Try.func66 z4_25 rfl #[.pointer (some ⟨g, 0, none⟩), .int .i64 7] rfl z4_1 ?_; (with_reducible refine (spec_l01Below.calls g s0_0 s0_1 s0_2 7 t201 t202 t203 w0 _ ?side1 ?side2 A2.out).mono ?_)) | (go_at_call 66; (with_reducible refine (spec_l01Below.calls g s0_0 s0_1 s0_2 7 t201 t202 t203 w0 _ ?side1 ?side2 A2.out).mono ?_))); (case side1 => exact z4_8); (case side2 => exact z4_9); rintro e w5 ⟨rfl, hi, hb, hk⟩; (first | refine ⟨_, rfl, ?_⟩ | skip); have n0_ := Aside0.mk (KeepBut.blk hk (g' := gb200) (o := .cells #[.int .i64 0, .int .i64 0, .int .i64 0, .int .i64 0, .int .i64 0, .int .i64 0] 119 (0, 0)) z4_17 NB200_0.out (by simp)); have n1_ := Aside0.mk (KeepBut.trans z4_12 hk (.inl rfl)); have n2_ := Aside0.mk (hb); have n3_ := Aside0.mk (hi); clear BK200; clear HK; clear HB; clear HI0; have BK200 := n0_; have HK := n1_; have HB := n2_; have HI0 := n3_; clear n0_ n1_ n2_ n3_; (try clear hb); (try clear hb2); (try clear hk); (try clear hi)))
  (try simp only [Act.put, List.setIfInBounds_toArray, List.set_cons_zero, List.set_cons_succ])
  go_cut [5] (fun v5 wc => ∃ (kq : Nat) (x5_2 : Bool), v5 = .bool x5_2 ∧ Aside0 (spec_l04Stmt.j0 kq t201 x5_2 s0_0 t202 t203 = some (r1, r2, r3, r4, r5, r6, r7, r8)) ∧ Aside0 (kq ≤ k) ∧ Aside0 (wc.heap[gb200]? = some (.cells #[.int .i64 0, .int .i64 0, .int .i64 0, .int .i64 0, .int .i64 0, .int .i64 0] 119 (0, 0))) ∧ Aside0 (IsS111 w0 wc g s0_0 t202 t203) ∧ Aside0 (KeepBut w wc g none) ∧ Aside0 (Below w0.heap.size w0 wc))
  case first =>
    have H := HC3.out
    clear HC3
    by_cases c6 : t201 = 0
    · rw [if_pos c6] at H
      have c6b0 : (t201 == 0) = true := beq_iff_eq.mpr c6
      have c6b1 : (t201 != 0) = false := bne_eq_false_iff_eq.mpr c6
      clear c6
      (first | rw [c6b0] | (simp only [i64_w, i32_w]; rw [c6b0]) | skip)
      have H' := Aside0.mk H
      clear H
      go_wp2
      go_meet
      case rel => exact ⟨_, ((t201 == 0)), z4_20, H', ⟨by first | omega | exact Nat.le_refl _⟩, ⟨by (with_reducible repeat (first | refine blk_drewN ?_ _ | refine blk_drew ?_ | refine blk_alloc ?_ _)); exact BK200.out⟩, ⟨by repeat (first | (with_reducible first | exact HI0.out | apply IsS111.alloc | apply IsS111.drewN | apply IsS111.drew | apply IsS111.set_1 | apply IsS111.set_2 | refine IsS111.far ?_ NB0_200.out _) | exact HI0.out)⟩, ⟨by repeat (first | (with_reducible first | exact HK.out | apply KeepBut.set_ | apply keep_drewN | apply keep_drew | apply keep_alloc | refine keep_far ?_ GW200.out _) | exact HK.out)⟩, ⟨by repeat (first | (with_reducible first | exact HB.out | apply below_alloc | apply pw_below_drewN | apply below_drew1 | refine below_set ?_ (IsS111.ge HI0.out) | refine below_set ?_ GE200.out) | exact HB.out)⟩⟩
    · rw [if_neg c6] at H
      have c6b0 : (t201 == 0) = false := beq_eq_false_iff_ne.mpr c6
      have c6b1 : (t201 != 0) = true := bne_iff_ne.mpr c6
      (first | rw [c6b0] | (simp only [i64_w, i32_w]; rw [c6b0]) | skip)
      have H' := Aside0.mk H
      clear H
      go_wp2
      go_meet
      case rel => exact ⟨_, ((t201 == 1)), z4_20, H', ⟨by first | omega | exact Nat.le_refl _⟩, ⟨by (with_reducible repeat (first | refine blk_drewN ?_ _ | refine blk_drew ?_ | refine blk_alloc ?_ _)); exact BK200.out⟩, ⟨by repeat (first | (with_reducible first | exact HI0.out | apply IsS111.alloc | apply IsS111.drewN | apply IsS111.drew | apply IsS111.set_1 | apply IsS111.set_2 | refine IsS111.far ?_ NB0_200.out _) | exact HI0.out)⟩, ⟨by repeat (first | (with_reducible first | exact HK.out | apply KeepBut.set_ | apply keep_drewN | apply keep_drew | apply keep_alloc | refine keep_far ?_ GW200.out _) | exact HK.out)⟩, ⟨by repeat (first | (with_reducible first | exact HB.out | apply below_alloc | apply pw_below_drewN | apply below_drew1 | refine below_set ?_ (IsS111.ge HI0.out) | refine below_set ?_ GE200.out) | exact HB.out)⟩⟩
  case rest =>
    clear HC3
    obtain ⟨kq, x5_2, rfl, HA, HJ2, BK200, HI0, HK, HB⟩ := hcut
    cases kq with
    | zero => exact absurd HA.out (by simp [spec_l04Stmt.j0])
    | succ kj2 =>
      have H := HA.out
      clear HA
      simp only [spec_l04Stmt.j0] at H
      by_cases c7 : x5_2 = true
      · subst c7
        have H1 : ((spec_l01Below.f s0_0 t202 t203 5).bind fun bt204 => ((spec_l01Below.f s0_0 bt204.2.1 bt204.2.2 4).bind fun bt207 => (some (2, bt204.1, bt207.1, 0, 0, 0, bt207.2.1, bt207.2.2)))) = some (r1, r2, r3, r4, r5, r6, r7, r8) := by rw [if_pos rfl] at H; exact H
        clear H
        have H := H1
        clear H1
        replace H := Option.bind_eq_some_iff.mp H
        obtain ⟨⟨t204, t205, t206⟩, A80, H⟩ := H
        replace H : ((spec_l01Below.f s0_0 t205 t206 4).bind fun bt207 => (some (2, t204, bt207.1, 0, 0, 0, bt207.2.1, bt207.2.2))) = some (r1, r2, r3, r4, r5, r6, r7, r8) := H
        have A8 := Aside0.mk A80
        clear A80
        replace H := Option.bind_eq_some_iff.mp H
        obtain ⟨⟨t207, t208, t209⟩, A90, H⟩ := H
        replace H : (some (2, t204, t207, 0, 0, 0, t208, t209)) = some (r1, r2, r3, r4, r5, r6, r7, r8) := H
        have A9 := Aside0.mk A90
        clear A90
        simp only [Option.some.injEq, Prod.mk.injEq] at H
        obtain ⟨rfl, rfl, rfl, rfl, rfl, rfl, rfl, rfl⟩ := H
        go_wp2_with (first | ((first | ((with_reducible refine gate_callee (f := 66) rfl ?_); refine goesL_ (some 9) rfl rfl Try.func66 z4_25 rfl #[.pointer (some ⟨g, 0, none⟩), .int .i64 5] rfl z4_1 ?_; (with_reducible refine (spec_l01Below.calls g s0_0 t202 t203 5 t204 t205 t206 w0 _ ?side1 ?side2 A8.out).mono ?_)) | (go_at_call 66; (with_reducible refine (spec_l01Below.calls g s0_0 t202 t203 5 t204 t205 t206 w0 _ ?side1 ?side2 A8.out).mono ?_))); (case side1 => exact z4_8); (case side2 => exact z4_9); rintro e w10 ⟨rfl, hi, hb, hk⟩; (first | refine ⟨_, rfl, ?_⟩ | skip); have n0_ := Aside0.mk (KeepBut.blk hk (g' := gb200) (o := .cells #[.int .i64 0, .int .i64 0, .int .i64 0, .int .i64 0, .int .i64 0, .int .i64 0] 119 (0, 0)) z4_17 NB200_0.out (by simp)); have n1_ := Aside0.mk (KeepBut.trans z4_12 hk (.inl rfl)); have n2_ := Aside0.mk (hb); have n3_ := Aside0.mk (hi); clear BK200; clear HK; clear HB; clear HI0; have BK200 := n0_; have HK := n1_; have HB := n2_; have HI0 := n3_; clear n0_ n1_ n2_ n3_; (try clear hb); (try clear hb2); (try clear hk); (try clear hi)) | ((first | ((with_reducible refine gate_callee (f := 66) rfl ?_); refine goesL_ (some 11) rfl rfl Try.func66 z4_25 rfl #[.pointer (some ⟨g, 0, none⟩), .int .i64 4] rfl z4_1 ?_; (with_reducible refine (spec_l01Below.calls g s0_0 t205 t206 4 t207 t208 t209 w0 _ ?side1 ?side2 A9.out).mono ?_)) | (go_at_call 66; (with_reducible refine (spec_l01Below.calls g s0_0 t205 t206 4 t207 t208 t209 w0 _ ?side1 ?side2 A9.out).mono ?_))); (case side1 => exact z4_8); (case side2 => exact z4_9); rintro e w11 ⟨rfl, hi, hb, hk⟩; (first | refine ⟨_, rfl, ?_⟩ | skip); have n0_ := Aside0.mk (KeepBut.blk hk (g' := gb200) (o := .cells #[.int .i64 0, .int .i64 0, .int .i64 0, .int .i64 0, .int .i64 0, .int .i64 0] 119 (0, 0)) z4_17 NB200_0.out (by simp)); have n1_ := Aside0.mk (KeepBut.trans z4_12 hk (.inl rfl)); have n2_ := Aside0.mk (hb); have n3_ := Aside0.mk (hi); clear BK200; clear HK; clear HB; clear HI0; have BK200 := n0_; have HK := n1_; have HB := n2_; have HI0 := n3_; clear n0_ n1_ n2_ n3_; (try clear hb); (try clear hb2); (try clear hk); (try clear hi); have hnb12 := NB200_0.out; have hnc12 := NB0_200.out; have hcz13_0 : w11.cell? ⟨gb200, 0, none⟩ = some (.int .i64 0) := (blk_cell BK200.out 0).trans rfl; have hcz13_1 : w11.cell? ⟨gb200, 1, none⟩ = some (.int .i64 0) := (blk_cell BK200.out 1).trans rfl; have hcz13_2 : w11.cell? ⟨gb200, 2, none⟩ = some (.int .i64 0) := (blk_cell BK200.out 2).trans rfl; have hcz13_3 : w11.cell? ⟨gb200, 3, none⟩ = some (.int .i64 0) := (blk_cell BK200.out 3).trans rfl; have hcz13_4 : w11.cell? ⟨gb200, 4, none⟩ = some (.int .i64 0) := (blk_cell BK200.out 4).trans rfl; have hcz13_5 : w11.cell? ⟨gb200, 5, none⟩ = some (.int .i64 0) := (blk_cell BK200.out 5).trans rfl; have hfz13_0 := blk_frozen BK200.out 0; have hfz13_1 := blk_frozen BK200.out 1; have hfz13_2 := blk_frozen BK200.out 2; have hfz13_3 := blk_frozen BK200.out 3; have hfz13_4 := blk_frozen BK200.out 4; have hfz13_5 := blk_frozen BK200.out 5) | ((with_reducible refine gate_store (t := 119) (p := 2) rfl ?_); refine store_event (t := 119) (p := 2) (v := ?vo_w14) (w1 := ((((((w11.setCell ⟨gb200, 0, none⟩ (.int .i64 2)).setCell ⟨gb200, 1, none⟩ (.int .i64 t204)).setCell ⟨gb200, 2, none⟩ (.int .i64 t207)).setCell ⟨gb200, 3, none⟩ (.int .i64 0)).setCell ⟨gb200, 4, none⟩ (.int .i64 0)).setCell ⟨gb200, 5, none⟩ (.int .i64 0))) ?hg ?ho ?hn ?hr ?_; (case ho => rfl); (case hg => rfl); (case hn => rfl); (case hr => exact z4_21); intro w14 hw; have n0_ : Aside0 (w14.heap[gb200]? = some (.cells #[.int .i64 2, .int .i64 t204, .int .i64 t207, .int .i64 0, .int .i64 0, .int .i64 0] 119 (0, 0))) := ⟨(by rw [hw]; exact (by (with_reducible repeat (first | refine blk_drewN ?_ _ | refine blk_drew ?_ | refine blk_alloc ?_ _)); refine blk_put (cs := #[.int .i64 2, .int .i64 t204, .int .i64 t207, .int .i64 0, .int .i64 0, .int .i64 0]) ?_ 5 _ rfl; (with_reducible repeat (first | refine blk_drewN ?_ _ | refine blk_drew ?_ | refine blk_alloc ?_ _)); refine blk_put (cs := #[.int .i64 2, .int .i64 t204, .int .i64 t207, .int .i64 0, .int .i64 0, .int .i64 0]) ?_ 4 _ rfl; (with_reducible repeat (first | refine blk_drewN ?_ _ | refine blk_drew ?_ | refine blk_alloc ?_ _)); refine blk_put (cs := #[.int .i64 2, .int .i64 t204, .int .i64 t207, .int .i64 0, .int .i64 0, .int .i64 0]) ?_ 3 _ rfl; (with_reducible repeat (first | refine blk_drewN ?_ _ | refine blk_drew ?_ | refine blk_alloc ?_ _)); refine blk_put (cs := #[.int .i64 2, .int .i64 t204, .int .i64 0, .int .i64 0, .int .i64 0, .int .i64 0]) ?_ 2 _ rfl; (with_reducible repeat (first | refine blk_drewN ?_ _ | refine blk_drew ?_ | refine blk_alloc ?_ _)); refine blk_put (cs := #[.int .i64 2, .int .i64 0, .int .i64 0, .int .i64 0, .int .i64 0, .int .i64 0]) ?_ 1 _ rfl; (with_reducible repeat (first | refine blk_drewN ?_ _ | refine blk_drew ?_ | refine blk_alloc ?_ _)); refine blk_put (cs := #[.int .i64 0, .int .i64 0, .int .i64 0, .int .i64 0, .int .i64 0, .int .i64 0]) ?_ 0 _ rfl; (with_reducible repeat (first | refine blk_drewN ?_ _ | refine blk_drew ?_ | refine blk_alloc ?_ _)); exact BK200.out))⟩; have n1_ : Aside0 (IsS111 w0 w14 g s0_0 t208 t209) := ⟨(by rw [hw]; exact z4_8)⟩; have n2_ : Aside0 (KeepBut w w14 g none) := ⟨(by rw [hw]; exact z4_12)⟩; have n3_ : Aside0 (Below w0.heap.size w0 w14) := ⟨(by rw [hw]; exact z4_9)⟩; clear hw; clear BK200; clear HI0; clear HK; clear HB; have BK200 := n0_; have HI0 := n1_; have HK := n2_; have HB := n3_; clear n0_ n1_ n2_ n3_))
        refine bodyPost_ret (results_cell_row rfl _ _ gb200 119 #[.int .i64 2, .int .i64 t204, .int .i64 t207, .int .i64 0, .int .i64 0, .int .i64 0] (0, 0) _ rfl z4_17 Try.underlying119 rfl z4_25) rfl ?_
        exact ⟨by first | rfl | (simp [errW_none, errW_some] <;> rfl) | (simp [*, errW_none, errW_some] <;> rfl) | (simp [*, errW_none, errW_some, i64_w]; done), by repeat (first | (with_reducible first | exact HI0.out | apply IsS111.alloc | apply IsS111.drewN | apply IsS111.drew | apply IsS111.set_1 | apply IsS111.set_2 | refine IsS111.far ?_ NB0_200.out _) | exact HI0.out), by repeat (first | (with_reducible first | exact HB.out | apply below_alloc | apply pw_below_drewN | apply below_drew1 | refine below_set ?_ (IsS111.ge HI0.out) | refine below_set ?_ GE200.out) | exact HB.out), by repeat (first | (with_reducible first | exact HK.out | apply KeepBut.set_ | apply keep_drewN | apply keep_drew | apply keep_alloc | refine keep_far ?_ GW200.out _) | exact HK.out)⟩
      · replace c7 := Bool.eq_false_iff.mpr c7
        subst c7
        have H1 : (if t201 = 2 then ((spec_l03Expr.f s0_0 t202 t203).bind fun bt210 => (some (3, 0, 0, bt210.1, bt210.2.1, bt210.2.2.1, bt210.2.2.2.1, bt210.2.2.2.2))) else ((spec_l01Below.f s0_0 t202 t203 5).bind fun bt215 => ((spec_l03Expr.f s0_0 bt215.2.1 bt215.2.2).bind fun bt218 => (some (1, bt215.1, 0, bt218.1, bt218.2.1, bt218.2.2.1, bt218.2.2.2.1, bt218.2.2.2.2))))) = some (r1, r2, r3, r4, r5, r6, r7, r8) := by rw [if_neg (show ¬ (false = true) by decide)] at H; exact H
        clear H
        have H := H1
        clear H1
        by_cases c15 : t201 = 2
        · rw [if_pos c15] at H
          have c15b0 : (t201 == 2) = true := beq_iff_eq.mpr c15
          have c15b1 : (t201 != 2) = false := bne_eq_false_iff_eq.mpr c15
          clear c15
          replace H := Option.bind_eq_some_iff.mp H
          obtain ⟨⟨t210, t211, t212, t213, t214⟩, A160, H⟩ := H
          replace H : (some (3, 0, 0, t210, t211, t212, t213, t214)) = some (r1, r2, r3, r4, r5, r6, r7, r8) := H
          have A16 := Aside0.mk A160
          clear A160
          simp only [Option.some.injEq, Prod.mk.injEq] at H
          obtain ⟨rfl, rfl, rfl, rfl, rfl, rfl, rfl, rfl⟩ := H
          go_wp2_with (first | ((first | ((with_reducible refine gate_callee (f := 60) rfl ?_); refine goesL_ (some 16) rfl rfl Try.func60 z4_25 rfl #[.pointer (some ⟨g, 0, none⟩)] rfl z4_1 ?_; (with_reducible refine (spec_l03Expr.calls g s0_0 t202 t203 t210 t211 t212 t213 t214 w0 _ ?side1 ?side2 A16.out).mono ?_)) | (go_at_call 60; (with_reducible refine (spec_l03Expr.calls g s0_0 t202 t203 t210 t211 t212 t213 t214 w0 _ ?side1 ?side2 A16.out).mono ?_))); (case side1 => exact z4_8); (case side2 => exact z4_9); rintro e w17 ⟨rfl, hi, hb, hk⟩; (first | refine ⟨_, rfl, ?_⟩ | skip); have n0_ := Aside0.mk (KeepBut.blk hk (g' := gb200) (o := .cells #[.int .i64 0, .int .i64 0, .int .i64 0, .int .i64 0, .int .i64 0, .int .i64 0] 119 (0, 0)) z4_17 NB200_0.out (by simp)); have n1_ := Aside0.mk (KeepBut.trans z4_12 hk (.inl rfl)); have n2_ := Aside0.mk (hb); have n3_ := Aside0.mk (hi); clear BK200; clear HK; clear HB; clear HI0; have BK200 := n0_; have HK := n1_; have HB := n2_; have HI0 := n3_; clear n0_ n1_ n2_ n3_; (try clear hb); (try clear hb2); (try clear hk); (try clear hi); have hnb18 := NB200_0.out; have hnc18 := NB0_200.out; have hcz19_0 : w17.cell? ⟨gb200, 0, none⟩ = some (.int .i64 0) := (blk_cell BK200.out 0).trans rfl; have hcz19_1 : w17.cell? ⟨gb200, 1, none⟩ = some (.int .i64 0) := (blk_cell BK200.out 1).trans rfl; have hcz19_2 : w17.cell? ⟨gb200, 2, none⟩ = some (.int .i64 0) := (blk_cell BK200.out 2).trans rfl; have hcz19_3 : w17.cell? ⟨gb200, 3, none⟩ = some (.int .i64 0) := (blk_cell BK200.out 3).trans rfl; have hcz19_4 : w17.cell? ⟨gb200, 4, none⟩ = some (.int .i64 0) := (blk_cell BK200.out 4).trans rfl; have hcz19_5 : w17.cell? ⟨gb200, 5, none⟩ = some (.int .i64 0) := (blk_cell BK200.out 5).trans rfl; have hfz19_0 := blk_frozen BK200.out 0; have hfz19_1 := blk_frozen BK200.out 1; have hfz19_2 := blk_frozen BK200.out 2; have hfz19_3 := blk_frozen BK200.out 3; have hfz19_4 := blk_frozen BK200.out 4; have hfz19_5 := blk_frozen BK200.out 5) | ((with_reducible refine gate_store (t := 119) (p := 2) rfl ?_); refine store_event (t := 119) (p := 2) (v := ?vo_w20) (w1 := ((((((w17.setCell ⟨gb200, 0, none⟩ (.int .i64 3)).setCell ⟨gb200, 1, none⟩ (.int .i64 0)).setCell ⟨gb200, 2, none⟩ (.int .i64 0)).setCell ⟨gb200, 3, none⟩ (.int .i64 t210)).setCell ⟨gb200, 4, none⟩ (.int .i64 t211)).setCell ⟨gb200, 5, none⟩ (.int .i64 t212))) ?hg ?ho ?hn ?hr ?_; (case ho => rfl); (case hg => rfl); (case hn => rfl); (case hr => exact z4_21); intro w20 hw; have n0_ : Aside0 (w20.heap[gb200]? = some (.cells #[.int .i64 3, .int .i64 0, .int .i64 0, .int .i64 t210, .int .i64 t211, .int .i64 t212] 119 (0, 0))) := ⟨(by rw [hw]; exact (by (with_reducible repeat (first | refine blk_drewN ?_ _ | refine blk_drew ?_ | refine blk_alloc ?_ _)); refine blk_put (cs := #[.int .i64 3, .int .i64 0, .int .i64 0, .int .i64 t210, .int .i64 t211, .int .i64 0]) ?_ 5 _ rfl; (with_reducible repeat (first | refine blk_drewN ?_ _ | refine blk_drew ?_ | refine blk_alloc ?_ _)); refine blk_put (cs := #[.int .i64 3, .int .i64 0, .int .i64 0, .int .i64 t210, .int .i64 0, .int .i64 0]) ?_ 4 _ rfl; (with_reducible repeat (first | refine blk_drewN ?_ _ | refine blk_drew ?_ | refine blk_alloc ?_ _)); refine blk_put (cs := #[.int .i64 3, .int .i64 0, .int .i64 0, .int .i64 0, .int .i64 0, .int .i64 0]) ?_ 3 _ rfl; (with_reducible repeat (first | refine blk_drewN ?_ _ | refine blk_drew ?_ | refine blk_alloc ?_ _)); refine blk_put (cs := #[.int .i64 3, .int .i64 0, .int .i64 0, .int .i64 0, .int .i64 0, .int .i64 0]) ?_ 2 _ rfl; (with_reducible repeat (first | refine blk_drewN ?_ _ | refine blk_drew ?_ | refine blk_alloc ?_ _)); refine blk_put (cs := #[.int .i64 3, .int .i64 0, .int .i64 0, .int .i64 0, .int .i64 0, .int .i64 0]) ?_ 1 _ rfl; (with_reducible repeat (first | refine blk_drewN ?_ _ | refine blk_drew ?_ | refine blk_alloc ?_ _)); refine blk_put (cs := #[.int .i64 0, .int .i64 0, .int .i64 0, .int .i64 0, .int .i64 0, .int .i64 0]) ?_ 0 _ rfl; (with_reducible repeat (first | refine blk_drewN ?_ _ | refine blk_drew ?_ | refine blk_alloc ?_ _)); exact BK200.out))⟩; have n1_ : Aside0 (IsS111 w0 w20 g s0_0 t213 t214) := ⟨(by rw [hw]; exact z4_8)⟩; have n2_ : Aside0 (KeepBut w w20 g none) := ⟨(by rw [hw]; exact z4_12)⟩; have n3_ : Aside0 (Below w0.heap.size w0 w20) := ⟨(by rw [hw]; exact z4_9)⟩; clear hw; clear BK200; clear HI0; clear HK; clear HB; have BK200 := n0_; have HI0 := n1_; have HK := n2_; have HB := n3_; clear n0_ n1_ n2_ n3_))
          refine bodyPost_ret (results_cell_row rfl _ _ gb200 119 #[.int .i64 3, .int .i64 0, .int .i64 0, .int .i64 t210, .int .i64 t211, .int .i64 t212] (0, 0) _ rfl z4_17 Try.underlying119 rfl z4_25) rfl ?_
          exact ⟨by first | rfl | (simp [errW_none, errW_some] <;> rfl) | (simp [*, errW_none, errW_some] <;> rfl) | (simp [*, errW_none, errW_some, i64_w]; done), by repeat (first | (with_reducible first | exact HI0.out | apply IsS111.alloc | apply IsS111.drewN | apply IsS111.drew | apply IsS111.set_1 | apply IsS111.set_2 | refine IsS111.far ?_ NB0_200.out _) | exact HI0.out), by repeat (first | (with_reducible first | exact HB.out | apply below_alloc | apply pw_below_drewN | apply below_drew1 | refine below_set ?_ (IsS111.ge HI0.out) | refine below_set ?_ GE200.out) | exact HB.out), by repeat (first | (with_reducible first | exact HK.out | apply KeepBut.set_ | apply keep_drewN | apply keep_drew | apply keep_alloc | refine keep_far ?_ GW200.out _) | exact HK.out)⟩
        · rw [if_neg c15] at H
          have c15b0 : (t201 == 2) = false := beq_eq_false_iff_ne.mpr c15
          have c15b1 : (t201 != 2) = true := bne_iff_ne.mpr c15
          replace H := Option.bind_eq_some_iff.mp H
          obtain ⟨⟨t215, t216, t217⟩, A210, H⟩ := H
          replace H : ((spec_l03Expr.f s0_0 t216 t217).bind fun bt218 => (some (1, t215, 0, bt218.1, bt218.2.1, bt218.2.2.1, bt218.2.2.2.1, bt218.2.2.2.2))) = some (r1, r2, r3, r4, r5, r6, r7, r8) := H
          have A21 := Aside0.mk A210
          clear A210
          replace H := Option.bind_eq_some_iff.mp H
          obtain ⟨⟨t218, t219, t220, t221, t222⟩, A220, H⟩ := H
          replace H : (some (1, t215, 0, t218, t219, t220, t221, t222)) = some (r1, r2, r3, r4, r5, r6, r7, r8) := H
          have A22 := Aside0.mk A220
          clear A220
          simp only [Option.some.injEq, Prod.mk.injEq] at H
          obtain ⟨rfl, rfl, rfl, rfl, rfl, rfl, rfl, rfl⟩ := H
          go_wp2_with (first | ((first | ((with_reducible refine gate_callee (f := 66) rfl ?_); refine goesL_ (some 19) rfl rfl Try.func66 z4_25 rfl #[.pointer (some ⟨g, 0, none⟩), .int .i64 5] rfl z4_1 ?_; (with_reducible refine (spec_l01Below.calls g s0_0 t202 t203 5 t215 t216 t217 w0 _ ?side1 ?side2 A21.out).mono ?_)) | (go_at_call 66; (with_reducible refine (spec_l01Below.calls g s0_0 t202 t203 5 t215 t216 t217 w0 _ ?side1 ?side2 A21.out).mono ?_))); (case side1 => exact z4_8); (case side2 => exact z4_9); rintro e w23 ⟨rfl, hi, hb, hk⟩; (first | refine ⟨_, rfl, ?_⟩ | skip); have n0_ := Aside0.mk (KeepBut.blk hk (g' := gb200) (o := .cells #[.int .i64 0, .int .i64 0, .int .i64 0, .int .i64 0, .int .i64 0, .int .i64 0] 119 (0, 0)) z4_17 NB200_0.out (by simp)); have n1_ := Aside0.mk (KeepBut.trans z4_12 hk (.inl rfl)); have n2_ := Aside0.mk (hb); have n3_ := Aside0.mk (hi); clear BK200; clear HK; clear HB; clear HI0; have BK200 := n0_; have HK := n1_; have HB := n2_; have HI0 := n3_; clear n0_ n1_ n2_ n3_; (try clear hb); (try clear hb2); (try clear hk); (try clear hi)) | ((first | ((with_reducible refine gate_callee (f := 60) rfl ?_); refine goesL_ (some 21) rfl rfl Try.func60 z4_25 rfl #[.pointer (some ⟨g, 0, none⟩)] rfl z4_1 ?_; (with_reducible refine (spec_l03Expr.calls g s0_0 t216 t217 t218 t219 t220 t221 t222 w0 _ ?side1 ?side2 A22.out).mono ?_)) | (go_at_call 60; (with_reducible refine (spec_l03Expr.calls g s0_0 t216 t217 t218 t219 t220 t221 t222 w0 _ ?side1 ?side2 A22.out).mono ?_))); (case side1 => exact z4_8); (case side2 => exact z4_9); rintro e w24 ⟨rfl, hi, hb, hk⟩; (first | refine ⟨_, rfl, ?_⟩ | skip); have n0_ := Aside0.mk (KeepBut.blk hk (g' := gb200) (o := .cells #[.int .i64 0, .int .i64 0, .int .i64 0, .int .i64 0, .int .i64 0, .int .i64 0] 119 (0, 0)) z4_17 NB200_0.out (by simp)); have n1_ := Aside0.mk (KeepBut.trans z4_12 hk (.inl rfl)); have n2_ := Aside0.mk (hb); have n3_ := Aside0.mk (hi); clear BK200; clear HK; clear HB; clear HI0; have BK200 := n0_; have HK := n1_; have HB := n2_; have HI0 := n3_; clear n0_ n1_ n2_ n3_; (try clear hb); (try clear hb2); (try clear hk); (try clear hi); have hnb25 := NB200_0.out; have hnc25 := NB0_200.out; have hcz26_0 : w24.cell? ⟨gb200, 0, none⟩ = some (.int .i64 0) := (blk_cell BK200.out 0).trans rfl; have hcz26_1 : w24.cell? ⟨gb200, 1, none⟩ = some (.int .i64 0) := (blk_cell BK200.out 1).trans rfl; have hcz26_2 : w24.cell? ⟨gb200, 2, none⟩ = some (.int .i64 0) := (blk_cell BK200.out 2).trans rfl; have hcz26_3 : w24.cell? ⟨gb200, 3, none⟩ = some (.int .i64 0) := (blk_cell BK200.out 3).trans rfl; have hcz26_4 : w24.cell? ⟨gb200, 4, none⟩ = some (.int .i64 0) := (blk_cell BK200.out 4).trans rfl; have hcz26_5 : w24.cell? ⟨gb200, 5, none⟩ = some (.int .i64 0) := (blk_cell BK200.out 5).trans rfl; have hfz26_0 := blk_frozen BK200.out 0; have hfz26_1 := blk_frozen BK200.out 1; have hfz26_2 := blk_frozen BK200.out 2; have hfz26_3 := blk_frozen BK200.out 3; have hfz26_4 := blk_frozen BK200.out 4; have hfz26_5 := blk_frozen BK200.out 5) | ((with_reducible refine gate_store (t := 119) (p := 2) rfl ?_); refine store_event (t := 119) (p := 2) (v := ?vo_w27) (w1 := ((((((w24.setCell ⟨gb200, 0, none⟩ (.int .i64 1)).setCell ⟨gb200, 1, none⟩ (.int .i64 t215)).setCell ⟨gb200, 2, none⟩ (.int .i64 0)).setCell ⟨gb200, 3, none⟩ (.int .i64 t218)).setCell ⟨gb200, 4, none⟩ (.int .i64 t219)).setCell ⟨gb200, 5, none⟩ (.int .i64 t220))) ?hg ?ho ?hn ?hr ?_; (case ho => rfl); (case hg => rfl); (case hn => rfl); (case hr => exact z4_21); intro w27 hw; have n0_ : Aside0 (w27.heap[gb200]? = some (.cells #[.int .i64 1, .int .i64 t215, .int .i64 0, .int .i64 t218, .int .i64 t219, .int .i64 t220] 119 (0, 0))) := ⟨(by rw [hw]; exact (by (with_reducible repeat (first | refine blk_drewN ?_ _ | refine blk_drew ?_ | refine blk_alloc ?_ _)); refine blk_put (cs := #[.int .i64 1, .int .i64 t215, .int .i64 0, .int .i64 t218, .int .i64 t219, .int .i64 0]) ?_ 5 _ rfl; (with_reducible repeat (first | refine blk_drewN ?_ _ | refine blk_drew ?_ | refine blk_alloc ?_ _)); refine blk_put (cs := #[.int .i64 1, .int .i64 t215, .int .i64 0, .int .i64 t218, .int .i64 0, .int .i64 0]) ?_ 4 _ rfl; (with_reducible repeat (first | refine blk_drewN ?_ _ | refine blk_drew ?_ | refine blk_alloc ?_ _)); refine blk_put (cs := #[.int .i64 1, .int .i64 t215, .int .i64 0, .int .i64 0, .int .i64 0, .int .i64 0]) ?_ 3 _ rfl; (with_reducible repeat (first | refine blk_drewN ?_ _ | refine blk_drew ?_ | refine blk_alloc ?_ _)); refine blk_put (cs := #[.int .i64 1, .int .i64 t215, .int .i64 0, .int .i64 0, .int .i64 0, .int .i64 0]) ?_ 2 _ rfl; (with_reducible repeat (first | refine blk_drewN ?_ _ | refine blk_drew ?_ | refine blk_alloc ?_ _)); refine blk_put (cs := #[.int .i64 1, .int .i64 0, .int .i64 0, .int .i64 0, .int .i64 0, .int .i64 0]) ?_ 1 _ rfl; (with_reducible repeat (first | refine blk_drewN ?_ _ | refine blk_drew ?_ | refine blk_alloc ?_ _)); refine blk_put (cs := #[.int .i64 0, .int .i64 0, .int .i64 0, .int .i64 0, .int .i64 0, .int .i64 0]) ?_ 0 _ rfl; (with_reducible repeat (first | refine blk_drewN ?_ _ | refine blk_drew ?_ | refine blk_alloc ?_ _)); exact BK200.out))⟩; have n1_ : Aside0 (IsS111 w0 w27 g s0_0 t221 t222) := ⟨(by rw [hw]; exact z4_8)⟩; have n2_ : Aside0 (KeepBut w w27 g none) := ⟨(by rw [hw]; exact z4_12)⟩; have n3_ : Aside0 (Below w0.heap.size w0 w27) := ⟨(by rw [hw]; exact z4_9)⟩; clear hw; clear BK200; clear HI0; clear HK; clear HB; have BK200 := n0_; have HI0 := n1_; have HK := n2_; have HB := n3_; clear n0_ n1_ n2_ n3_))
          refine bodyPost_ret (results_cell_row rfl _ _ gb200 119 #[.int .i64 1, .int .i64 t215, .int .i64 0, .int .i64 t218, .int .i64 t219, .int .i64 t220] (0, 0) _ rfl z4_17 Try.underlying119 rfl z4_25) rfl ?_
          exact ⟨by first | rfl | (simp [errW_none, errW_some] <;> rfl) | (simp [*, errW_none, errW_some] <;> rfl) | (simp [*, errW_none, errW_some, i64_w]; done), by repeat (first | (with_reducible first | exact HI0.out | apply IsS111.alloc | apply IsS111.drewN | apply IsS111.drew | apply IsS111.set_1 | apply IsS111.set_2 | refine IsS111.far ?_ NB0_200.out _) | exact HI0.out), by repeat (first | (with_reducible first | exact HB.out | apply below_alloc | apply pw_below_drewN | apply below_drew1 | refine below_set ?_ (IsS111.ge HI0.out) | refine below_set ?_ GE200.out) | exact HB.out), by repeat (first | (with_reducible first | exact HK.out | apply KeepBut.set_ | apply keep_drewN | apply keep_drew | apply keep_alloc | refine keep_far ?_ GW200.out _) | exact HK.out)⟩

/-! ### spec_l05Block: function 97 -/
mutual
def spec_l05Block.l0 : Nat → Int → Int → List (S119) → Int → List Int → Int → Int → Option ((List (S119)) × Int × Int)
  | 0, _, _, _, _, _, _, _ => none
  | k + 1, x1, x2, x7, x8, x1000, x1001, x1002 => if x8 < x1 then (if x2 < 2 then (if (x7.length : Int) < 6 then ((spec_l01Once.f x1000 x1001 x1002 5).bind fun bt226 => (spec_l05Block.j1 k x1 x2 x7 x8 bt226.1 x1000 bt226.2.1 bt226.2.2)) else (spec_l05Block.j1 k x1 x2 x7 x8 false x1000 x1001 x1002)) else (spec_l05Block.j1 k x1 x2 x7 x8 false x1000 x1001 x1002)) else (some (x7, x1001, x1002))
def spec_l05Block.j1 : Nat → Int → Int → List (S119) → Int → Bool → List Int → Int → Int → Option ((List (S119)) × Int × Int)
  | 0, _, _, _, _, _, _, _, _ => none
  | k + 1, x1, x2, x7, x8, x26, x1000, x1001, x1002 => if x26 = true then ((spec_l01Below.f x1000 x1001 x1002 3).bind fun bt229 => ((spec_l01Once.f x1000 bt229.2.1 bt229.2.2 2).bind fun bt233 => (if bt233.1 = true then ((spec_l03Expr.f x1000 bt233.2.1 bt233.2.2).bind fun bt236 => (if x7.length < 2932031007402 then ((some (x7 ++ [(⟨4, 0, 0, (⟨bt236.1, bt236.2.1, bt236.2.2.1⟩ : S26)⟩ : S119)] : List (S119))).bind fun y241 => ((spec_l01Below.f x1000 bt236.2.2.2.1 bt236.2.2.2.2 2).bind fun bt244 => ((spec_l05Block.f k x1000 bt244.2.1 bt244.2.2 (wrap64 (1 + bt244.1)) (wrap64 (x2 + 1))).bind fun bt247 => (if y241.length + bt247.1.length < 2932031007402 then ((some (y241 ++ bt247.1 : List (S119))).bind fun y252 => (if y252.length < 2932031007402 then (spec_l05Block.l0 k x1 x2 (y252 ++ [(⟨6, 0, 0, (⟨0, 0, 0⟩ : S26)⟩ : S119)]) (wrap64 (x8 + 1)) x1000 bt247.2.1 bt247.2.2) else (none))) else (none))))) else (none))) else (if x7.length < 2932031007402 then ((some (x7 ++ [(⟨5, 0, wrap64 (1 + bt229.1), (⟨0, 0, 0⟩ : S26)⟩ : S119)] : List (S119))).bind fun y258 => ((spec_l01Below.f x1000 bt233.2.1 bt233.2.2 2).bind fun bt261 => ((spec_l05Block.f k x1000 bt261.2.1 bt261.2.2 (wrap64 (1 + bt261.1)) (wrap64 (x2 + 1))).bind fun bt264 => (if y258.length + bt264.1.length < 2932031007402 then ((some (y258 ++ bt264.1 : List (S119))).bind fun y269 => (if y269.length < 2932031007402 then (spec_l05Block.l0 k x1 x2 (y269 ++ [(⟨6, 0, 0, (⟨0, 0, 0⟩ : S26)⟩ : S119)]) (wrap64 (x8 + 1)) x1000 bt264.2.1 bt264.2.2) else (none))) else (none))))) else (none))))) else ((spec_l04Stmt.f k x1000 x1001 x1002).bind fun bt275 => (if x7.length < 2932031007402 then (spec_l05Block.l0 k x1 x2 (x7 ++ [(⟨bt275.1, bt275.2.1, bt275.2.2.1, (⟨bt275.2.2.2.1, bt275.2.2.2.2.1, bt275.2.2.2.2.2.1⟩ : S26)⟩ : S119)]) (wrap64 (x8 + 1)) x1000 bt275.2.2.2.2.2.2.1 bt275.2.2.2.2.2.2.2) else (none)))
def spec_l05Block.f : Nat → List Int → Int → Int → Int → Int → Option ((List (S119)) × Int × Int)
  | 0, _, _, _, _, _ => none
  | k + 1, s0_0, s0_1, s0_2, a1, a2 => spec_l05Block.l0 k a1 a2 (([] : List (S119))) 0 s0_0 s0_1 s0_2
end
theorem spec_l05Block.mono_l : ∀ k, (∀ y0 y1 y2 y3 y4, LeO (spec_l05Block.f k y0 y1 y2 y3 y4) (spec_l05Block.f (k + 1) y0 y1 y2 y3 y4)) ∧ (∀ y0 y1 y2 y3 y4 y5 y6, LeO (spec_l05Block.l0 k y0 y1 y2 y3 y4 y5 y6) (spec_l05Block.l0 (k + 1) y0 y1 y2 y3 y4 y5 y6)) ∧ (∀ y0 y1 y2 y3 y4 y5 y6 y7, LeO (spec_l05Block.j1 k y0 y1 y2 y3 y4 y5 y6 y7) (spec_l05Block.j1 (k + 1) y0 y1 y2 y3 y4 y5 y6 y7))
  | 0 => ⟨fun _ _ _ _ _ r h => by simp [spec_l05Block.f] at h, fun _ _ _ _ _ _ _ r h => by simp [spec_l05Block.l0] at h, fun _ _ _ _ _ _ _ _ r h => by simp [spec_l05Block.j1] at h⟩
  | k + 1 => by
    obtain ⟨ih0, ih1, ih2⟩ := spec_l05Block.mono_l k
    refine ⟨?_, ?_, ?_⟩
    · intro y0 y1 y2 y3 y4
      unfold spec_l05Block.f
      repeat' first
      | (with_reducible exact ih0 _ _ _ _ _)
      | (with_reducible exact ih1 _ _ _ _ _ _ _)
      | (with_reducible exact ih2 _ _ _ _ _ _ _ _)
      | (with_reducible exact spec_l04Stmt.mono _ _ _ _)
      | (with_reducible exact LeO.refl _)
      | (with_reducible exact LeO.none _)
      | (with_reducible refine LeO.ite ?_ ?_)
      | (with_reducible refine LeO.bind ?_ (fun _ => ?_))
      | exact ih0 _ _ _ _ _
      | exact ih1 _ _ _ _ _ _ _
      | exact ih2 _ _ _ _ _ _ _ _
      | exact spec_l04Stmt.mono _ _ _ _
      | exact LeO.none _
      | refine LeO.ite ?_ ?_
      | refine LeO.bind ?_ (fun _ => ?_)
    · intro y0 y1 y2 y3 y4 y5 y6
      unfold spec_l05Block.l0
      repeat' first
      | (with_reducible exact ih0 _ _ _ _ _)
      | (with_reducible exact ih1 _ _ _ _ _ _ _)
      | (with_reducible exact ih2 _ _ _ _ _ _ _ _)
      | (with_reducible exact spec_l04Stmt.mono _ _ _ _)
      | (with_reducible exact LeO.refl _)
      | (with_reducible exact LeO.none _)
      | (with_reducible refine LeO.ite ?_ ?_)
      | (with_reducible refine LeO.bind ?_ (fun _ => ?_))
      | exact ih0 _ _ _ _ _
      | exact ih1 _ _ _ _ _ _ _
      | exact ih2 _ _ _ _ _ _ _ _
      | exact spec_l04Stmt.mono _ _ _ _
      | exact LeO.none _
      | refine LeO.ite ?_ ?_
      | refine LeO.bind ?_ (fun _ => ?_)
    · intro y0 y1 y2 y3 y4 y5 y6 y7
      unfold spec_l05Block.j1
      repeat' first
      | (with_reducible exact ih0 _ _ _ _ _)
      | (with_reducible exact ih1 _ _ _ _ _ _ _)
      | (with_reducible exact ih2 _ _ _ _ _ _ _ _)
      | (with_reducible exact spec_l04Stmt.mono _ _ _ _)
      | (with_reducible exact LeO.refl _)
      | (with_reducible exact LeO.none _)
      | (with_reducible refine LeO.ite ?_ ?_)
      | (with_reducible refine LeO.bind ?_ (fun _ => ?_))
      | exact ih0 _ _ _ _ _
      | exact ih1 _ _ _ _ _ _ _
      | exact ih2 _ _ _ _ _ _ _ _
      | exact spec_l04Stmt.mono _ _ _ _
      | exact LeO.none _
      | refine LeO.ite ?_ ?_
      | refine LeO.bind ?_ (fun _ => ?_)
theorem spec_l05Block.mono : ∀ a0 a1 a2 a3 a4 k, LeO (spec_l05Block.f k a0 a1 a2 a3 a4) (spec_l05Block.f (k + 1) a0 a1 a2 a3 a4) := by
  intro a0 a1 a2 a3 a4 k
  obtain ⟨ih0, ih1, ih2⟩ := spec_l05Block.mono_l k
  exact ih0 a0 a1 a2 a3 a4
set_option maxHeartbeats 8000000 in
set_option maxRecDepth 100000 in
theorem spec_l05Block.calls (k : Nat) : ∀ (g : Nat) (s0_0 : List Int) (s0_1 : Int) (s0_2 : Int) (a1 : Int) (a2 : Int) (r1 : List (S119)) (r2 : Int) (r3 : Int) (w0 w : World) (hI : IsS111 w0 w g s0_0 s0_1 s0_2) (hB : Below w0.heap.size w0 w) (h : spec_l05Block.f k s0_0 s0_1 s0_2 a1 a2 = some (r1, r2, r3)),
    Calls Try.prog 97 #[.pointer (some ⟨g, 0, none⟩), .int .i64 a1, .int .i64 a2] w fun e w' => ∃ v0_ : Value, e = .returned (v0_) ∧ Kd.R k119 119 w' w.heap.size (fun _ => True) v0_ r1 ∧ IsS111 w0 w' g s0_0 r2 r3 ∧ Below w0.heap.size w0 w' ∧ KeepBut w w' g none := by
  induction k using Nat.strongRecOn with
  | _ k ih =>
  intro g s0_0 s0_1 s0_2 a1 a2 r1 r2 r3 w0 w hI hB h
  cases k with
  | zero => exact absurd h (by simp [spec_l05Block.f])
  | succ k =>
  simp only [spec_l05Block.f] at h
  have hu119 := Try.underlying119
  have HI0 := Aside0.mk hI
  have HK := Aside0.mk (KeepBut.refl w g none)
  have HL := Aside0.mk hB.size
  clear hI
  have HW0 := Aside0.mk hB.size
  have HB := Aside0.mk hB
  clear hB
  have H : (spec_l05Block.l0 k a1 a2 (([] : List (S119))) 0 s0_0 s0_1 s0_2) = some (r1, r2, r3) := h
  clear h
  obtain ⟨y223, hy223⟩ : ∃ y_ : List (S119), y_ = (([] : List (S119))) := ⟨_, rfl⟩
  replace H : (spec_l05Block.l0 k a1 a2 y223 0 s0_0 s0_1 s0_2) = some (r1, r2, r3) := by first | (rw [hy223]; with_reducible exact H) | (have H2_ := (Option.bind_some _ _).symm.trans H; rw [hy223]; with_reducible exact H2_) | (have H2_ := (Option.bind_some _ _).symm.trans H; with_reducible exact H2_) | with_reducible exact H | (rw [hy223]; exact H) | exact H
  have Ny223 := Aside0.mk hy223
  clear hy223
  have H' := Aside0.mk H
  clear H
  go_enter Try.func97, Try.ntmps97
  go_wp2_with (first | ((with_reducible refine gate_dst (N := 10) rfl ?_); (try (refine gate_guard (by rfl) ?_; dsimp only)); refine Kd.R_lit k119 _ 119 ?hg (N := 10) ?hd (xs := ([] : List (S119))) (inner := []) (ok := fun _ => True) (okp := fun _ => True) ?hr ?hp (fun _ hk => hk) trivial (Below.refl _ _) (Nat.le_refl _) (by simp) ?_; (case hd => rfl); (case hg => rfl); (case hr => exact z4_21); (case hp => exact (Reps.none _ _)); intro v224 w4 ho5 hb hg_ hnew_; clear hg_ hnew_; (first | rw [← Ny223.out] at ho5 | (simp only [Int.reduceToNat] at ho5; rw [← Ny223.out] at ho5)); have n0_ := Aside0.mk (Kd.R_lower ho5 (keep_size (w := w) (g := g) (row := none) z4_0)); have n1_ := Aside0.mk (IsS111.below z4_5 hb); have n2_ := Aside0.mk (KeepBut.trans z4_0 (KeepBut.of_below hb g none) (.inl rfl)); have n3_ := Aside0.mk (below_step z4_6 hb); clear HI0; clear HK; clear HB; have HO225 := n0_; have HI0 := n1_; have HK := n2_; have HB := n3_; clear n0_ n1_ n2_ n3_; clear hb ho5))
  go_loopg [7, 8] k (fun kq v7 v8 w' => ∃ (x7_1 : List (S119)) (x8_1 : Int) (x1001_1 : Int) (x1002_1 : Int), v8 = .int .i64 x8_1 ∧ Aside0 (spec_l05Block.l0 kq a1 a2 x7_1 x8_1 s0_0 x1001_1 x1002_1 = some (r1, r2, r3)) ∧ Aside0 (kq ≤ k) ∧ Aside0 (Kd.R k119 119 w' w.heap.size (fun _ => True) v7 x7_1) ∧ Aside0 (IsS111 w0 w' g s0_0 x1001_1 x1002_1) ∧ Aside0 (KeepBut w w' g none) ∧ Aside0 (Below w0.heap.size w0 w'))
  case atStart => exact ⟨(y223), (0), (s0_1), (s0_2), z4_20, H', ⟨Nat.le_refl _⟩, ⟨by (with_reducible repeat (first | apply Kd.R_alloc | apply Kd.R_drewN | apply Kd.R_drew)); exact HO225.out⟩, ⟨by repeat (first | (with_reducible first | exact HI0.out | apply IsS111.alloc | apply IsS111.drewN | apply IsS111.drew | apply IsS111.set_1 | apply IsS111.set_2) | exact HI0.out)⟩, ⟨by repeat (first | (with_reducible first | exact HK.out | apply KeepBut.set_ | apply keep_drewN | apply keep_drew | apply keep_alloc) | exact HK.out)⟩, ⟨by repeat (first | (with_reducible first | exact HB.out | apply below_alloc | apply pw_below_drewN | apply below_drew1 | refine below_set ?_ (IsS111.ge HI0.out)) | exact HB.out)⟩⟩
  case round =>
    clear H'
    obtain ⟨x7_1, x8_1, x1001_1, x1002_1, rfl, HA, HK1, HO_7, HI0, HK, HB⟩ := hrel
    cases gk with
    | zero => exact absurd HA.out (by simp [spec_l05Block.l0])
    | succ k1 =>
      have H := HA.out
      clear HA
      simp only [spec_l05Block.l0] at H
      by_cases c6 : x8_1 < a1
      · rw [if_pos c6] at H
        have c6b0 : decide (x8_1 < a1) = true := decide_eq_true c6
        clear c6
        have HC7 := Aside0.mk H
        clear H
        go_upto_region 5 with (fail)
        go_cut [26] (fun v26 wc => ∃ (kq : Nat) (x26_6 : Bool) (x1001_6 : Int) (x1002_6 : Int), v26 = .bool x26_6 ∧ Aside0 (spec_l05Block.j1 kq a1 a2 x7_1 x8_1 x26_6 s0_0 x1001_6 x1002_6 = some (r1, r2, r3)) ∧ Aside0 (kq ≤ k1) ∧ Aside0 (Kd.R k119 119 wc w.heap.size (fun _ => True) u7 x7_1) ∧ Aside0 (IsS111 w0 wc g s0_0 x1001_6 x1002_6) ∧ Aside0 (KeepBut w wc g none) ∧ Aside0 (Below w0.heap.size w0 wc))
        case first =>
          have H := HC7.out
          clear HC7
          by_cases c8 : a2 < 2
          · rw [if_pos c8] at H
            have c8b0 : decide (a2 < 2) = true := decide_eq_true c8
            clear c8
            (first | rw [c8b0] | (simp only [i64_w, i32_w]; rw [c8b0]) | skip)
            by_cases c9 : (x7_1.length : Int) < 6
            · rw [if_pos c9] at H
              have c9b0 : decide ((x7_1.length : Int) < 6) = true := decide_eq_true c9
              have c9b1 : decide (x7_1.length < 6) = true := decide_eq_true (by omega)
              clear c9
              replace H := Option.bind_eq_some_iff.mp H
              obtain ⟨⟨t226, t227, t228⟩, A100, H⟩ := H
              replace H : (spec_l05Block.j1 k1 a1 a2 x7_1 x8_1 t226 s0_0 t227 t228) = some (r1, r2, r3) := H
              have A10 := Aside0.mk A100
              clear A100
              have H' := Aside0.mk H
              clear H
              obtain ⟨Ao11, co11, eo11⟩ := Kd.R_slice HO_7.out
              subst eo11
              go_wp2_with (first | (go_at_call 133; (with_reducible refine (spec_l01Once.calls g s0_0 x1001_1 x1002_1 5 t226 t227 t228 w0 _ ?side1 ?side2 A10.out).mono ?_); (case side1 => exact z4_5); (case side2 => exact z4_6); rintro e w12 ⟨rfl, hi, hb, hk⟩; have n0_ := Aside0.mk (Kd.R_mono (Kd.R_keep (IsS111.apart (show IsS111 w0 _ g s0_0 x1001_1 x1002_1 from by repeat (first | (with_reducible first | exact HI0.out | apply IsS111.alloc | apply IsS111.drewN | apply IsS111.drew | apply IsS111.set_1 | apply IsS111.set_2) | exact HI0.out)) z4_14 z4_34) hk (fun _ h => h.2)) (fun _ h => h.1)); have n1_ := Aside0.mk (KeepBut.trans z4_0 hk (.inl rfl)); have n2_ := Aside0.mk (hb); have n3_ := Aside0.mk (hi); clear HO_7; clear HK; clear HB; clear HI0; have HO_7 := n0_; have HK := n1_; have HB := n2_; have HI0 := n3_; clear n0_ n1_ n2_ n3_; (try clear hb); (try clear hb2); (try clear hk); (try clear hi)))
              go_meet
              case rel => exact ⟨_, (t226), (t227), (t228), z4_20, H', ⟨by have := HK1.out; first | omega | exact Nat.le_refl _⟩, ⟨by (with_reducible repeat (first | apply Kd.R_alloc | apply Kd.R_drewN | apply Kd.R_drew)); exact HO_7.out⟩, ⟨by repeat (first | (with_reducible first | exact HI0.out | apply IsS111.alloc | apply IsS111.drewN | apply IsS111.drew | apply IsS111.set_1 | apply IsS111.set_2) | exact HI0.out)⟩, ⟨by repeat (first | (with_reducible first | exact HK.out | apply KeepBut.set_ | apply keep_drewN | apply keep_drew | apply keep_alloc) | exact HK.out)⟩, ⟨by repeat (first | (with_reducible first | exact HB.out | apply below_alloc | apply pw_below_drewN | apply below_drew1 | refine below_set ?_ (IsS111.ge HI0.out)) | exact HB.out)⟩⟩
            · rw [if_neg c9] at H
              have c9b0 : decide ((x7_1.length : Int) < 6) = false := decide_eq_false c9
              have c9b1 : decide (x7_1.length < 6) = false := decide_eq_false (by omega)
              clear c9
              have H' := Aside0.mk H
              clear H
              obtain ⟨Ao13, co13, eo13⟩ := Kd.R_slice HO_7.out
              subst eo13
              go_wp2
              go_meet
              case rel => exact ⟨_, (false), (x1001_1), (x1002_1), z4_20, H', ⟨by have := HK1.out; first | omega | exact Nat.le_refl _⟩, ⟨by (with_reducible repeat (first | apply Kd.R_alloc | apply Kd.R_drewN | apply Kd.R_drew)); exact HO_7.out⟩, ⟨by repeat (first | (with_reducible first | exact HI0.out | apply IsS111.alloc | apply IsS111.drewN | apply IsS111.drew | apply IsS111.set_1 | apply IsS111.set_2) | exact HI0.out)⟩, ⟨by repeat (first | (with_reducible first | exact HK.out | apply KeepBut.set_ | apply keep_drewN | apply keep_drew | apply keep_alloc) | exact HK.out)⟩, ⟨by repeat (first | (with_reducible first | exact HB.out | apply below_alloc | apply pw_below_drewN | apply below_drew1 | refine below_set ?_ (IsS111.ge HI0.out)) | exact HB.out)⟩⟩
          · rw [if_neg c8] at H
            have c8b0 : decide (a2 < 2) = false := decide_eq_false c8
            clear c8
            (first | rw [c8b0] | (simp only [i64_w, i32_w]; rw [c8b0]) | skip)
            have H' := Aside0.mk H
            clear H
            go_wp2
            go_meet
            case rel => exact ⟨_, (false), (x1001_1), (x1002_1), z4_20, H', ⟨by have := HK1.out; first | omega | exact Nat.le_refl _⟩, ⟨by (with_reducible repeat (first | apply Kd.R_alloc | apply Kd.R_drewN | apply Kd.R_drew)); exact HO_7.out⟩, ⟨by repeat (first | (with_reducible first | exact HI0.out | apply IsS111.alloc | apply IsS111.drewN | apply IsS111.drew | apply IsS111.set_1 | apply IsS111.set_2) | exact HI0.out)⟩, ⟨by repeat (first | (with_reducible first | exact HK.out | apply KeepBut.set_ | apply keep_drewN | apply keep_drew | apply keep_alloc) | exact HK.out)⟩, ⟨by repeat (first | (with_reducible first | exact HB.out | apply below_alloc | apply pw_below_drewN | apply below_drew1 | refine below_set ?_ (IsS111.ge HI0.out)) | exact HB.out)⟩⟩
        case rest =>
          clear HC7
          (try clear c6); (try clear c6b0)
          obtain ⟨kq, x26_6, x1001_6, x1002_6, rfl, HA, HJ6, HO_7, HI0, HK, HB⟩ := hcut
          cases kq with
          | zero => exact absurd HA.out (by simp [spec_l05Block.j1])
          | succ kj6 =>
            have H := HA.out
            clear HA
            simp only [spec_l05Block.j1] at H
            by_cases c14 : x26_6 = true
            · subst c14
              have H1 : ((spec_l01Below.f s0_0 x1001_6 x1002_6 3).bind fun bt229 => ((spec_l01Once.f s0_0 bt229.2.1 bt229.2.2 2).bind fun bt233 => (if bt233.1 = true then ((spec_l03Expr.f s0_0 bt233.2.1 bt233.2.2).bind fun bt236 => (if x7_1.length < 2932031007402 then ((some (x7_1 ++ [(⟨4, 0, 0, (⟨bt236.1, bt236.2.1, bt236.2.2.1⟩ : S26)⟩ : S119)] : List (S119))).bind fun y241 => ((spec_l01Below.f s0_0 bt236.2.2.2.1 bt236.2.2.2.2 2).bind fun bt244 => ((spec_l05Block.f kj6 s0_0 bt244.2.1 bt244.2.2 (wrap64 (1 + bt244.1)) (wrap64 (a2 + 1))).bind fun bt247 => (if y241.length + bt247.1.length < 2932031007402 then ((some (y241 ++ bt247.1 : List (S119))).bind fun y252 => (if y252.length < 2932031007402 then (spec_l05Block.l0 kj6 a1 a2 (y252 ++ [(⟨6, 0, 0, (⟨0, 0, 0⟩ : S26)⟩ : S119)]) (wrap64 (x8_1 + 1)) s0_0 bt247.2.1 bt247.2.2) else (none))) else (none))))) else (none))) else (if x7_1.length < 2932031007402 then ((some (x7_1 ++ [(⟨5, 0, wrap64 (1 + bt229.1), (⟨0, 0, 0⟩ : S26)⟩ : S119)] : List (S119))).bind fun y258 => ((spec_l01Below.f s0_0 bt233.2.1 bt233.2.2 2).bind fun bt261 => ((spec_l05Block.f kj6 s0_0 bt261.2.1 bt261.2.2 (wrap64 (1 + bt261.1)) (wrap64 (a2 + 1))).bind fun bt264 => (if y258.length + bt264.1.length < 2932031007402 then ((some (y258 ++ bt264.1 : List (S119))).bind fun y269 => (if y269.length < 2932031007402 then (spec_l05Block.l0 kj6 a1 a2 (y269 ++ [(⟨6, 0, 0, (⟨0, 0, 0⟩ : S26)⟩ : S119)]) (wrap64 (x8_1 + 1)) s0_0 bt264.2.1 bt264.2.2) else (none))) else (none))))) else (none))))) = some (r1, r2, r3) := by rw [if_pos rfl] at H; exact H
              clear H
              have H := H1
              clear H1
              replace H := Option.bind_eq_some_iff.mp H
              obtain ⟨⟨t229, t230, t231⟩, A150, H⟩ := H
              replace H : ((spec_l01Once.f s0_0 t230 t231 2).bind fun bt233 => (if bt233.1 = true then ((spec_l03Expr.f s0_0 bt233.2.1 bt233.2.2).bind fun bt236 => (if x7_1.length < 2932031007402 then ((some (x7_1 ++ [(⟨4, 0, 0, (⟨bt236.1, bt236.2.1, bt236.2.2.1⟩ : S26)⟩ : S119)] : List (S119))).bind fun y241 => ((spec_l01Below.f s0_0 bt236.2.2.2.1 bt236.2.2.2.2 2).bind fun bt244 => ((spec_l05Block.f kj6 s0_0 bt244.2.1 bt244.2.2 (wrap64 (1 + bt244.1)) (wrap64 (a2 + 1))).bind fun bt247 => (if y241.length + bt247.1.length < 2932031007402 then ((some (y241 ++ bt247.1 : List (S119))).bind fun y252 => (if y252.length < 2932031007402 then (spec_l05Block.l0 kj6 a1 a2 (y252 ++ [(⟨6, 0, 0, (⟨0, 0, 0⟩ : S26)⟩ : S119)]) (wrap64 (x8_1 + 1)) s0_0 bt247.2.1 bt247.2.2) else (none))) else (none))))) else (none))) else (if x7_1.length < 2932031007402 then ((some (x7_1 ++ [(⟨5, 0, wrap64 (1 + t229), (⟨0, 0, 0⟩ : S26)⟩ : S119)] : List (S119))).bind fun y258 => ((spec_l01Below.f s0_0 bt233.2.1 bt233.2.2 2).bind fun bt261 => ((spec_l05Block.f kj6 s0_0 bt261.2.1 bt261.2.2 (wrap64 (1 + bt261.1)) (wrap64 (a2 + 1))).bind fun bt264 => (if y258.length + bt264.1.length < 2932031007402 then ((some (y258 ++ bt264.1 : List (S119))).bind fun y269 => (if y269.length < 2932031007402 then (spec_l05Block.l0 kj6 a1 a2 (y269 ++ [(⟨6, 0, 0, (⟨0, 0, 0⟩ : S26)⟩ : S119)]) (wrap64 (x8_1 + 1)) s0_0 bt264.2.1 bt264.2.2) else (none))) else (none))))) else (none)))) = some (r1, r2, r3) := H
              have A15 := Aside0.mk A150
              clear A150
              replace H := Option.bind_eq_some_iff.mp H
              obtain ⟨⟨t233, t234, t235⟩, A160, H⟩ := H
              replace H : (if t233 = true then ((spec_l03Expr.f s0_0 t234 t235).bind fun bt236 => (if x7_1.length < 2932031007402 then ((some (x7_1 ++ [(⟨4, 0, 0, (⟨bt236.1, bt236.2.1, bt236.2.2.1⟩ : S26)⟩ : S119)] : List (S119))).bind fun y241 => ((spec_l01Below.f s0_0 bt236.2.2.2.1 bt236.2.2.2.2 2).bind fun bt244 => ((spec_l05Block.f kj6 s0_0 bt244.2.1 bt244.2.2 (wrap64 (1 + bt244.1)) (wrap64 (a2 + 1))).bind fun bt247 => (if y241.length + bt247.1.length < 2932031007402 then ((some (y241 ++ bt247.1 : List (S119))).bind fun y252 => (if y252.length < 2932031007402 then (spec_l05Block.l0 kj6 a1 a2 (y252 ++ [(⟨6, 0, 0, (⟨0, 0, 0⟩ : S26)⟩ : S119)]) (wrap64 (x8_1 + 1)) s0_0 bt247.2.1 bt247.2.2) else (none))) else (none))))) else (none))) else (if x7_1.length < 2932031007402 then ((some (x7_1 ++ [(⟨5, 0, wrap64 (1 + t229), (⟨0, 0, 0⟩ : S26)⟩ : S119)] : List (S119))).bind fun y258 => ((spec_l01Below.f s0_0 t234 t235 2).bind fun bt261 => ((spec_l05Block.f kj6 s0_0 bt261.2.1 bt261.2.2 (wrap64 (1 + bt261.1)) (wrap64 (a2 + 1))).bind fun bt264 => (if y258.length + bt264.1.length < 2932031007402 then ((some (y258 ++ bt264.1 : List (S119))).bind fun y269 => (if y269.length < 2932031007402 then (spec_l05Block.l0 kj6 a1 a2 (y269 ++ [(⟨6, 0, 0, (⟨0, 0, 0⟩ : S26)⟩ : S119)]) (wrap64 (x8_1 + 1)) s0_0 bt264.2.1 bt264.2.2) else (none))) else (none))))) else (none))) = some (r1, r2, r3) := H
              have A16 := Aside0.mk A160
              clear A160
              by_cases c17 : t233 = true
              · subst c17
                have H1 : ((spec_l03Expr.f s0_0 t234 t235).bind fun bt236 => (if x7_1.length < 2932031007402 then ((some (x7_1 ++ [(⟨4, 0, 0, (⟨bt236.1, bt236.2.1, bt236.2.2.1⟩ : S26)⟩ : S119)] : List (S119))).bind fun y241 => ((spec_l01Below.f s0_0 bt236.2.2.2.1 bt236.2.2.2.2 2).bind fun bt244 => ((spec_l05Block.f kj6 s0_0 bt244.2.1 bt244.2.2 (wrap64 (1 + bt244.1)) (wrap64 (a2 + 1))).bind fun bt247 => (if y241.length + bt247.1.length < 2932031007402 then ((some (y241 ++ bt247.1 : List (S119))).bind fun y252 => (if y252.length < 2932031007402 then (spec_l05Block.l0 kj6 a1 a2 (y252 ++ [(⟨6, 0, 0, (⟨0, 0, 0⟩ : S26)⟩ : S119)]) (wrap64 (x8_1 + 1)) s0_0 bt247.2.1 bt247.2.2) else (none))) else (none))))) else (none))) = some (r1, r2, r3) := by rw [if_pos rfl] at H; exact H
                clear H
                have H := H1
                clear H1
                replace H := Option.bind_eq_some_iff.mp H
                obtain ⟨⟨t236, t237, t238, t239, t240⟩, A180, H⟩ := H
                replace H : (if x7_1.length < 2932031007402 then ((some (x7_1 ++ [(⟨4, 0, 0, (⟨t236, t237, t238⟩ : S26)⟩ : S119)] : List (S119))).bind fun y241 => ((spec_l01Below.f s0_0 t239 t240 2).bind fun bt244 => ((spec_l05Block.f kj6 s0_0 bt244.2.1 bt244.2.2 (wrap64 (1 + bt244.1)) (wrap64 (a2 + 1))).bind fun bt247 => (if y241.length + bt247.1.length < 2932031007402 then ((some (y241 ++ bt247.1 : List (S119))).bind fun y252 => (if y252.length < 2932031007402 then (spec_l05Block.l0 kj6 a1 a2 (y252 ++ [(⟨6, 0, 0, (⟨0, 0, 0⟩ : S26)⟩ : S119)]) (wrap64 (x8_1 + 1)) s0_0 bt247.2.1 bt247.2.2) else (none))) else (none))))) else (none)) = some (r1, r2, r3) := H
                have A18 := Aside0.mk A180
                clear A180
                by_cases c19 : x7_1.length < 2932031007402
                · rw [if_pos c19] at H
                  have LMc19 := Aside0.mk c19
                  clear c19
                  obtain ⟨y241, hy241⟩ : ∃ y_ : List (S119), y_ = (x7_1 ++ [(⟨4, 0, 0, (⟨t236, t237, t238⟩ : S26)⟩ : S119)]) := ⟨_, rfl⟩
                  replace H : ((spec_l01Below.f s0_0 t239 t240 2).bind fun bt244 => ((spec_l05Block.f kj6 s0_0 bt244.2.1 bt244.2.2 (wrap64 (1 + bt244.1)) (wrap64 (a2 + 1))).bind fun bt247 => (if y241.length + bt247.1.length < 2932031007402 then ((some (y241 ++ bt247.1 : List (S119))).bind fun y252 => (if y252.length < 2932031007402 then (spec_l05Block.l0 kj6 a1 a2 (y252 ++ [(⟨6, 0, 0, (⟨0, 0, 0⟩ : S26)⟩ : S119)]) (wrap64 (x8_1 + 1)) s0_0 bt247.2.1 bt247.2.2) else (none))) else (none)))) = some (r1, r2, r3) := by first | (rw [hy241]; with_reducible exact H) | (have H2_ := (Option.bind_some _ _).symm.trans H; rw [hy241]; with_reducible exact H2_) | (have H2_ := (Option.bind_some _ _).symm.trans H; with_reducible exact H2_) | with_reducible exact H | (rw [hy241]; exact H) | exact H
                  have Ny241 := Aside0.mk hy241
                  clear hy241
                  replace H := Option.bind_eq_some_iff.mp H
                  obtain ⟨⟨t244, t245, t246⟩, A200, H⟩ := H
                  replace H : ((spec_l05Block.f kj6 s0_0 t245 t246 (wrap64 (1 + t244)) (wrap64 (a2 + 1))).bind fun bt247 => (if y241.length + bt247.1.length < 2932031007402 then ((some (y241 ++ bt247.1 : List (S119))).bind fun y252 => (if y252.length < 2932031007402 then (spec_l05Block.l0 kj6 a1 a2 (y252 ++ [(⟨6, 0, 0, (⟨0, 0, 0⟩ : S26)⟩ : S119)]) (wrap64 (x8_1 + 1)) s0_0 bt247.2.1 bt247.2.2) else (none))) else (none))) = some (r1, r2, r3) := H
                  have A20 := Aside0.mk A200
                  clear A200
                  replace H := Option.bind_eq_some_iff.mp H
                  obtain ⟨⟨t247, t250, t251⟩, A210, H⟩ := H
                  replace H : (if y241.length + t247.length < 2932031007402 then ((some (y241 ++ t247 : List (S119))).bind fun y252 => (if y252.length < 2932031007402 then (spec_l05Block.l0 kj6 a1 a2 (y252 ++ [(⟨6, 0, 0, (⟨0, 0, 0⟩ : S26)⟩ : S119)]) (wrap64 (x8_1 + 1)) s0_0 t250 t251) else (none))) else (none)) = some (r1, r2, r3) := H
                  have A21 := Aside0.mk A210
                  clear A210
                  by_cases c22 : y241.length + t247.length < 2932031007402
                  · rw [if_pos c22] at H
                    have LMc22 := Aside0.mk c22
                    clear c22
                    obtain ⟨y252, hy252⟩ : ∃ y_ : List (S119), y_ = (y241 ++ t247) := ⟨_, rfl⟩
                    replace H : (if y252.length < 2932031007402 then (spec_l05Block.l0 kj6 a1 a2 (y252 ++ [(⟨6, 0, 0, (⟨0, 0, 0⟩ : S26)⟩ : S119)]) (wrap64 (x8_1 + 1)) s0_0 t250 t251) else (none)) = some (r1, r2, r3) := by first | (rw [hy252]; with_reducible exact H) | (have H2_ := (Option.bind_some _ _).symm.trans H; rw [hy252]; with_reducible exact H2_) | (have H2_ := (Option.bind_some _ _).symm.trans H; with_reducible exact H2_) | with_reducible exact H | (rw [hy252]; exact H) | exact H
                    have Ny252 := Aside0.mk hy252
                    clear hy252
                    by_cases c23 : y252.length < 2932031007402
                    · rw [if_pos c23] at H
                      have LMc23 := Aside0.mk c23
                      clear c23
                      obtain ⟨y255, hy255⟩ : ∃ y_ : List (S119), y_ = (y252 ++ [(⟨6, 0, 0, (⟨0, 0, 0⟩ : S26)⟩ : S119)]) := ⟨_, rfl⟩
                      replace H : (spec_l05Block.l0 kj6 a1 a2 y255 (wrap64 (x8_1 + 1)) s0_0 t250 t251) = some (r1, r2, r3) := by first | (rw [hy255]; with_reducible exact H) | (have H2_ := (Option.bind_some _ _).symm.trans H; rw [hy255]; with_reducible exact H2_) | (have H2_ := (Option.bind_some _ _).symm.trans H; with_reducible exact H2_) | with_reducible exact H | (rw [hy255]; exact H) | exact H
                      have Ny255 := Aside0.mk hy255
                      clear hy255
                      have H' := Aside0.mk H
                      clear H
                      go_wp2_with (first | ((first | ((with_reducible refine gate_callee (f := 66) rfl ?_); refine goesL_ (some 28) rfl rfl Try.func66 z4_25 rfl #[.pointer (some ⟨g, 0, none⟩), .int .i64 3] rfl z4_1 ?_; (with_reducible refine (spec_l01Below.calls g s0_0 x1001_6 x1002_6 3 t229 t230 t231 w0 _ ?side1 ?side2 A15.out).mono ?_)) | (go_at_call 66; (with_reducible refine (spec_l01Below.calls g s0_0 x1001_6 x1002_6 3 t229 t230 t231 w0 _ ?side1 ?side2 A15.out).mono ?_))); (case side1 => exact z4_5); (case side2 => exact z4_6); rintro e w24 ⟨rfl, hi, hb, hk⟩; (first | refine ⟨_, rfl, ?_⟩ | skip); have n0_ := Aside0.mk (Kd.R_mono (Kd.R_keep (IsS111.apart (show IsS111 w0 _ g s0_0 x1001_6 x1002_6 from by repeat (first | (with_reducible first | exact HI0.out | apply IsS111.alloc | apply IsS111.drewN | apply IsS111.drew | apply IsS111.set_1 | apply IsS111.set_2) | exact HI0.out)) z4_14 z4_34) hk (fun _ h => h.2)) (fun _ h => h.1)); have n1_ := Aside0.mk (KeepBut.trans z4_0 hk (.inl rfl)); have n2_ := Aside0.mk (hb); have n3_ := Aside0.mk (hi); clear HO_7; clear HK; clear HB; clear HI0; have HO_7 := n0_; have HK := n1_; have HB := n2_; have HI0 := n3_; clear n0_ n1_ n2_ n3_; (try clear hb); (try clear hb2); (try clear hk); (try clear hi)) | ((with_reducible refine gate_dst (N := 9) rfl ?_); (try (refine gate_guard (by rfl) ?_; dsimp only)); refine box_event ?hg (N := 9) ?hd (cs := #[.int .i64 0, .int .i64 0, .int .i64 0, .int .i64 0, .int .i64 0, .int .i64 0]) (t := 119) ?hr ?_; (case hd => rfl); (case hg => rfl); (case hr => exact z4_21); intro gb232 hg w25 hbox hb; have n0_ := Aside0.mk (Kd.R_below (Kd.R_elderB z4_14 gb232 (Nat.le_of_eq hg.symm)) hb); have n1_ := Aside0.mk (IsS111.below z4_5 hb); have n2_ := Aside0.mk (KeepBut.trans z4_0 (KeepBut.of_below hb g none) (.inl rfl)); have n3_ := Aside0.mk (below_step z4_6 hb); have n4_ := Aside0.mk (hbox); have n5_ := Aside0.mk ((z4_36 : w.heap.size ≤ gb232)); have n6_ := Aside0.mk ((Nat.le_trans HW0.out (z4_36 : w.heap.size ≤ gb232) : w0.heap.size ≤ gb232)); have n7_ := Aside0.mk ((z4_30 : g ≠ gb232)); have n8_ := Aside0.mk ((z4_32 : gb232 ≠ g)); clear HO_7; clear HI0; clear HK; clear HB; have HO_7 := n0_; have HI0 := n1_; have HK := n2_; have HB := n3_; have BK232 := n4_; have GW232 := n5_; have GE232 := n6_; have NB0_232 := n7_; have NB232_0 := n8_; clear n0_ n1_ n2_ n3_ n4_ n5_ n6_ n7_ n8_; clear hb hbox hg; have hnb26 := NB232_0.out; have hnc26 := NB0_232.out; have hcz27_0 : w25.cell? ⟨gb232, 0, none⟩ = some (.int .i64 0) := (blk_cell BK232.out 0).trans rfl; have hcz27_1 : w25.cell? ⟨gb232, 1, none⟩ = some (.int .i64 0) := (blk_cell BK232.out 1).trans rfl; have hcz27_2 : w25.cell? ⟨gb232, 2, none⟩ = some (.int .i64 0) := (blk_cell BK232.out 2).trans rfl; have hcz27_3 : w25.cell? ⟨gb232, 3, none⟩ = some (.int .i64 0) := (blk_cell BK232.out 3).trans rfl; have hcz27_4 : w25.cell? ⟨gb232, 4, none⟩ = some (.int .i64 0) := (blk_cell BK232.out 4).trans rfl; have hcz27_5 : w25.cell? ⟨gb232, 5, none⟩ = some (.int .i64 0) := (blk_cell BK232.out 5).trans rfl; have hfz27_0 := blk_frozen BK232.out 0; have hfz27_1 := blk_frozen BK232.out 1; have hfz27_2 := blk_frozen BK232.out 2; have hfz27_3 := blk_frozen BK232.out 3; have hfz27_4 := blk_frozen BK232.out 4; have hfz27_5 := blk_frozen BK232.out 5) | ((with_reducible refine gate_store (t := 119) (p := 9) rfl ?_); refine store_event (t := 119) (p := 9) (v := ?vo_w28) (w1 := ((((((w25.setCell ⟨gb232, 0, none⟩ (.int .i64 5)).setCell ⟨gb232, 1, none⟩ (.int .i64 0)).setCell ⟨gb232, 2, none⟩ (.int .i64 (wrap64 (1 + t229)))).setCell ⟨gb232, 3, none⟩ (.int .i64 0)).setCell ⟨gb232, 4, none⟩ (.int .i64 0)).setCell ⟨gb232, 5, none⟩ (.int .i64 0))) ?hg ?ho ?hn ?hr ?_; (case ho => rfl); (case hg => rfl); (case hn => rfl); (case hr => exact z4_21); intro w28 hw; have n0_ : Aside0 (Kd.R k119 119 w28 w.heap.size (fun k_ => k_ ≠ gb232) u7 x7_1) := ⟨z4_19⟩; have n1_ : Aside0 (w28.heap[gb232]? = some (.cells #[.int .i64 5, .int .i64 0, .int .i64 (wrap64 (1 + t229)), .int .i64 0, .int .i64 0, .int .i64 0] 119 (0, 0))) := ⟨z4_10⟩; have n2_ : Aside0 (IsS111 w0 w28 g s0_0 t230 t231) := ⟨(by rw [hw]; exact z4_3)⟩; have n3_ : Aside0 (KeepBut w w28 g none) := ⟨(by rw [hw]; exact z4_2)⟩; have n4_ : Aside0 (Below w0.heap.size w0 w28) := ⟨(by rw [hw]; exact z4_4)⟩; clear hw; clear HO_7; clear BK232; clear HI0; clear HK; clear HB; have HO_7 := n0_; have BK232 := n1_; have HI0 := n2_; have HK := n3_; have HB := n4_; clear n0_ n1_ n2_ n3_ n4_) | ((first | ((with_reducible refine gate_callee (f := 133) rfl ?_); refine goesL_ (some 32) rfl rfl Try.func133 z4_25 rfl #[.pointer (some ⟨g, 0, none⟩), .int .i64 2] rfl z4_1 ?_; (with_reducible refine (spec_l01Once.calls g s0_0 t230 t231 2 true t234 t235 w0 _ ?side1 ?side2 A16.out).mono ?_)) | (go_at_call 133; (with_reducible refine (spec_l01Once.calls g s0_0 t230 t231 2 true t234 t235 w0 _ ?side1 ?side2 A16.out).mono ?_))); (case side1 => exact z4_3); (case side2 => exact z4_4); rintro e w29 ⟨rfl, hi, hb, hk⟩; (first | refine ⟨_, rfl, ?_⟩ | skip); have n0_ := Aside0.mk (Kd.R_mono (Kd.R_keep (IsS111.apart (show IsS111 w0 _ g s0_0 t230 t231 from by repeat (first | (with_reducible first | exact HI0.out | apply IsS111.alloc | apply IsS111.drewN | apply IsS111.drew | apply IsS111.set_1 | apply IsS111.set_2 | refine IsS111.far ?_ NB0_232.out _) | exact HI0.out)) z4_14 z4_34) hk (fun _ h => h.2)) (fun _ h => h.1)); have n1_ := Aside0.mk (KeepBut.blk hk (g' := gb232) (o := .cells #[.int .i64 5, .int .i64 0, .int .i64 (wrap64 (1 + t229)), .int .i64 0, .int .i64 0, .int .i64 0] 119 (0, 0)) z4_7 NB232_0.out (by simp)); have n2_ := Aside0.mk (KeepBut.trans z4_2 hk (.inl rfl)); have n3_ := Aside0.mk (hb); have n4_ := Aside0.mk (hi); clear HO_7; clear BK232; clear HK; clear HB; clear HI0; have HO_7 := n0_; have BK232 := n1_; have HK := n2_; have HB := n3_; have HI0 := n4_; clear n0_ n1_ n2_ n3_ n4_; (try clear hb); (try clear hb2); (try clear hk); (try clear hi)) | ((first | ((with_reducible refine gate_callee (f := 60) rfl ?_); refine goesL_ (some 34) rfl rfl Try.func60 z4_25 rfl #[.pointer (some ⟨g, 0, none⟩)] rfl z4_1 ?_; (with_reducible refine (spec_l03Expr.calls g s0_0 t234 t235 t236 t237 t238 t239 t240 w0 _ ?side1 ?side2 A18.out).mono ?_)) | (go_at_call 60; (with_reducible refine (spec_l03Expr.calls g s0_0 t234 t235 t236 t237 t238 t239 t240 w0 _ ?side1 ?side2 A18.out).mono ?_))); (case side1 => exact z4_3); (case side2 => exact z4_4); rintro e w30 ⟨rfl, hi, hb, hk⟩; (first | refine ⟨_, rfl, ?_⟩ | skip); have n0_ := Aside0.mk (Kd.R_mono (Kd.R_keep (IsS111.apart (show IsS111 w0 _ g s0_0 t234 t235 from by repeat (first | (with_reducible first | exact HI0.out | apply IsS111.alloc | apply IsS111.drewN | apply IsS111.drew | apply IsS111.set_1 | apply IsS111.set_2 | refine IsS111.far ?_ NB0_232.out _) | exact HI0.out)) z4_14 z4_34) hk (fun _ h => h.2)) (fun _ h => h.1)); have n1_ := Aside0.mk (KeepBut.blk hk (g' := gb232) (o := .cells #[.int .i64 5, .int .i64 0, .int .i64 (wrap64 (1 + t229)), .int .i64 0, .int .i64 0, .int .i64 0] 119 (0, 0)) z4_7 NB232_0.out (by simp)); have n2_ := Aside0.mk (KeepBut.trans z4_2 hk (.inl rfl)); have n3_ := Aside0.mk (hb); have n4_ := Aside0.mk (hi); clear HO_7; clear BK232; clear HK; clear HB; clear HI0; have HO_7 := n0_; have BK232 := n1_; have HK := n2_; have HB := n3_; have HI0 := n4_; clear n0_ n1_ n2_ n3_ n4_; (try clear hb); (try clear hb2); (try clear hk); (try clear hi); have hcz31_0 : w30.cell? ⟨gb232, 0, none⟩ = some (.int .i64 5) := (blk_cell BK232.out 0).trans rfl; have hcz31_1 : w30.cell? ⟨gb232, 1, none⟩ = some (.int .i64 0) := (blk_cell BK232.out 1).trans rfl; have hcz31_2 : w30.cell? ⟨gb232, 2, none⟩ = some (.int .i64 (wrap64 (1 + t229))) := (blk_cell BK232.out 2).trans rfl; have hcz31_3 : w30.cell? ⟨gb232, 3, none⟩ = some (.int .i64 0) := (blk_cell BK232.out 3).trans rfl; have hcz31_4 : w30.cell? ⟨gb232, 4, none⟩ = some (.int .i64 0) := (blk_cell BK232.out 4).trans rfl; have hcz31_5 : w30.cell? ⟨gb232, 5, none⟩ = some (.int .i64 0) := (blk_cell BK232.out 5).trans rfl; have hfz31_0 := blk_frozen BK232.out 0; have hfz31_1 := blk_frozen BK232.out 1; have hfz31_2 := blk_frozen BK232.out 2; have hfz31_3 := blk_frozen BK232.out 3; have hfz31_4 := blk_frozen BK232.out 4; have hfz31_5 := blk_frozen BK232.out 5) | ((with_reducible refine gate_store (t := 119) (p := 9) rfl ?_); refine store_event (t := 119) (p := 9) (v := ?vo_w32) (w1 := ((((((w30.setCell ⟨gb232, 0, none⟩ (.int .i64 4)).setCell ⟨gb232, 1, none⟩ (.int .i64 0)).setCell ⟨gb232, 2, none⟩ (.int .i64 0)).setCell ⟨gb232, 3, none⟩ (.int .i64 t236)).setCell ⟨gb232, 4, none⟩ (.int .i64 t237)).setCell ⟨gb232, 5, none⟩ (.int .i64 t238))) ?hg ?ho ?hn ?hr ?_; (case ho => rfl); (case hg => rfl); (case hn => rfl); (case hr => exact z4_21); intro w32 hw; have n0_ : Aside0 (Kd.R k119 119 w32 w.heap.size (fun k_ => k_ ≠ gb232) u7 x7_1) := ⟨(by rw [hw]; exact (by (with_reducible repeat (first | apply Kd.R_alloc | apply Kd.R_drewN | apply Kd.R_drew)); exact Kd.R_mono (Kd.R_far (p := ⟨gb232, 5, none⟩) (Kd.R_far (p := ⟨gb232, 4, none⟩) (Kd.R_far (p := ⟨gb232, 3, none⟩) (Kd.R_far (p := ⟨gb232, 2, none⟩) (Kd.R_far (p := ⟨gb232, 1, none⟩) (Kd.R_far (p := ⟨gb232, 0, none⟩) (Kd.R_mono HO_7.out (fun k_ hk => (⟨hk, hk⟩ : _ ∧ k_ ≠ gb232))) (fun _ hk => hk.2) (.int .i64 4)) (fun _ hk => hk.2) (.int .i64 0)) (fun _ hk => hk.2) (.int .i64 0)) (fun _ hk => hk.2) (.int .i64 t236)) (fun _ hk => hk.2) (.int .i64 t237)) (fun _ hk => hk.2) (.int .i64 t238)) (fun _ hk => hk.1)))⟩; have n1_ : Aside0 (w32.heap[gb232]? = some (.cells #[.int .i64 4, .int .i64 0, .int .i64 0, .int .i64 t236, .int .i64 t237, .int .i64 t238] 119 (0, 0))) := ⟨(by rw [hw]; exact (by (with_reducible repeat (first | refine blk_drewN ?_ _ | refine blk_drew ?_ | refine blk_alloc ?_ _)); refine blk_put (cs := #[.int .i64 4, .int .i64 0, .int .i64 0, .int .i64 t236, .int .i64 t237, .int .i64 0]) ?_ 5 _ rfl; (with_reducible repeat (first | refine blk_drewN ?_ _ | refine blk_drew ?_ | refine blk_alloc ?_ _)); refine blk_put (cs := #[.int .i64 4, .int .i64 0, .int .i64 0, .int .i64 t236, .int .i64 0, .int .i64 0]) ?_ 4 _ rfl; (with_reducible repeat (first | refine blk_drewN ?_ _ | refine blk_drew ?_ | refine blk_alloc ?_ _)); refine blk_put (cs := #[.int .i64 4, .int .i64 0, .int .i64 0, .int .i64 0, .int .i64 0, .int .i64 0]) ?_ 3 _ rfl; (with_reducible repeat (first | refine blk_drewN ?_ _ | refine blk_drew ?_ | refine blk_alloc ?_ _)); refine blk_put (cs := #[.int .i64 4, .int .i64 0, .int .i64 (wrap64 (1 + t229)), .int .i64 0, .int .i64 0, .int .i64 0]) ?_ 2 _ rfl; (with_reducible repeat (first | refine blk_drewN ?_ _ | refine blk_drew ?_ | refine blk_alloc ?_ _)); refine blk_put (cs := #[.int .i64 4, .int .i64 0, .int .i64 (wrap64 (1 + t229)), .int .i64 0, .int .i64 0, .int .i64 0]) ?_ 1 _ rfl; (with_reducible repeat (first | refine blk_drewN ?_ _ | refine blk_drew ?_ | refine blk_alloc ?_ _)); refine blk_put (cs := #[.int .i64 5, .int .i64 0, .int .i64 (wrap64 (1 + t229)), .int .i64 0, .int .i64 0, .int .i64 0]) ?_ 0 _ rfl; (with_reducible repeat (first | refine blk_drewN ?_ _ | refine blk_drew ?_ | refine blk_alloc ?_ _)); exact BK232.out))⟩; have n2_ : Aside0 (IsS111 w0 w32 g s0_0 t239 t240) := ⟨(by rw [hw]; exact z4_3)⟩; have n3_ : Aside0 (KeepBut w w32 g none) := ⟨(by rw [hw]; exact z4_2)⟩; have n4_ : Aside0 (Below w0.heap.size w0 w32) := ⟨(by rw [hw]; exact z4_4)⟩; clear hw; clear HO_7; clear BK232; clear HI0; clear HK; clear HB; have HO_7 := n0_; have BK232 := n1_; have HI0 := n2_; have HK := n3_; have HB := n4_; clear n0_ n1_ n2_ n3_ n4_; have hcz33_0 : w32.cell? ⟨gb232, 0, none⟩ = some (.int .i64 4) := (blk_cell BK232.out 0).trans rfl; have hcz33_1 : w32.cell? ⟨gb232, 1, none⟩ = some (.int .i64 0) := (blk_cell BK232.out 1).trans rfl; have hcz33_2 : w32.cell? ⟨gb232, 2, none⟩ = some (.int .i64 0) := (blk_cell BK232.out 2).trans rfl; have hcz33_3 : w32.cell? ⟨gb232, 3, none⟩ = some (.int .i64 t236) := (blk_cell BK232.out 3).trans rfl; have hcz33_4 : w32.cell? ⟨gb232, 4, none⟩ = some (.int .i64 t237) := (blk_cell BK232.out 4).trans rfl; have hcz33_5 : w32.cell? ⟨gb232, 5, none⟩ = some (.int .i64 t238) := (blk_cell BK232.out 5).trans rfl; have hfz33_0 := blk_frozen BK232.out 0; have hfz33_1 := blk_frozen BK232.out 1; have hfz33_2 := blk_frozen BK232.out 2; have hfz33_3 := blk_frozen BK232.out 3; have hfz33_4 := blk_frozen BK232.out 4; have hfz33_5 := blk_frozen BK232.out 5) | ((with_reducible refine gate_builtin (b := .append) (xs := #[.tmp 36, .tmp 38]) rfl ?_); (try (refine gate_guard (by rfl) ?_; dsimp only)); at_builtin; refine Kd.R_append k119 w.heap.size rfl (.tmp 36) (.tmp 38) 24 119 (.agg #[(.int .i64 0), (.int .i64 0), (.int .i64 0), (.int .i64 0), (.int .i64 0), (.int .i64 0)]) 48 rfl Try.underlying24 info119 rfl z4_34 (by omega) u7 x7_1 (⟨4, 0, 0, (⟨t236, t237, t238⟩ : S26)⟩ : S119) [.int .i64 4, .int .i64 0, .int .i64 0, .int .i64 t236, .int .i64 t237, .int .i64 t238] (fun k_ => k_ ≠ gb232) (fun _ => False) rfl rfl ?aP (fun _ hk => hk.elim) ?aF ?aO (Below.refl _ _) ?aS ?aL ?_; (case aP => exact k119_mkM _ _ _ (⟨4, 0, 0, (⟨t236, t237, t238⟩ : S26)⟩ : S119)); (case aF => exact (fun k_ hk => Kd.freshB (g := gb232) (o := .cells #[.int .i64 4, .int .i64 0, .int .i64 0, .int .i64 t236, .int .i64 t237, .int .i64 t238] 119 (0, 0)) z4_7 k_ hk)); (case aO => exact z4_14); (case aS => exact z4_39); (case aL => have := LMc19.out; omega); intro v242 w34 ho hb hg hat; rw [← Ny241.out] at ho; have n0_ := Aside0.mk (IsS111.grown z4_3 hg (IsS111.own_ne HI0.out HO_7.out z4_34)); have n1_ := Aside0.mk (blk_grown (g := gb232) (o := .cells #[.int .i64 4, .int .i64 0, .int .i64 0, .int .i64 t236, .int .i64 t237, .int .i64 t238] 119 (0, 0)) z4_7 hg (Kd.R_away HO_7.out (fun _ hk => hk))); have n2_ := Aside0.mk (below_weaken z4_4 HL.out hb); have n3_ := Aside0.mk (KeepBut.trans z4_2 (KeepBut.of_grown hg g) (Kd.R_base2 HO_7.out)); have n4_ := Aside0.mk (ho); clear HI0; clear BK232; clear HB; clear HK; clear HO_7; have HI0 := n0_; have BK232 := n1_; have HB := n2_; have HK := n3_; have HO243 := n4_; clear n0_ n1_ n2_ n3_ n4_; clear ho hb hg hat) | ((first | ((with_reducible refine gate_callee (f := 66) rfl ?_); refine goesL_ (some 43) rfl rfl Try.func66 z4_25 rfl #[.pointer (some ⟨g, 0, none⟩), .int .i64 2] rfl z4_1 ?_; (with_reducible refine (spec_l01Below.calls g s0_0 t239 t240 2 t244 t245 t246 w0 _ ?side1 ?side2 A20.out).mono ?_)) | (go_at_call 66; (with_reducible refine (spec_l01Below.calls g s0_0 t239 t240 2 t244 t245 t246 w0 _ ?side1 ?side2 A20.out).mono ?_))); (case side1 => exact z4_3); (case side2 => exact z4_4); rintro e w35 ⟨rfl, hi, hb, hk⟩; (first | refine ⟨_, rfl, ?_⟩ | skip); have n0_ := Aside0.mk (KeepBut.blk hk (g' := gb232) (o := .cells #[.int .i64 4, .int .i64 0, .int .i64 0, .int .i64 t236, .int .i64 t237, .int .i64 t238] 119 (0, 0)) z4_7 NB232_0.out (by simp)); have n1_ := Aside0.mk (Kd.R_mono (Kd.R_keep (IsS111.apart (show IsS111 w0 _ g s0_0 t239 t240 from by repeat (first | (with_reducible first | exact HI0.out | apply IsS111.alloc | apply IsS111.drewN | apply IsS111.drew | apply IsS111.set_1 | apply IsS111.set_2 | refine IsS111.far ?_ NB0_232.out _) | exact HI0.out)) (by (with_reducible repeat (first | apply Kd.R_alloc | apply Kd.R_drewN | apply Kd.R_drew)); exact HO243.out) z4_34) hk (fun _ h => h.2)) (fun _ h => h.1)); have n2_ := Aside0.mk (KeepBut.trans z4_2 hk (.inl rfl)); have n3_ := Aside0.mk (hb); have n4_ := Aside0.mk (hi); clear BK232; clear HO243; clear HK; clear HB; clear HI0; have BK232 := n0_; have HO243 := n1_; have HK := n2_; have HB := n3_; have HI0 := n4_; clear n0_ n1_ n2_ n3_ n4_; (try clear hb); (try clear hb2); (try clear hk); (try clear hi)) | ((first | ((with_reducible refine gate_callee (f := 97) rfl ?_); refine goesL_ (some 47) rfl rfl Try.func97 z4_25 rfl #[.pointer (some ⟨g, 0, none⟩), .int .i64 (wrap64 (1 + t244)), .int .i64 (wrap64 (a2 + 1))] rfl z4_1 ?_; (with_reducible refine (ih kj6 (by have := HK1.out; have := HJ6.out; omega) g s0_0 t245 t246 (wrap64 (1 + t244)) (wrap64 (a2 + 1)) t247 t250 t251 w0 _ ?side1 ?side2 A21.out).mono ?_)) | (go_at_call 97; (with_reducible refine (ih kj6 (by have := HK1.out; have := HJ6.out; omega) g s0_0 t245 t246 (wrap64 (1 + t244)) (wrap64 (a2 + 1)) t247 t250 t251 w0 _ ?side1 ?side2 A21.out).mono ?_))); (case side1 => exact z4_3); (case side2 => exact z4_4); rintro e w36 ⟨v248, rfl, ho0, hi, hb, hk⟩; (first | refine ⟨_, rfl, ?_⟩ | skip); have n0_ := Aside0.mk (KeepBut.blk hk (g' := gb232) (o := .cells #[.int .i64 4, .int .i64 0, .int .i64 0, .int .i64 t236, .int .i64 t237, .int .i64 t238] 119 (0, 0)) z4_7 NB232_0.out (by simp)); have n1_ := Aside0.mk (Kd.R_mono (Kd.R_told (Kd.R_oldK (IsS111.apart (show IsS111 w0 _ g s0_0 t245 t246 from by repeat (first | (with_reducible first | exact HI0.out | apply IsS111.alloc | apply IsS111.drewN | apply IsS111.drew | apply IsS111.set_1 | apply IsS111.set_2 | refine IsS111.far ?_ NB0_232.out _) | exact HI0.out)) (by (with_reducible repeat (first | apply Kd.R_alloc | apply Kd.R_drewN | apply Kd.R_drew)); exact HO243.out) z4_34) hk) (Kd.R_base ho0)) (fun _ h_ => h_.1)); have n2_ := Aside0.mk (Kd.R_lower (Kd.R_newB (Kd.R_new' ho0 (Kd.R_lt (by (with_reducible repeat (first | apply Kd.R_alloc | apply Kd.R_drewN | apply Kd.R_drew)); exact HO243.out))) (g := gb232) (o := .cells #[.int .i64 4, .int .i64 0, .int .i64 0, .int .i64 t236, .int .i64 t237, .int .i64 t238] 119 (0, 0)) z4_7) (keep_size (w := w) (g := g) (row := none) z4_2)); have n3_ := Aside0.mk (KeepBut.trans z4_2 hk (.inl rfl)); have n4_ := Aside0.mk (hb); have n5_ := Aside0.mk (hi); clear BK232; clear HO243; clear HK; clear HB; clear HI0; have BK232 := n0_; have HO243 := n1_; have HO249 := n2_; have HK := n3_; have HB := n4_; have HI0 := n5_; clear n0_ n1_ n2_ n3_ n4_ n5_; (try clear hb); (try clear hb2); (try clear hk); (try clear hi); (try clear ho0); obtain ⟨Ao38, co38, eo38⟩ := Kd.R_slice HO249.out; subst eo38) | ((with_reducible refine gate_builtin (b := .append) (xs := #[.tmp 40, .tmp 47]) rfl ?_); (try (refine gate_guard (by rfl) ?_; dsimp only)); at_builtin; refine Kd.R_append_rows k119 w.heap.size rfl (.tmp 40) (.tmp 47) 24 119 (.agg #[(.int .i64 0), (.int .i64 0), (.int .i64 0), (.int .i64 0), (.int .i64 0), (.int .i64 0)]) 48 rfl Try.underlying24 info119 rfl z4_34 (by omega) v242 y241 t247 _ _ _ (fun k_ => some k_ ≠ (.slice Ao38 t247.length co38 : Value).ownBlock ∧ k_ ≠ gb232) (fun _ => False) rfl rfl ?aO ?aR (fun _ _ h => h) (fun _ h => h.elim) ?aF (Below.refl _ _) ?aS ?aL ?_; (case aR => repeat (first | exact (Kd.R_reads' HO249.out).2.2 | (with_reducible refine Kd.C_alloc ?_ _) | (with_reducible refine Kd.C_drewN ?_ _) | (with_reducible refine Kd.C_drew ?_))); (case aF => exact z4_38); (case aO => exact (by (with_reducible repeat (first | apply Kd.R_alloc | apply Kd.R_drewN | apply Kd.R_drew)); exact Kd.R_mono HO243.out (fun _ hk => ⟨hk.2, hk.1⟩))); (case aS => exact z4_39); (case aL => have := LMc22.out; omega); intro v253 w37 ho hb hg hat; rw [← Ny252.out] at ho; have n0_ := Aside0.mk (IsS111.grown z4_3 hg (IsS111.own_ne HI0.out HO243.out z4_34)); have n1_ := Aside0.mk (blk_grown (g := gb232) (o := .cells #[.int .i64 4, .int .i64 0, .int .i64 0, .int .i64 t236, .int .i64 t237, .int .i64 t238] 119 (0, 0)) z4_7 hg (Kd.R_away HO243.out (fun _ hk => hk.1))); have n2_ := Aside0.mk (Kd.R_after (ok := (fun k_ => k_ ≠ gb232)) (by (with_reducible repeat (first | apply Kd.R_alloc | apply Kd.R_drewN | apply Kd.R_drew)); exact Kd.R_mono HO249.out (fun _ hk => ⟨hk.2, hk.1.2⟩)) hg hat); have n3_ := Aside0.mk (below_weaken z4_4 HL.out hb); have n4_ := Aside0.mk (KeepBut.trans z4_2 (KeepBut.of_grown hg g) (Kd.R_base2 HO243.out)); have n5_ := Aside0.mk (ho); clear HI0; clear BK232; clear HO249; clear HB; clear HK; clear HO243; have HI0 := n0_; have BK232 := n1_; have HO249 := n2_; have HB := n3_; have HK := n4_; have HO254 := n5_; clear n0_ n1_ n2_ n3_ n4_ n5_; clear ho hb hg hat) | ((with_reducible refine gate_builtin (b := .append) (xs := #[.tmp 49, .tmp 51]) rfl ?_); (try (refine gate_guard (by rfl) ?_; dsimp only)); at_builtin; refine Kd.R_append k119 w.heap.size rfl (.tmp 49) (.tmp 51) 24 119 (.agg #[(.int .i64 0), (.int .i64 0), (.int .i64 0), (.int .i64 0), (.int .i64 0), (.int .i64 0)]) 48 rfl Try.underlying24 info119 rfl z4_34 (by omega) v253 y252 (⟨6, 0, 0, (⟨0, 0, 0⟩ : S26)⟩ : S119) [.int .i64 6, .int .i64 0, .int .i64 0, .int .i64 0, .int .i64 0, .int .i64 0] (fun k_ => some k_ ≠ (.slice Ao38 t247.length co38 : Value).ownBlock ∧ k_ ≠ gb232) (fun _ => False) rfl rfl ?aP (fun _ hk => hk.elim) ?aF ?aO (Below.refl _ _) ?aS ?aL ?_; (case aP => exact k119_mkM _ _ _ (⟨6, 0, 0, (⟨0, 0, 0⟩ : S26)⟩ : S119)); (case aF => exact z4_38); (case aO => exact (by (with_reducible repeat (first | apply Kd.R_alloc | apply Kd.R_drewN | apply Kd.R_drew)); exact HO254.out)); (case aS => exact z4_39); (case aL => have := LMc23.out; omega); intro v256 w39 ho hb hg hat; rw [← Ny255.out] at ho; have n0_ := Aside0.mk (IsS111.grown z4_3 hg (IsS111.own_ne HI0.out HO254.out z4_34)); have n1_ := Aside0.mk (blk_grown (g := gb232) (o := .cells #[.int .i64 4, .int .i64 0, .int .i64 0, .int .i64 t236, .int .i64 t237, .int .i64 t238] 119 (0, 0)) z4_7 hg (Kd.R_away HO254.out (fun _ hk => hk.2))); have n2_ := Aside0.mk (Kd.R_after (ok := (fun k_ => k_ ≠ gb232)) (by (with_reducible repeat (first | apply Kd.R_alloc | apply Kd.R_drewN | apply Kd.R_drew)); exact HO249.out) hg hat); have n3_ := Aside0.mk (below_weaken z4_4 HL.out hb); have n4_ := Aside0.mk (KeepBut.trans z4_2 (KeepBut.of_grown hg g) (Kd.R_base2 HO254.out)); have n5_ := Aside0.mk (ho); clear HI0; clear BK232; clear HO249; clear HB; clear HK; clear HO254; have HI0 := n0_; have BK232 := n1_; have HO249 := n2_; have HB := n3_; have HK := n4_; have HO257 := n5_; clear n0_ n1_ n2_ n3_ n4_ n5_; clear ho hb hg hat))
                      go_roundg kj6
                      case measure => have := HK1.out; have := HJ6.out; omega
                      case rel => exact ⟨(y255), (wrap64 (x8_1 + 1)), (t250), (t251), z4_20, H', ⟨by have := HK1.out; have := HJ6.out; omega⟩, ⟨by (with_reducible repeat (first | apply Kd.R_alloc | apply Kd.R_drewN | apply Kd.R_drew)); exact Kd.R_mono HO257.out (fun _ hk => trivial)⟩, ⟨by repeat (first | (with_reducible first | exact HI0.out | apply IsS111.alloc | apply IsS111.drewN | apply IsS111.drew | apply IsS111.set_1 | apply IsS111.set_2 | refine IsS111.far ?_ NB0_232.out _) | exact HI0.out)⟩, ⟨by repeat (first | (with_reducible first | exact HK.out | apply KeepBut.set_ | apply keep_drewN | apply keep_drew | apply keep_alloc | refine keep_far ?_ GW232.out _) | exact HK.out)⟩, ⟨by repeat (first | (with_reducible first | exact HB.out | apply below_alloc | apply pw_below_drewN | apply below_drew1 | refine below_set ?_ (IsS111.ge HI0.out) | refine below_set ?_ GE232.out) | exact HB.out)⟩⟩
                    · rw [if_neg c23] at H
                      exact absurd H (by simp)
                  · rw [if_neg c22] at H
                    exact absurd H (by simp)
                · rw [if_neg c19] at H
                  exact absurd H (by simp)
              · replace c17 := Bool.eq_false_iff.mpr c17
                subst c17
                have H1 : (if x7_1.length < 2932031007402 then ((some (x7_1 ++ [(⟨5, 0, wrap64 (1 + t229), (⟨0, 0, 0⟩ : S26)⟩ : S119)] : List (S119))).bind fun y258 => ((spec_l01Below.f s0_0 t234 t235 2).bind fun bt261 => ((spec_l05Block.f kj6 s0_0 bt261.2.1 bt261.2.2 (wrap64 (1 + bt261.1)) (wrap64 (a2 + 1))).bind fun bt264 => (if y258.length + bt264.1.length < 2932031007402 then ((some (y258 ++ bt264.1 : List (S119))).bind fun y269 => (if y269.length < 2932031007402 then (spec_l05Block.l0 kj6 a1 a2 (y269 ++ [(⟨6, 0, 0, (⟨0, 0, 0⟩ : S26)⟩ : S119)]) (wrap64 (x8_1 + 1)) s0_0 bt264.2.1 bt264.2.2) else (none))) else (none))))) else (none)) = some (r1, r2, r3) := by rw [if_neg (show ¬ (false = true) by decide)] at H; exact H
                clear H
                have H := H1
                clear H1
                by_cases c40 : x7_1.length < 2932031007402
                · rw [if_pos c40] at H
                  have LMc40 := Aside0.mk c40
                  clear c40
                  obtain ⟨y258, hy258⟩ : ∃ y_ : List (S119), y_ = (x7_1 ++ [(⟨5, 0, wrap64 (1 + t229), (⟨0, 0, 0⟩ : S26)⟩ : S119)]) := ⟨_, rfl⟩
                  replace H : ((spec_l01Below.f s0_0 t234 t235 2).bind fun bt261 => ((spec_l05Block.f kj6 s0_0 bt261.2.1 bt261.2.2 (wrap64 (1 + bt261.1)) (wrap64 (a2 + 1))).bind fun bt264 => (if y258.length + bt264.1.length < 2932031007402 then ((some (y258 ++ bt264.1 : List (S119))).bind fun y269 => (if y269.length < 2932031007402 then (spec_l05Block.l0 kj6 a1 a2 (y269 ++ [(⟨6, 0, 0, (⟨0, 0, 0⟩ : S26)⟩ : S119)]) (wrap64 (x8_1 + 1)) s0_0 bt264.2.1 bt264.2.2) else (none))) else (none)))) = some (r1, r2, r3) := by first | (rw [hy258]; with_reducible exact H) | (have H2_ := (Option.bind_some _ _).symm.trans H; rw [hy258]; with_reducible exact H2_) | (have H2_ := (Option.bind_some _ _).symm.trans H; with_reducible exact H2_) | with_reducible exact H | (rw [hy258]; exact H) | exact H
                  have Ny258 := Aside0.mk hy258
                  clear hy258
                  replace H := Option.bind_eq_some_iff.mp H
                  obtain ⟨⟨t261, t262, t263⟩, A410, H⟩ := H
                  replace H : ((spec_l05Block.f kj6 s0_0 t262 t263 (wrap64 (1 + t261)) (wrap64 (a2 + 1))).bind fun bt264 => (if y258.length + bt264.1.length < 2932031007402 then ((some (y258 ++ bt264.1 : List (S119))).bind fun y269 => (if y269.length < 2932031007402 then (spec_l05Block.l0 kj6 a1 a2 (y269 ++ [(⟨6, 0, 0, (⟨0, 0, 0⟩ : S26)⟩ : S119)]) (wrap64 (x8_1 + 1)) s0_0 bt264.2.1 bt264.2.2) else (none))) else (none))) = some (r1, r2, r3) := H
                  have A41 := Aside0.mk A410
                  clear A410
                  replace H := Option.bind_eq_some_iff.mp H
                  obtain ⟨⟨t264, t267, t268⟩, A420, H⟩ := H
                  replace H : (if y258.length + t264.length < 2932031007402 then ((some (y258 ++ t264 : List (S119))).bind fun y269 => (if y269.length < 2932031007402 then (spec_l05Block.l0 kj6 a1 a2 (y269 ++ [(⟨6, 0, 0, (⟨0, 0, 0⟩ : S26)⟩ : S119)]) (wrap64 (x8_1 + 1)) s0_0 t267 t268) else (none))) else (none)) = some (r1, r2, r3) := H
                  have A42 := Aside0.mk A420
                  clear A420
                  by_cases c43 : y258.length + t264.length < 2932031007402
                  · rw [if_pos c43] at H
                    have LMc43 := Aside0.mk c43
                    clear c43
                    obtain ⟨y269, hy269⟩ : ∃ y_ : List (S119), y_ = (y258 ++ t264) := ⟨_, rfl⟩
                    replace H : (if y269.length < 2932031007402 then (spec_l05Block.l0 kj6 a1 a2 (y269 ++ [(⟨6, 0, 0, (⟨0, 0, 0⟩ : S26)⟩ : S119)]) (wrap64 (x8_1 + 1)) s0_0 t267 t268) else (none)) = some (r1, r2, r3) := by first | (rw [hy269]; with_reducible exact H) | (have H2_ := (Option.bind_some _ _).symm.trans H; rw [hy269]; with_reducible exact H2_) | (have H2_ := (Option.bind_some _ _).symm.trans H; with_reducible exact H2_) | with_reducible exact H | (rw [hy269]; exact H) | exact H
                    have Ny269 := Aside0.mk hy269
                    clear hy269
                    by_cases c44 : y269.length < 2932031007402
                    · rw [if_pos c44] at H
                      have LMc44 := Aside0.mk c44
                      clear c44
                      obtain ⟨y272, hy272⟩ : ∃ y_ : List (S119), y_ = (y269 ++ [(⟨6, 0, 0, (⟨0, 0, 0⟩ : S26)⟩ : S119)]) := ⟨_, rfl⟩
                      replace H : (spec_l05Block.l0 kj6 a1 a2 y272 (wrap64 (x8_1 + 1)) s0_0 t267 t268) = some (r1, r2, r3) := by first | (rw [hy272]; with_reducible exact H) | (have H2_ := (Option.bind_some _ _).symm.trans H; rw [hy272]; with_reducible exact H2_) | (have H2_ := (Option.bind_some _ _).symm.trans H; with_reducible exact H2_) | with_reducible exact H | (rw [hy272]; exact H) | exact H
                      have Ny272 := Aside0.mk hy272
                      clear hy272
                      have H' := Aside0.mk H
                      clear H
                      go_wp2_with (first | ((first | ((with_reducible refine gate_callee (f := 66) rfl ?_); refine goesL_ (some 28) rfl rfl Try.func66 z4_25 rfl #[.pointer (some ⟨g, 0, none⟩), .int .i64 3] rfl z4_1 ?_; (with_reducible refine (spec_l01Below.calls g s0_0 x1001_6 x1002_6 3 t229 t230 t231 w0 _ ?side1 ?side2 A15.out).mono ?_)) | (go_at_call 66; (with_reducible refine (spec_l01Below.calls g s0_0 x1001_6 x1002_6 3 t229 t230 t231 w0 _ ?side1 ?side2 A15.out).mono ?_))); (case side1 => exact z4_5); (case side2 => exact z4_6); rintro e w45 ⟨rfl, hi, hb, hk⟩; (first | refine ⟨_, rfl, ?_⟩ | skip); have n0_ := Aside0.mk (Kd.R_mono (Kd.R_keep (IsS111.apart (show IsS111 w0 _ g s0_0 x1001_6 x1002_6 from by repeat (first | (with_reducible first | exact HI0.out | apply IsS111.alloc | apply IsS111.drewN | apply IsS111.drew | apply IsS111.set_1 | apply IsS111.set_2) | exact HI0.out)) z4_14 z4_34) hk (fun _ h => h.2)) (fun _ h => h.1)); have n1_ := Aside0.mk (KeepBut.trans z4_0 hk (.inl rfl)); have n2_ := Aside0.mk (hb); have n3_ := Aside0.mk (hi); clear HO_7; clear HK; clear HB; clear HI0; have HO_7 := n0_; have HK := n1_; have HB := n2_; have HI0 := n3_; clear n0_ n1_ n2_ n3_; (try clear hb); (try clear hb2); (try clear hk); (try clear hi)) | ((with_reducible refine gate_dst (N := 9) rfl ?_); (try (refine gate_guard (by rfl) ?_; dsimp only)); refine box_event ?hg (N := 9) ?hd (cs := #[.int .i64 0, .int .i64 0, .int .i64 0, .int .i64 0, .int .i64 0, .int .i64 0]) (t := 119) ?hr ?_; (case hd => rfl); (case hg => rfl); (case hr => exact z4_21); intro gb232 hg w46 hbox hb; have n0_ := Aside0.mk (Kd.R_below (Kd.R_elderB z4_14 gb232 (Nat.le_of_eq hg.symm)) hb); have n1_ := Aside0.mk (IsS111.below z4_5 hb); have n2_ := Aside0.mk (KeepBut.trans z4_0 (KeepBut.of_below hb g none) (.inl rfl)); have n3_ := Aside0.mk (below_step z4_6 hb); have n4_ := Aside0.mk (hbox); have n5_ := Aside0.mk ((z4_36 : w.heap.size ≤ gb232)); have n6_ := Aside0.mk ((Nat.le_trans HW0.out (z4_36 : w.heap.size ≤ gb232) : w0.heap.size ≤ gb232)); have n7_ := Aside0.mk ((z4_30 : g ≠ gb232)); have n8_ := Aside0.mk ((z4_32 : gb232 ≠ g)); clear HO_7; clear HI0; clear HK; clear HB; have HO_7 := n0_; have HI0 := n1_; have HK := n2_; have HB := n3_; have BK232 := n4_; have GW232 := n5_; have GE232 := n6_; have NB0_232 := n7_; have NB232_0 := n8_; clear n0_ n1_ n2_ n3_ n4_ n5_ n6_ n7_ n8_; clear hb hbox hg; have hnb47 := NB232_0.out; have hnc47 := NB0_232.out; have hcz48_0 : w46.cell? ⟨gb232, 0, none⟩ = some (.int .i64 0) := (blk_cell BK232.out 0).trans rfl; have hcz48_1 : w46.cell? ⟨gb232, 1, none⟩ = some (.int .i64 0) := (blk_cell BK232.out 1).trans rfl; have hcz48_2 : w46.cell? ⟨gb232, 2, none⟩ = some (.int .i64 0) := (blk_cell BK232.out 2).trans rfl; have hcz48_3 : w46.cell? ⟨gb232, 3, none⟩ = some (.int .i64 0) := (blk_cell BK232.out 3).trans rfl; have hcz48_4 : w46.cell? ⟨gb232, 4, none⟩ = some (.int .i64 0) := (blk_cell BK232.out 4).trans rfl; have hcz48_5 : w46.cell? ⟨gb232, 5, none⟩ = some (.int .i64 0) := (blk_cell BK232.out 5).trans rfl; have hfz48_0 := blk_frozen BK232.out 0; have hfz48_1 := blk_frozen BK232.out 1; have hfz48_2 := blk_frozen BK232.out 2; have hfz48_3 := blk_frozen BK232.out 3; have hfz48_4 := blk_frozen BK232.out 4; have hfz48_5 := blk_frozen BK232.out 5) | ((with_reducible refine gate_store (t := 119) (p := 9) rfl ?_); refine store_event (t := 119) (p := 9) (v := ?vo_w49) (w1 := ((((((w46.setCell ⟨gb232, 0, none⟩ (.int .i64 5)).setCell ⟨gb232, 1, none⟩ (.int .i64 0)).setCell ⟨gb232, 2, none⟩ (.int .i64 (wrap64 (1 + t229)))).setCell ⟨gb232, 3, none⟩ (.int .i64 0)).setCell ⟨gb232, 4, none⟩ (.int .i64 0)).setCell ⟨gb232, 5, none⟩ (.int .i64 0))) ?hg ?ho ?hn ?hr ?_; (case ho => rfl); (case hg => rfl); (case hn => rfl); (case hr => exact z4_21); intro w49 hw; have n0_ : Aside0 (Kd.R k119 119 w49 w.heap.size (fun k_ => k_ ≠ gb232) u7 x7_1) := ⟨z4_19⟩; have n1_ : Aside0 (w49.heap[gb232]? = some (.cells #[.int .i64 5, .int .i64 0, .int .i64 (wrap64 (1 + t229)), .int .i64 0, .int .i64 0, .int .i64 0] 119 (0, 0))) := ⟨z4_10⟩; have n2_ : Aside0 (IsS111 w0 w49 g s0_0 t230 t231) := ⟨(by rw [hw]; exact z4_3)⟩; have n3_ : Aside0 (KeepBut w w49 g none) := ⟨(by rw [hw]; exact z4_2)⟩; have n4_ : Aside0 (Below w0.heap.size w0 w49) := ⟨(by rw [hw]; exact z4_4)⟩; clear hw; clear HO_7; clear BK232; clear HI0; clear HK; clear HB; have HO_7 := n0_; have BK232 := n1_; have HI0 := n2_; have HK := n3_; have HB := n4_; clear n0_ n1_ n2_ n3_ n4_) | ((first | ((with_reducible refine gate_callee (f := 133) rfl ?_); refine goesL_ (some 32) rfl rfl Try.func133 z4_25 rfl #[.pointer (some ⟨g, 0, none⟩), .int .i64 2] rfl z4_1 ?_; (with_reducible refine (spec_l01Once.calls g s0_0 t230 t231 2 false t234 t235 w0 _ ?side1 ?side2 A16.out).mono ?_)) | (go_at_call 133; (with_reducible refine (spec_l01Once.calls g s0_0 t230 t231 2 false t234 t235 w0 _ ?side1 ?side2 A16.out).mono ?_))); (case side1 => exact z4_3); (case side2 => exact z4_4); rintro e w50 ⟨rfl, hi, hb, hk⟩; (first | refine ⟨_, rfl, ?_⟩ | skip); have n0_ := Aside0.mk (Kd.R_mono (Kd.R_keep (IsS111.apart (show IsS111 w0 _ g s0_0 t230 t231 from by repeat (first | (with_reducible first | exact HI0.out | apply IsS111.alloc | apply IsS111.drewN | apply IsS111.drew | apply IsS111.set_1 | apply IsS111.set_2 | refine IsS111.far ?_ NB0_232.out _) | exact HI0.out)) z4_14 z4_34) hk (fun _ h => h.2)) (fun _ h => h.1)); have n1_ := Aside0.mk (KeepBut.blk hk (g' := gb232) (o := .cells #[.int .i64 5, .int .i64 0, .int .i64 (wrap64 (1 + t229)), .int .i64 0, .int .i64 0, .int .i64 0] 119 (0, 0)) z4_7 NB232_0.out (by simp)); have n2_ := Aside0.mk (KeepBut.trans z4_2 hk (.inl rfl)); have n3_ := Aside0.mk (hb); have n4_ := Aside0.mk (hi); clear HO_7; clear BK232; clear HK; clear HB; clear HI0; have HO_7 := n0_; have BK232 := n1_; have HK := n2_; have HB := n3_; have HI0 := n4_; clear n0_ n1_ n2_ n3_ n4_; (try clear hb); (try clear hb2); (try clear hk); (try clear hi); have hcz51_0 : w50.cell? ⟨gb232, 0, none⟩ = some (.int .i64 5) := (blk_cell BK232.out 0).trans rfl; have hcz51_1 : w50.cell? ⟨gb232, 1, none⟩ = some (.int .i64 0) := (blk_cell BK232.out 1).trans rfl; have hcz51_2 : w50.cell? ⟨gb232, 2, none⟩ = some (.int .i64 (wrap64 (1 + t229))) := (blk_cell BK232.out 2).trans rfl; have hcz51_3 : w50.cell? ⟨gb232, 3, none⟩ = some (.int .i64 0) := (blk_cell BK232.out 3).trans rfl; have hcz51_4 : w50.cell? ⟨gb232, 4, none⟩ = some (.int .i64 0) := (blk_cell BK232.out 4).trans rfl; have hcz51_5 : w50.cell? ⟨gb232, 5, none⟩ = some (.int .i64 0) := (blk_cell BK232.out 5).trans rfl; have hfz51_0 := blk_frozen BK232.out 0; have hfz51_1 := blk_frozen BK232.out 1; have hfz51_2 := blk_frozen BK232.out 2; have hfz51_3 := blk_frozen BK232.out 3; have hfz51_4 := blk_frozen BK232.out 4; have hfz51_5 := blk_frozen BK232.out 5) | ((with_reducible refine gate_builtin (b := .append) (xs := #[.tmp 36, .tmp 38]) rfl ?_); (try (refine gate_guard (by rfl) ?_; dsimp only)); at_builtin; refine Kd.R_append k119 w.heap.size rfl (.tmp 36) (.tmp 38) 24 119 (.agg #[(.int .i64 0), (.int .i64 0), (.int .i64 0), (.int .i64 0), (.int .i64 0), (.int .i64 0)]) 48 rfl Try.underlying24 info119 rfl z4_34 (by omega) u7 x7_1 (⟨5, 0, wrap64 (1 + t229), (⟨0, 0, 0⟩ : S26)⟩ : S119) [.int .i64 5, .int .i64 0, .int .i64 (wrap64 (1 + t229)), .int .i64 0, .int .i64 0, .int .i64 0] (fun k_ => k_ ≠ gb232) (fun _ => False) rfl rfl ?aP (fun _ hk => hk.elim) ?aF ?aO (Below.refl _ _) ?aS ?aL ?_; (case aP => exact k119_mkM _ _ _ (⟨5, 0, wrap64 (1 + t229), (⟨0, 0, 0⟩ : S26)⟩ : S119)); (case aF => exact (fun k_ hk => Kd.freshB (g := gb232) (o := .cells #[.int .i64 5, .int .i64 0, .int .i64 (wrap64 (1 + t229)), .int .i64 0, .int .i64 0, .int .i64 0] 119 (0, 0)) z4_7 k_ hk)); (case aO => exact z4_14); (case aS => exact z4_39); (case aL => have := LMc40.out; omega); intro v259 w52 ho hb hg hat; rw [← Ny258.out] at ho; have n0_ := Aside0.mk (IsS111.grown z4_3 hg (IsS111.own_ne HI0.out HO_7.out z4_34)); have n1_ := Aside0.mk (blk_grown (g := gb232) (o := .cells #[.int .i64 5, .int .i64 0, .int .i64 (wrap64 (1 + t229)), .int .i64 0, .int .i64 0, .int .i64 0] 119 (0, 0)) z4_7 hg (Kd.R_away HO_7.out (fun _ hk => hk))); have n2_ := Aside0.mk (below_weaken z4_4 HL.out hb); have n3_ := Aside0.mk (KeepBut.trans z4_2 (KeepBut.of_grown hg g) (Kd.R_base2 HO_7.out)); have n4_ := Aside0.mk (ho); clear HI0; clear BK232; clear HB; clear HK; clear HO_7; have HI0 := n0_; have BK232 := n1_; have HB := n2_; have HK := n3_; have HO260 := n4_; clear n0_ n1_ n2_ n3_ n4_; clear ho hb hg hat) | ((first | ((with_reducible refine gate_callee (f := 66) rfl ?_); refine goesL_ (some 43) rfl rfl Try.func66 z4_25 rfl #[.pointer (some ⟨g, 0, none⟩), .int .i64 2] rfl z4_1 ?_; (with_reducible refine (spec_l01Below.calls g s0_0 t234 t235 2 t261 t262 t263 w0 _ ?side1 ?side2 A41.out).mono ?_)) | (go_at_call 66; (with_reducible refine (spec_l01Below.calls g s0_0 t234 t235 2 t261 t262 t263 w0 _ ?side1 ?side2 A41.out).mono ?_))); (case side1 => exact z4_3); (case side2 => exact z4_4); rintro e w53 ⟨rfl, hi, hb, hk⟩; (first | refine ⟨_, rfl, ?_⟩ | skip); have n0_ := Aside0.mk (KeepBut.blk hk (g' := gb232) (o := .cells #[.int .i64 5, .int .i64 0, .int .i64 (wrap64 (1 + t229)), .int .i64 0, .int .i64 0, .int .i64 0] 119 (0, 0)) z4_7 NB232_0.out (by simp)); have n1_ := Aside0.mk (Kd.R_mono (Kd.R_keep (IsS111.apart (show IsS111 w0 _ g s0_0 t234 t235 from by repeat (first | (with_reducible first | exact HI0.out | apply IsS111.alloc | apply IsS111.drewN | apply IsS111.drew | apply IsS111.set_1 | apply IsS111.set_2 | refine IsS111.far ?_ NB0_232.out _) | exact HI0.out)) (by (with_reducible repeat (first | apply Kd.R_alloc | apply Kd.R_drewN | apply Kd.R_drew)); exact HO260.out) z4_34) hk (fun _ h => h.2)) (fun _ h => h.1)); have n2_ := Aside0.mk (KeepBut.trans z4_2 hk (.inl rfl)); have n3_ := Aside0.mk (hb); have n4_ := Aside0.mk (hi); clear BK232; clear HO260; clear HK; clear HB; clear HI0; have BK232 := n0_; have HO260 := n1_; have HK := n2_; have HB := n3_; have HI0 := n4_; clear n0_ n1_ n2_ n3_ n4_; (try clear hb); (try clear hb2); (try clear hk); (try clear hi)) | ((first | ((with_reducible refine gate_callee (f := 97) rfl ?_); refine goesL_ (some 47) rfl rfl Try.func97 z4_25 rfl #[.pointer (some ⟨g, 0, none⟩), .int .i64 (wrap64 (1 + t261)), .int .i64 (wrap64 (a2 + 1))] rfl z4_1 ?_; (with_reducible refine (ih kj6 (by have := HK1.out; have := HJ6.out; omega) g s0_0 t262 t263 (wrap64 (1 + t261)) (wrap64 (a2 + 1)) t264 t267 t268 w0 _ ?side1 ?side2 A42.out).mono ?_)) | (go_at_call 97; (with_reducible refine (ih kj6 (by have := HK1.out; have := HJ6.out; omega) g s0_0 t262 t263 (wrap64 (1 + t261)) (wrap64 (a2 + 1)) t264 t267 t268 w0 _ ?side1 ?side2 A42.out).mono ?_))); (case side1 => exact z4_3); (case side2 => exact z4_4); rintro e w54 ⟨v265, rfl, ho0, hi, hb, hk⟩; (first | refine ⟨_, rfl, ?_⟩ | skip); have n0_ := Aside0.mk (KeepBut.blk hk (g' := gb232) (o := .cells #[.int .i64 5, .int .i64 0, .int .i64 (wrap64 (1 + t229)), .int .i64 0, .int .i64 0, .int .i64 0] 119 (0, 0)) z4_7 NB232_0.out (by simp)); have n1_ := Aside0.mk (Kd.R_mono (Kd.R_told (Kd.R_oldK (IsS111.apart (show IsS111 w0 _ g s0_0 t262 t263 from by repeat (first | (with_reducible first | exact HI0.out | apply IsS111.alloc | apply IsS111.drewN | apply IsS111.drew | apply IsS111.set_1 | apply IsS111.set_2 | refine IsS111.far ?_ NB0_232.out _) | exact HI0.out)) (by (with_reducible repeat (first | apply Kd.R_alloc | apply Kd.R_drewN | apply Kd.R_drew)); exact HO260.out) z4_34) hk) (Kd.R_base ho0)) (fun _ h_ => h_.1)); have n2_ := Aside0.mk (Kd.R_lower (Kd.R_newB (Kd.R_new' ho0 (Kd.R_lt (by (with_reducible repeat (first | apply Kd.R_alloc | apply Kd.R_drewN | apply Kd.R_drew)); exact HO260.out))) (g := gb232) (o := .cells #[.int .i64 5, .int .i64 0, .int .i64 (wrap64 (1 + t229)), .int .i64 0, .int .i64 0, .int .i64 0] 119 (0, 0)) z4_7) (keep_size (w := w) (g := g) (row := none) z4_2)); have n3_ := Aside0.mk (KeepBut.trans z4_2 hk (.inl rfl)); have n4_ := Aside0.mk (hb); have n5_ := Aside0.mk (hi); clear BK232; clear HO260; clear HK; clear HB; clear HI0; have BK232 := n0_; have HO260 := n1_; have HO266 := n2_; have HK := n3_; have HB := n4_; have HI0 := n5_; clear n0_ n1_ n2_ n3_ n4_ n5_; (try clear hb); (try clear hb2); (try clear hk); (try clear hi); (try clear ho0); obtain ⟨Ao56, co56, eo56⟩ := Kd.R_slice HO266.out; subst eo56) | ((with_reducible refine gate_builtin (b := .append) (xs := #[.tmp 40, .tmp 47]) rfl ?_); (try (refine gate_guard (by rfl) ?_; dsimp only)); at_builtin; refine Kd.R_append_rows k119 w.heap.size rfl (.tmp 40) (.tmp 47) 24 119 (.agg #[(.int .i64 0), (.int .i64 0), (.int .i64 0), (.int .i64 0), (.int .i64 0), (.int .i64 0)]) 48 rfl Try.underlying24 info119 rfl z4_34 (by omega) v259 y258 t264 _ _ _ (fun k_ => some k_ ≠ (.slice Ao56 t264.length co56 : Value).ownBlock ∧ k_ ≠ gb232) (fun _ => False) rfl rfl ?aO ?aR (fun _ _ h => h) (fun _ h => h.elim) ?aF (Below.refl _ _) ?aS ?aL ?_; (case aR => repeat (first | exact (Kd.R_reads' HO266.out).2.2 | (with_reducible refine Kd.C_alloc ?_ _) | (with_reducible refine Kd.C_drewN ?_ _) | (with_reducible refine Kd.C_drew ?_))); (case aF => exact z4_37); (case aO => exact (by (with_reducible repeat (first | apply Kd.R_alloc | apply Kd.R_drewN | apply Kd.R_drew)); exact Kd.R_mono HO260.out (fun _ hk => ⟨hk.2, hk.1⟩))); (case aS => exact z4_39); (case aL => have := LMc43.out; omega); intro v270 w55 ho hb hg hat; rw [← Ny269.out] at ho; have n0_ := Aside0.mk (IsS111.grown z4_3 hg (IsS111.own_ne HI0.out HO260.out z4_34)); have n1_ := Aside0.mk (blk_grown (g := gb232) (o := .cells #[.int .i64 5, .int .i64 0, .int .i64 (wrap64 (1 + t229)), .int .i64 0, .int .i64 0, .int .i64 0] 119 (0, 0)) z4_7 hg (Kd.R_away HO260.out (fun _ hk => hk.1))); have n2_ := Aside0.mk (Kd.R_after (ok := (fun k_ => k_ ≠ gb232)) (by (with_reducible repeat (first | apply Kd.R_alloc | apply Kd.R_drewN | apply Kd.R_drew)); exact Kd.R_mono HO266.out (fun _ hk => ⟨hk.2, hk.1.2⟩)) hg hat); have n3_ := Aside0.mk (below_weaken z4_4 HL.out hb); have n4_ := Aside0.mk (KeepBut.trans z4_2 (KeepBut.of_grown hg g) (Kd.R_base2 HO260.out)); have n5_ := Aside0.mk (ho); clear HI0; clear BK232; clear HO266; clear HB; clear HK; clear HO260; have HI0 := n0_; have BK232 := n1_; have HO266 := n2_; have HB := n3_; have HK := n4_; have HO271 := n5_; clear n0_ n1_ n2_ n3_ n4_ n5_; clear ho hb hg hat) | ((with_reducible refine gate_builtin (b := .append) (xs := #[.tmp 49, .tmp 51]) rfl ?_); (try (refine gate_guard (by rfl) ?_; dsimp only)); at_builtin; refine Kd.R_append k119 w.heap.size rfl (.tmp 49) (.tmp 51) 24 119 (.agg #[(.int .i64 0), (.int .i64 0), (.int .i64 0), (.int .i64 0), (.int .i64 0), (.int .i64 0)]) 48 rfl Try.underlying24 info119 rfl z4_34 (by omega) v270 y269 (⟨6, 0, 0, (⟨0, 0, 0⟩ : S26)⟩ : S119) [.int .i64 6, .int .i64 0, .int .i64 0, .int .i64 0, .int .i64 0, .int .i64 0] (fun k_ => some k_ ≠ (.slice Ao56 t264.length co56 : Value).ownBlock ∧ k_ ≠ gb232) (fun _ => False) rfl rfl ?aP (fun _ hk => hk.elim) ?aF ?aO (Below.refl _ _) ?aS ?aL ?_; (case aP => exact k119_mkM _ _ _ (⟨6, 0, 0, (⟨0, 0, 0⟩ : S26)⟩ : S119)); (case aF => exact z4_37); (case aO => exact (by (with_reducible repeat (first | apply Kd.R_alloc | apply Kd.R_drewN | apply Kd.R_drew)); exact HO271.out)); (case aS => exact z4_39); (case aL => have := LMc44.out; omega); intro v273 w57 ho hb hg hat; rw [← Ny272.out] at ho; have n0_ := Aside0.mk (IsS111.grown z4_3 hg (IsS111.own_ne HI0.out HO271.out z4_34)); have n1_ := Aside0.mk (blk_grown (g := gb232) (o := .cells #[.int .i64 5, .int .i64 0, .int .i64 (wrap64 (1 + t229)), .int .i64 0, .int .i64 0, .int .i64 0] 119 (0, 0)) z4_7 hg (Kd.R_away HO271.out (fun _ hk => hk.2))); have n2_ := Aside0.mk (Kd.R_after (ok := (fun k_ => k_ ≠ gb232)) (by (with_reducible repeat (first | apply Kd.R_alloc | apply Kd.R_drewN | apply Kd.R_drew)); exact HO266.out) hg hat); have n3_ := Aside0.mk (below_weaken z4_4 HL.out hb); have n4_ := Aside0.mk (KeepBut.trans z4_2 (KeepBut.of_grown hg g) (Kd.R_base2 HO271.out)); have n5_ := Aside0.mk (ho); clear HI0; clear BK232; clear HO266; clear HB; clear HK; clear HO271; have HI0 := n0_; have BK232 := n1_; have HO266 := n2_; have HB := n3_; have HK := n4_; have HO274 := n5_; clear n0_ n1_ n2_ n3_ n4_ n5_; clear ho hb hg hat))
                      go_roundg kj6
                      case measure => have := HK1.out; have := HJ6.out; omega
                      case rel => exact ⟨(y272), (wrap64 (x8_1 + 1)), (t267), (t268), z4_20, H', ⟨by have := HK1.out; have := HJ6.out; omega⟩, ⟨by (with_reducible repeat (first | apply Kd.R_alloc | apply Kd.R_drewN | apply Kd.R_drew)); exact Kd.R_mono HO274.out (fun _ hk => trivial)⟩, ⟨by repeat (first | (with_reducible first | exact HI0.out | apply IsS111.alloc | apply IsS111.drewN | apply IsS111.drew | apply IsS111.set_1 | apply IsS111.set_2 | refine IsS111.far ?_ NB0_232.out _) | exact HI0.out)⟩, ⟨by repeat (first | (with_reducible first | exact HK.out | apply KeepBut.set_ | apply keep_drewN | apply keep_drew | apply keep_alloc | refine keep_far ?_ GW232.out _) | exact HK.out)⟩, ⟨by repeat (first | (with_reducible first | exact HB.out | apply below_alloc | apply pw_below_drewN | apply below_drew1 | refine below_set ?_ (IsS111.ge HI0.out) | refine below_set ?_ GE232.out) | exact HB.out)⟩⟩
                    · rw [if_neg c44] at H
                      exact absurd H (by simp)
                  · rw [if_neg c43] at H
                    exact absurd H (by simp)
                · rw [if_neg c40] at H
                  exact absurd H (by simp)
            · replace c14 := Bool.eq_false_iff.mpr c14
              subst c14
              have H1 : ((spec_l04Stmt.f kj6 s0_0 x1001_6 x1002_6).bind fun bt275 => (if x7_1.length < 2932031007402 then (spec_l05Block.l0 kj6 a1 a2 (x7_1 ++ [(⟨bt275.1, bt275.2.1, bt275.2.2.1, (⟨bt275.2.2.2.1, bt275.2.2.2.2.1, bt275.2.2.2.2.2.1⟩ : S26)⟩ : S119)]) (wrap64 (x8_1 + 1)) s0_0 bt275.2.2.2.2.2.2.1 bt275.2.2.2.2.2.2.2) else (none))) = some (r1, r2, r3) := by rw [if_neg (show ¬ (false = true) by decide)] at H; exact H
              clear H
              have H := H1
              clear H1
              replace H := Option.bind_eq_some_iff.mp H
              obtain ⟨⟨t275, t276, t277, t278, t279, t280, t281, t282⟩, A580, H⟩ := H
              replace H : (if x7_1.length < 2932031007402 then (spec_l05Block.l0 kj6 a1 a2 (x7_1 ++ [(⟨t275, t276, t277, (⟨t278, t279, t280⟩ : S26)⟩ : S119)]) (wrap64 (x8_1 + 1)) s0_0 t281 t282) else (none)) = some (r1, r2, r3) := H
              have A58 := Aside0.mk A580
              clear A580
              by_cases c59 : x7_1.length < 2932031007402
              · rw [if_pos c59] at H
                have LMc59 := Aside0.mk c59
                clear c59
                obtain ⟨y283, hy283⟩ : ∃ y_ : List (S119), y_ = (x7_1 ++ [(⟨t275, t276, t277, (⟨t278, t279, t280⟩ : S26)⟩ : S119)]) := ⟨_, rfl⟩
                replace H : (spec_l05Block.l0 kj6 a1 a2 y283 (wrap64 (x8_1 + 1)) s0_0 t281 t282) = some (r1, r2, r3) := by first | (rw [hy283]; with_reducible exact H) | (have H2_ := (Option.bind_some _ _).symm.trans H; rw [hy283]; with_reducible exact H2_) | (have H2_ := (Option.bind_some _ _).symm.trans H; with_reducible exact H2_) | with_reducible exact H | (rw [hy283]; exact H) | exact H
                have Ny283 := Aside0.mk hy283
                clear hy283
                have H' := Aside0.mk H
                clear H
                go_wp2_with (first | ((first | ((with_reducible refine gate_callee (f := 134) rfl ?_); refine goesL_ (some 55) rfl rfl Try.func134 z4_25 rfl #[.pointer (some ⟨g, 0, none⟩)] rfl z4_1 ?_; (with_reducible refine (spec_l04Stmt.calls kj6 g s0_0 x1001_6 x1002_6 t275 t276 t277 t278 t279 t280 t281 t282 w0 _ ?side1 ?side2 A58.out).mono ?_)) | (go_at_call 134; (with_reducible refine (spec_l04Stmt.calls kj6 g s0_0 x1001_6 x1002_6 t275 t276 t277 t278 t279 t280 t281 t282 w0 _ ?side1 ?side2 A58.out).mono ?_))); (case side1 => exact z4_5); (case side2 => exact z4_6); rintro e w60 ⟨rfl, hi, hb, hk⟩; (first | refine ⟨_, rfl, ?_⟩ | skip); have n0_ := Aside0.mk (Kd.R_mono (Kd.R_keep (IsS111.apart (show IsS111 w0 _ g s0_0 x1001_6 x1002_6 from by repeat (first | (with_reducible first | exact HI0.out | apply IsS111.alloc | apply IsS111.drewN | apply IsS111.drew | apply IsS111.set_1 | apply IsS111.set_2) | exact HI0.out)) z4_14 z4_34) hk (fun _ h => h.2)) (fun _ h => h.1)); have n1_ := Aside0.mk (KeepBut.trans z4_0 hk (.inl rfl)); have n2_ := Aside0.mk (hb); have n3_ := Aside0.mk (hi); clear HO_7; clear HK; clear HB; clear HI0; have HO_7 := n0_; have HK := n1_; have HB := n2_; have HI0 := n3_; clear n0_ n1_ n2_ n3_; (try clear hb); (try clear hb2); (try clear hk); (try clear hi)) | ((with_reducible refine gate_builtin (b := .append) (xs := #[.tmp 53, .tmp 56]) rfl ?_); (try (refine gate_guard (by rfl) ?_; dsimp only)); at_builtin; refine Kd.R_append k119 w.heap.size rfl (.tmp 53) (.tmp 56) 24 119 (.agg #[(.int .i64 0), (.int .i64 0), (.int .i64 0), (.int .i64 0), (.int .i64 0), (.int .i64 0)]) 48 rfl Try.underlying24 info119 rfl z4_34 (by omega) u7 x7_1 (⟨t275, t276, t277, (⟨t278, t279, t280⟩ : S26)⟩ : S119) [.int .i64 t275, .int .i64 t276, .int .i64 t277, .int .i64 t278, .int .i64 t279, .int .i64 t280] (fun _ => True) (fun _ => False) rfl rfl ?aP (fun _ hk => hk.elim) ?aF ?aO (Below.refl _ _) ?aS ?aL ?_; (case aP => exact k119_mkM _ _ _ (⟨t275, t276, t277, (⟨t278, t279, t280⟩ : S26)⟩ : S119)); (case aF => exact (fun _ _ => trivial)); (case aO => exact z4_14); (case aS => exact (keep_size (w := w) (g := g) (row := none) z4_0)); (case aL => have := LMc59.out; omega); intro v284 w61 ho hb hg hat; rw [← Ny283.out] at ho; have n0_ := Aside0.mk (IsS111.grown z4_5 hg (IsS111.own_ne HI0.out HO_7.out z4_34)); have n1_ := Aside0.mk (below_weaken z4_6 HL.out hb); have n2_ := Aside0.mk (KeepBut.trans z4_0 (KeepBut.of_grown hg g) (Kd.R_base2 HO_7.out)); have n3_ := Aside0.mk (ho); clear HI0; clear HB; clear HK; clear HO_7; have HI0 := n0_; have HB := n1_; have HK := n2_; have HO285 := n3_; clear n0_ n1_ n2_ n3_; clear ho hb hg hat))
                go_roundg kj6
                case measure => have := HK1.out; have := HJ6.out; omega
                case rel => exact ⟨(y283), (wrap64 (x8_1 + 1)), (t281), (t282), z4_20, H', ⟨by have := HK1.out; have := HJ6.out; omega⟩, ⟨by (with_reducible repeat (first | apply Kd.R_alloc | apply Kd.R_drewN | apply Kd.R_drew)); exact HO285.out⟩, ⟨by repeat (first | (with_reducible first | exact HI0.out | apply IsS111.alloc | apply IsS111.drewN | apply IsS111.drew | apply IsS111.set_1 | apply IsS111.set_2) | exact HI0.out)⟩, ⟨by repeat (first | (with_reducible first | exact HK.out | apply KeepBut.set_ | apply keep_drewN | apply keep_drew | apply keep_alloc) | exact HK.out)⟩, ⟨by repeat (first | (with_reducible first | exact HB.out | apply below_alloc | apply pw_below_drewN | apply below_drew1 | refine below_set ?_ (IsS111.ge HI0.out)) | exact HB.out)⟩⟩
              · rw [if_neg c59] at H
                exact absurd H (by simp)
      · rw [if_neg c6] at H
        have c6b0 : decide (x8_1 < a1) = false := decide_eq_false c6
        clear c6
        simp only [Option.some.injEq, Prod.mk.injEq] at H
        obtain ⟨rfl, rfl, rfl⟩ := H
        go_wp2
        go_ret
        exact ⟨_, by first | rfl | (simp [errW_none, errW_some] <;> rfl) | (simp [*, errW_none, errW_some] <;> rfl) | (simp [*, errW_none, errW_some, i64_w]; done), by (with_reducible repeat (first | apply Kd.R_alloc | apply Kd.R_drewN | apply Kd.R_drew)); exact HO_7.out, by repeat (first | (with_reducible first | exact HI0.out | apply IsS111.alloc | apply IsS111.drewN | apply IsS111.drew | apply IsS111.set_1 | apply IsS111.set_2) | exact HI0.out), by repeat (first | (with_reducible first | exact HB.out | apply below_alloc | apply pw_below_drewN | apply below_drew1 | refine below_set ?_ (IsS111.ge HI0.out)) | exact HB.out), by repeat (first | (with_reducible first | exact HK.out | apply KeepBut.set_ | apply keep_drewN | apply keep_drew | apply keep_alloc) | exact HK.out)⟩

/-! ### spec_l05Case: function 59 -/
def spec_l05Case.f (k : Nat) (s0_0 : List Int) (s0_1 : Int) (s0_2 : Int) : Option ((List (S119)) × Int × Int) := (spec_l01Below.f s0_0 s0_1 s0_2 6).bind fun bt286 => ((spec_l05Block.f k s0_0 bt286.2.1 bt286.2.2 bt286.1 0).bind fun bt289 => (some (bt289.1, bt289.2.1, bt289.2.2)))
theorem spec_l05Case.mono : ∀ a0 a1 a2 k, LeO (spec_l05Case.f k a0 a1 a2) (spec_l05Case.f (k + 1) a0 a1 a2) := by
  intro a0 a1 a2 k
  unfold spec_l05Case.f
  repeat' first
      | (with_reducible exact spec_l05Block.mono _ _ _ _ _ _)
      | (with_reducible exact LeO.refl _)
      | (with_reducible exact LeO.none _)
      | (with_reducible refine LeO.ite ?_ ?_)
      | (with_reducible refine LeO.bind ?_ (fun _ => ?_))
      | exact spec_l05Block.mono _ _ _ _ _ _
      | exact LeO.none _
      | refine LeO.ite ?_ ?_
      | refine LeO.bind ?_ (fun _ => ?_)
set_option maxHeartbeats 8000000 in
set_option maxRecDepth 100000 in
theorem spec_l05Case.calls (k : Nat) (g : Nat) (s0_0 : List Int) (s0_1 : Int) (s0_2 : Int) (r1 : List (S119)) (r2 : Int) (r3 : Int) (w0 w : World) (hI : IsS111 w0 w g s0_0 s0_1 s0_2) (hB : Below w0.heap.size w0 w) (h : spec_l05Case.f k s0_0 s0_1 s0_2 = some (r1, r2, r3)) :
    Calls Try.prog 59 #[.pointer (some ⟨g, 0, none⟩)] w fun e w' => ∃ v0_ : Value, e = .returned (v0_) ∧ Kd.R k119 119 w' w.heap.size (fun _ => True) v0_ r1 ∧ IsS111 w0 w' g s0_0 r2 r3 ∧ Below w0.heap.size w0 w' ∧ KeepBut w w' g none := by
  have HI0 := Aside0.mk hI
  have HK := Aside0.mk (KeepBut.refl w g none)
  have HL := Aside0.mk hB.size
  clear hI
  have HW0 := Aside0.mk hB.size
  have HB := Aside0.mk hB
  clear hB
  have H : ((spec_l01Below.f s0_0 s0_1 s0_2 6).bind fun bt286 => ((spec_l05Block.f k s0_0 bt286.2.1 bt286.2.2 bt286.1 0).bind fun bt289 => (some (bt289.1, bt289.2.1, bt289.2.2)))) = some (r1, r2, r3) := h
  clear h
  replace H := Option.bind_eq_some_iff.mp H
  obtain ⟨⟨t286, t287, t288⟩, A20, H⟩ := H
  replace H : ((spec_l05Block.f k s0_0 t287 t288 t286 0).bind fun bt289 => (some (bt289.1, bt289.2.1, bt289.2.2))) = some (r1, r2, r3) := H
  have A2 := Aside0.mk A20
  clear A20
  replace H := Option.bind_eq_some_iff.mp H
  obtain ⟨⟨t289, t292, t293⟩, A30, H⟩ := H
  replace H : (some (t289, t292, t293)) = some (r1, r2, r3) := H
  have A3 := Aside0.mk A30
  clear A30
  simp only [Option.some.injEq, Prod.mk.injEq] at H
  obtain ⟨rfl, rfl, rfl⟩ := H
  go_enter Try.func59, Try.ntmps59
  go_wp2_with (first | ((first | ((with_reducible refine gate_callee (f := 66) rfl ?_); refine goesL_ (some 5) rfl rfl Try.func66 z4_25 rfl #[.pointer (some ⟨g, 0, none⟩), .int .i64 6] rfl z4_1 ?_; (with_reducible refine (spec_l01Below.calls g s0_0 s0_1 s0_2 6 t286 t287 t288 w0 _ ?side1 ?side2 A2.out).mono ?_)) | (go_at_call 66; (with_reducible refine (spec_l01Below.calls g s0_0 s0_1 s0_2 6 t286 t287 t288 w0 _ ?side1 ?side2 A2.out).mono ?_))); (case side1 => exact z4_5); (case side2 => exact z4_6); rintro e w4 ⟨rfl, hi, hb, hk⟩; (first | refine ⟨_, rfl, ?_⟩ | skip); have n0_ := Aside0.mk (KeepBut.trans z4_0 hk (.inl rfl)); have n1_ := Aside0.mk (hb); have n2_ := Aside0.mk (hi); clear HK; clear HB; clear HI0; have HK := n0_; have HB := n1_; have HI0 := n2_; clear n0_ n1_ n2_; (try clear hb); (try clear hb2); (try clear hk); (try clear hi)) | ((first | ((with_reducible refine gate_callee (f := 97) rfl ?_); refine goesL_ (some 6) rfl rfl Try.func97 z4_25 rfl #[.pointer (some ⟨g, 0, none⟩), .int .i64 t286, .int .i64 0] rfl z4_1 ?_; (with_reducible refine (spec_l05Block.calls k g s0_0 t287 t288 t286 0 t289 t292 t293 w0 _ ?side1 ?side2 A3.out).mono ?_)) | (go_at_call 97; (with_reducible refine (spec_l05Block.calls k g s0_0 t287 t288 t286 0 t289 t292 t293 w0 _ ?side1 ?side2 A3.out).mono ?_))); (case side1 => exact z4_5); (case side2 => exact z4_6); rintro e w5 ⟨v290, rfl, ho0, hi, hb, hk⟩; (first | refine ⟨_, rfl, ?_⟩ | skip); have n0_ := Aside0.mk (Kd.R_lower ho0 (keep_size (w := w) (g := g) (row := none) z4_0)); have n1_ := Aside0.mk (KeepBut.trans z4_0 hk (.inl rfl)); have n2_ := Aside0.mk (hb); have n3_ := Aside0.mk (hi); clear HK; clear HB; clear HI0; have HO291 := n0_; have HK := n1_; have HB := n2_; have HI0 := n3_; clear n0_ n1_ n2_ n3_; (try clear hb); (try clear hb2); (try clear hk); (try clear hi); (try clear ho0)))
  go_ret
  exact ⟨_, by first | rfl | (simp [errW_none, errW_some] <;> rfl) | (simp [*, errW_none, errW_some] <;> rfl) | (simp [*, errW_none, errW_some, i64_w]; done), by (with_reducible repeat (first | apply Kd.R_alloc | apply Kd.R_drewN | apply Kd.R_drew)); exact HO291.out, by repeat (first | (with_reducible first | exact HI0.out | apply IsS111.alloc | apply IsS111.drewN | apply IsS111.drew | apply IsS111.set_1 | apply IsS111.set_2) | exact HI0.out), by repeat (first | (with_reducible first | exact HB.out | apply below_alloc | apply pw_below_drewN | apply below_drew1 | refine below_set ?_ (IsS111.ge HI0.out)) | exact HB.out), by repeat (first | (with_reducible first | exact HK.out | apply KeepBut.set_ | apply keep_drewN | apply keep_drew | apply keep_alloc) | exact HK.out)⟩

/-! ### spec_l06Program: function 85 -/
def spec_l06Program.l0 : Nat → Int → List Int → Int → Int → List (S28) → Option ((List (S28)) × Int × Int)
  | 0, _, _, _, _, _ => none
  | k + 1, x4, x1000, x1001, x1002, x296000 => (spec_l01Below.f x1000 x1001 x1002 3).bind fun bt296 => (if x4 < (wrap64 (1 + bt296.1)) then ((spec_l05Case.f k x1000 bt296.2.1 bt296.2.2).bind fun bt299 => ((spec_l03Expr.f x1000 bt299.2.1 bt299.2.2).bind fun bt304 => (if x296000.length < 2932031007402 then (spec_l06Program.l0 k (wrap64 (x4 + 1)) x1000 bt304.2.2.2.1 bt304.2.2.2.2 (x296000 ++ [(⟨bt299.1, (⟨bt304.1, bt304.2.1, bt304.2.2.1⟩ : S26)⟩ : S28)])) else (none)))) else (some (x296000, bt296.2.1, bt296.2.2)))
def spec_l06Program.f (k : Nat) (s0_0 : List Int) (s0_1 : Int) (s0_2 : Int) : Option ((List (S28)) × Int × Int) := spec_l06Program.l0 k 0 s0_0 s0_1 s0_2 ([] : List (S28))
theorem spec_l06Program.mono_l : ∀ k, (∀ y0 y1 y2 y3 y4, LeO (spec_l06Program.l0 k y0 y1 y2 y3 y4) (spec_l06Program.l0 (k + 1) y0 y1 y2 y3 y4))
  | 0 => fun _ _ _ _ _ r h => by simp [spec_l06Program.l0] at h
  | k + 1 => by
    have ih0 := spec_l06Program.mono_l k
    · intro y0 y1 y2 y3 y4
      unfold spec_l06Program.l0
      repeat' first
      | (with_reducible exact ih0 _ _ _ _ _)
      | (with_reducible exact spec_l05Case.mono _ _ _ _)
      | (with_reducible exact LeO.refl _)
      | (with_reducible exact LeO.none _)
      | (with_reducible refine LeO.ite ?_ ?_)
      | (with_reducible refine LeO.bind ?_ (fun _ => ?_))
      | exact ih0 _ _ _ _ _
      | exact spec_l05Case.mono _ _ _ _
      | exact LeO.none _
      | refine LeO.ite ?_ ?_
      | refine LeO.bind ?_ (fun _ => ?_)
theorem spec_l06Program.mono : ∀ a0 a1 a2 k, LeO (spec_l06Program.f k a0 a1 a2) (spec_l06Program.f (k + 1) a0 a1 a2) := by
  intro a0 a1 a2 k
  have ih0 := spec_l06Program.mono_l k
  unfold spec_l06Program.f
  repeat' first
      | (with_reducible exact ih0 _ _ _ _ _)
      | (with_reducible exact spec_l05Case.mono _ _ _ _)
      | (with_reducible exact LeO.refl _)
      | (with_reducible exact LeO.none _)
      | (with_reducible refine LeO.ite ?_ ?_)
      | (with_reducible refine LeO.bind ?_ (fun _ => ?_))
      | exact ih0 _ _ _ _ _
      | exact spec_l05Case.mono _ _ _ _
      | exact LeO.none _
      | refine LeO.ite ?_ ?_
      | refine LeO.bind ?_ (fun _ => ?_)
def spec_l06Program.T5 : Bool × List (List Nat × List Nat) := (true, [([], []), ([0], [0]), ([], []), ([2], [2]), ([], []), ([4, 3], [4]), ([3, 5], [3, 5]), ([6], [6]), ([1, 7, 5], [1, 7]), ([0, 1, 2, 3, 4, 5, 6, 7, 8], []), ([9, 8, 8, 0, 1, 2, 3, 4, 5, 6, 7, 8], [8, 9])])
def spec_l06Program.B5 : List Nat := [0, 1, 0, 4, 0, 28, 60, 124, 255, 511, 1023]
theorem spec_l06Program.tab5 : rtab .any (opsOf Try.f85 5) = spec_l06Program.T5 := by kernel_rfl
theorem spec_l06Program.bits5 : waitsOk spec_l06Program.T5.2 spec_l06Program.B5 = true := by kernel_rfl
set_option maxHeartbeats 8000000 in
set_option maxRecDepth 100000 in
theorem spec_l06Program.calls (k : Nat) (g : Nat) (s0_0 : List Int) (s0_1 : Int) (s0_2 : Int) (r1 : List (S28)) (r2 : Int) (r3 : Int) (w0 w : World) (hI : IsS111 w0 w g s0_0 s0_1 s0_2) (hB : Below w0.heap.size w0 w) (h : spec_l06Program.f k s0_0 s0_1 s0_2 = some (r1, r2, r3)) :
    Calls Try.prog 85 #[.pointer (some ⟨g, 0, none⟩)] w fun e w' => ∃ v0_ : Value, e = .returned (.agg #[v0_]) ∧ Kd.S k28 28 w' w.heap.size (fun _ => True) v0_ r1 ∧ IsS111 w0 w' g s0_0 r2 r3 ∧ Below w0.heap.size w0 w' ∧ KeepBut w w' g none := by
  have hu53 := Try.underlying53
  have hu28 := Try.underlying28
  have HI0 := Aside0.mk hI
  have HK := Aside0.mk (KeepBut.refl w g none)
  have HL := Aside0.mk hB.size
  clear hI
  have HW0 := Aside0.mk hB.size
  have HB := Aside0.mk hB
  clear hB
  have H : (spec_l06Program.l0 k 0 s0_0 s0_1 s0_2 ([] : List (S28))) = some (r1, r2, r3) := h
  clear h
  have H' := Aside0.mk H
  clear H
  go_enter Try.func85, Try.ntmps85
  go_wp2_with (first | ((with_reducible refine gate_dst (N := 2) rfl ?_); refine box_event ?hg (N := 2) ?hd (cs := #[.slice none 0 0]) (t := 53) ?hr ?_; (case hd => rfl); (case hg => rfl); (case hr => exact z4_21); intro gb294 hg w2 hbox hb; have n0_ := Aside0.mk (IsS111.below z4_5 hb); have n1_ := Aside0.mk (KeepBut.trans z4_0 (KeepBut.of_below hb g none) (.inl rfl)); have n2_ := Aside0.mk (below_step z4_6 hb); have n3_ := Aside0.mk (hbox); have n4_ := Aside0.mk ((z4_36 : w.heap.size ≤ gb294)); have n5_ := Aside0.mk ((Nat.le_trans HW0.out (z4_36 : w.heap.size ≤ gb294) : w0.heap.size ≤ gb294)); have n6_ := Aside0.mk ((z4_31 : g ≠ gb294)); have n7_ := Aside0.mk ((z4_33 : gb294 ≠ g)); clear HI0; clear HK; clear HB; have HI0 := n0_; have HK := n1_; have HB := n2_; have BK294 := n3_; have GW294 := n4_; have GE294 := n5_; have NB0_294 := n6_; have NB294_0 := n7_; clear n0_ n1_ n2_ n3_ n4_ n5_ n6_ n7_; clear hb hbox hg) | ((with_reducible refine gate_dst (N := 3) rfl ?_); refine box_event ?hg (N := 3) ?hd (cs := #[.slice none 0 0]) (t := 53) ?hr ?_; (case hd => rfl); (case hg => rfl); (case hr => exact z4_21); intro gb295 hg w3 hbox hb; have n0_ := Aside0.mk (IsS111.below (by repeat (first | (with_reducible first | exact HI0.out | apply IsS111.alloc | apply IsS111.drewN | apply IsS111.drew | apply IsS111.set_1 | apply IsS111.set_2 | refine IsS111.far ?_ NB0_294.out _) | exact HI0.out)) hb); have n1_ := Aside0.mk (blk_below (g := gb294) (o := .cells #[.slice none 0 0] 53 (0, 0)) z4_18 hb); have n2_ := Aside0.mk (KeepBut.trans z4_26 (KeepBut.of_below hb g none) (.inl rfl)); have n3_ := Aside0.mk (below_step (by repeat (first | (with_reducible first | exact HB.out | apply below_alloc | apply pw_below_drewN | apply below_drew1 | refine below_set ?_ (IsS111.ge HI0.out) | refine below_set ?_ GE294.out) | exact HB.out)) hb); have n4_ := Aside0.mk (hbox); have n5_ := Aside0.mk ((by rw [hg]; exact (keep_size (w := w) (g := g) (row := none) z4_26) : w.heap.size ≤ gb295)); have n6_ := Aside0.mk ((Nat.le_trans HW0.out (by rw [hg]; exact (keep_size (w := w) (g := g) (row := none) z4_26) : w.heap.size ≤ gb295) : w0.heap.size ≤ gb295)); have n7_ := Aside0.mk ((by rw [hg]; exact Nat.ne_of_lt (blk_lt (g := gb294) (o := .cells #[.slice none 0 0] 53 (0, 0)) z4_18) : gb294 ≠ gb295)); have n8_ := Aside0.mk ((by rw [hg]; exact Nat.ne_of_gt (blk_lt (g := gb294) (o := .cells #[.slice none 0 0] 53 (0, 0)) z4_18) : gb295 ≠ gb294)); have n9_ := Aside0.mk ((by rw [hg]; exact Nat.ne_of_lt (IsS111.lt (show IsS111 w0 _ g s0_0 s0_1 s0_2 from by repeat (first | (with_reducible first | exact HI0.out | apply IsS111.alloc | apply IsS111.drewN | apply IsS111.drew | apply IsS111.set_1 | apply IsS111.set_2 | refine IsS111.far ?_ NB0_294.out _) | exact HI0.out))) : g ≠ gb295)); have n10_ := Aside0.mk ((by rw [hg]; exact Nat.ne_of_gt (IsS111.lt (show IsS111 w0 _ g s0_0 s0_1 s0_2 from by repeat (first | (with_reducible first | exact HI0.out | apply IsS111.alloc | apply IsS111.drewN | apply IsS111.drew | apply IsS111.set_1 | apply IsS111.set_2 | refine IsS111.far ?_ NB0_294.out _) | exact HI0.out))) : gb295 ≠ g)); clear HI0; clear BK294; clear HK; clear HB; have HI0 := n0_; have BK294 := n1_; have HK := n2_; have HB := n3_; have BK295 := n4_; have GW295 := n5_; have GE295 := n6_; have NB294_295 := n7_; have NB295_294 := n8_; have NB0_295 := n9_; have NB295_0 := n10_; clear n0_ n1_ n2_ n3_ n4_ n5_ n6_ n7_ n8_ n9_ n10_; clear hb hbox hg; have hnb4 := NB295_294.out; have hnc4 := NB294_295.out; have hnb5 := NB295_0.out; have hnc5 := NB0_295.out; have hcz6_0 : w3.cell? ⟨gb295, 0, none⟩ = some (.slice none 0 0) := (blk_cell BK295.out 0).trans rfl; have hfz6_0 := blk_frozen BK295.out 0))
  go_loopg [4] k (fun kq v4 w' => ∃ (x4_1 : Int) (x1001_1 : Int) (x1002_1 : Int) (x296000_1 : List (S28)) (u296000 : Value), v4 = .int .i64 x4_1 ∧ Aside0 (spec_l06Program.l0 kq x4_1 s0_0 x1001_1 x1002_1 x296000_1 = some (r1, r2, r3)) ∧ Aside0 (kq ≤ k) ∧ Aside0 (Kd.S k28 28 w' w.heap.size (fun _ => True) u296000 x296000_1) ∧ Aside0 (w'.heap[gb294]? = some (.cells #[(.slice none 0 0)] 53 (0, 0))) ∧ Aside0 (w'.heap[gb295]? = some (.cells #[u296000] 53 (0, 0))) ∧ Aside0 (IsS111 w0 w' g s0_0 x1001_1 x1002_1) ∧ Aside0 (KeepBut w w' g none) ∧ Aside0 (Below w0.heap.size w0 w'))
  case atStart => exact ⟨(0), (s0_1), (s0_2), (([] : List (S28))), (.slice none 0 0), z4_20, H', ⟨Nat.le_refl _⟩, ⟨by first | exact Kd.S_nil _ _ _ _ _ | exact Kd.N_nil _ _ _ _ _ | exact Kd.V_nil _ _ _ _ _ | exact Kd.Q_nil _ _ _ _ _ | exact Kd.R_nil _ _ _ _ _⟩, ⟨by (with_reducible repeat (first | refine blk_drewN ?_ _ | refine blk_drew ?_ | refine blk_alloc ?_ _)); refine blk_far ?_ NB294_295.out _; (with_reducible repeat (first | refine blk_drewN ?_ _ | refine blk_drew ?_ | refine blk_alloc ?_ _)); exact BK294.out⟩, ⟨by (with_reducible repeat (first | refine blk_drewN ?_ _ | refine blk_drew ?_ | refine blk_alloc ?_ _)); refine blk_put (cs := #[.slice none 0 0]) ?_ 0 _ rfl; (with_reducible repeat (first | refine blk_drewN ?_ _ | refine blk_drew ?_ | refine blk_alloc ?_ _)); exact BK295.out⟩, ⟨by repeat (first | (with_reducible first | exact HI0.out | apply IsS111.alloc | apply IsS111.drewN | apply IsS111.drew | apply IsS111.set_1 | apply IsS111.set_2 | refine IsS111.far ?_ NB0_294.out _ | refine IsS111.far ?_ NB0_295.out _) | exact HI0.out)⟩, ⟨by repeat (first | (with_reducible first | exact HK.out | apply KeepBut.set_ | apply keep_drewN | apply keep_drew | apply keep_alloc | refine keep_far ?_ GW294.out _ | refine keep_far ?_ GW295.out _) | exact HK.out)⟩, ⟨by repeat (first | (with_reducible first | exact HB.out | apply below_alloc | apply pw_below_drewN | apply below_drew1 | refine below_set ?_ (IsS111.ge HI0.out) | refine below_set ?_ GE294.out | refine below_set ?_ GE295.out) | exact HB.out)⟩⟩
  case round =>
    clear H'
    (try clear hcz6_0); (try clear hfz6_0)
    obtain ⟨x4_1, x1001_1, x1002_1, x296000_1, u296000, rfl, HA, HK1, HO_296000, BK294, BK295, HI0, HK, HB⟩ := hrel
    cases gk with
    | zero => exact absurd HA.out (by simp [spec_l06Program.l0])
    | succ k1 =>
      have H := HA.out
      clear HA
      simp only [spec_l06Program.l0] at H
      replace H := Option.bind_eq_some_iff.mp H
      obtain ⟨⟨t296, t297, t298⟩, A70, H⟩ := H
      replace H : (if x4_1 < (wrap64 (1 + t296)) then ((spec_l05Case.f k1 s0_0 t297 t298).bind fun bt299 => ((spec_l03Expr.f s0_0 bt299.2.1 bt299.2.2).bind fun bt304 => (if x296000_1.length < 2932031007402 then (spec_l06Program.l0 k1 (wrap64 (x4_1 + 1)) s0_0 bt304.2.2.2.1 bt304.2.2.2.2 (x296000_1 ++ [(⟨bt299.1, (⟨bt304.1, bt304.2.1, bt304.2.2.1⟩ : S26)⟩ : S28)])) else (none)))) else (some (x296000_1, t297, t298))) = some (r1, r2, r3) := H
      have A7 := Aside0.mk A70
      clear A70
      by_cases c8 : x4_1 < (wrap64 (1 + t296))
      · rw [if_pos c8] at H
        have c8b0 : decide (x4_1 < (wrap64 (1 + t296))) = true := decide_eq_true c8
        clear c8
        replace H := Option.bind_eq_some_iff.mp H
        obtain ⟨⟨t299, t302, t303⟩, A90, H⟩ := H
        replace H : ((spec_l03Expr.f s0_0 t302 t303).bind fun bt304 => (if x296000_1.length < 2932031007402 then (spec_l06Program.l0 k1 (wrap64 (x4_1 + 1)) s0_0 bt304.2.2.2.1 bt304.2.2.2.2 (x296000_1 ++ [(⟨t299, (⟨bt304.1, bt304.2.1, bt304.2.2.1⟩ : S26)⟩ : S28)])) else (none))) = some (r1, r2, r3) := H
        have A9 := Aside0.mk A90
        clear A90
        replace H := Option.bind_eq_some_iff.mp H
        obtain ⟨⟨t304, t305, t306, t307, t308⟩, A100, H⟩ := H
        replace H : (if x296000_1.length < 2932031007402 then (spec_l06Program.l0 k1 (wrap64 (x4_1 + 1)) s0_0 t307 t308 (x296000_1 ++ [(⟨t299, (⟨t304, t305, t306⟩ : S26)⟩ : S28)])) else (none)) = some (r1, r2, r3) := H
        have A10 := Aside0.mk A100
        clear A100
        by_cases c11 : x296000_1.length < 2932031007402
        · rw [if_pos c11] at H
          have LMc11 := Aside0.mk c11
          clear c11
          obtain ⟨y309, hy309⟩ : ∃ y_ : List (S28), y_ = (x296000_1 ++ [(⟨t299, (⟨t304, t305, t306⟩ : S26)⟩ : S28)]) := ⟨_, rfl⟩
          replace H : (spec_l06Program.l0 k1 (wrap64 (x4_1 + 1)) s0_0 t307 t308 y309) = some (r1, r2, r3) := by first | (rw [hy309]; with_reducible exact H) | (have H2_ := (Option.bind_some _ _).symm.trans H; rw [hy309]; with_reducible exact H2_) | (have H2_ := (Option.bind_some _ _).symm.trans H; with_reducible exact H2_) | with_reducible exact H | (rw [hy309]; exact H) | exact H
          have Ny309 := Aside0.mk hy309
          clear hy309
          have H' := Aside0.mk H
          clear H
          try go_wp2_with (first | ((first | ((with_reducible refine gate_callee (f := 66) rfl ?_); refine goesL_ (some 8) rfl rfl Try.func66 z4_25 rfl #[.pointer (some ⟨g, 0, none⟩), .int .i64 3] rfl z4_1 ?_; (with_reducible refine (spec_l01Below.calls g s0_0 x1001_1 x1002_1 3 t296 t297 t298 w0 _ ?side1 ?side2 A7.out).mono ?_)) | (go_at_call 66; (with_reducible refine (spec_l01Below.calls g s0_0 x1001_1 x1002_1 3 t296 t297 t298 w0 _ ?side1 ?side2 A7.out).mono ?_))); (case side1 => exact z4_15); (case side2 => exact z4_16); rintro e w12 ⟨rfl, hi, hb, hk⟩; (first | refine ⟨_, rfl, ?_⟩ | skip); have n0_ := Aside0.mk (Kd.S_mono (Kd.S_keep (IsS111.apartS (show IsS111 w0 _ g s0_0 x1001_1 x1002_1 from by repeat (first | (with_reducible first | exact HI0.out | apply IsS111.alloc | apply IsS111.drewN | apply IsS111.drew | apply IsS111.set_1 | apply IsS111.set_2 | refine IsS111.far ?_ NB0_294.out _ | refine IsS111.far ?_ NB0_295.out _) | exact HI0.out)) z4_28 z4_34) hk (fun _ h => h.2)) (fun _ h => h.1)); have n1_ := Aside0.mk (KeepBut.blk hk (g' := gb294) (o := .cells #[.slice none 0 0] 53 (0, 0)) z4_18 NB294_0.out (by simp)); have n2_ := Aside0.mk (KeepBut.blk hk (g' := gb295) (o := .cells #[u296000] 53 (0, 0)) z4_22 NB295_0.out (by simp)); have n3_ := Aside0.mk (KeepBut.trans z4_13 hk (.inl rfl)); have n4_ := Aside0.mk (hb); have n5_ := Aside0.mk (hi); clear HO_296000; clear BK294; clear BK295; clear HK; clear HB; clear HI0; have HO_296000 := n0_; have BK294 := n1_; have BK295 := n2_; have HK := n3_; have HB := n4_; have HI0 := n5_; clear n0_ n1_ n2_ n3_ n4_ n5_; (try clear hb); (try clear hb2); (try clear hk); (try clear hi)))
          have n0_ := Aside0.mk (Kd.S_drew HO_296000.out)
          have n1_ := Aside0.mk (blk_drew BK294.out)
          have n2_ := Aside0.mk (blk_drew BK295.out)
          have n3_ := Aside0.mk (IsS111.drew HI0.out)
          have n4_ := Aside0.mk (keep_drew HK.out)
          have n5_ := Aside0.mk (below_drew1 HB.out)
          clear HO_296000
          clear BK294
          clear BK295
          clear HI0
          clear HK
          clear HB
          have HO_296000 := n0_
          have BK294 := n1_
          have BK295 := n2_
          have HI0 := n3_
          have HK := n4_
          have HB := n5_
          clear n0_ n1_ n2_ n3_ n4_ n5_
          refine start_ (n := 11) (S := fun w' => w'.cell? ⟨gb295, 0, none⟩ = some (u296000)) (ds := [10]) #[false, false, false, false, false, false, false, false, false, false, false] z4_25 rfl rfl ((blk_cell BK295.out 0).trans rfl) (fun hHeld => ?_); refine with_tabW spec_l06Program.tab5 spec_l06Program.bits5 (fun HT_ HW_ => ?_)
          generalize w12.drew = w13 at HO_296000 BK294 BK295 HI0 HK HB hHeld ⊢
          refine pure_ (i := 0) (N := some 13) (v := ?_) (a' := ?_) #[true, false, false, false, false, false, false, false, false, false, false] rfl rfl (any_of HT_.out z4_25) (fun _ _ _ h => h) (Or.inl ⟨by rfl, ?_⟩) ?_ ?_
          rotate_left
          · intro w'
            go_simp
            with_reducible rfl
          rotate_left
          · simp only [Act.put, List.setIfInBounds_toArray, List.set_cons_zero, List.set_cons_succ, i64_w, i32_w]
            rfl
          refine pure_ (i := 2) (N := some 15) (v := ?_) (a' := ?_) #[true, false, true, false, false, false, false, false, false, false, false] rfl rfl (any_of HT_.out z4_25) (fun _ _ _ h => h) (Or.inl ⟨by rfl, ?_⟩) ?_ ?_
          rotate_left
          · intro w'
            go_simp
            with_reducible rfl
          rotate_left
          · simp only [Act.put, List.setIfInBounds_toArray, List.set_cons_zero, List.set_cons_succ, i64_w, i32_w]
            rfl
          refine pure_ (i := 4) (N := some 17) (v := ?_) (a' := ?_) #[true, false, true, false, true, false, false, false, false, false, false] rfl rfl (any_of HT_.out z4_25) (fun _ _ _ h => h) (Or.inl ⟨by rfl, ?_⟩) ?_ ?_
          rotate_left
          · intro w'
            go_simp
            with_reducible rfl
          rotate_left
          · simp only [Act.put, List.setIfInBounds_toArray, List.set_cons_zero, List.set_cons_succ, i64_w, i32_w]
            rfl
          refine take_ (i := 1) (N := some 14) (v := ?_) (a' := ?_) #[true, true, true, false, true, false, false, false, false, false, false] rfl rfl (take_ofW HT_.out HW_.out z4_25) (fun _ _ _ h => h) (Or.inl ⟨by rfl, ?_⟩) hHeld ?_ ?_
          rotate_left
          · intro w' s0
            go_simp
            with_reducible rfl
          rotate_left
          · simp only [Act.put, List.setIfInBounds_toArray, List.set_cons_zero, List.set_cons_succ, i64_w, i32_w]
            rfl
          refine one_ (i := 3) (N := some 16) #[true, true, true, true, true, false, false, false, false, false, false] rfl rfl (one_of HT_.out z4_25) z4_34 (fun K hK => ?_)
          refine goes_ Try.func59 z4_25 rfl #[.pointer (some ⟨g, 0, none⟩)] (by rfl) rfl rfl z4_1 ?_
          with_reducible refine (spec_l05Case.calls k1 g s0_0 t297 t298 t299 t302 t303 w0 _ ?side1 ?side2 A9.out).mono ?_
          (case side1 => exact z4_15)
          (case side2 => exact z4_16)
          rintro e w14 ⟨v300, rfl, ho0, hi, hb, hk⟩
          refine ⟨_, rfl, ?_⟩
          have n0_ := Aside0.mk (Kd.S_mono (Kd.S_told (Kd.S_oldK (IsS111.apartS (show IsS111 w0 _ g s0_0 t297 t298 from by repeat (first | (with_reducible first | exact HI0.out | apply IsS111.alloc | apply IsS111.drewN | apply IsS111.drew | apply IsS111.set_1 | apply IsS111.set_2 | refine IsS111.far ?_ NB0_294.out _ | refine IsS111.far ?_ NB0_295.out _) | exact HI0.out)) z4_28 z4_34) hk) (Kd.R_base ho0)) (fun _ h_ => h_.1))
          have n1_ := Aside0.mk (KeepBut.blk hk (g' := gb294) (o := .cells #[.slice none 0 0] 53 (0, 0)) z4_18 NB294_0.out (by simp))
          have n2_ := Aside0.mk (KeepBut.blk hk (g' := gb295) (o := .cells #[u296000] 53 (0, 0)) z4_22 NB295_0.out (by simp))
          have n3_ := Aside0.mk (Kd.R_lower ho0 (keep_size (w := w) (g := g) (row := none) z4_13))
          have n4_ := Aside0.mk (KeepBut.trans z4_13 hk (.inl rfl))
          have n5_ := Aside0.mk (hb)
          have n6_ := Aside0.mk (hi)
          clear HO_296000
          clear BK294
          clear BK295
          clear HK
          clear HB
          clear HI0
          have HO_296000 := n0_
          have BK294 := n1_
          have BK295 := n2_
          have HO301 := n3_
          have HK := n4_
          have HB := n5_
          have HI0 := n6_
          clear n0_ n1_ n2_ n3_ n4_ n5_ n6_
          (try clear hb)
          (try clear hb2)
          (try clear hk)
          (try clear hi)
          (try clear ho0)
          refine hK.out _ _ ((blk_cell BK295.out 0).trans rfl) (fun hHeld => ?_)
          clear hK K
          refine norm_ (a' := ?_) ?_ ?_
          rotate_left
          · show Act.put _ (some 16) _ = _
            simp only [Act.put, List.setIfInBounds_toArray, List.set_cons_zero, List.set_cons_succ, i64_w, i32_w]
            rfl
          refine one_ (i := 5) (N := some 18) #[true, true, true, true, true, true, false, false, false, false, false] rfl rfl (one_of HT_.out z4_25) z4_34 (fun K hK => ?_)
          refine goes_ Try.func60 z4_25 rfl #[.pointer (some ⟨g, 0, none⟩)] (by rfl) rfl rfl z4_1 ?_
          with_reducible refine (spec_l03Expr.calls g s0_0 t302 t303 t304 t305 t306 t307 t308 w0 _ ?side1 ?side2 A10.out).mono ?_
          (case side1 => exact z4_15)
          (case side2 => exact z4_16)
          rintro e w15 ⟨rfl, hi, hb, hk⟩
          refine ⟨_, rfl, ?_⟩
          have n0_ := Aside0.mk (Kd.S_mono (Kd.S_keep (IsS111.apartS (show IsS111 w0 _ g s0_0 t302 t303 from by repeat (first | (with_reducible first | exact HI0.out | apply IsS111.alloc | apply IsS111.drewN | apply IsS111.drew | apply IsS111.set_1 | apply IsS111.set_2 | refine IsS111.far ?_ NB0_294.out _ | refine IsS111.far ?_ NB0_295.out _) | exact HI0.out)) z4_28 z4_34) hk (fun _ h => h.2)) (fun _ h => h.1))
          have n1_ := Aside0.mk (KeepBut.blk hk (g' := gb294) (o := .cells #[.slice none 0 0] 53 (0, 0)) z4_18 NB294_0.out (by simp))
          have n2_ := Aside0.mk (KeepBut.blk hk (g' := gb295) (o := .cells #[u296000] 53 (0, 0)) z4_22 NB295_0.out (by simp))
          have n3_ := Aside0.mk (Kd.R_mono (Kd.R_keep (IsS111.apart (show IsS111 w0 _ g s0_0 t302 t303 from by repeat (first | (with_reducible first | exact HI0.out | apply IsS111.alloc | apply IsS111.drewN | apply IsS111.drew | apply IsS111.set_1 | apply IsS111.set_2 | refine IsS111.far ?_ NB0_294.out _ | refine IsS111.far ?_ NB0_295.out _) | exact HI0.out)) (by (with_reducible repeat (first | apply Kd.R_alloc | apply Kd.R_drewN | apply Kd.R_drew)); exact HO301.out) z4_34) hk (fun _ h => h.2)) (fun _ h => h.1))
          have n4_ := Aside0.mk (KeepBut.trans z4_13 hk (.inl rfl))
          have n5_ := Aside0.mk (hb)
          have n6_ := Aside0.mk (hi)
          clear HO_296000
          clear BK294
          clear BK295
          clear HO301
          clear HK
          clear HB
          clear HI0
          have HO_296000 := n0_
          have BK294 := n1_
          have BK295 := n2_
          have HO301 := n3_
          have HK := n4_
          have HB := n5_
          have HI0 := n6_
          clear n0_ n1_ n2_ n3_ n4_ n5_ n6_
          (try clear hb)
          (try clear hb2)
          (try clear hk)
          (try clear hi)
          obtain ⟨Ao16, co16, eo16⟩ := Kd.R_slice HO301.out
          (first | subst eo16 | (injection eo16 with f1_ f2_ f3_; have f4_ := f1_.symm; have f5_ := f3_.symm; clear f1_ f2_ f3_; subst f4_; subst f5_))
          refine hK.out _ _ ((blk_cell BK295.out 0).trans rfl) (fun hHeld => ?_)
          clear hK K
          refine norm_ (a' := ?_) ?_ ?_
          rotate_left
          · show Act.put _ (some 18) _ = _
            simp only [Act.put, List.setIfInBounds_toArray, List.set_cons_zero, List.set_cons_succ, i64_w, i32_w]
            rfl
          refine pure_ (i := 6) (N := some 19) (v := ?_) (a' := ?_) #[true, true, true, true, true, true, true, false, false, false, false] rfl rfl (any_of HT_.out z4_25) (fun _ _ _ h => h) (Or.inl ⟨by rfl, ?_⟩) ?_ ?_
          rotate_left
          · intro w'
            go_simp
            with_reducible rfl
          rotate_left
          · simp only [Act.put, List.setIfInBounds_toArray, List.set_cons_zero, List.set_cons_succ, i64_w, i32_w]
            rfl
          refine one_ (i := 7) (N := some 20) #[true, true, true, true, true, true, true, true, false, false, false] rfl rfl (one_of HT_.out z4_25) z4_34 (fun K hK => ?_)
          refine value_ (w1 := ?_) (v := ?_) (by rfl) rfl ?_ ?_
          rotate_left 2
          · go_simp
            constructor
            · rfl
            · rfl
          refine hK.out _ _ ((blk_cell (blk_alloc BK295.out _) 0).trans rfl) (fun hHeld => ?_)
          clear hK K
          refine norm_ (a' := ?_) ?_ ?_
          rotate_left
          · show Act.put _ (some 20) _ = _
            simp only [Act.put, List.setIfInBounds_toArray, List.set_cons_zero, List.set_cons_succ, i64_w, i32_w]
            rfl
          refine one_ (i := 8) (N := some 21) #[true, true, true, true, true, true, true, true, true, false, false] rfl rfl (one_of HT_.out z4_25) z4_34 (fun K hK => ?_)
          refine Kd.S_append_step k28 w.heap.size (by rfl) (.tmp 14) (.tmp 20) 51 28 (.agg #[(.slice none 0 0), (.int .i64 0), (.int .i64 0), (.int .i64 0)]) 48 rfl Try.underlying51 info28 rfl z4_34 (by omega) u296000 x296000_1 (⟨t299, (⟨t304, t305, t306⟩ : S26)⟩ : S28) [.slice Ao16 t299.length co16, .int .i64 t304, .int .i64 t305, .int .i64 t306] (fun _ => True) (fun k_ => some k_ = (.slice Ao16 t299.length co16 : Value).ownBlock) rfl rfl ?aP (fun k_ hk_ => ((Kd.R_mono (ok' := fun k_ => ((fun _ => True)) k_ ∧ some k_ ≠ (u296000 : Value).ownBlock) (Kd.R_apart' (HO301.out) (Kd.S_typed HO_296000.out) z4_34) (fun k_ hk => ⟨trivial, hk.2⟩))).1 k_ hk_.symm) ?aF ?aO (Below.refl _ _) ?aS ?aL ?_
          (case aP => exact k28_mkM _ _ _ (⟨t299, (⟨t304, t305, t306⟩ : S26)⟩ : S28) (Kd.R_mono (Kd.R_tight rfl (Kd.R_mono (ok' := fun k_ => ((fun _ => True)) k_ ∧ some k_ ≠ (u296000 : Value).ownBlock) (Kd.R_apart' (HO301.out) (Kd.S_typed HO_296000.out) z4_34) (fun k_ hk => ⟨trivial, hk.2⟩))) (fun _ h_ => h_)))
          (case aF => exact (fun _ _ => trivial))
          (case aO => exact (by (with_reducible repeat (first | apply Kd.S_alloc | apply Kd.S_drewN | apply Kd.S_drew)); exact Kd.S_mono HO_296000.out (fun k_ hk => ⟨trivial, fun e_ => hk.2 e_⟩)))
          (case aS => exact (keep_size (w := w) (g := g) (row := none) z4_13))
          (case aL => have := LMc11.out; omega)
          intro v310 w17 ho hb hg hat
          rw [← Ny309.out] at ho
          have n0_ := Aside0.mk (blk_grown (g := gb294) (o := .cells #[.slice none 0 0] 53 (0, 0)) z4_18 hg (Kd.S_ne HO_296000.out BK294.out z4_34))
          have n1_ := Aside0.mk (blk_grown (g := gb295) (o := .cells #[u296000] 53 (0, 0)) z4_22 hg (Kd.S_ne HO_296000.out BK295.out z4_34))
          have n2_ := Aside0.mk (IsS111.grown z4_15 hg (IsS111.own_neS HI0.out HO_296000.out z4_34))
          have n3_ := Aside0.mk (below_weaken z4_16 HL.out hb)
          have n4_ := Aside0.mk (KeepBut.trans z4_13 (KeepBut.of_grown hg g) (Kd.S_base2 HO_296000.out))
          have n5_ := Aside0.mk (ho)
          clear BK294
          clear BK295
          clear HI0
          clear HB
          clear HK
          clear HO_296000
          clear HO301
          have BK294 := n0_
          have BK295 := n1_
          have HI0 := n2_
          have HB := n3_
          have HK := n4_
          have HO311 := n5_
          clear n0_ n1_ n2_ n3_ n4_ n5_
          clear ho hb hg hat
          obtain ⟨Ao18, co18, eo18⟩ := Kd.S_slice HO311.out
          (first | subst eo18 | (injection eo18 with f1_ f2_ f3_; have f4_ := f1_.symm; have f5_ := f3_.symm; clear f1_ f2_ f3_; subst f4_; subst f5_))
          refine hK.out _ _ ((blk_cell BK295.out 0).trans rfl) (fun hHeld => ?_)
          clear hK K
          refine norm_ (a' := ?_) ?_ ?_
          rotate_left
          · show Act.put _ (some 21) _ = _
            simp only [Act.put, List.setIfInBounds_toArray, List.set_cons_zero, List.set_cons_succ, i64_w, i32_w]
            rfl
          refine pure_ (i := 9) (N := some 22) (v := ?_) (a' := ?_) #[true, true, true, true, true, true, true, true, true, true, false] rfl rfl (any_of HT_.out z4_25) (fun _ _ _ h => h) (Or.inl ⟨by rfl, ?_⟩) ?_ ?_
          rotate_left
          · intro w'
            go_simp
            with_reducible rfl
          rotate_left
          · simp only [Act.put, List.setIfInBounds_toArray, List.set_cons_zero, List.set_cons_succ, i64_w, i32_w]
            rfl
          refine last_ (i := 10) (N := none) #[true, true, true, true, true, true, true, true, true, true, true] rfl rfl (one_of HT_.out z4_25) z4_34 (fun K hK => ?_)
          have hs19 : w17.cell? ⟨gb295, 0, none⟩ = some (u296000) := (blk_cell BK295.out 0).trans rfl
          have hfs19 := blk_frozen BK295.out 0
          have hns19_0 := NB294_295.out
          have hms19_0 := NB295_294.out
          refine skip_ (w1 := ?_) (by rfl) rfl ?_ ?_
          rotate_left
          · go_simp
            rfl
          refine hK.out _ _ ?_
          clear hK K
          refine done_ (done_of HT_.out z4_25) ?_
          try go_wp2
          go_roundg k1
          case measure => have := HK1.out; omega
          case rel => exact ⟨(wrap64 (x4_1 + 1)), (t307), (t308), (y309), (.slice Ao18 y309.length co18), z4_20, H', ⟨by have := HK1.out; omega⟩, ⟨by (with_reducible repeat (first | apply Kd.S_alloc | apply Kd.S_drewN | apply Kd.S_drew)); exact Kd.S_mono (Kd.S_far (p := ⟨gb295, 0, none⟩) (Kd.S_types HO311.out BK295.out z4_34) (fun _ hk => hk.2) (.slice Ao18 y309.length co18)) (fun _ hk => trivial)⟩, ⟨by (with_reducible repeat (first | refine blk_drewN ?_ _ | refine blk_drew ?_ | refine blk_alloc ?_ _)); refine blk_far ?_ NB294_295.out _; (with_reducible repeat (first | refine blk_drewN ?_ _ | refine blk_drew ?_ | refine blk_alloc ?_ _)); exact BK294.out⟩, ⟨by (with_reducible repeat (first | refine blk_drewN ?_ _ | refine blk_drew ?_ | refine blk_alloc ?_ _)); refine blk_put (cs := #[u296000]) ?_ 0 _ rfl; (with_reducible repeat (first | refine blk_drewN ?_ _ | refine blk_drew ?_ | refine blk_alloc ?_ _)); exact BK295.out⟩, ⟨by repeat (first | (with_reducible first | exact HI0.out | apply IsS111.alloc | apply IsS111.drewN | apply IsS111.drew | apply IsS111.set_1 | apply IsS111.set_2 | refine IsS111.far ?_ NB0_294.out _ | refine IsS111.far ?_ NB0_295.out _) | exact HI0.out)⟩, ⟨by repeat (first | (with_reducible first | exact HK.out | apply KeepBut.set_ | apply keep_drewN | apply keep_drew | apply keep_alloc | refine keep_far ?_ GW294.out _ | refine keep_far ?_ GW295.out _) | exact HK.out)⟩, ⟨by repeat (first | (with_reducible first | exact HB.out | apply below_alloc | apply pw_below_drewN | apply below_drew1 | refine below_set ?_ (IsS111.ge HI0.out) | refine below_set ?_ GE294.out | refine below_set ?_ GE295.out) | exact HB.out)⟩⟩
        · rw [if_neg c11] at H
          exact absurd H (by simp)
      · rw [if_neg c8] at H
        have c8b0 : decide (x4_1 < (wrap64 (1 + t296))) = false := decide_eq_false c8
        clear c8
        simp only [Option.some.injEq, Prod.mk.injEq] at H
        obtain ⟨rfl, rfl, rfl⟩ := H
        go_wp2_with (first | ((first | ((with_reducible refine gate_callee (f := 66) rfl ?_); refine goesL_ (some 8) rfl rfl Try.func66 z4_25 rfl #[.pointer (some ⟨g, 0, none⟩), .int .i64 3] rfl z4_1 ?_; (with_reducible refine (spec_l01Below.calls g s0_0 x1001_1 x1002_1 3 t296 t297 t298 w0 _ ?side1 ?side2 A7.out).mono ?_)) | (go_at_call 66; (with_reducible refine (spec_l01Below.calls g s0_0 x1001_1 x1002_1 3 t296 t297 t298 w0 _ ?side1 ?side2 A7.out).mono ?_))); (case side1 => exact z4_15); (case side2 => exact z4_16); rintro e w20 ⟨rfl, hi, hb, hk⟩; (first | refine ⟨_, rfl, ?_⟩ | skip); have n0_ := Aside0.mk (Kd.S_mono (Kd.S_keep (IsS111.apartS (show IsS111 w0 _ g s0_0 x1001_1 x1002_1 from by repeat (first | (with_reducible first | exact HI0.out | apply IsS111.alloc | apply IsS111.drewN | apply IsS111.drew | apply IsS111.set_1 | apply IsS111.set_2 | refine IsS111.far ?_ NB0_294.out _ | refine IsS111.far ?_ NB0_295.out _) | exact HI0.out)) z4_28 z4_34) hk (fun _ h => h.2)) (fun _ h => h.1)); have n1_ := Aside0.mk (KeepBut.blk hk (g' := gb294) (o := .cells #[.slice none 0 0] 53 (0, 0)) z4_18 NB294_0.out (by simp)); have n2_ := Aside0.mk (KeepBut.blk hk (g' := gb295) (o := .cells #[u296000] 53 (0, 0)) z4_22 NB295_0.out (by simp)); have n3_ := Aside0.mk (KeepBut.trans z4_13 hk (.inl rfl)); have n4_ := Aside0.mk (hb); have n5_ := Aside0.mk (hi); clear HO_296000; clear BK294; clear BK295; clear HK; clear HB; clear HI0; have HO_296000 := n0_; have BK294 := n1_; have BK295 := n2_; have HK := n3_; have HB := n4_; have HI0 := n5_; clear n0_ n1_ n2_ n3_ n4_ n5_; (try clear hb); (try clear hb2); (try clear hk); (try clear hi); have hnb21 := NB295_294.out; have hnc21 := NB294_295.out; have hnb22 := NB295_0.out; have hnc22 := NB0_295.out; have hcz23_0 : w20.cell? ⟨gb295, 0, none⟩ = some (u296000) := (blk_cell BK295.out 0).trans rfl; have hfz23_0 := blk_frozen BK295.out 0; obtain ⟨Ao24, co24, eo24⟩ := Kd.S_slice HO_296000.out; subst eo24; have hnb25 := NB294_0.out; have hnc25 := NB0_294.out; have hcz26_0 : w20.cell? ⟨gb294, 0, none⟩ = some (.slice none 0 0) := (blk_cell BK294.out 0).trans rfl; have hfz26_0 := blk_frozen BK294.out 0))
        refine bodyPost_ret (results_cell_row rfl _ _ gb294 53 #[.slice Ao24 x296000_1.length co24] (0, 0) _ rfl (by (with_reducible repeat (first | refine blk_drewN ?_ _ | refine blk_drew ?_ | refine blk_alloc ?_ _)); refine blk_put (cs := #[.slice none 0 0]) ?_ 0 _ rfl; (with_reducible repeat (first | refine blk_drewN ?_ _ | refine blk_drew ?_ | refine blk_alloc ?_ _)); exact BK294.out) Try.underlying53 rfl z4_25) rfl ?_
        exact ⟨_, by first | rfl | (simp [errW_none, errW_some] <;> rfl) | (simp [*, errW_none, errW_some] <;> rfl) | (simp [*, errW_none, errW_some, i64_w]; done), by (with_reducible repeat (first | apply Kd.S_alloc | apply Kd.S_drewN | apply Kd.S_drew)); exact Kd.S_mono (Kd.S_far (p := ⟨gb294, 0, none⟩) (Kd.S_types HO_296000.out BK294.out z4_34) (fun _ hk => hk.2) (.slice Ao24 x296000_1.length co24)) (fun _ hk => trivial), by repeat (first | (with_reducible first | exact HI0.out | apply IsS111.alloc | apply IsS111.drewN | apply IsS111.drew | apply IsS111.set_1 | apply IsS111.set_2 | refine IsS111.far ?_ NB0_294.out _ | refine IsS111.far ?_ NB0_295.out _) | exact HI0.out), by repeat (first | (with_reducible first | exact HB.out | apply below_alloc | apply pw_below_drewN | apply below_drew1 | refine below_set ?_ (IsS111.ge HI0.out) | refine below_set ?_ GE294.out | refine below_set ?_ GE295.out) | exact HB.out), by repeat (first | (with_reducible first | exact HK.out | apply KeepBut.set_ | apply keep_drewN | apply keep_drew | apply keep_alloc | refine keep_far ?_ GW294.out _ | refine keep_far ?_ GW295.out _) | exact HK.out)⟩

/-! ### spec_DrawProgram: function 37 -/
def spec_DrawProgram.f (k : Nat) (l0 : List Int) : Option ((List (S28))) := (spec_l01New.f k l0).bind fun bt313 => ((spec_l06Program.f k bt313.1 bt313.2.1 bt313.2.2).bind fun bt317 => (some bt317.1))
theorem spec_DrawProgram.mono : ∀ a0 k, LeO (spec_DrawProgram.f k a0) (spec_DrawProgram.f (k + 1) a0) := by
  intro a0 k
  unfold spec_DrawProgram.f
  repeat' first
      | (with_reducible exact spec_l01New.mono _ _)
      | (with_reducible exact spec_l06Program.mono _ _ _ _)
      | (with_reducible exact LeO.refl _)
      | (with_reducible exact LeO.none _)
      | (with_reducible refine LeO.ite ?_ ?_)
      | (with_reducible refine LeO.bind ?_ (fun _ => ?_))
      | exact spec_l01New.mono _ _
      | exact spec_l06Program.mono _ _ _ _
      | exact LeO.none _
      | refine LeO.ite ?_ ?_
      | refine LeO.bind ?_ (fun _ => ?_)
set_option maxHeartbeats 8000000 in
set_option maxRecDepth 100000 in
theorem spec_DrawProgram.calls (k : Nat) (A0 : Option Addr) (c0 : Nat) (l0 : List Int) (r : List (S28)) (w : World) (hr0 : Kd.C (Kd.int .u8) w A0 l0.length l0) (hc0 : l0.length ≤ c0) (h : spec_DrawProgram.f k l0 = some r) :
    Calls Try.prog 37 #[.slice A0 l0.length c0] w fun e w' => ∃ v0_ : Value, e = .returned (.agg #[v0_]) ∧ Kd.S k28 28 w' w.heap.size (fun _ => True) v0_ r ∧ Below w.heap.size w w' := by
  have hu53 := Try.underlying53
  have HR0 := Aside0.mk hr0
  have HC0 := Aside0.mk hc0
  clear hr0 hc0
  have HB := Aside0.mk (Below.refl w.heap.size w)
  have H : ((spec_l01New.f k l0).bind fun bt313 => ((spec_l06Program.f k bt313.1 bt313.2.1 bt313.2.2).bind fun bt317 => (some bt317.1))) = some r := h
  clear h
  replace H := Option.bind_eq_some_iff.mp H
  obtain ⟨⟨t313, t314, t315⟩, A20, H⟩ := H
  replace H : ((spec_l06Program.f k t313 t314 t315).bind fun bt317 => (some bt317.1)) = some r := H
  have A2 := Aside0.mk A20
  clear A20
  replace H := Option.bind_eq_some_iff.mp H
  obtain ⟨⟨t317, t320, t321⟩, A30, H⟩ := H
  replace H : (some t317) = some r := H
  have A3 := Aside0.mk A30
  clear A30
  obtain rfl := Option.some.inj H
  go_enter Try.func37, Try.ntmps37
  go_wp2_with (first | ((with_reducible refine gate_dst (N := 2) rfl ?_); refine box_event ?hg (N := 2) ?hd (cs := #[.slice none 0 0]) (t := 53) ?hr ?_; (case hd => rfl); (case hg => rfl); (case hr => exact z4_21); intro gb312 hg w4 hbox hb; have n0_ := Aside0.mk (below_step z4_11 hb); have n1_ := Aside0.mk (hbox); have n2_ := Aside0.mk ((by rw [hg]; exact (below_size z4_11) : w.heap.size ≤ gb312)); have n3_ := Aside0.mk ((by rw [hg]; exact (below_size z4_11) : w.heap.size ≤ gb312)); clear HB; have HB := n0_; have BK312 := n1_; have GW312 := n2_; have GE312 := n3_; clear n0_ n1_ n2_ n3_; clear hb hbox hg) | ((first | ((with_reducible refine gate_callee (f := 58) rfl ?_); refine goesL_ (some 4) rfl rfl Try.func58 z4_25 rfl #[.slice A0 l0.length c0] rfl z4_1 ?_; (with_reducible refine (spec_l01New.calls k _ _ l0 t313 t314 t315 w _ ?side1 ?side2 ?side3 A2.out).mono ?_)) | (go_at_call 58; (with_reducible refine (spec_l01New.calls k _ _ l0 t313 t314 t315 w _ ?side1 ?side2 ?side3 A2.out).mono ?_))); (case side1 => repeat (first | (with_reducible first | exact HB.out | apply below_alloc | apply pw_below_drewN | apply below_drew1 | refine below_set ?_ GE312.out) | exact HB.out)); (case side2 => exact HR0.out); (case side3 => exact HC0.out); rintro e w5 ⟨g316, rfl, hi, hb, hb2⟩; (first | refine ⟨_, rfl, ?_⟩ | skip); have n0_ := Aside0.mk (blk_below (g := gb312) (o := .cells #[.slice none 0 0] 53 (0, 0)) z4_27 hb2); have n1_ := Aside0.mk (hb); have n2_ := Aside0.mk (hi); have n3_ := Aside0.mk (IsS111.ne_blk hi (blk_below (g := gb312) (o := .cells #[.slice none 0 0] 53 (0, 0)) z4_27 hb2) z4_34); have n4_ := Aside0.mk (Ne.symm (IsS111.ne_blk hi (blk_below (g := gb312) (o := .cells #[.slice none 0 0] 53 (0, 0)) z4_27 hb2) z4_34)); clear BK312; clear HB; have BK312 := n0_; have HB := n1_; have HI316 := n2_; have NB316_312 := n3_; have NB312_316 := n4_; clear n0_ n1_ n2_ n3_ n4_; (try clear hb); (try clear hb2); (try clear hk); (try clear hi)) | ((first | ((with_reducible refine gate_callee (f := 85) rfl ?_); refine goesL_ (some 5) rfl rfl Try.func85 z4_25 rfl #[.pointer (some ⟨g316, 0, none⟩)] rfl z4_1 ?_; (with_reducible refine (spec_l06Program.calls k g316 t313 t314 t315 t317 t320 t321 w _ ?side1 ?side2 A3.out).mono ?_)) | (go_at_call 85; (with_reducible refine (spec_l06Program.calls k g316 t313 t314 t315 t317 t320 t321 w _ ?side1 ?side2 A3.out).mono ?_))); (case side1 => repeat (first | (with_reducible first | exact HI316.out | apply IsS111.alloc | apply IsS111.drewN | apply IsS111.drew | apply IsS111.set_1 | apply IsS111.set_2 | refine IsS111.far ?_ NB316_312.out _) | exact HI316.out)); (case side2 => exact z4_35); rintro e w6 ⟨v318, rfl, ho0, hi, hb, hk⟩; (first | refine ⟨_, rfl, ?_⟩ | skip); have n0_ := Aside0.mk (KeepBut.blk hk (g' := gb312) (o := .cells #[.slice none 0 0] 53 (0, 0)) z4_27 NB312_316.out (by simp)); have n1_ := Aside0.mk (Kd.S_lower ho0 (below_size z4_35)); have n2_ := Aside0.mk (hb); have n3_ := Aside0.mk (hi); clear BK312; clear HB; clear HI316; have BK312 := n0_; have HO319 := n1_; have HB := n2_; have HI316 := n3_; clear n0_ n1_ n2_ n3_; (try clear hb); (try clear hb2); (try clear hk); (try clear hi); (try clear ho0); obtain ⟨Ao7, co7, eo7⟩ := Kd.S_slice HO319.out; subst eo7; have hnb8 := NB312_316.out; have hnc8 := NB316_312.out; have hcz9_0 : w6.cell? ⟨gb312, 0, none⟩ = some (.slice none 0 0) := (blk_cell BK312.out 0).trans rfl; have hfz9_0 := blk_frozen BK312.out 0))
  refine bodyPost_ret (results_cell_row rfl _ _ gb312 53 #[.slice Ao7 t317.length co7] (0, 0) _ rfl (by (with_reducible repeat (first | refine blk_drewN ?_ _ | refine blk_drew ?_ | refine blk_alloc ?_ _)); refine blk_put (cs := #[.slice none 0 0]) ?_ 0 _ rfl; (with_reducible repeat (first | refine blk_drewN ?_ _ | refine blk_drew ?_ | refine blk_alloc ?_ _)); exact BK312.out) Try.underlying53 rfl z4_25) rfl ?_
  exact ⟨_, by first | rfl | (simp [errW_none, errW_some] <;> rfl) | (simp [*, errW_none, errW_some] <;> rfl) | (simp [*, errW_none, errW_some, i64_w]; done), by (with_reducible repeat (first | apply Kd.S_alloc | apply Kd.S_drewN | apply Kd.S_drew)); exact Kd.S_mono (Kd.S_far (p := ⟨gb312, 0, none⟩) (Kd.S_types HO319.out BK312.out z4_34) (fun _ hk => hk.2) (.slice Ao7 t317.length co7)) (fun _ hk => trivial), by repeat (first | (with_reducible first | exact HB.out | apply below_alloc | apply pw_below_drewN | apply below_drew1 | refine below_set ?_ (IsS111.ge HI316.out) | refine below_set ?_ GE312.out) | exact HB.out)⟩

/-! ### spec_l03Vars: function 86 -/
def spec_l03Vars.l0 : Nat → List Int → Int → List Int → Int → Int → Option (List Int × Int × Int)
  | 0, _, _, _, _, _ => none
  | k + 1, x3, x4, x1000, x1001, x1002 => if x4 < 8 then ((spec_l01Below.f x1000 x1001 x1002 2000).bind fun bt325 => ((spec_l01PickInt.f x1000 bt325.2.1 bt325.2.2 (([0, 1, 2, 5, wrap64 (bt325.1 - 1000), 1000000] : List Int))).bind fun bt331 => (if x3.length < 17592186044416 then (spec_l03Vars.l0 k (x3 ++ [bt331.1]) (wrap64 (x4 + 1)) x1000 bt331.2.1 bt331.2.2) else (none)))) else (some (x3, x1001, x1002))
def spec_l03Vars.f (k : Nat) (s0_0 : List Int) (s0_1 : Int) (s0_2 : Int) : Option (List Int × Int × Int) := spec_l03Vars.l0 k (([] : List Int)) 0 s0_0 s0_1 s0_2
theorem spec_l03Vars.mono_l : ∀ k, (∀ y0 y1 y2 y3 y4, LeO (spec_l03Vars.l0 k y0 y1 y2 y3 y4) (spec_l03Vars.l0 (k + 1) y0 y1 y2 y3 y4))
  | 0 => fun _ _ _ _ _ r h => by simp [spec_l03Vars.l0] at h
  | k + 1 => by
    have ih0 := spec_l03Vars.mono_l k
    · intro y0 y1 y2 y3 y4
      unfold spec_l03Vars.l0
      repeat' first
      | (with_reducible exact ih0 _ _ _ _ _)
      | (with_reducible exact LeO.refl _)
      | (with_reducible exact LeO.none _)
      | (with_reducible refine LeO.ite ?_ ?_)
      | (with_reducible refine LeO.bind ?_ (fun _ => ?_))
      | exact ih0 _ _ _ _ _
      | exact LeO.none _
      | refine LeO.ite ?_ ?_
      | refine LeO.bind ?_ (fun _ => ?_)
theorem spec_l03Vars.mono : ∀ a0 a1 a2 k, LeO (spec_l03Vars.f k a0 a1 a2) (spec_l03Vars.f (k + 1) a0 a1 a2) := by
  intro a0 a1 a2 k
  have ih0 := spec_l03Vars.mono_l k
  unfold spec_l03Vars.f
  repeat' first
      | (with_reducible exact ih0 _ _ _ _ _)
      | (with_reducible exact LeO.refl _)
      | (with_reducible exact LeO.none _)
      | (with_reducible refine LeO.ite ?_ ?_)
      | (with_reducible refine LeO.bind ?_ (fun _ => ?_))
      | exact ih0 _ _ _ _ _
      | exact LeO.none _
      | refine LeO.ite ?_ ?_
      | refine LeO.bind ?_ (fun _ => ?_)
set_option maxHeartbeats 8000000 in
set_option maxRecDepth 100000 in
theorem spec_l03Vars.calls (k : Nat) (g : Nat) (s0_0 : List Int) (s0_1 : Int) (s0_2 : Int) (r1 : List Int) (r2 : Int) (r3 : Int) (w0 w : World) (hI : IsS111 w0 w g s0_0 s0_1 s0_2) (hB : Below w0.heap.size w0 w) (h : spec_l03Vars.f k s0_0 s0_1 s0_2 = some (r1, r2, r3)) :
    Calls Try.prog 86 #[.pointer (some ⟨g, 0, none⟩)] w fun e w' => ∃ v0_ : Value, e = .returned (v0_) ∧ Kd.R (Kd.int .i64) 3 w' w.heap.size (fun _ => True) v0_ r1 ∧ IsS111 w0 w' g s0_0 r2 r3 ∧ Below w0.heap.size w0 w' ∧ KeepBut w w' g none := by
  have HI0 := Aside0.mk hI
  have HK := Aside0.mk (KeepBut.refl w g none)
  have HL := Aside0.mk hB.size
  clear hI
  have HW0 := Aside0.mk hB.size
  have HB := Aside0.mk hB
  clear hB
  have H : (spec_l03Vars.l0 k (([] : List Int)) 0 s0_0 s0_1 s0_2) = some (r1, r2, r3) := h
  clear h
  obtain ⟨y322, hy322⟩ : ∃ y_ : List Int, y_ = (([] : List Int)) := ⟨_, rfl⟩
  replace H : (spec_l03Vars.l0 k y322 0 s0_0 s0_1 s0_2) = some (r1, r2, r3) := by first | (rw [hy322]; with_reducible exact H) | (have H2_ := (Option.bind_some _ _).symm.trans H; rw [hy322]; with_reducible exact H2_) | (have H2_ := (Option.bind_some _ _).symm.trans H; with_reducible exact H2_) | with_reducible exact H | (rw [hy322]; exact H) | exact H
  have Ny322 := Aside0.mk hy322
  clear hy322
  have H' := Aside0.mk H
  clear H
  go_enter Try.func86, Try.ntmps86
  go_wp2_with (first | ((with_reducible refine gate_dst (N := 5) rfl ?_); refine Kd.R_lit (Kd.int .i64) _ 3 ?hg (N := 5) ?hd (xs := ([] : List Int)) (inner := []) (ok := fun _ => True) (okp := fun _ => True) ?hr ?hp (fun _ hk => hk) trivial (Below.refl _ _) (Nat.le_refl _) (by simp) ?_; (case hd => rfl); (case hg => rfl); (case hr => exact z4_21); (case hp => exact (Reps.none _ _)); intro v323 w2 ho3 hb hg_ hnew_; clear hg_ hnew_; (first | rw [← Ny322.out] at ho3 | (simp only [Int.reduceToNat] at ho3; rw [← Ny322.out] at ho3)); have n0_ := Aside0.mk (Kd.R_lower ho3 (keep_size (w := w) (g := g) (row := none) z4_0)); have n1_ := Aside0.mk (IsS111.below z4_5 hb); have n2_ := Aside0.mk (KeepBut.trans z4_0 (KeepBut.of_below hb g none) (.inl rfl)); have n3_ := Aside0.mk (below_step z4_6 hb); clear HI0; clear HK; clear HB; have HO324 := n0_; have HI0 := n1_; have HK := n2_; have HB := n3_; clear n0_ n1_ n2_ n3_; clear hb ho3))
  go_loopg [3, 4] k (fun kq v3 v4 w' => ∃ (x3_1 : List Int) (x4_1 : Int) (x1001_1 : Int) (x1002_1 : Int), v4 = .int .i64 x4_1 ∧ Aside0 (spec_l03Vars.l0 kq x3_1 x4_1 s0_0 x1001_1 x1002_1 = some (r1, r2, r3)) ∧ Aside0 (kq ≤ k) ∧ Aside0 (Kd.R (Kd.int .i64) 3 w' w.heap.size (fun _ => True) v3 x3_1) ∧ Aside0 (IsS111 w0 w' g s0_0 x1001_1 x1002_1) ∧ Aside0 (KeepBut w w' g none) ∧ Aside0 (Below w0.heap.size w0 w'))
  case atStart => exact ⟨(y322), (0), (s0_1), (s0_2), z4_20, H', ⟨Nat.le_refl _⟩, ⟨by (with_reducible repeat (first | apply Kd.R_alloc | apply Kd.R_drewN | apply Kd.R_drew)); exact HO324.out⟩, ⟨by repeat (first | (with_reducible first | exact HI0.out | apply IsS111.alloc | apply IsS111.drewN | apply IsS111.drew | apply IsS111.set_1 | apply IsS111.set_2) | exact HI0.out)⟩, ⟨by repeat (first | (with_reducible first | exact HK.out | apply KeepBut.set_ | apply keep_drewN | apply keep_drew | apply keep_alloc) | exact HK.out)⟩, ⟨by repeat (first | (with_reducible first | exact HB.out | apply below_alloc | apply pw_below_drewN | apply below_drew1 | refine below_set ?_ (IsS111.ge HI0.out)) | exact HB.out)⟩⟩
  case round =>
    clear H'
    obtain ⟨x3_1, x4_1, x1001_1, x1002_1, rfl, HA, HK1, HO_3, HI0, HK, HB⟩ := hrel
    cases gk with
    | zero => exact absurd HA.out (by simp [spec_l03Vars.l0])
    | succ k1 =>
      have H := HA.out
      clear HA
      simp only [spec_l03Vars.l0] at H
      by_cases c4 : x4_1 < 8
      · rw [if_pos c4] at H
        have c4b0 : decide (x4_1 < 8) = true := decide_eq_true c4
        clear c4
        replace H := Option.bind_eq_some_iff.mp H
        obtain ⟨⟨t325, t326, t327⟩, A50, H⟩ := H
        replace H : ((spec_l01PickInt.f s0_0 t326 t327 (([0, 1, 2, 5, wrap64 (t325 - 1000), 1000000] : List Int))).bind fun bt331 => (if x3_1.length < 17592186044416 then (spec_l03Vars.l0 k1 (x3_1 ++ [bt331.1]) (wrap64 (x4_1 + 1)) s0_0 bt331.2.1 bt331.2.2) else (none))) = some (r1, r2, r3) := H
        have A5 := Aside0.mk A50
        clear A50
        obtain ⟨y328, hy328⟩ : ∃ y_ : List Int, y_ = (([0, 1, 2, 5, wrap64 (t325 - 1000), 1000000] : List Int)) := ⟨_, rfl⟩
        replace H : ((spec_l01PickInt.f s0_0 t326 t327 y328).bind fun bt331 => (if x3_1.length < 17592186044416 then (spec_l03Vars.l0 k1 (x3_1 ++ [bt331.1]) (wrap64 (x4_1 + 1)) s0_0 bt331.2.1 bt331.2.2) else (none))) = some (r1, r2, r3) := by first | (rw [hy328]; with_reducible exact H) | (have H2_ := (Option.bind_some _ _).symm.trans H; rw [hy328]; with_reducible exact H2_) | (have H2_ := (Option.bind_some _ _).symm.trans H; with_reducible exact H2_) | with_reducible exact H | (rw [hy328]; exact H) | exact H
        have Ny328 := Aside0.mk hy328
        clear hy328
        replace H := Option.bind_eq_some_iff.mp H
        obtain ⟨⟨t331, t332, t333⟩, A60, H⟩ := H
        replace H : (if x3_1.length < 17592186044416 then (spec_l03Vars.l0 k1 (x3_1 ++ [t331]) (wrap64 (x4_1 + 1)) s0_0 t332 t333) else (none)) = some (r1, r2, r3) := H
        have A6 := Aside0.mk A60
        clear A60
        by_cases c7 : x3_1.length < 17592186044416
        · rw [if_pos c7] at H
          have LMc7 := Aside0.mk c7
          clear c7
          obtain ⟨y334, hy334⟩ : ∃ y_ : List Int, y_ = (x3_1 ++ [t331]) := ⟨_, rfl⟩
          replace H : (spec_l03Vars.l0 k1 y334 (wrap64 (x4_1 + 1)) s0_0 t332 t333) = some (r1, r2, r3) := by first | (rw [hy334]; with_reducible exact H) | (have H2_ := (Option.bind_some _ _).symm.trans H; rw [hy334]; with_reducible exact H2_) | (have H2_ := (Option.bind_some _ _).symm.trans H; with_reducible exact H2_) | with_reducible exact H | (rw [hy334]; exact H) | exact H
          have Ny334 := Aside0.mk hy334
          clear hy334
          have H' := Aside0.mk H
          clear H
          go_wp2_with (first | ((first | ((with_reducible refine gate_callee (f := 66) rfl ?_); refine goesL_ (some 13) rfl rfl Try.func66 z4_25 rfl #[.pointer (some ⟨g, 0, none⟩), .int .i64 2000] rfl z4_1 ?_; (with_reducible refine (spec_l01Below.calls g s0_0 x1001_1 x1002_1 2000 t325 t326 t327 w0 _ ?side1 ?side2 A5.out).mono ?_)) | (go_at_call 66; (with_reducible refine (spec_l01Below.calls g s0_0 x1001_1 x1002_1 2000 t325 t326 t327 w0 _ ?side1 ?side2 A5.out).mono ?_))); (case side1 => exact z4_5); (case side2 => exact z4_6); rintro e w8 ⟨rfl, hi, hb, hk⟩; (first | refine ⟨_, rfl, ?_⟩ | skip); have n0_ := Aside0.mk (Kd.R_mono (Kd.R_keep (IsS111.apart (show IsS111 w0 _ g s0_0 x1001_1 x1002_1 from by repeat (first | (with_reducible first | exact HI0.out | apply IsS111.alloc | apply IsS111.drewN | apply IsS111.drew | apply IsS111.set_1 | apply IsS111.set_2) | exact HI0.out)) z4_29 z4_34) hk (fun _ h => h.2)) (fun _ h => h.1)); have n1_ := Aside0.mk (KeepBut.trans z4_0 hk (.inl rfl)); have n2_ := Aside0.mk (hb); have n3_ := Aside0.mk (hi); clear HO_3; clear HK; clear HB; clear HI0; have HO_3 := n0_; have HK := n1_; have HB := n2_; have HI0 := n3_; clear n0_ n1_ n2_ n3_; (try clear hb); (try clear hb2); (try clear hk); (try clear hi)) | ((with_reducible refine gate_dst (N := 15) rfl ?_); refine Kd.R_lit (Kd.int .i64) _ 3 ?hg (N := 15) ?hd (xs := ([0, 1, 2, 5, wrap64 (t325 - 1000), 1000000] : List Int)) (inner := [.int .i64 0, .int .i64 1, .int .i64 2, .int .i64 5, .int .i64 (wrap64 (t325 - 1000)), .int .i64 1000000]) (ok := fun _ => True) (okp := fun _ => True) ?hr ?hp (fun _ hk => hk) trivial (Below.refl _ _) (Nat.le_refl _) (by simp) ?_; (case hd => rfl); (case hg => rfl); (case hr => exact z4_21); (case hp => exact (Reps.one (show Kd.M (Kd.int .i64) _ _ _ 0 [.int .i64 0] from rfl) (Reps.one (show Kd.M (Kd.int .i64) _ _ _ 1 [.int .i64 1] from rfl) (Reps.one (show Kd.M (Kd.int .i64) _ _ _ 2 [.int .i64 2] from rfl) (Reps.one (show Kd.M (Kd.int .i64) _ _ _ 5 [.int .i64 5] from rfl) (Reps.one (show Kd.M (Kd.int .i64) _ _ _ (wrap64 (t325 - 1000)) [.int .i64 (wrap64 (t325 - 1000))] from rfl) (Reps.one (show Kd.M (Kd.int .i64) _ _ _ 1000000 [.int .i64 1000000] from rfl) (Reps.none _ _)))))))); intro v329 w9 ho10 hb hg_ hnew_; clear hg_ hnew_; (first | rw [← Ny328.out] at ho10 | (simp only [Int.reduceToNat] at ho10; rw [← Ny328.out] at ho10)); have n0_ := Aside0.mk (Kd.R_elder' z4_29 (Kd.R_base ho10) hb); have n1_ := Aside0.mk (Kd.R_lower (Kd.R_new' ho10 (Kd.R_lt z4_29)) (keep_size (w := w) (g := g) (row := none) z4_0)); have n2_ := Aside0.mk (IsS111.below z4_5 hb); have n3_ := Aside0.mk (KeepBut.trans z4_0 (KeepBut.of_below hb g none) (.inl rfl)); have n4_ := Aside0.mk (below_step z4_6 hb); clear HO_3; clear HI0; clear HK; clear HB; have HO_3 := n0_; have HO330 := n1_; have HI0 := n2_; have HK := n3_; have HB := n4_; clear n0_ n1_ n2_ n3_ n4_; clear hb ho10; obtain ⟨Ao11, co11, eo11⟩ := Kd.R_slice HO330.out; subst eo11) | ((first | ((with_reducible refine gate_callee (f := 126) rfl ?_); refine goesL_ (some 16) rfl rfl Try.func126 z4_25 rfl #[.pointer (some ⟨g, 0, none⟩), .slice Ao11 y328.length co11] rfl z4_1 ?_; (with_reducible refine (spec_l01PickInt.calls g s0_0 t326 t327 _ _ y328 t331 t332 t333 w0 _ ?side1 ?side2 ?side3 ?side4 ?side5 A6.out).mono ?_)) | (go_at_call 126; (with_reducible refine (spec_l01PickInt.calls g s0_0 t326 t327 _ _ y328 t331 t332 t333 w0 _ ?side1 ?side2 ?side3 ?side4 ?side5 A6.out).mono ?_))); (case side1 => exact z4_5); (case side2 => exact z4_6); (case side3 => repeat (first | exact (Kd.R_reads' HO330.out).2.2 | (with_reducible refine Kd.C_alloc ?_ _) | (with_reducible refine Kd.C_drewN ?_ _) | (with_reducible refine Kd.C_drew ?_))); (case side4 => exact (Kd.R_reads' HO330.out).2.1); (case side5 => exact far_slice (IsS111.own_ne HI0.out HO330.out z4_34)); rintro e w12 ⟨rfl, hi, hb, hk⟩; (first | refine ⟨_, rfl, ?_⟩ | skip); have n0_ := Aside0.mk (Kd.R_mono (Kd.R_keep (IsS111.apart (show IsS111 w0 _ g s0_0 t326 t327 from by repeat (first | (with_reducible first | exact HI0.out | apply IsS111.alloc | apply IsS111.drewN | apply IsS111.drew | apply IsS111.set_1 | apply IsS111.set_2) | exact HI0.out)) z4_29 z4_34) hk (fun _ h => h.2)) (fun _ h => h.1)); have n1_ := Aside0.mk (Kd.R_mono (Kd.R_keep (IsS111.apart (show IsS111 w0 _ g s0_0 t326 t327 from by repeat (first | (with_reducible first | exact HI0.out | apply IsS111.alloc | apply IsS111.drewN | apply IsS111.drew | apply IsS111.set_1 | apply IsS111.set_2) | exact HI0.out)) (by (with_reducible repeat (first | apply Kd.R_alloc | apply Kd.R_drewN | apply Kd.R_drew)); exact HO330.out) z4_34) hk (fun _ h => h.2)) (fun _ h => h.1)); have n2_ := Aside0.mk (KeepBut.trans z4_0 hk (.inl rfl)); have n3_ := Aside0.mk (hb); have n4_ := Aside0.mk (hi); clear HO_3; clear HO330; clear HK; clear HB; clear HI0; have HO_3 := n0_; have HO330 := n1_; have HK := n2_; have HB := n3_; have HI0 := n4_; clear n0_ n1_ n2_ n3_ n4_; (try clear hb); (try clear hb2); (try clear hk); (try clear hi)) | ((with_reducible refine gate_builtin (b := .append) (xs := #[.tmp 10, .tmp 17]) rfl ?_); at_builtin; refine Kd.R_append (Kd.int .i64) w.heap.size rfl (.tmp 10) (.tmp 17) 33 3 (.int .i64 0) 8 rfl Try.underlying33 info3 rfl z4_34 (by omega) u3 x3_1 t331 [.int .i64 t331] (fun k_ => some k_ ≠ (.slice Ao11 y328.length co11 : Value).ownBlock) (fun _ => False) rfl rfl ?aP (fun _ hk => hk.elim) ?aF ?aO (Below.refl _ _) ?aS ?aL ?_; (case aP => exact rfl); (case aF => exact (fun k_ hk => Kd.fresh' (Kd.R_lt (by (with_reducible repeat (first | apply Kd.R_alloc | apply Kd.R_drewN | apply Kd.R_drew)); exact HO330.out)) k_ hk)); (case aO => exact (by (with_reducible repeat (first | apply Kd.R_alloc | apply Kd.R_drewN | apply Kd.R_drew)); exact Kd.R_mono HO_3.out (fun _ hk => hk.2))); (case aS => exact (keep_size (w := w) (g := g) (row := none) z4_0)); (case aL => have := LMc7.out; omega); intro v335 w13 ho hb hg hat; rw [← Ny334.out] at ho; have n0_ := Aside0.mk (IsS111.grown z4_5 hg (IsS111.own_ne HI0.out HO_3.out z4_34)); have n1_ := Aside0.mk (Kd.R_after (ok := (fun _ => True)) (by (with_reducible repeat (first | apply Kd.R_alloc | apply Kd.R_drewN | apply Kd.R_drew)); exact HO330.out) hg hat); have n2_ := Aside0.mk (below_weaken z4_6 HL.out hb); have n3_ := Aside0.mk (KeepBut.trans z4_0 (KeepBut.of_grown hg g) (Kd.R_base2 HO_3.out)); have n4_ := Aside0.mk (ho); clear HI0; clear HO330; clear HB; clear HK; clear HO_3; have HI0 := n0_; have HO330 := n1_; have HB := n2_; have HK := n3_; have HO336 := n4_; clear n0_ n1_ n2_ n3_ n4_; clear ho hb hg hat))
          go_roundg k1
          case measure => have := HK1.out; omega
          case rel => exact ⟨(y334), (wrap64 (x4_1 + 1)), (t332), (t333), z4_20, H', ⟨by have := HK1.out; omega⟩, ⟨by (with_reducible repeat (first | apply Kd.R_alloc | apply Kd.R_drewN | apply Kd.R_drew)); exact Kd.R_mono HO336.out (fun _ hk => trivial)⟩, ⟨by repeat (first | (with_reducible first | exact HI0.out | apply IsS111.alloc | apply IsS111.drewN | apply IsS111.drew | apply IsS111.set_1 | apply IsS111.set_2) | exact HI0.out)⟩, ⟨by repeat (first | (with_reducible first | exact HK.out | apply KeepBut.set_ | apply keep_drewN | apply keep_drew | apply keep_alloc) | exact HK.out)⟩, ⟨by repeat (first | (with_reducible first | exact HB.out | apply below_alloc | apply pw_below_drewN | apply below_drew1 | refine below_set ?_ (IsS111.ge HI0.out)) | exact HB.out)⟩⟩
        · rw [if_neg c7] at H
          exact absurd H (by simp)
      · rw [if_neg c4] at H
        have c4b0 : decide (x4_1 < 8) = false := decide_eq_false c4
        clear c4
        simp only [Option.some.injEq, Prod.mk.injEq] at H
        obtain ⟨rfl, rfl, rfl⟩ := H
        go_wp2
        go_ret
        exact ⟨_, by first | rfl | (simp [errW_none, errW_some] <;> rfl) | (simp [*, errW_none, errW_some] <;> rfl) | (simp [*, errW_none, errW_some, i64_w]; done), by (with_reducible repeat (first | apply Kd.R_alloc | apply Kd.R_drewN | apply Kd.R_drew)); exact HO_3.out, by repeat (first | (with_reducible first | exact HI0.out | apply IsS111.alloc | apply IsS111.drewN | apply IsS111.drew | apply IsS111.set_1 | apply IsS111.set_2) | exact HI0.out), by repeat (first | (with_reducible first | exact HB.out | apply below_alloc | apply pw_below_drewN | apply below_drew1 | refine below_set ?_ (IsS111.ge HI0.out)) | exact HB.out), by repeat (first | (with_reducible first | exact HK.out | apply KeepBut.set_ | apply keep_drewN | apply keep_drew | apply keep_alloc) | exact HK.out)⟩

/-! ### spec_DrawVars: function 38 -/
def spec_DrawVars.f (k : Nat) (l0 : List Int) : Option (List Int) := (spec_l01New.f k l0).bind fun bt337 => ((spec_l03Vars.f k bt337.1 bt337.2.1 bt337.2.2).bind fun bt341 => (some bt341.1))
theorem spec_DrawVars.mono : ∀ a0 k, LeO (spec_DrawVars.f k a0) (spec_DrawVars.f (k + 1) a0) := by
  intro a0 k
  unfold spec_DrawVars.f
  repeat' first
      | (with_reducible exact spec_l01New.mono _ _)
      | (with_reducible exact spec_l03Vars.mono _ _ _ _)
      | (with_reducible exact LeO.refl _)
      | (with_reducible exact LeO.none _)
      | (with_reducible refine LeO.ite ?_ ?_)
      | (with_reducible refine LeO.bind ?_ (fun _ => ?_))
      | exact spec_l01New.mono _ _
      | exact spec_l03Vars.mono _ _ _ _
      | exact LeO.none _
      | refine LeO.ite ?_ ?_
      | refine LeO.bind ?_ (fun _ => ?_)
set_option maxHeartbeats 8000000 in
set_option maxRecDepth 100000 in
theorem spec_DrawVars.calls (k : Nat) (A0 : Option Addr) (c0 : Nat) (l0 : List Int) (r : List Int) (w : World) (hr0 : Kd.C (Kd.int .u8) w A0 l0.length l0) (hc0 : l0.length ≤ c0) (h : spec_DrawVars.f k l0 = some r) :
    Calls Try.prog 38 #[.slice A0 l0.length c0] w fun e w' => ∃ v0_ : Value, e = .returned (v0_) ∧ Kd.R (Kd.int .i64) 3 w' w.heap.size (fun _ => True) v0_ r ∧ Below w.heap.size w w' := by
  have HR0 := Aside0.mk hr0
  have HC0 := Aside0.mk hc0
  clear hr0 hc0
  have HB := Aside0.mk (Below.refl w.heap.size w)
  have H : ((spec_l01New.f k l0).bind fun bt337 => ((spec_l03Vars.f k bt337.1 bt337.2.1 bt337.2.2).bind fun bt341 => (some bt341.1))) = some r := h
  clear h
  replace H := Option.bind_eq_some_iff.mp H
  obtain ⟨⟨t337, t338, t339⟩, A20, H⟩ := H
  replace H : ((spec_l03Vars.f k t337 t338 t339).bind fun bt341 => (some bt341.1)) = some r := H
  have A2 := Aside0.mk A20
  clear A20
  replace H := Option.bind_eq_some_iff.mp H
  obtain ⟨⟨t341, t344, t345⟩, A30, H⟩ := H
  replace H : (some t341) = some r := H
  have A3 := Aside0.mk A30
  clear A30
  obtain rfl := Option.some.inj H
  go_enter Try.func38, Try.ntmps38
  go_wp2_with (first | ((first | ((with_reducible refine gate_callee (f := 58) rfl ?_); refine goesL_ (some 4) rfl rfl Try.func58 z4_25 rfl #[.slice A0 l0.length c0] rfl z4_1 ?_; (with_reducible refine (spec_l01New.calls k _ _ l0 t337 t338 t339 w _ ?side1 ?side2 ?side3 A2.out).mono ?_)) | (go_at_call 58; (with_reducible refine (spec_l01New.calls k _ _ l0 t337 t338 t339 w _ ?side1 ?side2 ?side3 A2.out).mono ?_))); (case side1 => exact z4_11); (case side2 => exact HR0.out); (case side3 => exact HC0.out); rintro e w4 ⟨g340, rfl, hi, hb, hb2⟩; (first | refine ⟨_, rfl, ?_⟩ | skip); have n0_ := Aside0.mk (hb); have n1_ := Aside0.mk (hi); clear HB; have HB := n0_; have HI340 := n1_; clear n0_ n1_; (try clear hb); (try clear hb2); (try clear hk); (try clear hi)) | ((first | ((with_reducible refine gate_callee (f := 86) rfl ?_); refine goesL_ (some 5) rfl rfl Try.func86 z4_25 rfl #[.pointer (some ⟨g340, 0, none⟩)] rfl z4_1 ?_; (with_reducible refine (spec_l03Vars.calls k g340 t337 t338 t339 t341 t344 t345 w _ ?side1 ?side2 A3.out).mono ?_)) | (go_at_call 86; (with_reducible refine (spec_l03Vars.calls k g340 t337 t338 t339 t341 t344 t345 w _ ?side1 ?side2 A3.out).mono ?_))); (case side1 => repeat (first | (with_reducible first | exact HI340.out | apply IsS111.alloc | apply IsS111.drewN | apply IsS111.drew | apply IsS111.set_1 | apply IsS111.set_2) | exact HI340.out)); (case side2 => repeat (first | (with_reducible first | exact HB.out | apply below_alloc | apply pw_below_drewN | apply below_drew1 | refine below_set ?_ (IsS111.ge HI340.out)) | exact HB.out)); rintro e w5 ⟨v342, rfl, ho0, hi, hb, hk⟩; (first | refine ⟨_, rfl, ?_⟩ | skip); have n0_ := Aside0.mk (Kd.R_lower ho0 (below_size (by repeat (first | (with_reducible first | exact HB.out | apply below_alloc | apply pw_below_drewN | apply below_drew1 | refine below_set ?_ (IsS111.ge HI340.out)) | exact HB.out)))); have n1_ := Aside0.mk (hb); have n2_ := Aside0.mk (hi); clear HB; clear HI340; have HO343 := n0_; have HB := n1_; have HI340 := n2_; clear n0_ n1_ n2_; (try clear hb); (try clear hb2); (try clear hk); (try clear hi); (try clear ho0)))
  go_ret
  exact ⟨_, by first | rfl | (simp [errW_none, errW_some] <;> rfl) | (simp [*, errW_none, errW_some] <;> rfl) | (simp [*, errW_none, errW_some, i64_w]; done), by (with_reducible repeat (first | apply Kd.R_alloc | apply Kd.R_drewN | apply Kd.R_drew)); exact HO343.out, by repeat (first | (with_reducible first | exact HB.out | apply below_alloc | apply pw_below_drewN | apply below_drew1 | refine below_set ?_ (IsS111.ge HI340.out)) | exact HB.out)⟩

/-! ### impl_VarsOk: function 87 -/
def impl_VarsOk.f (l0 : List Int) : Option (Bool) := if (l0.length : Int) = 8 then ((impl_areValues.f l0).bind fun t346 => (some t346)) else (some false)
set_option maxHeartbeats 8000000 in
set_option maxRecDepth 100000 in
theorem impl_VarsOk.calls (A0 : Option Addr) (c0 : Nat) (l0 : List Int) (r : Bool) (w : World) (hr0 : Kd.C (Kd.int .i64) w A0 l0.length l0) (hc0 : l0.length ≤ c0) (h : impl_VarsOk.f l0 = some r) :
    Calls Try.prog 87 #[.slice A0 l0.length c0] w fun e w' => e = .returned (.bool r) ∧ Drawn0 w w' := by
  have HR0 := Aside0.mk hr0
  have HC0 := Aside0.mk hc0
  clear hr0 hc0
  have H : (if (l0.length : Int) = 8 then ((impl_areValues.f l0).bind fun t346 => (some t346)) else (some false)) = some r := h
  clear h
  by_cases c2 : (l0.length : Int) = 8
  · rw [if_pos c2] at H
    have c2b0 : ((l0.length : Int) == 8) = true := beq_iff_eq.mpr c2
    have c2b1 : ((l0.length : Int) != 8) = false := bne_eq_false_iff_eq.mpr c2
    clear c2
    replace H := Option.bind_eq_some_iff.mp H
    obtain ⟨t346, A30, H⟩ := H
    replace H : (some t346) = some r := H
    have A3 := Aside0.mk A30
    clear A30
    obtain rfl := Option.some.inj H
    go_enter Try.func87, Try.ntmps87
    go_wp2_with (first | (go_at_call 90; (with_reducible refine (impl_areValues.calls _ _ l0 t346 _ ?side1 ?side2 A3.out).mono ?_); (case side1 => exact z4_23); (case side2 => exact HC0.out); rintro e w' ⟨rfl, ⟨nd, rfl⟩⟩))
    go_ret
    exact ⟨by first | rfl | (simp; done) | (simp [*]; done), by repeat (first | exact Drawn0.refl _ | apply Drawn0.step)⟩
  · rw [if_neg c2] at H
    have c2b0 : ((l0.length : Int) == 8) = false := beq_eq_false_iff_ne.mpr c2
    have c2b1 : ((l0.length : Int) != 8) = true := bne_iff_ne.mpr c2
    obtain rfl := Option.some.inj H
    go_enter Try.func87, Try.ntmps87
    go_wp2
    go_ret
    exact ⟨by first | rfl | (simp; done) | (simp [*]; done), by repeat (first | exact Drawn0.refl _ | apply Drawn0.step)⟩

/-! ### slices_Clone_int_int: function 88 -/
def slices_Clone_int_int.f (l0 : List Int) : Option (List Int) := if l0.length < 17592186044416 then some l0 else none
set_option maxHeartbeats 8000000 in
set_option maxRecDepth 100000 in
theorem slices_Clone_int_int.calls (A0 : Option Addr) (c0 : Nat) (l0 : List Int) (r : List Int) (w : World) (hr0 : Kd.C (Kd.int .i64) w A0 l0.length l0) (hc0 : l0.length ≤ c0) (h : slices_Clone_int_int.f l0 = some r) :
    Calls Try.prog 88 #[.slice A0 l0.length c0] w fun e w' => ∃ v0_ : Value, e = .returned (v0_) ∧ Kd.R (Kd.int .i64) 3 w' w.heap.size (fun _ => True) v0_ r ∧ Below w.heap.size w w' := by
  have HR0 := Aside0.mk hr0
  have HC0 := Aside0.mk hc0
  have HB := Aside0.mk (Below.refl w.heap.size w)
  unfold slices_Clone_int_int.f at h
  by_cases hl : l0.length < 17592186044416
  · rw [if_pos hl] at h
    obtain rfl := Option.some.inj h
    clear h
    obtain ⟨y0, hy0⟩ : ∃ y_ : List Int, y_ = ([] : List Int) := ⟨_, rfl⟩
    obtain ⟨y1, hy1⟩ : ∃ y_ : List Int, y_ = y0 ++ l0 := ⟨_, rfl⟩
    have hl2 : y0.length + l0.length < 17592186044416 := by
      rw [hy0]
      simpa using hl
    have e1 : y1 = l0 := by rw [hy1, hy0, List.nil_append]
    have LM := Aside0.mk hl2
    have N0 := Aside0.mk hy0
    have N1 := Aside0.mk hy1
    have E1 := Aside0.mk e1
    clear hl2 hy0 hy1 e1
    cases A0 with
    | none =>
      have l0e : l0 = [] := by
        cases l0 with
        | nil => rfl
        | cons x t =>
          obtain ⟨ad, e, _⟩ := hr0.2.2 (by simp)
          cases e
      subst l0e
      have he : ∀ w : World, (binOp .eql 33 (.slice none 0 c0) (.slice none 0 0)).run Try.prog w = .ok (.bool true) w := fun _ => rfl
      go_enter Try.func88, Try.ntmps88
      go_wp2
      go_ret
      exact ⟨_, rfl, Kd.R_nil _ _ _ _ _, HB.out⟩
    | some a0 =>
      have he : ∀ w : World, (binOp .eql 33 (.slice (some a0) l0.length c0) (.slice none 0 0)).run Try.prog w = .ok (.bool false) w := fun _ => rfl
      go_enter Try.func88, Try.ntmps88
      go_wp2_with (first | ((with_reducible refine gate_dst (N := 5) rfl ?_); refine Kd.R_lit (Kd.int .i64) _ 3 ?hg (N := 5) ?hd (xs := ([] : List Int)) (inner := []) (ok := fun _ => True) (okp := fun _ => True) ?hr ?hp (fun _ hk => hk) trivial (Below.refl _ _) (Nat.le_refl _) (by simp) ?_; (case hd => rfl); (case hg => rfl); (case hr => exact z4_21); (case hp => exact (Reps.none _ _)); intro v196 w5 ho6 hb hg_ hnew_; clear hg_ hnew_; rw [← N0.out] at ho6; have HO197 := Aside0.mk ho6; have n1_ := Aside0.mk (below_step HB.out hb); clear HB; have HB := n1_; clear n1_; clear hb ho6) | ((with_reducible refine gate_builtin (b := .append) (xs := #[.tmp 5, .tmp 6]) rfl ?_); at_builtin; refine Kd.R_append_rows (Kd.int .i64) (w0 := w) w.heap.size rfl (.tmp 5) (.tmp 6) 33 3 (.int .i64 0) 8 rfl Try.underlying33 info3 rfl z4_34 (by omega) v196 y0 l0 _ _ _ (fun _ => True) (fun _ => False) rfl rfl ?aO ?aR (fun _ _ h => h) (fun _ h => h.elim) ?aF ?aB ?aS ?aL ?_; (case aR => repeat (first | exact (Kd.C_below HR0.out HB.out) | (with_reducible refine Kd.C_alloc ?_ _) | (with_reducible refine Kd.C_drewN ?_ _) | (with_reducible refine Kd.C_drew ?_))); (case aB => exact z4_11); (case aF => exact (fun _ _ => trivial)); (case aO => exact (by (with_reducible repeat (first | apply Kd.R_alloc | apply Kd.R_drewN | apply Kd.R_drew)); exact HO197.out)); (case aS => exact (below_size z4_11)); (case aL => have := LM.out; omega); intro v199 w7 ho hb hg hat; rw [← N1.out] at ho; have n0_ := Aside0.mk (hb); have n1_ := Aside0.mk (ho); clear HB; have HB := n0_; have HO200 := n1_; clear n0_ n1_; clear ho hb hg hat))
      go_ret
      exact ⟨_, rfl, by rw [← E1.out]; repeat (first | exact HO200.out | apply Kd.R_alloc | apply Kd.R_drewN | apply Kd.R_drew), by repeat (first | (with_reducible first | exact HB.out | apply below_alloc | apply pw_below_drewN | apply below_drew1) | exact HB.out)⟩
  · rw [if_neg hl] at h
    exact absurd h (by simp)

/-! ### impl_MemNew: function 39 -/
def impl_MemNew.f (l0 : List Int) : Option (List Int × Bool) := (impl_VarsOk.f l0).bind fun t347 => (if t347 = true then ((slices_Clone_int_int.f l0).bind fun t348 => (if t348.length + 41 < 17592186044416 then (some ((t348 ++ List.replicate 41 0), true)) else (none))) else (some (([] : List Int), false)))
set_option maxHeartbeats 8000000 in
set_option maxRecDepth 100000 in
theorem impl_MemNew.calls (A0 : Option Addr) (c0 : Nat) (l0 : List Int) (r1 : List Int) (r2 : Bool) (w : World) (hr0 : Kd.C (Kd.int .i64) w A0 l0.length l0) (hc0 : l0.length ≤ c0) (h : impl_MemNew.f l0 = some (r1, r2)) :
    Calls Try.prog 39 #[.slice A0 l0.length c0] w fun e w' => ∃ v0_ : Value, e = .returned (.tuple #[v0_, .bool r2]) ∧ Kd.R (Kd.int .i64) 3 w' w.heap.size (fun _ => True) v0_ r1 ∧ Below w.heap.size w w' := by
  have HR0 := Aside0.mk hr0
  have HC0 := Aside0.mk hc0
  clear hr0 hc0
  have HB := Aside0.mk (Below.refl w.heap.size w)
  have H : ((impl_VarsOk.f l0).bind fun t347 => (if t347 = true then ((slices_Clone_int_int.f l0).bind fun t348 => (if t348.length + 41 < 17592186044416 then (some ((t348 ++ List.replicate 41 0), true)) else (none))) else (some (([] : List Int), false)))) = some (r1, r2) := h
  clear h
  replace H := Option.bind_eq_some_iff.mp H
  obtain ⟨t347, A20, H⟩ := H
  replace H : (if t347 = true then ((slices_Clone_int_int.f l0).bind fun t348 => (if t348.length + 41 < 17592186044416 then (some ((t348 ++ List.replicate 41 0), true)) else (none))) else (some (([] : List Int), false))) = some (r1, r2) := H
  have A2 := Aside0.mk A20
  clear A20
  by_cases c3 : t347 = true
  · subst c3
    have H1 : ((slices_Clone_int_int.f l0).bind fun t348 => (if t348.length + 41 < 17592186044416 then (some ((t348 ++ List.replicate 41 0), true)) else (none))) = some (r1, r2) := by rw [if_pos rfl] at H; exact H
    clear H
    have H := H1
    clear H1
    replace H := Option.bind_eq_some_iff.mp H
    obtain ⟨t348, A40, H⟩ := H
    replace H : (if t348.length + 41 < 17592186044416 then (some ((t348 ++ List.replicate 41 0), true)) else (none)) = some (r1, r2) := H
    have A4 := Aside0.mk A40
    clear A40
    by_cases c5 : t348.length + 41 < 17592186044416
    · rw [if_pos c5] at H
      have LMc5 := Aside0.mk c5
      clear c5
      obtain ⟨y351, hy351⟩ : ∃ y_ : List Int, y_ = (t348 ++ List.replicate 41 0) := ⟨_, rfl⟩
      replace H : (some (y351, true)) = some (r1, r2) := by first | (rw [hy351]; with_reducible exact H) | (have H2_ := (Option.bind_some _ _).symm.trans H; rw [hy351]; with_reducible exact H2_) | (have H2_ := (Option.bind_some _ _).symm.trans H; with_reducible exact H2_) | with_reducible exact H | (rw [hy351]; exact H) | exact H
      have Ny351 := Aside0.mk hy351
      clear hy351
      simp only [Option.some.injEq, Prod.mk.injEq] at H
      obtain ⟨rfl, rfl⟩ := H
      go_enter Try.func39, Try.ntmps39
      go_wp2_with (first | ((first | ((with_reducible refine gate_callee (f := 87) rfl ?_); refine goesL_ (some 5) rfl rfl Try.func87 z4_25 rfl #[.slice A0 l0.length c0] rfl z4_1 ?_; (with_reducible refine (impl_VarsOk.calls _ _ l0 true _ ?side1 ?side2 A2.out).mono ?_)) | (go_at_call 87; (with_reducible refine (impl_VarsOk.calls _ _ l0 true _ ?side1 ?side2 A2.out).mono ?_))); (case side1 => exact z4_23); (case side2 => exact HC0.out); rintro e w' ⟨rfl, ⟨nd, rfl⟩⟩; (first | refine ⟨_, rfl, ?_⟩ | skip)) | ((first | ((with_reducible refine gate_callee (f := 88) rfl ?_); refine goesL_ (some 8) rfl rfl Try.func88 z4_25 rfl #[.slice A0 l0.length c0] rfl z4_1 ?_; (with_reducible refine (slices_Clone_int_int.calls _ _ l0 t348 _ ?side1 ?side2 A4.out).mono ?_)) | (go_at_call 88; (with_reducible refine (slices_Clone_int_int.calls _ _ l0 t348 _ ?side1 ?side2 A4.out).mono ?_))); (case side1 => exact z4_23); (case side2 => exact HC0.out); rintro e w6 ⟨v349, rfl, ho0, hb⟩; (first | refine ⟨_, rfl, ?_⟩ | skip); have n0_ := Aside0.mk (Kd.R_lower ho0 (below_size z4_11)); have n1_ := Aside0.mk (below_step z4_11 hb); clear HB; have HO350 := n0_; have HB := n1_; clear n0_ n1_; (try clear hb); (try clear hb2); (try clear hk); (try clear hi); (try clear ho0)) | (at_builtin; refine Kd.R_append_zeros (Kd.int .i64) (w0 := w) w.heap.size rfl (.tmp 8) (.const (.int .i64 41)) 33 3 3 (.int .i64 0) 8 rfl Try.underlying33 Try.underlying3 info3 rfl z4_34 (by omega) v349 t348 0 (41 : Int) (fun _ => True) rfl rfl rfl ?aF ?aO (by omega) ?aB ?aS ?aL ?_; (case aB => exact z4_11); (case aF => exact (fun _ _ => trivial)); (case aO => exact (by (with_reducible repeat (first | apply Kd.R_alloc | apply Kd.R_drewN | apply Kd.R_drew)); exact HO350.out)); (case aS => exact (below_size z4_11)); (case aL => have := LMc5.out; omega); intro v352 w7 ho hb hg hat; (try simp only [Int.reduceToNat] at ho); rw [← Ny351.out] at ho; have n0_ := Aside0.mk (hb); have n1_ := Aside0.mk (ho); clear HB; clear HO350; have HB := n0_; have HO353 := n1_; clear n0_ n1_; clear ho hb hg hat))
      go_ret2
      exact ⟨_, by first | rfl | (simp [errW_none, errW_some] <;> rfl) | (simp [*, errW_none, errW_some] <;> rfl) | (simp [*, errW_none, errW_some, i64_w]; done), by (with_reducible repeat (first | apply Kd.R_alloc | apply Kd.R_drewN | apply Kd.R_drew)); exact HO353.out, by repeat (first | (with_reducible first | exact HB.out | apply below_alloc | apply pw_below_drewN | apply below_drew1) | exact HB.out)⟩
    · rw [if_neg c5] at H
      exact absurd H (by simp)
  · replace c3 := Bool.eq_false_iff.mpr c3
    subst c3
    have H1 : (some (([] : List Int), false)) = some (r1, r2) := by rw [if_neg (show ¬ (false = true) by decide)] at H; exact H
    clear H
    have H := H1
    clear H1
    simp only [Option.some.injEq, Prod.mk.injEq] at H
    obtain ⟨rfl, rfl⟩ := H
    go_enter Try.func39, Try.ntmps39
    go_wp2_with (first | ((first | ((with_reducible refine gate_callee (f := 87) rfl ?_); refine goesL_ (some 5) rfl rfl Try.func87 z4_25 rfl #[.slice A0 l0.length c0] rfl z4_1 ?_; (with_reducible refine (impl_VarsOk.calls _ _ l0 false _ ?side1 ?side2 A2.out).mono ?_)) | (go_at_call 87; (with_reducible refine (impl_VarsOk.calls _ _ l0 false _ ?side1 ?side2 A2.out).mono ?_))); (case side1 => exact z4_23); (case side2 => exact HC0.out); rintro e w' ⟨rfl, ⟨nd, rfl⟩⟩; (first | refine ⟨_, rfl, ?_⟩ | skip)))
    go_ret2
    exact ⟨_, by first | rfl | (simp [errW_none, errW_some] <;> rfl) | (simp [*, errW_none, errW_some] <;> rfl) | (simp [*, errW_none, errW_some, i64_w]; done), by first | exact Kd.R_nil _ _ _ _ _ | exact Kd.N_nil _ _ _ _ _ | exact Kd.V_nil _ _ _ _ _ | exact Kd.Q_nil _ _ _ _ _ | exact Kd.S_nil _ _ _ _ _, by repeat (first | (with_reducible first | exact HB.out | apply below_alloc | apply pw_below_drewN | apply below_drew1) | exact HB.out)⟩

/-! ### laws_sameInts: function 41 -/
def laws_sameInts.l0 : Nat → List Int → List Int → Int → Option (Bool)
  | 0, _, _, _ => none
  | k + 1, x0, x1, x5 => if x5 < (x0.length : Int) then (if 0 ≤ x5 then (if x5 < (x1.length : Int) then (if (rd x0 x5) = (rd x1 x5) then (laws_sameInts.l0 k x0 x1 (wrap64 (x5 + 1))) else (some false)) else (none)) else (none)) else (some true)
def laws_sameInts.f (k : Nat) (l0 : List Int) (l1 : List Int) : Option (Bool) := if (l0.length : Int) = (l1.length : Int) then (laws_sameInts.l0 k l0 l1 0) else (some false)
theorem laws_sameInts.mono_l : ∀ k, (∀ y0 y1 y2, LeO (laws_sameInts.l0 k y0 y1 y2) (laws_sameInts.l0 (k + 1) y0 y1 y2))
  | 0 => fun _ _ _ r h => by simp [laws_sameInts.l0] at h
  | k + 1 => by
    have ih0 := laws_sameInts.mono_l k
    · intro y0 y1 y2
      unfold laws_sameInts.l0
      repeat' first
      | (with_reducible exact ih0 _ _ _)
      | (with_reducible exact LeO.refl _)
      | (with_reducible exact LeO.none _)
      | (with_reducible refine LeO.ite ?_ ?_)
      | (with_reducible refine LeO.bind ?_ (fun _ => ?_))
      | exact ih0 _ _ _
      | exact LeO.none _
      | refine LeO.ite ?_ ?_
      | refine LeO.bind ?_ (fun _ => ?_)
theorem laws_sameInts.mono : ∀ a0 a1 k, LeO (laws_sameInts.f k a0 a1) (laws_sameInts.f (k + 1) a0 a1) := by
  intro a0 a1 k
  have ih0 := laws_sameInts.mono_l k
  unfold laws_sameInts.f
  repeat' first
      | (with_reducible exact ih0 _ _ _)
      | (with_reducible exact LeO.refl _)
      | (with_reducible exact LeO.none _)
      | (with_reducible refine LeO.ite ?_ ?_)
      | (with_reducible refine LeO.bind ?_ (fun _ => ?_))
      | exact ih0 _ _ _
      | exact LeO.none _
      | refine LeO.ite ?_ ?_
      | refine LeO.bind ?_ (fun _ => ?_)
set_option maxHeartbeats 8000000 in
set_option maxRecDepth 100000 in
theorem laws_sameInts.calls (k : Nat) (A0 : Option Addr) (c0 : Nat) (l0 : List Int) (A1 : Option Addr) (c1 : Nat) (l1 : List Int) (r : Bool) (w : World) (hr0 : Kd.C (Kd.int .i64) w A0 l0.length l0) (hc0 : l0.length ≤ c0) (hr1 : Kd.C (Kd.int .i64) w A1 l1.length l1) (hc1 : l1.length ≤ c1) (h : laws_sameInts.f k l0 l1 = some r) :
    Calls Try.prog 41 #[.slice A0 l0.length c0, .slice A1 l1.length c1] w fun e w' => e = .returned (.bool r) ∧ Drawn0 w w' := by
  have HR0 := Aside0.mk hr0
  have HC0 := Aside0.mk hc0
  clear hr0 hc0
  have HR1 := Aside0.mk hr1
  have HC1 := Aside0.mk hc1
  clear hr1 hc1
  have H : (if (l0.length : Int) = (l1.length : Int) then (laws_sameInts.l0 k l0 l1 0) else (some false)) = some r := h
  clear h
  by_cases c3 : (l0.length : Int) = (l1.length : Int)
  · rw [if_pos c3] at H
    have c3b0 : ((l0.length : Int) == (l1.length : Int)) = true := beq_iff_eq.mpr c3
    have c3b1 : ((l0.length : Int) != (l1.length : Int)) = false := bne_eq_false_iff_eq.mpr c3
    have c3b2 : (l0.length == l1.length) = true := by first | simpa using c3 | (simp at c3 ⊢; omega)
    clear c3
    have H' := Aside0.mk H
    clear H
    go_enter Try.func41, Try.ntmps41
    go_wp2
    repeat (go_quiet (fail); try go_wp2)
    go_loopg [5] k (fun kq v5 w' => ∃ (x5_1 : Int), v5 = .int .i64 x5_1 ∧ Aside0 (laws_sameInts.l0 kq l0 l1 x5_1 = some r) ∧ Aside0 (kq ≤ k) ∧ Drawn0 w w')
    case atStart => exact ⟨(0), z4_20, H', ⟨Nat.le_refl _⟩, by repeat (first | exact Drawn0.refl _ | apply Drawn0.step)⟩
    case round =>
      clear H'
      (try clear c1); (try clear c3); (try clear c3b0); (try clear c3b1); (try clear c3b2)
      obtain ⟨x5_1, rfl, HA, HK1, ⟨m1, rfl⟩⟩ := hrel
      cases gk with
      | zero => exact absurd HA.out (by simp [laws_sameInts.l0])
      | succ k1 =>
        have H := HA.out
        clear HA
        simp only [laws_sameInts.l0] at H
        by_cases c4 : x5_1 < (l0.length : Int)
        · rw [if_pos c4] at H
          have c4b0 : decide (x5_1 < (l0.length : Int)) = true := decide_eq_true c4
          clear c4
          by_cases c5 : 0 ≤ x5_1
          · rw [if_pos c5] at H
            have c5b0 : decide (0 ≤ x5_1) = true := decide_eq_true c5
            clear c5
            by_cases c6 : x5_1 < (l1.length : Int)
            · rw [if_pos c6] at H
              have c6b0 : decide (x5_1 < (l1.length : Int)) = true := decide_eq_true c6
              clear c6
              by_cases c7 : (rd l0 x5_1) = (rd l1 x5_1)
              · rw [if_pos c7] at H
                have c7b0 : ((rd l0 x5_1) == (rd l1 x5_1)) = true := beq_iff_eq.mpr c7
                have c7b1 : ((rd l0 x5_1) != (rd l1 x5_1)) = false := bne_eq_false_iff_eq.mpr c7
                clear c7
                have H' := Aside0.mk H
                clear H
                have p354 : 0 ≤ (x5_1 : Int) := of_decide_eq_true z4_24
                have q354 : x5_1 < (l0.length : Int) := of_decide_eq_true z4_24
                obtain ⟨ad354, e354, hx354_0⟩ := Kd.at_int HR0.out x5_1 p354 q354
                cases e354
                replace p354 := eq_true p354
                replace q354 := eq_true q354
                have p355 : 0 ≤ (x5_1 : Int) := of_decide_eq_true z4_24
                have q355 : x5_1 < (l1.length : Int) := of_decide_eq_true z4_24
                obtain ⟨ad355, e355, hx355_0⟩ := Kd.at_int HR1.out x5_1 p355 q355
                cases e355
                replace p355 := eq_true p355
                replace q355 := eq_true q355
                go_wp2
                repeat (go_quiet (fail); try go_wp2)
                go_roundg k1
                case measure => have := HK1.out; omega
                case rel => exact ⟨(wrap64 (x5_1 + 1)), z4_20, H', ⟨by have := HK1.out; omega⟩, by repeat (first | exact Drawn0.refl _ | apply Drawn0.step)⟩
              · rw [if_neg c7] at H
                have c7b0 : ((rd l0 x5_1) == (rd l1 x5_1)) = false := beq_eq_false_iff_ne.mpr c7
                have c7b1 : ((rd l0 x5_1) != (rd l1 x5_1)) = true := bne_iff_ne.mpr c7
                obtain rfl := Option.some.inj H
                have p354 : 0 ≤ (x5_1 : Int) := of_decide_eq_true z4_24
                have q354 : x5_1 < (l0.length : Int) := of_decide_eq_true z4_24
                obtain ⟨ad354, e354, hx354_0⟩ := Kd.at_int HR0.out x5_1 p354 q354
                cases e354
                replace p354 := eq_true p354
                replace q354 := eq_true q354
                have p355 : 0 ≤ (x5_1 : Int) := of_decide_eq_true z4_24
                have q355 : x5_1 < (l1.length : Int) := of_decide_eq_true z4_24
                obtain ⟨ad355, e355, hx355_0⟩ := Kd.at_int HR1.out x5_1 p355 q355
                cases e355
                replace p355 := eq_true p355
                replace q355 := eq_true q355
                go_wp2
                repeat (go_quiet (fail); try go_wp2)
                go_ret
                exact ⟨by first | rfl | (simp; done) | (simp [*]; done), by repeat (first | exact Drawn0.refl _ | apply Drawn0.step)⟩
            · rw [if_neg c6] at H
              exact absurd H (by simp)
          · rw [if_neg c5] at H
            exact absurd H (by simp)
        · rw [if_neg c4] at H
          have c4b0 : decide (x5_1 < (l0.length : Int)) = false := decide_eq_false c4
          clear c4
          obtain rfl := Option.some.inj H
          go_wp2
          repeat (go_quiet (fail); try go_wp2)
          go_ret
          exact ⟨by first | rfl | (simp; done) | (simp [*]; done), by repeat (first | exact Drawn0.refl _ | apply Drawn0.step)⟩
  · rw [if_neg c3] at H
    have c3b0 : ((l0.length : Int) == (l1.length : Int)) = false := beq_eq_false_iff_ne.mpr c3
    have c3b1 : ((l0.length : Int) != (l1.length : Int)) = true := bne_iff_ne.mpr c3
    have c3b2 : (l0.length == l1.length) = false := by first | simpa using c3 | (simp at c3 ⊢; omega)
    obtain rfl := Option.some.inj H
    go_enter Try.func41, Try.ntmps41
    go_wp2
    repeat (go_quiet (fail); try go_wp2)
    go_ret
    exact ⟨by first | rfl | (simp; done) | (simp [*]; done), by repeat (first | exact Drawn0.refl _ | apply Drawn0.step)⟩

/-! ### impl_MemVars: function 42 -/
def impl_MemVars.f (l0 : List Int) : Option (List Int) := if (l0.length : Int) = 49 then (if 8 ≤ (l0.length : Int) then ((slices_Clone_int_int.f (l0.take 8)).bind fun t357 => (some t357)) else (none)) else (some ([] : List Int))
set_option maxHeartbeats 8000000 in
set_option maxRecDepth 100000 in
theorem impl_MemVars.calls (A0 : Option Addr) (c0 : Nat) (l0 : List Int) (r : List Int) (w : World) (hr0 : Kd.C (Kd.int .i64) w A0 l0.length l0) (hc0 : l0.length ≤ c0) (h : impl_MemVars.f l0 = some r) :
    Calls Try.prog 42 #[.slice A0 l0.length c0] w fun e w' => ∃ v0_ : Value, e = .returned (v0_) ∧ Kd.R (Kd.int .i64) 3 w' w.heap.size (fun _ => True) v0_ r ∧ Below w.heap.size w w' := by
  have HR0 := Aside0.mk hr0
  have HC0 := Aside0.mk hc0
  clear hr0 hc0
  have HB := Aside0.mk (Below.refl w.heap.size w)
  have H : (if (l0.length : Int) = 49 then (if 8 ≤ (l0.length : Int) then ((slices_Clone_int_int.f (l0.take 8)).bind fun t357 => (some t357)) else (none)) else (some ([] : List Int))) = some r := h
  clear h
  by_cases c2 : (l0.length : Int) = 49
  · rw [if_pos c2] at H
    have c2b0 : ((l0.length : Int) == 49) = true := beq_iff_eq.mpr c2
    have c2b1 : ((l0.length : Int) != 49) = false := bne_eq_false_iff_eq.mpr c2
    clear c2
    by_cases c3 : 8 ≤ (l0.length : Int)
    · rw [if_pos c3] at H
      have c3b0 := eq_true c3
      have c3b1 : decide (8 ≤ (l0.length : Int)) = true := decide_eq_true c3
      clear c3
      replace H := Option.bind_eq_some_iff.mp H
      obtain ⟨t357, A40, H⟩ := H
      replace H : (some t357) = some r := H
      have A4 := Aside0.mk A40
      clear A40
      obtain rfl := Option.some.inj H
      obtain ⟨i05, hi05, _, hsz5, _⟩ := info_parts info3
      obtain ⟨hcut5, hA5, hC5⟩ := print_take_of (P := Try.prog) (Value.int .i64) 0 33 3 .i64 Try.underlying33 hi05 hsz5 A0 c0 l0 8 (by omega) (of_decide_eq_true z4_24) HC0.out
      have HR356 := Aside0.mk (Kd.C_of_reads (h1 := fun _ => rfl) (hA5 _ (Kd.reads_of_C HR0.out)))
      have HC356 := Aside0.mk hC5
      clear hA5 hC5 hi05 hsz5
      go_enter Try.func42, Try.ntmps42
      go_wp2_with (first | ((first | ((with_reducible refine gate_callee (f := 88) rfl ?_); refine goesL_ (some 8) rfl rfl Try.func88 z4_25 rfl #[.slice A0 (l0.take 8).length c0] rfl (by (try simp only [List.map_toArray, List.map_cons, List.map_nil]); first | done | (rw [show (l0.take 8).length = 8 from (by rw [List.length_take]; have h_ : (8 : Int) ≤ (l0.length : Int) := of_decide_eq_true z4_24; omega)] <;> rfl) | rfl | (simp only [List.length_drop, List.length_take]; rfl)) ?_; (with_reducible refine (slices_Clone_int_int.calls _ _ (l0.take 8) t357 _ ?side1 ?side2 A4.out).mono ?_)) | (go_at_call 88; (try simp only [← List.length_take, ← List.length_drop]); (first | (with_reducible refine (slices_Clone_int_int.calls _ _ (l0.take 8) t357 _ ?side1 ?side2 A4.out).mono ?_) | (refine calls_len1 ?ln_ ((slices_Clone_int_int.calls _ _ (l0.take 8) t357 _ ?side1 ?side2 A4.out).mono ?_); (case ln_ => simp only [List.length_drop, List.length_take]; first | omega))))); (case side1 => repeat (first | exact HR356.out | (with_reducible refine Kd.C_alloc ?_ _) | (with_reducible refine Kd.C_drewN ?_ _) | (with_reducible refine Kd.C_drew ?_))); (case side2 => exact HC356.out); rintro e w6 ⟨v358, rfl, ho0, hb⟩; (first | refine ⟨_, rfl, ?_⟩ | skip); have n0_ := Aside0.mk (Kd.R_lower ho0 (below_size z4_11)); have n1_ := Aside0.mk (below_step z4_11 hb); clear HB; have HO359 := n0_; have HB := n1_; clear n0_ n1_; (try clear hb); (try clear hb2); (try clear hk); (try clear hi); (try clear ho0)))
      go_ret
      exact ⟨_, by first | rfl | (simp [errW_none, errW_some] <;> rfl) | (simp [*, errW_none, errW_some] <;> rfl) | (simp [*, errW_none, errW_some, i64_w]; done), by (with_reducible repeat (first | apply Kd.R_alloc | apply Kd.R_drewN | apply Kd.R_drew)); exact HO359.out, by repeat (first | (with_reducible first | exact HB.out | apply below_alloc | apply pw_below_drewN | apply below_drew1) | exact HB.out)⟩
    · rw [if_neg c3] at H
      exact absurd H (by simp)
  · rw [if_neg c2] at H
    have c2b0 : ((l0.length : Int) == 49) = false := beq_eq_false_iff_ne.mpr c2
    have c2b1 : ((l0.length : Int) != 49) = true := bne_iff_ne.mpr c2
    obtain rfl := Option.some.inj H
    go_enter Try.func42, Try.ntmps42
    go_wp2
    go_ret
    exact ⟨_, by first | rfl | (simp [errW_none, errW_some] <;> rfl) | (simp [*, errW_none, errW_some] <;> rfl) | (simp [*, errW_none, errW_some, i64_w]; done), by first | exact Kd.R_nil _ _ _ _ _ | exact Kd.N_nil _ _ _ _ _ | exact Kd.V_nil _ _ _ _ _ | exact Kd.Q_nil _ _ _ _ _ | exact Kd.S_nil _ _ _ _ _, by repeat (first | (with_reducible first | exact HB.out | apply below_alloc | apply pw_below_drewN | apply below_drew1) | exact HB.out)⟩

end Go.Proofs.Ytaicbghmfeehkaa.G
