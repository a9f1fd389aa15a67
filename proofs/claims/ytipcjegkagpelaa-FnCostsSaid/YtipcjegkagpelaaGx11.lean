/- Functions of the program as plain Lean functions, and that each call comes to its function's answer; written by a program of the session. No condition. -/
import Derived.Test.YtipcjegkagpelaaGx0
import Derived.Test.YtipcjegkagpelaaGx2
import Derived.Test.YtipcjegkagpelaaGx3
import Derived.Test.YtipcjegkagpelaaGx10
namespace Go.Proofs.Ytipcjegkagpelaa.G
open Go.RowKit Go.Proofs.YtipcjegkagpelaaW.PrintWords Go.Proofs.YtipcjegkagpelaaW.PrintLast Go.Proofs.YtipcjegkagpelaaW.PrintMore
attribute [local go_sem] max2_int min2_int max_two min_two max_three min_three max_four min_four   -- for this text's walks alone
set_option linter.unusedVariables false
set_option linter.unusedSimpArgs false

theorem z11_0 {P : Prop} (h : P := by repeat (first | (with_reducible first | exact HB.out | apply below_alloc | apply pw_below_drewN | apply below_drew1 | refine below_set ?_ GE456.out) | exact HB.out)) : P := h
theorem z11_1 {P : Prop} (h : P := by repeat (first | exact (Kd.R_reads' HO_457000.out).2.2 | (with_reducible refine Kd.C_alloc ?_ _) | (with_reducible refine Kd.C_drewN ?_ _) | (with_reducible refine Kd.C_drew ?_))) : P := h
theorem z11_2 {P : Prop} (h : P := by (with_reducible repeat (first | refine blk_drewN ?_ _ | refine blk_drew ?_ | refine blk_alloc ?_ _)); exact BK456.out) : P := h
theorem z11_3 {P : Prop} (h : P := by (with_reducible repeat (first | apply Kd.R_alloc | apply Kd.R_drewN | apply Kd.R_drew)); exact HO_457000.out) : P := h
theorem z11_4 {P : Prop} (h : P := by repeat (first | (with_reducible first | exact HB.out | apply below_alloc | apply pw_below_drewN | apply below_drew1) | exact HB.out)) : P := h
theorem z11_5 {P : Prop} (h : P := by rw [hw]; exact (by (with_reducible repeat (first | refine blk_drewN ?_ _ | refine blk_drew ?_ | refine blk_alloc ?_ _)); refine blk_put (cs := #[.slice Ao7 t450.length co7, .int .i64 t453, .int .i64 t454, .int .i64 0]) ?_ 3 _ rfl; (with_reducible repeat (first | refine blk_drewN ?_ _ | refine blk_drew ?_ | refine blk_alloc ?_ _)); refine blk_put (cs := #[.slice Ao7 t450.length co7, .int .i64 t453, .int .i64 0, .int .i64 0]) ?_ 2 _ rfl; (with_reducible repeat (first | refine blk_drewN ?_ _ | refine blk_drew ?_ | refine blk_alloc ?_ _)); refine blk_put (cs := #[.slice Ao7 t450.length co7, .int .i64 0, .int .i64 0, .int .i64 0]) ?_ 1 _ rfl; (with_reducible repeat (first | refine blk_drewN ?_ _ | refine blk_drew ?_ | refine blk_alloc ?_ _)); refine blk_put (cs := #[.slice none 0 0, .int .i64 0, .int .i64 0, .int .i64 0]) ?_ 0 _ rfl; (with_reducible repeat (first | refine blk_drewN ?_ _ | refine blk_drew ?_ | refine blk_alloc ?_ _)); exact BK456.out)) : P := h
theorem z11_6 {P : Prop} (h : P := by (try simp only [List.map_toArray, List.map_cons, List.map_nil]); first | done | rfl | (simp only [List.length_drop, List.length_take]; rfl)) : P := h
theorem z11_7 {P : Prop} (h : P := by repeat (first | exact HR0.out | (with_reducible refine Kd.C_alloc ?_ _) | (with_reducible refine Kd.C_drewN ?_ _) | (with_reducible refine Kd.C_drew ?_))) : P := h
theorem z11_8 {P : Prop} (h : P := by rw [hw]; exact (by (with_reducible repeat (first | apply Kd.R_alloc | apply Kd.R_drewN | apply Kd.R_drew)); exact Kd.R_mono (Kd.R_far (p := ⟨gb456, 3, none⟩) (Kd.R_far (p := ⟨gb456, 2, none⟩) (Kd.R_far (p := ⟨gb456, 1, none⟩) (Kd.R_far (p := ⟨gb456, 0, none⟩) (Kd.R_types HO452.out BK456.out (by decide)) (fun _ hk => hk.2) (.slice Ao7 t450.length co7)) (fun _ hk => hk.2) (.int .i64 t453)) (fun _ hk => hk.2) (.int .i64 t454)) (fun _ hk => hk.2) (.int .i64 t455)) (fun _ hk => trivial))) : P := h
theorem z11_9 {P : Prop} (h : P := by repeat (first | exact (Kd.C_below HR0.out HB.out) | (with_reducible refine Kd.C_alloc ?_ _) | (with_reducible refine Kd.C_drewN ?_ _) | (with_reducible refine Kd.C_drew ?_))) : P := h
theorem z11_10 {P : Prop} (h : P := by exact (Kd.R_reads' HO_457000.out).2.1) : P := h
theorem z11_11 {P : Prop} (h : P := by repeat (first | exact (Kd.C_below HR0_0.out HB.out) | (with_reducible refine Kd.C_alloc ?_ _) | (with_reducible refine Kd.C_drewN ?_ _) | (with_reducible refine Kd.C_drew ?_))) : P := h
theorem z11_12 {P : Prop} (h : P := by repeat (first | (with_reducible first | exact HB.out | apply below_alloc | apply pw_below_drewN | apply below_drew1 | refine below_set ?_ (IsS47.ge HI437.out)) | exact HB.out)) : P := h
theorem z11_13 {P : Prop} (h : P := by kernel_rfl) : P := h
theorem z11_14 {P : Prop} (h : P := by first | (with_reducible assumption) | assumption) : P := h
theorem z11_15 {P : Prop} (h : P := by repeat (first | (with_reducible first | exact HB.out | apply below_alloc | apply pw_below_drewN | apply below_drew1 | refine below_set ?_ GE429.out) | exact HB.out)) : P := h
theorem z11_16 {P : Prop} (h : P := by first | (go_simp; done) | (go_simp; rfl)) : P := h
theorem z11_17 {P : Prop} (h : P := by (with_reducible repeat (first | refine blk_drewN ?_ _ | refine blk_drew ?_ | refine blk_alloc ?_ _)); exact BK429.out) : P := h
theorem z11_18 {P : Prop} (h : P := by repeat (first | (with_reducible first | exact HI437.out | apply IsS47.alloc | apply IsS47.drewN | apply IsS47.drew | apply IsS47.set_1 | apply IsS47.set_2) | exact HI437.out)) : P := h
theorem z11_19 {P : Prop} (h : P := by first | rfl | (simp; done) | (simp [*]; done)) : P := h
theorem z11_20 {P : Prop} (h : P := by rw [hg]; exact (below_size z11_4)) : P := h
/-! ### impl_MustLog: function 17 -/
theorem slIndex_some (l : List Int) (hl : l.length ≤ 1048576) (x : Int) (d : Nat) : ∀ (k : Nat) (i : Int), 0 ≤ i → i + (d : Int) = (l.length : Int) → d < k →
    ∃ r, slices_Index_int_int.l0 k l x (l.length : Int) i = some r ∧ decide (r ≥ 0) = decide (x ∈ l.drop i.toNat) := by
  induction d with
  | zero =>
    intro k i h0 hi hk
    obtain ⟨k, rfl⟩ : ∃ m, k = m + 1 := ⟨k - 1, by omega⟩
    rw [slices_Index_int_int.l0, if_neg (by omega), List.drop_eq_nil_of_le (by omega)]
    exact ⟨_, rfl, by simp⟩
  | succ d ih =>
    intro k i h0 hi hk
    obtain ⟨k, rfl⟩ : ∃ m, k = m + 1 := ⟨k - 1, by omega⟩
    rw [slices_Index_int_int.l0, if_pos (by omega), if_pos h0, if_pos (by omega), drop_int h0 (by omega)]
    by_cases e : x = rd l i
    · rw [if_pos e]
      exact ⟨_, rfl, by simp [e, h0]⟩
    · rw [if_neg e, show wrap64 (i + 1) = i + 1 by unfold wrap64; omega]
      obtain ⟨r, h1, h2⟩ := ih k (i + 1) (by omega) (by omega) (by omega)
      exact ⟨r, h1, by rw [h2]; simp [e]⟩
theorem hasVar_some (l : List Int) (hl : l.length ≤ 1048576) (x : Int) : impl_HasVar.f (l.length + 1) l x = some (decide (x ∈ l)) := by
  unfold impl_HasVar.f slices_Contains_int_int.f slices_Index_int_int.f
  obtain ⟨r, h1, h2⟩ := slIndex_some l hl x l.length (l.length + 1) 0 (by omega) (by omega) (by omega)
  rw [h1]
  simp only [Option.bind_some, h2]
  simp
set_option maxHeartbeats 2000000 in
set_option maxRecDepth 100000 in
theorem mustLog_clo (g3 g4 : Nat) (v9 v12 : Value) (fs ms : List Int) (x : Int) (w : World) (l1 : fs.length ≤ 1048576) (l2 : ms.length ≤ 1048576) (h3 : w.heap[g3]? = some (.cells #[v9] 33 (0, 0))) (h4 : w.heap[g4]? = some (.cells #[v12] 33 (0, 0))) (r9 : Sep.rowI 3 w v9 fs) (r12 : Sep.rowI 3 w v12 ms) :
    Calls Try.prog 29 (#[.int .i64 x] ++ #[.pointer (some ⟨g3, 0, none⟩), .pointer (some ⟨g4, 0, none⟩)]) w fun e w' => e = .returned (.bool (!decide (x ∈ fs) && decide (x ∈ ms))) ∧ Drawn0 w w' := by
  obtain ⟨A9, c9, rfl, lc9, kc9⟩ := r9.open_
  obtain ⟨A12, c12, rfl, lc12, kc12⟩ := r12.open_
  have hc3 := Sep.blk1 h3
  have hc4 := Sep.blk1 h4
  have K9 := Aside0.mk kc9
  have K12 := Aside0.mk kc12
  have C9 := Aside0.mk lc9
  have C12 := Aside0.mk lc12
  have e1 := hasVar_some fs l1 x
  have e2 := hasVar_some ms l2 x
  generalize decide (x ∈ fs) = b1 at e1 ⊢
  generalize decide (x ∈ ms) = b2 at e2 ⊢
  have T1 := Aside0.mk e1
  have T2 := Aside0.mk e2
  clear h3 h4 r9 r12 kc9 kc12 lc9 lc12 e1 e2 l1 l2
  cases b1
  · go_enter Try.func29, Try.ntmps29
    go_wp2_with (first | (go_at_call 16; refine (impl_HasVar.calls _ _ _ fs x false _ K9.out C9.out T1.out).mono ?_; rintro e w' ⟨rfl, ⟨nd, rfl⟩⟩) | (go_at_call 16; refine (impl_HasVar.calls _ _ _ ms x b2 _ ?sd C12.out T2.out).mono ?_; (case sd => repeat (first | exact K12.out | apply Kd.C_drewN)); rintro e w' ⟨rfl, ⟨nd2, rfl⟩⟩) | fail)
    go_ret
    exact ⟨by cases b2 <;> rfl, by repeat (first | exact Drawn0.refl _ | apply Drawn0.step)⟩
  · go_enter Try.func29, Try.ntmps29
    go_wp2_with (go_at_call 16; refine (impl_HasVar.calls _ _ _ fs x true _ K9.out C9.out T1.out).mono ?_; rintro e w' ⟨rfl, ⟨nd, rfl⟩⟩)
    go_ret
    exact ⟨rfl, by repeat (first | exact Drawn0.refl _ | apply Drawn0.step)⟩
def impl_MustLog.T3 : Bool × List (List Nat × List Nat) := (true, [([], []), ([0], [0]), ([], []), ([2], [2]), ([3, 1], [3]), ([], []), ([], []), ([5, 1, 4, 0, 1, 5, 6], [1, 5]), ([6, 4, 7, 0, 1, 2, 3, 4, 5, 6, 7], [4, 6])])
def impl_MustLog.B3 : List Nat := [0, 1, 0, 4, 15, 0, 0, 127, 255]
theorem impl_MustLog.tab3 : rtab .any (opsOf Try.f17 3) = impl_MustLog.T3 := by kernel_rfl
theorem impl_MustLog.bits3 : waitsOk impl_MustLog.T3.2 impl_MustLog.B3 = true := by kernel_rfl
def impl_MustLog.f (k : Nat) (l0 : List S56) (a1 a2 a3 : Int) : Option (List Int) := (impl_taskOk.f k l0 a1 a2 a3).bind fun b => if b = true then (impl_MayReadFirst.f k l0 a1 a2 a3).bind fun fs => (impl_MustWrite.f k l0).bind fun ms => (impl_MayWrite.f k l0).bind fun ws => if fs.length ≤ 1048576 ∧ ms.length ≤ 1048576 then some (ws.filter fun x => !(!decide (x ∈ fs) && decide (x ∈ ms))) else none else some []
theorem impl_MustLog.mono : ∀ a0 a1 a2 a3 k, LeO (impl_MustLog.f k a0 a1 a2 a3) (impl_MustLog.f (k + 1) a0 a1 a2 a3) := by
  intro a0 a1 a2 a3 k
  unfold impl_MustLog.f
  exact LeO.bind (impl_taskOk.mono _ _ _ _ k) (fun _ => LeO.ite (LeO.bind (impl_MayReadFirst.mono _ _ _ _ k) (fun _ => LeO.bind (impl_MustWrite.mono _ k) (fun _ => LeO.bind (impl_MayWrite.mono _ k) (fun _ => LeO.refl _)))) (LeO.refl _))
set_option maxHeartbeats 8000000 in
set_option maxRecDepth 100000 in
theorem impl_MustLog.calls (k : Nat) (A0 : Option Addr) (c0 : Nat) (l0 : List S56) (a1 a2 a3 : Int) (r : List Int) (w : World) (hr0 : Kd.C k56 w A0 l0.length l0) (hc0 : l0.length ≤ c0) (h : impl_MustLog.f k l0 a1 a2 a3 = some r) :
    Calls Try.prog 17 #[.agg #[.slice A0 l0.length c0, .int .i64 a1, .int .i64 a2, .int .i64 a3]] w fun e w' => ∃ v0_ : Value, e = .returned (v0_) ∧ Kd.R (Kd.int .i64) 3 w' w.heap.size (fun _ => True) v0_ r ∧ Below w.heap.size w w' := by
  unfold impl_MustLog.f at h
  obtain ⟨b, hb, h⟩ := Option.bind_eq_some_iff.mp h
  have HR0 := Aside0.mk hr0
  have HC0 := Aside0.mk hc0
  have TB := Aside0.mk hb
  clear hr0 hc0 hb
  cases b with
  | false =>
    rw [if_neg (by decide)] at h
    cases h
    go_enter Try.func17, Try.ntmps17
    go_wp2_with (first | ((with_reducible refine gate_dst (N := 1) rfl ?_); refine box_event ?hg (N := 1) ?hd (cs := #[.slice A0 l0.length c0, .int .i64 a1, .int .i64 a2, .int .i64 a3]) (t := 28) ?hr ?_; (case hd => rfl); (case hg => rfl); (case hr => exact z11_16); intro g1 hg1 w1 hp hb; have B1 := Aside0.mk hp; have HB1 := Aside0.mk hb; clear hg1 hp hb; obtain ⟨⟨_, _, _, _⟩, ⟨_, _, _, _⟩⟩ := Sep.blk4 B1.out) | (go_at_call 14; (with_reducible refine (impl_taskOk.calls k _ _ l0 a1 a2 a3 false _ ?sd1 HC0.out TB.out).mono ?_); (case sd1 => exact Kd.C_below HR0.out HB1.out); rintro e w2 ⟨rfl, hb2⟩; have B2 := Aside0.mk (blk_below B1.out hb2); have HB2 := Aside0.mk (below_step HB1.out hb2); clear hb2; obtain ⟨⟨_, _, _, _⟩, ⟨_, _, _, _⟩⟩ := Sep.blk4 B2.out) | fail)
    go_ret
    exact ⟨_, rfl, Kd.R_nil _ _ _ _ _, HB2.out⟩
  | true =>
    rw [if_pos rfl] at h
    obtain ⟨fs, hf, h⟩ := Option.bind_eq_some_iff.mp h
    obtain ⟨ms, hm, h⟩ := Option.bind_eq_some_iff.mp h
    obtain ⟨ws, hw, h⟩ := Option.bind_eq_some_iff.mp h
    by_cases hl : fs.length ≤ 1048576 ∧ ms.length ≤ 1048576
    · rw [if_pos hl] at h
      cases h
      have TF := Aside0.mk hf
      have TM := Aside0.mk hm
      have TW := Aside0.mk hw
      have HL := Aside0.mk hl
      clear hf hm hw hl
      go_enter Try.func17, Try.ntmps17
      go_wp2_with (first | ((with_reducible refine gate_dst (N := 1) rfl ?_); refine box_event ?hg (N := 1) ?hd (cs := #[.slice A0 l0.length c0, .int .i64 a1, .int .i64 a2, .int .i64 a3]) (t := 28) ?hr ?_; (case hd => rfl); (case hg => rfl); (case hr => exact z11_16); intro g1 hg1 w1 hp hb; have B1 := Aside0.mk hp; have HB1 := Aside0.mk hb; clear hg1 hp hb; obtain ⟨⟨_, _, _, _⟩, ⟨_, _, _, _⟩⟩ := Sep.blk4 B1.out) | (go_at_call 14; (with_reducible refine (impl_taskOk.calls k _ _ l0 a1 a2 a3 true _ ?sd1 HC0.out TB.out).mono ?_); (case sd1 => exact Kd.C_below HR0.out HB1.out); rintro e w2 ⟨rfl, hb2⟩; have B2 := Aside0.mk (blk_below B1.out hb2); have HB2 := Aside0.mk (below_step HB1.out hb2); clear hb2; obtain ⟨⟨_, _, _, _⟩, ⟨_, _, _, _⟩⟩ := Sep.blk4 B2.out) | fail)
      have HR2 := Aside0.mk (Kd.C_below HR0.out HB2.out)
      refine start_ (n := 9) (S := fun w' => True) (ds := []) #[false, false, false, false, false, false, false, false, false] z11_13 rfl rfl trivial (fun hHeld => ?_)
      refine with_tabW impl_MustLog.tab3 impl_MustLog.bits3 (fun HT_ HW_ => ?_)
      refine pure_ (i := 2) (N := some 10) (v := ?_) (a' := ?_) #[false, false, true, false, false, false, false, false, false] rfl rfl z11_13 (fun _ _ _ h => h) (Or.inl ⟨by rfl, ?_⟩) ?_ ?_
      rotate_left
      · intro w'
        go_simp
        with_reducible rfl
      rotate_left
      · simp only [Act.put, List.setIfInBounds_toArray, List.set_cons_zero, List.set_cons_succ, i64_w, i32_w]
        rfl
      refine inv_at [0, 1, 3, 4, 5, 6, 7, 8] (fun a0_ b a w' => ∃ (v9 : Value) (v12 : Value) (g3 : Nat) (g4 : Nat) (m5_ : Value) (m6_ : Value), a = putSel a0_ b [(0, 8, .agg #[.slice A0 l0.length c0, .int .i64 a1, .int .i64 a2, .int .i64 a3]), (1, 9, v9), (3, 11, .slice A0 l0.length c0), (4, 12, v12), (5, 3, m5_), (6, 4, m6_)] ∧ (Below w2.heap.size w2 w') ∧ (b 1 = true → Sep.rowI 3 w' v9 fs) ∧ (b 4 = true → Sep.rowI 3 w' v12 ms) ∧ (b 5 = true → w2.heap.size ≤ g3) ∧ (b 6 = true → w2.heap.size ≤ g4) ∧ (b 5 = true → g3 < w'.heap.size) ∧ (b 6 = true → g4 < w'.heap.size) ∧ (b 5 = true → b 6 = true → g3 ≠ g4) ∧ (b 5 = true → b 7 = false → w'.heap[g3]? = some (.cells #[.slice none 0 0] 33 (0, 0))) ∧ (b 6 = true → b 8 = false → w'.heap[g4]? = some (.cells #[.slice none 0 0] 33 (0, 0))) ∧ (b 7 = true → w'.heap[g3]? = some (.cells #[v9] 33 (0, 0))) ∧ (b 8 = true → w'.heap[g4]? = some (.cells #[v12] 33 (0, 0))) ∧ (b 5 = true → (m5_ : Value) = .pointer (some ⟨g3, 0, none⟩)) ∧ (b 6 = true → (m6_ : Value) = .pointer (some ⟨g4, 0, none⟩))) HT_.out HW_.out z11_13 z11_13 ?_ ?_ ?_
      · exact ⟨.bool false, .bool false, 0, 0, .bool false, .bool false, by simp only [putSel, Bool.false_eq_true, if_false], (below_step (Below.refl _ _) (by repeat (first | exact Below.refl _ _ | apply below_drew1))), fun h_ => absurd h_ (by decide), fun h_ => absurd h_ (by decide), fun h_ => absurd h_ (by decide), fun h_ => absurd h_ (by decide), fun h_ => absurd h_ (by decide), fun h_ => absurd h_ (by decide), fun h_ => absurd h_ (by decide), fun h_ => absurd h_ (by decide), fun h_ => absurd h_ (by decide), fun h_ => absurd h_ (by decide), fun h_ => absurd h_ (by decide), fun h_ => absurd h_ (by decide), fun h_ => absurd h_ (by decide)⟩
      · skip
        refine steps_cons ?_ ?_
        · rintro b a w' ⟨v9, v12, g3, g4, m5_, m6_, ha, Q_KB, Q_R9, Q_R12, Q_G3, Q_G4, Q_L3, Q_L4, Q_NE, Q_B3, Q_B4, Q_S3, Q_S4, Q_X5_, Q_X6_⟩ hb_ hon hoff
          refine ⟨_, rfl, fun K hK => ?_⟩
          have e1 : a.tmps[1]? = some (.pointer (some ⟨g1, 0, none⟩)) := by rw [ha]; exact (putSel_off rfl).trans rfl
          replace ha := Aside0.mk ha
          have KB := Aside0.mk Q_KB
          have hB_ := Sep.blk4 (blk_below B2.out KB.out)
          obtain ⟨⟨_, _, _, _⟩, -⟩ := hB_
          refine value_ (w1 := w') (v := .agg #[.slice A0 l0.length c0, .int .i64 a1, .int .i64 a2, .int .i64 a3]) (by rfl) rfl ?_ ?_
          · go_simp
            (try simp only [i64_w])
            try rfl
          refine hK.out _ _ ⟨v9, v12, g3, g4, m5_, m6_, (by rw [ha.out]; exact putSel_upk 0 hb_ rfl rfl rfl), Q_KB, fun h0_ => absurd ((hoff 1 z11_13).symm.trans h0_) (by decide), fun h0_ => absurd ((hoff 4 z11_13).symm.trans h0_) (by decide), Q_G3, Q_G4, Q_L3, Q_L4, Q_NE, Q_B3, Q_B4, fun h0_ => absurd ((hoff 7 z11_13).symm.trans h0_) (by decide), fun h0_ => absurd ((hoff 8 z11_13).symm.trans h0_) (by decide), Q_X5_, Q_X6_⟩
        refine steps_cons ?_ ?_
        · rintro b a w' ⟨v9, v12, g3, g4, m5_, m6_, ha, Q_KB, Q_R9, Q_R12, Q_G3, Q_G4, Q_L3, Q_L4, Q_NE, Q_B3, Q_B4, Q_S3, Q_S4, Q_X5_, Q_X6_⟩ hb_ hon hoff
          refine ⟨_, rfl, fun K hK => ?_⟩
          have e8 : a.tmps[8]? = some (.agg #[.slice A0 l0.length c0, .int .i64 a1, .int .i64 a2, .int .i64 a3]) := by rw [ha]; exact putSel_on (e := (0, 8, .agg #[.slice A0 l0.length c0, .int .i64 a1, .int .i64 a2, .int .i64 a3])) 0 rfl rfl (hon 0 z11_13) rfl
          replace ha := Aside0.mk ha
          have KB := Aside0.mk Q_KB
          refine goes_ Try.func25 z11_13 rfl #[.agg #[.slice A0 l0.length c0, .int .i64 a1, .int .i64 a2, .int .i64 a3]] (by rfl) rfl rfl (by first | (simp only [List.map_toArray, List.map_cons, List.map_nil, Act.eval, Array.getD_eq_getD_getElem?, Option.getD_some, e8]; done) | (simp only [List.map_toArray, List.map_cons, List.map_nil, Act.eval, Array.getD_eq_getD_getElem?, Option.getD_some, e8]; rfl)) ?_
          refine (impl_MayReadFirst.calls k _ _ l0 a1 a2 a3 fs _ (Kd.C_below HR2.out KB.out) HC0.out TF.out).mono ?_
          rintro e w1_ ⟨v_, rfl, ho, hb⟩
          refine ⟨_, rfl, ?_⟩
          refine hK.out _ _ ⟨v_, v12, g3, g4, m5_, m6_, (by rw [ha.out]; exact putSel_upk 1 hb_ rfl rfl rfl), below_step KB.out hb, fun _ => Sep.rowI.of_R ho, fun h0_ => absurd ((hoff 4 z11_13).symm.trans h0_) (by decide), Q_G3, Q_G4, fun h0_ => (Nat.lt_of_lt_of_le (Q_L3 h0_) hb.size), fun h0_ => (Nat.lt_of_lt_of_le (Q_L4 h0_) hb.size), Q_NE, fun h0_ h1_ => blk_below (Q_B3 h0_ h1_) hb, fun h0_ h1_ => blk_below (Q_B4 h0_ h1_) hb, fun h0_ => absurd ((hoff 7 z11_13).symm.trans h0_) (by decide), fun h0_ => absurd ((hoff 8 z11_13).symm.trans h0_) (by decide), Q_X5_, Q_X6_⟩
        refine steps_cons ?_ ?_
        · rintro b a w' ⟨v9, v12, g3, g4, m5_, m6_, ha, Q_KB, Q_R9, Q_R12, Q_G3, Q_G4, Q_L3, Q_L4, Q_NE, Q_B3, Q_B4, Q_S3, Q_S4, Q_X5_, Q_X6_⟩ hb_ hon hoff
          refine ⟨_, rfl, fun K hK => ?_⟩
          have e10 : a.tmps[10]? = some (.pointer (some ⟨g1, 0, none⟩)) := by rw [ha]; exact (putSel_off rfl).trans rfl
          replace ha := Aside0.mk ha
          have KB := Aside0.mk Q_KB
          have hB_ : w'.cell? ⟨g1, 0, none⟩ = some (.slice A0 l0.length c0) := (blk_cell (blk_below B2.out KB.out) 0).trans rfl
          refine value_ (w1 := w') (v := .slice A0 l0.length c0) (by rfl) rfl ?_ ?_
          · go_simp
            (try simp only [i64_w])
            try rfl
          refine hK.out _ _ ⟨v9, v12, g3, g4, m5_, m6_, (by rw [ha.out]; exact putSel_upk 2 hb_ rfl rfl rfl), Q_KB, Q_R9, fun h0_ => absurd ((hoff 4 z11_13).symm.trans h0_) (by decide), Q_G3, Q_G4, Q_L3, Q_L4, Q_NE, Q_B3, Q_B4, fun h0_ => absurd ((hoff 7 z11_13).symm.trans h0_) (by decide), fun h0_ => absurd ((hoff 8 z11_13).symm.trans h0_) (by decide), Q_X5_, Q_X6_⟩
        refine steps_cons ?_ ?_
        · rintro b a w' ⟨v9, v12, g3, g4, m5_, m6_, ha, Q_KB, Q_R9, Q_R12, Q_G3, Q_G4, Q_L3, Q_L4, Q_NE, Q_B3, Q_B4, Q_S3, Q_S4, Q_X5_, Q_X6_⟩ hb_ hon hoff
          refine ⟨_, rfl, fun K hK => ?_⟩
          have e11 : a.tmps[11]? = some (.slice A0 l0.length c0) := by rw [ha]; exact putSel_on (e := (3, 11, .slice A0 l0.length c0)) 2 rfl rfl (hon 3 z11_13) rfl
          replace ha := Aside0.mk ha
          have KB := Aside0.mk Q_KB
          have R9 := Aside0.mk (Q_R9 (hon 1 z11_13))
          refine goes_ Try.func26 z11_13 rfl #[.slice A0 l0.length c0] (by rfl) rfl rfl (by first | (simp only [List.map_toArray, List.map_cons, List.map_nil, Act.eval, Array.getD_eq_getD_getElem?, Option.getD_some, e11]; done) | (simp only [List.map_toArray, List.map_cons, List.map_nil, Act.eval, Array.getD_eq_getD_getElem?, Option.getD_some, e11]; rfl)) ?_
          refine (impl_MustWrite.calls k _ _ l0 ms _ (Kd.C_below HR2.out KB.out) HC0.out TM.out).mono ?_
          rintro e w1_ ⟨v_, rfl, ho, hb⟩
          refine ⟨_, rfl, ?_⟩
          refine hK.out _ _ ⟨v9, v_, g3, g4, m5_, m6_, (by rw [ha.out]; exact putSel_upk 3 hb_ rfl rfl rfl), below_step KB.out hb, fun _ => R9.out.below hb, fun _ => Sep.rowI.of_R ho, Q_G3, Q_G4, fun h0_ => (Nat.lt_of_lt_of_le (Q_L3 h0_) hb.size), fun h0_ => (Nat.lt_of_lt_of_le (Q_L4 h0_) hb.size), Q_NE, fun h0_ h1_ => blk_below (Q_B3 h0_ h1_) hb, fun h0_ h1_ => blk_below (Q_B4 h0_ h1_) hb, fun h0_ => absurd ((hoff 7 z11_13).symm.trans h0_) (by decide), fun h0_ => absurd ((hoff 8 z11_13).symm.trans h0_) (by decide), Q_X5_, Q_X6_⟩
        refine steps_cons ?_ ?_
        · rintro b a w' ⟨v9, v12, g3, g4, m5_, m6_, ha, Q_KB, Q_R9, Q_R12, Q_G3, Q_G4, Q_L3, Q_L4, Q_NE, Q_B3, Q_B4, Q_S3, Q_S4, Q_X5_, Q_X6_⟩ hb_ hon hoff
          refine ⟨_, rfl, fun K hK => ?_⟩
          replace ha := Aside0.mk ha
          have KB := Aside0.mk Q_KB
          refine box_step (by rfl) (N := 3) rfl (cs := #[.slice none 0 0]) (t := 33) ?_ ?_
          · first | (go_simp; done) | (go_simp; rfl)
          intro g_ hg_ w1_ hblk hb
          have z_L4 := fun (h_ : up b 5 6 = true) => (show g4 < w'.heap.size from Q_L4 h_)
          have hgs_ : g_ = w'.heap.size := hg_
          refine hK.out _ _ ⟨v9, v12, g_, g4, (.pointer (some ⟨g_, 0, none⟩)), m6_, (by rw [ha.out]; exact putSel_upk 4 hb_ rfl rfl rfl), below_step KB.out hb, fun h0_ => (Q_R9 h0_).below hb, fun h0_ => (Q_R12 h0_).below hb, fun _ => (hg_ ▸ KB.out.size), Q_G4, fun _ => (blk_lt hblk), fun h0_ => (Nat.lt_of_lt_of_le (Q_L4 h0_) hb.size), fun _ _ => (fun e_ => by have := z_L4 (by assumption); omega), fun _ _ => hblk, fun h0_ h1_ => blk_below (Q_B4 h0_ h1_) hb, fun h0_ => absurd ((hoff 7 z11_13).symm.trans h0_) (by decide), fun h0_ => absurd ((hoff 8 z11_13).symm.trans h0_) (by decide), fun _ => rfl, Q_X6_⟩
        refine steps_cons ?_ ?_
        · rintro b a w' ⟨v9, v12, g3, g4, m5_, m6_, ha, Q_KB, Q_R9, Q_R12, Q_G3, Q_G4, Q_L3, Q_L4, Q_NE, Q_B3, Q_B4, Q_S3, Q_S4, Q_X5_, Q_X6_⟩ hb_ hon hoff
          refine ⟨_, rfl, fun K hK => ?_⟩
          replace ha := Aside0.mk ha
          have KB := Aside0.mk Q_KB
          refine box_step (by rfl) (N := 4) rfl (cs := #[.slice none 0 0]) (t := 33) ?_ ?_
          · first | (go_simp; done) | (go_simp; rfl)
          intro g_ hg_ w1_ hblk hb
          have z_L3 := fun (h_ : up b 6 5 = true) => (show g3 < w'.heap.size from Q_L3 h_)
          have hgs_ : g_ = w'.heap.size := hg_
          refine hK.out _ _ ⟨v9, v12, g3, g_, m5_, (.pointer (some ⟨g_, 0, none⟩)), (by rw [ha.out]; exact putSel_upk 5 hb_ rfl rfl rfl), below_step KB.out hb, fun h0_ => (Q_R9 h0_).below hb, fun h0_ => (Q_R12 h0_).below hb, Q_G3, fun _ => (hg_ ▸ KB.out.size), fun h0_ => (Nat.lt_of_lt_of_le (Q_L3 h0_) hb.size), fun _ => (blk_lt hblk), fun _ _ => (fun e_ => by have := z_L3 (by assumption); omega), fun h0_ h1_ => blk_below (Q_B3 h0_ h1_) hb, fun _ _ => hblk, fun h0_ => absurd ((hoff 7 z11_13).symm.trans h0_) (by decide), fun h0_ => absurd ((hoff 8 z11_13).symm.trans h0_) (by decide), Q_X5_, fun _ => rfl⟩
        refine steps_cons ?_ ?_
        · rintro b a w' ⟨v9, v12, g3, g4, m5_, m6_, ha, Q_KB, Q_R9, Q_R12, Q_G3, Q_G4, Q_L3, Q_L4, Q_NE, Q_B3, Q_B4, Q_S3, Q_S4, Q_X5_, Q_X6_⟩ hb_ hon hoff
          refine ⟨_, rfl, fun K hK => ?_⟩
          have e3 : a.tmps[3]? = some (m5_) := by rw [ha]; exact putSel_on (e := (5, 3, m5_)) 4 rfl rfl (hon 5 z11_13) rfl
          rw [Q_X5_ (hon 5 z11_13)] at e3
          have e9 : a.tmps[9]? = some (v9) := by rw [ha]; exact putSel_on (e := (1, 9, v9)) 1 rfl rfl (hon 1 z11_13) rfl
          replace ha := Aside0.mk ha
          have KB := Aside0.mk Q_KB
          have R9 := Aside0.mk (Q_R9 (hon 1 z11_13))
          have R12 := Aside0.mk (Q_R12 (hon 4 z11_13))
          have G3 := Aside0.mk (Q_G3 (hon 5 z11_13))
          have G4 := Aside0.mk (Q_G4 (hon 6 z11_13))
          have L3 := Aside0.mk (Q_L3 (hon 5 z11_13))
          have L4 := Aside0.mk (Q_L4 (hon 6 z11_13))
          have NE := Aside0.mk (Q_NE (hon 5 z11_13) (hon 6 z11_13))
          have B3 := Aside0.mk (Q_B3 (hon 5 z11_13) hb_)
          have B4 := Aside0.mk (Q_B4 (hon 6 z11_13) (hoff 8 z11_13))
          obtain ⟨Aq_, cq_, Eq_, lq_, kq_⟩ := R9.out.open_
          rw [Eq_] at e9
          have hcb_ := Sep.blk1 B3.out
          have hfb_ := blk_frozen B3.out 0
          refine skip_ (w1 := w'.setCell ⟨g3, 0, none⟩ (.slice Aq_ fs.length cq_)) (by rfl) rfl ?_ ?_
          · first | (go_simp; done) | (go_simp; rfl)
          refine hK.out _ _ ⟨v9, v12, g3, g4, m5_, m6_, (by rw [ha.out]; exact putSel_none (v := undef) rfl), below_set KB.out G3.out, fun _ => R9.out.keep (fun q_ hq_ => Below.heap_setCell _ _ _ q_ (R9.out.ne B3.out (by decide) q_ hq_)), fun _ => R12.out.keep (fun q_ hq_ => Below.heap_setCell _ _ _ q_ (R12.out.ne B3.out (by decide) q_ hq_)), Q_G3, Q_G4, fun _ => (by have := L3.out; simpa [World.setCell] using this), fun _ => (by have := L4.out; simpa [World.setCell] using this), Q_NE, fun _ h1_ => absurd ((up_self b 7).symm.trans h1_) (by decide), fun _ _ => (Below.heap_setCell w' ⟨g3, 0, none⟩ _ g4 (fun e_ => NE.out e_.symm)).trans B4.out, fun _ => (by rw [Eq_]; exact blk_put B3.out 0 _ rfl), fun h0_ => absurd ((hoff 8 z11_13).symm.trans h0_) (by decide), Q_X5_, Q_X6_⟩
        refine steps_cons ?_ ?_
        · rintro b a w' ⟨v9, v12, g3, g4, m5_, m6_, ha, Q_KB, Q_R9, Q_R12, Q_G3, Q_G4, Q_L3, Q_L4, Q_NE, Q_B3, Q_B4, Q_S3, Q_S4, Q_X5_, Q_X6_⟩ hb_ hon hoff
          refine ⟨_, rfl, fun K hK => ?_⟩
          have e4 : a.tmps[4]? = some (m6_) := by rw [ha]; exact putSel_on (e := (6, 4, m6_)) 5 rfl rfl (hon 6 z11_13) rfl
          rw [Q_X6_ (hon 6 z11_13)] at e4
          have e12 : a.tmps[12]? = some (v12) := by rw [ha]; exact putSel_on (e := (4, 12, v12)) 3 rfl rfl (hon 4 z11_13) rfl
          replace ha := Aside0.mk ha
          have KB := Aside0.mk Q_KB
          have R9 := Aside0.mk (Q_R9 (hon 1 z11_13))
          have R12 := Aside0.mk (Q_R12 (hon 4 z11_13))
          have G3 := Aside0.mk (Q_G3 (hon 5 z11_13))
          have G4 := Aside0.mk (Q_G4 (hon 6 z11_13))
          have L3 := Aside0.mk (Q_L3 (hon 5 z11_13))
          have L4 := Aside0.mk (Q_L4 (hon 6 z11_13))
          have NE := Aside0.mk (Q_NE (hon 5 z11_13) (hon 6 z11_13))
          have B4 := Aside0.mk (Q_B4 (hon 6 z11_13) hb_)
          have S3 := Aside0.mk (Q_S3 (hon 7 z11_13))
          obtain ⟨Aq_, cq_, Eq_, lq_, kq_⟩ := R12.out.open_
          rw [Eq_] at e12
          have hcb_ := Sep.blk1 B4.out
          have hfb_ := blk_frozen B4.out 0
          refine skip_ (w1 := w'.setCell ⟨g4, 0, none⟩ (.slice Aq_ ms.length cq_)) (by rfl) rfl ?_ ?_
          · first | (go_simp; done) | (go_simp; rfl)
          refine hK.out _ _ ⟨v9, v12, g3, g4, m5_, m6_, (by rw [ha.out]; exact putSel_none (v := undef) rfl), below_set KB.out G4.out, fun _ => R9.out.keep (fun q_ hq_ => Below.heap_setCell _ _ _ q_ (R9.out.ne B4.out (by decide) q_ hq_)), fun _ => R12.out.keep (fun q_ hq_ => Below.heap_setCell _ _ _ q_ (R12.out.ne B4.out (by decide) q_ hq_)), Q_G3, Q_G4, fun _ => (by have := L3.out; simpa [World.setCell] using this), fun _ => (by have := L4.out; simpa [World.setCell] using this), Q_NE, fun _ h1_ => absurd ((hon 7 z11_13).symm.trans h1_) (by decide), fun _ h1_ => absurd ((up_self b 8).symm.trans h1_) (by decide), fun _ => (Below.heap_setCell w' ⟨g4, 0, none⟩ _ g3 NE.out).trans S3.out, fun _ => (by rw [Eq_]; exact blk_put B4.out 0 _ rfl), Q_X5_, Q_X6_⟩
        exact steps_nil
      rintro b a w6 hall ⟨v9, v12, g3, g4, m5_, m6_, ha, Q_KB, Q_R9, Q_R12, Q_G3, Q_G4, Q_L3, Q_L4, Q_NE, Q_B3, Q_B4, Q_S3, Q_S4, Q_X5_, Q_X6_⟩
      have hb0_ := hall 0 z11_13
      have hb1_ := hall 1 z11_13
      have hb3_ := hall 3 z11_13
      have hb4_ := hall 4 z11_13
      have hb5_ := hall 5 z11_13
      have hb6_ := hall 6 z11_13
      have hb7_ := hall 7 z11_13
      have hb8_ := hall 8 z11_13
      subst ha
      obtain rfl := Q_X5_ hb5_
      obtain rfl := Q_X6_ hb6_
      simp only [putSel, hb0_, hb1_, hb3_, hb4_, hb5_, hb6_, hb7_, hb8_, if_true, Act.put, List.setIfInBounds_toArray, List.set_cons_zero, List.set_cons_succ]
      have KB := Aside0.mk Q_KB
      clear Q_KB
      have R9 := Aside0.mk (Q_R9 hb1_)
      clear Q_R9
      have R12 := Aside0.mk (Q_R12 hb4_)
      clear Q_R12
      have G3 := Aside0.mk (Q_G3 hb5_)
      clear Q_G3
      have G4 := Aside0.mk (Q_G4 hb6_)
      clear Q_G4
      have L3 := Aside0.mk (Q_L3 hb5_)
      clear Q_L3
      have L4 := Aside0.mk (Q_L4 hb6_)
      clear Q_L4
      have NE := Aside0.mk (Q_NE hb5_ hb6_)
      clear Q_NE
      clear Q_B3
      clear Q_B4
      have S3 := Aside0.mk (Q_S3 hb7_)
      clear Q_S3
      have S4 := Aside0.mk (Q_S4 hb8_)
      clear Q_S4
      clear hall hb0_ hb1_ hb3_ hb4_ hb5_ hb6_ hb7_ hb8_
      have HB6 := Aside0.mk (below_step HB2.out KB.out)
      have HR6 := Aside0.mk (Kd.C_below HR2.out KB.out)
      have B6 := Aside0.mk (blk_below B2.out KB.out)
      obtain ⟨⟨_, _, _, _⟩, ⟨_, _, _, _⟩⟩ := Sep.blk4 B6.out
      clear HT_ HW_ KB
      go_wp2_with (first | (go_at_call 28; (with_reducible refine (impl_MayWrite.calls k _ _ l0 ws _ (Kd.C_below HR6.out (by repeat (first | exact Below.refl _ _ | apply pw_below_drewN))) HC0.out TW.out).mono ?_); rintro e w7 ⟨v7, rfl, ho, hb⟩; have R7 := Aside0.mk (Sep.rowI.of_R ho); have V7 : Aside0 (∀ q, v7.ownBlock = some q → w6.heap.size ≤ q) := ⟨fun q hq => Kd.R_base ho q hq⟩; have SA7 := Aside0.mk (blk_below S3.out hb); have SB7 := Aside0.mk (blk_below S4.out hb); have R97 := Aside0.mk (R9.out.below hb); have R127 := Aside0.mk (R12.out.below hb); have HB7 := Aside0.mk (below_step HB6.out hb); clear ho hb) | (go_at_call 27; (with_reducible refine (delete_calls (fun x => !decide (x ∈ fs) && decide (x ∈ ms)) 29 #[.pointer (some ⟨g3, 0, none⟩), .pointer (some ⟨g4, 0, none⟩)] (fun args w => enters_ Try.func29 z11_13 z11_13 args w) v7 ws _ R7.out ?sdq).mono ?_); (case sdq => exact fun x w' hk => mustLog_clo g3 g4 v9 v12 fs ms x w' HL.out.1 HL.out.2 ((hk g3 (blk_lt SA7.out) (fun e => by have := V7.out g3 e; have := blk_lt S3.out; omega)).trans SA7.out) ((hk g4 (blk_lt SB7.out) (fun e => by have := V7.out g4 e; have := blk_lt S4.out; omega)).trans SB7.out) (R97.out.keep (fun q hq => hk q (R97.out.lt q hq) (fun e => by have := V7.out q e; have := R9.out.lt q hq; omega))) (R127.out.keep (fun q hq => hk q (R127.out.lt q hq) (fun e => by have := V7.out q e; have := R12.out.lt q hq; omega)))); rintro e w8 ⟨v8, rfl, hr8, he8, hg8⟩; have R8 := Aside0.mk hr8; have E8 := Aside0.mk he8; have V8 : Aside0 (∀ q, v7.ownBlock = some q → w.heap.size ≤ q) := ⟨fun q hq => Nat.le_trans HB6.out.size (V7.out q hq)⟩; have HB8 := Aside0.mk (below_grown HB7.out hg8 V8.out); clear hr8 he8 hg8) | fail)
      go_ret
      exact ⟨_, rfl, R8.out.to_R (fun q hq => V8.out q (E8.out ▸ hq)) (fun _ _ => trivial), HB8.out⟩
    · rw [if_neg hl] at h
      cases h

/-! ### impl_NeedsLog: function 7 -/
def impl_NeedsLog.f (k : Nat) (l0_0 : List (S56)) (a0_1 : Int) (a0_2 : Int) (a0_3 : Int) (a1 : Int) : Option (Bool) := (impl_MustLog.f k l0_0 a0_1 a0_2 a0_3).bind fun t425 => ((impl_HasVar.f k t425 a1).bind fun t428 => (some t428))
theorem impl_NeedsLog.mono : ∀ a0 a1 a2 a3 a4 k, LeO (impl_NeedsLog.f k a0 a1 a2 a3 a4) (impl_NeedsLog.f (k + 1) a0 a1 a2 a3 a4) := by
  intro a0 a1 a2 a3 a4 k
  unfold impl_NeedsLog.f
  repeat' first
      | (with_reducible exact impl_HasVar.mono _ _ _)
      | (with_reducible exact impl_MustLog.mono _ _ _ _ _)
      | (with_reducible exact LeO.refl _)
      | (with_reducible exact LeO.none _)
      | (with_reducible refine LeO.ite ?_ ?_)
      | (with_reducible refine LeO.bind ?_ (fun _ => ?_))
      | exact impl_HasVar.mono _ _ _
      | exact impl_MustLog.mono _ _ _ _ _
      | exact LeO.none _
      | refine LeO.ite ?_ ?_
      | refine LeO.bind ?_ (fun _ => ?_)
set_option maxHeartbeats 8000000 in
set_option maxRecDepth 100000 in
theorem impl_NeedsLog.calls (k : Nat) (A0_0 : Option Addr) (c0_0 : Nat) (l0_0 : List (S56)) (a0_1 : Int) (a0_2 : Int) (a0_3 : Int) (a1 : Int) (r : Bool) (w : World) (hr0_0 : Kd.C k56 w A0_0 l0_0.length l0_0) (hc0_0 : l0_0.length ≤ c0_0) (h : impl_NeedsLog.f k l0_0 a0_1 a0_2 a0_3 a1 = some r) :
    Calls Try.prog 7 #[.agg #[.slice A0_0 l0_0.length c0_0, .int .i64 a0_1, .int .i64 a0_2, .int .i64 a0_3], .int .i64 a1] w fun e w' => e = .returned (.bool r) ∧ Below w.heap.size w w' := by
  have hu28 := Try.underlying28
  have HR0_0 := Aside0.mk hr0_0
  have HC0_0 := Aside0.mk hc0_0
  clear hr0_0 hc0_0
  have HB := Aside0.mk (Below.refl w.heap.size w)
  have H : ((impl_MustLog.f k l0_0 a0_1 a0_2 a0_3).bind fun t425 => ((impl_HasVar.f k t425 a1).bind fun t428 => (some t428))) = some r := h
  clear h
  replace H := Option.bind_eq_some_iff.mp H
  obtain ⟨t425, A30, H⟩ := H
  replace H : ((impl_HasVar.f k t425 a1).bind fun t428 => (some t428)) = some r := H
  have A3 := Aside0.mk A30
  clear A30
  replace H := Option.bind_eq_some_iff.mp H
  obtain ⟨t428, A40, H⟩ := H
  replace H : (some t428) = some r := H
  have A4 := Aside0.mk A40
  clear A40
  obtain rfl := Option.some.inj H
  go_enter Try.func7, Try.ntmps7
  go_wp2_with (first | ((with_reducible refine gate_dst (N := 2) rfl ?_); refine box_event ?hg (N := 2) ?hd (cs := #[.slice A0_0 l0_0.length c0_0, .int .i64 a0_1, .int .i64 a0_2, .int .i64 a0_3]) (t := 28) ?hr ?_; (case hd => rfl); (case hg => rfl); (case hr => exact z11_16); intro gb424 hg w5 hbox hb; have n0_ := Aside0.mk (below_step z11_4 hb); have n1_ := Aside0.mk (hbox); have n2_ := Aside0.mk ((z11_20 : w.heap.size ≤ gb424)); have n3_ := Aside0.mk ((z11_20 : w.heap.size ≤ gb424)); clear HB; have HB := n0_; have BK424 := n1_; have GW424 := n2_; have GE424 := n3_; clear n0_ n1_ n2_ n3_; clear hb hbox hg; have hcz6_0 : w5.cell? ⟨gb424, 0, none⟩ = some (.slice A0_0 l0_0.length c0_0) := (blk_cell BK424.out 0).trans rfl; have hcz6_1 : w5.cell? ⟨gb424, 1, none⟩ = some (.int .i64 a0_1) := (blk_cell BK424.out 1).trans rfl; have hcz6_2 : w5.cell? ⟨gb424, 2, none⟩ = some (.int .i64 a0_2) := (blk_cell BK424.out 2).trans rfl; have hcz6_3 : w5.cell? ⟨gb424, 3, none⟩ = some (.int .i64 a0_3) := (blk_cell BK424.out 3).trans rfl; have hfz6_0 := blk_frozen BK424.out 0; have hfz6_1 := blk_frozen BK424.out 1; have hfz6_2 := blk_frozen BK424.out 2; have hfz6_3 := blk_frozen BK424.out 3) | ((first | ((with_reducible refine gate_callee (f := 17) rfl ?_); refine goesL_ (some 6) rfl rfl Try.func17 z11_13 rfl #[.agg #[.slice A0_0 l0_0.length c0_0, .int .i64 a0_1, .int .i64 a0_2, .int .i64 a0_3]] rfl z11_6 ?_; (with_reducible refine (impl_MustLog.calls k _ _ l0_0 a0_1 a0_2 a0_3 t425 _ ?side1 ?side2 A3.out).mono ?_)) | (go_at_call 17; (with_reducible refine (impl_MustLog.calls k _ _ l0_0 a0_1 a0_2 a0_3 t425 _ ?side1 ?side2 A3.out).mono ?_))); (case side1 => exact z11_11); (case side2 => exact HC0_0.out); rintro e w7 ⟨v426, rfl, ho0, hb⟩; (first | refine ⟨_, rfl, ?_⟩ | skip); have n0_ := Aside0.mk (Kd.R_lower ho0 (below_size (by repeat (first | (with_reducible first | exact HB.out | apply below_alloc | apply pw_below_drewN | apply below_drew1 | refine below_set ?_ GE424.out) | exact HB.out)))); have n1_ := Aside0.mk (blk_below (g := gb424) (o := .cells #[.slice A0_0 l0_0.length c0_0, .int .i64 a0_1, .int .i64 a0_2, .int .i64 a0_3] 28 (0, 0)) (by (with_reducible repeat (first | refine blk_drewN ?_ _ | refine blk_drew ?_ | refine blk_alloc ?_ _)); exact BK424.out) hb); have n2_ := Aside0.mk (below_step (by repeat (first | (with_reducible first | exact HB.out | apply below_alloc | apply pw_below_drewN | apply below_drew1 | refine below_set ?_ GE424.out) | exact HB.out)) hb); clear BK424; clear HB; have HO427 := n0_; have BK424 := n1_; have HB := n2_; clear n0_ n1_ n2_; (try clear hb); (try clear hb2); (try clear hk); (try clear hi); (try clear ho0); obtain ⟨Ao8, co8, eo8⟩ := Kd.R_slice HO427.out; subst eo8) | ((first | ((with_reducible refine gate_callee (f := 16) rfl ?_); refine goesL_ (some 8) rfl rfl Try.func16 z11_13 rfl #[.slice Ao8 t425.length co8, .int .i64 a1] rfl z11_6 ?_; (with_reducible refine (impl_HasVar.calls k _ _ t425 a1 t428 _ ?side1 ?side2 A4.out).mono ?_)) | (go_at_call 16; (with_reducible refine (impl_HasVar.calls k _ _ t425 a1 t428 _ ?side1 ?side2 A4.out).mono ?_))); (case side1 => repeat (first | exact (Kd.R_reads' HO427.out).2.2 | (with_reducible refine Kd.C_alloc ?_ _) | (with_reducible refine Kd.C_drewN ?_ _) | (with_reducible refine Kd.C_drew ?_))); (case side2 => exact (Kd.R_reads' HO427.out).2.1); rintro e w' ⟨rfl, ⟨nd, rfl⟩⟩; (first | refine ⟨_, rfl, ?_⟩ | skip)))
  go_ret
  exact ⟨by first | rfl | (simp [errW_none, errW_some] <;> rfl) | (simp [*, errW_none, errW_some] <;> rfl) | (simp [*, errW_none, errW_some, i64_w]; done), by repeat (first | (with_reducible first | exact HB.out | apply below_alloc | apply pw_below_drewN | apply below_drew1 | refine below_set ?_ GE424.out) | exact HB.out)⟩

/-! ### impl_WriteCount: function 6 -/
def impl_WriteCount.j0 : Nat → Int → Bool → List (S56) → Int → Int → Int → Option (Int)
  | 0, _, _, _, _, _, _ => none
  | k + 1, x1, x5, x430000, x430001, x430002, x430003 => if x5 = true then (some 0) else ((impl_NeedsLog.f k x430000 x430001 x430002 x430003 x1).bind fun t432 => (if t432 = true then (some 4) else (some 1)))
def impl_WriteCount.f (k : Nat) (l0_0 : List (S56)) (a0_1 : Int) (a0_2 : Int) (a0_3 : Int) (a1 : Int) : Option (Int) := (impl_taskOk.f k l0_0 a0_1 a0_2 a0_3).bind fun t430 => (if t430 = true then ((impl_isVar.f a1).bind fun t431 => (impl_WriteCount.j0 k a1 (!t431) l0_0 a0_1 a0_2 a0_3)) else (impl_WriteCount.j0 k a1 true l0_0 a0_1 a0_2 a0_3))
theorem impl_WriteCount.mono_l : ∀ k, (∀ y0 y1 y2 y3 y4 y5, LeO (impl_WriteCount.j0 k y0 y1 y2 y3 y4 y5) (impl_WriteCount.j0 (k + 1) y0 y1 y2 y3 y4 y5))
  | 0 => fun _ _ _ _ _ _ r h => by simp [impl_WriteCount.j0] at h
  | k + 1 => by
    have ih0 := impl_WriteCount.mono_l k
    · intro y0 y1 y2 y3 y4 y5
      unfold impl_WriteCount.j0
      repeat' first
      | (with_reducible exact ih0 _ _ _ _ _ _)
      | (with_reducible exact impl_NeedsLog.mono _ _ _ _ _ _)
      | (with_reducible exact impl_taskOk.mono _ _ _ _ _)
      | (with_reducible exact LeO.refl _)
      | (with_reducible exact LeO.none _)
      | (with_reducible refine LeO.ite ?_ ?_)
      | (with_reducible refine LeO.bind ?_ (fun _ => ?_))
      | exact ih0 _ _ _ _ _ _
      | exact impl_NeedsLog.mono _ _ _ _ _ _
      | exact impl_taskOk.mono _ _ _ _ _
      | exact LeO.none _
      | refine LeO.ite ?_ ?_
      | refine LeO.bind ?_ (fun _ => ?_)
theorem impl_WriteCount.mono : ∀ a0 a1 a2 a3 a4 k, LeO (impl_WriteCount.f k a0 a1 a2 a3 a4) (impl_WriteCount.f (k + 1) a0 a1 a2 a3 a4) := by
  intro a0 a1 a2 a3 a4 k
  have ih0 := impl_WriteCount.mono_l k
  unfold impl_WriteCount.f
  repeat' first
      | (with_reducible exact ih0 _ _ _ _ _ _)
      | (with_reducible exact impl_NeedsLog.mono _ _ _ _ _ _)
      | (with_reducible exact impl_taskOk.mono _ _ _ _ _)
      | (with_reducible exact LeO.refl _)
      | (with_reducible exact LeO.none _)
      | (with_reducible refine LeO.ite ?_ ?_)
      | (with_reducible refine LeO.bind ?_ (fun _ => ?_))
      | exact ih0 _ _ _ _ _ _
      | exact impl_NeedsLog.mono _ _ _ _ _ _
      | exact impl_taskOk.mono _ _ _ _ _
      | exact LeO.none _
      | refine LeO.ite ?_ ?_
      | refine LeO.bind ?_ (fun _ => ?_)
set_option maxHeartbeats 8000000 in
set_option maxRecDepth 100000 in
theorem impl_WriteCount.calls (k : Nat) (A0_0 : Option Addr) (c0_0 : Nat) (l0_0 : List (S56)) (a0_1 : Int) (a0_2 : Int) (a0_3 : Int) (a1 : Int) (r : Int) (w : World) (hr0_0 : Kd.C k56 w A0_0 l0_0.length l0_0) (hc0_0 : l0_0.length ≤ c0_0) (h : impl_WriteCount.f k l0_0 a0_1 a0_2 a0_3 a1 = some r) :
    Calls Try.prog 6 #[.agg #[.slice A0_0 l0_0.length c0_0, .int .i64 a0_1, .int .i64 a0_2, .int .i64 a0_3], .int .i64 a1] w fun e w' => e = .returned (.int .i64 r) ∧ Below w.heap.size w w' := by
  have hu28 := Try.underlying28
  have HR0_0 := Aside0.mk hr0_0
  have HC0_0 := Aside0.mk hc0_0
  clear hr0_0 hc0_0
  have HB := Aside0.mk (Below.refl w.heap.size w)
  have H : ((impl_taskOk.f k l0_0 a0_1 a0_2 a0_3).bind fun t430 => (if t430 = true then ((impl_isVar.f a1).bind fun t431 => (impl_WriteCount.j0 k a1 (!t431) l0_0 a0_1 a0_2 a0_3)) else (impl_WriteCount.j0 k a1 true l0_0 a0_1 a0_2 a0_3))) = some r := h
  clear h
  have HC3 := Aside0.mk H
  clear H
  go_enter Try.func6, Try.ntmps6
  go_upto_region 1 with (first | ((with_reducible refine gate_dst (N := 2) rfl ?_); refine box_event ?hg (N := 2) ?hd (cs := #[.slice A0_0 l0_0.length c0_0, .int .i64 a0_1, .int .i64 a0_2, .int .i64 a0_3]) (t := 28) ?hr ?_; (case hd => rfl); (case hg => rfl); (case hr => exact z11_16); intro gb429 hg w4 hbox hb; have n0_ := Aside0.mk (below_step z11_4 hb); have n1_ := Aside0.mk (hbox); have n2_ := Aside0.mk ((z11_20 : w.heap.size ≤ gb429)); have n3_ := Aside0.mk ((z11_20 : w.heap.size ≤ gb429)); clear HB; have HB := n0_; have BK429 := n1_; have GW429 := n2_; have GE429 := n3_; clear n0_ n1_ n2_ n3_; clear hb hbox hg))
  (try simp only [Act.put, List.setIfInBounds_toArray, List.set_cons_zero, List.set_cons_succ])
  go_cut [5] (fun v5 wc => ∃ (kq : Nat) (x5_2 : Bool), v5 = .bool x5_2 ∧ Aside0 (impl_WriteCount.j0 kq a1 x5_2 l0_0 a0_1 a0_2 a0_3 = some r) ∧ Aside0 (kq ≤ k) ∧ Aside0 (wc.heap[gb429]? = some (.cells #[(.slice A0_0 l0_0.length c0_0), .int .i64 a0_1, .int .i64 a0_2, .int .i64 a0_3] 28 (0, 0))) ∧ Aside0 (Below w.heap.size w wc))
  case first =>
    have H := HC3.out
    clear HC3
    replace H := Option.bind_eq_some_iff.mp H
    obtain ⟨t430, A50, H⟩ := H
    replace H : (if t430 = true then ((impl_isVar.f a1).bind fun t431 => (impl_WriteCount.j0 k a1 (!t431) l0_0 a0_1 a0_2 a0_3)) else (impl_WriteCount.j0 k a1 true l0_0 a0_1 a0_2 a0_3)) = some r := H
    have A5 := Aside0.mk A50
    clear A50
    by_cases c6 : t430 = true
    · subst c6
      have H1 : ((impl_isVar.f a1).bind fun t431 => (impl_WriteCount.j0 k a1 (!t431) l0_0 a0_1 a0_2 a0_3)) = some r := by rw [if_pos rfl] at H; exact H
      clear H
      have H := H1
      clear H1
      replace H := Option.bind_eq_some_iff.mp H
      obtain ⟨t431, A70, H⟩ := H
      replace H : (impl_WriteCount.j0 k a1 (!t431) l0_0 a0_1 a0_2 a0_3) = some r := H
      have A7 := Aside0.mk A70
      clear A70
      have H' := Aside0.mk H
      clear H
      have hcz8_0 : w4.cell? ⟨gb429, 0, none⟩ = some (.slice A0_0 l0_0.length c0_0) := (blk_cell BK429.out 0).trans rfl
      have hcz8_1 : w4.cell? ⟨gb429, 1, none⟩ = some (.int .i64 a0_1) := (blk_cell BK429.out 1).trans rfl
      have hcz8_2 : w4.cell? ⟨gb429, 2, none⟩ = some (.int .i64 a0_2) := (blk_cell BK429.out 2).trans rfl
      have hcz8_3 : w4.cell? ⟨gb429, 3, none⟩ = some (.int .i64 a0_3) := (blk_cell BK429.out 3).trans rfl
      have hfz8_0 := blk_frozen BK429.out 0
      have hfz8_1 := blk_frozen BK429.out 1
      have hfz8_2 := blk_frozen BK429.out 2
      have hfz8_3 := blk_frozen BK429.out 3
      go_wp2_with (first | ((first | ((with_reducible refine gate_callee (f := 14) rfl ?_); refine goesL_ (some 7) rfl rfl Try.func14 z11_13 rfl #[.agg #[.slice A0_0 l0_0.length c0_0, .int .i64 a0_1, .int .i64 a0_2, .int .i64 a0_3]] rfl z11_6 ?_; (with_reducible refine (impl_taskOk.calls k _ _ l0_0 a0_1 a0_2 a0_3 true _ ?side1 ?side2 A5.out).mono ?_)) | (go_at_call 14; (with_reducible refine (impl_taskOk.calls k _ _ l0_0 a0_1 a0_2 a0_3 true _ ?side1 ?side2 A5.out).mono ?_))); (case side1 => exact z11_11); (case side2 => exact HC0_0.out); rintro e w9 ⟨rfl, hb⟩; (first | refine ⟨_, rfl, ?_⟩ | skip); have n0_ := Aside0.mk (blk_below (g := gb429) (o := .cells #[.slice A0_0 l0_0.length c0_0, .int .i64 a0_1, .int .i64 a0_2, .int .i64 a0_3] 28 (0, 0)) z11_17 hb); have n1_ := Aside0.mk (below_step z11_15 hb); clear BK429; clear HB; have BK429 := n0_; have HB := n1_; clear n0_ n1_; (try clear hb); (try clear hb2); (try clear hk); (try clear hi)) | (go_at_call 15; (with_reducible refine (impl_isVar.calls a1 t431 _ A7.out).mono ?_); rintro e w' ⟨rfl, ⟨nd, rfl⟩⟩))
      go_meet
      case rel => exact ⟨_, (!t431), z11_19, H', ⟨by first | omega | exact Nat.le_refl _⟩, ⟨by (with_reducible repeat (first | refine blk_drewN ?_ _ | refine blk_drew ?_ | refine blk_alloc ?_ _)); exact BK429.out⟩, ⟨by repeat (first | (with_reducible first | exact HB.out | apply below_alloc | apply pw_below_drewN | apply below_drew1 | refine below_set ?_ GE429.out) | exact HB.out)⟩⟩
    · replace c6 := Bool.eq_false_iff.mpr c6
      subst c6
      have H1 : (impl_WriteCount.j0 k a1 true l0_0 a0_1 a0_2 a0_3) = some r := by rw [if_neg (show ¬ (false = true) by decide)] at H; exact H
      clear H
      have H := H1
      clear H1
      have H' := Aside0.mk H
      clear H
      have hcz10_0 : w4.cell? ⟨gb429, 0, none⟩ = some (.slice A0_0 l0_0.length c0_0) := (blk_cell BK429.out 0).trans rfl
      have hcz10_1 : w4.cell? ⟨gb429, 1, none⟩ = some (.int .i64 a0_1) := (blk_cell BK429.out 1).trans rfl
      have hcz10_2 : w4.cell? ⟨gb429, 2, none⟩ = some (.int .i64 a0_2) := (blk_cell BK429.out 2).trans rfl
      have hcz10_3 : w4.cell? ⟨gb429, 3, none⟩ = some (.int .i64 a0_3) := (blk_cell BK429.out 3).trans rfl
      have hfz10_0 := blk_frozen BK429.out 0
      have hfz10_1 := blk_frozen BK429.out 1
      have hfz10_2 := blk_frozen BK429.out 2
      have hfz10_3 := blk_frozen BK429.out 3
      go_wp2_with (first | ((first | ((with_reducible refine gate_callee (f := 14) rfl ?_); refine goesL_ (some 7) rfl rfl Try.func14 z11_13 rfl #[.agg #[.slice A0_0 l0_0.length c0_0, .int .i64 a0_1, .int .i64 a0_2, .int .i64 a0_3]] rfl z11_6 ?_; (with_reducible refine (impl_taskOk.calls k _ _ l0_0 a0_1 a0_2 a0_3 false _ ?side1 ?side2 A5.out).mono ?_)) | (go_at_call 14; (with_reducible refine (impl_taskOk.calls k _ _ l0_0 a0_1 a0_2 a0_3 false _ ?side1 ?side2 A5.out).mono ?_))); (case side1 => exact z11_11); (case side2 => exact HC0_0.out); rintro e w11 ⟨rfl, hb⟩; (first | refine ⟨_, rfl, ?_⟩ | skip); have n0_ := Aside0.mk (blk_below (g := gb429) (o := .cells #[.slice A0_0 l0_0.length c0_0, .int .i64 a0_1, .int .i64 a0_2, .int .i64 a0_3] 28 (0, 0)) z11_17 hb); have n1_ := Aside0.mk (below_step z11_15 hb); clear BK429; clear HB; have BK429 := n0_; have HB := n1_; clear n0_ n1_; (try clear hb); (try clear hb2); (try clear hk); (try clear hi)))
      go_meet
      case rel => exact ⟨_, (true), z11_19, H', ⟨by first | omega | exact Nat.le_refl _⟩, ⟨by (with_reducible repeat (first | refine blk_drewN ?_ _ | refine blk_drew ?_ | refine blk_alloc ?_ _)); exact BK429.out⟩, ⟨by repeat (first | (with_reducible first | exact HB.out | apply below_alloc | apply pw_below_drewN | apply below_drew1 | refine below_set ?_ GE429.out) | exact HB.out)⟩⟩
  case rest =>
    clear HC3
    obtain ⟨kq, x5_2, rfl, HA, HJ2, BK429, HB⟩ := hcut
    cases kq with
    | zero => exact absurd HA.out (by simp [impl_WriteCount.j0])
    | succ kj2 =>
      have H := HA.out
      clear HA
      simp only [impl_WriteCount.j0] at H
      by_cases c12 : x5_2 = true
      · subst c12
        have H1 : (some 0) = some r := by rw [if_pos rfl] at H; exact H
        clear H
        have H := H1
        clear H1
        obtain rfl := Option.some.inj H
        go_wp2
        go_ret
        exact ⟨by first | rfl | (simp [errW_none, errW_some] <;> rfl) | (simp [*, errW_none, errW_some] <;> rfl) | (simp [*, errW_none, errW_some, i64_w]; done), by repeat (first | (with_reducible first | exact HB.out | apply below_alloc | apply pw_below_drewN | apply below_drew1 | refine below_set ?_ GE429.out) | exact HB.out)⟩
      · replace c12 := Bool.eq_false_iff.mpr c12
        subst c12
        have H1 : ((impl_NeedsLog.f kj2 l0_0 a0_1 a0_2 a0_3 a1).bind fun t432 => (if t432 = true then (some 4) else (some 1))) = some r := by rw [if_neg (show ¬ (false = true) by decide)] at H; exact H
        clear H
        have H := H1
        clear H1
        replace H := Option.bind_eq_some_iff.mp H
        obtain ⟨t432, A130, H⟩ := H
        replace H : (if t432 = true then (some 4) else (some 1)) = some r := H
        have A13 := Aside0.mk A130
        clear A130
        by_cases c14 : t432 = true
        · subst c14
          have H1 : (some 4) = some r := by rw [if_pos rfl] at H; exact H
          clear H
          have H := H1
          clear H1
          obtain rfl := Option.some.inj H
          have hcz15_0 : wc.cell? ⟨gb429, 0, none⟩ = some (.slice A0_0 l0_0.length c0_0) := (blk_cell BK429.out 0).trans rfl
          have hcz15_1 : wc.cell? ⟨gb429, 1, none⟩ = some (.int .i64 a0_1) := (blk_cell BK429.out 1).trans rfl
          have hcz15_2 : wc.cell? ⟨gb429, 2, none⟩ = some (.int .i64 a0_2) := (blk_cell BK429.out 2).trans rfl
          have hcz15_3 : wc.cell? ⟨gb429, 3, none⟩ = some (.int .i64 a0_3) := (blk_cell BK429.out 3).trans rfl
          have hfz15_0 := blk_frozen BK429.out 0
          have hfz15_1 := blk_frozen BK429.out 1
          have hfz15_2 := blk_frozen BK429.out 2
          have hfz15_3 := blk_frozen BK429.out 3
          go_wp2_with (first | ((first | ((with_reducible refine gate_callee (f := 7) rfl ?_); refine goesL_ (some 17) rfl rfl Try.func7 z11_13 rfl #[.agg #[.slice A0_0 l0_0.length c0_0, .int .i64 a0_1, .int .i64 a0_2, .int .i64 a0_3], .int .i64 a1] rfl z11_6 ?_; (with_reducible refine (impl_NeedsLog.calls kj2 _ _ l0_0 a0_1 a0_2 a0_3 a1 true _ ?side1 ?side2 A13.out).mono ?_)) | (go_at_call 7; (with_reducible refine (impl_NeedsLog.calls kj2 _ _ l0_0 a0_1 a0_2 a0_3 a1 true _ ?side1 ?side2 A13.out).mono ?_))); (case side1 => exact z11_11); (case side2 => exact HC0_0.out); rintro e w16 ⟨rfl, hb⟩; (first | refine ⟨_, rfl, ?_⟩ | skip); have n0_ := Aside0.mk (blk_below (g := gb429) (o := .cells #[.slice A0_0 l0_0.length c0_0, .int .i64 a0_1, .int .i64 a0_2, .int .i64 a0_3] 28 (0, 0)) z11_17 hb); have n1_ := Aside0.mk (below_step z11_15 hb); clear BK429; clear HB; have BK429 := n0_; have HB := n1_; clear n0_ n1_; (try clear hb); (try clear hb2); (try clear hk); (try clear hi)))
          go_ret
          exact ⟨by first | rfl | (simp [errW_none, errW_some] <;> rfl) | (simp [*, errW_none, errW_some] <;> rfl) | (simp [*, errW_none, errW_some, i64_w]; done), by repeat (first | (with_reducible first | exact HB.out | apply below_alloc | apply pw_below_drewN | apply below_drew1 | refine below_set ?_ GE429.out) | exact HB.out)⟩
        · replace c14 := Bool.eq_false_iff.mpr c14
          subst c14
          have H1 : (some 1) = some r := by rw [if_neg (show ¬ (false = true) by decide)] at H; exact H
          clear H
          have H := H1
          clear H1
          obtain rfl := Option.some.inj H
          have hcz17_0 : wc.cell? ⟨gb429, 0, none⟩ = some (.slice A0_0 l0_0.length c0_0) := (blk_cell BK429.out 0).trans rfl
          have hcz17_1 : wc.cell? ⟨gb429, 1, none⟩ = some (.int .i64 a0_1) := (blk_cell BK429.out 1).trans rfl
          have hcz17_2 : wc.cell? ⟨gb429, 2, none⟩ = some (.int .i64 a0_2) := (blk_cell BK429.out 2).trans rfl
          have hcz17_3 : wc.cell? ⟨gb429, 3, none⟩ = some (.int .i64 a0_3) := (blk_cell BK429.out 3).trans rfl
          have hfz17_0 := blk_frozen BK429.out 0
          have hfz17_1 := blk_frozen BK429.out 1
          have hfz17_2 := blk_frozen BK429.out 2
          have hfz17_3 := blk_frozen BK429.out 3
          go_wp2_with (first | ((first | ((with_reducible refine gate_callee (f := 7) rfl ?_); refine goesL_ (some 17) rfl rfl Try.func7 z11_13 rfl #[.agg #[.slice A0_0 l0_0.length c0_0, .int .i64 a0_1, .int .i64 a0_2, .int .i64 a0_3], .int .i64 a1] rfl z11_6 ?_; (with_reducible refine (impl_NeedsLog.calls kj2 _ _ l0_0 a0_1 a0_2 a0_3 a1 false _ ?side1 ?side2 A13.out).mono ?_)) | (go_at_call 7; (with_reducible refine (impl_NeedsLog.calls kj2 _ _ l0_0 a0_1 a0_2 a0_3 a1 false _ ?side1 ?side2 A13.out).mono ?_))); (case side1 => exact z11_11); (case side2 => exact HC0_0.out); rintro e w18 ⟨rfl, hb⟩; (first | refine ⟨_, rfl, ?_⟩ | skip); have n0_ := Aside0.mk (blk_below (g := gb429) (o := .cells #[.slice A0_0 l0_0.length c0_0, .int .i64 a0_1, .int .i64 a0_2, .int .i64 a0_3] 28 (0, 0)) z11_17 hb); have n1_ := Aside0.mk (below_step z11_15 hb); clear BK429; clear HB; have BK429 := n0_; have HB := n1_; clear n0_ n1_; (try clear hb); (try clear hb2); (try clear hk); (try clear hi)))
          go_ret
          exact ⟨by first | rfl | (simp [errW_none, errW_some] <;> rfl) | (simp [*, errW_none, errW_some] <;> rfl) | (simp [*, errW_none, errW_some, i64_w]; done), by repeat (first | (with_reducible first | exact HB.out | apply below_alloc | apply pw_below_drewN | apply below_drew1 | refine below_set ?_ GE429.out) | exact HB.out)⟩

/-! ### impl_RecoveryCost: function 8 -/
def impl_RecoveryCost.f (a0 : Int) : Option (Int) := (impl_within.f a0 0 8).bind fun t433 => (if t433 = true then (if a0 = 0 then (some 0) else (some (wrap64 (3 * (wrap64 (a0 + 1)))))) else (some (-1)))
set_option maxHeartbeats 8000000 in
set_option maxRecDepth 100000 in
theorem impl_RecoveryCost.calls (a0 : Int) (r : Int) (w : World) (h : impl_RecoveryCost.f a0 = some r) :
    Calls Try.prog 8 #[.int .i64 a0] w fun e w' => e = .returned (.int .i64 r) ∧ Drawn0 w w' := by
  have H : ((impl_within.f a0 0 8).bind fun t433 => (if t433 = true then (if a0 = 0 then (some 0) else (some (wrap64 (3 * (wrap64 (a0 + 1)))))) else (some (-1)))) = some r := h
  clear h
  replace H := Option.bind_eq_some_iff.mp H
  obtain ⟨t433, A20, H⟩ := H
  replace H : (if t433 = true then (if a0 = 0 then (some 0) else (some (wrap64 (3 * (wrap64 (a0 + 1)))))) else (some (-1))) = some r := H
  have A2 := Aside0.mk A20
  clear A20
  by_cases c3 : t433 = true
  · subst c3
    have H1 : (if a0 = 0 then (some 0) else (some (wrap64 (3 * (wrap64 (a0 + 1)))))) = some r := by rw [if_pos rfl] at H; exact H
    clear H
    have H := H1
    clear H1
    by_cases c4 : a0 = 0
    · rw [if_pos c4] at H
      have c4b0 : (a0 == 0) = true := beq_iff_eq.mpr c4
      have c4b1 : (a0 != 0) = false := bne_eq_false_iff_eq.mpr c4
      clear c4
      obtain rfl := Option.some.inj H
      go_enter Try.func8, Try.ntmps8
      go_wp2_with (first | ((first | ((with_reducible refine gate_callee (f := 18) rfl ?_); refine goesL_ (some 5) rfl rfl Try.func18 z11_13 rfl #[.int .i64 a0, .int .i64 0, .int .i64 8] rfl z11_6 ?_; (with_reducible refine (impl_within.calls a0 0 8 true _ A2.out).mono ?_)) | (go_at_call 18; (with_reducible refine (impl_within.calls a0 0 8 true _ A2.out).mono ?_))); rintro e w' ⟨rfl, ⟨nd, rfl⟩⟩; (first | refine ⟨_, rfl, ?_⟩ | skip)))
      go_ret
      exact ⟨by first | rfl | (simp; done) | (simp [*]; done), by repeat (first | exact Drawn0.refl _ | apply Drawn0.step)⟩
    · rw [if_neg c4] at H
      have c4b0 : (a0 == 0) = false := beq_eq_false_iff_ne.mpr c4
      have c4b1 : (a0 != 0) = true := bne_iff_ne.mpr c4
      obtain rfl := Option.some.inj H
      go_enter Try.func8, Try.ntmps8
      go_wp2_with (first | ((first | ((with_reducible refine gate_callee (f := 18) rfl ?_); refine goesL_ (some 5) rfl rfl Try.func18 z11_13 rfl #[.int .i64 a0, .int .i64 0, .int .i64 8] rfl z11_6 ?_; (with_reducible refine (impl_within.calls a0 0 8 true _ A2.out).mono ?_)) | (go_at_call 18; (with_reducible refine (impl_within.calls a0 0 8 true _ A2.out).mono ?_))); rintro e w' ⟨rfl, ⟨nd, rfl⟩⟩; (first | refine ⟨_, rfl, ?_⟩ | skip)))
      go_ret
      exact ⟨by first | rfl | (simp; done) | (simp [*]; done), by repeat (first | exact Drawn0.refl _ | apply Drawn0.step)⟩
  · replace c3 := Bool.eq_false_iff.mpr c3
    subst c3
    have H1 : (some (-1)) = some r := by rw [if_neg (show ¬ (false = true) by decide)] at H; exact H
    clear H
    have H := H1
    clear H1
    obtain rfl := Option.some.inj H
    go_enter Try.func8, Try.ntmps8
    go_wp2_with (first | ((first | ((with_reducible refine gate_callee (f := 18) rfl ?_); refine goesL_ (some 5) rfl rfl Try.func18 z11_13 rfl #[.int .i64 a0, .int .i64 0, .int .i64 8] rfl z11_6 ?_; (with_reducible refine (impl_within.calls a0 0 8 false _ A2.out).mono ?_)) | (go_at_call 18; (with_reducible refine (impl_within.calls a0 0 8 false _ A2.out).mono ?_))); rintro e w' ⟨rfl, ⟨nd, rfl⟩⟩; (first | refine ⟨_, rfl, ?_⟩ | skip)))
    go_ret
    exact ⟨by first | rfl | (simp; done) | (simp [*]; done), by repeat (first | exact Drawn0.refl _ | apply Drawn0.step)⟩

/-! ### spec_DrawPlaces: function 9 -/
def spec_DrawPlaces.l0 : Nat → List Int → Int → List Int → Int → Int → Option (List Int)
  | 0, _, _, _, _, _ => none
  | k + 1, x4, x5, x438000, x438001, x438002 => if x5 < 12 then ((spec_l01Below.f x438000 x438001 x438002 10000).bind fun bt441 => (if x4.length < 17592186044416 then (spec_DrawPlaces.l0 k (x4 ++ [bt441.1]) (wrap64 (x5 + 1)) x438000 bt441.2.1 bt441.2.2) else (none))) else (some x4)
def spec_DrawPlaces.f (k : Nat) (l0 : List Int) : Option (List Int) := (spec_l01New.f k l0).bind fun bt434 => (spec_DrawPlaces.l0 k (([] : List Int)) 0 bt434.1 bt434.2.1 bt434.2.2)
theorem spec_DrawPlaces.mono_l : ∀ k, (∀ y0 y1 y2 y3 y4, LeO (spec_DrawPlaces.l0 k y0 y1 y2 y3 y4) (spec_DrawPlaces.l0 (k + 1) y0 y1 y2 y3 y4))
  | 0 => fun _ _ _ _ _ r h => by simp [spec_DrawPlaces.l0] at h
  | k + 1 => by
    have ih0 := spec_DrawPlaces.mono_l k
    · intro y0 y1 y2 y3 y4
      unfold spec_DrawPlaces.l0
      repeat' first
      | (with_reducible exact ih0 _ _ _ _ _)
      | (with_reducible exact spec_l01New.mono _ _)
      | (with_reducible exact LeO.refl _)
      | (with_reducible exact LeO.none _)
      | (with_reducible refine LeO.ite ?_ ?_)
      | (with_reducible refine LeO.bind ?_ (fun _ => ?_))
      | exact ih0 _ _ _ _ _
      | exact spec_l01New.mono _ _
      | exact LeO.none _
      | refine LeO.ite ?_ ?_
      | refine LeO.bind ?_ (fun _ => ?_)
theorem spec_DrawPlaces.mono : ∀ a0 k, LeO (spec_DrawPlaces.f k a0) (spec_DrawPlaces.f (k + 1) a0) := by
  intro a0 k
  have ih0 := spec_DrawPlaces.mono_l k
  unfold spec_DrawPlaces.f
  repeat' first
      | (with_reducible exact ih0 _ _ _ _ _)
      | (with_reducible exact spec_l01New.mono _ _)
      | (with_reducible exact LeO.refl _)
      | (with_reducible exact LeO.none _)
      | (with_reducible refine LeO.ite ?_ ?_)
      | (with_reducible refine LeO.bind ?_ (fun _ => ?_))
      | exact ih0 _ _ _ _ _
      | exact spec_l01New.mono _ _
      | exact LeO.none _
      | refine LeO.ite ?_ ?_
      | refine LeO.bind ?_ (fun _ => ?_)
set_option maxHeartbeats 8000000 in
set_option maxRecDepth 100000 in
theorem spec_DrawPlaces.calls (k : Nat) (A0 : Option Addr) (c0 : Nat) (l0 : List Int) (r : List Int) (w : World) (hr0 : Kd.C (Kd.int .u8) w A0 l0.length l0) (hc0 : l0.length ≤ c0) (h : spec_DrawPlaces.f k l0 = some r) :
    Calls Try.prog 9 #[.slice A0 l0.length c0] w fun e w' => ∃ v0_ : Value, e = .returned (v0_) ∧ Kd.R (Kd.int .i64) 3 w' w.heap.size (fun _ => True) v0_ r ∧ Below w.heap.size w w' := by
  have HR0 := Aside0.mk hr0
  have HC0 := Aside0.mk hc0
  clear hr0 hc0
  have HB := Aside0.mk (Below.refl w.heap.size w)
  have H : ((spec_l01New.f k l0).bind fun bt434 => (spec_DrawPlaces.l0 k (([] : List Int)) 0 bt434.1 bt434.2.1 bt434.2.2)) = some r := h
  clear h
  replace H := Option.bind_eq_some_iff.mp H
  obtain ⟨⟨t434, t435, t436⟩, A20, H⟩ := H
  replace H : (spec_DrawPlaces.l0 k (([] : List Int)) 0 t434 t435 t436) = some r := H
  have A2 := Aside0.mk A20
  clear A20
  obtain ⟨y438, hy438⟩ : ∃ y_ : List Int, y_ = (([] : List Int)) := ⟨_, rfl⟩
  replace H : (spec_DrawPlaces.l0 k y438 0 t434 t435 t436) = some r := by first | (rw [hy438]; with_reducible exact H) | (have H2_ := (Option.bind_some _ _).symm.trans H; rw [hy438]; with_reducible exact H2_) | (have H2_ := (Option.bind_some _ _).symm.trans H; with_reducible exact H2_) | with_reducible exact H | (rw [hy438]; exact H) | exact H
  have Ny438 := Aside0.mk hy438
  clear hy438
  have H' := Aside0.mk H
  clear H
  go_enter Try.func9, Try.ntmps9
  go_wp2_with (first | ((first | ((with_reducible refine gate_callee (f := 11) rfl ?_); refine goesL_ (some 7) rfl rfl Try.func11 z11_13 rfl #[.slice A0 l0.length c0] rfl z11_6 ?_; (with_reducible refine (spec_l01New.calls k _ _ l0 t434 t435 t436 w _ ?side1 ?side2 ?side3 A2.out).mono ?_)) | (go_at_call 11; (with_reducible refine (spec_l01New.calls k _ _ l0 t434 t435 t436 w _ ?side1 ?side2 ?side3 A2.out).mono ?_))); (case side1 => exact z11_4); (case side2 => exact HR0.out); (case side3 => exact HC0.out); rintro e w3 ⟨g437, rfl, hi, hb, hb2⟩; (first | refine ⟨_, rfl, ?_⟩ | skip); have n0_ := Aside0.mk (hb); have n1_ := Aside0.mk (hi); clear HB; have HB := n0_; have HI437 := n1_; clear n0_ n1_; (try clear hb); (try clear hb2); (try clear hk); (try clear hi)) | ((with_reducible refine gate_dst (N := 8) rfl ?_); refine Kd.R_lit (Kd.int .i64) _ 3 ?hg (N := 8) ?hd (xs := ([] : List Int)) (inner := []) (ok := fun _ => True) (okp := fun _ => True) ?hr ?hp (fun _ hk => hk) trivial (Below.refl _ _) (Nat.le_refl _) (by simp) ?_; (case hd => rfl); (case hg => rfl); (case hr => exact z11_16); (case hp => exact (Reps.none _ _)); intro v439 w4 ho5 hb hg_ hnew_; clear hg_ hnew_; (first | rw [← Ny438.out] at ho5 | (simp only [Int.reduceToNat] at ho5; rw [← Ny438.out] at ho5)); have n0_ := Aside0.mk (Kd.R_lower ho5 (below_size z11_12)); have n1_ := Aside0.mk (IsS47.below z11_18 hb); have n2_ := Aside0.mk (below_step z11_12 hb); clear HI437; clear HB; have HO440 := n0_; have HI437 := n1_; have HB := n2_; clear n0_ n1_ n2_; clear hb ho5))
  go_loopg [4, 5] k (fun kq v4 v5 w' => ∃ (x4_1 : List Int) (x5_1 : Int) (x438001_1 : Int) (x438002_1 : Int), v5 = .int .i64 x5_1 ∧ Aside0 (spec_DrawPlaces.l0 kq x4_1 x5_1 t434 x438001_1 x438002_1 = some r) ∧ Aside0 (kq ≤ k) ∧ Aside0 (Kd.R (Kd.int .i64) 3 w' w.heap.size (fun _ => True) v4 x4_1) ∧ Aside0 (IsS47 w w' g437 t434 x438001_1 x438002_1) ∧ Aside0 (Below w.heap.size w w'))
  case atStart => exact ⟨(y438), (0), (t435), (t436), z11_19, H', ⟨Nat.le_refl _⟩, ⟨by (with_reducible repeat (first | apply Kd.R_alloc | apply Kd.R_drewN | apply Kd.R_drew)); exact HO440.out⟩, ⟨by repeat (first | (with_reducible first | exact HI437.out | apply IsS47.alloc | apply IsS47.drewN | apply IsS47.drew | apply IsS47.set_1 | apply IsS47.set_2) | exact HI437.out)⟩, ⟨by repeat (first | (with_reducible first | exact HB.out | apply below_alloc | apply pw_below_drewN | apply below_drew1 | refine below_set ?_ (IsS47.ge HI437.out)) | exact HB.out)⟩⟩
  case round =>
    clear H'
    obtain ⟨x4_1, x5_1, x438001_1, x438002_1, rfl, HA, HK1, HO_4, HI437, HB⟩ := hrel
    cases gk with
    | zero => exact absurd HA.out (by simp [spec_DrawPlaces.l0])
    | succ k1 =>
      have H := HA.out
      clear HA
      simp only [spec_DrawPlaces.l0] at H
      by_cases c6 : x5_1 < 12
      · rw [if_pos c6] at H
        have c6b0 : decide (x5_1 < 12) = true := decide_eq_true c6
        clear c6
        replace H := Option.bind_eq_some_iff.mp H
        obtain ⟨⟨t441, t442, t443⟩, A70, H⟩ := H
        replace H : (if x4_1.length < 17592186044416 then (spec_DrawPlaces.l0 k1 (x4_1 ++ [t441]) (wrap64 (x5_1 + 1)) t434 t442 t443) else (none)) = some r := H
        have A7 := Aside0.mk A70
        clear A70
        by_cases c8 : x4_1.length < 17592186044416
        · rw [if_pos c8] at H
          have LMc8 := Aside0.mk c8
          clear c8
          obtain ⟨y444, hy444⟩ : ∃ y_ : List Int, y_ = (x4_1 ++ [t441]) := ⟨_, rfl⟩
          replace H : (spec_DrawPlaces.l0 k1 y444 (wrap64 (x5_1 + 1)) t434 t442 t443) = some r := by first | (rw [hy444]; with_reducible exact H) | (have H2_ := (Option.bind_some _ _).symm.trans H; rw [hy444]; with_reducible exact H2_) | (have H2_ := (Option.bind_some _ _).symm.trans H; with_reducible exact H2_) | with_reducible exact H | (rw [hy444]; exact H) | exact H
          have Ny444 := Aside0.mk hy444
          clear hy444
          have H' := Aside0.mk H
          clear H
          go_wp2_with (first | ((first | ((with_reducible refine gate_callee (f := 19) rfl ?_); refine goesL_ (some 15) rfl rfl Try.func19 z11_13 rfl #[.pointer (some ⟨g437, 0, none⟩), .int .i64 10000] rfl z11_6 ?_; (with_reducible refine (spec_l01Below.calls g437 t434 x438001_1 x438002_1 10000 t441 t442 t443 w _ ?side1 ?side2 A7.out).mono ?_)) | (go_at_call 19; (with_reducible refine (spec_l01Below.calls g437 t434 x438001_1 x438002_1 10000 t441 t442 t443 w _ ?side1 ?side2 A7.out).mono ?_))); (case side1 => exact z11_18); (case side2 => exact z11_12); rintro e w9 ⟨rfl, hi, hb, hk⟩; (first | refine ⟨_, rfl, ?_⟩ | skip); have n0_ := Aside0.mk (Kd.R_mono (Kd.R_keep (IsS47.apart (show IsS47 w _ g437 t434 x438001_1 x438002_1 from by repeat (first | (with_reducible first | exact HI437.out | apply IsS47.alloc | apply IsS47.drewN | apply IsS47.drew | apply IsS47.set_1 | apply IsS47.set_2) | exact HI437.out)) (by (with_reducible repeat (first | apply Kd.R_alloc | apply Kd.R_drewN | apply Kd.R_drew)); exact HO_4.out) (by decide)) hk (fun _ h => h.2)) (fun _ h => h.1)); have n1_ := Aside0.mk (hb); have n2_ := Aside0.mk (hi); clear HO_4; clear HB; clear HI437; have HO_4 := n0_; have HB := n1_; have HI437 := n2_; clear n0_ n1_ n2_; (try clear hb); (try clear hb2); (try clear hk); (try clear hi)) | ((with_reducible refine gate_builtin (b := .append) (xs := #[.tmp 13, .tmp 16]) rfl ?_); at_builtin; refine Kd.R_append (Kd.int .i64) (w0 := w) w.heap.size rfl (.tmp 13) (.tmp 16) 33 3 (.int .i64 0) 8 rfl Try.underlying33 info3 rfl (by decide) (by omega) u4 x4_1 t441 [.int .i64 t441] (fun _ => True) (fun _ => False) rfl rfl ?aP (fun _ hk => hk.elim) ?aF ?aO ?aB ?aS ?aL ?_; (case aP => exact rfl); (case aB => exact z11_12); (case aF => exact (fun _ _ => trivial)); (case aO => exact (by (with_reducible repeat (first | apply Kd.R_alloc | apply Kd.R_drewN | apply Kd.R_drew)); exact HO_4.out)); (case aS => exact (below_size z11_12)); (case aL => have := LMc8.out; omega); intro v445 w10 ho hb hg hat; rw [← Ny444.out] at ho; have n0_ := Aside0.mk (IsS47.grown z11_18 hg (IsS47.own_ne HI437.out HO_4.out (by decide))); have n1_ := Aside0.mk (hb); have n2_ := Aside0.mk (ho); clear HI437; clear HB; clear HO_4; have HI437 := n0_; have HB := n1_; have HO446 := n2_; clear n0_ n1_ n2_; clear ho hb hg hat))
          go_roundg k1
          case measure => have := HK1.out; omega
          case rel => exact ⟨(y444), (wrap64 (x5_1 + 1)), (t442), (t443), z11_19, H', ⟨by have := HK1.out; omega⟩, ⟨by (with_reducible repeat (first | apply Kd.R_alloc | apply Kd.R_drewN | apply Kd.R_drew)); exact HO446.out⟩, ⟨by repeat (first | (with_reducible first | exact HI437.out | apply IsS47.alloc | apply IsS47.drewN | apply IsS47.drew | apply IsS47.set_1 | apply IsS47.set_2) | exact HI437.out)⟩, ⟨by repeat (first | (with_reducible first | exact HB.out | apply below_alloc | apply pw_below_drewN | apply below_drew1 | refine below_set ?_ (IsS47.ge HI437.out)) | exact HB.out)⟩⟩
        · rw [if_neg c8] at H
          exact absurd H (by simp)
      · rw [if_neg c6] at H
        have c6b0 : decide (x5_1 < 12) = false := decide_eq_false c6
        clear c6
        obtain rfl := Option.some.inj H
        go_wp2
        go_ret
        exact ⟨_, by first | rfl | (simp [errW_none, errW_some] <;> rfl) | (simp [*, errW_none, errW_some] <;> rfl) | (simp [*, errW_none, errW_some, i64_w]; done), by (with_reducible repeat (first | apply Kd.R_alloc | apply Kd.R_drewN | apply Kd.R_drew)); exact HO_4.out, by repeat (first | (with_reducible first | exact HB.out | apply below_alloc | apply pw_below_drewN | apply below_drew1 | refine below_set ?_ (IsS47.ge HI437.out)) | exact HB.out)⟩

/-! ### impl_EnergyFor: function 10 -/
def impl_EnergyFor.f (a0 : Int) (a1 : Int) : Option (Int) := (impl_within.f a0 0 1000000).bind fun t447 => (if t447 = true then ((impl_within.f a1 0 1000000).bind fun t448 => (if t448 = true then (some (wrap64 ((wrap64 (a0 * 2)) + (wrap64 (a1 * 3))))) else (some (-1)))) else (some (-1)))
set_option maxHeartbeats 8000000 in
set_option maxRecDepth 100000 in
theorem impl_EnergyFor.calls (a0 : Int) (a1 : Int) (r : Int) (w : World) (h : impl_EnergyFor.f a0 a1 = some r) :
    Calls Try.prog 10 #[.int .i64 a0, .int .i64 a1] w fun e w' => e = .returned (.int .i64 r) ∧ Drawn0 w w' := by
  have H : ((impl_within.f a0 0 1000000).bind fun t447 => (if t447 = true then ((impl_within.f a1 0 1000000).bind fun t448 => (if t448 = true then (some (wrap64 ((wrap64 (a0 * 2)) + (wrap64 (a1 * 3))))) else (some (-1)))) else (some (-1)))) = some r := h
  clear h
  replace H := Option.bind_eq_some_iff.mp H
  obtain ⟨t447, A30, H⟩ := H
  replace H : (if t447 = true then ((impl_within.f a1 0 1000000).bind fun t448 => (if t448 = true then (some (wrap64 ((wrap64 (a0 * 2)) + (wrap64 (a1 * 3))))) else (some (-1)))) else (some (-1))) = some r := H
  have A3 := Aside0.mk A30
  clear A30
  by_cases c4 : t447 = true
  · subst c4
    have H1 : ((impl_within.f a1 0 1000000).bind fun t448 => (if t448 = true then (some (wrap64 ((wrap64 (a0 * 2)) + (wrap64 (a1 * 3))))) else (some (-1)))) = some r := by rw [if_pos rfl] at H; exact H
    clear H
    have H := H1
    clear H1
    replace H := Option.bind_eq_some_iff.mp H
    obtain ⟨t448, A50, H⟩ := H
    replace H : (if t448 = true then (some (wrap64 ((wrap64 (a0 * 2)) + (wrap64 (a1 * 3))))) else (some (-1))) = some r := H
    have A5 := Aside0.mk A50
    clear A50
    by_cases c6 : t448 = true
    · subst c6
      have H1 : (some (wrap64 ((wrap64 (a0 * 2)) + (wrap64 (a1 * 3))))) = some r := by rw [if_pos rfl] at H; exact H
      clear H
      have H := H1
      clear H1
      obtain rfl := Option.some.inj H
      go_enter Try.func10, Try.ntmps10
      go_wp2_with (first | ((first | ((with_reducible refine gate_callee (f := 18) rfl ?_); refine goesL_ (some 6) rfl rfl Try.func18 z11_13 rfl #[.int .i64 a0, .int .i64 0, .int .i64 1000000] rfl z11_6 ?_; (with_reducible refine (impl_within.calls a0 0 1000000 true _ A3.out).mono ?_)) | (go_at_call 18; (with_reducible refine (impl_within.calls a0 0 1000000 true _ A3.out).mono ?_))); rintro e w' ⟨rfl, ⟨nd, rfl⟩⟩; (first | refine ⟨_, rfl, ?_⟩ | skip)) | (go_at_call 18; (with_reducible refine (impl_within.calls a1 0 1000000 true _ A5.out).mono ?_); rintro e w' ⟨rfl, ⟨nd, rfl⟩⟩))
      go_ret
      exact ⟨by first | rfl | (simp; done) | (simp [*]; done), by repeat (first | exact Drawn0.refl _ | apply Drawn0.step)⟩
    · replace c6 := Bool.eq_false_iff.mpr c6
      subst c6
      have H1 : (some (-1)) = some r := by rw [if_neg (show ¬ (false = true) by decide)] at H; exact H
      clear H
      have H := H1
      clear H1
      obtain rfl := Option.some.inj H
      go_enter Try.func10, Try.ntmps10
      go_wp2_with (first | ((first | ((with_reducible refine gate_callee (f := 18) rfl ?_); refine goesL_ (some 6) rfl rfl Try.func18 z11_13 rfl #[.int .i64 a0, .int .i64 0, .int .i64 1000000] rfl z11_6 ?_; (with_reducible refine (impl_within.calls a0 0 1000000 true _ A3.out).mono ?_)) | (go_at_call 18; (with_reducible refine (impl_within.calls a0 0 1000000 true _ A3.out).mono ?_))); rintro e w' ⟨rfl, ⟨nd, rfl⟩⟩; (first | refine ⟨_, rfl, ?_⟩ | skip)) | (go_at_call 18; (with_reducible refine (impl_within.calls a1 0 1000000 false _ A5.out).mono ?_); rintro e w' ⟨rfl, ⟨nd, rfl⟩⟩))
      go_ret
      exact ⟨by first | rfl | (simp; done) | (simp [*]; done), by repeat (first | exact Drawn0.refl _ | apply Drawn0.step)⟩
  · replace c4 := Bool.eq_false_iff.mpr c4
    subst c4
    have H1 : (some (-1)) = some r := by rw [if_neg (show ¬ (false = true) by decide)] at H; exact H
    clear H
    have H := H1
    clear H1
    obtain rfl := Option.some.inj H
    go_enter Try.func10, Try.ntmps10
    go_wp2_with (first | ((first | ((with_reducible refine gate_callee (f := 18) rfl ?_); refine goesL_ (some 6) rfl rfl Try.func18 z11_13 rfl #[.int .i64 a0, .int .i64 0, .int .i64 1000000] rfl z11_6 ?_; (with_reducible refine (impl_within.calls a0 0 1000000 false _ A3.out).mono ?_)) | (go_at_call 18; (with_reducible refine (impl_within.calls a0 0 1000000 false _ A3.out).mono ?_))); rintro e w' ⟨rfl, ⟨nd, rfl⟩⟩; (first | refine ⟨_, rfl, ?_⟩ | skip)))
    go_ret
    exact ⟨by first | rfl | (simp; done) | (simp [*]; done), by repeat (first | exact Drawn0.refl _ | apply Drawn0.step)⟩

/-! ### laws_FnCosts: function 3 -/
mutual
def laws_FnCosts.l0 : Nat → List Int → Int → List (S56) → Int → Int → Int → Option (Bool)
  | 0, _, _, _, _, _, _ => none
  | k + 1, x0, x4, x457000, x457001, x457002, x457003 => if x4 < 8 then ((impl_WriteCount.f k x457000 x457001 x457002 x457003 x4).bind fun t457 => ((impl_NeedsLog.f k x457000 x457001 x457002 x457003 x4).bind fun t458 => (if ((t457 == 4) != t458) = true then (some false) else (if t457 = 1 then (laws_FnCosts.l0 k x0 (wrap64 (x4 + 1)) x457000 x457001 x457002 x457003) else (if t457 = 4 then (laws_FnCosts.l0 k x0 (wrap64 (x4 + 1)) x457000 x457001 x457002 x457003) else (some false)))))) else (laws_FnCosts.l1 k x0 1)
def laws_FnCosts.l1 : Nat → List Int → Int → Option (Bool)
  | 0, _, _ => none
  | k + 1, x0, x6 => if x6 < 8 then ((impl_RecoveryCost.f (wrap64 (x6 + 1))).bind fun t459 => ((impl_RecoveryCost.f x6).bind fun t460 => (if (wrap64 (t459 - t460)) = 3 then (laws_FnCosts.l1 k x0 (wrap64 (x6 + 1))) else (some false)))) else ((spec_DrawPlaces.f k x0).bind fun t461 => ((impl_RecoveryCost.f 0).bind fun t464 => (if t464 = 0 then (if 0 < (t461.length : Int) then (if 1 < (t461.length : Int) then ((impl_EnergyFor.f (rd t461 0) (rd t461 1)).bind fun t467 => ((impl_EnergyFor.f (rd t461 0) 0).bind fun t469 => ((impl_EnergyFor.f 0 (rd t461 1)).bind fun t471 => (some (t467 == (wrap64 (t469 + t471))))))) else (none)) else (none)) else (some false))))
end
def laws_FnCosts.f (k : Nat) (l0 : List Int) : Option (Bool) := (laws_big.f l0).bind fun t449 => (if t449 = true then (some true) else ((spec_DrawTask.f k l0).bind fun bt450 => (laws_FnCosts.l0 k l0 0 bt450.1 bt450.2.1 bt450.2.2.1 bt450.2.2.2)))
theorem laws_FnCosts.mono_l : ∀ k, (∀ y0 y1 y2 y3 y4 y5, LeO (laws_FnCosts.l0 k y0 y1 y2 y3 y4 y5) (laws_FnCosts.l0 (k + 1) y0 y1 y2 y3 y4 y5)) ∧ (∀ y0 y1, LeO (laws_FnCosts.l1 k y0 y1) (laws_FnCosts.l1 (k + 1) y0 y1))
  | 0 => ⟨fun _ _ _ _ _ _ r h => by simp [laws_FnCosts.l0] at h, fun _ _ r h => by simp [laws_FnCosts.l1] at h⟩
  | k + 1 => by
    obtain ⟨ih0, ih1⟩ := laws_FnCosts.mono_l k
    refine ⟨?_, ?_⟩
    · intro y0 y1 y2 y3 y4 y5
      unfold laws_FnCosts.l0
      repeat' first
      | (with_reducible exact ih0 _ _ _ _ _ _)
      | (with_reducible exact ih1 _ _)
      | (with_reducible exact impl_NeedsLog.mono _ _ _ _ _ _)
      | (with_reducible exact impl_WriteCount.mono _ _ _ _ _ _)
      | (with_reducible exact spec_DrawPlaces.mono _ _)
      | (with_reducible exact spec_DrawTask.mono _ _)
      | (with_reducible exact LeO.refl _)
      | (with_reducible exact LeO.none _)
      | (with_reducible refine LeO.ite ?_ ?_)
      | (with_reducible refine LeO.bind ?_ (fun _ => ?_))
      | exact ih0 _ _ _ _ _ _
      | exact ih1 _ _
      | exact impl_NeedsLog.mono _ _ _ _ _ _
      | exact impl_WriteCount.mono _ _ _ _ _ _
      | exact spec_DrawPlaces.mono _ _
      | exact spec_DrawTask.mono _ _
      | exact LeO.none _
      | refine LeO.ite ?_ ?_
      | refine LeO.bind ?_ (fun _ => ?_)
    · intro y0 y1
      unfold laws_FnCosts.l1
      repeat' first
      | (with_reducible exact ih0 _ _ _ _ _ _)
      | (with_reducible exact ih1 _ _)
      | (with_reducible exact impl_NeedsLog.mono _ _ _ _ _ _)
      | (with_reducible exact impl_WriteCount.mono _ _ _ _ _ _)
      | (with_reducible exact spec_DrawPlaces.mono _ _)
      | (with_reducible exact spec_DrawTask.mono _ _)
      | (with_reducible exact LeO.refl _)
      | (with_reducible exact LeO.none _)
      | (with_reducible refine LeO.ite ?_ ?_)
      | (with_reducible refine LeO.bind ?_ (fun _ => ?_))
      | exact ih0 _ _ _ _ _ _
      | exact ih1 _ _
      | exact impl_NeedsLog.mono _ _ _ _ _ _
      | exact impl_WriteCount.mono _ _ _ _ _ _
      | exact spec_DrawPlaces.mono _ _
      | exact spec_DrawTask.mono _ _
      | exact LeO.none _
      | refine LeO.ite ?_ ?_
      | refine LeO.bind ?_ (fun _ => ?_)
theorem laws_FnCosts.mono : ∀ a0 k, LeO (laws_FnCosts.f k a0) (laws_FnCosts.f (k + 1) a0) := by
  intro a0 k
  obtain ⟨ih0, ih1⟩ := laws_FnCosts.mono_l k
  unfold laws_FnCosts.f
  repeat' first
      | (with_reducible exact ih0 _ _ _ _ _ _)
      | (with_reducible exact ih1 _ _)
      | (with_reducible exact impl_NeedsLog.mono _ _ _ _ _ _)
      | (with_reducible exact impl_WriteCount.mono _ _ _ _ _ _)
      | (with_reducible exact spec_DrawPlaces.mono _ _)
      | (with_reducible exact spec_DrawTask.mono _ _)
      | (with_reducible exact LeO.refl _)
      | (with_reducible exact LeO.none _)
      | (with_reducible refine LeO.ite ?_ ?_)
      | (with_reducible refine LeO.bind ?_ (fun _ => ?_))
      | exact ih0 _ _ _ _ _ _
      | exact ih1 _ _
      | exact impl_NeedsLog.mono _ _ _ _ _ _
      | exact impl_WriteCount.mono _ _ _ _ _ _
      | exact spec_DrawPlaces.mono _ _
      | exact spec_DrawTask.mono _ _
      | exact LeO.none _
      | refine LeO.ite ?_ ?_
      | refine LeO.bind ?_ (fun _ => ?_)
set_option maxHeartbeats 8000000 in
set_option maxRecDepth 100000 in
theorem laws_FnCosts.calls (k : Nat) (A0 : Option Addr) (c0 : Nat) (l0 : List Int) (r : Bool) (w : World) (hr0 : Kd.C (Kd.int .u8) w A0 l0.length l0) (hc0 : l0.length ≤ c0) (h : laws_FnCosts.f k l0 = some r) :
    Calls Try.prog 3 #[.slice A0 l0.length c0] w fun e w' => e = .returned (.bool r) ∧ Below w.heap.size w w' := by
  have hu28 := Try.underlying28
  have HR0 := Aside0.mk hr0
  have HC0 := Aside0.mk hc0
  clear hr0 hc0
  have HB := Aside0.mk (Below.refl w.heap.size w)
  have H : ((laws_big.f l0).bind fun t449 => (if t449 = true then (some true) else ((spec_DrawTask.f k l0).bind fun bt450 => (laws_FnCosts.l0 k l0 0 bt450.1 bt450.2.1 bt450.2.2.1 bt450.2.2.2)))) = some r := h
  clear h
  replace H := Option.bind_eq_some_iff.mp H
  obtain ⟨t449, A20, H⟩ := H
  replace H : (if t449 = true then (some true) else ((spec_DrawTask.f k l0).bind fun bt450 => (laws_FnCosts.l0 k l0 0 bt450.1 bt450.2.1 bt450.2.2.1 bt450.2.2.2))) = some r := H
  have A2 := Aside0.mk A20
  clear A20
  by_cases c3 : t449 = true
  · subst c3
    have H1 : (some true) = some r := by rw [if_pos rfl] at H; exact H
    clear H
    have H := H1
    clear H1
    obtain rfl := Option.some.inj H
    go_enter Try.func3, Try.ntmps3
    go_wp2_with (first | (go_at_call 4; (with_reducible refine (laws_big.calls _ _ l0 true _ ?side1 ?side2 A2.out).mono ?_); (case side1 => exact z11_7); (case side2 => exact HC0.out); rintro e w' ⟨rfl, ⟨nd, rfl⟩⟩; (try first | exact ⟨rfl, _, World.drewN_drewN _ _ _⟩ | exact ⟨rfl, _, Eq.trans (World.drewN_drewN _ _ _) (congrArg (World.drewN _) (Nat.add_assoc _ _ _))⟩)))
    repeat (go_quiet (first | (go_at_call 4; (with_reducible refine (laws_big.calls _ _ l0 true _ ?side1 ?side2 A2.out).mono ?_); (case side1 => exact z11_7); (case side2 => exact HC0.out); rintro e w' ⟨rfl, ⟨nd, rfl⟩⟩; (try first | exact ⟨rfl, _, World.drewN_drewN _ _ _⟩ | exact ⟨rfl, _, Eq.trans (World.drewN_drewN _ _ _) (congrArg (World.drewN _) (Nat.add_assoc _ _ _))⟩))); try go_wp2_with (first | (go_at_call 4; (with_reducible refine (laws_big.calls _ _ l0 true _ ?side1 ?side2 A2.out).mono ?_); (case side1 => exact z11_7); (case side2 => exact HC0.out); rintro e w' ⟨rfl, ⟨nd, rfl⟩⟩; (try first | exact ⟨rfl, _, World.drewN_drewN _ _ _⟩ | exact ⟨rfl, _, Eq.trans (World.drewN_drewN _ _ _) (congrArg (World.drewN _) (Nat.add_assoc _ _ _))⟩))))
    go_ret
    exact ⟨by first | rfl | (simp [errW_none, errW_some] <;> rfl) | (simp [*, errW_none, errW_some] <;> rfl) | (simp [*, errW_none, errW_some, i64_w]; done), by repeat (first | (with_reducible first | exact HB.out | apply below_alloc | apply pw_below_drewN | apply below_drew1) | exact HB.out)⟩
  · replace c3 := Bool.eq_false_iff.mpr c3
    subst c3
    have H1 : ((spec_DrawTask.f k l0).bind fun bt450 => (laws_FnCosts.l0 k l0 0 bt450.1 bt450.2.1 bt450.2.2.1 bt450.2.2.2)) = some r := by rw [if_neg (show ¬ (false = true) by decide)] at H; exact H
    clear H
    have H := H1
    clear H1
    replace H := Option.bind_eq_some_iff.mp H
    obtain ⟨⟨t450, t453, t454, t455⟩, A40, H⟩ := H
    replace H : (laws_FnCosts.l0 k l0 0 t450 t453 t454 t455) = some r := H
    have A4 := Aside0.mk A40
    clear A40
    have H' := Aside0.mk H
    clear H
    go_enter Try.func3, Try.ntmps3
    go_wp2_with (first | (go_at_call 4; (with_reducible refine (laws_big.calls _ _ l0 false _ ?side1 ?side2 A2.out).mono ?_); (case side1 => exact z11_7); (case side2 => exact HC0.out); rintro e w' ⟨rfl, ⟨nd, rfl⟩⟩; (try first | exact ⟨rfl, _, World.drewN_drewN _ _ _⟩ | exact ⟨rfl, _, Eq.trans (World.drewN_drewN _ _ _) (congrArg (World.drewN _) (Nat.add_assoc _ _ _))⟩)) | (go_at_call 5; (with_reducible refine (spec_DrawTask.calls k _ _ l0 t450 t453 t454 t455 _ ?side1 ?side2 A4.out).mono ?_); (case side1 => exact z11_7); (case side2 => exact HC0.out); rintro e w5 ⟨v451, rfl, ho0, hb⟩; have n0_ := Aside0.mk (Kd.R_lower ho0 (below_size z11_4)); have n1_ := Aside0.mk (below_step z11_4 hb); clear HB; have HO452 := n0_; have HB := n1_; clear n0_ n1_; (try clear hb); (try clear hb2); (try clear hk); (try clear hi); (try clear ho0)) | ((with_reducible refine gate_dst (N := 3) rfl ?_); refine box_event ?hg (N := 3) ?hd (cs := #[.slice none 0 0, .int .i64 0, .int .i64 0, .int .i64 0]) (t := 28) ?hr ?_; (case hd => rfl); (case hg => rfl); (case hr => exact z11_16); intro gb456 hg w6 hbox hb; have n0_ := Aside0.mk (Kd.R_below (by (with_reducible repeat (first | apply Kd.R_alloc | apply Kd.R_drewN | apply Kd.R_drew)); exact HO452.out) hb); have n1_ := Aside0.mk (below_step z11_4 hb); have n2_ := Aside0.mk (hbox); have n3_ := Aside0.mk ((z11_20 : w.heap.size ≤ gb456)); have n4_ := Aside0.mk ((z11_20 : w.heap.size ≤ gb456)); clear HO452; clear HB; have HO452 := n0_; have HB := n1_; have BK456 := n2_; have GW456 := n3_; have GE456 := n4_; clear n0_ n1_ n2_ n3_ n4_; clear hb hbox hg; obtain ⟨Ao7, co7, eo7⟩ := Kd.R_slice HO452.out; subst eo7; have hcz8_0 : w6.cell? ⟨gb456, 0, none⟩ = some (.slice none 0 0) := (blk_cell BK456.out 0).trans rfl; have hcz8_1 : w6.cell? ⟨gb456, 1, none⟩ = some (.int .i64 0) := (blk_cell BK456.out 1).trans rfl; have hcz8_2 : w6.cell? ⟨gb456, 2, none⟩ = some (.int .i64 0) := (blk_cell BK456.out 2).trans rfl; have hcz8_3 : w6.cell? ⟨gb456, 3, none⟩ = some (.int .i64 0) := (blk_cell BK456.out 3).trans rfl; have hfz8_0 := blk_frozen BK456.out 0; have hfz8_1 := blk_frozen BK456.out 1; have hfz8_2 := blk_frozen BK456.out 2; have hfz8_3 := blk_frozen BK456.out 3) | ((with_reducible refine gate_store (t := 28) (p := 3) rfl ?_); (try (rw [drewN_self w6]; generalize hq_ : World.drewN w6 _ = w6; have n0_ := Aside0.mk (Kd.R_at hq_ HO452.out); have n1_ := Aside0.mk (blk_at hq_ BK456.out); have n2_ := Aside0.mk (below_at hq_ HB.out); clear hq_ HO452 BK456 HB; have HO452 := n0_; have BK456 := n1_; have HB := n2_; clear n0_ n1_ n2_)); refine store_event (t := 28) (p := 3) (v := ?vo_w9) (w1 := ((((w6.setCell ⟨gb456, 0, none⟩ (.slice Ao7 t450.length co7)).setCell ⟨gb456, 1, none⟩ (.int .i64 t453)).setCell ⟨gb456, 2, none⟩ (.int .i64 t454)).setCell ⟨gb456, 3, none⟩ (.int .i64 t455))) ?hg ?ho ?hn ?hr ?_; (case ho => rfl); (case hg => rfl); (case hn => rfl); (case hr => exact z11_16); intro w9 hw; have n0_ : Aside0 (Kd.R k56 56 w9 w.heap.size (fun _ => True) (.slice Ao7 t450.length co7) t450) := ⟨z11_8⟩; have n1_ : Aside0 (w9.heap[gb456]? = some (.cells #[.slice Ao7 t450.length co7, .int .i64 t453, .int .i64 t454, .int .i64 t455] 28 (0, 0))) := ⟨z11_5⟩; have n2_ : Aside0 (Below w.heap.size w w9) := ⟨(by rw [hw]; exact z11_0)⟩; clear hw; clear HO452; clear BK456; clear HB; have HO452 := n0_; have BK456 := n1_; have HB := n2_; clear n0_ n1_ n2_))
    repeat (go_quiet (first | (go_at_call 4; (with_reducible refine (laws_big.calls _ _ l0 false _ ?side1 ?side2 A2.out).mono ?_); (case side1 => exact z11_7); (case side2 => exact HC0.out); rintro e w' ⟨rfl, ⟨nd, rfl⟩⟩; (try first | exact ⟨rfl, _, World.drewN_drewN _ _ _⟩ | exact ⟨rfl, _, Eq.trans (World.drewN_drewN _ _ _) (congrArg (World.drewN _) (Nat.add_assoc _ _ _))⟩)) | (go_at_call 5; (with_reducible refine (spec_DrawTask.calls k _ _ l0 t450 t453 t454 t455 _ ?side1 ?side2 A4.out).mono ?_); (case side1 => exact z11_7); (case side2 => exact HC0.out); rintro e w5 ⟨v451, rfl, ho0, hb⟩; have n0_ := Aside0.mk (Kd.R_lower ho0 (below_size z11_4)); have n1_ := Aside0.mk (below_step z11_4 hb); clear HB; have HO452 := n0_; have HB := n1_; clear n0_ n1_; (try clear hb); (try clear hb2); (try clear hk); (try clear hi); (try clear ho0)) | ((with_reducible refine gate_dst (N := 3) rfl ?_); refine box_event ?hg (N := 3) ?hd (cs := #[.slice none 0 0, .int .i64 0, .int .i64 0, .int .i64 0]) (t := 28) ?hr ?_; (case hd => rfl); (case hg => rfl); (case hr => exact z11_16); intro gb456 hg w6 hbox hb; have n0_ := Aside0.mk (Kd.R_below (by (with_reducible repeat (first | apply Kd.R_alloc | apply Kd.R_drewN | apply Kd.R_drew)); exact HO452.out) hb); have n1_ := Aside0.mk (below_step z11_4 hb); have n2_ := Aside0.mk (hbox); have n3_ := Aside0.mk ((z11_20 : w.heap.size ≤ gb456)); have n4_ := Aside0.mk ((z11_20 : w.heap.size ≤ gb456)); clear HO452; clear HB; have HO452 := n0_; have HB := n1_; have BK456 := n2_; have GW456 := n3_; have GE456 := n4_; clear n0_ n1_ n2_ n3_ n4_; clear hb hbox hg; obtain ⟨Ao7, co7, eo7⟩ := Kd.R_slice HO452.out; subst eo7; have hcz8_0 : w6.cell? ⟨gb456, 0, none⟩ = some (.slice none 0 0) := (blk_cell BK456.out 0).trans rfl; have hcz8_1 : w6.cell? ⟨gb456, 1, none⟩ = some (.int .i64 0) := (blk_cell BK456.out 1).trans rfl; have hcz8_2 : w6.cell? ⟨gb456, 2, none⟩ = some (.int .i64 0) := (blk_cell BK456.out 2).trans rfl; have hcz8_3 : w6.cell? ⟨gb456, 3, none⟩ = some (.int .i64 0) := (blk_cell BK456.out 3).trans rfl; have hfz8_0 := blk_frozen BK456.out 0; have hfz8_1 := blk_frozen BK456.out 1; have hfz8_2 := blk_frozen BK456.out 2; have hfz8_3 := blk_frozen BK456.out 3) | ((with_reducible refine gate_store (t := 28) (p := 3) rfl ?_); (try (rw [drewN_self w6]; generalize hq_ : World.drewN w6 _ = w6; have n0_ := Aside0.mk (Kd.R_at hq_ HO452.out); have n1_ := Aside0.mk (blk_at hq_ BK456.out); have n2_ := Aside0.mk (below_at hq_ HB.out); clear hq_ HO452 BK456 HB; have HO452 := n0_; have BK456 := n1_; have HB := n2_; clear n0_ n1_ n2_)); refine store_event (t := 28) (p := 3) (v := ?vo_w9) (w1 := ((((w6.setCell ⟨gb456, 0, none⟩ (.slice Ao7 t450.length co7)).setCell ⟨gb456, 1, none⟩ (.int .i64 t453)).setCell ⟨gb456, 2, none⟩ (.int .i64 t454)).setCell ⟨gb456, 3, none⟩ (.int .i64 t455))) ?hg ?ho ?hn ?hr ?_; (case ho => rfl); (case hg => rfl); (case hn => rfl); (case hr => exact z11_16); intro w9 hw; have n0_ : Aside0 (Kd.R k56 56 w9 w.heap.size (fun _ => True) (.slice Ao7 t450.length co7) t450) := ⟨z11_8⟩; have n1_ : Aside0 (w9.heap[gb456]? = some (.cells #[.slice Ao7 t450.length co7, .int .i64 t453, .int .i64 t454, .int .i64 t455] 28 (0, 0))) := ⟨z11_5⟩; have n2_ : Aside0 (Below w.heap.size w w9) := ⟨(by rw [hw]; exact z11_0)⟩; clear hw; clear HO452; clear BK456; clear HB; have HO452 := n0_; have BK456 := n1_; have HB := n2_; clear n0_ n1_ n2_)); try go_wp2_with (first | (go_at_call 4; (with_reducible refine (laws_big.calls _ _ l0 false _ ?side1 ?side2 A2.out).mono ?_); (case side1 => exact z11_7); (case side2 => exact HC0.out); rintro e w' ⟨rfl, ⟨nd, rfl⟩⟩; (try first | exact ⟨rfl, _, World.drewN_drewN _ _ _⟩ | exact ⟨rfl, _, Eq.trans (World.drewN_drewN _ _ _) (congrArg (World.drewN _) (Nat.add_assoc _ _ _))⟩)) | (go_at_call 5; (with_reducible refine (spec_DrawTask.calls k _ _ l0 t450 t453 t454 t455 _ ?side1 ?side2 A4.out).mono ?_); (case side1 => exact z11_7); (case side2 => exact HC0.out); rintro e w5 ⟨v451, rfl, ho0, hb⟩; have n0_ := Aside0.mk (Kd.R_lower ho0 (below_size z11_4)); have n1_ := Aside0.mk (below_step z11_4 hb); clear HB; have HO452 := n0_; have HB := n1_; clear n0_ n1_; (try clear hb); (try clear hb2); (try clear hk); (try clear hi); (try clear ho0)) | ((with_reducible refine gate_dst (N := 3) rfl ?_); refine box_event ?hg (N := 3) ?hd (cs := #[.slice none 0 0, .int .i64 0, .int .i64 0, .int .i64 0]) (t := 28) ?hr ?_; (case hd => rfl); (case hg => rfl); (case hr => exact z11_16); intro gb456 hg w6 hbox hb; have n0_ := Aside0.mk (Kd.R_below (by (with_reducible repeat (first | apply Kd.R_alloc | apply Kd.R_drewN | apply Kd.R_drew)); exact HO452.out) hb); have n1_ := Aside0.mk (below_step z11_4 hb); have n2_ := Aside0.mk (hbox); have n3_ := Aside0.mk ((z11_20 : w.heap.size ≤ gb456)); have n4_ := Aside0.mk ((z11_20 : w.heap.size ≤ gb456)); clear HO452; clear HB; have HO452 := n0_; have HB := n1_; have BK456 := n2_; have GW456 := n3_; have GE456 := n4_; clear n0_ n1_ n2_ n3_ n4_; clear hb hbox hg; obtain ⟨Ao7, co7, eo7⟩ := Kd.R_slice HO452.out; subst eo7; have hcz8_0 : w6.cell? ⟨gb456, 0, none⟩ = some (.slice none 0 0) := (blk_cell BK456.out 0).trans rfl; have hcz8_1 : w6.cell? ⟨gb456, 1, none⟩ = some (.int .i64 0) := (blk_cell BK456.out 1).trans rfl; have hcz8_2 : w6.cell? ⟨gb456, 2, none⟩ = some (.int .i64 0) := (blk_cell BK456.out 2).trans rfl; have hcz8_3 : w6.cell? ⟨gb456, 3, none⟩ = some (.int .i64 0) := (blk_cell BK456.out 3).trans rfl; have hfz8_0 := blk_frozen BK456.out 0; have hfz8_1 := blk_frozen BK456.out 1; have hfz8_2 := blk_frozen BK456.out 2; have hfz8_3 := blk_frozen BK456.out 3) | ((with_reducible refine gate_store (t := 28) (p := 3) rfl ?_); (try (rw [drewN_self w6]; generalize hq_ : World.drewN w6 _ = w6; have n0_ := Aside0.mk (Kd.R_at hq_ HO452.out); have n1_ := Aside0.mk (blk_at hq_ BK456.out); have n2_ := Aside0.mk (below_at hq_ HB.out); clear hq_ HO452 BK456 HB; have HO452 := n0_; have BK456 := n1_; have HB := n2_; clear n0_ n1_ n2_)); refine store_event (t := 28) (p := 3) (v := ?vo_w9) (w1 := ((((w6.setCell ⟨gb456, 0, none⟩ (.slice Ao7 t450.length co7)).setCell ⟨gb456, 1, none⟩ (.int .i64 t453)).setCell ⟨gb456, 2, none⟩ (.int .i64 t454)).setCell ⟨gb456, 3, none⟩ (.int .i64 t455))) ?hg ?ho ?hn ?hr ?_; (case ho => rfl); (case hg => rfl); (case hn => rfl); (case hr => exact z11_16); intro w9 hw; have n0_ : Aside0 (Kd.R k56 56 w9 w.heap.size (fun _ => True) (.slice Ao7 t450.length co7) t450) := ⟨z11_8⟩; have n1_ : Aside0 (w9.heap[gb456]? = some (.cells #[.slice Ao7 t450.length co7, .int .i64 t453, .int .i64 t454, .int .i64 t455] 28 (0, 0))) := ⟨z11_5⟩; have n2_ : Aside0 (Below w.heap.size w w9) := ⟨(by rw [hw]; exact z11_0)⟩; clear hw; clear HO452; clear BK456; clear HB; have HO452 := n0_; have BK456 := n1_; have HB := n2_; clear n0_ n1_ n2_)))
    go_loopg [4] k (fun kq v4 w' => ∃ (x4_1 : Int), v4 = .int .i64 x4_1 ∧ Aside0 (laws_FnCosts.l0 kq l0 x4_1 t450 t453 t454 t455 = some r) ∧ Aside0 (kq ≤ k) ∧ Aside0 (Kd.R k56 56 w' w.heap.size (fun _ => True) (.slice Ao7 t450.length co7) t450) ∧ Aside0 (w'.heap[gb456]? = some (.cells #[(.slice Ao7 t450.length co7), .int .i64 t453, .int .i64 t454, .int .i64 t455] 28 (0, 0))) ∧ Aside0 (Below w.heap.size w w'))
    case atStart => exact ⟨(0), z11_19, H', ⟨Nat.le_refl _⟩, ⟨by (with_reducible repeat (first | apply Kd.R_alloc | apply Kd.R_drewN | apply Kd.R_drew)); exact HO452.out⟩, ⟨by (with_reducible repeat (first | refine blk_drewN ?_ _ | refine blk_drew ?_ | refine blk_alloc ?_ _)); exact BK456.out⟩, ⟨by repeat (first | (with_reducible first | exact HB.out | apply below_alloc | apply pw_below_drewN | apply below_drew1 | refine below_set ?_ GE456.out) | exact HB.out)⟩⟩
    case round =>
      clear H'
      (try clear c3); (try clear hcz8_0); (try clear hcz8_1); (try clear hcz8_2); (try clear hcz8_3); (try clear hfz8_0); (try clear hfz8_1); (try clear hfz8_2); (try clear hfz8_3)
      obtain ⟨x4_1, rfl, HA, HK1, HO_457000, BK456, HB⟩ := hrel
      cases gk with
      | zero => exact absurd HA.out (by simp [laws_FnCosts.l0])
      | succ k1 =>
        have H := HA.out
        clear HA
        simp only [laws_FnCosts.l0] at H
        by_cases c10 : x4_1 < 8
        · rw [if_pos c10] at H
          have c10b0 : decide (x4_1 < 8) = true := decide_eq_true c10
          clear c10
          replace H := Option.bind_eq_some_iff.mp H
          obtain ⟨t457, A110, H⟩ := H
          replace H : ((impl_NeedsLog.f k1 t450 t453 t454 t455 x4_1).bind fun t458 => (if ((t457 == 4) != t458) = true then (some false) else (if t457 = 1 then (laws_FnCosts.l0 k1 l0 (wrap64 (x4_1 + 1)) t450 t453 t454 t455) else (if t457 = 4 then (laws_FnCosts.l0 k1 l0 (wrap64 (x4_1 + 1)) t450 t453 t454 t455) else (some false))))) = some r := H
          have A11 := Aside0.mk A110
          clear A110
          replace H := Option.bind_eq_some_iff.mp H
          obtain ⟨t458, A120, H⟩ := H
          replace H : (if ((t457 == 4) != t458) = true then (some false) else (if t457 = 1 then (laws_FnCosts.l0 k1 l0 (wrap64 (x4_1 + 1)) t450 t453 t454 t455) else (if t457 = 4 then (laws_FnCosts.l0 k1 l0 (wrap64 (x4_1 + 1)) t450 t453 t454 t455) else (some false)))) = some r := H
          have A12 := Aside0.mk A120
          clear A120
          by_cases c13 : ((t457 == 4) != t458) = true
          · rw [if_pos c13] at H
            have c13b0 : ((t457 == 4) != t458) = true := c13
            (try (have c13b1 : decide ((t457 == 4) = t458) = false := by simpa using c13))
            (try (have c13b2 : ((t457 == 4) == t458) = false := by simpa using c13))
            (try (have c13b3 : ¬ ((t457 == 4) = t458) := by simpa using c13))
            clear c13
            obtain rfl := Option.some.inj H
            have hcz14_0 : wr.cell? ⟨gb456, 0, none⟩ = some (.slice Ao7 t450.length co7) := (blk_cell BK456.out 0).trans rfl
            have hcz14_1 : wr.cell? ⟨gb456, 1, none⟩ = some (.int .i64 t453) := (blk_cell BK456.out 1).trans rfl
            have hcz14_2 : wr.cell? ⟨gb456, 2, none⟩ = some (.int .i64 t454) := (blk_cell BK456.out 2).trans rfl
            have hcz14_3 : wr.cell? ⟨gb456, 3, none⟩ = some (.int .i64 t455) := (blk_cell BK456.out 3).trans rfl
            have hfz14_0 := blk_frozen BK456.out 0
            have hfz14_1 := blk_frozen BK456.out 1
            have hfz14_2 := blk_frozen BK456.out 2
            have hfz14_3 := blk_frozen BK456.out 3
            go_wp2_with (first | (go_at_call 6; (with_reducible refine (impl_WriteCount.calls k1 _ _ t450 t453 t454 t455 x4_1 t457 _ ?side1 ?side2 A11.out).mono ?_); (case side1 => exact z11_1); (case side2 => exact z11_10); rintro e w15 ⟨rfl, hb⟩; have n0_ := Aside0.mk (Kd.R_below z11_3 hb); have n1_ := Aside0.mk (blk_below (g := gb456) (o := .cells #[.slice Ao7 t450.length co7, .int .i64 t453, .int .i64 t454, .int .i64 t455] 28 (0, 0)) z11_2 hb); have n2_ := Aside0.mk (below_step z11_0 hb); clear HO_457000; clear BK456; clear HB; have HO_457000 := n0_; have BK456 := n1_; have HB := n2_; clear n0_ n1_ n2_; (try clear hb); (try clear hb2); (try clear hk); (try clear hi); have hcz16_0 : w15.cell? ⟨gb456, 0, none⟩ = some (.slice Ao7 t450.length co7) := (blk_cell BK456.out 0).trans rfl; have hcz16_1 : w15.cell? ⟨gb456, 1, none⟩ = some (.int .i64 t453) := (blk_cell BK456.out 1).trans rfl; have hcz16_2 : w15.cell? ⟨gb456, 2, none⟩ = some (.int .i64 t454) := (blk_cell BK456.out 2).trans rfl; have hcz16_3 : w15.cell? ⟨gb456, 3, none⟩ = some (.int .i64 t455) := (blk_cell BK456.out 3).trans rfl; have hfz16_0 := blk_frozen BK456.out 0; have hfz16_1 := blk_frozen BK456.out 1; have hfz16_2 := blk_frozen BK456.out 2; have hfz16_3 := blk_frozen BK456.out 3) | (go_at_call 7; (with_reducible refine (impl_NeedsLog.calls k1 _ _ t450 t453 t454 t455 x4_1 t458 _ ?side1 ?side2 A12.out).mono ?_); (case side1 => exact z11_1); (case side2 => exact z11_10); rintro e w17 ⟨rfl, hb⟩; have n0_ := Aside0.mk (Kd.R_below z11_3 hb); have n1_ := Aside0.mk (blk_below (g := gb456) (o := .cells #[.slice Ao7 t450.length co7, .int .i64 t453, .int .i64 t454, .int .i64 t455] 28 (0, 0)) z11_2 hb); have n2_ := Aside0.mk (below_step z11_0 hb); clear HO_457000; clear BK456; clear HB; have HO_457000 := n0_; have BK456 := n1_; have HB := n2_; clear n0_ n1_ n2_; (try clear hb); (try clear hb2); (try clear hk); (try clear hi)))
            repeat (go_quiet (first | (go_at_call 6; (with_reducible refine (impl_WriteCount.calls k1 _ _ t450 t453 t454 t455 x4_1 t457 _ ?side1 ?side2 A11.out).mono ?_); (case side1 => exact z11_1); (case side2 => exact z11_10); rintro e w15 ⟨rfl, hb⟩; have n0_ := Aside0.mk (Kd.R_below z11_3 hb); have n1_ := Aside0.mk (blk_below (g := gb456) (o := .cells #[.slice Ao7 t450.length co7, .int .i64 t453, .int .i64 t454, .int .i64 t455] 28 (0, 0)) z11_2 hb); have n2_ := Aside0.mk (below_step z11_0 hb); clear HO_457000; clear BK456; clear HB; have HO_457000 := n0_; have BK456 := n1_; have HB := n2_; clear n0_ n1_ n2_; (try clear hb); (try clear hb2); (try clear hk); (try clear hi); have hcz16_0 : w15.cell? ⟨gb456, 0, none⟩ = some (.slice Ao7 t450.length co7) := (blk_cell BK456.out 0).trans rfl; have hcz16_1 : w15.cell? ⟨gb456, 1, none⟩ = some (.int .i64 t453) := (blk_cell BK456.out 1).trans rfl; have hcz16_2 : w15.cell? ⟨gb456, 2, none⟩ = some (.int .i64 t454) := (blk_cell BK456.out 2).trans rfl; have hcz16_3 : w15.cell? ⟨gb456, 3, none⟩ = some (.int .i64 t455) := (blk_cell BK456.out 3).trans rfl; have hfz16_0 := blk_frozen BK456.out 0; have hfz16_1 := blk_frozen BK456.out 1; have hfz16_2 := blk_frozen BK456.out 2; have hfz16_3 := blk_frozen BK456.out 3) | (go_at_call 7; (with_reducible refine (impl_NeedsLog.calls k1 _ _ t450 t453 t454 t455 x4_1 t458 _ ?side1 ?side2 A12.out).mono ?_); (case side1 => exact z11_1); (case side2 => exact z11_10); rintro e w17 ⟨rfl, hb⟩; have n0_ := Aside0.mk (Kd.R_below z11_3 hb); have n1_ := Aside0.mk (blk_below (g := gb456) (o := .cells #[.slice Ao7 t450.length co7, .int .i64 t453, .int .i64 t454, .int .i64 t455] 28 (0, 0)) z11_2 hb); have n2_ := Aside0.mk (below_step z11_0 hb); clear HO_457000; clear BK456; clear HB; have HO_457000 := n0_; have BK456 := n1_; have HB := n2_; clear n0_ n1_ n2_; (try clear hb); (try clear hb2); (try clear hk); (try clear hi))); try go_wp2_with (first | (go_at_call 6; (with_reducible refine (impl_WriteCount.calls k1 _ _ t450 t453 t454 t455 x4_1 t457 _ ?side1 ?side2 A11.out).mono ?_); (case side1 => exact z11_1); (case side2 => exact z11_10); rintro e w15 ⟨rfl, hb⟩; have n0_ := Aside0.mk (Kd.R_below z11_3 hb); have n1_ := Aside0.mk (blk_below (g := gb456) (o := .cells #[.slice Ao7 t450.length co7, .int .i64 t453, .int .i64 t454, .int .i64 t455] 28 (0, 0)) z11_2 hb); have n2_ := Aside0.mk (below_step z11_0 hb); clear HO_457000; clear BK456; clear HB; have HO_457000 := n0_; have BK456 := n1_; have HB := n2_; clear n0_ n1_ n2_; (try clear hb); (try clear hb2); (try clear hk); (try clear hi); have hcz16_0 : w15.cell? ⟨gb456, 0, none⟩ = some (.slice Ao7 t450.length co7) := (blk_cell BK456.out 0).trans rfl; have hcz16_1 : w15.cell? ⟨gb456, 1, none⟩ = some (.int .i64 t453) := (blk_cell BK456.out 1).trans rfl; have hcz16_2 : w15.cell? ⟨gb456, 2, none⟩ = some (.int .i64 t454) := (blk_cell BK456.out 2).trans rfl; have hcz16_3 : w15.cell? ⟨gb456, 3, none⟩ = some (.int .i64 t455) := (blk_cell BK456.out 3).trans rfl; have hfz16_0 := blk_frozen BK456.out 0; have hfz16_1 := blk_frozen BK456.out 1; have hfz16_2 := blk_frozen BK456.out 2; have hfz16_3 := blk_frozen BK456.out 3) | (go_at_call 7; (with_reducible refine (impl_NeedsLog.calls k1 _ _ t450 t453 t454 t455 x4_1 t458 _ ?side1 ?side2 A12.out).mono ?_); (case side1 => exact z11_1); (case side2 => exact z11_10); rintro e w17 ⟨rfl, hb⟩; have n0_ := Aside0.mk (Kd.R_below z11_3 hb); have n1_ := Aside0.mk (blk_below (g := gb456) (o := .cells #[.slice Ao7 t450.length co7, .int .i64 t453, .int .i64 t454, .int .i64 t455] 28 (0, 0)) z11_2 hb); have n2_ := Aside0.mk (below_step z11_0 hb); clear HO_457000; clear BK456; clear HB; have HO_457000 := n0_; have BK456 := n1_; have HB := n2_; clear n0_ n1_ n2_; (try clear hb); (try clear hb2); (try clear hk); (try clear hi))))
            go_ret
            exact ⟨by first | rfl | (simp [errW_none, errW_some] <;> rfl) | (simp [*, errW_none, errW_some] <;> rfl) | (simp [*, errW_none, errW_some, i64_w]; done), by repeat (first | (with_reducible first | exact HB.out | apply below_alloc | apply pw_below_drewN | apply below_drew1 | refine below_set ?_ GE456.out) | exact HB.out)⟩
          · rw [if_neg c13] at H
            have c13b0 : ((t457 == 4) != t458) = false := by simpa using c13
            (try (have c13b1 : decide ((t457 == 4) = t458) = true := by simpa using c13))
            (try (have c13b2 : ((t457 == 4) == t458) = true := by simpa using c13))
            clear c13
            by_cases c18 : t457 = 1
            · rw [if_pos c18] at H
              have c18b0 : (t457 == 1) = true := beq_iff_eq.mpr c18
              have c18b1 : (t457 != 1) = false := bne_eq_false_iff_eq.mpr c18
              clear c18
              have H' := Aside0.mk H
              clear H
              have hcz19_0 : wr.cell? ⟨gb456, 0, none⟩ = some (.slice Ao7 t450.length co7) := (blk_cell BK456.out 0).trans rfl
              have hcz19_1 : wr.cell? ⟨gb456, 1, none⟩ = some (.int .i64 t453) := (blk_cell BK456.out 1).trans rfl
              have hcz19_2 : wr.cell? ⟨gb456, 2, none⟩ = some (.int .i64 t454) := (blk_cell BK456.out 2).trans rfl
              have hcz19_3 : wr.cell? ⟨gb456, 3, none⟩ = some (.int .i64 t455) := (blk_cell BK456.out 3).trans rfl
              have hfz19_0 := blk_frozen BK456.out 0
              have hfz19_1 := blk_frozen BK456.out 1
              have hfz19_2 := blk_frozen BK456.out 2
              have hfz19_3 := blk_frozen BK456.out 3
              go_wp2_with (first | (go_at_call 6; (with_reducible refine (impl_WriteCount.calls k1 _ _ t450 t453 t454 t455 x4_1 t457 _ ?side1 ?side2 A11.out).mono ?_); (case side1 => exact z11_1); (case side2 => exact z11_10); rintro e w20 ⟨rfl, hb⟩; have n0_ := Aside0.mk (Kd.R_below z11_3 hb); have n1_ := Aside0.mk (blk_below (g := gb456) (o := .cells #[.slice Ao7 t450.length co7, .int .i64 t453, .int .i64 t454, .int .i64 t455] 28 (0, 0)) z11_2 hb); have n2_ := Aside0.mk (below_step z11_0 hb); clear HO_457000; clear BK456; clear HB; have HO_457000 := n0_; have BK456 := n1_; have HB := n2_; clear n0_ n1_ n2_; (try clear hb); (try clear hb2); (try clear hk); (try clear hi); have hcz21_0 : w20.cell? ⟨gb456, 0, none⟩ = some (.slice Ao7 t450.length co7) := (blk_cell BK456.out 0).trans rfl; have hcz21_1 : w20.cell? ⟨gb456, 1, none⟩ = some (.int .i64 t453) := (blk_cell BK456.out 1).trans rfl; have hcz21_2 : w20.cell? ⟨gb456, 2, none⟩ = some (.int .i64 t454) := (blk_cell BK456.out 2).trans rfl; have hcz21_3 : w20.cell? ⟨gb456, 3, none⟩ = some (.int .i64 t455) := (blk_cell BK456.out 3).trans rfl; have hfz21_0 := blk_frozen BK456.out 0; have hfz21_1 := blk_frozen BK456.out 1; have hfz21_2 := blk_frozen BK456.out 2; have hfz21_3 := blk_frozen BK456.out 3) | (go_at_call 7; (with_reducible refine (impl_NeedsLog.calls k1 _ _ t450 t453 t454 t455 x4_1 t458 _ ?side1 ?side2 A12.out).mono ?_); (case side1 => exact z11_1); (case side2 => exact z11_10); rintro e w22 ⟨rfl, hb⟩; have n0_ := Aside0.mk (Kd.R_below z11_3 hb); have n1_ := Aside0.mk (blk_below (g := gb456) (o := .cells #[.slice Ao7 t450.length co7, .int .i64 t453, .int .i64 t454, .int .i64 t455] 28 (0, 0)) z11_2 hb); have n2_ := Aside0.mk (below_step z11_0 hb); clear HO_457000; clear BK456; clear HB; have HO_457000 := n0_; have BK456 := n1_; have HB := n2_; clear n0_ n1_ n2_; (try clear hb); (try clear hb2); (try clear hk); (try clear hi)))
              repeat (go_quiet (first | (go_at_call 6; (with_reducible refine (impl_WriteCount.calls k1 _ _ t450 t453 t454 t455 x4_1 t457 _ ?side1 ?side2 A11.out).mono ?_); (case side1 => exact z11_1); (case side2 => exact z11_10); rintro e w20 ⟨rfl, hb⟩; have n0_ := Aside0.mk (Kd.R_below z11_3 hb); have n1_ := Aside0.mk (blk_below (g := gb456) (o := .cells #[.slice Ao7 t450.length co7, .int .i64 t453, .int .i64 t454, .int .i64 t455] 28 (0, 0)) z11_2 hb); have n2_ := Aside0.mk (below_step z11_0 hb); clear HO_457000; clear BK456; clear HB; have HO_457000 := n0_; have BK456 := n1_; have HB := n2_; clear n0_ n1_ n2_; (try clear hb); (try clear hb2); (try clear hk); (try clear hi); have hcz21_0 : w20.cell? ⟨gb456, 0, none⟩ = some (.slice Ao7 t450.length co7) := (blk_cell BK456.out 0).trans rfl; have hcz21_1 : w20.cell? ⟨gb456, 1, none⟩ = some (.int .i64 t453) := (blk_cell BK456.out 1).trans rfl; have hcz21_2 : w20.cell? ⟨gb456, 2, none⟩ = some (.int .i64 t454) := (blk_cell BK456.out 2).trans rfl; have hcz21_3 : w20.cell? ⟨gb456, 3, none⟩ = some (.int .i64 t455) := (blk_cell BK456.out 3).trans rfl; have hfz21_0 := blk_frozen BK456.out 0; have hfz21_1 := blk_frozen BK456.out 1; have hfz21_2 := blk_frozen BK456.out 2; have hfz21_3 := blk_frozen BK456.out 3) | (go_at_call 7; (with_reducible refine (impl_NeedsLog.calls k1 _ _ t450 t453 t454 t455 x4_1 t458 _ ?side1 ?side2 A12.out).mono ?_); (case side1 => exact z11_1); (case side2 => exact z11_10); rintro e w22 ⟨rfl, hb⟩; have n0_ := Aside0.mk (Kd.R_below z11_3 hb); have n1_ := Aside0.mk (blk_below (g := gb456) (o := .cells #[.slice Ao7 t450.length co7, .int .i64 t453, .int .i64 t454, .int .i64 t455] 28 (0, 0)) z11_2 hb); have n2_ := Aside0.mk (below_step z11_0 hb); clear HO_457000; clear BK456; clear HB; have HO_457000 := n0_; have BK456 := n1_; have HB := n2_; clear n0_ n1_ n2_; (try clear hb); (try clear hb2); (try clear hk); (try clear hi))); try go_wp2_with (first | (go_at_call 6; (with_reducible refine (impl_WriteCount.calls k1 _ _ t450 t453 t454 t455 x4_1 t457 _ ?side1 ?side2 A11.out).mono ?_); (case side1 => exact z11_1); (case side2 => exact z11_10); rintro e w20 ⟨rfl, hb⟩; have n0_ := Aside0.mk (Kd.R_below z11_3 hb); have n1_ := Aside0.mk (blk_below (g := gb456) (o := .cells #[.slice Ao7 t450.length co7, .int .i64 t453, .int .i64 t454, .int .i64 t455] 28 (0, 0)) z11_2 hb); have n2_ := Aside0.mk (below_step z11_0 hb); clear HO_457000; clear BK456; clear HB; have HO_457000 := n0_; have BK456 := n1_; have HB := n2_; clear n0_ n1_ n2_; (try clear hb); (try clear hb2); (try clear hk); (try clear hi); have hcz21_0 : w20.cell? ⟨gb456, 0, none⟩ = some (.slice Ao7 t450.length co7) := (blk_cell BK456.out 0).trans rfl; have hcz21_1 : w20.cell? ⟨gb456, 1, none⟩ = some (.int .i64 t453) := (blk_cell BK456.out 1).trans rfl; have hcz21_2 : w20.cell? ⟨gb456, 2, none⟩ = some (.int .i64 t454) := (blk_cell BK456.out 2).trans rfl; have hcz21_3 : w20.cell? ⟨gb456, 3, none⟩ = some (.int .i64 t455) := (blk_cell BK456.out 3).trans rfl; have hfz21_0 := blk_frozen BK456.out 0; have hfz21_1 := blk_frozen BK456.out 1; have hfz21_2 := blk_frozen BK456.out 2; have hfz21_3 := blk_frozen BK456.out 3) | (go_at_call 7; (with_reducible refine (impl_NeedsLog.calls k1 _ _ t450 t453 t454 t455 x4_1 t458 _ ?side1 ?side2 A12.out).mono ?_); (case side1 => exact z11_1); (case side2 => exact z11_10); rintro e w22 ⟨rfl, hb⟩; have n0_ := Aside0.mk (Kd.R_below z11_3 hb); have n1_ := Aside0.mk (blk_below (g := gb456) (o := .cells #[.slice Ao7 t450.length co7, .int .i64 t453, .int .i64 t454, .int .i64 t455] 28 (0, 0)) z11_2 hb); have n2_ := Aside0.mk (below_step z11_0 hb); clear HO_457000; clear BK456; clear HB; have HO_457000 := n0_; have BK456 := n1_; have HB := n2_; clear n0_ n1_ n2_; (try clear hb); (try clear hb2); (try clear hk); (try clear hi))))
              go_roundg k1
              case measure => have := HK1.out; omega
              case rel => exact ⟨(wrap64 (x4_1 + 1)), z11_19, H', ⟨by have := HK1.out; omega⟩, ⟨by (with_reducible repeat (first | apply Kd.R_alloc | apply Kd.R_drewN | apply Kd.R_drew)); exact HO_457000.out⟩, ⟨by (with_reducible repeat (first | refine blk_drewN ?_ _ | refine blk_drew ?_ | refine blk_alloc ?_ _)); exact BK456.out⟩, ⟨by repeat (first | (with_reducible first | exact HB.out | apply below_alloc | apply pw_below_drewN | apply below_drew1 | refine below_set ?_ GE456.out) | exact HB.out)⟩⟩
            · rw [if_neg c18] at H
              have c18b0 : (t457 == 1) = false := beq_eq_false_iff_ne.mpr c18
              have c18b1 : (t457 != 1) = true := bne_iff_ne.mpr c18
              by_cases c23 : t457 = 4
              · rw [if_pos c23] at H
                have c23b0 : (t457 == 4) = true := beq_iff_eq.mpr c23
                have c23b1 : (t457 != 4) = false := bne_eq_false_iff_eq.mpr c23
                (try (have c23q : t458 = true := by (cases t458 <;> simp_all)))
                clear c23
                have H' := Aside0.mk H
                clear H
                have hcz24_0 : wr.cell? ⟨gb456, 0, none⟩ = some (.slice Ao7 t450.length co7) := (blk_cell BK456.out 0).trans rfl
                have hcz24_1 : wr.cell? ⟨gb456, 1, none⟩ = some (.int .i64 t453) := (blk_cell BK456.out 1).trans rfl
                have hcz24_2 : wr.cell? ⟨gb456, 2, none⟩ = some (.int .i64 t454) := (blk_cell BK456.out 2).trans rfl
                have hcz24_3 : wr.cell? ⟨gb456, 3, none⟩ = some (.int .i64 t455) := (blk_cell BK456.out 3).trans rfl
                have hfz24_0 := blk_frozen BK456.out 0
                have hfz24_1 := blk_frozen BK456.out 1
                have hfz24_2 := blk_frozen BK456.out 2
                have hfz24_3 := blk_frozen BK456.out 3
                go_wp2_with (first | (go_at_call 6; (with_reducible refine (impl_WriteCount.calls k1 _ _ t450 t453 t454 t455 x4_1 t457 _ ?side1 ?side2 A11.out).mono ?_); (case side1 => exact z11_1); (case side2 => exact z11_10); rintro e w25 ⟨rfl, hb⟩; have n0_ := Aside0.mk (Kd.R_below z11_3 hb); have n1_ := Aside0.mk (blk_below (g := gb456) (o := .cells #[.slice Ao7 t450.length co7, .int .i64 t453, .int .i64 t454, .int .i64 t455] 28 (0, 0)) z11_2 hb); have n2_ := Aside0.mk (below_step z11_0 hb); clear HO_457000; clear BK456; clear HB; have HO_457000 := n0_; have BK456 := n1_; have HB := n2_; clear n0_ n1_ n2_; (try clear hb); (try clear hb2); (try clear hk); (try clear hi); have hcz26_0 : w25.cell? ⟨gb456, 0, none⟩ = some (.slice Ao7 t450.length co7) := (blk_cell BK456.out 0).trans rfl; have hcz26_1 : w25.cell? ⟨gb456, 1, none⟩ = some (.int .i64 t453) := (blk_cell BK456.out 1).trans rfl; have hcz26_2 : w25.cell? ⟨gb456, 2, none⟩ = some (.int .i64 t454) := (blk_cell BK456.out 2).trans rfl; have hcz26_3 : w25.cell? ⟨gb456, 3, none⟩ = some (.int .i64 t455) := (blk_cell BK456.out 3).trans rfl; have hfz26_0 := blk_frozen BK456.out 0; have hfz26_1 := blk_frozen BK456.out 1; have hfz26_2 := blk_frozen BK456.out 2; have hfz26_3 := blk_frozen BK456.out 3) | (go_at_call 7; (with_reducible refine (impl_NeedsLog.calls k1 _ _ t450 t453 t454 t455 x4_1 t458 _ ?side1 ?side2 A12.out).mono ?_); (case side1 => exact z11_1); (case side2 => exact z11_10); rintro e w27 ⟨rfl, hb⟩; have n0_ := Aside0.mk (Kd.R_below z11_3 hb); have n1_ := Aside0.mk (blk_below (g := gb456) (o := .cells #[.slice Ao7 t450.length co7, .int .i64 t453, .int .i64 t454, .int .i64 t455] 28 (0, 0)) z11_2 hb); have n2_ := Aside0.mk (below_step z11_0 hb); clear HO_457000; clear BK456; clear HB; have HO_457000 := n0_; have BK456 := n1_; have HB := n2_; clear n0_ n1_ n2_; (try clear hb); (try clear hb2); (try clear hk); (try clear hi)))
                repeat (go_quiet (first | (go_at_call 6; (with_reducible refine (impl_WriteCount.calls k1 _ _ t450 t453 t454 t455 x4_1 t457 _ ?side1 ?side2 A11.out).mono ?_); (case side1 => exact z11_1); (case side2 => exact z11_10); rintro e w25 ⟨rfl, hb⟩; have n0_ := Aside0.mk (Kd.R_below z11_3 hb); have n1_ := Aside0.mk (blk_below (g := gb456) (o := .cells #[.slice Ao7 t450.length co7, .int .i64 t453, .int .i64 t454, .int .i64 t455] 28 (0, 0)) z11_2 hb); have n2_ := Aside0.mk (below_step z11_0 hb); clear HO_457000; clear BK456; clear HB; have HO_457000 := n0_; have BK456 := n1_; have HB := n2_; clear n0_ n1_ n2_; (try clear hb); (try clear hb2); (try clear hk); (try clear hi); have hcz26_0 : w25.cell? ⟨gb456, 0, none⟩ = some (.slice Ao7 t450.length co7) := (blk_cell BK456.out 0).trans rfl; have hcz26_1 : w25.cell? ⟨gb456, 1, none⟩ = some (.int .i64 t453) := (blk_cell BK456.out 1).trans rfl; have hcz26_2 : w25.cell? ⟨gb456, 2, none⟩ = some (.int .i64 t454) := (blk_cell BK456.out 2).trans rfl; have hcz26_3 : w25.cell? ⟨gb456, 3, none⟩ = some (.int .i64 t455) := (blk_cell BK456.out 3).trans rfl; have hfz26_0 := blk_frozen BK456.out 0; have hfz26_1 := blk_frozen BK456.out 1; have hfz26_2 := blk_frozen BK456.out 2; have hfz26_3 := blk_frozen BK456.out 3) | (go_at_call 7; (with_reducible refine (impl_NeedsLog.calls k1 _ _ t450 t453 t454 t455 x4_1 t458 _ ?side1 ?side2 A12.out).mono ?_); (case side1 => exact z11_1); (case side2 => exact z11_10); rintro e w27 ⟨rfl, hb⟩; have n0_ := Aside0.mk (Kd.R_below z11_3 hb); have n1_ := Aside0.mk (blk_below (g := gb456) (o := .cells #[.slice Ao7 t450.length co7, .int .i64 t453, .int .i64 t454, .int .i64 t455] 28 (0, 0)) z11_2 hb); have n2_ := Aside0.mk (below_step z11_0 hb); clear HO_457000; clear BK456; clear HB; have HO_457000 := n0_; have BK456 := n1_; have HB := n2_; clear n0_ n1_ n2_; (try clear hb); (try clear hb2); (try clear hk); (try clear hi))); try go_wp2_with (first | (go_at_call 6; (with_reducible refine (impl_WriteCount.calls k1 _ _ t450 t453 t454 t455 x4_1 t457 _ ?side1 ?side2 A11.out).mono ?_); (case side1 => exact z11_1); (case side2 => exact z11_10); rintro e w25 ⟨rfl, hb⟩; have n0_ := Aside0.mk (Kd.R_below z11_3 hb); have n1_ := Aside0.mk (blk_below (g := gb456) (o := .cells #[.slice Ao7 t450.length co7, .int .i64 t453, .int .i64 t454, .int .i64 t455] 28 (0, 0)) z11_2 hb); have n2_ := Aside0.mk (below_step z11_0 hb); clear HO_457000; clear BK456; clear HB; have HO_457000 := n0_; have BK456 := n1_; have HB := n2_; clear n0_ n1_ n2_; (try clear hb); (try clear hb2); (try clear hk); (try clear hi); have hcz26_0 : w25.cell? ⟨gb456, 0, none⟩ = some (.slice Ao7 t450.length co7) := (blk_cell BK456.out 0).trans rfl; have hcz26_1 : w25.cell? ⟨gb456, 1, none⟩ = some (.int .i64 t453) := (blk_cell BK456.out 1).trans rfl; have hcz26_2 : w25.cell? ⟨gb456, 2, none⟩ = some (.int .i64 t454) := (blk_cell BK456.out 2).trans rfl; have hcz26_3 : w25.cell? ⟨gb456, 3, none⟩ = some (.int .i64 t455) := (blk_cell BK456.out 3).trans rfl; have hfz26_0 := blk_frozen BK456.out 0; have hfz26_1 := blk_frozen BK456.out 1; have hfz26_2 := blk_frozen BK456.out 2; have hfz26_3 := blk_frozen BK456.out 3) | (go_at_call 7; (with_reducible refine (impl_NeedsLog.calls k1 _ _ t450 t453 t454 t455 x4_1 t458 _ ?side1 ?side2 A12.out).mono ?_); (case side1 => exact z11_1); (case side2 => exact z11_10); rintro e w27 ⟨rfl, hb⟩; have n0_ := Aside0.mk (Kd.R_below z11_3 hb); have n1_ := Aside0.mk (blk_below (g := gb456) (o := .cells #[.slice Ao7 t450.length co7, .int .i64 t453, .int .i64 t454, .int .i64 t455] 28 (0, 0)) z11_2 hb); have n2_ := Aside0.mk (below_step z11_0 hb); clear HO_457000; clear BK456; clear HB; have HO_457000 := n0_; have BK456 := n1_; have HB := n2_; clear n0_ n1_ n2_; (try clear hb); (try clear hb2); (try clear hk); (try clear hi))))
                go_roundg k1
                case measure => have := HK1.out; omega
                case rel => exact ⟨(wrap64 (x4_1 + 1)), z11_19, H', ⟨by have := HK1.out; omega⟩, ⟨by (with_reducible repeat (first | apply Kd.R_alloc | apply Kd.R_drewN | apply Kd.R_drew)); exact HO_457000.out⟩, ⟨by (with_reducible repeat (first | refine blk_drewN ?_ _ | refine blk_drew ?_ | refine blk_alloc ?_ _)); exact BK456.out⟩, ⟨by repeat (first | (with_reducible first | exact HB.out | apply below_alloc | apply pw_below_drewN | apply below_drew1 | refine below_set ?_ GE456.out) | exact HB.out)⟩⟩
              · rw [if_neg c23] at H
                have c23b0 : (t457 == 4) = false := beq_eq_false_iff_ne.mpr c23
                have c23b1 : (t457 != 4) = true := bne_iff_ne.mpr c23
                (try (have c23q : t458 = false := by (cases t458 <;> simp_all)))
                obtain rfl := Option.some.inj H
                have hcz28_0 : wr.cell? ⟨gb456, 0, none⟩ = some (.slice Ao7 t450.length co7) := (blk_cell BK456.out 0).trans rfl
                have hcz28_1 : wr.cell? ⟨gb456, 1, none⟩ = some (.int .i64 t453) := (blk_cell BK456.out 1).trans rfl
                have hcz28_2 : wr.cell? ⟨gb456, 2, none⟩ = some (.int .i64 t454) := (blk_cell BK456.out 2).trans rfl
                have hcz28_3 : wr.cell? ⟨gb456, 3, none⟩ = some (.int .i64 t455) := (blk_cell BK456.out 3).trans rfl
                have hfz28_0 := blk_frozen BK456.out 0
                have hfz28_1 := blk_frozen BK456.out 1
                have hfz28_2 := blk_frozen BK456.out 2
                have hfz28_3 := blk_frozen BK456.out 3
                go_wp2_with (first | (go_at_call 6; (with_reducible refine (impl_WriteCount.calls k1 _ _ t450 t453 t454 t455 x4_1 t457 _ ?side1 ?side2 A11.out).mono ?_); (case side1 => exact z11_1); (case side2 => exact z11_10); rintro e w29 ⟨rfl, hb⟩; have n0_ := Aside0.mk (Kd.R_below z11_3 hb); have n1_ := Aside0.mk (blk_below (g := gb456) (o := .cells #[.slice Ao7 t450.length co7, .int .i64 t453, .int .i64 t454, .int .i64 t455] 28 (0, 0)) z11_2 hb); have n2_ := Aside0.mk (below_step z11_0 hb); clear HO_457000; clear BK456; clear HB; have HO_457000 := n0_; have BK456 := n1_; have HB := n2_; clear n0_ n1_ n2_; (try clear hb); (try clear hb2); (try clear hk); (try clear hi); have hcz30_0 : w29.cell? ⟨gb456, 0, none⟩ = some (.slice Ao7 t450.length co7) := (blk_cell BK456.out 0).trans rfl; have hcz30_1 : w29.cell? ⟨gb456, 1, none⟩ = some (.int .i64 t453) := (blk_cell BK456.out 1).trans rfl; have hcz30_2 : w29.cell? ⟨gb456, 2, none⟩ = some (.int .i64 t454) := (blk_cell BK456.out 2).trans rfl; have hcz30_3 : w29.cell? ⟨gb456, 3, none⟩ = some (.int .i64 t455) := (blk_cell BK456.out 3).trans rfl; have hfz30_0 := blk_frozen BK456.out 0; have hfz30_1 := blk_frozen BK456.out 1; have hfz30_2 := blk_frozen BK456.out 2; have hfz30_3 := blk_frozen BK456.out 3) | (go_at_call 7; (with_reducible refine (impl_NeedsLog.calls k1 _ _ t450 t453 t454 t455 x4_1 t458 _ ?side1 ?side2 A12.out).mono ?_); (case side1 => exact z11_1); (case side2 => exact z11_10); rintro e w31 ⟨rfl, hb⟩; have n0_ := Aside0.mk (Kd.R_below z11_3 hb); have n1_ := Aside0.mk (blk_below (g := gb456) (o := .cells #[.slice Ao7 t450.length co7, .int .i64 t453, .int .i64 t454, .int .i64 t455] 28 (0, 0)) z11_2 hb); have n2_ := Aside0.mk (below_step z11_0 hb); clear HO_457000; clear BK456; clear HB; have HO_457000 := n0_; have BK456 := n1_; have HB := n2_; clear n0_ n1_ n2_; (try clear hb); (try clear hb2); (try clear hk); (try clear hi)))
                repeat (go_quiet (first | (go_at_call 6; (with_reducible refine (impl_WriteCount.calls k1 _ _ t450 t453 t454 t455 x4_1 t457 _ ?side1 ?side2 A11.out).mono ?_); (case side1 => exact z11_1); (case side2 => exact z11_10); rintro e w29 ⟨rfl, hb⟩; have n0_ := Aside0.mk (Kd.R_below z11_3 hb); have n1_ := Aside0.mk (blk_below (g := gb456) (o := .cells #[.slice Ao7 t450.length co7, .int .i64 t453, .int .i64 t454, .int .i64 t455] 28 (0, 0)) z11_2 hb); have n2_ := Aside0.mk (below_step z11_0 hb); clear HO_457000; clear BK456; clear HB; have HO_457000 := n0_; have BK456 := n1_; have HB := n2_; clear n0_ n1_ n2_; (try clear hb); (try clear hb2); (try clear hk); (try clear hi); have hcz30_0 : w29.cell? ⟨gb456, 0, none⟩ = some (.slice Ao7 t450.length co7) := (blk_cell BK456.out 0).trans rfl; have hcz30_1 : w29.cell? ⟨gb456, 1, none⟩ = some (.int .i64 t453) := (blk_cell BK456.out 1).trans rfl; have hcz30_2 : w29.cell? ⟨gb456, 2, none⟩ = some (.int .i64 t454) := (blk_cell BK456.out 2).trans rfl; have hcz30_3 : w29.cell? ⟨gb456, 3, none⟩ = some (.int .i64 t455) := (blk_cell BK456.out 3).trans rfl; have hfz30_0 := blk_frozen BK456.out 0; have hfz30_1 := blk_frozen BK456.out 1; have hfz30_2 := blk_frozen BK456.out 2; have hfz30_3 := blk_frozen BK456.out 3) | (go_at_call 7; (with_reducible refine (impl_NeedsLog.calls k1 _ _ t450 t453 t454 t455 x4_1 t458 _ ?side1 ?side2 A12.out).mono ?_); (case side1 => exact z11_1); (case side2 => exact z11_10); rintro e w31 ⟨rfl, hb⟩; have n0_ := Aside0.mk (Kd.R_below z11_3 hb); have n1_ := Aside0.mk (blk_below (g := gb456) (o := .cells #[.slice Ao7 t450.length co7, .int .i64 t453, .int .i64 t454, .int .i64 t455] 28 (0, 0)) z11_2 hb); have n2_ := Aside0.mk (below_step z11_0 hb); clear HO_457000; clear BK456; clear HB; have HO_457000 := n0_; have BK456 := n1_; have HB := n2_; clear n0_ n1_ n2_; (try clear hb); (try clear hb2); (try clear hk); (try clear hi))); try go_wp2_with (first | (go_at_call 6; (with_reducible refine (impl_WriteCount.calls k1 _ _ t450 t453 t454 t455 x4_1 t457 _ ?side1 ?side2 A11.out).mono ?_); (case side1 => exact z11_1); (case side2 => exact z11_10); rintro e w29 ⟨rfl, hb⟩; have n0_ := Aside0.mk (Kd.R_below z11_3 hb); have n1_ := Aside0.mk (blk_below (g := gb456) (o := .cells #[.slice Ao7 t450.length co7, .int .i64 t453, .int .i64 t454, .int .i64 t455] 28 (0, 0)) z11_2 hb); have n2_ := Aside0.mk (below_step z11_0 hb); clear HO_457000; clear BK456; clear HB; have HO_457000 := n0_; have BK456 := n1_; have HB := n2_; clear n0_ n1_ n2_; (try clear hb); (try clear hb2); (try clear hk); (try clear hi); have hcz30_0 : w29.cell? ⟨gb456, 0, none⟩ = some (.slice Ao7 t450.length co7) := (blk_cell BK456.out 0).trans rfl; have hcz30_1 : w29.cell? ⟨gb456, 1, none⟩ = some (.int .i64 t453) := (blk_cell BK456.out 1).trans rfl; have hcz30_2 : w29.cell? ⟨gb456, 2, none⟩ = some (.int .i64 t454) := (blk_cell BK456.out 2).trans rfl; have hcz30_3 : w29.cell? ⟨gb456, 3, none⟩ = some (.int .i64 t455) := (blk_cell BK456.out 3).trans rfl; have hfz30_0 := blk_frozen BK456.out 0; have hfz30_1 := blk_frozen BK456.out 1; have hfz30_2 := blk_frozen BK456.out 2; have hfz30_3 := blk_frozen BK456.out 3) | (go_at_call 7; (with_reducible refine (impl_NeedsLog.calls k1 _ _ t450 t453 t454 t455 x4_1 t458 _ ?side1 ?side2 A12.out).mono ?_); (case side1 => exact z11_1); (case side2 => exact z11_10); rintro e w31 ⟨rfl, hb⟩; have n0_ := Aside0.mk (Kd.R_below z11_3 hb); have n1_ := Aside0.mk (blk_below (g := gb456) (o := .cells #[.slice Ao7 t450.length co7, .int .i64 t453, .int .i64 t454, .int .i64 t455] 28 (0, 0)) z11_2 hb); have n2_ := Aside0.mk (below_step z11_0 hb); clear HO_457000; clear BK456; clear HB; have HO_457000 := n0_; have BK456 := n1_; have HB := n2_; clear n0_ n1_ n2_; (try clear hb); (try clear hb2); (try clear hk); (try clear hi))))
                go_ret
                exact ⟨by first | rfl | (simp [errW_none, errW_some] <;> rfl) | (simp [*, errW_none, errW_some] <;> rfl) | (simp [*, errW_none, errW_some, i64_w]; done), by repeat (first | (with_reducible first | exact HB.out | apply below_alloc | apply pw_below_drewN | apply below_drew1 | refine below_set ?_ GE456.out) | exact HB.out)⟩
        · rw [if_neg c10] at H
          have c10b0 : decide (x4_1 < 8) = false := decide_eq_false c10
          clear c10
          have H' := Aside0.mk H
          clear H
          go_wp2
          repeat (go_quiet (fail); try go_wp2)
          go_loopg [6] k1 (fun kq v6 w' => ∃ (x6_2 : Int), v6 = .int .i64 x6_2 ∧ Aside0 (laws_FnCosts.l1 kq l0 x6_2 = some r) ∧ Aside0 (kq ≤ k1) ∧ Aside0 (Kd.R k56 56 w' w.heap.size (fun _ => True) (.slice Ao7 t450.length co7) t450) ∧ Aside0 (w'.heap[gb456]? = some (.cells #[(.slice Ao7 t450.length co7), .int .i64 t453, .int .i64 t454, .int .i64 t455] 28 (0, 0))) ∧ Aside0 (Below w.heap.size w w'))
          case atStart => exact ⟨(1), z11_19, H', ⟨Nat.le_refl _⟩, ⟨by (with_reducible repeat (first | apply Kd.R_alloc | apply Kd.R_drewN | apply Kd.R_drew)); exact HO_457000.out⟩, ⟨by (with_reducible repeat (first | refine blk_drewN ?_ _ | refine blk_drew ?_ | refine blk_alloc ?_ _)); exact BK456.out⟩, ⟨by repeat (first | (with_reducible first | exact HB.out | apply below_alloc | apply pw_below_drewN | apply below_drew1 | refine below_set ?_ GE456.out) | exact HB.out)⟩⟩
          case round =>
            clear H'
            (try clear c3); (try clear c10); (try clear c10b0); (try clear hcz8_0); (try clear hcz8_1); (try clear hcz8_2); (try clear hcz8_3); (try clear hfz8_0); (try clear hfz8_1); (try clear hfz8_2); (try clear hfz8_3)
            obtain ⟨x6_2, rfl, HA, HK2, HO_457000, BK456, HB⟩ := hrel
            cases gk with
            | zero => exact absurd HA.out (by simp [laws_FnCosts.l1])
            | succ k2 =>
              have H := HA.out
              clear HA
              simp only [laws_FnCosts.l1] at H
              by_cases c32 : x6_2 < 8
              · rw [if_pos c32] at H
                have c32b0 : decide (x6_2 < 8) = true := decide_eq_true c32
                clear c32
                replace H := Option.bind_eq_some_iff.mp H
                obtain ⟨t459, A330, H⟩ := H
                replace H : ((impl_RecoveryCost.f x6_2).bind fun t460 => (if (wrap64 (t459 - t460)) = 3 then (laws_FnCosts.l1 k2 l0 (wrap64 (x6_2 + 1))) else (some false))) = some r := H
                have A33 := Aside0.mk A330
                clear A330
                replace H := Option.bind_eq_some_iff.mp H
                obtain ⟨t460, A340, H⟩ := H
                replace H : (if (wrap64 (t459 - t460)) = 3 then (laws_FnCosts.l1 k2 l0 (wrap64 (x6_2 + 1))) else (some false)) = some r := H
                have A34 := Aside0.mk A340
                clear A340
                by_cases c35 : (wrap64 (t459 - t460)) = 3
                · rw [if_pos c35] at H
                  have c35b0 : ((wrap64 (t459 - t460)) == 3) = true := beq_iff_eq.mpr c35
                  have c35b1 : ((wrap64 (t459 - t460)) != 3) = false := bne_eq_false_iff_eq.mpr c35
                  clear c35
                  have H' := Aside0.mk H
                  clear H
                  go_wp2_with (first | (go_at_call 8; (with_reducible refine (impl_RecoveryCost.calls (wrap64 (x6_2 + 1)) t459 _ A33.out).mono ?_); rintro e w' ⟨rfl, ⟨nd, rfl⟩⟩; (try first | exact ⟨rfl, _, World.drewN_drewN _ _ _⟩ | exact ⟨rfl, _, Eq.trans (World.drewN_drewN _ _ _) (congrArg (World.drewN _) (Nat.add_assoc _ _ _))⟩)) | (go_at_call 8; (with_reducible refine (impl_RecoveryCost.calls x6_2 t460 _ A34.out).mono ?_); rintro e w' ⟨rfl, ⟨nd, rfl⟩⟩; (try first | exact ⟨rfl, _, World.drewN_drewN _ _ _⟩ | exact ⟨rfl, _, Eq.trans (World.drewN_drewN _ _ _) (congrArg (World.drewN _) (Nat.add_assoc _ _ _))⟩)))
                  repeat (go_quiet (first | (go_at_call 8; (with_reducible refine (impl_RecoveryCost.calls (wrap64 (x6_2 + 1)) t459 _ A33.out).mono ?_); rintro e w' ⟨rfl, ⟨nd, rfl⟩⟩; (try first | exact ⟨rfl, _, World.drewN_drewN _ _ _⟩ | exact ⟨rfl, _, Eq.trans (World.drewN_drewN _ _ _) (congrArg (World.drewN _) (Nat.add_assoc _ _ _))⟩)) | (go_at_call 8; (with_reducible refine (impl_RecoveryCost.calls x6_2 t460 _ A34.out).mono ?_); rintro e w' ⟨rfl, ⟨nd, rfl⟩⟩; (try first | exact ⟨rfl, _, World.drewN_drewN _ _ _⟩ | exact ⟨rfl, _, Eq.trans (World.drewN_drewN _ _ _) (congrArg (World.drewN _) (Nat.add_assoc _ _ _))⟩))); try go_wp2_with (first | (go_at_call 8; (with_reducible refine (impl_RecoveryCost.calls (wrap64 (x6_2 + 1)) t459 _ A33.out).mono ?_); rintro e w' ⟨rfl, ⟨nd, rfl⟩⟩; (try first | exact ⟨rfl, _, World.drewN_drewN _ _ _⟩ | exact ⟨rfl, _, Eq.trans (World.drewN_drewN _ _ _) (congrArg (World.drewN _) (Nat.add_assoc _ _ _))⟩)) | (go_at_call 8; (with_reducible refine (impl_RecoveryCost.calls x6_2 t460 _ A34.out).mono ?_); rintro e w' ⟨rfl, ⟨nd, rfl⟩⟩; (try first | exact ⟨rfl, _, World.drewN_drewN _ _ _⟩ | exact ⟨rfl, _, Eq.trans (World.drewN_drewN _ _ _) (congrArg (World.drewN _) (Nat.add_assoc _ _ _))⟩))))
                  go_roundg k2
                  case measure => have := HK1.out; have := HK2.out; omega
                  case rel => exact ⟨(wrap64 (x6_2 + 1)), z11_19, H', ⟨by have := HK1.out; have := HK2.out; omega⟩, ⟨by (with_reducible repeat (first | apply Kd.R_alloc | apply Kd.R_drewN | apply Kd.R_drew)); exact HO_457000.out⟩, ⟨by (with_reducible repeat (first | refine blk_drewN ?_ _ | refine blk_drew ?_ | refine blk_alloc ?_ _)); exact BK456.out⟩, ⟨by repeat (first | (with_reducible first | exact HB.out | apply below_alloc | apply pw_below_drewN | apply below_drew1 | refine below_set ?_ GE456.out) | exact HB.out)⟩⟩
                · rw [if_neg c35] at H
                  have c35b0 : ((wrap64 (t459 - t460)) == 3) = false := beq_eq_false_iff_ne.mpr c35
                  have c35b1 : ((wrap64 (t459 - t460)) != 3) = true := bne_iff_ne.mpr c35
                  obtain rfl := Option.some.inj H
                  go_wp2_with (first | (go_at_call 8; (with_reducible refine (impl_RecoveryCost.calls (wrap64 (x6_2 + 1)) t459 _ A33.out).mono ?_); rintro e w' ⟨rfl, ⟨nd, rfl⟩⟩; (try first | exact ⟨rfl, _, World.drewN_drewN _ _ _⟩ | exact ⟨rfl, _, Eq.trans (World.drewN_drewN _ _ _) (congrArg (World.drewN _) (Nat.add_assoc _ _ _))⟩)) | (go_at_call 8; (with_reducible refine (impl_RecoveryCost.calls x6_2 t460 _ A34.out).mono ?_); rintro e w' ⟨rfl, ⟨nd, rfl⟩⟩; (try first | exact ⟨rfl, _, World.drewN_drewN _ _ _⟩ | exact ⟨rfl, _, Eq.trans (World.drewN_drewN _ _ _) (congrArg (World.drewN _) (Nat.add_assoc _ _ _))⟩)))
                  repeat (go_quiet (first | (go_at_call 8; (with_reducible refine (impl_RecoveryCost.calls (wrap64 (x6_2 + 1)) t459 _ A33.out).mono ?_); rintro e w' ⟨rfl, ⟨nd, rfl⟩⟩; (try first | exact ⟨rfl, _, World.drewN_drewN _ _ _⟩ | exact ⟨rfl, _, Eq.trans (World.drewN_drewN _ _ _) (congrArg (World.drewN _) (Nat.add_assoc _ _ _))⟩)) | (go_at_call 8; (with_reducible refine (impl_RecoveryCost.calls x6_2 t460 _ A34.out).mono ?_); rintro e w' ⟨rfl, ⟨nd, rfl⟩⟩; (try first | exact ⟨rfl, _, World.drewN_drewN _ _ _⟩ | exact ⟨rfl, _, Eq.trans (World.drewN_drewN _ _ _) (congrArg (World.drewN _) (Nat.add_assoc _ _ _))⟩))); try go_wp2_with (first | (go_at_call 8; (with_reducible refine (impl_RecoveryCost.calls (wrap64 (x6_2 + 1)) t459 _ A33.out).mono ?_); rintro e w' ⟨rfl, ⟨nd, rfl⟩⟩; (try first | exact ⟨rfl, _, World.drewN_drewN _ _ _⟩ | exact ⟨rfl, _, Eq.trans (World.drewN_drewN _ _ _) (congrArg (World.drewN _) (Nat.add_assoc _ _ _))⟩)) | (go_at_call 8; (with_reducible refine (impl_RecoveryCost.calls x6_2 t460 _ A34.out).mono ?_); rintro e w' ⟨rfl, ⟨nd, rfl⟩⟩; (try first | exact ⟨rfl, _, World.drewN_drewN _ _ _⟩ | exact ⟨rfl, _, Eq.trans (World.drewN_drewN _ _ _) (congrArg (World.drewN _) (Nat.add_assoc _ _ _))⟩))))
                  go_ret
                  exact ⟨by first | rfl | (simp [errW_none, errW_some] <;> rfl) | (simp [*, errW_none, errW_some] <;> rfl) | (simp [*, errW_none, errW_some, i64_w]; done), by repeat (first | (with_reducible first | exact HB.out | apply below_alloc | apply pw_below_drewN | apply below_drew1 | refine below_set ?_ GE456.out) | exact HB.out)⟩
              · rw [if_neg c32] at H
                have c32b0 : decide (x6_2 < 8) = false := decide_eq_false c32
                clear c32
                replace H := Option.bind_eq_some_iff.mp H
                obtain ⟨t461, A360, H⟩ := H
                replace H : ((impl_RecoveryCost.f 0).bind fun t464 => (if t464 = 0 then (if 0 < (t461.length : Int) then (if 1 < (t461.length : Int) then ((impl_EnergyFor.f (rd t461 0) (rd t461 1)).bind fun t467 => ((impl_EnergyFor.f (rd t461 0) 0).bind fun t469 => ((impl_EnergyFor.f 0 (rd t461 1)).bind fun t471 => (some (t467 == (wrap64 (t469 + t471))))))) else (none)) else (none)) else (some false))) = some r := H
                have A36 := Aside0.mk A360
                clear A360
                replace H := Option.bind_eq_some_iff.mp H
                obtain ⟨t464, A370, H⟩ := H
                replace H : (if t464 = 0 then (if 0 < (t461.length : Int) then (if 1 < (t461.length : Int) then ((impl_EnergyFor.f (rd t461 0) (rd t461 1)).bind fun t467 => ((impl_EnergyFor.f (rd t461 0) 0).bind fun t469 => ((impl_EnergyFor.f 0 (rd t461 1)).bind fun t471 => (some (t467 == (wrap64 (t469 + t471))))))) else (none)) else (none)) else (some false)) = some r := H
                have A37 := Aside0.mk A370
                clear A370
                by_cases c38 : t464 = 0
                · rw [if_pos c38] at H
                  have c38b0 : (t464 == 0) = true := beq_iff_eq.mpr c38
                  have c38b1 : (t464 != 0) = false := bne_eq_false_iff_eq.mpr c38
                  clear c38
                  by_cases c39 : 0 < (t461.length : Int)
                  · rw [if_pos c39] at H
                    have c39b0 : decide (0 < (t461.length : Int)) = true := decide_eq_true c39
                    have c39b1 : decide (0 < t461.length) = true := decide_eq_true (by omega)
                    clear c39
                    by_cases c40 : 1 < (t461.length : Int)
                    · rw [if_pos c40] at H
                      have c40b0 : decide (1 < (t461.length : Int)) = true := decide_eq_true c40
                      have c40b1 : decide (1 < t461.length) = true := decide_eq_true (by omega)
                      clear c40
                      replace H := Option.bind_eq_some_iff.mp H
                      obtain ⟨t467, A410, H⟩ := H
                      replace H : ((impl_EnergyFor.f (rd t461 0) 0).bind fun t469 => ((impl_EnergyFor.f 0 (rd t461 1)).bind fun t471 => (some (t467 == (wrap64 (t469 + t471)))))) = some r := H
                      have A41 := Aside0.mk A410
                      clear A410
                      replace H := Option.bind_eq_some_iff.mp H
                      obtain ⟨t469, A420, H⟩ := H
                      replace H : ((impl_EnergyFor.f 0 (rd t461 1)).bind fun t471 => (some (t467 == (wrap64 (t469 + t471))))) = some r := H
                      have A42 := Aside0.mk A420
                      clear A420
                      replace H := Option.bind_eq_some_iff.mp H
                      obtain ⟨t471, A430, H⟩ := H
                      replace H : (some (t467 == (wrap64 (t469 + t471)))) = some r := H
                      have A43 := Aside0.mk A430
                      clear A430
                      obtain rfl := Option.some.inj H
                      go_wp2_with (first | (go_at_call 9; (with_reducible refine (spec_DrawPlaces.calls k2 _ _ l0 t461 _ ?side1 ?side2 A36.out).mono ?_); (case side1 => exact z11_9); (case side2 => exact HC0.out); rintro e w44 ⟨v462, rfl, ho0, hb⟩; have n0_ := Aside0.mk (Kd.R_below z11_3 hb); have n1_ := Aside0.mk (Kd.R_lower ho0 (below_size z11_0)); have n2_ := Aside0.mk (blk_below (g := gb456) (o := .cells #[.slice Ao7 t450.length co7, .int .i64 t453, .int .i64 t454, .int .i64 t455] 28 (0, 0)) z11_2 hb); have n3_ := Aside0.mk (below_step z11_0 hb); clear HO_457000; clear BK456; clear HB; have HO_457000 := n0_; have HO463 := n1_; have BK456 := n2_; have HB := n3_; clear n0_ n1_ n2_ n3_; (try clear hb); (try clear hb2); (try clear hk); (try clear hi); (try clear ho0)) | (go_at_call 8; (with_reducible refine (impl_RecoveryCost.calls 0 t464 _ A37.out).mono ?_); rintro e w' ⟨rfl, ⟨nd, rfl⟩⟩; (try first | exact ⟨rfl, _, World.drewN_drewN _ _ _⟩ | exact ⟨rfl, _, Eq.trans (World.drewN_drewN _ _ _) (congrArg (World.drewN _) (Nat.add_assoc _ _ _))⟩); obtain ⟨Ao45, co45, eo45⟩ := Kd.R_slice HO463.out; subst eo45; have p465 : 0 ≤ (0 : Int) := (by omega); have q465 : 0 < (t461.length : Int) := of_decide_eq_true z11_14; obtain ⟨ad465, e465, hx465_0⟩ := Kd.at_int (Kd.R_reads' HO463.out).2.2 0 p465 q465; cases e465; have qi465 : (0 < t461.length) = True := eq_true (by omega); (try rw [show ((0 : Int)).toNat = 0 from rfl] at hx465_0); (try rw [Addr.add_zero'] at hx465_0); replace p465 := eq_true p465; replace q465 := eq_true q465; have p466 : 0 ≤ (1 : Int) := (by omega); have q466 : 1 < (t461.length : Int) := of_decide_eq_true z11_14; obtain ⟨ad466, e466, hx466_0⟩ := Kd.at_int (Kd.R_reads' HO463.out).2.2 1 p466 q466; obtain rfl : ad465 = ad466 := (by injection e466); (try simp only [show (1 : Int).toNat = 1 from rfl, Nat.reduceMul, Nat.reduceEqDiff, Go.Addr.add, ↓reduceIte] at hx466_0); have qi466 : (1 < t461.length) = True := eq_true (by omega); (try rw [show ((1 : Int)).toNat = 1 from rfl] at hx466_0); replace p466 := eq_true p466; replace q466 := eq_true q466) | (go_at_call 10; (with_reducible refine (impl_EnergyFor.calls (rd t461 0) (rd t461 1) t467 _ A41.out).mono ?_); rintro e w' ⟨rfl, ⟨nd, rfl⟩⟩; (try first | exact ⟨rfl, _, World.drewN_drewN _ _ _⟩ | exact ⟨rfl, _, Eq.trans (World.drewN_drewN _ _ _) (congrArg (World.drewN _) (Nat.add_assoc _ _ _))⟩); have p468 : 0 ≤ (0 : Int) := (by omega); have q468 : 0 < (t461.length : Int) := of_decide_eq_true z11_14; obtain ⟨ad468, e468, hx468_0⟩ := Kd.at_int (Kd.R_reads' HO463.out).2.2 0 p468 q468; obtain rfl : ad465 = ad468 := (by injection e468); have qi468 : (0 < t461.length) = True := eq_true (by omega); (try rw [show ((0 : Int)).toNat = 0 from rfl] at hx468_0); (try rw [Addr.add_zero'] at hx468_0); replace p468 := eq_true p468; replace q468 := eq_true q468) | (go_at_call 10; (with_reducible refine (impl_EnergyFor.calls (rd t461 0) 0 t469 _ A42.out).mono ?_); rintro e w' ⟨rfl, ⟨nd, rfl⟩⟩; (try first | exact ⟨rfl, _, World.drewN_drewN _ _ _⟩ | exact ⟨rfl, _, Eq.trans (World.drewN_drewN _ _ _) (congrArg (World.drewN _) (Nat.add_assoc _ _ _))⟩); have p470 : 0 ≤ (1 : Int) := (by omega); have q470 : 1 < (t461.length : Int) := of_decide_eq_true z11_14; obtain ⟨ad470, e470, hx470_0⟩ := Kd.at_int (Kd.R_reads' HO463.out).2.2 1 p470 q470; obtain rfl : ad465 = ad470 := (by injection e470); (try simp only [show (1 : Int).toNat = 1 from rfl, Nat.reduceMul, Nat.reduceEqDiff, Go.Addr.add, ↓reduceIte] at hx470_0); have qi470 : (1 < t461.length) = True := eq_true (by omega); (try rw [show ((1 : Int)).toNat = 1 from rfl] at hx470_0); replace p470 := eq_true p470; replace q470 := eq_true q470) | (go_at_call 10; (with_reducible refine (impl_EnergyFor.calls 0 (rd t461 1) t471 _ A43.out).mono ?_); rintro e w' ⟨rfl, ⟨nd, rfl⟩⟩; (try first | exact ⟨rfl, _, World.drewN_drewN _ _ _⟩ | exact ⟨rfl, _, Eq.trans (World.drewN_drewN _ _ _) (congrArg (World.drewN _) (Nat.add_assoc _ _ _))⟩)))
                      repeat (go_quiet (first | (go_at_call 9; (with_reducible refine (spec_DrawPlaces.calls k2 _ _ l0 t461 _ ?side1 ?side2 A36.out).mono ?_); (case side1 => exact z11_9); (case side2 => exact HC0.out); rintro e w44 ⟨v462, rfl, ho0, hb⟩; have n0_ := Aside0.mk (Kd.R_below z11_3 hb); have n1_ := Aside0.mk (Kd.R_lower ho0 (below_size z11_0)); have n2_ := Aside0.mk (blk_below (g := gb456) (o := .cells #[.slice Ao7 t450.length co7, .int .i64 t453, .int .i64 t454, .int .i64 t455] 28 (0, 0)) z11_2 hb); have n3_ := Aside0.mk (below_step z11_0 hb); clear HO_457000; clear BK456; clear HB; have HO_457000 := n0_; have HO463 := n1_; have BK456 := n2_; have HB := n3_; clear n0_ n1_ n2_ n3_; (try clear hb); (try clear hb2); (try clear hk); (try clear hi); (try clear ho0)) | (go_at_call 8; (with_reducible refine (impl_RecoveryCost.calls 0 t464 _ A37.out).mono ?_); rintro e w' ⟨rfl, ⟨nd, rfl⟩⟩; (try first | exact ⟨rfl, _, World.drewN_drewN _ _ _⟩ | exact ⟨rfl, _, Eq.trans (World.drewN_drewN _ _ _) (congrArg (World.drewN _) (Nat.add_assoc _ _ _))⟩); obtain ⟨Ao45, co45, eo45⟩ := Kd.R_slice HO463.out; subst eo45; have p465 : 0 ≤ (0 : Int) := (by omega); have q465 : 0 < (t461.length : Int) := of_decide_eq_true z11_14; obtain ⟨ad465, e465, hx465_0⟩ := Kd.at_int (Kd.R_reads' HO463.out).2.2 0 p465 q465; cases e465; have qi465 : (0 < t461.length) = True := eq_true (by omega); (try rw [show ((0 : Int)).toNat = 0 from rfl] at hx465_0); (try rw [Addr.add_zero'] at hx465_0); replace p465 := eq_true p465; replace q465 := eq_true q465; have p466 : 0 ≤ (1 : Int) := (by omega); have q466 : 1 < (t461.length : Int) := of_decide_eq_true z11_14; obtain ⟨ad466, e466, hx466_0⟩ := Kd.at_int (Kd.R_reads' HO463.out).2.2 1 p466 q466; obtain rfl : ad465 = ad466 := (by injection e466); (try simp only [show (1 : Int).toNat = 1 from rfl, Nat.reduceMul, Nat.reduceEqDiff, Go.Addr.add, ↓reduceIte] at hx466_0); have qi466 : (1 < t461.length) = True := eq_true (by omega); (try rw [show ((1 : Int)).toNat = 1 from rfl] at hx466_0); replace p466 := eq_true p466; replace q466 := eq_true q466) | (go_at_call 10; (with_reducible refine (impl_EnergyFor.calls (rd t461 0) (rd t461 1) t467 _ A41.out).mono ?_); rintro e w' ⟨rfl, ⟨nd, rfl⟩⟩; (try first | exact ⟨rfl, _, World.drewN_drewN _ _ _⟩ | exact ⟨rfl, _, Eq.trans (World.drewN_drewN _ _ _) (congrArg (World.drewN _) (Nat.add_assoc _ _ _))⟩); have p468 : 0 ≤ (0 : Int) := (by omega); have q468 : 0 < (t461.length : Int) := of_decide_eq_true z11_14; obtain ⟨ad468, e468, hx468_0⟩ := Kd.at_int (Kd.R_reads' HO463.out).2.2 0 p468 q468; obtain rfl : ad465 = ad468 := (by injection e468); have qi468 : (0 < t461.length) = True := eq_true (by omega); (try rw [show ((0 : Int)).toNat = 0 from rfl] at hx468_0); (try rw [Addr.add_zero'] at hx468_0); replace p468 := eq_true p468; replace q468 := eq_true q468) | (go_at_call 10; (with_reducible refine (impl_EnergyFor.calls (rd t461 0) 0 t469 _ A42.out).mono ?_); rintro e w' ⟨rfl, ⟨nd, rfl⟩⟩; (try first | exact ⟨rfl, _, World.drewN_drewN _ _ _⟩ | exact ⟨rfl, _, Eq.trans (World.drewN_drewN _ _ _) (congrArg (World.drewN _) (Nat.add_assoc _ _ _))⟩); have p470 : 0 ≤ (1 : Int) := (by omega); have q470 : 1 < (t461.length : Int) := of_decide_eq_true z11_14; obtain ⟨ad470, e470, hx470_0⟩ := Kd.at_int (Kd.R_reads' HO463.out).2.2 1 p470 q470; obtain rfl : ad465 = ad470 := (by injection e470); (try simp only [show (1 : Int).toNat = 1 from rfl, Nat.reduceMul, Nat.reduceEqDiff, Go.Addr.add, ↓reduceIte] at hx470_0); have qi470 : (1 < t461.length) = True := eq_true (by omega); (try rw [show ((1 : Int)).toNat = 1 from rfl] at hx470_0); replace p470 := eq_true p470; replace q470 := eq_true q470) | (go_at_call 10; (with_reducible refine (impl_EnergyFor.calls 0 (rd t461 1) t471 _ A43.out).mono ?_); rintro e w' ⟨rfl, ⟨nd, rfl⟩⟩; (try first | exact ⟨rfl, _, World.drewN_drewN _ _ _⟩ | exact ⟨rfl, _, Eq.trans (World.drewN_drewN _ _ _) (congrArg (World.drewN _) (Nat.add_assoc _ _ _))⟩))); try go_wp2_with (first | (go_at_call 9; (with_reducible refine (spec_DrawPlaces.calls k2 _ _ l0 t461 _ ?side1 ?side2 A36.out).mono ?_); (case side1 => exact z11_9); (case side2 => exact HC0.out); rintro e w44 ⟨v462, rfl, ho0, hb⟩; have n0_ := Aside0.mk (Kd.R_below z11_3 hb); have n1_ := Aside0.mk (Kd.R_lower ho0 (below_size z11_0)); have n2_ := Aside0.mk (blk_below (g := gb456) (o := .cells #[.slice Ao7 t450.length co7, .int .i64 t453, .int .i64 t454, .int .i64 t455] 28 (0, 0)) z11_2 hb); have n3_ := Aside0.mk (below_step z11_0 hb); clear HO_457000; clear BK456; clear HB; have HO_457000 := n0_; have HO463 := n1_; have BK456 := n2_; have HB := n3_; clear n0_ n1_ n2_ n3_; (try clear hb); (try clear hb2); (try clear hk); (try clear hi); (try clear ho0)) | (go_at_call 8; (with_reducible refine (impl_RecoveryCost.calls 0 t464 _ A37.out).mono ?_); rintro e w' ⟨rfl, ⟨nd, rfl⟩⟩; (try first | exact ⟨rfl, _, World.drewN_drewN _ _ _⟩ | exact ⟨rfl, _, Eq.trans (World.drewN_drewN _ _ _) (congrArg (World.drewN _) (Nat.add_assoc _ _ _))⟩); obtain ⟨Ao45, co45, eo45⟩ := Kd.R_slice HO463.out; subst eo45; have p465 : 0 ≤ (0 : Int) := (by omega); have q465 : 0 < (t461.length : Int) := of_decide_eq_true z11_14; obtain ⟨ad465, e465, hx465_0⟩ := Kd.at_int (Kd.R_reads' HO463.out).2.2 0 p465 q465; cases e465; have qi465 : (0 < t461.length) = True := eq_true (by omega); (try rw [show ((0 : Int)).toNat = 0 from rfl] at hx465_0); (try rw [Addr.add_zero'] at hx465_0); replace p465 := eq_true p465; replace q465 := eq_true q465; have p466 : 0 ≤ (1 : Int) := (by omega); have q466 : 1 < (t461.length : Int) := of_decide_eq_true z11_14; obtain ⟨ad466, e466, hx466_0⟩ := Kd.at_int (Kd.R_reads' HO463.out).2.2 1 p466 q466; obtain rfl : ad465 = ad466 := (by injection e466); (try simp only [show (1 : Int).toNat = 1 from rfl, Nat.reduceMul, Nat.reduceEqDiff, Go.Addr.add, ↓reduceIte] at hx466_0); have qi466 : (1 < t461.length) = True := eq_true (by omega); (try rw [show ((1 : Int)).toNat = 1 from rfl] at hx466_0); replace p466 := eq_true p466; replace q466 := eq_true q466) | (go_at_call 10; (with_reducible refine (impl_EnergyFor.calls (rd t461 0) (rd t461 1) t467 _ A41.out).mono ?_); rintro e w' ⟨rfl, ⟨nd, rfl⟩⟩; (try first | exact ⟨rfl, _, World.drewN_drewN _ _ _⟩ | exact ⟨rfl, _, Eq.trans (World.drewN_drewN _ _ _) (congrArg (World.drewN _) (Nat.add_assoc _ _ _))⟩); have p468 : 0 ≤ (0 : Int) := (by omega); have q468 : 0 < (t461.length : Int) := of_decide_eq_true z11_14; obtain ⟨ad468, e468, hx468_0⟩ := Kd.at_int (Kd.R_reads' HO463.out).2.2 0 p468 q468; obtain rfl : ad465 = ad468 := (by injection e468); have qi468 : (0 < t461.length) = True := eq_true (by omega); (try rw [show ((0 : Int)).toNat = 0 from rfl] at hx468_0); (try rw [Addr.add_zero'] at hx468_0); replace p468 := eq_true p468; replace q468 := eq_true q468) | (go_at_call 10; (with_reducible refine (impl_EnergyFor.calls (rd t461 0) 0 t469 _ A42.out).mono ?_); rintro e w' ⟨rfl, ⟨nd, rfl⟩⟩; (try first | exact ⟨rfl, _, World.drewN_drewN _ _ _⟩ | exact ⟨rfl, _, Eq.trans (World.drewN_drewN _ _ _) (congrArg (World.drewN _) (Nat.add_assoc _ _ _))⟩); have p470 : 0 ≤ (1 : Int) := (by omega); have q470 : 1 < (t461.length : Int) := of_decide_eq_true z11_14; obtain ⟨ad470, e470, hx470_0⟩ := Kd.at_int (Kd.R_reads' HO463.out).2.2 1 p470 q470; obtain rfl : ad465 = ad470 := (by injection e470); (try simp only [show (1 : Int).toNat = 1 from rfl, Nat.reduceMul, Nat.reduceEqDiff, Go.Addr.add, ↓reduceIte] at hx470_0); have qi470 : (1 < t461.length) = True := eq_true (by omega); (try rw [show ((1 : Int)).toNat = 1 from rfl] at hx470_0); replace p470 := eq_true p470; replace q470 := eq_true q470) | (go_at_call 10; (with_reducible refine (impl_EnergyFor.calls 0 (rd t461 1) t471 _ A43.out).mono ?_); rintro e w' ⟨rfl, ⟨nd, rfl⟩⟩; (try first | exact ⟨rfl, _, World.drewN_drewN _ _ _⟩ | exact ⟨rfl, _, Eq.trans (World.drewN_drewN _ _ _) (congrArg (World.drewN _) (Nat.add_assoc _ _ _))⟩))))
                      go_ret
                      exact ⟨by first | rfl | (simp [errW_none, errW_some] <;> rfl) | (simp [*, errW_none, errW_some] <;> rfl) | (simp [*, errW_none, errW_some, i64_w]; done), by repeat (first | (with_reducible first | exact HB.out | apply below_alloc | apply pw_below_drewN | apply below_drew1 | refine below_set ?_ GE456.out) | exact HB.out)⟩
                    · rw [if_neg c40] at H
                      exact absurd H (by simp)
                  · rw [if_neg c39] at H
                    exact absurd H (by simp)
                · rw [if_neg c38] at H
                  have c38b0 : (t464 == 0) = false := beq_eq_false_iff_ne.mpr c38
                  have c38b1 : (t464 != 0) = true := bne_iff_ne.mpr c38
                  obtain rfl := Option.some.inj H
                  go_wp2_with (first | (go_at_call 9; (with_reducible refine (spec_DrawPlaces.calls k2 _ _ l0 t461 _ ?side1 ?side2 A36.out).mono ?_); (case side1 => exact z11_9); (case side2 => exact HC0.out); rintro e w46 ⟨v462, rfl, ho0, hb⟩; have n0_ := Aside0.mk (Kd.R_below z11_3 hb); have n1_ := Aside0.mk (Kd.R_lower ho0 (below_size z11_0)); have n2_ := Aside0.mk (blk_below (g := gb456) (o := .cells #[.slice Ao7 t450.length co7, .int .i64 t453, .int .i64 t454, .int .i64 t455] 28 (0, 0)) z11_2 hb); have n3_ := Aside0.mk (below_step z11_0 hb); clear HO_457000; clear BK456; clear HB; have HO_457000 := n0_; have HO463 := n1_; have BK456 := n2_; have HB := n3_; clear n0_ n1_ n2_ n3_; (try clear hb); (try clear hb2); (try clear hk); (try clear hi); (try clear ho0)) | (go_at_call 8; (with_reducible refine (impl_RecoveryCost.calls 0 t464 _ A37.out).mono ?_); rintro e w' ⟨rfl, ⟨nd, rfl⟩⟩; (try first | exact ⟨rfl, _, World.drewN_drewN _ _ _⟩ | exact ⟨rfl, _, Eq.trans (World.drewN_drewN _ _ _) (congrArg (World.drewN _) (Nat.add_assoc _ _ _))⟩)))
                  repeat (go_quiet (first | (go_at_call 9; (with_reducible refine (spec_DrawPlaces.calls k2 _ _ l0 t461 _ ?side1 ?side2 A36.out).mono ?_); (case side1 => exact z11_9); (case side2 => exact HC0.out); rintro e w46 ⟨v462, rfl, ho0, hb⟩; have n0_ := Aside0.mk (Kd.R_below z11_3 hb); have n1_ := Aside0.mk (Kd.R_lower ho0 (below_size z11_0)); have n2_ := Aside0.mk (blk_below (g := gb456) (o := .cells #[.slice Ao7 t450.length co7, .int .i64 t453, .int .i64 t454, .int .i64 t455] 28 (0, 0)) z11_2 hb); have n3_ := Aside0.mk (below_step z11_0 hb); clear HO_457000; clear BK456; clear HB; have HO_457000 := n0_; have HO463 := n1_; have BK456 := n2_; have HB := n3_; clear n0_ n1_ n2_ n3_; (try clear hb); (try clear hb2); (try clear hk); (try clear hi); (try clear ho0)) | (go_at_call 8; (with_reducible refine (impl_RecoveryCost.calls 0 t464 _ A37.out).mono ?_); rintro e w' ⟨rfl, ⟨nd, rfl⟩⟩; (try first | exact ⟨rfl, _, World.drewN_drewN _ _ _⟩ | exact ⟨rfl, _, Eq.trans (World.drewN_drewN _ _ _) (congrArg (World.drewN _) (Nat.add_assoc _ _ _))⟩))); try go_wp2_with (first | (go_at_call 9; (with_reducible refine (spec_DrawPlaces.calls k2 _ _ l0 t461 _ ?side1 ?side2 A36.out).mono ?_); (case side1 => exact z11_9); (case side2 => exact HC0.out); rintro e w46 ⟨v462, rfl, ho0, hb⟩; have n0_ := Aside0.mk (Kd.R_below z11_3 hb); have n1_ := Aside0.mk (Kd.R_lower ho0 (below_size z11_0)); have n2_ := Aside0.mk (blk_below (g := gb456) (o := .cells #[.slice Ao7 t450.length co7, .int .i64 t453, .int .i64 t454, .int .i64 t455] 28 (0, 0)) z11_2 hb); have n3_ := Aside0.mk (below_step z11_0 hb); clear HO_457000; clear BK456; clear HB; have HO_457000 := n0_; have HO463 := n1_; have BK456 := n2_; have HB := n3_; clear n0_ n1_ n2_ n3_; (try clear hb); (try clear hb2); (try clear hk); (try clear hi); (try clear ho0)) | (go_at_call 8; (with_reducible refine (impl_RecoveryCost.calls 0 t464 _ A37.out).mono ?_); rintro e w' ⟨rfl, ⟨nd, rfl⟩⟩; (try first | exact ⟨rfl, _, World.drewN_drewN _ _ _⟩ | exact ⟨rfl, _, Eq.trans (World.drewN_drewN _ _ _) (congrArg (World.drewN _) (Nat.add_assoc _ _ _))⟩))))
                  go_ret
                  exact ⟨by first | rfl | (simp [errW_none, errW_some] <;> rfl) | (simp [*, errW_none, errW_some] <;> rfl) | (simp [*, errW_none, errW_some, i64_w]; done), by repeat (first | (with_reducible first | exact HB.out | apply below_alloc | apply pw_below_drewN | apply below_drew1 | refine below_set ?_ GE456.out) | exact HB.out)⟩

/-- THE ONE PURE STATEMENT of laws_FnCosts: yours. -/
def laws_FnCosts.Pure : Prop := ∀ (l0 : List Int), l0.length ≤ maxLen → l0.length * 1 ≤ 140737488351232 → (∀ x ∈ l0, (Lit.int .u8 x).wf = true) → ∃ k, laws_FnCosts.f k l0 = some true
theorem laws_FnCosts.walk (P : laws_FnCosts.Pure) (a0 : Option Addr) (len0 cap0 : Nat) (z0 : List Int) (w : World) (w0 : (a0 = none ∧ len0 = 0 ∧ cap0 = 0 ∧ z0 = []) ∨ ∃ x, a0 = some x ∧ len0 ≤ cap0 ∧ cap0 ≤ maxLen ∧ z0.length = cap0 ∧ (∀ i, i < z0.length → w.cell? (x.add i) = some (.int .u8 (z0.getD i 0))) ∧ ∀ n ∈ z0, (Lit.int .u8 n).wf = true) (y0 : len0 * 1 ≤ 140737488351232) :
    Calls Try.prog 3 #[.slice a0 len0 cap0] w fun e w' => e = .returned (.bool true) ∧ Below w.heap.size w w' := by
  obtain ⟨l0, rfl, hr0, hm0, hw0, hc0⟩ := ReadsInt.ofRowC w0
  obtain ⟨k, h⟩ := P l0 hm0 y0 hw0
  refine (laws_FnCosts.calls k _ _ l0 true w (Kd.C_of_reads (d := (0 : Int)) (h1 := fun _ => rfl) hr0) hc0 h).mono ?_
  rintro e w' ⟨rfl, hd⟩
  exact ⟨rfl, hd⟩

end Go.Proofs.Ytipcjegkagpelaa.G
