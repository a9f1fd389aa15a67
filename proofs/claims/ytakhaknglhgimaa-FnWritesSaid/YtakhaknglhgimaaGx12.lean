/- Functions of the program as plain Lean functions, and that each call comes to its function's answer; written by a program of the session. No condition. -/
import Derived.Test.YtakhaknglhgimaaGx0
import Derived.Test.YtakhaknglhgimaaGx3
import Derived.Test.YtakhaknglhgimaaGx4
namespace Go.Proofs.Ytakhaknglhgimaa.G
open Go.RowKit Go.Proofs.YtakhaknglhgimaaW.PrintWords Go.Proofs.YtakhaknglhgimaaW.PrintLast Go.Proofs.YtakhaknglhgimaaW.PrintMore
attribute [local go_sem] max2_int min2_int max_two min_two max_three min_three max_four min_four   -- for this text's walks alone
set_option linter.unusedVariables false
set_option linter.unusedSimpArgs false

-- NOT PRINTED: function 156 (slices_pdqsortOrdered_int)

-- NOT PRINTED: function 126 (slices_Sort_int_int)

-- NOT PRINTED: function 127 (slices_Compact_int_int)

theorem z12_0 {P : Prop} (h : P := by first | (go_simp; done) | (go_simp; rfl)) : P := h
theorem z12_1 {P : Prop} (h : P := by first | (with_reducible assumption) | assumption) : P := h
/-! ### impl_written: function 85 -/
theorem put6_far {w : World} {g k : Nat} (h : k ≠ g) (v0 v1 v2 v3 v4 v5 : Value) : (Sep.put6 w g v0 v1 v2 v3 v4 v5).heap[k]? = w.heap[k]? := by
  unfold Sep.put6
  rw [Below.heap_setCell _ _ _ k h, Below.heap_setCell _ _ _ k h, Below.heap_setCell _ _ _ k h, Below.heap_setCell _ _ _ k h, Below.heap_setCell _ _ _ k h, Below.heap_setCell _ _ _ k h]
/-- Whether a statement of this kind writes a variable. -/
def writes (x : S77) : Bool := decide (x.f0 = 1) || x.f0 == 2
theorem writes_eq (x : S77) : impl_hasVar.f x.f0 = some (writes x) := by
  unfold impl_hasVar.f writes
  by_cases h : x.f0 = 1 <;> simp [h]
/-- The variables that are written by the statements that q names, from number i on. -/
def writtenL (q : Int → Bool) : List S77 → Int → List Int
  | [], _ => []
  | x :: r, i => if writes x = true ∧ q i = true then x.f1 :: writtenL q r (i + 1) else writtenL q r (i + 1)
theorem drop_S77 {l : List S77} {i : Int} (h0 : 0 ≤ i) (h : i < (l.length : Int)) : l.drop i.toNat = rd_T77 l i :: l.drop (i + 1).toNat := by
  have h1 : i.toNat < l.length := by omega
  have h2 : (i + 1).toNat = i.toNat + 1 := by omega
  unfold rd_T77
  rw [h2, List.drop_eq_getElem_cons h1, List.getD_eq_getElem?_getD, List.getElem?_eq_getElem h1]
  rfl
set_option maxHeartbeats 8000000 in
set_option maxRecDepth 100000 in
theorem impl_written.calls (q : Int → Bool) (g : Nat) (cb : Array Value) (eg : ∀ args w, (callFunc g args).run Try.prog w = .ok (.enter g args) w) (A0 : Option Addr) (c0 : Nat) (l0 : List S77) (w : World) (hr0 : Kd.C k77 w A0 l0.length l0) (hc0 : l0.length ≤ c0) (hl : l0.length < 17592186044415)
    (hq : ∀ (i : Int) (w' : World), 0 ≤ i → i < (l0.length : Int) → Below w.heap.size w w' → Calls Try.prog g (#[.int .i64 i] ++ cb) w' fun e w'' => e = .returned (.bool (q i)) ∧ Drawn0 w' w'') :
    Calls Try.prog 85 #[.slice A0 l0.length c0, .func (.func g) #[] cb] w fun e w' => ∃ v0_ : Value, e = .returned (v0_) ∧ Kd.R (Kd.int .i64) 3 w' w.heap.size (fun _ => True) v0_ (setOf (writtenL q l0 0)) ∧ Below w.heap.size w w' := by
  have HR0 := Aside0.mk hr0
  have HC0 := Aside0.mk hc0
  have HL := Aside0.mk hl
  have HQ := Aside0.mk hq
  clear hr0 hc0 hl hq
  go_enter Try.func85, Try.ntmps85
  go_wp2_with (first | ((with_reducible refine gate_dst (N := 8) rfl ?_); refine Kd.R_lit (Kd.int .i64) _ 3 ?hg (N := 8) ?hd (xs := ([] : List Int)) (inner := []) (ok := fun _ => True) (okp := fun _ => True) ?hr ?hp (fun _ hk => hk) trivial (Below.refl _ _) (Nat.le_refl _) (by simp) ?_; (case hd => rfl); (case hg => rfl); (case hr => exact z12_0); (case hp => exact (Reps.none _ _)); intro v6 w1 ho hb hg hat; have R1 := Aside0.mk ho; have HB1 := Aside0.mk hb; clear ho hb hg hat) | fail)
  go_loopw [5, 11] (fun v5 v11 w' => ∃ (x : Int) (xs : List Int), v11 = .int .i64 x ∧ Aside0 (0 ≤ x) ∧ Aside0 (x ≤ (l0.length : Int)) ∧ Aside0 (xs ++ writtenL q (l0.drop x.toNat) x = writtenL q l0 0) ∧ Aside0 ((xs.length : Int) ≤ x) ∧ Aside0 (Sep.rowI 3 w' v5 xs) ∧ Aside0 (∀ k, v5.ownBlock = some k → w.heap.size ≤ k) ∧ Aside0 (Below w.heap.size w w')) (fun _ v11 _ => l0.length - (intOf v11).toNat)
  case atStart => exact ⟨0, [], rfl, ⟨by omega⟩, ⟨by omega⟩, ⟨rfl⟩, ⟨by simp⟩, ⟨Sep.rowI.of_R R1.out⟩, ⟨fun k hk => Kd.R_base R1.out k hk⟩, HB1⟩
  case round =>
    clear R1 HB1
    obtain ⟨x, xs, rfl, Hx0, Hx1, HX, LX, RO, VO, HB⟩ := hrel
    obtain ⟨A3, c3, e3, lc3, kc3⟩ := RO.out.open_
    subst e3
    have LC3 := Aside0.mk lc3
    have KC3 := Aside0.mk kc3
    clear lc3 kc3
    by_cases hlt : x < (l0.length : Int)
    · have c1 : decide (x < (l0.length : Int)) = true := decide_eq_true hlt
      obtain ⟨ad, e, hx0, hx1, hx2, hx3, hx4, hx5⟩ := at_T77 (Kd.C_below HR0.out HB.out) x Hx0.out hlt
      cases e
      have HXT := Aside0.mk (show xs ++ writtenL q (rd_T77 l0 x :: l0.drop (x + 1).toNat) x = writtenL q l0 0 by rw [← drop_S77 Hx0.out hlt]; exact HX.out)
      clear HX
      obtain ⟨y, hy⟩ : ∃ y, rd_T77 l0 x = y := ⟨_, rfl⟩
      rw [hy] at hx0 hx1 hx2 hx3 hx4 hx5 HXT
      have HV0 := writes_eq y
      obtain ⟨x0, x1, x2, x3, x4, x5⟩ := y
      simp only at hx0 hx1 hx2 hx3 hx4 hx5 HV0
      have HXU := HXT.out
      rw [writtenL] at HXU
      have Hlt := Aside0.mk hlt
      have p1 := eq_true Hx0.out
      have q1 := eq_true hlt
      have hsum : wrap64 (x + 1) = x + 1 := by have := HL.out; have := Hx0.out; unfold wrap64; omega
      have Hs := Aside0.mk hsum
      clear hsum hlt hy HXT
      generalize writes ⟨x0, x1, x2, ⟨x3, x4, x5⟩⟩ = bw at HV0 HXU
      have HV := Aside0.mk HV0
      cases bw with
      | false =>
        have HXV := Aside0.mk (show xs ++ writtenL q (l0.drop (x + 1).toNat) (x + 1) = writtenL q l0 0 by rw [if_neg (by simp)] at HXU; exact HXU)
        clear HV0 HXU
        go_wp2_with (first | ((with_reducible refine gate_dst (N := 7) rfl ?_); refine box_event ?hg (N := 7) ?hd (cs := #[.int .i64 0, .int .i64 0, .int .i64 0, .int .i64 0, .int .i64 0, .int .i64 0]) (t := 77) ?hr ?_; (case hd => rfl); (case hg => rfl); (case hr => exact z12_0); intro g7 hg7 w2 hp hb; have B2 := Aside0.mk hp; have HB2 := Aside0.mk (below_step HB.out hb); have RO2 := Aside0.mk (RO.out.below hb); have G7 : Aside0 (w.heap.size ≤ g7) := ⟨by rw [hg7]; exact HB.out.size⟩; clear hg7 hp hb; obtain ⟨⟨_, _, _, _, _, _⟩, ⟨_, _, _, _, _, _⟩⟩ := Sep.blk6 B2.out) | ((with_reducible refine gate_store (t := 77) (p := 7) rfl ?_); refine store_event (t := 77) (p := 7) (v := ?vo1_) (w1 := Sep.put6 w2 g7 (.int .i64 x0) (.int .i64 x1) (.int .i64 x2) (.int .i64 x3) (.int .i64 x4) (.int .i64 x5)) ?hg ?ho ?hn ?hr ?_; (case ho => rfl); (case hg => rfl); (case hn => rfl); (case hr => exact z12_0); intro w3 hw; have B3 : Aside0 (w3.heap[g7]? = some (.cells #[.int .i64 x0, .int .i64 x1, .int .i64 x2, .int .i64 x3, .int .i64 x4, .int .i64 x5] 77 (0, 0))) := ⟨by rw [hw]; exact Sep.put6_blk B2.out _ _ _ _ _ _⟩; have HB3 : Aside0 (Below w.heap.size w w3) := ⟨by rw [hw]; exact Sep.put6_below HB2.out G7.out _ _ _ _ _ _⟩; have NG : Aside0 (∀ k, (Value.slice A3 xs.length c3).ownBlock = some k → k ≠ g7) := ⟨fun k hk => RO2.out.ne B2.out (by decide) k hk⟩; have RO3 : Aside0 (Sep.rowI 3 w3 (.slice A3 xs.length c3) xs) := ⟨RO2.out.keep (fun k hk => by rw [hw]; exact put6_far (NG.out k hk) _ _ _ _ _ _)⟩; clear hw; have hd0 : w3.cell? ⟨g7, 0, none⟩ = some (.int .i64 x0) := (blk_cell B3.out 0).trans rfl; have hd1 : w3.cell? ⟨g7, 1, none⟩ = some (.int .i64 x1) := (blk_cell B3.out 1).trans rfl) | (go_at_call 125; (with_reducible refine (impl_hasVar.calls x0 false _ HV.out).mono ?_); rintro e w' ⟨rfl, ⟨nd, rfl⟩⟩) | fail)
        go_roundw
        case rel => exact ⟨x + 1, xs, by rw [Hs.out], ⟨by have := Hx0.out; omega⟩, ⟨by have := Hlt.out; omega⟩, HXV, ⟨by have := LX.out; omega⟩, ⟨Kd.R_drewN RO3.out _⟩, VO, ⟨by repeat (first | exact HB3.out | apply pw_below_drewN | apply below_drew1)⟩⟩
        case measure =>
          have := Hlt.out
          have := Hx0.out
          simp only [intOf, Hs.out]
          omega
      | true =>
        obtain ⟨bq, hbq⟩ : ∃ bq, q x = bq := ⟨_, rfl⟩
        rw [hbq] at HXU
        have HBQ := Aside0.mk hbq
        clear hbq HV0
        go_wp2_with (first | ((with_reducible refine gate_dst (N := 7) rfl ?_); refine box_event ?hg (N := 7) ?hd (cs := #[.int .i64 0, .int .i64 0, .int .i64 0, .int .i64 0, .int .i64 0, .int .i64 0]) (t := 77) ?hr ?_; (case hd => rfl); (case hg => rfl); (case hr => exact z12_0); intro g7 hg7 w2 hp hb; have B2 := Aside0.mk hp; have HB2 := Aside0.mk (below_step HB.out hb); have RO2 := Aside0.mk (RO.out.below hb); have G7 : Aside0 (w.heap.size ≤ g7) := ⟨by rw [hg7]; exact HB.out.size⟩; clear hg7 hp hb; obtain ⟨⟨_, _, _, _, _, _⟩, ⟨_, _, _, _, _, _⟩⟩ := Sep.blk6 B2.out) | ((with_reducible refine gate_store (t := 77) (p := 7) rfl ?_); refine store_event (t := 77) (p := 7) (v := ?vo1_) (w1 := Sep.put6 w2 g7 (.int .i64 x0) (.int .i64 x1) (.int .i64 x2) (.int .i64 x3) (.int .i64 x4) (.int .i64 x5)) ?hg ?ho ?hn ?hr ?_; (case ho => rfl); (case hg => rfl); (case hn => rfl); (case hr => exact z12_0); intro w3 hw; have B3 : Aside0 (w3.heap[g7]? = some (.cells #[.int .i64 x0, .int .i64 x1, .int .i64 x2, .int .i64 x3, .int .i64 x4, .int .i64 x5] 77 (0, 0))) := ⟨by rw [hw]; exact Sep.put6_blk B2.out _ _ _ _ _ _⟩; have HB3 : Aside0 (Below w.heap.size w w3) := ⟨by rw [hw]; exact Sep.put6_below HB2.out G7.out _ _ _ _ _ _⟩; have NG : Aside0 (∀ k, (Value.slice A3 xs.length c3).ownBlock = some k → k ≠ g7) := ⟨fun k hk => RO2.out.ne B2.out (by decide) k hk⟩; have RO3 : Aside0 (Sep.rowI 3 w3 (.slice A3 xs.length c3) xs) := ⟨RO2.out.keep (fun k hk => by rw [hw]; exact put6_far (NG.out k hk) _ _ _ _ _ _)⟩; clear hw; have hd0 : w3.cell? ⟨g7, 0, none⟩ = some (.int .i64 x0) := (blk_cell B3.out 0).trans rfl; have hd1 : w3.cell? ⟨g7, 1, none⟩ = some (.int .i64 x1) := (blk_cell B3.out 1).trans rfl) | (go_at_call 125; (with_reducible refine (impl_hasVar.calls x0 true _ HV.out).mono ?_); rintro e w' ⟨rfl, ⟨nd, rfl⟩⟩) | fail)
        refine (HQ.out x _ Hx0.out Hlt.out (by repeat (first | exact HB3.out | apply pw_below_drewN | apply below_drew1))).mono ?_
        rintro e w' ⟨rfl, ⟨nd2, rfl⟩⟩
        rw [HBQ.out]
        cases bq with
        | false =>
          have HXV := Aside0.mk (show xs ++ writtenL q (l0.drop (x + 1).toNat) (x + 1) = writtenL q l0 0 by rw [if_neg (by simp)] at HXU; exact HXU)
          clear HXU
          go_wp2
          go_roundw
          case rel => exact ⟨x + 1, xs, by rw [Hs.out], ⟨by have := Hx0.out; omega⟩, ⟨by have := Hlt.out; omega⟩, HXV, ⟨by have := LX.out; omega⟩, ⟨RO3.out.below (by repeat (first | exact Below.refl _ _ | apply pw_below_drewN | apply below_drew1))⟩, VO, ⟨by repeat (first | exact HB3.out | apply pw_below_drewN | apply below_drew1)⟩⟩
          case measure =>
            have := Hlt.out
            have := Hx0.out
            simp only [intOf, Hs.out]
            omega
        | true =>
          have HXV := Aside0.mk (show (xs ++ [x1]) ++ writtenL q (l0.drop (x + 1).toNat) (x + 1) = writtenL q l0 0 by rw [if_pos (by simp)] at HXU; rw [List.append_assoc]; exact HXU)
          clear HXU
          go_wp2_with (first | ((with_reducible refine gate_builtin (b := .append) (xs := #[.tmp 24, .tmp 27]) rfl ?_); at_builtin; refine Kd.R_append (Kd.int .i64) (w0 := w) w.heap.size rfl (.tmp 24) (.tmp 27) 28 3 (.int .i64 0) 8 rfl Try.underlying28 info3 rfl (by decide) (by omega) (.slice A3 xs.length c3) xs x1 [.int .i64 x1] (fun _ => True) (fun _ => False) rfl rfl ?aP (fun _ hk => hk.elim) ?aF ?aO ?aB ?aS ?aL ?_; (case aP => exact rfl); (case aB => exact (by repeat (first | exact HB3.out | apply pw_below_drewN | apply below_drew1))); (case aF => exact (fun _ _ => trivial)); (case aO => exact (by repeat (first | exact (RO3.out.to_R (fun k hk => VO.out k hk) (fun _ _ => trivial)) | apply Kd.R_drewN | apply Kd.R_drew))); (case aS => exact HB3.out.size); (case aL => have := HL.out; have := LX.out; have := Hlt.out; omega); intro v17 w4 ho hb hg hat; have V4 : Aside0 (∀ k, v17.ownBlock = some k → w.heap.size ≤ k) := ⟨fun k hk => Kd.R_base ho k hk⟩; have R4 := Aside0.mk (Sep.rowI.of_R ho); have HB4 := Aside0.mk hb; clear ho hb hg hat) | fail)
          go_roundw
          case rel => exact ⟨x + 1, xs ++ [x1], by rw [Hs.out], ⟨by have := Hx0.out; omega⟩, ⟨by have := Hlt.out; omega⟩, HXV, ⟨by have := LX.out; rw [List.length_append, List.length_singleton]; omega⟩, R4, V4, HB4⟩
          case measure =>
            have := Hlt.out
            have := Hx0.out
            simp only [intOf, Hs.out]
            omega
    · have c1 : decide (x < (l0.length : Int)) = false := decide_eq_false hlt
      have ex := HX.out
      rw [List.drop_eq_nil_of_le (by have := Hx0.out; omega), writtenL, List.append_nil] at ex
      have EX := Aside0.mk ex
      have LS : Aside0 (xs.length < 4611686018427387904) := ⟨by have := HL.out; have := LX.out; have := Hx1.out; omega⟩
      clear ex hlt HX
      go_wp2_with (first | (go_at_call 126; (with_reducible refine (sort_calls (.slice A3 xs.length c3) xs _ RO.out LS.out).mono ?_); rintro e w5 ⟨rfl, hr5, hg5⟩; have R5 := Aside0.mk hr5; have HB5 := Aside0.mk (below_grown HB.out hg5 VO.out); clear hr5 hg5) | (go_at_call 127; (with_reducible refine (compact_calls (.slice A3 xs.length c3) _ _ R5.out).mono ?_); rintro e w6 ⟨v', rfl, hr6, he6, hg6⟩; have R6 := Aside0.mk hr6; have E6 := Aside0.mk he6; have HB6 := Aside0.mk (below_grown HB5.out hg6 VO.out); clear hr6 he6 hg6) | fail)
      go_ret
      refine ⟨_, rfl, ?_, HB6.out⟩
      rw [← EX.out]
      exact R6.out.to_R (fun k hk => VO.out k (E6.out ▸ hk)) (fun _ _ => trivial)

-- NOT PRINTED: function 86 (impl_MayWrite_1)

/-! ### impl_MayWrite: function 44 -/
set_option maxRecDepth 100000 in
theorem mayWrite_clo (i : Int) (w : World) : Calls Try.prog 86 (#[.int .i64 i] ++ #[]) w fun e w' => e = .returned (.bool true) ∧ Drawn0 w w' := by
  go_enter Try.func86, Try.ntmps86
  go_wp2
  go_ret
  exact ⟨rfl, Drawn0.refl _⟩
def impl_MayWrite.f (k : Nat) (l0 : List S77) : Option (List Int) := (impl_BlockOk.f k l0).bind fun b => if b = true then (if l0.length < 17592186044415 then some (setOf (writtenL (fun _ => true) l0 0)) else none) else some []
theorem impl_MayWrite.mono : ∀ a0 k, LeO (impl_MayWrite.f k a0) (impl_MayWrite.f (k + 1) a0) := by
  intro a0 k
  unfold impl_MayWrite.f
  exact LeO.bind (impl_BlockOk.mono _ k) (fun _ => LeO.refl _)
set_option maxHeartbeats 8000000 in
set_option maxRecDepth 100000 in
theorem impl_MayWrite.calls (k : Nat) (A0 : Option Addr) (c0 : Nat) (l0 : List S77) (r : List Int) (w : World) (hr0 : Kd.C k77 w A0 l0.length l0) (hc0 : l0.length ≤ c0) (h : impl_MayWrite.f k l0 = some r) :
    Calls Try.prog 44 #[.slice A0 l0.length c0] w fun e w' => ∃ v0_ : Value, e = .returned (v0_) ∧ Kd.R (Kd.int .i64) 3 w' w.heap.size (fun _ => True) v0_ r ∧ Below w.heap.size w w' := by
  unfold impl_MayWrite.f at h
  obtain ⟨b, hb, h⟩ := Option.bind_eq_some_iff.mp h
  have HR0 := Aside0.mk hr0
  have HC0 := Aside0.mk hc0
  have TB := Aside0.mk hb
  clear hr0 hc0 hb
  cases b with
  | false =>
    rw [if_neg (by decide)] at h
    cases h
    go_enter Try.func44, Try.ntmps44
    go_wp2_with (first | (go_at_call 55; (with_reducible refine (impl_BlockOk.calls k _ _ l0 false _ HR0.out HC0.out TB.out).mono ?_); rintro e w1 ⟨rfl, hb1⟩; have HB1 := Aside0.mk hb1; clear hb1) | fail)
    go_ret
    exact ⟨_, rfl, Kd.R_nil _ _ _ _ _, HB1.out⟩
  | true =>
    rw [if_pos rfl] at h
    by_cases hl : l0.length < 17592186044415
    · rw [if_pos hl] at h
      have HL := Aside0.mk hl
      clear hl
      cases h
      go_enter Try.func44, Try.ntmps44
      go_wp2_with (first | (go_at_call 55; (with_reducible refine (impl_BlockOk.calls k _ _ l0 true _ HR0.out HC0.out TB.out).mono ?_); rintro e w1 ⟨rfl, hb1⟩; have HB1 := Aside0.mk hb1; clear hb1) | (go_at_call 85; (with_reducible refine (impl_written.calls (fun _ => true) 86 #[] (fun args w => enters_ Try.func86 (by kernel_rfl) (by kernel_rfl) args w) _ _ l0 _ (Kd.C_below HR0.out HB1.out) HC0.out HL.out (fun i w' _ _ _ => mayWrite_clo i w')).mono ?_); rintro e w2 ⟨v2, rfl, ho, hb⟩; have R2 := Aside0.mk (Sep.rowI.of_R ho); have B2 : Aside0 (∀ k, v2.ownBlock = some k → w.heap.size ≤ k) := ⟨fun k hk => Nat.le_trans HB1.out.size (Kd.R_base ho k hk)⟩; have HB2 := Aside0.mk (below_step HB1.out hb); clear ho hb) | fail)
      go_ret
      exact ⟨_, rfl, R2.out.to_R (fun k hk => B2.out k hk) (fun _ _ => trivial), HB2.out⟩
    · rw [if_neg hl] at h
      cases h

-- NOT PRINTED: function 88 (impl_MustWrite_1)

/-! ### impl_MustWrite: function 45 -/
/-- A row of Booleans of the call's own. -/
def rowB (w : World) (v : Value) (xs : List Bool) : Prop := Kd.bool.R 4 w 0 (fun k => v.ownBlock = some k) v xs
section
variable {w w1 : World} {v : Value} {xs : List Bool}
theorem rowB.of_R {base : Nat} {ok : Nat → Prop} (h : Kd.bool.R 4 w base ok v xs) : rowB w v xs := Kd.R_of_own (own_less (Kd.own_of_R h) (Nat.zero_le _)) (fun _ hk => hk)
theorem rowB.keep (h : rowB w v xs) (hm : ∀ k, v.ownBlock = some k → w1.heap[k]? = w.heap[k]?) : rowB w1 v xs := Kd.R_step h (fun k hk _ => hm k hk)
theorem rowB.below (h : rowB w v xs) (hb : Below w.heap.size w w1) : rowB w1 v xs := Kd.R_below h hb
theorem rowB.ne {g t : Nat} {cs : Array Value} (h : rowB w v xs) (hg : w.heap[g]? = some (.cells cs t (0, 0))) (hne : 4 ≠ t) : ∀ k, v.ownBlock = some k → k ≠ g := by
  intro k hk he
  subst he
  obtain ⟨c, hc⟩ := Kd.R_typed h _ hk
  rw [hc] at hg
  injection hg with hg
  injection hg with _ hg _
  exact hne hg
def rdB (xs : List Bool) (i : Int) : Bool := rdOf false xs i
theorem rowB.at_ {A : Option Addr} {n c : Nat} (h : rowB w (.slice A n c) xs) (i : Int) (h0 : 0 ≤ i) (h1 : i < (n : Int)) :
    ∃ g, A = some ⟨g, 0, none⟩ ∧ n = xs.length ∧ w.cell? ⟨g, i.toNat, none⟩ = some (.bool (rdB xs i)) ∧ w.frozen? ⟨g, i.toNat, none⟩ = false ∧ rowB (w.setCell ⟨g, i.toNat, none⟩ (.bool true)) (.slice (some ⟨g, 0, none⟩) n c) (xs.set i.toNat true) := by
  obtain ⟨rfl, hn, _⟩ := Kd.R_reads' h
  obtain ⟨g, cap, he, _⟩ := Kd.R_form h (by omega)
  injection he with e1 e2 e3
  subst e1 e3
  have := own_at_of (d := false) (Kd.own_of_R h) i h0 (by omega)
  exact ⟨g, rfl, rfl, this.1, this.2, (Kd.R_putg h i true).1⟩
end
/-- m places from a on are set. -/
def markN (g : List Bool) (a : Nat) : Nat → List Bool
  | 0 => g
  | m + 1 => (markN g a m).set (a + m) true
theorem markN_len (g : List Bool) (a : Nat) : ∀ m, (markN g a m).length = g.length
  | 0 => rfl
  | m + 1 => by rw [markN, List.length_set, markN_len g a m]
/-- What stands under a test, or is one. -/
def guardL (k : Nat) (l : List S77) : Nat → Int → List Bool → Option (List Bool)
  | 0, _, g => some g
  | d + 1, i, g => if (rd_T77 l i).f0 = 4 then (impl_endOf.f k l i).bind fun e => if e < (l.length : Int) then guardL k l d (i + 1) (markN g i.toNat (e + 1 - i).toNat) else none else guardL k l d (i + 1) g
theorem guardL_mono (k : Nat) (l : List S77) : ∀ (d : Nat) (i : Int) (g : List Bool), LeO (guardL k l d i g) (guardL (k + 1) l d i g)
  | 0, _, _ => LeO.refl _
  | d + 1, i, g => LeO.ite (LeO.bind (impl_endOf.mono _ _ k) (fun e => LeO.ite (guardL_mono k l d _ _) (LeO.refl _))) (guardL_mono k l d _ _)
def impl_MustWrite.f (k : Nat) (l0 : List S77) : Option (List Int) := (impl_BlockOk.f k l0).bind fun b => if b = true then (if l0.length < 17592186044415 then (guardL k l0 l0.length 0 (List.replicate l0.length false)).bind fun g => some (setOf (writtenL (fun i => !rdB g i) l0 0)) else none) else some []
theorem impl_MustWrite.mono : ∀ a0 k, LeO (impl_MustWrite.f k a0) (impl_MustWrite.f (k + 1) a0) := by
  intro a0 k
  unfold impl_MustWrite.f
  exact LeO.bind (impl_BlockOk.mono _ k) (fun _ => LeO.ite (LeO.ite (LeO.bind (guardL_mono k _ _ _ _) (fun _ => LeO.refl _)) (LeO.refl _)) (LeO.refl _))
set_option maxHeartbeats 8000000 in
set_option maxRecDepth 100000 in
theorem mustWrite_clo (A3 : Option Addr) (c3 gp n : Nat) (g : List Bool) (i : Int) (w : World) (hb : w.heap[gp]? = some (.cells #[.slice A3 n c3] 103 (0, 0))) (hr : rowB w (.slice A3 n c3) g) (h0 : 0 ≤ i) (h1 : i < (n : Int)) :
    Calls Try.prog 88 (#[.int .i64 i] ++ #[.pointer (some ⟨gp, 0, none⟩)]) w fun e w' => e = .returned (.bool (!rdB g i)) ∧ Drawn0 w w' := by
  obtain ⟨ga, rfl, hn, hc, hf, _⟩ := hr.at_ i h0 h1
  have hc0 := Sep.blk1 hb
  have p1 := eq_true h0
  have q1 := eq_true h1
  clear hb hr
  go_enter Try.func88, Try.ntmps88
  go_wp2
  go_ret
  exact ⟨rfl, by repeat (first | exact Drawn0.refl _ | apply Drawn0.step)⟩
set_option maxHeartbeats 8000000 in
set_option maxRecDepth 100000 in
theorem impl_MustWrite.calls (k : Nat) (A0 : Option Addr) (c0 : Nat) (l0 : List S77) (r : List Int) (w : World) (hr0 : Kd.C k77 w A0 l0.length l0) (hc0 : l0.length ≤ c0) (h : impl_MustWrite.f k l0 = some r) :
    Calls Try.prog 45 #[.slice A0 l0.length c0] w fun e w' => ∃ v0_ : Value, e = .returned (v0_) ∧ Kd.R (Kd.int .i64) 3 w' w.heap.size (fun _ => True) v0_ r ∧ Below w.heap.size w w' := by
  unfold impl_MustWrite.f at h
  obtain ⟨b, hb, h⟩ := Option.bind_eq_some_iff.mp h
  have HR0 := Aside0.mk hr0
  have HC0 := Aside0.mk hc0
  have TB := Aside0.mk hb
  clear hr0 hc0 hb
  cases b with
  | false =>
    rw [if_neg (by decide)] at h
    cases h
    go_enter Try.func45, Try.ntmps45
    go_wp2_with (first | (go_at_call 55; (with_reducible refine (impl_BlockOk.calls k _ _ l0 false _ HR0.out HC0.out TB.out).mono ?_); rintro e w1 ⟨rfl, hb1⟩; have HB1 := Aside0.mk hb1; clear hb1) | fail)
    go_ret
    exact ⟨_, rfl, Kd.R_nil _ _ _ _ _, HB1.out⟩
  | true =>
    rw [if_pos rfl] at h
    by_cases hl : l0.length < 17592186044415
    · rw [if_pos hl] at h
      have HL := Aside0.mk hl
      clear hl
      obtain ⟨G, hG, h⟩ := Option.bind_eq_some_iff.mp h
      cases h
      have TG := Aside0.mk hG
      clear hG
      go_enter Try.func45, Try.ntmps45
      go_wp2_with (first | (go_at_call 55; (with_reducible refine (impl_BlockOk.calls k _ _ l0 true _ HR0.out HC0.out TB.out).mono ?_); rintro e w1 ⟨rfl, hb1⟩; have HB1 := Aside0.mk hb1; clear hb1) | ((with_reducible refine gate_dst (N := 12) rfl ?_); refine Kd.R_make Kd.bool (w0 := w1) w1.heap.size 4 rfl (N := 12) rfl 103 (.tmp 11) (.tmp 11) rfl (l0.length : Int) rfl rfl Try.underlying103 (.bool false) 1 (by kernel_rfl) rfl (by decide) (by decide) false (ok := fun _ => True) (okp := fun _ => False) rfl (fun _ h => h.elim) trivial (by omega) (by have := HL.out; omega) (Below.refl _ _) (Nat.le_refl _) ?_; intro v12 w2 ho hb hg hat; obtain ⟨A3, c3, e3⟩ := Kd.R_slice ho; rw [List.length_replicate, Int.toNat_natCast] at e3; subst e3; have RG2 : Aside0 (rowB w2 (.slice A3 l0.length c3) (List.replicate l0.length false)) := ⟨by rw [Int.toNat_natCast] at ho; exact rowB.of_R ho⟩; have VG : Aside0 (∀ k, (Value.slice A3 l0.length c3).ownBlock = some k → w.heap.size ≤ k) := ⟨fun k hk => Nat.le_trans HB1.out.size (Kd.R_base ho k hk)⟩; have HB2 := Aside0.mk (below_step HB1.out hb); clear ho hb hg hat) | ((with_reducible refine gate_dst (N := 3) rfl ?_); refine box_event ?hg (N := 3) ?hd (cs := #[.slice none 0 0]) (t := 103) ?hr ?_; (case hd => rfl); (case hg => rfl); (case hr => exact z12_0); intro gp hgp w3 hp hb; have B3 := Aside0.mk hp; have HB3 := Aside0.mk (below_step HB2.out hb); have RG3 := Aside0.mk (RG2.out.below hb); have GP : Aside0 (w.heap.size ≤ gp) := ⟨by rw [hgp]; exact HB2.out.size⟩; clear hgp hp hb; have hc0 := Sep.blk1 B3.out; have hf0 := blk_frozen B3.out 0) | ((with_reducible refine gate_store (t := 103) (p := 3) rfl ?_); refine store_event (t := 103) (p := 3) (v := ?vo1_) (w1 := w3.setCell ⟨gp, 0, none⟩ (.slice A3 l0.length c3)) ?hg ?ho ?hn ?hr ?_; (case ho => rfl); (case hg => rfl); (case hn => rfl); (case hr => exact z12_0); intro w4 hw; have B4 : Aside0 (w4.heap[gp]? = some (.cells #[.slice A3 l0.length c3] 103 (0, 0))) := ⟨by rw [hw]; exact blk_put B3.out 0 _ rfl⟩; have HB4 : Aside0 (Below w.heap.size w w4) := ⟨by rw [hw]; exact below_set HB3.out GP.out⟩; have RG4 : Aside0 (rowB w4 (.slice A3 l0.length c3) (List.replicate l0.length false)) := ⟨RG3.out.keep (fun k hk => by rw [hw, Below.heap_setCell _ _ _ k (RG3.out.ne B3.out (by decide) k hk)])⟩; clear hw hc0 hf0) | fail)
      go_loopw [15] (fun v15 w' => ∃ (x : Int) (d : Nat) (gd : List Bool), v15 = .int .i64 x ∧ Aside0 (0 ≤ x) ∧ Aside0 (x + (d : Int) = (l0.length : Int)) ∧ Aside0 (guardL k l0 d x gd = some G) ∧ Aside0 (rowB w' (.slice A3 l0.length c3) gd) ∧ Aside0 (w'.heap[gp]? = some (.cells #[.slice A3 l0.length c3] 103 (0, 0))) ∧ Aside0 (Below w.heap.size w w')) (fun v15 _ => l0.length - (intOf v15).toNat)
      case atStart => exact ⟨0, l0.length, _, rfl, ⟨by omega⟩, ⟨by omega⟩, TG, RG4, B4, HB4⟩
      case round =>
        clear TG RG4 B4 HB4 RG3 B3 HB3 RG2 HB2 HB1
        obtain ⟨x, d, gd, rfl, Hx0, Hx1, TG, RG, BG, HB⟩ := hrel
        have hsum : wrap64 (x + 1) = x + 1 := by have := HL.out; have := Hx0.out; have := Hx1.out; unfold wrap64; omega
        have Hs := Aside0.mk hsum
        clear hsum
        cases d with
        | zero =>
          have c1 : decide (x < (l0.length : Int)) = false := decide_eq_false (by have := Hx1.out; omega)
          have eg := TG.out
          rw [guardL] at eg
          cases eg
          go_wp2_with (first | (go_at_call 85; (with_reducible refine (impl_written.calls (fun i => !rdB G i) 88 #[.pointer (some ⟨gp, 0, none⟩)] (fun args w => enters_ Try.func88 (by kernel_rfl) (by kernel_rfl) args w) _ _ l0 _ (Kd.C_below HR0.out HB.out) HC0.out HL.out (fun i w' h0 h1 hb => mustWrite_clo A3 c3 gp l0.length G i w' (blk_below BG.out hb) (RG.out.below hb) h0 h1)).mono ?_); rintro e w9 ⟨v9, rfl, ho, hb⟩; have R9 := Aside0.mk (Sep.rowI.of_R ho); have B9 : Aside0 (∀ k, v9.ownBlock = some k → w.heap.size ≤ k) := ⟨fun k hk => Nat.le_trans HB.out.size (Kd.R_base ho k hk)⟩; have HB9 := Aside0.mk (below_step HB.out hb); clear ho hb) | fail)
          go_ret
          exact ⟨_, rfl, R9.out.to_R (fun k hk => B9.out k hk) (fun _ _ => trivial), HB9.out⟩
        | succ d =>
          have hlt : x < (l0.length : Int) := by have := Hx1.out; omega
          have Hlt := Aside0.mk hlt
          have c1 : decide (x < (l0.length : Int)) = true := decide_eq_true hlt
          obtain ⟨ad, e, hx0, hx1, hx2, hx3, hx4, hx5⟩ := at_T77 (Kd.C_below HR0.out HB.out) x Hx0.out hlt
          cases e
          have TH := TG.out
          clear TG
          rw [guardL] at TH
          obtain ⟨y, hy⟩ : ∃ y, rd_T77 l0 x = y := ⟨_, rfl⟩
          rw [hy] at hx0 hx1 hx2 hx3 hx4 hx5 TH
          obtain ⟨x0, x1, x2, x3, x4, x5⟩ := y
          simp only at hx0 hx1 hx2 hx3 hx4 hx5 TH
          have p1 := eq_true Hx0.out
          have q1 := eq_true hlt
          clear hy hlt
          by_cases h4 : x0 = 4
          · rw [if_pos h4] at TH
            subst h4
            obtain ⟨en, he, TH⟩ := Option.bind_eq_some_iff.mp TH
            by_cases hen : en < (l0.length : Int)
            · rw [if_pos hen] at TH
              have TE := Aside0.mk he
              have HEN := Aside0.mk hen
              have TI := Aside0.mk TH
              clear he hen TH
              go_wp2_with (first | ((with_reducible refine gate_dst (N := 5) rfl ?_); refine box_event ?hg (N := 5) ?hd (cs := #[.int .i64 0, .int .i64 0, .int .i64 0, .int .i64 0, .int .i64 0, .int .i64 0]) (t := 77) ?hr ?_; (case hd => rfl); (case hg => rfl); (case hr => exact z12_0); intro g5 hg5 w5 hp hb; have B5 := Aside0.mk hp; have HB5 := Aside0.mk (below_step HB.out hb); have RG5 := Aside0.mk (RG.out.below hb); have BG5 := Aside0.mk (blk_below BG.out hb); have G5 : Aside0 (w.heap.size ≤ g5) := ⟨by rw [hg5]; exact HB.out.size⟩; clear hg5 hp hb; obtain ⟨⟨_, _, _, _, _, _⟩, ⟨_, _, _, _, _, _⟩⟩ := Sep.blk6 B5.out) | ((with_reducible refine gate_store (t := 77) (p := 5) rfl ?_); refine store_event (t := 77) (p := 5) (v := ?vo5_) (w1 := Sep.put6 w5 g5 (.int .i64 4) (.int .i64 x1) (.int .i64 x2) (.int .i64 x3) (.int .i64 x4) (.int .i64 x5)) ?hg ?ho ?hn ?hr ?_; (case ho => rfl); (case hg => rfl); (case hn => rfl); (case hr => exact z12_0); intro w6 hw; have B6 : Aside0 (w6.heap[g5]? = some (.cells #[.int .i64 4, .int .i64 x1, .int .i64 x2, .int .i64 x3, .int .i64 x4, .int .i64 x5] 77 (0, 0))) := ⟨by rw [hw]; exact Sep.put6_blk B5.out _ _ _ _ _ _⟩; have HB6 : Aside0 (Below w.heap.size w w6) := ⟨by rw [hw]; exact Sep.put6_below HB5.out G5.out _ _ _ _ _ _⟩; have RG6 : Aside0 (rowB w6 (.slice A3 l0.length c3) gd) := ⟨RG5.out.keep (fun k hk => by rw [hw]; exact put6_far (RG5.out.ne B5.out (by decide) k hk) _ _ _ _ _ _)⟩; have BG6 : Aside0 (w6.heap[gp]? = some (.cells #[.slice A3 l0.length c3] 103 (0, 0))) := ⟨by rw [hw, put6_far (blk_ne BG5.out B5.out (by decide))]; exact BG5.out⟩; clear hw; have hd0 : w6.cell? ⟨g5, 0, none⟩ = some (.int .i64 4) := (blk_cell B6.out 0).trans rfl) | fail)
              go_loopw [6] (fun v6 w' => ∃ (kk : Int) (m : Nat), v6 = .int .i64 kk ∧ Aside0 (kk = x + (m : Int)) ∧ Aside0 (m = 0 ∨ kk ≤ en + 1) ∧ Aside0 (rowB w' (.slice A3 l0.length c3) (markN gd x.toNat m)) ∧ Aside0 (w'.heap[gp]? = some (.cells #[.slice A3 l0.length c3] 103 (0, 0))) ∧ Aside0 (Below w.heap.size w w')) (fun v6 _ => (en + 1 - intOf v6).toNat)
              case atStart => exact ⟨x, 0, rfl, ⟨by simp⟩, ⟨.inl rfl⟩, RG6, BG6, HB6⟩
              case round =>
                clear RG6 BG6 HB6
                obtain ⟨kk, m, rfl, Hk, Hk1, RGk, BGk, HBk⟩ := hrel
                by_cases hke : kk ≤ en
                · have c2 : decide (kk ≤ en) = true := decide_eq_true hke
                  have HKE := Aside0.mk hke
                  have hk0 : 0 ≤ kk := by have := Hk.out; have := Hx0.out; omega
                  have hkl : kk < (l0.length : Int) := by have := HEN.out; omega
                  have K0 := Aside0.mk hk0
                  have KL := Aside0.mk hkl
                  have p2 := eq_true hk0
                  have q2 := eq_true hkl
                  have hks : wrap64 (kk + 1) = kk + 1 := by have := HL.out; unfold wrap64; omega
                  have Hks := Aside0.mk hks
                  clear hke hk0 hkl hks
                  go_wp2_with (first | (go_at_call 87; (with_reducible refine (impl_endOf.calls k _ _ l0 x en _ ?_ HC0.out TE.out).mono ?_); (exact Kd.C_below HR0.out HBk.out); rintro e wq ⟨rfl, hd⟩; have hbq : Below wr.heap.size wr wq := (by obtain ⟨nd, rfl⟩ := hd; exact pw_below_drewN (Below.refl _ _) _); clear hd; have BGq := Aside0.mk (blk_below BGk.out hbq); have HBq := Aside0.mk (below_step HBk.out hbq); have RGq := Aside0.mk (RGk.out.below hbq); clear hbq; obtain ⟨gr, e, hn, hcell, hfr, hput⟩ := RGq.out.at_ kk K0.out KL.out; subst e; have PUT := Aside0.mk hput; have NGR : Aside0 (gp ≠ gr) := ⟨fun h => RGq.out.ne BGq.out (by decide) gr rfl h.symm⟩; have hcq := Sep.blk1 BGq.out; clear hput hn) | ((with_reducible refine gate_store (t := 4) (p := 33) rfl ?_); refine store_event (t := 4) (p := 33) (v := ?vo33_) (w1 := (wq.setCell ⟨gr, kk.toNat, none⟩ (.bool true))) ?hg ?ho ?hn ?hr ?_; (case ho => rfl); (case hg => rfl); (case hn => rfl); (case hr => exact z12_0); intro w8 hw; have HB8 : Aside0 (Below w.heap.size w w8) := ⟨by rw [hw]; exact below_set HBq.out (VG.out gr rfl)⟩; have BG8 : Aside0 (w8.heap[gp]? = some (.cells #[.slice (some ⟨gr, 0, none⟩) l0.length c3] 103 (0, 0))) := ⟨by rw [hw, Below.heap_setCell _ _ _ gp NGR.out]; exact BGq.out⟩; have RG8 : Aside0 (rowB w8 (.slice (some ⟨gr, 0, none⟩) l0.length c3) ((markN gd x.toNat m).set kk.toNat true)) := ⟨by rw [hw]; exact PUT.out⟩; clear hw) | fail)
                  go_roundw
                  case rel => exact ⟨kk + 1, m + 1, by rw [Hks.out], ⟨by have := Hk.out; push_cast; omega⟩, ⟨.inr (by have := HKE.out; omega)⟩, ⟨by rw [markN, show x.toNat + m = kk.toNat by have := Hk.out; have := Hx0.out; omega]; exact RG8.out⟩, BG8, HB8⟩
                  case measure =>
                    have := HKE.out
                    simp only [intOf, Hks.out]
                    omega
                · have c2 : decide (kk ≤ en) = false := decide_eq_false hke
                  have em : m = (en + 1 - x).toNat := by have := Hk.out; have := Hk1.out; omega
                  subst em
                  clear hke
                  go_wp2_with (first | (go_at_call 87; (with_reducible refine (impl_endOf.calls k _ _ l0 x en _ ?_ HC0.out TE.out).mono ?_); (exact Kd.C_below HR0.out HBk.out); rintro e w' ⟨rfl, ⟨nd, rfl⟩⟩) | fail)
                  go_roundw
                  case rel => exact ⟨x + 1, d, _, by rw [Hs.out], ⟨by have := Hx0.out; omega⟩, ⟨by have := Hx1.out; omega⟩, TI, ⟨RGk.out.below (by repeat (first | exact Below.refl _ _ | apply pw_below_drewN))⟩, ⟨BGk.out⟩, ⟨by repeat (first | exact HBk.out | apply pw_below_drewN)⟩⟩
                  case measure =>
                    have := Hlt.out
                    have := Hx0.out
                    simp only [intOf, Hs.out]
                    omega
            · rw [if_neg hen] at TH
              cases TH
          · rw [if_neg h4] at TH
            have TI := Aside0.mk TH
            have h4n : (x0 == 4) = false := by simp [h4]
            have h4m : decide (x0 = 4) = false := by simp [h4]
            clear TH
            go_wp2_with (first | ((with_reducible refine gate_dst (N := 5) rfl ?_); refine box_event ?hg (N := 5) ?hd (cs := #[.int .i64 0, .int .i64 0, .int .i64 0, .int .i64 0, .int .i64 0, .int .i64 0]) (t := 77) ?hr ?_; (case hd => rfl); (case hg => rfl); (case hr => exact z12_0); intro g5 hg5 w5 hp hb; have B5 := Aside0.mk hp; have HB5 := Aside0.mk (below_step HB.out hb); have RG5 := Aside0.mk (RG.out.below hb); have BG5 := Aside0.mk (blk_below BG.out hb); have G5 : Aside0 (w.heap.size ≤ g5) := ⟨by rw [hg5]; exact HB.out.size⟩; clear hg5 hp hb; obtain ⟨⟨_, _, _, _, _, _⟩, ⟨_, _, _, _, _, _⟩⟩ := Sep.blk6 B5.out) | ((with_reducible refine gate_store (t := 77) (p := 5) rfl ?_); refine store_event (t := 77) (p := 5) (v := ?vo5_) (w1 := Sep.put6 w5 g5 (.int .i64 x0) (.int .i64 x1) (.int .i64 x2) (.int .i64 x3) (.int .i64 x4) (.int .i64 x5)) ?hg ?ho ?hn ?hr ?_; (case ho => rfl); (case hg => rfl); (case hn => rfl); (case hr => exact z12_0); intro w6 hw; have B6 : Aside0 (w6.heap[g5]? = some (.cells #[.int .i64 x0, .int .i64 x1, .int .i64 x2, .int .i64 x3, .int .i64 x4, .int .i64 x5] 77 (0, 0))) := ⟨by rw [hw]; exact Sep.put6_blk B5.out _ _ _ _ _ _⟩; have HB6 : Aside0 (Below w.heap.size w w6) := ⟨by rw [hw]; exact Sep.put6_below HB5.out G5.out _ _ _ _ _ _⟩; have RG6 : Aside0 (rowB w6 (.slice A3 l0.length c3) gd) := ⟨RG5.out.keep (fun k hk => by rw [hw]; exact put6_far (RG5.out.ne B5.out (by decide) k hk) _ _ _ _ _ _)⟩; have BG6 : Aside0 (w6.heap[gp]? = some (.cells #[.slice A3 l0.length c3] 103 (0, 0))) := ⟨by rw [hw, put6_far (blk_ne BG5.out B5.out (by decide))]; exact BG5.out⟩; clear hw; have hd0 : w6.cell? ⟨g5, 0, none⟩ = some (.int .i64 x0) := (blk_cell B6.out 0).trans rfl) | fail)
            go_roundw
            case rel => exact ⟨x + 1, d, gd, by rw [Hs.out], ⟨by have := Hx0.out; omega⟩, ⟨by have := Hx1.out; omega⟩, TI, RG6, BG6, HB6⟩
            case measure =>
              have := Hlt.out
              have := Hx0.out
              simp only [intOf, Hs.out]
              omega
    · rw [if_neg hl] at h
      cases h

/-! ### laws_has: function 46 -/
def laws_has.l0 : Nat → List Int → Int → Int → Option (Bool)
  | 0, _, _, _ => none
  | k + 1, x0, x1, x5 => if x5 < (x0.length : Int) then (if 0 ≤ x5 then (if (rd x0 x5) = x1 then (some true) else (laws_has.l0 k x0 x1 (wrap64 (x5 + 1)))) else (none)) else (some false)
def laws_has.f (k : Nat) (l0 : List Int) (a1 : Int) : Option (Bool) := laws_has.l0 k l0 a1 0
theorem laws_has.mono_l : ∀ k, (∀ y0 y1 y2, LeO (laws_has.l0 k y0 y1 y2) (laws_has.l0 (k + 1) y0 y1 y2))
  | 0 => fun _ _ _ r h => by simp [laws_has.l0] at h
  | k + 1 => by
    have ih0 := laws_has.mono_l k
    · intro y0 y1 y2
      unfold laws_has.l0
      repeat' first
      | (with_reducible exact ih0 _ _ _)
      | (with_reducible exact LeO.refl _)
      | (with_reducible exact LeO.none _)
      | (with_reducible refine LeO.ite ?_ ?_)
      | (with_reducible refine LeO.bind ?_ (fun _ => ?_))
      | exact ih0 _ _ _
      | exact LeO.none _
      | refine LeO.ite ?_ ?_
      | refine LeO.bind ?_ (fun _ => ?_)
theorem laws_has.mono : ∀ a0 a1 k, LeO (laws_has.f k a0 a1) (laws_has.f (k + 1) a0 a1) := by
  intro a0 a1 k
  have ih0 := laws_has.mono_l k
  unfold laws_has.f
  repeat' first
      | (with_reducible exact ih0 _ _ _)
      | (with_reducible exact LeO.refl _)
      | (with_reducible exact LeO.none _)
      | (with_reducible refine LeO.ite ?_ ?_)
      | (with_reducible refine LeO.bind ?_ (fun _ => ?_))
      | exact ih0 _ _ _
      | exact LeO.none _
      | refine LeO.ite ?_ ?_
      | refine LeO.bind ?_ (fun _ => ?_)
set_option maxHeartbeats 8000000 in
set_option maxRecDepth 100000 in
theorem laws_has.calls (k : Nat) (A0 : Option Addr) (c0 : Nat) (l0 : List Int) (a1 : Int) (r : Bool) (w : World) (hr0 : Kd.C (Kd.int .i64) w A0 l0.length l0) (hc0 : l0.length ≤ c0) (h : laws_has.f k l0 a1 = some r) :
    Calls Try.prog 46 #[.slice A0 l0.length c0, .int .i64 a1] w fun e w' => e = .returned (.bool r) ∧ Drawn0 w w' := by
  have HR0 := Aside0.mk hr0
  have HC0 := Aside0.mk hc0
  clear hr0 hc0
  have H : (laws_has.l0 k l0 a1 0) = some r := h
  clear h
  have H' := Aside0.mk H
  clear H
  go_enter Try.func46, Try.ntmps46
  go_wp2
  go_loopg [5] k (fun kq v5 w' => ∃ (x5_1 : Int), v5 = .int .i64 x5_1 ∧ Aside0 (laws_has.l0 kq l0 a1 x5_1 = some r) ∧ Aside0 (kq ≤ k) ∧ Drawn0 w w')
  case atStart => exact ⟨(0), (by first | rfl | (simp; done) | (simp [*]; done)), H', ⟨Nat.le_refl _⟩, by repeat (first | exact Drawn0.refl _ | apply Drawn0.step)⟩
  case round =>
    clear H'
    obtain ⟨x5_1, rfl, HA, HK1, ⟨m1, rfl⟩⟩ := hrel
    cases gk with
    | zero => exact absurd HA.out (by simp [laws_has.l0])
    | succ k1 =>
      have H := HA.out
      clear HA
      simp only [laws_has.l0] at H
      by_cases c3 : x5_1 < (l0.length : Int)
      · rw [if_pos c3] at H
        have c3b0 : decide (x5_1 < (l0.length : Int)) = true := decide_eq_true c3
        clear c3
        by_cases c4 : 0 ≤ x5_1
        · rw [if_pos c4] at H
          have c4b0 : decide (0 ≤ x5_1) = true := decide_eq_true c4
          clear c4
          by_cases c5 : (rd l0 x5_1) = a1
          · rw [if_pos c5] at H
            have c5b0 : ((rd l0 x5_1) == a1) = true := beq_iff_eq.mpr c5
            have c5b1 : ((rd l0 x5_1) != a1) = false := bne_eq_false_iff_eq.mpr c5
            clear c5
            obtain rfl := Option.some.inj H
            have p511 : 0 ≤ (x5_1 : Int) := of_decide_eq_true z12_1
            have q511 : x5_1 < (l0.length : Int) := of_decide_eq_true z12_1
            obtain ⟨ad511, e511, hx511_0⟩ := Kd.at_int HR0.out x5_1 p511 q511
            cases e511
            replace p511 := eq_true p511
            replace q511 := eq_true q511
            go_wp2
            go_ret
            exact ⟨by first | rfl | (simp; done) | (simp [*]; done), by repeat (first | exact Drawn0.refl _ | apply Drawn0.step)⟩
          · rw [if_neg c5] at H
            have c5b0 : ((rd l0 x5_1) == a1) = false := beq_eq_false_iff_ne.mpr c5
            have c5b1 : ((rd l0 x5_1) != a1) = true := bne_iff_ne.mpr c5
            have H' := Aside0.mk H
            clear H
            have p511 : 0 ≤ (x5_1 : Int) := of_decide_eq_true z12_1
            have q511 : x5_1 < (l0.length : Int) := of_decide_eq_true z12_1
            obtain ⟨ad511, e511, hx511_0⟩ := Kd.at_int HR0.out x5_1 p511 q511
            cases e511
            replace p511 := eq_true p511
            replace q511 := eq_true q511
            go_wp2
            go_roundg k1
            case measure => have := HK1.out; omega
            case rel => exact ⟨(wrap64 (x5_1 + 1)), (by first | rfl | (simp; done) | (simp [*]; done)), H', ⟨by have := HK1.out; omega⟩, by repeat (first | exact Drawn0.refl _ | apply Drawn0.step)⟩
        · rw [if_neg c4] at H
          exact absurd H (by simp)
      · rw [if_neg c3] at H
        have c3b0 : decide (x5_1 < (l0.length : Int)) = false := decide_eq_false c3
        clear c3
        obtain rfl := Option.some.inj H
        go_wp2
        go_ret
        exact ⟨by first | rfl | (simp; done) | (simp [*]; done), by repeat (first | exact Drawn0.refl _ | apply Drawn0.step)⟩

/-! ### slices_Index_int_int: function 128 -/
def slices_Index_int_int.l0 : Nat → List Int → Int → Int → Int → Option (Int)
  | 0, _, _, _, _ => none
  | k + 1, x0, x1, x7, x8 => if x8 < x7 then (if 0 ≤ x8 then (if x8 < (x0.length : Int) then (if x1 = (rd x0 x8) then (some x8) else (slices_Index_int_int.l0 k x0 x1 x7 (wrap64 (x8 + 1)))) else (none)) else (none)) else (some (-1))
def slices_Index_int_int.f (k : Nat) (l0 : List Int) (a1 : Int) : Option (Int) := slices_Index_int_int.l0 k l0 a1 (l0.length : Int) 0
theorem slices_Index_int_int.mono_l : ∀ k, (∀ y0 y1 y2 y3, LeO (slices_Index_int_int.l0 k y0 y1 y2 y3) (slices_Index_int_int.l0 (k + 1) y0 y1 y2 y3))
  | 0 => fun _ _ _ _ r h => by simp [slices_Index_int_int.l0] at h
  | k + 1 => by
    have ih0 := slices_Index_int_int.mono_l k
    · intro y0 y1 y2 y3
      unfold slices_Index_int_int.l0
      repeat' first
      | (with_reducible exact ih0 _ _ _ _)
      | (with_reducible exact LeO.refl _)
      | (with_reducible exact LeO.none _)
      | (with_reducible refine LeO.ite ?_ ?_)
      | (with_reducible refine LeO.bind ?_ (fun _ => ?_))
      | exact ih0 _ _ _ _
      | exact LeO.none _
      | refine LeO.ite ?_ ?_
      | refine LeO.bind ?_ (fun _ => ?_)
theorem slices_Index_int_int.mono : ∀ a0 a1 k, LeO (slices_Index_int_int.f k a0 a1) (slices_Index_int_int.f (k + 1) a0 a1) := by
  intro a0 a1 k
  have ih0 := slices_Index_int_int.mono_l k
  unfold slices_Index_int_int.f
  repeat' first
      | (with_reducible exact ih0 _ _ _ _)
      | (with_reducible exact LeO.refl _)
      | (with_reducible exact LeO.none _)
      | (with_reducible refine LeO.ite ?_ ?_)
      | (with_reducible refine LeO.bind ?_ (fun _ => ?_))
      | exact ih0 _ _ _ _
      | exact LeO.none _
      | refine LeO.ite ?_ ?_
      | refine LeO.bind ?_ (fun _ => ?_)
set_option maxHeartbeats 8000000 in
set_option maxRecDepth 100000 in
theorem slices_Index_int_int.calls (k : Nat) (A0 : Option Addr) (c0 : Nat) (l0 : List Int) (a1 : Int) (r : Int) (w : World) (hr0 : Kd.C (Kd.int .i64) w A0 l0.length l0) (hc0 : l0.length ≤ c0) (h : slices_Index_int_int.f k l0 a1 = some r) :
    Calls Try.prog 128 #[.slice A0 l0.length c0, .int .i64 a1] w fun e w' => e = .returned (.int .i64 r) ∧ Drawn0 w w' := by
  have HR0 := Aside0.mk hr0
  have HC0 := Aside0.mk hc0
  clear hr0 hc0
  have H : (slices_Index_int_int.l0 k l0 a1 (l0.length : Int) 0) = some r := h
  clear h
  have H' := Aside0.mk H
  clear H
  go_enter Try.func128, Try.ntmps128
  go_wp2
  go_loopg [8] k (fun kq v8 w' => ∃ (x8_1 : Int), v8 = .int .i64 x8_1 ∧ Aside0 (slices_Index_int_int.l0 kq l0 a1 (l0.length : Int) x8_1 = some r) ∧ Aside0 (kq ≤ k) ∧ Drawn0 w w')
  case atStart => exact ⟨(0), (by first | rfl | (simp; done) | (simp [*]; done)), H', ⟨Nat.le_refl _⟩, by repeat (first | exact Drawn0.refl _ | apply Drawn0.step)⟩
  case round =>
    clear H'
    obtain ⟨x8_1, rfl, HA, HK1, ⟨m1, rfl⟩⟩ := hrel
    cases gk with
    | zero => exact absurd HA.out (by simp [slices_Index_int_int.l0])
    | succ k1 =>
      have H := HA.out
      clear HA
      simp only [slices_Index_int_int.l0] at H
      by_cases c3 : x8_1 < (l0.length : Int)
      · rw [if_pos c3] at H
        have c3b0 : decide (x8_1 < (l0.length : Int)) = true := decide_eq_true c3
        clear c3
        by_cases c4 : 0 ≤ x8_1
        · rw [if_pos c4] at H
          have c4b0 : decide (0 ≤ x8_1) = true := decide_eq_true c4
          clear c4
          by_cases c5 : x8_1 < (l0.length : Int)
          · rw [if_pos c5] at H
            have c5b0 : decide (x8_1 < (l0.length : Int)) = true := decide_eq_true c5
            clear c5
            by_cases c6 : a1 = (rd l0 x8_1)
            · rw [if_pos c6] at H
              have c6b0 : (a1 == (rd l0 x8_1)) = true := beq_iff_eq.mpr c6
              have c6b1 : (a1 != (rd l0 x8_1)) = false := bne_eq_false_iff_eq.mpr c6
              clear c6
              obtain rfl := Option.some.inj H
              have p512 : 0 ≤ (x8_1 : Int) := of_decide_eq_true z12_1
              have q512 : x8_1 < (l0.length : Int) := of_decide_eq_true z12_1
              obtain ⟨ad512, e512, hx512_0⟩ := Kd.at_int HR0.out x8_1 p512 q512
              cases e512
              replace p512 := eq_true p512
              replace q512 := eq_true q512
              go_wp2
              go_ret
              exact ⟨by first | rfl | (simp; done) | (simp [*]; done), by repeat (first | exact Drawn0.refl _ | apply Drawn0.step)⟩
            · rw [if_neg c6] at H
              have c6b0 : (a1 == (rd l0 x8_1)) = false := beq_eq_false_iff_ne.mpr c6
              have c6b1 : (a1 != (rd l0 x8_1)) = true := bne_iff_ne.mpr c6
              have H' := Aside0.mk H
              clear H
              have p512 : 0 ≤ (x8_1 : Int) := of_decide_eq_true z12_1
              have q512 : x8_1 < (l0.length : Int) := of_decide_eq_true z12_1
              obtain ⟨ad512, e512, hx512_0⟩ := Kd.at_int HR0.out x8_1 p512 q512
              cases e512
              replace p512 := eq_true p512
              replace q512 := eq_true q512
              go_wp2
              go_roundg k1
              case measure => have := HK1.out; omega
              case rel => exact ⟨(wrap64 (x8_1 + 1)), (by first | rfl | (simp; done) | (simp [*]; done)), H', ⟨by have := HK1.out; omega⟩, by repeat (first | exact Drawn0.refl _ | apply Drawn0.step)⟩
          · rw [if_neg c5] at H
            exact absurd H (by simp)
        · rw [if_neg c4] at H
          exact absurd H (by simp)
      · rw [if_neg c3] at H
        have c3b0 : decide (x8_1 < (l0.length : Int)) = false := decide_eq_false c3
        clear c3
        obtain rfl := Option.some.inj H
        go_wp2
        go_ret
        exact ⟨by first | rfl | (simp; done) | (simp [*]; done), by repeat (first | exact Drawn0.refl _ | apply Drawn0.step)⟩

/-! ### slices_Contains_int_int: function 89 -/
def slices_Contains_int_int.f (k : Nat) (l0 : List Int) (a1 : Int) : Option (Bool) := (slices_Index_int_int.f k l0 a1).bind fun t513 => (some (decide (t513 ≥ 0)))
theorem slices_Contains_int_int.mono : ∀ a0 a1 k, LeO (slices_Contains_int_int.f k a0 a1) (slices_Contains_int_int.f (k + 1) a0 a1) := by
  intro a0 a1 k
  unfold slices_Contains_int_int.f
  repeat' first
      | (with_reducible exact slices_Index_int_int.mono _ _ _)
      | (with_reducible exact LeO.refl _)
      | (with_reducible exact LeO.none _)
      | (with_reducible refine LeO.ite ?_ ?_)
      | (with_reducible refine LeO.bind ?_ (fun _ => ?_))
      | exact slices_Index_int_int.mono _ _ _
      | exact LeO.none _
      | refine LeO.ite ?_ ?_
      | refine LeO.bind ?_ (fun _ => ?_)
set_option maxHeartbeats 8000000 in
set_option maxRecDepth 100000 in
theorem slices_Contains_int_int.calls (k : Nat) (A0 : Option Addr) (c0 : Nat) (l0 : List Int) (a1 : Int) (r : Bool) (w : World) (hr0 : Kd.C (Kd.int .i64) w A0 l0.length l0) (hc0 : l0.length ≤ c0) (h : slices_Contains_int_int.f k l0 a1 = some r) :
    Calls Try.prog 89 #[.slice A0 l0.length c0, .int .i64 a1] w fun e w' => e = .returned (.bool r) ∧ Drawn0 w w' := by
  have HR0 := Aside0.mk hr0
  have HC0 := Aside0.mk hc0
  clear hr0 hc0
  have H : ((slices_Index_int_int.f k l0 a1).bind fun t513 => (some (decide (t513 ≥ 0)))) = some r := h
  clear h
  replace H := Option.bind_eq_some_iff.mp H
  obtain ⟨t513, A30, H⟩ := H
  replace H : (some (decide (t513 ≥ 0))) = some r := H
  have A3 := Aside0.mk A30
  clear A30
  obtain rfl := Option.some.inj H
  go_enter Try.func89, Try.ntmps89
  go_wp2_with (first | ((first | ((with_reducible refine gate_callee (f := 128) rfl ?_); refine goesL_ (some 7) rfl rfl Try.func128 (by kernel_rfl) rfl #[.slice A0 l0.length c0, .int .i64 a1] rfl (by (try simp only [List.map_toArray, List.map_cons, List.map_nil]); first | done | rfl | (simp only [List.length_drop, List.length_take]; rfl)) ?_; (with_reducible refine (slices_Index_int_int.calls k _ _ l0 a1 t513 _ ?side1 ?side2 A3.out).mono ?_)) | (go_at_call 128; (with_reducible refine (slices_Index_int_int.calls k _ _ l0 a1 t513 _ ?side1 ?side2 A3.out).mono ?_))); (case side1 => repeat (first | exact HR0.out | (with_reducible refine Kd.C_alloc ?_ _) | (with_reducible refine Kd.C_drewN ?_ _) | (with_reducible refine Kd.C_drew ?_))); (case side2 => exact HC0.out); rintro e w' ⟨rfl, ⟨nd, rfl⟩⟩; (first | refine ⟨_, rfl, ?_⟩ | skip)))
  go_ret
  exact ⟨by first | rfl | (simp; done) | (simp [*]; done), by repeat (first | exact Drawn0.refl _ | apply Drawn0.step)⟩

/-! ### impl_HasVar: function 47 -/
def impl_HasVar.f (k : Nat) (l0 : List Int) (a1 : Int) : Option (Bool) := (slices_Contains_int_int.f k l0 a1).bind fun t514 => (some t514)
theorem impl_HasVar.mono : ∀ a0 a1 k, LeO (impl_HasVar.f k a0 a1) (impl_HasVar.f (k + 1) a0 a1) := by
  intro a0 a1 k
  unfold impl_HasVar.f
  repeat' first
      | (with_reducible exact slices_Contains_int_int.mono _ _ _)
      | (with_reducible exact LeO.refl _)
      | (with_reducible exact LeO.none _)
      | (with_reducible refine LeO.ite ?_ ?_)
      | (with_reducible refine LeO.bind ?_ (fun _ => ?_))
      | exact slices_Contains_int_int.mono _ _ _
      | exact LeO.none _
      | refine LeO.ite ?_ ?_
      | refine LeO.bind ?_ (fun _ => ?_)
set_option maxHeartbeats 8000000 in
set_option maxRecDepth 100000 in
theorem impl_HasVar.calls (k : Nat) (A0 : Option Addr) (c0 : Nat) (l0 : List Int) (a1 : Int) (r : Bool) (w : World) (hr0 : Kd.C (Kd.int .i64) w A0 l0.length l0) (hc0 : l0.length ≤ c0) (h : impl_HasVar.f k l0 a1 = some r) :
    Calls Try.prog 47 #[.slice A0 l0.length c0, .int .i64 a1] w fun e w' => e = .returned (.bool r) ∧ Drawn0 w w' := by
  have HR0 := Aside0.mk hr0
  have HC0 := Aside0.mk hc0
  clear hr0 hc0
  have H : ((slices_Contains_int_int.f k l0 a1).bind fun t514 => (some t514)) = some r := h
  clear h
  replace H := Option.bind_eq_some_iff.mp H
  obtain ⟨t514, A30, H⟩ := H
  replace H : (some t514) = some r := H
  have A3 := Aside0.mk A30
  clear A30
  obtain rfl := Option.some.inj H
  go_enter Try.func47, Try.ntmps47
  go_wp2_with (first | ((first | ((with_reducible refine gate_callee (f := 89) rfl ?_); refine goesL_ (some 7) rfl rfl Try.func89 (by kernel_rfl) rfl #[.slice A0 l0.length c0, .int .i64 a1] rfl (by (try simp only [List.map_toArray, List.map_cons, List.map_nil]); first | done | rfl | (simp only [List.length_drop, List.length_take]; rfl)) ?_; (with_reducible refine (slices_Contains_int_int.calls k _ _ l0 a1 t514 _ ?side1 ?side2 A3.out).mono ?_)) | (go_at_call 89; (with_reducible refine (slices_Contains_int_int.calls k _ _ l0 a1 t514 _ ?side1 ?side2 A3.out).mono ?_))); (case side1 => repeat (first | exact HR0.out | (with_reducible refine Kd.C_alloc ?_ _) | (with_reducible refine Kd.C_drewN ?_ _) | (with_reducible refine Kd.C_drew ?_))); (case side2 => exact HC0.out); rintro e w' ⟨rfl, ⟨nd, rfl⟩⟩; (first | refine ⟨_, rfl, ?_⟩ | skip)))
  go_ret
  exact ⟨by first | rfl | (simp; done) | (simp [*]; done), by repeat (first | exact Drawn0.refl _ | apply Drawn0.step)⟩

end Go.Proofs.Ytakhaknglhgimaa.G
