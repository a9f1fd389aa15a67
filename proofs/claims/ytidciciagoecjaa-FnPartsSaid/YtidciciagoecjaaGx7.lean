/- Functions of the program as plain Lean functions, and that each call comes to its function's answer; written by a program of the session. No condition. -/
import Derived.Test.YtidciciagoecjaaGx0
import Derived.Test.YtidciciagoecjaaGx1
namespace Go.Proofs.Ytidciciagoecjaa.G
open Go.RowKit Go.Proofs.YtidciciagoecjaaW.PrintWords Go.Proofs.YtidciciagoecjaaW.PrintLast Go.Proofs.YtidciciagoecjaaW.PrintMore
attribute [local go_sem] max2_int min2_int max_two min_two max_three min_three max_four min_four   -- for this text's walks alone
set_option linter.unusedVariables false
set_option linter.unusedSimpArgs false

-- NOT PRINTED: function 33 (slices_pdqsortOrdered_int)

-- NOT PRINTED: function 25 (slices_Sort_int_int)

-- NOT PRINTED: function 26 (slices_Compact_int_int)

theorem z7_0 {P : Prop} (h : P := by repeat (first | (with_reducible first | exact HB.out | apply below_alloc | apply pw_below_drewN | apply below_drew1) | exact HB.out)) : P := h
theorem z7_1 {P : Prop} (h : P := by repeat (first | exact (Kd.R_reads' HO_3.out).2.2 | (with_reducible refine Kd.C_alloc ?_ _) | (with_reducible refine Kd.C_drewN ?_ _) | (with_reducible refine Kd.C_drew ?_))) : P := h
theorem z7_2 {P : Prop} (h : P := by (with_reducible repeat (first | apply Kd.R_alloc | apply Kd.R_drewN | apply Kd.R_drew)); exact HO_5.out) : P := h
theorem z7_3 {P : Prop} (h : P := by (with_reducible repeat (first | apply Kd.R_alloc | apply Kd.R_drewN | apply Kd.R_drew)); exact HO_3.out) : P := h
theorem z7_4 {P : Prop} (h : P := by first | (with_reducible assumption) | assumption) : P := h
theorem z7_5 {P : Prop} (h : P := by (with_reducible repeat (first | apply Kd.R_alloc | apply Kd.R_drewN | apply Kd.R_drew)); exact HO_4.out) : P := h
theorem z7_6 {P : Prop} (h : P := by repeat (first | exact (Kd.C_below HR0.out HB.out) | (with_reducible refine Kd.C_alloc ?_ _) | (with_reducible refine Kd.C_drewN ?_ _) | (with_reducible refine Kd.C_drew ?_))) : P := h
theorem z7_7 {P : Prop} (h : P := by (with_reducible repeat (first | apply Kd.R_alloc | apply Kd.R_drewN | apply Kd.R_drew)); exact HO318.out) : P := h
theorem z7_8 {P : Prop} (h : P := by repeat (first | exact (Kd.R_reads' HO323.out).2.2 | (with_reducible refine Kd.C_alloc ?_ _) | (with_reducible refine Kd.C_drewN ?_ _) | (with_reducible refine Kd.C_drew ?_))) : P := h
theorem z7_9 {P : Prop} (h : P := by repeat (first | exact HR0.out | (with_reducible refine Kd.C_alloc ?_ _) | (with_reducible refine Kd.C_drewN ?_ _) | (with_reducible refine Kd.C_drew ?_))) : P := h
theorem z7_10 {P : Prop} (h : P := by (try simp only [List.map_toArray, List.map_cons, List.map_nil]); first | done | rfl | (simp only [List.length_drop, List.length_take]; rfl)) : P := h
theorem z7_11 {P : Prop} (h : P := by exact (Kd.R_reads' HO_3.out).2.1) : P := h
theorem z7_12 {P : Prop} (h : P := by repeat (first | exact (Kd.R_reads' HO_5.out).2.2 | (with_reducible refine Kd.C_alloc ?_ _) | (with_reducible refine Kd.C_drewN ?_ _) | (with_reducible refine Kd.C_drew ?_))) : P := h
theorem z7_13 {P : Prop} (h : P := by repeat (first | (with_reducible first | exact HB.out | apply below_alloc | apply pw_below_drewN | apply below_drew1 | refine below_set ?_ (IsS55.ge HI284.out)) | exact HB.out)) : P := h
theorem z7_14 {P : Prop} (h : P := by repeat (first | (with_reducible first | exact HB.out | apply below_alloc | apply pw_below_drewN | apply below_drew1 | refine below_set ?_ GE294.out) | exact HB.out)) : P := h
theorem z7_15 {P : Prop} (h : P := by first | rfl | (simp; done) | (simp [*]; done)) : P := h
theorem z7_16 {P : Prop} (h : P := by (with_reducible repeat (first | apply Kd.R_alloc | apply Kd.R_drewN | apply Kd.R_drew)); exact HO306.out) : P := h
theorem z7_17 {P : Prop} (h : P := by first | (go_simp; done) | (go_simp; rfl)) : P := h
theorem z7_18 {P : Prop} (h : P := by (with_reducible repeat (first | refine blk_drewN ?_ _ | refine blk_drew ?_ | refine blk_alloc ?_ _)); exact BK294.out) : P := h
theorem z7_19 {P : Prop} (h : P := by repeat (first | (with_reducible first | exact HI284.out | apply IsS55.alloc | apply IsS55.drewN | apply IsS55.drew | apply IsS55.set_1 | apply IsS55.set_2) | exact HI284.out)) : P := h
theorem z7_20 {P : Prop} (h : P := by repeat (first | exact (Kd.R_reads' HO308.out).2.2 | (with_reducible refine Kd.C_alloc ?_ _) | (with_reducible refine Kd.C_drewN ?_ _) | (with_reducible refine Kd.C_drew ?_))) : P := h
theorem z7_21 {P : Prop} (h : P := by exact (Kd.R_reads' HO323.out).2.1) : P := h
theorem z7_22 {P : Prop} (h : P := by exact HC0.out) : P := h
theorem z7_23 {P : Prop} (h : P := by rw [hg]; exact (below_size z7_0)) : P := h
/-! ### impl_TouchedWords: function 8 -/
theorem below_grown {w w1 w2 : World} {row : Option Nat} (h : Below w.heap.size w w1) (hg : w1.grownBy w2 row) (hr : ∀ k, row = some k → w.heap.size ≤ k) : Below w.heap.size w w2 :=
  ⟨hg.os.trans h.os, hg.tape.trans h.tape, hg.output.trans h.output, Nat.le_trans h.size hg.size, fun k hk => (hg.block k (Nat.lt_of_lt_of_le hk h.size) (fun e => by have := hr k e.symm; omega)).trans (h.block k hk)⟩
def impl_TouchedWords.f (l0 : List S31) : Option (List Int) := if l0.length < 17592186044415 then some (Go.Lib.compact ((l0.map (·.f0)).mergeSort fun x y => decide (x ≤ y))) else none
theorem take_T31 {l : List S31} {i : Int} (h0 : 0 ≤ i) (h : i < (l.length : Int)) : (l.take (i + 1).toNat).map (·.f0) = (l.take i.toNat).map (·.f0) ++ [(rd_T31 l i).f0] := by
  have h1 : i.toNat < l.length := by omega
  have h2 : (i + 1).toNat = i.toNat + 1 := by omega
  unfold rd_T31
  rw [h2, List.take_add_one, List.map_append, List.getD_eq_getElem?_getD, List.getElem?_eq_getElem h1]
  rfl
set_option maxHeartbeats 8000000 in
set_option maxRecDepth 100000 in
theorem impl_TouchedWords.calls (A0 : Option Addr) (c0 : Nat) (l0 : List S31) (r : List Int) (w : World) (hr0 : Kd.C k31 w A0 l0.length l0) (hc0 : l0.length ≤ c0) (h : impl_TouchedWords.f l0 = some r) :
    Calls Try.prog 8 #[.slice A0 l0.length c0] w fun e w' => ∃ v0_ : Value, e = .returned (v0_) ∧ Kd.R (Kd.int .i64) 3 w' w.heap.size (fun _ => True) v0_ r ∧ Below w.heap.size w w' := by
  unfold impl_TouchedWords.f at h
  by_cases hl : l0.length < 17592186044415
  · rw [if_pos hl] at h
    obtain rfl := Option.some.inj h
    have HR0 := Aside0.mk hr0
    have HC0 := Aside0.mk hc0
    have HL := Aside0.mk hl
    clear h hr0 hc0 hl
    go_enter Try.func8, Try.ntmps8
    go_wp2_with (first | ((with_reducible refine gate_dst (N := 6) rfl ?_); refine Kd.R_lit (Kd.int .i64) _ 3 ?hg (N := 6) ?hd (xs := ([] : List Int)) (inner := []) (ok := fun _ => True) (okp := fun _ => True) ?hr ?hp (fun _ hk => hk) trivial (Below.refl _ _) (Nat.le_refl _) (by simp) ?_; (case hd => rfl); (case hg => rfl); (case hr => exact z7_17); (case hp => exact (Reps.none _ _)); intro v6 w1 ho hb hg hat; have R1 := Aside0.mk ho; have HB1 := Aside0.mk hb; clear ho hb hg hat) | fail)
    go_loopw [3, 9] (fun v3 v9 w' => ∃ (x : Int) (xs : List Int), v9 = .int .i64 x ∧ Aside0 (0 ≤ x) ∧ Aside0 (x ≤ (l0.length : Int)) ∧ Aside0 (xs = (l0.take x.toNat).map (·.f0)) ∧ Aside0 (Kd.R (Kd.int .i64) 3 w' w.heap.size (fun _ => True) v3 xs) ∧ Aside0 (Below w.heap.size w w')) (fun _ v9 _ => l0.length - (intOf v9).toNat)
    case atStart => exact ⟨0, [], rfl, ⟨by omega⟩, ⟨by omega⟩, ⟨rfl⟩, R1, HB1⟩
    case round =>
      clear R1 HB1
      obtain ⟨x, xs, rfl, Hx0, Hx1, HX, RO, HB⟩ := hrel
      obtain ⟨A3, c3, e3⟩ := Kd.R_slice RO.out
      subst e3
      by_cases hlt : x < (l0.length : Int)
      · have c1 : decide (x < (l0.length : Int)) = true := decide_eq_true hlt
        obtain ⟨ad, e, hx0, hx1⟩ := at_T31 (Kd.C_below HR0.out HB.out) x Hx0.out hlt
        cases e
        have Hlt := Aside0.mk hlt
        have p1 := eq_true Hx0.out
        have q1 := eq_true hlt
        have hsum : wrap64 (x + 1) = x + 1 := by have := HL.out; have := Hx0.out; unfold wrap64; omega
        have Hs := Aside0.mk hsum
        clear hsum hlt
        go_wp2_with (first | ((with_reducible refine gate_dst (N := 5) rfl ?_); refine box_event ?hg (N := 5) ?hd (cs := #[.int .i64 0, .int .i64 0]) (t := 31) ?hr ?_; (case hd => rfl); (case hg => rfl); (case hr => exact z7_17); intro g5 hg5 w2 hp hb; have B2 := Aside0.mk hp; have HB2 := Aside0.mk (below_step HB.out hb); have RO2 := Aside0.mk (Kd.R_below RO.out hb); have G5 : Aside0 (w.heap.size ≤ g5) := ⟨by rw [hg5]; exact HB.out.size⟩; clear hg5 hp hb; have hc0 : w2.cell? ⟨g5, 0, none⟩ = some (.int .i64 0) := (blk_cell B2.out 0).trans rfl; have hc1 : w2.cell? ⟨g5, 1, none⟩ = some (.int .i64 0) := (blk_cell B2.out 1).trans rfl; have hf0 := blk_frozen B2.out 0; have hf1 := blk_frozen B2.out 1) | ((with_reducible refine gate_store (t := 31) (p := 5) rfl ?_); refine store_event (t := 31) (p := 5) (v := ?vo1_) (w1 := ((w2.setCell ⟨g5, 0, none⟩ (.int .i64 (rd_T31 l0 x).f0)).setCell ⟨g5, 1, none⟩ (.int .i64 (rd_T31 l0 x).f1))) ?hg ?ho ?hn ?hr ?_; (case ho => rfl); (case hg => rfl); (case hn => rfl); (case hr => exact z7_17); intro w3 hw; have B3 : Aside0 (w3.heap[g5]? = some (.cells #[.int .i64 (rd_T31 l0 x).f0, .int .i64 (rd_T31 l0 x).f1] 31 (0, 0))) := ⟨by rw [hw]; exact blk_put (cs := #[.int .i64 (rd_T31 l0 x).f0, .int .i64 0]) (blk_put B2.out 0 _ rfl) 1 _ rfl⟩; have HB3 : Aside0 (Below w.heap.size w w3) := ⟨by rw [hw]; exact below_set (below_set HB2.out G5.out) G5.out⟩; have NG : Aside0 (∀ k, (Value.slice A3 xs.length c3).ownBlock = some k → k ≠ g5) := ⟨fun k hk => (Sep.rowI.of_R RO2.out).ne B2.out (by decide) k hk⟩; have RO3 := Aside0.mk (((Sep.rowI.of_R RO2.out).keep (w1 := w3) (fun k hk => by rw [hw, Below.heap_setCell _ _ _ k (fun e => NG.out k hk e), Below.heap_setCell _ _ _ k (fun e => NG.out k hk e)])).to_R (base := w.heap.size) (ok := fun _ => True) (fun k hk => Kd.R_base RO2.out k hk) (fun _ _ => trivial)); clear hw; have hd0 : w3.cell? ⟨g5, 0, none⟩ = some (.int .i64 (rd_T31 l0 x).f0) := (blk_cell B3.out 0).trans rfl) | ((with_reducible refine gate_builtin (b := .append) (xs := #[.tmp 13, .tmp 16]) rfl ?_); at_builtin; refine Kd.R_append (Kd.int .i64) (w0 := w) w.heap.size rfl (.tmp 13) (.tmp 16) 24 3 (.int .i64 0) 8 rfl Try.underlying24 info3 rfl (by decide) (by omega) (.slice A3 xs.length c3) xs (rd_T31 l0 x).f0 [.int .i64 (rd_T31 l0 x).f0] (fun _ => True) (fun _ => False) rfl rfl ?aP (fun _ hk => hk.elim) ?aF ?aO ?aB ?aS ?aL ?_; (case aP => exact rfl); (case aB => exact HB3.out); (case aF => exact (fun _ _ => trivial)); (case aO => exact RO3.out); (case aS => exact HB3.out.size); (case aL => have := HL.out; have := Hlt.out; have := Hx0.out; rw [HX.out, List.length_map, List.length_take]; omega); intro v17 w4 ho hb hg hat; have R4 := Aside0.mk ho; have HB4 := Aside0.mk hb; clear ho hb hg hat) | fail)
        go_roundw
        case rel => exact ⟨x + 1, xs ++ [(rd_T31 l0 x).f0], by rw [Hs.out], ⟨by have := Hx0.out; omega⟩, ⟨by have := Hlt.out; omega⟩, ⟨by rw [take_T31 Hx0.out Hlt.out, HX.out]⟩, R4, HB4⟩
        case measure =>
          have := Hlt.out
          have := Hx0.out
          simp only [intOf, Hs.out]
          omega
      · have c1 : decide (x < (l0.length : Int)) = false := decide_eq_false hlt
        have hx : x.toNat = l0.length := by have := Hx0.out; have := Hx1.out; omega
        have RS := RO.out
        have ex := HX.out
        rw [hx, List.take_length] at ex
        have VB : Aside0 (∀ k, (Value.slice A3 xs.length c3).ownBlock = some k → w.heap.size ≤ k) := ⟨fun k hk => Kd.R_base RS k hk⟩
        replace RS := Aside0.mk (Sep.rowI.of_R RS)
        have LS : Aside0 (xs.length < 4611686018427387904) := ⟨by rw [ex, List.length_map]; have := HL.out; omega⟩
        have EX := Aside0.mk ex
        clear hx hlt RO ex
        go_wp2_with (first | (go_at_call 25; (with_reducible refine (sort_calls (.slice A3 xs.length c3) xs _ RS.out LS.out).mono ?_); rintro e w5 ⟨rfl, hr5, hg5⟩; have R5 := Aside0.mk hr5; have HB5 := Aside0.mk (below_grown HB.out hg5 VB.out); clear hr5 hg5) | (go_at_call 26; (with_reducible refine (compact_calls (.slice A3 xs.length c3) _ _ R5.out).mono ?_); rintro e w6 ⟨v', rfl, hr6, he6, hg6⟩; have R6 := Aside0.mk hr6; have E6 := Aside0.mk he6; have HB6 := Aside0.mk (below_grown HB5.out hg6 VB.out); clear hr6 he6 hg6) | fail)
        go_ret
        refine ⟨_, rfl, ?_, HB6.out⟩
        rw [← EX.out]
        exact R6.out.to_R (fun k hk => VB.out k (E6.out ▸ hk)) (fun _ _ => trivial)
  · rw [if_neg hl] at h
    cases h

/-! ### laws_has: function 9 -/
def laws_has.l0 : Nat → List Int → Int → Int → Option (Bool)
  | 0, _, _, _ => none
  | k + 1, x0, x1, x5 => if x5 < (x0.length : Int) then (if 0 ≤ x5 then (if (rd x0 x5) = x1 then (some true) else (laws_has.l0 k x0 x1 (wrap64 (x5 + 1)))) else (none)) else (some false)
def laws_has.f (k : Nat) (l0 : List Int) (a1 : Int) : Option (Bool) := laws_has.l0 k l0 a1 0
theorem laws_has.mono_l : ∀ k, (∀ y0 y1 y2, LeO (laws_has.l0 k y0 y1 y2) (laws_has.l0 (k + 1) y0 y1 y2))
  | 0 => fun _ _ _ r h => by simp [laws_has.l0] at h
  | k + 1 => by
    have ih0 := laws_has.mono_l k
    · intro y0 y1 y2
      unfold laws_has.l0
      repeat' first
      | (with_reducible exact ih0 _ _ _)
      | (with_reducible exact LeO.refl _)
      | (with_reducible exact LeO.none _)
      | (with_reducible refine LeO.ite ?_ ?_)
      | (with_reducible refine LeO.bind ?_ (fun _ => ?_))
      | exact ih0 _ _ _
      | exact LeO.none _
      | refine LeO.ite ?_ ?_
      | refine LeO.bind ?_ (fun _ => ?_)
theorem laws_has.mono : ∀ a0 a1 k, LeO (laws_has.f k a0 a1) (laws_has.f (k + 1) a0 a1) := by
  intro a0 a1 k
  have ih0 := laws_has.mono_l k
  unfold laws_has.f
  repeat' first
      | (with_reducible exact ih0 _ _ _)
      | (with_reducible exact LeO.refl _)
      | (with_reducible exact LeO.none _)
      | (with_reducible refine LeO.ite ?_ ?_)
      | (with_reducible refine LeO.bind ?_ (fun _ => ?_))
      | exact ih0 _ _ _
      | exact LeO.none _
      | refine LeO.ite ?_ ?_
      | refine LeO.bind ?_ (fun _ => ?_)
set_option maxHeartbeats 8000000 in
set_option maxRecDepth 100000 in
theorem laws_has.calls (k : Nat) (A0 : Option Addr) (c0 : Nat) (l0 : List Int) (a1 : Int) (r : Bool) (w : World) (hr0 : Kd.C (Kd.int .i64) w A0 l0.length l0) (hc0 : l0.length ≤ c0) (h : laws_has.f k l0 a1 = some r) :
    Calls Try.prog 9 #[.slice A0 l0.length c0, .int .i64 a1] w fun e w' => e = .returned (.bool r) ∧ Drawn0 w w' := by
  have HR0 := Aside0.mk hr0
  have HC0 := Aside0.mk hc0
  clear hr0 hc0
  have H : (laws_has.l0 k l0 a1 0) = some r := h
  clear h
  have H' := Aside0.mk H
  clear H
  go_enter Try.func9, Try.ntmps9
  go_wp2
  go_loopg [5] k (fun kq v5 w' => ∃ (x5_1 : Int), v5 = .int .i64 x5_1 ∧ Aside0 (laws_has.l0 kq l0 a1 x5_1 = some r) ∧ Aside0 (kq ≤ k) ∧ Drawn0 w w')
  case atStart => exact ⟨(0), z7_15, H', ⟨Nat.le_refl _⟩, by repeat (first | exact Drawn0.refl _ | apply Drawn0.step)⟩
  case round =>
    clear H'
    obtain ⟨x5_1, rfl, HA, HK1, ⟨m1, rfl⟩⟩ := hrel
    cases gk with
    | zero => exact absurd HA.out (by simp [laws_has.l0])
    | succ k1 =>
      have H := HA.out
      clear HA
      simp only [laws_has.l0] at H
      by_cases c3 : x5_1 < (l0.length : Int)
      · rw [if_pos c3] at H
        have c3b0 : decide (x5_1 < (l0.length : Int)) = true := decide_eq_true c3
        clear c3
        by_cases c4 : 0 ≤ x5_1
        · rw [if_pos c4] at H
          have c4b0 : decide (0 ≤ x5_1) = true := decide_eq_true c4
          clear c4
          by_cases c5 : (rd l0 x5_1) = a1
          · rw [if_pos c5] at H
            have c5b0 : ((rd l0 x5_1) == a1) = true := beq_iff_eq.mpr c5
            have c5b1 : ((rd l0 x5_1) != a1) = false := bne_eq_false_iff_eq.mpr c5
            clear c5
            obtain rfl := Option.some.inj H
            have p280 : 0 ≤ (x5_1 : Int) := of_decide_eq_true z7_4
            have q280 : x5_1 < (l0.length : Int) := of_decide_eq_true z7_4
            obtain ⟨ad280, e280, hx280_0⟩ := Kd.at_int HR0.out x5_1 p280 q280
            cases e280
            replace p280 := eq_true p280
            replace q280 := eq_true q280
            go_wp2
            go_ret
            exact ⟨by first | rfl | (simp; done) | (simp [*]; done), by repeat (first | exact Drawn0.refl _ | apply Drawn0.step)⟩
          · rw [if_neg c5] at H
            have c5b0 : ((rd l0 x5_1) == a1) = false := beq_eq_false_iff_ne.mpr c5
            have c5b1 : ((rd l0 x5_1) != a1) = true := bne_iff_ne.mpr c5
            have H' := Aside0.mk H
            clear H
            have p280 : 0 ≤ (x5_1 : Int) := of_decide_eq_true z7_4
            have q280 : x5_1 < (l0.length : Int) := of_decide_eq_true z7_4
            obtain ⟨ad280, e280, hx280_0⟩ := Kd.at_int HR0.out x5_1 p280 q280
            cases e280
            replace p280 := eq_true p280
            replace q280 := eq_true q280
            go_wp2
            go_roundg k1
            case measure => have := HK1.out; omega
            case rel => exact ⟨(wrap64 (x5_1 + 1)), z7_15, H', ⟨by have := HK1.out; omega⟩, by repeat (first | exact Drawn0.refl _ | apply Drawn0.step)⟩
        · rw [if_neg c4] at H
          exact absurd H (by simp)
      · rw [if_neg c3] at H
        have c3b0 : decide (x5_1 < (l0.length : Int)) = false := decide_eq_false c3
        clear c3
        obtain rfl := Option.some.inj H
        go_wp2
        go_ret
        exact ⟨by first | rfl | (simp; done) | (simp [*]; done), by repeat (first | exact Drawn0.refl _ | apply Drawn0.step)⟩

/-! ### spec_DrawPlaces: function 10 -/
def spec_DrawPlaces.l0 : Nat → List Int → Int → List Int → Int → Int → Option (List Int)
  | 0, _, _, _, _, _ => none
  | k + 1, x4, x5, x285000, x285001, x285002 => if x5 < 12 then ((spec_l01Below.f x285000 x285001 x285002 10000).bind fun bt288 => (if x4.length < 17592186044416 then (spec_DrawPlaces.l0 k (x4 ++ [bt288.1]) (wrap64 (x5 + 1)) x285000 bt288.2.1 bt288.2.2) else (none))) else (some x4)
def spec_DrawPlaces.f (k : Nat) (l0 : List Int) : Option (List Int) := (spec_l01New.f k l0).bind fun bt281 => (spec_DrawPlaces.l0 k (([] : List Int)) 0 bt281.1 bt281.2.1 bt281.2.2)
theorem spec_DrawPlaces.mono_l : ∀ k, (∀ y0 y1 y2 y3 y4, LeO (spec_DrawPlaces.l0 k y0 y1 y2 y3 y4) (spec_DrawPlaces.l0 (k + 1) y0 y1 y2 y3 y4))
  | 0 => fun _ _ _ _ _ r h => by simp [spec_DrawPlaces.l0] at h
  | k + 1 => by
    have ih0 := spec_DrawPlaces.mono_l k
    · intro y0 y1 y2 y3 y4
      unfold spec_DrawPlaces.l0
      repeat' first
      | (with_reducible exact ih0 _ _ _ _ _)
      | (with_reducible exact spec_l01New.mono _ _)
      | (with_reducible exact LeO.refl _)
      | (with_reducible exact LeO.none _)
      | (with_reducible refine LeO.ite ?_ ?_)
      | (with_reducible refine LeO.bind ?_ (fun _ => ?_))
      | exact ih0 _ _ _ _ _
      | exact spec_l01New.mono _ _
      | exact LeO.none _
      | refine LeO.ite ?_ ?_
      | refine LeO.bind ?_ (fun _ => ?_)
theorem spec_DrawPlaces.mono : ∀ a0 k, LeO (spec_DrawPlaces.f k a0) (spec_DrawPlaces.f (k + 1) a0) := by
  intro a0 k
  have ih0 := spec_DrawPlaces.mono_l k
  unfold spec_DrawPlaces.f
  repeat' first
      | (with_reducible exact ih0 _ _ _ _ _)
      | (with_reducible exact spec_l01New.mono _ _)
      | (with_reducible exact LeO.refl _)
      | (with_reducible exact LeO.none _)
      | (with_reducible refine LeO.ite ?_ ?_)
      | (with_reducible refine LeO.bind ?_ (fun _ => ?_))
      | exact ih0 _ _ _ _ _
      | exact spec_l01New.mono _ _
      | exact LeO.none _
      | refine LeO.ite ?_ ?_
      | refine LeO.bind ?_ (fun _ => ?_)
set_option maxHeartbeats 8000000 in
set_option maxRecDepth 100000 in
theorem spec_DrawPlaces.calls (k : Nat) (A0 : Option Addr) (c0 : Nat) (l0 : List Int) (r : List Int) (w : World) (hr0 : Kd.C (Kd.int .u8) w A0 l0.length l0) (hc0 : l0.length ≤ c0) (h : spec_DrawPlaces.f k l0 = some r) :
    Calls Try.prog 10 #[.slice A0 l0.length c0] w fun e w' => ∃ v0_ : Value, e = .returned (v0_) ∧ Kd.R (Kd.int .i64) 3 w' w.heap.size (fun _ => True) v0_ r ∧ Below w.heap.size w w' := by
  have HR0 := Aside0.mk hr0
  have HC0 := Aside0.mk hc0
  clear hr0 hc0
  have HB := Aside0.mk (Below.refl w.heap.size w)
  have H : ((spec_l01New.f k l0).bind fun bt281 => (spec_DrawPlaces.l0 k (([] : List Int)) 0 bt281.1 bt281.2.1 bt281.2.2)) = some r := h
  clear h
  replace H := Option.bind_eq_some_iff.mp H
  obtain ⟨⟨t281, t282, t283⟩, A20, H⟩ := H
  replace H : (spec_DrawPlaces.l0 k (([] : List Int)) 0 t281 t282 t283) = some r := H
  have A2 := Aside0.mk A20
  clear A20
  obtain ⟨y285, hy285⟩ : ∃ y_ : List Int, y_ = (([] : List Int)) := ⟨_, rfl⟩
  replace H : (spec_DrawPlaces.l0 k y285 0 t281 t282 t283) = some r := by first | (rw [hy285]; with_reducible exact H) | (have H2_ := (Option.bind_some _ _).symm.trans H; rw [hy285]; with_reducible exact H2_) | (have H2_ := (Option.bind_some _ _).symm.trans H; with_reducible exact H2_) | with_reducible exact H | (rw [hy285]; exact H) | exact H
  have Ny285 := Aside0.mk hy285
  clear hy285
  have H' := Aside0.mk H
  clear H
  go_enter Try.func10, Try.ntmps10
  go_wp2_with (first | ((first | ((with_reducible refine gate_callee (f := 23) rfl ?_); refine goesL_ (some 7) rfl rfl Try.func23 (by kernel_rfl) rfl #[.slice A0 l0.length c0] rfl z7_10 ?_; (with_reducible refine (spec_l01New.calls k _ _ l0 t281 t282 t283 w _ ?side1 ?side2 ?side3 A2.out).mono ?_)) | (go_at_call 23; (with_reducible refine (spec_l01New.calls k _ _ l0 t281 t282 t283 w _ ?side1 ?side2 ?side3 A2.out).mono ?_))); (case side1 => exact z7_0); (case side2 => exact HR0.out); (case side3 => exact z7_22); rintro e w3 ⟨g284, rfl, hi, hb, hb2⟩; (first | refine ⟨_, rfl, ?_⟩ | skip); have n0_ := Aside0.mk (hb); have n1_ := Aside0.mk (hi); clear HB; have HB := n0_; have HI284 := n1_; clear n0_ n1_; (try clear hb); (try clear hb2); (try clear hk); (try clear hi)) | ((with_reducible refine gate_dst (N := 8) rfl ?_); refine Kd.R_lit (Kd.int .i64) _ 3 ?hg (N := 8) ?hd (xs := ([] : List Int)) (inner := []) (ok := fun _ => True) (okp := fun _ => True) ?hr ?hp (fun _ hk => hk) trivial (Below.refl _ _) (Nat.le_refl _) (by simp) ?_; (case hd => rfl); (case hg => rfl); (case hr => exact z7_17); (case hp => exact (Reps.none _ _)); intro v286 w4 ho5 hb hg_ hnew_; clear hg_ hnew_; (first | rw [← Ny285.out] at ho5 | (simp only [Int.reduceToNat] at ho5; rw [← Ny285.out] at ho5)); have n0_ := Aside0.mk (Kd.R_lower ho5 (below_size z7_13)); have n1_ := Aside0.mk (IsS55.below z7_19 hb); have n2_ := Aside0.mk (below_step z7_13 hb); clear HI284; clear HB; have HO287 := n0_; have HI284 := n1_; have HB := n2_; clear n0_ n1_ n2_; clear hb ho5))
  go_loopg [4, 5] k (fun kq v4 v5 w' => ∃ (x4_1 : List Int) (x5_1 : Int) (x285001_1 : Int) (x285002_1 : Int), v5 = .int .i64 x5_1 ∧ Aside0 (spec_DrawPlaces.l0 kq x4_1 x5_1 t281 x285001_1 x285002_1 = some r) ∧ Aside0 (kq ≤ k) ∧ Aside0 (Kd.R (Kd.int .i64) 3 w' w.heap.size (fun _ => True) v4 x4_1) ∧ Aside0 (IsS55 w w' g284 t281 x285001_1 x285002_1) ∧ Aside0 (Below w.heap.size w w'))
  case atStart => exact ⟨(y285), (0), (t282), (t283), z7_15, H', ⟨Nat.le_refl _⟩, ⟨by (with_reducible repeat (first | apply Kd.R_alloc | apply Kd.R_drewN | apply Kd.R_drew)); exact HO287.out⟩, ⟨by repeat (first | (with_reducible first | exact HI284.out | apply IsS55.alloc | apply IsS55.drewN | apply IsS55.drew | apply IsS55.set_1 | apply IsS55.set_2) | exact HI284.out)⟩, ⟨by repeat (first | (with_reducible first | exact HB.out | apply below_alloc | apply pw_below_drewN | apply below_drew1 | refine below_set ?_ (IsS55.ge HI284.out)) | exact HB.out)⟩⟩
  case round =>
    clear H'
    obtain ⟨x4_1, x5_1, x285001_1, x285002_1, rfl, HA, HK1, HO_4, HI284, HB⟩ := hrel
    cases gk with
    | zero => exact absurd HA.out (by simp [spec_DrawPlaces.l0])
    | succ k1 =>
      have H := HA.out
      clear HA
      simp only [spec_DrawPlaces.l0] at H
      by_cases c6 : x5_1 < 12
      · rw [if_pos c6] at H
        have c6b0 : decide (x5_1 < 12) = true := decide_eq_true c6
        clear c6
        replace H := Option.bind_eq_some_iff.mp H
        obtain ⟨⟨t288, t289, t290⟩, A70, H⟩ := H
        replace H : (if x4_1.length < 17592186044416 then (spec_DrawPlaces.l0 k1 (x4_1 ++ [t288]) (wrap64 (x5_1 + 1)) t281 t289 t290) else (none)) = some r := H
        have A7 := Aside0.mk A70
        clear A70
        by_cases c8 : x4_1.length < 17592186044416
        · rw [if_pos c8] at H
          have LMc8 := Aside0.mk c8
          clear c8
          obtain ⟨y291, hy291⟩ : ∃ y_ : List Int, y_ = (x4_1 ++ [t288]) := ⟨_, rfl⟩
          replace H : (spec_DrawPlaces.l0 k1 y291 (wrap64 (x5_1 + 1)) t281 t289 t290) = some r := by first | (rw [hy291]; with_reducible exact H) | (have H2_ := (Option.bind_some _ _).symm.trans H; rw [hy291]; with_reducible exact H2_) | (have H2_ := (Option.bind_some _ _).symm.trans H; with_reducible exact H2_) | with_reducible exact H | (rw [hy291]; exact H) | exact H
          have Ny291 := Aside0.mk hy291
          clear hy291
          have H' := Aside0.mk H
          clear H
          go_wp2_with (first | ((first | ((with_reducible refine gate_callee (f := 24) rfl ?_); refine goesL_ (some 15) rfl rfl Try.func24 (by kernel_rfl) rfl #[.pointer (some ⟨g284, 0, none⟩), .int .i64 10000] rfl z7_10 ?_; (with_reducible refine (spec_l01Below.calls g284 t281 x285001_1 x285002_1 10000 t288 t289 t290 w _ ?side1 ?side2 A7.out).mono ?_)) | (go_at_call 24; (with_reducible refine (spec_l01Below.calls g284 t281 x285001_1 x285002_1 10000 t288 t289 t290 w _ ?side1 ?side2 A7.out).mono ?_))); (case side1 => exact z7_19); (case side2 => exact z7_13); rintro e w9 ⟨rfl, hi, hb, hk⟩; (first | refine ⟨_, rfl, ?_⟩ | skip); have n0_ := Aside0.mk (Kd.R_mono (Kd.R_keep (IsS55.apart (show IsS55 w _ g284 t281 x285001_1 x285002_1 from by repeat (first | (with_reducible first | exact HI284.out | apply IsS55.alloc | apply IsS55.drewN | apply IsS55.drew | apply IsS55.set_1 | apply IsS55.set_2) | exact HI284.out)) z7_5 (by decide)) hk (fun _ h => h.2)) (fun _ h => h.1)); have n1_ := Aside0.mk (hb); have n2_ := Aside0.mk (hi); clear HO_4; clear HB; clear HI284; have HO_4 := n0_; have HB := n1_; have HI284 := n2_; clear n0_ n1_ n2_; (try clear hb); (try clear hb2); (try clear hk); (try clear hi)) | ((with_reducible refine gate_builtin (b := .append) (xs := #[.tmp 13, .tmp 16]) rfl ?_); at_builtin; refine Kd.R_append (Kd.int .i64) (w0 := w) w.heap.size rfl (.tmp 13) (.tmp 16) 24 3 (.int .i64 0) 8 rfl Try.underlying24 info3 rfl (by decide) (by omega) u4 x4_1 t288 [.int .i64 t288] (fun _ => True) (fun _ => False) rfl rfl ?aP (fun _ hk => hk.elim) ?aF ?aO ?aB ?aS ?aL ?_; (case aP => exact rfl); (case aB => exact z7_13); (case aF => exact (fun _ _ => trivial)); (case aO => exact z7_5); (case aS => exact (below_size z7_13)); (case aL => have := LMc8.out; omega); intro v292 w10 ho hb hg hat; rw [← Ny291.out] at ho; have n0_ := Aside0.mk (IsS55.grown z7_19 hg (IsS55.own_ne HI284.out HO_4.out (by decide))); have n1_ := Aside0.mk (hb); have n2_ := Aside0.mk (ho); clear HI284; clear HB; clear HO_4; have HI284 := n0_; have HB := n1_; have HO293 := n2_; clear n0_ n1_ n2_; clear ho hb hg hat))
          go_roundg k1
          case measure => have := HK1.out; omega
          case rel => exact ⟨(y291), (wrap64 (x5_1 + 1)), (t289), (t290), z7_15, H', ⟨by have := HK1.out; omega⟩, ⟨by (with_reducible repeat (first | apply Kd.R_alloc | apply Kd.R_drewN | apply Kd.R_drew)); exact HO293.out⟩, ⟨by repeat (first | (with_reducible first | exact HI284.out | apply IsS55.alloc | apply IsS55.drewN | apply IsS55.drew | apply IsS55.set_1 | apply IsS55.set_2) | exact HI284.out)⟩, ⟨by repeat (first | (with_reducible first | exact HB.out | apply below_alloc | apply pw_below_drewN | apply below_drew1 | refine below_set ?_ (IsS55.ge HI284.out)) | exact HB.out)⟩⟩
        · rw [if_neg c8] at H
          exact absurd H (by simp)
      · rw [if_neg c6] at H
        have c6b0 : decide (x5_1 < 12) = false := decide_eq_false c6
        clear c6
        obtain rfl := Option.some.inj H
        go_wp2
        go_ret
        exact ⟨_, by first | rfl | (simp [errW_none, errW_some] <;> rfl) | (simp [*, errW_none, errW_some] <;> rfl) | (simp [*, errW_none, errW_some, i64_w]; done), by (with_reducible repeat (first | apply Kd.R_alloc | apply Kd.R_drewN | apply Kd.R_drew)); exact HO_4.out, by repeat (first | (with_reducible first | exact HB.out | apply below_alloc | apply pw_below_drewN | apply below_drew1 | refine below_set ?_ (IsS55.ge HI284.out)) | exact HB.out)⟩

/-! ### slices_Clone_int_int: function 27 -/
def slices_Clone_int_int.f (l0 : List Int) : Option (List Int) := if l0.length < 17592186044416 then some l0 else none
set_option maxHeartbeats 8000000 in
set_option maxRecDepth 100000 in
theorem slices_Clone_int_int.calls (A0 : Option Addr) (c0 : Nat) (l0 : List Int) (r : List Int) (w : World) (hr0 : Kd.C (Kd.int .i64) w A0 l0.length l0) (hc0 : l0.length ≤ c0) (h : slices_Clone_int_int.f l0 = some r) :
    Calls Try.prog 27 #[.slice A0 l0.length c0] w fun e w' => ∃ v0_ : Value, e = .returned (v0_) ∧ Kd.R (Kd.int .i64) 3 w' w.heap.size (fun _ => True) v0_ r ∧ Below w.heap.size w w' := by
  have HR0 := Aside0.mk hr0
  have HC0 := Aside0.mk hc0
  have HB := Aside0.mk (Below.refl w.heap.size w)
  unfold slices_Clone_int_int.f at h
  by_cases hl : l0.length < 17592186044416
  · rw [if_pos hl] at h
    obtain rfl := Option.some.inj h
    clear h
    obtain ⟨y0, hy0⟩ : ∃ y_ : List Int, y_ = ([] : List Int) := ⟨_, rfl⟩
    obtain ⟨y1, hy1⟩ : ∃ y_ : List Int, y_ = y0 ++ l0 := ⟨_, rfl⟩
    have hl2 : y0.length + l0.length < 17592186044416 := by
      rw [hy0]
      simpa using hl
    have e1 : y1 = l0 := by rw [hy1, hy0, List.nil_append]
    have LM := Aside0.mk hl2
    have N0 := Aside0.mk hy0
    have N1 := Aside0.mk hy1
    have E1 := Aside0.mk e1
    clear hl2 hy0 hy1 e1
    cases A0 with
    | none =>
      have l0e : l0 = [] := by
        cases l0 with
        | nil => rfl
        | cons x t =>
          obtain ⟨ad, e, _⟩ := hr0.2.2 (by simp)
          cases e
      subst l0e
      have he : ∀ w : World, (binOp .eql 24 (.slice none 0 c0) (.slice none 0 0)).run Try.prog w = .ok (.bool true) w := fun _ => rfl
      go_enter Try.func27, Try.ntmps27
      go_wp2
      go_ret
      exact ⟨_, rfl, Kd.R_nil _ _ _ _ _, HB.out⟩
    | some a0 =>
      have he : ∀ w : World, (binOp .eql 24 (.slice (some a0) l0.length c0) (.slice none 0 0)).run Try.prog w = .ok (.bool false) w := fun _ => rfl
      go_enter Try.func27, Try.ntmps27
      go_wp2_with (first | ((with_reducible refine gate_dst (N := 5) rfl ?_); refine Kd.R_lit (Kd.int .i64) _ 3 ?hg (N := 5) ?hd (xs := ([] : List Int)) (inner := []) (ok := fun _ => True) (okp := fun _ => True) ?hr ?hp (fun _ hk => hk) trivial (Below.refl _ _) (Nat.le_refl _) (by simp) ?_; (case hd => rfl); (case hg => rfl); (case hr => exact z7_17); (case hp => exact (Reps.none _ _)); intro v196 w5 ho6 hb hg_ hnew_; clear hg_ hnew_; rw [← N0.out] at ho6; have HO197 := Aside0.mk ho6; have n1_ := Aside0.mk (below_step HB.out hb); clear HB; have HB := n1_; clear n1_; clear hb ho6) | ((with_reducible refine gate_builtin (b := .append) (xs := #[.tmp 5, .tmp 6]) rfl ?_); at_builtin; refine Kd.R_append_rows (Kd.int .i64) (w0 := w) w.heap.size rfl (.tmp 5) (.tmp 6) 24 3 (.int .i64 0) 8 rfl Try.underlying24 info3 rfl (by decide) (by omega) v196 y0 l0 _ _ _ (fun _ => True) (fun _ => False) rfl rfl ?aO ?aR (fun _ _ h => h) (fun _ h => h.elim) ?aF ?aB ?aS ?aL ?_; (case aR => exact z7_6); (case aB => exact z7_0); (case aF => exact (fun _ _ => trivial)); (case aO => exact (by (with_reducible repeat (first | apply Kd.R_alloc | apply Kd.R_drewN | apply Kd.R_drew)); exact HO197.out)); (case aS => exact (below_size z7_0)); (case aL => have := LM.out; omega); intro v199 w7 ho hb hg hat; rw [← N1.out] at ho; have n0_ := Aside0.mk (hb); have n1_ := Aside0.mk (ho); clear HB; have HB := n0_; have HO200 := n1_; clear n0_ n1_; clear ho hb hg hat))
      go_ret
      exact ⟨_, rfl, by rw [← E1.out]; repeat (first | exact HO200.out | apply Kd.R_alloc | apply Kd.R_drewN | apply Kd.R_drew), by repeat (first | (with_reducible first | exact HB.out | apply below_alloc | apply pw_below_drewN | apply below_drew1) | exact HB.out)⟩
  · rw [if_neg hl] at h
    exact absurd h (by simp)

/-! ### impl_within: function 28 -/
def impl_within.f (a0 : Int) (a1 : Int) (a2 : Int) : Option (Bool) := if a0 ≥ a1 then (some (decide (a0 ≤ a2))) else (some false)
set_option maxHeartbeats 8000000 in
set_option maxRecDepth 100000 in
theorem impl_within.calls (a0 : Int) (a1 : Int) (a2 : Int) (r : Bool) (w : World) (h : impl_within.f a0 a1 a2 = some r) :
    Calls Try.prog 28 #[.int .i64 a0, .int .i64 a1, .int .i64 a2] w fun e w' => e = .returned (.bool r) ∧ Drawn0 w w' := by
  have H : (if a0 ≥ a1 then (some (decide (a0 ≤ a2))) else (some false)) = some r := h
  clear h
  by_cases c4 : a0 ≥ a1
  · rw [if_pos c4] at H
    have c4b0 : decide (a1 ≤ a0) = true := decide_eq_true c4
    clear c4
    obtain rfl := Option.some.inj H
    go_enter Try.func28, Try.ntmps28
    go_wp2
    go_ret
    exact ⟨by first | rfl | (simp; done) | (simp [*]; done), by repeat (first | exact Drawn0.refl _ | apply Drawn0.step)⟩
  · rw [if_neg c4] at H
    have c4b0 : decide (a1 ≤ a0) = false := decide_eq_false c4
    clear c4
    obtain rfl := Option.some.inj H
    go_enter Try.func28, Try.ntmps28
    go_wp2
    go_ret
    exact ⟨by first | rfl | (simp; done) | (simp [*]; done), by repeat (first | exact Drawn0.refl _ | apply Drawn0.step)⟩

/-! ### impl_WriteWord: function 11 -/
def impl_WriteWord.f (l0 : List Int) (a1_0 : Int) (a1_1 : Int) : Option (List Int) := (slices_Clone_int_int.f l0).bind fun t295 => ((impl_within.f a1_0 0 (wrap64 ((l0.length : Int) - 1))).bind fun t298 => (if t298 = true then (if 0 ≤ a1_0 then (if a1_0 < (t295.length : Int) then (some (t295.set (a1_0 : Int).toNat a1_1)) else (none)) else (none)) else (some t295)))
set_option maxHeartbeats 8000000 in
set_option maxRecDepth 100000 in
theorem impl_WriteWord.calls (A0 : Option Addr) (c0 : Nat) (l0 : List Int) (a1_0 : Int) (a1_1 : Int) (r : List Int) (w : World) (hr0 : Kd.C (Kd.int .i64) w A0 l0.length l0) (hc0 : l0.length ≤ c0) (h : impl_WriteWord.f l0 a1_0 a1_1 = some r) :
    Calls Try.prog 11 #[.slice A0 l0.length c0, .agg #[.int .i64 a1_0, .int .i64 a1_1]] w fun e w' => ∃ v0_ : Value, e = .returned (v0_) ∧ Kd.R (Kd.int .i64) 3 w' w.heap.size (fun _ => True) v0_ r ∧ Below w.heap.size w w' := by
  have hu31 := Try.underlying31
  have HR0 := Aside0.mk hr0
  have HC0 := Aside0.mk hc0
  clear hr0 hc0
  have HB := Aside0.mk (Below.refl w.heap.size w)
  have H : ((slices_Clone_int_int.f l0).bind fun t295 => ((impl_within.f a1_0 0 (wrap64 ((l0.length : Int) - 1))).bind fun t298 => (if t298 = true then (if 0 ≤ a1_0 then (if a1_0 < (t295.length : Int) then (some (t295.set (a1_0 : Int).toNat a1_1)) else (none)) else (none)) else (some t295)))) = some r := h
  clear h
  replace H := Option.bind_eq_some_iff.mp H
  obtain ⟨t295, A30, H⟩ := H
  replace H : ((impl_within.f a1_0 0 (wrap64 ((l0.length : Int) - 1))).bind fun t298 => (if t298 = true then (if 0 ≤ a1_0 then (if a1_0 < (t295.length : Int) then (some (t295.set (a1_0 : Int).toNat a1_1)) else (none)) else (none)) else (some t295))) = some r := H
  have A3 := Aside0.mk A30
  clear A30
  replace H := Option.bind_eq_some_iff.mp H
  obtain ⟨t298, A40, H⟩ := H
  replace H : (if t298 = true then (if 0 ≤ a1_0 then (if a1_0 < (t295.length : Int) then (some (t295.set (a1_0 : Int).toNat a1_1)) else (none)) else (none)) else (some t295)) = some r := H
  have A4 := Aside0.mk A40
  clear A40
  by_cases c5 : t298 = true
  · subst c5
    have H1 : (if 0 ≤ a1_0 then (if a1_0 < (t295.length : Int) then (some (t295.set (a1_0 : Int).toNat a1_1)) else (none)) else (none)) = some r := by rw [if_pos rfl] at H; exact H
    clear H
    have H := H1
    clear H1
    by_cases c6 : 0 ≤ a1_0
    · rw [if_pos c6] at H
      have c6b0 : decide (0 ≤ a1_0) = true := decide_eq_true c6
      clear c6
      by_cases c7 : a1_0 < (t295.length : Int)
      · rw [if_pos c7] at H
        have c7b0 : decide (a1_0 < (t295.length : Int)) = true := decide_eq_true c7
        clear c7
        obtain ⟨y299, hy299⟩ : ∃ y_ : List Int, y_ = (t295.set (a1_0 : Int).toNat a1_1) := ⟨_, rfl⟩
        replace H : (some y299) = some r := by first | (rw [hy299]; with_reducible exact H) | (have H2_ := (Option.bind_some _ _).symm.trans H; rw [hy299]; with_reducible exact H2_) | (have H2_ := (Option.bind_some _ _).symm.trans H; with_reducible exact H2_) | with_reducible exact H | (rw [hy299]; exact H) | exact H
        have Ny299 := Aside0.mk hy299
        clear hy299
        obtain rfl := Option.some.inj H
        go_enter Try.func11, Try.ntmps11
        go_wp2_with (first | ((with_reducible refine gate_dst (N := 3) rfl ?_); refine box_event ?hg (N := 3) ?hd (cs := #[.int .i64 a1_0, .int .i64 a1_1]) (t := 31) ?hr ?_; (case hd => rfl); (case hg => rfl); (case hr => exact z7_17); intro gb294 hg w9 hbox hb; have n0_ := Aside0.mk (below_step z7_0 hb); have n1_ := Aside0.mk (hbox); have n2_ := Aside0.mk ((z7_23 : w.heap.size ≤ gb294)); have n3_ := Aside0.mk ((z7_23 : w.heap.size ≤ gb294)); clear HB; have HB := n0_; have BK294 := n1_; have GW294 := n2_; have GE294 := n3_; clear n0_ n1_ n2_ n3_; clear hb hbox hg) | ((first | ((with_reducible refine gate_callee (f := 27) rfl ?_); refine goesL_ (some 7) rfl rfl Try.func27 (by kernel_rfl) rfl #[.slice A0 l0.length c0] rfl z7_10 ?_; (with_reducible refine (slices_Clone_int_int.calls _ _ l0 t295 _ ?side1 ?side2 A3.out).mono ?_)) | (go_at_call 27; (with_reducible refine (slices_Clone_int_int.calls _ _ l0 t295 _ ?side1 ?side2 A3.out).mono ?_))); (case side1 => exact z7_6); (case side2 => exact z7_22); rintro e w10 ⟨v296, rfl, ho0, hb⟩; (first | refine ⟨_, rfl, ?_⟩ | skip); have n0_ := Aside0.mk (Kd.R_lower ho0 (below_size z7_14)); have n1_ := Aside0.mk (blk_below (g := gb294) (o := .cells #[.int .i64 a1_0, .int .i64 a1_1] 31 (0, 0)) z7_18 hb); have n2_ := Aside0.mk (below_step z7_14 hb); clear BK294; clear HB; have HO297 := n0_; have BK294 := n1_; have HB := n2_; clear n0_ n1_ n2_; (try clear hb); (try clear hb2); (try clear hk); (try clear hi); (try clear ho0); have hcz11_0 : w10.cell? ⟨gb294, 0, none⟩ = some (.int .i64 a1_0) := (blk_cell BK294.out 0).trans rfl; have hcz11_1 : w10.cell? ⟨gb294, 1, none⟩ = some (.int .i64 a1_1) := (blk_cell BK294.out 1).trans rfl; have hfz11_0 := blk_frozen BK294.out 0; have hfz11_1 := blk_frozen BK294.out 1) | ((first | ((with_reducible refine gate_callee (f := 28) rfl ?_); refine goesL_ (some 13) rfl rfl Try.func28 (by kernel_rfl) rfl #[.int .i64 a1_0, .int .i64 0, .int .i64 (wrap64 ((l0.length : Int) - 1))] rfl z7_10 ?_; (with_reducible refine (impl_within.calls a1_0 0 (wrap64 ((l0.length : Int) - 1)) true _ A4.out).mono ?_)) | (go_at_call 28; (with_reducible refine (impl_within.calls a1_0 0 (wrap64 ((l0.length : Int) - 1)) true _ A4.out).mono ?_))); rintro e w' ⟨rfl, ⟨nd, rfl⟩⟩; (first | refine ⟨_, rfl, ?_⟩ | skip); (try (rw [drewN_self w10]; generalize hq_ : World.drewN w10 _ = w10; have n0_ : Aside0 (Kd.R (Kd.int .i64) 3 w10 w.heap.size (fun _ => True) v296 t295) := ⟨by rw [← hq_]; exact (by (with_reducible repeat (first | apply Kd.R_alloc | apply Kd.R_drewN | apply Kd.R_drew)); exact HO297.out)⟩; have n1_ : Aside0 (w10.heap[gb294]? = some (.cells #[.int .i64 a1_0, .int .i64 a1_1] 31 (0, 0))) := ⟨by rw [← hq_]; exact z7_18⟩; have n2_ : Aside0 (Below w.heap.size w w10) := ⟨by rw [← hq_]; exact z7_14⟩; clear HO297 BK294 HB hq_; have HO297 := n0_; have BK294 := n1_; have HB := n2_; clear n0_ n1_ n2_)); (try (have hcuz12_0 : w10.cell? ⟨gb294, 0, none⟩ = some (.int .i64 a1_0) := (blk_cell BK294.out 0).trans rfl; have hcuz12_1 : w10.cell? ⟨gb294, 1, none⟩ = some (.int .i64 a1_1) := (blk_cell BK294.out 1).trans rfl; have hfuz12_0 := blk_frozen BK294.out 0; have hfuz12_1 := blk_frozen BK294.out 1)); have p8 : 0 ≤ (a1_0 : Int) := of_decide_eq_true z7_4; have q8 : (a1_0 : Int) < ((t295.length : Int) : Int) := of_decide_eq_true z7_4; obtain ⟨go8, co8, eo8, gb8, gl8, cl8, HG8⟩ := Kd.R_form HO297.out (by omega); (first | cases eo8 | (injection eo8 with ea_ en_ ec_; (first | subst ea_ | (injection ea_ with ea_; subst ea_)); subst ec_; clear en_)); have GB8 := Aside0.mk gb8; have GG8 := Aside0.mk HG8; clear gb8 gl8 HG8; obtain ⟨hx8_0, hf8_0⟩ := Kd.R_celln 0 HO297.out (a1_0 : Int) p8 q8; replace p8 := eq_true p8; replace q8 := eq_true q8; obtain ⟨hy13_, hz13_⟩ := Kd.R_celln 0 HO297.out (a1_0 : Int) (of_decide_eq_true z7_4) (of_decide_eq_true z7_4); have HP13 := Kd.R_putg HO297.out (a1_0 : Int) a1_1) | ((with_reducible refine gate_store (t := 3) (p := 19) rfl ?_); refine store_event (t := 3) (p := 19) (v := ?vo_w14) (w1 := (w10.setCell ⟨go8, (a1_0 : Int).toNat, none⟩ (.int .i64 a1_1))) ?hg ?ho ?hn ?hr ?_; (case ho => rfl); (case hg => rfl); (case hn => rfl); (case hr => exact z7_17); intro w14 hw; have hg : w10.grownBy w14 (some go8) := (by rw [hw]; exact HP13.2); have hp_ : Kd.R (Kd.int .i64) 3 w14 w.heap.size (fun _ => True) (.slice (some ⟨go8, 0, none⟩) t295.length co8) y299 := (by rw [hw, Ny299.out]; exact HP13.1); clear HP13; have n0_ := Aside0.mk (blk_grown (g := gb294) (o := .cells #[.int .i64 a1_0, .int .i64 a1_1] 31 (0, 0)) z7_18 hg (Kd.R_ne HO297.out BK294.out (by decide))); have n1_ := Aside0.mk (hp_); have n2_ := Aside0.mk ((by rw [hw]; exact below_set (HB.out) GB8.out : Below w.heap.size w w14)); clear BK294; clear HO297; clear HB; have BK294 := n0_; have HO297 := n1_; have HB := n2_; clear n0_ n1_ n2_; clear hg hw hp_))
        go_ret
        exact ⟨_, by first | rfl | (simp [errW_none, errW_some] <;> rfl) | (simp [*, errW_none, errW_some] <;> rfl) | (simp [*, errW_none, errW_some, i64_w]; done), by (with_reducible repeat (first | apply Kd.R_alloc | apply Kd.R_drewN | apply Kd.R_drew)); exact HO297.out, by repeat (first | (with_reducible first | exact HB.out | apply below_alloc | apply pw_below_drewN | apply below_drew1 | refine below_set ?_ GE294.out) | exact HB.out)⟩
      · rw [if_neg c7] at H
        exact absurd H (by simp)
    · rw [if_neg c6] at H
      exact absurd H (by simp)
  · replace c5 := Bool.eq_false_iff.mpr c5
    subst c5
    have H1 : (some t295) = some r := by rw [if_neg (show ¬ (false = true) by decide)] at H; exact H
    clear H
    have H := H1
    clear H1
    obtain rfl := Option.some.inj H
    go_enter Try.func11, Try.ntmps11
    go_wp2_with (first | ((with_reducible refine gate_dst (N := 3) rfl ?_); refine box_event ?hg (N := 3) ?hd (cs := #[.int .i64 a1_0, .int .i64 a1_1]) (t := 31) ?hr ?_; (case hd => rfl); (case hg => rfl); (case hr => exact z7_17); intro gb294 hg w15 hbox hb; have n0_ := Aside0.mk (below_step z7_0 hb); have n1_ := Aside0.mk (hbox); have n2_ := Aside0.mk ((z7_23 : w.heap.size ≤ gb294)); have n3_ := Aside0.mk ((z7_23 : w.heap.size ≤ gb294)); clear HB; have HB := n0_; have BK294 := n1_; have GW294 := n2_; have GE294 := n3_; clear n0_ n1_ n2_ n3_; clear hb hbox hg) | ((first | ((with_reducible refine gate_callee (f := 27) rfl ?_); refine goesL_ (some 7) rfl rfl Try.func27 (by kernel_rfl) rfl #[.slice A0 l0.length c0] rfl z7_10 ?_; (with_reducible refine (slices_Clone_int_int.calls _ _ l0 t295 _ ?side1 ?side2 A3.out).mono ?_)) | (go_at_call 27; (with_reducible refine (slices_Clone_int_int.calls _ _ l0 t295 _ ?side1 ?side2 A3.out).mono ?_))); (case side1 => exact z7_6); (case side2 => exact z7_22); rintro e w16 ⟨v296, rfl, ho0, hb⟩; (first | refine ⟨_, rfl, ?_⟩ | skip); have n0_ := Aside0.mk (Kd.R_lower ho0 (below_size z7_14)); have n1_ := Aside0.mk (blk_below (g := gb294) (o := .cells #[.int .i64 a1_0, .int .i64 a1_1] 31 (0, 0)) z7_18 hb); have n2_ := Aside0.mk (below_step z7_14 hb); clear BK294; clear HB; have HO297 := n0_; have BK294 := n1_; have HB := n2_; clear n0_ n1_ n2_; (try clear hb); (try clear hb2); (try clear hk); (try clear hi); (try clear ho0); have hcz17_0 : w16.cell? ⟨gb294, 0, none⟩ = some (.int .i64 a1_0) := (blk_cell BK294.out 0).trans rfl; have hcz17_1 : w16.cell? ⟨gb294, 1, none⟩ = some (.int .i64 a1_1) := (blk_cell BK294.out 1).trans rfl; have hfz17_0 := blk_frozen BK294.out 0; have hfz17_1 := blk_frozen BK294.out 1) | ((first | ((with_reducible refine gate_callee (f := 28) rfl ?_); refine goesL_ (some 13) rfl rfl Try.func28 (by kernel_rfl) rfl #[.int .i64 a1_0, .int .i64 0, .int .i64 (wrap64 ((l0.length : Int) - 1))] rfl z7_10 ?_; (with_reducible refine (impl_within.calls a1_0 0 (wrap64 ((l0.length : Int) - 1)) false _ A4.out).mono ?_)) | (go_at_call 28; (with_reducible refine (impl_within.calls a1_0 0 (wrap64 ((l0.length : Int) - 1)) false _ A4.out).mono ?_))); rintro e w' ⟨rfl, ⟨nd, rfl⟩⟩; (first | refine ⟨_, rfl, ?_⟩ | skip)))
    go_ret
    exact ⟨_, by first | rfl | (simp [errW_none, errW_some] <;> rfl) | (simp [*, errW_none, errW_some] <;> rfl) | (simp [*, errW_none, errW_some, i64_w]; done), by (with_reducible repeat (first | apply Kd.R_alloc | apply Kd.R_drewN | apply Kd.R_drew)); exact HO297.out, by repeat (first | (with_reducible first | exact HB.out | apply below_alloc | apply pw_below_drewN | apply below_drew1 | refine below_set ?_ GE294.out) | exact HB.out)⟩

/-! ### impl_FirstDiffering: function 12 -/
def impl_FirstDiffering.l0 : Nat → List Int → List Int → Int → Int → Int → Option (Int)
  | 0, _, _, _, _, _ => none
  | k + 1, x0, x1, x5, x12, x13 => if x13 < x12 then (if 0 ≤ x13 then (if x13 < (x0.length : Int) then (if x13 < (x1.length : Int) then (if (rd x0 x13) = (rd x1 x13) then (impl_FirstDiffering.l0 k x0 x1 x5 x12 (wrap64 (x13 + 1))) else (some x13)) else (none)) else (none)) else (none)) else (if (x0.length : Int) = (x1.length : Int) then (some (-1)) else (some x5))
def impl_FirstDiffering.f (k : Nat) (l0 : List Int) (l1 : List Int) : Option (Int) := impl_FirstDiffering.l0 k l0 l1 (mn (l0.length : Int) (l1.length : Int)) (mn (l0.length : Int) (l1.length : Int)) 0
theorem impl_FirstDiffering.mono_l : ∀ k, (∀ y0 y1 y2 y3 y4, LeO (impl_FirstDiffering.l0 k y0 y1 y2 y3 y4) (impl_FirstDiffering.l0 (k + 1) y0 y1 y2 y3 y4))
  | 0 => fun _ _ _ _ _ r h => by simp [impl_FirstDiffering.l0] at h
  | k + 1 => by
    have ih0 := impl_FirstDiffering.mono_l k
    · intro y0 y1 y2 y3 y4
      unfold impl_FirstDiffering.l0
      repeat' first
      | (with_reducible exact ih0 _ _ _ _ _)
      | (with_reducible exact LeO.refl _)
      | (with_reducible exact LeO.none _)
      | (with_reducible refine LeO.ite ?_ ?_)
      | (with_reducible refine LeO.bind ?_ (fun _ => ?_))
      | exact ih0 _ _ _ _ _
      | exact LeO.none _
      | refine LeO.ite ?_ ?_
      | refine LeO.bind ?_ (fun _ => ?_)
theorem impl_FirstDiffering.mono : ∀ a0 a1 k, LeO (impl_FirstDiffering.f k a0 a1) (impl_FirstDiffering.f (k + 1) a0 a1) := by
  intro a0 a1 k
  have ih0 := impl_FirstDiffering.mono_l k
  unfold impl_FirstDiffering.f
  repeat' first
      | (with_reducible exact ih0 _ _ _ _ _)
      | (with_reducible exact LeO.refl _)
      | (with_reducible exact LeO.none _)
      | (with_reducible refine LeO.ite ?_ ?_)
      | (with_reducible refine LeO.bind ?_ (fun _ => ?_))
      | exact ih0 _ _ _ _ _
      | exact LeO.none _
      | refine LeO.ite ?_ ?_
      | refine LeO.bind ?_ (fun _ => ?_)
set_option maxHeartbeats 8000000 in
set_option maxRecDepth 100000 in
theorem impl_FirstDiffering.calls (k : Nat) (A0 : Option Addr) (c0 : Nat) (l0 : List Int) (A1 : Option Addr) (c1 : Nat) (l1 : List Int) (r : Int) (w : World) (hr0 : Kd.C (Kd.int .i64) w A0 l0.length l0) (hc0 : l0.length ≤ c0) (hr1 : Kd.C (Kd.int .i64) w A1 l1.length l1) (hc1 : l1.length ≤ c1) (h : impl_FirstDiffering.f k l0 l1 = some r) :
    Calls Try.prog 12 #[.slice A0 l0.length c0, .slice A1 l1.length c1] w fun e w' => e = .returned (.int .i64 r) ∧ Drawn0 w w' := by
  have HR0 := Aside0.mk hr0
  have HC0 := Aside0.mk hc0
  clear hr0 hc0
  have HR1 := Aside0.mk hr1
  have HC1 := Aside0.mk hc1
  clear hr1 hc1
  have H : (impl_FirstDiffering.l0 k l0 l1 (mn (l0.length : Int) (l1.length : Int)) (mn (l0.length : Int) (l1.length : Int)) 0) = some r := h
  clear h
  obtain ⟨ji3, hji3⟩ : ∃ j_ : Int, (mn (l0.length : Int) (l1.length : Int)) = j_ := ⟨_, rfl⟩
  replace H : (impl_FirstDiffering.l0 k l0 l1 ji3 ji3 0) = some r := by first | (rw [hji3] at H; exact H) | (simp only [hji3] at H ⊢; exact H)
  (try (have hji3l : 0 ≤ ji3 := by (rw [← hji3]; unfold mn; (repeat' split) <;> omega)))
  (try (have hji3m : 0 ≤ ji3 := by omega))
  have hji3_ : (if (l1.length : Int) < (l0.length : Int) then (l1.length : Int) else (l0.length : Int)) = ji3 := hji3
  have hji3n_ : (if l1.length < l0.length then (l1.length : Int) else (l0.length : Int)) = ji3 := by (have h_ := hji3_; simp only [Int.ofNat_lt] at h_; exact h_)
  have H' := Aside0.mk H
  clear H
  go_enter Try.func12, Try.ntmps12
  go_wp2
  repeat (go_quiet (fail); try go_wp2)
  go_loopg [13] k (fun kq v13 w' => ∃ (x13_1 : Int), v13 = .int .i64 x13_1 ∧ Aside0 (impl_FirstDiffering.l0 kq l0 l1 ji3 ji3 x13_1 = some r) ∧ Aside0 (kq ≤ k) ∧ Drawn0 w w')
  case atStart => exact ⟨(0), z7_15, H', ⟨Nat.le_refl _⟩, by repeat (first | exact Drawn0.refl _ | apply Drawn0.step)⟩
  case round =>
    clear H'
    (try clear c1)
    obtain ⟨x13_1, rfl, HA, HK1, ⟨m1, rfl⟩⟩ := hrel
    cases gk with
    | zero => exact absurd HA.out (by simp [impl_FirstDiffering.l0])
    | succ k1 =>
      have H := HA.out
      clear HA
      simp only [impl_FirstDiffering.l0] at H
      by_cases c4 : x13_1 < ji3
      · rw [if_pos c4] at H
        have c4b0 : decide (x13_1 < ji3) = true := decide_eq_true c4
        clear c4
        by_cases c5 : 0 ≤ x13_1
        · rw [if_pos c5] at H
          have c5b0 : decide (0 ≤ x13_1) = true := decide_eq_true c5
          clear c5
          by_cases c6 : x13_1 < (l0.length : Int)
          · rw [if_pos c6] at H
            have c6b0 : decide (x13_1 < (l0.length : Int)) = true := decide_eq_true c6
            clear c6
            by_cases c7 : x13_1 < (l1.length : Int)
            · rw [if_pos c7] at H
              have c7b0 : decide (x13_1 < (l1.length : Int)) = true := decide_eq_true c7
              clear c7
              by_cases c8 : (rd l0 x13_1) = (rd l1 x13_1)
              · rw [if_pos c8] at H
                have c8b0 : ((rd l0 x13_1) == (rd l1 x13_1)) = true := beq_iff_eq.mpr c8
                have c8b1 : ((rd l0 x13_1) != (rd l1 x13_1)) = false := bne_eq_false_iff_eq.mpr c8
                clear c8
                have H' := Aside0.mk H
                clear H
                have p300 : 0 ≤ (x13_1 : Int) := of_decide_eq_true z7_4
                have q300 : x13_1 < (l0.length : Int) := of_decide_eq_true z7_4
                obtain ⟨ad300, e300, hx300_0⟩ := Kd.at_int HR0.out x13_1 p300 q300
                cases e300
                replace p300 := eq_true p300
                replace q300 := eq_true q300
                have p301 : 0 ≤ (x13_1 : Int) := of_decide_eq_true z7_4
                have q301 : x13_1 < (l1.length : Int) := of_decide_eq_true z7_4
                obtain ⟨ad301, e301, hx301_0⟩ := Kd.at_int HR1.out x13_1 p301 q301
                cases e301
                replace p301 := eq_true p301
                replace q301 := eq_true q301
                go_wp2
                repeat (go_quiet (fail); try go_wp2)
                go_roundg k1
                case measure => have := HK1.out; omega
                case rel => exact ⟨(wrap64 (x13_1 + 1)), z7_15, H', ⟨by have := HK1.out; omega⟩, by repeat (first | exact Drawn0.refl _ | apply Drawn0.step)⟩
              · rw [if_neg c8] at H
                have c8b0 : ((rd l0 x13_1) == (rd l1 x13_1)) = false := beq_eq_false_iff_ne.mpr c8
                have c8b1 : ((rd l0 x13_1) != (rd l1 x13_1)) = true := bne_iff_ne.mpr c8
                obtain rfl := Option.some.inj H
                have p300 : 0 ≤ (x13_1 : Int) := of_decide_eq_true z7_4
                have q300 : x13_1 < (l0.length : Int) := of_decide_eq_true z7_4
                obtain ⟨ad300, e300, hx300_0⟩ := Kd.at_int HR0.out x13_1 p300 q300
                cases e300
                replace p300 := eq_true p300
                replace q300 := eq_true q300
                have p301 : 0 ≤ (x13_1 : Int) := of_decide_eq_true z7_4
                have q301 : x13_1 < (l1.length : Int) := of_decide_eq_true z7_4
                obtain ⟨ad301, e301, hx301_0⟩ := Kd.at_int HR1.out x13_1 p301 q301
                cases e301
                replace p301 := eq_true p301
                replace q301 := eq_true q301
                go_wp2
                repeat (go_quiet (fail); try go_wp2)
                go_ret
                exact ⟨by first | rfl | (simp; done) | (simp only [← hji3] <;> (first | rfl | simp)) | (simp [*]; done), by repeat (first | exact Drawn0.refl _ | apply Drawn0.step)⟩
            · rw [if_neg c7] at H
              exact absurd H (by simp)
          · rw [if_neg c6] at H
            exact absurd H (by simp)
        · rw [if_neg c5] at H
          exact absurd H (by simp)
      · rw [if_neg c4] at H
        have c4b0 : decide (x13_1 < ji3) = false := decide_eq_false c4
        clear c4
        by_cases c9 : (l0.length : Int) = (l1.length : Int)
        · rw [if_pos c9] at H
          have c9b0 : ((l0.length : Int) == (l1.length : Int)) = true := beq_iff_eq.mpr c9
          have c9b1 : ((l0.length : Int) != (l1.length : Int)) = false := bne_eq_false_iff_eq.mpr c9
          have c9b2 : (l0.length == l1.length) = true := by first | simpa using c9 | (simp at c9 ⊢; omega)
          clear c9
          obtain rfl := Option.some.inj H
          go_wp2
          repeat (go_quiet (fail); try go_wp2)
          go_ret
          exact ⟨by first | rfl | (simp; done) | (simp only [← hji3] <;> (first | rfl | simp)) | (simp [*]; done), by repeat (first | exact Drawn0.refl _ | apply Drawn0.step)⟩
        · rw [if_neg c9] at H
          have c9b0 : ((l0.length : Int) == (l1.length : Int)) = false := beq_eq_false_iff_ne.mpr c9
          have c9b1 : ((l0.length : Int) != (l1.length : Int)) = true := bne_iff_ne.mpr c9
          have c9b2 : (l0.length == l1.length) = false := by first | simpa using c9 | (simp at c9 ⊢; omega)
          obtain rfl := Option.some.inj H
          go_wp2
          repeat (go_quiet (fail); try go_wp2)
          go_ret
          exact ⟨by first | rfl | (simp; done) | (simp only [← hji3] <;> (first | rfl | simp)) | (simp [*]; done), by repeat (first | exact Drawn0.refl _ | apply Drawn0.step)⟩

/-! ### laws_FnTouched: function 3 -/
mutual
def laws_FnTouched.l0 : Nat → List Int → List Int → List (S31) → List Int → Int → Option (Bool)
  | 0, _, _, _, _, _ => none
  | k + 1, x0, x3, x4, x5, x6 => if x6 < (x4.length : Int) then (if 0 ≤ x6 then ((laws_has.f k x5 ((rd_T31 x4 x6).f0)).bind fun t313 => (if t313 = true then (laws_FnTouched.l0 k x0 x3 x4 x5 (wrap64 (x6 + 1))) else (some false))) else (none)) else (laws_FnTouched.l1 k x0 x3 x4 x5 1)
def laws_FnTouched.l1 : Nat → List Int → List Int → List (S31) → List Int → Int → Option (Bool)
  | 0, _, _, _, _, _ => none
  | k + 1, x0, x3, x4, x5, x7 => if x7 < (x5.length : Int) then (if 0 ≤ x7 then (if 0 ≤ (wrap64 (x7 - 1)) then (if (wrap64 (x7 - 1)) < (x5.length : Int) then (if (rd x5 x7) ≤ (rd x5 (wrap64 (x7 - 1))) then (some false) else (laws_FnTouched.l1 k x0 x3 x4 x5 (wrap64 (x7 + 1)))) else (none)) else (none)) else (none)) else ((spec_DrawPlaces.f k x0).bind fun t316 => (if 1 < (t316.length : Int) then (if (x3.length : Int) = 0 then (none) else (if 0 ≤ (Int.tmod (rd t316 1) (x3.length : Int)) then (if (Int.tmod (rd t316 1) (x3.length : Int)) < (x3.length : Int) then ((impl_WriteWord.f x3 (Int.tmod (rd t316 1) (x3.length : Int)) (wrap64 ((rd x3 (Int.tmod (rd t316 1) (x3.length : Int))) + 1))).bind fun t321 => ((impl_FirstDiffering.f k x3 t321).bind fun t324 => (if t324 = (Int.tmod (rd t316 1) (x3.length : Int)) then ((impl_FirstDiffering.f k x3 x3).bind fun t325 => (if t325 = (-1) then (some (decide ((x5.length : Int) ≤ (x4.length : Int)))) else (some false))) else (some false)))) else (none)) else (none))) else (none)))
end
def laws_FnTouched.f (k : Nat) (l0 : List Int) : Option (Bool) := (laws_big.f l0).bind fun t302 => (if t302 = true then (some true) else ((spec_DrawWrites.f k l0).bind fun bt303 => ((impl_TouchedWords.f bt303.2).bind fun t309 => (laws_FnTouched.l0 k l0 bt303.1 bt303.2 t309 0))))
theorem laws_FnTouched.mono_l : ∀ k, (∀ y0 y1 y2 y3 y4, LeO (laws_FnTouched.l0 k y0 y1 y2 y3 y4) (laws_FnTouched.l0 (k + 1) y0 y1 y2 y3 y4)) ∧ (∀ y0 y1 y2 y3 y4, LeO (laws_FnTouched.l1 k y0 y1 y2 y3 y4) (laws_FnTouched.l1 (k + 1) y0 y1 y2 y3 y4))
  | 0 => ⟨fun _ _ _ _ _ r h => by simp [laws_FnTouched.l0] at h, fun _ _ _ _ _ r h => by simp [laws_FnTouched.l1] at h⟩
  | k + 1 => by
    obtain ⟨ih0, ih1⟩ := laws_FnTouched.mono_l k
    refine ⟨?_, ?_⟩
    · intro y0 y1 y2 y3 y4
      unfold laws_FnTouched.l0
      repeat' first
      | (with_reducible exact ih0 _ _ _ _ _)
      | (with_reducible exact ih1 _ _ _ _ _)
      | (with_reducible exact impl_FirstDiffering.mono _ _ _)
      | (with_reducible exact laws_has.mono _ _ _)
      | (with_reducible exact spec_DrawPlaces.mono _ _)
      | (with_reducible exact spec_DrawWrites.mono _ _)
      | (with_reducible exact LeO.refl _)
      | (with_reducible exact LeO.none _)
      | (with_reducible refine LeO.ite ?_ ?_)
      | (with_reducible refine LeO.bind ?_ (fun _ => ?_))
      | exact ih0 _ _ _ _ _
      | exact ih1 _ _ _ _ _
      | exact impl_FirstDiffering.mono _ _ _
      | exact laws_has.mono _ _ _
      | exact spec_DrawPlaces.mono _ _
      | exact spec_DrawWrites.mono _ _
      | exact LeO.none _
      | refine LeO.ite ?_ ?_
      | refine LeO.bind ?_ (fun _ => ?_)
    · intro y0 y1 y2 y3 y4
      unfold laws_FnTouched.l1
      repeat' first
      | (with_reducible exact ih0 _ _ _ _ _)
      | (with_reducible exact ih1 _ _ _ _ _)
      | (with_reducible exact impl_FirstDiffering.mono _ _ _)
      | (with_reducible exact laws_has.mono _ _ _)
      | (with_reducible exact spec_DrawPlaces.mono _ _)
      | (with_reducible exact spec_DrawWrites.mono _ _)
      | (with_reducible exact LeO.refl _)
      | (with_reducible exact LeO.none _)
      | (with_reducible refine LeO.ite ?_ ?_)
      | (with_reducible refine LeO.bind ?_ (fun _ => ?_))
      | exact ih0 _ _ _ _ _
      | exact ih1 _ _ _ _ _
      | exact impl_FirstDiffering.mono _ _ _
      | exact laws_has.mono _ _ _
      | exact spec_DrawPlaces.mono _ _
      | exact spec_DrawWrites.mono _ _
      | exact LeO.none _
      | refine LeO.ite ?_ ?_
      | refine LeO.bind ?_ (fun _ => ?_)
theorem laws_FnTouched.mono : ∀ a0 k, LeO (laws_FnTouched.f k a0) (laws_FnTouched.f (k + 1) a0) := by
  intro a0 k
  obtain ⟨ih0, ih1⟩ := laws_FnTouched.mono_l k
  unfold laws_FnTouched.f
  repeat' first
      | (with_reducible exact ih0 _ _ _ _ _)
      | (with_reducible exact ih1 _ _ _ _ _)
      | (with_reducible exact impl_FirstDiffering.mono _ _ _)
      | (with_reducible exact laws_has.mono _ _ _)
      | (with_reducible exact spec_DrawPlaces.mono _ _)
      | (with_reducible exact spec_DrawWrites.mono _ _)
      | (with_reducible exact LeO.refl _)
      | (with_reducible exact LeO.none _)
      | (with_reducible refine LeO.ite ?_ ?_)
      | (with_reducible refine LeO.bind ?_ (fun _ => ?_))
      | exact ih0 _ _ _ _ _
      | exact ih1 _ _ _ _ _
      | exact impl_FirstDiffering.mono _ _ _
      | exact laws_has.mono _ _ _
      | exact spec_DrawPlaces.mono _ _
      | exact spec_DrawWrites.mono _ _
      | exact LeO.none _
      | refine LeO.ite ?_ ?_
      | refine LeO.bind ?_ (fun _ => ?_)
set_option maxHeartbeats 8000000 in
set_option maxRecDepth 100000 in
theorem laws_FnTouched.calls (k : Nat) (A0 : Option Addr) (c0 : Nat) (l0 : List Int) (r : Bool) (w : World) (hr0 : Kd.C (Kd.int .u8) w A0 l0.length l0) (hc0 : l0.length ≤ c0) (h : laws_FnTouched.f k l0 = some r) :
    Calls Try.prog 3 #[.slice A0 l0.length c0] w fun e w' => e = .returned (.bool r) ∧ Below w.heap.size w w' := by
  have hu31 := Try.underlying31
  have HR0 := Aside0.mk hr0
  have HC0 := Aside0.mk hc0
  clear hr0 hc0
  have HB := Aside0.mk (Below.refl w.heap.size w)
  have H : ((laws_big.f l0).bind fun t302 => (if t302 = true then (some true) else ((spec_DrawWrites.f k l0).bind fun bt303 => ((impl_TouchedWords.f bt303.2).bind fun t309 => (laws_FnTouched.l0 k l0 bt303.1 bt303.2 t309 0))))) = some r := h
  clear h
  replace H := Option.bind_eq_some_iff.mp H
  obtain ⟨t302, A20, H⟩ := H
  replace H : (if t302 = true then (some true) else ((spec_DrawWrites.f k l0).bind fun bt303 => ((impl_TouchedWords.f bt303.2).bind fun t309 => (laws_FnTouched.l0 k l0 bt303.1 bt303.2 t309 0)))) = some r := H
  have A2 := Aside0.mk A20
  clear A20
  by_cases c3 : t302 = true
  · subst c3
    have H1 : (some true) = some r := by rw [if_pos rfl] at H; exact H
    clear H
    have H := H1
    clear H1
    obtain rfl := Option.some.inj H
    go_enter Try.func3, Try.ntmps3
    go_wp2_with (first | (go_at_call 6; (with_reducible refine (laws_big.calls _ _ l0 true _ ?side1 ?side2 A2.out).mono ?_); (case side1 => exact z7_9); (case side2 => exact z7_22); rintro e w' ⟨rfl, ⟨nd, rfl⟩⟩; (try first | exact ⟨rfl, _, World.drewN_drewN _ _ _⟩ | exact ⟨rfl, _, Eq.trans (World.drewN_drewN _ _ _) (congrArg (World.drewN _) (Nat.add_assoc _ _ _))⟩)))
    repeat (go_quiet (first | (go_at_call 6; (with_reducible refine (laws_big.calls _ _ l0 true _ ?side1 ?side2 A2.out).mono ?_); (case side1 => exact z7_9); (case side2 => exact z7_22); rintro e w' ⟨rfl, ⟨nd, rfl⟩⟩; (try first | exact ⟨rfl, _, World.drewN_drewN _ _ _⟩ | exact ⟨rfl, _, Eq.trans (World.drewN_drewN _ _ _) (congrArg (World.drewN _) (Nat.add_assoc _ _ _))⟩))); try go_wp2_with (first | (go_at_call 6; (with_reducible refine (laws_big.calls _ _ l0 true _ ?side1 ?side2 A2.out).mono ?_); (case side1 => exact z7_9); (case side2 => exact z7_22); rintro e w' ⟨rfl, ⟨nd, rfl⟩⟩; (try first | exact ⟨rfl, _, World.drewN_drewN _ _ _⟩ | exact ⟨rfl, _, Eq.trans (World.drewN_drewN _ _ _) (congrArg (World.drewN _) (Nat.add_assoc _ _ _))⟩))))
    go_ret
    exact ⟨by first | rfl | (simp [errW_none, errW_some] <;> rfl) | (simp [*, errW_none, errW_some] <;> rfl) | (simp [*, errW_none, errW_some, i64_w]; done), by repeat (first | (with_reducible first | exact HB.out | apply below_alloc | apply pw_below_drewN | apply below_drew1) | exact HB.out)⟩
  · replace c3 := Bool.eq_false_iff.mpr c3
    subst c3
    have H1 : ((spec_DrawWrites.f k l0).bind fun bt303 => ((impl_TouchedWords.f bt303.2).bind fun t309 => (laws_FnTouched.l0 k l0 bt303.1 bt303.2 t309 0))) = some r := by rw [if_neg (show ¬ (false = true) by decide)] at H; exact H
    clear H
    have H := H1
    clear H1
    replace H := Option.bind_eq_some_iff.mp H
    obtain ⟨⟨t303, t304⟩, A40, H⟩ := H
    replace H : ((impl_TouchedWords.f t304).bind fun t309 => (laws_FnTouched.l0 k l0 t303 t304 t309 0)) = some r := H
    have A4 := Aside0.mk A40
    clear A40
    replace H := Option.bind_eq_some_iff.mp H
    obtain ⟨t309, A50, H⟩ := H
    replace H : (laws_FnTouched.l0 k l0 t303 t304 t309 0) = some r := H
    have A5 := Aside0.mk A50
    clear A50
    have H' := Aside0.mk H
    clear H
    go_enter Try.func3, Try.ntmps3
    go_wp2_with (first | (go_at_call 6; (with_reducible refine (laws_big.calls _ _ l0 false _ ?side1 ?side2 A2.out).mono ?_); (case side1 => exact z7_9); (case side2 => exact z7_22); rintro e w' ⟨rfl, ⟨nd, rfl⟩⟩; (try first | exact ⟨rfl, _, World.drewN_drewN _ _ _⟩ | exact ⟨rfl, _, Eq.trans (World.drewN_drewN _ _ _) (congrArg (World.drewN _) (Nat.add_assoc _ _ _))⟩)) | (go_at_call 7; (with_reducible refine (spec_DrawWrites.calls k _ _ l0 t303 t304 _ ?side1 ?side2 A4.out).mono ?_); (case side1 => exact z7_9); (case side2 => exact z7_22); rintro e w6 ⟨v305, v307, rfl, ho0, ho1, hb⟩; have n0_ := Aside0.mk (Kd.R_lower ho0 (below_size z7_0)); have n1_ := Aside0.mk (Kd.R_lower ho1 (below_size z7_0)); have n2_ := Aside0.mk (below_step z7_0 hb); clear HB; have HO306 := n0_; have HO308 := n1_; have HB := n2_; clear n0_ n1_ n2_; (try clear hb); (try clear hb2); (try clear hk); (try clear hi); (try clear ho0); (try clear ho1); obtain ⟨Ao7, co7, eo7⟩ := Kd.R_slice HO308.out; subst eo7) | (go_at_call 8; (with_reducible refine (impl_TouchedWords.calls _ _ t304 t309 _ ?side1 ?side2 A5.out).mono ?_); (case side1 => exact z7_20); (case side2 => exact (Kd.R_reads' HO308.out).2.1); rintro e w8 ⟨v310, rfl, ho0, hb⟩; have n0_ := Aside0.mk (Kd.R_elder' z7_16 (Kd.R_base ho0) hb); have n1_ := Aside0.mk (Kd.R_below (by (with_reducible repeat (first | apply Kd.R_alloc | apply Kd.R_drewN | apply Kd.R_drew)); exact HO308.out) hb); have n2_ := Aside0.mk (Kd.R_lower (Kd.R_new' ho0 (Kd.R_lt z7_16)) (below_size z7_0)); have n3_ := Aside0.mk (below_step z7_0 hb); clear HO306; clear HO308; clear HB; have HO306 := n0_; have HO308 := n1_; have HO311 := n2_; have HB := n3_; clear n0_ n1_ n2_ n3_; (try clear hb); (try clear hb2); (try clear hk); (try clear hi); (try clear ho0)))
    repeat (go_quiet (first | (go_at_call 6; (with_reducible refine (laws_big.calls _ _ l0 false _ ?side1 ?side2 A2.out).mono ?_); (case side1 => exact z7_9); (case side2 => exact z7_22); rintro e w' ⟨rfl, ⟨nd, rfl⟩⟩; (try first | exact ⟨rfl, _, World.drewN_drewN _ _ _⟩ | exact ⟨rfl, _, Eq.trans (World.drewN_drewN _ _ _) (congrArg (World.drewN _) (Nat.add_assoc _ _ _))⟩)) | (go_at_call 7; (with_reducible refine (spec_DrawWrites.calls k _ _ l0 t303 t304 _ ?side1 ?side2 A4.out).mono ?_); (case side1 => exact z7_9); (case side2 => exact z7_22); rintro e w6 ⟨v305, v307, rfl, ho0, ho1, hb⟩; have n0_ := Aside0.mk (Kd.R_lower ho0 (below_size z7_0)); have n1_ := Aside0.mk (Kd.R_lower ho1 (below_size z7_0)); have n2_ := Aside0.mk (below_step z7_0 hb); clear HB; have HO306 := n0_; have HO308 := n1_; have HB := n2_; clear n0_ n1_ n2_; (try clear hb); (try clear hb2); (try clear hk); (try clear hi); (try clear ho0); (try clear ho1); obtain ⟨Ao7, co7, eo7⟩ := Kd.R_slice HO308.out; subst eo7) | (go_at_call 8; (with_reducible refine (impl_TouchedWords.calls _ _ t304 t309 _ ?side1 ?side2 A5.out).mono ?_); (case side1 => exact z7_20); (case side2 => exact (Kd.R_reads' HO308.out).2.1); rintro e w8 ⟨v310, rfl, ho0, hb⟩; have n0_ := Aside0.mk (Kd.R_elder' z7_16 (Kd.R_base ho0) hb); have n1_ := Aside0.mk (Kd.R_below (by (with_reducible repeat (first | apply Kd.R_alloc | apply Kd.R_drewN | apply Kd.R_drew)); exact HO308.out) hb); have n2_ := Aside0.mk (Kd.R_lower (Kd.R_new' ho0 (Kd.R_lt z7_16)) (below_size z7_0)); have n3_ := Aside0.mk (below_step z7_0 hb); clear HO306; clear HO308; clear HB; have HO306 := n0_; have HO308 := n1_; have HO311 := n2_; have HB := n3_; clear n0_ n1_ n2_ n3_; (try clear hb); (try clear hb2); (try clear hk); (try clear hi); (try clear ho0))); try go_wp2_with (first | (go_at_call 6; (with_reducible refine (laws_big.calls _ _ l0 false _ ?side1 ?side2 A2.out).mono ?_); (case side1 => exact z7_9); (case side2 => exact z7_22); rintro e w' ⟨rfl, ⟨nd, rfl⟩⟩; (try first | exact ⟨rfl, _, World.drewN_drewN _ _ _⟩ | exact ⟨rfl, _, Eq.trans (World.drewN_drewN _ _ _) (congrArg (World.drewN _) (Nat.add_assoc _ _ _))⟩)) | (go_at_call 7; (with_reducible refine (spec_DrawWrites.calls k _ _ l0 t303 t304 _ ?side1 ?side2 A4.out).mono ?_); (case side1 => exact z7_9); (case side2 => exact z7_22); rintro e w6 ⟨v305, v307, rfl, ho0, ho1, hb⟩; have n0_ := Aside0.mk (Kd.R_lower ho0 (below_size z7_0)); have n1_ := Aside0.mk (Kd.R_lower ho1 (below_size z7_0)); have n2_ := Aside0.mk (below_step z7_0 hb); clear HB; have HO306 := n0_; have HO308 := n1_; have HB := n2_; clear n0_ n1_ n2_; (try clear hb); (try clear hb2); (try clear hk); (try clear hi); (try clear ho0); (try clear ho1); obtain ⟨Ao7, co7, eo7⟩ := Kd.R_slice HO308.out; subst eo7) | (go_at_call 8; (with_reducible refine (impl_TouchedWords.calls _ _ t304 t309 _ ?side1 ?side2 A5.out).mono ?_); (case side1 => exact z7_20); (case side2 => exact (Kd.R_reads' HO308.out).2.1); rintro e w8 ⟨v310, rfl, ho0, hb⟩; have n0_ := Aside0.mk (Kd.R_elder' z7_16 (Kd.R_base ho0) hb); have n1_ := Aside0.mk (Kd.R_below (by (with_reducible repeat (first | apply Kd.R_alloc | apply Kd.R_drewN | apply Kd.R_drew)); exact HO308.out) hb); have n2_ := Aside0.mk (Kd.R_lower (Kd.R_new' ho0 (Kd.R_lt z7_16)) (below_size z7_0)); have n3_ := Aside0.mk (below_step z7_0 hb); clear HO306; clear HO308; clear HB; have HO306 := n0_; have HO308 := n1_; have HO311 := n2_; have HB := n3_; clear n0_ n1_ n2_ n3_; (try clear hb); (try clear hb2); (try clear hk); (try clear hi); (try clear ho0))))
    go_loopg [6] k (fun kq v6 w' => ∃ (x6_1 : Int), v6 = .int .i64 x6_1 ∧ Aside0 (laws_FnTouched.l0 kq l0 t303 t304 t309 x6_1 = some r) ∧ Aside0 (kq ≤ k) ∧ Aside0 (Kd.R (Kd.int .i64) 3 w' w.heap.size (fun k_ => some k_ ≠ (v310 : Value).ownBlock) v305 t303) ∧ Aside0 (Kd.R k31 31 w' w.heap.size (fun _ => True) (.slice Ao7 t304.length co7) t304) ∧ Aside0 (Kd.R (Kd.int .i64) 3 w' w.heap.size (fun k_ => some k_ ≠ (v305 : Value).ownBlock) v310 t309) ∧ Aside0 (Below w.heap.size w w'))
    case atStart => exact ⟨(0), z7_15, H', ⟨Nat.le_refl _⟩, ⟨by (with_reducible repeat (first | apply Kd.R_alloc | apply Kd.R_drewN | apply Kd.R_drew)); exact Kd.R_mono HO306.out (fun _ hk => hk.2)⟩, ⟨by (with_reducible repeat (first | apply Kd.R_alloc | apply Kd.R_drewN | apply Kd.R_drew)); exact HO308.out⟩, ⟨by (with_reducible repeat (first | apply Kd.R_alloc | apply Kd.R_drewN | apply Kd.R_drew)); exact Kd.R_mono HO311.out (fun _ hk => hk.2)⟩, ⟨by repeat (first | (with_reducible first | exact HB.out | apply below_alloc | apply pw_below_drewN | apply below_drew1) | exact HB.out)⟩⟩
    case round =>
      clear H'
      (try clear c3)
      obtain ⟨x6_1, rfl, HA, HK1, HO_3, HO_4, HO_5, HB⟩ := hrel
      cases gk with
      | zero => exact absurd HA.out (by simp [laws_FnTouched.l0])
      | succ k1 =>
        have H := HA.out
        clear HA
        simp only [laws_FnTouched.l0] at H
        by_cases c9 : x6_1 < (t304.length : Int)
        · rw [if_pos c9] at H
          have c9b0 : decide (x6_1 < (t304.length : Int)) = true := decide_eq_true c9
          clear c9
          by_cases c10 : 0 ≤ x6_1
          · rw [if_pos c10] at H
            have c10b0 : decide (0 ≤ x6_1) = true := decide_eq_true c10
            clear c10
            replace H := Option.bind_eq_some_iff.mp H
            obtain ⟨t313, A110, H⟩ := H
            replace H : (if t313 = true then (laws_FnTouched.l0 k1 l0 t303 t304 t309 (wrap64 (x6_1 + 1))) else (some false)) = some r := H
            have A11 := Aside0.mk A110
            clear A110
            by_cases c12 : t313 = true
            · subst c12
              have H1 : (laws_FnTouched.l0 k1 l0 t303 t304 t309 (wrap64 (x6_1 + 1))) = some r := by rw [if_pos rfl] at H; exact H
              clear H
              have H := H1
              clear H1
              have H' := Aside0.mk H
              clear H
              have p312 : 0 ≤ (x6_1 : Int) := of_decide_eq_true z7_4
              have q312 : x6_1 < (t304.length : Int) := of_decide_eq_true z7_4
              obtain ⟨ad312, e312, hx312_0, hx312_1⟩ := at_T31 (Kd.R_reads' HO_4.out).2.2 x6_1 p312 q312
              cases e312
              replace p312 := eq_true p312
              replace q312 := eq_true q312
              obtain ⟨Ao13, co13, eo13⟩ := Kd.R_slice HO_5.out
              subst eo13
              go_wp2_with (first | (go_at_call 9; (with_reducible refine (laws_has.calls k1 _ _ t309 ((rd_T31 t304 x6_1).f0) true _ ?side1 ?side2 A11.out).mono ?_); (case side1 => exact z7_12); (case side2 => exact (Kd.R_reads' HO_5.out).2.1); rintro e w' ⟨rfl, ⟨nd, rfl⟩⟩; (try first | exact ⟨rfl, _, World.drewN_drewN _ _ _⟩ | exact ⟨rfl, _, Eq.trans (World.drewN_drewN _ _ _) (congrArg (World.drewN _) (Nat.add_assoc _ _ _))⟩)))
              repeat (go_quiet (first | (go_at_call 9; (with_reducible refine (laws_has.calls k1 _ _ t309 ((rd_T31 t304 x6_1).f0) true _ ?side1 ?side2 A11.out).mono ?_); (case side1 => exact z7_12); (case side2 => exact (Kd.R_reads' HO_5.out).2.1); rintro e w' ⟨rfl, ⟨nd, rfl⟩⟩; (try first | exact ⟨rfl, _, World.drewN_drewN _ _ _⟩ | exact ⟨rfl, _, Eq.trans (World.drewN_drewN _ _ _) (congrArg (World.drewN _) (Nat.add_assoc _ _ _))⟩))); try go_wp2_with (first | (go_at_call 9; (with_reducible refine (laws_has.calls k1 _ _ t309 ((rd_T31 t304 x6_1).f0) true _ ?side1 ?side2 A11.out).mono ?_); (case side1 => exact z7_12); (case side2 => exact (Kd.R_reads' HO_5.out).2.1); rintro e w' ⟨rfl, ⟨nd, rfl⟩⟩; (try first | exact ⟨rfl, _, World.drewN_drewN _ _ _⟩ | exact ⟨rfl, _, Eq.trans (World.drewN_drewN _ _ _) (congrArg (World.drewN _) (Nat.add_assoc _ _ _))⟩))))
              go_roundg k1
              case measure => have := HK1.out; omega
              case rel => exact ⟨(wrap64 (x6_1 + 1)), z7_15, H', ⟨by have := HK1.out; omega⟩, ⟨by (with_reducible repeat (first | apply Kd.R_alloc | apply Kd.R_drewN | apply Kd.R_drew)); exact HO_3.out⟩, ⟨by (with_reducible repeat (first | apply Kd.R_alloc | apply Kd.R_drewN | apply Kd.R_drew)); exact HO_4.out⟩, ⟨by (with_reducible repeat (first | apply Kd.R_alloc | apply Kd.R_drewN | apply Kd.R_drew)); exact HO_5.out⟩, ⟨by repeat (first | (with_reducible first | exact HB.out | apply below_alloc | apply pw_below_drewN | apply below_drew1) | exact HB.out)⟩⟩
            · replace c12 := Bool.eq_false_iff.mpr c12
              subst c12
              have H1 : (some false) = some r := by rw [if_neg (show ¬ (false = true) by decide)] at H; exact H
              clear H
              have H := H1
              clear H1
              obtain rfl := Option.some.inj H
              have p312 : 0 ≤ (x6_1 : Int) := of_decide_eq_true z7_4
              have q312 : x6_1 < (t304.length : Int) := of_decide_eq_true z7_4
              obtain ⟨ad312, e312, hx312_0, hx312_1⟩ := at_T31 (Kd.R_reads' HO_4.out).2.2 x6_1 p312 q312
              cases e312
              replace p312 := eq_true p312
              replace q312 := eq_true q312
              obtain ⟨Ao14, co14, eo14⟩ := Kd.R_slice HO_5.out
              subst eo14
              go_wp2_with (first | (go_at_call 9; (with_reducible refine (laws_has.calls k1 _ _ t309 ((rd_T31 t304 x6_1).f0) false _ ?side1 ?side2 A11.out).mono ?_); (case side1 => exact z7_12); (case side2 => exact (Kd.R_reads' HO_5.out).2.1); rintro e w' ⟨rfl, ⟨nd, rfl⟩⟩; (try first | exact ⟨rfl, _, World.drewN_drewN _ _ _⟩ | exact ⟨rfl, _, Eq.trans (World.drewN_drewN _ _ _) (congrArg (World.drewN _) (Nat.add_assoc _ _ _))⟩)))
              repeat (go_quiet (first | (go_at_call 9; (with_reducible refine (laws_has.calls k1 _ _ t309 ((rd_T31 t304 x6_1).f0) false _ ?side1 ?side2 A11.out).mono ?_); (case side1 => exact z7_12); (case side2 => exact (Kd.R_reads' HO_5.out).2.1); rintro e w' ⟨rfl, ⟨nd, rfl⟩⟩; (try first | exact ⟨rfl, _, World.drewN_drewN _ _ _⟩ | exact ⟨rfl, _, Eq.trans (World.drewN_drewN _ _ _) (congrArg (World.drewN _) (Nat.add_assoc _ _ _))⟩))); try go_wp2_with (first | (go_at_call 9; (with_reducible refine (laws_has.calls k1 _ _ t309 ((rd_T31 t304 x6_1).f0) false _ ?side1 ?side2 A11.out).mono ?_); (case side1 => exact z7_12); (case side2 => exact (Kd.R_reads' HO_5.out).2.1); rintro e w' ⟨rfl, ⟨nd, rfl⟩⟩; (try first | exact ⟨rfl, _, World.drewN_drewN _ _ _⟩ | exact ⟨rfl, _, Eq.trans (World.drewN_drewN _ _ _) (congrArg (World.drewN _) (Nat.add_assoc _ _ _))⟩))))
              go_ret
              exact ⟨by first | rfl | (simp [errW_none, errW_some] <;> rfl) | (simp [*, errW_none, errW_some] <;> rfl) | (simp [*, errW_none, errW_some, i64_w]; done), by repeat (first | (with_reducible first | exact HB.out | apply below_alloc | apply pw_below_drewN | apply below_drew1) | exact HB.out)⟩
          · rw [if_neg c10] at H
            exact absurd H (by simp)
        · rw [if_neg c9] at H
          have c9b0 : decide (x6_1 < (t304.length : Int)) = false := decide_eq_false c9
          clear c9
          have H' := Aside0.mk H
          clear H
          go_wp2
          repeat (go_quiet (fail); try go_wp2)
          go_loopg [7] k1 (fun kq v7 w' => ∃ (x7_2 : Int), v7 = .int .i64 x7_2 ∧ Aside0 (laws_FnTouched.l1 kq l0 t303 t304 t309 x7_2 = some r) ∧ Aside0 (kq ≤ k1) ∧ Aside0 (Kd.R (Kd.int .i64) 3 w' w.heap.size (fun k_ => some k_ ≠ (v310 : Value).ownBlock) v305 t303) ∧ Aside0 (Kd.R k31 31 w' w.heap.size (fun _ => True) (.slice Ao7 t304.length co7) t304) ∧ Aside0 (Kd.R (Kd.int .i64) 3 w' w.heap.size (fun k_ => some k_ ≠ (v305 : Value).ownBlock) v310 t309) ∧ Aside0 (Below w.heap.size w w'))
          case atStart => exact ⟨(1), z7_15, H', ⟨Nat.le_refl _⟩, ⟨by (with_reducible repeat (first | apply Kd.R_alloc | apply Kd.R_drewN | apply Kd.R_drew)); exact HO_3.out⟩, ⟨by (with_reducible repeat (first | apply Kd.R_alloc | apply Kd.R_drewN | apply Kd.R_drew)); exact HO_4.out⟩, ⟨by (with_reducible repeat (first | apply Kd.R_alloc | apply Kd.R_drewN | apply Kd.R_drew)); exact HO_5.out⟩, ⟨by repeat (first | (with_reducible first | exact HB.out | apply below_alloc | apply pw_below_drewN | apply below_drew1) | exact HB.out)⟩⟩
          case round =>
            clear H'
            (try clear c3); (try clear c9); (try clear c9b0)
            obtain ⟨x7_2, rfl, HA, HK2, HO_3, HO_4, HO_5, HB⟩ := hrel
            cases gk with
            | zero => exact absurd HA.out (by simp [laws_FnTouched.l1])
            | succ k2 =>
              have H := HA.out
              clear HA
              simp only [laws_FnTouched.l1] at H
              by_cases c15 : x7_2 < (t309.length : Int)
              · rw [if_pos c15] at H
                have c15b0 : decide (x7_2 < (t309.length : Int)) = true := decide_eq_true c15
                clear c15
                by_cases c16 : 0 ≤ x7_2
                · rw [if_pos c16] at H
                  have c16b0 : decide (0 ≤ x7_2) = true := decide_eq_true c16
                  clear c16
                  obtain ⟨ji17, hji17⟩ : ∃ j_ : Int, (wrap64 (x7_2 - 1)) = j_ := ⟨_, rfl⟩
                  replace H : (if 0 ≤ (ji17) then (if (ji17) < (t309.length : Int) then (if (rd t309 x7_2) ≤ (rd t309 (ji17)) then (some false) else (laws_FnTouched.l1 k2 l0 t303 t304 t309 (wrap64 (x7_2 + 1)))) else (none)) else (none)) = some r := by first | (rw [hji17] at H; exact H) | (simp only [hji17] at H ⊢; exact H)
                  have hji17w : (IntKind.i64.wrap (x7_2 - 1)) = ji17 := (i64_w _).trans hji17
                  by_cases c18 : 0 ≤ (ji17)
                  · rw [if_pos c18] at H
                    have c18b0 : decide (0 ≤ (ji17)) = true := decide_eq_true c18
                    clear c18
                    by_cases c19 : (ji17) < (t309.length : Int)
                    · rw [if_pos c19] at H
                      have c19b0 : decide ((ji17) < (t309.length : Int)) = true := decide_eq_true c19
                      clear c19
                      by_cases c20 : (rd t309 x7_2) ≤ (rd t309 (ji17))
                      · rw [if_pos c20] at H
                        have c20b0 : decide ((rd t309 x7_2) ≤ (rd t309 (ji17))) = true := decide_eq_true c20
                        clear c20
                        obtain rfl := Option.some.inj H
                        obtain ⟨Ao21, co21, eo21⟩ := Kd.R_slice HO_5.out
                        subst eo21
                        have p314 : 0 ≤ (x7_2 : Int) := of_decide_eq_true z7_4
                        have q314 : x7_2 < (t309.length : Int) := of_decide_eq_true z7_4
                        obtain ⟨ad314, e314, hx314_0⟩ := Kd.at_int (Kd.R_reads' HO_5.out).2.2 x7_2 p314 q314
                        cases e314
                        replace p314 := eq_true p314
                        replace q314 := eq_true q314
                        have p315 : 0 ≤ ((ji17) : Int) := of_decide_eq_true z7_4
                        have q315 : (ji17) < (t309.length : Int) := of_decide_eq_true z7_4
                        obtain ⟨ad315, e315, hx315_0⟩ := Kd.at_int (Kd.R_reads' HO_5.out).2.2 (ji17) p315 q315
                        obtain rfl : ad314 = ad315 := (by injection e315)
                        replace p315 := eq_true p315
                        replace q315 := eq_true q315
                        go_wp2
                        repeat (go_quiet (fail); try go_wp2)
                        go_ret
                        exact ⟨by first | rfl | (simp [errW_none, errW_some] <;> rfl) | (simp only [← hji17]; first | rfl | (simp [errW_none, errW_some] <;> rfl)) | (simp [*, errW_none, errW_some] <;> rfl) | (simp [*, errW_none, errW_some, i64_w]; done), by repeat (first | (with_reducible first | exact HB.out | apply below_alloc | apply pw_below_drewN | apply below_drew1) | exact HB.out)⟩
                      · rw [if_neg c20] at H
                        have c20b0 : decide ((rd t309 x7_2) ≤ (rd t309 (ji17))) = false := decide_eq_false c20
                        clear c20
                        have H' := Aside0.mk H
                        clear H
                        obtain ⟨Ao22, co22, eo22⟩ := Kd.R_slice HO_5.out
                        subst eo22
                        have p314 : 0 ≤ (x7_2 : Int) := of_decide_eq_true z7_4
                        have q314 : x7_2 < (t309.length : Int) := of_decide_eq_true z7_4
                        obtain ⟨ad314, e314, hx314_0⟩ := Kd.at_int (Kd.R_reads' HO_5.out).2.2 x7_2 p314 q314
                        cases e314
                        replace p314 := eq_true p314
                        replace q314 := eq_true q314
                        have p315 : 0 ≤ ((ji17) : Int) := of_decide_eq_true z7_4
                        have q315 : (ji17) < (t309.length : Int) := of_decide_eq_true z7_4
                        obtain ⟨ad315, e315, hx315_0⟩ := Kd.at_int (Kd.R_reads' HO_5.out).2.2 (ji17) p315 q315
                        obtain rfl : ad314 = ad315 := (by injection e315)
                        replace p315 := eq_true p315
                        replace q315 := eq_true q315
                        go_wp2
                        repeat (go_quiet (fail); try go_wp2)
                        go_roundg k2
                        case measure => have := HK1.out; have := HK2.out; omega
                        case rel => exact ⟨(wrap64 (x7_2 + 1)), z7_15, H', ⟨by have := HK1.out; have := HK2.out; omega⟩, ⟨by (with_reducible repeat (first | apply Kd.R_alloc | apply Kd.R_drewN | apply Kd.R_drew)); exact HO_3.out⟩, ⟨by (with_reducible repeat (first | apply Kd.R_alloc | apply Kd.R_drewN | apply Kd.R_drew)); exact HO_4.out⟩, ⟨by (with_reducible repeat (first | apply Kd.R_alloc | apply Kd.R_drewN | apply Kd.R_drew)); exact HO_5.out⟩, ⟨by repeat (first | (with_reducible first | exact HB.out | apply below_alloc | apply pw_below_drewN | apply below_drew1) | exact HB.out)⟩⟩
                    · rw [if_neg c19] at H
                      exact absurd H (by simp)
                  · rw [if_neg c18] at H
                    exact absurd H (by simp)
                · rw [if_neg c16] at H
                  exact absurd H (by simp)
              · rw [if_neg c15] at H
                have c15b0 : decide (x7_2 < (t309.length : Int)) = false := decide_eq_false c15
                clear c15
                replace H := Option.bind_eq_some_iff.mp H
                obtain ⟨t316, A230, H⟩ := H
                replace H : (if 1 < (t316.length : Int) then (if (t303.length : Int) = 0 then (none) else (if 0 ≤ (Int.tmod (rd t316 1) (t303.length : Int)) then (if (Int.tmod (rd t316 1) (t303.length : Int)) < (t303.length : Int) then ((impl_WriteWord.f t303 (Int.tmod (rd t316 1) (t303.length : Int)) (wrap64 ((rd t303 (Int.tmod (rd t316 1) (t303.length : Int))) + 1))).bind fun t321 => ((impl_FirstDiffering.f k2 t303 t321).bind fun t324 => (if t324 = (Int.tmod (rd t316 1) (t303.length : Int)) then ((impl_FirstDiffering.f k2 t303 t303).bind fun t325 => (if t325 = (-1) then (some (decide ((t309.length : Int) ≤ (t304.length : Int)))) else (some false))) else (some false)))) else (none)) else (none))) else (none)) = some r := H
                have A23 := Aside0.mk A230
                clear A230
                by_cases c24 : 1 < (t316.length : Int)
                · rw [if_pos c24] at H
                  have c24b0 : decide (1 < (t316.length : Int)) = true := decide_eq_true c24
                  have c24b1 : decide (1 < t316.length) = true := decide_eq_true (by omega)
                  clear c24
                  by_cases c25 : (t303.length : Int) = 0
                  · rw [if_pos c25] at H
                    exact absurd H (by simp)
                  · rw [if_neg c25] at H
                    have c25b0 : ((t303.length : Int) == 0) = false := beq_eq_false_iff_ne.mpr c25
                    have c25b1 : ((t303.length : Int) != 0) = true := bne_iff_ne.mpr c25
                    have c25b2 : ¬ (t303 = []) := fun h_ => c25 (by rw [h_]; rfl)
                    obtain ⟨ji26, hji26⟩ : ∃ j_ : Int, (Int.tmod (rd t316 1) (t303.length : Int)) = j_ := ⟨_, rfl⟩
                    replace H : (if 0 ≤ (ji26) then (if (ji26) < (t303.length : Int) then ((impl_WriteWord.f t303 (ji26) (wrap64 ((rd t303 (ji26)) + 1))).bind fun t321 => ((impl_FirstDiffering.f k2 t303 t321).bind fun t324 => (if t324 = (ji26) then ((impl_FirstDiffering.f k2 t303 t303).bind fun t325 => (if t325 = (-1) then (some (decide ((t309.length : Int) ≤ (t304.length : Int)))) else (some false))) else (some false)))) else (none)) else (none)) = some r := by first | (rw [hji26] at H; exact H) | (simp only [hji26] at H ⊢; exact H)
                    (try rw [hji26] at A23)
                    by_cases c27 : 0 ≤ (ji26)
                    · rw [if_pos c27] at H
                      have c27b0 : decide (0 ≤ (ji26)) = true := decide_eq_true c27
                      clear c27
                      by_cases c28 : (ji26) < (t303.length : Int)
                      · rw [if_pos c28] at H
                        have c28b0 : decide ((ji26) < (t303.length : Int)) = true := decide_eq_true c28
                        clear c28
                        replace H := Option.bind_eq_some_iff.mp H
                        obtain ⟨t321, A290, H⟩ := H
                        replace H : ((impl_FirstDiffering.f k2 t303 t321).bind fun t324 => (if t324 = (ji26) then ((impl_FirstDiffering.f k2 t303 t303).bind fun t325 => (if t325 = (-1) then (some (decide ((t309.length : Int) ≤ (t304.length : Int)))) else (some false))) else (some false))) = some r := H
                        have A29 := Aside0.mk A290
                        clear A290
                        replace H := Option.bind_eq_some_iff.mp H
                        obtain ⟨t324, A300, H⟩ := H
                        replace H : (if t324 = (ji26) then ((impl_FirstDiffering.f k2 t303 t303).bind fun t325 => (if t325 = (-1) then (some (decide ((t309.length : Int) ≤ (t304.length : Int)))) else (some false))) else (some false)) = some r := H
                        have A30 := Aside0.mk A300
                        clear A300
                        by_cases c31 : t324 = (ji26)
                        · rw [if_pos c31] at H
                          have c31b0 : (t324 == (ji26)) = true := beq_iff_eq.mpr c31
                          have c31b1 : (t324 != (ji26)) = false := bne_eq_false_iff_eq.mpr c31
                          clear c31
                          replace H := Option.bind_eq_some_iff.mp H
                          obtain ⟨t325, A320, H⟩ := H
                          replace H : (if t325 = (-1) then (some (decide ((t309.length : Int) ≤ (t304.length : Int)))) else (some false)) = some r := H
                          have A32 := Aside0.mk A320
                          clear A320
                          by_cases c33 : t325 = (-1)
                          · rw [if_pos c33] at H
                            have c33b0 : (t325 == (-1)) = true := beq_iff_eq.mpr c33
                            have c33b1 : (t325 != (-1)) = false := bne_eq_false_iff_eq.mpr c33
                            clear c33
                            obtain rfl := Option.some.inj H
                            obtain ⟨Ao34, co34, eo34⟩ := Kd.R_slice HO_5.out
                            subst eo34
                            go_wp2_with (first | (go_at_call 10; (with_reducible refine (spec_DrawPlaces.calls k2 _ _ l0 t316 _ ?side1 ?side2 A23.out).mono ?_); (case side1 => exact z7_6); (case side2 => exact z7_22); rintro e w35 ⟨v317, rfl, ho0, hb⟩; have n0_ := Aside0.mk (Kd.R_elder' z7_3 (Kd.R_base ho0) hb); have n1_ := Aside0.mk (Kd.R_below z7_5 hb); have n2_ := Aside0.mk (Kd.R_elder' z7_2 (Kd.R_base ho0) hb); have n3_ := Aside0.mk (Kd.R_lower (Kd.R_new' (Kd.R_new' ho0 (Kd.R_lt z7_3)) (Kd.R_lt z7_2)) (below_size z7_0)); have n4_ := Aside0.mk (below_step z7_0 hb); clear HO_3; clear HO_4; clear HO_5; clear HB; have HO_3 := n0_; have HO_4 := n1_; have HO_5 := n2_; have HO318 := n3_; have HB := n4_; clear n0_ n1_ n2_ n3_ n4_; (try clear hb); (try clear hb2); (try clear hk); (try clear hi); (try clear ho0); obtain ⟨Ao36, co36, eo36⟩ := Kd.R_slice HO318.out; subst eo36; have p319 : 0 ≤ (1 : Int) := (by omega); have q319 : 1 < (t316.length : Int) := of_decide_eq_true z7_4; obtain ⟨ad319, e319, hx319_0⟩ := Kd.at_int (Kd.R_reads' HO318.out).2.2 1 p319 q319; cases e319; (try simp only [show (1 : Int).toNat = 1 from rfl, Nat.reduceMul, Nat.reduceEqDiff, Go.Addr.add, ↓reduceIte] at hx319_0); have qi319 : (1 < t316.length) = True := eq_true (by omega); (try rw [show ((1 : Int)).toNat = 1 from rfl] at hx319_0); replace p319 := eq_true p319; replace q319 := eq_true q319; obtain ⟨Ao37, co37, eo37⟩ := Kd.R_slice HO_3.out; subst eo37; have p320 : 0 ≤ ((ji26) : Int) := of_decide_eq_true z7_4; have q320 : (ji26) < (t303.length : Int) := of_decide_eq_true z7_4; obtain ⟨ad320, e320, hx320_0⟩ := Kd.at_int (Kd.R_reads' HO_3.out).2.2 (ji26) p320 q320; cases e320; replace p320 := eq_true p320; replace q320 := eq_true q320) | (go_at_call 11; (with_reducible refine (impl_WriteWord.calls _ _ t303 ji26 (wrap64 ((rd t303 (ji26)) + 1)) t321 _ ?side1 ?side2 A29.out).mono ?_); (case side1 => exact z7_1); (case side2 => exact z7_11); rintro e w38 ⟨v322, rfl, ho0, hb⟩; have n0_ := Aside0.mk (Kd.R_elder' z7_3 (Kd.R_base ho0) hb); have n1_ := Aside0.mk (Kd.R_below z7_5 hb); have n2_ := Aside0.mk (Kd.R_elder' z7_2 (Kd.R_base ho0) hb); have n3_ := Aside0.mk (Kd.R_elder' z7_7 (Kd.R_base ho0) hb); have n4_ := Aside0.mk (Kd.R_lower (Kd.R_new' (Kd.R_new' (Kd.R_new' ho0 (Kd.R_lt z7_3)) (Kd.R_lt z7_2)) (Kd.R_lt z7_7)) (below_size z7_0)); have n5_ := Aside0.mk (below_step z7_0 hb); clear HO_3; clear HO_4; clear HO_5; clear HO318; clear HB; have HO_3 := n0_; have HO_4 := n1_; have HO_5 := n2_; have HO318 := n3_; have HO323 := n4_; have HB := n5_; clear n0_ n1_ n2_ n3_ n4_ n5_; (try clear hb); (try clear hb2); (try clear hk); (try clear hi); (try clear ho0); obtain ⟨Ao39, co39, eo39⟩ := Kd.R_slice HO323.out; subst eo39) | (go_at_call 12; (with_reducible refine (impl_FirstDiffering.calls k2 _ _ t303 _ _ t321 t324 _ ?side1 ?side2 ?side3 ?side4 A30.out).mono ?_); (case side1 => exact z7_1); (case side2 => exact z7_11); (case side3 => exact z7_8); (case side4 => exact z7_21); rintro e w' ⟨rfl, ⟨nd, rfl⟩⟩; (try first | exact ⟨rfl, _, World.drewN_drewN _ _ _⟩ | exact ⟨rfl, _, Eq.trans (World.drewN_drewN _ _ _) (congrArg (World.drewN _) (Nat.add_assoc _ _ _))⟩)) | (go_at_call 12; (with_reducible refine (impl_FirstDiffering.calls k2 _ _ t303 _ _ t303 t325 _ ?side1 ?side2 ?side3 ?side4 A32.out).mono ?_); (case side1 => exact z7_1); (case side2 => exact z7_11); (case side3 => exact z7_1); (case side4 => exact z7_11); rintro e w' ⟨rfl, ⟨nd, rfl⟩⟩; (try first | exact ⟨rfl, _, World.drewN_drewN _ _ _⟩ | exact ⟨rfl, _, Eq.trans (World.drewN_drewN _ _ _) (congrArg (World.drewN _) (Nat.add_assoc _ _ _))⟩)))
                            repeat (go_quiet (first | (go_at_call 10; (with_reducible refine (spec_DrawPlaces.calls k2 _ _ l0 t316 _ ?side1 ?side2 A23.out).mono ?_); (case side1 => exact z7_6); (case side2 => exact z7_22); rintro e w35 ⟨v317, rfl, ho0, hb⟩; have n0_ := Aside0.mk (Kd.R_elder' z7_3 (Kd.R_base ho0) hb); have n1_ := Aside0.mk (Kd.R_below z7_5 hb); have n2_ := Aside0.mk (Kd.R_elder' z7_2 (Kd.R_base ho0) hb); have n3_ := Aside0.mk (Kd.R_lower (Kd.R_new' (Kd.R_new' ho0 (Kd.R_lt z7_3)) (Kd.R_lt z7_2)) (below_size z7_0)); have n4_ := Aside0.mk (below_step z7_0 hb); clear HO_3; clear HO_4; clear HO_5; clear HB; have HO_3 := n0_; have HO_4 := n1_; have HO_5 := n2_; have HO318 := n3_; have HB := n4_; clear n0_ n1_ n2_ n3_ n4_; (try clear hb); (try clear hb2); (try clear hk); (try clear hi); (try clear ho0); obtain ⟨Ao36, co36, eo36⟩ := Kd.R_slice HO318.out; subst eo36; have p319 : 0 ≤ (1 : Int) := (by omega); have q319 : 1 < (t316.length : Int) := of_decide_eq_true z7_4; obtain ⟨ad319, e319, hx319_0⟩ := Kd.at_int (Kd.R_reads' HO318.out).2.2 1 p319 q319; cases e319; (try simp only [show (1 : Int).toNat = 1 from rfl, Nat.reduceMul, Nat.reduceEqDiff, Go.Addr.add, ↓reduceIte] at hx319_0); have qi319 : (1 < t316.length) = True := eq_true (by omega); (try rw [show ((1 : Int)).toNat = 1 from rfl] at hx319_0); replace p319 := eq_true p319; replace q319 := eq_true q319; obtain ⟨Ao37, co37, eo37⟩ := Kd.R_slice HO_3.out; subst eo37; have p320 : 0 ≤ ((ji26) : Int) := of_decide_eq_true z7_4; have q320 : (ji26) < (t303.length : Int) := of_decide_eq_true z7_4; obtain ⟨ad320, e320, hx320_0⟩ := Kd.at_int (Kd.R_reads' HO_3.out).2.2 (ji26) p320 q320; cases e320; replace p320 := eq_true p320; replace q320 := eq_true q320) | (go_at_call 11; (with_reducible refine (impl_WriteWord.calls _ _ t303 ji26 (wrap64 ((rd t303 (ji26)) + 1)) t321 _ ?side1 ?side2 A29.out).mono ?_); (case side1 => exact z7_1); (case side2 => exact z7_11); rintro e w38 ⟨v322, rfl, ho0, hb⟩; have n0_ := Aside0.mk (Kd.R_elder' z7_3 (Kd.R_base ho0) hb); have n1_ := Aside0.mk (Kd.R_below z7_5 hb); have n2_ := Aside0.mk (Kd.R_elder' z7_2 (Kd.R_base ho0) hb); have n3_ := Aside0.mk (Kd.R_elder' z7_7 (Kd.R_base ho0) hb); have n4_ := Aside0.mk (Kd.R_lower (Kd.R_new' (Kd.R_new' (Kd.R_new' ho0 (Kd.R_lt z7_3)) (Kd.R_lt z7_2)) (Kd.R_lt z7_7)) (below_size z7_0)); have n5_ := Aside0.mk (below_step z7_0 hb); clear HO_3; clear HO_4; clear HO_5; clear HO318; clear HB; have HO_3 := n0_; have HO_4 := n1_; have HO_5 := n2_; have HO318 := n3_; have HO323 := n4_; have HB := n5_; clear n0_ n1_ n2_ n3_ n4_ n5_; (try clear hb); (try clear hb2); (try clear hk); (try clear hi); (try clear ho0); obtain ⟨Ao39, co39, eo39⟩ := Kd.R_slice HO323.out; subst eo39) | (go_at_call 12; (with_reducible refine (impl_FirstDiffering.calls k2 _ _ t303 _ _ t321 t324 _ ?side1 ?side2 ?side3 ?side4 A30.out).mono ?_); (case side1 => exact z7_1); (case side2 => exact z7_11); (case side3 => exact z7_8); (case side4 => exact z7_21); rintro e w' ⟨rfl, ⟨nd, rfl⟩⟩; (try first | exact ⟨rfl, _, World.drewN_drewN _ _ _⟩ | exact ⟨rfl, _, Eq.trans (World.drewN_drewN _ _ _) (congrArg (World.drewN _) (Nat.add_assoc _ _ _))⟩)) | (go_at_call 12; (with_reducible refine (impl_FirstDiffering.calls k2 _ _ t303 _ _ t303 t325 _ ?side1 ?side2 ?side3 ?side4 A32.out).mono ?_); (case side1 => exact z7_1); (case side2 => exact z7_11); (case side3 => exact z7_1); (case side4 => exact z7_11); rintro e w' ⟨rfl, ⟨nd, rfl⟩⟩; (try first | exact ⟨rfl, _, World.drewN_drewN _ _ _⟩ | exact ⟨rfl, _, Eq.trans (World.drewN_drewN _ _ _) (congrArg (World.drewN _) (Nat.add_assoc _ _ _))⟩))); try go_wp2_with (first | (go_at_call 10; (with_reducible refine (spec_DrawPlaces.calls k2 _ _ l0 t316 _ ?side1 ?side2 A23.out).mono ?_); (case side1 => exact z7_6); (case side2 => exact z7_22); rintro e w35 ⟨v317, rfl, ho0, hb⟩; have n0_ := Aside0.mk (Kd.R_elder' z7_3 (Kd.R_base ho0) hb); have n1_ := Aside0.mk (Kd.R_below z7_5 hb); have n2_ := Aside0.mk (Kd.R_elder' z7_2 (Kd.R_base ho0) hb); have n3_ := Aside0.mk (Kd.R_lower (Kd.R_new' (Kd.R_new' ho0 (Kd.R_lt z7_3)) (Kd.R_lt z7_2)) (below_size z7_0)); have n4_ := Aside0.mk (below_step z7_0 hb); clear HO_3; clear HO_4; clear HO_5; clear HB; have HO_3 := n0_; have HO_4 := n1_; have HO_5 := n2_; have HO318 := n3_; have HB := n4_; clear n0_ n1_ n2_ n3_ n4_; (try clear hb); (try clear hb2); (try clear hk); (try clear hi); (try clear ho0); obtain ⟨Ao36, co36, eo36⟩ := Kd.R_slice HO318.out; subst eo36; have p319 : 0 ≤ (1 : Int) := (by omega); have q319 : 1 < (t316.length : Int) := of_decide_eq_true z7_4; obtain ⟨ad319, e319, hx319_0⟩ := Kd.at_int (Kd.R_reads' HO318.out).2.2 1 p319 q319; cases e319; (try simp only [show (1 : Int).toNat = 1 from rfl, Nat.reduceMul, Nat.reduceEqDiff, Go.Addr.add, ↓reduceIte] at hx319_0); have qi319 : (1 < t316.length) = True := eq_true (by omega); (try rw [show ((1 : Int)).toNat = 1 from rfl] at hx319_0); replace p319 := eq_true p319; replace q319 := eq_true q319; obtain ⟨Ao37, co37, eo37⟩ := Kd.R_slice HO_3.out; subst eo37; have p320 : 0 ≤ ((ji26) : Int) := of_decide_eq_true z7_4; have q320 : (ji26) < (t303.length : Int) := of_decide_eq_true z7_4; obtain ⟨ad320, e320, hx320_0⟩ := Kd.at_int (Kd.R_reads' HO_3.out).2.2 (ji26) p320 q320; cases e320; replace p320 := eq_true p320; replace q320 := eq_true q320) | (go_at_call 11; (with_reducible refine (impl_WriteWord.calls _ _ t303 ji26 (wrap64 ((rd t303 (ji26)) + 1)) t321 _ ?side1 ?side2 A29.out).mono ?_); (case side1 => exact z7_1); (case side2 => exact z7_11); rintro e w38 ⟨v322, rfl, ho0, hb⟩; have n0_ := Aside0.mk (Kd.R_elder' z7_3 (Kd.R_base ho0) hb); have n1_ := Aside0.mk (Kd.R_below z7_5 hb); have n2_ := Aside0.mk (Kd.R_elder' z7_2 (Kd.R_base ho0) hb); have n3_ := Aside0.mk (Kd.R_elder' z7_7 (Kd.R_base ho0) hb); have n4_ := Aside0.mk (Kd.R_lower (Kd.R_new' (Kd.R_new' (Kd.R_new' ho0 (Kd.R_lt z7_3)) (Kd.R_lt z7_2)) (Kd.R_lt z7_7)) (below_size z7_0)); have n5_ := Aside0.mk (below_step z7_0 hb); clear HO_3; clear HO_4; clear HO_5; clear HO318; clear HB; have HO_3 := n0_; have HO_4 := n1_; have HO_5 := n2_; have HO318 := n3_; have HO323 := n4_; have HB := n5_; clear n0_ n1_ n2_ n3_ n4_ n5_; (try clear hb); (try clear hb2); (try clear hk); (try clear hi); (try clear ho0); obtain ⟨Ao39, co39, eo39⟩ := Kd.R_slice HO323.out; subst eo39) | (go_at_call 12; (with_reducible refine (impl_FirstDiffering.calls k2 _ _ t303 _ _ t321 t324 _ ?side1 ?side2 ?side3 ?side4 A30.out).mono ?_); (case side1 => exact z7_1); (case side2 => exact z7_11); (case side3 => exact z7_8); (case side4 => exact z7_21); rintro e w' ⟨rfl, ⟨nd, rfl⟩⟩; (try first | exact ⟨rfl, _, World.drewN_drewN _ _ _⟩ | exact ⟨rfl, _, Eq.trans (World.drewN_drewN _ _ _) (congrArg (World.drewN _) (Nat.add_assoc _ _ _))⟩)) | (go_at_call 12; (with_reducible refine (impl_FirstDiffering.calls k2 _ _ t303 _ _ t303 t325 _ ?side1 ?side2 ?side3 ?side4 A32.out).mono ?_); (case side1 => exact z7_1); (case side2 => exact z7_11); (case side3 => exact z7_1); (case side4 => exact z7_11); rintro e w' ⟨rfl, ⟨nd, rfl⟩⟩; (try first | exact ⟨rfl, _, World.drewN_drewN _ _ _⟩ | exact ⟨rfl, _, Eq.trans (World.drewN_drewN _ _ _) (congrArg (World.drewN _) (Nat.add_assoc _ _ _))⟩))))
                            go_ret
                            exact ⟨by first | rfl | (simp [errW_none, errW_some] <;> rfl) | (simp only [← hji26]; first | rfl | (simp [errW_none, errW_some] <;> rfl)) | (simp [*, errW_none, errW_some] <;> rfl) | (simp [*, errW_none, errW_some, i64_w]; done), by repeat (first | (with_reducible first | exact HB.out | apply below_alloc | apply pw_below_drewN | apply below_drew1) | exact HB.out)⟩
                          · rw [if_neg c33] at H
                            have c33b0 : (t325 == (-1)) = false := beq_eq_false_iff_ne.mpr c33
                            have c33b1 : (t325 != (-1)) = true := bne_iff_ne.mpr c33
                            obtain rfl := Option.some.inj H
                            obtain ⟨Ao40, co40, eo40⟩ := Kd.R_slice HO_5.out
                            subst eo40
                            go_wp2_with (first | (go_at_call 10; (with_reducible refine (spec_DrawPlaces.calls k2 _ _ l0 t316 _ ?side1 ?side2 A23.out).mono ?_); (case side1 => exact z7_6); (case side2 => exact z7_22); rintro e w41 ⟨v317, rfl, ho0, hb⟩; have n0_ := Aside0.mk (Kd.R_elder' z7_3 (Kd.R_base ho0) hb); have n1_ := Aside0.mk (Kd.R_below z7_5 hb); have n2_ := Aside0.mk (Kd.R_elder' z7_2 (Kd.R_base ho0) hb); have n3_ := Aside0.mk (Kd.R_lower (Kd.R_new' (Kd.R_new' ho0 (Kd.R_lt z7_3)) (Kd.R_lt z7_2)) (below_size z7_0)); have n4_ := Aside0.mk (below_step z7_0 hb); clear HO_3; clear HO_4; clear HO_5; clear HB; have HO_3 := n0_; have HO_4 := n1_; have HO_5 := n2_; have HO318 := n3_; have HB := n4_; clear n0_ n1_ n2_ n3_ n4_; (try clear hb); (try clear hb2); (try clear hk); (try clear hi); (try clear ho0); obtain ⟨Ao42, co42, eo42⟩ := Kd.R_slice HO318.out; subst eo42; have p319 : 0 ≤ (1 : Int) := (by omega); have q319 : 1 < (t316.length : Int) := of_decide_eq_true z7_4; obtain ⟨ad319, e319, hx319_0⟩ := Kd.at_int (Kd.R_reads' HO318.out).2.2 1 p319 q319; cases e319; (try simp only [show (1 : Int).toNat = 1 from rfl, Nat.reduceMul, Nat.reduceEqDiff, Go.Addr.add, ↓reduceIte] at hx319_0); have qi319 : (1 < t316.length) = True := eq_true (by omega); (try rw [show ((1 : Int)).toNat = 1 from rfl] at hx319_0); replace p319 := eq_true p319; replace q319 := eq_true q319; obtain ⟨Ao43, co43, eo43⟩ := Kd.R_slice HO_3.out; subst eo43; have p320 : 0 ≤ ((ji26) : Int) := of_decide_eq_true z7_4; have q320 : (ji26) < (t303.length : Int) := of_decide_eq_true z7_4; obtain ⟨ad320, e320, hx320_0⟩ := Kd.at_int (Kd.R_reads' HO_3.out).2.2 (ji26) p320 q320; cases e320; replace p320 := eq_true p320; replace q320 := eq_true q320) | (go_at_call 11; (with_reducible refine (impl_WriteWord.calls _ _ t303 ji26 (wrap64 ((rd t303 (ji26)) + 1)) t321 _ ?side1 ?side2 A29.out).mono ?_); (case side1 => exact z7_1); (case side2 => exact z7_11); rintro e w44 ⟨v322, rfl, ho0, hb⟩; have n0_ := Aside0.mk (Kd.R_elder' z7_3 (Kd.R_base ho0) hb); have n1_ := Aside0.mk (Kd.R_below z7_5 hb); have n2_ := Aside0.mk (Kd.R_elder' z7_2 (Kd.R_base ho0) hb); have n3_ := Aside0.mk (Kd.R_elder' z7_7 (Kd.R_base ho0) hb); have n4_ := Aside0.mk (Kd.R_lower (Kd.R_new' (Kd.R_new' (Kd.R_new' ho0 (Kd.R_lt z7_3)) (Kd.R_lt z7_2)) (Kd.R_lt z7_7)) (below_size z7_0)); have n5_ := Aside0.mk (below_step z7_0 hb); clear HO_3; clear HO_4; clear HO_5; clear HO318; clear HB; have HO_3 := n0_; have HO_4 := n1_; have HO_5 := n2_; have HO318 := n3_; have HO323 := n4_; have HB := n5_; clear n0_ n1_ n2_ n3_ n4_ n5_; (try clear hb); (try clear hb2); (try clear hk); (try clear hi); (try clear ho0); obtain ⟨Ao45, co45, eo45⟩ := Kd.R_slice HO323.out; subst eo45) | (go_at_call 12; (with_reducible refine (impl_FirstDiffering.calls k2 _ _ t303 _ _ t321 t324 _ ?side1 ?side2 ?side3 ?side4 A30.out).mono ?_); (case side1 => exact z7_1); (case side2 => exact z7_11); (case side3 => exact z7_8); (case side4 => exact z7_21); rintro e w' ⟨rfl, ⟨nd, rfl⟩⟩; (try first | exact ⟨rfl, _, World.drewN_drewN _ _ _⟩ | exact ⟨rfl, _, Eq.trans (World.drewN_drewN _ _ _) (congrArg (World.drewN _) (Nat.add_assoc _ _ _))⟩)) | (go_at_call 12; (with_reducible refine (impl_FirstDiffering.calls k2 _ _ t303 _ _ t303 t325 _ ?side1 ?side2 ?side3 ?side4 A32.out).mono ?_); (case side1 => exact z7_1); (case side2 => exact z7_11); (case side3 => exact z7_1); (case side4 => exact z7_11); rintro e w' ⟨rfl, ⟨nd, rfl⟩⟩; (try first | exact ⟨rfl, _, World.drewN_drewN _ _ _⟩ | exact ⟨rfl, _, Eq.trans (World.drewN_drewN _ _ _) (congrArg (World.drewN _) (Nat.add_assoc _ _ _))⟩)))
                            repeat (go_quiet (first | (go_at_call 10; (with_reducible refine (spec_DrawPlaces.calls k2 _ _ l0 t316 _ ?side1 ?side2 A23.out).mono ?_); (case side1 => exact z7_6); (case side2 => exact z7_22); rintro e w41 ⟨v317, rfl, ho0, hb⟩; have n0_ := Aside0.mk (Kd.R_elder' z7_3 (Kd.R_base ho0) hb); have n1_ := Aside0.mk (Kd.R_below z7_5 hb); have n2_ := Aside0.mk (Kd.R_elder' z7_2 (Kd.R_base ho0) hb); have n3_ := Aside0.mk (Kd.R_lower (Kd.R_new' (Kd.R_new' ho0 (Kd.R_lt z7_3)) (Kd.R_lt z7_2)) (below_size z7_0)); have n4_ := Aside0.mk (below_step z7_0 hb); clear HO_3; clear HO_4; clear HO_5; clear HB; have HO_3 := n0_; have HO_4 := n1_; have HO_5 := n2_; have HO318 := n3_; have HB := n4_; clear n0_ n1_ n2_ n3_ n4_; (try clear hb); (try clear hb2); (try clear hk); (try clear hi); (try clear ho0); obtain ⟨Ao42, co42, eo42⟩ := Kd.R_slice HO318.out; subst eo42; have p319 : 0 ≤ (1 : Int) := (by omega); have q319 : 1 < (t316.length : Int) := of_decide_eq_true z7_4; obtain ⟨ad319, e319, hx319_0⟩ := Kd.at_int (Kd.R_reads' HO318.out).2.2 1 p319 q319; cases e319; (try simp only [show (1 : Int).toNat = 1 from rfl, Nat.reduceMul, Nat.reduceEqDiff, Go.Addr.add, ↓reduceIte] at hx319_0); have qi319 : (1 < t316.length) = True := eq_true (by omega); (try rw [show ((1 : Int)).toNat = 1 from rfl] at hx319_0); replace p319 := eq_true p319; replace q319 := eq_true q319; obtain ⟨Ao43, co43, eo43⟩ := Kd.R_slice HO_3.out; subst eo43; have p320 : 0 ≤ ((ji26) : Int) := of_decide_eq_true z7_4; have q320 : (ji26) < (t303.length : Int) := of_decide_eq_true z7_4; obtain ⟨ad320, e320, hx320_0⟩ := Kd.at_int (Kd.R_reads' HO_3.out).2.2 (ji26) p320 q320; cases e320; replace p320 := eq_true p320; replace q320 := eq_true q320) | (go_at_call 11; (with_reducible refine (impl_WriteWord.calls _ _ t303 ji26 (wrap64 ((rd t303 (ji26)) + 1)) t321 _ ?side1 ?side2 A29.out).mono ?_); (case side1 => exact z7_1); (case side2 => exact z7_11); rintro e w44 ⟨v322, rfl, ho0, hb⟩; have n0_ := Aside0.mk (Kd.R_elder' z7_3 (Kd.R_base ho0) hb); have n1_ := Aside0.mk (Kd.R_below z7_5 hb); have n2_ := Aside0.mk (Kd.R_elder' z7_2 (Kd.R_base ho0) hb); have n3_ := Aside0.mk (Kd.R_elder' z7_7 (Kd.R_base ho0) hb); have n4_ := Aside0.mk (Kd.R_lower (Kd.R_new' (Kd.R_new' (Kd.R_new' ho0 (Kd.R_lt z7_3)) (Kd.R_lt z7_2)) (Kd.R_lt z7_7)) (below_size z7_0)); have n5_ := Aside0.mk (below_step z7_0 hb); clear HO_3; clear HO_4; clear HO_5; clear HO318; clear HB; have HO_3 := n0_; have HO_4 := n1_; have HO_5 := n2_; have HO318 := n3_; have HO323 := n4_; have HB := n5_; clear n0_ n1_ n2_ n3_ n4_ n5_; (try clear hb); (try clear hb2); (try clear hk); (try clear hi); (try clear ho0); obtain ⟨Ao45, co45, eo45⟩ := Kd.R_slice HO323.out; subst eo45) | (go_at_call 12; (with_reducible refine (impl_FirstDiffering.calls k2 _ _ t303 _ _ t321 t324 _ ?side1 ?side2 ?side3 ?side4 A30.out).mono ?_); (case side1 => exact z7_1); (case side2 => exact z7_11); (case side3 => exact z7_8); (case side4 => exact z7_21); rintro e w' ⟨rfl, ⟨nd, rfl⟩⟩; (try first | exact ⟨rfl, _, World.drewN_drewN _ _ _⟩ | exact ⟨rfl, _, Eq.trans (World.drewN_drewN _ _ _) (congrArg (World.drewN _) (Nat.add_assoc _ _ _))⟩)) | (go_at_call 12; (with_reducible refine (impl_FirstDiffering.calls k2 _ _ t303 _ _ t303 t325 _ ?side1 ?side2 ?side3 ?side4 A32.out).mono ?_); (case side1 => exact z7_1); (case side2 => exact z7_11); (case side3 => exact z7_1); (case side4 => exact z7_11); rintro e w' ⟨rfl, ⟨nd, rfl⟩⟩; (try first | exact ⟨rfl, _, World.drewN_drewN _ _ _⟩ | exact ⟨rfl, _, Eq.trans (World.drewN_drewN _ _ _) (congrArg (World.drewN _) (Nat.add_assoc _ _ _))⟩))); try go_wp2_with (first | (go_at_call 10; (with_reducible refine (spec_DrawPlaces.calls k2 _ _ l0 t316 _ ?side1 ?side2 A23.out).mono ?_); (case side1 => exact z7_6); (case side2 => exact z7_22); rintro e w41 ⟨v317, rfl, ho0, hb⟩; have n0_ := Aside0.mk (Kd.R_elder' z7_3 (Kd.R_base ho0) hb); have n1_ := Aside0.mk (Kd.R_below z7_5 hb); have n2_ := Aside0.mk (Kd.R_elder' z7_2 (Kd.R_base ho0) hb); have n3_ := Aside0.mk (Kd.R_lower (Kd.R_new' (Kd.R_new' ho0 (Kd.R_lt z7_3)) (Kd.R_lt z7_2)) (below_size z7_0)); have n4_ := Aside0.mk (below_step z7_0 hb); clear HO_3; clear HO_4; clear HO_5; clear HB; have HO_3 := n0_; have HO_4 := n1_; have HO_5 := n2_; have HO318 := n3_; have HB := n4_; clear n0_ n1_ n2_ n3_ n4_; (try clear hb); (try clear hb2); (try clear hk); (try clear hi); (try clear ho0); obtain ⟨Ao42, co42, eo42⟩ := Kd.R_slice HO318.out; subst eo42; have p319 : 0 ≤ (1 : Int) := (by omega); have q319 : 1 < (t316.length : Int) := of_decide_eq_true z7_4; obtain ⟨ad319, e319, hx319_0⟩ := Kd.at_int (Kd.R_reads' HO318.out).2.2 1 p319 q319; cases e319; (try simp only [show (1 : Int).toNat = 1 from rfl, Nat.reduceMul, Nat.reduceEqDiff, Go.Addr.add, ↓reduceIte] at hx319_0); have qi319 : (1 < t316.length) = True := eq_true (by omega); (try rw [show ((1 : Int)).toNat = 1 from rfl] at hx319_0); replace p319 := eq_true p319; replace q319 := eq_true q319; obtain ⟨Ao43, co43, eo43⟩ := Kd.R_slice HO_3.out; subst eo43; have p320 : 0 ≤ ((ji26) : Int) := of_decide_eq_true z7_4; have q320 : (ji26) < (t303.length : Int) := of_decide_eq_true z7_4; obtain ⟨ad320, e320, hx320_0⟩ := Kd.at_int (Kd.R_reads' HO_3.out).2.2 (ji26) p320 q320; cases e320; replace p320 := eq_true p320; replace q320 := eq_true q320) | (go_at_call 11; (with_reducible refine (impl_WriteWord.calls _ _ t303 ji26 (wrap64 ((rd t303 (ji26)) + 1)) t321 _ ?side1 ?side2 A29.out).mono ?_); (case side1 => exact z7_1); (case side2 => exact z7_11); rintro e w44 ⟨v322, rfl, ho0, hb⟩; have n0_ := Aside0.mk (Kd.R_elder' z7_3 (Kd.R_base ho0) hb); have n1_ := Aside0.mk (Kd.R_below z7_5 hb); have n2_ := Aside0.mk (Kd.R_elder' z7_2 (Kd.R_base ho0) hb); have n3_ := Aside0.mk (Kd.R_elder' z7_7 (Kd.R_base ho0) hb); have n4_ := Aside0.mk (Kd.R_lower (Kd.R_new' (Kd.R_new' (Kd.R_new' ho0 (Kd.R_lt z7_3)) (Kd.R_lt z7_2)) (Kd.R_lt z7_7)) (below_size z7_0)); have n5_ := Aside0.mk (below_step z7_0 hb); clear HO_3; clear HO_4; clear HO_5; clear HO318; clear HB; have HO_3 := n0_; have HO_4 := n1_; have HO_5 := n2_; have HO318 := n3_; have HO323 := n4_; have HB := n5_; clear n0_ n1_ n2_ n3_ n4_ n5_; (try clear hb); (try clear hb2); (try clear hk); (try clear hi); (try clear ho0); obtain ⟨Ao45, co45, eo45⟩ := Kd.R_slice HO323.out; subst eo45) | (go_at_call 12; (with_reducible refine (impl_FirstDiffering.calls k2 _ _ t303 _ _ t321 t324 _ ?side1 ?side2 ?side3 ?side4 A30.out).mono ?_); (case side1 => exact z7_1); (case side2 => exact z7_11); (case side3 => exact z7_8); (case side4 => exact z7_21); rintro e w' ⟨rfl, ⟨nd, rfl⟩⟩; (try first | exact ⟨rfl, _, World.drewN_drewN _ _ _⟩ | exact ⟨rfl, _, Eq.trans (World.drewN_drewN _ _ _) (congrArg (World.drewN _) (Nat.add_assoc _ _ _))⟩)) | (go_at_call 12; (with_reducible refine (impl_FirstDiffering.calls k2 _ _ t303 _ _ t303 t325 _ ?side1 ?side2 ?side3 ?side4 A32.out).mono ?_); (case side1 => exact z7_1); (case side2 => exact z7_11); (case side3 => exact z7_1); (case side4 => exact z7_11); rintro e w' ⟨rfl, ⟨nd, rfl⟩⟩; (try first | exact ⟨rfl, _, World.drewN_drewN _ _ _⟩ | exact ⟨rfl, _, Eq.trans (World.drewN_drewN _ _ _) (congrArg (World.drewN _) (Nat.add_assoc _ _ _))⟩))))
                            go_ret
                            exact ⟨by first | rfl | (simp [errW_none, errW_some] <;> rfl) | (simp only [← hji26]; first | rfl | (simp [errW_none, errW_some] <;> rfl)) | (simp [*, errW_none, errW_some] <;> rfl) | (simp [*, errW_none, errW_some, i64_w]; done), by repeat (first | (with_reducible first | exact HB.out | apply below_alloc | apply pw_below_drewN | apply below_drew1) | exact HB.out)⟩
                        · rw [if_neg c31] at H
                          have c31b0 : (t324 == (ji26)) = false := beq_eq_false_iff_ne.mpr c31
                          have c31b1 : (t324 != (ji26)) = true := bne_iff_ne.mpr c31
                          obtain rfl := Option.some.inj H
                          obtain ⟨Ao46, co46, eo46⟩ := Kd.R_slice HO_5.out
                          subst eo46
                          go_wp2_with (first | (go_at_call 10; (with_reducible refine (spec_DrawPlaces.calls k2 _ _ l0 t316 _ ?side1 ?side2 A23.out).mono ?_); (case side1 => exact z7_6); (case side2 => exact z7_22); rintro e w47 ⟨v317, rfl, ho0, hb⟩; have n0_ := Aside0.mk (Kd.R_elder' z7_3 (Kd.R_base ho0) hb); have n1_ := Aside0.mk (Kd.R_below z7_5 hb); have n2_ := Aside0.mk (Kd.R_elder' z7_2 (Kd.R_base ho0) hb); have n3_ := Aside0.mk (Kd.R_lower (Kd.R_new' (Kd.R_new' ho0 (Kd.R_lt z7_3)) (Kd.R_lt z7_2)) (below_size z7_0)); have n4_ := Aside0.mk (below_step z7_0 hb); clear HO_3; clear HO_4; clear HO_5; clear HB; have HO_3 := n0_; have HO_4 := n1_; have HO_5 := n2_; have HO318 := n3_; have HB := n4_; clear n0_ n1_ n2_ n3_ n4_; (try clear hb); (try clear hb2); (try clear hk); (try clear hi); (try clear ho0); obtain ⟨Ao48, co48, eo48⟩ := Kd.R_slice HO318.out; subst eo48; have p319 : 0 ≤ (1 : Int) := (by omega); have q319 : 1 < (t316.length : Int) := of_decide_eq_true z7_4; obtain ⟨ad319, e319, hx319_0⟩ := Kd.at_int (Kd.R_reads' HO318.out).2.2 1 p319 q319; cases e319; (try simp only [show (1 : Int).toNat = 1 from rfl, Nat.reduceMul, Nat.reduceEqDiff, Go.Addr.add, ↓reduceIte] at hx319_0); have qi319 : (1 < t316.length) = True := eq_true (by omega); (try rw [show ((1 : Int)).toNat = 1 from rfl] at hx319_0); replace p319 := eq_true p319; replace q319 := eq_true q319; obtain ⟨Ao49, co49, eo49⟩ := Kd.R_slice HO_3.out; subst eo49; have p320 : 0 ≤ ((ji26) : Int) := of_decide_eq_true z7_4; have q320 : (ji26) < (t303.length : Int) := of_decide_eq_true z7_4; obtain ⟨ad320, e320, hx320_0⟩ := Kd.at_int (Kd.R_reads' HO_3.out).2.2 (ji26) p320 q320; cases e320; replace p320 := eq_true p320; replace q320 := eq_true q320) | (go_at_call 11; (with_reducible refine (impl_WriteWord.calls _ _ t303 ji26 (wrap64 ((rd t303 (ji26)) + 1)) t321 _ ?side1 ?side2 A29.out).mono ?_); (case side1 => exact z7_1); (case side2 => exact z7_11); rintro e w50 ⟨v322, rfl, ho0, hb⟩; have n0_ := Aside0.mk (Kd.R_elder' z7_3 (Kd.R_base ho0) hb); have n1_ := Aside0.mk (Kd.R_below z7_5 hb); have n2_ := Aside0.mk (Kd.R_elder' z7_2 (Kd.R_base ho0) hb); have n3_ := Aside0.mk (Kd.R_elder' z7_7 (Kd.R_base ho0) hb); have n4_ := Aside0.mk (Kd.R_lower (Kd.R_new' (Kd.R_new' (Kd.R_new' ho0 (Kd.R_lt z7_3)) (Kd.R_lt z7_2)) (Kd.R_lt z7_7)) (below_size z7_0)); have n5_ := Aside0.mk (below_step z7_0 hb); clear HO_3; clear HO_4; clear HO_5; clear HO318; clear HB; have HO_3 := n0_; have HO_4 := n1_; have HO_5 := n2_; have HO318 := n3_; have HO323 := n4_; have HB := n5_; clear n0_ n1_ n2_ n3_ n4_ n5_; (try clear hb); (try clear hb2); (try clear hk); (try clear hi); (try clear ho0); obtain ⟨Ao51, co51, eo51⟩ := Kd.R_slice HO323.out; subst eo51) | (go_at_call 12; (with_reducible refine (impl_FirstDiffering.calls k2 _ _ t303 _ _ t321 t324 _ ?side1 ?side2 ?side3 ?side4 A30.out).mono ?_); (case side1 => exact z7_1); (case side2 => exact z7_11); (case side3 => exact z7_8); (case side4 => exact z7_21); rintro e w' ⟨rfl, ⟨nd, rfl⟩⟩; (try first | exact ⟨rfl, _, World.drewN_drewN _ _ _⟩ | exact ⟨rfl, _, Eq.trans (World.drewN_drewN _ _ _) (congrArg (World.drewN _) (Nat.add_assoc _ _ _))⟩)))
                          repeat (go_quiet (first | (go_at_call 10; (with_reducible refine (spec_DrawPlaces.calls k2 _ _ l0 t316 _ ?side1 ?side2 A23.out).mono ?_); (case side1 => exact z7_6); (case side2 => exact z7_22); rintro e w47 ⟨v317, rfl, ho0, hb⟩; have n0_ := Aside0.mk (Kd.R_elder' z7_3 (Kd.R_base ho0) hb); have n1_ := Aside0.mk (Kd.R_below z7_5 hb); have n2_ := Aside0.mk (Kd.R_elder' z7_2 (Kd.R_base ho0) hb); have n3_ := Aside0.mk (Kd.R_lower (Kd.R_new' (Kd.R_new' ho0 (Kd.R_lt z7_3)) (Kd.R_lt z7_2)) (below_size z7_0)); have n4_ := Aside0.mk (below_step z7_0 hb); clear HO_3; clear HO_4; clear HO_5; clear HB; have HO_3 := n0_; have HO_4 := n1_; have HO_5 := n2_; have HO318 := n3_; have HB := n4_; clear n0_ n1_ n2_ n3_ n4_; (try clear hb); (try clear hb2); (try clear hk); (try clear hi); (try clear ho0); obtain ⟨Ao48, co48, eo48⟩ := Kd.R_slice HO318.out; subst eo48; have p319 : 0 ≤ (1 : Int) := (by omega); have q319 : 1 < (t316.length : Int) := of_decide_eq_true z7_4; obtain ⟨ad319, e319, hx319_0⟩ := Kd.at_int (Kd.R_reads' HO318.out).2.2 1 p319 q319; cases e319; (try simp only [show (1 : Int).toNat = 1 from rfl, Nat.reduceMul, Nat.reduceEqDiff, Go.Addr.add, ↓reduceIte] at hx319_0); have qi319 : (1 < t316.length) = True := eq_true (by omega); (try rw [show ((1 : Int)).toNat = 1 from rfl] at hx319_0); replace p319 := eq_true p319; replace q319 := eq_true q319; obtain ⟨Ao49, co49, eo49⟩ := Kd.R_slice HO_3.out; subst eo49; have p320 : 0 ≤ ((ji26) : Int) := of_decide_eq_true z7_4; have q320 : (ji26) < (t303.length : Int) := of_decide_eq_true z7_4; obtain ⟨ad320, e320, hx320_0⟩ := Kd.at_int (Kd.R_reads' HO_3.out).2.2 (ji26) p320 q320; cases e320; replace p320 := eq_true p320; replace q320 := eq_true q320) | (go_at_call 11; (with_reducible refine (impl_WriteWord.calls _ _ t303 ji26 (wrap64 ((rd t303 (ji26)) + 1)) t321 _ ?side1 ?side2 A29.out).mono ?_); (case side1 => exact z7_1); (case side2 => exact z7_11); rintro e w50 ⟨v322, rfl, ho0, hb⟩; have n0_ := Aside0.mk (Kd.R_elder' z7_3 (Kd.R_base ho0) hb); have n1_ := Aside0.mk (Kd.R_below z7_5 hb); have n2_ := Aside0.mk (Kd.R_elder' z7_2 (Kd.R_base ho0) hb); have n3_ := Aside0.mk (Kd.R_elder' z7_7 (Kd.R_base ho0) hb); have n4_ := Aside0.mk (Kd.R_lower (Kd.R_new' (Kd.R_new' (Kd.R_new' ho0 (Kd.R_lt z7_3)) (Kd.R_lt z7_2)) (Kd.R_lt z7_7)) (below_size z7_0)); have n5_ := Aside0.mk (below_step z7_0 hb); clear HO_3; clear HO_4; clear HO_5; clear HO318; clear HB; have HO_3 := n0_; have HO_4 := n1_; have HO_5 := n2_; have HO318 := n3_; have HO323 := n4_; have HB := n5_; clear n0_ n1_ n2_ n3_ n4_ n5_; (try clear hb); (try clear hb2); (try clear hk); (try clear hi); (try clear ho0); obtain ⟨Ao51, co51, eo51⟩ := Kd.R_slice HO323.out; subst eo51) | (go_at_call 12; (with_reducible refine (impl_FirstDiffering.calls k2 _ _ t303 _ _ t321 t324 _ ?side1 ?side2 ?side3 ?side4 A30.out).mono ?_); (case side1 => exact z7_1); (case side2 => exact z7_11); (case side3 => exact z7_8); (case side4 => exact z7_21); rintro e w' ⟨rfl, ⟨nd, rfl⟩⟩; (try first | exact ⟨rfl, _, World.drewN_drewN _ _ _⟩ | exact ⟨rfl, _, Eq.trans (World.drewN_drewN _ _ _) (congrArg (World.drewN _) (Nat.add_assoc _ _ _))⟩))); try go_wp2_with (first | (go_at_call 10; (with_reducible refine (spec_DrawPlaces.calls k2 _ _ l0 t316 _ ?side1 ?side2 A23.out).mono ?_); (case side1 => exact z7_6); (case side2 => exact z7_22); rintro e w47 ⟨v317, rfl, ho0, hb⟩; have n0_ := Aside0.mk (Kd.R_elder' z7_3 (Kd.R_base ho0) hb); have n1_ := Aside0.mk (Kd.R_below z7_5 hb); have n2_ := Aside0.mk (Kd.R_elder' z7_2 (Kd.R_base ho0) hb); have n3_ := Aside0.mk (Kd.R_lower (Kd.R_new' (Kd.R_new' ho0 (Kd.R_lt z7_3)) (Kd.R_lt z7_2)) (below_size z7_0)); have n4_ := Aside0.mk (below_step z7_0 hb); clear HO_3; clear HO_4; clear HO_5; clear HB; have HO_3 := n0_; have HO_4 := n1_; have HO_5 := n2_; have HO318 := n3_; have HB := n4_; clear n0_ n1_ n2_ n3_ n4_; (try clear hb); (try clear hb2); (try clear hk); (try clear hi); (try clear ho0); obtain ⟨Ao48, co48, eo48⟩ := Kd.R_slice HO318.out; subst eo48; have p319 : 0 ≤ (1 : Int) := (by omega); have q319 : 1 < (t316.length : Int) := of_decide_eq_true z7_4; obtain ⟨ad319, e319, hx319_0⟩ := Kd.at_int (Kd.R_reads' HO318.out).2.2 1 p319 q319; cases e319; (try simp only [show (1 : Int).toNat = 1 from rfl, Nat.reduceMul, Nat.reduceEqDiff, Go.Addr.add, ↓reduceIte] at hx319_0); have qi319 : (1 < t316.length) = True := eq_true (by omega); (try rw [show ((1 : Int)).toNat = 1 from rfl] at hx319_0); replace p319 := eq_true p319; replace q319 := eq_true q319; obtain ⟨Ao49, co49, eo49⟩ := Kd.R_slice HO_3.out; subst eo49; have p320 : 0 ≤ ((ji26) : Int) := of_decide_eq_true z7_4; have q320 : (ji26) < (t303.length : Int) := of_decide_eq_true z7_4; obtain ⟨ad320, e320, hx320_0⟩ := Kd.at_int (Kd.R_reads' HO_3.out).2.2 (ji26) p320 q320; cases e320; replace p320 := eq_true p320; replace q320 := eq_true q320) | (go_at_call 11; (with_reducible refine (impl_WriteWord.calls _ _ t303 ji26 (wrap64 ((rd t303 (ji26)) + 1)) t321 _ ?side1 ?side2 A29.out).mono ?_); (case side1 => exact z7_1); (case side2 => exact z7_11); rintro e w50 ⟨v322, rfl, ho0, hb⟩; have n0_ := Aside0.mk (Kd.R_elder' z7_3 (Kd.R_base ho0) hb); have n1_ := Aside0.mk (Kd.R_below z7_5 hb); have n2_ := Aside0.mk (Kd.R_elder' z7_2 (Kd.R_base ho0) hb); have n3_ := Aside0.mk (Kd.R_elder' z7_7 (Kd.R_base ho0) hb); have n4_ := Aside0.mk (Kd.R_lower (Kd.R_new' (Kd.R_new' (Kd.R_new' ho0 (Kd.R_lt z7_3)) (Kd.R_lt z7_2)) (Kd.R_lt z7_7)) (below_size z7_0)); have n5_ := Aside0.mk (below_step z7_0 hb); clear HO_3; clear HO_4; clear HO_5; clear HO318; clear HB; have HO_3 := n0_; have HO_4 := n1_; have HO_5 := n2_; have HO318 := n3_; have HO323 := n4_; have HB := n5_; clear n0_ n1_ n2_ n3_ n4_ n5_; (try clear hb); (try clear hb2); (try clear hk); (try clear hi); (try clear ho0); obtain ⟨Ao51, co51, eo51⟩ := Kd.R_slice HO323.out; subst eo51) | (go_at_call 12; (with_reducible refine (impl_FirstDiffering.calls k2 _ _ t303 _ _ t321 t324 _ ?side1 ?side2 ?side3 ?side4 A30.out).mono ?_); (case side1 => exact z7_1); (case side2 => exact z7_11); (case side3 => exact z7_8); (case side4 => exact z7_21); rintro e w' ⟨rfl, ⟨nd, rfl⟩⟩; (try first | exact ⟨rfl, _, World.drewN_drewN _ _ _⟩ | exact ⟨rfl, _, Eq.trans (World.drewN_drewN _ _ _) (congrArg (World.drewN _) (Nat.add_assoc _ _ _))⟩))))
                          go_ret
                          exact ⟨by first | rfl | (simp [errW_none, errW_some] <;> rfl) | (simp only [← hji26]; first | rfl | (simp [errW_none, errW_some] <;> rfl)) | (simp [*, errW_none, errW_some] <;> rfl) | (simp [*, errW_none, errW_some, i64_w]; done), by repeat (first | (with_reducible first | exact HB.out | apply below_alloc | apply pw_below_drewN | apply below_drew1) | exact HB.out)⟩
                      · rw [if_neg c28] at H
                        exact absurd H (by simp)
                    · rw [if_neg c27] at H
                      exact absurd H (by simp)
                · rw [if_neg c24] at H
                  exact absurd H (by simp)

/-- THE ONE PURE STATEMENT of laws_FnTouched: yours. -/
def laws_FnTouched.Pure : Prop := ∀ (l0 : List Int), l0.length ≤ maxLen → l0.length * 1 ≤ 140737488351232 → (∀ x ∈ l0, (Lit.int .u8 x).wf = true) → ∃ k, laws_FnTouched.f k l0 = some true
theorem laws_FnTouched.walk (P : laws_FnTouched.Pure) (a0 : Option Addr) (len0 cap0 : Nat) (z0 : List Int) (w : World) (w0 : (a0 = none ∧ len0 = 0 ∧ cap0 = 0 ∧ z0 = []) ∨ ∃ x, a0 = some x ∧ len0 ≤ cap0 ∧ cap0 ≤ maxLen ∧ z0.length = cap0 ∧ (∀ i, i < z0.length → w.cell? (x.add i) = some (.int .u8 (z0.getD i 0))) ∧ ∀ n ∈ z0, (Lit.int .u8 n).wf = true) (y0 : len0 * 1 ≤ 140737488351232) :
    Calls Try.prog 3 #[.slice a0 len0 cap0] w fun e w' => e = .returned (.bool true) ∧ Below w.heap.size w w' := by
  obtain ⟨l0, rfl, hr0, hm0, hw0, hc0⟩ := ReadsInt.ofRowC w0
  obtain ⟨k, h⟩ := P l0 hm0 y0 hw0
  refine (laws_FnTouched.calls k _ _ l0 true w (Kd.C_of_reads (d := (0 : Int)) (h1 := fun _ => rfl) hr0) hc0 h).mono ?_
  rintro e w' ⟨rfl, hd⟩
  exact ⟨rfl, hd⟩

/-! ### impl_Clamp: function 31 -/
def impl_Clamp.f (a0 : Int) (a1 : Int) (a2 : Int) : Option (Int) := if a2 < a1 then (some a1) else (some (mn (mx a0 a1) a2))
set_option maxHeartbeats 8000000 in
set_option maxRecDepth 100000 in
theorem impl_Clamp.calls (a0 : Int) (a1 : Int) (a2 : Int) (r : Int) (w : World) (h : impl_Clamp.f a0 a1 a2 = some r) :
    Calls Try.prog 31 #[.int .i64 a0, .int .i64 a1, .int .i64 a2] w fun e w' => e = .returned (.int .i64 r) ∧ Drawn0 w w' := by
  have H : (if a2 < a1 then (some a1) else (some (mn (mx a0 a1) a2))) = some r := h
  clear h
  by_cases c4 : a2 < a1
  · rw [if_pos c4] at H
    have c4b0 : decide (a2 < a1) = true := decide_eq_true c4
    clear c4
    obtain rfl := Option.some.inj H
    go_enter Try.func31, Try.ntmps31
    go_wp2
    go_ret
    exact ⟨by first | rfl | (simp; done) | (simp [*]; done), by repeat (first | exact Drawn0.refl _ | apply Drawn0.step)⟩
  · rw [if_neg c4] at H
    have c4b0 : decide (a2 < a1) = false := decide_eq_false c4
    clear c4
    obtain ⟨ji5, hji5⟩ : ∃ j_ : Int, (mx a0 a1) = j_ := ⟨_, rfl⟩
    replace H : (some (mn (ji5) a2)) = some r := by first | (rw [hji5] at H; exact H) | (simp only [hji5] at H ⊢; exact H)
    have hji5_ : (if a0 < a1 then a1 else a0) = ji5 := hji5
    obtain ⟨ji6, hji6⟩ : ∃ j_ : Int, (mn (ji5) a2) = j_ := ⟨_, rfl⟩
    replace H : (some ji6) = some r := by first | (rw [hji6] at H; exact H) | (simp only [hji6] at H ⊢; exact H)
    have hji6_ : (if a2 < (ji5) then a2 else (ji5)) = ji6 := hji6
    obtain rfl := Option.some.inj H
    go_enter Try.func31, Try.ntmps31
    go_wp2
    go_ret
    exact ⟨by first | rfl | (simp; done) | (simp only [← hji5, ← hji6] <;> (first | rfl | simp)) | (simp [*]; done), by repeat (first | exact Drawn0.refl _ | apply Drawn0.step)⟩

/-! ### impl_ApplyWrites: function 21 -/
def impl_ApplyWrites.l0 : Nat → List Int → List (S31) → Int → Int → Option (List Int)
  | 0, _, _, _, _ => none
  | k + 1, x7, x17, x18, x19 => if x19 < x18 then (if 0 ≤ x19 then (if x19 < (x17.length : Int) then ((impl_within.f ((rd_T31 x17 x19).f0) 0 (wrap64 ((x7.length : Int) - 1))).bind fun t336 => (if t336 = true then (if 0 ≤ ((rd_T31 x17 x19).f0) then (if ((rd_T31 x17 x19).f0) < (x7.length : Int) then (impl_ApplyWrites.l0 k (x7.set (((rd_T31 x17 x19).f0) : Int).toNat ((rd_T31 x17 x19).f1)) x17 x18 (wrap64 (x19 + 1))) else (none)) else (none)) else (impl_ApplyWrites.l0 k x7 x17 x18 (wrap64 (x19 + 1))))) else (none)) else (none)) else (some x7)
def impl_ApplyWrites.f (k : Nat) (l0 : List Int) (l1 : List (S31)) (a2 : Int) : Option (List Int) := (slices_Clone_int_int.f l0).bind fun t326 => ((impl_Clamp.f a2 0 (l1.length : Int)).bind fun t329 => (if 0 ≤ t329 then (if t329 ≤ (l1.length : Int) then ((some (l1.take (t329 : Int).toNat : List (S31))).bind fun y330 => (impl_ApplyWrites.l0 k t326 y330 (y330.length : Int) 0)) else (none)) else (none)))
theorem impl_ApplyWrites.mono_l : ∀ k, (∀ y0 y1 y2 y3, LeO (impl_ApplyWrites.l0 k y0 y1 y2 y3) (impl_ApplyWrites.l0 (k + 1) y0 y1 y2 y3))
  | 0 => fun _ _ _ _ r h => by simp [impl_ApplyWrites.l0] at h
  | k + 1 => by
    have ih0 := impl_ApplyWrites.mono_l k
    · intro y0 y1 y2 y3
      unfold impl_ApplyWrites.l0
      repeat' first
      | (with_reducible exact ih0 _ _ _ _)
      | (with_reducible exact LeO.refl _)
      | (with_reducible exact LeO.none _)
      | (with_reducible refine LeO.ite ?_ ?_)
      | (with_reducible refine LeO.bind ?_ (fun _ => ?_))
      | exact ih0 _ _ _ _
      | exact LeO.none _
      | refine LeO.ite ?_ ?_
      | refine LeO.bind ?_ (fun _ => ?_)
theorem impl_ApplyWrites.mono : ∀ a0 a1 a2 k, LeO (impl_ApplyWrites.f k a0 a1 a2) (impl_ApplyWrites.f (k + 1) a0 a1 a2) := by
  intro a0 a1 a2 k
  have ih0 := impl_ApplyWrites.mono_l k
  unfold impl_ApplyWrites.f
  repeat' first
      | (with_reducible exact ih0 _ _ _ _)
      | (with_reducible exact LeO.refl _)
      | (with_reducible exact LeO.none _)
      | (with_reducible refine LeO.ite ?_ ?_)
      | (with_reducible refine LeO.bind ?_ (fun _ => ?_))
      | exact ih0 _ _ _ _
      | exact LeO.none _
      | refine LeO.ite ?_ ?_
      | refine LeO.bind ?_ (fun _ => ?_)
set_option maxHeartbeats 8000000 in
set_option maxRecDepth 100000 in
theorem impl_ApplyWrites.calls (k : Nat) (A0 : Option Addr) (c0 : Nat) (l0 : List Int) (A1 : Option Addr) (c1 : Nat) (l1 : List (S31)) (a2 : Int) (r : List Int) (w : World) (hr0 : Kd.C (Kd.int .i64) w A0 l0.length l0) (hc0 : l0.length ≤ c0) (hr1 : Kd.C k31 w A1 l1.length l1) (hc1 : l1.length ≤ c1) (h : impl_ApplyWrites.f k l0 l1 a2 = some r) :
    Calls Try.prog 21 #[.slice A0 l0.length c0, .slice A1 l1.length c1, .int .i64 a2] w fun e w' => ∃ v0_ : Value, e = .returned (v0_) ∧ Kd.R (Kd.int .i64) 3 w' w.heap.size (fun _ => True) v0_ r ∧ Below w.heap.size w w' := by
  have hu31 := Try.underlying31
  have HR0 := Aside0.mk hr0
  have HC0 := Aside0.mk hc0
  clear hr0 hc0
  have HR1 := Aside0.mk hr1
  have HC1 := Aside0.mk hc1
  clear hr1 hc1
  have HB := Aside0.mk (Below.refl w.heap.size w)
  have H : ((slices_Clone_int_int.f l0).bind fun t326 => ((impl_Clamp.f a2 0 (l1.length : Int)).bind fun t329 => (if 0 ≤ t329 then (if t329 ≤ (l1.length : Int) then ((some (l1.take (t329 : Int).toNat : List (S31))).bind fun y330 => (impl_ApplyWrites.l0 k t326 y330 (y330.length : Int) 0)) else (none)) else (none)))) = some r := h
  clear h
  replace H := Option.bind_eq_some_iff.mp H
  obtain ⟨t326, A40, H⟩ := H
  replace H : ((impl_Clamp.f a2 0 (l1.length : Int)).bind fun t329 => (if 0 ≤ t329 then (if t329 ≤ (l1.length : Int) then ((some (l1.take (t329 : Int).toNat : List (S31))).bind fun y330 => (impl_ApplyWrites.l0 k t326 y330 (y330.length : Int) 0)) else (none)) else (none))) = some r := H
  have A4 := Aside0.mk A40
  clear A40
  replace H := Option.bind_eq_some_iff.mp H
  obtain ⟨t329, A50, H⟩ := H
  replace H : (if 0 ≤ t329 then (if t329 ≤ (l1.length : Int) then ((some (l1.take (t329 : Int).toNat : List (S31))).bind fun y330 => (impl_ApplyWrites.l0 k t326 y330 (y330.length : Int) 0)) else (none)) else (none)) = some r := H
  have A5 := Aside0.mk A50
  clear A50
  by_cases c6 : 0 ≤ t329
  · rw [if_pos c6] at H
    have c6b0 := eq_true c6
    have c6b1 : decide (0 ≤ t329) = true := decide_eq_true c6
    clear c6
    by_cases c7 : t329 ≤ (l1.length : Int)
    · rw [if_pos c7] at H
      have c7b0 := eq_true c7
      have c7b1 : decide (t329 ≤ (l1.length : Int)) = true := decide_eq_true c7
      clear c7
      obtain ⟨y330, hy330⟩ : ∃ y_ : List (S31), y_ = (l1.take (t329 : Int).toNat) := ⟨_, rfl⟩
      replace H : (impl_ApplyWrites.l0 k t326 y330 (y330.length : Int) 0) = some r := by first | (rw [hy330]; with_reducible exact H) | (have H2_ := (Option.bind_some _ _).symm.trans H; rw [hy330]; with_reducible exact H2_) | (have H2_ := (Option.bind_some _ _).symm.trans H; with_reducible exact H2_) | with_reducible exact H | (rw [hy330]; exact H) | exact H
      have Ny330 := Aside0.mk hy330
      clear hy330
      have H' := Aside0.mk H
      clear H
      go_enter Try.func21, Try.ntmps21
      go_wp2_with (first | ((first | ((with_reducible refine gate_callee (f := 27) rfl ?_); refine goesL_ (some 11) rfl rfl Try.func27 (by kernel_rfl) rfl #[.slice A0 l0.length c0] rfl z7_10 ?_; (with_reducible refine (slices_Clone_int_int.calls _ _ l0 t326 _ ?side1 ?side2 A4.out).mono ?_)) | (go_at_call 27; (with_reducible refine (slices_Clone_int_int.calls _ _ l0 t326 _ ?side1 ?side2 A4.out).mono ?_))); (case side1 => exact z7_9); (case side2 => exact z7_22); rintro e w8 ⟨v327, rfl, ho0, hb⟩; (first | refine ⟨_, rfl, ?_⟩ | skip); have n0_ := Aside0.mk (Kd.R_lower ho0 (below_size z7_0)); have n1_ := Aside0.mk (below_step z7_0 hb); clear HB; have HO328 := n0_; have HB := n1_; clear n0_ n1_; (try clear hb); (try clear hb2); (try clear hk); (try clear hi); (try clear ho0)) | ((first | ((with_reducible refine gate_callee (f := 31) rfl ?_); refine goesL_ (some 16) rfl rfl Try.func31 (by kernel_rfl) rfl #[.int .i64 a2, .int .i64 0, .int .i64 (l1.length : Int)] rfl z7_10 ?_; (with_reducible refine (impl_Clamp.calls a2 0 (l1.length : Int) t329 _ A5.out).mono ?_)) | (go_at_call 31; (with_reducible refine (impl_Clamp.calls a2 0 (l1.length : Int) t329 _ A5.out).mono ?_))); rintro e w' ⟨rfl, ⟨nd, rfl⟩⟩; (first | refine ⟨_, rfl, ?_⟩ | skip); have q9 : (t329 : Int) ≤ ((l1.length : Int) : Int) := of_decide_eq_true z7_4; obtain ⟨i09, hi09, _, hsz9, _⟩ := info_parts info31; have hroom9 : l1.length ≤ c1 := HC1.out; have hC9 : Kd.C k31 _ A1 l1.length l1 := HR1.out; have hcut9 := cut_to (P := Try.prog) 25 31 .i64 Try.underlying25 hi09 A1 l1.length c1 t329 (of_decide_eq_true z7_4) q9 hroom9; have hr9 := Kd.C_take (m := (t329 : Int).toNat) hC9 (by omega); have hy9 : y330.length = (t329 : Int).toNat := (by rw [Ny330.out, List.length_take]; omega); rw [← Ny330.out] at hr9; rw [← hy9] at hcut9; have HR333 := Aside0.mk hr9; have HC333 := Aside0.mk (show y330.length ≤ c1 from by omega); clear hr9 hC9 hroom9 hi09 hsz9; have KY9 := Aside0.mk hy9; clear hy9; replace q9 := eq_true q9))
      go_loopg [19] k (fun kq v19 w' => ∃ (x7_1 : List Int) (x19_1 : Int), v19 = .int .i64 x19_1 ∧ Aside0 (impl_ApplyWrites.l0 kq x7_1 y330 (y330.length : Int) x19_1 = some r) ∧ Aside0 (kq ≤ k) ∧ Aside0 (Kd.R (Kd.int .i64) 3 w' w.heap.size (fun _ => True) v327 x7_1) ∧ Aside0 (Below w.heap.size w w'))
      case atStart => exact ⟨(t326), (0), z7_15, H', ⟨Nat.le_refl _⟩, ⟨by (with_reducible repeat (first | apply Kd.R_alloc | apply Kd.R_drewN | apply Kd.R_drew)); exact HO328.out⟩, ⟨by repeat (first | (with_reducible first | exact HB.out | apply below_alloc | apply pw_below_drewN | apply below_drew1) | exact HB.out)⟩⟩
      case round =>
        clear H'
        (try clear c1); (try clear c6); (try clear c6b0); (try clear c6b1); (try clear c7); (try clear c7b0); (try clear c7b1); (try clear q9); (try clear q9)
        obtain ⟨x7_1, x19_1, rfl, HA, HK1, HO_7, HB⟩ := hrel
        cases gk with
        | zero => exact absurd HA.out (by simp [impl_ApplyWrites.l0])
        | succ k1 =>
          have H := HA.out
          clear HA
          simp only [impl_ApplyWrites.l0] at H
          by_cases c10 : x19_1 < (y330.length : Int)
          · rw [if_pos c10] at H
            have c10b0 : decide (x19_1 < (y330.length : Int)) = true := decide_eq_true c10
            clear c10
            by_cases c11 : 0 ≤ x19_1
            · rw [if_pos c11] at H
              have c11b0 : decide (0 ≤ x19_1) = true := decide_eq_true c11
              clear c11
              by_cases c12 : x19_1 < (y330.length : Int)
              · rw [if_pos c12] at H
                have c12b0 : decide (x19_1 < (y330.length : Int)) = true := decide_eq_true c12
                clear c12
                replace H := Option.bind_eq_some_iff.mp H
                obtain ⟨t336, A130, H⟩ := H
                replace H : (if t336 = true then (if 0 ≤ ((rd_T31 y330 x19_1).f0) then (if ((rd_T31 y330 x19_1).f0) < (x7_1.length : Int) then (impl_ApplyWrites.l0 k1 (x7_1.set (((rd_T31 y330 x19_1).f0) : Int).toNat ((rd_T31 y330 x19_1).f1)) y330 (y330.length : Int) (wrap64 (x19_1 + 1))) else (none)) else (none)) else (impl_ApplyWrites.l0 k1 x7_1 y330 (y330.length : Int) (wrap64 (x19_1 + 1)))) = some r := H
                have A13 := Aside0.mk A130
                clear A130
                by_cases c14 : t336 = true
                · subst c14
                  have H1 : (if 0 ≤ ((rd_T31 y330 x19_1).f0) then (if ((rd_T31 y330 x19_1).f0) < (x7_1.length : Int) then (impl_ApplyWrites.l0 k1 (x7_1.set (((rd_T31 y330 x19_1).f0) : Int).toNat ((rd_T31 y330 x19_1).f1)) y330 (y330.length : Int) (wrap64 (x19_1 + 1))) else (none)) else (none)) = some r := by rw [if_pos rfl] at H; exact H
                  clear H
                  have H := H1
                  clear H1
                  by_cases c15 : 0 ≤ ((rd_T31 y330 x19_1).f0)
                  · rw [if_pos c15] at H
                    have c15b0 : decide (0 ≤ ((rd_T31 y330 x19_1).f0)) = true := decide_eq_true c15
                    clear c15
                    by_cases c16 : ((rd_T31 y330 x19_1).f0) < (x7_1.length : Int)
                    · rw [if_pos c16] at H
                      have c16b0 : decide (((rd_T31 y330 x19_1).f0) < (x7_1.length : Int)) = true := decide_eq_true c16
                      clear c16
                      obtain ⟨y337, hy337⟩ : ∃ y_ : List Int, y_ = (x7_1.set (((rd_T31 y330 x19_1).f0) : Int).toNat ((rd_T31 y330 x19_1).f1)) := ⟨_, rfl⟩
                      replace H : (impl_ApplyWrites.l0 k1 y337 y330 (y330.length : Int) (wrap64 (x19_1 + 1))) = some r := by first | (rw [hy337]; with_reducible exact H) | (have H2_ := (Option.bind_some _ _).symm.trans H; rw [hy337]; with_reducible exact H2_) | (have H2_ := (Option.bind_some _ _).symm.trans H; with_reducible exact H2_) | with_reducible exact H | (rw [hy337]; exact H) | exact H
                      have Ny337 := Aside0.mk hy337
                      clear hy337
                      have H' := Aside0.mk H
                      clear H
                      have p334 : 0 ≤ (x19_1 : Int) := of_decide_eq_true z7_4
                      have q334 : x19_1 < (y330.length : Int) := of_decide_eq_true z7_4
                      obtain ⟨ad334, e334, hx334_0, hx334_1⟩ := at_T31 HR333.out x19_1 p334 q334
                      cases e334
                      replace hx334_0 := (HB.out.cell (World.block_lt_of_cell? w _ hx334_0)).trans hx334_0
                      replace hx334_1 := (HB.out.cell (World.block_lt_of_cell? w _ hx334_1)).trans hx334_1
                      replace p334 := eq_true p334
                      replace q334 := eq_true q334
                      go_wp2_with (first | ((with_reducible refine gate_dst (N := 9) rfl ?_); refine box_event ?hg (N := 9) ?hd (cs := #[.int .i64 0, .int .i64 0]) (t := 31) ?hr ?_; (case hd => rfl); (case hg => rfl); (case hr => exact z7_17); intro gb335 hg w18 hbox hb; have n0_ := Aside0.mk (Kd.R_below (by (with_reducible repeat (first | apply Kd.R_alloc | apply Kd.R_drewN | apply Kd.R_drew)); exact HO_7.out) hb); have n1_ := Aside0.mk (below_step z7_0 hb); have n2_ := Aside0.mk (hbox); have n3_ := Aside0.mk ((z7_23 : w.heap.size ≤ gb335)); have n4_ := Aside0.mk ((z7_23 : w.heap.size ≤ gb335)); clear HO_7; clear HB; have HO_7 := n0_; have HB := n1_; have BK335 := n2_; have GW335 := n3_; have GE335 := n4_; clear n0_ n1_ n2_ n3_ n4_; clear hb hbox hg; have hcz19_0 : w18.cell? ⟨gb335, 0, none⟩ = some (.int .i64 0) := (blk_cell BK335.out 0).trans rfl; have hcz19_1 : w18.cell? ⟨gb335, 1, none⟩ = some (.int .i64 0) := (blk_cell BK335.out 1).trans rfl; have hfz19_0 := blk_frozen BK335.out 0; have hfz19_1 := blk_frozen BK335.out 1) | ((with_reducible refine gate_store (t := 31) (p := 9) rfl ?_); refine store_event (t := 31) (p := 9) (v := ?vo_w20) (w1 := ((w18.setCell ⟨gb335, 0, none⟩ (.int .i64 ((rd_T31 y330 x19_1).f0))).setCell ⟨gb335, 1, none⟩ (.int .i64 ((rd_T31 y330 x19_1).f1)))) ?hg ?ho ?hn ?hr ?_; (case ho => rfl); (case hg => rfl); (case hn => rfl); (case hr => exact z7_17); intro w20 hw; have n0_ : Aside0 (Kd.R (Kd.int .i64) 3 w20 w.heap.size (fun _ => True) v327 x7_1) := ⟨(by rw [hw]; exact (by (with_reducible repeat (first | apply Kd.R_alloc | apply Kd.R_drewN | apply Kd.R_drew)); exact Kd.R_mono (Kd.R_far (p := ⟨gb335, 1, none⟩) (Kd.R_far (p := ⟨gb335, 0, none⟩) (Kd.R_types HO_7.out BK335.out (by decide)) (fun _ hk => hk.2) (.int .i64 ((rd_T31 y330 x19_1).f0))) (fun _ hk => hk.2) (.int .i64 ((rd_T31 y330 x19_1).f1))) (fun _ hk => trivial)))⟩; have n1_ : Aside0 (w20.heap[gb335]? = some (.cells #[.int .i64 ((rd_T31 y330 x19_1).f0), .int .i64 ((rd_T31 y330 x19_1).f1)] 31 (0, 0))) := ⟨(by rw [hw]; exact (by (with_reducible repeat (first | refine blk_drewN ?_ _ | refine blk_drew ?_ | refine blk_alloc ?_ _)); refine blk_put (cs := #[.int .i64 ((rd_T31 y330 x19_1).f0), .int .i64 0]) ?_ 1 _ rfl; (with_reducible repeat (first | refine blk_drewN ?_ _ | refine blk_drew ?_ | refine blk_alloc ?_ _)); refine blk_put (cs := #[.int .i64 0, .int .i64 0]) ?_ 0 _ rfl; (with_reducible repeat (first | refine blk_drewN ?_ _ | refine blk_drew ?_ | refine blk_alloc ?_ _)); exact BK335.out))⟩; have n2_ : Aside0 (Below w.heap.size w w20) := ⟨(by rw [hw]; exact (by repeat (first | (with_reducible first | exact HB.out | apply below_alloc | apply pw_below_drewN | apply below_drew1 | refine below_set ?_ GE335.out) | exact HB.out)))⟩; clear hw; clear HO_7; clear BK335; clear HB; have HO_7 := n0_; have BK335 := n1_; have HB := n2_; clear n0_ n1_ n2_; have hcz21_0 : w20.cell? ⟨gb335, 0, none⟩ = some (.int .i64 ((rd_T31 y330 x19_1).f0)) := (blk_cell BK335.out 0).trans rfl; have hcz21_1 : w20.cell? ⟨gb335, 1, none⟩ = some (.int .i64 ((rd_T31 y330 x19_1).f1)) := (blk_cell BK335.out 1).trans rfl; have hfz21_0 := blk_frozen BK335.out 0; have hfz21_1 := blk_frozen BK335.out 1; obtain ⟨Ao22, co22, eo22⟩ := Kd.R_slice HO_7.out; subst eo22) | ((first | ((with_reducible refine gate_callee (f := 28) rfl ?_); refine goesL_ (some 28) rfl rfl Try.func28 (by kernel_rfl) rfl #[.int .i64 ((rd_T31 y330 x19_1).f0), .int .i64 0, .int .i64 (wrap64 ((x7_1.length : Int) - 1))] rfl z7_10 ?_; (with_reducible refine (impl_within.calls ((rd_T31 y330 x19_1).f0) 0 (wrap64 ((x7_1.length : Int) - 1)) true _ A13.out).mono ?_)) | (go_at_call 28; (with_reducible refine (impl_within.calls ((rd_T31 y330 x19_1).f0) 0 (wrap64 ((x7_1.length : Int) - 1)) true _ A13.out).mono ?_))); rintro e w' ⟨rfl, ⟨nd, rfl⟩⟩; (first | refine ⟨_, rfl, ?_⟩ | skip); (try (rw [drewN_self w20]; generalize hq_ : World.drewN w20 _ = w20; have n0_ : Aside0 (Kd.R (Kd.int .i64) 3 w20 w.heap.size (fun _ => True) (.slice Ao22 x7_1.length co22) x7_1) := ⟨by rw [← hq_]; exact (by (with_reducible repeat (first | apply Kd.R_alloc | apply Kd.R_drewN | apply Kd.R_drew)); exact HO_7.out)⟩; have n1_ : Aside0 (w20.heap[gb335]? = some (.cells #[.int .i64 ((rd_T31 y330 x19_1).f0), .int .i64 ((rd_T31 y330 x19_1).f1)] 31 (0, 0))) := ⟨by rw [← hq_]; exact (by (with_reducible repeat (first | refine blk_drewN ?_ _ | refine blk_drew ?_ | refine blk_alloc ?_ _)); exact BK335.out)⟩; have n2_ : Aside0 (Below w.heap.size w w20) := ⟨by rw [← hq_]; exact (by repeat (first | (with_reducible first | exact HB.out | apply below_alloc | apply pw_below_drewN | apply below_drew1 | refine below_set ?_ GE335.out) | exact HB.out))⟩; clear HO_7 BK335 HB hq_; have HO_7 := n0_; have BK335 := n1_; have HB := n2_; clear n0_ n1_ n2_)); (try (have hcuz23_0 : w20.cell? ⟨gb335, 0, none⟩ = some (.int .i64 ((rd_T31 y330 x19_1).f0)) := (blk_cell BK335.out 0).trans rfl; have hcuz23_1 : w20.cell? ⟨gb335, 1, none⟩ = some (.int .i64 ((rd_T31 y330 x19_1).f1)) := (blk_cell BK335.out 1).trans rfl; have hfuz23_0 := blk_frozen BK335.out 0; have hfuz23_1 := blk_frozen BK335.out 1)); have p17 : 0 ≤ (((rd_T31 y330 x19_1).f0) : Int) := of_decide_eq_true z7_4; have q17 : (((rd_T31 y330 x19_1).f0) : Int) < ((x7_1.length : Int) : Int) := of_decide_eq_true z7_4; obtain ⟨go17, co17, eo17, gb17, gl17, cl17, HG17⟩ := Kd.R_form HO_7.out (by omega); (first | cases eo17 | (injection eo17 with ea_ en_ ec_; (first | subst ea_ | (injection ea_ with ea_; subst ea_)); subst ec_; clear en_)); have GB17 := Aside0.mk gb17; have GG17 := Aside0.mk HG17; clear gb17 gl17 HG17; obtain ⟨hx17_0, hf17_0⟩ := Kd.R_celln 0 HO_7.out (((rd_T31 y330 x19_1).f0) : Int) p17 q17; replace p17 := eq_true p17; replace q17 := eq_true q17; obtain ⟨hy24_, hz24_⟩ := Kd.R_celln 0 HO_7.out (((rd_T31 y330 x19_1).f0) : Int) (of_decide_eq_true z7_4) (of_decide_eq_true z7_4); have HP24 := Kd.R_putg HO_7.out (((rd_T31 y330 x19_1).f0) : Int) ((rd_T31 y330 x19_1).f1)) | ((with_reducible refine gate_store (t := 3) (p := 34) rfl ?_); refine store_event (t := 3) (p := 34) (v := ?vo_w25) (w1 := (w20.setCell ⟨go17, (((rd_T31 y330 x19_1).f0) : Int).toNat, none⟩ (.int .i64 ((rd_T31 y330 x19_1).f1)))) ?hg ?ho ?hn ?hr ?_; (case ho => rfl); (case hg => rfl); (case hn => rfl); (case hr => exact z7_17); intro w25 hw; have hg : w20.grownBy w25 (some go17) := (by rw [hw]; exact HP24.2); have hp_ : Kd.R (Kd.int .i64) 3 w25 w.heap.size (fun _ => True) (.slice (some ⟨go17, 0, none⟩) x7_1.length co22) y337 := (by rw [hw, Ny337.out]; exact HP24.1); clear HP24; have n0_ := Aside0.mk (hp_); have n1_ := Aside0.mk (blk_grown (g := gb335) (o := .cells #[.int .i64 ((rd_T31 y330 x19_1).f0), .int .i64 ((rd_T31 y330 x19_1).f1)] 31 (0, 0)) (by (with_reducible repeat (first | refine blk_drewN ?_ _ | refine blk_drew ?_ | refine blk_alloc ?_ _)); exact BK335.out) hg (Kd.R_ne HO_7.out BK335.out (by decide))); have n2_ := Aside0.mk ((by rw [hw]; exact below_set (HB.out) GB17.out : Below w.heap.size w w25)); clear HO_7; clear BK335; clear HB; have HO_7 := n0_; have BK335 := n1_; have HB := n2_; clear n0_ n1_ n2_; clear hg hw hp_))
                      go_roundg k1
                      case measure => have := HK1.out; omega
                      case rel => exact ⟨(y337), (wrap64 (x19_1 + 1)), z7_15, H', ⟨by have := HK1.out; omega⟩, ⟨by (with_reducible repeat (first | apply Kd.R_alloc | apply Kd.R_drewN | apply Kd.R_drew)); exact HO_7.out⟩, ⟨by repeat (first | (with_reducible first | exact HB.out | apply below_alloc | apply pw_below_drewN | apply below_drew1 | refine below_set ?_ GE335.out) | exact HB.out)⟩⟩
                    · rw [if_neg c16] at H
                      exact absurd H (by simp)
                  · rw [if_neg c15] at H
                    exact absurd H (by simp)
                · replace c14 := Bool.eq_false_iff.mpr c14
                  subst c14
                  have H1 : (impl_ApplyWrites.l0 k1 x7_1 y330 (y330.length : Int) (wrap64 (x19_1 + 1))) = some r := by rw [if_neg (show ¬ (false = true) by decide)] at H; exact H
                  clear H
                  have H := H1
                  clear H1
                  have H' := Aside0.mk H
                  clear H
                  have p334 : 0 ≤ (x19_1 : Int) := of_decide_eq_true z7_4
                  have q334 : x19_1 < (y330.length : Int) := of_decide_eq_true z7_4
                  obtain ⟨ad334, e334, hx334_0, hx334_1⟩ := at_T31 HR333.out x19_1 p334 q334
                  cases e334
                  replace hx334_0 := (HB.out.cell (World.block_lt_of_cell? w _ hx334_0)).trans hx334_0
                  replace hx334_1 := (HB.out.cell (World.block_lt_of_cell? w _ hx334_1)).trans hx334_1
                  replace p334 := eq_true p334
                  replace q334 := eq_true q334
                  go_wp2_with (first | ((with_reducible refine gate_dst (N := 9) rfl ?_); refine box_event ?hg (N := 9) ?hd (cs := #[.int .i64 0, .int .i64 0]) (t := 31) ?hr ?_; (case hd => rfl); (case hg => rfl); (case hr => exact z7_17); intro gb335 hg w26 hbox hb; have n0_ := Aside0.mk (Kd.R_below (by (with_reducible repeat (first | apply Kd.R_alloc | apply Kd.R_drewN | apply Kd.R_drew)); exact HO_7.out) hb); have n1_ := Aside0.mk (below_step z7_0 hb); have n2_ := Aside0.mk (hbox); have n3_ := Aside0.mk ((z7_23 : w.heap.size ≤ gb335)); have n4_ := Aside0.mk ((z7_23 : w.heap.size ≤ gb335)); clear HO_7; clear HB; have HO_7 := n0_; have HB := n1_; have BK335 := n2_; have GW335 := n3_; have GE335 := n4_; clear n0_ n1_ n2_ n3_ n4_; clear hb hbox hg; have hcz27_0 : w26.cell? ⟨gb335, 0, none⟩ = some (.int .i64 0) := (blk_cell BK335.out 0).trans rfl; have hcz27_1 : w26.cell? ⟨gb335, 1, none⟩ = some (.int .i64 0) := (blk_cell BK335.out 1).trans rfl; have hfz27_0 := blk_frozen BK335.out 0; have hfz27_1 := blk_frozen BK335.out 1; obtain ⟨Ao28, co28, eo28⟩ := Kd.R_slice HO_7.out; subst eo28) | ((first | ((with_reducible refine gate_callee (f := 28) rfl ?_); refine goesL_ (some 28) rfl rfl Try.func28 (by kernel_rfl) rfl #[.int .i64 ((rd_T31 y330 x19_1).f0), .int .i64 0, .int .i64 (wrap64 ((x7_1.length : Int) - 1))] rfl z7_10 ?_; (with_reducible refine (impl_within.calls ((rd_T31 y330 x19_1).f0) 0 (wrap64 ((x7_1.length : Int) - 1)) false _ A13.out).mono ?_)) | (go_at_call 28; (with_reducible refine (impl_within.calls ((rd_T31 y330 x19_1).f0) 0 (wrap64 ((x7_1.length : Int) - 1)) false _ A13.out).mono ?_))); rintro e w' ⟨rfl, ⟨nd, rfl⟩⟩; (first | refine ⟨_, rfl, ?_⟩ | skip)))
                  go_roundg k1
                  case measure => have := HK1.out; omega
                  case rel => exact ⟨(x7_1), (wrap64 (x19_1 + 1)), z7_15, H', ⟨by have := HK1.out; omega⟩, ⟨by (with_reducible repeat (first | apply Kd.R_alloc | apply Kd.R_drewN | apply Kd.R_drew)); exact Kd.R_mono (Kd.R_far (p := ⟨gb335, 1, none⟩) (Kd.R_far (p := ⟨gb335, 0, none⟩) (Kd.R_types HO_7.out BK335.out (by decide)) (fun _ hk => hk.2) (.int .i64 ((rd_T31 y330 x19_1).f0))) (fun _ hk => hk.2) (.int .i64 ((rd_T31 y330 x19_1).f1))) (fun _ hk => trivial)⟩, ⟨by repeat (first | (with_reducible first | exact HB.out | apply below_alloc | apply pw_below_drewN | apply below_drew1 | refine below_set ?_ GE335.out) | exact HB.out)⟩⟩
              · rw [if_neg c12] at H
                exact absurd H (by simp)
            · rw [if_neg c11] at H
              exact absurd H (by simp)
          · rw [if_neg c10] at H
            have c10b0 : decide (x19_1 < (y330.length : Int)) = false := decide_eq_false c10
            clear c10
            obtain rfl := Option.some.inj H
            go_wp2
            go_ret
            exact ⟨_, by first | rfl | (simp [errW_none, errW_some] <;> rfl) | (simp [*, errW_none, errW_some] <;> rfl) | (simp [*, errW_none, errW_some, i64_w]; done), by (with_reducible repeat (first | apply Kd.R_alloc | apply Kd.R_drewN | apply Kd.R_drew)); exact HO_7.out, by repeat (first | (with_reducible first | exact HB.out | apply below_alloc | apply pw_below_drewN | apply below_drew1) | exact HB.out)⟩
    · rw [if_neg c7] at H
      exact absurd H (by simp)
  · rw [if_neg c6] at H
    exact absurd H (by simp)

/-! ### laws_sameInts: function 22 -/
def laws_sameInts.l0 : Nat → List Int → List Int → Int → Option (Bool)
  | 0, _, _, _ => none
  | k + 1, x0, x1, x5 => if x5 < (x0.length : Int) then (if 0 ≤ x5 then (if x5 < (x1.length : Int) then (if (rd x0 x5) = (rd x1 x5) then (laws_sameInts.l0 k x0 x1 (wrap64 (x5 + 1))) else (some false)) else (none)) else (none)) else (some true)
def laws_sameInts.f (k : Nat) (l0 : List Int) (l1 : List Int) : Option (Bool) := if (l0.length : Int) = (l1.length : Int) then (laws_sameInts.l0 k l0 l1 0) else (some false)
theorem laws_sameInts.mono_l : ∀ k, (∀ y0 y1 y2, LeO (laws_sameInts.l0 k y0 y1 y2) (laws_sameInts.l0 (k + 1) y0 y1 y2))
  | 0 => fun _ _ _ r h => by simp [laws_sameInts.l0] at h
  | k + 1 => by
    have ih0 := laws_sameInts.mono_l k
    · intro y0 y1 y2
      unfold laws_sameInts.l0
      repeat' first
      | (with_reducible exact ih0 _ _ _)
      | (with_reducible exact LeO.refl _)
      | (with_reducible exact LeO.none _)
      | (with_reducible refine LeO.ite ?_ ?_)
      | (with_reducible refine LeO.bind ?_ (fun _ => ?_))
      | exact ih0 _ _ _
      | exact LeO.none _
      | refine LeO.ite ?_ ?_
      | refine LeO.bind ?_ (fun _ => ?_)
theorem laws_sameInts.mono : ∀ a0 a1 k, LeO (laws_sameInts.f k a0 a1) (laws_sameInts.f (k + 1) a0 a1) := by
  intro a0 a1 k
  have ih0 := laws_sameInts.mono_l k
  unfold laws_sameInts.f
  repeat' first
      | (with_reducible exact ih0 _ _ _)
      | (with_reducible exact LeO.refl _)
      | (with_reducible exact LeO.none _)
      | (with_reducible refine LeO.ite ?_ ?_)
      | (with_reducible refine LeO.bind ?_ (fun _ => ?_))
      | exact ih0 _ _ _
      | exact LeO.none _
      | refine LeO.ite ?_ ?_
      | refine LeO.bind ?_ (fun _ => ?_)
set_option maxHeartbeats 8000000 in
set_option maxRecDepth 100000 in
theorem laws_sameInts.calls (k : Nat) (A0 : Option Addr) (c0 : Nat) (l0 : List Int) (A1 : Option Addr) (c1 : Nat) (l1 : List Int) (r : Bool) (w : World) (hr0 : Kd.C (Kd.int .i64) w A0 l0.length l0) (hc0 : l0.length ≤ c0) (hr1 : Kd.C (Kd.int .i64) w A1 l1.length l1) (hc1 : l1.length ≤ c1) (h : laws_sameInts.f k l0 l1 = some r) :
    Calls Try.prog 22 #[.slice A0 l0.length c0, .slice A1 l1.length c1] w fun e w' => e = .returned (.bool r) ∧ Drawn0 w w' := by
  have HR0 := Aside0.mk hr0
  have HC0 := Aside0.mk hc0
  clear hr0 hc0
  have HR1 := Aside0.mk hr1
  have HC1 := Aside0.mk hc1
  clear hr1 hc1
  have H : (if (l0.length : Int) = (l1.length : Int) then (laws_sameInts.l0 k l0 l1 0) else (some false)) = some r := h
  clear h
  by_cases c3 : (l0.length : Int) = (l1.length : Int)
  · rw [if_pos c3] at H
    have c3b0 : ((l0.length : Int) == (l1.length : Int)) = true := beq_iff_eq.mpr c3
    have c3b1 : ((l0.length : Int) != (l1.length : Int)) = false := bne_eq_false_iff_eq.mpr c3
    have c3b2 : (l0.length == l1.length) = true := by first | simpa using c3 | (simp at c3 ⊢; omega)
    clear c3
    have H' := Aside0.mk H
    clear H
    go_enter Try.func22, Try.ntmps22
    go_wp2
    repeat (go_quiet (fail); try go_wp2)
    go_loopg [5] k (fun kq v5 w' => ∃ (x5_1 : Int), v5 = .int .i64 x5_1 ∧ Aside0 (laws_sameInts.l0 kq l0 l1 x5_1 = some r) ∧ Aside0 (kq ≤ k) ∧ Drawn0 w w')
    case atStart => exact ⟨(0), z7_15, H', ⟨Nat.le_refl _⟩, by repeat (first | exact Drawn0.refl _ | apply Drawn0.step)⟩
    case round =>
      clear H'
      (try clear c1); (try clear c3); (try clear c3b0); (try clear c3b1); (try clear c3b2)
      obtain ⟨x5_1, rfl, HA, HK1, ⟨m1, rfl⟩⟩ := hrel
      cases gk with
      | zero => exact absurd HA.out (by simp [laws_sameInts.l0])
      | succ k1 =>
        have H := HA.out
        clear HA
        simp only [laws_sameInts.l0] at H
        by_cases c4 : x5_1 < (l0.length : Int)
        · rw [if_pos c4] at H
          have c4b0 : decide (x5_1 < (l0.length : Int)) = true := decide_eq_true c4
          clear c4
          by_cases c5 : 0 ≤ x5_1
          · rw [if_pos c5] at H
            have c5b0 : decide (0 ≤ x5_1) = true := decide_eq_true c5
            clear c5
            by_cases c6 : x5_1 < (l1.length : Int)
            · rw [if_pos c6] at H
              have c6b0 : decide (x5_1 < (l1.length : Int)) = true := decide_eq_true c6
              clear c6
              by_cases c7 : (rd l0 x5_1) = (rd l1 x5_1)
              · rw [if_pos c7] at H
                have c7b0 : ((rd l0 x5_1) == (rd l1 x5_1)) = true := beq_iff_eq.mpr c7
                have c7b1 : ((rd l0 x5_1) != (rd l1 x5_1)) = false := bne_eq_false_iff_eq.mpr c7
                clear c7
                have H' := Aside0.mk H
                clear H
                have p338 : 0 ≤ (x5_1 : Int) := of_decide_eq_true z7_4
                have q338 : x5_1 < (l0.length : Int) := of_decide_eq_true z7_4
                obtain ⟨ad338, e338, hx338_0⟩ := Kd.at_int HR0.out x5_1 p338 q338
                cases e338
                replace p338 := eq_true p338
                replace q338 := eq_true q338
                have p339 : 0 ≤ (x5_1 : Int) := of_decide_eq_true z7_4
                have q339 : x5_1 < (l1.length : Int) := of_decide_eq_true z7_4
                obtain ⟨ad339, e339, hx339_0⟩ := Kd.at_int HR1.out x5_1 p339 q339
                cases e339
                replace p339 := eq_true p339
                replace q339 := eq_true q339
                go_wp2
                repeat (go_quiet (fail); try go_wp2)
                go_roundg k1
                case measure => have := HK1.out; omega
                case rel => exact ⟨(wrap64 (x5_1 + 1)), z7_15, H', ⟨by have := HK1.out; omega⟩, by repeat (first | exact Drawn0.refl _ | apply Drawn0.step)⟩
              · rw [if_neg c7] at H
                have c7b0 : ((rd l0 x5_1) == (rd l1 x5_1)) = false := beq_eq_false_iff_ne.mpr c7
                have c7b1 : ((rd l0 x5_1) != (rd l1 x5_1)) = true := bne_iff_ne.mpr c7
                obtain rfl := Option.some.inj H
                have p338 : 0 ≤ (x5_1 : Int) := of_decide_eq_true z7_4
                have q338 : x5_1 < (l0.length : Int) := of_decide_eq_true z7_4
                obtain ⟨ad338, e338, hx338_0⟩ := Kd.at_int HR0.out x5_1 p338 q338
                cases e338
                replace p338 := eq_true p338
                replace q338 := eq_true q338
                have p339 : 0 ≤ (x5_1 : Int) := of_decide_eq_true z7_4
                have q339 : x5_1 < (l1.length : Int) := of_decide_eq_true z7_4
                obtain ⟨ad339, e339, hx339_0⟩ := Kd.at_int HR1.out x5_1 p339 q339
                cases e339
                replace p339 := eq_true p339
                replace q339 := eq_true q339
                go_wp2
                repeat (go_quiet (fail); try go_wp2)
                go_ret
                exact ⟨by first | rfl | (simp; done) | (simp [*]; done), by repeat (first | exact Drawn0.refl _ | apply Drawn0.step)⟩
            · rw [if_neg c6] at H
              exact absurd H (by simp)
          · rw [if_neg c5] at H
            exact absurd H (by simp)
        · rw [if_neg c4] at H
          have c4b0 : decide (x5_1 < (l0.length : Int)) = false := decide_eq_false c4
          clear c4
          obtain rfl := Option.some.inj H
          go_wp2
          repeat (go_quiet (fail); try go_wp2)
          go_ret
          exact ⟨by first | rfl | (simp; done) | (simp [*]; done), by repeat (first | exact Drawn0.refl _ | apply Drawn0.step)⟩
  · rw [if_neg c3] at H
    have c3b0 : ((l0.length : Int) == (l1.length : Int)) = false := beq_eq_false_iff_ne.mpr c3
    have c3b1 : ((l0.length : Int) != (l1.length : Int)) = true := bne_iff_ne.mpr c3
    have c3b2 : (l0.length == l1.length) = false := by first | simpa using c3 | (simp at c3 ⊢; omega)
    obtain rfl := Option.some.inj H
    go_enter Try.func22, Try.ntmps22
    go_wp2
    repeat (go_quiet (fail); try go_wp2)
    go_ret
    exact ⟨by first | rfl | (simp; done) | (simp [*]; done), by repeat (first | exact Drawn0.refl _ | apply Drawn0.step)⟩

end Go.Proofs.Ytidciciagoecjaa.G
