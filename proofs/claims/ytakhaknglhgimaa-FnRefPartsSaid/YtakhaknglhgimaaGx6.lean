/- Functions of the program as plain Lean functions, and that each call comes to its function's answer; written by a program of the session. No condition. -/
import Derived.Test.YtakhaknglhgimaaGx0
import Derived.Test.YtakhaknglhgimaaGx2
import Derived.Test.YtakhaknglhgimaaGx4
import Derived.Test.YtakhaknglhgimaaGx5
namespace Go.Proofs.Ytakhaknglhgimaa.G
open Go.RowKit Go.Proofs.YtakhaknglhgimaaW.PrintWords Go.Proofs.YtakhaknglhgimaaW.PrintLast Go.Proofs.YtakhaknglhgimaaW.PrintMore
attribute [local go_sem] max2_int min2_int max_two min_two max_three min_three max_four min_four   -- for this text's walks alone
set_option linter.unusedVariables false
set_option linter.unusedSimpArgs false

theorem z6_0 {P : Prop} (h : P := by repeat (first | (with_reducible first | exact HB.out | apply below_alloc | apply pw_below_drewN | apply below_drew1) | exact HB.out)) : P := h
theorem z6_1 {P : Prop} (h : P := by repeat (first | (with_reducible first | exact HB.out | apply below_alloc | apply pw_below_drewN | apply below_drew1 | refine below_set ?_ GE420.out) | exact HB.out)) : P := h
theorem z6_2 {P : Prop} (h : P := by repeat (first | (with_reducible first | exact HB.out | apply below_alloc | apply pw_below_drewN | apply below_drew1 | refine below_set ?_ GE391.out | refine below_set ?_ GE392.out) | exact HB.out)) : P := h
theorem z6_3 {P : Prop} (h : P := by (with_reducible repeat (first | refine blk_drewN ?_ _ | refine blk_drew ?_ | refine blk_alloc ?_ _)); exact BK420.out) : P := h
theorem z6_4 {P : Prop} (h : P := by first | (go_simp; done) | (go_simp; rfl)) : P := h
theorem z6_5 {P : Prop} (h : P := by repeat (first | (with_reducible first | exact HB.out | apply below_alloc | apply pw_below_drewN | apply below_drew1 | refine below_set ?_ (IsS116.ge HI408.out)) | exact HB.out)) : P := h
theorem z6_6 {P : Prop} (h : P := by (with_reducible repeat (first | refine blk_drewN ?_ _ | refine blk_drew ?_ | refine blk_alloc ?_ _)); exact BK391.out) : P := h
theorem z6_7 {P : Prop} (h : P := by (try simp only [List.map_toArray, List.map_cons, List.map_nil]); first | done | rfl | (simp only [List.length_drop, List.length_take]; rfl)) : P := h
theorem z6_8 {P : Prop} (h : P := by repeat (first | (with_reducible first | exact HB.out | apply below_alloc | apply pw_below_drewN | apply below_drew1 | refine below_set ?_ GE420.out | refine below_set ?_ GE421.out) | exact HB.out)) : P := h
theorem z6_9 {P : Prop} (h : P := by repeat (first | exact (Kd.C_below HR0_0.out HB.out) | (with_reducible refine Kd.C_alloc ?_ _) | (with_reducible refine Kd.C_drewN ?_ _) | (with_reducible refine Kd.C_drew ?_))) : P := h
theorem z6_10 {P : Prop} (h : P := by (with_reducible repeat (first | refine blk_drewN ?_ _ | refine blk_drew ?_ | refine blk_alloc ?_ _)); exact BK392.out) : P := h
theorem z6_11 {P : Prop} (h : P := by repeat (first | (with_reducible first | exact HI408.out | apply IsS116.alloc | apply IsS116.drewN | apply IsS116.drew | apply IsS116.set_1 | apply IsS116.set_2) | exact HI408.out)) : P := h
theorem z6_12 {P : Prop} (h : P := by repeat (first | exact (Kd.C_below HR1_0.out HB.out) | (with_reducible refine Kd.C_alloc ?_ _) | (with_reducible refine Kd.C_drewN ?_ _) | (with_reducible refine Kd.C_drew ?_))) : P := h
theorem z6_13 {P : Prop} (h : P := by repeat (first | (with_reducible first | exact HB.out | apply below_alloc | apply pw_below_drewN | apply below_drew1 | refine below_set ?_ GE391.out) | exact HB.out)) : P := h
theorem z6_14 {P : Prop} (h : P := by first | (with_reducible assumption) | assumption) : P := h
theorem z6_15 {P : Prop} (h : P := by rw [hg]; exact Nat.ne_of_lt (blk_lt (g := gb420) (o := .cells #[.slice A0_0 l0_0.length c0_0, .slice A0_1 l0_1.length c0_1, .int .i64 a0_2] 44 (0, 0)) z6_3)) : P := h
theorem z6_16 {P : Prop} (h : P := by rw [hg]; exact Nat.ne_of_gt (blk_lt (g := gb420) (o := .cells #[.slice A0_0 l0_0.length c0_0, .slice A0_1 l0_1.length c0_1, .int .i64 a0_2] 44 (0, 0)) z6_3)) : P := h
theorem z6_17 {P : Prop} (h : P := by rw [hg]; exact (below_size z6_0)) : P := h
/-! ### impl_refRun: function 67 -/
def rdR (xs : List (List Int)) (i : Int) : List Int := xs.getD i.toNat ([] : List Int)
/-- A row of rows: where one of them lies, and that it is there. -/
theorem at_R {e : Nat} {w : World} {A : Option Addr} {n : Nat} {xs : List (List Int)} (h : Kd.C (Kd.slice e (Kd.int .i64)) w A n xs) (i : Int) (h0 : 0 ≤ i) (h1 : i < n) : ∃ ad A0 c0, A = some ad ∧ w.cell? (ad.add i.toNat) = some (.slice A0 (rdR xs i).length c0) ∧ (rdR xs i).length ≤ c0 ∧ (Kd.int .i64).C w A0 (rdR xs i).length (rdR xs i) := by
  obtain ⟨ad, c, e, _, hK, hc0⟩ := Kd.C_get h ([] : List Int) i h0 h1
  have hc : ∀ j u, c[j]? = some u → w.cell? (ad.add (i.toNat * 1 + j)) = some u := hc0
  obtain ⟨A0, c0, rfl, l0, g0⟩ := hK
  exact ⟨ad, A0, c0, e, by have hq := hc 0 _ rfl; rwa [Nat.mul_one, Nat.add_zero] at hq, l0, g0⟩
/-- The closure's question. -/
def rowP (b : Bool) (x : List Int) : Prop := impl_areValues.f x = some b
set_option maxRecDepth 100000 in
theorem rowP_clo (A : Option Addr) (c : Nat) (x : List Int) (b : Bool) (w : World) (hr : Kd.C (Kd.int .i64) w A x.length x) (hc : x.length ≤ c) (hb : impl_areValues.f x = some b) : Calls Try.prog 109 #[.slice A x.length c] w fun e w' => e = .returned (.bool (!b)) ∧ Drawn0 w w' := by
  have HR := Aside0.mk hr
  have HC := Aside0.mk hc
  have Hb := Aside0.mk hb
  clear hr hc hb
  go_enter Try.func109, Try.ntmps109
  go_wp2_with (go_at_call 62; (with_reducible refine (impl_areValues.calls A c x b _ HR.out HC.out Hb.out).mono ?_); rintro e w' ⟨rfl, ⟨nd, rfl⟩⟩)
  go_ret
  exact ⟨rfl, by repeat (first | exact Drawn0.refl _ | apply Drawn0.step)⟩
/-- Whether each row consists of values. -/
def allRows : List (List Int) → Option Bool
  | [] => some true
  | x :: xs => (impl_areValues.f x).bind fun b => if b = true then allRows xs else some false
theorem allRows_at {l : List (List Int)} {b : Bool} (h : allRows l = some b) : ∀ x : Int, 0 ≤ x → x < (l.length : Int) → (∀ i : Int, 0 ≤ i → i < x → impl_areValues.f (rdR l i) = some true) → ∃ t, impl_areValues.f (rdR l x) = some t ∧ (t = false → b = false) := by
  induction l with
  | nil => intro x h0 h1; simp at h1; omega
  | cons y l ih =>
    intro x h0 h1 hp
    unfold allRows at h
    obtain ⟨t, e1, e2⟩ := Option.bind_eq_some_iff.mp h
    by_cases hx : x = 0
    · subst hx
      refine ⟨t, e1, fun ht => ?_⟩
      subst ht
      simpa using e2.symm
    · have e0 : impl_areValues.f y = some true := hp 0 (by omega) (by omega)
      rw [e1] at e0
      cases e0
      rw [if_pos rfl] at e2
      have e3 : rdR (y :: l) x = rdR l (x - 1) := by
        unfold rdR
        rw [show x.toNat = (x - 1).toNat + 1 by omega]
        rfl
      rw [e3]
      refine ih e2 (x - 1) (by omega) (by simp at h1; omega) (fun i h0 h1 => ?_)
      have := hp (i + 1) (by omega) (by omega)
      rwa [show rdR (y :: l) (i + 1) = rdR l i by unfold rdR; rw [show (i + 1).toNat = i.toNat + 1 by omega]; rfl] at this
theorem allRows_end {l : List (List Int)} {b : Bool} (h : allRows l = some b) (hp : ∀ i : Int, 0 ≤ i → i < (l.length : Int) → impl_areValues.f (rdR l i) = some true) : b = true := by
  induction l with
  | nil => exact (Option.some.inj h).symm
  | cons y l ih =>
    unfold allRows at h
    obtain ⟨t, e1, e2⟩ := Option.bind_eq_some_iff.mp h
    have e0 : impl_areValues.f y = some true := hp 0 (by omega) (by simp)
    rw [e1] at e0
    cases e0
    rw [if_pos rfl] at e2
    refine ih e2 (fun i h0 h1 => ?_)
    have := hp (i + 1) (by omega) (by simp; omega)
    rwa [show rdR (y :: l) (i + 1) = rdR l i by unfold rdR; rw [show (i + 1).toNat = i.toNat + 1 by omega]; rfl] at this
set_option maxHeartbeats 8000000 in
set_option maxRecDepth 100000 in
theorem rowP_index (A : Option Addr) (c : Nat) (l : List (List Int)) (b : Bool) (w : World) (hr : Kd.C (Kd.slice 3 (Kd.int .i64)) w A l.length l) (hb : allRows l = some b) :
    Calls Try.prog 141 #[.slice A l.length c, .func (.func 109) #[] #[]] w fun e w' => ∃ i : Int, e = .returned (.int .i64 i) ∧ decide (i ≥ 0) = !b ∧ Drawn0 w w' := by
  have HR := Aside0.mk hr
  have HB := Aside0.mk hb
  have hlen : l.length ≤ 9223372036854775807 := hr.2.1
  clear hr hb
  go_enter Try.func141, Try.ntmps141
  go_wp2
  go_loopw [8] (fun v8 w' => ∃ x : Int, v8 = .int .i64 x ∧ Aside0 (0 ≤ x) ∧ Aside0 (x ≤ (l.length : Int)) ∧ Aside0 (∀ i : Int, 0 ≤ i → i < x → impl_areValues.f (rdR l i) = some true) ∧ Drawn0 w w') (fun v8 _ => l.length - (intOf v8).toNat)
  case atStart => exact ⟨0, rfl, ⟨by omega⟩, ⟨by omega⟩, ⟨fun i h0 h1 => by omega⟩, Drawn0.refl _⟩
  case round =>
    obtain ⟨x, rfl, Hx0, Hx1, Hp, ⟨m, rfl⟩⟩ := hrel
    by_cases hlt : x < (l.length : Int)
    · have c1 : decide (x < (l.length : Int)) = true := decide_eq_true hlt
      have h0 := Hx0.out
      obtain ⟨ad, A0, c0, e, hx, hc0, hC⟩ := at_R HR.out x h0 hlt
      subst e
      obtain ⟨t, ht, hf⟩ := allRows_at HB.out x h0 hlt Hp.out
      have Ht := Aside0.mk ht
      have Hf := Aside0.mk hf
      have Hlt := Aside0.mk hlt
      have HC0 := Aside0.mk hc0
      have HCC := Aside0.mk hC
      clear ht hf hlt hc0 hC
      have p1 := eq_true h0
      have q1 := eq_true Hlt.out
      have hsum : wrap64 (x + 1) = x + 1 := by have := Hlt.out; unfold wrap64; omega
      have Hs := Aside0.mk hsum
      clear hsum h0
      cases t with
      | true =>
        go_wp2_with (go_at_call 109; (with_reducible refine (rowP_clo A0 c0 (rdR l x) true _ ?_ HC0.out Ht.out).mono ?_); (repeat (first | exact HCC.out | (with_reducible refine Kd.C_drewN ?_ _) | (with_reducible refine Kd.C_drew ?_))); rintro e w' ⟨rfl, ⟨nd, rfl⟩⟩)
        go_roundw
        case rel => exact ⟨x + 1, by rw [Hs.out], ⟨by have := Hx0.out; omega⟩, ⟨by have := Hlt.out; omega⟩, ⟨fun i h0 h1 => by
          by_cases e : i = x
          · rw [e]; exact Ht.out
          · exact Hp.out i h0 (by omega)⟩, by repeat (first | exact Drawn0.refl _ | apply Drawn0.step)⟩
        case measure =>
          have := Hlt.out
          have := Hx0.out
          rw [Hs.out]
          simp [intOf]
          omega
      | false =>
        go_wp2_with (go_at_call 109; (with_reducible refine (rowP_clo A0 c0 (rdR l x) false _ ?_ HC0.out Ht.out).mono ?_); (repeat (first | exact HCC.out | (with_reducible refine Kd.C_drewN ?_ _) | (with_reducible refine Kd.C_drew ?_))); rintro e w' ⟨rfl, ⟨nd, rfl⟩⟩)
        go_ret
        exact ⟨x, rfl, by rw [Hf.out (by simp)]; simpa using Hx0.out, by repeat (first | exact Drawn0.refl _ | apply Drawn0.step)⟩
    · have c1 : decide (x < (l.length : Int)) = false := decide_eq_false hlt
      have hx : x = (l.length : Int) := by have := Hx1.out; omega
      have Hx := Aside0.mk hx
      clear hx hlt
      go_wp2
      go_ret
      exact ⟨-1, rfl, by rw [allRows_end HB.out (fun i h0 h1 => Hp.out i h0 (by have := Hx.out; omega))]; rfl, by repeat (first | exact Drawn0.refl _ | apply Drawn0.step)⟩
set_option maxRecDepth 100000 in
theorem rowP_contains (A : Option Addr) (c : Nat) (l : List (List Int)) (b : Bool) (hb : allRows l = some b) (w : World) (hr : Kd.C (Kd.slice 3 (Kd.int .i64)) w A l.length l) :
    Calls Try.prog 108 #[.slice A l.length c, .func (.func 109) #[] #[]] w fun e w' => e = .returned (.bool (!b)) ∧ Drawn0 w w' := by
  have HR := Aside0.mk hr
  have Hb := Aside0.mk hb
  clear hr hb
  go_enter Try.func108, Try.ntmps108
  go_wp2_with fail
  refine (rowP_index A c l b _ HR.out Hb.out).mono ?_
  rintro e w' ⟨i, rfl, hi, ⟨nd, rfl⟩⟩
  have Hi := Aside0.mk hi
  clear hi
  go_wp2
  go_ret
  exact ⟨by first | rfl | (rw [Hi.out]; done) | (simp [Hi.out]; done) | (have e := Hi.out; simp at e ⊢; exact e), by repeat (first | exact Drawn0.refl _ | apply Drawn0.step)⟩
/-- The rounds of refRun: the variables, what was sent, the task, the tasks so far. -/
def refLoop (k : Nat) (l0 : List S34) : List (List Int) → List Int → List Int → Int → List Int → Option (List Int × List Int × Int × List Int)
  | [], v, s, t, ts => some (v, s, t, ts)
  | x :: xs, v, s, t, ts => (impl_TaskEffect.f k l0 t v x).bind fun e => if s.length + e.2.1.length < 17592186044416 ∧ ts.length < 17592186044415 then refLoop k l0 xs e.1 (s ++ e.2.1) e.2.2.1 (ts ++ [t]) else none
theorem refLoop_mono (k : Nat) (l0 : List S34) : ∀ (l : List (List Int)) (v s : List Int) (t : Int) (ts : List Int), LeO (refLoop k l0 l v s t ts) (refLoop (k + 1) l0 l v s t ts)
  | [], _, _, _, _ => LeO.refl _
  | x :: xs, v, s, t, ts => LeO.bind (impl_TaskEffect.mono _ _ _ _ k) (fun e => LeO.ite (refLoop_mono k l0 xs _ _ _ _) (LeO.refl _))
def impl_refRun.f (k : Nat) (l0_0 : List S34) (a1 : Int) (l2 : List Int) (l3 : List (List Int)) : Option (List Int × List Int × Int × List Int × Bool) :=
  (impl_hasTask.f k l0_0 a1).bind fun t => if t = true then (impl_VarsOk.f l2).bind fun t => if t = true then if l3.length ≤ 100 then (allRows l3).bind fun t => if t = true then
    (slices_Clone_int_int.f l2).bind fun v => (refLoop k l0_0 l3 v [] a1 []).bind fun st => (slices_Clone_int_int.f (st.2.1.take (min 24 st.2.1.length))).bind fun s => some (st.1, s, st.2.2.1, st.2.2.2, true)
    else some ([], [], 0, [], false) else some ([], [], 0, [], false) else some ([], [], 0, [], false) else some ([], [], 0, [], false)
theorem impl_refRun.mono : ∀ a0 a1 a2 a3 k, LeO (impl_refRun.f k a0 a1 a2 a3) (impl_refRun.f (k + 1) a0 a1 a2 a3) := by
  intro a0 a1 a2 a3 k
  unfold impl_refRun.f
  exact LeO.bind (impl_hasTask.mono _ _ k) (fun _ => LeO.ite (LeO.bind (LeO.refl _) (fun _ => LeO.ite (LeO.ite (LeO.bind (LeO.refl _) (fun _ => LeO.ite (LeO.bind (LeO.refl _) (fun _ => LeO.bind (refLoop_mono k _ _ _ _ _ _) (fun _ => LeO.refl _))) (LeO.refl _))) (LeO.refl _)) (LeO.refl _))) (LeO.refl _))
set_option maxHeartbeats 8000000 in
set_option maxRecDepth 100000 in
theorem impl_refRun.no (k : Nat) (A0_0 : Option Addr) (c0_0 : Nat) (l0_0 : List S34) (a1 : Int) (A2 : Option Addr) (c2 : Nat) (l2 : List Int) (A3 : Option Addr) (c3 : Nat) (l3 : List (List Int)) (b1 b2 b3 b4 : Bool) (w : World)
    (hr0_0 : Kd.C k34 w A0_0 l0_0.length l0_0) (hc0_0 : l0_0.length ≤ c0_0) (hr2 : Kd.C (Kd.int .i64) w A2 l2.length l2) (hc2 : l2.length ≤ c2) (hr3 : Kd.C (Kd.slice 3 (Kd.int .i64)) w A3 l3.length l3) (hc3 : l3.length ≤ c3)
    (h1 : impl_hasTask.f k l0_0 a1 = some b1) (h2 : b1 = true → impl_VarsOk.f l2 = some b2) (h3 : decide ((l3.length : Int) ≤ 100) = b3) (h4 : b1 = true → b2 = true → b3 = true → allRows l3 = some b4) (hn : (b1 && b2 && b3 && b4) = false) :
    Calls Try.prog 67 #[.agg #[.slice A0_0 l0_0.length c0_0], .int .i64 a1, .slice A2 l2.length c2, .slice A3 l3.length c3] w fun e w' => e = .returned (.tuple #[.agg #[.slice none 0 0, .slice none 0 0, .int .i64 0], .slice none 0 0, .bool false]) ∧ Below w.heap.size w w' := by
  have HR0 := Aside0.mk hr0_0
  have HC0 := Aside0.mk hc0_0
  have HR2 := Aside0.mk hr2
  have HC2 := Aside0.mk hc2
  have HR3 := Aside0.mk hr3
  have HC3 := Aside0.mk hc3
  have T1 := Aside0.mk h1
  have T2 := Aside0.mk h2
  have T4 := Aside0.mk h4
  have d1 : decide ((l3.length : Int) > 100) = !b3 := by rw [← h3, ← decide_not]; congr 1; exact propext (by omega)
  have d2 : decide (100 < (l3.length : Int)) = !b3 := d1
  have d3 : decide (100 < l3.length) = !b3 := by rw [← d1]; congr 1; exact propext (by omega)
  clear hr0_0 hc0_0 hr2 hc2 hr3 hc3 h1 h2 h3 h4
  cases b1 <;> cases b2 <;> cases b3 <;> cases b4 <;> first | exact absurd hn (by decide) | skip
  all_goals
    clear hn
    simp only [Bool.not_true, Bool.not_false] at d1 d2 d3
    go_enter Try.func67, Try.ntmps67
    go_wp2_with (first | ((with_reducible refine gate_dst (N := 4) rfl ?_); refine box_event ?hg (N := 4) ?hd (cs := #[.slice A0_0 l0_0.length c0_0]) (t := 26) ?hr ?_; (case hd => rfl); (case hg => rfl); (case hr => exact z6_4); intro gp hgp w1 hp hb1; have HB1 := Aside0.mk hb1; have BP1 := Aside0.mk hp; clear hgp hp hb1) | ((with_reducible refine gate_dst (N := 8) rfl ?_); refine box_event ?hg (N := 8) ?hd (cs := #[.slice none 0 0, .slice none 0 0, .int .i64 0]) (t := 44) ?hr ?_; (case hd => rfl); (case hg => rfl); (case hr => exact z6_4); intro gr hgr w2 hr hb2; have HB2 := Aside0.mk (below_step HB1.out hb2); have BP2 := Aside0.mk (blk_below BP1.out hb2); have BR2 := Aside0.mk hr; have GR : Aside0 (w.heap.size ≤ gr) := ⟨by rw [hgr]; exact HB1.out.size⟩; clear hgr hr hb2; have hP2 : w2.cell? ⟨gp, 0, none⟩ = some (.slice A0_0 l0_0.length c0_0) := (blk_cell BP2.out 0).trans rfl) | (go_at_call 60; (with_reducible refine (impl_hasTask.calls k _ _ l0_0 a1 _ _ ?_ HC0.out T1.out).mono ?_); (exact Kd.C_below HR0.out HB2.out); rintro e w3 ⟨rfl, hb3⟩; have HB3 := Aside0.mk (below_step HB2.out hb3); have BP3 := Aside0.mk (blk_below BP2.out hb3); have BR3 := Aside0.mk (blk_below BR2.out hb3); clear hb3; obtain ⟨⟨_, _, _⟩, ⟨_, _, _⟩⟩ := Sep.blk3 BR3.out) | (go_at_call 61; (with_reducible refine (impl_VarsOk.calls _ _ l2 _ _ ?_ HC2.out (T2.out (by simp))).mono ?_); (exact Kd.C_below HR2.out HB3.out); rintro e w' ⟨rfl, ⟨nd, rfl⟩⟩) | (go_at_call 108; (with_reducible refine (rowP_contains _ _ l3 _ (T4.out (by simp) (by simp) (by simp)) _ ?_).mono ?_); (exact Kd.C_below HR3.out (by repeat (first | exact HB3.out | apply pw_below_drewN | apply below_drew1))); rintro e w' ⟨rfl, ⟨nd2, rfl⟩⟩) | fail)
    refine bodyPost_ret (results_ctt rfl _ _ gr 44 #[.slice none 0 0, .slice none 0 0, .int .i64 0] (0, 0) _ rfl ?_ Try.underlying44 rfl (by kernel_rfl)) rfl ?_
    · exact Sep.put3_blk (u0 := .slice none 0 0) (u1 := .slice none 0 0) (u2 := .int .i64 0) BR3.out (.slice none 0 0) (.slice none 0 0) (.int .i64 0)
    · refine ⟨rfl, ?_⟩
      refine Sep.put3_below ?_ GR.out (.slice none 0 0) (.slice none 0 0) (.int .i64 0)
      repeat (first | exact HB3.out | apply pw_below_drewN | apply below_drew1)
/-- Where refRun keeps what it has so far. -/
def refP (w0 : World) (go : Nat) (v s : List Int) (t : Int) (ts : List Int) (tv : Value) (w : World) : Prop := ∃ v0 v1 : Value, w.heap[go]? = some (.cells #[v0, v1, .int .i64 t] 44 (0, 0)) ∧ Sep.rowI 3 w v0 v ∧ Sep.rowI 3 w v1 s ∧ Sep.rowI 3 w tv ts ∧
  ((∀ k, v0.ownBlock = some k → v1.ownBlock ≠ some k ∧ tv.ownBlock ≠ some k) ∧ (∀ k, v1.ownBlock = some k → tv.ownBlock ≠ some k) ∧ w0.heap.size ≤ go ∧ (∀ k, v0.ownBlock = some k → w0.heap.size ≤ k) ∧ (∀ k, v1.ownBlock = some k → w0.heap.size ≤ k) ∧ ∀ k, tv.ownBlock = some k → w0.heap.size ≤ k)
theorem drop_rdR {l : List (List Int)} {x : Int} (h0 : 0 ≤ x) (h1 : x < (l.length : Int)) : l.drop x.toNat = rdR l x :: l.drop (x + 1).toNat := by
  rw [List.drop_eq_getElem_cons (by omega : x.toNat < l.length), show (x + 1).toNat = x.toNat + 1 by omega]
  unfold rdR
  rw [List.getD_eq_getElem?_getD, List.getElem?_eq_getElem (by omega : x.toNat < l.length)]
  rfl
set_option maxHeartbeats 8000000 in
set_option maxRecDepth 100000 in
theorem impl_refRun.yes (k : Nat) (A0_0 : Option Addr) (c0_0 : Nat) (l0_0 : List S34) (a1 : Int) (A2 : Option Addr) (c2 : Nat) (l2 : List Int) (A3 : Option Addr) (c3 : Nat) (l3 : List (List Int)) (v : List Int) (sv ss : List Int) (st : Int) (sts : List Int) (s' : List Int) (w : World)
    (hr0_0 : Kd.C k34 w A0_0 l0_0.length l0_0) (hc0_0 : l0_0.length ≤ c0_0) (hr2 : Kd.C (Kd.int .i64) w A2 l2.length l2) (hc2 : l2.length ≤ c2) (hr3 : Kd.C (Kd.slice 3 (Kd.int .i64)) w A3 l3.length l3) (hc3 : l3.length ≤ c3)
    (h1 : impl_hasTask.f k l0_0 a1 = some true) (h2 : impl_VarsOk.f l2 = some true) (h3 : l3.length ≤ 100) (h4 : allRows l3 = some true) (h5 : slices_Clone_int_int.f l2 = some v) (h6 : refLoop k l0_0 l3 v [] a1 [] = some (sv, ss, st, sts)) (h7 : slices_Clone_int_int.f (ss.take (min 24 ss.length)) = some s') :
    Calls Try.prog 67 #[.agg #[.slice A0_0 l0_0.length c0_0], .int .i64 a1, .slice A2 l2.length c2, .slice A3 l3.length c3] w fun e w' => ∃ v0_ v1_ v2_ : Value, e = .returned (.tuple #[.agg #[v0_, v1_, .int .i64 st], v2_, .bool true]) ∧
      Kd.R (Kd.int .i64) 3 w' w.heap.size (fun k_ => some k_ ≠ (v1_ : Value).ownBlock ∧ some k_ ≠ (v2_ : Value).ownBlock) v0_ sv ∧ Kd.R (Kd.int .i64) 3 w' w.heap.size (fun k_ => some k_ ≠ (v0_ : Value).ownBlock ∧ some k_ ≠ (v2_ : Value).ownBlock) v1_ s' ∧ Kd.R (Kd.int .i64) 3 w' w.heap.size (fun k_ => some k_ ≠ (v0_ : Value).ownBlock ∧ some k_ ≠ (v1_ : Value).ownBlock) v2_ sts ∧ Below w.heap.size w w' := by
  have HR0 := Aside0.mk hr0_0
  have HC0 := Aside0.mk hc0_0
  have HR2 := Aside0.mk hr2
  have HC2 := Aside0.mk hc2
  have HR3 := Aside0.mk hr3
  have HC3 := Aside0.mk hc3
  have T1 := Aside0.mk h1
  have T2 := Aside0.mk (fun _ : true = true => h2)
  have T4 := Aside0.mk (fun _ _ _ : true = true => h4)
  have TC := Aside0.mk h5
  have TL := Aside0.mk h6
  have TS := Aside0.mk h7
  have HL := Aside0.mk h3
  have d1 : decide ((l3.length : Int) > 100) = false := decide_eq_false (by omega)
  have d2 : decide (100 < (l3.length : Int)) = false := d1
  have d3 : decide (100 < l3.length) = false := decide_eq_false (by omega)
  clear hr0_0 hc0_0 hr2 hc2 hr3 hc3 h1 h2 h3 h4 h5 h6 h7
  go_enter Try.func67, Try.ntmps67
  go_wp2_with (first | ((with_reducible refine gate_dst (N := 4) rfl ?_); refine box_event ?hg (N := 4) ?hd (cs := #[.slice A0_0 l0_0.length c0_0]) (t := 26) ?hr ?_; (case hd => rfl); (case hg => rfl); (case hr => exact z6_4); intro gp hgp w1 hp hb1; have HB1 := Aside0.mk hb1; have BP1 := Aside0.mk hp; clear hgp hp hb1) | ((with_reducible refine gate_dst (N := 8) rfl ?_); refine box_event ?hg (N := 8) ?hd (cs := #[.slice none 0 0, .slice none 0 0, .int .i64 0]) (t := 44) ?hr ?_; (case hd => rfl); (case hg => rfl); (case hr => exact z6_4); intro gr hgr w2 hr hb2; have HB2 := Aside0.mk (below_step HB1.out hb2); have BP2 := Aside0.mk (blk_below BP1.out hb2); have BR2 := Aside0.mk hr; have GR : Aside0 (w.heap.size ≤ gr) := ⟨by rw [hgr]; exact HB1.out.size⟩; clear hgr hr hb2; have hP2 : w2.cell? ⟨gp, 0, none⟩ = some (.slice A0_0 l0_0.length c0_0) := (blk_cell BP2.out 0).trans rfl) | (go_at_call 60; (with_reducible refine (impl_hasTask.calls k _ _ l0_0 a1 _ _ ?_ HC0.out T1.out).mono ?_); (exact Kd.C_below HR0.out HB2.out); rintro e w3 ⟨rfl, hb3⟩; have HB3 := Aside0.mk (below_step HB2.out hb3); have BP3 := Aside0.mk (blk_below BP2.out hb3); have BR3 := Aside0.mk (blk_below BR2.out hb3); clear hb3; obtain ⟨⟨_, _, _⟩, ⟨_, _, _⟩⟩ := Sep.blk3 BR3.out) | (go_at_call 61; (with_reducible refine (impl_VarsOk.calls _ _ l2 _ _ ?_ HC2.out (T2.out (by simp))).mono ?_); (exact Kd.C_below HR2.out HB3.out); rintro e w' ⟨rfl, ⟨nd, rfl⟩⟩) | (go_at_call 108; (with_reducible refine (rowP_contains _ _ l3 _ (T4.out (by simp) (by simp) (by simp)) _ ?_).mono ?_); (exact Kd.C_below HR3.out (by repeat (first | exact HB3.out | apply pw_below_drewN | apply below_drew1))); rintro e w' ⟨rfl, ⟨nd2, rfl⟩⟩) | (go_at_call 104; (with_reducible refine (slices_Clone_int_int.calls _ _ l2 _ _ ?_ HC2.out TC.out).mono ?_); (exact Kd.C_below HR2.out (by repeat (first | exact HB3.out | apply pw_below_drewN | apply below_drew1))); rintro e w4 ⟨vv, rfl, hvv, hb4⟩; obtain ⟨Av, cv, ev, -, -⟩ := (Sep.rowI.of_R hvv).open_; subst ev; have RV4 := Aside0.mk (Sep.rowI.of_R hvv); have VB4 : Aside0 (∀ k, (Value.slice Av v.length cv).ownBlock = some k → w3.heap.size ≤ k) := ⟨fun k hk => Kd.R_base hvv k hk⟩; have HB4 : Aside0 (Below w3.heap.size w3 w4) := ⟨below_step (by repeat (first | exact Below.refl _ _ | apply pw_below_drewN | apply below_drew1)) hb4⟩; clear hvv hb4) | ((with_reducible refine gate_dst (N := 11) rfl ?_); refine box_event ?hg (N := 11) ?hd (cs := #[.slice none 0 0, .slice none 0 0, .int .i64 0]) (t := 44) ?hr ?_; (case hd => rfl); (case hg => rfl); (case hr => exact z6_4); intro go hgo w5 ho hb5; have HB5 : Aside0 (Below w4.heap.size w4 w5) := ⟨hb5⟩; have BO5 := Aside0.mk ho; have GO : Aside0 (w4.heap.size ≤ go) := ⟨Nat.le_of_eq hgo.symm⟩; clear hgo ho hb5; obtain ⟨⟨_, _, _⟩, ⟨_, _, _⟩⟩ := Sep.blk3 BO5.out) | ((with_reducible refine gate_store (t := 44) (p := 11) rfl ?_); refine store_event (t := 44) (p := 11) (v := ?vo1_) (w1 := Sep.put3 w5 go (.slice Av v.length cv) (.slice none 0 0) (.int .i64 a1)) ?hg ?ho ?hn ?hr ?_; (case ho => rfl); (case hg => rfl); (case hn => rfl); (case hr => exact z6_4); intro w6 hw; have W6 := Aside0.mk hw; clear hw) | ((with_reducible refine gate_dst (N := 40) rfl ?_); refine Kd.R_lit (Kd.int .i64) _ 3 ?hg (N := 40) ?hd (xs := ([] : List Int)) (inner := []) (ok := fun _ => True) (okp := fun _ => True) ?hr ?hp (fun _ hk => hk) trivial (Below.refl _ _) (Nat.le_refl _) (by simp) ?_; (case hd => rfl); (case hg => rfl); (case hr => exact z6_4); (case hp => exact (Reps.none _ _)); intro tv w7 ht7 hb7 hg7 hnew7; obtain ⟨At, ct, et, -, -⟩ := (Sep.rowI.of_R ht7).open_; subst et; have RT7 := Aside0.mk (Sep.rowI.of_R ht7); have TB7 : Aside0 (∀ k, (Value.slice At ([] : List Int).length ct).ownBlock = some k → w6.heap.size ≤ k) := ⟨fun k hk => Kd.R_base ht7 k hk⟩; have HB7 : Aside0 (Below w6.heap.size w6 w7) := ⟨hb7⟩; clear ht7 hb7 hg7 hnew7) | fail)
  clear d1 d2 d3
  have L34 : w3.heap.size ≤ w4.heap.size := HB4.out.size
  have L03 : w.heap.size ≤ w3.heap.size := HB3.out.size
  have B6 : Below w4.heap.size w4 w6 := by rw [W6.out]; exact Sep.put3_below HB5.out GO.out _ _ _
  have B7 : Below w4.heap.size w4 w7 := below_step B6 HB7.out
  have HB7' : Below w.heap.size w w7 := below_step HB3.out (below_step HB4.out B7)
  have BO7 : w7.heap[go]? = some (.cells #[.slice Av v.length cv, .slice none 0 0, .int .i64 a1] 44 (0, 0)) := by
    refine blk_below ?_ HB7.out
    rw [W6.out]
    exact Sep.put3_blk BO5.out _ _ _
  have START : Aside0 (refP w go v [] a1 [] (.slice At ([] : List Int).length ct) w7) := by
    have L46 := B6.size
    refine ⟨_, _, BO7, RV4.out.below B7, Sep.rowI.of_R (Kd.R_nil _ _ _ w.heap.size (fun _ => True)), RT7.out, ⟨fun k hk => ⟨by simp [Value.ownBlock], fun h => ?_⟩, fun k hk => by simp [Value.ownBlock] at hk, by have := GO.out; omega, fun k hk => by have := VB4.out k hk; omega, fun k hk => by simp [Value.ownBlock] at hk, fun k hk => by have := TB7.out k hk; omega⟩⟩
    have := TB7.out k h
    have := RV4.out.lt k hk
    omega
  have HS7 := Aside0.mk HB7'
  have BP7 := Aside0.mk (blk_below (blk_below BP3.out HB4.out) B7)
  have BR7 := Aside0.mk (blk_below (blk_below BR3.out HB4.out) B7)
  have GR' := Aside0.mk GR.out
  have NRO : Aside0 (gr ≠ go ∧ gp ≠ go) := ⟨by have := blk_lt (blk_below BR3.out HB4.out); have := blk_lt (blk_below BP3.out HB4.out); have := GO.out; omega⟩
  clear L34 L03 B6 B7 HB7' BO7 RT7 TB7 HB7 W6 BO5 HB5 RV4 VB4 HB4 BR3 BP3 HB3 BP2 BR2 HB2 BP1 HB1 GR
  go_loopw [12, 43] (fun v12 v43 w' => ∃ (x : Int) (v s : List Int) (t : Int) (ts : List Int), v43 = .int .i64 x ∧ Aside0 (0 ≤ x) ∧ Aside0 (x ≤ (l3.length : Int)) ∧ Aside0 (refLoop k l0_0 (l3.drop x.toNat) v s t ts = some (sv, ss, st, sts)) ∧ Aside0 (refP w go v s t ts v12 w') ∧ Aside0 (Below w.heap.size w w') ∧ Aside0 (w'.heap[gp]? = some (.cells #[.slice A0_0 l0_0.length c0_0] 26 (0, 0))) ∧ Aside0 (w'.heap[gr]? = some (.cells #[.slice none 0 0, .slice none 0 0, .int .i64 0] 44 (0, 0)))) (fun _ v43 _ => l3.length - (intOf v43).toNat)
  case atStart => exact ⟨0, v, [], a1, [], rfl, ⟨by omega⟩, ⟨by omega⟩, TL, START, HS7, BP7, BR7⟩
  case round =>
    clear START HS7 BP7 BR7 TL TC
    obtain ⟨x, v, s, t, ts, rfl, Hx0, Hx1, TL, HP, HB, BP, BR⟩ := hrel
    by_cases hlt : x < (l3.length : Int)
    · have c1 : decide (x < (l3.length : Int)) = true := decide_eq_true hlt
      obtain ⟨v', s2, n, u, ok, TE, HCD, TL'⟩ : ∃ v' s2 n u ok, Aside0 (impl_TaskEffect.f k l0_0 t v (rdR l3 x) = some (v', s2, n, u, ok)) ∧ Aside0 (s.length + s2.length < 17592186044416 ∧ ts.length < 17592186044415) ∧ Aside0 (refLoop k l0_0 (l3.drop (x + 1).toNat) v' (s ++ s2) n (ts ++ [t]) = some (sv, ss, st, sts)) := by
        have h := TL.out
        rw [drop_rdR Hx0.out hlt, refLoop] at h
        obtain ⟨⟨v', s2, n, u, ok⟩, e1, e2⟩ := Option.bind_eq_some_iff.mp h
        by_cases c : s.length + s2.length < 17592186044416 ∧ ts.length < 17592186044415
        · rw [if_pos c] at e2
          exact ⟨v', s2, n, u, ok, ⟨e1⟩, ⟨c⟩, ⟨e2⟩⟩
        · rw [if_neg c] at e2
          cases e2
      clear TL
      obtain ⟨v0, v1, i1, i2, i3, i4, i5⟩ := HP.out
      obtain ⟨A0, c0, e0, l0, k0⟩ := i2.open_
      subst e0
      obtain ⟨A1, c1_, e1, l1, -⟩ := i3.open_
      subst e1
      obtain ⟨At, ct, e2, l2, -⟩ := i4.open_
      subst e2
      have BO := Aside0.mk i1
      have R0 := Aside0.mk i2
      have R1 := Aside0.mk i3
      have RT := Aside0.mk i4
      have DJ := Aside0.mk i5
      have LV := Aside0.mk l0
      have CV := Aside0.mk k0
      clear HP i1 i2 i3 i4 i5 l0 l1 l2 k0
      have h0 := Hx0.out
      obtain ⟨ad, Ax, cx, ex, hx, hcx, hCx⟩ := at_R HR3.out x h0 hlt
      subst ex
      have HC1 := Aside0.mk hcx
      have HCC := Aside0.mk hCx
      have Hlt := Aside0.mk hlt
      clear hcx hCx hlt
      have p1 := eq_true h0
      have q1 := eq_true Hlt.out
      have hs : wrap64 (x + 1) = x + 1 := by have := Hlt.out; have := HL.out; unfold wrap64; omega
      have Hs := Aside0.mk hs
      replace hx := (HB.out.cell (World.block_lt_of_cell? w _ hx)).trans hx
      clear hs h0
      obtain ⟨⟨_, _, _⟩, ⟨_, _, _⟩⟩ := Sep.blk3 BO.out
      have hgp := Sep.blk1 BP.out
      go_wp2_with (first | (go_at_call 18; (with_reducible refine (impl_TaskEffect.calls k _ _ l0_0 t _ _ v _ _ (rdR l3 x) v' s2 n u ok _ ?_ HC0.out ?_ LV.out ?_ HC1.out TE.out).mono ?_); (exact Kd.C_below HR0.out HB.out); (exact CV.out); (exact Kd.C_below HCC.out HB.out); rintro e wa ⟨va, vb, rfl, hva, hvb, hba⟩; obtain ⟨Aa, ca, ea, -, -⟩ := (Sep.rowI.of_R hva).open_; subst ea; obtain ⟨Ab, cb, eb, -, -⟩ := (Sep.rowI.of_R hvb).open_; subst eb; have RA1 := Aside0.mk (Sep.rowI.of_R hva); have RB1 := Aside0.mk (Sep.rowI.of_R hvb); have DA : Aside0 ((∀ k, (Value.slice Aa v'.length ca).ownBlock = some k → wr.heap.size ≤ k ∧ (Value.slice Ab s2.length cb).ownBlock ≠ some k) ∧ ∀ k, (Value.slice Ab s2.length cb).ownBlock = some k → wr.heap.size ≤ k) := ⟨⟨fun k hk => ⟨Kd.R_base hva k hk, fun h => hva.1 k hk h.symm⟩, fun k hk => Kd.R_base hvb k hk⟩⟩; have HBa : Aside0 (Below wr.heap.size wr wa) := ⟨hba⟩; clear hva hvb hba) | ((with_reducible refine gate_dst (N := 15) rfl ?_); refine box_event ?hg (N := 15) ?hd (cs := #[.slice none 0 0, .slice none 0 0, .int .i64 0, .int .i64 0]) (t := 37) ?hr ?_; (case hd => rfl); (case hg => rfl); (case hr => exact z6_4); intro ge hge wb he hbb; have HBb := Aside0.mk (below_step HBa.out hbb); have RA2 := Aside0.mk (RA1.out.below hbb); have RB2 := Aside0.mk (RB1.out.below hbb); have BE2 := Aside0.mk he; have GE : Aside0 (wr.heap.size ≤ ge) := ⟨by rw [hge]; exact HBa.out.size⟩; clear hge he hbb; obtain ⟨⟨_, _, _, _⟩, ⟨_, _, _, _⟩⟩ := Sep.blk4 BE2.out) | ((with_reducible refine gate_store (t := 37) (p := 15) rfl ?_); refine store_event (t := 37) (p := 15) (v := ?vo2_) (w1 := Sep.put4 wb ge (.slice Aa v'.length ca) (.slice Ab s2.length cb) (.int .i64 n) (.int .i64 u)) ?hg ?ho ?hn ?hr ?_; (case ho => rfl); (case hg => rfl); (case hn => rfl); (case hr => exact z6_4); intro wc hw; have BE3 : Aside0 (wc.heap[ge]? = some (.cells #[.slice Aa v'.length ca, .slice Ab s2.length cb, .int .i64 n, .int .i64 u] 37 (0, 0))) := ⟨by rw [hw]; exact Sep.put4_blk BE2.out _ _ _ _⟩; have RA3 : Aside0 (Sep.rowI 3 wc (.slice Aa v'.length ca) v') := ⟨by rw [hw]; exact RA2.out.keep (fun k hk => Sep.put4_far (RA2.out.ne BE2.out (by decide) k hk) _ _ _ _)⟩; have RB3 : Aside0 (Sep.rowI 3 wc (.slice Ab s2.length cb) s2) := ⟨by rw [hw]; exact RB2.out.keep (fun k hk => Sep.put4_far (RB2.out.ne BE2.out (by decide) k hk) _ _ _ _)⟩; have HBc : Aside0 (Below wr.heap.size wr wc) := ⟨by rw [hw]; exact Sep.put4_below HBb.out GE.out _ _ _ _⟩; clear hw; have BO3 := Aside0.mk (blk_below BO.out HBc.out); have R03 := Aside0.mk (R0.out.below HBc.out); have R13 := Aside0.mk (R1.out.below HBc.out); have RT3 := Aside0.mk (RT.out.below HBc.out); have BP3 := Aside0.mk (blk_below BP.out HBc.out); have BR3 := Aside0.mk (blk_below BR.out HBc.out); obtain ⟨⟨_, _, _⟩, ⟨_, _, _⟩⟩ := Sep.blk3 BO3.out) | ((with_reducible refine gate_builtin (b := .append) (xs := #[.tmp 57, .tmp 60]) rfl ?_); at_builtin; refine Kd.R_append (w0 := wc) (Kd.int .i64) 0 rfl (.tmp 57) (.tmp 60) 28 3 (.int .i64 0) 8 rfl Try.underlying28 info3 rfl (by decide) (by omega) (.slice At ts.length ct) ts t [.int .i64 t] (fun _ => True) (fun _ => False) rfl rfl rfl (fun _ hk => hk.elim) (fun _ _ => trivial) (RT3.out.to_R (fun _ _ => Nat.zero_le _) (fun _ _ => trivial)) (Below.refl _ _) (Nat.zero_le _) (by have := HCD.out.2; omega) ?_; intro vt wd hod hbd hgd hatd; obtain ⟨Ad, cd, ed, -, -⟩ := (Sep.rowI.of_R hod).open_; rw [List.length_append, List.length_singleton] at ed; subst ed; have RT4 := Aside0.mk (Sep.rowI.of_R hod); have GD : Aside0 (wc.grownBy wd (Value.slice At ts.length ct).ownBlock) := ⟨⟨hgd.os, hgd.tape, hgd.output, hgd.size, hgd.block⟩⟩; have AD : Aside0 ((Value.slice Ad (ts.length + 1) cd).ownBlock = (Value.slice At ts.length ct).ownBlock ∨ ∃ b, (Value.slice Ad (ts.length + 1) cd).ownBlock = some b ∧ wc.heap.size ≤ b) := ⟨hatd⟩; clear hod hbd hgd hatd; have BO4 := Aside0.mk (blk_grown (w := wc) BO3.out GD.out (fun h => RT3.out.ne BO3.out (by decide) go h.symm rfl)); have BE4 := Aside0.mk (blk_grown (w := wc) BE3.out GD.out (fun h => RT3.out.ne BE3.out (by decide) ge h.symm rfl)); have R14 := Aside0.mk (R13.out.grown GD.out (fun k hk h => DJ.out.2.1 k hk h)); have RB4 := Aside0.mk (RB3.out.grown GD.out (fun k hk h => by have := DA.out.2 k hk; have := RT.out.lt k h; omega)); obtain ⟨⟨_, _, _⟩, ⟨_, _, _⟩⟩ := Sep.blk3 BO4.out; obtain ⟨⟨_, _, _, _⟩, ⟨_, _, _, _⟩⟩ := Sep.blk4 BE4.out) | fail)
      have CB := Aside0.mk RB4.out.open_
      obtain ⟨⟨_, _, eb, _, CB⟩⟩ := CB
      cases eb
      have CB := Aside0.mk CB
      have NEO : Aside0 (ge ≠ go) := ⟨fun h => blk_ne BE4.out BO4.out (by decide) h⟩
      refine start_ (n := 15) (S := fun w' => w'.cell? ⟨ge, 0, none⟩ = some (.slice Aa v'.length ca) ∧ w'.cell? ⟨ge, 1, none⟩ = some (.slice Ab s2.length cb) ∧ w'.cell? ⟨ge, 2, none⟩ = some (.int .i64 n)) (ds := []) #[false, false, false, false, false, false, false, false, false, false, false, false, false, false, false] (by kernel_rfl) rfl rfl ⟨(blk_cell (BE4.out) 0).trans rfl, (blk_cell (BE4.out) 1).trans rfl, (blk_cell (BE4.out) 2).trans rfl⟩ (fun hHeld => ?_)
      refine pure_ (i := 0) (N := some 62) (v := ?_) (a' := ?_) #[true, false, false, false, false, false, false, false, false, false, false, false, false, false, false] rfl rfl (by kernel_rfl) (fun _ _ _ h => h) (Or.inl ⟨by rfl, ?_⟩) ?_ ?_
      rotate_left
      · intro w'
        go_simp
        with_reducible rfl
      rotate_left
      · simp only [Act.put, List.setIfInBounds_toArray, List.set_cons_zero, List.set_cons_succ, i64_w, i32_w]
        rfl
      refine pure_ (i := 2) (N := some 64) (v := ?_) (a' := ?_) #[true, false, true, false, false, false, false, false, false, false, false, false, false, false, false] rfl rfl (by kernel_rfl) (fun _ _ _ h => h) (Or.inl ⟨by rfl, ?_⟩) ?_ ?_
      rotate_left
      · intro w'
        go_simp
        with_reducible rfl
      rotate_left
      · simp only [Act.put, List.setIfInBounds_toArray, List.set_cons_zero, List.set_cons_succ, i64_w, i32_w]
        rfl
      refine pure_ (i := 4) (N := some 66) (v := ?_) (a' := ?_) #[true, false, true, false, true, false, false, false, false, false, false, false, false, false, false] rfl rfl (by kernel_rfl) (fun _ _ _ h => h) (Or.inl ⟨by rfl, ?_⟩) ?_ ?_
      rotate_left
      · intro w'
        go_simp
        with_reducible rfl
      rotate_left
      · simp only [Act.put, List.setIfInBounds_toArray, List.set_cons_zero, List.set_cons_succ, i64_w, i32_w]
        rfl
      refine pure_ (i := 7) (N := some 69) (v := ?_) (a' := ?_) #[true, false, true, false, true, false, false, true, false, false, false, false, false, false, false] rfl rfl (by kernel_rfl) (fun _ _ _ h => h) (Or.inl ⟨by rfl, ?_⟩) ?_ ?_
      rotate_left
      · intro w'
        go_simp
        with_reducible rfl
      rotate_left
      · simp only [Act.put, List.setIfInBounds_toArray, List.set_cons_zero, List.set_cons_succ, i64_w, i32_w]
        rfl
      refine take_ (i := 1) (N := some 63) (v := ?_) (a' := ?_) #[true, true, true, false, true, false, false, true, false, false, false, false, false, false, false] rfl rfl (by kernel_rfl) (fun _ _ _ h => h) (Or.inl ⟨by rfl, ?_⟩) hHeld ?_ ?_
      rotate_left
      · intro w' s0
        obtain ⟨_, _, _⟩ := s0
        go_simp
        with_reducible rfl
      rotate_left
      · simp only [Act.put, List.setIfInBounds_toArray, List.set_cons_zero, List.set_cons_succ, i64_w, i32_w]
        rfl
      refine take_ (i := 5) (N := some 67) (v := ?_) (a' := ?_) #[true, true, true, false, true, true, false, true, false, false, false, false, false, false, false] rfl rfl (by kernel_rfl) (fun _ _ _ h => h) (Or.inl ⟨by rfl, ?_⟩) hHeld ?_ ?_
      rotate_left
      · intro w' s0
        obtain ⟨_, _, _⟩ := s0
        go_simp
        with_reducible rfl
      rotate_left
      · simp only [Act.put, List.setIfInBounds_toArray, List.set_cons_zero, List.set_cons_succ, i64_w, i32_w]
        rfl
      refine take_ (i := 8) (N := some 70) (v := ?_) (a' := ?_) #[true, true, true, false, true, true, false, true, true, false, false, false, false, false, false] rfl rfl (by kernel_rfl) (fun _ _ _ h => h) (Or.inl ⟨by rfl, ?_⟩) hHeld ?_ ?_
      rotate_left
      · intro w' s0
        obtain ⟨_, _, _⟩ := s0
        go_simp
        with_reducible rfl
      rotate_left
      · simp only [Act.put, List.setIfInBounds_toArray, List.set_cons_zero, List.set_cons_succ, i64_w, i32_w]
        rfl
      refine one_ (i := 3) (N := some 65) #[true, true, true, true, true, true, false, true, true, false, false, false, false, false, false] rfl rfl (by kernel_rfl) (by decide) (fun K hK => ?_)
      refine value_ (w1 := ?_) (v := ?_) (by rfl) rfl ?_ ?_
      rotate_left 2
      · go_simp
        constructor
        · rfl
        · rfl
      refine hK _ _ ⟨(blk_cell (BE4.out) 0).trans rfl, (blk_cell (BE4.out) 1).trans rfl, (blk_cell (BE4.out) 2).trans rfl⟩ (fun hHeld => ?_)
      clear hK K
      refine norm_ (a' := ?_) ?_ ?_
      rotate_left
      · show Act.put _ (some 65) _ = _
        simp only [Act.put, List.setIfInBounds_toArray, List.set_cons_zero, List.set_cons_succ, i64_w, i32_w]
        rfl
      refine pure_ (i := 9) (N := some 71) (v := ?_) (a' := ?_) #[true, true, true, true, true, true, false, true, true, true, false, false, false, false, false] rfl rfl (by kernel_rfl) (fun _ _ _ h => h) (Or.inl ⟨by rfl, ?_⟩) ?_ ?_
      rotate_left
      · intro w'
        go_simp
        with_reducible rfl
      rotate_left
      · simp only [Act.put, List.setIfInBounds_toArray, List.set_cons_zero, List.set_cons_succ, i64_w, i32_w]
        rfl
      refine one_ (i := 6) (N := some 68) #[true, true, true, true, true, true, true, true, true, true, false, false, false, false, false] rfl rfl (by kernel_rfl) (by decide) (fun K hK => ?_)
      refine Kd.R_append_rows_step (w0 := wd) (Kd.int .i64) 0 (by rfl) (.tmp 65) (.tmp 67) 28 3 (.int .i64 0) 8 rfl Try.underlying28 info3 rfl (by decide) (by decide) (.slice A1 s.length c1_) s s2 _ _ _ (fun _ => True) (fun _ => False) rfl rfl (R14.out.to_R (fun _ _ => Nat.zero_le _) (fun _ _ => trivial)) CB.out (fun _ _ h => h) (fun _ hk => hk.elim) (fun _ _ => trivial) (by repeat (first | exact Below.refl _ _ | apply pw_below_drewN | apply below_drew1)) (Nat.zero_le _) (by have := HCD.out.1; omega) ?_
      intro v6 we ho6 hb6 hg6 hat6
      obtain ⟨A6, c6, e6, -, -⟩ := (Sep.rowI.of_R ho6).open_
      rw [List.length_append] at e6
      subst e6
      have R6 := Aside0.mk (Sep.rowI.of_R ho6)
      have GX : Aside0 (wd.grownBy we (Value.slice A1 s.length c1_).ownBlock) := ⟨⟨hg6.os, hg6.tape, hg6.output, hg6.size, hg6.block⟩⟩
      have AX : Aside0 ((Value.slice A6 (s.length + s2.length) c6).ownBlock = (Value.slice A1 s.length c1_).ownBlock ∨ ∃ b, (Value.slice A6 (s.length + s2.length) c6).ownBlock = some b ∧ wd.heap.size ≤ b) := ⟨hat6⟩
      have BO5 := Aside0.mk (blk_grown (w := wd) BO4.out GX.out (fun h => R14.out.ne BO4.out (by decide) go h.symm rfl))
      have BE5 := Aside0.mk (blk_grown (w := wd) BE4.out GX.out (fun h => R14.out.ne BE4.out (by decide) ge h.symm rfl))
      clear ho6 hb6 hg6 hat6
      obtain ⟨⟨_, _, _⟩, ⟨_, _, _⟩⟩ := Sep.blk3 BO5.out
      refine hK _ _ ⟨(blk_cell (BE5.out) 0).trans rfl, (blk_cell (BE5.out) 1).trans rfl, (blk_cell (BE5.out) 2).trans rfl⟩ (fun hHeld => ?_)
      clear hK K
      refine norm_ (a' := ?_) ?_ ?_
      rotate_left
      · show Act.put _ (some 68) _ = _
        simp only [Act.put, List.setIfInBounds_toArray, List.set_cons_zero, List.set_cons_succ, i64_w, i32_w]
        rfl
      refine one_ (i := 10) (N := none) #[true, true, true, true, true, true, true, true, true, true, true, false, false, false, false] rfl rfl (by kernel_rfl) (by decide) (fun K hK => ?_)
      refine skip_ (w1 := ?_) (by rfl) rfl ?_ ?_
      rotate_left
      · go_simp
        rfl
      have BO6 := Aside0.mk (blk_put BO5.out 0 (.slice Aa v'.length ca) rfl)
      refine hK _ _ ⟨(blk_cell (blk_far BE5.out NEO.out _) 0).trans rfl, (blk_cell (blk_far BE5.out NEO.out _) 1).trans rfl, (blk_cell (blk_far BE5.out NEO.out _) 2).trans rfl⟩ (fun hHeld => ?_)
      clear hK K
      refine pure_ (i := 11) (N := some 72) (v := ?_) (a' := ?_) #[true, true, true, true, true, true, true, true, true, true, true, true, false, false, false] rfl rfl (by kernel_rfl) (fun _ _ _ h => h) (Or.inl ⟨by rfl, ?_⟩) ?_ ?_
      rotate_left
      · intro w'
        go_simp
        with_reducible rfl
      rotate_left
      · simp only [Act.put, List.setIfInBounds_toArray, List.set_cons_zero, List.set_cons_succ, i64_w, i32_w]
        rfl
      refine one_ (i := 12) (N := none) #[true, true, true, true, true, true, true, true, true, true, true, true, true, false, false] rfl rfl (by kernel_rfl) (by decide) (fun K hK => ?_)
      refine skip_ (w1 := ?_) (by rfl) rfl ?_ ?_
      rotate_left
      · go_simp
        rfl
      refine hK _ _ ⟨(blk_cell (blk_far (blk_far BE5.out NEO.out _) NEO.out _) 0).trans rfl, (blk_cell (blk_far (blk_far BE5.out NEO.out _) NEO.out _) 1).trans rfl, (blk_cell (blk_far (blk_far BE5.out NEO.out _) NEO.out _) 2).trans rfl⟩ (fun hHeld => ?_)
      clear hK K
      refine pure_ (i := 13) (N := some 73) (v := ?_) (a' := ?_) #[true, true, true, true, true, true, true, true, true, true, true, true, true, true, false] rfl rfl (by kernel_rfl) (fun _ _ _ h => h) (Or.inl ⟨by rfl, ?_⟩) ?_ ?_
      rotate_left
      · intro w'
        go_simp
        with_reducible rfl
      rotate_left
      · simp only [Act.put, List.setIfInBounds_toArray, List.set_cons_zero, List.set_cons_succ, i64_w, i32_w]
        rfl
      refine one_ (i := 14) (N := none) #[true, true, true, true, true, true, true, true, true, true, true, true, true, true, true] rfl rfl (by kernel_rfl) (by decide) (fun K hK => ?_)
      refine skip_ (w1 := ?_) (by rfl) rfl ?_ ?_
      rotate_left
      · go_simp
        rfl
      refine hK _ _ ⟨(blk_cell (blk_far (blk_far (blk_far BE5.out NEO.out _) NEO.out _) NEO.out _) 0).trans rfl, (blk_cell (blk_far (blk_far (blk_far BE5.out NEO.out _) NEO.out _) NEO.out _) 1).trans rfl, (blk_cell (blk_far (blk_far (blk_far BE5.out NEO.out _) NEO.out _) NEO.out _) 2).trans rfl⟩ (fun hHeld => ?_)
      clear hK K
      refine done_ (by kernel_rfl) ?_
      have LW : w.heap.size ≤ wr.heap.size := HB.out.size
      have LC : wr.heap.size ≤ wc.heap.size := HBc.out.size
      have LD : wc.heap.size ≤ wd.heap.size := GD.out.size
      have LE : wd.heap.size ≤ we.heap.size := GX.out.size
      have D1 : ∀ k, (Value.slice A1 s.length c1_).ownBlock = some k → k < wr.heap.size ∧ w.heap.size ≤ k := fun k hk => ⟨R1.out.lt k hk, DJ.out.2.2.2.2.1 k hk⟩
      have DT : ∀ k, (Value.slice At ts.length ct).ownBlock = some k → k < wr.heap.size ∧ w.heap.size ≤ k := fun k hk => ⟨RT.out.lt k hk, DJ.out.2.2.2.2.2 k hk⟩
      have RA4 := RA3.out.grown GD.out (fun k hk h => by have := (DA.out.1 k hk).1; have := (DT k h).1; omega)
      have RA5 := RA4.grown GX.out (fun k hk h => by have := (DA.out.1 k hk).1; have := (D1 k h).1; omega)
      have X6 : ∀ k, (Value.slice A6 (s.length + s2.length) c6).ownBlock = some k → (Value.slice A1 s.length c1_).ownBlock = some k ∨ wd.heap.size ≤ k := fun k hk => AX.out.imp (fun e => e.symm.trans hk) (fun h => by
        obtain ⟨b, e, hb⟩ := h
        rw [hk] at e
        cases e
        exact hb)
      have XT : ∀ k, (Value.slice Ad (ts.length + 1) cd).ownBlock = some k → (Value.slice At ts.length ct).ownBlock = some k ∨ wc.heap.size ≤ k := fun k hk => AD.out.imp (fun e => e.symm.trans hk) (fun h => by
        obtain ⟨b, e, hb⟩ := h
        rw [hk] at e
        cases e
        exact hb)
      have RT5 := RT4.out.grown GX.out (fun k hk h => (XT k hk).elim (fun e => DJ.out.2.1 k h e) (fun e => by have := (D1 k h).1; omega))
      have BO7 := Sep.put3_blk BO5.out (.slice Aa v'.length ca) (.slice A6 (s.length + s2.length) c6) (.int .i64 n)
      have FAR : ∀ k, k ≠ go → (((we.setCell ⟨go, 0, none⟩ (.slice Aa v'.length ca)).setCell ⟨go, 1, none⟩ (.slice A6 (s.length + s2.length) c6)).setCell ⟨go, 2, none⟩ (.int .i64 n)).heap[k]? = we.heap[k]? := fun k hk => Sep.put3_far hk _ _ _
      have PF : Aside0 (refP w go v' (s ++ s2) n (ts ++ [t]) (.slice Ad (ts.length + 1) cd) (((we.setCell ⟨go, 0, none⟩ (.slice Aa v'.length ca)).setCell ⟨go, 1, none⟩ (.slice A6 (s.length + s2.length) c6)).setCell ⟨go, 2, none⟩ (.int .i64 n))) := by
        refine ⟨_, _, BO7, RA5.keep (fun k hk => FAR k (RA5.ne BO5.out (by decide) k hk)), R6.out.keep (fun k hk => FAR k (R6.out.ne BO5.out (by decide) k hk)), RT5.keep (fun k hk => FAR k (RT5.ne BO5.out (by decide) k hk)), ⟨fun k hk => ⟨fun h => ?_, fun h => ?_⟩, fun k hk h => ?_, DJ.out.2.2.1, fun k hk => ?_, fun k hk => ?_, fun k hk => ?_⟩⟩
        · have := (DA.out.1 k hk).1
          have := RA3.out.lt k hk
          exact (X6 k h).elim (fun e => by have := (D1 k e).1; omega) (fun e => by omega)
        · have := (DA.out.1 k hk).1
          have := RA3.out.lt k hk
          exact (XT k h).elim (fun e => by have := (DT k e).1; omega) (fun e => by omega)
        · rcases X6 k hk with h1 | h1 <;> rcases XT k h with h2 | h2
          · exact DJ.out.2.1 k h1 h2
          · have := (D1 k h1).1; omega
          · have := (DT k h2).1; omega
          · have := RT4.out.lt k h; omega
        · have := (DA.out.1 k hk).1; omega
        · exact (X6 k hk).elim (fun e => (D1 k e).2) (fun e => by omega)
        · exact (XT k hk).elim (fun e => (DT k e).2) (fun e => by omega)
      have BF : Aside0 (Below w.heap.size w (((we.setCell ⟨go, 0, none⟩ (.slice Aa v'.length ca)).setCell ⟨go, 1, none⟩ (.slice A6 (s.length + s2.length) c6)).setCell ⟨go, 2, none⟩ (.int .i64 n))) := ⟨GX.out.os.trans (GD.out.os.trans (HBc.out.os.trans HB.out.os)), GX.out.tape.trans (GD.out.tape.trans (HBc.out.tape.trans HB.out.tape)), GX.out.output.trans (GD.out.output.trans (HBc.out.output.trans HB.out.output)), by rw [Sep.put3_size]; omega, fun k hk => (FAR k (by have := DJ.out.2.2.1; omega)).trans ((GX.out.block k (by omega) (fun h => by have := (D1 k h.symm).2; omega)).trans ((GD.out.block k (by omega) (fun h => by have := (DT k h.symm).2; omega)).trans ((HBc.out.block k (by omega)).trans (HB.out.block k hk))))⟩
      have BP4 := blk_grown (w := wc) BP3.out GD.out (fun h => RT3.out.ne BP3.out (by decide) gp h.symm rfl)
      have BR4 := blk_grown (w := wc) BR3.out GD.out (fun h => RT3.out.ne BR3.out (by decide) gr h.symm rfl)
      have BPF := Aside0.mk ((FAR gp NRO.out.2).trans (blk_grown (w := wd) BP4 GX.out (fun h => R14.out.ne BP4 (by decide) gp h.symm rfl)))
      have BRF := Aside0.mk ((FAR gr NRO.out.1).trans (blk_grown (w := wd) BR4 GX.out (fun h => R14.out.ne BR4 (by decide) gr h.symm rfl)))
      clear LW LC LD LE D1 DT RA4 RA5 X6 XT RT5 BO7 FAR BP4 BR4
      generalize ((we.setCell ⟨go, 0, none⟩ (.slice Aa v'.length ca)).setCell ⟨go, 1, none⟩ (.slice A6 (s.length + s2.length) c6)).setCell ⟨go, 2, none⟩ (.int .i64 n) = wf at *
      go_wp2
      go_roundw
      case rel => exact ⟨x + 1, v', s ++ s2, n, ts ++ [t], by rw [Hs.out], ⟨by have := Hx0.out; omega⟩, ⟨by have := Hlt.out; omega⟩, TL', PF, BF, BPF, BRF⟩
      case measure =>
        have := Hlt.out
        have := Hx0.out
        rw [Hs.out]
        simp [intOf]
        omega
    · have c1 : decide (x < (l3.length : Int)) = false := decide_eq_false hlt
      have hx : x.toNat = l3.length := by have := Hx1.out; have := Hx0.out; omega
      have h := TL.out
      rw [hx, List.drop_length, refLoop] at h
      simp only [Option.some.injEq, Prod.mk.injEq] at h
      obtain ⟨rfl, rfl, rfl, rfl⟩ := h
      obtain ⟨v0, v1, i1, i2, i3, i4, i5⟩ := HP.out
      obtain ⟨A0, c0, e0, l0, k0⟩ := i2.open_
      subst e0
      obtain ⟨A1, c1_, e1, l1, k1⟩ := i3.open_
      subst e1
      obtain ⟨At, ct, e2, l2, -⟩ := i4.open_
      subst e2
      have BO := Aside0.mk i1
      have R0 := Aside0.mk i2
      have R1 := Aside0.mk i3
      have RT := Aside0.mk i4
      have DJ := Aside0.mk i5
      have CV := Aside0.mk k1
      have LV := Aside0.mk l1
      clear HP i1 i2 i3 i4 i5 l0 l1 l2 k0 k1 hx hlt
      obtain ⟨⟨_, _, _⟩, ⟨_, _, _⟩⟩ := Sep.blk3 BO.out
      have FIN : ∀ (m : Nat), m = min 24 s.length → (m : Int) = (if (s.length : Int) < 24 then (s.length : Int) else 24) := by
        intro m hm
        split <;> omega
      obtain ⟨m, hm⟩ : ∃ m, m = min 24 s.length := ⟨_, rfl⟩
      have hmi := FIN m hm
      have tl : (s.take m).length = m := by rw [List.length_take]; omega
      have TS' : Aside0 (slices_Clone_int_int.f (s.take m) = some s') := ⟨by rw [hm]; exact TS.out⟩
      have CT : Aside0 (Kd.C (Kd.int .i64) wr A1 (s.take m).length (s.take m)) := ⟨by
        obtain ⟨A', c', e', -, h'⟩ := (Sep.rowI.of_R (Kd.R_take R1.out (by omega : m ≤ s.length))).open_
        injection e' with e1' e2' e3'
        subst e1'
        exact h'⟩
      have LM : Aside0 (m ≤ c1_) := ⟨by have := LV.out; omega⟩
      have TLN := Aside0.mk tl
      have e24 : (if (s.length : Int) < 24 then (s.length : Int) else 24) = (m : Int) := hmi.symm
      have m1 : ((m : Int) ≤ (c1_ : Int)) = True := eq_true (by have := LM.out; omega)
      have m2 : (m ≤ c1_) = True := eq_true LM.out
      clear FIN hm hmi tl
      go_wp2_with (first | (go_at_call 104; (have CLN := slices_Clone_int_int.calls A1 c1_ (s.take m) s' wr CT.out (by rw [TLN.out]; exact LM.out) TS'.out; rw [TLN.out] at CLN; refine CLN.mono ?_; clear CLN); rintro e wx ⟨vx, rfl, hvx, hbx⟩; obtain ⟨Ax, cx, ex, -, -⟩ := (Sep.rowI.of_R hvx).open_; subst ex; have RX := Aside0.mk (Sep.rowI.of_R hvx); have XB : Aside0 (∀ k, (Value.slice Ax s'.length cx).ownBlock = some k → wr.heap.size ≤ k) := ⟨fun k hk => Kd.R_base hvx k hk⟩; have HBX := Aside0.mk (below_step HB.out hbx); have BOX := Aside0.mk (blk_below BO.out hbx); have BRX := Aside0.mk (blk_below BR.out hbx); have R0X := Aside0.mk (R0.out.below hbx); have RTX := Aside0.mk (RT.out.below hbx); clear hvx hbx; obtain ⟨⟨_, _, _⟩, ⟨_, _, _⟩⟩ := Sep.blk3 BOX.out) | ((with_reducible refine gate_store (t := 28) (p := 83) rfl ?_); refine store_event (t := 28) (p := 83) (v := ?vo3_) (w1 := wx.setCell ⟨go, 1, none⟩ (.slice Ax s'.length cx)) ?hg ?ho ?hn ?hr ?_; (case ho => rfl); (case hg => rfl); (case hn => rfl); (case hr => exact z6_4); intro wy hw; have FY : Aside0 (∀ k, k ≠ go → wy.heap[k]? = wx.heap[k]?) := ⟨by rw [hw]; exact fun k hk => Below.heap_setCell _ _ _ k hk⟩; have BOY : Aside0 (wy.heap[go]? = some (.cells #[.slice A0 v.length c0, .slice Ax s'.length cx, .int .i64 t] 44 (0, 0))) := ⟨by rw [hw]; exact blk_put BOX.out 1 _ rfl⟩; have HBY : Aside0 (Below w.heap.size w wy) := ⟨by rw [hw]; exact below_set HBX.out DJ.out.2.2.1⟩; clear hw; have BRY := Aside0.mk ((FY.out gr NRO.out.1).trans BRX.out); obtain ⟨⟨_, _, _⟩, ⟨_, _, _⟩⟩ := Sep.blk3 BOY.out; obtain ⟨⟨_, _, _⟩, ⟨_, _, _⟩⟩ := Sep.blk3 BRY.out) | fail)
      have RXY := RX.out.keep (fun k hk => FY.out k (RX.out.ne BOX.out (by decide) k hk))
      have R0Y := R0X.out.keep (fun k hk => FY.out k (R0X.out.ne BOX.out (by decide) k hk))
      have RTY := RTX.out.keep (fun k hk => FY.out k (RTX.out.ne BOX.out (by decide) k hk))
      have LW := HB.out.size
      have d1 := DJ.out
      refine bodyPost_ret (results_ctt rfl _ _ gr 44 #[.slice A0 v.length c0, .slice Ax s'.length cx, .int .i64 t] (0, 0) _ rfl (Sep.put3_blk BRY.out (.slice A0 v.length c0) (.slice Ax s'.length cx) (.int .i64 t)) Try.underlying44 rfl (by kernel_rfl)) rfl ?_
      refine ⟨_, _, _, rfl, ?_, ?_, ?_, Sep.put3_below HBY.out GR'.out _ _ _⟩
      · refine (R0Y.keep (fun k hk => Sep.put3_far (R0Y.ne BRY.out (by decide) k hk) _ _ _)).to_R d1.2.2.2.1 (fun k hk => ⟨fun h => ?_, fun h => (d1.1 k hk).2 h.symm⟩)
        have := XB.out k h.symm
        have := R0.out.lt k hk
        omega
      · refine (RXY.keep (fun k hk => Sep.put3_far (RXY.ne BRY.out (by decide) k hk) _ _ _)).to_R (fun k hk => by have := XB.out k hk; omega) (fun k hk => ⟨fun h => ?_, fun h => ?_⟩)
        · have := XB.out k hk
          have := R0.out.lt k h.symm
          omega
        · have := XB.out k hk
          have := RT.out.lt k h.symm
          omega
      · refine (RTY.keep (fun k hk => Sep.put3_far (RTY.ne BRY.out (by decide) k hk) _ _ _)).to_R d1.2.2.2.2.2 (fun k hk => ⟨fun h => (d1.1 k h.symm).2 hk, fun h => ?_⟩)
        have := XB.out k h.symm
        have := RT.out.lt k hk
        omega
theorem impl_refRun.calls (k : Nat) (A0_0 : Option Addr) (c0_0 : Nat) (l0_0 : List S34) (a1 : Int) (A2 : Option Addr) (c2 : Nat) (l2 : List Int) (A3 : Option Addr) (c3 : Nat) (l3 : List (List Int)) (r1 r2 : List Int) (r3 : Int) (r4 : List Int) (r5 : Bool) (w : World)
    (hr0_0 : Kd.C k34 w A0_0 l0_0.length l0_0) (hc0_0 : l0_0.length ≤ c0_0) (hr2 : Kd.C (Kd.int .i64) w A2 l2.length l2) (hc2 : l2.length ≤ c2) (hr3 : Kd.C (Kd.slice 3 (Kd.int .i64)) w A3 l3.length l3) (hc3 : l3.length ≤ c3) (h : impl_refRun.f k l0_0 a1 l2 l3 = some (r1, r2, r3, r4, r5)) :
    Calls Try.prog 67 #[.agg #[.slice A0_0 l0_0.length c0_0], .int .i64 a1, .slice A2 l2.length c2, .slice A3 l3.length c3] w fun e w' => ∃ v0_ v1_ v2_ : Value, e = .returned (.tuple #[.agg #[v0_, v1_, .int .i64 r3], v2_, .bool r5]) ∧
      Kd.R (Kd.int .i64) 3 w' w.heap.size (fun k_ => some k_ ≠ (v1_ : Value).ownBlock ∧ some k_ ≠ (v2_ : Value).ownBlock) v0_ r1 ∧ Kd.R (Kd.int .i64) 3 w' w.heap.size (fun k_ => some k_ ≠ (v0_ : Value).ownBlock ∧ some k_ ≠ (v2_ : Value).ownBlock) v1_ r2 ∧ Kd.R (Kd.int .i64) 3 w' w.heap.size (fun k_ => some k_ ≠ (v0_ : Value).ownBlock ∧ some k_ ≠ (v1_ : Value).ownBlock) v2_ r4 ∧ Below w.heap.size w w' := by
  have no : ∀ (b1 b2 b3 b4 : Bool), impl_hasTask.f k l0_0 a1 = some b1 → (b1 = true → impl_VarsOk.f l2 = some b2) → decide ((l3.length : Int) ≤ 100) = b3 → (b1 = true → b2 = true → b3 = true → allRows l3 = some b4) → (b1 && b2 && b3 && b4) = false → some (([] : List Int), ([] : List Int), (0 : Int), ([] : List Int), false) = some (r1, r2, r3, r4, r5) →
      Calls Try.prog 67 #[.agg #[.slice A0_0 l0_0.length c0_0], .int .i64 a1, .slice A2 l2.length c2, .slice A3 l3.length c3] w fun e w' => ∃ v0_ v1_ v2_ : Value, e = .returned (.tuple #[.agg #[v0_, v1_, .int .i64 r3], v2_, .bool r5]) ∧
      Kd.R (Kd.int .i64) 3 w' w.heap.size (fun k_ => some k_ ≠ (v1_ : Value).ownBlock ∧ some k_ ≠ (v2_ : Value).ownBlock) v0_ r1 ∧ Kd.R (Kd.int .i64) 3 w' w.heap.size (fun k_ => some k_ ≠ (v0_ : Value).ownBlock ∧ some k_ ≠ (v2_ : Value).ownBlock) v1_ r2 ∧ Kd.R (Kd.int .i64) 3 w' w.heap.size (fun k_ => some k_ ≠ (v0_ : Value).ownBlock ∧ some k_ ≠ (v1_ : Value).ownBlock) v2_ r4 ∧ Below w.heap.size w w' := fun b1 b2 b3 b4 h1 h2 h3 h4 hn e => by
    simp only [Option.some.injEq, Prod.mk.injEq] at e
    obtain ⟨rfl, rfl, rfl, rfl, rfl⟩ := e
    refine (impl_refRun.no k A0_0 c0_0 l0_0 a1 A2 c2 l2 A3 c3 l3 b1 b2 b3 b4 w hr0_0 hc0_0 hr2 hc2 hr3 hc3 h1 h2 h3 h4 hn).mono ?_
    rintro e w' ⟨rfl, hb⟩
    exact ⟨_, _, _, rfl, Kd.R_nil _ _ _ _ _, Kd.R_nil _ _ _ _ _, Kd.R_nil _ _ _ _ _, hb⟩
  unfold impl_refRun.f at h
  obtain ⟨t1, h1, h⟩ := Option.bind_eq_some_iff.mp h
  cases t1 with
  | false => exact no false false _ false h1 (by simp) rfl (by simp) rfl h
  | true =>
    rw [if_pos rfl] at h
    obtain ⟨t2, h2, h⟩ := Option.bind_eq_some_iff.mp h
    cases t2 with
    | false => exact no true false _ false h1 (fun _ => h2) rfl (by simp) rfl h
    | true =>
      rw [if_pos rfl] at h
      by_cases h3 : l3.length ≤ 100
      · rw [if_pos h3] at h
        obtain ⟨t4, h4, h⟩ := Option.bind_eq_some_iff.mp h
        cases t4 with
        | false => exact no true true true false h1 (fun _ => h2) (decide_eq_true (by omega)) (fun _ _ _ => h4) rfl h
        | true =>
          rw [if_pos rfl] at h
          obtain ⟨v, h5, h⟩ := Option.bind_eq_some_iff.mp h
          obtain ⟨⟨sv, ss, st, sts⟩, h6, h⟩ := Option.bind_eq_some_iff.mp h
          obtain ⟨s', h7, h⟩ := Option.bind_eq_some_iff.mp h
          simp only [Option.some.injEq, Prod.mk.injEq] at h
          obtain ⟨rfl, rfl, rfl, rfl, rfl⟩ := h
          exact impl_refRun.yes k A0_0 c0_0 l0_0 a1 A2 c2 l2 A3 c3 l3 v sv ss st sts s' w hr0_0 hc0_0 hr2 hc2 hr3 hc3 h1 h2 h3 h4 h5 h6 h7
      · rw [if_neg h3] at h
        exact no true true false false h1 (fun _ => h2) (decide_eq_false (by omega)) (by simp) rfl h

/-! ### impl_RefRun: function 21 -/
def impl_RefRun.f (k : Nat) (l0_0 : List (S34)) (a1 : Int) (l2 : List Int) (l3 : List (List Int)) : Option (List Int × List Int × Int × Bool) := (impl_refRun.f k l0_0 a1 l2 l3).bind fun bt393 => (some (bt393.1, bt393.2.1, bt393.2.2.1, bt393.2.2.2.2))
theorem impl_RefRun.mono : ∀ a0 a1 a2 a3 k, LeO (impl_RefRun.f k a0 a1 a2 a3) (impl_RefRun.f (k + 1) a0 a1 a2 a3) := by
  intro a0 a1 a2 a3 k
  unfold impl_RefRun.f
  repeat' first
      | (with_reducible exact impl_refRun.mono _ _ _ _ _)
      | (with_reducible exact LeO.refl _)
      | (with_reducible exact LeO.none _)
      | (with_reducible refine LeO.ite ?_ ?_)
      | (with_reducible refine LeO.bind ?_ (fun _ => ?_))
      | exact impl_refRun.mono _ _ _ _ _
      | exact LeO.none _
      | refine LeO.ite ?_ ?_
      | refine LeO.bind ?_ (fun _ => ?_)
set_option maxHeartbeats 8000000 in
set_option maxRecDepth 100000 in
theorem impl_RefRun.calls (k : Nat) (A0_0 : Option Addr) (c0_0 : Nat) (l0_0 : List (S34)) (a1 : Int) (A2 : Option Addr) (c2 : Nat) (l2 : List Int) (A3 : Option Addr) (c3 : Nat) (l3 : List (List Int)) (r1 : List Int) (r2 : List Int) (r3 : Int) (r4 : Bool) (w : World) (hr0_0 : Kd.C k34 w A0_0 l0_0.length l0_0) (hc0_0 : l0_0.length ≤ c0_0) (hr2 : Kd.C (Kd.int .i64) w A2 l2.length l2) (hc2 : l2.length ≤ c2) (hr3 : Kd.C (Kd.slice 3 (Kd.int .i64)) w A3 l3.length l3) (hc3 : l3.length ≤ c3) (h : impl_RefRun.f k l0_0 a1 l2 l3 = some (r1, r2, r3, r4)) :
    Calls Try.prog 21 #[.agg #[.slice A0_0 l0_0.length c0_0], .int .i64 a1, .slice A2 l2.length c2, .slice A3 l3.length c3] w fun e w' => ∃ v0_ v1_ : Value, e = .returned (.tuple #[.agg #[v0_, v1_, .int .i64 r3], .bool r4]) ∧ Kd.R (Kd.int .i64) 3 w' w.heap.size (fun k_ => some k_ ≠ (v1_ : Value).ownBlock) v0_ r1 ∧ Kd.R (Kd.int .i64) 3 w' w.heap.size (fun k_ => some k_ ≠ (v0_ : Value).ownBlock) v1_ r2 ∧ Below w.heap.size w w' := by
  have hu26 := Try.underlying26
  have hu44 := Try.underlying44
  have HR0_0 := Aside0.mk hr0_0
  have HC0_0 := Aside0.mk hc0_0
  clear hr0_0 hc0_0
  have HR2 := Aside0.mk hr2
  have HC2 := Aside0.mk hc2
  clear hr2 hc2
  have HR3 := Aside0.mk hr3
  have HC3 := Aside0.mk hc3
  clear hr3 hc3
  have HB := Aside0.mk (Below.refl w.heap.size w)
  have H : ((impl_refRun.f k l0_0 a1 l2 l3).bind fun bt393 => (some (bt393.1, bt393.2.1, bt393.2.2.1, bt393.2.2.2.2))) = some (r1, r2, r3, r4) := h
  clear h
  replace H := Option.bind_eq_some_iff.mp H
  obtain ⟨⟨t393, t396, t399, t400, t403⟩, A50, H⟩ := H
  replace H : (some (t393, t396, t399, t403)) = some (r1, r2, r3, r4) := H
  have A5 := Aside0.mk A50
  clear A50
  simp only [Option.some.injEq, Prod.mk.injEq] at H
  obtain ⟨rfl, rfl, rfl, rfl⟩ := H
  go_enter Try.func21, Try.ntmps21
  go_wp2_with (first | ((with_reducible refine gate_dst (N := 4) rfl ?_); refine box_event ?hg (N := 4) ?hd (cs := #[.slice A0_0 l0_0.length c0_0]) (t := 26) ?hr ?_; (case hd => rfl); (case hg => rfl); (case hr => exact z6_4); intro gb391 hg w6 hbox hb; have n0_ := Aside0.mk (below_step z6_0 hb); have n1_ := Aside0.mk (hbox); have n2_ := Aside0.mk ((z6_17 : w.heap.size ≤ gb391)); have n3_ := Aside0.mk ((z6_17 : w.heap.size ≤ gb391)); clear HB; have HB := n0_; have BK391 := n1_; have GW391 := n2_; have GE391 := n3_; clear n0_ n1_ n2_ n3_; clear hb hbox hg) | ((with_reducible refine gate_dst (N := 8) rfl ?_); refine box_event ?hg (N := 8) ?hd (cs := #[.slice none 0 0, .slice none 0 0, .int .i64 0]) (t := 44) ?hr ?_; (case hd => rfl); (case hg => rfl); (case hr => exact z6_4); intro gb392 hg w7 hbox hb; have n0_ := Aside0.mk (blk_below (g := gb391) (o := .cells #[.slice A0_0 l0_0.length c0_0] 26 (0, 0)) z6_6 hb); have n1_ := Aside0.mk (below_step z6_13 hb); have n2_ := Aside0.mk (hbox); have n3_ := Aside0.mk ((by rw [hg]; exact (below_size z6_13) : w.heap.size ≤ gb392)); have n4_ := Aside0.mk ((by rw [hg]; exact (below_size z6_13) : w.heap.size ≤ gb392)); have n5_ := Aside0.mk ((by rw [hg]; exact Nat.ne_of_lt (blk_lt (g := gb391) (o := .cells #[.slice A0_0 l0_0.length c0_0] 26 (0, 0)) z6_6) : gb391 ≠ gb392)); have n6_ := Aside0.mk ((by rw [hg]; exact Nat.ne_of_gt (blk_lt (g := gb391) (o := .cells #[.slice A0_0 l0_0.length c0_0] 26 (0, 0)) z6_6) : gb392 ≠ gb391)); clear BK391; clear HB; have BK391 := n0_; have HB := n1_; have BK392 := n2_; have GW392 := n3_; have GE392 := n4_; have NB391_392 := n5_; have NB392_391 := n6_; clear n0_ n1_ n2_ n3_ n4_ n5_ n6_; clear hb hbox hg; have hnb8 := NB391_392.out; have hnc8 := NB392_391.out; have hcz9_0 : w7.cell? ⟨gb391, 0, none⟩ = some (.slice A0_0 l0_0.length c0_0) := (blk_cell BK391.out 0).trans rfl; have hfz9_0 := blk_frozen BK391.out 0) | ((first | ((with_reducible refine gate_callee (f := 67) rfl ?_); refine goesL_ (some 18) rfl rfl Try.func67 (by kernel_rfl) rfl #[.agg #[.slice A0_0 l0_0.length c0_0], .int .i64 a1, .slice A2 l2.length c2, .slice A3 l3.length c3] rfl z6_7 ?_; (with_reducible refine (impl_refRun.calls k _ _ l0_0 a1 _ _ l2 _ _ l3 t393 t396 t399 t400 t403 _ ?side1 ?side2 ?side3 ?side4 ?side5 ?side6 A5.out).mono ?_)) | (go_at_call 67; (with_reducible refine (impl_refRun.calls k _ _ l0_0 a1 _ _ l2 _ _ l3 t393 t396 t399 t400 t403 _ ?side1 ?side2 ?side3 ?side4 ?side5 ?side6 A5.out).mono ?_))); (case side1 => exact z6_9); (case side2 => exact HC0_0.out); (case side3 => repeat (first | exact (Kd.C_below HR2.out HB.out) | (with_reducible refine Kd.C_alloc ?_ _) | (with_reducible refine Kd.C_drewN ?_ _) | (with_reducible refine Kd.C_drew ?_))); (case side4 => exact HC2.out); (case side5 => repeat (first | exact (Kd.C_below HR3.out HB.out) | (with_reducible refine Kd.C_alloc ?_ _) | (with_reducible refine Kd.C_drewN ?_ _) | (with_reducible refine Kd.C_drew ?_))); (case side6 => exact HC3.out); rintro e w10 ⟨v394, v397, v401, rfl, ho0, ho1, ho2, hb⟩; (first | refine ⟨_, rfl, ?_⟩ | skip); have n0_ := Aside0.mk (Kd.R_lower ho0 (below_size z6_2)); have n1_ := Aside0.mk (Kd.R_lower ho1 (below_size z6_2)); have n2_ := Aside0.mk (Kd.R_lower ho2 (below_size z6_2)); have n3_ := Aside0.mk (blk_below (g := gb391) (o := .cells #[.slice A0_0 l0_0.length c0_0] 26 (0, 0)) z6_6 hb); have n4_ := Aside0.mk (blk_below (g := gb392) (o := .cells #[.slice none 0 0, .slice none 0 0, .int .i64 0] 44 (0, 0)) z6_10 hb); have n5_ := Aside0.mk (below_step z6_2 hb); clear BK391; clear BK392; clear HB; have HO395 := n0_; have HO398 := n1_; have HO402 := n2_; have BK391 := n3_; have BK392 := n4_; have HB := n5_; clear n0_ n1_ n2_ n3_ n4_ n5_; (try clear hb); (try clear hb2); (try clear hk); (try clear hi); (try clear ho0); (try clear ho1); (try clear ho2)) | ((with_reducible refine gate_dst (N := 10) rfl ?_); refine box_event ?hg (N := 10) ?hd (cs := #[.slice none 0 0, .slice none 0 0, .int .i64 0]) (t := 44) ?hr ?_; (case hd => rfl); (case hg => rfl); (case hr => exact z6_4); intro gb404 hg w11 hbox hb; have n0_ := Aside0.mk (Kd.R_below (by (with_reducible repeat (first | apply Kd.R_alloc | apply Kd.R_drewN | apply Kd.R_drew)); exact HO395.out) hb); have n1_ := Aside0.mk (Kd.R_below (by (with_reducible repeat (first | apply Kd.R_alloc | apply Kd.R_drewN | apply Kd.R_drew)); exact HO398.out) hb); have n2_ := Aside0.mk (Kd.R_below (by (with_reducible repeat (first | apply Kd.R_alloc | apply Kd.R_drewN | apply Kd.R_drew)); exact HO402.out) hb); have n3_ := Aside0.mk (blk_below (g := gb391) (o := .cells #[.slice A0_0 l0_0.length c0_0] 26 (0, 0)) z6_6 hb); have n4_ := Aside0.mk (blk_below (g := gb392) (o := .cells #[.slice none 0 0, .slice none 0 0, .int .i64 0] 44 (0, 0)) z6_10 hb); have n5_ := Aside0.mk (below_step z6_2 hb); have n6_ := Aside0.mk (hbox); have n7_ := Aside0.mk ((by rw [hg]; exact (below_size z6_2) : w.heap.size ≤ gb404)); have n8_ := Aside0.mk ((by rw [hg]; exact (below_size z6_2) : w.heap.size ≤ gb404)); have n9_ := Aside0.mk ((by rw [hg]; exact Nat.ne_of_lt (blk_lt (g := gb391) (o := .cells #[.slice A0_0 l0_0.length c0_0] 26 (0, 0)) z6_6) : gb391 ≠ gb404)); have n10_ := Aside0.mk ((by rw [hg]; exact Nat.ne_of_gt (blk_lt (g := gb391) (o := .cells #[.slice A0_0 l0_0.length c0_0] 26 (0, 0)) z6_6) : gb404 ≠ gb391)); have n11_ := Aside0.mk ((by rw [hg]; exact Nat.ne_of_lt (blk_lt (g := gb392) (o := .cells #[.slice none 0 0, .slice none 0 0, .int .i64 0] 44 (0, 0)) z6_10) : gb392 ≠ gb404)); have n12_ := Aside0.mk ((by rw [hg]; exact Nat.ne_of_gt (blk_lt (g := gb392) (o := .cells #[.slice none 0 0, .slice none 0 0, .int .i64 0] 44 (0, 0)) z6_10) : gb404 ≠ gb392)); clear HO395; clear HO398; clear HO402; clear BK391; clear BK392; clear HB; have HO395 := n0_; have HO398 := n1_; have HO402 := n2_; have BK391 := n3_; have BK392 := n4_; have HB := n5_; have BK404 := n6_; have GW404 := n7_; have GE404 := n8_; have NB391_404 := n9_; have NB404_391 := n10_; have NB392_404 := n11_; have NB404_392 := n12_; clear n0_ n1_ n2_ n3_ n4_ n5_ n6_ n7_ n8_ n9_ n10_ n11_ n12_; clear hb hbox hg; obtain ⟨Ao12, co12, eo12⟩ := Kd.R_slice HO395.out; subst eo12; have hnb13 := NB404_391.out; have hnc13 := NB391_404.out; have hnb14 := NB404_392.out; have hnc14 := NB392_404.out; have hcz15_0 : w11.cell? ⟨gb404, 0, none⟩ = some (.slice none 0 0) := (blk_cell BK404.out 0).trans rfl; have hcz15_1 : w11.cell? ⟨gb404, 1, none⟩ = some (.slice none 0 0) := (blk_cell BK404.out 1).trans rfl; have hcz15_2 : w11.cell? ⟨gb404, 2, none⟩ = some (.int .i64 0) := (blk_cell BK404.out 2).trans rfl; have hfz15_0 := blk_frozen BK404.out 0; have hfz15_1 := blk_frozen BK404.out 1; have hfz15_2 := blk_frozen BK404.out 2; obtain ⟨Ao16, co16, eo16⟩ := Kd.R_slice HO398.out; subst eo16; have hcz17_0 : w11.cell? ⟨gb392, 0, none⟩ = some (.slice none 0 0) := (blk_cell BK392.out 0).trans rfl; have hcz17_1 : w11.cell? ⟨gb392, 1, none⟩ = some (.slice none 0 0) := (blk_cell BK392.out 1).trans rfl; have hcz17_2 : w11.cell? ⟨gb392, 2, none⟩ = some (.int .i64 0) := (blk_cell BK392.out 2).trans rfl; have hfz17_0 := blk_frozen BK392.out 0; have hfz17_1 := blk_frozen BK392.out 1; have hfz17_2 := blk_frozen BK392.out 2) | ((with_reducible refine gate_store (t := 44) (p := 8) rfl ?_); refine store_event (t := 44) (p := 8) (v := ?vo_w18) (w1 := ((((((w11.setCell ⟨gb404, 0, none⟩ (.slice Ao12 t393.length co12)).setCell ⟨gb404, 1, none⟩ (.slice Ao16 t396.length co16)).setCell ⟨gb404, 2, none⟩ (.int .i64 t399)).setCell ⟨gb392, 0, none⟩ (.slice Ao12 t393.length co12)).setCell ⟨gb392, 1, none⟩ (.slice Ao16 t396.length co16)).setCell ⟨gb392, 2, none⟩ (.int .i64 t399))) ?hg ?ho ?hn ?hr ?_; (case ho => rfl); (case hg => rfl); (case hn => rfl); (case hr => exact z6_4); intro w18 hw; have n0_ : Aside0 (Kd.R (Kd.int .i64) 3 w18 w.heap.size (fun k_ => some k_ ≠ (.slice Ao16 t396.length co16 : Value).ownBlock ∧ some k_ ≠ (v401 : Value).ownBlock) (.slice Ao12 t393.length co12) t393) := ⟨(by rw [hw]; exact (by (with_reducible repeat (first | apply Kd.R_alloc | apply Kd.R_drewN | apply Kd.R_drew)); exact Kd.R_mono (Kd.R_far (p := ⟨gb392, 2, none⟩) (Kd.R_far (p := ⟨gb392, 1, none⟩) (Kd.R_far (p := ⟨gb392, 0, none⟩) (Kd.R_far (p := ⟨gb404, 2, none⟩) (Kd.R_far (p := ⟨gb404, 1, none⟩) (Kd.R_far (p := ⟨gb404, 0, none⟩) (Kd.R_types (Kd.R_types HO395.out BK404.out (by decide)) BK392.out (by decide)) (fun _ hk => hk.1.2) (.slice Ao12 t393.length co12)) (fun _ hk => hk.1.2) (.slice Ao16 t396.length co16)) (fun _ hk => hk.1.2) (.int .i64 t399)) (fun _ hk => hk.2) (.slice Ao12 t393.length co12)) (fun _ hk => hk.2) (.slice Ao16 t396.length co16)) (fun _ hk => hk.2) (.int .i64 t399)) (fun _ hk => ⟨hk.1.1.1, hk.1.1.2⟩)))⟩; have n1_ : Aside0 (Kd.R (Kd.int .i64) 3 w18 w.heap.size (fun k_ => some k_ ≠ (.slice Ao12 t393.length co12 : Value).ownBlock ∧ some k_ ≠ (v401 : Value).ownBlock) (.slice Ao16 t396.length co16) t396) := ⟨(by rw [hw]; exact (by (with_reducible repeat (first | apply Kd.R_alloc | apply Kd.R_drewN | apply Kd.R_drew)); exact Kd.R_mono (Kd.R_far (p := ⟨gb392, 2, none⟩) (Kd.R_far (p := ⟨gb392, 1, none⟩) (Kd.R_far (p := ⟨gb392, 0, none⟩) (Kd.R_far (p := ⟨gb404, 2, none⟩) (Kd.R_far (p := ⟨gb404, 1, none⟩) (Kd.R_far (p := ⟨gb404, 0, none⟩) (Kd.R_types (Kd.R_types HO398.out BK404.out (by decide)) BK392.out (by decide)) (fun _ hk => hk.1.2) (.slice Ao12 t393.length co12)) (fun _ hk => hk.1.2) (.slice Ao16 t396.length co16)) (fun _ hk => hk.1.2) (.int .i64 t399)) (fun _ hk => hk.2) (.slice Ao12 t393.length co12)) (fun _ hk => hk.2) (.slice Ao16 t396.length co16)) (fun _ hk => hk.2) (.int .i64 t399)) (fun _ hk => ⟨hk.1.1.1, hk.1.1.2⟩)))⟩; have n2_ : Aside0 (Kd.R (Kd.int .i64) 3 w18 w.heap.size (fun k_ => some k_ ≠ (.slice Ao12 t393.length co12 : Value).ownBlock ∧ some k_ ≠ (.slice Ao16 t396.length co16 : Value).ownBlock) v401 t400) := ⟨(by rw [hw]; exact (by (with_reducible repeat (first | apply Kd.R_alloc | apply Kd.R_drewN | apply Kd.R_drew)); exact Kd.R_mono (Kd.R_far (p := ⟨gb392, 2, none⟩) (Kd.R_far (p := ⟨gb392, 1, none⟩) (Kd.R_far (p := ⟨gb392, 0, none⟩) (Kd.R_far (p := ⟨gb404, 2, none⟩) (Kd.R_far (p := ⟨gb404, 1, none⟩) (Kd.R_far (p := ⟨gb404, 0, none⟩) (Kd.R_types (Kd.R_types HO402.out BK404.out (by decide)) BK392.out (by decide)) (fun _ hk => hk.1.2) (.slice Ao12 t393.length co12)) (fun _ hk => hk.1.2) (.slice Ao16 t396.length co16)) (fun _ hk => hk.1.2) (.int .i64 t399)) (fun _ hk => hk.2) (.slice Ao12 t393.length co12)) (fun _ hk => hk.2) (.slice Ao16 t396.length co16)) (fun _ hk => hk.2) (.int .i64 t399)) (fun _ hk => ⟨hk.1.1.1, hk.1.1.2⟩)))⟩; have n3_ : Aside0 (w18.heap[gb391]? = some (.cells #[.slice A0_0 l0_0.length c0_0] 26 (0, 0))) := ⟨(by rw [hw]; exact (by (with_reducible repeat (first | refine blk_drewN ?_ _ | refine blk_drew ?_ | refine blk_alloc ?_ _)); refine blk_far ?_ NB391_392.out _; (with_reducible repeat (first | refine blk_drewN ?_ _ | refine blk_drew ?_ | refine blk_alloc ?_ _)); refine blk_far ?_ NB391_392.out _; (with_reducible repeat (first | refine blk_drewN ?_ _ | refine blk_drew ?_ | refine blk_alloc ?_ _)); refine blk_far ?_ NB391_392.out _; (with_reducible repeat (first | refine blk_drewN ?_ _ | refine blk_drew ?_ | refine blk_alloc ?_ _)); refine blk_far ?_ NB391_404.out _; (with_reducible repeat (first | refine blk_drewN ?_ _ | refine blk_drew ?_ | refine blk_alloc ?_ _)); refine blk_far ?_ NB391_404.out _; (with_reducible repeat (first | refine blk_drewN ?_ _ | refine blk_drew ?_ | refine blk_alloc ?_ _)); refine blk_far ?_ NB391_404.out _; (with_reducible repeat (first | refine blk_drewN ?_ _ | refine blk_drew ?_ | refine blk_alloc ?_ _)); exact BK391.out))⟩; have n4_ : Aside0 (w18.heap[gb392]? = some (.cells #[.slice Ao12 t393.length co12, .slice Ao16 t396.length co16, .int .i64 t399] 44 (0, 0))) := ⟨(by rw [hw]; exact (by (with_reducible repeat (first | refine blk_drewN ?_ _ | refine blk_drew ?_ | refine blk_alloc ?_ _)); refine blk_put (cs := #[.slice Ao12 t393.length co12, .slice Ao16 t396.length co16, .int .i64 0]) ?_ 2 _ rfl; (with_reducible repeat (first | refine blk_drewN ?_ _ | refine blk_drew ?_ | refine blk_alloc ?_ _)); refine blk_put (cs := #[.slice Ao12 t393.length co12, .slice none 0 0, .int .i64 0]) ?_ 1 _ rfl; (with_reducible repeat (first | refine blk_drewN ?_ _ | refine blk_drew ?_ | refine blk_alloc ?_ _)); refine blk_put (cs := #[.slice none 0 0, .slice none 0 0, .int .i64 0]) ?_ 0 _ rfl; (with_reducible repeat (first | refine blk_drewN ?_ _ | refine blk_drew ?_ | refine blk_alloc ?_ _)); refine blk_far ?_ NB392_404.out _; (with_reducible repeat (first | refine blk_drewN ?_ _ | refine blk_drew ?_ | refine blk_alloc ?_ _)); refine blk_far ?_ NB392_404.out _; (with_reducible repeat (first | refine blk_drewN ?_ _ | refine blk_drew ?_ | refine blk_alloc ?_ _)); refine blk_far ?_ NB392_404.out _; (with_reducible repeat (first | refine blk_drewN ?_ _ | refine blk_drew ?_ | refine blk_alloc ?_ _)); exact BK392.out))⟩; have n5_ : Aside0 (w18.heap[gb404]? = some (.cells #[.slice Ao12 t393.length co12, .slice Ao16 t396.length co16, .int .i64 t399] 44 (0, 0))) := ⟨(by rw [hw]; exact (by (with_reducible repeat (first | refine blk_drewN ?_ _ | refine blk_drew ?_ | refine blk_alloc ?_ _)); refine blk_far ?_ NB404_392.out _; (with_reducible repeat (first | refine blk_drewN ?_ _ | refine blk_drew ?_ | refine blk_alloc ?_ _)); refine blk_far ?_ NB404_392.out _; (with_reducible repeat (first | refine blk_drewN ?_ _ | refine blk_drew ?_ | refine blk_alloc ?_ _)); refine blk_far ?_ NB404_392.out _; (with_reducible repeat (first | refine blk_drewN ?_ _ | refine blk_drew ?_ | refine blk_alloc ?_ _)); refine blk_put (cs := #[.slice Ao12 t393.length co12, .slice Ao16 t396.length co16, .int .i64 0]) ?_ 2 _ rfl; (with_reducible repeat (first | refine blk_drewN ?_ _ | refine blk_drew ?_ | refine blk_alloc ?_ _)); refine blk_put (cs := #[.slice Ao12 t393.length co12, .slice none 0 0, .int .i64 0]) ?_ 1 _ rfl; (with_reducible repeat (first | refine blk_drewN ?_ _ | refine blk_drew ?_ | refine blk_alloc ?_ _)); refine blk_put (cs := #[.slice none 0 0, .slice none 0 0, .int .i64 0]) ?_ 0 _ rfl; (with_reducible repeat (first | refine blk_drewN ?_ _ | refine blk_drew ?_ | refine blk_alloc ?_ _)); exact BK404.out))⟩; have n6_ : Aside0 (Below w.heap.size w w18) := ⟨(by rw [hw]; exact (by repeat (first | (with_reducible first | exact HB.out | apply below_alloc | apply pw_below_drewN | apply below_drew1 | refine below_set ?_ GE391.out | refine below_set ?_ GE392.out | refine below_set ?_ GE404.out) | exact HB.out)))⟩; clear hw; clear HO395; clear HO398; clear HO402; clear BK391; clear BK392; clear BK404; clear HB; have HO395 := n0_; have HO398 := n1_; have HO402 := n2_; have BK391 := n3_; have BK392 := n4_; have BK404 := n5_; have HB := n6_; clear n0_ n1_ n2_ n3_ n4_ n5_ n6_))
  refine bodyPost_ret (results_ct rfl _ _ gb392 44 #[.slice Ao12 t393.length co12, .slice Ao16 t396.length co16, .int .i64 t399] (0, 0) _ rfl z6_10 Try.underlying44 rfl (by kernel_rfl)) rfl ?_
  exact ⟨_, _, by first | rfl | (simp [errW_none, errW_some] <;> rfl) | (simp [*, errW_none, errW_some] <;> rfl) | (simp [*, errW_none, errW_some, i64_w]; done), by (with_reducible repeat (first | apply Kd.R_alloc | apply Kd.R_drewN | apply Kd.R_drew)); exact Kd.R_mono HO395.out (fun _ hk => hk.1), by (with_reducible repeat (first | apply Kd.R_alloc | apply Kd.R_drewN | apply Kd.R_drew)); exact Kd.R_mono HO398.out (fun _ hk => hk.1), by repeat (first | (with_reducible first | exact HB.out | apply below_alloc | apply pw_below_drewN | apply below_drew1 | refine below_set ?_ GE391.out | refine below_set ?_ GE392.out | refine below_set ?_ GE404.out) | exact HB.out)⟩

/-! ### spec_DrawPlaces: function 22 -/
def spec_DrawPlaces.l0 : Nat → List Int → Int → List Int → Int → Int → Option (List Int)
  | 0, _, _, _, _, _ => none
  | k + 1, x4, x5, x409000, x409001, x409002 => if x5 < 12 then ((spec_l01Below.f x409000 x409001 x409002 10000).bind fun bt412 => (if x4.length < 17592186044416 then (spec_DrawPlaces.l0 k (x4 ++ [bt412.1]) (wrap64 (x5 + 1)) x409000 bt412.2.1 bt412.2.2) else (none))) else (some x4)
def spec_DrawPlaces.f (k : Nat) (l0 : List Int) : Option (List Int) := (spec_l01New.f k l0).bind fun bt405 => (spec_DrawPlaces.l0 k (([] : List Int)) 0 bt405.1 bt405.2.1 bt405.2.2)
theorem spec_DrawPlaces.mono_l : ∀ k, (∀ y0 y1 y2 y3 y4, LeO (spec_DrawPlaces.l0 k y0 y1 y2 y3 y4) (spec_DrawPlaces.l0 (k + 1) y0 y1 y2 y3 y4))
  | 0 => fun _ _ _ _ _ r h => by simp [spec_DrawPlaces.l0] at h
  | k + 1 => by
    have ih0 := spec_DrawPlaces.mono_l k
    · intro y0 y1 y2 y3 y4
      unfold spec_DrawPlaces.l0
      repeat' first
      | (with_reducible exact ih0 _ _ _ _ _)
      | (with_reducible exact spec_l01New.mono _ _)
      | (with_reducible exact LeO.refl _)
      | (with_reducible exact LeO.none _)
      | (with_reducible refine LeO.ite ?_ ?_)
      | (with_reducible refine LeO.bind ?_ (fun _ => ?_))
      | exact ih0 _ _ _ _ _
      | exact spec_l01New.mono _ _
      | exact LeO.none _
      | refine LeO.ite ?_ ?_
      | refine LeO.bind ?_ (fun _ => ?_)
theorem spec_DrawPlaces.mono : ∀ a0 k, LeO (spec_DrawPlaces.f k a0) (spec_DrawPlaces.f (k + 1) a0) := by
  intro a0 k
  have ih0 := spec_DrawPlaces.mono_l k
  unfold spec_DrawPlaces.f
  repeat' first
      | (with_reducible exact ih0 _ _ _ _ _)
      | (with_reducible exact spec_l01New.mono _ _)
      | (with_reducible exact LeO.refl _)
      | (with_reducible exact LeO.none _)
      | (with_reducible refine LeO.ite ?_ ?_)
      | (with_reducible refine LeO.bind ?_ (fun _ => ?_))
      | exact ih0 _ _ _ _ _
      | exact spec_l01New.mono _ _
      | exact LeO.none _
      | refine LeO.ite ?_ ?_
      | refine LeO.bind ?_ (fun _ => ?_)
set_option maxHeartbeats 8000000 in
set_option maxRecDepth 100000 in
theorem spec_DrawPlaces.calls (k : Nat) (A0 : Option Addr) (c0 : Nat) (l0 : List Int) (r : List Int) (w : World) (hr0 : Kd.C (Kd.int .u8) w A0 l0.length l0) (hc0 : l0.length ≤ c0) (h : spec_DrawPlaces.f k l0 = some r) :
    Calls Try.prog 22 #[.slice A0 l0.length c0] w fun e w' => ∃ v0_ : Value, e = .returned (v0_) ∧ Kd.R (Kd.int .i64) 3 w' w.heap.size (fun _ => True) v0_ r ∧ Below w.heap.size w w' := by
  have HR0 := Aside0.mk hr0
  have HC0 := Aside0.mk hc0
  clear hr0 hc0
  have HB := Aside0.mk (Below.refl w.heap.size w)
  have H : ((spec_l01New.f k l0).bind fun bt405 => (spec_DrawPlaces.l0 k (([] : List Int)) 0 bt405.1 bt405.2.1 bt405.2.2)) = some r := h
  clear h
  replace H := Option.bind_eq_some_iff.mp H
  obtain ⟨⟨t405, t406, t407⟩, A20, H⟩ := H
  replace H : (spec_DrawPlaces.l0 k (([] : List Int)) 0 t405 t406 t407) = some r := H
  have A2 := Aside0.mk A20
  clear A20
  obtain ⟨y409, hy409⟩ : ∃ y_ : List Int, y_ = (([] : List Int)) := ⟨_, rfl⟩
  replace H : (spec_DrawPlaces.l0 k y409 0 t405 t406 t407) = some r := by first | (rw [hy409]; with_reducible exact H) | (have H2_ := (Option.bind_some _ _).symm.trans H; rw [hy409]; with_reducible exact H2_) | (have H2_ := (Option.bind_some _ _).symm.trans H; with_reducible exact H2_) | with_reducible exact H | (rw [hy409]; exact H) | exact H
  have Ny409 := Aside0.mk hy409
  clear hy409
  have H' := Aside0.mk H
  clear H
  go_enter Try.func22, Try.ntmps22
  go_wp2_with (first | ((first | ((with_reducible refine gate_callee (f := 52) rfl ?_); refine goesL_ (some 7) rfl rfl Try.func52 (by kernel_rfl) rfl #[.slice A0 l0.length c0] rfl z6_7 ?_; (with_reducible refine (spec_l01New.calls k _ _ l0 t405 t406 t407 w _ ?side1 ?side2 ?side3 A2.out).mono ?_)) | (go_at_call 52; (with_reducible refine (spec_l01New.calls k _ _ l0 t405 t406 t407 w _ ?side1 ?side2 ?side3 A2.out).mono ?_))); (case side1 => exact z6_0); (case side2 => exact HR0.out); (case side3 => exact HC0.out); rintro e w3 ⟨g408, rfl, hi, hb, hb2⟩; (first | refine ⟨_, rfl, ?_⟩ | skip); have n0_ := Aside0.mk (hb); have n1_ := Aside0.mk (hi); clear HB; have HB := n0_; have HI408 := n1_; clear n0_ n1_; (try clear hb); (try clear hb2); (try clear hk); (try clear hi)) | ((with_reducible refine gate_dst (N := 8) rfl ?_); refine Kd.R_lit (Kd.int .i64) _ 3 ?hg (N := 8) ?hd (xs := ([] : List Int)) (inner := []) (ok := fun _ => True) (okp := fun _ => True) ?hr ?hp (fun _ hk => hk) trivial (Below.refl _ _) (Nat.le_refl _) (by simp) ?_; (case hd => rfl); (case hg => rfl); (case hr => exact z6_4); (case hp => exact (Reps.none _ _)); intro v410 w4 ho5 hb hg_ hnew_; clear hg_ hnew_; (first | rw [← Ny409.out] at ho5 | (simp only [Int.reduceToNat] at ho5; rw [← Ny409.out] at ho5)); have n0_ := Aside0.mk (Kd.R_lower ho5 (below_size z6_5)); have n1_ := Aside0.mk (IsS116.below z6_11 hb); have n2_ := Aside0.mk (below_step z6_5 hb); clear HI408; clear HB; have HO411 := n0_; have HI408 := n1_; have HB := n2_; clear n0_ n1_ n2_; clear hb ho5))
  go_loopg [4, 5] k (fun kq v4 v5 w' => ∃ (x4_1 : List Int) (x5_1 : Int) (x409001_1 : Int) (x409002_1 : Int), v5 = .int .i64 x5_1 ∧ Aside0 (spec_DrawPlaces.l0 kq x4_1 x5_1 t405 x409001_1 x409002_1 = some r) ∧ Aside0 (kq ≤ k) ∧ Aside0 (Kd.R (Kd.int .i64) 3 w' w.heap.size (fun _ => True) v4 x4_1) ∧ Aside0 (IsS116 w w' g408 t405 x409001_1 x409002_1) ∧ Aside0 (Below w.heap.size w w'))
  case atStart => exact ⟨(y409), (0), (t406), (t407), (by first | rfl | (simp; done) | (simp [*]; done)), H', ⟨Nat.le_refl _⟩, ⟨by (with_reducible repeat (first | apply Kd.R_alloc | apply Kd.R_drewN | apply Kd.R_drew)); exact HO411.out⟩, ⟨by repeat (first | (with_reducible first | exact HI408.out | apply IsS116.alloc | apply IsS116.drewN | apply IsS116.drew | apply IsS116.set_1 | apply IsS116.set_2) | exact HI408.out)⟩, ⟨by repeat (first | (with_reducible first | exact HB.out | apply below_alloc | apply pw_below_drewN | apply below_drew1 | refine below_set ?_ (IsS116.ge HI408.out)) | exact HB.out)⟩⟩
  case round =>
    clear H'
    obtain ⟨x4_1, x5_1, x409001_1, x409002_1, rfl, HA, HK1, HO_4, HI408, HB⟩ := hrel
    cases gk with
    | zero => exact absurd HA.out (by simp [spec_DrawPlaces.l0])
    | succ k1 =>
      have H := HA.out
      clear HA
      simp only [spec_DrawPlaces.l0] at H
      by_cases c6 : x5_1 < 12
      · rw [if_pos c6] at H
        have c6b0 : decide (x5_1 < 12) = true := decide_eq_true c6
        clear c6
        replace H := Option.bind_eq_some_iff.mp H
        obtain ⟨⟨t412, t413, t414⟩, A70, H⟩ := H
        replace H : (if x4_1.length < 17592186044416 then (spec_DrawPlaces.l0 k1 (x4_1 ++ [t412]) (wrap64 (x5_1 + 1)) t405 t413 t414) else (none)) = some r := H
        have A7 := Aside0.mk A70
        clear A70
        by_cases c8 : x4_1.length < 17592186044416
        · rw [if_pos c8] at H
          have LMc8 := Aside0.mk c8
          clear c8
          obtain ⟨y415, hy415⟩ : ∃ y_ : List Int, y_ = (x4_1 ++ [t412]) := ⟨_, rfl⟩
          replace H : (spec_DrawPlaces.l0 k1 y415 (wrap64 (x5_1 + 1)) t405 t413 t414) = some r := by first | (rw [hy415]; with_reducible exact H) | (have H2_ := (Option.bind_some _ _).symm.trans H; rw [hy415]; with_reducible exact H2_) | (have H2_ := (Option.bind_some _ _).symm.trans H; with_reducible exact H2_) | with_reducible exact H | (rw [hy415]; exact H) | exact H
          have Ny415 := Aside0.mk hy415
          clear hy415
          have H' := Aside0.mk H
          clear H
          go_wp2_with (first | ((first | ((with_reducible refine gate_callee (f := 68) rfl ?_); refine goesL_ (some 15) rfl rfl Try.func68 (by kernel_rfl) rfl #[.pointer (some ⟨g408, 0, none⟩), .int .i64 10000] rfl z6_7 ?_; (with_reducible refine (spec_l01Below.calls g408 t405 x409001_1 x409002_1 10000 t412 t413 t414 w _ ?side1 ?side2 A7.out).mono ?_)) | (go_at_call 68; (with_reducible refine (spec_l01Below.calls g408 t405 x409001_1 x409002_1 10000 t412 t413 t414 w _ ?side1 ?side2 A7.out).mono ?_))); (case side1 => exact z6_11); (case side2 => exact z6_5); rintro e w9 ⟨rfl, hi, hb, hk⟩; (first | refine ⟨_, rfl, ?_⟩ | skip); have n0_ := Aside0.mk (Kd.R_mono (Kd.R_keep (IsS116.apart (show IsS116 w _ g408 t405 x409001_1 x409002_1 from by repeat (first | (with_reducible first | exact HI408.out | apply IsS116.alloc | apply IsS116.drewN | apply IsS116.drew | apply IsS116.set_1 | apply IsS116.set_2) | exact HI408.out)) (by (with_reducible repeat (first | apply Kd.R_alloc | apply Kd.R_drewN | apply Kd.R_drew)); exact HO_4.out) (by decide)) hk (fun _ h => h.2)) (fun _ h => h.1)); have n1_ := Aside0.mk (hb); have n2_ := Aside0.mk (hi); clear HO_4; clear HB; clear HI408; have HO_4 := n0_; have HB := n1_; have HI408 := n2_; clear n0_ n1_ n2_; (try clear hb); (try clear hb2); (try clear hk); (try clear hi)) | ((with_reducible refine gate_builtin (b := .append) (xs := #[.tmp 13, .tmp 16]) rfl ?_); at_builtin; refine Kd.R_append (Kd.int .i64) (w0 := w) w.heap.size rfl (.tmp 13) (.tmp 16) 28 3 (.int .i64 0) 8 rfl Try.underlying28 info3 rfl (by decide) (by omega) u4 x4_1 t412 [.int .i64 t412] (fun _ => True) (fun _ => False) rfl rfl ?aP (fun _ hk => hk.elim) ?aF ?aO ?aB ?aS ?aL ?_; (case aP => exact rfl); (case aB => exact z6_5); (case aF => exact (fun _ _ => trivial)); (case aO => exact (by (with_reducible repeat (first | apply Kd.R_alloc | apply Kd.R_drewN | apply Kd.R_drew)); exact HO_4.out)); (case aS => exact (below_size z6_5)); (case aL => have := LMc8.out; omega); intro v416 w10 ho hb hg hat; rw [← Ny415.out] at ho; have n0_ := Aside0.mk (IsS116.grown z6_11 hg (IsS116.own_ne HI408.out HO_4.out (by decide))); have n1_ := Aside0.mk (hb); have n2_ := Aside0.mk (ho); clear HI408; clear HB; clear HO_4; have HI408 := n0_; have HB := n1_; have HO417 := n2_; clear n0_ n1_ n2_; clear ho hb hg hat))
          go_roundg k1
          case measure => have := HK1.out; omega
          case rel => exact ⟨(y415), (wrap64 (x5_1 + 1)), (t413), (t414), (by first | rfl | (simp; done) | (simp [*]; done)), H', ⟨by have := HK1.out; omega⟩, ⟨by (with_reducible repeat (first | apply Kd.R_alloc | apply Kd.R_drewN | apply Kd.R_drew)); exact HO417.out⟩, ⟨by repeat (first | (with_reducible first | exact HI408.out | apply IsS116.alloc | apply IsS116.drewN | apply IsS116.drew | apply IsS116.set_1 | apply IsS116.set_2) | exact HI408.out)⟩, ⟨by repeat (first | (with_reducible first | exact HB.out | apply below_alloc | apply pw_below_drewN | apply below_drew1 | refine below_set ?_ (IsS116.ge HI408.out)) | exact HB.out)⟩⟩
        · rw [if_neg c8] at H
          exact absurd H (by simp)
      · rw [if_neg c6] at H
        have c6b0 : decide (x5_1 < 12) = false := decide_eq_false c6
        clear c6
        obtain rfl := Option.some.inj H
        go_wp2
        go_ret
        exact ⟨_, by first | rfl | (simp [errW_none, errW_some] <;> rfl) | (simp [*, errW_none, errW_some] <;> rfl) | (simp [*, errW_none, errW_some, i64_w]; done), by (with_reducible repeat (first | apply Kd.R_alloc | apply Kd.R_drewN | apply Kd.R_drew)); exact HO_4.out, by repeat (first | (with_reducible first | exact HB.out | apply below_alloc | apply pw_below_drewN | apply below_drew1 | refine below_set ?_ (IsS116.ge HI408.out)) | exact HB.out)⟩

/-! ### slices_Equal_int_int: function 72 -/
def slices_Equal_int_int.l0 : Nat → List Int → List Int → Int → Int → Option (Bool)
  | 0, _, _, _, _ => none
  | k + 1, x0, x1, x12, x13 => if x13 < x12 then (if 0 ≤ x13 then (if x13 < (x0.length : Int) then (if x13 < (x1.length : Int) then (if (rd x0 x13) = (rd x1 x13) then (slices_Equal_int_int.l0 k x0 x1 x12 (wrap64 (x13 + 1))) else (some false)) else (none)) else (none)) else (none)) else (some true)
def slices_Equal_int_int.f (k : Nat) (l0 : List Int) (l1 : List Int) : Option (Bool) := if (l0.length : Int) = (l1.length : Int) then (slices_Equal_int_int.l0 k l0 l1 (l0.length : Int) 0) else (some false)
theorem slices_Equal_int_int.mono_l : ∀ k, (∀ y0 y1 y2 y3, LeO (slices_Equal_int_int.l0 k y0 y1 y2 y3) (slices_Equal_int_int.l0 (k + 1) y0 y1 y2 y3))
  | 0 => fun _ _ _ _ r h => by simp [slices_Equal_int_int.l0] at h
  | k + 1 => by
    have ih0 := slices_Equal_int_int.mono_l k
    · intro y0 y1 y2 y3
      unfold slices_Equal_int_int.l0
      repeat' first
      | (with_reducible exact ih0 _ _ _ _)
      | (with_reducible exact LeO.refl _)
      | (with_reducible exact LeO.none _)
      | (with_reducible refine LeO.ite ?_ ?_)
      | (with_reducible refine LeO.bind ?_ (fun _ => ?_))
      | exact ih0 _ _ _ _
      | exact LeO.none _
      | refine LeO.ite ?_ ?_
      | refine LeO.bind ?_ (fun _ => ?_)
theorem slices_Equal_int_int.mono : ∀ a0 a1 k, LeO (slices_Equal_int_int.f k a0 a1) (slices_Equal_int_int.f (k + 1) a0 a1) := by
  intro a0 a1 k
  have ih0 := slices_Equal_int_int.mono_l k
  unfold slices_Equal_int_int.f
  repeat' first
      | (with_reducible exact ih0 _ _ _ _)
      | (with_reducible exact LeO.refl _)
      | (with_reducible exact LeO.none _)
      | (with_reducible refine LeO.ite ?_ ?_)
      | (with_reducible refine LeO.bind ?_ (fun _ => ?_))
      | exact ih0 _ _ _ _
      | exact LeO.none _
      | refine LeO.ite ?_ ?_
      | refine LeO.bind ?_ (fun _ => ?_)
set_option maxHeartbeats 8000000 in
set_option maxRecDepth 100000 in
theorem slices_Equal_int_int.calls (k : Nat) (A0 : Option Addr) (c0 : Nat) (l0 : List Int) (A1 : Option Addr) (c1 : Nat) (l1 : List Int) (r : Bool) (w : World) (hr0 : Kd.C (Kd.int .i64) w A0 l0.length l0) (hc0 : l0.length ≤ c0) (hr1 : Kd.C (Kd.int .i64) w A1 l1.length l1) (hc1 : l1.length ≤ c1) (h : slices_Equal_int_int.f k l0 l1 = some r) :
    Calls Try.prog 72 #[.slice A0 l0.length c0, .slice A1 l1.length c1] w fun e w' => e = .returned (.bool r) ∧ Drawn0 w w' := by
  have HR0 := Aside0.mk hr0
  have HC0 := Aside0.mk hc0
  clear hr0 hc0
  have HR1 := Aside0.mk hr1
  have HC1 := Aside0.mk hc1
  clear hr1 hc1
  have H : (if (l0.length : Int) = (l1.length : Int) then (slices_Equal_int_int.l0 k l0 l1 (l0.length : Int) 0) else (some false)) = some r := h
  clear h
  by_cases c3 : (l0.length : Int) = (l1.length : Int)
  · rw [if_pos c3] at H
    have c3b0 : ((l0.length : Int) == (l1.length : Int)) = true := beq_iff_eq.mpr c3
    have c3b1 : ((l0.length : Int) != (l1.length : Int)) = false := bne_eq_false_iff_eq.mpr c3
    have c3b2 : (l0.length == l1.length) = true := by first | simpa using c3 | (simp at c3 ⊢; omega)
    clear c3
    have H' := Aside0.mk H
    clear H
    go_enter Try.func72, Try.ntmps72
    go_wp2
    repeat (go_quiet (fail); try go_wp2)
    go_loopg [13] k (fun kq v13 w' => ∃ (x13_1 : Int), v13 = .int .i64 x13_1 ∧ Aside0 (slices_Equal_int_int.l0 kq l0 l1 (l0.length : Int) x13_1 = some r) ∧ Aside0 (kq ≤ k) ∧ Drawn0 w w')
    case atStart => exact ⟨(0), (by first | rfl | (simp; done) | (simp [*]; done)), H', ⟨Nat.le_refl _⟩, by repeat (first | exact Drawn0.refl _ | apply Drawn0.step)⟩
    case round =>
      clear H'
      (try clear c1); (try clear c3); (try clear c3b0); (try clear c3b1); (try clear c3b2)
      obtain ⟨x13_1, rfl, HA, HK1, ⟨m1, rfl⟩⟩ := hrel
      cases gk with
      | zero => exact absurd HA.out (by simp [slices_Equal_int_int.l0])
      | succ k1 =>
        have H := HA.out
        clear HA
        simp only [slices_Equal_int_int.l0] at H
        by_cases c4 : x13_1 < (l0.length : Int)
        · rw [if_pos c4] at H
          have c4b0 : decide (x13_1 < (l0.length : Int)) = true := decide_eq_true c4
          clear c4
          by_cases c5 : 0 ≤ x13_1
          · rw [if_pos c5] at H
            have c5b0 : decide (0 ≤ x13_1) = true := decide_eq_true c5
            clear c5
            by_cases c6 : x13_1 < (l0.length : Int)
            · rw [if_pos c6] at H
              have c6b0 : decide (x13_1 < (l0.length : Int)) = true := decide_eq_true c6
              clear c6
              by_cases c7 : x13_1 < (l1.length : Int)
              · rw [if_pos c7] at H
                have c7b0 : decide (x13_1 < (l1.length : Int)) = true := decide_eq_true c7
                clear c7
                by_cases c8 : (rd l0 x13_1) = (rd l1 x13_1)
                · rw [if_pos c8] at H
                  have c8b0 : ((rd l0 x13_1) == (rd l1 x13_1)) = true := beq_iff_eq.mpr c8
                  have c8b1 : ((rd l0 x13_1) != (rd l1 x13_1)) = false := bne_eq_false_iff_eq.mpr c8
                  clear c8
                  have H' := Aside0.mk H
                  clear H
                  have p418 : 0 ≤ (x13_1 : Int) := of_decide_eq_true z6_14
                  have q418 : x13_1 < (l0.length : Int) := of_decide_eq_true z6_14
                  obtain ⟨ad418, e418, hx418_0⟩ := Kd.at_int HR0.out x13_1 p418 q418
                  cases e418
                  replace p418 := eq_true p418
                  replace q418 := eq_true q418
                  have p419 : 0 ≤ (x13_1 : Int) := of_decide_eq_true z6_14
                  have q419 : x13_1 < (l1.length : Int) := of_decide_eq_true z6_14
                  obtain ⟨ad419, e419, hx419_0⟩ := Kd.at_int HR1.out x13_1 p419 q419
                  cases e419
                  replace p419 := eq_true p419
                  replace q419 := eq_true q419
                  go_wp2
                  repeat (go_quiet (fail); try go_wp2)
                  go_roundg k1
                  case measure => have := HK1.out; omega
                  case rel => exact ⟨(wrap64 (x13_1 + 1)), (by first | rfl | (simp; done) | (simp [*]; done)), H', ⟨by have := HK1.out; omega⟩, by repeat (first | exact Drawn0.refl _ | apply Drawn0.step)⟩
                · rw [if_neg c8] at H
                  have c8b0 : ((rd l0 x13_1) == (rd l1 x13_1)) = false := beq_eq_false_iff_ne.mpr c8
                  have c8b1 : ((rd l0 x13_1) != (rd l1 x13_1)) = true := bne_iff_ne.mpr c8
                  obtain rfl := Option.some.inj H
                  have p418 : 0 ≤ (x13_1 : Int) := of_decide_eq_true z6_14
                  have q418 : x13_1 < (l0.length : Int) := of_decide_eq_true z6_14
                  obtain ⟨ad418, e418, hx418_0⟩ := Kd.at_int HR0.out x13_1 p418 q418
                  cases e418
                  replace p418 := eq_true p418
                  replace q418 := eq_true q418
                  have p419 : 0 ≤ (x13_1 : Int) := of_decide_eq_true z6_14
                  have q419 : x13_1 < (l1.length : Int) := of_decide_eq_true z6_14
                  obtain ⟨ad419, e419, hx419_0⟩ := Kd.at_int HR1.out x13_1 p419 q419
                  cases e419
                  replace p419 := eq_true p419
                  replace q419 := eq_true q419
                  go_wp2
                  repeat (go_quiet (fail); try go_wp2)
                  go_ret
                  exact ⟨by first | rfl | (simp; done) | (simp [*]; done), by repeat (first | exact Drawn0.refl _ | apply Drawn0.step)⟩
              · rw [if_neg c7] at H
                exact absurd H (by simp)
            · rw [if_neg c6] at H
              exact absurd H (by simp)
          · rw [if_neg c5] at H
            exact absurd H (by simp)
        · rw [if_neg c4] at H
          have c4b0 : decide (x13_1 < (l0.length : Int)) = false := decide_eq_false c4
          clear c4
          obtain rfl := Option.some.inj H
          go_wp2
          repeat (go_quiet (fail); try go_wp2)
          go_ret
          exact ⟨by first | rfl | (simp; done) | (simp [*]; done), by repeat (first | exact Drawn0.refl _ | apply Drawn0.step)⟩
  · rw [if_neg c3] at H
    have c3b0 : ((l0.length : Int) == (l1.length : Int)) = false := beq_eq_false_iff_ne.mpr c3
    have c3b1 : ((l0.length : Int) != (l1.length : Int)) = true := bne_iff_ne.mpr c3
    have c3b2 : (l0.length == l1.length) = false := by first | simpa using c3 | (simp at c3 ⊢; omega)
    obtain rfl := Option.some.inj H
    go_enter Try.func72, Try.ntmps72
    go_wp2
    repeat (go_quiet (fail); try go_wp2)
    go_ret
    exact ⟨by first | rfl | (simp; done) | (simp [*]; done), by repeat (first | exact Drawn0.refl _ | apply Drawn0.step)⟩

/-! ### impl_SameRef: function 25 -/
def impl_SameRef.f (k : Nat) (l0_0 : List Int) (l0_1 : List Int) (a0_2 : Int) (l1_0 : List Int) (l1_1 : List Int) (a1_2 : Int) : Option (Bool) := (slices_Equal_int_int.f k l0_0 l1_0).bind fun t422 => (if t422 = true then ((slices_Equal_int_int.f k l0_1 l1_1).bind fun t423 => (if t423 = true then (some (a0_2 == a1_2)) else (some false))) else (some false))
theorem impl_SameRef.mono : ∀ a0 a1 a2 a3 a4 a5 k, LeO (impl_SameRef.f k a0 a1 a2 a3 a4 a5) (impl_SameRef.f (k + 1) a0 a1 a2 a3 a4 a5) := by
  intro a0 a1 a2 a3 a4 a5 k
  unfold impl_SameRef.f
  repeat' first
      | (with_reducible exact slices_Equal_int_int.mono _ _ _)
      | (with_reducible exact LeO.refl _)
      | (with_reducible exact LeO.none _)
      | (with_reducible refine LeO.ite ?_ ?_)
      | (with_reducible refine LeO.bind ?_ (fun _ => ?_))
      | exact slices_Equal_int_int.mono _ _ _
      | exact LeO.none _
      | refine LeO.ite ?_ ?_
      | refine LeO.bind ?_ (fun _ => ?_)
set_option maxHeartbeats 8000000 in
set_option maxRecDepth 100000 in
theorem impl_SameRef.calls (k : Nat) (A0_0 : Option Addr) (c0_0 : Nat) (l0_0 : List Int) (A0_1 : Option Addr) (c0_1 : Nat) (l0_1 : List Int) (a0_2 : Int) (A1_0 : Option Addr) (c1_0 : Nat) (l1_0 : List Int) (A1_1 : Option Addr) (c1_1 : Nat) (l1_1 : List Int) (a1_2 : Int) (r : Bool) (w : World) (hr0_0 : Kd.C (Kd.int .i64) w A0_0 l0_0.length l0_0) (hc0_0 : l0_0.length ≤ c0_0) (hr0_1 : Kd.C (Kd.int .i64) w A0_1 l0_1.length l0_1) (hc0_1 : l0_1.length ≤ c0_1) (hr1_0 : Kd.C (Kd.int .i64) w A1_0 l1_0.length l1_0) (hc1_0 : l1_0.length ≤ c1_0) (hr1_1 : Kd.C (Kd.int .i64) w A1_1 l1_1.length l1_1) (hc1_1 : l1_1.length ≤ c1_1) (h : impl_SameRef.f k l0_0 l0_1 a0_2 l1_0 l1_1 a1_2 = some r) :
    Calls Try.prog 25 #[.agg #[.slice A0_0 l0_0.length c0_0, .slice A0_1 l0_1.length c0_1, .int .i64 a0_2], .agg #[.slice A1_0 l1_0.length c1_0, .slice A1_1 l1_1.length c1_1, .int .i64 a1_2]] w fun e w' => e = .returned (.bool r) ∧ Below w.heap.size w w' := by
  have hu44 := Try.underlying44
  have HR0_0 := Aside0.mk hr0_0
  have HC0_0 := Aside0.mk hc0_0
  clear hr0_0 hc0_0
  have HR0_1 := Aside0.mk hr0_1
  have HC0_1 := Aside0.mk hc0_1
  clear hr0_1 hc0_1
  have HR1_0 := Aside0.mk hr1_0
  have HC1_0 := Aside0.mk hc1_0
  clear hr1_0 hc1_0
  have HR1_1 := Aside0.mk hr1_1
  have HC1_1 := Aside0.mk hc1_1
  clear hr1_1 hc1_1
  have HB := Aside0.mk (Below.refl w.heap.size w)
  have H : ((slices_Equal_int_int.f k l0_0 l1_0).bind fun t422 => (if t422 = true then ((slices_Equal_int_int.f k l0_1 l1_1).bind fun t423 => (if t423 = true then (some (a0_2 == a1_2)) else (some false))) else (some false))) = some r := h
  clear h
  replace H := Option.bind_eq_some_iff.mp H
  obtain ⟨t422, A30, H⟩ := H
  replace H : (if t422 = true then ((slices_Equal_int_int.f k l0_1 l1_1).bind fun t423 => (if t423 = true then (some (a0_2 == a1_2)) else (some false))) else (some false)) = some r := H
  have A3 := Aside0.mk A30
  clear A30
  by_cases c4 : t422 = true
  · subst c4
    have H1 : ((slices_Equal_int_int.f k l0_1 l1_1).bind fun t423 => (if t423 = true then (some (a0_2 == a1_2)) else (some false))) = some r := by rw [if_pos rfl] at H; exact H
    clear H
    have H := H1
    clear H1
    replace H := Option.bind_eq_some_iff.mp H
    obtain ⟨t423, A50, H⟩ := H
    replace H : (if t423 = true then (some (a0_2 == a1_2)) else (some false)) = some r := H
    have A5 := Aside0.mk A50
    clear A50
    by_cases c6 : t423 = true
    · subst c6
      have H1 : (some (a0_2 == a1_2)) = some r := by rw [if_pos rfl] at H; exact H
      clear H
      have H := H1
      clear H1
      obtain rfl := Option.some.inj H
      go_enter Try.func25, Try.ntmps25
      go_wp2_with (first | ((with_reducible refine gate_dst (N := 2) rfl ?_); refine box_event ?hg (N := 2) ?hd (cs := #[.slice A0_0 l0_0.length c0_0, .slice A0_1 l0_1.length c0_1, .int .i64 a0_2]) (t := 44) ?hr ?_; (case hd => rfl); (case hg => rfl); (case hr => exact z6_4); intro gb420 hg w7 hbox hb; have n0_ := Aside0.mk (below_step z6_0 hb); have n1_ := Aside0.mk (hbox); have n2_ := Aside0.mk ((z6_17 : w.heap.size ≤ gb420)); have n3_ := Aside0.mk ((z6_17 : w.heap.size ≤ gb420)); clear HB; have HB := n0_; have BK420 := n1_; have GW420 := n2_; have GE420 := n3_; clear n0_ n1_ n2_ n3_; clear hb hbox hg) | ((with_reducible refine gate_dst (N := 3) rfl ?_); refine box_event ?hg (N := 3) ?hd (cs := #[.slice A1_0 l1_0.length c1_0, .slice A1_1 l1_1.length c1_1, .int .i64 a1_2]) (t := 44) ?hr ?_; (case hd => rfl); (case hg => rfl); (case hr => exact z6_4); intro gb421 hg w8 hbox hb; have n0_ := Aside0.mk (blk_below (g := gb420) (o := .cells #[.slice A0_0 l0_0.length c0_0, .slice A0_1 l0_1.length c0_1, .int .i64 a0_2] 44 (0, 0)) z6_3 hb); have n1_ := Aside0.mk (below_step z6_1 hb); have n2_ := Aside0.mk (hbox); have n3_ := Aside0.mk ((by rw [hg]; exact (below_size z6_1) : w.heap.size ≤ gb421)); have n4_ := Aside0.mk ((by rw [hg]; exact (below_size z6_1) : w.heap.size ≤ gb421)); have n5_ := Aside0.mk ((z6_15 : gb420 ≠ gb421)); have n6_ := Aside0.mk ((z6_16 : gb421 ≠ gb420)); clear BK420; clear HB; have BK420 := n0_; have HB := n1_; have BK421 := n2_; have GW421 := n3_; have GE421 := n4_; have NB420_421 := n5_; have NB421_420 := n6_; clear n0_ n1_ n2_ n3_ n4_ n5_ n6_; clear hb hbox hg; have hnb9 := NB420_421.out; have hnc9 := NB421_420.out; have hcz10_0 : w8.cell? ⟨gb420, 0, none⟩ = some (.slice A0_0 l0_0.length c0_0) := (blk_cell BK420.out 0).trans rfl; have hcz10_1 : w8.cell? ⟨gb420, 1, none⟩ = some (.slice A0_1 l0_1.length c0_1) := (blk_cell BK420.out 1).trans rfl; have hcz10_2 : w8.cell? ⟨gb420, 2, none⟩ = some (.int .i64 a0_2) := (blk_cell BK420.out 2).trans rfl; have hfz10_0 := blk_frozen BK420.out 0; have hfz10_1 := blk_frozen BK420.out 1; have hfz10_2 := blk_frozen BK420.out 2; have hcz11_0 : w8.cell? ⟨gb421, 0, none⟩ = some (.slice A1_0 l1_0.length c1_0) := (blk_cell BK421.out 0).trans rfl; have hcz11_1 : w8.cell? ⟨gb421, 1, none⟩ = some (.slice A1_1 l1_1.length c1_1) := (blk_cell BK421.out 1).trans rfl; have hcz11_2 : w8.cell? ⟨gb421, 2, none⟩ = some (.int .i64 a1_2) := (blk_cell BK421.out 2).trans rfl; have hfz11_0 := blk_frozen BK421.out 0; have hfz11_1 := blk_frozen BK421.out 1; have hfz11_2 := blk_frozen BK421.out 2) | ((first | ((with_reducible refine gate_callee (f := 72) rfl ?_); refine goesL_ (some 9) rfl rfl Try.func72 (by kernel_rfl) rfl #[.slice A0_0 l0_0.length c0_0, .slice A1_0 l1_0.length c1_0] rfl z6_7 ?_; (with_reducible refine (slices_Equal_int_int.calls k _ _ l0_0 _ _ l1_0 true _ ?side1 ?side2 ?side3 ?side4 A3.out).mono ?_)) | (go_at_call 72; (with_reducible refine (slices_Equal_int_int.calls k _ _ l0_0 _ _ l1_0 true _ ?side1 ?side2 ?side3 ?side4 A3.out).mono ?_))); (case side1 => exact z6_9); (case side2 => exact HC0_0.out); (case side3 => exact z6_12); (case side4 => exact HC1_0.out); rintro e w' ⟨rfl, ⟨nd, rfl⟩⟩; (first | refine ⟨_, rfl, ?_⟩ | skip)) | (go_at_call 72; (with_reducible refine (slices_Equal_int_int.calls k _ _ l0_1 _ _ l1_1 true _ ?side1 ?side2 ?side3 ?side4 A5.out).mono ?_); (case side1 => repeat (first | exact (Kd.C_below HR0_1.out z6_8) | (with_reducible refine Kd.C_alloc ?_ _) | (with_reducible refine Kd.C_drewN ?_ _) | (with_reducible refine Kd.C_drew ?_))); (case side2 => exact HC0_1.out); (case side3 => repeat (first | exact (Kd.C_below HR1_1.out z6_8) | (with_reducible refine Kd.C_alloc ?_ _) | (with_reducible refine Kd.C_drewN ?_ _) | (with_reducible refine Kd.C_drew ?_))); (case side4 => exact HC1_1.out); rintro e w' ⟨rfl, ⟨nd, rfl⟩⟩))
      go_ret
      exact ⟨by first | rfl | (simp [errW_none, errW_some] <;> rfl) | (simp [*, errW_none, errW_some] <;> rfl) | (simp [*, errW_none, errW_some, i64_w]; done), by repeat (first | (with_reducible first | exact HB.out | apply below_alloc | apply pw_below_drewN | apply below_drew1 | refine below_set ?_ GE420.out | refine below_set ?_ GE421.out) | exact HB.out)⟩
    · replace c6 := Bool.eq_false_iff.mpr c6
      subst c6
      have H1 : (some false) = some r := by rw [if_neg (show ¬ (false = true) by decide)] at H; exact H
      clear H
      have H := H1
      clear H1
      obtain rfl := Option.some.inj H
      go_enter Try.func25, Try.ntmps25
      go_wp2_with (first | ((with_reducible refine gate_dst (N := 2) rfl ?_); refine box_event ?hg (N := 2) ?hd (cs := #[.slice A0_0 l0_0.length c0_0, .slice A0_1 l0_1.length c0_1, .int .i64 a0_2]) (t := 44) ?hr ?_; (case hd => rfl); (case hg => rfl); (case hr => exact z6_4); intro gb420 hg w12 hbox hb; have n0_ := Aside0.mk (below_step z6_0 hb); have n1_ := Aside0.mk (hbox); have n2_ := Aside0.mk ((z6_17 : w.heap.size ≤ gb420)); have n3_ := Aside0.mk ((z6_17 : w.heap.size ≤ gb420)); clear HB; have HB := n0_; have BK420 := n1_; have GW420 := n2_; have GE420 := n3_; clear n0_ n1_ n2_ n3_; clear hb hbox hg) | ((with_reducible refine gate_dst (N := 3) rfl ?_); refine box_event ?hg (N := 3) ?hd (cs := #[.slice A1_0 l1_0.length c1_0, .slice A1_1 l1_1.length c1_1, .int .i64 a1_2]) (t := 44) ?hr ?_; (case hd => rfl); (case hg => rfl); (case hr => exact z6_4); intro gb421 hg w13 hbox hb; have n0_ := Aside0.mk (blk_below (g := gb420) (o := .cells #[.slice A0_0 l0_0.length c0_0, .slice A0_1 l0_1.length c0_1, .int .i64 a0_2] 44 (0, 0)) z6_3 hb); have n1_ := Aside0.mk (below_step z6_1 hb); have n2_ := Aside0.mk (hbox); have n3_ := Aside0.mk ((by rw [hg]; exact (below_size z6_1) : w.heap.size ≤ gb421)); have n4_ := Aside0.mk ((by rw [hg]; exact (below_size z6_1) : w.heap.size ≤ gb421)); have n5_ := Aside0.mk ((z6_15 : gb420 ≠ gb421)); have n6_ := Aside0.mk ((z6_16 : gb421 ≠ gb420)); clear BK420; clear HB; have BK420 := n0_; have HB := n1_; have BK421 := n2_; have GW421 := n3_; have GE421 := n4_; have NB420_421 := n5_; have NB421_420 := n6_; clear n0_ n1_ n2_ n3_ n4_ n5_ n6_; clear hb hbox hg; have hnb14 := NB420_421.out; have hnc14 := NB421_420.out; have hcz15_0 : w13.cell? ⟨gb420, 0, none⟩ = some (.slice A0_0 l0_0.length c0_0) := (blk_cell BK420.out 0).trans rfl; have hcz15_1 : w13.cell? ⟨gb420, 1, none⟩ = some (.slice A0_1 l0_1.length c0_1) := (blk_cell BK420.out 1).trans rfl; have hcz15_2 : w13.cell? ⟨gb420, 2, none⟩ = some (.int .i64 a0_2) := (blk_cell BK420.out 2).trans rfl; have hfz15_0 := blk_frozen BK420.out 0; have hfz15_1 := blk_frozen BK420.out 1; have hfz15_2 := blk_frozen BK420.out 2; have hcz16_0 : w13.cell? ⟨gb421, 0, none⟩ = some (.slice A1_0 l1_0.length c1_0) := (blk_cell BK421.out 0).trans rfl; have hcz16_1 : w13.cell? ⟨gb421, 1, none⟩ = some (.slice A1_1 l1_1.length c1_1) := (blk_cell BK421.out 1).trans rfl; have hcz16_2 : w13.cell? ⟨gb421, 2, none⟩ = some (.int .i64 a1_2) := (blk_cell BK421.out 2).trans rfl; have hfz16_0 := blk_frozen BK421.out 0; have hfz16_1 := blk_frozen BK421.out 1; have hfz16_2 := blk_frozen BK421.out 2) | ((first | ((with_reducible refine gate_callee (f := 72) rfl ?_); refine goesL_ (some 9) rfl rfl Try.func72 (by kernel_rfl) rfl #[.slice A0_0 l0_0.length c0_0, .slice A1_0 l1_0.length c1_0] rfl z6_7 ?_; (with_reducible refine (slices_Equal_int_int.calls k _ _ l0_0 _ _ l1_0 true _ ?side1 ?side2 ?side3 ?side4 A3.out).mono ?_)) | (go_at_call 72; (with_reducible refine (slices_Equal_int_int.calls k _ _ l0_0 _ _ l1_0 true _ ?side1 ?side2 ?side3 ?side4 A3.out).mono ?_))); (case side1 => exact z6_9); (case side2 => exact HC0_0.out); (case side3 => exact z6_12); (case side4 => exact HC1_0.out); rintro e w' ⟨rfl, ⟨nd, rfl⟩⟩; (first | refine ⟨_, rfl, ?_⟩ | skip)) | (go_at_call 72; (with_reducible refine (slices_Equal_int_int.calls k _ _ l0_1 _ _ l1_1 false _ ?side1 ?side2 ?side3 ?side4 A5.out).mono ?_); (case side1 => repeat (first | exact (Kd.C_below HR0_1.out z6_8) | (with_reducible refine Kd.C_alloc ?_ _) | (with_reducible refine Kd.C_drewN ?_ _) | (with_reducible refine Kd.C_drew ?_))); (case side2 => exact HC0_1.out); (case side3 => repeat (first | exact (Kd.C_below HR1_1.out z6_8) | (with_reducible refine Kd.C_alloc ?_ _) | (with_reducible refine Kd.C_drewN ?_ _) | (with_reducible refine Kd.C_drew ?_))); (case side4 => exact HC1_1.out); rintro e w' ⟨rfl, ⟨nd, rfl⟩⟩))
      go_ret
      exact ⟨by first | rfl | (simp [errW_none, errW_some] <;> rfl) | (simp [*, errW_none, errW_some] <;> rfl) | (simp [*, errW_none, errW_some, i64_w]; done), by repeat (first | (with_reducible first | exact HB.out | apply below_alloc | apply pw_below_drewN | apply below_drew1 | refine below_set ?_ GE420.out | refine below_set ?_ GE421.out) | exact HB.out)⟩
  · replace c4 := Bool.eq_false_iff.mpr c4
    subst c4
    have H1 : (some false) = some r := by rw [if_neg (show ¬ (false = true) by decide)] at H; exact H
    clear H
    have H := H1
    clear H1
    obtain rfl := Option.some.inj H
    go_enter Try.func25, Try.ntmps25
    go_wp2_with (first | ((with_reducible refine gate_dst (N := 2) rfl ?_); refine box_event ?hg (N := 2) ?hd (cs := #[.slice A0_0 l0_0.length c0_0, .slice A0_1 l0_1.length c0_1, .int .i64 a0_2]) (t := 44) ?hr ?_; (case hd => rfl); (case hg => rfl); (case hr => exact z6_4); intro gb420 hg w17 hbox hb; have n0_ := Aside0.mk (below_step z6_0 hb); have n1_ := Aside0.mk (hbox); have n2_ := Aside0.mk ((z6_17 : w.heap.size ≤ gb420)); have n3_ := Aside0.mk ((z6_17 : w.heap.size ≤ gb420)); clear HB; have HB := n0_; have BK420 := n1_; have GW420 := n2_; have GE420 := n3_; clear n0_ n1_ n2_ n3_; clear hb hbox hg) | ((with_reducible refine gate_dst (N := 3) rfl ?_); refine box_event ?hg (N := 3) ?hd (cs := #[.slice A1_0 l1_0.length c1_0, .slice A1_1 l1_1.length c1_1, .int .i64 a1_2]) (t := 44) ?hr ?_; (case hd => rfl); (case hg => rfl); (case hr => exact z6_4); intro gb421 hg w18 hbox hb; have n0_ := Aside0.mk (blk_below (g := gb420) (o := .cells #[.slice A0_0 l0_0.length c0_0, .slice A0_1 l0_1.length c0_1, .int .i64 a0_2] 44 (0, 0)) z6_3 hb); have n1_ := Aside0.mk (below_step z6_1 hb); have n2_ := Aside0.mk (hbox); have n3_ := Aside0.mk ((by rw [hg]; exact (below_size z6_1) : w.heap.size ≤ gb421)); have n4_ := Aside0.mk ((by rw [hg]; exact (below_size z6_1) : w.heap.size ≤ gb421)); have n5_ := Aside0.mk ((z6_15 : gb420 ≠ gb421)); have n6_ := Aside0.mk ((z6_16 : gb421 ≠ gb420)); clear BK420; clear HB; have BK420 := n0_; have HB := n1_; have BK421 := n2_; have GW421 := n3_; have GE421 := n4_; have NB420_421 := n5_; have NB421_420 := n6_; clear n0_ n1_ n2_ n3_ n4_ n5_ n6_; clear hb hbox hg; have hnb19 := NB420_421.out; have hnc19 := NB421_420.out; have hcz20_0 : w18.cell? ⟨gb420, 0, none⟩ = some (.slice A0_0 l0_0.length c0_0) := (blk_cell BK420.out 0).trans rfl; have hcz20_1 : w18.cell? ⟨gb420, 1, none⟩ = some (.slice A0_1 l0_1.length c0_1) := (blk_cell BK420.out 1).trans rfl; have hcz20_2 : w18.cell? ⟨gb420, 2, none⟩ = some (.int .i64 a0_2) := (blk_cell BK420.out 2).trans rfl; have hfz20_0 := blk_frozen BK420.out 0; have hfz20_1 := blk_frozen BK420.out 1; have hfz20_2 := blk_frozen BK420.out 2; have hcz21_0 : w18.cell? ⟨gb421, 0, none⟩ = some (.slice A1_0 l1_0.length c1_0) := (blk_cell BK421.out 0).trans rfl; have hcz21_1 : w18.cell? ⟨gb421, 1, none⟩ = some (.slice A1_1 l1_1.length c1_1) := (blk_cell BK421.out 1).trans rfl; have hcz21_2 : w18.cell? ⟨gb421, 2, none⟩ = some (.int .i64 a1_2) := (blk_cell BK421.out 2).trans rfl; have hfz21_0 := blk_frozen BK421.out 0; have hfz21_1 := blk_frozen BK421.out 1; have hfz21_2 := blk_frozen BK421.out 2) | ((first | ((with_reducible refine gate_callee (f := 72) rfl ?_); refine goesL_ (some 9) rfl rfl Try.func72 (by kernel_rfl) rfl #[.slice A0_0 l0_0.length c0_0, .slice A1_0 l1_0.length c1_0] rfl z6_7 ?_; (with_reducible refine (slices_Equal_int_int.calls k _ _ l0_0 _ _ l1_0 false _ ?side1 ?side2 ?side3 ?side4 A3.out).mono ?_)) | (go_at_call 72; (with_reducible refine (slices_Equal_int_int.calls k _ _ l0_0 _ _ l1_0 false _ ?side1 ?side2 ?side3 ?side4 A3.out).mono ?_))); (case side1 => exact z6_9); (case side2 => exact HC0_0.out); (case side3 => exact z6_12); (case side4 => exact HC1_0.out); rintro e w' ⟨rfl, ⟨nd, rfl⟩⟩; (first | refine ⟨_, rfl, ?_⟩ | skip)))
    go_ret
    exact ⟨by first | rfl | (simp [errW_none, errW_some] <;> rfl) | (simp [*, errW_none, errW_some] <;> rfl) | (simp [*, errW_none, errW_some, i64_w]; done), by repeat (first | (with_reducible first | exact HB.out | apply below_alloc | apply pw_below_drewN | apply below_drew1 | refine below_set ?_ GE420.out | refine below_set ?_ GE421.out) | exact HB.out)⟩

end Go.Proofs.Ytakhaknglhgimaa.G
