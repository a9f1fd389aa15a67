/- Functions of the program as plain Lean functions, and that each call comes to its function's answer; written by a program of the session. No condition. -/
import Derived.Test.YtakhaknglhgimaaGx0
import Derived.Test.YtakhaknglhgimaaGx4
import Derived.Test.YtakhaknglhgimaaGx6
namespace Go.Proofs.Ytakhaknglhgimaa.G
open Go.RowKit Go.Proofs.YtakhaknglhgimaaW.PrintWords Go.Proofs.YtakhaknglhgimaaW.PrintLast Go.Proofs.YtakhaknglhgimaaW.PrintMore
attribute [local go_sem] max2_int min2_int max_two min_two max_three min_three max_four min_four   -- for this text's walks alone
set_option linter.unusedVariables false
set_option linter.unusedSimpArgs false

theorem z7_0 {P : Prop} (h : P := by repeat (first | (with_reducible first | exact HB.out | apply below_alloc | apply pw_below_drewN | apply below_drew1) | exact HB.out)) : P := h
theorem z7_1 {P : Prop} (h : P := by (try simp only [List.map_toArray, List.map_cons, List.map_nil]); first | done | rfl | (simp only [List.length_drop, List.length_take]; rfl)) : P := h
theorem z7_2 {P : Prop} (h : P := by repeat (first | exact (Kd.C_below HR0_0.out HB.out) | (with_reducible refine Kd.C_alloc ?_ _) | (with_reducible refine Kd.C_drewN ?_ _) | (with_reducible refine Kd.C_drew ?_))) : P := h
theorem z7_3 {P : Prop} (h : P := by first | (go_simp; done) | (go_simp; rfl)) : P := h
theorem z7_4 {P : Prop} (h : P := by repeat (first | (with_reducible first | exact HB.out | apply below_alloc | apply pw_below_drewN | apply below_drew1 | refine below_set ?_ GE342.out) | exact HB.out)) : P := h
theorem z7_5 {P : Prop} (h : P := by (with_reducible repeat (first | refine blk_drewN ?_ _ | refine blk_drew ?_ | refine blk_alloc ?_ _)); exact BK342.out) : P := h
theorem z7_6 {P : Prop} (h : P := by rw [hg]; exact (below_size z7_0)) : P := h
/-! ### impl_walk: function 56 -/
theorem heapStmt : Kd.Heap k77 := Kd.heap_iso _ (Kd.heap_pair (Kd.heap_int .i64) (Kd.heap_pair (Kd.heap_int .i64) (Kd.heap_pair (Kd.heap_int .i64) (Kd.heap_iso _ (Kd.heap_pair (Kd.heap_int .i64) (Kd.heap_pair (Kd.heap_int .i64) (Kd.heap_int .i64)))))))
/-- A walk's step, n times. -/
def walkRep {σ : Type} (f : σ → Option σ) : Nat → σ → Option σ
  | 0, s => some s
  | n + 1, s => (f s).bind (walkRep f n)
mutual
def impl_walk.f {σ : Type} (step : σ → S77 → Option (σ × Bool)) : Nat → List S77 → σ → Option σ
  | 0, _, _ => none
  | k + 1, l, s => impl_walk.l0 step k l 0 s
def impl_walk.l0 {σ : Type} (step : σ → S77 → Option (σ × Bool)) : Nat → List S77 → Int → σ → Option σ
  | 0, _, _, _ => none
  | k + 1, l, i, s => if i < (l.length : Int) then (if 0 ≤ i then (if (rd_T77 l i).f0 = 6 then impl_walk.l0 step k l (wrap64 (i + 1)) s else
      (step s (rd_T77 l i)).bind fun sb => (impl_isOpening.f (rd_T77 l i).f0).bind fun o => if o = true then
        ((impl_endOf.f k l i).bind fun e => (if (rd_T77 l i).f0 = 4 then impl_bit.f sb.2 else some (rd_T77 l i).f2).bind fun n =>
          if 0 ≤ wrap64 (i + 1) ∧ wrap64 (i + 1) ≤ e ∧ e ≤ (l.length : Int) ∧ n ≤ 9223372036854775807 then
            ((walkRep (fun s' => impl_walk.f step k ((l.take e.toNat).drop (wrap64 (i + 1)).toNat) s') n.toNat sb.1).bind fun s' => impl_walk.l0 step k l (wrap64 (e + 1)) s') else none)
        else impl_walk.l0 step k l (wrap64 (i + 1)) sb.1) else none) else some s
end
theorem walkRep_mono {σ : Type} {f g : σ → Option σ} (h : ∀ s, LeO (f s) (g s)) : ∀ n s, LeO (walkRep f n s) (walkRep g n s)
  | 0, s => LeO.refl _
  | n + 1, s => LeO.bind (h s) (fun x => walkRep_mono h n x)
theorem impl_walk.mono_l {σ : Type} {step step' : σ → S77 → Option (σ × Bool)} (hs : ∀ s x, LeO (step s x) (step' s x)) : ∀ k, (∀ l s, LeO (impl_walk.f step k l s) (impl_walk.f step' (k + 1) l s)) ∧ (∀ l i s, LeO (impl_walk.l0 step k l i s) (impl_walk.l0 step' (k + 1) l i s))
  | 0 => ⟨fun _ _ r h => by simp [impl_walk.f] at h, fun _ _ _ r h => by simp [impl_walk.l0] at h⟩
  | k + 1 => by
    obtain ⟨ih0, ih1⟩ := impl_walk.mono_l hs k
    constructor
    · intro l s
      unfold impl_walk.f
      exact ih1 _ _ _
    · intro l i s
      unfold impl_walk.l0
      refine LeO.ite (LeO.ite (LeO.ite (ih1 _ _ _) (LeO.bind (hs _ _) (fun _ => LeO.bind (LeO.refl _) (fun _ => LeO.ite (LeO.bind (impl_endOf.mono _ _ k) (fun _ => LeO.bind (LeO.refl _) (fun _ => LeO.ite (LeO.bind (walkRep_mono (fun s => ih0 _ s) _ _) (fun _ => ih1 _ _ _)) (LeO.refl _)))) (ih1 _ _ _))))) (LeO.refl _)) (LeO.refl _)
set_option maxHeartbeats 8000000 in
set_option maxRecDepth 100000 in
theorem impl_walk.calls {σ : Type} {B : Nat} (step : σ → S77 → Option (σ × Bool)) (I : σ → Sep.Asn) (g : Nat) (cb : Array Value) (eg : ∀ args w, (callFunc g args).run Try.prog w = .ok (.enter g args) w)
    (hL : ∀ s, Sep.Loc B (I s))
    (hstep : ∀ s x s' b F w, B ≤ w.heap.size → step s x = some (s', b) → I s F w → Calls Try.prog g (#[.agg #[.int .i64 x.f0, .int .i64 x.f1, .int .i64 x.f2, .int .i64 x.f3.f0, .int .i64 x.f3.f1, .int .i64 x.f3.f2]] ++ cb) w fun e w' => e = .returned (.bool b) ∧ ∃ F', I s' F' w' ∧ Sep.After F w F' w')
    (k : Nat) : ∀ (A0 : Option Addr) (c0 : Nat) (l0 : List S77) (s r : σ) (F : Nat → Prop) (w : World) (hr : ∀ w', Kept w w' F → Kd.C k77 w' A0 l0.length l0) (hc0 : l0.length ≤ c0) (hB : B ≤ w.heap.size) (hs : I s F w) (h : impl_walk.f step k l0 s = some r),
    Calls Try.prog 56 #[.slice A0 l0.length c0, .func (.func g) #[] cb] w fun e w' => e = .returned (.tuple #[]) ∧ ∃ F', I r F' w' ∧ Sep.After F w F' w' := by
  have HL := Aside0.mk hL
  have HST := Aside0.mk hstep
  clear hL hstep
  induction k using Nat.strongRecOn with
  | _ k ih =>
  have IH := Aside0.mk ih
  clear ih
  intro A0 c0 l0 s r F w hr hc0 hB hs h
  cases k with
  | zero => exact absurd h (by simp [impl_walk.f])
  | succ k =>
  simp only [impl_walk.f] at h
  have hu77 := Try.underlying77
  have HR := Aside0.mk hr
  have HC0 := Aside0.mk hc0
  have HBW := Aside0.mk hB
  have HS := Aside0.mk hs
  have H' := Aside0.mk h
  clear hr hc0 hB hs h
  go_enter Try.func56, Try.ntmps56
  go_wp2
  go_loopg [4] k (fun kq v4 w' => ∃ (i : Int) (s' : σ) (F' : Nat → Prop), v4 = .int .i64 i ∧ Aside0 (impl_walk.l0 step kq l0 i s' = some r) ∧ Aside0 (kq ≤ k) ∧ Aside0 (I s' F' w') ∧ Aside0 (Sep.After F w F' w'))
  case atStart => exact ⟨0, s, F, by first | rfl | (simp; done), H', ⟨Nat.le_refl _⟩, HS, ⟨Sep.After.refl _ _⟩⟩
  case round =>
    clear H' HS
    obtain ⟨i, s', F', rfl, HA, HK1, HI, HAF⟩ := hrel
    cases gk with
    | zero => exact absurd HA.out (by simp [impl_walk.l0])
    | succ k1 =>
      have H := HA.out
      clear HA
      simp only [impl_walk.l0] at H
      by_cases c1 : i < (l0.length : Int)
      · rw [if_pos c1] at H
        have c1b : decide (i < (l0.length : Int)) = true := decide_eq_true c1
        by_cases c2 : 0 ≤ i
        · rw [if_pos c2] at H
          obtain ⟨ad, e, hx0, hx1, hx2, hx3, hx4, hx5⟩ := at_T77 (HR.out _ HAF.out.kept) i c2 c1
          cases e
          have p1 := eq_true c2
          have q1 := eq_true c1
          obtain ⟨x, hx⟩ : ∃ x, rd_T77 l0 i = x := ⟨_, rfl⟩
          rw [hx] at H hx0 hx1 hx2 hx3 hx4 hx5
          obtain ⟨x0, x1, x2, x3, x4, x5⟩ := x
          simp only at H hx0 hx1 hx2 hx3 hx4 hx5
          by_cases c6 : x0 = 6
          · rw [if_pos c6] at H
            subst c6
            have H' := Aside0.mk H
            clear H c1 c2 hx
            go_wp2_with (first | ((with_reducible refine gate_dst (N := 5) rfl ?_); refine box_event ?hg (N := 5) ?hd (cs := #[.int .i64 0, .int .i64 0, .int .i64 0, .int .i64 0, .int .i64 0, .int .i64 0]) (t := 77) ?hr ?_; (case hd => rfl); (case hg => rfl); (case hr => exact z7_3); intro gb hg w2 hbox hb; have HB := Aside0.mk hb; have BK := Aside0.mk hbox; have GE : Aside0 (wr.heap.size ≤ gb) := ⟨Nat.le_of_eq hg.symm⟩; obtain ⟨⟨_, _, _, _, _, _⟩, ⟨_, _, _, _, _, _⟩⟩ := Sep.blk6 hbox; clear hb hbox hg) | ((with_reducible refine gate_store (t := 77) (p := 5) rfl ?_); refine store_event (t := 77) (p := 5) (v := ?vo_) (w1 := Sep.put6 w2 gb (.int .i64 6) (.int .i64 x1) (.int .i64 x2) (.int .i64 x3) (.int .i64 x4) (.int .i64 x5)) ?hg ?ho ?hn ?hr ?_; (case ho => rfl); (case hg => rfl); (case hn => rfl); (case hr => exact z7_3); intro w3 hw; have BK3 := Aside0.mk (hw ▸ Sep.put6_blk BK.out (.int .i64 6) (.int .i64 x1) (.int .i64 x2) (.int .i64 x3) (.int .i64 x4) (.int .i64 x5)); have HB3 := Aside0.mk (hw ▸ Sep.put6_below HB.out GE.out (.int .i64 6) (.int .i64 x1) (.int .i64 x2) (.int .i64 x3) (.int .i64 x4) (.int .i64 x5)); clear hw BK HB; obtain ⟨⟨_, _, _, _, _, _⟩, ⟨_, _, _, _, _, _⟩⟩ := Sep.blk6 BK3.out))
            go_roundg k1
            case measure => have := HK1.out; omega
            case rel => exact ⟨wrap64 (i + 1), s', F', by first | rfl | (simp; done) | (simp [*]; done), H', ⟨by have := HK1.out; omega⟩, ⟨(HL.out s').below (Nat.le_trans HBW.out HAF.out.size) HI.out HB3.out⟩, ⟨HAF.out.below HB3.out⟩⟩
          · rw [if_neg c6] at H
            have c6b : (x0 == 6) = false := beq_eq_false_iff_ne.mpr c6
            obtain ⟨sb, A1, H1⟩ := Option.bind_eq_some_iff.mp H
            obtain ⟨s2, b⟩ := sb
            obtain ⟨o, A2, H2⟩ := Option.bind_eq_some_iff.mp H1
            have HA1 := Aside0.mk A1
            have HA2 := Aside0.mk A2
            have H3 := Aside0.mk H2
            have HX := Aside0.mk hx
            clear hx c1 c2 c6 A1 A2 H H1 H2
            go_wp2_with (first | ((with_reducible refine gate_dst (N := 5) rfl ?_); refine box_event ?hg (N := 5) ?hd (cs := #[.int .i64 0, .int .i64 0, .int .i64 0, .int .i64 0, .int .i64 0, .int .i64 0]) (t := 77) ?hr ?_; (case hd => rfl); (case hg => rfl); (case hr => exact z7_3); intro gb hg w2 hbox hb; have HB := Aside0.mk hb; have BK := Aside0.mk hbox; have GE : Aside0 (wr.heap.size ≤ gb) := ⟨Nat.le_of_eq hg.symm⟩; obtain ⟨⟨_, _, _, _, _, _⟩, ⟨_, _, _, _, _, _⟩⟩ := Sep.blk6 hbox; clear hb hbox hg) | ((with_reducible refine gate_store (t := 77) (p := 5) rfl ?_); refine store_event (t := 77) (p := 5) (v := ?vo_) (w1 := Sep.put6 w2 gb (.int .i64 x0) (.int .i64 x1) (.int .i64 x2) (.int .i64 x3) (.int .i64 x4) (.int .i64 x5)) ?hg ?ho ?hn ?hr ?_; (case ho => rfl); (case hg => rfl); (case hn => rfl); (case hr => exact z7_3); intro w3 hw; have BK3 := Aside0.mk (hw ▸ Sep.put6_blk BK.out (.int .i64 x0) (.int .i64 x1) (.int .i64 x2) (.int .i64 x3) (.int .i64 x4) (.int .i64 x5)); have HB3 := Aside0.mk (hw ▸ Sep.put6_below HB.out GE.out (.int .i64 x0) (.int .i64 x1) (.int .i64 x2) (.int .i64 x3) (.int .i64 x4) (.int .i64 x5)); clear hw BK HB; obtain ⟨⟨_, _, _, _, _, _⟩, ⟨_, _, _, _, _, _⟩⟩ := Sep.blk6 BK3.out))
            refine (HST.out s' ⟨x0, x1, x2, ⟨x3, x4, x5⟩⟩ s2 b F' w3 (Nat.le_trans HBW.out (HAF.out.below HB3.out).size) HA1.out ((HL.out s').below (Nat.le_trans HBW.out HAF.out.size) HI.out HB3.out)).mono ?_
            rintro e w4 ⟨rfl, F2, hI2, hA2⟩
            have HI2 := Aside0.mk hI2
            have NF : Aside0 (¬ F' gb) := ⟨fun h => absurd ((HL.out s').lt HI.out gb h).2 (Nat.not_lt.mpr GE.out)⟩
            have BK4 := Aside0.mk (hA2.blk BK3.out NF.out)
            have NF2 := Aside0.mk (hA2.out BK3.out NF.out)
            have HA4 := Aside0.mk ((HAF.out.below HB3.out).trans hA2)
            clear hI2 hA2 BK3 NF
            obtain ⟨⟨_, _, _, _, _, _⟩, ⟨_, _, _, _, _, _⟩⟩ := Sep.blk6 BK4.out
            cases o with
            | false =>
              have H4 := H3.out
              rw [if_neg (by simp)] at H4
              have H' := Aside0.mk H4
              clear H4 H3
              go_wp2_with (go_at_call 59; (with_reducible refine (impl_isOpening.calls _ _ _ HA2.out).mono ?_); rintro e w' ⟨rfl, ⟨nd, rfl⟩⟩)
              go_roundg k1
              case measure => have := HK1.out; omega
              case rel => exact ⟨wrap64 (i + 1), s2, F2, by first | rfl | (simp; done) | (simp [*]; done), H', ⟨by have := HK1.out; omega⟩, ⟨(HL.out s2).below (Nat.le_trans HBW.out HA4.out.size) HI2.out (by repeat (first | exact Below.refl _ _ | apply pw_below_drewN))⟩, ⟨HA4.out.below (by repeat (first | exact Below.refl _ _ | apply pw_below_drewN))⟩⟩
            | true =>
              have H4 := H3.out
              rw [if_pos rfl] at H4
              obtain ⟨en, A3, H5⟩ := Option.bind_eq_some_iff.mp H4
              obtain ⟨n, A4, H6⟩ := Option.bind_eq_some_iff.mp H5
              by_cases c7 : 0 ≤ wrap64 (i + 1) ∧ wrap64 (i + 1) ≤ en ∧ en ≤ (l0.length : Int) ∧ n ≤ 9223372036854775807
              · rw [if_pos c7] at H6
                obtain ⟨s3, A5, H7⟩ := Option.bind_eq_some_iff.mp H6
                have H' := Aside0.mk H7
                have HA3 := Aside0.mk A3
                have HA5 := Aside0.mk A5
                have HN : Aside0 (((x0 == 4) = true ∧ impl_bit.f b = some n) ∨ ((x0 == 4) = false ∧ n = x2 ∧ True)) := by
                  by_cases c4 : x0 = 4
                  · rw [if_pos c4] at A4
                    exact ⟨.inl ⟨beq_iff_eq.mpr c4, A4⟩⟩
                  · rw [if_neg c4] at A4
                    exact ⟨.inr ⟨beq_eq_false_iff_ne.mpr c4, (Option.some.inj A4).symm, trivial⟩⟩
                clear H4 H3 H5 H6 H7 A3 A4 A5
                obtain ⟨ji, hji⟩ : ∃ ji, wrap64 (i + 1) = ji := ⟨_, rfl⟩
                rw [hji] at c7
                replace HA5 : Aside0 (walkRep (fun s' => impl_walk.f step k1 ((l0.take en.toNat).drop ji.toNat) s') n.toNat s2 = some s3) := by rw [← hji]; exact HA5
                obtain ⟨y, hy⟩ : ∃ y, (l0.take en.toNat).drop ji.toNat = y := ⟨_, rfl⟩
                rw [hy] at HA5
                obtain ⟨i0, hi0, hsz0⟩ := Option.map_eq_some_iff.mp (show (Try.prog.info? 77).map (·.size) = some 6 by kernel_rfl)
                have hcut := cut_mid (P := Try.prog) 30 77 .i64 .i64 Try.underlying30 hi0 6 hsz0 (some ad) l0.length c0 ji en c7.1 c7.2.1 c7.2.2.1 HC0.out
                obtain ⟨A', hA'⟩ : ∃ A', (if c0 = ji.toNat then (some ad) else ((some ad) : Option Addr).map (·.add (ji.toNat * 6))) = A' := ⟨_, rfl⟩
                obtain ⟨c', hc'⟩ : ∃ c', c0 - ji.toNat = c' := ⟨_, rfl⟩
                have hyl : en.toNat - ji.toNat = y.length := by rw [← hy, List.length_drop, List.length_take]; omega
                rw [hA', hc', hyl] at hcut
                have HRy : Aside0 (∀ w', Kept w w' F → Kd.C k77 w' A' y.length y) := ⟨fun w' hk => by
                  have := Kd.C_mid (HR.out w' hk) (lo := ji.toNat) (hi := en.toNat) (c := c0) (by omega) (by omega) HC0.out
                  rw [hy] at this
                  rw [← hA']
                  exact this⟩
                have HCy : Aside0 (y.length ≤ c') := ⟨by have := HC0.out; omega⟩
                have hjiw : IntKind.i64.wrap (i + 1) = ji := (i64_w _).trans hji
                have HNB := Aside0.mk c7.2.2.2
                clear hy hyl hA' hc' c7 hi0 hsz0
                rcases HN.out with ⟨c4b, A4⟩ | ⟨c4b, rfl, A4⟩
                all_goals
                  have HA4' := Aside0.mk A4
                  clear A4 HN
                  go_wp2_with (first | (go_at_call 59; (with_reducible refine (impl_isOpening.calls _ _ _ HA2.out).mono ?_); rintro e w' ⟨rfl, ⟨nd, rfl⟩⟩) | (go_at_call 87; (with_reducible refine (impl_endOf.calls k1 _ _ l0 i en _ ?sd1 HC0.out HA3.out).mono ?_); (case sd1 => exact HR.out _ (Kept.drewN HA4.out.kept _)); rintro e w' ⟨rfl, ⟨nd, rfl⟩⟩) | (go_at_call 58; (with_reducible refine (impl_bit.calls _ _ _ HA4'.out).mono ?_); rintro e w' ⟨rfl, ⟨nd, rfl⟩⟩))
                  go_loopg [40] n.toNat (fun kq v40 w' => ∃ (j : Int) (sj : σ) (Fj : Nat → Prop), v40 = .int .i64 j ∧ Aside0 (0 ≤ j ∧ j + (kq : Int) = (n.toNat : Int)) ∧ Aside0 (walkRep (fun s' => impl_walk.f step k1 y s') kq sj = some s3) ∧ Aside0 (I sj Fj w') ∧ Aside0 (Sep.After F w Fj w'))
                  case atStart => exact ⟨0, s2, F2, by first | rfl | (simp; done), ⟨by omega, by omega⟩, HA5, ⟨(HL.out s2).below (Nat.le_trans HBW.out HA4.out.size) HI2.out (by repeat (first | exact Below.refl _ _ | apply pw_below_drewN))⟩, ⟨HA4.out.below (by repeat (first | exact Below.refl _ _ | apply pw_below_drewN))⟩⟩
                  case round =>
                    clear HA5 HI2 HA4
                    obtain ⟨j, sj, Fj, rfl, HJ, HWJ, HIJ, HAJ⟩ := hrel
                    by_cases cj : j < n
                    · have cjb : decide (j < n) = true := decide_eq_true cj
                      have hw1 : wrap64 (j + 1) = j + 1 := by have := HJ.out; have := HNB.out; unfold wrap64; omega
                      cases gk with
                      | zero => have := HJ.out; omega
                      | succ k2 =>
                        obtain ⟨s4, A6, A7⟩ := Option.bind_eq_some_iff.mp HWJ.out
                        have HA6 := Aside0.mk A6
                        have HA7 := Aside0.mk A7
                        have HW := Aside0.mk hw1
                        have CJ := Aside0.mk cj
                        clear A6 A7 hw1 cj HWJ
                        go_wp2_with (go_at_call 56; (with_reducible refine (IH.out k1 ?sd1 A' c' y sj s4 Fj _ ?sd2 HCy.out (Nat.le_trans HBW.out HAJ.out.size) HIJ.out HA6.out).mono ?_); (case sd1 => have := HK1.out; omega); (case sd2 => exact fun w' hk => HRy.out w' (HAJ.out.kept.then_ hk HAJ.out.sub)); rintro e w6 ⟨rfl, F6, hI6, hA6⟩; have HI6 := Aside0.mk hI6; have HA6' := Aside0.mk (HAJ.out.trans hA6); clear hI6 hA6)
                        go_roundg k2
                        case measure => omega
                        case rel => exact ⟨j + 1, s4, F6, by first | rfl | (rw [HW.out]; done) | (simp [HW.out]; done), ⟨by have := HJ.out; omega, by have := HJ.out; omega⟩, HA7, HI6, HA6'⟩
                    · have cjb : decide (j < n) = false := decide_eq_false cj
                      have hk0 : gk = 0 := by have := HJ.out; omega
                      subst hk0
                      obtain rfl := Option.some.inj HWJ.out
                      clear cj HWJ
                      go_wp2
                      go_roundg k1
                      case measure => have := HK1.out; omega
                      case rel => exact ⟨wrap64 (en + 1), sj, Fj, by first | rfl | (simp; done) | (simp [*]; done), H', ⟨by have := HK1.out; omega⟩, HIJ, HAJ⟩
              · rw [if_neg c7] at H6
                exact absurd H6 (by simp)
        · rw [if_neg c2] at H
          exact absurd H (by simp)
      · rw [if_neg c1] at H
        have c1b : decide (i < (l0.length : Int)) = false := decide_eq_false c1
        obtain rfl := Option.some.inj H
        clear H c1
        go_wp2
        go_end0
        exact ⟨rfl, F', HI.out, HAF.out⟩

-- NOT PRINTED: function 57 (impl_LongestRun_1)

/-! ### impl_LongestRun: function 17 -/
def lrP (B gn : Nat) (n : Int) : Sep.Asn := fun F w => (∀ k, F k ↔ k = gn) ∧ B ≤ gn ∧ w.heap[gn]? = some (.cells #[.int .i64 n] 3 (0, 0))
theorem lrP_loc (B gn : Nat) (n : Int) : Sep.Loc B (lrP B gn n) where
  lt := fun h k hk => by
    obtain ⟨h1, h2, h3⟩ := h
    obtain rfl := (h1 k).1 hk
    exact ⟨h2, blk_lt h3⟩
  keep := fun h hB hs hk => by
    obtain ⟨h1, h2, h3⟩ := h
    exact ⟨h1, h2, (hk _ (.inr ((h1 _).2 rfl))).trans h3⟩
def lrStep (n : Int) (x : S77) : Option (Int × Bool) := (impl_isOpening.f x.f0).bind fun o => (impl_bit.f (!o)).bind fun b => some (wrap64 (n + b), true)
set_option maxHeartbeats 8000000 in
set_option maxRecDepth 100000 in
theorem lrStep_calls (B gn : Nat) (n : Int) (x : S77) (n' : Int) (r : Bool) (F : Nat → Prop) (w : World) (hs : lrStep n x = some (n', r)) (hi : lrP B gn n F w) :
    Calls Try.prog 57 (#[.agg #[.int .i64 x.f0, .int .i64 x.f1, .int .i64 x.f2, .int .i64 x.f3.f0, .int .i64 x.f3.f1, .int .i64 x.f3.f2]] ++ #[.pointer (some ⟨gn, 0, none⟩)]) w fun e w' => e = .returned (.bool r) ∧ ∃ F', lrP B gn n' F' w' ∧ Sep.After F w F' w' := by
  obtain ⟨x0, x1, x2, ⟨x3, x4, x5⟩⟩ := x
  obtain ⟨o, h1, h2⟩ := Option.bind_eq_some_iff.mp hs
  obtain ⟨b, h3, h4⟩ := Option.bind_eq_some_iff.mp h2
  cases h4
  obtain ⟨i1, i2, i3⟩ := hi
  have H1 := Aside0.mk h1
  have H2 := Aside0.mk h3
  have BN := Aside0.mk i3
  have I1 := Aside0.mk i1
  have I2 := Aside0.mk i2
  clear hs h1 h2 h3 i1 i2 i3
  simp only
  go_enter Try.func57, Try.ntmps57
  go_wp2_with ((with_reducible refine gate_dst (N := 2) rfl ?_); refine box_event ?hg (N := 2) ?hd (cs := #[.int .i64 x0, .int .i64 x1, .int .i64 x2, .int .i64 x3, .int .i64 x4, .int .i64 x5]) (t := 77) ?hr ?_; (case hd => rfl); (case hg => rfl); (case hr => exact z7_3); intro gb hg w2 hbox hb; have HB := Aside0.mk hb; have BK := Aside0.mk hbox; have GE : Aside0 (w.heap.size ≤ gb) := ⟨Nat.le_of_eq hg.symm⟩; clear hb hbox hg)
  refine start_ (n := 8) (S := fun w' => w'.cell? ⟨gn, 0, none⟩ = some (.int .i64 n) ∧ w'.cell? ⟨gb, 0, none⟩ = some (.int .i64 x0)) (ds := [7]) #[false, false, false, false, false, false, false, false] (by kernel_rfl) rfl rfl ⟨(blk_cell (blk_below BN.out HB.out) 0).trans rfl, (blk_cell (BK.out) 0).trans rfl⟩ (fun hHeld => ?_)
  refine pure_ (i := 1) (N := some 5) (v := ?_) (a' := ?_) #[false, true, false, false, false, false, false, false] rfl rfl (by kernel_rfl) (fun _ _ _ h => h) (Or.inl ⟨by rfl, ?_⟩) ?_ ?_
  rotate_left
  · intro w'
    go_simp
    with_reducible rfl
  rotate_left
  · simp only [Act.put, List.setIfInBounds_toArray, List.set_cons_zero, List.set_cons_succ, i64_w, i32_w]
    rfl
  refine take_ (i := 0) (N := some 4) (v := ?_) (a' := ?_) #[true, true, false, false, false, false, false, false] rfl rfl (by kernel_rfl) (fun _ _ _ h => h) (Or.inl ⟨by rfl, ?_⟩) hHeld ?_ ?_
  rotate_left
  · intro w' s0
    obtain ⟨_, _⟩ := s0
    go_simp
    with_reducible rfl
  rotate_left
  · simp only [Act.put, List.setIfInBounds_toArray, List.set_cons_zero, List.set_cons_succ, i64_w, i32_w]
    rfl
  refine take_ (i := 2) (N := some 6) (v := ?_) (a' := ?_) #[true, true, true, false, false, false, false, false] rfl rfl (by kernel_rfl) (fun _ _ _ h => h) (Or.inl ⟨by rfl, ?_⟩) hHeld ?_ ?_
  rotate_left
  · intro w' s0
    obtain ⟨_, _⟩ := s0
    go_simp
    with_reducible rfl
  rotate_left
  · simp only [Act.put, List.setIfInBounds_toArray, List.set_cons_zero, List.set_cons_succ, i64_w, i32_w]
    rfl
  refine one_ (i := 3) (N := some 7) #[true, true, true, true, false, false, false, false] rfl rfl (by kernel_rfl) (by decide) (fun K hK => ?_)
  refine goes_ Try.func59 (by kernel_rfl) rfl #[.int .i64 x0] (by rfl) rfl rfl (by (try simp only [List.map_toArray, List.map_cons, List.map_nil]); first | done | rfl) ?_
  refine (impl_isOpening.calls x0 o _ H1.out).mono ?_
  rintro e w' ⟨rfl, ⟨nd, rfl⟩⟩
  refine ⟨_, rfl, ?_⟩
  refine hK _ _ ⟨(blk_cell (blk_drewN (blk_below BN.out HB.out) nd) 0).trans rfl, (blk_cell (blk_drewN BK.out nd) 0).trans rfl⟩ (fun hHeld => ?_)
  clear hK K
  refine norm_ (a' := ?_) ?_ ?_
  rotate_left
  · show Act.put _ (some 7) _ = _
    simp only [Act.put, List.setIfInBounds_toArray, List.set_cons_zero, List.set_cons_succ, i64_w, i32_w]
    rfl
  refine pure_ (i := 4) (N := some 8) (v := ?_) (a' := ?_) #[true, true, true, true, true, false, false, false] rfl rfl (by kernel_rfl) (fun _ _ _ h => h) (Or.inl ⟨by rfl, ?_⟩) ?_ ?_
  rotate_left
  · intro w'
    go_simp
    with_reducible rfl
  rotate_left
  · simp only [Act.put, List.setIfInBounds_toArray, List.set_cons_zero, List.set_cons_succ, i64_w, i32_w]
    rfl
  refine one_ (i := 5) (N := some 9) #[true, true, true, true, true, true, false, false] rfl rfl (by kernel_rfl) (by decide) (fun K hK => ?_)
  refine goes_ Try.func58 (by kernel_rfl) rfl #[.bool (!o)] (by rfl) rfl rfl (by (try simp only [List.map_toArray, List.map_cons, List.map_nil]); first | done | rfl) ?_
  refine (impl_bit.calls (!o) b _ H2.out).mono ?_
  rintro e w' ⟨rfl, ⟨nd2, rfl⟩⟩
  refine ⟨_, rfl, ?_⟩
  refine hK _ _ ⟨(blk_cell (blk_drewN (blk_drewN (blk_below BN.out HB.out) nd) nd2) 0).trans rfl, (blk_cell (blk_drewN (blk_drewN BK.out nd) nd2) 0).trans rfl⟩ (fun hHeld => ?_)
  clear hK K
  refine norm_ (a' := ?_) ?_ ?_
  rotate_left
  · show Act.put _ (some 9) _ = _
    simp only [Act.put, List.setIfInBounds_toArray, List.set_cons_zero, List.set_cons_succ, i64_w, i32_w]
    rfl
  refine pure_ (i := 6) (N := some 10) (v := ?_) (a' := ?_) #[true, true, true, true, true, true, true, false] rfl rfl (by kernel_rfl) (fun _ _ _ h => h) (Or.inl ⟨by rfl, ?_⟩) ?_ ?_
  rotate_left
  · intro w'
    go_simp
    with_reducible rfl
  rotate_left
  · simp only [Act.put, List.setIfInBounds_toArray, List.set_cons_zero, List.set_cons_succ, i64_w, i32_w]
    rfl
  refine last_ (i := 7) (N := none) #[true, true, true, true, true, true, true, true] rfl rfl (by kernel_rfl) (by decide) (fun K hK => ?_)
  have hN0 : w2.cell? ⟨gn, 0, none⟩ = some (.int .i64 n) := (blk_cell (blk_below BN.out HB.out) 0).trans rfl
  have hfN := blk_frozen (blk_below BN.out HB.out) 0
  refine skip_ (w1 := ?_) (by rfl) rfl ?_ ?_
  rotate_left
  · go_simp
    rfl
  refine hK _ _ ?_
  clear hK K
  refine done_ (by kernel_rfl) ?_
  go_wp2
  go_ret
  have hw : ∀ (W : World), W.heap = w2.heap → Below w.heap.size w W → lrP B gn (wrap64 (n + b)) F (W.setCell ⟨gn, 0, none⟩ (.int .i64 (wrap64 (n + b)))) ∧ Sep.After F w F (W.setCell ⟨gn, 0, none⟩ (.int .i64 (wrap64 (n + b)))) := fun W hW hB => by
    have hb : W.heap[gn]? = some (.cells #[.int .i64 n] 3 (0, 0)) := by rw [hW]; exact blk_below BN.out HB.out
    refine ⟨⟨I1.out, I2.out, blk_put hb 0 _ rfl⟩, ⟨⟨by simpa [World.setCell] using hB.size, fun k hk hn => ?_⟩, fun k hk => .inl hk, hB.os, hB.tape, hB.output⟩⟩
    rw [Below.heap_setCell _ _ _ k (fun h => hn ((I1.out k).2 h)), hB.block k hk]
  exact ⟨rfl, F, hw _ rfl (by repeat (first | exact HB.out | apply pw_below_drewN | apply below_drew1))⟩
def impl_LongestRun.f (k : Nat) (l0 : List S77) : Option Int := (impl_BlockOk.f k l0).bind fun t => if t = true then impl_walk.f lrStep k l0 0 else some (-1)
theorem impl_LongestRun.mono : ∀ a0 k, LeO (impl_LongestRun.f k a0) (impl_LongestRun.f (k + 1) a0) := by
  intro a0 k
  unfold impl_LongestRun.f
  exact LeO.bind (impl_BlockOk.mono _ k) (fun _ => LeO.ite ((impl_walk.mono_l (fun _ _ => LeO.refl _) k).1 _ _) (LeO.refl _))
set_option maxHeartbeats 8000000 in
set_option maxRecDepth 100000 in
theorem impl_LongestRun.calls (k : Nat) (A0 : Option Addr) (c0 : Nat) (l0 : List S77) (r : Int) (w : World) (hr0 : Kd.C k77 w A0 l0.length l0) (hc0 : l0.length ≤ c0) (h : impl_LongestRun.f k l0 = some r) :
    Calls Try.prog 17 #[.slice A0 l0.length c0] w fun e w' => e = .returned (.int .i64 r) ∧ Below w.heap.size w w' := by
  have HR0 := Aside0.mk hr0
  have HC0 := Aside0.mk hc0
  obtain ⟨t, h1, h2⟩ := Option.bind_eq_some_iff.mp h
  have H1 := Aside0.mk h1
  clear hr0 hc0 h h1
  cases t with
  | false =>
    rw [if_neg (by simp)] at h2
    obtain rfl := Option.some.inj h2
    clear h2
    go_enter Try.func17, Try.ntmps17
    go_wp2_with (go_at_call 55; (with_reducible refine (impl_BlockOk.calls k _ _ l0 _ _ HR0.out HC0.out H1.out).mono ?_); rintro e w1 ⟨rfl, hb⟩; have HB := Aside0.mk hb; clear hb)
    go_ret
    exact ⟨rfl, HB.out⟩
  | true =>
    rw [if_pos rfl] at h2
    have H2 := Aside0.mk h2
    clear h2
    go_enter Try.func17, Try.ntmps17
    go_wp2_with (first
      | (go_at_call 55; (with_reducible refine (impl_BlockOk.calls k _ _ l0 _ _ HR0.out HC0.out H1.out).mono ?_); rintro e w1 ⟨rfl, hb⟩; have HB := Aside0.mk hb; clear hb)
      | ((with_reducible refine gate_dst (N := 3) rfl ?_); refine box_event ?hg (N := 3) ?hd (cs := #[.int .i64 0]) (t := 3) ?hr ?_; (case hd => rfl); (case hg => rfl); (case hr => exact z7_3); intro gn hgn w2 hn hb2; have HB2 := Aside0.mk (below_step HB.out hb2); have BN := Aside0.mk hn; have GN : Aside0 (w.heap.size ≤ gn) := ⟨by rw [hgn]; exact HB.out.size⟩; clear hgn hn hb2; have hN0 := (blk_cell BN.out 0).trans (rfl : #[Value.int .i64 0][0]? = _); have hfN := blk_frozen BN.out 0)
      | fail)
    have HB3 : Aside0 (Below w.heap.size w (w2.setCell ⟨gn, 0, none⟩ (.int .i64 0))) := ⟨below_set HB2.out GN.out⟩
    refine (impl_walk.calls (B := w.heap.size) lrStep (lrP w.heap.size gn) 57 _ (fun args w => enters_ Try.func57 (by kernel_rfl) (by kernel_rfl) args w) (lrP_loc _ gn) (fun s x s' b F w' _ hs hi => lrStep_calls _ gn s x s' b F w' hs hi) k A0 c0 l0 0 r (fun k => k = gn) _ (fun w' hk => heapStmt.C (fun k h => ?_) HR0.out) HC0.out HB3.out.size ⟨fun k => Iff.rfl, GN.out, blk_put BN.out 0 _ rfl⟩ H2.out).mono ?_
    · exact (hk.2 k (Nat.lt_of_lt_of_le h HB3.out.size) (fun e => by have := GN.out; omega)).trans (HB3.out.block k h)
    rintro e w4 ⟨rfl, F', ⟨_, _, hn4⟩, hA⟩
    have HB4 := Aside0.mk (hA.to_below (w0 := w) (fun k hk => by rw [hk]; exact GN.out) HB3.out)
    have hN4 := (blk_cell hn4 0).trans (rfl : #[Value.int .i64 r][0]? = _)
    clear hA hn4
    go_wp2
    go_ret
    exact ⟨rfl, HB4.out⟩

/-! ### impl_taskOk: function 90 -/
def impl_taskOk.f (k : Nat) (l0_0 : List (S77)) (a0_1 : Int) (a0_2 : Int) (a0_3 : Int) : Option (Bool) := (impl_BlockOk.f k l0_0).bind fun t343 => (if t343 = true then ((impl_ExprOk.f a0_1 a0_2 a0_3).bind fun t344 => (some t344)) else (some false))
theorem impl_taskOk.mono : ∀ a0 a1 a2 a3 k, LeO (impl_taskOk.f k a0 a1 a2 a3) (impl_taskOk.f (k + 1) a0 a1 a2 a3) := by
  intro a0 a1 a2 a3 k
  unfold impl_taskOk.f
  repeat' first
      | (with_reducible exact impl_BlockOk.mono _ _)
      | (with_reducible exact LeO.refl _)
      | (with_reducible exact LeO.none _)
      | (with_reducible refine LeO.ite ?_ ?_)
      | (with_reducible refine LeO.bind ?_ (fun _ => ?_))
      | exact impl_BlockOk.mono _ _
      | exact LeO.none _
      | refine LeO.ite ?_ ?_
      | refine LeO.bind ?_ (fun _ => ?_)
set_option maxHeartbeats 8000000 in
set_option maxRecDepth 100000 in
theorem impl_taskOk.calls (k : Nat) (A0_0 : Option Addr) (c0_0 : Nat) (l0_0 : List (S77)) (a0_1 : Int) (a0_2 : Int) (a0_3 : Int) (r : Bool) (w : World) (hr0_0 : Kd.C k77 w A0_0 l0_0.length l0_0) (hc0_0 : l0_0.length ≤ c0_0) (h : impl_taskOk.f k l0_0 a0_1 a0_2 a0_3 = some r) :
    Calls Try.prog 90 #[.agg #[.slice A0_0 l0_0.length c0_0, .int .i64 a0_1, .int .i64 a0_2, .int .i64 a0_3]] w fun e w' => e = .returned (.bool r) ∧ Below w.heap.size w w' := by
  have hu34 := Try.underlying34
  have hu32 := Try.underlying32
  have HR0_0 := Aside0.mk hr0_0
  have HC0_0 := Aside0.mk hc0_0
  clear hr0_0 hc0_0
  have HB := Aside0.mk (Below.refl w.heap.size w)
  have H : ((impl_BlockOk.f k l0_0).bind fun t343 => (if t343 = true then ((impl_ExprOk.f a0_1 a0_2 a0_3).bind fun t344 => (some t344)) else (some false))) = some r := h
  clear h
  replace H := Option.bind_eq_some_iff.mp H
  obtain ⟨t343, A20, H⟩ := H
  replace H : (if t343 = true then ((impl_ExprOk.f a0_1 a0_2 a0_3).bind fun t344 => (some t344)) else (some false)) = some r := H
  have A2 := Aside0.mk A20
  clear A20
  by_cases c3 : t343 = true
  · subst c3
    have H1 : ((impl_ExprOk.f a0_1 a0_2 a0_3).bind fun t344 => (some t344)) = some r := by rw [if_pos rfl] at H; exact H
    clear H
    have H := H1
    clear H1
    replace H := Option.bind_eq_some_iff.mp H
    obtain ⟨t344, A40, H⟩ := H
    replace H : (some t344) = some r := H
    have A4 := Aside0.mk A40
    clear A40
    obtain rfl := Option.some.inj H
    go_enter Try.func90, Try.ntmps90
    go_wp2_with (first | ((with_reducible refine gate_dst (N := 1) rfl ?_); refine box_event ?hg (N := 1) ?hd (cs := #[.slice A0_0 l0_0.length c0_0, .int .i64 a0_1, .int .i64 a0_2, .int .i64 a0_3]) (t := 34) ?hr ?_; (case hd => rfl); (case hg => rfl); (case hr => exact z7_3); intro gb342 hg w5 hbox hb; have n0_ := Aside0.mk (below_step z7_0 hb); have n1_ := Aside0.mk (hbox); have n2_ := Aside0.mk ((z7_6 : w.heap.size ≤ gb342)); have n3_ := Aside0.mk ((z7_6 : w.heap.size ≤ gb342)); clear HB; have HB := n0_; have BK342 := n1_; have GW342 := n2_; have GE342 := n3_; clear n0_ n1_ n2_ n3_; clear hb hbox hg; have hcz6_0 : w5.cell? ⟨gb342, 0, none⟩ = some (.slice A0_0 l0_0.length c0_0) := (blk_cell BK342.out 0).trans rfl; have hcz6_1 : w5.cell? ⟨gb342, 1, none⟩ = some (.int .i64 a0_1) := (blk_cell BK342.out 1).trans rfl; have hcz6_2 : w5.cell? ⟨gb342, 2, none⟩ = some (.int .i64 a0_2) := (blk_cell BK342.out 2).trans rfl; have hcz6_3 : w5.cell? ⟨gb342, 3, none⟩ = some (.int .i64 a0_3) := (blk_cell BK342.out 3).trans rfl; have hfz6_0 := blk_frozen BK342.out 0; have hfz6_1 := blk_frozen BK342.out 1; have hfz6_2 := blk_frozen BK342.out 2; have hfz6_3 := blk_frozen BK342.out 3) | ((first | ((with_reducible refine gate_callee (f := 55) rfl ?_); refine goesL_ (some 5) rfl rfl Try.func55 (by kernel_rfl) rfl #[.slice A0_0 l0_0.length c0_0] rfl z7_1 ?_; (with_reducible refine (impl_BlockOk.calls k _ _ l0_0 true _ ?side1 ?side2 A2.out).mono ?_)) | (go_at_call 55; (with_reducible refine (impl_BlockOk.calls k _ _ l0_0 true _ ?side1 ?side2 A2.out).mono ?_))); (case side1 => exact z7_2); (case side2 => exact HC0_0.out); rintro e w7 ⟨rfl, hb⟩; (first | refine ⟨_, rfl, ?_⟩ | skip); have n0_ := Aside0.mk (blk_below (g := gb342) (o := .cells #[.slice A0_0 l0_0.length c0_0, .int .i64 a0_1, .int .i64 a0_2, .int .i64 a0_3] 34 (0, 0)) z7_5 hb); have n1_ := Aside0.mk (below_step z7_4 hb); clear BK342; clear HB; have BK342 := n0_; have HB := n1_; clear n0_ n1_; (try clear hb); (try clear hb2); (try clear hk); (try clear hi); have hcz8_0 : w7.cell? ⟨gb342, 0, none⟩ = some (.slice A0_0 l0_0.length c0_0) := (blk_cell BK342.out 0).trans rfl; have hcz8_1 : w7.cell? ⟨gb342, 1, none⟩ = some (.int .i64 a0_1) := (blk_cell BK342.out 1).trans rfl; have hcz8_2 : w7.cell? ⟨gb342, 2, none⟩ = some (.int .i64 a0_2) := (blk_cell BK342.out 2).trans rfl; have hcz8_3 : w7.cell? ⟨gb342, 3, none⟩ = some (.int .i64 a0_3) := (blk_cell BK342.out 3).trans rfl; have hfz8_0 := blk_frozen BK342.out 0; have hfz8_1 := blk_frozen BK342.out 1; have hfz8_2 := blk_frozen BK342.out 2; have hfz8_3 := blk_frozen BK342.out 3) | (go_at_call 129; (with_reducible refine (impl_ExprOk.calls a0_1 a0_2 a0_3 t344 _ A4.out).mono ?_); rintro e w9 ⟨rfl, hb⟩; have n0_ := Aside0.mk (blk_below (g := gb342) (o := .cells #[.slice A0_0 l0_0.length c0_0, .int .i64 a0_1, .int .i64 a0_2, .int .i64 a0_3] 34 (0, 0)) z7_5 hb); have n1_ := Aside0.mk (below_step z7_4 hb); clear BK342; clear HB; have BK342 := n0_; have HB := n1_; clear n0_ n1_; (try clear hb); (try clear hb2); (try clear hk); (try clear hi)))
    go_ret
    exact ⟨by first | rfl | (simp [errW_none, errW_some] <;> rfl) | (simp [*, errW_none, errW_some] <;> rfl) | (simp [*, errW_none, errW_some, i64_w]; done), by repeat (first | (with_reducible first | exact HB.out | apply below_alloc | apply pw_below_drewN | apply below_drew1 | refine below_set ?_ GE342.out) | exact HB.out)⟩
  · replace c3 := Bool.eq_false_iff.mpr c3
    subst c3
    have H1 : (some false) = some r := by rw [if_neg (show ¬ (false = true) by decide)] at H; exact H
    clear H
    have H := H1
    clear H1
    obtain rfl := Option.some.inj H
    go_enter Try.func90, Try.ntmps90
    go_wp2_with (first | ((with_reducible refine gate_dst (N := 1) rfl ?_); refine box_event ?hg (N := 1) ?hd (cs := #[.slice A0_0 l0_0.length c0_0, .int .i64 a0_1, .int .i64 a0_2, .int .i64 a0_3]) (t := 34) ?hr ?_; (case hd => rfl); (case hg => rfl); (case hr => exact z7_3); intro gb342 hg w10 hbox hb; have n0_ := Aside0.mk (below_step z7_0 hb); have n1_ := Aside0.mk (hbox); have n2_ := Aside0.mk ((z7_6 : w.heap.size ≤ gb342)); have n3_ := Aside0.mk ((z7_6 : w.heap.size ≤ gb342)); clear HB; have HB := n0_; have BK342 := n1_; have GW342 := n2_; have GE342 := n3_; clear n0_ n1_ n2_ n3_; clear hb hbox hg; have hcz11_0 : w10.cell? ⟨gb342, 0, none⟩ = some (.slice A0_0 l0_0.length c0_0) := (blk_cell BK342.out 0).trans rfl; have hcz11_1 : w10.cell? ⟨gb342, 1, none⟩ = some (.int .i64 a0_1) := (blk_cell BK342.out 1).trans rfl; have hcz11_2 : w10.cell? ⟨gb342, 2, none⟩ = some (.int .i64 a0_2) := (blk_cell BK342.out 2).trans rfl; have hcz11_3 : w10.cell? ⟨gb342, 3, none⟩ = some (.int .i64 a0_3) := (blk_cell BK342.out 3).trans rfl; have hfz11_0 := blk_frozen BK342.out 0; have hfz11_1 := blk_frozen BK342.out 1; have hfz11_2 := blk_frozen BK342.out 2; have hfz11_3 := blk_frozen BK342.out 3) | ((first | ((with_reducible refine gate_callee (f := 55) rfl ?_); refine goesL_ (some 5) rfl rfl Try.func55 (by kernel_rfl) rfl #[.slice A0_0 l0_0.length c0_0] rfl z7_1 ?_; (with_reducible refine (impl_BlockOk.calls k _ _ l0_0 false _ ?side1 ?side2 A2.out).mono ?_)) | (go_at_call 55; (with_reducible refine (impl_BlockOk.calls k _ _ l0_0 false _ ?side1 ?side2 A2.out).mono ?_))); (case side1 => exact z7_2); (case side2 => exact HC0_0.out); rintro e w12 ⟨rfl, hb⟩; (first | refine ⟨_, rfl, ?_⟩ | skip); have n0_ := Aside0.mk (blk_below (g := gb342) (o := .cells #[.slice A0_0 l0_0.length c0_0, .int .i64 a0_1, .int .i64 a0_2, .int .i64 a0_3] 34 (0, 0)) z7_5 hb); have n1_ := Aside0.mk (below_step z7_4 hb); clear BK342; clear HB; have BK342 := n0_; have HB := n1_; clear n0_ n1_; (try clear hb); (try clear hb2); (try clear hk); (try clear hi)))
    go_ret
    exact ⟨by first | rfl | (simp [errW_none, errW_some] <;> rfl) | (simp [*, errW_none, errW_some] <;> rfl) | (simp [*, errW_none, errW_some, i64_w]; done), by repeat (first | (with_reducible first | exact HB.out | apply below_alloc | apply pw_below_drewN | apply below_drew1 | refine below_set ?_ GE342.out) | exact HB.out)⟩

-- NOT PRINTED: function 161 (impl_Task_161)

-- NOT PRINTED: function 136 (impl_Task_136)

-- NOT PRINTED: function 137 (impl_ProgramOk_1)

/-! ### impl_ProgramOk: function 99 -/
/-- Whether one of the tasks is not valid: asked one by one, until one is not. -/
def anyNot (k : Nat) : List S34 → Option Bool
  | [] => some false
  | t :: r => (impl_taskOk.f k t.f0 t.f1.f0 t.f1.f1 t.f1.f2).bind fun b => if b = true then anyNot k r else some true
theorem anyNot_mono (k : Nat) : ∀ l, LeO (anyNot k l) (anyNot (k + 1) l)
  | [] => LeO.refl _
  | t :: r => LeO.bind (impl_taskOk.mono _ _ _ _ k) (fun _ => LeO.ite (anyNot_mono k r) (LeO.refl _))
theorem drop_task {l : List S34} {i : Int} (h0 : 0 ≤ i) (h : i < (l.length : Int)) : l.drop i.toNat = rd_T34 l i :: l.drop (i + 1).toNat := by
  have h1 : i.toNat < l.length := by omega
  have h2 : (i + 1).toNat = i.toNat + 1 := by omega
  unfold rd_T34
  rw [h2, List.drop_eq_getElem_cons h1, List.getD_eq_getElem?_getD, List.getElem?_eq_getElem h1]
  rfl
set_option maxHeartbeats 8000000 in
set_option maxRecDepth 100000 in
theorem taskNot_clo (k : Nat) (A : Option Addr) (c : Nat) (l : List S77) (a1 a2 a3 : Int) (b : Bool) (w : World) (hr : Kd.C k77 w A l.length l) (hc : l.length ≤ c) (h : impl_taskOk.f k l a1 a2 a3 = some b) :
    Calls Try.prog 137 #[.agg #[.slice A l.length c, .int .i64 a1, .int .i64 a2, .int .i64 a3]] w fun e w' => e = .returned (.bool (!b)) ∧ Below w.heap.size w w' := by
  have HR := Aside0.mk hr
  have HC := Aside0.mk hc
  have Hb := Aside0.mk h
  have HB := Aside0.mk (Below.refl w.heap.size w)
  clear hr hc h
  go_enter Try.func137, Try.ntmps137
  go_wp2_with (go_at_call 90; (with_reducible refine (impl_taskOk.calls k _ _ l a1 a2 a3 b _ ?side1 ?side2 Hb.out).mono ?_); (case side1 => repeat (first | exact (Kd.C_below HR.out HB.out) | (with_reducible refine Kd.C_alloc ?_ _) | (with_reducible refine Kd.C_drewN ?_ _) | (with_reducible refine Kd.C_drew ?_))); (case side2 => exact HC.out); rintro e w10 ⟨rfl, hb⟩; have n1_ := Aside0.mk (below_step z7_0 hb); clear HB; have HB := n1_; clear n1_; clear hb)
  go_ret
  exact ⟨rfl, by repeat (first | (with_reducible first | exact HB.out | apply below_alloc | apply pw_below_drewN | apply below_drew1) | exact HB.out)⟩
set_option maxHeartbeats 8000000 in
set_option maxRecDepth 100000 in
theorem taskNot_index (k : Nat) (A : Option Addr) (c : Nat) (l : List S34) (r : Bool) (w : World) (hr : Kd.C k34 w A l.length l) (h : anyNot k l = some r) :
    Calls Try.prog 161 #[.slice A l.length c, .func (.func 137) #[] #[]] w fun e w' => ∃ i : Int, e = .returned (.int .i64 i) ∧ decide (i ≥ 0) = r ∧ Below w.heap.size w w' := by
  have HR := Aside0.mk hr
  have HH := Aside0.mk h
  have hlen : l.length ≤ 9223372036854775807 := hr.2.1
  clear hr h
  go_enter Try.func161, Try.ntmps161
  go_wp2
  go_loopw [8] (fun v8 w' => ∃ x : Int, v8 = .int .i64 x ∧ Aside0 (0 ≤ x) ∧ Aside0 (x ≤ (l.length : Int)) ∧ Aside0 (anyNot k (l.drop x.toNat) = some r) ∧ Aside0 (Below w.heap.size w w')) (fun v8 _ => l.length - (intOf v8).toNat)
  case atStart => exact ⟨0, rfl, ⟨by omega⟩, ⟨by omega⟩, HH, ⟨by repeat (first | exact Below.refl _ _ | apply below_alloc | apply pw_below_drewN | apply below_drew1)⟩⟩
  case round =>
    obtain ⟨x, rfl, Hx0, Hx1, Hp, HB⟩ := hrel
    by_cases hlt : x < (l.length : Int)
    · have c1 : decide (x < (l.length : Int)) = true := decide_eq_true hlt
      have h0 := Hx0.out
      obtain ⟨ad, A1, c2, e, hx0, hx1, hx2, hx3, hl1, hi1⟩ := at_T34 HR.out x h0 hlt
      cases e
      replace hx0 := (HB.out.cell (World.block_lt_of_cell? w _ hx0)).trans hx0
      replace hx1 := (HB.out.cell (World.block_lt_of_cell? w _ hx1)).trans hx1
      replace hx2 := (HB.out.cell (World.block_lt_of_cell? w _ hx2)).trans hx2
      replace hx3 := (HB.out.cell (World.block_lt_of_cell? w _ hx3)).trans hx3
      have Hl1 := Aside0.mk hl1
      have Hi1 := Aside0.mk hi1
      have hp := Hp.out
      rw [drop_task h0 hlt, anyNot] at hp
      obtain ⟨b, hb, hp2⟩ := Option.bind_eq_some_iff.mp hp
      have Hb := Aside0.mk hb
      have Hp2 := Aside0.mk hp2
      have Hlt := Aside0.mk hlt
      clear hb hlt hp hp2 hl1 hi1 Hp
      have p1 := eq_true h0
      have q1 := eq_true Hlt.out
      have hsum : wrap64 (x + 1) = x + 1 := by have := Hlt.out; unfold wrap64; omega
      have Hs := Aside0.mk hsum
      clear hsum h0
      cases b with
      | true =>
        go_wp2_with (go_at_call 137; (with_reducible refine (taskNot_clo k _ _ _ _ _ _ true _ ?side1 ?side2 Hb.out).mono ?_); (case side1 => repeat (first | exact (Kd.C_below Hi1.out HB.out) | (with_reducible refine Kd.C_alloc ?_ _) | (with_reducible refine Kd.C_drewN ?_ _) | (with_reducible refine Kd.C_drew ?_))); (case side2 => exact Hl1.out); rintro e w10 ⟨rfl, hb⟩; have n1_ := Aside0.mk (below_step z7_0 hb); clear HB; have HB := n1_; clear n1_; clear hb)
        go_roundw
        case rel => exact ⟨x + 1, by rw [Hs.out], ⟨by have := Hx0.out; omega⟩, ⟨by have := Hlt.out; omega⟩, ⟨by simpa using Hp2.out⟩, ⟨by repeat (first | (with_reducible first | exact HB.out | apply below_alloc | apply pw_below_drewN | apply below_drew1) | exact HB.out)⟩⟩
        case measure =>
          have := Hlt.out
          have := Hx0.out
          rw [Hs.out]
          simp [intOf]
          omega
      | false =>
        go_wp2_with (go_at_call 137; (with_reducible refine (taskNot_clo k _ _ _ _ _ _ false _ ?side1 ?side2 Hb.out).mono ?_); (case side1 => repeat (first | exact (Kd.C_below Hi1.out HB.out) | (with_reducible refine Kd.C_alloc ?_ _) | (with_reducible refine Kd.C_drewN ?_ _) | (with_reducible refine Kd.C_drew ?_))); (case side2 => exact Hl1.out); rintro e w10 ⟨rfl, hb⟩; have n1_ := Aside0.mk (below_step z7_0 hb); clear HB; have HB := n1_; clear n1_; clear hb)
        go_ret
        exact ⟨x, rfl, by
          have := Hp2.out
          rw [if_neg (by simp)] at this
          have e := Option.some.inj this
          rw [← e]
          simpa using Hx0.out, by repeat (first | (with_reducible first | exact HB.out | apply below_alloc | apply pw_below_drewN | apply below_drew1) | exact HB.out)⟩
    · have c1 : decide (x < (l.length : Int)) = false := decide_eq_false hlt
      have hx : x = (l.length : Int) := by have := Hx1.out; omega
      have hp := Hp.out
      rw [List.drop_eq_nil_of_le (by omega), anyNot] at hp
      have Hp2 := Aside0.mk (Option.some.inj hp)
      clear hx hlt hp Hp
      go_wp2
      go_ret
      exact ⟨-1, rfl, by rw [← Hp2.out]; rfl, by repeat (first | (with_reducible first | exact HB.out | apply below_alloc | apply pw_below_drewN | apply below_drew1) | exact HB.out)⟩
set_option maxRecDepth 100000 in
theorem taskNot_contains (k : Nat) (A : Option Addr) (c : Nat) (l : List S34) (r : Bool) (w : World) (hr : Kd.C k34 w A l.length l) (h : anyNot k l = some r) :
    Calls Try.prog 136 #[.slice A l.length c, .func (.func 137) #[] #[]] w fun e w' => e = .returned (.bool r) ∧ Below w.heap.size w w' := by
  have HR := Aside0.mk hr
  have HH := Aside0.mk h
  clear hr h
  go_enter Try.func136, Try.ntmps136
  go_wp2_with fail
  refine (taskNot_index k A c l r _ HR.out HH.out).mono ?_
  rintro e w' ⟨i, rfl, hi, hb⟩
  have Hi := Aside0.mk hi
  have HB := Aside0.mk hb
  clear hi hb
  go_wp2
  go_ret
  exact ⟨by first | rfl | (rw [Hi.out]; done) | (simp [Hi.out]; done) | (have e := Hi.out; simp at e ⊢; exact e), by repeat (first | (with_reducible first | exact HB.out | apply below_alloc | apply pw_below_drewN | apply below_drew1) | exact HB.out)⟩
def impl_ProgramOk.f (k : Nat) (l0_0 : List S34) : Option Bool := (impl_within.f (l0_0.length : Int) 1 6).bind fun t => if t = true then (anyNot k l0_0).bind fun b => some (!b) else some false
theorem impl_ProgramOk.mono : ∀ a0 k, LeO (impl_ProgramOk.f k a0) (impl_ProgramOk.f (k + 1) a0) := by
  intro a0 k
  unfold impl_ProgramOk.f
  exact LeO.bind (LeO.refl _) (fun _ => LeO.ite (LeO.bind (anyNot_mono k a0) (fun _ => LeO.refl _)) (LeO.refl _))
set_option maxHeartbeats 8000000 in
set_option maxRecDepth 100000 in
theorem impl_ProgramOk.calls (k : Nat) (A0_0 : Option Addr) (c0_0 : Nat) (l0_0 : List S34) (r : Bool) (w : World) (hr0_0 : Kd.C k34 w A0_0 l0_0.length l0_0) (hc0_0 : l0_0.length ≤ c0_0) (h : impl_ProgramOk.f k l0_0 = some r) :
    Calls Try.prog 99 #[.agg #[.slice A0_0 l0_0.length c0_0]] w fun e w' => e = .returned (.bool r) ∧ Below w.heap.size w w' := by
  have hu53 := Try.underlying26
  have HR0 := Aside0.mk hr0_0
  have HC0 := Aside0.mk hc0_0
  have HB := Aside0.mk (Below.refl w.heap.size w)
  clear hr0_0 hc0_0
  unfold impl_ProgramOk.f at h
  obtain ⟨t, h1, h2⟩ := Option.bind_eq_some_iff.mp h
  clear h
  have A1 := Aside0.mk h1
  clear h1
  cases t with
  | true =>
    rw [if_pos rfl] at h2
    obtain ⟨b, h3, h4⟩ := Option.bind_eq_some_iff.mp h2
    obtain rfl := Option.some.inj h4
    have A2 := Aside0.mk h3
    clear h2 h3 h4
    go_enter Try.func99, Try.ntmps99
    go_wp2_with (first | ((with_reducible refine gate_dst (N := 1) rfl ?_); refine box_event ?hg (N := 1) ?hd (cs := #[.slice A0_0 l0_0.length c0_0]) (t := 26) ?hr ?_; (case hd => rfl); (case hg => rfl); (case hr => exact z7_3); intro gb hg w2 hbox hb; have n0_ := Aside0.mk (below_step HB.out hb); have BK := Aside0.mk (hbox); clear HB; have HB := n0_; clear n0_; clear hb hbox hg; have hcz0 : w2.cell? ⟨gb, 0, none⟩ = some (.slice A0_0 l0_0.length c0_0) := (blk_cell BK.out 0).trans rfl; have hfz0 := blk_frozen BK.out 0) | (go_at_call 100; (with_reducible refine (impl_within.calls _ _ _ true _ A1.out).mono ?_); rintro e w' ⟨rfl, ⟨nd, rfl⟩⟩) | (go_at_call 136; (with_reducible refine (taskNot_contains k _ _ l0_0 b _ ?side1 A2.out).mono ?_); (case side1 => repeat (first | exact (Kd.C_below HR0.out HB.out) | (with_reducible refine Kd.C_alloc ?_ _) | (with_reducible refine Kd.C_drewN ?_ _) | (with_reducible refine Kd.C_drew ?_))); rintro e w10 ⟨rfl, hb⟩; have n1_ := Aside0.mk (below_step z7_0 hb); clear HB; have HB := n1_; clear n1_; clear hb))
    go_ret
    exact ⟨by first | rfl | (simp; done), by repeat (first | (with_reducible first | exact HB.out | apply below_alloc | apply pw_below_drewN | apply below_drew1) | exact HB.out)⟩
  | false =>
    rw [if_neg (by simp)] at h2
    obtain rfl := Option.some.inj h2
    clear h2
    go_enter Try.func99, Try.ntmps99
    go_wp2_with (first | ((with_reducible refine gate_dst (N := 1) rfl ?_); refine box_event ?hg (N := 1) ?hd (cs := #[.slice A0_0 l0_0.length c0_0]) (t := 26) ?hr ?_; (case hd => rfl); (case hg => rfl); (case hr => exact z7_3); intro gb hg w2 hbox hb; have n0_ := Aside0.mk (below_step HB.out hb); have BK := Aside0.mk (hbox); clear HB; have HB := n0_; clear n0_; clear hb hbox hg; have hcz0 : w2.cell? ⟨gb, 0, none⟩ = some (.slice A0_0 l0_0.length c0_0) := (blk_cell BK.out 0).trans rfl; have hfz0 := blk_frozen BK.out 0) | (go_at_call 100; (with_reducible refine (impl_within.calls _ _ _ false _ A1.out).mono ?_); rintro e w' ⟨rfl, ⟨nd, rfl⟩⟩))
    go_ret
    exact ⟨by first | rfl | (simp; done), by repeat (first | (with_reducible first | exact HB.out | apply below_alloc | apply pw_below_drewN | apply below_drew1) | exact HB.out)⟩

/-! ### impl_hasTask: function 60 -/
def impl_hasTask.f (k : Nat) (l0_0 : List (S34)) (a1 : Int) : Option (Bool) := (impl_ProgramOk.f k l0_0).bind fun t346 => (if t346 = true then ((impl_within.f a1 0 (wrap64 ((l0_0.length : Int) - 1))).bind fun t347 => (some t347)) else (some false))
theorem impl_hasTask.mono : ∀ a0 a1 k, LeO (impl_hasTask.f k a0 a1) (impl_hasTask.f (k + 1) a0 a1) := by
  intro a0 a1 k
  unfold impl_hasTask.f
  repeat' first
      | (with_reducible exact impl_ProgramOk.mono _ _)
      | (with_reducible exact LeO.refl _)
      | (with_reducible exact LeO.none _)
      | (with_reducible refine LeO.ite ?_ ?_)
      | (with_reducible refine LeO.bind ?_ (fun _ => ?_))
      | exact impl_ProgramOk.mono _ _
      | exact LeO.none _
      | refine LeO.ite ?_ ?_
      | refine LeO.bind ?_ (fun _ => ?_)
set_option maxHeartbeats 8000000 in
set_option maxRecDepth 100000 in
theorem impl_hasTask.calls (k : Nat) (A0_0 : Option Addr) (c0_0 : Nat) (l0_0 : List (S34)) (a1 : Int) (r : Bool) (w : World) (hr0_0 : Kd.C k34 w A0_0 l0_0.length l0_0) (hc0_0 : l0_0.length ≤ c0_0) (h : impl_hasTask.f k l0_0 a1 = some r) :
    Calls Try.prog 60 #[.agg #[.slice A0_0 l0_0.length c0_0], .int .i64 a1] w fun e w' => e = .returned (.bool r) ∧ Below w.heap.size w w' := by
  have hu26 := Try.underlying26
  have HR0_0 := Aside0.mk hr0_0
  have HC0_0 := Aside0.mk hc0_0
  clear hr0_0 hc0_0
  have HB := Aside0.mk (Below.refl w.heap.size w)
  have H : ((impl_ProgramOk.f k l0_0).bind fun t346 => (if t346 = true then ((impl_within.f a1 0 (wrap64 ((l0_0.length : Int) - 1))).bind fun t347 => (some t347)) else (some false))) = some r := h
  clear h
  replace H := Option.bind_eq_some_iff.mp H
  obtain ⟨t346, A30, H⟩ := H
  replace H : (if t346 = true then ((impl_within.f a1 0 (wrap64 ((l0_0.length : Int) - 1))).bind fun t347 => (some t347)) else (some false)) = some r := H
  have A3 := Aside0.mk A30
  clear A30
  by_cases c4 : t346 = true
  · subst c4
    have H1 : ((impl_within.f a1 0 (wrap64 ((l0_0.length : Int) - 1))).bind fun t347 => (some t347)) = some r := by rw [if_pos rfl] at H; exact H
    clear H
    have H := H1
    clear H1
    replace H := Option.bind_eq_some_iff.mp H
    obtain ⟨t347, A50, H⟩ := H
    replace H : (some t347) = some r := H
    have A5 := Aside0.mk A50
    clear A50
    obtain rfl := Option.some.inj H
    go_enter Try.func60, Try.ntmps60
    go_wp2_with (first | ((with_reducible refine gate_dst (N := 2) rfl ?_); (try (refine gate_guard (by rfl) ?_; dsimp only)); refine box_event ?hg (N := 2) ?hd (cs := #[.slice A0_0 l0_0.length c0_0]) (t := 26) ?hr ?_; (case hd => rfl); (case hg => rfl); (case hr => exact z7_3); intro gb345 hg w6 hbox hb; have n0_ := Aside0.mk (below_step z7_0 hb); have n1_ := Aside0.mk (hbox); have n2_ := Aside0.mk ((z7_6 : w.heap.size ≤ gb345)); have n3_ := Aside0.mk ((z7_6 : w.heap.size ≤ gb345)); clear HB; have HB := n0_; have BK345 := n1_; have GW345 := n2_; have GE345 := n3_; clear n0_ n1_ n2_ n3_; clear hb hbox hg; have hcz7_0 : w6.cell? ⟨gb345, 0, none⟩ = some (.slice A0_0 l0_0.length c0_0) := (blk_cell BK345.out 0).trans rfl; have hfz7_0 := blk_frozen BK345.out 0) | ((first | ((with_reducible refine gate_callee (f := 99) rfl ?_); refine goesL_ (some 6) rfl rfl Try.func99 (by kernel_rfl) rfl #[.agg #[.slice A0_0 l0_0.length c0_0]] rfl z7_1 ?_; (with_reducible refine (impl_ProgramOk.calls k _ _ l0_0 true _ ?side1 ?side2 A3.out).mono ?_)) | (go_at_call 99; (with_reducible refine (impl_ProgramOk.calls k _ _ l0_0 true _ ?side1 ?side2 A3.out).mono ?_))); (case side1 => exact z7_2); (case side2 => exact HC0_0.out); rintro e w8 ⟨rfl, hb⟩; (first | refine ⟨_, rfl, ?_⟩ | skip); have n0_ := Aside0.mk (blk_below (g := gb345) (o := .cells #[.slice A0_0 l0_0.length c0_0] 26 (0, 0)) (by (with_reducible repeat (first | refine blk_drewN ?_ _ | refine blk_drew ?_ | refine blk_alloc ?_ _)); exact BK345.out) hb); have n1_ := Aside0.mk (below_step (by repeat (first | (with_reducible first | exact HB.out | apply below_alloc | apply pw_below_drewN | apply below_drew1 | refine below_set ?_ GE345.out) | exact HB.out)) hb); clear BK345; clear HB; have BK345 := n0_; have HB := n1_; clear n0_ n1_; (try clear hb); (try clear hb2); (try clear hk); (try clear hi); have hcz9_0 : w8.cell? ⟨gb345, 0, none⟩ = some (.slice A0_0 l0_0.length c0_0) := (blk_cell BK345.out 0).trans rfl; have hfz9_0 := blk_frozen BK345.out 0) | (go_at_call 100; (with_reducible refine (impl_within.calls a1 0 (wrap64 ((l0_0.length : Int) - 1)) t347 _ A5.out).mono ?_); rintro e w' ⟨rfl, ⟨nd, rfl⟩⟩))
    go_ret
    exact ⟨by first | rfl | (simp [errW_none, errW_some] <;> rfl) | (simp [*, errW_none, errW_some] <;> rfl) | (simp [*, errW_none, errW_some, i64_w]; done), by repeat (first | (with_reducible first | exact HB.out | apply below_alloc | apply pw_below_drewN | apply below_drew1 | refine below_set ?_ GE345.out) | exact HB.out)⟩
  · replace c4 := Bool.eq_false_iff.mpr c4
    subst c4
    have H1 : (some false) = some r := by rw [if_neg (show ¬ (false = true) by decide)] at H; exact H
    clear H
    have H := H1
    clear H1
    obtain rfl := Option.some.inj H
    go_enter Try.func60, Try.ntmps60
    go_wp2_with (first | ((with_reducible refine gate_dst (N := 2) rfl ?_); (try (refine gate_guard (by rfl) ?_; dsimp only)); refine box_event ?hg (N := 2) ?hd (cs := #[.slice A0_0 l0_0.length c0_0]) (t := 26) ?hr ?_; (case hd => rfl); (case hg => rfl); (case hr => exact z7_3); intro gb345 hg w10 hbox hb; have n0_ := Aside0.mk (below_step z7_0 hb); have n1_ := Aside0.mk (hbox); have n2_ := Aside0.mk ((z7_6 : w.heap.size ≤ gb345)); have n3_ := Aside0.mk ((z7_6 : w.heap.size ≤ gb345)); clear HB; have HB := n0_; have BK345 := n1_; have GW345 := n2_; have GE345 := n3_; clear n0_ n1_ n2_ n3_; clear hb hbox hg; have hcz11_0 : w10.cell? ⟨gb345, 0, none⟩ = some (.slice A0_0 l0_0.length c0_0) := (blk_cell BK345.out 0).trans rfl; have hfz11_0 := blk_frozen BK345.out 0) | ((first | ((with_reducible refine gate_callee (f := 99) rfl ?_); refine goesL_ (some 6) rfl rfl Try.func99 (by kernel_rfl) rfl #[.agg #[.slice A0_0 l0_0.length c0_0]] rfl z7_1 ?_; (with_reducible refine (impl_ProgramOk.calls k _ _ l0_0 false _ ?side1 ?side2 A3.out).mono ?_)) | (go_at_call 99; (with_reducible refine (impl_ProgramOk.calls k _ _ l0_0 false _ ?side1 ?side2 A3.out).mono ?_))); (case side1 => exact z7_2); (case side2 => exact HC0_0.out); rintro e w12 ⟨rfl, hb⟩; (first | refine ⟨_, rfl, ?_⟩ | skip); have n0_ := Aside0.mk (blk_below (g := gb345) (o := .cells #[.slice A0_0 l0_0.length c0_0] 26 (0, 0)) (by (with_reducible repeat (first | refine blk_drewN ?_ _ | refine blk_drew ?_ | refine blk_alloc ?_ _)); exact BK345.out) hb); have n1_ := Aside0.mk (below_step (by repeat (first | (with_reducible first | exact HB.out | apply below_alloc | apply pw_below_drewN | apply below_drew1 | refine below_set ?_ GE345.out) | exact HB.out)) hb); clear BK345; clear HB; have BK345 := n0_; have HB := n1_; clear n0_ n1_; (try clear hb); (try clear hb2); (try clear hk); (try clear hi)))
    go_ret
    exact ⟨by first | rfl | (simp [errW_none, errW_some] <;> rfl) | (simp [*, errW_none, errW_some] <;> rfl) | (simp [*, errW_none, errW_some, i64_w]; done), by repeat (first | (with_reducible first | exact HB.out | apply below_alloc | apply pw_below_drewN | apply below_drew1 | refine below_set ?_ GE345.out) | exact HB.out)⟩

-- NOT PRINTED: function 132 (slices_IndexFunc_int_int)

-- NOT PRINTED: function 101 (slices_ContainsFunc_int_int)

/-! ### impl_IsValue: function 103 -/
def impl_IsValue.f (a0 : Int) : Option (Bool) := (impl_within.f a0 (-1000000) 1000000).bind fun t348 => (some t348)
set_option maxHeartbeats 8000000 in
set_option maxRecDepth 100000 in
theorem impl_IsValue.calls (a0 : Int) (r : Bool) (w : World) (h : impl_IsValue.f a0 = some r) :
    Calls Try.prog 103 #[.int .i64 a0] w fun e w' => e = .returned (.bool r) ∧ Drawn0 w w' := by
  have H : ((impl_within.f a0 (-1000000) 1000000).bind fun t348 => (some t348)) = some r := h
  clear h
  replace H := Option.bind_eq_some_iff.mp H
  obtain ⟨t348, A20, H⟩ := H
  replace H : (some t348) = some r := H
  have A2 := Aside0.mk A20
  clear A20
  obtain rfl := Option.some.inj H
  go_enter Try.func103, Try.ntmps103
  go_wp2_with (first | ((first | ((with_reducible refine gate_callee (f := 100) rfl ?_); refine goesL_ (some 4) rfl rfl Try.func100 (by kernel_rfl) rfl #[.int .i64 a0, .int .i64 (-1000000), .int .i64 1000000] rfl z7_1 ?_; (with_reducible refine (impl_within.calls a0 (-1000000) 1000000 t348 _ A2.out).mono ?_)) | (go_at_call 100; (with_reducible refine (impl_within.calls a0 (-1000000) 1000000 t348 _ A2.out).mono ?_))); rintro e w' ⟨rfl, ⟨nd, rfl⟩⟩; (first | refine ⟨_, rfl, ?_⟩ | skip)))
  go_ret
  exact ⟨by first | rfl | (simp; done) | (simp [*]; done), by repeat (first | exact Drawn0.refl _ | apply Drawn0.step)⟩

-- NOT PRINTED: function 102 (impl_areValues_1)

/-! ### impl_areValues: function 62 -/
/-- The closure's question. -/
def valP (x : Int) : Bool := decide (-1000000 ≤ x ∧ x ≤ 1000000)
theorem valP_eq (x : Int) : impl_IsValue.f x = some (valP x) := by
  unfold impl_IsValue.f impl_within.f valP
  by_cases h : -1000000 ≤ x <;> simp [h]
set_option maxRecDepth 100000 in
theorem valP_clo (x : Int) (b : Bool) (w : World) (hb : valP x = b) : Calls Try.prog 102 #[.int .i64 x] w fun e w' => e = .returned (.bool (!b)) ∧ Drawn0 w w' := by
  have Hb := Aside0.mk ((valP_eq x).trans (congrArg some hb))
  clear hb
  go_enter Try.func102, Try.ntmps102
  go_wp2_with (go_at_call 103; (with_reducible refine (impl_IsValue.calls x b _ Hb.out).mono ?_); rintro e w' ⟨rfl, ⟨nd, rfl⟩⟩)
  go_ret
  exact ⟨rfl, by repeat (first | exact Drawn0.refl _ | apply Drawn0.step)⟩
theorem valP_none (l : List Int) (h : ∀ i : Int, 0 ≤ i → i < (l.length : Int) → valP (rd l i) = true) : l.any (fun x => !valP x) = false := by
  rw [List.any_eq_false]
  intro x hx
  obtain ⟨i, hi⟩ := List.getElem?_of_mem hx
  have hl := (List.getElem?_eq_some_iff.1 hi).1
  have := h (i : Int) (by omega) (by omega)
  unfold rd at this
  rw [Int.toNat_natCast, List.getD_eq_getElem?_getD, hi] at this
  simpa using this
theorem valP_some (l : List Int) (i : Int) (h0 : 0 ≤ i) (h1 : i < (l.length : Int)) (h : valP (rd l i) = false) : l.any (fun x => !valP x) = true := by
  rw [List.any_eq_true]
  refine ⟨rd l i, ?_, by simpa using h⟩
  unfold rd
  rw [List.getD_eq_getElem?_getD, List.getElem?_eq_getElem (by omega)]
  exact List.getElem_mem _
set_option maxHeartbeats 8000000 in
set_option maxRecDepth 100000 in
theorem valP_index (A : Option Addr) (c : Nat) (l : List Int) (w : World) (hr : Kd.C (Kd.int .i64) w A l.length l) :
    Calls Try.prog 132 #[.slice A l.length c, .func (.func 102) #[] #[]] w fun e w' => ∃ i : Int, e = .returned (.int .i64 i) ∧ decide (i ≥ 0) = l.any (fun x => !valP x) ∧ Drawn0 w w' := by
  have HR := Aside0.mk hr
  have hlen : l.length ≤ 9223372036854775807 := hr.2.1
  clear hr
  go_enter Try.func132, Try.ntmps132
  go_wp2
  go_loopw [8] (fun v8 w' => ∃ x : Int, v8 = .int .i64 x ∧ Aside0 (0 ≤ x) ∧ Aside0 (x ≤ (l.length : Int)) ∧ Aside0 (∀ i : Int, 0 ≤ i → i < x → valP (rd l i) = true) ∧ Drawn0 w w') (fun v8 _ => l.length - (intOf v8).toNat)
  case atStart => exact ⟨0, rfl, ⟨by omega⟩, ⟨by omega⟩, ⟨fun i h0 h1 => by omega⟩, Drawn0.refl _⟩
  case round =>
    obtain ⟨x, rfl, Hx0, Hx1, Hp, ⟨m, rfl⟩⟩ := hrel
    by_cases hlt : x < (l.length : Int)
    · have c1 : decide (x < (l.length : Int)) = true := decide_eq_true hlt
      have h0 := Hx0.out
      obtain ⟨ad, e, hx⟩ := Kd.at_int HR.out x h0 hlt
      cases e
      obtain ⟨b, hb⟩ : ∃ b, valP (rd l x) = b := ⟨_, rfl⟩
      have Hb := Aside0.mk hb
      have Hlt := Aside0.mk hlt
      clear hb hlt
      have p1 := eq_true h0
      have q1 := eq_true Hlt.out
      have hsum : wrap64 (x + 1) = x + 1 := by have := Hlt.out; unfold wrap64; omega
      have Hs := Aside0.mk hsum
      clear hsum h0
      cases b with
      | true =>
        go_wp2_with (go_at_call 102; (with_reducible refine (valP_clo (rd l x) true _ Hb.out).mono ?_); rintro e w' ⟨rfl, ⟨nd, rfl⟩⟩)
        go_roundw
        case rel => exact ⟨x + 1, by rw [Hs.out], ⟨by have := Hx0.out; omega⟩, ⟨by have := Hlt.out; omega⟩, ⟨fun i h0 h1 => by
          by_cases e : i = x
          · rw [e]; exact Hb.out
          · exact Hp.out i h0 (by omega)⟩, by repeat (first | exact Drawn0.refl _ | apply Drawn0.step)⟩
        case measure =>
          have := Hlt.out
          have := Hx0.out
          rw [Hs.out]
          simp [intOf]
          omega
      | false =>
        go_wp2_with (go_at_call 102; (with_reducible refine (valP_clo (rd l x) false _ Hb.out).mono ?_); rintro e w' ⟨rfl, ⟨nd, rfl⟩⟩)
        go_ret
        exact ⟨x, rfl, by rw [valP_some l x Hx0.out Hlt.out Hb.out]; simpa using Hx0.out, by repeat (first | exact Drawn0.refl _ | apply Drawn0.step)⟩
    · have c1 : decide (x < (l.length : Int)) = false := decide_eq_false hlt
      have hx : x = (l.length : Int) := by have := Hx1.out; omega
      have Hx := Aside0.mk hx
      clear hx hlt
      go_wp2
      go_ret
      exact ⟨-1, rfl, by rw [valP_none l (fun i h0 h1 => Hp.out i h0 (by have := Hx.out; omega))]; rfl, by repeat (first | exact Drawn0.refl _ | apply Drawn0.step)⟩
set_option maxRecDepth 100000 in
theorem valP_contains (A : Option Addr) (c : Nat) (l : List Int) (b : Bool) (hb : l.any (fun x => !valP x) = b) (w : World) (hr : Kd.C (Kd.int .i64) w A l.length l) :
    Calls Try.prog 101 #[.slice A l.length c, .func (.func 102) #[] #[]] w fun e w' => e = .returned (.bool b) ∧ Drawn0 w w' := by
  have HR := Aside0.mk hr
  have Hb := Aside0.mk hb
  clear hr hb
  go_enter Try.func101, Try.ntmps101
  go_wp2_with fail
  refine (valP_index A c l _ HR.out).mono ?_
  rintro e w' ⟨i, rfl, hi, ⟨nd, rfl⟩⟩
  rw [Hb.out] at hi
  have Hi := Aside0.mk hi
  clear hi
  go_wp2
  go_ret
  exact ⟨by first | rfl | (rw [Hi.out]; done) | (simp [Hi.out]; done) | (have e := Hi.out; simp at e ⊢; exact e), by repeat (first | exact Drawn0.refl _ | apply Drawn0.step)⟩
def impl_areValues.f (l0 : List Int) : Option Bool := some (!(l0.any fun x => !valP x))
set_option maxRecDepth 100000 in
theorem impl_areValues.calls (A0 : Option Addr) (c0 : Nat) (l0 : List Int) (r : Bool) (w : World) (hr0 : Kd.C (Kd.int .i64) w A0 l0.length l0) (hc0 : l0.length ≤ c0) (h : impl_areValues.f l0 = some r) :
    Calls Try.prog 62 #[.slice A0 l0.length c0] w fun e w' => e = .returned (.bool r) ∧ Drawn0 w w' := by
  obtain ⟨b, hb⟩ : ∃ b, l0.any (fun x => !valP x) = b := ⟨_, rfl⟩
  unfold impl_areValues.f at h
  rw [hb] at h
  obtain rfl := Option.some.inj h
  have HR := Aside0.mk hr0
  have Hb := Aside0.mk hb
  clear hr0 hb h hc0
  go_enter Try.func62, Try.ntmps62
  go_wp2_with fail
  refine (valP_contains A0 c0 l0 b Hb.out _ HR.out).mono ?_
  rintro e w' ⟨rfl, ⟨nd, rfl⟩⟩
  go_wp2
  go_ret
  exact ⟨rfl, by repeat (first | exact Drawn0.refl _ | apply Drawn0.step)⟩


end Go.Proofs.Ytakhaknglhgimaa.G
