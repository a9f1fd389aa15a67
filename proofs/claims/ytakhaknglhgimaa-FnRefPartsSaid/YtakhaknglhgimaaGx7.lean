/- Functions of the program as plain Lean functions, and that each call comes to its function's answer; written by a program of the session. No condition. -/
import Derived.Test.YtakhaknglhgimaaGx0
import Derived.Test.YtakhaknglhgimaaGx2
import Derived.Test.YtakhaknglhgimaaGx3
import Derived.Test.YtakhaknglhgimaaGx6
namespace Go.Proofs.Ytakhaknglhgimaa.G
open Go.RowKit Go.Proofs.YtakhaknglhgimaaW.PrintWords Go.Proofs.YtakhaknglhgimaaW.PrintLast Go.Proofs.YtakhaknglhgimaaW.PrintMore
attribute [local go_sem] max2_int min2_int max_two min_two max_three min_three max_four min_four   -- for this text's walks alone
set_option linter.unusedVariables false
set_option linter.unusedSimpArgs false

theorem z7_0 {P : Prop} (h : P := by kernel_rfl) : P := h
theorem z7_1 {P : Prop} (h : P := by repeat (first | exact Below.refl _ _ | apply pw_below_drewN | apply below_drew1 | apply below_alloc)) : P := h
theorem z7_2 {P : Prop} (h : P := by decide) : P := h
/-! ### laws_FnRefParts: function 6 -/
/-- What follows once two runs have gone well. -/
def laws_FnRefParts.t (k : Nat) (u : List (List Int)) (n : Int) (p : List S34) (v1 s1 : List Int) (n1 : Int) (v2 s2 : List Int) (n2 : Int) : Option Bool :=
  (impl_RefRun.f k p n2 v2 (u.drop n.toNat)).bind fun c => if s2.length + c.2.1.length < 17592186044416 then (if c.2.2.2 = true then impl_SameRef.f k v1 s1 n1 c.1 ((s2 ++ c.2.1).take 24) c.2.2.1 else some false) else none
def laws_FnRefParts.m (k : Nat) (u : List (List Int)) (n : Int) (p : List S34) (v : List Int) : Option Bool :=
  if 0 ≤ n ∧ n ≤ (u.length : Int) then (impl_RefRun.f k p 0 v u).bind fun a => (impl_RefRun.f k p 0 v (u.take n.toNat)).bind fun b => if a.2.2.2 = true ∧ b.2.2.2 = true then laws_FnRefParts.t k u n p a.1 a.2.1 a.2.2.1 b.1 b.2.1 b.2.2.1 else some false else none
def laws_FnRefParts.f (k : Nat) (l0 : List Int) : Option Bool :=
  (laws_big.f l0).bind fun t => if t = true then some true else (spec_DrawProgram.f k l0).bind fun p => (spec_DrawVars.f k l0).bind fun v => (spec_DrawUsed.f k l0).bind fun u => (spec_DrawPlaces.f k l0).bind fun x =>
    if 0 < (x.length : Int) ∧ wrap64 ((u.length : Int) + 1) ≠ 0 then laws_FnRefParts.m k u (Int.tmod (rd x 0) (wrap64 ((u.length : Int) + 1))) p v else none
theorem laws_FnRefParts.mono : ∀ a0 k, LeO (laws_FnRefParts.f k a0) (laws_FnRefParts.f (k + 1) a0) := by
  intro a0 k
  unfold laws_FnRefParts.f
  refine LeO.bind (LeO.refl _) (fun _ => LeO.ite (LeO.refl _) (LeO.bind (spec_DrawProgram.mono _ _) (fun _ => LeO.bind (spec_DrawVars.mono _ _) (fun _ => LeO.bind (spec_DrawUsed.mono _ _) (fun _ => LeO.bind (spec_DrawPlaces.mono _ _) (fun _ => LeO.ite ?_ (LeO.refl _)))))))
  unfold laws_FnRefParts.m
  refine LeO.ite (LeO.bind (impl_RefRun.mono _ _ _ _ _) (fun _ => LeO.bind (impl_RefRun.mono _ _ _ _ _) (fun _ => LeO.ite ?_ (LeO.refl _)))) (LeO.refl _)
  unfold laws_FnRefParts.t
  exact LeO.bind (impl_RefRun.mono _ _ _ _ _) (fun _ => LeO.ite (LeO.ite (impl_SameRef.mono _ _ _ _ _ _ _) (LeO.refl _)) (LeO.refl _))

def laws_FnRefParts.T9 : Bool × List (List Nat × List Nat) := (true, [([], []), ([], []), ([], []), ([], []), ([2, 3], [2, 3]), ([0, 1, 4], [0, 1, 4]), ([5], [5]), ([6], [6]), ([6], [6]), ([], []), ([9, 7, 5, 0, 1, 2, 3, 4, 5, 6, 7, 9], [7, 9]), ([8, 10, 0, 1, 2, 3, 4, 5, 6, 7, 8, 9, 10], [8])])
def laws_FnRefParts.B9 : List Nat := [0, 0, 0, 0, 12, 31, 63, 127, 127, 0, 767, 2047]
theorem laws_FnRefParts.tab9 : rtab .any (opsOf Try.f6 9) = laws_FnRefParts.T9 := by kernel_rfl
theorem laws_FnRefParts.bits9 : waitsOk laws_FnRefParts.T9.2 laws_FnRefParts.B9 = true := by kernel_rfl
def laws_FnRefParts.T12 : Bool × List (List Nat × List Nat) := (true, [([], []), ([], []), ([1], [1]), ([], []), ([3], [3]), ([], []), ([], []), ([5, 6], [5, 6]), ([0, 2, 4, 7], [0, 2, 4, 7]), ([8], [8]), ([9], [9]), ([9], [9]), ([], []), ([12, 10, 8, 0, 1, 2, 3, 4, 5, 6, 7, 8, 9, 10, 12], [10, 12]), ([11, 13, 0, 1, 2, 3, 4, 5, 6, 7, 8, 9, 10, 11, 12, 13], [11])])
def laws_FnRefParts.B12 : List Nat := [0, 0, 2, 0, 8, 0, 0, 96, 255, 511, 1023, 1023, 0, 6143, 16383]
theorem laws_FnRefParts.tab12 : rtab .any (opsOf Try.f6 12) = laws_FnRefParts.T12 := by kernel_rfl
theorem laws_FnRefParts.bits12 : waitsOk laws_FnRefParts.T12.2 laws_FnRefParts.B12 = true := by kernel_rfl
def laws_FnRefParts.T13 : Bool × List (List Nat × List Nat) := (true, [([], []), ([], []), ([1], [1]), ([0, 2], [0, 2]), ([], []), ([4], [4]), ([3, 5, 3], [3, 5]), ([6, 6, 0, 1, 2, 3, 4, 5, 6], [6])])
def laws_FnRefParts.B13 : List Nat := [0, 0, 2, 7, 0, 16, 63, 127]
theorem laws_FnRefParts.tab13 : rtab .any (opsOf Try.f6 13) = laws_FnRefParts.T13 := by kernel_rfl
theorem laws_FnRefParts.bits13 : waitsOk laws_FnRefParts.T13.2 laws_FnRefParts.B13 = true := by kernel_rfl

set_option maxHeartbeats 8000000 in
set_option maxRecDepth 100000 in
theorem laws_FnRefParts.yes (k : Nat) (A0 : Option Addr) (c0 : Nat) (l0 : List Int) (p : List S34) (v x : List Int) (u y9 y12 : List (List Int)) (al v1 s1 v2 s2 v3 s3 : List Int) (n n1 n2 n3 : Int) (ok1 ok2 ok3 e : Bool) (w : World) (hr0 : Kd.C (Kd.int .u8) w A0 l0.length l0) (hc0 : l0.length ≤ c0)
    (h0 : laws_big.f l0 = some false) (hp : spec_DrawProgram.f k l0 = some p) (hv : spec_DrawVars.f k l0 = some v) (hu : spec_DrawUsed.f k l0 = some u) (hx : spec_DrawPlaces.f k l0 = some x) (hx0 : 0 < (x.length : Int)) (hz : wrap64 ((u.length : Int) + 1) ≠ 0)
    (hn : Int.tmod (rd x 0) (wrap64 ((u.length : Int) + 1)) = n) (hn0 : 0 ≤ n) (hn1 : n ≤ (u.length : Int)) (h1 : impl_RefRun.f k p 0 v u = some (v1, s1, n1, ok1)) (hy9 : y9 = u.take n.toNat) (h2 : impl_RefRun.f k p 0 v y9 = some (v2, s2, n2, ok2))
    (hl : ok1 = true → ok2 = true → s2.length + s3.length < 17592186044416) (hy12 : y12 = u.drop n.toNat) (hal : al = s2 ++ s3) (h3 : ok1 = true → ok2 = true → impl_RefRun.f k p n2 v2 y12 = some (v3, s3, n3, ok3)) (h4 : ok1 = true → ok2 = true → ok3 = true → impl_SameRef.f k v1 s1 n1 v3 (al.take 24) n3 = some e) :
    Calls Try.prog 6 #[.slice A0 l0.length c0] w fun e_ w' => e_ = .returned (.bool (ok1 && ok2 && ok3 && e)) ∧ Below w.heap.size w w' := by
  have HR0 := Aside0.mk hr0
  have HC0 := Aside0.mk hc0
  have T0 := Aside0.mk h0
  have TP := Aside0.mk hp
  have TV := Aside0.mk hv
  have TU := Aside0.mk hu
  have TX := Aside0.mk hx
  have T1 := Aside0.mk h1
  have T2 := Aside0.mk h2
  have T3 := Aside0.mk h3
  have T4 := Aside0.mk h4
  have HL := Aside0.mk hl
  have HX0 := Aside0.mk hx0
  have HN0 := Aside0.mk hn0
  have HN1 := Aside0.mk hn1
  have NY9 := Aside0.mk hy9
  have NY12 := Aside0.mk hy12
  have AL := Aside0.mk hal
  have qz : (wrap64 ((u.length : Int) + 1) = 0) = False := eq_false hz
  clear hr0 hc0 h0 hp hv hu hx h1 h2 h3 h4 hl hx0 hn0 hn1 hy9 hy12 hal hz
  go_enter Try.func6, Try.ntmps6
  go_wp2_with (first | (go_at_call 13; (with_reducible refine (laws_big.calls _ _ l0 false _ HR0.out HC0.out T0.out).mono ?_); rintro e w' ⟨rfl, ⟨nd, rfl⟩⟩) | (go_at_call 14; (with_reducible refine (spec_DrawProgram.calls k _ _ l0 p _ ?_ HC0.out TP.out).mono ?_); (repeat (first | exact HR0.out | (with_reducible refine Kd.C_drewN ?_ _) | (with_reducible refine Kd.C_drew ?_))); rintro e w1 ⟨vp, rfl, ho, hb⟩; have hq : Below w.heap.size w w1 := below_step z7_1 hb; have HB : Aside0 (Below w.heap.size w w1) := ⟨hq⟩; replace HR0 := Aside0.mk (Kd.C_below HR0.out hq); clear hq hb; obtain ⟨Ap, cp, e_, l_, k_⟩ := Kd.S_reads ho; subst e_; have LP := Aside0.mk l_; have HP := Aside0.mk k_; clear ho l_ k_) | ((with_reducible refine gate_dst (N := 3) rfl ?_); refine box_event ?hg (N := 3) ?hd (cs := #[.slice none 0 0]) (t := 26) ?hr ?_; (case hd => rfl); (case hg => rfl); (case hr => first | (go_simp; done) | (go_simp; rfl)); intro gp hgp w2 hp hb; have HA2 : Aside0 (Below w1.heap.size w1 w2) := ⟨hb⟩; have BP := Aside0.mk hp; have GP : Aside0 (w1.heap.size ≤ gp) := ⟨Nat.le_of_eq hgp.symm⟩; clear hgp hp hb; have hP2 := Sep.blk1 BP.out; have fP2 := blk_frozen BP.out 0) | ((with_reducible refine gate_store (t := 26) (p := 3) rfl ?_); refine store_event (t := 26) (p := 3) (v := ?vo1_) (w1 := w2.setCell ⟨gp, 0, none⟩ (.slice Ap p.length cp)) ?hg ?ho ?hn ?hr ?_; (case ho => rfl); (case hg => rfl); (case hn => rfl); (case hr => first | (go_simp; done) | (go_simp; rfl)); intro w3 hw; have hb : Below w1.heap.size w1 w3 := (by rw [hw]; exact below_set HA2.out GP.out); have BP3 : Aside0 (w3.heap[gp]? = some (.cells #[.slice Ap p.length cp] 26 (0, 0))) := ⟨by rw [hw]; exact blk_put BP.out 0 _ rfl⟩; clear hw BP; have hq : Below w1.heap.size w1 w3 := below_step z7_1 hb; replace HB := Aside0.mk (below_step HB.out hq); replace HR0 := Aside0.mk (Kd.C_below HR0.out hq); replace HP := Aside0.mk (Kd.C_below HP.out hq); clear hq hb; have hP3 := Sep.blk1 BP3.out) | (go_at_call 15; (with_reducible refine (spec_DrawVars.calls k _ _ l0 v _ ?_ HC0.out TV.out).mono ?_); (exact HR0.out); rintro e w4 ⟨vq, rfl, ho, hb⟩; obtain ⟨Av, cv, e_, l_, k_⟩ := Kd.R_reads ho; subst e_; have LV := Aside0.mk l_; have HV := Aside0.mk k_; clear ho l_ k_; have hq : Below w3.heap.size w3 w4 := below_step z7_1 hb; replace HB := Aside0.mk (below_step HB.out hq); replace HR0 := Aside0.mk (Kd.C_below HR0.out hq); replace HP := Aside0.mk (Kd.C_below HP.out hq); replace BP3 := Aside0.mk (blk_below BP3.out hq); clear hq hb) | (go_at_call 19; (with_reducible refine (spec_DrawUsed.calls k _ _ l0 u _ ?_ HC0.out TU.out).mono ?_); (exact HR0.out); rintro e w5 ⟨vq, rfl, ho, hb⟩; obtain ⟨Au, cu, e_, l_, k_⟩ := Kd.S_reads ho; subst e_; have LU := Aside0.mk l_; have HU := Aside0.mk k_; clear ho l_ k_; have hq : Below w4.heap.size w4 w5 := below_step z7_1 hb; replace HB := Aside0.mk (below_step HB.out hq); replace HR0 := Aside0.mk (Kd.C_below HR0.out hq); replace HP := Aside0.mk (Kd.C_below HP.out hq); replace HV := Aside0.mk (Kd.C_below HV.out hq); replace BP3 := Aside0.mk (blk_below BP3.out hq); clear hq hb) | (go_at_call 22; (with_reducible refine (spec_DrawPlaces.calls k _ _ l0 x _ ?_ HC0.out TX.out).mono ?_); (exact HR0.out); rintro e w6 ⟨vq, rfl, ho, hb⟩; obtain ⟨Ax, cx, e_, l_, k_⟩ := Kd.R_reads ho; subst e_; have LX := Aside0.mk l_; have HX := Aside0.mk k_; clear ho l_ k_; have hq : Below w5.heap.size w5 w6 := below_step z7_1 hb; replace HB := Aside0.mk (below_step HB.out hq); replace HR0 := Aside0.mk (Kd.C_below HR0.out hq); replace HP := Aside0.mk (Kd.C_below HP.out hq); replace HV := Aside0.mk (Kd.C_below HV.out hq); replace HU := Aside0.mk (Kd.C_below HU.out hq); replace BP3 := Aside0.mk (blk_below BP3.out hq); clear hq hb; obtain ⟨adx, ex, hx0⟩ := Kd.at_int HX.out 0 (by omega) HX0.out; subst ex; rw [show ((0 : Int)).toNat = 0 from rfl, Addr.add_zero'] at hx0; have q1 : (0 < x.length) = True := eq_true (by have := HX0.out; omega); have q0 : (0 < (x.length : Int)) = True := eq_true HX0.out; have hP6 := Sep.blk1 BP3.out) | (go_at_call 21; (with_reducible refine (impl_RefRun.calls k _ _ p 0 _ _ v _ _ u v1 s1 n1 ok1 _ ?_ LP.out ?_ LV.out ?_ LU.out T1.out).mono ?_); (exact HP.out); (exact HV.out); (exact HU.out); rintro e w8 ⟨vq, vr, rfl, ho, ho2, hb⟩; obtain ⟨A1, c1, e_, l_, k_⟩ := Kd.R_reads ho; subst e_; have LV1 := Aside0.mk l_; have HV1 := Aside0.mk k_; clear ho l_ k_; have ho := ho2; clear ho2; obtain ⟨A2, c2, e_, l_, k_⟩ := Kd.R_reads ho; subst e_; have LS1 := Aside0.mk l_; have HS1 := Aside0.mk k_; clear ho l_ k_; have hq : Below w6.heap.size w6 w8 := below_step z7_1 hb; replace HB := Aside0.mk (below_step HB.out hq); replace HP := Aside0.mk (Kd.C_below HP.out hq); replace HV := Aside0.mk (Kd.C_below HV.out hq); replace HU := Aside0.mk (Kd.C_below HU.out hq); replace BP3 := Aside0.mk (blk_below BP3.out hq); clear hq hb) | ((with_reducible refine gate_dst (N := 8) rfl ?_); refine box_event ?hg (N := 8) ?hd (cs := #[.slice none 0 0, .slice none 0 0, .int .i64 0]) (t := 44) ?hr ?_; (case hd => rfl); (case hg => rfl); (case hr => first | (go_simp; done) | (go_simp; rfl)); intro ga hga w9 ha hb; have HA9 : Aside0 (Below w8.heap.size w8 w9) := ⟨hb⟩; have BA := Aside0.mk ha; have GA : Aside0 (w8.heap.size ≤ ga) := ⟨Nat.le_of_eq hga.symm⟩; clear hga ha hb; obtain ⟨⟨_, _, _⟩, ⟨_, _, _⟩⟩ := Sep.blk3 BA.out) | ((with_reducible refine gate_store (t := 44) (p := 8) rfl ?_); refine store_event (t := 44) (p := 8) (v := ?vo2_) (w1 := Sep.put3 w9 ga (.slice A1 v1.length c1) (.slice A2 s1.length c2) (.int .i64 n1)) ?hg ?ho ?hn ?hr ?_; (case ho => rfl); (case hg => rfl); (case hn => rfl); (case hr => first | (go_simp; done) | (go_simp; rfl)); intro w10 hw; have hb : Below w8.heap.size w8 w10 := (by rw [hw]; exact Sep.put3_below HA9.out GA.out _ _ _); have BA10 : Aside0 (w10.heap[ga]? = some (.cells #[.slice A1 v1.length c1, .slice A2 s1.length c2, .int .i64 n1] 44 (0, 0))) := ⟨by rw [hw]; exact Sep.put3_blk BA.out _ _ _⟩; clear hw; have hq : Below w8.heap.size w8 w10 := below_step z7_1 hb; replace HB := Aside0.mk (below_step HB.out hq); replace HP := Aside0.mk (Kd.C_below HP.out hq); replace HV := Aside0.mk (Kd.C_below HV.out hq); replace HU := Aside0.mk (Kd.C_below HU.out hq); replace HV1 := Aside0.mk (Kd.C_below HV1.out hq); replace HS1 := Aside0.mk (Kd.C_below HS1.out hq); replace BP3 := Aside0.mk (blk_below BP3.out hq); clear hq hb; clear hP2 fP2 hP3 hP6 hx0) | fail)
  obtain ⟨i0, hi0, _, hsz0, _⟩ := info_parts info28
  have hcut9 := cut_to (P := Try.prog) 40 28 .i64 Try.underlying40 hi0 Au u.length cu n HN0.out HN1.out LU.out
  have hy9 : y9.length = n.toNat := by have := HN1.out; have := HN0.out; rw [NY9.out, List.length_take]; omega
  have HY9 := Aside0.mk (show Kd.C (Kd.slice 3 (Kd.int .i64)) w10 Au y9.length y9 from by have := HN1.out; have := HN0.out; have h := Kd.C_take (m := n.toNat) HU.out (by omega); rw [← NY9.out] at h; exact h)
  have LY9 := Aside0.mk (show y9.length ≤ cu by have := LU.out; have := HN1.out; have := HN0.out; omega)
  rw [← hy9] at hcut9
  clear hi0 hy9
  have qn0 : (0 ≤ n) = True := eq_true HN0.out
  have qn1 : (n ≤ (u.length : Int)) = True := eq_true HN1.out
  refine start_ (n := 12) (S := fun w' => True) (ds := []) #[false, false, false, false, false, false, false, false, false, false, false, false] z7_0 rfl rfl trivial (fun hHeld => ?_)
  refine with_tabW laws_FnRefParts.tab9 laws_FnRefParts.bits9 (fun HT_ HW_ => ?_)
  refine pure_ (i := 1) (N := some 41) (v := ?_) (a' := ?_) #[false, true, false, false, false, false, false, false, false, false, false, false] rfl rfl z7_0 (fun _ _ _ h => h) (Or.inl ⟨by rfl, ?_⟩) ?_ ?_
  rotate_left
  · intro w'
    go_simp
    with_reducible rfl
  rotate_left
  · simp only [Act.put, List.setIfInBounds_toArray, List.set_cons_zero, List.set_cons_succ, i64_w, i32_w]
    rfl
  refine pure_ (i := 2) (N := some 42) (v := ?_) (a' := ?_) #[false, true, true, false, false, false, false, false, false, false, false, false] rfl rfl z7_0 (fun _ _ _ h => h) (Or.inl ⟨by rfl, ?_⟩) ?_ ?_
  rotate_left
  · intro w'
    go_simp
    with_reducible rfl
  rotate_left
  · simp only [Act.put, List.setIfInBounds_toArray, List.set_cons_zero, List.set_cons_succ, i64_w, i32_w]
    rfl
  refine pure_ (i := 3) (N := some 43) (v := ?_) (a' := ?_) #[false, true, true, true, false, false, false, false, false, false, false, false] rfl rfl z7_0 (fun _ _ _ h => h) (Or.inl ⟨by rfl, ?_⟩) ?_ ?_
  rotate_left
  · intro w'
    go_simp
    with_reducible rfl
  rotate_left
  · simp only [Act.put, List.setIfInBounds_toArray, List.set_cons_zero, List.set_cons_succ, i64_w, i32_w]
    rfl
  refine pure_ (i := 4) (N := some 44) (v := ?_) (a' := ?_) #[false, true, true, true, true, false, false, false, false, false, false, false] rfl rfl z7_0 (fun _ _ _ h => h) (Or.inl ⟨by rfl, ?_⟩) ?_ ?_
  rotate_left
  · intro w'
    go_simp
    with_reducible rfl
  rotate_left
  · simp only [Act.put, List.setIfInBounds_toArray, List.set_cons_zero, List.set_cons_succ, i64_w, i32_w]
    rfl
  refine inv_at [0, 5, 6, 7, 8, 9, 10, 11] (fun a0_ b a w' => ∃ (vq : Value) (vr : Value) (gb : Nat) (m5_ : Value) (m6_ : Value) (m7_ : Value) (m9_ : Value), a = putSel a0_ b [(0, 40, .agg #[.slice Ap p.length cp]), (5, 45, m5_), (6, 39, m6_), (7, 46, m7_), (8, 47, .bool ok2), (9, 10, m9_), (11, 11, .bool ok2)] ∧ (Below w10.heap.size w10 w') ∧ (b 5 = true → Sep.rowI 3 w' vq v2) ∧ (b 5 = true → Sep.rowI 3 w' vr s2) ∧ (b 9 = true → w10.heap.size ≤ gb) ∧ (b 9 = true → b 10 = false → w'.heap[gb]? = some (.cells #[.slice none 0 0, .slice none 0 0, .int .i64 0] 44 (0, 0))) ∧ (b 10 = true → w'.heap[gb]? = some (.cells #[vq, vr, .int .i64 n2] 44 (0, 0))) ∧ (b 5 = true → (m5_ : Value) = .tuple #[.agg #[vq, vr, .int .i64 n2], .bool ok2]) ∧ (b 6 = true → (m6_ : Value) = .tuple #[.agg #[vq, vr, .int .i64 n2], .bool ok2]) ∧ (b 7 = true → (m7_ : Value) = .agg #[vq, vr, .int .i64 n2]) ∧ (b 9 = true → (m9_ : Value) = .pointer (some ⟨gb, 0, none⟩))) HT_.out HW_.out z7_0 z7_0 ?_ ?_ ?_
  · exact ⟨.bool false, .bool false, 0, .bool false, .bool false, .bool false, .bool false, by simp only [putSel, Bool.false_eq_true, if_false], (below_step (Below.refl _ _) (by repeat (first | exact Below.refl _ _ | apply below_drew1))), fun h_ => absurd h_ z7_2, fun h_ => absurd h_ z7_2, fun h_ => absurd h_ z7_2, fun h_ => absurd h_ z7_2, fun h_ => absurd h_ z7_2, fun h_ => absurd h_ z7_2, fun h_ => absurd h_ z7_2, fun h_ => absurd h_ z7_2, fun h_ => absurd h_ z7_2⟩
  · skip
    refine steps_cons ?_ ?_
    · rintro b a w' ⟨vq, vr, gb, m5_, m6_, m7_, m9_, ha, Q_KB, Q_RQ, Q_RR, Q_GB, Q_BB, Q_BS, Q_X5_, Q_X6_, Q_X7_, Q_X9_⟩ hb_ hon hoff
      refine ⟨_, rfl, fun K hK => ?_⟩
      have e3 : a.tmps[3]? = some (.pointer (some ⟨gp, 0, none⟩)) := by rw [ha]; exact (putSel_off rfl).trans rfl
      replace ha := Aside0.mk ha
      have KB := Aside0.mk Q_KB
      have hP_ := Sep.blk1 (blk_below BP3.out KB.out)
      refine value_ (w1 := w') (v := .agg #[.slice Ap p.length cp]) (by rfl) rfl ?_ ?_
      · go_simp
        (try simp only [i64_w])
        try rfl
      refine hK.out _ _ ⟨vq, vr, gb, m5_, m6_, m7_, m9_, (by rw [ha.out]; exact putSel_upk 0 hb_ rfl rfl rfl), Q_KB, fun h0_ => absurd ((hoff 5 z7_0).symm.trans h0_) z7_2, fun h0_ => absurd ((hoff 5 z7_0).symm.trans h0_) z7_2, Q_GB, Q_BB, fun h0_ => absurd ((hoff 10 z7_0).symm.trans h0_) z7_2, fun h0_ => absurd ((hoff 5 z7_0).symm.trans h0_) z7_2, fun h0_ => absurd ((hoff 6 z7_0).symm.trans h0_) z7_2, fun h0_ => absurd ((hoff 7 z7_0).symm.trans h0_) z7_2, Q_X9_⟩
    refine steps_cons ?_ ?_
    · rintro b a w' ⟨vq, vr, gb, m5_, m6_, m7_, m9_, ha, Q_KB, Q_RQ, Q_RR, Q_GB, Q_BB, Q_BS, Q_X5_, Q_X6_, Q_X7_, Q_X9_⟩ hb_ hon hoff
      refine ⟨_, rfl, fun K hK => ?_⟩
      have e40 : a.tmps[40]? = some (.agg #[.slice Ap p.length cp]) := by rw [ha]; exact putSel_on (e := (0, 40, .agg #[.slice Ap p.length cp])) 0 rfl rfl (hon 0 z7_0) rfl
      have e41 : a.tmps[41]? = some (.slice Av v.length cv) := by rw [ha]; exact (putSel_off rfl).trans rfl
      have e44 : a.tmps[44]? = some (.slice Au y9.length cu) := by rw [ha]; exact (putSel_off rfl).trans rfl
      replace ha := Aside0.mk ha
      have KB := Aside0.mk Q_KB
      refine goes_ Try.func21 z7_0 rfl #[.agg #[.slice Ap p.length cp], .int .i64 0, .slice Av v.length cv, .slice Au y9.length cu] (by rfl) rfl rfl (by first | (simp only [List.map_toArray, List.map_cons, List.map_nil, Act.eval, Array.getD_eq_getD_getElem?, Option.getD_some, e40, e41, e44]; done) | (simp only [List.map_toArray, List.map_cons, List.map_nil, Act.eval, Array.getD_eq_getD_getElem?, Option.getD_some, e40, e41, e44]; rfl)) ?_
      refine (impl_RefRun.calls k _ _ p 0 _ _ v _ _ y9 v2 s2 n2 ok2 _ (Kd.C_below HP.out KB.out) LP.out (Kd.C_below HV.out KB.out) LV.out (Kd.C_below HY9.out KB.out) LY9.out T2.out).mono ?_
      rintro e w1_ ⟨vq_, vr_, rfl, ho, ho2, hb⟩
      refine ⟨_, rfl, ?_⟩
      refine hK.out _ _ ⟨vq_, vr_, gb, (.tuple #[.agg #[vq_, vr_, .int .i64 n2], .bool ok2]), m6_, m7_, m9_, (by rw [ha.out]; exact putSel_upk 1 hb_ rfl rfl rfl), below_step KB.out hb, fun _ => Sep.rowI.of_R ho, fun _ => Sep.rowI.of_R ho2, Q_GB, fun h0_ h1_ => blk_below (Q_BB h0_ h1_) hb, fun h0_ => absurd ((hoff 10 z7_0).symm.trans h0_) z7_2, fun _ => rfl, fun h0_ => absurd ((hoff 6 z7_0).symm.trans h0_) z7_2, fun h0_ => absurd ((hoff 7 z7_0).symm.trans h0_) z7_2, Q_X9_⟩
    refine steps_cons ?_ ?_
    · rintro b a w' ⟨vq, vr, gb, m5_, m6_, m7_, m9_, ha, Q_KB, Q_RQ, Q_RR, Q_GB, Q_BB, Q_BS, Q_X5_, Q_X6_, Q_X7_, Q_X9_⟩ hb_ hon hoff
      refine ⟨_, rfl, fun K hK => ?_⟩
      have e45 : a.tmps[45]? = some (m5_) := by rw [ha]; exact putSel_on (e := (5, 45, m5_)) 1 rfl rfl (hon 5 z7_0) rfl
      rw [Q_X5_ (hon 5 z7_0)] at e45
      replace ha := Aside0.mk ha
      have KB := Aside0.mk Q_KB
      have RQ := Aside0.mk (Q_RQ (hon 5 z7_0))
      have RR := Aside0.mk (Q_RR (hon 5 z7_0))
      refine value_ (w1 := w') (v := .tuple #[.agg #[vq, vr, .int .i64 n2], .bool ok2]) (by rfl) rfl ?_ ?_
      · go_simp
        (try simp only [i64_w])
        try rfl
      refine hK.out _ _ ⟨vq, vr, gb, m5_, (.tuple #[.agg #[vq, vr, .int .i64 n2], .bool ok2]), m7_, m9_, (by rw [ha.out]; exact putSel_upk 2 hb_ rfl rfl rfl), Q_KB, Q_RQ, Q_RR, Q_GB, Q_BB, fun h0_ => absurd ((hoff 10 z7_0).symm.trans h0_) z7_2, Q_X5_, fun _ => rfl, fun h0_ => absurd ((hoff 7 z7_0).symm.trans h0_) z7_2, Q_X9_⟩
    refine steps_cons ?_ ?_
    · rintro b a w' ⟨vq, vr, gb, m5_, m6_, m7_, m9_, ha, Q_KB, Q_RQ, Q_RR, Q_GB, Q_BB, Q_BS, Q_X5_, Q_X6_, Q_X7_, Q_X9_⟩ hb_ hon hoff
      refine ⟨_, rfl, fun K hK => ?_⟩
      have e39 : a.tmps[39]? = some (m6_) := by rw [ha]; exact putSel_on (e := (6, 39, m6_)) 2 rfl rfl (hon 6 z7_0) rfl
      rw [Q_X6_ (hon 6 z7_0)] at e39
      replace ha := Aside0.mk ha
      have KB := Aside0.mk Q_KB
      have RQ := Aside0.mk (Q_RQ (hon 5 z7_0))
      have RR := Aside0.mk (Q_RR (hon 5 z7_0))
      refine value_ (w1 := w') (v := .agg #[vq, vr, .int .i64 n2]) (by rfl) rfl ?_ ?_
      · go_simp
        (try simp only [i64_w])
        try rfl
      refine hK.out _ _ ⟨vq, vr, gb, m5_, m6_, (.agg #[vq, vr, .int .i64 n2]), m9_, (by rw [ha.out]; exact putSel_upk 3 hb_ rfl rfl rfl), Q_KB, Q_RQ, Q_RR, Q_GB, Q_BB, fun h0_ => absurd ((hoff 10 z7_0).symm.trans h0_) z7_2, Q_X5_, Q_X6_, fun _ => rfl, Q_X9_⟩
    refine steps_cons ?_ ?_
    · rintro b a w' ⟨vq, vr, gb, m5_, m6_, m7_, m9_, ha, Q_KB, Q_RQ, Q_RR, Q_GB, Q_BB, Q_BS, Q_X5_, Q_X6_, Q_X7_, Q_X9_⟩ hb_ hon hoff
      refine ⟨_, rfl, fun K hK => ?_⟩
      have e39 : a.tmps[39]? = some (m6_) := by rw [ha]; exact putSel_on (e := (6, 39, m6_)) 2 rfl rfl (hon 6 z7_0) rfl
      rw [Q_X6_ (hon 6 z7_0)] at e39
      replace ha := Aside0.mk ha
      have KB := Aside0.mk Q_KB
      have RQ := Aside0.mk (Q_RQ (hon 5 z7_0))
      have RR := Aside0.mk (Q_RR (hon 5 z7_0))
      refine value_ (w1 := w') (v := .bool ok2) (by rfl) rfl ?_ ?_
      · go_simp
        (try simp only [i64_w])
        try rfl
      refine hK.out _ _ ⟨vq, vr, gb, m5_, m6_, m7_, m9_, (by rw [ha.out]; exact putSel_upk 4 hb_ rfl rfl rfl), Q_KB, Q_RQ, Q_RR, Q_GB, Q_BB, Q_BS, Q_X5_, Q_X6_, Q_X7_, Q_X9_⟩
    refine steps_cons ?_ ?_
    · rintro b a w' ⟨vq, vr, gb, m5_, m6_, m7_, m9_, ha, Q_KB, Q_RQ, Q_RR, Q_GB, Q_BB, Q_BS, Q_X5_, Q_X6_, Q_X7_, Q_X9_⟩ hb_ hon hoff
      refine ⟨_, rfl, fun K hK => ?_⟩
      replace ha := Aside0.mk ha
      have KB := Aside0.mk Q_KB
      refine box_step (by rfl) (N := 10) rfl (cs := #[.slice none 0 0, .slice none 0 0, .int .i64 0]) (t := 44) ?_ ?_
      · first | (go_simp; done) | (go_simp; rfl)
      intro g_ hg_ w1_ hblk hb
      refine hK.out _ _ ⟨vq, vr, g_, m5_, m6_, m7_, (.pointer (some ⟨g_, 0, none⟩)), (by rw [ha.out]; exact putSel_upk 5 hb_ rfl rfl rfl), below_step KB.out hb, fun h0_ => (Q_RQ h0_).below hb, fun h0_ => (Q_RR h0_).below hb, fun _ => (hg_ ▸ KB.out.size), fun _ _ => hblk, fun h0_ => absurd ((hoff 10 z7_0).symm.trans h0_) z7_2, Q_X5_, Q_X6_, Q_X7_, fun _ => rfl⟩
    refine steps_cons ?_ ?_
    · rintro b a w' ⟨vq, vr, gb, m5_, m6_, m7_, m9_, ha, Q_KB, Q_RQ, Q_RR, Q_GB, Q_BB, Q_BS, Q_X5_, Q_X6_, Q_X7_, Q_X9_⟩ hb_ hon hoff
      refine ⟨_, rfl, fun K hK => ?_⟩
      have e10 : a.tmps[10]? = some (m9_) := by rw [ha]; exact putSel_on (e := (9, 10, m9_)) 5 rfl rfl (hon 9 z7_0) rfl
      rw [Q_X9_ (hon 9 z7_0)] at e10
      have e46 : a.tmps[46]? = some (m7_) := by rw [ha]; exact putSel_on (e := (7, 46, m7_)) 3 rfl rfl (hon 7 z7_0) rfl
      rw [Q_X7_ (hon 7 z7_0)] at e46
      replace ha := Aside0.mk ha
      have KB := Aside0.mk Q_KB
      have RQ := Aside0.mk (Q_RQ (hon 5 z7_0))
      have RR := Aside0.mk (Q_RR (hon 5 z7_0))
      have GB := Aside0.mk (Q_GB (hon 9 z7_0))
      have BB := Aside0.mk (Q_BB (hon 9 z7_0) hb_)
      obtain ⟨Aq_, cq_, Eq_, lq_, kq_⟩ := RQ.out.open_
      obtain ⟨Ar_, cr_, Er_, lr_, kr_⟩ := RR.out.open_
      rw [Eq_, Er_] at e46
      obtain ⟨⟨_, _, _⟩, ⟨_, _, _⟩⟩ := Sep.blk3 BB.out
      refine skip_ (w1 := Sep.put3 w' gb (.slice Aq_ v2.length cq_) (.slice Ar_ s2.length cr_) (.int .i64 n2)) (by rfl) rfl ?_ ?_
      · first | (go_simp; done) | (go_simp; rfl)
      refine hK.out _ _ ⟨vq, vr, gb, m5_, m6_, m7_, m9_, (by rw [ha.out]; exact putSel_none (v := undef) rfl), Sep.put3_below KB.out GB.out _ _ _, fun _ => RQ.out.keep (fun k hk => Sep.put3_far (RQ.out.ne BB.out z7_2 k hk) _ _ _), fun _ => RR.out.keep (fun k hk => Sep.put3_far (RR.out.ne BB.out z7_2 k hk) _ _ _), Q_GB, fun _ h1_ => absurd ((up_self b 10).symm.trans h1_) z7_2, fun _ => (by rw [Eq_, Er_]; exact Sep.put3_blk BB.out _ _ _), Q_X5_, Q_X6_, Q_X7_, Q_X9_⟩
    refine steps_cons ?_ ?_
    · rintro b a w' ⟨vq, vr, gb, m5_, m6_, m7_, m9_, ha, Q_KB, Q_RQ, Q_RR, Q_GB, Q_BB, Q_BS, Q_X5_, Q_X6_, Q_X7_, Q_X9_⟩ hb_ hon hoff
      refine ⟨_, rfl, fun K hK => ?_⟩
      have e47 : a.tmps[47]? = some (.bool ok2) := by rw [ha]; exact putSel_on (e := (8, 47, .bool ok2)) 4 rfl rfl (hon 8 z7_0) rfl
      replace ha := Aside0.mk ha
      have KB := Aside0.mk Q_KB
      have RQ := Aside0.mk (Q_RQ (hon 5 z7_0))
      have RR := Aside0.mk (Q_RR (hon 5 z7_0))
      have GB := Aside0.mk (Q_GB (hon 9 z7_0))
      have BS := Aside0.mk (Q_BS (hon 10 z7_0))
      refine value_ (w1 := w') (v := .bool ok2) (by rfl) rfl ?_ ?_
      · go_simp
        (try simp only [i64_w])
        try rfl
      refine hK.out _ _ ⟨vq, vr, gb, m5_, m6_, m7_, m9_, (by rw [ha.out]; exact putSel_upk 6 hb_ rfl rfl rfl), Q_KB, Q_RQ, Q_RR, Q_GB, fun _ h1_ => absurd ((hon 10 z7_0).symm.trans h1_) z7_2, Q_BS, Q_X5_, Q_X6_, Q_X7_, Q_X9_⟩
    exact steps_nil
  rintro b a w11 hall ⟨vq, vr, gb, m5_, m6_, m7_, m9_, ha, Q_KB, Q_RQ, Q_RR, Q_GB, Q_BB, Q_BS, Q_X5_, Q_X6_, Q_X7_, Q_X9_⟩
  have hb0_ := hall 0 z7_0
  have hb5_ := hall 5 z7_0
  have hb6_ := hall 6 z7_0
  have hb7_ := hall 7 z7_0
  have hb8_ := hall 8 z7_0
  have hb9_ := hall 9 z7_0
  have hb10_ := hall 10 z7_0
  have hb11_ := hall 11 z7_0
  subst ha
  obtain rfl := Q_X5_ hb5_
  obtain rfl := Q_X6_ hb6_
  obtain rfl := Q_X7_ hb7_
  obtain rfl := Q_X9_ hb9_
  simp only [putSel, hb0_, hb5_, hb6_, hb7_, hb8_, hb9_, hb10_, hb11_, if_true, Act.put, List.setIfInBounds_toArray, List.set_cons_zero, List.set_cons_succ]
  have KB := Aside0.mk Q_KB
  clear Q_KB
  have RQ := Aside0.mk (Q_RQ hb5_)
  clear Q_RQ
  have RR := Aside0.mk (Q_RR hb5_)
  clear Q_RR
  have GB := Aside0.mk (Q_GB hb9_)
  clear Q_GB
  clear Q_BB
  have BS := Aside0.mk (Q_BS hb10_)
  clear Q_BS
  clear hall hb0_ hb5_ hb6_ hb7_ hb8_ hb9_ hb10_ hb11_
  clear HT_ HW_ Q_X5_ Q_X6_ Q_X7_ Q_X9_
  obtain ⟨A3, c3, e_, l_, k_⟩ := RQ.out.open_
  subst e_
  have LV2 := Aside0.mk l_
  have HV2 := Aside0.mk k_
  clear l_ k_
  obtain ⟨A4, c4, e_, l_, k_⟩ := RR.out.open_
  subst e_
  have LS2 := Aside0.mk l_
  have HS2 := Aside0.mk k_
  clear l_ k_
  replace HB := Aside0.mk (below_step HB.out KB.out)
  replace HP := Aside0.mk (Kd.C_below HP.out KB.out)
  replace HV := Aside0.mk (Kd.C_below HV.out KB.out)
  replace HU := Aside0.mk (Kd.C_below HU.out KB.out)
  replace HV1 := Aside0.mk (Kd.C_below HV1.out KB.out)
  replace HS1 := Aside0.mk (Kd.C_below HS1.out KB.out)
  replace BP3 := Aside0.mk (blk_below BP3.out KB.out)
  replace BA10 := Aside0.mk (blk_below BA10.out KB.out)
  have BB11 := BS
  clear BS KB RQ RR GB hcut9
  cases ok1 <;> cases ok2
  · go_wp2
    go_ret
    exact ⟨rfl, HB.out⟩
  · go_wp2
    go_ret
    exact ⟨rfl, HB.out⟩
  · go_wp2
    go_ret
    exact ⟨rfl, HB.out⟩
  · replace HL := Aside0.mk (HL.out rfl rfl)
    replace T3 := Aside0.mk (T3.out rfl rfl)
    replace T4 := Aside0.mk (T4.out rfl rfl)
    go_wp2
    obtain ⟨i0, hi0, _, hsz0, _⟩ := info_parts info28
    have hcut12 := cut_from (P := Try.prog) 40 28 .i64 Try.underlying40 hi0 1 hsz0 Au u.length cu n HN0.out HN1.out
    have hr12 := Kd.C_drop (m := n.toNat) (c := cu) HU.out (by have := HN1.out; have := HN0.out; omega) LU.out
    have hy12 : y12.length = u.length - n.toNat := by rw [NY12.out, List.length_drop]
    obtain ⟨Ay, hAy⟩ : ∃ A_, A_ = (if cu = n.toNat then Au else (Au : Option Addr).map (·.add (n.toNat * 1))) := ⟨_, rfl⟩
    obtain ⟨cy, hcy⟩ : ∃ c_, c_ = cu - n.toNat := ⟨_, rfl⟩
    rw [← NY12.out] at hr12
    have HY12 := Aside0.mk (show Kd.C (Kd.slice 3 (Kd.int .i64)) w11 Ay y12.length y12 from by rw [hAy]; exact hr12)
    rw [← hy12, ← hAy, ← hcy] at hcut12
    have LY12 := Aside0.mk (show y12.length ≤ cy by rw [hy12, hcy]; exact Nat.sub_le_sub_right LU.out _)
    clear hr12 hy12 hcy hAy hi0 hsz0
    refine start_ (n := 15) (S := fun w' => True) (ds := []) #[false, false, false, false, false, false, false, false, false, false, false, false, false, false, false] z7_0 rfl rfl trivial (fun hHeld => ?_)
    refine with_tabW laws_FnRefParts.tab12 laws_FnRefParts.bits12 (fun HT_ HW_ => ?_)
    refine pure_ (i := 1) (N := some 56) (v := ?_) (a' := ?_) #[false, true, false, false, false, false, false, false, false, false, false, false, false, false, false] rfl rfl z7_0 (fun _ _ _ h => h) (Or.inl ⟨by rfl, ?_⟩) ?_ ?_
    rotate_left
    · intro w'
      go_simp
      with_reducible rfl
    rotate_left
    · simp only [Act.put, List.setIfInBounds_toArray, List.set_cons_zero, List.set_cons_succ, i64_w, i32_w]
      rfl
    refine pure_ (i := 3) (N := some 58) (v := ?_) (a' := ?_) #[false, true, false, true, false, false, false, false, false, false, false, false, false, false, false] rfl rfl z7_0 (fun _ _ _ h => h) (Or.inl ⟨by rfl, ?_⟩) ?_ ?_
    rotate_left
    · intro w'
      go_simp
      with_reducible rfl
    rotate_left
    · simp only [Act.put, List.setIfInBounds_toArray, List.set_cons_zero, List.set_cons_succ, i64_w, i32_w]
      rfl
    refine pure_ (i := 5) (N := some 60) (v := ?_) (a' := ?_) #[false, true, false, true, false, true, false, false, false, false, false, false, false, false, false] rfl rfl z7_0 (fun _ _ _ h => h) (Or.inl ⟨by rfl, ?_⟩) ?_ ?_
    rotate_left
    · intro w'
      go_simp
      with_reducible rfl
    rotate_left
    · simp only [Act.put, List.setIfInBounds_toArray, List.set_cons_zero, List.set_cons_succ, i64_w, i32_w]
      rfl
    refine pure_ (i := 6) (N := some 61) (v := ?_) (a' := ?_) #[false, true, false, true, false, true, true, false, false, false, false, false, false, false, false] rfl rfl z7_0 (fun _ _ _ h => h) (Or.inl ⟨by rfl, ?_⟩) ?_ ?_
    rotate_left
    · intro w'
      go_simp
      with_reducible rfl
    rotate_left
    · simp only [Act.put, List.setIfInBounds_toArray, List.set_cons_zero, List.set_cons_succ, i64_w, i32_w]
      rfl
    refine pure_ (i := 7) (N := some 62) (v := ?_) (a' := ?_) #[false, true, false, true, false, true, true, true, false, false, false, false, false, false, false] rfl rfl z7_0 (fun _ _ _ h => h) (Or.inl ⟨by rfl, ?_⟩) ?_ ?_
    rotate_left
    · intro w'
      go_simp
      with_reducible rfl
    rotate_left
    · simp only [Act.put, List.setIfInBounds_toArray, List.set_cons_zero, List.set_cons_succ, i64_w, i32_w]
      rfl
    refine inv_at [0, 2, 4, 8, 9, 10, 11, 12, 13, 14] (fun a0_ b a w' => ∃ (vs : Value) (vt : Value) (gc : Nat) (m8_ : Value) (m9_ : Value) (m10_ : Value) (m12_ : Value), a = putSel a0_ b [(0, 55, .agg #[.slice Ap p.length cp]), (2, 57, .int .i64 n2), (4, 59, .slice A3 v2.length c3), (8, 63, m8_), (9, 54, m9_), (10, 64, m10_), (11, 65, .bool ok3), (12, 12, m12_), (14, 13, .bool ok3)] ∧ (Below w11.heap.size w11 w') ∧ (b 8 = true → Sep.rowI 3 w' vs v3) ∧ (b 8 = true → Sep.rowI 3 w' vt s3) ∧ (b 12 = true → w11.heap.size ≤ gc) ∧ (b 12 = true → b 13 = false → w'.heap[gc]? = some (.cells #[.slice none 0 0, .slice none 0 0, .int .i64 0] 44 (0, 0))) ∧ (b 13 = true → w'.heap[gc]? = some (.cells #[vs, vt, .int .i64 n3] 44 (0, 0))) ∧ (b 8 = true → (m8_ : Value) = .tuple #[.agg #[vs, vt, .int .i64 n3], .bool ok3]) ∧ (b 9 = true → (m9_ : Value) = .tuple #[.agg #[vs, vt, .int .i64 n3], .bool ok3]) ∧ (b 10 = true → (m10_ : Value) = .agg #[vs, vt, .int .i64 n3]) ∧ (b 12 = true → (m12_ : Value) = .pointer (some ⟨gc, 0, none⟩))) HT_.out HW_.out z7_0 z7_0 ?_ ?_ ?_
    · exact ⟨.bool false, .bool false, 0, .bool false, .bool false, .bool false, .bool false, by simp only [putSel, Bool.false_eq_true, if_false], (below_step (Below.refl _ _) (by repeat (first | exact Below.refl _ _ | apply below_drew1))), fun h_ => absurd h_ z7_2, fun h_ => absurd h_ z7_2, fun h_ => absurd h_ z7_2, fun h_ => absurd h_ z7_2, fun h_ => absurd h_ z7_2, fun h_ => absurd h_ z7_2, fun h_ => absurd h_ z7_2, fun h_ => absurd h_ z7_2, fun h_ => absurd h_ z7_2⟩
    · skip
      refine steps_cons ?_ ?_
      · rintro b a w' ⟨vs, vt, gc, m8_, m9_, m10_, m12_, ha, Q_KB, Q_RQ, Q_RR, Q_GB, Q_BB, Q_BS, Q_X8_, Q_X9_, Q_X10_, Q_X12_⟩ hb_ hon hoff
        refine ⟨_, rfl, fun K hK => ?_⟩
        have e3 : a.tmps[3]? = some (.pointer (some ⟨gp, 0, none⟩)) := by rw [ha]; exact (putSel_off rfl).trans rfl
        replace ha := Aside0.mk ha
        have KB := Aside0.mk Q_KB
        have hP_ := Sep.blk1 (blk_below BP3.out KB.out)
        refine value_ (w1 := w') (v := .agg #[.slice Ap p.length cp]) (by rfl) rfl ?_ ?_
        · go_simp
          (try simp only [i64_w])
          try rfl
        refine hK.out _ _ ⟨vs, vt, gc, m8_, m9_, m10_, m12_, (by rw [ha.out]; exact putSel_upk 0 hb_ rfl rfl rfl), Q_KB, fun h0_ => absurd ((hoff 8 z7_0).symm.trans h0_) z7_2, fun h0_ => absurd ((hoff 8 z7_0).symm.trans h0_) z7_2, Q_GB, Q_BB, fun h0_ => absurd ((hoff 13 z7_0).symm.trans h0_) z7_2, fun h0_ => absurd ((hoff 8 z7_0).symm.trans h0_) z7_2, fun h0_ => absurd ((hoff 9 z7_0).symm.trans h0_) z7_2, fun h0_ => absurd ((hoff 10 z7_0).symm.trans h0_) z7_2, Q_X12_⟩
      refine steps_cons ?_ ?_
      · rintro b a w' ⟨vs, vt, gc, m8_, m9_, m10_, m12_, ha, Q_KB, Q_RQ, Q_RR, Q_GB, Q_BB, Q_BS, Q_X8_, Q_X9_, Q_X10_, Q_X12_⟩ hb_ hon hoff
        refine ⟨_, rfl, fun K hK => ?_⟩
        have e56 : a.tmps[56]? = some (.pointer (some ⟨gb, 2, none⟩)) := by rw [ha]; exact (putSel_off rfl).trans rfl
        replace ha := Aside0.mk ha
        have KB := Aside0.mk Q_KB
        have hB_ : w'.cell? ⟨gb, 2, none⟩ = some (.int .i64 n2) := (blk_cell (blk_below BB11.out KB.out) 2).trans rfl
        refine value_ (w1 := w') (v := .int .i64 n2) (by rfl) rfl ?_ ?_
        · go_simp
          (try simp only [i64_w])
          try rfl
        refine hK.out _ _ ⟨vs, vt, gc, m8_, m9_, m10_, m12_, (by rw [ha.out]; exact putSel_upk 1 hb_ rfl rfl rfl), Q_KB, fun h0_ => absurd ((hoff 8 z7_0).symm.trans h0_) z7_2, fun h0_ => absurd ((hoff 8 z7_0).symm.trans h0_) z7_2, Q_GB, Q_BB, fun h0_ => absurd ((hoff 13 z7_0).symm.trans h0_) z7_2, fun h0_ => absurd ((hoff 8 z7_0).symm.trans h0_) z7_2, fun h0_ => absurd ((hoff 9 z7_0).symm.trans h0_) z7_2, fun h0_ => absurd ((hoff 10 z7_0).symm.trans h0_) z7_2, Q_X12_⟩
      refine steps_cons ?_ ?_
      · rintro b a w' ⟨vs, vt, gc, m8_, m9_, m10_, m12_, ha, Q_KB, Q_RQ, Q_RR, Q_GB, Q_BB, Q_BS, Q_X8_, Q_X9_, Q_X10_, Q_X12_⟩ hb_ hon hoff
        refine ⟨_, rfl, fun K hK => ?_⟩
        have e58 : a.tmps[58]? = some (.pointer (some ⟨gb, 0, none⟩)) := by rw [ha]; exact (putSel_off rfl).trans rfl
        replace ha := Aside0.mk ha
        have KB := Aside0.mk Q_KB
        have hB_ : w'.cell? ⟨gb, 0, none⟩ = some (.slice A3 v2.length c3) := (blk_cell (blk_below BB11.out KB.out) 0).trans rfl
        refine value_ (w1 := w') (v := .slice A3 v2.length c3) (by rfl) rfl ?_ ?_
        · go_simp
          (try simp only [i64_w])
          try rfl
        refine hK.out _ _ ⟨vs, vt, gc, m8_, m9_, m10_, m12_, (by rw [ha.out]; exact putSel_upk 2 hb_ rfl rfl rfl), Q_KB, fun h0_ => absurd ((hoff 8 z7_0).symm.trans h0_) z7_2, fun h0_ => absurd ((hoff 8 z7_0).symm.trans h0_) z7_2, Q_GB, Q_BB, fun h0_ => absurd ((hoff 13 z7_0).symm.trans h0_) z7_2, fun h0_ => absurd ((hoff 8 z7_0).symm.trans h0_) z7_2, fun h0_ => absurd ((hoff 9 z7_0).symm.trans h0_) z7_2, fun h0_ => absurd ((hoff 10 z7_0).symm.trans h0_) z7_2, Q_X12_⟩
      refine steps_cons ?_ ?_
      · rintro b a w' ⟨vs, vt, gc, m8_, m9_, m10_, m12_, ha, Q_KB, Q_RQ, Q_RR, Q_GB, Q_BB, Q_BS, Q_X8_, Q_X9_, Q_X10_, Q_X12_⟩ hb_ hon hoff
        refine ⟨_, rfl, fun K hK => ?_⟩
        have e55 : a.tmps[55]? = some (.agg #[.slice Ap p.length cp]) := by rw [ha]; exact putSel_on (e := (0, 55, .agg #[.slice Ap p.length cp])) 0 rfl rfl (hon 0 z7_0) rfl
        have e57 : a.tmps[57]? = some (.int .i64 n2) := by rw [ha]; exact putSel_on (e := (2, 57, .int .i64 n2)) 1 rfl rfl (hon 2 z7_0) rfl
        have e59 : a.tmps[59]? = some (.slice A3 v2.length c3) := by rw [ha]; exact putSel_on (e := (4, 59, .slice A3 v2.length c3)) 2 rfl rfl (hon 4 z7_0) rfl
        have e62 : a.tmps[62]? = some (.slice Ay y12.length cy) := by rw [ha]; exact (putSel_off rfl).trans rfl
        replace ha := Aside0.mk ha
        have KB := Aside0.mk Q_KB
        refine goes_ Try.func21 z7_0 rfl #[.agg #[.slice Ap p.length cp], .int .i64 n2, .slice A3 v2.length c3, .slice Ay y12.length cy] (by rfl) rfl rfl (by first | (simp only [List.map_toArray, List.map_cons, List.map_nil, Act.eval, Array.getD_eq_getD_getElem?, Option.getD_some, e55, e57, e59, e62]; done) | (simp only [List.map_toArray, List.map_cons, List.map_nil, Act.eval, Array.getD_eq_getD_getElem?, Option.getD_some, e55, e57, e59, e62]; rfl)) ?_
        refine (impl_RefRun.calls k _ _ p n2 _ _ v2 _ _ y12 v3 s3 n3 ok3 _ (Kd.C_below HP.out KB.out) LP.out (Kd.C_below HV2.out KB.out) LV2.out (Kd.C_below HY12.out KB.out) LY12.out T3.out).mono ?_
        rintro e w1_ ⟨vq_, vr_, rfl, ho, ho2, hb⟩
        refine ⟨_, rfl, ?_⟩
        refine hK.out _ _ ⟨vq_, vr_, gc, (.tuple #[.agg #[vq_, vr_, .int .i64 n3], .bool ok3]), m9_, m10_, m12_, (by rw [ha.out]; exact putSel_upk 3 hb_ rfl rfl rfl), below_step KB.out hb, fun _ => Sep.rowI.of_R ho, fun _ => Sep.rowI.of_R ho2, Q_GB, fun h0_ h1_ => blk_below (Q_BB h0_ h1_) hb, fun h0_ => absurd ((hoff 13 z7_0).symm.trans h0_) z7_2, fun _ => rfl, fun h0_ => absurd ((hoff 9 z7_0).symm.trans h0_) z7_2, fun h0_ => absurd ((hoff 10 z7_0).symm.trans h0_) z7_2, Q_X12_⟩
      refine steps_cons ?_ ?_
      · rintro b a w' ⟨vs, vt, gc, m8_, m9_, m10_, m12_, ha, Q_KB, Q_RQ, Q_RR, Q_GB, Q_BB, Q_BS, Q_X8_, Q_X9_, Q_X10_, Q_X12_⟩ hb_ hon hoff
        refine ⟨_, rfl, fun K hK => ?_⟩
        have e63 : a.tmps[63]? = some (m8_) := by rw [ha]; exact putSel_on (e := (8, 63, m8_)) 3 rfl rfl (hon 8 z7_0) rfl
        rw [Q_X8_ (hon 8 z7_0)] at e63
        replace ha := Aside0.mk ha
        have KB := Aside0.mk Q_KB
        have RQ := Aside0.mk (Q_RQ (hon 8 z7_0))
        have RR := Aside0.mk (Q_RR (hon 8 z7_0))
        refine value_ (w1 := w') (v := .tuple #[.agg #[vs, vt, .int .i64 n3], .bool ok3]) (by rfl) rfl ?_ ?_
        · go_simp
          (try simp only [i64_w])
          try rfl
        refine hK.out _ _ ⟨vs, vt, gc, m8_, (.tuple #[.agg #[vs, vt, .int .i64 n3], .bool ok3]), m10_, m12_, (by rw [ha.out]; exact putSel_upk 4 hb_ rfl rfl rfl), Q_KB, Q_RQ, Q_RR, Q_GB, Q_BB, fun h0_ => absurd ((hoff 13 z7_0).symm.trans h0_) z7_2, Q_X8_, fun _ => rfl, fun h0_ => absurd ((hoff 10 z7_0).symm.trans h0_) z7_2, Q_X12_⟩
      refine steps_cons ?_ ?_
      · rintro b a w' ⟨vs, vt, gc, m8_, m9_, m10_, m12_, ha, Q_KB, Q_RQ, Q_RR, Q_GB, Q_BB, Q_BS, Q_X8_, Q_X9_, Q_X10_, Q_X12_⟩ hb_ hon hoff
        refine ⟨_, rfl, fun K hK => ?_⟩
        have e54 : a.tmps[54]? = some (m9_) := by rw [ha]; exact putSel_on (e := (9, 54, m9_)) 4 rfl rfl (hon 9 z7_0) rfl
        rw [Q_X9_ (hon 9 z7_0)] at e54
        replace ha := Aside0.mk ha
        have KB := Aside0.mk Q_KB
        have RQ := Aside0.mk (Q_RQ (hon 8 z7_0))
        have RR := Aside0.mk (Q_RR (hon 8 z7_0))
        refine value_ (w1 := w') (v := .agg #[vs, vt, .int .i64 n3]) (by rfl) rfl ?_ ?_
        · go_simp
          (try simp only [i64_w])
          try rfl
        refine hK.out _ _ ⟨vs, vt, gc, m8_, m9_, (.agg #[vs, vt, .int .i64 n3]), m12_, (by rw [ha.out]; exact putSel_upk 5 hb_ rfl rfl rfl), Q_KB, Q_RQ, Q_RR, Q_GB, Q_BB, fun h0_ => absurd ((hoff 13 z7_0).symm.trans h0_) z7_2, Q_X8_, Q_X9_, fun _ => rfl, Q_X12_⟩
      refine steps_cons ?_ ?_
      · rintro b a w' ⟨vs, vt, gc, m8_, m9_, m10_, m12_, ha, Q_KB, Q_RQ, Q_RR, Q_GB, Q_BB, Q_BS, Q_X8_, Q_X9_, Q_X10_, Q_X12_⟩ hb_ hon hoff
        refine ⟨_, rfl, fun K hK => ?_⟩
        have e54 : a.tmps[54]? = some (m9_) := by rw [ha]; exact putSel_on (e := (9, 54, m9_)) 4 rfl rfl (hon 9 z7_0) rfl
        rw [Q_X9_ (hon 9 z7_0)] at e54
        replace ha := Aside0.mk ha
        have KB := Aside0.mk Q_KB
        have RQ := Aside0.mk (Q_RQ (hon 8 z7_0))
        have RR := Aside0.mk (Q_RR (hon 8 z7_0))
        refine value_ (w1 := w') (v := .bool ok3) (by rfl) rfl ?_ ?_
        · go_simp
          (try simp only [i64_w])
          try rfl
        refine hK.out _ _ ⟨vs, vt, gc, m8_, m9_, m10_, m12_, (by rw [ha.out]; exact putSel_upk 6 hb_ rfl rfl rfl), Q_KB, Q_RQ, Q_RR, Q_GB, Q_BB, Q_BS, Q_X8_, Q_X9_, Q_X10_, Q_X12_⟩
      refine steps_cons ?_ ?_
      · rintro b a w' ⟨vs, vt, gc, m8_, m9_, m10_, m12_, ha, Q_KB, Q_RQ, Q_RR, Q_GB, Q_BB, Q_BS, Q_X8_, Q_X9_, Q_X10_, Q_X12_⟩ hb_ hon hoff
        refine ⟨_, rfl, fun K hK => ?_⟩
        replace ha := Aside0.mk ha
        have KB := Aside0.mk Q_KB
        refine box_step (by rfl) (N := 12) rfl (cs := #[.slice none 0 0, .slice none 0 0, .int .i64 0]) (t := 44) ?_ ?_
        · first | (go_simp; done) | (go_simp; rfl)
        intro g_ hg_ w1_ hblk hb
        refine hK.out _ _ ⟨vs, vt, g_, m8_, m9_, m10_, (.pointer (some ⟨g_, 0, none⟩)), (by rw [ha.out]; exact putSel_upk 7 hb_ rfl rfl rfl), below_step KB.out hb, fun h0_ => (Q_RQ h0_).below hb, fun h0_ => (Q_RR h0_).below hb, fun _ => (hg_ ▸ KB.out.size), fun _ _ => hblk, fun h0_ => absurd ((hoff 13 z7_0).symm.trans h0_) z7_2, Q_X8_, Q_X9_, Q_X10_, fun _ => rfl⟩
      refine steps_cons ?_ ?_
      · rintro b a w' ⟨vs, vt, gc, m8_, m9_, m10_, m12_, ha, Q_KB, Q_RQ, Q_RR, Q_GB, Q_BB, Q_BS, Q_X8_, Q_X9_, Q_X10_, Q_X12_⟩ hb_ hon hoff
        refine ⟨_, rfl, fun K hK => ?_⟩
        have e12 : a.tmps[12]? = some (m12_) := by rw [ha]; exact putSel_on (e := (12, 12, m12_)) 7 rfl rfl (hon 12 z7_0) rfl
        rw [Q_X12_ (hon 12 z7_0)] at e12
        have e64 : a.tmps[64]? = some (m10_) := by rw [ha]; exact putSel_on (e := (10, 64, m10_)) 5 rfl rfl (hon 10 z7_0) rfl
        rw [Q_X10_ (hon 10 z7_0)] at e64
        replace ha := Aside0.mk ha
        have KB := Aside0.mk Q_KB
        have RQ := Aside0.mk (Q_RQ (hon 8 z7_0))
        have RR := Aside0.mk (Q_RR (hon 8 z7_0))
        have GB := Aside0.mk (Q_GB (hon 12 z7_0))
        have BB := Aside0.mk (Q_BB (hon 12 z7_0) hb_)
        obtain ⟨Aq_, cq_, Eq_, lq_, kq_⟩ := RQ.out.open_
        obtain ⟨Ar_, cr_, Er_, lr_, kr_⟩ := RR.out.open_
        rw [Eq_, Er_] at e64
        obtain ⟨⟨_, _, _⟩, ⟨_, _, _⟩⟩ := Sep.blk3 BB.out
        refine skip_ (w1 := Sep.put3 w' gc (.slice Aq_ v3.length cq_) (.slice Ar_ s3.length cr_) (.int .i64 n3)) (by rfl) rfl ?_ ?_
        · first | (go_simp; done) | (go_simp; rfl)
        refine hK.out _ _ ⟨vs, vt, gc, m8_, m9_, m10_, m12_, (by rw [ha.out]; exact putSel_none (v := undef) rfl), Sep.put3_below KB.out GB.out _ _ _, fun _ => RQ.out.keep (fun k hk => Sep.put3_far (RQ.out.ne BB.out z7_2 k hk) _ _ _), fun _ => RR.out.keep (fun k hk => Sep.put3_far (RR.out.ne BB.out z7_2 k hk) _ _ _), Q_GB, fun _ h1_ => absurd ((up_self b 13).symm.trans h1_) z7_2, fun _ => (by rw [Eq_, Er_]; exact Sep.put3_blk BB.out _ _ _), Q_X8_, Q_X9_, Q_X10_, Q_X12_⟩
      refine steps_cons ?_ ?_
      · rintro b a w' ⟨vs, vt, gc, m8_, m9_, m10_, m12_, ha, Q_KB, Q_RQ, Q_RR, Q_GB, Q_BB, Q_BS, Q_X8_, Q_X9_, Q_X10_, Q_X12_⟩ hb_ hon hoff
        refine ⟨_, rfl, fun K hK => ?_⟩
        have e65 : a.tmps[65]? = some (.bool ok3) := by rw [ha]; exact putSel_on (e := (11, 65, .bool ok3)) 6 rfl rfl (hon 11 z7_0) rfl
        replace ha := Aside0.mk ha
        have KB := Aside0.mk Q_KB
        have RQ := Aside0.mk (Q_RQ (hon 8 z7_0))
        have RR := Aside0.mk (Q_RR (hon 8 z7_0))
        have GB := Aside0.mk (Q_GB (hon 12 z7_0))
        have BS := Aside0.mk (Q_BS (hon 13 z7_0))
        refine value_ (w1 := w') (v := .bool ok3) (by rfl) rfl ?_ ?_
        · go_simp
          (try simp only [i64_w])
          try rfl
        refine hK.out _ _ ⟨vs, vt, gc, m8_, m9_, m10_, m12_, (by rw [ha.out]; exact putSel_upk 8 hb_ rfl rfl rfl), Q_KB, Q_RQ, Q_RR, Q_GB, fun _ h1_ => absurd ((hon 13 z7_0).symm.trans h1_) z7_2, Q_BS, Q_X8_, Q_X9_, Q_X10_, Q_X12_⟩
      exact steps_nil
    rintro b a w12 hall ⟨vs, vt, gc, m8_, m9_, m10_, m12_, ha, Q_KB, Q_RQ, Q_RR, Q_GB, Q_BB, Q_BS, Q_X8_, Q_X9_, Q_X10_, Q_X12_⟩
    have hb0_ := hall 0 z7_0
    have hb2_ := hall 2 z7_0
    have hb4_ := hall 4 z7_0
    have hb8_ := hall 8 z7_0
    have hb9_ := hall 9 z7_0
    have hb10_ := hall 10 z7_0
    have hb11_ := hall 11 z7_0
    have hb12_ := hall 12 z7_0
    have hb13_ := hall 13 z7_0
    have hb14_ := hall 14 z7_0
    subst ha
    obtain rfl := Q_X8_ hb8_
    obtain rfl := Q_X9_ hb9_
    obtain rfl := Q_X10_ hb10_
    obtain rfl := Q_X12_ hb12_
    simp only [putSel, hb0_, hb2_, hb4_, hb8_, hb9_, hb10_, hb11_, hb12_, hb13_, hb14_, if_true, Act.put, List.setIfInBounds_toArray, List.set_cons_zero, List.set_cons_succ]
    have KB := Aside0.mk Q_KB
    clear Q_KB
    have RQ := Aside0.mk (Q_RQ hb8_)
    clear Q_RQ
    have RR := Aside0.mk (Q_RR hb8_)
    clear Q_RR
    have GB := Aside0.mk (Q_GB hb12_)
    clear Q_GB
    clear Q_BB
    have BS := Aside0.mk (Q_BS hb13_)
    clear Q_BS
    clear hall hb0_ hb2_ hb4_ hb8_ hb9_ hb10_ hb11_ hb12_ hb13_ hb14_
    clear HT_ HW_ Q_X8_ Q_X9_ Q_X10_ Q_X12_
    obtain ⟨A5, c5, e_, l_, k_⟩ := RQ.out.open_
    subst e_
    have LV3 := Aside0.mk l_
    have HV3 := Aside0.mk k_
    clear l_ k_
    obtain ⟨A6, c6, e_, l_, k_⟩ := RR.out.open_
    subst e_
    have LS3 := Aside0.mk l_
    have HS3 := Aside0.mk k_
    clear l_ k_
    replace HB := Aside0.mk (below_step HB.out KB.out)
    replace HV1 := Aside0.mk (Kd.C_below HV1.out KB.out)
    replace HS1 := Aside0.mk (Kd.C_below HS1.out KB.out)
    replace HS2 := Aside0.mk (Kd.C_below HS2.out KB.out)
    replace BA10 := Aside0.mk (blk_below BA10.out KB.out)
    replace BB11 := Aside0.mk (blk_below BB11.out KB.out)
    have BC12 := BS
    clear BS KB RQ RR GB hcut12
    go_wp2
    refine start_ (n := 8) (S := fun w' => True) (ds := []) #[false, false, false, false, false, false, false, false] z7_0 rfl rfl trivial (fun hHeld => ?_)
    refine with_tabW laws_FnRefParts.tab13 laws_FnRefParts.bits13 (fun HT_ HW_ => ?_)
    refine pure_ (i := 1) (N := some 67) (v := ?_) (a' := ?_) #[false, true, false, false, false, false, false, false] rfl rfl z7_0 (fun _ _ _ h => h) (Or.inl ⟨by rfl, ?_⟩) ?_ ?_
    rotate_left
    · intro w'
      go_simp
      with_reducible rfl
    rotate_left
    · simp only [Act.put, List.setIfInBounds_toArray, List.set_cons_zero, List.set_cons_succ, i64_w, i32_w]
      rfl
    refine pure_ (i := 4) (N := some 70) (v := ?_) (a' := ?_) #[false, true, false, false, true, false, false, false] rfl rfl z7_0 (fun _ _ _ h => h) (Or.inl ⟨by rfl, ?_⟩) ?_ ?_
    rotate_left
    · intro w'
      go_simp
      with_reducible rfl
    rotate_left
    · simp only [Act.put, List.setIfInBounds_toArray, List.set_cons_zero, List.set_cons_succ, i64_w, i32_w]
      rfl
    refine inv_at [0, 2, 3, 5, 6, 7] (fun a0_ b a w' => ∃ (v66 : Value) (v69 : Value) (v72 : Value) (m7_ : Value), a = putSel a0_ b [(0, 66, v66), (2, 68, .slice A4 s2.length c4), (3, 69, v69), (5, 71, .slice A6 s3.length c6), (6, 72, v72), (7, 14, m7_)] ∧ (Below w12.heap.size w12 w') ∧ (b 0 = true → b 3 = false → (Kd.int .i64).R 3 w' w12.heap.size (fun _ => True) v66 ([] : List Int)) ∧ (b 3 = true → b 6 = false → (Kd.int .i64).R 3 w' w12.heap.size (fun _ => True) v69 s2) ∧ (b 6 = true → (Kd.int .i64).R 3 w' w12.heap.size (fun _ => True) v72 al) ∧ (b 7 = true → (m7_ : Value) = v72)) HT_.out HW_.out z7_0 z7_0 ?_ ?_ ?_
    · exact ⟨.bool false, .bool false, .bool false, .bool false, by simp only [putSel, Bool.false_eq_true, if_false], (below_step (Below.refl _ _) (by repeat (first | exact Below.refl _ _ | apply below_drew1))), fun h_ => absurd h_ z7_2, fun h_ => absurd h_ z7_2, fun h_ => absurd h_ z7_2, fun h_ => absurd h_ z7_2⟩
    · skip
      refine steps_cons ?_ ?_
      · rintro b a w' ⟨v66, v69, v72, m7_, ha, Q_KB, Q_R66, Q_R69, Q_R72, Q_X7_⟩ hb_ hon hoff
        refine ⟨_, rfl, fun K hK => ?_⟩
        replace ha := Aside0.mk ha
        have KB := Aside0.mk Q_KB
        refine Kd.R_lit_step (w0 := w12) (Kd.int .i64) w12.heap.size 3 (by rfl) (N := 66) rfl (xs := ([] : List Int)) (inner := []) (ok := fun _ => True) (okp := fun _ => True) ?_ ?_ (fun _ h => h) trivial KB.out KB.out.size z7_2 ?_
        · first | (go_simp; done) | (go_simp; rfl)
        · exact (Reps.none _ _)
        intro v1_ w1_ ho hb hg hat
        refine hK.out _ _ ⟨v1_, v69, v72, m7_, (by rw [ha.out]; exact putSel_upk 0 hb_ rfl rfl rfl), hb, fun _ _ => ho, fun h0_ _ => absurd ((hoff 3 z7_0).symm.trans h0_) z7_2, fun h0_ => absurd ((hoff 6 z7_0).symm.trans h0_) z7_2, fun h0_ => absurd ((hoff 7 z7_0).symm.trans h0_) z7_2⟩
      refine steps_cons ?_ ?_
      · rintro b a w' ⟨v66, v69, v72, m7_, ha, Q_KB, Q_R66, Q_R69, Q_R72, Q_X7_⟩ hb_ hon hoff
        refine ⟨_, rfl, fun K hK => ?_⟩
        have e67 : a.tmps[67]? = some (.pointer (some ⟨gb, 1, none⟩)) := by rw [ha]; exact (putSel_off rfl).trans rfl
        replace ha := Aside0.mk ha
        have KB := Aside0.mk Q_KB
        have hB_ : w'.cell? ⟨gb, 1, none⟩ = some (.slice A4 s2.length c4) := (blk_cell (blk_below BB11.out KB.out) 1).trans rfl
        refine value_ (w1 := w') (v := .slice A4 s2.length c4) (by rfl) rfl ?_ ?_
        · go_simp
          (try simp only [i64_w])
          try rfl
        refine hK.out _ _ ⟨v66, v69, v72, m7_, (by rw [ha.out]; exact putSel_upk 1 hb_ rfl rfl rfl), Q_KB, Q_R66, fun h0_ _ => absurd ((hoff 3 z7_0).symm.trans h0_) z7_2, fun h0_ => absurd ((hoff 6 z7_0).symm.trans h0_) z7_2, fun h0_ => absurd ((hoff 7 z7_0).symm.trans h0_) z7_2⟩
      refine steps_cons ?_ ?_
      · rintro b a w' ⟨v66, v69, v72, m7_, ha, Q_KB, Q_R66, Q_R69, Q_R72, Q_X7_⟩ hb_ hon hoff
        refine ⟨_, rfl, fun K hK => ?_⟩
        have e66 : a.tmps[66]? = some (v66) := by rw [ha]; exact putSel_on (e := (0, 66, v66)) 0 rfl rfl (hon 0 z7_0) rfl
        have e68 : a.tmps[68]? = some (.slice A4 s2.length c4) := by rw [ha]; exact putSel_on (e := (2, 68, .slice A4 s2.length c4)) 1 rfl rfl (hon 2 z7_0) rfl
        replace ha := Aside0.mk ha
        have KB := Aside0.mk Q_KB
        have R66 := Aside0.mk (Q_R66 (hon 0 z7_0) hb_)
        refine Kd.R_append_rows_step (w0 := w12) (Kd.int .i64) w12.heap.size (by rfl) (.tmp 66) (.tmp 68) 28 3 (.int .i64 0) 8 rfl Try.underlying28 info3 rfl z7_2 z7_2 v66 [] s2 _ _ _ (fun _ => True) (fun _ => False) (eval_of e66) (eval_of e68) R66.out (Kd.C_below HS2.out KB.out) (fun _ _ h => h) (fun _ hk => hk.elim) (fun _ _ => trivial) KB.out KB.out.size (by have := HL.out; simp only [List.length_nil]; omega) ?_
        intro v1_ w1_ ho hb hg hat
        refine hK.out _ _ ⟨v66, v1_, v72, m7_, (by rw [ha.out]; exact putSel_upk 2 hb_ rfl rfl rfl), hb, fun _ h1_ => absurd ((up_self b 3).symm.trans h1_) z7_2, fun _ _ => ho, fun h0_ => absurd ((hoff 6 z7_0).symm.trans h0_) z7_2, fun h0_ => absurd ((hoff 7 z7_0).symm.trans h0_) z7_2⟩
      refine steps_cons ?_ ?_
      · rintro b a w' ⟨v66, v69, v72, m7_, ha, Q_KB, Q_R66, Q_R69, Q_R72, Q_X7_⟩ hb_ hon hoff
        refine ⟨_, rfl, fun K hK => ?_⟩
        have e70 : a.tmps[70]? = some (.pointer (some ⟨gc, 1, none⟩)) := by rw [ha]; exact (putSel_off rfl).trans rfl
        replace ha := Aside0.mk ha
        have KB := Aside0.mk Q_KB
        have hB_ : w'.cell? ⟨gc, 1, none⟩ = some (.slice A6 s3.length c6) := (blk_cell (blk_below BC12.out KB.out) 1).trans rfl
        refine value_ (w1 := w') (v := .slice A6 s3.length c6) (by rfl) rfl ?_ ?_
        · go_simp
          (try simp only [i64_w])
          try rfl
        refine hK.out _ _ ⟨v66, v69, v72, m7_, (by rw [ha.out]; exact putSel_upk 3 hb_ rfl rfl rfl), Q_KB, Q_R66, Q_R69, fun h0_ => absurd ((hoff 6 z7_0).symm.trans h0_) z7_2, fun h0_ => absurd ((hoff 7 z7_0).symm.trans h0_) z7_2⟩
      refine steps_cons ?_ ?_
      · rintro b a w' ⟨v66, v69, v72, m7_, ha, Q_KB, Q_R66, Q_R69, Q_R72, Q_X7_⟩ hb_ hon hoff
        refine ⟨_, rfl, fun K hK => ?_⟩
        have e69 : a.tmps[69]? = some (v69) := by rw [ha]; exact putSel_on (e := (3, 69, v69)) 2 rfl rfl (hon 3 z7_0) rfl
        have e71 : a.tmps[71]? = some (.slice A6 s3.length c6) := by rw [ha]; exact putSel_on (e := (5, 71, .slice A6 s3.length c6)) 3 rfl rfl (hon 5 z7_0) rfl
        replace ha := Aside0.mk ha
        have KB := Aside0.mk Q_KB
        have R69 := Aside0.mk (Q_R69 (hon 3 z7_0) hb_)
        refine Kd.R_append_rows_step (w0 := w12) (Kd.int .i64) w12.heap.size (by rfl) (.tmp 69) (.tmp 71) 28 3 (.int .i64 0) 8 rfl Try.underlying28 info3 rfl z7_2 z7_2 v69 s2 s3 _ _ _ (fun _ => True) (fun _ => False) (eval_of e69) (eval_of e71) R69.out (Kd.C_below HS3.out KB.out) (fun _ _ h => h) (fun _ hk => hk.elim) (fun _ _ => trivial) KB.out KB.out.size (by have := HL.out; omega) ?_
        intro v1_ w1_ ho hb hg hat
        refine hK.out _ _ ⟨v66, v69, v1_, m7_, (by rw [ha.out]; exact putSel_upk 4 hb_ rfl rfl rfl), hb, fun _ h1_ => absurd ((hon 3 z7_0).symm.trans h1_) z7_2, fun _ h1_ => absurd ((up_self b 6).symm.trans h1_) z7_2, fun _ => (AL.out ▸ ho), fun h0_ => absurd ((hoff 7 z7_0).symm.trans h0_) z7_2⟩
      refine steps_cons ?_ ?_
      · rintro b a w' ⟨v66, v69, v72, m7_, ha, Q_KB, Q_R66, Q_R69, Q_R72, Q_X7_⟩ hb_ hon hoff
        refine ⟨_, rfl, fun K hK => ?_⟩
        have e72 : a.tmps[72]? = some (v72) := by rw [ha]; exact putSel_on (e := (6, 72, v72)) 4 rfl rfl (hon 6 z7_0) rfl
        replace ha := Aside0.mk ha
        have KB := Aside0.mk Q_KB
        have R72 := Aside0.mk (Q_R72 (hon 6 z7_0))
        refine value_ (w1 := w') (v := v72) (by rfl) rfl ?_ ?_
        · go_simp
          (try simp only [i64_w])
          try rfl
        refine hK.out _ _ ⟨v66, v69, v72, (v72), (by rw [ha.out]; exact putSel_upk 5 hb_ rfl rfl rfl), Q_KB, fun _ h1_ => absurd ((hon 3 z7_0).symm.trans h1_) z7_2, fun _ h1_ => absurd ((hon 6 z7_0).symm.trans h1_) z7_2, Q_R72, fun _ => rfl⟩
      exact steps_nil
    rintro b a w13 hall ⟨v66, v69, v72, m7_, ha, Q_KB, Q_R66, Q_R69, Q_R72, Q_X7_⟩
    have hb0_ := hall 0 z7_0
    have hb2_ := hall 2 z7_0
    have hb3_ := hall 3 z7_0
    have hb5_ := hall 5 z7_0
    have hb6_ := hall 6 z7_0
    have hb7_ := hall 7 z7_0
    subst ha
    obtain rfl := Q_X7_ hb7_
    simp only [putSel, hb0_, hb2_, hb3_, hb5_, hb6_, hb7_, if_true, Act.put, List.setIfInBounds_toArray, List.set_cons_zero, List.set_cons_succ]
    have KB := Aside0.mk Q_KB
    clear Q_KB
    clear Q_R66
    clear Q_R69
    have R72 := Aside0.mk (Q_R72 hb6_)
    clear Q_R72
    clear hall hb0_ hb2_ hb3_ hb5_ hb6_ hb7_
    clear HT_ HW_
    replace HB := Aside0.mk (below_step HB.out KB.out)
    replace HV1 := Aside0.mk (Kd.C_below HV1.out KB.out)
    replace HS1 := Aside0.mk (Kd.C_below HS1.out KB.out)
    replace HV3 := Aside0.mk (Kd.C_below HV3.out KB.out)
    replace BA10 := Aside0.mk (blk_below BA10.out KB.out)
    replace BC12 := Aside0.mk (blk_below BC12.out KB.out)
    obtain ⟨A7, c7, e_, l_, k_⟩ := Kd.R_reads R72.out
    subst e_
    have LAL := Aside0.mk l_
    have HAL := Aside0.mk k_
    clear l_ k_ KB R72
    have hA0 : w13.cell? ⟨ga, 0, none⟩ = some (.slice A1 v1.length c1) := (blk_cell BA10.out 0).trans rfl
    have hA1 : w13.cell? ⟨ga, 1, none⟩ = some (.slice A2 s1.length c2) := (blk_cell BA10.out 1).trans rfl
    have hA2 : w13.cell? ⟨ga, 2, none⟩ = some (.int .i64 n1) := (blk_cell BA10.out 2).trans rfl
    have hC0 : w13.cell? ⟨gc, 0, none⟩ = some (.slice A5 v3.length c5) := (blk_cell BC12.out 0).trans rfl
    have hC2 : w13.cell? ⟨gc, 2, none⟩ = some (.int .i64 n3) := (blk_cell BC12.out 2).trans rfl
    by_cases h24 : 24 < (al.length : Int)
    · have q24 : (24 < (al.length : Int)) = True := eq_true h24
      have q24n : (24 < al.length) = True := eq_true (by omega)
      have g24 : ((al.length : Int) > 24) = True := eq_true h24
      have le24 : (24 : Int) ≤ ((al.length : Nat) : Int) := by omega
      obtain ⟨i0, hi0, _, _, _⟩ := info_parts info3
      have hcut := cut_to (P := Try.prog) 28 3 .i64 Try.underlying28 hi0 A7 al.length c7 24 z7_2 le24 LAL.out
      have H24 := Kd.C_take (m := (24 : Int).toNat) HAL.out (by omega)
      have hy : (al.take 24).length = (24 : Int).toNat := by rw [List.length_take]; omega
      have L24 := Aside0.mk (show (al.take 24).length ≤ c7 by have := LAL.out; rw [hy]; omega)
      replace H24 := Aside0.mk (show Kd.C (Kd.int .i64) w13 A7 (al.take 24).length (al.take 24) from H24)
      rw [← hy] at hcut
      have T5 := Aside0.mk (fun h => T4.out h)
      generalize al.take 24 = y24 at *
      clear hy hi0 h24
      cases ok3
      · go_wp2
        go_ret
        exact ⟨rfl, HB.out⟩
      · replace T5 := Aside0.mk (T5.out rfl)
        go_wp2_with (first | (go_at_call 25; (with_reducible refine (impl_SameRef.calls k _ _ v1 _ _ s1 n1 _ _ v3 _ _ y24 n3 e _ HV1.out LV1.out HS1.out LS1.out HV3.out LV3.out H24.out L24.out T5.out).mono ?_); rintro e' w14 ⟨rfl, hb⟩; have HZ := Aside0.mk (below_step HB.out hb); clear hb) | fail)
        go_ret
        exact ⟨(show Ending.returned (Value.bool e) = _ by simp), HZ.out⟩
    · have q24 : (24 < (al.length : Int)) = False := eq_false h24
      have q24n : (24 < al.length) = False := eq_false (by omega)
      have g24 : ((al.length : Int) > 24) = False := eq_false h24
      have ey : al.take 24 = al := List.take_of_length_le (by omega)
      have T5 := Aside0.mk (fun h => ey ▸ T4.out h)
      have H24 := HAL
      clear ey h24
      cases ok3
      · go_wp2
        go_ret
        exact ⟨rfl, HB.out⟩
      · replace T5 := Aside0.mk (T5.out rfl)
        go_wp2_with (first | (go_at_call 25; (with_reducible refine (impl_SameRef.calls k _ _ v1 _ _ s1 n1 _ _ v3 _ _ al n3 e _ HV1.out LV1.out HS1.out LS1.out HV3.out LV3.out H24.out LAL.out T5.out).mono ?_); rintro e' w14 ⟨rfl, hb⟩; have HZ := Aside0.mk (below_step HB.out hb); clear hb) | fail)
        go_ret
        exact ⟨(show Ending.returned (Value.bool e) = _ by simp), HZ.out⟩

set_option maxHeartbeats 8000000 in
set_option maxRecDepth 100000 in
theorem laws_FnRefParts.big (A0 : Option Addr) (c0 : Nat) (l0 : List Int) (w : World) (hr0 : Kd.C (Kd.int .u8) w A0 l0.length l0) (hc0 : l0.length ≤ c0) (h0 : laws_big.f l0 = some true) :
    Calls Try.prog 6 #[.slice A0 l0.length c0] w fun e_ w' => e_ = .returned (.bool true) ∧ Below w.heap.size w w' := by
  have HR0 := Aside0.mk hr0
  have HC0 := Aside0.mk hc0
  have T0 := Aside0.mk h0
  clear hr0 hc0 h0
  go_enter Try.func6, Try.ntmps6
  go_wp2_with (first | (go_at_call 13; (with_reducible refine (laws_big.calls _ _ l0 true _ HR0.out HC0.out T0.out).mono ?_); rintro e w' ⟨rfl, ⟨nd, rfl⟩⟩) | fail)
  go_ret
  exact ⟨rfl, by repeat (first | exact Below.refl _ _ | apply pw_below_drewN | apply below_drew1)⟩
theorem laws_FnRefParts.calls (k : Nat) (A0 : Option Addr) (c0 : Nat) (l0 : List Int) (r : Bool) (w : World) (hr0 : Kd.C (Kd.int .u8) w A0 l0.length l0) (hc0 : l0.length ≤ c0) (h : laws_FnRefParts.f k l0 = some r) :
    Calls Try.prog 6 #[.slice A0 l0.length c0] w fun e w' => e = .returned (.bool r) ∧ Below w.heap.size w w' := by
  unfold laws_FnRefParts.f at h
  obtain ⟨b, h0, h⟩ := Option.bind_eq_some_iff.mp h
  cases b
  · rw [if_neg z7_2] at h
    obtain ⟨p, hp, h⟩ := Option.bind_eq_some_iff.mp h
    obtain ⟨v, hv, h⟩ := Option.bind_eq_some_iff.mp h
    obtain ⟨u, hu, h⟩ := Option.bind_eq_some_iff.mp h
    obtain ⟨x, hx, h⟩ := Option.bind_eq_some_iff.mp h
    by_cases hx0 : 0 < (x.length : Int) ∧ wrap64 ((u.length : Int) + 1) ≠ 0
    · rw [if_pos hx0] at h
      unfold laws_FnRefParts.m at h
      obtain ⟨n, hn⟩ : ∃ n, Int.tmod (rd x 0) (wrap64 ((u.length : Int) + 1)) = n := ⟨_, rfl⟩
      rw [hn] at h
      by_cases hb : 0 ≤ n ∧ n ≤ (u.length : Int)
      · rw [if_pos hb] at h
        obtain ⟨⟨v1, s1, n1, ok1⟩, h1, h⟩ := Option.bind_eq_some_iff.mp h
        obtain ⟨⟨v2, s2, n2, ok2⟩, h2, h⟩ := Option.bind_eq_some_iff.mp h
        dsimp only at h
        by_cases c1 : ok1 = true ∧ ok2 = true
        · rw [if_pos c1] at h
          unfold laws_FnRefParts.t at h
          obtain ⟨⟨v3, s3, n3, ok3⟩, h3, h⟩ := Option.bind_eq_some_iff.mp h
          dsimp only at h
          by_cases cl : s2.length + s3.length < 17592186044416
          · rw [if_pos cl] at h
            have key : ∃ e, (ok3 = true → impl_SameRef.f k v1 s1 n1 v3 ((s2 ++ s3).take 24) n3 = some e) ∧ r = (ok1 && ok2 && ok3 && e) := by
              by_cases c3 : ok3 = true
              · rw [if_pos c3] at h
                exact ⟨r, fun _ => h, by simp [c1, c3]⟩
              · rw [if_neg c3] at h
                cases h
                exact ⟨true, fun h => absurd h c3, by simp [c3]⟩
            obtain ⟨e, h4, rfl⟩ := key
            exact laws_FnRefParts.yes k A0 c0 l0 p v x u _ _ _ v1 s1 v2 s2 v3 s3 n n1 n2 n3 ok1 ok2 ok3 e w hr0 hc0 h0 hp hv hu hx hx0.1 hx0.2 hn hb.1 hb.2 h1 rfl h2 (fun _ _ => cl) rfl rfl (fun _ _ => h3) (fun _ _ => h4)
          · rw [if_neg cl] at h
            cases h
        · rw [if_neg c1] at h
          cases h
          have e1 : (ok1 && ok2 && true && true) = false := by cases ok1 <;> cases ok2 <;> first | rfl | exact absurd ⟨rfl, rfl⟩ c1
          have no : ok1 = true → ok2 = true → False := fun a b => c1 ⟨a, b⟩
          have := laws_FnRefParts.yes k A0 c0 l0 p v x u (u.take n.toNat) (u.drop n.toNat) (s2 ++ []) v1 s1 v2 s2 [] [] n n1 n2 0 ok1 ok2 true true w hr0 hc0 h0 hp hv hu hx hx0.1 hx0.2 hn hb.1 hb.2 h1 rfl h2 (fun a b => (no a b).elim) rfl rfl (fun a b => (no a b).elim) (fun a b => (no a b).elim)
          rw [e1] at this
          exact this
      · rw [if_neg hb] at h
        cases h
    · rw [if_neg hx0] at h
      cases h
  · rw [if_pos rfl] at h
    cases h
    exact laws_FnRefParts.big A0 c0 l0 w hr0 hc0 h0

/-- THE ONE PURE STATEMENT of laws_FnRefParts: yours. -/
def laws_FnRefParts.Pure : Prop := ∀ (l0 : List Int), l0.length ≤ maxLen → l0.length * 1 ≤ 140737488351232 → (∀ x ∈ l0, (Lit.int .u8 x).wf = true) → ∃ k, laws_FnRefParts.f k l0 = some true
theorem laws_FnRefParts.walk (P : laws_FnRefParts.Pure) (a0 : Option Addr) (len0 cap0 : Nat) (z0 : List Int) (w : World) (w0 : (a0 = none ∧ len0 = 0 ∧ cap0 = 0 ∧ z0 = []) ∨ ∃ x, a0 = some x ∧ len0 ≤ cap0 ∧ cap0 ≤ maxLen ∧ z0.length = cap0 ∧ (∀ i, i < z0.length → w.cell? (x.add i) = some (.int .u8 (z0.getD i 0))) ∧ ∀ n ∈ z0, (Lit.int .u8 n).wf = true) (y0 : len0 * 1 ≤ 140737488351232) :
    Calls Try.prog 6 #[.slice a0 len0 cap0] w fun e w' => e = .returned (.bool true) ∧ Below w.heap.size w w' := by
  obtain ⟨l0, rfl, hr0, hm0, hw0, hc0⟩ := ReadsInt.ofRowC w0
  obtain ⟨k, h⟩ := P l0 hm0 y0 hw0
  refine (laws_FnRefParts.calls k _ _ l0 true w (Kd.C_of_reads (d := (0 : Int)) (h1 := fun _ => rfl) hr0) hc0 h).mono ?_
  rintro e w' ⟨rfl, hd⟩
  exact ⟨rfl, hd⟩

end Go.Proofs.Ytakhaknglhgimaa.G
