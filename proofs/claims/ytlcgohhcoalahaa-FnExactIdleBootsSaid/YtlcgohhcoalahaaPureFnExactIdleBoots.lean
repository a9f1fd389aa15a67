/- The law FnExactIdleBoots: for every input the function answers true. No condition. -/
import Derived.Test.YtlcgohhcoalahaaGx47
namespace Go.Proofs.Ytlcgohhcoalahaa.Pure
open Go.RowKit Go.Proofs.Ytlcgohhcoalahaa.G Go.Proofs.YtlcgohhcoalahaaW.PrintWords Go.Proofs.YtlcgohhcoalahaaW.PrintLast

theorem w64 {x : Int} (h : -9223372036854775808 ≤ x) (h2 : x ≤ 9223372036854775807) : wrap64 x = x := by
  unfold wrap64
  omega
theorem wf_i64 {x : Int} (h : (Lit.int .i64 x).wf = true) : -9223372036854775808 ≤ x ∧ x ≤ 9223372036854775807 := by
  simp only [Lit.wf, IntKind.min, IntKind.max, IntKind.signed, IntKind.bits, Bool.and_eq_true, decide_eq_true_eq, if_true] at h
  omega
theorem succ_of {k d : Nat} (h : d < k) : ∃ m, k = m + 1 := ⟨k - 1, by omega⟩
theorem rd_eq {l : List Int} {i : Int} (h0 : 0 ≤ i) (h : i < (l.length : Int)) : l[i.toNat]? = some (rd l i) := by
  unfold rd
  rw [List.getD_eq_getElem?_getD, List.getElem?_eq_getElem (by omega)]
  rfl
theorem drop_rd {l : List Int} {i : Int} (h0 : 0 ≤ i) (h : i < (l.length : Int)) : l.drop i.toNat = rd l i :: l.drop (i + 1).toNat := by
  have h1 : i.toNat < l.length := by omega
  have h2 : (i + 1).toNat = i.toNat + 1 := by omega
  have h3 := rd_eq h0 h
  rw [h2, List.drop_eq_getElem_cons h1]
  rw [List.getElem?_eq_getElem h1] at h3
  rw [Option.some.inj h3]
/-- The numbers a, a + 1, .. : n of them. -/
def marks (a : Int) (n : Nat) : List Int := (List.range n).map fun j : Nat => a + (j : Int)
theorem marks_len (a : Int) (n : Nat) : (marks a n).length = n := by simp [marks]
theorem marks_get (a : Int) (n i : Nat) (h : i < n) : (marks a n)[i]? = some (a + (i : Int)) := by simp [marks, h]
theorem rd_all {P : Int → Prop} {l : List Int} (h : ∀ x ∈ l, P x) {i : Int} (h0 : 0 ≤ i) (h1 : i < (l.length : Int)) : P (rd l i) := h _ (List.mem_of_getElem? (rd_eq h0 h1))
theorem getD_rd {α : Type} (z : α) {l : List α} {i : Int} (h0 : 0 ≤ i) (h : i < (l.length : Int)) : l[i.toNat]? = some (l.getD i.toNat z) := by
  rw [List.getD_eq_getElem?_getD, List.getElem?_eq_getElem (by omega)]
  rfl
theorem drop_getD {α : Type} (z : α) {l : List α} {i : Int} (h0 : 0 ≤ i) (h : i < (l.length : Int)) : l.drop i.toNat = l.getD i.toNat z :: l.drop (i + 1).toNat := by
  have h1 : i.toNat < l.length := by omega
  have h2 : (i + 1).toNat = i.toNat + 1 := by omega
  have h3 := getD_rd z h0 h
  rw [h2, List.drop_eq_getElem_cons h1]
  rw [List.getElem?_eq_getElem h1] at h3
  rw [Option.some.inj h3]
theorem getD_mem {α : Type} (z : α) {l : List α} {i : Int} (h0 : 0 ≤ i) (h : i < (l.length : Int)) : l.getD i.toNat z ∈ l := List.mem_of_getElem? (getD_rd z h0 h)
theorem toIntS_l (l : List Int) (hl : l.length ≤ 35184372088832) (d : Nat) : ∀ (k : Nat) (x : List Int) (i : Int), 0 ≤ i → x.length = l.length → i + (d : Int) = (l.length : Int) → (∀ j : Nat, (j : Int) < i → x[j]? = l[j]?) → d < k →
    laws_toIntS.l0 k l x i = some l := by
  induction d with
  | zero =>
    intro k x i h0 hx hi hj hk
    obtain ⟨k, rfl⟩ := succ_of hk
    simp only [laws_toIntS.l0]
    rw [if_neg (by omega)]
    congr 1
    apply List.ext_getElem?
    intro j
    by_cases h : (j : Int) < i
    · exact hj j h
    · rw [List.getElem?_eq_none (by omega), List.getElem?_eq_none (by omega)]
  | succ d ih =>
    intro k x i h0 hx hi hj hk
    obtain ⟨k, rfl⟩ := succ_of hk
    simp only [laws_toIntS.l0]
    rw [if_pos (by omega), if_pos h0, if_pos (by omega), w64 (by omega) (by omega)]
    refine ih k _ (i + 1) (by omega) (by simpa using hx) (by omega) (fun j h => ?_) (by omega)
    rw [List.getElem?_set]
    by_cases e : i.toNat = j
    · subst e
      rw [if_pos rfl, if_pos (by omega), rd_eq h0 (by omega)]
    · rw [if_neg e]
      exact hj j (by omega)
theorem toIntS_at (l : List Int) (hl : l.length ≤ 35184372088832) (k : Nat) (hk : l.length < k) : laws_toIntS.f k l = some l := by
  unfold laws_toIntS.f
  rw [if_pos (by omega), if_pos (by omega)]
  exact toIntS_l l hl l.length k _ 0 (by omega) (by simp) (by omega) (fun j h => by omega) hk
theorem eqIntS_l (a b : List Int) (hl : a.length = b.length) (hb : a.length ≤ 35184372088832) (d : Nat) : ∀ (k : Nat) (i : Int), 0 ≤ i → i + (d : Int) = (a.length : Int) → d < k →
    laws_eqIntS.l0 k a b i = some (decide (a.drop i.toNat = b.drop i.toNat)) := by
  induction d with
  | zero =>
    intro k i h0 hi hk
    obtain ⟨k, rfl⟩ := succ_of hk
    simp only [laws_eqIntS.l0]
    rw [if_neg (by omega), List.drop_eq_nil_of_le (by omega), List.drop_eq_nil_of_le (by omega)]
    simp
  | succ d ih =>
    intro k i h0 hi hk
    obtain ⟨k, rfl⟩ := succ_of hk
    simp only [laws_eqIntS.l0]
    rw [if_pos (by omega), if_pos h0, if_pos (by omega), w64 (by omega) (by omega), drop_rd h0 (by omega), drop_rd h0 (by omega), ih k (i + 1) (by omega) (by omega) (by omega)]
    by_cases e : rd a i = rd b i
    · rw [if_pos e]
      simp [e]
    · rw [if_neg e]
      simp [e]
theorem eqIntS_at (a b : List Int) (hb : a.length ≤ 35184372088832) (k : Nat) (hk : a.length < k) : laws_eqIntS.f k a b = some (decide (a = b)) := by
  unfold laws_eqIntS.f
  by_cases hl : a.length = b.length
  · rw [if_pos (by omega), eqIntS_l a b hl hb a.length k 0 (by omega) (by omega) hk]
    simp
  · rw [if_neg (by omega)]
    have : a ≠ b := fun e => hl (by rw [e])
    simp [this]
theorem eqIntS_same (a : List Int) (hb : a.length ≤ 35184372088832) (k : Nat) (hk : a.length < k) : laws_eqIntS.f k a a = some true := by
  rw [eqIntS_at a a hb k hk]
  simp
theorem szIntS_eq (l : List Int) (a : Int) (hl : l.length ≤ 9223372036854775807) (h0 : 0 ≤ a) (h1 : a ≤ 1048576) : laws_szIntS.f l a = some (if a < (l.length : Int) then -1 else a - (l.length : Int)) := by
  unfold laws_szIntS.f
  rw [w64 (by omega) (by omega)]
  by_cases h : a < (l.length : Int)
  · rw [if_pos (by omega), if_pos h]
  · rw [if_neg (by omega), if_neg h]
theorem szIntSS_l (l : List (List Int)) (hl : l.length ≤ 1048576) (hy : ∀ y ∈ l, y.length ≤ 9223372036854775807) (d : Nat) : ∀ (k : Nat) (a i : Int), 0 ≤ i → i + (d : Int) = (l.length : Int) → 0 ≤ a → a ≤ 1048576 → d < k →
    ∃ r, laws_szIntSS.l0 k l a i = some r ∧ (0 ≤ r → r ≤ a ∧ ∀ y ∈ l.drop i.toNat, (y.length : Int) ≤ a) := by
  induction d with
  | zero =>
    intro k a i h0 hi ha hb hk
    obtain ⟨k, rfl⟩ := succ_of hk
    simp only [laws_szIntSS.l0]
    rw [if_neg (by omega), List.drop_eq_nil_of_le (by omega)]
    exact ⟨_, rfl, fun _ => ⟨by omega, by simp⟩⟩
  | succ d ih =>
    intro k a i h0 hi ha hb hk
    obtain ⟨k, rfl⟩ := succ_of hk
    simp only [laws_szIntSS.l0]
    have hm := getD_mem ([] : List Int) h0 (by omega : i < (l.length : Int))
    rw [if_pos (by omega), if_pos h0, szIntS_eq _ a (hy _ (by unfold rd_L1; exact hm)) ha hb, w64 (by omega) (by omega), drop_getD ([] : List Int) h0 (by omega)]
    simp only [Option.bind_some]
    change ∃ r, (if (if a < ((rd_L1 l i).length : Int) then (-1 : Int) else a - ((rd_L1 l i).length : Int)) < 0 then _ else _) = _ ∧ (_ → _ ∧ ∀ y ∈ rd_L1 l i :: _, _)
    by_cases h : a < ((rd_L1 l i).length : Int)
    · rw [if_pos (by rw [if_pos h]; omega)]
      exact ⟨_, rfl, fun h => absurd h (by omega)⟩
    · rw [if_neg (by rw [if_neg h]; omega), if_neg h]
      obtain ⟨r, e, q⟩ := ih k (a - ((rd_L1 l i).length : Int)) (i + 1) (by omega) (by omega) (by omega) (by omega) (by omega)
      refine ⟨r, e, fun hr => ?_⟩
      obtain ⟨q1, q2⟩ := q hr
      refine ⟨by omega, fun y hy => ?_⟩
      rcases List.mem_cons.1 hy with rfl | hy
      · omega
      · have := q2 y hy
        omega
theorem szIntSS_at (l : List (List Int)) (a : Int) (hl : l.length ≤ 9223372036854775807) (hy : ∀ y ∈ l, y.length ≤ 9223372036854775807) (h0 : 0 ≤ a) (h1 : a ≤ 1048576) (k : Nat) (hk : 1048577 < k) :
    ∃ r, laws_szIntSS.f k l a = some r ∧ (0 ≤ r → r ≤ a ∧ (l.length : Int) ≤ a ∧ ∀ y ∈ l, (y.length : Int) ≤ a) := by
  unfold laws_szIntSS.f
  rw [w64 (by omega) (by omega)]
  by_cases h : a - (l.length : Int) < 0
  · rw [if_pos h]
    exact ⟨_, rfl, fun h => absurd h (by omega)⟩
  · rw [if_neg h]
    obtain ⟨r, e, q⟩ := szIntSS_l l (by omega) hy l.length k (a - (l.length : Int)) 0 (by omega) (by omega) (by omega) (by omega) (by omega)
    refine ⟨r, e, fun hr => ?_⟩
    obtain ⟨q1, q2⟩ := q hr
    refine ⟨by omega, by omega, fun y hy => ?_⟩
    have := q2 y (by simpa using hy)
    omega
theorem toIntSS_l (l : List (List Int)) (hl : l.length ≤ 1048576) (hy : ∀ y ∈ l, y.length ≤ 1048576) (d : Nat) : ∀ (k : Nat) (x : List (List Int)) (i : Int), 0 ≤ i → x.length = l.length → i + (d : Int) = (l.length : Int) → (∀ j : Nat, (j : Int) < i → x[j]? = l[j]?) → d + 1048580 < k →
    laws_toIntSS.l0 k l x i = some l := by
  induction d with
  | zero =>
    intro k x i h0 hx hi hj hk
    obtain ⟨k, rfl⟩ := succ_of hk
    simp only [laws_toIntSS.l0]
    rw [if_neg (by omega)]
    congr 1
    apply List.ext_getElem?
    intro j
    by_cases h : (j : Int) < i
    · exact hj j h
    · rw [List.getElem?_eq_none (by omega), List.getElem?_eq_none (by omega)]
  | succ d ih =>
    intro k x i h0 hx hi hj hk
    obtain ⟨k, rfl⟩ := succ_of hk
    have hm : (rd_L1 l i).length ≤ 1048576 := hy _ (getD_mem ([] : List Int) h0 (by omega : i < (l.length : Int)))
    simp only [laws_toIntSS.l0]
    rw [if_pos (by omega), if_pos h0, toIntS_at _ (by omega) k (by omega)]
    simp only [Option.bind_some]
    rw [if_pos (by omega), w64 (by omega) (by omega)]
    refine ih k _ (i + 1) (by omega) (by simpa using hx) (by omega) (fun j h => ?_) (by omega)
    rw [List.getElem?_set]
    by_cases e : i.toNat = j
    · subst e
      rw [if_pos rfl, if_pos (by omega), getD_rd ([] : List Int) h0 (by omega)]
      rfl
    · rw [if_neg e]
      exact hj j (by omega)
theorem toIntSS_at (l : List (List Int)) (hl : l.length ≤ 1048576) (hy : ∀ y ∈ l, y.length ≤ 1048576) (k : Nat) (hk : 2097160 < k) : laws_toIntSS.f k l = some l := by
  unfold laws_toIntSS.f
  rw [if_pos (by omega), if_pos (by omega)]
  exact toIntSS_l l hl hy l.length k _ 0 (by omega) (by simp) (by omega) (fun j h => by omega) (by omega)
theorem eqIntSS_l (l : List (List Int)) (hl : l.length ≤ 1048576) (hy : ∀ y ∈ l, y.length ≤ 1048576) (d : Nat) : ∀ (k : Nat) (i : Int), 0 ≤ i → i + (d : Int) = (l.length : Int) → d + 1048580 < k →
    laws_eqIntSS.l0 k l l i = some true := by
  induction d with
  | zero =>
    intro k i h0 hi hk
    obtain ⟨k, rfl⟩ := succ_of hk
    simp only [laws_eqIntSS.l0]
    rw [if_neg (by omega)]
  | succ d ih =>
    intro k i h0 hi hk
    obtain ⟨k, rfl⟩ := succ_of hk
    have hm : (rd_L1 l i).length ≤ 1048576 := hy _ (getD_mem ([] : List Int) h0 (by omega : i < (l.length : Int)))
    simp only [laws_eqIntSS.l0]
    rw [if_pos (by omega), if_pos h0, if_pos (by omega), eqIntS_same _ (by omega) k (by omega), w64 (by omega) (by omega)]
    simp only [Option.bind_some, if_true]
    exact ih k (i + 1) (by omega) (by omega) (by omega)
theorem eqIntSS_same (l : List (List Int)) (hl : l.length ≤ 1048576) (hy : ∀ y ∈ l, y.length ≤ 1048576) (k : Nat) (hk : 2097160 < k) : laws_eqIntSS.f k l l = some true := by
  unfold laws_eqIntSS.f
  rw [if_pos rfl]
  exact eqIntSS_l l hl hy l.length k 0 (by omega) (by omega) (by omega)
theorem run_or (x : S41) (g : gd41 x) : ∃ r, laws_szRun.f 2097200 x.f0 x.f1 x.f2 x.f3 1048576 = some r ∧ (r < 0 ∨ (x.f3.length ≤ 1048576 ∧ laws_toRun.f 2097200 x.f0 x.f1 x.f2 x.f3 = some (x.f0, x.f1, x.f2, x.f3) ∧ laws_eqRun.f 2097200 x.f0 x.f1 x.f2 x.f3 x.f0 x.f1 x.f2 x.f3 = some true)) := by
  obtain ⟨⟨a1, a2⟩, b, ⟨c1, c2⟩, d1, d2⟩ := g
  simp only [maxLen] at a1 c1 c2 d1
  unfold laws_szRun.f
  rw [szIntS_eq _ _ (by omega) (by omega) (by omega)]
  simp only [Option.bind_some]
  by_cases h : (1048576 : Int) < (x.f0.length : Int)
  · rw [if_pos (by rw [if_pos h]; omega)]
    exact ⟨_, rfl, .inl (by omega)⟩
  rw [if_neg (by rw [if_neg h]; omega), if_neg h]
  obtain ⟨r, e, q⟩ := szIntSS_at x.f2 (1048576 - (x.f0.length : Int)) (by omega) (fun y hy => by have := (c2 y hy).1; omega) (by omega) (by omega) 2097200 (by omega)
  rw [e]
  simp only [Option.bind_some]
  by_cases hr : r < 0
  · rw [if_pos hr]
    exact ⟨_, rfl, .inl (by omega)⟩
  rw [if_neg hr]
  obtain ⟨q1, q2, q3⟩ := q (by omega)
  have hy : ∀ y ∈ x.f2, y.length ≤ 1048576 := fun y hy => by have := q3 y hy; omega
  rw [szIntS_eq _ _ (by omega) (by omega) (by omega)]
  simp only [Option.bind_some]
  by_cases h3 : r < (x.f3.length : Int)
  · rw [if_pos (by rw [if_pos h3]; omega)]
    exact ⟨_, rfl, .inl (by omega)⟩
  rw [if_neg (by rw [if_neg h3]; omega), if_neg h3]
  refine ⟨_, rfl, .inr ⟨by omega, ?_, ?_⟩⟩
  · unfold laws_toRun.f
    rw [toIntS_at _ (by omega) _ (by omega), toIntSS_at _ (by omega) hy _ (by omega), toIntS_at _ (by omega) _ (by omega)]
    rfl
  · unfold laws_eqRun.f
    rw [eqIntS_same _ (by omega) _ (by omega), eqIntSS_same _ (by omega) hy _ (by omega), eqIntS_same _ (by omega) _ (by omega)]
    simp
/-- How many of these boots get nothing done. -/
def idleN : List Int → Int → Int
  | [], c => c
  | x :: t, c => idleN t (if x = 0 then wrap64 (c + 1) else c)
theorem idleI_l (l : List Int) (hl : l.length ≤ 1048576) (d : Nat) : ∀ (k : Nat) (c i : Int), -9223372036854775808 ≤ c → c ≤ 9223372036854775807 → 0 ≤ i → i + (d : Int) = (l.length : Int) → d < k →
    impl_IdleBoots.l0 k c l (l.length : Int) i = some (idleN (l.drop i.toNat) c) := by
  induction d with
  | zero =>
    intro k c i hc1 hc2 h0 hi hk
    obtain ⟨k, rfl⟩ := succ_of hk
    simp only [impl_IdleBoots.l0]
    rw [if_neg (by omega), List.drop_eq_nil_of_le (by omega)]
    rfl
  | succ d ih =>
    intro k c i hc1 hc2 h0 hi hk
    obtain ⟨k, rfl⟩ := succ_of hk
    simp only [impl_IdleBoots.l0]
    rw [if_pos (by omega), if_pos h0, if_pos (by omega), w64 (x := i + 1) (by omega) (by omega), drop_rd h0 (by omega)]
    rw [idleN.eq_2]
    unfold impl_bit.f
    by_cases e : rd l i = 0
    · simp only [e, beq_self_eq_true, if_true, Option.bind_some]
      exact ih k _ (i + 1) (by unfold wrap64; omega) (by unfold wrap64; omega) (by omega) (by omega) (by omega)
    · have e' : (rd l i == 0) = false := by simpa using e
      simp only [e', e, Bool.false_eq_true, if_false, Option.bind_some]
      rw [w64 (x := c + 0) (by omega) (by omega), Int.add_zero]
      exact ih k _ (i + 1) hc1 hc2 (by omega) (by omega) (by omega)
theorem idleS_l (x : S41) (hl : x.f3.length ≤ 1048576) (d : Nat) : ∀ (k : Nat) (c i : Int), 0 ≤ i → i + (d : Int) = (x.f3.length : Int) → d < k →
    spec_IdleBoots.l0 k c i x.f0 x.f1 x.f2 x.f3 = some (idleN (x.f3.drop i.toNat) c) := by
  induction d with
  | zero =>
    intro k c i h0 hi hk
    obtain ⟨k, rfl⟩ := succ_of hk
    simp only [spec_IdleBoots.l0]
    rw [if_neg (by omega), List.drop_eq_nil_of_le (by omega)]
    rfl
  | succ d ih =>
    intro k c i h0 hi hk
    obtain ⟨k, rfl⟩ := succ_of hk
    simp only [spec_IdleBoots.l0]
    rw [if_pos (by omega), if_pos h0, w64 (x := i + 1) (by omega) (by omega), drop_rd h0 (by omega), ih k _ (i + 1) (by omega) (by omega) (by omega), ih k _ (i + 1) (by omega) (by omega) (by omega)]
    rw [idleN.eq_2]
    by_cases e : rd x.f3 i = 0
    · rw [if_pos e, if_pos e]
    · rw [if_neg e, if_neg e]
theorem FnExactIdleBoots : laws_FnExactIdleBoots.Pure := by
  intro x g
  refine ⟨2097200, ?_⟩
  obtain ⟨r, e, h | ⟨hl, h1, h2⟩⟩ := run_or x g
  · unfold laws_FnExactIdleBoots.f
    rw [e]
    simp only [Option.bind_some]
    rw [if_pos h]
  · unfold laws_FnExactIdleBoots.f spec_IdleBoots.f impl_IdleBoots.f
    simp only [e, h1, h2, Option.bind_some, if_true, ite_self, idleI_l x.f3 hl x.f3.length 2097200 0 0 (by omega) (by omega) (by omega) (by omega) (by omega), idleS_l x hl x.f3.length 2097200 0 0 (by omega) (by omega) (by omega)]

end Go.Proofs.Ytlcgohhcoalahaa.Pure
