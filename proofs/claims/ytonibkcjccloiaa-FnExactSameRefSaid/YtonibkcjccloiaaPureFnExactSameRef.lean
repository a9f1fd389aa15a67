/- The law FnExactSameRef: for every input the function answers true. No condition. -/
import Derived.Test.YtonibkcjccloiaaGx9
namespace Go.Proofs.Ytonibkcjccloiaa.Pure
open Go.RowKit Go.Proofs.Ytonibkcjccloiaa.G Go.Proofs.YtonibkcjccloiaaW.PrintWords Go.Proofs.YtonibkcjccloiaaW.PrintLast

theorem w64 {x : Int} (h : -9223372036854775808 ≤ x) (h2 : x ≤ 9223372036854775807) : wrap64 x = x := by
  unfold wrap64
  omega
theorem wf_i64 {x : Int} (h : (Lit.int .i64 x).wf = true) : -9223372036854775808 ≤ x ∧ x ≤ 9223372036854775807 := by
  simp only [Lit.wf, IntKind.min, IntKind.max, IntKind.signed, IntKind.bits, Bool.and_eq_true, decide_eq_true_eq, if_true] at h
  omega
theorem succ_of {k d : Nat} (h : d < k) : ∃ m, k = m + 1 := ⟨k - 1, by omega⟩
theorem rd_eq {l : List Int} {i : Int} (h0 : 0 ≤ i) (h : i < (l.length : Int)) : l[i.toNat]? = some (rd l i) := by
  unfold rd
  rw [List.getD_eq_getElem?_getD, List.getElem?_eq_getElem (by omega)]
  rfl
theorem drop_rd {l : List Int} {i : Int} (h0 : 0 ≤ i) (h : i < (l.length : Int)) : l.drop i.toNat = rd l i :: l.drop (i + 1).toNat := by
  have h1 : i.toNat < l.length := by omega
  have h2 : (i + 1).toNat = i.toNat + 1 := by omega
  have h3 := rd_eq h0 h
  rw [h2, List.drop_eq_getElem_cons h1]
  rw [List.getElem?_eq_getElem h1] at h3
  rw [Option.some.inj h3]
/-- The numbers a, a + 1, .. : n of them. -/
def marks (a : Int) (n : Nat) : List Int := (List.range n).map fun j : Nat => a + (j : Int)
theorem marks_len (a : Int) (n : Nat) : (marks a n).length = n := by simp [marks]
theorem marks_get (a : Int) (n i : Nat) (h : i < n) : (marks a n)[i]? = some (a + (i : Int)) := by simp [marks, h]
theorem rd_all {P : Int → Prop} {l : List Int} (h : ∀ x ∈ l, P x) {i : Int} (h0 : 0 ≤ i) (h1 : i < (l.length : Int)) : P (rd l i) := h _ (List.mem_of_getElem? (rd_eq h0 h1))
theorem toIntS_l (l : List Int) (hl : l.length ≤ 35184372088832) (d : Nat) : ∀ (k : Nat) (x : List Int) (i : Int), 0 ≤ i → x.length = l.length → i + (d : Int) = (l.length : Int) → (∀ j : Nat, (j : Int) < i → x[j]? = l[j]?) → d < k →
    laws_toIntS.l0 k l x i = some l := by
  induction d with
  | zero =>
    intro k x i h0 hx hi hj hk
    obtain ⟨k, rfl⟩ := succ_of hk
    simp only [laws_toIntS.l0]
    rw [if_neg (by omega)]
    congr 1
    apply List.ext_getElem?
    intro j
    by_cases h : (j : Int) < i
    · exact hj j h
    · rw [List.getElem?_eq_none (by omega), List.getElem?_eq_none (by omega)]
  | succ d ih =>
    intro k x i h0 hx hi hj hk
    obtain ⟨k, rfl⟩ := succ_of hk
    simp only [laws_toIntS.l0]
    rw [if_pos (by omega), if_pos h0, if_pos (by omega), w64 (by omega) (by omega)]
    refine ih k _ (i + 1) (by omega) (by simpa using hx) (by omega) (fun j h => ?_) (by omega)
    rw [List.getElem?_set]
    by_cases e : i.toNat = j
    · subst e
      rw [if_pos rfl, if_pos (by omega), rd_eq h0 (by omega)]
    · rw [if_neg e]
      exact hj j (by omega)
theorem toIntS_at (l : List Int) (hl : l.length ≤ 35184372088832) (k : Nat) (hk : l.length < k) : laws_toIntS.f k l = some l := by
  unfold laws_toIntS.f
  rw [if_pos (by omega), if_pos (by omega)]
  exact toIntS_l l hl l.length k _ 0 (by omega) (by simp) (by omega) (fun j h => by omega) hk
theorem eqIntS_l (a b : List Int) (hl : a.length = b.length) (hb : a.length ≤ 35184372088832) (d : Nat) : ∀ (k : Nat) (i : Int), 0 ≤ i → i + (d : Int) = (a.length : Int) → d < k →
    laws_eqIntS.l0 k a b i = some (decide (a.drop i.toNat = b.drop i.toNat)) := by
  induction d with
  | zero =>
    intro k i h0 hi hk
    obtain ⟨k, rfl⟩ := succ_of hk
    simp only [laws_eqIntS.l0]
    rw [if_neg (by omega), List.drop_eq_nil_of_le (by omega), List.drop_eq_nil_of_le (by omega)]
    simp
  | succ d ih =>
    intro k i h0 hi hk
    obtain ⟨k, rfl⟩ := succ_of hk
    simp only [laws_eqIntS.l0]
    rw [if_pos (by omega), if_pos h0, if_pos (by omega), w64 (by omega) (by omega), drop_rd h0 (by omega), drop_rd h0 (by omega), ih k (i + 1) (by omega) (by omega) (by omega)]
    by_cases e : rd a i = rd b i
    · rw [if_pos e]
      simp [e]
    · rw [if_neg e]
      simp [e]
theorem eqIntS_at (a b : List Int) (hb : a.length ≤ 35184372088832) (k : Nat) (hk : a.length < k) : laws_eqIntS.f k a b = some (decide (a = b)) := by
  unfold laws_eqIntS.f
  by_cases hl : a.length = b.length
  · rw [if_pos (by omega), eqIntS_l a b hl hb a.length k 0 (by omega) (by omega) hk]
    simp
  · rw [if_neg (by omega)]
    have : a ≠ b := fun e => hl (by rw [e])
    simp [this]
theorem eqIntS_same (a : List Int) (hb : a.length ≤ 35184372088832) (k : Nat) (hk : a.length < k) : laws_eqIntS.f k a a = some true := by
  rw [eqIntS_at a a hb k hk]
  simp
theorem szIntS_eq (l : List Int) (a : Int) (hl : l.length ≤ 9223372036854775807) (h0 : 0 ≤ a) (h1 : a ≤ 1048576) : laws_szIntS.f l a = some (if a < (l.length : Int) then -1 else a - (l.length : Int)) := by
  unfold laws_szIntS.f
  rw [w64 (by omega) (by omega)]
  by_cases h : a < (l.length : Int)
  · rw [if_pos (by omega), if_pos h]
  · rw [if_neg (by omega), if_neg h]
theorem firstDiff_l (a b : List Int) (ha : a.length ≤ 1048576) (hb : b.length ≤ 1048576) (d : Nat) : ∀ (k : Nat) (i : Int), 0 ≤ i → i + (d : Int) = (a.length : Int) → i ≤ (b.length : Int) → 2 * d + 1 < k →
    ∃ r, spec_FirstDiffering.l0 k a b i = some r ∧ (r < 0 ↔ a.drop i.toNat = b.drop i.toNat) := by
  induction d with
  | zero =>
    intro k i h0 hi hj hk
    obtain ⟨k, rfl⟩ := succ_of (d := 1) (by omega : 1 < k)
    obtain ⟨k, rfl⟩ := succ_of (d := 0) (by omega : 0 < k)
    simp only [spec_FirstDiffering.l0, spec_FirstDiffering.j1]
    rw [if_neg (by omega), (List.drop_eq_nil_of_le (by omega) : a.drop i.toNat = [])]
    by_cases h : i < (b.length : Int)
    · rw [if_pos (by simp [h]), if_pos (by omega)]
      refine ⟨_, rfl, by omega, fun e => ?_⟩
      have := congrArg List.length e
      simp only [List.length_nil, List.length_drop] at this
      omega
    · rw [if_neg (by simp [h]), (List.drop_eq_nil_of_le (by omega) : b.drop i.toNat = [])]
      exact ⟨_, rfl, by simp⟩
  | succ d ih =>
    intro k i h0 hi hj hk
    obtain ⟨k, rfl⟩ := succ_of (d := 1) (by omega : 1 < k)
    obtain ⟨k, rfl⟩ := succ_of (d := 0) (by omega : 0 < k)
    simp only [spec_FirstDiffering.l0, spec_FirstDiffering.j1]
    rw [if_pos (by omega), if_pos trivial, if_neg (by omega)]
    by_cases h : i < (b.length : Int)
    · rw [if_neg (by omega), if_pos h0, if_pos (by omega), if_pos h, w64 (by omega) (by omega), drop_rd h0 (by omega : i < (a.length : Int)), drop_rd h0 h]
      obtain ⟨r, e, q⟩ := ih k (i + 1) (by omega) (by omega) (by omega) (by omega)
      by_cases e1 : rd a i = rd b i
      · rw [if_pos e1, e]
        exact ⟨_, rfl, by rw [q]; simp [e1]⟩
      · rw [if_neg e1]
        refine ⟨_, rfl, by omega, fun e2 => ?_⟩
        injection e2 with e2 _
        exact absurd e2 e1
    · rw [if_pos (by omega)]
      refine ⟨_, rfl, by omega, fun e => ?_⟩
      have := congrArg List.length e
      simp only [List.length_drop] at this
      omega
theorem l13Same_at (a b : List Int) (ha : a.length ≤ 1048576) (hb : b.length ≤ 1048576) (k : Nat) (hk : 2097154 < k) : spec_l13Same.f k a b = some (decide (a = b)) := by
  unfold spec_l13Same.f spec_FirstDiffering.f
  obtain ⟨r, e, q⟩ := firstDiff_l a b ha hb a.length k 0 (by omega) (by omega) (by omega) (by omega)
  rw [e]
  simp only [Option.bind_some, Int.toNat_zero, List.drop_zero] at q ⊢
  congr 1
  exact decide_eq_decide.2 q
theorem slEqual_l (a b : List Int) (hl : a.length = b.length) (hb : a.length ≤ 35184372088832) (d : Nat) : ∀ (k : Nat) (i : Int), 0 ≤ i → i + (d : Int) = (a.length : Int) → d < k →
    slices_Equal_int_int.l0 k a b (a.length : Int) i = some (decide (a.drop i.toNat = b.drop i.toNat)) := by
  induction d with
  | zero =>
    intro k i h0 hi hk
    obtain ⟨k, rfl⟩ := succ_of hk
    simp only [slices_Equal_int_int.l0]
    rw [if_neg (by omega), List.drop_eq_nil_of_le (by omega), List.drop_eq_nil_of_le (by omega)]
    simp
  | succ d ih =>
    intro k i h0 hi hk
    obtain ⟨k, rfl⟩ := succ_of hk
    simp only [slices_Equal_int_int.l0]
    rw [if_pos (by omega), if_pos h0, if_pos (by omega), if_pos (by omega), w64 (by omega) (by omega), drop_rd h0 (by omega), drop_rd h0 (by omega), ih k (i + 1) (by omega) (by omega) (by omega)]
    by_cases e : rd a i = rd b i
    · simp [e]
    · simp [e]
theorem slEqual_at (a b : List Int) (hb : a.length ≤ 35184372088832) (k : Nat) (hk : a.length < k) : slices_Equal_int_int.f k a b = some (decide (a = b)) := by
  unfold slices_Equal_int_int.f
  by_cases hl : a.length = b.length
  · rw [if_pos (by omega), slEqual_l a b hl hb a.length k 0 (by omega) (by omega) hk]
    simp
  · rw [if_neg (by omega)]
    have : a ≠ b := fun e => hl (by rw [e])
    simp [this]
theorem szRef_or (x : S51) (g : gd51 x) (a : Int) (h0 : 0 ≤ a) (h1 : a ≤ 1048576) : ∃ r, laws_szRef.f x.f0 x.f1 x.f2 a = some r ∧ (r < 0 ∨ (r ≤ a ∧ x.f0.length ≤ 1048576 ∧ x.f1.length ≤ 1048576)) := by
  obtain ⟨⟨a1, a2⟩, ⟨b1, b2⟩, c⟩ := g
  simp only [maxLen] at a1 b1
  unfold laws_szRef.f
  rw [szIntS_eq _ _ (by omega) h0 h1]
  simp only [Option.bind_some]
  by_cases h : a < (x.f0.length : Int)
  · rw [if_pos (by rw [if_pos h]; omega)]
    exact ⟨_, rfl, .inl (by omega)⟩
  rw [if_neg (by rw [if_neg h]; omega), if_neg h, szIntS_eq _ _ (by omega) (by omega) (by omega)]
  simp only [Option.bind_some]
  by_cases h3 : a - (x.f0.length : Int) < (x.f1.length : Int)
  · rw [if_pos (by rw [if_pos h3]; omega)]
    exact ⟨_, rfl, .inl (by omega)⟩
  rw [if_neg (by rw [if_neg h3]; omega), if_neg h3]
  exact ⟨_, rfl, .inr (by omega)⟩
theorem toRef_at (x : S51) (h1 : x.f0.length ≤ 1048576) (h2 : x.f1.length ≤ 1048576) : laws_toRef.f 2097160 x.f0 x.f1 x.f2 = some (x.f0, x.f1, x.f2) := by
  unfold laws_toRef.f
  rw [toIntS_at _ (by omega) _ (by omega), toIntS_at _ (by omega) _ (by omega)]
  rfl
theorem eqRef_same (x : S51) (h1 : x.f0.length ≤ 1048576) (h2 : x.f1.length ≤ 1048576) : laws_eqRef.f 2097160 x.f0 x.f1 x.f2 x.f0 x.f1 x.f2 = some true := by
  unfold laws_eqRef.f
  rw [eqIntS_same _ (by omega) _ (by omega), eqIntS_same _ (by omega) _ (by omega)]
  simp
theorem FnExactSameRef : laws_FnExactSameRef.Pure := by
  intro x y gx gy
  refine ⟨2097160, ?_⟩
  unfold laws_FnExactSameRef.f
  obtain ⟨r, e, h | ⟨hr, h1, h2⟩⟩ := szRef_or x gx 1048576 (by omega) (by omega)
  · rw [e]
    simp only [Option.bind_some]
    rw [if_pos h]
  rw [e]
  simp only [Option.bind_some]
  by_cases hr0 : r < 0
  · rw [if_pos hr0]
  rw [if_neg hr0]
  obtain ⟨s, e', h' | ⟨hs, h1', h2'⟩⟩ := szRef_or y gy r (by omega) (by omega)
  · rw [e']
    simp only [Option.bind_some]
    rw [if_pos h']
  rw [e']
  simp only [Option.bind_some]
  by_cases hs0 : s < 0
  · rw [if_pos hs0]
  rw [if_neg hs0]
  simp only [toRef_at x h1 h2, toRef_at y h1' h2', eqRef_same x h1 h2, eqRef_same y h1' h2', Option.bind_some, spec_SameRef.f, impl_SameRef.f, l13Same_at x.f0 y.f0 (by omega) (by omega) 2097160 (by omega), l13Same_at x.f1 y.f1 (by omega) (by omega) 2097160 (by omega), slEqual_at x.f0 y.f0 (by omega) 2097160 (by omega), slEqual_at x.f1 y.f1 (by omega) 2097160 (by omega)]
  by_cases q1 : x.f0 = y.f0 <;> by_cases q2 : x.f1 = y.f1 <;> simp [q1, q2]

end Go.Proofs.Ytonibkcjccloiaa.Pure
