/- The law FnExactTraceCost: for every input the function answers true. No condition. -/
import Derived.Test.YtlcgohhcoalahaaGx44
namespace Go.Proofs.Ytlcgohhcoalahaa.Pure
open Go.RowKit Go.Proofs.Ytlcgohhcoalahaa.G Go.Proofs.YtlcgohhcoalahaaW.PrintWords Go.Proofs.YtlcgohhcoalahaaW.PrintLast

theorem w64 {x : Int} (h : -9223372036854775808 ≤ x) (h2 : x ≤ 9223372036854775807) : wrap64 x = x := by
  unfold wrap64
  omega
theorem wf_i64 {x : Int} (h : (Lit.int .i64 x).wf = true) : -9223372036854775808 ≤ x ∧ x ≤ 9223372036854775807 := by
  simp only [Lit.wf, IntKind.min, IntKind.max, IntKind.signed, IntKind.bits, Bool.and_eq_true, decide_eq_true_eq, if_true] at h
  omega
theorem succ_of {k d : Nat} (h : d < k) : ∃ m, k = m + 1 := ⟨k - 1, by omega⟩
theorem rd_eq {l : List Int} {i : Int} (h0 : 0 ≤ i) (h : i < (l.length : Int)) : l[i.toNat]? = some (rd l i) := by
  unfold rd
  rw [List.getD_eq_getElem?_getD, List.getElem?_eq_getElem (by omega)]
  rfl
theorem drop_rd {l : List Int} {i : Int} (h0 : 0 ≤ i) (h : i < (l.length : Int)) : l.drop i.toNat = rd l i :: l.drop (i + 1).toNat := by
  have h1 : i.toNat < l.length := by omega
  have h2 : (i + 1).toNat = i.toNat + 1 := by omega
  have h3 := rd_eq h0 h
  rw [h2, List.drop_eq_getElem_cons h1]
  rw [List.getElem?_eq_getElem h1] at h3
  rw [Option.some.inj h3]
/-- The numbers a, a + 1, .. : n of them. -/
def marks (a : Int) (n : Nat) : List Int := (List.range n).map fun j : Nat => a + (j : Int)
theorem marks_len (a : Int) (n : Nat) : (marks a n).length = n := by simp [marks]
theorem marks_get (a : Int) (n i : Nat) (h : i < n) : (marks a n)[i]? = some (a + (i : Int)) := by simp [marks, h]
theorem rd_all {P : Int → Prop} {l : List Int} (h : ∀ x ∈ l, P x) {i : Int} (h0 : 0 ≤ i) (h1 : i < (l.length : Int)) : P (rd l i) := h _ (List.mem_of_getElem? (rd_eq h0 h1))
theorem getD_rd {α : Type} (z : α) {l : List α} {i : Int} (h0 : 0 ≤ i) (h : i < (l.length : Int)) : l[i.toNat]? = some (l.getD i.toNat z) := by
  rw [List.getD_eq_getElem?_getD, List.getElem?_eq_getElem (by omega)]
  rfl
theorem drop_getD {α : Type} (z : α) {l : List α} {i : Int} (h0 : 0 ≤ i) (h : i < (l.length : Int)) : l.drop i.toNat = l.getD i.toNat z :: l.drop (i + 1).toNat := by
  have h1 : i.toNat < l.length := by omega
  have h2 : (i + 1).toNat = i.toNat + 1 := by omega
  have h3 := getD_rd z h0 h
  rw [h2, List.drop_eq_getElem_cons h1]
  rw [List.getElem?_eq_getElem h1] at h3
  rw [Option.some.inj h3]
theorem getD_mem {α : Type} (z : α) {l : List α} {i : Int} (h0 : 0 ≤ i) (h : i < (l.length : Int)) : l.getD i.toNat z ∈ l := List.mem_of_getElem? (getD_rd z h0 h)
theorem toIntS_l (l : List Int) (hl : l.length ≤ 35184372088832) (d : Nat) : ∀ (k : Nat) (x : List Int) (i : Int), 0 ≤ i → x.length = l.length → i + (d : Int) = (l.length : Int) → (∀ j : Nat, (j : Int) < i → x[j]? = l[j]?) → d < k →
    laws_toIntS.l0 k l x i = some l := by
  induction d with
  | zero =>
    intro k x i h0 hx hi hj hk
    obtain ⟨k, rfl⟩ := succ_of hk
    simp only [laws_toIntS.l0]
    rw [if_neg (by omega)]
    congr 1
    apply List.ext_getElem?
    intro j
    by_cases h : (j : Int) < i
    · exact hj j h
    · rw [List.getElem?_eq_none (by omega), List.getElem?_eq_none (by omega)]
  | succ d ih =>
    intro k x i h0 hx hi hj hk
    obtain ⟨k, rfl⟩ := succ_of hk
    simp only [laws_toIntS.l0]
    rw [if_pos (by omega), if_pos h0, if_pos (by omega), w64 (by omega) (by omega)]
    refine ih k _ (i + 1) (by omega) (by simpa using hx) (by omega) (fun j h => ?_) (by omega)
    rw [List.getElem?_set]
    by_cases e : i.toNat = j
    · subst e
      rw [if_pos rfl, if_pos (by omega), rd_eq h0 (by omega)]
    · rw [if_neg e]
      exact hj j (by omega)
theorem toIntS_at (l : List Int) (hl : l.length ≤ 35184372088832) (k : Nat) (hk : l.length < k) : laws_toIntS.f k l = some l := by
  unfold laws_toIntS.f
  rw [if_pos (by omega), if_pos (by omega)]
  exact toIntS_l l hl l.length k _ 0 (by omega) (by simp) (by omega) (fun j h => by omega) hk
theorem eqIntS_l (a b : List Int) (hl : a.length = b.length) (hb : a.length ≤ 35184372088832) (d : Nat) : ∀ (k : Nat) (i : Int), 0 ≤ i → i + (d : Int) = (a.length : Int) → d < k →
    laws_eqIntS.l0 k a b i = some (decide (a.drop i.toNat = b.drop i.toNat)) := by
  induction d with
  | zero =>
    intro k i h0 hi hk
    obtain ⟨k, rfl⟩ := succ_of hk
    simp only [laws_eqIntS.l0]
    rw [if_neg (by omega), List.drop_eq_nil_of_le (by omega), List.drop_eq_nil_of_le (by omega)]
    simp
  | succ d ih =>
    intro k i h0 hi hk
    obtain ⟨k, rfl⟩ := succ_of hk
    simp only [laws_eqIntS.l0]
    rw [if_pos (by omega), if_pos h0, if_pos (by omega), w64 (by omega) (by omega), drop_rd h0 (by omega), drop_rd h0 (by omega), ih k (i + 1) (by omega) (by omega) (by omega)]
    by_cases e : rd a i = rd b i
    · rw [if_pos e]
      simp [e]
    · rw [if_neg e]
      simp [e]
theorem eqIntS_at (a b : List Int) (hb : a.length ≤ 35184372088832) (k : Nat) (hk : a.length < k) : laws_eqIntS.f k a b = some (decide (a = b)) := by
  unfold laws_eqIntS.f
  by_cases hl : a.length = b.length
  · rw [if_pos (by omega), eqIntS_l a b hl hb a.length k 0 (by omega) (by omega) hk]
    simp
  · rw [if_neg (by omega)]
    have : a ≠ b := fun e => hl (by rw [e])
    simp [this]
theorem eqIntS_same (a : List Int) (hb : a.length ≤ 35184372088832) (k : Nat) (hk : a.length < k) : laws_eqIntS.f k a a = some true := by
  rw [eqIntS_at a a hb k hk]
  simp
theorem szIntS_eq (l : List Int) (a : Int) (hl : l.length ≤ 9223372036854775807) (h0 : 0 ≤ a) (h1 : a ≤ 1048576) : laws_szIntS.f l a = some (if a < (l.length : Int) then -1 else a - (l.length : Int)) := by
  unfold laws_szIntS.f
  rw [w64 (by omega) (by omega)]
  by_cases h : a < (l.length : Int)
  · rw [if_pos (by omega), if_pos h]
  · rw [if_neg (by omega), if_neg h]
theorem szMicroS_eq (l : List S111) (a : Int) (hl : l.length ≤ 9223372036854775807) (h0 : 0 ≤ a) (h1 : a ≤ 1048576) : laws_szMicroS.f l a = some (if a < (l.length : Int) then -1 else a - (l.length : Int)) := by
  unfold laws_szMicroS.f
  rw [w64 (by omega) (by omega)]
  by_cases h : a < (l.length : Int)
  · rw [if_pos (by omega), if_pos h]
  · rw [if_neg (by omega), if_neg h]
def mic (x : S111) : S95 := ⟨x.f0, x.f1, x.f2⟩
theorem toMicroS_l (l : List S111) (hl : l.length ≤ 1048576) (d : Nat) : ∀ (k : Nat) (x : List S95) (i : Int), 0 ≤ i → x.length = l.length → i + (d : Int) = (l.length : Int) → (∀ j : Nat, (j : Int) < i → x[j]? = (l.map mic)[j]?) → d < k →
    laws_toMicroS.l0 k l x i = some (l.map mic) := by
  induction d with
  | zero =>
    intro k x i h0 hx hi hj hk
    obtain ⟨k, rfl⟩ := succ_of hk
    simp only [laws_toMicroS.l0]
    rw [if_neg (by omega)]
    congr 1
    apply List.ext_getElem?
    intro j
    by_cases h : (j : Int) < i
    · exact hj j h
    · rw [List.getElem?_eq_none (by omega), List.getElem?_eq_none (by rw [List.length_map]; omega)]
  | succ d ih =>
    intro k x i h0 hx hi hj hk
    obtain ⟨k, rfl⟩ := succ_of hk
    simp only [laws_toMicroS.l0, laws_toMicro.f]
    rw [if_pos (by omega), if_pos h0]
    simp only [Option.bind_some]
    rw [if_pos (by omega), w64 (by omega) (by omega)]
    refine ih k _ (i + 1) (by omega) (by simpa using hx) (by omega) (fun j h => ?_) (by omega)
    rw [List.getElem?_set]
    by_cases e : i.toNat = j
    · subst e
      rw [if_pos rfl, if_pos (by omega), List.getElem?_map, getD_rd z111 h0 (by omega)]
      rfl
    · rw [if_neg e]
      exact hj j (by omega)
theorem toMicroS_at (l : List S111) (hl : l.length ≤ 1048576) (k : Nat) (hk : l.length < k) : laws_toMicroS.f k l = some (l.map mic) := by
  unfold laws_toMicroS.f
  rw [if_pos (by omega), if_pos (by omega)]
  exact toMicroS_l l hl l.length k _ 0 (by omega) (by simp) (by omega) (fun j h => by omega) (by omega)
theorem eqMicroS_l (l : List S95) (hl : l.length ≤ 1048576) (d : Nat) : ∀ (k : Nat) (i : Int), 0 ≤ i → i + (d : Int) = (l.length : Int) → d < k →
    laws_eqMicroS.l0 k l l i = some true := by
  induction d with
  | zero =>
    intro k i h0 hi hk
    obtain ⟨k, rfl⟩ := succ_of hk
    simp only [laws_eqMicroS.l0]
    rw [if_neg (by omega)]
  | succ d ih =>
    intro k i h0 hi hk
    obtain ⟨k, rfl⟩ := succ_of hk
    simp only [laws_eqMicroS.l0, laws_eqMicro.f]
    rw [if_pos (by omega), if_pos h0, if_pos (by omega), w64 (by omega) (by omega)]
    simp only [if_true, Option.bind_some]
    exact ih k (i + 1) (by omega) (by omega) (by omega)
theorem eqMicroS_same (l : List S95) (hl : l.length ≤ 1048576) (k : Nat) (hk : l.length < k) : laws_eqMicroS.f k l l = some true := by
  unfold laws_eqMicroS.f
  rw [if_pos rfl]
  exact eqMicroS_l l hl l.length k 0 (by omega) (by omega) (by omega)
theorem trace_or (x : S68) (g : gd68 x) : ∃ r, laws_szTrace.f x.f0 x.f1 1048576 = some r ∧ (r < 0 ∨ ((x.f0.map mic).length ≤ 1048576 ∧ laws_toTrace.f 2097200 x.f0 x.f1 = some (x.f0.map mic, x.f1) ∧ laws_eqTrace.f 2097200 (x.f0.map mic) x.f1 (x.f0.map mic) x.f1 = some true)) := by
  obtain ⟨⟨a1, a2⟩, b1, b2⟩ := g
  simp only [maxLen] at a1 b1
  unfold laws_szTrace.f
  rw [szMicroS_eq _ _ (by omega) (by omega) (by omega)]
  simp only [Option.bind_some]
  by_cases h : (1048576 : Int) < (x.f0.length : Int)
  · rw [if_pos (by rw [if_pos h]; omega)]
    exact ⟨_, rfl, .inl (by omega)⟩
  rw [if_neg (by rw [if_neg h]; omega), if_neg h]
  rw [szIntS_eq _ _ (by omega) (by omega) (by omega)]
  simp only [Option.bind_some]
  by_cases h3 : (1048576 - (x.f0.length : Int)) < (x.f1.length : Int)
  · rw [if_pos (by rw [if_pos h3]; omega)]
    exact ⟨_, rfl, .inl (by omega)⟩
  rw [if_neg (by rw [if_neg h3]; omega), if_neg h3]
  have hm : (x.f0.map mic).length ≤ 1048576 := by rw [List.length_map]; omega
  refine ⟨_, rfl, .inr ⟨hm, ?_, ?_⟩⟩
  · unfold laws_toTrace.f
    rw [toMicroS_at _ (by omega) _ (by omega), toIntS_at _ (by omega) _ (by omega)]
    rfl
  · unfold laws_eqTrace.f
    rw [eqMicroS_same _ hm _ (by omega), eqIntS_same _ (by omega) _ (by omega)]
    simp
/-- The costs of these steps, summed up as 64-bit numbers. -/
def costs : List S95 → Int → Int
  | [], c => c
  | x :: t, c => costs t (wrap64 (c + x.f0))
theorem costI_l (l : List S95) (hl : l.length ≤ 1048576) (d : Nat) : ∀ (k : Nat) (c i : Int), 0 ≤ i → i + (d : Int) = (l.length : Int) → d < k →
    impl_TraceCost.l0 k c l (l.length : Int) i = some (costs (l.drop i.toNat) c) := by
  induction d with
  | zero =>
    intro k c i h0 hi hk
    obtain ⟨k, rfl⟩ := succ_of hk
    simp only [impl_TraceCost.l0]
    rw [if_neg (by omega), List.drop_eq_nil_of_le (by omega)]
    rfl
  | succ d ih =>
    intro k c i h0 hi hk
    obtain ⟨k, rfl⟩ := succ_of hk
    simp only [impl_TraceCost.l0]
    rw [if_pos (by omega), if_pos h0, if_pos (by omega), w64 (x := i + 1) (by omega) (by omega), drop_getD z95 h0 (by omega), ih k _ (i + 1) (by omega) (by omega) (by omega)]
    rfl
theorem costS_l (l : List S95) (m : List Int) (hl : l.length ≤ 1048576) (d : Nat) : ∀ (k : Nat) (c i : Int), 0 ≤ i → i + (d : Int) = (l.length : Int) → d < k →
    spec_TraceCost.l0 k c i l m = some (costs (l.drop i.toNat) c) := by
  induction d with
  | zero =>
    intro k c i h0 hi hk
    obtain ⟨k, rfl⟩ := succ_of hk
    simp only [spec_TraceCost.l0]
    rw [if_neg (by omega), List.drop_eq_nil_of_le (by omega)]
    rfl
  | succ d ih =>
    intro k c i h0 hi hk
    obtain ⟨k, rfl⟩ := succ_of hk
    simp only [spec_TraceCost.l0]
    rw [if_pos (by omega), if_pos h0, w64 (x := i + 1) (by omega) (by omega), drop_getD z95 h0 (by omega), ih k _ (i + 1) (by omega) (by omega) (by omega)]
    rfl
theorem FnExactTraceCost : laws_FnExactTraceCost.Pure := by
  intro x g
  refine ⟨2097200, ?_⟩
  obtain ⟨r, e, h | ⟨hl, h1, h2⟩⟩ := trace_or x g
  · unfold laws_FnExactTraceCost.f
    rw [e]
    simp only [Option.bind_some]
    rw [if_pos h]
  · unfold laws_FnExactTraceCost.f spec_TraceCost.f impl_TraceCost.f
    simp only [e, h1, h2, Option.bind_some, if_true, ite_self, costI_l _ hl _ 2097200 0 0 (by omega) (Int.zero_add _) (by omega), costS_l _ x.f1 hl _ 2097200 0 0 (by omega) (Int.zero_add _) (by omega)]

end Go.Proofs.Ytlcgohhcoalahaa.Pure
