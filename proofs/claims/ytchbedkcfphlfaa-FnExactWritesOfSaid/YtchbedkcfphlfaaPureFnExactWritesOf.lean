/- The law FnExactWritesOf: for every input the function answers true. No condition. -/
import Derived.Test.YtchbedkcfphlfaaGx27
namespace Go.Proofs.Ytchbedkcfphlfaa.Pure
open Go.RowKit Go.Proofs.Ytchbedkcfphlfaa.G Go.Proofs.YtchbedkcfphlfaaW.PrintWords Go.Proofs.YtchbedkcfphlfaaW.PrintLast

theorem w64 {x : Int} (h : -9223372036854775808 ≤ x) (h2 : x ≤ 9223372036854775807) : wrap64 x = x := by
  unfold wrap64
  omega
theorem wf_i64 {x : Int} (h : (Lit.int .i64 x).wf = true) : -9223372036854775808 ≤ x ∧ x ≤ 9223372036854775807 := by
  simp only [Lit.wf, IntKind.min, IntKind.max, IntKind.signed, IntKind.bits, Bool.and_eq_true, decide_eq_true_eq, if_true] at h
  omega
theorem succ_of {k d : Nat} (h : d < k) : ∃ m, k = m + 1 := ⟨k - 1, by omega⟩
theorem rd_eq {l : List Int} {i : Int} (h0 : 0 ≤ i) (h : i < (l.length : Int)) : l[i.toNat]? = some (rd l i) := by
  unfold rd
  rw [List.getD_eq_getElem?_getD, List.getElem?_eq_getElem (by omega)]
  rfl
theorem drop_rd {l : List Int} {i : Int} (h0 : 0 ≤ i) (h : i < (l.length : Int)) : l.drop i.toNat = rd l i :: l.drop (i + 1).toNat := by
  have h1 : i.toNat < l.length := by omega
  have h2 : (i + 1).toNat = i.toNat + 1 := by omega
  have h3 := rd_eq h0 h
  rw [h2, List.drop_eq_getElem_cons h1]
  rw [List.getElem?_eq_getElem h1] at h3
  rw [Option.some.inj h3]
/-- The numbers a, a + 1, .. : n of them. -/
def marks (a : Int) (n : Nat) : List Int := (List.range n).map fun j : Nat => a + (j : Int)
theorem marks_len (a : Int) (n : Nat) : (marks a n).length = n := by simp [marks]
theorem marks_get (a : Int) (n i : Nat) (h : i < n) : (marks a n)[i]? = some (a + (i : Int)) := by simp [marks, h]
theorem rd_all {P : Int → Prop} {l : List Int} (h : ∀ x ∈ l, P x) {i : Int} (h0 : 0 ≤ i) (h1 : i < (l.length : Int)) : P (rd l i) := h _ (List.mem_of_getElem? (rd_eq h0 h1))
theorem getD_rd {α : Type} (z : α) {l : List α} {i : Int} (h0 : 0 ≤ i) (h : i < (l.length : Int)) : l[i.toNat]? = some (l.getD i.toNat z) := by
  rw [List.getD_eq_getElem?_getD, List.getElem?_eq_getElem (by omega)]
  rfl
theorem drop_getD {α : Type} (z : α) {l : List α} {i : Int} (h0 : 0 ≤ i) (h : i < (l.length : Int)) : l.drop i.toNat = l.getD i.toNat z :: l.drop (i + 1).toNat := by
  have h1 : i.toNat < l.length := by omega
  have h2 : (i + 1).toNat = i.toNat + 1 := by omega
  have h3 := getD_rd z h0 h
  rw [h2, List.drop_eq_getElem_cons h1]
  rw [List.getElem?_eq_getElem h1] at h3
  rw [Option.some.inj h3]
theorem getD_mem {α : Type} (z : α) {l : List α} {i : Int} (h0 : 0 ≤ i) (h : i < (l.length : Int)) : l.getD i.toNat z ∈ l := List.mem_of_getElem? (getD_rd z h0 h)
theorem marks_succ (a : Int) (n : Nat) : marks a (n + 1) = a :: marks (a + 1) n := by
  simp only [marks, List.range_succ_eq_map, List.map_cons, List.map_map]
  congr 1
  · simp
  · apply List.map_congr_left
    intro j _
    simp only [Function.comp]
    omega
theorem take_set_next (x : List Int) (n : Nat) (a : Int) (h : n < x.length) : (x.set n a).take (n + 1) = x.take n ++ [a] := by
  have e : (x.set n a).take n = x.take n := by
    apply List.ext_getElem?
    intro j
    simp only [List.getElem?_take]
    split
    · rw [List.getElem?_set_ne (by omega)]
    · rfl
  rw [List.take_succ_eq_append_getElem (by simpa using h), e]
  simp
theorem toIntS_l (l : List Int) (hl : l.length ≤ 35184372088832) (d : Nat) : ∀ (k : Nat) (x : List Int) (i : Int), 0 ≤ i → x.length = l.length → i + (d : Int) = (l.length : Int) → (∀ j : Nat, (j : Int) < i → x[j]? = l[j]?) → d < k →
    laws_toIntS.l0 k l x i = some l := by
  induction d with
  | zero =>
    intro k x i h0 hx hi hj hk
    obtain ⟨k, rfl⟩ := succ_of hk
    simp only [laws_toIntS.l0]
    rw [if_neg (by omega)]
    congr 1
    apply List.ext_getElem?
    intro j
    by_cases h : (j : Int) < i
    · exact hj j h
    · rw [List.getElem?_eq_none (by omega), List.getElem?_eq_none (by omega)]
  | succ d ih =>
    intro k x i h0 hx hi hj hk
    obtain ⟨k, rfl⟩ := succ_of hk
    simp only [laws_toIntS.l0]
    rw [if_pos (by omega), if_pos h0, if_pos (by omega), w64 (by omega) (by omega)]
    refine ih k _ (i + 1) (by omega) (by simpa using hx) (by omega) (fun j h => ?_) (by omega)
    rw [List.getElem?_set]
    by_cases e : i.toNat = j
    · subst e
      rw [if_pos rfl, if_pos (by omega), rd_eq h0 (by omega)]
    · rw [if_neg e]
      exact hj j (by omega)
theorem toIntS_at (l : List Int) (hl : l.length ≤ 35184372088832) (k : Nat) (hk : l.length < k) : laws_toIntS.f k l = some l := by
  unfold laws_toIntS.f
  rw [if_pos (by omega), if_pos (by omega)]
  exact toIntS_l l hl l.length k _ 0 (by omega) (by simp) (by omega) (fun j h => by omega) hk
theorem eqIntS_l (a b : List Int) (hl : a.length = b.length) (hb : a.length ≤ 35184372088832) (d : Nat) : ∀ (k : Nat) (i : Int), 0 ≤ i → i + (d : Int) = (a.length : Int) → d < k →
    laws_eqIntS.l0 k a b i = some (decide (a.drop i.toNat = b.drop i.toNat)) := by
  induction d with
  | zero =>
    intro k i h0 hi hk
    obtain ⟨k, rfl⟩ := succ_of hk
    simp only [laws_eqIntS.l0]
    rw [if_neg (by omega), List.drop_eq_nil_of_le (by omega), List.drop_eq_nil_of_le (by omega)]
    simp
  | succ d ih =>
    intro k i h0 hi hk
    obtain ⟨k, rfl⟩ := succ_of hk
    simp only [laws_eqIntS.l0]
    rw [if_pos (by omega), if_pos h0, if_pos (by omega), w64 (by omega) (by omega), drop_rd h0 (by omega), drop_rd h0 (by omega), ih k (i + 1) (by omega) (by omega) (by omega)]
    by_cases e : rd a i = rd b i
    · rw [if_pos e]
      simp [e]
    · rw [if_neg e]
      simp [e]
theorem eqIntS_at (a b : List Int) (hb : a.length ≤ 35184372088832) (k : Nat) (hk : a.length < k) : laws_eqIntS.f k a b = some (decide (a = b)) := by
  unfold laws_eqIntS.f
  by_cases hl : a.length = b.length
  · rw [if_pos (by omega), eqIntS_l a b hl hb a.length k 0 (by omega) (by omega) hk]
    simp
  · rw [if_neg (by omega)]
    have : a ≠ b := fun e => hl (by rw [e])
    simp [this]
theorem eqIntS_same (a : List Int) (hb : a.length ≤ 35184372088832) (k : Nat) (hk : a.length < k) : laws_eqIntS.f k a a = some true := by
  rw [eqIntS_at a a hb k hk]
  simp
theorem szIntS_eq (l : List Int) (a : Int) (hl : l.length ≤ 9223372036854775807) (h0 : 0 ≤ a) (h1 : a ≤ 1048576) : laws_szIntS.f l a = some (if a < (l.length : Int) then -1 else a - (l.length : Int)) := by
  unfold laws_szIntS.f
  rw [w64 (by omega) (by omega)]
  by_cases h : a < (l.length : Int)
  · rw [if_pos (by omega), if_pos h]
  · rw [if_neg (by omega), if_neg h]
theorem markIntS_l (d : Nat) : ∀ (k : Nat) (x : List Int) (a i : Int), x.length ≤ 35184372088832 → 0 ≤ i → i + (d : Int) = (x.length : Int) → 0 ≤ a → a + (d : Int) ≤ 4611686018427387904 → d < k →
    laws_markIntS.l0 k x a i = some (a + (d : Int), x.take i.toNat ++ marks a d) := by
  induction d with
  | zero =>
    intro k x a i hx h0 hi ha hb hk
    obtain ⟨k, rfl⟩ := succ_of hk
    simp only [laws_markIntS.l0]
    rw [if_neg (by omega), List.take_of_length_le (by omega)]
    simp [marks]
  | succ d ih =>
    intro k x a i hx h0 hi ha hb hk
    obtain ⟨k, rfl⟩ := succ_of hk
    simp only [laws_markIntS.l0]
    rw [if_pos (by omega), if_pos h0, w64 (by omega) (by omega), w64 (by omega) (by omega)]
    rw [ih k _ (a + 1) (i + 1) (by simpa using hx) (by omega) (by rw [List.length_set]; omega) (by omega) (by omega) (by omega)]
    have h2 : (i + 1).toNat = i.toNat + 1 := by omega
    rw [h2, take_set_next x i.toNat a (by omega), marks_succ]
    simp
    omega
theorem markIntS_at (x : List Int) (a : Int) (k : Nat) (hx : x.length ≤ 35184372088832) (ha : 0 ≤ a) (hb : a + (x.length : Int) ≤ 4611686018427387904) (hk : x.length < k) :
    laws_markIntS.f k x a = some (a + (x.length : Int), marks a x.length) := by
  unfold laws_markIntS.f
  rw [markIntS_l x.length k x a 0 hx (by omega) (by omega) ha hb hk]
  simp
theorem szMicroS_eq (l : List S59) (a : Int) (hl : l.length ≤ 9223372036854775807) (h0 : 0 ≤ a) (h1 : a ≤ 1048576) : laws_szMicroS.f l a = some (if a < (l.length : Int) then -1 else a - (l.length : Int)) := by
  unfold laws_szMicroS.f
  rw [w64 (by omega) (by omega)]
  by_cases h : a < (l.length : Int)
  · rw [if_pos (by omega), if_pos h]
  · rw [if_neg (by omega), if_neg h]
def mic (x : S59) : S54 := ⟨x.f0, x.f1, x.f2⟩
theorem toMicroS_l (l : List S59) (hl : l.length ≤ 1048576) (d : Nat) : ∀ (k : Nat) (x : List S54) (i : Int), 0 ≤ i → x.length = l.length → i + (d : Int) = (l.length : Int) → (∀ j : Nat, (j : Int) < i → x[j]? = (l.map mic)[j]?) → d < k →
    laws_toMicroS.l0 k l x i = some (l.map mic) := by
  induction d with
  | zero =>
    intro k x i h0 hx hi hj hk
    obtain ⟨k, rfl⟩ := succ_of hk
    simp only [laws_toMicroS.l0]
    rw [if_neg (by omega)]
    congr 1
    apply List.ext_getElem?
    intro j
    by_cases h : (j : Int) < i
    · exact hj j h
    · rw [List.getElem?_eq_none (by omega), List.getElem?_eq_none (by rw [List.length_map]; omega)]
  | succ d ih =>
    intro k x i h0 hx hi hj hk
    obtain ⟨k, rfl⟩ := succ_of hk
    simp only [laws_toMicroS.l0, laws_toMicro.f]
    rw [if_pos (by omega), if_pos h0]
    simp only [Option.bind_some]
    rw [if_pos (by omega), w64 (by omega) (by omega)]
    refine ih k _ (i + 1) (by omega) (by simpa using hx) (by omega) (fun j h => ?_) (by omega)
    rw [List.getElem?_set]
    by_cases e : i.toNat = j
    · subst e
      rw [if_pos rfl, if_pos (by omega), List.getElem?_map, getD_rd z59 h0 (by omega)]
      rfl
    · rw [if_neg e]
      exact hj j (by omega)
theorem toMicroS_at (l : List S59) (hl : l.length ≤ 1048576) (k : Nat) (hk : l.length < k) : laws_toMicroS.f k l = some (l.map mic) := by
  unfold laws_toMicroS.f
  rw [if_pos (by omega), if_pos (by omega)]
  exact toMicroS_l l hl l.length k _ 0 (by omega) (by simp) (by omega) (fun j h => by omega) (by omega)
theorem eqMicroS_l (l : List S54) (hl : l.length ≤ 1048576) (d : Nat) : ∀ (k : Nat) (i : Int), 0 ≤ i → i + (d : Int) = (l.length : Int) → d < k →
    laws_eqMicroS.l0 k l l i = some true := by
  induction d with
  | zero =>
    intro k i h0 hi hk
    obtain ⟨k, rfl⟩ := succ_of hk
    simp only [laws_eqMicroS.l0]
    rw [if_neg (by omega)]
  | succ d ih =>
    intro k i h0 hi hk
    obtain ⟨k, rfl⟩ := succ_of hk
    simp only [laws_eqMicroS.l0, laws_eqMicro.f]
    rw [if_pos (by omega), if_pos h0, if_pos (by omega), w64 (by omega) (by omega)]
    simp only [if_true, Option.bind_some]
    exact ih k (i + 1) (by omega) (by omega) (by omega)
theorem eqMicroS_same (l : List S54) (hl : l.length ≤ 1048576) (k : Nat) (hk : l.length < k) : laws_eqMicroS.f k l l = some true := by
  unfold laws_eqMicroS.f
  rw [if_pos rfl]
  exact eqMicroS_l l hl l.length k 0 (by omega) (by omega) (by omega)
theorem eqWriteS_l (l : List S47) (hl : l.length ≤ 1048576) (d : Nat) : ∀ (k : Nat) (i : Int), 0 ≤ i → i + (d : Int) = (l.length : Int) → d < k →
    laws_eqWriteS.l0 k l l i = some true := by
  induction d with
  | zero =>
    intro k i h0 hi hk
    obtain ⟨k, rfl⟩ := succ_of hk
    simp only [laws_eqWriteS.l0]
    rw [if_neg (by omega)]
  | succ d ih =>
    intro k i h0 hi hk
    obtain ⟨k, rfl⟩ := succ_of hk
    simp only [laws_eqWriteS.l0, laws_eqWrite.f]
    rw [if_pos (by omega), if_pos h0, if_pos (by omega), w64 (by omega) (by omega)]
    simp only [if_true, Option.bind_some]
    exact ih k (i + 1) (by omega) (by omega) (by omega)
theorem eqWriteS_same (l : List S47) (hl : l.length ≤ 1048576) (k : Nat) (hk : l.length < k) : laws_eqWriteS.f k l l = some true := by
  unfold laws_eqWriteS.f
  rw [if_pos rfl]
  exact eqWriteS_l l hl l.length k 0 (by omega) (by omega) (by omega)
def mkWrite (a : Int) : S47 := ⟨a, a + 1⟩
theorem markWriteS_l (a0 : Int) (h0a : 0 ≤ a0) (n : Nat) (hn : a0 + 2 * (n : Int) ≤ 4611686018427387904) (d : Nat) : ∀ (k : Nat) (x : List S47) (a i : Int), x.length = n → 0 ≤ i → i + (d : Int) = (n : Int) → a = a0 + 2 * i → (∀ j : Nat, (j : Int) < i → x[j]? = some (mkWrite (a0 + 2 * (j : Int)))) → d < k →
    ∃ M, laws_markWriteS.l0 k x a i = some (a0 + 2 * (n : Int), M) ∧ M.length = n ∧ ∀ j : Nat, j < n → M[j]? = some (mkWrite (a0 + 2 * (j : Int))) := by
  induction d with
  | zero =>
    intro k x a i hx h0 hi ha hj hk
    obtain ⟨k, rfl⟩ := succ_of hk
    simp only [laws_markWriteS.l0]
    rw [if_neg (by omega)]
    refine ⟨x, by rw [ha, show i = (n : Int) by omega], hx, fun j h => hj j (by omega)⟩
  | succ d ih =>
    intro k x a i hx h0 hi ha hj hk
    obtain ⟨k, rfl⟩ := succ_of hk
    have hxi : i.toNat < x.length := by omega
    simp only [laws_markWriteS.l0, Option.bind_some, rd_T47]
    rw [if_pos (by omega), if_pos h0]
    rw [w64 (x := a + 1) (by omega) (by omega), w64 (x := a + 1 + 1) (by omega) (by omega), w64 (x := i + 1) (by omega) (by omega)]
    refine ih k _ _ (i + 1) (by simpa using hx) (by omega) (by omega) (by omega) (fun j h => ?_) (by omega)
    by_cases e : i.toNat = j
    · subst e
      rw [List.getElem?_set_self (by simpa using hxi)]
      have e1 : a0 + 2 * ((i.toNat : Nat) : Int) = a := by rw [ha]; omega
      rw [e1]
      simp [mkWrite, List.getD_eq_getElem?_getD, hxi]
    · simp only [List.getElem?_set_ne e]
      exact hj j (by omega)
theorem markWriteS_some (x : List S47) (a : Int) (h0 : 0 ≤ a) (hn : a + 2 * (x.length : Int) ≤ 4611686018427387904) (k : Nat) (hk : x.length < k) :
    ∃ M, laws_markWriteS.f k x a = some (a + 2 * (x.length : Int), M) := by
  obtain ⟨M, e, hM, hj⟩ := markWriteS_l a h0 x.length hn x.length k x a 0 rfl (by omega) (by omega) (by omega) (fun j h => by omega) hk
  exact ⟨M, e⟩
theorem heldWriteS_l (a0 : Int) (h0a : 0 ≤ a0) (n : Nat) (hn : a0 + 2 * (n : Int) ≤ 4611686018427387904) (M : List S47) (hM : M.length = n) (hj : ∀ j : Nat, j < n → M[j]? = some (mkWrite (a0 + 2 * (j : Int)))) (d : Nat) : ∀ (k : Nat) (a i : Int), 0 ≤ i → i + (d : Int) = (n : Int) → a = a0 + 2 * i → d < k →
    laws_heldWriteS.l0 k M a i = some (a0 + 2 * (n : Int)) := by
  induction d with
  | zero =>
    intro k a i h0 hi ha hk
    obtain ⟨k, rfl⟩ := succ_of hk
    simp only [laws_heldWriteS.l0]
    rw [if_neg (by omega), ha, show i = (n : Int) by omega]
  | succ d ih =>
    intro k a i h0 hi ha hk
    obtain ⟨k, rfl⟩ := succ_of hk
    have e1 : rd_T47 M i = mkWrite a := by
      unfold rd_T47
      rw [List.getD_eq_getElem?_getD, hj i.toNat (by omega), ha]
      simp only [Option.getD_some]
      congr 1
      omega
    simp only [laws_heldWriteS.l0, e1, mkWrite]
    rw [if_pos (by omega), if_pos h0]
    rw [w64 (x := a + 1) (by omega) (by omega), w64 (x := a + 1 + 1) (by omega) (by omega), w64 (x := i + 1) (by omega) (by omega)]
    simp only [if_true]
    exact ih k _ (i + 1) (by omega) (by omega) (by omega) (by omega)
theorem markWriteS_at (x : List S47) (a : Int) (h0 : 0 ≤ a) (hn : a + 2 * (x.length : Int) ≤ 4611686018427387904) (k : Nat) (hk : x.length < k) :
    ∃ M, laws_markWriteS.f k x a = some (a + 2 * (x.length : Int), M) ∧ ∀ k', x.length < k' → laws_heldWriteS.f k' M a = some (a + 2 * (x.length : Int)) := by
  obtain ⟨M, e, hM, hj⟩ := markWriteS_l a h0 x.length hn x.length k x a 0 rfl (by omega) (by omega) (by omega) (fun j h => by omega) hk
  exact ⟨M, e, fun k' hk' => heldWriteS_l a h0 x.length hn M hM hj x.length k' a 0 (by omega) (by omega) (by omega) hk'⟩
def mkMicro (a : Int) : S54 := ⟨a, a + 1, a + 1 + 1⟩
theorem markMicroS_l (a0 : Int) (h0a : 0 ≤ a0) (n : Nat) (hn : a0 + 3 * (n : Int) ≤ 4611686018427387904) (d : Nat) : ∀ (k : Nat) (x : List S54) (a i : Int), x.length = n → 0 ≤ i → i + (d : Int) = (n : Int) → a = a0 + 3 * i → (∀ j : Nat, (j : Int) < i → x[j]? = some (mkMicro (a0 + 3 * (j : Int)))) → d < k →
    ∃ M, laws_markMicroS.l0 k x a i = some (a0 + 3 * (n : Int), M) ∧ M.length = n ∧ ∀ j : Nat, j < n → M[j]? = some (mkMicro (a0 + 3 * (j : Int))) := by
  induction d with
  | zero =>
    intro k x a i hx h0 hi ha hj hk
    obtain ⟨k, rfl⟩ := succ_of hk
    simp only [laws_markMicroS.l0]
    rw [if_neg (by omega)]
    refine ⟨x, by rw [ha, show i = (n : Int) by omega], hx, fun j h => hj j (by omega)⟩
  | succ d ih =>
    intro k x a i hx h0 hi ha hj hk
    obtain ⟨k, rfl⟩ := succ_of hk
    have hxi : i.toNat < x.length := by omega
    simp only [laws_markMicroS.l0, Option.bind_some, rd_T54]
    rw [if_pos (by omega), if_pos h0]
    rw [w64 (x := a + 1) (by omega) (by omega), w64 (x := a + 1 + 1) (by omega) (by omega), w64 (x := a + 1 + 1 + 1) (by omega) (by omega), w64 (x := i + 1) (by omega) (by omega)]
    refine ih k _ _ (i + 1) (by simpa using hx) (by omega) (by omega) (by omega) (fun j h => ?_) (by omega)
    by_cases e : i.toNat = j
    · subst e
      rw [List.getElem?_set_self (by simpa using hxi)]
      have e1 : a0 + 3 * ((i.toNat : Nat) : Int) = a := by rw [ha]; omega
      rw [e1]
      simp [mkMicro, List.getD_eq_getElem?_getD, hxi]
    · simp only [List.getElem?_set_ne e]
      exact hj j (by omega)
theorem markMicroS_some (x : List S54) (a : Int) (h0 : 0 ≤ a) (hn : a + 3 * (x.length : Int) ≤ 4611686018427387904) (k : Nat) (hk : x.length < k) :
    ∃ M, laws_markMicroS.f k x a = some (a + 3 * (x.length : Int), M) := by
  obtain ⟨M, e, hM, hj⟩ := markMicroS_l a h0 x.length hn x.length k x a 0 rfl (by omega) (by omega) (by omega) (fun j h => by omega) hk
  exact ⟨M, e⟩
/-- The writes of these steps. -/
def wOf : List S54 → List S47 → List S47
  | [], r => r
  | x :: t, r => if x.f1 = -1 then wOf t r else wOf t (r ++ [⟨x.f1, x.f2⟩])
theorem wOf_len : ∀ (l : List S54) (r : List S47), (wOf l r).length ≤ r.length + l.length
  | [], r => by simp [wOf]
  | x :: t, r => by
    rw [wOf]
    split
    · have := wOf_len t r
      simp only [List.length_cons]
      omega
    · have := wOf_len t (r ++ [⟨x.f1, x.f2⟩])
      simp only [List.length_append, List.length_cons, List.length_nil] at *
      omega
theorem wOfI_l (l : List S54) (hl : l.length ≤ 1048576) (d : Nat) : ∀ (k : Nat) (r : List S47) (i : Int), r.length + d ≤ 1048576 → 0 ≤ i → i + (d : Int) = (l.length : Int) → d < k →
    impl_WritesOf.l0 k r l (l.length : Int) i = some (wOf (l.drop i.toNat) r) := by
  induction d with
  | zero =>
    intro k r i hr h0 hi hk
    obtain ⟨k, rfl⟩ := succ_of hk
    simp only [impl_WritesOf.l0]
    rw [if_neg (by omega), List.drop_eq_nil_of_le (by omega)]
    rfl
  | succ d ih =>
    intro k r i hr h0 hi hk
    obtain ⟨k, rfl⟩ := succ_of hk
    simp only [impl_WritesOf.l0]
    rw [if_pos (by omega), if_pos h0, if_pos (by omega), w64 (x := i + 1) (by omega) (by omega), drop_getD z54 h0 (by omega), wOf]
    change (if (rd_T54 l i).f1 = -1 then _ else _) = some (if (rd_T54 l i).f1 = -1 then _ else wOf _ (r ++ [⟨(rd_T54 l i).f1, (rd_T54 l i).f2⟩]))
    by_cases e : (rd_T54 l i).f1 = -1
    · rw [if_pos e, if_pos e]
      exact ih k _ (i + 1) (by omega) (by omega) (by omega) (by omega)
    · rw [if_neg e, if_neg e, if_pos (by omega)]
      exact ih k _ (i + 1) (by simp only [List.length_append, List.length_cons, List.length_nil]; omega) (by omega) (by omega) (by omega)
theorem wOfS_l (l : List S54) (m : List Int) (hl : l.length ≤ 1048576) (d : Nat) : ∀ (k : Nat) (r : List S47) (i : Int), r.length + d ≤ 1048576 → 0 ≤ i → i + (d : Int) = (l.length : Int) → d < k →
    spec_WritesOf.l0 k r i l m = some (wOf (l.drop i.toNat) r) := by
  induction d with
  | zero =>
    intro k r i hr h0 hi hk
    obtain ⟨k, rfl⟩ := succ_of hk
    simp only [spec_WritesOf.l0]
    rw [if_neg (by omega), List.drop_eq_nil_of_le (by omega)]
    rfl
  | succ d ih =>
    intro k r i hr h0 hi hk
    obtain ⟨k, rfl⟩ := succ_of hk
    simp only [spec_WritesOf.l0]
    rw [if_pos (by omega), if_pos h0, w64 (x := i + 1) (by omega) (by omega), drop_getD z54 h0 (by omega), wOf]
    change (if (rd_T54 l i).f1 = -1 then _ else _) = some (if (rd_T54 l i).f1 = -1 then _ else wOf _ (r ++ [⟨(rd_T54 l i).f1, (rd_T54 l i).f2⟩]))
    by_cases e : (rd_T54 l i).f1 = -1
    · rw [if_pos e, if_pos e]
      exact ih k _ (i + 1) (by omega) (by omega) (by omega) (by omega)
    · rw [if_neg e, if_neg e, if_pos (by omega)]
      exact ih k _ (i + 1) (by simp only [List.length_append, List.length_cons, List.length_nil]; omega) (by omega) (by omega) (by omega)
theorem FnExactWritesOf : laws_FnExactWritesOf.Pure := by
  intro x g
  refine ⟨2097200, ?_⟩
  have key : ∀ k, 2097100 < k → ∃ r, laws_szTrace.f x.f0 x.f1 1048576 = some r ∧ (r < 0 ∨ (x.f0.length ≤ 1048576 ∧ x.f1.length ≤ 1048576 ∧ laws_toTrace.f k x.f0 x.f1 = some (x.f0.map mic, x.f1) ∧ laws_eqTrace.f k (x.f0.map mic) x.f1 (x.f0.map mic) x.f1 = some true)) := by
    intro k hk
    obtain ⟨⟨a1, a2⟩, b1, b2⟩ := g
    simp only [maxLen] at a1 b1
    unfold laws_szTrace.f
    rw [szMicroS_eq _ _ (by omega) (by omega) (by omega)]
    simp only [Option.bind_some]
    by_cases h : (1048576 : Int) < (x.f0.length : Int)
    · rw [if_pos (by rw [if_pos h]; omega)]
      exact ⟨_, rfl, .inl (by omega)⟩
    rw [if_neg (by rw [if_neg h]; omega), if_neg h]
    rw [szIntS_eq _ _ (by omega) (by omega) (by omega)]
    simp only [Option.bind_some]
    by_cases h3 : (1048576 - (x.f0.length : Int)) < (x.f1.length : Int)
    · rw [if_pos (by rw [if_pos h3]; omega)]
      exact ⟨_, rfl, .inl (by omega)⟩
    rw [if_neg (by rw [if_neg h3]; omega), if_neg h3]
    have hm : (x.f0.map mic).length ≤ 1048576 := by rw [List.length_map]; omega
    refine ⟨_, rfl, .inr ⟨by omega, by omega, ?_, ?_⟩⟩
    · unfold laws_toTrace.f
      rw [toMicroS_at _ (by omega) _ (by omega), toIntS_at _ (by omega) _ (by omega)]
      rfl
    · unfold laws_eqTrace.f
      rw [eqMicroS_same _ hm _ (by omega), eqIntS_same _ (by omega) _ (by omega)]
      simp
  obtain ⟨r, e, h | ⟨hl, hl2, h1, h2⟩⟩ := key 2097200 (by omega)
  · unfold laws_FnExactWritesOf.f
    rw [e]
    simp only [Option.bind_some]
    rw [if_pos h]
  · obtain ⟨r', e', h' | ⟨_, _, h1', _⟩⟩ := key 2097199 (by omega)
    · unfold laws_FnExactWritesOf.f
      rw [e']
      simp only [Option.bind_some]
      rw [if_pos h']
    unfold laws_FnExactWritesOf.f
    rw [e]
    simp only [Option.bind_some]
    by_cases hr : r < 0
    · rw [if_pos hr]
    rw [if_neg hr]
    have hm : (x.f0.map mic).length = x.f0.length := by simp
    generalize x.f0.map mic = L at *
    have iS : ∀ k, 1048580 < k → spec_WritesOf.f k L x.f1 = some (wOf L []) := by
      intro k hk
      unfold spec_WritesOf.f
      rw [wOfS_l L x.f1 (by omega) L.length k [] 0 (by simp only [List.length_nil]; omega) (by omega) (by omega) (by omega)]
      simp
    have iI : ∀ k, 1048580 < k → impl_WritesOf.f k L x.f1 = some (wOf L []) := by
      intro k hk
      unfold impl_WritesOf.f
      rw [wOfI_l L (by omega) L.length k [] 0 (by simp only [List.length_nil]; omega) (by omega) (by omega) (by omega)]
      simp
    have hlen := wOf_len L []
    simp only [List.length_nil] at hlen
    generalize wOf L [] = v at *
    have he := eqWriteS_same v (by omega) 2097200 (by omega)
    have he2 := eqWriteS_same v (by omega) 2097199 (by omega)
    obtain ⟨M, em, hM⟩ := markWriteS_at v 1 (by omega) (by omega) 2097199 (by omega)
    obtain ⟨M2, em2⟩ := markMicroS_some L 1 (by omega) (by omega) 2097200 (by omega)
    have hk := markIntS_at x.f1 (1 + 3 * (L.length : Int)) 2097200 (by omega) (by omega) (by omega) (by omega)
    have n1 : ¬ (1 + 3 * (L.length : Int) + (x.f1.length : Int) < 0) := by omega
    have n2 : ¬ (1 + 2 * (v.length : Int) < 0) := by omega
    simp only [h1, h1', h2, iS 2097200 (by omega), iI 2097200 (by omega), iI 2097199 (by omega), he, he2, laws_markTrace.f, em2, hk, n1, Option.bind_some, if_true, if_false, Bool.not_true, laws_FnExactWritesOf.j0, Bool.false_eq_true, em, hM 2097199 (by omega), n2]

end Go.Proofs.Ytchbedkcfphlfaa.Pure
