/- The law FnExactRecovered: for every input the function answers true. No condition. -/
import Derived.Test.YtchbedkcfphlfaaGx18
namespace Go.Proofs.Ytchbedkcfphlfaa.Pure
open Go.RowKit Go.Proofs.Ytchbedkcfphlfaa.G Go.Proofs.YtchbedkcfphlfaaW.PrintWords Go.Proofs.YtchbedkcfphlfaaW.PrintLast

theorem w64 {x : Int} (h : -9223372036854775808 ≤ x) (h2 : x ≤ 9223372036854775807) : wrap64 x = x := by
  unfold wrap64
  omega
theorem wf_i64 {x : Int} (h : (Lit.int .i64 x).wf = true) : -9223372036854775808 ≤ x ∧ x ≤ 9223372036854775807 := by
  simp only [Lit.wf, IntKind.min, IntKind.max, IntKind.signed, IntKind.bits, Bool.and_eq_true, decide_eq_true_eq, if_true] at h
  omega
theorem succ_of {k d : Nat} (h : d < k) : ∃ m, k = m + 1 := ⟨k - 1, by omega⟩
theorem rd_eq {l : List Int} {i : Int} (h0 : 0 ≤ i) (h : i < (l.length : Int)) : l[i.toNat]? = some (rd l i) := by
  unfold rd
  rw [List.getD_eq_getElem?_getD, List.getElem?_eq_getElem (by omega)]
  rfl
theorem drop_rd {l : List Int} {i : Int} (h0 : 0 ≤ i) (h : i < (l.length : Int)) : l.drop i.toNat = rd l i :: l.drop (i + 1).toNat := by
  have h1 : i.toNat < l.length := by omega
  have h2 : (i + 1).toNat = i.toNat + 1 := by omega
  have h3 := rd_eq h0 h
  rw [h2, List.drop_eq_getElem_cons h1]
  rw [List.getElem?_eq_getElem h1] at h3
  rw [Option.some.inj h3]
/-- The numbers a, a + 1, .. : n of them. -/
def marks (a : Int) (n : Nat) : List Int := (List.range n).map fun j : Nat => a + (j : Int)
theorem marks_len (a : Int) (n : Nat) : (marks a n).length = n := by simp [marks]
theorem marks_get (a : Int) (n i : Nat) (h : i < n) : (marks a n)[i]? = some (a + (i : Int)) := by simp [marks, h]
theorem rd_all {P : Int → Prop} {l : List Int} (h : ∀ x ∈ l, P x) {i : Int} (h0 : 0 ≤ i) (h1 : i < (l.length : Int)) : P (rd l i) := h _ (List.mem_of_getElem? (rd_eq h0 h1))
theorem getD_rd {α : Type} (z : α) {l : List α} {i : Int} (h0 : 0 ≤ i) (h : i < (l.length : Int)) : l[i.toNat]? = some (l.getD i.toNat z) := by
  rw [List.getD_eq_getElem?_getD, List.getElem?_eq_getElem (by omega)]
  rfl
theorem drop_getD {α : Type} (z : α) {l : List α} {i : Int} (h0 : 0 ≤ i) (h : i < (l.length : Int)) : l.drop i.toNat = l.getD i.toNat z :: l.drop (i + 1).toNat := by
  have h1 : i.toNat < l.length := by omega
  have h2 : (i + 1).toNat = i.toNat + 1 := by omega
  have h3 := getD_rd z h0 h
  rw [h2, List.drop_eq_getElem_cons h1]
  rw [List.getElem?_eq_getElem h1] at h3
  rw [Option.some.inj h3]
theorem getD_mem {α : Type} (z : α) {l : List α} {i : Int} (h0 : 0 ≤ i) (h : i < (l.length : Int)) : l.getD i.toNat z ∈ l := List.mem_of_getElem? (getD_rd z h0 h)
theorem marks_succ (a : Int) (n : Nat) : marks a (n + 1) = a :: marks (a + 1) n := by
  simp only [marks, List.range_succ_eq_map, List.map_cons, List.map_map]
  congr 1
  · simp
  · apply List.map_congr_left
    intro j _
    simp only [Function.comp]
    omega
theorem take_set_next (x : List Int) (n : Nat) (a : Int) (h : n < x.length) : (x.set n a).take (n + 1) = x.take n ++ [a] := by
  have e : (x.set n a).take n = x.take n := by
    apply List.ext_getElem?
    intro j
    simp only [List.getElem?_take]
    split
    · rw [List.getElem?_set_ne (by omega)]
    · rfl
  rw [List.take_succ_eq_append_getElem (by simpa using h), e]
  simp
theorem toIntS_l (l : List Int) (hl : l.length ≤ 35184372088832) (d : Nat) : ∀ (k : Nat) (x : List Int) (i : Int), 0 ≤ i → x.length = l.length → i + (d : Int) = (l.length : Int) → (∀ j : Nat, (j : Int) < i → x[j]? = l[j]?) → d < k →
    laws_toIntS.l0 k l x i = some l := by
  induction d with
  | zero =>
    intro k x i h0 hx hi hj hk
    obtain ⟨k, rfl⟩ := succ_of hk
    simp only [laws_toIntS.l0]
    rw [if_neg (by omega)]
    congr 1
    apply List.ext_getElem?
    intro j
    by_cases h : (j : Int) < i
    · exact hj j h
    · rw [List.getElem?_eq_none (by omega), List.getElem?_eq_none (by omega)]
  | succ d ih =>
    intro k x i h0 hx hi hj hk
    obtain ⟨k, rfl⟩ := succ_of hk
    simp only [laws_toIntS.l0]
    rw [if_pos (by omega), if_pos h0, if_pos (by omega), w64 (by omega) (by omega)]
    refine ih k _ (i + 1) (by omega) (by simpa using hx) (by omega) (fun j h => ?_) (by omega)
    rw [List.getElem?_set]
    by_cases e : i.toNat = j
    · subst e
      rw [if_pos rfl, if_pos (by omega), rd_eq h0 (by omega)]
    · rw [if_neg e]
      exact hj j (by omega)
theorem toIntS_at (l : List Int) (hl : l.length ≤ 35184372088832) (k : Nat) (hk : l.length < k) : laws_toIntS.f k l = some l := by
  unfold laws_toIntS.f
  rw [if_pos (by omega), if_pos (by omega)]
  exact toIntS_l l hl l.length k _ 0 (by omega) (by simp) (by omega) (fun j h => by omega) hk
theorem eqIntS_l (a b : List Int) (hl : a.length = b.length) (hb : a.length ≤ 35184372088832) (d : Nat) : ∀ (k : Nat) (i : Int), 0 ≤ i → i + (d : Int) = (a.length : Int) → d < k →
    laws_eqIntS.l0 k a b i = some (decide (a.drop i.toNat = b.drop i.toNat)) := by
  induction d with
  | zero =>
    intro k i h0 hi hk
    obtain ⟨k, rfl⟩ := succ_of hk
    simp only [laws_eqIntS.l0]
    rw [if_neg (by omega), List.drop_eq_nil_of_le (by omega), List.drop_eq_nil_of_le (by omega)]
    simp
  | succ d ih =>
    intro k i h0 hi hk
    obtain ⟨k, rfl⟩ := succ_of hk
    simp only [laws_eqIntS.l0]
    rw [if_pos (by omega), if_pos h0, if_pos (by omega), w64 (by omega) (by omega), drop_rd h0 (by omega), drop_rd h0 (by omega), ih k (i + 1) (by omega) (by omega) (by omega)]
    by_cases e : rd a i = rd b i
    · rw [if_pos e]
      simp [e]
    · rw [if_neg e]
      simp [e]
theorem eqIntS_at (a b : List Int) (hb : a.length ≤ 35184372088832) (k : Nat) (hk : a.length < k) : laws_eqIntS.f k a b = some (decide (a = b)) := by
  unfold laws_eqIntS.f
  by_cases hl : a.length = b.length
  · rw [if_pos (by omega), eqIntS_l a b hl hb a.length k 0 (by omega) (by omega) hk]
    simp
  · rw [if_neg (by omega)]
    have : a ≠ b := fun e => hl (by rw [e])
    simp [this]
theorem eqIntS_same (a : List Int) (hb : a.length ≤ 35184372088832) (k : Nat) (hk : a.length < k) : laws_eqIntS.f k a a = some true := by
  rw [eqIntS_at a a hb k hk]
  simp
theorem markIntS_l (d : Nat) : ∀ (k : Nat) (x : List Int) (a i : Int), x.length ≤ 35184372088832 → 0 ≤ i → i + (d : Int) = (x.length : Int) → 0 ≤ a → a + (d : Int) ≤ 4611686018427387904 → d < k →
    laws_markIntS.l0 k x a i = some (a + (d : Int), x.take i.toNat ++ marks a d) := by
  induction d with
  | zero =>
    intro k x a i hx h0 hi ha hb hk
    obtain ⟨k, rfl⟩ := succ_of hk
    simp only [laws_markIntS.l0]
    rw [if_neg (by omega), List.take_of_length_le (by omega)]
    simp [marks]
  | succ d ih =>
    intro k x a i hx h0 hi ha hb hk
    obtain ⟨k, rfl⟩ := succ_of hk
    simp only [laws_markIntS.l0]
    rw [if_pos (by omega), if_pos h0, w64 (by omega) (by omega), w64 (by omega) (by omega)]
    rw [ih k _ (a + 1) (i + 1) (by simpa using hx) (by omega) (by rw [List.length_set]; omega) (by omega) (by omega) (by omega)]
    have h2 : (i + 1).toNat = i.toNat + 1 := by omega
    rw [h2, take_set_next x i.toNat a (by omega), marks_succ]
    simp
    omega
theorem markIntS_at (x : List Int) (a : Int) (k : Nat) (hx : x.length ≤ 35184372088832) (ha : 0 ≤ a) (hb : a + (x.length : Int) ≤ 4611686018427387904) (hk : x.length < k) :
    laws_markIntS.f k x a = some (a + (x.length : Int), marks a x.length) := by
  unfold laws_markIntS.f
  rw [markIntS_l x.length k x a 0 hx (by omega) (by omega) ha hb hk]
  simp
theorem heldIntS_l (d : Nat) : ∀ (k : Nat) (x : List Int) (a i : Int), x.length ≤ 35184372088832 → 0 ≤ i → i + (d : Int) = (x.length : Int) → 0 ≤ a → a + (d : Int) ≤ 4611686018427387904 → x.drop i.toNat = marks a d → d < k →
    laws_heldIntS.l0 k x a i = some (a + (d : Int)) := by
  induction d with
  | zero =>
    intro k x a i hx h0 hi ha hb hm hk
    obtain ⟨k, rfl⟩ := succ_of hk
    simp only [laws_heldIntS.l0]
    rw [if_neg (by omega)]
    simp
  | succ d ih =>
    intro k x a i hx h0 hi ha hb hm hk
    obtain ⟨k, rfl⟩ := succ_of hk
    simp only [laws_heldIntS.l0]
    rw [drop_rd h0 (by omega), marks_succ] at hm
    injection hm with h1 h2
    rw [if_pos (by omega), if_pos h0, if_pos h1, w64 (by omega) (by omega), w64 (by omega) (by omega)]
    rw [ih k x (a + 1) (i + 1) hx (by omega) (by omega) (by omega) (by omega) h2 (by omega)]
    congr 1
    omega
theorem heldIntS_at (a : Int) (n k : Nat) (hn : n ≤ 35184372088832) (ha : 0 ≤ a) (hb : a + (n : Int) ≤ 4611686018427387904) (hk : n < k) :
    laws_heldIntS.f k (marks a n) a = some (a + (n : Int)) := by
  unfold laws_heldIntS.f
  exact heldIntS_l n k (marks a n) a 0 (by rw [marks_len]; exact hn) (by omega) (by rw [marks_len]; omega) ha hb (by simp) hk
theorem l01In_eq (a b c : Int) : spec_l01In.f a b c = some (decide (b ≤ a ∧ a ≤ c)) := by
  unfold spec_l01In.f
  by_cases h : b ≤ a <;> simp [h]
theorem within_eq (a b c : Int) : impl_within.f a b c = some (decide (b ≤ a ∧ a ≤ c)) := by
  unfold impl_within.f
  by_cases h : b ≤ a <;> simp [h]
theorem packI_ok (a b c : Int) : ∃ r, impl_PackControl.f a b c = some r := by
  unfold impl_PackControl.f
  simp only [within_eq, Option.bind_some]
  split
  · split
    · split
      · exact ⟨_, rfl⟩
      · exact ⟨_, rfl⟩
    · exact ⟨_, rfl⟩
  · exact ⟨_, rfl⟩
theorem pack_eq (a b c : Int) : spec_PackControl.f a b c = impl_PackControl.f a b c := by
  unfold spec_PackControl.f impl_PackControl.f
  simp only [within_eq, l01In_eq]
theorem packI_le {a b c r : Int} (h : impl_PackControl.f a b c = some r) : r ≤ 100000 := by
  unfold impl_PackControl.f at h
  simp only [within_eq, Option.bind_some, decide_eq_true_eq] at h
  by_cases h1 : 0 ≤ a ∧ a ≤ 5
  · rw [if_pos h1] at h
    by_cases h2 : 0 ≤ b ∧ b ≤ 8
    · rw [if_pos h2] at h
      by_cases h3 : 0 ≤ c ∧ c ≤ 24
      · rw [if_pos h3] at h
        rw [w64 (x := 16 * c) (by omega) (by omega), w64 (x := b + 16 * c) (by omega) (by omega), w64 (x := 8 * (b + 16 * c)) (by omega) (by omega), w64 (by omega) (by omega)] at h
        have := Option.some.inj h
        omega
      · rw [if_neg h3] at h
        have := Option.some.inj h
        omega
    · rw [if_neg h2] at h
      have := Option.some.inj h
      omega
  · rw [if_neg h1] at h
    have := Option.some.inj h
    omega
theorem unpackI_ok (a : Int) : ∃ r, impl_UnpackControl.f a = some r := by
  unfold impl_UnpackControl.f
  split
  · exact ⟨_, rfl⟩
  · obtain ⟨r, h⟩ := packI_ok (Int.tmod a 8) (Int.tmod (wrap64 (Int.tdiv a 8)) 16) (wrap64 (Int.tdiv a 128))
    rw [h]
    simp only [Option.bind_some]
    split
    · exact ⟨_, rfl⟩
    · exact ⟨_, rfl⟩
theorem unpack_eq (a : Int) (k : Nat) (hk : 0 < k) : spec_UnpackControl.f k a = impl_UnpackControl.f a := by
  obtain ⟨k, rfl⟩ := succ_of hk
  unfold spec_UnpackControl.f impl_UnpackControl.f
  by_cases h : a < 0
  · rw [if_pos h, if_pos h]
    simp [spec_UnpackControl.j0]
  · rw [if_neg h, if_neg h]
    simp only [spec_UnpackControl.j0, decide_eq_true_eq, pack_eq]
    by_cases h2 : a > 100000
    · rw [if_pos h2]
      obtain ⟨r, e⟩ := packI_ok (Int.tmod a 8) (Int.tmod (wrap64 (Int.tdiv a 8)) 16) (wrap64 (Int.tdiv a 128))
      have := packI_le e
      rw [e]
      simp only [Option.bind_some]
      rw [if_neg (by omega)]
    · rw [if_neg h2]
theorem packI_ge {a b c r : Int} (h : impl_PackControl.f a b c = some r) : r = -1 ∨ (0 ≤ b ∧ b ≤ 8) := by
  unfold impl_PackControl.f at h
  simp only [within_eq, Option.bind_some, decide_eq_true_eq] at h
  by_cases h1 : 0 ≤ a ∧ a ≤ 5
  · rw [if_pos h1] at h
    by_cases h2 : 0 ≤ b ∧ b ≤ 8
    · exact .inr h2
    · rw [if_neg h2] at h
      exact .inl (Option.some.inj h).symm
  · rw [if_neg h1] at h
    exact .inl (Option.some.inj h).symm
theorem unpackI_in (a : Int) : ∃ s n t, impl_UnpackControl.f a = some (s, n, t) ∧ -1 ≤ n ∧ n ≤ 8 := by
  unfold impl_UnpackControl.f
  by_cases h0 : a < 0
  · rw [if_pos h0]
    exact ⟨_, _, _, rfl, by omega, by omega⟩
  · rw [if_neg h0]
    obtain ⟨r, h⟩ := packI_ok (Int.tmod a 8) (Int.tmod (wrap64 (Int.tdiv a 8)) 16) (wrap64 (Int.tdiv a 128))
    rw [h]
    simp only [Option.bind_some]
    by_cases e : r = a
    · rw [if_pos e]
      rcases packI_ge h with q | q
      · omega
      · exact ⟨_, _, _, rfl, by omega, by omega⟩
    · rw [if_neg e]
      exact ⟨_, _, _, rfl, by omega, by omega⟩
theorem recW_l (l : List Int) (hl : l.length = 49) (st n ph : Int) (hn : 1 ≤ n) (d : Nat) : ∀ (i : Int) (acc : List S47), i + 1 = (d : Int) → d ≤ 8 → acc.length + d ≤ 8 →
    ∃ r, r.length ≤ 9 ∧ ∀ k, d < k → spec_RecoveryWrites.l0 k l acc st n ph i = some r ∧ impl_RecoveryWrites.l0 k l st ph acc i = some r := by
  induction d with
  | zero =>
    intro i acc hi hd ha
    obtain ⟨q, eq⟩ := packI_ok st 0 ph
    refine ⟨acc ++ [⟨8, q⟩], by simp only [List.length_append, List.length_cons, List.length_nil]; omega, fun k hk => ?_⟩
    obtain ⟨k, rfl⟩ := succ_of hk
    simp only [spec_RecoveryWrites.l0, impl_RecoveryWrites.l0, pack_eq, eq, Option.bind_some]
    rw [if_neg (by omega), if_neg (by omega), if_pos (by omega), if_neg (by omega)]
    exact ⟨rfl, rfl⟩
  | succ d ih =>
    intro i acc hi hd ha
    have w1 : wrap64 (2 * i) = 2 * i := w64 (by omega) (by omega)
    have w2 : wrap64 (9 + 2 * i) = 9 + 2 * i := w64 (by omega) (by omega)
    have w3 : wrap64 (9 + 2 * i + 1) = 9 + 2 * i + 1 := w64 (by omega) (by omega)
    have w4 : wrap64 (i - 1) = i - 1 := w64 (by omega) (by omega)
    by_cases h : 0 ≤ rd l (9 + 2 * i) ∧ rd l (9 + 2 * i) ≤ 7
    · obtain ⟨r, hr, q⟩ := ih (i - 1) (acc ++ [⟨rd l (9 + 2 * i), rd l (9 + 2 * i + 1)⟩]) (by omega) (by omega) (by simp only [List.length_append, List.length_cons, List.length_nil]; omega)
      refine ⟨r, hr, fun k hk => ?_⟩
      obtain ⟨k, rfl⟩ := succ_of hk
      obtain ⟨q1, q2⟩ := q k (by omega)
      simp only [spec_RecoveryWrites.l0, impl_RecoveryWrites.l0, impl_isVar.f, l01In_eq, within_eq, Option.bind_some, w1, w2, w3, w4, q1, q2, decide_eq_true_eq]
      rw [if_pos (by omega), if_pos (by omega), if_pos (by omega), if_pos h, if_pos (by omega), if_pos (by omega), if_pos (by omega), if_pos (by omega)]
      exact ⟨rfl, rfl⟩
    · refine ⟨[], by simp, fun k hk => ?_⟩
      obtain ⟨k, rfl⟩ := succ_of hk
      simp only [spec_RecoveryWrites.l0, impl_RecoveryWrites.l0, impl_isVar.f, l01In_eq, within_eq, Option.bind_some, w1, w2, w3, w4, decide_eq_true_eq]
      rw [if_pos (by omega), if_pos (by omega), if_pos (by omega), if_neg h, if_pos (by omega), if_pos (by omega), if_pos (by omega), if_neg h]
      exact ⟨rfl, rfl⟩
theorem recW_at (l : List Int) : ∃ r, r.length ≤ 9 ∧ ∀ k, 12 < k → spec_RecoveryWrites.f k l = some r ∧ impl_RecoveryWrites.f k l = some r := by
  by_cases hl : l.length = 49
  · obtain ⟨s, n, t, e, h1, h2⟩ := unpackI_in (rd l 8)
    have key : ∀ k, 12 < k → spec_RecoveryWrites.f k l = spec_RecoveryWrites.l0 k l [] s n t (n - 1) ∧ impl_RecoveryWrites.f k l = (if n < 1 then some [] else impl_RecoveryWrites.l0 k l s t [] (n - 1)) := by
      intro k hk
      unfold spec_RecoveryWrites.f impl_RecoveryWrites.f
      simp only [Option.bind_some]
      rw [if_pos (by omega), if_pos (by omega), if_pos (by omega), if_pos (by omega), unpack_eq _ k (by omega), e]
      simp only [Option.bind_some]
      rw [w64 (x := n - 1) (by omega) (by omega)]
      exact ⟨rfl, rfl⟩
    by_cases hn : n < 1
    · refine ⟨[], by simp, fun k hk => ?_⟩
      obtain ⟨k1, k2⟩ := key k hk
      rw [k1, k2, if_pos hn]
      obtain ⟨k, rfl⟩ := succ_of hk
      simp only [spec_RecoveryWrites.l0]
      rw [if_neg (by omega), if_pos (by omega)]
      simp
    · obtain ⟨r, hr, q⟩ := recW_l l hl s n t (by omega) n.toNat (n - 1) [] (by omega) (by omega) (by simp only [List.length_nil]; omega)
      refine ⟨r, hr, fun k hk => ?_⟩
      obtain ⟨k1, k2⟩ := key k hk
      rw [k1, k2, if_neg hn]
      exact q k (by omega)
  · refine ⟨[], by simp, fun k hk => ?_⟩
    unfold spec_RecoveryWrites.f impl_RecoveryWrites.f
    simp only [Option.bind_some]
    rw [if_neg (by omega), if_neg (by omega)]
    exact ⟨rfl, rfl⟩
/-- A memory behind these writes. -/
def apW : List S47 → List Int → List Int
  | [], m => m
  | w :: t, m => apW t (if 0 ≤ w.f0 ∧ w.f0 ≤ (m.length : Int) - 1 then m.set w.f0.toNat w.f1 else m)
theorem apW_len : ∀ (l : List S47) (m : List Int), (apW l m).length = m.length
  | [], m => rfl
  | w :: t, m => by
    rw [apW, apW_len t]
    split
    · simp
    · rfl
theorem applyI_l (l : List S47) (hl : l.length ≤ 1048576) (d : Nat) : ∀ (k : Nat) (m : List Int) (i : Int), m.length ≤ 1048576 → 0 ≤ i → i + (d : Int) = (l.length : Int) → d < k →
    impl_ApplyWrites.l0 k m l (l.length : Int) i = some (apW (l.drop i.toNat) m) := by
  induction d with
  | zero =>
    intro k m i hm h0 hi hk
    obtain ⟨k, rfl⟩ := succ_of hk
    simp only [impl_ApplyWrites.l0]
    rw [if_neg (by omega), List.drop_eq_nil_of_le (by omega)]
    rfl
  | succ d ih =>
    intro k m i hm h0 hi hk
    obtain ⟨k, rfl⟩ := succ_of hk
    simp only [impl_ApplyWrites.l0, within_eq, Option.bind_some, decide_eq_true_eq]
    rw [if_pos (by omega), if_pos h0, if_pos (by omega), w64 (x := (m.length : Int) - 1) (by omega) (by omega), w64 (x := i + 1) (by omega) (by omega), drop_getD z47 h0 (by omega), apW]
    change (if 0 ≤ (rd_T47 l i).f0 ∧ (rd_T47 l i).f0 ≤ (m.length : Int) - 1 then _ else _) = some (apW _ (if 0 ≤ (rd_T47 l i).f0 ∧ (rd_T47 l i).f0 ≤ (m.length : Int) - 1 then m.set (rd_T47 l i).f0.toNat (rd_T47 l i).f1 else m))
    by_cases e : 0 ≤ (rd_T47 l i).f0 ∧ (rd_T47 l i).f0 ≤ (m.length : Int) - 1
    · rw [if_pos e, if_pos e, if_pos e.1, if_pos (by omega)]
      exact ih k _ (i + 1) (by simpa using hm) (by omega) (by omega) (by omega)
    · rw [if_neg e, if_neg e]
      exact ih k _ (i + 1) hm (by omega) (by omega) (by omega)
theorem applyI_at (l : List S47) (hl : l.length ≤ 1048576) (m : List Int) (hm : m.length ≤ 1048576) (k : Nat) (hk : l.length < k) :
    impl_ApplyWrites.f k m l (l.length : Int) = some (apW l m) := by
  unfold impl_ApplyWrites.f slices_Clone_int_int.f impl_Clamp.f mn mx
  rw [if_pos (by omega), if_neg (by omega)]
  simp only [Option.bind_some]
  have e1 : (if (l.length : Int) < (if (l.length : Int) < 0 then 0 else (l.length : Int)) then (l.length : Int) else (if (l.length : Int) < 0 then 0 else (l.length : Int))) = (l.length : Int) := by
    rw [if_neg (by omega), if_neg (by omega)]
  rw [e1, if_pos (by omega), if_pos (by omega), Int.toNat_natCast, List.take_length, applyI_l l hl l.length k m 0 hm (by omega) (by omega) hk]
  simp
theorem applyS_l (x0 : List Int) (l : List S47) (hl : l.length ≤ 1048576) (d : Nat) : ∀ (k : Nat) (m : List Int) (i : Int), m.length = x0.length → m.length ≤ 1048576 → 0 ≤ i → i + (d : Int) = (l.length : Int) → 2 * d + 1 < k →
    spec_ApplyWrites.l0 k x0 l (l.length : Int) m i = some (apW (l.drop i.toNat) m) := by
  induction d with
  | zero =>
    intro k m i he hm h0 hi hk
    obtain ⟨k, rfl⟩ := succ_of (d := 1) (by omega : 1 < k)
    obtain ⟨k, rfl⟩ := succ_of (d := 0) (by omega : 0 < k)
    simp only [spec_ApplyWrites.l0, spec_ApplyWrites.j1]
    rw [if_neg (by omega), List.drop_eq_nil_of_le (by omega)]
    simp [apW]
  | succ d ih =>
    intro k m i he hm h0 hi hk
    obtain ⟨k, rfl⟩ := succ_of (d := 1) (by omega : 1 < k)
    obtain ⟨k, rfl⟩ := succ_of (d := 0) (by omega : 0 < k)
    simp only [spec_ApplyWrites.l0, spec_ApplyWrites.j1, l01In_eq, Option.bind_some, decide_eq_true_eq]
    rw [if_pos (by omega), if_pos (by omega), if_pos h0, if_pos (by omega), w64 (x := (x0.length : Int) - 1) (by omega) (by omega), w64 (x := i + 1) (by omega) (by omega), drop_getD z47 h0 (by omega), apW, ← he]
    change (if 0 ≤ (rd_T47 l i).f0 ∧ (rd_T47 l i).f0 ≤ (m.length : Int) - 1 then _ else _) = some (apW _ (if 0 ≤ (rd_T47 l i).f0 ∧ (rd_T47 l i).f0 ≤ (m.length : Int) - 1 then m.set (rd_T47 l i).f0.toNat (rd_T47 l i).f1 else m))
    by_cases e : 0 ≤ (rd_T47 l i).f0 ∧ (rd_T47 l i).f0 ≤ (m.length : Int) - 1
    · rw [if_pos e, if_pos e, if_pos e.1, if_pos (by omega)]
      exact ih k _ (i + 1) (by simpa using he) (by simpa using hm) (by omega) (by omega) (by omega)
    · rw [if_neg e, if_neg e]
      exact ih k _ (i + 1) he hm (by omega) (by omega) (by omega)
theorem applyS_at (l : List S47) (hl : l.length ≤ 1048576) (m : List Int) (hm : m.length ≤ 1048576) (k : Nat) (hk : 2 * l.length + 1 < k) :
    spec_ApplyWrites.f k m l (l.length : Int) = some (apW l m) := by
  unfold spec_ApplyWrites.f
  simp only [Option.bind_some, List.nil_append, List.length_nil]
  rw [if_pos (by omega), applyS_l m l hl l.length k m 0 rfl hm (by omega) (by omega) hk]
  simp
theorem FnExactRecovered : laws_FnExactRecovered.Pure := by
  intro l _ _ _
  refine ⟨1048600, ?_⟩
  unfold laws_FnExactRecovered.f
  by_cases hl : (l.length : Int) > 1048576
  · rw [if_pos hl]
  rw [if_neg hl]
  obtain ⟨r, hr, q⟩ := recW_at l
  have rS : ∀ k, 100 < k → spec_Recovered.f k l = some (apW r l) := by
    intro k hk
    unfold spec_Recovered.f
    rw [(q k (by omega)).1]
    simp only [Option.bind_some]
    rw [applyS_at r (by omega) l (by omega) k (by omega)]
    rfl
  have rI : ∀ k, 100 < k → impl_Recovered.f k l = some (apW r l) := by
    intro k hk
    unfold impl_Recovered.f
    rw [(q k (by omega)).2]
    simp only [Option.bind_some]
    rw [applyI_at r (by omega) l (by omega) k (by omega)]
    rfl
  have hlen := apW_len r l
  generalize apW r l = v at *
  have he := eqIntS_same v (by omega) 1048600 (by omega)
  have he2 := eqIntS_same v (by omega) 1048599 (by omega)
  have hk := markIntS_at l 1 1048600 (by omega) (by omega) (by omega) (by omega)
  have hk2 := markIntS_at v 1 1048599 (by omega) (by omega) (by omega) (by omega)
  have hh := heldIntS_at 1 v.length 1048599 (by omega) (by omega) (by omega) (by omega)
  have n1 : ¬ (1 + (l.length : Int) < 0) := by omega
  have n2 : ¬ (1 + (v.length : Int) < 0) := by omega
  simp only [toIntS_at l (by omega) 1048600 (by omega), toIntS_at l (by omega) 1048599 (by omega), rS 1048600 (by omega), rI 1048600 (by omega), rI 1048599 (by omega), he, he2, eqIntS_same l (by omega) 1048600 (by omega), hk, hk2, hh, n1, n2, Option.bind_some, if_true, if_false, Bool.not_true, laws_FnExactRecovered.j0, Bool.false_eq_true]

end Go.Proofs.Ytchbedkcfphlfaa.Pure
