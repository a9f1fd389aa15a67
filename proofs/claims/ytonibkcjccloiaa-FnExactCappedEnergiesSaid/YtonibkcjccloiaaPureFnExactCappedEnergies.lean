/- The law FnExactCappedEnergies: for every input the function answers true. No condition. -/
import Derived.Test.YtonibkcjccloiaaPFnExactCappedEnergiesx2
import Derived.Test.YtonibkcjccloiaaWSized
namespace Go.Proofs.Ytonibkcjccloiaa.Pure
open Go.RowKit Go.Proofs.Ytonibkcjccloiaa.PFnExactCappedEnergies Go.Proofs.YtonibkcjccloiaaW.PrintWords Go.Proofs.YtonibkcjccloiaaW.PrintLast

theorem w64 {x : Int} (h : -9223372036854775808 ≤ x) (h2 : x ≤ 9223372036854775807) : wrap64 x = x := by
  unfold wrap64
  omega
theorem wf_i64 {x : Int} (h : (Lit.int .i64 x).wf = true) : -9223372036854775808 ≤ x ∧ x ≤ 9223372036854775807 := by
  simp only [Lit.wf, IntKind.min, IntKind.max, IntKind.signed, IntKind.bits, Bool.and_eq_true, decide_eq_true_eq, if_true] at h
  omega
theorem succ_of {k d : Nat} (h : d < k) : ∃ m, k = m + 1 := ⟨k - 1, by omega⟩
theorem rd_eq {l : List Int} {i : Int} (h0 : 0 ≤ i) (h : i < (l.length : Int)) : l[i.toNat]? = some (rd l i) := by
  unfold rd
  rw [List.getD_eq_getElem?_getD, List.getElem?_eq_getElem (by omega)]
  rfl
theorem drop_rd {l : List Int} {i : Int} (h0 : 0 ≤ i) (h : i < (l.length : Int)) : l.drop i.toNat = rd l i :: l.drop (i + 1).toNat := by
  have h1 : i.toNat < l.length := by omega
  have h2 : (i + 1).toNat = i.toNat + 1 := by omega
  have h3 := rd_eq h0 h
  rw [h2, List.drop_eq_getElem_cons h1]
  rw [List.getElem?_eq_getElem h1] at h3
  rw [Option.some.inj h3]
/-- The numbers a, a + 1, .. : n of them. -/
def marks (a : Int) (n : Nat) : List Int := (List.range n).map fun j : Nat => a + (j : Int)
theorem marks_len (a : Int) (n : Nat) : (marks a n).length = n := by simp [marks]
theorem marks_get (a : Int) (n i : Nat) (h : i < n) : (marks a n)[i]? = some (a + (i : Int)) := by simp [marks, h]
theorem marks_succ (a : Int) (n : Nat) : marks a (n + 1) = a :: marks (a + 1) n := by
  simp only [marks, List.range_succ_eq_map, List.map_cons, List.map_map]
  congr 1
  · simp
  · apply List.map_congr_left
    intro j _
    simp only [Function.comp]
    omega
theorem take_set_next (x : List Int) (n : Nat) (a : Int) (h : n < x.length) : (x.set n a).take (n + 1) = x.take n ++ [a] := by
  have e : (x.set n a).take n = x.take n := by
    apply List.ext_getElem?
    intro j
    simp only [List.getElem?_take]
    split
    · rw [List.getElem?_set_ne (by omega)]
    · rfl
  rw [List.take_succ_eq_append_getElem (by simpa using h), e]
  simp
theorem toIntS_l (l : List Int) (hl : l.length ≤ 35184372088832) (d : Nat) : ∀ (k : Nat) (x : List Int) (i : Int), 0 ≤ i → x.length = l.length → i + (d : Int) = (l.length : Int) → (∀ j : Nat, (j : Int) < i → x[j]? = l[j]?) → d < k →
    laws_toIntS.l0 k l x i = some l := by
  induction d with
  | zero =>
    intro k x i h0 hx hi hj hk
    obtain ⟨k, rfl⟩ := succ_of hk
    simp only [laws_toIntS.l0]
    rw [if_neg (by omega)]
    congr 1
    apply List.ext_getElem?
    intro j
    by_cases h : (j : Int) < i
    · exact hj j h
    · rw [List.getElem?_eq_none (by omega), List.getElem?_eq_none (by omega)]
  | succ d ih =>
    intro k x i h0 hx hi hj hk
    obtain ⟨k, rfl⟩ := succ_of hk
    simp only [laws_toIntS.l0]
    rw [if_pos (by omega), if_pos h0, if_pos (by omega), w64 (by omega) (by omega)]
    refine ih k _ (i + 1) (by omega) (by simpa using hx) (by omega) (fun j h => ?_) (by omega)
    rw [List.getElem?_set]
    by_cases e : i.toNat = j
    · subst e
      rw [if_pos rfl, if_pos (by omega), rd_eq h0 (by omega)]
    · rw [if_neg e]
      exact hj j (by omega)
theorem toIntS_at (l : List Int) (hl : l.length ≤ 35184372088832) (k : Nat) (hk : l.length < k) : laws_toIntS.f k l = some l := by
  unfold laws_toIntS.f
  rw [if_pos (by omega), if_pos (by omega)]
  exact toIntS_l l hl l.length k _ 0 (by omega) (by simp) (by omega) (fun j h => by omega) hk
theorem eqIntS_l (a b : List Int) (hl : a.length = b.length) (hb : a.length ≤ 35184372088832) (d : Nat) : ∀ (k : Nat) (i : Int), 0 ≤ i → i + (d : Int) = (a.length : Int) → d < k →
    laws_eqIntS.l0 k a b i = some (decide (a.drop i.toNat = b.drop i.toNat)) := by
  induction d with
  | zero =>
    intro k i h0 hi hk
    obtain ⟨k, rfl⟩ := succ_of hk
    simp only [laws_eqIntS.l0]
    rw [if_neg (by omega), List.drop_eq_nil_of_le (by omega), List.drop_eq_nil_of_le (by omega)]
    simp
  | succ d ih =>
    intro k i h0 hi hk
    obtain ⟨k, rfl⟩ := succ_of hk
    simp only [laws_eqIntS.l0]
    rw [if_pos (by omega), if_pos h0, if_pos (by omega), w64 (by omega) (by omega), drop_rd h0 (by omega), drop_rd h0 (by omega), ih k (i + 1) (by omega) (by omega) (by omega)]
    by_cases e : rd a i = rd b i
    · rw [if_pos e]
      simp [e]
    · rw [if_neg e]
      simp [e]
theorem eqIntS_at (a b : List Int) (hb : a.length ≤ 35184372088832) (k : Nat) (hk : a.length < k) : laws_eqIntS.f k a b = some (decide (a = b)) := by
  unfold laws_eqIntS.f
  by_cases hl : a.length = b.length
  · rw [if_pos (by omega), eqIntS_l a b hl hb a.length k 0 (by omega) (by omega) hk]
    simp
  · rw [if_neg (by omega)]
    have : a ≠ b := fun e => hl (by rw [e])
    simp [this]
theorem eqIntS_same (a : List Int) (hb : a.length ≤ 35184372088832) (k : Nat) (hk : a.length < k) : laws_eqIntS.f k a a = some true := by
  rw [eqIntS_at a a hb k hk]
  simp
theorem markIntS_l (d : Nat) : ∀ (k : Nat) (x : List Int) (a i : Int), x.length ≤ 35184372088832 → 0 ≤ i → i + (d : Int) = (x.length : Int) → 0 ≤ a → a + (d : Int) ≤ 4611686018427387904 → d < k →
    laws_markIntS.l0 k x a i = some (a + (d : Int), x.take i.toNat ++ marks a d) := by
  induction d with
  | zero =>
    intro k x a i hx h0 hi ha hb hk
    obtain ⟨k, rfl⟩ := succ_of hk
    simp only [laws_markIntS.l0]
    rw [if_neg (by omega), List.take_of_length_le (by omega)]
    simp [marks]
  | succ d ih =>
    intro k x a i hx h0 hi ha hb hk
    obtain ⟨k, rfl⟩ := succ_of hk
    simp only [laws_markIntS.l0]
    rw [if_pos (by omega), if_pos h0, w64 (by omega) (by omega), w64 (by omega) (by omega)]
    rw [ih k _ (a + 1) (i + 1) (by simpa using hx) (by omega) (by rw [List.length_set]; omega) (by omega) (by omega) (by omega)]
    have h2 : (i + 1).toNat = i.toNat + 1 := by omega
    rw [h2, take_set_next x i.toNat a (by omega), marks_succ]
    simp
    omega
theorem markIntS_at (x : List Int) (a : Int) (k : Nat) (hx : x.length ≤ 35184372088832) (ha : 0 ≤ a) (hb : a + (x.length : Int) ≤ 4611686018427387904) (hk : x.length < k) :
    laws_markIntS.f k x a = some (a + (x.length : Int), marks a x.length) := by
  unfold laws_markIntS.f
  rw [markIntS_l x.length k x a 0 hx (by omega) (by omega) ha hb hk]
  simp
theorem heldIntS_l (d : Nat) : ∀ (k : Nat) (x : List Int) (a i : Int), x.length ≤ 35184372088832 → 0 ≤ i → i + (d : Int) = (x.length : Int) → 0 ≤ a → a + (d : Int) ≤ 4611686018427387904 → x.drop i.toNat = marks a d → d < k →
    laws_heldIntS.l0 k x a i = some (a + (d : Int)) := by
  induction d with
  | zero =>
    intro k x a i hx h0 hi ha hb hm hk
    obtain ⟨k, rfl⟩ := succ_of hk
    simp only [laws_heldIntS.l0]
    rw [if_neg (by omega)]
    simp
  | succ d ih =>
    intro k x a i hx h0 hi ha hb hm hk
    obtain ⟨k, rfl⟩ := succ_of hk
    simp only [laws_heldIntS.l0]
    rw [drop_rd h0 (by omega), marks_succ] at hm
    injection hm with h1 h2
    rw [if_pos (by omega), if_pos h0, if_pos h1, w64 (by omega) (by omega), w64 (by omega) (by omega)]
    rw [ih k x (a + 1) (i + 1) hx (by omega) (by omega) (by omega) (by omega) h2 (by omega)]
    congr 1
    omega
theorem heldIntS_at (a : Int) (n k : Nat) (hn : n ≤ 35184372088832) (ha : 0 ≤ a) (hb : a + (n : Int) ≤ 4611686018427387904) (hk : n < k) :
    laws_heldIntS.f k (marks a n) a = some (a + (n : Int)) := by
  unfold laws_heldIntS.f
  exact heldIntS_l n k (marks a n) a 0 (by rw [marks_len]; exact hn) (by omega) (by rw [marks_len]; omega) ha hb (by simp) hk
theorem cappedI_l (y : Int) (l : List Int) (hl : l.length ≤ 1048576) (d : Nat) : ∀ (k : Nat) (acc : List Int) (i : Int), 0 ≤ i → i + (d : Int) = (l.length : Int) → acc.length + d ≤ 2097152 → d < k →
    impl_CappedEnergies.l0 k y acc l (l.length : Int) i = some (acc ++ (l.drop i.toNat).map fun x => mn x y) := by
  induction d with
  | zero =>
    intro k acc i h0 hi hb hk
    obtain ⟨k, rfl⟩ := succ_of hk
    simp only [impl_CappedEnergies.l0]
    rw [if_neg (by omega), List.drop_eq_nil_of_le (by omega)]
    simp
  | succ d ih =>
    intro k acc i h0 hi hb hk
    obtain ⟨k, rfl⟩ := succ_of hk
    simp only [impl_CappedEnergies.l0]
    rw [if_pos (by omega), if_pos h0, if_pos (by omega), if_pos (by omega), w64 (by omega) (by omega)]
    rw [ih k _ (i + 1) (by omega) (by omega) (by simp; omega) (by omega), drop_rd h0 (by omega)]
    simp
theorem cappedI_at (l : List Int) (y : Int) (hl : l.length ≤ 1048576) (k : Nat) (hk : l.length < k) : impl_CappedEnergies.f k l y = some (l.map fun x => mn x y) := by
  unfold impl_CappedEnergies.f
  rw [cappedI_l y l hl l.length k [] 0 (by omega) (by omega) (by simp; omega) hk]
  simp
theorem cappedS_l (y : Int) (l : List Int) (hl : l.length ≤ 1048576) (d : Nat) : ∀ (k : Nat) (acc : List Int) (i : Int), 0 ≤ i → i + (d : Int) = (l.length : Int) → acc.length + d ≤ 2097152 → d < k →
    spec_CappedEnergies.l0 k l y acc i = some (acc ++ (l.drop i.toNat).map fun x => mn x y) := by
  induction d with
  | zero =>
    intro k acc i h0 hi hb hk
    obtain ⟨k, rfl⟩ := succ_of hk
    simp only [spec_CappedEnergies.l0]
    rw [if_neg (by omega), List.drop_eq_nil_of_le (by omega)]
    simp
  | succ d ih =>
    intro k acc i h0 hi hb hk
    obtain ⟨k, rfl⟩ := succ_of hk
    simp only [spec_CappedEnergies.l0]
    rw [if_pos (by omega), if_pos h0, if_pos (by omega), w64 (by omega) (by omega)]
    rw [ih k _ (i + 1) (by omega) (by omega) (by simp; omega) (by omega), drop_rd h0 (by omega)]
    simp
theorem cappedS_at (l : List Int) (y : Int) (hl : l.length ≤ 1048576) (k : Nat) (hk : l.length < k) : spec_CappedEnergies.f k l y = some (l.map fun x => mn x y) := by
  unfold spec_CappedEnergies.f
  rw [cappedS_l y l hl l.length k [] 0 (by omega) (by omega) (by simp; omega) hk]
  simp
theorem FnExactCappedEnergies : laws_FnExactCappedEnergies.Pure := by
  intro l y _ _ _ _
  refine ⟨1048578, ?_⟩
  unfold laws_FnExactCappedEnergies.f
  by_cases hl : (l.length : Int) > 1048576
  · rw [if_pos hl]
  rw [if_neg hl]
  have hm : (l.map fun x => mn x y).length = l.length := by simp
  have ht := toIntS_at l (by omega) 1048578 (by omega)
  have ht' := toIntS_at l (by omega) 1048577 (by omega)
  have hi := cappedI_at l y (by omega) 1048578 (by omega)
  have hi' := cappedI_at l y (by omega) 1048577 (by omega)
  have hs := cappedS_at l y (by omega) 1048578 (by omega)
  generalize (l.map fun x => mn x y) = r at *
  have he := eqIntS_same r (by omega) 1048578 (by omega)
  have he' := eqIntS_same r (by omega) 1048577 (by omega)
  have hel := eqIntS_same l (by omega) 1048578 (by omega)
  have hk := markIntS_at l 1 1048578 (by omega) (by omega) (by omega) (by omega)
  have hk' := markIntS_at r 1 1048577 (by omega) (by omega) (by omega) (by omega)
  have hh := heldIntS_at 1 r.length 1048577 (by omega) (by omega) (by omega) (by omega)
  simp only [ht, hs, hi, he, hel, hk, Option.bind_some, if_true]
  rw [if_neg (by omega)]
  simp only [Bool.not_true, laws_FnExactCappedEnergies.j0, hk', hh, Option.bind_some, ht', hi', he', if_true]
  rw [if_neg (by simp), if_neg (by omega), if_neg (by omega)]

end Go.Proofs.Ytonibkcjccloiaa.Pure

namespace Go.Proofs.Ytonibkcjccloiaa.PrintWords
theorem sized_ints : type_of% @Go.Proofs.YtonibkcjccloiaaW.PrintWords.sized_ints := @Go.Proofs.YtonibkcjccloiaaW.PrintWords.sized_ints
end Go.Proofs.Ytonibkcjccloiaa.PrintWords
