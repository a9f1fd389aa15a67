/- The law FnExactIsClean: for every input the function answers true. No condition. -/
import Derived.Test.YtonibkcjccloiaaPFnExactIsCleanx1
import Derived.Test.YtonibkcjccloiaaWSized
namespace Go.Proofs.Ytonibkcjccloiaa.Pure
open Go.RowKit Go.Proofs.Ytonibkcjccloiaa.PFnExactIsClean Go.Proofs.YtonibkcjccloiaaW.PrintWords Go.Proofs.YtonibkcjccloiaaW.PrintLast

theorem w64 {x : Int} (h : -9223372036854775808 ≤ x) (h2 : x ≤ 9223372036854775807) : wrap64 x = x := by
  unfold wrap64
  omega
theorem wf_i64 {x : Int} (h : (Lit.int .i64 x).wf = true) : -9223372036854775808 ≤ x ∧ x ≤ 9223372036854775807 := by
  simp only [Lit.wf, IntKind.min, IntKind.max, IntKind.signed, IntKind.bits, Bool.and_eq_true, decide_eq_true_eq, if_true] at h
  omega
theorem succ_of {k d : Nat} (h : d < k) : ∃ m, k = m + 1 := ⟨k - 1, by omega⟩
theorem rd_eq {l : List Int} {i : Int} (h0 : 0 ≤ i) (h : i < (l.length : Int)) : l[i.toNat]? = some (rd l i) := by
  unfold rd
  rw [List.getD_eq_getElem?_getD, List.getElem?_eq_getElem (by omega)]
  rfl
theorem drop_rd {l : List Int} {i : Int} (h0 : 0 ≤ i) (h : i < (l.length : Int)) : l.drop i.toNat = rd l i :: l.drop (i + 1).toNat := by
  have h1 : i.toNat < l.length := by omega
  have h2 : (i + 1).toNat = i.toNat + 1 := by omega
  have h3 := rd_eq h0 h
  rw [h2, List.drop_eq_getElem_cons h1]
  rw [List.getElem?_eq_getElem h1] at h3
  rw [Option.some.inj h3]
/-- The numbers a, a + 1, .. : n of them. -/
def marks (a : Int) (n : Nat) : List Int := (List.range n).map fun j : Nat => a + (j : Int)
theorem marks_len (a : Int) (n : Nat) : (marks a n).length = n := by simp [marks]
theorem marks_get (a : Int) (n i : Nat) (h : i < n) : (marks a n)[i]? = some (a + (i : Int)) := by simp [marks, h]
theorem toIntS_l (l : List Int) (hl : l.length ≤ 35184372088832) (d : Nat) : ∀ (k : Nat) (x : List Int) (i : Int), 0 ≤ i → x.length = l.length → i + (d : Int) = (l.length : Int) → (∀ j : Nat, (j : Int) < i → x[j]? = l[j]?) → d < k →
    laws_toIntS.l0 k l x i = some l := by
  induction d with
  | zero =>
    intro k x i h0 hx hi hj hk
    obtain ⟨k, rfl⟩ := succ_of hk
    simp only [laws_toIntS.l0]
    rw [if_neg (by omega)]
    congr 1
    apply List.ext_getElem?
    intro j
    by_cases h : (j : Int) < i
    · exact hj j h
    · rw [List.getElem?_eq_none (by omega), List.getElem?_eq_none (by omega)]
  | succ d ih =>
    intro k x i h0 hx hi hj hk
    obtain ⟨k, rfl⟩ := succ_of hk
    simp only [laws_toIntS.l0]
    rw [if_pos (by omega), if_pos h0, if_pos (by omega), w64 (by omega) (by omega)]
    refine ih k _ (i + 1) (by omega) (by simpa using hx) (by omega) (fun j h => ?_) (by omega)
    rw [List.getElem?_set]
    by_cases e : i.toNat = j
    · subst e
      rw [if_pos rfl, if_pos (by omega), rd_eq h0 (by omega)]
    · rw [if_neg e]
      exact hj j (by omega)
theorem toIntS_at (l : List Int) (hl : l.length ≤ 35184372088832) (k : Nat) (hk : l.length < k) : laws_toIntS.f k l = some l := by
  unfold laws_toIntS.f
  rw [if_pos (by omega), if_pos (by omega)]
  exact toIntS_l l hl l.length k _ 0 (by omega) (by simp) (by omega) (fun j h => by omega) hk
theorem eqIntS_l (a b : List Int) (hl : a.length = b.length) (hb : a.length ≤ 35184372088832) (d : Nat) : ∀ (k : Nat) (i : Int), 0 ≤ i → i + (d : Int) = (a.length : Int) → d < k →
    laws_eqIntS.l0 k a b i = some (decide (a.drop i.toNat = b.drop i.toNat)) := by
  induction d with
  | zero =>
    intro k i h0 hi hk
    obtain ⟨k, rfl⟩ := succ_of hk
    simp only [laws_eqIntS.l0]
    rw [if_neg (by omega), List.drop_eq_nil_of_le (by omega), List.drop_eq_nil_of_le (by omega)]
    simp
  | succ d ih =>
    intro k i h0 hi hk
    obtain ⟨k, rfl⟩ := succ_of hk
    simp only [laws_eqIntS.l0]
    rw [if_pos (by omega), if_pos h0, if_pos (by omega), w64 (by omega) (by omega), drop_rd h0 (by omega), drop_rd h0 (by omega), ih k (i + 1) (by omega) (by omega) (by omega)]
    by_cases e : rd a i = rd b i
    · rw [if_pos e]
      simp [e]
    · rw [if_neg e]
      simp [e]
theorem eqIntS_at (a b : List Int) (hb : a.length ≤ 35184372088832) (k : Nat) (hk : a.length < k) : laws_eqIntS.f k a b = some (decide (a = b)) := by
  unfold laws_eqIntS.f
  by_cases hl : a.length = b.length
  · rw [if_pos (by omega), eqIntS_l a b hl hb a.length k 0 (by omega) (by omega) hk]
    simp
  · rw [if_neg (by omega)]
    have : a ≠ b := fun e => hl (by rw [e])
    simp [this]
theorem eqIntS_same (a : List Int) (hb : a.length ≤ 35184372088832) (k : Nat) (hk : a.length < k) : laws_eqIntS.f k a a = some true := by
  rw [eqIntS_at a a hb k hk]
  simp
theorem l01In_eq (a b c : Int) : spec_l01In.f a b c = some (decide (b ≤ a ∧ a ≤ c)) := by
  unfold spec_l01In.f
  by_cases h : b ≤ a <;> simp [h]
theorem within_eq (a b c : Int) : impl_within.f a b c = some (decide (b ≤ a ∧ a ≤ c)) := by
  unfold impl_within.f
  by_cases h : b ≤ a <;> simp [h]
theorem packI_ok (a b c : Int) : ∃ r, impl_PackControl.f a b c = some r := by
  unfold impl_PackControl.f
  simp only [within_eq, Option.bind_some]
  split
  · split
    · split
      · exact ⟨_, rfl⟩
      · exact ⟨_, rfl⟩
    · exact ⟨_, rfl⟩
  · exact ⟨_, rfl⟩
theorem pack_eq (a b c : Int) : spec_PackControl.f a b c = impl_PackControl.f a b c := by
  unfold spec_PackControl.f impl_PackControl.f
  simp only [within_eq, l01In_eq]
theorem packI_le {a b c r : Int} (h : impl_PackControl.f a b c = some r) : r ≤ 100000 := by
  unfold impl_PackControl.f at h
  simp only [within_eq, Option.bind_some, decide_eq_true_eq] at h
  by_cases h1 : 0 ≤ a ∧ a ≤ 5
  · rw [if_pos h1] at h
    by_cases h2 : 0 ≤ b ∧ b ≤ 8
    · rw [if_pos h2] at h
      by_cases h3 : 0 ≤ c ∧ c ≤ 24
      · rw [if_pos h3] at h
        rw [w64 (x := 16 * c) (by omega) (by omega), w64 (x := b + 16 * c) (by omega) (by omega), w64 (x := 8 * (b + 16 * c)) (by omega) (by omega), w64 (by omega) (by omega)] at h
        have := Option.some.inj h
        omega
      · rw [if_neg h3] at h
        have := Option.some.inj h
        omega
    · rw [if_neg h2] at h
      have := Option.some.inj h
      omega
  · rw [if_neg h1] at h
    have := Option.some.inj h
    omega
theorem unpackI_ok (a : Int) : ∃ r, impl_UnpackControl.f a = some r := by
  unfold impl_UnpackControl.f
  split
  · exact ⟨_, rfl⟩
  · obtain ⟨r, h⟩ := packI_ok (Int.tmod a 8) (Int.tmod (wrap64 (Int.tdiv a 8)) 16) (wrap64 (Int.tdiv a 128))
    rw [h]
    simp only [Option.bind_some]
    split
    · exact ⟨_, rfl⟩
    · exact ⟨_, rfl⟩
theorem unpack_eq (a : Int) (k : Nat) (hk : 0 < k) : spec_UnpackControl.f k a = impl_UnpackControl.f a := by
  obtain ⟨k, rfl⟩ := succ_of hk
  unfold spec_UnpackControl.f impl_UnpackControl.f
  by_cases h : a < 0
  · rw [if_pos h, if_pos h]
    simp [spec_UnpackControl.j0]
  · rw [if_neg h, if_neg h]
    simp only [spec_UnpackControl.j0, decide_eq_true_eq, pack_eq]
    by_cases h2 : a > 100000
    · rw [if_pos h2]
      obtain ⟨r, e⟩ := packI_ok (Int.tmod a 8) (Int.tmod (wrap64 (Int.tdiv a 8)) 16) (wrap64 (Int.tdiv a 128))
      have := packI_le e
      rw [e]
      simp only [Option.bind_some]
      rw [if_neg (by omega)]
    · rw [if_neg h2]
theorem FnExactIsClean : laws_FnExactIsClean.Pure := by
  intro l _ _ _
  refine ⟨1048578, ?_⟩
  unfold laws_FnExactIsClean.f
  by_cases hl : (l.length : Int) > 1048576
  · rw [if_pos hl]
  rw [if_neg hl]
  have ht := toIntS_at l (by omega) 1048578 (by omega)
  have he := eqIntS_same l (by omega) 1048578 (by omega)
  have hc : spec_IsClean.f 1048578 l = impl_IsClean.f l := by
    unfold spec_IsClean.f impl_IsClean.f
    rw [unpack_eq _ 1048578 (by omega)]
  have hr : ∃ r, impl_IsClean.f l = some r := by
    unfold impl_IsClean.f
    by_cases h : (l.length : Int) = 49
    · rw [if_pos h, if_pos (by omega)]
      obtain ⟨r, e⟩ := unpackI_ok (rd l 8)
      rw [e]
      exact ⟨_, rfl⟩
    · rw [if_neg h]
      exact ⟨_, rfl⟩
  obtain ⟨r, hr⟩ := hr
  simp only [ht, hc, hr, Option.bind_some, bne_self_eq_false, Bool.false_eq_true, if_false, he, if_true]

end Go.Proofs.Ytonibkcjccloiaa.Pure

namespace Go.Proofs.Ytonibkcjccloiaa.PrintWords
theorem sized_ints : type_of% @Go.Proofs.YtonibkcjccloiaaW.PrintWords.sized_ints := @Go.Proofs.YtonibkcjccloiaaW.PrintWords.sized_ints
end Go.Proofs.Ytonibkcjccloiaa.PrintWords
