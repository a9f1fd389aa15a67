/- The law FnExactReadSensor: for every input the function answers true. No condition. -/
import Derived.Test.YtonibkcjccloiaaPFnExactReadSensorx2
import Derived.Test.YtonibkcjccloiaaWSized
namespace Go.Proofs.Ytonibkcjccloiaa.Pure
open Go.RowKit Go.Proofs.Ytonibkcjccloiaa.PFnExactReadSensor Go.Proofs.YtonibkcjccloiaaW.PrintWords Go.Proofs.YtonibkcjccloiaaW.PrintLast

theorem w64 {x : Int} (h : -9223372036854775808 ≤ x) (h2 : x ≤ 9223372036854775807) : wrap64 x = x := by
  unfold wrap64
  omega
theorem wf_i64 {x : Int} (h : (Lit.int .i64 x).wf = true) : -9223372036854775808 ≤ x ∧ x ≤ 9223372036854775807 := by
  simp only [Lit.wf, IntKind.min, IntKind.max, IntKind.signed, IntKind.bits, Bool.and_eq_true, decide_eq_true_eq, if_true] at h
  omega
theorem succ_of {k d : Nat} (h : d < k) : ∃ m, k = m + 1 := ⟨k - 1, by omega⟩
theorem rd_eq {l : List Int} {i : Int} (h0 : 0 ≤ i) (h : i < (l.length : Int)) : l[i.toNat]? = some (rd l i) := by
  unfold rd
  rw [List.getD_eq_getElem?_getD, List.getElem?_eq_getElem (by omega)]
  rfl
theorem drop_rd {l : List Int} {i : Int} (h0 : 0 ≤ i) (h : i < (l.length : Int)) : l.drop i.toNat = rd l i :: l.drop (i + 1).toNat := by
  have h1 : i.toNat < l.length := by omega
  have h2 : (i + 1).toNat = i.toNat + 1 := by omega
  have h3 := rd_eq h0 h
  rw [h2, List.drop_eq_getElem_cons h1]
  rw [List.getElem?_eq_getElem h1] at h3
  rw [Option.some.inj h3]
/-- The numbers a, a + 1, .. : n of them. -/
def marks (a : Int) (n : Nat) : List Int := (List.range n).map fun j : Nat => a + (j : Int)
theorem marks_len (a : Int) (n : Nat) : (marks a n).length = n := by simp [marks]
theorem marks_get (a : Int) (n i : Nat) (h : i < n) : (marks a n)[i]? = some (a + (i : Int)) := by simp [marks, h]
theorem tmod_in {a n : Int} (ha : 0 ≤ a) (hn : 0 < n) : 0 ≤ Int.tmod a n ∧ Int.tmod a n < n := by
  rw [Int.tmod_eq_emod_of_nonneg ha]
  exact ⟨Int.emod_nonneg _ (by omega), Int.emod_lt_of_pos _ hn⟩
theorem toIntS_l (l : List Int) (hl : l.length ≤ 35184372088832) (d : Nat) : ∀ (k : Nat) (x : List Int) (i : Int), 0 ≤ i → x.length = l.length → i + (d : Int) = (l.length : Int) → (∀ j : Nat, (j : Int) < i → x[j]? = l[j]?) → d < k →
    laws_toIntS.l0 k l x i = some l := by
  induction d with
  | zero =>
    intro k x i h0 hx hi hj hk
    obtain ⟨k, rfl⟩ := succ_of hk
    simp only [laws_toIntS.l0]
    rw [if_neg (by omega)]
    congr 1
    apply List.ext_getElem?
    intro j
    by_cases h : (j : Int) < i
    · exact hj j h
    · rw [List.getElem?_eq_none (by omega), List.getElem?_eq_none (by omega)]
  | succ d ih =>
    intro k x i h0 hx hi hj hk
    obtain ⟨k, rfl⟩ := succ_of hk
    simp only [laws_toIntS.l0]
    rw [if_pos (by omega), if_pos h0, if_pos (by omega), w64 (by omega) (by omega)]
    refine ih k _ (i + 1) (by omega) (by simpa using hx) (by omega) (fun j h => ?_) (by omega)
    rw [List.getElem?_set]
    by_cases e : i.toNat = j
    · subst e
      rw [if_pos rfl, if_pos (by omega), rd_eq h0 (by omega)]
    · rw [if_neg e]
      exact hj j (by omega)
theorem toIntS_at (l : List Int) (hl : l.length ≤ 35184372088832) (k : Nat) (hk : l.length < k) : laws_toIntS.f k l = some l := by
  unfold laws_toIntS.f
  rw [if_pos (by omega), if_pos (by omega)]
  exact toIntS_l l hl l.length k _ 0 (by omega) (by simp) (by omega) (fun j h => by omega) hk
theorem eqIntS_l (a b : List Int) (hl : a.length = b.length) (hb : a.length ≤ 35184372088832) (d : Nat) : ∀ (k : Nat) (i : Int), 0 ≤ i → i + (d : Int) = (a.length : Int) → d < k →
    laws_eqIntS.l0 k a b i = some (decide (a.drop i.toNat = b.drop i.toNat)) := by
  induction d with
  | zero =>
    intro k i h0 hi hk
    obtain ⟨k, rfl⟩ := succ_of hk
    simp only [laws_eqIntS.l0]
    rw [if_neg (by omega), List.drop_eq_nil_of_le (by omega), List.drop_eq_nil_of_le (by omega)]
    simp
  | succ d ih =>
    intro k i h0 hi hk
    obtain ⟨k, rfl⟩ := succ_of hk
    simp only [laws_eqIntS.l0]
    rw [if_pos (by omega), if_pos h0, if_pos (by omega), w64 (by omega) (by omega), drop_rd h0 (by omega), drop_rd h0 (by omega), ih k (i + 1) (by omega) (by omega) (by omega)]
    by_cases e : rd a i = rd b i
    · rw [if_pos e]
      simp [e]
    · rw [if_neg e]
      simp [e]
theorem eqIntS_at (a b : List Int) (hb : a.length ≤ 35184372088832) (k : Nat) (hk : a.length < k) : laws_eqIntS.f k a b = some (decide (a = b)) := by
  unfold laws_eqIntS.f
  by_cases hl : a.length = b.length
  · rw [if_pos (by omega), eqIntS_l a b hl hb a.length k 0 (by omega) (by omega) hk]
    simp
  · rw [if_neg (by omega)]
    have : a ≠ b := fun e => hl (by rw [e])
    simp [this]
theorem eqIntS_same (a : List Int) (hb : a.length ≤ 35184372088832) (k : Nat) (hk : a.length < k) : laws_eqIntS.f k a a = some true := by
  rw [eqIntS_at a a hb k hk]
  simp
theorem l01In_eq (a b c : Int) : spec_l01In.f a b c = some (decide (b ≤ a ∧ a ≤ c)) := by
  unfold spec_l01In.f
  by_cases h : b ≤ a <;> simp [h]
theorem within_eq (a b c : Int) : impl_within.f a b c = some (decide (b ≤ a ∧ a ≤ c)) := by
  unfold impl_within.f
  by_cases h : b ≤ a <;> simp [h]
/-- A number, clamped to the range of values. -/
def sat (a : Int) : Int := if a < -1000000 then -1000000 else if a > 1000000 then 1000000 else a
theorem sat_in (a : Int) : -1000000 ≤ sat a ∧ sat a ≤ 1000000 := by
  unfold sat
  split
  · omega
  · split <;> omega
theorem sat_id {a : Int} (h : -1000000 ≤ a) (h2 : a ≤ 1000000) : sat a = a := by
  unfold sat
  rw [if_neg (by omega), if_neg (by omega)]
theorem clampI_eq (a : Int) : impl_Clamp.f a (-1000000) 1000000 = some (sat a) := by
  unfold impl_Clamp.f mn mx sat
  rw [if_neg (by omega)]
  congr 1
  split <;> split <;> (try split) <;> omega
theorem saturateI_eq (a : Int) : impl_Saturate.f a = some (sat a) := by
  unfold impl_Saturate.f
  rw [clampI_eq]
  rfl
theorem addI_eq (a b : Int) : impl_AddValues.f a b = some (sat (sat a + sat b)) := by
  unfold impl_AddValues.f
  simp only [saturateI_eq, Option.bind_some]
  have h1 := sat_in a
  have h2 := sat_in b
  rw [w64 (by omega) (by omega)]
theorem clampS_eq (a : Int) (k : Nat) (hk : 0 < k) : spec_Clamp.f k a (-1000000) 1000000 = some (sat a) := by
  obtain ⟨k, rfl⟩ := succ_of hk
  unfold spec_Clamp.f sat
  rw [if_neg (by omega)]
  simp only [spec_Clamp.j0]
  by_cases h : a < -1000000
  · simp [h]
  · simp only [h, decide_false, Bool.false_eq_true, if_false]
    split <;> rfl
theorem saturateS_eq (a : Int) (k : Nat) (hk : 0 < k) : spec_Saturate.f k a = some (sat a) := by
  unfold spec_Saturate.f
  rw [clampS_eq a k hk]
  rfl
theorem addS_eq (a b : Int) (k : Nat) (hk : 0 < k) : spec_AddValues.f k a b = some (sat (sat a + sat b)) := by
  unfold spec_AddValues.f
  simp only [saturateS_eq _ k hk, Option.bind_some]
  have h1 := sat_in a
  have h2 := sat_in b
  rw [w64 (by omega) (by omega)]
theorem isSensor_eq (a : Int) : impl_isSensor.f a = some (decide (0 ≤ a ∧ a ≤ 3)) := by
  unfold impl_isSensor.f
  rw [within_eq]
  rfl
/-- A reading. -/
def sensorOf (l : List Int) (s n : Int) : Int := if (l.length : Int) = 0 then 0 else if 0 ≤ s ∧ s ≤ 3 then (if n < 0 then 0 else sat (sat (rd l (Int.tmod n (l.length : Int))) + sat (100 * s))) else 0
theorem readSensorI_eq (l : List Int) (s n : Int) : impl_ReadSensor.f l s n = some (sensorOf l s n) := by
  unfold impl_ReadSensor.f sensorOf
  by_cases h : (l.length : Int) = 0
  · rw [if_pos h, if_pos h]
  rw [if_neg h, if_neg h, isSensor_eq]
  simp only [Option.bind_some, decide_eq_true_eq]
  by_cases h2 : 0 ≤ s ∧ s ≤ 3
  · rw [if_pos h2, if_pos h2]
    by_cases h3 : n < 0
    · rw [if_pos h3, if_pos h3]
    · have := tmod_in (a := n) (n := (l.length : Int)) (by omega) (by omega)
      rw [if_neg h3, if_neg h3, if_pos this.1, if_pos this.2, addI_eq, w64 (by omega) (by omega)]
      rfl
  · rw [if_neg h2, if_neg h2]
theorem readSensorS_eq (l : List Int) (s n : Int) (k : Nat) (hk : 0 < k) : spec_ReadSensor.f k l s n = some (sensorOf l s n) := by
  unfold spec_ReadSensor.f sensorOf
  by_cases h : (l.length : Int) = 0
  · rw [if_pos h, if_pos h]
  rw [if_neg h, if_neg h, l01In_eq]
  simp only [Option.bind_some, decide_eq_true_eq]
  by_cases h2 : 0 ≤ s ∧ s ≤ 3
  · rw [if_pos h2, if_pos h2]
    by_cases h3 : n < 0
    · rw [if_pos h3, if_pos h3]
    · have := tmod_in (a := n) (n := (l.length : Int)) (by omega) (by omega)
      rw [if_neg h3, if_neg h3, if_pos this.1, if_pos this.2, addS_eq _ _ k hk, w64 (by omega) (by omega)]
      rfl
  · rw [if_neg h2, if_neg h2]
theorem FnExactReadSensor : laws_FnExactReadSensor.Pure := by
  intro l s n _ _ _ _ _
  refine ⟨1048578, ?_⟩
  unfold laws_FnExactReadSensor.f
  by_cases hl : (l.length : Int) > 1048576
  · rw [if_pos hl]
  rw [if_neg hl]
  have ht := toIntS_at l (by omega) 1048578 (by omega)
  have he := eqIntS_same l (by omega) 1048578 (by omega)
  simp only [ht, readSensorS_eq l s n 1048578 (by omega), readSensorI_eq, Option.bind_some, he, if_true]

end Go.Proofs.Ytonibkcjccloiaa.Pure

namespace Go.Proofs.Ytonibkcjccloiaa.PrintWords
theorem sized_ints : type_of% @Go.Proofs.YtonibkcjccloiaaW.PrintWords.sized_ints := @Go.Proofs.YtonibkcjccloiaaW.PrintWords.sized_ints
end Go.Proofs.Ytonibkcjccloiaa.PrintWords
