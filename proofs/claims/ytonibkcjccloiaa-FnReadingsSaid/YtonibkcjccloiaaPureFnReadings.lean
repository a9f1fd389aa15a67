/- The law FnReadings: for every input the function answers true. No condition. -/
import Derived.Test.YtonibkcjccloiaaGx7
namespace Go.Proofs.Ytonibkcjccloiaa.Pure
open Go.RowKit Go.Proofs.Ytonibkcjccloiaa.G Go.Proofs.YtonibkcjccloiaaW.PrintWords Go.Proofs.YtonibkcjccloiaaW.PrintLast

theorem w64 {x : Int} (h : -9223372036854775808 ≤ x) (h2 : x ≤ 9223372036854775807) : wrap64 x = x := by
  unfold wrap64
  omega
theorem wf_i64 {x : Int} (h : (Lit.int .i64 x).wf = true) : -9223372036854775808 ≤ x ∧ x ≤ 9223372036854775807 := by
  simp only [Lit.wf, IntKind.min, IntKind.max, IntKind.signed, IntKind.bits, Bool.and_eq_true, decide_eq_true_eq, if_true] at h
  omega
theorem succ_of {k d : Nat} (h : d < k) : ∃ m, k = m + 1 := ⟨k - 1, by omega⟩
theorem rd_eq {l : List Int} {i : Int} (h0 : 0 ≤ i) (h : i < (l.length : Int)) : l[i.toNat]? = some (rd l i) := by
  unfold rd
  rw [List.getD_eq_getElem?_getD, List.getElem?_eq_getElem (by omega)]
  rfl
theorem drop_rd {l : List Int} {i : Int} (h0 : 0 ≤ i) (h : i < (l.length : Int)) : l.drop i.toNat = rd l i :: l.drop (i + 1).toNat := by
  have h1 : i.toNat < l.length := by omega
  have h2 : (i + 1).toNat = i.toNat + 1 := by omega
  have h3 := rd_eq h0 h
  rw [h2, List.drop_eq_getElem_cons h1]
  rw [List.getElem?_eq_getElem h1] at h3
  rw [Option.some.inj h3]
/-- The numbers a, a + 1, .. : n of them. -/
def marks (a : Int) (n : Nat) : List Int := (List.range n).map fun j : Nat => a + (j : Int)
theorem marks_len (a : Int) (n : Nat) : (marks a n).length = n := by simp [marks]
theorem marks_get (a : Int) (n i : Nat) (h : i < n) : (marks a n)[i]? = some (a + (i : Int)) := by simp [marks, h]
theorem tmod_in {a n : Int} (ha : 0 ≤ a) (hn : 0 < n) : 0 ≤ Int.tmod a n ∧ Int.tmod a n < n := by
  rw [Int.tmod_eq_emod_of_nonneg ha]
  exact ⟨Int.emod_nonneg _ (by omega), Int.emod_lt_of_pos _ hn⟩
theorem within_eq (a b c : Int) : impl_within.f a b c = some (decide (b ≤ a ∧ a ≤ c)) := by
  unfold impl_within.f
  by_cases h : b ≤ a <;> simp [h]
/-- A number, clamped to the range of values. -/
def sat (a : Int) : Int := if a < -1000000 then -1000000 else if a > 1000000 then 1000000 else a
theorem sat_in (a : Int) : -1000000 ≤ sat a ∧ sat a ≤ 1000000 := by
  unfold sat
  split
  · omega
  · split <;> omega
theorem sat_id {a : Int} (h : -1000000 ≤ a) (h2 : a ≤ 1000000) : sat a = a := by
  unfold sat
  rw [if_neg (by omega), if_neg (by omega)]
theorem clampI_eq (a : Int) : impl_Clamp.f a (-1000000) 1000000 = some (sat a) := by
  unfold impl_Clamp.f mn mx sat
  rw [if_neg (by omega)]
  congr 1
  split <;> split <;> (try split) <;> omega
theorem saturateI_eq (a : Int) : impl_Saturate.f a = some (sat a) := by
  unfold impl_Saturate.f
  rw [clampI_eq]
  rfl
theorem addI_eq (a b : Int) : impl_AddValues.f a b = some (sat (sat a + sat b)) := by
  unfold impl_AddValues.f
  simp only [saturateI_eq, Option.bind_some]
  have h1 := sat_in a
  have h2 := sat_in b
  rw [w64 (by omega) (by omega)]
theorem isSensor_eq (a : Int) : impl_isSensor.f a = some (decide (0 ≤ a ∧ a ≤ 3)) := by
  unfold impl_isSensor.f
  rw [within_eq]
  rfl
/-- A reading. -/
def sensorOf (l : List Int) (s n : Int) : Int := if (l.length : Int) = 0 then 0 else if 0 ≤ s ∧ s ≤ 3 then (if n < 0 then 0 else sat (sat (rd l (Int.tmod n (l.length : Int))) + sat (100 * s))) else 0
theorem readSensorI_eq (l : List Int) (s n : Int) : impl_ReadSensor.f l s n = some (sensorOf l s n) := by
  unfold impl_ReadSensor.f sensorOf
  by_cases h : (l.length : Int) = 0
  · rw [if_pos h, if_pos h]
  rw [if_neg h, if_neg h, isSensor_eq]
  simp only [Option.bind_some, decide_eq_true_eq]
  by_cases h2 : 0 ≤ s ∧ s ≤ 3
  · rw [if_pos h2, if_pos h2]
    by_cases h3 : n < 0
    · rw [if_pos h3, if_pos h3]
    · have := tmod_in (a := n) (n := (l.length : Int)) (by omega) (by omega)
      rw [if_neg h3, if_neg h3, if_pos this.1, if_pos this.2, addI_eq, w64 (by omega) (by omega)]
      rfl
  · rw [if_neg h2, if_neg h2]
theorem and_mask (x : Int) (m : Nat) (hm : m < 9223372036854775808) : 0 ≤ Go.bits .and .i64 x (m : Int) ∧ Go.bits .and .i64 x (m : Int) ≤ (m : Int) := by
  have hb : (BitVec.ofInt 64 (m : Int)).toNat = m := by
    rw [BitVec.ofInt_natCast, BitVec.toNat_ofNat]
    omega
  have h : ((BitVec.ofInt 64 x) &&& (BitVec.ofInt 64 (m : Int))).toNat ≤ m := by
    rw [BitVec.toNat_and, hb]
    exact Nat.and_le_right
  have e : Go.bits .and .i64 x (m : Int) = IntKind.i64.wrap (((BitVec.ofInt 64 x) &&& (BitVec.ofInt 64 (m : Int))).toNat : Int) := rfl
  rw [e, IntKind.wrap_i64]
  omega
theorem and255 (x : Int) : 0 ≤ Go.bits .and .i64 x 255 ∧ Go.bits .and .i64 x 255 ≤ 255 := and_mask x 255 (by omega)
theorem l01Byte_ok (b : List Int) (i h : Int) (h0 : 0 ≤ i) (hb : b.length ≤ 140737488351232) :
    ∃ r i' h', spec_l01Byte.f b i h = some (r, i', h') ∧ 0 ≤ r ∧ r ≤ 255 ∧ 0 ≤ i' := by
  unfold spec_l01Byte.f
  by_cases h1 : i < (b.length : Int)
  · rw [if_pos h1, if_pos h0, w64 (x := i + 1) (by omega) (by omega)]
    exact ⟨_, _, _, rfl, (and255 _).1, (and255 _).2, by omega⟩
  · rw [if_neg h1]
    exact ⟨_, _, _, rfl, (and255 _).1, (and255 _).2, h0⟩
theorem l01Below_ok (b : List Int) (i h n : Int) (h0 : 0 ≤ i) (hb : b.length ≤ 140737488351232) :
    ∃ r i' h', spec_l01Below.f b i h n = some (r, i', h') ∧ 0 ≤ r ∧ (0 < n → r < n) ∧ (n ≤ 0 → r = 0) ∧ 0 ≤ i' := by
  unfold spec_l01Below.f
  by_cases h1 : n ≤ 0
  · rw [if_pos h1]
    exact ⟨_, _, _, rfl, by omega, by omega, by omega, h0⟩
  rw [if_neg h1]
  by_cases h2 : n ≤ 256
  · obtain ⟨r, i', h', e, hr0, hr1, hi'⟩ := l01Byte_ok b i h h0 hb
    rw [if_pos h2, e]
    simp only [Option.bind_some]
    rw [if_neg (by omega)]
    have := tmod_in (a := r) (n := n) hr0 (by omega)
    exact ⟨_, _, _, rfl, this.1, fun _ => this.2, by omega, hi'⟩
  · rw [if_neg h2]
    obtain ⟨x, i1, g1, e1, hx0, hx1, hi1⟩ := l01Byte_ok b i h h0 hb
    obtain ⟨y, i2, g2, e2, hy0, hy1, hi2⟩ := l01Byte_ok b i1 g1 hi1 hb
    obtain ⟨z, i3, g3, e3, hz0, hz1, hi3⟩ := l01Byte_ok b i2 g2 hi2 hb
    obtain ⟨u, i4, g4, e4, hu0, hu1, hi4⟩ := l01Byte_ok b i3 g3 hi3 hb
    simp only [e1, e2, e3, e4, Option.bind_some]
    rw [if_neg (by omega)]
    rw [w64 (x := x * 16777216) (by omega) (by omega), w64 (x := y * 65536) (by omega) (by omega), w64 (x := z * 256) (by omega) (by omega), w64 (x := x * 16777216 + y * 65536) (by omega) (by omega), w64 (x := x * 16777216 + y * 65536 + z * 256) (by omega) (by omega), w64 (x := x * 16777216 + y * 65536 + z * 256 + u) (by omega) (by omega)]
    have := tmod_in (a := x * 16777216 + y * 65536 + z * 256 + u) (n := n) (by omega) (by omega)
    exact ⟨_, _, _, rfl, this.1, fun _ => this.2, by omega, hi4⟩
theorem l01New_l (b : List Int) (hb : b.length ≤ 140737488351232) (d : Nat) : ∀ (k : Nat) (x i : Int), 0 ≤ i → i ≤ (b.length : Int) → i + (d : Int) = (b.length : Int) → d < k →
    ∃ h, spec_l01New.l0 k b x i = some (b, 0, h) := by
  induction d with
  | zero =>
    intro k x i h0 h1 hi hk
    obtain ⟨k, rfl⟩ := succ_of hk
    simp only [spec_l01New.l0]
    rw [if_neg (by omega)]
    exact ⟨_, rfl⟩
  | succ d ih =>
    intro k x i h0 h1 hi hk
    obtain ⟨k, rfl⟩ := succ_of hk
    simp only [spec_l01New.l0]
    rw [if_pos (by omega)]
    by_cases h2 : i < 4000
    · rw [if_pos h2, if_pos h0, w64 (x := i + 1) (by omega) (by omega)]
      exact ih k _ (i + 1) (by omega) (by omega) (by omega) (by omega)
    · rw [if_neg h2]
      exact ⟨_, rfl⟩
theorem l01New_at (b : List Int) (hb : b.length ≤ 140737488351232) (k : Nat) (hk : b.length < k) : ∃ h, spec_l01New.f k b = some (b, 0, h) := by
  unfold spec_l01New.f
  exact l01New_l b hb b.length k _ 0 (by omega) (by omega) (by omega) hk
theorem places_l (b : List Int) (hb : b.length ≤ 140737488351232) (d : Nat) : ∀ (k : Nat) (acc : List Int) (j i h : Int), 0 ≤ j → 0 ≤ i → j + (d : Int) = 12 → acc.length + d = 12 → (∀ x ∈ acc, 0 ≤ x ∧ x < 10000) → d < k →
    ∃ r, spec_DrawPlaces.l0 k acc j b i h = some r ∧ r.length = 12 ∧ ∀ x ∈ r, 0 ≤ x ∧ x < 10000 := by
  induction d with
  | zero =>
    intro k acc j i h h0 hi0 hj hl ha hk
    obtain ⟨k, rfl⟩ := succ_of hk
    simp only [spec_DrawPlaces.l0]
    rw [if_neg (by omega)]
    exact ⟨_, rfl, by omega, ha⟩
  | succ d ih =>
    intro k acc j i h h0 hi0 hj hl ha hk
    obtain ⟨k, rfl⟩ := succ_of hk
    simp only [spec_DrawPlaces.l0]
    obtain ⟨r, i', h', e, hr0, hr1, _, hi'⟩ := l01Below_ok b i h 10000 hi0 hb
    rw [if_pos (by omega)]
    simp only [e, Option.bind_some]
    rw [if_pos (by omega), w64 (x := j + 1) (by omega) (by omega)]
    refine ih k _ (j + 1) i' h' (by omega) hi' (by omega) (by simp; omega) ?_ (by omega)
    intro x hx
    rcases List.mem_append.1 hx with hx | hx
    · exact ha x hx
    · rw [List.mem_singleton.1 hx]
      exact ⟨hr0, hr1 (by omega)⟩
theorem places_at (b : List Int) (hb : b.length ≤ 140737488351232) (k : Nat) (hk : b.length < k) (hk2 : 12 < k) :
    ∃ r, spec_DrawPlaces.f k b = some r ∧ r.length = 12 ∧ ∀ x ∈ r, 0 ≤ x ∧ x < 10000 := by
  unfold spec_DrawPlaces.f
  obtain ⟨h, e⟩ := l01New_at b hb k hk
  simp only [e, Option.bind_some]
  exact places_l b hb 12 k [] 0 0 h (by omega) (by omega) (by omega) (by simp) (by simp) hk2
theorem rd_all {P : Int → Prop} {l : List Int} (h : ∀ x ∈ l, P x) {i : Int} (h0 : 0 ≤ i) (h1 : i < (l.length : Int)) : P (rd l i) := h _ (List.mem_of_getElem? (rd_eq h0 h1))
theorem l12Readings_l (b : List Int) (hb : b.length ≤ 140737488351232) (d : Nat) : ∀ (k : Nat) (acc : List Int) (j i h : Int), 0 ≤ j → j ≤ 9 → 0 ≤ i → j + (d : Int) = 9 → (acc.length : Int) = j → (∀ x ∈ acc, -200 ≤ x ∧ x < 600) → d < k →
    ∃ r i' h', spec_l12Readings.l0 k acc j b i h = some (r, i', h') ∧ j ≤ (r.length : Int) ∧ r.length ≤ 9 ∧ 1 ≤ r.length ∧ (∀ x ∈ r, -200 ≤ x ∧ x < 600) ∧ 0 ≤ i' := by
  induction d with
  | zero =>
    intro k acc j i h h0 h9 hi0 hj hl ha hk
    obtain ⟨k, rfl⟩ := succ_of hk
    simp only [spec_l12Readings.l0]
    obtain ⟨r, i', h', e, hr0, hr1, _, hi'⟩ := l01Below_ok b i h 9 hi0 hb
    have := hr1 (by omega)
    simp only [e, Option.bind_some]
    rw [w64 (x := 1 + r) (by omega) (by omega), if_neg (by omega)]
    exact ⟨_, _, _, rfl, by omega, by omega, by omega, ha, hi'⟩
  | succ d ih =>
    intro k acc j i h h0 h9 hi0 hj hl ha hk
    obtain ⟨k, rfl⟩ := succ_of hk
    simp only [spec_l12Readings.l0]
    obtain ⟨r, i', h', e, hr0, hr1, _, hi'⟩ := l01Below_ok b i h 9 hi0 hb
    have := hr1 (by omega)
    simp only [e, Option.bind_some]
    rw [w64 (x := 1 + r) (by omega) (by omega)]
    by_cases hlt : j < 1 + r
    · obtain ⟨q, i2, g2, e2, hq0, hq1, _, hi2⟩ := l01Below_ok b i' h' 800 hi' hb
      have := hq1 (by omega)
      rw [if_pos hlt]
      simp only [e2, Option.bind_some]
      rw [if_pos (by omega), w64 (x := q - 200) (by omega) (by omega), w64 (x := j + 1) (by omega) (by omega)]
      obtain ⟨r', i3, g3, e3, p1, p2, p3, p4, p5⟩ := ih k (acc ++ [q - 200]) (j + 1) i2 g2 (by omega) (by omega) hi2 (by omega) (by simp; omega) (by
        intro x hx
        rcases List.mem_append.1 hx with hx | hx
        · exact ha x hx
        · rw [List.mem_singleton.1 hx]
          omega) (by omega)
      exact ⟨r', i3, g3, e3, by omega, p2, p3, p4, p5⟩
    · rw [if_neg hlt]
      exact ⟨_, _, _, rfl, by omega, by omega, by omega, ha, hi'⟩
theorem l12Readings_at (b : List Int) (i h : Int) (h0 : 0 ≤ i) (hb : b.length ≤ 140737488351232) (k : Nat) (hk : 9 < k) :
    ∃ r i' h', spec_l12Readings.f k b i h = some (r, i', h') ∧ r.length ≤ 9 ∧ 1 ≤ r.length ∧ (∀ x ∈ r, -200 ≤ x ∧ x < 600) ∧ 0 ≤ i' := by
  unfold spec_l12Readings.f
  obtain ⟨r, i', h', e, _, p2, p3, p4, p5⟩ := l12Readings_l b hb 9 k [] 0 i h (by omega) (by omega) h0 (by omega) (by simp) (by simp) hk
  exact ⟨r, i', h', e, p2, p3, p4, p5⟩
theorem drawReadings_at (b : List Int) (hb : b.length ≤ 140737488351232) (k : Nat) (hk : b.length < k) (hk2 : 9 < k) :
    ∃ r, spec_DrawReadings.f k b = some r ∧ r.length ≤ 9 ∧ 1 ≤ r.length ∧ ∀ x ∈ r, -200 ≤ x ∧ x < 600 := by
  unfold spec_DrawReadings.f
  obtain ⟨h, e⟩ := l01New_at b hb k hk
  simp only [e, Option.bind_some]
  obtain ⟨r, i', h', e', p1, p2, p3, _⟩ := l12Readings_at b 0 h (by omega) hb k hk2
  simp only [e', Option.bind_some]
  exact ⟨_, rfl, p1, p2, p3⟩
theorem big_eq (l : List Int) : laws_big.f l = some (decide ((l.length : Int) > 1048576)) := rfl
theorem FnReadings : laws_FnReadings.Pure := by
  intro b _ _ _
  refine ⟨b.length + 20, ?_⟩
  unfold laws_FnReadings.f
  rw [big_eq]
  simp only [Option.bind_some, decide_eq_true_eq]
  by_cases hl : (b.length : Int) > 1048576
  · rw [if_pos hl]
  rw [if_neg hl]
  obtain ⟨r, er, r9, r1, rb⟩ := drawReadings_at b (by omega) (b.length + 20) (by omega) (by omega)
  obtain ⟨p, ep, p12, pb⟩ := places_at b (by omega) (b.length + 20) (by omega) (by omega)
  simp only [er, ep, Option.bind_some]
  rw [if_pos (by omega)]
  have hp := rd_all pb (i := 0) (by omega) (by omega)
  generalize rd p 0 = n at *
  rw [w64 (x := n + (r.length : Int)) (by omega) (by omega)]
  simp only [readSensorI_eq, Option.bind_some]
  have hm := tmod_in (a := n) (n := (r.length : Int)) (by omega) (by omega)
  have hx := rd_all rb hm.1 hm.2
  have e1 : Int.tmod (n + (r.length : Int)) (r.length : Int) = Int.tmod n (r.length : Int) := by
    rw [Int.tmod_eq_emod_of_nonneg (by omega), Int.tmod_eq_emod_of_nonneg (by omega)]
    simp
  have a0 : sensorOf r 0 n = rd r (Int.tmod n (r.length : Int)) := by
    unfold sensorOf
    rw [if_neg (by omega), if_pos (by omega), if_neg (by omega), sat_id (a := rd r (Int.tmod n (r.length : Int))) (by omega) (by omega), sat_id (a := 100 * 0) (by omega) (by omega), sat_id (by omega) (by omega)]
    omega
  have a1 : sensorOf r 0 (n + (r.length : Int)) = rd r (Int.tmod n (r.length : Int)) := by
    unfold sensorOf
    rw [if_neg (by omega), if_pos (by omega), if_neg (by omega), e1, sat_id (a := rd r (Int.tmod n (r.length : Int))) (by omega) (by omega), sat_id (a := 100 * 0) (by omega) (by omega), sat_id (by omega) (by omega)]
    omega
  have a3 : sensorOf r 3 n = rd r (Int.tmod n (r.length : Int)) + 300 := by
    unfold sensorOf
    rw [if_neg (by omega), if_pos (by omega), if_neg (by omega), sat_id (a := rd r (Int.tmod n (r.length : Int))) (by omega) (by omega), sat_id (a := 100 * 3) (by omega) (by omega), sat_id (by omega) (by omega)]
    omega
  rw [a0, a1, a3, if_pos rfl, w64 (by omega) (by omega), if_pos rfl, if_neg (by omega), if_pos hm.1, if_pos hm.2]
  simp

end Go.Proofs.Ytonibkcjccloiaa.Pure
