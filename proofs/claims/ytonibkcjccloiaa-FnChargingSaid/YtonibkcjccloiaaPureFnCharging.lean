/- The law FnCharging: for every input the function answers true. No condition. -/
import Derived.Test.YtonibkcjccloiaaGx33
namespace Go.Proofs.Ytonibkcjccloiaa.Pure
open Go.RowKit Go.Proofs.Ytonibkcjccloiaa.G Go.Proofs.YtonibkcjccloiaaW.PrintWords Go.Proofs.YtonibkcjccloiaaW.PrintLast

theorem w64 {x : Int} (h : -9223372036854775808 ≤ x) (h2 : x ≤ 9223372036854775807) : wrap64 x = x := by
  unfold wrap64
  omega
theorem wf_i64 {x : Int} (h : (Lit.int .i64 x).wf = true) : -9223372036854775808 ≤ x ∧ x ≤ 9223372036854775807 := by
  simp only [Lit.wf, IntKind.min, IntKind.max, IntKind.signed, IntKind.bits, Bool.and_eq_true, decide_eq_true_eq, if_true] at h
  omega
theorem succ_of {k d : Nat} (h : d < k) : ∃ m, k = m + 1 := ⟨k - 1, by omega⟩
theorem rd_eq {l : List Int} {i : Int} (h0 : 0 ≤ i) (h : i < (l.length : Int)) : l[i.toNat]? = some (rd l i) := by
  unfold rd
  rw [List.getD_eq_getElem?_getD, List.getElem?_eq_getElem (by omega)]
  rfl
theorem drop_rd {l : List Int} {i : Int} (h0 : 0 ≤ i) (h : i < (l.length : Int)) : l.drop i.toNat = rd l i :: l.drop (i + 1).toNat := by
  have h1 : i.toNat < l.length := by omega
  have h2 : (i + 1).toNat = i.toNat + 1 := by omega
  have h3 := rd_eq h0 h
  rw [h2, List.drop_eq_getElem_cons h1]
  rw [List.getElem?_eq_getElem h1] at h3
  rw [Option.some.inj h3]
/-- The numbers a, a + 1, .. : n of them. -/
def marks (a : Int) (n : Nat) : List Int := (List.range n).map fun j : Nat => a + (j : Int)
theorem marks_len (a : Int) (n : Nat) : (marks a n).length = n := by simp [marks]
theorem marks_get (a : Int) (n i : Nat) (h : i < n) : (marks a n)[i]? = some (a + (i : Int)) := by simp [marks, h]
theorem tmod_in {a n : Int} (ha : 0 ≤ a) (hn : 0 < n) : 0 ≤ Int.tmod a n ∧ Int.tmod a n < n := by
  rw [Int.tmod_eq_emod_of_nonneg ha]
  exact ⟨Int.emod_nonneg _ (by omega), Int.emod_lt_of_pos _ hn⟩
theorem within_eq (a b c : Int) : impl_within.f a b c = some (decide (b ≤ a ∧ a ≤ c)) := by
  unfold impl_within.f
  by_cases h : b ≤ a <;> simp [h]
theorem and_mask (x : Int) (m : Nat) (hm : m < 9223372036854775808) : 0 ≤ Go.bits .and .i64 x (m : Int) ∧ Go.bits .and .i64 x (m : Int) ≤ (m : Int) := by
  have hb : (BitVec.ofInt 64 (m : Int)).toNat = m := by
    rw [BitVec.ofInt_natCast, BitVec.toNat_ofNat]
    omega
  have h : ((BitVec.ofInt 64 x) &&& (BitVec.ofInt 64 (m : Int))).toNat ≤ m := by
    rw [BitVec.toNat_and, hb]
    exact Nat.and_le_right
  have e : Go.bits .and .i64 x (m : Int) = IntKind.i64.wrap (((BitVec.ofInt 64 x) &&& (BitVec.ofInt 64 (m : Int))).toNat : Int) := rfl
  rw [e, IntKind.wrap_i64]
  omega
theorem and255 (x : Int) : 0 ≤ Go.bits .and .i64 x 255 ∧ Go.bits .and .i64 x 255 ≤ 255 := and_mask x 255 (by omega)
theorem l01Byte_ok (b : List Int) (i h : Int) (h0 : 0 ≤ i) (hb : b.length ≤ 140737488351232) :
    ∃ r i' h', spec_l01Byte.f b i h = some (r, i', h') ∧ 0 ≤ r ∧ r ≤ 255 ∧ 0 ≤ i' := by
  unfold spec_l01Byte.f
  by_cases h1 : i < (b.length : Int)
  · rw [if_pos h1, if_pos h0, w64 (x := i + 1) (by omega) (by omega)]
    exact ⟨_, _, _, rfl, (and255 _).1, (and255 _).2, by omega⟩
  · rw [if_neg h1]
    exact ⟨_, _, _, rfl, (and255 _).1, (and255 _).2, h0⟩
theorem l01Below_ok (b : List Int) (i h n : Int) (h0 : 0 ≤ i) (hb : b.length ≤ 140737488351232) :
    ∃ r i' h', spec_l01Below.f b i h n = some (r, i', h') ∧ 0 ≤ r ∧ (0 < n → r < n) ∧ (n ≤ 0 → r = 0) ∧ 0 ≤ i' := by
  unfold spec_l01Below.f
  by_cases h1 : n ≤ 0
  · rw [if_pos h1]
    exact ⟨_, _, _, rfl, by omega, by omega, by omega, h0⟩
  rw [if_neg h1]
  by_cases h2 : n ≤ 256
  · obtain ⟨r, i', h', e, hr0, hr1, hi'⟩ := l01Byte_ok b i h h0 hb
    rw [if_pos h2, e]
    simp only [Option.bind_some]
    rw [if_neg (by omega)]
    have := tmod_in (a := r) (n := n) hr0 (by omega)
    exact ⟨_, _, _, rfl, this.1, fun _ => this.2, by omega, hi'⟩
  · rw [if_neg h2]
    obtain ⟨x, i1, g1, e1, hx0, hx1, hi1⟩ := l01Byte_ok b i h h0 hb
    obtain ⟨y, i2, g2, e2, hy0, hy1, hi2⟩ := l01Byte_ok b i1 g1 hi1 hb
    obtain ⟨z, i3, g3, e3, hz0, hz1, hi3⟩ := l01Byte_ok b i2 g2 hi2 hb
    obtain ⟨u, i4, g4, e4, hu0, hu1, hi4⟩ := l01Byte_ok b i3 g3 hi3 hb
    simp only [e1, e2, e3, e4, Option.bind_some]
    rw [if_neg (by omega)]
    rw [w64 (x := x * 16777216) (by omega) (by omega), w64 (x := y * 65536) (by omega) (by omega), w64 (x := z * 256) (by omega) (by omega), w64 (x := x * 16777216 + y * 65536) (by omega) (by omega), w64 (x := x * 16777216 + y * 65536 + z * 256) (by omega) (by omega), w64 (x := x * 16777216 + y * 65536 + z * 256 + u) (by omega) (by omega)]
    have := tmod_in (a := x * 16777216 + y * 65536 + z * 256 + u) (n := n) (by omega) (by omega)
    exact ⟨_, _, _, rfl, this.1, fun _ => this.2, by omega, hi4⟩
theorem l01New_l (b : List Int) (_hb : b.length ≤ 140737488351232) (d : Nat) : ∀ (k : Nat) (x i : Int), 0 ≤ i → i ≤ (b.length : Int) → i + (d : Int) = (b.length : Int) → d < k →
    ∃ h, spec_l01New.l0 k b x i = some (b, 0, h) := by
  induction d with
  | zero =>
    intro k x i h0 h1 hi hk
    obtain ⟨k, rfl⟩ := succ_of hk
    simp only [spec_l01New.l0]
    rw [if_neg (by omega)]
    exact ⟨_, rfl⟩
  | succ d ih =>
    intro k x i h0 h1 hi hk
    obtain ⟨k, rfl⟩ := succ_of hk
    simp only [spec_l01New.l0]
    rw [if_pos (by omega)]
    by_cases h2 : i < 4000
    · rw [if_pos h2, if_pos h0, w64 (x := i + 1) (by omega) (by omega)]
      exact ih k _ (i + 1) (by omega) (by omega) (by omega) (by omega)
    · rw [if_neg h2]
      exact ⟨_, rfl⟩
theorem l01New_at (b : List Int) (hb : b.length ≤ 140737488351232) (k : Nat) (hk : b.length < k) : ∃ h, spec_l01New.f k b = some (b, 0, h) := by
  unfold spec_l01New.f
  exact l01New_l b hb b.length k _ 0 (by omega) (by omega) (by omega) hk
theorem rd_all {P : Int → Prop} {l : List Int} (h : ∀ x ∈ l, P x) {i : Int} (h0 : 0 ≤ i) (h1 : i < (l.length : Int)) : P (rd l i) := h _ (List.mem_of_getElem? (rd_eq h0 h1))
theorem places_l (b : List Int) (hb : b.length ≤ 140737488351232) (d : Nat) : ∀ (k : Nat) (acc : List Int) (j i h : Int), 0 ≤ j → 0 ≤ i → j + (d : Int) = 12 → acc.length + d = 12 → (∀ x ∈ acc, 0 ≤ x ∧ x < 10000) → d < k →
    ∃ r, spec_DrawPlaces.l0 k acc j b i h = some r ∧ r.length = 12 ∧ ∀ x ∈ r, 0 ≤ x ∧ x < 10000 := by
  induction d with
  | zero =>
    intro k acc j i h h0 hi0 hj hl ha hk
    obtain ⟨k, rfl⟩ := succ_of hk
    simp only [spec_DrawPlaces.l0]
    rw [if_neg (by omega)]
    exact ⟨_, rfl, by omega, ha⟩
  | succ d ih =>
    intro k acc j i h h0 hi0 hj hl ha hk
    obtain ⟨k, rfl⟩ := succ_of hk
    simp only [spec_DrawPlaces.l0]
    obtain ⟨r, i', h', e, hr0, hr1, _, hi'⟩ := l01Below_ok b i h 10000 hi0 hb
    rw [if_pos (by omega)]
    simp only [e, Option.bind_some]
    rw [if_pos (by omega), w64 (x := j + 1) (by omega) (by omega)]
    refine ih k _ (j + 1) i' h' (by omega) hi' (by omega) (by simp; omega) ?_ (by omega)
    intro x hx
    rcases List.mem_append.1 hx with hx | hx
    · exact ha x hx
    · rw [List.mem_singleton.1 hx]
      exact ⟨hr0, hr1 (by omega)⟩
theorem places_at (b : List Int) (hb : b.length ≤ 140737488351232) (k : Nat) (hk : b.length < k) (hk2 : 12 < k) :
    ∃ r, spec_DrawPlaces.f k b = some r ∧ r.length = 12 ∧ ∀ x ∈ r, 0 ≤ x ∧ x < 10000 := by
  unfold spec_DrawPlaces.f
  obtain ⟨h, e⟩ := l01New_at b hb k hk
  simp only [e, Option.bind_some]
  exact places_l b hb 12 k [] 0 0 h (by omega) (by omega) (by omega) (by simp) (by simp) hk2
/-- A store is valid. -/
def sOk (a b c d : Int) : Bool := decide (1 ≤ b ∧ b ≤ 5000) && (decide (0 ≤ a ∧ a ≤ b) && (decide (1 ≤ c ∧ c ≤ b) && decide (0 ≤ d ∧ d ≤ 100)))
theorem sOk_iff {a b c d : Int} : sOk a b c d = true ↔ (1 ≤ b ∧ b ≤ 5000) ∧ (0 ≤ a ∧ a ≤ b) ∧ (1 ≤ c ∧ c ≤ b) ∧ (0 ≤ d ∧ d ≤ 100) := by
  simp only [sOk, Bool.and_eq_true, decide_eq_true_eq]
theorem storeOkI_eq (a b c d : Int) : impl_StoreOk.f a b c d = some (sOk a b c d) := by
  unfold impl_StoreOk.f sOk
  simp only [within_eq, Option.bind_some]
  by_cases h1 : 1 ≤ b ∧ b ≤ 5000
  · by_cases h2 : 0 ≤ a ∧ a ≤ b
    · by_cases h3 : 1 ≤ c ∧ c ≤ b
      · simp [h1, h2, h3]
      · simp [h1, h2, h3]
    · simp [h1, h2]
  · simp [h1]
/-- The charge behind a tick. -/
def tickC (a b d h : Int) : Int := if a + h - d < 0 then 0 else if a + h - d > b then b else a + h - d
theorem tickI_eq {a b c d h : Int} (ok : sOk a b c d = true) (h0 : 0 ≤ h) (h1 : h ≤ 1000) : impl_Store_tick.f a b c d h = some (tickC a b d h, b, c, d) := by
  obtain ⟨hb, ha, hc, hd⟩ := sOk_iff.1 ok
  unfold impl_Store_tick.f impl_Clamp.f tickC mn mx
  rw [w64 (x := a + h) (by omega) (by omega), w64 (by omega) (by omega), if_neg (by omega)]
  simp only [Option.bind_some, Option.some.injEq, Prod.mk.injEq, and_true]
  by_cases e : a + h - d < 0
  · rw [if_pos e, if_pos e, if_neg (by omega)]
  · rw [if_neg e, if_neg e]
theorem isHarvest_eq (h : Int) : impl_isHarvest.f h = some (decide (0 ≤ h ∧ h ≤ 1000)) := by
  unfold impl_isHarvest.f
  rw [within_eq]
  rfl
/-- The charge behind ChargeTick. -/
def chargeC (a b c d h : Int) : Int := if sOk a b c d = true then (if 0 ≤ h ∧ h ≤ 1000 then tickC a b d h else a) else a
theorem chargeI_eq (a b c d h : Int) : impl_ChargeTick.f a b c d h = some (chargeC a b c d h, b, c, d) := by
  unfold impl_ChargeTick.f chargeC
  rw [storeOkI_eq]
  simp only [Option.bind_some, isHarvest_eq, decide_eq_true_eq]
  by_cases ok : sOk a b c d = true
  · rw [if_pos ok, if_pos ok]
    by_cases hh : 0 ≤ h ∧ h ≤ 1000
    · rw [if_pos hh, if_pos hh, tickI_eq ok hh.1 hh.2]
      rfl
    · rw [if_neg hh, if_neg hh]
  · rw [if_neg ok, if_neg ok]
theorem drawStore_at (b : List Int) (hb : b.length ≤ 140737488351232) (k : Nat) (hk : b.length < k) :
    ∃ x y z u, spec_DrawStore.f k b = some (x, y, z, u) ∧ sOk x y z u = true ∧ u ≤ 3 := by
  unfold spec_DrawStore.f spec_l19Store.f
  obtain ⟨h, e⟩ := l01New_at b hb k hk
  simp only [e, Option.bind_some]
  obtain ⟨r1, i1, g1, e1, p1, q1, _, hi1⟩ := l01Below_ok b 0 h 400 (by omega) hb
  have := q1 (by omega)
  obtain ⟨r2, i2, g2, e2, p2, q2, _, hi2⟩ := l01Below_ok b i1 g1 4 hi1 hb
  have := q2 (by omega)
  simp only [e1, e2, Option.bind_some]
  rw [w64 (x := 20 + r1) (by omega) (by omega), w64 (x := 20 + r1 + 1) (by omega) (by omega)]
  obtain ⟨r3, i3, g3, e3, p3, q3, _, hi3⟩ := l01Below_ok b i2 g2 (20 + r1 + 1) hi2 hb
  have := q3 (by omega)
  obtain ⟨r4, i4, g4, e4, p4, q4, _, hi4⟩ := l01Below_ok b i3 g3 (20 + r1) hi3 hb
  have := q4 (by omega)
  simp only [e3, e4, Option.bind_some]
  rw [w64 (x := 1 + r4) (by omega) (by omega)]
  exact ⟨_, _, _, _, rfl, sOk_iff.2 ⟨by omega, by omega, by omega, by omega⟩, by omega⟩
theorem spendI_eq {a b c d n : Int} (ok : sOk a b c d = true) : impl_Spend.f a b c d n = if 0 ≤ n ∧ n ≤ a then some (wrap64 (a - n), b, c, d, true) else some (a, b, c, d, false) := by
  unfold impl_Spend.f
  rw [storeOkI_eq, ok]
  simp only [Option.bind_some, if_true, within_eq, decide_eq_true_eq]
theorem big_eq (l : List Int) : laws_big.f l = some (decide ((l.length : Int) > 1048576)) := rfl
theorem FnCharging : laws_FnCharging.Pure := by
  intro b _ _ _
  refine ⟨b.length + 20, ?_⟩
  unfold laws_FnCharging.f
  rw [big_eq]
  simp only [Option.bind_some, decide_eq_true_eq]
  by_cases hl : (b.length : Int) > 1048576
  · rw [if_pos hl]
  rw [if_neg hl]
  obtain ⟨x, y, z, u, es, ok, _⟩ := drawStore_at b (by omega) (b.length + 20) (by omega)
  obtain ⟨p, ep, p12, pb⟩ := places_at b (by omega) (b.length + 20) (by omega) (by omega)
  obtain ⟨hy, hx, hz, hu⟩ := sOk_iff.1 ok
  simp only [es, ep, Option.bind_some]
  rw [if_pos (by omega)]
  have h0 := rd_all pb (i := 0) (by omega) (by omega)
  have h1 := rd_all pb (i := 1) (by omega) (by omega)
  have hh := tmod_in (a := rd p 0) (n := 1001) (by omega) (by omega)
  have hn := tmod_in (a := rd p 1) (n := 500) (by omega) (by omega)
  generalize Int.tmod (rd p 0) 1001 = h at *
  generalize Int.tmod (rd p 1) 500 = n at *
  rw [chargeI_eq]
  have ec : chargeC x y z u h = tickC x y u h := by
    unfold chargeC
    rw [if_pos ok, if_pos (by omega)]
  rw [ec]
  have hb : 0 ≤ tickC x y u h ∧ tickC x y u h ≤ y ∧ x - u ≤ tickC x y u h ∧ tickC x y u h ≤ x + h := by
    unfold tickC
    split
    · omega
    · split <;> omega
  generalize tickC x y u h = t at *
  have ok2 : sOk t y z u = true := sOk_iff.2 ⟨hy, by omega, hz, hu⟩
  simp only [Option.bind_some]
  rw [if_pos (by omega), spendI_eq ok2, storeOkI_eq, ok2]
  by_cases hnt : n ≤ t
  · rw [if_pos (by omega)]
    have ok3 : sOk (t - n) y z u = true := sOk_iff.2 ⟨hy, by omega, hz, hu⟩
    simp only [Option.bind_some, if_true]
    rw [w64 (x := x - u) (by omega) (by omega), w64 (x := x + h) (by omega) (by omega), w64 (x := t - n) (by omega) (by omega), if_pos (by omega), if_pos (by omega), if_pos (by simp [hnt]), storeOkI_eq, ok3]
    simp
  · rw [if_neg (by omega)]
    simp only [Option.bind_some, if_true]
    rw [w64 (x := x - u) (by omega) (by omega), w64 (x := x + h) (by omega) (by omega), if_pos (by omega), if_pos (by omega), if_pos (by simp [hnt])]
    simp

end Go.Proofs.Ytonibkcjccloiaa.Pure
