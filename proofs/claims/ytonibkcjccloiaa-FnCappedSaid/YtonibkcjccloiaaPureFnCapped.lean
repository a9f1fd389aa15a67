/- The law FnCapped: for every input the function answers true. No condition. -/
import Derived.Test.YtonibkcjccloiaaGx6
namespace Go.Proofs.Ytonibkcjccloiaa.Pure
open Go.RowKit Go.Proofs.Ytonibkcjccloiaa.G Go.Proofs.YtonibkcjccloiaaW.PrintWords Go.Proofs.YtonibkcjccloiaaW.PrintLast

theorem w64 {x : Int} (h : -9223372036854775808 ≤ x) (h2 : x ≤ 9223372036854775807) : wrap64 x = x := by
  unfold wrap64
  omega
theorem wf_i64 {x : Int} (h : (Lit.int .i64 x).wf = true) : -9223372036854775808 ≤ x ∧ x ≤ 9223372036854775807 := by
  simp only [Lit.wf, IntKind.min, IntKind.max, IntKind.signed, IntKind.bits, Bool.and_eq_true, decide_eq_true_eq, if_true] at h
  omega
theorem succ_of {k d : Nat} (h : d < k) : ∃ m, k = m + 1 := ⟨k - 1, by omega⟩
theorem rd_eq {l : List Int} {i : Int} (h0 : 0 ≤ i) (h : i < (l.length : Int)) : l[i.toNat]? = some (rd l i) := by
  unfold rd
  rw [List.getD_eq_getElem?_getD, List.getElem?_eq_getElem (by omega)]
  rfl
theorem drop_rd {l : List Int} {i : Int} (h0 : 0 ≤ i) (h : i < (l.length : Int)) : l.drop i.toNat = rd l i :: l.drop (i + 1).toNat := by
  have h1 : i.toNat < l.length := by omega
  have h2 : (i + 1).toNat = i.toNat + 1 := by omega
  have h3 := rd_eq h0 h
  rw [h2, List.drop_eq_getElem_cons h1]
  rw [List.getElem?_eq_getElem h1] at h3
  rw [Option.some.inj h3]
/-- The numbers a, a + 1, .. : n of them. -/
def marks (a : Int) (n : Nat) : List Int := (List.range n).map fun j : Nat => a + (j : Int)
theorem marks_len (a : Int) (n : Nat) : (marks a n).length = n := by simp [marks]
theorem marks_get (a : Int) (n i : Nat) (h : i < n) : (marks a n)[i]? = some (a + (i : Int)) := by simp [marks, h]
theorem tmod_in {a n : Int} (ha : 0 ≤ a) (hn : 0 < n) : 0 ≤ Int.tmod a n ∧ Int.tmod a n < n := by
  rw [Int.tmod_eq_emod_of_nonneg ha]
  exact ⟨Int.emod_nonneg _ (by omega), Int.emod_lt_of_pos _ hn⟩
theorem and_mask (x : Int) (m : Nat) (hm : m < 9223372036854775808) : 0 ≤ Go.bits .and .i64 x (m : Int) ∧ Go.bits .and .i64 x (m : Int) ≤ (m : Int) := by
  have hb : (BitVec.ofInt 64 (m : Int)).toNat = m := by
    rw [BitVec.ofInt_natCast, BitVec.toNat_ofNat]
    omega
  have h : ((BitVec.ofInt 64 x) &&& (BitVec.ofInt 64 (m : Int))).toNat ≤ m := by
    rw [BitVec.toNat_and, hb]
    exact Nat.and_le_right
  have e : Go.bits .and .i64 x (m : Int) = IntKind.i64.wrap (((BitVec.ofInt 64 x) &&& (BitVec.ofInt 64 (m : Int))).toNat : Int) := rfl
  rw [e, IntKind.wrap_i64]
  omega
theorem and255 (x : Int) : 0 ≤ Go.bits .and .i64 x 255 ∧ Go.bits .and .i64 x 255 ≤ 255 := and_mask x 255 (by omega)
theorem l01Byte_ok (b : List Int) (i h : Int) (h0 : 0 ≤ i) (hb : b.length ≤ 140737488351232) :
    ∃ r i' h', spec_l01Byte.f b i h = some (r, i', h') ∧ 0 ≤ r ∧ r ≤ 255 ∧ 0 ≤ i' := by
  unfold spec_l01Byte.f
  by_cases h1 : i < (b.length : Int)
  · rw [if_pos h1, if_pos h0, w64 (x := i + 1) (by omega) (by omega)]
    exact ⟨_, _, _, rfl, (and255 _).1, (and255 _).2, by omega⟩
  · rw [if_neg h1]
    exact ⟨_, _, _, rfl, (and255 _).1, (and255 _).2, h0⟩
theorem l01Below_ok (b : List Int) (i h n : Int) (h0 : 0 ≤ i) (hb : b.length ≤ 140737488351232) :
    ∃ r i' h', spec_l01Below.f b i h n = some (r, i', h') ∧ 0 ≤ r ∧ (0 < n → r < n) ∧ (n ≤ 0 → r = 0) ∧ 0 ≤ i' := by
  unfold spec_l01Below.f
  by_cases h1 : n ≤ 0
  · rw [if_pos h1]
    exact ⟨_, _, _, rfl, by omega, by omega, by omega, h0⟩
  rw [if_neg h1]
  by_cases h2 : n ≤ 256
  · obtain ⟨r, i', h', e, hr0, hr1, hi'⟩ := l01Byte_ok b i h h0 hb
    rw [if_pos h2, e]
    simp only [Option.bind_some]
    rw [if_neg (by omega)]
    have := tmod_in (a := r) (n := n) hr0 (by omega)
    exact ⟨_, _, _, rfl, this.1, fun _ => this.2, by omega, hi'⟩
  · rw [if_neg h2]
    obtain ⟨x, i1, g1, e1, hx0, hx1, hi1⟩ := l01Byte_ok b i h h0 hb
    obtain ⟨y, i2, g2, e2, hy0, hy1, hi2⟩ := l01Byte_ok b i1 g1 hi1 hb
    obtain ⟨z, i3, g3, e3, hz0, hz1, hi3⟩ := l01Byte_ok b i2 g2 hi2 hb
    obtain ⟨u, i4, g4, e4, hu0, hu1, hi4⟩ := l01Byte_ok b i3 g3 hi3 hb
    simp only [e1, e2, e3, e4, Option.bind_some]
    rw [if_neg (by omega)]
    rw [w64 (x := x * 16777216) (by omega) (by omega), w64 (x := y * 65536) (by omega) (by omega), w64 (x := z * 256) (by omega) (by omega), w64 (x := x * 16777216 + y * 65536) (by omega) (by omega), w64 (x := x * 16777216 + y * 65536 + z * 256) (by omega) (by omega), w64 (x := x * 16777216 + y * 65536 + z * 256 + u) (by omega) (by omega)]
    have := tmod_in (a := x * 16777216 + y * 65536 + z * 256 + u) (n := n) (by omega) (by omega)
    exact ⟨_, _, _, rfl, this.1, fun _ => this.2, by omega, hi4⟩
theorem l01New_l (b : List Int) (hb : b.length ≤ 140737488351232) (d : Nat) : ∀ (k : Nat) (x i : Int), 0 ≤ i → i ≤ (b.length : Int) → i + (d : Int) = (b.length : Int) → d < k →
    ∃ h, spec_l01New.l0 k b x i = some (b, 0, h) := by
  induction d with
  | zero =>
    intro k x i h0 h1 hi hk
    obtain ⟨k, rfl⟩ := succ_of hk
    simp only [spec_l01New.l0]
    rw [if_neg (by omega)]
    exact ⟨_, rfl⟩
  | succ d ih =>
    intro k x i h0 h1 hi hk
    obtain ⟨k, rfl⟩ := succ_of hk
    simp only [spec_l01New.l0]
    rw [if_pos (by omega)]
    by_cases h2 : i < 4000
    · rw [if_pos h2, if_pos h0, w64 (x := i + 1) (by omega) (by omega)]
      exact ih k _ (i + 1) (by omega) (by omega) (by omega) (by omega)
    · rw [if_neg h2]
      exact ⟨_, rfl⟩
theorem l01New_at (b : List Int) (hb : b.length ≤ 140737488351232) (k : Nat) (hk : b.length < k) : ∃ h, spec_l01New.f k b = some (b, 0, h) := by
  unfold spec_l01New.f
  exact l01New_l b hb b.length k _ 0 (by omega) (by omega) (by omega) hk
theorem l01PickInt_ok (b : List Int) (i h : Int) (l : List Int) (h0 : 0 ≤ i) (hb : b.length ≤ 140737488351232) (hl : 0 < l.length) :
    ∃ r i' h', spec_l01PickInt.f b i h l = some (r, i', h') ∧ r ∈ l ∧ 0 ≤ i' := by
  unfold spec_l01PickInt.f
  obtain ⟨r, i', h', e, hr0, hr1, _, hi'⟩ := l01Below_ok b i h (l.length : Int) h0 hb
  have hr := hr1 (by omega)
  simp only [e, Option.bind_some]
  rw [if_pos hr0, if_pos hr]
  exact ⟨_, _, _, rfl, List.mem_of_getElem? (rd_eq hr0 hr), hi'⟩
theorem places_l (b : List Int) (hb : b.length ≤ 140737488351232) (d : Nat) : ∀ (k : Nat) (acc : List Int) (j i h : Int), 0 ≤ j → 0 ≤ i → j + (d : Int) = 12 → acc.length + d = 12 → (∀ x ∈ acc, 0 ≤ x ∧ x < 10000) → d < k →
    ∃ r, spec_DrawPlaces.l0 k acc j b i h = some r ∧ r.length = 12 ∧ ∀ x ∈ r, 0 ≤ x ∧ x < 10000 := by
  induction d with
  | zero =>
    intro k acc j i h h0 hi0 hj hl ha hk
    obtain ⟨k, rfl⟩ := succ_of hk
    simp only [spec_DrawPlaces.l0]
    rw [if_neg (by omega)]
    exact ⟨_, rfl, by omega, ha⟩
  | succ d ih =>
    intro k acc j i h h0 hi0 hj hl ha hk
    obtain ⟨k, rfl⟩ := succ_of hk
    simp only [spec_DrawPlaces.l0]
    obtain ⟨r, i', h', e, hr0, hr1, _, hi'⟩ := l01Below_ok b i h 10000 hi0 hb
    rw [if_pos (by omega)]
    simp only [e, Option.bind_some]
    rw [if_pos (by omega), w64 (x := j + 1) (by omega) (by omega)]
    refine ih k _ (j + 1) i' h' (by omega) hi' (by omega) (by simp; omega) ?_ (by omega)
    intro x hx
    rcases List.mem_append.1 hx with hx | hx
    · exact ha x hx
    · rw [List.mem_singleton.1 hx]
      exact ⟨hr0, hr1 (by omega)⟩
theorem places_at (b : List Int) (hb : b.length ≤ 140737488351232) (k : Nat) (hk : b.length < k) (hk2 : 12 < k) :
    ∃ r, spec_DrawPlaces.f k b = some r ∧ r.length = 12 ∧ ∀ x ∈ r, 0 ≤ x ∧ x < 10000 := by
  unfold spec_DrawPlaces.f
  obtain ⟨h, e⟩ := l01New_at b hb k hk
  simp only [e, Option.bind_some]
  exact places_l b hb 12 k [] 0 0 h (by omega) (by omega) (by omega) (by simp) (by simp) hk2
theorem rd_all {P : Int → Prop} {l : List Int} (h : ∀ x ∈ l, P x) {i : Int} (h0 : 0 ≤ i) (h1 : i < (l.length : Int)) : P (rd l i) := h _ (List.mem_of_getElem? (rd_eq h0 h1))
theorem l17Energies_l (b : List Int) (hb : b.length ≤ 140737488351232) (d : Nat) : ∀ (k : Nat) (acc : List Int) (j i h : Int), 0 ≤ j → 0 ≤ i → j + (d : Int) = 8 → (acc.length : Int) = j → (∀ x ∈ acc, 0 ≤ x ∧ x < 250) → d < k →
    ∃ r i' h', spec_l17Energies.l0 k acc j b i h = some (r, i', h') ∧ r.length ≤ 8 ∧ (∀ x ∈ r, 0 ≤ x ∧ x < 250) ∧ 0 ≤ i' := by
  induction d with
  | zero =>
    intro k acc j i h h0 hi0 hj hl ha hk
    obtain ⟨k, rfl⟩ := succ_of hk
    simp only [spec_l17Energies.l0]
    obtain ⟨r, i', h', e, hr0, hr1, _, hi'⟩ := l01Below_ok b i h 9 hi0 hb
    have := hr1 (by omega)
    simp only [e, Option.bind_some]
    rw [if_neg (by omega)]
    exact ⟨_, _, _, rfl, by omega, ha, hi'⟩
  | succ d ih =>
    intro k acc j i h h0 hi0 hj hl ha hk
    obtain ⟨k, rfl⟩ := succ_of hk
    simp only [spec_l17Energies.l0]
    obtain ⟨r, i', h', e, hr0, hr1, _, hi'⟩ := l01Below_ok b i h 9 hi0 hb
    have := hr1 (by omega)
    simp only [e, Option.bind_some]
    by_cases hlt : j < r
    · obtain ⟨p, i1, g1, e1, hp, hi1⟩ := l01PickInt_ok b i' h' [12, 60, 250] hi' hb (by simp)
      have hp' : 0 < p ∧ p ≤ 250 := by
        simp only [List.mem_cons, List.not_mem_nil, or_false] at hp
        omega
      obtain ⟨q, i2, g2, e2, hq0, hq1, _, hi2⟩ := l01Below_ok b i1 g1 p hi1 hb
      have := hq1 (by omega)
      rw [if_pos hlt]
      simp only [e1, e2, Option.bind_some]
      rw [if_pos (by omega), w64 (x := j + 1) (by omega) (by omega)]
      exact ih k (acc ++ [q]) (j + 1) i2 g2 (by omega) hi2 (by omega) (by simp; omega) (by
        intro x hx
        rcases List.mem_append.1 hx with hx | hx
        · exact ha x hx
        · rw [List.mem_singleton.1 hx]
          omega) (by omega)
    · rw [if_neg hlt]
      exact ⟨_, _, _, rfl, by omega, ha, hi'⟩
theorem drawEnergies_at (b : List Int) (hb : b.length ≤ 140737488351232) (k : Nat) (hk : b.length < k) (hk2 : 8 < k) :
    ∃ r, spec_DrawEnergies.f k b = some r ∧ r.length ≤ 8 ∧ ∀ x ∈ r, 0 ≤ x ∧ x < 250 := by
  unfold spec_DrawEnergies.f spec_l17Energies.f
  obtain ⟨h, e⟩ := l01New_at b hb k hk
  simp only [e, Option.bind_some]
  obtain ⟨r, i', h', e', p1, p2, _⟩ := l17Energies_l b hb 8 k [] 0 0 h (by omega) (by omega) (by omega) (by simp) (by simp) hk2
  simp only [e', Option.bind_some]
  exact ⟨_, rfl, p1, p2⟩
theorem cappedI_l (y : Int) (l : List Int) (hl : l.length ≤ 1048576) (d : Nat) : ∀ (k : Nat) (acc : List Int) (i : Int), 0 ≤ i → i + (d : Int) = (l.length : Int) → acc.length + d ≤ 2097152 → d < k →
    impl_CappedEnergies.l0 k y acc l (l.length : Int) i = some (acc ++ (l.drop i.toNat).map fun x => mn x y) := by
  induction d with
  | zero =>
    intro k acc i h0 hi hb hk
    obtain ⟨k, rfl⟩ := succ_of hk
    simp only [impl_CappedEnergies.l0]
    rw [if_neg (by omega), List.drop_eq_nil_of_le (by omega)]
    simp
  | succ d ih =>
    intro k acc i h0 hi hb hk
    obtain ⟨k, rfl⟩ := succ_of hk
    simp only [impl_CappedEnergies.l0]
    rw [if_pos (by omega), if_pos h0, if_pos (by omega), if_pos (by omega), w64 (by omega) (by omega)]
    rw [ih k _ (i + 1) (by omega) (by omega) (by simp; omega) (by omega), drop_rd h0 (by omega)]
    simp
theorem cappedI_at (l : List Int) (y : Int) (hl : l.length ≤ 1048576) (k : Nat) (hk : l.length < k) : impl_CappedEnergies.f k l y = some (l.map fun x => mn x y) := by
  unfold impl_CappedEnergies.f
  rw [cappedI_l y l hl l.length k [] 0 (by omega) (by omega) (by simp; omega) hk]
  simp
theorem big_eq (l : List Int) : laws_big.f l = some (decide ((l.length : Int) > 1048576)) := rfl
theorem capped_law (m : Int) (l c : List Int) (hl : l.length ≤ 1048576) (hlc : c.length = l.length) (hc : ∀ i : Int, 0 ≤ i → i < (l.length : Int) → rd c i = mn (rd l i) m) (d : Nat) : ∀ (k : Nat) (i : Int), 0 ≤ i → i + (d : Int) = (l.length : Int) → d < k →
    laws_FnCapped.l0 k l m c i = some true := by
  induction d with
  | zero =>
    intro k i h0 hi hk
    obtain ⟨k, rfl⟩ := succ_of hk
    simp only [laws_FnCapped.l0]
    rw [if_neg (by omega)]
  | succ d ih =>
    intro k i h0 hi hk
    obtain ⟨k, rfl⟩ := succ_of hk
    simp only [laws_FnCapped.l0]
    have e := hc i h0 (by omega)
    have h := ih k (i + 1) (by omega) (by omega) (by omega)
    have e2 : mn (rd l i) m ≤ m ∧ (rd l i ≤ m → mn (rd l i) m = rd l i) := by
      unfold mn
      split <;> omega
    rw [if_pos (by omega), if_pos h0, if_pos (by omega), e, if_neg (by omega), w64 (by omega) (by omega), h]
    by_cases hle : rd l i ≤ m
    · rw [if_pos hle, if_pos (e2.2 hle)]
    · rw [if_neg hle]
theorem FnCapped : laws_FnCapped.Pure := by
  intro b _ _ _
  refine ⟨b.length + 20, ?_⟩
  unfold laws_FnCapped.f
  rw [big_eq]
  simp only [Option.bind_some, decide_eq_true_eq]
  by_cases hl : (b.length : Int) > 1048576
  · rw [if_pos hl]
  rw [if_neg hl]
  obtain ⟨r, er, r8, rb⟩ := drawEnergies_at b (by omega) (b.length + 20) (by omega) (by omega)
  obtain ⟨p, ep, p12, pb⟩ := places_at b (by omega) (b.length + 20) (by omega) (by omega)
  simp only [er, ep, Option.bind_some]
  rw [if_pos (by omega), cappedI_at r _ (by omega) (b.length + 20) (by omega)]
  simp only [Option.bind_some]
  rw [if_pos (by simp)]
  refine capped_law _ r _ (by omega) (by simp) (fun i h0 h1 => ?_) r.length (b.length + 20) 0 (by omega) (by omega) (by omega)
  have := rd_eq h0 h1
  have h2 := rd_eq (l := r.map fun x => mn x (Int.tmod (rd p 0) 200)) h0 (by simpa using h1)
  rw [List.getElem?_map, this] at h2
  exact (Option.some.inj h2).symm

end Go.Proofs.Ytonibkcjccloiaa.Pure
