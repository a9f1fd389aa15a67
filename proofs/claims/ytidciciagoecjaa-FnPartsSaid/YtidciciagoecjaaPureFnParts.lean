/- The law FnParts: for every input the function answers true. No condition. -/
import Derived.Test.YtidciciagoecjaaGx8
namespace Go.Proofs.Ytidciciagoecjaa.Pure
open Go.RowKit Go.Proofs.Ytidciciagoecjaa.G Go.Proofs.YtidciciagoecjaaW.PrintWords Go.Proofs.YtidciciagoecjaaW.PrintLast
set_option linter.unusedVariables false
set_option linter.unusedSimpArgs false

theorem w64 {x : Int} (h : -9223372036854775808 ≤ x) (h2 : x ≤ 9223372036854775807) : wrap64 x = x := by
  unfold wrap64
  omega
theorem wf_i64 {x : Int} (h : (Lit.int .i64 x).wf = true) : -9223372036854775808 ≤ x ∧ x ≤ 9223372036854775807 := by
  simp only [Lit.wf, IntKind.min, IntKind.max, IntKind.signed, IntKind.bits, Bool.and_eq_true, decide_eq_true_eq, if_true] at h
  omega
theorem succ_of {k d : Nat} (h : d < k) : ∃ m, k = m + 1 := ⟨k - 1, by omega⟩
theorem rd_eq {l : List Int} {i : Int} (h0 : 0 ≤ i) (h : i < (l.length : Int)) : l[i.toNat]? = some (rd l i) := by
  unfold rd
  rw [List.getD_eq_getElem?_getD, List.getElem?_eq_getElem (by omega)]
  rfl
theorem drop_rd {l : List Int} {i : Int} (h0 : 0 ≤ i) (h : i < (l.length : Int)) : l.drop i.toNat = rd l i :: l.drop (i + 1).toNat := by
  have h1 : i.toNat < l.length := by omega
  have h2 : (i + 1).toNat = i.toNat + 1 := by omega
  have h3 := rd_eq h0 h
  rw [h2, List.drop_eq_getElem_cons h1]
  rw [List.getElem?_eq_getElem h1] at h3
  rw [Option.some.inj h3]
/-- The numbers a, a + 1, .. : n of them. -/
def marks (a : Int) (n : Nat) : List Int := (List.range n).map fun j : Nat => a + (j : Int)
theorem marks_len (a : Int) (n : Nat) : (marks a n).length = n := by simp [marks]
theorem marks_get (a : Int) (n i : Nat) (h : i < n) : (marks a n)[i]? = some (a + (i : Int)) := by simp [marks, h]
theorem rd_all {P : Int → Prop} {l : List Int} (h : ∀ x ∈ l, P x) {i : Int} (h0 : 0 ≤ i) (h1 : i < (l.length : Int)) : P (rd l i) := h _ (List.mem_of_getElem? (rd_eq h0 h1))
theorem getD_rd {α : Type} (z : α) {l : List α} {i : Int} (h0 : 0 ≤ i) (h : i < (l.length : Int)) : l[i.toNat]? = some (l.getD i.toNat z) := by
  rw [List.getD_eq_getElem?_getD, List.getElem?_eq_getElem (by omega)]
  rfl
theorem drop_getD {α : Type} (z : α) {l : List α} {i : Int} (h0 : 0 ≤ i) (h : i < (l.length : Int)) : l.drop i.toNat = l.getD i.toNat z :: l.drop (i + 1).toNat := by
  have h1 : i.toNat < l.length := by omega
  have h2 : (i + 1).toNat = i.toNat + 1 := by omega
  have h3 := getD_rd z h0 h
  rw [h2, List.drop_eq_getElem_cons h1]
  rw [List.getElem?_eq_getElem h1] at h3
  rw [Option.some.inj h3]
theorem getD_mem {α : Type} (z : α) {l : List α} {i : Int} (h0 : 0 ≤ i) (h : i < (l.length : Int)) : l.getD i.toNat z ∈ l := List.mem_of_getElem? (getD_rd z h0 h)
theorem tmod_in {a n : Int} (ha : 0 ≤ a) (hn : 0 < n) : 0 ≤ Int.tmod a n ∧ Int.tmod a n < n := by
  rw [Int.tmod_eq_emod_of_nonneg ha]
  exact ⟨Int.emod_nonneg _ (by omega), Int.emod_lt_of_pos _ hn⟩
theorem within_eq (a b c : Int) : impl_within.f a b c = some (decide (b ≤ a ∧ a ≤ c)) := by
  unfold impl_within.f
  by_cases h : b ≤ a <;> simp [h]
theorem and_mask (x : Int) (m : Nat) (hm : m < 9223372036854775808) : 0 ≤ Go.bits .and .i64 x (m : Int) ∧ Go.bits .and .i64 x (m : Int) ≤ (m : Int) := by
  have hb : (BitVec.ofInt 64 (m : Int)).toNat = m := by
    rw [BitVec.ofInt_natCast, BitVec.toNat_ofNat]
    omega
  have h : ((BitVec.ofInt 64 x) &&& (BitVec.ofInt 64 (m : Int))).toNat ≤ m := by
    rw [BitVec.toNat_and, hb]
    exact Nat.and_le_right
  have e : Go.bits .and .i64 x (m : Int) = IntKind.i64.wrap (((BitVec.ofInt 64 x) &&& (BitVec.ofInt 64 (m : Int))).toNat : Int) := rfl
  rw [e, IntKind.wrap_i64]
  omega
theorem and255 (x : Int) : 0 ≤ Go.bits .and .i64 x 255 ∧ Go.bits .and .i64 x 255 ≤ 255 := and_mask x 255 (by omega)
theorem l01Byte_ok (b : List Int) (i h : Int) (h0 : 0 ≤ i) (hb : b.length ≤ 140737488351232) :
    ∃ r i' h', spec_l01Byte.f b i h = some (r, i', h') ∧ 0 ≤ r ∧ r ≤ 255 ∧ 0 ≤ i' := by
  unfold spec_l01Byte.f
  by_cases h1 : i < (b.length : Int)
  · rw [if_pos h1, if_pos h0, w64 (x := i + 1) (by omega) (by omega)]
    exact ⟨_, _, _, rfl, (and255 _).1, (and255 _).2, by omega⟩
  · rw [if_neg h1]
    exact ⟨_, _, _, rfl, (and255 _).1, (and255 _).2, h0⟩
theorem l01Below_ok (b : List Int) (i h n : Int) (h0 : 0 ≤ i) (hb : b.length ≤ 140737488351232) :
    ∃ r i' h', spec_l01Below.f b i h n = some (r, i', h') ∧ 0 ≤ r ∧ (0 < n → r < n) ∧ (n ≤ 0 → r = 0) ∧ 0 ≤ i' := by
  unfold spec_l01Below.f
  by_cases h1 : n ≤ 0
  · rw [if_pos h1]
    exact ⟨_, _, _, rfl, by omega, by omega, by omega, h0⟩
  rw [if_neg h1]
  by_cases h2 : n ≤ 256
  · obtain ⟨r, i', h', e, hr0, hr1, hi'⟩ := l01Byte_ok b i h h0 hb
    rw [if_pos h2, e]
    simp only [Option.bind_some]
    rw [if_neg (by omega)]
    have := tmod_in (a := r) (n := n) hr0 (by omega)
    exact ⟨_, _, _, rfl, this.1, fun _ => this.2, by omega, hi'⟩
  · rw [if_neg h2]
    obtain ⟨x, i1, g1, e1, hx0, hx1, hi1⟩ := l01Byte_ok b i h h0 hb
    obtain ⟨y, i2, g2, e2, hy0, hy1, hi2⟩ := l01Byte_ok b i1 g1 hi1 hb
    obtain ⟨z, i3, g3, e3, hz0, hz1, hi3⟩ := l01Byte_ok b i2 g2 hi2 hb
    obtain ⟨u, i4, g4, e4, hu0, hu1, hi4⟩ := l01Byte_ok b i3 g3 hi3 hb
    simp only [e1, e2, e3, e4, Option.bind_some]
    rw [if_neg (by omega)]
    rw [w64 (x := x * 16777216) (by omega) (by omega), w64 (x := y * 65536) (by omega) (by omega), w64 (x := z * 256) (by omega) (by omega), w64 (x := x * 16777216 + y * 65536) (by omega) (by omega), w64 (x := x * 16777216 + y * 65536 + z * 256) (by omega) (by omega), w64 (x := x * 16777216 + y * 65536 + z * 256 + u) (by omega) (by omega)]
    have := tmod_in (a := x * 16777216 + y * 65536 + z * 256 + u) (n := n) (by omega) (by omega)
    exact ⟨_, _, _, rfl, this.1, fun _ => this.2, by omega, hi4⟩
theorem l01New_l (b : List Int) (_hb : b.length ≤ 140737488351232) (d : Nat) : ∀ (k : Nat) (x i : Int), 0 ≤ i → i ≤ (b.length : Int) → i + (d : Int) = (b.length : Int) → d < k →
    ∃ h, spec_l01New.l0 k b x i = some (b, 0, h) := by
  induction d with
  | zero =>
    intro k x i h0 h1 hi hk
    obtain ⟨k, rfl⟩ := succ_of hk
    simp only [spec_l01New.l0]
    rw [if_neg (by omega)]
    exact ⟨_, rfl⟩
  | succ d ih =>
    intro k x i h0 h1 hi hk
    obtain ⟨k, rfl⟩ := succ_of hk
    simp only [spec_l01New.l0]
    rw [if_pos (by omega)]
    by_cases h2 : i < 4000
    · rw [if_pos h2, if_pos h0, w64 (x := i + 1) (by omega) (by omega)]
      exact ih k _ (i + 1) (by omega) (by omega) (by omega) (by omega)
    · rw [if_neg h2]
      exact ⟨_, rfl⟩
theorem l01New_at (b : List Int) (hb : b.length ≤ 140737488351232) (k : Nat) (hk : b.length < k) : ∃ h, spec_l01New.f k b = some (b, 0, h) := by
  unfold spec_l01New.f
  exact l01New_l b hb b.length k _ 0 (by omega) (by omega) (by omega) hk
theorem places_l (b : List Int) (hb : b.length ≤ 140737488351232) (d : Nat) : ∀ (k : Nat) (acc : List Int) (j i h : Int), 0 ≤ j → 0 ≤ i → j + (d : Int) = 12 → acc.length + d = 12 → (∀ x ∈ acc, 0 ≤ x ∧ x < 10000) → d < k →
    ∃ r, spec_DrawPlaces.l0 k acc j b i h = some r ∧ r.length = 12 ∧ ∀ x ∈ r, 0 ≤ x ∧ x < 10000 := by
  induction d with
  | zero =>
    intro k acc j i h h0 hi0 hj hl ha hk
    obtain ⟨k, rfl⟩ := succ_of hk
    simp only [spec_DrawPlaces.l0]
    rw [if_neg (by omega)]
    exact ⟨_, rfl, by omega, ha⟩
  | succ d ih =>
    intro k acc j i h h0 hi0 hj hl ha hk
    obtain ⟨k, rfl⟩ := succ_of hk
    simp only [spec_DrawPlaces.l0]
    obtain ⟨r, i', h', e, hr0, hr1, _, hi'⟩ := l01Below_ok b i h 10000 hi0 hb
    rw [if_pos (by omega)]
    simp only [e, Option.bind_some]
    rw [if_pos (by omega), w64 (x := j + 1) (by omega) (by omega)]
    refine ih k _ (j + 1) i' h' (by omega) hi' (by omega) (by simp; omega) ?_ (by omega)
    intro x hx
    rcases List.mem_append.1 hx with hx | hx
    · exact ha x hx
    · rw [List.mem_singleton.1 hx]
      exact ⟨hr0, hr1 (by omega)⟩
theorem places_at (b : List Int) (hb : b.length ≤ 140737488351232) (k : Nat) (hk : b.length < k) (hk2 : 12 < k) :
    ∃ r, spec_DrawPlaces.f k b = some r ∧ r.length = 12 ∧ ∀ x ∈ r, 0 ≤ x ∧ x < 10000 := by
  unfold spec_DrawPlaces.f
  obtain ⟨h, e⟩ := l01New_at b hb k hk
  simp only [e, Option.bind_some]
  exact places_l b hb 12 k [] 0 0 h (by omega) (by omega) (by omega) (by simp) (by simp) hk2
theorem drawWrites_m (b : List Int) (hb : b.length ≤ 140737488351232) (Q : List Int × List S31 → Prop)
    (next : ∀ (m : List Int) (i h : Int), m.length = 12 → (∀ x ∈ m, 0 ≤ x ∧ x < 99) → 0 ≤ i → ∀ k, 9 < k → ∃ r, spec_DrawWrites.l1 k m [] 0 b i h = some r ∧ Q r) (d : Nat) : ∀ (k : Nat) (m : List Int) (j i h : Int), 0 ≤ j → 0 ≤ i → j + (d : Int) = 12 → m.length = 12 → (∀ x ∈ m, 0 ≤ x ∧ x < 99) → d + 10 < k →
    ∃ r, spec_DrawWrites.l0 k m j b i h = some r ∧ Q r := by
  induction d with
  | zero =>
    intro k m j i h h0 hi0 hj hl hm hk
    obtain ⟨k, rfl⟩ := succ_of (show 0 < k by omega)
    simp only [spec_DrawWrites.l0]
    rw [if_neg (by omega)]
    exact next m i h hl hm hi0 k (by omega)
  | succ d ih =>
    intro k m j i h h0 hi0 hj hl hm hk
    obtain ⟨k, rfl⟩ := succ_of (show 0 < k by omega)
    simp only [spec_DrawWrites.l0]
    obtain ⟨r, i', h', e, hr0, hr1, _, hi'⟩ := l01Below_ok b i h 99 hi0 hb
    rw [if_pos (by omega)]
    simp only [e, Option.bind_some]
    rw [if_pos h0, if_pos (by omega), w64 (x := j + 1) (by omega) (by omega)]
    refine ih k _ (j + 1) i' h' (by omega) hi' (by omega) (by rw [List.length_set]; exact hl) ?_ (by omega)
    intro x hx
    rcases List.mem_or_eq_of_mem_set hx with hx | hx
    · exact hm x hx
    · rw [hx]
      exact ⟨hr0, hr1 (by omega)⟩
theorem drawWrites_w (b : List Int) (hb : b.length ≤ 140737488351232) (m : List Int) (d : Nat) : ∀ (k : Nat) (acc : List S31) (j i h : Int), 0 ≤ j → 0 ≤ i → j + (d : Int) = 8 → (acc.length : Int) = j → (∀ x ∈ acc, (0 ≤ x.f0 ∧ x.f0 < 12) ∧ 0 ≤ x.f1 ∧ x.f1 < 99) → d < k →
    ∃ w, spec_DrawWrites.l1 k m acc j b i h = some (m, w) ∧ w.length ≤ 8 ∧ ∀ x ∈ w, (0 ≤ x.f0 ∧ x.f0 < 12) ∧ 0 ≤ x.f1 ∧ x.f1 < 99 := by
  induction d with
  | zero =>
    intro k acc j i h h0 hi0 hj hl ha hk
    obtain ⟨k, rfl⟩ := succ_of hk
    simp only [spec_DrawWrites.l1]
    obtain ⟨r, i', h', e, hr0, hr1, _, hi'⟩ := l01Below_ok b i h 9 hi0 hb
    have := hr1 (by omega)
    simp only [e, Option.bind_some]
    rw [if_neg (by omega)]
    exact ⟨_, rfl, by omega, ha⟩
  | succ d ih =>
    intro k acc j i h h0 hi0 hj hl ha hk
    obtain ⟨k, rfl⟩ := succ_of (show 0 < k by omega)
    simp only [spec_DrawWrites.l1]
    obtain ⟨r, i', h', e, hr0, hr1, _, hi'⟩ := l01Below_ok b i h 9 hi0 hb
    simp only [e, Option.bind_some]
    by_cases hlt : j < r
    · rw [if_pos hlt]
      obtain ⟨r2, i2, g2, e2, q0, q1, _, hi2⟩ := l01Below_ok b i' h' 12 hi' hb
      obtain ⟨r3, i3, g3, e3, s0, s1, _, hi3⟩ := l01Below_ok b i2 g2 99 hi2 hb
      simp only [e2, e3, Option.bind_some]
      rw [if_pos (by omega), w64 (x := j + 1) (by omega) (by omega)]
      refine ih k _ (j + 1) i3 g3 (by omega) hi3 (by omega) (by simp; omega) ?_ (by omega)
      intro x hx
      rcases List.mem_append.1 hx with hx | hx
      · exact ha x hx
      · rw [List.mem_singleton.1 hx]
        exact ⟨⟨q0, q1 (by omega)⟩, s0, s1 (by omega)⟩
    · rw [if_neg hlt]
      exact ⟨_, rfl, by omega, ha⟩
theorem drawWrites_at (b : List Int) (hb : b.length ≤ 140737488351232) (k : Nat) (hk : b.length < k) (hk2 : 22 < k) :
    ∃ m w, spec_DrawWrites.f k b = some (m, w) ∧ m.length = 12 ∧ (∀ x ∈ m, 0 ≤ x ∧ x < 99) ∧ w.length ≤ 8 ∧ ∀ x ∈ w, (0 ≤ x.f0 ∧ x.f0 < 12) ∧ 0 ≤ x.f1 ∧ x.f1 < 99 := by
  unfold spec_DrawWrites.f
  obtain ⟨h, e⟩ := l01New_at b hb k hk
  simp only [e, Option.bind_some]
  rw [if_pos (by omega)]
  obtain ⟨⟨m, w⟩, e2, q1, q2, q3, q4⟩ := drawWrites_m b hb (fun r => r.1.length = 12 ∧ (∀ x ∈ r.1, 0 ≤ x ∧ x < 99) ∧ r.2.length ≤ 8 ∧ ∀ x ∈ r.2, (0 ≤ x.f0 ∧ x.f0 < 12) ∧ 0 ≤ x.f1 ∧ x.f1 < 99) (fun m i h hm hx hi k hk => by
    obtain ⟨w, e3, w1, w2⟩ := drawWrites_w b hb m 8 k [] 0 i h (by omega) hi (by omega) (by simp) (by simp) (by omega)
    exact ⟨_, e3, hm, hx, w1, w2⟩) 12 k (List.replicate 12 0) 0 0 h (by omega) (by omega) (by omega) (by simp) (by
    intro x hx
    rw [List.eq_of_mem_replicate hx]
    omega) (by omega)
  exact ⟨m, w, e2, q1, q2, q3, q4⟩
/-- A memory behind these writes. -/
def apW : List S31 → List Int → List Int
  | [], m => m
  | w :: t, m => apW t (if 0 ≤ w.f0 ∧ w.f0 ≤ (m.length : Int) - 1 then m.set w.f0.toNat w.f1 else m)
theorem apW_len : ∀ (l : List S31) (m : List Int), (apW l m).length = m.length
  | [], m => rfl
  | w :: t, m => by
    rw [apW, apW_len t]
    split
    · simp
    · rfl
theorem applyI_l (l : List S31) (hl : l.length ≤ 1048576) (d : Nat) : ∀ (k : Nat) (m : List Int) (i : Int), m.length ≤ 1048576 → 0 ≤ i → i + (d : Int) = (l.length : Int) → d < k →
    impl_ApplyWrites.l0 k m l (l.length : Int) i = some (apW (l.drop i.toNat) m) := by
  induction d with
  | zero =>
    intro k m i hm h0 hi hk
    obtain ⟨k, rfl⟩ := succ_of hk
    simp only [impl_ApplyWrites.l0]
    rw [if_neg (by omega), List.drop_eq_nil_of_le (by omega)]
    rfl
  | succ d ih =>
    intro k m i hm h0 hi hk
    obtain ⟨k, rfl⟩ := succ_of hk
    simp only [impl_ApplyWrites.l0, within_eq, Option.bind_some, decide_eq_true_eq]
    rw [if_pos (by omega), if_pos h0, if_pos (by omega), w64 (x := (m.length : Int) - 1) (by omega) (by omega), w64 (x := i + 1) (by omega) (by omega), drop_getD z31 h0 (by omega), apW]
    change (if 0 ≤ (rd_T31 l i).f0 ∧ (rd_T31 l i).f0 ≤ (m.length : Int) - 1 then _ else _) = some (apW _ (if 0 ≤ (rd_T31 l i).f0 ∧ (rd_T31 l i).f0 ≤ (m.length : Int) - 1 then m.set (rd_T31 l i).f0.toNat (rd_T31 l i).f1 else m))
    by_cases e : 0 ≤ (rd_T31 l i).f0 ∧ (rd_T31 l i).f0 ≤ (m.length : Int) - 1
    · rw [if_pos e, if_pos e, if_pos e.1, if_pos (by omega)]
      exact ih k _ (i + 1) (by simpa using hm) (by omega) (by omega) (by omega)
    · rw [if_neg e, if_neg e]
      exact ih k _ (i + 1) hm (by omega) (by omega) (by omega)
theorem applyI_at (l : List S31) (hl : l.length ≤ 1048576) (m : List Int) (hm : m.length ≤ 1048576) (k : Nat) (hk : l.length < k) :
    impl_ApplyWrites.f k m l (l.length : Int) = some (apW l m) := by
  unfold impl_ApplyWrites.f slices_Clone_int_int.f impl_Clamp.f mn mx
  rw [if_pos (by omega), if_neg (by omega)]
  simp only [Option.bind_some]
  have e1 : (if (l.length : Int) < (if (l.length : Int) < 0 then 0 else (l.length : Int)) then (l.length : Int) else (if (l.length : Int) < 0 then 0 else (l.length : Int))) = (l.length : Int) := by
    rw [if_neg (by omega), if_neg (by omega)]
  rw [e1, if_pos (by omega), if_pos (by omega), Int.toNat_natCast, List.take_length, applyI_l l hl l.length k m 0 hm (by omega) (by omega) hk]
  simp
section
open Go.Lib
/-- Strictly ascending. -/
abbrev Asc (l : List Int) : Prop := l.Pairwise (· < ·)
theorem asc_ext : ∀ {a b : List Int}, Asc a → Asc b → (∀ x, x ∈ a ↔ x ∈ b) → a = b
  | [], [], _, _, _ => rfl
  | [], y :: ys, _, _, h => absurd ((h y).2 List.mem_cons_self) (by simp)
  | x :: xs, [], _, _, h => absurd ((h x).1 List.mem_cons_self) (by simp)
  | x :: xs, y :: ys, ha, hb, h => by
    rw [Asc, List.pairwise_cons] at ha hb
    have e : x = y := by
      have h1 := (h x).1 List.mem_cons_self
      have h2 := (h y).2 List.mem_cons_self
      rcases List.mem_cons.1 h1 with e | h1
      · exact e
      · rcases List.mem_cons.1 h2 with e | h2
        · exact e.symm
        · have := hb.1 x h1
          have := ha.1 y h2
          omega
    subst e
    rw [asc_ext ha.2 hb.2 (fun z => ?_)]
    have := h z
    simp only [List.mem_cons] at this
    constructor
    · intro hz
      rcases this.1 (.inr hz) with e | h
      · subst e
        have := ha.1 z hz
        omega
      · exact h
    · intro hz
      rcases this.2 (.inr hz) with e | h
      · subst e
        have := hb.1 z hz
        omega
      · exact h
theorem compactUpTo_sorted (d : Array Int) (hs : ∀ i j, i ≤ j → j < d.size → d[i]! ≤ d[j]!) : ∀ m, m ≤ d.size → Asc (compactUpTo d m) ∧ (∀ x ∈ compactUpTo d m, ∃ j, j < m ∧ d[j]! = x) ∧ ∀ j, j < m → d[j]! ∈ compactUpTo d m
  | 0, _ => by
    have e : compactUpTo d 0 = [] := by simp [compactUpTo]
    rw [e]
    exact ⟨List.Pairwise.nil, fun x hx => by simp at hx, fun j hj => by omega⟩
  | m + 1, hm => by
    obtain ⟨h1, h2, h3⟩ := compactUpTo_sorted d hs m (by omega)
    rw [compactUpTo_succ]
    by_cases hk : keeps d m = true
    · rw [if_pos hk]
      refine ⟨List.pairwise_append.2 ⟨h1, List.pairwise_singleton _ _, ?_⟩, ?_, ?_⟩
      · intro x hx y hy
        rw [List.mem_singleton] at hy
        subst hy
        obtain ⟨j, hj, rfl⟩ := h2 x hx
        have q := of_decide_eq_true hk
        have a1 := hs j (m - 1) (by omega) (by omega)
        have a2 := hs (m - 1) m (by omega) (by omega)
        have a3 : d[m]! ≠ d[m - 1]! := by
          rcases q with q | q
          · omega
          · exact q
        omega
      · intro x hx
        rcases List.mem_append.1 hx with hx | hx
        · obtain ⟨j, hj, e⟩ := h2 x hx
          exact ⟨j, by omega, e⟩
        · rw [List.mem_singleton] at hx
          exact ⟨m, by omega, hx.symm⟩
      · intro j hj
        by_cases e : j = m
        · subst e
          exact List.mem_append.2 (.inr (List.mem_singleton.2 rfl))
        · exact List.mem_append.2 (.inl (h3 j (by omega)))
    · rw [if_neg hk, List.append_nil]
      have q : ¬ (m = 0 ∨ d[m]! ≠ d[m - 1]!) := fun h => hk (decide_eq_true h)
      refine ⟨h1, fun x hx => ?_, fun j hj => ?_⟩
      · obtain ⟨j, hj, e⟩ := h2 x hx
        exact ⟨j, by omega, e⟩
      · by_cases e : j = m
        · subst e
          have e2 : d[j]! = d[j - 1]! := Classical.byContradiction fun h => q (.inr h)
          rw [e2]
          exact h3 (j - 1) (by omega)
        · exact h3 j (by omega)
/-- What slices.Sort and slices.Compact make of a list: its members, strictly ascending. -/
def touch (l : List Int) : List Int := compact (l.mergeSort fun x y => decide (x ≤ y))
theorem touch_at (l : List Int) : Asc (touch l) ∧ (∀ x, x ∈ touch l ↔ x ∈ l) ∧ (touch l).length ≤ l.length := by
  have hp : (l.mergeSort fun x y => decide (x ≤ y)).Pairwise (fun x y => decide (x ≤ y) = true) := List.pairwise_mergeSort (fun a b c h1 h2 => by simp only [decide_eq_true_eq] at *; omega) (fun a b => by simp only [Bool.or_eq_true, decide_eq_true_eq]; omega) l
  have hm : ∀ x, x ∈ (l.mergeSort fun x y => decide (x ≤ y)) ↔ x ∈ l := fun x => List.mem_mergeSort
  have hl : (l.mergeSort fun x y => decide (x ≤ y)).length = l.length := List.length_mergeSort l
  unfold touch
  generalize (l.mergeSort fun x y => decide (x ≤ y)) = z at hp hm hl
  have hs : ∀ i j, i ≤ j → j < z.toArray.size → z.toArray[i]! ≤ z.toArray[j]! := by
    intro i j hij hj
    have hj' : j < z.length := by simpa using hj
    by_cases e : i = j
    · subst e
      exact Int.le_refl _
    · have := List.pairwise_iff_getElem.1 hp i j (by omega) hj' (by omega)
      simpa [List.getElem!_toArray, hj', show i < z.length by omega] using this
  obtain ⟨h1, h2, h3⟩ := compactUpTo_sorted z.toArray hs z.length (by simp)
  refine ⟨h1, fun x => ?_, ?_⟩
  · rw [← hm]
    constructor
    · intro hx
      obtain ⟨j, hj, e⟩ := h2 x hx
      rw [← e]
      simp [hj]
    · intro hx
      obtain ⟨j, hj, e⟩ := List.mem_iff_getElem.1 hx
      have := h3 j hj
      simp [hj] at this
      rw [e] at this
      exact this
  · have : (compact z).length ≤ z.length := by
      unfold compact compactUpTo
      rw [List.length_map]
      have := List.length_filter_le (keeps z.toArray) (List.range z.length)
      rw [List.length_range] at this
      exact this
    omega
end
theorem touchI_at (l : List S31) (hl : l.length ≤ 1048576) : impl_TouchedWords.f l = some (touch (l.map (·.f0))) := by
  unfold impl_TouchedWords.f
  rw [if_pos (by omega)]
  rfl
theorem has_l (l : List Int) (hl : l.length ≤ 1048576) (x : Int) (d : Nat) : ∀ (k : Nat) (i : Int), 0 ≤ i → i + (d : Int) = (l.length : Int) → d < k →
    laws_has.l0 k l x i = some (decide (x ∈ l.drop i.toNat)) := by
  induction d with
  | zero =>
    intro k i h0 hi hk
    obtain ⟨k, rfl⟩ := succ_of hk
    simp only [laws_has.l0]
    rw [if_neg (by omega), List.drop_eq_nil_of_le (by omega)]
    simp
  | succ d ih =>
    intro k i h0 hi hk
    obtain ⟨k, rfl⟩ := succ_of hk
    simp only [laws_has.l0]
    rw [if_pos (by omega), if_pos h0, drop_rd h0 (by omega)]
    by_cases e : rd l i = x
    · rw [if_pos e]
      simp [e]
    · rw [if_neg e, w64 (by omega) (by omega), ih k (i + 1) (by omega) (by omega) (by omega)]
      have : ¬ x = rd l i := fun h => e h.symm
      simp [this]
theorem has_at (l : List Int) (hl : l.length ≤ 1048576) (x : Int) (k : Nat) (hk : l.length < k) : laws_has.f k l x = some (decide (x ∈ l)) := by
  unfold laws_has.f
  rw [has_l l hl x l.length k 0 (by omega) (by omega) hk]
  simp
theorem sameInts_l (a : List Int) (hb : a.length ≤ 35184372088832) (d : Nat) : ∀ (k : Nat) (i : Int), 0 ≤ i → i + (d : Int) = (a.length : Int) → d < k →
    laws_sameInts.l0 k a a i = some true := by
  induction d with
  | zero =>
    intro k i h0 hi hk
    obtain ⟨k, rfl⟩ := succ_of hk
    simp only [laws_sameInts.l0]
    rw [if_neg (by omega)]
  | succ d ih =>
    intro k i h0 hi hk
    obtain ⟨k, rfl⟩ := succ_of hk
    simp only [laws_sameInts.l0]
    rw [if_pos (by omega), if_pos h0, if_pos (by omega), if_pos trivial, w64 (by omega) (by omega)]
    exact ih k (i + 1) (by omega) (by omega) (by omega)
theorem sameInts_at (a : List Int) (hb : a.length ≤ 35184372088832) (k : Nat) (hk : a.length < k) : laws_sameInts.f k a a = some true := by
  unfold laws_sameInts.f
  rw [if_pos rfl]
  exact sameInts_l a hb a.length k 0 (by omega) (by omega) hk
theorem big_eq (l : List Int) : laws_big.f l = some (decide ((l.length : Int) > 1048576)) := rfl
theorem applyI_any (l : List S31) (hl : l.length ≤ 1048576) (m : List Int) (hm : m.length ≤ 1048576) (n : Int) (hn : 0 ≤ n) (k : Nat) (hk : l.length < k) :
    impl_ApplyWrites.f k m l n = some (apW (l.take n.toNat) m) := by
  unfold impl_ApplyWrites.f slices_Clone_int_int.f impl_Clamp.f mn mx
  rw [if_pos (by omega), if_neg (by omega)]
  simp only [Option.bind_some]
  generalize ht : (if (l.length : Int) < (if n < 0 then 0 else n) then (l.length : Int) else (if n < 0 then 0 else n)) = t
  have h1 : 0 ≤ t ∧ t ≤ (l.length : Int) ∧ l.take t.toNat = l.take n.toNat := by
    rw [if_neg (show ¬ (n < 0) by omega)] at ht
    by_cases c : (l.length : Int) < n
    · rw [if_pos c] at ht
      refine ⟨by omega, by omega, ?_⟩
      rw [List.take_of_length_le (by omega), List.take_of_length_le (by omega)]
    · rw [if_neg c] at ht
      exact ⟨by omega, by omega, by rw [ht]⟩
  rw [if_pos h1.1, if_pos h1.2.1, h1.2.2]
  have hL : (l.take n.toNat).length ≤ l.length := by rw [List.length_take]; omega
  rw [applyI_l (l.take n.toNat) (by omega) (l.take n.toNat).length k m 0 hm (by omega) (by omega) (by omega)]
  simp
theorem apW_app : ∀ (l1 l2 : List S31) (m : List Int), apW (l1 ++ l2) m = apW l2 (apW l1 m)
  | [], l2, m => rfl
  | w :: t, l2, m => by
    rw [List.cons_append, apW, apW, apW_app t l2]
theorem apW_other (i : Int) (i0 : 0 ≤ i) : ∀ (l : List S31) (m : List Int), (∀ x ∈ l, x.f0 ≠ i) → rd (apW l m) i = rd m i
  | [], m, _ => rfl
  | w :: t, m, h => by
    rw [apW, apW_other i i0 t _ (fun x hx => h x (by simp [hx]))]
    split
    · rename_i c
      have hne := h w (by simp)
      unfold rd
      rw [List.getD_eq_getElem?_getD, List.getElem?_set_ne (by omega), List.getD_eq_getElem?_getD]
    · rfl
theorem FnParts : laws_FnParts.Pure := by
  intro b _ _ _
  refine ⟨b.length + 4000, ?_⟩
  unfold laws_FnParts.f
  rw [big_eq]
  simp only [Option.bind_some, decide_eq_true_eq]
  by_cases hl : (b.length : Int) > 1048576
  · rw [if_pos hl]
  rw [if_neg hl]
  obtain ⟨m, w, e, m12, mb, w8, wb⟩ := drawWrites_at b (by omega) (b.length + 4000) (by omega) (by omega)
  obtain ⟨x, ex, x12, xb⟩ := places_at b (by omega) (b.length + 4000) (by omega) (by omega)
  have hx0 := rd_all xb (i := 0) (by omega) (by omega)
  rw [e, ex]
  simp only [Option.bind_some]
  rw [w64 (by omega) (by omega), if_pos (by omega), if_neg (by omega)]
  have hn := tmod_in (a := rd x 0) (n := (w.length : Int) + 1) (by omega) (by omega)
  generalize Int.tmod (rd x 0) ((w.length : Int) + 1) = n at hn
  have ht1 : (w.take n.toNat).length ≤ 8 := by rw [List.length_take]; omega
  have ht2 : (w.drop n.toNat).length ≤ 8 := by rw [List.length_drop]; omega
  have la := apW_len (w.take n.toNat) m
  rw [applyI_any w (by omega) m (by omega) n hn.1 _ (by omega)]
  simp only [Option.bind_some]
  rw [if_pos hn.1, if_pos (by omega), applyI_any (w.drop n.toNat) (by omega) _ (by omega) (w.length : Int) (by omega) _ (by omega)]
  simp only [Option.bind_some]
  rw [applyI_any w (by omega) m (by omega) (w.length : Int) (by omega) _ (by omega)]
  simp only [Option.bind_some]
  rw [touchI_at (w.take n.toNat) (by omega)]
  simp only [Option.bind_some]
  rw [if_pos (by omega), Int.toNat_natCast, List.take_length, List.take_of_length_le (l := w.drop n.toNat) (by rw [List.length_drop]; omega)]
  have eall : apW w m = apW (w.drop n.toNat) (apW (w.take n.toNat) m) := by rw [← apW_app, List.take_append_drop]
  have lall := apW_len w m
  rw [← eall, sameInts_at _ (by omega) _ (by omega)]
  simp only [Option.bind_some, Bool.not_true]
  obtain ⟨t1, t2, t3⟩ := touch_at ((w.take n.toNat).map (·.f0))
  rw [List.length_map] at t3
  have hother : ∀ i : Int, 0 ≤ i → i ∉ touch ((w.take n.toNat).map (·.f0)) → rd (apW (w.take n.toNat) m) i = rd m i := fun i i0 hi => apW_other i i0 _ m (fun y hy ey => hi ((t2 i).2 (ey ▸ List.mem_map_of_mem hy)))
  generalize touch ((w.take n.toNat).map (·.f0)) = T at *
  generalize apW (w.take n.toNat) m = A at *
  have go : ∀ (d : Nat) (k : Nat) (i : Int), 0 ≤ i → i + (d : Int) = (m.length : Int) → d + 100 < k → laws_FnParts.l0 k m A T i = some true := by
    intro d
    induction d with
    | zero =>
      intro k i h0 hi hk
      obtain ⟨k, rfl⟩ := succ_of (show 0 < k by omega)
      rw [laws_FnParts.l0, if_neg (by omega)]
    | succ d ih =>
      intro k i h0 hi hk
      obtain ⟨k, rfl⟩ := succ_of (show 0 < k by omega)
      rw [laws_FnParts.l0, if_pos (by omega), has_at T (by omega) _ k (by omega)]
      simp only [Option.bind_some, decide_eq_true_eq]
      rw [w64 (by omega) (by omega)]
      by_cases c : i ∈ T
      · rw [if_pos c]
        exact ih k (i + 1) (by omega) (by omega) (by omega)
      · rw [if_neg c, if_pos h0, if_pos (by omega), if_pos (hother i h0 c)]
        exact ih k (i + 1) (by omega) (by omega) (by omega)
  rw [show b.length + 4000 = (b.length + 3999) + 1 from rfl, laws_FnParts.j0, if_neg (by decide)]
  exact go m.length (b.length + 3999) 0 (by omega) (by omega) (by omega)

end Go.Proofs.Ytidciciagoecjaa.Pure
