/- The law FnTouched: for every input the function answers true. No condition. -/
import Derived.Test.YtidciciagoecjaaGx7
namespace Go.Proofs.Ytidciciagoecjaa.Pure
open Go.RowKit Go.Proofs.Ytidciciagoecjaa.G Go.Proofs.YtidciciagoecjaaW.PrintWords Go.Proofs.YtidciciagoecjaaW.PrintLast
set_option linter.unusedVariables false
set_option linter.unusedSimpArgs false

theorem w64 {x : Int} (h : -9223372036854775808 ≤ x) (h2 : x ≤ 9223372036854775807) : wrap64 x = x := by
  unfold wrap64
  omega
theorem wf_i64 {x : Int} (h : (Lit.int .i64 x).wf = true) : -9223372036854775808 ≤ x ∧ x ≤ 9223372036854775807 := by
  simp only [Lit.wf, IntKind.min, IntKind.max, IntKind.signed, IntKind.bits, Bool.and_eq_true, decide_eq_true_eq, if_true] at h
  omega
theorem succ_of {k d : Nat} (h : d < k) : ∃ m, k = m + 1 := ⟨k - 1, by omega⟩
theorem rd_eq {l : List Int} {i : Int} (h0 : 0 ≤ i) (h : i < (l.length : Int)) : l[i.toNat]? = some (rd l i) := by
  unfold rd
  rw [List.getD_eq_getElem?_getD, List.getElem?_eq_getElem (by omega)]
  rfl
theorem drop_rd {l : List Int} {i : Int} (h0 : 0 ≤ i) (h : i < (l.length : Int)) : l.drop i.toNat = rd l i :: l.drop (i + 1).toNat := by
  have h1 : i.toNat < l.length := by omega
  have h2 : (i + 1).toNat = i.toNat + 1 := by omega
  have h3 := rd_eq h0 h
  rw [h2, List.drop_eq_getElem_cons h1]
  rw [List.getElem?_eq_getElem h1] at h3
  rw [Option.some.inj h3]
/-- The numbers a, a + 1, .. : n of them. -/
def marks (a : Int) (n : Nat) : List Int := (List.range n).map fun j : Nat => a + (j : Int)
theorem marks_len (a : Int) (n : Nat) : (marks a n).length = n := by simp [marks]
theorem marks_get (a : Int) (n i : Nat) (h : i < n) : (marks a n)[i]? = some (a + (i : Int)) := by simp [marks, h]
theorem rd_all {P : Int → Prop} {l : List Int} (h : ∀ x ∈ l, P x) {i : Int} (h0 : 0 ≤ i) (h1 : i < (l.length : Int)) : P (rd l i) := h _ (List.mem_of_getElem? (rd_eq h0 h1))
theorem getD_rd {α : Type} (z : α) {l : List α} {i : Int} (h0 : 0 ≤ i) (h : i < (l.length : Int)) : l[i.toNat]? = some (l.getD i.toNat z) := by
  rw [List.getD_eq_getElem?_getD, List.getElem?_eq_getElem (by omega)]
  rfl
theorem drop_getD {α : Type} (z : α) {l : List α} {i : Int} (h0 : 0 ≤ i) (h : i < (l.length : Int)) : l.drop i.toNat = l.getD i.toNat z :: l.drop (i + 1).toNat := by
  have h1 : i.toNat < l.length := by omega
  have h2 : (i + 1).toNat = i.toNat + 1 := by omega
  have h3 := getD_rd z h0 h
  rw [h2, List.drop_eq_getElem_cons h1]
  rw [List.getElem?_eq_getElem h1] at h3
  rw [Option.some.inj h3]
theorem getD_mem {α : Type} (z : α) {l : List α} {i : Int} (h0 : 0 ≤ i) (h : i < (l.length : Int)) : l.getD i.toNat z ∈ l := List.mem_of_getElem? (getD_rd z h0 h)
theorem tmod_in {a n : Int} (ha : 0 ≤ a) (hn : 0 < n) : 0 ≤ Int.tmod a n ∧ Int.tmod a n < n := by
  rw [Int.tmod_eq_emod_of_nonneg ha]
  exact ⟨Int.emod_nonneg _ (by omega), Int.emod_lt_of_pos _ hn⟩
theorem within_eq (a b c : Int) : impl_within.f a b c = some (decide (b ≤ a ∧ a ≤ c)) := by
  unfold impl_within.f
  by_cases h : b ≤ a <;> simp [h]
theorem and_mask (x : Int) (m : Nat) (hm : m < 9223372036854775808) : 0 ≤ Go.bits .and .i64 x (m : Int) ∧ Go.bits .and .i64 x (m : Int) ≤ (m : Int) := by
  have hb : (BitVec.ofInt 64 (m : Int)).toNat = m := by
    rw [BitVec.ofInt_natCast, BitVec.toNat_ofNat]
    omega
  have h : ((BitVec.ofInt 64 x) &&& (BitVec.ofInt 64 (m : Int))).toNat ≤ m := by
    rw [BitVec.toNat_and, hb]
    exact Nat.and_le_right
  have e : Go.bits .and .i64 x (m : Int) = IntKind.i64.wrap (((BitVec.ofInt 64 x) &&& (BitVec.ofInt 64 (m : Int))).toNat : Int) := rfl
  rw [e, IntKind.wrap_i64]
  omega
theorem and255 (x : Int) : 0 ≤ Go.bits .and .i64 x 255 ∧ Go.bits .and .i64 x 255 ≤ 255 := and_mask x 255 (by omega)
theorem l01Byte_ok (b : List Int) (i h : Int) (h0 : 0 ≤ i) (hb : b.length ≤ 140737488351232) :
    ∃ r i' h', spec_l01Byte.f b i h = some (r, i', h') ∧ 0 ≤ r ∧ r ≤ 255 ∧ 0 ≤ i' := by
  unfold spec_l01Byte.f
  by_cases h1 : i < (b.length : Int)
  · rw [if_pos h1, if_pos h0, w64 (x := i + 1) (by omega) (by omega)]
    exact ⟨_, _, _, rfl, (and255 _).1, (and255 _).2, by omega⟩
  · rw [if_neg h1]
    exact ⟨_, _, _, rfl, (and255 _).1, (and255 _).2, h0⟩
theorem l01Below_ok (b : List Int) (i h n : Int) (h0 : 0 ≤ i) (hb : b.length ≤ 140737488351232) :
    ∃ r i' h', spec_l01Below.f b i h n = some (r, i', h') ∧ 0 ≤ r ∧ (0 < n → r < n) ∧ (n ≤ 0 → r = 0) ∧ 0 ≤ i' := by
  unfold spec_l01Below.f
  by_cases h1 : n ≤ 0
  · rw [if_pos h1]
    exact ⟨_, _, _, rfl, by omega, by omega, by omega, h0⟩
  rw [if_neg h1]
  by_cases h2 : n ≤ 256
  · obtain ⟨r, i', h', e, hr0, hr1, hi'⟩ := l01Byte_ok b i h h0 hb
    rw [if_pos h2, e]
    simp only [Option.bind_some]
    rw [if_neg (by omega)]
    have := tmod_in (a := r) (n := n) hr0 (by omega)
    exact ⟨_, _, _, rfl, this.1, fun _ => this.2, by omega, hi'⟩
  · rw [if_neg h2]
    obtain ⟨x, i1, g1, e1, hx0, hx1, hi1⟩ := l01Byte_ok b i h h0 hb
    obtain ⟨y, i2, g2, e2, hy0, hy1, hi2⟩ := l01Byte_ok b i1 g1 hi1 hb
    obtain ⟨z, i3, g3, e3, hz0, hz1, hi3⟩ := l01Byte_ok b i2 g2 hi2 hb
    obtain ⟨u, i4, g4, e4, hu0, hu1, hi4⟩ := l01Byte_ok b i3 g3 hi3 hb
    simp only [e1, e2, e3, e4, Option.bind_some]
    rw [if_neg (by omega)]
    rw [w64 (x := x * 16777216) (by omega) (by omega), w64 (x := y * 65536) (by omega) (by omega), w64 (x := z * 256) (by omega) (by omega), w64 (x := x * 16777216 + y * 65536) (by omega) (by omega), w64 (x := x * 16777216 + y * 65536 + z * 256) (by omega) (by omega), w64 (x := x * 16777216 + y * 65536 + z * 256 + u) (by omega) (by omega)]
    have := tmod_in (a := x * 16777216 + y * 65536 + z * 256 + u) (n := n) (by omega) (by omega)
    exact ⟨_, _, _, rfl, this.1, fun _ => this.2, by omega, hi4⟩
theorem l01New_l (b : List Int) (_hb : b.length ≤ 140737488351232) (d : Nat) : ∀ (k : Nat) (x i : Int), 0 ≤ i → i ≤ (b.length : Int) → i + (d : Int) = (b.length : Int) → d < k →
    ∃ h, spec_l01New.l0 k b x i = some (b, 0, h) := by
  induction d with
  | zero =>
    intro k x i h0 h1 hi hk
    obtain ⟨k, rfl⟩ := succ_of hk
    simp only [spec_l01New.l0]
    rw [if_neg (by omega)]
    exact ⟨_, rfl⟩
  | succ d ih =>
    intro k x i h0 h1 hi hk
    obtain ⟨k, rfl⟩ := succ_of hk
    simp only [spec_l01New.l0]
    rw [if_pos (by omega)]
    by_cases h2 : i < 4000
    · rw [if_pos h2, if_pos h0, w64 (x := i + 1) (by omega) (by omega)]
      exact ih k _ (i + 1) (by omega) (by omega) (by omega) (by omega)
    · rw [if_neg h2]
      exact ⟨_, rfl⟩
theorem l01New_at (b : List Int) (hb : b.length ≤ 140737488351232) (k : Nat) (hk : b.length < k) : ∃ h, spec_l01New.f k b = some (b, 0, h) := by
  unfold spec_l01New.f
  exact l01New_l b hb b.length k _ 0 (by omega) (by omega) (by omega) hk
theorem places_l (b : List Int) (hb : b.length ≤ 140737488351232) (d : Nat) : ∀ (k : Nat) (acc : List Int) (j i h : Int), 0 ≤ j → 0 ≤ i → j + (d : Int) = 12 → acc.length + d = 12 → (∀ x ∈ acc, 0 ≤ x ∧ x < 10000) → d < k →
    ∃ r, spec_DrawPlaces.l0 k acc j b i h = some r ∧ r.length = 12 ∧ ∀ x ∈ r, 0 ≤ x ∧ x < 10000 := by
  induction d with
  | zero =>
    intro k acc j i h h0 hi0 hj hl ha hk
    obtain ⟨k, rfl⟩ := succ_of hk
    simp only [spec_DrawPlaces.l0]
    rw [if_neg (by omega)]
    exact ⟨_, rfl, by omega, ha⟩
  | succ d ih =>
    intro k acc j i h h0 hi0 hj hl ha hk
    obtain ⟨k, rfl⟩ := succ_of hk
    simp only [spec_DrawPlaces.l0]
    obtain ⟨r, i', h', e, hr0, hr1, _, hi'⟩ := l01Below_ok b i h 10000 hi0 hb
    rw [if_pos (by omega)]
    simp only [e, Option.bind_some]
    rw [if_pos (by omega), w64 (x := j + 1) (by omega) (by omega)]
    refine ih k _ (j + 1) i' h' (by omega) hi' (by omega) (by simp; omega) ?_ (by omega)
    intro x hx
    rcases List.mem_append.1 hx with hx | hx
    · exact ha x hx
    · rw [List.mem_singleton.1 hx]
      exact ⟨hr0, hr1 (by omega)⟩
theorem places_at (b : List Int) (hb : b.length ≤ 140737488351232) (k : Nat) (hk : b.length < k) (hk2 : 12 < k) :
    ∃ r, spec_DrawPlaces.f k b = some r ∧ r.length = 12 ∧ ∀ x ∈ r, 0 ≤ x ∧ x < 10000 := by
  unfold spec_DrawPlaces.f
  obtain ⟨h, e⟩ := l01New_at b hb k hk
  simp only [e, Option.bind_some]
  exact places_l b hb 12 k [] 0 0 h (by omega) (by omega) (by omega) (by simp) (by simp) hk2
theorem drawWrites_m (b : List Int) (hb : b.length ≤ 140737488351232) (Q : List Int × List S31 → Prop)
    (next : ∀ (m : List Int) (i h : Int), m.length = 12 → (∀ x ∈ m, 0 ≤ x ∧ x < 99) → 0 ≤ i → ∀ k, 9 < k → ∃ r, spec_DrawWrites.l1 k m [] 0 b i h = some r ∧ Q r) (d : Nat) : ∀ (k : Nat) (m : List Int) (j i h : Int), 0 ≤ j → 0 ≤ i → j + (d : Int) = 12 → m.length = 12 → (∀ x ∈ m, 0 ≤ x ∧ x < 99) → d + 10 < k →
    ∃ r, spec_DrawWrites.l0 k m j b i h = some r ∧ Q r := by
  induction d with
  | zero =>
    intro k m j i h h0 hi0 hj hl hm hk
    obtain ⟨k, rfl⟩ := succ_of (show 0 < k by omega)
    simp only [spec_DrawWrites.l0]
    rw [if_neg (by omega)]
    exact next m i h hl hm hi0 k (by omega)
  | succ d ih =>
    intro k m j i h h0 hi0 hj hl hm hk
    obtain ⟨k, rfl⟩ := succ_of (show 0 < k by omega)
    simp only [spec_DrawWrites.l0]
    obtain ⟨r, i', h', e, hr0, hr1, _, hi'⟩ := l01Below_ok b i h 99 hi0 hb
    rw [if_pos (by omega)]
    simp only [e, Option.bind_some]
    rw [if_pos h0, if_pos (by omega), w64 (x := j + 1) (by omega) (by omega)]
    refine ih k _ (j + 1) i' h' (by omega) hi' (by omega) (by rw [List.length_set]; exact hl) ?_ (by omega)
    intro x hx
    rcases List.mem_or_eq_of_mem_set hx with hx | hx
    · exact hm x hx
    · rw [hx]
      exact ⟨hr0, hr1 (by omega)⟩
theorem drawWrites_w (b : List Int) (hb : b.length ≤ 140737488351232) (m : List Int) (d : Nat) : ∀ (k : Nat) (acc : List S31) (j i h : Int), 0 ≤ j → 0 ≤ i → j + (d : Int) = 8 → (acc.length : Int) = j → (∀ x ∈ acc, (0 ≤ x.f0 ∧ x.f0 < 12) ∧ 0 ≤ x.f1 ∧ x.f1 < 99) → d < k →
    ∃ w, spec_DrawWrites.l1 k m acc j b i h = some (m, w) ∧ w.length ≤ 8 ∧ ∀ x ∈ w, (0 ≤ x.f0 ∧ x.f0 < 12) ∧ 0 ≤ x.f1 ∧ x.f1 < 99 := by
  induction d with
  | zero =>
    intro k acc j i h h0 hi0 hj hl ha hk
    obtain ⟨k, rfl⟩ := succ_of hk
    simp only [spec_DrawWrites.l1]
    obtain ⟨r, i', h', e, hr0, hr1, _, hi'⟩ := l01Below_ok b i h 9 hi0 hb
    have := hr1 (by omega)
    simp only [e, Option.bind_some]
    rw [if_neg (by omega)]
    exact ⟨_, rfl, by omega, ha⟩
  | succ d ih =>
    intro k acc j i h h0 hi0 hj hl ha hk
    obtain ⟨k, rfl⟩ := succ_of (show 0 < k by omega)
    simp only [spec_DrawWrites.l1]
    obtain ⟨r, i', h', e, hr0, hr1, _, hi'⟩ := l01Below_ok b i h 9 hi0 hb
    simp only [e, Option.bind_some]
    by_cases hlt : j < r
    · rw [if_pos hlt]
      obtain ⟨r2, i2, g2, e2, q0, q1, _, hi2⟩ := l01Below_ok b i' h' 12 hi' hb
      obtain ⟨r3, i3, g3, e3, s0, s1, _, hi3⟩ := l01Below_ok b i2 g2 99 hi2 hb
      simp only [e2, e3, Option.bind_some]
      rw [if_pos (by omega), w64 (x := j + 1) (by omega) (by omega)]
      refine ih k _ (j + 1) i3 g3 (by omega) hi3 (by omega) (by simp; omega) ?_ (by omega)
      intro x hx
      rcases List.mem_append.1 hx with hx | hx
      · exact ha x hx
      · rw [List.mem_singleton.1 hx]
        exact ⟨⟨q0, q1 (by omega)⟩, s0, s1 (by omega)⟩
    · rw [if_neg hlt]
      exact ⟨_, rfl, by omega, ha⟩
theorem drawWrites_at (b : List Int) (hb : b.length ≤ 140737488351232) (k : Nat) (hk : b.length < k) (hk2 : 22 < k) :
    ∃ m w, spec_DrawWrites.f k b = some (m, w) ∧ m.length = 12 ∧ (∀ x ∈ m, 0 ≤ x ∧ x < 99) ∧ w.length ≤ 8 ∧ ∀ x ∈ w, (0 ≤ x.f0 ∧ x.f0 < 12) ∧ 0 ≤ x.f1 ∧ x.f1 < 99 := by
  unfold spec_DrawWrites.f
  obtain ⟨h, e⟩ := l01New_at b hb k hk
  simp only [e, Option.bind_some]
  rw [if_pos (by omega)]
  obtain ⟨⟨m, w⟩, e2, q1, q2, q3, q4⟩ := drawWrites_m b hb (fun r => r.1.length = 12 ∧ (∀ x ∈ r.1, 0 ≤ x ∧ x < 99) ∧ r.2.length ≤ 8 ∧ ∀ x ∈ r.2, (0 ≤ x.f0 ∧ x.f0 < 12) ∧ 0 ≤ x.f1 ∧ x.f1 < 99) (fun m i h hm hx hi k hk => by
    obtain ⟨w, e3, w1, w2⟩ := drawWrites_w b hb m 8 k [] 0 i h (by omega) hi (by omega) (by simp) (by simp) (by omega)
    exact ⟨_, e3, hm, hx, w1, w2⟩) 12 k (List.replicate 12 0) 0 0 h (by omega) (by omega) (by omega) (by simp) (by
    intro x hx
    rw [List.eq_of_mem_replicate hx]
    omega) (by omega)
  exact ⟨m, w, e2, q1, q2, q3, q4⟩
section
open Go.Lib
/-- Strictly ascending. -/
abbrev Asc (l : List Int) : Prop := l.Pairwise (· < ·)
theorem asc_ext : ∀ {a b : List Int}, Asc a → Asc b → (∀ x, x ∈ a ↔ x ∈ b) → a = b
  | [], [], _, _, _ => rfl
  | [], y :: ys, _, _, h => absurd ((h y).2 List.mem_cons_self) (by simp)
  | x :: xs, [], _, _, h => absurd ((h x).1 List.mem_cons_self) (by simp)
  | x :: xs, y :: ys, ha, hb, h => by
    rw [Asc, List.pairwise_cons] at ha hb
    have e : x = y := by
      have h1 := (h x).1 List.mem_cons_self
      have h2 := (h y).2 List.mem_cons_self
      rcases List.mem_cons.1 h1 with e | h1
      · exact e
      · rcases List.mem_cons.1 h2 with e | h2
        · exact e.symm
        · have := hb.1 x h1
          have := ha.1 y h2
          omega
    subst e
    rw [asc_ext ha.2 hb.2 (fun z => ?_)]
    have := h z
    simp only [List.mem_cons] at this
    constructor
    · intro hz
      rcases this.1 (.inr hz) with e | h
      · subst e
        have := ha.1 z hz
        omega
      · exact h
    · intro hz
      rcases this.2 (.inr hz) with e | h
      · subst e
        have := hb.1 z hz
        omega
      · exact h
theorem compactUpTo_sorted (d : Array Int) (hs : ∀ i j, i ≤ j → j < d.size → d[i]! ≤ d[j]!) : ∀ m, m ≤ d.size → Asc (compactUpTo d m) ∧ (∀ x ∈ compactUpTo d m, ∃ j, j < m ∧ d[j]! = x) ∧ ∀ j, j < m → d[j]! ∈ compactUpTo d m
  | 0, _ => by
    have e : compactUpTo d 0 = [] := by simp [compactUpTo]
    rw [e]
    exact ⟨List.Pairwise.nil, fun x hx => by simp at hx, fun j hj => by omega⟩
  | m + 1, hm => by
    obtain ⟨h1, h2, h3⟩ := compactUpTo_sorted d hs m (by omega)
    rw [compactUpTo_succ]
    by_cases hk : keeps d m = true
    · rw [if_pos hk]
      refine ⟨List.pairwise_append.2 ⟨h1, List.pairwise_singleton _ _, ?_⟩, ?_, ?_⟩
      · intro x hx y hy
        rw [List.mem_singleton] at hy
        subst hy
        obtain ⟨j, hj, rfl⟩ := h2 x hx
        have q := of_decide_eq_true hk
        have a1 := hs j (m - 1) (by omega) (by omega)
        have a2 := hs (m - 1) m (by omega) (by omega)
        have a3 : d[m]! ≠ d[m - 1]! := by
          rcases q with q | q
          · omega
          · exact q
        omega
      · intro x hx
        rcases List.mem_append.1 hx with hx | hx
        · obtain ⟨j, hj, e⟩ := h2 x hx
          exact ⟨j, by omega, e⟩
        · rw [List.mem_singleton] at hx
          exact ⟨m, by omega, hx.symm⟩
      · intro j hj
        by_cases e : j = m
        · subst e
          exact List.mem_append.2 (.inr (List.mem_singleton.2 rfl))
        · exact List.mem_append.2 (.inl (h3 j (by omega)))
    · rw [if_neg hk, List.append_nil]
      have q : ¬ (m = 0 ∨ d[m]! ≠ d[m - 1]!) := fun h => hk (decide_eq_true h)
      refine ⟨h1, fun x hx => ?_, fun j hj => ?_⟩
      · obtain ⟨j, hj, e⟩ := h2 x hx
        exact ⟨j, by omega, e⟩
      · by_cases e : j = m
        · subst e
          have e2 : d[j]! = d[j - 1]! := Classical.byContradiction fun h => q (.inr h)
          rw [e2]
          exact h3 (j - 1) (by omega)
        · exact h3 j (by omega)
/-- What slices.Sort and slices.Compact make of a list: its members, strictly ascending. -/
def touch (l : List Int) : List Int := compact (l.mergeSort fun x y => decide (x ≤ y))
theorem touch_at (l : List Int) : Asc (touch l) ∧ (∀ x, x ∈ touch l ↔ x ∈ l) ∧ (touch l).length ≤ l.length := by
  have hp : (l.mergeSort fun x y => decide (x ≤ y)).Pairwise (fun x y => decide (x ≤ y) = true) := List.pairwise_mergeSort (fun a b c h1 h2 => by simp only [decide_eq_true_eq] at *; omega) (fun a b => by simp only [Bool.or_eq_true, decide_eq_true_eq]; omega) l
  have hm : ∀ x, x ∈ (l.mergeSort fun x y => decide (x ≤ y)) ↔ x ∈ l := fun x => List.mem_mergeSort
  have hl : (l.mergeSort fun x y => decide (x ≤ y)).length = l.length := List.length_mergeSort l
  unfold touch
  generalize (l.mergeSort fun x y => decide (x ≤ y)) = z at hp hm hl
  have hs : ∀ i j, i ≤ j → j < z.toArray.size → z.toArray[i]! ≤ z.toArray[j]! := by
    intro i j hij hj
    have hj' : j < z.length := by simpa using hj
    by_cases e : i = j
    · subst e
      exact Int.le_refl _
    · have := List.pairwise_iff_getElem.1 hp i j (by omega) hj' (by omega)
      simpa [List.getElem!_toArray, hj', show i < z.length by omega] using this
  obtain ⟨h1, h2, h3⟩ := compactUpTo_sorted z.toArray hs z.length (by simp)
  refine ⟨h1, fun x => ?_, ?_⟩
  · rw [← hm]
    constructor
    · intro hx
      obtain ⟨j, hj, e⟩ := h2 x hx
      rw [← e]
      simp [hj]
    · intro hx
      obtain ⟨j, hj, e⟩ := List.mem_iff_getElem.1 hx
      have := h3 j hj
      simp [hj] at this
      rw [e] at this
      exact this
  · have : (compact z).length ≤ z.length := by
      unfold compact compactUpTo
      rw [List.length_map]
      have := List.length_filter_le (keeps z.toArray) (List.range z.length)
      rw [List.length_range] at this
      exact this
    omega
end
theorem touchI_at (l : List S31) (hl : l.length ≤ 1048576) : impl_TouchedWords.f l = some (touch (l.map (·.f0))) := by
  unfold impl_TouchedWords.f
  rw [if_pos (by omega)]
  rfl
theorem has_l (l : List Int) (hl : l.length ≤ 1048576) (x : Int) (d : Nat) : ∀ (k : Nat) (i : Int), 0 ≤ i → i + (d : Int) = (l.length : Int) → d < k →
    laws_has.l0 k l x i = some (decide (x ∈ l.drop i.toNat)) := by
  induction d with
  | zero =>
    intro k i h0 hi hk
    obtain ⟨k, rfl⟩ := succ_of hk
    simp only [laws_has.l0]
    rw [if_neg (by omega), List.drop_eq_nil_of_le (by omega)]
    simp
  | succ d ih =>
    intro k i h0 hi hk
    obtain ⟨k, rfl⟩ := succ_of hk
    simp only [laws_has.l0]
    rw [if_pos (by omega), if_pos h0, drop_rd h0 (by omega)]
    by_cases e : rd l i = x
    · rw [if_pos e]
      simp [e]
    · rw [if_neg e, w64 (by omega) (by omega), ih k (i + 1) (by omega) (by omega) (by omega)]
      have : ¬ x = rd l i := fun h => e h.symm
      simp [this]
theorem has_at (l : List Int) (hl : l.length ≤ 1048576) (x : Int) (k : Nat) (hk : l.length < k) : laws_has.f k l x = some (decide (x ∈ l)) := by
  unfold laws_has.f
  rw [has_l l hl x l.length k 0 (by omega) (by omega) hk]
  simp
theorem big_eq (l : List Int) : laws_big.f l = some (decide ((l.length : Int) > 1048576)) := rfl
theorem firstD_l (a c : List Int) (ha : a.length ≤ 1048576) (hc : c.length = a.length) (n : Int) (R : Int) (hR : ∀ i : Int, 0 ≤ i → i < (a.length : Int) → (rd a i = rd c i ∨ R = i)) (hE : (∀ i : Int, 0 ≤ i → i < (a.length : Int) → rd a i = rd c i) → R = -1)
    (d : Nat) : ∀ (k : Nat) (i : Int), 0 ≤ i → i + (d : Int) = (a.length : Int) → (∀ j : Int, 0 ≤ j → j < i → rd a j = rd c j) → d < k → impl_FirstDiffering.l0 k a c n (a.length : Int) i = some R := by
  induction d with
  | zero =>
    intro k i h0 hi hj hk
    obtain ⟨k, rfl⟩ := succ_of hk
    simp only [impl_FirstDiffering.l0]
    rw [if_neg (by omega), if_pos (by omega), hE (fun j q0 q1 => hj j q0 (by omega))]
  | succ d ih =>
    intro k i h0 hi hj hk
    obtain ⟨k, rfl⟩ := succ_of hk
    simp only [impl_FirstDiffering.l0]
    rw [if_pos (by omega), if_pos h0, if_pos (by omega), if_pos (by omega)]
    by_cases e : rd a i = rd c i
    · rw [if_pos e, w64 (by omega) (by omega)]
      exact ih k (i + 1) (by omega) (by omega) (fun j q0 q1 => by
        by_cases q : j = i
        · rw [q]
          exact e
        · exact hj j q0 (by omega)) (by omega)
    · rw [if_neg e]
      rcases hR i h0 (by omega) with q | q
      · exact absurd q e
      · rw [q]
theorem firstD_at (a c : List Int) (ha : a.length ≤ 1048576) (hc : c.length = a.length) (R : Int) (hR : ∀ i : Int, 0 ≤ i → i < (a.length : Int) → (rd a i = rd c i ∨ R = i)) (hE : (∀ i : Int, 0 ≤ i → i < (a.length : Int) → rd a i = rd c i) → R = -1) (k : Nat) (hk : a.length < k) : impl_FirstDiffering.f k a c = some R := by
  unfold impl_FirstDiffering.f mn
  rw [hc, if_neg (by omega)]
  exact firstD_l a c ha hc _ R hR hE a.length k 0 (by omega) (by omega) (fun j q0 q1 => by omega) hk
theorem FnTouched : laws_FnTouched.Pure := by
  intro b _ _ _
  refine ⟨b.length + 4000, ?_⟩
  unfold laws_FnTouched.f
  rw [big_eq]
  simp only [Option.bind_some, decide_eq_true_eq]
  by_cases hl : (b.length : Int) > 1048576
  · rw [if_pos hl]
  rw [if_neg hl]
  obtain ⟨m, w, e, m12, mb, w8, wb⟩ := drawWrites_at b (by omega) (b.length + 4000) (by omega) (by omega)
  obtain ⟨t1, t2, t3⟩ := touch_at (w.map (·.f0))
  rw [List.length_map] at t3
  rw [e]
  simp only [Option.bind_some]
  rw [touchI_at w (by omega)]
  simp only [Option.bind_some]
  have hin : ∀ x ∈ w, x.f0 ∈ touch (w.map (·.f0)) := fun x hx => (t2 _).2 (List.mem_map_of_mem hx)
  generalize touch (w.map (·.f0)) = T at *
  have fin : ∀ k, b.length + 1000 < k → ∀ i : Int, (T.length : Int) ≤ i → laws_FnTouched.l1 k b m w T i = some true := by
    intro k hk i hi
    obtain ⟨k, rfl⟩ := succ_of (show 0 < k by omega)
    obtain ⟨x, ex, x12, xb⟩ := places_at b (by omega) k (by omega) (by omega)
    rw [laws_FnTouched.l1, if_neg (by omega), ex]
    simp only [Option.bind_some]
    have hx1 := rd_all xb (i := 1) (by omega) (by omega)
    have hn := tmod_in (a := rd x 1) (n := (m.length : Int)) (by omega) (by omega)
    rw [if_pos (by omega), if_neg (by omega), if_pos hn.1, if_pos hn.2]
    generalize Int.tmod (rd x 1) (m.length : Int) = n at hn
    have hmn := rd_all mb hn.1 hn.2
    rw [w64 (by omega) (by omega)]
    unfold impl_WriteWord.f slices_Clone_int_int.f
    rw [if_pos (by omega)]
    simp only [Option.bind_some, within_eq]
    rw [w64 (by omega) (by omega), if_pos (by simp; omega), if_pos hn.1, if_pos hn.2]
    simp only [Option.bind_some]
    have hset : ∀ i : Int, 0 ≤ i → rd (m.set n.toNat (rd m n + 1)) i = if i = n then rd m n + 1 else rd m i := by
      intro i h0
      unfold rd
      rw [List.getD_eq_getElem?_getD, List.getElem?_set]
      by_cases q : i = n
      · rw [if_pos q, if_pos (by rw [q]), if_pos (by omega)]
        rfl
      · rw [if_neg q, if_neg (by omega), List.getD_eq_getElem?_getD]
    rw [firstD_at m (m.set n.toNat (rd m n + 1)) (by omega) (by simp) n (fun i h0 h1 => by
      rw [hset i h0]
      by_cases q : i = n
      · exact .inr q.symm
      · rw [if_neg q]
        exact .inl rfl) (fun h => by
      have := h n hn.1 hn.2
      rw [hset n hn.1, if_pos rfl] at this
      omega) k (by omega)]
    simp only [Option.bind_some, if_true]
    rw [firstD_at m m (by omega) rfl (-1) (fun i _ _ => .inl rfl) (fun _ => rfl) k (by omega)]
    simp only [Option.bind_some, if_true]
    rw [decide_eq_true (by omega)]
  have step1 : ∀ k, b.length + 2000 < k → laws_FnTouched.l1 k b m w T 1 = some true := fun k hk => by
    by_cases q : (T.length : Int) ≤ 1
    · exact fin k (by omega) 1 q
    · have go : ∀ (d : Nat) (k : Nat) (i : Int), 1 ≤ i → i + (d : Int) = (T.length : Int) → b.length + 1000 + d < k → laws_FnTouched.l1 k b m w T i = some true := by
        intro d
        induction d with
        | zero =>
          intro k i h1 hi hk
          exact fin k (by omega) i (by omega)
        | succ d ih =>
          intro k i h1 hi hk
          obtain ⟨k, rfl⟩ := succ_of (show 0 < k by omega)
          rw [laws_FnTouched.l1, if_pos (by omega), if_pos (by omega), w64 (x := i - 1) (by omega) (by omega), if_pos (by omega), if_pos (by omega)]
          have e1 := rd_eq (l := T) (i := i) (by omega) (by omega)
          have e2 := rd_eq (l := T) (i := i - 1) (by omega) (by omega)
          have l1 : i.toNat < T.length := by omega
          have l2 : (i - 1).toNat < T.length := by omega
          rw [List.getElem?_eq_getElem l1] at e1
          rw [List.getElem?_eq_getElem l2] at e2
          have := List.pairwise_iff_getElem.1 t1 (i - 1).toNat i.toNat l2 l1 (by omega)
          rw [← Option.some.inj e1, ← Option.some.inj e2, if_neg (by omega), w64 (by omega) (by omega)]
          exact ih k (i + 1) (by omega) (by omega) (by omega)
      exact go (T.length - 1) k 1 (by omega) (by omega) (by omega)
  have step0 : ∀ (d : Nat) (k : Nat) (i : Int), 0 ≤ i → i + (d : Int) = (w.length : Int) → b.length + 2001 + d < k → laws_FnTouched.l0 k b m w T i = some true := by
    intro d
    induction d with
    | zero =>
      intro k i h0 hi hk
      obtain ⟨k, rfl⟩ := succ_of (show 0 < k by omega)
      rw [laws_FnTouched.l0, if_neg (by omega)]
      exact step1 k (by omega)
    | succ d ih =>
      intro k i h0 hi hk
      obtain ⟨k, rfl⟩ := succ_of (show 0 < k by omega)
      rw [laws_FnTouched.l0, if_pos (by omega), if_pos h0, has_at T (by omega) _ k (by omega)]
      have hq : (rd_T31 w i).f0 ∈ T := hin _ (getD_mem z31 h0 (by omega))
      simp only [Option.bind_some, hq, decide_true, if_true]
      rw [w64 (by omega) (by omega)]
      exact ih k (i + 1) (by omega) (by omega) (by omega)
  exact step0 w.length (b.length + 4000) 0 (by omega) (by omega) (by omega)

end Go.Proofs.Ytidciciagoecjaa.Pure
