/- The law FnBootEnergies: for every input the function answers true. No condition. -/
import Derived.Test.YtlcgohhcoalahaaGx38
namespace Go.Proofs.Ytlcgohhcoalahaa.Pure
open Go.RowKit Go.Proofs.Ytlcgohhcoalahaa.G Go.Proofs.YtlcgohhcoalahaaW.PrintWords Go.Proofs.YtlcgohhcoalahaaW.PrintLast

theorem w64 {x : Int} (h : -9223372036854775808 ≤ x) (h2 : x ≤ 9223372036854775807) : wrap64 x = x := by
  unfold wrap64
  omega
theorem wf_i64 {x : Int} (h : (Lit.int .i64 x).wf = true) : -9223372036854775808 ≤ x ∧ x ≤ 9223372036854775807 := by
  simp only [Lit.wf, IntKind.min, IntKind.max, IntKind.signed, IntKind.bits, Bool.and_eq_true, decide_eq_true_eq, if_true] at h
  omega
theorem succ_of {k d : Nat} (h : d < k) : ∃ m, k = m + 1 := ⟨k - 1, by omega⟩
theorem rd_eq {l : List Int} {i : Int} (h0 : 0 ≤ i) (h : i < (l.length : Int)) : l[i.toNat]? = some (rd l i) := by
  unfold rd
  rw [List.getD_eq_getElem?_getD, List.getElem?_eq_getElem (by omega)]
  rfl
theorem drop_rd {l : List Int} {i : Int} (h0 : 0 ≤ i) (h : i < (l.length : Int)) : l.drop i.toNat = rd l i :: l.drop (i + 1).toNat := by
  have h1 : i.toNat < l.length := by omega
  have h2 : (i + 1).toNat = i.toNat + 1 := by omega
  have h3 := rd_eq h0 h
  rw [h2, List.drop_eq_getElem_cons h1]
  rw [List.getElem?_eq_getElem h1] at h3
  rw [Option.some.inj h3]
/-- The numbers a, a + 1, .. : n of them. -/
def marks (a : Int) (n : Nat) : List Int := (List.range n).map fun j : Nat => a + (j : Int)
theorem marks_len (a : Int) (n : Nat) : (marks a n).length = n := by simp [marks]
theorem marks_get (a : Int) (n i : Nat) (h : i < n) : (marks a n)[i]? = some (a + (i : Int)) := by simp [marks, h]
theorem rd_all {P : Int → Prop} {l : List Int} (h : ∀ x ∈ l, P x) {i : Int} (h0 : 0 ≤ i) (h1 : i < (l.length : Int)) : P (rd l i) := h _ (List.mem_of_getElem? (rd_eq h0 h1))
theorem tmod_in {a n : Int} (ha : 0 ≤ a) (hn : 0 < n) : 0 ≤ Int.tmod a n ∧ Int.tmod a n < n := by
  rw [Int.tmod_eq_emod_of_nonneg ha]
  exact ⟨Int.emod_nonneg _ (by omega), Int.emod_lt_of_pos _ hn⟩
theorem within_eq (a b c : Int) : impl_within.f a b c = some (decide (b ≤ a ∧ a ≤ c)) := by
  unfold impl_within.f
  by_cases h : b ≤ a <;> simp [h]
theorem and_mask (x : Int) (m : Nat) (hm : m < 9223372036854775808) : 0 ≤ Go.bits .and .i64 x (m : Int) ∧ Go.bits .and .i64 x (m : Int) ≤ (m : Int) := by
  have hb : (BitVec.ofInt 64 (m : Int)).toNat = m := by
    rw [BitVec.ofInt_natCast, BitVec.toNat_ofNat]
    omega
  have h : ((BitVec.ofInt 64 x) &&& (BitVec.ofInt 64 (m : Int))).toNat ≤ m := by
    rw [BitVec.toNat_and, hb]
    exact Nat.and_le_right
  have e : Go.bits .and .i64 x (m : Int) = IntKind.i64.wrap (((BitVec.ofInt 64 x) &&& (BitVec.ofInt 64 (m : Int))).toNat : Int) := rfl
  rw [e, IntKind.wrap_i64]
  omega
theorem and255 (x : Int) : 0 ≤ Go.bits .and .i64 x 255 ∧ Go.bits .and .i64 x 255 ≤ 255 := and_mask x 255 (by omega)
theorem l01Byte_ok (b : List Int) (i h : Int) (h0 : 0 ≤ i) (hb : b.length ≤ 140737488351232) :
    ∃ r i' h', spec_l01Byte.f b i h = some (r, i', h') ∧ 0 ≤ r ∧ r ≤ 255 ∧ 0 ≤ i' := by
  unfold spec_l01Byte.f
  by_cases h1 : i < (b.length : Int)
  · rw [if_pos h1, if_pos h0, w64 (x := i + 1) (by omega) (by omega)]
    exact ⟨_, _, _, rfl, (and255 _).1, (and255 _).2, by omega⟩
  · rw [if_neg h1]
    exact ⟨_, _, _, rfl, (and255 _).1, (and255 _).2, h0⟩
theorem l01Below_ok (b : List Int) (i h n : Int) (h0 : 0 ≤ i) (hb : b.length ≤ 140737488351232) :
    ∃ r i' h', spec_l01Below.f b i h n = some (r, i', h') ∧ 0 ≤ r ∧ (0 < n → r < n) ∧ (n ≤ 0 → r = 0) ∧ 0 ≤ i' := by
  unfold spec_l01Below.f
  by_cases h1 : n ≤ 0
  · rw [if_pos h1]
    exact ⟨_, _, _, rfl, by omega, by omega, by omega, h0⟩
  rw [if_neg h1]
  by_cases h2 : n ≤ 256
  · obtain ⟨r, i', h', e, hr0, hr1, hi'⟩ := l01Byte_ok b i h h0 hb
    rw [if_pos h2, e]
    simp only [Option.bind_some]
    rw [if_neg (by omega)]
    have := tmod_in (a := r) (n := n) hr0 (by omega)
    exact ⟨_, _, _, rfl, this.1, fun _ => this.2, by omega, hi'⟩
  · rw [if_neg h2]
    obtain ⟨x, i1, g1, e1, hx0, hx1, hi1⟩ := l01Byte_ok b i h h0 hb
    obtain ⟨y, i2, g2, e2, hy0, hy1, hi2⟩ := l01Byte_ok b i1 g1 hi1 hb
    obtain ⟨z, i3, g3, e3, hz0, hz1, hi3⟩ := l01Byte_ok b i2 g2 hi2 hb
    obtain ⟨u, i4, g4, e4, hu0, hu1, hi4⟩ := l01Byte_ok b i3 g3 hi3 hb
    simp only [e1, e2, e3, e4, Option.bind_some]
    rw [if_neg (by omega)]
    rw [w64 (x := x * 16777216) (by omega) (by omega), w64 (x := y * 65536) (by omega) (by omega), w64 (x := z * 256) (by omega) (by omega), w64 (x := x * 16777216 + y * 65536) (by omega) (by omega), w64 (x := x * 16777216 + y * 65536 + z * 256) (by omega) (by omega), w64 (x := x * 16777216 + y * 65536 + z * 256 + u) (by omega) (by omega)]
    have := tmod_in (a := x * 16777216 + y * 65536 + z * 256 + u) (n := n) (by omega) (by omega)
    exact ⟨_, _, _, rfl, this.1, fun _ => this.2, by omega, hi4⟩
theorem l01New_l (b : List Int) (_hb : b.length ≤ 140737488351232) (d : Nat) : ∀ (k : Nat) (x i : Int), 0 ≤ i → i ≤ (b.length : Int) → i + (d : Int) = (b.length : Int) → d < k →
    ∃ h, spec_l01New.l0 k b x i = some (b, 0, h) := by
  induction d with
  | zero =>
    intro k x i h0 h1 hi hk
    obtain ⟨k, rfl⟩ := succ_of hk
    simp only [spec_l01New.l0]
    rw [if_neg (by omega)]
    exact ⟨_, rfl⟩
  | succ d ih =>
    intro k x i h0 h1 hi hk
    obtain ⟨k, rfl⟩ := succ_of hk
    simp only [spec_l01New.l0]
    rw [if_pos (by omega)]
    by_cases h2 : i < 4000
    · rw [if_pos h2, if_pos h0, w64 (x := i + 1) (by omega) (by omega)]
      exact ih k _ (i + 1) (by omega) (by omega) (by omega) (by omega)
    · rw [if_neg h2]
      exact ⟨_, rfl⟩
theorem l01New_at (b : List Int) (hb : b.length ≤ 140737488351232) (k : Nat) (hk : b.length < k) : ∃ h, spec_l01New.f k b = some (b, 0, h) := by
  unfold spec_l01New.f
  exact l01New_l b hb b.length k _ 0 (by omega) (by omega) (by omega) hk
theorem l01PickInt_ok (b : List Int) (i h : Int) (l : List Int) (h0 : 0 ≤ i) (hb : b.length ≤ 140737488351232) (hl : 0 < l.length) :
    ∃ r i' h', spec_l01PickInt.f b i h l = some (r, i', h') ∧ r ∈ l ∧ 0 ≤ i' := by
  unfold spec_l01PickInt.f
  obtain ⟨r, i', h', e, hr0, hr1, _, hi'⟩ := l01Below_ok b i h (l.length : Int) h0 hb
  have hr := hr1 (by omega)
  simp only [e, Option.bind_some]
  rw [if_pos hr0, if_pos hr]
  exact ⟨_, _, _, rfl, List.mem_of_getElem? (rd_eq hr0 hr), hi'⟩
/-- A store is valid. -/
def sOk (a b c d : Int) : Bool := decide (1 ≤ b ∧ b ≤ 5000) && (decide (0 ≤ a ∧ a ≤ b) && (decide (1 ≤ c ∧ c ≤ b) && decide (0 ≤ d ∧ d ≤ 100)))
theorem sOk_iff {a b c d : Int} : sOk a b c d = true ↔ (1 ≤ b ∧ b ≤ 5000) ∧ (0 ≤ a ∧ a ≤ b) ∧ (1 ≤ c ∧ c ≤ b) ∧ (0 ≤ d ∧ d ≤ 100) := by
  simp only [sOk, Bool.and_eq_true, decide_eq_true_eq]
theorem storeOkI_eq (a b c d : Int) : impl_StoreOk.f a b c d = some (sOk a b c d) := by
  unfold impl_StoreOk.f sOk
  simp only [within_eq, Option.bind_some]
  by_cases h1 : 1 ≤ b ∧ b ≤ 5000
  · by_cases h2 : 0 ≤ a ∧ a ≤ b
    · by_cases h3 : 1 ≤ c ∧ c ≤ b
      · simp [h1, h2, h3]
      · simp [h1, h2, h3]
    · simp [h1, h2]
  · simp [h1]
/-- The charge behind a tick. -/
def tickC (a b d h : Int) : Int := if a + h - d < 0 then 0 else if a + h - d > b then b else a + h - d
theorem tickI_eq {a b c d h : Int} (ok : sOk a b c d = true) (h0 : 0 ≤ h) (h1 : h ≤ 1000) : impl_Store_tick.f a b c d h = some (tickC a b d h, b, c, d) := by
  obtain ⟨hb, ha, hc, hd⟩ := sOk_iff.1 ok
  unfold impl_Store_tick.f impl_Clamp.f tickC mn mx
  rw [w64 (x := a + h) (by omega) (by omega), w64 (by omega) (by omega), if_neg (by omega)]
  simp only [Option.bind_some, Option.some.injEq, Prod.mk.injEq, and_true]
  by_cases e : a + h - d < 0
  · rw [if_pos e, if_pos e, if_neg (by omega)]
  · rw [if_neg e, if_neg e]
theorem isHarvest_eq (h : Int) : impl_isHarvest.f h = some (decide (0 ≤ h ∧ h ≤ 1000)) := by
  unfold impl_isHarvest.f
  rw [within_eq]
  rfl
/-- All are energies that a tick may bring. -/
def hOk (l : List Int) : Bool := l.all fun x => harvP x
theorem hOk_iff {l : List Int} : hOk l = true ↔ ∀ x ∈ l, 0 ≤ x ∧ x ≤ 1000 := by
  simp only [hOk, List.all_eq_true, harvP, decide_eq_true_eq]
theorem areHarvests_eq (l : List Int) : impl_areHarvests.f l = some (hOk l) := by
  unfold impl_areHarvests.f hOk
  rw [List.all_eq_not_any_not]
/-- A run of ticks: the energies with which the computer is switched on, and what is lost. -/
def hv (b c d : Int) : List Int → Int → List Int → Int → List Int × Int
  | [], _, es, w => (es, w)
  | h :: t, a, es, w => if tickC a b d h ≥ c then hv b c d t 0 (es ++ [tickC a b d h]) (w + mx 0 (a + h - d - b)) else hv b c d t (tickC a b d h) es (w + mx 0 (a + h - d - b))
theorem tickC_ok' {a b c d h : Int} (ok : sOk a b c d = true) (_h0 : 0 ≤ h) (_h1 : h ≤ 1000) : sOk (tickC a b d h) b c d = true := by
  obtain ⟨hb, ha, hc, hd⟩ := sOk_iff.1 ok
  refine sOk_iff.2 ⟨hb, ?_, hc, hd⟩
  unfold tickC
  split
  · omega
  · split <;> omega
theorem sOk_zero {a b c d : Int} (ok : sOk a b c d = true) : sOk 0 b c d = true := by
  obtain ⟨hb, ha, hc, hd⟩ := sOk_iff.1 ok
  exact sOk_iff.2 ⟨hb, by omega, hc, hd⟩
theorem mx_waste {a b c d h : Int} (ok : sOk a b c d = true) (h0 : 0 ≤ h) (h1 : h ≤ 1000) : 0 ≤ mx 0 (a + h - d - b) ∧ mx 0 (a + h - d - b) ≤ 6000 := by
  obtain ⟨hb, ha, hc, hd⟩ := sOk_iff.1 ok
  unfold mx
  split <;> omega
/-- The store is valid, there are not too many ticks, and each brings a valid energy. -/
def runOk (a b c d : Int) (l : List Int) : Bool := sOk a b c d && (decide ((l.length : Int) ≤ 500) && hOk l)
theorem runOk_iff {a b c d : Int} {l : List Int} : runOk a b c d l = true ↔ sOk a b c d = true ∧ (l.length : Int) ≤ 500 ∧ hOk l = true := by
  simp only [runOk, Bool.and_eq_true, decide_eq_true_eq]
theorem hv_len (b c d : Int) : ∀ (l : List Int) (a : Int) (es : List Int) (w : Int), (hv b c d l a es w).1.length ≤ es.length + l.length
  | [], a, es, w => by simp [hv]
  | h :: t, a, es, w => by
    rw [hv.eq_2]
    split
    · have := hv_len b c d t 0 (es ++ [tickC a b d h]) (w + mx 0 (a + h - d - b))
      simp only [List.length_append, List.length_cons, List.length_nil] at *
      omega
    · have := hv_len b c d t (tickC a b d h) es (w + mx 0 (a + h - d - b))
      simp only [List.length_cons] at *
      omega
theorem harvI_l (b c d : Int) (l : List Int) (hl : l.length ≤ 500) (hh : hOk l = true) (n : Nat) : ∀ (k : Nat) (a w i : Int) (es : List Int), sOk a b c d = true → 0 ≤ w → w + 6000 * (n : Int) ≤ 3000000 → es.length + n ≤ 500 → 0 ≤ i → i + (n : Int) = (l.length : Int) → n < k →
    impl_harvested.l0 k es w l (l.length : Int) i a b c d = some ((hv b c d (l.drop i.toNat) a es w).1, (hv b c d (l.drop i.toNat) a es w).2, true) := by
  induction n with
  | zero =>
    intro k a w i es ok hw0 hw1 he h0 hi hk
    obtain ⟨k, rfl⟩ := succ_of hk
    simp only [impl_harvested.l0]
    rw [if_neg (by omega), List.drop_eq_nil_of_le (by omega)]
    rfl
  | succ n ih =>
    intro k a w i es ok hw0 hw1 he h0 hi hk
    obtain ⟨k, rfl⟩ := succ_of hk
    have hx := rd_all (hOk_iff.1 hh) h0 (by omega)
    have hm := mx_waste ok hx.1 hx.2
    obtain ⟨hb, ha, hc, hd⟩ := sOk_iff.1 ok
    simp only [impl_harvested.l0]
    rw [if_pos (by omega), if_pos h0, if_pos (by omega), drop_rd h0 (by omega), tickI_eq ok hx.1 hx.2, hv.eq_2]
    simp only [Option.bind_some]
    rw [w64 (x := a + rd l i) (by omega) (by omega), w64 (x := a + rd l i - d) (by omega) (by omega), w64 (x := a + rd l i - d - b) (by omega) (by omega), w64 (x := w + mx 0 (a + rd l i - d - b)) (by omega) (by omega), w64 (x := i + 1) (by omega) (by omega)]
    by_cases e : tickC a b d (rd l i) ≥ c
    · rw [if_pos e, if_pos e, if_pos (by omega)]
      exact ih k 0 _ (i + 1) _ (sOk_zero ok) (by omega) (by omega) (by simp only [List.length_append, List.length_cons, List.length_nil]; omega) (by omega) (by omega) (by omega)
    · rw [if_neg e, if_neg e]
      exact ih k _ _ (i + 1) _ (tickC_ok' ok hx.1 hx.2) (by omega) (by omega) (by omega) (by omega) (by omega) (by omega)
theorem harvI_at (a b c d : Int) (l : List Int) (hl : l.length ≤ 1048576) (k : Nat) (hk : 510 < k) : impl_harvested.f k a b c d l = some (if runOk a b c d l = true then ((hv b c d l a [] 0).1, (hv b c d l a [] 0).2, true) else ([], 0, false)) := by
  obtain ⟨k, rfl⟩ := succ_of hk
  unfold impl_harvested.f
  rw [storeOkI_eq, areHarvests_eq]
  simp only [Option.bind_some, impl_harvested.j0]
  by_cases ok : sOk a b c d = true
  · by_cases hlen : (l.length : Int) > 500
    · have n : runOk a b c d l = false := by
        cases e : runOk a b c d l
        · rfl
        · have := (runOk_iff.1 e).2.1
          omega
      simp only [ok, hlen, if_true, n, Bool.false_eq_true, if_false]
    · by_cases hh : hOk l = true
      · have n : runOk a b c d l = true := runOk_iff.2 ⟨ok, by omega, hh⟩
        simp only [ok, hlen, hh, n, if_true, Bool.not_true, Bool.false_eq_true, if_false]
        rw [harvI_l b c d l (by omega) hh l.length k a 0 0 [] ok (by omega) (by omega) (by simp only [List.length_nil]; omega) (by omega) (by omega) (by omega)]
        simp
      · have n : runOk a b c d l = false := by simp [runOk, hh]
        simp [ok, hlen, hh, n]
  · have n : runOk a b c d l = false := by simp [runOk, ok]
    simp [ok, n]
theorem wasteI_at (a b c d : Int) (l : List Int) (hl : l.length ≤ 1048576) (k : Nat) (hk : 510 < k) : impl_WastedBy.f k a b c d l = some (if runOk a b c d l = true then (hv b c d l a [] 0).2 else -1) := by
  unfold impl_WastedBy.f
  rw [harvI_at a b c d l hl k hk]
  simp only [Option.bind_some]
  by_cases n : runOk a b c d l = true
  · simp [n]
  · simp [n]
theorem enI_at (a b c d : Int) (l : List Int) (hl : l.length ≤ 1048576) (k : Nat) (hk : 510 < k) : impl_EnergiesOf.f k a b c d l = some (if runOk a b c d l = true then ((hv b c d l a [] 0).1, true) else ([], false)) := by
  unfold impl_EnergiesOf.f
  rw [harvI_at a b c d l hl k hk]
  simp only [Option.bind_some]
  by_cases n : runOk a b c d l = true
  · simp [n]
  · simp [n]
theorem drawStore_at (b : List Int) (hb : b.length ≤ 140737488351232) (k : Nat) (hk : b.length < k) :
    ∃ x y z u, spec_DrawStore.f k b = some (x, y, z, u) ∧ sOk x y z u = true ∧ u ≤ 3 := by
  unfold spec_DrawStore.f spec_l19Store.f
  obtain ⟨h, e⟩ := l01New_at b hb k hk
  simp only [e, Option.bind_some]
  obtain ⟨r1, i1, g1, e1, p1, q1, _, hi1⟩ := l01Below_ok b 0 h 400 (by omega) hb
  have := q1 (by omega)
  obtain ⟨r2, i2, g2, e2, p2, q2, _, hi2⟩ := l01Below_ok b i1 g1 4 hi1 hb
  have := q2 (by omega)
  simp only [e1, e2, Option.bind_some]
  rw [w64 (x := 20 + r1) (by omega) (by omega), w64 (x := 20 + r1 + 1) (by omega) (by omega)]
  obtain ⟨r3, i3, g3, e3, p3, q3, _, hi3⟩ := l01Below_ok b i2 g2 (20 + r1 + 1) hi2 hb
  have := q3 (by omega)
  obtain ⟨r4, i4, g4, e4, p4, q4, _, hi4⟩ := l01Below_ok b i3 g3 (20 + r1) hi3 hb
  have := q4 (by omega)
  simp only [e3, e4, Option.bind_some]
  rw [w64 (x := 1 + r4) (by omega) (by omega)]
  exact ⟨_, _, _, _, rfl, sOk_iff.2 ⟨by omega, by omega, by omega, by omega⟩, by omega⟩
theorem l19List_l (b : List Int) (hb : b.length ≤ 140737488351232) (n : Nat) : ∀ (k : Nat) (i p h : Int) (x : List Int), 0 ≤ p → 0 ≤ i → i + (n : Int) = 20 → (x.length : Int) = i → hOk x = true → n < k →
    ∃ r p' h', spec_l19List.l0 k x i b p h = some (r, p', h') ∧ r.length ≤ 20 ∧ hOk r = true := by
  induction n with
  | zero =>
    intro k i p h x hp h0 hi hx hh hk
    obtain ⟨k, rfl⟩ := succ_of hk
    simp only [spec_l19List.l0]
    obtain ⟨r, p', h', e, hr0, hr1, _, hp'⟩ := l01Below_ok b p h 20 hp hb
    have := hr1 (by omega)
    simp only [e, Option.bind_some]
    rw [if_neg (by omega)]
    exact ⟨_, _, _, rfl, by omega, hh⟩
  | succ n ih =>
    intro k i p h x hp h0 hi hx hh hk
    obtain ⟨k, rfl⟩ := succ_of hk
    simp only [spec_l19List.l0]
    obtain ⟨r, p', h', e, hr0, hr1, _, hp'⟩ := l01Below_ok b p h 20 hp hb
    simp only [e, Option.bind_some]
    by_cases c : i < r
    · rw [if_pos c]
      obtain ⟨q, p2, h2, e2, hq, hp2⟩ := l01PickInt_ok b p' h' [0, 3, 9, 30, 90] hp' hb (by simp)
      simp only [e2, Option.bind_some]
      rw [if_pos (by omega), w64 (by omega) (by omega)]
      refine ih k (i + 1) p2 h2 _ hp2 (by omega) (by omega) (by simp only [List.length_append, List.length_cons, List.length_nil]; omega) ?_ (by omega)
      rw [hOk_iff] at hh ⊢
      intro y hy
      rcases List.mem_append.1 hy with hy | hy
      · exact hh y hy
      · rw [List.mem_singleton] at hy
        subst hy
        simp only [List.mem_cons, List.not_mem_nil, or_false] at hq
        omega
    · rw [if_neg c]
      exact ⟨_, _, _, rfl, by omega, hh⟩
theorem drawHarvest_at (b : List Int) (hb : b.length ≤ 140737488351232) (k : Nat) (hk : b.length + 21 < k) :
    ∃ l, spec_DrawHarvest.f k b = some l ∧ l.length ≤ 20 ∧ hOk l = true := by
  unfold spec_DrawHarvest.f spec_l19List.f
  obtain ⟨h, e⟩ := l01New_at b hb k (by omega)
  obtain ⟨r, p', h', e2, h1, h2⟩ := l19List_l b hb 20 k 0 0 h [] (by omega) (by omega) (by omega) (by simp) (by simp [hOk]) (by omega)
  simp only [e, e2, Option.bind_some]
  exact ⟨_, rfl, h1, h2⟩
theorem big_eq (l : List Int) : laws_big.f l = some (decide ((l.length : Int) > 1048576)) := rfl
def sumL : List Int → Int
  | [] => 0
  | x :: t => x + sumL t
theorem sumL_app : ∀ (l m : List Int), sumL (l ++ m) = sumL l + sumL m
  | [], m => by simp [sumL]
  | x :: t, m => by
    rw [List.cons_append, sumL, sumL, sumL_app t m]
    omega
theorem sumOf_l (l : List Int) (hl : l.length ≤ 1000) (hr : ∀ x ∈ l, 0 ≤ x ∧ x ≤ 5000) (n : Nat) : ∀ (k : Nat) (s i : Int), 0 ≤ s → s + 5000 * (n : Int) ≤ 5000000 → 0 ≤ i → i + (n : Int) = (l.length : Int) → n < k →
    laws_sumOf.l0 k l s i = some (s + sumL (l.drop i.toNat)) := by
  induction n with
  | zero =>
    intro k s i hs hs1 h0 hi hk
    obtain ⟨k, rfl⟩ := succ_of hk
    simp only [laws_sumOf.l0]
    rw [if_neg (by omega), List.drop_eq_nil_of_le (by omega), sumL, Int.add_zero]
  | succ n ih =>
    intro k s i hs hs1 h0 hi hk
    obtain ⟨k, rfl⟩ := succ_of hk
    have hx := rd_all hr h0 (by omega)
    simp only [laws_sumOf.l0]
    rw [if_pos (by omega), if_pos h0, w64 (x := s + rd l i) (by omega) (by omega), w64 (x := i + 1) (by omega) (by omega), ih k _ (i + 1) (by omega) (by omega) (by omega) (by omega) (by omega), drop_rd h0 (by omega), sumL]
    congr 1
    omega
theorem sumOf_at (l : List Int) (hl : l.length ≤ 1000) (hr : ∀ x ∈ l, 0 ≤ x ∧ x ≤ 5000) (k : Nat) (hk : l.length < k) : laws_sumOf.f k l = some (sumL l) := by
  unfold laws_sumOf.f
  rw [sumOf_l l hl hr l.length k 0 0 (by omega) (by omega) (by omega) (by omega) hk]
  simp
theorem sumL_range : ∀ (l : List Int) (m : Int), (∀ x ∈ l, 0 ≤ x ∧ x ≤ m) → 0 ≤ m → 0 ≤ sumL l ∧ sumL l ≤ m * (l.length : Int)
  | [], m, h, hm => by simp [sumL]
  | x :: t, m, h, hm => by
    have h1 := h x (by simp)
    have h2 := sumL_range t m (fun y hy => h y (List.mem_cons_of_mem _ hy)) hm
    rw [sumL, List.length_cons]
    have e : m * ((t.length + 1 : Nat) : Int) = m * (t.length : Int) + m := by
      rw [Int.natCast_add, Int.mul_add]
      simp
    rw [e]
    omega
theorem hv_all (b c d : Int) : ∀ (l : List Int) (a : Int) (es : List Int) (w : Int), sOk a b c d = true → hOk l = true → (∀ x ∈ es, c ≤ x ∧ x ≤ b) → 0 ≤ w →
    (∀ x ∈ (hv b c d l a es w).1, c ≤ x ∧ x ≤ b) ∧ w ≤ (hv b c d l a es w).2 ∧ sumL (hv b c d l a es w).1 + (hv b c d l a es w).2 ≤ sumL es + w + a + sumL l ∧ (hv b c d l a es w).2 ≤ w + 6000 * (l.length : Int)
  | [], a, es, w, ok, hh, he, hw => by
    obtain ⟨hb, ha, hc, hd⟩ := sOk_iff.1 ok
    rw [hv]
    refine ⟨he, Int.le_refl _, ?_, by simp⟩
    rw [sumL]
    simp only
    omega
  | h :: t, a, es, w, ok, hh, he, hw => by
    have hx := hOk_iff.1 hh h (by simp)
    have ht : hOk t = true := hOk_iff.2 fun y hy => hOk_iff.1 hh y (List.mem_cons_of_mem _ hy)
    have hm := mx_waste ok hx.1 hx.2
    have ok2 := tickC_ok' ok hx.1 hx.2
    obtain ⟨hb, ha, hc, hd⟩ := sOk_iff.1 ok
    obtain ⟨_, ha2, _, _⟩ := sOk_iff.1 ok2
    have key : tickC a b d h + mx 0 (a + h - d - b) ≤ a + h := by
      unfold tickC mx
      split <;> split <;> (try split) <;> omega
    rw [hv.eq_2, sumL, List.length_cons]
    by_cases e : tickC a b d h ≥ c
    · rw [if_pos e]
      obtain ⟨p1, p2, p3, p4⟩ := hv_all b c d t 0 (es ++ [tickC a b d h]) (w + mx 0 (a + h - d - b)) (sOk_zero ok) ht (fun y hy => by
        rcases List.mem_append.1 hy with hy | hy
        · exact he y hy
        · rw [List.mem_singleton] at hy
          subst hy
          omega) (by omega)
      rw [sumL_app, sumL, sumL] at p3
      refine ⟨p1, by omega, by omega, by omega⟩
    · rw [if_neg e]
      obtain ⟨p1, p2, p3, p4⟩ := hv_all b c d t (tickC a b d h) es (w + mx 0 (a + h - d - b)) ok2 ht he (by omega)
      refine ⟨p1, by omega, by omega, by omega⟩
theorem boots_l (l es : List Int) (w a b c d : Int) (hl : es.length ≤ 1000) (hr : ∀ x ∈ es, c ≤ x ∧ x ≤ b) (n : Nat) : ∀ (k : Nat) (i : Int), 0 ≤ i → i + (n : Int) = (es.length : Int) → n < k →
    laws_FnBootEnergies.l0 k l es true w i a b c d = laws_FnBootEnergies.l0 (k - n) l es true w (es.length : Int) a b c d := by
  induction n with
  | zero =>
    intro k i h0 hi hk
    rw [show i = (es.length : Int) by omega]
    rfl
  | succ n ih =>
    intro k i h0 hi hk
    obtain ⟨k, rfl⟩ := succ_of hk
    have hx := rd_all hr h0 (by omega)
    rw [laws_FnBootEnergies.l0.eq_2, if_pos (by omega), if_pos h0, if_neg (by omega), if_neg (by omega), w64 (x := i + 1) (by omega) (by omega), ih k (i + 1) (by omega) (by omega) (by omega), Nat.add_sub_add_right]
theorem FnBootEnergies : laws_FnBootEnergies.Pure := by
  intro b _ _ _
  refine ⟨b.length + 1000, ?_⟩
  unfold laws_FnBootEnergies.f
  rw [big_eq]
  simp only [Option.bind_some, decide_eq_true_eq]
  by_cases hl : (b.length : Int) > 1048576
  · rw [if_pos hl]
  rw [if_neg hl]
  obtain ⟨x, y, z, u, es, ok, _⟩ := drawStore_at b (by omega) (b.length + 1000) (by omega)
  obtain ⟨l, el, l20, hh⟩ := drawHarvest_at b (by omega) (b.length + 1000) (by omega)
  have rk : runOk x y z u l = true := runOk_iff.2 ⟨ok, by omega, hh⟩
  simp only [es, el, Option.bind_some, enI_at x y z u l (by omega) (b.length + 1000) (by omega), wasteI_at x y z u l (by omega) (b.length + 1000) (by omega), rk, if_true]
  obtain ⟨p1, p2, p3, p4⟩ := hv_all y z u l x [] 0 ok hh (by simp) (by omega)
  have p5 := hv_len y z u l x [] 0
  obtain ⟨hb, ha, hc, hd⟩ := sOk_iff.1 ok
  simp only [List.length_nil] at p5
  generalize hv y z u l x [] 0 = r at *
  obtain ⟨E, w⟩ := r
  simp only at p1 p2 p3 p4 p5 ⊢
  rw [boots_l l E w x y z u (by omega) p1 E.length (b.length + 1000) 0 (by omega) (by omega) (by omega)]
  obtain ⟨k, ek⟩ := succ_of (by omega : 500 < b.length + 1000 - E.length)
  rw [ek, laws_FnBootEnergies.l0.eq_2, if_neg (by omega)]
  simp only [if_true]
  have q1 : ∀ t ∈ E, 0 ≤ t ∧ t ≤ 5000 := fun t ht => by have := p1 t ht; omega
  have q2 : ∀ t ∈ l, 0 ≤ t ∧ t ≤ 5000 := fun t ht => by have := hOk_iff.1 hh t ht; omega
  have r1 := sumL_range E 5000 q1 (by omega)
  have r2 := sumL_range l 5000 q2 (by omega)
  rw [if_pos (by omega), if_pos (by omega), sumOf_at E (by omega) q1 k (by omega), sumOf_at l (by omega) q2 k (by omega)]
  simp only [Option.bind_some, sumL] at p3 ⊢
  rw [w64 (x := sumL E + w) (by omega) (by omega), w64 (x := x + sumL l) (by omega) (by omega), decide_eq_true (by omega)]

end Go.Proofs.Ytlcgohhcoalahaa.Pure
