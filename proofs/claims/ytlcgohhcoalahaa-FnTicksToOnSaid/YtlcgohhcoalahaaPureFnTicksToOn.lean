/- The law FnTicksToOn: for every input the function answers true. No condition. -/
import Derived.Test.YtlcgohhcoalahaaGx20
namespace Go.Proofs.Ytlcgohhcoalahaa.Pure
open Go.RowKit Go.Proofs.Ytlcgohhcoalahaa.G Go.Proofs.YtlcgohhcoalahaaW.PrintWords Go.Proofs.YtlcgohhcoalahaaW.PrintLast

theorem w64 {x : Int} (h : -9223372036854775808 ≤ x) (h2 : x ≤ 9223372036854775807) : wrap64 x = x := by
  unfold wrap64
  omega
theorem wf_i64 {x : Int} (h : (Lit.int .i64 x).wf = true) : -9223372036854775808 ≤ x ∧ x ≤ 9223372036854775807 := by
  simp only [Lit.wf, IntKind.min, IntKind.max, IntKind.signed, IntKind.bits, Bool.and_eq_true, decide_eq_true_eq, if_true] at h
  omega
theorem succ_of {k d : Nat} (h : d < k) : ∃ m, k = m + 1 := ⟨k - 1, by omega⟩
theorem rd_eq {l : List Int} {i : Int} (h0 : 0 ≤ i) (h : i < (l.length : Int)) : l[i.toNat]? = some (rd l i) := by
  unfold rd
  rw [List.getD_eq_getElem?_getD, List.getElem?_eq_getElem (by omega)]
  rfl
theorem drop_rd {l : List Int} {i : Int} (h0 : 0 ≤ i) (h : i < (l.length : Int)) : l.drop i.toNat = rd l i :: l.drop (i + 1).toNat := by
  have h1 : i.toNat < l.length := by omega
  have h2 : (i + 1).toNat = i.toNat + 1 := by omega
  have h3 := rd_eq h0 h
  rw [h2, List.drop_eq_getElem_cons h1]
  rw [List.getElem?_eq_getElem h1] at h3
  rw [Option.some.inj h3]
/-- The numbers a, a + 1, .. : n of them. -/
def marks (a : Int) (n : Nat) : List Int := (List.range n).map fun j : Nat => a + (j : Int)
theorem marks_len (a : Int) (n : Nat) : (marks a n).length = n := by simp [marks]
theorem marks_get (a : Int) (n i : Nat) (h : i < n) : (marks a n)[i]? = some (a + (i : Int)) := by simp [marks, h]
theorem rd_all {P : Int → Prop} {l : List Int} (h : ∀ x ∈ l, P x) {i : Int} (h0 : 0 ≤ i) (h1 : i < (l.length : Int)) : P (rd l i) := h _ (List.mem_of_getElem? (rd_eq h0 h1))
theorem tmod_in {a n : Int} (ha : 0 ≤ a) (hn : 0 < n) : 0 ≤ Int.tmod a n ∧ Int.tmod a n < n := by
  rw [Int.tmod_eq_emod_of_nonneg ha]
  exact ⟨Int.emod_nonneg _ (by omega), Int.emod_lt_of_pos _ hn⟩
theorem within_eq (a b c : Int) : impl_within.f a b c = some (decide (b ≤ a ∧ a ≤ c)) := by
  unfold impl_within.f
  by_cases h : b ≤ a <;> simp [h]
theorem and_mask (x : Int) (m : Nat) (hm : m < 9223372036854775808) : 0 ≤ Go.bits .and .i64 x (m : Int) ∧ Go.bits .and .i64 x (m : Int) ≤ (m : Int) := by
  have hb : (BitVec.ofInt 64 (m : Int)).toNat = m := by
    rw [BitVec.ofInt_natCast, BitVec.toNat_ofNat]
    omega
  have h : ((BitVec.ofInt 64 x) &&& (BitVec.ofInt 64 (m : Int))).toNat ≤ m := by
    rw [BitVec.toNat_and, hb]
    exact Nat.and_le_right
  have e : Go.bits .and .i64 x (m : Int) = IntKind.i64.wrap (((BitVec.ofInt 64 x) &&& (BitVec.ofInt 64 (m : Int))).toNat : Int) := rfl
  rw [e, IntKind.wrap_i64]
  omega
theorem and255 (x : Int) : 0 ≤ Go.bits .and .i64 x 255 ∧ Go.bits .and .i64 x 255 ≤ 255 := and_mask x 255 (by omega)
theorem l01Byte_ok (b : List Int) (i h : Int) (h0 : 0 ≤ i) (hb : b.length ≤ 140737488351232) :
    ∃ r i' h', spec_l01Byte.f b i h = some (r, i', h') ∧ 0 ≤ r ∧ r ≤ 255 ∧ 0 ≤ i' := by
  unfold spec_l01Byte.f
  by_cases h1 : i < (b.length : Int)
  · rw [if_pos h1, if_pos h0, w64 (x := i + 1) (by omega) (by omega)]
    exact ⟨_, _, _, rfl, (and255 _).1, (and255 _).2, by omega⟩
  · rw [if_neg h1]
    exact ⟨_, _, _, rfl, (and255 _).1, (and255 _).2, h0⟩
theorem l01Below_ok (b : List Int) (i h n : Int) (h0 : 0 ≤ i) (hb : b.length ≤ 140737488351232) :
    ∃ r i' h', spec_l01Below.f b i h n = some (r, i', h') ∧ 0 ≤ r ∧ (0 < n → r < n) ∧ (n ≤ 0 → r = 0) ∧ 0 ≤ i' := by
  unfold spec_l01Below.f
  by_cases h1 : n ≤ 0
  · rw [if_pos h1]
    exact ⟨_, _, _, rfl, by omega, by omega, by omega, h0⟩
  rw [if_neg h1]
  by_cases h2 : n ≤ 256
  · obtain ⟨r, i', h', e, hr0, hr1, hi'⟩ := l01Byte_ok b i h h0 hb
    rw [if_pos h2, e]
    simp only [Option.bind_some]
    rw [if_neg (by omega)]
    have := tmod_in (a := r) (n := n) hr0 (by omega)
    exact ⟨_, _, _, rfl, this.1, fun _ => this.2, by omega, hi'⟩
  · rw [if_neg h2]
    obtain ⟨x, i1, g1, e1, hx0, hx1, hi1⟩ := l01Byte_ok b i h h0 hb
    obtain ⟨y, i2, g2, e2, hy0, hy1, hi2⟩ := l01Byte_ok b i1 g1 hi1 hb
    obtain ⟨z, i3, g3, e3, hz0, hz1, hi3⟩ := l01Byte_ok b i2 g2 hi2 hb
    obtain ⟨u, i4, g4, e4, hu0, hu1, hi4⟩ := l01Byte_ok b i3 g3 hi3 hb
    simp only [e1, e2, e3, e4, Option.bind_some]
    rw [if_neg (by omega)]
    rw [w64 (x := x * 16777216) (by omega) (by omega), w64 (x := y * 65536) (by omega) (by omega), w64 (x := z * 256) (by omega) (by omega), w64 (x := x * 16777216 + y * 65536) (by omega) (by omega), w64 (x := x * 16777216 + y * 65536 + z * 256) (by omega) (by omega), w64 (x := x * 16777216 + y * 65536 + z * 256 + u) (by omega) (by omega)]
    have := tmod_in (a := x * 16777216 + y * 65536 + z * 256 + u) (n := n) (by omega) (by omega)
    exact ⟨_, _, _, rfl, this.1, fun _ => this.2, by omega, hi4⟩
theorem l01New_l (b : List Int) (_hb : b.length ≤ 140737488351232) (d : Nat) : ∀ (k : Nat) (x i : Int), 0 ≤ i → i ≤ (b.length : Int) → i + (d : Int) = (b.length : Int) → d < k →
    ∃ h, spec_l01New.l0 k b x i = some (b, 0, h) := by
  induction d with
  | zero =>
    intro k x i h0 h1 hi hk
    obtain ⟨k, rfl⟩ := succ_of hk
    simp only [spec_l01New.l0]
    rw [if_neg (by omega)]
    exact ⟨_, rfl⟩
  | succ d ih =>
    intro k x i h0 h1 hi hk
    obtain ⟨k, rfl⟩ := succ_of hk
    simp only [spec_l01New.l0]
    rw [if_pos (by omega)]
    by_cases h2 : i < 4000
    · rw [if_pos h2, if_pos h0, w64 (x := i + 1) (by omega) (by omega)]
      exact ih k _ (i + 1) (by omega) (by omega) (by omega) (by omega)
    · rw [if_neg h2]
      exact ⟨_, rfl⟩
theorem l01New_at (b : List Int) (hb : b.length ≤ 140737488351232) (k : Nat) (hk : b.length < k) : ∃ h, spec_l01New.f k b = some (b, 0, h) := by
  unfold spec_l01New.f
  exact l01New_l b hb b.length k _ 0 (by omega) (by omega) (by omega) hk
theorem l01PickInt_ok (b : List Int) (i h : Int) (l : List Int) (h0 : 0 ≤ i) (hb : b.length ≤ 140737488351232) (hl : 0 < l.length) :
    ∃ r i' h', spec_l01PickInt.f b i h l = some (r, i', h') ∧ r ∈ l ∧ 0 ≤ i' := by
  unfold spec_l01PickInt.f
  obtain ⟨r, i', h', e, hr0, hr1, _, hi'⟩ := l01Below_ok b i h (l.length : Int) h0 hb
  have hr := hr1 (by omega)
  simp only [e, Option.bind_some]
  rw [if_pos hr0, if_pos hr]
  exact ⟨_, _, _, rfl, List.mem_of_getElem? (rd_eq hr0 hr), hi'⟩
/-- A store is valid. -/
def sOk (a b c d : Int) : Bool := decide (1 ≤ b ∧ b ≤ 5000) && (decide (0 ≤ a ∧ a ≤ b) && (decide (1 ≤ c ∧ c ≤ b) && decide (0 ≤ d ∧ d ≤ 100)))
theorem sOk_iff {a b c d : Int} : sOk a b c d = true ↔ (1 ≤ b ∧ b ≤ 5000) ∧ (0 ≤ a ∧ a ≤ b) ∧ (1 ≤ c ∧ c ≤ b) ∧ (0 ≤ d ∧ d ≤ 100) := by
  simp only [sOk, Bool.and_eq_true, decide_eq_true_eq]
theorem storeOkI_eq (a b c d : Int) : impl_StoreOk.f a b c d = some (sOk a b c d) := by
  unfold impl_StoreOk.f sOk
  simp only [within_eq, Option.bind_some]
  by_cases h1 : 1 ≤ b ∧ b ≤ 5000
  · by_cases h2 : 0 ≤ a ∧ a ≤ b
    · by_cases h3 : 1 ≤ c ∧ c ≤ b
      · simp [h1, h2, h3]
      · simp [h1, h2, h3]
    · simp [h1, h2]
  · simp [h1]
/-- The charge behind a tick. -/
def tickC (a b d h : Int) : Int := if a + h - d < 0 then 0 else if a + h - d > b then b else a + h - d
theorem tickI_eq {a b c d h : Int} (ok : sOk a b c d = true) (h0 : 0 ≤ h) (h1 : h ≤ 1000) : impl_Store_tick.f a b c d h = some (tickC a b d h, b, c, d) := by
  obtain ⟨hb, ha, hc, hd⟩ := sOk_iff.1 ok
  unfold impl_Store_tick.f impl_Clamp.f tickC mn mx
  rw [w64 (x := a + h) (by omega) (by omega), w64 (by omega) (by omega), if_neg (by omega)]
  simp only [Option.bind_some, Option.some.injEq, Prod.mk.injEq, and_true]
  by_cases e : a + h - d < 0
  · rw [if_pos e, if_pos e, if_neg (by omega)]
  · rw [if_neg e, if_neg e]
theorem isHarvest_eq (h : Int) : impl_isHarvest.f h = some (decide (0 ≤ h ∧ h ≤ 1000)) := by
  unfold impl_isHarvest.f
  rw [within_eq]
  rfl
/-- The charge behind ChargeTick. -/
def chargeC (a b c d h : Int) : Int := if sOk a b c d = true then (if 0 ≤ h ∧ h ≤ 1000 then tickC a b d h else a) else a
theorem chargeI_eq (a b c d h : Int) : impl_ChargeTick.f a b c d h = some (chargeC a b c d h, b, c, d) := by
  unfold impl_ChargeTick.f chargeC
  rw [storeOkI_eq]
  simp only [Option.bind_some, isHarvest_eq, decide_eq_true_eq]
  by_cases ok : sOk a b c d = true
  · rw [if_pos ok, if_pos ok]
    by_cases hh : 0 ≤ h ∧ h ≤ 1000
    · rw [if_pos hh, if_pos hh, tickI_eq ok hh.1 hh.2]
      rfl
    · rw [if_neg hh, if_neg hh]
  · rw [if_neg ok, if_neg ok]
/-- All are energies that a tick may bring. -/
def hOk (l : List Int) : Bool := l.all fun x => harvP x
theorem hOk_iff {l : List Int} : hOk l = true ↔ ∀ x ∈ l, 0 ≤ x ∧ x ≤ 1000 := by
  simp only [hOk, List.all_eq_true, harvP, decide_eq_true_eq]
theorem areHarvests_eq (l : List Int) : impl_areHarvests.f l = some (hOk l) := by
  unfold impl_areHarvests.f hOk
  rw [List.all_eq_not_any_not]
/-- After how many ticks the computer is switched on: i ticks have been, a is the charge. -/
def ttOn (b c d : Int) : List Int → Int → Int → Int
  | [], i, a => if a ≥ c then i else -1
  | h :: t, i, a => if a ≥ c then i else ttOn b c d t (i + 1) (tickC a b d h)
theorem tickC_ok {a b c d h : Int} (ok : sOk a b c d = true) (_h0 : 0 ≤ h) (_h1 : h ≤ 1000) : sOk (tickC a b d h) b c d = true := by
  obtain ⟨hb, ha, hc, hd⟩ := sOk_iff.1 ok
  refine sOk_iff.2 ⟨hb, ?_, hc, hd⟩
  unfold tickC
  split
  · omega
  · split <;> omega
theorem ttOn_range (b c d : Int) : ∀ (l : List Int) (i a : Int), ttOn b c d l i a = -1 ∨ (i ≤ ttOn b c d l i a ∧ ttOn b c d l i a ≤ i + (l.length : Int))
  | [], i, a => by
    unfold ttOn
    split
    · exact .inr ⟨by omega, by simp⟩
    · exact .inl rfl
  | h :: t, i, a => by
    unfold ttOn
    split
    · exact .inr ⟨by omega, by simp only [List.length_cons]; omega⟩
    · rcases ttOn_range b c d t (i + 1) (tickC a b d h) with e | e
      · exact .inl e
      · refine .inr ⟨by omega, ?_⟩
        simp only [List.length_cons]
        omega
theorem drop_nil_len {l : List Int} {i : Int} (h : i = (l.length : Int)) : l.drop i.toNat = [] := List.drop_eq_nil_of_le (by omega)
theorem ticksI_l (b c d : Int) (l : List Int) (hl : l.length ≤ 1048576) (hh : hOk l = true) (n : Nat) : ∀ (k : Nat) (i a : Int), sOk a b c d = true → 0 ≤ i → i + (n : Int) = (l.length : Int) → n < k →
    impl_TicksToOn.l0 k l l (l.length : Int) i a b c d = some (ttOn b c d (l.drop i.toNat) i a) := by
  induction n with
  | zero =>
    intro k i a ok h0 hi hk
    obtain ⟨k, rfl⟩ := succ_of hk
    simp only [impl_TicksToOn.l0]
    rw [if_neg (by omega), drop_nil_len (by omega)]
    unfold ttOn
    have e : i = (l.length : Int) := by omega
    rw [e]
    split <;> rfl
  | succ n ih =>
    intro k i a ok h0 hi hk
    obtain ⟨k, rfl⟩ := succ_of hk
    have hx := rd_all (hOk_iff.1 hh) h0 (by omega)
    simp only [impl_TicksToOn.l0]
    rw [if_pos (by omega), if_pos h0, if_pos (by omega), drop_rd h0 (by omega)]
    unfold ttOn
    by_cases e : a ≥ c
    · rw [if_pos e, if_pos e]
    · rw [if_neg e, if_neg e, tickI_eq ok hx.1 hx.2]
      simp only [Option.bind_some]
      rw [w64 (by omega) (by omega)]
      exact ih k (i + 1) _ (tickC_ok ok hx.1 hx.2) (by omega) (by omega) (by omega)
theorem ticksI_at (a b c d : Int) (l : List Int) (hl : l.length ≤ 1048576) (k : Nat) (hk : l.length + 1 < k) : impl_TicksToOn.f k a b c d l = some (if sOk a b c d = true ∧ hOk l = true then ttOn b c d l 0 a else -1) := by
  obtain ⟨k, rfl⟩ := succ_of hk
  unfold impl_TicksToOn.f
  rw [storeOkI_eq, areHarvests_eq]
  simp only [Option.bind_some, impl_TicksToOn.j0]
  by_cases ok : sOk a b c d = true
  · by_cases hh : hOk l = true
    · simp only [ok, hh, and_self, if_true, Bool.not_true, Bool.false_eq_true, if_false]
      rw [ticksI_l b c d l hl hh l.length k 0 a ok (by omega) (by omega) (by omega)]
      simp
    · simp [ok, hh]
  · simp [ok]
theorem drawStore_at (b : List Int) (hb : b.length ≤ 140737488351232) (k : Nat) (hk : b.length < k) :
    ∃ x y z u, spec_DrawStore.f k b = some (x, y, z, u) ∧ sOk x y z u = true ∧ u ≤ 3 := by
  unfold spec_DrawStore.f spec_l19Store.f
  obtain ⟨h, e⟩ := l01New_at b hb k hk
  simp only [e, Option.bind_some]
  obtain ⟨r1, i1, g1, e1, p1, q1, _, hi1⟩ := l01Below_ok b 0 h 400 (by omega) hb
  have := q1 (by omega)
  obtain ⟨r2, i2, g2, e2, p2, q2, _, hi2⟩ := l01Below_ok b i1 g1 4 hi1 hb
  have := q2 (by omega)
  simp only [e1, e2, Option.bind_some]
  rw [w64 (x := 20 + r1) (by omega) (by omega), w64 (x := 20 + r1 + 1) (by omega) (by omega)]
  obtain ⟨r3, i3, g3, e3, p3, q3, _, hi3⟩ := l01Below_ok b i2 g2 (20 + r1 + 1) hi2 hb
  have := q3 (by omega)
  obtain ⟨r4, i4, g4, e4, p4, q4, _, hi4⟩ := l01Below_ok b i3 g3 (20 + r1) hi3 hb
  have := q4 (by omega)
  simp only [e3, e4, Option.bind_some]
  rw [w64 (x := 1 + r4) (by omega) (by omega)]
  exact ⟨_, _, _, _, rfl, sOk_iff.2 ⟨by omega, by omega, by omega, by omega⟩, by omega⟩
theorem l19List_l (b : List Int) (hb : b.length ≤ 140737488351232) (n : Nat) : ∀ (k : Nat) (i p h : Int) (x : List Int), 0 ≤ p → 0 ≤ i → i + (n : Int) = 20 → (x.length : Int) = i → hOk x = true → n < k →
    ∃ r p' h', spec_l19List.l0 k x i b p h = some (r, p', h') ∧ r.length ≤ 20 ∧ hOk r = true := by
  induction n with
  | zero =>
    intro k i p h x hp h0 hi hx hh hk
    obtain ⟨k, rfl⟩ := succ_of hk
    simp only [spec_l19List.l0]
    obtain ⟨r, p', h', e, hr0, hr1, _, hp'⟩ := l01Below_ok b p h 20 hp hb
    have := hr1 (by omega)
    simp only [e, Option.bind_some]
    rw [if_neg (by omega)]
    exact ⟨_, _, _, rfl, by omega, hh⟩
  | succ n ih =>
    intro k i p h x hp h0 hi hx hh hk
    obtain ⟨k, rfl⟩ := succ_of hk
    simp only [spec_l19List.l0]
    obtain ⟨r, p', h', e, hr0, hr1, _, hp'⟩ := l01Below_ok b p h 20 hp hb
    simp only [e, Option.bind_some]
    by_cases c : i < r
    · rw [if_pos c]
      obtain ⟨q, p2, h2, e2, hq, hp2⟩ := l01PickInt_ok b p' h' [0, 3, 9, 30, 90] hp' hb (by simp)
      simp only [e2, Option.bind_some]
      rw [if_pos (by omega), w64 (by omega) (by omega)]
      refine ih k (i + 1) p2 h2 _ hp2 (by omega) (by omega) (by simp only [List.length_append, List.length_cons, List.length_nil]; omega) ?_ (by omega)
      rw [hOk_iff] at hh ⊢
      intro y hy
      rcases List.mem_append.1 hy with hy | hy
      · exact hh y hy
      · rw [List.mem_singleton] at hy
        subst hy
        simp only [List.mem_cons, List.not_mem_nil, or_false] at hq
        omega
    · rw [if_neg c]
      exact ⟨_, _, _, rfl, by omega, hh⟩
theorem drawHarvest_at (b : List Int) (hb : b.length ≤ 140737488351232) (k : Nat) (hk : b.length + 21 < k) :
    ∃ l, spec_DrawHarvest.f k b = some l ∧ l.length ≤ 20 ∧ hOk l = true := by
  unfold spec_DrawHarvest.f spec_l19List.f
  obtain ⟨h, e⟩ := l01New_at b hb k (by omega)
  obtain ⟨r, p', h', e2, h1, h2⟩ := l19List_l b hb 20 k 0 0 h [] (by omega) (by omega) (by omega) (by simp) (by simp [hOk]) (by omega)
  simp only [e, e2, Option.bind_some]
  exact ⟨_, rfl, h1, h2⟩
theorem big_eq (l : List Int) : laws_big.f l = some (decide ((l.length : Int) > 1048576)) := rfl
theorem chargeC_tick {a b c d h : Int} (ok : sOk a b c d = true) (h0 : 0 ≤ h) (h1 : h ≤ 1000) : chargeC a b c d h = tickC a b d h := by
  unfold chargeC
  rw [if_pos ok, if_pos ⟨h0, h1⟩]
theorem ticks_law (b c d : Int) (l : List Int) (hl : l.length ≤ 1048576) (hh : hOk l = true) (x : Int) (hx : x ≤ (l.length : Int)) (n : Nat) : ∀ (k : Nat) (i a : Int), sOk a b c d = true → 0 ≤ i → i + (n : Int) = (l.length : Int) → (x = ttOn b c d (l.drop i.toNat) i a ∨ (0 ≤ x ∧ x < i)) → 2 * n + 4 < k →
    laws_FnTicksToOn.l0 k l x i a b c d = some true := by
  induction n with
  | zero =>
    intro k i a ok h0 hi hv hk
    obtain ⟨k, rfl⟩ := succ_of (d := 3) (by omega : 3 < k)
    obtain ⟨k, rfl⟩ := succ_of (d := 2) (by omega : 2 < k)
    obtain ⟨k, rfl⟩ := succ_of (d := 1) (by omega : 1 < k)
    simp only [laws_FnTicksToOn.l0, laws_FnTicksToOn.j1]
    have e1 : ¬ (i + 1 ≤ (l.length : Int)) := by omega
    have e2 : ¬ (i < (l.length : Int)) := by omega
    rw [w64 (x := i + 1) (by omega) (by omega)]
    simp only [e1, e2, if_false, hx, decide_true]
    rw [if_pos (by omega)]
    rw [drop_nil_len (by omega)] at hv
    unfold ttOn at hv
    by_cases e : a ≥ c
    · rw [if_pos e] at hv
      rcases hv with rfl | ⟨g1, g2⟩
      · simp [e]
      · have n1 : ¬ (x < 0) := by omega
        have n2 : ¬ (i ≤ x) := by omega
        simp [n1, n2]
    · rw [if_neg e] at hv
      rcases hv with rfl | ⟨g1, g2⟩
      · have n1 : (-1 == i) = false := by simp; omega
        simp [e, n1]
      · have n1 : ¬ (x < 0) := by omega
        have n2 : ¬ (i ≤ x) := by omega
        simp [n1, n2]
  | succ n ih =>
    intro k i a ok h0 hi hv hk
    obtain ⟨k, rfl⟩ := succ_of (d := 3) (by omega : 3 < k)
    obtain ⟨k, rfl⟩ := succ_of (d := 2) (by omega : 2 < k)
    have hr := rd_all (hOk_iff.1 hh) h0 (by omega)
    simp only [laws_FnTicksToOn.l0, laws_FnTicksToOn.j1]
    have e2 : (i < (l.length : Int)) := by omega
    rw [w64 (x := i + 1) (by omega) (by omega)]
    simp only [e2, h0, if_true, chargeI_eq, chargeC_tick ok hr.1 hr.2, Option.bind_some]
    rw [if_pos (by omega)]
    rw [drop_rd h0 (by omega)] at hv
    unfold ttOn at hv
    have ok2 := tickC_ok ok hr.1 hr.2
    by_cases e : a ≥ c
    · rw [if_pos e] at hv
      have go := ih k (i + 1) _ ok2 (by omega) (by omega) (.inr (by omega : 0 ≤ x ∧ x < i + 1)) (by omega)
      rw [go]
      rcases hv with rfl | ⟨g1, g2⟩
      · simp [e]
      · have n1 : ¬ (x < 0) := by omega
        have n2 : ¬ (i ≤ x) := by omega
        simp [n1, n2]
    · rw [if_neg e] at hv
      rcases hv with hv | ⟨g1, g2⟩
      · have go := ih k (i + 1) _ ok2 (by omega) (by omega) (.inl hv) (by omega)
        rw [go]
        have n1 : (x == i) = false := by
          have := ttOn_range b c d (l.drop (i + 1).toNat) (i + 1) (tickC a b d (rd l i))
          simp
          omega
        simp [e, n1]
      · have go := ih k (i + 1) _ ok2 (by omega) (by omega) (.inr (by omega : 0 ≤ x ∧ x < i + 1)) (by omega)
        rw [go]
        have n1 : ¬ (x < 0) := by omega
        have n2 : ¬ (i ≤ x) := by omega
        simp [n1, n2]
theorem FnTicksToOn : laws_FnTicksToOn.Pure := by
  intro b _ _ _
  refine ⟨b.length + 100, ?_⟩
  unfold laws_FnTicksToOn.f
  rw [big_eq]
  simp only [Option.bind_some, decide_eq_true_eq]
  by_cases hl : (b.length : Int) > 1048576
  · rw [if_pos hl]
  rw [if_neg hl]
  obtain ⟨x, y, z, u, es, ok, _⟩ := drawStore_at b (by omega) (b.length + 100) (by omega)
  obtain ⟨l, el, l20, hh⟩ := drawHarvest_at b (by omega) (b.length + 100) (by omega)
  simp only [es, el, Option.bind_some, ticksI_at x y z u l (by omega) (b.length + 100) (by omega)]
  rw [if_pos ⟨ok, hh⟩]
  have hr := ttOn_range y z u l 0 x
  exact ticks_law y z u l (by omega) hh _ (by omega) l.length _ 0 x ok (by omega) (by omega) (.inl (by simp)) (by omega)

end Go.Proofs.Ytlcgohhcoalahaa.Pure
